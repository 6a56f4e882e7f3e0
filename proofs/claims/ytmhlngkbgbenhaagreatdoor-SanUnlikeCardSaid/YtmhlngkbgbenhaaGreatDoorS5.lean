/- Part 5 of the texts under the proof: an abstract interpreter,the summaries of functions,plain laws. -/
import Derived.Test.YtmhlngkbgbenhaaGreatDoorS4
import Derived.Shelf.SlicesE.Clone
import Derived.Shelf.SlicesQ.IndexFunc
import Derived.Sort.WalkB12
import Derived.Shelf.SlicesQ.Load
import Derived.Lib.SliceRun
import Derived.Lib.SlKept
import Derived.Lib.Hide
import Derived.Shelf.SlicesE.DeleteFunc
set_option linter.unusedSectionVars false
set_option linter.unusedVariables false
set_option linter.unusedSimpArgs false
set_option linter.unnecessarySimpa false
section
namespace Kz
open Go
set_option maxRecDepth 100000
theorem zY (a b:Mv):(a.aw==b.aw&&(a.to==b.to&&(a.aI==b.aI&&(a.aM==b.aM&&(a.bh==b.bh&&true)))))=decide (a=b):=by
  rw [Bool.eq_iff_iff]
  cases a; cases b
  simp
theorem Rq (l:List Mv) (b:Mv) (hl:l.length≤1000000):∃ r,gw l (l.length:Int) b 0=some r ∧
    match r with
    | .inl i=>0≤i∧i < l.length∧b ∈ l
    | .inr _=>b ∉ l:=by
  refine b7 (I:=fun x=>0≤x∧x≤(l.length:Int)∧b ∉ l.take x.toNat) (μ:=fun x=>((l.length:Int) - x).toNat) ?_ _ ⟨by simp,by simp,by simp⟩ (by simp; omega)
  rintro n ⟨h0,h1,h2⟩
  by_cases hc:n < l.length
  · have hlt:n.toNat < l.length:=by omega
    refine ⟨ay (fun _=>ar (by simp [h0]; exact hc) fun _=>rfl) fun _=>rfl,az (fun _ => ?_) fun h=>absurd h (by simpa using hc)⟩
    have he:bj BinOp.eql (b.aw==(l.getD n.toNat default).aw&&(b.to==(l.getD n.toNat default).to&&(b.aI==(l.getD n.toNat default).aI&&(b.aM==(l.getD n.toNat default).aM&&(b.bh==(l.getD n.toNat default).bh&&true)))))=decide (b=l.getD n.toNat default):=zY b _
    rw [he]
    refine az (fun h => ?_) fun h => ?_
    · have h:b=l.getD n.toNat default:=by simpa using h
      exact ⟨h0,hc,by rw [h]; exact cF hlt⟩
    · have h:¬ b=l.getD n.toNat default:=by simpa using h
      have hw:wr .i64 (n+1)=n+1:=cp (by omega) (by omega)
      rw [hw]
      refine ⟨⟨by omega,by omega,?_⟩,by dsimp only; omega⟩
      rw [show (n+1).toNat=n.toNat+1 by omega,List.take_succ_eq_append_getElem hlt]
      rw [List.getD_eq_getElem?_getD,List.getElem?_eq_getElem hlt] at h
      simp only [List.mem_append,List.mem_singleton,not_or]
      exact ⟨h2,h⟩
  · refine ⟨ay (fun h=>absurd h (by simpa using hc)) fun _=>rfl,az (fun h=>absurd h (by simpa using hc)) fun _ => ?_⟩
    show b ∉ l
    rw [List.take_of_length_le (by omega)] at h2
    exact h2
theorem t58 {l:List Mv} {b:Mv} (hl:l.length≤1000000):HJ l b=true:=by
  refine ar (bU (Rq l b hl)).1 fun _ => ?_
  refine ay (fun _=>rfl) fun _=>rfl
theorem t31 {l:List Mv} {b:Mv} (hl:l.length≤1000000):xD l b=true:=ar (t58 hl) fun _=>rfl
theorem pU {l:List Mv} {b:Mv} (hl:l.length≤1000000):A0 l b=decide (b ∈ l):=by
  have h:=(bU (Rq l b hl)).2
  unfold A0 SF
  revert h
  show (match (gw l (l.length:Int) b 0).getD default with | .inl i=>0≤i∧i < (l.length:Int)∧b ∈ l | .inr _=>b ∉ l)→decide ((bif iC ((gw l (l.length:Int) b 0).getD default) then gl ((gw l (l.length:Int) b 0).getD default) else -1) ≥ 0)=decide (b ∈ l)
  generalize (gw l (l.length:Int) b 0).getD default=r
  intro h
  cases r with
  | inl i =>
    have h':0≤i∧i < (l.length:Int)∧b ∈ l:=h
    have h3:=h'.2.2
    simp [iC,gl,h'.1,h3]
  | inr y =>
    have h':b ∉ l:=h
    simp [iC,h']
theorem t112 {p:Pos} (hv:0≤p.variant) (m:Mv):ri p m=true:=by
  have hl:=jD hv
  unfold ri
  refine ar (t181 p) fun _=>ay (fun _=>rfl) fun _=>ar (t158 hv) fun _=>ar (t31 (by omega)) fun _=>ay (fun _=>rfl) fun h=>ay (fun _=>rfl) fun _=>ar ?_ fun _=>rfl
  rw [pU (by omega)] at h
  have hm:m ∈ dD p:=by simpa using h
  obtain ⟨_,f,t,h1,h2,h3,_⟩:=jM hv hm
  rw [h3]
  simp
  omega
theorem t80 {p:Pos} (hv:0≤p.variant) (m:Mv):tR p m=true:=ar (t112 hv m) fun _=>rfl
theorem t205 {a:Int} (ha:0≤a):u0 a=true:=by
  unfold u0
  refine ay (fun _=>rfl) fun h => ?_
  have h:a < 9:=by simpa using h
  have:a=0∨a=1∨a=2∨a=3∨a=4∨a=5∨a=6∨a=7∨a=8:=by omega
  rcases this with rfl | rfl | rfl | rfl | rfl | rfl | rfl | rfl | rfl <;> rfl
theorem t125 {a:Int} (ha:0≤a):rY a=true:=by
  unfold rY
  refine ay (fun _=>rfl) fun h => ?_
  have h:a < 9:=by simpa using h
  have:a=0∨a=1∨a=2∨a=3∨a=4∨a=5∨a=6∨a=7∨a=8:=by omega
  rcases this with rfl | rfl | rfl | rfl | rfl | rfl | rfl | rfl | rfl <;> rfl
theorem oI {t:Int} (h0:0≤t) (h1:t≤1):cd t=56 * t:=by
  unfold cd
  rw [cp (n:=t) (by omega) (by omega),cp (by omega) (by omega)]
theorem MF (p1:Pos) (p2:List Int) (p3:Pos) (p4 p5:BitVec 64) (p6 p7 x:Int) (hx : -200≤x) (hx2:x≤201) (h6:p6≤200) (h7:p7≤200):(ko p1 p2 p3 p4 p5 p6 p7 x).isSome=true:=by
  refine (bU (Q:=fun _=>True) (b7 (I:=fun x => -200≤x∧x≤201) (μ:=fun x=>(201 - x).toNat) ?_ x ⟨hx,hx2⟩ (by omega))).1
  rintro n ⟨h0,h1⟩
  refine ⟨rfl,az (fun hc=>az (fun _=>trivial) fun _ => ?_) fun hc=>trivial⟩
  have hc:n≤if p7 > p6 then p7 else p6:=by simpa using hc
  have hn:n≤200:=by split at hc <;> omega
  rw [cp (n:=n+1) (by omega) (by omega)]
  exact ⟨⟨by omega,by omega⟩,by dsimp only; omega⟩
theorem Kb (p1:Pos) (p2:List Int) (p3:Pos) (p4 p5:BitVec 64) (p6 p7 p8 p9 x:Int) (hx : -200≤x) (hx2:x≤201) (h6:p8≤200) (h7:p9≤200):(kC p1 p2 p3 p4 p5 p6 p7 p8 p9 x).isSome=true:=by
  refine (bU (Q:=fun _=>True) (b7 (I:=fun x => -200≤x∧x≤201) (μ:=fun x=>(201 - x).toNat) ?_ x ⟨hx,hx2⟩ (by omega))).1
  rintro n ⟨h0,h1⟩
  refine ⟨rfl,az (fun hc=>az (fun _=>trivial) fun _ => ?_) fun hc=>trivial⟩
  have hc:n≤if p9 > p8 then p9 else p8:=by simpa using hc
  have hn:n≤200:=by split at hc <;> omega
  rw [cp (n:=n+1) (by omega) (by omega)]
  exact ⟨⟨by omega,by omega⟩,by dsimp only; omega⟩
theorem MM (p1:Pos) (p2:List Int) (p3:Pos) (p4 p5:BitVec 64) (p6 p7 p8 p9 p10 p11 x:Int) (hx : -200≤x) (hx2:x≤201) (h6:p10≤200) (h7:p11≤200):(ki p1 p2 p3 p4 p5 p6 p7 p8 p9 p10 p11 x).isSome=true:=by
  refine (bU (Q:=fun _=>True) (b7 (I:=fun x => -200≤x∧x≤201) (μ:=fun x=>(201 - x).toNat) ?_ x ⟨hx,hx2⟩ (by omega))).1
  rintro n ⟨h0,h1⟩
  refine ⟨?_,az (fun hc => ?_) fun hc=>trivial⟩
  · unfold vi
    repeat' (first | with_reducible rfl | with_reducible exact t196 _ | with_reducible exact t122 _ _ _ | refine ar ?_ (fun _ => ?_) | refine ay (fun _ => ?_) (fun _ => ?_))
  · have hc:n≤if p11 > p10 then p11 else p10:=by simpa using hc
    have hn:n≤200:=by split at hc <;> omega
    rw [cp (n:=n+1) (by omega) (by omega)]
    have go:vO (fun x:Int => -200≤x∧x≤201) (fun _:Int ⊕ (Int×Bool)=>True) (fun x=>(201 - x).toNat) (201 - n).toNat (.go (n+1)):=⟨⟨by omega,by omega⟩,by dsimp only; omega⟩
    exact az (fun _=>az (fun _=>go) fun _=>az (fun _=>trivial) fun _=>go) fun _=>az (fun _=>trivial) fun _=>go
theorem ku {l:List Int} {a b d:Int} (h:∀ x ∈ l,a≤x∧x≤b) (hd:a≤d∧d≤b) (i:Nat):a≤l.getD i d∧l.getD i d≤b:=by
  by_cases hi:i < l.length
  · exact h _ (cF hi)
  · rw [List.getD_eq_getElem?_getD,List.getElem?_eq_none (by omega)]
    exact hd
section
variable {p:Pos} (hp:aR p) (ht:p.aa≤1)
include hp ht
theorem zj {b c:Int}:0≤(cf p b c).1∧(cf p b c).1 < 64:=by
  have hr:=ku hp.r0 (d:=0) (by omega) (scale 2 p.aa+scale 1 c).toNat
  have h0:=hp.t0
  unfold cf
  rw [oI h0 ht]
  generalize p.ak.getD (scale 2 p.aa+scale 1 c).toNat 0=r at hr
  rw [cp (n:=r) (by omega) (by omega)]
  refine az (P:=fun x:Int×Bool=>0≤x.1∧x.1 < 64) (fun _=>by simp) fun h1=>az (P:=fun x:Int×Bool=>0≤x.1∧x.1 < 64) (fun _=>by simp) fun h2 => ?_
  have h1:0≤r:=by simpa using h1
  have h2:r≤7:=by simpa using h2
  rw [cp (n:=56 * p.aa+r) (by omega) (by omega)]
  have:0≤56 * p.aa+r∧56 * p.aa+r < 64:=by omega
  exact az (P:=fun x:Int×Bool=>0≤x.1∧x.1 < 64) (fun _=>az (P:=fun x:Int×Bool=>0≤x.1∧x.1 < 64) (fun _=>this) fun _=>this) fun _=>this
theorem t279 {b c:Int} (hc:c=0∨c=1):uI p b c=true:=by
  have hr:=ku hp.r0 (d:=0) (by omega) (scale 2 p.aa+scale 1 c).toNat
  have h0:=hp.t0
  unfold uI
  rw [oI h0 ht]
  generalize p.ak.getD (scale 2 p.aa+scale 1 c).toNat 0=r at hr
  rw [cp (n:=r) (by omega) (by omega)]
  refine ar (by simp; omega) fun _=>ar (by simp; omega) fun _=>ay (fun _=>rfl) fun h1=>ay (fun _=>rfl) fun h2=>ar ?_ fun _=>rfl
  have h1:0≤r:=by simpa using h1
  have h2:r≤7:=by simpa using h2
  rw [cp (n:=56 * p.aa+r) (by omega) (by omega)]
  simp
  omega
theorem t233 {b c:Int} (hb0:0≤b) (hb1:b < 64) (hc:c=0∨c=1):mE p b c=true:=by
  have h0:=hp.t0
  have hr:=zj hp ht (b:=b) (c:=c)
  have g0:0≤(List.take 2 (List.drop (c.toNat * 2) (li [6,5,2,3]))).getD 0 0∧(List.take 2 (List.drop (c.toNat * 2) (li [6,5,2,3]))).getD 0 0≤6:=by rcases hc with rfl | rfl <;> decide
  have g1:0≤(List.take 2 (List.drop (c.toNat * 2) (li [6,5,2,3]))).getD 1 0∧(List.take 2 (List.drop (c.toNat * 2) (li [6,5,2,3]))).getD 1 0≤6:=by rcases hc with rfl | rfl <;> decide
  unfold mE
  rw [oI h0 ht]
  generalize (List.take 2 (List.drop (c.toNat * 2) (li [6,5,2,3]))).getD 0 0=x0 at g0
  generalize (List.take 2 (List.drop (c.toNat * 2) (li [6,5,2,3]))).getD 1 0=x1 at g1
  have w0:wr .i64 (56 * p.aa+x0)=56 * p.aa+x0:=cp (by omega) (by omega)
  have w1:wr .i64 (56 * p.aa+x1)=56 * p.aa+x1:=cp (by omega) (by omega)
  rw [w0,w1]
  refine ar (t279 hp ht hc) fun _=>ay (fun _=>rfl) fun _=>ar (by rcases hc with rfl | rfl <;> decide) fun _=>ar (by simp; omega) fun _=>ar (by simp; omega) fun _=>ar (t234 _) fun _=>ar (t191 _ _ _) fun _ =>
    ar (MF _ _ _ _ _ _ _ _ ?_ ?_ ?_ ?_) fun _=>ay (fun _=>rfl) fun _=>ar (Kb _ _ _ _ _ _ _ _ _ _ ?_ ?_ ?_ ?_) fun _=>ay (fun _=>rfl) fun _=>ar (MM _ _ _ _ _ _ _ _ _ _ _ _ ?_ ?_ ?_ ?_) fun _=>ay (fun _=>rfl) fun _=>rfl
  all_goals (try split) <;> omega
omit ht in
theorem t159:vC p=true:=by
  unfold vC
  refine ay (fun _=>rfl) fun h => ?_
  have ht:p.aa≤1:=by simpa using h
  have hk:=oR p p.aa 6
  refine ar (t125 hp.v0) fun _=>ay (fun _=>rfl) fun _=>ar (t155 _ _ _) fun _=>ay (fun _=>rfl) fun hk0=>ay (fun _=>rfl) fun _ => ?_
  have hk0:0≤bL p p.aa 6:=by simpa using hk0
  have a1:mE p (bL p p.aa 6) 1=true:=t233 hp ht hk0 hk.2 (.inr rfl)
  have a0:mE p (bL p p.aa 6) 0=true:=t233 hp ht hk0 hk.2 (.inl rfl)
  repeat' (first | with_reducible rfl | with_reducible exact a1 | with_reducible exact a0 | refine ar ?_ (fun _ => ?_) | refine ay (fun _ => ?_) (fun _ => ?_) | decide)
end
section
variable {p:Pos} (hp:aR p)
include hp
theorem jR (ht:p.aa≤1) {b c:Int} (hb0:0≤b) (hb1:b < 64):(eL p b c).2=true→(eL p b c).1.aw=b∧0≤(eL p b c).1.to∧(eL p b c).1.to < 64∧(eL p b c).1.bh=true∧(eL p b c).1.aM=0∧(eL p b c).1.aI=0∧(eL p b c).1.to=(cf p b c).1∧(cf p b c).2=true:=by
  have hr:=zj hp ht (b:=b) (c:=c)
  have wb:wr .i8 b=b:=Qz (by omega) (by omega)
  have wr':wr .i8 (cf p b c).1=(cf p b c).1:=Qz (by omega) (by omega)
  have ci:=fun {d:Bool} {x y:Mv×Bool} => @az (Mv×Bool) (fun x=>x.2=true→x.1.aw=b∧0≤x.1.to∧x.1.to < 64∧x.1.bh=true∧x.1.aM=0∧x.1.aI=0∧x.1.to=(cf p b c).1∧(cf p b c).2=true) d x y
  show (fun x:Mv×Bool=>x.2=true→x.1.aw=b∧0≤x.1.to∧x.1.to < 64∧x.1.bh=true∧x.1.aM=0∧x.1.aI=0∧x.1.to=(cf p b c).1∧(cf p b c).2=true) (eL p b c)
  unfold eL
  rw [wb,wr']
  refine ci (fun _ h=>by cases h) fun h1=>ci (fun _ h=>by cases h) fun _=>ci (fun _ h=>by cases h) fun _=>ci (fun _ h=>by cases h) fun _ _ => ?_
  exact ⟨rfl,hr.1,hr.2,rfl,rfl,rfl,rfl,by simpa using h1⟩
theorem va:(fG p).length≤2:=by
  unfold fG
  repeat' (first | exact Nat.zero_le _ | (simp; done) | refine az (P:=fun l:List Mv=>l.length≤2) (fun _ => ?_) (fun _ => ?_))
theorem ik {m:Mv} (h:m ∈ fG p):p.aa≤1∧0≤m.aw∧m.aw < 64∧0≤m.to∧m.to < 64∧m.bh=true∧m.aM=0∧m.aI=0:=by
  revert h
  unfold fG
  have hk:=oR p p.aa 6
  refine az (P:=fun l:List Mv=>m ∈ l→_) (fun _ h=>by cases h) fun h => ?_
  have ht:p.aa≤1:=by simpa using h
  refine az (P:=fun l:List Mv=>m ∈ l→_) (fun _ h=>by cases h) fun _=>az (P:=fun l:List Mv=>m ∈ l→_) (fun _ h=>by cases h) fun hk0=>az (P:=fun l:List Mv=>m ∈ l→_) (fun _ h=>by cases h) fun _ => ?_
  have hk0:0≤bL p p.aa 6:=by simpa using hk0
  have key:∀ c,(eL p (bL p p.aa 6) c).2=true→m=(eL p (bL p p.aa 6) c).1→p.aa≤1∧0≤m.aw∧m.aw < 64∧0≤m.to∧m.to < 64∧m.bh=true∧m.aM=0∧m.aI=0:=by
    intro c h1 h2
    obtain ⟨a1,a2,a3,a4,a5,a6,_⟩:=jR hp ht hk0 hk.2 h1
    rw [h2]
    exact ⟨ht,by omega,by omega,a2,a3,a4,a5,a6⟩
  refine az (P:=fun l:List Mv=>m ∈ l→_) (fun h1=>az (P:=fun l:List Mv=>m ∈ l→_) (fun h2 h => ?_) fun _ h => ?_) fun _=>az (P:=fun l:List Mv=>m ∈ l→_) (fun h2 h => ?_) fun _ h=>by cases h
  · simp only [List.nil_append,List.mem_append,List.mem_singleton] at h
    rcases h with h | h
    · exact key _ h1 h
    · exact key _ h2 h
  · simp only [List.nil_append,List.mem_singleton] at h
    exact key _ h1 h
  · simp only [List.nil_append,List.mem_singleton] at h
    exact key _ h2 h
end
theorem EM (k p2:Int) (l:List Int) (p5:Pos) (p6:Nat) (out:List Mv) (hl:l.length≤64) (hin:∀ s ∈ l,0≤s∧s < 64) (ho:out.length≤1000000) :
    ∃ r,iY k p2 l (Int.ofNat l.length) p5 p6 (out,0)=some r∧r.1=out++l.flatMap fun s=>[⟨s,s,0,k,false⟩]:=by
  refine b7 (I:=fun x=>0≤x.2∧x.2≤(l.length:Int)∧x.1=out++(l.take x.2.toNat).flatMap (fun s=>[⟨s,s,0,k,false⟩])) (μ:=fun x=>((l.length:Int) - x.2).toNat) ?_ _ ⟨by simp,by simp,by simp⟩ (by simp; omega)
  rintro ⟨o,n⟩ ⟨h0,h1,h2⟩
  simp only at h0 h1 h2
  have hlen:o.length≤out.length+64:=by
    have:=gI (l.take n.toNat) (fun s=>[(⟨s,s,0,k,false⟩:Mv)]) 1 fun _ _=>by simp
    have h5:(l.take n.toNat).length≤64:=by rw [List.length_take]; omega
    rw [h2,List.length_append]
    omega
  by_cases hc:n < l.length
  · have hf:=hin _ (cF (d:=default) (show n.toNat < l.length by omega))
    refine ⟨ay (fun _=>ar (by simp [h0]; omega) fun _=>ar (by simp; omega) fun _=>rfl) fun _=>rfl,az (fun _ => ?_) fun h=>absurd h (by simpa using hc)⟩
    have hw:wr .i64 (n+1)=n+1:=cp (by omega) (by omega)
    rw [hw,Qz (n:=l.getD n.toNat default) (by omega) (by omega)]
    refine ⟨⟨by simp; omega,by simp; omega,?_⟩,by simp; omega⟩
    simp only
    rw [show (n+1).toNat=n.toNat+1 by omega,iw default _ (by omega),h2,List.append_assoc]
  · refine ⟨ay (fun h=>absurd h (by simpa using hc)) fun _=>rfl,az (fun h=>absurd h (by simpa using hc)) fun _ => ?_⟩
    show o=_
    rw [h2,List.take_of_length_le (by omega)]
noncomputable def ew (p:Pos) (k:Int):List Mv :=
  bif p.af.getD (scale 6 p.aa+scale 1 k).toNat 0==0 then [] else bif k==1 then (hU (~~~cg p&&&72057594037927680#64) 64).flatMap fun s=>[⟨s,s,0,k,false⟩] else (hU (~~~cg p) 64).flatMap fun s=>[⟨s,s,0,k,false⟩]
theorem rh (p:Pos) (k:Int):(ew p k).length≤64:=by
  unfold ew
  refine az (P:=fun l:List Mv=>l.length≤64) (fun _=>by simp) fun _=>az (P:=fun l:List Mv=>l.length≤64) (fun _ => ?_) fun _ => ?_
  · have:=fq (~~~cg p&&&72057594037927680#64) 64
    have h2:=gI (hU (~~~cg p&&&72057594037927680#64) 64) (fun s=>[(⟨s,s,0,k,false⟩:Mv)]) 1 fun _ _=>by simp
    omega
  · have:=fq (~~~cg p) 64
    have h2:=gI (hU (~~~cg p) 64) (fun s=>[(⟨s,s,0,k,false⟩:Mv)]) 1 fun _ _=>by simp
    omega
theorem Cz {p:Pos} (h0:0≤p.aa) (h1:p.aa≤1):∃ r,lx p 0 ([],0)=some r∧r.1=[1,2,3,4,5].flatMap (ew p):=by
  refine b7 (I:=fun x=>0≤x.2∧x.2≤5∧x.1=(([1,2,3,4,5]:List Int).take x.2.toNat).flatMap (ew p)∧(x.1.length:Int)≤64 * x.2) (μ:=fun x=>(5 - x.2).toNat) ?_ _ ⟨by simp,by simp,by simp,by simp⟩ (by simp)
  rintro ⟨o,n⟩ ⟨g0,g1,g2,g3⟩
  simp only at g0 g1 g2 g3
  by_cases hc:n < 5
  · have hw:wr .i64 (n+1)=n+1:=cp (by omega) (by omega)
    have hw8:wr .u8 (n+1)=n+1:=MX (by omega) (by omega)
    have s1:=fq (~~~cg p&&&72057594037927680#64) 64
    have s2:=fq (~~~cg p) 64
    have d1:=bU (EM (n+1) n (hU (~~~cg p&&&72057594037927680#64) 64) p 0 o s1 (fun _ h=>ng h) (by omega))
    have d2:=bU (EM (n+1) n (hU (~~~cg p) 64) p 0 o s2 (fun _ h=>ng h) (by omega))
    have e:([1,2,3,4,5]:List Int).getD n.toNat 0=n+1:=by
      have:n=0∨n=1∨n=2∨n=3∨n=4:=by omega
      rcases this with rfl | rfl | rfl | rfl | rfl <;> rfl
    have hs:vO (fun x:List Mv×Int=>0≤x.2∧x.2≤5∧x.1=(([1,2,3,4,5]:List Int).take x.2.toNat).flatMap (ew p)∧x.1.length≤64 * x.2) (fun r:List Mv×Int×Bool=>r.1=[1,2,3,4,5].flatMap (ew p)) (fun x=>(5 - x.2).toNat) (5 - n).toNat (.go (o++ew p (n+1),n+1)):=by
      have hq:=rh p (n+1)
      refine ⟨⟨by simp; omega,by simp; omega,?_,?_⟩,by simp; omega⟩
      · simp only
        rw [show (n+1).toNat=n.toNat+1 by omega,iw 0 _ (by simp; omega),g2,e]
      · simp only [List.length_append]
        omega
    refine ⟨ay (fun _ => ?_) fun _=>rfl,az (fun _ => ?_) fun h=>absurd h (by simpa using hc)⟩
    · rw [hw,hw8,fo,fo]
      refine ar (by simp; omega) fun _=>ar (by simp; omega) fun _=>ay (fun _=>rfl) fun _=>ar (t234 _) fun _=>ay (fun _=>ar (t187 _) fun _=>ar d1.1 fun _=>rfl) fun _=>ar (t187 _) fun _=>ar d2.1 fun _=>rfl
    · rw [hw,hw8,fo,fo]
      refine az (fun h => ?_) fun h=>az (fun h' => ?_) fun h' => ?_
      · have e:ew p (n+1)=[]:=by unfold ew; rw [h]; rfl
        rw [e,List.append_nil] at hs; exact hs
      · have e:ew p (n+1)=(hU (~~~cg p&&&72057594037927680#64) 64).flatMap fun s=>[⟨s,s,0,n+1,false⟩]:=by unfold ew; rw [h,h']; rfl
        rw [e] at hs; rw [d1.2]; exact hs
      · have e:ew p (n+1)=(hU (~~~cg p) 64).flatMap fun s=>[⟨s,s,0,n+1,false⟩]:=by unfold ew; rw [h,h']; rfl
        rw [e] at hs; rw [d2.2]; exact hs
  · refine ⟨ay (fun h=>absurd h (by simpa using hc)) fun _=>rfl,az (fun h=>absurd h (by simpa using hc)) fun _ => ?_⟩
    have:n=5:=by omega
    subst this
    exact g2
theorem t160 {p:Pos} (hv:0≤p.variant) (h0:0≤p.aa):wj p=true:=by
  unfold wj
  refine ay (fun _=>rfl) fun h=>ar (t205 hv) fun _=>ay (fun _=>rfl) fun _=>ar ?_ fun _=>rfl
  exact (bU (Cz h0 (by simpa using h))).1
theorem ua {p:Pos} (h0:0≤p.aa):mg p=bif decide (p.aa > 1) then [] else bif !wF p.variant then [] else [1,2,3,4,5].flatMap (ew p):=by
  unfold mg
  by_cases h:p.aa≤1
  · rw [(bU (Cz h0 h)).2]
  · rw [show decide (p.aa > 1)=true by simp; omega]; rfl
theorem uS {p:Pos} (h0:0≤p.aa):(mg p).length≤320:=by
  rw [ua h0]
  refine az (P:=fun l:List Mv=>l.length≤320) (fun _=>by simp) fun _=>az (P:=fun l:List Mv=>l.length≤320) (fun _=>by simp) fun _ => ?_
  have:=gI [1,2,3,4,5] (ew p) 64 fun k _=>rh p k
  simpa using this
theorem mb {p:Pos} (h0:0≤p.aa) {m:Mv} (h:m ∈ mg p):p.aa≤1∧wF p.variant=true∧m.aw=m.to∧0≤m.to∧m.to < 64∧m.bh=false∧1≤m.aM∧m.aM≤5∧m.aI=0:=by
  rw [ua h0] at h
  revert h
  refine az (P:=fun l:List Mv=>m ∈ l→_) (fun _ h=>by cases h) fun h1=>az (P:=fun l:List Mv=>m ∈ l→_) (fun _ h=>by cases h) fun h2 h => ?_
  obtain ⟨k,hk,hm⟩:=List.mem_flatMap.1 h
  have hk':1≤k∧k≤5:=by simp at hk; omega
  have key:∀ b:BitVec 64,m ∈ (hU b 64).flatMap (fun s=>[(⟨s,s,0,k,false⟩:Mv)])→m.aw=m.to∧0≤m.to∧m.to < 64∧m.bh=false∧1≤m.aM∧m.aM≤5∧m.aI=0:=by
    intro b hb
    obtain ⟨s,hs,hm⟩:=List.mem_flatMap.1 hb
    have:=ng hs
    rw [List.mem_singleton.1 hm]
    exact ⟨rfl,this.1,this.2,rfl,hk'.1,hk'.2,rfl⟩
  refine ⟨by simpa using h1,by simpa using h2,?_⟩
  revert hm
  unfold ew
  exact az (P:=fun l:List Mv=>m ∈ l→_) (fun _ h=>by cases h) fun _=>az (P:=fun l:List Mv=>m ∈ l→_) (fun _=>key _) fun _=>key _
theorem pL (p:Pos):dO p=dD p++fG p++mg p:=by unfold dO; rw [List.nil_append]
theorem uE {p:Pos} (hp:aR p):(dO p).length≤20802:=by
  have a:=jD hp.v0
  have b:=va hp
  have c:=uS hp.t0
  rw [pL,List.length_append,List.length_append]
  omega
theorem t76 {p:Pos} (hp:aR p):wm p=true:=by
  have a:=jD hp.v0
  have b:=va hp
  have c:=uS hp.t0
  unfold wm
  rw [cp (n:=0+Int.ofNat (dD p).length) (by first | omega | (simp; done) | (simp; omega)) (by first | omega | (simp; done) | (simp; omega))]
  rw [cp (n:=0+Int.ofNat (dD p).length+Int.ofNat (fG p).length) (by first | omega | (simp; done) | (simp; omega)) (by first | omega | (simp; done) | (simp; omega))]
  rw [cp (n:=0+Int.ofNat (dD p).length+Int.ofNat (fG p).length+Int.ofNat (mg p).length) (by first | omega | (simp; done) | (simp; omega)) (by first | omega | (simp; done) | (simp; omega))]
  refine ar (t158 hp.v0) fun _=>ar (t159 hp) fun _=>ar (t160 hp.v0 hp.t0) fun _ => ?_
  simp
  omega
end Kz
end
section
namespace Kz
open Go Go.RowKit Go.Proofs
set_option maxRecDepth 100000
set_option maxHeartbeats 4000000
noncomputable def YI:List (Nat×Nat×List (Nat×List Nat)):=[(243,51,[(0,(2::3::12::13::14::(rn 17 5 [42,43]))),(1,[2,3,22,42,43]),(2,[4]),(3,[2,3,27,28,29,42,43]),(4,(2::3::(rn 27 4 [42,43]))),(5,[2,3,6,27,28,29,42,43]),(6,[2,3,7,27,28,29,42,43]),(7,[2,3,27,28,29,42,43,44]),(8,[4]),(9,[2,3,27,28,29,42,43]),(10,[50]),(11,[4]),(12,[4])])]
noncomputable def Tt:aC:=au Pz (fun f i=>bI f i YI) [(232,uF)] [] []
theorem PN:bD Tt:=ao al ⟨vh,trivial⟩ trivial trivial
noncomputable def hQ (a:Pos) (b:Mv):Int:=(bif decide (a.aa > 1) then (-1) else (bif !b.bh then (-1) else (bif b.aw==b.to then (-1) else (bif decide (wr .i64 (wr .i64 b.aw - cd a.aa) < 0) then (-1) else (bif decide (wr .i64 (wr .i64 b.aw - cd a.aa) > 7) then (-1) else (bif decide (wr .i64 (wr .i64 b.to - cd a.aa) < 0) then (-1) else (bif decide (wr .i64 (wr .i64 b.to - cd a.aa) > 7) then (-1) else (bif decide (b.to > b.aw) then (0) else (1)))))))))
noncomputable def Pm (a:Pos) (b:Mv):Bool:=true
theorem W7 (a:Pos) (b:Mv) (h:Pm a b=true):PS Pz 243 [Pos.av a,Mv.av b] ((dI .i64).res (hQ a b)):=aA (n:=14) PN (by kernel_rfl) (by kernel_rfl) (by kernel_rfl) h
noncomputable def NY:List AV→Tr AV:=g2 bH iE (fun a b=>.ret ((dI .i64).res (hQ a b)))
theorem W1:Sound Pz 243 NY:=bB fun a b=>cW (W7 a b rfl)
noncomputable def Zg:List (Nat×Nat×List (Nat×List Nat)):=[(183,29,[(0,[2,3]),(1,[2,7]),(2,[2,7,13]),(3,[4,5,6]),(4,[2,8]),(5,[4,5,6])]),(244,4,[(0,[0]),(1,[0])])]
noncomputable def UL:aC:=au Pz (fun f i=>bI f i Zg) [(232,uF),(243,NY)] [] []
theorem NR:bD UL:=ao al ⟨vh,W1,trivial⟩ trivial trivial
noncomputable def jl (a:Pos) (b:Mv):(Int×Int×Bool):=(bif decide (hQ (Pos.mk a.variant a.ag a.ab a.af a.aa a.ak a.ah a.ai a.half a.full) (Mv.mk b.aw b.to b.aI b.aM b.bh) < 0) then ((0),(0),(false)) else ((wr .i64 (cd a.aa+(if 2=2 then List.take 2 (List.drop ((hQ (Pos.mk a.variant a.ag a.ab a.af a.aa a.ak a.ah a.ai a.half a.full) (Mv.mk b.aw b.to b.aI b.aM b.bh)).toNat * 2) (if 4=4 then if 2=4 then ((List.replicate 2 0).set 0 2).set 1 3 else List.take 2 (if 2=4 then ((List.replicate 2 0).set 0 6).set 1 5 else List.take 0 (List.replicate 4 0)++((List.replicate 2 0).set 0 6).set 1 5++List.drop 2 (List.replicate 4 0))++((List.replicate 2 0).set 0 2).set 1 3++List.drop 4 (if 2=4 then ((List.replicate 2 0).set 0 6).set 1 5 else List.take 0 (List.replicate 4 0)++((List.replicate 2 0).set 0 6).set 1 5++List.drop 2 (List.replicate 4 0)) else (List.take 0 (List.replicate 4 0)++if 2=4 then ((List.replicate 2 0).set 0 2).set 1 3 else List.take 2 (if 2=4 then ((List.replicate 2 0).set 0 6).set 1 5 else List.take 0 (List.replicate 4 0)++((List.replicate 2 0).set 0 6).set 1 5++List.drop 2 (List.replicate 4 0))++((List.replicate 2 0).set 0 2).set 1 3++List.drop 4 (if 2=4 then ((List.replicate 2 0).set 0 6).set 1 5 else List.take 0 (List.replicate 4 0)++((List.replicate 2 0).set 0 6).set 1 5++List.drop 2 (List.replicate 4 0)))++List.drop 4 (List.replicate 4 0))) else List.take 0 (List.replicate 2 0)++List.take 2 (List.drop ((hQ (Pos.mk a.variant a.ag a.ab a.af a.aa a.ak a.ah a.ai a.half a.full) (Mv.mk b.aw b.to b.aI b.aM b.bh)).toNat * 2) (if 4=4 then if 2=4 then ((List.replicate 2 0).set 0 2).set 1 3 else List.take 2 (if 2=4 then ((List.replicate 2 0).set 0 6).set 1 5 else List.take 0 (List.replicate 4 0)++((List.replicate 2 0).set 0 6).set 1 5++List.drop 2 (List.replicate 4 0))++((List.replicate 2 0).set 0 2).set 1 3++List.drop 4 (if 2=4 then ((List.replicate 2 0).set 0 6).set 1 5 else List.take 0 (List.replicate 4 0)++((List.replicate 2 0).set 0 6).set 1 5++List.drop 2 (List.replicate 4 0)) else (List.take 0 (List.replicate 4 0)++if 2=4 then ((List.replicate 2 0).set 0 2).set 1 3 else List.take 2 (if 2=4 then ((List.replicate 2 0).set 0 6).set 1 5 else List.take 0 (List.replicate 4 0)++((List.replicate 2 0).set 0 6).set 1 5++List.drop 2 (List.replicate 4 0))++((List.replicate 2 0).set 0 2).set 1 3++List.drop 4 (if 2=4 then ((List.replicate 2 0).set 0 6).set 1 5 else List.take 0 (List.replicate 4 0)++((List.replicate 2 0).set 0 6).set 1 5++List.drop 2 (List.replicate 4 0)))++List.drop 4 (List.replicate 4 0)))++List.drop 2 (List.replicate 2 0)).getD 0 0)),(wr .i64 (cd a.aa+(if 2=2 then List.take 2 (List.drop ((hQ (Pos.mk a.variant a.ag a.ab a.af a.aa a.ak a.ah a.ai a.half a.full) (Mv.mk b.aw b.to b.aI b.aM b.bh)).toNat * 2) (if 4=4 then if 2=4 then ((List.replicate 2 0).set 0 2).set 1 3 else List.take 2 (if 2=4 then ((List.replicate 2 0).set 0 6).set 1 5 else List.take 0 (List.replicate 4 0)++((List.replicate 2 0).set 0 6).set 1 5++List.drop 2 (List.replicate 4 0))++((List.replicate 2 0).set 0 2).set 1 3++List.drop 4 (if 2=4 then ((List.replicate 2 0).set 0 6).set 1 5 else List.take 0 (List.replicate 4 0)++((List.replicate 2 0).set 0 6).set 1 5++List.drop 2 (List.replicate 4 0)) else (List.take 0 (List.replicate 4 0)++if 2=4 then ((List.replicate 2 0).set 0 2).set 1 3 else List.take 2 (if 2=4 then ((List.replicate 2 0).set 0 6).set 1 5 else List.take 0 (List.replicate 4 0)++((List.replicate 2 0).set 0 6).set 1 5++List.drop 2 (List.replicate 4 0))++((List.replicate 2 0).set 0 2).set 1 3++List.drop 4 (if 2=4 then ((List.replicate 2 0).set 0 6).set 1 5 else List.take 0 (List.replicate 4 0)++((List.replicate 2 0).set 0 6).set 1 5++List.drop 2 (List.replicate 4 0)))++List.drop 4 (List.replicate 4 0))) else List.take 0 (List.replicate 2 0)++List.take 2 (List.drop ((hQ (Pos.mk a.variant a.ag a.ab a.af a.aa a.ak a.ah a.ai a.half a.full) (Mv.mk b.aw b.to b.aI b.aM b.bh)).toNat * 2) (if 4=4 then if 2=4 then ((List.replicate 2 0).set 0 2).set 1 3 else List.take 2 (if 2=4 then ((List.replicate 2 0).set 0 6).set 1 5 else List.take 0 (List.replicate 4 0)++((List.replicate 2 0).set 0 6).set 1 5++List.drop 2 (List.replicate 4 0))++((List.replicate 2 0).set 0 2).set 1 3++List.drop 4 (if 2=4 then ((List.replicate 2 0).set 0 6).set 1 5 else List.take 0 (List.replicate 4 0)++((List.replicate 2 0).set 0 6).set 1 5++List.drop 2 (List.replicate 4 0)) else (List.take 0 (List.replicate 4 0)++if 2=4 then ((List.replicate 2 0).set 0 2).set 1 3 else List.take 2 (if 2=4 then ((List.replicate 2 0).set 0 6).set 1 5 else List.take 0 (List.replicate 4 0)++((List.replicate 2 0).set 0 6).set 1 5++List.drop 2 (List.replicate 4 0))++((List.replicate 2 0).set 0 2).set 1 3++List.drop 4 (if 2=4 then ((List.replicate 2 0).set 0 6).set 1 5 else List.take 0 (List.replicate 4 0)++((List.replicate 2 0).set 0 6).set 1 5++List.drop 2 (List.replicate 4 0)))++List.drop 4 (List.replicate 4 0)))++List.drop 2 (List.replicate 2 0)).getD 1 0)),(true)))
noncomputable def rW (a:Pos) (b:Mv):Bool:=(bif decide (hQ (Pos.mk a.variant a.ag a.ab a.af a.aa a.ak a.ah a.ai a.half a.full) (Mv.mk b.aw b.to b.aI b.aM b.bh) < 0) then true else (decide (0≤hQ (Pos.mk a.variant a.ag a.ab a.af a.aa a.ak a.ah a.ai a.half a.full) (Mv.mk b.aw b.to b.aI b.aM b.bh))&&decide (hQ (Pos.mk a.variant a.ag a.ab a.af a.aa a.ak a.ah a.ai a.half a.full) (Mv.mk b.aw b.to b.aI b.aM b.bh) < ↑2)&&true))
theorem YA (a:Pos) (b:Mv) (h:rW a b=true):PS Pz 183 [Pos.av a,Mv.av b] ((d3 (dI .i64) (dI .i64) dB).res (jl a b)):=aA (n:=14) NR (by kernel_rfl) (by kernel_rfl) (by kernel_rfl) h
noncomputable def n9:List AV→Tr AV:=g2 bH iE (fun a b=>cE (rW a b) ((d3 (dI .i64) (dI .i64) dB).res (jl a b)))
theorem qg:Sound Pz 183 n9:=bB fun a b=>aJ (YA a b)
noncomputable def Xo:List (Nat×Nat×List (Nat×List Nat)):=[(245,15,[(0,[0,1,8,9,12,13]),(1,[4])])]
noncomputable def Tf:aC:=au Pz (fun f i=>bI f i Xo) [] [] []
theorem O1:bD Tf:=ao al trivial trivial trivial
noncomputable def um (a:Int) (b:Int):Bool:=(bif decide (a≤1) then (bif decide (b ≥ 1) then (decide (b≤5)) else (false)) else (false))
noncomputable def Rz (a:Int) (b:Int):Bool:=true
theorem U2 (a:Int) (b:Int) (h:Rz a b=true):PS Pz 245 [.int .u8 a,.int .u8 b] (dB.res (um a b)):=aA (n:=14) O1 (by kernel_rfl) (by kernel_rfl) (by kernel_rfl) h
noncomputable def MJ:List AV→Tr AV:=g2 (dI .u8) (dI .u8) (fun a b=>.ret (dB.res (um a b)))
theorem Sl:Sound Pz 245 MJ:=bB fun a b=>cW (U2 a b rfl)
noncomputable def To:List (Nat×Nat×List (Nat×List Nat)):=[(184,33,[(0,(1::2::3::6::(rn 13 7 []))),(1,[1,2,3,6,20]),(2,[6,7]),(3,[3,6]),(4,[6,7])])]
noncomputable def YY:aC:=au Pz (fun f i=>bI f i To) [(245,MJ)] [] []
theorem Ro:bD YY:=ao al ⟨Sl,trivial⟩ trivial trivial
noncomputable def lj (a:Pos) (b:Int) (c:Int):(Pos×Bool):=(bif !um b c then (⟨(a.variant),(if 64=64 then a.ag else List.take 0 (List.replicate 64 0)++a.ag++List.drop 64 (List.replicate 64 0)),(a.ab),(if 12=12 then a.af else List.take 0 (List.replicate 12 0)++a.af++List.drop 12 (List.replicate 12 0)),(a.aa),(if 4=4 then a.ak else List.take 0 (List.replicate 4 0)++a.ak++List.drop 4 (List.replicate 4 0)),(a.ah),(if 2=2 then a.ai else List.take 0 (List.replicate 2 0)++a.ai++List.drop 2 (List.replicate 2 0)),(a.half),(a.full)⟩,(false)) else (bif a.af.getD (scale 6 b+scale 1 c).toNat 0==0 then (⟨(a.variant),(if 64=64 then a.ag else List.take 0 (List.replicate 64 0)++a.ag++List.drop 64 (List.replicate 64 0)),(a.ab),(if 12=12 then a.af else List.take 0 (List.replicate 12 0)++a.af++List.drop 12 (List.replicate 12 0)),(a.aa),(if 4=4 then a.ak else List.take 0 (List.replicate 4 0)++a.ak++List.drop 4 (List.replicate 4 0)),(a.ah),(if 2=2 then a.ai else List.take 0 (List.replicate 2 0)++a.ai++List.drop 2 (List.replicate 2 0)),(a.half),(a.full)⟩,(false)) else (⟨(a.variant),(if 64=64 then a.ag else List.take 0 (List.replicate 64 0)++a.ag++List.drop 64 (List.replicate 64 0)),(a.ab),(if 12=12 then a.af.set (scale 6 b+scale 1 c).toNat (wr .u8 (a.af.getD (scale 6 b+scale 1 c).toNat 0 - 1)) else List.take 0 (List.replicate 12 0)++a.af.set (scale 6 b+scale 1 c).toNat (wr .u8 (a.af.getD (scale 6 b+scale 1 c).toNat 0 - 1))++List.drop 12 (List.replicate 12 0)),(a.aa),(if 4=4 then a.ak else List.take 0 (List.replicate 4 0)++a.ak++List.drop 4 (List.replicate 4 0)),(a.ah),(if 2=2 then a.ai else List.take 0 (List.replicate 2 0)++a.ai++List.drop 2 (List.replicate 2 0)),(a.half),(a.full)⟩,(true))))
noncomputable def vW (a:Pos) (b:Int) (c:Int):Bool:=(bif !um b c then true else (decide (0≤b)&&decide (b < ↑2)&&(decide (0≤c)&&decide (c < ↑6)&&(bif a.af.getD (scale 6 b+scale 1 c).toNat 0==0 then true else (decide (0≤b)&&decide (b < ↑2)&&(decide (0≤c)&&decide (c < ↑6)&&(decide (0≤b)&&decide (b < ↑2)&&(decide (0≤c)&&decide (c < ↑6)&&true))))))))
theorem WL (a:Pos) (b:Int) (c:Int) (h:vW a b c=true):PS Pz 184 [Pos.av a,.int .u8 b,.int .u8 c] ((d2 bH dB).res (lj a b c)):=aA (n:=14) Ro (by kernel_rfl) (by kernel_rfl) (by kernel_rfl) h
noncomputable def oz:List AV→Tr AV:=g3 bH (dI .u8) (dI .u8) (fun a b c=>cE (vW a b c) ((d2 bH dB).res (lj a b c)))
theorem pF:Sound Pz 184 oz:=eG fun a b c=>aJ (WL a b c)
noncomputable def Va:List (Nat×Nat×List (Nat×List Nat)):=[(186,30,[(0,(1::2::3::6::(rn 11 7 []))),(1,[1,2,3,6,18]),(2,[3,6]),(3,[6])])]
noncomputable def Yf:aC:=au Pz (fun f i=>bI f i Va) [(245,MJ)] [] []
theorem Og:bD Yf:=ao al ⟨Sl,trivial⟩ trivial trivial
noncomputable def bn (a:Pos) (b:Int) (c:Int):Pos:=(bif um b c then (bif decide (a.af.getD (scale 6 b+scale 1 c).toNat 0 < 255) then ⟨(a.variant),(if 64=64 then a.ag else List.take 0 (List.replicate 64 0)++a.ag++List.drop 64 (List.replicate 64 0)),(a.ab),(if 12=12 then a.af.set (scale 6 b+scale 1 c).toNat (wr .u8 (a.af.getD (scale 6 b+scale 1 c).toNat 0+1)) else List.take 0 (List.replicate 12 0)++a.af.set (scale 6 b+scale 1 c).toNat (wr .u8 (a.af.getD (scale 6 b+scale 1 c).toNat 0+1))++List.drop 12 (List.replicate 12 0)),(a.aa),(if 4=4 then a.ak else List.take 0 (List.replicate 4 0)++a.ak++List.drop 4 (List.replicate 4 0)),(a.ah),(if 2=2 then a.ai else List.take 0 (List.replicate 2 0)++a.ai++List.drop 2 (List.replicate 2 0)),(a.half),(a.full)⟩ else ⟨(a.variant),(if 64=64 then a.ag else List.take 0 (List.replicate 64 0)++a.ag++List.drop 64 (List.replicate 64 0)),(a.ab),(if 12=12 then a.af else List.take 0 (List.replicate 12 0)++a.af++List.drop 12 (List.replicate 12 0)),(a.aa),(if 4=4 then a.ak else List.take 0 (List.replicate 4 0)++a.ak++List.drop 4 (List.replicate 4 0)),(a.ah),(if 2=2 then a.ai else List.take 0 (List.replicate 2 0)++a.ai++List.drop 2 (List.replicate 2 0)),(a.half),(a.full)⟩) else ⟨(a.variant),(if 64=64 then a.ag else List.take 0 (List.replicate 64 0)++a.ag++List.drop 64 (List.replicate 64 0)),(a.ab),(if 12=12 then a.af else List.take 0 (List.replicate 12 0)++a.af++List.drop 12 (List.replicate 12 0)),(a.aa),(if 4=4 then a.ak else List.take 0 (List.replicate 4 0)++a.ak++List.drop 4 (List.replicate 4 0)),(a.ah),(if 2=2 then a.ai else List.take 0 (List.replicate 2 0)++a.ai++List.drop 2 (List.replicate 2 0)),(a.half),(a.full)⟩)
noncomputable def o6 (a:Pos) (b:Int) (c:Int):Bool:=(bif um b c then (decide (0≤b)&&decide (b < ↑2)&&(decide (0≤c)&&decide (c < ↑6)&&(bif decide (a.af.getD (scale 6 b+scale 1 c).toNat 0 < 255) then (decide (0≤b)&&decide (b < ↑2)&&(decide (0≤c)&&decide (c < ↑6)&&(decide (0≤b)&&decide (b < ↑2)&&(decide (0≤c)&&decide (c < ↑6)&&true)))) else true))) else true)
theorem Y5 (a:Pos) (b:Int) (c:Int) (h:o6 a b c=true):PS Pz 186 [Pos.av a,.int .u8 b,.int .u8 c] (bH.res (bn a b c)):=aA (n:=14) Og (by kernel_rfl) (by kernel_rfl) (by kernel_rfl) h
noncomputable def oo:List AV→Tr AV:=g3 bH (dI .u8) (dI .u8) (fun a b c=>cE (o6 a b c) (bH.res (bn a b c)))
theorem pM:Sound Pz 186 oo:=eG fun a b c=>aJ (Y5 a b c)
noncomputable def YX:List (Nat×Nat×List (Nat×List Nat)):=[(188,32,[(0,[1,2,10,11]),(1,[1,2,12]),(2,[4]),(3,[1,2,5]),(4,[1,2,5,6]),(5,[1,2,5,6,19]),(6,[1,2,5,6]),(7,[1,2,5,6]),(8,[4])])]
noncomputable def YN:aC:=au Pz (fun f i=>bI f i YX) [(234,pG),(191,fJ),(196,uB)] [] []
theorem RS:bD YN:=ao al ⟨qQ,fM,vl,trivial⟩ trivial trivial
noncomputable def vn (a:Pos) (b:Int):BitVec 64:=(bif decide (b < 0) then (0#64) else (bif decide (b ≥ 64) then (0#64) else (tp b&&&cg (Pos.mk a.variant a.ag a.ab a.af a.aa a.ak a.ah a.ai a.half a.full) &&& ~~~b8 (Pos.mk a.variant a.ag a.ab a.af a.aa a.ak a.ah a.ai a.half a.full) 0 1 &&& ~~~b8 (Pos.mk a.variant a.ag a.ab a.af a.aa a.ak a.ah a.ai a.half a.full) (wr .u8 (0+1)) 1|||1#64 <<< (BitVec.ofInt 64 b).toNat)))
noncomputable def v7 (a:Pos) (b:Int):Bool:=(bif decide (b < 0) then true else (bif decide (b ≥ 64) then true else (mF (b)&&(nY (Pos.mk a.variant a.ag a.ab a.af a.aa a.ak a.ah a.ai a.half a.full)&&(cn (Pos.mk a.variant a.ag a.ab a.af a.aa a.ak a.ah a.ai a.half a.full) (0) (1)&&(cn (Pos.mk a.variant a.ag a.ab a.af a.aa a.ak a.ah a.ai a.half a.full) (wr .u8 (0+1)) (1)&&true))))))
theorem YC (a:Pos) (b:Int) (h:v7 a b=true):PS Pz 188 [Pos.av a,.int .i64 b] (dU.res (vn a b)):=aA (n:=14) RS (by kernel_rfl) (by kernel_rfl) (by kernel_rfl) h
noncomputable def ot:List AV→Tr AV:=g2 bH (dI .i64) (fun a b=>cE (v7 a b) (dU.res (vn a b)))
theorem pE:Sound Pz 188 ot:=bB fun a b=>aJ (YC a b)
end Kz
end
section
namespace Kz
open Go
set_option maxRecDepth 100000
theorem Gz:∀ f t:Fin 64,(dQ 0 f.val).getLsbD t.val=true→8≤t.val:=by decide +kernel
theorem Hm:∀ f t:Fin 64,(dQ 1 f.val).getLsbD t.val=true→t.val < 56:=by decide +kernel
theorem mq {x:Nat} {i:Nat} (hi:i < 64):(1#64 <<< x).getLsbD i=decide (i=x):=by
  rw [BitVec.getLsbD_shiftLeft,BitVec.getLsbD_one]
  rcases Nat.lt_trichotomy i x with h | rfl | h
  · have:¬ i=x:=by omega
    simp [h,this]
  · simp [hi]
  · have h1:¬ i=x:=by omega
    have h2:¬ i - x=0:=by omega
    simp [h1,h2]
theorem nC {n:Int} (h0:0≤n) (h1:n < 18446744073709551616):(BitVec.ofInt 64 n).toNat=n.toNat:=by
  rw [BitVec.toNat_ofInt]
  omega
theorem Az {p:Pos} (hp:aR p) (ht:p.aa≤1) {x:Pos×BitVec 64×BitVec 64} (hx:x.1=p) {f t:Nat} (hf:f < 64) (h1:t < 64) (hm:(f:Int).tmod 8≠(t:Int).tmod 8) (hb:(wt x f).getLsbD t=true):(dQ p.aa f).getLsbD t=true:=by
  have h0:=hp.t0
  have hne:f % 8≠t % 8:=by
    intro e
    apply hm
    rw [Int.tmod_eq_emod_of_nonneg (by omega),Int.tmod_eq_emod_of_nonneg (by omega)]
    omega
  have a1:∀ n:Int,(n=f+8∨n=f - 8∨n=f+16∨n=f - 16)→(1#64 <<< (BitVec.ofInt 64 n).toNat).getLsbD t=false:=by
    intro n hn
    rw [mq h1]
    simp only [decide_eq_false_iff_not]
    rw [BitVec.toNat_ofInt]
    omega
  have w:∀ s:Int,-100≤s→s≤100→(cB p.aa s=s+8∨cB p.aa s=s - 8):=by
    intro s g0 g1
    unfold cB
    rw [cp (n:=s - 8) (by omega) (by omega),cp (n:=s+8) (by omega) (by omega)]
    exact az (P:=fun x:Int=>x=s+8∨x=s - 8) (fun _=>.inr rfl) fun _=>.inl rfl
  have b1:=w f (by omega) (by omega)
  have b2:=w (cB p.aa f) (by omega) (by omega)
  have c1:=a1 (cB p.aa f) (by omega)
  have c2:(1#64 <<< (BitVec.ofInt 64 (cB p.aa (cB p.aa f))).toNat).getLsbD t=false:=by
    by_cases e:cB p.aa (cB p.aa f)=f
    · rw [e,mq h1]
      simp only [decide_eq_false_iff_not]
      rw [BitVec.toNat_ofInt]
      omega
    · exact a1 _ (by omega)
  revert hb
  unfold wt
  rw [hx]
  have k1:∀ y:BitVec 64,(dQ p.aa f&&&y).getLsbD t=true→(dQ p.aa f).getLsbD t=true:=fun y h=>by
    rw [BitVec.getLsbD_and] at h
    exact (Bool.and_eq_true _ _ ▸ h).1
  have k2:∀ y:BitVec 64,(dQ p.aa f&&&y|||1#64 <<< (BitVec.ofInt 64 (cB p.aa f)).toNat).getLsbD t=true→(dQ p.aa f).getLsbD t=true:=fun y h=>by
    rw [BitVec.getLsbD_or,c1,Bool.or_false] at h
    exact k1 y h
  have k3:∀ y z:BitVec 64,(dQ p.aa f&&&y|||1#64 <<< (BitVec.ofInt 64 (cB p.aa f)).toNat|||1#64 <<< (BitVec.ofInt 64 (cB p.aa (cB p.aa f))).toNat&&&z).getLsbD t=true→(dQ p.aa f).getLsbD t=true:=fun y z h=>by
    rw [BitVec.getLsbD_or,BitVec.getLsbD_and,c2,Bool.false_and,Bool.or_false] at h
    exact k2 y h
  repeat' (first | with_reducible exact k1 _ | with_reducible exact k2 _ | with_reducible exact k3 _ _ | refine az (P:=fun y:BitVec 64=>y.getLsbD t=true→(dQ p.aa f).getLsbD t=true) (fun _ => ?_) (fun _ => ?_))
theorem Ia {p:Pos} (hp:aR p) (m:Mv) : -1≤aU p m∧aU p m < 64:=by
  have hl:=jD hp.v0
  unfold aU
  refine az (P:=fun x:Int => -1≤x∧x < 64) (fun _=>by simp) fun hthere=>az (P:=fun x:Int => -1≤x∧x < 64) (fun _=>by simp) fun h => ?_
  rw [pU (by omega)] at h
  have hm:m ∈ dD p:=by simpa using h
  obtain ⟨th,f,t,h1,h2,h3,h4,h5,h6,h7,h8,h9,h10⟩:=jM hp.v0 hm
  rw [h3,h4]
  rw [cp (n:=(t:Int)) (by omega) (by omega)]
  refine az (P:=fun x:Int => -1≤x∧x < 64) (fun _=>by omega) fun _=>az (P:=fun x:Int => -1≤x∧x < 64) (fun hk=>az (P:=fun x:Int => -1≤x∧x < 64) (fun hd => ?_) fun _=>by simp) fun _=>by simp
  have hd:(f:Int).tmod 8≠(t:Int).tmod 8:=by simpa using hd
  have hto:(wt (p,own p,nJ p) f).getLsbD t=true:=by
    unfold iL at h10
    rw [hk,cond_true,BitVec.getLsbD_and] at h10
    exact (Bool.and_eq_true _ _ ▸ h10).1
  have hat:=Az hp th.1 rfl h1 h2 hd hto
  have h0:=hp.t0
  have ht:=th.1
  have:p.aa=0∨p.aa=1:=by omega
  rcases this with e | e
  · rw [e] at hat
    have:=Gz ⟨f,h1⟩ ⟨t,h2⟩ hat
    simp only at this
    rw [e]
    unfold cB
    rw [show wr .u8 (1 - 0)=1 from by decide,cp (n:=(t:Int) - 8) (by omega) (by omega)]
    show -1≤(t:Int) - 8∧(t:Int) - 8 < 64
    omega
  · rw [e] at hat
    have:=Hm ⟨f,h1⟩ ⟨t,h2⟩ hat
    simp only at this
    rw [e]
    unfold cB
    rw [show wr .u8 (1 - 1)=0 from by decide,cp (n:=(t:Int)+8) (by omega) (by omega)]
    show -1≤(t:Int)+8∧(t:Int)+8 < 64
    omega
theorem zV (p:Pos) (m:Mv) : -1≤hQ p m∧hQ p m≤1:=by
  unfold hQ
  repeat' (first | (constructor <;> decide) | refine az (P:=fun x:Int => -1≤x∧x≤1) (fun _ => ?_) (fun _ => ?_))
theorem t183 (p:Pos) (m:Mv):rW p m=true:=by
  unfold rW
  refine ay (fun _=>rfl) fun h=>ar ?_ fun _=>rfl
  have h1:=zV p m
  have h:¬ hQ p m < 0:=by simpa using h
  show (decide (0≤hQ p m)&&decide (hQ p m < 2))=true
  simp
  omega
theorem Gt {p:Pos} (h0:0≤p.aa) (ht:p.aa≤1) (m:Mv):0≤(jl p m).1∧(jl p m).1 < 64∧0≤(jl p m).2.1∧(jl p m).2.1 < 64:=by
  have h1:=zV p m
  unfold jl
  refine az (P:=fun x:Int×Int×Bool=>0≤x.1∧x.1 < 64∧0≤x.2.1∧x.2.1 < 64) (fun _=>by simp) fun h => ?_
  have h:¬ hQ p m < 0:=by simpa using h
  rw [oI h0 ht]
  show 0≤wr .i64 (56 * p.aa+_)∧_
  have e:hQ p m=0∨hQ p m=1:=by omega
  have e':hQ ⟨p.variant,p.ag,p.ab,p.af,p.aa,p.ak,p.ah,p.ai,p.half,p.full⟩ ⟨m.aw,m.to,m.aI,m.aM,m.bh⟩=hQ p m:=rfl
  rw [e']
  have e2:p.aa=0∨p.aa=1:=by omega
  rcases e with e | e <;> rcases e2 with e2 | e2 <;> rw [e,e2] <;> decide
theorem t184 {p:Pos} {b c:Int} (hb:0≤b) (hc:0≤c):vW p b c=true:=by
  unfold vW
  refine ay (fun _=>rfl) fun h => ?_
  have h:um b c=true:=by simpa using h
  have hin:b≤1∧1≤c∧c≤5:=by
    revert h
    unfold um
    refine az (P:=fun x:Bool=>x=true→_) (fun h1=>az (P:=fun x:Bool=>x=true→_) (fun h2 h3 => ?_) fun _ h=>by cases h) fun _ h=>by cases h
    simp only [decide_eq_true_eq] at h1 h2 h3
    omega
  have a1:(decide (0≤b)&&decide (b < 2))=true:=by simp; omega
  have a2:(decide (0≤c)&&decide (c < 6))=true:=by simp; omega
  repeat' (first | with_reducible rfl | with_reducible exact a1 | with_reducible exact a2 | refine ar ?_ (fun _ => ?_) | refine ay (fun _ => ?_) (fun _ => ?_))
theorem t186 {p:Pos} {b c:Int} (hb:0≤b) (hc:0≤c):o6 p b c=true:=by
  unfold o6
  refine ay (fun h => ?_) fun _=>rfl
  have hin:b≤1∧1≤c∧c≤5:=by
    revert h
    unfold um
    refine az (P:=fun x:Bool=>x=true→_) (fun h1=>az (P:=fun x:Bool=>x=true→_) (fun h2 h3 => ?_) fun _ h=>by cases h) fun _ h=>by cases h
    simp only [decide_eq_true_eq] at h1 h2 h3
    omega
  have a1:(decide (0≤b)&&decide (b < 2))=true:=by simp; omega
  have a2:(decide (0≤c)&&decide (c < 6))=true:=by simp; omega
  repeat' (first | with_reducible rfl | with_reducible exact a1 | with_reducible exact a2 | refine ar ?_ (fun _ => ?_) | refine ay (fun _ => ?_) (fun _ => ?_))
theorem t188 (p:Pos) (s:Int):v7 p s=true:=by
  unfold v7
  repeat' (first | with_reducible rfl | with_reducible exact t196 _ | with_reducible exact t234 _ | with_reducible exact t191 _ _ _ | refine ar ?_ (fun _ => ?_) | refine ay (fun _ => ?_) (fun _ => ?_))
theorem F0 {v:Int} (h:0≤v):0≤aY v:=by
  unfold aY
  exact az (P:=fun x:Int=>0≤x) (fun _=>by simp) fun _=>Int.tmod_nonneg _ h
end Kz
end
section
namespace Kz
open Go Go.RowKit Go.Proofs
set_option maxRecDepth 100000
set_option maxHeartbeats 4000000
noncomputable def Uu:List (Nat×Nat×List (Nat×List Nat)):=[(192,8,[(0,[0]),(1,[0,4]),(2,[2]),(3,[2])])]
noncomputable def Yv:aC:=au Pz (fun f i=>bI f i Uu) [] [] []
theorem RX:bD Yv:=ao al trivial trivial trivial
noncomputable def lq (a:Int):Int:=(bif decide (a ≥ 10000) then (a) else (wr .i64 (a+1)))
noncomputable def PV (a:Int):Bool:=true
theorem UZ (a:Int) (h:PV a=true):PS Pz 192 [.int .i64 a] ((dI .i64).res (lq a)):=aA (n:=14) RX (by kernel_rfl) (by kernel_rfl) (by kernel_rfl) h
noncomputable def oe:List AV→Tr AV:=g1 (dI .i64) (fun a=>.ret ((dI .i64).res (lq a)))
theorem pN:Sound Pz 192 oe:=aS fun a=>cW (UZ a rfl)
noncomputable def Bm:List (Nat×Nat×List (Nat×List Nat)):=[(59,48,[(0,[2,3,4]),(1,[2,3,4,13]),(2,[4,5]),(3,[4,6]),(4,[4,6,37,38]),(5,[4,6,37,38,39]),(6,[4,6,8,37,38]),(7,[4,6,37,38]),(8,[4,6,37,38]),(9,[4,5])]),(113,156,[(0,[0,2]),(1,[0,2,14]),(2,[0,2]),(3,[0,2]),(4,[0,2,48]),(5,[]),(6,[0,2,64]),(7,[0,2,3,4]),(8,[0,2,3,4]),(9,[]),(10,[0,2,119]),(11,[0,2]),(12,[])]),(114,188,[(0,(1::(rn 14 6 (rn 99 11 (rn 163 8 []))))),(1,(1::20::(rn 99 11 (rn 163 8 [])))),(2,(1::2::(rn 99 11 (rn 163 8 [])))),(3,(1::2::26::(rn 99 11 (rn 163 8 [])))),(4,[1,2,4]),(5,[1,4,47]),(6,[1,4]),(7,[]),(8,(1::2::80::(rn 99 11 (rn 163 8 [])))),(9,(1::2::6::(rn 99 11 (rn 163 8 [])))),(10,(1::2::6::110::(rn 163 8 []))),(11,(1::2::6::(rn 163 8 []))),(12,(1::2::(rn 163 8 []))),(13,(1::2::(rn 163 8 []))),(14,(1::2::(rn 163 8 []))),(15,[1,171]),(16,[])]),(115,41,[(0,[0,16]),(1,[0,28,29,30]),(2,[0,28,29,30,31]),(3,[0,3,28,29,30]),(4,[0,28,29,30]),(5,[0,28,29,30])]),(116,121,[(0,(0::18::54::55::(rn 70 16 (89::90::(rn 93 6 (rn 101 10 [])))))),(1,(0::54::55::(rn 70 16 (89::90::(rn 93 6 (rn 101 10 [])))))),(2,(0::2::54::55::(rn 70 16 (89::90::(rn 93 6 (rn 101 10 [])))))),(3,(0::2::31::54::55::(rn 70 16 (89::90::(rn 93 6 (rn 101 10 [])))))),(4,(0::2::54::55::(rn 70 16 (89::90::(rn 93 6 (rn 101 10 [])))))),(5,(0::2::3::54::55::(rn 70 16 (89::90::(rn 93 6 (rn 101 10 [])))))),(6,(0::2::3::46::47::54::55::(rn 70 16 (89::90::(rn 93 6 (rn 101 10 [])))))),(7,(0::2::3::46::47::48::54::55::(rn 70 16 (89::90::(rn 93 6 (rn 101 10 [])))))),(8,(0::(rn 2 4 (46::47::54::55::(rn 70 16 (89::90::(rn 93 6 (rn 101 10 [])))))))),(9,(0::(rn 2 4 (46::47::54::55::56::(rn 70 16 (89::90::(rn 93 6 (rn 101 10 [])))))))),(10,(0::2::3::4::6::46::47::54::55::(rn 70 16 (89::90::(rn 93 6 (rn 101 10 [])))))),(11,(0::2::3::4::6::7::46::47::54::55::(rn 70 16 (89::90::(rn 93 6 (rn 101 10 [])))))),(12,(0::2::3::4::46::47::54::55::(rn 70 16 (89::90::(rn 93 6 (rn 101 11 [])))))),(13,(0::2::3::46::47::54::55::(rn 70 16 (89::90::(rn 93 6 (rn 101 10 [])))))),(14,(0::2::3::46::47::54::55::(rn 70 16 (89::90::(rn 93 6 (rn 101 10 []))))))]),(117,112,[(0,(0::(rn 12 6 (rn 20 26 (rn 64 9 []))))),(1,(0::46::(rn 64 9 []))),(2,(0::2::(rn 64 9 []))),(3,[0,73]),(4,[0,3]),(5,[0,3,106]),(6,[])]),(118,42,[(0,(0::(rn 16 5 []))),(1,[0,21]),(2,[0]),(3,[0,31]),(4,[])]),(119,59,[(0,(0::(rn 26 8 (rn 36 10 [])))),(1,(0::2::(rn 26 8 (rn 36 10 [])))),(2,[0,2,46]),(3,[])]),(185,14,[(0,[0,1]),(1,[3])]),(189,26,[(0,[0]),(1,[0,8]),(2,[2]),(3,[2])])]
noncomputable def Qu:aC:=au Pz (fun f i=>bI f i Bm) [(61,yr),(76,zR),(31,xb),(112,nc),(191,fJ),(175,gE),(183,n9),(184,oz),(178,jX),(186,oo),(187,iW),(188,ot),(155,jq),(190,lL),(192,oe)] [] []
theorem Lr:bD Qu:=ao al ⟨y3,Aa,zD,oq,fM,hM,qg,pF,kH,pM,jr,pE,j6,nE,pN,trivial⟩ trivial trivial
noncomputable def Iv (p1:Pos) (p2:Mv) (p3:Pos) (p4:Pos) (p5:Mv) (p6:Int):List AV:=[AV.ptr 3 0]
noncomputable def Jw (p1:Pos) (p2:Mv) (p3:Pos) (p4:Pos) (p5:Mv) (p6:Int):Hp:=Hp.mk [(pc p1 []),[AV.int .i8 p2.aw,AV.int .i8 p2.to,AV.int .u8 p2.aI,AV.int .u8 p2.aM,AV.bool p2.bh],zpB,(pc p3 (pc p4 [AV.int .i8 p5.aw,AV.int .i8 p5.to,AV.int .u8 p5.aI,AV.int .u8 p5.aM,AV.bool p5.bh,AV.int .i64 p6]))] [] [] 0 0 0
noncomputable def Du (p1:Pos) (p2:Mv) (p3:Pos) (p4:Pos) (p5:Mv) (p6:Int) (y:(Pos)):bV := .ret (AV.tuple []) (Hp.mk [(pc p1 []),[AV.int .i8 p2.aw,AV.int .i8 p2.to,AV.int .u8 p2.aI,AV.int .u8 p2.aM,AV.bool p2.bh],zpB,(pc y (pc p4 [AV.int .i8 p5.aw,AV.int .i8 p5.to,AV.int .u8 p5.aI,AV.int .u8 p5.aM,AV.bool p5.bh,AV.int .i64 p6]))] [] [] 0 0 0)
noncomputable def cJ (p1:Pos) (p2:Mv) (p3:Pos) (p4:Pos) (p5:Mv) (p6:Int):(Pos):=(bif p5.bh then (Pos.mk p3.variant ((((p3.ag.set (scale 1 p5.aw).toNat 0).set (scale 1 p5.to).toNat 0).set (scale 1 (jl p4 p5).fst).toNat (p4.ag.getD (scale 1 p5.aw).toNat 0)).set (scale 1 (jl p4 p5).snd.fst).toNat (p4.ag.getD (scale 1 p5.to).toNat 0)) p3.ab p3.af p3.aa p3.ak p3.ah p3.ai p3.half p3.full) else (bif p5.aM != 0 then (Pos.mk (lj p3 p3.aa p5.aM).fst.variant ((lj p3 p3.aa p5.aM).fst.ag.set (scale 1 p5.to).toNat (jo (lj p3 p3.aa p5.aM).fst.aa p5.aM)) (lj p3 p3.aa p5.aM).fst.ab (lj p3 p3.aa p5.aM).fst.af (lj p3 p3.aa p5.aM).fst.aa (lj p3 p3.aa p5.aM).fst.ak (lj p3 p3.aa p5.aM).fst.ah (lj p3 p3.aa p5.aM).fst.ai (lj p3 p3.aa p5.aM).fst.half (lj p3 p3.aa p5.aM).fst.full) else (bif decide (p6 ≥ 0) then (bif p5.aI != 0 then (Pos.mk p3.variant ((((p3.ag.set (scale 1 p6).toNat 0).set (scale 1 p5.aw).toNat 0).set (scale 1 p5.to).toNat (p4.ag.getD (scale 1 p5.aw).toNat 0)).set (scale 1 p5.to).toNat (jo p3.aa p5.aI)) p3.ab p3.af p3.aa p3.ak p3.ah p3.ai p3.half p3.full) else (Pos.mk p3.variant (((p3.ag.set (scale 1 p6).toNat 0).set (scale 1 p5.aw).toNat 0).set (scale 1 p5.to).toNat (p4.ag.getD (scale 1 p5.aw).toNat 0)) p3.ab p3.af p3.aa p3.ak p3.ah p3.ai p3.half p3.full)) else (bif p5.aI != 0 then (Pos.mk p3.variant (((p3.ag.set (scale 1 p5.aw).toNat 0).set (scale 1 p5.to).toNat (p4.ag.getD (scale 1 p5.aw).toNat 0)).set (scale 1 p5.to).toNat (jo p3.aa p5.aI)) p3.ab p3.af p3.aa p3.ak p3.ah p3.ai p3.half p3.full) else (Pos.mk p3.variant ((p3.ag.set (scale 1 p5.aw).toNat 0).set (scale 1 p5.to).toNat (p4.ag.getD (scale 1 p5.aw).toNat 0)) p3.ab p3.af p3.aa p3.ak p3.ah p3.ai p3.half p3.full)))))
noncomputable def lD (p1:Pos) (p2:Mv) (p3:Pos) (p4:Pos) (p5:Mv) (p6:Int):Bool:=(bif p5.bh then (rW (p4) (p5)&&(decide (0≤p5.aw)&&decide (p5.aw < Int.ofNat 64)&&(decide (0≤p5.to)&&decide (p5.to < Int.ofNat 64)&&(decide (0≤p5.aw)&&decide (p5.aw < Int.ofNat 64)&&(decide (0≤p5.to)&&decide (p5.to < Int.ofNat 64)&&(decide (0≤(jl p4 p5).fst)&&decide ((jl p4 p5).fst < Int.ofNat 64)&&(decide (0≤(jl p4 p5).snd.fst)&&decide ((jl p4 p5).snd.fst < Int.ofNat 64)&&true))))))) else (bif p5.aM != 0 then (vW (p3) (p3.aa) (p5.aM)&&(decide (0≤p5.to)&&decide (p5.to < Int.ofNat 64)&&true)) else (bif decide (p6 ≥ 0) then (decide (0≤p6)&&decide (p6 < Int.ofNat 64)&&(decide (0≤p5.aw)&&decide (p5.aw < Int.ofNat 64)&&(decide (0≤p5.aw)&&decide (p5.aw < Int.ofNat 64)&&(decide (0≤p5.to)&&decide (p5.to < Int.ofNat 64)&&(bif p5.aI != 0 then (decide (0≤p5.to)&&decide (p5.to < Int.ofNat 64)&&true) else true))))) else (decide (0≤p5.aw)&&decide (p5.aw < Int.ofNat 64)&&(decide (0≤p5.aw)&&decide (p5.aw < Int.ofNat 64)&&(decide (0≤p5.to)&&decide (p5.to < Int.ofNat 64)&&(bif p5.aI != 0 then (decide (0≤p5.to)&&decide (p5.to < Int.ofNat 64)&&true) else true)))))))
abbrev Ld {α:Type} (k:Pos→Mv→Pos→Pos→Mv→Int→α) (s:St):α:=wP s 0 fun q0=>wP s 3 fun q3=>wM s 1 fun q1=>k q0 q1 q3 (Kz.Pos.mk (tI (tH s 3 10)) (tN (tH s 3 11)) (tU (tH s 3 12)) (tN (tH s 3 13)) (tI (tH s 3 14)) (tN (tH s 3 15)) (tI (tH s 3 16)) (tN (tH s 3 17)) (tI (tH s 3 18)) (tI (tH s 3 19))) (Kz.Mv.mk (tI (tH s 3 20)) (tI (tH s 3 21)) (tI (tH s 3 22)) (tI (tH s 3 23)) (tB (tH s 3 24))) (tI (tH s 3 25))
theorem KL (p1:Pos) (p2:Mv) (p3:Pos) (p4:Pos) (p5:Mv) (p6:Int) (h:lD p1 p2 p3 p4 p5 p6=true):cR Pz 113 (Iv p1 p2 p3 p4 p5 p6) (Jw p1 p2 p3 p4 p5 p6) (Du p1 p2 p3 p4 p5 p6 (cJ p1 p2 p3 p4 p5 p6))∧∃ fn,Pz.funcs[113]?=some fn∧fn.body.isSome=true:=iX (n:=14) (O:=Du p1 p2 p3 p4 p5 p6) Lr (fun o=>match o with | .ret v h=>(let s:St:=⟨[v],h⟩; wP s 3 fun q3=>some q3) | _=>none) (fun _=>rfl) (by kernel_rfl) (by kernel_rfl) (by kernel_rfl) (by kernel_rfl) h
noncomputable def gu (xs:List AV) (h:Hp):Tr bV:=Ld (fun p1 p2 p3 p4 p5 p6=>fk xs h (Iv p1 p2 p3 p4 p5 p6) (Jw p1 p2 p3 p4 p5 p6) (lD p1 p2 p3 p4 p5 p6) (Du p1 p2 p3 p4 p5 p6) (cJ p1 p2 p3 p4 p5 p6)) ⟨xs,h⟩
theorem fh:eX Pz 113 gu:=fun _ _ _ h=>qx (KL _ _ _ _ _ _) h
noncomputable def Rn:aC:=au Pz (fun f i=>bI f i Bm) [(61,yr),(76,zR),(31,xb),(112,nc),(191,fJ),(175,gE),(183,n9),(184,oz),(178,jX),(186,oo),(187,iW),(188,ot),(155,jq),(190,lL),(192,oe)] [] [(113,gu)]
theorem M7:bD Rn:=ao al ⟨y3,Aa,zD,oq,fM,hM,qg,pF,kH,pM,jr,pE,j6,nE,pN,trivial⟩ trivial ⟨fh,trivial⟩
noncomputable def IP (p1:Pos) (p2:Mv) (p3:Pos) (p4:Pos) (p5:Mv) (p6:Int):List AV:=[AV.ptr 3 0]
noncomputable def I5 (p1:Pos) (p2:Mv) (p3:Pos) (p4:Pos) (p5:Mv) (p6:Int):Hp:=Hp.mk [(pc p1 []),[AV.int .i8 p2.aw,AV.int .i8 p2.to,AV.int .u8 p2.aI,AV.int .u8 p2.aM,AV.bool p2.bh],zpB,(pc p3 (pc p4 [AV.int .i8 p5.aw,AV.int .i8 p5.to,AV.int .u8 p5.aI,AV.int .u8 p5.aM,AV.bool p5.bh,AV.int .i64 p6]))] [] [] 0 0 0
noncomputable def DR (p1:Pos) (p2:Mv) (p3:Pos) (p4:Pos) (p5:Mv) (p6:Int) (y:(Pos)):bV := .ret (AV.tuple []) (Hp.mk [(pc p1 []),[AV.int .i8 p2.aw,AV.int .i8 p2.to,AV.int .u8 p2.aI,AV.int .u8 p2.aM,AV.bool p2.bh],zpB,(pc y (pc p4 [AV.int .i8 p5.aw,AV.int .i8 p5.to,AV.int .u8 p5.aI,AV.int .u8 p5.aM,AV.bool p5.bh,AV.int .i64 p6]))] [] [] 0 0 0)
noncomputable def da (p1:Pos) (p2:Mv) (p3:Pos) (p4:Pos) (p5:Mv) (p6:Int):(Pos):=(bif p3.variant != 2 then (p3) else (bif p5.aM != 0 then (p3) else (bif p5.bh then (bif p4.ab >>> (BitVec.ofInt 64 (wr .i64 p5.to)).toNat&&&1#64==1#64 then (Pos.mk p3.variant p3.ag (p3.ab &&& ~~~(1#64 <<< (BitVec.ofInt 64 p5.to).toNat)|||1#64 <<< (BitVec.ofInt 64 (jl p4 p5).snd.fst).toNat) p3.af p3.aa p3.ak p3.ah p3.ai p3.half p3.full) else (p3)) else (bif decide (p6 ≥ 0) then (bif p4.ab >>> (BitVec.ofInt 64 p6).toNat&&&1#64==1#64 then (bif p4.ag.getD (scale 1 p6).toNat 0 != 0 then (bif p5.aI != 0 then (Pos.mk (bn p3 p3.aa 1).variant (bn p3 p3.aa 1).ag ((bn p3 p3.aa 1).ab &&& ~~~(1#64 <<< (BitVec.ofInt 64 p6).toNat) &&& ~~~(1#64 <<< (BitVec.ofInt 64 p5.aw).toNat)|||1#64 <<< (BitVec.ofInt 64 p5.to).toNat) (bn p3 p3.aa 1).af (bn p3 p3.aa 1).aa (bn p3 p3.aa 1).ak (bn p3 p3.aa 1).ah (bn p3 p3.aa 1).ai (bn p3 p3.aa 1).half (bn p3 p3.aa 1).full) else (bif p4.ab >>> (BitVec.ofInt 64 (wr .i64 p5.aw)).toNat&&&1#64==1#64 then (Pos.mk (bn p3 p3.aa 1).variant (bn p3 p3.aa 1).ag ((bn p3 p3.aa 1).ab &&& ~~~(1#64 <<< (BitVec.ofInt 64 p6).toNat) &&& ~~~(1#64 <<< (BitVec.ofInt 64 p5.aw).toNat)|||1#64 <<< (BitVec.ofInt 64 p5.to).toNat) (bn p3 p3.aa 1).af (bn p3 p3.aa 1).aa (bn p3 p3.aa 1).ak (bn p3 p3.aa 1).ah (bn p3 p3.aa 1).ai (bn p3 p3.aa 1).half (bn p3 p3.aa 1).full) else (Pos.mk (bn p3 p3.aa 1).variant (bn p3 p3.aa 1).ag ((bn p3 p3.aa 1).ab &&& ~~~(1#64 <<< (BitVec.ofInt 64 p6).toNat) &&& ~~~(1#64 <<< (BitVec.ofInt 64 p5.aw).toNat)) (bn p3 p3.aa 1).af (bn p3 p3.aa 1).aa (bn p3 p3.aa 1).ak (bn p3 p3.aa 1).ah (bn p3 p3.aa 1).ai (bn p3 p3.aa 1).half (bn p3 p3.aa 1).full))) else (bif p5.aI != 0 then (Pos.mk (bn p3 p3.aa (aY (p4.ag.getD (scale 1 p6).toNat 0))).variant (bn p3 p3.aa (aY (p4.ag.getD (scale 1 p6).toNat 0))).ag ((bn p3 p3.aa (aY (p4.ag.getD (scale 1 p6).toNat 0))).ab &&& ~~~(1#64 <<< (BitVec.ofInt 64 p6).toNat) &&& ~~~(1#64 <<< (BitVec.ofInt 64 p5.aw).toNat)|||1#64 <<< (BitVec.ofInt 64 p5.to).toNat) (bn p3 p3.aa (aY (p4.ag.getD (scale 1 p6).toNat 0))).af (bn p3 p3.aa (aY (p4.ag.getD (scale 1 p6).toNat 0))).aa (bn p3 p3.aa (aY (p4.ag.getD (scale 1 p6).toNat 0))).ak (bn p3 p3.aa (aY (p4.ag.getD (scale 1 p6).toNat 0))).ah (bn p3 p3.aa (aY (p4.ag.getD (scale 1 p6).toNat 0))).ai (bn p3 p3.aa (aY (p4.ag.getD (scale 1 p6).toNat 0))).half (bn p3 p3.aa (aY (p4.ag.getD (scale 1 p6).toNat 0))).full) else (bif p4.ab >>> (BitVec.ofInt 64 (wr .i64 p5.aw)).toNat&&&1#64==1#64 then (Pos.mk (bn p3 p3.aa (aY (p4.ag.getD (scale 1 p6).toNat 0))).variant (bn p3 p3.aa (aY (p4.ag.getD (scale 1 p6).toNat 0))).ag ((bn p3 p3.aa (aY (p4.ag.getD (scale 1 p6).toNat 0))).ab &&& ~~~(1#64 <<< (BitVec.ofInt 64 p6).toNat) &&& ~~~(1#64 <<< (BitVec.ofInt 64 p5.aw).toNat)|||1#64 <<< (BitVec.ofInt 64 p5.to).toNat) (bn p3 p3.aa (aY (p4.ag.getD (scale 1 p6).toNat 0))).af (bn p3 p3.aa (aY (p4.ag.getD (scale 1 p6).toNat 0))).aa (bn p3 p3.aa (aY (p4.ag.getD (scale 1 p6).toNat 0))).ak (bn p3 p3.aa (aY (p4.ag.getD (scale 1 p6).toNat 0))).ah (bn p3 p3.aa (aY (p4.ag.getD (scale 1 p6).toNat 0))).ai (bn p3 p3.aa (aY (p4.ag.getD (scale 1 p6).toNat 0))).half (bn p3 p3.aa (aY (p4.ag.getD (scale 1 p6).toNat 0))).full) else (Pos.mk (bn p3 p3.aa (aY (p4.ag.getD (scale 1 p6).toNat 0))).variant (bn p3 p3.aa (aY (p4.ag.getD (scale 1 p6).toNat 0))).ag ((bn p3 p3.aa (aY (p4.ag.getD (scale 1 p6).toNat 0))).ab &&& ~~~(1#64 <<< (BitVec.ofInt 64 p6).toNat) &&& ~~~(1#64 <<< (BitVec.ofInt 64 p5.aw).toNat)) (bn p3 p3.aa (aY (p4.ag.getD (scale 1 p6).toNat 0))).af (bn p3 p3.aa (aY (p4.ag.getD (scale 1 p6).toNat 0))).aa (bn p3 p3.aa (aY (p4.ag.getD (scale 1 p6).toNat 0))).ak (bn p3 p3.aa (aY (p4.ag.getD (scale 1 p6).toNat 0))).ah (bn p3 p3.aa (aY (p4.ag.getD (scale 1 p6).toNat 0))).ai (bn p3 p3.aa (aY (p4.ag.getD (scale 1 p6).toNat 0))).half (bn p3 p3.aa (aY (p4.ag.getD (scale 1 p6).toNat 0))).full)))) else (bif p5.aI != 0 then (Pos.mk (bn p3 p3.aa (aY (p4.ag.getD (scale 1 p6).toNat 0))).variant (bn p3 p3.aa (aY (p4.ag.getD (scale 1 p6).toNat 0))).ag ((bn p3 p3.aa (aY (p4.ag.getD (scale 1 p6).toNat 0))).ab &&& ~~~(1#64 <<< (BitVec.ofInt 64 p6).toNat) &&& ~~~(1#64 <<< (BitVec.ofInt 64 p5.aw).toNat)|||1#64 <<< (BitVec.ofInt 64 p5.to).toNat) (bn p3 p3.aa (aY (p4.ag.getD (scale 1 p6).toNat 0))).af (bn p3 p3.aa (aY (p4.ag.getD (scale 1 p6).toNat 0))).aa (bn p3 p3.aa (aY (p4.ag.getD (scale 1 p6).toNat 0))).ak (bn p3 p3.aa (aY (p4.ag.getD (scale 1 p6).toNat 0))).ah (bn p3 p3.aa (aY (p4.ag.getD (scale 1 p6).toNat 0))).ai (bn p3 p3.aa (aY (p4.ag.getD (scale 1 p6).toNat 0))).half (bn p3 p3.aa (aY (p4.ag.getD (scale 1 p6).toNat 0))).full) else (bif p4.ab >>> (BitVec.ofInt 64 (wr .i64 p5.aw)).toNat&&&1#64==1#64 then (Pos.mk (bn p3 p3.aa (aY (p4.ag.getD (scale 1 p6).toNat 0))).variant (bn p3 p3.aa (aY (p4.ag.getD (scale 1 p6).toNat 0))).ag ((bn p3 p3.aa (aY (p4.ag.getD (scale 1 p6).toNat 0))).ab &&& ~~~(1#64 <<< (BitVec.ofInt 64 p6).toNat) &&& ~~~(1#64 <<< (BitVec.ofInt 64 p5.aw).toNat)|||1#64 <<< (BitVec.ofInt 64 p5.to).toNat) (bn p3 p3.aa (aY (p4.ag.getD (scale 1 p6).toNat 0))).af (bn p3 p3.aa (aY (p4.ag.getD (scale 1 p6).toNat 0))).aa (bn p3 p3.aa (aY (p4.ag.getD (scale 1 p6).toNat 0))).ak (bn p3 p3.aa (aY (p4.ag.getD (scale 1 p6).toNat 0))).ah (bn p3 p3.aa (aY (p4.ag.getD (scale 1 p6).toNat 0))).ai (bn p3 p3.aa (aY (p4.ag.getD (scale 1 p6).toNat 0))).half (bn p3 p3.aa (aY (p4.ag.getD (scale 1 p6).toNat 0))).full) else (Pos.mk (bn p3 p3.aa (aY (p4.ag.getD (scale 1 p6).toNat 0))).variant (bn p3 p3.aa (aY (p4.ag.getD (scale 1 p6).toNat 0))).ag ((bn p3 p3.aa (aY (p4.ag.getD (scale 1 p6).toNat 0))).ab &&& ~~~(1#64 <<< (BitVec.ofInt 64 p6).toNat) &&& ~~~(1#64 <<< (BitVec.ofInt 64 p5.aw).toNat)) (bn p3 p3.aa (aY (p4.ag.getD (scale 1 p6).toNat 0))).af (bn p3 p3.aa (aY (p4.ag.getD (scale 1 p6).toNat 0))).aa (bn p3 p3.aa (aY (p4.ag.getD (scale 1 p6).toNat 0))).ak (bn p3 p3.aa (aY (p4.ag.getD (scale 1 p6).toNat 0))).ah (bn p3 p3.aa (aY (p4.ag.getD (scale 1 p6).toNat 0))).ai (bn p3 p3.aa (aY (p4.ag.getD (scale 1 p6).toNat 0))).half (bn p3 p3.aa (aY (p4.ag.getD (scale 1 p6).toNat 0))).full)))) else (bif p5.aI != 0 then (Pos.mk p3.variant p3.ag (p3.ab &&& ~~~(1#64 <<< (BitVec.ofInt 64 p5.aw).toNat)|||1#64 <<< (BitVec.ofInt 64 p5.to).toNat) p3.af p3.aa p3.ak p3.ah p3.ai p3.half p3.full) else (bif p4.ab >>> (BitVec.ofInt 64 (wr .i64 p5.aw)).toNat&&&1#64==1#64 then (Pos.mk p3.variant p3.ag (p3.ab &&& ~~~(1#64 <<< (BitVec.ofInt 64 p5.aw).toNat)|||1#64 <<< (BitVec.ofInt 64 p5.to).toNat) p3.af p3.aa p3.ak p3.ah p3.ai p3.half p3.full) else (Pos.mk p3.variant p3.ag (p3.ab &&& ~~~(1#64 <<< (BitVec.ofInt 64 p5.aw).toNat)) p3.af p3.aa p3.ak p3.ah p3.ai p3.half p3.full)))))))
noncomputable def mc (p1:Pos) (p2:Mv) (p3:Pos) (p4:Pos) (p5:Mv) (p6:Int):Bool:=(bif p3.variant != 2 then true else (bif p5.aM != 0 then true else (bif p5.bh then (rW (p4) (p5)&&true) else (bif decide (p6 ≥ 0) then (decide (0≤p6)&&decide (p6 < Int.ofNat 64)&&(bif p4.ab >>> (BitVec.ofInt 64 p6).toNat&&&1#64==1#64 then (decide (0≤p6)&&decide (p6 < Int.ofNat 64)&&(bif p4.ag.getD (scale 1 p6).toNat 0 != 0 then (o6 (p3) (p3.aa) (1)&&true) else (o6 (p3) (p3.aa) (aY (p4.ag.getD (scale 1 p6).toNat 0))&&true))) else (o6 (p3) (p3.aa) (aY (p4.ag.getD (scale 1 p6).toNat 0))&&true))) else true))))
abbrev Kf {α:Type} (k:Pos→Mv→Pos→Pos→Mv→Int→α) (s:St):α:=wP s 0 fun q0=>wP s 3 fun q3=>wM s 1 fun q1=>k q0 q1 q3 (Kz.Pos.mk (tI (tH s 3 10)) (tN (tH s 3 11)) (tU (tH s 3 12)) (tN (tH s 3 13)) (tI (tH s 3 14)) (tN (tH s 3 15)) (tI (tH s 3 16)) (tN (tH s 3 17)) (tI (tH s 3 18)) (tI (tH s 3 19))) (Kz.Mv.mk (tI (tH s 3 20)) (tI (tH s 3 21)) (tI (tH s 3 22)) (tI (tH s 3 23)) (tB (tH s 3 24))) (tI (tH s 3 25))
theorem Lu (p1:Pos) (p2:Mv) (p3:Pos) (p4:Pos) (p5:Mv) (p6:Int) (h:mc p1 p2 p3 p4 p5 p6=true):cR Pz 114 (IP p1 p2 p3 p4 p5 p6) (I5 p1 p2 p3 p4 p5 p6) (DR p1 p2 p3 p4 p5 p6 (da p1 p2 p3 p4 p5 p6))∧∃ fn,Pz.funcs[114]?=some fn∧fn.body.isSome=true:=iX (n:=14) (O:=DR p1 p2 p3 p4 p5 p6) M7 (fun o=>match o with | .ret v h=>(let s:St:=⟨[v],h⟩; wP s 3 fun q3=>some q3) | _=>none) (fun _=>rfl) (by kernel_rfl) (by kernel_rfl) (by kernel_rfl) (by kernel_rfl) h
noncomputable def gS (xs:List AV) (h:Hp):Tr bV:=Kf (fun p1 p2 p3 p4 p5 p6=>fk xs h (IP p1 p2 p3 p4 p5 p6) (I5 p1 p2 p3 p4 p5 p6) (mc p1 p2 p3 p4 p5 p6) (DR p1 p2 p3 p4 p5 p6) (da p1 p2 p3 p4 p5 p6)) ⟨xs,h⟩
theorem fR:eX Pz 114 gS:=fun _ _ _ h=>qx (Lu _ _ _ _ _ _) h
noncomputable def Sc:aC:=au Pz (fun f i=>bI f i Bm) [(61,yr),(76,zR),(31,xb),(112,nc),(191,fJ),(175,gE),(183,n9),(184,oz),(178,jX),(186,oo),(187,iW),(188,ot),(155,jq),(190,lL),(192,oe)] [] [(113,gu),(114,gS)]
theorem LJ:bD Sc:=ao al ⟨y3,Aa,zD,oq,fM,hM,qg,pF,kH,pM,jr,pE,j6,nE,pN,trivial⟩ trivial ⟨fh,fR,trivial⟩
noncomputable def Jo (p1:(List Int)) (p2:Int) (p3:Pos) (p4:Mv) (p5:Pos) (p6:Mv) (p7:Int) (x:(Int×Pos)):St:=St.mk (AV.ptr 3 0::(an 27 (AV.list (ET.i .i64) p1 Tk.fresh::AV.int .i64 p2::AV.int .i64 x.fst::(an 10 [])))) (Hp.mk [(pc p3 []),[AV.int .i8 p4.aw,AV.int .i8 p4.to,AV.int .u8 p4.aI,AV.int .u8 p4.aM,AV.bool p4.bh],zpB,(pc x.snd (pc p5 [AV.int .i8 p6.aw,AV.int .i8 p6.to,AV.int .u8 p6.aI,AV.int .u8 p6.aM,AV.bool p6.bh,AV.int .i64 p7]))] [] [] 0 0 0)
noncomputable def I8 (p1:(List Int)) (p2:Int) (p3:Pos) (p4:Mv) (p5:Pos) (p6:Mv) (p7:Int):(Int×Bool×Pos)→Out:=fun y=>.exit 0 (St.mk (AV.ptr 3 0::(an 27 (AV.list (ET.i .i64) p1 Tk.fresh::AV.int .i64 p2::AV.int .i64 y.fst::AV.bool y.snd.fst::(an 9 [])))) (Hp.mk [(pc p3 []),[AV.int .i8 p4.aw,AV.int .i8 p4.to,AV.int .u8 p4.aI,AV.int .u8 p4.aM,AV.bool p4.bh],zpB,(pc y.snd.snd (pc p5 [AV.int .i8 p6.aw,AV.int .i8 p6.to,AV.int .u8 p6.aI,AV.int .u8 p6.aM,AV.bool p6.bh,AV.int .i64 p7]))] [] [] 0 0 0))
noncomputable def J6 (p1:(List Int)) (p2:Int) (p3:Pos) (p4:Mv) (p5:Pos) (p6:Mv) (p7:Int) (x:(Int×Pos)):bA (Int×Pos) ((Int×Bool×Pos)):=(bif decide (x.fst < p2) then (bA.go (wr .i64 (x.fst+1),Pos.mk x.snd.variant (x.snd.ag.set (scale 1 (p1.getD x.fst.toNat default)).toNat 0) x.snd.ab x.snd.af x.snd.aa x.snd.ak x.snd.ah x.snd.ai x.snd.half x.snd.full)) else (bA.out ((x.fst,decide (x.fst < p2),x.snd))))
noncomputable def HY (p1:(List Int)) (p2:Int) (p3:Pos) (p4:Mv) (p5:Pos) (p6:Mv) (p7:Int) (x:(Int×Pos)):Bool:=(bif decide (x.fst < p2) then (decide (0≤x.fst)&&decide (x.fst < Int.ofNat p1.length)&&(decide (0≤p1.getD x.fst.toNat default)&&decide (p1.getD x.fst.toNat default < Int.ofNat 64)&&true)) else true)
noncomputable def pT (p1:(List Int)) (p2:Int) (p3:Pos) (p4:Mv) (p5:Pos) (p6:Mv) (p7:Int) (x:(Int×Pos)):Option ((Int×Bool×Pos)):=fY (fun x=>bif HY p1 p2 p3 p4 p5 p6 p7 x then J6 p1 p2 p3 p4 p5 p6 p7 x else .bad) many x
abbrev IG {α:Type} (k:(List Int)→Int→Pos→Mv→Pos→Mv→Int→(Int×Pos)→α) (s:St):α:=wP s 0 fun q0=>wP s 3 fun q3=>wM s 1 fun q1=>k (tL (ET.i .i64) (tT s 28)) (tI (tT s 29)) q0 q1 (Kz.Pos.mk (tI (tH s 3 10)) (tN (tH s 3 11)) (tU (tH s 3 12)) (tN (tH s 3 13)) (tI (tH s 3 14)) (tN (tH s 3 15)) (tI (tH s 3 16)) (tN (tH s 3 17)) (tI (tH s 3 18)) (tI (tH s 3 19))) (Kz.Mv.mk (tI (tH s 3 20)) (tI (tH s 3 21)) (tI (tH s 3 22)) (tI (tH s 3 23)) (tB (tH s 3 24))) (tI (tH s 3 25)) ((tI (tT s 30)),q3)
theorem QM (p1:(List Int)) (p2:Int) (p3:Pos) (p4:Mv) (p5:Pos) (p6:Mv) (p7:Int) (x:(Int×Pos)) (r:(Int×Bool×Pos)) (h:pT p1 p2 p3 p4 p5 p6 p7 x=some r):aF Pz (bW Pz 115 2) (Jo p1 p2 p3 p4 p5 p6 p7 x) (I8 p1 p2 p3 p4 p5 p6 p7 r):=aF.kR (m:=12) (fn:=115) LJ (IG fun _ _ _ _ _ _ _ x=>some x) (fun o=>match o with | .exit 0 s=>wP s 3 fun q3=>some ((tI (tT s 30)),(tB (tT s 31)),q3) | _=>none) (fun _=>rfl) (fun _=>by kernel_rfl) (fun _=>by kernel_rfl) (fun _=>by kernel_rfl) (fun _=>by kernel_rfl) many x r h
noncomputable def lS (b:Code) (s:St):Tr Out:=IG (fun p1 p2 p3 p4 p5 p6 p7 x=>qN b (bW Pz 115 2) s (Jo p1 p2 p3 p4 p5 p6 p7 x) (pT p1 p2 p3 p4 p5 p6 p7 x) (I8 p1 p2 p3 p4 p5 p6 p7)) s
theorem j9:∀ b,bJ Pz b (lS b):=fun _ _ _ h=>cN (QM _ _ _ _ _ _ _ _) h
noncomputable def OM:aC:=au Pz (fun f i=>bI f i Bm) [(61,yr),(76,zR),(31,xb),(112,nc),(191,fJ),(175,gE),(183,n9),(184,oz),(178,jX),(186,oo),(187,iW),(188,ot),(155,jq),(190,lL),(192,oe)] [(115,2,lS)] [(113,gu),(114,gS)]
theorem MH:bD OM:=ao al ⟨y3,Aa,zD,oq,fM,hM,qg,pF,kH,pM,jr,pE,j6,nE,pN,trivial⟩ ⟨j9,trivial⟩ ⟨fh,fR,trivial⟩
noncomputable def IZ (p1:Pos) (p2:Mv) (p3:Pos) (p4:Pos) (p5:Mv) (p6:Int):List AV:=[AV.ptr 3 0]
noncomputable def I1 (p1:Pos) (p2:Mv) (p3:Pos) (p4:Pos) (p5:Mv) (p6:Int):Hp:=Hp.mk [(pc p1 []),[AV.int .i8 p2.aw,AV.int .i8 p2.to,AV.int .u8 p2.aI,AV.int .u8 p2.aM,AV.bool p2.bh],zpB,(pc p3 (pc p4 [AV.int .i8 p5.aw,AV.int .i8 p5.to,AV.int .u8 p5.aI,AV.int .u8 p5.aM,AV.bool p5.bh,AV.int .i64 p6]))] [] [] 0 0 0
noncomputable def C3 (p1:Pos) (p2:Mv) (p3:Pos) (p4:Pos) (p5:Mv) (p6:Int) (y:(Pos)):bV := .ret (AV.tuple []) (Hp.mk [(pc p1 []),[AV.int .i8 p2.aw,AV.int .i8 p2.to,AV.int .u8 p2.aI,AV.int .u8 p2.aM,AV.bool p2.bh],zpB,(pc y (pc p4 [AV.int .i8 p5.aw,AV.int .i8 p5.to,AV.int .u8 p5.aI,AV.int .u8 p5.aM,AV.bool p5.bh,AV.int .i64 p6]))] [] [] 0 0 0)
noncomputable def dj (p1:Pos) (p2:Mv) (p3:Pos) (p4:Pos) (p5:Mv) (p6:Int):(Pos):=(bif p3.variant != 3 then (p3) else (bif decide (p6 < 0) then (p3) else (((pT (gp (vn p3 (wr .i64 p5.to))) (Int.ofNat (gp (vn p3 (wr .i64 p5.to))).length) p1 p2 p4 p5 p6 (0,p3)).getD default).snd.snd)))
noncomputable def lU (p1:Pos) (p2:Mv) (p3:Pos) (p4:Pos) (p5:Mv) (p6:Int):Bool:=(bif p3.variant != 3 then true else (bif decide (p6 < 0) then true else (v7 (p3) (wr .i64 p5.to)&&(nO (vn p3 (wr .i64 p5.to))&&((pT (gp (vn p3 (wr .i64 p5.to))) (Int.ofNat (gp (vn p3 (wr .i64 p5.to))).length) p1 p2 p4 p5 p6 (0,p3)).isSome&&true)))))
abbrev Ly {α:Type} (k:Pos→Mv→Pos→Pos→Mv→Int→α) (s:St):α:=wP s 0 fun q0=>wP s 3 fun q3=>wM s 1 fun q1=>k q0 q1 q3 (Kz.Pos.mk (tI (tH s 3 10)) (tN (tH s 3 11)) (tU (tH s 3 12)) (tN (tH s 3 13)) (tI (tH s 3 14)) (tN (tH s 3 15)) (tI (tH s 3 16)) (tN (tH s 3 17)) (tI (tH s 3 18)) (tI (tH s 3 19))) (Kz.Mv.mk (tI (tH s 3 20)) (tI (tH s 3 21)) (tI (tH s 3 22)) (tI (tH s 3 23)) (tB (tH s 3 24))) (tI (tH s 3 25))
theorem Ki (p1:Pos) (p2:Mv) (p3:Pos) (p4:Pos) (p5:Mv) (p6:Int) (h:lU p1 p2 p3 p4 p5 p6=true):cR Pz 115 (IZ p1 p2 p3 p4 p5 p6) (I1 p1 p2 p3 p4 p5 p6) (C3 p1 p2 p3 p4 p5 p6 (dj p1 p2 p3 p4 p5 p6))∧∃ fn,Pz.funcs[115]?=some fn∧fn.body.isSome=true:=iX (n:=14) (O:=C3 p1 p2 p3 p4 p5 p6) MH (fun o=>match o with | .ret v h=>(let s:St:=⟨[v],h⟩; wP s 3 fun q3=>some q3) | _=>none) (fun _=>rfl) (by kernel_rfl) (by kernel_rfl) (by kernel_rfl) (by kernel_rfl) h
noncomputable def ju (xs:List AV) (h:Hp):Tr bV:=Ly (fun p1 p2 p3 p4 p5 p6=>fk xs h (IZ p1 p2 p3 p4 p5 p6) (I1 p1 p2 p3 p4 p5 p6) (lU p1 p2 p3 p4 p5 p6) (C3 p1 p2 p3 p4 p5 p6) (dj p1 p2 p3 p4 p5 p6)) ⟨xs,h⟩
theorem iN:eX Pz 115 ju:=fun _ _ _ h=>qx (Ki _ _ _ _ _ _) h
noncomputable def OH:aC:=au Pz (fun f i=>bI f i Bm) [(61,yr),(76,zR),(31,xb),(112,nc),(191,fJ),(175,gE),(183,n9),(184,oz),(178,jX),(186,oo),(187,iW),(188,ot),(155,jq),(190,lL),(192,oe)] [(115,2,lS)] [(113,gu),(114,gS),(115,ju)]
theorem MS:bD OH:=ao al ⟨y3,Aa,zD,oq,fM,hM,qg,pF,kH,pM,jr,pE,j6,nE,pN,trivial⟩ ⟨j9,trivial⟩ ⟨fh,fR,iN,trivial⟩
noncomputable def Ix (p1:Int) (p2:Int) (p3:(List Int)) (p4:Pos) (p5:Mv) (p6:Pos) (p7:Mv) (p8:Int) (x:(Int×Pos)):St:=St.mk (AV.ptr 3 0::AV.any::AV.int .u8 p1::AV.int .i64 p2::(an 42 (AV.agg [AV.ints .i8 2 p3]::AV.int .i64 x.fst::(an 73 [])))) (Hp.mk [(pc p4 []),[AV.int .i8 p5.aw,AV.int .i8 p5.to,AV.int .u8 p5.aI,AV.int .u8 p5.aM,AV.bool p5.bh],zpB,(pc x.snd (pc p6 [AV.int .i8 p7.aw,AV.int .i8 p7.to,AV.int .u8 p7.aI,AV.int .u8 p7.aM,AV.bool p7.bh,AV.int .i64 p8]))] [] [] 0 0 0)
noncomputable def Ir (p1:Int) (p2:Int) (p3:(List Int)) (p4:Pos) (p5:Mv) (p6:Pos) (p7:Mv) (p8:Int):(Int×Bool×Pos)→Out:=fun y=>.exit 2 (St.mk (AV.ptr 3 0::AV.any::AV.int .u8 p1::AV.int .i64 p2::(an 42 (AV.agg [AV.ints .i8 2 p3]::AV.int .i64 y.fst::AV.bool y.snd.fst::(an 72 [])))) (Hp.mk [(pc p4 []),[AV.int .i8 p5.aw,AV.int .i8 p5.to,AV.int .u8 p5.aI,AV.int .u8 p5.aM,AV.bool p5.bh],zpB,(pc y.snd.snd (pc p6 [AV.int .i8 p7.aw,AV.int .i8 p7.to,AV.int .u8 p7.aI,AV.int .u8 p7.aM,AV.bool p7.bh,AV.int .i64 p8]))] [] [] 0 0 0))
noncomputable def MG (p1:Int) (p2:Int) (p3:(List Int)) (p4:Pos) (p5:Mv) (p6:Pos) (p7:Mv) (p8:Int) (x:(Int×Pos)):bA (Int×Pos) ((Int×Bool×Pos)):=(bif decide (x.fst < 2) then (bif decide (p3.getD x.fst.toNat 0 < 0) then (bA.go (wr .i64 (x.fst+1),x.snd)) else (bif decide (p3.getD x.fst.toNat 0 > 7) then (bA.go (wr .i64 (x.fst+1),x.snd)) else (bif p8==wr .i64 (wr .i64 (56 * wr .i64 p1)+wr .i64 (p3.getD x.fst.toNat 0)) then (bA.go (wr .i64 (x.fst+1),Pos.mk x.snd.variant x.snd.ag x.snd.ab x.snd.af x.snd.aa (x.snd.ak.set (scale 2 p1+scale 1 x.fst).toNat (-1)) x.snd.ah x.snd.ai x.snd.half x.snd.full)) else (bif p7.aM==0 then (bif wr .i64 p7.aw==wr .i64 (wr .i64 (56 * wr .i64 p1)+wr .i64 (p3.getD x.fst.toNat 0)) then (bA.go (wr .i64 (x.fst+1),Pos.mk x.snd.variant x.snd.ag x.snd.ab x.snd.af x.snd.aa (x.snd.ak.set (scale 2 p1+scale 1 x.fst).toNat (-1)) x.snd.ah x.snd.ai x.snd.half x.snd.full)) else (bif decide (p2 < 0) then (bA.go (wr .i64 (x.fst+1),Pos.mk x.snd.variant x.snd.ag x.snd.ab x.snd.af x.snd.aa (x.snd.ak.set (scale 2 p1+scale 1 x.fst).toNat (-1)) x.snd.ah x.snd.ai x.snd.half x.snd.full)) else (bif wr .i64 (p2.tdiv 8) != wr .i64 (7 * wr .i64 p1) then (bA.go (wr .i64 (x.fst+1),Pos.mk x.snd.variant x.snd.ag x.snd.ab x.snd.af x.snd.aa (x.snd.ak.set (scale 2 p1+scale 1 x.fst).toNat (-1)) x.snd.ah x.snd.ai x.snd.half x.snd.full)) else (bif x.snd.ag.getD (scale 1 (wr .i64 (wr .i64 (56 * wr .i64 p1)+wr .i64 (p3.getD x.fst.toNat 0)))).toNat 0 != jo p1 4 then (bA.go (wr .i64 (x.fst+1),Pos.mk x.snd.variant x.snd.ag x.snd.ab x.snd.af x.snd.aa (x.snd.ak.set (scale 2 p1+scale 1 x.fst).toNat (-1)) x.snd.ah x.snd.ai x.snd.half x.snd.full)) else (bA.go (wr .i64 (x.fst+1),x.snd)))))) else (bif decide (p2 < 0) then (bA.go (wr .i64 (x.fst+1),Pos.mk x.snd.variant x.snd.ag x.snd.ab x.snd.af x.snd.aa (x.snd.ak.set (scale 2 p1+scale 1 x.fst).toNat (-1)) x.snd.ah x.snd.ai x.snd.half x.snd.full)) else (bif wr .i64 (p2.tdiv 8) != wr .i64 (7 * wr .i64 p1) then (bA.go (wr .i64 (x.fst+1),Pos.mk x.snd.variant x.snd.ag x.snd.ab x.snd.af x.snd.aa (x.snd.ak.set (scale 2 p1+scale 1 x.fst).toNat (-1)) x.snd.ah x.snd.ai x.snd.half x.snd.full)) else (bif x.snd.ag.getD (scale 1 (wr .i64 (wr .i64 (56 * wr .i64 p1)+wr .i64 (p3.getD x.fst.toNat 0)))).toNat 0 != jo p1 4 then (bA.go (wr .i64 (x.fst+1),Pos.mk x.snd.variant x.snd.ag x.snd.ab x.snd.af x.snd.aa (x.snd.ak.set (scale 2 p1+scale 1 x.fst).toNat (-1)) x.snd.ah x.snd.ai x.snd.half x.snd.full)) else (bA.go (wr .i64 (x.fst+1),x.snd))))))))) else (bA.out ((x.fst,decide (x.fst < 2),x.snd))))
noncomputable def H5 (p1:Int) (p2:Int) (p3:(List Int)) (p4:Pos) (p5:Mv) (p6:Pos) (p7:Mv) (p8:Int) (x:(Int×Pos)):Bool:=(bif decide (x.fst < 2) then (decide (0≤x.fst)&&decide (x.fst < Int.ofNat 2)&&(bif decide (p3.getD x.fst.toNat 0 < 0) then true else (bif decide (p3.getD x.fst.toNat 0 > 7) then true else (bif p8==wr .i64 (wr .i64 (56 * wr .i64 p1)+wr .i64 (p3.getD x.fst.toNat 0)) then (decide (0≤p1)&&decide (p1 < Int.ofNat 2)&&(decide (0≤x.fst)&&decide (x.fst < Int.ofNat 2)&&true)) else (bif p7.aM==0 then (bif wr .i64 p7.aw==wr .i64 (wr .i64 (56 * wr .i64 p1)+wr .i64 (p3.getD x.fst.toNat 0)) then (decide (0≤p1)&&decide (p1 < Int.ofNat 2)&&(decide (0≤x.fst)&&decide (x.fst < Int.ofNat 2)&&true)) else (bif decide (p2 < 0) then (decide (0≤p1)&&decide (p1 < Int.ofNat 2)&&(decide (0≤x.fst)&&decide (x.fst < Int.ofNat 2)&&true)) else (bif wr .i64 (p2.tdiv 8) != wr .i64 (7 * wr .i64 p1) then (decide (0≤p1)&&decide (p1 < Int.ofNat 2)&&(decide (0≤x.fst)&&decide (x.fst < Int.ofNat 2)&&true)) else (decide (0≤wr .i64 (wr .i64 (56 * wr .i64 p1)+wr .i64 (p3.getD x.fst.toNat 0)))&&decide (wr .i64 (wr .i64 (56 * wr .i64 p1)+wr .i64 (p3.getD x.fst.toNat 0)) < Int.ofNat 64)&&(bif x.snd.ag.getD (scale 1 (wr .i64 (wr .i64 (56 * wr .i64 p1)+wr .i64 (p3.getD x.fst.toNat 0)))).toNat 0 != jo p1 4 then (decide (0≤p1)&&decide (p1 < Int.ofNat 2)&&(decide (0≤x.fst)&&decide (x.fst < Int.ofNat 2)&&true)) else true))))) else (bif decide (p2 < 0) then (decide (0≤p1)&&decide (p1 < Int.ofNat 2)&&(decide (0≤x.fst)&&decide (x.fst < Int.ofNat 2)&&true)) else (bif wr .i64 (p2.tdiv 8) != wr .i64 (7 * wr .i64 p1) then (decide (0≤p1)&&decide (p1 < Int.ofNat 2)&&(decide (0≤x.fst)&&decide (x.fst < Int.ofNat 2)&&true)) else (decide (0≤wr .i64 (wr .i64 (56 * wr .i64 p1)+wr .i64 (p3.getD x.fst.toNat 0)))&&decide (wr .i64 (wr .i64 (56 * wr .i64 p1)+wr .i64 (p3.getD x.fst.toNat 0)) < Int.ofNat 64)&&(bif x.snd.ag.getD (scale 1 (wr .i64 (wr .i64 (56 * wr .i64 p1)+wr .i64 (p3.getD x.fst.toNat 0)))).toNat 0 != jo p1 4 then (decide (0≤p1)&&decide (p1 < Int.ofNat 2)&&(decide (0≤x.fst)&&decide (x.fst < Int.ofNat 2)&&true)) else true))))))))) else true)
noncomputable def qE (p1:Int) (p2:Int) (p3:(List Int)) (p4:Pos) (p5:Mv) (p6:Pos) (p7:Mv) (p8:Int) (x:(Int×Pos)):Option ((Int×Bool×Pos)):=fY (fun x=>bif H5 p1 p2 p3 p4 p5 p6 p7 p8 x then MG p1 p2 p3 p4 p5 p6 p7 p8 x else .bad) many x
abbrev Jk {α:Type} (k:Int→Int→(List Int)→Pos→Mv→Pos→Mv→Int→(Int×Pos)→α) (s:St):α:=wP s 0 fun q0=>wP s 3 fun q3=>wM s 1 fun q1=>k (tI (tT s 2)) (tI (tT s 3)) (tN (tX (tA (tT s 46)) 0)) q0 q1 (Kz.Pos.mk (tI (tH s 3 10)) (tN (tH s 3 11)) (tU (tH s 3 12)) (tN (tH s 3 13)) (tI (tH s 3 14)) (tN (tH s 3 15)) (tI (tH s 3 16)) (tN (tH s 3 17)) (tI (tH s 3 18)) (tI (tH s 3 19))) (Kz.Mv.mk (tI (tH s 3 20)) (tI (tH s 3 21)) (tI (tH s 3 22)) (tI (tH s 3 23)) (tB (tH s 3 24))) (tI (tH s 3 25)) ((tI (tT s 47)),q3)
theorem Oe (p1:Int) (p2:Int) (p3:(List Int)) (p4:Pos) (p5:Mv) (p6:Pos) (p7:Mv) (p8:Int) (x:(Int×Pos)) (r:(Int×Bool×Pos)) (h:qE p1 p2 p3 p4 p5 p6 p7 p8 x=some r):aF Pz (bW Pz 116 7) (Ix p1 p2 p3 p4 p5 p6 p7 p8 x) (Ir p1 p2 p3 p4 p5 p6 p7 p8 r):=aF.kR (m:=12) (fn:=116) MS (Jk fun _ _ _ _ _ _ _ _ x=>some x) (fun o=>match o with | .exit 2 s=>wP s 3 fun q3=>some ((tI (tT s 47)),(tB (tT s 48)),q3) | _=>none) (fun _=>rfl) (fun _=>by kernel_rfl) (fun _=>by kernel_rfl) (fun _=>by kernel_rfl) (fun _=>by kernel_rfl) many x r h
noncomputable def pA (b:Code) (s:St):Tr Out:=Jk (fun p1 p2 p3 p4 p5 p6 p7 p8 x=>qN b (bW Pz 116 7) s (Ix p1 p2 p3 p4 p5 p6 p7 p8 x) (qE p1 p2 p3 p4 p5 p6 p7 p8 x) (Ir p1 p2 p3 p4 p5 p6 p7 p8)) s
theorem ny:∀ b,bJ Pz b (pA b):=fun _ _ _ h=>cN (Oe _ _ _ _ _ _ _ _ _) h
noncomputable def Rr:aC:=au Pz (fun f i=>bI f i Bm) [(61,yr),(76,zR),(31,xb),(112,nc),(191,fJ),(175,gE),(183,n9),(184,oz),(178,jX),(186,oo),(187,iW),(188,ot),(155,jq),(190,lL),(192,oe)] [(115,2,lS),(116,7,pA)] [(113,gu),(114,gS),(115,ju)]
theorem Lp:bD Rr:=ao al ⟨y3,Aa,zD,oq,fM,hM,qg,pF,kH,pM,jr,pE,j6,nE,pN,trivial⟩ ⟨j9,ny,trivial⟩ ⟨fh,fR,iN,trivial⟩
noncomputable def Je (p1:Pos) (p2:Mv) (p3:Pos) (p4:Mv) (p5:Int) (x:(Int×Pos)):St:=St.mk (AV.ptr 3 0::AV.any::AV.int .u8 x.fst::(an 118 [])) (Hp.mk [(pc p1 []),[AV.int .i8 p2.aw,AV.int .i8 p2.to,AV.int .u8 p2.aI,AV.int .u8 p2.aM,AV.bool p2.bh],zpB,(pc x.snd (pc p3 [AV.int .i8 p4.aw,AV.int .i8 p4.to,AV.int .u8 p4.aI,AV.int .u8 p4.aM,AV.bool p4.bh,AV.int .i64 p5]))] [] [] 0 0 0)
noncomputable def JI (p1:Pos) (p2:Mv) (p3:Pos) (p4:Mv) (p5:Int):(Int×Bool×Pos)→Out:=fun y=>.exit 0 (St.mk (AV.ptr 3 0::AV.any::AV.int .u8 y.fst::(an 28 (AV.bool y.snd.fst::(an 89 [])))) (Hp.mk [(pc p1 []),[AV.int .i8 p2.aw,AV.int .i8 p2.to,AV.int .u8 p2.aI,AV.int .u8 p2.aM,AV.bool p2.bh],zpB,(pc y.snd.snd (pc p3 [AV.int .i8 p4.aw,AV.int .i8 p4.to,AV.int .u8 p4.aI,AV.int .u8 p4.aM,AV.bool p4.bh,AV.int .i64 p5]))] [] [] 0 0 0))
noncomputable def L0 (p1:Pos) (p2:Mv) (p3:Pos) (p4:Mv) (p5:Int) (x:(Int×Pos)):bA (Int×Pos) ((Int×Bool×Pos)):=(bif decide (x.fst≤1) then (bA.go (wr .u8 (x.fst+1),((qE x.fst (bL x.snd x.fst 6) (List.take 2 (List.drop (scale 2 x.fst).toNat x.snd.ak)) p1 p2 p3 p4 p5 (0,x.snd)).getD default).snd.snd)) else (bA.out ((x.fst,decide (x.fst≤1),x.snd))))
noncomputable def Hn (p1:Pos) (p2:Mv) (p3:Pos) (p4:Mv) (p5:Int) (x:(Int×Pos)):Bool:=(bif decide (x.fst≤1) then (gQ (x.snd) (x.fst) (6)&&(decide (0≤x.fst)&&decide (x.fst < Int.ofNat 2)&&((qE x.fst (bL x.snd x.fst 6) (List.take 2 (List.drop (scale 2 x.fst).toNat x.snd.ak)) p1 p2 p3 p4 p5 (0,x.snd)).isSome&&true))) else true)
noncomputable def ee (p1:Pos) (p2:Mv) (p3:Pos) (p4:Mv) (p5:Int) (x:(Int×Pos)):Option ((Int×Bool×Pos)):=fY (fun x=>bif Hn p1 p2 p3 p4 p5 x then L0 p1 p2 p3 p4 p5 x else .bad) many x
abbrev IV {α:Type} (k:Pos→Mv→Pos→Mv→Int→(Int×Pos)→α) (s:St):α:=wP s 0 fun q0=>wP s 3 fun q3=>wM s 1 fun q1=>k q0 q1 (Kz.Pos.mk (tI (tH s 3 10)) (tN (tH s 3 11)) (tU (tH s 3 12)) (tN (tH s 3 13)) (tI (tH s 3 14)) (tN (tH s 3 15)) (tI (tH s 3 16)) (tN (tH s 3 17)) (tI (tH s 3 18)) (tI (tH s 3 19))) (Kz.Mv.mk (tI (tH s 3 20)) (tI (tH s 3 21)) (tI (tH s 3 22)) (tI (tH s 3 23)) (tB (tH s 3 24))) (tI (tH s 3 25)) ((tI (tT s 2)),q3)
theorem Qw (p1:Pos) (p2:Mv) (p3:Pos) (p4:Mv) (p5:Int) (x:(Int×Pos)) (r:(Int×Bool×Pos)) (h:ee p1 p2 p3 p4 p5 x=some r):aF Pz (bW Pz 116 3) (Je p1 p2 p3 p4 p5 x) (JI p1 p2 p3 p4 p5 r):=aF.kR (m:=12) (fn:=116) Lp (IV fun _ _ _ _ _ x=>some x) (fun o=>match o with | .exit 0 s=>wP s 3 fun q3=>some ((tI (tT s 2)),(tB (tT s 31)),q3) | _=>none) (fun _=>rfl) (fun _=>by kernel_rfl) (fun _=>by kernel_rfl) (fun _=>by kernel_rfl) (fun _=>by kernel_rfl) many x r h
noncomputable def si (b:Code) (s:St):Tr Out:=IV (fun p1 p2 p3 p4 p5 x=>qN b (bW Pz 116 3) s (Je p1 p2 p3 p4 p5 x) (ee p1 p2 p3 p4 p5 x) (JI p1 p2 p3 p4 p5)) s
theorem oZ:∀ b,bJ Pz b (si b):=fun _ _ _ h=>cN (Qw _ _ _ _ _ _) h
noncomputable def Pc:aC:=au Pz (fun f i=>bI f i Bm) [(61,yr),(76,zR),(31,xb),(112,nc),(191,fJ),(175,gE),(183,n9),(184,oz),(178,jX),(186,oo),(187,iW),(188,ot),(155,jq),(190,lL),(192,oe)] [(115,2,lS),(116,7,pA),(116,3,si)] [(113,gu),(114,gS),(115,ju)]
theorem J3:bD Pc:=ao al ⟨y3,Aa,zD,oq,fM,hM,qg,pF,kH,pM,jr,pE,j6,nE,pN,trivial⟩ ⟨j9,ny,oZ,trivial⟩ ⟨fh,fR,iN,trivial⟩
noncomputable def Ja (p1:Pos) (p2:Mv) (p3:Pos) (p4:Pos) (p5:Mv) (p6:Int):List AV:=[AV.ptr 3 0]
noncomputable def I7 (p1:Pos) (p2:Mv) (p3:Pos) (p4:Pos) (p5:Mv) (p6:Int):Hp:=Hp.mk [(pc p1 []),[AV.int .i8 p2.aw,AV.int .i8 p2.to,AV.int .u8 p2.aI,AV.int .u8 p2.aM,AV.bool p2.bh],zpB,(pc p3 (pc p4 [AV.int .i8 p5.aw,AV.int .i8 p5.to,AV.int .u8 p5.aI,AV.int .u8 p5.aM,AV.bool p5.bh,AV.int .i64 p6]))] [] [] 0 0 0
noncomputable def Ez (p1:Pos) (p2:Mv) (p3:Pos) (p4:Pos) (p5:Mv) (p6:Int) (y:(Pos)):bV := .ret (AV.tuple []) (Hp.mk [(pc p1 []),[AV.int .i8 p2.aw,AV.int .i8 p2.to,AV.int .u8 p2.aI,AV.int .u8 p2.aM,AV.bool p2.bh],zpB,(pc y (pc p4 [AV.int .i8 p5.aw,AV.int .i8 p5.to,AV.int .u8 p5.aI,AV.int .u8 p5.aM,AV.bool p5.bh,AV.int .i64 p6]))] [] [] 0 0 0)
noncomputable def dv (p1:Pos) (p2:Mv) (p3:Pos) (p4:Pos) (p5:Mv) (p6:Int):(Pos):=(bif p5.aM != 0 then (bif p5.aM==6 then (bif p5.aM==0 then (((ee p1 p2 p4 p5 p6 (0,Pos.mk p3.variant p3.ag p3.ab p3.af p3.aa (List.take (scale 2 p3.aa).toNat p3.ak++li [-1,-1]++List.drop ((scale 2 p3.aa).toNat+2) p3.ak) p3.ah p3.ai p3.half p3.full)).getD default).snd.snd) else (((ee p1 p2 p4 p5 p6 (0,p3)).getD default).snd.snd)) else (((ee p1 p2 p4 p5 p6 (0,p3)).getD default).snd.snd)) else (bif aY (p4.ag.getD (scale 1 p5.aw).toNat 0)==6 then (bif p5.aM==0 then (((ee p1 p2 p4 p5 p6 (0,Pos.mk p3.variant p3.ag p3.ab p3.af p3.aa (List.take (scale 2 p3.aa).toNat p3.ak++li [-1,-1]++List.drop ((scale 2 p3.aa).toNat+2) p3.ak) p3.ah p3.ai p3.half p3.full)).getD default).snd.snd) else (((ee p1 p2 p4 p5 p6 (0,p3)).getD default).snd.snd)) else (((ee p1 p2 p4 p5 p6 (0,p3)).getD default).snd.snd)))
noncomputable def mO (p1:Pos) (p2:Mv) (p3:Pos) (p4:Pos) (p5:Mv) (p6:Int):Bool:=(bif p5.aM != 0 then (bif p5.aM==6 then (bif p5.aM==0 then (decide (0≤p3.aa)&&decide (p3.aa < Int.ofNat 2)&&((ee p1 p2 p4 p5 p6 (0,Pos.mk p3.variant p3.ag p3.ab p3.af p3.aa (List.take (scale 2 p3.aa).toNat p3.ak++li [-1,-1]++List.drop ((scale 2 p3.aa).toNat+2) p3.ak) p3.ah p3.ai p3.half p3.full)).isSome&&true)) else ((ee p1 p2 p4 p5 p6 (0,p3)).isSome&&true)) else ((ee p1 p2 p4 p5 p6 (0,p3)).isSome&&true)) else (decide (0≤p5.aw)&&decide (p5.aw < Int.ofNat 64)&&(bif aY (p4.ag.getD (scale 1 p5.aw).toNat 0)==6 then (bif p5.aM==0 then (decide (0≤p3.aa)&&decide (p3.aa < Int.ofNat 2)&&((ee p1 p2 p4 p5 p6 (0,Pos.mk p3.variant p3.ag p3.ab p3.af p3.aa (List.take (scale 2 p3.aa).toNat p3.ak++li [-1,-1]++List.drop ((scale 2 p3.aa).toNat+2) p3.ak) p3.ah p3.ai p3.half p3.full)).isSome&&true)) else ((ee p1 p2 p4 p5 p6 (0,p3)).isSome&&true)) else ((ee p1 p2 p4 p5 p6 (0,p3)).isSome&&true))))
abbrev KA {α:Type} (k:Pos→Mv→Pos→Pos→Mv→Int→α) (s:St):α:=wP s 0 fun q0=>wP s 3 fun q3=>wM s 1 fun q1=>k q0 q1 q3 (Kz.Pos.mk (tI (tH s 3 10)) (tN (tH s 3 11)) (tU (tH s 3 12)) (tN (tH s 3 13)) (tI (tH s 3 14)) (tN (tH s 3 15)) (tI (tH s 3 16)) (tN (tH s 3 17)) (tI (tH s 3 18)) (tI (tH s 3 19))) (Kz.Mv.mk (tI (tH s 3 20)) (tI (tH s 3 21)) (tI (tH s 3 22)) (tI (tH s 3 23)) (tB (tH s 3 24))) (tI (tH s 3 25))
theorem LH (p1:Pos) (p2:Mv) (p3:Pos) (p4:Pos) (p5:Mv) (p6:Int) (h:mO p1 p2 p3 p4 p5 p6=true):cR Pz 116 (Ja p1 p2 p3 p4 p5 p6) (I7 p1 p2 p3 p4 p5 p6) (Ez p1 p2 p3 p4 p5 p6 (dv p1 p2 p3 p4 p5 p6))∧∃ fn,Pz.funcs[116]?=some fn∧fn.body.isSome=true:=iX (n:=14) (O:=Ez p1 p2 p3 p4 p5 p6) J3 (fun o=>match o with | .ret v h=>(let s:St:=⟨[v],h⟩; wP s 3 fun q3=>some q3) | _=>none) (fun _=>rfl) (by kernel_rfl) (by kernel_rfl) (by kernel_rfl) (by kernel_rfl) h
noncomputable def pV (xs:List AV) (h:Hp):Tr bV:=KA (fun p1 p2 p3 p4 p5 p6=>fk xs h (Ja p1 p2 p3 p4 p5 p6) (I7 p1 p2 p3 p4 p5 p6) (mO p1 p2 p3 p4 p5 p6) (Ez p1 p2 p3 p4 p5 p6) (dv p1 p2 p3 p4 p5 p6)) ⟨xs,h⟩
theorem oH:eX Pz 116 pV:=fun _ _ _ h=>qx (LH _ _ _ _ _ _) h
noncomputable def OK:aC:=au Pz (fun f i=>bI f i Bm) [(61,yr),(76,zR),(31,xb),(112,nc),(191,fJ),(175,gE),(183,n9),(184,oz),(178,jX),(186,oo),(187,iW),(188,ot),(155,jq),(190,lL),(192,oe)] [(115,2,lS),(116,7,pA),(116,3,si)] [(113,gu),(114,gS),(115,ju),(116,pV)]
theorem Kq:bD OK:=ao al ⟨y3,Aa,zD,oq,fM,hM,qg,pF,kH,pM,jr,pE,j6,nE,pN,trivial⟩ ⟨j9,ny,oZ,trivial⟩ ⟨fh,fR,iN,oH,trivial⟩
noncomputable def Jd (p1:Pos) (p2:Mv) (p3:Pos) (p4:Pos) (p5:Mv) (p6:Int):List AV:=[AV.ptr 3 0]
noncomputable def IW (p1:Pos) (p2:Mv) (p3:Pos) (p4:Pos) (p5:Mv) (p6:Int):Hp:=Hp.mk [(pc p1 []),[AV.int .i8 p2.aw,AV.int .i8 p2.to,AV.int .u8 p2.aI,AV.int .u8 p2.aM,AV.bool p2.bh],zpB,(pc p3 (pc p4 [AV.int .i8 p5.aw,AV.int .i8 p5.to,AV.int .u8 p5.aI,AV.int .u8 p5.aM,AV.bool p5.bh,AV.int .i64 p6]))] [] [] 0 0 0
noncomputable def CC (p1:Pos) (p2:Mv) (p3:Pos) (p4:Pos) (p5:Mv) (p6:Int) (y:(Pos)):bV := .ret (AV.tuple []) (Hp.mk [(pc p1 []),[AV.int .i8 p2.aw,AV.int .i8 p2.to,AV.int .u8 p2.aI,AV.int .u8 p2.aM,AV.bool p2.bh],zpB,(pc y (pc p4 [AV.int .i8 p5.aw,AV.int .i8 p5.to,AV.int .u8 p5.aI,AV.int .u8 p5.aM,AV.bool p5.bh,AV.int .i64 p6]))] [] [] 0 0 0)
noncomputable def dN (p1:Pos) (p2:Mv) (p3:Pos) (p4:Pos) (p5:Mv) (p6:Int):(Pos):=(bif p5.aM != 0 then (bif p5.aM != 1 then (Pos.mk p3.variant p3.ag p3.ab p3.af p3.aa p3.ak (-1) p3.ai p3.half p3.full) else (bif p5.aM != 0 then (Pos.mk p3.variant p3.ag p3.ab p3.af p3.aa p3.ak (-1) p3.ai p3.half p3.full) else (bif wr .i8 (p5.to - p5.aw) != 16 then (bif wr .i8 (p5.aw - p5.to) != 16 then (Pos.mk p3.variant p3.ag p3.ab p3.af p3.aa p3.ak (-1) p3.ai p3.half p3.full) else (bif wr .i8 (p5.aw.tdiv 8) != wr .i8 (wr .i8 (7 * wr .i8 p3.aa)+1) then (bif wr .i8 (p5.aw.tdiv 8) != wr .i8 (wr .i8 (7 * wr .i8 p3.aa) - 1) then (Pos.mk p3.variant p3.ag p3.ab p3.af p3.aa p3.ak (-1) p3.ai p3.half p3.full) else (bif dQ p3.aa (wr .i64 (wr .i8 ((wr .i8 (p5.aw+p5.to)).tdiv 2)))&&&b8 (Pos.mk p3.variant p3.ag p3.ab p3.af p3.aa p3.ak (-1) p3.ai p3.half p3.full) (wr .u8 (1 - p3.aa)) 1 != 0#64 then (Pos.mk p3.variant p3.ag p3.ab p3.af p3.aa p3.ak (wr .i8 ((wr .i8 (p5.aw+p5.to)).tdiv 2)) p3.ai p3.half p3.full) else (Pos.mk p3.variant p3.ag p3.ab p3.af p3.aa p3.ak (-1) p3.ai p3.half p3.full))) else (bif dQ p3.aa (wr .i64 (wr .i8 ((wr .i8 (p5.aw+p5.to)).tdiv 2)))&&&b8 (Pos.mk p3.variant p3.ag p3.ab p3.af p3.aa p3.ak (-1) p3.ai p3.half p3.full) (wr .u8 (1 - p3.aa)) 1 != 0#64 then (Pos.mk p3.variant p3.ag p3.ab p3.af p3.aa p3.ak (wr .i8 ((wr .i8 (p5.aw+p5.to)).tdiv 2)) p3.ai p3.half p3.full) else (Pos.mk p3.variant p3.ag p3.ab p3.af p3.aa p3.ak (-1) p3.ai p3.half p3.full)))) else (bif wr .i8 (p5.aw.tdiv 8) != wr .i8 (wr .i8 (7 * wr .i8 p3.aa)+1) then (bif wr .i8 (p5.aw.tdiv 8) != wr .i8 (wr .i8 (7 * wr .i8 p3.aa) - 1) then (Pos.mk p3.variant p3.ag p3.ab p3.af p3.aa p3.ak (-1) p3.ai p3.half p3.full) else (bif dQ p3.aa (wr .i64 (wr .i8 ((wr .i8 (p5.aw+p5.to)).tdiv 2)))&&&b8 (Pos.mk p3.variant p3.ag p3.ab p3.af p3.aa p3.ak (-1) p3.ai p3.half p3.full) (wr .u8 (1 - p3.aa)) 1 != 0#64 then (Pos.mk p3.variant p3.ag p3.ab p3.af p3.aa p3.ak (wr .i8 ((wr .i8 (p5.aw+p5.to)).tdiv 2)) p3.ai p3.half p3.full) else (Pos.mk p3.variant p3.ag p3.ab p3.af p3.aa p3.ak (-1) p3.ai p3.half p3.full))) else (bif dQ p3.aa (wr .i64 (wr .i8 ((wr .i8 (p5.aw+p5.to)).tdiv 2)))&&&b8 (Pos.mk p3.variant p3.ag p3.ab p3.af p3.aa p3.ak (-1) p3.ai p3.half p3.full) (wr .u8 (1 - p3.aa)) 1 != 0#64 then (Pos.mk p3.variant p3.ag p3.ab p3.af p3.aa p3.ak (wr .i8 ((wr .i8 (p5.aw+p5.to)).tdiv 2)) p3.ai p3.half p3.full) else (Pos.mk p3.variant p3.ag p3.ab p3.af p3.aa p3.ak (-1) p3.ai p3.half p3.full)))))) else (bif aY (p4.ag.getD (scale 1 p5.aw).toNat 0) != 1 then (Pos.mk p3.variant p3.ag p3.ab p3.af p3.aa p3.ak (-1) p3.ai p3.half p3.full) else (bif p5.aM != 0 then (Pos.mk p3.variant p3.ag p3.ab p3.af p3.aa p3.ak (-1) p3.ai p3.half p3.full) else (bif wr .i8 (p5.to - p5.aw) != 16 then (bif wr .i8 (p5.aw - p5.to) != 16 then (Pos.mk p3.variant p3.ag p3.ab p3.af p3.aa p3.ak (-1) p3.ai p3.half p3.full) else (bif wr .i8 (p5.aw.tdiv 8) != wr .i8 (wr .i8 (7 * wr .i8 p3.aa)+1) then (bif wr .i8 (p5.aw.tdiv 8) != wr .i8 (wr .i8 (7 * wr .i8 p3.aa) - 1) then (Pos.mk p3.variant p3.ag p3.ab p3.af p3.aa p3.ak (-1) p3.ai p3.half p3.full) else (bif dQ p3.aa (wr .i64 (wr .i8 ((wr .i8 (p5.aw+p5.to)).tdiv 2)))&&&b8 (Pos.mk p3.variant p3.ag p3.ab p3.af p3.aa p3.ak (-1) p3.ai p3.half p3.full) (wr .u8 (1 - p3.aa)) 1 != 0#64 then (Pos.mk p3.variant p3.ag p3.ab p3.af p3.aa p3.ak (wr .i8 ((wr .i8 (p5.aw+p5.to)).tdiv 2)) p3.ai p3.half p3.full) else (Pos.mk p3.variant p3.ag p3.ab p3.af p3.aa p3.ak (-1) p3.ai p3.half p3.full))) else (bif dQ p3.aa (wr .i64 (wr .i8 ((wr .i8 (p5.aw+p5.to)).tdiv 2)))&&&b8 (Pos.mk p3.variant p3.ag p3.ab p3.af p3.aa p3.ak (-1) p3.ai p3.half p3.full) (wr .u8 (1 - p3.aa)) 1 != 0#64 then (Pos.mk p3.variant p3.ag p3.ab p3.af p3.aa p3.ak (wr .i8 ((wr .i8 (p5.aw+p5.to)).tdiv 2)) p3.ai p3.half p3.full) else (Pos.mk p3.variant p3.ag p3.ab p3.af p3.aa p3.ak (-1) p3.ai p3.half p3.full)))) else (bif wr .i8 (p5.aw.tdiv 8) != wr .i8 (wr .i8 (7 * wr .i8 p3.aa)+1) then (bif wr .i8 (p5.aw.tdiv 8) != wr .i8 (wr .i8 (7 * wr .i8 p3.aa) - 1) then (Pos.mk p3.variant p3.ag p3.ab p3.af p3.aa p3.ak (-1) p3.ai p3.half p3.full) else (bif dQ p3.aa (wr .i64 (wr .i8 ((wr .i8 (p5.aw+p5.to)).tdiv 2)))&&&b8 (Pos.mk p3.variant p3.ag p3.ab p3.af p3.aa p3.ak (-1) p3.ai p3.half p3.full) (wr .u8 (1 - p3.aa)) 1 != 0#64 then (Pos.mk p3.variant p3.ag p3.ab p3.af p3.aa p3.ak (wr .i8 ((wr .i8 (p5.aw+p5.to)).tdiv 2)) p3.ai p3.half p3.full) else (Pos.mk p3.variant p3.ag p3.ab p3.af p3.aa p3.ak (-1) p3.ai p3.half p3.full))) else (bif dQ p3.aa (wr .i64 (wr .i8 ((wr .i8 (p5.aw+p5.to)).tdiv 2)))&&&b8 (Pos.mk p3.variant p3.ag p3.ab p3.af p3.aa p3.ak (-1) p3.ai p3.half p3.full) (wr .u8 (1 - p3.aa)) 1 != 0#64 then (Pos.mk p3.variant p3.ag p3.ab p3.af p3.aa p3.ak (wr .i8 ((wr .i8 (p5.aw+p5.to)).tdiv 2)) p3.ai p3.half p3.full) else (Pos.mk p3.variant p3.ag p3.ab p3.af p3.aa p3.ak (-1) p3.ai p3.half p3.full)))))))
noncomputable def mR (p1:Pos) (p2:Mv) (p3:Pos) (p4:Pos) (p5:Mv) (p6:Int):Bool:=(bif p5.aM != 0 then (bif p5.aM != 1 then true else (bif p5.aM != 0 then true else (bif wr .i8 (p5.to - p5.aw) != 16 then (bif wr .i8 (p5.aw - p5.to) != 16 then true else (bif wr .i8 (p5.aw.tdiv 8) != wr .i8 (wr .i8 (7 * wr .i8 p3.aa)+1) then (bif wr .i8 (p5.aw.tdiv 8) != wr .i8 (wr .i8 (7 * wr .i8 p3.aa) - 1) then true else (gO (p3.aa) (wr .i64 (wr .i8 ((wr .i8 (p5.aw+p5.to)).tdiv 2)))&&(cn (Pos.mk p3.variant p3.ag p3.ab p3.af p3.aa p3.ak (-1) p3.ai p3.half p3.full) (wr .u8 (1 - p3.aa)) (1)&&true))) else (gO (p3.aa) (wr .i64 (wr .i8 ((wr .i8 (p5.aw+p5.to)).tdiv 2)))&&(cn (Pos.mk p3.variant p3.ag p3.ab p3.af p3.aa p3.ak (-1) p3.ai p3.half p3.full) (wr .u8 (1 - p3.aa)) (1)&&true)))) else (bif wr .i8 (p5.aw.tdiv 8) != wr .i8 (wr .i8 (7 * wr .i8 p3.aa)+1) then (bif wr .i8 (p5.aw.tdiv 8) != wr .i8 (wr .i8 (7 * wr .i8 p3.aa) - 1) then true else (gO (p3.aa) (wr .i64 (wr .i8 ((wr .i8 (p5.aw+p5.to)).tdiv 2)))&&(cn (Pos.mk p3.variant p3.ag p3.ab p3.af p3.aa p3.ak (-1) p3.ai p3.half p3.full) (wr .u8 (1 - p3.aa)) (1)&&true))) else (gO (p3.aa) (wr .i64 (wr .i8 ((wr .i8 (p5.aw+p5.to)).tdiv 2)))&&(cn (Pos.mk p3.variant p3.ag p3.ab p3.af p3.aa p3.ak (-1) p3.ai p3.half p3.full) (wr .u8 (1 - p3.aa)) (1)&&true)))))) else (decide (0≤p5.aw)&&decide (p5.aw < Int.ofNat 64)&&(bif aY (p4.ag.getD (scale 1 p5.aw).toNat 0) != 1 then true else (bif p5.aM != 0 then true else (bif wr .i8 (p5.to - p5.aw) != 16 then (bif wr .i8 (p5.aw - p5.to) != 16 then true else (bif wr .i8 (p5.aw.tdiv 8) != wr .i8 (wr .i8 (7 * wr .i8 p3.aa)+1) then (bif wr .i8 (p5.aw.tdiv 8) != wr .i8 (wr .i8 (7 * wr .i8 p3.aa) - 1) then true else (gO (p3.aa) (wr .i64 (wr .i8 ((wr .i8 (p5.aw+p5.to)).tdiv 2)))&&(cn (Pos.mk p3.variant p3.ag p3.ab p3.af p3.aa p3.ak (-1) p3.ai p3.half p3.full) (wr .u8 (1 - p3.aa)) (1)&&true))) else (gO (p3.aa) (wr .i64 (wr .i8 ((wr .i8 (p5.aw+p5.to)).tdiv 2)))&&(cn (Pos.mk p3.variant p3.ag p3.ab p3.af p3.aa p3.ak (-1) p3.ai p3.half p3.full) (wr .u8 (1 - p3.aa)) (1)&&true)))) else (bif wr .i8 (p5.aw.tdiv 8) != wr .i8 (wr .i8 (7 * wr .i8 p3.aa)+1) then (bif wr .i8 (p5.aw.tdiv 8) != wr .i8 (wr .i8 (7 * wr .i8 p3.aa) - 1) then true else (gO (p3.aa) (wr .i64 (wr .i8 ((wr .i8 (p5.aw+p5.to)).tdiv 2)))&&(cn (Pos.mk p3.variant p3.ag p3.ab p3.af p3.aa p3.ak (-1) p3.ai p3.half p3.full) (wr .u8 (1 - p3.aa)) (1)&&true))) else (gO (p3.aa) (wr .i64 (wr .i8 ((wr .i8 (p5.aw+p5.to)).tdiv 2)))&&(cn (Pos.mk p3.variant p3.ag p3.ab p3.af p3.aa p3.ak (-1) p3.ai p3.half p3.full) (wr .u8 (1 - p3.aa)) (1)&&true))))))))
abbrev JL {α:Type} (k:Pos→Mv→Pos→Pos→Mv→Int→α) (s:St):α:=wP s 0 fun q0=>wP s 3 fun q3=>wM s 1 fun q1=>k q0 q1 q3 (Kz.Pos.mk (tI (tH s 3 10)) (tN (tH s 3 11)) (tU (tH s 3 12)) (tN (tH s 3 13)) (tI (tH s 3 14)) (tN (tH s 3 15)) (tI (tH s 3 16)) (tN (tH s 3 17)) (tI (tH s 3 18)) (tI (tH s 3 19))) (Kz.Mv.mk (tI (tH s 3 20)) (tI (tH s 3 21)) (tI (tH s 3 22)) (tI (tH s 3 23)) (tB (tH s 3 24))) (tI (tH s 3 25))
theorem MY (p1:Pos) (p2:Mv) (p3:Pos) (p4:Pos) (p5:Mv) (p6:Int) (h:mR p1 p2 p3 p4 p5 p6=true):cR Pz 117 (Jd p1 p2 p3 p4 p5 p6) (IW p1 p2 p3 p4 p5 p6) (CC p1 p2 p3 p4 p5 p6 (dN p1 p2 p3 p4 p5 p6))∧∃ fn,Pz.funcs[117]?=some fn∧fn.body.isSome=true:=iX (n:=14) (O:=CC p1 p2 p3 p4 p5 p6) Kq (fun o=>match o with | .ret v h=>(let s:St:=⟨[v],h⟩; wP s 3 fun q3=>some q3) | _=>none) (fun _=>rfl) (by kernel_rfl) (by kernel_rfl) (by kernel_rfl) (by kernel_rfl) h
noncomputable def sS (xs:List AV) (h:Hp):Tr bV:=JL (fun p1 p2 p3 p4 p5 p6=>fk xs h (Jd p1 p2 p3 p4 p5 p6) (IW p1 p2 p3 p4 p5 p6) (mR p1 p2 p3 p4 p5 p6) (CC p1 p2 p3 p4 p5 p6) (dN p1 p2 p3 p4 p5 p6)) ⟨xs,h⟩
theorem td:eX Pz 117 sS:=fun _ _ _ h=>qx (MY _ _ _ _ _ _) h
noncomputable def KG:aC:=au Pz (fun f i=>bI f i Bm) [(61,yr),(76,zR),(31,xb),(112,nc),(191,fJ),(175,gE),(183,n9),(184,oz),(178,jX),(186,oo),(187,iW),(188,ot),(155,jq),(190,lL),(192,oe)] [(115,2,lS),(116,7,pA),(116,3,si)] [(113,gu),(114,gS),(115,ju),(116,pV),(117,sS)]
theorem FB:bD KG:=ao al ⟨y3,Aa,zD,oq,fM,hM,qg,pF,kH,pM,jr,pE,j6,nE,pN,trivial⟩ ⟨j9,ny,oZ,trivial⟩ ⟨fh,fR,iN,oH,td,trivial⟩
noncomputable def EB (p1:Pos) (p2:Mv) (p3:Pos) (p4:Pos) (p5:Mv) (p6:Int):List AV:=[AV.ptr 3 0]
noncomputable def Ej (p1:Pos) (p2:Mv) (p3:Pos) (p4:Pos) (p5:Mv) (p6:Int):Hp:=Hp.mk [(pc p1 []),[AV.int .i8 p2.aw,AV.int .i8 p2.to,AV.int .u8 p2.aI,AV.int .u8 p2.aM,AV.bool p2.bh],zpB,(pc p3 (pc p4 [AV.int .i8 p5.aw,AV.int .i8 p5.to,AV.int .u8 p5.aI,AV.int .u8 p5.aM,AV.bool p5.bh,AV.int .i64 p6]))] [] [] 0 0 0
noncomputable def xP (p1:Pos) (p2:Mv) (p3:Pos) (p4:Pos) (p5:Mv) (p6:Int) (y:(Pos)):bV := .ret (AV.tuple []) (Hp.mk [(pc p1 []),[AV.int .i8 p2.aw,AV.int .i8 p2.to,AV.int .u8 p2.aI,AV.int .u8 p2.aM,AV.bool p2.bh],zpB,(pc y (pc p4 [AV.int .i8 p5.aw,AV.int .i8 p5.to,AV.int .u8 p5.aI,AV.int .u8 p5.aM,AV.bool p5.bh,AV.int .i64 p6]))] [] [] 0 0 0)
noncomputable def cY (p1:Pos) (p2:Mv) (p3:Pos) (p4:Pos) (p5:Mv) (p6:Int):(Pos):=(bif p5.aM != 0 then (bif p5.aM==1 then (bif p3.aa==1 then (Pos.mk p3.variant p3.ag p3.ab p3.af p3.aa p3.ak p3.ah p3.ai 0 (lq p3.full)) else (Pos.mk p3.variant p3.ag p3.ab p3.af p3.aa p3.ak p3.ah p3.ai 0 p3.full)) else (bif decide (p6 ≥ 0) then (bif p3.aa==1 then (Pos.mk p3.variant p3.ag p3.ab p3.af p3.aa p3.ak p3.ah p3.ai 0 (lq p3.full)) else (Pos.mk p3.variant p3.ag p3.ab p3.af p3.aa p3.ak p3.ah p3.ai 0 p3.full)) else (bif p3.aa==1 then (Pos.mk p3.variant p3.ag p3.ab p3.af p3.aa p3.ak p3.ah p3.ai (lq p3.half) (lq p3.full)) else (Pos.mk p3.variant p3.ag p3.ab p3.af p3.aa p3.ak p3.ah p3.ai (lq p3.half) p3.full)))) else (bif aY (p4.ag.getD (scale 1 p5.aw).toNat 0)==1 then (bif p3.aa==1 then (Pos.mk p3.variant p3.ag p3.ab p3.af p3.aa p3.ak p3.ah p3.ai 0 (lq p3.full)) else (Pos.mk p3.variant p3.ag p3.ab p3.af p3.aa p3.ak p3.ah p3.ai 0 p3.full)) else (bif decide (p6 ≥ 0) then (bif p3.aa==1 then (Pos.mk p3.variant p3.ag p3.ab p3.af p3.aa p3.ak p3.ah p3.ai 0 (lq p3.full)) else (Pos.mk p3.variant p3.ag p3.ab p3.af p3.aa p3.ak p3.ah p3.ai 0 p3.full)) else (bif p3.aa==1 then (Pos.mk p3.variant p3.ag p3.ab p3.af p3.aa p3.ak p3.ah p3.ai (lq p3.half) (lq p3.full)) else (Pos.mk p3.variant p3.ag p3.ab p3.af p3.aa p3.ak p3.ah p3.ai (lq p3.half) p3.full)))))
noncomputable def jZ (p1:Pos) (p2:Mv) (p3:Pos) (p4:Pos) (p5:Mv) (p6:Int):Bool:=(bif p5.aM != 0 then true else (decide (0≤p5.aw)&&decide (p5.aw < Int.ofNat 64)&&true))
abbrev FW {α:Type} (k:Pos→Mv→Pos→Pos→Mv→Int→α) (s:St):α:=wP s 0 fun q0=>wP s 3 fun q3=>wM s 1 fun q1=>k q0 q1 q3 (Kz.Pos.mk (tI (tH s 3 10)) (tN (tH s 3 11)) (tU (tH s 3 12)) (tN (tH s 3 13)) (tI (tH s 3 14)) (tN (tH s 3 15)) (tI (tH s 3 16)) (tN (tH s 3 17)) (tI (tH s 3 18)) (tI (tH s 3 19))) (Kz.Mv.mk (tI (tH s 3 20)) (tI (tH s 3 21)) (tI (tH s 3 22)) (tI (tH s 3 23)) (tB (tH s 3 24))) (tI (tH s 3 25))
theorem H4 (p1:Pos) (p2:Mv) (p3:Pos) (p4:Pos) (p5:Mv) (p6:Int) (h:jZ p1 p2 p3 p4 p5 p6=true):cR Pz 118 (EB p1 p2 p3 p4 p5 p6) (Ej p1 p2 p3 p4 p5 p6) (xP p1 p2 p3 p4 p5 p6 (cY p1 p2 p3 p4 p5 p6))∧∃ fn,Pz.funcs[118]?=some fn∧fn.body.isSome=true:=iX (n:=14) (O:=xP p1 p2 p3 p4 p5 p6) FB (fun o=>match o with | .ret v h=>(let s:St:=⟨[v],h⟩; wP s 3 fun q3=>some q3) | _=>none) (fun _=>rfl) (by kernel_rfl) (by kernel_rfl) (by kernel_rfl) (by kernel_rfl) h
noncomputable def tQ (xs:List AV) (h:Hp):Tr bV:=FW (fun p1 p2 p3 p4 p5 p6=>fk xs h (EB p1 p2 p3 p4 p5 p6) (Ej p1 p2 p3 p4 p5 p6) (jZ p1 p2 p3 p4 p5 p6) (xP p1 p2 p3 p4 p5 p6) (cY p1 p2 p3 p4 p5 p6)) ⟨xs,h⟩
theorem uU:eX Pz 118 tQ:=fun _ _ _ h=>qx (H4 _ _ _ _ _ _) h
noncomputable def J5:aC:=au Pz (fun f i=>bI f i Bm) [(61,yr),(76,zR),(31,xb),(112,nc),(191,fJ),(175,gE),(183,n9),(184,oz),(178,jX),(186,oo),(187,iW),(188,ot),(155,jq),(190,lL),(192,oe)] [(115,2,lS),(116,7,pA),(116,3,si)] [(113,gu),(114,gS),(115,ju),(116,pV),(117,sS),(118,tQ)]
theorem Gj:bD J5:=ao al ⟨y3,Aa,zD,oq,fM,hM,qg,pF,kH,pM,jr,pE,j6,nE,pN,trivial⟩ ⟨j9,ny,oZ,trivial⟩ ⟨fh,fR,iN,oH,td,uU,trivial⟩
noncomputable def DE (p1:Pos) (p2:Mv) (p3:Pos) (p4:Pos) (p5:Mv) (p6:Int):List AV:=[AV.ptr 3 0]
noncomputable def Dw (p1:Pos) (p2:Mv) (p3:Pos) (p4:Pos) (p5:Mv) (p6:Int):Hp:=Hp.mk [(pc p1 []),[AV.int .i8 p2.aw,AV.int .i8 p2.to,AV.int .u8 p2.aI,AV.int .u8 p2.aM,AV.bool p2.bh],zpB,(pc p3 (pc p4 [AV.int .i8 p5.aw,AV.int .i8 p5.to,AV.int .u8 p5.aI,AV.int .u8 p5.aM,AV.bool p5.bh,AV.int .i64 p6]))] [] [] 0 0 0
noncomputable def xT (p1:Pos) (p2:Mv) (p3:Pos) (p4:Pos) (p5:Mv) (p6:Int) (y:(Pos)):bV := .ret (AV.tuple []) (Hp.mk [(pc p1 []),[AV.int .i8 p2.aw,AV.int .i8 p2.to,AV.int .u8 p2.aI,AV.int .u8 p2.aM,AV.bool p2.bh],zpB,(pc y (pc p4 [AV.int .i8 p5.aw,AV.int .i8 p5.to,AV.int .u8 p5.aI,AV.int .u8 p5.aM,AV.bool p5.bh,AV.int .i64 p6]))] [] [] 0 0 0)
noncomputable def cQ (p1:Pos) (p2:Mv) (p3:Pos) (p4:Pos) (p5:Mv) (p6:Int):(Pos):=(bif p3.variant==5 then (bif decide (p3.ai.getD (scale 1 (wr .u8 (1 - wr .u8 (1 - p3.aa)))).toNat 0 < 3) then (bif Bb (Pos.mk p3.variant p3.ag p3.ab p3.af (wr .u8 (1 - p3.aa)) p3.ak p3.ah p3.ai p3.half p3.full) (wr .u8 (1 - p3.aa)) then (Pos.mk p3.variant p3.ag p3.ab p3.af (wr .u8 (1 - p3.aa)) p3.ak p3.ah (p3.ai.set (scale 1 (wr .u8 (1 - wr .u8 (1 - p3.aa)))).toNat (wr .u8 (p3.ai.getD (scale 1 (wr .u8 (1 - wr .u8 (1 - p3.aa)))).toNat 0+1))) p3.half p3.full) else (Pos.mk p3.variant p3.ag p3.ab p3.af (wr .u8 (1 - p3.aa)) p3.ak p3.ah p3.ai p3.half p3.full)) else (Pos.mk p3.variant p3.ag p3.ab p3.af (wr .u8 (1 - p3.aa)) p3.ak p3.ah p3.ai p3.half p3.full)) else (Pos.mk p3.variant p3.ag p3.ab p3.af (wr .u8 (1 - p3.aa)) p3.ak p3.ah p3.ai p3.half p3.full))
noncomputable def jI (p1:Pos) (p2:Mv) (p3:Pos) (p4:Pos) (p5:Mv) (p6:Int):Bool:=(bif p3.variant==5 then (decide (0≤wr .u8 (1 - wr .u8 (1 - p3.aa)))&&decide (wr .u8 (1 - wr .u8 (1 - p3.aa)) < Int.ofNat 2)&&(bif decide (p3.ai.getD (scale 1 (wr .u8 (1 - wr .u8 (1 - p3.aa)))).toNat 0 < 3) then (ob (Pos.mk p3.variant p3.ag p3.ab p3.af (wr .u8 (1 - p3.aa)) p3.ak p3.ah p3.ai p3.half p3.full) (wr .u8 (1 - p3.aa))&&(bif Bb (Pos.mk p3.variant p3.ag p3.ab p3.af (wr .u8 (1 - p3.aa)) p3.ak p3.ah p3.ai p3.half p3.full) (wr .u8 (1 - p3.aa)) then (decide (0≤wr .u8 (1 - wr .u8 (1 - p3.aa)))&&decide (wr .u8 (1 - wr .u8 (1 - p3.aa)) < Int.ofNat 2)&&(decide (0≤wr .u8 (1 - wr .u8 (1 - p3.aa)))&&decide (wr .u8 (1 - wr .u8 (1 - p3.aa)) < Int.ofNat 2)&&true)) else true)) else true)) else true)
abbrev Fg {α:Type} (k:Pos→Mv→Pos→Pos→Mv→Int→α) (s:St):α:=wP s 0 fun q0=>wP s 3 fun q3=>wM s 1 fun q1=>k q0 q1 q3 (Kz.Pos.mk (tI (tH s 3 10)) (tN (tH s 3 11)) (tU (tH s 3 12)) (tN (tH s 3 13)) (tI (tH s 3 14)) (tN (tH s 3 15)) (tI (tH s 3 16)) (tN (tH s 3 17)) (tI (tH s 3 18)) (tI (tH s 3 19))) (Kz.Mv.mk (tI (tH s 3 20)) (tI (tH s 3 21)) (tI (tH s 3 22)) (tI (tH s 3 23)) (tB (tH s 3 24))) (tI (tH s 3 25))
theorem GL (p1:Pos) (p2:Mv) (p3:Pos) (p4:Pos) (p5:Mv) (p6:Int) (h:jI p1 p2 p3 p4 p5 p6=true):cR Pz 119 (DE p1 p2 p3 p4 p5 p6) (Dw p1 p2 p3 p4 p5 p6) (xT p1 p2 p3 p4 p5 p6 (cQ p1 p2 p3 p4 p5 p6))∧∃ fn,Pz.funcs[119]?=some fn∧fn.body.isSome=true:=iX (n:=14) (O:=xT p1 p2 p3 p4 p5 p6) Gj (fun o=>match o with | .ret v h=>(let s:St:=⟨[v],h⟩; wP s 3 fun q3=>some q3) | _=>none) (fun _=>rfl) (by kernel_rfl) (by kernel_rfl) (by kernel_rfl) (by kernel_rfl) h
noncomputable def yU (xs:List AV) (h:Hp):Tr bV:=Fg (fun p1 p2 p3 p4 p5 p6=>fk xs h (DE p1 p2 p3 p4 p5 p6) (Dw p1 p2 p3 p4 p5 p6) (jI p1 p2 p3 p4 p5 p6) (xT p1 p2 p3 p4 p5 p6) (cQ p1 p2 p3 p4 p5 p6)) ⟨xs,h⟩
theorem C6:eX Pz 119 yU:=fun _ _ _ h=>qx (GL _ _ _ _ _ _) h
noncomputable def B59:aC:=au Pz (fun f i=>bI f i Bm) [(61,yr),(76,zR),(31,xb),(112,nc),(191,fJ),(175,gE),(183,n9),(184,oz),(178,jX),(186,oo),(187,iW),(188,ot),(155,jq),(190,lL),(192,oe)] [(115,2,lS),(116,7,pA),(116,3,si)] [(113,gu),(114,gS),(115,ju),(116,pV),(117,sS),(118,tQ),(119,yU)]
theorem UT:bD B59:=ao al ⟨y3,Aa,zD,oq,fM,hM,qg,pF,kH,pM,jr,pE,j6,nE,pN,trivial⟩ ⟨j9,ny,oZ,trivial⟩ ⟨fh,fR,iN,oH,td,uU,C6,trivial⟩
noncomputable def iD (a:Pos) (b:Mv):(Pos×Bool):=(bif !A0 (dO a) b then (⟨(a.variant),(a.ag),(a.ab),(a.af),(a.aa),(a.ak),(a.ah),(a.ai),(a.half),(a.full)⟩,(false)) else (⟨((cQ a b (cY a b (dN a b (dv a b (dj a b (da a b (cJ a b a a b (aU a b)) a b (aU a b)) a b (aU a b)) a b (aU a b)) a b (aU a b)) a b (aU a b)) a b (aU a b)).variant),((cQ a b (cY a b (dN a b (dv a b (dj a b (da a b (cJ a b a a b (aU a b)) a b (aU a b)) a b (aU a b)) a b (aU a b)) a b (aU a b)) a b (aU a b)) a b (aU a b)).ag),((cQ a b (cY a b (dN a b (dv a b (dj a b (da a b (cJ a b a a b (aU a b)) a b (aU a b)) a b (aU a b)) a b (aU a b)) a b (aU a b)) a b (aU a b)) a b (aU a b)).ab),((cQ a b (cY a b (dN a b (dv a b (dj a b (da a b (cJ a b a a b (aU a b)) a b (aU a b)) a b (aU a b)) a b (aU a b)) a b (aU a b)) a b (aU a b)) a b (aU a b)).af),((cQ a b (cY a b (dN a b (dv a b (dj a b (da a b (cJ a b a a b (aU a b)) a b (aU a b)) a b (aU a b)) a b (aU a b)) a b (aU a b)) a b (aU a b)) a b (aU a b)).aa),((cQ a b (cY a b (dN a b (dv a b (dj a b (da a b (cJ a b a a b (aU a b)) a b (aU a b)) a b (aU a b)) a b (aU a b)) a b (aU a b)) a b (aU a b)) a b (aU a b)).ak),((cQ a b (cY a b (dN a b (dv a b (dj a b (da a b (cJ a b a a b (aU a b)) a b (aU a b)) a b (aU a b)) a b (aU a b)) a b (aU a b)) a b (aU a b)) a b (aU a b)).ah),((cQ a b (cY a b (dN a b (dv a b (dj a b (da a b (cJ a b a a b (aU a b)) a b (aU a b)) a b (aU a b)) a b (aU a b)) a b (aU a b)) a b (aU a b)) a b (aU a b)).ai),((cQ a b (cY a b (dN a b (dv a b (dj a b (da a b (cJ a b a a b (aU a b)) a b (aU a b)) a b (aU a b)) a b (aU a b)) a b (aU a b)) a b (aU a b)) a b (aU a b)).half),((cQ a b (cY a b (dN a b (dv a b (dj a b (da a b (cJ a b a a b (aU a b)) a b (aU a b)) a b (aU a b)) a b (aU a b)) a b (aU a b)) a b (aU a b)) a b (aU a b)).full)⟩,(true)))
noncomputable def xI (a:Pos) (b:Mv):Bool:=(wm (a)&&(xD (dO a) (b)&&(bif !A0 (dO a) b then true else (ri (a) (b)&&(lD (a) (b) (a) (a) (b) (aU a b)&&(mc (a) (b) (cJ a b a a b (aU a b)) (a) (b) (aU a b)&&(lU (a) (b) (da a b (cJ a b a a b (aU a b)) a b (aU a b)) (a) (b) (aU a b)&&(mO (a) (b) (dj a b (da a b (cJ a b a a b (aU a b)) a b (aU a b)) a b (aU a b)) (a) (b) (aU a b)&&(mR (a) (b) (dv a b (dj a b (da a b (cJ a b a a b (aU a b)) a b (aU a b)) a b (aU a b)) a b (aU a b)) (a) (b) (aU a b)&&(jZ (a) (b) (dN a b (dv a b (dj a b (da a b (cJ a b a a b (aU a b)) a b (aU a b)) a b (aU a b)) a b (aU a b)) a b (aU a b)) (a) (b) (aU a b)&&(jI (a) (b) (cY a b (dN a b (dv a b (dj a b (da a b (cJ a b a a b (aU a b)) a b (aU a b)) a b (aU a b)) a b (aU a b)) a b (aU a b)) a b (aU a b)) (a) (b) (aU a b)&&true)))))))))))
theorem P59 (a:Pos) (b:Mv) (h:xI a b=true):PS Pz 59 [Pos.av a,Mv.av b] ((d2 bH dB).res (iD a b)):=aA (n:=14) UT (by kernel_rfl) (by kernel_rfl) (by kernel_rfl) h
noncomputable def Ws:List AV→Tr AV:=g2 bH iE (fun a b=>cE (xI a b) ((d2 bH dB).res (iD a b)))
theorem ZA:Sound Pz 59 Ws:=bB fun a b=>aJ (P59 a b)
end Kz
end
section
namespace Kz
open Go
set_option maxRecDepth 100000
theorem PR {i:Int} (h0:0≤i) (h1:i < 64):(decide (0≤i)&&decide (i < Int.ofNat 64))=true:=by
  rw [Bool.and_eq_true,decide_eq_true_eq,decide_eq_true_eq]
  exact ⟨h0,h1⟩
theorem tY {l:List Int} {a b v:Int} (h:∀ x ∈ l,a≤x∧x≤b) (hv:a≤v∧v≤b) (i:Nat):∀ x ∈ l.set i v,a≤x∧x≤b:=by
  intro x hx
  rcases List.mem_or_eq_of_mem_set hx with h1 | rfl
  · exact h x h1
  · exact hv
theorem sZ (a b:Int):0≤jo a b∧jo a b≤255:=by
  unfold jo
  exact az (P:=fun x:Int=>0≤x∧x≤255) (fun _=>by decide) fun _=>az (P:=fun x:Int=>0≤x∧x≤255) (fun _=>by decide) fun _=>az (P:=fun x:Int=>0≤x∧x≤255) (fun _=>by decide) fun _=>⟨ig _,jT _⟩
theorem zH {n:Int} (h : -9223372036854775808≤n∧n≤9223372036854775807) : -9223372036854775808≤lq n∧lq n≤9223372036854775807:=by
  unfold lq
  exact az (P:=fun x:Int => -9223372036854775808≤x∧x≤9223372036854775807) (fun _=>h) fun _=>DH _
structure dG (p q:Pos):Prop where
  cA:aR q
  v:q.variant=p.variant
  t:q.aa=p.aa
section
variable {p q:Pos}
theorem dG.ag (h:dG p q) {bd:List Int} (hl:bd.length=64) (hb:∀ x ∈ bd,0≤x∧x≤255) (pr:BitVec 64):dG p ⟨q.variant,bd,pr,q.af,q.aa,q.ak,q.ah,q.ai,q.half,q.full⟩ :=
  ⟨⟨h.cA.v0,h.cA.v1,hl,hb,h.cA.kl,h.cA.k0,h.cA.t0,h.cA.t1,h.cA.rl,h.cA.r0,h.cA.p0,h.cA.p1,h.cA.cl,h.cA.c0,h.cA.h0,h.cA.f0⟩,h.v,h.t⟩
theorem dG.set (h:dG p q) (i:Nat) {v:Int} (hv:0≤v∧v≤255):dG p ⟨q.variant,q.ag.set i v,q.ab,q.af,q.aa,q.ak,q.ah,q.ai,q.half,q.full⟩ :=
  h.ag (by rw [List.length_set]; exact h.cA.bl) (tY h.cA.b0 hv i) _
theorem dG.ab (h:dG p q) (pr:BitVec 64):dG p ⟨q.variant,q.ag,pr,q.af,q.aa,q.ak,q.ah,q.ai,q.half,q.full⟩:=h.ag h.cA.bl h.cA.b0 pr
theorem dG.af (h:dG p q) (i:Nat) {v:Int} (hv:0≤v∧v≤255):dG p ⟨q.variant,q.ag,q.ab,q.af.set i v,q.aa,q.ak,q.ah,q.ai,q.half,q.full⟩ :=
  ⟨⟨h.cA.v0,h.cA.v1,h.cA.bl,h.cA.b0,by rw [List.length_set]; exact h.cA.kl,tY h.cA.k0 hv i,h.cA.t0,h.cA.t1,h.cA.rl,h.cA.r0,h.cA.p0,h.cA.p1,h.cA.cl,h.cA.c0,h.cA.h0,h.cA.f0⟩,h.v,h.t⟩
theorem dG.ak (h:dG p q) {rk:List Int} (hl:rk.length=4) (hr:∀ x ∈ rk,-128≤x∧x≤127):dG p ⟨q.variant,q.ag,q.ab,q.af,q.aa,rk,q.ah,q.ai,q.half,q.full⟩ :=
  ⟨⟨h.cA.v0,h.cA.v1,h.cA.bl,h.cA.b0,h.cA.kl,h.cA.k0,h.cA.t0,h.cA.t1,hl,hr,h.cA.p0,h.cA.p1,h.cA.cl,h.cA.c0,h.cA.h0,h.cA.f0⟩,h.v,h.t⟩
theorem dG.Uf (h:dG p q) (i:Nat):dG p ⟨q.variant,q.ag,q.ab,q.af,q.aa,q.ak.set i (-1),q.ah,q.ai,q.half,q.full⟩ :=
  h.ak (by rw [List.length_set]; exact h.cA.rl) (tY h.cA.r0 (by omega) i)
theorem dG.ah (h:dG p q) {s:Int} (hs : -128≤s∧s≤127):dG p ⟨q.variant,q.ag,q.ab,q.af,q.aa,q.ak,s,q.ai,q.half,q.full⟩ :=
  ⟨⟨h.cA.v0,h.cA.v1,h.cA.bl,h.cA.b0,h.cA.kl,h.cA.k0,h.cA.t0,h.cA.t1,h.cA.rl,h.cA.r0,hs.1,hs.2,h.cA.cl,h.cA.c0,h.cA.h0,h.cA.f0⟩,h.v,h.t⟩
theorem dG.uy (h:dG p q) {a b:Int} (ha : -9223372036854775808≤a∧a≤9223372036854775807) (hb : -9223372036854775808≤b∧b≤9223372036854775807):dG p ⟨q.variant,q.ag,q.ab,q.af,q.aa,q.ak,q.ah,q.ai,a,b⟩ :=
  ⟨⟨h.cA.v0,h.cA.v1,h.cA.bl,h.cA.b0,h.cA.kl,h.cA.k0,h.cA.t0,h.cA.t1,h.cA.rl,h.cA.r0,h.cA.p0,h.cA.p1,h.cA.cl,h.cA.c0,ha,hb⟩,h.v,h.t⟩
theorem BU (h:dG p q) (b c:Int):dG p (lj q b c).1:=by
  unfold lj
  refine az (P:=fun x:Pos×Bool=>dG p x.1) (fun _=>h) fun _=>az (P:=fun x:Pos×Bool=>dG p x.1) (fun _=>h) fun _ => ?_
  exact h.af _ ⟨ig _,jT _⟩
theorem wR (h:dG p q) (b c:Int):dG p (bn q b c):=by
  unfold bn
  refine az (P:=fun x:Pos=>dG p x) (fun _=>az (P:=fun x:Pos=>dG p x) (fun _ => ?_) fun _=>h) fun _=>h
  exact h.af _ ⟨ig _,jT _⟩
end
section
variable {p:Pos} (hp:aR p) (m:Mv)
include hp
theorem IE (i:Nat):0≤p.ag.getD i 0∧p.ag.getD i 0≤255:=ku hp.b0 (by omega) i
theorem FX (a:Pos) (b:Mv) (c:Int):dG p (cJ a b p p m c):=by
  have h:dG p p:=⟨hp,rfl,rfl⟩
  have z:(0:Int)≤0∧(0:Int)≤255:=by omega
  have bi:=IE hp
  unfold cJ
  refine az (P:=fun x:Pos=>dG p x) (fun _=>((((h.set _ z).set _ z).set _ (bi _)).set _ (bi _))) fun _=>az (P:=fun x:Pos=>dG p x) (fun _=>(BU h _ _).set _ (sZ _ _)) fun _=>az (P:=fun x:Pos=>dG p x) (fun _=>az (P:=fun x:Pos=>dG p x) (fun _=>(((h.set _ z).set _ z).set _ (bi _)).set _ (sZ _ _)) fun _=>((h.set _ z).set _ z).set _ (bi _)) fun _=>az (P:=fun x:Pos=>dG p x) (fun _=>((h.set _ z).set _ (bi _)).set _ (sZ _ _)) fun _=>(h.set _ z).set _ (bi _)
omit hp in
theorem Hz {q:Pos} (h:dG p q) (a:Pos) (b:Mv) (c:Int):dG p (da a b q p m c):=by
  unfold da
  repeat' (first | exact h | exact h.ab _ | exact wR h _ _ | exact (wR h _ _).ab _ | refine az (P:=fun x:Pos=>dG p x) (fun _ => ?_) (fun _ => ?_))
omit hp in
theorem xk (l:List Int) (hl:l.length≤64) (hin:∀ s ∈ l,0≤s∧s < 64) {q:Pos} (h:dG p q) (a b:Pos) (c d:Mv) (e:Int):∃ r,pT l (Int.ofNat l.length) a c b d e (0,q)=some r∧dG p r.2.2:=by
  refine b7 (I:=fun x=>0≤x.1∧x.1≤(l.length:Int)∧dG p x.2) (μ:=fun x=>((l.length:Int) - x.1).toNat) ?_ _ ⟨by simp,by simp,h⟩ (by simp; omega)
  rintro ⟨n,o⟩ ⟨h0,h1,h2⟩
  simp only at h0 h1 h2
  by_cases hc:n < l.length
  · have hf:=hin _ (cF (d:=default) (show n.toNat < l.length by omega))
    refine ⟨ay (fun _=>ar (by simp [h0]; omega) fun _=>ar (PR hf.1 hf.2) fun _=>rfl) fun _=>rfl,az (fun _ => ?_) fun h=>absurd h (by simpa using hc)⟩
    rw [cp (n:=n+1) (by omega) (by omega)]
    exact ⟨⟨by simp; omega,by simp; omega,h2.set _ (by omega)⟩,by simp; omega⟩
  · exact ⟨ay (fun h=>absurd h (by simpa using hc)) fun _=>rfl,az (fun h=>absurd h (by simpa using hc)) fun _=>h2⟩
omit hp in
theorem Fp {q:Pos} (h:dG p q) (a:Pos) (b:Mv) (c:Int):lU a b q p m c=true∧dG p (dj a b q p m c):=by
  have hl:=bU (xk (p:=p) (hU (vn q (wr .i64 m.to)) 64) (fq _ _) (fun _ h=>ng h) h a p b m c)
  constructor
  · unfold lU
    refine ay (fun _=>rfl) fun _=>ay (fun _=>rfl) fun _=>ar (t188 _ _) fun _=>ar (t187 _) fun _=>ar ?_ fun _=>rfl
    rw [fo]; exact hl.1
  · unfold dj
    refine az (P:=fun x:Pos=>dG p x) (fun _=>h) fun _=>az (P:=fun x:Pos=>dG p x) (fun _=>h) fun _ => ?_
    rw [fo]; exact hl.2
omit hp in
theorem xz {c k:Int} (hc0:0≤c) (hc1:c≤1) (l:List Int) (hl:∀ s ∈ l,-128≤s∧s≤127) {q:Pos} (h:dG p q) (a b:Pos) (m1 m2:Mv) (e:Int):∃ r,qE c k l a m1 b m2 e (0,q)=some r∧dG p r.2.2:=by
  refine b7 (I:=fun x=>0≤x.1∧x.1≤2∧dG p x.2) (μ:=fun x=>(2 - x.1).toNat) ?_ _ ⟨by simp,by simp,h⟩ (by simp)
  rintro ⟨n,o⟩ ⟨h0,h1,h2⟩
  simp only at h0 h1 h2
  by_cases hc:n < 2
  · have hs:=ku hl (d:=0) (by omega) n.toNat
    have go1:vO (fun x:Int×Pos=>0≤x.1∧x.1≤2∧dG p x.2) (fun r:Int×Bool×Pos=>dG p r.2.2) (fun x=>(2 - x.1).toNat) (2 - n).toNat (.go (wr .i64 (n+1),o)):=by
      rw [cp (n:=n+1) (by omega) (by omega)]
      exact ⟨⟨by simp; omega,by simp; omega,h2⟩,by simp; omega⟩
    have go2:∀ i,vO (fun x:Int×Pos=>0≤x.1∧x.1≤2∧dG p x.2) (fun r:Int×Bool×Pos=>dG p r.2.2) (fun x=>(2 - x.1).toNat) (2 - n).toNat (.go (wr .i64 (n+1),⟨o.variant,o.ag,o.ab,o.af,o.aa,o.ak.set i (-1),o.ah,o.ai,o.half,o.full⟩)):=by
      intro i
      rw [cp (n:=n+1) (by omega) (by omega)]
      exact ⟨⟨by simp; omega,by simp; omega,h2.Uf i⟩,by simp; omega⟩
    have w1:wr .i64 c=c:=cp (by omega) (by omega)
    have w2:wr .i64 (56 * c)=56 * c:=cp (by omega) (by omega)
    have w3:wr .i64 (l.getD n.toNat 0)=l.getD n.toNat 0:=cp (by omega) (by omega)
    have w4:wr .i64 (56 * c+l.getD n.toNat 0)=56 * c+l.getD n.toNat 0:=cp (by omega) (by omega)
    have k1:(decide (0≤c)&&decide (c < Int.ofNat 2))=true:=by simp; omega
    have k2:(decide (0≤n)&&decide (n < Int.ofNat 2))=true:=by simp; omega
    refine ⟨ay (fun _=>ar k2 fun _=>ay (fun _=>rfl) fun g0=>ay (fun _=>rfl) fun g1 => ?_) fun _=>rfl,az (fun _ => ?_) fun h=>absurd h (by simpa using hc)⟩
    · rw [w1,w2,w3,w4]
      have g0:0≤l.getD n.toNat 0:=by simpa using g0
      have g1:l.getD n.toNat 0≤7:=by simpa using g1
      have k3:(decide (0≤56 * c+l.getD n.toNat 0)&&decide (56 * c+l.getD n.toNat 0 < Int.ofNat 64))=true:=PR (by omega) (by omega)
      repeat' (first | with_reducible rfl | with_reducible exact k1 | with_reducible exact k2 | with_reducible exact k3 | refine ar ?_ (fun _ => ?_) | refine ay (fun _ => ?_) (fun _ => ?_))
    · repeat' (first | exact go1 | exact go2 _ | refine az (fun _ => ?_) (fun _ => ?_))
  · exact ⟨ay (fun h=>absurd h (by simpa using hc)) fun _=>rfl,az (fun h=>absurd h (by simpa using hc)) fun _=>h2⟩
omit hp in
theorem qi {q:Pos} (h:dG p q) (a b:Pos) (m1 m2:Mv) (e:Int):∃ r,ee a m1 b m2 e (0,q)=some r∧dG p r.2.2:=by
  refine b7 (I:=fun x=>0≤x.1∧x.1≤2∧dG p x.2) (μ:=fun x=>(2 - x.1).toNat) ?_ _ ⟨by simp,by simp,h⟩ (by simp)
  rintro ⟨n,o⟩ ⟨h0,h1,h2⟩
  simp only at h0 h1 h2
  by_cases hc:n≤1
  · have hr:∀ s ∈ List.take 2 (List.drop (scale 2 n).toNat o.ak),-128≤s∧s≤127:=fun s hs=>h2.cA.r0 s (List.mem_of_mem_drop (List.mem_of_mem_take hs))
    have hl:=bU (xz (p:=p) (k:=bL o n 6) h0 hc _ hr h2 a b m1 m2 e)
    refine ⟨ay (fun _=>ar (t155 _ _ _) fun _=>ar (by simp; omega) fun _=>ar hl.1 fun _=>rfl) fun _=>rfl,az (fun _ => ?_) fun h=>absurd h (by simpa using hc)⟩
    rw [MX (n:=n+1) (by omega) (by omega)]
    exact ⟨⟨by simp; omega,by simp; omega,hl.2⟩,by simp; omega⟩
  · exact ⟨ay (fun h=>absurd h (by simpa using hc)) fun _=>rfl,az (fun h=>absurd h (by simpa using hc)) fun _=>h2⟩
theorem F3 (ht:p.aa≤1) {q:Pos} (h:dG p q) (hm:m.aM=0→0≤m.aw∧m.aw < 64) (a:Pos) (b:Mv) (c:Int):mO a b q p m c=true∧dG p (dv a b q p m c):=by
  have t0:=hp.t0
  have h2:dG p ⟨q.variant,q.ag,q.ab,q.af,q.aa,List.take (scale 2 q.aa).toNat q.ak++li [-1,-1]++List.drop ((scale 2 q.aa).toNat+2) q.ak,q.ah,q.ai,q.half,q.full⟩:=by
    refine h.ak ?_ ?_
    · have hr:=h.cA.rl
      have:(scale 2 q.aa).toNat≤2:=by rw [h.t]; unfold scale; simp; omega
      simp [li,hr]
      omega
    · intro x hx
      simp only [List.mem_append,li] at hx
      rcases hx with (hx | hx) | hx
      · exact h.cA.r0 x (List.mem_of_mem_take hx)
      · simp at hx; omega
      · exact h.cA.r0 x (List.mem_of_mem_drop hx)
  have a1:=bU (qi h a p b m c)
  have a2:=bU (qi h2 a p b m c)
  have k1:(decide (0≤q.aa)&&decide (q.aa < Int.ofNat 2))=true:=by rw [h.t]; simp; omega
  constructor
  · unfold mO
    refine ay (fun _ => ?_) fun hd=>ar ?_ fun _ => ?_
    · repeat' (first | with_reducible rfl | with_reducible exact k1 | with_reducible exact a1.1 | with_reducible exact a2.1 | refine ar ?_ (fun _ => ?_) | refine ay (fun _ => ?_) (fun _ => ?_))
    · have:=hm (by simpa using hd)
      simp; omega
    · repeat' (first | with_reducible rfl | with_reducible exact k1 | with_reducible exact a1.1 | with_reducible exact a2.1 | refine ar ?_ (fun _ => ?_) | refine ay (fun _ => ?_) (fun _ => ?_))
  · unfold dv
    repeat' (first | exact a1.2 | exact a2.2 | refine az (P:=fun x:Pos=>dG p x) (fun _ => ?_) (fun _ => ?_))
omit hp in
theorem H2 {q:Pos} (h:dG p q) (hm:m.aM=0→0≤m.aw∧m.aw < 64) (a:Pos) (b:Mv) (c:Int):mR a b q p m c=true∧dG p (dN a b q p m c):=by
  constructor
  · unfold mR
    refine ay (fun _ => ?_) fun hd=>ar ?_ fun _ => ?_
    · repeat' (first | with_reducible rfl | with_reducible exact t190 _ _ | with_reducible exact t191 _ _ _ | refine ar ?_ (fun _ => ?_) | refine ay (fun _ => ?_) (fun _ => ?_))
    · have:=hm (by simpa using hd)
      simp; omega
    · repeat' (first | with_reducible rfl | with_reducible exact t190 _ _ | with_reducible exact t191 _ _ _ | refine ar ?_ (fun _ => ?_) | refine ay (fun _ => ?_) (fun _ => ?_))
  · have n1:(-128:Int) ≤ -1∧(-1:Int)≤127:=by omega
    unfold dN
    repeat' (first | exact h.ah n1 | exact h.ah (Ib _) | refine az (P:=fun x:Pos=>dG p x) (fun _ => ?_) (fun _ => ?_))
omit hp in
theorem AL {q:Pos} (h:dG p q) (hm:m.aM=0→0≤m.aw∧m.aw < 64) (a:Pos) (b:Mv) (c:Int):jZ a b q p m c=true∧dG p (cY a b q p m c):=by
  constructor
  · unfold jZ
    refine ay (fun _=>rfl) fun hd=>ar ?_ fun _=>rfl
    have:=hm (by simpa using hd)
    simp; omega
  · have z:(-9223372036854775808:Int)≤0∧(0:Int)≤9223372036854775807:=by omega
    have f1:=h.cA.f0
    have f2:=zH h.cA.f0
    have f3:=zH h.cA.h0
    unfold cY
    repeat' (first | exact h.uy z f1 | exact h.uy z f2 | exact h.uy f3 f1 | exact h.uy f3 f2 | refine az (P:=fun x:Pos=>dG p x) (fun _ => ?_) (fun _ => ?_))
theorem KF (ht:p.aa≤1) {q:Pos} (h:dG p q) (a:Pos) (b:Mv) (c:Int):jI a b q p m c=true∧aR (cQ a b q p m c)∧(cQ a b q p m c).variant=p.variant∧(cQ a b q p m c).aa=1 - p.aa:=by
  have t0:=hp.t0
  have w1:wr .u8 (1 - p.aa)=1 - p.aa:=MX (by omega) (by omega)
  have w2:wr .u8 (1 - (1 - p.aa))=p.aa:=by rw [MX (by omega) (by omega)]; omega
  have k1:(decide (0≤p.aa)&&decide (p.aa < Int.ofNat 2))=true:=by simp; omega
  have hq:aR ⟨q.variant,q.ag,q.ab,q.af,1 - p.aa,q.ak,q.ah,q.ai,q.half,q.full⟩ :=
    ⟨h.cA.v0,h.cA.v1,h.cA.bl,h.cA.b0,h.cA.kl,h.cA.k0,by show 0≤1 - p.aa; omega,by show 1 - p.aa≤255; omega,h.cA.rl,h.cA.r0,h.cA.p0,h.cA.p1,h.cA.cl,h.cA.c0,h.cA.h0,h.cA.f0⟩
  constructor
  · unfold jI
    rw [h.t,w1,w2]
    refine ay (fun _=>ar k1 fun _=>ay (fun _=>ar (t61 h.cA.v0 (by omega)) fun _=>ay (fun _=>ar k1 fun _=>ar k1 fun _=>rfl) fun _=>rfl) fun _=>rfl) fun _=>rfl
  · unfold cQ
    rw [h.t,w1,w2]
    have base:aR ⟨q.variant,q.ag,q.ab,q.af,1 - p.aa,q.ak,q.ah,q.ai,q.half,q.full⟩∧q.variant=p.variant∧(1 - p.aa=1 - p.aa):=⟨hq,h.v,rfl⟩
    refine az (P:=fun x:Pos=>aR x∧x.variant=p.variant∧x.aa=1 - p.aa) (fun _=>az (P:=fun x:Pos=>aR x∧x.variant=p.variant∧x.aa=1 - p.aa) (fun _=>az (P:=fun x:Pos=>aR x∧x.variant=p.variant∧x.aa=1 - p.aa) (fun _ => ?_) fun _=>base) fun _=>base) fun _=>base
    exact ⟨⟨hq.v0,hq.v1,hq.bl,hq.b0,hq.kl,hq.k0,hq.t0,hq.t1,hq.rl,hq.r0,hq.p0,hq.p1,by rw [List.length_set]; exact hq.cl,tY hq.c0 ⟨ig _,jT _⟩ _,hq.h0,hq.f0⟩,h.v,rfl⟩
end
theorem yF {p:Pos} (hp:aR p) {m:Mv} (h:m ∈ dO p):there p∧0≤m.aw∧m.aw < 64∧0≤m.to∧m.to < 64∧0≤m.aM∧m.aM≤5∧0≤m.aI∧m.aI≤6:=by
  rw [pL] at h
  have n110:∀ v:Int,9≤v→xB v=false:=fun v hv=>by
    unfold xB
    rw [show decide (v ≥ 9)=true by simpa using hv]; rfl
  have n113:∀ v:Int,9≤v→wF v=false:=fun v hv=>by
    unfold wF
    rw [show decide (v ≥ 9)=true by simpa using hv]; rfl
  simp only [List.mem_append] at h
  rcases h with (h | h) | h
  · obtain ⟨th,f,t,h1,h2,h3,h4,h5,h6,h7,h8,_⟩:=jM hp.v0 h
    exact ⟨th,by omega,by omega,by omega,by omega,by omega,by omega,h7,h8⟩
  · obtain ⟨h1,h2,h3,h4,h5,h6,h7,h8⟩:=ik hp h
    refine ⟨⟨h1,?_⟩,h2,h3,h4,h5,by omega,by omega,by omega,by omega⟩
    refine Classical.byContradiction fun hv => ?_
    unfold fG at h
    rw [n110 _ (by omega)] at h
    rw [show decide (p.aa > 1)=false by simp; omega] at h
    cases h
  · obtain ⟨h1,h2,h3,h4,h5,h6,h7,h8,h9⟩:=mb hp.t0 h
    refine ⟨⟨h1,?_⟩,by omega,by omega,h4,h5,by omega,h8,by omega,by omega⟩
    refine Classical.byContradiction fun hv => ?_
    rw [n113 _ (by omega)] at h2
    cases h2
theorem qn {p:Pos} (hp:aR p) (m:Mv):xI p m=true∧(m ∈ dO p→(iD p m).2=true∧aR (iD p m).1∧(iD p m).1.variant=p.variant∧(iD p m).1.aa=1 - p.aa)∧(m ∉ dO p→iD p m=(p,false)):=by
  have hlen:=uE hp
  have hc:A0 (dO p) m=decide (m ∈ dO p):=pU (by omega)
  by_cases hm:m ∈ dO p
  · obtain ⟨th,f0,f1,g0,g1,d0,d1,r0,r1⟩:=yF hp hm
    have hmf:m.aM=0→0≤m.aw∧m.aw < 64:=fun _=>⟨f0,f1⟩
    have hn:=Ia hp m
    have h1:=FX hp m p m (aU p m)
    have h2:=Hz m h1 p m (aU p m)
    have h4:=Fp m h2 p m (aU p m)
    have h8:=F3 hp m th.1 h4.2 hmf p m (aU p m)
    have h9:=H2 m h8.2 hmf p m (aU p m)
    have h10:=AL m h9.2 hmf p m (aU p m)
    have h11:=KF hp m th.1 h10.2 p m (aU p m)
    have kf:(decide (0≤m.aw)&&decide (m.aw < Int.ofNat 64))=true:=by simp; omega
    have kt:(decide (0≤m.to)&&decide (m.to < Int.ofNat 64))=true:=by simp; omega
    have kn:aU p m ≥ 0→(decide (0≤aU p m)&&decide (aU p m < Int.ofNat 64))=true:=fun h=>by simp; omega
    have hg:=Gt hp.t0 th.1 m
    have ok1:lD p m p p m (aU p m)=true:=by
      unfold lD
      have kg1:(decide (0≤(jl p m).1)&&decide ((jl p m).1 < Int.ofNat 64))=true:=by simp; omega
      have kg2:(decide (0≤(jl p m).2.1)&&decide ((jl p m).2.1 < Int.ofNat 64))=true:=by simp; omega
      refine ay (fun _ => ?_) fun _=>ay (fun _ => ?_) fun _=>ay (fun hh => ?_) fun _ => ?_
      · repeat' (first | with_reducible rfl | with_reducible exact t183 _ _ | with_reducible exact kf | with_reducible exact kt | with_reducible exact kg1 | with_reducible exact kg2 | refine ar ?_ (fun _ => ?_))
      · refine ar (t184 hp.t0 d0) fun _=>ar kt fun _=>rfl
      · have hh:aU p m ≥ 0:=by simpa using hh
        have kn:=kn hh
        repeat' (first | with_reducible rfl | with_reducible exact kn | with_reducible exact kf | with_reducible exact kt | refine ar ?_ (fun _ => ?_) | refine ay (fun _ => ?_) (fun _ => ?_))
      · repeat' (first | with_reducible rfl | with_reducible exact kf | with_reducible exact kt | refine ar ?_ (fun _ => ?_) | refine ay (fun _ => ?_) (fun _ => ?_))
    have ok2:mc p m (cJ p m p p m (aU p m)) p m (aU p m)=true:=by
      have e:0≤(cJ p m p p m (aU p m)).aa:=h1.cA.t0
      have bi:=fun i=>(IE hp i).1
      unfold mc
      refine ay (fun _=>rfl) fun _=>ay (fun _=>rfl) fun _=>ay (fun _=>ar (t183 _ _) fun _=>rfl) fun _=>ay (fun hh => ?_) fun _=>rfl
      have hh:aU p m ≥ 0:=by simpa using hh
      have kn:=kn hh
      repeat' (first | with_reducible rfl | with_reducible exact kn | with_reducible exact t186 e (by decide) | with_reducible exact t186 e (F0 (bi _)) | refine ar ?_ (fun _ => ?_) | refine ay (fun _ => ?_) (fun _ => ?_))
    refine ⟨?_,fun _ => ?_,fun h=>absurd hm h⟩
    · unfold xI
      exact ar (t76 hp) fun _=>ar (t31 (by omega)) fun _=>ay (fun _=>rfl) fun _=>ar (t112 hp.v0 m) fun _=>ar ok1 fun _=>ar ok2 fun _=>ar h4.1 fun _=>ar h8.1 fun _=>ar h9.1 fun _=>ar h10.1 fun _=>ar h11.1 fun _=>rfl
    · unfold iD
      rw [hc]
      simp only [hm,decide_true,Bool.not_true,cond_false]
      exact ⟨trivial,h11.2⟩
  · refine ⟨?_,fun h=>absurd h hm,fun _ => ?_⟩
    · unfold xI
      refine ar (t76 hp) fun _=>ar (t31 (by omega)) fun _=>ay (fun _=>rfl) fun h => ?_
      rw [hc] at h
      simp [hm] at h
    · unfold iD
      rw [hc]
      simp [hm]
end Kz
end
section
namespace Kz
open Go Go.RowKit Go.Proofs
set_option maxRecDepth 100000
set_option maxHeartbeats 4000000
noncomputable def K69:List (Nat×Nat×List (Nat×List Nat)):=[]
noncomputable def Zv:aC:=au Pz (fun f i=>bI f i K69) [] [] []
theorem WS:bD Zv:=ao al trivial trivial trivial
noncomputable def Ya:AV:=AV.agg [AV.nilfunc,AV.nilfunc,AV.nilfunc,AV.func 148 [] [],AV.func 152 [] [],AV.func 149 [] [],AV.func 150 [] [],AV.func 151 [] [],AV.func 153 [] []]
noncomputable def Tp:Bool:=true
theorem E69:cZ Zv 14 69 []=Tr.ret Ya:=by kernel_rfl
theorem P69 (_:Tp=true):PS Pz 69 [] Ya:=nA WS (by rw [E69]; rfl)
noncomputable def Zz:List AV→Tr AV:=g0 (.ret Ya)
theorem s69:Sound Pz 69 Zz:=la (cW (P69 rfl))
noncomputable def K71:List (Nat×Nat×List (Nat×List Nat)):=[(71,9,[(0,[1,2]),(1,[4])])]
noncomputable def B71:aC:=au Pz (fun f i=>bI f i K71) [(155,jq)] [] []
theorem Td:bD B71:=ao al ⟨j6,trivial⟩ trivial trivial
noncomputable def E9 (a:Pos) (b:Int):Bool:=(decide (bL a b 6 ≥ 0))
noncomputable def yn (a:Pos) (b:Int):Bool:=(gQ (a) (b) (6)&&true)
theorem P71 (a:Pos) (b:Int) (h:yn a b=true):PS Pz 71 [Pos.av a,.int .u8 b] (dB.res (E9 a b)):=aA (n:=14) Td (by kernel_rfl) (by kernel_rfl) (by kernel_rfl) h
noncomputable def Qi:List AV→Tr AV:=g2 bH (dI .u8) (fun a b=>cE (yn a b) (dB.res (E9 a b)))
theorem SL:Sound Pz 71 Qi:=bB fun a b=>aJ (P71 a b)
noncomputable def XN:List (Nat×Nat×List (Nat×List Nat)):=[(222,9,[(0,[0,1,4]),(1,[4])])]
noncomputable def Xk:aC:=au Pz (fun f i=>bI f i XN) [] [] []
theorem Ss:bD Xk:=ao al trivial trivial trivial
noncomputable def du (a:Int) (b:Int):(Int×Int):=⟨(wr .u8 (1+a)),(b)⟩
noncomputable def PC (a:Int) (b:Int):Bool:=true
theorem Up (a:Int) (b:Int) (h:PC a b=true):PS Pz 222 [.int .u8 a,.int .u8 b] ((dR .u8 .u8).res (du a b)):=aA (n:=14) Ss (by kernel_rfl) (by kernel_rfl) (by kernel_rfl) h
noncomputable def wx:List AV→Tr AV:=g2 (dI .u8) (dI .u8) (fun a b=>.ret ((dR .u8 .u8).res (du a b)))
theorem xG:Sound Pz 222 wx:=bB fun a b=>cW (Up a b rfl)
noncomputable def W5:List (Nat×Nat×List (Nat×List Nat)):=[(148,13,[(0,[1,2]),(1,[1,2,7]),(2,[2]),(3,[2])])]
noncomputable def UN:aC:=au Pz (fun f i=>bI f i W5) [(71,Qi),(222,wx)] [] []
theorem NT:bD UN:=ao al ⟨SL,xG,trivial⟩ trivial trivial
noncomputable def G5 (a:Pos):(Int×Int):=(bif !E9 a a.aa then ⟨((du (wr .u8 (1 - a.aa)) 6).fst),((du (wr .u8 (1 - a.aa)) 6).snd)⟩ else ⟨(0),(0)⟩)
noncomputable def yP (a:Pos):Bool:=(yn (a) (a.aa)&&true)
theorem XT (a:Pos) (h:yP a=true):PS Pz 148 [Pos.av a] ((dR .u8 .u8).res (G5 a)):=aA (n:=14) NT (by kernel_rfl) (by kernel_rfl) (by kernel_rfl) h
noncomputable def Rl:List AV→Tr AV:=g1 bH (fun a=>cE (yP a) ((dR .u8 .u8).res (G5 a)))
theorem XG:Sound Pz 148 Rl:=aS fun a=>aJ (XT a)
noncomputable def TR:List (Nat×Nat×List (Nat×List Nat)):=[(149,6,[(0,[1,2]),(1,[2])]),(223,28,[(0,[1,2,3,6]),(1,[1,2,6,14,15,16]),(2,(1::2::6::(rn 14 4 []))),(3,[1,2,6,8,14,15,16]),(4,[1,2,6,8,14,15,16,22]),(5,[6]),(6,[1,2,6,14,15,16]),(7,[6])]),(224,9,[(0,[0,1]),(1,[3])])]
noncomputable def TZ:aC:=au Pz (fun f i=>bI f i TR) [(222,wx)] [] []
theorem Qh:bD TZ:=ao al ⟨xG,trivial⟩ trivial trivial
noncomputable def Ht (a:Pos):(Int×Int):=(bif decide (a.ai.getD (scale 1 (wr .u8 (1 - a.aa))).toNat 0 ≥ 3) then ⟨((du (wr .u8 (1 - a.aa)) 7).fst),((du (wr .u8 (1 - a.aa)) 7).snd)⟩ else (bif decide (a.ai.getD (scale 1 a.aa).toNat 0 ≥ 3) then ⟨((du a.aa 7).fst),((du a.aa 7).snd)⟩ else ⟨(0),(0)⟩))
noncomputable def vE (a:Pos):Bool:=(decide (0≤wr .u8 (1 - a.aa))&&decide (wr .u8 (1 - a.aa) < ↑2)&&(bif decide (a.ai.getD (scale 1 (wr .u8 (1 - a.aa))).toNat 0 ≥ 3) then true else (decide (0≤a.aa)&&decide (a.aa < ↑2)&&true)))
theorem WW (a:Pos) (h:vE a=true):PS Pz 149 [Pos.av a] ((dR .u8 .u8).res (Ht a)):=aA (n:=14) Qh (by kernel_rfl) (by kernel_rfl) (by kernel_rfl) h
noncomputable def Of:List AV→Tr AV:=g1 bH (fun a=>cE (vE a) ((dR .u8 .u8).res (Ht a)))
theorem TV:Sound Pz 149 Of:=aS fun a=>aJ (WW a)
noncomputable def VU:List (Nat×Nat×List (Nat×List Nat)):=[(150,6,[(0,[1,2]),(1,[2])]),(223,28,[(0,[1,2,3,6]),(1,[1,2,6,14,15,16]),(2,(1::2::6::(rn 14 4 []))),(3,[1,2,6,8,14,15,16]),(4,[1,2,6,8,14,15,16,22]),(5,[6]),(6,[1,2,6,14,15,16]),(7,[6])]),(225,17,[(0,(0::1::(rn 11 5 []))),(1,(4::(rn 11 5 []))),(2,[3])])]
noncomputable def XB:aC:=au Pz (fun f i=>bI f i VU) [(155,jq),(222,wx)] [] []
theorem P0:bD XB:=ao al ⟨j6,xG,trivial⟩ trivial trivial
noncomputable def FQ (a:Pos):(Int×Int):=(bif decide (bL a (wr .u8 (1 - a.aa)) 6 ≥ 0) then (bif nX BinOp.and .i64 (Int.fdiv 103481868288 (2 ^ min (BitVec.ofInt 64 (bL a (wr .u8 (1 - a.aa)) 6)).toNat 64)) 1==1 then ⟨((du (wr .u8 (1 - a.aa)) 6).fst),((du (wr .u8 (1 - a.aa)) 6).snd)⟩ else (bif decide (bL a a.aa 6 ≥ 0) then (bif nX BinOp.and .i64 (Int.fdiv 103481868288 (2 ^ min (BitVec.ofInt 64 (bL a a.aa 6)).toNat 64)) 1==1 then ⟨((du a.aa 6).fst),((du a.aa 6).snd)⟩ else ⟨(0),(0)⟩) else ⟨(0),(0)⟩)) else (bif decide (bL a a.aa 6 ≥ 0) then (bif nX BinOp.and .i64 (Int.fdiv 103481868288 (2 ^ min (BitVec.ofInt 64 (bL a a.aa 6)).toNat 64)) 1==1 then ⟨((du a.aa 6).fst),((du a.aa 6).snd)⟩ else ⟨(0),(0)⟩) else ⟨(0),(0)⟩))
noncomputable def uJ (a:Pos):Bool:=(gQ (a) (wr .u8 (1 - a.aa)) (6)&&(bif decide (bL a (wr .u8 (1 - a.aa)) 6 ≥ 0) then (bif nX BinOp.and .i64 (Int.fdiv 103481868288 (2 ^ min (BitVec.ofInt 64 (bL a (wr .u8 (1 - a.aa)) 6)).toNat 64)) 1==1 then true else (gQ (a) (a.aa) (6)&&true)) else (gQ (a) (a.aa) (6)&&true)))
theorem V9 (a:Pos) (h:uJ a=true):PS Pz 150 [Pos.av a] ((dR .u8 .u8).res (FQ a)):=aA (n:=14) P0 (by kernel_rfl) (by kernel_rfl) (by kernel_rfl) h
noncomputable def Ob:List AV→Tr AV:=g1 bH (fun a=>cE (uJ a) ((dR .u8 .u8).res (FQ a)))
theorem TJ:Sound Pz 150 Ob:=aS fun a=>aJ (V9 a)
noncomputable def UE:List (Nat×Nat×List (Nat×List Nat)):=[(151,8,[(0,[1,2]),(1,[2,5]),(2,[2]),(3,[2])])]
noncomputable def TB:aC:=au Pz (fun f i=>bI f i UE) [(191,fJ),(222,wx)] [] []
theorem NH:bD TB:=ao al ⟨fM,xG,trivial⟩ trivial trivial
noncomputable def GM (a:Pos):(Int×Int):=(bif b8 (Pos.mk a.variant a.ag a.ab a.af a.aa a.ak a.ah a.ai a.half a.full) 0 0==0#64 then ⟨((du 1 8).fst),((du 1 8).snd)⟩ else ⟨(0),(0)⟩)
noncomputable def yE (a:Pos):Bool:=(cn (Pos.mk a.variant a.ag a.ab a.af a.aa a.ak a.ah a.ai a.half a.full) (0) (0)&&true)
theorem Y7 (a:Pos) (h:yE a=true):PS Pz 151 [Pos.av a] ((dR .u8 .u8).res (GM a)):=aA (n:=14) NH (by kernel_rfl) (by kernel_rfl) (by kernel_rfl) h
noncomputable def Sf:List AV→Tr AV:=g1 bH (fun a=>cE (yE a) ((dR .u8 .u8).res (GM a)))
theorem VW:Sound Pz 151 Sf:=aS fun a=>aJ (Y7 a)
noncomputable def WR:List (Nat×Nat×List (Nat×List Nat)):=[(152,24,[(0,[1,2]),(1,[1,2,10,11,12]),(2,(1::2::(rn 10 4 []))),(3,[1,2,4,10,11,12]),(4,[1,2,4,10,11,12,19]),(5,[2]),(6,[1,2,10,11,12]),(7,[2])])]
noncomputable def UR:aC:=au Pz (fun f i=>bI f i WR) [(191,fJ),(222,wx)] [] []
theorem Sy:bD UR:=ao al ⟨fM,xG,trivial⟩ trivial trivial
noncomputable def FT (a:Pos):(Int×Int):=(bif b8 (Pos.mk a.variant a.ag a.ab a.af a.aa a.ak a.ah a.ai a.half a.full) a.aa 0==0#64 then ⟨((du a.aa 8).fst),((du a.aa 8).snd)⟩ else (bif b8 (Pos.mk a.variant a.ag a.ab a.af a.aa a.ak a.ah a.ai a.half a.full) (wr .u8 (1 - a.aa)) 0==0#64 then ⟨((du (wr .u8 (1 - a.aa)) 8).fst),((du (wr .u8 (1 - a.aa)) 8).snd)⟩ else ⟨(0),(0)⟩))
noncomputable def wS (a:Pos):Bool:=(cn (Pos.mk a.variant a.ag a.ab a.af a.aa a.ak a.ah a.ai a.half a.full) (a.aa) (0)&&(bif b8 (Pos.mk a.variant a.ag a.ab a.af a.aa a.ak a.ah a.ai a.half a.full) a.aa 0==0#64 then true else (cn (Pos.mk a.variant a.ag a.ab a.af a.aa a.ak a.ah a.ai a.half a.full) (wr .u8 (1 - a.aa)) (0)&&true)))
theorem YD (a:Pos) (h:wS a=true):PS Pz 152 [Pos.av a] ((dR .u8 .u8).res (FT a)):=aA (n:=14) Sy (by kernel_rfl) (by kernel_rfl) (by kernel_rfl) h
noncomputable def NV:List AV→Tr AV:=g1 bH (fun a=>cE (wS a) ((dR .u8 .u8).res (FT a)))
theorem Wm:Sound Pz 152 NV:=aS fun a=>aJ (YD a)
noncomputable def K78:List (Nat×Nat×List (Nat×List Nat)):=[(78,52,[(0,(2::3::(rn 30 10 (rn 45 6 [])))),(1,(2::5::6::(rn 30 10 (rn 45 6 [])))),(2,(2::5::14::(rn 30 10 (rn 45 6 [])))),(3,[4]),(4,(2::5::19::(rn 30 10 (rn 45 6 [])))),(5,(2::5::24::(rn 30 10 (rn 45 6 [])))),(6,[4]),(7,(2::5::40::(rn 45 6 []))),(8,[4]),(9,[4])])]
noncomputable def B78:aC:=au Pz (fun f i=>bI f i K78) [(59,Ws),(70,QS),(61,yr),(71,Qi)] [] []
theorem YE:bD B78:=ao al ⟨ZA,SY,y3,SL,trivial⟩ trivial trivial
noncomputable def wE (a:Pos) (b:Mv):Bool:=(bif !(iD a b).snd then (false) else (bif FL a.variant a.aa then (bif !E9 (iD a b).fst a.aa then (false) else (bif Bb (iD a b).fst a.aa then (bif a.variant != 3 then (false) else (bif E9 (iD a b).fst (wr .u8 (1 - a.aa)) then (false) else (bif a.variant != 8 then (true) else (!Bb (iD a b).fst (wr .u8 (1 - a.aa)))))) else (bif a.variant != 8 then (true) else (!Bb (iD a b).fst (wr .u8 (1 - a.aa)))))) else (bif a.variant != 8 then (true) else (!Bb (iD a b).fst (wr .u8 (1 - a.aa))))))
noncomputable def vH (a:Pos) (b:Mv):Bool:=(xI (a) (b)&&(bif !(iD a b).snd then true else (tf (a.variant) (a.aa)&&(bif FL a.variant a.aa then (yn ((iD a b).fst) (a.aa)&&(bif !E9 (iD a b).fst a.aa then true else (ob ((iD a b).fst) (a.aa)&&(bif Bb (iD a b).fst a.aa then (bif a.variant != 3 then true else (yn ((iD a b).fst) (wr .u8 (1 - a.aa))&&(bif E9 (iD a b).fst (wr .u8 (1 - a.aa)) then true else (bif a.variant != 8 then true else (ob ((iD a b).fst) (wr .u8 (1 - a.aa))&&true))))) else (bif a.variant != 8 then true else (ob ((iD a b).fst) (wr .u8 (1 - a.aa))&&true)))))) else (bif a.variant != 8 then true else (ob ((iD a b).fst) (wr .u8 (1 - a.aa))&&true))))))
theorem P78 (a:Pos) (b:Mv) (h:vH a b=true):PS Pz 78 [Pos.av a,Mv.av b] (dB.res (wE a b)):=aA (n:=14) YE (by kernel_rfl) (by kernel_rfl) (by kernel_rfl) h
noncomputable def SO:List AV→Tr AV:=g2 bH iE (fun a b=>cE (vH a b) (dB.res (wE a b)))
theorem Xq:Sound Pz 78 SO:=bB fun a b=>aJ (P78 a b)
end Kz
end
section
namespace Go.Proofs
open Go.Shelf Go.RowKit Go.Lib Go.Sort
def eN (m:Kz.Mv):List Value:=[.int .i8 m.aw,.int .i8 m.to,.int .u8 m.aI,.int .u8 m.aM,.bool m.bh]
theorem fE (m:Kz.Mv):(eN m).length=5:=rfl
structure fc (w:World) (cP cap:Nat) (ty:TypeId) (dk:Array Kz.Mv) (W:World):Prop where
  os:W.os=w.os
  tape:W.tape=w.tape
  output:W.output=w.output
  size:w.heap.size≤W.heap.size
  other:∀ k,k < w.heap.size→k≠cP→W.heap[k]?=w.heap[k]?
  row:∃ cur,W.heap[cP]?=some (.cells cur ty (0,0))∧cur.size=cap * 5∧∀ j c,j < dk.size→c < 5→cur[j * 5+c]?=(eN dk[j]!)[c]?
theorem fc.below {w W W':World} {cP cap:Nat} {ty:TypeId} {dk:Array Kz.Mv} (h:fc w cP cap ty dk W) (hb:cP < w.heap.size) (b:Below W.heap.size W W'):fc w cP cap ty dk W' :=
  ⟨b.os.trans h.os,b.tape.trans h.tape,b.output.trans h.output,Nat.le_trans h.size b.size,fun k hk hn=>by rw [b.block k (Nat.lt_of_lt_of_le hk h.size)]; exact h.other k hk hn,by
    obtain ⟨cur,h1,h2⟩:=h.row
    exact ⟨cur,by rw [b.block cP (Nat.lt_of_lt_of_le hb h.size)]; exact h1,h2⟩⟩
theorem fc.setCells {w W:World} {cP cap:Nat} {ty:TypeId} {dk dk':Array Kz.Mv} (h:fc w cP cap ty dk W) (vs:List Value) (o:Nat)
    (hd:∀ j c,j < dk'.size→c < 5→j < dk.size∧(if o≤j * 5+c∧j * 5+c < o+vs.length then vs[j * 5+c - o]? else (eN dk[j]!)[c]?)=(eN dk'[j]!)[c]?) (hlen:o+vs.length≤cap * 5):fc w cP cap ty dk' (W.setCells cP o vs):=by
  obtain ⟨cur,h1,h2,h3⟩:=h.row
  have hb:=Kz.aV h1
  have key:∀ (vs:List Value) (o:Nat) (W:World) (cur:Array Value),W.heap[cP]?=some (.cells cur ty (0,0))→o+vs.length≤cur.size →
      ∃ cur',W.setCells cP o vs=Kz.bf W cP (.cells cur' ty (0,0))∧cur'.size=cur.size∧∀ t,t < cur.size→cur'[t]?=if o≤t∧t < o+vs.length then vs[t - o]? else cur[t]? := by
    intro vs
    induction vs with
    | nil =>
      intro o W cur hW _
      refine ⟨cur,?_,rfl,fun t _=>by rw [if_neg (by simp)]⟩
      rw [World.setCells]
      simp only [Kz.bf]
      have:W.heap.setIfInBounds cP (.cells cur ty (0,0))=W.heap:=by
        apply Array.ext_getElem?
        intro i
        rw [Array.getElem?_setIfInBounds]
        split
        · rename_i e; subst e; split
          · exact hW.symm
          · rename_i h'; simp [Array.getElem?_eq_none (by omega:W.heap.size≤cP)]
        · rfl
      rw [this]
    | cons v vs ih =>
      intro o W cur hW hl
      simp only [List.length_cons] at hl
      have e1:W.setCell ⟨cP,o,none⟩ v=Kz.bf W cP (.cells (cur.setIfInBounds o v) ty (0,0)):=Kz.gD hW v
      obtain ⟨cur',a1,a2,a3⟩:=ih (o+1) (Kz.bf W cP (.cells (cur.setIfInBounds o v) ty (0,0))) (cur.setIfInBounds o v) (Kz.ct hW) (by simp; omega)
      refine ⟨cur',?_,by rw [a2]; simp,fun t ht => ?_⟩
      · rw [World.setCells,e1,a1]
        simp [Kz.bf]
      · rw [a3 t (by simpa using ht)]
        by_cases h1:o+1≤t∧t < o+1+vs.length
        · rw [if_pos h1,if_pos ⟨by omega,by simp; omega⟩]
          obtain ⟨u,rfl⟩:∃ u,t=o+1+u:=⟨t - (o+1),by omega⟩
          rw [show o+1+u - (o+1)=u by omega,show o+1+u - o=u+1 by omega]
          simp
        · rw [if_neg h1,Array.getElem?_setIfInBounds]
          by_cases h2:o=t
          · subst h2
            rw [if_pos rfl,if_pos (by omega),if_pos ⟨Nat.le_refl _,by simp⟩]
            simp
          · rw [if_neg h2,if_neg (by simp; omega)]
  obtain ⟨cur',a1,a2,a3⟩:=key vs o W cur h1 (by omega)
  rw [a1]
  refine ⟨h.os,h.tape,h.output,by rw [Kz.cL]; exact h.size,fun k hk hn=>by rw [Kz.aL hn]; exact h.other k hk hn,cur',Kz.ct h1,by rw [a2,h2],fun j c hj hc => ?_⟩
  obtain ⟨hj',he⟩:=hd j c hj hc
  have hlt:j * 5+c < cur.size:=by
    rcases Nat.lt_or_ge (j * 5+c) cur.size with h' | h'
    · exact h'
    · have:=h3 j c hj' hc
      rw [Array.getElem?_eq_none h',List.getElem?_eq_getElem (by rw [fE]; exact hc)] at this
      cases this
  rw [a3 _ hlt,h3 j c hj' hc]
  exact he
theorem fc.put {w W:World} {cP cap:Nat} {ty:TypeId} {dk:Array Kz.Mv} (h:fc w cP cap ty dk W) {i:Nat} (hi:i < dk.size) (hc:dk.size≤cap) (u:Kz.Mv):fc w cP cap ty (dk.setIfInBounds i u) (W.setCells cP (i * 5) (eN u)):=by
  refine h.setCells (eN u) (i * 5) (fun j c hj hc => ?_) (by rw [fE]; have:=Nat.mul_le_mul_right 5 (show i+1≤cap by omega); omega)
  have hj':j < dk.size:=by simpa using hj
  refine ⟨hj',?_⟩
  rw [fE]
  by_cases e:i=j
  · subst e
    rw [if_pos ⟨by omega,by omega⟩,show i * 5+c - i * 5=c by omega,getElem!_pos (dk.setIfInBounds i u) i hj]
    simp
  · rw [if_neg (by omega),getElem!_pos (dk.setIfInBounds i u) j hj,getElem!_pos dk j hj',Array.getElem_setIfInBounds_ne _ e]
theorem fc.tail {w W:World} {cP cap:Nat} {ty:TypeId} {dk:Array Kz.Mv} (h:fc w cP cap ty dk W) {i n:Nat} (hn:i+n≤cap) (hi:i≤dk.size) (vs:List Value) (hl:vs.length=n * 5):fc w cP cap ty (dk.toList.take i).toArray (W.setCells cP (i * 5) vs):=by
  refine h.setCells vs (i * 5) (fun j c hj hc => ?_) (by rw [hl,← Nat.add_mul]; exact Nat.mul_le_mul_right 5 hn)
  have hj':j < i:=by simp at hj; omega
  refine ⟨by omega,?_⟩
  rw [if_neg (by omega)]
  congr 2
  rw [getElem!_pos dk j (show j < dk.size by omega),getElem!_pos (dk.toList.take i).toArray j hj]
  simp
theorem fc.same {w W:World} {cP cap:Nat} {ty:TypeId} {dk:Array Kz.Mv} (h:fc w cP cap ty dk W) {i:Nat} (hi:i≤dk.size):fc w cP cap ty (dk.toList.take i).toArray W:=by
  obtain ⟨cur,h1,h2,h3⟩:=h.row
  refine ⟨h.os,h.tape,h.output,h.size,h.other,cur,h1,h2,fun j c hj hc => ?_⟩
  have hj':j < i:=by simp at hj; omega
  rw [h3 j c (by omega) hc]
  congr 2
  rw [getElem!_pos dk j (show j < dk.size by omega),getElem!_pos (dk.toList.take i).toArray j hj]
  simp
def jj:Array Value := #[Value.int IntKind.i8 0,Value.int IntKind.i8 0,Value.int IntKind.u8 0,Value.int IntKind.u8 0,Value.bool false]
theorem zZ (n:Nat):∀ v ∈ (Builtin.zeroCells jj n).toList,v.oneCell'=true:=by
  intro v hv
  simp only [Builtin.zeroCells,Array.toList_map,List.mem_map] at hv
  obtain ⟨i,_,rfl⟩:=hv
  have:i % jj.size < 5:=Nat.mod_lt _ (by decide)
  generalize i % jj.size=t at this
  match t,this with
  | 0,_ | 1,_ | 2,_ | 3,_ | 4,_=>rfl
  | t+5,h=>omega
theorem mZ (n:Nat):(Builtin.zeroCells jj n).toList.length=n * 5:=by simp [Builtin.zeroCells,jj]
theorem xV (W:World) (b o n c:Nat) (hn:0 < n) (hc:∀ t,t < n * 5→(W.cell? ⟨b,o+t,none⟩).isSome=true) (hf:∀ t,t < n * 5→W.frozen? ⟨b,o+t,none⟩=false) (ty:TypeId) :
    (Builtin.clear_ #[32] ty #[.slice (some ⟨b,o,none⟩) n c]).run Tryz.prog W=.ok (.tuple #[]) (W.setCells b o (Builtin.zeroCells jj n).toList):=by
  have hst:=run_storeCells_cells (P:=Tryz.prog) b o (Builtin.zeroCells jj n).toList 0 W (by rw [mZ]; simpa using hc) (by rw [mZ]; simpa using hf) (zZ n)
  simp only [Nat.add_zero] at hst
  obtain ⟨m,rfl⟩:∃ m,n=m+1:=⟨n - 1,by omega⟩
  have hz:(Value.agg jj).cells=jj:=rfl
  have hv:∀ w,(zeroValue 38).run Tryz.prog w=.ok (.agg jj) w:=Tryz.zeroValue38
  simp only [jj] at hst hz hv
  simp [Builtin.clear_,run_underlying Tryz.underlying32,hv,hz,hst]
  rfl
theorem fc.cell {w W:World} {cP cap:Nat} {ty:TypeId} {dk:Array Kz.Mv} (h:fc w cP cap ty dk W) {j:Nat} (hj:j < dk.size) (c:Nat) (hc:c < 5):W.cell? ⟨cP,j * 5+c,none⟩=some ((eN dk[j]!)[c]'hc)∧W.frozen? ⟨cP,j * 5+c,none⟩=false:=by
  obtain ⟨cur,h1,h2,h3⟩:=h.row
  refine ⟨?_,Kz.fu h1⟩
  rw [Kz.bb h1,h3 j c hj hc]
  exact List.getElem?_eq_getElem _
theorem fc.load {w W:World} {cP cap:Nat} {ty:TypeId} {dk:Array Kz.Mv} (h:fc w cP cap ty dk W) {j:Nat} (hj:j < dk.size):Sem.run Tryz.prog (loadCellsFrom ⟨cP,0+j * 5,none⟩ 0 5 #[]) W=.ok (eN dk[j]!).toArray W :=
  run_loadCellsFrom_list Tryz.prog _ _ (eN dk[j]!) 5 rfl (fun c v hc=>by
    have hc5:c < 5:=(List.getElem?_eq_some_iff.1 hc).1
    obtain ⟨cur,h1,h2,h3⟩:=h.row
    rw [Addr.add_lit]
    rw [Kz.bb h1,Nat.zero_add,h3 j c hj hc5]
    exact hc)
set_option maxHeartbeats 1000000 in
set_option maxRecDepth 100000 in
theorem Th (p:Kz.Mv→Bool) (g:Nat) (lb:Array Value) (eg:∀ args w,(callFunc g args).run Tryz.prog w=.ok (.enter g args) w) (cP cap:Nat) (d:Array Kz.Mv) (w:World) (hb:cP < w.heap.size) (hH:fc w cP cap 38 d w) (hcap:d.size≤cap) (hmax:cap≤maxLen)
    (hpo:∀ W dk x,fc w cP cap 38 dk W→Calls Tryz.prog g (#[.agg (eN x).toArray]++lb) W fun e w'=>e=.returned (.bool (p x))∧RowKit.Below W.heap.size W w') :
    Calls Tryz.prog 73 #[.slice (some ⟨cP,0,none⟩) d.size cap,.func (.func g) #[] lb] w fun e w'=>e=.returned (.slice (some ⟨cP,0,none⟩) (d.toList.filter fun x => !p x).length cap)∧fc w cP cap 38 (d.toList.filter fun x => !p x).toArray w':=by
  have hsz:d.size≤9223372036854775807:=by unfold maxLen at hmax; omega
  have e6:∀ args w,(callFunc 156 args).run Tryz.prog w=.ok (.enter 156 args) w:=fun args w=>by rfl
  have hp:PredBelow Tryz.prog g lb (fun x=>.agg (eN x).toArray) p w:=fun W x hB=>(hpo W d x (hH.below hb hB)).mono fun e w' ⟨h1,h2⟩=>⟨h1,hB.trans (h2.mono hB.size)⟩
  have hIF:=AnyQ.slices_IndexFunc Tryz.Ui 5 Tryz.isAgg38 Tryz.sizeOf38 eN fE p g lb eg cP 0 d.size cap d.toList w hp (by simp) hsz hb (fun j hj i v hi=>by
    have hi5:i < 5:=(List.getElem?_eq_some_iff.1 hi).1
    have hj':j < d.size:=by simpa using hj
    obtain ⟨cur,h1,h2,h3⟩:=hH.row
    rw [Kz.bb h1,Nat.zero_add,h3 j i hj' hi5]
    rw [← hi,getElem!_pos d j hj',getElem!_pos d.toList j hj]
    simp)
  rw [show d.toList.take d.size=d.toList from List.take_of_length_le (by simp)] at hIF
  have tl:∀ j,j < d.size→d.toList[j]! = d[j]! := fun j hj=>by rw [getElem!_pos d j hj,getElem!_pos d.toList j (by simpa using hj)]; simp
  obtain ⟨kp,HK⟩:∃ kp:Nat→Bool,Hid (kp=fun j => !p d[j]!):=⟨_,rfl⟩
  have hfil:(d.toList.filter fun x => !p x)=keptUpTo kp d d.size:=by rw [HK.out]; exact (keptUpTo_filter (fun x => !p x) d).symm
  rw [hfil]
  rcases idxByFrom_spec (fun _ y=>p y) default d.toList 0 with ⟨e1,hall⟩ | ⟨k0,hk0,e1,ht,hall⟩
  ·
    have e2:Lib.idxBy (fun _ y=>p y) d.toList default = -1:=e1
    rw [e2] at hIF
    have hkeep:∀ j,j < d.size→kp j=true:=fun j hj=>by rw [HK.out]; show (!p d[j]!)=true; rw [← tl j hj,hall j (by simpa using hj)]; rfl
    have e3:keptUpTo kp d d.size=d.toList:=by rw [keptUpTo_all kp d _ hkeep,range_map_get]
    have HH:Aside (fc w cP cap 38 d w):=hH
    have HB:Hid (cP < w.heap.size):=hb
    clear hH hpo hp hb
    go_enter Tryz.func73,Tryz.ntmps73
    go_wp2_with (go_at_fn 156; refine hIF.mono ?_; rintro e w' ⟨rfl,hbl⟩)
    go_ret
    rw [e3]
    exact ⟨by simp,by simpa using HH.out.below HB.out hbl⟩
  · have hk0':k0 < d.size:=by simpa using hk0
    have e2:Lib.idxBy (fun _ y=>p y) d.toList default=(k0:Int):=by unfold Lib.idxBy; rw [e1]; simp
    rw [e2] at hIF
    have hkeep:∀ j,j < k0→kp j=true:=fun j hj=>by rw [HK.out]; show (!p d[j]!)=true; rw [← tl j (by omega),hall j hj]; rfl
    have hdrop:kp k0=false:=by rw [HK.out]; show (!p d[k0]!)=false; rw [← tl k0 hk0']; rw [show p d.toList[k0]! = true from ht]; rfl
    have hne1:((k0:Int) == -1)=false:=beq_eq_false_iff_ne.2 (by omega)
    have HC:Aside _:=hpo
    have HH:Aside (fc w cP cap 38 d w):=hH
    have HB:Hid (cP < w.heap.size):=hb
    clear hpo hp hH hb hall ht e1 e2 tl
    go_enter Tryz.func73,Tryz.ntmps73
    go_wp2_with (go_at_fn 156; refine hIF.mono ?_; rintro e w' ⟨rfl,hbl⟩)
    have HBL:=Lib.hid hbl
    clear hbl
    go_loopg [5,6,7] d.size (fun gg s5 s6 _ wr => ∃ (i j:Nat) (dk:Array Kz.Mv),s5=.int .i64 i∧s6=.int .i64 j∧j≤d.size∧d.size - j≤gg∧Aside (fc w cP cap 38 dk wr)∧Aside (KeptInv kp d j i dk))
    case atStart=>exact ⟨k0,k0+1,d,rfl,by go_num,by omega,by omega,HH.out.below HB.out HBL.out,KeptInv.start hkeep hdrop⟩
    case round =>
      obtain ⟨i,j,dk,rfl,rfl,hjd,hgg,W2,I2⟩:=hrel
      have hI:=I2.out
      have hij:=hI.lt
      have hds:=hI.size
      by_cases hlt:j < d.size
      · have hltz:(j:Int) < (d.size:Int):=by omega
        have c0:=(W2.out.cell (j:=j) (by omega) 0 (by omega)).1
        have c1:=(W2.out.cell (j:=j) (by omega) 1 (by omega)).1
        have c2:=(W2.out.cell (j:=j) (by omega) 2 (by omega)).1
        have c3:=(W2.out.cell (j:=j) (by omega) 3 (by omega)).1
        have c4:=(W2.out.cell (j:=j) (by omega) 4 (by omega)).1
        simp only [hI.high j (by omega),eN,List.getElem_cons_succ,List.getElem_cons_zero,Nat.add_zero] at c0 c1 c2 c3 c4
        clear hI
        generalize hu:d[j]! = u at c0 c1 c2 c3 c4
        have C:Aside (d[j]! = u):=hu
        clear hu
        have hW1:fc w cP cap 38 dk (wr.alloc (Obj.cells #[Value.int IntKind.i8 u.aw,Value.int IntKind.i8 u.to,Value.int IntKind.u8 u.aI,Value.int IntKind.u8 u.aM,Value.bool u.bh] 38)) :=
          W2.out.below HB.out ((Below.refl _ _).alloc (Nat.le_refl _) _)
        have hcall:Calls Tryz.prog g (#[Value.agg #[Value.int IntKind.i8 u.aw,Value.int IntKind.i8 u.to,Value.int IntKind.u8 u.aI,Value.int IntKind.u8 u.aM,Value.bool u.bh]]++lb) _ _:=HC.out _ dk u hW1
        have HW1:=Lib.hid hW1
        clear hW1
        cases hq:p u with
        | false =>
          rw [hq] at hcall
          have HCALL:=Lib.hid hcall
          clear hcall
          go_wp2_with fail
          refine HCALL.out.mono ?_
          rintro e w2 ⟨rfl,hb2⟩
          have hW2:=HW1.out.below HB.out hb2
          have r0:=hW2.cell (j:=i) (by omega) 0 (by omega)
          have r1:=hW2.cell (j:=i) (by omega) 1 (by omega)
          have r2:=hW2.cell (j:=i) (by omega) 2 (by omega)
          have r3:=hW2.cell (j:=i) (by omega) 3 (by omega)
          have r4:=hW2.cell (j:=i) (by omega) 4 (by omega)
          simp only [Nat.add_zero] at r0
          obtain ⟨r0,f0⟩:=r0
          obtain ⟨r1,f1⟩:=r1
          obtain ⟨r2,f2⟩:=r2
          obtain ⟨r3,f3⟩:=r3
          obtain ⟨r4,f4⟩:=r4
          have hcs:∀ c,w2.cell? ⟨wr.heap.size,c,none⟩=(#[Value.int IntKind.i8 u.aw,Value.int IntKind.i8 u.to,Value.int IntKind.u8 u.aI,Value.int IntKind.u8 u.aM,Value.bool u.bh]:Array Value)[c]? := fun c=>by
            rw [hb2.cell (p:=⟨wr.heap.size,c,none⟩) (by simp),Kz.bb (heap_alloc_new wr _)]
          have b0:=hcs 0
          have b1:=hcs 1
          have b2:=hcs 2
          have b3:=hcs 3
          have b4:=hcs 4
          simp at b0 b1 b2 b3 b4
          have HW2:=Lib.hid hW2
          clear hcs hb2 hW2
          go_wp2_with fail
          go_roundg (d.size - (j+1))
          case measure=>omega
          case rel =>
            refine ⟨i+1,j+1,dk.setIfInBounds i u,by go_num,by go_num,by omega,Nat.le_refl _,HW2.out.put (i:=i) (by omega) (by omega) u,(show Aside _ from ?_)⟩
            have:=I2.out.keep hlt (by rw [HK.out]; show (!p d[j]!)=true; rw [C.out,hq]; rfl)
            rwa [C.out] at this
        | true =>
          rw [hq] at hcall
          have HCALL:=Lib.hid hcall
          clear hcall
          go_wp2_with fail
          refine HCALL.out.mono ?_
          rintro e w2 ⟨rfl,hb2⟩
          have HW2:=Lib.hid (HW1.out.below HB.out hb2)
          clear hb2
          go_wp2_with fail
          go_roundg (d.size - (j+1))
          case measure=>omega
          case rel=>exact ⟨i,j+1,dk,rfl,by go_num,by omega,Nat.le_refl _,HW2.out,I2.out.skip (by rw [HK.out]; show (!p d[j]!)=false; rw [C.out,hq]; rfl)⟩
      · obtain rfl:j=d.size:=by omega
        have hltz:¬ (d.size:Int) < (d.size:Int):=by omega
        have hcl:∀ ty,(Builtin.clear_ #[32] ty #[.slice (some ⟨cP,i * 5,none⟩) (d.size - i) (cap - i)]).run Tryz.prog wr=.ok (.tuple #[]) (wr.setCells cP (i * 5) (Builtin.zeroCells jj (d.size - i)).toList):=by
          obtain ⟨cur,h1,h2,h3⟩:=W2.out.row
          refine xV wr cP (i * 5) (d.size - i) (cap - i) (by omega) (fun t ht => ?_) (fun t ht=>Kz.fu h1)
          rw [Kz.bb h1]
          have:d.size * 5≤cap * 5:=Nat.mul_le_mul_right 5 hcap
          have h5:(d.size - i) * 5=d.size * 5 - i * 5:=Nat.sub_mul _ _ _
          rw [Array.getElem?_eq_getElem (by omega)]
          rfl
        have hid:i≤d.size:=by omega
        clear hI
        go_wp2
        go_ret
        have hI:=I2.out
        refine ⟨by rw [hI.len]; rfl,?_⟩
        have:=W2.out.tail (i:=i) (n:=d.size - i) (by omega) (by omega) _ (mZ (d.size - i))
        have e:keptUpTo kp d d.size=dk.toList.take i:=by
          have hsz':=hI.size
          apply List.ext_getElem?
          intro j
          by_cases hj:j < i
          · rw [hI.low j hj,List.getElem?_take_of_lt hj,getElem!_pos dk j (by omega),List.getElem?_eq_getElem (by simp; omega)]
            simp
          · rw [List.getElem?_eq_none (by rw [hI.len]; omega),List.getElem?_eq_none (by simp; omega)]
        rw [e]
        exact this
end Go.Proofs
end
section
namespace Go.Proofs
open Go.Shelf Go.RowKit Go.Lib Go.Sort Kz
theorem HO {w W:World} (hsz:w.heap.size≤W.heap.size) (old:∀ k,k < w.heap.size→W.heap[k]?=w.heap[k]?) {p:Nat×IntKind×Option (List Int)} (h:j5 (gG w) w p):j5 (gG W) W p :=
  ⟨fun hi=>let ⟨d,x,t,fr,e,f⟩:=h.1 hi
    ⟨Nat.lt_of_lt_of_le d hsz,x,t,fr,by rw [old _ d]; exact e,f⟩,
  fun hi=>let ⟨zs,a,b,c,d,t,fr,e⟩:=h.2 hi
    ⟨zs,a,b,fun j x hj=>⟨by rw [dK (old _ d)]; exact (c j x hj).1,Nat.lt_of_lt_of_le d hsz⟩,Nat.lt_of_lt_of_le d hsz,t,fr,by rw [old _ d]; exact e⟩⟩
theorem Dm {g:Gh} {tk:List Nat} {w:World} {m:Mv} {cs:List Value} (h:aB g tk w (bw (Mv.av m)) cs):cs=eN m:=by
  change aB g tk w [.int .i8 m.aw,.int .i8 m.to,.int .u8 m.aI,.int .u8 m.aM,.bool m.bh] cs at h
  obtain ⟨x1,r1,rfl,q1,h⟩:=h.inv_one rfl
  obtain ⟨x2,r2,rfl,q2,h⟩:=h.inv_one rfl
  obtain ⟨x3,r3,rfl,q3,h⟩:=h.inv_one rfl
  obtain ⟨x4,r4,rfl,q4,h⟩:=h.inv_one rfl
  obtain ⟨x5,r5,rfl,q5,h⟩:=h.inv_one rfl
  obtain rfl:=h.cG
  cases q1; cases q2; cases q3; cases q4; cases q5
  rfl
theorem Cg (g:Gh) (tk:List Nat) (w:World) (m:Mv):aB g tk w (bw (Mv.av m)) (eN m) :=
  .one rfl (.int _ _) (.one rfl (.int _ _) (.one rfl (.int _ _) (.one rfl (.int _ _) (.one rfl (.bool _) .nil))))
theorem nG {g:Gh} {tk:List Nat} {w:World}:∀ {l:List Mv} {cs:List Value},bc g tk w (l.map (enc .mv)) cs→cs=l.flatMap eN
  | [],_,h=>by cases h; rfl
  | m::l,_,h=>by
    cases h with
    | cons hs hx h hr=>rw [hx,Dm h,nG hr]; rfl
theorem sM (g:Gh) (tk:List Nat) (w:World):∀ l:List Mv,bc g tk w (l.map (enc .mv)) (l.flatMap eN)
  | []=>.nil
  | m::l=>.cons rfl rfl (Cg g tk w m) (sM g tk w l)
theorem mC (l:List Mv):(l.flatMap eN).length=l.length * 5:=by
  induction l with
  | nil=>rfl
  | cons m l ih=>simp only [List.flatMap_cons,List.length_append,fE,ih,List.length_cons]; omega
theorem qG:∀ (l:List Mv) (j c:Nat),j < l.length→c < 5→(l.flatMap eN)[j * 5+c]?=(eN l[j]!)[c]?
  | [],_,_,h,_=>absurd h (Nat.not_lt_zero _)
  | m::l,0,c,_,hc=>by
    simp only [List.flatMap_cons]
    rw [List.getElem?_append_left (by rw [fE]; omega)]
    simp
  | m::l,j+1,c,h,hc=>by
    simp only [List.flatMap_cons]
    rw [List.getElem?_append_right (by rw [fE]; omega),fE,show (j+1) * 5+c - 5=j * 5+c by omega,qG l j c (by simpa using h) hc]
    simp
theorem DU (m:Mv):∀ u ∈ eN m,u.oneCell'=true:=by
  intro u hu
  simp only [eN,List.mem_cons,List.not_mem_nil,or_false] at hu
  rcases hu with rfl | rfl | rfl | rfl | rfl <;> rfl
theorem DX (l:List Mv):∀ u ∈ l.flatMap eN,u.oneCell'=true:=by
  intro u hu
  obtain ⟨m,_,h⟩:=List.mem_flatMap.1 hu
  exact DU m u h
theorem yH {g g':Gh} {tk tk':List Nat} {w w':World} {p:Pos} {cs:List Value} (h:aB g tk w (bw (Pos.av p)) cs):aB g' tk' w' (bw (Pos.av p)) cs:=by
  change aB g tk w [.int .u8 p.variant,.ints .u8 64 p.ag,.u64 p.ab,.ints .u8 12 p.af,.int .u8 p.aa,.ints .i8 4 p.ak,.int .i8 p.ah,.ints .u8 2 p.ai,.int .i64 p.half,.int .i64 p.full] cs at h
  obtain ⟨x1,r1,rfl,q1,h1⟩:=h.inv_one rfl
  obtain ⟨l2,r2,rfl,h2⟩:=h1.cr
  obtain ⟨x3,r3,rfl,q3,h3⟩:=h2.inv_one rfl
  obtain ⟨l4,r4,rfl,h4⟩:=h3.cr
  obtain ⟨x5,r5,rfl,q5,h5⟩:=h4.inv_one rfl
  obtain ⟨l6,r6,rfl,h6⟩:=h5.cr
  obtain ⟨x7,r7,rfl,q7,h7⟩:=h6.inv_one rfl
  obtain ⟨l8,r8,rfl,h8⟩:=h7.cr
  obtain ⟨x9,r9,rfl,q9,h9⟩:=h8.inv_one rfl
  obtain ⟨x10,r10,rfl,q10,h10⟩:=h9.inv_one rfl
  obtain rfl:=h10.cG
  cases q1; cases q3; cases q5; cases q7; cases q9; cases q10
  exact .one rfl (.int _ _) (.ints l2 rfl (.one rfl (.u64 _) (.ints l4 rfl (.one rfl (.int _ _) (.ints l6 rfl (.one rfl (.int _ _) (.ints l8 rfl (.one rfl (.int _ _) (.one rfl (.int _ _) .nil)))))))))
set_option maxHeartbeats 1000000 in
set_option maxRecDepth 100000 in
theorem Xv (a:Option Addr) (c:Nat) (fv:Value) (w:World):Calls Tryz.prog 156 #[.slice a 0 c,fv] w fun e w'=>e=.returned (.int .i64 (-1))∧w'=w:=by
  go_enter Tryz.func156,Tryz.ntmps156
  go_wp2
  go_loopg [5,8] 0 (fun _ _ s8 wr=>s8=.int .i64 0∧wr=w)
  case atStart=>exact ⟨rfl,rfl⟩
  case round =>
    obtain ⟨rfl,rfl⟩:=hrel
    go_wp2
    go_ret
    exact ⟨rfl,rfl⟩
set_option maxHeartbeats 1000000 in
set_option maxRecDepth 100000 in
theorem X2 (a:Option Addr) (c:Nat) (fv:Value) (w:World):Calls Tryz.prog 73 #[.slice a 0 c,fv] w fun e w'=>e=.returned (.slice a 0 c)∧w'=w:=by
  have h:=Xv a c fv w
  go_enter Tryz.func73,Tryz.ntmps73
  go_wp2_with fail
  refine h.mono ?_
  rintro e w' ⟨rfl,rfl⟩
  go_wp2_with fail
  go_ret
  exact ⟨rfl,rfl⟩
set_option maxHeartbeats 2000000 in
set_option maxRecDepth 100000 in
theorem J4 (ad:Addr) (c:Nat) (w:World):Calls Tryz.prog 74 #[.slice (some ad) 0 c] w fun e w' => ∃ v',e=.returned v'∧w'.ownsRow w.heap.size 38 5 v' 0 []∧v'≠.slice none 0 0∧RowKit.Below w.heap.size w w':=by
  obtain ⟨i0,z,a1,a2,a3,a4,a5⟩:=ym
  have q22:∀ (w:World) (a:Option Addr) (n c n' c':Nat),(binOp .eql 32 (.slice a n c) (.slice none n' c')).run Tryz.prog w=.ok (.bool a.isNone) w:=fun w a n c n' c'=>Lib.run_eql_slice_nil w _ _ a n c n' c' Tryz.underlying32
  have u22:∀ w,Sem.run Tryz.prog (underlying 32) w=.ok (TypeDesc.slice 38) w:=run_underlying Tryz.underlying32
  go_enter Tryz.func74,Tryz.ntmps74
  go_wp2_with (at_builtin; refine wpList_append_own _ rfl _ _ 32 rfl w.heap.size 38 i0 z 5 i0.bytes Tryz.underlying32 a1 a2 a3 rfl a4 (by omega) _ _ _ rfl (World.ownsRow_made w #[] 0 (Nat.le_refl _) (Nat.zero_le _) (by simp)) ad 0 c [] rfl ?qc1 ?qc2 ?qc3 ?qc4 ?qc5 ?qc6 ?_)
  case qc1=>rfl
  case qc2=>intro j u hj; simp at hj
  case qc3=>intro u hu; simp at hu
  case qc4=>simp
  case qc5=>simp
  case qc6=>simp
  intro v' w1 hown hgrow hnil
  go_wp2
  go_ret
  refine ⟨v',rfl,by simpa using hown,?_,?_⟩
  · exact hnil
  · exact ((Below.refl _ w).alloc (Nat.le_refl _) _).grown hgrow (by simp) (by intro k hk; simp [Value.ownBlock] at hk; omega)
set_option maxHeartbeats 2000000 in
set_option maxRecDepth 100000 in
theorem Jx (p:Pos) (f2:Nat) (q:Mv→Bool) (l:List Mv) (hll:l.length≤oQ) (hq:∀ m,bR Tryz.prog 75 [Mv.av m,.ptrf (.func f2 [] [.ptrf (Pos.av p)])] (.bool (!q m))):bR Tryz.prog 72 [.list .mv l .arg,.func f2 [] [.ptrf (Pos.av p)]] (.list .mv (l.filter q) .fresh):=by
  intro w bg hg hr
  obtain ⟨bg⟩:=bg
  cases hr with
  | cons q1 r1 =>
  cases r1 with
  | cons q2 r2 =>
  cases r2
  cases q2 with
  | func ha hb =>
  rename_i x y
  obtain ⟨x⟩:=x
  obtain ⟨y⟩:=y
  cases ha
  cases hb with
  | cons q3 r3 =>
  cases r3
  cases q3 with
  | ptrf hpc hpa =>
  rename_i pc po pcs
  cases q1 with
  | list hn hE hS hT hC =>
  rename_i a n cap cs
  subst hn
  have hcs:=nG hE
  obtain ⟨fv,hfv⟩:∃ fv:Value,fv=.func (.func f2) (Array.mk []) (Array.mk [.pointer (some ⟨pc,po,none⟩)]):=⟨_,rfl⟩
  rw [← hfv]
  have hpred:∀ (W:World) (u:Mv),w.heap.size+1≤W.heap.size→(∀ k,k < w.heap.size+1→W.heap[k]?=(w.alloc (.cells #[fv] 92)).heap[k]?) →
      Calls Tryz.prog 75 (#[.agg (eN u).toArray]++#[.pointer (some ⟨w.heap.size,0,none⟩)]) W fun e w'=>e=.returned (.bool (!q u))∧RowKit.Below W.heap.size W w':=by
    intro W u hsz hsame
    have old:∀ k,k < w.heap.size→W.heap[k]?=w.heap[k]? := fun k hk=>by
      rw [hsame k (by omega)]
      exact ((Below.refl _ w).alloc (Nat.le_refl _) _).block k hk
    refine (callsIn_wide.1 (hq u W (#[.agg (eN u).toArray]++#[.pointer (some ⟨w.heap.size,0,none⟩)]) ?_ ?_)).mono ?_
    · exact fun pr hpr=>HO (by omega) old (hg pr hpr)
    · refine .cons (.agg (Cg _ _ _ u)) (.cons (.ptrf (cs:=[fv]) (.one rfl ?_ .nil) ?_) .nil)
      · rw [hfv]
        refine .func .nil (.cons (.ptrf (yH hpc) ?_) .nil)
        intro j x hj
        obtain ⟨h1,h2⟩:=hpa j x hj
        have hlt:pc < w.heap.size:=h2
        exact ⟨by rw [dK (old _ hlt)]; exact h1,Nat.lt_of_lt_of_le hlt (by omega)⟩
      · intro j x hj
        have hc:W.heap[w.heap.size]?=some (.cells #[fv] 92 (0,0)):=by
          rw [hsame _ (Nat.lt_succ_self _)]; exact heap_alloc_new w _
        refine ⟨?_,show w.heap.size < W.heap.size by omega⟩
        rw [bb hc,Nat.zero_add]
        simpa using hj
    · rintro e w' ⟨v,rfl,hb,hv⟩
      cases hv
      exact ⟨rfl,hb⟩
  subst hfv
  clear hpc hpa
  refine callsIn_wide.2 ?_
  cases a with
  | none =>
    obtain rfl:l=[]:=by
      rcases hS with h | ⟨_,_,h,_⟩
      · have:=mC l
        rw [← hcs,h] at this
        exact List.eq_nil_of_length_eq_zero (by simp at this; omega)
      · cases h
    have hc:=fun w=>AnyE.slices_Clone_nil Tryz.Cu 0 cap w
    have hd:=X2 none 0 (.func (.func 75) #[] #[.pointer (some ⟨w.heap.size,0,none⟩)])
    clear hpred hS hcs hE hT
    go_enter Tryz.func72,Tryz.ntmps72
    go_wp2_with fail
    refine (hc _).mono ?_
    rintro e w' ⟨rfl,rfl⟩
    go_wp2_with fail
    refine (hd _).mono ?_
    rintro e w' ⟨rfl,rfl⟩
    go_wp2_with fail
    go_ret
    exact ⟨_,rfl,(Below.refl _ w).alloc (Nat.le_refl _) _,.list (cs:=[]) rfl .nil (.inl rfl) (fun k e=>by cases e) (Nat.le_refl _)⟩
  | some ad =>
    have hclone:Calls Tryz.prog 74 #[.slice (some ad) l.length cap] (w.alloc (.cells #[(.func (.func f2) (Array.mk []) (Array.mk [.pointer (some ⟨pc,po,none⟩)]))] 92)) fun e w' => ∃ v',e=.returned v'∧w'.ownsRow (w.alloc (.cells #[(.func (.func f2) (Array.mk []) (Array.mk [.pointer (some ⟨pc,po,none⟩)]))] 92)).heap.size 38 5 v' l.length (l.flatMap eN)∧v'≠.slice none 0 0∧RowKit.Below (w.alloc (.cells #[(.func (.func f2) (Array.mk []) (Array.mk [.pointer (some ⟨pc,po,none⟩)]))] 92)).heap.size (w.alloc (.cells #[(.func (.func f2) (Array.mk []) (Array.mk [.pointer (some ⟨pc,po,none⟩)]))] 92)) w':=by
      by_cases hl:l=[]
      · subst hl
        exact J4 ad cap _
      · obtain ⟨c,o,hadr,hat,_⟩:=hS.resolve_left (fun e0=>hl (by
          have:=mC l
          rw [← hcs,e0] at this
          exact List.eq_nil_of_length_eq_zero (by simp at this; omega)))
        simp only [Option.some.injEq] at hadr
        subst hadr
        obtain ⟨i0,z,a1,a2,a3,a4,a5⟩:=ym
        refine AnyE.slices_Clone Tryz.Cu i0 z 5 i0.bytes a1 a2 a3 rfl a4 (by omega) Tryz.sizeOf38 c o l.length cap (l.flatMap eN) _ (mC l) ?_ ?_ ?_ (DX l)
        · unfold oQ at hll; unfold maxLen; omega
        · have:l.length * i0.bytes≤l.length * 131072:=Nat.mul_le_mul_left _ a5
          unfold oQ at hll
          omega
        · intro j u hj
          rw [← hcs] at hj
          obtain ⟨h1,h2⟩:=hat j u hj
          have hlt:c < w.heap.size:=h2
          rw [dK (((Below.refl _ w).alloc (Nat.le_refl _) _).block c hlt)]
          exact h1
    clear hS hcs hE hT
    have HP:=Lib.hid hpred
    clear hpred
    go_enter Tryz.func72,Tryz.ntmps72
    go_wp2_with fail
    refine hclone.mono ?_
    rintro e w2 ⟨v',rfl,hown,hne,hb⟩
    obtain ⟨hlen,⟨rfl,_⟩ | ⟨gb,cap',cur,rfl,hgb,hcur,hn',hmax,hsz,htake⟩⟩:=hown
    · exact absurd rfl hne
    have hrow:fc w2 gb cap' 38 l.toArray w2:=⟨rfl,rfl,rfl,Nat.le_refl _,fun _ _ _=>rfl,cur,hcur,hsz,fun j c hj hc=>by
      have hj':j < l.length:=by simpa using hj
      have h1:j * 5+c < l.length * 5:=by have:=Nat.mul_le_mul_right 5 (show j+1≤l.length from hj'); omega
      rw [← Array.getElem?_toList,← List.getElem?_take_of_lt h1,htake,qG l j c hj' hc]
      congr 2
      rw [getElem!_pos l j hj',getElem!_pos l.toArray j hj]
      simp⟩
    have hdel:=Th (fun u => !q u) 75 #[.pointer (some ⟨w.heap.size,0,none⟩)] (fun _ _=>rfl) gb cap' l.toArray w2 (aV hcur) hrow (by simpa using hn') hmax (fun W dk u hW=>by
      have hs1:(w.alloc (.cells #[(.func (.func f2) (Array.mk []) (Array.mk [.pointer (some ⟨pc,po,none⟩)]))] 92)).heap.size=w.heap.size+1:=by simp
      refine HP.out W u (by have:=hb.size; have:=hW.size; omega) (fun k hk => ?_)
      rw [hW.other k (by have:=hb.size; omega) (by omega),hb.block k (by omega)])
    simp only [List.size_toArray,Bool.not_not] at hdel
    have HD:=Lib.hid hdel
    have HBW:=Lib.hid hb
    have HG:=Lib.hid hgb
    have HN:=Lib.hid hn'
    clear hdel HP hrow hb hgb hn' hcur hsz htake hlen hne hmax hclone
    go_wp2_with fail
    refine HD.out.mono ?_
    rintro e w3 ⟨rfl,hR⟩
    have HR:=Lib.hid hR
    clear hR
    go_wp2_with fail
    go_ret
    have hR:=HR.out
    have hb:=HBW.out
    have hgb:=HG.out
    have hs1:(w.alloc (.cells #[(.func (.func f2) (Array.mk []) (Array.mk [.pointer (some ⟨pc,po,none⟩)]))] 92)).heap.size=w.heap.size+1:=by simp
    have hw1:RowKit.Below w.heap.size w (w.alloc (.cells #[(.func (.func f2) (Array.mk []) (Array.mk [.pointer (some ⟨pc,po,none⟩)]))] 92)):=(Below.refl _ w).alloc (Nat.le_refl _) _
    have hbw:RowKit.Below w.heap.size w w3:=⟨hR.os.trans (hb.os.trans hw1.os),hR.tape.trans (hb.tape.trans hw1.tape),hR.output.trans (hb.output.trans hw1.output),by have:=hR.size; have:=hb.size; omega,fun k hk=>by
      rw [hR.other k (by have:=hb.size; omega) (by omega),hb.block k (by omega)]
      exact hw1.block k hk⟩
    refine ⟨_,rfl,hbw,?_⟩
    obtain ⟨cur,k1,k2,k3⟩:=hR.row
    have hfl:(l.filter q).length≤l.length:=List.length_filter_le _ _
    refine .list (cs:=(l.filter q).flatMap eN) (by simp) (sM _ _ _ _) (.inr ⟨gb,0,rfl,fun j x hj => ?_,fun _=>by show w.heap.size≤gb; omega⟩) (fun k e=>by cases e) (Nat.le_trans hfl HN.out)
    have hjl:j < (l.filter q).length * 5:=by rw [← mC]; exact (List.getElem?_eq_some_iff.1 hj).1
    have hdm:j=j / 5 * 5+j % 5:=by omega
    have hq5:j / 5 < (l.filter q).length:=by omega
    refine ⟨?_,show w.heap.size≤gb∧gb < w3.heap.size from ⟨by omega,aV k1⟩⟩
    rw [bb k1,Nat.zero_add,hdm,k3 (j / 5) (j % 5) (by simpa using hq5) (Nat.mod_lt _ (by omega)),← hj]
    conv=>rhs; rw [hdm]
    rw [qG (l.filter q) (j / 5) (j % 5) hq5 (Nat.mod_lt _ (by omega))]
    congr 2
    rw [getElem!_pos (l.filter q) (j / 5) hq5,getElem!_pos (l.filter q).toArray (j / 5) (by simpa using hq5)]
    simp
end Go.Proofs
end
section
namespace Kz
open Go Go.RowKit Go.Proofs
theorem zQ {P:Program} {f:Nat} {l l':List Mv} {tk:Tk} {f2 b:Nat} {p:Pos} {h:Hp} (hb:h.heap[b]?=some (bw (Pos.av p))) (hs:bR P f [.list .mv l .arg,.func f2 [] [.ptrf (Pos.av p)]] (.list .mv l' .fresh)) :
    cR P f [.list .mv l tk,.func f2 [] [.ptr b 0]] h (.ret (.list .mv l' .fresh) h):=by
  intro g w bg m hr
  have hr':aE (gG w) [] w [.list .mv l .arg,.func f2 [] [.ptrf (Pos.av p)]] bg.toList:=by
    obtain ⟨bg⟩:=bg
    cases hr with
    | cons q1 r1 =>
    cases r1 with
    | cons q2 r2 =>
    cases r2
    cases q1 with
    | list hn hE hS hT hC =>
    rename_i a n cap cs
    cases q2 with
    | func ha hb2 =>
    rename_i x y
    obtain ⟨x⟩:=x
    obtain ⟨y⟩:=y
    cases ha
    cases hb2 with
    | cons q3 r3 =>
    cases r3
    cases q3 with
    | ptr hv =>
    rename_i c
    obtain ⟨_,_,cells,ty,hc,hcells⟩:=m.C9 hv hb rfl
    refine .cons (.list (cs:=cs) hn (by rw [nG hE]; exact sM _ _ _ _) (hS.imp id fun ⟨c',o',e1,e2,_⟩=>⟨c',o',e1,fun j x hj=>⟨(e2 j x hj).1,m.eC _ _ (e2 j x hj).2⟩,fun f=>absurd rfl f⟩) (fun k e=>by cases e) hC)
      (.cons (.func .nil (.cons (.ptrf (cs:=cells.toList) (yH hcells) fun j x hj=>⟨by rw [bb hc,Nat.zero_add]; simpa using hj,aV hc⟩) .nil)) .nil)
  refine (hs w bg m.Cm hr').mono ?_
  rintro e w' ⟨x,rfl,hbl,hx⟩
  obtain ⟨m1,l1⟩:=m.DD hbl
  exact ⟨_,x,rfl,⟨m1,l1,Fl.refl _⟩,EZ m hx⟩
end Kz
end
section
namespace Kz
open Go Go.RowKit Go.Proofs
set_option maxRecDepth 100000
set_option maxHeartbeats 4000000
noncomputable def Wj:aC:=au Pz (fun _ _=>[]) [(80,Ql),(78,SO)] [] []
theorem Oo:bD Wj:=ao al ⟨SG,Xq,trivial⟩ trivial trivial
theorem TQ (p:Pos) (m:Mv):cZ Wj 14 75 [Mv.av m,.ptrf (.func 77 [] [.ptrf (Pos.av p)])]=Tr.br (vH p m) (Tr.ret (AV.bool (!wE p m))) Tr.fail:=by kernel_rfl
theorem XE (p:Pos) (m:Mv):cZ Wj 14 75 [Mv.av m,.ptrf (.func 79 [] [.ptrf (Pos.av p)])]=Tr.br (tR p m) (Tr.ret (AV.bool (!gX p m))) Tr.fail:=by kernel_rfl
theorem W4 (p:Pos) (m:Mv) (h:vH p m=true):bR Pz 75 [Mv.av m,.ptrf (.func 77 [] [.ptrf (Pos.av p)])] (.bool (!wE p m)) :=
  (zo (d:=dB) Oo (TQ p m) (qH (EH rfl)) (by rw [h]; rfl)).1
theorem T4 (p:Pos) (m:Mv) (h:tR p m=true):bR Pz 75 [Mv.av m,.ptrf (.func 79 [] [.ptrf (Pos.av p)])] (.bool (!gX p m)) :=
  (zo (d:=dB) Oo (XE p m) (qH (EH rfl)) (by rw [h]; rfl)).1
open Classical in
noncomputable def D8 (p:Pos):Bool:=shut (decide (∀ m,vH p m=true))
theorem sx {p:Pos}:D8 p=true ↔ ∀ m,vH p m=true:=by
  unfold D8
  rw [ui]
  simp
open Classical in
noncomputable def Di (p:Pos):Bool:=shut (decide (∀ m,tR p m=true))
theorem rO {p:Pos}:Di p=true ↔ ∀ m,tR p m=true:=by
  unfold Di
  rw [ui]
  simp
noncomputable def kept (f:Nat) (p:Pos) (l:List Mv):List Mv:=l.filter (bif f.beq 77 then wE p else gX p)
noncomputable def fK (f:Nat) (p:Pos) (l:List Mv):Bool:=decide (l.length≤oQ)&&bif f.beq 77 then D8 p else f.beq 79&&Di p
noncomputable def HZ:List AV→Hp→Tr bV:=fun xs h=>match xs with
  | [.list .mv l _,.func f [] [.ptr b 0]]=>match h.heap[b]? with
    | some [.int .u8 v,.ints .u8 64 bd,.u64 pr,.ints .u8 12 pk,.int .u8 tn,.ints .i8 4 rk,.int .i8 ps,.ints .u8 2 ck,.int .i64 hf,.int .i64 fl] =>
      .guard (fK f ⟨v,bd,pr,pk,tn,rk,ps,ck,hf,fl⟩ l) (.ret (.ret (.list .mv (kept f ⟨v,bd,pr,pk,tn,rk,ps,ck,hf,fl⟩ l) .fresh) h))
    | _=>.fail
  | _=>.fail
theorem MC:∃ fn,Pz.funcs[72]?=some fn∧fn.body.isSome=true:=by
  have h:(match Pz.funcs[72]? with
    | some fn=>fn.body.isSome
    | none=>false)=true:=by kernel_rfl
  split at h
  · rename_i fn hf
    exact ⟨fn,hf,h⟩
  · cases h
theorem IK:eX Pz 72 HZ:=by
  intro xs h res he
  unfold HZ at he
  split at he
  · rename_i l tk f b
    split at he
    · rename_i v bd pr pk tn rk ps ck hf fl hb
      simp only [get_guard,aq,Option.some.injEq] at he
      obtain ⟨h1,rfl⟩:=he
      refine ⟨?_,MC⟩
      unfold fK at h1
      simp only [Bool.and_eq_true,decide_eq_true_eq] at h1
      obtain ⟨hl,h1⟩:=h1
      unfold kept
      cases hf3:f.beq 77 with
      | true =>
        rw [hf3] at h1
        obtain rfl:=Nat.eq_of_beq_eq_true hf3
        exact zQ (p:=⟨v,bd,pr,pk,tn,rk,ps,ck,hf,fl⟩) hb (Jx _ _ _ l hl fun m=>W4 _ m (sx.1 h1 m))
      | false =>
        rw [hf3] at h1
        simp only [cond_false,Bool.and_eq_true] at h1
        obtain rfl:=Nat.eq_of_beq_eq_true h1.1
        exact zQ (p:=⟨v,bd,pr,pk,tn,rk,ps,ck,hf,fl⟩) hb (Jx _ _ _ l hl fun m=>T4 _ m (rO.1 h1.2 m))
    · simp at he
  · simp at he
noncomputable def Z5:List (Nat×Nat×List (Nat×List Nat)):=[(37,37,[(0,(1::(rn 12 5 [28,29,30]))),(1,[1,17,28,29,30]),(2,[2]),(3,[1,3,28,29,30]),(4,[1,3,4,28,29,30]),(5,[1,3,4,5,28,29,30]),(6,[3,4,5,31]),(7,[4]),(8,[2])]),(72,9,[(0,[0,3]),(1,[4])]),(77,7,[(0,[1,2]),(1,[3])]),(79,7,[(0,[1,2]),(1,[3])]),(81,9,[(0,[0,1]),(1,[4])]),(156,19,[(0,[0,1]),(1,[0,1,7,8]),(2,[0,1,7,8,9]),(3,[0,1,5,7,8]),(4,[0,1,5,7,8,16]),(5,[4]),(6,[0,1,7,8]),(7,[4])])]
noncomputable def Q1:aC:=au Pz (fun f i=>bI f i Z5) [(70,QS),(76,zR),(80,Ql),(78,SO),(71,Qi)] [] [(72,HZ)]
theorem Ky:bD Q1:=ao al ⟨SY,Aa,SG,Xq,SL,trivial⟩ trivial ⟨IK,trivial⟩
noncomputable def I0 (p1:(List Mv)) (p2:Int) (p3:Pos) (x:(Int)):St:=St.mk (AV.list ET.mv p1 Tk.fresh::AV.func 79 [] [AV.ptr 0 0]::(an 5 (AV.int .i64 p2::AV.int .i64 x::(an 10 [])))) (Hp.mk [(pc p3 [])] [0] [] 0 0 0)
noncomputable def JE (p1:(List Mv)) (p2:Int) (p3:Pos):(Int) ⊕ (Int×Bool)→Out
  | (.inl (y))=>.ret (St.mk (an 4 (AV.int .i64 y::(an 14 []))) (Hp.mk [(pc p3 [])] [0] [] 0 0 0))
  | (.inr (y))=>.exit 0 (St.mk (AV.list ET.mv p1 Tk.fresh::AV.func 79 [] [AV.ptr 0 0]::(an 5 (AV.int .i64 p2::AV.int .i64 y.fst::AV.bool y.snd::(an 9 [])))) (Hp.mk [(pc p3 [])] [0] [] 0 0 0))
noncomputable def Mi (p1:(List Mv)) (p2:Int) (p3:Pos) (x:(Int)):bA (Int) ((Int) ⊕ (Int×Bool)):=(bif decide (x < p2) then (bif gX p3 (p1.getD x.toNat default) then (bA.out (.inl ((x)))) else (bA.go (wr .i64 (x+1)))) else (bA.out (.inr ((x,decide (x < p2))))))
noncomputable def GG (p1:(List Mv)) (p2:Int) (p3:Pos) (x:(Int)):Bool:=(bif decide (x < p2) then (decide (0≤x)&&decide (x < Int.ofNat p1.length)&&(tR (p3) (p1.getD x.toNat default)&&true)) else true)
noncomputable def dE (p1:(List Mv)) (p2:Int) (p3:Pos) (x:(Int)):Option ((Int) ⊕ (Int×Bool)):=fY (fun x=>bif GG p1 p2 p3 x then Mi p1 p2 p3 x else .bad) many x
abbrev ID {α:Type} (k:(List Mv)→Int→Pos→(Int)→α) (s:St):α:=wP s 0 fun q0=>k (tL (ET.mv) (tT s 0)) (tI (tT s 7)) q0 ((tI (tT s 8)))
theorem PZ (p1:(List Mv)) (p2:Int) (p3:Pos) (x:(Int)) (r:(Int) ⊕ (Int×Bool)) (h:dE p1 p2 p3 x=some r):aF Pz (bW Pz 156 2) (I0 p1 p2 p3 x) (JE p1 p2 p3 r):=aF.kR (m:=12) (fn:=156) Ky (ID fun _ _ _ x=>some x) (fun o=>match o with | .ret s=>some (.inl (tI (tT s 4))) | .exit 0 s=>some (.inr ((tI (tT s 8)),(tB (tT s 9)))) | _=>none) (fun r=>by cases r <;> rfl) (fun _=>by kernel_rfl) (fun _=>by kernel_rfl) (fun _=>by kernel_rfl) (fun _=>by kernel_rfl) many x r h
noncomputable def Jb (b:Code) (s:St):Tr Out:=ID (fun p1 p2 p3 x=>Be b (bW Pz 156 2) s (I0 p1 p2 p3 x) (dE p1 p2 p3 x) (JE p1 p2 p3)) s
theorem LW:∀ b,bJ Pz b (Jb b):=fun _ _ _ h=>fX (PZ _ _ _ _) h
noncomputable def B37:aC:=au Pz (fun f i=>bI f i Z5) [(70,QS),(76,zR),(80,Ql),(78,SO),(71,Qi)] [(156,2,Jb)] [(72,HZ)]
theorem XW:bD B37:=ao al ⟨SY,Aa,SG,Xq,SL,trivial⟩ ⟨LW,trivial⟩ ⟨IK,trivial⟩
noncomputable def nI (a:Pos):List Mv:=(bif FL a.variant a.aa then (bif !E9 a a.aa then ([]) else (bif a.variant==4 then (bif iC ((dE (kept 77 a (dO a)) (Int.ofNat (kept 77 a (dO a)).length) a 0).getD default) then (bif decide (gl ((dE (kept 77 a (dO a)) (Int.ofNat (kept 77 a (dO a)).length) a 0).getD default) ≥ 0) then (kept 79 a (kept 77 a (dO a))) else (kept 77 a (dO a))) else (kept 77 a (dO a))) else (kept 77 a (dO a)))) else (bif a.variant==4 then (bif iC ((dE (kept 77 a (dO a)) (Int.ofNat (kept 77 a (dO a)).length) a 0).getD default) then (bif decide (gl ((dE (kept 77 a (dO a)) (Int.ofNat (kept 77 a (dO a)).length) a 0).getD default) ≥ 0) then (kept 79 a (kept 77 a (dO a))) else (kept 77 a (dO a))) else (kept 77 a (dO a))) else (kept 77 a (dO a))))
noncomputable def vr (a:Pos):Bool:=(tf (a.variant) (a.aa)&&(bif FL a.variant a.aa then (yn (a) (a.aa)&&(bif !E9 a a.aa then true else (wm (a)&&(fK 77 a (dO a)&&(bif a.variant==4 then ((dE (kept 77 a (dO a)) (Int.ofNat (kept 77 a (dO a)).length) a 0).isSome&&bif iC ((dE (kept 77 a (dO a)) (Int.ofNat (kept 77 a (dO a)).length) a 0).getD default) then (bif decide (gl ((dE (kept 77 a (dO a)) (Int.ofNat (kept 77 a (dO a)).length) a 0).getD default) ≥ 0) then (fK 79 a (kept 77 a (dO a))&&true) else true) else true) else true))))) else (wm (a)&&(fK 77 a (dO a)&&(bif a.variant==4 then ((dE (kept 77 a (dO a)) (Int.ofNat (kept 77 a (dO a)).length) a 0).isSome&&bif iC ((dE (kept 77 a (dO a)) (Int.ofNat (kept 77 a (dO a)).length) a 0).getD default) then (bif decide (gl ((dE (kept 77 a (dO a)) (Int.ofNat (kept 77 a (dO a)).length) a 0).getD default) ≥ 0) then (fK 79 a (kept 77 a (dO a))&&true) else true) else true) else true)))))
theorem P37 (a:Pos) (h:vr a=true):PS Pz 37 [Pos.av a] ((dL .mv).res (nI a)):=aA (n:=14) XW (by kernel_rfl) (by kernel_rfl) (by kernel_rfl) h
noncomputable def SS:List AV→Tr AV:=g1 bH (fun a=>cE (vr a) ((dL .mv).res (nI a)))
theorem TA:Sound Pz 37 SS:=aS fun a=>aJ (P37 a)
noncomputable def N0:List (Nat×Nat×List (Nat×List Nat)):=[(81,9,[(0,[0,1]),(1,[4])]),(153,40,[(0,[1,2,16]),(1,[1,2,3,16]),(2,[1,2,4,5,16]),(3,[1,2,4,5,13]),(4,[2]),(5,[1,2,4,19]),(6,[2]),(7,[1,2,22]),(8,[2]),(9,[1,2,26]),(10,[2]),(11,[1,2,6]),(12,[1,2,7]),(13,[2,37]),(14,[2]),(15,[2])]),(156,19,[(0,[0,1]),(1,[0,1,7,8]),(2,[0,1,7,8,9]),(3,[0,1,5,7,8]),(4,[0,1,5,7,8,16]),(5,[4]),(6,[0,1,7,8]),(7,[4])]),(226,8,[(0,[0,1]),(1,[3])]),(227,14,[(0,[1,2,10,11,12]),(1,[3])])]
noncomputable def ME:aC:=au Pz (fun f i=>bI f i N0) [(37,SS),(155,jq),(222,wx)] [] []
theorem FO:bD ME:=ao al ⟨TA,j6,xG,trivial⟩ trivial trivial
noncomputable def Dl (p1:(List Mv)) (p2:Int) (p3:Pos) (p4:Int) (x:(Int)):St:=St.mk (AV.list ET.mv p1 Tk.fresh::AV.func 227 [] [AV.ptr 2 0]::(an 5 (AV.int .i64 p2::AV.int .i64 x::(an 10 [])))) (Hp.mk [(pc p3 []),[AV.int .u8 0,AV.int .u8 0],[AV.int .i64 p4]] [] [] 0 0 0)
noncomputable def BS (p1:(List Mv)) (p2:Int) (p3:Pos) (p4:Int):(Int) ⊕ (Int×Bool)→Out
  | (.inl (y))=>.ret (St.mk (an 4 (AV.int .i64 y::(an 14 []))) (Hp.mk [(pc p3 []),[AV.int .u8 0,AV.int .u8 0],[AV.int .i64 p4]] [] [] 0 0 0))
  | (.inr (y))=>.exit 0 (St.mk (AV.list ET.mv p1 Tk.fresh::AV.func 227 [] [AV.ptr 2 0]::(an 5 (AV.int .i64 p2::AV.int .i64 y.fst::AV.bool y.snd::(an 9 [])))) (Hp.mk [(pc p3 []),[AV.int .u8 0,AV.int .u8 0],[AV.int .i64 p4]] [] [] 0 0 0))
noncomputable def Gw (p1:(List Mv)) (p2:Int) (p3:Pos) (p4:Int) (x:(Int)):bA (Int) ((Int) ⊕ (Int×Bool)):=(bif decide (x < p2) then (bif wr .i64 (p1.getD x.toNat default).aw==p4 then (bif decide ((p1.getD x.toNat default).to ≥ 56) then (bA.out (.inl ((x)))) else (bA.go (wr .i64 (x+1)))) else (bA.go (wr .i64 (x+1)))) else (bA.out (.inr ((x,decide (x < p2))))))
noncomputable def BL (p1:(List Mv)) (p2:Int) (p3:Pos) (p4:Int) (x:(Int)):Bool:=(bif decide (x < p2) then (decide (0≤x)&&decide (x < Int.ofNat p1.length)&&true) else true)
noncomputable def dY (p1:(List Mv)) (p2:Int) (p3:Pos) (p4:Int) (x:(Int)):Option ((Int) ⊕ (Int×Bool)):=fY (fun x=>bif BL p1 p2 p3 p4 x then Gw p1 p2 p3 p4 x else .bad) many x
abbrev Cd {α:Type} (k:(List Mv)→Int→Pos→Int→(Int)→α) (s:St):α:=wP s 0 fun q0=>k (tL (ET.mv) (tT s 0)) (tI (tT s 7)) q0 (tI (tH s 2 0)) ((tI (tT s 8)))
theorem Mb (p1:(List Mv)) (p2:Int) (p3:Pos) (p4:Int) (x:(Int)) (r:(Int) ⊕ (Int×Bool)) (h:dY p1 p2 p3 p4 x=some r):aF Pz (bW Pz 156 2) (Dl p1 p2 p3 p4 x) (BS p1 p2 p3 p4 r):=aF.kR (m:=12) (fn:=156) FO (Cd fun _ _ _ _ x=>some x) (fun o=>match o with | .ret s=>some (.inl (tI (tT s 4))) | .exit 0 s=>some (.inr ((tI (tT s 8)),(tB (tT s 9)))) | _=>none) (fun r=>by cases r <;> rfl) (fun _=>by kernel_rfl) (fun _=>by kernel_rfl) (fun _=>by kernel_rfl) (fun _=>by kernel_rfl) many x r h
noncomputable def C2 (b:Code) (s:St):Tr Out:=Cd (fun p1 p2 p3 p4 x=>Be b (bW Pz 156 2) s (Dl p1 p2 p3 p4 x) (dY p1 p2 p3 p4 x) (BS p1 p2 p3 p4)) s
theorem Fy:∀ b,bJ Pz b (C2 b):=fun _ _ _ h=>fX (Mb _ _ _ _ _) h
noncomputable def Uh:aC:=au Pz (fun f i=>bI f i N0) [(37,SS),(155,jq),(222,wx)] [(156,2,C2)] []
theorem Qk:bD Uh:=ao al ⟨TA,j6,xG,trivial⟩ ⟨Fy,trivial⟩ trivial
noncomputable def G4 (a:Pos):(Int×Int):=(bif decide (bL a 0 6 ≥ 56) then (bif decide (bL a 1 6 ≥ 56) then ⟨(3),(6)⟩ else (bif decide (bL a 1 6 ≥ 56) then ⟨((du 1 6).fst),((du 1 6).snd)⟩ else (bif !decide (bL a 0 6 ≥ 56) then ⟨(0),(0)⟩ else (bif a.aa==0 then ⟨((du 0 6).fst),((du 0 6).snd)⟩ else (bif iC ((dY (nI a) (Int.ofNat (nI a).length) a (bL a 1 6) 0).getD default) then (bif decide (gl ((dY (nI a) (Int.ofNat (nI a).length) a (bL a 1 6) 0).getD default) ≥ 0) then ⟨(0),(0)⟩ else ⟨((du 0 6).fst),((du 0 6).snd)⟩) else ⟨((du 0 6).fst),((du 0 6).snd)⟩))))) else (bif decide (bL a 1 6 ≥ 56) then ⟨((du 1 6).fst),((du 1 6).snd)⟩ else (bif !decide (bL a 0 6 ≥ 56) then ⟨(0),(0)⟩ else (bif a.aa==0 then ⟨((du 0 6).fst),((du 0 6).snd)⟩ else (bif iC ((dY (nI a) (Int.ofNat (nI a).length) a (bL a 1 6) 0).getD default) then (bif decide (gl ((dY (nI a) (Int.ofNat (nI a).length) a (bL a 1 6) 0).getD default) ≥ 0) then ⟨(0),(0)⟩ else ⟨((du 0 6).fst),((du 0 6).snd)⟩) else ⟨((du 0 6).fst),((du 0 6).snd)⟩)))))
noncomputable def uW (a:Pos):Bool:=(gQ (a) (0) (6)&&(gQ (a) (1) (6)&&(bif decide (bL a 0 6 ≥ 56) then (bif decide (bL a 1 6 ≥ 56) then true else (bif decide (bL a 1 6 ≥ 56) then true else (bif !decide (bL a 0 6 ≥ 56) then true else (bif a.aa==0 then true else (gQ (a) (1) (6)&&(vr (a)&&((dY (nI a) (Int.ofNat (nI a).length) a (bL a 1 6) 0).isSome&&bif iC ((dY (nI a) (Int.ofNat (nI a).length) a (bL a 1 6) 0).getD default) then true else true))))))) else (bif decide (bL a 1 6 ≥ 56) then true else (bif !decide (bL a 0 6 ≥ 56) then true else (bif a.aa==0 then true else (gQ (a) (1) (6)&&(vr (a)&&((dY (nI a) (Int.ofNat (nI a).length) a (bL a 1 6) 0).isSome&&bif iC ((dY (nI a) (Int.ofNat (nI a).length) a (bL a 1 6) 0).getD default) then true else true)))))))))
theorem UU (a:Pos) (h:uW a=true):PS Pz 153 [Pos.av a] ((dR .u8 .u8).res (G4 a)):=aA (n:=14) Qk (by kernel_rfl) (by kernel_rfl) (by kernel_rfl) h
noncomputable def OQ:List AV→Tr AV:=g1 bH (fun a=>cE (uW a) ((dR .u8 .u8).res (G4 a)))
theorem Wk:Sound Pz 153 OQ:=aS fun a=>aJ (UU a)
noncomputable def K36:List (Nat×Nat×List (Nat×List Nat)):=[(36,25,[(0,[1,2,8,9,10]),(1,[1,2,11]),(2,[2]),(3,[1,2,3]),(4,[1,2,3,19]),(5,[2]),(6,[2])])]
noncomputable def B36:aC:=au Pz (fun f i=>bI f i K36) [(69,Zz),(148,Rl),(149,Of),(150,Ob),(151,Sf),(152,NV),(153,OQ)] [] []
theorem XH:bD B36:=ao al ⟨s69,XG,TV,TJ,VW,Wm,Wk,trivial⟩ trivial trivial
noncomputable def Fa (a:Pos):(Int×Int):=(bif decide (a.variant ≥ 9) then ⟨(0),(0)⟩ else (bif decide (a.aa > 1) then ⟨(0),(0)⟩ else (bif a.variant==Int.ofNat 0 then ⟨(0),(0)⟩ else (bif a.variant==Int.ofNat 1 then ⟨(0),(0)⟩ else (bif a.variant==Int.ofNat 2 then ⟨(0),(0)⟩ else (bif a.variant==Int.ofNat 3 then ⟨((G5 a).fst),((G5 a).snd)⟩ else (bif a.variant==Int.ofNat 4 then ⟨((FT a).fst),((FT a).snd)⟩ else (bif a.variant==Int.ofNat 5 then ⟨((Ht a).fst),((Ht a).snd)⟩ else (bif a.variant==Int.ofNat 6 then ⟨((FQ a).fst),((FQ a).snd)⟩ else (bif a.variant==Int.ofNat 7 then ⟨((GM a).fst),((GM a).snd)⟩ else ⟨((G4 a).fst),((G4 a).snd)⟩))))))))))
noncomputable def A6 (a:Pos):Bool:=(bif decide (a.variant ≥ 9) then true else (bif decide (a.aa > 1) then true else (decide (0≤a.variant)&&decide (a.variant < Int.ofNat 9)&&(bif a.variant==Int.ofNat 0 then true else (bif a.variant==Int.ofNat 1 then true else (bif a.variant==Int.ofNat 2 then true else (bif a.variant==Int.ofNat 3 then (yP (a)&&true) else (bif a.variant==Int.ofNat 4 then (wS (a)&&true) else (bif a.variant==Int.ofNat 5 then (vE (a)&&true) else (bif a.variant==Int.ofNat 6 then (uJ (a)&&true) else (bif a.variant==Int.ofNat 7 then (yE (a)&&true) else (a.variant==Int.ofNat 8&&(uW (a)&&true)))))))))))))
theorem P36 (a:Pos) (h:A6 a=true):PS Pz 36 [Pos.av a] ((dR .u8 .u8).res (Fa a)):=aA (n:=14) XH (by kernel_rfl) (by kernel_rfl) (by kernel_rfl) h
noncomputable def TY:List AV→Tr AV:=g1 bH (fun a=>cE (A6 a) ((dR .u8 .u8).res (Fa a)))
theorem Zo:Sound Pz 36 TY:=aS fun a=>aJ (P36 a)
noncomputable def K20:List (Nat×Nat×List (Nat×List Nat)):=[(20,9,[(0,[1]),(1,[1,6]),(2,[2]),(3,[2])])]
noncomputable def B20:aC:=au Pz (fun f i=>bI f i K20) [(36,TY),(37,SS)] [] []
theorem Wl:bD B20:=ao al ⟨Zo,TA,trivial⟩ trivial trivial
noncomputable def ae (a:Pos):List Mv:=(bif (Fa a).fst != 0 then ([]) else (nI a))
noncomputable def kI (a:Pos):Bool:=(A6 (a)&&(bif (Fa a).fst != 0 then true else (vr (a)&&true)))
theorem P20 (a:Pos) (h:kI a=true):PS Pz 20 [Pos.av a] ((dL .mv).res (ae a)):=aA (n:=14) Wl (by kernel_rfl) (by kernel_rfl) (by kernel_rfl) h
noncomputable def zT:List AV→Tr AV:=g1 bH (fun a=>cE (kI a) ((dL .mv).res (ae a)))
theorem AQ:Sound Pz 20 zT:=aS fun a=>aJ (P20 a)
end Kz
end
section
namespace Kz
open Go
set_option maxRecDepth 100000
theorem t71 (p:Pos) (b:Int):yn p b=true:=ar (t155 _ _ _) fun _=>rfl
section
variable {p:Pos} (hp:aR p)
include hp
theorem Da (m:Mv):0≤(iD p m).1.variant:=by
  obtain ⟨_,h1,h2⟩:=qn hp m
  by_cases hm:m ∈ dO p
  · rw [(h1 hm).2.2.1]; exact hp.v0
  · rw [h2 hm]; exact hp.v0
theorem t78 (m:Mv):vH p m=true:=by
  have hv:=Da hp m
  have t0:=hp.t0
  have b1:=ig (1 - p.aa)
  unfold vH
  refine ar (qn hp m).1 fun _ => ?_
  have k1:tf p.variant p.aa=true:=t70 hp.v0 t0
  have k2:ob (iD p m).1 p.aa=true:=t61 hv t0
  have k3:ob (iD p m).1 (wr .u8 (1 - p.aa))=true:=t61 hv b1
  repeat' (first | with_reducible rfl | with_reducible exact k1 | with_reducible exact k2 | with_reducible exact k3 | with_reducible exact t71 _ _ | refine ar ?_ (fun _ => ?_) | refine ay (fun _ => ?_) (fun _ => ?_))
theorem Ae {l:List Mv} (hl:l.length≤1000000):fK 77 p l=true:=by
  unfold fK
  rw [show (77:Nat).beq 77=true from rfl,cond_true]
  have h1:decide (l.length≤oQ)=true:=by unfold oQ; simp; omega
  rw [h1,Bool.true_and]
  exact sx.2 (t78 hp)
theorem Ab {l:List Mv} (hl:l.length≤1000000):fK 79 p l=true:=by
  unfold fK
  rw [show (79:Nat).beq 77=false from rfl,cond_false,show (79:Nat).beq 79=true from rfl,Bool.true_and]
  have h1:decide (l.length≤oQ)=true:=by unfold oQ; simp; omega
  rw [h1,Bool.true_and]
  exact rO.2 (t80 hp.v0)
omit hp in
theorem oO (l:List Mv):kept 77 p l=l.filter (wE p):=by
  unfold kept
  rw [show (77:Nat).beq 77=true from rfl,cond_true]
omit hp in
theorem GX (l:List Mv):kept 79 p l=l.filter (gX p):=by
  unfold kept
  rw [show (79:Nat).beq 77=false from rfl,cond_false]
theorem NK (l:List Mv) (hl:l.length≤1000000):∃ r,dE l (Int.ofNat l.length) p 0=some r ∧
    match r with
    | .inl i=>0≤i∧∃ m,m ∈ l∧gX p m=true
    | .inr _ => ∀ m,m ∈ l→gX p m=false:=by
  refine b7 (I:=fun x=>0≤x∧x≤(l.length:Int)∧∀ m,m ∈ l.take x.toNat→gX p m=false) (μ:=fun x=>((l.length:Int) - x).toNat) ?_ _ ⟨by simp,by simp,by simp⟩ (by simp; omega)
  rintro n ⟨h0,h1,h2⟩
  by_cases hc:n < l.length
  · have hlt:n.toNat < l.length:=by omega
    refine ⟨ay (fun _=>ar (by simp [h0]; exact hc) fun _=>ar (t80 hp.v0 _) fun _=>rfl) fun _=>rfl,az (fun _ => ?_) fun h=>absurd h (by simpa using hc)⟩
    refine az (fun h=>⟨h0,_,cF hlt,h⟩) fun h => ?_
    rw [cp (n:=n+1) (by omega) (by omega)]
    refine ⟨⟨by omega,by omega,?_⟩,by dsimp only; omega⟩
    rw [show (n+1).toNat=n.toNat+1 by omega,List.take_succ_eq_append_getElem hlt]
    rw [List.getD_eq_getElem?_getD,List.getElem?_eq_getElem hlt] at h
    intro m hm
    simp only [List.mem_append,List.mem_singleton] at hm
    rcases hm with hm | rfl
    · exact h2 m hm
    · exact h
  · refine ⟨ay (fun h=>absurd h (by simpa using hc)) fun _=>rfl,az (fun h=>absurd h (by simpa using hc)) fun _ => ?_⟩
    show ∀ m,m ∈ l→gX p m=false
    rw [List.take_of_length_le (by omega)] at h2
    exact h2
theorem EV (l:List Mv) (hl:l.length≤1000000) {α:Type} (x y:α) :
    (bif iC ((dE l (Int.ofNat l.length) p 0).getD default) then bif decide (gl ((dE l (Int.ofNat l.length) p 0).getD default) ≥ 0) then x else y else y)=bif l.any (gX p) then x else y:=by
  have h:=(bU (NK hp l hl)).2
  generalize (dE l (Int.ofNat l.length) p 0).getD default=r at h ⊢
  cases r with
  | inl i =>
    obtain ⟨h1,m,h2,h3⟩:=h
    have:l.any (gX p)=true:=List.any_eq_true.2 ⟨m,h2,h3⟩
    simp [iC,gl,h1,this]
  | inr z =>
    have:l.any (gX p)=false:=by
      rw [List.any_eq_false]
      intro m hm
      rw [h m hm]; simp
    simp [iC,this]
theorem py:((dO p).filter (wE p)).length≤20802:=Nat.le_trans (List.length_filter_le _ _) (uE hp)
theorem t37:vr p=true:=by
  have h1:=uE hp
  have h2:=py hp
  have k1:tf p.variant p.aa=true:=t70 hp.v0 hp.t0
  have k2:wm p=true:=t76 hp
  have k3:fK 77 p (dO p)=true:=Ae hp (by omega)
  have k4:fK 79 p (kept 77 p (dO p))=true:=Ab hp (by rw [oO]; omega)
  have k5:(dE (kept 77 p (dO p)) (Int.ofNat (kept 77 p (dO p)).length) p 0).isSome=true:=(bU (NK hp _ (by rw [oO]; omega))).1
  unfold vr
  repeat' (first | with_reducible rfl | with_reducible exact k1 | with_reducible exact k2 | with_reducible exact k3 | with_reducible exact k4 | with_reducible exact k5 | with_reducible exact t71 _ _ | refine ar ?_ (fun _ => ?_) | refine ay (fun _ => ?_) (fun _ => ?_))
noncomputable def iQ (p:Pos):List Mv:=bif p.variant==4 then bif ((dO p).filter (wE p)).any (gX p) then ((dO p).filter (wE p)).filter (gX p) else (dO p).filter (wE p) else (dO p).filter (wE p)
theorem xW:nI p=bif FL p.variant p.aa then bif !E9 p p.aa then [] else iQ p else iQ p:=by
  have h2:=py hp
  unfold nI
  have e:=fun (x y:List Mv)=>EV hp (kept 77 p (dO p)) (by rw [oO]; omega) x y
  rw [e]
  unfold iQ
  rw [GX,oO]
omit hp in
theorem pY {m:Mv} (h:m ∈ iQ p):m ∈ dO p∧wE p m=true:=by
  revert h
  unfold iQ
  have k:m ∈ (dO p).filter (wE p)→m ∈ dO p∧wE p m=true:=fun h=>by simpa using h
  refine az (P:=fun l:List Mv=>m ∈ l→_) (fun _=>az (P:=fun l:List Mv=>m ∈ l→_) (fun _ h=>k (List.mem_filter.1 h).1) fun _=>k) fun _=>k
theorem GA {m:Mv} (h:m ∈ nI p):m ∈ dO p∧wE p m=true:=by
  rw [xW hp] at h
  revert h
  exact az (P:=fun l:List Mv=>m ∈ l→_) (fun _=>az (P:=fun l:List Mv=>m ∈ l→_) (fun _ h=>by cases h) fun _=>pY) fun _=>pY
omit hp in
theorem uZ (hl:((dO p).filter (wE p)).length≤20802):(iQ p).length≤20802:=by
  unfold iQ
  refine az (P:=fun l:List Mv=>l.length≤20802) (fun _=>az (P:=fun l:List Mv=>l.length≤20802) (fun _=>Nat.le_trans (List.length_filter_le _ _) hl) fun _=>hl) fun _=>hl
theorem yZ:(nI p).length≤20802:=by
  have h:=uZ (py hp)
  rw [xW hp]
  exact az (P:=fun l:List Mv=>l.length≤20802) (fun _=>az (P:=fun l:List Mv=>l.length≤20802) (fun _=>by simp) fun _=>h) fun _=>h
omit hp in
theorem PA (l:List Mv) (hl:l.length≤1000000) (q:Pos) (k:Int):(dY l (Int.ofNat l.length) q k 0).isSome=true:=by
  refine (bU (Q:=fun _=>True) (b7 (I:=fun x=>0≤x∧x≤(l.length:Int)) (μ:=fun x=>((l.length:Int) - x).toNat) ?_ _ ⟨by simp,by simp⟩ (by simp; omega))).1
  rintro n ⟨h0,h1⟩
  by_cases hc:n < l.length
  · refine ⟨ay (fun _=>ar (by simp [h0]; exact hc) fun _=>rfl) fun _=>rfl,az (fun _ => ?_) fun h=>absurd h (by simpa using hc)⟩
    rw [cp (n:=n+1) (by omega) (by omega)]
    have go:vO (fun x:Int=>0≤x∧x≤(l.length:Int)) (fun _:Int ⊕ (Int×Bool)=>True) (fun x=>((l.length:Int) - x).toNat) ((l.length:Int) - n).toNat (.go (n+1)):=⟨⟨by omega,by omega⟩,by dsimp only; omega⟩
    exact az (fun _=>az (fun _=>trivial) fun _=>go) fun _=>go
  · exact ⟨ay (fun h=>absurd h (by simpa using hc)) fun _=>rfl,az (fun h=>absurd h (by simpa using hc)) fun _=>trivial⟩
theorem t153:uW p=true:=by
  have h:=yZ hp
  have k1:vr p=true:=t37 hp
  have k2:(dY (nI p) (Int.ofNat (nI p).length) p (bL p 1 6) 0).isSome=true:=PA _ (by omega) _ _
  unfold uW
  repeat' (first | with_reducible rfl | with_reducible exact k1 | with_reducible exact k2 | with_reducible exact t155 _ _ _ | refine ar ?_ (fun _ => ?_) | refine ay (fun _ => ?_) (fun _ => ?_))
omit hp in
theorem t148:yP p=true:=ar (t71 _ _) fun _=>rfl
theorem t149 (ht:p.aa≤1):vE p=true:=by
  have t0:=hp.t0
  unfold vE
  rw [MX (n:=1 - p.aa) (by omega) (by omega)]
  refine ar (by simp; omega) fun _=>ay (fun _=>rfl) fun _=>ar (by simp; omega) fun _=>rfl
omit hp in
theorem t150:uJ p=true:=by
  unfold uJ
  repeat' (first | with_reducible rfl | with_reducible exact t155 _ _ _ | refine ar ?_ (fun _ => ?_) | refine ay (fun _ => ?_) (fun _ => ?_))
omit hp in
theorem t151:yE p=true:=ar (t191 _ _ _) fun _=>rfl
omit hp in
theorem t152:wS p=true:=by
  unfold wS
  repeat' (first | with_reducible rfl | with_reducible exact t191 _ _ _ | refine ar ?_ (fun _ => ?_) | refine ay (fun _ => ?_) (fun _ => ?_))
theorem t36:A6 p=true:=by
  have v0:=hp.v0
  unfold A6
  refine ay (fun _=>rfl) fun h9=>ay (fun _=>rfl) fun ht => ?_
  have h9:p.variant < 9:=by simpa using h9
  have ht:p.aa≤1:=by simpa using ht
  refine ar (by simp; omega) fun _ => ?_
  have k3:=t148 (p:=p)
  have k4:=t152 (p:=p)
  have k5:=t149 hp ht
  have k6:=t150 (p:=p)
  have k7:=t151 (p:=p)
  have k8:=t153 hp
  refine ay (fun _=>rfl) fun n0=>ay (fun _=>rfl) fun n1=>ay (fun _=>rfl) fun n2=>ay (fun _=>ar k3 fun _=>rfl) fun n3=>ay (fun _=>ar k4 fun _=>rfl) fun n4=>ay (fun _=>ar k5 fun _=>rfl) fun n5=>ay (fun _=>ar k6 fun _=>rfl) fun n6=>ay (fun _=>ar k7 fun _=>rfl) fun n7=>ar ?_ fun _=>ar k8 fun _=>rfl
  simp only [beq_eq_false_iff_ne,ne_eq,beq_iff_eq,Int.ofNat_eq_natCast] at *
  omega
theorem t20:kI p=true:=ar (t36 hp) fun _=>ay (fun _=>rfl) fun _=>ar (t37 hp) fun _=>rfl
theorem EJ:ae p=bif (Fa p).1 != 0 then [] else nI p:=rfl
theorem dV:(ae p).length≤20802:=by
  unfold ae
  exact az (P:=fun l:List Mv=>l.length≤20802) (fun _=>by simp) fun _=>yZ hp
end
end Kz
end
section
namespace Kz
open Go Go.RowKit Go.Proofs
set_option maxRecDepth 100000
set_option maxHeartbeats 4000000
noncomputable def VE:List (Nat×Nat×List (Nat×List Nat)):=[]
noncomputable def Pd:aC:=au Pz (fun f i=>bI f i VE) [] [] []
theorem Oi:bD Pd:=ao al trivial trivial trivial
noncomputable def UC:AV:=AV.agg [AV.func 36 [] [],AV.func 193 [] [],AV.func 194 [] [],AV.func 195 [] []]
noncomputable def Qj:Bool:=true
theorem YP:cZ Pd 14 120 []=Tr.ret UC:=by kernel_rfl
theorem Yh (_:Qj=true):PS Pz 120 [] UC:=nA Oi (by rw [YP]; rfl)
noncomputable def RV:List AV→Tr AV:=g0 (.ret UC)
theorem WV:Sound Pz 120 RV:=la (cW (Yh rfl))
noncomputable def Vi:List (Nat×Nat×List (Nat×List Nat)):=[(250,5,[(0,[0,2]),(1,[2])])]
noncomputable def Ts:aC:=au Pz (fun f i=>bI f i Vi) [] [] []
theorem OX:bD Ts:=ao al trivial trivial trivial
noncomputable def u6 (a:Int):(Int×Int):=⟨(3),(a)⟩
noncomputable def OB (a:Int):Bool:=true
theorem V6 (a:Int) (h:OB a=true):PS Pz 250 [.int .u8 a] ((dR .u8 .u8).res (u6 a)):=aA (n:=14) OX (by kernel_rfl) (by kernel_rfl) (by kernel_rfl) h
noncomputable def Gs:List AV→Tr AV:=g1 (dI .u8) (fun a=>.ret ((dR .u8 .u8).res (u6 a)))
theorem Mx:Sound Pz 250 Gs:=aS fun a=>cW (V6 a rfl)
noncomputable def T1:List (Nat×Nat×List (Nat×List Nat)):=[(193,26,[(0,[1,2]),(1,[1,2,6]),(2,[2]),(3,[1,2,8]),(4,[2]),(5,[1,2,16]),(6,[2]),(7,[2])])]
noncomputable def TH:aC:=au Pz (fun f i=>bI f i T1) [(20,zT),(61,yr),(250,Gs)] [] []
theorem O5:bD TH:=ao al ⟨AQ,y3,Mx,trivial⟩ trivial trivial
noncomputable def AA (a:Pos):(Int×Int):=(bif decide (Int.ofNat (ae a).length > 0) then ⟨(0),(0)⟩ else (bif a.variant==4 then ⟨(wr .u8 (1+a.aa)),(8)⟩ else (bif Bb a a.aa then ⟨(wr .u8 (2 - a.aa)),(1)⟩ else ⟨((u6 2).fst),((u6 2).snd)⟩)))
noncomputable def yT (a:Pos):Bool:=(kI (a)&&(bif decide (Int.ofNat (ae a).length > 0) then true else (bif a.variant==4 then true else (ob (a) (a.aa)&&true))))
theorem Um (a:Pos) (h:yT a=true):PS Pz 193 [Pos.av a] ((dR .u8 .u8).res (AA a)):=aA (n:=14) O5 (by kernel_rfl) (by kernel_rfl) (by kernel_rfl) h
noncomputable def RP:List AV→Tr AV:=g1 bH (fun a=>cE (yT a) ((dR .u8 .u8).res (AA a)))
theorem Vx:Sound Pz 193 RP:=aS fun a=>aJ (Um a)
noncomputable def Yw:List (Nat×Nat×List (Nat×List Nat)):=[(288,12,[(0,[1,2]),(1,[4])])]
noncomputable def UX:aC:=au Pz (fun f i=>bI f i Yw) [(191,fJ)] [] []
theorem Q4:bD UX:=ao al ⟨fM,trivial⟩ trivial trivial
noncomputable def jk (a:Pos) (b:Int):BitVec 64:=(b8 (Pos.mk a.variant a.ag a.ab a.af a.aa a.ak a.ah a.ai a.half a.full) 0 b|||b8 (Pos.mk a.variant a.ag a.ab a.af a.aa a.ak a.ah a.ai a.half a.full) 1 b)
noncomputable def mQ (a:Pos) (b:Int):Bool:=(cn (Pos.mk a.variant a.ag a.ab a.af a.aa a.ak a.ah a.ai a.half a.full) (0) (b)&&(cn (Pos.mk a.variant a.ag a.ab a.af a.aa a.ak a.ah a.ai a.half a.full) (1) (b)&&true))
theorem VY (a:Pos) (b:Int) (h:mQ a b=true):PS Pz 288 [Pos.av a,.int .u8 b] (dU.res (jk a b)):=aA (n:=14) Q4 (by kernel_rfl) (by kernel_rfl) (by kernel_rfl) h
noncomputable def Px:List AV→Tr AV:=g2 bH (dI .u8) (fun a b=>cE (mQ a b) (dU.res (jk a b)))
theorem Ty:Sound Pz 288 Px:=bB fun a b=>aJ (VY a b)
noncomputable def V7:List (Nat×Nat×List (Nat×List Nat)):=[(289,35,[(0,[0]),(1,[0]),(2,[0]),(3,[0]),(4,[0]),(5,[0]),(6,[0]),(7,[2])])]
noncomputable def Yr:aC:=au Pz (fun f i=>bI f i V7) [] [] []
theorem Nz:bD Yr:=ao al trivial trivial trivial
noncomputable def om (a:BitVec 64):Int:=(nX BinOp.and .i64 (wr .i64 ↑((((((a >>> 1&&&6148914691236517205#64)+(a&&&6148914691236517205#64)) >>> 2&&&3689348814741910323#64)+((a >>> 1&&&6148914691236517205#64)+(a&&&6148914691236517205#64)&&&3689348814741910323#64)) >>> 4+((((a >>> 1&&&6148914691236517205#64)+(a&&&6148914691236517205#64)) >>> 2&&&3689348814741910323#64)+((a >>> 1&&&6148914691236517205#64)+(a&&&6148914691236517205#64)&&&3689348814741910323#64))&&&1085102592571150095#64)+(((((a >>> 1&&&6148914691236517205#64)+(a&&&6148914691236517205#64)) >>> 2&&&3689348814741910323#64)+((a >>> 1&&&6148914691236517205#64)+(a&&&6148914691236517205#64)&&&3689348814741910323#64)) >>> 4+((((a >>> 1&&&6148914691236517205#64)+(a&&&6148914691236517205#64)) >>> 2&&&3689348814741910323#64)+((a >>> 1&&&6148914691236517205#64)+(a&&&6148914691236517205#64)&&&3689348814741910323#64))&&&1085102592571150095#64) >>> 8+((((((a >>> 1&&&6148914691236517205#64)+(a&&&6148914691236517205#64)) >>> 2&&&3689348814741910323#64)+((a >>> 1&&&6148914691236517205#64)+(a&&&6148914691236517205#64)&&&3689348814741910323#64)) >>> 4+((((a >>> 1&&&6148914691236517205#64)+(a&&&6148914691236517205#64)) >>> 2&&&3689348814741910323#64)+((a >>> 1&&&6148914691236517205#64)+(a&&&6148914691236517205#64)&&&3689348814741910323#64))&&&1085102592571150095#64)+(((((a >>> 1&&&6148914691236517205#64)+(a&&&6148914691236517205#64)) >>> 2&&&3689348814741910323#64)+((a >>> 1&&&6148914691236517205#64)+(a&&&6148914691236517205#64)&&&3689348814741910323#64)) >>> 4+((((a >>> 1&&&6148914691236517205#64)+(a&&&6148914691236517205#64)) >>> 2&&&3689348814741910323#64)+((a >>> 1&&&6148914691236517205#64)+(a&&&6148914691236517205#64)&&&3689348814741910323#64))&&&1085102592571150095#64) >>> 8) >>> 16+((((((a >>> 1&&&6148914691236517205#64)+(a&&&6148914691236517205#64)) >>> 2&&&3689348814741910323#64)+((a >>> 1&&&6148914691236517205#64)+(a&&&6148914691236517205#64)&&&3689348814741910323#64)) >>> 4+((((a >>> 1&&&6148914691236517205#64)+(a&&&6148914691236517205#64)) >>> 2&&&3689348814741910323#64)+((a >>> 1&&&6148914691236517205#64)+(a&&&6148914691236517205#64)&&&3689348814741910323#64))&&&1085102592571150095#64)+(((((a >>> 1&&&6148914691236517205#64)+(a&&&6148914691236517205#64)) >>> 2&&&3689348814741910323#64)+((a >>> 1&&&6148914691236517205#64)+(a&&&6148914691236517205#64)&&&3689348814741910323#64)) >>> 4+((((a >>> 1&&&6148914691236517205#64)+(a&&&6148914691236517205#64)) >>> 2&&&3689348814741910323#64)+((a >>> 1&&&6148914691236517205#64)+(a&&&6148914691236517205#64)&&&3689348814741910323#64))&&&1085102592571150095#64) >>> 8+((((((a >>> 1&&&6148914691236517205#64)+(a&&&6148914691236517205#64)) >>> 2&&&3689348814741910323#64)+((a >>> 1&&&6148914691236517205#64)+(a&&&6148914691236517205#64)&&&3689348814741910323#64)) >>> 4+((((a >>> 1&&&6148914691236517205#64)+(a&&&6148914691236517205#64)) >>> 2&&&3689348814741910323#64)+((a >>> 1&&&6148914691236517205#64)+(a&&&6148914691236517205#64)&&&3689348814741910323#64))&&&1085102592571150095#64)+(((((a >>> 1&&&6148914691236517205#64)+(a&&&6148914691236517205#64)) >>> 2&&&3689348814741910323#64)+((a >>> 1&&&6148914691236517205#64)+(a&&&6148914691236517205#64)&&&3689348814741910323#64)) >>> 4+((((a >>> 1&&&6148914691236517205#64)+(a&&&6148914691236517205#64)) >>> 2&&&3689348814741910323#64)+((a >>> 1&&&6148914691236517205#64)+(a&&&6148914691236517205#64)&&&3689348814741910323#64))&&&1085102592571150095#64) >>> 8) >>> 16) >>> 32).toNat) 127)
noncomputable def NQ (a:BitVec 64):Bool:=true
theorem Tv (a:BitVec 64) (h:NQ a=true):PS Pz 289 [.u64 a] ((dI .i64).res (om a)):=aA (n:=14) Nz (by kernel_rfl) (by kernel_rfl) (by kernel_rfl) h
noncomputable def OF:List AV→Tr AV:=g1 dU (fun a=>.ret ((dI .i64).res (om a)))
theorem Zh:Sound Pz 289 OF:=aS fun a=>cW (Tv a rfl)
noncomputable def W6:List (Nat×Nat×List (Nat×List Nat)):=[(251,68,[(0,(1::(rn 32 13 [59,60,61,64,65,66]))),(1,(1::3::(rn 32 13 [59,60,61,64,65,66]))),(2,(1::3::11::(rn 32 13 [59,60,61,64,65,66]))),(3,(1::3::11::12::(rn 32 13 [59,60,61,64,65,66]))),(4,(1::3::11::12::(rn 32 13 [59,60,61,64,65,66]))),(5,(1::4::(rn 32 13 []))),(6,(1::4::5::(rn 32 13 []))),(7,(4::5::27::(rn 32 13 []))),(8,[2]),(9,[2]),(10,[1,3,11,46,59,60,61,64,65,66]),(11,[1,3,46,59,60,61,64,65,66]),(12,[3,6,7,59,60,61,64,65,66]),(13,[2]),(14,[2])])]
noncomputable def Yy:aC:=au Pz (fun f i=>bI f i W6) [(234,pG),(288,Px),(289,OF),(191,fJ)] [] []
theorem PK:bD Yy:=ao al ⟨qQ,Ty,Zh,fM,trivial⟩ trivial trivial
noncomputable def M3 (a:Pos):Bool:=(bif a.variant==0 then (bif a.variant==0 then (bif cg (Pos.mk a.variant a.ag a.ab a.af a.aa a.ak a.ah a.ai a.half a.full) &&& ~~~jk (Pos.mk a.variant a.ag a.ab a.af a.aa a.ak a.ah a.ai a.half a.full) 6 &&& ~~~jk (Pos.mk a.variant a.ag a.ab a.af a.aa a.ak a.ah a.ai a.half a.full) 3 &&& ~~~jk (Pos.mk a.variant a.ag a.ab a.af a.aa a.ak a.ah a.ai a.half a.full) 2 != 0#64 then (false) else (bif decide (om (cg (Pos.mk a.variant a.ag a.ab a.af a.aa a.ak a.ah a.ai a.half a.full) &&& ~~~jk (Pos.mk a.variant a.ag a.ab a.af a.aa a.ak a.ah a.ai a.half a.full) 6)≤1) then (true) else (bif cg (Pos.mk a.variant a.ag a.ab a.af a.aa a.ak a.ah a.ai a.half a.full) &&& ~~~jk (Pos.mk a.variant a.ag a.ab a.af a.aa a.ak a.ah a.ai a.half a.full) 6==jk (Pos.mk a.variant a.ag a.ab a.af a.aa a.ak a.ah a.ai a.half a.full) 3 then (bif cg (Pos.mk a.variant a.ag a.ab a.af a.aa a.ak a.ah a.ai a.half a.full) &&& ~~~jk (Pos.mk a.variant a.ag a.ab a.af a.aa a.ak a.ah a.ai a.half a.full) 6&&&6172840429334713770#64==0#64 then (true) else (cg (Pos.mk a.variant a.ag a.ab a.af a.aa a.ak a.ah a.ai a.half a.full) &&& ~~~jk (Pos.mk a.variant a.ag a.ab a.af a.aa a.ak a.ah a.ai a.half a.full) 6 &&& ~~~6172840429334713770#64==0#64)) else (false)))) else (bif a.variant==3 then (bif a.variant==3 then (bif cg (Pos.mk a.variant a.ag a.ab a.af a.aa a.ak a.ah a.ai a.half a.full)==b8 (Pos.mk a.variant a.ag a.ab a.af a.aa a.ak a.ah a.ai a.half a.full) 0 6|||b8 (Pos.mk a.variant a.ag a.ab a.af a.aa a.ak a.ah a.ai a.half a.full) 1 6 then (bif om (b8 (Pos.mk a.variant a.ag a.ab a.af a.aa a.ak a.ah a.ai a.half a.full) 0 6)==1 then (om (b8 (Pos.mk a.variant a.ag a.ab a.af a.aa a.ak a.ah a.ai a.half a.full) 1 6)==1) else (false)) else (false)) else (false)) else (bif a.variant==5 then (bif cg (Pos.mk a.variant a.ag a.ab a.af a.aa a.ak a.ah a.ai a.half a.full)==b8 (Pos.mk a.variant a.ag a.ab a.af a.aa a.ak a.ah a.ai a.half a.full) 0 6|||b8 (Pos.mk a.variant a.ag a.ab a.af a.aa a.ak a.ah a.ai a.half a.full) 1 6 then (bif om (b8 (Pos.mk a.variant a.ag a.ab a.af a.aa a.ak a.ah a.ai a.half a.full) 0 6)==1 then (om (b8 (Pos.mk a.variant a.ag a.ab a.af a.aa a.ak a.ah a.ai a.half a.full) 1 6)==1) else (false)) else (false)) else (false)))) else (bif a.variant==1 then (bif cg (Pos.mk a.variant a.ag a.ab a.af a.aa a.ak a.ah a.ai a.half a.full) &&& ~~~jk (Pos.mk a.variant a.ag a.ab a.af a.aa a.ak a.ah a.ai a.half a.full) 6 &&& ~~~jk (Pos.mk a.variant a.ag a.ab a.af a.aa a.ak a.ah a.ai a.half a.full) 3 &&& ~~~jk (Pos.mk a.variant a.ag a.ab a.af a.aa a.ak a.ah a.ai a.half a.full) 2 != 0#64 then (false) else (bif decide (om (cg (Pos.mk a.variant a.ag a.ab a.af a.aa a.ak a.ah a.ai a.half a.full) &&& ~~~jk (Pos.mk a.variant a.ag a.ab a.af a.aa a.ak a.ah a.ai a.half a.full) 6)≤1) then (true) else (bif cg (Pos.mk a.variant a.ag a.ab a.af a.aa a.ak a.ah a.ai a.half a.full) &&& ~~~jk (Pos.mk a.variant a.ag a.ab a.af a.aa a.ak a.ah a.ai a.half a.full) 6==jk (Pos.mk a.variant a.ag a.ab a.af a.aa a.ak a.ah a.ai a.half a.full) 3 then (bif cg (Pos.mk a.variant a.ag a.ab a.af a.aa a.ak a.ah a.ai a.half a.full) &&& ~~~jk (Pos.mk a.variant a.ag a.ab a.af a.aa a.ak a.ah a.ai a.half a.full) 6&&&6172840429334713770#64==0#64 then (true) else (cg (Pos.mk a.variant a.ag a.ab a.af a.aa a.ak a.ah a.ai a.half a.full) &&& ~~~jk (Pos.mk a.variant a.ag a.ab a.af a.aa a.ak a.ah a.ai a.half a.full) 6 &&& ~~~6172840429334713770#64==0#64)) else (false)))) else (bif a.variant==3 then (bif a.variant==3 then (bif cg (Pos.mk a.variant a.ag a.ab a.af a.aa a.ak a.ah a.ai a.half a.full)==b8 (Pos.mk a.variant a.ag a.ab a.af a.aa a.ak a.ah a.ai a.half a.full) 0 6|||b8 (Pos.mk a.variant a.ag a.ab a.af a.aa a.ak a.ah a.ai a.half a.full) 1 6 then (bif om (b8 (Pos.mk a.variant a.ag a.ab a.af a.aa a.ak a.ah a.ai a.half a.full) 0 6)==1 then (om (b8 (Pos.mk a.variant a.ag a.ab a.af a.aa a.ak a.ah a.ai a.half a.full) 1 6)==1) else (false)) else (false)) else (false)) else (bif a.variant==5 then (bif cg (Pos.mk a.variant a.ag a.ab a.af a.aa a.ak a.ah a.ai a.half a.full)==b8 (Pos.mk a.variant a.ag a.ab a.af a.aa a.ak a.ah a.ai a.half a.full) 0 6|||b8 (Pos.mk a.variant a.ag a.ab a.af a.aa a.ak a.ah a.ai a.half a.full) 1 6 then (bif om (b8 (Pos.mk a.variant a.ag a.ab a.af a.aa a.ak a.ah a.ai a.half a.full) 0 6)==1 then (om (b8 (Pos.mk a.variant a.ag a.ab a.af a.aa a.ak a.ah a.ai a.half a.full) 1 6)==1) else (false)) else (false)) else (false)))))
noncomputable def wJ (a:Pos):Bool:=(nY (Pos.mk a.variant a.ag a.ab a.af a.aa a.ak a.ah a.ai a.half a.full)&&(bif a.variant==0 then (bif a.variant==0 then (mQ (Pos.mk a.variant a.ag a.ab a.af a.aa a.ak a.ah a.ai a.half a.full) (6)&&(mQ (Pos.mk a.variant a.ag a.ab a.af a.aa a.ak a.ah a.ai a.half a.full) (3)&&(mQ (Pos.mk a.variant a.ag a.ab a.af a.aa a.ak a.ah a.ai a.half a.full) (2)&&true))) else (bif a.variant==3 then (bif a.variant==3 then (cn (Pos.mk a.variant a.ag a.ab a.af a.aa a.ak a.ah a.ai a.half a.full) (0) (6)&&(cn (Pos.mk a.variant a.ag a.ab a.af a.aa a.ak a.ah a.ai a.half a.full) (1) (6)&&true)) else true) else (bif a.variant==5 then (cn (Pos.mk a.variant a.ag a.ab a.af a.aa a.ak a.ah a.ai a.half a.full) (0) (6)&&(cn (Pos.mk a.variant a.ag a.ab a.af a.aa a.ak a.ah a.ai a.half a.full) (1) (6)&&true)) else true))) else (bif a.variant==1 then (mQ (Pos.mk a.variant a.ag a.ab a.af a.aa a.ak a.ah a.ai a.half a.full) (6)&&(mQ (Pos.mk a.variant a.ag a.ab a.af a.aa a.ak a.ah a.ai a.half a.full) (3)&&(mQ (Pos.mk a.variant a.ag a.ab a.af a.aa a.ak a.ah a.ai a.half a.full) (2)&&true))) else (bif a.variant==3 then (bif a.variant==3 then (cn (Pos.mk a.variant a.ag a.ab a.af a.aa a.ak a.ah a.ai a.half a.full) (0) (6)&&(cn (Pos.mk a.variant a.ag a.ab a.af a.aa a.ak a.ah a.ai a.half a.full) (1) (6)&&true)) else true) else (bif a.variant==5 then (cn (Pos.mk a.variant a.ag a.ab a.af a.aa a.ak a.ah a.ai a.half a.full) (0) (6)&&(cn (Pos.mk a.variant a.ag a.ab a.af a.aa a.ak a.ah a.ai a.half a.full) (1) (6)&&true)) else true)))))
theorem Yz (a:Pos) (h:wJ a=true):PS Pz 251 [Pos.av a] (dB.res (M3 a)):=aA (n:=14) PK (by kernel_rfl) (by kernel_rfl) (by kernel_rfl) h
noncomputable def Sr:List AV→Tr AV:=g1 bH (fun a=>cE (wJ a) (dB.res (M3 a)))
theorem Xu:Sound Pz 251 Sr:=aS fun a=>aJ (Yz a)
noncomputable def YT:List (Nat×Nat×List (Nat×List Nat)):=[(194,7,[(0,[1,2]),(1,[2,4]),(2,[2]),(3,[2])])]
noncomputable def WH:aC:=au Pz (fun f i=>bI f i YT) [(251,Sr),(250,Gs)] [] []
theorem Q9:bD WH:=ao al ⟨Xu,Mx,trivial⟩ trivial trivial
noncomputable def CP (a:Pos):(Int×Int):=(bif M3 (Pos.mk a.variant a.ag a.ab a.af a.aa a.ak a.ah a.ai a.half a.full) then ⟨((u6 3).fst),((u6 3).snd)⟩ else ⟨(0),(0)⟩)
noncomputable def yD (a:Pos):Bool:=(wJ (Pos.mk a.variant a.ag a.ab a.af a.aa a.ak a.ah a.ai a.half a.full)&&true)
theorem Xj (a:Pos) (h:yD a=true):PS Pz 194 [Pos.av a] ((dR .u8 .u8).res (CP a)):=aA (n:=14) Q9 (by kernel_rfl) (by kernel_rfl) (by kernel_rfl) h
noncomputable def NA:List AV→Tr AV:=g1 bH (fun a=>cE (yD a) ((dR .u8 .u8).res (CP a)))
theorem TM:Sound Pz 194 NA:=aS fun a=>aJ (Xj a)
noncomputable def WC:List (Nat×Nat×List (Nat×List Nat)):=[(195,8,[(0,[1,2]),(1,[2,5]),(2,[2]),(3,[2])])]
noncomputable def XI:aC:=au Pz (fun f i=>bI f i WC) [(250,Gs)] [] []
theorem PU:bD XI:=ao al ⟨Mx,trivial⟩ trivial trivial
noncomputable def EL (a:Pos):(Int×Int):=(bif decide (a.half ≥ 150) then ⟨((u6 4).fst),((u6 4).snd)⟩ else ⟨(0),(0)⟩)
noncomputable def Ow (a:Pos):Bool:=true
theorem VB (a:Pos) (h:Ow a=true):PS Pz 195 [Pos.av a] ((dR .u8 .u8).res (EL a)):=aA (n:=14) PU (by kernel_rfl) (by kernel_rfl) (by kernel_rfl) h
noncomputable def QX:List AV→Tr AV:=g1 bH (fun a=>.ret ((dR .u8 .u8).res (EL a)))
theorem XS:Sound Pz 195 QX:=aS fun a=>cW (VB a rfl)
noncomputable def K60:List (Nat×Nat×List (Nat×List Nat)):=[(60,29,[(0,[1,2,10,11,12]),(1,[1,2,13]),(2,[2]),(3,[1,2,15,16]),(4,[1,2,15,16,17]),(5,[1,2,4,15,16]),(6,[1,2,5,15,16]),(7,[1,2,5,15,16,25]),(8,[2]),(9,[1,2,15,16]),(10,[2])])]
noncomputable def B60:aC:=au Pz (fun f i=>bI f i K60) [(36,TY),(120,RV),(193,RP),(194,NA),(195,QX)] [] []
theorem Ul:bD B60:=ao al ⟨Zo,WV,Vx,TM,XS,trivial⟩ trivial trivial
noncomputable def Ns (a:Pos):(Int×Int):=(bif decide (a.variant ≥ 9) then ⟨(0),(0)⟩ else (bif decide (a.aa > 1) then ⟨(0),(0)⟩ else (bif (Fa a).fst != 0 then ⟨((Fa a).fst),((Fa a).snd)⟩ else (bif (AA a).fst != 0 then ⟨((AA a).fst),((AA a).snd)⟩ else (bif (CP a).fst != 0 then ⟨((CP a).fst),((CP a).snd)⟩ else (bif (EL a).fst != 0 then ⟨((EL a).fst),((EL a).snd)⟩ else ⟨(0),(0)⟩))))))
noncomputable def GU (a:Pos):Bool:=(bif decide (a.variant ≥ 9) then true else (bif decide (a.aa > 1) then true else (A6 (a)&&(bif (Fa a).fst != 0 then true else (yT (a)&&(bif (AA a).fst != 0 then true else (yD (a)&&true)))))))
theorem P60 (a:Pos) (h:GU a=true):PS Pz 60 [Pos.av a] ((dR .u8 .u8).res (Ns a)):=aA (n:=14) Ul (by kernel_rfl) (by kernel_rfl) (by kernel_rfl) h
noncomputable def ZG:List AV→Tr AV:=g1 bH (fun a=>cE (GU a) ((dR .u8 .u8).res (Ns a)))
theorem s60:Sound Pz 60 ZG:=aS fun a=>aJ (P60 a)
noncomputable def K32:List (Nat×Nat×List (Nat×List Nat)):=[(32,23,[(0,[2,3]),(1,[5]),(2,[5,13]),(3,[4]),(4,[18]),(5,[4]),(6,[4])])]
noncomputable def B32:aC:=au Pz (fun f i=>bI f i K32) [(59,Ws),(60,ZG),(61,yr)] [] []
theorem Uv:bD B32:=ao al ⟨ZA,s60,y3,trivial⟩ trivial trivial
noncomputable def nK (a:Pos) (b:Mv):List UInt8:=(bif (Ns (iD a b).fst).snd==1 then ((ByteArray.mk #[35]).data.toList) else (bif Bb (iD a b).fst (iD a b).fst.aa then ((ByteArray.mk #[43]).data.toList) else ((ByteArray.mk #[]).data.toList)))
noncomputable def xc (a:Pos) (b:Mv):Bool:=(xI a b&&(GU (iD a b).fst&&(bif (Ns (iD a b).fst).snd==1 then true else (ob (iD a b).fst (iD a b).fst.aa&&true))))
theorem P32 (a:Pos) (b:Mv) (h:xc a b=true):PS Pz 32 [Pos.av a,Mv.av b] (dS.res (nK a b)):=aA (n:=14) Uv (by kernel_rfl) (by kernel_rfl) (by kernel_rfl) h
noncomputable def R6:List AV→Tr AV:=g2 bH iE (fun a b=>cE (xc a b) (dS.res (nK a b)))
theorem S1:Sound Pz 32 R6:=bB fun a b=>aJ (P32 a b)
noncomputable def Sp:List (Nat×Nat×List (Nat×List Nat)):=[(172,18,[(0,[0]),(1,[5,6,7]),(2,[5,6,7,8]),(3,[4,5,6,7]),(4,[5,6,7,16]),(5,[2]),(6,[5,6,7]),(7,[2])])]
noncomputable def Ku:aC:=au Pz (fun f i=>bI f i Sp) [] [] []
theorem Fk:bD Ku:=ao al trivial trivial trivial
noncomputable def DO (p1:(List Int)) (p2:Int) (x:(Int)):St:=St.mk (an 5 (AV.list (ET.i .i64) p1 Tk.arg::AV.int .i64 p2::AV.int .i64 x::(an 10 []))) (Hp.mk [] [] [] 0 0 0)
noncomputable def Ck (p1:(List Int)) (p2:Int):Unit ⊕ (Int×Bool)→Out
  | (.inl (y))=>.ret (St.mk (AV.any::AV.any::AV.aO false::(an 15 [])) (Hp.mk [] [] [] 0 0 0))
  | (.inr (y))=>.exit 0 (St.mk (an 5 (AV.list (ET.i .i64) p1 Tk.arg::AV.int .i64 p2::AV.int .i64 y.fst::AV.bool y.snd::(an 9 []))) (Hp.mk [] [] [] 0 0 0))
noncomputable def Gu (p1:(List Int)) (p2:Int) (x:(Int)):bA (Int) (Unit ⊕ (Int×Bool)):=(bif decide (x < p2) then (bif decide (p1.getD x.toNat default < 0) then (bA.out (.inl (()))) else (bif decide (p1.getD x.toNat default ≥ 64) then (bA.out (.inl (()))) else (bA.go (wr .i64 (x+1))))) else (bA.out (.inr ((x,decide (x < p2))))))
noncomputable def Ex (p1:(List Int)) (p2:Int) (x:(Int)):Bool:=(bif decide (x < p2) then (decide (0≤x)&&decide (x < Int.ofNat p1.length)&&true) else true)
noncomputable def mJ (p1:(List Int)) (p2:Int) (x:(Int)):Option (Unit ⊕ (Int×Bool)):=fY (fun x=>bif Ex p1 p2 x then Gu p1 p2 x else .bad) many x
abbrev Ee {α:Type} (k:(List Int)→Int→(Int)→α) (s:St):α:=k (tL (ET.i .i64) (tT s 5)) (tI (tT s 6)) ((tI (tT s 7)))
theorem JY (p1:(List Int)) (p2:Int) (x:(Int)) (r:Unit ⊕ (Int×Bool)) (h:mJ p1 p2 x=some r):aF Pz (bW Pz 172 2) (DO p1 p2 x) (Ck p1 p2 r):=aF.kR (m:=12) (fn:=172) Fk (Ee fun _ _ x=>some x) (fun o=>match o with | .ret s=>some (.inl ()) | .exit 0 s=>some (.inr ((tI (tT s 7)),(tB (tT s 8)))) | _=>none) (fun r=>by cases r <;> rfl) (fun _=>by kernel_rfl) (fun _=>by kernel_rfl) (fun _=>by kernel_rfl) (fun _=>by kernel_rfl) many x r h
noncomputable def BX (b:Code) (s:St):Tr Out:=Ee (fun p1 p2 x=>Be b (bW Pz 172 2) s (DO p1 p2 x) (mJ p1 p2 x) (Ck p1 p2)) s
theorem GI:∀ b,bJ Pz b (BX b):=fun _ _ _ h=>fX (JY _ _ _) h
noncomputable def TI:aC:=au Pz (fun f i=>bI f i Sp) [] [(172,2,BX)] []
theorem RE:bD TI:=ao al trivial ⟨GI,trivial⟩ trivial
noncomputable def Aw (a:List Int):Bool:=(bif iC ((mJ a (Int.ofNat a.length) 0).getD default) then (false) else (true))
noncomputable def vK (a:List Int):Bool:=((mJ a (Int.ofNat a.length) 0).isSome&&bif iC ((mJ a (Int.ofNat a.length) 0).getD default) then true else true)
theorem TE (a:List Int) (h:vK a=true):PS Pz 172 [.list (.i .i64) a .arg] (dB.res (Aw a)):=aA (n:=14) RE (by kernel_rfl) (by kernel_rfl) (by kernel_rfl) h
noncomputable def Ic:List AV→Tr AV:=g1 (dL (.i .i64)) (fun a=>cE (vK a) (dB.res (Aw a)))
theorem LA:Sound Pz 172 Ic:=aS fun a=>aJ (TE a)
noncomputable def Yb:List (Nat×Nat×List (Nat×List Nat)):=[(173,9,[(0,[0]),(1,[0,6]),(2,[2]),(3,[2])])]
noncomputable def TC:aC:=au Pz (fun f i=>bI f i Yb) [(172,Ic)] [] []
theorem QV:bD TC:=ao al ⟨LA,trivial⟩ trivial trivial
noncomputable def JV (a:Int):Int:=(bif !Aw [a] then (-1) else (a.tmod 8))
noncomputable def Ek (a:Int):Bool:=(vK [a]&&true)
theorem Vj (a:Int) (h:Ek a=true):PS Pz 173 [.int .i64 a] ((dI .i64).res (JV a)):=aA (n:=14) QV (by kernel_rfl) (by kernel_rfl) (by kernel_rfl) h
noncomputable def QW:List AV→Tr AV:=g1 (dI .i64) (fun a=>cE (Ek a) ((dI .i64).res (JV a)))
theorem Vc:Sound Pz 173 QW:=aS fun a=>aJ (Vj a)
noncomputable def V3:List (Nat×Nat×List (Nat×List Nat)):=[(174,9,[(0,[0]),(1,[0,6]),(2,[2]),(3,[2])])]
noncomputable def Xb:aC:=au Pz (fun f i=>bI f i V3) [(172,Ic)] [] []
theorem ON:bD Xb:=ao al ⟨LA,trivial⟩ trivial trivial
noncomputable def MK (a:Int):Int:=(bif !Aw [a] then (-1) else (wr .i64 (a.tdiv 8)))
noncomputable def Bp (a:Int):Bool:=(vK [a]&&true)
theorem VI (a:Int) (h:Bp a=true):PS Pz 174 [.int .i64 a] ((dI .i64).res (MK a)):=aA (n:=14) ON (by kernel_rfl) (by kernel_rfl) (by kernel_rfl) h
noncomputable def Sg:List AV→Tr AV:=g1 (dI .i64) (fun a=>cE (Bp a) ((dI .i64).res (MK a)))
theorem XZ:Sound Pz 174 Sg:=aS fun a=>aJ (VI a)
noncomputable def K98:List (Nat×Nat×List (Nat×List Nat)):=[(98,17,[(0,[0]),(1,[0,6]),(2,[2]),(3,[2])])]
noncomputable def B98:aC:=au Pz (fun f i=>bI f i K98) [(172,Ic),(173,QW),(174,Sg)] [] []
theorem TN:bD B98:=ao al ⟨LA,Vc,XZ,trivial⟩ trivial trivial
noncomputable def bF (a:Int):List UInt8:=(bif !Aw [a] then ((ByteArray.mk #[]).data.toList) else (List.map ub [wr .u8 (wr .i64 (97+JV a)),wr .u8 (wr .i64 (49+MK a))]))
noncomputable def kK (a:Int):Bool:=(vK [a]&&(bif !Aw [a] then true else (Ek a&&(Bp a&&true))))
theorem P98 (a:Int) (h:kK a=true):PS Pz 98 [.int .i64 a] (dS.res (bF a)):=aA (n:=14) TN (by kernel_rfl) (by kernel_rfl) (by kernel_rfl) h
noncomputable def Nk:List AV→Tr AV:=g1 (dI .i64) (fun a=>cE (kK a) (dS.res (bF a)))
theorem Qo:Sound Pz 98 Nk:=aS fun a=>aJ (P98 a)
noncomputable def K99:List (Nat×Nat×List (Nat×List Nat)):=[(99,11,[(0,[1]),(1,[2])])]
noncomputable def B99:aC:=au Pz (fun f i=>bI f i K99) [] [] []
theorem XY:bD B99:=ao al trivial trivial trivial
noncomputable def Gg (a:Mv):Bool:=(bif a.aM==0 then (!a.bh) else (false))
noncomputable def X0 (a:Mv):Bool:=true
theorem P99 (a:Mv) (h:X0 a=true):PS Pz 99 [Mv.av a] (dB.res (Gg a)):=aA (n:=14) XY (by kernel_rfl) (by kernel_rfl) (by kernel_rfl) h
noncomputable def SP:List AV→Tr AV:=g1 iE (fun a=>.ret (dB.res (Gg a)))
theorem Vw:Sound Pz 99 SP:=aS fun a=>cW (P99 a rfl)
noncomputable def Vh:List (Nat×Nat×List (Nat×List Nat)):=[(241,9,[(0,[0]),(1,[2])])]
noncomputable def UY:aC:=au Pz (fun f i=>bI f i Vh) [] [] []
theorem NC:bD UY:=ao al trivial trivial trivial
noncomputable def xu (a:Int):Bool:=(bif decide (a ≥ 0) then (decide (a < 64)) else (false))
noncomputable def Q8 (a:Int):Bool:=true
theorem Xn (a:Int) (h:Q8 a=true):PS Pz 241 [.int .i64 a] (dB.res (xu a)):=aA (n:=14) NC (by kernel_rfl) (by kernel_rfl) (by kernel_rfl) h
noncomputable def Pf:List AV→Tr AV:=g1 (dI .i64) (fun a=>.ret (dB.res (xu a)))
theorem VP:Sound Pz 241 Pf:=aS fun a=>cW (Xn a rfl)
noncomputable def WY:List (Nat×Nat×List (Nat×List Nat)):=[(176,20,[(0,[1,2]),(1,[1,2,15]),(2,[4]),(3,[4])])]
noncomputable def T5:aC:=au Pz (fun f i=>bI f i WY) [(212,ur),(241,Pf)] [] []
theorem Nu:bD T5:=ao al ⟨wy,VP,trivial⟩ trivial trivial
noncomputable def Em (a:Pos) (b:Int):Int:=(bif !xu b then (0) else (bif !fH (a.ag.getD (scale 1 b).toNat 0) then (0) else (a.ag.getD (scale 1 b).toNat 0)))
noncomputable def zk (a:Pos) (b:Int):Bool:=(bif !xu b then true else (decide (0≤b)&&decide (b < Int.ofNat 64)&&(bif !fH (a.ag.getD (scale 1 b).toNat 0) then true else (decide (0≤b)&&decide (b < Int.ofNat 64)&&true))))
theorem Wh (a:Pos) (b:Int) (h:zk a b=true):PS Pz 176 [Pos.av a,.int .i64 b] ((dI .u8).res (Em a b)):=aA (n:=14) Nu (by kernel_rfl) (by kernel_rfl) (by kernel_rfl) h
noncomputable def OT:List AV→Tr AV:=g2 bH (dI .i64) (fun a b=>cE (zk a b) ((dI .u8).res (Em a b)))
theorem TD:Sound Pz 176 OT:=bB fun a b=>aJ (Wh a b)
noncomputable def Un:List (Nat×Nat×List (Nat×List Nat)):=[(100,11,[(0,[2,3]),(1,[4])])]
noncomputable def U9:aC:=au Pz (fun f i=>bI f i Un) [(175,gE),(176,OT)] [] []
theorem QH:bD U9:=ao al ⟨hM,TD,trivial⟩ trivial trivial
noncomputable def bu (a:Pos) (b:Mv):Int:=(aY (Em a (wr .i64 b.aw)))
noncomputable def mu (a:Pos) (b:Mv):Bool:=(zk a (wr .i64 b.aw)&&true)
theorem Ur (a:Pos) (b:Mv) (h:mu a b=true):PS Pz 100 [Pos.av a,Mv.av b] ((dI .u8).res (bu a b)):=aA (n:=14) QH (by kernel_rfl) (by kernel_rfl) (by kernel_rfl) h
noncomputable def HI:List AV→Tr AV:=g2 bH iE (fun a b=>cE (mu a b) ((dI .u8).res (bu a b)))
theorem JQ:Sound Pz 100 HI:=bB fun a b=>aJ (Ur a b)
noncomputable def Wo:List (Nat×Nat×List (Nat×List Nat)):=[(242,5,[(0,[0]),(1,[4]),(2,[2]),(3,[2])])]
noncomputable def Y3:aC:=au Pz (fun f i=>bI f i Wo) [] [] []
theorem OS:bD Y3:=ao al trivial trivial trivial
noncomputable def Gr (a:Int):List UInt8:=(bif a==0 then ((ByteArray.mk #[46,80,78,66,82,81,75]).data.toList) else ((ByteArray.mk #[46,112,110,98,114,113,107]).data.toList))
noncomputable def Iz (a:Int):Bool:=true
theorem V8 (a:Int) (h:Iz a=true):PS Pz 242 [.int .u8 a] (dS.res (Gr a)):=aA (n:=14) OS (by kernel_rfl) (by kernel_rfl) (by kernel_rfl) h
noncomputable def Rx:List AV→Tr AV:=g1 (dI .u8) (fun a=>.ret (dS.res (Gr a)))
theorem XP:Sound Pz 242 Rx:=aS fun a=>cW (V8 a rfl)
noncomputable def Xz:List (Nat×Nat×List (Nat×List Nat)):=[(177,16,[(0,[0]),(1,[0,6]),(2,[2]),(3,[0,3]),(4,[2])])]
noncomputable def Yx:aC:=au Pz (fun f i=>bI f i Xz) [(212,ur),(175,gE),(242,Rx),(204,FI)] [] []
theorem Rw:bD Yx:=ao al ⟨wy,hM,XP,M8,trivial⟩ trivial trivial
noncomputable def F5 (a:Int):List UInt8:=(bif !fH a then ((ByteArray.mk #[]).data.toList) else (List.drop (aY a).toNat (List.take (wr .u8 (aY a+1)).toNat (Gr (uQ a)))))
noncomputable def zN (a:Int):Bool:=(bif !fH a then true else (IX a&&(Js a&&(Iz (uQ a)&&(decide (0≤aY a)&&decide (aY a≤wr .u8 (aY a+1))&&decide (wr .u8 (aY a+1)≤Int.ofNat (Gr (uQ a)).length)&&true)))))
theorem WA (a:Int) (h:zN a=true):PS Pz 177 [.int .u8 a] (dS.res (F5 a)):=aA (n:=14) Rw (by kernel_rfl) (by kernel_rfl) (by kernel_rfl) h
noncomputable def Ca:List AV→Tr AV:=g1 (dI .u8) (fun a=>cE (zN a) (dS.res (F5 a)))
theorem FJ:Sound Pz 177 Ca:=aS fun a=>aJ (WA a)
noncomputable def Yq:List (Nat×Nat×List (Nat×List Nat)):=[(101,6,[(0,[0]),(1,[2])])]
noncomputable def Vu:aC:=au Pz (fun f i=>bI f i Yq) [(177,Ca),(178,jX)] [] []
theorem Qe:bD Vu:=ao al ⟨FJ,kH,trivial⟩ trivial trivial
noncomputable def bq (a:Int):List UInt8:=(F5 (jo 0 a))
noncomputable def cO (a:Int):Bool:=(zN (jo 0 a)&&true)
theorem Tb (a:Int) (h:cO a=true):PS Pz 101 [.int .u8 a] (dS.res (bq a)):=aA (n:=14) Qe (by kernel_rfl) (by kernel_rfl) (by kernel_rfl) h
noncomputable def QT:List AV→Tr AV:=g1 (dI .u8) (fun a=>cE (cO a) (dS.res (bq a)))
theorem TP:Sound Pz 101 QT:=aS fun a=>aJ (Tb a)
noncomputable def K49:List (Nat×Nat×List (Nat×List Nat)):=[(49,80,[(0,[2,3,4]),(1,[2,3,4,7]),(2,[2,3,4,7,8]),(3,[2,3,4,7,8,21]),(4,[2,3,4,7,8]),(5,[2,4,7,8,9]),(6,[6]),(7,[2,4,7,8,9,33]),(8,[6]),(9,[2,4,7,8,9,43]),(10,[6]),(11,[2,4,7,8,9,46]),(12,[6]),(13,[2,4,7,8,9,56]),(14,[4,7,8,10]),(15,[4,7,8,10,61]),(16,[4,10]),(17,[4,10,72]),(18,[10]),(19,[6])]),(102,13,[(0,[0,2]),(1,[2,3]),(2,[2])])]
noncomputable def B49:aC:=au Pz (fun f i=>bI f i K49) [(80,Ql),(98,Nk),(99,SP),(100,HI),(101,QT)] [] []
theorem We:bD B49:=ao al ⟨SG,Qo,Vw,JQ,TP,trivial⟩ trivial trivial
noncomputable def kL (a:Pos) (b:Mv) (c:List UInt8):List UInt8:=(bif Gg b then (bif gX a b then (bif b.bh then (bif decide (b.to > b.aw) then ((ByteArray.mk #[79,45,79]).data.toList) else (bif b.bh then ((ByteArray.mk #[79,45,79,45,79]).data.toList) else (bif b.aM != 0 then (bq b.aM++(ByteArray.mk #[64]).data.toList++bF (wr .i64 b.to)) else (bif bu a b==1 then (bif !(ByteArray.mk #[120]).data.toList==(ByteArray.mk #[]).data.toList then (bif b.aI != 0 then (List.drop 0 (List.take 1 (bF (wr .i64 b.aw)))++(ByteArray.mk #[120]).data.toList++bF (wr .i64 b.to)++((ByteArray.mk #[61]).data.toList++bq b.aI)) else (List.drop 0 (List.take 1 (bF (wr .i64 b.aw)))++(ByteArray.mk #[120]).data.toList++bF (wr .i64 b.to))) else (bif b.aI != 0 then (bF (wr .i64 b.to)++((ByteArray.mk #[61]).data.toList++bq b.aI)) else (bF (wr .i64 b.to)))) else (bq (bu a b)++c++(ByteArray.mk #[120]).data.toList++bF (wr .i64 b.to)))))) else (bif b.bh then ((ByteArray.mk #[79,45,79,45,79]).data.toList) else (bif b.aM != 0 then (bq b.aM++(ByteArray.mk #[64]).data.toList++bF (wr .i64 b.to)) else (bif bu a b==1 then (bif !(ByteArray.mk #[120]).data.toList==(ByteArray.mk #[]).data.toList then (bif b.aI != 0 then (List.drop 0 (List.take 1 (bF (wr .i64 b.aw)))++(ByteArray.mk #[120]).data.toList++bF (wr .i64 b.to)++((ByteArray.mk #[61]).data.toList++bq b.aI)) else (List.drop 0 (List.take 1 (bF (wr .i64 b.aw)))++(ByteArray.mk #[120]).data.toList++bF (wr .i64 b.to))) else (bif b.aI != 0 then (bF (wr .i64 b.to)++((ByteArray.mk #[61]).data.toList++bq b.aI)) else (bF (wr .i64 b.to)))) else (bq (bu a b)++c++(ByteArray.mk #[120]).data.toList++bF (wr .i64 b.to)))))) else (bif b.bh then (bif decide (b.to > b.aw) then ((ByteArray.mk #[79,45,79]).data.toList) else (bif b.bh then ((ByteArray.mk #[79,45,79,45,79]).data.toList) else (bif b.aM != 0 then (bq b.aM++(ByteArray.mk #[64]).data.toList++bF (wr .i64 b.to)) else (bif bu a b==1 then (bif !(ByteArray.mk #[]).data.toList==(ByteArray.mk #[]).data.toList then (bif b.aI != 0 then (List.drop 0 (List.take 1 (bF (wr .i64 b.aw)))++(ByteArray.mk #[]).data.toList++bF (wr .i64 b.to)++((ByteArray.mk #[61]).data.toList++bq b.aI)) else (List.drop 0 (List.take 1 (bF (wr .i64 b.aw)))++(ByteArray.mk #[]).data.toList++bF (wr .i64 b.to))) else (bif b.aI != 0 then (bF (wr .i64 b.to)++((ByteArray.mk #[61]).data.toList++bq b.aI)) else (bF (wr .i64 b.to)))) else (bq (bu a b)++c++(ByteArray.mk #[]).data.toList++bF (wr .i64 b.to)))))) else (bif b.bh then ((ByteArray.mk #[79,45,79,45,79]).data.toList) else (bif b.aM != 0 then (bq b.aM++(ByteArray.mk #[64]).data.toList++bF (wr .i64 b.to)) else (bif bu a b==1 then (bif !(ByteArray.mk #[]).data.toList==(ByteArray.mk #[]).data.toList then (bif b.aI != 0 then (List.drop 0 (List.take 1 (bF (wr .i64 b.aw)))++(ByteArray.mk #[]).data.toList++bF (wr .i64 b.to)++((ByteArray.mk #[61]).data.toList++bq b.aI)) else (List.drop 0 (List.take 1 (bF (wr .i64 b.aw)))++(ByteArray.mk #[]).data.toList++bF (wr .i64 b.to))) else (bif b.aI != 0 then (bF (wr .i64 b.to)++((ByteArray.mk #[61]).data.toList++bq b.aI)) else (bF (wr .i64 b.to)))) else (bq (bu a b)++c++(ByteArray.mk #[]).data.toList++bF (wr .i64 b.to))))))) else (bif b.bh then (bif decide (b.to > b.aw) then ((ByteArray.mk #[79,45,79]).data.toList) else (bif b.bh then ((ByteArray.mk #[79,45,79,45,79]).data.toList) else (bif b.aM != 0 then (bq b.aM++(ByteArray.mk #[64]).data.toList++bF (wr .i64 b.to)) else (bif bu a b==1 then (bif !(ByteArray.mk #[]).data.toList==(ByteArray.mk #[]).data.toList then (bif b.aI != 0 then (List.drop 0 (List.take 1 (bF (wr .i64 b.aw)))++(ByteArray.mk #[]).data.toList++bF (wr .i64 b.to)++((ByteArray.mk #[61]).data.toList++bq b.aI)) else (List.drop 0 (List.take 1 (bF (wr .i64 b.aw)))++(ByteArray.mk #[]).data.toList++bF (wr .i64 b.to))) else (bif b.aI != 0 then (bF (wr .i64 b.to)++((ByteArray.mk #[61]).data.toList++bq b.aI)) else (bF (wr .i64 b.to)))) else (bq (bu a b)++c++(ByteArray.mk #[]).data.toList++bF (wr .i64 b.to)))))) else (bif b.bh then ((ByteArray.mk #[79,45,79,45,79]).data.toList) else (bif b.aM != 0 then (bq b.aM++(ByteArray.mk #[64]).data.toList++bF (wr .i64 b.to)) else (bif bu a b==1 then (bif !(ByteArray.mk #[]).data.toList==(ByteArray.mk #[]).data.toList then (bif b.aI != 0 then (List.drop 0 (List.take 1 (bF (wr .i64 b.aw)))++(ByteArray.mk #[]).data.toList++bF (wr .i64 b.to)++((ByteArray.mk #[61]).data.toList++bq b.aI)) else (List.drop 0 (List.take 1 (bF (wr .i64 b.aw)))++(ByteArray.mk #[]).data.toList++bF (wr .i64 b.to))) else (bif b.aI != 0 then (bF (wr .i64 b.to)++((ByteArray.mk #[61]).data.toList++bq b.aI)) else (bF (wr .i64 b.to)))) else (bq (bu a b)++c++(ByteArray.mk #[]).data.toList++bF (wr .i64 b.to)))))))
noncomputable def lZ (a:Pos) (b:Mv) (c:List UInt8):Bool:=(kK (wr .i64 b.to)&&(bif Gg b then (tR a b&&(bif gX a b then (mu a b&&(bif b.bh then (bif decide (b.to > b.aw) then true else (bif b.bh then true else (bif b.aM != 0 then (cO b.aM&&(decide ((bq b.aM).length+1≤1073741824)&&(decide ((bq b.aM++(ByteArray.mk #[64]).data.toList).length+(bF (wr .i64 b.to)).length≤1073741824)&&true))) else (bif bu a b==1 then (bif !(ByteArray.mk #[120]).data.toList==(ByteArray.mk #[]).data.toList then (kK (wr .i64 b.aw)&&(decide (0≤1)&&decide (1≤Int.ofNat (bF (wr .i64 b.aw)).length)&&(decide (0≤1)&&decide (1≤Int.ofNat (bF (wr .i64 b.aw)).length)&&(decide ((List.drop 0 (List.take 1 (bF (wr .i64 b.aw)))).length+1≤1073741824)&&(decide ((List.drop 0 (List.take 1 (bF (wr .i64 b.aw)))++(ByteArray.mk #[120]).data.toList).length+(bF (wr .i64 b.to)).length≤1073741824)&&(bif b.aI != 0 then (cO b.aI&&(decide (1+(bq b.aI).length≤1073741824)&&(decide ((List.drop 0 (List.take 1 (bF (wr .i64 b.aw)))++(ByteArray.mk #[120]).data.toList++bF (wr .i64 b.to)).length+((ByteArray.mk #[61]).data.toList++bq b.aI).length≤1073741824)&&true))) else true)))))) else (bif b.aI != 0 then (cO b.aI&&(decide (1+(bq b.aI).length≤1073741824)&&(decide ((bF (wr .i64 b.to)).length+((ByteArray.mk #[61]).data.toList++bq b.aI).length≤1073741824)&&true))) else true)) else (cO (bu a b)&&(decide ((bq (bu a b)).length+c.length≤1073741824)&&(decide ((bq (bu a b)++c).length+1≤1073741824)&&(decide ((bq (bu a b)++c++(ByteArray.mk #[120]).data.toList).length+(bF (wr .i64 b.to)).length≤1073741824)&&true)))))))) else (bif b.bh then true else (bif b.aM != 0 then (cO b.aM&&(decide ((bq b.aM).length+1≤1073741824)&&(decide ((bq b.aM++(ByteArray.mk #[64]).data.toList).length+(bF (wr .i64 b.to)).length≤1073741824)&&true))) else (bif bu a b==1 then (bif !(ByteArray.mk #[120]).data.toList==(ByteArray.mk #[]).data.toList then (kK (wr .i64 b.aw)&&(decide (0≤1)&&decide (1≤Int.ofNat (bF (wr .i64 b.aw)).length)&&(decide (0≤1)&&decide (1≤Int.ofNat (bF (wr .i64 b.aw)).length)&&(decide ((List.drop 0 (List.take 1 (bF (wr .i64 b.aw)))).length+1≤1073741824)&&(decide ((List.drop 0 (List.take 1 (bF (wr .i64 b.aw)))++(ByteArray.mk #[120]).data.toList).length+(bF (wr .i64 b.to)).length≤1073741824)&&(bif b.aI != 0 then (cO b.aI&&(decide (1+(bq b.aI).length≤1073741824)&&(decide ((List.drop 0 (List.take 1 (bF (wr .i64 b.aw)))++(ByteArray.mk #[120]).data.toList++bF (wr .i64 b.to)).length+((ByteArray.mk #[61]).data.toList++bq b.aI).length≤1073741824)&&true))) else true)))))) else (bif b.aI != 0 then (cO b.aI&&(decide (1+(bq b.aI).length≤1073741824)&&(decide ((bF (wr .i64 b.to)).length+((ByteArray.mk #[61]).data.toList++bq b.aI).length≤1073741824)&&true))) else true)) else (cO (bu a b)&&(decide ((bq (bu a b)).length+c.length≤1073741824)&&(decide ((bq (bu a b)++c).length+1≤1073741824)&&(decide ((bq (bu a b)++c++(ByteArray.mk #[120]).data.toList).length+(bF (wr .i64 b.to)).length≤1073741824)&&true))))))))) else (mu a b&&(bif b.bh then (bif decide (b.to > b.aw) then true else (bif b.bh then true else (bif b.aM != 0 then (cO b.aM&&(decide ((bq b.aM).length+1≤1073741824)&&(decide ((bq b.aM++(ByteArray.mk #[64]).data.toList).length+(bF (wr .i64 b.to)).length≤1073741824)&&true))) else (bif bu a b==1 then (bif !(ByteArray.mk #[]).data.toList==(ByteArray.mk #[]).data.toList then (kK (wr .i64 b.aw)&&(decide (0≤1)&&decide (1≤Int.ofNat (bF (wr .i64 b.aw)).length)&&(decide (0≤1)&&decide (1≤Int.ofNat (bF (wr .i64 b.aw)).length)&&(decide ((List.drop 0 (List.take 1 (bF (wr .i64 b.aw)))).length+0≤1073741824)&&(decide ((List.drop 0 (List.take 1 (bF (wr .i64 b.aw)))++(ByteArray.mk #[]).data.toList).length+(bF (wr .i64 b.to)).length≤1073741824)&&(bif b.aI != 0 then (cO b.aI&&(decide (1+(bq b.aI).length≤1073741824)&&(decide ((List.drop 0 (List.take 1 (bF (wr .i64 b.aw)))++(ByteArray.mk #[]).data.toList++bF (wr .i64 b.to)).length+((ByteArray.mk #[61]).data.toList++bq b.aI).length≤1073741824)&&true))) else true)))))) else (bif b.aI != 0 then (cO b.aI&&(decide (1+(bq b.aI).length≤1073741824)&&(decide ((bF (wr .i64 b.to)).length+((ByteArray.mk #[61]).data.toList++bq b.aI).length≤1073741824)&&true))) else true)) else (cO (bu a b)&&(decide ((bq (bu a b)).length+c.length≤1073741824)&&(decide ((bq (bu a b)++c).length+0≤1073741824)&&(decide ((bq (bu a b)++c++(ByteArray.mk #[]).data.toList).length+(bF (wr .i64 b.to)).length≤1073741824)&&true)))))))) else (bif b.bh then true else (bif b.aM != 0 then (cO b.aM&&(decide ((bq b.aM).length+1≤1073741824)&&(decide ((bq b.aM++(ByteArray.mk #[64]).data.toList).length+(bF (wr .i64 b.to)).length≤1073741824)&&true))) else (bif bu a b==1 then (bif !(ByteArray.mk #[]).data.toList==(ByteArray.mk #[]).data.toList then (kK (wr .i64 b.aw)&&(decide (0≤1)&&decide (1≤Int.ofNat (bF (wr .i64 b.aw)).length)&&(decide (0≤1)&&decide (1≤Int.ofNat (bF (wr .i64 b.aw)).length)&&(decide ((List.drop 0 (List.take 1 (bF (wr .i64 b.aw)))).length+0≤1073741824)&&(decide ((List.drop 0 (List.take 1 (bF (wr .i64 b.aw)))++(ByteArray.mk #[]).data.toList).length+(bF (wr .i64 b.to)).length≤1073741824)&&(bif b.aI != 0 then (cO b.aI&&(decide (1+(bq b.aI).length≤1073741824)&&(decide ((List.drop 0 (List.take 1 (bF (wr .i64 b.aw)))++(ByteArray.mk #[]).data.toList++bF (wr .i64 b.to)).length+((ByteArray.mk #[61]).data.toList++bq b.aI).length≤1073741824)&&true))) else true)))))) else (bif b.aI != 0 then (cO b.aI&&(decide (1+(bq b.aI).length≤1073741824)&&(decide ((bF (wr .i64 b.to)).length+((ByteArray.mk #[61]).data.toList++bq b.aI).length≤1073741824)&&true))) else true)) else (cO (bu a b)&&(decide ((bq (bu a b)).length+c.length≤1073741824)&&(decide ((bq (bu a b)++c).length+0≤1073741824)&&(decide ((bq (bu a b)++c++(ByteArray.mk #[]).data.toList).length+(bF (wr .i64 b.to)).length≤1073741824)&&true))))))))))) else (mu a b&&(bif b.bh then (bif decide (b.to > b.aw) then true else (bif b.bh then true else (bif b.aM != 0 then (cO b.aM&&(decide ((bq b.aM).length+1≤1073741824)&&(decide ((bq b.aM++(ByteArray.mk #[64]).data.toList).length+(bF (wr .i64 b.to)).length≤1073741824)&&true))) else (bif bu a b==1 then (bif !(ByteArray.mk #[]).data.toList==(ByteArray.mk #[]).data.toList then (kK (wr .i64 b.aw)&&(decide (0≤1)&&decide (1≤Int.ofNat (bF (wr .i64 b.aw)).length)&&(decide (0≤1)&&decide (1≤Int.ofNat (bF (wr .i64 b.aw)).length)&&(decide ((List.drop 0 (List.take 1 (bF (wr .i64 b.aw)))).length+0≤1073741824)&&(decide ((List.drop 0 (List.take 1 (bF (wr .i64 b.aw)))++(ByteArray.mk #[]).data.toList).length+(bF (wr .i64 b.to)).length≤1073741824)&&(bif b.aI != 0 then (cO b.aI&&(decide (1+(bq b.aI).length≤1073741824)&&(decide ((List.drop 0 (List.take 1 (bF (wr .i64 b.aw)))++(ByteArray.mk #[]).data.toList++bF (wr .i64 b.to)).length+((ByteArray.mk #[61]).data.toList++bq b.aI).length≤1073741824)&&true))) else true)))))) else (bif b.aI != 0 then (cO b.aI&&(decide (1+(bq b.aI).length≤1073741824)&&(decide ((bF (wr .i64 b.to)).length+((ByteArray.mk #[61]).data.toList++bq b.aI).length≤1073741824)&&true))) else true)) else (cO (bu a b)&&(decide ((bq (bu a b)).length+c.length≤1073741824)&&(decide ((bq (bu a b)++c).length+0≤1073741824)&&(decide ((bq (bu a b)++c++(ByteArray.mk #[]).data.toList).length+(bF (wr .i64 b.to)).length≤1073741824)&&true)))))))) else (bif b.bh then true else (bif b.aM != 0 then (cO b.aM&&(decide ((bq b.aM).length+1≤1073741824)&&(decide ((bq b.aM++(ByteArray.mk #[64]).data.toList).length+(bF (wr .i64 b.to)).length≤1073741824)&&true))) else (bif bu a b==1 then (bif !(ByteArray.mk #[]).data.toList==(ByteArray.mk #[]).data.toList then (kK (wr .i64 b.aw)&&(decide (0≤1)&&decide (1≤Int.ofNat (bF (wr .i64 b.aw)).length)&&(decide (0≤1)&&decide (1≤Int.ofNat (bF (wr .i64 b.aw)).length)&&(decide ((List.drop 0 (List.take 1 (bF (wr .i64 b.aw)))).length+0≤1073741824)&&(decide ((List.drop 0 (List.take 1 (bF (wr .i64 b.aw)))++(ByteArray.mk #[]).data.toList).length+(bF (wr .i64 b.to)).length≤1073741824)&&(bif b.aI != 0 then (cO b.aI&&(decide (1+(bq b.aI).length≤1073741824)&&(decide ((List.drop 0 (List.take 1 (bF (wr .i64 b.aw)))++(ByteArray.mk #[]).data.toList++bF (wr .i64 b.to)).length+((ByteArray.mk #[61]).data.toList++bq b.aI).length≤1073741824)&&true))) else true)))))) else (bif b.aI != 0 then (cO b.aI&&(decide (1+(bq b.aI).length≤1073741824)&&(decide ((bF (wr .i64 b.to)).length+((ByteArray.mk #[61]).data.toList++bq b.aI).length≤1073741824)&&true))) else true)) else (cO (bu a b)&&(decide ((bq (bu a b)).length+c.length≤1073741824)&&(decide ((bq (bu a b)++c).length+0≤1073741824)&&(decide ((bq (bu a b)++c++(ByteArray.mk #[]).data.toList).length+(bF (wr .i64 b.to)).length≤1073741824)&&true)))))))))))
theorem P49 (a:Pos) (b:Mv) (c:List UInt8) (h:lZ a b c=true):PS Pz 49 [Pos.av a,Mv.av b,.str c] (dS.res (kL a b c)):=aA (n:=14) We (by kernel_rfl) (by kernel_rfl) (by kernel_rfl) h
noncomputable def SN:List AV→Tr AV:=g3 bH iE dS (fun a b c=>cE (lZ a b c) (dS.res (kL a b c)))
theorem Yp:Sound Pz 49 SN:=eG fun a b c=>aJ (P49 a b c)
noncomputable def ZF:List (Nat×Nat×List (Nat×List Nat)):=[(50,85,[(0,[2,3,4]),(1,[2,3,4,7,8,9]),(2,[3,4,7,8,9,13,14,15]),(3,(3::4::7::8::9::(rn 13 4 []))),(4,[3,4,7,8,9,11,13,14,15]),(5,[3,4,7,8,9,11,13,14,15,49]),(6,[3,4,7,8,9,11,13,14,15]),(7,[3,4,7,8,9,11,13,14,15]),(8,[3,4,7,8,9,13,14,15]),(9,[3,4,7,8,9,13,14,15]),(10,[4,7,8,9,12]),(11,[4,12]),(12,[4,8,9,12,71]),(13,[4,9,74]),(14,[4,12]),(15,[4,77]),(16,[4,12]),(17,[6])]),(102,13,[(0,[0,2]),(1,[2,3]),(2,[2])])]
noncomputable def Qx:aC:=au Pz (fun f i=>bI f i ZF) [(98,Nk),(99,SP),(100,HI)] [] []
theorem Lm:bD Qx:=ao al ⟨Qo,Vw,JQ,trivial⟩ trivial trivial
noncomputable def Jc (p1:(List Mv)) (p2:Int) (p3:Pos) (p4:Mv) (x:(Bool×Bool×Bool×Int)):St:=St.mk (an 3 (AV.ptr 0 0::AV.ptr 1 0::AV.any::AV.any::AV.bool x.fst::AV.bool x.snd.fst::AV.bool x.snd.snd.fst::(an 3 (AV.list ET.mv p1 Tk.arg::AV.int .i64 p2::AV.int .i64 x.snd.snd.snd::(an 69 []))))) (Hp.mk [(pc p3 []),[AV.int .i8 p4.aw,AV.int .i8 p4.to,AV.int .u8 p4.aI,AV.int .u8 p4.aM,AV.bool p4.bh]] [] [] 0 0 0)
noncomputable def Jf (p1:(List Mv)) (p2:Int) (p3:Pos) (p4:Mv):(Bool×Bool×Bool×Int×Bool)→Out:=fun y=>.exit 0 (St.mk (an 3 (AV.ptr 0 0::AV.ptr 1 0::AV.any::AV.any::AV.bool y.fst::AV.bool y.snd.fst::AV.bool y.snd.snd.fst::(an 3 (AV.list ET.mv p1 Tk.arg::AV.int .i64 p2::AV.int .i64 y.snd.snd.snd.fst::AV.bool y.snd.snd.snd.snd::(an 68 []))))) (Hp.mk [(pc p3 []),[AV.int .i8 p4.aw,AV.int .i8 p4.to,AV.int .u8 p4.aI,AV.int .u8 p4.aM,AV.bool p4.bh]] [] [] 0 0 0))
noncomputable def yy (p1:(List Mv)) (p2:Int) (p3:Pos) (p4:Mv) (x:(Bool×Bool×Bool×Int)):bA (Bool×Bool×Bool×Int) ((Bool×Bool×Bool×Int×Bool)):=(bif decide (x.snd.snd.snd < p2) then (bif bj BinOp.eql ((p1.getD x.snd.snd.snd.toNat default).aw==p4.aw&&((p1.getD x.snd.snd.snd.toNat default).to==p4.to&&((p1.getD x.snd.snd.snd.toNat default).aI==p4.aI&&((p1.getD x.snd.snd.snd.toNat default).aM==p4.aM&&((p1.getD x.snd.snd.snd.toNat default).bh==p4.bh&&true))))) then (bA.go (x.fst,x.snd.fst,x.snd.snd.fst,wr .i64 (x.snd.snd.snd+1))) else (bif !Gg (p1.getD x.snd.snd.snd.toNat default) then (bA.go (x.fst,x.snd.fst,x.snd.snd.fst,wr .i64 (x.snd.snd.snd+1))) else (bif (p1.getD x.snd.snd.snd.toNat default).to != p4.to then (bA.go (x.fst,x.snd.fst,x.snd.snd.fst,wr .i64 (x.snd.snd.snd+1))) else (bif (p1.getD x.snd.snd.snd.toNat default).aw==p4.aw then (bA.go (x.fst,x.snd.fst,x.snd.snd.fst,wr .i64 (x.snd.snd.snd+1))) else (bif bu p3 (p1.getD x.snd.snd.snd.toNat default) != bu p3 p4 then (bA.go (x.fst,x.snd.fst,x.snd.snd.fst,wr .i64 (x.snd.snd.snd+1))) else (bif x.snd.fst then (bif x.snd.snd.fst then (bA.go (true,true,true,wr .i64 (x.snd.snd.snd+1))) else (bA.go (true,true,wr .i8 ((p1.getD x.snd.snd.snd.toNat default).aw.tdiv 8)==wr .i8 (p4.aw.tdiv 8),wr .i64 (x.snd.snd.snd+1)))) else (bif x.snd.snd.fst then (bA.go (true,(p1.getD x.snd.snd.snd.toNat default).aw.tmod 8==p4.aw.tmod 8,true,wr .i64 (x.snd.snd.snd+1))) else (bA.go (true,(p1.getD x.snd.snd.snd.toNat default).aw.tmod 8==p4.aw.tmod 8,wr .i8 ((p1.getD x.snd.snd.snd.toNat default).aw.tdiv 8)==wr .i8 (p4.aw.tdiv 8),wr .i64 (x.snd.snd.snd+1)))))))))) else (bA.out ((x.fst,x.snd.fst,x.snd.snd.fst,x.snd.snd.snd,decide (x.snd.snd.snd < p2)))))
noncomputable def sQ (p1:(List Mv)) (p2:Int) (p3:Pos) (p4:Mv) (x:(Bool×Bool×Bool×Int)):Bool:=(bif decide (x.snd.snd.snd < p2) then (decide (0≤x.snd.snd.snd)&&decide (x.snd.snd.snd < Int.ofNat p1.length)&&(bif bj BinOp.eql ((p1.getD x.snd.snd.snd.toNat default).aw==p4.aw&&((p1.getD x.snd.snd.snd.toNat default).to==p4.to&&((p1.getD x.snd.snd.snd.toNat default).aI==p4.aI&&((p1.getD x.snd.snd.snd.toNat default).aM==p4.aM&&((p1.getD x.snd.snd.snd.toNat default).bh==p4.bh&&true))))) then true else (bif !Gg (p1.getD x.snd.snd.snd.toNat default) then true else (bif (p1.getD x.snd.snd.snd.toNat default).to != p4.to then true else (bif (p1.getD x.snd.snd.snd.toNat default).aw==p4.aw then true else (mu p3 (p1.getD x.snd.snd.snd.toNat default)&&(mu p3 p4&&true))))))) else true)
noncomputable def eY (p1:(List Mv)) (p2:Int) (p3:Pos) (p4:Mv) (x:(Bool×Bool×Bool×Int)):Option ((Bool×Bool×Bool×Int×Bool)):=fY (fun x=>bif sQ p1 p2 p3 p4 x then yy p1 p2 p3 p4 x else .bad) many x
abbrev Jz {α:Type} (k:(List Mv)→Int→Pos→Mv→(Bool×Bool×Bool×Int)→α) (s:St):α:=wP s 0 fun q0=>wM s 1 fun q1=>k (tL (ET.mv) (tT s 13)) (tI (tT s 14)) q0 q1 ((tB (tT s 7)),(tB (tT s 8)),(tB (tT s 9)),(tI (tT s 15)))
theorem ND (p1:(List Mv)) (p2:Int) (p3:Pos) (p4:Mv) (x:(Bool×Bool×Bool×Int)) (r:(Bool×Bool×Bool×Int×Bool)) (h:eY p1 p2 p3 p4 x=some r):aF Pz (bW Pz 50 3) (Jc p1 p2 p3 p4 x) (Jf p1 p2 p3 p4 r):=aF.kR (m:=12) (fn:=50) Lm (Jz fun _ _ _ _ x=>some x) (fun o=>match o with | .exit 0 s=>some ((tB (tT s 7)),(tB (tT s 8)),(tB (tT s 9)),(tI (tT s 15)),(tB (tT s 16))) | _=>none) (fun _=>rfl) (fun _=>by kernel_rfl) (fun _=>by kernel_rfl) (fun _=>by kernel_rfl) (fun _=>by kernel_rfl) many x r h
noncomputable def Jq (b:Code) (s:St):Tr Out:=Jz (fun p1 p2 p3 p4 x=>qN b (bW Pz 50 3) s (Jc p1 p2 p3 p4 x) (eY p1 p2 p3 p4 x) (Jf p1 p2 p3 p4)) s
theorem Nc:∀ b,bJ Pz b (Jq b):=fun _ _ _ h=>cN (ND _ _ _ _ _) h
noncomputable def B50:aC:=au Pz (fun f i=>bI f i ZF) [(98,Nk),(99,SP),(100,HI)] [(50,3,Jq)] []
theorem Za:bD B50:=ao al ⟨Qo,Vw,JQ,trivial⟩ ⟨Nc,trivial⟩ trivial
noncomputable def oC (a:Pos) (b:Mv) (c:List Mv):List UInt8:=(bif !((eY c (Int.ofNat c.length) a b (false,false,false,0)).getD default).fst then ((ByteArray.mk #[]).data.toList) else (bif !((eY c (Int.ofNat c.length) a b (false,false,false,0)).getD default).snd.fst then (List.drop 0 (List.take 1 (bF (wr .i64 b.aw)))) else (bif !((eY c (Int.ofNat c.length) a b (false,false,false,0)).getD default).snd.snd.fst then (List.drop 1 (List.take (bF (wr .i64 b.aw)).length (bF (wr .i64 b.aw)))) else (bF (wr .i64 b.aw)))))
noncomputable def Df (a:Pos) (b:Mv) (c:List Mv):Bool:=((eY c (Int.ofNat c.length) a b (false,false,false,0)).isSome&&(bif !((eY c (Int.ofNat c.length) a b (false,false,false,0)).getD default).fst then (kK (wr .i64 b.aw)&&(decide (0≤1)&&decide (1≤Int.ofNat (bF (wr .i64 b.aw)).length)&&(decide (0≤1)&&decide (1≤Int.ofNat (bF (wr .i64 b.aw)).length)&&true))) else (bif !((eY c (Int.ofNat c.length) a b (false,false,false,0)).getD default).snd.fst then (kK (wr .i64 b.aw)&&(decide (0≤1)&&decide (1≤Int.ofNat (bF (wr .i64 b.aw)).length)&&(decide (0≤1)&&decide (1≤Int.ofNat (bF (wr .i64 b.aw)).length)&&true))) else (bif !((eY c (Int.ofNat c.length) a b (false,false,false,0)).getD default).snd.snd.fst then (kK (wr .i64 b.aw)&&(decide (0≤1)&&decide (1≤Int.ofNat (bF (wr .i64 b.aw)).length)&&(decide (0≤1)&&decide (1≤Int.ofNat (bF (wr .i64 b.aw)).length)&&true))) else (kK (wr .i64 b.aw)&&(decide (0≤1)&&decide (1≤Int.ofNat (bF (wr .i64 b.aw)).length)&&(decide (0≤1)&&decide (1≤Int.ofNat (bF (wr .i64 b.aw)).length)&&true)))))))
theorem P50 (a:Pos) (b:Mv) (c:List Mv) (h:Df a b c=true):PS Pz 50 [Pos.av a,Mv.av b,.list .mv c .arg] (dS.res (oC a b c)):=aA (n:=14) Za (by kernel_rfl) (by kernel_rfl) (by kernel_rfl) h
noncomputable def ZB:List AV→Tr AV:=g3 bH iE (dL .mv) (fun a b c=>cE (Df a b c) (dS.res (oC a b c)))
theorem s50:Sound Pz 50 ZB:=eG fun a b c=>aJ (P50 a b c)
end Kz
end
