/- Part 7 of the texts under the proof: an abstract interpreter,the summaries of functions,plain laws. -/
import Derived.Test.YtkigphpfdagcnaaGreatDoorO6
set_option linter.unusedSectionVars false
set_option linter.unusedVariables false
set_option linter.unusedSimpArgs false
set_option linter.unnecessarySimpa false
section
namespace Kz
open Go Go.RowKit
set_option maxRecDepth 100000
set_option maxHeartbeats 4000000
set_option linter.unusedSectionVars false
theorem N72_eq {q:Pos} (hq:PosIn q) {c:Int} (hc:c=0∨c=1):ok72 q c=true∧N72 q c=N99 q c 6:=by
  obtain ⟨h1,h2⟩:=N131_eq hq hc (k:=6) (by omega) (by omega)
  exact ⟨a_true h1 fun _=>rfl,h2⟩
theorem lt_ge (x:Int):decide (x < 0)=!decide (x ≥ 0):=by
  by_cases h:x < 0
  · rw [decide_eq_true h,decide_eq_false (show ¬ x ≥ 0 by omega)]; rfl
  · rw [decide_eq_false h,decide_eq_true (show x ≥ 0 by omega)]; rfl
section
variable {p:Pos} (hp:PosIn p) (hth:there p)
include hp hth
theorem N56_eq:ok56 p=true∧N56 p=N38 p:=by
  obtain ⟨a1,a2⟩:=N113_eq hp hth
  obtain ⟨b1,b2⟩:=N114_eq hp
  obtain ⟨c1,c2⟩:=N115_eq hp
  have l1:(N85 p).length≤20480:=N85_len hp.v0
  have l2:=N86_len (p:=p) hp
  have l3:=N87_len (p:=p) hp.t0
  unfold ok56 N56
  rw [a1,a2,b1,b2,c1,c2,N38_eq,List.nil_append]
  refine ⟨?_,rfl⟩
  rw [decide_eq_true (show 0+(N85 p).length≤1073741824 by omega),decide_eq_true (show (N85 p).length+(N86 p).length≤1073741824 by omega),decide_eq_true (show (N85 p++N86 p).length+(N87 p).length≤1073741824 by rw [List.length_append]; omega),beq_self_eq_true,beq_self_eq_true,beq_self_eq_true]
  rfl
theorem well_eq {m:Mv} (hm:m ∈ N38 p):ok78 p (N58 p m)=true∧N78 p (N58 p m)=N68 p m:=by
  obtain ⟨t,hpt,ht⟩:=turn_nat hp hth.1
  obtain ⟨_,e58⟩:=made_eq hp hth hm
  have hmv:=(move_all hp m).2.1 hm
  have e17:N17 p m=(mvd p m,true):=by
    rw [N17_mvd,N37_eq (by have:=N38_len hp; omega),decide_eq_true hm]; rfl
  rw [e17] at hmv
  obtain ⟨_,hq,_,htq⟩:=hmv
  have hqt:(mvd p m).turn=0∨(mvd p m).turn=1:=by have:(mvd p m).turn=1 - p.turn:=htq; omega
  have hc:p.turn=0∨p.turn=1:=by omega
  have hc':wr .u8 (1 - p.turn)=0∨wr .u8 (1 - p.turn)=1:=by rw [hpt,wu8 (by omega) (by omega)]; omega
  obtain ⟨o1,e1⟩:=N72_eq hq hc
  obtain ⟨o2,e2⟩:=N72_eq hq hc'
  obtain ⟨o3,e3⟩:=N47_eq hq hqt hc
  obtain ⟨o4,e4⟩:=N47_eq hq hqt hc'
  have er:=royal_eq (v:=p.variant) hp.v0 hc
  rw [e58]
  unfold ok78 N78 N68 N62
  rw [e17,er,e1,e2,e3,e4,o1,o2,o3,o4,lt_ge,lt_ge]
  simp only [Bool.not_true,Bool.not_not,cond_false,Bool.true_and,Bool.and_true,bne]
  cases N61 p.variant p.turn <;> cases p.variant==3 <;> cases decide (N99 (mvd p m) p.turn 6 ≥ 0) <;> cases decide (N99 (mvd p m) (wr .u8 (1 - p.turn)) 6 ≥ 0) <;> cases N103 (mvd p m) p.turn <;> cases p.variant==8 <;> cases N103 (mvd p m) (wr .u8 (1 - p.turn)) <;> exact ⟨rfl,rfl⟩
theorem lp33:∃ r,lp33_1 (N38 p) p 0 ([],[],0,0)=some r∧r.1=(N38 p).filter (N68 p)∧r.2.1=(bif p.variant==4 then ((N38 p).filter (N68 p)).filter (N70 p) else []):=by
  have hlen:=N38_len hp
  refine lp_many (Q:=fun r:List Mv×List Mv×Int×Bool×Nat=>r.1=(N38 p).filter (N68 p)∧r.2.1=(bif p.variant==4 then ((N38 p).filter (N68 p)).filter (N70 p) else [])) (I:=fun x:List Mv×List Mv×Int×Nat => ∃ n:Nat,n≤(N38 p).length∧x.2.2.1=n∧x.1=((N38 p).take n).filter (N68 p)∧x.2.1=(bif p.variant==4 then (((N38 p).take n).filter (N68 p)).filter (N70 p) else [])∧x.2.2.2=x.2.1.length) (μ:=fun x=>((N38 p).length - x.2.2.1).toNat) ?_ _ ⟨0,by omega,rfl,by simp,by cases p.variant==4 <;> simp,rfl⟩ (by simp; omega)
  rintro ⟨a,b,x,k⟩ ⟨n,hn,hx,ha,hb,hk⟩
  simp only at hx ha hb hk
  subst hx ha hk
  unfold okL33_1 st33_1
  dsimp only
  by_cases hc:n < (N38 p).length
  · have hm:(N38 p).getD n default ∈ N38 p:=getD_mem hc
    have ht:(N38 p).take (n+1)=(N38 p).take n++[(N38 p).getD n default]:=by
      rw [List.take_add_one,List.getD_eq_getElem?_getD,List.getElem?_eq_getElem hc]; rfl
    have la:(((N38 p).take n).filter (N68 p)).length≤n:=Nat.le_trans (List.length_filter_le _ _) (by rw [List.length_take]; omega)
    have lb:b.length≤n:=by
      rw [hb]
      refine c_ind (P:=fun l:List Mv=>l.length≤n) (fun _=>Nat.le_trans (List.length_filter_le _ _) la) fun _=>by simp
    rw [decide_eq_true (show (n:Int) < Int.ofNat (N38 p).length from Int.ofNat_lt.2 hc),decide_eq_true (show (0:Int)≤n by omega),Int.toNat_natCast,wi64 (n:=(n:Int)+1) (by omega) (by omega)]
    generalize (N38 p).getD n default=m at *
    obtain ⟨o58,_⟩:=made_eq hp hth hm
    obtain ⟨o78,e78⟩:=well_eq hp hth hm
    obtain ⟨o79,e79⟩:=taken_eq hp hth hm
    have eT:N70 p m=decide (N39 p m ≥ 0):=rfl
    rw [o58,o78,e78,o79,e79,decide_eq_true (show (((N38 p).take n).filter (N68 p)).length+1≤1073741824 by omega),decide_eq_true (show b.length+1≤1073741824 by omega),beq_self_eq_true,beq_self_eq_true]
    constructor
    · cases N68 p m <;> cases p.variant==4 <;> cases decide (N39 p m ≥ 0) <;> rfl
    · have go:∀ (a' b':List Mv) (k':Nat),a'=((N38 p).take (n+1)).filter (N68 p)→b'=(bif p.variant==4 then (((N38 p).take (n+1)).filter (N68 p)).filter (N70 p) else [])→k'=b'.length →
          Nxt (fun x:List Mv×List Mv×Int×Nat => ∃ n:Nat,n≤(N38 p).length∧x.2.2.1=n∧x.1=((N38 p).take n).filter (N68 p)∧x.2.1=(bif p.variant==4 then (((N38 p).take n).filter (N68 p)).filter (N70 p) else [])∧x.2.2.2=x.2.1.length) (fun r:List Mv×List Mv×Int×Bool×Nat=>r.1=(N38 p).filter (N68 p)∧r.2.1=(bif p.variant==4 then ((N38 p).filter (N68 p)).filter (N70 p) else [])) (fun x:List Mv×List Mv×Int×Nat=>((N38 p).length - x.2.2.1).toNat) ((((N38 p).length:Int) - (n:Int)).toNat) (.go (a',b',(n:Int)+1,k')) :=
        fun a' b' k' h1 h2 h3=>⟨⟨n+1,by omega,by simp,h1,h2,h3⟩,by dsimp only; omega⟩
      have hf:((N38 p).take (n+1)).filter (N68 p)=bif N68 p m then ((N38 p).take n).filter (N68 p)++[m] else ((N38 p).take n).filter (N68 p):=by
        rw [ht,List.filter_append]
        cases h:N68 p m <;> simp [h]
      cases hw:N68 p m with
      | false =>
        rw [hw] at hf
        exact go _ _ _ (by rw [hf]; rfl) (by rw [hf]; exact hb) rfl
      | true =>
        rw [hw] at hf
        simp only [cond_true] at hf
        cases hv:p.variant==4 with
        | false=>rw [hv] at hb go; exact go _ _ _ hf.symm hb rfl
        | true =>
          rw [hv] at hb go
          simp only [cond_true] at hb
          have hf2:(((N38 p).take n).filter (N68 p)++[m]).filter (N70 p)=bif N70 p m then b++[m] else b:=by
            rw [List.filter_append,hb]
            cases h:N70 p m <;> simp [h]
          cases hd:decide (N39 p m ≥ 0) with
          | false=>exact go _ b _ hf.symm (by rw [hf,cond_true,hf2,eT,hd]; rfl) rfl
          | true=>exact go _ (b++[m]) _ hf.symm (by rw [hf,cond_true,hf2,eT,hd]; rfl) rfl
  · rw [decide_eq_false (show ¬ ((n:Int) < Int.ofNat (N38 p).length) from fun h=>hc (Int.ofNat_lt.1 h))]
    have:n=(N38 p).length:=by omega
    subst this
    rw [List.take_length] at hb ⊢
    exact ⟨rfl,rfl,hb⟩
theorem N33_eq:ok33 p=true∧N33 p=N31 p:=by
  obtain ⟨t,hpt,ht⟩:=turn_nat hp hth.1
  have hc:p.turn=0∨p.turn=1:=by omega
  obtain ⟨a1,a2⟩:=N56_eq hp hth
  obtain ⟨b1,b2,b3⟩:=of_some (lp33 hp hth)
  obtain ⟨o1,e1⟩:=N72_eq hp hc
  have er:=royal_eq (v:=p.variant) hp.v0 hc
  rw [N31_eq hp]
  unfold ok33 N33 N62 wouldL
  rw [N19_there hth,er,a1,a2,e1,o1,b1,b2,b3,lt_ge]
  refine ⟨by cases N61 p.variant p.turn <;> cases decide (N99 p p.turn 6 ≥ 0) <;> rfl,?_⟩
  have any:∀ l:List Mv,decide (Int.ofNat (l.filter (N70 p)).length > 0)=l.any (N70 p):=fun l=>by
    rw [Bool.eq_iff_iff,decide_eq_true_eq,List.any_eq_true]
    constructor
    · intro h
      have h:0 < (l.filter (N70 p)).length:=Int.ofNat_lt.1 h
      obtain ⟨x,hx⟩:=List.exists_mem_of_length_pos h
      exact ⟨x,(List.mem_filter.1 hx).1,(List.mem_filter.1 hx).2⟩
    · rintro ⟨x,h1,h2⟩
      exact Int.ofNat_lt.2 (List.length_pos_of_mem (List.mem_filter.2 ⟨h1,h2⟩))
  cases p.variant==4 with
  | false=>cases N61 p.variant p.turn <;> cases decide (N99 p p.turn 6 ≥ 0) <;> rfl
  | true =>
    simp only [cond_true]
    rw [any]
    cases N61 p.variant p.turn <;> cases decide (N99 p p.turn 6 ≥ 0) <;> rfl
end
end Kz
end
section
namespace Kz
open Go Go.RowKit Go.Proofs
set_option maxRecDepth 100000
set_option maxHeartbeats 4000000
noncomputable def K108:List (Nat×Nat×List (Nat×List Nat)):=[(108,8,[(0,[0,2]),(1,[2])])]
noncomputable def B108:Base:=baseOf Pz (fun f i=>lkC f i K108) [] [] []
theorem hB108:BOk B108:=base_ok named_z trivial trivial trivial
noncomputable def N108 (a:Int):Pos:=⟨(a),(List.replicate 64 0),(0),(List.replicate 12 0),(0),(List.take 2 (List.take 0 (List.replicate 4 0)++((List.replicate 2 0).set 0 (-1)).set 1 (-1)++List.drop 2 (List.replicate 4 0))++((List.replicate 2 0).set 0 (-1)).set 1 (-1)++List.drop 4 (List.take 0 (List.replicate 4 0)++((List.replicate 2 0).set 0 (-1)).set 1 (-1)++List.drop 2 (List.replicate 4 0))),(-1),(List.replicate 2 0),(0),(1)⟩
noncomputable def ok108 (a:Int):Bool:=true
theorem P108 (a:Int) (h:ok108 a=true):PS Pz 108 [.int .u8 a] (dPos.res (N108 a)):=ps_sum (n:=14) hB108 (by kernel_rfl) (by kernel_rfl) (by kernel_rfl) h
noncomputable def G108:List AV→Tr AV:=g1 (dI .u8) (fun a=>.ret (dPos.res (N108 a)))
theorem s108:Sound Pz 108 G108:=sound1 fun a=>at_rt (P108 a rfl)
noncomputable def K109:List (Nat×Nat×List (Nat×List Nat)):=[(109,5,[(0,[0]),(1,[2])])]
noncomputable def B109:Base:=baseOf Pz (fun f i=>lkC f i K109) [] [] []
theorem hB109:BOk B109:=base_ok named_z trivial trivial trivial
noncomputable def N109 (a:Int):Int:=(wr .u8 (8+a))
noncomputable def ok109 (a:Int):Bool:=true
theorem P109 (a:Int) (h:ok109 a=true):PS Pz 109 [.int .u8 a] ((dI .u8).res (N109 a)):=ps_sum (n:=14) hB109 (by kernel_rfl) (by kernel_rfl) (by kernel_rfl) h
noncomputable def G109:List AV→Tr AV:=g1 (dI .u8) (fun a=>.ret ((dI .u8).res (N109 a)))
theorem s109:Sound Pz 109 G109:=sound1 fun a=>at_rt (P109 a rfl)
noncomputable def K51:List (Nat×Nat×List (Nat×List Nat)):=[(51,60,[(0,[0,3,4,38,39]),(1,[0,3,4,5,38,39]),(2,[0,4,5,11,12,38,39]),(3,[0,4,5,11,12,13,38,39]),(4,(0::(rn 4 4 [11,12,38,39]))),(5,(0::(rn 4 4 [11,12,38,39]))),(6,(0::(rn 4 4 [11,12,38,39]))),(7,[0,4,5,6,11,12,38,39,40]),(8,[0,4,5,6,8,11,12,38,39]),(9,[0,4,5,6,8,11,12,38,39,45]),(10,[0,4,5,6,8,11,12,38,39]),(11,[0,4,5,11,12,38,39]),(12,[0,4,5,11,12,38,39]),(13,[4])])]
noncomputable def B51_1:Base:=baseOf Pz (fun f i=>lkC f i K51) [(110,G110),(108,G108),(109,G109)] [] []
theorem hB51_1:BOk B51_1:=base_ok named_z ⟨s110,s108,s109,trivial⟩ trivial trivial
noncomputable def S51_1 (p1:Int) (p2:(List Int)) (x:(Int×Pos)):St:=St.mk (AV.int .u8 p1::(an 3 (AV.ptr 1 0::AV.ptr 2 0::(an 5 (AV.agg [AV.ints .u8 8 p2]::AV.int .i64 x.fst::(an 47 [])))))) (Hp.mk [[AV.ints .u8 8 p2],[AV.int .u8 0,AV.ints .u8 64 (List.replicate 64 0),AV.u64 0,AV.ints .u8 12 (List.replicate 12 0),AV.int .u8 0,AV.ints .i8 4 (List.replicate 4 0),AV.int .i8 0,AV.ints .u8 2 (List.replicate 2 0),AV.int .i64 0,AV.int .i64 0],(pc x.snd [])] [] [] 0 0 0)
noncomputable def O51_1 (p1:Int) (p2:(List Int)):(Int×Bool×Pos)→Out:=fun y=>.exit 0 (St.mk (AV.int .u8 p1::(an 3 (AV.ptr 1 0::AV.ptr 2 0::(an 5 (AV.agg [AV.ints .u8 8 p2]::AV.int .i64 y.fst::AV.bool y.snd.fst::(an 46 [])))))) (Hp.mk [[AV.ints .u8 8 p2],[AV.int .u8 0,AV.ints .u8 64 (List.replicate 64 0),AV.u64 0,AV.ints .u8 12 (List.replicate 12 0),AV.int .u8 0,AV.ints .i8 4 (List.replicate 4 0),AV.int .i8 0,AV.ints .u8 2 (List.replicate 2 0),AV.int .i64 0,AV.int .i64 0],(pc y.snd.snd [])] [] [] 0 0 0))
noncomputable def st51_1 (p1:Int) (p2:(List Int)) (x:(Int×Pos)):Stp (Int×Pos) ((Int×Bool×Pos)):=(bif decide (x.fst < 8) then (bif N110 p1 then (bif p2.getD x.fst.toNat 0==4 then (bif decide (x.snd.rooks.getD 1 0 < 0) then (Stp.go (wr .i64 (x.fst+1),Pos.mk x.snd.variant ((((x.snd.board.set (scale 1 x.fst).toNat (p2.getD x.fst.toNat 0)).set (scale 1 (wr .i64 (8+x.fst))).toNat 1).set (scale 1 (wr .i64 (56+x.fst))).toNat (N109 (p2.getD x.fst.toNat 0))).set (scale 1 (wr .i64 (48+x.fst))).toNat (N109 1)) x.snd.promoted x.snd.pockets x.snd.turn ((x.snd.rooks.set 1 (wr .i8 x.fst)).set 3 (wr .i8 x.fst)) x.snd.passing x.snd.checks x.snd.half x.snd.full)) else (Stp.go (wr .i64 (x.fst+1),Pos.mk x.snd.variant ((((x.snd.board.set (scale 1 x.fst).toNat (p2.getD x.fst.toNat 0)).set (scale 1 (wr .i64 (8+x.fst))).toNat 1).set (scale 1 (wr .i64 (56+x.fst))).toNat (N109 (p2.getD x.fst.toNat 0))).set (scale 1 (wr .i64 (48+x.fst))).toNat (N109 1)) x.snd.promoted x.snd.pockets x.snd.turn ((x.snd.rooks.set 0 (wr .i8 x.fst)).set 2 (wr .i8 x.fst)) x.snd.passing x.snd.checks x.snd.half x.snd.full))) else (Stp.go (wr .i64 (x.fst+1),Pos.mk x.snd.variant ((((x.snd.board.set (scale 1 x.fst).toNat (p2.getD x.fst.toNat 0)).set (scale 1 (wr .i64 (8+x.fst))).toNat 1).set (scale 1 (wr .i64 (56+x.fst))).toNat (N109 (p2.getD x.fst.toNat 0))).set (scale 1 (wr .i64 (48+x.fst))).toNat (N109 1)) x.snd.promoted x.snd.pockets x.snd.turn x.snd.rooks x.snd.passing x.snd.checks x.snd.half x.snd.full))) else (Stp.go (wr .i64 (x.fst+1),Pos.mk x.snd.variant ((((x.snd.board.set (scale 1 x.fst).toNat (p2.getD x.fst.toNat 0)).set (scale 1 (wr .i64 (8+x.fst))).toNat 1).set (scale 1 (wr .i64 (56+x.fst))).toNat (N109 (p2.getD x.fst.toNat 0))).set (scale 1 (wr .i64 (48+x.fst))).toNat (N109 1)) x.snd.promoted x.snd.pockets x.snd.turn x.snd.rooks x.snd.passing x.snd.checks x.snd.half x.snd.full))) else (Stp.out ((x.fst,decide (x.fst < 8),x.snd))))
noncomputable def okL51_1 (p1:Int) (p2:(List Int)) (x:(Int×Pos)):Bool:=(bif decide (x.fst < 8) then (decide (0≤x.fst)&&decide (x.fst < Int.ofNat 8)&&(decide (0≤x.fst)&&decide (x.fst < Int.ofNat 64)&&(decide (0≤wr .i64 (8+x.fst))&&decide (wr .i64 (8+x.fst) < Int.ofNat 64)&&(decide (0≤wr .i64 (56+x.fst))&&decide (wr .i64 (56+x.fst) < Int.ofNat 64)&&(decide (0≤wr .i64 (48+x.fst))&&decide (wr .i64 (48+x.fst) < Int.ofNat 64)&&(ok110 (p1)&&true)))))) else true)
noncomputable def lp51_1 (p1:Int) (p2:(List Int)) (x:(Int×Pos)):Option ((Int×Bool×Pos)):=itl (fun x=>bif okL51_1 p1 p2 x then st51_1 p1 p2 x else .bad) many x
abbrev D51_1 {α:Type} (k:Int→(List Int)→(Int×Pos)→α) (s:St):α:=wP s 2 fun q2=>k (tI (tT s 0)) (tN (tX (tA (tT s 11)) 0)) ((tI (tT s 12)),q2)
theorem L51_1 (p1:Int) (p2:(List Int)) (x:(Int×Pos)) (r:(Int×Bool×Pos)) (h:lp51_1 p1 p2 x=some r):LSpec Pz (bodL Pz 51 3) (S51_1 p1 p2 x) (O51_1 p1 p2 r):=LSpec.smd (m:=12) (fn:=51) hB51_1 (D51_1 fun _ _ x=>some x) (fun o=>match o with | .exit 0 s=>wP s 2 fun q2=>some ((tI (tT s 12)),(tB (tT s 13)),q2) | _=>none) (fun _=>rfl) (fun _=>by kernel_rfl) (fun _=>by kernel_rfl) (fun _=>by kernel_rfl) (fun _=>by kernel_rfl) many x r h
noncomputable def F51_1 (b:Code) (s:St):Tr Out:=D51_1 (fun p1 p2 x=>lk1 b (bodL Pz 51 3) s (S51_1 p1 p2 x) (lp51_1 p1 p2 x) (O51_1 p1 p2)) s
theorem sF51_1:∀ b,LSound Pz b (F51_1 b):=fun _ _ _ h=>lk1_ok (L51_1 _ _ _) h
noncomputable def B51:Base:=baseOf Pz (fun f i=>lkC f i K51) [(110,G110),(108,G108),(109,G109)] [(51,3,F51_1)] []
theorem hB51:BOk B51:=base_ok named_z ⟨s110,s108,s109,trivial⟩ ⟨sF51_1,trivial⟩ trivial
noncomputable def N51 (a:Int) (b:List Int):Pos:=⟨(((lp51_1 a b (0,N108 a)).getD default).snd.snd.variant),(((lp51_1 a b (0,N108 a)).getD default).snd.snd.board),(((lp51_1 a b (0,N108 a)).getD default).snd.snd.promoted),(((lp51_1 a b (0,N108 a)).getD default).snd.snd.pockets),(((lp51_1 a b (0,N108 a)).getD default).snd.snd.turn),(((lp51_1 a b (0,N108 a)).getD default).snd.snd.rooks),(((lp51_1 a b (0,N108 a)).getD default).snd.snd.passing),(((lp51_1 a b (0,N108 a)).getD default).snd.snd.checks),(((lp51_1 a b (0,N108 a)).getD default).snd.snd.half),(((lp51_1 a b (0,N108 a)).getD default).snd.snd.full)⟩
noncomputable def ok51 (a:Int) (b:List Int):Bool:=((lp51_1 a b (0,N108 a)).isSome&&true)
theorem P51 (a:Int) (b:List Int) (h:ok51 a b=true):PS Pz 51 [.int .u8 a,.agg [.ints .u8 8 b]] (dPos.res (N51 a b)):=ps_sum (n:=14) hB51 (by kernel_rfl) (by kernel_rfl) (by kernel_rfl) h
noncomputable def G51:List AV→Tr AV:=g2 (dI .u8) (dArr .u8 8) (fun a b=>gdv (ok51 a b) (dPos.res (N51 a b)))
theorem s51:Sound Pz 51 G51:=sound2 fun a b=>at_gd (P51 a b)
noncomputable def K52:List (Nat×Nat×List (Nat×List Nat)):=[(52,2,[(0,[0]),(1,[0])])]
noncomputable def B52:Base:=baseOf Pz (fun f i=>lkC f i K52) [] [] []
theorem hB52:BOk B52:=base_ok named_z trivial trivial trivial
noncomputable def N52  : List Int:=(if 8=8 then ((((((((List.replicate 8 0).set 0 4).set 1 2).set 2 3).set 3 5).set 4 6).set 5 3).set 6 2).set 7 4 else List.take 0 (List.replicate 8 0)++((((((((List.replicate 8 0).set 0 4).set 1 2).set 2 3).set 3 5).set 4 6).set 5 3).set 6 2).set 7 4++List.drop 8 (List.replicate 8 0))
noncomputable def ok52  : Bool:=true
theorem P52  (h:ok52 =true):PS Pz 52 [] ((dArr .u8 8).res (N52 )):=ps_sum (n:=14) hB52 (by kernel_rfl) (by kernel_rfl) (by kernel_rfl) h
noncomputable def G52:List AV→Tr AV:=g0  (.ret ((dArr .u8 8).res (N52 )))
theorem s52:Sound Pz 52 G52:=sound0 (at_rt (P52 rfl))
noncomputable def K49:List (Nat×Nat×List (Nat×List Nat)):=[(49,28,[(0,[0]),(1,[0,1]),(2,[0,1]),(3,[0,1,10]),(4,[0,1,10,11]),(5,[0,1,2,10]),(6,[0,1,10]),(7,[0,1,10]),(8,[0,1,17,18,19]),(9,(0::1::(rn 17 4 []))),(10,[0,1,4,17,18,19]),(11,[0,1,17,18,19]),(12,[0,1,17,18,19]),(13,[0])])]
noncomputable def B49_1:Base:=baseOf Pz (fun f i=>lkC f i K49) [(51,G51),(52,G52)] [] []
theorem hB49_1:BOk B49_1:=base_ok named_z ⟨s51,s52,trivial⟩ trivial trivial
noncomputable def S49_1  (x:(Int×Pos)):St:=St.mk (AV.ptr 0 0::AV.ptr 1 0::(an 8 (AV.int .i64 x.fst::(an 17 [])))) (Hp.mk [[AV.int .u8 0,AV.ints .u8 64 (List.replicate 64 0),AV.u64 0,AV.ints .u8 12 (List.replicate 12 0),AV.int .u8 0,AV.ints .i8 4 (List.replicate 4 0),AV.int .i8 0,AV.ints .u8 2 (List.replicate 2 0),AV.int .i64 0,AV.int .i64 0],(pc x.snd [])] [] [] 0 0 0)
noncomputable def O49_1  : (Int×Bool×Pos)→Out:=fun y=>.exit 0 (St.mk (AV.ptr 0 0::AV.ptr 1 0::(an 8 (AV.int .i64 y.fst::AV.bool y.snd.fst::(an 16 [])))) (Hp.mk [[AV.int .u8 0,AV.ints .u8 64 (List.replicate 64 0),AV.u64 0,AV.ints .u8 12 (List.replicate 12 0),AV.int .u8 0,AV.ints .i8 4 (List.replicate 4 0),AV.int .i8 0,AV.ints .u8 2 (List.replicate 2 0),AV.int .i64 0,AV.int .i64 0],(pc y.snd.snd [])] [] [] 0 0 0))
noncomputable def st49_1  (x:(Int×Pos)):Stp (Int×Pos) ((Int×Bool×Pos)):=(bif decide (x.fst < 32) then (Stp.go (wr .i64 (x.fst+1),Pos.mk x.snd.variant (x.snd.board.set (scale 1 x.fst).toNat 1) x.snd.promoted x.snd.pockets x.snd.turn x.snd.rooks x.snd.passing x.snd.checks x.snd.half x.snd.full)) else (Stp.out ((x.fst,decide (x.fst < 32),x.snd))))
noncomputable def okL49_1  (x:(Int×Pos)):Bool:=(bif decide (x.fst < 32) then (decide (0≤x.fst)&&decide (x.fst < Int.ofNat 64)&&true) else true)
noncomputable def lp49_1  (x:(Int×Pos)):Option ((Int×Bool×Pos)):=itl (fun x=>bif okL49_1  x then st49_1  x else .bad) many x
abbrev D49_1 {α:Type} (k:(Int×Pos)→α) (s:St):α:=wP s 1 fun q1=>k ((tI (tT s 10)),q1)
theorem L49_1  (x:(Int×Pos)) (r:(Int×Bool×Pos)) (h:lp49_1  x=some r):LSpec Pz (bodL Pz 49 4) (S49_1  x) (O49_1  r):=LSpec.smd (m:=12) (fn:=49) hB49_1 (D49_1 fun x=>some x) (fun o=>match o with | .exit 0 s=>wP s 1 fun q1=>some ((tI (tT s 10)),(tB (tT s 11)),q1) | _=>none) (fun _=>rfl) (fun _=>by kernel_rfl) (fun _=>by kernel_rfl) (fun _=>by kernel_rfl) (fun _=>by kernel_rfl) many x r h
noncomputable def F49_1 (b:Code) (s:St):Tr Out:=D49_1 (fun x=>lk1 b (bodL Pz 49 4) s (S49_1 x) (lp49_1 x) (O49_1 )) s
theorem sF49_1:∀ b,LSound Pz b (F49_1 b):=fun _ _ _ h=>lk1_ok (L49_1 _) h
noncomputable def B49_2:Base:=baseOf Pz (fun f i=>lkC f i K49) [(51,G51),(52,G52)] [(49,4,F49_1)] []
theorem hB49_2:BOk B49_2:=base_ok named_z ⟨s51,s52,trivial⟩ ⟨sF49_1,trivial⟩ trivial
noncomputable def S49_2  (x:(Int×Pos)):St:=St.mk (AV.ptr 0 0::AV.ptr 1 0::(an 15 (AV.vlist true [AV.cint .i64 33,AV.cint .i64 34,AV.cint .i64 37,AV.cint .i64 38]::AV.cint .i64 (Int.ofNat 4)::AV.int .i64 x.fst::(an 8 [])))) (Hp.mk [[AV.int .u8 0,AV.ints .u8 64 (List.replicate 64 0),AV.u64 0,AV.ints .u8 12 (List.replicate 12 0),AV.int .u8 0,AV.ints .i8 4 (List.replicate 4 0),AV.int .i8 0,AV.ints .u8 2 (List.replicate 2 0),AV.int .i64 0,AV.int .i64 0],(pc x.snd [])] [] [] 0 0 0)
noncomputable def O49_2  : (Int×Bool×Pos)→Out:=fun y=>.exit 2 (St.mk (AV.ptr 0 0::AV.ptr 1 0::(an 15 (AV.vlist true [AV.cint .i64 33,AV.cint .i64 34,AV.cint .i64 37,AV.cint .i64 38]::AV.cint .i64 (Int.ofNat 4)::AV.int .i64 y.fst::AV.bool y.snd.fst::(an 7 [])))) (Hp.mk [[AV.int .u8 0,AV.ints .u8 64 (List.replicate 64 0),AV.u64 0,AV.ints .u8 12 (List.replicate 12 0),AV.int .u8 0,AV.ints .i8 4 (List.replicate 4 0),AV.int .i8 0,AV.ints .u8 2 (List.replicate 2 0),AV.int .i64 0,AV.int .i64 0],(pc y.snd.snd [])] [] [] 0 0 0))
noncomputable def st49_2  (x:(Int×Pos)):Stp (Int×Pos) ((Int×Bool×Pos)):=(bif decide (x.fst < Int.ofNat 4) then (bif x.fst==Int.ofNat 0 then (Stp.go (wr .i64 (x.fst+1),Pos.mk x.snd.variant (x.snd.board.set 33 1) x.snd.promoted x.snd.pockets x.snd.turn x.snd.rooks x.snd.passing x.snd.checks x.snd.half x.snd.full)) else (bif x.fst==Int.ofNat 1 then (Stp.go (wr .i64 (x.fst+1),Pos.mk x.snd.variant (x.snd.board.set 34 1) x.snd.promoted x.snd.pockets x.snd.turn x.snd.rooks x.snd.passing x.snd.checks x.snd.half x.snd.full)) else (bif x.fst==Int.ofNat 2 then (Stp.go (wr .i64 (x.fst+1),Pos.mk x.snd.variant (x.snd.board.set 37 1) x.snd.promoted x.snd.pockets x.snd.turn x.snd.rooks x.snd.passing x.snd.checks x.snd.half x.snd.full)) else (Stp.go (wr .i64 (x.fst+1),Pos.mk x.snd.variant (x.snd.board.set 38 1) x.snd.promoted x.snd.pockets x.snd.turn x.snd.rooks x.snd.passing x.snd.checks x.snd.half x.snd.full))))) else (Stp.out ((x.fst,decide (x.fst < Int.ofNat 4),x.snd))))
noncomputable def okL49_2  (x:(Int×Pos)):Bool:=(bif decide (x.fst < Int.ofNat 4) then (decide (0≤x.fst)&&decide (x.fst < Int.ofNat 4)&&(bif x.fst==Int.ofNat 0 then true else (bif x.fst==Int.ofNat 1 then true else (bif x.fst==Int.ofNat 2 then true else (x.fst==Int.ofNat 3&&true))))) else true)
noncomputable def lp49_2  (x:(Int×Pos)):Option ((Int×Bool×Pos)):=itl (fun x=>bif okL49_2  x then st49_2  x else .bad) many x
abbrev D49_2 {α:Type} (k:(Int×Pos)→α) (s:St):α:=wP s 1 fun q1=>k ((tI (tT s 19)),q1)
theorem L49_2  (x:(Int×Pos)) (r:(Int×Bool×Pos)) (h:lp49_2  x=some r):LSpec Pz (bodL Pz 49 9) (S49_2  x) (O49_2  r):=LSpec.smd (m:=12) (fn:=49) hB49_2 (D49_2 fun x=>some x) (fun o=>match o with | .exit 2 s=>wP s 1 fun q1=>some ((tI (tT s 19)),(tB (tT s 20)),q1) | _=>none) (fun _=>rfl) (fun _=>by kernel_rfl) (fun _=>by kernel_rfl) (fun _=>by kernel_rfl) (fun _=>by kernel_rfl) many x r h
noncomputable def F49_2 (b:Code) (s:St):Tr Out:=D49_2 (fun x=>lk1 b (bodL Pz 49 9) s (S49_2 x) (lp49_2 x) (O49_2 )) s
theorem sF49_2:∀ b,LSound Pz b (F49_2 b):=fun _ _ _ h=>lk1_ok (L49_2 _) h
noncomputable def B49:Base:=baseOf Pz (fun f i=>lkC f i K49) [(51,G51),(52,G52)] [(49,4,F49_1),(49,9,F49_2)] []
theorem hB49:BOk B49:=base_ok named_z ⟨s51,s52,trivial⟩ ⟨sF49_1,sF49_2,trivial⟩ trivial
noncomputable def N49  : Pos:=⟨(((lp49_2 (0,((lp49_1 (0,Pos.mk (N51 7 N52).variant (N51 7 N52).board (N51 7 N52).promoted (N51 7 N52).pockets (N51 7 N52).turn (List.take 0 (N51 7 N52).rooks++((List.replicate 2 0).set 0 (-1)).set 1 (-1)++List.drop 2 (N51 7 N52).rooks) (N51 7 N52).passing (N51 7 N52).checks (N51 7 N52).half (N51 7 N52).full)).getD default).snd.snd)).getD default).snd.snd.variant),(((lp49_2 (0,((lp49_1 (0,Pos.mk (N51 7 N52).variant (N51 7 N52).board (N51 7 N52).promoted (N51 7 N52).pockets (N51 7 N52).turn (List.take 0 (N51 7 N52).rooks++((List.replicate 2 0).set 0 (-1)).set 1 (-1)++List.drop 2 (N51 7 N52).rooks) (N51 7 N52).passing (N51 7 N52).checks (N51 7 N52).half (N51 7 N52).full)).getD default).snd.snd)).getD default).snd.snd.board),(((lp49_2 (0,((lp49_1 (0,Pos.mk (N51 7 N52).variant (N51 7 N52).board (N51 7 N52).promoted (N51 7 N52).pockets (N51 7 N52).turn (List.take 0 (N51 7 N52).rooks++((List.replicate 2 0).set 0 (-1)).set 1 (-1)++List.drop 2 (N51 7 N52).rooks) (N51 7 N52).passing (N51 7 N52).checks (N51 7 N52).half (N51 7 N52).full)).getD default).snd.snd)).getD default).snd.snd.promoted),(((lp49_2 (0,((lp49_1 (0,Pos.mk (N51 7 N52).variant (N51 7 N52).board (N51 7 N52).promoted (N51 7 N52).pockets (N51 7 N52).turn (List.take 0 (N51 7 N52).rooks++((List.replicate 2 0).set 0 (-1)).set 1 (-1)++List.drop 2 (N51 7 N52).rooks) (N51 7 N52).passing (N51 7 N52).checks (N51 7 N52).half (N51 7 N52).full)).getD default).snd.snd)).getD default).snd.snd.pockets),(((lp49_2 (0,((lp49_1 (0,Pos.mk (N51 7 N52).variant (N51 7 N52).board (N51 7 N52).promoted (N51 7 N52).pockets (N51 7 N52).turn (List.take 0 (N51 7 N52).rooks++((List.replicate 2 0).set 0 (-1)).set 1 (-1)++List.drop 2 (N51 7 N52).rooks) (N51 7 N52).passing (N51 7 N52).checks (N51 7 N52).half (N51 7 N52).full)).getD default).snd.snd)).getD default).snd.snd.turn),(((lp49_2 (0,((lp49_1 (0,Pos.mk (N51 7 N52).variant (N51 7 N52).board (N51 7 N52).promoted (N51 7 N52).pockets (N51 7 N52).turn (List.take 0 (N51 7 N52).rooks++((List.replicate 2 0).set 0 (-1)).set 1 (-1)++List.drop 2 (N51 7 N52).rooks) (N51 7 N52).passing (N51 7 N52).checks (N51 7 N52).half (N51 7 N52).full)).getD default).snd.snd)).getD default).snd.snd.rooks),(((lp49_2 (0,((lp49_1 (0,Pos.mk (N51 7 N52).variant (N51 7 N52).board (N51 7 N52).promoted (N51 7 N52).pockets (N51 7 N52).turn (List.take 0 (N51 7 N52).rooks++((List.replicate 2 0).set 0 (-1)).set 1 (-1)++List.drop 2 (N51 7 N52).rooks) (N51 7 N52).passing (N51 7 N52).checks (N51 7 N52).half (N51 7 N52).full)).getD default).snd.snd)).getD default).snd.snd.passing),(((lp49_2 (0,((lp49_1 (0,Pos.mk (N51 7 N52).variant (N51 7 N52).board (N51 7 N52).promoted (N51 7 N52).pockets (N51 7 N52).turn (List.take 0 (N51 7 N52).rooks++((List.replicate 2 0).set 0 (-1)).set 1 (-1)++List.drop 2 (N51 7 N52).rooks) (N51 7 N52).passing (N51 7 N52).checks (N51 7 N52).half (N51 7 N52).full)).getD default).snd.snd)).getD default).snd.snd.checks),(((lp49_2 (0,((lp49_1 (0,Pos.mk (N51 7 N52).variant (N51 7 N52).board (N51 7 N52).promoted (N51 7 N52).pockets (N51 7 N52).turn (List.take 0 (N51 7 N52).rooks++((List.replicate 2 0).set 0 (-1)).set 1 (-1)++List.drop 2 (N51 7 N52).rooks) (N51 7 N52).passing (N51 7 N52).checks (N51 7 N52).half (N51 7 N52).full)).getD default).snd.snd)).getD default).snd.snd.half),(((lp49_2 (0,((lp49_1 (0,Pos.mk (N51 7 N52).variant (N51 7 N52).board (N51 7 N52).promoted (N51 7 N52).pockets (N51 7 N52).turn (List.take 0 (N51 7 N52).rooks++((List.replicate 2 0).set 0 (-1)).set 1 (-1)++List.drop 2 (N51 7 N52).rooks) (N51 7 N52).passing (N51 7 N52).checks (N51 7 N52).half (N51 7 N52).full)).getD default).snd.snd)).getD default).snd.snd.full)⟩
noncomputable def ok49  : Bool:=(ok51 (7) (N52)&&((lp49_1 (0,Pos.mk (N51 7 N52).variant (N51 7 N52).board (N51 7 N52).promoted (N51 7 N52).pockets (N51 7 N52).turn (List.take 0 (N51 7 N52).rooks++((List.replicate 2 0).set 0 (-1)).set 1 (-1)++List.drop 2 (N51 7 N52).rooks) (N51 7 N52).passing (N51 7 N52).checks (N51 7 N52).half (N51 7 N52).full)).isSome&&((lp49_2 (0,((lp49_1 (0,Pos.mk (N51 7 N52).variant (N51 7 N52).board (N51 7 N52).promoted (N51 7 N52).pockets (N51 7 N52).turn (List.take 0 (N51 7 N52).rooks++((List.replicate 2 0).set 0 (-1)).set 1 (-1)++List.drop 2 (N51 7 N52).rooks) (N51 7 N52).passing (N51 7 N52).checks (N51 7 N52).half (N51 7 N52).full)).getD default).snd.snd)).isSome&&true)))
theorem P49  (h:ok49 =true):PS Pz 49 [] (dPos.res (N49 )):=ps_sum (n:=14) hB49 (by kernel_rfl) (by kernel_rfl) (by kernel_rfl) h
noncomputable def G49:List AV→Tr AV:=g0  (gdv ok49 (dPos.res (N49)))
theorem s49:Sound Pz 49 G49:=sound0 (at_gd P49)
noncomputable def K50:List (Nat×Nat×List (Nat×List Nat)):=[(50,42,[(0,[0]),(1,[0,1]),(2,[0,1,9,10,11]),(3,(0::1::(rn 9 4 []))),(4,(rn 0 4 [9,10,11])),(5,[0,1,2,9,10,11,16,17,18]),(6,(0::1::2::9::10::11::(rn 16 4 []))),(7,[0,1,2,4,5,9,10,11,16,17,18]),(8,[0,1,2,9,10,11,16,17,18]),(9,[0,1,2,9,10,11,16,17,18]),(10,[0,1,9,10,11]),(11,[0])])]
noncomputable def B50:Base:=baseOf Pz (fun f i=>lkC f i K50) [(108,G108),(109,G109)] [] []
theorem hB50:BOk B50:=base_ok named_z ⟨s108,s109,trivial⟩ trivial trivial
noncomputable def N50  : Pos:=⟨((N108 8).variant),(((((((((((((((((N108 8).board.set 0 (N109 5)).set 7 5).set 1 (N109 4)).set 6 4).set 2 (N109 3)).set 5 3).set 3 (N109 2)).set 4 2).set 8 (N109 6)).set 15 6).set 9 (N109 4)).set 14 4).set 10 (N109 3)).set 13 3).set 11 (N109 2)).set 12 2),((N108 8).promoted),((N108 8).pockets),((N108 8).turn),((N108 8).rooks),((N108 8).passing),((N108 8).checks),((N108 8).half),((N108 8).full)⟩
noncomputable def ok50  : Bool:=true
theorem P50  (h:ok50 =true):PS Pz 50 [] (dPos.res (N50 )):=ps_sum (n:=14) hB50 (by kernel_rfl) (by kernel_rfl) (by kernel_rfl) h
noncomputable def G50:List AV→Tr AV:=g0  (.ret (dPos.res (N50 )))
theorem s50:Sound Pz 50 G50:=sound0 (at_rt (P50 rfl))
noncomputable def K21:List (Nat×Nat×List (Nat×List Nat)):=[(21,19,[(0,[0,2]),(1,[0,2,4]),(2,[2,3]),(3,[0,2,8]),(4,[2,3]),(5,[0,2,12]),(6,[2,3]),(7,[2,3])])]
noncomputable def B21:Base:=baseOf Pz (fun f i=>lkC f i K21) [(49,G49),(50,G50),(51,G51),(52,G52)] [] []
theorem hB21:BOk B21:=base_ok named_z ⟨s49,s50,s51,s52,trivial⟩ trivial trivial
noncomputable def N21 (a:Int):(Pos×Bool):=(bif decide (a ≥ 9) then (⟨(0),(List.replicate 64 0),(0),(List.replicate 12 0),(0),(List.replicate 4 0),(0),(List.replicate 2 0),(0),(0)⟩,(false)) else (bif a==7 then (⟨(N49.variant),(N49.board),(N49.promoted),(N49.pockets),(N49.turn),(N49.rooks),(N49.passing),(N49.checks),(N49.half),(N49.full)⟩,(true)) else (bif a==8 then (⟨(N50.variant),(N50.board),(N50.promoted),(N50.pockets),(N50.turn),(N50.rooks),(N50.passing),(N50.checks),(N50.half),(N50.full)⟩,(true)) else (⟨((N51 a N52).variant),((N51 a N52).board),((N51 a N52).promoted),((N51 a N52).pockets),((N51 a N52).turn),((N51 a N52).rooks),((N51 a N52).passing),((N51 a N52).checks),((N51 a N52).half),((N51 a N52).full)⟩,(true)))))
noncomputable def ok21 (a:Int):Bool:=(bif decide (a ≥ 9) then true else (bif a==7 then (ok49 &&true) else (bif a==8 then true else (ok51 (a) (N52)&&true))))
theorem P21 (a:Int) (h:ok21 a=true):PS Pz 21 [.int .u8 a] ((d2 dPos dB).res (N21 a)):=ps_sum (n:=14) hB21 (by kernel_rfl) (by kernel_rfl) (by kernel_rfl) h
noncomputable def G21:List AV→Tr AV:=g1 (dI .u8) (fun a=>gdv (ok21 a) ((d2 dPos dB).res (N21 a)))
theorem s21:Sound Pz 21 G21:=sound1 fun a=>at_gd (P21 a)
noncomputable def K13:List (Nat×Nat×List (Nat×List Nat)):=[(13,77,[(0,(rn 41 4 (47::48::49::(rn 52 5 (rn 59 5 (rn 66 4 (rn 72 4 []))))))),(1,(1::(rn 41 4 (47::48::49::(rn 52 5 (rn 59 5 (rn 66 4 (rn 72 4 [])))))))),(2,(1::3::(rn 41 4 (47::48::49::(rn 52 5 (rn 59 5 (rn 66 4 (rn 72 4 [])))))))),(3,(1::3::(rn 41 4 (47::48::49::(rn 52 5 (rn 59 5 (rn 66 4 (rn 72 4 [])))))))),(4,(1::3::(rn 41 4 (47::48::49::(rn 52 5 (rn 59 5 (rn 66 4 (rn 72 4 [])))))))),(5,(1::3::(rn 41 4 (47::48::49::(rn 52 5 (rn 59 5 (rn 66 4 (rn 72 4 [])))))))),(6,(1::3::(rn 41 4 (47::48::49::(rn 52 5 (rn 59 5 (rn 66 4 (rn 72 4 [])))))))),(7,(1::3::4::(rn 41 4 (47::48::49::(rn 52 5 (rn 59 5 (rn 66 4 (rn 72 4 [])))))))),(8,(1::3::4::(rn 41 4 (47::48::49::(rn 52 5 (rn 59 5 (rn 66 4 (rn 72 4 [])))))))),(9,(1::3::4::(rn 41 4 (47::48::49::(rn 52 5 (rn 59 5 (rn 66 4 (rn 72 4 [])))))))),(10,(1::3::4::(rn 41 4 (47::48::49::(rn 52 5 (rn 59 5 (rn 66 4 (rn 72 4 [])))))))),(11,(1::3::4::(rn 41 4 (47::48::49::(rn 52 5 (rn 59 5 (rn 66 4 (rn 72 4 [])))))))),(12,(1::3::4::5::(rn 41 4 (47::48::49::(rn 52 5 (rn 59 5 (rn 66 4 (rn 72 4 [])))))))),(13,(1::3::4::5::(rn 41 4 (47::48::49::(rn 52 5 (rn 59 5 (rn 66 4 (rn 72 4 [])))))))),(14,(1::3::4::5::(rn 41 4 (47::48::49::(rn 52 5 (rn 59 5 (rn 66 4 (rn 72 4 [])))))))),(15,(1::3::5::6::(rn 41 4 (47::48::49::(rn 52 5 (rn 59 5 (rn 66 4 (rn 72 4 [])))))))),(16,[0])])]
noncomputable def B13:Base:=baseOf Pz (fun f i=>lkC f i K13) [(11,G11),(30,G30),(21,G21)] [] []
theorem hB13:BOk B13:=base_ok named_z ⟨s11,s30,s21,trivial⟩ trivial trivial
noncomputable def N13  : Bool:=(bif Int.ofNat 20==20 then (bif Int.ofNat 10==10 then (bif Int.ofNat 2==2 then (bif ((N11 (Pos.mk 4 (li [0,0,0,0,0,0,0,0,0,0,0,0,0,0,0,0,0,0,0,0,0,0,0,0,0,0,0,0,1,0,0,0,0,0,0,9,0,9,0,0,0,0,0,0,0,0,0,0,0,0,0,0,0,0,9,0,0,0,0,0,0,0,0,0]) 0 (li [0,0,0,0,0,0,0,0,0,0,0,0]) 0 (li [0,0,0,0]) (-1) (li [0,0]) 0 1)).getD 0 default).to==35 then (bif ((N11 (Pos.mk 4 (li [0,0,0,0,0,0,0,0,0,0,0,0,0,0,0,0,0,0,0,0,0,0,0,0,0,0,0,0,1,0,0,0,0,0,0,9,0,9,0,0,0,0,0,0,0,0,0,0,0,0,0,0,0,0,9,0,0,0,0,0,0,0,0,0]) 0 (li [0,0,0,0,0,0,0,0,0,0,0,0]) 0 (li [0,0,0,0]) (-1) (li [0,0]) 0 1)).getD 1 default).to==37 then (bif Int.ofNat 0==0 then (eqOut BinOp.eql ((N30 (Pos.mk 6 (li [0,0,0,0,6,0,0,0,0,0,0,0,0,0,0,0,0,0,0,0,0,0,0,0,0,0,0,0,0,0,0,0,0,0,0,0,14,0,0,0,0,0,0,0,0,0,0,0,0,0,0,0,0,0,0,0,0,0,0,0,0,0,0,0]) 0 (li [0,0,0,0,0,0,0,0,0,0,0,0]) 0 (li [0,0,0,0]) (-1) (li [0,0]) 0 1)).fst==2&&((N30 (Pos.mk 6 (li [0,0,0,0,6,0,0,0,0,0,0,0,0,0,0,0,0,0,0,0,0,0,0,0,0,0,0,0,0,0,0,0,0,0,0,0,14,0,0,0,0,0,0,0,0,0,0,0,0,0,0,0,0,0,0,0,0,0,0,0,0,0,0,0]) 0 (li [0,0,0,0,0,0,0,0,0,0,0,0]) 0 (li [0,0,0,0]) (-1) (li [0,0]) 0 1)).snd==6&&true))) else (false)) else (false)) else (false)) else (false)) else (false)) else (false))
noncomputable def ok13  : Bool:=(ok21 (0)&&(ok11 (Pos.mk 4 (li [0,0,0,0,0,0,0,0,0,0,0,0,0,0,0,0,0,0,0,0,0,0,0,0,0,0,0,0,1,0,0,0,0,0,0,9,0,9,0,0,0,0,0,0,0,0,0,0,0,0,0,0,0,0,9,0,0,0,0,0,0,0,0,0]) 0 (li [0,0,0,0,0,0,0,0,0,0,0,0]) 0 (li [0,0,0,0]) (-1) (li [0,0]) 0 1)&&(ok11 (Pos.mk (N21 0).fst.variant (li zbd) (N21 0).fst.promoted (li [0,0,0,0,0,0,0,0,0,0,0,0]) (N21 0).fst.turn (li [7,0,7,0]) (N21 0).fst.passing (li [0,0]) (N21 0).fst.half (N21 0).fst.full)&&(bif Int.ofNat 20==20 then (ok11 (Pos.mk 0 (li [0,0,0,0,6,0,0,0,0,0,0,0,4,0,0,0,0,0,0,0,0,0,0,0,0,0,0,0,0,0,0,0,0,0,0,0,0,0,0,0,0,0,0,0,0,0,0,0,0,0,0,0,0,0,0,0,14,0,0,0,12,0,0,0]) 0 (li [0,0,0,0,0,0,0,0,0,0,0,0]) 0 (li [0,0,0,0]) (-1) (li [0,0]) 0 1)&&(bif Int.ofNat 10==10 then (bif Int.ofNat 2==2 then (decide (0≤0)&&decide (0 < Int.ofNat 2)&&(bif ((N11 (Pos.mk 4 (li [0,0,0,0,0,0,0,0,0,0,0,0,0,0,0,0,0,0,0,0,0,0,0,0,0,0,0,0,1,0,0,0,0,0,0,9,0,9,0,0,0,0,0,0,0,0,0,0,0,0,0,0,0,0,9,0,0,0,0,0,0,0,0,0]) 0 (li [0,0,0,0,0,0,0,0,0,0,0,0]) 0 (li [0,0,0,0]) (-1) (li [0,0]) 0 1)).getD 0 default).to==35 then (decide (0≤1)&&decide (1 < Int.ofNat 2)&&(bif ((N11 (Pos.mk 4 (li [0,0,0,0,0,0,0,0,0,0,0,0,0,0,0,0,0,0,0,0,0,0,0,0,0,0,0,0,1,0,0,0,0,0,0,9,0,9,0,0,0,0,0,0,0,0,0,0,0,0,0,0,0,0,9,0,0,0,0,0,0,0,0,0]) 0 (li [0,0,0,0,0,0,0,0,0,0,0,0]) 0 (li [0,0,0,0]) (-1) (li [0,0]) 0 1)).getD 1 default).to==37 then (ok11 (Pos.mk 6 (li [0,0,0,0,6,0,0,0,0,0,0,0,0,0,0,0,0,0,0,0,0,0,0,0,0,0,0,0,0,0,0,0,0,0,0,0,14,0,0,0,0,0,0,0,0,0,0,0,0,0,0,0,0,0,0,0,0,0,0,0,0,0,0,0]) 0 (li [0,0,0,0,0,0,0,0,0,0,0,0]) 0 (li [0,0,0,0]) (-1) (li [0,0]) 0 1)&&(bif Int.ofNat 0==0 then (ok30 (Pos.mk 6 (li [0,0,0,0,6,0,0,0,0,0,0,0,0,0,0,0,0,0,0,0,0,0,0,0,0,0,0,0,0,0,0,0,0,0,0,0,14,0,0,0,0,0,0,0,0,0,0,0,0,0,0,0,0,0,0,0,0,0,0,0,0,0,0,0]) 0 (li [0,0,0,0,0,0,0,0,0,0,0,0]) 0 (li [0,0,0,0]) (-1) (li [0,0]) 0 1)&&true) else true)) else true)) else true)) else true) else true)) else true))))
theorem P13  (h:ok13 =true):PS Pz 13 [] (dB.res (N13 )):=ps_sum (n:=14) hB13 (by kernel_rfl) (by kernel_rfl) (by kernel_rfl) h
noncomputable def G13:List AV→Tr AV:=g0  (gdv ok13 (dB.res (N13)))
theorem s13:Sound Pz 13 G13:=sound0 (at_gd P13)
end Kz
end
section
namespace Kz
open Go
set_option maxRecDepth 100000
set_option maxHeartbeats 4000000
def inB (a b x:Int):Bool:=decide (a≤x)&&decide (x≤b)
theorem inB_iff {a b x:Int}:inB a b x=true ↔ a≤x∧x≤b:=by unfold inB; simp
def posInB (p:Pos):Bool :=
  inB 0 255 p.variant&&(p.board.length==64&&p.board.all (inB 0 255))&&(p.pockets.length==12&&p.pockets.all (inB 0 255))&&inB 0 255 p.turn&&(p.rooks.length==4&&p.rooks.all (inB (-128) 127))&&inB (-128) 127 p.passing&&(p.checks.length==2&&p.checks.all (inB 0 255))&&inB (-9223372036854775808) 9223372036854775807 p.half&&inB (-9223372036854775808) 9223372036854775807 p.full
theorem posIn_of {p:Pos} (h:posInB p=true):PosIn p:=by
  unfold posInB at h
  simp only [Bool.and_eq_true,beq_iff_eq,List.all_eq_true,inB_iff] at h
  obtain ⟨⟨⟨⟨⟨⟨⟨⟨a,b⟩,c⟩,d⟩,e⟩,f⟩,g⟩,i⟩,j⟩:=h
  exact ⟨a.1,a.2,b.1,b.2,c.1,c.2,d.1,d.2,e.1,e.2,f.1,f.2,g.1,g.2,i,j⟩
theorem ok13_true:ok13=true:=by
  unfold ok13
  refine a_true (by decide +kernel) fun _ => ?_
  repeat' (first | with_reducible rfl | refine a_true (t11 (posIn_of (by decide +kernel))) (fun _ => ?_) | refine a_true (t30 (posIn_of (by decide +kernel))) (fun _ => ?_) | refine a_true (by decide +kernel) (fun _ => ?_) | refine c_true (fun _ => ?_) (fun _ => ?_))
theorem N13_true:N13=true:=by decide +kernel
end Kz
end
section
namespace Kz
open Go Go.RowKit Go.Proofs
set_option maxRecDepth 100000
set_option maxHeartbeats 4000000
noncomputable def K10:List (Nat×Nat×List (Nat×List Nat)):=[(10,26,[(0,[0,1]),(1,[0,1,10]),(2,[4]),(3,[0,1,5]),(4,[0,1,5,14]),(5,[0,1,5]),(6,[0,1,5,25]),(7,[4]),(8,[4])])]
noncomputable def B10_1:Base:=baseOf Pz (fun f i=>lkC f i K10) [] [] []
theorem hB10_1:BOk B10_1:=base_ok named_z trivial trivial trivial
noncomputable def S10_1 (p1:(List Mv)) (p2:(List Mv)) (x:(Int)):St:=St.mk (AV.list ET.mv p1 Tk.arg::AV.list ET.mv p2 Tk.arg::(an 3 (AV.int .i64 x::(an 20 [])))) (Hp.mk [] [] [] 0 0 0)
noncomputable def O10_1 (p1:(List Mv)) (p2:(List Mv)):Unit ⊕ (Int×Bool)→Out
  | (.inl (y))=>.ret (St.mk (an 4 (AV.cbool false::(an 21 []))) (Hp.mk [] [] [] 0 0 0))
  | (.inr (y))=>.exit 0 (St.mk (AV.list ET.mv p1 Tk.arg::AV.list ET.mv p2 Tk.arg::(an 3 (AV.int .i64 y.fst::(an 8 (AV.bool y.snd::(an 11 [])))))) (Hp.mk [] [] [] 0 0 0))
noncomputable def st10_1 (p1:(List Mv)) (p2:(List Mv)) (x:(Int)):Stp (Int) (Unit ⊕ (Int×Bool)):=(bif decide (x < Int.ofNat p1.length) then (bif eqOut BinOp.neq ((p1.getD x.toNat default).frm==(p2.getD x.toNat default).frm&&((p1.getD x.toNat default).to==(p2.getD x.toNat default).to&&((p1.getD x.toNat default).pro==(p2.getD x.toNat default).pro&&((p1.getD x.toNat default).drp==(p2.getD x.toNat default).drp&&((p1.getD x.toNat default).cas==(p2.getD x.toNat default).cas&&true))))) then (Stp.out (.inl (()))) else (Stp.go (wr .i64 (x+1)))) else (Stp.out (.inr ((x,decide (x < Int.ofNat p1.length))))))
noncomputable def okL10_1 (p1:(List Mv)) (p2:(List Mv)) (x:(Int)):Bool:=(bif decide (x < Int.ofNat p1.length) then (decide (0≤x)&&decide (x < Int.ofNat p1.length)&&(decide (0≤x)&&decide (x < Int.ofNat p2.length)&&true)) else true)
noncomputable def lp10_1 (p1:(List Mv)) (p2:(List Mv)) (x:(Int)):Option (Unit ⊕ (Int×Bool)):=itl (fun x=>bif okL10_1 p1 p2 x then st10_1 p1 p2 x else .bad) many x
abbrev D10_1 {α:Type} (k:(List Mv)→(List Mv)→(Int)→α) (s:St):α:=k (tL (ET.mv) (tT s 0)) (tL (ET.mv) (tT s 1)) ((tI (tT s 5)))
theorem L10_1 (p1:(List Mv)) (p2:(List Mv)) (x:(Int)) (r:Unit ⊕ (Int×Bool)) (h:lp10_1 p1 p2 x=some r):LSpec Pz (bodL Pz 10 4) (S10_1 p1 p2 x) (O10_1 p1 p2 r):=LSpec.smd (m:=12) (fn:=10) hB10_1 (D10_1 fun _ _ x=>some x) (fun o=>match o with | .ret s=>some (.inl ()) | .exit 0 s=>some (.inr ((tI (tT s 5)),(tB (tT s 14)))) | _=>none) (fun r=>by cases r <;> rfl) (fun _=>by kernel_rfl) (fun _=>by kernel_rfl) (fun _=>by kernel_rfl) (fun _=>by kernel_rfl) many x r h
noncomputable def F10_1 (b:Code) (s:St):Tr Out:=D10_1 (fun p1 p2 x=>lk2 b (bodL Pz 10 4) s (S10_1 p1 p2 x) (lp10_1 p1 p2 x) (O10_1 p1 p2)) s
theorem sF10_1:∀ b,LSound Pz b (F10_1 b):=fun _ _ _ h=>lk2_ok (L10_1 _ _ _) h
noncomputable def B10:Base:=baseOf Pz (fun f i=>lkC f i K10) [] [(10,4,F10_1)] []
theorem hB10:BOk B10:=base_ok named_z trivial ⟨sF10_1,trivial⟩ trivial
noncomputable def N10 (a:List Mv) (b:List Mv):Bool:=(bif Int.ofNat a.length != Int.ofNat b.length then (false) else (bif isL ((lp10_1 a b 0).getD default) then (false) else (true)))
noncomputable def ok10 (a:List Mv) (b:List Mv):Bool:=(bif Int.ofNat a.length != Int.ofNat b.length then true else ((lp10_1 a b 0).isSome&&bif isL ((lp10_1 a b 0).getD default) then true else true))
theorem P10 (a:List Mv) (b:List Mv) (h:ok10 a b=true):PS Pz 10 [.list .mv a .arg,.list .mv b .arg] (dB.res (N10 a b)):=ps_sum (n:=14) hB10 (by kernel_rfl) (by kernel_rfl) (by kernel_rfl) h
noncomputable def G10:List AV→Tr AV:=g2 (dL .mv) (dL .mv) (fun a b=>gdv (ok10 a b) (dB.res (N10 a b)))
theorem s10:Sound Pz 10 G10:=sound2 fun a b=>at_gd (P10 a b)
noncomputable def K73:List (Nat×Nat×List (Nat×List Nat)):=[(73,11,[(0,[0,1,4]),(1,[1,4,6]),(2,[4]),(3,[4])])]
noncomputable def B73:Base:=baseOf Pz (fun f i=>lkC f i K73) [] [] []
theorem hB73:BOk B73:=base_ok named_z trivial trivial trivial
noncomputable def N73 (a:Int) (b:Int):(Int×Int):=(bif a==0 then ⟨(1),(b)⟩ else ⟨(2),(b)⟩)
noncomputable def ok73 (a:Int) (b:Int):Bool:=true
theorem P73 (a:Int) (b:Int) (h:ok73 a b=true):PS Pz 73 [.int .u8 a,.int .u8 b] ((dR .u8 .u8).res (N73 a b)):=ps_sum (n:=14) hB73 (by kernel_rfl) (by kernel_rfl) (by kernel_rfl) h
noncomputable def G73:List AV→Tr AV:=g2 (dI .u8) (dI .u8) (fun a b=>.ret ((dR .u8 .u8).res (N73 a b)))
theorem s73:Sound Pz 73 G73:=sound2 fun a b=>at_rt (P73 a b rfl)
noncomputable def K74:List (Nat×Nat×List (Nat×List Nat)):=[(74,17,[(0,[0,6,7,10,11,14,15]),(1,[2])])]
noncomputable def B74:Base:=baseOf Pz (fun f i=>lkC f i K74) [] [] []
theorem hB74:BOk B74:=base_ok named_z trivial trivial trivial
noncomputable def N74 (a:Int):Bool:=(bif a==27 then (true) else (bif a==28 then (true) else (bif a==35 then (true) else (a==36))))
noncomputable def ok74 (a:Int):Bool:=true
theorem P74 (a:Int) (h:ok74 a=true):PS Pz 74 [.int .i64 a] (dB.res (N74 a)):=ps_sum (n:=14) hB74 (by kernel_rfl) (by kernel_rfl) (by kernel_rfl) h
noncomputable def G74:List AV→Tr AV:=g1 (dI .i64) (fun a=>.ret (dB.res (N74 a)))
theorem s74:Sound Pz 74 G74:=sound1 fun a=>at_rt (P74 a rfl)
noncomputable def K75:List (Nat×Nat×List (Nat×List Nat)):=[(75,14,[(0,[1,2]),(1,[1,2,5]),(2,[1,2,5,7]),(3,[1,2,5]),(4,[1,2,5,13]),(5,[4]),(6,[4])])]
noncomputable def B75_1:Base:=baseOf Pz (fun f i=>lkC f i K75) [(132,G132)] [] []
theorem hB75_1:BOk B75_1:=base_ok named_z ⟨s132,trivial⟩ trivial trivial
noncomputable def S75_1 (p1:Int) (p2:Pos) (x:(Int)):St:=St.mk (AV.any::AV.int .u8 p1::AV.ptr 0 0::AV.any::AV.any::AV.int .i64 x::(an 8 [])) (Hp.mk [(pc p2 [])] [] [] 0 0 0)
noncomputable def O75_1 (p1:Int) (p2:Pos):Unit ⊕ (Int×Bool)→Out
  | (.inl (y))=>.ret (St.mk (an 4 (AV.cbool true::(an 9 []))) (Hp.mk [(pc p2 [])] [] [] 0 0 0))
  | (.inr (y))=>.exit 0 (St.mk (AV.any::AV.int .u8 p1::AV.ptr 0 0::AV.any::AV.any::AV.int .i64 y.fst::AV.any::AV.bool y.snd::(an 6 [])) (Hp.mk [(pc p2 [])] [] [] 0 0 0))
noncomputable def st75_1 (p1:Int) (p2:Pos) (x:(Int)):Stp (Int) (Unit ⊕ (Int×Bool)):=(bif decide (x < 64) then (bif N132 (Pos.mk p2.variant p2.board p2.promoted p2.pockets p2.turn p2.rooks p2.passing p2.checks p2.half p2.full) x p1 then (Stp.out (.inl (()))) else (Stp.go (wr .i64 (x+1)))) else (Stp.out (.inr ((x,decide (x < 64))))))
noncomputable def okL75_1 (p1:Int) (p2:Pos) (x:(Int)):Bool:=(bif decide (x < 64) then (ok132 (Pos.mk p2.variant p2.board p2.promoted p2.pockets p2.turn p2.rooks p2.passing p2.checks p2.half p2.full) (x) (p1)&&true) else true)
noncomputable def lp75_1 (p1:Int) (p2:Pos) (x:(Int)):Option (Unit ⊕ (Int×Bool)):=itl (fun x=>bif okL75_1 p1 p2 x then st75_1 p1 p2 x else .bad) many x
abbrev D75_1 {α:Type} (k:Int→Pos→(Int)→α) (s:St):α:=wP s 0 fun q0=>k (tI (tT s 1)) q0 ((tI (tT s 5)))
theorem L75_1 (p1:Int) (p2:Pos) (x:(Int)) (r:Unit ⊕ (Int×Bool)) (h:lp75_1 p1 p2 x=some r):LSpec Pz (bodL Pz 75 2) (S75_1 p1 p2 x) (O75_1 p1 p2 r):=LSpec.smd (m:=12) (fn:=75) hB75_1 (D75_1 fun _ _ x=>some x) (fun o=>match o with | .ret s=>some (.inl ()) | .exit 0 s=>some (.inr ((tI (tT s 5)),(tB (tT s 7)))) | _=>none) (fun r=>by cases r <;> rfl) (fun _=>by kernel_rfl) (fun _=>by kernel_rfl) (fun _=>by kernel_rfl) (fun _=>by kernel_rfl) many x r h
noncomputable def F75_1 (b:Code) (s:St):Tr Out:=D75_1 (fun p1 p2 x=>lk2 b (bodL Pz 75 2) s (S75_1 p1 p2 x) (lp75_1 p1 p2 x) (O75_1 p1 p2)) s
theorem sF75_1:∀ b,LSound Pz b (F75_1 b):=fun _ _ _ h=>lk2_ok (L75_1 _ _ _) h
noncomputable def B75:Base:=baseOf Pz (fun f i=>lkC f i K75) [(132,G132)] [(75,2,F75_1)] []
theorem hB75:BOk B75:=base_ok named_z ⟨s132,trivial⟩ ⟨sF75_1,trivial⟩ trivial
noncomputable def N75 (a:Pos) (b:Int):Bool:=(bif isL ((lp75_1 b (Pos.mk a.variant a.board a.promoted a.pockets a.turn a.rooks a.passing a.checks a.half a.full) 0).getD default) then (true) else (false))
noncomputable def ok75 (a:Pos) (b:Int):Bool:=((lp75_1 b (Pos.mk a.variant a.board a.promoted a.pockets a.turn a.rooks a.passing a.checks a.half a.full) 0).isSome&&bif isL ((lp75_1 b (Pos.mk a.variant a.board a.promoted a.pockets a.turn a.rooks a.passing a.checks a.half a.full) 0).getD default) then true else true)
theorem P75 (a:Pos) (b:Int) (h:ok75 a b=true):PS Pz 75 [Pos.av a,.int .u8 b] (dB.res (N75 a b)):=ps_sum (n:=14) hB75 (by kernel_rfl) (by kernel_rfl) (by kernel_rfl) h
noncomputable def G75:List AV→Tr AV:=g2 dPos (dI .u8) (fun a b=>gdv (ok75 a b) (dB.res (N75 a b)))
theorem s75:Sound Pz 75 G75:=sound2 fun a b=>at_gd (P75 a b)
noncomputable def K76:List (Nat×Nat×List (Nat×List Nat)):=[(76,55,[(0,(1::2::15::30::31::32::(rn 46 6 []))),(1,(rn 1 4 (15::30::31::32::(rn 46 6 [])))),(2,(rn 1 4 (16::30::31::32::(rn 46 6 [])))),(3,[2]),(4,(1::2::3::18::30::31::32::(rn 46 6 []))),(5,[2]),(6,(1::2::21::30::31::32::(rn 46 6 []))),(7,[2]),(8,(1::2::5::30::31::32::(rn 46 6 []))),(9,(1::2::5::6::30::31::32::(rn 46 6 []))),(10,(1::2::5::6::(rn 30 4 (rn 46 6 [])))),(11,(1::2::5::6::30::31::32::(rn 46 6 []))),(12,(1::2::5::6::30::31::32::(rn 46 7 []))),(13,[2]),(14,[2])])]
noncomputable def B76_1:Base:=baseOf Pz (fun f i=>lkC f i K76) [(33,G33),(72,G72),(73,G73)] [] []
theorem hB76_1:BOk B76_1:=base_ok named_z ⟨s33,s72,s73,trivial⟩ trivial trivial
noncomputable def S76_1 (p1:(List Mv)) (p2:Pos) (x:(Int)):St:=St.mk (AV.any::AV.ptr 0 0::AV.ptr 1 0::AV.any::AV.any::AV.list ET.mv p1 Tk.fresh::AV.int .i64 x::(an 48 [])) (Hp.mk [(pc p2 []),[AV.int .u8 0,AV.int .u8 0]] [] [] 0 0 0)
noncomputable def O76_1 (p1:(List Mv)) (p2:Pos):Unit ⊕ (Int×Bool)→Out
  | (.inl (y))=>.ret (St.mk (AV.any::AV.any::AV.ptr 1 0::(an 52 [])) (Hp.mk [(pc p2 []),[AV.cint .u8 0,AV.cint .u8 0]] [] [] 0 0 0))
  | (.inr (y))=>.exit 0 (St.mk (AV.any::AV.ptr 0 0::AV.ptr 1 0::AV.any::AV.any::AV.list ET.mv p1 Tk.fresh::AV.int .i64 y.fst::(an 26 (AV.bool y.snd::(an 21 [])))) (Hp.mk [(pc p2 []),[AV.int .u8 0,AV.int .u8 0]] [] [] 0 0 0))
noncomputable def st76_1 (p1:(List Mv)) (p2:Pos) (x:(Int)):Stp (Int) (Unit ⊕ (Int×Bool)):=(bif decide (x < Int.ofNat p1.length) then (bif p2.turn==1 then (bif wr .i64 (p1.getD x.toNat default).frm==N72 p2 1 then (bif decide ((p1.getD x.toNat default).to > 55) then (Stp.out (.inl (()))) else (Stp.go (wr .i64 (x+1)))) else (Stp.go (wr .i64 (x+1)))) else (Stp.out (.inr ((x,p2.turn==1))))) else (Stp.out (.inr ((x,false)))))
noncomputable def okL76_1 (p1:(List Mv)) (p2:Pos) (x:(Int)):Bool:=(bif decide (x < Int.ofNat p1.length) then (bif p2.turn==1 then (decide (0≤x)&&decide (x < Int.ofNat p1.length)&&(ok72 (p2) (1)&&(bif wr .i64 (p1.getD x.toNat default).frm==N72 p2 1 then (decide (0≤x)&&decide (x < Int.ofNat p1.length)&&true) else true))) else true) else true)
noncomputable def lp76_1 (p1:(List Mv)) (p2:Pos) (x:(Int)):Option (Unit ⊕ (Int×Bool)):=itl (fun x=>bif okL76_1 p1 p2 x then st76_1 p1 p2 x else .bad) many x
abbrev D76_1 {α:Type} (k:(List Mv)→Pos→(Int)→α) (s:St):α:=wP s 0 fun q0=>k (tL (ET.mv) (tT s 5)) q0 ((tI (tT s 6)))
theorem L76_1 (p1:(List Mv)) (p2:Pos) (x:(Int)) (r:Unit ⊕ (Int×Bool)) (h:lp76_1 p1 p2 x=some r):LSpec Pz (bodL Pz 76 10) (S76_1 p1 p2 x) (O76_1 p1 p2 r):=LSpec.smd (m:=12) (fn:=76) hB76_1 (D76_1 fun _ _ x=>some x) (fun o=>match o with | .ret s=>some (.inl ()) | .exit 0 s=>some (.inr ((tI (tT s 6)),(tB (tT s 33)))) | _=>none) (fun r=>by cases r <;> rfl) (fun _=>by kernel_rfl) (fun _=>by kernel_rfl) (fun _=>by kernel_rfl) (fun _=>by kernel_rfl) many x r h
noncomputable def F76_1 (b:Code) (s:St):Tr Out:=D76_1 (fun p1 p2 x=>lk2 b (bodL Pz 76 10) s (S76_1 p1 p2 x) (lp76_1 p1 p2 x) (O76_1 p1 p2)) s
theorem sF76_1:∀ b,LSound Pz b (F76_1 b):=fun _ _ _ h=>lk2_ok (L76_1 _ _ _) h
noncomputable def B76:Base:=baseOf Pz (fun f i=>lkC f i K76) [(33,G33),(72,G72),(73,G73)] [(76,10,F76_1)] []
theorem hB76:BOk B76:=base_ok named_z ⟨s33,s72,s73,trivial⟩ ⟨sF76_1,trivial⟩ trivial
noncomputable def N76 (a:Pos):(Int×Int):=(bif decide (N72 a 0 > 55) then (bif decide (N72 a 1 > 55) then ⟨(3),(6)⟩ else (bif decide (N72 a 1 > 55) then ⟨((N73 1 6).fst),((N73 1 6).snd)⟩ else (bif !decide (N72 a 0 > 55) then ⟨(0),(0)⟩ else (bif isL ((lp76_1 (N33 a) a 0).getD default) then ⟨(0),(0)⟩ else ⟨((N73 0 6).fst),((N73 0 6).snd)⟩)))) else (bif decide (N72 a 1 > 55) then ⟨((N73 1 6).fst),((N73 1 6).snd)⟩ else (bif !decide (N72 a 0 > 55) then ⟨(0),(0)⟩ else (bif isL ((lp76_1 (N33 a) a 0).getD default) then ⟨(0),(0)⟩ else ⟨((N73 0 6).fst),((N73 0 6).snd)⟩))))
noncomputable def ok76 (a:Pos):Bool:=(ok72 (a) (0)&&(ok72 (a) (1)&&(bif decide (N72 a 0 > 55) then (bif decide (N72 a 1 > 55) then true else (bif decide (N72 a 1 > 55) then true else (bif !decide (N72 a 0 > 55) then true else (ok33 (a)&&((lp76_1 (N33 a) a 0).isSome&&bif isL ((lp76_1 (N33 a) a 0).getD default) then true else true))))) else (bif decide (N72 a 1 > 55) then true else (bif !decide (N72 a 0 > 55) then true else (ok33 (a)&&((lp76_1 (N33 a) a 0).isSome&&bif isL ((lp76_1 (N33 a) a 0).getD default) then true else true)))))))
theorem P76 (a:Pos) (h:ok76 a=true):PS Pz 76 [Pos.av a] ((dR .u8 .u8).res (N76 a)):=ps_sum (n:=14) hB76 (by kernel_rfl) (by kernel_rfl) (by kernel_rfl) h
noncomputable def G76:List AV→Tr AV:=g1 dPos (fun a=>gdv (ok76 a) ((dR .u8 .u8).res (N76 a)))
theorem s76:Sound Pz 76 G76:=sound1 fun a=>at_gd (P76 a)
noncomputable def K32:List (Nat×Nat×List (Nat×List Nat)):=[(32,79,[(0,[1,2]),(1,[1,2,7]),(2,[2]),(3,[1,2,3,4]),(4,[1,2,3,4,15]),(5,(rn 1 4 [15,16])),(6,[2,4,21]),(7,[2]),(8,(rn 1 4 [15,24])),(9,[1,2,3,4,30]),(10,[2]),(11,[2,3,37]),(12,[2]),(13,(rn 1 4 [15,40])),(14,[1,2,3,4,45]),(15,[2]),(16,[2,3,51]),(17,[2]),(18,(rn 1 4 [15,54])),(19,[2,58]),(20,[2]),(21,(rn 1 4 [15,60])),(22,[1,2,3,4,65]),(23,[2]),(24,[2,4,71]),(25,[2]),(26,[1,2,74]),(27,[2]),(28,[2])])]
noncomputable def B32:Base:=baseOf Pz (fun f i=>lkC f i K32) [(19,G19),(72,G72),(73,G73),(74,G74),(75,G75),(76,G76)] [] []
theorem hB32:BOk B32:=base_ok named_z ⟨s19,s72,s73,s74,s75,s76,trivial⟩ trivial trivial
noncomputable def N32 (a:Pos):(Int×Int):=(bif !N19 a then ⟨(0),(0)⟩ else (bif a.variant==3 then (bif decide (N72 a a.turn < 0) then ⟨((N73 (wr .u8 (1 - a.turn)) 6).fst),((N73 (wr .u8 (1 - a.turn)) 6).snd)⟩ else ⟨(0),(0)⟩) else (bif a.variant==5 then (bif decide (a.checks.getD (scale 1 (wr .u8 (1 - a.turn))).toNat 0 ≥ 3) then ⟨((N73 (wr .u8 (1 - a.turn)) 7).fst),((N73 (wr .u8 (1 - a.turn)) 7).snd)⟩ else (bif decide (a.checks.getD (scale 1 a.turn).toNat 0 ≥ 3) then ⟨((N73 a.turn 7).fst),((N73 a.turn 7).snd)⟩ else ⟨(0),(0)⟩)) else (bif a.variant==6 then (bif N74 (N72 a (wr .u8 (1 - a.turn))) then ⟨((N73 (wr .u8 (1 - a.turn)) 6).fst),((N73 (wr .u8 (1 - a.turn)) 6).snd)⟩ else (bif N74 (N72 a a.turn) then ⟨((N73 a.turn 6).fst),((N73 a.turn 6).snd)⟩ else ⟨(0),(0)⟩)) else (bif a.variant==7 then (bif !N75 a 0 then ⟨((N73 1 8).fst),((N73 1 8).snd)⟩ else ⟨(0),(0)⟩) else (bif a.variant==4 then (bif !N75 a a.turn then ⟨((N73 a.turn 8).fst),((N73 a.turn 8).snd)⟩ else (bif !N75 a (wr .u8 (1 - a.turn)) then ⟨((N73 (wr .u8 (1 - a.turn)) 8).fst),((N73 (wr .u8 (1 - a.turn)) 8).snd)⟩ else ⟨(0),(0)⟩)) else (bif a.variant==8 then ⟨((N76 a).fst),((N76 a).snd)⟩ else ⟨(0),(0)⟩)))))))
noncomputable def ok32 (a:Pos):Bool:=(bif !N19 a then true else (bif a.variant==3 then (ok72 (a) (a.turn)&&true) else (bif a.variant==5 then (decide (0≤wr .u8 (1 - a.turn))&&decide (wr .u8 (1 - a.turn) < Int.ofNat 2)&&(bif decide (a.checks.getD (scale 1 (wr .u8 (1 - a.turn))).toNat 0 ≥ 3) then true else (decide (0≤a.turn)&&decide (a.turn < Int.ofNat 2)&&true))) else (bif a.variant==6 then (ok72 (a) (wr .u8 (1 - a.turn))&&(bif N74 (N72 a (wr .u8 (1 - a.turn))) then true else (ok72 (a) (a.turn)&&true))) else (bif a.variant==7 then (ok75 (a) (0)&&true) else (bif a.variant==4 then (ok75 (a) (a.turn)&&(bif !N75 a a.turn then true else (ok75 (a) (wr .u8 (1 - a.turn))&&true))) else (bif a.variant==8 then (ok76 (a)&&true) else true)))))))
theorem P32 (a:Pos) (h:ok32 a=true):PS Pz 32 [Pos.av a] ((dR .u8 .u8).res (N32 a)):=ps_sum (n:=14) hB32 (by kernel_rfl) (by kernel_rfl) (by kernel_rfl) h
noncomputable def G32:List AV→Tr AV:=g1 dPos (fun a=>gdv (ok32 a) ((dR .u8 .u8).res (N32 a)))
theorem s32:Sound Pz 32 G32:=sound1 fun a=>at_gd (P32 a)
noncomputable def K12:List (Nat×Nat×List (Nat×List Nat)):=[(12,11,[(0,[1]),(1,[1,3]),(2,[1,8]),(3,[2]),(4,[2])])]
noncomputable def B12:Base:=baseOf Pz (fun f i=>lkC f i K12) [(32,G32),(33,G33)] [] []
theorem hB12:BOk B12:=base_ok named_z ⟨s32,s33,trivial⟩ trivial trivial
noncomputable def N12 (a:Pos):List Mv:=(bif (N32 a).fst != 0 then ([]) else (N33 a))
noncomputable def ok12 (a:Pos):Bool:=(ok32 (a)&&(bif (N32 a).fst != 0 then true else (ok33 (a)&&true)))
theorem P12 (a:Pos) (h:ok12 a=true):PS Pz 12 [Pos.av a] ((dL .mv).res (N12 a)):=ps_sum (n:=14) hB12 (by kernel_rfl) (by kernel_rfl) (by kernel_rfl) h
noncomputable def G12:List AV→Tr AV:=g1 dPos (fun a=>gdv (ok12 a) ((dL .mv).res (N12 a)))
theorem s12:Sound Pz 12 G12:=sound1 fun a=>at_gd (P12 a)
noncomputable def K3:List (Nat×Nat×List (Nat×List Nat)):=[(3,11,[(0,[1,9]),(1,[2])])]
noncomputable def B3:Base:=baseOf Pz (fun f i=>lkC f i K3) [(10,G10),(11,G11),(12,G12),(13,G13)] [] []
theorem hB3:BOk B3:=base_ok named_z ⟨s10,s11,s12,s13,trivial⟩ trivial trivial
noncomputable def N3 (a:Pos):Bool:=(bif N10 (N11 a) (N12 a) then (N13) else (false))
noncomputable def ok3 (a:Pos):Bool:=(ok11 (a)&&(ok12 (a)&&(ok10 (N11 a) (N12 a)&&(bif N10 (N11 a) (N12 a) then (ok13 &&true) else true))))
theorem P3 (a:Pos) (h:ok3 a=true):PS Pz 3 [Pos.av a] (dB.res (N3 a)):=ps_sum (n:=14) hB3 (by kernel_rfl) (by kernel_rfl) (by kernel_rfl) h
noncomputable def G3:List AV→Tr AV:=g1 dPos (fun a=>gdv (ok3 a) (dB.res (N3 a)))
theorem s3:Sound Pz 3 G3:=sound1 fun a=>at_gd (P3 a)
end Kz
end
section
namespace Kz
open Go Go.RowKit
set_option maxRecDepth 100000
set_option maxHeartbeats 4000000
set_option linter.unusedSectionVars false
theorem win_eq {c w:Int} (hc:c=0∨c=1):N73 c w=N166 c w:=by
  rcases hc with rfl | rfl <;> rfl
theorem hill_fin:∀ s:Fin 64,(ibits BinOp.and .i64 (Int.fdiv 103481868288 (2 ^ min (BitVec.ofInt 64 (s.val:Int)).toNat 64)) 1==1)=N74 s.val:=by decide +kernel
theorem hill_eq {s:Int} (h0 : -1≤s) (h1:s < 64):(bif decide (s ≥ 0) then (ibits BinOp.and .i64 (Int.fdiv 103481868288 (2 ^ min (BitVec.ofInt 64 s).toNat 64)) 1==1) else false)=N74 s:=by
  by_cases h:s ≥ 0
  · obtain ⟨n,rfl⟩:=Int.eq_ofNat_of_zero_le h
    rw [decide_eq_true h]
    exact hill_fin ⟨n,by omega⟩
  · have:s = -1:=by omega
    subst this
    rfl
section
variable {p:Pos} (hp:PosIn p)
include hp
theorem lp75 {c:Int} (hc:c=0∨c=1) (ht:p.turn=0∨p.turn=1):∃ r,lp75_1 c p 0=some r∧isL r=(N101 p c 0 != 0#64):=by
  refine lp_many (Q:=fun r:Unit ⊕ (Int×Bool)=>isL r=(N101 p c 0 != 0#64)) (I:=fun x:Int => ∃ n:Nat,n≤64∧x=(n:Int)∧∀ s,s < n→(N101 p c 0).getLsbD s=false) (μ:=fun x=>(64 - x).toNat) ?_ _ ⟨0,by omega,rfl,fun s hs=>by omega⟩ (by simp)
  rintro x ⟨n,hn,rfl,h⟩
  unfold okL75_1 st75_1
  rw [show (⟨p.variant,p.board,p.promoted,p.pockets,p.turn,p.rooks,p.passing,p.checks,p.half,p.full⟩:Pos)=p from rfl]
  by_cases h64:n < 64
  · have hb:=N132_bit hp ht hc h64
    have ho:=t132 hp ht h64 c
    rw [hb,ho,decide_eq_true (show (n:Int) < 64 by omega),wi64 (n:=(n:Int)+1) (by omega) (by omega)]
    cases hx:(N101 p c 0).getLsbD n with
    | true =>
      refine ⟨rfl,?_⟩
      show true=_
      symm
      rw [bne_iff_ne]
      intro e
      rw [e] at hx
      simp at hx
    | false =>
      exact ⟨rfl,⟨n+1,by omega,by simp,fun s hs=>by
        by_cases e:s=n
        · rw [e]; exact hx
        · exact h s (by omega)⟩,by dsimp only; omega⟩
  · have:n=64:=by omega
    subst this
    refine ⟨rfl,?_⟩
    show false=_
    symm
    rw [bne_eq_false_iff_eq]
    exact BitVec.eq_of_getLsbD_eq fun i hi=>by rw [h i hi]; simp
theorem N75_eq {c:Int} (hc:c=0∨c=1) (ht:p.turn=0∨p.turn=1):ok75 p c=true∧N75 p c=(N101 p c 0 != 0#64):=by
  obtain ⟨h1,h2⟩:=of_some (lp75 hp hc ht)
  unfold ok75 N75
  rw [show (⟨p.variant,p.board,p.promoted,p.pockets,p.turn,p.rooks,p.passing,p.checks,p.half,p.full⟩:Pos)=p from rfl,h1,h2]
  cases N101 p c 0 != 0#64 <;> exact ⟨rfl,rfl⟩
def raceB (k:Int) (l:List Mv):Bool:=l.any fun m=>wr .i64 m.frm==k&&decide (m.to ≥ 56)
omit hp in
theorem any_take {α:Type} (f:α→Bool) (d:α):∀ (l:List α) (n:Nat),n < l.length→(l.take (n+1)).any f=((l.take n).any f || f (l.getD n d)):=fun l n h=>by
  rw [List.take_add_one,List.getD_eq_getElem?_getD,List.getElem?_eq_getElem h,List.any_append]
  simp
theorem lp76 (ht:p.turn=1) (l:List Mv) (hl:l.length≤1000000):∃ r,lp76_1 l p 0=some r∧isL r=raceB (N99 p 1 6) l:=by
  obtain ⟨o1,e1⟩:=N72_eq hp (c:=1) (by omega)
  refine lp_many (Q:=fun r:Unit ⊕ (Int×Bool)=>isL r=raceB (N99 p 1 6) l) (I:=fun x:Int => ∃ n:Nat,n≤l.length∧x=(n:Int)∧raceB (N99 p 1 6) (l.take n)=false) (μ:=fun x=>(l.length - x).toNat) ?_ _ ⟨0,by omega,rfl,rfl⟩ (by simp; omega)
  rintro x ⟨n,hn,rfl,h⟩
  unfold okL76_1 st76_1
  by_cases hc:n < l.length
  · have ha:=any_take (fun m:Mv=>wr .i64 m.frm==N99 p 1 6&&decide (m.to ≥ 56)) default l n hc
    rw [decide_eq_true (show (n:Int) < Int.ofNat l.length from Int.ofNat_lt.2 hc),decide_eq_true (show (0:Int)≤n by omega),Int.toNat_natCast,wi64 (n:=(n:Int)+1) (by omega) (by omega),o1,e1,ht]
    have h55:decide ((l.getD n default).to > 55)=decide ((l.getD n default).to ≥ 56):=by rw [decide_eq_decide]; omega
    rw [h55]
    unfold raceB at h ⊢
    rw [h,Bool.false_or] at ha
    cases hx:wr .i64 (l.getD n default).frm==N99 p 1 6 with
    | false=>rw [hx] at ha; exact ⟨rfl,⟨n+1,by omega,by simp,ha⟩,by dsimp only; omega⟩
    | true =>
      rw [hx] at ha
      cases hy:decide ((l.getD n default).to ≥ 56) with
      | false=>rw [hy] at ha; exact ⟨rfl,⟨n+1,by omega,by simp,ha⟩,by dsimp only; omega⟩
      | true =>
        refine ⟨rfl,?_⟩
        show true=_
        symm
        rw [List.any_eq_true]
        exact ⟨_,getD_mem hc,by rw [hx,hy]; rfl⟩
  · rw [decide_eq_false (show ¬ ((n:Int) < Int.ofNat l.length) from fun h=>hc (Int.ofNat_lt.1 h))]
    refine ⟨rfl,?_⟩
    rw [List.take_of_length_le (by omega)] at h
    exact h.symm
omit hp in
theorem lp128r (l:List Mv) (hl:l.length≤1000000) (q:Pos) (k:Int):∃ r,lp128_1 l (Int.ofNat l.length) q k 0=some r∧isL r=raceB k l∧0≤gl r:=by
  refine lp_many (Q:=fun r:Int ⊕ (Int×Bool)=>isL r=raceB k l∧0≤gl r) (I:=fun x:Int => ∃ n:Nat,n≤l.length∧x=(n:Int)∧raceB k (l.take n)=false) (μ:=fun x=>(l.length - x).toNat) ?_ _ ⟨0,by omega,rfl,rfl⟩ (by simp; omega)
  rintro x ⟨n,hn,rfl,h⟩
  unfold okL128_1 st128_1
  by_cases hc:n < l.length
  · have ha:=any_take (fun m:Mv=>wr .i64 m.frm==k&&decide (m.to ≥ 56)) default l n hc
    rw [decide_eq_true (show (n:Int) < Int.ofNat l.length from Int.ofNat_lt.2 hc),decide_eq_true (show (0:Int)≤n by omega),Int.toNat_natCast,wi64 (n:=(n:Int)+1) (by omega) (by omega)]
    unfold raceB at h ⊢
    rw [h,Bool.false_or] at ha
    cases hx:wr .i64 (l.getD n default).frm==k with
    | false=>rw [hx] at ha; exact ⟨rfl,⟨n+1,by omega,by simp,ha⟩,by dsimp only; omega⟩
    | true =>
      rw [hx] at ha
      cases hy:decide ((l.getD n default).to ≥ 56) with
      | false=>rw [hy] at ha; exact ⟨rfl,⟨n+1,by omega,by simp,ha⟩,by dsimp only; omega⟩
      | true =>
        refine ⟨rfl,?_,by show (0:Int)≤n; omega⟩
        show true=_
        symm
        rw [List.any_eq_true]
        exact ⟨_,getD_mem hc,by rw [hx,hy]; rfl⟩
  · rw [decide_eq_false (show ¬ ((n:Int) < Int.ofNat l.length) from fun h=>hc (Int.ofNat_lt.1 h))]
    rw [List.take_of_length_le (by omega)] at h
    exact ⟨rfl,h.symm,by show (0:Int)≤default; decide⟩
theorem N76_eq (hth:there p):ok76 p=true∧N76 p=N128 p:=by
  obtain ⟨t,hpt,ht⟩:=turn_nat hp hth.1
  obtain ⟨o0,e0⟩:=N72_eq hp (c:=0) (by omega)
  obtain ⟨o1,e1⟩:=N72_eq hp (c:=1) (by omega)
  obtain ⟨o33,e33⟩:=N33_eq hp hth
  have hl:(N31 p).length≤1000000:=Nat.le_trans (N31_len hp) (by omega)
  obtain ⟨c1,c2,c3⟩:=of_some (lp128r (N31 p) hl p (N99 p 1 6))
  have g55:∀ x:Int,decide (x > 55)=decide (x ≥ 56):=fun x=>by rw [decide_eq_decide]; omega
  have w0:N73 0 6=N166 0 6:=rfl
  have w1:N73 1 6=N166 1 6:=rfl
  unfold ok76 N76 N128
  rw [o0,o1,e0,e1,o33,e33,w0,w1,c2,g55,g55,decide_eq_true c3]
  rcases (show p.turn=0∨p.turn=1 by omega) with h | h
  ·
    have hs:∃ r,lp76_1 (N31 p) p 0=some r∧isL r=false:=by
      refine lp_many (Q:=fun r:Unit ⊕ (Int×Bool)=>isL r=false) (I:=fun x:Int=>x=0) (μ:=fun x=>(N31 p).length) ?_ _ rfl (by omega)
      rintro x rfl
      unfold okL76_1 st76_1
      rw [h]
      cases decide ((0:Int) < Int.ofNat (N31 p).length) <;> exact ⟨rfl,rfl⟩
    obtain ⟨d1,d2⟩:=of_some hs
    rw [d1,d2,h]
    cases decide (N99 p 0 6 ≥ 56) <;> cases decide (N99 p 1 6 ≥ 56) <;> exact ⟨rfl,rfl⟩
  · obtain ⟨d1,d2⟩:=of_some (lp76 hp h (N31 p) hl)
    rw [d1,d2,h]
    cases decide (N99 p 0 6 ≥ 56) <;> cases decide (N99 p 1 6 ≥ 56) <;> cases raceB (N99 p 1 6) (N31 p) <;> exact ⟨rfl,rfl⟩
end
theorem N19_not {p:Pos} (h:¬ there p):N19 p=false:=by
  unfold N19
  by_cases h1:p.variant < 9
  · rw [decide_eq_true h1,decide_eq_false (show ¬ p.turn < 2 from fun h2=>h ⟨by omega,h1⟩)]; rfl
  · rw [decide_eq_false h1]; rfl
theorem bn {x:BitVec 64}:(!(x != 0#64))=(x==0#64):=by unfold bne; rw [Bool.not_not]
section
variable {p:Pos} (hp:PosIn p)
include hp
theorem N32_eq:ok32 p=true∧N32 p=N30 p:=by
  by_cases hth:there p
  · obtain ⟨t,hpt,ht⟩:=turn_nat hp hth.1
    have v0:=hp.v0
    have v9:=hth.2
    have hc:p.turn=0∨p.turn=1:=by omega
    have hc':wr .u8 (1 - p.turn)=0∨wr .u8 (1 - p.turn)=1:=by rw [hpt,wu8 (by omega) (by omega)]; omega
    obtain ⟨o1,e1⟩:=N72_eq hp hc
    obtain ⟨o2,e2⟩:=N72_eq hp hc'
    obtain ⟨a0,b0⟩:=N75_eq hp (c:=0) (by omega) hc
    obtain ⟨a1,b1⟩:=N75_eq hp hc hc
    obtain ⟨a2,b2⟩:=N75_eq hp hc' hc
    obtain ⟨a3,b3⟩:=N76_eq hp hth
    have k1:=hill_eq (N99_lo p p.turn 6).1 (N99_lo p p.turn 6).2
    have k2:=hill_eq (N99_lo p (wr .u8 (1 - p.turn)) 6).1 (N99_lo p (wr .u8 (1 - p.turn)) 6).2
    have i1:(decide (0≤p.turn)&&decide (p.turn < Int.ofNat 2))=true:=by simp; omega
    have i2:(decide (0≤wr .u8 (1 - p.turn))&&decide (wr .u8 (1 - p.turn) < Int.ofNat 2))=true:=by simp; omega
    have d9:decide (p.variant ≥ 9)=false:=decide_eq_false (by omega)
    have d1:decide (p.turn > 1)=false:=decide_eq_false (by omega)
    have f1:∀ w,N73 p.turn w=N166 p.turn w:=fun w=>win_eq hc
    have f2:∀ w,N73 (wr .u8 (1 - p.turn)) w=N166 (wr .u8 (1 - p.turn)) w:=fun w=>win_eq hc'
    have f3:N73 1 8=N166 1 8:=rfl
    unfold ok32 N32 N30
    rw [N19_there hth,o1,o2,a0,a1,a2,a3,b0,b1,b2,b3,d9,d1,i1,i2,e1,e2]
    simp only [f1,f2,f3,← k1,← k2,bn,lt_ge]
    rcases (show p.variant=0∨p.variant=1∨p.variant=2∨p.variant=3∨p.variant=4∨p.variant=5∨p.variant=6∨p.variant=7∨p.variant=8 by omega) with h | h | h | h | h | h | h | h | h <;> rw [h]
    · exact ⟨rfl,rfl⟩
    · exact ⟨rfl,rfl⟩
    · exact ⟨rfl,rfl⟩
    · refine ⟨rfl,?_⟩
      unfold N123 N62
      cases decide (N99 p p.turn 6 ≥ 0) <;> rfl
    · refine ⟨by cases N101 p p.turn 0==0#64 <;> rfl,?_⟩
      unfold N127
      rw [show (⟨p.variant,p.board,p.promoted,p.pockets,p.turn,p.rooks,p.passing,p.checks,p.half,p.full⟩:Pos)=p from rfl]
      cases N101 p p.turn 0==0#64 <;> cases N101 p (wr .u8 (1 - p.turn)) 0==0#64 <;> rfl
    · refine ⟨by cases decide (p.checks.getD (scale 1 (wr .u8 (1 - p.turn))).toNat 0 ≥ 3) <;> rfl,?_⟩
      unfold N124
      cases decide (p.checks.getD (scale 1 (wr .u8 (1 - p.turn))).toNat 0 ≥ 3) <;> cases decide (p.checks.getD (scale 1 p.turn).toNat 0 ≥ 3) <;> rfl
    · unfold N125
      generalize (ibits BinOp.and .i64 (Int.fdiv 103481868288 (2 ^ min (BitVec.ofInt 64 (N99 p p.turn 6)).toNat 64)) 1==1)=x1
      generalize (ibits BinOp.and .i64 (Int.fdiv 103481868288 (2 ^ min (BitVec.ofInt 64 (N99 p (wr .u8 (1 - p.turn)) 6)).toNat 64)) 1==1)=x2
      cases decide (N99 p p.turn 6 ≥ 0) <;> cases decide (N99 p (wr .u8 (1 - p.turn)) 6 ≥ 0) <;> cases x1 <;> cases x2 <;> exact ⟨rfl,rfl⟩
    · refine ⟨rfl,?_⟩
      unfold N126
      rw [show (⟨p.variant,p.board,p.promoted,p.pockets,p.turn,p.rooks,p.passing,p.checks,p.half,p.full⟩:Pos)=p from rfl]
      cases N101 p 0 0==0#64 <;> rfl
    · exact ⟨rfl,rfl⟩
  · have h19:=N19_not hth
    unfold ok32 N32 N30
    rw [h19]
    refine ⟨rfl,?_⟩
    by_cases h9:p.variant ≥ 9
    · rw [decide_eq_true h9]; rfl
    · rw [decide_eq_false h9,decide_eq_true (show p.turn > 1 by unfold there at hth; omega)]; rfl
theorem N12_eq:ok12 p=true∧N12 p=N11 p:=by
  obtain ⟨a1,a2⟩:=N32_eq hp
  unfold ok12 N12
  rw [a1,a2,N11_eq hp]
  by_cases hth:there p
  · obtain ⟨b1,b2⟩:=N33_eq hp hth
    rw [b1,b2]
    cases (N30 p).1 != 0 <;> exact ⟨rfl,rfl⟩
  · have h33:ok33 p=true∧N33 p=[]:=by
      unfold ok33 N33
      rw [N19_not hth]
      exact ⟨rfl,rfl⟩
    have h38:N38 p=[]:=by
      have h0:∀ m,m ∉ N38 p:=fun m hm=>hth (N38_mem hp hm).1
      cases h:N38 p with
      | nil=>rfl
      | cons a l=>exact absurd (by rw [h]; simp) (h0 a)
    have h31:N31 p=[]:=by
      have h0:∀ m,m ∉ N31 p:=fun m hm=>by
        have:=(N31_sub hp hm).1
        rw [h38] at this
        cases this
      cases h:N31 p with
      | nil=>rfl
      | cons a l=>exact absurd (by rw [h]; simp) (h0 a)
    rw [h33.1,h33.2,h31]
    cases (N30 p).1 != 0 <;> exact ⟨rfl,rfl⟩
omit hp in
theorem same_self (l:List Mv) (hl:l.length≤1000000):ok10 l l=true∧N10 l l=true:=by
  have h:∃ r,lp10_1 l l 0=some r∧isL r=false:=by
    refine lp_many (Q:=fun r:Unit ⊕ (Int×Bool)=>isL r=false) (I:=fun x:Int => ∃ n:Nat,n≤l.length∧x=(n:Int)) (μ:=fun x=>(l.length - x).toNat) ?_ _ ⟨0,by omega,rfl⟩ (by simp; omega)
    rintro x ⟨n,hn,rfl⟩
    unfold okL10_1 st10_1
    by_cases hc:n < l.length
    · rw [decide_eq_true (show (n:Int) < Int.ofNat l.length from Int.ofNat_lt.2 hc),decide_eq_true (show (0:Int)≤n by omega),Int.toNat_natCast,wi64 (n:=(n:Int)+1) (by omega) (by omega),mv_eq_iff,decide_eq_true rfl]
      exact ⟨rfl,⟨n+1,by omega,by simp⟩,by dsimp only; omega⟩
    · rw [decide_eq_false (show ¬ ((n:Int) < Int.ofNat l.length) from fun h=>hc (Int.ofNat_lt.1 h))]
      exact ⟨rfl,rfl⟩
  obtain ⟨h1,h2⟩:=of_some h
  unfold ok10 N10
  rw [h1,h2,bne_self_eq_false]
  exact ⟨rfl,rfl⟩
theorem N3_true:ok3 p=true∧N3 p=true:=by
  obtain ⟨a1,a2⟩:=N12_eq hp
  have hl:(N11 p).length≤1000000:=Nat.le_trans (N11_len hp) (by omega)
  obtain ⟨b1,b2⟩:=same_self (N11 p) hl
  unfold ok3 N3
  rw [t11 hp,a1,a2,b1,b2,ok13_true,N13_true]
  exact ⟨rfl,rfl⟩
end
end Kz
end
section
namespace Kz
open Go Go.RowKit Go.Proofs
set_option maxRecDepth 100000
set_option maxHeartbeats 4000000
noncomputable def K175:List (Nat×Nat×List (Nat×List Nat)):=[(175,35,[(0,[0]),(1,[0]),(2,[0]),(3,[0]),(4,[0]),(5,[0]),(6,[0]),(7,[2])])]
noncomputable def B175:Base:=baseOf Pz (fun f i=>lkC f i K175) [] [] []
theorem hB175:BOk B175:=base_ok named_z trivial trivial trivial
noncomputable def N175 (a:BitVec 64):Int:=(ibits BinOp.and .i64 (wr .i64 ↑((((((a >>> 1&&&6148914691236517205#64)+(a&&&6148914691236517205#64)) >>> 2&&&3689348814741910323#64)+((a >>> 1&&&6148914691236517205#64)+(a&&&6148914691236517205#64)&&&3689348814741910323#64)) >>> 4+((((a >>> 1&&&6148914691236517205#64)+(a&&&6148914691236517205#64)) >>> 2&&&3689348814741910323#64)+((a >>> 1&&&6148914691236517205#64)+(a&&&6148914691236517205#64)&&&3689348814741910323#64))&&&1085102592571150095#64)+(((((a >>> 1&&&6148914691236517205#64)+(a&&&6148914691236517205#64)) >>> 2&&&3689348814741910323#64)+((a >>> 1&&&6148914691236517205#64)+(a&&&6148914691236517205#64)&&&3689348814741910323#64)) >>> 4+((((a >>> 1&&&6148914691236517205#64)+(a&&&6148914691236517205#64)) >>> 2&&&3689348814741910323#64)+((a >>> 1&&&6148914691236517205#64)+(a&&&6148914691236517205#64)&&&3689348814741910323#64))&&&1085102592571150095#64) >>> 8+((((((a >>> 1&&&6148914691236517205#64)+(a&&&6148914691236517205#64)) >>> 2&&&3689348814741910323#64)+((a >>> 1&&&6148914691236517205#64)+(a&&&6148914691236517205#64)&&&3689348814741910323#64)) >>> 4+((((a >>> 1&&&6148914691236517205#64)+(a&&&6148914691236517205#64)) >>> 2&&&3689348814741910323#64)+((a >>> 1&&&6148914691236517205#64)+(a&&&6148914691236517205#64)&&&3689348814741910323#64))&&&1085102592571150095#64)+(((((a >>> 1&&&6148914691236517205#64)+(a&&&6148914691236517205#64)) >>> 2&&&3689348814741910323#64)+((a >>> 1&&&6148914691236517205#64)+(a&&&6148914691236517205#64)&&&3689348814741910323#64)) >>> 4+((((a >>> 1&&&6148914691236517205#64)+(a&&&6148914691236517205#64)) >>> 2&&&3689348814741910323#64)+((a >>> 1&&&6148914691236517205#64)+(a&&&6148914691236517205#64)&&&3689348814741910323#64))&&&1085102592571150095#64) >>> 8) >>> 16+((((((a >>> 1&&&6148914691236517205#64)+(a&&&6148914691236517205#64)) >>> 2&&&3689348814741910323#64)+((a >>> 1&&&6148914691236517205#64)+(a&&&6148914691236517205#64)&&&3689348814741910323#64)) >>> 4+((((a >>> 1&&&6148914691236517205#64)+(a&&&6148914691236517205#64)) >>> 2&&&3689348814741910323#64)+((a >>> 1&&&6148914691236517205#64)+(a&&&6148914691236517205#64)&&&3689348814741910323#64))&&&1085102592571150095#64)+(((((a >>> 1&&&6148914691236517205#64)+(a&&&6148914691236517205#64)) >>> 2&&&3689348814741910323#64)+((a >>> 1&&&6148914691236517205#64)+(a&&&6148914691236517205#64)&&&3689348814741910323#64)) >>> 4+((((a >>> 1&&&6148914691236517205#64)+(a&&&6148914691236517205#64)) >>> 2&&&3689348814741910323#64)+((a >>> 1&&&6148914691236517205#64)+(a&&&6148914691236517205#64)&&&3689348814741910323#64))&&&1085102592571150095#64) >>> 8+((((((a >>> 1&&&6148914691236517205#64)+(a&&&6148914691236517205#64)) >>> 2&&&3689348814741910323#64)+((a >>> 1&&&6148914691236517205#64)+(a&&&6148914691236517205#64)&&&3689348814741910323#64)) >>> 4+((((a >>> 1&&&6148914691236517205#64)+(a&&&6148914691236517205#64)) >>> 2&&&3689348814741910323#64)+((a >>> 1&&&6148914691236517205#64)+(a&&&6148914691236517205#64)&&&3689348814741910323#64))&&&1085102592571150095#64)+(((((a >>> 1&&&6148914691236517205#64)+(a&&&6148914691236517205#64)) >>> 2&&&3689348814741910323#64)+((a >>> 1&&&6148914691236517205#64)+(a&&&6148914691236517205#64)&&&3689348814741910323#64)) >>> 4+((((a >>> 1&&&6148914691236517205#64)+(a&&&6148914691236517205#64)) >>> 2&&&3689348814741910323#64)+((a >>> 1&&&6148914691236517205#64)+(a&&&6148914691236517205#64)&&&3689348814741910323#64))&&&1085102592571150095#64) >>> 8) >>> 16) >>> 32).toNat) 127)
noncomputable def ok175 (a:BitVec 64):Bool:=true
theorem P175 (a:BitVec 64) (h:ok175 a=true):PS Pz 175 [.u64 a] ((dI .i64).res (N175 a)):=ps_sum (n:=14) hB175 (by kernel_rfl) (by kernel_rfl) (by kernel_rfl) h
noncomputable def G175:List AV→Tr AV:=g1 dU (fun a=>.ret ((dI .i64).res (N175 a)))
theorem s175:Sound Pz 175 G175:=sound1 fun a=>at_rt (P175 a rfl)
end Kz
end
section
namespace Kz
open Go Go.RowKit
set_option maxRecDepth 100000
set_option maxHeartbeats 200000
def dV (B:Nat):List Nat→Nat
  | []=>0
  | a::l=>a+B * dV B l
def dM (B:Nat) (n:Nat):Nat:=dV (B * B) (List.replicate n (B - 1))
theorem tb_add {w a x:Nat} (ha:a < 2 ^ w) (j:Nat):(a+2 ^ w * x).testBit j=if j < w then a.testBit j else x.testBit (j - w):=by
  rw [Nat.add_comm]
  exact Nat.testBit_two_pow_mul_add x ha j
theorem and_lo {w a m x y:Nat} (ha:a < 2 ^ w) (hm:m < 2 ^ w):(a+2 ^ w * x)&&&(m+2 ^ w * y)=(a&&&m)+2 ^ w * (x&&&y):=by
  apply Nat.eq_of_testBit_eq
  intro j
  have h:a&&&m < 2 ^ w:=Nat.lt_of_le_of_lt Nat.and_le_left ha
  rw [Nat.testBit_and,tb_add ha,tb_add hm,tb_add h]
  split <;> rw [Nat.testBit_and]
theorem and_ones {w a:Nat} (ha:a < 2 ^ w) (x:Nat):(a+2 ^ w * x)&&&(2 ^ w - 1)=a:=by
  rw [Nat.and_two_pow_sub_one_eq_mod,Nat.add_mul_mod_self_left,Nat.mod_eq_of_lt ha]
theorem step_lo {w:Nat}:∀ (n:Nat) (ps:List (Nat×Nat)),ps.length=n→(∀ q ∈ ps,q.1 < 2 ^ w∧q.2 < 2 ^ w) →
    (dV (2 ^ w * 2 ^ w) (ps.map fun q=>q.1+2 ^ w * q.2)&&&dM (2 ^ w) n)=dV (2 ^ w * 2 ^ w) (ps.map (·.1))
  | 0,ps,h,_=>by
    obtain rfl:=List.length_eq_zero_iff.1 h
    simp [dV]
  | n+1,[],h,_=>by cases h
  | n+1,q::ps,h,hq=>by
    obtain ⟨h1,h2⟩:=hq q (by simp)
    have ih:=step_lo n ps (by simpa using h) fun q hm=>hq q (by simp [hm])
    have hb:q.1+2 ^ w * q.2 < 2 ^ (w+w):=by
      rw [Nat.pow_add]
      have:2 ^ w * q.2≤2 ^ w * (2 ^ w - 1):=Nat.mul_le_mul_left _ (by omega)
      rw [Nat.mul_sub_one] at this
      have:=Nat.le_mul_self (2 ^ w)
      omega
    have hm:2 ^ w - 1 < 2 ^ (w+w):=by
      have:=Nat.pow_le_pow_right (n:=2) (by omega) (show w≤w+w by omega)
      have:=Nat.two_pow_pos w
      omega
    simp only [List.map_cons,dM,List.replicate_succ,dV] at ih ⊢
    rw [← Nat.pow_add] at ih ⊢
    rw [and_lo hb hm,ih,and_ones h1]
theorem step_hi {w:Nat}:∀ (n:Nat) (ps:List (Nat×Nat)),ps.length=n→(∀ q ∈ ps,q.1 < 2 ^ w∧q.2 < 2 ^ w) →
    (dV (2 ^ w * 2 ^ w) (ps.map fun q=>q.1+2 ^ w * q.2) / 2 ^ w&&&dM (2 ^ w) n)=dV (2 ^ w * 2 ^ w) (ps.map (·.2))
  | 0,ps,h,_=>by
    obtain rfl:=List.length_eq_zero_iff.1 h
    simp [dV]
  | n+1,[],h,_=>by cases h
  | n+1,q::ps,h,hq=>by
    obtain ⟨h1,h2⟩:=hq q (by simp)
    have ih:=step_hi n ps (by simpa using h) fun q hm=>hq q (by simp [hm])
    have hpos:=Nat.two_pow_pos w
    have hm:2 ^ w - 1 < 2 ^ (w+w):=by
      have:=Nat.pow_le_pow_right (n:=2) (by omega) (show w≤w+w by omega)
      omega
    simp only [List.map_cons,dM,List.replicate_succ,dV] at ih ⊢
    generalize dV (2 ^ w * 2 ^ w) (ps.map fun q=>q.1+2 ^ w * q.2)=R at ih ⊢
    have e:(q.1+2 ^ w * q.2+2 ^ w * 2 ^ w * R) / 2 ^ w=(q.2+2 ^ w * (R % 2 ^ w))+2 ^ (w+w) * (R / 2 ^ w):=by
      rw [show q.1+2 ^ w * q.2+2 ^ w * 2 ^ w * R=q.1+2 ^ w * (q.2+2 ^ w * R) by rw [Nat.mul_add,Nat.mul_assoc,Nat.add_assoc],Nat.add_mul_div_left _ _ hpos,Nat.div_eq_of_lt h1,Nat.zero_add,Nat.pow_add,Nat.mul_assoc,Nat.add_assoc,← Nat.mul_add,Nat.mod_add_div]
    have hb:q.2+2 ^ w * (R % 2 ^ w) < 2 ^ (w+w):=by
      rw [Nat.pow_add]
      have hr:=Nat.mod_lt R hpos
      have:2 ^ w * (R % 2 ^ w)≤2 ^ w * (2 ^ w - 1):=Nat.mul_le_mul_left _ (by omega)
      rw [Nat.mul_sub_one] at this
      have:=Nat.le_mul_self (2 ^ w)
      omega
    rw [e]
    rw [← Nat.pow_add] at ih ⊢
    rw [and_lo hb hm,ih,and_ones h2]
theorem dV_add {K:Nat} {α:Type} (f g:α→Nat):∀ l:List α,dV K (l.map f)+dV K (l.map g)=dV K (l.map fun a=>f a+g a)
  | []=>rfl
  | a::l=>by
    simp only [List.map_cons,dV]
    rw [← dV_add f g l,Nat.mul_add]
    omega
def Dig (B n D x t:Nat):Prop := ∃ l:List Nat,l.length=n∧(∀ d ∈ l,d≤D)∧dV B l=x∧l.sum=t
theorem pairs_of:∀ (n:Nat) (l:List Nat),l.length=2 * n→∃ ps:List (Nat×Nat),ps.length=n∧l=ps.flatMap fun q=>[q.1,q.2]
  | 0,l,h=>⟨[],rfl,by simpa using h⟩
  | n+1,[],h=>by simp at h
  | n+1,[a],h=>by simp at h; omega
  | n+1,a::c::l,h=>by
    obtain ⟨ps,h1,rfl⟩:=pairs_of n l (by simp at h; omega)
    exact ⟨(a,c)::ps,by simp [h1],rfl⟩
theorem dV_pairs {B:Nat}:∀ ps:List (Nat×Nat),dV B (ps.flatMap fun q=>[q.1,q.2])=dV (B * B) (ps.map fun q=>q.1+B * q.2)
  | []=>rfl
  | q::ps=>by
    simp only [List.flatMap_cons,List.cons_append,List.nil_append,List.map_cons,dV]
    rw [dV_pairs ps,Nat.mul_add,Nat.mul_assoc,Nat.add_assoc]
theorem sum_pairs:∀ ps:List (Nat×Nat),(ps.flatMap fun q=>[q.1,q.2]).sum=(ps.map fun q=>q.1+q.2).sum
  | []=>rfl
  | q::ps=>by
    simp only [List.flatMap_cons,List.cons_append,List.nil_append,List.map_cons,List.sum_cons]
    rw [sum_pairs ps]; omega
theorem dig_step {w n D x t:Nat} (hD:D < 2 ^ w) (h:Dig (2 ^ w) (2 * n) D x t):Dig (2 ^ w * 2 ^ w) n (2 * D) ((x / 2 ^ w&&&dM (2 ^ w) n)+(x&&&dM (2 ^ w) n)) t:=by
  obtain ⟨l,h1,h2,rfl,rfl⟩:=h
  obtain ⟨ps,h3,rfl⟩:=pairs_of n l h1
  have hb:∀ q ∈ ps,q.1≤D∧q.2≤D:=fun q hq=>⟨h2 _ (List.mem_flatMap.2 ⟨q,hq,by simp⟩),h2 _ (List.mem_flatMap.2 ⟨q,hq,by simp⟩)⟩
  have hq:∀ q ∈ ps,q.1 < 2 ^ w∧q.2 < 2 ^ w:=fun q hm=>by have:=hb q hm; omega
  refine ⟨ps.map fun q=>q.1+q.2,by simp [h3],?_,?_,(sum_pairs ps).symm⟩
  · intro d hd
    obtain ⟨q,hm,rfl⟩:=List.mem_map.1 hd
    have:=hb q hm
    omega
  · rw [dV_pairs,step_lo n ps h3 hq,step_hi n ps h3 hq,Nat.add_comm,dV_add]
theorem step_sum {w D:Nat} (hD:2 * D < 2 ^ w):∀ (n:Nat) (ps:List (Nat×Nat)),ps.length=n→(∀ q ∈ ps,q.1≤D∧q.2≤D) →
    (dV (2 ^ w * 2 ^ w) (ps.map fun q=>q.1+2 ^ w * q.2) / 2 ^ w+dV (2 ^ w * 2 ^ w) (ps.map fun q=>q.1+2 ^ w * q.2)&&&dM (2 ^ w) n)=dV (2 ^ w * 2 ^ w) (ps.map fun q=>q.1+q.2)
  | 0,ps,h,_=>by
    obtain rfl:=List.length_eq_zero_iff.1 h
    simp [dV]
  | n+1,[],h,_=>by cases h
  | n+1,q::ps,h,hq=>by
    obtain ⟨h1,h2⟩:=hq q (by simp)
    have ih:=step_sum hD n ps (by simpa using h) fun q hm=>hq q (by simp [hm])
    have hpos:=Nat.two_pow_pos w
    have hlow:dV (2 ^ w * 2 ^ w) (ps.map fun q=>q.1+2 ^ w * q.2) % 2 ^ w≤D:=by
      cases ps with
      | nil=>simp [dV]
      | cons r rs =>
        have hr:=hq r (by simp)
        simp only [List.map_cons,dV]
        rw [Nat.mul_assoc,Nat.add_assoc,← Nat.mul_add,Nat.add_mul_mod_self_left,Nat.mod_eq_of_lt (by omega)]
        exact hr.1
    have hm:2 ^ w - 1 < 2 ^ (w+w):=by
      have:=Nat.pow_le_pow_right (n:=2) (by omega) (show w≤w+w by omega)
      omega
    simp only [List.map_cons,dM,List.replicate_succ,dV] at ih ⊢
    generalize dV (2 ^ w * 2 ^ w) (ps.map fun q=>q.1+2 ^ w * q.2)=R at ih hlow ⊢
    have e1:(q.1+2 ^ w * q.2+2 ^ w * 2 ^ w * R) / 2 ^ w=q.2+2 ^ w * R:=by
      rw [show q.1+2 ^ w * q.2+2 ^ w * 2 ^ w * R=q.1+2 ^ w * (q.2+2 ^ w * R) by rw [Nat.mul_add,Nat.mul_assoc,Nat.add_assoc],Nat.add_mul_div_left _ _ hpos,Nat.div_eq_of_lt (by omega),Nat.zero_add]
    have e2:q.2+2 ^ w * R+(q.1+2 ^ w * q.2+2 ^ w * 2 ^ w * R)=(q.1+q.2+2 ^ w * (q.2+R % 2 ^ w))+2 ^ (w+w) * (R / 2 ^ w+R):=by
      have hR:=Nat.mod_add_div R (2 ^ w)
      rw [Nat.pow_add]
      have:2 ^ w * R=2 ^ w * (R % 2 ^ w)+2 ^ w * 2 ^ w * (R / 2 ^ w):=by
        rw [Nat.mul_assoc,← Nat.mul_add,hR]
      rw [Nat.mul_add,Nat.mul_add]
      omega
    have hb:q.1+q.2+2 ^ w * (q.2+R % 2 ^ w) < 2 ^ (w+w):=by
      rw [Nat.pow_add]
      have:2 ^ w * (q.2+R % 2 ^ w)≤2 ^ w * (2 ^ w - 1):=Nat.mul_le_mul_left _ (by omega)
      rw [Nat.mul_sub_one] at this
      have:=Nat.le_mul_self (2 ^ w)
      omega
    rw [e1,e2]
    rw [← Nat.pow_add] at ih ⊢
    rw [and_lo hb hm,ih,and_ones (by omega)]
theorem dig_sum {w n D x t:Nat} (hD:2 * D < 2 ^ w) (h:Dig (2 ^ w) (2 * n) D x t):Dig (2 ^ w * 2 ^ w) n (2 * D) (x / 2 ^ w+x&&&dM (2 ^ w) n) t:=by
  obtain ⟨l,h1,h2,rfl,rfl⟩:=h
  obtain ⟨ps,h3,rfl⟩:=pairs_of n l h1
  have hb:∀ q ∈ ps,q.1≤D∧q.2≤D:=fun q hq=>⟨h2 _ (List.mem_flatMap.2 ⟨q,hq,by simp⟩),h2 _ (List.mem_flatMap.2 ⟨q,hq,by simp⟩)⟩
  refine ⟨ps.map fun q=>q.1+q.2,by simp [h3],?_,?_,(sum_pairs ps).symm⟩
  · intro d hd
    obtain ⟨q,hm,rfl⟩:=List.mem_map.1 hd
    have:=hb q hm
    omega
  · rw [dV_pairs,step_sum hD n ps h3 hb]
theorem dV_lt {K:Nat}:∀ l:List Nat,(∀ d ∈ l,d < K)→dV K l < K ^ l.length
  | [],_=>by simp [dV]
  | a::l,h=>by
    have ih:=dV_lt l fun d hd=>h d (by simp [hd])
    have ha:=h a (by simp)
    simp only [dV,List.length_cons,Nat.pow_succ]
    have:K * dV K l≤K * (K ^ l.length - 1):=Nat.mul_le_mul_left _ (by omega)
    rw [Nat.mul_sub_one] at this
    rw [Nat.mul_comm (K ^ l.length)]
    have hk:K≤K * K ^ l.length:=Nat.le_mul_of_pos_right _ (Nat.pow_pos (by omega))
    omega
theorem Dig.lt {B n D x t:Nat} (h:Dig B n D x t) (hD:D < B):x < B ^ n:=by
  obtain ⟨l,rfl,h2,rfl,_⟩:=h
  exact dV_lt l fun d hd=>by have:=h2 d hd; omega
def bitsF (x:BitVec 64):Nat→Nat→List Nat
  | _,0=>[]
  | i,n+1=>(x.getLsbD i).toNat::bitsF x (i+1) n
def ones (x:BitVec 64):Nat:=(bitsF x 0 64).sum
theorem bitsF_len (x:BitVec 64):∀ n i,(bitsF x i n).length=n
  | 0,_=>rfl
  | n+1,i=>by simp [bitsF,bitsF_len x n]
theorem bitsF_le (x:BitVec 64):∀ n i,∀ d ∈ bitsF x i n,d≤1
  | 0,_,_,h=>by cases h
  | n+1,i,d,h=>by
    simp only [bitsF,List.mem_cons] at h
    rcases h with rfl | h
    · cases x.getLsbD i <;> simp
    · exact bitsF_le x n _ d h
theorem bitsF_val (x:BitVec 64):∀ n i,dV 2 (bitsF x i n)=x.toNat / 2 ^ i % 2 ^ n
  | 0,_=>by simp [bitsF,dV,Nat.mod_one]
  | n+1,i=>by
    simp only [bitsF,dV]
    rw [bitsF_val x n (i+1),show (2:Nat) ^ (n+1)=2 * 2 ^ n from Nat.pow_succ',Nat.mod_mul,Nat.div_div_eq_div_mul,← Nat.pow_succ]
    congr 1
    rw [BitVec.getLsbD,Nat.testBit_eq_decide_div_mod_eq]
    have:=Nat.mod_two_eq_zero_or_one (x.toNat / 2 ^ i)
    rcases this with h | h <;> rw [h] <;> rfl
theorem pc_dig (x:BitVec 64):Dig (2 ^ 1) (2 * 32) 1 x.toNat (ones x):=by
  refine ⟨bitsF x 0 64,bitsF_len x 64 0,bitsF_le x 64 0,?_,rfl⟩
  have:=bitsF_val x 64 0
  rw [show (2:Nat) ^ 1=2 from rfl,this,Nat.pow_zero,Nat.div_one,Nat.mod_eq_of_lt x.isLt]
theorem N175_let (a:BitVec 64):N175 a =
    let s1:=(a >>> 1&&&6148914691236517205#64)+(a&&&6148914691236517205#64)
    let s2:=(s1 >>> 2&&&3689348814741910323#64)+(s1&&&3689348814741910323#64)
    let s3:=s2 >>> 4+s2&&&1085102592571150095#64
    let s4:=s3+s3 >>> 8
    let s5:=s4+s4 >>> 16
    let s6:=s5+s5 >>> 32
    ibits BinOp.and IntKind.i64 (wr IntKind.i64 ↑s6.toNat) 127:=by kernel_rfl
theorem divK {r q K:Nat} (h:r < K):(r+K * q) / K=q:=by
  rw [Nat.add_mul_div_left _ _ (by omega),Nat.div_eq_of_lt h,Nat.zero_add]
theorem e8a (a b c d e f g i:Nat):a+256 * b+65536 * c+16777216 * d+4294967296 * e+1099511627776 * f+281474976710656 * g+72057594037927936 * i=a+256 * (b+256 * c+65536 * d+16777216 * e+4294967296 * f+1099511627776 * g+281474976710656 * i):=by omega
theorem e8b (a b c d e f g i:Nat):a+256 * b+65536 * c+16777216 * d+4294967296 * e+1099511627776 * f+281474976710656 * g+72057594037927936 * i+(b+256 * c+65536 * d+16777216 * e+4294967296 * f+1099511627776 * g+281474976710656 * i)=((a+b)+256 * (b+c))+65536 * ((c+d)+256 * (d+e)+65536 * (e+f)+16777216 * (f+g)+4294967296 * (g+i)+1099511627776 * i):=by omega
theorem e8c (a b c d e f g i:Nat):((a+b)+256 * (b+c))+65536 * ((c+d)+256 * (d+e)+65536 * (e+f)+16777216 * (f+g)+4294967296 * (g+i)+1099511627776 * i)+((c+d)+256 * (d+e)+65536 * (e+f)+16777216 * (f+g)+4294967296 * (g+i)+1099511627776 * i)=((a+b+c+d)+256 * (b+c+d+e)+65536 * (c+d+e+f)+16777216 * (d+e+f+g))+4294967296 * ((e+f+g+i)+256 * (f+g+i)+65536 * (g+i)+16777216 * i):=by omega
theorem e8d (a b c d e f g i:Nat):((a+b+c+d)+256 * (b+c+d+e)+65536 * (c+d+e+f)+16777216 * (d+e+f+g))+4294967296 * ((e+f+g+i)+256 * (f+g+i)+65536 * (g+i)+16777216 * i)+((e+f+g+i)+256 * (f+g+i)+65536 * (g+i)+16777216 * i)=(a+b+c+d+e+f+g+i)+128 * (2 * (b+c+d+e)+512 * (c+d+e+f)+131072 * (d+e+f+g)+33554432 * ((e+f+g+i)+256 * (f+g+i)+65536 * (g+i)+16777216 * i)+2 * (f+g+i)+512 * (g+i)+131072 * i):=by omega
theorem b8a {a b c d e f g i:Nat} (k1:a≤8) (k2:b≤8) (k3:c≤8) (k4:d≤8) (k5:e≤8) (k6:f≤8) (k7:g≤8) (k8:i≤8):a+b+c+d+e+f+g+i < 128:=by omega
theorem b8b {a b c d e f g i:Nat} (k1:a≤8) (k2:b≤8) (k3:c≤8) (k4:d≤8) (k5:e≤8) (k6:f≤8) (k7:g≤8) (k8:i≤8):(a+b+c+d)+256 * (b+c+d+e)+65536 * (c+d+e+f)+16777216 * (d+e+f+g) < 4294967296:=by omega
theorem b8c {a b c:Nat} (k1:a≤8) (k2:b≤8) (k3:c≤8):(a+b)+256 * (b+c) < 65536:=by omega
theorem fin8 {a b c d e f g i x:Nat} (k1:a≤8) (k2:b≤8) (k3:c≤8) (k4:d≤8) (k5:e≤8) (k6:f≤8) (k7:g≤8) (k8:i≤8)
    (hx:x=a+256 * b+65536 * c+16777216 * d+4294967296 * e+1099511627776 * f+281474976710656 * g+72057594037927936 * i) :
    ((x+x / 256)+(x+x / 256) / 65536+((x+x / 256)+(x+x / 256) / 65536) / 4294967296) % 128=a+b+c+d+e+f+g+i∧x < 1152921504606846976:=by
  have hb:x < 1152921504606846976:=by omega
  have l1:a < 256:=Nat.lt_of_le_of_lt k1 (by decide)
  have l2:=b8c k1 k2 k3
  have l3:=b8b k1 k2 k3 k4 k5 k6 k7 k8
  have l4:=b8a k1 k2 k3 k4 k5 k6 k7 k8
  have h1:x / 256=b+256 * c+65536 * d+16777216 * e+4294967296 * f+1099511627776 * g+281474976710656 * i:=by
    rw [hx,e8a a b c d e f g i]; exact divK l1
  refine ⟨?_,hb⟩
  have y:x+x / 256=((a+b)+256 * (b+c))+65536 * ((c+d)+256 * (d+e)+65536 * (e+f)+16777216 * (f+g)+4294967296 * (g+i)+1099511627776 * i):=by rw [h1,hx]; exact e8b a b c d e f g i
  have y2:(x+x / 256) / 65536=(c+d)+256 * (d+e)+65536 * (e+f)+16777216 * (f+g)+4294967296 * (g+i)+1099511627776 * i:=by rw [y]; exact divK l2
  generalize x+x / 256=Y at y y2 ⊢
  have z:Y+Y / 65536=((a+b+c+d)+256 * (b+c+d+e)+65536 * (c+d+e+f)+16777216 * (d+e+f+g))+4294967296 * ((e+f+g+i)+256 * (f+g+i)+65536 * (g+i)+16777216 * i):=by rw [y2,y]; exact e8c a b c d e f g i
  have z2:(Y+Y / 65536) / 4294967296=(e+f+g+i)+256 * (f+g+i)+65536 * (g+i)+16777216 * i:=by rw [z]; exact divK l3
  generalize Y+Y / 65536=Z at z z2 ⊢
  rw [z2,z]
  refine (congrArg (· % 128) (e8d a b c d e f g i)).trans ?_
  show (_+128 * _) % 128=_
  rw [Nat.add_mul_mod_self_left]
  exact Nat.mod_eq_of_lt l4
theorem len8 {l:List Nat} (h:l.length=8):∃ a b c d e f g i,l=[a,b,c,d,e,f,g,i]:=by
  rcases l with _ | ⟨a,_ | ⟨b,_ | ⟨c,_ | ⟨d,_ | ⟨e,_ | ⟨f,_ | ⟨g,_ | ⟨i,_ | ⟨j,l⟩⟩⟩⟩⟩⟩⟩⟩⟩
  all_goals first | exact ⟨_,_,_,_,_,_,_,_,rfl⟩ | (simp only [List.length_cons,List.length_nil] at h; omega)
theorem last8 {x t:Nat} (h:Dig 256 8 8 x t):((x+x / 256)+(x+x / 256) / 65536+((x+x / 256)+(x+x / 256) / 65536) / 4294967296) % 128=t∧x < 1152921504606846976:=by
  obtain ⟨l,h1,h2,h3,h4⟩:=h
  obtain ⟨a,b,c,d,e,f,g,i,rfl⟩:=len8 h1
  have h5:a+b+c+d+e+f+g+i=t:=by
    rw [← h4]; simp only [List.sum_cons,List.sum_nil,Nat.add_zero,Nat.add_assoc]
  rw [← h5]
  refine fin8 (h2 a (by simp)) (h2 b (by simp)) (h2 c (by simp)) (h2 d (by simp)) (h2 e (by simp)) (h2 f (by simp)) (h2 g (by simp)) (h2 i (by simp)) ?_
  rw [← h3]
  simp only [dV,Nat.mul_add,← Nat.mul_assoc,Nat.reduceMul,Nat.mul_zero,Nat.add_zero,Nat.add_assoc]
theorem dV_le {K D:Nat} (hK:0 < K):∀ l:List Nat,(∀ d ∈ l,d≤D)→dV K l * (K - 1)≤D * (K ^ l.length - 1)
  | [],_=>by simp [dV]
  | a::l,h=>by
    have ih:=dV_le hK l fun d hd=>h d (by simp [hd])
    have ha:=h a (by simp)
    simp only [dV,List.length_cons]
    have e:K ^ (l.length+1) - 1=(K - 1)+K * (K ^ l.length - 1):=by
      rw [Nat.pow_succ',Nat.mul_sub_one]
      have:K * 1≤K * K ^ l.length:=Nat.mul_le_mul_left _ (Nat.pow_pos hK)
      omega
    rw [e,Nat.add_mul,Nat.mul_add,Nat.mul_assoc]
    have h1:a * (K - 1)≤D * (K - 1):=Nat.mul_le_mul_right _ ha
    have h2:K * (dV K l * (K - 1))≤K * (D * (K ^ l.length - 1)):=Nat.mul_le_mul_left _ ih
    have h3:K * (D * (K ^ l.length - 1))=D * (K * (K ^ l.length - 1)):=Nat.mul_left_comm _ _ _
    omega
theorem and127 {n:Nat} (h:n < 9223372036854775808):ibits BinOp.and IntKind.i64 (wr IntKind.i64 ↑n) 127=((n % 128:Nat):Int):=by
  rw [wi64 (by omega) (by omega)]
  have e:(BitVec.ofInt 64 (n:Int)&&&BitVec.ofInt 64 127).toNat=n % 128:=by
    rw [BitVec.toNat_and,BitVec.ofInt_natCast,BitVec.toNat_ofNat,show (BitVec.ofInt 64 127).toNat=2 ^ 7 - 1 from rfl,Nat.and_two_pow_sub_one_eq_mod]
    omega
  show IntKind.i64.wrap _=_
  rw [show (BitVec.ofInt IntKind.i64.bits (n:Int)&&&BitVec.ofInt IntKind.i64.bits 127).toNat=n % 128 from e]
  exact wi64 (by omega) (by omega)
theorem N175_pc (a:BitVec 64):N175 a=ones a:=by
  rw [N175_let]
  have d1:=dig_step (w:=1) (n:=32) (D:=1) (by decide) (pc_dig a)
  have d2:=dig_step (w:=2) (n:=16) (D:=2) (by decide) (x:=(a.toNat / 2 ^ 1&&&dM (2 ^ 1) 32)+(a.toNat&&&dM (2 ^ 1) 32)) (t:=ones a) d1
  have l1:=d1.lt (by decide)
  have l2:=d2.lt (by decide)
  have d3:=dig_sum (w:=4) (n:=8) (D:=4) (by decide) d2
  have l3:=d3.lt (by decide)
  have m1:dM (2 ^ 1) 32=6148914691236517205:=by decide
  have m2:dM (2 ^ 2) 16=3689348814741910323:=by decide
  have m3:dM (2 ^ 4) 8=1085102592571150095:=by decide
  rw [m1] at d1 d2 l1 l2 d3 l3
  rw [m2] at d2 l2 d3 l3
  rw [m3] at d3 l3
  dsimp only
  have e1:((a >>> 1&&&6148914691236517205#64)+(a&&&6148914691236517205#64)).toNat=(a.toNat / 2 ^ 1&&&6148914691236517205)+(a.toNat&&&6148914691236517205):=by
    rw [BitVec.toNat_add,BitVec.toNat_and,BitVec.toNat_and,BitVec.toNat_ushiftRight,Nat.shiftRight_eq_div_pow]
    exact Nat.mod_eq_of_lt l1
  generalize (a >>> 1&&&6148914691236517205#64)+(a&&&6148914691236517205#64)=s1 at e1 ⊢
  rw [← e1] at d2 l2 d3 l3
  have e2:((s1 >>> 2&&&3689348814741910323#64)+(s1&&&3689348814741910323#64)).toNat=(s1.toNat / 2 ^ 2&&&3689348814741910323)+(s1.toNat&&&3689348814741910323):=by
    rw [BitVec.toNat_add,BitVec.toNat_and,BitVec.toNat_and,BitVec.toNat_ushiftRight,Nat.shiftRight_eq_div_pow]
    exact Nat.mod_eq_of_lt l2
  generalize (s1 >>> 2&&&3689348814741910323#64)+(s1&&&3689348814741910323#64)=s2 at e2 ⊢
  rw [← e2] at d3 l3 l2 d2
  have k2:s2.toNat / 2 ^ 4+s2.toNat < 2 ^ 64:=by
    obtain ⟨l,h1,h2,h3,_⟩:=d2
    have h5:=dV_le (K:=2 ^ 2 * 2 ^ 2) (D:=2 * 2) (by decide) l h2
    rw [h3,h1] at h5
    omega
  have e3:(s2 >>> 4+s2&&&1085102592571150095#64).toNat=(s2.toNat / 2 ^ 4+s2.toNat&&&1085102592571150095):=by
    rw [BitVec.toNat_and,BitVec.toNat_add,BitVec.toNat_ushiftRight,Nat.shiftRight_eq_div_pow,Nat.mod_eq_of_lt k2]
    rfl
  generalize (s2 >>> 4+s2&&&1085102592571150095#64)=s3 at e3 ⊢
  rw [← e3] at d3 l3
  obtain ⟨f1,f2⟩:=last8 d3
  have e4:(s3+s3 >>> 8).toNat=s3.toNat+s3.toNat / 256:=by
    rw [BitVec.toNat_add,BitVec.toNat_ushiftRight,Nat.shiftRight_eq_div_pow]
    omega
  generalize s3+s3 >>> 8=s4 at e4 ⊢
  have e5:(s4+s4 >>> 16).toNat=s4.toNat+s4.toNat / 65536:=by
    rw [BitVec.toNat_add,BitVec.toNat_ushiftRight,Nat.shiftRight_eq_div_pow]
    omega
  generalize s4+s4 >>> 16=s5 at e5 ⊢
  have e6:(s5+s5 >>> 32).toNat=s5.toNat+s5.toNat / 4294967296:=by
    rw [BitVec.toNat_add,BitVec.toNat_ushiftRight,Nat.shiftRight_eq_div_pow]
    omega
  rw [and127 (by rw [e6]; omega),e6,e5,e4,f1]
end Kz
end
section
namespace Kz
open Go Go.RowKit Go.Proofs
set_option maxRecDepth 100000
set_option maxHeartbeats 4000000
noncomputable def K174:List (Nat×Nat×List (Nat×List Nat)):=[(174,12,[(0,[1,2]),(1,[4])])]
noncomputable def B174:Base:=baseOf Pz (fun f i=>lkC f i K174) [(101,G101)] [] []
theorem hB174:BOk B174:=base_ok named_z ⟨s101,trivial⟩ trivial trivial
noncomputable def N174 (a:Pos) (b:Int):BitVec 64:=(N101 (Pos.mk a.variant a.board a.promoted a.pockets a.turn a.rooks a.passing a.checks a.half a.full) 0 b|||N101 (Pos.mk a.variant a.board a.promoted a.pockets a.turn a.rooks a.passing a.checks a.half a.full) 1 b)
noncomputable def ok174 (a:Pos) (b:Int):Bool:=(ok101 (Pos.mk a.variant a.board a.promoted a.pockets a.turn a.rooks a.passing a.checks a.half a.full) (0) (b)&&(ok101 (Pos.mk a.variant a.board a.promoted a.pockets a.turn a.rooks a.passing a.checks a.half a.full) (1) (b)&&true))
theorem P174 (a:Pos) (b:Int) (h:ok174 a b=true):PS Pz 174 [Pos.av a,.int .u8 b] (dU.res (N174 a b)):=ps_sum (n:=14) hB174 (by kernel_rfl) (by kernel_rfl) (by kernel_rfl) h
noncomputable def G174:List AV→Tr AV:=g2 dPos (dI .u8) (fun a b=>gdv (ok174 a b) (dU.res (N174 a b)))
theorem s174:Sound Pz 174 G174:=sound2 fun a b=>at_gd (P174 a b)
noncomputable def K137:List (Nat×Nat×List (Nat×List Nat)):=[(137,68,[(0,(1::(rn 32 13 [59,60,61,64,65,66]))),(1,(1::3::(rn 32 13 [59,60,61,64,65,66]))),(2,(1::3::11::(rn 32 13 [59,60,61,64,65,66]))),(3,(1::3::11::12::(rn 32 13 [59,60,61,64,65,66]))),(4,(1::3::11::12::(rn 32 13 [59,60,61,64,65,66]))),(5,(1::4::(rn 32 13 []))),(6,(1::4::5::(rn 32 13 []))),(7,(4::5::27::(rn 32 13 []))),(8,[2]),(9,[2]),(10,[1,3,11,46,59,60,61,64,65,66]),(11,[1,3,46,59,60,61,64,65,66]),(12,[3,6,7,59,60,61,64,65,66]),(13,[2]),(14,[2])])]
noncomputable def B137:Base:=baseOf Pz (fun f i=>lkC f i K137) [(143,G143),(174,G174),(175,G175),(101,G101)] [] []
theorem hB137:BOk B137:=base_ok named_z ⟨s143,s174,s175,s101,trivial⟩ trivial trivial
noncomputable def N137 (a:Pos):Bool:=(bif a.variant==0 then (bif a.variant==0 then (bif N143 (Pos.mk a.variant a.board a.promoted a.pockets a.turn a.rooks a.passing a.checks a.half a.full) &&& ~~~N174 (Pos.mk a.variant a.board a.promoted a.pockets a.turn a.rooks a.passing a.checks a.half a.full) 6 &&& ~~~N174 (Pos.mk a.variant a.board a.promoted a.pockets a.turn a.rooks a.passing a.checks a.half a.full) 3 &&& ~~~N174 (Pos.mk a.variant a.board a.promoted a.pockets a.turn a.rooks a.passing a.checks a.half a.full) 2 != 0#64 then (false) else (bif decide (N175 (N143 (Pos.mk a.variant a.board a.promoted a.pockets a.turn a.rooks a.passing a.checks a.half a.full) &&& ~~~N174 (Pos.mk a.variant a.board a.promoted a.pockets a.turn a.rooks a.passing a.checks a.half a.full) 6)≤1) then (true) else (bif N143 (Pos.mk a.variant a.board a.promoted a.pockets a.turn a.rooks a.passing a.checks a.half a.full) &&& ~~~N174 (Pos.mk a.variant a.board a.promoted a.pockets a.turn a.rooks a.passing a.checks a.half a.full) 6==N174 (Pos.mk a.variant a.board a.promoted a.pockets a.turn a.rooks a.passing a.checks a.half a.full) 3 then (bif N143 (Pos.mk a.variant a.board a.promoted a.pockets a.turn a.rooks a.passing a.checks a.half a.full) &&& ~~~N174 (Pos.mk a.variant a.board a.promoted a.pockets a.turn a.rooks a.passing a.checks a.half a.full) 6&&&6172840429334713770#64==0#64 then (true) else (N143 (Pos.mk a.variant a.board a.promoted a.pockets a.turn a.rooks a.passing a.checks a.half a.full) &&& ~~~N174 (Pos.mk a.variant a.board a.promoted a.pockets a.turn a.rooks a.passing a.checks a.half a.full) 6 &&& ~~~6172840429334713770#64==0#64)) else (false)))) else (bif a.variant==3 then (bif a.variant==3 then (bif N143 (Pos.mk a.variant a.board a.promoted a.pockets a.turn a.rooks a.passing a.checks a.half a.full)==N101 (Pos.mk a.variant a.board a.promoted a.pockets a.turn a.rooks a.passing a.checks a.half a.full) 0 6|||N101 (Pos.mk a.variant a.board a.promoted a.pockets a.turn a.rooks a.passing a.checks a.half a.full) 1 6 then (bif N175 (N101 (Pos.mk a.variant a.board a.promoted a.pockets a.turn a.rooks a.passing a.checks a.half a.full) 0 6)==1 then (N175 (N101 (Pos.mk a.variant a.board a.promoted a.pockets a.turn a.rooks a.passing a.checks a.half a.full) 1 6)==1) else (false)) else (false)) else (false)) else (bif a.variant==5 then (bif N143 (Pos.mk a.variant a.board a.promoted a.pockets a.turn a.rooks a.passing a.checks a.half a.full)==N101 (Pos.mk a.variant a.board a.promoted a.pockets a.turn a.rooks a.passing a.checks a.half a.full) 0 6|||N101 (Pos.mk a.variant a.board a.promoted a.pockets a.turn a.rooks a.passing a.checks a.half a.full) 1 6 then (bif N175 (N101 (Pos.mk a.variant a.board a.promoted a.pockets a.turn a.rooks a.passing a.checks a.half a.full) 0 6)==1 then (N175 (N101 (Pos.mk a.variant a.board a.promoted a.pockets a.turn a.rooks a.passing a.checks a.half a.full) 1 6)==1) else (false)) else (false)) else (false)))) else (bif a.variant==1 then (bif N143 (Pos.mk a.variant a.board a.promoted a.pockets a.turn a.rooks a.passing a.checks a.half a.full) &&& ~~~N174 (Pos.mk a.variant a.board a.promoted a.pockets a.turn a.rooks a.passing a.checks a.half a.full) 6 &&& ~~~N174 (Pos.mk a.variant a.board a.promoted a.pockets a.turn a.rooks a.passing a.checks a.half a.full) 3 &&& ~~~N174 (Pos.mk a.variant a.board a.promoted a.pockets a.turn a.rooks a.passing a.checks a.half a.full) 2 != 0#64 then (false) else (bif decide (N175 (N143 (Pos.mk a.variant a.board a.promoted a.pockets a.turn a.rooks a.passing a.checks a.half a.full) &&& ~~~N174 (Pos.mk a.variant a.board a.promoted a.pockets a.turn a.rooks a.passing a.checks a.half a.full) 6)≤1) then (true) else (bif N143 (Pos.mk a.variant a.board a.promoted a.pockets a.turn a.rooks a.passing a.checks a.half a.full) &&& ~~~N174 (Pos.mk a.variant a.board a.promoted a.pockets a.turn a.rooks a.passing a.checks a.half a.full) 6==N174 (Pos.mk a.variant a.board a.promoted a.pockets a.turn a.rooks a.passing a.checks a.half a.full) 3 then (bif N143 (Pos.mk a.variant a.board a.promoted a.pockets a.turn a.rooks a.passing a.checks a.half a.full) &&& ~~~N174 (Pos.mk a.variant a.board a.promoted a.pockets a.turn a.rooks a.passing a.checks a.half a.full) 6&&&6172840429334713770#64==0#64 then (true) else (N143 (Pos.mk a.variant a.board a.promoted a.pockets a.turn a.rooks a.passing a.checks a.half a.full) &&& ~~~N174 (Pos.mk a.variant a.board a.promoted a.pockets a.turn a.rooks a.passing a.checks a.half a.full) 6 &&& ~~~6172840429334713770#64==0#64)) else (false)))) else (bif a.variant==3 then (bif a.variant==3 then (bif N143 (Pos.mk a.variant a.board a.promoted a.pockets a.turn a.rooks a.passing a.checks a.half a.full)==N101 (Pos.mk a.variant a.board a.promoted a.pockets a.turn a.rooks a.passing a.checks a.half a.full) 0 6|||N101 (Pos.mk a.variant a.board a.promoted a.pockets a.turn a.rooks a.passing a.checks a.half a.full) 1 6 then (bif N175 (N101 (Pos.mk a.variant a.board a.promoted a.pockets a.turn a.rooks a.passing a.checks a.half a.full) 0 6)==1 then (N175 (N101 (Pos.mk a.variant a.board a.promoted a.pockets a.turn a.rooks a.passing a.checks a.half a.full) 1 6)==1) else (false)) else (false)) else (false)) else (bif a.variant==5 then (bif N143 (Pos.mk a.variant a.board a.promoted a.pockets a.turn a.rooks a.passing a.checks a.half a.full)==N101 (Pos.mk a.variant a.board a.promoted a.pockets a.turn a.rooks a.passing a.checks a.half a.full) 0 6|||N101 (Pos.mk a.variant a.board a.promoted a.pockets a.turn a.rooks a.passing a.checks a.half a.full) 1 6 then (bif N175 (N101 (Pos.mk a.variant a.board a.promoted a.pockets a.turn a.rooks a.passing a.checks a.half a.full) 0 6)==1 then (N175 (N101 (Pos.mk a.variant a.board a.promoted a.pockets a.turn a.rooks a.passing a.checks a.half a.full) 1 6)==1) else (false)) else (false)) else (false)))))
noncomputable def ok137 (a:Pos):Bool:=(ok143 (Pos.mk a.variant a.board a.promoted a.pockets a.turn a.rooks a.passing a.checks a.half a.full)&&(bif a.variant==0 then (bif a.variant==0 then (ok174 (Pos.mk a.variant a.board a.promoted a.pockets a.turn a.rooks a.passing a.checks a.half a.full) (6)&&(ok174 (Pos.mk a.variant a.board a.promoted a.pockets a.turn a.rooks a.passing a.checks a.half a.full) (3)&&(ok174 (Pos.mk a.variant a.board a.promoted a.pockets a.turn a.rooks a.passing a.checks a.half a.full) (2)&&true))) else (bif a.variant==3 then (bif a.variant==3 then (ok101 (Pos.mk a.variant a.board a.promoted a.pockets a.turn a.rooks a.passing a.checks a.half a.full) (0) (6)&&(ok101 (Pos.mk a.variant a.board a.promoted a.pockets a.turn a.rooks a.passing a.checks a.half a.full) (1) (6)&&true)) else true) else (bif a.variant==5 then (ok101 (Pos.mk a.variant a.board a.promoted a.pockets a.turn a.rooks a.passing a.checks a.half a.full) (0) (6)&&(ok101 (Pos.mk a.variant a.board a.promoted a.pockets a.turn a.rooks a.passing a.checks a.half a.full) (1) (6)&&true)) else true))) else (bif a.variant==1 then (ok174 (Pos.mk a.variant a.board a.promoted a.pockets a.turn a.rooks a.passing a.checks a.half a.full) (6)&&(ok174 (Pos.mk a.variant a.board a.promoted a.pockets a.turn a.rooks a.passing a.checks a.half a.full) (3)&&(ok174 (Pos.mk a.variant a.board a.promoted a.pockets a.turn a.rooks a.passing a.checks a.half a.full) (2)&&true))) else (bif a.variant==3 then (bif a.variant==3 then (ok101 (Pos.mk a.variant a.board a.promoted a.pockets a.turn a.rooks a.passing a.checks a.half a.full) (0) (6)&&(ok101 (Pos.mk a.variant a.board a.promoted a.pockets a.turn a.rooks a.passing a.checks a.half a.full) (1) (6)&&true)) else true) else (bif a.variant==5 then (ok101 (Pos.mk a.variant a.board a.promoted a.pockets a.turn a.rooks a.passing a.checks a.half a.full) (0) (6)&&(ok101 (Pos.mk a.variant a.board a.promoted a.pockets a.turn a.rooks a.passing a.checks a.half a.full) (1) (6)&&true)) else true)))))
theorem P137 (a:Pos) (h:ok137 a=true):PS Pz 137 [Pos.av a] (dB.res (N137 a)):=ps_sum (n:=14) hB137 (by kernel_rfl) (by kernel_rfl) (by kernel_rfl) h
noncomputable def G137:List AV→Tr AV:=g1 dPos (fun a=>gdv (ok137 a) (dB.res (N137 a)))
theorem s137:Sound Pz 137 G137:=sound1 fun a=>at_gd (P137 a)
noncomputable def K48:List (Nat×Nat×List (Nat×List Nat)):=[(48,96,[(0,(1::(rn 66 13 [92,93,94]))),(1,(1::3::(rn 66 13 [92,93,94]))),(2,(1::(rn 3 5 (rn 66 13 [92,93,94])))),(3,(1::(rn 3 6 (rn 66 13 [92,93,94])))),(4,(1::(rn 3 6 (12::(rn 66 13 [92,93,94]))))),(5,(1::(rn 3 6 (rn 66 13 [92,93,94])))),(6,(1::(rn 3 6 (19::(rn 66 13 [92,93,94]))))),(7,(1::(rn 3 6 (rn 66 13 [92,93,94])))),(8,(1::(rn 3 6 (19::22::(rn 66 13 [92,93,94]))))),(9,(1::(rn 3 6 (19::24::(rn 66 13 [92,93,94]))))),(10,(1::(rn 3 6 (rn 66 13 [92,93,94])))),(11,(1::(rn 3 6 (19::35::(rn 66 13 [92,93,94]))))),(12,(1::(rn 3 6 (rn 66 13 [92,93,94])))),(13,(1::(rn 3 6 (39::(rn 66 13 [92,93,94]))))),(14,(1::(rn 3 6 (47::(rn 66 13 [92,93,94]))))),(15,(1::(rn 3 6 (rn 66 13 [92,93,94])))),(16,(1::(rn 3 6 (rn 66 13 [92,93,94])))),(17,(rn 3 5 (53::(rn 66 13 [92,93,94])))),(18,(rn 3 5 (53::54::(rn 66 13 [92,93,94])))),(19,(rn 3 5 (53::54::(rn 66 13 [92,93,94])))),(20,(rn 4 4 (9::(rn 66 13 [])))),(21,[2]),(22,(rn 3 5 [53,80,92,93,94])),(23,(rn 3 5 [80,92,93,94])),(24,[2]),(25,[2])])]
noncomputable def B48_1:Base:=baseOf Pz (fun f i=>lkC f i K48) [(106,G106),(107,G107)] [] []
theorem hB48_1:BOk B48_1:=base_ok named_z ⟨s106,s107,trivial⟩ trivial trivial
noncomputable def S48_1 (p1:Pos) (x:(Int×Int×Int×Int×Int×(List Int))):St:=St.mk (AV.any::AV.ptr 0 0::AV.any::AV.ptr 1 0::AV.int .i64 x.fst::AV.int .i64 x.snd.fst::AV.int .i64 x.snd.snd.fst::AV.int .i64 x.snd.snd.snd.fst::AV.int .i64 x.snd.snd.snd.snd.fst::(an 57 (AV.undef::AV.undef::AV.undef::AV.undef::AV.undef::AV.undef::AV.undef::AV.undef::AV.undef::AV.undef::AV.undef::AV.undef::AV.undef::(an 13 [AV.undef,AV.undef,AV.undef,AV.any])))) (Hp.mk [(pc p1 []),[AV.ints .i64 2 x.snd.snd.snd.snd.snd]] [] [] 0 0 0)
noncomputable def O48_1 (p1:Pos):(Int×Int×Int×Int×Int×Bool×(List Int))→Out:=fun y=>.exit 0 (St.mk (AV.any::AV.ptr 0 0::AV.any::AV.ptr 1 0::AV.int .i64 y.fst::AV.int .i64 y.snd.fst::AV.int .i64 y.snd.snd.fst::AV.int .i64 y.snd.snd.snd.fst::AV.int .i64 y.snd.snd.snd.snd.fst::(an 3 (AV.bool y.snd.snd.snd.snd.snd.fst::(an 53 (AV.undef::AV.undef::AV.undef::AV.undef::AV.undef::AV.undef::AV.undef::AV.undef::AV.undef::AV.undef::AV.undef::AV.undef::AV.undef::(an 13 [AV.undef,AV.undef,AV.undef,AV.any])))))) (Hp.mk [(pc p1 []),[AV.ints .i64 2 y.snd.snd.snd.snd.snd.snd]] [] [] 0 0 0))
noncomputable def st48_1 (p1:Pos) (x:(Int×Int×Int×Int×Int×(List Int))):Stp (Int×Int×Int×Int×Int×(List Int)) ((Int×Int×Int×Int×Int×Bool×(List Int))):=(bif decide (x.snd.snd.snd.snd.fst < 64) then (bif N106 (p1.board.getD (scale 1 x.snd.snd.snd.snd.fst).toNat 0)==0 then (Stp.go (x.fst,x.snd.fst,x.snd.snd.fst,x.snd.snd.snd.fst,wr .i64 (x.snd.snd.snd.snd.fst+1),x.snd.snd.snd.snd.snd)) else (bif N106 (p1.board.getD (scale 1 x.snd.snd.snd.snd.fst).toNat 0)==6 then (Stp.go (x.fst,x.snd.fst,x.snd.snd.fst,x.snd.snd.snd.fst,wr .i64 (x.snd.snd.snd.snd.fst+1),x.snd.snd.snd.snd.snd.set (scale 1 (N107 (p1.board.getD (scale 1 x.snd.snd.snd.snd.fst).toNat 0))).toNat (wr .i64 (x.snd.snd.snd.snd.snd.getD (scale 1 (N107 (p1.board.getD (scale 1 x.snd.snd.snd.snd.fst).toNat 0))).toNat 0+1)))) else (bif N106 (p1.board.getD (scale 1 x.snd.snd.snd.snd.fst).toNat 0)==2 then (Stp.go (wr .i64 (x.fst+1),x.snd.fst,x.snd.snd.fst,x.snd.snd.snd.fst,wr .i64 (x.snd.snd.snd.snd.fst+1),x.snd.snd.snd.snd.snd)) else (bif N106 (p1.board.getD (scale 1 x.snd.snd.snd.snd.fst).toNat 0)==3 then (bif (wr .i64 (wr .i64 (x.snd.snd.snd.snd.fst.tdiv 8)+x.snd.snd.snd.snd.fst.tmod 8)).tmod 2==0 then (Stp.go (x.fst,wr .i64 (x.snd.fst+1),x.snd.snd.fst,x.snd.snd.snd.fst,wr .i64 (x.snd.snd.snd.snd.fst+1),x.snd.snd.snd.snd.snd)) else (Stp.go (x.fst,x.snd.fst,wr .i64 (x.snd.snd.fst+1),x.snd.snd.snd.fst,wr .i64 (x.snd.snd.snd.snd.fst+1),x.snd.snd.snd.snd.snd))) else (Stp.go (x.fst,x.snd.fst,x.snd.snd.fst,wr .i64 (x.snd.snd.snd.fst+1),wr .i64 (x.snd.snd.snd.snd.fst+1),x.snd.snd.snd.snd.snd)))))) else (Stp.out ((x.fst,x.snd.fst,x.snd.snd.fst,x.snd.snd.snd.fst,x.snd.snd.snd.snd.fst,decide (x.snd.snd.snd.snd.fst < 64),x.snd.snd.snd.snd.snd))))
noncomputable def okL48_1 (p1:Pos) (x:(Int×Int×Int×Int×Int×(List Int))):Bool:=(bif decide (x.snd.snd.snd.snd.fst < 64) then (decide (0≤x.snd.snd.snd.snd.fst)&&decide (x.snd.snd.snd.snd.fst < Int.ofNat 64)&&(bif N106 (p1.board.getD (scale 1 x.snd.snd.snd.snd.fst).toNat 0)==0 then true else (bif N106 (p1.board.getD (scale 1 x.snd.snd.snd.snd.fst).toNat 0)==6 then (decide (0≤x.snd.snd.snd.snd.fst)&&decide (x.snd.snd.snd.snd.fst < Int.ofNat 64)&&(decide (0≤N107 (p1.board.getD (scale 1 x.snd.snd.snd.snd.fst).toNat 0))&&decide (N107 (p1.board.getD (scale 1 x.snd.snd.snd.snd.fst).toNat 0) < Int.ofNat 2)&&(decide (0≤N107 (p1.board.getD (scale 1 x.snd.snd.snd.snd.fst).toNat 0))&&decide (N107 (p1.board.getD (scale 1 x.snd.snd.snd.snd.fst).toNat 0) < Int.ofNat 2)&&true))) else true))) else true)
noncomputable def lp48_1 (p1:Pos) (x:(Int×Int×Int×Int×Int×(List Int))):Option ((Int×Int×Int×Int×Int×Bool×(List Int))):=itl (fun x=>bif okL48_1 p1 x then st48_1 p1 x else .bad) many x
abbrev D48_1 {α:Type} (k:Pos→(Int×Int×Int×Int×Int×(List Int))→α) (s:St):α:=wP s 0 fun q0=>k q0 ((tI (tT s 4)),(tI (tT s 5)),(tI (tT s 6)),(tI (tT s 7)),(tI (tT s 8)),(tN (tH s 1 0)))
theorem L48_1 (p1:Pos) (x:(Int×Int×Int×Int×Int×(List Int))) (r:(Int×Int×Int×Int×Int×Bool×(List Int))) (h:lp48_1 p1 x=some r):LSpec Pz (bodL Pz 48 4) (S48_1 p1 x) (O48_1 p1 r):=LSpec.smd (m:=12) (fn:=48) hB48_1 (D48_1 fun _ x=>some x) (fun o=>match o with | .exit 0 s=>some ((tI (tT s 4)),(tI (tT s 5)),(tI (tT s 6)),(tI (tT s 7)),(tI (tT s 8)),(tB (tT s 12)),(tN (tH s 1 0))) | _=>none) (fun _=>rfl) (fun _=>by kernel_rfl) (fun _=>by kernel_rfl) (fun _=>by kernel_rfl) (fun _=>by kernel_rfl) many x r h
noncomputable def F48_1 (b:Code) (s:St):Tr Out:=D48_1 (fun p1 x=>lk1 b (bodL Pz 48 4) s (S48_1 p1 x) (lp48_1 p1 x) (O48_1 p1)) s
theorem sF48_1:∀ b,LSound Pz b (F48_1 b):=fun _ _ _ h=>lk1_ok (L48_1 _ _) h
noncomputable def B48:Base:=baseOf Pz (fun f i=>lkC f i K48) [(106,G106),(107,G107)] [(48,4,F48_1)] []
theorem hB48:BOk B48:=base_ok named_z ⟨s106,s107,trivial⟩ ⟨sF48_1,trivial⟩ trivial
noncomputable def N48 (a:Pos):Bool:=(bif a.variant==0 then (bif a.variant==0 then (bif ((lp48_1 a (0,0,0,0,0,List.replicate 2 0)).getD default).snd.snd.snd.fst==0 then (bif decide (wr .i64 (wr .i64 (((lp48_1 a (0,0,0,0,0,List.replicate 2 0)).getD default).fst+((lp48_1 a (0,0,0,0,0,List.replicate 2 0)).getD default).snd.fst)+((lp48_1 a (0,0,0,0,0,List.replicate 2 0)).getD default).snd.snd.fst)≤1) then (true) else (bif ((lp48_1 a (0,0,0,0,0,List.replicate 2 0)).getD default).fst==0 then (bif ((lp48_1 a (0,0,0,0,0,List.replicate 2 0)).getD default).snd.fst==0 then (true) else (((lp48_1 a (0,0,0,0,0,List.replicate 2 0)).getD default).snd.snd.fst==0)) else (false))) else (false)) else (bif a.variant==3 then (bif a.variant==3 then (bif wr .i64 (wr .i64 (wr .i64 (((lp48_1 a (0,0,0,0,0,List.replicate 2 0)).getD default).snd.snd.snd.fst+((lp48_1 a (0,0,0,0,0,List.replicate 2 0)).getD default).fst)+((lp48_1 a (0,0,0,0,0,List.replicate 2 0)).getD default).snd.fst)+((lp48_1 a (0,0,0,0,0,List.replicate 2 0)).getD default).snd.snd.fst)==0 then (eqOut BinOp.eql (((lp48_1 a (0,0,0,0,0,List.replicate 2 0)).getD default).snd.snd.snd.snd.snd.snd==((List.replicate 2 0).set 0 1).set 1 1&&true)) else (false)) else (false)) else (bif a.variant==5 then (bif wr .i64 (wr .i64 (wr .i64 (((lp48_1 a (0,0,0,0,0,List.replicate 2 0)).getD default).snd.snd.snd.fst+((lp48_1 a (0,0,0,0,0,List.replicate 2 0)).getD default).fst)+((lp48_1 a (0,0,0,0,0,List.replicate 2 0)).getD default).snd.fst)+((lp48_1 a (0,0,0,0,0,List.replicate 2 0)).getD default).snd.snd.fst)==0 then (eqOut BinOp.eql (((lp48_1 a (0,0,0,0,0,List.replicate 2 0)).getD default).snd.snd.snd.snd.snd.snd==((List.replicate 2 0).set 0 1).set 1 1&&true)) else (false)) else (false)))) else (bif a.variant==1 then (bif ((lp48_1 a (0,0,0,0,0,List.replicate 2 0)).getD default).snd.snd.snd.fst==0 then (bif decide (wr .i64 (wr .i64 (((lp48_1 a (0,0,0,0,0,List.replicate 2 0)).getD default).fst+((lp48_1 a (0,0,0,0,0,List.replicate 2 0)).getD default).snd.fst)+((lp48_1 a (0,0,0,0,0,List.replicate 2 0)).getD default).snd.snd.fst)≤1) then (true) else (bif ((lp48_1 a (0,0,0,0,0,List.replicate 2 0)).getD default).fst==0 then (bif ((lp48_1 a (0,0,0,0,0,List.replicate 2 0)).getD default).snd.fst==0 then (true) else (((lp48_1 a (0,0,0,0,0,List.replicate 2 0)).getD default).snd.snd.fst==0)) else (false))) else (false)) else (bif a.variant==3 then (bif a.variant==3 then (bif wr .i64 (wr .i64 (wr .i64 (((lp48_1 a (0,0,0,0,0,List.replicate 2 0)).getD default).snd.snd.snd.fst+((lp48_1 a (0,0,0,0,0,List.replicate 2 0)).getD default).fst)+((lp48_1 a (0,0,0,0,0,List.replicate 2 0)).getD default).snd.fst)+((lp48_1 a (0,0,0,0,0,List.replicate 2 0)).getD default).snd.snd.fst)==0 then (eqOut BinOp.eql (((lp48_1 a (0,0,0,0,0,List.replicate 2 0)).getD default).snd.snd.snd.snd.snd.snd==((List.replicate 2 0).set 0 1).set 1 1&&true)) else (false)) else (false)) else (bif a.variant==5 then (bif wr .i64 (wr .i64 (wr .i64 (((lp48_1 a (0,0,0,0,0,List.replicate 2 0)).getD default).snd.snd.snd.fst+((lp48_1 a (0,0,0,0,0,List.replicate 2 0)).getD default).fst)+((lp48_1 a (0,0,0,0,0,List.replicate 2 0)).getD default).snd.fst)+((lp48_1 a (0,0,0,0,0,List.replicate 2 0)).getD default).snd.snd.fst)==0 then (eqOut BinOp.eql (((lp48_1 a (0,0,0,0,0,List.replicate 2 0)).getD default).snd.snd.snd.snd.snd.snd==((List.replicate 2 0).set 0 1).set 1 1&&true)) else (false)) else (false)))))
noncomputable def ok48 (a:Pos):Bool:=((lp48_1 a (0,0,0,0,0,List.replicate 2 0)).isSome&&true)
theorem P48 (a:Pos) (h:ok48 a=true):PS Pz 48 [Pos.av a] (dB.res (N48 a)):=ps_sum (n:=14) hB48 (by kernel_rfl) (by kernel_rfl) (by kernel_rfl) h
noncomputable def G48:List AV→Tr AV:=g1 dPos (fun a=>gdv (ok48 a) (dB.res (N48 a)))
theorem s48:Sound Pz 48 G48:=sound1 fun a=>at_gd (P48 a)
end Kz
end
section
namespace Kz
open Go Go.RowKit
set_option maxRecDepth 100000
set_option maxHeartbeats 4000000
set_option linter.unusedSectionVars false
def cnt (P:Nat→Bool):Nat→Nat
  | 0=>0
  | n+1=>cnt P n+(P n).toNat
theorem cnt_add {P Q R:Nat→Bool}:∀ {n:Nat},(∀ i,i < n→(P i).toNat=(Q i).toNat+(R i).toNat)→cnt P n=cnt Q n+cnt R n
  | 0,_=>rfl
  | n+1,h=>by
    have h1:=cnt_add (n:=n) fun i hi=>h i (by omega)
    have h2:=h n (by omega)
    unfold cnt
    omega
theorem cnt_congr {P Q:Nat→Bool}:∀ {n:Nat},(∀ i,i < n→P i=Q i)→cnt P n=cnt Q n
  | 0,_=>rfl
  | n+1,h=>by
    unfold cnt
    rw [cnt_congr (n:=n) fun i hi=>h i (by omega),h n (by omega)]
theorem cnt_le (P:Nat→Bool):∀ n,cnt P n≤n
  | 0=>Nat.le_refl _
  | n+1=>by
    have:=cnt_le P n
    have:(P n).toNat≤1:=by cases P n <;> simp
    unfold cnt
    omega
theorem cnt_zero {P:Nat→Bool}:∀ {n:Nat},cnt P n=0 ↔ ∀ i,i < n→P i=false
  | 0=>⟨fun _ i h=>by omega,fun _=>rfl⟩
  | n+1=>by
    have ih:=cnt_zero (P:=P) (n:=n)
    unfold cnt
    constructor
    · intro h i hi
      by_cases e:i=n
      · subst e; cases hp:P i with
        | false=>rfl
        | true=>rw [hp] at h; simp at h
      · exact ih.1 (by omega) i (by omega)
    · intro h
      rw [ih.2 fun i hi=>h i (by omega),h n (by omega)]
      rfl
theorem sum_bits (x:BitVec 64):∀ (n i:Nat),(bitsF x i n).sum+cnt x.getLsbD i=cnt x.getLsbD (i+n)
  | 0,i=>by simp [bitsF]
  | n+1,i=>by
    have:=sum_bits x n (i+1)
    simp only [bitsF,List.sum_cons]
    rw [show i+(n+1)=i+1+n by omega,← this]
    simp only [cnt]
    omega
theorem ones_cnt (x:BitVec 64):ones x=cnt x.getLsbD 64:=by
  have:=sum_bits x 64 0
  unfold ones
  simpa [cnt] using this
theorem zero_cnt {x:BitVec 64} {P:Nat→Bool} (h:∀ i,i < 64→x.getLsbD i=P i):(x==0#64)=decide (cnt P 64=0):=by
  rw [Bool.eq_iff_iff,beq_iff_eq,decide_eq_true_eq,cnt_zero]
  constructor
  · intro e i hi
    rw [← h i hi,e]; simp
  · intro e
    exact BitVec.eq_of_getLsbD_eq fun i hi=>by rw [h i hi,e i hi]; simp
section
variable (p:Pos)
noncomputable def kd (i:Nat):Int:=N106 (p.board.getD i 0)
noncomputable def cl1 (i:Nat):Int:=N107 (p.board.getD i 0)
noncomputable def parB (i:Nat):Bool:=(wr .i64 (wr .i64 ((i:Int).tdiv 8)+(i:Int).tmod 8)).tmod 2==0
noncomputable def Pn (i:Nat):Bool:=kd p i==2
noncomputable def Pe (i:Nat):Bool:=kd p i==3&&parB i
noncomputable def Pd (i:Nat):Bool:=kd p i==3&&!parB i
noncomputable def Po (i:Nat):Bool := !(kd p i==0)&&(!(kd p i==6)&&(!(kd p i==2)&&!(kd p i==3)))
noncomputable def Pk (c:Int) (i:Nat):Bool:=kd p i==6&&cl1 p i==c
end
theorem par_fin:∀ i:Fin 64,(6172840429334713770#64).getLsbD i.val=!parB i.val:=by decide +kernel
theorem king_fin:∀ v:Fin 256,(N106 v.val==6)=true→N107 v.val=0∨N107 v.val=1:=by decide +kernel
section
variable {p:Pos} (hp:PosIn p)
include hp
theorem lp48:∃ r,lp48_1 p (0,0,0,0,0,List.replicate 2 0)=some r∧r.1=cnt (Pn p) 64∧r.2.1=cnt (Pe p) 64∧r.2.2.1=cnt (Pd p) 64∧r.2.2.2.1=cnt (Po p) 64∧r.2.2.2.2.2.2=[((cnt (Pk p 0) 64:Nat):Int),((cnt (Pk p 1) 64:Nat):Int)]:=by
  refine lp_many (Q:=fun r:Int×Int×Int×Int×Int×Bool×List Int=>r.1=cnt (Pn p) 64∧r.2.1=cnt (Pe p) 64∧r.2.2.1=cnt (Pd p) 64∧r.2.2.2.1=cnt (Po p) 64∧r.2.2.2.2.2.2=[((cnt (Pk p 0) 64:Nat):Int),((cnt (Pk p 1) 64:Nat):Int)])
    (I:=fun x:Int×Int×Int×Int×Int×List Int => ∃ n:Nat,n≤64∧x.2.2.2.2.1=n∧x.1=cnt (Pn p) n∧x.2.1=cnt (Pe p) n∧x.2.2.1=cnt (Pd p) n∧x.2.2.2.1=cnt (Po p) n∧x.2.2.2.2.2=[((cnt (Pk p 0) n:Nat):Int),((cnt (Pk p 1) n:Nat):Int)]) (μ:=fun x=>(64 - x.2.2.2.2.1).toNat) ?_ _ ⟨0,by omega,rfl,rfl,rfl,rfl,rfl,rfl⟩ (by simp)
  rintro ⟨a,b,c,d,x,L⟩ ⟨n,hn,hx,ha,hb,hc,hd,hL⟩
  simp only at hx ha hb hc hd hL
  subst hx ha hb hc hd hL
  unfold okL48_1 st48_1
  dsimp only
  by_cases h64:n < 64
  · have hbd:=bd_in hp n
    obtain ⟨v,hv⟩:=Int.eq_ofNat_of_zero_le hbd.1
    have hk6:=king_fin ⟨v,by omega⟩
    simp only at hk6
    rw [← hv] at hk6
    have b1:=cnt_le (Pn p) n
    have b2:=cnt_le (Pe p) n
    have b3:=cnt_le (Pd p) n
    have b4:=cnt_le (Po p) n
    have b5:=cnt_le (Pk p 0) n
    have b6:=cnt_le (Pk p 1) n
    rw [decide_eq_true (show (n:Int) < 64 by omega),decide_eq_true (show (0:Int)≤n by omega),decide_eq_true (show (n:Int) < Int.ofNat 64 by show (n:Int) < 64; omega),scale1,Int.toNat_natCast,wi64 (n:=(n:Int)+1) (by omega) (by omega),wi64 (n:=((cnt (Pn p) n:Nat):Int)+1) (by omega) (by omega),wi64 (n:=((cnt (Pe p) n:Nat):Int)+1) (by omega) (by omega),wi64 (n:=((cnt (Pd p) n:Nat):Int)+1) (by omega) (by omega),wi64 (n:=((cnt (Po p) n:Nat):Int)+1) (by omega) (by omega)]
    have go:∀ (a' b' c' d':Int) (L':List Int),a'=cnt (Pn p) (n+1)→b'=cnt (Pe p) (n+1)→c'=cnt (Pd p) (n+1)→d'=cnt (Po p) (n+1)→L'=[((cnt (Pk p 0) (n+1):Nat):Int),((cnt (Pk p 1) (n+1):Nat):Int)] →
        Nxt (fun x:Int×Int×Int×Int×Int×List Int => ∃ n:Nat,n≤64∧x.2.2.2.2.1=n∧x.1=cnt (Pn p) n∧x.2.1=cnt (Pe p) n∧x.2.2.1=cnt (Pd p) n∧x.2.2.2.1=cnt (Po p) n∧x.2.2.2.2.2=[((cnt (Pk p 0) n:Nat):Int),((cnt (Pk p 1) n:Nat):Int)])
          (fun r:Int×Int×Int×Int×Int×Bool×List Int=>r.1=cnt (Pn p) 64∧r.2.1=cnt (Pe p) 64∧r.2.2.1=cnt (Pd p) 64∧r.2.2.2.1=cnt (Po p) 64∧r.2.2.2.2.2.2=[((cnt (Pk p 0) 64:Nat):Int),((cnt (Pk p 1) 64:Nat):Int)]) (fun x:Int×Int×Int×Int×Int×List Int=>(64 - x.2.2.2.2.1).toNat) ((64 - (n:Int)).toNat) (.go (a',b',c',d',(n:Int)+1,L')) :=
      fun a' b' c' d' L' h1 h2 h3 h4 h5=>⟨⟨n+1,by omega,by simp,h1,h2,h3,h4,h5⟩,by dsimp only; omega⟩
    have en:cnt (Pn p) (n+1)=cnt (Pn p) n+(kd p n==2).toNat:=rfl
    have ee:cnt (Pe p) (n+1)=cnt (Pe p) n+(kd p n==3&&parB n).toNat:=rfl
    have ed:cnt (Pd p) (n+1)=cnt (Pd p) n+(kd p n==3&&!parB n).toNat:=rfl
    have eo:cnt (Po p) (n+1)=cnt (Po p) n+(!(kd p n==0)&&(!(kd p n==6)&&(!(kd p n==2)&&!(kd p n==3)))).toNat:=rfl
    have e0:cnt (Pk p 0) (n+1)=cnt (Pk p 0) n+(kd p n==6&&cl1 p n==0).toNat:=rfl
    have e1:cnt (Pk p 1) (n+1)=cnt (Pk p 1) n+(kd p n==6&&cl1 p n==1).toNat:=rfl
    have hkd:N106 (p.board.getD n 0)=kd p n:=rfl
    have hcl:N107 (p.board.getD n 0)=cl1 p n:=rfl
    have hpar:((wr .i64 (wr .i64 ((n:Int).tdiv 8)+(n:Int).tmod 8)).tmod 2==0)=parB n:=rfl
    rw [hkd,hcl] at hk6
    rw [hkd,hcl,hpar]
    rw [en,ee,ed,eo,e0,e1] at go
    generalize kd p n=k at *
    by_cases k0:k=0
    · subst k0
      exact ⟨rfl,go _ _ _ _ _ (by simp) (by simp) (by simp) (by simp) (by simp)⟩
    · by_cases k6:k=6
      · subst k6
        have hc01:=hk6 rfl
        generalize cl1 p n=w at *
        rcases hc01 with rfl | rfl
        · rw [show wr .i64 (([((cnt (Pk p 0) n:Nat):Int),((cnt (Pk p 1) n:Nat):Int)]:List Int).getD (scale 1 (0:Int)).toNat 0+1)=((cnt (Pk p 0) n:Nat):Int)+1 from wi64 (n:=((cnt (Pk p 0) n:Nat):Int)+1) (by omega) (by omega)]
          exact ⟨rfl,go _ _ _ _ _ (by simp) (by simp) (by simp) (by simp) (by simp [scale])⟩
        · rw [show wr .i64 (([((cnt (Pk p 0) n:Nat):Int),((cnt (Pk p 1) n:Nat):Int)]:List Int).getD (scale 1 (1:Int)).toNat 0+1)=((cnt (Pk p 1) n:Nat):Int)+1 from wi64 (n:=((cnt (Pk p 1) n:Nat):Int)+1) (by omega) (by omega)]
          exact ⟨rfl,go _ _ _ _ _ (by simp) (by simp) (by simp) (by simp) (by simp [scale])⟩
      · rw [beq_eq_false_iff_ne.2 k0,beq_eq_false_iff_ne.2 k6]
        rw [beq_eq_false_iff_ne.2 k0,beq_eq_false_iff_ne.2 k6] at go
        refine ⟨rfl,?_⟩
        by_cases k2:k=2
        · subst k2
          exact go _ _ _ _ _ (by simp) (by simp) (by simp) (by simp) (by simp)
        · by_cases k3:k=3
          · subst k3
            cases hpb:parB n with
            | true=>rw [hpb] at go; exact go _ _ _ _ _ (by simp) (by simp) (by simp) (by simp) (by simp)
            | false=>rw [hpb] at go; exact go _ _ _ _ _ (by simp) (by simp) (by simp) (by simp) (by simp)
          · rw [beq_eq_false_iff_ne.2 k2,beq_eq_false_iff_ne.2 k3]
            rw [beq_eq_false_iff_ne.2 k2,beq_eq_false_iff_ne.2 k3] at go
            exact go _ _ _ _ _ (by simp) (by simp) (by simp) (by simp) (by simp)
  · have:n=64:=by omega
    subst this
    exact ⟨rfl,rfl,rfl,rfl,rfl,rfl⟩
end
noncomputable def matAR (r:Int×Int×Int×Int×Int×Bool×List Int):Bool:=bif r.2.2.2.1==0 then (bif decide (wr .i64 (wr .i64 (r.1+r.2.1)+r.2.2.1)≤1) then true else bif r.1==0 then (bif r.2.1==0 then true else r.2.2.1==0) else false) else false
noncomputable def matBR (r:Int×Int×Int×Int×Int×Bool×List Int):Bool:=bif wr .i64 (wr .i64 (wr .i64 (r.2.2.2.1+r.1)+r.2.1)+r.2.2.1)==0 then eqOut BinOp.eql (r.2.2.2.2.2.2==((List.replicate 2 0).set 0 1).set 1 1&&true) else false
theorem N48_form (p:Pos):N48 p=bif (p.variant==0 || p.variant==1) then matAR ((lp48_1 p (0,0,0,0,0,List.replicate 2 0)).getD default) else bif (p.variant==3 || p.variant==5) then matBR ((lp48_1 p (0,0,0,0,0,List.replicate 2 0)).getD default) else false:=by
  unfold N48 matAR matBR
  cases h0:p.variant==0 <;> cases h1:p.variant==1 <;> cases h3:p.variant==3 <;> cases h5:p.variant==5 <;> rfl
def lightC:BitVec 64:=6172840429334713770#64
noncomputable def matAC (A K B N:BitVec 64):Bool:=bif A &&& ~~~K &&& ~~~B &&& ~~~N != 0#64 then false else bif decide (N175 (A &&& ~~~K)≤1) then true else bif A &&& ~~~K==B then (bif A &&& ~~~K&&&lightC==0#64 then true else A &&& ~~~K &&& ~~~lightC==0#64) else false
noncomputable def matBC (A W X:BitVec 64):Bool:=bif A==W|||X then (bif N175 W==1 then N175 X==1 else false) else false
theorem N137_form (p:Pos):N137 p=bif (p.variant==0 || p.variant==1) then matAC (N143 p) (N174 p 6) (N174 p 3) (N174 p 2) else bif (p.variant==3 || p.variant==5) then matBC (N143 p) (N101 p 0 6) (N101 p 1 6) else false:=by
  unfold N137 matAC matBC lightC
  rw [show (Pos.mk p.variant p.board p.promoted p.pockets p.turn p.rooks p.passing p.checks p.half p.full)=p from rfl]
  cases h0:p.variant==0 <;> cases h1:p.variant==1 <;> cases h3:p.variant==3 <;> cases h5:p.variant==5 <;> rfl
theorem kinds_fin:∀ v:Fin 256,N144 v.val=!(N106 v.val==0)∧(tOf 0 6 v.val || tOf 1 6 v.val)=(N106 v.val==6)∧(tOf 0 3 v.val || tOf 1 3 v.val)=(N106 v.val==3)∧(tOf 0 2 v.val || tOf 1 2 v.val)=(N106 v.val==2)∧tOf 0 6 v.val=(N106 v.val==6&&N107 v.val==0)∧tOf 1 6 v.val=(N106 v.val==6&&N107 v.val==1):=by decide +kernel
section
variable {p:Pos} (hp:PosIn p)
include hp
theorem kinds_at (i:Nat):N144 (p.board.getD i 0)=!(kd p i==0)∧(tOf 0 6 (p.board.getD i 0) || tOf 1 6 (p.board.getD i 0))=(kd p i==6)∧(tOf 0 3 (p.board.getD i 0) || tOf 1 3 (p.board.getD i 0))=(kd p i==3)∧(tOf 0 2 (p.board.getD i 0) || tOf 1 2 (p.board.getD i 0))=(kd p i==2)∧tOf 0 6 (p.board.getD i 0)=Pk p 0 i∧tOf 1 6 (p.board.getD i 0)=Pk p 1 i:=by
  have hb:=bd_in hp i
  obtain ⟨v,hv⟩:=Int.eq_ofNat_of_zero_le hb.1
  have:=kinds_fin ⟨v,by omega⟩
  simp only at this
  rw [← hv] at this
  exact this
theorem bit174 (k:Int) {i:Nat} (hi:i < 64):(N174 p k).getLsbD i=(tOf 0 k (p.board.getD i 0) || tOf 1 k (p.board.getD i 0)):=by
  unfold N174
  rw [show (Pos.mk p.variant p.board p.promoted p.pockets p.turn p.rooks p.passing p.checks p.half p.full)=p from rfl,BitVec.getLsbD_or,N101_bit _ _ _ hi,N101_bit _ _ _ hi]
theorem N48_eq:ok48 p=true∧N48 p=N137 p:=by
  obtain ⟨o,h1,h2,h3,h4,h5⟩:=of_some (lp48 hp)
  refine ⟨a_true o fun _=>rfl,?_⟩
  rw [N48_form,N137_form]
  have ka:=kinds_at hp
  have b1:=cnt_le (Pn p) 64
  have b2:=cnt_le (Pe p) 64
  have b3:=cnt_le (Pd p) 64
  have b4:=cnt_le (Po p) 64
  have men:∀ i,i < 64→(N143 p &&& ~~~N174 p 6).getLsbD i=(!(kd p i==0)&&!(kd p i==6)):=fun i hi=>by
    rw [BitVec.getLsbD_and,BitVec.getLsbD_not,N143_bit _ hi,bit174 hp _ hi,(ka i).1,(ka i).2.1]; simp [hi]
  have oth:∀ i,i < 64→(N143 p &&& ~~~N174 p 6 &&& ~~~N174 p 3 &&& ~~~N174 p 2).getLsbD i=Po p i:=fun i hi=>by
    rw [BitVec.getLsbD_and,BitVec.getLsbD_and,BitVec.getLsbD_not,BitVec.getLsbD_not,men i hi,bit174 hp _ hi,bit174 hp _ hi,(ka i).2.2.1,(ka i).2.2.2.1]
    unfold Po
    cases kd p i==0 <;> cases kd p i==6 <;> cases kd p i==3 <;> cases kd p i==2 <;> simp [hi]
  have sum:cnt (fun i => !(kd p i==0)&&!(kd p i==6)) 64=cnt (Pn p) 64+(cnt (Pe p) 64+(cnt (Pd p) 64+cnt (Po p) 64)):=by
    have s1:cnt (fun i=>Pd p i || Po p i) 64=cnt (Pd p) 64+cnt (Po p) 64:=cnt_add fun i hi=>by
      unfold Pd Po
      by_cases k3:kd p i=3
      · rw [k3]; cases parB i <;> rfl
      · rw [beq_eq_false_iff_ne.2 k3]; cases kd p i==0 <;> cases kd p i==6 <;> cases kd p i==2 <;> rfl
    have s2:cnt (fun i=>Pe p i || (Pd p i || Po p i)) 64=cnt (Pe p) 64+cnt (fun i=>Pd p i || Po p i) 64:=cnt_add fun i hi=>by
      unfold Pe Pd Po
      by_cases k3:kd p i=3
      · rw [k3]; cases parB i <;> rfl
      · rw [beq_eq_false_iff_ne.2 k3]; cases kd p i==0 <;> cases kd p i==6 <;> cases kd p i==2 <;> rfl
    have s3:cnt (fun i => !(kd p i==0)&&!(kd p i==6)) 64=cnt (Pn p) 64+cnt (fun i=>Pe p i || (Pd p i || Po p i)) 64:=cnt_add fun i hi=>by
      unfold Pn Pe Pd Po
      by_cases k3:kd p i=3
      · rw [k3]; cases parB i <;> rfl
      · rw [beq_eq_false_iff_ne.2 k3]
        by_cases k2:kd p i=2
        · rw [k2]; rfl
        · rw [beq_eq_false_iff_ne.2 k2]; cases kd p i==0 <;> cases kd p i==6 <;> rfl
    rw [s3,s2,s1]
  have pc:N175 (N143 p &&& ~~~N174 p 6)=((cnt (Pn p) 64+(cnt (Pe p) 64+(cnt (Pd p) 64+cnt (Po p) 64)):Nat):Int):=by
    rw [N175_pc,ones_cnt,cnt_congr men,sum]
  have pk:∀ c,c=0∨c=1→N175 (N101 p c 6)=((cnt (Pk p c) 64:Nat):Int):=fun c hc=>by
    rw [N175_pc,ones_cnt,cnt_congr (Q:=Pk p c) fun i hi=>by
      rw [N101_bit _ _ _ hi]
      rcases hc with rfl | rfl
      · exact (ka i).2.2.2.2.1
      · exact (ka i).2.2.2.2.2]
  have eA:matAR ((lp48_1 p (0,0,0,0,0,List.replicate 2 0)).getD default)=matAC (N143 p) (N174 p 6) (N174 p 3) (N174 p 2):=by
    unfold matAR matAC
    rw [h1,h2,h3,h4,bne,zero_cnt oth,pc,wi64 (n:=((cnt (Pn p) 64:Nat):Int)+((cnt (Pe p) 64:Nat):Int)) (by omega) (by omega),wi64 (by omega) (by omega)]
    by_cases hO:cnt (Po p) 64=0
    · rw [hO]
      simp only [decide_true,Bool.not_true,cond_false]
      rw [show (((0:Nat):Int)==0)=true from rfl,cond_true]
      by_cases hle:cnt (Pn p) 64+cnt (Pe p) 64+cnt (Pd p) 64≤1
      · rw [decide_eq_true (by omega),decide_eq_true (by omega)]; rfl
      · rw [decide_eq_false (by omega),decide_eq_false (by omega),cond_false,cond_false]
        have hOz:=cnt_zero.1 hO
        by_cases hN:cnt (Pn p) 64=0
        · have hNz:=cnt_zero.1 hN
          have all3:∀ i,i < 64→(!(kd p i==0)&&!(kd p i==6))=(kd p i==3):=fun i hi=>by
            have a:=hOz i hi
            have b:=hNz i hi
            unfold Po at a
            unfold Pn at b
            by_cases k3:kd p i=3
            · rw [k3]; rfl
            · rw [b,beq_eq_false_iff_ne.2 k3] at a
              rw [beq_eq_false_iff_ne.2 k3]
              revert a
              cases kd p i==0 <;> cases kd p i==6 <;> simp
          have e1:(N143 p &&& ~~~N174 p 6==N174 p 3)=true:=by
            rw [beq_iff_eq]
            exact BitVec.eq_of_getLsbD_eq fun i hi=>by rw [men i hi,bit174 hp _ hi,(ka i).2.2.1]; exact all3 i hi
          have z1:(N143 p &&& ~~~N174 p 6&&&lightC==0#64)=decide (cnt (Pd p) 64=0):=zero_cnt fun i hi=>by
            rw [BitVec.getLsbD_and,men i hi,all3 i hi]
            unfold lightC
            rw [par_fin ⟨i,hi⟩]; rfl
          have z2:(N143 p &&& ~~~N174 p 6 &&& ~~~lightC==0#64)=decide (cnt (Pe p) 64=0):=zero_cnt fun i hi=>by
            rw [BitVec.getLsbD_and,BitVec.getLsbD_not,men i hi,all3 i hi]
            unfold lightC
            rw [par_fin ⟨i,hi⟩]; simp [hi,Pe]
          rw [hN,e1,z1,z2,show (((0:Nat):Int)==0)=true from rfl,cond_true,cond_true]
          by_cases x1:cnt (Pe p) 64=0 <;> by_cases x2:cnt (Pd p) 64=0
          · rw [x1,x2]; rfl
          · rw [x1,decide_eq_false x2]; rfl
          · rw [x2,decide_eq_false x1,beq_eq_false_iff_ne.2 (show ((cnt (Pe p) 64:Nat):Int)≠0 by omega)]; rfl
          · rw [decide_eq_false x1,decide_eq_false x2,beq_eq_false_iff_ne.2 (show ((cnt (Pe p) 64:Nat):Int)≠0 by omega),beq_eq_false_iff_ne.2 (show ((cnt (Pd p) 64:Nat):Int)≠0 by omega)]
        · have e1:(N143 p &&& ~~~N174 p 6==N174 p 3)=false:=by
            rw [beq_eq_false_iff_ne]
            intro e
            refine hN (cnt_zero.2 fun i hi => ?_)
            have:=congrArg (fun x=>x.getLsbD i) e
            rw [men i hi,bit174 hp _ hi,(ka i).2.2.1] at this
            unfold Pn
            cases h2:kd p i==2 with
            | false=>rfl
            | true =>
              rw [beq_iff_eq.1 h2] at this
              cases this
          rw [e1,beq_eq_false_iff_ne.2 (show ((cnt (Pn p) 64:Nat):Int)≠0 by omega)]
          rfl
    · rw [decide_eq_false hO,beq_eq_false_iff_ne.2 (show ((cnt (Po p) 64:Nat):Int)≠0 by omega)]
      rfl
  have eB:matBR ((lp48_1 p (0,0,0,0,0,List.replicate 2 0)).getD default)=matBC (N143 p) (N101 p 0 6) (N101 p 1 6):=by
    unfold matBR matBC
    rw [h1,h2,h3,h4,h5,pk 0 (.inl rfl),pk 1 (.inr rfl),wi64 (n:=((cnt (Po p) 64:Nat):Int)+((cnt (Pn p) 64:Nat):Int)) (by omega) (by omega),wi64 (n:=((cnt (Po p) 64:Nat):Int)+((cnt (Pn p) 64:Nat):Int)+((cnt (Pe p) 64:Nat):Int)) (by omega) (by omega),wi64 (by omega) (by omega)]
    have e:(N143 p==N101 p 0 6|||N101 p 1 6)=decide (cnt (fun i => !(kd p i==0)&&!(kd p i==6)) 64=0):=by
      rw [Bool.eq_iff_iff,beq_iff_eq,decide_eq_true_eq,cnt_zero]
      have bits:∀ i,i < 64→(N143 p).getLsbD i=!(kd p i==0)∧(N101 p 0 6|||N101 p 1 6).getLsbD i=(kd p i==6):=fun i hi=>by
        rw [N143_bit _ hi,BitVec.getLsbD_or,N101_bit _ _ _ hi,N101_bit _ _ _ hi]
        exact ⟨(ka i).1,(ka i).2.1⟩
      constructor
      · intro e i hi
        obtain ⟨x1,x2⟩:=bits i hi
        rw [e,x2] at x1
        rw [← x1]
        cases kd p i==6 <;> rfl
      · intro h
        refine BitVec.eq_of_getLsbD_eq fun i hi => ?_
        obtain ⟨x1,x2⟩:=bits i hi
        rw [x1,x2]
        have:=h i hi
        by_cases k6:kd p i=6
        · rw [k6]; rfl
        · rw [beq_eq_false_iff_ne.2 k6] at this ⊢
          simpa using this
    rw [e,sum]
    by_cases hz:cnt (Pn p) 64+(cnt (Pe p) 64+(cnt (Pd p) 64+cnt (Po p) 64))=0
    · rw [decide_eq_true hz,beq_iff_eq.2 (show ((cnt (Po p) 64:Nat):Int)+((cnt (Pn p) 64:Nat):Int)+((cnt (Pe p) 64:Nat):Int)+((cnt (Pd p) 64:Nat):Int)=0 by omega)]
      show ([((cnt (Pk p 0) 64:Nat):Int),((cnt (Pk p 1) 64:Nat):Int)]==[(1:Int),1]&&true)=_
      rw [Bool.and_true,cond_true]
      rw [Bool.eq_iff_iff]
      by_cases q0:((cnt (Pk p 0) 64:Nat):Int)=1
      · rw [q0]
        by_cases q1:((cnt (Pk p 1) 64:Nat):Int)=1
        · rw [q1]; exact ⟨fun _=>rfl,fun _=>rfl⟩
        · rw [beq_eq_false_iff_ne.2 q1]; simp [q1]
      · rw [beq_eq_false_iff_ne.2 q0]; simp [q0]
    · rw [decide_eq_false hz,beq_eq_false_iff_ne.2 (show ((cnt (Po p) 64:Nat):Int)+((cnt (Pn p) 64:Nat):Int)+((cnt (Pe p) 64:Nat):Int)+((cnt (Pd p) 64:Nat):Int)≠0 by omega)]
      rfl
  rw [eA,eB]
end
end Kz
end
section
namespace Kz
open Go Go.RowKit Go.Proofs
set_option maxRecDepth 100000
set_option maxHeartbeats 4000000
noncomputable def K34:List (Nat×Nat×List (Nat×List Nat)):=[]
noncomputable def B34:Base:=baseOf Pz (fun f i=>lkC f i K34) [] [] []
theorem hB34:BOk B34:=base_ok named_z trivial trivial trivial
noncomputable def V66:AV:=AV.agg [AV.func 30 [] [],AV.func 80 [] [],AV.func 81 [] [],AV.func 82 [] []]
noncomputable def ok34:Bool:=true
theorem E34:evPure B34 14 34 []=Tr.ret V66:=by kernel_rfl
theorem P34 (_:ok34=true):PS Pz 34 [] V66:=evPure_ok hB34 (by rw [E34]; rfl)
noncomputable def G34:List AV→Tr AV:=g0 (.ret V66)
theorem s34:Sound Pz 34 G34:=sound0 (at_rt (P34 rfl))
noncomputable def K136:List (Nat×Nat×List (Nat×List Nat)):=[(136,5,[(0,[0,2]),(1,[2])])]
noncomputable def B136:Base:=baseOf Pz (fun f i=>lkC f i K136) [] [] []
theorem hB136:BOk B136:=base_ok named_z trivial trivial trivial
noncomputable def N136 (a:Int):(Int×Int):=⟨(3),(a)⟩
noncomputable def ok136 (a:Int):Bool:=true
theorem P136 (a:Int) (h:ok136 a=true):PS Pz 136 [.int .u8 a] ((dR .u8 .u8).res (N136 a)):=ps_sum (n:=14) hB136 (by kernel_rfl) (by kernel_rfl) (by kernel_rfl) h
noncomputable def G136:List AV→Tr AV:=g1 (dI .u8) (fun a=>.ret ((dR .u8 .u8).res (N136 a)))
theorem s136:Sound Pz 136 G136:=sound1 fun a=>at_rt (P136 a rfl)
noncomputable def K80:List (Nat×Nat×List (Nat×List Nat)):=[(80,26,[(0,[1,2]),(1,[1,2,6]),(2,[2]),(3,[1,2,8]),(4,[2]),(5,[1,2,16]),(6,[2]),(7,[2])])]
noncomputable def B80:Base:=baseOf Pz (fun f i=>lkC f i K80) [(11,G11),(103,G103),(136,G136)] [] []
theorem hB80:BOk B80:=base_ok named_z ⟨s11,s103,s136,trivial⟩ trivial trivial
noncomputable def N80 (a:Pos):(Int×Int):=(bif decide (Int.ofNat (N11 a).length > 0) then ⟨(0),(0)⟩ else (bif a.variant==4 then ⟨(wr .u8 (1+a.turn)),(8)⟩ else (bif N103 a a.turn then ⟨(wr .u8 (2 - a.turn)),(1)⟩ else ⟨((N136 2).fst),((N136 2).snd)⟩)))
noncomputable def ok80 (a:Pos):Bool:=(ok11 (a)&&(bif decide (Int.ofNat (N11 a).length > 0) then true else (bif a.variant==4 then true else (ok103 (a) (a.turn)&&true))))
theorem P80 (a:Pos) (h:ok80 a=true):PS Pz 80 [Pos.av a] ((dR .u8 .u8).res (N80 a)):=ps_sum (n:=14) hB80 (by kernel_rfl) (by kernel_rfl) (by kernel_rfl) h
noncomputable def G80:List AV→Tr AV:=g1 dPos (fun a=>gdv (ok80 a) ((dR .u8 .u8).res (N80 a)))
theorem s80:Sound Pz 80 G80:=sound1 fun a=>at_gd (P80 a)
noncomputable def K81:List (Nat×Nat×List (Nat×List Nat)):=[(81,7,[(0,[1,2]),(1,[2,4]),(2,[2]),(3,[2])])]
noncomputable def B81:Base:=baseOf Pz (fun f i=>lkC f i K81) [(137,G137),(136,G136)] [] []
theorem hB81:BOk B81:=base_ok named_z ⟨s137,s136,trivial⟩ trivial trivial
noncomputable def N81 (a:Pos):(Int×Int):=(bif N137 (Pos.mk a.variant a.board a.promoted a.pockets a.turn a.rooks a.passing a.checks a.half a.full) then ⟨((N136 3).fst),((N136 3).snd)⟩ else ⟨(0),(0)⟩)
noncomputable def ok81 (a:Pos):Bool:=(ok137 (Pos.mk a.variant a.board a.promoted a.pockets a.turn a.rooks a.passing a.checks a.half a.full)&&true)
theorem P81 (a:Pos) (h:ok81 a=true):PS Pz 81 [Pos.av a] ((dR .u8 .u8).res (N81 a)):=ps_sum (n:=14) hB81 (by kernel_rfl) (by kernel_rfl) (by kernel_rfl) h
noncomputable def G81:List AV→Tr AV:=g1 dPos (fun a=>gdv (ok81 a) ((dR .u8 .u8).res (N81 a)))
theorem s81:Sound Pz 81 G81:=sound1 fun a=>at_gd (P81 a)
noncomputable def K82:List (Nat×Nat×List (Nat×List Nat)):=[(82,8,[(0,[1,2]),(1,[2,5]),(2,[2]),(3,[2])])]
noncomputable def B82:Base:=baseOf Pz (fun f i=>lkC f i K82) [(136,G136)] [] []
theorem hB82:BOk B82:=base_ok named_z ⟨s136,trivial⟩ trivial trivial
noncomputable def N82 (a:Pos):(Int×Int):=(bif decide (a.half ≥ 150) then ⟨((N136 4).fst),((N136 4).snd)⟩ else ⟨(0),(0)⟩)
noncomputable def ok82 (a:Pos):Bool:=true
theorem P82 (a:Pos) (h:ok82 a=true):PS Pz 82 [Pos.av a] ((dR .u8 .u8).res (N82 a)):=ps_sum (n:=14) hB82 (by kernel_rfl) (by kernel_rfl) (by kernel_rfl) h
noncomputable def G82:List AV→Tr AV:=g1 dPos (fun a=>.ret ((dR .u8 .u8).res (N82 a)))
theorem s82:Sound Pz 82 G82:=sound1 fun a=>at_rt (P82 a rfl)
noncomputable def K14:List (Nat×Nat×List (Nat×List Nat)):=[(14,29,[(0,[1,2,10,11,12]),(1,[1,2,13]),(2,[2]),(3,[1,2,15,16]),(4,[1,2,15,16,17]),(5,[1,2,4,15,16]),(6,[1,2,5,15,16]),(7,[1,2,5,15,16,25]),(8,[2]),(9,[1,2,15,16]),(10,[2])])]
noncomputable def B14:Base:=baseOf Pz (fun f i=>lkC f i K14) [(30,G30),(34,G34),(80,G80),(81,G81),(82,G82)] [] []
theorem hB14:BOk B14:=base_ok named_z ⟨s30,s34,s80,s81,s82,trivial⟩ trivial trivial
noncomputable def N14 (a:Pos):(Int×Int):=(bif decide (a.variant ≥ 9) then ⟨(0),(0)⟩ else (bif decide (a.turn > 1) then ⟨(0),(0)⟩ else (bif (N30 a).fst != 0 then ⟨((N30 a).fst),((N30 a).snd)⟩ else (bif (N80 a).fst != 0 then ⟨((N80 a).fst),((N80 a).snd)⟩ else (bif (N81 a).fst != 0 then ⟨((N81 a).fst),((N81 a).snd)⟩ else (bif (N82 a).fst != 0 then ⟨((N82 a).fst),((N82 a).snd)⟩ else ⟨(0),(0)⟩))))))
noncomputable def ok14 (a:Pos):Bool:=(bif decide (a.variant ≥ 9) then true else (bif decide (a.turn > 1) then true else (ok30 (a)&&(bif (N30 a).fst != 0 then true else (ok80 (a)&&(bif (N80 a).fst != 0 then true else (ok81 (a)&&true)))))))
theorem P14 (a:Pos) (h:ok14 a=true):PS Pz 14 [Pos.av a] ((dR .u8 .u8).res (N14 a)):=ps_sum (n:=14) hB14 (by kernel_rfl) (by kernel_rfl) (by kernel_rfl) h
noncomputable def G14:List AV→Tr AV:=g1 dPos (fun a=>gdv (ok14 a) ((dR .u8 .u8).res (N14 a)))
theorem s14:Sound Pz 14 G14:=sound1 fun a=>at_gd (P14 a)
end Kz
end
section
namespace Kz
open Go Go.RowKit
set_option maxRecDepth 100000
set_option maxHeartbeats 4000000
theorem t174 (p:Pos) (b:Int):ok174 p b=true:=a_true (t101 _ _ _) fun _=>a_true (t101 _ _ _) fun _=>rfl
theorem t137 (p:Pos):ok137 p=true:=by
  unfold ok137
  rw [show (Pos.mk p.variant p.board p.promoted p.pockets p.turn p.rooks p.passing p.checks p.half p.full)=p from rfl]
  repeat' (first | with_reducible rfl | with_reducible exact t143 _ | with_reducible exact t174 _ _ | with_reducible exact t101 _ _ _ | refine a_true ?_ (fun _ => ?_) | refine c_true (fun _ => ?_) (fun _ => ?_))
theorem t81 (p:Pos):ok81 p=true:=a_true (t137 _) fun _=>rfl
theorem t80 {p:Pos} (hp:PosIn p):ok80 p=true:=a_true (t11 hp) fun _=>c_true (fun _=>rfl) fun _=>c_true (fun _=>rfl) fun _=>a_true (t103 hp.v0 hp.t0) fun _=>rfl
theorem t14 {p:Pos} (hp:PosIn p):ok14 p=true:=c_true (fun _=>rfl) fun _=>c_true (fun _=>rfl) fun _=>a_true (t30 hp) fun _=>c_true (fun _=>rfl) fun _=>a_true (t80 hp) fun _=>c_true (fun _=>rfl) fun _=>a_true (t81 p) fun _=>rfl
theorem N14_not {p:Pos} (h:¬ there p):N14 p=(0,0):=by
  unfold there at h
  unfold N14
  refine c_ind (P:=fun r:Int×Int=>r=(0,0)) (fun _=>rfl) fun h1=>c_ind (P:=fun r:Int×Int=>r=(0,0)) (fun _=>rfl) fun h2 => ?_
  have h1:p.variant < 9:=by simpa using h1
  have h2:p.turn≤1:=by simpa using h2
  exact absurd ⟨h2,h1⟩ h
theorem N14_there {p:Pos} (h:there p):N14 p=bif (N30 p).1 != 0 then N30 p else bif (N80 p).1 != 0 then N80 p else bif (N81 p).1 != 0 then N81 p else bif (N82 p).1 != 0 then N82 p else (0,0):=by
  obtain ⟨h1,h2⟩:=h
  unfold N14
  rw [show decide (p.variant ≥ 9)=false by simp; omega,show decide (p.turn > 1)=false by simp; omega]
  rfl
section
variable {p:Pos} (hp:PosIn p) {h f:Int} (hq:PosIn (cl h f p))
include hp hq
end
end Kz
end
section
namespace Kz
open Go Go.RowKit Go.Proofs
set_option maxRecDepth 100000
set_option maxHeartbeats 4000000
noncomputable def K18:List (Nat×Nat×List (Nat×List Nat)):=[(18,43,[(0,[1,2]),(1,[1,2,8]),(2,[2]),(3,[1,2,3]),(4,[1,2,3,14]),(5,[2]),(6,[1,2,19]),(7,[1,2,4,5]),(8,[1,2,4,5,22]),(9,[1,2,4]),(10,[1,2,4,5]),(11,[1,2,4,5,25]),(12,[2]),(13,[2,5,31]),(14,[2]),(15,[2]),(16,[1,2,36]),(17,[2]),(18,[2,40]),(19,[2]),(20,[2])])]
noncomputable def B18:Base:=baseOf Pz (fun f i=>lkC f i K18) [(12,G12),(19,G19),(32,G32),(47,G47),(48,G48)] [] []
theorem hB18:BOk B18:=base_ok named_z ⟨s12,s19,s32,s47,s48,trivial⟩ trivial trivial
noncomputable def N18 (a:Pos):(Int×Int):=(bif !N19 a then ⟨(0),(0)⟩ else (bif (N32 a).fst != 0 then ⟨((N32 a).fst),((N32 a).snd)⟩ else (bif Int.ofNat (N12 a).length==0 then (bif a.turn==1 then (bif a.variant==4 then ⟨(2),(8)⟩ else (bif N47 a a.turn then ⟨(1),(1)⟩ else ⟨(3),(2)⟩)) else (bif a.variant==4 then ⟨(1),(8)⟩ else (bif N47 a a.turn then ⟨(2),(1)⟩ else ⟨(3),(2)⟩))) else (bif N48 a then ⟨(3),(3)⟩ else (bif decide (a.half ≥ 150) then ⟨(3),(4)⟩ else ⟨(0),(0)⟩)))))
noncomputable def ok18 (a:Pos):Bool:=(bif !N19 a then true else (ok32 (a)&&(bif (N32 a).fst != 0 then true else (ok12 (a)&&(bif Int.ofNat (N12 a).length==0 then (bif a.turn==1 then (bif a.variant==4 then true else (ok47 (a) (a.turn)&&true)) else (bif a.variant==4 then true else (ok47 (a) (a.turn)&&true))) else (ok48 (a)&&true))))))
theorem P18 (a:Pos) (h:ok18 a=true):PS Pz 18 [Pos.av a] ((dR .u8 .u8).res (N18 a)):=ps_sum (n:=14) hB18 (by kernel_rfl) (by kernel_rfl) (by kernel_rfl) h
noncomputable def G18:List AV→Tr AV:=g1 dPos (fun a=>gdv (ok18 a) ((dR .u8 .u8).res (N18 a)))
theorem s18:Sound Pz 18 G18:=sound1 fun a=>at_gd (P18 a)
noncomputable def K35:List (Nat×Nat×List (Nat×List Nat)):=[(35,37,[(0,[1]),(1,[1,3]),(2,[1,3,4]),(3,[1,3,4,7]),(4,[2]),(5,[1,3,4,12]),(6,[2]),(7,[1,3,4,18]),(8,[2]),(9,[2])])]
noncomputable def B35:Base:=baseOf Pz (fun f i=>lkC f i K35) [] [] []
theorem hB35:BOk B35:=base_ok named_z trivial trivial trivial
noncomputable def N35 (a:(Int×Int)):List UInt8:=(bif decide (wr .i64 a.fst ≥ 4) then ((ByteArray.mk #[63]).data.toList) else (bif a.fst==0 then ((ByteArray.mk #[42]).data.toList) else (bif decide (wr .i64 a.snd ≥ 9) then (bif a.fst==↑0 then ((ByteArray.mk #[42]).data.toList++(ByteArray.mk #[63]).data.toList) else (bif a.fst==↑1 then ((ByteArray.mk #[49,45,48,32]).data.toList++(ByteArray.mk #[63]).data.toList) else (bif a.fst==↑2 then ((ByteArray.mk #[48,45,49,32]).data.toList++(ByteArray.mk #[63]).data.toList) else ((ByteArray.mk #[49,47,50,32]).data.toList++(ByteArray.mk #[63]).data.toList)))) else (bif a.fst==↑0 then (bif a.snd==↑0 then ((ByteArray.mk #[42]).data.toList++(ByteArray.mk #[63]).data.toList) else (bif a.snd==↑1 then ((ByteArray.mk #[42]).data.toList++(ByteArray.mk #[109,97,116,101]).data.toList) else (bif a.snd==↑2 then ((ByteArray.mk #[42]).data.toList++(ByteArray.mk #[115,116,97,108,101,109,97,116,101]).data.toList) else (bif a.snd==↑3 then ((ByteArray.mk #[42]).data.toList++(ByteArray.mk #[109,97,116,101,114,105,97,108]).data.toList) else (bif a.snd==↑4 then ((ByteArray.mk #[42]).data.toList++(ByteArray.mk #[99,108,111,99,107]).data.toList) else (bif a.snd==↑5 then ((ByteArray.mk #[42]).data.toList++(ByteArray.mk #[114,101,112,101,116,105,116,105,111,110]).data.toList) else (bif a.snd==↑6 then ((ByteArray.mk #[42]).data.toList++(ByteArray.mk #[107,105,110,103]).data.toList) else (bif a.snd==↑7 then ((ByteArray.mk #[42]).data.toList++(ByteArray.mk #[99,104,101,99,107,115]).data.toList) else ((ByteArray.mk #[42]).data.toList++(ByteArray.mk #[108,97,115,116]).data.toList))))))))) else (bif a.fst==↑1 then (bif a.snd==↑0 then ((ByteArray.mk #[49,45,48,32]).data.toList++(ByteArray.mk #[63]).data.toList) else (bif a.snd==↑1 then ((ByteArray.mk #[49,45,48,32]).data.toList++(ByteArray.mk #[109,97,116,101]).data.toList) else (bif a.snd==↑2 then ((ByteArray.mk #[49,45,48,32]).data.toList++(ByteArray.mk #[115,116,97,108,101,109,97,116,101]).data.toList) else (bif a.snd==↑3 then ((ByteArray.mk #[49,45,48,32]).data.toList++(ByteArray.mk #[109,97,116,101,114,105,97,108]).data.toList) else (bif a.snd==↑4 then ((ByteArray.mk #[49,45,48,32]).data.toList++(ByteArray.mk #[99,108,111,99,107]).data.toList) else (bif a.snd==↑5 then ((ByteArray.mk #[49,45,48,32]).data.toList++(ByteArray.mk #[114,101,112,101,116,105,116,105,111,110]).data.toList) else (bif a.snd==↑6 then ((ByteArray.mk #[49,45,48,32]).data.toList++(ByteArray.mk #[107,105,110,103]).data.toList) else (bif a.snd==↑7 then ((ByteArray.mk #[49,45,48,32]).data.toList++(ByteArray.mk #[99,104,101,99,107,115]).data.toList) else ((ByteArray.mk #[49,45,48,32]).data.toList++(ByteArray.mk #[108,97,115,116]).data.toList))))))))) else (bif a.fst==↑2 then (bif a.snd==↑0 then ((ByteArray.mk #[48,45,49,32]).data.toList++(ByteArray.mk #[63]).data.toList) else (bif a.snd==↑1 then ((ByteArray.mk #[48,45,49,32]).data.toList++(ByteArray.mk #[109,97,116,101]).data.toList) else (bif a.snd==↑2 then ((ByteArray.mk #[48,45,49,32]).data.toList++(ByteArray.mk #[115,116,97,108,101,109,97,116,101]).data.toList) else (bif a.snd==↑3 then ((ByteArray.mk #[48,45,49,32]).data.toList++(ByteArray.mk #[109,97,116,101,114,105,97,108]).data.toList) else (bif a.snd==↑4 then ((ByteArray.mk #[48,45,49,32]).data.toList++(ByteArray.mk #[99,108,111,99,107]).data.toList) else (bif a.snd==↑5 then ((ByteArray.mk #[48,45,49,32]).data.toList++(ByteArray.mk #[114,101,112,101,116,105,116,105,111,110]).data.toList) else (bif a.snd==↑6 then ((ByteArray.mk #[48,45,49,32]).data.toList++(ByteArray.mk #[107,105,110,103]).data.toList) else (bif a.snd==↑7 then ((ByteArray.mk #[48,45,49,32]).data.toList++(ByteArray.mk #[99,104,101,99,107,115]).data.toList) else ((ByteArray.mk #[48,45,49,32]).data.toList++(ByteArray.mk #[108,97,115,116]).data.toList))))))))) else (bif a.snd==↑0 then ((ByteArray.mk #[49,47,50,32]).data.toList++(ByteArray.mk #[63]).data.toList) else (bif a.snd==↑1 then ((ByteArray.mk #[49,47,50,32]).data.toList++(ByteArray.mk #[109,97,116,101]).data.toList) else (bif a.snd==↑2 then ((ByteArray.mk #[49,47,50,32]).data.toList++(ByteArray.mk #[115,116,97,108,101,109,97,116,101]).data.toList) else (bif a.snd==↑3 then ((ByteArray.mk #[49,47,50,32]).data.toList++(ByteArray.mk #[109,97,116,101,114,105,97,108]).data.toList) else (bif a.snd==↑4 then ((ByteArray.mk #[49,47,50,32]).data.toList++(ByteArray.mk #[99,108,111,99,107]).data.toList) else (bif a.snd==↑5 then ((ByteArray.mk #[49,47,50,32]).data.toList++(ByteArray.mk #[114,101,112,101,116,105,116,105,111,110]).data.toList) else (bif a.snd==↑6 then ((ByteArray.mk #[49,47,50,32]).data.toList++(ByteArray.mk #[107,105,110,103]).data.toList) else (bif a.snd==↑7 then ((ByteArray.mk #[49,47,50,32]).data.toList++(ByteArray.mk #[99,104,101,99,107,115]).data.toList) else ((ByteArray.mk #[49,47,50,32]).data.toList++(ByteArray.mk #[108,97,115,116]).data.toList)))))))))))))))
noncomputable def ok35 (a:(Int×Int)):Bool:=(bif decide (wr .i64 a.fst ≥ 4) then true else (bif a.fst==0 then true else (bif decide (wr .i64 a.snd ≥ 9) then (decide (0≤a.fst)&&decide (a.fst < ↑4)&&(bif a.fst==↑0 then (decide (2≤1073741824)&&true) else (bif a.fst==↑1 then (decide (5≤1073741824)&&true) else (bif a.fst==↑2 then (decide (5≤1073741824)&&true) else (a.fst==↑3&&(decide (5≤1073741824)&&true)))))) else (decide (0≤a.fst)&&decide (a.fst < ↑4)&&(bif a.fst==↑0 then (decide (0≤a.snd)&&decide (a.snd < ↑9)&&(bif a.snd==↑0 then (decide (2≤1073741824)&&true) else (bif a.snd==↑1 then (decide (5≤1073741824)&&true) else (bif a.snd==↑2 then (decide (10≤1073741824)&&true) else (bif a.snd==↑3 then (decide (9≤1073741824)&&true) else (bif a.snd==↑4 then (decide (6≤1073741824)&&true) else (bif a.snd==↑5 then (decide (11≤1073741824)&&true) else (bif a.snd==↑6 then (decide (5≤1073741824)&&true) else (bif a.snd==↑7 then (decide (7≤1073741824)&&true) else (a.snd==↑8&&(decide (5≤1073741824)&&true))))))))))) else (bif a.fst==↑1 then (decide (0≤a.snd)&&decide (a.snd < ↑9)&&(bif a.snd==↑0 then (decide (5≤1073741824)&&true) else (bif a.snd==↑1 then (decide (8≤1073741824)&&true) else (bif a.snd==↑2 then (decide (13≤1073741824)&&true) else (bif a.snd==↑3 then (decide (12≤1073741824)&&true) else (bif a.snd==↑4 then (decide (9≤1073741824)&&true) else (bif a.snd==↑5 then (decide (14≤1073741824)&&true) else (bif a.snd==↑6 then (decide (8≤1073741824)&&true) else (bif a.snd==↑7 then (decide (10≤1073741824)&&true) else (a.snd==↑8&&(decide (8≤1073741824)&&true))))))))))) else (bif a.fst==↑2 then (decide (0≤a.snd)&&decide (a.snd < ↑9)&&(bif a.snd==↑0 then (decide (5≤1073741824)&&true) else (bif a.snd==↑1 then (decide (8≤1073741824)&&true) else (bif a.snd==↑2 then (decide (13≤1073741824)&&true) else (bif a.snd==↑3 then (decide (12≤1073741824)&&true) else (bif a.snd==↑4 then (decide (9≤1073741824)&&true) else (bif a.snd==↑5 then (decide (14≤1073741824)&&true) else (bif a.snd==↑6 then (decide (8≤1073741824)&&true) else (bif a.snd==↑7 then (decide (10≤1073741824)&&true) else (a.snd==↑8&&(decide (8≤1073741824)&&true))))))))))) else (a.fst==↑3&&(decide (0≤a.snd)&&decide (a.snd < ↑9)&&(bif a.snd==↑0 then (decide (5≤1073741824)&&true) else (bif a.snd==↑1 then (decide (8≤1073741824)&&true) else (bif a.snd==↑2 then (decide (13≤1073741824)&&true) else (bif a.snd==↑3 then (decide (12≤1073741824)&&true) else (bif a.snd==↑4 then (decide (9≤1073741824)&&true) else (bif a.snd==↑5 then (decide (14≤1073741824)&&true) else (bif a.snd==↑6 then (decide (8≤1073741824)&&true) else (bif a.snd==↑7 then (decide (10≤1073741824)&&true) else (a.snd==↑8&&(decide (8≤1073741824)&&true)))))))))))))))))))
theorem P35 (a:(Int×Int)) (h:ok35 a=true):PS Pz 35 [(dR .u8 .u8).arg a] (dS.res (N35 a)):=ps_sum (n:=14) hB35 (by kernel_rfl) (by kernel_rfl) (by kernel_rfl) h
noncomputable def G35:List AV→Tr AV:=g1 (dR .u8 .u8) (fun a=>gdv (ok35 a) (dS.res (N35 a)))
theorem s35:Sound Pz 35 G35:=sound1 fun a=>at_gd (P35 a)
noncomputable def K36:List (Nat×Nat×List (Nat×List Nat)):=[(36,32,[(0,[0,1,2,6]),(1,[2,6,7]),(2,[2,6,7,8]),(3,[2,6,7,8,16]),(4,[2,6,7,8]),(5,[2,6,7,8]),(6,[6])])]
noncomputable def B36_1:Base:=baseOf Pz (fun f i=>lkC f i K36) [] [] []
theorem hB36_1:BOk B36_1:=base_ok named_z trivial trivial trivial
noncomputable def S36_1 (p1:(List Int)) (x:(Int×Pos)):St:=St.mk (AV.any::AV.any::AV.list (ET.i .i64) p1 Tk.arg::(an 3 (AV.ptr 0 0::AV.ptr 1 0::AV.int .i64 x.fst::(an 23 [])))) (Hp.mk [[AV.int .u8 0,AV.ints .u8 64 (li (List.replicate 64 0)),AV.u64 0,AV.ints .u8 12 (li [0,0,0,0,0,0,0,0,0,0,0,0]),AV.int .u8 0,AV.ints .i8 4 (li [0,0,0,0]),AV.int .i8 0,AV.ints .u8 2 (li [0,0]),AV.int .i64 0,AV.int .i64 0],(pc x.snd [])] [] [] 0 0 0)
noncomputable def O36_1 (p1:(List Int)):(Int×Bool×Pos)→Out:=fun y=>.exit 0 (St.mk (AV.any::AV.any::AV.list (ET.i .i64) p1 Tk.arg::(an 3 (AV.ptr 0 0::AV.ptr 1 0::AV.int .i64 y.fst::(an 7 (AV.bool y.snd.fst::(an 15 [])))))) (Hp.mk [[AV.int .u8 0,AV.ints .u8 64 (li (List.replicate 64 0)),AV.u64 0,AV.ints .u8 12 (li [0,0,0,0,0,0,0,0,0,0,0,0]),AV.int .u8 0,AV.ints .i8 4 (li [0,0,0,0]),AV.int .i8 0,AV.ints .u8 2 (li [0,0]),AV.int .i64 0,AV.int .i64 0],(pc y.snd.snd [])] [] [] 0 0 0))
noncomputable def st36_1 (p1:(List Int)) (x:(Int×Pos)):Stp (Int×Pos) ((Int×Bool×Pos)):=(bif decide (wr .i64 (x.fst+1) < Int.ofNat p1.length) then (Stp.go (wr .i64 (x.fst+2),Pos.mk x.snd.variant (x.snd.board.set (scale 1 (p1.getD x.fst.toNat default)).toNat (wr .u8 (p1.getD (wr .i64 (x.fst+1)).toNat default))) x.snd.promoted x.snd.pockets x.snd.turn x.snd.rooks x.snd.passing x.snd.checks x.snd.half x.snd.full)) else (Stp.out ((x.fst,decide (wr .i64 (x.fst+1) < Int.ofNat p1.length),x.snd))))
noncomputable def okL36_1 (p1:(List Int)) (x:(Int×Pos)):Bool:=(bif decide (wr .i64 (x.fst+1) < Int.ofNat p1.length) then (decide (0≤x.fst)&&decide (x.fst < Int.ofNat p1.length)&&(decide (0≤wr .i64 (x.fst+1))&&decide (wr .i64 (x.fst+1) < Int.ofNat p1.length)&&(decide (0≤p1.getD x.fst.toNat default)&&decide (p1.getD x.fst.toNat default < Int.ofNat 64)&&true))) else true)
noncomputable def lp36_1 (p1:(List Int)) (x:(Int×Pos)):Option ((Int×Bool×Pos)):=itl (fun x=>bif okL36_1 p1 x then st36_1 p1 x else .bad) many x
abbrev D36_1 {α:Type} (k:(List Int)→(Int×Pos)→α) (s:St):α:=wP s 1 fun q1=>k (tL (ET.i .i64) (tT s 2)) ((tI (tT s 8)),q1)
theorem L36_1 (p1:(List Int)) (x:(Int×Pos)) (r:(Int×Bool×Pos)) (h:lp36_1 p1 x=some r):LSpec Pz (bodL Pz 36 3) (S36_1 p1 x) (O36_1 p1 r):=LSpec.smd (m:=12) (fn:=36) hB36_1 (D36_1 fun _ x=>some x) (fun o=>match o with | .exit 0 s=>wP s 1 fun q1=>some ((tI (tT s 8)),(tB (tT s 16)),q1) | _=>none) (fun _=>rfl) (fun _=>by kernel_rfl) (fun _=>by kernel_rfl) (fun _=>by kernel_rfl) (fun _=>by kernel_rfl) many x r h
noncomputable def F36_1 (b:Code) (s:St):Tr Out:=D36_1 (fun p1 x=>lk1 b (bodL Pz 36 3) s (S36_1 p1 x) (lp36_1 p1 x) (O36_1 p1)) s
theorem sF36_1:∀ b,LSound Pz b (F36_1 b):=fun _ _ _ h=>lk1_ok (L36_1 _ _) h
noncomputable def B36:Base:=baseOf Pz (fun f i=>lkC f i K36) [] [(36,3,F36_1)] []
theorem hB36:BOk B36:=base_ok named_z trivial ⟨sF36_1,trivial⟩ trivial
noncomputable def N36 (a:Int) (b:Int) (c:List Int):Pos:=⟨(((lp36_1 c (0,Pos.mk 0 (li (List.replicate 64 0)) 0 (li [0,0,0,0,0,0,0,0,0,0,0,0]) a (li [0,0,0,0]) (-1) (li [0,0]) b 1)).getD default).snd.snd.variant),(((lp36_1 c (0,Pos.mk 0 (li (List.replicate 64 0)) 0 (li [0,0,0,0,0,0,0,0,0,0,0,0]) a (li [0,0,0,0]) (-1) (li [0,0]) b 1)).getD default).snd.snd.board),(((lp36_1 c (0,Pos.mk 0 (li (List.replicate 64 0)) 0 (li [0,0,0,0,0,0,0,0,0,0,0,0]) a (li [0,0,0,0]) (-1) (li [0,0]) b 1)).getD default).snd.snd.promoted),(((lp36_1 c (0,Pos.mk 0 (li (List.replicate 64 0)) 0 (li [0,0,0,0,0,0,0,0,0,0,0,0]) a (li [0,0,0,0]) (-1) (li [0,0]) b 1)).getD default).snd.snd.pockets),(((lp36_1 c (0,Pos.mk 0 (li (List.replicate 64 0)) 0 (li [0,0,0,0,0,0,0,0,0,0,0,0]) a (li [0,0,0,0]) (-1) (li [0,0]) b 1)).getD default).snd.snd.turn),(((lp36_1 c (0,Pos.mk 0 (li (List.replicate 64 0)) 0 (li [0,0,0,0,0,0,0,0,0,0,0,0]) a (li [0,0,0,0]) (-1) (li [0,0]) b 1)).getD default).snd.snd.rooks),(((lp36_1 c (0,Pos.mk 0 (li (List.replicate 64 0)) 0 (li [0,0,0,0,0,0,0,0,0,0,0,0]) a (li [0,0,0,0]) (-1) (li [0,0]) b 1)).getD default).snd.snd.passing),(((lp36_1 c (0,Pos.mk 0 (li (List.replicate 64 0)) 0 (li [0,0,0,0,0,0,0,0,0,0,0,0]) a (li [0,0,0,0]) (-1) (li [0,0]) b 1)).getD default).snd.snd.checks),(((lp36_1 c (0,Pos.mk 0 (li (List.replicate 64 0)) 0 (li [0,0,0,0,0,0,0,0,0,0,0,0]) a (li [0,0,0,0]) (-1) (li [0,0]) b 1)).getD default).snd.snd.half),(((lp36_1 c (0,Pos.mk 0 (li (List.replicate 64 0)) 0 (li [0,0,0,0,0,0,0,0,0,0,0,0]) a (li [0,0,0,0]) (-1) (li [0,0]) b 1)).getD default).snd.snd.full)⟩
noncomputable def ok36 (a:Int) (b:Int) (c:List Int):Bool:=((lp36_1 c (0,Pos.mk 0 (li (List.replicate 64 0)) 0 (li [0,0,0,0,0,0,0,0,0,0,0,0]) a (li [0,0,0,0]) (-1) (li [0,0]) b 1)).isSome&&true)
theorem P36 (a:Int) (b:Int) (c:List Int) (h:ok36 a b c=true):PS Pz 36 [.int .u8 a,.int .i64 b,.list (.i .i64) c .arg] (dPos.res (N36 a b c)):=ps_sum (n:=14) hB36 (by kernel_rfl) (by kernel_rfl) (by kernel_rfl) h
noncomputable def G36:List AV→Tr AV:=g3 (dI .u8) (dI .i64) (dL (.i .i64)) (fun a b c=>gdv (ok36 a b c) (dPos.res (N36 a b c)))
theorem s36:Sound Pz 36 G36:=sound3 fun a b c=>at_gd (P36 a b c)
end Kz
end
section
namespace Kz
open Go Go.RowKit
set_option maxRecDepth 100000
set_option maxHeartbeats 4000000
def inC (a b x:Int):Bool:=decide (a≤x)&&decide (x≤b)
theorem inC_iff {a b x:Int}:inC a b x=true ↔ a≤x∧x≤b:=by unfold inC; simp
def posIB (p:Pos):Bool :=
  inC 0 255 p.variant&&(p.board.length==64&&p.board.all (inC 0 255))&&(p.pockets.length==12&&p.pockets.all (inC 0 255))&&inC 0 255 p.turn&&(p.rooks.length==4&&p.rooks.all (inC (-128) 127))&&inC (-128) 127 p.passing&&(p.checks.length==2&&p.checks.all (inC 0 255))&&inC (-9223372036854775808) 9223372036854775807 p.half&&inC (-9223372036854775808) 9223372036854775807 p.full
theorem posI_of {p:Pos} (h:posIB p=true):PosIn p:=by
  unfold posIB at h
  simp only [Bool.and_eq_true,beq_iff_eq,List.all_eq_true,inC_iff] at h
  obtain ⟨⟨⟨⟨⟨⟨⟨⟨a,b⟩,c⟩,d⟩,e⟩,f⟩,g⟩,i⟩,j⟩:=h
  exact ⟨a.1,a.2,b.1,b.2,c.1,c.2,d.1,d.2,e.1,e.2,f.1,f.2,g.1,g.2,i,j⟩
end Kz
end
section
namespace Kz
open Go Go.RowKit Go.Proofs
set_option maxRecDepth 100000
set_option maxHeartbeats 4000000
noncomputable def K15:List (Nat×Nat×List (Nat×List Nat)):=[(15,50,[(0,(rn 29 4 [35,36,39,40,43,44,47,48])),(1,(1::2::(rn 29 4 [35,36,39,40,43,44,47,48]))),(2,(1::2::3::(rn 29 4 [35,36,39,40,43,44,47,48]))),(3,(rn 1 4 (rn 29 4 [35,36,39,40,43,44,47,48]))),(4,(rn 1 5 (rn 29 4 [35,36,39,40,43,44,47,48]))),(5,(rn 1 6 (rn 29 4 [35,36,39,40,43,44,47,48]))),(6,[0])])]
noncomputable def B15:Base:=baseOf Pz (fun f i=>lkC f i K15) [(35,G35),(14,g1 dPos (fun a=>gdv (posIB a) ((dR .u8 .u8).res (N14 a)))),(21,G21),(36,G36)] [] []
theorem hB15:BOk B15:=base_ok named_z ⟨s35,sound1 fun a=>at_gd fun h=>P14 a (t14 (posI_of h)),s21,s36,trivial⟩ trivial trivial
def N15:Bool:=true
def ok15:Bool:=true
theorem P15 (h:ok15=true):PS Pz 15 [] (dB.res N15):=ps_sum (n:=14) hB15 (by kernel_rfl) (by kernel_rfl) (by kernel_rfl) h
noncomputable def G15:List AV→Tr AV:=g0 (gdv ok15 (dB.res N15))
theorem s15:Sound Pz 15 G15:=sound0 (at_gd P15)
noncomputable def K16:List (Nat×Nat×List (Nat×List Nat)):=[(16,7,[(0,[1]),(1,[2])])]
noncomputable def B16:Base:=baseOf Pz (fun f i=>lkC f i K16) [(14,G14)] [] []
theorem hB16:BOk B16:=base_ok named_z ⟨s14,trivial⟩ trivial trivial
noncomputable def N16 (a:Pos):Bool:=((N14 a).fst != 0)
noncomputable def ok16 (a:Pos):Bool:=(ok14 (a)&&true)
theorem P16 (a:Pos) (h:ok16 a=true):PS Pz 16 [Pos.av a] (dB.res (N16 a)):=ps_sum (n:=14) hB16 (by kernel_rfl) (by kernel_rfl) (by kernel_rfl) h
noncomputable def G16:List AV→Tr AV:=g1 dPos (fun a=>gdv (ok16 a) (dB.res (N16 a)))
theorem s16:Sound Pz 16 G16:=sound1 fun a=>at_gd (P16 a)
noncomputable def K20:List (Nat×Nat×List (Nat×List Nat)):=[(20,23,[(0,[1,8,9,10,14,15,16,19,20,21]),(1,[1,3,14,15,16,19,20,21]),(2,[2])])]
noncomputable def B20:Base:=baseOf Pz (fun f i=>lkC f i K20) [(16,G16)] [] []
theorem hB20:BOk B20:=base_ok named_z ⟨s16,trivial⟩ trivial trivial
noncomputable def N20 (a:Pos):Bool:=(bif decide (a.variant < 9) then (bif decide (a.turn≤1) then (bif decide (a.half ≥ 100) then (!N16 a) else (false)) else (false)) else (false))
noncomputable def ok20 (a:Pos):Bool:=(bif decide (a.variant < 9) then (bif decide (a.turn≤1) then (bif decide (a.half ≥ 100) then (ok16 (a)&&true) else true) else true) else true)
theorem P20 (a:Pos) (h:ok20 a=true):PS Pz 20 [Pos.av a] (dB.res (N20 a)):=ps_sum (n:=14) hB20 (by kernel_rfl) (by kernel_rfl) (by kernel_rfl) h
noncomputable def G20:List AV→Tr AV:=g1 dPos (fun a=>gdv (ok20 a) (dB.res (N20 a)))
theorem s20:Sound Pz 20 G20:=sound1 fun a=>at_gd (P20 a)
noncomputable def K6:List (Nat×Nat×List (Nat×List Nat)):=[(6,40,[(0,(1::10::11::12::15::16::17::(rn 24 6 (rn 32 4 [38])))),(1,(1::3::10::11::12::15::16::17::(rn 24 6 (rn 32 4 [38])))),(2,(1::3::4::(rn 24 6 (rn 32 4 [38])))),(3,[2])])]
noncomputable def B6:Base:=baseOf Pz (fun f i=>lkC f i K6) [(14,G14),(15,G15),(16,G16),(18,G18),(19,G19),(20,G20)] [] []
theorem hB6:BOk B6:=base_ok named_z ⟨s14,s15,s16,s18,s19,s20,trivial⟩ trivial trivial
noncomputable def N6 (a:Pos):Bool:=(bif N19 a then (bif (N18 a).fst==0 then (bif eqOut BinOp.eql ((N14 a).fst==(N18 a).fst&&((N14 a).snd==(N18 a).snd&&true)) then (bif eqOut BinOp.eql (N16 a==((N18 a).fst != 0)) then (bif eqOut BinOp.eql (N20 a==decide (a.half ≥ 100)) then (N15) else (false)) else (false)) else (false)) else (bif eqOut BinOp.eql ((N14 a).fst==(N18 a).fst&&((N14 a).snd==(N18 a).snd&&true)) then (bif eqOut BinOp.eql (N16 a==((N18 a).fst != 0)) then (bif eqOut BinOp.eql (N20 a==false) then (N15) else (false)) else (false)) else (false))) else (bif eqOut BinOp.eql ((N14 a).fst==(N18 a).fst&&((N14 a).snd==(N18 a).snd&&true)) then (bif eqOut BinOp.eql (N16 a==((N18 a).fst != 0)) then (bif eqOut BinOp.eql (N20 a==false) then (N15) else (false)) else (false)) else (false)))
noncomputable def ok6 (a:Pos):Bool:=(ok18 (a)&&(bif N19 a then (bif (N18 a).fst==0 then (ok14 (a)&&(bif eqOut BinOp.eql ((N14 a).fst==(N18 a).fst&&((N14 a).snd==(N18 a).snd&&true)) then (ok16 (a)&&(bif eqOut BinOp.eql (N16 a==((N18 a).fst != 0)) then (ok20 (a)&&(bif eqOut BinOp.eql (N20 a==decide (a.half ≥ 100)) then (ok15 &&true) else true)) else true)) else true)) else (ok14 (a)&&(bif eqOut BinOp.eql ((N14 a).fst==(N18 a).fst&&((N14 a).snd==(N18 a).snd&&true)) then (ok16 (a)&&(bif eqOut BinOp.eql (N16 a==((N18 a).fst != 0)) then (ok20 (a)&&(bif eqOut BinOp.eql (N20 a==false) then (ok15 &&true) else true)) else true)) else true))) else (ok14 (a)&&(bif eqOut BinOp.eql ((N14 a).fst==(N18 a).fst&&((N14 a).snd==(N18 a).snd&&true)) then (ok16 (a)&&(bif eqOut BinOp.eql (N16 a==((N18 a).fst != 0)) then (ok20 (a)&&(bif eqOut BinOp.eql (N20 a==false) then (ok15 &&true) else true)) else true)) else true))))
theorem P6 (a:Pos) (h:ok6 a=true):PS Pz 6 [Pos.av a] (dB.res (N6 a)):=ps_sum (n:=14) hB6 (by kernel_rfl) (by kernel_rfl) (by kernel_rfl) h
noncomputable def G6:List AV→Tr AV:=g1 dPos (fun a=>gdv (ok6 a) (dB.res (N6 a)))
theorem s6:Sound Pz 6 G6:=sound1 fun a=>at_gd (P6 a)
end Kz
end
section
namespace Kz
open Go Go.RowKit
set_option maxRecDepth 100000
set_option maxHeartbeats 4000000
section
variable {p:Pos} (hp:PosIn p)
include hp
theorem N18_eq:ok18 p=true∧N18 p=N14 p:=by
  by_cases hth:there p
  · obtain ⟨a1,a2⟩:=N32_eq hp
    obtain ⟨b1,b2⟩:=N12_eq hp
    have t0:=hp.t0
    have t1:=hth.1
    have ht:p.turn=0∨p.turn=1:=by omega
    obtain ⟨c1,c2⟩:=N47_eq hp ht ht
    obtain ⟨d1,d2⟩:=N48_eq hp
    refine ⟨?_,?_⟩
    · unfold ok18
      exact c_true (fun _=>rfl) fun _=>a_true a1 fun _=>c_true (fun _=>rfl) fun _=>a_true b1 fun _=>c_true (fun _=>c_true (fun _=>c_true (fun _=>rfl) fun _=>a_true c1 fun _=>rfl) (fun _=>c_true (fun _=>rfl) fun _=>a_true c1 fun _=>rfl)) fun _=>a_true d1 fun _=>rfl
    · unfold N18
      rw [N14_there hth,N19_there hth,a2,b2,c2,d2,Bool.not_true,cond_false]
      cases (N30 p).1 != 0
      · rw [cond_false,cond_false]
        unfold N80 N81 N82
        rw [show (Pos.mk p.variant p.board p.promoted p.pockets p.turn p.rooks p.passing p.checks p.half p.full)=p from rfl]
        by_cases hl:(N11 p).length=0
        · rw [hl]
          rcases ht with h | h <;> rw [h]
          · cases p.variant==4
            · cases N103 p 0 <;> rfl
            · rfl
          · cases p.variant==4
            · cases N103 p 1 <;> rfl
            · rfl
        · rw [show decide (Int.ofNat (N11 p).length > 0)=true by simp; omega,show (Int.ofNat (N11 p).length==0)=false by simp; exact fun e=>hl (by rw [e]; rfl)]
          cases N137 p
          · cases decide (p.half ≥ 150) <;> rfl
          · rfl
      · rfl
  · refine ⟨?_,?_⟩
    · unfold ok18
      rw [N19_not hth]; rfl
    · unfold N18
      rw [N19_not hth,N14_not hth]; rfl
theorem t16:ok16 p=true:=a_true (t14 hp) fun _=>rfl
theorem t20:ok20 p=true:=c_true (fun _=>c_true (fun _=>c_true (fun _=>a_true (t16 hp) fun _=>rfl) fun _=>rfl) fun _=>rfl) fun _=>rfl
theorem N6_true:ok6 p=true∧N6 p=true:=by
  obtain ⟨a1,a2⟩:=N18_eq hp
  have b1:=t14 hp
  have c1:=t16 hp
  have d1:=t20 hp
  have k15:ok15=true:=rfl
  refine ⟨?_,?_⟩
  · unfold ok6
    repeat' (first | with_reducible rfl | with_reducible exact a1 | with_reducible exact b1 | with_reducible exact c1 | with_reducible exact d1 | with_reducible exact k15 | refine a_true ?_ (fun _ => ?_) | refine c_true (fun _ => ?_) (fun _ => ?_))
  · unfold N6
    rw [a2]
    have e1:eqOut BinOp.eql ((N14 p).1==(N14 p).1&&((N14 p).2==(N14 p).2&&true))=true:=by
      rw [beq_self_eq_true,beq_self_eq_true]; rfl
    have e2:eqOut BinOp.eql (N16 p==((N14 p).1 != 0))=true:=by
      unfold N16
      rw [beq_self_eq_true]; rfl
    rw [e1,e2,show N15=true from rfl]
    by_cases hth:there p
    · have t1:=hth.1
      have v1:=hth.2
      rw [N19_there hth]
      have e3:N20 p=bif decide (p.half ≥ 100) then !((N14 p).1 != 0) else false:=by
        unfold N20 N16
        rw [decide_eq_true v1,decide_eq_true t1]; rfl
      rw [e3]
      unfold bne
      cases (N14 p).1==0 <;> cases decide (p.half ≥ 100) <;> rfl
    · rw [N19_not hth]
      have e3:N20 p=false:=by
        unfold N20
        by_cases hv:p.variant < 9
        · rw [decide_eq_true hv,decide_eq_false (show ¬ p.turn≤1 from fun h=>hth ⟨h,hv⟩)]; rfl
        · rw [decide_eq_false hv]; rfl
      rw [e3]; rfl
end
end Kz
end
