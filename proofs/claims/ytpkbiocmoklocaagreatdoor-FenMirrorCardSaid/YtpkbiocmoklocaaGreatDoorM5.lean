/- Part 5 of the texts under the proof: an abstract interpreter,the summaries of functions,plain laws. -/
import Derived.Test.YtpkbiocmoklocaaGreatDoorM4
set_option linter.unusedSectionVars false
set_option linter.unusedVariables false
set_option linter.unusedSimpArgs false
set_option linter.unnecessarySimpa false
section
namespace Kz
open Go Go.RowKit Go.Proofs
set_option maxRecDepth 100000
def withClocks (p:Pos) (h f:Int):Pos:={ p with half:=h,full:=f }
noncomputable def headT (p:Pos):List UInt8:=brdT p++32::(turnT p++32::(N37 (rkA p)++32::(passT p++(bif p.variant==5 then 32::43::(itoaL (p.checks.getD 0 0)++43::itoaL (p.checks.getD 1 0)) else []))))
theorem fenT_head (p:Pos):fenT p=headT p++32::(itoaL p.half++32::itoaL p.full):=by
  unfold fenT headT checkT
  cases (p.variant==5) <;> simp only [cond_true,cond_false,List.append_assoc,List.cons_append,List.nil_append,List.append_nil]
theorem headT_clocks (p:Pos) (h f:Int):headT (withClocks p h f)=headT p:=rfl
theorem headT_ne (p:Pos):headT p≠[]:=by
  unfold headT
  simp
theorem wr_clocks (p:Pos) (h f:Int) (hw:Wr13 p):Wr13 (withClocks p h f) ↔ 0≤h∧0≤f∧h≤10000∧f≤10000:=by
  obtain ⟨a,b,c,d,_,_,_,_,e⟩:=hw
  constructor
  · rintro ⟨_,_,_,_,i,j,k,l,_⟩
    exact ⟨i,j,k,l⟩
  · rintro ⟨i,j,k,l⟩
    exact ⟨a,b,c,d,i,j,k,l,e⟩
theorem in_clocks {p:Pos} (hp:PosIn p) {h f:Int} (h1 : -9223372036854775808≤h∧h≤9223372036854775807) (f1 : -9223372036854775808≤f∧f≤9223372036854775807):PosIn (withClocks p h f) :=
  { hp with h0:=h1,f0:=f1 }
theorem dec_no:∀ (k u:Nat),u < 10 ^ (k+1)→(32:UInt8) ∉ Lib.decDigits u:=by
  intro k
  induction k with
  | zero =>
    intro u hu hm
    rw [Lib.decDigits] at hm
    rw [dif_pos (show u < 10 by omega)] at hm
    have hu':u < 10:=by omega
    have:∀ v:Fin 10,(32:UInt8) ∉ [UInt8.ofNat (48+v.1)]:=by decide
    exact this ⟨u,hu'⟩ hm
  | succ k ih =>
    intro u hu hm
    rw [Lib.decDigits] at hm
    by_cases h10:u < 10
    · rw [dif_pos h10] at hm
      have:∀ v:Fin 10,(32:UInt8) ∉ [UInt8.ofNat (48+v.1)]:=by decide
      exact this ⟨u,h10⟩ hm
    · rw [dif_neg h10] at hm
      rcases List.mem_append.1 hm with hm | hm
      · exact ih (u / 10) (by rw [Nat.pow_succ] at hu; omega) hm
      · have:∀ v:Fin 10,(32:UInt8) ∉ [UInt8.ofNat (48+v.1)]:=by decide
        exact this ⟨u % 10,Nat.mod_lt _ (by omega)⟩ hm
theorem itoa_no {n:Int} (h0:0≤n) (h1:n≤10000):(32:UInt8) ∉ itoaL n∧(itoaL n).length≤5∧itoaL n≠[]:=by
  have e:itoaL n=Lib.decDigits n.toNat:=by
    rw [itoaL_eq (by omega) (by omega)]
    unfold Lib.itoa
    rw [if_neg (by omega)]
  rw [e]
  refine ⟨dec_no 4 _ (by omega),dec_len 4 _ (by omega),?_⟩
  rw [Lib.decDigits]
  split
  · simp
  · simp
theorem print_some {p:Pos} (hp:PosIn p) (h:N12 p≠[]):Wr13 p∧N12 p=fenT p∧(fenT p).length≤200:=by
  obtain ⟨_,a,b⟩:=print_at hp
  by_cases hw:Wr13 p
  · have e:=a hw
    rw [e] at h ⊢
    unfold fin200 at h ⊢
    by_cases hl:Int.ofNat (fenT p).length > 200
    · rw [decide_eq_true hl,cond_true] at h
      exact absurd rfl h
    · rw [decide_eq_false hl,cond_false]
      have:¬ ((fenT p).length:Int) > 200:=hl
      exact ⟨hw,rfl,by omega⟩
  · exact absurd (b hw) h
theorem fin_le {l:List UInt8} (h:l.length≤200):fin200 l=l:=by
  unfold fin200
  have:¬ Int.ofNat l.length > 200:=by
    show ¬ (l.length:Int) > 200
    omega
  rw [decide_eq_false this,cond_false]
theorem clocks_bad {p:Pos} (hp:PosIn p) {h f:Int} (h1 : -9223372036854775808≤h∧h≤9223372036854775807) (f1 : -9223372036854775808≤f∧f≤9223372036854775807) (hs:N12 p≠[]) (hb:¬ (0≤h∧0≤f∧h≤10000∧f≤10000)):N12 (withClocks p h f)=[]:=by
  obtain ⟨hw,_,_⟩:=print_some hp hs
  exact (print_at (in_clocks hp h1 f1)).2.2 fun hq=>hb ((wr_clocks p h f hw).1 hq)
theorem clocks_good {p:Pos} (hp:PosIn p) {h f:Int} (h0:0≤h) (f0:0≤f) (h1:h≤10000) (f1:f≤10000) (hs:N12 p≠[]) (hl:(N12 p).length+8≤200) :
    ok13 (N12 p) 2=true∧ok13 (N12 (withClocks p h f)) 2=true∧N13 (N12 p) 2=headT p++[32]∧N13 (N12 (withClocks p h f)) 2=headT p++[32]∧N12 (withClocks p h f)=headT p++[32]++N14 h++[32]++N14 f∧ok14 h=true∧ok14 f=true∧(N12 (withClocks p h f)).length≤200:=by
  obtain ⟨hw,e,hlen⟩:=print_some hp hs
  have hq:=in_clocks hp (h:=h) (f:=f) (by omega) (by omega)
  obtain ⟨_,_,_,_,ph0,pf0,ph1,pf1,_⟩:=hw
  obtain ⟨a1,a2,a3⟩:=itoa_no ph0 ph1
  obtain ⟨b1,b2,b3⟩:=itoa_no pf0 pf1
  obtain ⟨c1,c2,_⟩:=itoa_no h0 h1
  obtain ⟨d1,d2,_⟩:=itoa_no f0 f1
  have eh:=fenT_head p
  have et:fenT (withClocks p h f)=headT p++32::(itoaL h++32::itoaL f):=fenT_head (withClocks p h f)
  have la:0 < (itoaL p.half).length:=List.length_pos_iff.2 a3
  have lb:0 < (itoaL p.full).length:=List.length_pos_iff.2 b3
  rw [e] at hl ⊢
  have el:=congrArg List.length eh
  simp only [List.length_append,List.length_cons] at el
  have tl:=congrArg List.length et
  simp only [List.length_append,List.length_cons] at tl
  have t200:(fenT (withClocks p h f)).length≤200:=by omega
  have hprint:N12 (withClocks p h f)=fenT (withClocks p h f):=by
    rw [(print_at hq).2.1 ((wr_clocks p h f (print_some hp hs).1).2 ⟨h0,f0,h1,f1⟩),fin_le t200]
  rw [hprint]
  obtain ⟨g1,k1⟩:=digits_eq h0 (by omega)
  obtain ⟨g2,k2⟩:=digits_eq f0 (by omega)
  have w1:=ahead_eq (headT p) (itoaL p.half) (itoaL p.full) (headT_ne p) a1 b1 (by rw [← eh]; omega)
  have w2:=ahead_eq (headT p) (itoaL h) (itoaL f) (headT_ne p) c1 d1 (by rw [← et]; omega)
  rw [← eh] at w1
  rw [← et] at w2
  refine ⟨w1.2,w2.2,w1.1,w2.1,?_,k1,k2,t200⟩
  rw [et,g1,g2]
  simp only [List.append_assoc,List.cons_append,List.nil_append]
end Kz
end
section
namespace Kz
open Go Go.RowKit Go.Proofs
set_option maxRecDepth 100000
set_option maxHeartbeats 4000000
noncomputable def K17:List (Nat×Nat×List (Nat×List Nat)):=[(17,17,[(0,[0]),(1,[0,3]),(2,[0,3,7]),(3,[0,3]),(4,[0,3,13]),(5,[2]),(6,[2])])]
noncomputable def B17_1:Base:=baseOf Pz (fun f i=>lkC f i K17) [] [] []
theorem hB17_1:BOk B17_1:=base_ok named_z trivial trivial trivial
noncomputable def S17_1 (p1:(List UInt8)) (x:(Int)):St:=St.mk (AV.str p1::AV.any::AV.any::AV.int .i64 x::(an 13 [])) (Hp.mk [] [] [] 0 0 0)
noncomputable def O17_1 (p1:(List UInt8)):(Int) ⊕ (Int×Bool)→Out
  | (.inl (y))=>.ret (St.mk (AV.any::AV.any::AV.int .i64 y::(an 14 [])) (Hp.mk [] [] [] 0 0 0))
  | (.inr (y))=>.exit 0 (St.mk (AV.str p1::AV.any::AV.any::AV.int .i64 y.fst::(an 3 (AV.bool y.snd::(an 9 [])))) (Hp.mk [] [] [] 0 0 0))
noncomputable def st17_1 (p1:(List UInt8)) (x:(Int)):Stp (Int) ((Int) ⊕ (Int×Bool)):=(bif decide (x < Int.ofNat p1.length) then (bif Int.ofNat (p1[x.toNat]?.getD 0).toNat==32 then (Stp.out (.inl ((x)))) else (Stp.go (wr .i64 (x+1)))) else (Stp.out (.inr ((x,decide (x < Int.ofNat p1.length))))))
noncomputable def okL17_1 (p1:(List UInt8)) (x:(Int)):Bool:=(bif decide (x < Int.ofNat p1.length) then (decide (0≤x)&&decide (x < Int.ofNat p1.length)&&true) else true)
noncomputable def lp17_1 (p1:(List UInt8)) (x:(Int)):Option ((Int) ⊕ (Int×Bool)):=itl (fun x=>bif okL17_1 p1 x then st17_1 p1 x else .bad) many x
abbrev D17_1 {α:Type} (k:(List UInt8)→(Int)→α) (s:St):α:=k (tS (tT s 0)) ((tI (tT s 3)))
theorem L17_1 (p1:(List UInt8)) (x:(Int)) (r:(Int) ⊕ (Int×Bool)) (h:lp17_1 p1 x=some r):LSpec Pz (bodL Pz 17 2) (S17_1 p1 x) (O17_1 p1 r):=LSpec.smd (m:=12) (fn:=17) hB17_1 (D17_1 fun _ x=>some x) (fun o=>match o with | .ret s=>some (.inl (tI (tT s 2))) | .exit 0 s=>some (.inr ((tI (tT s 3)),(tB (tT s 7)))) | _=>none) (fun r=>by cases r <;> rfl) (fun _=>by kernel_rfl) (fun _=>by kernel_rfl) (fun _=>by kernel_rfl) (fun _=>by kernel_rfl) many x r h
noncomputable def F17_1 (b:Code) (s:St):Tr Out:=D17_1 (fun p1 x=>lk2 b (bodL Pz 17 2) s (S17_1 p1 x) (lp17_1 p1 x) (O17_1 p1)) s
theorem sF17_1:∀ b,LSound Pz b (F17_1 b):=fun _ _ _ h=>lk2_ok (L17_1 _ _) h
noncomputable def B17:Base:=baseOf Pz (fun f i=>lkC f i K17) [] [(17,2,F17_1)] []
theorem hB17:BOk B17:=base_ok named_z trivial ⟨sF17_1,trivial⟩ trivial
noncomputable def N17 (a:List UInt8):Int:=(bif isL ((lp17_1 a 0).getD default) then (gl ((lp17_1 a 0).getD default)) else (Int.ofNat a.length))
noncomputable def ok17 (a:List UInt8):Bool:=((lp17_1 a 0).isSome&&bif isL ((lp17_1 a 0).getD default) then true else true)
theorem P17 (a:List UInt8) (h:ok17 a=true):PS Pz 17 [.str a] ((dI .i64).res (N17 a)):=ps_sum (n:=14) hB17 (by kernel_rfl) (by kernel_rfl) (by kernel_rfl) h
noncomputable def G17:List AV→Tr AV:=g1 dS (fun a=>gdv (ok17 a) ((dI .i64).res (N17 a)))
theorem s17:Sound Pz 17 G17:=sound1 fun a=>at_gd (P17 a)
end Kz
end
section
namespace Kz
open Go Go.RowKit Go.Proofs
set_option maxRecDepth 100000
def isLet (b:UInt8):Bool:=(decide (65≤b.toNat)&&decide (b.toNat≤90)) || (decide (97≤b.toNat)&&decide (b.toNat≤122))
def isDig (b:UInt8):Bool:=decide (48≤b.toNat)&&decide (b.toNat≤57)
def isRow (b:UInt8):Bool:=isLet b || (isDig b || b==126)
theorem dig_let {b:UInt8} (h:isDig b=true):isLet b=false:=by
  unfold isDig at h
  unfold isLet
  simp only [Bool.and_eq_true,decide_eq_true_eq] at h
  simp only [Bool.or_eq_false_iff,Bool.and_eq_false_iff,decide_eq_false_iff_not]
  omega
theorem row_no {b:UInt8} (h:isRow b=true):b≠32∧b≠47:=by
  refine ⟨?_,?_⟩ <;> rintro rfl <;> exact absurd h (by decide)
theorem tabL:(List.range 256).all (fun n=>bif N96 (n:Int) then ((N97 (n:Int)).length==1&&(N97 (n:Int)).all isLet) else true)=true:=by kernel_rfl
theorem let_of {x:Int} (h0:0≤x) (h1:x≤255) (h:N96 x=true):(N97 x).length=1∧∀ b ∈ N97 x,isLet b=true:=by
  have t:=tab_at tabL h0 (by omega)
  rw [Int.toNat_of_nonneg h0,h,cond_true] at t
  simp only [Bool.and_eq_true,beq_iff_eq,List.all_eq_true] at t
  exact t
theorem tabD:(List.range 9).all (fun n=>bif n==0 then true else ((itoaL (n:Int)).length==1&&(itoaL (n:Int)).all isDig))=true:=by kernel_rfl
theorem fl_of {e:Int} (h0:0≤e) (h8:e≤8):(fl e).length≤1∧(0 < e→(fl e).length=1)∧∀ b ∈ fl e,isDig b=true:=by
  unfold fl
  by_cases h:0 < e
  · have t:=tab_at tabD h0 (by omega)
    have hz:(e.toNat==0)=false:=by
      rw [beq_eq_false_iff_ne]; omega
    rw [Int.toNat_of_nonneg h0,hz,cond_false] at t
    simp only [Bool.and_eq_true,beq_iff_eq,List.all_eq_true] at t
    rw [decide_eq_true (show e > 0 from h),cond_true]
    exact ⟨by omega,fun _=>t.1,t.2⟩
  · rw [decide_eq_false (show ¬ e > 0 from h),cond_false]
    exact ⟨by simp,fun h'=>absurd h' h,fun b hb=>by cases hb⟩
def cntL (l:List UInt8):Nat:=l.countP isLet
theorem cntL_app (a b:List UInt8):cntL (a++b)=cntL a+cntL b:=List.countP_append
theorem cntL_no {l:List UInt8} (h:∀ b ∈ l,isLet b=false):cntL l=0:=List.countP_eq_zero.2 fun b hb=>by rw [h b hb]; decide
theorem cntL_all {l:List UInt8} (h:∀ b ∈ l,isLet b=true):cntL l=l.length:=List.countP_eq_length.2 h
theorem cnt_fl {e:Int} (h0:0≤e) (h8:e≤8):cntL (fl e)=0:=cntL_no fun b hb=>dig_let ((fl_of h0 h8).2.2 b hb)
def MenOk (p:Pos):Prop := ∀ s:Int,0≤s→s < 64→atS p s≠0→N96 (atS p s)=true
theorem piece_of {p:Pos} (hp:PosIn p) {s:Int} (h:N96 (atS p s)=true):cntL (pieceT p s)=1∧∀ b ∈ pieceT p s,isRow b=true:=by
  obtain ⟨a0,a1⟩:=at_in hp s
  obtain ⟨l1,l2⟩:=let_of a0 a1 h
  unfold pieceT
  rw [cntL_app,cntL_all l2,l1]
  refine ⟨?_,?_⟩
  · have:cntL (bif bitAt p.promoted s.toNat then [126] else [])=0:=by
      cases bitAt p.promoted s.toNat <;> rfl
    omega
  · intro b hb
    rcases List.mem_append.1 hb with hb | hb
    · unfold isRow; rw [l2 b hb]; rfl
    · revert hb
      cases bitAt p.promoted s.toNat with
      | true =>
        rw [cond_true,List.mem_singleton]
        rintro rfl
        rfl
      | false=>intro hb; cases hb
theorem row_of {p:Pos} (hp:PosIn p) (hm:MenOk p) {r:Int} (r0:0≤r) (r7:r≤7):∀ (k:Nat) (e:Int),k≤8→0≤e→e+k≤8→∀ b ∈ rowS p r k e,isRow b=true
  | 0,e,_,e0,e8=>fun b hb=>by
    rw [rowS] at hb
    unfold isRow
    rw [(fl_of e0 (by omega)).2.2 b hb]
    simp
  | k+1,e,k8,e0,e8=>fun b hb=>by
    rw [rowS] at hb
    by_cases h:atS p (8 * r+(7 - k))=0
    · rw [show (atS p (8 * r+(7 - (k:Int)))==0)=true by simpa using h,cond_true] at hb
      exact row_of hp hm r0 r7 k (e+1) (by omega) (by omega) (by omega) b hb
    · rw [show (atS p (8 * r+(7 - (k:Int)))==0)=false by simpa using h,cond_false] at hb
      rcases List.mem_append.1 hb with hb | hb
      · unfold isRow
        rw [(fl_of e0 (by omega)).2.2 b hb]
        simp
      · rcases List.mem_append.1 hb with hb | hb
        · exact (piece_of hp (hm _ (by omega) (by omega) h)).2 b hb
        · exact row_of hp hm r0 r7 k 0 (by omega) (by omega) (by omega) b hb
theorem row_cnt {p:Pos} {r:Int}:∀ (k:Nat) (e d:Int),0≤e→e+k≤8→0≤d→d+k≤8→cntL (rowS p r k e)=cntL (rowS p r k d)
  | 0,e,d,e0,e8,d0,d8=>by
    rw [rowS,rowS,cnt_fl e0 (by omega),cnt_fl d0 (by omega)]
  | k+1,e,d,e0,e8,d0,d8=>by
    rw [rowS,rowS]
    cases (atS p (8 * r+(7 - (k:Int)))==0) with
    | true=>exact row_cnt k (e+1) (d+1) (by omega) (by omega) (by omega) (by omega)
    | false=>simp only [cond_false,cntL_app,cnt_fl e0 (show e≤8 by omega),cnt_fl d0 (show d≤8 by omega)]
theorem row_mono {p:Pos} {r:Int}:∀ (k:Nat) (e d:Int),0≤e→e≤d→d+k≤8→(rowS p r k e).length≤(rowS p r k d).length:=by
  have fm:∀ e d:Int,0≤e→e≤d→d≤8→(fl e).length≤(fl d).length:=by
    intro e d e0 ed d8
    by_cases h:0 < d
    · rw [(fl_of (by omega) d8).2.1 h]
      exact (fl_of e0 (by omega)).1
    · obtain rfl:e=d:=by omega
      exact Nat.le_refl _
  intro k
  induction k with
  | zero =>
    intro e d e0 ed d8
    rw [rowS,rowS]
    exact fm e d e0 ed (by omega)
  | succ k ih =>
    intro e d e0 ed d8
    rw [rowS,rowS]
    cases (atS p (8 * r+(7 - (k:Int)))==0) with
    | true=>exact ih (e+1) (d+1) (by omega) (by omega) (by omega)
    | false =>
      simp only [cond_false,List.length_append]
      have:=fm e d e0 ed (by omega)
      omega
theorem lp17_at (a:List UInt8) (k:Nat) (h:a[k]?=some 32) (hm:∀ j,j < k→a[j]?≠some 32) (hl:a.length≤1000000):∃ r,lp17_1 a 0=some r∧r=.inl (k:Int):=by
  have lk:k < a.length:=(List.getElem?_eq_some_iff.1 h).1
  refine lp_many (I:=fun x:Int=>0≤x∧x≤(k:Int)) (μ:=fun x=>((k:Int) - x).toNat) ?_ _ ⟨Int.le_refl _,by omega⟩ (by first | omega | (dsimp only; omega))
  rintro e ⟨g0,g1⟩
  obtain ⟨j,rfl⟩:=Int.eq_ofNat_of_zero_le g0
  have hj:j < a.length:=by omega
  unfold okL17_1 st17_1
  rw [decide_eq_true (show (j:Int) < Int.ofNat a.length by show (j:Int) < (a.length:Int); omega),decide_eq_true g0]
  refine ⟨rfl,?_⟩
  rw [cond_true,Int.toNat_natCast,List.getElem?_eq_getElem hj,Option.getD_some]
  by_cases hjk:j=k
  · subst hjk
    have:a[j]=32:=by
      rw [List.getElem?_eq_getElem hj] at h
      exact Option.some.inj h
    rw [this]
    exact rfl
  · have:(Int.ofNat a[j].toNat==32)=false:=by
      rw [beq_eq_false_iff_ne]
      intro hc
      apply hm j (by omega)
      rw [List.getElem?_eq_getElem hj]
      congr 1
      apply UInt8.toNat_inj.1
      have:((a[j].toNat:Nat):Int)=32:=hc
      show a[j].toNat=32
      omega
    rw [this,cond_false,wi64 (by omega) (by omega)]
    exact ⟨⟨by omega,by omega⟩,by first | omega | (dsimp only; omega)⟩
theorem space_at {h t:List UInt8} (hn:∀ b ∈ h,b≠32) (hl:(h++32::t).length≤1000000):N17 (h++32::t)=h.length∧ok17 (h++32::t)=true:=by
  obtain ⟨r,e1,e2⟩:=lp17_at (h++32::t) h.length (by rw [List.getElem?_append_right (Nat.le_refl _),Nat.sub_self]; rfl) (fun j hj e=>by
    rw [List.getElem?_append_left hj] at e
    exact hn 32 (List.mem_of_getElem? e) rfl) hl
  subst e2
  unfold N17 ok17
  rw [e1]
  exact ⟨rfl,rfl⟩
end Kz
end
section
namespace Kz
open Go Go.RowKit Go.Proofs
set_option maxRecDepth 100000
set_option maxHeartbeats 4000000
noncomputable def K42:List (Nat×Nat×List (Nat×List Nat)):=[(42,9,[(0,[0]),(1,[2])])]
noncomputable def B42:Base:=baseOf Pz (fun f i=>lkC f i K42) [] [] []
theorem hB42:BOk B42:=base_ok named_z trivial trivial trivial
noncomputable def N42 (a:Int):Bool:=(bif decide (a ≥ 0) then (decide (a < 64)) else (false))
noncomputable def ok42 (a:Int):Bool:=true
theorem P42 (a:Int) (h:ok42 a=true):PS Pz 42 [.int .i64 a] (dB.res (N42 a)):=ps_sum (n:=14) hB42 (by kernel_rfl) (by kernel_rfl) (by kernel_rfl) h
noncomputable def G42:List AV→Tr AV:=g1 (dI .i64) (fun a=>.ret (dB.res (N42 a)))
theorem s42:Sound Pz 42 G42:=sound1 fun a=>at_rt (P42 a rfl)
noncomputable def K16:List (Nat×Nat×List (Nat×List Nat)):=[(16,22,[(0,[1,2,3,6]),(1,[1,2,3,6,16]),(2,[3,6]),(3,[6])])]
noncomputable def B16:Base:=baseOf Pz (fun f i=>lkC f i K16) [(15,G15),(42,G42)] [] []
theorem hB16:BOk B16:=base_ok named_z ⟨s15,s42,trivial⟩ trivial trivial
noncomputable def N16 (a:Pos) (b:Int) (c:Int):Pos:=(bif N42 b then (bif c==0 then ⟨(a.variant),(a.board.set (scale 1 b).toNat c),(a.promoted),(a.pockets),(a.turn),(a.rooks),(a.passing),(a.checks),(a.half),(a.full)⟩ else (bif N15 c then ⟨(a.variant),(a.board.set (scale 1 b).toNat c),(a.promoted),(a.pockets),(a.turn),(a.rooks),(a.passing),(a.checks),(a.half),(a.full)⟩ else ⟨(a.variant),(a.board),(a.promoted),(a.pockets),(a.turn),(a.rooks),(a.passing),(a.checks),(a.half),(a.full)⟩)) else ⟨(a.variant),(a.board),(a.promoted),(a.pockets),(a.turn),(a.rooks),(a.passing),(a.checks),(a.half),(a.full)⟩)
noncomputable def ok16 (a:Pos) (b:Int) (c:Int):Bool:=(ok42 b&&(bif N42 b then (bif c==0 then (decide (0≤b)&&decide (b < Int.ofNat 64)&&true) else (bif N15 c then (decide (0≤b)&&decide (b < Int.ofNat 64)&&true) else true)) else true))
theorem P16 (a:Pos) (b:Int) (c:Int) (h:ok16 a b c=true):PS Pz 16 [Pos.av a,.int .i64 b,.int .u8 c] (dPos.res (N16 a b c)):=ps_sum (n:=14) hB16 (by kernel_rfl) (by kernel_rfl) (by kernel_rfl) h
noncomputable def G16:List AV→Tr AV:=g3 dPos (dI .i64) (dI .u8) (fun a b c=>gdv (ok16 a b c) (dPos.res (N16 a b c)))
theorem s16:Sound Pz 16 G16:=sound3 fun a b c=>at_gd (P16 a b c)
noncomputable def K123:List (Nat×Nat×List (Nat×List Nat)):=[(123,8,[(0,[0,2]),(1,[2])])]
noncomputable def B123:Base:=baseOf Pz (fun f i=>lkC f i K123) [] [] []
theorem hB123:BOk B123:=base_ok named_z trivial trivial trivial
noncomputable def N123 (a:Int):Pos:=⟨(a),(li (List.replicate 64 0)),(0),(li [0,0,0,0,0,0,0,0,0,0,0,0]),(0),(li [-1,-1,-1,-1]),(-1),(li [0,0]),(0),(1)⟩
noncomputable def ok123 (a:Int):Bool:=true
theorem P123 (a:Int) (h:ok123 a=true):PS Pz 123 [.int .u8 a] (dPos.res (N123 a)):=ps_sum (n:=14) hB123 (by kernel_rfl) (by kernel_rfl) (by kernel_rfl) h
noncomputable def G123:List AV→Tr AV:=g1 (dI .u8) (fun a=>.ret (dPos.res (N123 a)))
theorem s123:Sound Pz 123 G123:=sound1 fun a=>at_rt (P123 a rfl)
noncomputable def K124:List (Nat×Nat×List (Nat×List Nat)):=[(124,5,[(0,[0]),(1,[2])])]
noncomputable def B124:Base:=baseOf Pz (fun f i=>lkC f i K124) [] [] []
theorem hB124:BOk B124:=base_ok named_z trivial trivial trivial
noncomputable def N124 (a:Int):Int:=(wr .u8 (8+a))
noncomputable def ok124 (a:Int):Bool:=true
theorem P124 (a:Int) (h:ok124 a=true):PS Pz 124 [.int .u8 a] ((dI .u8).res (N124 a)):=ps_sum (n:=14) hB124 (by kernel_rfl) (by kernel_rfl) (by kernel_rfl) h
noncomputable def G124:List AV→Tr AV:=g1 (dI .u8) (fun a=>.ret ((dI .u8).res (N124 a)))
theorem s124:Sound Pz 124 G124:=sound1 fun a=>at_rt (P124 a rfl)
noncomputable def K125:List (Nat×Nat×List (Nat×List Nat)):=[(125,6,[(0,[0]),(1,[2])])]
noncomputable def B125:Base:=baseOf Pz (fun f i=>lkC f i K125) [(103,G103)] [] []
theorem hB125:BOk B125:=base_ok named_z ⟨s103,trivial⟩ trivial trivial
noncomputable def N125 (a:Int):Bool:=((N103 a).snd.snd.snd.fst)
noncomputable def ok125 (a:Int):Bool:=(ok103 a&&true)
theorem P125 (a:Int) (h:ok125 a=true):PS Pz 125 [.int .u8 a] (dB.res (N125 a)):=ps_sum (n:=14) hB125 (by kernel_rfl) (by kernel_rfl) (by kernel_rfl) h
noncomputable def G125:List AV→Tr AV:=g1 (dI .u8) (fun a=>gdv (ok125 a) (dB.res (N125 a)))
theorem s125:Sound Pz 125 G125:=sound1 fun a=>at_gd (P125 a)
noncomputable def K101:List (Nat×Nat×List (Nat×List Nat)):=[(101,60,[(0,[0,3,4]),(1,[0,3,4,5]),(2,[0,4,5,11,12]),(3,[0,4,5,11,12,13]),(4,(0::(rn 4 4 [11,12]))),(5,(0::(rn 4 4 [11,12]))),(6,(0::(rn 4 4 [11,12]))),(7,[0,4,5,6,11,12,40]),(8,[0,4,5,6,8,11,12]),(9,[0,4,5,6,8,11,12,45]),(10,[0,4,5,6,8,11,12]),(11,[0,4,5,11,12]),(12,[0,4,5,11,12]),(13,[4])])]
noncomputable def B101_1:Base:=baseOf Pz (fun f i=>lkC f i K101) [(123,G123),(124,G124),(125,G125)] [] []
theorem hB101_1:BOk B101_1:=base_ok named_z ⟨s123,s124,s125,trivial⟩ trivial trivial
noncomputable def S101_1 (p1:Int) (p2:(List Int)) (p3:(List Int)) (x:(Int×Pos)):St:=St.mk (AV.int .u8 p1::(an 3 (AV.ptr 1 0::AV.ptr 2 0::(an 5 (AV.agg [AV.ints .u8 8 p2]::AV.int .i64 x.fst::(an 47 [])))))) (Hp.mk [[AV.ints .u8 8 p3],[AV.int .u8 0,AV.ints .u8 64 (li (List.replicate 64 0)),AV.u64 0,AV.ints .u8 12 (li [0,0,0,0,0,0,0,0,0,0,0,0]),AV.int .u8 0,AV.ints .i8 4 (li [0,0,0,0]),AV.int .i8 0,AV.ints .u8 2 (li [0,0]),AV.int .i64 0,AV.int .i64 0],(pc x.snd [])] [] [] 0 0 0)
noncomputable def O101_1 (p1:Int) (p2:(List Int)) (p3:(List Int)):(Int×Bool×Pos)→Out:=fun y=>.exit 0 (St.mk (AV.int .u8 p1::(an 3 (AV.ptr 1 0::AV.ptr 2 0::(an 5 (AV.agg [AV.ints .u8 8 p2]::AV.int .i64 y.fst::AV.bool y.snd.fst::(an 46 [])))))) (Hp.mk [[AV.ints .u8 8 p3],[AV.int .u8 0,AV.ints .u8 64 (li (List.replicate 64 0)),AV.u64 0,AV.ints .u8 12 (li [0,0,0,0,0,0,0,0,0,0,0,0]),AV.int .u8 0,AV.ints .i8 4 (li [0,0,0,0]),AV.int .i8 0,AV.ints .u8 2 (li [0,0]),AV.int .i64 0,AV.int .i64 0],(pc y.snd.snd [])] [] [] 0 0 0))
noncomputable def st101_1 (p1:Int) (p2:(List Int)) (p3:(List Int)) (x:(Int×Pos)):Stp (Int×Pos) ((Int×Bool×Pos)):=(bif decide (x.fst < 8) then (bif N125 p1 then (bif p2.getD x.fst.toNat 0==4 then (bif decide (x.snd.rooks.getD 1 0 < 0) then (Stp.go (wr .i64 (x.fst+1),Pos.mk x.snd.variant ((((x.snd.board.set (scale 1 x.fst).toNat (p2.getD x.fst.toNat 0)).set (scale 1 (wr .i64 (8+x.fst))).toNat 1).set (scale 1 (wr .i64 (56+x.fst))).toNat (N124 (p2.getD x.fst.toNat 0))).set (scale 1 (wr .i64 (48+x.fst))).toNat (N124 1)) x.snd.promoted x.snd.pockets x.snd.turn ((x.snd.rooks.set 1 (wr .i8 x.fst)).set 3 (wr .i8 x.fst)) x.snd.passing x.snd.checks x.snd.half x.snd.full)) else (Stp.go (wr .i64 (x.fst+1),Pos.mk x.snd.variant ((((x.snd.board.set (scale 1 x.fst).toNat (p2.getD x.fst.toNat 0)).set (scale 1 (wr .i64 (8+x.fst))).toNat 1).set (scale 1 (wr .i64 (56+x.fst))).toNat (N124 (p2.getD x.fst.toNat 0))).set (scale 1 (wr .i64 (48+x.fst))).toNat (N124 1)) x.snd.promoted x.snd.pockets x.snd.turn ((x.snd.rooks.set 0 (wr .i8 x.fst)).set 2 (wr .i8 x.fst)) x.snd.passing x.snd.checks x.snd.half x.snd.full))) else (Stp.go (wr .i64 (x.fst+1),Pos.mk x.snd.variant ((((x.snd.board.set (scale 1 x.fst).toNat (p2.getD x.fst.toNat 0)).set (scale 1 (wr .i64 (8+x.fst))).toNat 1).set (scale 1 (wr .i64 (56+x.fst))).toNat (N124 (p2.getD x.fst.toNat 0))).set (scale 1 (wr .i64 (48+x.fst))).toNat (N124 1)) x.snd.promoted x.snd.pockets x.snd.turn x.snd.rooks x.snd.passing x.snd.checks x.snd.half x.snd.full))) else (Stp.go (wr .i64 (x.fst+1),Pos.mk x.snd.variant ((((x.snd.board.set (scale 1 x.fst).toNat (p2.getD x.fst.toNat 0)).set (scale 1 (wr .i64 (8+x.fst))).toNat 1).set (scale 1 (wr .i64 (56+x.fst))).toNat (N124 (p2.getD x.fst.toNat 0))).set (scale 1 (wr .i64 (48+x.fst))).toNat (N124 1)) x.snd.promoted x.snd.pockets x.snd.turn x.snd.rooks x.snd.passing x.snd.checks x.snd.half x.snd.full))) else (Stp.out ((x.fst,decide (x.fst < 8),x.snd))))
noncomputable def okL101_1 (p1:Int) (p2:(List Int)) (p3:(List Int)) (x:(Int×Pos)):Bool:=(bif decide (x.fst < 8) then (decide (0≤x.fst)&&decide (x.fst < Int.ofNat 8)&&(decide (0≤x.fst)&&decide (x.fst < Int.ofNat 64)&&(decide (0≤wr .i64 (8+x.fst))&&decide (wr .i64 (8+x.fst) < Int.ofNat 64)&&(ok124 (p2.getD x.fst.toNat 0)&&(ok124 1&&(decide (0≤wr .i64 (56+x.fst))&&decide (wr .i64 (56+x.fst) < Int.ofNat 64)&&(decide (0≤wr .i64 (48+x.fst))&&decide (wr .i64 (48+x.fst) < Int.ofNat 64)&&(ok125 p1&&true)))))))) else true)
noncomputable def lp101_1 (p1:Int) (p2:(List Int)) (p3:(List Int)) (x:(Int×Pos)):Option ((Int×Bool×Pos)):=itl (fun x=>bif okL101_1 p1 p2 p3 x then st101_1 p1 p2 p3 x else .bad) many x
abbrev D101_1 {α:Type} (k:Int→(List Int)→(List Int)→(Int×Pos)→α) (s:St):α:=wP s 2 fun q2=>k (tI (tT s 0)) (tN (tX (tA (tT s 11)) 0)) (tN (tH s 0 0)) ((tI (tT s 12)),q2)
theorem L101_1 (p1:Int) (p2:(List Int)) (p3:(List Int)) (x:(Int×Pos)) (r:(Int×Bool×Pos)) (h:lp101_1 p1 p2 p3 x=some r):LSpec Pz (bodL Pz 101 3) (S101_1 p1 p2 p3 x) (O101_1 p1 p2 p3 r):=LSpec.smd (m:=12) (fn:=101) hB101_1 (D101_1 fun _ _ _ x=>some x) (fun o=>match o with | .exit 0 s=>wP s 2 fun q2=>some ((tI (tT s 12)),(tB (tT s 13)),q2) | _=>none) (fun _=>rfl) (fun _=>by kernel_rfl) (fun _=>by kernel_rfl) (fun _=>by kernel_rfl) (fun _=>by kernel_rfl) many x r h
noncomputable def F101_1 (b:Code) (s:St):Tr Out:=D101_1 (fun p1 p2 p3 x=>lk1 b (bodL Pz 101 3) s (S101_1 p1 p2 p3 x) (lp101_1 p1 p2 p3 x) (O101_1 p1 p2 p3)) s
theorem sF101_1:∀ b,LSound Pz b (F101_1 b):=fun _ _ _ h=>lk1_ok (L101_1 _ _ _ _) h
noncomputable def B101:Base:=baseOf Pz (fun f i=>lkC f i K101) [(123,G123),(124,G124),(125,G125)] [(101,3,F101_1)] []
theorem hB101:BOk B101:=base_ok named_z ⟨s123,s124,s125,trivial⟩ ⟨sF101_1,trivial⟩ trivial
noncomputable def N101 (a:Int) (b:List Int):Pos:=⟨(((lp101_1 a b b (0,N123 a)).getD default).snd.snd.variant),(((lp101_1 a b b (0,N123 a)).getD default).snd.snd.board),(((lp101_1 a b b (0,N123 a)).getD default).snd.snd.promoted),(((lp101_1 a b b (0,N123 a)).getD default).snd.snd.pockets),(((lp101_1 a b b (0,N123 a)).getD default).snd.snd.turn),(((lp101_1 a b b (0,N123 a)).getD default).snd.snd.rooks),(((lp101_1 a b b (0,N123 a)).getD default).snd.snd.passing),(((lp101_1 a b b (0,N123 a)).getD default).snd.snd.checks),(((lp101_1 a b b (0,N123 a)).getD default).snd.snd.half),(((lp101_1 a b b (0,N123 a)).getD default).snd.snd.full)⟩
noncomputable def ok101 (a:Int) (b:List Int):Bool:=(ok123 a&&((lp101_1 a b b (0,N123 a)).isSome&&true))
theorem P101 (a:Int) (b:List Int) (h:ok101 a b=true):PS Pz 101 [.int .u8 a,.agg [.ints .u8 8 b]] (dPos.res (N101 a b)):=ps_sum (n:=14) hB101 (by kernel_rfl) (by kernel_rfl) (by kernel_rfl) h
noncomputable def G101:List AV→Tr AV:=g2 (dI .u8) (dArr .u8 8) (fun a b=>gdv (ok101 a b) (dPos.res (N101 a b)))
theorem s101:Sound Pz 101 G101:=sound2 fun a b=>at_gd (P101 a b)
noncomputable def K102:List (Nat×Nat×List (Nat×List Nat)):=[(102,2,[(0,[0]),(1,[0])])]
noncomputable def B102:Base:=baseOf Pz (fun f i=>lkC f i K102) [] [] []
theorem hB102:BOk B102:=base_ok named_z trivial trivial trivial
noncomputable def N102  : List Int:=(li [4,2,3,5,6,3,2,4])
noncomputable def ok102  : Bool:=true
theorem P102  (h:ok102 =true):PS Pz 102 [] ((dArr .u8 8).res (N102 )):=ps_sum (n:=14) hB102 (by kernel_rfl) (by kernel_rfl) (by kernel_rfl) h
noncomputable def G102:List AV→Tr AV:=g0  (.ret ((dArr .u8 8).res (N102 )))
theorem s102:Sound Pz 102 G102:=sound0 (at_rt (P102 rfl))
noncomputable def K99:List (Nat×Nat×List (Nat×List Nat)):=[(99,28,[(0,[0]),(1,[0,1]),(2,[0,1]),(3,[0,1,10]),(4,[0,1,10,11]),(5,[0,1,2,10]),(6,[0,1,10]),(7,[0,1,10]),(8,[0,1,17,18,19]),(9,(0::1::(rn 17 4 []))),(10,[0,1,4,17,18,19]),(11,[0,1,17,18,19]),(12,[0,1,17,18,19]),(13,[0])])]
noncomputable def B99_1:Base:=baseOf Pz (fun f i=>lkC f i K99) [(101,G101),(102,G102)] [] []
theorem hB99_1:BOk B99_1:=base_ok named_z ⟨s101,s102,trivial⟩ trivial trivial
noncomputable def S99_1  (x:(Int×Pos)):St:=St.mk (AV.ptr 0 0::AV.ptr 1 0::(an 8 (AV.int .i64 x.fst::(an 17 [])))) (Hp.mk [[AV.int .u8 0,AV.ints .u8 64 (li (List.replicate 64 0)),AV.u64 0,AV.ints .u8 12 (li [0,0,0,0,0,0,0,0,0,0,0,0]),AV.int .u8 0,AV.ints .i8 4 (li [0,0,0,0]),AV.int .i8 0,AV.ints .u8 2 (li [0,0]),AV.int .i64 0,AV.int .i64 0],(pc x.snd [])] [] [] 0 0 0)
noncomputable def O99_1  : (Int×Bool×Pos)→Out:=fun y=>.exit 0 (St.mk (AV.ptr 0 0::AV.ptr 1 0::(an 8 (AV.int .i64 y.fst::AV.bool y.snd.fst::(an 16 [])))) (Hp.mk [[AV.int .u8 0,AV.ints .u8 64 (li (List.replicate 64 0)),AV.u64 0,AV.ints .u8 12 (li [0,0,0,0,0,0,0,0,0,0,0,0]),AV.int .u8 0,AV.ints .i8 4 (li [0,0,0,0]),AV.int .i8 0,AV.ints .u8 2 (li [0,0]),AV.int .i64 0,AV.int .i64 0],(pc y.snd.snd [])] [] [] 0 0 0))
noncomputable def st99_1  (x:(Int×Pos)):Stp (Int×Pos) ((Int×Bool×Pos)):=(bif decide (x.fst < 32) then (Stp.go (wr .i64 (x.fst+1),Pos.mk x.snd.variant (x.snd.board.set (scale 1 x.fst).toNat 1) x.snd.promoted x.snd.pockets x.snd.turn x.snd.rooks x.snd.passing x.snd.checks x.snd.half x.snd.full)) else (Stp.out ((x.fst,decide (x.fst < 32),x.snd))))
noncomputable def okL99_1  (x:(Int×Pos)):Bool:=(bif decide (x.fst < 32) then (decide (0≤x.fst)&&decide (x.fst < Int.ofNat 64)&&true) else true)
noncomputable def lp99_1  (x:(Int×Pos)):Option ((Int×Bool×Pos)):=itl (fun x=>bif okL99_1  x then st99_1  x else .bad) many x
abbrev D99_1 {α:Type} (k:(Int×Pos)→α) (s:St):α:=wP s 1 fun q1=>k ((tI (tT s 10)),q1)
theorem L99_1  (x:(Int×Pos)) (r:(Int×Bool×Pos)) (h:lp99_1  x=some r):LSpec Pz (bodL Pz 99 4) (S99_1  x) (O99_1  r):=LSpec.smd (m:=12) (fn:=99) hB99_1 (D99_1 fun x=>some x) (fun o=>match o with | .exit 0 s=>wP s 1 fun q1=>some ((tI (tT s 10)),(tB (tT s 11)),q1) | _=>none) (fun _=>rfl) (fun _=>by kernel_rfl) (fun _=>by kernel_rfl) (fun _=>by kernel_rfl) (fun _=>by kernel_rfl) many x r h
noncomputable def F99_1 (b:Code) (s:St):Tr Out:=D99_1 (fun x=>lk1 b (bodL Pz 99 4) s (S99_1 x) (lp99_1 x) (O99_1 )) s
theorem sF99_1:∀ b,LSound Pz b (F99_1 b):=fun _ _ _ h=>lk1_ok (L99_1 _) h
noncomputable def B99_2:Base:=baseOf Pz (fun f i=>lkC f i K99) [(101,G101),(102,G102)] [(99,4,F99_1)] []
theorem hB99_2:BOk B99_2:=base_ok named_z ⟨s101,s102,trivial⟩ ⟨sF99_1,trivial⟩ trivial
noncomputable def S99_2  (x:(Int×Pos)):St:=St.mk (AV.ptr 0 0::AV.ptr 1 0::(an 15 (AV.vlist true [AV.cint .i64 33,AV.cint .i64 34,AV.cint .i64 37,AV.cint .i64 38]::AV.cint .i64 (Int.ofNat 4)::AV.int .i64 x.fst::(an 8 [])))) (Hp.mk [[AV.int .u8 0,AV.ints .u8 64 (li (List.replicate 64 0)),AV.u64 0,AV.ints .u8 12 (li [0,0,0,0,0,0,0,0,0,0,0,0]),AV.int .u8 0,AV.ints .i8 4 (li [0,0,0,0]),AV.int .i8 0,AV.ints .u8 2 (li [0,0]),AV.int .i64 0,AV.int .i64 0],(pc x.snd [])] [] [] 0 0 0)
noncomputable def O99_2  : (Int×Bool×Pos)→Out:=fun y=>.exit 2 (St.mk (AV.ptr 0 0::AV.ptr 1 0::(an 15 (AV.vlist true [AV.cint .i64 33,AV.cint .i64 34,AV.cint .i64 37,AV.cint .i64 38]::AV.cint .i64 (Int.ofNat 4)::AV.int .i64 y.fst::AV.bool y.snd.fst::(an 7 [])))) (Hp.mk [[AV.int .u8 0,AV.ints .u8 64 (li (List.replicate 64 0)),AV.u64 0,AV.ints .u8 12 (li [0,0,0,0,0,0,0,0,0,0,0,0]),AV.int .u8 0,AV.ints .i8 4 (li [0,0,0,0]),AV.int .i8 0,AV.ints .u8 2 (li [0,0]),AV.int .i64 0,AV.int .i64 0],(pc y.snd.snd [])] [] [] 0 0 0))
noncomputable def st99_2  (x:(Int×Pos)):Stp (Int×Pos) ((Int×Bool×Pos)):=(bif decide (x.fst < Int.ofNat 4) then (bif x.fst==Int.ofNat 0 then (Stp.go (wr .i64 (x.fst+1),Pos.mk x.snd.variant (x.snd.board.set 33 1) x.snd.promoted x.snd.pockets x.snd.turn x.snd.rooks x.snd.passing x.snd.checks x.snd.half x.snd.full)) else (bif x.fst==Int.ofNat 1 then (Stp.go (wr .i64 (x.fst+1),Pos.mk x.snd.variant (x.snd.board.set 34 1) x.snd.promoted x.snd.pockets x.snd.turn x.snd.rooks x.snd.passing x.snd.checks x.snd.half x.snd.full)) else (bif x.fst==Int.ofNat 2 then (Stp.go (wr .i64 (x.fst+1),Pos.mk x.snd.variant (x.snd.board.set 37 1) x.snd.promoted x.snd.pockets x.snd.turn x.snd.rooks x.snd.passing x.snd.checks x.snd.half x.snd.full)) else (Stp.go (wr .i64 (x.fst+1),Pos.mk x.snd.variant (x.snd.board.set 38 1) x.snd.promoted x.snd.pockets x.snd.turn x.snd.rooks x.snd.passing x.snd.checks x.snd.half x.snd.full))))) else (Stp.out ((x.fst,decide (x.fst < Int.ofNat 4),x.snd))))
noncomputable def okL99_2  (x:(Int×Pos)):Bool:=(bif decide (x.fst < Int.ofNat 4) then (decide (0≤x.fst)&&decide (x.fst < Int.ofNat 4)&&(bif x.fst==Int.ofNat 0 then true else (bif x.fst==Int.ofNat 1 then true else (bif x.fst==Int.ofNat 2 then true else (x.fst==Int.ofNat 3&&true))))) else true)
noncomputable def lp99_2  (x:(Int×Pos)):Option ((Int×Bool×Pos)):=itl (fun x=>bif okL99_2  x then st99_2  x else .bad) many x
abbrev D99_2 {α:Type} (k:(Int×Pos)→α) (s:St):α:=wP s 1 fun q1=>k ((tI (tT s 19)),q1)
theorem L99_2  (x:(Int×Pos)) (r:(Int×Bool×Pos)) (h:lp99_2  x=some r):LSpec Pz (bodL Pz 99 9) (S99_2  x) (O99_2  r):=LSpec.smd (m:=12) (fn:=99) hB99_2 (D99_2 fun x=>some x) (fun o=>match o with | .exit 2 s=>wP s 1 fun q1=>some ((tI (tT s 19)),(tB (tT s 20)),q1) | _=>none) (fun _=>rfl) (fun _=>by kernel_rfl) (fun _=>by kernel_rfl) (fun _=>by kernel_rfl) (fun _=>by kernel_rfl) many x r h
noncomputable def F99_2 (b:Code) (s:St):Tr Out:=D99_2 (fun x=>lk1 b (bodL Pz 99 9) s (S99_2 x) (lp99_2 x) (O99_2 )) s
theorem sF99_2:∀ b,LSound Pz b (F99_2 b):=fun _ _ _ h=>lk1_ok (L99_2 _) h
noncomputable def B99:Base:=baseOf Pz (fun f i=>lkC f i K99) [(101,G101),(102,G102)] [(99,4,F99_1),(99,9,F99_2)] []
theorem hB99:BOk B99:=base_ok named_z ⟨s101,s102,trivial⟩ ⟨sF99_1,sF99_2,trivial⟩ trivial
noncomputable def N99  : Pos:=⟨(((lp99_2 (0,Pos.mk ((lp99_1 (0,Pos.mk (N101 7 (li [4,2,3,5,6,3,2,4])).variant (li zbd) (N101 7 (li [4,2,3,5,6,3,2,4])).promoted (li [0,0,0,0,0,0,0,0,0,0,0,0]) (N101 7 (li [4,2,3,5,6,3,2,4])).turn (li [-1,-1,7,0]) (N101 7 (li [4,2,3,5,6,3,2,4])).passing (li [0,0]) (N101 7 (li [4,2,3,5,6,3,2,4])).half (N101 7 (li [4,2,3,5,6,3,2,4])).full)).getD default).snd.snd.variant (li [1,1,1,1,1,1,1,1,1,1,1,1,1,1,1,1,1,1,1,1,1,1,1,1,1,1,1,1,1,1,1,1,0,0,0,0,0,0,0,0,0,0,0,0,0,0,0,0,9,9,9,9,9,9,9,9,12,10,11,13,14,11,10,12]) ((lp99_1 (0,Pos.mk (N101 7 (li [4,2,3,5,6,3,2,4])).variant (li zbd) (N101 7 (li [4,2,3,5,6,3,2,4])).promoted (li [0,0,0,0,0,0,0,0,0,0,0,0]) (N101 7 (li [4,2,3,5,6,3,2,4])).turn (li [-1,-1,7,0]) (N101 7 (li [4,2,3,5,6,3,2,4])).passing (li [0,0]) (N101 7 (li [4,2,3,5,6,3,2,4])).half (N101 7 (li [4,2,3,5,6,3,2,4])).full)).getD default).snd.snd.promoted (li [0,0,0,0,0,0,0,0,0,0,0,0]) ((lp99_1 (0,Pos.mk (N101 7 (li [4,2,3,5,6,3,2,4])).variant (li zbd) (N101 7 (li [4,2,3,5,6,3,2,4])).promoted (li [0,0,0,0,0,0,0,0,0,0,0,0]) (N101 7 (li [4,2,3,5,6,3,2,4])).turn (li [-1,-1,7,0]) (N101 7 (li [4,2,3,5,6,3,2,4])).passing (li [0,0]) (N101 7 (li [4,2,3,5,6,3,2,4])).half (N101 7 (li [4,2,3,5,6,3,2,4])).full)).getD default).snd.snd.turn (li [-1,-1,7,0]) ((lp99_1 (0,Pos.mk (N101 7 (li [4,2,3,5,6,3,2,4])).variant (li zbd) (N101 7 (li [4,2,3,5,6,3,2,4])).promoted (li [0,0,0,0,0,0,0,0,0,0,0,0]) (N101 7 (li [4,2,3,5,6,3,2,4])).turn (li [-1,-1,7,0]) (N101 7 (li [4,2,3,5,6,3,2,4])).passing (li [0,0]) (N101 7 (li [4,2,3,5,6,3,2,4])).half (N101 7 (li [4,2,3,5,6,3,2,4])).full)).getD default).snd.snd.passing (li [0,0]) ((lp99_1 (0,Pos.mk (N101 7 (li [4,2,3,5,6,3,2,4])).variant (li zbd) (N101 7 (li [4,2,3,5,6,3,2,4])).promoted (li [0,0,0,0,0,0,0,0,0,0,0,0]) (N101 7 (li [4,2,3,5,6,3,2,4])).turn (li [-1,-1,7,0]) (N101 7 (li [4,2,3,5,6,3,2,4])).passing (li [0,0]) (N101 7 (li [4,2,3,5,6,3,2,4])).half (N101 7 (li [4,2,3,5,6,3,2,4])).full)).getD default).snd.snd.half ((lp99_1 (0,Pos.mk (N101 7 (li [4,2,3,5,6,3,2,4])).variant (li zbd) (N101 7 (li [4,2,3,5,6,3,2,4])).promoted (li [0,0,0,0,0,0,0,0,0,0,0,0]) (N101 7 (li [4,2,3,5,6,3,2,4])).turn (li [-1,-1,7,0]) (N101 7 (li [4,2,3,5,6,3,2,4])).passing (li [0,0]) (N101 7 (li [4,2,3,5,6,3,2,4])).half (N101 7 (li [4,2,3,5,6,3,2,4])).full)).getD default).snd.snd.full)).getD default).snd.snd.variant),(li [1,1,1,1,1,1,1,1,1,1,1,1,1,1,1,1,1,1,1,1,1,1,1,1,1,1,1,1,1,1,1,1,0,1,1,0,0,1,1,0,0,0,0,0,0,0,0,0,9,9,9,9,9,9,9,9,12,10,11,13,14,11,10,12]),(((lp99_2 (0,Pos.mk ((lp99_1 (0,Pos.mk (N101 7 (li [4,2,3,5,6,3,2,4])).variant (li zbd) (N101 7 (li [4,2,3,5,6,3,2,4])).promoted (li [0,0,0,0,0,0,0,0,0,0,0,0]) (N101 7 (li [4,2,3,5,6,3,2,4])).turn (li [-1,-1,7,0]) (N101 7 (li [4,2,3,5,6,3,2,4])).passing (li [0,0]) (N101 7 (li [4,2,3,5,6,3,2,4])).half (N101 7 (li [4,2,3,5,6,3,2,4])).full)).getD default).snd.snd.variant (li [1,1,1,1,1,1,1,1,1,1,1,1,1,1,1,1,1,1,1,1,1,1,1,1,1,1,1,1,1,1,1,1,0,0,0,0,0,0,0,0,0,0,0,0,0,0,0,0,9,9,9,9,9,9,9,9,12,10,11,13,14,11,10,12]) ((lp99_1 (0,Pos.mk (N101 7 (li [4,2,3,5,6,3,2,4])).variant (li zbd) (N101 7 (li [4,2,3,5,6,3,2,4])).promoted (li [0,0,0,0,0,0,0,0,0,0,0,0]) (N101 7 (li [4,2,3,5,6,3,2,4])).turn (li [-1,-1,7,0]) (N101 7 (li [4,2,3,5,6,3,2,4])).passing (li [0,0]) (N101 7 (li [4,2,3,5,6,3,2,4])).half (N101 7 (li [4,2,3,5,6,3,2,4])).full)).getD default).snd.snd.promoted (li [0,0,0,0,0,0,0,0,0,0,0,0]) ((lp99_1 (0,Pos.mk (N101 7 (li [4,2,3,5,6,3,2,4])).variant (li zbd) (N101 7 (li [4,2,3,5,6,3,2,4])).promoted (li [0,0,0,0,0,0,0,0,0,0,0,0]) (N101 7 (li [4,2,3,5,6,3,2,4])).turn (li [-1,-1,7,0]) (N101 7 (li [4,2,3,5,6,3,2,4])).passing (li [0,0]) (N101 7 (li [4,2,3,5,6,3,2,4])).half (N101 7 (li [4,2,3,5,6,3,2,4])).full)).getD default).snd.snd.turn (li [-1,-1,7,0]) ((lp99_1 (0,Pos.mk (N101 7 (li [4,2,3,5,6,3,2,4])).variant (li zbd) (N101 7 (li [4,2,3,5,6,3,2,4])).promoted (li [0,0,0,0,0,0,0,0,0,0,0,0]) (N101 7 (li [4,2,3,5,6,3,2,4])).turn (li [-1,-1,7,0]) (N101 7 (li [4,2,3,5,6,3,2,4])).passing (li [0,0]) (N101 7 (li [4,2,3,5,6,3,2,4])).half (N101 7 (li [4,2,3,5,6,3,2,4])).full)).getD default).snd.snd.passing (li [0,0]) ((lp99_1 (0,Pos.mk (N101 7 (li [4,2,3,5,6,3,2,4])).variant (li zbd) (N101 7 (li [4,2,3,5,6,3,2,4])).promoted (li [0,0,0,0,0,0,0,0,0,0,0,0]) (N101 7 (li [4,2,3,5,6,3,2,4])).turn (li [-1,-1,7,0]) (N101 7 (li [4,2,3,5,6,3,2,4])).passing (li [0,0]) (N101 7 (li [4,2,3,5,6,3,2,4])).half (N101 7 (li [4,2,3,5,6,3,2,4])).full)).getD default).snd.snd.half ((lp99_1 (0,Pos.mk (N101 7 (li [4,2,3,5,6,3,2,4])).variant (li zbd) (N101 7 (li [4,2,3,5,6,3,2,4])).promoted (li [0,0,0,0,0,0,0,0,0,0,0,0]) (N101 7 (li [4,2,3,5,6,3,2,4])).turn (li [-1,-1,7,0]) (N101 7 (li [4,2,3,5,6,3,2,4])).passing (li [0,0]) (N101 7 (li [4,2,3,5,6,3,2,4])).half (N101 7 (li [4,2,3,5,6,3,2,4])).full)).getD default).snd.snd.full)).getD default).snd.snd.promoted),(li [0,0,0,0,0,0,0,0,0,0,0,0]),(((lp99_2 (0,Pos.mk ((lp99_1 (0,Pos.mk (N101 7 (li [4,2,3,5,6,3,2,4])).variant (li zbd) (N101 7 (li [4,2,3,5,6,3,2,4])).promoted (li [0,0,0,0,0,0,0,0,0,0,0,0]) (N101 7 (li [4,2,3,5,6,3,2,4])).turn (li [-1,-1,7,0]) (N101 7 (li [4,2,3,5,6,3,2,4])).passing (li [0,0]) (N101 7 (li [4,2,3,5,6,3,2,4])).half (N101 7 (li [4,2,3,5,6,3,2,4])).full)).getD default).snd.snd.variant (li [1,1,1,1,1,1,1,1,1,1,1,1,1,1,1,1,1,1,1,1,1,1,1,1,1,1,1,1,1,1,1,1,0,0,0,0,0,0,0,0,0,0,0,0,0,0,0,0,9,9,9,9,9,9,9,9,12,10,11,13,14,11,10,12]) ((lp99_1 (0,Pos.mk (N101 7 (li [4,2,3,5,6,3,2,4])).variant (li zbd) (N101 7 (li [4,2,3,5,6,3,2,4])).promoted (li [0,0,0,0,0,0,0,0,0,0,0,0]) (N101 7 (li [4,2,3,5,6,3,2,4])).turn (li [-1,-1,7,0]) (N101 7 (li [4,2,3,5,6,3,2,4])).passing (li [0,0]) (N101 7 (li [4,2,3,5,6,3,2,4])).half (N101 7 (li [4,2,3,5,6,3,2,4])).full)).getD default).snd.snd.promoted (li [0,0,0,0,0,0,0,0,0,0,0,0]) ((lp99_1 (0,Pos.mk (N101 7 (li [4,2,3,5,6,3,2,4])).variant (li zbd) (N101 7 (li [4,2,3,5,6,3,2,4])).promoted (li [0,0,0,0,0,0,0,0,0,0,0,0]) (N101 7 (li [4,2,3,5,6,3,2,4])).turn (li [-1,-1,7,0]) (N101 7 (li [4,2,3,5,6,3,2,4])).passing (li [0,0]) (N101 7 (li [4,2,3,5,6,3,2,4])).half (N101 7 (li [4,2,3,5,6,3,2,4])).full)).getD default).snd.snd.turn (li [-1,-1,7,0]) ((lp99_1 (0,Pos.mk (N101 7 (li [4,2,3,5,6,3,2,4])).variant (li zbd) (N101 7 (li [4,2,3,5,6,3,2,4])).promoted (li [0,0,0,0,0,0,0,0,0,0,0,0]) (N101 7 (li [4,2,3,5,6,3,2,4])).turn (li [-1,-1,7,0]) (N101 7 (li [4,2,3,5,6,3,2,4])).passing (li [0,0]) (N101 7 (li [4,2,3,5,6,3,2,4])).half (N101 7 (li [4,2,3,5,6,3,2,4])).full)).getD default).snd.snd.passing (li [0,0]) ((lp99_1 (0,Pos.mk (N101 7 (li [4,2,3,5,6,3,2,4])).variant (li zbd) (N101 7 (li [4,2,3,5,6,3,2,4])).promoted (li [0,0,0,0,0,0,0,0,0,0,0,0]) (N101 7 (li [4,2,3,5,6,3,2,4])).turn (li [-1,-1,7,0]) (N101 7 (li [4,2,3,5,6,3,2,4])).passing (li [0,0]) (N101 7 (li [4,2,3,5,6,3,2,4])).half (N101 7 (li [4,2,3,5,6,3,2,4])).full)).getD default).snd.snd.half ((lp99_1 (0,Pos.mk (N101 7 (li [4,2,3,5,6,3,2,4])).variant (li zbd) (N101 7 (li [4,2,3,5,6,3,2,4])).promoted (li [0,0,0,0,0,0,0,0,0,0,0,0]) (N101 7 (li [4,2,3,5,6,3,2,4])).turn (li [-1,-1,7,0]) (N101 7 (li [4,2,3,5,6,3,2,4])).passing (li [0,0]) (N101 7 (li [4,2,3,5,6,3,2,4])).half (N101 7 (li [4,2,3,5,6,3,2,4])).full)).getD default).snd.snd.full)).getD default).snd.snd.turn),(li [-1,-1,7,0]),(((lp99_2 (0,Pos.mk ((lp99_1 (0,Pos.mk (N101 7 (li [4,2,3,5,6,3,2,4])).variant (li zbd) (N101 7 (li [4,2,3,5,6,3,2,4])).promoted (li [0,0,0,0,0,0,0,0,0,0,0,0]) (N101 7 (li [4,2,3,5,6,3,2,4])).turn (li [-1,-1,7,0]) (N101 7 (li [4,2,3,5,6,3,2,4])).passing (li [0,0]) (N101 7 (li [4,2,3,5,6,3,2,4])).half (N101 7 (li [4,2,3,5,6,3,2,4])).full)).getD default).snd.snd.variant (li [1,1,1,1,1,1,1,1,1,1,1,1,1,1,1,1,1,1,1,1,1,1,1,1,1,1,1,1,1,1,1,1,0,0,0,0,0,0,0,0,0,0,0,0,0,0,0,0,9,9,9,9,9,9,9,9,12,10,11,13,14,11,10,12]) ((lp99_1 (0,Pos.mk (N101 7 (li [4,2,3,5,6,3,2,4])).variant (li zbd) (N101 7 (li [4,2,3,5,6,3,2,4])).promoted (li [0,0,0,0,0,0,0,0,0,0,0,0]) (N101 7 (li [4,2,3,5,6,3,2,4])).turn (li [-1,-1,7,0]) (N101 7 (li [4,2,3,5,6,3,2,4])).passing (li [0,0]) (N101 7 (li [4,2,3,5,6,3,2,4])).half (N101 7 (li [4,2,3,5,6,3,2,4])).full)).getD default).snd.snd.promoted (li [0,0,0,0,0,0,0,0,0,0,0,0]) ((lp99_1 (0,Pos.mk (N101 7 (li [4,2,3,5,6,3,2,4])).variant (li zbd) (N101 7 (li [4,2,3,5,6,3,2,4])).promoted (li [0,0,0,0,0,0,0,0,0,0,0,0]) (N101 7 (li [4,2,3,5,6,3,2,4])).turn (li [-1,-1,7,0]) (N101 7 (li [4,2,3,5,6,3,2,4])).passing (li [0,0]) (N101 7 (li [4,2,3,5,6,3,2,4])).half (N101 7 (li [4,2,3,5,6,3,2,4])).full)).getD default).snd.snd.turn (li [-1,-1,7,0]) ((lp99_1 (0,Pos.mk (N101 7 (li [4,2,3,5,6,3,2,4])).variant (li zbd) (N101 7 (li [4,2,3,5,6,3,2,4])).promoted (li [0,0,0,0,0,0,0,0,0,0,0,0]) (N101 7 (li [4,2,3,5,6,3,2,4])).turn (li [-1,-1,7,0]) (N101 7 (li [4,2,3,5,6,3,2,4])).passing (li [0,0]) (N101 7 (li [4,2,3,5,6,3,2,4])).half (N101 7 (li [4,2,3,5,6,3,2,4])).full)).getD default).snd.snd.passing (li [0,0]) ((lp99_1 (0,Pos.mk (N101 7 (li [4,2,3,5,6,3,2,4])).variant (li zbd) (N101 7 (li [4,2,3,5,6,3,2,4])).promoted (li [0,0,0,0,0,0,0,0,0,0,0,0]) (N101 7 (li [4,2,3,5,6,3,2,4])).turn (li [-1,-1,7,0]) (N101 7 (li [4,2,3,5,6,3,2,4])).passing (li [0,0]) (N101 7 (li [4,2,3,5,6,3,2,4])).half (N101 7 (li [4,2,3,5,6,3,2,4])).full)).getD default).snd.snd.half ((lp99_1 (0,Pos.mk (N101 7 (li [4,2,3,5,6,3,2,4])).variant (li zbd) (N101 7 (li [4,2,3,5,6,3,2,4])).promoted (li [0,0,0,0,0,0,0,0,0,0,0,0]) (N101 7 (li [4,2,3,5,6,3,2,4])).turn (li [-1,-1,7,0]) (N101 7 (li [4,2,3,5,6,3,2,4])).passing (li [0,0]) (N101 7 (li [4,2,3,5,6,3,2,4])).half (N101 7 (li [4,2,3,5,6,3,2,4])).full)).getD default).snd.snd.full)).getD default).snd.snd.passing),(li [0,0]),(((lp99_2 (0,Pos.mk ((lp99_1 (0,Pos.mk (N101 7 (li [4,2,3,5,6,3,2,4])).variant (li zbd) (N101 7 (li [4,2,3,5,6,3,2,4])).promoted (li [0,0,0,0,0,0,0,0,0,0,0,0]) (N101 7 (li [4,2,3,5,6,3,2,4])).turn (li [-1,-1,7,0]) (N101 7 (li [4,2,3,5,6,3,2,4])).passing (li [0,0]) (N101 7 (li [4,2,3,5,6,3,2,4])).half (N101 7 (li [4,2,3,5,6,3,2,4])).full)).getD default).snd.snd.variant (li [1,1,1,1,1,1,1,1,1,1,1,1,1,1,1,1,1,1,1,1,1,1,1,1,1,1,1,1,1,1,1,1,0,0,0,0,0,0,0,0,0,0,0,0,0,0,0,0,9,9,9,9,9,9,9,9,12,10,11,13,14,11,10,12]) ((lp99_1 (0,Pos.mk (N101 7 (li [4,2,3,5,6,3,2,4])).variant (li zbd) (N101 7 (li [4,2,3,5,6,3,2,4])).promoted (li [0,0,0,0,0,0,0,0,0,0,0,0]) (N101 7 (li [4,2,3,5,6,3,2,4])).turn (li [-1,-1,7,0]) (N101 7 (li [4,2,3,5,6,3,2,4])).passing (li [0,0]) (N101 7 (li [4,2,3,5,6,3,2,4])).half (N101 7 (li [4,2,3,5,6,3,2,4])).full)).getD default).snd.snd.promoted (li [0,0,0,0,0,0,0,0,0,0,0,0]) ((lp99_1 (0,Pos.mk (N101 7 (li [4,2,3,5,6,3,2,4])).variant (li zbd) (N101 7 (li [4,2,3,5,6,3,2,4])).promoted (li [0,0,0,0,0,0,0,0,0,0,0,0]) (N101 7 (li [4,2,3,5,6,3,2,4])).turn (li [-1,-1,7,0]) (N101 7 (li [4,2,3,5,6,3,2,4])).passing (li [0,0]) (N101 7 (li [4,2,3,5,6,3,2,4])).half (N101 7 (li [4,2,3,5,6,3,2,4])).full)).getD default).snd.snd.turn (li [-1,-1,7,0]) ((lp99_1 (0,Pos.mk (N101 7 (li [4,2,3,5,6,3,2,4])).variant (li zbd) (N101 7 (li [4,2,3,5,6,3,2,4])).promoted (li [0,0,0,0,0,0,0,0,0,0,0,0]) (N101 7 (li [4,2,3,5,6,3,2,4])).turn (li [-1,-1,7,0]) (N101 7 (li [4,2,3,5,6,3,2,4])).passing (li [0,0]) (N101 7 (li [4,2,3,5,6,3,2,4])).half (N101 7 (li [4,2,3,5,6,3,2,4])).full)).getD default).snd.snd.passing (li [0,0]) ((lp99_1 (0,Pos.mk (N101 7 (li [4,2,3,5,6,3,2,4])).variant (li zbd) (N101 7 (li [4,2,3,5,6,3,2,4])).promoted (li [0,0,0,0,0,0,0,0,0,0,0,0]) (N101 7 (li [4,2,3,5,6,3,2,4])).turn (li [-1,-1,7,0]) (N101 7 (li [4,2,3,5,6,3,2,4])).passing (li [0,0]) (N101 7 (li [4,2,3,5,6,3,2,4])).half (N101 7 (li [4,2,3,5,6,3,2,4])).full)).getD default).snd.snd.half ((lp99_1 (0,Pos.mk (N101 7 (li [4,2,3,5,6,3,2,4])).variant (li zbd) (N101 7 (li [4,2,3,5,6,3,2,4])).promoted (li [0,0,0,0,0,0,0,0,0,0,0,0]) (N101 7 (li [4,2,3,5,6,3,2,4])).turn (li [-1,-1,7,0]) (N101 7 (li [4,2,3,5,6,3,2,4])).passing (li [0,0]) (N101 7 (li [4,2,3,5,6,3,2,4])).half (N101 7 (li [4,2,3,5,6,3,2,4])).full)).getD default).snd.snd.full)).getD default).snd.snd.half),(((lp99_2 (0,Pos.mk ((lp99_1 (0,Pos.mk (N101 7 (li [4,2,3,5,6,3,2,4])).variant (li zbd) (N101 7 (li [4,2,3,5,6,3,2,4])).promoted (li [0,0,0,0,0,0,0,0,0,0,0,0]) (N101 7 (li [4,2,3,5,6,3,2,4])).turn (li [-1,-1,7,0]) (N101 7 (li [4,2,3,5,6,3,2,4])).passing (li [0,0]) (N101 7 (li [4,2,3,5,6,3,2,4])).half (N101 7 (li [4,2,3,5,6,3,2,4])).full)).getD default).snd.snd.variant (li [1,1,1,1,1,1,1,1,1,1,1,1,1,1,1,1,1,1,1,1,1,1,1,1,1,1,1,1,1,1,1,1,0,0,0,0,0,0,0,0,0,0,0,0,0,0,0,0,9,9,9,9,9,9,9,9,12,10,11,13,14,11,10,12]) ((lp99_1 (0,Pos.mk (N101 7 (li [4,2,3,5,6,3,2,4])).variant (li zbd) (N101 7 (li [4,2,3,5,6,3,2,4])).promoted (li [0,0,0,0,0,0,0,0,0,0,0,0]) (N101 7 (li [4,2,3,5,6,3,2,4])).turn (li [-1,-1,7,0]) (N101 7 (li [4,2,3,5,6,3,2,4])).passing (li [0,0]) (N101 7 (li [4,2,3,5,6,3,2,4])).half (N101 7 (li [4,2,3,5,6,3,2,4])).full)).getD default).snd.snd.promoted (li [0,0,0,0,0,0,0,0,0,0,0,0]) ((lp99_1 (0,Pos.mk (N101 7 (li [4,2,3,5,6,3,2,4])).variant (li zbd) (N101 7 (li [4,2,3,5,6,3,2,4])).promoted (li [0,0,0,0,0,0,0,0,0,0,0,0]) (N101 7 (li [4,2,3,5,6,3,2,4])).turn (li [-1,-1,7,0]) (N101 7 (li [4,2,3,5,6,3,2,4])).passing (li [0,0]) (N101 7 (li [4,2,3,5,6,3,2,4])).half (N101 7 (li [4,2,3,5,6,3,2,4])).full)).getD default).snd.snd.turn (li [-1,-1,7,0]) ((lp99_1 (0,Pos.mk (N101 7 (li [4,2,3,5,6,3,2,4])).variant (li zbd) (N101 7 (li [4,2,3,5,6,3,2,4])).promoted (li [0,0,0,0,0,0,0,0,0,0,0,0]) (N101 7 (li [4,2,3,5,6,3,2,4])).turn (li [-1,-1,7,0]) (N101 7 (li [4,2,3,5,6,3,2,4])).passing (li [0,0]) (N101 7 (li [4,2,3,5,6,3,2,4])).half (N101 7 (li [4,2,3,5,6,3,2,4])).full)).getD default).snd.snd.passing (li [0,0]) ((lp99_1 (0,Pos.mk (N101 7 (li [4,2,3,5,6,3,2,4])).variant (li zbd) (N101 7 (li [4,2,3,5,6,3,2,4])).promoted (li [0,0,0,0,0,0,0,0,0,0,0,0]) (N101 7 (li [4,2,3,5,6,3,2,4])).turn (li [-1,-1,7,0]) (N101 7 (li [4,2,3,5,6,3,2,4])).passing (li [0,0]) (N101 7 (li [4,2,3,5,6,3,2,4])).half (N101 7 (li [4,2,3,5,6,3,2,4])).full)).getD default).snd.snd.half ((lp99_1 (0,Pos.mk (N101 7 (li [4,2,3,5,6,3,2,4])).variant (li zbd) (N101 7 (li [4,2,3,5,6,3,2,4])).promoted (li [0,0,0,0,0,0,0,0,0,0,0,0]) (N101 7 (li [4,2,3,5,6,3,2,4])).turn (li [-1,-1,7,0]) (N101 7 (li [4,2,3,5,6,3,2,4])).passing (li [0,0]) (N101 7 (li [4,2,3,5,6,3,2,4])).half (N101 7 (li [4,2,3,5,6,3,2,4])).full)).getD default).snd.snd.full)).getD default).snd.snd.full)⟩
noncomputable def ok99  : Bool:=(ok102&&(ok101 7 (li [4,2,3,5,6,3,2,4])&&((lp99_1 (0,Pos.mk (N101 7 (li [4,2,3,5,6,3,2,4])).variant (li zbd) (N101 7 (li [4,2,3,5,6,3,2,4])).promoted (li [0,0,0,0,0,0,0,0,0,0,0,0]) (N101 7 (li [4,2,3,5,6,3,2,4])).turn (li [-1,-1,7,0]) (N101 7 (li [4,2,3,5,6,3,2,4])).passing (li [0,0]) (N101 7 (li [4,2,3,5,6,3,2,4])).half (N101 7 (li [4,2,3,5,6,3,2,4])).full)).isSome&&((lp99_2 (0,Pos.mk ((lp99_1 (0,Pos.mk (N101 7 (li [4,2,3,5,6,3,2,4])).variant (li zbd) (N101 7 (li [4,2,3,5,6,3,2,4])).promoted (li [0,0,0,0,0,0,0,0,0,0,0,0]) (N101 7 (li [4,2,3,5,6,3,2,4])).turn (li [-1,-1,7,0]) (N101 7 (li [4,2,3,5,6,3,2,4])).passing (li [0,0]) (N101 7 (li [4,2,3,5,6,3,2,4])).half (N101 7 (li [4,2,3,5,6,3,2,4])).full)).getD default).snd.snd.variant (li [1,1,1,1,1,1,1,1,1,1,1,1,1,1,1,1,1,1,1,1,1,1,1,1,1,1,1,1,1,1,1,1,0,0,0,0,0,0,0,0,0,0,0,0,0,0,0,0,9,9,9,9,9,9,9,9,12,10,11,13,14,11,10,12]) ((lp99_1 (0,Pos.mk (N101 7 (li [4,2,3,5,6,3,2,4])).variant (li zbd) (N101 7 (li [4,2,3,5,6,3,2,4])).promoted (li [0,0,0,0,0,0,0,0,0,0,0,0]) (N101 7 (li [4,2,3,5,6,3,2,4])).turn (li [-1,-1,7,0]) (N101 7 (li [4,2,3,5,6,3,2,4])).passing (li [0,0]) (N101 7 (li [4,2,3,5,6,3,2,4])).half (N101 7 (li [4,2,3,5,6,3,2,4])).full)).getD default).snd.snd.promoted (li [0,0,0,0,0,0,0,0,0,0,0,0]) ((lp99_1 (0,Pos.mk (N101 7 (li [4,2,3,5,6,3,2,4])).variant (li zbd) (N101 7 (li [4,2,3,5,6,3,2,4])).promoted (li [0,0,0,0,0,0,0,0,0,0,0,0]) (N101 7 (li [4,2,3,5,6,3,2,4])).turn (li [-1,-1,7,0]) (N101 7 (li [4,2,3,5,6,3,2,4])).passing (li [0,0]) (N101 7 (li [4,2,3,5,6,3,2,4])).half (N101 7 (li [4,2,3,5,6,3,2,4])).full)).getD default).snd.snd.turn (li [-1,-1,7,0]) ((lp99_1 (0,Pos.mk (N101 7 (li [4,2,3,5,6,3,2,4])).variant (li zbd) (N101 7 (li [4,2,3,5,6,3,2,4])).promoted (li [0,0,0,0,0,0,0,0,0,0,0,0]) (N101 7 (li [4,2,3,5,6,3,2,4])).turn (li [-1,-1,7,0]) (N101 7 (li [4,2,3,5,6,3,2,4])).passing (li [0,0]) (N101 7 (li [4,2,3,5,6,3,2,4])).half (N101 7 (li [4,2,3,5,6,3,2,4])).full)).getD default).snd.snd.passing (li [0,0]) ((lp99_1 (0,Pos.mk (N101 7 (li [4,2,3,5,6,3,2,4])).variant (li zbd) (N101 7 (li [4,2,3,5,6,3,2,4])).promoted (li [0,0,0,0,0,0,0,0,0,0,0,0]) (N101 7 (li [4,2,3,5,6,3,2,4])).turn (li [-1,-1,7,0]) (N101 7 (li [4,2,3,5,6,3,2,4])).passing (li [0,0]) (N101 7 (li [4,2,3,5,6,3,2,4])).half (N101 7 (li [4,2,3,5,6,3,2,4])).full)).getD default).snd.snd.half ((lp99_1 (0,Pos.mk (N101 7 (li [4,2,3,5,6,3,2,4])).variant (li zbd) (N101 7 (li [4,2,3,5,6,3,2,4])).promoted (li [0,0,0,0,0,0,0,0,0,0,0,0]) (N101 7 (li [4,2,3,5,6,3,2,4])).turn (li [-1,-1,7,0]) (N101 7 (li [4,2,3,5,6,3,2,4])).passing (li [0,0]) (N101 7 (li [4,2,3,5,6,3,2,4])).half (N101 7 (li [4,2,3,5,6,3,2,4])).full)).getD default).snd.snd.full)).isSome&&true))))
theorem P99  (h:ok99 =true):PS Pz 99 [] (dPos.res (N99 )):=ps_sum (n:=14) hB99 (by kernel_rfl) (by kernel_rfl) (by kernel_rfl) h
noncomputable def G99:List AV→Tr AV:=g0  (gdv ok99 (dPos.res (N99)))
theorem s99:Sound Pz 99 G99:=sound0 (at_gd P99)
noncomputable def K100:List (Nat×Nat×List (Nat×List Nat)):=[(100,42,[(0,[0]),(1,[0,1]),(2,[0,1,9,10,11]),(3,(0::1::(rn 9 4 []))),(4,(rn 0 4 [9,10,11])),(5,[0,1,2,9,10,11,16,17,18]),(6,(0::1::2::9::10::11::(rn 16 4 []))),(7,[0,1,2,4,5,9,10,11,16,17,18]),(8,[0,1,2,9,10,11,16,17,18]),(9,[0,1,2,9,10,11,16,17,18]),(10,[0,1,9,10,11]),(11,[0])])]
noncomputable def B100:Base:=baseOf Pz (fun f i=>lkC f i K100) [(123,G123),(124,G124)] [] []
theorem hB100:BOk B100:=base_ok named_z ⟨s123,s124,trivial⟩ trivial trivial
noncomputable def N100  : Pos:=⟨((N123 8).variant),(li [13,12,11,10,2,3,4,5,14,12,11,10,2,3,4,6,0,0,0,0,0,0,0,0,0,0,0,0,0,0,0,0,0,0,0,0,0,0,0,0,0,0,0,0,0,0,0,0,0,0,0,0,0,0,0,0,0,0,0,0,0,0,0,0]),((N123 8).promoted),(li [0,0,0,0,0,0,0,0,0,0,0,0]),((N123 8).turn),(li [-1,-1,-1,-1]),((N123 8).passing),(li [0,0]),((N123 8).half),((N123 8).full)⟩
noncomputable def ok100  : Bool:=(ok123 8&&(ok124 5&&(ok124 4&&(ok124 3&&(ok124 2&&(ok124 6&&(ok124 4&&(ok124 3&&(ok124 2&&true)))))))))
theorem P100  (h:ok100 =true):PS Pz 100 [] (dPos.res (N100 )):=ps_sum (n:=14) hB100 (by kernel_rfl) (by kernel_rfl) (by kernel_rfl) h
noncomputable def G100:List AV→Tr AV:=g0  (gdv ok100 (dPos.res (N100)))
theorem s100:Sound Pz 100 G100:=sound0 (at_gd P100)
noncomputable def K64:List (Nat×Nat×List (Nat×List Nat)):=[(64,19,[(0,[0,2]),(1,[0,2,4]),(2,[2,3]),(3,[0,2,8]),(4,[2,3]),(5,[0,2,12]),(6,[2,3]),(7,[2,3])])]
noncomputable def B64:Base:=baseOf Pz (fun f i=>lkC f i K64) [(99,G99),(100,G100),(101,G101),(102,G102)] [] []
theorem hB64:BOk B64:=base_ok named_z ⟨s99,s100,s101,s102,trivial⟩ trivial trivial
noncomputable def N64 (a:Int):(Pos×Bool):=(bif decide (a ≥ 9) then (⟨(0),(li (List.replicate 64 0)),(0),(li [0,0,0,0,0,0,0,0,0,0,0,0]),(0),(li [0,0,0,0]),(0),(li [0,0]),(0),(0)⟩,(false)) else (bif a==7 then (⟨(N99.variant),(li [1,1,1,1,1,1,1,1,1,1,1,1,1,1,1,1,1,1,1,1,1,1,1,1,1,1,1,1,1,1,1,1,0,1,1,0,0,1,1,0,0,0,0,0,0,0,0,0,9,9,9,9,9,9,9,9,12,10,11,13,14,11,10,12]),(N99.promoted),(li [0,0,0,0,0,0,0,0,0,0,0,0]),(N99.turn),(li [-1,-1,7,0]),(N99.passing),(li [0,0]),(N99.half),(N99.full)⟩,(true)) else (bif a==8 then (⟨(N100.variant),(li [13,12,11,10,2,3,4,5,14,12,11,10,2,3,4,6,0,0,0,0,0,0,0,0,0,0,0,0,0,0,0,0,0,0,0,0,0,0,0,0,0,0,0,0,0,0,0,0,0,0,0,0,0,0,0,0,0,0,0,0,0,0,0,0]),(N100.promoted),(li [0,0,0,0,0,0,0,0,0,0,0,0]),(N100.turn),(li [-1,-1,-1,-1]),(N100.passing),(li [0,0]),(N100.half),(N100.full)⟩,(true)) else (⟨((N101 a (li [4,2,3,5,6,3,2,4])).variant),((N101 a (li [4,2,3,5,6,3,2,4])).board),((N101 a (li [4,2,3,5,6,3,2,4])).promoted),((N101 a (li [4,2,3,5,6,3,2,4])).pockets),((N101 a (li [4,2,3,5,6,3,2,4])).turn),((N101 a (li [4,2,3,5,6,3,2,4])).rooks),((N101 a (li [4,2,3,5,6,3,2,4])).passing),((N101 a (li [4,2,3,5,6,3,2,4])).checks),((N101 a (li [4,2,3,5,6,3,2,4])).half),((N101 a (li [4,2,3,5,6,3,2,4])).full)⟩,(true)))))
noncomputable def ok64 (a:Int):Bool:=(bif decide (a ≥ 9) then true else (bif a==7 then (ok99&&true) else (bif a==8 then (ok100&&true) else (ok101 a (li [4,2,3,5,6,3,2,4])&&true))))
theorem P64 (a:Int) (h:ok64 a=true):PS Pz 64 [.int .u8 a] ((d2 dPos dB).res (N64 a)):=ps_sum (n:=14) hB64 (by kernel_rfl) (by kernel_rfl) (by kernel_rfl) h
noncomputable def G64:List AV→Tr AV:=g1 (dI .u8) (fun a=>gdv (ok64 a) ((d2 dPos dB).res (N64 a)))
theorem s64:Sound Pz 64 G64:=sound1 fun a=>at_gd (P64 a)
noncomputable def K33:List (Nat×Nat×List (Nat×List Nat)):=[(33,14,[(0,[0]),(1,[3,4]),(2,[3,11]),(3,[2]),(4,[2])])]
noncomputable def B33:Base:=baseOf Pz (fun f i=>lkC f i K33) [(12,G12),(64,G64)] [] []
theorem hB33:BOk B33:=base_ok named_z ⟨s12,s64,trivial⟩ trivial trivial
noncomputable def N33 (a:Int):List UInt8:=(bif !(N64 a).snd then ((ByteArray.mk #[]).data.toList) else (N12 (N64 a).fst))
noncomputable def ok33 (a:Int):Bool:=(ok64 a&&(bif !(N64 a).snd then true else (ok12 (N64 a).fst&&true)))
theorem P33 (a:Int) (h:ok33 a=true):PS Pz 33 [.int .u8 a] (dS.res (N33 a)):=ps_sum (n:=14) hB33 (by kernel_rfl) (by kernel_rfl) (by kernel_rfl) h
end Kz
end
section
namespace Kz
open Go Go.RowKit Go.Proofs
set_option maxRecDepth 100000
def posInB (p:Pos):Bool :=
  decide (0≤p.variant)&&decide (p.variant≤255)&&(p.board.length==64)&&p.board.all (fun x=>decide (0≤x∧x≤255))&&(p.pockets.length==12)&&p.pockets.all (fun x=>decide (0≤x∧x≤255)) &&
  decide (0≤p.turn)&&decide (p.turn≤255)&&(p.rooks.length==4)&&p.rooks.all (fun x=>decide (-128≤x∧x≤127))&&decide (-128≤p.passing)&&decide (p.passing≤127)&&(p.checks.length==2)&&p.checks.all (fun x=>decide (0≤x∧x≤255)) &&
  decide (-9223372036854775808≤p.half)&&decide (p.half≤9223372036854775807)&&decide (-9223372036854775808≤p.full)&&decide (p.full≤9223372036854775807)
theorem posIn_of {p:Pos} (h:posInB p=true):PosIn p:=by
  unfold posInB at h
  simp only [Bool.and_eq_true,decide_eq_true_eq,beq_iff_eq,List.all_eq_true] at h
  obtain ⟨⟨⟨⟨⟨⟨⟨⟨⟨⟨⟨⟨⟨⟨⟨⟨⟨a,b⟩,c⟩,d⟩,e⟩,f⟩,g⟩,h⟩,i⟩,j⟩,k⟩,l⟩,m⟩,n⟩,o⟩,q⟩,r⟩,s⟩:=h
  exact ⟨a,b,c,d,e,f,g,h,i,j,k,l,m,n,⟨o,q⟩,⟨r,s⟩⟩
theorem st64:ok64 0=true∧ok64 2=true:=⟨by kernel_rfl,by kernel_rfl⟩
theorem in64:posInB (N64 0).1=true:=by kernel_rfl
theorem wr64:N59 (N64 0).1=true:=by kernel_rfl
theorem tx64 : fenT (N64 0).1 = "rnbqkbnr/pppppppp/8/8/8/8/PPPPPPPP/RNBQKBNR w KQkq - 0 1".toUTF8.data.toList := by kernel_rfl
end Kz
end
section
namespace Kz
open Go Go.RowKit Go.Proofs
@[reducible] noncomputable def G120:List AV→Tr AV:=GAtoi
theorem s120:Sound Pz 120 G120:=sAtoi
@[reducible] noncomputable def G87:List AV→Tr AV:=GSplit
theorem s87:Sound Pz 87 G87:=sSplit
end Kz
end
section
namespace Kz
open Go Go.RowKit Go.Proofs
set_option maxRecDepth 100000
set_option maxHeartbeats 4000000
noncomputable def K117:List (Nat×Nat×List (Nat×List Nat)):=[(117,12,[(0,[]),(1,[1]),(2,[1,2]),(3,[1,2,4]),(4,[1,2]),(5,[1,2]),(6,[0])])]
noncomputable def B117_1:Base:=baseOf Pz (fun f i=>lkC f i K117) [] [] []
theorem hB117_1:BOk B117_1:=base_ok named_z trivial trivial trivial
noncomputable def S117_1 (p1:Nat) (x:((List Int)×Int)):St:=St.mk (AV.any::AV.list (ET.i .u8) x.fst (Tk.own 1)::AV.int .u8 x.snd::(an 9 [])) (Hp.mk [] [p1,x.fst.length] [] 0 0 0)
noncomputable def O117_1 (p1:Nat):((List Int)×Int×Bool)→Out:=fun y=>.exit 0 (St.mk (AV.any::AV.list (ET.i .u8) y.fst (Tk.own 1)::AV.int .u8 y.snd.fst::AV.any::AV.bool y.snd.snd::(an 7 [])) (Hp.mk [] [p1,y.fst.length] [] 0 0 0))
noncomputable def st117_1 (p1:Nat) (x:((List Int)×Int)):Stp ((List Int)×Int) (((List Int)×Int×Bool)):=(bif decide (x.snd≤6) then (Stp.go (x.fst++[x.snd],wr .u8 (x.snd+1))) else (Stp.out ((x.fst,x.snd,decide (x.snd≤6)))))
noncomputable def okL117_1 (p1:Nat) (x:((List Int)×Int)):Bool:=(bif decide (x.snd≤6) then (x.fst.length==x.fst.length&&decide (x.fst.length+1≤1073741824)&&true) else true)
noncomputable def lp117_1 (p1:Nat) (x:((List Int)×Int)):Option (((List Int)×Int×Bool)):=itl (fun x=>bif okL117_1 p1 x then st117_1 p1 x else .bad) many x
abbrev D117_1 {α:Type} (k:Nat→((List Int)×Int)→α) (s:St):α:=k (tK s 0) ((tL (ET.i .u8) (tT s 1)),(tI (tT s 2)))
theorem L117_1 (p1:Nat) (x:((List Int)×Int)) (r:((List Int)×Int×Bool)) (h:lp117_1 p1 x=some r):LSpec Pz (bodL Pz 117 3) (S117_1 p1 x) (O117_1 p1 r):=LSpec.smd (m:=12) (fn:=117) hB117_1 (D117_1 fun _ x=>some x) (fun o=>match o with | .exit 0 s=>some ((tL (ET.i .u8) (tT s 1)),(tI (tT s 2)),(tB (tT s 4))) | _=>none) (fun _=>rfl) (fun _=>by kernel_rfl) (fun _=>by kernel_rfl) (fun _=>by kernel_rfl) (fun _=>by kernel_rfl) many x r h
noncomputable def F117_1 (b:Code) (s:St):Tr Out:=D117_1 (fun p1 x=>lk1 b (bodL Pz 117 3) s (S117_1 p1 x) (lp117_1 p1 x) (O117_1 p1)) s
theorem sF117_1:∀ b,LSound Pz b (F117_1 b):=fun _ _ _ h=>lk1_ok (L117_1 _ _) h
noncomputable def B117:Base:=baseOf Pz (fun f i=>lkC f i K117) [] [(117,3,F117_1)] []
theorem hB117:BOk B117:=base_ok named_z trivial ⟨sF117_1,trivial⟩ trivial
noncomputable def N117  : List Int:=(li [1,2,3,4,5,6])
noncomputable def ok117  : Bool:=((lp117_1 0 ([],1)).isSome&&true)
theorem P117  (h:ok117 =true):PS Pz 117 [] ((dL (.i .u8)).res (N117 )):=ps_sum (n:=14) hB117 (by kernel_rfl) (by kernel_rfl) (by kernel_rfl) h
noncomputable def G117:List AV→Tr AV:=g0  (gdv ok117 ((dL (.i .u8)).res (N117)))
theorem s117:Sound Pz 117 G117:=sound0 (at_gd P117)
noncomputable def K86:List (Nat×Nat×List (Nat×List Nat)):=[(86,31,[(0,[0]),(1,[0,4]),(2,[0,4,5]),(3,[0,4,5,10]),(4,[0,4,5]),(5,[0,4,5,13,14,15]),(6,(0::4::5::(rn 13 4 []))),(7,[0,4,5,7,13,14,15]),(8,[0,4,5,8,13,14,15]),(9,[0,4,5,8,13,14,15,25]),(10,[4]),(11,[0,4,5,13,14,15]),(12,[2,3])])]
noncomputable def B86_1:Base:=baseOf Pz (fun f i=>lkC f i K86) [(41,G41),(69,G69),(117,G117)] [] []
theorem hB86_1:BOk B86_1:=base_ok named_z ⟨s41,s69,s117,trivial⟩ trivial trivial
noncomputable def S86_1 (p1:(List UInt8)) (p2:Int) (p3:Int) (x:(Int)):St:=St.mk (AV.str p1::(an 3 (AV.int .u8 p2::AV.int .u8 p3::(an 7 (AV.list (ET.i .u8) (li [1,2,3,4,5,6]) Tk.fresh::AV.int .i64 (Int.ofNat 6)::AV.int .i64 x::(an 15 [])))))) (Hp.mk [] [] [] 0 0 0)
noncomputable def O86_1 (p1:(List UInt8)) (p2:Int) (p3:Int):(Int) ⊕ (Int×Bool)→Out
  | (.inl (y))=>.exit 0 (St.mk (an 4 (AV.int .u8 y::(an 26 []))) (Hp.mk [] [] [] 0 0 0))
  | (.inr (y))=>.exit 2 (St.mk (AV.str p1::(an 3 (AV.int .u8 p2::AV.int .u8 p3::(an 7 (AV.list (ET.i .u8) (li [1,2,3,4,5,6]) Tk.fresh::AV.int .i64 (Int.ofNat 6)::AV.int .i64 y.fst::AV.bool y.snd::(an 14 [])))))) (Hp.mk [] [] [] 0 0 0))
noncomputable def st86_1 (p1:(List UInt8)) (p2:Int) (p3:Int) (x:(Int)):Stp (Int) ((Int) ⊕ (Int×Bool)):=(bif decide (x < Int.ofNat 6) then (bif N69 (N41 p3 ((li [1,2,3,4,5,6]).getD x.toNat default))==p1 then (Stp.out (.inl ((N41 p3 ((li [1,2,3,4,5,6]).getD x.toNat default))))) else (Stp.go (wr .i64 (x+1)))) else (Stp.out (.inr ((x,decide (x < Int.ofNat 6))))))
noncomputable def okL86_1 (p1:(List UInt8)) (p2:Int) (p3:Int) (x:(Int)):Bool:=(bif decide (x < Int.ofNat 6) then (decide (0≤x)&&decide (x < Int.ofNat 6)&&(ok69 (N41 p3 ((li [1,2,3,4,5,6]).getD x.toNat default))&&true)) else true)
noncomputable def lp86_1 (p1:(List UInt8)) (p2:Int) (p3:Int) (x:(Int)):Option ((Int) ⊕ (Int×Bool)):=itl (fun x=>bif okL86_1 p1 p2 p3 x then st86_1 p1 p2 p3 x else .bad) many x
abbrev D86_1 {α:Type} (k:(List UInt8)→Int→Int→(Int)→α) (s:St):α:=k (tS (tT s 0)) (tI (tT s 4)) (tI (tT s 5)) ((tI (tT s 15)))
theorem L86_1 (p1:(List UInt8)) (p2:Int) (p3:Int) (x:(Int)) (r:(Int) ⊕ (Int×Bool)) (h:lp86_1 p1 p2 p3 x=some r):LSpec Pz (bodL Pz 86 6) (S86_1 p1 p2 p3 x) (O86_1 p1 p2 p3 r):=LSpec.smd (m:=12) (fn:=86) hB86_1 (D86_1 fun _ _ _ x=>some x) (fun o=>match o with | .exit 0 s=>some (.inl (tI (tT s 4))) | .exit 2 s=>some (.inr ((tI (tT s 15)),(tB (tT s 16)))) | _=>none) (fun r=>by cases r <;> rfl) (fun _=>by kernel_rfl) (fun _=>by kernel_rfl) (fun _=>by kernel_rfl) (fun _=>by kernel_rfl) many x r h
noncomputable def F86_1 (b:Code) (s:St):Tr Out:=D86_1 (fun p1 p2 p3 x=>lk2 b (bodL Pz 86 6) s (S86_1 p1 p2 p3 x) (lp86_1 p1 p2 p3 x) (O86_1 p1 p2 p3)) s
theorem sF86_1:∀ b,LSound Pz b (F86_1 b):=fun _ _ _ h=>lk2_ok (L86_1 _ _ _ _) h
noncomputable def B86_2:Base:=baseOf Pz (fun f i=>lkC f i K86) [(41,G41),(69,G69),(117,G117)] [(86,6,F86_1)] []
theorem hB86_2:BOk B86_2:=base_ok named_z ⟨s41,s69,s117,trivial⟩ ⟨sF86_1,trivial⟩ trivial
noncomputable def S86_2 (p1:(List UInt8)) (p2:Int) (x:(Int)):St:=St.mk (AV.str p1::(an 3 (AV.int .u8 p2::AV.int .u8 x::(an 25 [])))) (Hp.mk [] [] [] 0 0 0)
noncomputable def O86_2 (p1:(List UInt8)) (p2:Int):(Int)→Out:=fun y=>.exit 0 (St.mk (an 4 (AV.int .u8 y::(an 26 []))) (Hp.mk [] [] [] 0 0 0))
noncomputable def st86_2 (p1:(List UInt8)) (p2:Int) (x:(Int)):Stp (Int) ((Int)):=(bif decide (x≤1) then (bif isL ((lp86_1 p1 p2 x 0).getD default) then (Stp.out ((gl ((lp86_1 p1 p2 x 0).getD default)))) else (Stp.go (wr .u8 (x+1)))) else (Stp.out ((p2))))
noncomputable def okL86_2 (p1:(List UInt8)) (p2:Int) (x:(Int)):Bool:=(bif decide (x≤1) then (ok117&&((lp86_1 p1 p2 x 0).isSome&&bif isL ((lp86_1 p1 p2 x 0).getD default) then true else true)) else true)
noncomputable def lp86_2 (p1:(List UInt8)) (p2:Int) (x:(Int)):Option ((Int)):=itl (fun x=>bif okL86_2 p1 p2 x then st86_2 p1 p2 x else .bad) many x
abbrev D86_2 {α:Type} (k:(List UInt8)→Int→(Int)→α) (s:St):α:=k (tS (tT s 0)) (tI (tT s 4)) ((tI (tT s 5)))
theorem L86_2 (p1:(List UInt8)) (p2:Int) (x:(Int)) (r:(Int)) (h:lp86_2 p1 p2 x=some r):LSpec Pz (bodL Pz 86 3) (S86_2 p1 p2 x) (O86_2 p1 p2 r):=LSpec.smd (m:=12) (fn:=86) hB86_2 (D86_2 fun _ _ x=>some x) (fun o=>match o with | .exit 0 s=>some (tI (tT s 4)) | _=>none) (fun _=>rfl) (fun _=>by kernel_rfl) (fun _=>by kernel_rfl) (fun _=>by kernel_rfl) (fun _=>by kernel_rfl) many x r h
noncomputable def F86_2 (b:Code) (s:St):Tr Out:=D86_2 (fun p1 p2 x=>lk1 b (bodL Pz 86 3) s (S86_2 p1 p2 x) (lp86_2 p1 p2 x) (O86_2 p1 p2)) s
theorem sF86_2:∀ b,LSound Pz b (F86_2 b):=fun _ _ _ h=>lk1_ok (L86_2 _ _ _) h
noncomputable def B86:Base:=baseOf Pz (fun f i=>lkC f i K86) [(41,G41),(69,G69),(117,G117)] [(86,6,F86_1),(86,3,F86_2)] []
theorem hB86:BOk B86:=base_ok named_z ⟨s41,s69,s117,trivial⟩ ⟨sF86_1,sF86_2,trivial⟩ trivial
noncomputable def N86 (a:List UInt8):(Int×Bool):=(((lp86_2 a 0 0).getD default),((lp86_2 a 0 0).getD default != 0))
noncomputable def ok86 (a:List UInt8):Bool:=((lp86_2 a 0 0).isSome&&true)
theorem P86 (a:List UInt8) (h:ok86 a=true):PS Pz 86 [.str a] ((d2 (dI .u8) dB).res (N86 a)):=ps_sum (n:=14) hB86 (by kernel_rfl) (by kernel_rfl) (by kernel_rfl) h
end Kz
end
section
namespace Kz
open Go Go.RowKit Go.Proofs
set_option maxRecDepth 100000
theorem at_or {f:Nat} {xs:List AV} {b:Bool} {v:AV} {t:Tr AV} (h:b=true→PS Pz f xs v) (h2:At0 Pz f xs t):At0 Pz f xs (.br b (.ret v) t):=by
  intro u hu
  cases b with
  | true=>exact (Option.some.inj hu) ▸ h rfl
  | false=>exact h2 u hu
theorem at_no {f:Nat} {xs:List AV}:At0 Pz f xs .fail:=fun _ hu=>by cases hu
theorem q86_8:PS Pz 86 [.str [56]] (.tuple [.int .u8 0,.bool false]):=P86 [56] (by kernel_rfl)
theorem q86_4:PS Pz 86 [.str [52]] (.tuple [.int .u8 0,.bool false]):=P86 [52] (by kernel_rfl)
theorem inv2 {g:Gh} {tk:List Nat} {w:World} {a b:AV} {x:Value} (h:Rep g tk w (.tuple [a,b]) x):∃ y z,x=.tuple #[y,z]∧Rep g tk w a y∧Rep g tk w b z:=by
  generalize e:AV.tuple [a,b]=v at h
  cases h with
  | tuple q =>
    rename_i l vs
    cases e
    obtain ⟨vs⟩:=vs
    cases q with
    | cons q1 q2 =>
      cases q2 with
      | cons q2 q3 =>
        cases q3
        exact ⟨_,_,rfl,q1,q2⟩
  | _=>cases e
theorem to_c {f:Nat} {xs:List AV} (h:PS Pz f xs (.tuple [.int .u8 0,.bool false])):PS Pz f xs (.tuple [.cint .u8 0,.cbool false]) :=
  ⟨fun w vals hg hr=>(h.1 w vals hg hr).mono fun e w' ⟨x,e1,e2,e3⟩=>⟨x,e1,e2,by
    obtain ⟨y,z,rfl,q1,q2⟩:=inv2 e3
    cases q1
    cases q2
    exact .tuple (.cons (.cint _ _) (.cons (.cbool _) .nil))⟩,h.2⟩
noncomputable def T86:List AV→Tr AV:=g1 dS fun s=>.br (s==[56]) (.ret (.tuple [.cint .u8 0,.cbool false])) (.br (s==[52]) (.ret (.tuple [.cint .u8 0,.cbool false])) .fail)
theorem sT86:Sound Pz 86 T86:=sound1 fun s=>at_or (fun e=>by rw [beq_iff_eq] at e; subst e; exact to_c q86_8) (at_or (fun e=>by rw [beq_iff_eq] at e; subst e; exact to_c q86_4) at_no)
def li64 (k:Nat) (n:Int):List Int:=List.replicate k n
def pE (t h f:Int):Pos:=⟨0,li64 64 0,0#64,li64 12 0,t,li64 4 (-1),-1,li64 2 0,h,f⟩
def posE (p q:Pos):Bool:=p.variant==q.variant&&(p.board==q.board&&(p.promoted==q.promoted&&(p.pockets==q.pockets&&(p.turn==q.turn&&(p.rooks==q.rooks&&(p.passing==q.passing&&(p.checks==q.checks&&(p.half==q.half&&p.full==q.full))))))))
theorem posE_eq {p q:Pos} (h:posE p q=true):p=q:=by
  unfold posE at h
  simp only [Bool.and_eq_true,beq_iff_eq] at h
  obtain ⟨a,b,c,d,e,f,g,i,j,k⟩:=h
  cases p; cases q
  simp only at a b c d e f g i j k
  subst a; subst b; subst c; subst d; subst e; subst f; subst g; subst i; subst j; subst k
  rfl
def tE1 : List UInt8 := "8/8/8/8/8/8/8/8 w - - 0 1".toUTF8.data.toList
def tE2 : List UInt8 := "8/8/8/8/8/8/8/8 b - - 7 9".toUTF8.data.toList
theorem print_run {p:Pos} {t:List UInt8} (hi:posInB p=true) (hw:N59 p=true) (ht:fenT p=t) (hl:fin200 t=t):ok12 p=true∧N12 p=t:=by
  obtain ⟨a,b,_⟩:=print_at (posIn_of hi)
  refine ⟨a,?_⟩
  rw [b ((N13_iff (posIn_of hi)).1.1 hw),ht,hl]
theorem q12_1:PS Pz 12 [Pos.av (pE 0 0 1)] (.str tE1):=by
  obtain ⟨a,b⟩:=print_run (p:=pE 0 0 1) (t:=tE1) (by kernel_rfl) (by kernel_rfl) (by kernel_rfl) (by kernel_rfl)
  have:=P12 _ a
  rw [b] at this
  exact this
theorem q12_2:PS Pz 12 [Pos.av (pE 1 7 9)] (.str tE2):=by
  obtain ⟨a,b⟩:=print_run (p:=pE 1 7 9) (t:=tE2) (by kernel_rfl) (by kernel_rfl) (by kernel_rfl) (by kernel_rfl)
  have:=P12 _ a
  rw [b] at this
  exact this
noncomputable def T12:List AV→Tr AV:=g1 dPos fun p=>.br (posE p (pE 0 0 1)) (.ret (.str tE1)) (.br (posE p (pE 1 7 9)) (.ret (.str tE2)) .fail)
theorem sT12:Sound Pz 12 T12:=sound1 fun p=>at_or (fun e=>by rw [posE_eq e]; exact q12_1) (at_or (fun e=>by rw [posE_eq e]; exact q12_2) at_no)
noncomputable def B9:Base:=baseOf Pz (fun _ _=>[]) [(120,G120),(87,G87),(86,T86),(66,G66),(12,T12)] [] []
theorem hB9:BOk B9:=base_ok named_z ⟨s120,s87,sT86,s66,sT12,trivial⟩ trivial trivial
def a1 : List UInt8 := "8/8 w - - 0 1".toUTF8.data.toList
def a2 : List UInt8 := "8/8/8/8/8/8/8/44 w - - 0 1".toUTF8.data.toList
def a3 : List UInt8 := "8/8/8/8/8/8/8/8 w K - 0 1".toUTF8.data.toList
def a4 : List UInt8 := "8/8/8/8/8/8/8/8 w - - 00 1".toUTF8.data.toList
def pZ:Pos:=⟨0,li64 64 0,0#64,li64 12 0,0,li64 4 0,0,li64 2 0,0,0⟩
def chkR (x:Pos×Int) (t:Tr AV):Bool:=match t.get with
  | some v=>match (d2 dPos (dI .i64)).dec v with
    | some y=>posE y.1 x.1&&y.2==x.2
    | none=>false
  | none=>false
theorem run_pos {n f:Nat} {xs:List AV} {x:Pos×Int} (h:chkR x (evPure B9 n f xs)=true):PS Pz f xs ((d2 dPos (dI .i64)).res x):=by
  unfold chkR at h
  split at h
  · rename_i v hv
    split at h
    · rename_i y hy
      simp only [Bool.and_eq_true,beq_iff_eq] at h
      have:y=x:=Prod.ext (posE_eq h.1) h.2
      subst this
      exact ps_of hB9 hv (d2 dPos (dI .i64)) hy
    · cases h
  · cases h
theorem q9_1:PS Pz 9 [.int .u8 0,.str a1] ((d2 dPos (dI .i64)).res (pZ,5)):=run_pos (n:=60) (by kernel_rfl)
theorem q9_2:PS Pz 9 [.int .u8 0,.str a2] ((d2 dPos (dI .i64)).res (pZ,5)):=run_pos (n:=60) (by kernel_rfl)
theorem q9_3:PS Pz 9 [.int .u8 0,.str a3] ((d2 dPos (dI .i64)).res (pZ,5)):=run_pos (n:=60) (by kernel_rfl)
theorem q9_4:PS Pz 9 [.int .u8 0,.str a4] ((d2 dPos (dI .i64)).res (pZ,5)):=run_pos (n:=60) (by kernel_rfl)
theorem q9_5:PS Pz 9 [.int .u8 0,.str tE2] ((d2 dPos (dI .i64)).res (pE 1 7 9,0)):=run_pos (n:=60) (by kernel_rfl)
theorem first_run {v:Int} {t:List UInt8} (h64:ok64 v=true) (h2:(N64 v).2=true) (hi:posInB (N64 v).1=true) (hw:N59 (N64 v).1=true) (ht:fenT (N64 v).1=t) (hl:fin200 t=t):PS Pz 33 [.int .u8 v] (.str t):=by
  obtain ⟨a,b⟩:=print_run hi hw ht hl
  have:=P33 v (by unfold ok33; rw [h64,h2,a]; rfl)
  have e:N33 v=t:=by unfold N33; rw [h2,b]; rfl
  rw [e] at this
  exact this
def f0 : List UInt8 := "rnbqkbnr/pppppppp/8/8/8/8/PPPPPPPP/RNBQKBNR w KQkq - 0 1".toUTF8.data.toList
def f2 : List UInt8 := "rnbqkbnr/pppppppp/8/8/8/8/PPPPPPPP/RNBQKBNR[] w KQkq - 0 1".toUTF8.data.toList
def f5 : List UInt8 := "rnbqkbnr/pppppppp/8/8/8/8/PPPPPPPP/RNBQKBNR w KQkq - +0+0 0 1".toUTF8.data.toList
def f8 : List UInt8 := "8/8/8/8/8/8/krbnNBRK/qrbnNBRQ w - - 0 1".toUTF8.data.toList
theorem q33_0:PS Pz 33 [.int .u8 0] (.str f0):=first_run (by kernel_rfl) (by kernel_rfl) (by kernel_rfl) (by kernel_rfl) (by kernel_rfl) (by kernel_rfl)
theorem q33_2:PS Pz 33 [.int .u8 2] (.str f2):=first_run (by kernel_rfl) (by kernel_rfl) (by kernel_rfl) (by kernel_rfl) (by kernel_rfl) (by kernel_rfl)
theorem q33_5:PS Pz 33 [.int .u8 5] (.str f5):=first_run (by kernel_rfl) (by kernel_rfl) (by kernel_rfl) (by kernel_rfl) (by kernel_rfl) (by kernel_rfl)
theorem q33_8:PS Pz 33 [.int .u8 8] (.str f8):=first_run (by kernel_rfl) (by kernel_rfl) (by kernel_rfl) (by kernel_rfl) (by kernel_rfl) (by kernel_rfl)
noncomputable def T33:List AV→Tr AV:=g1 (dI .u8) fun v=>.br (v==0) (.ret (.str f0)) (.br (v==2) (.ret (.str f2)) (.br (v==5) (.ret (.str f5)) (.br (v==8) (.ret (.str f8)) .fail)))
theorem sT33:Sound Pz 33 T33:=sound1 fun v=>at_or (fun e=>by rw [beq_iff_eq] at e; subst e; exact q33_0) (at_or (fun e=>by rw [beq_iff_eq] at e; subst e; exact q33_2) (at_or (fun e=>by rw [beq_iff_eq] at e; subst e; exact q33_5) (at_or (fun e=>by rw [beq_iff_eq] at e; subst e; exact q33_8) at_no)))
def is9 (v:Int) (s t:List UInt8):Bool:=v==0&&s==t
theorem is9_eq {v:Int} {s t:List UInt8} (h:is9 v s t=true):v=0∧s=t:=by
  unfold is9 at h
  simp only [Bool.and_eq_true,beq_iff_eq] at h
  exact h
noncomputable def T9:List AV→Tr AV:=g2 (dI .u8) dS fun v s=>.br (is9 v s a1) (.ret ((d2 dPos (dI .i64)).res (pZ,5))) (.br (is9 v s a2) (.ret ((d2 dPos (dI .i64)).res (pZ,5))) (.br (is9 v s a3) (.ret ((d2 dPos (dI .i64)).res (pZ,5))) (.br (is9 v s a4) (.ret ((d2 dPos (dI .i64)).res (pZ,5))) (.br (is9 v s tE2) (.ret ((d2 dPos (dI .i64)).res (pE 1 7 9,0))) .fail))))
theorem sT9:Sound Pz 9 T9:=sound2 fun v s=>at_or (fun e=>by obtain ⟨rfl,rfl⟩:=is9_eq e; exact q9_1) (at_or (fun e=>by obtain ⟨rfl,rfl⟩:=is9_eq e; exact q9_2) (at_or (fun e=>by obtain ⟨rfl,rfl⟩:=is9_eq e; exact q9_3) (at_or (fun e=>by obtain ⟨rfl,rfl⟩:=is9_eq e; exact q9_4) (at_or (fun e=>by obtain ⟨rfl,rfl⟩:=is9_eq e; exact q9_5) at_no))))
noncomputable def B11:Base:=baseOf Pz (fun _ _=>[]) [(33,T33),(9,T9)] [] []
theorem hB11:BOk B11:=base_ok named_z ⟨sT33,sT9,trivial⟩ trivial trivial
def chkB (t:Tr AV):Bool:=match t.get with
  | some v=>match dB.dec v with
    | some b=>b
    | none=>false
  | none=>false
theorem P11:PS Pz 11 [] (.bool true):=by
  have h:chkB (evPure B11 60 11 [])=true:=by kernel_rfl
  unfold chkB at h
  split at h
  · rename_i v hv
    split at h
    · rename_i b hb
      subst h
      exact ps_of hB11 hv dB hb
    · cases h
  · cases h
noncomputable def G11:List AV→Tr AV:=g0 (.ret (.bool true))
theorem s11:Sound Pz 11 G11:=sound0 fun _ h=>(Option.some.inj h) ▸ P11
end Kz
end
section

end
section
namespace Kz
open Go Go.RowKit Go.Proofs
set_option maxRecDepth 100000
set_option maxHeartbeats 4000000
noncomputable def K7:List (Nat×Nat×List (Nat×List Nat)):=[(7,77,[(0,[1,2,3]),(1,[1,2,3,10]),(2,[6]),(3,[1,2,3,36]),(4,[6]),(5,[7,8]),(6,[7,8,49]),(7,[6]),(8,[6])])]
noncomputable def B7:Base:=baseOf Pz (fun f i=>lkC f i K7) [(11,G11),(12,G12),(15,G15),(16,G16),(17,G17)] [] []
theorem hB7:BOk B7:=base_ok named_z ⟨s11,s12,s15,s16,s17,trivial⟩ trivial trivial
noncomputable def N7 (a:Pos) (b:Int) (c:Int):Bool:=(bif !true then (false) else (bif eqOut BinOp.neq (a.rooks==li [-1,-1,-1,-1]&&true) then (true) else (bif !N15 c then (true) else (bif decide (b < 0) then (true) else (bif decide (b > 63) then (true) else (bif a.board.getD (scale 1 b).toNat 0 != 0 then (true) else (bif N12 a==(ByteArray.mk #[]).data.toList then (bif N12 a==(ByteArray.mk #[]).data.toList then (true) else (decide (Int.ofNat (N12 a).length > 196))) else (bif N12 (N16 a b c)==(ByteArray.mk #[]).data.toList then (bif N12 a==(ByteArray.mk #[]).data.toList then (true) else (decide (Int.ofNat (N12 a).length > 196))) else (bif List.drop (N17 (N12 a)).toNat (List.take (N12 a).length (N12 a))==List.drop (N17 (N12 (N16 a b c))).toNat (List.take (N12 (N16 a b c)).length (N12 (N16 a b c))) then (!List.drop 0 (List.take (N17 (N12 a)).toNat (N12 a))==List.drop 0 (List.take (N17 (N12 (N16 a b c))).toNat (N12 (N16 a b c)))) else (false))))))))))
noncomputable def ok7 (a:Pos) (b:Int) (c:Int):Bool:=(bif !true then true else (bif eqOut BinOp.neq (a.rooks==li [-1,-1,-1,-1]&&true) then true else (bif !N15 c then true else (bif decide (b < 0) then true else (bif decide (b > 63) then true else (decide (0≤b)&&decide (b < Int.ofNat 64)&&(bif a.board.getD (scale 1 b).toNat 0 != 0 then true else (ok12 a&&(ok16 a b c&&(ok12 (N16 a b c)&&(bif N12 a==(ByteArray.mk #[]).data.toList then true else (bif N12 (N16 a b c)==(ByteArray.mk #[]).data.toList then true else (ok17 (N12 a)&&(decide (0≤N17 (N12 a))&&decide (N17 (N12 a)≤Int.ofNat (N12 a).length)&&(ok17 (N12 (N16 a b c))&&(decide (0≤N17 (N12 (N16 a b c)))&&decide (N17 (N12 (N16 a b c))≤Int.ofNat (N12 (N16 a b c)).length)&&(bif List.drop (N17 (N12 a)).toNat (List.take (N12 a).length (N12 a))==List.drop (N17 (N12 (N16 a b c))).toNat (List.take (N12 (N16 a b c)).length (N12 (N16 a b c))) then (ok17 (N12 a)&&(decide (0≤N17 (N12 a))&&decide (N17 (N12 a)≤Int.ofNat (N12 a).length)&&(ok17 (N12 (N16 a b c))&&(decide (0≤N17 (N12 (N16 a b c)))&&decide (N17 (N12 (N16 a b c))≤Int.ofNat (N12 (N16 a b c)).length)&&true)))) else true)))))))))))))))))
theorem P7 (a:Pos) (b:Int) (c:Int) (h:ok7 a b c=true):PS Pz 7 [Pos.av a,.int .i64 b,.int .u8 c] (dB.res (N7 a b c)):=ps_sum (n:=14) hB7 (by kernel_rfl) (by kernel_rfl) (by kernel_rfl) h
noncomputable def G7:List AV→Tr AV:=g3 dPos (dI .i64) (dI .u8) (fun a b c=>gdv (ok7 a b c) (dB.res (N7 a b c)))
theorem s7:Sound Pz 7 G7:=sound3 fun a b c=>at_gd (P7 a b c)
end Kz
end
section
namespace Kz
open Go Go.RowKit Go.Proofs
set_option maxRecDepth 100000
structure PutR (p q:Pos) (s0:Int):Prop where
  lo:0≤s0
  hi:s0 < 64
  pr:q.promoted=p.promoted
  e0:atS p s0=0
  man:N96 (atS q s0)=true
  ne:atS q s0≠0
  bit:bitAt p.promoted s0.toNat=false
  same:∀ s:Int,0≤s→s < 64→s≠s0→atS q s=atS p s
variable {p q:Pos} {s0:Int}
theorem row_same (h:PutR p q s0) {r:Int} (r0:0≤r) (r7:r≤7):∀ (k:Nat) (e:Int),k≤8→(s0 < 8 * r+(8 - k)∨8 * r+7 < s0)→rowS q r k e=rowS p r k e
  | 0,e,_,_=>rfl
  | k+1,e,k8,hs=>by
    have e1:atS q (8 * r+(7 - (k:Int)))=atS p (8 * r+(7 - (k:Int))):=h.same _ (by omega) (by omega) (by omega)
    rw [rowS,rowS,e1,row_same h r0 r7 k (e+1) (by omega) (by omega),row_same h r0 r7 k 0 (by omega) (by omega)]
    unfold pieceT
    rw [e1,h.pr]
theorem row_more (hq:PosIn q) (h:PutR p q s0) {r:Int} (r0:0≤r) (r7:r≤7):∀ (k:Nat) (e:Int),k≤8→0≤e→e+k≤8→8 * r+(8 - k)≤s0→s0≤8 * r+7→cntL (rowS q r k e)=cntL (rowS p r k e)+1∧(rowS q r k e).length≤(rowS p r k e).length+2
  | 0,e,_,_,_,h1,h2=>by omega
  | k+1,e,k8,e0,e8,h1,h2=>by
    by_cases hs:s0=8 * r+(7 - (k:Int))
    · have q0:(atS q (8 * r+(7 - (k:Int)))==0)=false:=by rw [← hs]; simpa using h.ne
      have p0:(atS p (8 * r+(7 - (k:Int)))==0)=true:=by rw [← hs]; simpa using h.e0
      rw [rowS,rowS,q0,p0,cond_true,cond_false,row_same h r0 r7 k 0 (by omega) (by omega),← hs]
      have l1:(pieceT q s0).length=1:=by
        unfold pieceT
        rw [h.pr,h.bit,cond_false,List.append_nil]
        exact (let_of (at_in hq s0).1 (at_in hq s0).2 h.man).1
      have c1:=(piece_of hq h.man).1
      have l2:=(fl_of e0 (show e≤8 by omega)).1
      have l3:=row_mono (p:=p) (r:=r) k 0 (e+1) (by omega) (by omega) (by omega)
      have c3:=row_cnt (p:=p) (r:=r) k (e+1) 0 (by omega) (by omega) (by omega) (by omega)
      simp only [cntL_app,List.length_append,cnt_fl e0 (show e≤8 by omega)]
      omega
    · have e1:atS q (8 * r+(7 - (k:Int)))=atS p (8 * r+(7 - (k:Int))):=h.same _ (by omega) (by omega) (by omega)
      have e2:pieceT q (8 * r+(7 - (k:Int)))=pieceT p (8 * r+(7 - (k:Int))):=by
        unfold pieceT
        rw [e1,h.pr]
      rw [rowS,rowS,e1,e2]
      cases (atS p (8 * r+(7 - (k:Int)))==0) with
      | true=>exact row_more hq h r0 r7 k (e+1) (by omega) (by omega) (by omega) (by omega) h2
      | false =>
        have ih:=row_more hq h r0 r7 k 0 (by omega) (by omega) (by omega) (by omega) h2
        simp only [cond_false,cntL_app,List.length_append]
        omega
theorem bd_same (h:PutR p q s0):∀ k:Nat,k≤8→8 * (k:Int)≤s0→bdS q k=bdS p k
  | 0,_,_=>rfl
  | k+1,k8,hs=>by
    rw [bdS,bdS,row_same h (r:=(k:Int)) (by omega) (by omega) 8 0 (by omega) (by omega),bd_same h k (by omega) (by omega)]
theorem bd_more (hq:PosIn q) (h:PutR p q s0):∀ k:Nat,k≤8→s0 < 8 * (k:Int)→cntL (bdS q k)=cntL (bdS p k)+1∧(bdS q k).length≤(bdS p k).length+2
  | 0,_,hs=>by have:=h.lo; omega
  | k+1,k8,hs=>by
    rw [bdS,bdS]
    by_cases hk:8 * (k:Int)≤s0
    · have hr:=row_more hq h (r:=(k:Int)) (by omega) (by omega) 8 0 (by omega) (by omega) (by omega) (by omega) (by omega)
      rw [bd_same h k (by omega) hk]
      simp only [cntL_app,List.length_append]
      omega
    · have hb:=bd_more hq h k (by omega) (by omega)
      rw [row_same h (r:=(k:Int)) (by omega) (by omega) 8 0 (by omega) (by omega)]
      simp only [cntL_app,List.length_append]
      omega
theorem brd_more (hq:PosIn q) (h:PutR p q s0) (hv:q.variant=p.variant) (hk:q.pockets=p.pockets):cntL (brdT q)=cntL (brdT p)+1∧(brdT q).length≤(brdT p).length+2:=by
  have hb:=bd_more hq h 8 (by omega) (by have:=h.hi; omega)
  have pk:∀ n:Nat,pkR q n=pkR p n:=by
    intro n
    induction n with
    | zero=>rfl
    | succ n ih =>
      rw [pkR,pkR,ih]
      unfold pkS
      rw [hk]
  unfold brdT
  rw [hv,pk]
  cases N65 p.variant with
  | true =>
    simp only [cond_true,cntL_app,List.length_append]
    omega
  | false =>
    simp only [cond_false]
    omega
theorem tabM:(List.range 12).all (fun n=>(N97 (N41 ((n / 6:Nat):Int) ((n % 6:Nat):Int))).all (fun b=>b != 32))=true:=by kernel_rfl
theorem rep_no {s:List UInt8} {P:UInt8→Prop} (h:∀ b ∈ s,P b):∀ n:Nat,∀ b ∈ Lib.repeatL s n,P b
  | 0,b,hb=>by cases hb
  | n+1,b,hb=>by
    rw [rep_succ] at hb
    rcases List.mem_append.1 hb with hb | hb
    · exact rep_no h n b hb
    · exact h b hb
theorem pk_no (p:Pos):∀ n:Nat,n≤12→∀ b ∈ pkR p n,b≠32
  | 0,_,b,hb=>by cases hb
  | n+1,hn,b,hb=>by
    rw [pkR] at hb
    rcases List.mem_append.1 hb with hb | hb
    · unfold pkS at hb
      refine rep_no (P:=fun b=>b≠32) (fun x hx => ?_) _ b hb
      have:=List.all_eq_true.1 tabM (11 - n) (List.mem_range.2 (by omega))
      simpa using List.all_eq_true.1 this x hx
    · exact pk_no p n (by omega) b hb
theorem bd_no (hp:PosIn p) (hm:MenOk p):∀ k:Nat,k≤8→∀ b ∈ bdS p k,b≠32
  | 0,_,b,hb=>by cases hb
  | k+1,k8,b,hb=>by
    rw [bdS] at hb
    rcases List.mem_append.1 hb with hb | hb
    · exact (row_no (row_of hp hm (r:=(k:Int)) (by omega) (by omega) 8 0 (by omega) (by omega) (by omega) b hb)).1
    · rcases List.mem_append.1 hb with hb | hb
      · revert hb
        cases decide (0 < k) with
        | true =>
          rw [cond_true,List.mem_singleton]
          rintro rfl
          decide
        | false=>intro hb; cases hb
      · exact bd_no hp hm k (by omega) b hb
theorem brd_no (hp:PosIn p) (hm:MenOk p):∀ b ∈ brdT p,b≠32:=by
  intro b hb
  unfold brdT at hb
  have h8:=bd_no hp hm 8 (by omega)
  revert hb
  cases N65 p.variant with
  | true =>
    rw [cond_true]
    intro hb
    rcases List.mem_append.1 hb with hb | hb
    · exact h8 b hb
    · rcases List.mem_cons.1 hb with rfl | hb
      · decide
      · rcases List.mem_append.1 hb with hb | hb
        · exact pk_no p 12 (by omega) b hb
        · rw [List.mem_singleton] at hb
          subst hb
          decide
  | false=>exact h8 b
noncomputable def tailT (p:Pos):List UInt8:=turnT p++32::(N37 (rkA p)++32::(passT p++32::(checkT p++(itoaL p.half++32::itoaL p.full))))
theorem fenT_tail (p:Pos):fenT p=brdT p++32::tailT p:=rfl
theorem men_of (h:Wr13 p):MenOk p:=by
  obtain ⟨_,_,_,_,_,_,_,_,h,_⟩:=h
  intro s s0 s1 hs
  obtain ⟨n,rfl⟩:=Int.eq_ofNat_of_zero_le s0
  exact (h n (by omega)).1 hs
noncomputable def putP (p:Pos) (b c:Int):Pos:={ p with board:=p.board.set b.toNat c }
theorem at_put (hp:PosIn p) {b c:Int} (b0:0≤b) (b1:b≤63) (s:Int) (s0:0≤s) (s1:s < 64):atS (putP p b c) s=if s=b then c else atS p s:=by
  unfold atS putP
  have hl:=hp.bl
  by_cases h:s=b
  · subst h
    rw [if_pos rfl,List.getD_eq_getElem?_getD,List.getElem?_set_self (by omega)]
    rfl
  · rw [if_neg h,List.getD_eq_getElem?_getD,List.getElem?_set_ne (by omega),List.getD_eq_getElem?_getD]
theorem in_put (hp:PosIn p) {b c:Int} (c0:0≤c) (c1:c≤255):PosIn (putP p b c) :=
  { hp with
    bl:=by unfold putP; rw [List.length_set]; exact hp.bl
    b0:=by
      intro x hx
      unfold putP at hx
      rcases List.mem_or_eq_of_mem_set hx with hx | rfl
      · exact hp.b0 x hx
      · exact ⟨c0,c1⟩ }
theorem N7_true (hp:PosIn p) {b c:Int} (hb : -9223372036854775808≤b∧b≤9223372036854775807) (hc:0≤c∧c≤255):ok7 p b c=true∧N7 p b c=true:=by
  unfold N7 ok7
  rw [show (ByteArray.mk #[]).data.toList=([]:List UInt8) from rfl]
  simp only [Bool.not_true,cond_false]
  cases hr:eqOut BinOp.neq (p.rooks==li [-1,-1,-1,-1]&&true) with
  | true=>exact ⟨rfl,rfl⟩
  | false =>
  simp only [cond_false]
  cases hi:N15 c with
  | false=>exact ⟨rfl,rfl⟩
  | true =>
  simp only [Bool.not_true,cond_false]
  by_cases b0:b < 0
  · rw [decide_eq_true b0]
    exact ⟨rfl,rfl⟩
  by_cases b1:b > 63
  · rw [decide_eq_false b0,decide_eq_true b1]
    exact ⟨rfl,rfl⟩
  rw [decide_eq_false b0,decide_eq_false b1,decide_eq_true (show 0≤b by omega),decide_eq_true (show b < Int.ofNat 64 by show b < 64; omega),scale1]
  simp only [cond_false,Bool.and_self,Bool.true_and]
  by_cases hz:atS p b=0
  case neg =>
    rw [show (p.board.getD b.toNat 0 != 0)=true from bne_iff_ne.2 hz]
    exact ⟨rfl,rfl⟩
  rw [show (p.board.getD b.toNat 0 != 0)=false from bne_eq_false_iff_eq.2 hz]
  simp only [cond_false]
  have hc0:c≠0:=by
    rintro rfl
    exact absurd hi (by decide)
  have h96:N96 c=true:=by
    have:=(letters hc.1 hc.2).2.2.2
    rw [← this,hi]
  have e42:N42 b=true:=by
    unfold N42
    rw [decide_eq_true (show b ≥ 0 by omega),cond_true]
    exact decide_eq_true (by omega)
  have e16:N16 p b c=putP p b c:=by
    unfold N16
    rw [e42,hi,show (c==0)=false by simpa using hc0]
    rfl
  have k16:ok16 p b c=true:=by
    unfold ok16
    rw [e42,hi,show (c==0)=false by simpa using hc0,decide_eq_true (show 0≤b by omega),decide_eq_true (show b < Int.ofNat 64 by show b < 64; omega)]
    rfl
  have hq:=in_put hp (b:=b) hc.1 hc.2
  have hok:=(print_at hp).1
  have hokq:=(print_at hq).1
  rw [e16,k16,hok,hokq]
  simp only [Bool.true_and]
  by_cases hs:N12 p=[]
  · rw [hs]
    exact ⟨rfl,rfl⟩
  rw [show (N12 p==[])=false by simpa using hs]
  simp only [cond_false]
  obtain ⟨hw,ep,hlp⟩:=print_some hp hs
  have R:PutR p (putP p b c) b:=by
    have ha:atS (putP p b c) b=c:=by rw [at_put hp (by omega) (by omega) b (by omega) (by omega),if_pos rfl]
    refine ⟨by omega,by omega,rfl,hz,by rw [ha]; exact h96,by rw [ha]; exact hc0,?_,fun s s0 s1 hne=>by rw [at_put hp (by omega) (by omega) s s0 s1,if_neg hne]⟩
    cases hbit:bitAt p.promoted b.toNat with
    | false=>rfl
    | true =>
      obtain ⟨_,_,_,_,_,_,_,_,h9,_⟩:=hw
      have:=((h9 b.toNat (by omega)).2 hbit).1
      rw [Int.toNat_of_nonneg (by omega)] at this
      exact absurd hz this
  have hwq:Wr13 (putP p b c):=by
    obtain ⟨w1,w2,w3,w4,w5,w6,w7,w8,w9,w10,w11⟩:=hw
    have rk:∀ i:Nat,i < 4→p.rooks.getD i 0 = -1:=by
      have e:p.rooks=[-1,-1,-1,-1]:=by
        have:(p.rooks==li [-1,-1,-1,-1]&&true)=true:=by
          revert hr
          unfold eqOut
          cases (p.rooks==li [-1,-1,-1,-1]&&true) <;> simp
        rw [Bool.and_true,beq_iff_eq] at this
        exact this
      rw [e]
      decide
    refine ⟨w1,w2,w3,w4,w5,w6,w7,w8,fun s hs64 => ?_,⟨w10.1,w10.2.1,w10.2.2.1,.inl ?_,.inl ?_⟩,⟨w11.1,w11.2.1,w11.2.2.1,.inl ?_,.inl ?_⟩⟩
    · by_cases e:(s:Int)=b
      · refine ⟨fun _=>by rw [e]; exact R.man,fun hbit => ?_⟩
        have:s=b.toNat:=by omega
        subst this
        exact absurd (R.bit.symm.trans hbit) (by decide)
      · have e1:atS (putP p b c) (s:Int)=atS p s:=R.same _ (by omega) (by omega) e
        have:=w9 s hs64
        unfold Sq13 at this ⊢
        rw [e1]
        exact this
    · exact rk 0 (by decide)
    · exact rk 1 (by decide)
    · exact rk 2 (by decide)
    · exact rk 3 (by decide)
  have eq1:=(print_at hq).2.1 hwq
  obtain ⟨m1,m2⟩:=brd_more hq R rfl rfl
  have et:tailT (putP p b c)=tailT p:=rfl
  have np:=brd_no hp (men_of hw)
  have nq:=brd_no hq (men_of hwq)
  have lp:=congrArg List.length (fenT_tail p)
  have lq:=congrArg List.length (fenT_tail (putP p b c))
  rw [et] at lq
  simp only [List.length_append,List.length_cons] at lp lq
  by_cases h200:(fenT (putP p b c)).length≤200
  · rw [fin_le h200] at eq1
    obtain ⟨sp,kp⟩:=space_at (t:=tailT p) np (by rw [← fenT_tail]; omega)
    obtain ⟨sq,kq⟩:=space_at (t:=tailT (putP p b c)) nq (by rw [← fenT_tail]; omega)
    rw [← fenT_tail] at sp kp sq kq
    have hne:fenT (putP p b c)≠[]:=by rw [fenT_tail]; simp
    rw [ep,eq1,show (fenT (putP p b c)==[])=false by simpa using hne,kp,kq,sp,sq]
    simp only [cond_false,Bool.true_and,Bool.and_true,List.take_length,Int.toNat_natCast,List.drop_zero]
    have d1:List.drop (brdT p).length (fenT p)=32::tailT p:=by rw [fenT_tail,List.drop_left]
    have d2:List.drop (brdT (putP p b c)).length (fenT (putP p b c))=32::tailT p:=by rw [fenT_tail,List.drop_left,et]
    have t1:List.take (brdT p).length (fenT p)=brdT p:=by rw [fenT_tail,List.take_left]
    have t2:List.take (brdT (putP p b c)).length (fenT (putP p b c))=brdT (putP p b c):=by rw [fenT_tail,List.take_left]
    rw [d1,d2,t1,t2,beq_self_eq_true]
    have hd:(brdT p==brdT (putP p b c))=false:=by
      rw [beq_eq_false_iff_ne]
      intro e
      rw [← e] at m1
      omega
    rw [hd]
    refine ⟨?_,rfl⟩
    have i1:decide (((brdT p).length:Int)≤Int.ofNat (fenT p).length)=true:=decide_eq_true (by show ((brdT p).length:Int)≤((fenT p).length:Int); omega)
    have i2:decide (((brdT (putP p b c)).length:Int)≤Int.ofNat (fenT (putP p b c)).length)=true:=decide_eq_true (by show ((brdT (putP p b c)).length:Int)≤((fenT (putP p b c)).length:Int); omega)
    have i3:decide ((0:Int)≤((brdT p).length:Int))=true:=decide_eq_true (by omega)
    have i4:decide ((0:Int)≤((brdT (putP p b c)).length:Int))=true:=decide_eq_true (by omega)
    rw [i1,i2,i3,i4]
    rfl
  · have e0:N12 (putP p b c)=[]:=by
      rw [eq1]
      unfold fin200
      rw [decide_eq_true (show Int.ofNat (fenT (putP p b c)).length > 200 by show ((fenT (putP p b c)).length:Int) > 200; omega),cond_true]
    rw [e0]
    refine ⟨rfl,?_⟩
    show decide (Int.ofNat (N12 p).length > 196)=true
    rw [ep]
    exact decide_eq_true (by show ((fenT p).length:Int) > 196; omega)
end Kz
end
section
namespace Kz
open Go Go.RowKit Go.Proofs
set_option maxRecDepth 100000
set_option maxHeartbeats 4000000
noncomputable def K80:List (Nat×Nat×List (Nat×List Nat)):=[(80,22,[(0,[0]),(1,[0]),(2,[0]),(3,[2])])]
noncomputable def B80:Base:=baseOf Pz (fun f i=>lkC f i K80) [] [] []
theorem hB80:BOk B80:=base_ok named_z trivial trivial trivial
noncomputable def N80 (a:BitVec 64):BitVec 64:=(((a >>> 8&&&71777214294589695#64|||(a&&&71777214294589695#64) <<< 8) >>> 16&&&281470681808895#64|||((a >>> 8&&&71777214294589695#64|||(a&&&71777214294589695#64) <<< 8)&&&281470681808895#64) <<< 16) >>> 32|||((a >>> 8&&&71777214294589695#64|||(a&&&71777214294589695#64) <<< 8) >>> 16&&&281470681808895#64|||((a >>> 8&&&71777214294589695#64|||(a&&&71777214294589695#64) <<< 8)&&&281470681808895#64) <<< 16) <<< 32)
noncomputable def ok80 (a:BitVec 64):Bool:=true
theorem P80 (a:BitVec 64) (h:ok80 a=true):PS Pz 80 [.u64 a] (dU.res (N80 a)):=ps_sum (n:=14) hB80 (by kernel_rfl) (by kernel_rfl) (by kernel_rfl) h
noncomputable def G80:List AV→Tr AV:=g1 dU (fun a=>.ret (dU.res (N80 a)))
theorem s80:Sound Pz 80 G80:=sound1 fun a=>at_rt (P80 a rfl)
noncomputable def K43:List (Nat×Nat×List (Nat×List Nat)):=[(43,5,[(0,[0]),(1,[2])])]
noncomputable def B43:Base:=baseOf Pz (fun f i=>lkC f i K43) [(80,G80)] [] []
theorem hB43:BOk B43:=base_ok named_z ⟨s80,trivial⟩ trivial trivial
noncomputable def N43 (a:BitVec 64):BitVec 64:=(N80 a)
noncomputable def ok43 (a:BitVec 64):Bool:=(ok80 a&&true)
theorem P43 (a:BitVec 64) (h:ok43 a=true):PS Pz 43 [.u64 a] (dU.res (N43 a)):=ps_sum (n:=14) hB43 (by kernel_rfl) (by kernel_rfl) (by kernel_rfl) h
noncomputable def G43:List AV→Tr AV:=g1 dU (fun a=>gdv (ok43 a) (dU.res (N43 a)))
theorem s43:Sound Pz 43 G43:=sound1 fun a=>at_gd (P43 a)
noncomputable def K44:List (Nat×Nat×List (Nat×List Nat)):=[(44,12,[(0,[0]),(1,[0,5]),(2,[2]),(3,[2])])]
noncomputable def B44:Base:=baseOf Pz (fun f i=>lkC f i K44) [(15,G15),(41,G41),(81,G81),(82,G82)] [] []
theorem hB44:BOk B44:=base_ok named_z ⟨s15,s41,s81,s82,trivial⟩ trivial trivial
noncomputable def N44 (a:Int):Int:=(bif !N15 a then (0) else (N41 (wr .u8 (1 - N81 a)) (N82 a)))
noncomputable def ok44 (a:Int):Bool:=(bif !N15 a then true else (ok81 a&&(ok82 a&&true)))
theorem P44 (a:Int) (h:ok44 a=true):PS Pz 44 [.int .u8 a] ((dI .u8).res (N44 a)):=ps_sum (n:=14) hB44 (by kernel_rfl) (by kernel_rfl) (by kernel_rfl) h
noncomputable def G44:List AV→Tr AV:=g1 (dI .u8) (fun a=>gdv (ok44 a) ((dI .u8).res (N44 a)))
theorem s44:Sound Pz 44 G44:=sound1 fun a=>at_gd (P44 a)
noncomputable def K18:List (Nat×Nat×List (Nat×List Nat)):=[(18,63,[(0,[1,2]),(1,[1,2,3]),(2,[1,2,3]),(3,[1,2,3]),(4,[1,2,3]),(5,[1,2,3]),(6,[1,2,3,36]),(7,[1,2,3]),(8,[1,2,3,41]),(9,[1,2,3,41,42]),(10,[1,2,3,4,41]),(11,[1,2,3,41]),(12,[1,2,3,41]),(13,[1,2,3,57]),(14,[2,3]),(15,[2])])]
noncomputable def B18_1:Base:=baseOf Pz (fun f i=>lkC f i K18) [(42,G42),(43,G43),(44,G44)] [] []
theorem hB18_1:BOk B18_1:=base_ok named_z ⟨s42,s43,s44,trivial⟩ trivial trivial
noncomputable def S18_1 (p1:Pos) (x:(Int×Pos)):St:=St.mk (AV.any::AV.ptr 0 0::AV.ptr 1 0::AV.ptr 2 0::(an 37 (AV.int .i64 x.fst::(an 21 [])))) (Hp.mk [(pc p1 []),[AV.int .u8 0,AV.ints .u8 64 (li (List.replicate 64 0)),AV.u64 0,AV.ints .u8 12 (li [0,0,0,0,0,0,0,0,0,0,0,0]),AV.int .u8 0,AV.ints .i8 4 (li [0,0,0,0]),AV.int .i8 0,AV.ints .u8 2 (li [0,0]),AV.int .i64 0,AV.int .i64 0],(pc x.snd [])] [] [] 0 0 0)
noncomputable def O18_1 (p1:Pos):(Int×Bool×Pos)→Out:=fun y=>.exit 0 (St.mk (AV.any::AV.ptr 0 0::AV.ptr 1 0::AV.ptr 2 0::(an 37 (AV.int .i64 y.fst::AV.bool y.snd.fst::(an 20 [])))) (Hp.mk [(pc p1 []),[AV.int .u8 0,AV.ints .u8 64 (li (List.replicate 64 0)),AV.u64 0,AV.ints .u8 12 (li [0,0,0,0,0,0,0,0,0,0,0,0]),AV.int .u8 0,AV.ints .i8 4 (li [0,0,0,0]),AV.int .i8 0,AV.ints .u8 2 (li [0,0]),AV.int .i64 0,AV.int .i64 0],(pc y.snd.snd [])] [] [] 0 0 0))
noncomputable def st18_1 (p1:Pos) (x:(Int×Pos)):Stp (Int×Pos) ((Int×Bool×Pos)):=(bif decide (x.fst < 64) then (Stp.go (wr .i64 (x.fst+1),Pos.mk x.snd.variant (x.snd.board.set (scale 1 (ibits BinOp.xor .i64 x.fst 56)).toNat (N44 (p1.board.getD (scale 1 x.fst).toNat 0))) x.snd.promoted x.snd.pockets x.snd.turn x.snd.rooks x.snd.passing x.snd.checks x.snd.half x.snd.full)) else (Stp.out ((x.fst,decide (x.fst < 64),x.snd))))
noncomputable def okL18_1 (p1:Pos) (x:(Int×Pos)):Bool:=(bif decide (x.fst < 64) then (decide (0≤x.fst)&&decide (x.fst < Int.ofNat 64)&&(ok44 (p1.board.getD (scale 1 x.fst).toNat 0)&&(decide (0≤ibits BinOp.xor .i64 x.fst 56)&&decide (ibits BinOp.xor .i64 x.fst 56 < Int.ofNat 64)&&true))) else true)
noncomputable def lp18_1 (p1:Pos) (x:(Int×Pos)):Option ((Int×Bool×Pos)):=itl (fun x=>bif okL18_1 p1 x then st18_1 p1 x else .bad) many x
abbrev D18_1 {α:Type} (k:Pos→(Int×Pos)→α) (s:St):α:=wP s 0 fun q0=>wP s 2 fun q2=>k q0 ((tI (tT s 41)),q2)
theorem L18_1 (p1:Pos) (x:(Int×Pos)) (r:(Int×Bool×Pos)) (h:lp18_1 p1 x=some r):LSpec Pz (bodL Pz 18 9) (S18_1 p1 x) (O18_1 p1 r):=LSpec.smd (m:=12) (fn:=18) hB18_1 (D18_1 fun _ x=>some x) (fun o=>match o with | .exit 0 s=>wP s 2 fun q2=>some ((tI (tT s 41)),(tB (tT s 42)),q2) | _=>none) (fun _=>rfl) (fun _=>by kernel_rfl) (fun _=>by kernel_rfl) (fun _=>by kernel_rfl) (fun _=>by kernel_rfl) many x r h
noncomputable def F18_1 (b:Code) (s:St):Tr Out:=D18_1 (fun p1 x=>lk1 b (bodL Pz 18 9) s (S18_1 p1 x) (lp18_1 p1 x) (O18_1 p1)) s
theorem sF18_1:∀ b,LSound Pz b (F18_1 b):=fun _ _ _ h=>lk1_ok (L18_1 _ _) h
noncomputable def B18:Base:=baseOf Pz (fun f i=>lkC f i K18) [(42,G42),(43,G43),(44,G44)] [(18,9,F18_1)] []
theorem hB18:BOk B18:=base_ok named_z ⟨s42,s43,s44,trivial⟩ ⟨sF18_1,trivial⟩ trivial
noncomputable def N18 (a:Pos):Pos:=(bif decide (a.turn≤1) then (bif N42 (wr .i64 a.passing) then ⟨(((lp18_1 a (0,Pos.mk a.variant a.board (N43 a.promoted) (List.take 6 (li []++List.drop 6 a.pockets++li [0,0,0,0,0,0])++List.take 6 a.pockets++List.drop 12 (li []++List.drop 6 a.pockets++li [0,0,0,0,0,0])) (wr .u8 (1 - a.turn)) (List.take 2 (li []++List.drop 2 a.rooks++li [0,0])++List.take 2 a.rooks++List.drop 4 (li []++List.drop 2 a.rooks++li [0,0])) a.passing (((li [0,0]).set 0 (a.checks.getD 1 0)).set 1 (a.checks.getD 0 0)) a.half a.full)).getD default).snd.snd.variant),(((lp18_1 a (0,Pos.mk a.variant a.board (N43 a.promoted) (List.take 6 (li []++List.drop 6 a.pockets++li [0,0,0,0,0,0])++List.take 6 a.pockets++List.drop 12 (li []++List.drop 6 a.pockets++li [0,0,0,0,0,0])) (wr .u8 (1 - a.turn)) (List.take 2 (li []++List.drop 2 a.rooks++li [0,0])++List.take 2 a.rooks++List.drop 4 (li []++List.drop 2 a.rooks++li [0,0])) a.passing (((li [0,0]).set 0 (a.checks.getD 1 0)).set 1 (a.checks.getD 0 0)) a.half a.full)).getD default).snd.snd.board),(((lp18_1 a (0,Pos.mk a.variant a.board (N43 a.promoted) (List.take 6 (li []++List.drop 6 a.pockets++li [0,0,0,0,0,0])++List.take 6 a.pockets++List.drop 12 (li []++List.drop 6 a.pockets++li [0,0,0,0,0,0])) (wr .u8 (1 - a.turn)) (List.take 2 (li []++List.drop 2 a.rooks++li [0,0])++List.take 2 a.rooks++List.drop 4 (li []++List.drop 2 a.rooks++li [0,0])) a.passing (((li [0,0]).set 0 (a.checks.getD 1 0)).set 1 (a.checks.getD 0 0)) a.half a.full)).getD default).snd.snd.promoted),(((lp18_1 a (0,Pos.mk a.variant a.board (N43 a.promoted) (List.take 6 (li []++List.drop 6 a.pockets++li [0,0,0,0,0,0])++List.take 6 a.pockets++List.drop 12 (li []++List.drop 6 a.pockets++li [0,0,0,0,0,0])) (wr .u8 (1 - a.turn)) (List.take 2 (li []++List.drop 2 a.rooks++li [0,0])++List.take 2 a.rooks++List.drop 4 (li []++List.drop 2 a.rooks++li [0,0])) a.passing (((li [0,0]).set 0 (a.checks.getD 1 0)).set 1 (a.checks.getD 0 0)) a.half a.full)).getD default).snd.snd.pockets),(((lp18_1 a (0,Pos.mk a.variant a.board (N43 a.promoted) (List.take 6 (li []++List.drop 6 a.pockets++li [0,0,0,0,0,0])++List.take 6 a.pockets++List.drop 12 (li []++List.drop 6 a.pockets++li [0,0,0,0,0,0])) (wr .u8 (1 - a.turn)) (List.take 2 (li []++List.drop 2 a.rooks++li [0,0])++List.take 2 a.rooks++List.drop 4 (li []++List.drop 2 a.rooks++li [0,0])) a.passing (((li [0,0]).set 0 (a.checks.getD 1 0)).set 1 (a.checks.getD 0 0)) a.half a.full)).getD default).snd.snd.turn),(((lp18_1 a (0,Pos.mk a.variant a.board (N43 a.promoted) (List.take 6 (li []++List.drop 6 a.pockets++li [0,0,0,0,0,0])++List.take 6 a.pockets++List.drop 12 (li []++List.drop 6 a.pockets++li [0,0,0,0,0,0])) (wr .u8 (1 - a.turn)) (List.take 2 (li []++List.drop 2 a.rooks++li [0,0])++List.take 2 a.rooks++List.drop 4 (li []++List.drop 2 a.rooks++li [0,0])) a.passing (((li [0,0]).set 0 (a.checks.getD 1 0)).set 1 (a.checks.getD 0 0)) a.half a.full)).getD default).snd.snd.rooks),(ibits BinOp.xor .i8 a.passing 56),(((lp18_1 a (0,Pos.mk a.variant a.board (N43 a.promoted) (List.take 6 (li []++List.drop 6 a.pockets++li [0,0,0,0,0,0])++List.take 6 a.pockets++List.drop 12 (li []++List.drop 6 a.pockets++li [0,0,0,0,0,0])) (wr .u8 (1 - a.turn)) (List.take 2 (li []++List.drop 2 a.rooks++li [0,0])++List.take 2 a.rooks++List.drop 4 (li []++List.drop 2 a.rooks++li [0,0])) a.passing (((li [0,0]).set 0 (a.checks.getD 1 0)).set 1 (a.checks.getD 0 0)) a.half a.full)).getD default).snd.snd.checks),(((lp18_1 a (0,Pos.mk a.variant a.board (N43 a.promoted) (List.take 6 (li []++List.drop 6 a.pockets++li [0,0,0,0,0,0])++List.take 6 a.pockets++List.drop 12 (li []++List.drop 6 a.pockets++li [0,0,0,0,0,0])) (wr .u8 (1 - a.turn)) (List.take 2 (li []++List.drop 2 a.rooks++li [0,0])++List.take 2 a.rooks++List.drop 4 (li []++List.drop 2 a.rooks++li [0,0])) a.passing (((li [0,0]).set 0 (a.checks.getD 1 0)).set 1 (a.checks.getD 0 0)) a.half a.full)).getD default).snd.snd.half),(((lp18_1 a (0,Pos.mk a.variant a.board (N43 a.promoted) (List.take 6 (li []++List.drop 6 a.pockets++li [0,0,0,0,0,0])++List.take 6 a.pockets++List.drop 12 (li []++List.drop 6 a.pockets++li [0,0,0,0,0,0])) (wr .u8 (1 - a.turn)) (List.take 2 (li []++List.drop 2 a.rooks++li [0,0])++List.take 2 a.rooks++List.drop 4 (li []++List.drop 2 a.rooks++li [0,0])) a.passing (((li [0,0]).set 0 (a.checks.getD 1 0)).set 1 (a.checks.getD 0 0)) a.half a.full)).getD default).snd.snd.full)⟩ else ⟨(((lp18_1 a (0,Pos.mk a.variant a.board (N43 a.promoted) (List.take 6 (li []++List.drop 6 a.pockets++li [0,0,0,0,0,0])++List.take 6 a.pockets++List.drop 12 (li []++List.drop 6 a.pockets++li [0,0,0,0,0,0])) (wr .u8 (1 - a.turn)) (List.take 2 (li []++List.drop 2 a.rooks++li [0,0])++List.take 2 a.rooks++List.drop 4 (li []++List.drop 2 a.rooks++li [0,0])) a.passing (((li [0,0]).set 0 (a.checks.getD 1 0)).set 1 (a.checks.getD 0 0)) a.half a.full)).getD default).snd.snd.variant),(((lp18_1 a (0,Pos.mk a.variant a.board (N43 a.promoted) (List.take 6 (li []++List.drop 6 a.pockets++li [0,0,0,0,0,0])++List.take 6 a.pockets++List.drop 12 (li []++List.drop 6 a.pockets++li [0,0,0,0,0,0])) (wr .u8 (1 - a.turn)) (List.take 2 (li []++List.drop 2 a.rooks++li [0,0])++List.take 2 a.rooks++List.drop 4 (li []++List.drop 2 a.rooks++li [0,0])) a.passing (((li [0,0]).set 0 (a.checks.getD 1 0)).set 1 (a.checks.getD 0 0)) a.half a.full)).getD default).snd.snd.board),(((lp18_1 a (0,Pos.mk a.variant a.board (N43 a.promoted) (List.take 6 (li []++List.drop 6 a.pockets++li [0,0,0,0,0,0])++List.take 6 a.pockets++List.drop 12 (li []++List.drop 6 a.pockets++li [0,0,0,0,0,0])) (wr .u8 (1 - a.turn)) (List.take 2 (li []++List.drop 2 a.rooks++li [0,0])++List.take 2 a.rooks++List.drop 4 (li []++List.drop 2 a.rooks++li [0,0])) a.passing (((li [0,0]).set 0 (a.checks.getD 1 0)).set 1 (a.checks.getD 0 0)) a.half a.full)).getD default).snd.snd.promoted),(((lp18_1 a (0,Pos.mk a.variant a.board (N43 a.promoted) (List.take 6 (li []++List.drop 6 a.pockets++li [0,0,0,0,0,0])++List.take 6 a.pockets++List.drop 12 (li []++List.drop 6 a.pockets++li [0,0,0,0,0,0])) (wr .u8 (1 - a.turn)) (List.take 2 (li []++List.drop 2 a.rooks++li [0,0])++List.take 2 a.rooks++List.drop 4 (li []++List.drop 2 a.rooks++li [0,0])) a.passing (((li [0,0]).set 0 (a.checks.getD 1 0)).set 1 (a.checks.getD 0 0)) a.half a.full)).getD default).snd.snd.pockets),(((lp18_1 a (0,Pos.mk a.variant a.board (N43 a.promoted) (List.take 6 (li []++List.drop 6 a.pockets++li [0,0,0,0,0,0])++List.take 6 a.pockets++List.drop 12 (li []++List.drop 6 a.pockets++li [0,0,0,0,0,0])) (wr .u8 (1 - a.turn)) (List.take 2 (li []++List.drop 2 a.rooks++li [0,0])++List.take 2 a.rooks++List.drop 4 (li []++List.drop 2 a.rooks++li [0,0])) a.passing (((li [0,0]).set 0 (a.checks.getD 1 0)).set 1 (a.checks.getD 0 0)) a.half a.full)).getD default).snd.snd.turn),(((lp18_1 a (0,Pos.mk a.variant a.board (N43 a.promoted) (List.take 6 (li []++List.drop 6 a.pockets++li [0,0,0,0,0,0])++List.take 6 a.pockets++List.drop 12 (li []++List.drop 6 a.pockets++li [0,0,0,0,0,0])) (wr .u8 (1 - a.turn)) (List.take 2 (li []++List.drop 2 a.rooks++li [0,0])++List.take 2 a.rooks++List.drop 4 (li []++List.drop 2 a.rooks++li [0,0])) a.passing (((li [0,0]).set 0 (a.checks.getD 1 0)).set 1 (a.checks.getD 0 0)) a.half a.full)).getD default).snd.snd.rooks),(((lp18_1 a (0,Pos.mk a.variant a.board (N43 a.promoted) (List.take 6 (li []++List.drop 6 a.pockets++li [0,0,0,0,0,0])++List.take 6 a.pockets++List.drop 12 (li []++List.drop 6 a.pockets++li [0,0,0,0,0,0])) (wr .u8 (1 - a.turn)) (List.take 2 (li []++List.drop 2 a.rooks++li [0,0])++List.take 2 a.rooks++List.drop 4 (li []++List.drop 2 a.rooks++li [0,0])) a.passing (((li [0,0]).set 0 (a.checks.getD 1 0)).set 1 (a.checks.getD 0 0)) a.half a.full)).getD default).snd.snd.passing),(((lp18_1 a (0,Pos.mk a.variant a.board (N43 a.promoted) (List.take 6 (li []++List.drop 6 a.pockets++li [0,0,0,0,0,0])++List.take 6 a.pockets++List.drop 12 (li []++List.drop 6 a.pockets++li [0,0,0,0,0,0])) (wr .u8 (1 - a.turn)) (List.take 2 (li []++List.drop 2 a.rooks++li [0,0])++List.take 2 a.rooks++List.drop 4 (li []++List.drop 2 a.rooks++li [0,0])) a.passing (((li [0,0]).set 0 (a.checks.getD 1 0)).set 1 (a.checks.getD 0 0)) a.half a.full)).getD default).snd.snd.checks),(((lp18_1 a (0,Pos.mk a.variant a.board (N43 a.promoted) (List.take 6 (li []++List.drop 6 a.pockets++li [0,0,0,0,0,0])++List.take 6 a.pockets++List.drop 12 (li []++List.drop 6 a.pockets++li [0,0,0,0,0,0])) (wr .u8 (1 - a.turn)) (List.take 2 (li []++List.drop 2 a.rooks++li [0,0])++List.take 2 a.rooks++List.drop 4 (li []++List.drop 2 a.rooks++li [0,0])) a.passing (((li [0,0]).set 0 (a.checks.getD 1 0)).set 1 (a.checks.getD 0 0)) a.half a.full)).getD default).snd.snd.half),(((lp18_1 a (0,Pos.mk a.variant a.board (N43 a.promoted) (List.take 6 (li []++List.drop 6 a.pockets++li [0,0,0,0,0,0])++List.take 6 a.pockets++List.drop 12 (li []++List.drop 6 a.pockets++li [0,0,0,0,0,0])) (wr .u8 (1 - a.turn)) (List.take 2 (li []++List.drop 2 a.rooks++li [0,0])++List.take 2 a.rooks++List.drop 4 (li []++List.drop 2 a.rooks++li [0,0])) a.passing (((li [0,0]).set 0 (a.checks.getD 1 0)).set 1 (a.checks.getD 0 0)) a.half a.full)).getD default).snd.snd.full)⟩) else (bif N42 (wr .i64 a.passing) then ⟨(((lp18_1 a (0,Pos.mk a.variant a.board (N43 a.promoted) (List.take 6 (li []++List.drop 6 a.pockets++li [0,0,0,0,0,0])++List.take 6 a.pockets++List.drop 12 (li []++List.drop 6 a.pockets++li [0,0,0,0,0,0])) a.turn (List.take 2 (li []++List.drop 2 a.rooks++li [0,0])++List.take 2 a.rooks++List.drop 4 (li []++List.drop 2 a.rooks++li [0,0])) a.passing (((li [0,0]).set 0 (a.checks.getD 1 0)).set 1 (a.checks.getD 0 0)) a.half a.full)).getD default).snd.snd.variant),(((lp18_1 a (0,Pos.mk a.variant a.board (N43 a.promoted) (List.take 6 (li []++List.drop 6 a.pockets++li [0,0,0,0,0,0])++List.take 6 a.pockets++List.drop 12 (li []++List.drop 6 a.pockets++li [0,0,0,0,0,0])) a.turn (List.take 2 (li []++List.drop 2 a.rooks++li [0,0])++List.take 2 a.rooks++List.drop 4 (li []++List.drop 2 a.rooks++li [0,0])) a.passing (((li [0,0]).set 0 (a.checks.getD 1 0)).set 1 (a.checks.getD 0 0)) a.half a.full)).getD default).snd.snd.board),(((lp18_1 a (0,Pos.mk a.variant a.board (N43 a.promoted) (List.take 6 (li []++List.drop 6 a.pockets++li [0,0,0,0,0,0])++List.take 6 a.pockets++List.drop 12 (li []++List.drop 6 a.pockets++li [0,0,0,0,0,0])) a.turn (List.take 2 (li []++List.drop 2 a.rooks++li [0,0])++List.take 2 a.rooks++List.drop 4 (li []++List.drop 2 a.rooks++li [0,0])) a.passing (((li [0,0]).set 0 (a.checks.getD 1 0)).set 1 (a.checks.getD 0 0)) a.half a.full)).getD default).snd.snd.promoted),(((lp18_1 a (0,Pos.mk a.variant a.board (N43 a.promoted) (List.take 6 (li []++List.drop 6 a.pockets++li [0,0,0,0,0,0])++List.take 6 a.pockets++List.drop 12 (li []++List.drop 6 a.pockets++li [0,0,0,0,0,0])) a.turn (List.take 2 (li []++List.drop 2 a.rooks++li [0,0])++List.take 2 a.rooks++List.drop 4 (li []++List.drop 2 a.rooks++li [0,0])) a.passing (((li [0,0]).set 0 (a.checks.getD 1 0)).set 1 (a.checks.getD 0 0)) a.half a.full)).getD default).snd.snd.pockets),(((lp18_1 a (0,Pos.mk a.variant a.board (N43 a.promoted) (List.take 6 (li []++List.drop 6 a.pockets++li [0,0,0,0,0,0])++List.take 6 a.pockets++List.drop 12 (li []++List.drop 6 a.pockets++li [0,0,0,0,0,0])) a.turn (List.take 2 (li []++List.drop 2 a.rooks++li [0,0])++List.take 2 a.rooks++List.drop 4 (li []++List.drop 2 a.rooks++li [0,0])) a.passing (((li [0,0]).set 0 (a.checks.getD 1 0)).set 1 (a.checks.getD 0 0)) a.half a.full)).getD default).snd.snd.turn),(((lp18_1 a (0,Pos.mk a.variant a.board (N43 a.promoted) (List.take 6 (li []++List.drop 6 a.pockets++li [0,0,0,0,0,0])++List.take 6 a.pockets++List.drop 12 (li []++List.drop 6 a.pockets++li [0,0,0,0,0,0])) a.turn (List.take 2 (li []++List.drop 2 a.rooks++li [0,0])++List.take 2 a.rooks++List.drop 4 (li []++List.drop 2 a.rooks++li [0,0])) a.passing (((li [0,0]).set 0 (a.checks.getD 1 0)).set 1 (a.checks.getD 0 0)) a.half a.full)).getD default).snd.snd.rooks),(ibits BinOp.xor .i8 a.passing 56),(((lp18_1 a (0,Pos.mk a.variant a.board (N43 a.promoted) (List.take 6 (li []++List.drop 6 a.pockets++li [0,0,0,0,0,0])++List.take 6 a.pockets++List.drop 12 (li []++List.drop 6 a.pockets++li [0,0,0,0,0,0])) a.turn (List.take 2 (li []++List.drop 2 a.rooks++li [0,0])++List.take 2 a.rooks++List.drop 4 (li []++List.drop 2 a.rooks++li [0,0])) a.passing (((li [0,0]).set 0 (a.checks.getD 1 0)).set 1 (a.checks.getD 0 0)) a.half a.full)).getD default).snd.snd.checks),(((lp18_1 a (0,Pos.mk a.variant a.board (N43 a.promoted) (List.take 6 (li []++List.drop 6 a.pockets++li [0,0,0,0,0,0])++List.take 6 a.pockets++List.drop 12 (li []++List.drop 6 a.pockets++li [0,0,0,0,0,0])) a.turn (List.take 2 (li []++List.drop 2 a.rooks++li [0,0])++List.take 2 a.rooks++List.drop 4 (li []++List.drop 2 a.rooks++li [0,0])) a.passing (((li [0,0]).set 0 (a.checks.getD 1 0)).set 1 (a.checks.getD 0 0)) a.half a.full)).getD default).snd.snd.half),(((lp18_1 a (0,Pos.mk a.variant a.board (N43 a.promoted) (List.take 6 (li []++List.drop 6 a.pockets++li [0,0,0,0,0,0])++List.take 6 a.pockets++List.drop 12 (li []++List.drop 6 a.pockets++li [0,0,0,0,0,0])) a.turn (List.take 2 (li []++List.drop 2 a.rooks++li [0,0])++List.take 2 a.rooks++List.drop 4 (li []++List.drop 2 a.rooks++li [0,0])) a.passing (((li [0,0]).set 0 (a.checks.getD 1 0)).set 1 (a.checks.getD 0 0)) a.half a.full)).getD default).snd.snd.full)⟩ else ⟨(((lp18_1 a (0,Pos.mk a.variant a.board (N43 a.promoted) (List.take 6 (li []++List.drop 6 a.pockets++li [0,0,0,0,0,0])++List.take 6 a.pockets++List.drop 12 (li []++List.drop 6 a.pockets++li [0,0,0,0,0,0])) a.turn (List.take 2 (li []++List.drop 2 a.rooks++li [0,0])++List.take 2 a.rooks++List.drop 4 (li []++List.drop 2 a.rooks++li [0,0])) a.passing (((li [0,0]).set 0 (a.checks.getD 1 0)).set 1 (a.checks.getD 0 0)) a.half a.full)).getD default).snd.snd.variant),(((lp18_1 a (0,Pos.mk a.variant a.board (N43 a.promoted) (List.take 6 (li []++List.drop 6 a.pockets++li [0,0,0,0,0,0])++List.take 6 a.pockets++List.drop 12 (li []++List.drop 6 a.pockets++li [0,0,0,0,0,0])) a.turn (List.take 2 (li []++List.drop 2 a.rooks++li [0,0])++List.take 2 a.rooks++List.drop 4 (li []++List.drop 2 a.rooks++li [0,0])) a.passing (((li [0,0]).set 0 (a.checks.getD 1 0)).set 1 (a.checks.getD 0 0)) a.half a.full)).getD default).snd.snd.board),(((lp18_1 a (0,Pos.mk a.variant a.board (N43 a.promoted) (List.take 6 (li []++List.drop 6 a.pockets++li [0,0,0,0,0,0])++List.take 6 a.pockets++List.drop 12 (li []++List.drop 6 a.pockets++li [0,0,0,0,0,0])) a.turn (List.take 2 (li []++List.drop 2 a.rooks++li [0,0])++List.take 2 a.rooks++List.drop 4 (li []++List.drop 2 a.rooks++li [0,0])) a.passing (((li [0,0]).set 0 (a.checks.getD 1 0)).set 1 (a.checks.getD 0 0)) a.half a.full)).getD default).snd.snd.promoted),(((lp18_1 a (0,Pos.mk a.variant a.board (N43 a.promoted) (List.take 6 (li []++List.drop 6 a.pockets++li [0,0,0,0,0,0])++List.take 6 a.pockets++List.drop 12 (li []++List.drop 6 a.pockets++li [0,0,0,0,0,0])) a.turn (List.take 2 (li []++List.drop 2 a.rooks++li [0,0])++List.take 2 a.rooks++List.drop 4 (li []++List.drop 2 a.rooks++li [0,0])) a.passing (((li [0,0]).set 0 (a.checks.getD 1 0)).set 1 (a.checks.getD 0 0)) a.half a.full)).getD default).snd.snd.pockets),(((lp18_1 a (0,Pos.mk a.variant a.board (N43 a.promoted) (List.take 6 (li []++List.drop 6 a.pockets++li [0,0,0,0,0,0])++List.take 6 a.pockets++List.drop 12 (li []++List.drop 6 a.pockets++li [0,0,0,0,0,0])) a.turn (List.take 2 (li []++List.drop 2 a.rooks++li [0,0])++List.take 2 a.rooks++List.drop 4 (li []++List.drop 2 a.rooks++li [0,0])) a.passing (((li [0,0]).set 0 (a.checks.getD 1 0)).set 1 (a.checks.getD 0 0)) a.half a.full)).getD default).snd.snd.turn),(((lp18_1 a (0,Pos.mk a.variant a.board (N43 a.promoted) (List.take 6 (li []++List.drop 6 a.pockets++li [0,0,0,0,0,0])++List.take 6 a.pockets++List.drop 12 (li []++List.drop 6 a.pockets++li [0,0,0,0,0,0])) a.turn (List.take 2 (li []++List.drop 2 a.rooks++li [0,0])++List.take 2 a.rooks++List.drop 4 (li []++List.drop 2 a.rooks++li [0,0])) a.passing (((li [0,0]).set 0 (a.checks.getD 1 0)).set 1 (a.checks.getD 0 0)) a.half a.full)).getD default).snd.snd.rooks),(((lp18_1 a (0,Pos.mk a.variant a.board (N43 a.promoted) (List.take 6 (li []++List.drop 6 a.pockets++li [0,0,0,0,0,0])++List.take 6 a.pockets++List.drop 12 (li []++List.drop 6 a.pockets++li [0,0,0,0,0,0])) a.turn (List.take 2 (li []++List.drop 2 a.rooks++li [0,0])++List.take 2 a.rooks++List.drop 4 (li []++List.drop 2 a.rooks++li [0,0])) a.passing (((li [0,0]).set 0 (a.checks.getD 1 0)).set 1 (a.checks.getD 0 0)) a.half a.full)).getD default).snd.snd.passing),(((lp18_1 a (0,Pos.mk a.variant a.board (N43 a.promoted) (List.take 6 (li []++List.drop 6 a.pockets++li [0,0,0,0,0,0])++List.take 6 a.pockets++List.drop 12 (li []++List.drop 6 a.pockets++li [0,0,0,0,0,0])) a.turn (List.take 2 (li []++List.drop 2 a.rooks++li [0,0])++List.take 2 a.rooks++List.drop 4 (li []++List.drop 2 a.rooks++li [0,0])) a.passing (((li [0,0]).set 0 (a.checks.getD 1 0)).set 1 (a.checks.getD 0 0)) a.half a.full)).getD default).snd.snd.checks),(((lp18_1 a (0,Pos.mk a.variant a.board (N43 a.promoted) (List.take 6 (li []++List.drop 6 a.pockets++li [0,0,0,0,0,0])++List.take 6 a.pockets++List.drop 12 (li []++List.drop 6 a.pockets++li [0,0,0,0,0,0])) a.turn (List.take 2 (li []++List.drop 2 a.rooks++li [0,0])++List.take 2 a.rooks++List.drop 4 (li []++List.drop 2 a.rooks++li [0,0])) a.passing (((li [0,0]).set 0 (a.checks.getD 1 0)).set 1 (a.checks.getD 0 0)) a.half a.full)).getD default).snd.snd.half),(((lp18_1 a (0,Pos.mk a.variant a.board (N43 a.promoted) (List.take 6 (li []++List.drop 6 a.pockets++li [0,0,0,0,0,0])++List.take 6 a.pockets++List.drop 12 (li []++List.drop 6 a.pockets++li [0,0,0,0,0,0])) a.turn (List.take 2 (li []++List.drop 2 a.rooks++li [0,0])++List.take 2 a.rooks++List.drop 4 (li []++List.drop 2 a.rooks++li [0,0])) a.passing (((li [0,0]).set 0 (a.checks.getD 1 0)).set 1 (a.checks.getD 0 0)) a.half a.full)).getD default).snd.snd.full)⟩))
noncomputable def ok18 (a:Pos):Bool:=(ok43 a.promoted&&(bif decide (a.turn≤1) then ((lp18_1 a (0,Pos.mk a.variant a.board (N43 a.promoted) (List.take 6 (li []++List.drop 6 a.pockets++li [0,0,0,0,0,0])++List.take 6 a.pockets++List.drop 12 (li []++List.drop 6 a.pockets++li [0,0,0,0,0,0])) (wr .u8 (1 - a.turn)) (List.take 2 (li []++List.drop 2 a.rooks++li [0,0])++List.take 2 a.rooks++List.drop 4 (li []++List.drop 2 a.rooks++li [0,0])) a.passing (((li [0,0]).set 0 (a.checks.getD 1 0)).set 1 (a.checks.getD 0 0)) a.half a.full)).isSome&&true) else ((lp18_1 a (0,Pos.mk a.variant a.board (N43 a.promoted) (List.take 6 (li []++List.drop 6 a.pockets++li [0,0,0,0,0,0])++List.take 6 a.pockets++List.drop 12 (li []++List.drop 6 a.pockets++li [0,0,0,0,0,0])) a.turn (List.take 2 (li []++List.drop 2 a.rooks++li [0,0])++List.take 2 a.rooks++List.drop 4 (li []++List.drop 2 a.rooks++li [0,0])) a.passing (((li [0,0]).set 0 (a.checks.getD 1 0)).set 1 (a.checks.getD 0 0)) a.half a.full)).isSome&&true)))
theorem P18 (a:Pos) (h:ok18 a=true):PS Pz 18 [Pos.av a] (dPos.res (N18 a)):=ps_sum (n:=14) hB18 (by kernel_rfl) (by kernel_rfl) (by kernel_rfl) h
noncomputable def G18:List AV→Tr AV:=g1 dPos (fun a=>gdv (ok18 a) (dPos.res (N18 a)))
theorem s18:Sound Pz 18 G18:=sound1 fun a=>at_gd (P18 a)
noncomputable def K19:List (Nat×Nat×List (Nat×List Nat)):=[(19,37,[(0,[0]),(1,[0,3]),(2,[0,3,4]),(3,[0,3,4,9]),(4,[0,3,4]),(5,[0,3,4,5]),(6,[0,3,4,5,28]),(7,[0,3,4,5]),(8,[0,3,4]),(9,[2])])]
noncomputable def B19_1:Base:=baseOf Pz (fun f i=>lkC f i K19) [] [] []
theorem hB19_1:BOk B19_1:=base_ok named_z trivial trivial trivial
noncomputable def S19_1 (p1:(List UInt8)) (x:((List Int)×Int)):St:=St.mk (AV.str p1::AV.any::AV.any::AV.list (ET.i .u8) x.fst (Tk.own 0)::AV.int .i64 x.snd::(an 32 [])) (Hp.mk [] [x.fst.length] [] 0 0 0)
noncomputable def O19_1 (p1:(List UInt8)):((List Int)×Int×Bool)→Out:=fun y=>.exit 0 (St.mk (AV.str p1::AV.any::AV.any::AV.list (ET.i .u8) y.fst (Tk.own 0)::AV.int .i64 y.snd.fst::(an 4 (AV.bool y.snd.snd::(an 27 [])))) (Hp.mk [] [y.fst.length] [] 0 0 0))
noncomputable def st19_1 (p1:(List UInt8)) (x:((List Int)×Int)):Stp ((List Int)×Int) (((List Int)×Int×Bool)):=(bif decide (x.snd < Int.ofNat p1.length) then (bif decide (Int.ofNat (p1[x.snd.toNat]?.getD 0).toNat ≥ 65) then (bif decide (Int.ofNat (p1[x.snd.toNat]?.getD 0).toNat≤90) then (Stp.go (x.fst++[ibits BinOp.xor .u8 (Int.ofNat (p1[x.snd.toNat]?.getD 0).toNat) 32],wr .i64 (x.snd+1))) else (bif decide (Int.ofNat (p1[x.snd.toNat]?.getD 0).toNat ≥ 97) then (bif decide (Int.ofNat (p1[x.snd.toNat]?.getD 0).toNat≤122) then (Stp.go (x.fst++[ibits BinOp.xor .u8 (Int.ofNat (p1[x.snd.toNat]?.getD 0).toNat) 32],wr .i64 (x.snd+1))) else (Stp.go (x.fst++[Int.ofNat (p1[x.snd.toNat]?.getD 0).toNat],wr .i64 (x.snd+1)))) else (Stp.go (x.fst++[Int.ofNat (p1[x.snd.toNat]?.getD 0).toNat],wr .i64 (x.snd+1))))) else (bif decide (Int.ofNat (p1[x.snd.toNat]?.getD 0).toNat ≥ 97) then (bif decide (Int.ofNat (p1[x.snd.toNat]?.getD 0).toNat≤122) then (Stp.go (x.fst++[ibits BinOp.xor .u8 (Int.ofNat (p1[x.snd.toNat]?.getD 0).toNat) 32],wr .i64 (x.snd+1))) else (Stp.go (x.fst++[Int.ofNat (p1[x.snd.toNat]?.getD 0).toNat],wr .i64 (x.snd+1)))) else (Stp.go (x.fst++[Int.ofNat (p1[x.snd.toNat]?.getD 0).toNat],wr .i64 (x.snd+1))))) else (Stp.out ((x.fst,x.snd,decide (x.snd < Int.ofNat p1.length)))))
noncomputable def okL19_1 (p1:(List UInt8)) (x:((List Int)×Int)):Bool:=(bif decide (x.snd < Int.ofNat p1.length) then (decide (0≤x.snd)&&decide (x.snd < Int.ofNat p1.length)&&(bif decide (Int.ofNat (p1[x.snd.toNat]?.getD 0).toNat ≥ 65) then (bif decide (Int.ofNat (p1[x.snd.toNat]?.getD 0).toNat≤90) then (x.fst.length==x.fst.length&&decide (x.fst.length+1≤1073741824)&&true) else (bif decide (Int.ofNat (p1[x.snd.toNat]?.getD 0).toNat ≥ 97) then (bif decide (Int.ofNat (p1[x.snd.toNat]?.getD 0).toNat≤122) then (x.fst.length==x.fst.length&&decide (x.fst.length+1≤1073741824)&&true) else (x.fst.length==x.fst.length&&decide (x.fst.length+1≤1073741824)&&true)) else (x.fst.length==x.fst.length&&decide (x.fst.length+1≤1073741824)&&true))) else (bif decide (Int.ofNat (p1[x.snd.toNat]?.getD 0).toNat ≥ 97) then (bif decide (Int.ofNat (p1[x.snd.toNat]?.getD 0).toNat≤122) then (x.fst.length==x.fst.length&&decide (x.fst.length+1≤1073741824)&&true) else (x.fst.length==x.fst.length&&decide (x.fst.length+1≤1073741824)&&true)) else (x.fst.length==x.fst.length&&decide (x.fst.length+1≤1073741824)&&true)))) else true)
noncomputable def lp19_1 (p1:(List UInt8)) (x:((List Int)×Int)):Option (((List Int)×Int×Bool)):=itl (fun x=>bif okL19_1 p1 x then st19_1 p1 x else .bad) many x
abbrev D19_1 {α:Type} (k:(List UInt8)→((List Int)×Int)→α) (s:St):α:=k (tS (tT s 0)) ((tL (ET.i .u8) (tT s 3)),(tI (tT s 4)))
theorem L19_1 (p1:(List UInt8)) (x:((List Int)×Int)) (r:((List Int)×Int×Bool)) (h:lp19_1 p1 x=some r):LSpec Pz (bodL Pz 19 3) (S19_1 p1 x) (O19_1 p1 r):=LSpec.smd (m:=12) (fn:=19) hB19_1 (D19_1 fun _ x=>some x) (fun o=>match o with | .exit 0 s=>some ((tL (ET.i .u8) (tT s 3)),(tI (tT s 4)),(tB (tT s 9))) | _=>none) (fun _=>rfl) (fun _=>by kernel_rfl) (fun _=>by kernel_rfl) (fun _=>by kernel_rfl) (fun _=>by kernel_rfl) many x r h
noncomputable def F19_1 (b:Code) (s:St):Tr Out:=D19_1 (fun p1 x=>lk1 b (bodL Pz 19 3) s (S19_1 p1 x) (lp19_1 p1 x) (O19_1 p1)) s
theorem sF19_1:∀ b,LSound Pz b (F19_1 b):=fun _ _ _ h=>lk1_ok (L19_1 _ _) h
noncomputable def B19:Base:=baseOf Pz (fun f i=>lkC f i K19) [] [(19,3,F19_1)] []
theorem hB19:BOk B19:=base_ok named_z trivial ⟨sF19_1,trivial⟩ trivial
noncomputable def N19 (a:List UInt8):List UInt8:=(List.map ub ((lp19_1 a ([],0)).getD default).fst)
noncomputable def ok19 (a:List UInt8):Bool:=((lp19_1 a ([],0)).isSome&&true)
theorem P19 (a:List UInt8) (h:ok19 a=true):PS Pz 19 [.str a] (dS.res (N19 a)):=ps_sum (n:=14) hB19 (by kernel_rfl) (by kernel_rfl) (by kernel_rfl) h
noncomputable def G19:List AV→Tr AV:=g1 dS (fun a=>gdv (ok19 a) (dS.res (N19 a)))
theorem s19:Sound Pz 19 G19:=sound1 fun a=>at_gd (P19 a)
noncomputable def K20:List (Nat×Nat×List (Nat×List Nat)):=[(20,47,[(0,[0]),(1,[0,3,4]),(2,[0,3,4,5]),(3,[0,3,4,5,9]),(4,[0,3,4,5]),(5,[0,3,4,5,21]),(6,[0,3,4,5]),(7,[0,3,4,5,36]),(8,[0,3,5]),(9,[0,3,5,43]),(10,[0,3,5]),(11,[0,3,4,5]),(12,[2])])]
noncomputable def B20_1:Base:=baseOf Pz (fun f i=>lkC f i K20) [] [] []
theorem hB20_1:BOk B20_1:=base_ok named_z trivial trivial trivial
noncomputable def S20_1 (p1:(List UInt8)) (x:((List UInt8)×(List UInt8)×Int)):St:=St.mk (AV.str p1::AV.any::AV.any::AV.str x.fst::AV.str x.snd.fst::AV.int .i64 x.snd.snd::(an 41 [])) (Hp.mk [] [] [] 0 0 0)
noncomputable def O20_1 (p1:(List UInt8)):((List UInt8)×(List UInt8)×Int×Bool)→Out:=fun y=>.exit 0 (St.mk (AV.str p1::AV.any::AV.any::AV.str y.fst::AV.str y.snd.fst::AV.int .i64 y.snd.snd.fst::(an 3 (AV.bool y.snd.snd.snd::(an 37 [])))) (Hp.mk [] [] [] 0 0 0))
noncomputable def st20_1 (p1:(List UInt8)) (x:((List UInt8)×(List UInt8)×Int)):Stp ((List UInt8)×(List UInt8)×Int) (((List UInt8)×(List UInt8)×Int×Bool)):=(bif decide (x.snd.snd≤Int.ofNat p1.length) then (bif decide (x.snd.snd < Int.ofNat p1.length) then (bif Int.ofNat (p1[x.snd.snd.toNat]?.getD 0).toNat != 47 then (Stp.go (x.fst,x.snd.fst++List.drop x.snd.snd.toNat (List.take (wr .i64 (x.snd.snd+1)).toNat p1),wr .i64 (x.snd.snd+1))) else (bif decide (x.snd.snd < Int.ofNat p1.length) then (bif decide (x.snd.snd < Int.ofNat p1.length) then (Stp.go ((ByteArray.mk #[47]).data.toList++(x.snd.fst++x.fst),(ByteArray.mk #[]).data.toList,wr .i64 (x.snd.snd+1))) else (Stp.go (x.snd.fst++x.fst,(ByteArray.mk #[]).data.toList,wr .i64 (x.snd.snd+1)))) else (bif !x.fst==(ByteArray.mk #[]).data.toList then (bif decide (x.snd.snd < Int.ofNat p1.length) then (Stp.go ((ByteArray.mk #[47]).data.toList++(x.snd.fst++x.fst),(ByteArray.mk #[]).data.toList,wr .i64 (x.snd.snd+1))) else (Stp.go (x.snd.fst++x.fst,(ByteArray.mk #[]).data.toList,wr .i64 (x.snd.snd+1)))) else (bif decide (x.snd.snd < Int.ofNat p1.length) then (Stp.go ((ByteArray.mk #[47]).data.toList++x.fst,(ByteArray.mk #[]).data.toList,wr .i64 (x.snd.snd+1))) else (Stp.go (x.fst,(ByteArray.mk #[]).data.toList,wr .i64 (x.snd.snd+1))))))) else (bif decide (x.snd.snd < Int.ofNat p1.length) then (bif decide (x.snd.snd < Int.ofNat p1.length) then (Stp.go ((ByteArray.mk #[47]).data.toList++(x.snd.fst++x.fst),(ByteArray.mk #[]).data.toList,wr .i64 (x.snd.snd+1))) else (Stp.go (x.snd.fst++x.fst,(ByteArray.mk #[]).data.toList,wr .i64 (x.snd.snd+1)))) else (bif !x.fst==(ByteArray.mk #[]).data.toList then (bif decide (x.snd.snd < Int.ofNat p1.length) then (Stp.go ((ByteArray.mk #[47]).data.toList++(x.snd.fst++x.fst),(ByteArray.mk #[]).data.toList,wr .i64 (x.snd.snd+1))) else (Stp.go (x.snd.fst++x.fst,(ByteArray.mk #[]).data.toList,wr .i64 (x.snd.snd+1)))) else (bif decide (x.snd.snd < Int.ofNat p1.length) then (Stp.go ((ByteArray.mk #[47]).data.toList++x.fst,(ByteArray.mk #[]).data.toList,wr .i64 (x.snd.snd+1))) else (Stp.go (x.fst,(ByteArray.mk #[]).data.toList,wr .i64 (x.snd.snd+1))))))) else (Stp.out ((x.fst,x.snd.fst,x.snd.snd,decide (x.snd.snd≤Int.ofNat p1.length)))))
noncomputable def okL20_1 (p1:(List UInt8)) (x:((List UInt8)×(List UInt8)×Int)):Bool:=(bif decide (x.snd.snd≤Int.ofNat p1.length) then (bif decide (x.snd.snd < Int.ofNat p1.length) then (decide (0≤x.snd.snd)&&decide (x.snd.snd < Int.ofNat p1.length)&&(bif Int.ofNat (p1[x.snd.snd.toNat]?.getD 0).toNat != 47 then (decide (0≤x.snd.snd)&&decide (x.snd.snd≤wr .i64 (x.snd.snd+1))&&decide (wr .i64 (x.snd.snd+1)≤Int.ofNat p1.length)&&(decide (x.snd.fst.length+(List.drop x.snd.snd.toNat (List.take (wr .i64 (x.snd.snd+1)).toNat p1)).length≤1073741824)&&true)) else (bif decide (x.snd.snd < Int.ofNat p1.length) then (decide (x.snd.fst.length+x.fst.length≤1073741824)&&(bif decide (x.snd.snd < Int.ofNat p1.length) then (decide (1+(x.snd.fst++x.fst).length≤1073741824)&&true) else true)) else (bif !x.fst==(ByteArray.mk #[]).data.toList then (decide (x.snd.fst.length+x.fst.length≤1073741824)&&(bif decide (x.snd.snd < Int.ofNat p1.length) then (decide (1+(x.snd.fst++x.fst).length≤1073741824)&&true) else true)) else (bif decide (x.snd.snd < Int.ofNat p1.length) then (decide (1+x.fst.length≤1073741824)&&true) else true))))) else (bif decide (x.snd.snd < Int.ofNat p1.length) then (decide (x.snd.fst.length+x.fst.length≤1073741824)&&(bif decide (x.snd.snd < Int.ofNat p1.length) then (decide (1+(x.snd.fst++x.fst).length≤1073741824)&&true) else true)) else (bif !x.fst==(ByteArray.mk #[]).data.toList then (decide (x.snd.fst.length+x.fst.length≤1073741824)&&(bif decide (x.snd.snd < Int.ofNat p1.length) then (decide (1+(x.snd.fst++x.fst).length≤1073741824)&&true) else true)) else (bif decide (x.snd.snd < Int.ofNat p1.length) then (decide (1+x.fst.length≤1073741824)&&true) else true)))) else true)
noncomputable def lp20_1 (p1:(List UInt8)) (x:((List UInt8)×(List UInt8)×Int)):Option (((List UInt8)×(List UInt8)×Int×Bool)):=itl (fun x=>bif okL20_1 p1 x then st20_1 p1 x else .bad) many x
abbrev D20_1 {α:Type} (k:(List UInt8)→((List UInt8)×(List UInt8)×Int)→α) (s:St):α:=k (tS (tT s 0)) ((tS (tT s 3)),(tS (tT s 4)),(tI (tT s 5)))
theorem L20_1 (p1:(List UInt8)) (x:((List UInt8)×(List UInt8)×Int)) (r:((List UInt8)×(List UInt8)×Int×Bool)) (h:lp20_1 p1 x=some r):LSpec Pz (bodL Pz 20 3) (S20_1 p1 x) (O20_1 p1 r):=LSpec.smd (m:=12) (fn:=20) hB20_1 (D20_1 fun _ x=>some x) (fun o=>match o with | .exit 0 s=>some ((tS (tT s 3)),(tS (tT s 4)),(tI (tT s 5)),(tB (tT s 9))) | _=>none) (fun _=>rfl) (fun _=>by kernel_rfl) (fun _=>by kernel_rfl) (fun _=>by kernel_rfl) (fun _=>by kernel_rfl) many x r h
noncomputable def F20_1 (b:Code) (s:St):Tr Out:=D20_1 (fun p1 x=>lk1 b (bodL Pz 20 3) s (S20_1 p1 x) (lp20_1 p1 x) (O20_1 p1)) s
theorem sF20_1:∀ b,LSound Pz b (F20_1 b):=fun _ _ _ h=>lk1_ok (L20_1 _ _) h
noncomputable def B20:Base:=baseOf Pz (fun f i=>lkC f i K20) [] [(20,3,F20_1)] []
theorem hB20:BOk B20:=base_ok named_z trivial ⟨sF20_1,trivial⟩ trivial
noncomputable def N20 (a:List UInt8):List UInt8:=(((lp20_1 a ((ByteArray.mk #[]).data.toList,(ByteArray.mk #[]).data.toList,0)).getD default).fst)
noncomputable def ok20 (a:List UInt8):Bool:=((lp20_1 a ((ByteArray.mk #[]).data.toList,(ByteArray.mk #[]).data.toList,0)).isSome&&true)
theorem P20 (a:List UInt8) (h:ok20 a=true):PS Pz 20 [.str a] (dS.res (N20 a)):=ps_sum (n:=14) hB20 (by kernel_rfl) (by kernel_rfl) (by kernel_rfl) h
noncomputable def G20:List AV→Tr AV:=g1 dS (fun a=>gdv (ok20 a) (dS.res (N20 a)))
theorem s20:Sound Pz 20 G20:=sound1 fun a=>at_gd (P20 a)
noncomputable def K8:List (Nat×Nat×List (Nat×List Nat)):=[(8,63,[(0,[1]),(1,[1,7]),(2,[2]),(3,[1,23]),(4,[2]),(5,[1,3]),(6,[1,3,27]),(7,[2]),(8,[3,4]),(9,[3,4,5]),(10,[2])])]
noncomputable def B8:Base:=baseOf Pz (fun f i=>lkC f i K8) [(11,G11),(12,G12),(17,G17),(18,G18),(19,G19),(20,G20)] [] []
theorem hB8:BOk B8:=base_ok named_z ⟨s11,s12,s17,s18,s19,s20,trivial⟩ trivial trivial
noncomputable def N8 (a:Pos):Bool:=(bif !true then (false) else (bif a.variant==2 then (true) else (bif a.variant==5 then (true) else (bif eqOut BinOp.neq (a.rooks==li [-1,-1,-1,-1]&&true) then (true) else (bif N12 a==(ByteArray.mk #[]).data.toList then (true) else (bif !N12 (N18 a)==(ByteArray.mk #[]).data.toList then (bif N17 (N12 (N18 a))==N17 (N12 a) then (bif N19 (List.drop 0 (List.take (N17 (N12 a)).toNat (N12 (N18 a))))==N20 (List.drop 0 (List.take (N17 (N12 a)).toNat (N12 a))) then (Int.ofNat ((N12 (N18 a))[(wr .i64 (N17 (N12 a)+1)).toNat]?.getD 0).toNat != Int.ofNat ((N12 a)[(wr .i64 (N17 (N12 a)+1)).toNat]?.getD 0).toNat) else (false)) else (false)) else (false)))))))
noncomputable def ok8 (a:Pos):Bool:=(bif !true then true else (bif a.variant==2 then true else (bif a.variant==5 then true else (bif eqOut BinOp.neq (a.rooks==li [-1,-1,-1,-1]&&true) then true else (ok12 a&&(bif N12 a==(ByteArray.mk #[]).data.toList then true else (ok18 a&&(ok12 (N18 a)&&(ok17 (N12 a)&&(bif !N12 (N18 a)==(ByteArray.mk #[]).data.toList then (ok17 (N12 (N18 a))&&(bif N17 (N12 (N18 a))==N17 (N12 a) then (decide (0≤N17 (N12 a))&&decide (N17 (N12 a)≤Int.ofNat (N12 (N18 a)).length)&&(ok19 (List.drop 0 (List.take (N17 (N12 a)).toNat (N12 (N18 a))))&&(decide (0≤N17 (N12 a))&&decide (N17 (N12 a)≤Int.ofNat (N12 a).length)&&(ok20 (List.drop 0 (List.take (N17 (N12 a)).toNat (N12 a)))&&(bif N19 (List.drop 0 (List.take (N17 (N12 a)).toNat (N12 (N18 a))))==N20 (List.drop 0 (List.take (N17 (N12 a)).toNat (N12 a))) then (decide (0≤wr .i64 (N17 (N12 a)+1))&&decide (wr .i64 (N17 (N12 a)+1) < Int.ofNat (N12 (N18 a)).length)&&(decide (0≤wr .i64 (N17 (N12 a)+1))&&decide (wr .i64 (N17 (N12 a)+1) < Int.ofNat (N12 a).length)&&true)) else true))))) else true)) else true))))))))))
theorem P8 (a:Pos) (h:ok8 a=true):PS Pz 8 [Pos.av a] (dB.res (N8 a)):=ps_sum (n:=14) hB8 (by kernel_rfl) (by kernel_rfl) (by kernel_rfl) h
noncomputable def G8:List AV→Tr AV:=g1 dPos (fun a=>gdv (ok8 a) (dB.res (N8 a)))
theorem s8:Sound Pz 8 G8:=sound1 fun a=>at_gd (P8 a)
end Kz
end
section
namespace Kz
open Go Go.RowKit Go.Proofs
set_option maxRecDepth 100000
def swc (b:UInt8):UInt8:=if isLet b then b ^^^ 32 else b
theorem tabX:(List.range 256).all (fun n=>ub (ibits BinOp.xor .u8 (n:Int) 32)==(UInt8.ofNat n ^^^ 32))=true:=by kernel_rfl
theorem xor_at (b:UInt8):ub (ibits BinOp.xor .u8 (Int.ofNat b.toNat) 32)=b ^^^ 32:=by
  have h:=List.all_eq_true.1 tabX b.toNat (List.mem_range.2 (UInt8.toNat_lt b))
  rw [beq_iff_eq,UInt8.ofNat_toNat] at h
  exact h
theorem lp19_at (a:List UInt8) (hl:a.length≤1000000):∃ r,lp19_1 a ([],0)=some r∧List.map ub r.1=a.map swc:=by
  refine lp_many (I:=fun x:List Int×Int=>0≤x.2∧x.2≤(a.length:Int)∧x.1.length=x.2.toNat∧List.map ub x.1=(a.take x.2.toNat).map swc) (μ:=fun x=>((a.length:Int) - x.2).toNat) ?_ _ ⟨Int.le_refl _,by omega,rfl,rfl⟩ (by dsimp only; omega)
  rintro ⟨l,i⟩ ⟨g0,g1,g2,g3⟩
  dsimp only at g0 g1 g2 g3
  obtain ⟨j,rfl⟩:=Int.eq_ofNat_of_zero_le g0
  rw [Int.toNat_natCast] at g2 g3
  unfold okL19_1 st19_1
  dsimp only
  by_cases hj:j < a.length
  · rw [decide_eq_true (show (j:Int) < Int.ofNat a.length by show (j:Int) < (a.length:Int); omega),decide_eq_true g0,beq_self_eq_true,decide_eq_true (show l.length+1≤1073741824 by omega),Int.toNat_natCast,List.getElem?_eq_getElem hj,Option.getD_some,wi64 (by omega) (by omega)]
    simp only [cond_true,Bool.and_self,Bool.true_and,Bool.cond_self]
    refine ⟨trivial,?_⟩
    have inv:∀ z:Int,ub z=swc a[j]→Nxt (fun x:List Int×Int=>0≤x.2∧x.2≤(a.length:Int)∧x.1.length=x.2.toNat∧List.map ub x.1=(a.take x.2.toNat).map swc) (fun r:List Int×Int×Bool=>List.map ub r.1=a.map swc) (fun x=>((a.length:Int) - x.2).toNat) (((a.length:Int) - (j:Int)).toNat) (Stp.go (l++[z],(j:Int)+1)):=by
      intro z hz
      refine ⟨⟨by dsimp only; omega,by dsimp only; omega,by dsimp only; rw [List.length_append,g2]; simp only [List.length_cons,List.length_nil]; omega,?_⟩,by dsimp only; omega⟩
      dsimp only
      rw [show ((j:Int)+1).toNat=j+1 by omega,List.take_add_one,List.getElem?_eq_getElem hj,List.map_append,List.map_append,g3]
      exact congrArg _ (congrArg (fun y=>[y]) hz)
    have big:∀ P:Prop,(a[j].toNat:Int)=Int.ofNat a[j].toNat:=fun _=>rfl
    have yes:isLet a[j]=true→ub (ibits BinOp.xor .u8 (Int.ofNat a[j].toNat) 32)=swc a[j]:=fun h=>by
      rw [xor_at]; unfold swc; rw [if_pos h]
    have no:isLet a[j]=false→ub (Int.ofNat a[j].toNat)=swc a[j]:=fun h=>by
      unfold swc
      rw [if_neg (by rw [h]; decide)]
      exact ub_uz _
    have lt:isLet a[j]=(decide (65≤a[j].toNat)&&decide (a[j].toNat≤90) || decide (97≤a[j].toNat)&&decide (a[j].toNat≤122)):=rfl
    have d1:decide (Int.ofNat a[j].toNat ≥ 65)=decide (65≤a[j].toNat):=decide_eq_decide.2 (by show (65:Int)≤(a[j].toNat:Int) ↔ _; omega)
    have d2:decide (Int.ofNat a[j].toNat≤90)=decide (a[j].toNat≤90):=decide_eq_decide.2 (by show (a[j].toNat:Int)≤90 ↔ _; omega)
    have d3:decide (Int.ofNat a[j].toNat ≥ 97)=decide (97≤a[j].toNat):=decide_eq_decide.2 (by show (97:Int)≤(a[j].toNat:Int) ↔ _; omega)
    have d4:decide (Int.ofNat a[j].toNat≤122)=decide (a[j].toNat≤122):=decide_eq_decide.2 (by show (a[j].toNat:Int)≤122 ↔ _; omega)
    rw [d1,d2,d3,d4]
    cases k1:decide (65≤a[j].toNat) <;> cases k2:decide (a[j].toNat≤90) <;> cases k3:decide (97≤a[j].toNat) <;> cases k4:decide (a[j].toNat≤122) <;> rw [k1,k2,k3,k4] at lt <;> first | exact inv _ (yes lt) | exact inv _ (no lt)
  · rw [decide_eq_false (show ¬ (j:Int) < Int.ofNat a.length by show ¬ (j:Int) < (a.length:Int); omega)]
    refine ⟨rfl,?_⟩
    show List.map ub l=a.map swc
    rw [g3,List.take_of_length_le (by omega)]
theorem N19_eq (a:List UInt8) (hl:a.length≤1000000):N19 a=a.map swc∧ok19 a=true:=by
  obtain ⟨r,e1,e2⟩:=lp19_at a hl
  unfold N19 ok19
  rw [e1]
  exact ⟨e2,rfl⟩
def trn:List UInt8→List UInt8→List UInt8→List UInt8
  | [],out,rank=>if out=[] then [] else rank++out
  | b::l,out,rank=>if b=47 then trn l (47::(rank++out)) [] else trn l out (rank++[b])
theorem lp20_at (a:List UInt8) (hl:a.length≤1000000):∃ r,lp20_1 a ([],[],0)=some r∧r.1=trn a [] []:=by
  refine lp_many (I:=fun x:List UInt8×List UInt8×Int=>0≤x.2.2∧x.2.2≤(a.length:Int)+1∧(x.1.length:Int)+x.2.1.length≤x.2.2∧(x.2.2≤(a.length:Int)→trn (a.drop x.2.2.toNat) x.1 x.2.1=trn a [] [])∧(x.2.2=(a.length:Int)+1→x.1=trn a [] [])) (μ:=fun x=>((a.length:Int)+1 - x.2.2).toNat) ?_ _ ⟨Int.le_refl _,by dsimp only; omega,by simp,fun _=>rfl,fun h=>by dsimp only at h; omega⟩ (by dsimp only; omega)
  rintro ⟨out,rank,i⟩ ⟨g0,g1,g2,g3,g4⟩
  dsimp only at g0 g1 g2 g3 g4
  obtain ⟨j,rfl⟩:=Int.eq_ofNat_of_zero_le g0
  unfold okL20_1 st20_1
  dsimp only
  by_cases hj:j < a.length
  · have g3:=g3 (by omega)
    rw [Int.toNat_natCast,List.drop_eq_getElem_cons hj] at g3
    rw [decide_eq_true (show (j:Int)≤Int.ofNat a.length by show (j:Int)≤(a.length:Int); omega),decide_eq_true (show (j:Int) < Int.ofNat a.length by show (j:Int) < (a.length:Int); omega),decide_eq_true g0,Int.toNat_natCast,List.getElem?_eq_getElem hj,Option.getD_some,wi64 (by omega) (by omega)]
    simp only [cond_true,Bool.and_self,Bool.true_and]
    by_cases hb:a[j]=47
    · rw [show (Int.ofNat a[j].toNat != 47)=false by rw [hb]; rfl]
      simp only [cond_false]
      refine ⟨a_true (decide_eq_true (by omega)) fun _=>a_true (decide_eq_true (by rw [List.length_append]; omega)) fun _=>rfl,⟨by dsimp only; omega,by dsimp only; omega,by dsimp only; simp only [List.length_cons,List.length_append,List.length_nil,List.singleton_append]; omega,fun _ => ?_,fun h=>by dsimp only at h; omega⟩,by dsimp only; omega⟩
      rw [trn,if_pos hb] at g3
      dsimp only
      rw [show ((j:Int)+1).toNat=j+1 by omega]
      exact g3
    · rw [show (Int.ofNat a[j].toNat != 47)=true by
        rw [bne_iff_ne]
        intro h
        apply hb
        apply UInt8.toNat_inj.1
        have:((a[j].toNat:Nat):Int)=47:=h
        show a[j].toNat=47
        omega]
      simp only [cond_true]
      have e1:List.drop j (List.take ((j:Int)+1).toNat a)=[a[j]]:=by
        rw [show ((j:Int)+1).toNat=j+1 by omega,List.take_add_one,List.getElem?_eq_getElem hj,List.drop_append_of_le_length (by rw [List.length_take]; omega),List.drop_of_length_le (by rw [List.length_take]; omega)]
        rfl
      rw [e1]
      refine ⟨a_true (a_true (decide_eq_true (by omega)) fun _=>decide_eq_true (by show (j:Int)+1≤(a.length:Int); omega)) fun _=>a_true (decide_eq_true (by simp only [List.length_cons,List.length_nil]; omega)) fun _=>rfl,⟨by dsimp only; omega,by dsimp only; omega,by dsimp only; simp only [List.length_cons,List.length_append,List.length_nil]; omega,fun _ => ?_,fun h=>by dsimp only at h; omega⟩,by dsimp only; omega⟩
      rw [trn,if_neg hb] at g3
      dsimp only
      rw [show ((j:Int)+1).toNat=j+1 by omega]
      exact g3
  · by_cases hj2:j=a.length
    · have g3:=g3 (by omega)
      rw [Int.toNat_natCast,List.drop_of_length_le (by omega),trn] at g3
      rw [decide_eq_true (show (j:Int)≤Int.ofNat a.length by show (j:Int)≤(a.length:Int); omega),decide_eq_false (show ¬ (j:Int) < Int.ofNat a.length by show ¬ (j:Int) < (a.length:Int); omega),wi64 (by omega) (by omega)]
      simp only [cond_true,cond_false,Bool.and_true]
      by_cases ho:out=[]
      · rw [if_pos ho] at g3
        rw [show (!out==[])=false by rw [ho]; rfl]
        simp only [cond_false]
        exact ⟨trivial,⟨by dsimp only; omega,by dsimp only; omega,by dsimp only [List.length_nil]; omega,fun h=>by dsimp only at h; omega,fun _=>by dsimp only; rw [ho]; exact g3⟩,by dsimp only; omega⟩
      · rw [if_neg ho] at g3
        rw [show (!out==[])=true by cases out with
          | nil=>exact absurd rfl ho
          | cons x l=>rfl]
        simp only [cond_true]
        exact ⟨decide_eq_true (by omega),⟨by dsimp only; omega,by dsimp only; omega,by dsimp only; simp only [List.length_append,List.length_nil]; omega,fun h=>by dsimp only at h; omega,fun _=>g3⟩,by dsimp only; omega⟩
    · rw [decide_eq_false (show ¬ (j:Int)≤Int.ofNat a.length by show ¬ (j:Int)≤(a.length:Int); omega)]
      refine ⟨rfl,?_⟩
      exact g4 (by omega)
theorem N20_eq (a:List UInt8) (hl:a.length≤1000000):N20 a=trn a [] []∧ok20 a=true:=by
  obtain ⟨r,e1,e2⟩:=lp20_at a hl
  unfold N20 ok20
  rw [show (ByteArray.mk #[]).data.toList=([]:List UInt8) from rfl,e1]
  exact ⟨e2,rfl⟩
theorem trn_app:∀ (x l out rank:List UInt8),(∀ b ∈ x,b≠47)→trn (x++l) out rank=trn l out (rank++x)
  | [],l,out,rank,_=>by rw [List.nil_append,List.append_nil]
  | b::x,l,out,rank,h=>by
    rw [List.cons_append,trn,if_neg (h b (List.mem_cons_self ..)),trn_app x l out (rank++[b]) fun c hc=>h c (List.mem_cons_of_mem _ hc),List.append_assoc]
    rfl
noncomputable def bdT (p:Pos):Nat→List UInt8
  | 0=>[]
  | k+1=>rowS p (7 - k) 8 0++((bif decide (0 < k) then [47] else [])++bdT p k)
theorem trn_bd {p:Pos} (hp:PosIn p) (hm:MenOk p):∀ k:Nat,k < 8→trn (bdS p (k+1)) (bif decide (7 - k=0) then [] else 47::bdT p (7 - k)) []=bif decide (7 - k=0∧k=0) then rowS p 0 8 0 else bdT p 8:=by
  intro k
  induction k with
  | zero =>
    intro _
    rw [bdS,show decide (0 < 0)=false from rfl,cond_false,List.nil_append,bdS,List.append_nil,← List.append_nil (rowS p _ 8 0),trn_app _ _ _ _ fun b hb=>(row_no (row_of hp hm (r:=((0:Nat):Int)) (by decide) (by decide) 8 0 (by omega) (by omega) (by omega) b hb)).2]
    rw [show decide (7 - 0=0)=false from rfl,cond_false,List.nil_append,trn,if_neg (by simp),show decide (7 - 0=0∧0=0)=false from rfl,cond_false,bdT]
    rfl
  | succ k ih =>
    intro hk
    have ih:=ih (by omega)
    rw [bdS,decide_eq_true (show 0 < k+1 by omega),cond_true,trn_app _ _ _ _ fun b hb=>(row_no (row_of hp hm (r:=((k+1:Nat):Int)) (by omega) (by omega) 8 0 (by omega) (by omega) (by omega) b hb)).2]
    rw [List.singleton_append,trn,if_pos rfl,List.nil_append]
    rw [decide_eq_false (show ¬ (7 - k=0) by omega),cond_false,decide_eq_false (show ¬ (7 - k=0∧k=0) by omega),cond_false] at ih
    rw [decide_eq_false (show ¬ (7 - (k+1)=0∧k+1=0) by omega),cond_false,← ih]
    have e:bdT p (7 - k)=rowS p ((k+1:Nat):Int) 8 0++(bif decide (7 - (k+1)=0) then [] else 47::bdT p (7 - (k+1))):=by
      rw [show 7 - k=(7 - (k+1))+1 by omega,bdT,show (7:Int) - ((7 - (k+1):Nat):Int)=((k+1:Nat):Int) by omega]
      by_cases h6:7 - (k+1)=0
      · rw [h6]
        rfl
      · rw [decide_eq_true (show 0 < 7 - (k+1) by omega),decide_eq_false h6]
        rfl
    rw [e]
theorem trn_all {p:Pos} (hp:PosIn p) (hm:MenOk p):trn (bdS p 8) [] []=bdT p 8:=trn_bd hp hm 7 (by omega)
def flipI (t:Int):Int:=8 * (7 - t / 8)+t % 8
theorem tabF:(List.range 64).all (fun n=>(ibits BinOp.xor .i64 (n:Int) 56==flipI n)&&(ibits BinOp.xor .i8 (n:Int) 56==flipI n))=true:=by kernel_rfl
theorem flip_x {t:Int} (h0:0≤t) (h1:t < 64):ibits BinOp.xor .i64 t 56=flipI t∧ibits BinOp.xor .i8 t 56=flipI t:=by
  have h:=tab_at tabF h0 (by omega)
  rw [Int.toNat_of_nonneg h0] at h
  simp only [Bool.and_eq_true,beq_iff_eq] at h
  exact h
theorem flip_in {t:Int} (h0:0≤t) (h1:t < 64):0≤flipI t∧flipI t < 64∧flipI (flipI t)=t:=by
  unfold flipI
  omega
theorem tabO:(List.range 256).all (fun n=>ok44 (n:Int)&&decide (0≤N44 (n:Int))&&decide (N44 (n:Int)≤255)&&(bif N96 (n:Int) then N96 (N44 (n:Int))&&((N97 (N44 (n:Int))).map swc==N97 (n:Int))&&(N44 (n:Int) != 0) else true)&&(bif n==0 then N44 (n:Int)==0 else true))=true:=by kernel_rfl
theorem other_of {x:Int} (h0:0≤x) (h1:x≤255):ok44 x=true∧0≤N44 x∧N44 x≤255∧(N96 x=true→N96 (N44 x)=true∧(N97 (N44 x)).map swc=N97 x∧N44 x≠0)∧(x=0→N44 x=0):=by
  have h:=tab_at tabO h0 (by omega)
  rw [Int.toNat_of_nonneg h0] at h
  simp only [Bool.and_eq_true,decide_eq_true_eq] at h
  obtain ⟨⟨⟨⟨a,b⟩,c⟩,d⟩,e⟩:=h
  refine ⟨a,b,c,fun hx => ?_,fun hx => ?_⟩
  · rw [hx,cond_true] at d
    simp only [Bool.and_eq_true,beq_iff_eq,bne_iff_ne] at d
    exact ⟨d.1.1,d.1.2,d.2⟩
  · subst hx
    exact beq_iff_eq.1 e
variable {p:Pos}
theorem lp18_at (hp:PosIn p) (q0:Pos) (hq:q0.board.length=64):∃ x,lp18_1 p (0,q0)=some x∧(x.2.2.board.length=64∧(∀ j:Nat,j < 64→x.2.2.board.getD (flipI j).toNat 0=N44 (atS p j))∧x.2.2={ q0 with board:=x.2.2.board }):=by
  refine lp_many (I:=fun x:Int×Pos=>0≤x.1∧x.1≤64∧x.2.board.length=64∧(∀ j:Nat,(j:Int) < x.1→x.2.board.getD (flipI j).toNat 0=N44 (atS p j))∧x.2={ q0 with board:=x.2.board }) (μ:=fun x=>(64 - x.1).toNat) ?_ _ ⟨Int.le_refl _,(show (0:Int)≤64 by decide),hq,fun j h=>by dsimp only at h; omega,rfl⟩ (show (64 - (0:Int)).toNat < 4294967296 by decide)
  rintro ⟨i,q⟩ ⟨g0,g1,g2,g3,g4⟩
  dsimp only at g0 g1 g2 g3 g4
  unfold okL18_1 st18_1
  dsimp only
  by_cases hi:i < 64
  · obtain ⟨fx,_⟩:=flip_x g0 hi
    obtain ⟨f0,f1,f2⟩:=flip_in g0 hi
    have ha:=at_in hp i
    rw [fx,scale1,scale1,decide_eq_true hi,decide_eq_true g0,decide_eq_true (show i < Int.ofNat 64 from hi),decide_eq_true f0,decide_eq_true (show flipI i < Int.ofNat 64 from f1),(show ok44 (p.board.getD i.toNat 0)=true from (other_of ha.1 ha.2).1),wi64 (by omega) (by omega)]
    refine ⟨rfl,⟨by dsimp only; omega,by dsimp only; omega,by dsimp only; rw [List.length_set]; exact g2,fun j hj => ?_,?_⟩,by dsimp only; omega⟩
    · dsimp only at hj ⊢
      rw [List.getD_eq_getElem?_getD]
      by_cases hji:(j:Int)=i
      · rw [hji,List.getElem?_set_self (by omega)]
        rfl
      · obtain ⟨k0,k1,k2⟩:=flip_in (t:=(j:Int)) (by omega) (by omega)
        have:(flipI i).toNat≠(flipI j).toNat:=fun e=>hji (by
          have:flipI i=flipI j:=by omega
          rw [← k2,← this,f2])
        rw [List.getElem?_set_ne this,← List.getD_eq_getElem?_getD]
        exact g3 j (by omega)
    · dsimp only
      rw [g4]
  · rw [decide_eq_false hi]
    refine ⟨rfl,?_⟩
    have:i=64:=by omega
    subst this
    exact ⟨g2,fun j hj=>g3 j (by omega),g4⟩
noncomputable def mir0 (p:Pos):Pos:=Pos.mk p.variant p.board (N43 p.promoted) (List.take 6 (li []++List.drop 6 p.pockets++li [0,0,0,0,0,0])++List.take 6 p.pockets++List.drop 12 (li []++List.drop 6 p.pockets++li [0,0,0,0,0,0])) (wr .u8 (1 - p.turn)) (List.take 2 (li []++List.drop 2 p.rooks++li [0,0])++List.take 2 p.rooks++List.drop 4 (li []++List.drop 2 p.rooks++li [0,0])) p.passing (((li [0,0]).set 0 (p.checks.getD 1 0)).set 1 (p.checks.getD 0 0)) p.half p.full
theorem N18_as (ht:p.turn≤1) {x:Int×Bool×Pos} (ex:lp18_1 p (0,mir0 p)=some x) (h43:ok43 p.promoted=true):ok18 p=true∧N18 p=bif N42 (wr .i64 p.passing) then { x.2.2 with passing:=ibits BinOp.xor .i8 p.passing 56 } else x.2.2:=by
  unfold mir0 at ex
  unfold N18 ok18
  rw [decide_eq_true ht,cond_true,cond_true,ex,h43]
  exact ⟨rfl,rfl⟩
theorem mir_of (hp:PosIn p) (h0 : -1≤p.passing) (h63:p.passing≤63) (ht:p.turn≤1) (hk:p.pockets=[0,0,0,0,0,0,0,0,0,0,0,0]) (hr:p.rooks=[-1,-1,-1,-1]) (hc:p.checks=[0,0]) (hpr:p.promoted=0#64) :
    ∃ bd:List Int,ok18 p=true∧N18 p=⟨p.variant,bd,0#64,p.pockets,1 - p.turn,p.rooks,(if 0≤p.passing then flipI p.passing else p.passing),p.checks,p.half,p.full⟩∧bd.length=64∧∀ j:Nat,j < 64→bd.getD (flipI j).toNat 0=N44 (atS p j):=by
  have em:mir0 p=⟨p.variant,p.board,0#64,p.pockets,1 - p.turn,p.rooks,p.passing,p.checks,p.half,p.full⟩:=by
    unfold mir0
    rw [hpr,show N43 0#64=0#64 by kernel_rfl,hk,hr,hc,wu8 (by omega) (by have:=hp.t0; omega)]
    rfl
  obtain ⟨x,ex,hl,hat,hx⟩:=lp18_at hp (mir0 p) (by rw [em]; exact hp.bl)
  have h43:ok43 p.promoted=true:=by rw [hpr]; kernel_rfl
  obtain ⟨k18,e18⟩:=N18_as ht ex h43
  refine ⟨x.2.2.board,k18,?_,hl,hat⟩
  rw [e18,hx,em,wi64 (by omega) (by omega)]
  unfold N42
  by_cases hn:0≤p.passing
  · rw [decide_eq_true (show p.passing ≥ 0 from hn),decide_eq_true (show p.passing < 64 by omega),if_pos hn,cond_true,cond_true,(flip_x hn (by omega)).2]
  · rw [decide_eq_false (show ¬ p.passing ≥ 0 from hn),if_neg hn]
    rfl
theorem swc_dig {b:UInt8} (h:isLet b=false):swc b=b:=by
  unfold swc
  rw [h]
  rfl
theorem map_no {l:List UInt8} (h:∀ b ∈ l,isLet b=false):l.map swc=l:=by
  conv=>rhs; rw [← List.map_id l]
  exact List.map_congr_left fun b hb=>swc_dig (h b hb)
structure MirR (p m:Pos):Prop where
  pp:∀ s:Nat,bitAt p.promoted s=false
  pm:∀ s:Nat,bitAt m.promoted s=false
  at_:∀ t:Int,0≤t→t < 64→atS m t=N44 (atS p (flipI t))
theorem row_swc (hp:PosIn p) (hm:MenOk p) {m:Pos} (h:MirR p m) {r:Int} (r0:0≤r) (r7:r≤7):∀ (k:Nat) (e:Int),k≤8→0≤e→e+k≤8→(rowS m r k e).map swc=rowS p (7 - r) k e
  | 0,e,_,e0,e8=>by
    rw [rowS,rowS]
    exact map_no fun b hb=>dig_let ((fl_of e0 (by omega)).2.2 b hb)
  | k+1,e,k8,e0,e8=>by
    have ef:flipI (8 * r+(7 - (k:Int)))=8 * (7 - r)+(7 - (k:Int)):=by
      unfold flipI
      omega
    have ea:=h.at_ (8 * r+(7 - (k:Int))) (by omega) (by omega)
    rw [ef] at ea
    have hin:=at_in hp (8 * (7 - r)+(7 - (k:Int)))
    obtain ⟨_,_,_,o1,o2⟩:=other_of hin.1 hin.2
    rw [rowS,rowS]
    by_cases hz:atS p (8 * (7 - r)+(7 - (k:Int)))=0
    · rw [show (atS m (8 * r+(7 - (k:Int)))==0)=true by rw [ea,o2 hz]; rfl,show (atS p (8 * (7 - r)+(7 - (k:Int)))==0)=true by rw [hz]; rfl,cond_true,cond_true]
      exact row_swc hp hm h r0 r7 k (e+1) (by omega) (by omega) (by omega)
    · obtain ⟨n1,n2,n3⟩:=o1 (hm _ (by omega) (by omega) hz)
      rw [show (atS m (8 * r+(7 - (k:Int)))==0)=false by rw [ea]; simpa using n3,show (atS p (8 * (7 - r)+(7 - (k:Int)))==0)=false by simpa using hz,cond_false,cond_false]
      rw [List.map_append,List.map_append,row_swc hp hm h r0 r7 k 0 (by omega) (by omega) (by omega),map_no fun b hb=>dig_let ((fl_of e0 (show e≤8 by omega)).2.2 b hb)]
      unfold pieceT
      rw [h.pp,h.pm,cond_false,List.append_nil,List.append_nil,ea,n2]
theorem bd_swc (hp:PosIn p) (hm:MenOk p) {m:Pos} (h:MirR p m):∀ k:Nat,k≤8→(bdS m k).map swc=bdT p k
  | 0,_=>rfl
  | k+1,k8=>by
    rw [bdS,bdT,List.map_append,List.map_append,row_swc hp hm h (r:=(k:Int)) (by omega) (by omega) 8 0 (by omega) (by omega) (by omega),bd_swc hp hm h k (by omega)]
    congr 2
    cases decide (0 < k) <;> rfl
theorem bdT_len:(bdT p 8).length=(bdS p 8).length:=by
  have hT:(bdT p 8).length=(rowS p (7 - ((7:Nat):Int)) 8 0).length+(1+((rowS p (7 - ((6:Nat):Int)) 8 0).length+(1+((rowS p (7 - ((5:Nat):Int)) 8 0).length+(1+((rowS p (7 - ((4:Nat):Int)) 8 0).length+(1+((rowS p (7 - ((3:Nat):Int)) 8 0).length+(1+((rowS p (7 - ((2:Nat):Int)) 8 0).length+(1+((rowS p (7 - ((1:Nat):Int)) 8 0).length+(1+((rowS p (7 - ((0:Nat):Int)) 8 0).length+(0+0))))))))))))))):=by
    rw [bdT,bdT,bdT,bdT,bdT,bdT,bdT,bdT,bdT]
    simp only [List.length_append]
    rfl
  have hS:(bdS p 8).length=(rowS p ((7:Nat):Int) 8 0).length+(1+((rowS p ((6:Nat):Int) 8 0).length+(1+((rowS p ((5:Nat):Int) 8 0).length+(1+((rowS p ((4:Nat):Int) 8 0).length+(1+((rowS p ((3:Nat):Int) 8 0).length+(1+((rowS p ((2:Nat):Int) 8 0).length+(1+((rowS p ((1:Nat):Int) 8 0).length+(1+((rowS p ((0:Nat):Int) 8 0).length+(0+0))))))))))))))):=by
    rw [bdS,bdS,bdS,bdS,bdS,bdS,bdS,bdS,bdS]
    simp only [List.length_append]
    rfl
  rw [hT,hS]
  rw [show (7:Int) - ((7:Nat):Int)=((0:Nat):Int) from rfl,show (7:Int) - ((6:Nat):Int)=((1:Nat):Int) from rfl,show (7:Int) - ((5:Nat):Int)=((2:Nat):Int) from rfl,show (7:Int) - ((4:Nat):Int)=((3:Nat):Int) from rfl,show (7:Int) - ((3:Nat):Int)=((4:Nat):Int) from rfl,show (7:Int) - ((2:Nat):Int)=((5:Nat):Int) from rfl,show (7:Int) - ((1:Nat):Int)=((6:Nat):Int) from rfl,show (7:Int) - ((0:Nat):Int)=((7:Nat):Int) from rfl]
  omega
theorem tabP:(List.range 64).all (fun n=>(N58 (n:Int)).length==2)=true:=by kernel_rfl
theorem pass_len {s:Int} (h0:0≤s) (h1:s < 64):(N58 s).length=2:=by
  have h:=tab_at tabP h0 (by omega)
  rw [Int.toNat_of_nonneg h0] at h
  exact beq_iff_eq.1 h
variable {p:Pos}
theorem getD12 {l:List Int} (hl:l.length=12) (h:∀ i:Nat,i < 12→l.getD i 0=0):l=[0,0,0,0,0,0,0,0,0,0,0,0]:=by
  apply List.ext_getElem?
  intro i
  by_cases hi:i < 12
  · have h1:=h i hi
    rw [List.getD_eq_getElem?_getD,List.getElem?_eq_getElem (by omega),Option.getD_some] at h1
    rw [List.getElem?_eq_getElem (by omega),h1]
    have:i=0∨i=1∨i=2∨i=3∨i=4∨i=5∨i=6∨i=7∨i=8∨i=9∨i=10∨i=11:=by omega
    rcases this with rfl | rfl | rfl | rfl | rfl | rfl | rfl | rfl | rfl | rfl | rfl | rfl <;> rfl
  · rw [List.getElem?_eq_none (by omega),List.getElem?_eq_none (by simp; omega)]
noncomputable def mirP (p:Pos) (bd:List Int):Pos:=⟨p.variant,bd,0#64,p.pockets,1 - p.turn,p.rooks,(if 0≤p.passing then flipI p.passing else p.passing),p.checks,p.half,p.full⟩
theorem N8_true (hp:PosIn p):ok8 p=true∧N8 p=true:=by
  unfold N8 ok8
  rw [show (ByteArray.mk #[]).data.toList=([]:List UInt8) from rfl]
  simp only [Bool.not_true,cond_false]
  by_cases v2:p.variant=2
  · rw [show (p.variant==2)=true by rw [v2]; rfl]
    exact ⟨rfl,rfl⟩
  by_cases v5:p.variant=5
  · rw [show (p.variant==2)=false by rw [v5]; rfl,show (p.variant==5)=true by rw [v5]; rfl]
    exact ⟨rfl,rfl⟩
  rw [show (p.variant==2)=false by simpa using v2,show (p.variant==5)=false by simpa using v5]
  simp only [cond_false]
  cases hr:eqOut BinOp.neq (p.rooks==li [-1,-1,-1,-1]&&true) with
  | true=>exact ⟨rfl,rfl⟩
  | false =>
  simp only [cond_false]
  have hok:=(print_at hp).1
  rw [hok]
  simp only [Bool.true_and]
  by_cases hs:N12 p=[]
  · rw [hs]
    exact ⟨rfl,rfl⟩
  rw [show (N12 p==[])=false by simpa using hs]
  simp only [cond_false]
  obtain ⟨hw,ep,hlp⟩:=print_some hp hs
  obtain ⟨w1,w2,w3,w4,w5,w6,w7,w8,w9,w10,w11⟩:=hw
  have hw:Wr13 p:=⟨w1,w2,w3,w4,w5,w6,w7,w8,w9,w10,w11⟩
  have er:p.rooks=[-1,-1,-1,-1]:=by
    have:(p.rooks==li [-1,-1,-1,-1]&&true)=true:=by
      revert hr
      unfold eqOut
      cases (p.rooks==li [-1,-1,-1,-1]&&true) <;> simp
    rw [Bool.and_true,beq_iff_eq] at this
    exact this
  have hbit:∀ s:Nat,s < 64→bitAt p.promoted s=false:=by
    intro s hs64
    cases hb:bitAt p.promoted s with
    | false=>rfl
    | true=>exact absurd ((w9 s hs64).2 hb).2 v2
  have epr:=bits_zero hbit
  have ek:p.pockets=[0,0,0,0,0,0,0,0,0,0,0,0]:=getD12 hp.kl fun i hi=>by
    have hin:=pk_in hp i
    have no:∀ c:Int,∀ k:Nat,PkP p c→k < 6→¬ p.pockets.getD (6 * c+k).toNat 0 > 0:=fun c k h hk hg=>v2 (h k hk hg).1
    by_cases h6:i < 6
    · have:=no 0 i w10.1 h6
      rw [show (6 * (0:Int)+(i:Int)).toNat=i by omega] at this
      omega
    · have:=no 1 (i - 6) w11.1 (by omega)
      rw [show (6 * (1:Int)+((i - 6:Nat):Int)).toNat=i by omega] at this
      omega
  have ec:p.checks=[0,0]:=by
    have a:=ck_in hp 0
    have b:=ck_in hp 1
    have c0:¬ p.checks.getD 0 0 > 0:=fun h=>v5 (w10.2.2.1 h)
    have c1:¬ p.checks.getD 1 0 > 0:=fun h=>v5 (w11.2.2.1 h)
    have hl:=hp.cl
    generalize p.checks=l at *
    match l,hl with
    | [x,y],_ =>
      have:x=0:=by have:=a; simp only [List.getD_cons_zero] at this c0; omega
      have:y=0:=by have:=b; simp only [List.getD_cons_succ,List.getD_cons_zero] at this c1; omega
      subst_vars
      rfl
  obtain ⟨bd,k18,e18,hbl,hbd⟩:=mir_of hp w3 w4 w2 ek er ec epr
  have t0:=hp.t0
  have hat:∀ t:Int,0≤t→t < 64→atS (mirP p bd) t=N44 (atS p (flipI t)):=by
    intro t t0 t1
    obtain ⟨f0,f1,f2⟩:=flip_in t0 t1
    have:=hbd (flipI t).toNat (by omega)
    rw [Int.toNat_of_nonneg f0,f2] at this
    exact this
  have bz:∀ s:Nat,bitAt 0#64 s=false:=zero_bit
  have R:MirR p (mirP p bd):=⟨fun s=>by rw [epr]; exact bz s,bz,hat⟩
  have hm:=men_of hw
  have nz:∀ t:Int,0≤t→t < 64→atS p (flipI t)=0→atS (mirP p bd) t=0:=fun t t0 t1 h=>by
    rw [hat t t0 t1]
    exact (other_of (at_in hp _).1 (at_in hp _).2).2.2.2.2 h
  have hq:PosIn (mirP p bd) :=
    { hp with
      bl:=hbl
      b0:=fun x hx=>by
        obtain ⟨i,hi,rfl⟩:=List.mem_iff_getElem.1 hx
        have h64:i < 64:=by
          have:(mirP p bd).board.length=64:=hbl
          omega
        have:=hat (i:Int) (by omega) (by omega)
        unfold atS at this
        rw [Int.toNat_natCast,List.getD_eq_getElem?_getD,List.getElem?_eq_getElem hi,Option.getD_some] at this
        rw [this]
        have o:=other_of (at_in hp (flipI i)).1 (at_in hp (flipI i)).2
        exact ⟨o.2.1,o.2.2.1⟩
      t0:=by show 0≤1 - p.turn; omega
      t1:=by show 1 - p.turn≤255; omega
      p0:=by
        show -128≤(if 0≤p.passing then flipI p.passing else p.passing)
        split
        · have:=flip_in (t:=p.passing) (by omega) (by omega)
          omega
        · omega
      p1:=by
        show (if 0≤p.passing then flipI p.passing else p.passing)≤127
        split
        · have:=flip_in (t:=p.passing) (by omega) (by omega)
          omega
        · omega }
  have rk:∀ i:Nat,i < 4→p.rooks.getD i 0 = -1:=by
    rw [er]
    decide
  have hwq:Wr13 (mirP p bd):=by
    refine ⟨w1,by show 1 - p.turn≤1; omega,?_,?_,w5,w6,w7,w8,fun s hs64=>⟨fun h => ?_,fun h => ?_⟩,⟨w10.1,w10.2.1,w10.2.2.1,.inl (rk 0 (by decide)),.inl (rk 1 (by decide))⟩,⟨w11.1,w11.2.1,w11.2.2.1,.inl (rk 2 (by decide)),.inl (rk 3 (by decide))⟩⟩
    · show -1≤(if 0≤p.passing then flipI p.passing else p.passing)
      split
      · have:=flip_in (t:=p.passing) (by omega) (by omega)
        omega
      · omega
    · show (if 0≤p.passing then flipI p.passing else p.passing)≤63
      split
      · have:=flip_in (t:=p.passing) (by omega) (by omega)
        omega
      · omega
    · have f:=flip_in (t:=(s:Int)) (by omega) (by omega)
      rw [hat s (by omega) (by omega)]
      by_cases hz:atS p (flipI s)=0
      · exact absurd (nz s (by omega) (by omega) hz) h
      · exact ((other_of (at_in hp _).1 (at_in hp _).2).2.2.2.1 (hm _ f.1 f.2.1 hz)).1
    · exact absurd h (by rw [show (mirP p bd).promoted=0#64 from rfl,bz]; decide)
  have hokq:=(print_at hq).1
  have eq1:=(print_at hq).2.1 hwq
  have h65:N65 p.variant=false:=by
    rw [(pockets19 hp.v0 hp.v1).2]
    simpa using v2
  have bp:brdT p=bdS p 8:=by unfold brdT; rw [h65]; rfl
  have bq:brdT (mirP p bd)=bdS (mirP p bd) 8:=by unfold brdT; rw [show (mirP p bd).variant=p.variant from rfl,h65]; rfl
  have sw:=bd_swc hp hm R 8 (by omega)
  have lb:(brdT (mirP p bd)).length=(brdT p).length:=by
    rw [bp,bq,← bdT_len (p:=p),← sw,List.length_map]
  have lpass:(passT (mirP p bd)).length=(passT p).length:=by
    unfold passT
    show (bif decide ((if 0≤p.passing then flipI p.passing else p.passing) < 0) then [45] else N58 (if 0≤p.passing then flipI p.passing else p.passing):List UInt8).length=_
    by_cases hn:0≤p.passing
    · have f:=flip_in (t:=p.passing) hn (by omega)
      rw [if_pos hn,decide_eq_false (show ¬ flipI p.passing < 0 by omega),decide_eq_false (show ¬ p.passing < 0 by omega),cond_false,cond_false,pass_len f.1 f.2.1,pass_len hn (by omega)]
    · rw [if_neg hn]
  have lturn:∀ q:Pos,(turnT q).length=1:=fun q=>by
    unfold turnT
    cases (q.turn==0) <;> rfl
  have lf:(fenT (mirP p bd)).length=(fenT p).length:=by
    rw [fenT_tail,fenT_tail]
    unfold tailT
    have r1:rkA (mirP p bd)=rkA p:=rfl
    have r2:checkT (mirP p bd)=checkT p:=rfl
    rw [r1,r2]
    simp only [List.length_append,List.length_cons,lb,lturn,lpass]
    rfl
  rw [fin_le (by omega)] at eq1
  have hne:fenT (mirP p bd)≠[]:=by rw [fenT_tail]; simp
  have np:=brd_no hp hm
  have nq:=brd_no hq (men_of hwq)
  have l1:=congrArg List.length (fenT_tail p)
  have l2:=congrArg List.length (fenT_tail (mirP p bd))
  simp only [List.length_append,List.length_cons] at l1 l2
  obtain ⟨sp,kp⟩:=space_at (t:=tailT p) np (by rw [← fenT_tail]; omega)
  obtain ⟨sq,kq⟩:=space_at (t:=tailT (mirP p bd)) nq (by rw [← fenT_tail]; omega)
  rw [← fenT_tail] at sp kp sq kq
  have eN:N18 p=mirP p bd:=e18
  rw [eN,k18,hokq,eq1,ep,kp,kq,sp,sq,lb,beq_self_eq_true,show (!fenT (mirP p bd)==[])=true by
    cases h:fenT (mirP p bd) with
    | nil=>exact absurd h hne
    | cons a l=>rfl]
  simp only [cond_true,Bool.true_and,Int.toNat_natCast,List.drop_zero]
  have t1:List.take (brdT p).length (fenT p)=brdT p:=by rw [fenT_tail,List.take_left]
  have t2:List.take (brdT p).length (fenT (mirP p bd))=brdT (mirP p bd):=by rw [fenT_tail,← lb,List.take_left]
  have lbp:(brdT p).length≤200:=by omega
  obtain ⟨n19,k19⟩:=N19_eq (brdT (mirP p bd)) (by omega)
  obtain ⟨n20,k20⟩:=N20_eq (brdT p) (by omega)
  have e20:N20 (brdT p)=bdT p 8:=by rw [n20,bp,trn_all hp hm]
  rw [t1,t2,n19,e20,k19,k20,bq,sw,beq_self_eq_true,wi64 (by omega) (by omega)]
  simp only [cond_true,Bool.true_and,Bool.and_true]
  have i0:decide ((0:Int)≤((brdT p).length:Int))=true:=decide_eq_true (by omega)
  have i1:decide (((brdT p).length:Int)≤Int.ofNat (fenT p).length)=true:=decide_eq_true (by show ((brdT p).length:Int)≤((fenT p).length:Int); omega)
  have i2:decide (((brdT p).length:Int)≤Int.ofNat (fenT (mirP p bd)).length)=true:=decide_eq_true (by show ((brdT p).length:Int)≤((fenT (mirP p bd)).length:Int); omega)
  have lt1:0 < (tailT p).length:=by unfold tailT; simp only [List.length_append,lturn]; omega
  have lt2:0 < (tailT (mirP p bd)).length:=by unfold tailT; simp only [List.length_append,lturn]; omega
  have j0:decide ((0:Int)≤((brdT p).length:Int)+1)=true:=decide_eq_true (by omega)
  have j1:decide (((brdT p).length:Int)+1 < Int.ofNat (fenT p).length)=true:=decide_eq_true (by show ((brdT p).length:Int)+1 < ((fenT p).length:Int); omega)
  have j2:decide (((brdT p).length:Int)+1 < Int.ofNat (fenT (mirP p bd)).length)=true:=decide_eq_true (by show ((brdT p).length:Int)+1 < ((fenT (mirP p bd)).length:Int); omega)
  rw [i0,i1,i2,j0,j1,j2]
  refine ⟨rfl,?_⟩
  have turn_at:∀ q:Pos,(brdT q).length=(brdT p).length→(fenT q)[(((brdT p).length:Int)+1).toNat]?=(turnT q)[0]? := by
    intro q hq'
    rw [show (((brdT p).length:Int)+1).toNat=(brdT q).length+1 by omega,fenT_tail,List.getElem?_append_right (by omega),show (brdT q).length+1 - (brdT q).length=0+1 by omega,List.getElem?_cons_succ]
    unfold tailT
    rw [List.getElem?_append_left (by rw [lturn]; omega)]
  rw [turn_at _ lb,turn_at p rfl]
  unfold turnT
  rw [show (mirP p bd).turn=1 - p.turn from rfl]
  have:p.turn=0∨p.turn=1:=by omega
  rcases this with h | h <;> rw [h] <;> decide
end Kz
end
