/- Part 5 of the texts under the proof: an abstract interpreter,the summaries of functions,plain laws. -/
import Derived.Test.YtpkbiocmoklocaaDoorA4
set_option linter.unusedSectionVars false
set_option linter.unusedVariables false
set_option linter.unusedSimpArgs false
set_option linter.unnecessarySimpa false
section
namespace Kz
open Go Go.RowKit Go.Proofs
set_option maxRecDepth 100000
theorem row_len {p:Pos} (hp:PosIn p) (r:Int):∀ (k:Nat) (e:Int),0≤e→e+k≤50→(rowS p r k e).length≤8 * k+6
  | 0,e,h0,h1=>by
    rw [rowS]
    have:=fl_len h0 (by omega)
    omega
  | k+1,e,h0,h1=>by
    rw [rowS]
    have h2:=row_len hp r k (e+1) (by omega) (by omega)
    have h3:=row_len hp r k 0 (by omega) (by omega)
    have h4:=fl_len h0 (by omega)
    have h5:=piece_len hp (8 * r+(7 - (k:Int)))
    cases (atS p (8 * r+(7 - (k:Int)))==0)
    · rw [cond_false,List.length_append,List.length_append]
      omega
    · rw [cond_true]
      omega
theorem lp72 {p:Pos} (hp:PosIn p) {r:Int} (h0:0≤r) (h1:r≤7) (l0:List Int) (hl0:l0.length≤100000):∃ x,lp7_2 r p (0,l0,0)=some x∧(List.map ub x.2.2.1++fl x.2.2.2=List.map ub l0++rowS p r 8 0∧0≤x.2.2.2∧x.2.2.2≤8∧x.2.2.1.length≤l0.length+64):=by
  refine lp_many (I:=fun x=>0≤x.1∧x.1≤8∧0≤x.2.2∧x.2.2≤x.1∧List.map ub x.2.1++rowS p r (8 - x.1).toNat x.2.2=List.map ub l0++rowS p r 8 0∧x.2.1.length≤l0.length+8 * x.1.toNat) (μ:=fun x=>(8 - x.1).toNat) ?_ _ ⟨by simp,by simp,by simp,by simp,rfl,by simp⟩ (by simp)
  rintro ⟨f,l,e⟩ ⟨g0,g1,g2,g3,g4,g5⟩
  simp only at g0 g1 g2 g3 g4 g5
  unfold okL7_2 st7_2
  dsimp only
  by_cases hf:f < 8
  · obtain ⟨q1,q2⟩:=sq_eq h0 h1 g0 (show f≤7 by omega)
    rw [rowS_step p r e g0 (by omega)] at g4
    have hv:=at_in hp (8 * r+f)
    have hl:=letters hv.1 hv.2
    have hoi:=okItoa_t (n:=e) g2 (by omega)
    have hil:=itoa_len (n:=e) g2 (by omega)
    have w1:wr .i64 (e+1)=e+1:=wi64 (by omega) (by omega)
    have w2:wr .i64 (f+1)=f+1:=wi64 (by omega) (by omega)
    have hn24:N24 (p.board.getD (8 * r+f).toNat 0)=N39 (p.board.getD (8 * r+f).toNat 0):=hl.1
    have ho24:ok24 (p.board.getD (8 * r+f).toNat 0)=true:=hl.2.1
    have d2:decide (f < 8)=true:=decide_eq_true hf
    have d3:decide (0≤8 * r+f)=true:=decide_eq_true (by omega)
    have d4:decide (8 * r+f < Int.ofNat 64)=true:=decide_eq_true (by show _ < (64:Int); omega)
    have hlen:(N39 (p.board.getD (8 * r+f).toNat 0)).length≤1:=hl.2.2.1
    have b1:Nat.beq 1 1=true:=rfl
    have b2:Nat.ble 0 1=true:=rfl
    have hbit:(p.promoted >>> (8 * r+f).toNat&&&1#64==1#64)=bitAt p.promoted (8 * r+f).toNat:=rfl
    simp only [scale1,q2,w1,w2,hn24,ho24,hoi,d2,d3,d4,b1,b2,hbit,cond_true,Bool.true_and,Bool.and_true,beq_self_eq_true,List.length_map]
    have key:∀ (l':List Int) (e':Int),0≤e'→e'≤f+1→List.map ub l'++rowS p r (8 - (f+1)).toNat e'=List.map ub l0++rowS p r 8 0→l'.length≤l.length+8→Nxt (fun x:Int×List Int×Int=>0≤x.1∧x.1≤8∧0≤x.2.2∧x.2.2≤x.1∧List.map ub x.2.1++rowS p r (8 - x.1).toNat x.2.2=List.map ub l0++rowS p r 8 0∧x.2.1.length≤l0.length+8 * x.1.toNat) (fun x:Int×Bool×List Int×Int=>List.map ub x.2.2.1++fl x.2.2.2=List.map ub l0++rowS p r 8 0∧0≤x.2.2.2∧x.2.2.2≤8∧x.2.2.1.length≤l0.length+64) (fun x=>(8 - x.1).toNat) (8 - f).toNat (Stp.go (f+1,l',e')):=by
      intro l' e' a1 a2 a3 a4
      exact ⟨⟨by dsimp only; omega,by dsimp only; omega,a1,a2,a3,by dsimp only; omega⟩,by dsimp only; omega⟩
    have t0:(p.board.getD (8 * r+f).toNat 0==0)=(atS p (8 * r+f)==0):=rfl
    rw [t0]
    cases hz:(atS p (8 * r+f)==0) with
    | true =>
      rw [hz,cond_true] at g4
      simp only [cond_true]
      exact ⟨trivial,key _ _ (by omega) (by omega) g4 (by omega)⟩
    | false =>
      rw [hz,cond_false] at g4
      have hp3:N39 (p.board.getD (8 * r+f).toNat 0)=N39 (atS p (8 * r+f)):=rfl
      unfold pieceT at g4
      unfold fl at g4
      rw [hp3] at hlen ⊢
      have m126:List.map ub [126]=[126]:=rfl
      cases he:decide (e > 0) <;> cases hbt:bitAt p.promoted (8 * r+f).toNat <;> rw [he,hbt] at g4 <;> simp only [cond_true,cond_false,List.append_nil,List.nil_append,List.append_assoc] at g4 ⊢
      all_goals
        refine ⟨?_,key _ _ (Int.le_refl 0) (by omega) (by simp only [List.map_append,map_ub_uz,m126,List.append_assoc]; exact g4) ?_⟩
        · try simp only [List.length_append,List.length_cons,List.length_nil,List.length_map]
          repeat' (first | with_reducible rfl | refine a_true ?_ (fun _ => ?_) | exact decide_eq_true (by omega))
        · try simp only [List.length_append,List.length_cons,List.length_nil,List.length_map]
          omega
  · have h8:f=8:=by omega
    subst h8
    exact ⟨rfl,g4,g2,g3,by dsimp only; omega⟩
noncomputable def bdS (p:Pos):Nat→List UInt8
  | 0=>[]
  | k+1=>rowS p k 8 0++((bif decide (0 < k) then [47] else [])++bdS p k)
theorem bdS_step (p:Pos) {r:Int} (h0:0≤r):bdS p (r+1).toNat=rowS p r 8 0++((bif decide (r > 0) then [47] else [])++bdS p r.toNat):=by
  have e1:(r+1).toNat=r.toNat+1:=by omega
  have e2:((r.toNat:Nat):Int)=r:=by omega
  have e3:decide (0 < r.toNat)=decide (r > 0):=by
    by_cases h:r > 0
    · rw [decide_eq_true h,decide_eq_true (by omega)]
    · rw [decide_eq_false h,decide_eq_false (by omega)]
  rw [e1,bdS,e2,e3]
theorem bd_len {p:Pos} (hp:PosIn p):∀ k:Nat,(bdS p k).length≤71 * k
  | 0=>by rw [bdS]; simp
  | k+1=>by
    rw [bdS,List.length_append,List.length_append]
    have h1:=row_len hp k 8 0 (by omega) (by omega)
    have h2:=bd_len hp k
    have h3:(bif decide (0 < k) then [47] else []:List UInt8).length≤1:=by cases decide (0 < k) <;> simp
    omega
theorem lp73 {p:Pos} (hp:PosIn p):∃ x,lp7_3 p (7,[])=some x∧(List.map ub x.2.2=bdS p 8∧x.2.2.length≤1000):=by
  refine lp_many (I:=fun x => -1≤x.1∧x.1≤7∧List.map ub x.2++bdS p (x.1+1).toNat=bdS p 8∧x.2.length≤100 * (7 - x.1).toNat) (μ:=fun x=>(x.1+1).toNat) ?_ _ ⟨by simp,by simp,rfl,by simp⟩ (by simp)
  rintro ⟨r,l⟩ ⟨g0,g1,g2,g3⟩
  simp only at g0 g1 g2 g3
  unfold okL7_3 st7_3
  dsimp only
  by_cases hr:0≤r
  · rw [bdS_step p hr] at g2
    obtain ⟨a1,a2⟩:=of_some (lp72 hp hr g1 l (by omega))
    generalize (lp7_2 r p (0,l,0)).getD default=y at a2
    obtain ⟨y1,y2,y3,y4⟩:=y
    dsimp only at a2 ⊢
    obtain ⟨b1,b2,b3,b4⟩:=a2
    have hoi:=okItoa_t (n:=y4) b2 (by omega)
    have hil:=itoa_len (n:=y4) b2 (by omega)
    have w1:wr .i64 (r - 1)=r - 1:=wi64 (by omega) (by omega)
    have d1:decide (r ≥ 0)=true:=decide_eq_true hr
    have c1:Nat.beq 1 1=true:=rfl
    have c2:Nat.ble 0 1=true:=rfl
    simp only [a1,hoi,w1,d1,c1,c2,cond_true,Bool.true_and,Bool.and_true,beq_self_eq_true,List.length_map]
    have key:∀ l':List Int,List.map ub l'++bdS p r.toNat=bdS p 8→l'.length≤l.length+100→Nxt (fun x:Int×List Int => -1≤x.1∧x.1≤7∧List.map ub x.2++bdS p (x.1+1).toNat=bdS p 8∧x.2.length≤100 * (7 - x.1).toNat) (fun x:Int×Bool×List Int=>List.map ub x.2.2=bdS p 8∧x.2.2.length≤1000) (fun x=>(x.1+1).toNat) (r+1).toNat (Stp.go (r - 1,l')):=by
      intro l' k1 k2
      exact ⟨⟨by dsimp only; omega,by dsimp only; omega,by dsimp only; rw [show r - 1+1=r by omega]; exact k1,by dsimp only; omega⟩,by dsimp only; omega⟩
    have m47:List.map ub [47]=[47]:=rfl
    rw [← List.append_assoc,← b1] at g2
    unfold fl at g2
    cases he:decide (y4 > 0) <;> cases hd:decide (r > 0) <;> rw [he,hd] at g2
    all_goals try simp only [cond_true,cond_false,List.append_nil,List.nil_append,List.append_assoc] at g2
    all_goals try simp only [cond_true,cond_false,List.append_nil,List.nil_append,List.append_assoc]
    all_goals
      refine ⟨?_,key _ (by (try simp only [List.map_append,map_ub_uz,m47,List.append_assoc]); exact g2) ?_⟩
      · try simp only [List.length_append,List.length_cons,List.length_nil,List.length_map]
        repeat' (first | with_reducible rfl | refine a_true ?_ (fun _ => ?_) | exact decide_eq_true (by omega))
      · try simp only [List.length_append,List.length_cons,List.length_nil,List.length_map]
        omega
  · have h1:r = -1:=by omega
    subst h1
    refine ⟨rfl,?_,by dsimp only; omega⟩
    show List.map ub l=_
    rw [← g2]
    simp [bdS]
theorem lp51 {p:Pos} (hp:PosIn p):∃ x,lp5_1 p ([],7)=some x∧x.1=bdS p 8:=by
  refine lp_many (I:=fun x => -1≤x.2∧x.2≤7∧x.1++bdS p (x.2+1).toNat=bdS p 8∧x.1.length≤100 * (7 - x.2).toNat) (μ:=fun x=>(x.2+1).toNat) ?_ _ ⟨by simp,by simp,rfl,by simp⟩ (by simp)
  rintro ⟨s,r⟩ ⟨g0,g1,g2,g3⟩
  simp only at g0 g1 g2 g3
  unfold okL5_1 st5_1
  dsimp only
  by_cases hr:0≤r
  · rw [bdS_step p hr] at g2
    obtain ⟨n1,n2⟩:=N14_eq hp hr g1
    have hlen:=row_len hp r 8 0 (by omega) (by omega)
    have w1:wr .i64 (r - 1)=r - 1:=wi64 (by omega) (by omega)
    have d1:decide (r ≥ 0)=true:=decide_eq_true hr
    simp only [n1,n2,w1,d1,cond_true,Bool.true_and,Bool.and_true]
    have key:∀ l':List UInt8,l'++bdS p r.toNat=bdS p 8→l'.length≤s.length+100→Nxt (fun x:List UInt8×Int => -1≤x.2∧x.2≤7∧x.1++bdS p (x.2+1).toNat=bdS p 8∧x.1.length≤100 * (7 - x.2).toNat) (fun x:List UInt8×Int×Bool=>x.1=bdS p 8) (fun x=>(x.2+1).toNat) (r+1).toNat (Stp.go (l',r - 1)):=by
      intro l' k1 k2
      exact ⟨⟨by dsimp only; omega,by dsimp only; omega,by dsimp only; rw [show r - 1+1=r by omega]; exact k1,by dsimp only; omega⟩,by dsimp only; omega⟩
    cases hd:decide (r > 0) <;> rw [hd] at g2 <;> simp only [cond_true,cond_false,List.append_nil,List.nil_append,List.append_assoc] at g2 ⊢
    all_goals
      refine ⟨?_,key _ (by (try simp only [List.append_assoc]); exact g2) ?_⟩
      · try simp only [List.length_append,List.length_cons,List.length_nil]
        repeat' (first | with_reducible rfl | refine a_true ?_ (fun _ => ?_) | exact decide_eq_true (by omega))
      · try simp only [List.length_append,List.length_cons,List.length_nil]
        omega
  · have h1:r = -1:=by omega
    subst h1
    refine ⟨rfl,?_⟩
    show s=_
    rw [← g2]
    simp [bdS]
theorem scale6 (i:Int):scale 6 i=i * 6:=rfl
theorem scale2 (i:Int):scale 2 i=i * 2:=rfl
theorem take_drop_getD {α:Type} (l:List α) (n m k:Nat) (d:α) (h:k < m):(List.take m (List.drop n l)).getD k d=l.getD (n+k) d:=by
  rw [List.getD_eq_getElem?_getD,List.getD_eq_getElem?_getD,List.getElem?_take_of_lt h,List.getElem?_drop]
theorem rep_succ (l:List UInt8):∀ n:Nat,Lib.repeatL l (n+1)=Lib.repeatL l n++l
  | 0=>by simp [Lib.repeatL]
  | n+1=>by
    have h:=rep_succ l n
    show l++Lib.repeatL l (n+1)=(l++Lib.repeatL l n)++l
    rw [h,List.append_assoc]
noncomputable def pkS (p:Pos) (i:Nat):List UInt8:=Lib.repeatL (N39 (N28 ((i / 6:Nat):Int) ((i % 6:Nat):Int))) (p.pockets.getD i 0).toNat
noncomputable def pkR (p:Pos):Nat→List UInt8
  | 0=>[]
  | j+1=>pkS p (11 - j)++pkR p j
theorem pk_in {p:Pos} (hp:PosIn p) (i:Nat):0≤p.pockets.getD i 0∧p.pockets.getD i 0≤255:=by
  rw [List.getD_eq_getElem?_getD]
  cases h:p.pockets[i]? with
  | none=>exact ⟨Int.le_refl _,by decide⟩
  | some x=>exact hp.k0 x (List.mem_of_getElem? h)
structure PkF (p:Pos) (c k:Int):Prop where
  ok:ok24 (N28 c k)=true
  eq:N24 (N28 c k)=N39 (N28 c k)
  len:(N39 (N28 c k)).length≤1
  step:pkR p (12 - (6 * c+k)).toNat=Lib.repeatL (N39 (N28 c k)) (p.pockets.getD (6 * c+k).toNat 0).toNat++pkR p (12 - (6 * c+(k+1))).toNat
theorem pk_f (p:Pos) {c k:Int} (h0:0≤c) (h1:c≤1) (h2:0≤k) (h3:k≤5):PkF p c k:=by
  have h:=List.all_eq_true.1 tab28 _ (List.mem_range.2 (show (6 * c+k).toNat < 12 by omega))
  have e1:(((6 * c+k).toNat / 6:Nat):Int)=c:=by omega
  have e2:(((6 * c+k).toNat % 6:Nat):Int)=k:=by omega
  rw [e1,e2] at h
  simp only [Bool.and_eq_true,beq_iff_eq,decide_eq_true_eq] at h
  refine ⟨h.1.1,h.1.2,h.2,?_⟩
  have e3:(12 - (6 * c+k)).toNat=(12 - (6 * c+(k+1))).toNat+1:=by omega
  have e4:11 - (12 - (6 * c+(k+1))).toNat=(6 * c+k).toNat:=by omega
  rw [e3,pkR,e4,pkS,e1,e2]
theorem rep_len {s:List UInt8} (h:s.length≤1) {n:Int} (h1:n≤255):(Lib.repeatL s n.toNat).length≤255:=by
  rw [Lib.repeatL_length]
  have:=Nat.mul_le_mul_left n.toNat h
  omega
theorem lp74 {p:Pos} (hp:PosIn p) {c:Int} (h0:0≤c) (h1:c≤1) (l0:List Int) (hl0:l0.length≤100000) (C:List UInt8) (hC:List.map ub l0++pkR p (12 - 6 * c).toNat=C):∃ x,lp7_4 c (List.take 6 (List.drop (scale 6 c).toNat p.pockets)) p (0,l0)=some x∧(List.map ub x.2.2++pkR p (12 - 6 * (c+1)).toNat=C∧x.2.2.length≤l0.length+1600):=by
  refine lp_many (I:=fun x=>0≤x.1∧x.1≤6∧List.map ub x.2++pkR p (12 - (6 * c+x.1)).toNat=C∧x.2.length≤l0.length+256 * x.1.toNat) (μ:=fun x=>(6 - x.1).toNat) ?_ _ ⟨by simp,by simp,by simpa using hC,by simp⟩ (by simp)
  rintro ⟨k,l⟩ ⟨g0,g1,g2,g3⟩
  simp only at g0 g1 g2 g3
  unfold okL7_4 st7_4
  dsimp only
  by_cases hk:k < 6
  · have F:=pk_f p h0 h1 g0 (show k≤5 by omega)
    rw [F.step] at g2
    have hpk:=pk_in hp (6 * c+k).toNat
    have w1:wr .i64 (k+1)=k+1:=wi64 (by omega) (by omega)
    have w2:wr .u8 k=k:=wu8 (by omega) (by omega)
    have hg:(List.take 6 (List.drop (scale 6 c).toNat p.pockets)).getD k.toNat 0=p.pockets.getD (6 * c+k).toNat 0:=by
      rw [take_drop_getD _ _ _ _ _ (by omega),scale6,show (c * 6).toNat+k.toNat=(6 * c+k).toNat by omega]
    generalize p.pockets.getD (6 * c+k).toNat 0=v at hg hpk g2
    have w3:wr .i64 v=v:=wi64 (by omega) (by omega)
    have hrl:=rep_len F.len hpk.2
    have hor:okRep (N39 (N28 c k)) v=true:=by
      unfold okRep
      rw [decide_eq_true hpk.1,decide_eq_true (show v≤1073741824 by omega)]
      rw [Lib.repeatL_length,Nat.mul_comm] at hrl
      rw [decide_eq_true (show (N39 (N28 c k)).length * v.toNat≤lim from Nat.le_trans hrl (by decide))]
      rfl
    have d1:decide (k < 6)=true:=decide_eq_true hk
    have d2:decide (0≤k)=true:=decide_eq_true g0
    have d3:decide (k < Int.ofNat 6)=true:=decide_eq_true hk
    have b1:Nat.beq 1 1=true:=rfl
    have b2:Nat.ble 0 1=true:=rfl
    simp only [w1,w2,hg,w3,F.eq,F.ok,hor,d1,d2,d3,b1,b2,cond_true,Bool.true_and,Bool.and_true,beq_self_eq_true,List.length_map]
    refine ⟨decide_eq_true (by omega),⟨by dsimp only; omega,by dsimp only; omega,?_,?_⟩,by dsimp only; omega⟩
    · dsimp only
      rw [List.map_append,map_ub_uz,List.append_assoc]
      exact g2
    · simp only [List.length_append,List.length_map]
      omega
  · have h6:k=6:=by omega
    subst h6
    refine ⟨rfl,?_,by dsimp only; omega⟩
    dsimp only
    rw [show 12 - 6 * (c+1)=12 - (6 * c+6) by omega]
    exact g2
theorem lp75 {p:Pos} (hp:PosIn p) (l0:List Int) (hl0:l0.length≤5000):∃ x,lp7_5 p (0,l0)=some x∧(List.map ub x.2.2=List.map ub l0++pkR p 12∧x.2.2.length≤l0.length+3200):=by
  refine lp_many (I:=fun x=>0≤x.1∧x.1≤2∧List.map ub x.2++pkR p (12 - 6 * x.1).toNat=List.map ub l0++pkR p 12∧x.2.length≤l0.length+1600 * x.1.toNat) (μ:=fun x=>(2 - x.1).toNat) ?_ _ ⟨by simp,by simp,rfl,by simp⟩ (by simp)
  rintro ⟨c,l⟩ ⟨g0,g1,g2,g3⟩
  simp only at g0 g1 g2 g3
  unfold okL7_5 st7_5
  dsimp only
  by_cases hc:c≤1
  · obtain ⟨a1,a2,a3⟩:=of_some (lp74 hp g0 hc l (by omega) _ g2)
    have w1:wr .u8 (c+1)=c+1:=wu8 (by omega) (by omega)
    have d1:decide (c≤1)=true:=decide_eq_true hc
    have d2:decide (0≤c)=true:=decide_eq_true g0
    have d3:decide (c < Int.ofNat 2)=true:=decide_eq_true (by show c < (2:Int); omega)
    simp only [w1,a1,d1,d2,d3,cond_true,Bool.true_and,Bool.and_true]
    exact ⟨trivial,⟨by dsimp only; omega,by dsimp only; omega,a2,by dsimp only; omega⟩,by dsimp only; omega⟩
  · have h2:c=2:=by omega
    subst h2
    refine ⟨rfl,?_,by dsimp only; omega⟩
    dsimp only
    rw [← g2]
    simp [pkR]
theorem lp151 {p:Pos} (hp:PosIn p) {c k:Int} (h0:0≤c) (h1:c≤1) (h2:0≤k) (h3:k≤5) (s:List UInt8) (hs:s.length≤100000):∃ x,lp15_1 c k p (s,0)=some x∧x.1=s++Lib.repeatL (N39 (N28 c k)) (p.pockets.getD (6 * c+k).toNat 0).toNat:=by
  have F:=pk_f p h0 h1 h2 h3
  have hpk:=pk_in hp (6 * c+k).toNat
  have hi:p.pockets.getD (scale 6 c+scale 1 k).toNat 0=p.pockets.getD (6 * c+k).toNat 0:=by rw [scale6,scale1,show c * 6+k=6 * c+k by omega]
  generalize p.pockets.getD (6 * c+k).toNat 0=v at hi hpk ⊢
  have w3:wr .i64 v=v:=wi64 (by omega) (by omega)
  have w4:wr .u8 c=c:=wu8 (by omega) (by omega)
  have w5:wr .u8 k=k:=wu8 (by omega) (by omega)
  have o40:ok40 c k=true:=by
    unfold ok40
    rw [decide_eq_true h0,decide_eq_true (show c < 2 by omega),decide_eq_true h2,decide_eq_true (show k < 6 by omega)]
    rfl
  refine lp_many (I:=fun x=>0≤x.2∧x.2≤v∧x.1=s++Lib.repeatL (N39 (N28 c k)) x.2.toNat) (μ:=fun x=>(v - x.2).toNat) ?_ _ ⟨by simp,hpk.1,by simp [Lib.repeatL]⟩ (by simp; omega)
  rintro ⟨t,n⟩ ⟨g0,g1,g2⟩
  simp only at g0 g1 g2
  unfold okL15_1 st15_1
  dsimp only
  have d1:decide (0≤c)=true:=decide_eq_true h0
  have d2:decide (c < Int.ofNat 2)=true:=decide_eq_true (by show c < (2:Int); omega)
  have d3:decide (0≤k)=true:=decide_eq_true h2
  have d4:decide (k < Int.ofNat 6)=true:=decide_eq_true (by show k < (6:Int); omega)
  simp only [hi,w3,w4,w5,o40,d1,d2,d3,d4,Bool.true_and,Bool.and_true]
  by_cases hn:n < v
  · have w1:wr .i64 (n+1)=n+1:=wi64 (by omega) (by omega)
    have d5:decide (n < v)=true:=decide_eq_true hn
    have hrl:=rep_len F.len (n:=n) (by omega)
    have hfl:=F.len
    simp only [w1,d5,cond_true]
    refine ⟨decide_eq_true ?_,⟨by dsimp only; omega,by dsimp only; omega,?_⟩,by dsimp only; omega⟩
    · rw [g2,List.length_append]
      show _+(N39 (N28 c k)).length≤_
      omega
    · dsimp only
      rw [g2,show (n+1).toNat=n.toNat+1 by omega,rep_succ,List.append_assoc]
  · have d5:decide (n < v)=false:=decide_eq_false hn
    simp only [d5,cond_false]
    refine ⟨trivial,?_⟩
    show t=_
    rw [g2,show n=v by omega]
theorem lp152 {p:Pos} (hp:PosIn p) {c:Int} (h0:0≤c) (h1:c≤1) (s0:List UInt8) (hs0:s0.length≤50000) (C:List UInt8) (hC:s0++pkR p (12 - 6 * c).toNat=C):∃ x,lp15_2 c p (s0,0)=some x∧(x.1++pkR p (12 - 6 * (c+1)).toNat=C∧x.1.length≤s0.length+1600):=by
  refine lp_many (I:=fun x=>0≤x.2∧x.2≤6∧x.1++pkR p (12 - (6 * c+x.2)).toNat=C∧x.1.length≤s0.length+256 * x.2.toNat) (μ:=fun x=>(6 - x.2).toNat) ?_ _ ⟨by simp,by simp,by simpa using hC,by simp⟩ (by simp)
  rintro ⟨s,k⟩ ⟨g0,g1,g2,g3⟩
  simp only at g0 g1 g2 g3
  unfold okL15_2 st15_2
  dsimp only
  by_cases hk:k < 6
  · have F:=pk_f p h0 h1 g0 (show k≤5 by omega)
    rw [F.step] at g2
    have hpk:=pk_in hp (6 * c+k).toNat
    obtain ⟨a1,a2⟩:=of_some (lp151 hp h0 h1 g0 (show k≤5 by omega) s (by omega))
    have hrl:=rep_len F.len hpk.2
    have w1:wr .i64 (k+1)=k+1:=wi64 (by omega) (by omega)
    have d1:decide (k < 6)=true:=decide_eq_true hk
    simp only [w1,a1,a2,d1,cond_true,Bool.true_and,Bool.and_true]
    refine ⟨trivial,⟨by dsimp only; omega,by dsimp only; omega,?_,?_⟩,by dsimp only; omega⟩
    · dsimp only
      rw [List.append_assoc]
      exact g2
    · simp only [List.length_append]
      omega
  · have h6:k=6:=by omega
    subst h6
    refine ⟨rfl,?_,by dsimp only; omega⟩
    dsimp only
    rw [show 12 - 6 * (c+1)=12 - (6 * c+6) by omega]
    exact g2
theorem lp153 {p:Pos} (hp:PosIn p) (s0:List UInt8) (hs0:s0.length≤5000):∃ x,lp15_3 p (s0,0)=some x∧(x.1=s0++pkR p 12∧x.1.length≤s0.length+3200):=by
  refine lp_many (I:=fun x=>0≤x.2∧x.2≤2∧x.1++pkR p (12 - 6 * x.2).toNat=s0++pkR p 12∧x.1.length≤s0.length+1600 * x.2.toNat) (μ:=fun x=>(2 - x.2).toNat) ?_ _ ⟨by simp,by simp,rfl,by simp⟩ (by simp)
  rintro ⟨s,c⟩ ⟨g0,g1,g2,g3⟩
  simp only at g0 g1 g2 g3
  unfold okL15_3 st15_3
  dsimp only
  by_cases hc:c < 2
  · obtain ⟨a1,a2,a3⟩:=of_some (lp152 hp g0 (show c≤1 by omega) s (by omega) _ g2)
    have w1:wr .i64 (c+1)=c+1:=wi64 (by omega) (by omega)
    have d1:decide (c < 2)=true:=decide_eq_true hc
    simp only [w1,a1,d1,cond_true,Bool.true_and,Bool.and_true]
    exact ⟨trivial,⟨by dsimp only; omega,by dsimp only; omega,a2,by dsimp only; omega⟩,by dsimp only; omega⟩
  · have h2:c=2:=by omega
    subst h2
    refine ⟨rfl,?_,by dsimp only; omega⟩
    dsimp only
    rw [← g2]
    simp [pkR]
noncomputable def brdT (p:Pos):List UInt8:=bif N19 p.variant then bdS p 8++91::(pkR p 12++[93]) else bdS p 8
theorem N7_eq {p:Pos} (hp:PosIn p) (h19:ok19 p.variant=true):N7 p=brdT p∧ok7 p=true∧(brdT p).length≤5000:=by
  obtain ⟨a1,a2,a3⟩:=of_some (lp73 hp)
  have hbl:=bd_len hp 8
  unfold N7 ok7 brdT
  generalize (lp7_3 p (7,[])).getD default=y at a2 a3 ⊢
  obtain ⟨y1,y2,y3⟩:=y
  dsimp only at a2 a3 ⊢
  have hpos:0 < y3.length:=by
    have:(List.map ub y3).length=(bdS p 8).length:=by rw [a2]
    rw [List.length_map] at this
    have h1:bdS p 8=rowS p 7 8 0++([47]++bdS p 7):=rfl
    rw [this,h1]
    simp only [List.length_append,List.length_cons]
    omega
  have c1:Nat.beq 1 1=true:=rfl
  have c2:Nat.ble 0 1=true:=rfl
  have c3:Nat.ble 0 0=true:=rfl
  have d1:decide (0 < y3.length)=true:=decide_eq_true hpos
  have d2:decide (y3.length+1≤1073741824)=true:=decide_eq_true (by omega)
  cases h:N19 p.variant with
  | false =>
    refine ⟨a2,?_,by rw [cond_false]; omega⟩
    simp only [a1,h19,c1,c3,d1,Bool.not_false,cond_true,Bool.true_and,Bool.and_true,beq_self_eq_true]
  | true =>
    obtain ⟨b1,b2,b3⟩:=of_some (lp75 hp (y3++[91]) (by simp; omega))
    generalize (lp7_5 p (0,y3++[91])).getD default=z at b2 b3 ⊢
    obtain ⟨z1,z2,z3⟩:=z
    dsimp only at b2 b3 ⊢
    have m91:List.map ub [91]=[91]:=rfl
    have m93:List.map ub [93]=[93]:=rfl
    have hz:List.map ub (z3++[93])=bdS p 8++91::(pkR p 12++[93]):=by
      rw [List.map_append,b2,List.map_append,a2,m91,m93,List.append_assoc,List.append_assoc]
      rfl
    have hzl:z3.length≤4300:=by simp only [List.length_append,List.length_cons,List.length_nil] at b3; omega
    have d3:decide (z3.length+1≤1073741824)=true:=decide_eq_true (by omega)
    have d4:decide (0 < (z3++[93]).length)=true:=decide_eq_true (by simp)
    refine ⟨hz,?_,?_⟩
    · simp only [a1,b1,h19,c1,c2,c3,d2,d3,d4,Bool.not_true,cond_false,Bool.true_and,Bool.and_true,beq_self_eq_true]
    · rw [cond_true,← hz,List.length_map,List.length_append]
      simp only [List.length_cons,List.length_nil]
      omega
theorem N15_eq {p:Pos} (hp:PosIn p):N15 p=91::(pkR p 12++[93])∧ok15 p=true∧(N15 p).length≤3300:=by
  have hb:(ByteArray.mk #[91]).data.toList=([91]:List UInt8):=rfl
  have hb2:(ByteArray.mk #[93]).data.toList=([93]:List UInt8):=rfl
  obtain ⟨a1,a2,a3⟩:=of_some (lp153 hp [91] (by simp))
  unfold N15 ok15
  rw [hb,hb2,a1,a2]
  rw [a2] at a3
  simp only [List.length_append,List.length_cons,List.length_nil] at a3
  refine ⟨by simp,?_,by simp only [List.length_append,List.length_cons,List.length_nil]; omega⟩
  rw [decide_eq_true (by simp only [List.length_append,List.length_cons,List.length_nil]; omega)]
  rfl
def rkT (c d v:Int):List UInt8:=if v < 0 then [] else [UInt8.ofNat ((if d=0∧v=7 then 75 else if d=1∧v=0 then 81 else 65+v.toNat)+(if c=1 then 32 else 0))]
theorem rk_len (c d v:Int):(rkT c d v).length≤1:=by
  unfold rkT
  split <;> simp
theorem file_cases {v:Int} (h0 : -1≤v) (h1:v≤7):v = -1∨v=0∨v=1∨v=2∨v=3∨v=4∨v=5∨v=6∨v=7:=by omega
theorem st8_go (p:Pos) {c d v:Int} (hc:c=0∨c=1) (hd:d=0∨d=1) (h0 : -1≤v) (h1:v≤7) (l:List Int) (hl:l.getD d.toNat 0=v) (s:List UInt8) (hs:s.length≤1000):okL8_1 c l p (s,d)=true∧st8_1 c l p (s,d)=Stp.go (s++rkT c d v,d+1):=by
  have t0:decide (s.length+0≤1073741824)=true:=decide_eq_true (by omega)
  have t1:decide (s.length+1≤1073741824)=true:=decide_eq_true (by omega)
  unfold okL8_1 st8_1
  dsimp only
  rw [hl]
  clear hl
  rcases hc with rfl | rfl <;> rcases hd with rfl | rfl <;> rcases file_cases h0 h1 with rfl | rfl | rfl | rfl | rfl | rfl | rfl | rfl | rfl <;>
    (refine ⟨?_,by kernel_rfl⟩
     repeat' (first | with_reducible rfl | exact t0 | exact t1 | refine a_true ?_ (fun _ => ?_) | (refine c_true (fun _ => ?_) (fun _ => ?_)) | kernel_rfl))
theorem st16_go (p:Pos) {c d v:Int} (hc:c=0∨c=1) (hd:d=0∨d=1) (h0 : -1≤v) (h1:v≤7) (hl:p.rooks.getD (scale 2 c+scale 1 d).toNat 0=v) (s:List UInt8) (hs:s.length≤1000):okL16_1 c p (s,d)=true∧st16_1 c p (s,d)=Stp.go (s++rkT c d v,d+1):=by
  have t1:decide (s.length+1≤1073741824)=true:=decide_eq_true (by omega)
  have e0:s++[]=s:=List.append_nil s
  unfold okL16_1 st16_1
  dsimp only
  rw [hl]
  clear hl
  by_cases hm:v = -1
  · subst hm
    have e1:rkT c d (-1)=[]:=rfl
    rw [e1,e0]
    rcases hc with rfl | rfl <;> rcases hd with rfl | rfl <;>
      (refine ⟨?_,by kernel_rfl⟩
       repeat' (first | with_reducible rfl | exact t1 | refine a_true ?_ (fun _ => ?_) | (refine c_true (fun _ => ?_) (fun _ => ?_)) | kernel_rfl))
  · have hv:v=0∨v=1∨v=2∨v=3∨v=4∨v=5∨v=6∨v=7:=by omega
    clear hm h0 h1
    rcases hc with rfl | rfl <;> rcases hd with rfl | rfl <;> rcases hv with rfl | rfl | rfl | rfl | rfl | rfl | rfl | rfl <;>
      (refine ⟨?_,by kernel_rfl⟩
       repeat' (first | with_reducible rfl | exact t1 | refine a_true ?_ (fun _ => ?_) | (refine c_true (fun _ => ?_) (fun _ => ?_)) | kernel_rfl))
structure RkIn (p:Pos):Prop where
  lo:∀ i:Nat,-1≤p.rooks.getD i 0
  hi:∀ i:Nat,p.rooks.getD i 0≤7
noncomputable def rkC (p:Pos) (c:Int):List UInt8:=rkT c 0 (p.rooks.getD (2 * c).toNat 0)++rkT c 1 (p.rooks.getD (2 * c+1).toNat 0)
theorem rkC_len (p:Pos) (c:Int):(rkC p c).length≤2:=by
  unfold rkC
  have h1:=rk_len c 0 (p.rooks.getD (2 * c).toNat 0)
  have h2:=rk_len c 1 (p.rooks.getD (2 * c+1).toNat 0)
  rw [List.length_append]
  omega
theorem lp81 {p:Pos} (hr:RkIn p) {c:Int} (hc:c=0∨c=1) (s0:List UInt8) (hs:s0.length≤100):∃ x,lp8_1 c (List.take 2 (List.drop (scale 2 c).toNat p.rooks)) p (s0,0)=some x∧x.1=s0++rkC p c:=by
  have f0:(List.take 2 (List.drop (scale 2 c).toNat p.rooks)).getD (0:Int).toNat 0=p.rooks.getD (2 * c).toNat 0:=by
    rw [take_drop_getD _ _ _ _ _ (by decide),scale2,show (c * 2).toNat+(0:Int).toNat=(2 * c).toNat by rw [show c * 2=2 * c by omega]; rfl]
  have f1:(List.take 2 (List.drop (scale 2 c).toNat p.rooks)).getD (1:Int).toNat 0=p.rooks.getD (2 * c+1).toNat 0:=by
    rw [take_drop_getD _ _ _ _ _ (by decide),scale2]
    congr 1
    rcases hc with rfl | rfl <;> rfl
  have l0:=rk_len c 0 (p.rooks.getD (2 * c).toNat 0)
  have l1:=rk_len c 1 (p.rooks.getD (2 * c+1).toNat 0)
  refine lp_many (I:=fun x=>(x.2=0∧x.1=s0)∨(x.2=1∧x.1=s0++rkT c 0 (p.rooks.getD (2 * c).toNat 0))∨(x.2=2∧x.1=s0++rkC p c)) (μ:=fun x=>(2 - x.2).toNat) ?_ _ (.inl ⟨rfl,rfl⟩) (by simp)
  rintro ⟨s,d⟩ h
  simp only at h
  rcases h with ⟨rfl,rfl⟩ | ⟨rfl,rfl⟩ | ⟨rfl,rfl⟩
  · obtain ⟨a,b⟩:=st8_go p hc (.inl rfl) (hr.lo _) (hr.hi _) _ f0 s (by omega)
    rw [a,b]
    exact ⟨rfl,.inr (.inl ⟨rfl,rfl⟩),by simp⟩
  · obtain ⟨a,b⟩:=st8_go p hc (.inr rfl) (hr.lo _) (hr.hi _) _ f1 (s0++rkT c 0 (p.rooks.getD (2 * c).toNat 0)) (by rw [List.length_append]; omega)
    rw [a,b]
    exact ⟨rfl,.inr (.inr ⟨rfl,by unfold rkC; rw [List.append_assoc]⟩),by simp⟩
  · exact ⟨rfl,rfl⟩
theorem lp161 {p:Pos} (hr:RkIn p) {c:Int} (hc:c=0∨c=1) (s0:List UInt8) (hs:s0.length≤100):∃ x,lp16_1 c p (s0,0)=some x∧x.1=s0++rkC p c:=by
  have f0:p.rooks.getD (scale 2 c+scale 1 0).toNat 0=p.rooks.getD (2 * c).toNat 0:=by rw [scale2,scale1,show c * 2+0=2 * c by omega]
  have f1:p.rooks.getD (scale 2 c+scale 1 1).toNat 0=p.rooks.getD (2 * c+1).toNat 0:=by rw [scale2,scale1,show c * 2+1=2 * c+1 by omega]
  have l0:=rk_len c 0 (p.rooks.getD (2 * c).toNat 0)
  have l1:=rk_len c 1 (p.rooks.getD (2 * c+1).toNat 0)
  refine lp_many (I:=fun x=>(x.2=0∧x.1=s0)∨(x.2=1∧x.1=s0++rkT c 0 (p.rooks.getD (2 * c).toNat 0))∨(x.2=2∧x.1=s0++rkC p c)) (μ:=fun x=>(2 - x.2).toNat) ?_ _ (.inl ⟨rfl,rfl⟩) (by simp)
  rintro ⟨s,d⟩ h
  simp only at h
  rcases h with ⟨rfl,rfl⟩ | ⟨rfl,rfl⟩ | ⟨rfl,rfl⟩
  · obtain ⟨a,b⟩:=st16_go p hc (.inl rfl) (hr.lo _) (hr.hi _) f0 s (by omega)
    rw [a,b]
    exact ⟨rfl,.inr (.inl ⟨rfl,rfl⟩),by simp⟩
  · obtain ⟨a,b⟩:=st16_go p hc (.inr rfl) (hr.lo _) (hr.hi _) f1 (s0++rkT c 0 (p.rooks.getD (2 * c).toNat 0)) (by rw [List.length_append]; omega)
    rw [a,b]
    exact ⟨rfl,.inr (.inr ⟨rfl,by unfold rkC; rw [List.append_assoc]⟩),by simp⟩
  · exact ⟨rfl,rfl⟩
noncomputable def rkA (p:Pos):List UInt8:=rkC p 0++rkC p 1
theorem rkA_len (p:Pos):(rkA p).length≤4:=by
  unfold rkA
  have h1:=rkC_len p 0
  have h2:=rkC_len p 1
  rw [List.length_append]
  omega
theorem lp82 {p:Pos} (hr:RkIn p):∃ x,lp8_2 p ([],0)=some x∧x.1=rkA p:=by
  have l0:=rkC_len p 0
  refine lp_many (I:=fun x=>(x.2=0∧x.1=[])∨(x.2=1∧x.1=rkC p 0)∨(x.2=2∧x.1=rkA p)) (μ:=fun x=>(2 - x.2).toNat) ?_ _ (.inl ⟨rfl,rfl⟩) (by simp)
  rintro ⟨s,c⟩ h
  simp only at h
  unfold okL8_2 st8_2
  dsimp only
  rcases h with ⟨rfl,rfl⟩ | ⟨rfl,rfl⟩ | ⟨rfl,rfl⟩
  · obtain ⟨a,b⟩:=of_some (lp81 hr (c:=0) (.inl rfl) [] (by simp))
    rw [a,b]
    exact ⟨rfl,.inr (.inl ⟨rfl,rfl⟩),by simp [wu8]⟩
  · obtain ⟨a,b⟩:=of_some (lp81 hr (c:=1) (.inr rfl) (rkC p 0) (by omega))
    rw [a,b]
    exact ⟨rfl,.inr (.inr ⟨rfl,rfl⟩),by simp [wu8]⟩
  · exact ⟨rfl,rfl⟩
theorem lp162 {p:Pos} (hr:RkIn p):∃ x,lp16_2 p ([],0)=some x∧x.1=rkA p:=by
  have l0:=rkC_len p 0
  refine lp_many (I:=fun x=>(x.2=0∧x.1=[])∨(x.2=1∧x.1=rkC p 0)∨(x.2=2∧x.1=rkA p)) (μ:=fun x=>(2 - x.2).toNat) ?_ _ (.inl ⟨rfl,rfl⟩) (by simp)
  rintro ⟨s,c⟩ h
  simp only at h
  unfold okL16_2 st16_2
  dsimp only
  rcases h with ⟨rfl,rfl⟩ | ⟨rfl,rfl⟩ | ⟨rfl,rfl⟩
  · obtain ⟨a,b⟩:=of_some (lp161 hr (c:=0) (.inl rfl) [] (by simp))
    rw [a,b]
    exact ⟨rfl,.inr (.inl ⟨rfl,rfl⟩),by simp [wi64]⟩
  · obtain ⟨a,b⟩:=of_some (lp161 hr (c:=1) (.inr rfl) (rkC p 0) (by omega))
    rw [a,b]
    exact ⟨rfl,.inr (.inr ⟨rfl,rfl⟩),by simp [wi64]⟩
  · exact ⟨rfl,rfl⟩
theorem rooks_eq {p:Pos} (hr:RkIn p):N8 p=N9 (rkA p)∧ok8 p=true∧N16 p=N9 (rkA p)∧ok16 p=true∧(N9 (rkA p)).length≤4:=by
  have hb:(ByteArray.mk #[]).data.toList=([]:List UInt8):=rfl
  obtain ⟨a1,a2⟩:=of_some (lp82 hr)
  obtain ⟨b1,b2⟩:=of_some (lp162 hr)
  unfold N8 ok8 N16 ok16
  rw [hb,a1,a2,b1,b2]
  refine ⟨rfl,rfl,rfl,rfl,?_⟩
  have:=rkA_len p
  unfold N9
  cases (rkA p==(ByteArray.mk #[]).data.toList)
  · rw [cond_false]; exact this
  · rw [cond_true]; decide
theorem bit_eq (a:BitVec 64) (t:Nat):bitAt a t=a.toNat.testBit t:=by
  unfold bitAt
  rw [← mod2,Nat.testBit_eq_decide_div_mod_eq]
  have h:(a >>> t % 2#64).toNat=a.toNat / 2 ^ t % 2:=by
    rw [BitVec.toNat_umod,BitVec.toNat_ushiftRight,Nat.shiftRight_eq_div_pow]
    rfl
  by_cases hc:a.toNat / 2 ^ t % 2=1
  · rw [decide_eq_true hc]
    have:a >>> t % 2#64=1#64:=by
      apply BitVec.eq_of_toNat_eq
      rw [h,hc]
      rfl
    rw [this]
    rfl
  · rw [decide_eq_false hc]
    have:a >>> t % 2#64≠1#64:=fun e=>hc (by rw [← h,e]; rfl)
    simpa using this
theorem lp95 {s:Int} (h0:0≤s) (h1:s≤63):∃ r,lp95_1 s (1#64,0)=some r∧r.1.toNat=2 ^ s.toNat:=by
  refine lp_many (I:=fun x=>0≤x.2∧x.2≤s∧x.1.toNat=2 ^ x.2.toNat) (μ:=fun x=>(s - x.2).toNat) ?_ _ ⟨by simp,h0,rfl⟩ (by simp; omega)
  rintro ⟨b,n⟩ ⟨g0,g1,g2⟩
  simp only at g0 g1 g2
  unfold okL95_1 st95_1
  dsimp only
  by_cases hc:n < s
  · have hw:wr .i64 (n+1)=n+1:=wi64 (by omega) (by omega)
    rw [decide_eq_true hc,hw,cond_true]
    refine ⟨rfl,⟨by dsimp only; omega,by dsimp only; omega,?_⟩,by dsimp only; omega⟩
    dsimp only
    have e:(n+1).toNat=n.toNat+1:=by omega
    have hlt:2 ^ (n.toNat+1) < 2 ^ 64:=Nat.pow_lt_pow_right (by decide) (by omega)
    rw [BitVec.toNat_mul,g2,e,Nat.pow_succ]
    show 2 ^ n.toNat * 2 % 2 ^ 64=_
    rw [Nat.pow_succ] at hlt
    exact Nat.mod_eq_of_lt hlt
  · rw [decide_eq_false hc,cond_false]
    refine ⟨rfl,?_⟩
    show b.toNat=_
    rw [g2,show n=s by omega]
theorem N95_eq {s:Int} (h0:0≤s) (h1:s≤63):(N95 s).toNat=2 ^ s.toNat∧ok95 s=true:=by
  obtain ⟨a,b⟩:=of_some (lp95 h0 h1)
  unfold N95 ok95
  rw [decide_eq_false (show ¬ s < 0 by omega),decide_eq_false (show ¬ s > 63 by omega)]
  simp only [cond_false,a,b,Bool.true_and,and_self]
theorem put_top {b:BitVec 64} {s:Int} (h0:0≤s) (h1:s≤63) (hb:b.toNat < 2 ^ s.toNat):ok89 b s=true∧(N89 b s).toNat < 2 ^ (s.toNat+1)∧(N89 b s).toNat.testBit s.toNat=true∧∀ t:Nat,t < s.toNat→(N89 b s).toNat.testBit t=b.toNat.testBit t:=by
  have h37:=N37_eq b h0 h1
  have hf:bitAt b s.toNat=false:=by rw [bit_eq]; exact Nat.testBit_lt_two_pow hb
  have h95:=N95_eq h0 h1
  have hlt:2 ^ (s.toNat+1)≤2 ^ 64:=Nat.pow_le_pow_right (by decide) (by omega)
  have e:(N89 b s).toNat=2 ^ s.toNat+b.toNat:=by
    unfold N89
    rw [h37.1,hf,cond_false,BitVec.toNat_add,h95.1]
    rw [Nat.pow_succ] at hlt
    rw [Nat.mod_eq_of_lt (by omega),Nat.add_comm]
  rw [e]
  refine ⟨?_,by rw [Nat.pow_succ]; omega,?_,fun t ht => ?_⟩
  · unfold ok89
    rw [h37.1,h37.2,hf,h95.2]
    rfl
  · rw [Nat.testBit_two_pow_add_eq,Nat.testBit_lt_two_pow hb]
    rfl
  · exact Nat.testBit_two_pow_add_gt ht _
theorem tabK:(List.range 512).all (fun n=>((bif !N36 ((n / 2:Nat):Int) then (0:Int) else ((n / 2:Nat):Int)) != 0&&N87 (bif !N36 ((n / 2:Nat):Int) then (0:Int) else ((n / 2:Nat):Int))==((n % 2:Nat):Int)&&N88 (bif !N36 ((n / 2:Nat):Int) then (0:Int) else ((n / 2:Nat):Int))==6)==(((n / 2:Nat):Int)==8 * ((n % 2:Nat):Int)+6))=true:=by kernel_rfl
theorem at86 {p:Pos} {s:Int} (h0:0≤s) (h1:s≤63):N86 p s=(bif !N36 (atS p s) then 0 else atS p s)∧ok86 p s=true:=by
  unfold N86 ok86
  rw [decide_eq_false (show ¬ s < 0 by omega),decide_eq_false (show ¬ s > 63 by omega),decide_eq_true h0,decide_eq_true (show s < Int.ofNat 64 by show s < (64:Int); omega)]
  simp only [cond_false,scale1,Bool.true_and]
  refine ⟨rfl,a_true rfl fun _=>c_true (fun _=>rfl) fun _=>rfl⟩
theorem isKing {p:Pos} (hp:PosIn p) {c s:Int} (hc:c=0∨c=1) (h0:0≤s) (h1:s≤63):(N86 p s != 0&&N87 (N86 p s)==c&&N88 (N86 p s)==6)=(atS p s==8 * c+6):=by
  have hv:=at_in hp s
  have h:=List.all_eq_true.1 tabK _ (List.mem_range.2 (show (2 * atS p s+c).toNat < 512 by rcases hc with rfl | rfl <;> omega))
  have e1:(((2 * atS p s+c).toNat / 2:Nat):Int)=atS p s:=by rcases hc with rfl | rfl <;> omega
  have e2:(((2 * atS p s+c).toNat % 2:Nat):Int)=c:=by rcases hc with rfl | rfl <;> omega
  rw [e1,e2,← (at86 (p:=p) h0 h1).1] at h
  exact eq_of_beq h
theorem lp77 {p:Pos} (hp:PosIn p) {c:Int} (hc:c=0∨c=1):∃ r,lp77_1 c 6 p (0#64,0)=some r∧∀ t:Nat,t < 64→r.1.toNat.testBit t=(atS p t==8 * c+6):=by
  refine lp_many (I:=fun x=>0≤x.2∧x.2≤64∧x.1.toNat < 2 ^ x.2.toNat∧∀ t:Nat,(t:Int) < x.2→x.1.toNat.testBit t=(atS p t==8 * c+6)) (μ:=fun x=>(64 - x.2).toNat) ?_ _ ⟨by simp,by simp,by decide,fun t ht=>absurd ht (by simp)⟩ (by simp)
  rintro ⟨b,s⟩ ⟨g0,g1,g2,g3⟩
  simp only at g0 g1 g2 g3
  unfold okL77_1 st77_1
  dsimp only
  by_cases hs:s < 64
  · have hk:=isKing hp hc g0 (show s≤63 by omega)
    have h86:=(at86 (p:=p) g0 (show s≤63 by omega)).2
    obtain ⟨k1,k2,k3,k4⟩:=put_top g0 (show s≤63 by omega) g2
    have w1:wr .i64 (s+1)=s+1:=wi64 (by omega) (by omega)
    have d1:decide (s < 64)=true:=decide_eq_true hs
    have o87:∀ y,ok87 y=true:=fun _=>rfl
    have o88:∀ y,ok88 y=true:=fun _=>rfl
    have e6:((6:Int)==0)=false:=rfl
    have ecs:((s.toNat:Nat):Int)=s:=by omega
    have es:(s+1).toNat=s.toNat+1:=by omega
    simp only [h86,w1,d1,o87,o88,e6,k1,cond_true,cond_false,Bool.true_and,Bool.and_true]
    have yes:(atS p s==8 * c+6)=true→Nxt (fun x:BitVec 64×Int=>0≤x.2∧x.2≤64∧x.1.toNat < 2 ^ x.2.toNat∧∀ t:Nat,(t:Int) < x.2→x.1.toNat.testBit t=(atS p t==8 * c+6)) (fun r:BitVec 64×Int×Bool => ∀ t:Nat,t < 64→r.1.toNat.testBit t=(atS p t==8 * c+6)) (fun x=>(64 - x.2).toNat) (64 - s).toNat (Stp.go (N89 b s,s+1)):=by
      intro hy
      refine ⟨⟨by dsimp only; omega,by dsimp only; omega,by dsimp only; rw [es]; exact k2,fun t ht => ?_⟩,by dsimp only; omega⟩
      dsimp only at ht ⊢
      by_cases hts:t=s.toNat
      · subst hts
        rw [k3,ecs,hy]
      · rw [k4 t (by omega)]
        exact g3 t (by omega)
    have no:(atS p s==8 * c+6)=false→Nxt (fun x:BitVec 64×Int=>0≤x.2∧x.2≤64∧x.1.toNat < 2 ^ x.2.toNat∧∀ t:Nat,(t:Int) < x.2→x.1.toNat.testBit t=(atS p t==8 * c+6)) (fun r:BitVec 64×Int×Bool => ∀ t:Nat,t < 64→r.1.toNat.testBit t=(atS p t==8 * c+6)) (fun x=>(64 - x.2).toNat) (64 - s).toNat (Stp.go (b,s+1)):=by
      intro hy
      refine ⟨⟨by dsimp only; omega,by dsimp only; omega,by dsimp only; rw [es,Nat.pow_succ]; omega,fun t ht => ?_⟩,by dsimp only; omega⟩
      dsimp only at ht ⊢
      by_cases hts:t=s.toNat
      · subst hts
        rw [ecs,hy]
        exact Nat.testBit_lt_two_pow g2
      · exact g3 t (by omega)
    rw [← hk] at yes no
    cases t1:(N86 p s != 0) <;> cases t2:(N87 (N86 p s)==c) <;> cases t3:(N88 (N86 p s)==6) <;> rw [t1,t2,t3] at yes no <;> simp only [cond_true,cond_false,Bool.cond_self]
    all_goals first | exact ⟨trivial,yes rfl⟩ | exact ⟨trivial,no rfl⟩
  · have h64:s=64:=by omega
    subst h64
    exact ⟨rfl,fun t ht=>g3 t (by omega)⟩
theorem lp76 (a:BitVec 64):∃ r,lp76_1 a 0 ([],0)=some r∧((r.1=[]∧∀ t:Nat,t < 64→a.toNat.testBit t=false)∨∃ (x:Nat) (l:List Int),r.1=(x:Int)::l∧x < 64∧a.toNat.testBit x=true∧∀ t:Nat,t < x→a.toNat.testBit t=false):=by
  refine lp_many (I:=fun x=>0≤x.2∧x.2≤64∧x.1.length≤x.2.toNat∧((x.1=[]∧∀ t:Nat,(t:Int) < x.2→a.toNat.testBit t=false)∨∃ (y:Nat) (l:List Int),x.1=(y:Int)::l∧y < 64∧a.toNat.testBit y=true∧∀ t:Nat,t < y→a.toNat.testBit t=false)) (μ:=fun x=>(64 - x.2).toNat) ?_ _ ⟨by simp,by simp,by simp,.inl ⟨rfl,fun t ht=>absurd ht (by simp)⟩⟩ (by simp)
  rintro ⟨l,s⟩ ⟨g0,g1,g2,g3⟩
  simp only at g0 g1 g2 g3
  unfold okL76_1 st76_1
  dsimp only
  by_cases hs:s < 64
  · have h37:=N37_eq a g0 (show s≤63 by omega)
    have w1:wr .i64 (s+1)=s+1:=wi64 (by omega) (by omega)
    have d1:decide (s < 64)=true:=decide_eq_true hs
    have d2:decide (l.length+1≤1073741824)=true:=decide_eq_true (by omega)
    have ecs:((s.toNat:Nat):Int)=s:=by omega
    simp only [h37.1,h37.2,bit_eq,w1,d1,d2,cond_true,Bool.true_and,Bool.and_true,beq_self_eq_true]
    cases hb:a.toNat.testBit s.toNat with
    | true =>
      simp only [cond_true]
      refine ⟨trivial,⟨by dsimp only; omega,by dsimp only; omega,by simp only [List.length_append,List.length_cons,List.length_nil]; omega,.inr ?_⟩,by dsimp only; omega⟩
      rcases g3 with ⟨rfl,h⟩ | ⟨y,l',rfl,h⟩
      · exact ⟨s.toNat,[],by rw [ecs]; rfl,by omega,hb,fun t ht=>h t (by omega)⟩
      · exact ⟨y,l'++[s],rfl,h⟩
    | false =>
      simp only [cond_false]
      refine ⟨trivial,⟨by dsimp only; omega,by dsimp only; omega,by dsimp only; omega,?_⟩,by dsimp only; omega⟩
      rcases g3 with ⟨rfl,h⟩ | h
      · refine .inl ⟨rfl,fun t ht => ?_⟩
        dsimp only at ht
        by_cases hts:t=s.toNat
        · subst hts; exact hb
        · exact h t (by omega)
      · exact .inr h
  · have h64:s=64:=by omega
    subst h64
    refine ⟨rfl,?_⟩
    rcases g3 with ⟨h,h2⟩ | h
    · exact .inl ⟨h,fun t ht=>h2 t (by omega)⟩
    · exact .inr h
def Least (p:Pos) (v x:Int):Prop:=(x = -1∧∀ t:Nat,t < 64→atS p t≠v)∨(0≤x∧x≤63∧atS p x=v∧∀ t:Nat,(t:Int) < x→atS p t≠v)
theorem least_uniq {p:Pos} {v x y:Int} (h:Least p v x) (g:Least p v y):x=y:=by
  rcases h with ⟨rfl,h1⟩ | ⟨h0,h1,h2,h3⟩ <;> rcases g with ⟨rfl,g1⟩ | ⟨g0,g1,g2,g3⟩
  · rfl
  · exact absurd (by rw [show ((y.toNat:Nat):Int)=y by omega]; exact g2) (h1 y.toNat (by omega))
  · exact absurd (by rw [show ((x.toNat:Nat):Int)=x by omega]; exact h2) (g1 x.toNat (by omega))
  · rcases Int.lt_trichotomy x y with h | h | h
    · exact absurd (by rw [show ((x.toNat:Nat):Int)=x by omega]; exact h2) (g3 x.toNat (by omega))
    · exact h
    · exact absurd (by rw [show ((y.toNat:Nat):Int)=y by omega]; exact g2) (h3 y.toNat (by omega))
theorem N58_least {p:Pos} (hp:PosIn p) {c:Int} (hc:c=0∨c=1):Least p (8 * c+6) (N58 p c 6)∧ok58 p c 6=true:=by
  obtain ⟨a1,a2⟩:=of_some (lp77 hp hc)
  obtain ⟨b1,b2⟩:=of_some (lp76 (N77 p c 6))
  have e77:ok77 p c 6=true:=by unfold ok77; rw [a1]; rfl
  have e76:ok76 (N77 p c 6)=true:=by unfold ok76; rw [b1]; rfl
  have n76:N76 (N77 p c 6)=((lp76_1 (N77 p c 6) 0 ([],0)).getD default).fst:=rfl
  have hbit:∀ t:Nat,t < 64→(N77 p c 6).toNat.testBit t=(atS p t==8 * c+6):=a2
  unfold N58 ok58
  rw [e77,e76]
  rw [← n76] at b2
  rcases b2 with ⟨h,h2⟩ | ⟨x,l,h,h1,h2,h3⟩
  · rw [h]
    refine ⟨.inl ⟨rfl,fun t ht e => ?_⟩,rfl⟩
    have:=h2 t ht
    rw [hbit t ht,e] at this
    simp at this
  · rw [h]
    have hl:(Int.ofNat ((x:Int)::l).length==0)=false:=by
      simp
      omega
    rw [hl,cond_false,cond_false]
    refine ⟨.inr ⟨by show 0≤(x:Int); omega,by show (x:Int)≤63; omega,?_,fun t ht e => ?_⟩,?_⟩
    · show atS p x=_
      rw [hbit x h1] at h2
      exact eq_of_beq h2
    · have ht':(t:Int) < (x:Int):=ht
      have:=h3 t (by omega)
      rw [hbit t (by omega),e] at this
      simp at this
    · have:decide (0 < Int.ofNat ((x:Int)::l).length)=true:=decide_eq_true (by simp)
      rw [this]
      rfl
theorem lp61 {p:Pos} (hp:PosIn p) (v:Int):∃ r,lp61_1 p.board v (Int.ofNat p.board.length) 0=some r∧Least p v (bif isL r then gl r else -1):=by
  have hbl:=hp.bl
  refine lp_many (I:=fun x=>0≤x∧x≤64∧∀ t:Nat,(t:Int) < x→atS p t≠v) (μ:=fun x=>(64 - x).toNat) ?_ _ ⟨by simp,by simp,fun t ht=>absurd ht (by simp)⟩ (by simp)
  rintro x ⟨g0,g1,g2⟩
  unfold okL61_1 st61_1
  rw [hbl]
  have e:p.board.getD x.toNat default=atS p x:=rfl
  rw [e]
  by_cases hx:x < 64
  · have d1:decide (x < Int.ofNat 64)=true:=decide_eq_true hx
    have d2:decide (0≤x)=true:=decide_eq_true g0
    have w1:wr .i64 (x+1)=x+1:=wi64 (by omega) (by omega)
    rw [d1,d2,w1,cond_true,cond_true]
    refine ⟨rfl,?_⟩
    cases hv:(v==atS p x) with
    | true =>
      rw [cond_true]
      exact .inr ⟨g0,by show x≤63; omega,(eq_of_beq hv).symm,g2⟩
    | false =>
      rw [cond_false]
      refine ⟨⟨by omega,by omega,fun t ht => ?_⟩,by dsimp only; omega⟩
      by_cases hts:(t:Int)=x
      · rw [hts]
        intro e2
        rw [e2] at hv
        simp at hv
      · exact g2 t (by omega)
  · have h64:x=64:=by omega
    subst h64
    exact ⟨rfl,.inl ⟨rfl,fun t ht=>g2 t (by omega)⟩⟩
theorem N44_least {p:Pos} (hp:PosIn p) {c:Int} (hc:c=0∨c=1):Least p (8 * c+6) (N44 p c)∧ok44 p c=true:=by
  have e:N28 c 6=8 * c+6:=by rcases hc with rfl | rfl <;> rfl
  obtain ⟨a,b⟩:=of_some (lp61 hp (8 * c+6))
  have e28:ok28 c 6=true:=rfl
  have e61:ok61 p.board (8 * c+6)=true:=by
    unfold ok61
    rw [a,Bool.cond_self]
    rfl
  unfold N44 ok44
  rw [e,e28,e61]
  exact ⟨b,rfl⟩
theorem tab33:(List.range 64).all (fun n=>(N33 (n:Int)==N42 (n:Int))&&(N32 (n:Int)==N41 (n:Int))&&ok33 (n:Int)&&ok32 (n:Int)&&ok42 (n:Int)&&ok41 (n:Int))=true:=by kernel_rfl
theorem side_eq {p:Pos} (hp:PosIn p) {c d f:Int} (hc:c=0∨c=1) (hd:d=0∨d=1) (h0:0≤f) (h1:f≤7):ok21 p c f=true∧ok38 p c d f=true∧(bif (N21 p c f).2 then (N21 p c f).1==d else false)=N38 p c d f:=by
  obtain ⟨a1,a2⟩:=N44_least hp hc
  obtain ⟨b1,b2⟩:=N58_least hp hc
  have ek:N58 p c 6=N44 p c:=least_uniq b1 a1
  have o45:ok45 c=true:=rfl
  have e45:N45 c=wr .i64 (7 * wr .i64 c):=rfl
  unfold ok21 ok38 N21 N38
  rw [ek,a2,b2,o45,e45,decide_eq_false (show ¬ f < 0 by omega),decide_eq_false (show ¬ f > 7 by omega)]
  generalize N44 p c=k at a1
  simp only [cond_false,Bool.true_and]
  by_cases hk:k < 0
  · rw [decide_eq_true hk]
    exact ⟨rfl,rfl,rfl⟩
  · have h63:k≤63:=by
      rcases a1 with ⟨h,_⟩ | ⟨_,h,_⟩ <;> omega
    have ht:=tab_at tab33 (show 0≤k by omega) (show k < ((64:Nat):Int) by show k < (64:Int); omega)
    rw [show ((k.toNat:Nat):Int)=k by omega] at ht
    simp only [Bool.and_eq_true,beq_iff_eq] at ht
    obtain ⟨⟨⟨⟨⟨t1,t2⟩,t3⟩,t4⟩,t5⟩,t6⟩:=ht
    rw [decide_eq_false hk,t1,t2,t3,t4,t5,t6]
    simp only [cond_false,Bool.true_and]
    generalize wr .i64 (7 * wr .i64 c)=h
    generalize N42 k=r
    generalize N41 k=q
    cases hr:(r != h) with
    | true=>exact ⟨rfl,rfl,rfl⟩
    | false =>
      simp only [cond_false,Bool.cond_self,Bool.and_true,true_and]
      rcases hd with rfl | rfl
      · by_cases hq:f=q
        · subst hq
          simp
        · have:(f==q)=false:=by simpa using hq
          rw [this,cond_false]
          by_cases hg:f > q
          · rw [decide_eq_true hg]
            rfl
          · rw [decide_eq_false hg]
            rfl
      · by_cases hq:f=q
        · subst hq
          simp
        · have:(f==q)=false:=by simpa using hq
          rw [this,cond_false]
          by_cases hg:f > q
          · rw [decide_eq_true hg,decide_eq_false (show ¬ q > f by omega)]
            rfl
          · rw [decide_eq_false hg,decide_eq_true (show q > f by omega)]
            rfl
theorem ok21_t {p:Pos} (hp:PosIn p) {c:Int} (hc:c=0∨c=1) (f:Int):ok21 p c f=true:=by
  obtain ⟨a1,a2⟩:=N44_least hp hc
  unfold ok21
  rw [a2]
  refine a_true rfl fun _=>c_true (fun _=>rfl) fun hk => ?_
  have hk:=of_decide_eq_false hk
  generalize N44 p c=k at a1 hk
  have h63:k≤63:=by
    rcases a1 with ⟨h,_⟩ | ⟨_,h,_⟩ <;> omega
  have ht:=tab_at tab33 (show 0≤k by omega) (show k < ((64:Nat):Int) by show k < (64:Int); omega)
  rw [show ((k.toNat:Nat):Int)=k by omega] at ht
  simp only [Bool.and_eq_true] at ht
  obtain ⟨⟨⟨⟨⟨_,_⟩,t3⟩,t4⟩,_⟩,_⟩:=ht
  rw [t3,t4]
  exact a_true rfl fun _=>a_true rfl fun _=>c_true (fun _=>rfl) fun _=>a_true rfl fun _=>c_true (fun _=>rfl) fun _=>a_true rfl fun _=>rfl
theorem ok38_t {p:Pos} (hp:PosIn p) {c:Int} (hc:c=0∨c=1) (d f:Int):ok38 p c d f=true:=by
  obtain ⟨a1,a2⟩:=N58_least hp hc
  unfold ok38
  rw [a2]
  refine a_true rfl fun _=>c_true (fun _=>rfl) fun _=>c_true (fun _=>rfl) fun _=>c_true (fun _=>rfl) fun hk => ?_
  have hk:=of_decide_eq_false hk
  generalize N58 p c 6=k at a1 hk
  have h63:k≤63:=by
    rcases a1 with ⟨h,_⟩ | ⟨_,h,_⟩ <;> omega
  have ht:=tab_at tab33 (show 0≤k by omega) (show k < ((64:Nat):Int) by show k < (64:Int); omega)
  rw [show ((k.toNat:Nat):Int)=k by omega] at ht
  simp only [Bool.and_eq_true] at ht
  obtain ⟨⟨⟨⟨⟨_,_⟩,_⟩,_⟩,t5⟩,t6⟩:=ht
  rw [t5,t6]
  exact a_true rfl fun _=>c_true (fun _=>rfl) fun _=>c_true (fun _=>rfl) fun _=>rfl
theorem N38_range {p:Pos} {c d f:Int} (h:N38 p c d f=true):0≤f∧f≤7:=by
  unfold N38 at h
  by_cases h0:f < 0
  · rw [decide_eq_true h0,cond_true] at h; cases h
  · by_cases h7:f > 7
    · rw [decide_eq_false h0,cond_false,decide_eq_true h7,cond_true] at h; cases h
    · omega
def SqP (p:Pos) (s:Nat):Prop:=if atS p s=0 then bitAt p.promoted s=false else N36 (atS p s)=true
theorem bit0 (a:BitVec 64) (s:Nat):(a >>> s&&&1#64==0#64)=!bitAt a s:=by
  unfold bitAt
  have hm:a >>> s&&&1#64=a >>> s % 2#64:=by
    apply BitVec.eq_of_toNat_eq
    simp [BitVec.toNat_umod,Nat.and_one_is_mod]
  rw [hm]
  have h2:(a >>> s % 2#64).toNat < 2:=by
    rw [BitVec.toNat_umod]
    exact Nat.mod_lt _ (by decide)
  generalize a >>> s % 2#64=y at h2
  have:y=0#64∨y=1#64:=by
    have h01:y.toNat=0∨y.toNat=1:=by omega
    rcases h01 with h | h
    · exact .inl (BitVec.eq_of_toNat_eq h)
    · exact .inr (BitVec.eq_of_toNat_eq h)
  rcases this with rfl | rfl <;> rfl
theorem lp61w {p:Pos} (hp:PosIn p) (b:Bool):∃ r,lp6_1 p.board p (b,0)=some r∧(r.1=true ↔ b=true∧∀ s:Nat,s < 64→SqP p s):=by
  refine lp_many (I:=fun x=>0≤x.2∧x.2≤64∧(x.1=true ↔ b=true∧∀ s:Nat,(s:Int) < x.2→SqP p s)) (μ:=fun x=>(64 - x.2).toNat) ?_ _ ⟨by simp,by simp,⟨fun h=>⟨h,fun t ht=>absurd ht (by dsimp only; omega)⟩,fun h=>h.1⟩⟩ (by simp)
  rintro ⟨o,s⟩ ⟨g0,g1,g2⟩
  simp only at g0 g1 g2
  unfold okL6_1 st6_1
  dsimp only
  by_cases hs:s < 64
  · have hv:=at_in hp s
    have hl:=letters hv.1 hv.2
    have w1:wr .i64 (s+1)=s+1:=wi64 (by omega) (by omega)
    have d1:decide (s < 64)=true:=decide_eq_true hs
    have d2:decide (0≤s)=true:=decide_eq_true g0
    have d3:decide (s < Int.ofNat 64)=true:=decide_eq_true hs
    have e20:N20 (p.board.getD s.toNat 0)=N36 (atS p s):=hl.2.2.2
    have e0:p.board.getD s.toNat 0=atS p s:=rfl
    have ecs:((s.toNat:Nat):Int)=s:=by omega
    rw [e20,bit0,w1,d1,d2,d3,e0]
    simp only [cond_true,Bool.true_and,Bool.and_true,Bool.cond_self,true_and]
    have key:∀ o':Bool,(o'=true ↔ o=true∧SqP p s.toNat)→Nxt (fun x:Bool×Int=>0≤x.2∧x.2≤64∧(x.1=true ↔ b=true∧∀ s:Nat,(s:Int) < x.2→SqP p s)) (fun r:Bool×Int×Bool=>(r.1=true ↔ b=true∧∀ s:Nat,s < 64→SqP p s)) (fun x=>(64 - x.2).toNat) (64 - s).toNat (Stp.go (o',s+1)):=by
      intro o' ho
      refine ⟨⟨by dsimp only; omega,by dsimp only; omega,?_⟩,by dsimp only; omega⟩
      dsimp only
      rw [ho,g2]
      constructor
      · rintro ⟨⟨h1,h2⟩,h3⟩
        refine ⟨h1,fun t ht => ?_⟩
        by_cases hts:t=s.toNat
        · rw [hts]; exact h3
        · exact h2 t (by omega)
      · rintro ⟨h1,h2⟩
        exact ⟨⟨h1,fun t ht=>h2 t (by omega)⟩,h2 _ (by omega)⟩
    have n0:N36 0=false:=rfl
    cases ho:o with
    | false =>
      rw [ho] at key
      simp only [cond_false]
      exact key false (by simp)
    | true =>
      rw [ho] at key
      simp only [cond_true]
      by_cases hz:atS p s=0
      · have hb:(atS p s==0)=true:=by rw [hz]; rfl
        rw [hb,cond_true]
        have hsq:SqP p s.toNat ↔ bitAt p.promoted s.toNat=false:=by unfold SqP; rw [ecs,if_pos hz]
        cases hbt:bitAt p.promoted s.toNat with
        | false=>exact key true (by rw [hsq,hbt]; simp)
        | true =>
          rw [hz,n0]
          exact key false (by rw [hsq,hbt]; simp)
      · have hb:(atS p s==0)=false:=by simpa using hz
        rw [hb,cond_false]
        exact key _ (by unfold SqP; rw [ecs,if_neg hz]; simp)
  · have h64:s=64:=by omega
    subst h64
    refine ⟨rfl,?_⟩
    show o=true ↔ _
    rw [g2]
    exact and_congr Iff.rfl ⟨fun h t ht=>h t (by omega),fun h t ht=>h t (by omega)⟩
def RkP (p:Pos) (c d:Int):Prop:=p.rooks.getD (2 * c+d).toNat 0 = -1∨N38 p c d (p.rooks.getD (2 * c+d).toNat 0)=true
theorem rk_in {p:Pos} (hp:PosIn p) (i:Nat) : -128≤p.rooks.getD i 0∧p.rooks.getD i 0≤127:=by
  rw [List.getD_eq_getElem?_getD]
  cases h:p.rooks[i]? with
  | none=>exact ⟨by decide,by decide⟩
  | some x=>exact hp.r0 x (List.mem_of_getElem? h)
theorem st62 {p:Pos} (hp:PosIn p) (m:Int) {c d:Int} (hc:c=0∨c=1) (hd:d=0∨d=1) (o:Bool):okL6_2 m c (List.take 2 (List.drop (scale 2 c).toNat p.rooks)) p (o,d)=true∧∃ o',st6_2 m c (List.take 2 (List.drop (scale 2 c).toNat p.rooks)) p (o,d)=Stp.go (o',d+1)∧(o'=true ↔ o=true∧RkP p c d):=by
  have hg:(List.take 2 (List.drop (scale 2 c).toNat p.rooks)).getD d.toNat 0=p.rooks.getD (2 * c+d).toNat 0:=by
    rw [take_drop_getD _ _ _ _ _ (by rcases hd with rfl | rfl <;> decide),scale2]
    congr 1
    rcases hc with rfl | rfl <;> rcases hd with rfl | rfl <;> rfl
  have hv:=rk_in hp (2 * c+d).toNat
  have h21:=ok21_t hp hc (p.rooks.getD (2 * c+d).toNat 0)
  have hw:wr .i64 (p.rooks.getD (2 * c+d).toNat 0)=p.rooks.getD (2 * c+d).toNat 0:=wi64 (by omega) (by omega)
  have w1:wr .i64 (d+1)=d+1:=by rcases hd with rfl | rfl <;> rfl
  have d1:decide (d < 2)=true:=by rcases hd with rfl | rfl <;> rfl
  have d2:decide (0≤d)=true:=by rcases hd with rfl | rfl <;> rfl
  have d3:decide (d < Int.ofNat 2)=true:=by rcases hd with rfl | rfl <;> rfl
  unfold okL6_2 st6_2 RkP
  dsimp only
  rw [hg,hw,h21,w1,d1,d2,d3]
  have hse:∀ h0:0≤p.rooks.getD (2 * c+d).toNat 0,∀ h1:p.rooks.getD (2 * c+d).toNat 0≤7,_:=fun h0 h1=>(side_eq hp hc hd h0 h1).2.2
  generalize p.rooks.getD (2 * c+d).toNat 0=v at hse
  simp only [cond_true,Bool.true_and,Bool.and_true,Bool.cond_self,true_and]
  by_cases hm:v = -1
  · rw [hm]
    exact ⟨o,rfl,by simp⟩
  · have hb:(v == -1)=false:=by simpa using hm
    rw [hb,cond_false]
    cases o with
    | false=>exact ⟨false,rfl,by simp⟩
    | true =>
      rw [cond_true]
      by_cases h0:v ≥ 0
      · rw [decide_eq_true h0,cond_true]
        by_cases h7:v≤7
        · rw [decide_eq_true h7,cond_true]
          have:=hse h0 h7
          cases h2:(N21 p c v).2 with
          | true =>
            rw [h2,cond_true] at this
            rw [cond_true]
            exact ⟨_,rfl,by rw [this]; simp [hm]⟩
          | false =>
            rw [h2,cond_false] at this
            rw [cond_false]
            exact ⟨false,rfl,by rw [← this]; simp [hm]⟩
        · rw [decide_eq_false h7,cond_false]
          refine ⟨false,rfl,?_⟩
          constructor
          · intro h; cases h
          · rintro ⟨_,h | h⟩
            · exact absurd h hm
            · exact absurd (N38_range h).2 h7
      · rw [decide_eq_false h0,cond_false]
        refine ⟨false,rfl,?_⟩
        constructor
        · intro h; cases h
        · rintro ⟨_,h | h⟩
          · exact absurd h hm
          · exact absurd (N38_range h).1 h0
theorem lp62 {p:Pos} (hp:PosIn p) (m:Int) {c:Int} (hc:c=0∨c=1) (b:Bool):∃ r,lp6_2 m c (List.take 2 (List.drop (scale 2 c).toNat p.rooks)) p (b,0)=some r∧(r.1=true ↔ b=true∧RkP p c 0∧RkP p c 1):=by
  refine lp_many (I:=fun x=>(x.2=0∧x.1=b)∨(x.2=1∧(x.1=true ↔ b=true∧RkP p c 0))∨(x.2=2∧(x.1=true ↔ b=true∧RkP p c 0∧RkP p c 1))) (μ:=fun x=>(2 - x.2).toNat) ?_ _ (.inl ⟨rfl,rfl⟩) (by simp)
  rintro ⟨o,d⟩ h
  simp only at h
  rcases h with ⟨rfl,rfl⟩ | ⟨rfl,h⟩ | ⟨rfl,h⟩
  · obtain ⟨a,o',e,f⟩:=st62 hp m hc (.inl rfl) o
    rw [a,e]
    exact ⟨rfl,.inr (.inl ⟨rfl,f⟩),by simp⟩
  · obtain ⟨a,o',e,f⟩:=st62 hp m hc (.inr rfl) o
    rw [a,e]
    exact ⟨rfl,.inr (.inr ⟨rfl,by dsimp only; rw [f,h,and_assoc]⟩),by simp⟩
  · exact ⟨rfl,h⟩
def CoP (p:Pos) (m c:Int):Prop:=p.checks.getD c.toNat 0≤m∧p.pockets.getD (6 * c).toNat 0=0∧RkP p c 0∧RkP p c 1
theorem st63 {p:Pos} (hp:PosIn p) (m:Int) {c:Int} (hc:c=0∨c=1) (o:Bool):okL6_3 m p (o,c)=true∧∃ o',st6_3 m p (o,c)=Stp.go (o',c+1)∧(o'=true ↔ o=true∧CoP p m c):=by
  have w1:wr .u8 (c+1)=c+1:=by rcases hc with rfl | rfl <;> rfl
  have d1:decide (c≤1)=true:=by rcases hc with rfl | rfl <;> rfl
  have d2:decide (0≤c)=true:=by rcases hc with rfl | rfl <;> rfl
  have d3:decide (c < Int.ofNat 2)=true:=by rcases hc with rfl | rfl <;> rfl
  have e6:(scale 6 c+scale 1 (Int.ofNat 0)).toNat=(6 * c).toNat:=by rcases hc with rfl | rfl <;> rfl
  have l2:=fun b=>of_some (lp62 hp m hc b)
  unfold okL6_3 st6_3 CoP
  dsimp only
  rw [e6,scale1,w1,d1,d2,d3]
  simp only [(l2 _).1,cond_true,Bool.true_and,Bool.and_true,Bool.cond_self,true_and]
  cases o with
  | false =>
    rw [cond_false]
    exact ⟨_,rfl,by rw [(l2 false).2]; simp⟩
  | true =>
    rw [cond_true]
    by_cases hk:p.checks.getD c.toNat 0≤m
    · rw [decide_eq_true hk,cond_true]
      exact ⟨_,rfl,by rw [(l2 _).2,beq_iff_eq]; exact ⟨fun ⟨h1,h2,h3⟩=>⟨rfl,hk,h1,h2,h3⟩,fun ⟨_,_,h1,h2,h3⟩=>⟨h1,h2,h3⟩⟩⟩
    · rw [decide_eq_false hk,cond_false]
      exact ⟨_,rfl,by rw [(l2 false).2]; exact ⟨fun h=>(by cases h.1),fun h=>absurd h.2.1 hk⟩⟩
theorem lp63 {p:Pos} (hp:PosIn p) (m:Int) (b:Bool):∃ r,lp6_3 m p (b,0)=some r∧(r.1=true ↔ b=true∧CoP p m 0∧CoP p m 1):=by
  refine lp_many (I:=fun x=>(x.2=0∧x.1=b)∨(x.2=1∧(x.1=true ↔ b=true∧CoP p m 0))∨(x.2=2∧(x.1=true ↔ b=true∧CoP p m 0∧CoP p m 1))) (μ:=fun x=>(2 - x.2).toNat) ?_ _ (.inl ⟨rfl,rfl⟩) (by simp)
  rintro ⟨o,d⟩ h
  simp only at h
  rcases h with ⟨rfl,rfl⟩ | ⟨rfl,h⟩ | ⟨rfl,h⟩
  · obtain ⟨a,o',e,f⟩:=st63 hp m (.inl rfl) o
    rw [a,e]
    exact ⟨rfl,.inr (.inl ⟨rfl,f⟩),by simp⟩
  · obtain ⟨a,o',e,f⟩:=st63 hp m (.inr rfl) o
    rw [a,e]
    exact ⟨rfl,.inr (.inr ⟨rfl,by dsimp only; rw [f,h,and_assoc]⟩),by simp⟩
  · exact ⟨rfl,h⟩
def WkP (p:Pos) (m:Int):Prop:=(∀ s:Nat,s < 64→SqP p s)∧CoP p m 0∧CoP p m 1
open Classical in
noncomputable def wkb (p:Pos) (m:Int):Bool:=decide (WkP p m)
theorem wkb_iff {p:Pos} {m:Int}:wkb p m=true ↔ WkP p m:=by
  unfold wkb
  exact @decide_eq_true_iff _ (Classical.propDecidable _)
theorem wk_fst {p:Pos} (hp:PosIn p) (b:Bool) (m:Int):((lp6_3 m p (((lp6_1 p.board p (b,0)).getD default).fst,0)).getD default).fst=(b&&wkb p m):=by
  have h1:=of_some (lp61w hp b)
  have h2:=of_some (lp63 hp m ((lp6_1 p.board p (b,0)).getD default).fst)
  have h3:=h2.2
  rw [h1.2] at h3
  rw [Bool.eq_iff_iff,h3,Bool.and_eq_true]
  rw [wkb_iff]
  unfold WkP
  rw [and_assoc]
theorem wk_some {p:Pos} (hp:PosIn p) (b:Bool) (m:Int):(lp6_1 p.board p (b,0)).isSome=true∧(lp6_3 m p (((lp6_1 p.board p (b,0)).getD default).fst,0)).isSome=true :=
  ⟨(of_some (lp61w hp b)).1,(of_some (lp63 hp m _)).1⟩
theorem tab19:(List.range 256).all (fun n=>ok19 (n:Int)&&(N19 (n:Int)==(n==2)))=true:=by kernel_rfl
theorem pockets19 {v:Int} (h0:0≤v) (h1:v≤255):ok19 v=true∧N19 v=(v==2):=by
  have h:=tab_at tab19 h0 (show v < ((256:Nat):Int) by show v < (256:Int); omega)
  rw [show ((v.toNat:Nat):Int)=v by omega] at h
  simp only [Bool.and_eq_true,beq_iff_eq] at h
  refine ⟨h.1,?_⟩
  rw [h.2]
  by_cases hv:v=2
  · rw [hv]; rfl
  · have e1:(v==2)=false:=by simpa using hv
    have e2:(v.toNat==2)=false:=by
      simp
      omega
    rw [e1,e2]
theorem N6_conj {p:Pos} (hp:PosIn p):N6 p=(decide (p.variant < 9)&&(decide (p.turn≤1)&&(decide (p.passing ≥ -1)&&(decide (p.passing < 64)&&(decide ((if p.full < p.half then p.full else p.half) ≥ 0)&&(decide ((if p.full > p.half then p.full else p.half)≤10000)&&((N19 p.variant || eqOut BinOp.eql (p.pockets==li [0,0,0,0,0,0,0,0,0,0,0,0]&&true))&&((N19 p.variant || p.promoted==0#64)&&(bif p.variant==5 then wkb p 3 else wkb p 0))))))))):=by
  unfold N6
  simp only [wk_fst hp]
  generalize decide (p.variant < 9)=c1
  generalize decide (p.turn≤1)=c2
  generalize decide (p.passing ≥ -1)=c3
  generalize decide (p.passing < 64)=c4
  generalize decide ((if p.full < p.half then p.full else p.half) ≥ 0)=c5
  generalize decide ((if p.full > p.half then p.full else p.half)≤10000)=c6
  generalize N19 p.variant=c7
  generalize eqOut BinOp.eql (p.pockets==li [0,0,0,0,0,0,0,0,0,0,0,0]&&true)=c8
  generalize (p.promoted==0#64)=c9
  generalize (p.variant==5)=v5
  generalize wkb p 3=w3
  generalize wkb p 0=w0
  cases c1 <;> simp only [cond_false,cond_true,Bool.false_and,Bool.true_and,Bool.cond_self]
  cases c2 <;> simp only [cond_false,cond_true,Bool.false_and,Bool.true_and,Bool.cond_self]
  cases c3 <;> simp only [cond_false,cond_true,Bool.false_and,Bool.true_and,Bool.cond_self]
  cases c4 <;> simp only [cond_false,cond_true,Bool.false_and,Bool.true_and,Bool.cond_self]
  cases c5 <;> simp only [cond_false,cond_true,Bool.false_and,Bool.true_and,Bool.cond_self]
  cases c6 <;> simp only [cond_false,cond_true,Bool.false_and,Bool.true_and,Bool.cond_self]
  cases c7 <;> cases c8 <;> cases c9 <;> cases v5 <;> cases w3 <;> cases w0 <;> rfl
theorem ok6_t {p:Pos} (hp:PosIn p):ok6 p=true:=by
  have h1:∀ b,(lp6_1 p.board p (b,0)).isSome=true:=fun b=>(wk_some hp b 0).1
  have h2:∀ b m,(lp6_3 m p (((lp6_1 p.board p (b,0)).getD default).fst,0)).isSome=true:=fun b m=>(wk_some hp b m).2
  unfold ok6
  rw [(pockets19 hp.v0 hp.v1).1]
  simp only [h1,h2,Bool.true_and,Bool.and_true,Bool.cond_self]
def Sq13 (p:Pos) (s:Nat):Prop:=(atS p s≠0→N36 (atS p s)=true)∧(bitAt p.promoted s=true→atS p s≠0∧p.variant=2)
theorem lp131 {p:Pos} (hp:PosIn p):∃ r,lp13_1 p 0=some r∧(isL r=false ↔ ∀ s:Nat,s < 64→Sq13 p s):=by
  refine lp_many (I:=fun x=>0≤x∧x≤64∧∀ s:Nat,(s:Int) < x→Sq13 p s) (μ:=fun x=>(64 - x).toNat) ?_ _ ⟨by simp,by simp,fun t ht=>absurd ht (by omega)⟩ (by simp)
  rintro s ⟨g0,g1,g2⟩
  unfold okL13_1 st13_1
  by_cases hs:s < 64
  · have hb:=N37_eq p.promoted (s:=s) g0 (by omega)
    have w1:wr .i64 (s+1)=s+1:=wi64 (by omega) (by omega)
    have d1:decide (s < 64)=true:=decide_eq_true hs
    have d2:decide (0≤s)=true:=decide_eq_true g0
    have d3:decide (s < Int.ofNat 64)=true:=decide_eq_true hs
    have e0:p.board.getD (scale 1 s).toNat 0=atS p s:=rfl
    have ecs:((s.toNat:Nat):Int)=s:=by omega
    have o36:∀ y,ok36 y=true:=fun _=>rfl
    rw [e0,hb.1,hb.2,w1,d1,d2,d3]
    simp only [cond_true,Bool.true_and,Bool.and_true,Bool.cond_self,true_and]
    have go:Sq13 p s.toNat→Nxt (fun x:Int=>0≤x∧x≤64∧∀ s:Nat,(s:Int) < x→Sq13 p s) (fun r:Unit ⊕ (Int×Bool)=>(isL r=false ↔ ∀ s:Nat,s < 64→Sq13 p s)) (fun x=>(64 - x).toNat) (64 - s).toNat (Stp.go (s+1)):=by
      intro h
      refine ⟨⟨by omega,by omega,fun t ht => ?_⟩,by dsimp only; omega⟩
      by_cases hts:t=s.toNat
      · rw [hts]; exact h
      · exact g2 t (by omega)
    have out:¬ Sq13 p s.toNat→Nxt (fun x:Int=>0≤x∧x≤64∧∀ s:Nat,(s:Int) < x→Sq13 p s) (fun r:Unit ⊕ (Int×Bool)=>(isL r=false ↔ ∀ s:Nat,s < 64→Sq13 p s)) (fun x=>(64 - x).toNat) (64 - s).toNat (Stp.out (.inl ())):=by
      intro h
      exact ⟨fun e=>(by cases e),fun e=>absurd (e _ (by omega)) h⟩
    unfold Sq13 at go out
    rw [ecs] at go out
    by_cases hx:atS p s=0
    · have b1:(atS p s != 0)=false:=by rw [hx]; rfl
      have b2:(atS p s==0)=true:=by rw [hx]; rfl
      rw [b1,b2]
      simp only [cond_false,cond_true]
      cases hbt:bitAt p.promoted s.toNat with
      | true=>exact out fun h=>(h.2 hbt).1 hx
      | false=>exact go ⟨fun h=>absurd hx h,fun h=>by rw [hbt] at h; cases h⟩
    · have b1:(atS p s != 0)=true:=by simpa using hx
      have b2:(atS p s==0)=false:=by simpa using hx
      rw [b1,b2]
      simp only [cond_false,cond_true]
      cases hi:N36 (atS p s) with
      | false=>exact out fun h=>by have:=h.1 hx; rw [hi] at this; cases this
      | true =>
        simp only [Bool.not_true,cond_false]
        cases hbt:bitAt p.promoted s.toNat with
        | false=>exact go ⟨fun _=>hi,fun h=>by rw [hbt] at h; cases h⟩
        | true =>
          simp only [cond_true]
          by_cases hv:p.variant=2
          · have b3:(p.variant != 2)=false:=by rw [hv]; rfl
            rw [b3,cond_false]
            exact go ⟨fun _=>hi,fun _=>⟨hx,hv⟩⟩
          · have b3:(p.variant != 2)=true:=by simpa using hv
            rw [b3,cond_true]
            exact out fun h=>hv (h.2 hbt).2
  · have h64:s=64:=by omega
    subst h64
    exact ⟨rfl,fun _ t ht=>g2 t (by omega),fun _=>rfl⟩
def PkP (p:Pos) (c:Int):Prop := ∀ k:Nat,k < 6→p.pockets.getD (6 * c+k).toNat 0 > 0→p.variant=2∧k≠0
theorem lp132 {p:Pos} {c:Int} (hc:c=0∨c=1):∃ r,lp13_2 c p 0=some r∧(isL r=false ↔ PkP p c):=by
  refine lp_many (I:=fun x=>0≤x∧x≤6∧∀ k:Nat,(k:Int) < x→p.pockets.getD (6 * c+k).toNat 0 > 0→p.variant=2∧k≠0) (μ:=fun x=>(6 - x).toNat) ?_ _ ⟨by simp,by simp,fun t ht=>absurd ht (by omega)⟩ (by simp)
  rintro k ⟨g0,g1,g2⟩
  unfold okL13_2 st13_2
  by_cases hk:k < 6
  · have w1:wr .i64 (k+1)=k+1:=wi64 (by omega) (by omega)
    have d1:decide (k < 6)=true:=decide_eq_true hk
    have d2:decide (0≤k)=true:=decide_eq_true g0
    have d3:decide (k < Int.ofNat 6)=true:=decide_eq_true hk
    have d4:decide (0≤c)=true:=by rcases hc with rfl | rfl <;> rfl
    have d5:decide (c < Int.ofNat 2)=true:=by rcases hc with rfl | rfl <;> rfl
    have ecs:((k.toNat:Nat):Int)=k:=by omega
    have e6:scale 6 c+scale 1 k=6 * c+k:=by rw [scale6,scale1]; omega
    rw [e6,w1,d1,d2,d3,d4,d5]
    simp only [cond_true,Bool.true_and,Bool.and_true,true_and]
    have go:(p.pockets.getD (6 * c+k).toNat 0 > 0→p.variant=2∧k≠0)→Nxt (fun x:Int=>0≤x∧x≤6∧∀ k:Nat,(k:Int) < x→p.pockets.getD (6 * c+k).toNat 0 > 0→p.variant=2∧k≠0) (fun r:Unit ⊕ (Int×Bool)=>(isL r=false ↔ PkP p c)) (fun x=>(6 - x).toNat) (6 - k).toNat (Stp.go (k+1)):=by
      intro h
      refine ⟨⟨by omega,by omega,fun t ht h2 => ?_⟩,by dsimp only; omega⟩
      by_cases hts:t=k.toNat
      · rw [hts,ecs] at h2
        have:=h h2
        exact ⟨this.1,by rw [hts]; omega⟩
      · exact g2 t (by omega) h2
    have out:¬ (p.pockets.getD (6 * c+k).toNat 0 > 0→p.variant=2∧k≠0)→Nxt (fun x:Int=>0≤x∧x≤6∧∀ k:Nat,(k:Int) < x→p.pockets.getD (6 * c+k).toNat 0 > 0→p.variant=2∧k≠0) (fun r:Unit ⊕ (Int×Bool)=>(isL r=false ↔ PkP p c)) (fun x=>(6 - x).toNat) (6 - k).toNat (Stp.out (.inl ())):=by
      intro h
      refine ⟨fun e=>(by cases e),fun e=>absurd (fun h2 => ?_) h⟩
      have:=e k.toNat (by omega) (by rw [ecs]; exact h2)
      exact ⟨this.1,by omega⟩
    by_cases hq:p.pockets.getD (6 * c+k).toNat 0 > 0
    · rw [decide_eq_true hq,cond_true]
      by_cases hv:p.variant=2
      · have b3:(p.variant != 2)=false:=by rw [hv]; rfl
        rw [b3,cond_false]
        by_cases hk0:k=0
        · have b4:(k==0)=true:=by rw [hk0]; rfl
          rw [b4,cond_true]
          exact out fun h=>(h hq).2 hk0
        · have b4:(k==0)=false:=by simpa using hk0
          rw [b4,cond_false]
          exact go fun _=>⟨hv,hk0⟩
      · have b3:(p.variant != 2)=true:=by simpa using hv
        rw [b3,cond_true]
        exact out fun h=>hv (h hq).1
    · rw [decide_eq_false hq,cond_false]
      exact go fun h=>absurd h hq
  · have h6:k=6:=by omega
    subst h6
    exact ⟨rfl,fun _ t ht=>g2 t (by omega),fun _=>rfl⟩
theorem lp133 {p:Pos} (hp:PosIn p) {c:Int} (hc:c=0∨c=1):∃ r,lp13_3 c p 0=some r∧(isL r=false ↔ RkP p c 0∧RkP p c 1):=by
  have w8:wr .u8 c=c:=by rcases hc with rfl | rfl <;> rfl
  have d4:decide (0≤c)=true:=by rcases hc with rfl | rfl <;> rfl
  have d5:decide (c < Int.ofNat 2)=true:=by rcases hc with rfl | rfl <;> rfl
  have one:∀ d:Int,(d=0∨d=1)→okL13_3 c p d=true∧((RkP p c d∧st13_3 c p d=Stp.go (d+1))∨(¬ RkP p c d∧st13_3 c p d=Stp.out (.inl ()))):=by
    intro d hd
    have hv:=rk_in hp (2 * c+d).toNat
    have o38:=ok38_t hp hc d (p.rooks.getD (2 * c+d).toNat 0)
    have e2:scale 2 c+scale 1 d=2 * c+d:=by rw [scale2,scale1]; omega
    have hw:wr .i64 (p.rooks.getD (2 * c+d).toNat 0)=p.rooks.getD (2 * c+d).toNat 0:=wi64 (by omega) (by omega)
    have w1:wr .i64 (d+1)=d+1:=by rcases hd with rfl | rfl <;> rfl
    have d1:decide (d < 2)=true:=by rcases hd with rfl | rfl <;> rfl
    have d2:decide (0≤d)=true:=by rcases hd with rfl | rfl <;> rfl
    have d3:decide (d < Int.ofNat 2)=true:=by rcases hd with rfl | rfl <;> rfl
    unfold okL13_3 st13_3 RkP
    rw [e2,hw,w8,o38,w1,d1,d2,d3,d4,d5]
    generalize p.rooks.getD (2 * c+d).toNat 0=v
    simp only [cond_true,Bool.true_and,Bool.and_true,Bool.cond_self,true_and]
    by_cases hm:v = -1
    · have b1:(v != -1)=false:=by rw [hm]; rfl
      rw [b1,cond_false]
      exact .inl ⟨.inl hm,rfl⟩
    · have b1:(v != -1)=true:=by simpa using hm
      rw [b1,cond_true]
      cases h:N38 p c d v with
      | true=>exact .inl ⟨.inr rfl,rfl⟩
      | false=>exact .inr ⟨fun e=>e.elim hm (fun e=>(by cases e)),rfl⟩
  refine lp_many (I:=fun x=>x=0∨(x=1∧RkP p c 0)∨(x=2∧RkP p c 0∧RkP p c 1)) (μ:=fun x=>(2 - x).toNat) ?_ _ (.inl rfl) (by simp)
  intro d h
  rcases h with rfl | ⟨rfl,h⟩ | ⟨rfl,h⟩
  · obtain ⟨a,b⟩:=one 0 (.inl rfl)
    refine ⟨a,?_⟩
    rcases b with ⟨b,e⟩ | ⟨b,e⟩ <;> rw [e]
    · exact ⟨.inr (.inl ⟨rfl,b⟩),by simp⟩
    · exact ⟨fun e=>(by cases e),fun e=>absurd e.1 b⟩
  · obtain ⟨a,b⟩:=one 1 (.inr rfl)
    refine ⟨a,?_⟩
    rcases b with ⟨b,e⟩ | ⟨b,e⟩ <;> rw [e]
    · exact ⟨.inr (.inr ⟨rfl,h,b⟩),by simp⟩
    · exact ⟨fun e=>(by cases e),fun e=>absurd e.2 b⟩
  · exact ⟨rfl,fun _=>h,fun _=>rfl⟩
def Co13 (p:Pos) (c:Int):Prop:=PkP p c∧p.checks.getD c.toNat 0≤3∧(p.checks.getD c.toNat 0 > 0→p.variant=5)∧RkP p c 0∧RkP p c 1
theorem lp134 {p:Pos} (hp:PosIn p):∃ r,lp13_4 p 0=some r∧(isL r=false ↔ Co13 p 0∧Co13 p 1):=by
  have one:∀ c:Int,(c=0∨c=1)→okL13_4 p c=true∧((Co13 p c∧st13_4 p c=Stp.go (c+1))∨(¬ Co13 p c∧st13_4 p c=Stp.out (.inl ()))):=by
    intro c hc
    obtain ⟨a1,a2⟩:=of_some (lp132 (p:=p) hc)
    obtain ⟨b1,b2⟩:=of_some (lp133 hp hc)
    have w1:wr .i64 (c+1)=c+1:=by rcases hc with rfl | rfl <;> rfl
    have d1:decide (c < 2)=true:=by rcases hc with rfl | rfl <;> rfl
    have d2:decide (0≤c)=true:=by rcases hc with rfl | rfl <;> rfl
    have d3:decide (c < Int.ofNat 2)=true:=by rcases hc with rfl | rfl <;> rfl
    unfold okL13_4 st13_4 Co13
    rw [a1,b1,w1,d1,d2,d3,scale1]
    simp only [cond_true,Bool.true_and,Bool.and_true,Bool.cond_self,true_and]
    cases hA:isL ((lp13_2 c p 0).getD default) with
    | true =>
      rw [hA] at a2
      exact .inr ⟨fun h=>(by have:=a2.2 h.1; cases this),rfl⟩
    | false =>
      rw [hA] at a2
      have hpk:=a2.1 rfl
      rw [cond_false]
      by_cases h3:p.checks.getD c.toNat 0 > 3
      · rw [decide_eq_true h3,cond_true]
        exact .inr ⟨fun h=>by have:=h.2.1; omega,rfl⟩
      · rw [decide_eq_false h3,cond_false]
        have fin:(p.checks.getD c.toNat 0 > 0→p.variant=5)→((PkP p c∧p.checks.getD c.toNat 0≤3∧(p.checks.getD c.toNat 0 > 0→p.variant=5)∧RkP p c 0∧RkP p c 1)∧(bif isL ((lp13_3 c p 0).getD default) then Stp.out (.inl ()) else Stp.go (c+1))=(Stp.go (c+1):Stp Int (Unit ⊕ (Int×Bool))))∨(¬ (PkP p c∧p.checks.getD c.toNat 0≤3∧(p.checks.getD c.toNat 0 > 0→p.variant=5)∧RkP p c 0∧RkP p c 1)∧(bif isL ((lp13_3 c p 0).getD default) then Stp.out (.inl ()) else Stp.go (c+1))=(Stp.out (.inl ()):Stp Int (Unit ⊕ (Int×Bool)))):=by
          intro hv
          cases hB:isL ((lp13_3 c p 0).getD default) with
          | true =>
            rw [hB] at b2
            exact .inr ⟨fun h=>(by have:=b2.2 h.2.2.2; cases this),rfl⟩
          | false =>
            rw [hB] at b2
            exact .inl ⟨⟨hpk,by omega,hv,b2.1 rfl⟩,rfl⟩
        by_cases h0:p.checks.getD c.toNat 0 > 0
        · rw [decide_eq_true h0,cond_true]
          by_cases hv:p.variant=5
          · have b3:(p.variant != 5)=false:=by rw [hv]; rfl
            rw [b3,cond_false]
            exact fin fun _=>hv
          · have b3:(p.variant != 5)=true:=by simpa using hv
            rw [b3,cond_true]
            exact .inr ⟨fun h=>hv (h.2.2.1 h0),rfl⟩
        · rw [decide_eq_false h0,cond_false]
          exact fin fun h=>absurd h h0
  refine lp_many (I:=fun x=>x=0∨(x=1∧Co13 p 0)∨(x=2∧Co13 p 0∧Co13 p 1)) (μ:=fun x=>(2 - x).toNat) ?_ _ (.inl rfl) (by simp)
  intro d h
  rcases h with rfl | ⟨rfl,h⟩ | ⟨rfl,h⟩
  · obtain ⟨a,b⟩:=one 0 (.inl rfl)
    refine ⟨a,?_⟩
    rcases b with ⟨b,e⟩ | ⟨b,e⟩ <;> rw [e]
    · exact ⟨.inr (.inl ⟨rfl,b⟩),by simp⟩
    · exact ⟨fun e=>(by cases e),fun e=>absurd e.1 b⟩
  · obtain ⟨a,b⟩:=one 1 (.inr rfl)
    refine ⟨a,?_⟩
    rcases b with ⟨b,e⟩ | ⟨b,e⟩ <;> rw [e]
    · exact ⟨.inr (.inr ⟨rfl,h,b⟩),by simp⟩
    · exact ⟨fun e=>(by cases e),fun e=>absurd e.2 b⟩
  · exact ⟨rfl,fun _=>h,fun _=>rfl⟩
def Wr13 (p:Pos):Prop:=p.variant≤8∧p.turn≤1 ∧ -1≤p.passing∧p.passing≤63∧0≤p.half∧0≤p.full∧p.half≤10000∧p.full≤10000∧(∀ s:Nat,s < 64→Sq13 p s)∧Co13 p 0∧Co13 p 1
theorem N13_iff {p:Pos} (hp:PosIn p):(N13 p=true ↔ Wr13 p)∧ok13 p=true:=by
  obtain ⟨a1,a2⟩:=of_some (lp131 hp)
  obtain ⟨b1,b2⟩:=of_some (lp134 hp)
  unfold N13 ok13 Wr13
  rw [a1,b1]
  refine ⟨?_,?_⟩
  · have step:∀ {q r:Prop} [Decidable q] {x:Bool},(x=true ↔ r)→((bif decide q then false else x)=true ↔ ¬ q∧r):=by
      intro q r _ x h
      by_cases hq:q
      · rw [decide_eq_true hq,cond_true]
        exact ⟨fun e=>(by cases e),fun e=>absurd hq e.1⟩
      · rw [decide_eq_false hq,cond_false,h]
        exact ⟨fun e=>⟨hq,e⟩,fun e=>e.2⟩
    have last:((bif isL ((lp13_1 p 0).getD default) then false else (bif isL ((lp13_4 p 0).getD default) then false else true))=true ↔ (∀ s:Nat,s < 64→Sq13 p s)∧Co13 p 0∧Co13 p 1):=by
      rw [← a2,← b2]
      cases isL ((lp13_1 p 0).getD default) <;> cases isL ((lp13_4 p 0).getD default) <;> simp
    rw [step (step (step (step (step (step (step (step last)))))))]
    simp only [Int.not_lt]
  · exact c_true (fun _=>rfl) fun _=>c_true (fun _=>rfl) fun _=>c_true (fun _=>rfl) fun _=>c_true (fun _=>rfl) fun _=>c_true (fun _=>rfl) fun _=>c_true (fun _=>rfl) fun _=>c_true (fun _=>rfl) fun _=>c_true (fun _=>rfl) fun _=>a_true rfl fun _=>c_true (fun _=>rfl) fun _=>a_true rfl fun _=>c_true (fun _=>rfl) fun _=>rfl
theorem bits_zero {a:BitVec 64} (h:∀ s:Nat,s < 64→bitAt a s=false):a=0#64:=by
  apply BitVec.eq_of_toNat_eq
  apply Nat.eq_of_testBit_eq
  intro i
  rw [show (0#64).toNat=0 from rfl,Nat.zero_testBit]
  by_cases hi:i < 64
  · rw [← bit_eq]
    exact h i hi
  · exact Nat.testBit_lt_two_pow (Nat.lt_of_lt_of_le a.isLt (Nat.pow_le_pow_right (by decide) (by omega)))
theorem zero_bit (s:Nat):bitAt 0#64 s=false:=by
  rw [bit_eq]
  exact Nat.zero_testBit s
theorem pk_zero {p:Pos} (hp:PosIn p):eqOut BinOp.eql (p.pockets==li [0,0,0,0,0,0,0,0,0,0,0,0]&&true)=true ↔ ∀ i:Nat,i < 12→p.pockets.getD i 0=0:=by
  have e:eqOut BinOp.eql (p.pockets==li [0,0,0,0,0,0,0,0,0,0,0,0]&&true)=(p.pockets==[0,0,0,0,0,0,0,0,0,0,0,0]):=by
    show (p.pockets==li [0,0,0,0,0,0,0,0,0,0,0,0]&&true)=_
    rw [Bool.and_true]
  rw [e,beq_iff_eq]
  have hl:=hp.kl
  generalize p.pockets=l at hl
  constructor
  · rintro rfl i hi
    have:i=0∨i=1∨i=2∨i=3∨i=4∨i=5∨i=6∨i=7∨i=8∨i=9∨i=10∨i=11:=by omega
    rcases this with rfl | rfl | rfl | rfl | rfl | rfl | rfl | rfl | rfl | rfl | rfl | rfl <;> rfl
  · intro h
    apply List.ext_getElem?
    intro i
    by_cases hi:i < 12
    · have h1:=h i hi
      rw [List.getD_eq_getElem?_getD,List.getElem?_eq_getElem (by omega)] at h1
      have h2:([0,0,0,0,0,0,0,0,0,0,0,0]:List Int)[i]?=some 0:=by
        have:i=0∨i=1∨i=2∨i=3∨i=4∨i=5∨i=6∨i=7∨i=8∨i=9∨i=10∨i=11:=by omega
        rcases this with rfl | rfl | rfl | rfl | rfl | rfl | rfl | rfl | rfl | rfl | rfl | rfl <;> rfl
      rw [h2,List.getElem?_eq_getElem (by omega)]
      exact congrArg some h1
    · rw [List.getElem?_eq_none (by omega),List.getElem?_eq_none (by simp; omega)]
theorem ck_in {p:Pos} (hp:PosIn p) (i:Nat):0≤p.checks.getD i 0∧p.checks.getD i 0≤255:=by
  rw [List.getD_eq_getElem?_getD]
  cases h:p.checks[i]? with
  | none=>exact ⟨Int.le_refl _,by decide⟩
  | some x=>exact hp.c0 x (List.mem_of_getElem? h)
theorem rest_iff {p:Pos} (hp:PosIn p) (hv:p.variant≤8):(((N19 p.variant || eqOut BinOp.eql (p.pockets==li [0,0,0,0,0,0,0,0,0,0,0,0]&&true))=true∧(N19 p.variant || p.promoted==0#64)=true)∧(bif p.variant==5 then wkb p 3 else wkb p 0)=true) ↔ ((∀ s:Nat,s < 64→Sq13 p s)∧Co13 p 0∧Co13 p 1):=by
  have h19:=(pockets19 hp.v0 hp.v1).2
  have c0:=ck_in hp (0:Int).toNat
  have c1:=ck_in hp (1:Int).toNat
  by_cases h2:p.variant=2
  · have e2:(p.variant==2)=true:=by rw [h2]; rfl
    have e5:(p.variant==5)=false:=by rw [h2]; rfl
    rw [h19,e2,e5,cond_false,wkb_iff]
    simp only [Bool.true_or,and_self,true_and]
    have sq:∀ s,SqP p s ↔ Sq13 p s:=by
      intro s
      unfold SqP Sq13
      by_cases hx:atS p s=0
      · rw [if_pos hx]
        constructor
        · intro h
          exact ⟨fun e=>absurd hx e,fun e=>by rw [h] at e; cases e⟩
        · intro h
          cases hb:bitAt p.promoted s with
          | false=>rfl
          | true=>exact absurd hx (h.2 hb).1
      · rw [if_neg hx]
        exact ⟨fun h=>⟨fun _=>h,fun _=>⟨hx,h2⟩⟩,fun h=>h.1 hx⟩
    have co:∀ c:Int,(c=0∨c=1)→(CoP p 0 c ↔ Co13 p c):=by
      intro c hc
      have hk:=pk_in hp (6 * c).toNat
      have hcc:0≤p.checks.getD c.toNat 0:=(ck_in hp c.toNat).1
      unfold CoP Co13 PkP
      constructor
      · rintro ⟨a,b,r⟩
        refine ⟨fun k hk6 h=>⟨h2,fun k0 => ?_⟩,by omega,fun h=>by omega,r⟩
        subst k0
        rw [show 6 * c+((0:Nat):Int)=6 * c by omega,b] at h
        omega
      · rintro ⟨a,b,d,r⟩
        refine ⟨?_,?_,r⟩
        · by_cases h:p.checks.getD c.toNat 0 > 0
          · have:=d h; omega
          · omega
        · by_cases h:p.pockets.getD (6 * c).toNat 0 > 0
          · exact absurd rfl (a 0 (by decide) (by rw [show 6 * c+((0:Nat):Int)=6 * c by omega]; exact h)).2
          · omega
    unfold WkP
    rw [co 0 (.inl rfl),co 1 (.inr rfl)]
    exact and_congr ⟨fun h s hs=>(sq s).1 (h s hs),fun h s hs=>(sq s).2 (h s hs)⟩ Iff.rfl
  · have e2:(p.variant==2)=false:=by simpa using h2
    rw [h19,e2,Bool.false_or,Bool.false_or,pk_zero hp,beq_iff_eq]
    have pz:(∀ i:Nat,i < 12→p.pockets.getD i 0=0) ↔ PkP p 0∧PkP p 1:=by
      unfold PkP
      constructor
      · intro h
        exact ⟨fun k hk e=>by rw [h _ (by omega)] at e; omega,fun k hk e=>by rw [h _ (by omega)] at e; omega⟩
      · rintro ⟨a,b⟩ i hi
        have hk:=pk_in hp i
        by_cases hp0:p.pockets.getD i 0 > 0
        · exfalso
          by_cases h6:i < 6
          · exact h2 (a i h6 (by rw [show (6 * 0+(i:Int)).toNat=i by omega]; exact hp0)).1
          · exact h2 (b (i - 6) (by omega) (by rw [show (6 * 1+((i - 6:Nat):Int)).toNat=i by omega]; exact hp0)).1
        · omega
    have m5:∀ c:Int,(c=0∨c=1)→(∀ i:Nat,i < 12→p.pockets.getD i 0=0)→PkP p c→((CoP p (if p.variant=5 then 3 else 0) c) ↔ Co13 p c):=by
      intro c hc hz hk
      have hcc:0≤p.checks.getD c.toNat 0:=(ck_in hp c.toNat).1
      have h0:p.pockets.getD (6 * c).toNat 0=0:=hz _ (by rcases hc with rfl | rfl <;> decide)
      unfold CoP Co13
      by_cases h5:p.variant=5
      · rw [if_pos h5]
        exact ⟨fun ⟨a,_,r⟩=>⟨hk,a,fun _=>h5,r⟩,fun ⟨_,a,_,r⟩=>⟨a,h0,r⟩⟩
      · rw [if_neg h5]
        refine ⟨fun ⟨a,_,r⟩=>⟨hk,by omega,fun h=>by omega,r⟩,fun ⟨_,a,d,r⟩=>⟨?_,h0,r⟩⟩
        by_cases h:p.checks.getD c.toNat 0 > 0
        · exact absurd (d h) h5
        · omega
    have wk:(bif p.variant==5 then wkb p 3 else wkb p 0)=true ↔ WkP p (if p.variant=5 then 3 else 0):=by
      by_cases h5:p.variant=5
      · have e5:(p.variant==5)=true:=by rw [h5]; rfl
        rw [e5,if_pos h5,cond_true,wkb_iff]
      · have e5:(p.variant==5)=false:=by simpa using h5
        rw [e5,if_neg h5,cond_false,wkb_iff]
    rw [wk]
    constructor
    · rintro ⟨⟨hz,hpr⟩,hs,ha,hb⟩
      have hk:=pz.1 hz
      refine ⟨fun s hs64 => ?_,(m5 0 (.inl rfl) hz hk.1).1 ha,(m5 1 (.inr rfl) hz hk.2).1 hb⟩
      have:=hs s hs64
      unfold SqP at this
      refine ⟨fun hx => ?_,fun hb => ?_⟩
      · rw [if_neg hx] at this; exact this
      · rw [hpr,zero_bit] at hb; cases hb
    · rintro ⟨hs,ha,hb⟩
      have hz:=pz.2 ⟨ha.1,hb.1⟩
      have hbit:∀ s:Nat,s < 64→bitAt p.promoted s=false:=fun s hs64=>by
        cases h:bitAt p.promoted s with
        | false=>rfl
        | true=>exact absurd ((hs s hs64).2 h).2 h2
      refine ⟨⟨hz,bits_zero hbit⟩,fun s hs64 => ?_,(m5 0 (.inl rfl) hz ha.1).2 ha,(m5 1 (.inr rfl) hz hb.1).2 hb⟩
      unfold SqP
      by_cases hx:atS p s=0
      · rw [if_pos hx]; exact hbit s hs64
      · rw [if_neg hx]; exact (hs s hs64).1 hx
theorem N6_iff {p:Pos} (hp:PosIn p):N6 p=true ↔ Wr13 p:=by
  have hmin:(if p.full < p.half then p.full else p.half) ≥ 0 ↔ 0≤p.half∧0≤p.full:=by split <;> omega
  have hmax:(if p.full > p.half then p.full else p.half)≤10000 ↔ p.half≤10000∧p.full≤10000:=by split <;> omega
  rw [N6_conj hp]
  simp only [Bool.and_eq_true,decide_eq_true_eq,hmin,hmax]
  unfold Wr13
  constructor
  · rintro ⟨a,b,c,d,⟨e1,e2⟩,⟨f1,f2⟩,g,h,i⟩
    exact ⟨by omega,b,by omega,by omega,e1,e2,f1,f2,(rest_iff hp (by omega)).1 ⟨⟨g,h⟩,i⟩⟩
  · rintro ⟨a,b,c,d,e1,e2,f1,f2,r⟩
    obtain ⟨⟨g,h⟩,i⟩:=(rest_iff hp a).2 r
    exact ⟨by omega,b,by omega,by omega,⟨e1,e2⟩,⟨f1,f2⟩,g,h,i⟩
theorem N6_eq {p:Pos} (hp:PosIn p):N6 p=N13 p:=by
  rw [Bool.eq_iff_iff,N6_iff hp,(N13_iff hp).1]
theorem rkIn_of {p:Pos} (hp:PosIn p) (h:Wr13 p):RkIn p:=by
  obtain ⟨_,_,_,_,_,_,_,_,_,⟨_,_,_,r00,r01⟩,⟨_,_,_,r10,r11⟩⟩:=h
  have one:∀ c d:Int,RkP p c d → -1≤p.rooks.getD (2 * c+d).toNat 0∧p.rooks.getD (2 * c+d).toNat 0≤7:=by
    intro c d h
    rcases h with h | h
    · rw [h]; decide
    · have:=N38_range h; omega
  have all:∀ i:Nat,-1≤p.rooks.getD i 0∧p.rooks.getD i 0≤7:=by
    intro i
    by_cases hi:i < 4
    · have:i=0∨i=1∨i=2∨i=3:=by omega
      rcases this with rfl | rfl | rfl | rfl
      · exact one 0 0 r00
      · exact one 0 1 r01
      · exact one 1 0 r10
      · exact one 1 1 r11
    · rw [List.getD_eq_getElem?_getD,List.getElem?_eq_none (by rw [hp.rl]; omega)]
      decide
  exact ⟨fun i=>(all i).1,fun i=>(all i).2⟩
noncomputable def turnT (p:Pos):List UInt8:=bif p.turn==0 then [119] else [98]
noncomputable def passT (p:Pos):List UInt8:=bif decide (p.passing < 0) then [45] else N17 p.passing
noncomputable def checkT (p:Pos):List UInt8:=bif p.variant==5 then 43::(itoaL (p.checks.getD 0 0)++43::(itoaL (p.checks.getD 1 0)++[32])) else []
noncomputable def fenT (p:Pos):List UInt8:=brdT p++32::(turnT p++32::(N9 (rkA p)++32::(passT p++32::(checkT p++(itoaL p.half++32::itoaL p.full)))))
noncomputable def fin200 (l:List UInt8):List UInt8:=bif decide (Int.ofNat l.length > 200) then [] else l
structure Parts (p:Pos):Prop where
  t:p.turn=0∨p.turn=1
  pa0 : -1≤p.passing
  pa1:p.passing≤63
  h0:0≤p.half
  h1:p.half≤10000
  f0:0≤p.full
  f1:p.full≤10000
  c0:0≤p.checks.getD 0 0∧p.checks.getD 0 0≤255
  c1:0≤p.checks.getD 1 0∧p.checks.getD 1 0≤255
theorem parts_of {p:Pos} (hp:PosIn p) (h:Wr13 p):Parts p:=by
  obtain ⟨_,t,a,b,c,d,e,f,_⟩:=h
  have t0:=hp.t0
  exact ⟨by omega,a,b,c,e,d,f,ck_in hp 0,ck_in hp 1⟩
theorem pass_eq {p:Pos} (hq:Parts p):N9 (N10 p.passing)=passT p∧ok10 p.passing=true∧ok17 p.passing=true∧(passT p).length≤2:=by
  have a:=hq.pa0
  have b:=hq.pa1
  have h:=List.all_eq_true.1 tab10 _ (List.mem_range.2 (show (p.passing+1).toNat < 65 by omega))
  have e:(((p.passing+1).toNat:Nat):Int) - 1=p.passing:=by omega
  rw [e] at h
  simp only [Bool.and_eq_true,beq_iff_eq,decide_eq_true_eq,Bool.or_eq_true,Bool.not_eq_true',beq_eq_false_iff_ne] at h
  obtain ⟨⟨⟨⟨⟨h1,h2⟩,h3⟩,h4⟩,h5⟩,h6⟩:=h
  refine ⟨?_,h2,h3,?_⟩
  · rw [h1]
    unfold passT N9
    by_cases hn:p.passing < 0
    · have:N17 p.passing=[]:=by
        rcases h5 with h5 | h5
        · exact h5
        · exact absurd (by omega) h5
      rw [decide_eq_true hn,cond_true,this]
      rfl
    · have hne:N17 p.passing≠[]:=by
        rcases h6 with h6 | h6
        · omega
        · exact h6
      have hb:(N17 p.passing==(ByteArray.mk #[]).data.toList)=false:=by simpa using hne
      rw [decide_eq_false hn,cond_false,hb,cond_false]
  · unfold passT
    cases decide (p.passing < 0)
    · exact h4
    · show ([45]:List UInt8).length≤2
      decide
theorem N4_eq {p:Pos} (hp:PosIn p) (h:Wr13 p):N4 p=fin200 (fenT p)∧ok4 p=true:=by
  have hq:=parts_of hp h
  have hr:=rooks_eq (rkIn_of hp h)
  have h6:=(N6_iff hp).2 h
  obtain ⟨b1,b2,b3⟩:=N7_eq hp (pockets19 hp.v0 hp.v1).1
  obtain ⟨p1,p2,_,p4⟩:=pass_eq hq
  have w1:wr .i64 p.passing=p.passing:=wi64 (by have:=hq.pa0; omega) (by have:=hq.pa1; omega)
  have w2:wr .i64 (p.checks.getD 0 0)=p.checks.getD 0 0:=wi64 (by have:=hq.c0; omega) (by have:=hq.c0; omega)
  have w3:wr .i64 (p.checks.getD 1 0)=p.checks.getD 1 0:=wi64 (by have:=hq.c1; omega) (by have:=hq.c1; omega)
  have tt:List.drop p.turn.toNat (List.take (wr .u8 (p.turn+1)).toNat (ByteArray.mk #[119,98]).data.toList)=turnT p:=by
    unfold turnT
    rcases hq.t with e | e <;> rw [e] <;> rfl
  have td:(decide (0≤p.turn)&&decide (p.turn≤wr .u8 (p.turn+1))&&decide (wr .u8 (p.turn+1)≤Int.ofNat 2))=true:=by
    rcases hq.t with e | e <;> rw [e] <;> rfl
  have k1:=okItoa_t hq.h0 (by have:=hq.h1; omega)
  have k2:=okItoa_t hq.f0 (by have:=hq.f1; omega)
  have k3:=okItoa_t hq.c0.1 (by have:=hq.c0.2; omega)
  have k4:=okItoa_t hq.c1.1 (by have:=hq.c1.2; omega)
  have l1:=itoa_len hq.h0 (by have:=hq.h1; omega)
  have l2:=itoa_len hq.f0 (by have:=hq.f1; omega)
  have l3:=itoa_len hq.c0.1 (by have:=hq.c0.2; omega)
  have l4:=itoa_len hq.c1.1 (by have:=hq.c1.2; omega)
  have lt:(turnT p).length=1:=by unfold turnT; cases (p.turn==0) <;> rfl
  have s32:(ByteArray.mk #[32]).data.toList=([32]:List UInt8):=rfl
  have s43:(ByteArray.mk #[43]).data.toList=([43]:List UInt8):=rfl
  have lr:=hr.2.2.2.2
  unfold N4 ok4
  rw [ok6_t hp,h6,b1,b2,hr.1,hr.2.1,w1,w2,w3,tt,td,p1,p2,k1,k2,k3,k4,s32,s43]
  simp only [Bool.not_true,cond_false,Bool.true_and,Bool.and_true]
  unfold fenT checkT
  cases hv:(p.variant==5) with
  | true =>
    simp only [cond_true]
    have e:Lib.join ([brdT p,turnT p,N9 (rkA p),passT p]++[[43]++itoaL (p.checks.getD 0 0)++[43]++itoaL (p.checks.getD 1 0)]++[itoaL p.half,itoaL p.full]) [32]=brdT p++32::(turnT p++32::(N9 (rkA p)++32::(passT p++32::((43::(itoaL (p.checks.getD 0 0)++43::(itoaL (p.checks.getD 1 0)++[32])))++(itoaL p.half++32::itoaL p.full))))):=by
      simp only [List.cons_append,List.nil_append,Lib.join_cons,Lib.joinTail,List.map_cons,List.map_nil,List.flatten_cons,List.flatten_nil,List.append_assoc,List.append_nil]
    refine ⟨congrArg fin200 e,?_⟩
    unfold okJoin
    rw [e]
    repeat' (first | with_reducible rfl | assumption | exact decide_eq_true (by omega) | exact decide_eq_true (by simp only [List.length_append,List.length_cons,List.length_nil]; omega) | exact decide_eq_true (Nat.le_trans (by omega) (show 100000≤lim by decide)) | exact decide_eq_true (Nat.le_trans (by simp only [List.length_append,List.length_cons,List.length_nil]; omega) (show 100000≤lim by decide)) | refine a_true ?_ (fun _ => ?_))
  | false =>
    simp only [cond_false]
    have e:Lib.join ([brdT p,turnT p,N9 (rkA p),passT p]++[itoaL p.half,itoaL p.full]) [32]=brdT p++32::(turnT p++32::(N9 (rkA p)++32::(passT p++32::([]++(itoaL p.half++32::itoaL p.full))))):=by
      simp only [List.cons_append,List.nil_append,Lib.join_cons,Lib.joinTail,List.map_cons,List.map_nil,List.flatten_cons,List.flatten_nil,List.append_assoc,List.append_nil]
    refine ⟨congrArg fin200 e,?_⟩
    unfold okJoin
    rw [e]
    repeat' (first | with_reducible rfl | assumption | exact decide_eq_true (by omega) | exact decide_eq_true (by simp only [List.length_append,List.length_cons,List.length_nil]; omega) | exact decide_eq_true (Nat.le_trans (by omega) (show 100000≤lim by decide)) | exact decide_eq_true (Nat.le_trans (by simp only [List.length_append,List.length_cons,List.length_nil]; omega) (show 100000≤lim by decide)) | refine a_true ?_ (fun _ => ?_))
end Kz
end
section
namespace Kz
open Go Go.RowKit Go.Proofs
set_option maxRecDepth 100000
set_option maxHeartbeats 0
theorem N5_eq {p:Pos} (hp:PosIn p) (h:Wr13 p):N5 p=fin200 (fenT p)∧ok5 p=true:=by
  have hq:=parts_of hp h
  have hr:=rooks_eq (rkIn_of hp h)
  have h13:=(N13_iff hp).1.2 h
  have k13:=(N13_iff hp).2
  have h19:=(pockets19 hp.v0 hp.v1).2
  obtain ⟨_,_,p3,p4⟩:=pass_eq hq
  obtain ⟨x,ex,e1⟩:=lp51 hp
  have ex':lp5_1 p ((ByteArray.mk #[]).data.toList,7)=some x:=ex
  obtain ⟨q1,q2,q3⟩:=N15_eq hp
  have w1:wr .i64 p.passing=p.passing:=wi64 (by have:=hq.pa0; omega) (by have:=hq.pa1; omega)
  have w2:wr .i64 (p.checks.getD 0 0)=p.checks.getD 0 0:=wi64 (by have:=hq.c0; omega) (by have:=hq.c0; omega)
  have w3:wr .i64 (p.checks.getD 1 0)=p.checks.getD 1 0:=wi64 (by have:=hq.c1; omega) (by have:=hq.c1; omega)
  obtain ⟨n1,k1⟩:=N18_eq hq.h0 (by have:=hq.h1; omega)
  obtain ⟨n2,k2⟩:=N18_eq hq.f0 (by have:=hq.f1; omega)
  obtain ⟨n3,k3⟩:=N18_eq hq.c0.1 (by have:=hq.c0.2; omega)
  obtain ⟨n4,k4⟩:=N18_eq hq.c1.1 (by have:=hq.c1.2; omega)
  have l1:=itoa_len hq.h0 (by have:=hq.h1; omega)
  have l2:=itoa_len hq.f0 (by have:=hq.f1; omega)
  have l3:=itoa_len hq.c0.1 (by have:=hq.c0.2; omega)
  have l4:=itoa_len hq.c1.1 (by have:=hq.c1.2; omega)
  have s0:(ByteArray.mk #[]).data.toList=([]:List UInt8):=rfl
  have s32:(ByteArray.mk #[32]).data.toList=([32]:List UInt8):=rfl
  have s43:(ByteArray.mk #[43]).data.toList=([43]:List UInt8):=rfl
  have sw:(ByteArray.mk #[32,119,32]).data.toList=([32,119,32]:List UInt8):=rfl
  have sb:(ByteArray.mk #[32,98,32]).data.toList=([32,98,32]:List UInt8):=rfl
  have sd:(ByteArray.mk #[32,45,32]).data.toList=([32,45,32]:List UInt8):=rfl
  have lb:=bd_len hp 8
  obtain ⟨_,_,r3,r4,r5⟩:=hr
  have l17:decide (p.passing < 0)=false→(N17 p.passing).length≤2:=by
    intro e
    unfold passT at p4
    rw [e,cond_false] at p4
    exact p4
  unfold N5 ok5
  rw [ex',h13,k13,q2,r3,r4,w1,w2,w3,p3,n1,n2,n3,n4,k1,k2,k3,k4,sw,sb,sd,s32,s43]
  simp only [Bool.not_true,cond_false,Bool.true_and,Bool.and_true,Option.getD_some,Option.isSome_some,e1]
  cases h2:(p.variant==2) <;> cases ht:(p.turn==0) <;> cases hz:decide (p.passing < 0) <;> cases h5:(p.variant==5) <;> simp only [cond_true,cond_false] <;> (
    constructor
    · refine congrArg fin200 ?_
      unfold fenT brdT turnT passT checkT
      simp only [h19,h2,ht,hz,h5,q1,cond_true,cond_false,List.append_assoc,List.cons_append,List.nil_append]
    · have lv:=l17
      rw [hz] at lv
      first | have lw:=lv rfl | skip
      repeat' (first | with_reducible refine a_true ?_ (fun _ => ?_) | with_reducible assumption | with_reducible rfl | exact decide_eq_true (by omega) | exact decide_eq_true (by simp only [List.length_append,List.length_cons,List.length_nil]; omega) | exact decide_eq_true (Nat.le_trans (by omega) (show 100000≤lim by decide)) | exact decide_eq_true (Nat.le_trans (by simp only [List.length_append,List.length_cons,List.length_nil]; omega) (show 100000≤lim by decide))))
theorem law3_all {p:Pos} (hp:PosIn p):N3 p=true∧ok3 p=true:=by
  by_cases h:Wr13 p
  · obtain ⟨a,b⟩:=N4_eq hp h
    obtain ⟨c,d⟩:=N5_eq hp h
    unfold N3 ok3
    rw [a,c,b,d]
    exact ⟨beq_self_eq_true _,rfl⟩
  · have h6:N6 p=false:=by
      cases e:N6 p with
      | false=>rfl
      | true=>exact absurd ((N6_iff hp).1 e) h
    have h13:N13 p=false:=by rw [← N6_eq hp]; exact h6
    have e4:N4 p=[]∧ok4 p=true:=by
      unfold N4 ok4
      rw [ok6_t hp,h6]
      exact ⟨rfl,rfl⟩
    have e5:N5 p=[]∧ok5 p=true:=by
      unfold N5 ok5
      rw [(N13_iff hp).2,h13]
      exact ⟨rfl,rfl⟩
    unfold N3 ok3
    rw [e4.1,e4.2,e5.1,e5.2]
    exact ⟨rfl,rfl⟩
end Kz
end
