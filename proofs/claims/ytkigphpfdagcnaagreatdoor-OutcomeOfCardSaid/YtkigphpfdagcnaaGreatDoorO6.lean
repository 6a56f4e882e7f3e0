/- Part 6 of the texts under the proof: an abstract interpreter,the summaries of functions,plain laws. -/
import Derived.Test.YtkigphpfdagcnaaGreatDoorO5
import Derived.Shelf.SlicesE.Clone
import Derived.Shelf.SlicesQ.IndexFunc
import Derived.Sort.WalkB12
import Derived.Shelf.SlicesQ.Load
import Derived.Lib.SliceRun
import Derived.Lib.SlKept
import Derived.Lib.Hide
import Derived.Shelf.SlicesE.DeleteFunc
set_option linter.unusedSectionVars false
set_option linter.unusedVariables false
set_option linter.unusedSimpArgs false
set_option linter.unnecessarySimpa false
section
namespace Kz
open Go Go.RowKit
set_option maxRecDepth 100000
set_option maxHeartbeats 1000000
set_option linter.unusedSectionVars false
theorem scan {R:Type} {bad:Nat→Bool} {lo hi:Nat} {x:Int} {ok:Int→Bool} {st:Int→Stp Int R} {isl:R→Bool} (hx:x=(lo:Int)) (hl:lo≤hi+1) (hh:hi < 1000)
    (hok:∀ n:Nat,lo≤n→n≤hi+1→ok (n:Int)=true)
    (h1:∀ n:Nat,lo≤n→n≤hi→(bad n=true→∃ r,st (n:Int)=.out r∧isl r=true)∧(bad n=false→st (n:Int)=.go ((n:Int)+1)))
    (h2:∃ r,st ((hi:Int)+1)=.out r∧isl r=false) :
    ∃ r,itl (fun x=>bif ok x then st x else .bad) many x=some r∧(isl r=false ↔ ∀ s:Nat,lo≤s→s≤hi→bad s=false):=by
  refine lp_many (I:=fun x => ∃ n:Nat,x=(n:Int)∧lo≤n∧n≤hi+1∧∀ s,lo≤s→s < n→bad s=false) (μ:=fun x=>((hi:Int)+1 - x).toNat) ?_ _ ⟨lo,hx,Nat.le_refl _,hl,fun s a b=>by omega⟩ (by omega)
  rintro _ ⟨n,rfl,a1,a2,a3⟩
  refine ⟨hok n a1 a2,?_⟩
  by_cases hn:n≤hi
  · obtain ⟨b1,b2⟩:=h1 n a1 hn
    cases hb:bad n with
    | true =>
      obtain ⟨r,e,hr⟩:=b1 hb
      rw [e]
      show (isl r=false ↔ ∀ s:Nat,lo≤s→s≤hi→bad s=false)
      rw [hr]
      exact ⟨fun h=>(by cases h),fun h=>(by rw [h n a1 hn] at hb; cases hb)⟩
    | false =>
      rw [b2 hb]
      refine ⟨⟨n+1,by omega,by omega,by omega,fun s c1 c2 => ?_⟩,by dsimp only; omega⟩
      by_cases e:s=n
      · rw [e]; exact hb
      · exact a3 s c1 (by omega)
  · have e:n=hi+1:=by omega
    subst e
    obtain ⟨r,e,hr⟩:=h2
    rw [show ((hi+1:Nat):Int)=(hi:Int)+1 by omega,e]
    show (isl r=false ↔ ∀ s:Nat,lo≤s→s≤hi→bad s=false)
    rw [hr]
    exact ⟨fun _ s c1 c2=>a3 s c1 (by omega),fun _=>rfl⟩
theorem nf {b:Bool}:(!b)=false ↔ b=true:=by cases b <;> simp
theorem bit_test0 (x:BitVec 64) {k:Nat} (hk:k < 64):(x >>> k&&&1#64==0#64)=!x.getLsbD k:=by
  have h:(x >>> k&&&1#64).toNat=(x.getLsbD k).toNat:=by
    rw [BitVec.toNat_and,BitVec.toNat_ushiftRight,Nat.shiftRight_eq_div_pow,show (1#64).toNat=2 ^ 1 - 1 from rfl,Nat.and_two_pow_sub_one_eq_mod,BitVec.getLsbD,Nat.testBit_eq_decide_div_mod_eq]
    have:=Nat.mod_two_eq_zero_or_one (x.toNat / 2 ^ k)
    rcases this with h | h
    · rw [show (2:Nat) ^ 1=2 from rfl,h]; rfl
    · rw [show (2:Nat) ^ 1=2 from rfl,h]; rfl
  cases hb:x.getLsbD k with
  | true =>
    rw [hb] at h
    have:x >>> k&&&1#64=1#64:=BitVec.eq_of_toNat_eq h
    rw [this]; rfl
  | false =>
    rw [hb] at h
    have:x >>> k&&&1#64=0#64:=BitVec.eq_of_toNat_eq h
    rw [this]; rfl
theorem N195_eq (s a b:Int):N195 s a b=true ↔ (a≤s∧s≤b)∨(b≤s∧s≤a):=by
  have e:N195 s a b=(decide (s ≥ a)&&decide (s≤b) || decide (s ≥ b)&&decide (s≤a)):=by
    unfold N195
    cases decide (s ≥ a) <;> cases decide (s≤b) <;> cases decide (s ≥ b) <;> cases decide (s≤a) <;> rfl
  rw [e]
  simp only [Bool.or_eq_true,Bool.and_eq_true,decide_eq_true_eq,ge_iff_le]
theorem gset {l:List Int} {i:Nat} (hi:i < l.length) (j:Nat) (v:Int):(l.set i v).getD j 0=if i=j then v else l.getD j 0:=by
  rw [List.getD_eq_getElem?_getD,List.getD_eq_getElem?_getD,List.getElem?_set]
  split
  · rename_i e
    subst e
    rfl
  · rfl
noncomputable def off (p:Pos) (k r:Int):Pos:=Pos.mk p.variant ((p.board.set (scale 1 k).toNat 0).set (scale 1 r).toNat 0) p.promoted p.pockets p.turn p.rooks p.passing p.checks p.half p.full
theorem off_in {p:Pos} (hp:PosIn p) (k r:Int):PosIn (off p k r):=by
  refine ⟨hp.v0,hp.v1,by simp [off,hp.bl],fun x hx => ?_,hp.kl,hp.k0,hp.t0,hp.t1,hp.rl,hp.r0,hp.p0,hp.p1,hp.cl,hp.c0,hp.h0,hp.f0⟩
  rcases List.mem_or_eq_of_mem_set hx with hx | rfl
  · rcases List.mem_or_eq_of_mem_set hx with hx | rfl
    · exact hp.b0 _ hx
    · omega
  · omega
theorem off_at {p:Pos} (hp:PosIn p) {k r:Nat} (hk:k < 64) (hr:r < 64) (s:Nat):(off p k r).board.getD s 0=if r=s then 0 else if k=s then 0 else p.board.getD s 0:=by
  have e1:(scale 1 (k:Int)).toNat=k:=by unfold scale; simp
  have e2:(scale 1 (r:Int)).toNat=r:=by unfold scale; simp
  show ((p.board.set (scale 1 (k:Int)).toNat 0).set (scale 1 (r:Int)).toNat 0).getD s 0=_
  rw [e1,e2,gset (by simp [hp.bl,hr]),gset (by simp [hp.bl,hk])]
theorem off_of {p:Pos} (hp:PosIn p) {k r:Nat} (hk:k < 64) (hr:r < 64) {o:Int} (h1:tOf o 6 (p.board.getD k 0)=false) (h2:tOf o 6 (p.board.getD r 0)=false) (hz:tOf o 6 0=false):N101 (off p k r) o 6=N101 p o 6:=by
  refine BitVec.eq_of_getLsbD_eq fun s hs => ?_
  rw [N101_bit _ _ _ hs,N101_bit _ _ _ hs,off_at hp hk hr]
  split
  · rename_i e; rw [← e,hz,h2]
  · split
    · rename_i e; rw [← e,hz,h1]
    · rfl
theorem kings_bit {q:Pos} {o:Int} {k:Nat} (hk:k < 64) {n:Nat} (hn:n < 64):(N149 k&&&N101 q o 6).getLsbD n=(N158 n k&&tOf o 6 (q.board.getD n 0)):=by
  obtain ⟨_,f6,_⟩:=hits_fin ⟨n,hn⟩ ⟨k,hk⟩
  obtain ⟨_,y6,_⟩:=sym_fin ⟨n,hn⟩ ⟨k,hk⟩
  simp only at f6 y6
  rw [BitVec.getLsbD_and,N101_bit _ _ _ hn,← y6,← f6]
  have:hitsF 6 0 n k false=N158 n k:=by
    have h:∀ a b:Fin 64,hitsF 6 0 a.val b.val false=N158 a.val b.val:=by decide +kernel
    exact h ⟨n,hn⟩ ⟨k,hk⟩
  rw [this]
section
variable {q:Pos} (hq:PosIn q) (ht:q.turn=0∨q.turn=1)
include hq ht
theorem lp196 {s:Nat} (hs:s < 64):∃ r,lp196_1 s q 0=some r∧isL r=(q.variant==3&&(N149 s&&&N101 q (1 - q.turn) 6 != 0#64)):=by
  have w1:wr .u8 (1 - q.turn)=1 - q.turn:=wu8 (by omega) (by omega)
  cases hv:q.variant==3 with
  | false =>
    have e:itl (fun x=>bif okL196_1 s q x then st196_1 s q x else .bad) 1 0=some (.inr (0,false)):=by
      rw [itl]
      have:(bif okL196_1 s q 0 then st196_1 s q 0 else .bad)=.out (.inr (0,false)):=by
        unfold okL196_1 st196_1
        rw [hv]
        rfl
      rw [this]
    exact ⟨_,itl_more _ many _ _ (by unfold many; omega) e,rfl⟩
  | true =>
    obtain ⟨r,e,hr⟩:=scan (bad:=fun n=>N158 n s&&tOf (1 - q.turn) 6 (q.board.getD n 0)) (lo:=0) (hi:=63) (x:=0) (ok:=okL196_1 s q) (st:=st196_1 s q) (isl:=isL) rfl (by omega) (by omega) (fun n _ a2=>by
        unfold okL196_1
        rw [hv,w1]
        refine c_true (fun hc => ?_) fun _=>rfl
        have hc:(n:Int) < 64:=by simpa using hc
        rw [(N157_is hq (c:=1 - q.turn) (k:=6) (by omega) (by omega) (by omega) (show n < 64 by omega)).1]
        rfl) (fun n _ a2=>by
        obtain ⟨e1,e2⟩:=N157_is hq (c:=1 - q.turn) (k:=6) (by omega) (by omega) (by omega) (show n < 64 by omega)
        unfold st196_1
        rw [hv,w1,e2,wi64 (n:=(n:Int)+1) (by omega) (by omega),decide_eq_true (show (n:Int) < 64 by omega)]
        cases N158 n s <;> cases tOf (1 - q.turn) 6 (q.board.getD n 0) <;> exact ⟨fun h=>by first | (cases h; done) | exact ⟨_,rfl,rfl⟩,fun h=>by first | (cases h; done) | rfl⟩)
        ⟨_,by unfold st196_1; rw [decide_eq_false (show ¬ (((63:Nat):Int)+1 < 64) by omega)]; rfl,rfl⟩
    refine ⟨r,e,?_⟩
    rw [Bool.true_and]
    cases hz:(N149 s&&&N101 q (1 - q.turn) 6 != 0#64) with
    | false =>
      refine hr.2 fun n _ a2 => ?_
      have hz:N149 s&&&N101 q (1 - q.turn) 6=0#64:=by simpa using hz
      rw [← kings_bit hs (show n < 64 by omega),hz]
      simp
    | true =>
      cases hl:isL r with
      | true=>rfl
      | false =>
        have hr:=hr.1 hl
        have:N149 s&&&N101 q (1 - q.turn) 6=0#64:=BitVec.eq_of_getLsbD_eq fun j hj=>by
          rw [kings_bit hs hj]
          have:=hr j (by omega) (by omega)
          rw [this]
          simp
        rw [this] at hz
        cases hz
theorem N196_eq {s:Nat} (hs:s < 64):ok196 q s=true∧N196 q s=((q.variant==3&&(N149 s&&&N101 q (1 - q.turn) 6 != 0#64)) || (N190 q s (1 - q.turn)==0#64)):=by
  have w1:wr .u8 (1 - q.turn)=1 - q.turn:=wu8 (by omega) (by omega)
  obtain ⟨o1,o2⟩:=N105_eq hq ht hs (c:=1 - q.turn) (by omega)
  obtain ⟨l1,l2⟩:=of_some (lp196 hq ht hs)
  unfold ok196 N196
  rw [l1,l2,w1,o1,o2]
  cases (q.variant==3&&(N149 s&&&N101 q (1 - q.turn) 6 != 0#64)) <;> exact ⟨rfl,rfl⟩
end
theorem lp141a_is (p1:Pos) (p2:List Int) (p3:Pos) (p4 p5:BitVec 64) {p6 p7 x:Int} {lo hi:Nat} (hx:x=lo) (hm:(if p7 > p6 then p7 else p6)=(hi:Int)) (hl:lo≤hi+1) (hh:hi < 64):∃ r,lp141_1 p1 p2 p3 p4 p5 p6 p7 x=some r∧(isL r=false ↔ ∀ s:Nat,lo≤s→s≤hi→p4.getLsbD s=false):=by
  refine scan (bad:=fun s=>p4.getLsbD s) hx hl (by omega) (fun _ _ _=>rfl) (fun n a1 a2 => ?_) ?_
  · unfold st141_1
    rw [hm,decide_eq_true (show (n:Int)≤hi by omega),ofInt_nat (by omega) (by omega),show ((n:Int)).toNat=n by omega,bit_test0 _ (by omega),Bool.not_not,wi64 (by omega) (by omega)]
    exact ⟨fun h=>by rw [h]; exact ⟨_,rfl,rfl⟩,fun h=>by rw [h]; rfl⟩
  · unfold st141_1
    rw [hm,decide_eq_false (by omega)]
    exact ⟨_,rfl,rfl⟩
theorem lp141b_is (p1:Pos) (p2:List Int) (p3:Pos) (p4 p5:BitVec 64) (p6 p7:Int) {p8 p9 x:Int} {lo hi:Nat} (hx:x=lo) (hm:(if p9 > p8 then p9 else p8)=(hi:Int)) (hl:lo≤hi+1) (hh:hi < 64):∃ r,lp141_2 p1 p2 p3 p4 p5 p6 p7 p8 p9 x=some r∧(isL r=false ↔ ∀ s:Nat,lo≤s→s≤hi→p4.getLsbD s=false):=by
  refine scan (bad:=fun s=>p4.getLsbD s) hx hl (by omega) (fun _ _ _=>rfl) (fun n a1 a2 => ?_) ?_
  · unfold st141_2
    rw [hm,decide_eq_true (show (n:Int)≤hi by omega),ofInt_nat (by omega) (by omega),show ((n:Int)).toNat=n by omega,bit_test0 _ (by omega),Bool.not_not,wi64 (by omega) (by omega)]
    exact ⟨fun h=>by rw [h]; exact ⟨_,rfl,rfl⟩,fun h=>by rw [h]; rfl⟩
  · unfold st141_2
    rw [hm,decide_eq_false (by omega)]
    exact ⟨_,rfl,rfl⟩
theorem lp141c_is (p1:Pos) (p2:List Int) (p3:Pos) (p4 p5:BitVec 64) (p6 p7 p8 p9:Int) {p10 p11 x:Int} {lo hi:Nat} (hx:x=lo) (hm:(if p11 > p10 then p11 else p10)=(hi:Int)) (hl:lo≤hi+1) (hh:hi < 64):∃ r,lp141_3 p1 p2 p3 p4 p5 p6 p7 p8 p9 p10 p11 x=some r∧(isL r=false ↔ ∀ s:Nat,lo≤s→s≤hi→((p1.variant==3&&(N149 s&&&p5 != 0#64)) || (N190 p3 s (wr .u8 (1 - p1.turn))==0#64))=true):=by
  have h:=scan (R:=Int ⊕ (Int×Bool)) (isl:=isL) (ok:=okL141_3 p1 p2 p3 p4 p5 p6 p7 p8 p9 p10 p11) (st:=st141_3 p1 p2 p3 p4 p5 p6 p7 p8 p9 p10 p11) (bad:=fun s => !((p1.variant==3&&(N149 s&&&p5 != 0#64)) || (N190 p3 s (wr .u8 (1 - p1.turn))==0#64))) hx hl (by omega) (fun n _ _=>by
      unfold okL141_3
      repeat' (first | with_reducible rfl | with_reducible exact t149 _ | with_reducible exact t156 _ _ _ | refine a_true ?_ (fun _ => ?_) | refine c_true (fun _ => ?_) (fun _ => ?_))) (fun n a1 a2=>by
      unfold st141_3 N156
      rw [hm,decide_eq_true (show (n:Int)≤hi by omega),wi64 (by omega) (by omega),show (N190 p3 n (wr .u8 (1 - p1.turn)) != 0#64)=!(N190 p3 n (wr .u8 (1 - p1.turn))==0#64) from rfl]
      cases p1.variant==3 <;> cases (N149 n&&&p5 != 0#64) <;> cases (N190 p3 n (wr .u8 (1 - p1.turn))==0#64) <;> exact ⟨fun h=>by first | (cases h; done) | exact ⟨_,rfl,rfl⟩,fun h=>by first | (cases h; done) | rfl⟩)
      (by
        unfold st141_3
        rw [hm,decide_eq_false (by omega)]
        exact ⟨_,rfl,rfl⟩)
  obtain ⟨r,e,hr⟩:=h
  refine ⟨r,e,hr.trans ⟨fun h s a b => ?_,fun h s a b => ?_⟩⟩
  · exact nf.1 (h s a b)
  · exact nf.2 (h s a b)
theorem lp163_is {q:Pos} (hq:PosIn q) (ht:q.turn=0∨q.turn=1) (p6:Pos) {h:Nat} (hh:h≤56) {k r x y:Int} (hk:0≤x∧x≤7) (hy:0≤y∧y≤7) :
    ∃ o,lp163_1 h k r x y p6 q h=some o∧(isL o=false ↔ ∀ s:Nat,h≤s→s≤h+7→((N195 s k (h+x) || N195 s r (h+y))&&N106 (q.board.getD s 0) != 0 || N195 s k (h+x)&&!N196 q s)=false):=by
  refine scan (bad:=fun s=>((N195 s k (h+x) || N195 s r (h+y))&&N106 (q.board.getD s 0) != 0 || N195 s k (h+x)&&!N196 q s)) rfl (by omega) (by omega) (fun n a1 a2 => ?_) (fun n a1 a2 => ?_) ?_
  · unfold okL163_1
    refine c_true (fun hc => ?_) fun _=>rfl
    have hc:(n:Int) < h+8:=by
      rw [wi64 (by omega) (by omega)] at hc
      simpa using hc
    have k1:(decide (0≤(n:Int))&&decide ((n:Int) < Int.ofNat 64))=true:=by simp; omega
    rw [(N196_eq hq ht (show n < 64 by omega)).1,k1]
    repeat' (first | with_reducible rfl | refine a_true ?_ (fun _ => ?_) | refine c_true (fun _ => ?_) (fun _ => ?_))
  · have hsc:(scale 1 (n:Int)).toNat=n:=by unfold scale; simp
    unfold st163_1
    rw [wi64 (n:=(h:Int)+8) (by omega) (by omega),wi64 (n:=(h:Int)+x) (by omega) (by omega),wi64 (n:=(h:Int)+y) (by omega) (by omega),wi64 (n:=(n:Int)+1) (by omega) (by omega),hsc,decide_eq_true (show (n:Int) < h+8 by omega)]
    cases N195 n k (h+x) <;> cases N195 n r (h+y) <;> cases (N106 (q.board.getD n 0) != 0) <;> cases N196 q n <;> exact ⟨fun h=>by first | (cases h; done) | exact ⟨_,rfl,rfl⟩,fun h=>by first | (cases h; done) | rfl⟩
  · unfold st163_1
    rw [wi64 (n:=(h:Int)+8) (by omega) (by omega),decide_eq_false (show ¬ (((h+7:Nat):Int)+1 < h+8) by omega)]
    exact ⟨_,rfl,rfl⟩
theorem rook_fin:∀ (c:Fin 2) (v:Fin 256),tOf c.val 4 v.val=((v.val:Int)==8 * (c.val:Int)+4)∧(tOf c.val 4 v.val=true→tOf c.val 6 v.val=false∧tOf (1 - c.val) 6 v.val=false)∧(tOf c.val 6 v.val=true→tOf (1 - c.val) 6 v.val=false):=by decide +kernel
theorem cvar_fin:∀ v:Fin 256,N194 v.val=N110 v.val:=by decide +kernel
section
variable {p:Pos} (hp:PosIn p)
include hp
theorem ways {t k r x y:Nat} (ht:t≤1) (hpt:p.turn=t) (k0:56 * t≤k) (k7:k≤56 * t+7) (r0:56 * t≤r) (r7:r≤56 * t+7) (hx:x≤7) (hy:y≤7) (l:List Int)
    (h1:tOf (1 - p.turn) 6 (p.board.getD k 0)=false) (h2:tOf (1 - p.turn) 6 (p.board.getD r 0)=false) {gk gr m1 m2:Int} (hgk:gk=((56 * t+x:Nat):Int)) (hgr:gr=((56 * t+y:Nat):Int)) (hm1:m1=if gk < k then gk else k) (hm2:m2=if gr < r then gr else r) :
    (lp163_1 ((56 * t:Nat):Int) k r x y p (off p k r) ((56 * t:Nat):Int)).isSome=true ∧
    isL ((lp163_1 ((56 * t:Nat):Int) k r x y p (off p k r) ((56 * t:Nat):Int)).getD default) =
      (isL ((lp141_1 p l (off p k r) (N143 (off p k r)) (N101 p (wr .u8 (1 - p.turn)) 6) k gk m1).getD default) || (isL ((lp141_2 p l (off p k r) (N143 (off p k r)) (N101 p (wr .u8 (1 - p.turn)) 6) k gk r gr m2).getD default) || isL ((lp141_3 p l (off p k r) (N143 (off p k r)) (N101 p (wr .u8 (1 - p.turn)) 6) k gk r gr k gk m1).getD default))):=by
  have w1:wr .u8 (1 - p.turn)=1 - p.turn:=wu8 (by omega) (by omega)
  have hq:=off_in hp (k:Int) (r:Int)
  have hqt:(off p k r).turn=0∨(off p k r).turn=1:=by show p.turn=0∨p.turn=1; omega
  have hz:tOf (1 - p.turn) 6 0=false:=by
    have:p.turn=0∨p.turn=1:=by omega
    rcases this with h | h <;> rw [h] <;> decide +kernel
  have hof:=off_of hp (k:=k) (r:=r) (by omega) (by omega) h1 h2 hz
  obtain ⟨s0,a0⟩:=of_some (lp163_is hq hqt p (h:=56 * t) (by omega) (k:=k) (r:=r) (x:=x) (y:=y) (by omega) (by omega))
  obtain ⟨_,a1⟩:=of_some (lp141a_is p l (off p k r) (N143 (off p k r)) (N101 p (wr .u8 (1 - p.turn)) 6) (p6:=k) (p7:=gk) (x:=m1) (lo:=min (56 * t+x) k) (hi:=max (56 * t+x) k) (by rw [hm1]; split <;> omega) (by split <;> omega) (by omega) (by omega))
  obtain ⟨_,a2⟩:=of_some (lp141b_is p l (off p k r) (N143 (off p k r)) (N101 p (wr .u8 (1 - p.turn)) 6) k gk (p8:=r) (p9:=gr) (x:=m2) (lo:=min (56 * t+y) r) (hi:=max (56 * t+y) r) (by rw [hm2]; split <;> omega) (by split <;> omega) (by omega) (by omega))
  obtain ⟨_,a3⟩:=of_some (lp141c_is p l (off p k r) (N143 (off p k r)) (N101 p (wr .u8 (1 - p.turn)) 6) k gk r gr (p10:=k) (p11:=gk) (x:=m1) (lo:=min (56 * t+x) k) (hi:=max (56 * t+x) k) (by rw [hm1]; split <;> omega) (by split <;> omega) (by omega) (by omega))
  refine ⟨s0,?_⟩
  have key:(isL ((lp163_1 ((56 * t:Nat):Int) k r x y p (off p k r) ((56 * t:Nat):Int)).getD default)=false) ↔
      ((isL ((lp141_1 p l (off p k r) (N143 (off p k r)) (N101 p (wr .u8 (1 - p.turn)) 6) k gk m1).getD default)=false)∧(isL ((lp141_2 p l (off p k r) (N143 (off p k r)) (N101 p (wr .u8 (1 - p.turn)) 6) k gk r gr m2).getD default)=false)∧(isL ((lp141_3 p l (off p k r) (N143 (off p k r)) (N101 p (wr .u8 (1 - p.turn)) 6) k gk r gr k gk m1).getD default)=false)):=by
    rw [a0,a1,a2,a3]
    have safe:∀ s:Nat,s < 64→((p.variant==3&&(N149 s&&&N101 p (wr .u8 (1 - p.turn)) 6 != 0#64)) || (N190 (off p k r) s (wr .u8 (1 - p.turn))==0#64))=N196 (off p k r) s:=fun s hs=>by
      rw [(N196_eq hq hqt hs).2,w1,show (off p k r).turn=p.turn from rfl,hof]
      rfl
    constructor
    · intro h
      refine ⟨fun s b1 b2 => ?_,fun s b1 b2 => ?_,fun s b1 b2 => ?_⟩
      · have hs:=h s (by omega) (by omega)
        have w:N195 s k (((56 * t:Nat):Int)+x)=true:=(N195_eq _ _ _).2 (by omega)
        rw [w] at hs
        simp only [Bool.true_or,Bool.true_and,Bool.or_eq_false_iff,bne_eq_false_iff_eq] at hs
        exact (occ59 hq (by omega)).2 hs.1
      · have hs:=h s (by omega) (by omega)
        have w:N195 s r (((56 * t:Nat):Int)+y)=true:=(N195_eq _ _ _).2 (by omega)
        rw [w] at hs
        simp only [Bool.or_true,Bool.true_and,Bool.or_eq_false_iff,bne_eq_false_iff_eq] at hs
        exact (occ59 hq (by omega)).2 hs.1
      · have hs:=h s (by omega) (by omega)
        have w:N195 s k (((56 * t:Nat):Int)+x)=true:=(N195_eq _ _ _).2 (by omega)
        rw [w] at hs
        simp only [Bool.true_or,Bool.true_and,Bool.or_eq_false_iff,Bool.not_eq_false'] at hs
        rw [safe s (by omega)]
        exact hs.2
    · rintro ⟨c1,c2,c3⟩ s b1 b2
      cases w:N195 s k (((56 * t:Nat):Int)+x) with
      | true =>
        have hw:=(N195_eq _ _ _).1 w
        have d1:=c1 s (by omega) (by omega)
        have d3:=c3 s (by omega) (by omega)
        rw [safe s (by omega)] at d3
        rw [(occ59 hq (by omega)).1 d1,d3]
        simp
      | false =>
        cases w':N195 s r (((56 * t:Nat):Int)+y) with
        | true =>
          have hw:=(N195_eq _ _ _).1 w'
          have d2:=c2 s (by omega) (by omega)
          rw [(occ59 hq (by omega)).1 d2]
          simp
        | false=>simp
  revert key
  generalize isL ((lp163_1 ((56 * t:Nat):Int) k r x y p (off p k r) ((56 * t:Nat):Int)).getD default)=A
  generalize isL ((lp141_1 p l (off p k r) (N143 (off p k r)) (N101 p (wr .u8 (1 - p.turn)) 6) k gk m1).getD default)=B
  generalize isL ((lp141_2 p l (off p k r) (N143 (off p k r)) (N101 p (wr .u8 (1 - p.turn)) 6) k gk r gr m2).getD default)=C
  generalize isL ((lp141_3 p l (off p k r) (N143 (off p k r)) (N101 p (wr .u8 (1 - p.turn)) 6) k gk r gr k gk m1).getD default)=D
  cases A <;> cases B <;> cases C <;> cases D <;> simp
theorem cast_one {c:Int} (hc:c=0∨c=1) {t k:Nat} (ht:t≤1) (hpt:p.turn=t) (hv:N110 p.variant=true) (hk:N99 p p.turn 6=k) (hkt:tOf p.turn 6 (p.board.getD k 0)=true) (k0:56 * t≤k) (k7:k≤56 * t+7) :
    ok163 p c=true∧∃ r:Int,N163 p c=(bif (N141 p k c).2 then ((k:Int),r,true) else (0,0,false))∧((N141 p k c).2=true→(N141 p k c).1=⟨wr .i8 k,wr .i8 r,0,0,true⟩):=by
  have htt:p.turn=0∨p.turn=1:=by omega
  obtain ⟨o129,e129⟩:=N131_eq hp (c:=p.turn) (k:=6) htt (by omega) (by omega)
  rw [hk] at e129
  have hvar:N194 p.variant=true:=by
    have v0:=hp.v0
    have v1:=hp.v1
    obtain ⟨n,hn⟩:=Int.eq_ofNat_of_zero_le v0
    have:=cvar_fin ⟨n,by omega⟩
    rw [hn] at hv ⊢
    exact this.trans hv
  have hf:=getD_in hp.r0 (d:=0) (by omega) (scale 2 p.turn+scale 1 c).toNat
  obtain ⟨x,y,hx,hy,n1,n2,g1,g2⟩:∃ x y:Nat,x≤7∧y≤7∧(N165 c).1=x∧(N165 c).2=y∧(List.take 2 (List.drop (c.toNat * 2) (li [6,5,2,3]))).getD 0 0=x∧(List.take 2 (List.drop (c.toNat * 2) (li [6,5,2,3]))).getD 1 0=y:=by
    rcases hc with rfl | rfl
    · exact ⟨6,5,by omega,by omega,rfl,rfl,rfl,rfl⟩
    · exact ⟨2,3,by omega,by omega,rfl,rfl,rfl,rfl⟩
  have d1:decide (p.turn > 1)=false:=by simp; omega
  have wt:wr .i64 p.turn=t:=by rw [wi64 (by omega) (by omega)]; exact hpt
  have w56:wr .i64 (56 * (t:Int))=((56 * t:Nat):Int):=by rw [wi64 (by omega) (by omega)]; omega
  have w63:wr .i64 (((56 * t:Nat):Int)+7)=((56 * t+7:Nat):Int):=by rw [wi64 (by omega) (by omega)]; omega
  have n110:N140 p.turn=((56 * t:Nat):Int):=by unfold N140; rw [wt,w56]
  have b1:(decide (0≤p.turn)&&decide (p.turn < Int.ofNat 2))=true:=by simp; omega
  have b2:(decide (0≤c)&&decide (c < Int.ofNat 2))=true:=by simp; omega
  have c1:decide ((k:Int) < ((56 * t:Nat):Int))=false:=by simp; omega
  have c2:decide ((k:Int) > ((56 * t+7:Nat):Int))=false:=by simp; omega
  unfold ok163 N163
  rw [d1,hvar,o129,e129,wt,w56,w63,b1,b2,c1,c2]
  generalize hF:p.rooks.getD (scale 2 p.turn+scale 1 c).toNat 0=f at hf
  rw [wi64 (n:=f) (by omega) (by omega)]
  simp only [cond_false,Bool.not_true,Bool.true_and]
  have no:(N179 p k c).2=false→N141 p k c=(⟨0,0,0,0,false⟩,false):=fun h=>by unfold N141; rw [h]; rfl
  have none:N141 p k c=(⟨0,0,0,0,false⟩,false)→∃ r:Int,((0:Int),(0:Int),false)=(bif (N141 p k c).2 then ((k:Int),r,true) else (0,0,false))∧((N141 p k c).2=true→(N141 p k c).1=⟨wr .i8 k,wr .i8 r,0,0,true⟩):=fun h=>⟨0,by rw [h]; exact ⟨rfl,fun h=>by cases h⟩⟩
  by_cases f0:f < 0
  · rw [decide_eq_true f0]
    refine ⟨rfl,none (no ?_)⟩
    unfold N179
    rw [hF,wi64 (n:=f) (by omega) (by omega),decide_eq_true f0]
    rfl
  by_cases f7:f > 7
  · rw [decide_eq_false f0,decide_eq_true f7]
    refine ⟨rfl,none (no ?_)⟩
    unfold N179
    rw [hF,wi64 (n:=f) (by omega) (by omega),decide_eq_false f0,decide_eq_true f7]
    rfl
  obtain ⟨n,rfl⟩:=Int.eq_ofNat_of_zero_le (show 0≤f by omega)
  have wr_:wr .i64 (((56 * t:Nat):Int)+(n:Int))=((56 * t+n:Nat):Int):=by rw [wi64 (by omega) (by omega)]; omega
  rw [decide_eq_false f0,decide_eq_false f7,wr_]
  simp only [cond_false]
  obtain ⟨r,hr⟩:∃ r,r=56 * t+n:=⟨_,rfl⟩
  rw [← hr] at wr_ ⊢
  obtain ⟨o172,e172⟩:=N157_is hp (c:=p.turn) (k:=4) htt (by omega) (by omega) (show r < 64 by omega)
  obtain ⟨v0,v1⟩:=bd_in hp r
  have hv4:tOf p.turn 4 (p.board.getD r 0)=(p.board.getD r 0==wr .u8 (wr .u8 (8 * p.turn)+4))∧(tOf p.turn 4 (p.board.getD r 0)=true→tOf p.turn 6 (p.board.getD r 0)=false∧tOf (1 - p.turn) 6 (p.board.getD r 0)=false):=by
    obtain ⟨m,hm⟩:=Int.eq_ofNat_of_zero_le v0
    have h:=rook_fin ⟨t,by omega⟩ ⟨m,by omega⟩
    simp only at h
    rw [hm,hpt,wu8 (n:=8 * (t:Int)) (by omega) (by omega),wu8 (n:=8 * (t:Int)+4) (by omega) (by omega)]
    exact ⟨h.1,h.2.1⟩
  have hk6:tOf (1 - p.turn) 6 (p.board.getD k 0)=false:=by
    obtain ⟨u0,u1⟩:=bd_in hp k
    obtain ⟨m,hm⟩:=Int.eq_ofNat_of_zero_le u0
    have h:=rook_fin ⟨t,by omega⟩ ⟨m,by omega⟩
    simp only at h
    rw [hm,hpt] at hkt ⊢
    exact h.2.2 hkt
  have e160:N179 p k c=(bif tOf p.turn 4 (p.board.getD r 0) then (bif (decide ((r:Int) > k)==(c==0)) then ((r:Int),(r:Int) != k) else ((r:Int),false)) else ((r:Int),false)):=by
    have hsc:(scale 1 (r:Int)).toNat=r:=by unfold scale; simp
    unfold N179
    rw [hF,wi64 (n:=(n:Int)) (by omega) (by omega),decide_eq_false f0,decide_eq_false f7,n110,wr_,hsc,hv4.1]
    rfl
  rw [o172,e172]
  cases h4:tOf p.turn 4 (p.board.getD r 0) with
  | false =>
    rw [h4] at e160
    exact ⟨rfl,none (no (by rw [e160]; rfl))⟩
  | true =>
    rw [h4] at e160
    obtain ⟨h46,h46'⟩:=hv4.2 h4
    have hne:r≠k:=fun e=>by rw [e,hkt] at h46; cases h46
    simp only [cond_true,Bool.not_true,cond_false,Bool.true_and] at e160 ⊢
    have hL:=ways hp ht hpt k0 k7 (r:=r) (x:=x) (y:=y) (by omega) (by omega) hx hy (List.take 2 (List.drop (c.toNat * 2) (li [6,5,2,3]))) hk6 h46' (gk:=((56 * t+x:Nat):Int)) (gr:=((56 * t+y:Nat):Int)) rfl rfl rfl rfl
    have fin:N179 p k c=((r:Int),true)→∀ (A:Bool),A=isL ((lp163_1 ((56 * t:Nat):Int) k r x y p (off p k r) ((56 * t:Nat):Int)).getD default)→∃ r':Int,(bif A then ((0:Int),(0:Int),false) else ((k:Int),(r:Int),true))=(bif (N141 p k c).2 then ((k:Int),r',true) else (0,0,false))∧((N141 p k c).2=true→(N141 p k c).1=⟨wr .i8 k,wr .i8 r',0,0,true⟩):=by
      intro e A hA
      refine ⟨r,?_⟩
      rw [hL.2] at hA
      have wg:∀ z:Nat,z≤7→wr .i64 (((56 * t:Nat):Int)+(z:Int))=((56 * t+z:Nat):Int):=fun z hz=>by rw [wi64 (by omega) (by omega)]; omega
      unfold N141
      rw [e,n110,g1,g2,wg x hx,wg y hy]
      rw [hA]
      show (bif _ || (_ || _) then _ else _)=_∧_
      simp only [Bool.not_true,cond_false]
      change (bif (isL ((lp141_1 p _ (off p k r) (N143 (off p k r)) _ k _ _).getD default) || (isL ((lp141_2 p _ (off p k r) (N143 (off p k r)) _ k _ r _ _).getD default) || isL ((lp141_3 p _ (off p k r) (N143 (off p k r)) _ k _ r _ k _ _).getD default))) then _ else _)=(bif (bif isL ((lp141_1 p _ (off p k r) (N143 (off p k r)) _ k _ _).getD default) then _ else bif isL ((lp141_2 p _ (off p k r) (N143 (off p k r)) _ k _ r _ _).getD default) then _ else bif isL ((lp141_3 p _ (off p k r) (N143 (off p k r)) _ k _ r _ k _ _).getD default) then _ else _:Mv×Bool).2 then _ else _)∧((bif isL ((lp141_1 p _ (off p k r) (N143 (off p k r)) _ k _ _).getD default) then _ else bif isL ((lp141_2 p _ (off p k r) (N143 (off p k r)) _ k _ r _ _).getD default) then _ else bif isL ((lp141_3 p _ (off p k r) (N143 (off p k r)) _ k _ r _ k _ _).getD default) then _ else _:Mv×Bool).2=true→(bif isL ((lp141_1 p _ (off p k r) (N143 (off p k r)) _ k _ _).getD default) then _ else bif isL ((lp141_2 p _ (off p k r) (N143 (off p k r)) _ k _ r _ _).getD default) then _ else bif isL ((lp141_3 p _ (off p k r) (N143 (off p k r)) _ k _ r _ k _ _).getD default) then _ else _:Mv×Bool).1=_)
      generalize isL ((lp141_1 p _ (off p k r) (N143 (off p k r)) _ k _ _).getD default)=B
      generalize isL ((lp141_2 p _ (off p k r) (N143 (off p k r)) _ k _ r _ _).getD default)=C
      generalize isL ((lp141_3 p _ (off p k r) (N143 (off p k r)) _ k _ r _ k _ _).getD default)=D
      cases B <;> cases C <;> cases D <;> exact ⟨rfl,fun h=>by first | (cases h; done) | rfl⟩
    have kl:(decide (0≤(k:Int))&&decide ((k:Int) < Int.ofNat 64))=true:=by simp; omega
    have rl:(decide (0≤(r:Int))&&decide ((r:Int) < Int.ofNat 64))=true:=by simp; omega
    have hS:=hL.1
    rw [n1,n2]
    have hPS:(lp163_1 ((56 * t:Nat):Int) k r x y p (Pos.mk p.variant ((p.board.set (scale 1 (k:Int)).toNat 0).set (scale 1 (r:Int)).toNat 0) p.promoted p.pockets p.turn p.rooks p.passing p.checks p.half p.full) ((56 * t:Nat):Int)).isSome=true:=hS
    rcases hc with rfl | rfl
    · by_cases hlt:(r:Int) < k
      · rw [decide_eq_true hlt]
        refine ⟨rfl,none (no ?_)⟩
        rw [e160,decide_eq_false (by omega)]
        rfl
      · rw [decide_eq_false hlt,kl,rl,hPS]
        simp only [show ((0:Int)==0)=true from rfl,show ((0:Int)==1)=false from rfl,cond_true,cond_false,Bool.true_and]
        refine ⟨?_,fin ?_ _ rfl⟩
        · exact c_true (fun _=>rfl) fun _=>rfl
        · rw [e160,decide_eq_true (by omega),show ((r:Int) != k)=true by simp; omega]
          rfl
    · by_cases hgt:(r:Int) > k
      · rw [decide_eq_true hgt]
        refine ⟨rfl,none (no ?_)⟩
        rw [e160,decide_eq_true hgt]
        rfl
      · rw [decide_eq_false hgt,kl,rl,hPS]
        simp only [show ((1:Int)==0)=false from rfl,show ((1:Int)==1)=true from rfl,cond_true,cond_false,Bool.true_and]
        refine ⟨?_,fin ?_ _ rfl⟩
        · exact c_true (fun _=>rfl) fun _=>rfl
        · rw [e160,decide_eq_false hgt,show ((r:Int) != k)=true by simp; omega]
          rfl
omit hp in
theorem N114_of (h:∀ c:Int,c=0∨c=1→ok163 p c=true):ok114 p=true∧N114 p=(bif (N163 p 1).2.2 then [⟨wr .i8 (N163 p 1).1,wr .i8 (N163 p 1).2.1,0,0,true⟩] else [])++(bif (N163 p 0).2.2 then [⟨wr .i8 (N163 p 0).1,wr .i8 (N163 p 0).2.1,0,0,true⟩] else []):=by
  have h1:=h 1 (.inr rfl)
  have h0:=h 0 (.inl rfl)
  have e:∀ l:List Mv,l.length≤5→∀ c:Int,c=0∨c=1→(bif okL114_1 p 0 (l,c) then st114_1 p 0 (l,c) else .bad)=.go (l++(bif (N163 p c).2.2 then [⟨wr .i8 (N163 p c).1,wr .i8 (N163 p c).2.1,0,0,true⟩] else []),c - 1):=by
    intro l hl c hc
    unfold okL114_1 st114_1
    dsimp only
    rw [h c hc,decide_eq_true (show c ≥ 0 by omega),wi64 (n:=c - 1) (by omega) (by omega)]
    have:decide (l.length+1≤1073741824)=true:=decide_eq_true (by omega)
    rw [this]
    cases (N163 p c).2.2 <;> simp
  have hlp:itl (fun x=>bif okL114_1 p 0 x then st114_1 p 0 x else .bad) 3 ([],1)=some (([]++(bif (N163 p 1).2.2 then [⟨wr .i8 (N163 p 1).1,wr .i8 (N163 p 1).2.1,0,0,true⟩] else []))++(bif (N163 p 0).2.2 then [⟨wr .i8 (N163 p 0).1,wr .i8 (N163 p 0).2.1,0,0,true⟩] else []),-1,false):=by
    rw [itl]
    try dsimp only
    rw [e [] (by simp) 1 (.inr rfl)]
    try dsimp only
    rw [itl]
    try dsimp only
    rw [show (1:Int) - 1=0 from rfl,e _ (by cases (N163 p 1).2.2 <;> simp) 0 (.inl rfl)]
    rfl
  have hm:=itl_more 3 many _ _ (by unfold many; omega) hlp
  unfold ok114 N114 lp114_1
  rw [hm]
  exact ⟨rfl,by simp⟩
theorem N114_eq:ok114 p=true∧N114 p=N86 p:=by
  have none:(∀ c:Int,c=0∨c=1→ok163 p c=true∧N163 p c=(0,0,false))→N86 p=[]→ok114 p=true∧N114 p=N86 p:=fun h h5=>by
    obtain ⟨h1,h2⟩:=N114_of (p:=p) fun c hc=>(h c hc).1
    refine ⟨h1,?_⟩
    rw [h2,h5,(h 0 (.inl rfl)).2,(h 1 (.inr rfl)).2]
    rfl
  have t0:=hp.t0
  by_cases ht:1 < p.turn
  · have d1:decide (p.turn > 1)=true:=by simp; omega
    refine none (fun c hc => ?_) ?_
    · unfold ok163 N163; rw [d1]; exact ⟨rfl,rfl⟩
    · unfold N86; rw [d1]; rfl
  have d1:decide (p.turn > 1)=false:=by simp; omega
  have hvar:N194 p.variant=N110 p.variant:=by
    have v0:=hp.v0
    have v1:=hp.v1
    obtain ⟨n,hn⟩:=Int.eq_ofNat_of_zero_le v0
    rw [hn]
    exact cvar_fin ⟨n,by omega⟩
  cases hv:N110 p.variant with
  | false =>
    refine none (fun c hc => ?_) ?_
    · unfold ok163 N163; rw [d1,hvar,hv]; exact ⟨rfl,rfl⟩
    · unfold N86; rw [d1,hv]; rfl
  | true =>
    have htt:p.turn=0∨p.turn=1:=by omega
    obtain ⟨t,hpt⟩:=Int.eq_ofNat_of_zero_le t0
    have ht1:t≤1:=by omega
    obtain ⟨o129,e129⟩:=N131_eq hp (c:=p.turn) (k:=6) htt (by omega) (by omega)
    have wt:wr .i64 p.turn=t:=by rw [wi64 (by omega) (by omega)]; exact hpt
    have w56:wr .i64 (56 * (t:Int))=((56 * t:Nat):Int):=by rw [wi64 (by omega) (by omega)]; omega
    have w63:wr .i64 (((56 * t:Nat):Int)+7)=((56 * t+7:Nat):Int):=by rw [wi64 (by omega) (by omega)]; omega
    have b1:(decide (0≤p.turn)&&decide (p.turn < Int.ofNat 2))=true:=by simp; omega
    have away:N99 p p.turn 6 < 56 * t∨N99 p p.turn 6 > 56 * t+7→∀ c:Int,c=0∨c=1→ok163 p c=true∧N163 p c=(0,0,false):=fun h c hc=>by
      have b2:(decide (0≤c)&&decide (c < Int.ofNat 2))=true:=by simp; omega
      unfold ok163 N163
      rw [d1,hvar,hv,o129,e129,wt,w56,w63,b1,b2]
      rcases h with h | h
      · rw [decide_eq_true (show N99 p p.turn 6 < ((56 * t:Nat):Int) by omega)]
        exact ⟨rfl,rfl⟩
      · rw [decide_eq_false (show ¬ N99 p p.turn 6 < ((56 * t:Nat):Int) by omega),decide_eq_true (show N99 p p.turn 6 > ((56 * t+7:Nat):Int) by omega)]
        exact ⟨rfl,rfl⟩
    have n110:N140 p.turn=((56 * t:Nat):Int):=by unfold N140; rw [wt,w56]
    rcases N99_cases p p.turn 6 with ⟨a1,_⟩ | ⟨k,hk,a1,a2,_⟩
    · refine none (away (by omega)) ?_
      unfold N86
      rw [d1,hv,a1]
      rfl
    · have n55:∀ b:Bool,(wr .i64 ((k:Int).tdiv 8) != wr .i64 ((((56 * t:Nat)):Int).tdiv 8))=b→b=!(decide (56 * t≤k)&&decide (k≤56 * t+7)):=fun b hb=>by
        rw [← hb,Int.tdiv_eq_ediv_of_nonneg (by omega),Int.tdiv_eq_ediv_of_nonneg (by omega),wi64 (by omega) (by omega),wi64 (by omega) (by omega),Bool.eq_iff_iff]
        simp
        omega
      have d0:decide ((k:Int) < 0)=false:=by simp
      by_cases hin:56 * t≤k∧k≤56 * t+7
      · have hb:=n55 _ rfl
        rw [decide_eq_true hin.1,decide_eq_true hin.2] at hb
        have one:∀ {c:Int},c=0∨c=1→_:=fun {c} (hc:c=0∨c=1)=>cast_one hp hc ht1 hpt hv a1 a2 hin.1 hin.2
        obtain ⟨h1,h2⟩:=N114_of (p:=p) fun c hc=>(one hc).1
        refine ⟨h1,?_⟩
        obtain ⟨_,r0,q0,m0⟩:=one (c:=0) (.inl rfl)
        obtain ⟨_,r1,q1,m1⟩:=one (c:=1) (.inr rfl)
        rw [h2,q0,q1]
        unfold N86
        rw [d1,hv,a1,d0,n110,hb]
        cases h3:(N141 p k 1).2 <;> cases h4:(N141 p k 0).2
        · rfl
        · rw [m0 h4]; rfl
        · rw [m1 h3]; rfl
        · rw [m0 h4,m1 h3]; rfl
      · refine none (away (by omega)) ?_
        have hb:=n55 _ rfl
        have:(decide (56 * t≤k)&&decide (k≤56 * t+7))=false:=by
          rw [Bool.and_eq_false_iff,decide_eq_false_iff_not,decide_eq_false_iff_not]
          omega
        rw [this] at hb
        unfold N86
        rw [d1,hv,a1,d0,n110,hb]
        rfl
end
end Kz
end
section
namespace Kz
open Go Go.RowKit Go.Proofs
set_option maxRecDepth 100000
set_option maxHeartbeats 4000000
noncomputable def K60:List (Nat×Nat×List (Nat×List Nat)):=[]
noncomputable def B60:Base:=baseOf Pz (fun f i=>lkC f i K60) [] [] []
theorem hB60:BOk B60:=base_ok named_z trivial trivial trivial
noncomputable def V57:AV:=AV.agg [AV.nilfunc,AV.nilfunc,AV.nilfunc,AV.func 123 [] [],AV.func 127 [] [],AV.func 124 [] [],AV.func 125 [] [],AV.func 126 [] [],AV.func 128 [] []]
noncomputable def ok60:Bool:=true
theorem E60:evPure B60 14 60 []=Tr.ret V57:=by kernel_rfl
theorem P60 (_:ok60=true):PS Pz 60 [] V57:=evPure_ok hB60 (by rw [E60]; rfl)
noncomputable def G60:List AV→Tr AV:=g0 (.ret V57)
theorem s60:Sound Pz 60 G60:=sound0 (at_rt (P60 rfl))
noncomputable def K62:List (Nat×Nat×List (Nat×List Nat)):=[(62,9,[(0,[1,2]),(1,[4])])]
noncomputable def B62:Base:=baseOf Pz (fun f i=>lkC f i K62) [(99,G99)] [] []
theorem hB62:BOk B62:=base_ok named_z ⟨s99,trivial⟩ trivial trivial
noncomputable def N62 (a:Pos) (b:Int):Bool:=(decide (N99 a b 6 ≥ 0))
noncomputable def ok62 (a:Pos) (b:Int):Bool:=(ok99 (a) (b) (6)&&true)
theorem P62 (a:Pos) (b:Int) (h:ok62 a b=true):PS Pz 62 [Pos.av a,.int .u8 b] (dB.res (N62 a b)):=ps_sum (n:=14) hB62 (by kernel_rfl) (by kernel_rfl) (by kernel_rfl) h
noncomputable def G62:List AV→Tr AV:=g2 dPos (dI .u8) (fun a b=>gdv (ok62 a b) (dB.res (N62 a b)))
theorem s62:Sound Pz 62 G62:=sound2 fun a b=>at_gd (P62 a b)
noncomputable def K166:List (Nat×Nat×List (Nat×List Nat)):=[(166,9,[(0,[0,1,4]),(1,[4])])]
noncomputable def B166:Base:=baseOf Pz (fun f i=>lkC f i K166) [] [] []
theorem hB166:BOk B166:=base_ok named_z trivial trivial trivial
noncomputable def N166 (a:Int) (b:Int):(Int×Int):=⟨(wr .u8 (1+a)),(b)⟩
noncomputable def ok166 (a:Int) (b:Int):Bool:=true
theorem P166 (a:Int) (b:Int) (h:ok166 a b=true):PS Pz 166 [.int .u8 a,.int .u8 b] ((dR .u8 .u8).res (N166 a b)):=ps_sum (n:=14) hB166 (by kernel_rfl) (by kernel_rfl) (by kernel_rfl) h
noncomputable def G166:List AV→Tr AV:=g2 (dI .u8) (dI .u8) (fun a b=>.ret ((dR .u8 .u8).res (N166 a b)))
theorem s166:Sound Pz 166 G166:=sound2 fun a b=>at_rt (P166 a b rfl)
noncomputable def K123:List (Nat×Nat×List (Nat×List Nat)):=[(123,13,[(0,[1,2]),(1,[1,2,7]),(2,[2]),(3,[2])])]
noncomputable def B123:Base:=baseOf Pz (fun f i=>lkC f i K123) [(62,G62),(166,G166)] [] []
theorem hB123:BOk B123:=base_ok named_z ⟨s62,s166,trivial⟩ trivial trivial
noncomputable def N123 (a:Pos):(Int×Int):=(bif !N62 a a.turn then ⟨((N166 (wr .u8 (1 - a.turn)) 6).fst),((N166 (wr .u8 (1 - a.turn)) 6).snd)⟩ else ⟨(0),(0)⟩)
noncomputable def ok123 (a:Pos):Bool:=(ok62 (a) (a.turn)&&true)
theorem P123 (a:Pos) (h:ok123 a=true):PS Pz 123 [Pos.av a] ((dR .u8 .u8).res (N123 a)):=ps_sum (n:=14) hB123 (by kernel_rfl) (by kernel_rfl) (by kernel_rfl) h
noncomputable def G123:List AV→Tr AV:=g1 dPos (fun a=>gdv (ok123 a) ((dR .u8 .u8).res (N123 a)))
theorem s123:Sound Pz 123 G123:=sound1 fun a=>at_gd (P123 a)
noncomputable def K124:List (Nat×Nat×List (Nat×List Nat)):=[(124,6,[(0,[1,2]),(1,[2])]),(167,28,[(0,[1,2,3,6]),(1,[1,2,6,14,15,16]),(2,(1::2::6::(rn 14 4 []))),(3,[1,2,6,8,14,15,16]),(4,[1,2,6,8,14,15,16,22]),(5,[6]),(6,[1,2,6,14,15,16]),(7,[6])]),(168,9,[(0,[0,1]),(1,[3])])]
noncomputable def B124:Base:=baseOf Pz (fun f i=>lkC f i K124) [(166,G166)] [] []
theorem hB124:BOk B124:=base_ok named_z ⟨s166,trivial⟩ trivial trivial
noncomputable def N124 (a:Pos):(Int×Int):=(bif decide (a.checks.getD (scale 1 (wr .u8 (1 - a.turn))).toNat 0 ≥ 3) then ⟨((N166 (wr .u8 (1 - a.turn)) 7).fst),((N166 (wr .u8 (1 - a.turn)) 7).snd)⟩ else (bif decide (a.checks.getD (scale 1 a.turn).toNat 0 ≥ 3) then ⟨((N166 a.turn 7).fst),((N166 a.turn 7).snd)⟩ else ⟨(0),(0)⟩))
noncomputable def ok124 (a:Pos):Bool:=(decide (0≤wr .u8 (1 - a.turn))&&decide (wr .u8 (1 - a.turn) < ↑2)&&(bif decide (a.checks.getD (scale 1 (wr .u8 (1 - a.turn))).toNat 0 ≥ 3) then true else (decide (0≤a.turn)&&decide (a.turn < ↑2)&&true)))
theorem P124 (a:Pos) (h:ok124 a=true):PS Pz 124 [Pos.av a] ((dR .u8 .u8).res (N124 a)):=ps_sum (n:=14) hB124 (by kernel_rfl) (by kernel_rfl) (by kernel_rfl) h
noncomputable def G124:List AV→Tr AV:=g1 dPos (fun a=>gdv (ok124 a) ((dR .u8 .u8).res (N124 a)))
theorem s124:Sound Pz 124 G124:=sound1 fun a=>at_gd (P124 a)
noncomputable def K125:List (Nat×Nat×List (Nat×List Nat)):=[(125,6,[(0,[1,2]),(1,[2])]),(167,28,[(0,[1,2,3,6]),(1,[1,2,6,14,15,16]),(2,(1::2::6::(rn 14 4 []))),(3,[1,2,6,8,14,15,16]),(4,[1,2,6,8,14,15,16,22]),(5,[6]),(6,[1,2,6,14,15,16]),(7,[6])]),(169,17,[(0,(0::1::(rn 11 5 []))),(1,(4::(rn 11 5 []))),(2,[3])])]
noncomputable def B125:Base:=baseOf Pz (fun f i=>lkC f i K125) [(99,G99),(166,G166)] [] []
theorem hB125:BOk B125:=base_ok named_z ⟨s99,s166,trivial⟩ trivial trivial
noncomputable def N125 (a:Pos):(Int×Int):=(bif decide (N99 a (wr .u8 (1 - a.turn)) 6 ≥ 0) then (bif ibits BinOp.and .i64 (Int.fdiv 103481868288 (2 ^ min (BitVec.ofInt 64 (N99 a (wr .u8 (1 - a.turn)) 6)).toNat 64)) 1==1 then ⟨((N166 (wr .u8 (1 - a.turn)) 6).fst),((N166 (wr .u8 (1 - a.turn)) 6).snd)⟩ else (bif decide (N99 a a.turn 6 ≥ 0) then (bif ibits BinOp.and .i64 (Int.fdiv 103481868288 (2 ^ min (BitVec.ofInt 64 (N99 a a.turn 6)).toNat 64)) 1==1 then ⟨((N166 a.turn 6).fst),((N166 a.turn 6).snd)⟩ else ⟨(0),(0)⟩) else ⟨(0),(0)⟩)) else (bif decide (N99 a a.turn 6 ≥ 0) then (bif ibits BinOp.and .i64 (Int.fdiv 103481868288 (2 ^ min (BitVec.ofInt 64 (N99 a a.turn 6)).toNat 64)) 1==1 then ⟨((N166 a.turn 6).fst),((N166 a.turn 6).snd)⟩ else ⟨(0),(0)⟩) else ⟨(0),(0)⟩))
noncomputable def ok125 (a:Pos):Bool:=(ok99 (a) (wr .u8 (1 - a.turn)) (6)&&(bif decide (N99 a (wr .u8 (1 - a.turn)) 6 ≥ 0) then (bif ibits BinOp.and .i64 (Int.fdiv 103481868288 (2 ^ min (BitVec.ofInt 64 (N99 a (wr .u8 (1 - a.turn)) 6)).toNat 64)) 1==1 then true else (ok99 (a) (a.turn) (6)&&true)) else (ok99 (a) (a.turn) (6)&&true)))
theorem P125 (a:Pos) (h:ok125 a=true):PS Pz 125 [Pos.av a] ((dR .u8 .u8).res (N125 a)):=ps_sum (n:=14) hB125 (by kernel_rfl) (by kernel_rfl) (by kernel_rfl) h
noncomputable def G125:List AV→Tr AV:=g1 dPos (fun a=>gdv (ok125 a) ((dR .u8 .u8).res (N125 a)))
theorem s125:Sound Pz 125 G125:=sound1 fun a=>at_gd (P125 a)
noncomputable def K126:List (Nat×Nat×List (Nat×List Nat)):=[(126,8,[(0,[1,2]),(1,[2,5]),(2,[2]),(3,[2])])]
noncomputable def B126:Base:=baseOf Pz (fun f i=>lkC f i K126) [(101,G101),(166,G166)] [] []
theorem hB126:BOk B126:=base_ok named_z ⟨s101,s166,trivial⟩ trivial trivial
noncomputable def N126 (a:Pos):(Int×Int):=(bif N101 (Pos.mk a.variant a.board a.promoted a.pockets a.turn a.rooks a.passing a.checks a.half a.full) 0 0==0#64 then ⟨((N166 1 8).fst),((N166 1 8).snd)⟩ else ⟨(0),(0)⟩)
noncomputable def ok126 (a:Pos):Bool:=(ok101 (Pos.mk a.variant a.board a.promoted a.pockets a.turn a.rooks a.passing a.checks a.half a.full) (0) (0)&&true)
theorem P126 (a:Pos) (h:ok126 a=true):PS Pz 126 [Pos.av a] ((dR .u8 .u8).res (N126 a)):=ps_sum (n:=14) hB126 (by kernel_rfl) (by kernel_rfl) (by kernel_rfl) h
noncomputable def G126:List AV→Tr AV:=g1 dPos (fun a=>gdv (ok126 a) ((dR .u8 .u8).res (N126 a)))
theorem s126:Sound Pz 126 G126:=sound1 fun a=>at_gd (P126 a)
noncomputable def K127:List (Nat×Nat×List (Nat×List Nat)):=[(127,24,[(0,[1,2]),(1,[1,2,10,11,12]),(2,(1::2::(rn 10 4 []))),(3,[1,2,4,10,11,12]),(4,[1,2,4,10,11,12,19]),(5,[2]),(6,[1,2,10,11,12]),(7,[2])])]
noncomputable def B127:Base:=baseOf Pz (fun f i=>lkC f i K127) [(101,G101),(166,G166)] [] []
theorem hB127:BOk B127:=base_ok named_z ⟨s101,s166,trivial⟩ trivial trivial
noncomputable def N127 (a:Pos):(Int×Int):=(bif N101 (Pos.mk a.variant a.board a.promoted a.pockets a.turn a.rooks a.passing a.checks a.half a.full) a.turn 0==0#64 then ⟨((N166 a.turn 8).fst),((N166 a.turn 8).snd)⟩ else (bif N101 (Pos.mk a.variant a.board a.promoted a.pockets a.turn a.rooks a.passing a.checks a.half a.full) (wr .u8 (1 - a.turn)) 0==0#64 then ⟨((N166 (wr .u8 (1 - a.turn)) 8).fst),((N166 (wr .u8 (1 - a.turn)) 8).snd)⟩ else ⟨(0),(0)⟩))
noncomputable def ok127 (a:Pos):Bool:=(ok101 (Pos.mk a.variant a.board a.promoted a.pockets a.turn a.rooks a.passing a.checks a.half a.full) (a.turn) (0)&&(bif N101 (Pos.mk a.variant a.board a.promoted a.pockets a.turn a.rooks a.passing a.checks a.half a.full) a.turn 0==0#64 then true else (ok101 (Pos.mk a.variant a.board a.promoted a.pockets a.turn a.rooks a.passing a.checks a.half a.full) (wr .u8 (1 - a.turn)) (0)&&true)))
theorem P127 (a:Pos) (h:ok127 a=true):PS Pz 127 [Pos.av a] ((dR .u8 .u8).res (N127 a)):=ps_sum (n:=14) hB127 (by kernel_rfl) (by kernel_rfl) (by kernel_rfl) h
noncomputable def G127:List AV→Tr AV:=g1 dPos (fun a=>gdv (ok127 a) ((dR .u8 .u8).res (N127 a)))
theorem s127:Sound Pz 127 G127:=sound1 fun a=>at_gd (P127 a)
noncomputable def K68:List (Nat×Nat×List (Nat×List Nat)):=[(68,52,[(0,(2::3::(rn 30 10 (rn 45 6 [])))),(1,(2::5::6::(rn 30 10 (rn 45 6 [])))),(2,(2::5::14::(rn 30 10 (rn 45 6 [])))),(3,[4]),(4,(2::5::19::(rn 30 10 (rn 45 6 [])))),(5,(2::5::24::(rn 30 10 (rn 45 6 [])))),(6,[4]),(7,(2::5::40::(rn 45 6 []))),(8,[4]),(9,[4])])]
noncomputable def B68:Base:=baseOf Pz (fun f i=>lkC f i K68) [(17,G17),(61,G61),(103,G103),(62,G62)] [] []
theorem hB68:BOk B68:=base_ok named_z ⟨s17,s61,s103,s62,trivial⟩ trivial trivial
noncomputable def N68 (a:Pos) (b:Mv):Bool:=(bif !(N17 a b).snd then (false) else (bif N61 a.variant a.turn then (bif !N62 (N17 a b).fst a.turn then (false) else (bif N103 (N17 a b).fst a.turn then (bif a.variant != 3 then (false) else (bif N62 (N17 a b).fst (wr .u8 (1 - a.turn)) then (false) else (bif a.variant != 8 then (true) else (!N103 (N17 a b).fst (wr .u8 (1 - a.turn)))))) else (bif a.variant != 8 then (true) else (!N103 (N17 a b).fst (wr .u8 (1 - a.turn)))))) else (bif a.variant != 8 then (true) else (!N103 (N17 a b).fst (wr .u8 (1 - a.turn))))))
noncomputable def ok68 (a:Pos) (b:Mv):Bool:=(ok17 (a) (b)&&(bif !(N17 a b).snd then true else (ok61 (a.variant) (a.turn)&&(bif N61 a.variant a.turn then (ok62 ((N17 a b).fst) (a.turn)&&(bif !N62 (N17 a b).fst a.turn then true else (ok103 ((N17 a b).fst) (a.turn)&&(bif N103 (N17 a b).fst a.turn then (bif a.variant != 3 then true else (ok62 ((N17 a b).fst) (wr .u8 (1 - a.turn))&&(bif N62 (N17 a b).fst (wr .u8 (1 - a.turn)) then true else (bif a.variant != 8 then true else (ok103 ((N17 a b).fst) (wr .u8 (1 - a.turn))&&true))))) else (bif a.variant != 8 then true else (ok103 ((N17 a b).fst) (wr .u8 (1 - a.turn))&&true)))))) else (bif a.variant != 8 then true else (ok103 ((N17 a b).fst) (wr .u8 (1 - a.turn))&&true))))))
theorem P68 (a:Pos) (b:Mv) (h:ok68 a b=true):PS Pz 68 [Pos.av a,Mv.av b] (dB.res (N68 a b)):=ps_sum (n:=14) hB68 (by kernel_rfl) (by kernel_rfl) (by kernel_rfl) h
noncomputable def G68:List AV→Tr AV:=g2 dPos dMv (fun a b=>gdv (ok68 a b) (dB.res (N68 a b)))
theorem s68:Sound Pz 68 G68:=sound2 fun a b=>at_gd (P68 a b)
end Kz
end
section
namespace Go.Proofs
open Go.Shelf Go.RowKit Go.Lib Go.Sort
def encM (m:Kz.Mv):List Value:=[.int .i8 m.frm,.int .i8 m.to,.int .u8 m.pro,.int .u8 m.drp,.bool m.cas]
theorem encM_len (m:Kz.Mv):(encM m).length=5:=rfl
structure RowW (w:World) (blk cap:Nat) (ty:TypeId) (dk:Array Kz.Mv) (W:World):Prop where
  os:W.os=w.os
  tape:W.tape=w.tape
  output:W.output=w.output
  size:w.heap.size≤W.heap.size
  other:∀ k,k < w.heap.size→k≠blk→W.heap[k]?=w.heap[k]?
  row:∃ cur,W.heap[blk]?=some (.cells cur ty (0,0))∧cur.size=cap * 5∧∀ j c,j < dk.size→c < 5→cur[j * 5+c]?=(encM dk[j]!)[c]?
theorem RowW.below {w W W':World} {blk cap:Nat} {ty:TypeId} {dk:Array Kz.Mv} (h:RowW w blk cap ty dk W) (hb:blk < w.heap.size) (b:Below W.heap.size W W'):RowW w blk cap ty dk W' :=
  ⟨b.os.trans h.os,b.tape.trans h.tape,b.output.trans h.output,Nat.le_trans h.size b.size,fun k hk hn=>by rw [b.block k (Nat.lt_of_lt_of_le hk h.size)]; exact h.other k hk hn,by
    obtain ⟨cur,h1,h2⟩:=h.row
    exact ⟨cur,by rw [b.block blk (Nat.lt_of_lt_of_le hb h.size)]; exact h1,h2⟩⟩
theorem RowW.setCells {w W:World} {blk cap:Nat} {ty:TypeId} {dk dk':Array Kz.Mv} (h:RowW w blk cap ty dk W) (vs:List Value) (o:Nat)
    (hd:∀ j c,j < dk'.size→c < 5→j < dk.size∧(if o≤j * 5+c∧j * 5+c < o+vs.length then vs[j * 5+c - o]? else (encM dk[j]!)[c]?)=(encM dk'[j]!)[c]?) (hlen:o+vs.length≤cap * 5):RowW w blk cap ty dk' (W.setCells blk o vs):=by
  obtain ⟨cur,h1,h2,h3⟩:=h.row
  have hb:=Kz.lt_of_some h1
  have key:∀ (vs:List Value) (o:Nat) (W:World) (cur:Array Value),W.heap[blk]?=some (.cells cur ty (0,0))→o+vs.length≤cur.size →
      ∃ cur',W.setCells blk o vs=Kz.putBlk W blk (.cells cur' ty (0,0))∧cur'.size=cur.size∧∀ t,t < cur.size→cur'[t]?=if o≤t∧t < o+vs.length then vs[t - o]? else cur[t]? := by
    intro vs
    induction vs with
    | nil =>
      intro o W cur hW _
      refine ⟨cur,?_,rfl,fun t _=>by rw [if_neg (by simp)]⟩
      rw [World.setCells]
      simp only [Kz.putBlk]
      have:W.heap.setIfInBounds blk (.cells cur ty (0,0))=W.heap:=by
        apply Array.ext_getElem?
        intro i
        rw [Array.getElem?_setIfInBounds]
        split
        · rename_i e; subst e; split
          · exact hW.symm
          · rename_i h'; simp [Array.getElem?_eq_none (by omega:W.heap.size≤blk)]
        · rfl
      rw [this]
    | cons v vs ih =>
      intro o W cur hW hl
      simp only [List.length_cons] at hl
      have e1:W.setCell ⟨blk,o,none⟩ v=Kz.putBlk W blk (.cells (cur.setIfInBounds o v) ty (0,0)):=Kz.setCell_eq_put hW v
      obtain ⟨cur',a1,a2,a3⟩:=ih (o+1) (Kz.putBlk W blk (.cells (cur.setIfInBounds o v) ty (0,0))) (cur.setIfInBounds o v) (Kz.putBlk_same hW) (by simp; omega)
      refine ⟨cur',?_,by rw [a2]; simp,fun t ht => ?_⟩
      · rw [World.setCells,e1,a1]
        simp [Kz.putBlk]
      · rw [a3 t (by simpa using ht)]
        by_cases h1:o+1≤t∧t < o+1+vs.length
        · rw [if_pos h1,if_pos ⟨by omega,by simp; omega⟩]
          obtain ⟨u,rfl⟩:∃ u,t=o+1+u:=⟨t - (o+1),by omega⟩
          rw [show o+1+u - (o+1)=u by omega,show o+1+u - o=u+1 by omega]
          simp
        · rw [if_neg h1,Array.getElem?_setIfInBounds]
          by_cases h2:o=t
          · subst h2
            rw [if_pos rfl,if_pos (by omega),if_pos ⟨Nat.le_refl _,by simp⟩]
            simp
          · rw [if_neg h2,if_neg (by simp; omega)]
  obtain ⟨cur',a1,a2,a3⟩:=key vs o W cur h1 (by omega)
  rw [a1]
  refine ⟨h.os,h.tape,h.output,by rw [Kz.putBlk_size]; exact h.size,fun k hk hn=>by rw [Kz.putBlk_other hn]; exact h.other k hk hn,cur',Kz.putBlk_same h1,by rw [a2,h2],fun j c hj hc => ?_⟩
  obtain ⟨hj',he⟩:=hd j c hj hc
  have hlt:j * 5+c < cur.size:=by
    rcases Nat.lt_or_ge (j * 5+c) cur.size with h' | h'
    · exact h'
    · have:=h3 j c hj' hc
      rw [Array.getElem?_eq_none h',List.getElem?_eq_getElem (by rw [encM_len]; exact hc)] at this
      cases this
  rw [a3 _ hlt,h3 j c hj' hc]
  exact he
theorem RowW.put {w W:World} {blk cap:Nat} {ty:TypeId} {dk:Array Kz.Mv} (h:RowW w blk cap ty dk W) {i:Nat} (hi:i < dk.size) (hc:dk.size≤cap) (u:Kz.Mv):RowW w blk cap ty (dk.setIfInBounds i u) (W.setCells blk (i * 5) (encM u)):=by
  refine h.setCells (encM u) (i * 5) (fun j c hj hc => ?_) (by rw [encM_len]; have:=Nat.mul_le_mul_right 5 (show i+1≤cap by omega); omega)
  have hj':j < dk.size:=by simpa using hj
  refine ⟨hj',?_⟩
  rw [encM_len]
  by_cases e:i=j
  · subst e
    rw [if_pos ⟨by omega,by omega⟩,show i * 5+c - i * 5=c by omega,getElem!_pos (dk.setIfInBounds i u) i hj]
    simp
  · rw [if_neg (by omega),getElem!_pos (dk.setIfInBounds i u) j hj,getElem!_pos dk j hj',Array.getElem_setIfInBounds_ne _ e]
theorem RowW.tail {w W:World} {blk cap:Nat} {ty:TypeId} {dk:Array Kz.Mv} (h:RowW w blk cap ty dk W) {i n:Nat} (hn:i+n≤cap) (hi:i≤dk.size) (vs:List Value) (hl:vs.length=n * 5):RowW w blk cap ty (dk.toList.take i).toArray (W.setCells blk (i * 5) vs):=by
  refine h.setCells vs (i * 5) (fun j c hj hc => ?_) (by rw [hl,← Nat.add_mul]; exact Nat.mul_le_mul_right 5 hn)
  have hj':j < i:=by simp at hj; omega
  refine ⟨by omega,?_⟩
  rw [if_neg (by omega)]
  congr 2
  rw [getElem!_pos dk j (show j < dk.size by omega),getElem!_pos (dk.toList.take i).toArray j hj]
  simp
theorem RowW.same {w W:World} {blk cap:Nat} {ty:TypeId} {dk:Array Kz.Mv} (h:RowW w blk cap ty dk W) {i:Nat} (hi:i≤dk.size):RowW w blk cap ty (dk.toList.take i).toArray W:=by
  obtain ⟨cur,h1,h2,h3⟩:=h.row
  refine ⟨h.os,h.tape,h.output,h.size,h.other,cur,h1,h2,fun j c hj hc => ?_⟩
  have hj':j < i:=by simp at hj; omega
  rw [h3 j c (by omega) hc]
  congr 2
  rw [getElem!_pos dk j (show j < dk.size by omega),getElem!_pos (dk.toList.take i).toArray j hj]
  simp
def zeroM:Array Value := #[Value.int IntKind.i8 0,Value.int IntKind.i8 0,Value.int IntKind.u8 0,Value.int IntKind.u8 0,Value.bool false]
theorem zeroM_one (n:Nat):∀ v ∈ (Builtin.zeroCells zeroM n).toList,v.oneCell'=true:=by
  intro v hv
  simp only [Builtin.zeroCells,Array.toList_map,List.mem_map] at hv
  obtain ⟨i,_,rfl⟩:=hv
  have:i % zeroM.size < 5:=Nat.mod_lt _ (by decide)
  generalize i % zeroM.size=t at this
  match t,this with
  | 0,_ | 1,_ | 2,_ | 3,_ | 4,_=>rfl
  | t+5,h=>omega
theorem zeroM_len (n:Nat):(Builtin.zeroCells zeroM n).toList.length=n * 5:=by simp [Builtin.zeroCells,zeroM]
theorem run_clear5 (W:World) (b o n c:Nat) (hn:0 < n) (hc:∀ t,t < n * 5→(W.cell? ⟨b,o+t,none⟩).isSome=true) (hf:∀ t,t < n * 5→W.frozen? ⟨b,o+t,none⟩=false) (ty:TypeId) :
    (Builtin.clear_ #[33] ty #[.slice (some ⟨b,o,none⟩) n c]).run Tryz.prog W=.ok (.tuple #[]) (W.setCells b o (Builtin.zeroCells zeroM n).toList):=by
  have hst:=run_storeCells_cells (P:=Tryz.prog) b o (Builtin.zeroCells zeroM n).toList 0 W (by rw [zeroM_len]; simpa using hc) (by rw [zeroM_len]; simpa using hf) (zeroM_one n)
  simp only [Nat.add_zero] at hst
  obtain ⟨m,rfl⟩:∃ m,n=m+1:=⟨n - 1,by omega⟩
  have hz:(Value.agg zeroM).cells=zeroM:=rfl
  have hv:∀ w,(zeroValue 44).run Tryz.prog w=.ok (.agg zeroM) w:=Tryz.zeroValue44
  simp only [zeroM] at hst hz hv
  simp [Builtin.clear_,run_underlying Tryz.underlying33,hv,hz,hst]
  rfl
theorem RowW.cell {w W:World} {blk cap:Nat} {ty:TypeId} {dk:Array Kz.Mv} (h:RowW w blk cap ty dk W) {j:Nat} (hj:j < dk.size) (c:Nat) (hc:c < 5):W.cell? ⟨blk,j * 5+c,none⟩=some ((encM dk[j]!)[c]'hc)∧W.frozen? ⟨blk,j * 5+c,none⟩=false:=by
  obtain ⟨cur,h1,h2,h3⟩:=h.row
  refine ⟨?_,Kz.frozen_of_blk h1⟩
  rw [Kz.cell_of_blk h1,h3 j c hj hc]
  exact List.getElem?_eq_getElem _
theorem RowW.load {w W:World} {blk cap:Nat} {ty:TypeId} {dk:Array Kz.Mv} (h:RowW w blk cap ty dk W) {j:Nat} (hj:j < dk.size):Sem.run Tryz.prog (loadCellsFrom ⟨blk,0+j * 5,none⟩ 0 5 #[]) W=.ok (encM dk[j]!).toArray W :=
  run_loadCellsFrom_list Tryz.prog _ _ (encM dk[j]!) 5 rfl (fun c v hc=>by
    have hc5:c < 5:=(List.getElem?_eq_some_iff.1 hc).1
    obtain ⟨cur,h1,h2,h3⟩:=h.row
    rw [Addr.add_lit]
    rw [Kz.cell_of_blk h1,Nat.zero_add,h3 j c hj hc5]
    exact hc)
set_option maxHeartbeats 1000000 in
set_option maxRecDepth 100000 in
theorem delM (p:Kz.Mv→Bool) (g:Nat) (lb:Array Value) (eg:∀ args w,(callFunc g args).run Tryz.prog w=.ok (.enter g args) w) (blk cap:Nat) (d:Array Kz.Mv) (w:World) (hb:blk < w.heap.size) (hH:RowW w blk cap 44 d w) (hcap:d.size≤cap) (hmax:cap≤maxLen)
    (hpo:∀ W dk x,RowW w blk cap 44 dk W→Calls Tryz.prog g (#[.agg (encM x).toArray]++lb) W fun e w'=>e=.returned (.bool (p x))∧RowKit.Below W.heap.size W w') :
    Calls Tryz.prog 64 #[.slice (some ⟨blk,0,none⟩) d.size cap,.func (.func g) #[] lb] w fun e w'=>e=.returned (.slice (some ⟨blk,0,none⟩) (d.toList.filter fun x => !p x).length cap)∧RowW w blk cap 44 (d.toList.filter fun x => !p x).toArray w':=by
  have hsz:d.size≤9223372036854775807:=by unfold maxLen at hmax; omega
  have e6:∀ args w,(callFunc 130 args).run Tryz.prog w=.ok (.enter 130 args) w:=fun args w=>by rfl
  have hp:PredBelow Tryz.prog g lb (fun x=>.agg (encM x).toArray) p w:=fun W x hB=>(hpo W d x (hH.below hb hB)).mono fun e w' ⟨h1,h2⟩=>⟨h1,hB.trans (h2.mono hB.size)⟩
  have hIF:=AnyQ.slices_IndexFunc Tryz.idxM 5 Tryz.isAgg44 Tryz.sizeOf44 encM encM_len p g lb eg blk 0 d.size cap d.toList w hp (by simp) hsz hb (fun j hj i v hi=>by
    have hi5:i < 5:=(List.getElem?_eq_some_iff.1 hi).1
    have hj':j < d.size:=by simpa using hj
    obtain ⟨cur,h1,h2,h3⟩:=hH.row
    rw [Kz.cell_of_blk h1,Nat.zero_add,h3 j i hj' hi5]
    rw [← hi,getElem!_pos d j hj',getElem!_pos d.toList j hj]
    simp)
  rw [show d.toList.take d.size=d.toList from List.take_of_length_le (by simp)] at hIF
  have tl:∀ j,j < d.size→d.toList[j]! = d[j]! := fun j hj=>by rw [getElem!_pos d j hj,getElem!_pos d.toList j (by simpa using hj)]; simp
  obtain ⟨kp,HK⟩:∃ kp:Nat→Bool,Hid (kp=fun j => !p d[j]!):=⟨_,rfl⟩
  have hfil:(d.toList.filter fun x => !p x)=keptUpTo kp d d.size:=by rw [HK.out]; exact (keptUpTo_filter (fun x => !p x) d).symm
  rw [hfil]
  rcases idxByFrom_spec (fun _ y=>p y) default d.toList 0 with ⟨e1,hall⟩ | ⟨k0,hk0,e1,ht,hall⟩
  ·
    have e2:Lib.idxBy (fun _ y=>p y) d.toList default = -1:=e1
    rw [e2] at hIF
    have hkeep:∀ j,j < d.size→kp j=true:=fun j hj=>by rw [HK.out]; show (!p d[j]!)=true; rw [← tl j hj,hall j (by simpa using hj)]; rfl
    have e3:keptUpTo kp d d.size=d.toList:=by rw [keptUpTo_all kp d _ hkeep,range_map_get]
    have HH:Aside (RowW w blk cap 44 d w):=hH
    have HB:Hid (blk < w.heap.size):=hb
    clear hH hpo hp hb
    go_enter Tryz.func64,Tryz.ntmps64
    go_wp2_with (go_at_fn 130; refine hIF.mono ?_; rintro e w' ⟨rfl,hbl⟩)
    go_ret
    rw [e3]
    exact ⟨by simp,by simpa using HH.out.below HB.out hbl⟩
  · have hk0':k0 < d.size:=by simpa using hk0
    have e2:Lib.idxBy (fun _ y=>p y) d.toList default=(k0:Int):=by unfold Lib.idxBy; rw [e1]; simp
    rw [e2] at hIF
    have hkeep:∀ j,j < k0→kp j=true:=fun j hj=>by rw [HK.out]; show (!p d[j]!)=true; rw [← tl j (by omega),hall j hj]; rfl
    have hdrop:kp k0=false:=by rw [HK.out]; show (!p d[k0]!)=false; rw [← tl k0 hk0']; rw [show p d.toList[k0]! = true from ht]; rfl
    have hne1:((k0:Int) == -1)=false:=beq_eq_false_iff_ne.2 (by omega)
    have HC:Aside _:=hpo
    have HH:Aside (RowW w blk cap 44 d w):=hH
    have HB:Hid (blk < w.heap.size):=hb
    clear hpo hp hH hb hall ht e1 e2 tl
    go_enter Tryz.func64,Tryz.ntmps64
    go_wp2_with (go_at_fn 130; refine hIF.mono ?_; rintro e w' ⟨rfl,hbl⟩)
    have HBL:=Lib.hid hbl
    clear hbl
    go_loopg [5,6,7] d.size (fun gg s5 s6 _ wr => ∃ (i j:Nat) (dk:Array Kz.Mv),s5=.int .i64 i∧s6=.int .i64 j∧j≤d.size∧d.size - j≤gg∧Aside (RowW w blk cap 44 dk wr)∧Aside (KeptInv kp d j i dk))
    case atStart=>exact ⟨k0,k0+1,d,rfl,by go_num,by omega,by omega,HH.out.below HB.out HBL.out,KeptInv.start hkeep hdrop⟩
    case round =>
      obtain ⟨i,j,dk,rfl,rfl,hjd,hgg,W2,I2⟩:=hrel
      have hI:=I2.out
      have hij:=hI.lt
      have hds:=hI.size
      by_cases hlt:j < d.size
      · have hltz:(j:Int) < (d.size:Int):=by omega
        have c0:=(W2.out.cell (j:=j) (by omega) 0 (by omega)).1
        have c1:=(W2.out.cell (j:=j) (by omega) 1 (by omega)).1
        have c2:=(W2.out.cell (j:=j) (by omega) 2 (by omega)).1
        have c3:=(W2.out.cell (j:=j) (by omega) 3 (by omega)).1
        have c4:=(W2.out.cell (j:=j) (by omega) 4 (by omega)).1
        simp only [hI.high j (by omega),encM,List.getElem_cons_succ,List.getElem_cons_zero,Nat.add_zero] at c0 c1 c2 c3 c4
        clear hI
        generalize hu:d[j]! = u at c0 c1 c2 c3 c4
        have C:Aside (d[j]! = u):=hu
        clear hu
        have hW1:RowW w blk cap 44 dk (wr.alloc (Obj.cells #[Value.int IntKind.i8 u.frm,Value.int IntKind.i8 u.to,Value.int IntKind.u8 u.pro,Value.int IntKind.u8 u.drp,Value.bool u.cas] 44)) :=
          W2.out.below HB.out ((Below.refl _ _).alloc (Nat.le_refl _) _)
        have hcall:Calls Tryz.prog g (#[Value.agg #[Value.int IntKind.i8 u.frm,Value.int IntKind.i8 u.to,Value.int IntKind.u8 u.pro,Value.int IntKind.u8 u.drp,Value.bool u.cas]]++lb) _ _:=HC.out _ dk u hW1
        have HW1:=Lib.hid hW1
        clear hW1
        cases hq:p u with
        | false =>
          rw [hq] at hcall
          have HCALL:=Lib.hid hcall
          clear hcall
          go_wp2_with fail
          refine HCALL.out.mono ?_
          rintro e w2 ⟨rfl,hb2⟩
          have hW2:=HW1.out.below HB.out hb2
          have r0:=hW2.cell (j:=i) (by omega) 0 (by omega)
          have r1:=hW2.cell (j:=i) (by omega) 1 (by omega)
          have r2:=hW2.cell (j:=i) (by omega) 2 (by omega)
          have r3:=hW2.cell (j:=i) (by omega) 3 (by omega)
          have r4:=hW2.cell (j:=i) (by omega) 4 (by omega)
          simp only [Nat.add_zero] at r0
          obtain ⟨r0,f0⟩:=r0
          obtain ⟨r1,f1⟩:=r1
          obtain ⟨r2,f2⟩:=r2
          obtain ⟨r3,f3⟩:=r3
          obtain ⟨r4,f4⟩:=r4
          have hcs:∀ c,w2.cell? ⟨wr.heap.size,c,none⟩=(#[Value.int IntKind.i8 u.frm,Value.int IntKind.i8 u.to,Value.int IntKind.u8 u.pro,Value.int IntKind.u8 u.drp,Value.bool u.cas]:Array Value)[c]? := fun c=>by
            rw [hb2.cell (p:=⟨wr.heap.size,c,none⟩) (by simp),Kz.cell_of_blk (heap_alloc_new wr _)]
          have b0:=hcs 0
          have b1:=hcs 1
          have b2:=hcs 2
          have b3:=hcs 3
          have b4:=hcs 4
          simp at b0 b1 b2 b3 b4
          have HW2:=Lib.hid hW2
          clear hcs hb2 hW2
          go_wp2_with fail
          go_roundg (d.size - (j+1))
          case measure=>omega
          case rel =>
            refine ⟨i+1,j+1,dk.setIfInBounds i u,by go_num,by go_num,by omega,Nat.le_refl _,HW2.out.put (i:=i) (by omega) (by omega) u,(show Aside _ from ?_)⟩
            have:=I2.out.keep hlt (by rw [HK.out]; show (!p d[j]!)=true; rw [C.out,hq]; rfl)
            rwa [C.out] at this
        | true =>
          rw [hq] at hcall
          have HCALL:=Lib.hid hcall
          clear hcall
          go_wp2_with fail
          refine HCALL.out.mono ?_
          rintro e w2 ⟨rfl,hb2⟩
          have HW2:=Lib.hid (HW1.out.below HB.out hb2)
          clear hb2
          go_wp2_with fail
          go_roundg (d.size - (j+1))
          case measure=>omega
          case rel=>exact ⟨i,j+1,dk,rfl,by go_num,by omega,Nat.le_refl _,HW2.out,I2.out.skip (by rw [HK.out]; show (!p d[j]!)=false; rw [C.out,hq]; rfl)⟩
      · obtain rfl:j=d.size:=by omega
        have hltz:¬ (d.size:Int) < (d.size:Int):=by omega
        have hcl:∀ ty,(Builtin.clear_ #[33] ty #[.slice (some ⟨blk,i * 5,none⟩) (d.size - i) (cap - i)]).run Tryz.prog wr=.ok (.tuple #[]) (wr.setCells blk (i * 5) (Builtin.zeroCells zeroM (d.size - i)).toList):=by
          obtain ⟨cur,h1,h2,h3⟩:=W2.out.row
          refine run_clear5 wr blk (i * 5) (d.size - i) (cap - i) (by omega) (fun t ht => ?_) (fun t ht=>Kz.frozen_of_blk h1)
          rw [Kz.cell_of_blk h1]
          have:d.size * 5≤cap * 5:=Nat.mul_le_mul_right 5 hcap
          have h5:(d.size - i) * 5=d.size * 5 - i * 5:=Nat.sub_mul _ _ _
          rw [Array.getElem?_eq_getElem (by omega)]
          rfl
        have hid:i≤d.size:=by omega
        clear hI
        go_wp2
        go_ret
        have hI:=I2.out
        refine ⟨by rw [hI.len]; rfl,?_⟩
        have:=W2.out.tail (i:=i) (n:=d.size - i) (by omega) (by omega) _ (zeroM_len (d.size - i))
        have e:keptUpTo kp d d.size=dk.toList.take i:=by
          have hsz':=hI.size
          apply List.ext_getElem?
          intro j
          by_cases hj:j < i
          · rw [hI.low j hj,List.getElem?_take_of_lt hj,getElem!_pos dk j (by omega),List.getElem?_eq_getElem (by simp; omega)]
            simp
          · rw [List.getElem?_eq_none (by rw [hI.len]; omega),List.getElem?_eq_none (by simp; omega)]
        rw [e]
        exact this
end Go.Proofs
end
section
namespace Go.Proofs
open Go.Shelf Go.RowKit Go.Lib Go.Sort Kz
theorem mv_cells {g:Gh} {tk:List Nat} {w:World} {m:Mv} {cs:List Value} (h:RepC g tk w (segs (Mv.av m)) cs):cs=encM m:=by
  change RepC g tk w [.int .i8 m.frm,.int .i8 m.to,.int .u8 m.pro,.int .u8 m.drp,.bool m.cas] cs at h
  obtain ⟨x1,r1,rfl,q1,h⟩:=h.inv_one rfl
  obtain ⟨x2,r2,rfl,q2,h⟩:=h.inv_one rfl
  obtain ⟨x3,r3,rfl,q3,h⟩:=h.inv_one rfl
  obtain ⟨x4,r4,rfl,q4,h⟩:=h.inv_one rfl
  obtain ⟨x5,r5,rfl,q5,h⟩:=h.inv_one rfl
  obtain rfl:=h.inv_nil
  cases q1; cases q2; cases q3; cases q4; cases q5
  rfl
theorem mv_rep (g:Gh) (tk:List Nat) (w:World) (m:Mv):RepC g tk w (segs (Mv.av m)) (encM m) :=
  .one rfl (.int _ _) (.one rfl (.int _ _) (.one rfl (.int _ _) (.one rfl (.int _ _) (.one rfl (.bool _) .nil))))
theorem mvs_cells {g:Gh} {tk:List Nat} {w:World}:∀ {l:List Mv} {cs:List Value},RepE g tk w (l.map (enc .mv)) cs→cs=l.flatMap encM
  | [],_,h=>by cases h; rfl
  | m::l,_,h=>by
    cases h with
    | cons hs hx h hr=>rw [hx,mv_cells h,mvs_cells hr]; rfl
theorem mvs_rep (g:Gh) (tk:List Nat) (w:World):∀ l:List Mv,RepE g tk w (l.map (enc .mv)) (l.flatMap encM)
  | []=>.nil
  | m::l=>.cons rfl rfl (mv_rep g tk w m) (mvs_rep g tk w l)
theorem flat_len (l:List Mv):(l.flatMap encM).length=l.length * 5:=by
  induction l with
  | nil=>rfl
  | cons m l ih=>simp only [List.flatMap_cons,List.length_append,encM_len,ih,List.length_cons]; omega
theorem flat_get:∀ (l:List Mv) (j c:Nat),j < l.length→c < 5→(l.flatMap encM)[j * 5+c]?=(encM l[j]!)[c]?
  | [],_,_,h,_=>absurd h (Nat.not_lt_zero _)
  | m::l,0,c,_,hc=>by
    simp only [List.flatMap_cons]
    rw [List.getElem?_append_left (by rw [encM_len]; omega)]
    simp
  | m::l,j+1,c,h,hc=>by
    simp only [List.flatMap_cons]
    rw [List.getElem?_append_right (by rw [encM_len]; omega),encM_len,show (j+1) * 5+c - 5=j * 5+c by omega,flat_get l j c (by simpa using h) hc]
    simp
theorem encM_one (m:Mv):∀ u ∈ encM m,u.oneCell'=true:=by
  intro u hu
  simp only [encM,List.mem_cons,List.not_mem_nil,or_false] at hu
  rcases hu with rfl | rfl | rfl | rfl | rfl <;> rfl
theorem flat_one (l:List Mv):∀ u ∈ l.flatMap encM,u.oneCell'=true:=by
  intro u hu
  obtain ⟨m,_,h⟩:=List.mem_flatMap.1 hu
  exact encM_one m u h
theorem pos_rep {g g':Gh} {tk tk':List Nat} {w w':World} {p:Pos} {cs:List Value} (h:RepC g tk w (segs (Pos.av p)) cs):RepC g' tk' w' (segs (Pos.av p)) cs:=by
  change RepC g tk w [.int .u8 p.variant,.ints .u8 64 p.board,.u64 p.promoted,.ints .u8 12 p.pockets,.int .u8 p.turn,.ints .i8 4 p.rooks,.int .i8 p.passing,.ints .u8 2 p.checks,.int .i64 p.half,.int .i64 p.full] cs at h
  obtain ⟨x1,r1,rfl,q1,h1⟩:=h.inv_one rfl
  obtain ⟨l2,r2,rfl,h2⟩:=h1.inv_ints
  obtain ⟨x3,r3,rfl,q3,h3⟩:=h2.inv_one rfl
  obtain ⟨l4,r4,rfl,h4⟩:=h3.inv_ints
  obtain ⟨x5,r5,rfl,q5,h5⟩:=h4.inv_one rfl
  obtain ⟨l6,r6,rfl,h6⟩:=h5.inv_ints
  obtain ⟨x7,r7,rfl,q7,h7⟩:=h6.inv_one rfl
  obtain ⟨l8,r8,rfl,h8⟩:=h7.inv_ints
  obtain ⟨x9,r9,rfl,q9,h9⟩:=h8.inv_one rfl
  obtain ⟨x10,r10,rfl,q10,h10⟩:=h9.inv_one rfl
  obtain rfl:=h10.inv_nil
  cases q1; cases q3; cases q5; cases q7; cases q9; cases q10
  exact .one rfl (.int _ _) (.ints l2 rfl (.one rfl (.u64 _) (.ints l4 rfl (.one rfl (.int _ _) (.ints l6 rfl (.one rfl (.int _ _) (.ints l8 rfl (.one rfl (.int _ _) (.one rfl (.int _ _) .nil)))))))))
set_option maxHeartbeats 1000000 in
set_option maxRecDepth 100000 in
theorem idx0 (a:Option Addr) (c:Nat) (fv:Value) (w:World):Calls Tryz.prog 130 #[.slice a 0 c,fv] w fun e w'=>e=.returned (.int .i64 (-1))∧w'=w:=by
  go_enter Tryz.func130,Tryz.ntmps130
  go_wp2
  go_loopg [5,8] 0 (fun _ _ s8 wr=>s8=.int .i64 0∧wr=w)
  case atStart=>exact ⟨rfl,rfl⟩
  case round =>
    obtain ⟨rfl,rfl⟩:=hrel
    go_wp2
    go_ret
    exact ⟨rfl,rfl⟩
set_option maxHeartbeats 1000000 in
set_option maxRecDepth 100000 in
theorem del0 (a:Option Addr) (c:Nat) (fv:Value) (w:World):Calls Tryz.prog 64 #[.slice a 0 c,fv] w fun e w'=>e=.returned (.slice a 0 c)∧w'=w:=by
  have h:=idx0 a c fv w
  go_enter Tryz.func64,Tryz.ntmps64
  go_wp2_with fail
  refine h.mono ?_
  rintro e w' ⟨rfl,rfl⟩
  go_wp2_with fail
  go_ret
  exact ⟨rfl,rfl⟩
set_option maxHeartbeats 2000000 in
set_option maxRecDepth 100000 in
theorem clone0 (ad:Addr) (c:Nat) (w:World):Calls Tryz.prog 65 #[.slice (some ad) 0 c] w fun e w' => ∃ v',e=.returned v'∧w'.ownsRow w.heap.size 44 5 v' 0 []∧v'≠.slice none 0 0∧RowKit.Below w.heap.size w w':=by
  obtain ⟨i0,z,a1,a2,a3,a4,a5⟩:=info44
  have q22:∀ (w:World) (a:Option Addr) (n c n' c':Nat),(binOp .eql 33 (.slice a n c) (.slice none n' c')).run Tryz.prog w=.ok (.bool a.isNone) w:=fun w a n c n' c'=>Lib.run_eql_slice_nil w _ _ a n c n' c' Tryz.underlying33
  have u22:∀ w,Sem.run Tryz.prog (underlying 33) w=.ok (TypeDesc.slice 44) w:=run_underlying Tryz.underlying33
  go_enter Tryz.func65,Tryz.ntmps65
  go_wp2_with (at_builtin; refine wpList_append_own _ rfl _ _ 33 rfl w.heap.size 44 i0 z 5 i0.bytes Tryz.underlying33 a1 a2 a3 rfl a4 (by omega) _ _ _ rfl (World.ownsRow_made w #[] 0 (Nat.le_refl _) (Nat.zero_le _) (by simp)) ad 0 c [] rfl ?qc1 ?qc2 ?qc3 ?qc4 ?qc5 ?qc6 ?_)
  case qc1=>rfl
  case qc2=>intro j u hj; simp at hj
  case qc3=>intro u hu; simp at hu
  case qc4=>simp
  case qc5=>simp
  case qc6=>simp
  intro v' w1 hown hgrow hnil
  go_wp2
  go_ret
  refine ⟨v',rfl,by simpa using hown,?_,?_⟩
  · exact hnil
  · exact ((Below.refl _ w).alloc (Nat.le_refl _) _).grown hgrow (by simp) (by intro k hk; simp [Value.ownBlock] at hk; omega)
set_option maxHeartbeats 2000000 in
set_option maxRecDepth 100000 in
theorem keepM (p:Pos) (f2:Nat) (q:Mv→Bool) (l:List Mv) (hll:l.length≤lim) (hq:∀ m,PureSpec Tryz.prog 66 [Mv.av m,.ptrf (.func f2 [] [.ptrf (Pos.av p)])] (.bool (!q m))):PureSpec Tryz.prog 63 [.list .mv l .arg,.func f2 [] [.ptrf (Pos.av p)]] (.list .mv (l.filter q) .fresh):=by
  intro w vals hg hr
  obtain ⟨vals⟩:=vals
  cases hr with
  | cons q1 r1 =>
  cases r1 with
  | cons q2 r2 =>
  cases r2
  cases q2 with
  | func ha hb =>
  rename_i x y
  obtain ⟨x⟩:=x
  obtain ⟨y⟩:=y
  cases ha
  cases hb with
  | cons q3 r3 =>
  cases r3
  cases q3 with
  | ptrf hpc hpa =>
  rename_i pc po pcs
  cases q1 with
  | list hn hE hS hT hC =>
  rename_i a n cap cs
  subst hn
  have hcs:=mvs_cells hE
  obtain ⟨fv,hfv⟩:∃ fv:Value,fv=.func (.func f2) (Array.mk []) (Array.mk [.pointer (some ⟨pc,po,none⟩)]):=⟨_,rfl⟩
  rw [← hfv]
  have hpred:∀ (W:World) (u:Mv),w.heap.size+1≤W.heap.size→(∀ k,k < w.heap.size+1→W.heap[k]?=(w.alloc (.cells #[fv] 85)).heap[k]?) →
      Calls Tryz.prog 66 (#[.agg (encM u).toArray]++#[.pointer (some ⟨w.heap.size,0,none⟩)]) W fun e w'=>e=.returned (.bool (!q u))∧RowKit.Below W.heap.size W w':=by
    intro W u hsz hsame
    have old:∀ k,k < w.heap.size→W.heap[k]?=w.heap[k]? := fun k hk=>by
      rw [hsame k (by omega)]
      exact ((Below.refl _ w).alloc (Nat.le_refl _) _).block k hk
    refine (callsIn_wide.1 (hq u W (#[.agg (encM u).toArray]++#[.pointer (some ⟨w.heap.size,0,none⟩)]) ?_ ?_)).mono ?_
    · intro pr hpr j x hj
      obtain ⟨h1,h2⟩:=hg pr hpr j x hj
      have hlt:pr.1 < w.heap.size:=h2
      exact ⟨by rw [cell_same (old _ hlt)]; exact h1,Nat.lt_of_lt_of_le hlt (by omega)⟩
    · refine .cons (.agg (mv_rep _ _ _ u)) (.cons (.ptrf (cs:=[fv]) (.one rfl ?_ .nil) ?_) .nil)
      · rw [hfv]
        refine .func .nil (.cons (.ptrf (pos_rep hpc) ?_) .nil)
        intro j x hj
        obtain ⟨h1,h2⟩:=hpa j x hj
        have hlt:pc < w.heap.size:=h2
        exact ⟨by rw [cell_same (old _ hlt)]; exact h1,Nat.lt_of_lt_of_le hlt (by omega)⟩
      · intro j x hj
        have hc:W.heap[w.heap.size]?=some (.cells #[fv] 85 (0,0)):=by
          rw [hsame _ (Nat.lt_succ_self _)]; exact heap_alloc_new w _
        refine ⟨?_,show w.heap.size < W.heap.size by omega⟩
        rw [cell_of_blk hc,Nat.zero_add]
        simpa using hj
    · rintro e w' ⟨v,rfl,hb,hv⟩
      cases hv
      exact ⟨rfl,hb⟩
  subst hfv
  clear hpc hpa
  refine callsIn_wide.2 ?_
  cases a with
  | none =>
    obtain rfl:l=[]:=by
      rcases hS with h | ⟨_,_,h,_⟩
      · have:=flat_len l
        rw [← hcs,h] at this
        exact List.eq_nil_of_length_eq_zero (by simp at this; omega)
      · cases h
    have hc:=fun w=>AnyE.slices_Clone_nil Tryz.cloneM 0 cap w
    have hd:=del0 none 0 (.func (.func 66) #[] #[.pointer (some ⟨w.heap.size,0,none⟩)])
    clear hpred hS hcs hE hT
    go_enter Tryz.func63,Tryz.ntmps63
    go_wp2_with fail
    refine (hc _).mono ?_
    rintro e w' ⟨rfl,rfl⟩
    go_wp2_with fail
    refine (hd _).mono ?_
    rintro e w' ⟨rfl,rfl⟩
    go_wp2_with fail
    go_ret
    exact ⟨_,rfl,(Below.refl _ w).alloc (Nat.le_refl _) _,.list (cs:=[]) rfl .nil (.inl rfl) (fun k e=>by cases e) (Nat.le_refl _)⟩
  | some ad =>
    have hclone:Calls Tryz.prog 65 #[.slice (some ad) l.length cap] (w.alloc (.cells #[(.func (.func f2) (Array.mk []) (Array.mk [.pointer (some ⟨pc,po,none⟩)]))] 85)) fun e w' => ∃ v',e=.returned v'∧w'.ownsRow (w.alloc (.cells #[(.func (.func f2) (Array.mk []) (Array.mk [.pointer (some ⟨pc,po,none⟩)]))] 85)).heap.size 44 5 v' l.length (l.flatMap encM)∧v'≠.slice none 0 0∧RowKit.Below (w.alloc (.cells #[(.func (.func f2) (Array.mk []) (Array.mk [.pointer (some ⟨pc,po,none⟩)]))] 85)).heap.size (w.alloc (.cells #[(.func (.func f2) (Array.mk []) (Array.mk [.pointer (some ⟨pc,po,none⟩)]))] 85)) w':=by
      by_cases hl:l=[]
      · subst hl
        exact clone0 ad cap _
      · obtain ⟨c,o,hadr,hat,_⟩:=hS.resolve_left (fun e0=>hl (by
          have:=flat_len l
          rw [← hcs,e0] at this
          exact List.eq_nil_of_length_eq_zero (by simp at this; omega)))
        simp only [Option.some.injEq] at hadr
        subst hadr
        obtain ⟨i0,z,a1,a2,a3,a4,a5⟩:=info44
        refine AnyE.slices_Clone Tryz.cloneM i0 z 5 i0.bytes a1 a2 a3 rfl a4 (by omega) Tryz.sizeOf44 c o l.length cap (l.flatMap encM) _ (flat_len l) ?_ ?_ ?_ (flat_one l)
        · unfold lim at hll; unfold maxLen; omega
        · have:l.length * i0.bytes≤l.length * 131072:=Nat.mul_le_mul_left _ a5
          unfold lim at hll
          omega
        · intro j u hj
          rw [← hcs] at hj
          obtain ⟨h1,h2⟩:=hat j u hj
          have hlt:c < w.heap.size:=h2
          rw [cell_same (((Below.refl _ w).alloc (Nat.le_refl _) _).block c hlt)]
          exact h1
    clear hS hcs hE hT
    have HP:=Lib.hid hpred
    clear hpred
    go_enter Tryz.func63,Tryz.ntmps63
    go_wp2_with fail
    refine hclone.mono ?_
    rintro e w2 ⟨v',rfl,hown,hne,hb⟩
    obtain ⟨hlen,⟨rfl,_⟩ | ⟨gb,cap',cur,rfl,hgb,hcur,hn',hmax,hsz,htake⟩⟩:=hown
    · exact absurd rfl hne
    have hrow:RowW w2 gb cap' 44 l.toArray w2:=⟨rfl,rfl,rfl,Nat.le_refl _,fun _ _ _=>rfl,cur,hcur,hsz,fun j c hj hc=>by
      have hj':j < l.length:=by simpa using hj
      have h1:j * 5+c < l.length * 5:=by have:=Nat.mul_le_mul_right 5 (show j+1≤l.length from hj'); omega
      rw [← Array.getElem?_toList,← List.getElem?_take_of_lt h1,htake,flat_get l j c hj' hc]
      congr 2
      rw [getElem!_pos l j hj',getElem!_pos l.toArray j hj]
      simp⟩
    have hdel:=delM (fun u => !q u) 66 #[.pointer (some ⟨w.heap.size,0,none⟩)] (fun _ _=>rfl) gb cap' l.toArray w2 (lt_of_some hcur) hrow (by simpa using hn') hmax (fun W dk u hW=>by
      have hs1:(w.alloc (.cells #[(.func (.func f2) (Array.mk []) (Array.mk [.pointer (some ⟨pc,po,none⟩)]))] 85)).heap.size=w.heap.size+1:=by simp
      refine HP.out W u (by have:=hb.size; have:=hW.size; omega) (fun k hk => ?_)
      rw [hW.other k (by have:=hb.size; omega) (by omega),hb.block k (by omega)])
    simp only [List.size_toArray,Bool.not_not] at hdel
    have HD:=Lib.hid hdel
    have HBW:=Lib.hid hb
    have HG:=Lib.hid hgb
    have HN:=Lib.hid hn'
    clear hdel HP hrow hb hgb hn' hcur hsz htake hlen hne hmax hclone
    go_wp2_with fail
    refine HD.out.mono ?_
    rintro e w3 ⟨rfl,hR⟩
    have HR:=Lib.hid hR
    clear hR
    go_wp2_with fail
    go_ret
    have hR:=HR.out
    have hb:=HBW.out
    have hgb:=HG.out
    have hs1:(w.alloc (.cells #[(.func (.func f2) (Array.mk []) (Array.mk [.pointer (some ⟨pc,po,none⟩)]))] 85)).heap.size=w.heap.size+1:=by simp
    have hw1:RowKit.Below w.heap.size w (w.alloc (.cells #[(.func (.func f2) (Array.mk []) (Array.mk [.pointer (some ⟨pc,po,none⟩)]))] 85)):=(Below.refl _ w).alloc (Nat.le_refl _) _
    have hbw:RowKit.Below w.heap.size w w3:=⟨hR.os.trans (hb.os.trans hw1.os),hR.tape.trans (hb.tape.trans hw1.tape),hR.output.trans (hb.output.trans hw1.output),by have:=hR.size; have:=hb.size; omega,fun k hk=>by
      rw [hR.other k (by have:=hb.size; omega) (by omega),hb.block k (by omega)]
      exact hw1.block k hk⟩
    refine ⟨_,rfl,hbw,?_⟩
    obtain ⟨cur,k1,k2,k3⟩:=hR.row
    have hfl:(l.filter q).length≤l.length:=List.length_filter_le _ _
    refine .list (cs:=(l.filter q).flatMap encM) (by simp) (mvs_rep _ _ _ _) (.inr ⟨gb,0,rfl,fun j x hj => ?_,fun _=>by show w.heap.size≤gb; omega⟩) (fun k e=>by cases e) (Nat.le_trans hfl HN.out)
    have hjl:j < (l.filter q).length * 5:=by rw [← flat_len]; exact (List.getElem?_eq_some_iff.1 hj).1
    have hdm:j=j / 5 * 5+j % 5:=by omega
    have hq5:j / 5 < (l.filter q).length:=by omega
    refine ⟨?_,show w.heap.size≤gb∧gb < w3.heap.size from ⟨by omega,lt_of_some k1⟩⟩
    rw [cell_of_blk k1,Nat.zero_add,hdm,k3 (j / 5) (j % 5) (by simpa using hq5) (Nat.mod_lt _ (by omega)),← hj]
    conv=>rhs; rw [hdm]
    rw [flat_get (l.filter q) (j / 5) (j % 5) hq5 (Nat.mod_lt _ (by omega))]
    congr 2
    rw [getElem!_pos (l.filter q) (j / 5) hq5,getElem!_pos (l.filter q).toArray (j / 5) (by simpa using hq5)]
    simp
end Go.Proofs
end
section
namespace Kz
open Go Go.RowKit Go.Proofs
def posAt (h:Hp) (b:Nat):Pos:=match h.heap.getD b [] with
  | [.int _ v,.ints _ _ bd,.u64 pr,.ints _ _ pk,.int _ tn,.ints _ _ rk,.int _ ps,.ints _ _ ck,.int _ hf,.int _ fl]=>⟨v,bd,pr,pk,tn,rk,ps,ck,hf,fl⟩
  | _=>default
def clo (vs:List AV):Option (Nat×Nat):=match vs with
  | [_,.func f [] [.ptr b 0]]=>some (f,b)
  | _=>none
theorem fs_keep {P:Program} {f:Nat} {l l':List Mv} {tk:Tk} {f2 b:Nat} {p:Pos} {h:Hp} (hb:h.heap[b]?=some (segs (Pos.av p))) (hs:PureSpec P f [.list .mv l .arg,.func f2 [] [.ptrf (Pos.av p)]] (.list .mv l' .fresh)) :
    FSpec P f [.list .mv l tk,.func f2 [] [.ptr b 0]] h (.ret (.list .mv l' .fresh) h):=by
  intro g w vals m hr
  have hr':RepL (gArg w) [] w [.list .mv l .arg,.func f2 [] [.ptrf (Pos.av p)]] vals.toList:=by
    obtain ⟨vals⟩:=vals
    cases hr with
    | cons q1 r1 =>
    cases r1 with
    | cons q2 r2 =>
    cases r2
    cases q1 with
    | list hn hE hS hT hC =>
    rename_i a n cap cs
    cases q2 with
    | func ha hb2 =>
    rename_i x y
    obtain ⟨x⟩:=x
    obtain ⟨y⟩:=y
    cases ha
    cases hb2 with
    | cons q3 r3 =>
    cases r3
    cases q3 with
    | ptr hv =>
    rename_i c
    obtain ⟨_,_,cells,ty,hc,hcells⟩:=m.var b c _ hv hb
    refine .cons (.list (cs:=cs) hn (by rw [mvs_cells hE]; exact mvs_rep _ _ _ _) (hS.imp id fun ⟨c',o',e1,e2,_⟩=>⟨c',o',e1,fun j x hj=>⟨(e2 j x hj).1,m.fzlt _ _ (e2 j x hj).2⟩,fun f=>absurd rfl f⟩) (fun k e=>by cases e) hC)
      (.cons (.func .nil (.cons (.ptrf (cs:=cells.toList) (pos_rep hcells) fun j x hj=>⟨by rw [cell_of_blk hc,Nat.zero_add]; simpa using hj,lt_of_some hc⟩) .nil)) .nil)
  refine (hs w vals m.globOk hr').mono ?_
  rintro e w' ⟨x,rfl,hbl,hx⟩
  obtain ⟨m1,l1⟩:=m.growFz hbl
  exact ⟨_,x,rfl,⟨m1,l1,Fl.refl _⟩,res_in m hx⟩
end Kz
end
section
namespace Kz
open Go Go.RowKit Go.Proofs
set_option maxRecDepth 100000
set_option maxHeartbeats 4000000
noncomputable def B66:Base:=baseOf Pz (fun _ _=>[]) [(70,G70),(68,G68)] [] []
theorem hB66:BOk B66:=base_ok named_z ⟨s70,s68,trivial⟩ trivial trivial
theorem E66a (p:Pos) (m:Mv):evPure B66 14 66 [Mv.av m,.ptrf (.func 67 [] [.ptrf (Pos.av p)])]=Tr.br (ok68 p m) (Tr.ret (AV.bool (!N68 p m))) Tr.fail:=by kernel_rfl
theorem E66b (p:Pos) (m:Mv):evPure B66 14 66 [Mv.av m,.ptrf (.func 69 [] [.ptrf (Pos.av p)])]=Tr.br (ok70 p m) (Tr.ret (AV.bool (!N70 p m))) Tr.fail:=by kernel_rfl
theorem P66a (p:Pos) (m:Mv) (h:ok68 p m=true):PureSpec Pz 66 [Mv.av m,.ptrf (.func 67 [] [.ptrf (Pos.av p)])] (.bool (!N68 p m)) :=
  (ps_gotR (d:=dB) hB66 (E66a p m) (gr_guard (gr_ret rfl)) (by rw [h]; rfl)).1
theorem P66b (p:Pos) (m:Mv) (h:ok70 p m=true):PureSpec Pz 66 [Mv.av m,.ptrf (.func 69 [] [.ptrf (Pos.av p)])] (.bool (!N70 p m)) :=
  (ps_gotR (d:=dB) hB66 (E66b p m) (gr_guard (gr_ret rfl)) (by rw [h]; rfl)).1
open Classical in
noncomputable def all68 (p:Pos):Bool:=shut (decide (∀ m,ok68 p m=true))
theorem all68_iff {p:Pos}:all68 p=true ↔ ∀ m,ok68 p m=true:=by
  unfold all68
  rw [shut_eq]
  simp
open Classical in
noncomputable def all70 (p:Pos):Bool:=shut (decide (∀ m,ok70 p m=true))
theorem all70_iff {p:Pos}:all70 p=true ↔ ∀ m,ok70 p m=true:=by
  unfold all70
  rw [shut_eq]
  simp
noncomputable def kept (f:Nat) (p:Pos) (l:List Mv):List Mv:=l.filter (bif f.beq 67 then N68 p else N70 p)
noncomputable def okKept (f:Nat) (p:Pos) (l:List Mv):Bool:=decide (l.length≤lim)&&bif f.beq 67 then all68 p else f.beq 69&&all70 p
noncomputable def FF63:List AV→Hp→Tr FRes:=fun xs h=>match xs with
  | [.list .mv l _,.func f [] [.ptr b 0]]=>match h.heap[b]? with
    | some [.int .u8 v,.ints .u8 64 bd,.u64 pr,.ints .u8 12 pk,.int .u8 tn,.ints .i8 4 rk,.int .i8 ps,.ints .u8 2 ck,.int .i64 hf,.int .i64 fl] =>
      .guard (okKept f ⟨v,bd,pr,pk,tn,rk,ps,ck,hf,fl⟩ l) (.ret (.ret (.list .mv (kept f ⟨v,bd,pr,pk,tn,rk,ps,ck,hf,fl⟩ l) .fresh) h))
    | _=>.fail
  | _=>.fail
theorem body63:∃ fn,Pz.funcs[63]?=some fn∧fn.body.isSome=true:=by
  have h:(match Pz.funcs[63]? with
    | some fn=>fn.body.isSome
    | none=>false)=true:=by kernel_rfl
  split at h
  · rename_i fn hf
    exact ⟨fn,hf,h⟩
  · cases h
theorem sFF63:FSound Pz 63 FF63:=by
  intro xs h res he
  unfold FF63 at he
  split at he
  · rename_i l tk f b
    split at he
    · rename_i v bd pr pk tn rk ps ck hf fl hb
      simp only [get_guard,get_ret,Option.some.injEq] at he
      obtain ⟨h1,rfl⟩:=he
      refine ⟨?_,body63⟩
      unfold okKept at h1
      simp only [Bool.and_eq_true,decide_eq_true_eq] at h1
      obtain ⟨hl,h1⟩:=h1
      unfold kept
      cases hf3:f.beq 67 with
      | true =>
        rw [hf3] at h1
        obtain rfl:=Nat.eq_of_beq_eq_true hf3
        exact fs_keep (p:=⟨v,bd,pr,pk,tn,rk,ps,ck,hf,fl⟩) hb (keepM _ _ _ l hl fun m=>P66a _ m (all68_iff.1 h1 m))
      | false =>
        rw [hf3] at h1
        simp only [cond_false,Bool.and_eq_true] at h1
        obtain rfl:=Nat.eq_of_beq_eq_true h1.1
        exact fs_keep (p:=⟨v,bd,pr,pk,tn,rk,ps,ck,hf,fl⟩) hb (keepM _ _ _ l hl fun m=>P66b _ m (all70_iff.1 h1.2 m))
    · simp at he
  · simp at he
noncomputable def K31:List (Nat×Nat×List (Nat×List Nat)):=[(31,37,[(0,(1::(rn 12 5 [28,29,30]))),(1,[1,17,28,29,30]),(2,[2]),(3,[1,3,28,29,30]),(4,[1,3,4,28,29,30]),(5,[1,3,4,5,28,29,30]),(6,[3,4,5,31]),(7,[4]),(8,[2])]),(63,9,[(0,[0,3]),(1,[4])]),(67,7,[(0,[1,2]),(1,[3])]),(69,7,[(0,[1,2]),(1,[3])]),(71,9,[(0,[0,1]),(1,[4])]),(130,19,[(0,[0,1]),(1,[0,1,7,8]),(2,[0,1,7,8,9]),(3,[0,1,5,7,8]),(4,[0,1,5,7,8,16]),(5,[4]),(6,[0,1,7,8]),(7,[4])])]
noncomputable def B31_1:Base:=baseOf Pz (fun f i=>lkC f i K31) [(61,G61),(38,G38),(70,G70),(68,G68),(62,G62)] [] [(63,FF63)]
theorem hB31_1:BOk B31_1:=base_ok named_z ⟨s61,s38,s70,s68,s62,trivial⟩ trivial ⟨sFF63,trivial⟩
noncomputable def S31_1 (p1:(List Mv)) (p2:Int) (p3:Pos) (x:(Int)):St:=St.mk (AV.list ET.mv p1 Tk.fresh::AV.func 69 [] [AV.ptr 0 0]::(an 5 (AV.int .i64 p2::AV.int .i64 x::(an 10 [])))) (Hp.mk [(pc p3 [])] [0] [] 0 0 0)
noncomputable def O31_1 (p1:(List Mv)) (p2:Int) (p3:Pos):(Int) ⊕ (Int×Bool)→Out
  | (.inl (y))=>.ret (St.mk (an 4 (AV.int .i64 y::(an 14 []))) (Hp.mk [(pc p3 [])] [0] [] 0 0 0))
  | (.inr (y))=>.exit 0 (St.mk (AV.list ET.mv p1 Tk.fresh::AV.func 69 [] [AV.ptr 0 0]::(an 5 (AV.int .i64 p2::AV.int .i64 y.fst::AV.bool y.snd::(an 9 [])))) (Hp.mk [(pc p3 [])] [0] [] 0 0 0))
noncomputable def st31_1 (p1:(List Mv)) (p2:Int) (p3:Pos) (x:(Int)):Stp (Int) ((Int) ⊕ (Int×Bool)):=(bif decide (x < p2) then (bif N70 p3 (p1.getD x.toNat default) then (Stp.out (.inl ((x)))) else (Stp.go (wr .i64 (x+1)))) else (Stp.out (.inr ((x,decide (x < p2))))))
noncomputable def okL31_1 (p1:(List Mv)) (p2:Int) (p3:Pos) (x:(Int)):Bool:=(bif decide (x < p2) then (decide (0≤x)&&decide (x < Int.ofNat p1.length)&&(ok70 (p3) (p1.getD x.toNat default)&&true)) else true)
noncomputable def lp31_1 (p1:(List Mv)) (p2:Int) (p3:Pos) (x:(Int)):Option ((Int) ⊕ (Int×Bool)):=itl (fun x=>bif okL31_1 p1 p2 p3 x then st31_1 p1 p2 p3 x else .bad) many x
abbrev D31_1 {α:Type} (k:(List Mv)→Int→Pos→(Int)→α) (s:St):α:=wP s 0 fun q0=>k (tL (ET.mv) (tT s 0)) (tI (tT s 7)) q0 ((tI (tT s 8)))
theorem L31_1 (p1:(List Mv)) (p2:Int) (p3:Pos) (x:(Int)) (r:(Int) ⊕ (Int×Bool)) (h:lp31_1 p1 p2 p3 x=some r):LSpec Pz (bodL Pz 130 2) (S31_1 p1 p2 p3 x) (O31_1 p1 p2 p3 r):=LSpec.smd (m:=12) (fn:=130) hB31_1 (D31_1 fun _ _ _ x=>some x) (fun o=>match o with | .ret s=>some (.inl (tI (tT s 4))) | .exit 0 s=>some (.inr ((tI (tT s 8)),(tB (tT s 9)))) | _=>none) (fun r=>by cases r <;> rfl) (fun _=>by kernel_rfl) (fun _=>by kernel_rfl) (fun _=>by kernel_rfl) (fun _=>by kernel_rfl) many x r h
noncomputable def F31_1 (b:Code) (s:St):Tr Out:=D31_1 (fun p1 p2 p3 x=>lk2 b (bodL Pz 130 2) s (S31_1 p1 p2 p3 x) (lp31_1 p1 p2 p3 x) (O31_1 p1 p2 p3)) s
theorem sF31_1:∀ b,LSound Pz b (F31_1 b):=fun _ _ _ h=>lk2_ok (L31_1 _ _ _ _) h
noncomputable def B31:Base:=baseOf Pz (fun f i=>lkC f i K31) [(61,G61),(38,G38),(70,G70),(68,G68),(62,G62)] [(130,2,F31_1)] [(63,FF63)]
theorem hB31:BOk B31:=base_ok named_z ⟨s61,s38,s70,s68,s62,trivial⟩ ⟨sF31_1,trivial⟩ ⟨sFF63,trivial⟩
noncomputable def N31 (a:Pos):List Mv:=(bif N61 a.variant a.turn then (bif !N62 a a.turn then ([]) else (bif a.variant==4 then (bif isL ((lp31_1 (kept 67 a (N38 a)) (Int.ofNat (kept 67 a (N38 a)).length) a 0).getD default) then (bif decide (gl ((lp31_1 (kept 67 a (N38 a)) (Int.ofNat (kept 67 a (N38 a)).length) a 0).getD default) ≥ 0) then (kept 69 a (kept 67 a (N38 a))) else (kept 67 a (N38 a))) else (kept 67 a (N38 a))) else (kept 67 a (N38 a)))) else (bif a.variant==4 then (bif isL ((lp31_1 (kept 67 a (N38 a)) (Int.ofNat (kept 67 a (N38 a)).length) a 0).getD default) then (bif decide (gl ((lp31_1 (kept 67 a (N38 a)) (Int.ofNat (kept 67 a (N38 a)).length) a 0).getD default) ≥ 0) then (kept 69 a (kept 67 a (N38 a))) else (kept 67 a (N38 a))) else (kept 67 a (N38 a))) else (kept 67 a (N38 a))))
noncomputable def ok31 (a:Pos):Bool:=(ok61 (a.variant) (a.turn)&&(bif N61 a.variant a.turn then (ok62 (a) (a.turn)&&(bif !N62 a a.turn then true else (ok38 (a)&&(okKept 67 a (N38 a)&&(bif a.variant==4 then ((lp31_1 (kept 67 a (N38 a)) (Int.ofNat (kept 67 a (N38 a)).length) a 0).isSome&&bif isL ((lp31_1 (kept 67 a (N38 a)) (Int.ofNat (kept 67 a (N38 a)).length) a 0).getD default) then (bif decide (gl ((lp31_1 (kept 67 a (N38 a)) (Int.ofNat (kept 67 a (N38 a)).length) a 0).getD default) ≥ 0) then (okKept 69 a (kept 67 a (N38 a))&&true) else true) else true) else true))))) else (ok38 (a)&&(okKept 67 a (N38 a)&&(bif a.variant==4 then ((lp31_1 (kept 67 a (N38 a)) (Int.ofNat (kept 67 a (N38 a)).length) a 0).isSome&&bif isL ((lp31_1 (kept 67 a (N38 a)) (Int.ofNat (kept 67 a (N38 a)).length) a 0).getD default) then (bif decide (gl ((lp31_1 (kept 67 a (N38 a)) (Int.ofNat (kept 67 a (N38 a)).length) a 0).getD default) ≥ 0) then (okKept 69 a (kept 67 a (N38 a))&&true) else true) else true) else true)))))
theorem P31 (a:Pos) (h:ok31 a=true):PS Pz 31 [Pos.av a] ((dL .mv).res (N31 a)):=ps_sum (n:=14) hB31 (by kernel_rfl) (by kernel_rfl) (by kernel_rfl) h
noncomputable def G31:List AV→Tr AV:=g1 dPos (fun a=>gdv (ok31 a) ((dL .mv).res (N31 a)))
theorem s31:Sound Pz 31 G31:=sound1 fun a=>at_gd (P31 a)
noncomputable def K128:List (Nat×Nat×List (Nat×List Nat)):=[(71,9,[(0,[0,1]),(1,[4])]),(128,40,[(0,[1,2,16]),(1,[1,2,3,16]),(2,[1,2,4,5,16]),(3,[1,2,4,5,13]),(4,[2]),(5,[1,2,4,19]),(6,[2]),(7,[1,2,22]),(8,[2]),(9,[1,2,26]),(10,[2]),(11,[1,2,6]),(12,[1,2,7]),(13,[2,37]),(14,[2]),(15,[2])]),(130,19,[(0,[0,1]),(1,[0,1,7,8]),(2,[0,1,7,8,9]),(3,[0,1,5,7,8]),(4,[0,1,5,7,8,16]),(5,[4]),(6,[0,1,7,8]),(7,[4])]),(170,8,[(0,[0,1]),(1,[3])]),(171,14,[(0,[1,2,10,11,12]),(1,[3])])]
noncomputable def B128_1:Base:=baseOf Pz (fun f i=>lkC f i K128) [(31,G31),(99,G99),(166,G166)] [] []
theorem hB128_1:BOk B128_1:=base_ok named_z ⟨s31,s99,s166,trivial⟩ trivial trivial
noncomputable def S128_1 (p1:(List Mv)) (p2:Int) (p3:Pos) (p4:Int) (x:(Int)):St:=St.mk (AV.list ET.mv p1 Tk.fresh::AV.func 171 [] [AV.ptr 2 0]::(an 5 (AV.int .i64 p2::AV.int .i64 x::(an 10 [])))) (Hp.mk [(pc p3 []),[AV.int .u8 0,AV.int .u8 0],[AV.int .i64 p4]] [] [] 0 0 0)
noncomputable def O128_1 (p1:(List Mv)) (p2:Int) (p3:Pos) (p4:Int):(Int) ⊕ (Int×Bool)→Out
  | (.inl (y))=>.ret (St.mk (an 4 (AV.int .i64 y::(an 14 []))) (Hp.mk [(pc p3 []),[AV.int .u8 0,AV.int .u8 0],[AV.int .i64 p4]] [] [] 0 0 0))
  | (.inr (y))=>.exit 0 (St.mk (AV.list ET.mv p1 Tk.fresh::AV.func 171 [] [AV.ptr 2 0]::(an 5 (AV.int .i64 p2::AV.int .i64 y.fst::AV.bool y.snd::(an 9 [])))) (Hp.mk [(pc p3 []),[AV.int .u8 0,AV.int .u8 0],[AV.int .i64 p4]] [] [] 0 0 0))
noncomputable def st128_1 (p1:(List Mv)) (p2:Int) (p3:Pos) (p4:Int) (x:(Int)):Stp (Int) ((Int) ⊕ (Int×Bool)):=(bif decide (x < p2) then (bif wr .i64 (p1.getD x.toNat default).frm==p4 then (bif decide ((p1.getD x.toNat default).to ≥ 56) then (Stp.out (.inl ((x)))) else (Stp.go (wr .i64 (x+1)))) else (Stp.go (wr .i64 (x+1)))) else (Stp.out (.inr ((x,decide (x < p2))))))
noncomputable def okL128_1 (p1:(List Mv)) (p2:Int) (p3:Pos) (p4:Int) (x:(Int)):Bool:=(bif decide (x < p2) then (decide (0≤x)&&decide (x < Int.ofNat p1.length)&&true) else true)
noncomputable def lp128_1 (p1:(List Mv)) (p2:Int) (p3:Pos) (p4:Int) (x:(Int)):Option ((Int) ⊕ (Int×Bool)):=itl (fun x=>bif okL128_1 p1 p2 p3 p4 x then st128_1 p1 p2 p3 p4 x else .bad) many x
abbrev D128_1 {α:Type} (k:(List Mv)→Int→Pos→Int→(Int)→α) (s:St):α:=wP s 0 fun q0=>k (tL (ET.mv) (tT s 0)) (tI (tT s 7)) q0 (tI (tH s 2 0)) ((tI (tT s 8)))
theorem L128_1 (p1:(List Mv)) (p2:Int) (p3:Pos) (p4:Int) (x:(Int)) (r:(Int) ⊕ (Int×Bool)) (h:lp128_1 p1 p2 p3 p4 x=some r):LSpec Pz (bodL Pz 130 2) (S128_1 p1 p2 p3 p4 x) (O128_1 p1 p2 p3 p4 r):=LSpec.smd (m:=12) (fn:=130) hB128_1 (D128_1 fun _ _ _ _ x=>some x) (fun o=>match o with | .ret s=>some (.inl (tI (tT s 4))) | .exit 0 s=>some (.inr ((tI (tT s 8)),(tB (tT s 9)))) | _=>none) (fun r=>by cases r <;> rfl) (fun _=>by kernel_rfl) (fun _=>by kernel_rfl) (fun _=>by kernel_rfl) (fun _=>by kernel_rfl) many x r h
noncomputable def F128_1 (b:Code) (s:St):Tr Out:=D128_1 (fun p1 p2 p3 p4 x=>lk2 b (bodL Pz 130 2) s (S128_1 p1 p2 p3 p4 x) (lp128_1 p1 p2 p3 p4 x) (O128_1 p1 p2 p3 p4)) s
theorem sF128_1:∀ b,LSound Pz b (F128_1 b):=fun _ _ _ h=>lk2_ok (L128_1 _ _ _ _ _) h
noncomputable def B128:Base:=baseOf Pz (fun f i=>lkC f i K128) [(31,G31),(99,G99),(166,G166)] [(130,2,F128_1)] []
theorem hB128:BOk B128:=base_ok named_z ⟨s31,s99,s166,trivial⟩ ⟨sF128_1,trivial⟩ trivial
noncomputable def N128 (a:Pos):(Int×Int):=(bif decide (N99 a 0 6 ≥ 56) then (bif decide (N99 a 1 6 ≥ 56) then ⟨(3),(6)⟩ else (bif decide (N99 a 1 6 ≥ 56) then ⟨((N166 1 6).fst),((N166 1 6).snd)⟩ else (bif !decide (N99 a 0 6 ≥ 56) then ⟨(0),(0)⟩ else (bif a.turn==0 then ⟨((N166 0 6).fst),((N166 0 6).snd)⟩ else (bif isL ((lp128_1 (N31 a) (Int.ofNat (N31 a).length) a (N99 a 1 6) 0).getD default) then (bif decide (gl ((lp128_1 (N31 a) (Int.ofNat (N31 a).length) a (N99 a 1 6) 0).getD default) ≥ 0) then ⟨(0),(0)⟩ else ⟨((N166 0 6).fst),((N166 0 6).snd)⟩) else ⟨((N166 0 6).fst),((N166 0 6).snd)⟩))))) else (bif decide (N99 a 1 6 ≥ 56) then ⟨((N166 1 6).fst),((N166 1 6).snd)⟩ else (bif !decide (N99 a 0 6 ≥ 56) then ⟨(0),(0)⟩ else (bif a.turn==0 then ⟨((N166 0 6).fst),((N166 0 6).snd)⟩ else (bif isL ((lp128_1 (N31 a) (Int.ofNat (N31 a).length) a (N99 a 1 6) 0).getD default) then (bif decide (gl ((lp128_1 (N31 a) (Int.ofNat (N31 a).length) a (N99 a 1 6) 0).getD default) ≥ 0) then ⟨(0),(0)⟩ else ⟨((N166 0 6).fst),((N166 0 6).snd)⟩) else ⟨((N166 0 6).fst),((N166 0 6).snd)⟩)))))
noncomputable def ok128 (a:Pos):Bool:=(ok99 (a) (0) (6)&&(ok99 (a) (1) (6)&&(bif decide (N99 a 0 6 ≥ 56) then (bif decide (N99 a 1 6 ≥ 56) then true else (bif decide (N99 a 1 6 ≥ 56) then true else (bif !decide (N99 a 0 6 ≥ 56) then true else (bif a.turn==0 then true else (ok99 (a) (1) (6)&&(ok31 (a)&&((lp128_1 (N31 a) (Int.ofNat (N31 a).length) a (N99 a 1 6) 0).isSome&&bif isL ((lp128_1 (N31 a) (Int.ofNat (N31 a).length) a (N99 a 1 6) 0).getD default) then true else true))))))) else (bif decide (N99 a 1 6 ≥ 56) then true else (bif !decide (N99 a 0 6 ≥ 56) then true else (bif a.turn==0 then true else (ok99 (a) (1) (6)&&(ok31 (a)&&((lp128_1 (N31 a) (Int.ofNat (N31 a).length) a (N99 a 1 6) 0).isSome&&bif isL ((lp128_1 (N31 a) (Int.ofNat (N31 a).length) a (N99 a 1 6) 0).getD default) then true else true)))))))))
theorem P128 (a:Pos) (h:ok128 a=true):PS Pz 128 [Pos.av a] ((dR .u8 .u8).res (N128 a)):=ps_sum (n:=14) hB128 (by kernel_rfl) (by kernel_rfl) (by kernel_rfl) h
noncomputable def G128:List AV→Tr AV:=g1 dPos (fun a=>gdv (ok128 a) ((dR .u8 .u8).res (N128 a)))
theorem s128:Sound Pz 128 G128:=sound1 fun a=>at_gd (P128 a)
noncomputable def K30:List (Nat×Nat×List (Nat×List Nat)):=[(30,25,[(0,[1,2,8,9,10]),(1,[1,2,11]),(2,[2]),(3,[1,2,3]),(4,[1,2,3,19]),(5,[2]),(6,[2])])]
noncomputable def B30:Base:=baseOf Pz (fun f i=>lkC f i K30) [(60,G60),(123,G123),(124,G124),(125,G125),(126,G126),(127,G127),(128,G128)] [] []
theorem hB30:BOk B30:=base_ok named_z ⟨s60,s123,s124,s125,s126,s127,s128,trivial⟩ trivial trivial
noncomputable def N30 (a:Pos):(Int×Int):=(bif decide (a.variant ≥ 9) then ⟨(0),(0)⟩ else (bif decide (a.turn > 1) then ⟨(0),(0)⟩ else (bif a.variant==Int.ofNat 0 then ⟨(0),(0)⟩ else (bif a.variant==Int.ofNat 1 then ⟨(0),(0)⟩ else (bif a.variant==Int.ofNat 2 then ⟨(0),(0)⟩ else (bif a.variant==Int.ofNat 3 then ⟨((N123 a).fst),((N123 a).snd)⟩ else (bif a.variant==Int.ofNat 4 then ⟨((N127 a).fst),((N127 a).snd)⟩ else (bif a.variant==Int.ofNat 5 then ⟨((N124 a).fst),((N124 a).snd)⟩ else (bif a.variant==Int.ofNat 6 then ⟨((N125 a).fst),((N125 a).snd)⟩ else (bif a.variant==Int.ofNat 7 then ⟨((N126 a).fst),((N126 a).snd)⟩ else ⟨((N128 a).fst),((N128 a).snd)⟩))))))))))
noncomputable def ok30 (a:Pos):Bool:=(bif decide (a.variant ≥ 9) then true else (bif decide (a.turn > 1) then true else (decide (0≤a.variant)&&decide (a.variant < Int.ofNat 9)&&(bif a.variant==Int.ofNat 0 then true else (bif a.variant==Int.ofNat 1 then true else (bif a.variant==Int.ofNat 2 then true else (bif a.variant==Int.ofNat 3 then (ok123 (a)&&true) else (bif a.variant==Int.ofNat 4 then (ok127 (a)&&true) else (bif a.variant==Int.ofNat 5 then (ok124 (a)&&true) else (bif a.variant==Int.ofNat 6 then (ok125 (a)&&true) else (bif a.variant==Int.ofNat 7 then (ok126 (a)&&true) else (a.variant==Int.ofNat 8&&(ok128 (a)&&true)))))))))))))
theorem P30 (a:Pos) (h:ok30 a=true):PS Pz 30 [Pos.av a] ((dR .u8 .u8).res (N30 a)):=ps_sum (n:=14) hB30 (by kernel_rfl) (by kernel_rfl) (by kernel_rfl) h
noncomputable def G30:List AV→Tr AV:=g1 dPos (fun a=>gdv (ok30 a) ((dR .u8 .u8).res (N30 a)))
theorem s30:Sound Pz 30 G30:=sound1 fun a=>at_gd (P30 a)
noncomputable def K11:List (Nat×Nat×List (Nat×List Nat)):=[(11,9,[(0,[1]),(1,[1,6]),(2,[2]),(3,[2])])]
noncomputable def B11:Base:=baseOf Pz (fun f i=>lkC f i K11) [(30,G30),(31,G31)] [] []
theorem hB11:BOk B11:=base_ok named_z ⟨s30,s31,trivial⟩ trivial trivial
noncomputable def N11 (a:Pos):List Mv:=(bif (N30 a).fst != 0 then ([]) else (N31 a))
noncomputable def ok11 (a:Pos):Bool:=(ok30 (a)&&(bif (N30 a).fst != 0 then true else (ok31 (a)&&true)))
theorem P11 (a:Pos) (h:ok11 a=true):PS Pz 11 [Pos.av a] ((dL .mv).res (N11 a)):=ps_sum (n:=14) hB11 (by kernel_rfl) (by kernel_rfl) (by kernel_rfl) h
noncomputable def G11:List AV→Tr AV:=g1 dPos (fun a=>gdv (ok11 a) ((dL .mv).res (N11 a)))
theorem s11:Sound Pz 11 G11:=sound1 fun a=>at_gd (P11 a)
end Kz
end
section
namespace Kz
open Go
set_option maxRecDepth 100000
theorem t62 (p:Pos) (b:Int):ok62 p b=true:=a_true (t99 _ _ _) fun _=>rfl
section
variable {p:Pos} (hp:PosIn p)
include hp
theorem move_var (m:Mv):0≤(N17 p m).1.variant:=by
  obtain ⟨_,h1,h2⟩:=move_all hp m
  by_cases hm:m ∈ N38 p
  · rw [(h1 hm).2.2.1]; exact hp.v0
  · rw [h2 hm]; exact hp.v0
theorem t68 (m:Mv):ok68 p m=true:=by
  have hv:=move_var hp m
  have t0:=hp.t0
  have b1:=wr_u8_lo (1 - p.turn)
  unfold ok68
  refine a_true (move_all hp m).1 fun _ => ?_
  have k1:ok61 p.variant p.turn=true:=t61 hp.v0 t0
  have k2:ok103 (N17 p m).1 p.turn=true:=t103 hv t0
  have k3:ok103 (N17 p m).1 (wr .u8 (1 - p.turn))=true:=t103 hv b1
  repeat' (first | with_reducible rfl | with_reducible exact k1 | with_reducible exact k2 | with_reducible exact k3 | with_reducible exact t62 _ _ | refine a_true ?_ (fun _ => ?_) | refine c_true (fun _ => ?_) (fun _ => ?_))
theorem okKept_72 {l:List Mv} (hl:l.length≤1000000):okKept 67 p l=true:=by
  unfold okKept
  rw [show (67:Nat).beq 67=true from rfl,cond_true]
  have h1:decide (l.length≤lim)=true:=by unfold lim; simp; omega
  rw [h1,Bool.true_and]
  exact all68_iff.2 (t68 hp)
theorem okKept_73 {l:List Mv} (hl:l.length≤1000000):okKept 69 p l=true:=by
  unfold okKept
  rw [show (69:Nat).beq 67=false from rfl,cond_false,show (69:Nat).beq 69=true from rfl,Bool.true_and]
  have h1:decide (l.length≤lim)=true:=by unfold lim; simp; omega
  rw [h1,Bool.true_and]
  exact all70_iff.2 (t70 hp.v0)
omit hp in
theorem kept_72 (l:List Mv):kept 67 p l=l.filter (N68 p):=by
  unfold kept
  rw [show (67:Nat).beq 67=true from rfl,cond_true]
omit hp in
theorem kept_73 (l:List Mv):kept 69 p l=l.filter (N70 p):=by
  unfold kept
  rw [show (69:Nat).beq 67=false from rfl,cond_false]
theorem lp31 (l:List Mv) (hl:l.length≤1000000):∃ r,lp31_1 l (Int.ofNat l.length) p 0=some r ∧
    match r with
    | .inl i=>0≤i∧∃ m,m ∈ l∧N70 p m=true
    | .inr _ => ∀ m,m ∈ l→N70 p m=false:=by
  refine lp_many (I:=fun x=>0≤x∧x≤(l.length:Int)∧∀ m,m ∈ l.take x.toNat→N70 p m=false) (μ:=fun x=>((l.length:Int) - x).toNat) ?_ _ ⟨by simp,by simp,by simp⟩ (by simp; omega)
  rintro n ⟨h0,h1,h2⟩
  by_cases hc:n < l.length
  · have hlt:n.toNat < l.length:=by omega
    refine ⟨c_true (fun _=>a_true (by simp [h0]; exact hc) fun _=>a_true (t70 hp.v0 _) fun _=>rfl) fun _=>rfl,c_ind (fun _ => ?_) fun h=>absurd h (by simpa using hc)⟩
    refine c_ind (fun h=>⟨h0,_,getD_mem hlt,h⟩) fun h => ?_
    rw [wi64 (n:=n+1) (by omega) (by omega)]
    refine ⟨⟨by omega,by omega,?_⟩,by dsimp only; omega⟩
    rw [show (n+1).toNat=n.toNat+1 by omega,List.take_succ_eq_append_getElem hlt]
    rw [List.getD_eq_getElem?_getD,List.getElem?_eq_getElem hlt] at h
    intro m hm
    simp only [List.mem_append,List.mem_singleton] at hm
    rcases hm with hm | rfl
    · exact h2 m hm
    · exact h
  · refine ⟨c_true (fun h=>absurd h (by simpa using hc)) fun _=>rfl,c_ind (fun h=>absurd h (by simpa using hc)) fun _ => ?_⟩
    show ∀ m,m ∈ l→N70 p m=false
    rw [List.take_of_length_le (by omega)] at h2
    exact h2
theorem lp31_any (l:List Mv) (hl:l.length≤1000000) {α:Type} (x y:α) :
    (bif isL ((lp31_1 l (Int.ofNat l.length) p 0).getD default) then bif decide (gl ((lp31_1 l (Int.ofNat l.length) p 0).getD default) ≥ 0) then x else y else y)=bif l.any (N70 p) then x else y:=by
  have h:=(of_some (lp31 hp l hl)).2
  generalize (lp31_1 l (Int.ofNat l.length) p 0).getD default=r at h ⊢
  cases r with
  | inl i =>
    obtain ⟨h1,m,h2,h3⟩:=h
    have:l.any (N70 p)=true:=List.any_eq_true.2 ⟨m,h2,h3⟩
    simp [isL,gl,h1,this]
  | inr z =>
    have:l.any (N70 p)=false:=by
      rw [List.any_eq_false]
      intro m hm
      rw [h m hm]; simp
    simp [isL,this]
theorem well_len:((N38 p).filter (N68 p)).length≤20802:=Nat.le_trans (List.length_filter_le _ _) (N38_len hp)
theorem t31:ok31 p=true:=by
  have h1:=N38_len hp
  have h2:=well_len hp
  have k1:ok61 p.variant p.turn=true:=t61 hp.v0 hp.t0
  have k2:ok38 p=true:=t38 hp
  have k3:okKept 67 p (N38 p)=true:=okKept_72 hp (by omega)
  have k4:okKept 69 p (kept 67 p (N38 p))=true:=okKept_73 hp (by rw [kept_72]; omega)
  have k5:(lp31_1 (kept 67 p (N38 p)) (Int.ofNat (kept 67 p (N38 p)).length) p 0).isSome=true:=(of_some (lp31 hp _ (by rw [kept_72]; omega))).1
  unfold ok31
  repeat' (first | with_reducible rfl | with_reducible exact k1 | with_reducible exact k2 | with_reducible exact k3 | with_reducible exact k4 | with_reducible exact k5 | with_reducible exact t62 _ _ | refine a_true ?_ (fun _ => ?_) | refine c_true (fun _ => ?_) (fun _ => ?_))
noncomputable def wouldL (p:Pos):List Mv:=bif p.variant==4 then bif ((N38 p).filter (N68 p)).any (N70 p) then ((N38 p).filter (N68 p)).filter (N70 p) else (N38 p).filter (N68 p) else (N38 p).filter (N68 p)
theorem N31_eq:N31 p=bif N61 p.variant p.turn then bif !N62 p p.turn then [] else wouldL p else wouldL p:=by
  have h2:=well_len hp
  unfold N31
  have e:=fun (x y:List Mv)=>lp31_any hp (kept 67 p (N38 p)) (by rw [kept_72]; omega) x y
  rw [e]
  unfold wouldL
  rw [kept_73,kept_72]
omit hp in
theorem wouldL_sub {m:Mv} (h:m ∈ wouldL p):m ∈ N38 p∧N68 p m=true:=by
  revert h
  unfold wouldL
  have k:m ∈ (N38 p).filter (N68 p)→m ∈ N38 p∧N68 p m=true:=fun h=>by simpa using h
  refine c_ind (P:=fun l:List Mv=>m ∈ l→_) (fun _=>c_ind (P:=fun l:List Mv=>m ∈ l→_) (fun _ h=>k (List.mem_filter.1 h).1) fun _=>k) fun _=>k
theorem N31_sub {m:Mv} (h:m ∈ N31 p):m ∈ N38 p∧N68 p m=true:=by
  rw [N31_eq hp] at h
  revert h
  exact c_ind (P:=fun l:List Mv=>m ∈ l→_) (fun _=>c_ind (P:=fun l:List Mv=>m ∈ l→_) (fun _ h=>by cases h) fun _=>wouldL_sub) fun _=>wouldL_sub
omit hp in
theorem wouldL_len' (hl:((N38 p).filter (N68 p)).length≤20802):(wouldL p).length≤20802:=by
  unfold wouldL
  refine c_ind (P:=fun l:List Mv=>l.length≤20802) (fun _=>c_ind (P:=fun l:List Mv=>l.length≤20802) (fun _=>Nat.le_trans (List.length_filter_le _ _) hl) fun _=>hl) fun _=>hl
theorem N31_len:(N31 p).length≤20802:=by
  have h:=wouldL_len' (well_len hp)
  rw [N31_eq hp]
  exact c_ind (P:=fun l:List Mv=>l.length≤20802) (fun _=>c_ind (P:=fun l:List Mv=>l.length≤20802) (fun _=>by simp) fun _=>h) fun _=>h
omit hp in
theorem lp128 (l:List Mv) (hl:l.length≤1000000) (q:Pos) (k:Int):(lp128_1 l (Int.ofNat l.length) q k 0).isSome=true:=by
  refine (of_some (Q:=fun _=>True) (lp_many (I:=fun x=>0≤x∧x≤(l.length:Int)) (μ:=fun x=>((l.length:Int) - x).toNat) ?_ _ ⟨by simp,by simp⟩ (by simp; omega))).1
  rintro n ⟨h0,h1⟩
  by_cases hc:n < l.length
  · refine ⟨c_true (fun _=>a_true (by simp [h0]; exact hc) fun _=>rfl) fun _=>rfl,c_ind (fun _ => ?_) fun h=>absurd h (by simpa using hc)⟩
    rw [wi64 (n:=n+1) (by omega) (by omega)]
    have go:Nxt (fun x:Int=>0≤x∧x≤(l.length:Int)) (fun _:Int ⊕ (Int×Bool)=>True) (fun x=>((l.length:Int) - x).toNat) ((l.length:Int) - n).toNat (.go (n+1)):=⟨⟨by omega,by omega⟩,by dsimp only; omega⟩
    exact c_ind (fun _=>c_ind (fun _=>trivial) fun _=>go) fun _=>go
  · exact ⟨c_true (fun h=>absurd h (by simpa using hc)) fun _=>rfl,c_ind (fun h=>absurd h (by simpa using hc)) fun _=>trivial⟩
theorem t128:ok128 p=true:=by
  have h:=N31_len hp
  have k1:ok31 p=true:=t31 hp
  have k2:(lp128_1 (N31 p) (Int.ofNat (N31 p).length) p (N99 p 1 6) 0).isSome=true:=lp128 _ (by omega) _ _
  unfold ok128
  repeat' (first | with_reducible rfl | with_reducible exact k1 | with_reducible exact k2 | with_reducible exact t99 _ _ _ | refine a_true ?_ (fun _ => ?_) | refine c_true (fun _ => ?_) (fun _ => ?_))
omit hp in
theorem t123:ok123 p=true:=a_true (t62 _ _) fun _=>rfl
theorem t124 (ht:p.turn≤1):ok124 p=true:=by
  have t0:=hp.t0
  unfold ok124
  rw [wu8 (n:=1 - p.turn) (by omega) (by omega)]
  refine a_true (by simp; omega) fun _=>c_true (fun _=>rfl) fun _=>a_true (by simp; omega) fun _=>rfl
omit hp in
theorem t125:ok125 p=true:=by
  unfold ok125
  repeat' (first | with_reducible rfl | with_reducible exact t99 _ _ _ | refine a_true ?_ (fun _ => ?_) | refine c_true (fun _ => ?_) (fun _ => ?_))
omit hp in
theorem t126:ok126 p=true:=a_true (t101 _ _ _) fun _=>rfl
omit hp in
theorem t127:ok127 p=true:=by
  unfold ok127
  repeat' (first | with_reducible rfl | with_reducible exact t101 _ _ _ | refine a_true ?_ (fun _ => ?_) | refine c_true (fun _ => ?_) (fun _ => ?_))
theorem t30:ok30 p=true:=by
  have v0:=hp.v0
  unfold ok30
  refine c_true (fun _=>rfl) fun h9=>c_true (fun _=>rfl) fun ht => ?_
  have h9:p.variant < 9:=by simpa using h9
  have ht:p.turn≤1:=by simpa using ht
  refine a_true (by simp; omega) fun _ => ?_
  have k3:=t123 (p:=p)
  have k4:=t127 (p:=p)
  have k5:=t124 hp ht
  have k6:=t125 (p:=p)
  have k7:=t126 (p:=p)
  have k8:=t128 hp
  refine c_true (fun _=>rfl) fun n0=>c_true (fun _=>rfl) fun n1=>c_true (fun _=>rfl) fun n2=>c_true (fun _=>a_true k3 fun _=>rfl) fun n3=>c_true (fun _=>a_true k4 fun _=>rfl) fun n4=>c_true (fun _=>a_true k5 fun _=>rfl) fun n5=>c_true (fun _=>a_true k6 fun _=>rfl) fun n6=>c_true (fun _=>a_true k7 fun _=>rfl) fun n7=>a_true ?_ fun _=>a_true k8 fun _=>rfl
  simp only [beq_eq_false_iff_ne,ne_eq,beq_iff_eq,Int.ofNat_eq_natCast] at *
  omega
theorem t11:ok11 p=true:=a_true (t30 hp) fun _=>c_true (fun _=>rfl) fun _=>a_true (t31 hp) fun _=>rfl
theorem N11_eq:N11 p=bif (N30 p).1 != 0 then [] else N31 p:=rfl
theorem N11_len:(N11 p).length≤20802:=by
  unfold N11
  exact c_ind (P:=fun l:List Mv=>l.length≤20802) (fun _=>by simp) fun _=>N31_len hp
end
end Kz
end
section
namespace Kz
open Go Go.RowKit
set_option maxRecDepth 100000
set_option maxHeartbeats 4000000
def cl (h f:Int) (p:Pos):Pos:=⟨p.variant,p.board,p.promoted,p.pockets,p.turn,p.rooks,p.passing,p.checks,h,f⟩
def Stp.map {X X' R R':Type} (φ:X→X') (ψ:R→R'):Stp X R→Stp X' R'
  | .go x=>.go (φ x)
  | .out r=>.out (ψ r)
  | .bad=>.bad
section
variable (h f:Int) (p:Pos)
end
section
variable (h f h2 f2 h3 f3:Int) (a q p:Pos) (b m:Mv) (c:Int)
end
noncomputable def mvd (p:Pos) (m:Mv):Pos:=vF17_11 p m (vF17_10 p m (vF17_9 p m (vF17_8 p m (vF17_4 p m (vF17_2 p m (vF17_1 p m p p m (N39 p m)) p m (N39 p m)) p m (N39 p m)) p m (N39 p m)) p m (N39 p m)) p m (N39 p m)) p m (N39 p m)
theorem N17_mvd (p:Pos) (m:Mv):N17 p m=bif !N37 (N38 p) m then (p,false) else (mvd p m,true):=rfl
section
variable {p:Pos} (hp:PosIn p)
include hp
variable {h f:Int} (hq:PosIn (cl h f p))
include hq
end
end Kz
end
section
namespace Kz
open Go Go.RowKit Go.Proofs
set_option maxRecDepth 100000
set_option maxHeartbeats 4000000
noncomputable def K173:List (Nat×Nat×List (Nat×List Nat)):=[(173,21,[(0,[0,1]),(1,[1,5]),(2,[1,5,6]),(3,[1,5,6,12]),(4,[1,5,6]),(5,[1,5,6,20]),(6,[4]),(7,[4])])]
noncomputable def B173_1:Base:=baseOf Pz (fun f i=>lkC f i K173) [(162,G162)] [] []
theorem hB173_1:BOk B173_1:=base_ok named_z ⟨s162,trivial⟩ trivial trivial
noncomputable def S173_1 (p1:Int) (p2:(List Int)) (x:(Int)):St:=St.mk (AV.any::AV.int .u8 p1::(an 3 (AV.list (ET.i .u8) p2 Tk.fresh::AV.int .i64 x::(an 14 [])))) (Hp.mk [] [] [] 0 0 0)
noncomputable def O173_1 (p1:Int) (p2:(List Int)):Unit ⊕ (Int×Bool)→Out
  | (.inl (y))=>.ret (St.mk (an 4 (AV.cbool true::(an 16 []))) (Hp.mk [] [] [] 0 0 0))
  | (.inr (y))=>.exit 0 (St.mk (AV.any::AV.int .u8 p1::(an 3 (AV.list (ET.i .u8) p2 Tk.fresh::AV.int .i64 y.fst::(an 5 (AV.bool y.snd::(an 8 [])))))) (Hp.mk [] [] [] 0 0 0))
noncomputable def st173_1 (p1:Int) (p2:(List Int)) (x:(Int)):Stp (Int) (Unit ⊕ (Int×Bool)):=(bif decide (x < Int.ofNat p2.length) then (bif p2.getD x.toNat default==p1 then (Stp.out (.inl (()))) else (Stp.go (wr .i64 (x+1)))) else (Stp.out (.inr ((x,decide (x < Int.ofNat p2.length))))))
noncomputable def okL173_1 (p1:Int) (p2:(List Int)) (x:(Int)):Bool:=(bif decide (x < Int.ofNat p2.length) then (decide (0≤x)&&decide (x < Int.ofNat p2.length)&&true) else true)
noncomputable def lp173_1 (p1:Int) (p2:(List Int)) (x:(Int)):Option (Unit ⊕ (Int×Bool)):=itl (fun x=>bif okL173_1 p1 p2 x then st173_1 p1 p2 x else .bad) many x
abbrev D173_1 {α:Type} (k:Int→(List Int)→(Int)→α) (s:St):α:=k (tI (tT s 1)) (tL (ET.i .u8) (tT s 5)) ((tI (tT s 6)))
theorem L173_1 (p1:Int) (p2:(List Int)) (x:(Int)) (r:Unit ⊕ (Int×Bool)) (h:lp173_1 p1 p2 x=some r):LSpec Pz (bodL Pz 173 3) (S173_1 p1 p2 x) (O173_1 p1 p2 r):=LSpec.smd (m:=12) (fn:=173) hB173_1 (D173_1 fun _ _ x=>some x) (fun o=>match o with | .ret s=>some (.inl ()) | .exit 0 s=>some (.inr ((tI (tT s 6)),(tB (tT s 12)))) | _=>none) (fun r=>by cases r <;> rfl) (fun _=>by kernel_rfl) (fun _=>by kernel_rfl) (fun _=>by kernel_rfl) (fun _=>by kernel_rfl) many x r h
noncomputable def F173_1 (b:Code) (s:St):Tr Out:=D173_1 (fun p1 p2 x=>lk2 b (bodL Pz 173 3) s (S173_1 p1 p2 x) (lp173_1 p1 p2 x) (O173_1 p1 p2)) s
theorem sF173_1:∀ b,LSound Pz b (F173_1 b):=fun _ _ _ h=>lk2_ok (L173_1 _ _ _) h
noncomputable def B173:Base:=baseOf Pz (fun f i=>lkC f i K173) [(162,G162)] [(173,3,F173_1)] []
theorem hB173:BOk B173:=base_ok named_z ⟨s162,trivial⟩ ⟨sF173_1,trivial⟩ trivial
noncomputable def N173 (a:Int) (b:Int):Bool:=(bif isL ((lp173_1 b (N162 a) 0).getD default) then (true) else (false))
noncomputable def ok173 (a:Int) (b:Int):Bool:=((lp173_1 b (N162 a) 0).isSome&&bif isL ((lp173_1 b (N162 a) 0).getD default) then true else true)
theorem P173 (a:Int) (b:Int) (h:ok173 a b=true):PS Pz 173 [.int .u8 a,.int .u8 b] (dB.res (N173 a b)):=ps_sum (n:=14) hB173 (by kernel_rfl) (by kernel_rfl) (by kernel_rfl) h
noncomputable def G173:List AV→Tr AV:=g2 (dI .u8) (dI .u8) (fun a b=>gdv (ok173 a b) (dB.res (N173 a b)))
theorem s173:Sound Pz 173 G173:=sound2 fun a b=>at_gd (P173 a b)
noncomputable def K133:List (Nat×Nat×List (Nat×List Nat)):=[(133,69,[(0,(2::3::17::18::21::22::23::26::27::30::31::34::35::38::39::(rn 42 5 (rn 55 5 [])))),(1,(2::3::5::6::17::18::21::22::23::26::27::30::31::34::35::38::39::(rn 42 5 (rn 55 5 [])))),(2,(2::3::5::6::47::(rn 55 5 []))),(3,[4]),(4,[2,3,60]),(5,[4]),(6,[4])])]
noncomputable def B133:Base:=baseOf Pz (fun f i=>lkC f i K133) [(19,G19),(106,G106),(160,G160),(161,G161),(173,G173)] [] []
theorem hB133:BOk B133:=base_ok named_z ⟨s19,s106,s160,s161,s173,trivial⟩ trivial trivial
noncomputable def N133 (a:Pos) (b:Mv):Bool:=(bif !N19 a then (false) else (bif b.cas then (false) else (bif b.drp != 0 then (false) else (bif decide (wr .i64 b.frm < 0) then (false) else (bif decide (wr .i64 b.frm > 63) then (false) else (bif decide (wr .i64 b.to < 0) then (false) else (bif decide (wr .i64 b.to > 63) then (false) else (bif !N160 a (wr .i64 b.frm) (wr .i64 b.to) then (false) else (bif N106 (a.board.getD (scale 1 (wr .i64 b.frm)).toNat 0) != 1 then (b.pro==0) else (bif N161 a.turn (wr .i64 b.to) != 7 then (b.pro==0) else (N173 a.variant b.pro)))))))))))
noncomputable def ok133 (a:Pos) (b:Mv):Bool:=(bif !N19 a then true else (bif b.cas then true else (bif b.drp != 0 then true else (bif decide (wr .i64 b.frm < 0) then true else (bif decide (wr .i64 b.frm > 63) then true else (bif decide (wr .i64 b.to < 0) then true else (bif decide (wr .i64 b.to > 63) then true else (ok160 (a) (wr .i64 b.frm) (wr .i64 b.to)&&(bif !N160 a (wr .i64 b.frm) (wr .i64 b.to) then true else (decide (0≤wr .i64 b.frm)&&decide (wr .i64 b.frm < Int.ofNat 64)&&(bif N106 (a.board.getD (scale 1 (wr .i64 b.frm)).toNat 0) != 1 then true else (bif N161 a.turn (wr .i64 b.to) != 7 then true else (ok173 (a.variant) (b.pro)&&true)))))))))))))
theorem P133 (a:Pos) (b:Mv) (h:ok133 a b=true):PS Pz 133 [Pos.av a,Mv.av b] (dB.res (N133 a b)):=ps_sum (n:=14) hB133 (by kernel_rfl) (by kernel_rfl) (by kernel_rfl) h
noncomputable def G133:List AV→Tr AV:=g2 dPos dMv (fun a b=>gdv (ok133 a b) (dB.res (N133 a b)))
theorem s133:Sound Pz 133 G133:=sound2 fun a b=>at_gd (P133 a b)
noncomputable def K79:List (Nat×Nat×List (Nat×List Nat)):=[(79,39,[(0,(2::3::(rn 26 7 []))),(1,(2::3::9::(rn 26 7 []))),(2,[4]),(3,(2::3::5::(rn 26 7 []))),(4,(2::3::5::16::(rn 26 7 []))),(5,[4]),(6,[2,5,33]),(7,[4]),(8,[4])])]
noncomputable def B79:Base:=baseOf Pz (fun f i=>lkC f i K79) [(106,G106),(133,G133),(134,G134),(135,G135)] [] []
theorem hB79:BOk B79:=base_ok named_z ⟨s106,s133,s134,s135,trivial⟩ trivial trivial
noncomputable def N79 (a:Pos) (b:Mv):Int:=(bif !N133 a b then (-1) else (bif !N134 a (wr .i64 b.to) then (wr .i64 b.to) else (bif N106 (a.board.getD (scale 1 b.frm).toNat 0)==1 then (bif b.frm.tmod 8 != b.to.tmod 8 then (wr .i64 (wr .i64 b.to - N135 a.turn)) else (-1)) else (-1))))
noncomputable def ok79 (a:Pos) (b:Mv):Bool:=(ok133 (a) (b)&&(bif !N133 a b then true else (ok134 (a) (wr .i64 b.to)&&(bif !N134 a (wr .i64 b.to) then true else (decide (0≤b.frm)&&decide (b.frm < Int.ofNat 64)&&true)))))
theorem P79 (a:Pos) (b:Mv) (h:ok79 a b=true):PS Pz 79 [Pos.av a,Mv.av b] ((dI .i64).res (N79 a b)):=ps_sum (n:=14) hB79 (by kernel_rfl) (by kernel_rfl) (by kernel_rfl) h
noncomputable def G79:List AV→Tr AV:=g2 dPos dMv (fun a b=>gdv (ok79 a b) ((dI .i64).res (N79 a b)))
theorem s79:Sound Pz 79 G79:=sound2 fun a b=>at_gd (P79 a b)
noncomputable def K164:List (Nat×Nat×List (Nat×List Nat)):=[(164,65,[(0,(2::3::9::10::11::(rn 14 5 (21::22::23::26::27::28::31::32::33::36::37::38::(rn 41 8 (rn 51 8 [])))))),(1,[3,59]),(2,[4]),(3,[64]),(4,[4]),(5,[4])])]
noncomputable def B164:Base:=baseOf Pz (fun f i=>lkC f i K164) [] [] []
theorem hB164:BOk B164:=base_ok named_z trivial trivial trivial
noncomputable def N164 (a:Pos) (b:Mv):Int:=(bif decide (a.turn > 1) then (-1) else (bif !b.cas then (-1) else (bif b.frm==b.to then (-1) else (bif decide (b.frm < 0) then (-1) else (bif decide (b.frm > 63) then (-1) else (bif decide (b.to < 0) then (-1) else (bif decide (b.to > 63) then (-1) else (bif wr .i8 (b.frm.tdiv 8) != wr .i8 (wr .u8 (7 * a.turn)) then (-1) else (bif wr .i8 (b.to.tdiv 8) != wr .i8 (wr .u8 (7 * a.turn)) then (-1) else (bif decide (b.to > b.frm) then (0) else (1)))))))))))
noncomputable def ok164 (a:Pos) (b:Mv):Bool:=true
theorem P164 (a:Pos) (b:Mv) (h:ok164 a b=true):PS Pz 164 [Pos.av a,Mv.av b] ((dI .i64).res (N164 a b)):=ps_sum (n:=14) hB164 (by kernel_rfl) (by kernel_rfl) (by kernel_rfl) h
noncomputable def G164:List AV→Tr AV:=g2 dPos dMv (fun a b=>.ret ((dI .i64).res (N164 a b)))
theorem s164:Sound Pz 164 G164:=sound2 fun a b=>at_rt (P164 a b rfl)
noncomputable def K116:List (Nat×Nat×List (Nat×List Nat)):=[(116,116,[(0,[2,3,4,6]),(1,[2,3,4,6,7]),(2,[2,3,4,6,7,8]),(3,[2,3,4,6,7,8,20]),(4,(3::4::(rn 6 4 []))),(5,[3,4,6,7,8,10,11]),(6,[3,4,6,7,8,10,11,12]),(7,(4::6::7::8::(rn 10 4 []))),(8,(4::6::7::8::(rn 10 4 []))),(9,(6::7::8::(rn 10 4 []))),(10,[6,7,11,12,13]),(11,[6,7]),(12,[6]),(13,[2,3,4,6,7,8,61]),(14,[3,4,6,7]),(15,[6,7]),(16,[6]),(17,[2,3,4,6,7,8,89]),(18,[3,4,6,7,8]),(19,[3,4,6,7,8]),(20,[3,4,6,7]),(21,[3,4,6,7,104]),(22,[6,7]),(23,[6])])]
noncomputable def B116:Base:=baseOf Pz (fun f i=>lkC f i K116) [(164,G164),(165,G165)] [] []
theorem hB116:BOk B116:=base_ok named_z ⟨s164,s165,trivial⟩ trivial trivial
noncomputable def N116 (a:Pos) (b:Mv) (c:Int):Pos:=(bif b.cas then ⟨(a.variant),((((a.board.set (scale 1 b.frm).toNat 0).set (scale 1 b.to).toNat 0).set (scale 1 (wr .i64 (wr .i64 (56 * wr .i64 a.turn)+(N165 (N164 a b)).fst))).toNat (a.board.getD (scale 1 b.frm).toNat 0)).set (scale 1 (wr .i64 (wr .i64 (56 * wr .i64 a.turn)+(N165 (N164 a b)).snd))).toNat (a.board.getD (scale 1 b.to).toNat 0)),(a.promoted),(a.pockets),(a.turn),(a.rooks),(a.passing),(a.checks),(a.half),(a.full)⟩ else (bif b.drp != 0 then ⟨(a.variant),(a.board.set (scale 1 b.to).toNat (wr .u8 (wr .u8 (8 * a.turn)+b.drp))),(a.promoted),(a.pockets.set (scale 6 a.turn+scale 1 b.drp).toNat (wr .u8 (a.pockets.getD (scale 6 a.turn+scale 1 b.drp).toNat 0 - 1))),(a.turn),(a.rooks),(a.passing),(a.checks),(a.half),(a.full)⟩ else (bif decide (c ≥ 0) then (bif b.pro != 0 then ⟨(a.variant),((((a.board.set (scale 1 c).toNat 0).set (scale 1 b.frm).toNat 0).set (scale 1 b.to).toNat (a.board.getD (scale 1 b.frm).toNat 0)).set (scale 1 b.to).toNat (wr .u8 (wr .u8 (8 * a.turn)+b.pro))),(a.promoted),(a.pockets),(a.turn),(a.rooks),(a.passing),(a.checks),(a.half),(a.full)⟩ else ⟨(a.variant),(((a.board.set (scale 1 c).toNat 0).set (scale 1 b.frm).toNat 0).set (scale 1 b.to).toNat (a.board.getD (scale 1 b.frm).toNat 0)),(a.promoted),(a.pockets),(a.turn),(a.rooks),(a.passing),(a.checks),(a.half),(a.full)⟩) else (bif b.pro != 0 then ⟨(a.variant),(((a.board.set (scale 1 b.frm).toNat 0).set (scale 1 b.to).toNat (a.board.getD (scale 1 b.frm).toNat 0)).set (scale 1 b.to).toNat (wr .u8 (wr .u8 (8 * a.turn)+b.pro))),(a.promoted),(a.pockets),(a.turn),(a.rooks),(a.passing),(a.checks),(a.half),(a.full)⟩ else ⟨(a.variant),((a.board.set (scale 1 b.frm).toNat 0).set (scale 1 b.to).toNat (a.board.getD (scale 1 b.frm).toNat 0)),(a.promoted),(a.pockets),(a.turn),(a.rooks),(a.passing),(a.checks),(a.half),(a.full)⟩))))
noncomputable def ok116 (a:Pos) (b:Mv) (c:Int):Bool:=(decide (0≤b.frm)&&decide (b.frm < Int.ofNat 64)&&(bif b.cas then (decide (0≤b.to)&&decide (b.to < Int.ofNat 64)&&(decide (0≤b.frm)&&decide (b.frm < Int.ofNat 64)&&(decide (0≤b.to)&&decide (b.to < Int.ofNat 64)&&(decide (0≤wr .i64 (wr .i64 (56 * wr .i64 a.turn)+(N165 (N164 a b)).fst))&&decide (wr .i64 (wr .i64 (56 * wr .i64 a.turn)+(N165 (N164 a b)).fst) < Int.ofNat 64)&&(decide (0≤wr .i64 (wr .i64 (56 * wr .i64 a.turn)+(N165 (N164 a b)).snd))&&decide (wr .i64 (wr .i64 (56 * wr .i64 a.turn)+(N165 (N164 a b)).snd) < Int.ofNat 64)&&true))))) else (bif b.drp != 0 then (decide (0≤a.turn)&&decide (a.turn < Int.ofNat 2)&&(decide (0≤b.drp)&&decide (b.drp < Int.ofNat 6)&&(decide (0≤a.turn)&&decide (a.turn < Int.ofNat 2)&&(decide (0≤b.drp)&&decide (b.drp < Int.ofNat 6)&&(decide (0≤b.to)&&decide (b.to < Int.ofNat 64)&&true))))) else (bif decide (c ≥ 0) then (decide (0≤c)&&decide (c < Int.ofNat 64)&&(decide (0≤b.frm)&&decide (b.frm < Int.ofNat 64)&&(decide (0≤b.to)&&decide (b.to < Int.ofNat 64)&&(bif b.pro != 0 then (decide (0≤b.to)&&decide (b.to < Int.ofNat 64)&&true) else true)))) else (decide (0≤b.frm)&&decide (b.frm < Int.ofNat 64)&&(decide (0≤b.to)&&decide (b.to < Int.ofNat 64)&&(bif b.pro != 0 then (decide (0≤b.to)&&decide (b.to < Int.ofNat 64)&&true) else true)))))))
theorem P116 (a:Pos) (b:Mv) (c:Int) (h:ok116 a b c=true):PS Pz 116 [Pos.av a,Mv.av b,.int .i64 c] (dPos.res (N116 a b c)):=ps_sum (n:=14) hB116 (by kernel_rfl) (by kernel_rfl) (by kernel_rfl) h
noncomputable def G116:List AV→Tr AV:=g3 dPos dMv (dI .i64) (fun a b c=>gdv (ok116 a b c) (dPos.res (N116 a b c)))
theorem s116:Sound Pz 116 G116:=sound3 fun a b c=>at_gd (P116 a b c)
noncomputable def K119:List (Nat×Nat×List (Nat×List Nat)):=[(119,11,[(0,[0,1]),(1,[4])])]
noncomputable def B119:Base:=baseOf Pz (fun f i=>lkC f i K119) [] [] []
theorem hB119:BOk B119:=base_ok named_z trivial trivial trivial
noncomputable def N119 (a:BitVec 64) (b:Int):Bool:=(a >>> (BitVec.ofInt 64 b).toNat&&&1#64==1#64)
noncomputable def ok119 (a:BitVec 64) (b:Int):Bool:=true
theorem P119 (a:BitVec 64) (b:Int) (h:ok119 a b=true):PS Pz 119 [.u64 a,.int .i64 b] (dB.res (N119 a b)):=ps_sum (n:=14) hB119 (by kernel_rfl) (by kernel_rfl) (by kernel_rfl) h
noncomputable def G119:List AV→Tr AV:=g2 dU (dI .i64) (fun a b=>.ret (dB.res (N119 a b)))
theorem s119:Sound Pz 119 G119:=sound2 fun a b=>at_rt (P119 a b rfl)
noncomputable def K117:List (Nat×Nat×List (Nat×List Nat)):=[(117,151,[(0,(rn 3 4 (8::19::20::21::(rn 73 5 (82::83::(rn 86 8 (115::116::117::(rn 120 5 (rn 135 6 []))))))))),(1,(rn 3 4 (8::22::(rn 73 5 (82::83::(rn 86 8 (115::116::117::(rn 120 5 (rn 135 6 []))))))))),(2,[8]),(3,(rn 3 4 (8::25::(rn 73 5 (82::83::(rn 86 8 (115::116::117::(rn 120 5 (rn 135 6 []))))))))),(4,[4,5,6,8,9]),(5,[4,5,6,8,11]),(6,[4,5,6,8,11,39]),(7,[4,5,8,11]),(8,[5,8]),(9,[8]),(10,(rn 3 4 (8::62::(rn 73 5 (82::83::(rn 86 8 (115::116::117::(rn 120 5 (rn 135 6 []))))))))),(11,(rn 3 4 (8::12::(rn 73 5 (82::83::(rn 86 8 (115::116::117::(rn 120 5 (rn 135 6 []))))))))),(12,(rn 3 4 (8::12::78::82::83::(rn 86 8 (115::116::117::(rn 120 5 (rn 135 6 []))))))),(13,(rn 3 4 (8::12::82::83::(rn 86 8 (115::116::117::(rn 120 5 (rn 135 6 []))))))),(14,(rn 3 4 (8::12::94::115::116::117::(rn 120 5 (rn 135 6 []))))),(15,(rn 3 4 (8::115::116::117::(rn 120 5 (rn 135 6 []))))),(16,(rn 3 4 (8::13::115::116::117::(rn 120 5 (rn 135 6 []))))),(17,(rn 3 4 (8::13::14::115::116::117::(rn 120 5 (rn 135 6 []))))),(18,(rn 3 4 (8::13::14::107::115::116::117::(rn 120 5 (rn 135 6 []))))),(19,(rn 3 4 (8::13::14::115::116::117::(rn 120 5 (rn 135 6 []))))),(20,(rn 3 4 (8::13::14::115::116::117::(rn 120 6 (rn 135 6 []))))),(21,(rn 3 4 (8::13::14::115::116::117::(rn 120 5 (rn 135 6 []))))),(22,[5,6,8,13,141]),(23,[5,8,13]),(24,[5,8]),(25,[8])])]
noncomputable def B117_1:Base:=baseOf Pz (fun f i=>lkC f i K117) [(106,G106),(119,G119),(164,G164),(165,G165)] [] []
theorem hB117_1:BOk B117_1:=base_ok named_z ⟨s106,s119,s164,s165,trivial⟩ trivial trivial
noncomputable def S117_1 (p1:Int) (p2:Pos) (p3:Pos) (p4:Mv) (x:((BitVec 64)×Int)):St:=St.mk (an 3 (AV.int .i64 p1::AV.ptr 0 0::AV.ptr 1 0::AV.ptr 2 0::AV.any::AV.ptr 3 0::(an 4 (AV.u64 x.fst::AV.int .i64 x.snd::(an 120 (AV.undef::AV.undef::AV.undef::AV.undef::AV.undef::AV.undef::(an 10 []))))))) (Hp.mk [(pc p2 []),(pc p3 []),[AV.int .i8 p4.frm,AV.int .i8 p4.to,AV.int .u8 p4.pro,AV.int .u8 p4.drp,AV.bool p4.cas],[AV.int .u8 0,AV.ints .u8 64 (li (List.replicate 64 0)),AV.u64 0,AV.ints .u8 12 (li [0,0,0,0,0,0,0,0,0,0,0,0]),AV.int .u8 0,AV.ints .i8 4 (li [0,0,0,0]),AV.int .i8 0,AV.ints .u8 2 (li [0,0]),AV.int .i64 0,AV.int .i64 0]] [] [] 0 0 0)
noncomputable def O117_1 (p1:Int) (p2:Pos) (p3:Pos) (p4:Mv):((BitVec 64)×Int×Bool)→Out:=fun y=>.exit 0 (St.mk (an 3 (AV.int .i64 p1::AV.ptr 0 0::AV.ptr 1 0::AV.ptr 2 0::AV.any::AV.ptr 3 0::(an 4 (AV.u64 y.fst::AV.int .i64 y.snd.fst::(an 92 (AV.bool y.snd.snd::(an 27 (AV.undef::AV.undef::AV.undef::AV.undef::AV.undef::AV.undef::(an 10 []))))))))) (Hp.mk [(pc p2 []),(pc p3 []),[AV.int .i8 p4.frm,AV.int .i8 p4.to,AV.int .u8 p4.pro,AV.int .u8 p4.drp,AV.bool p4.cas],[AV.int .u8 0,AV.ints .u8 64 (li (List.replicate 64 0)),AV.u64 0,AV.ints .u8 12 (li [0,0,0,0,0,0,0,0,0,0,0,0]),AV.int .u8 0,AV.ints .i8 4 (li [0,0,0,0]),AV.int .i8 0,AV.ints .u8 2 (li [0,0]),AV.int .i64 0,AV.int .i64 0]] [] [] 0 0 0))
noncomputable def st117_1 (p1:Int) (p2:Pos) (p3:Pos) (p4:Mv) (x:((BitVec 64)×Int)):Stp ((BitVec 64)×Int) (((BitVec 64)×Int×Bool)):=(bif decide (x.snd < 64) then (bif N119 p2.promoted x.snd then (bif x.snd != p1 then (bif x.snd != wr .i64 p4.frm then (Stp.go (x.fst|||1#64 <<< (BitVec.ofInt 64 x.snd).toNat,wr .i64 (x.snd+1))) else (Stp.go (x.fst,wr .i64 (x.snd+1)))) else (Stp.go (x.fst,wr .i64 (x.snd+1)))) else (Stp.go (x.fst,wr .i64 (x.snd+1)))) else (Stp.out ((x.fst,x.snd,decide (x.snd < 64)))))
noncomputable def okL117_1 (p1:Int) (p2:Pos) (p3:Pos) (p4:Mv) (x:((BitVec 64)×Int)):Bool:=true
noncomputable def lp117_1 (p1:Int) (p2:Pos) (p3:Pos) (p4:Mv) (x:((BitVec 64)×Int)):Option (((BitVec 64)×Int×Bool)):=itl (fun x=>bif okL117_1 p1 p2 p3 p4 x then st117_1 p1 p2 p3 p4 x else .bad) many x
abbrev D117_1 {α:Type} (k:Int→Pos→Pos→Mv→((BitVec 64)×Int)→α) (s:St):α:=wP s 0 fun q0=>wP s 1 fun q1=>wM s 2 fun q2=>k (tI (tT s 3)) q0 q1 q2 ((tU (tT s 13)),(tI (tT s 14)))
theorem L117_1 (p1:Int) (p2:Pos) (p3:Pos) (p4:Mv) (x:((BitVec 64)×Int)) (r:((BitVec 64)×Int×Bool)) (h:lp117_1 p1 p2 p3 p4 x=some r):LSpec Pz (bodL Pz 117 18) (S117_1 p1 p2 p3 p4 x) (O117_1 p1 p2 p3 p4 r):=LSpec.smd (m:=12) (fn:=117) hB117_1 (D117_1 fun _ _ _ _ x=>some x) (fun o=>match o with | .exit 0 s=>some ((tU (tT s 13)),(tI (tT s 14)),(tB (tT s 107))) | _=>none) (fun _=>rfl) (fun _=>by kernel_rfl) (fun _=>by kernel_rfl) (fun _=>by kernel_rfl) (fun _=>by kernel_rfl) many x r h
noncomputable def F117_1 (b:Code) (s:St):Tr Out:=D117_1 (fun p1 p2 p3 p4 x=>lk1 b (bodL Pz 117 18) s (S117_1 p1 p2 p3 p4 x) (lp117_1 p1 p2 p3 p4 x) (O117_1 p1 p2 p3 p4)) s
theorem sF117_1:∀ b,LSound Pz b (F117_1 b):=fun _ _ _ h=>lk1_ok (L117_1 _ _ _ _ _) h
noncomputable def B117:Base:=baseOf Pz (fun f i=>lkC f i K117) [(106,G106),(119,G119),(164,G164),(165,G165)] [(117,18,F117_1)] []
theorem hB117:BOk B117:=base_ok named_z ⟨s106,s119,s164,s165,trivial⟩ ⟨sF117_1,trivial⟩ trivial
noncomputable def N117 (a:Pos) (b:Pos) (c:Mv) (d:Int):Pos:=let z1:=(bif c.pro != 0 then (Pos.mk b.variant b.board (((lp117_1 d a b c (0#64,0)).getD default).fst|||1#64 <<< (BitVec.ofInt 64 c.to).toNat) b.pockets b.turn b.rooks b.passing b.checks b.half b.full) else (bif N119 a.promoted (wr .i64 c.frm) then (Pos.mk b.variant b.board (((lp117_1 d a b c (0#64,0)).getD default).fst|||1#64 <<< (BitVec.ofInt 64 c.to).toNat) b.pockets b.turn b.rooks b.passing b.checks b.half b.full) else (Pos.mk b.variant b.board (((lp117_1 d a b c (0#64,0)).getD default).fst) b.pockets b.turn b.rooks b.passing b.checks b.half b.full))); let z2:=(bif decide (N106 (a.board.getD (scale 1 d).toNat 0) ≥ 1) then (bif decide (N106 (a.board.getD (scale 1 d).toNat 0)≤5) then (bif decide (b.pockets.getD (scale 6 a.turn+scale 1 (N106 (a.board.getD (scale 1 d).toNat 0))).toNat 0 < 255) then (bif c.pro != 0 then (Pos.mk b.variant b.board (((lp117_1 d a (Pos.mk b.variant b.board b.promoted (b.pockets.set (scale 6 a.turn+scale 1 (N106 (a.board.getD (scale 1 d).toNat 0))).toNat (wr .u8 (b.pockets.getD (scale 6 a.turn+scale 1 (N106 (a.board.getD (scale 1 d).toNat 0))).toNat 0+1))) b.turn b.rooks b.passing b.checks b.half b.full) c (0#64,0)).getD default).fst|||1#64 <<< (BitVec.ofInt 64 c.to).toNat) (b.pockets.set (scale 6 a.turn+scale 1 (N106 (a.board.getD (scale 1 d).toNat 0))).toNat (wr .u8 (b.pockets.getD (scale 6 a.turn+scale 1 (N106 (a.board.getD (scale 1 d).toNat 0))).toNat 0+1))) b.turn b.rooks b.passing b.checks b.half b.full) else (bif N119 a.promoted (wr .i64 c.frm) then (Pos.mk b.variant b.board (((lp117_1 d a (Pos.mk b.variant b.board b.promoted (b.pockets.set (scale 6 a.turn+scale 1 (N106 (a.board.getD (scale 1 d).toNat 0))).toNat (wr .u8 (b.pockets.getD (scale 6 a.turn+scale 1 (N106 (a.board.getD (scale 1 d).toNat 0))).toNat 0+1))) b.turn b.rooks b.passing b.checks b.half b.full) c (0#64,0)).getD default).fst|||1#64 <<< (BitVec.ofInt 64 c.to).toNat) (b.pockets.set (scale 6 a.turn+scale 1 (N106 (a.board.getD (scale 1 d).toNat 0))).toNat (wr .u8 (b.pockets.getD (scale 6 a.turn+scale 1 (N106 (a.board.getD (scale 1 d).toNat 0))).toNat 0+1))) b.turn b.rooks b.passing b.checks b.half b.full) else (Pos.mk b.variant b.board (((lp117_1 d a (Pos.mk b.variant b.board b.promoted (b.pockets.set (scale 6 a.turn+scale 1 (N106 (a.board.getD (scale 1 d).toNat 0))).toNat (wr .u8 (b.pockets.getD (scale 6 a.turn+scale 1 (N106 (a.board.getD (scale 1 d).toNat 0))).toNat 0+1))) b.turn b.rooks b.passing b.checks b.half b.full) c (0#64,0)).getD default).fst) (b.pockets.set (scale 6 a.turn+scale 1 (N106 (a.board.getD (scale 1 d).toNat 0))).toNat (wr .u8 (b.pockets.getD (scale 6 a.turn+scale 1 (N106 (a.board.getD (scale 1 d).toNat 0))).toNat 0+1))) b.turn b.rooks b.passing b.checks b.half b.full))) else z1) else z1) else z1); let z3:=(b.pockets.set (scale 6 a.turn+scale 1 (Int.ofNat 1)).toNat (wr .u8 (b.pockets.getD (scale 6 a.turn+scale 1 (Int.ofNat 1)).toNat 0+1))); let z4:=((lp117_1 d a (Pos.mk b.variant b.board b.promoted z3 b.turn b.rooks b.passing b.checks b.half b.full) c (0#64,0)).getD default); let z5:=(Pos.mk b.variant b.board b.promoted b.pockets b.turn b.rooks b.passing b.checks b.half b.full); let z6:=(Pos.mk b.variant b.board (z4.fst|||1#64 <<< (BitVec.ofInt 64 c.to).toNat) z3 b.turn b.rooks b.passing b.checks b.half b.full); (bif a.variant != 2 then z5 else (bif c.drp != 0 then z5 else (bif c.cas then (bif N119 a.promoted (wr .i64 c.to) then (Pos.mk b.variant b.board (a.promoted &&& ~~~(1#64 <<< (BitVec.ofInt 64 c.to).toNat)|||1#64 <<< (BitVec.ofInt 64 (wr .i64 (wr .i64 (56 * wr .i64 a.turn)+(N165 (N164 a c)).snd))).toNat) b.pockets b.turn b.rooks b.passing b.checks b.half b.full) else z5) else (bif decide (d ≥ 0) then (bif N119 a.promoted d then (bif a.board.getD (scale 1 d).toNat 0 != 0 then (bif decide (b.pockets.getD (scale 6 a.turn+scale 1 (Int.ofNat 1)).toNat 0 < 255) then (bif c.pro != 0 then z6 else (bif N119 a.promoted (wr .i64 c.frm) then z6 else (Pos.mk b.variant b.board (z4.fst) z3 b.turn b.rooks b.passing b.checks b.half b.full))) else z1) else z2) else z2) else z1))))
noncomputable def ok117 (a:Pos) (b:Pos) (c:Mv) (d:Int):Bool:=let z2:=(scale 6 a.turn+scale 1 (Int.ofNat 1)); let z3:=((lp117_1 d a b c (0#64,0)).isSome&&true); let z4:=(a.turn < Int.ofNat 2); let z1:=(bif decide (N106 (a.board.getD (scale 1 d).toNat 0) ≥ 1) then (bif decide (N106 (a.board.getD (scale 1 d).toNat 0)≤5) then (decide (0≤a.turn)&&decide z4&&(decide (0≤N106 (a.board.getD (scale 1 d).toNat 0))&&decide (N106 (a.board.getD (scale 1 d).toNat 0) < Int.ofNat 6)&&(bif decide (b.pockets.getD (scale 6 a.turn+scale 1 (N106 (a.board.getD (scale 1 d).toNat 0))).toNat 0 < 255) then (decide (0≤a.turn)&&decide z4&&(decide (0≤N106 (a.board.getD (scale 1 d).toNat 0))&&decide (N106 (a.board.getD (scale 1 d).toNat 0) < Int.ofNat 6)&&(decide (0≤a.turn)&&decide z4&&(decide (0≤N106 (a.board.getD (scale 1 d).toNat 0))&&decide (N106 (a.board.getD (scale 1 d).toNat 0) < Int.ofNat 6)&&((lp117_1 d a (Pos.mk b.variant b.board b.promoted (b.pockets.set (scale 6 a.turn+scale 1 (N106 (a.board.getD (scale 1 d).toNat 0))).toNat (wr .u8 (b.pockets.getD (scale 6 a.turn+scale 1 (N106 (a.board.getD (scale 1 d).toNat 0))).toNat 0+1))) b.turn b.rooks b.passing b.checks b.half b.full) c (0#64,0)).isSome&&true))))) else z3))) else z3) else z3); (bif a.variant != 2 then true else (bif c.drp != 0 then true else (bif c.cas then true else (bif decide (d ≥ 0) then (decide (0≤d)&&decide (d < Int.ofNat 64)&&(bif N119 a.promoted d then (decide (0≤d)&&decide (d < Int.ofNat 64)&&(bif a.board.getD (scale 1 d).toNat 0 != 0 then (decide (0≤a.turn)&&decide z4&&(bif decide (b.pockets.getD z2.toNat 0 < 255) then (decide (0≤a.turn)&&decide z4&&(decide (0≤a.turn)&&decide z4&&((lp117_1 d a (Pos.mk b.variant b.board b.promoted (b.pockets.set z2.toNat (wr .u8 (b.pockets.getD z2.toNat 0+1))) b.turn b.rooks b.passing b.checks b.half b.full) c (0#64,0)).isSome&&true))) else z3)) else z1)) else z1)) else z3))))
theorem P117 (a:Pos) (b:Pos) (c:Mv) (d:Int) (h:ok117 a b c d=true):PS Pz 117 [Pos.av a,Pos.av b,Mv.av c,.int .i64 d] (dPos.res (N117 a b c d)):=ps_sum (n:=14) hB117 (by kernel_rfl) (by kernel_rfl) (by kernel_rfl) h
noncomputable def G117:List AV→Tr AV:=g4 dPos dPos dMv (dI .i64) (fun a b c d=>gdv (ok117 a b c d) (dPos.res (N117 a b c d)))
theorem s117:Sound Pz 117 G117:=sound4 fun a b c d=>at_gd (P117 a b c d)
noncomputable def K118:List (Nat×Nat×List (Nat×List Nat)):=[(118,47,[(0,(1::2::11::12::15::16::(rn 29 11 []))),(1,(1::2::5::11::12::15::16::(rn 29 11 []))),(2,(1::2::5::6::11::12::15::16::(rn 29 11 []))),(3,(1::2::5::6::11::12::15::16::17::(rn 29 11 []))),(4,(1::2::5::6::11::12::15::16::(rn 29 11 []))),(5,(1::2::5::6::7::11::12::15::16::(rn 29 11 []))),(6,(1::2::5::6::11::12::15::16::(rn 29 12 []))),(7,(1::2::5::6::11::12::15::16::(rn 29 11 []))),(8,[4])])]
noncomputable def B118_1:Base:=baseOf Pz (fun f i=>lkC f i K118) [(106,G106),(158,G158)] [] []
theorem hB118_1:BOk B118_1:=base_ok named_z ⟨s106,s158,trivial⟩ trivial trivial
noncomputable def S118_1 (p1:Int) (p2:Pos) (x:((BitVec 64)×Int)):St:=St.mk (AV.any::AV.int .i64 p1::AV.ptr 0 0::AV.any::AV.any::AV.u64 x.fst::AV.int .i64 x.snd::(an 40 [])) (Hp.mk [(pc p2 [])] [] [] 0 0 0)
noncomputable def O118_1 (p1:Int) (p2:Pos):((BitVec 64)×Int×Bool)→Out:=fun y=>.exit 0 (St.mk (AV.any::AV.int .i64 p1::AV.ptr 0 0::AV.any::AV.any::AV.u64 y.fst::AV.int .i64 y.snd.fst::(an 10 (AV.bool y.snd.snd::(an 29 [])))) (Hp.mk [(pc p2 [])] [] [] 0 0 0))
noncomputable def st118_1 (p1:Int) (p2:Pos) (x:((BitVec 64)×Int)):Stp ((BitVec 64)×Int) (((BitVec 64)×Int×Bool)):=(bif decide (x.snd < 64) then (bif decide (p1 ≥ 0) then (bif decide (p1 < 64) then (bif x.snd==p1 then (Stp.go (x.fst|||1#64 <<< (BitVec.ofInt 64 x.snd).toNat,wr .i64 (x.snd+1))) else (bif N158 x.snd p1 then (bif N106 (p2.board.getD (scale 1 x.snd).toNat 0) != 0 then (bif N106 (p2.board.getD (scale 1 x.snd).toNat 0) != 1 then (Stp.go (x.fst|||1#64 <<< (BitVec.ofInt 64 x.snd).toNat,wr .i64 (x.snd+1))) else (Stp.go (x.fst,wr .i64 (x.snd+1)))) else (Stp.go (x.fst,wr .i64 (x.snd+1)))) else (Stp.go (x.fst,wr .i64 (x.snd+1))))) else (Stp.out ((x.fst,x.snd,decide (p1 < 64))))) else (Stp.out ((x.fst,x.snd,false)))) else (Stp.out ((x.fst,x.snd,false))))
noncomputable def okL118_1 (p1:Int) (p2:Pos) (x:((BitVec 64)×Int)):Bool:=(bif decide (x.snd < 64) then (bif decide (p1 ≥ 0) then (bif decide (p1 < 64) then (decide (0≤x.snd)&&decide (x.snd < ↑64)&&true) else true) else true) else true)
noncomputable def lp118_1 (p1:Int) (p2:Pos) (x:((BitVec 64)×Int)):Option (((BitVec 64)×Int×Bool)):=itl (fun x=>bif okL118_1 p1 p2 x then st118_1 p1 p2 x else .bad) many x
abbrev D118_1 {α:Type} (k:Int→Pos→((BitVec 64)×Int)→α) (s:St):α:=wP s 0 fun q0=>k (tI (tT s 1)) q0 ((tU (tT s 5)),(tI (tT s 6)))
theorem L118_1 (p1:Int) (p2:Pos) (x:((BitVec 64)×Int)) (r:((BitVec 64)×Int×Bool)) (h:lp118_1 p1 p2 x=some r):LSpec Pz (bodL Pz 118 3) (S118_1 p1 p2 x) (O118_1 p1 p2 r):=LSpec.smd (m:=12) (fn:=118) hB118_1 (D118_1 fun _ _ x=>some x) (fun o=>match o with | .exit 0 s=>some ((tU (tT s 5)),(tI (tT s 6)),(tB (tT s 17))) | _=>none) (fun _=>rfl) (fun _=>by kernel_rfl) (fun _=>by kernel_rfl) (fun _=>by kernel_rfl) (fun _=>by kernel_rfl) many x r h
noncomputable def F118_1 (b:Code) (s:St):Tr Out:=D118_1 (fun p1 p2 x=>lk1 b (bodL Pz 118 3) s (S118_1 p1 p2 x) (lp118_1 p1 p2 x) (O118_1 p1 p2)) s
theorem sF118_1:∀ b,LSound Pz b (F118_1 b):=fun _ _ _ h=>lk1_ok (L118_1 _ _ _) h
noncomputable def B118:Base:=baseOf Pz (fun f i=>lkC f i K118) [(106,G106),(158,G158)] [(118,3,F118_1)] []
theorem hB118:BOk B118:=base_ok named_z ⟨s106,s158,trivial⟩ ⟨sF118_1,trivial⟩ trivial
noncomputable def N118 (a:Pos) (b:Int):BitVec 64:=(((lp118_1 b (Pos.mk a.variant a.board a.promoted a.pockets a.turn a.rooks a.passing a.checks a.half a.full) (0#64,0)).getD default).fst)
noncomputable def ok118 (a:Pos) (b:Int):Bool:=((lp118_1 b (Pos.mk a.variant a.board a.promoted a.pockets a.turn a.rooks a.passing a.checks a.half a.full) (0#64,0)).isSome&&true)
theorem P118 (a:Pos) (b:Int) (h:ok118 a b=true):PS Pz 118 [Pos.av a,.int .i64 b] (dU.res (N118 a b)):=ps_sum (n:=14) hB118 (by kernel_rfl) (by kernel_rfl) (by kernel_rfl) h
noncomputable def G118:List AV→Tr AV:=g2 dPos (dI .i64) (fun a b=>gdv (ok118 a b) (dU.res (N118 a b)))
theorem s118:Sound Pz 118 G118:=sound2 fun a b=>at_gd (P118 a b)
noncomputable def K120:List (Nat×Nat×List (Nat×List Nat)):=[(120,103,[(0,(rn 3 4 (8::(rn 20 7 (57::58::(rn 67 4 (rn 73 5 (80::81::82::(rn 85 10 []))))))))),(1,(rn 3 4 (8::27::57::58::(rn 67 4 (rn 73 5 (80::81::82::(rn 85 10 []))))))),(2,(3::5::6::8::57::58::(rn 67 4 (rn 73 5 (80::81::82::(rn 85 10 [])))))),(3,(3::5::6::8::9::57::58::(rn 67 4 (rn 73 5 (80::81::82::(rn 85 10 [])))))),(4,(3::5::6::8::9::34::57::58::(rn 67 4 (rn 73 5 (80::81::82::(rn 85 10 [])))))),(5,(3::5::6::8::9::57::58::(rn 67 4 (rn 73 5 (80::81::82::(rn 85 10 [])))))),(6,(3::5::6::8::9::10::57::58::(rn 67 4 (rn 73 5 (80::81::82::(rn 85 10 [])))))),(7,(3::5::6::(rn 8 4 (57::58::(rn 67 4 (rn 73 5 (80::81::82::(rn 85 10 [])))))))),(8,(3::5::6::(rn 8 5 (57::58::(rn 67 4 (rn 73 5 (80::81::82::(rn 85 10 [])))))))),(9,(3::5::6::(rn 8 5 (44::57::58::(rn 67 4 (rn 73 5 (80::81::82::(rn 85 10 [])))))))),(10,(3::5::6::(rn 8 5 (57::58::(rn 67 4 (rn 73 5 (80::81::82::(rn 85 10 [])))))))),(11,(3::5::6::(rn 8 6 (57::58::(rn 67 4 (rn 73 5 (80::81::82::(rn 85 10 [])))))))),(12,(3::5::6::(rn 8 6 (57::58::59::(rn 67 4 (rn 73 5 (80::81::82::(rn 85 10 [])))))))),(13,(3::5::6::(rn 8 5 (14::57::58::(rn 67 4 (rn 73 5 (80::81::82::(rn 85 10 [])))))))),(14,(3::5::6::(rn 8 5 (15::57::58::(rn 67 4 (rn 73 5 (80::81::82::(rn 85 10 [])))))))),(15,(3::5::6::(rn 8 5 (57::58::(rn 67 4 (rn 73 5 (80::81::82::(rn 85 10 [96])))))))),(16,(3::5::6::(rn 8 5 (57::58::(rn 67 4 (rn 73 5 (80::81::82::(rn 85 10 [])))))))),(17,[8])])]
noncomputable def B120_2:Base:=baseOf Pz (fun f i=>lkC f i K120) [(106,G106),(131,G131),(157,G157)] [] []
theorem hB120_2:BOk B120_2:=base_ok named_z ⟨s106,s131,s157,trivial⟩ trivial trivial
noncomputable def S120_2 (p1:Int) (p2:Int) (p3:Int) (p4:Int) (p5:Pos) (p6:Mv) (x:(Int×Pos)):St:=St.mk (an 3 (AV.int .i64 p1::AV.any::AV.ptr 1 0::AV.ptr 2 0::AV.any::AV.ptr 3 0::AV.int .u8 p2::AV.int .i64 p3::AV.int .i64 p4::AV.int .i64 x.fst::(an 90 []))) (Hp.mk [(pc p5 []),(pc x.snd []),[AV.int .i8 p6.frm,AV.int .i8 p6.to,AV.int .u8 p6.pro,AV.int .u8 p6.drp,AV.bool p6.cas],[AV.int .u8 0,AV.ints .u8 64 (List.replicate 64 0),AV.u64 0,AV.ints .u8 12 (List.replicate 12 0),AV.int .u8 0,AV.ints .i8 4 (List.replicate 4 0),AV.int .i8 0,AV.ints .u8 2 (List.replicate 2 0),AV.int .i64 0,AV.int .i64 0]] [] [] 0 0 0)
noncomputable def O120_2 (p1:Int) (p2:Int) (p3:Int) (p4:Int) (p5:Pos) (p6:Mv):(Int×Bool×Pos)→Out:=fun y=>.exit 2 (St.mk (an 3 (AV.int .i64 p1::AV.any::AV.ptr 1 0::AV.ptr 2 0::AV.any::AV.ptr 3 0::AV.int .u8 p2::AV.int .i64 p3::AV.int .i64 p4::AV.int .i64 y.fst::(an 31 (AV.bool y.snd.fst::(an 58 []))))) (Hp.mk [(pc p5 []),(pc y.snd.snd []),[AV.int .i8 p6.frm,AV.int .i8 p6.to,AV.int .u8 p6.pro,AV.int .u8 p6.drp,AV.bool p6.cas],[AV.int .u8 0,AV.ints .u8 64 (List.replicate 64 0),AV.u64 0,AV.ints .u8 12 (List.replicate 12 0),AV.int .u8 0,AV.ints .i8 4 (List.replicate 4 0),AV.int .i8 0,AV.ints .u8 2 (List.replicate 2 0),AV.int .i64 0,AV.int .i64 0]] [] [] 0 0 0))
noncomputable def st120_2 (p1:Int) (p2:Int) (p3:Int) (p4:Int) (p5:Pos) (p6:Mv) (x:(Int×Pos)):Stp (Int×Pos) ((Int×Bool×Pos)):=(bif decide (x.fst < 2) then (bif decide (wr .i64 (x.snd.rooks.getD (scale 2 p2+scale 1 x.fst).toNat 0) < 0) then (Stp.go (wr .i64 (x.fst+1),x.snd)) else (bif decide (wr .i64 (x.snd.rooks.getD (scale 2 p2+scale 1 x.fst).toNat 0) > 7) then (Stp.go (wr .i64 (x.fst+1),x.snd)) else (bif decide (p4 < p3) then (Stp.go (wr .i64 (x.fst+1),Pos.mk x.snd.variant x.snd.board x.snd.promoted x.snd.pockets x.snd.turn (x.snd.rooks.set (scale 2 p2+scale 1 x.fst).toNat (-1)) x.snd.passing x.snd.checks x.snd.half x.snd.full)) else (bif decide (p4 > wr .i64 (p3+7)) then (Stp.go (wr .i64 (x.fst+1),Pos.mk x.snd.variant x.snd.board x.snd.promoted x.snd.pockets x.snd.turn (x.snd.rooks.set (scale 2 p2+scale 1 x.fst).toNat (-1)) x.snd.passing x.snd.checks x.snd.half x.snd.full)) else (bif !N157 x.snd (wr .i64 (p3+wr .i64 (x.snd.rooks.getD (scale 2 p2+scale 1 x.fst).toNat 0))) p2 4 then (Stp.go (wr .i64 (x.fst+1),Pos.mk x.snd.variant x.snd.board x.snd.promoted x.snd.pockets x.snd.turn (x.snd.rooks.set (scale 2 p2+scale 1 x.fst).toNat (-1)) x.snd.passing x.snd.checks x.snd.half x.snd.full)) else (bif p1==wr .i64 (p3+wr .i64 (x.snd.rooks.getD (scale 2 p2+scale 1 x.fst).toNat 0)) then (Stp.go (wr .i64 (x.fst+1),Pos.mk x.snd.variant x.snd.board x.snd.promoted x.snd.pockets x.snd.turn (x.snd.rooks.set (scale 2 p2+scale 1 x.fst).toNat (-1)) x.snd.passing x.snd.checks x.snd.half x.snd.full)) else (bif p6.drp==0 then (bif wr .i64 p6.frm==wr .i64 (p3+wr .i64 (x.snd.rooks.getD (scale 2 p2+scale 1 x.fst).toNat 0)) then (Stp.go (wr .i64 (x.fst+1),Pos.mk x.snd.variant x.snd.board x.snd.promoted x.snd.pockets x.snd.turn (x.snd.rooks.set (scale 2 p2+scale 1 x.fst).toNat (-1)) x.snd.passing x.snd.checks x.snd.half x.snd.full)) else (Stp.go (wr .i64 (x.fst+1),x.snd))) else (Stp.go (wr .i64 (x.fst+1),x.snd))))))))) else (Stp.out ((x.fst,decide (x.fst < 2),x.snd))))
noncomputable def okL120_2 (p1:Int) (p2:Int) (p3:Int) (p4:Int) (p5:Pos) (p6:Mv) (x:(Int×Pos)):Bool:=(bif decide (x.fst < 2) then (decide (0≤p2)&&decide (p2 < Int.ofNat 2)&&(decide (0≤x.fst)&&decide (x.fst < Int.ofNat 2)&&(bif decide (wr .i64 (x.snd.rooks.getD (scale 2 p2+scale 1 x.fst).toNat 0) < 0) then true else (bif decide (wr .i64 (x.snd.rooks.getD (scale 2 p2+scale 1 x.fst).toNat 0) > 7) then true else (bif decide (p4 < p3) then (decide (0≤p2)&&decide (p2 < Int.ofNat 2)&&(decide (0≤x.fst)&&decide (x.fst < Int.ofNat 2)&&true)) else (bif decide (p4 > wr .i64 (p3+7)) then (decide (0≤p2)&&decide (p2 < Int.ofNat 2)&&(decide (0≤x.fst)&&decide (x.fst < Int.ofNat 2)&&true)) else (ok157 (x.snd) (wr .i64 (p3+wr .i64 (x.snd.rooks.getD (scale 2 p2+scale 1 x.fst).toNat 0))) (p2) (4)&&(bif !N157 x.snd (wr .i64 (p3+wr .i64 (x.snd.rooks.getD (scale 2 p2+scale 1 x.fst).toNat 0))) p2 4 then (decide (0≤p2)&&decide (p2 < Int.ofNat 2)&&(decide (0≤x.fst)&&decide (x.fst < Int.ofNat 2)&&true)) else (bif p1==wr .i64 (p3+wr .i64 (x.snd.rooks.getD (scale 2 p2+scale 1 x.fst).toNat 0)) then (decide (0≤p2)&&decide (p2 < Int.ofNat 2)&&(decide (0≤x.fst)&&decide (x.fst < Int.ofNat 2)&&true)) else (bif p6.drp==0 then (bif wr .i64 p6.frm==wr .i64 (p3+wr .i64 (x.snd.rooks.getD (scale 2 p2+scale 1 x.fst).toNat 0)) then (decide (0≤p2)&&decide (p2 < Int.ofNat 2)&&(decide (0≤x.fst)&&decide (x.fst < Int.ofNat 2)&&true)) else true) else true)))))))))) else true)
noncomputable def lp120_2 (p1:Int) (p2:Int) (p3:Int) (p4:Int) (p5:Pos) (p6:Mv) (x:(Int×Pos)):Option ((Int×Bool×Pos)):=itl (fun x=>bif okL120_2 p1 p2 p3 p4 p5 p6 x then st120_2 p1 p2 p3 p4 p5 p6 x else .bad) many x
abbrev D120_2 {α:Type} (k:Int→Int→Int→Int→Pos→Mv→(Int×Pos)→α) (s:St):α:=wP s 0 fun q0=>wP s 1 fun q1=>wM s 2 fun q2=>k (tI (tT s 3)) (tI (tT s 9)) (tI (tT s 10)) (tI (tT s 11)) q0 q2 ((tI (tT s 12)),q1)
theorem L120_2 (p1:Int) (p2:Int) (p3:Int) (p4:Int) (p5:Pos) (p6:Mv) (x:(Int×Pos)) (r:(Int×Bool×Pos)) (h:lp120_2 p1 p2 p3 p4 p5 p6 x=some r):LSpec Pz (bodL Pz 120 9) (S120_2 p1 p2 p3 p4 p5 p6 x) (O120_2 p1 p2 p3 p4 p5 p6 r):=LSpec.smd (m:=12) (fn:=120) hB120_2 (D120_2 fun _ _ _ _ _ _ x=>some x) (fun o=>match o with | .exit 2 s=>wP s 1 fun q1=>some ((tI (tT s 12)),(tB (tT s 44)),q1) | _=>none) (fun _=>rfl) (fun _=>by kernel_rfl) (fun _=>by kernel_rfl) (fun _=>by kernel_rfl) (fun _=>by kernel_rfl) many x r h
noncomputable def F120_2 (b:Code) (s:St):Tr Out:=D120_2 (fun p1 p2 p3 p4 p5 p6 x=>lk1 b (bodL Pz 120 9) s (S120_2 p1 p2 p3 p4 p5 p6 x) (lp120_2 p1 p2 p3 p4 p5 p6 x) (O120_2 p1 p2 p3 p4 p5 p6)) s
theorem sF120_2:∀ b,LSound Pz b (F120_2 b):=fun _ _ _ h=>lk1_ok (L120_2 _ _ _ _ _ _ _) h
noncomputable def B120_3:Base:=baseOf Pz (fun f i=>lkC f i K120) [(106,G106),(131,G131),(157,G157)] [(120,9,F120_2)] []
theorem hB120_3:BOk B120_3:=base_ok named_z ⟨s106,s131,s157,trivial⟩ ⟨sF120_2,trivial⟩ trivial
noncomputable def S120_3 (p1:Int) (p2:Pos) (p3:Mv) (x:(Int×Pos)):St:=St.mk (an 3 (AV.int .i64 p1::AV.any::AV.ptr 1 0::AV.ptr 2 0::AV.any::AV.ptr 3 0::AV.int .u8 x.fst::(an 93 []))) (Hp.mk [(pc p2 []),(pc x.snd []),[AV.int .i8 p3.frm,AV.int .i8 p3.to,AV.int .u8 p3.pro,AV.int .u8 p3.drp,AV.bool p3.cas],[AV.int .u8 0,AV.ints .u8 64 (List.replicate 64 0),AV.u64 0,AV.ints .u8 12 (List.replicate 12 0),AV.int .u8 0,AV.ints .i8 4 (List.replicate 4 0),AV.int .i8 0,AV.ints .u8 2 (List.replicate 2 0),AV.int .i64 0,AV.int .i64 0]] [] [] 0 0 0)
noncomputable def O120_3 (p1:Int) (p2:Pos) (p3:Mv):(Int×Bool×Pos)→Out:=fun y=>.exit 0 (St.mk (an 3 (AV.int .i64 p1::AV.any::AV.ptr 1 0::AV.ptr 2 0::AV.any::AV.ptr 3 0::AV.int .u8 y.fst::(an 24 (AV.bool y.snd.fst::(an 68 []))))) (Hp.mk [(pc p2 []),(pc y.snd.snd []),[AV.int .i8 p3.frm,AV.int .i8 p3.to,AV.int .u8 p3.pro,AV.int .u8 p3.drp,AV.bool p3.cas],[AV.int .u8 0,AV.ints .u8 64 (List.replicate 64 0),AV.u64 0,AV.ints .u8 12 (List.replicate 12 0),AV.int .u8 0,AV.ints .i8 4 (List.replicate 4 0),AV.int .i8 0,AV.ints .u8 2 (List.replicate 2 0),AV.int .i64 0,AV.int .i64 0]] [] [] 0 0 0))
noncomputable def st120_3 (p1:Int) (p2:Pos) (p3:Mv) (x:(Int×Pos)):Stp (Int×Pos) ((Int×Bool×Pos)):=(bif decide (x.fst < 2) then (Stp.go (wr .u8 (x.fst+1),((lp120_2 p1 x.fst (wr .i64 (56 * wr .i64 x.fst)) (N131 x.snd x.fst 6) p2 p3 (0,x.snd)).getD default).snd.snd)) else (Stp.out ((x.fst,decide (x.fst < 2),x.snd))))
noncomputable def okL120_3 (p1:Int) (p2:Pos) (p3:Mv) (x:(Int×Pos)):Bool:=(bif decide (x.fst < 2) then (ok131 (x.snd) (x.fst) (6)&&((lp120_2 p1 x.fst (wr .i64 (56 * wr .i64 x.fst)) (N131 x.snd x.fst 6) p2 p3 (0,x.snd)).isSome&&true)) else true)
noncomputable def lp120_3 (p1:Int) (p2:Pos) (p3:Mv) (x:(Int×Pos)):Option ((Int×Bool×Pos)):=itl (fun x=>bif okL120_3 p1 p2 p3 x then st120_3 p1 p2 p3 x else .bad) many x
abbrev D120_3 {α:Type} (k:Int→Pos→Mv→(Int×Pos)→α) (s:St):α:=wP s 0 fun q0=>wP s 1 fun q1=>wM s 2 fun q2=>k (tI (tT s 3)) q0 q2 ((tI (tT s 9)),q1)
theorem L120_3 (p1:Int) (p2:Pos) (p3:Mv) (x:(Int×Pos)) (r:(Int×Bool×Pos)) (h:lp120_3 p1 p2 p3 x=some r):LSpec Pz (bodL Pz 120 4) (S120_3 p1 p2 p3 x) (O120_3 p1 p2 p3 r):=LSpec.smd (m:=12) (fn:=120) hB120_3 (D120_3 fun _ _ _ x=>some x) (fun o=>match o with | .exit 0 s=>wP s 1 fun q1=>some ((tI (tT s 9)),(tB (tT s 34)),q1) | _=>none) (fun _=>rfl) (fun _=>by kernel_rfl) (fun _=>by kernel_rfl) (fun _=>by kernel_rfl) (fun _=>by kernel_rfl) many x r h
noncomputable def F120_3 (b:Code) (s:St):Tr Out:=D120_3 (fun p1 p2 p3 x=>lk1 b (bodL Pz 120 4) s (S120_3 p1 p2 p3 x) (lp120_3 p1 p2 p3 x) (O120_3 p1 p2 p3)) s
theorem sF120_3:∀ b,LSound Pz b (F120_3 b):=fun _ _ _ h=>lk1_ok (L120_3 _ _ _ _) h
noncomputable def B120:Base:=baseOf Pz (fun f i=>lkC f i K120) [(106,G106),(131,G131),(157,G157)] [(120,9,F120_2),(120,4,F120_3)] []
theorem hB120:BOk B120:=base_ok named_z ⟨s106,s131,s157,trivial⟩ ⟨sF120_2,sF120_3,trivial⟩ trivial
noncomputable def N120 (a:Pos) (b:Pos) (c:Mv) (d:Int):Pos:=let z1:=((lp120_3 d a c (0,Pos.mk b.variant b.board b.promoted b.pockets b.turn (List.take (scale 2 a.turn).toNat b.rooks++((List.replicate 2 0).set 0 (-1)).set 1 (-1)++List.drop ((scale 2 a.turn).toNat+2) b.rooks) b.passing b.checks b.half b.full)).getD default); let z2:=((lp120_3 d a c (0,b)).getD default); let z3:=(Pos.mk (z2.snd.snd.variant) (z2.snd.snd.board) (z2.snd.snd.promoted) (z2.snd.snd.pockets) (z2.snd.snd.turn) (z2.snd.snd.rooks) (z2.snd.snd.passing) (z2.snd.snd.checks) (z2.snd.snd.half) (z2.snd.snd.full)); (bif c.drp==0 then (bif N106 (a.board.getD (scale 1 c.frm).toNat 0)==6 then (Pos.mk (z1.snd.snd.variant) (z1.snd.snd.board) (z1.snd.snd.promoted) (z1.snd.snd.pockets) (z1.snd.snd.turn) (z1.snd.snd.rooks) (z1.snd.snd.passing) (z1.snd.snd.checks) (z1.snd.snd.half) (z1.snd.snd.full)) else z3) else z3)
noncomputable def ok120 (a:Pos) (b:Pos) (c:Mv) (d:Int):Bool:=let z1:=((lp120_3 d a c (0,b)).isSome&&true); (bif c.drp==0 then (decide (0≤c.frm)&&decide (c.frm < Int.ofNat 64)&&(bif N106 (a.board.getD (scale 1 c.frm).toNat 0)==6 then (decide (0≤a.turn)&&decide (a.turn < Int.ofNat 2)&&((lp120_3 d a c (0,Pos.mk b.variant b.board b.promoted b.pockets b.turn (List.take (scale 2 a.turn).toNat b.rooks++((List.replicate 2 0).set 0 (-1)).set 1 (-1)++List.drop ((scale 2 a.turn).toNat+2) b.rooks) b.passing b.checks b.half b.full)).isSome&&true)) else z1)) else z1)
theorem P120 (a:Pos) (b:Pos) (c:Mv) (d:Int) (h:ok120 a b c d=true):PS Pz 120 [Pos.av a,Pos.av b,Mv.av c,.int .i64 d] (dPos.res (N120 a b c d)):=ps_sum (n:=14) hB120 (by kernel_rfl) (by kernel_rfl) (by kernel_rfl) h
noncomputable def G120:List AV→Tr AV:=g4 dPos dPos dMv (dI .i64) (fun a b c d=>gdv (ok120 a b c d) (dPos.res (N120 a b c d)))
theorem s120:Sound Pz 120 G120:=sound4 fun a b c d=>at_gd (P120 a b c d)
noncomputable def K121:List (Nat×Nat×List (Nat×List Nat)):=[(121,69,[(0,(3::4::5::14::15::(rn 18 7 (rn 41 5 (rn 58 6 []))))),(1,(3::4::5::25::(rn 41 5 (rn 58 6 [])))),(2,[6]),(3,(3::4::5::7::(rn 41 5 (rn 58 6 [])))),(4,(3::4::5::7::8::(rn 41 5 (rn 58 6 [])))),(5,(3::4::7::8::46::(rn 58 6 []))),(6,[6]),(7,(3::4::7::8::9::(rn 58 6 []))),(8,(3::4::7::8::9::48::(rn 58 6 []))),(9,(3::4::7::8::9::(rn 58 6 []))),(10,(3::4::7::8::9::(rn 58 7 []))),(11,[6]),(12,[6])])]
noncomputable def B121_1:Base:=baseOf Pz (fun f i=>lkC f i K121) [(106,G106),(135,G135),(157,G157),(159,G159),(161,G161)] [] []
theorem hB121_1:BOk B121_1:=base_ok named_z ⟨s106,s135,s157,s159,s161,trivial⟩ trivial trivial
noncomputable def S121_1 (p1:Int) (p2:Int) (p3:Pos) (p4:Pos) (p5:Mv) (x:(Int)):St:=St.mk (an 3 (AV.ptr 0 0::AV.ptr 1 0::AV.any::AV.any::AV.int .i64 p1::AV.int .i64 p2::AV.int .i64 x::(an 59 []))) (Hp.mk [(pc p3 []),(pc p4 []),[AV.int .i8 p5.frm,AV.int .i8 p5.to,AV.int .u8 p5.pro,AV.int .u8 p5.drp,AV.bool p5.cas]] [] [] 0 0 0)
noncomputable def O121_1 (p1:Int) (p2:Int) (p3:Pos) (p4:Pos) (p5:Mv):Unit ⊕ (Int×Bool)→Out
  | (.inl (y))=>.ret (St.mk (an 6 (AV.int .i8 (wr .i8 (wr .i64 (p2+p1)))::(an 62 []))) (Hp.mk [(pc p3 []),(pc p4 []),[AV.int .i8 p5.frm,AV.int .i8 p5.to,AV.int .u8 p5.pro,AV.int .u8 p5.drp,AV.bool p5.cas]] [] [] 0 0 0))
  | (.inr (y))=>.exit 0 (St.mk (an 3 (AV.ptr 0 0::AV.ptr 1 0::AV.any::AV.any::AV.int .i64 p1::AV.int .i64 p2::AV.int .i64 y.fst::(an 38 (AV.bool y.snd::(an 20 []))))) (Hp.mk [(pc p3 []),(pc p4 []),[AV.int .i8 p5.frm,AV.int .i8 p5.to,AV.int .u8 p5.pro,AV.int .u8 p5.drp,AV.bool p5.cas]] [] [] 0 0 0))
noncomputable def st121_1 (p1:Int) (p2:Int) (p3:Pos) (p4:Pos) (p5:Mv) (x:(Int)):Stp (Int) (Unit ⊕ (Int×Bool)):=(bif decide (x < 64) then (bif N157 p4 x (wr .u8 (1 - p3.turn)) 1 then (bif N159 p4 x (wr .i64 (p2+p1)) then (Stp.out (.inl (()))) else (Stp.go (wr .i64 (x+1)))) else (Stp.go (wr .i64 (x+1)))) else (Stp.out (.inr ((x,decide (x < 64))))))
noncomputable def okL121_1 (p1:Int) (p2:Int) (p3:Pos) (p4:Pos) (p5:Mv) (x:(Int)):Bool:=(bif decide (x < 64) then (ok157 (p4) (x) (wr .u8 (1 - p3.turn)) (1)&&(bif N157 p4 x (wr .u8 (1 - p3.turn)) 1 then (ok159 (p4) (x) (wr .i64 (p2+p1))&&true) else true)) else true)
noncomputable def lp121_1 (p1:Int) (p2:Int) (p3:Pos) (p4:Pos) (p5:Mv) (x:(Int)):Option (Unit ⊕ (Int×Bool)):=itl (fun x=>bif okL121_1 p1 p2 p3 p4 p5 x then st121_1 p1 p2 p3 p4 p5 x else .bad) many x
abbrev D121_1 {α:Type} (k:Int→Int→Pos→Pos→Mv→(Int)→α) (s:St):α:=wP s 0 fun q0=>wP s 1 fun q1=>wM s 2 fun q2=>k (tI (tT s 7)) (tI (tT s 8)) q0 q1 q2 ((tI (tT s 9)))
theorem L121_1 (p1:Int) (p2:Int) (p3:Pos) (p4:Pos) (p5:Mv) (x:(Int)) (r:Unit ⊕ (Int×Bool)) (h:lp121_1 p1 p2 p3 p4 p5 x=some r):LSpec Pz (bodL Pz 121 8) (S121_1 p1 p2 p3 p4 p5 x) (O121_1 p1 p2 p3 p4 p5 r):=LSpec.smd (m:=12) (fn:=121) hB121_1 (D121_1 fun _ _ _ _ _ x=>some x) (fun o=>match o with | .ret s=>some (.inl ()) | .exit 0 s=>some (.inr ((tI (tT s 9)),(tB (tT s 48)))) | _=>none) (fun r=>by cases r <;> rfl) (fun _=>by kernel_rfl) (fun _=>by kernel_rfl) (fun _=>by kernel_rfl) (fun _=>by kernel_rfl) many x r h
noncomputable def F121_1 (b:Code) (s:St):Tr Out:=D121_1 (fun p1 p2 p3 p4 p5 x=>lk2 b (bodL Pz 121 8) s (S121_1 p1 p2 p3 p4 p5 x) (lp121_1 p1 p2 p3 p4 p5 x) (O121_1 p1 p2 p3 p4 p5)) s
theorem sF121_1:∀ b,LSound Pz b (F121_1 b):=fun _ _ _ h=>lk2_ok (L121_1 _ _ _ _ _ _) h
noncomputable def B121:Base:=baseOf Pz (fun f i=>lkC f i K121) [(106,G106),(135,G135),(157,G157),(159,G159),(161,G161)] [(121,8,F121_1)] []
theorem hB121:BOk B121:=base_ok named_z ⟨s106,s135,s157,s159,s161,trivial⟩ ⟨sF121_1,trivial⟩ trivial
noncomputable def N121 (a:Pos) (b:Pos) (c:Mv):Int:=(bif c.drp != 0 then (-1) else (bif c.cas then (-1) else (bif N106 (a.board.getD (scale 1 c.frm).toNat 0) != 1 then (-1) else (bif wr .i64 c.to != wr .i64 (wr .i64 c.frm+wr .i64 (2 * N135 a.turn)) then (-1) else (bif N161 a.turn (wr .i64 c.frm) != 1 then (-1) else (bif isL ((lp121_1 (N135 a.turn) (wr .i64 c.frm) a b c 0).getD default) then (wr .i8 (wr .i64 (wr .i64 c.frm+N135 a.turn))) else (-1)))))))
noncomputable def ok121 (a:Pos) (b:Pos) (c:Mv):Bool:=(bif c.drp != 0 then true else (bif c.cas then true else (decide (0≤c.frm)&&decide (c.frm < Int.ofNat 64)&&(bif N106 (a.board.getD (scale 1 c.frm).toNat 0) != 1 then true else (bif wr .i64 c.to != wr .i64 (wr .i64 c.frm+wr .i64 (2 * N135 a.turn)) then true else (bif N161 a.turn (wr .i64 c.frm) != 1 then true else ((lp121_1 (N135 a.turn) (wr .i64 c.frm) a b c 0).isSome&&bif isL ((lp121_1 (N135 a.turn) (wr .i64 c.frm) a b c 0).getD default) then true else true)))))))
theorem P121 (a:Pos) (b:Pos) (c:Mv) (h:ok121 a b c=true):PS Pz 121 [Pos.av a,Pos.av b,Mv.av c] ((dI .i8).res (N121 a b c)):=ps_sum (n:=14) hB121 (by kernel_rfl) (by kernel_rfl) (by kernel_rfl) h
noncomputable def G121:List AV→Tr AV:=g3 dPos dPos dMv (fun a b c=>gdv (ok121 a b c) ((dI .i8).res (N121 a b c)))
theorem s121:Sound Pz 121 G121:=sound3 fun a b c=>at_gd (P121 a b c)
noncomputable def K122:List (Nat×Nat×List (Nat×List Nat)):=[(122,8,[(0,[0]),(1,[0,4]),(2,[2]),(3,[2])])]
noncomputable def B122:Base:=baseOf Pz (fun f i=>lkC f i K122) [] [] []
theorem hB122:BOk B122:=base_ok named_z trivial trivial trivial
noncomputable def N122 (a:Int):Int:=(bif decide (a ≥ 10000) then (a) else (wr .i64 (a+1)))
noncomputable def ok122 (a:Int):Bool:=true
theorem P122 (a:Int) (h:ok122 a=true):PS Pz 122 [.int .i64 a] ((dI .i64).res (N122 a)):=ps_sum (n:=14) hB122 (by kernel_rfl) (by kernel_rfl) (by kernel_rfl) h
noncomputable def G122:List AV→Tr AV:=g1 (dI .i64) (fun a=>.ret ((dI .i64).res (N122 a)))
theorem s122:Sound Pz 122 G122:=sound1 fun a=>at_rt (P122 a rfl)
noncomputable def K58:List (Nat×Nat×List (Nat×List Nat)):=[(58,118,[(0,(2::3::4::26::27::(rn 58 12 (77::78::(rn 96 6 (rn 104 4 [])))))),(1,(rn 2 4 (26::27::(rn 58 12 (77::78::(rn 96 6 (rn 104 4 []))))))),(2,(rn 2 5 (26::27::(rn 58 12 (77::78::(rn 96 6 (rn 104 4 []))))))),(3,(rn 2 5 (26::27::(rn 58 12 (77::78::(rn 96 6 (rn 104 4 []))))))),(4,(rn 2 5 (28::(rn 58 12 (77::78::(rn 96 6 (rn 104 4 []))))))),(5,(rn 2 6 (rn 58 12 (77::78::(rn 96 6 (rn 104 4 [])))))),(6,(rn 2 7 (rn 58 12 (77::78::(rn 96 6 (rn 104 4 [])))))),(7,(rn 2 7 (35::(rn 58 12 (77::78::(rn 96 6 (rn 104 4 []))))))),(8,(rn 2 7 (rn 58 12 (77::78::(rn 96 6 (rn 104 4 [])))))),(9,(rn 2 7 (40::(rn 58 12 (77::78::(rn 96 6 (rn 104 4 []))))))),(10,(rn 2 7 (rn 58 12 (77::78::(rn 96 6 (rn 104 4 [])))))),(11,(rn 2 5 (rn 58 12 (77::78::(rn 96 6 (rn 104 4 [])))))),(12,(rn 2 5 (rn 58 12 (77::78::(rn 96 6 (rn 104 4 [])))))),(13,(2::4::5::6::9::77::78::(rn 96 6 (rn 104 4 [])))),(14,(2::4::5::6::9::77::78::(rn 96 6 (rn 104 4 [])))),(15,(2::4::6::79::(rn 96 6 (rn 104 4 [])))),(16,(2::4::6::(rn 96 6 (rn 104 4 [])))),(17,(2::4::6::83::(rn 96 6 (rn 104 4 [])))),(18,(2::4::6::(rn 96 6 (rn 104 4 [])))),(19,(2::4::6::(rn 96 6 (rn 104 4 [])))),(20,[2,4,6,108]),(21,[4,6]),(22,[4])])]
noncomputable def B58_1:Base:=baseOf Pz (fun f i=>lkC f i K58) [(47,G47),(79,G79),(106,G106),(116,G116),(117,G117),(118,G118),(119,G119),(120,G120),(121,G121),(122,G122)] [] []
theorem hB58_1:BOk B58_1:=base_ok named_z ⟨s47,s79,s106,s116,s117,s118,s119,s120,s121,s122,trivial⟩ trivial trivial
noncomputable def S58_1 (p1:Int) (p2:(BitVec 64)) (p3:Pos) (p4:Mv) (x:(Int×Pos)):St:=St.mk (AV.any::AV.any::AV.ptr 0 0::AV.ptr 1 0::AV.ptr 2 0::AV.int .i64 p1::AV.ptr 3 0::AV.u64 p2::AV.int .i64 x.fst::(an 49 (AV.undef::AV.undef::AV.undef::AV.undef::AV.undef::AV.undef::AV.undef::AV.undef::AV.undef::AV.undef::AV.undef::AV.undef::(an 7 (AV.undef::AV.undef::(an 17 (AV.undef::AV.undef::AV.undef::AV.undef::AV.undef::AV.undef::AV.any::AV.any::AV.undef::AV.undef::AV.undef::AV.undef::(an 10 [])))))))) (Hp.mk [(pc p3 []),[AV.int .i8 p4.frm,AV.int .i8 p4.to,AV.int .u8 p4.pro,AV.int .u8 p4.drp,AV.bool p4.cas],[AV.int .u8 0,AV.ints .u8 64 (li (List.replicate 64 0)),AV.u64 0,AV.ints .u8 12 (li [0,0,0,0,0,0,0,0,0,0,0,0]),AV.int .u8 0,AV.ints .i8 4 (li [0,0,0,0]),AV.int .i8 0,AV.ints .u8 2 (li [0,0]),AV.int .i64 0,AV.int .i64 0],(pc x.snd [])] [] [] 0 0 0)
noncomputable def O58_1 (p1:Int) (p2:(BitVec 64)) (p3:Pos) (p4:Mv):(Int×Bool×Pos)→Out:=fun y=>.exit 0 (St.mk (AV.any::AV.any::AV.ptr 0 0::AV.ptr 1 0::AV.ptr 2 0::AV.int .i64 p1::AV.ptr 3 0::AV.u64 p2::AV.int .i64 y.fst::(an 26 (AV.bool y.snd.fst::(an 22 (AV.undef::AV.undef::AV.undef::AV.undef::AV.undef::AV.undef::AV.undef::AV.undef::AV.undef::AV.undef::AV.undef::AV.undef::(an 7 (AV.undef::AV.undef::(an 17 (AV.undef::AV.undef::AV.undef::AV.undef::AV.undef::AV.undef::AV.any::AV.any::AV.undef::AV.undef::AV.undef::AV.undef::(an 10 [])))))))))) (Hp.mk [(pc p3 []),[AV.int .i8 p4.frm,AV.int .i8 p4.to,AV.int .u8 p4.pro,AV.int .u8 p4.drp,AV.bool p4.cas],[AV.int .u8 0,AV.ints .u8 64 (li (List.replicate 64 0)),AV.u64 0,AV.ints .u8 12 (li [0,0,0,0,0,0,0,0,0,0,0,0]),AV.int .u8 0,AV.ints .i8 4 (li [0,0,0,0]),AV.int .i8 0,AV.ints .u8 2 (li [0,0]),AV.int .i64 0,AV.int .i64 0],(pc y.snd.snd [])] [] [] 0 0 0))
noncomputable def st58_1 (p1:Int) (p2:(BitVec 64)) (p3:Pos) (p4:Mv) (x:(Int×Pos)):Stp (Int×Pos) ((Int×Bool×Pos)):=(bif decide (x.fst < 64) then (bif N119 p2 x.fst then (Stp.go (wr .i64 (x.fst+1),Pos.mk x.snd.variant (x.snd.board.set (scale 1 x.fst).toNat 0) x.snd.promoted x.snd.pockets x.snd.turn x.snd.rooks x.snd.passing x.snd.checks x.snd.half x.snd.full)) else (Stp.go (wr .i64 (x.fst+1),x.snd))) else (Stp.out ((x.fst,decide (x.fst < 64),x.snd))))
noncomputable def okL58_1 (p1:Int) (p2:(BitVec 64)) (p3:Pos) (p4:Mv) (x:(Int×Pos)):Bool:=(bif decide (x.fst < 64) then (bif N119 p2 x.fst then (decide (0≤x.fst)&&decide (x.fst < Int.ofNat 64)&&true) else true) else true)
noncomputable def lp58_1 (p1:Int) (p2:(BitVec 64)) (p3:Pos) (p4:Mv) (x:(Int×Pos)):Option ((Int×Bool×Pos)):=itl (fun x=>bif okL58_1 p1 p2 p3 p4 x then st58_1 p1 p2 p3 p4 x else .bad) many x
abbrev D58_1 {α:Type} (k:Int→(BitVec 64)→Pos→Mv→(Int×Pos)→α) (s:St):α:=wP s 0 fun q0=>wP s 3 fun q3=>wM s 1 fun q1=>k (tI (tT s 5)) (tU (tT s 7)) q0 q1 ((tI (tT s 8)),q3)
theorem L58_1 (p1:Int) (p2:(BitVec 64)) (p3:Pos) (p4:Mv) (x:(Int×Pos)) (r:(Int×Bool×Pos)) (h:lp58_1 p1 p2 p3 p4 x=some r):LSpec Pz (bodL Pz 58 7) (S58_1 p1 p2 p3 p4 x) (O58_1 p1 p2 p3 p4 r):=LSpec.smd (m:=12) (fn:=58) hB58_1 (D58_1 fun _ _ _ _ x=>some x) (fun o=>match o with | .exit 0 s=>wP s 3 fun q3=>some ((tI (tT s 8)),(tB (tT s 35)),q3) | _=>none) (fun _=>rfl) (fun _=>by kernel_rfl) (fun _=>by kernel_rfl) (fun _=>by kernel_rfl) (fun _=>by kernel_rfl) many x r h
noncomputable def F58_1 (b:Code) (s:St):Tr Out:=D58_1 (fun p1 p2 p3 p4 x=>lk1 b (bodL Pz 58 7) s (S58_1 p1 p2 p3 p4 x) (lp58_1 p1 p2 p3 p4 x) (O58_1 p1 p2 p3 p4)) s
theorem sF58_1:∀ b,LSound Pz b (F58_1 b):=fun _ _ _ h=>lk1_ok (L58_1 _ _ _ _ _) h
noncomputable def B58:Base:=baseOf Pz (fun f i=>lkC f i K58) [(47,G47),(79,G79),(106,G106),(116,G116),(117,G117),(118,G118),(119,G119),(120,G120),(121,G121),(122,G122)] [(58,7,F58_1)] []
theorem hB58:BOk B58:=base_ok named_z ⟨s47,s79,s106,s116,s117,s118,s119,s120,s121,s122,trivial⟩ ⟨sF58_1,trivial⟩ trivial
noncomputable def N58 (a:Pos) (b:Mv):Pos:=let z1:=(N120 a ((lp58_1 (N79 a b) (N118 (N117 a (N116 a b (N79 a b)) b (N79 a b)) (wr .i64 b.to)) a b (0,N117 a (N116 a b (N79 a b)) b (N79 a b))).getD default).snd.snd b (N79 a b)); let z2:=(N120 a (N117 a (N116 a b (N79 a b)) b (N79 a b)) b (N79 a b)); let z3:=(bif a.turn==1 then (bif z2.variant==5 then (bif decide (z2.checks.getD (scale 1 a.turn).toNat 0 < 3) then (bif N47 (Pos.mk z2.variant z2.board z2.promoted z2.pockets (wr .u8 (1 - a.turn)) z2.rooks (N121 a z2 b) z2.checks 0 (N122 a.full)) (wr .u8 (1 - a.turn)) then (Pos.mk (z2.variant) (z2.board) (z2.promoted) (z2.pockets) (wr .u8 (1 - a.turn)) (z2.rooks) (N121 a z2 b) (z2.checks.set (scale 1 a.turn).toNat (wr .u8 (z2.checks.getD (scale 1 a.turn).toNat 0+1))) 0 (N122 a.full)) else (Pos.mk (z2.variant) (z2.board) (z2.promoted) (z2.pockets) (wr .u8 (1 - a.turn)) (z2.rooks) (N121 a z2 b) (z2.checks) 0 (N122 a.full))) else (Pos.mk (z2.variant) (z2.board) (z2.promoted) (z2.pockets) (wr .u8 (1 - a.turn)) (z2.rooks) (N121 a z2 b) (z2.checks) 0 (N122 a.full))) else (Pos.mk (z2.variant) (z2.board) (z2.promoted) (z2.pockets) (wr .u8 (1 - a.turn)) (z2.rooks) (N121 a z2 b) (z2.checks) 0 (N122 a.full))) else (bif z2.variant==5 then (bif decide (z2.checks.getD (scale 1 a.turn).toNat 0 < 3) then (bif N47 (Pos.mk z2.variant z2.board z2.promoted z2.pockets (wr .u8 (1 - a.turn)) z2.rooks (N121 a z2 b) z2.checks 0 z2.full) (wr .u8 (1 - a.turn)) then (Pos.mk (z2.variant) (z2.board) (z2.promoted) (z2.pockets) (wr .u8 (1 - a.turn)) (z2.rooks) (N121 a z2 b) (z2.checks.set (scale 1 a.turn).toNat (wr .u8 (z2.checks.getD (scale 1 a.turn).toNat 0+1))) 0 (z2.full)) else (Pos.mk (z2.variant) (z2.board) (z2.promoted) (z2.pockets) (wr .u8 (1 - a.turn)) (z2.rooks) (N121 a z2 b) (z2.checks) 0 (z2.full))) else (Pos.mk (z2.variant) (z2.board) (z2.promoted) (z2.pockets) (wr .u8 (1 - a.turn)) (z2.rooks) (N121 a z2 b) (z2.checks) 0 (z2.full))) else (Pos.mk (z2.variant) (z2.board) (z2.promoted) (z2.pockets) (wr .u8 (1 - a.turn)) (z2.rooks) (N121 a z2 b) (z2.checks) 0 (z2.full)))); let z4:=(bif decide (N79 a b ≥ 0) then z3 else (bif a.turn==1 then (bif z2.variant==5 then (bif decide (z2.checks.getD (scale 1 a.turn).toNat 0 < 3) then (bif N47 (Pos.mk z2.variant z2.board z2.promoted z2.pockets (wr .u8 (1 - a.turn)) z2.rooks (N121 a z2 b) z2.checks (N122 a.half) (N122 a.full)) (wr .u8 (1 - a.turn)) then (Pos.mk (z2.variant) (z2.board) (z2.promoted) (z2.pockets) (wr .u8 (1 - a.turn)) (z2.rooks) (N121 a z2 b) (z2.checks.set (scale 1 a.turn).toNat (wr .u8 (z2.checks.getD (scale 1 a.turn).toNat 0+1))) (N122 a.half) (N122 a.full)) else (Pos.mk (z2.variant) (z2.board) (z2.promoted) (z2.pockets) (wr .u8 (1 - a.turn)) (z2.rooks) (N121 a z2 b) (z2.checks) (N122 a.half) (N122 a.full))) else (Pos.mk (z2.variant) (z2.board) (z2.promoted) (z2.pockets) (wr .u8 (1 - a.turn)) (z2.rooks) (N121 a z2 b) (z2.checks) (N122 a.half) (N122 a.full))) else (Pos.mk (z2.variant) (z2.board) (z2.promoted) (z2.pockets) (wr .u8 (1 - a.turn)) (z2.rooks) (N121 a z2 b) (z2.checks) (N122 a.half) (N122 a.full))) else (bif z2.variant==5 then (bif decide (z2.checks.getD (scale 1 a.turn).toNat 0 < 3) then (bif N47 (Pos.mk z2.variant z2.board z2.promoted z2.pockets (wr .u8 (1 - a.turn)) z2.rooks (N121 a z2 b) z2.checks (N122 a.half) z2.full) (wr .u8 (1 - a.turn)) then (Pos.mk (z2.variant) (z2.board) (z2.promoted) (z2.pockets) (wr .u8 (1 - a.turn)) (z2.rooks) (N121 a z2 b) (z2.checks.set (scale 1 a.turn).toNat (wr .u8 (z2.checks.getD (scale 1 a.turn).toNat 0+1))) (N122 a.half) (z2.full)) else (Pos.mk (z2.variant) (z2.board) (z2.promoted) (z2.pockets) (wr .u8 (1 - a.turn)) (z2.rooks) (N121 a z2 b) (z2.checks) (N122 a.half) (z2.full))) else (Pos.mk (z2.variant) (z2.board) (z2.promoted) (z2.pockets) (wr .u8 (1 - a.turn)) (z2.rooks) (N121 a z2 b) (z2.checks) (N122 a.half) (z2.full))) else (Pos.mk (z2.variant) (z2.board) (z2.promoted) (z2.pockets) (wr .u8 (1 - a.turn)) (z2.rooks) (N121 a z2 b) (z2.checks) (N122 a.half) (z2.full))))); let z5:=(bif a.turn==1 then (bif z1.variant==5 then (bif decide (z1.checks.getD (scale 1 a.turn).toNat 0 < 3) then (bif N47 (Pos.mk z1.variant z1.board z1.promoted z1.pockets (wr .u8 (1 - a.turn)) z1.rooks (N121 a z1 b) z1.checks 0 (N122 a.full)) (wr .u8 (1 - a.turn)) then (Pos.mk (z1.variant) (z1.board) (z1.promoted) (z1.pockets) (wr .u8 (1 - a.turn)) (z1.rooks) (N121 a z1 b) (z1.checks.set (scale 1 a.turn).toNat (wr .u8 (z1.checks.getD (scale 1 a.turn).toNat 0+1))) 0 (N122 a.full)) else (Pos.mk (z1.variant) (z1.board) (z1.promoted) (z1.pockets) (wr .u8 (1 - a.turn)) (z1.rooks) (N121 a z1 b) (z1.checks) 0 (N122 a.full))) else (Pos.mk (z1.variant) (z1.board) (z1.promoted) (z1.pockets) (wr .u8 (1 - a.turn)) (z1.rooks) (N121 a z1 b) (z1.checks) 0 (N122 a.full))) else (Pos.mk (z1.variant) (z1.board) (z1.promoted) (z1.pockets) (wr .u8 (1 - a.turn)) (z1.rooks) (N121 a z1 b) (z1.checks) 0 (N122 a.full))) else (bif z1.variant==5 then (bif decide (z1.checks.getD (scale 1 a.turn).toNat 0 < 3) then (bif N47 (Pos.mk z1.variant z1.board z1.promoted z1.pockets (wr .u8 (1 - a.turn)) z1.rooks (N121 a z1 b) z1.checks 0 z1.full) (wr .u8 (1 - a.turn)) then (Pos.mk (z1.variant) (z1.board) (z1.promoted) (z1.pockets) (wr .u8 (1 - a.turn)) (z1.rooks) (N121 a z1 b) (z1.checks.set (scale 1 a.turn).toNat (wr .u8 (z1.checks.getD (scale 1 a.turn).toNat 0+1))) 0 (z1.full)) else (Pos.mk (z1.variant) (z1.board) (z1.promoted) (z1.pockets) (wr .u8 (1 - a.turn)) (z1.rooks) (N121 a z1 b) (z1.checks) 0 (z1.full))) else (Pos.mk (z1.variant) (z1.board) (z1.promoted) (z1.pockets) (wr .u8 (1 - a.turn)) (z1.rooks) (N121 a z1 b) (z1.checks) 0 (z1.full))) else (Pos.mk (z1.variant) (z1.board) (z1.promoted) (z1.pockets) (wr .u8 (1 - a.turn)) (z1.rooks) (N121 a z1 b) (z1.checks) 0 (z1.full)))); let z6:=(bif decide (N79 a b ≥ 0) then z5 else (bif a.turn==1 then (bif z1.variant==5 then (bif decide (z1.checks.getD (scale 1 a.turn).toNat 0 < 3) then (bif N47 (Pos.mk z1.variant z1.board z1.promoted z1.pockets (wr .u8 (1 - a.turn)) z1.rooks (N121 a z1 b) z1.checks (N122 a.half) (N122 a.full)) (wr .u8 (1 - a.turn)) then (Pos.mk (z1.variant) (z1.board) (z1.promoted) (z1.pockets) (wr .u8 (1 - a.turn)) (z1.rooks) (N121 a z1 b) (z1.checks.set (scale 1 a.turn).toNat (wr .u8 (z1.checks.getD (scale 1 a.turn).toNat 0+1))) (N122 a.half) (N122 a.full)) else (Pos.mk (z1.variant) (z1.board) (z1.promoted) (z1.pockets) (wr .u8 (1 - a.turn)) (z1.rooks) (N121 a z1 b) (z1.checks) (N122 a.half) (N122 a.full))) else (Pos.mk (z1.variant) (z1.board) (z1.promoted) (z1.pockets) (wr .u8 (1 - a.turn)) (z1.rooks) (N121 a z1 b) (z1.checks) (N122 a.half) (N122 a.full))) else (Pos.mk (z1.variant) (z1.board) (z1.promoted) (z1.pockets) (wr .u8 (1 - a.turn)) (z1.rooks) (N121 a z1 b) (z1.checks) (N122 a.half) (N122 a.full))) else (bif z1.variant==5 then (bif decide (z1.checks.getD (scale 1 a.turn).toNat 0 < 3) then (bif N47 (Pos.mk z1.variant z1.board z1.promoted z1.pockets (wr .u8 (1 - a.turn)) z1.rooks (N121 a z1 b) z1.checks (N122 a.half) z1.full) (wr .u8 (1 - a.turn)) then (Pos.mk (z1.variant) (z1.board) (z1.promoted) (z1.pockets) (wr .u8 (1 - a.turn)) (z1.rooks) (N121 a z1 b) (z1.checks.set (scale 1 a.turn).toNat (wr .u8 (z1.checks.getD (scale 1 a.turn).toNat 0+1))) (N122 a.half) (z1.full)) else (Pos.mk (z1.variant) (z1.board) (z1.promoted) (z1.pockets) (wr .u8 (1 - a.turn)) (z1.rooks) (N121 a z1 b) (z1.checks) (N122 a.half) (z1.full))) else (Pos.mk (z1.variant) (z1.board) (z1.promoted) (z1.pockets) (wr .u8 (1 - a.turn)) (z1.rooks) (N121 a z1 b) (z1.checks) (N122 a.half) (z1.full))) else (Pos.mk (z1.variant) (z1.board) (z1.promoted) (z1.pockets) (wr .u8 (1 - a.turn)) (z1.rooks) (N121 a z1 b) (z1.checks) (N122 a.half) (z1.full))))); let z7:=(bif b.drp==1 then z3 else (bif b.drp==0 then (bif N106 (a.board.getD (scale 1 b.frm).toNat 0)==1 then z3 else z4) else z4)); (bif a.variant==3 then (bif decide (N79 a b ≥ 0) then (bif b.drp==1 then z5 else (bif b.drp==0 then (bif N106 (a.board.getD (scale 1 b.frm).toNat 0)==1 then z5 else z6) else z6)) else z7) else z7)
noncomputable def ok58 (a:Pos) (b:Mv):Bool:=let z2:=(N120 a (N117 a (N116 a b (N79 a b)) b (N79 a b)) b (N79 a b)); let z3:=(bif a.turn==1 then (bif z2.variant==5 then (decide (0≤a.turn)&&decide (a.turn < Int.ofNat 2)&&(bif decide (z2.checks.getD (scale 1 a.turn).toNat 0 < 3) then (ok47 (Pos.mk z2.variant z2.board z2.promoted z2.pockets (wr .u8 (1 - a.turn)) z2.rooks (N121 a z2 b) z2.checks 0 (N122 a.full)) (wr .u8 (1 - a.turn))&&(bif N47 (Pos.mk z2.variant z2.board z2.promoted z2.pockets (wr .u8 (1 - a.turn)) z2.rooks (N121 a z2 b) z2.checks 0 (N122 a.full)) (wr .u8 (1 - a.turn)) then (decide (0≤a.turn)&&decide (a.turn < Int.ofNat 2)&&(decide (0≤a.turn)&&decide (a.turn < Int.ofNat 2)&&true)) else true)) else true)) else true) else (bif z2.variant==5 then (decide (0≤a.turn)&&decide (a.turn < Int.ofNat 2)&&(bif decide (z2.checks.getD (scale 1 a.turn).toNat 0 < 3) then (ok47 (Pos.mk z2.variant z2.board z2.promoted z2.pockets (wr .u8 (1 - a.turn)) z2.rooks (N121 a z2 b) z2.checks 0 z2.full) (wr .u8 (1 - a.turn))&&(bif N47 (Pos.mk z2.variant z2.board z2.promoted z2.pockets (wr .u8 (1 - a.turn)) z2.rooks (N121 a z2 b) z2.checks 0 z2.full) (wr .u8 (1 - a.turn)) then (decide (0≤a.turn)&&decide (a.turn < Int.ofNat 2)&&(decide (0≤a.turn)&&decide (a.turn < Int.ofNat 2)&&true)) else true)) else true)) else true)); let z4:=(bif decide (N79 a b ≥ 0) then z3 else (bif a.turn==1 then (bif z2.variant==5 then (decide (0≤a.turn)&&decide (a.turn < Int.ofNat 2)&&(bif decide (z2.checks.getD (scale 1 a.turn).toNat 0 < 3) then (ok47 (Pos.mk z2.variant z2.board z2.promoted z2.pockets (wr .u8 (1 - a.turn)) z2.rooks (N121 a z2 b) z2.checks (N122 a.half) (N122 a.full)) (wr .u8 (1 - a.turn))&&(bif N47 (Pos.mk z2.variant z2.board z2.promoted z2.pockets (wr .u8 (1 - a.turn)) z2.rooks (N121 a z2 b) z2.checks (N122 a.half) (N122 a.full)) (wr .u8 (1 - a.turn)) then (decide (0≤a.turn)&&decide (a.turn < Int.ofNat 2)&&(decide (0≤a.turn)&&decide (a.turn < Int.ofNat 2)&&true)) else true)) else true)) else true) else (bif z2.variant==5 then (decide (0≤a.turn)&&decide (a.turn < Int.ofNat 2)&&(bif decide (z2.checks.getD (scale 1 a.turn).toNat 0 < 3) then (ok47 (Pos.mk z2.variant z2.board z2.promoted z2.pockets (wr .u8 (1 - a.turn)) z2.rooks (N121 a z2 b) z2.checks (N122 a.half) z2.full) (wr .u8 (1 - a.turn))&&(bif N47 (Pos.mk z2.variant z2.board z2.promoted z2.pockets (wr .u8 (1 - a.turn)) z2.rooks (N121 a z2 b) z2.checks (N122 a.half) z2.full) (wr .u8 (1 - a.turn)) then (decide (0≤a.turn)&&decide (a.turn < Int.ofNat 2)&&(decide (0≤a.turn)&&decide (a.turn < Int.ofNat 2)&&true)) else true)) else true)) else true))); let z7:=(ok120 (a) (N117 a (N116 a b (N79 a b)) b (N79 a b)) (b) (N79 a b)&&(ok121 (a) z2 (b)&&(bif b.drp==1 then z3 else (bif b.drp==0 then (decide (0≤b.frm)&&decide (b.frm < Int.ofNat 64)&&(bif N106 (a.board.getD (scale 1 b.frm).toNat 0)==1 then z3 else z4)) else z4)))); let z8:=(lp58_1 (N79 a b) (N118 (N117 a (N116 a b (N79 a b)) b (N79 a b)) (wr .i64 b.to)) a b (0,N117 a (N116 a b (N79 a b)) b (N79 a b))); let z1:=(N120 a (z8.getD default).snd.snd b (N79 a b)); let z5:=(bif a.turn==1 then (bif z1.variant==5 then (decide (0≤a.turn)&&decide (a.turn < Int.ofNat 2)&&(bif decide (z1.checks.getD (scale 1 a.turn).toNat 0 < 3) then (ok47 (Pos.mk z1.variant z1.board z1.promoted z1.pockets (wr .u8 (1 - a.turn)) z1.rooks (N121 a z1 b) z1.checks 0 (N122 a.full)) (wr .u8 (1 - a.turn))&&(bif N47 (Pos.mk z1.variant z1.board z1.promoted z1.pockets (wr .u8 (1 - a.turn)) z1.rooks (N121 a z1 b) z1.checks 0 (N122 a.full)) (wr .u8 (1 - a.turn)) then (decide (0≤a.turn)&&decide (a.turn < Int.ofNat 2)&&(decide (0≤a.turn)&&decide (a.turn < Int.ofNat 2)&&true)) else true)) else true)) else true) else (bif z1.variant==5 then (decide (0≤a.turn)&&decide (a.turn < Int.ofNat 2)&&(bif decide (z1.checks.getD (scale 1 a.turn).toNat 0 < 3) then (ok47 (Pos.mk z1.variant z1.board z1.promoted z1.pockets (wr .u8 (1 - a.turn)) z1.rooks (N121 a z1 b) z1.checks 0 z1.full) (wr .u8 (1 - a.turn))&&(bif N47 (Pos.mk z1.variant z1.board z1.promoted z1.pockets (wr .u8 (1 - a.turn)) z1.rooks (N121 a z1 b) z1.checks 0 z1.full) (wr .u8 (1 - a.turn)) then (decide (0≤a.turn)&&decide (a.turn < Int.ofNat 2)&&(decide (0≤a.turn)&&decide (a.turn < Int.ofNat 2)&&true)) else true)) else true)) else true)); let z6:=(bif decide (N79 a b ≥ 0) then z5 else (bif a.turn==1 then (bif z1.variant==5 then (decide (0≤a.turn)&&decide (a.turn < Int.ofNat 2)&&(bif decide (z1.checks.getD (scale 1 a.turn).toNat 0 < 3) then (ok47 (Pos.mk z1.variant z1.board z1.promoted z1.pockets (wr .u8 (1 - a.turn)) z1.rooks (N121 a z1 b) z1.checks (N122 a.half) (N122 a.full)) (wr .u8 (1 - a.turn))&&(bif N47 (Pos.mk z1.variant z1.board z1.promoted z1.pockets (wr .u8 (1 - a.turn)) z1.rooks (N121 a z1 b) z1.checks (N122 a.half) (N122 a.full)) (wr .u8 (1 - a.turn)) then (decide (0≤a.turn)&&decide (a.turn < Int.ofNat 2)&&(decide (0≤a.turn)&&decide (a.turn < Int.ofNat 2)&&true)) else true)) else true)) else true) else (bif z1.variant==5 then (decide (0≤a.turn)&&decide (a.turn < Int.ofNat 2)&&(bif decide (z1.checks.getD (scale 1 a.turn).toNat 0 < 3) then (ok47 (Pos.mk z1.variant z1.board z1.promoted z1.pockets (wr .u8 (1 - a.turn)) z1.rooks (N121 a z1 b) z1.checks (N122 a.half) z1.full) (wr .u8 (1 - a.turn))&&(bif N47 (Pos.mk z1.variant z1.board z1.promoted z1.pockets (wr .u8 (1 - a.turn)) z1.rooks (N121 a z1 b) z1.checks (N122 a.half) z1.full) (wr .u8 (1 - a.turn)) then (decide (0≤a.turn)&&decide (a.turn < Int.ofNat 2)&&(decide (0≤a.turn)&&decide (a.turn < Int.ofNat 2)&&true)) else true)) else true)) else true))); (ok79 (a) (b)&&(ok116 (a) (b) (N79 a b)&&(ok117 (a) (N116 a b (N79 a b)) (b) (N79 a b)&&(bif a.variant==3 then (bif decide (N79 a b ≥ 0) then (ok118 (N117 a (N116 a b (N79 a b)) b (N79 a b)) (wr .i64 b.to)&&(z8.isSome&&(ok120 (a) ((z8.getD default).snd.snd) (b) (N79 a b)&&(ok121 (a) z1 (b)&&(bif b.drp==1 then z5 else (bif b.drp==0 then (decide (0≤b.frm)&&decide (b.frm < Int.ofNat 64)&&(bif N106 (a.board.getD (scale 1 b.frm).toNat 0)==1 then z5 else z6)) else z6)))))) else z7) else z7))))
theorem P58 (a:Pos) (b:Mv) (h:ok58 a b=true):PS Pz 58 [Pos.av a,Mv.av b] (dPos.res (N58 a b)):=ps_sum (n:=14) hB58 (by kernel_rfl) (by kernel_rfl) (by kernel_rfl) h
noncomputable def G58:List AV→Tr AV:=g2 dPos dMv (fun a b=>gdv (ok58 a b) (dPos.res (N58 a b)))
theorem s58:Sound Pz 58 G58:=sound2 fun a b=>at_gd (P58 a b)
end Kz
end
section
namespace Kz
open Go Go.RowKit
set_option maxRecDepth 100000
set_option maxHeartbeats 2000000
set_option linter.unusedSectionVars false
theorem turn_nat {p:Pos} (hp:PosIn p) (ht:p.turn≤1):∃ t:Nat,p.turn=t∧t≤1:=by
  have t0:=hp.t0
  obtain ⟨t,h⟩:=Int.eq_ofNat_of_zero_le t0
  exact ⟨t,h,by omega⟩
theorem n140 {t:Nat} (ht:t≤1):N140 (t:Int)=((56 * t:Nat):Int):=by
  rw [N140_eq (by omega) (by omega)]; omega
theorem N179_home {p:Pos} (hp:PosIn p) {t:Nat} (hpt:p.turn=t) (ht:t≤1) {b c:Int}:(N179 p b c).2=true→∃ f:Nat,f≤7∧(N179 p b c).1=((56 * t+f:Nat):Int)∧((56 * t+f:Nat):Int)≠b:=by
  have hr:=getD_in (d:=0) hp.r0 (by omega) (scale 2 p.turn+scale 1 c).toNat
  unfold N179
  rw [hpt] at hr ⊢
  rw [n140 ht]
  generalize p.rooks.getD (scale 2 (t:Int)+scale 1 c).toNat 0=f at hr ⊢
  rw [wi64 (n:=f) (by omega) (by omega),wi64 (n:=((56 * t:Nat):Int)+f) (by omega) (by omega)]
  refine c_ind (P:=fun x:Int×Bool=>x.2=true→∃ f:Nat,f≤7∧x.1=((56 * t+f:Nat):Int)∧((56 * t+f:Nat):Int)≠b) (fun _ h=>by cases h) fun h1=>c_ind (P:=fun x:Int×Bool=>x.2=true→∃ f:Nat,f≤7∧x.1=((56 * t+f:Nat):Int)∧((56 * t+f:Nat):Int)≠b) (fun _ h=>by cases h) fun h2=>c_ind (P:=fun x:Int×Bool=>x.2=true→∃ f:Nat,f≤7∧x.1=((56 * t+f:Nat):Int)∧((56 * t+f:Nat):Int)≠b) (fun _ => ?_) fun _ h=>by cases h
  have h1:¬ f < 0:=by simpa using h1
  have h2:¬ f > 7:=by simpa using h2
  refine c_ind (P:=fun x:Int×Bool=>x.2=true→∃ f:Nat,f≤7∧x.1=((56 * t+f:Nat):Int)∧((56 * t+f:Nat):Int)≠b) (fun _ h => ?_) fun _ h=>by cases h
  have h:(((56 * t:Nat):Int)+f != b)=true:=h
  rw [bne_iff_ne] at h
  exact ⟨f.toNat,by omega,by show ((56 * t:Nat):Int)+f=_; omega,by omega⟩
theorem castle_home {p:Pos} (hp:PosIn p) {t:Nat} (hpt:p.turn=t) (ht:t≤1) {m:Mv} (h:m ∈ N86 p):∃ k r:Nat,m.frm=k∧m.to=r∧56 * t≤k∧k≤56 * t+7∧56 * t≤r∧r≤56 * t+7∧k≠r:=by
  revert h
  unfold N86
  have hk:=N99_lo p p.turn 6
  have ht1:p.turn≤1:=by omega
  refine c_ind (P:=fun l:List Mv=>m ∈ l→_) (fun _ h=>by cases h) fun _ => ?_
  refine c_ind (P:=fun l:List Mv=>m ∈ l→_) (fun _ h=>by cases h) fun _=>c_ind (P:=fun l:List Mv=>m ∈ l→_) (fun _ h=>by cases h) fun hk0=>c_ind (P:=fun l:List Mv=>m ∈ l→_) (fun _ h=>by cases h) fun hh => ?_
  have hk0:0≤N99 p p.turn 6:=by simpa using hk0
  rw [hpt,n140 ht] at hh
  rw [← hpt] at hh
  obtain ⟨k,hk'⟩:=Int.eq_ofNat_of_zero_le hk0
  rw [hk',Int.tdiv_eq_ediv_of_nonneg (by omega),Int.tdiv_eq_ediv_of_nonneg (by omega),wi64 (by omega) (by omega),wi64 (by omega) (by omega),bne_eq_false_iff_eq] at hh
  have key:∀ c,(N141 p (N99 p p.turn 6) c).2=true→m=(N141 p (N99 p p.turn 6) c).1→∃ k r:Nat,m.frm=k∧m.to=r∧56 * t≤k∧k≤56 * t+7∧56 * t≤r∧r≤56 * t+7∧k≠r:=by
    intro c h1 h2
    obtain ⟨a1,_,_,_,_,_,a7,a8⟩:=N141_mem hp ht1 hk0 hk.2 h1
    obtain ⟨f,f7,e1,e2⟩:=N179_home hp hpt ht a8
    rw [← h2] at a1 a7
    rw [a7,e1]
    exact ⟨k,56 * t+f,by rw [a1,hk'],rfl,by omega,by omega,by omega,by omega,by omega⟩
  refine c_ind (P:=fun l:List Mv=>m ∈ l→_) (fun h1=>c_ind (P:=fun l:List Mv=>m ∈ l→_) (fun h2 h => ?_) fun _ h => ?_) fun _=>c_ind (P:=fun l:List Mv=>m ∈ l→_) (fun h2 h => ?_) fun _ h=>by cases h
  · simp only [List.nil_append,List.mem_append,List.mem_singleton] at h
    rcases h with h | h
    · exact key _ h1 h
    · exact key _ h2 h
  · simp only [List.nil_append,List.mem_singleton] at h
    exact key _ h1 h
  · simp only [List.nil_append,List.mem_singleton] at h
    exact key _ h2 h
theorem goals_eq {p:Pos} {t:Nat} (hpt:p.turn=t) (ht:t≤1) {m:Mv} (hc:m.cas=true) {k r:Nat} (hk:m.frm=k) (hr:m.to=r) (k0:56 * t≤k) (k7:k≤56 * t+7) (r0:56 * t≤r) (r7:r≤56 * t+7) (hkr:k≠r) :
    (N91 p m).1=wr .i64 (wr .i64 (56 * wr .i64 p.turn)+(N165 (N164 p m)).1)∧(N91 p m).2.1=wr .i64 (wr .i64 (56 * wr .i64 p.turn)+(N165 (N164 p m)).2)∧0≤(N91 p m).1∧(N91 p m).1 < 64∧0≤(N91 p m).2.1∧(N91 p m).2.1 < 64:=by
  have tw:wr .i64 (t:Int)=t:=wi64 (by omega) (by omega)
  have hb:=N91_in (p:=p) (by omega) (by omega) m
  have e145:N145 p m=if r > k then 0 else 1:=by
    unfold N145
    rw [hpt,hc,hk,hr,n140 ht,wi64 (n:=(k:Int)) (by omega) (by omega),wi64 (n:=(r:Int)) (by omega) (by omega),wi64 (n:=(k:Int) - ((56 * t:Nat):Int)) (by omega) (by omega),wi64 (n:=(r:Int) - ((56 * t:Nat):Int)) (by omega) (by omega),
      decide_eq_false (show ¬ ((t:Int) > 1) by omega),beq_eq_false_iff_ne.2 (show (k:Int)≠r by omega),decide_eq_false (show ¬ ((k:Int) - ((56 * t:Nat):Int) < 0) by omega),decide_eq_false (show ¬ ((k:Int) - ((56 * t:Nat):Int) > 7) by omega),decide_eq_false (show ¬ ((r:Int) - ((56 * t:Nat):Int) < 0) by omega),decide_eq_false (show ¬ ((r:Int) - ((56 * t:Nat):Int) > 7) by omega)]
    by_cases h:r > k
    · rw [if_pos h,decide_eq_true (show (r:Int) > k by omega)]; rfl
    · rw [if_neg h,decide_eq_false (show ¬ (r:Int) > k by omega)]; rfl
  have e164:N164 p m=if r > k then 0 else 1:=by
    have d1:(wr .i8 ((k:Int).tdiv 8) != wr .i8 (wr .u8 (7 * (t:Int))))=false:=by
      rw [Int.tdiv_eq_ediv_of_nonneg (by omega),wi8 (by omega) (by omega),wu8 (by omega) (by omega),wi8 (by omega) (by omega),bne_eq_false_iff_eq]
      omega
    have d2:(wr .i8 ((r:Int).tdiv 8) != wr .i8 (wr .u8 (7 * (t:Int))))=false:=by
      rw [Int.tdiv_eq_ediv_of_nonneg (by omega),wi8 (by omega) (by omega),wu8 (by omega) (by omega),wi8 (by omega) (by omega),bne_eq_false_iff_eq]
      omega
    unfold N164
    rw [hpt,hc,hk,hr,d1,d2,decide_eq_false (show ¬ ((t:Int) > 1) by omega),beq_eq_false_iff_ne.2 (show (k:Int)≠r by omega),decide_eq_false (show ¬ ((k:Int) < 0) by omega),decide_eq_false (show ¬ ((k:Int) > 63) by omega),decide_eq_false (show ¬ ((r:Int) < 0) by omega),decide_eq_false (show ¬ ((r:Int) > 63) by omega)]
    by_cases h:r > k
    · rw [if_pos h,decide_eq_true (show (r:Int) > k by omega)]; rfl
    · rw [if_neg h,decide_eq_false (show ¬ (r:Int) > k by omega)]; rfl
  have e':N145 ⟨p.variant,p.board,p.promoted,p.pockets,p.turn,p.rooks,p.passing,p.checks,p.half,p.full⟩ ⟨m.frm,m.to,m.pro,m.drp,m.cas⟩=N145 p m:=rfl
  have two:∀ s:Int,s=0∨s=1→N145 p m=s→(N91 p m).1=wr .i64 (wr .i64 (56 * wr .i64 p.turn)+(N165 s).1)∧(N91 p m).2.1=wr .i64 (wr .i64 (56 * wr .i64 p.turn)+(N165 s).2):=by
    intro s hs e
    unfold N91
    rw [e',e,hpt,n140 ht]
    rcases hs with rfl | rfl <;> rcases (show t=0∨t=1 by omega) with rfl | rfl <;> exact ⟨by decide,by decide⟩
  obtain ⟨h1,h2⟩:=two (if r > k then 0 else 1) (by split <;> simp) e145
  rw [e164]
  exact ⟨h1,h2,hb⟩
theorem make_eq {t:Nat} (ht:t≤1) {k:Int} (k1:1≤k) (k6:k≤6):N93 (t:Int) k=wr .u8 (wr .u8 (8 * (t:Int))+k):=by
  unfold N93
  rw [decide_eq_false (show ¬ ((t:Int) > 1) by omega),decide_eq_false (show ¬ (k < 1) by omega),decide_eq_false (show ¬ (k > 6) by omega)]
  rfl
theorem drop_pocket {p:Pos} (hp:PosIn p) {m:Mv} (h:m ∈ N87 p):(p.pockets.getD (scale 6 p.turn+scale 1 m.drp).toNat 0==0)=false∧p.variant=2:=by
  rw [N87_eq hp.t0] at h
  revert h
  refine c_ind (P:=fun l:List Mv=>m ∈ l→_) (fun _ h=>by cases h) fun _=>c_ind (P:=fun l:List Mv=>m ∈ l→_) (fun _ h=>by cases h) fun hv h => ?_
  obtain ⟨k,_,h⟩:=List.mem_flatMap.1 h
  have v2:p.variant=2:=by
    have v0:=hp.v0
    have v1:=hp.v1
    obtain ⟨n,hn⟩:=Int.eq_ofNat_of_zero_le v0
    have:∀ v:Fin 256,N142 v.val=true→v.val=2:=by decide +kernel
    have hv:N142 p.variant=true:=by simpa using hv
    rw [hn] at hv
    have:=this ⟨n,by omega⟩ hv
    simp only at this
    omega
  refine ⟨?_,v2⟩
  have hd:m.drp=k:=by
    revert h
    unfold drops
    refine c_ind (P:=fun l:List Mv=>m ∈ l→_) (fun _ h=>by cases h) fun _=>c_ind (P:=fun l:List Mv=>m ∈ l→_) (fun _ h => ?_) fun _ h => ?_
    · obtain ⟨s,_,h⟩:=List.mem_flatMap.1 h; simp at h; rw [h]
    · obtain ⟨s,_,h⟩:=List.mem_flatMap.1 h; simp at h; rw [h]
  rw [hd]
  unfold drops at h
  cases hc:p.pockets.getD (scale 6 p.turn+scale 1 k).toNat 0==0 with
  | false=>rfl
  | true=>rw [hc] at h; cases h
theorem men_eq {p:Pos} (hp:PosIn p) {m:Mv} (hm:m ∈ N38 p):ok116 p m (N39 p m)=true∧N116 p m (N39 p m)=vF17_1 p m p p m (N39 p m):=by
  obtain ⟨hth,f0,f1,o0,o1,_,_,pr0,pr6⟩:=N38_mem hp hm
  obtain ⟨t,hpt,ht⟩:=turn_nat hp hth.1
  have ht39:=N39_in hp m
  have if1:=ix64 f0 f1
  have it1:=ix64 o0 o1
  rw [N38_eq] at hm
  have body:m.drp=0→m.cas=false→ok116 p m (N39 p m)=true∧N116 p m (N39 p m)=vF17_1 p m p p m (N39 p m):=by
    intro hd hc
    have e93:(m.pro != 0)=true→wr .u8 (wr .u8 (8 * p.turn)+m.pro)=N93 p.turn m.pro:=fun h=>by
      rw [bne_iff_ne] at h
      rw [hpt,make_eq ht (by omega) pr6]
    unfold ok116 N116 vF17_1
    rw [hc,hd,if1,it1]
    simp only [cond_false,Bool.true_and,show ((0:Int) != 0)=false from rfl]
    constructor
    · refine c_true (fun h => ?_) fun _ => ?_
      · have h:N39 p m ≥ 0:=by simpa using h
        rw [ix64 h ht39.2]
        simp only [Bool.true_and]
        exact c_true (fun _=>rfl) fun _=>rfl
      · exact c_true (fun _=>rfl) fun _=>rfl
    · cases hp0:m.pro != 0 with
      | false=>rfl
      | true=>rw [e93 hp0]
  rcases List.mem_append.1 hm with hm | hm
  · rcases List.mem_append.1 hm with hm | hm
    · obtain ⟨_,f,g,_,_,_,_,hd,hc,_⟩:=N85_mem hp.v0 hm
      exact body hd hc
    · obtain ⟨_,_,_,_,_,hc,hd,_⟩:=N86_mem hp hm
      obtain ⟨k,r,hk,hr,k0,k7,r0,r7,hkr⟩:=castle_home hp hpt ht hm
      obtain ⟨g1,g2,g3,g4,g5,g6⟩:=goals_eq hpt ht hc hk hr k0 k7 r0 r7 hkr
      unfold ok116 N116 vF17_1
      rw [hc,if1,it1,← g1,← g2,ix64 g3 g4,ix64 g5 g6]
      exact ⟨rfl,rfl⟩
  · obtain ⟨_,_,_,_,_,hc,d1,d5,_⟩:=N87_mem hp.t0 hm
    obtain ⟨pk,_⟩:=drop_pocket hp hm
    have e147:N147 p.turn m.drp=true:=by
      unfold N147
      rw [decide_eq_true (show p.turn≤1 by omega),decide_eq_true (show m.drp ≥ 1 by omega),decide_eq_true (show m.drp≤5 by omega)]
      rfl
    have e92:N92 p p.turn m.drp=(⟨p.variant,p.board,p.promoted,p.pockets.set (scale 6 p.turn+scale 1 m.drp).toNat (wr .u8 (p.pockets.getD (scale 6 p.turn+scale 1 m.drp).toNat 0 - 1)),p.turn,p.rooks,p.passing,p.checks,p.half,p.full⟩,true):=by
      unfold N92
      rw [e147,pk]
      rfl
    have hd:(m.drp != 0)=true:=by rw [bne_iff_ne]; omega
    have i2:(decide (0≤p.turn)&&decide (p.turn < Int.ofNat 2))=true:=by simp; omega
    have i6:(decide (0≤m.drp)&&decide (m.drp < Int.ofNat 6))=true:=by simp; omega
    unfold ok116 N116 vF17_1
    rw [hc,if1,it1,hd,e92,i2,i6]
    refine ⟨rfl,?_⟩
    simp only [cond_false,cond_true]
    rw [hpt,make_eq ht (by omega) (by omega)]
end Kz
end
section
namespace Kz
open Go Go.RowKit
set_option maxRecDepth 100000
set_option maxHeartbeats 4000000
set_option linter.unusedSectionVars false
theorem bits_loop {R:Type} {ok:BitVec 64×Int→Bool} {st:BitVec 64×Int→Stp (BitVec 64×Int) R} (P:Nat→Bool) (fin:R→BitVec 64)
    (h1:∀ (o:BitVec 64) (n:Nat),n < 64→ok (o,n)=true∧st (o,n)=.go ((bif P n then o|||1#64 <<< n else o),(n:Int)+1)) (h2:∀ o,ok (o,64)=true∧∃ r,st (o,64)=.out r∧fin r=o) :
    ∃ r,itl (fun x=>bif ok x then st x else .bad) many (0#64,0)=some r∧∀ i,i < 64→(fin r).getLsbD i=P i:=by
  refine lp_many (Q:=fun r => ∀ i,i < 64→(fin r).getLsbD i=P i) (I:=fun x => ∃ n:Nat,n≤64∧x.2=(n:Int)∧∀ i,i < 64→x.1.getLsbD i=(decide (i < n)&&P i)) (μ:=fun x=>(64 - x.2).toNat) ?_ _ ⟨0,by omega,rfl,fun i hi=>by simp⟩ (by simp)
  rintro ⟨o,m⟩ ⟨n,hn,hm,h⟩
  simp only at hm h
  subst hm
  by_cases hc:n < 64
  · obtain ⟨k1,k2⟩:=h1 o n hc
    refine ⟨k1,?_⟩
    rw [k2]
    refine ⟨⟨n+1,by omega,by simp,fun i hi => ?_⟩,by dsimp only; omega⟩
    show (bif P n then o|||1#64 <<< n else o).getLsbD i=_
    cases hp:P n with
    | true =>
      rw [cond_true,BitVec.getLsbD_or,h i hi,one_bit hi]
      by_cases e:i=n
      · subst e; rw [hp]; simp
      · rw [show decide (i < n+1)=decide (i < n) by rw [decide_eq_decide]; omega]
        simp [e]
    | false =>
      rw [cond_false,h i hi]
      by_cases e:i=n
      · subst e; rw [hp]; simp
      · rw [show decide (i < n+1)=decide (i < n) by rw [decide_eq_decide]; omega]
  · have:n=64:=by omega
    subst this
    obtain ⟨k1,r,k2,k3⟩:=h2 o
    refine ⟨k1,?_⟩
    rw [show ((o,((64:Nat):Int)):BitVec 64×Int)=(o,64) from rfl,k2]
    intro i hi
    rw [k3,h i hi]
    simp [hi]
theorem beq_dec (a b:Int):(a==b)=decide (a=b):=rfl
theorem N119_bit (x:BitVec 64) {n:Int} (h0:0≤n) (h1:n < 64):N119 x n=x.getLsbD n.toNat:=by
  unfold N119
  rw [ofInt_nat h0 (by omega),bit_test _ (by omega)]
section
variable {p q:Pos} (hp:PosIn p) {m:Mv}
include hp
theorem lp117 (q':Pos) {d:Int} (f0:0≤m.frm) (f1:m.frm < 64):∃ r,lp117_1 d p q' m (0#64,0)=some r∧∀ i:Nat,i < 64→r.1.getLsbD i=(p.promoted.getLsbD i&&((i:Int) != d&&(i:Int) != m.frm)):=by
  refine bits_loop (fin:=fun r:BitVec 64×Int×Bool=>r.1) (fun i=>p.promoted.getLsbD i&&((i:Int) != d&&(i:Int) != m.frm)) (fun o n hn=>⟨rfl,?_⟩) fun o=>⟨rfl,_,rfl,rfl⟩
  unfold st117_1
  dsimp only
  rw [decide_eq_true (show (n:Int) < 64 by omega),N119_bit _ (by omega) (by omega),Int.toNat_natCast,wi64 (n:=(n:Int)+1) (by omega) (by omega),wi64 (n:=m.frm) (by omega) (by omega),ofInt_nat (by omega) (by omega),Int.toNat_natCast]
  cases p.promoted.getLsbD n <;> cases ((n:Int) != d) <;> cases ((n:Int) != m.frm) <;> rfl
theorem marks_eq (q':Pos) {d:Int} (d0 : -1≤d) (d1:d < 64) (f0:0≤m.frm) (f1:m.frm < 64):(lp117_1 d p q' m (0#64,0)).isSome=true∧((lp117_1 d p q' m (0#64,0)).getD default).1=bif decide (d ≥ 0) then p.promoted &&& ~~~(1#64 <<< (BitVec.ofInt 64 d).toNat) &&& ~~~(1#64 <<< (BitVec.ofInt 64 m.frm).toNat) else p.promoted &&& ~~~(1#64 <<< (BitVec.ofInt 64 m.frm).toNat):=by
  obtain ⟨h1,h2⟩:=of_some (lp117 hp q' (d:=d) f0 f1)
  refine ⟨h1,BitVec.eq_of_getLsbD_eq fun i hi => ?_⟩
  rw [h2 i hi]
  have ef:(i:Int)=m.frm ↔ i=m.frm.toNat:=by omega
  by_cases hd:d ≥ 0
  · have ed:(i:Int)=d ↔ i=d.toNat:=by omega
    rw [decide_eq_true hd,cond_true,BitVec.getLsbD_and,BitVec.getLsbD_and,BitVec.getLsbD_not,BitVec.getLsbD_not,ofInt_nat hd (by omega),ofInt_nat f0 (by omega),one_bit hi,one_bit hi]
    simp only [bne,beq_dec,ed,ef,hi,decide_true,Bool.true_and,Bool.and_assoc]
  · have ed:((i:Int) != d)=true:=by rw [bne_iff_ne]; omega
    rw [decide_eq_false hd,cond_false,BitVec.getLsbD_and,BitVec.getLsbD_not,ofInt_nat f0 (by omega),one_bit hi,ed]
    simp only [bne,beq_dec,ef,hi,decide_true,Bool.true_and]
theorem pocket_eq (hk:Kin p q) (hpr:q.promoted=p.promoted) (hm:m ∈ N38 p):ok117 p q m (N39 p m)=true∧N117 p q m (N39 p m)=vF17_2 p m q p m (N39 p m):=by
  obtain ⟨hth,f0,f1,o0,o1,_,_,pr0,pr6⟩:=N38_mem hp hm
  obtain ⟨t,hpt,ht⟩:=turn_nat hp hth.1
  have ht39:=N39_in hp m
  have hqt:q.turn=p.turn:=hk.t
  have hmk:=fun q':Pos=>marks_eq (m:=m) hp q' ht39.1 ht39.2 f0 f1
  by_cases hv:p.variant=2
  · have hv2:(q.variant != 2)=false:=by rw [hk.v,hv]; rfl
    have hv1:(p.variant != 2)=false:=by rw [hv]; rfl
    cases hd:m.drp != 0 with
    | true=>unfold ok117 N117 vF17_2; rw [hv2,hv1,hd]; exact ⟨rfl,rfl⟩
    | false =>
      cases hc:m.cas with
      | true =>
        have hm':m ∈ N86 p:=by
          rw [N38_eq] at hm
          rcases List.mem_append.1 hm with hm | hm
          · rcases List.mem_append.1 hm with hm | hm
            · obtain ⟨_,_,_,_,_,_,_,_,h,_⟩:=N85_mem hp.v0 hm; rw [h] at hc; cases hc
            · exact hm
          · obtain ⟨_,_,_,_,_,h,_⟩:=N87_mem hp.t0 hm; rw [h] at hc; cases hc
        obtain ⟨k,r,hk',hr,k0,k7,r0,r7,hkr⟩:=castle_home hp hpt ht hm'
        obtain ⟨g1,g2,g3,g4,g5,g6⟩:=goals_eq hpt ht hc hk' hr k0 k7 r0 r7 hkr
        unfold ok117 N117 vF17_2
        rw [hv2,hv1,hd,hc,← g2,← hpr]
        refine ⟨rfl,?_⟩
        simp only [cond_false,cond_true]
        unfold N119
        rw [wi64 (n:=m.to) (by omega) (by omega)]
      | false =>
        have i2:decide (0≤p.turn)=true:=decide_eq_true hp.t0
        have i3:decide (p.turn < Int.ofNat 2)=true:=decide_eq_true (by show p.turn < 2; omega)
        have n119:∀ x:Int,N119 p.promoted x=(p.promoted >>> (BitVec.ofInt 64 x).toNat&&&1#64==1#64):=fun x=>rfl
        by_cases hd0:N39 p m ≥ 0
        · have dt:decide (N39 p m ≥ 0)=true:=decide_eq_true hd0
          have hbi:=bd_in hp (scale 1 (N39 p m)).toNat
          obtain ⟨e89,_,_,_,_⟩:=men' hbi.1 hbi.2
          have i64:decide (0≤N39 p m)=true:=decide_eq_true hd0
          have i65:decide (N39 p m < Int.ofNat 64)=true:=decide_eq_true ht39.2
          have hadd:∀ k:Int,N95 q q.turn k=bif decide (k ≥ 1) then (bif decide (k≤5) then (bif decide (q.pockets.getD (scale 6 q.turn+scale 1 k).toNat 0 < 255) then ⟨q.variant,q.board,q.promoted,q.pockets.set (scale 6 q.turn+scale 1 k).toNat (wr .u8 (q.pockets.getD (scale 6 q.turn+scale 1 k).toNat 0+1)),q.turn,q.rooks,q.passing,q.checks,q.half,q.full⟩ else q) else q) else q:=fun k=>by
            unfold N95 N147
            rw [decide_eq_true (show q.turn≤1 by rw [hqt]; omega)]
            cases decide (k ≥ 1) <;> cases decide (k≤5) <;> cases decide (q.pockets.getD (scale 6 q.turn+scale 1 k).toNat 0 < 255) <;> rfl
          have ik:∀ k:Int,decide (k ≥ 1)=true→decide (k≤5)=true→decide (0≤k)=true∧decide (k < Int.ofNat 6)=true:=fun k h1 h2=>by
            simp only [decide_eq_true_eq] at h1 h2 ⊢
            exact ⟨by omega,by show k < 6; omega⟩
          have mk:=fun q':Pos=>(hmk q').2
          simp only [dt,cond_true] at mk
          have m1:=fun q':Pos=>(hmk q').1
          have key:∀ (k:Int) (c1 c2:Bool),True:=fun _ _ _=>trivial
          rw [← hqt] at i2 i3
          unfold ok117 N117 vF17_2
          rw [hv2,hv1,hd,hc,dt]
          simp only [← hqt,e89,cond_false,cond_true,mk,m1,hadd,n119,i2,i3,i64,i65,wi64 (n:=m.frm) (by omega) (by omega),Bool.true_and,Bool.and_true,show decide ((1:Int) ≥ 1)=true from rfl,show decide ((1:Int)≤5)=true from rfl,show Int.ofNat 1=(1:Int) from rfl]
          constructor
          · generalize N106 (p.board.getD (scale 1 (N39 p m)).toNat 0)=k
            have go:decide (k ≥ 1)=true→decide (k≤5)=true→(decide (0≤k)&&decide (k < Int.ofNat 6))=true:=fun h1 h2=>by
              simp only [decide_eq_true_eq,Bool.and_eq_true] at h1 h2 ⊢
              exact ⟨by omega,by show k < 6; omega⟩
            have fin:decide (k ≥ 1)=true→decide (k≤5)=true→∀ c:Bool,(decide (0≤k)&&decide (k < Int.ofNat 6)&&bif c then decide (0≤k)&&decide (k < Int.ofNat 6)&&(decide (0≤k)&&decide (k < Int.ofNat 6)) else true)=true:=fun h1 h2 c=>by
              rw [go h1 h2]
              cases c <;> rfl
            refine c_true (fun _=>c_true (fun _=>c_true (fun _=>rfl) fun _=>rfl) fun _ => ?_) fun _ => ?_
            · exact c_true (fun a1=>c_true (fun a2=>fin a1 a2 _) fun _=>rfl) fun _=>rfl
            · exact c_true (fun a1=>c_true (fun a2=>fin a1 a2 _) fun _=>rfl) fun _=>rfl
          · generalize (p.promoted >>> (BitVec.ofInt 64 (N39 p m)).toNat&&&1#64==1#64)=c1
            generalize (p.board.getD (scale 1 (N39 p m)).toNat 0 != 0)=c2
            generalize (m.pro != 0)=c3
            generalize (p.promoted >>> (BitVec.ofInt 64 m.frm).toNat&&&1#64==1#64)=c4
            generalize N106 (p.board.getD (scale 1 (N39 p m)).toNat 0)=k
            rw [← hpr]
            cases c1 <;> cases c2 <;> cases c3 <;> cases c4 <;> cases decide (k ≥ 1) <;> cases decide (k≤5) <;> cases decide (q.pockets.getD (scale 6 q.turn+scale 1 k).toNat 0 < 255) <;> cases decide (q.pockets.getD (scale 6 q.turn+scale 1 1).toNat 0 < 255) <;> rfl
        · have dt:decide (N39 p m ≥ 0)=false:=decide_eq_false hd0
          have mk:=fun q':Pos=>(hmk q').2
          simp only [dt,cond_false] at mk
          have m1:=fun q':Pos=>(hmk q').1
          unfold ok117 N117 vF17_2
          rw [hv2,hv1,hd,hc,dt]
          simp only [cond_false,mk,m1,n119,wi64 (n:=m.frm) (by omega) (by omega)]
          refine ⟨rfl,?_⟩
          rw [← hpr]
  · have hv2:(q.variant != 2)=true:=by rw [bne_iff_ne,hk.v]; exact hv
    have hv1:(p.variant != 2)=true:=by rw [bne_iff_ne]; exact hv
    unfold ok117 N117 vF17_2
    rw [hv2,hv1]
    exact ⟨rfl,rfl⟩
end
theorem beside_fin:∀ a b:Fin 64,N158 a.val b.val=(N149 b.val).getLsbD a.val∧N158 a.val a.val=false:=by decide +kernel
theorem blown_fin:∀ v:Fin 256,(N144 v.val&&!tOf 0 1 v.val&&!tOf 1 1 v.val)=(N106 v.val != 0&&N106 v.val != 1):=by decide +kernel
theorem N118_eq {q:Pos} (hq:PosIn q) {b:Int} (b0:0≤b) (b1:b < 64):ok118 q b=true∧N118 q b=N97 q b:=by
  obtain ⟨n,rfl⟩:=Int.eq_ofNat_of_zero_le b0
  have hn:n < 64:=by omega
  have hl:∃ r,lp118_1 (n:Int) q (0#64,0)=some r∧∀ i:Nat,i < 64→r.1.getLsbD i=(decide (i=n) || (N158 i n&&(N106 (q.board.getD i 0) != 0&&N106 (q.board.getD i 0) != 1))):=by
    refine bits_loop (fin:=fun r:BitVec 64×Int×Bool=>r.1) (fun i=>decide (i=n) || (N158 i n&&(N106 (q.board.getD i 0) != 0&&N106 (q.board.getD i 0) != 1))) (fun o i hi => ?_) fun o=>⟨rfl,_,rfl,rfl⟩
    unfold okL118_1 st118_1
    dsimp only
    rw [decide_eq_true (show (i:Int) < 64 by omega),decide_eq_true (show (n:Int) ≥ 0 by omega),decide_eq_true (show (n:Int) < 64 by omega),decide_eq_true (show (0:Int)≤i by omega),show ((i:Int)==n)=decide (i=n) by rw [beq_dec,decide_eq_decide]; omega,scale1,Int.toNat_natCast,wi64 (n:=(i:Int)+1) (by omega) (by omega),ofInt_nat (by omega) (by omega),Int.toNat_natCast]
    refine ⟨rfl,?_⟩
    cases decide (i=n) <;> cases N158 i n <;> cases (N106 (q.board.getD i 0) != 0) <;> cases (N106 (q.board.getD i 0) != 1) <;> rfl
  obtain ⟨h1,h2⟩:=of_some hl
  refine ⟨a_true h1 fun _=>rfl,BitVec.eq_of_getLsbD_eq fun i hi => ?_⟩
  have e1:(N118 q n).getLsbD i=(decide (i=n) || (N158 i n&&(N106 (q.board.getD i 0) != 0&&N106 (q.board.getD i 0) != 1))):=h2 i hi
  rw [e1]
  unfold N97
  rw [decide_eq_false (show ¬ ((n:Int) < 0) by omega),decide_eq_false (show ¬ ((n:Int) ≥ 64) by omega)]
  simp only [cond_false,BitVec.getLsbD_or,BitVec.getLsbD_and,BitVec.getLsbD_not,hi,decide_true,Bool.true_and]
  rw [show (⟨q.variant,q.board,q.promoted,q.pockets,q.turn,q.rooks,q.passing,q.checks,q.half,q.full⟩:Pos)=q from rfl,N143_bit _ hi,N101_bit _ _ _ hi,N101_bit _ _ _ hi,ofInt_nat (by omega) (by omega),Int.toNat_natCast,one_bit hi,show wr .u8 (0+1)=1 from rfl]
  have hb:=getD_in (d:=0) hq.b0 (by omega) i
  obtain ⟨v,hv⟩:=Int.eq_ofNat_of_zero_le hb.1
  have k1:=blown_fin ⟨v,by omega⟩
  have k2:=(beside_fin ⟨i,hi⟩ ⟨n,hn⟩).1
  simp only at k1 k2
  rw [← hv] at k1
  rw [← k1,k2]
  cases decide (i=n) <;> cases (N149 (n:Int)).getLsbD i <;> cases N144 (q.board.getD i 0) <;> cases tOf 0 1 (q.board.getD i 0) <;> cases tOf 1 1 (q.board.getD i 0) <;> rfl
def wb (q:Pos) (B:List Int):Pos:=⟨q.variant,B,q.promoted,q.pockets,q.turn,q.rooks,q.passing,q.checks,q.half,q.full⟩
theorem list_ext {A B:List Int} {n:Nat} (ha:A.length=n) (hb:B.length=n) (h:∀ i,i < n→A.getD i 0=B.getD i 0):A=B:=by
  refine List.ext_getElem (by omega) fun i h1 h2 => ?_
  have:=h i (by omega)
  rw [List.getD_eq_getElem?_getD,List.getD_eq_getElem?_getD,List.getElem?_eq_getElem h1,List.getElem?_eq_getElem h2] at this
  exact this
theorem lp58 {q:Pos} (hq:PosIn q) (d:Int) (bits:BitVec 64) (p:Pos) (m:Mv):∃ r,lp58_1 d bits p m (0,q)=some r∧∃ B,r.2.2=wb q B∧B.length=64∧∀ i,i < 64→B.getD i 0=bif bits.getLsbD i then 0 else q.board.getD i 0:=by
  refine lp_many (Q:=fun r:Int×Bool×Pos => ∃ B,r.2.2=wb q B∧B.length=64∧∀ i,i < 64→B.getD i 0=bif bits.getLsbD i then 0 else q.board.getD i 0) (I:=fun x:Int×Pos => ∃ n:Nat,n≤64∧x.1=n∧∃ B,x.2=wb q B∧B.length=64∧∀ i,i < 64→B.getD i 0=bif decide (i < n)&&bits.getLsbD i then 0 else q.board.getD i 0) (μ:=fun x=>(64 - x.1).toNat) ?_ _ ⟨0,by omega,rfl,q.board,rfl,hq.bl,fun i hi=>by simp⟩ (by simp)
  rintro ⟨x,q'⟩ ⟨n,hn,hx,B,hB,hl,h⟩
  simp only at hx hB
  subst hx hB
  unfold okL58_1 st58_1
  dsimp only
  by_cases hc:n < 64
  · rw [decide_eq_true (show (n:Int) < 64 by omega),N119_bit _ (by omega) (by omega),Int.toNat_natCast,wi64 (n:=(n:Int)+1) (by omega) (by omega),scale1,Int.toNat_natCast,decide_eq_true (show (0:Int)≤n by omega)]
    have e64:decide ((n:Int) < Int.ofNat 64)=true:=decide_eq_true (by show (n:Int) < 64; omega)
    rw [e64]
    cases hb:bits.getLsbD n with
    | true =>
      refine ⟨rfl,⟨n+1,by omega,by simp,B.set n 0,rfl,by simp [hl],fun i hi => ?_⟩,by dsimp only; omega⟩
      rw [gset (by rw [hl]; exact hc)]
      by_cases e:n=i
      · subst e; rw [if_pos rfl,hb]; simp
      · rw [if_neg e,h i hi,show decide (i < n+1)=decide (i < n) by rw [decide_eq_decide]; omega]
    | false =>
      refine ⟨rfl,⟨n+1,by omega,by simp,B,rfl,hl,fun i hi => ?_⟩,by dsimp only; omega⟩
      rw [h i hi]
      by_cases e:n=i
      · subst e; rw [hb]; simp
      · rw [show decide (i < n+1)=decide (i < n) by rw [decide_eq_decide]; omega]
  · have:n=64:=by omega
    subst this
    refine ⟨rfl,B,rfl,hl,fun i hi => ?_⟩
    rw [h i hi,decide_eq_true hi,Bool.true_and]
theorem lp17c {q:Pos} (hq:PosIn q) {l:List Int} (hl0:l.length≤64) (hin:∀ s ∈ l,0≤s∧s < 64) (a b:Pos) (c d:Mv) (e:Int):∃ r,lp17_3 l (Int.ofNat l.length) a c b d e (0,q)=some r∧∃ B,r.2.2=wb q B∧B.length=64∧∀ i:Nat,i < 64→B.getD i 0=bif decide ((i:Int) ∈ l) then 0 else q.board.getD i 0:=by
  refine lp_many (Q:=fun r:Int×Bool×Pos => ∃ B,r.2.2=wb q B∧B.length=64∧∀ i:Nat,i < 64→B.getD i 0=bif decide ((i:Int) ∈ l) then 0 else q.board.getD i 0) (I:=fun x:Int×Pos => ∃ n:Nat,n≤l.length∧x.1=n∧∃ B,x.2=wb q B∧B.length=64∧∀ i:Nat,i < 64→B.getD i 0=bif decide ((i:Int) ∈ l.take n) then 0 else q.board.getD i 0) (μ:=fun x=>(l.length - x.1).toNat) ?_ _ ⟨0,by omega,rfl,q.board,rfl,hq.bl,fun i hi=>by simp⟩ (by simp; omega)
  rintro ⟨x,q'⟩ ⟨n,hn,hx,B,hB,hl,h⟩
  simp only at hx hB
  subst hx hB
  unfold okL17_3 st17_3
  dsimp only
  by_cases hc:n < l.length
  · have hs:=hin _ (getD_mem (d:=default) hc)
    have ht:l.take (n+1)=l.take n++[l.getD n default]:=by
      rw [List.take_add_one,List.getD_eq_getElem?_getD,List.getElem?_eq_getElem hc]; rfl
    rw [decide_eq_true (show (n:Int) < Int.ofNat l.length from Int.ofNat_lt.2 hc),decide_eq_true (show (0:Int)≤n by omega),Int.toNat_natCast,wi64 (n:=(n:Int)+1) (by omega) (by omega),scale1,decide_eq_true hs.1,decide_eq_true (show l.getD n default < Int.ofNat 64 from hs.2)]
    refine ⟨rfl,⟨n+1,by omega,by simp,B.set (l.getD n default).toNat 0,rfl,by simp [hl],fun i hi => ?_⟩,by dsimp only; omega⟩
    rw [gset (by rw [hl]; omega),ht]
    by_cases e:(l.getD n default).toNat=i
    · rw [if_pos e,decide_eq_true (show (i:Int) ∈ l.take n++[l.getD n default] by rw [List.mem_append,List.mem_singleton]; right; omega)]
      rfl
    · rw [if_neg e,h i hi]
      congr 1
      rw [decide_eq_decide,List.mem_append,List.mem_singleton]
      constructor
      · exact .inl
      · rintro (h | h)
        · exact h
        · omega
  · rw [decide_eq_false (show ¬ ((n:Int) < Int.ofNat l.length) from fun h=>hc (Int.ofNat_lt.1 h))]
    have:n=l.length:=by omega
    subst this
    refine ⟨rfl,B,rfl,hl,fun i hi => ?_⟩
    rw [h i hi,List.take_length]
theorem blow_eq {p q:Pos} (hk:Kin p q) {m:Mv} (o0:0≤m.to) (o1:m.to < 64) (d:Int):ok118 q (wr .i64 m.to)=true∧(lp58_1 d (N118 q (wr .i64 m.to)) p m (0,q)).isSome=true ∧
    (bif p.variant==3 then (bif decide (d ≥ 0) then ((lp58_1 d (N118 q (wr .i64 m.to)) p m (0,q)).getD default).2.2 else q) else q)=vF17_4 p m q p m d:=by
  have hq:=hk.pin
  have wt:wr .i64 m.to=m.to:=wi64 (by omega) (by omega)
  obtain ⟨k1,k2⟩:=N118_eq hq o0 o1
  obtain ⟨a1,B,a2,a3,a4⟩:=of_some (lp58 hq d (N118 q m.to) p m)
  obtain ⟨b1,C,b2,b3,b4⟩:=of_some (lp17c hq (l:=N96 (N97 q m.to)) (by rw [N96_eq]; exact sqs_len _ _) (fun s hs=>by rw [N96_eq] at hs; exact sqs_in hs) p p m m d)
  rw [wt]
  refine ⟨k1,a1,?_⟩
  unfold vF17_4
  rw [wt,a2,b2,hk.v]
  have e:B=C:=list_ext a3 b3 fun i hi=>by
    rw [a4 i hi,b4 i hi,k2]
    congr 1
    rw [N96_eq]
    cases hb:(N97 q m.to).getLsbD i with
    | true=>exact (decide_eq_true (mem_sqs.2 ⟨i,hi,hb,rfl⟩)).symm
    | false =>
      refine (decide_eq_false fun h => ?_).symm
      obtain ⟨j,_,hj,he⟩:=mem_sqs.1 h
      have:j=i:=by omega
      subst this
      rw [hb] at hj; cases hj
  rw [e]
  by_cases hv:p.variant=3
  · rw [hv]
    by_cases hd:d < 0
    · rw [decide_eq_true hd,decide_eq_false (show ¬ d ≥ 0 by omega)]; rfl
    · rw [decide_eq_false hd,decide_eq_true (show d ≥ 0 by omega)]; rfl
  · rw [beq_eq_false_iff_ne.2 hv,bne_iff_ne.2 hv]; rfl
theorem itl_same {X R:Type} {f g:X→Stp X R} (I:X→Prop) (h:∀ x,I x→f x=g x∧∀ y,f x=.go y→I y):∀ (n:Nat) (x:X),I x→itl f n x=itl g n x
  | 0,_,_=>rfl
  | n+1,x,hx=>by
    obtain ⟨h1,h2⟩:=h x hx
    rw [itl,itl,← h1]
    cases hf:f x with
    | go y=>exact itl_same I h n y (h2 y hf)
    | out r=>rfl
    | bad=>rfl
def wk (q:Pos) (R:List Int):Pos:=⟨q.variant,q.board,q.promoted,q.pockets,q.turn,R,q.passing,q.checks,q.half,q.full⟩
theorem wk_in {q:Pos} (hq:PosIn q) {R:List Int} (hl:R.length=4) (hr:∀ x ∈ R,-128≤x∧x≤127):PosIn (wk q R) :=
  ⟨hq.v0,hq.v1,hq.bl,hq.b0,hq.kl,hq.k0,hq.t0,hq.t1,hl,hr,hq.p0,hq.p1,hq.cl,hq.c0,hq.h0,hq.f0⟩
noncomputable def goneB (q:Pos) (c:Nat) (k s t:Int) (m:Mv):Bool :=
  decide (k < ((56 * c:Nat):Int)) || (decide (k > ((56 * c+7:Nat):Int)) || (!tOf c 4 (q.board.getD s.toNat 0) || (t==s || (m.drp==0&&m.frm==s))))
section
variable {q:Pos} (hq:PosIn q) {c:Nat} (hc:c≤1) {k:Int} (k0 : -1≤k) (k1:k < 64) {m:Mv} (f0 : -128≤m.frm∧m.frm≤127) (t:Int) (p:Pos)
include hq hc k0 k1 f0
theorem inner_step (R:List Int) (hl:R.length=4) (hr:∀ x ∈ R,-128≤x∧x≤127) {n:Nat} (hn:n < 2) (l:List Int) (hll:l.getD n 0=R.getD (2 * c+n) 0) (a b:Pos) (m1:Mv) :
    (bif okL17_6 (c:Int) k l a m1 b m t (n,wk q R) then st17_6 (c:Int) k l a m1 b m t (n,wk q R) else .bad)=.go ((n:Int)+1,bif (decide (0≤R.getD (2 * c+n) 0)&&decide (R.getD (2 * c+n) 0≤7))&&goneB q c k (((56 * c:Nat):Int)+R.getD (2 * c+n) 0) t m then wk q (R.set (2 * c+n) (-1)) else wk q R) ∧
    (bif okL120_2 t (c:Int) ((56 * c:Nat):Int) k p m (n,wk q R) then st120_2 t (c:Int) ((56 * c:Nat):Int) k p m (n,wk q R) else .bad)=.go ((n:Int)+1,bif (decide (0≤R.getD (2 * c+n) 0)&&decide (R.getD (2 * c+n) 0≤7))&&goneB q c k (((56 * c:Nat):Int)+R.getD (2 * c+n) 0) t m then wk q (R.set (2 * c+n) (-1)) else wk q R):=by
  have hf:=getD_in (d:=0) hr (by omega) (2 * c+n)
  have hsc:(scale 2 (c:Int)+scale 1 (n:Int)).toNat=2 * c+n:=by unfold scale; simp; omega
  have i1:decide ((0:Int)≤c)=true:=decide_eq_true (by omega)
  have i2:decide ((c:Int) < Int.ofNat 2)=true:=decide_eq_true (by show (c:Int) < 2; omega)
  have i3:decide ((0:Int)≤n)=true:=decide_eq_true (by omega)
  have i4:decide ((n:Int) < Int.ofNat 2)=true:=decide_eq_true (by show (n:Int) < 2; omega)
  have i5:decide ((n:Int) < 2)=true:=decide_eq_true (by omega)
  have w1:wr .i64 ((n:Int)+1)=n+1:=wi64 (by omega) (by omega)
  have wc:wr .i64 (c:Int)=c:=wi64 (by omega) (by omega)
  have w56:wr .i64 (56 * (c:Int))=((56 * c:Nat):Int):=by rw [wi64 (by omega) (by omega)]; omega
  have w7:wr .i64 (((56 * c:Nat):Int)+7)=((56 * c+7:Nat):Int):=by rw [wi64 (by omega) (by omega)]; omega
  have hrk:(wk q R).rooks.getD (2 * c+n) 0=R.getD (2 * c+n) 0:=rfl
  unfold okL17_6 st17_6 okL120_2 st120_2
  dsimp only
  rw [hsc,Int.toNat_natCast,hll,hrk,i1,i2,i3,i4,i5,w1,wc,w56,w7]
  generalize hfe:R.getD (2 * c+n) 0=f at hf ⊢
  rw [wi64 (n:=f) (by omega) (by omega),wi64 (n:=m.frm) (by omega) (by omega)]
  by_cases h0:f < 0
  · rw [decide_eq_true h0,decide_eq_false (show ¬ (0≤f) by omega)]
    exact ⟨rfl,rfl⟩
  · by_cases h7:f > 7
    · rw [decide_eq_false h0,decide_eq_true h7,decide_eq_false (show ¬ (f≤7) by omega),Bool.and_false]
      exact ⟨rfl,rfl⟩
    · rw [decide_eq_false h0,decide_eq_false h7,decide_eq_true (show 0≤f by omega),decide_eq_true (show f≤7 by omega),wi64 (n:=((56 * c:Nat):Int)+f) (by omega) (by omega)]
      obtain ⟨s,hs⟩:=Int.eq_ofNat_of_zero_le (show 0≤((56 * c:Nat):Int)+f by omega)
      have s64:s < 64:=by omega
      rw [hs,scale1,Int.toNat_natCast,decide_eq_true (show (0:Int)≤s by omega),decide_eq_true (show (s:Int) < Int.ofNat 64 by show (s:Int) < 64; omega)]
      obtain ⟨o157,e157⟩:=N157_is (wk_in hq hl hr) (c:=(c:Int)) (k:=4) (by omega) (by omega) (by omega) s64
      have hb:=bd_in hq s
      have hrook:((wk q R).board.getD s 0 != N93 (c:Int) 4)=!tOf c 4 (q.board.getD s 0):=by
        obtain ⟨v,hv⟩:=Int.eq_ofNat_of_zero_le hb.1
        have:=(rook_fin ⟨c,by omega⟩ ⟨v,by omega⟩).1
        simp only at this
        rw [hv,this,make_eq hc (by omega) (by omega),show (wk q R).board=q.board from rfl,hv,wu8 (n:=8 * (c:Int)) (by omega) (by omega),wu8 (by omega) (by omega)]
        rfl
      have hking:(bif decide (k < 0) then true else (wr .i64 (k.tdiv 8) != wr .i64 (7 * (c:Int))))=(decide (k < ((56 * c:Nat):Int)) || decide (k > ((56 * c+7:Nat):Int))):=by
        by_cases hk:k < 0
        · rw [decide_eq_true hk,decide_eq_true (show k < ((56 * c:Nat):Int) by omega)]; rfl
        · rw [decide_eq_false hk,Int.tdiv_eq_ediv_of_nonneg (by omega),wi64 (by omega) (by omega),wi64 (by omega) (by omega),cond_false,Bool.eq_iff_iff]
          simp only [bne_iff_ne,Bool.or_eq_true,decide_eq_true_eq]
          omega
      rw [o157,e157,hrook,show (wk q R).board.getD s 0=q.board.getD s 0 from rfl]
      unfold goneB
      rw [Int.toNat_natCast]
      revert hking
      cases decide (k < 0) <;> cases (wr .i64 (k.tdiv 8) != wr .i64 (7 * (c:Int))) <;> cases decide (k < ((56 * c:Nat):Int)) <;> cases decide (k > ((56 * c+7:Nat):Int)) <;> intro hking <;>
        first
        | (exfalso; revert hking; decide)
        | (cases tOf (c:Int) 4 (q.board.getD s 0) <;> cases (t==(s:Int)) <;> cases (m.drp==0) <;> cases (m.frm==(s:Int)) <;> exact ⟨rfl,rfl⟩)
theorem inner_eq (a b:Pos) (m1:Mv):lp17_6 (c:Int) k (List.take 2 (List.drop (scale 2 (c:Int)).toNat q.rooks)) a m1 b m t (0,q)=lp120_2 t (c:Int) ((56 * c:Nat):Int) k p m (0,q):=by
  have hsl:∀ d,d < 2→(List.take 2 (List.drop (scale 2 (c:Int)).toNat q.rooks)).getD d 0=q.rooks.getD (2 * c+d) 0:=fun d hd=>by
    rw [List.getD_eq_getElem?_getD,List.getD_eq_getElem?_getD,List.getElem?_take_of_lt hd,List.getElem?_drop,show (scale 2 (c:Int)).toNat=2 * c by unfold scale; simp; omega]
  refine itl_same (fun x:Int×Pos => ∃ n:Nat,n≤2∧x.1=(n:Int)∧∃ R,x.2=wk q R∧R.length=4∧(∀ x ∈ R,-128≤x∧x≤127)∧∀ d,n≤d→d < 2→R.getD (2 * c+d) 0=q.rooks.getD (2 * c+d) 0) (fun x hx => ?_) many (0,q) ⟨0,by omega,rfl,q.rooks,rfl,hq.rl,hq.r0,fun _ _ _=>rfl⟩
  obtain ⟨x1,x2⟩:=x
  obtain ⟨n,hn,h1,R,h2,hl,hr,hR⟩:=hx
  simp only at h1 h2
  subst h1 h2
  by_cases h2:n < 2
  · obtain ⟨e1,e2⟩:=inner_step hq hc k0 k1 f0 t p R hl hr h2 (List.take 2 (List.drop (scale 2 (c:Int)).toNat q.rooks)) (by rw [hsl n h2,hR n (by omega) h2]) a b m1
    refine ⟨e1.trans e2.symm,fun y hy => ?_⟩
    rw [e1] at hy
    simp only [Stp.go.injEq] at hy
    subst hy
    refine ⟨n+1,by omega,by simp,?_⟩
    cases (decide (0≤R.getD (2 * c+n) 0)&&decide (R.getD (2 * c+n) 0≤7))&&goneB q c k (((56 * c:Nat):Int)+R.getD (2 * c+n) 0) t m with
    | false=>exact ⟨R,rfl,hl,hr,fun d h1 h2=>hR d (by omega) h2⟩
    | true=>exact ⟨R.set (2 * c+n) (-1),rfl,by simp [hl],set_in hr (by omega) _,fun d h1 h2=>by
        rw [gset (by omega),if_neg (by omega)]
        exact hR d (by omega) h2⟩
  · have:n=2:=by omega
    subst this
    exact ⟨rfl,fun y hy=>by cases hy⟩
end
section
variable {p q:Pos} (hp:PosIn p) (hk:Kin p q) {m:Mv} (f0 : -128≤m.frm∧m.frm≤127) (t:Int)
include hp hk f0
theorem outer_eq (a b:Pos) (m1:Mv) {q':Pos} (hq':Kin p q'):(lp17_7 a m1 b m t (0,q'))=lp120_3 t p m (0,q'):=by
  refine itl_same (fun x:Int×Pos => ∃ n:Nat,n≤2∧x.1=(n:Int)∧Kin p x.2) (fun x hx => ?_) many (0,q') ⟨0,by omega,rfl,hq'⟩
  obtain ⟨x1,x2⟩:=x
  obtain ⟨n,hn,h1,h2⟩:=hx
  simp only at h1 h2
  subst h1
  unfold okL17_7 st17_7 okL120_3 st120_3
  dsimp only
  by_cases hc:n < 2
  · have hn1:n≤1:=by omega
    have lo:=N99_lo x2 (n:Int) 6
    obtain ⟨o131,e131⟩:=N131_eq h2.pin (c:=(n:Int)) (k:=6) (by omega) (by omega) (by omega)
    have e:=inner_eq h2.pin hn1 (by omega) lo.2 f0 t p a b m1 (k:=N99 x2 n 6)
    obtain ⟨r,hr,hkin⟩:=lp17_6_kin (p:=p) (q:=x2) (c:=(n:Int)) (k:=N99 x2 n 6) (by omega) (by omega) (List.take 2 (List.drop (scale 2 (n:Int)).toNat x2.rooks)) (fun s hs=>h2.pin.r0 s (List.mem_of_mem_drop (List.mem_of_mem_take hs))) h2 a b m1 m t
    have w56:wr .i64 (56 * wr .i64 (n:Int))=((56 * n:Nat):Int):=by rw [wi64 (n:=(n:Int)) (by omega) (by omega),wi64 (by omega) (by omega)]; omega
    rw [e131,o131,t99,w56,← e,hr,decide_eq_true (show (n:Int)≤1 by omega),decide_eq_true (show (n:Int) < 2 by omega),decide_eq_true (show (0:Int)≤n by omega),wu8 (n:=(n:Int)+1) (by omega) (by omega)]
    have i2:decide ((n:Int) < Int.ofNat 2)=true:=decide_eq_true (by show (n:Int) < 2; omega)
    rw [i2]
    refine ⟨rfl,fun y hy => ?_⟩
    have hy:Stp.go ((n:Int)+1,r.2.2)=.go y:=hy
    simp only [Stp.go.injEq] at hy
    subst hy
    exact ⟨n+1,by omega,by simp,hkin⟩
  · have:n=2:=by omega
    subst this
    exact ⟨rfl,fun y hy=>by cases hy⟩
theorem rights_eq (ht:p.turn≤1) (hm:m.drp=0→0≤m.frm∧m.frm < 64) (d5:m.drp≤5):ok120 p q m t=true∧N120 p q m t=vF17_8 p m q p m t:=by
  have t0:=hp.t0
  have hqt:q.turn=p.turn:=hk.t
  have h2:Kin p (wk q (List.take (scale 2 q.turn).toNat q.rooks++li [-1,-1]++List.drop ((scale 2 q.turn).toNat+2) q.rooks)):=by
    refine hk.rooks ?_ ?_
    · have hr:=hk.pin.rl
      have:(scale 2 q.turn).toNat≤2:=by rw [hqt]; unfold scale; simp; omega
      simp [li,hr]
      omega
    · intro x hx
      simp only [List.mem_append,li] at hx
      rcases hx with (hx | hx) | hx
      · exact hk.pin.r0 x (List.mem_of_mem_take hx)
      · simp at hx; omega
      · exact hk.pin.r0 x (List.mem_of_mem_drop hx)
  have e1:=outer_eq hp hk f0 t p p m hk
  have e2:=outer_eq hp hk f0 t p p m h2
  obtain ⟨r1,k1,_⟩:=lp17_7_kin hk p p m m t
  obtain ⟨r2,k2,_⟩:=lp17_7_kin h2 p p m m t
  have k3:=e1.symm.trans k1
  have k4:lp120_3 t p m (0,Pos.mk q.variant q.board q.promoted q.pockets q.turn (List.take (scale 2 q.turn).toNat q.rooks++((List.replicate 2 0).set 0 (-1)).set 1 (-1)++List.drop ((scale 2 q.turn).toNat+2) q.rooks) q.passing q.checks q.half q.full)=some r2:=e2.symm.trans k2
  have k2:lp17_7 p m p m t (0,Pos.mk q.variant q.board q.promoted q.pockets q.turn (List.take (scale 2 q.turn).toNat q.rooks++li [-1,-1]++List.drop ((scale 2 q.turn).toNat+2) q.rooks) q.passing q.checks q.half q.full)=some r2:=k2
  have hb:=bd_in hp (scale 1 m.frm).toNat
  obtain ⟨e89,_⟩:=men' hb.1 hb.2
  have i1:decide (0≤p.turn)=true:=decide_eq_true t0
  have i2:decide (p.turn < Int.ofNat 2)=true:=decide_eq_true (by show p.turn < 2; omega)
  unfold ok120 N120 vF17_8
  rw [← hqt] at i1 i2 ⊢
  rw [e89,k1,k2,k3,k4,i1,i2]
  by_cases hd:m.drp=0
  · obtain ⟨a0,a1⟩:=hm hd
    rw [hd,decide_eq_true a0,decide_eq_true (show m.frm < Int.ofNat 64 from a1)]
    cases N106 (p.board.getD (scale 1 m.frm).toNat 0)==6 <;> exact ⟨rfl,rfl⟩
  · rw [beq_eq_false_iff_ne.2 hd,bne_iff_ne.2 hd]
    cases m.drp==6 <;> exact ⟨rfl,rfl⟩
end
theorem hits1 (col b c:Int) (cl:Bool):hitsF 1 col b c cl=hitsF 1 col b c false:=rfl
def wpas (q:Pos) (s:Int):Pos:=⟨q.variant,q.board,q.promoted,q.pockets,q.turn,q.rooks,s,q.checks,q.half,q.full⟩
theorem n101_pas (q:Pos) (s a b:Int):N101 (wpas q s) a b=N101 q a b:=by kernel_rfl
noncomputable def codeC (t a b:Int):Bool:=(!(wr .i8 (b - a) != 16) || !(wr .i8 (a - b) != 16))&&(!(wr .i8 (a.tdiv 8) != wr .i8 (wr .i8 (7 * wr .i8 t)+1)) || !(wr .i8 (a.tdiv 8) != wr .i8 (wr .i8 (7 * wr .i8 t) - 1)))
noncomputable def refC (t a b:Int):Bool := !(wr .i64 b != wr .i64 (wr .i64 a+wr .i64 (2 * N135 t)))&&!(N161 t (wr .i64 a) != 1)
theorem pas_fin:∀ (t:Fin 2) (a b:Fin 64),(codeC t.val a.val b.val==refC t.val a.val b.val&&(!refC t.val a.val b.val || (wr .i8 ((wr .i8 ((a.val:Int)+b.val)).tdiv 2)==wr .i8 (wr .i64 (wr .i64 a.val+N135 t.val))&&(wr .i64 (wr .i8 ((wr .i8 ((a.val:Int)+b.val)).tdiv 2))==wr .i64 (wr .i64 a.val+N135 t.val)&&(decide (0≤wr .i64 (wr .i64 a.val+N135 t.val))&&decide (wr .i64 (wr .i64 a.val+N135 t.val) < 64))))))=true:=by decide +kernel
theorem castle_king {p:Pos} {m:Mv} (h:m ∈ N86 p) (hp:PosIn p):N106 (p.board.getD m.frm.toNat 0)=6:=by
  have key:m.frm=N99 p p.turn 6∧0≤N99 p p.turn 6:=by
    revert h
    unfold N86
    have hk:=N99_lo p p.turn 6
    refine c_ind (P:=fun l:List Mv=>m ∈ l→_) (fun _ h=>by cases h) fun h => ?_
    have ht:p.turn≤1:=by simpa using h
    refine c_ind (P:=fun l:List Mv=>m ∈ l→_) (fun _ h=>by cases h) fun _=>c_ind (P:=fun l:List Mv=>m ∈ l→_) (fun _ h=>by cases h) fun hk0=>c_ind (P:=fun l:List Mv=>m ∈ l→_) (fun _ h=>by cases h) fun _ => ?_
    have hk0:0≤N99 p p.turn 6:=by simpa using hk0
    have key:∀ c,(N141 p (N99 p p.turn 6) c).2=true→m=(N141 p (N99 p p.turn 6) c).1→m.frm=N99 p p.turn 6∧0≤N99 p p.turn 6:=by
      intro c h1 h2
      rw [h2]
      exact ⟨(N141_mem hp ht hk0 hk.2 h1).1,hk0⟩
    refine c_ind (P:=fun l:List Mv=>m ∈ l→_) (fun h1=>c_ind (P:=fun l:List Mv=>m ∈ l→_) (fun h2 h => ?_) fun _ h => ?_) fun _=>c_ind (P:=fun l:List Mv=>m ∈ l→_) (fun h2 h => ?_) fun _ h=>by cases h
    · simp only [List.nil_append,List.mem_append,List.mem_singleton] at h
      rcases h with h | h
      · exact key _ h1 h
      · exact key _ h2 h
    · simp only [List.nil_append,List.mem_singleton] at h
      exact key _ h1 h
    · simp only [List.nil_append,List.mem_singleton] at h
      exact key _ h2 h
  rcases N99_cases p p.turn 6 with ⟨h,_⟩ | ⟨k,_,h,h2,_⟩
  · omega
  · have hb:=bd_in hp k
    have:=tOf_kind h2
    rw [key.1,h,Int.toNat_natCast,← (men' hb.1 hb.2).1]
    omega
section
variable {p q:Pos} (hp:PosIn p) (hk:Kin p q) (hth:there p)
include hp hk hth
theorem lp121 {t:Nat} (hpt:p.turn=t) (ht:t≤1) (p1 p2:Int) {d:Nat} (hd:d < 64) (he:wr .i64 (p2+p1)=d) (m:Mv):∃ r,lp121_1 p1 p2 p q m 0=some r∧isL r=(N100 (t:Int) d&&&N101 q (1 - (t:Int)) 1 != 0#64):=by
  have hqt:q.turn=0∨q.turn=1:=by rw [hk.t,hpt]; omega
  have bit:∀ s:Nat,s < 64→(N100 (t:Int) d&&&N101 q (1 - (t:Int)) 1).getLsbD s=(tOf (1 - (t:Int)) 1 (q.board.getD s 0)&&N159 q s d):=fun s hs=>by
    rw [BitVec.getLsbD_and,N101_bit _ _ _ hs,Bool.and_comm]
    cases h:tOf (1 - (t:Int)) 1 (q.board.getD s 0) with
    | false=>rfl
    | true =>
      have hb:=bd_in hk.pin s
      rw [is' (by omega) (by omega) (by omega) hb.1 hb.2,Bool.and_eq_true,beq_iff_eq,beq_iff_eq] at h
      rw [Bool.true_and,Bool.true_and,N159_eq,scale1,Int.toNat_natCast,h.1,h.2,hits1]
      have:=pawn_sym ⟨1 - t,by omega⟩ ⟨s,hs⟩ ⟨d,hd⟩
      simp only at this
      rw [show ((1 - t:Nat):Int)=1 - (t:Int) by omega,show (1:Int) - (1 - (t:Int))=t by omega] at this
      exact this
  refine lp_many (Q:=fun r:Unit ⊕ (Int×Bool)=>isL r=(N100 (t:Int) d&&&N101 q (1 - (t:Int)) 1 != 0#64)) (I:=fun x:Int => ∃ n:Nat,n≤64∧x=(n:Int)∧∀ s,s < n→(N100 (t:Int) d&&&N101 q (1 - (t:Int)) 1).getLsbD s=false) (μ:=fun x=>(64 - x).toNat) ?_ _ ⟨0,by omega,rfl,fun s hs=>by omega⟩ (by simp)
  rintro x ⟨n,hn,hx,h⟩
  subst hx
  unfold okL121_1 st121_1
  by_cases hc:n < 64
  · obtain ⟨o157,e157⟩:=N157_is hk.pin (c:=1 - (t:Int)) (k:=1) (by omega) (by omega) (by omega) hc
    have o159:=t159 hk.pin hqt hc hd
    have hb:=bit n hc
    rw [he,hpt,wu8 (n:=1 - (t:Int)) (by omega) (by omega),o157,e157,o159,decide_eq_true (show (n:Int) < 64 by omega),wi64 (n:=(n:Int)+1) (by omega) (by omega)]
    have keep:(N100 (t:Int) d&&&N101 q (1 - (t:Int)) 1).getLsbD n=false→∃ k:Nat,k≤64∧(n:Int)+1=(k:Int)∧∀ s,s < k→(N100 (t:Int) d&&&N101 q (1 - (t:Int)) 1).getLsbD s=false:=fun hf=>⟨n+1,by omega,by simp,fun s hs=>by
      by_cases e:s=n
      · rw [e]; exact hf
      · exact h s (by omega)⟩
    revert hb
    cases tOf (1 - (t:Int)) 1 (q.board.getD n 0) with
    | false=>intro hb; exact ⟨rfl,keep hb,by dsimp only; omega⟩
    | true =>
      cases N159 q n d with
      | false=>intro hb; exact ⟨rfl,keep hb,by dsimp only; omega⟩
      | true =>
        intro hb
        refine ⟨rfl,?_⟩
        show true=_
        symm
        rw [bne_iff_ne]
        intro e
        rw [e] at hb
        simp at hb
  · have:n=64:=by omega
    subst this
    refine ⟨rfl,?_⟩
    show false=_
    symm
    rw [bne_eq_false_iff_eq]
    exact BitVec.eq_of_getLsbD_eq fun i hi=>by rw [h i hi]; simp
theorem passing_eq {m:Mv} (hm:m ∈ N38 p) (d:Int):ok121 p q m=true∧vF17_9 p m q p m d=wpas q (N121 p q m):=by
  obtain ⟨_,f0,f1,o0,o1,_,_,_,_⟩:=N38_mem hp hm
  obtain ⟨t,hpt,ht⟩:=turn_nat hp hth.1
  obtain ⟨a,ha⟩:=Int.eq_ofNat_of_zero_le f0
  obtain ⟨b,hb⟩:=Int.eq_ofNat_of_zero_le o0
  have hqt:q.turn=(t:Int):=by rw [hk.t,hpt]
  have hbd:=bd_in hp (scale 1 m.frm).toNat
  obtain ⟨e89,_⟩:=men' hbd.1 hbd.2
  have i1:decide (0≤m.frm)=true:=decide_eq_true f0
  have i2:decide (m.frm < Int.ofNat 64)=true:=decide_eq_true f1
  have fin:=pas_fin ⟨t,by omega⟩ ⟨a,by omega⟩ ⟨b,by omega⟩
  simp only [Bool.and_eq_true,beq_iff_eq,Bool.or_eq_true,Bool.not_eq_true'] at fin
  obtain ⟨fin1,fin2⟩:=fin
  have hcas:m.cas=true→(N106 (p.board.getD (scale 1 m.frm).toNat 0) != 1)=true:=fun hc=>by
    have hm':m ∈ N86 p:=by
      rw [N38_eq] at hm
      rcases List.mem_append.1 hm with hm | hm
      · rcases List.mem_append.1 hm with hm | hm
        · obtain ⟨_,_,_,_,_,_,_,_,h,_⟩:=N85_mem hp.v0 hm; rw [h] at hc; cases hc
        · exact hm
      · obtain ⟨_,_,_,_,_,h,_⟩:=N87_mem hp.t0 hm; rw [h] at hc; cases hc
    rw [scale1,castle_king hm' hp]
    rfl
  have n101:∀ s c k:Int,N101 (Pos.mk q.variant q.board q.promoted q.pockets q.turn q.rooks s q.checks q.half q.full) c k=N101 q c k:=fun s c k=>n101_pas q s c k
  unfold ok121 N121 vF17_9 wpas
  simp only [n101]
  rw [e89,i1,i2,hqt,hpt,ha,hb,wu8 (n:=1 - (t:Int)) (by omega) (by omega)]
  cases hd:m.drp != 0 with
  | true =>
    refine ⟨rfl,?_⟩
    cases m.drp != 1 <;> rfl
  | false =>
    cases hc:m.cas with
    | true =>
      have:=hcas hc
      rw [ha] at this
      rw [this]
      exact ⟨rfl,rfl⟩
    | false =>
      cases hpn:(N106 (p.board.getD (scale 1 (a:Int)).toNat 0) != 1) with
      | true=>exact ⟨rfl,rfl⟩
      | false =>
        simp only [cond_false,Bool.true_and]
        unfold codeC refC at fin1
        unfold refC at fin2
        revert fin1 fin2
        cases hx1:(wr .i64 (b:Int) != wr .i64 (wr .i64 (a:Int)+wr .i64 (2 * N135 (t:Int)))) with
        | true =>
          intro fin1 _
          refine ⟨rfl,?_⟩
          revert fin1
          generalize (wr .i8 ((b:Int) - a) != 16)=x1
          generalize (wr .i8 ((a:Int) - b) != 16)=x2
          generalize (wr .i8 ((a:Int).tdiv 8) != wr .i8 (wr .i8 (7 * wr .i8 (t:Int))+1))=x3
          generalize (wr .i8 ((a:Int).tdiv 8) != wr .i8 (wr .i8 (7 * wr .i8 (t:Int)) - 1))=x4
          generalize (N161 (t:Int) (wr .i64 (a:Int)) != 1)=x6
          cases x1 <;> cases x2 <;> cases x3 <;> cases x4 <;> intro h <;> first | rfl | (exfalso; revert h; cases x6 <;> decide)
        | false =>
          cases hx2:(N161 (t:Int) (wr .i64 (a:Int)) != 1) with
          | true =>
            intro fin1 _
            refine ⟨rfl,?_⟩
            revert fin1
            generalize (wr .i8 ((b:Int) - a) != 16)=x1
            generalize (wr .i8 ((a:Int) - b) != 16)=x2
            generalize (wr .i8 ((a:Int).tdiv 8) != wr .i8 (wr .i8 (7 * wr .i8 (t:Int))+1))=x3
            generalize (wr .i8 ((a:Int).tdiv 8) != wr .i8 (wr .i8 (7 * wr .i8 (t:Int)) - 1))=x4
            cases x1 <;> cases x2 <;> cases x3 <;> cases x4 <;> intro h <;> first | rfl | (exfalso; revert h; decide)
          | false =>
            intro fin1 fin2
            obtain ⟨g1,g2,g3,g4⟩:=fin2.resolve_left (by decide)
            simp only [decide_eq_true_eq] at g3 g4
            obtain ⟨e,he⟩:=Int.eq_ofNat_of_zero_le g3
            obtain ⟨r1,r2⟩:=of_some (lp121 hp hk hth hpt ht (N135 (t:Int)) (wr .i64 (a:Int)) (d:=e) (by omega) he m)
            rw [g2,g1,he,r2,r1]
            refine ⟨by cases (N100 (t:Int) e&&&N101 q (1 - (t:Int)) 1 != 0#64) <;> rfl,?_⟩
            revert fin1
            generalize (wr .i8 ((b:Int) - a) != 16)=x1
            generalize (wr .i8 ((a:Int) - b) != 16)=x2
            generalize (wr .i8 ((a:Int).tdiv 8) != wr .i8 (wr .i8 (7 * wr .i8 (t:Int))+1))=x3
            generalize (wr .i8 ((a:Int).tdiv 8) != wr .i8 (wr .i8 (7 * wr .i8 (t:Int)) - 1))=x4
            generalize (N100 (t:Int) e&&&N101 q (1 - (t:Int)) 1 != 0#64)=x5
            cases x1 <;> cases x2 <;> cases x3 <;> cases x4 <;> intro h <;> first | (exfalso; revert h; decide) | (cases x5 <;> rfl)
end
theorem and_bit1 (x:BitVec 64) {k:Nat} (hk:k < 64):(x&&&1#64 <<< k != 0#64)=x.getLsbD k:=by
  have e:∀ i,i < 64→(x&&&1#64 <<< k).getLsbD i=(x.getLsbD k&&decide (i=k)):=fun i hi=>by
    rw [BitVec.getLsbD_and,one_bit hi]
    by_cases h:i=k
    · subst h; simp
    · simp [h]
  cases hx:x.getLsbD k with
  | true =>
    rw [bne_iff_ne]
    intro h
    have:=e k hk
    rw [h,hx] at this
    simp at this
  | false =>
    rw [bne_eq_false_iff_eq]
    refine BitVec.eq_of_getLsbD_eq fun i hi => ?_
    rw [e i hi,hx]
    simp
theorem goal_no {a:Pos×BitVec 64×BitVec 64} {b:Int} {g:Nat} (h:(N177 a b).getLsbD g=true):a.2.1.getLsbD g=false:=by
  have key:∃ X,N177 a b=X &&& ~~~a.2.1:=by
    unfold N177
    repeat' (first | exact ⟨_,rfl⟩ | refine c_ind (P:=fun x:BitVec 64 => ∃ X,x=X &&& ~~~a.2.1) (fun _ => ?_) (fun _ => ?_))
  obtain ⟨X,e⟩:=key
  rw [e,BitVec.getLsbD_and,BitVec.getLsbD_not] at h
  simp only [Bool.and_eq_true,Bool.not_eq_true'] at h
  exact h.2.2
theorem lp173 (k:Int) (l:List Int) (hl:l.length≤5):∃ r,lp173_1 k l 0=some r∧isL r=decide (k ∈ l):=by
  refine lp_many (Q:=fun r:Unit ⊕ (Int×Bool)=>isL r=decide (k ∈ l)) (I:=fun x:Int => ∃ n:Nat,n≤l.length∧x=(n:Int)∧k ∉ l.take n) (μ:=fun x=>(l.length - x).toNat) ?_ _ ⟨0,by omega,rfl,by simp⟩ (by simp; omega)
  rintro x ⟨n,hn,rfl,h⟩
  unfold okL173_1 st173_1
  by_cases hc:n < l.length
  · have ht:l.take (n+1)=l.take n++[l.getD n default]:=by
      rw [List.take_add_one,List.getD_eq_getElem?_getD,List.getElem?_eq_getElem hc]; rfl
    rw [decide_eq_true (show (n:Int) < Int.ofNat l.length from Int.ofNat_lt.2 hc),decide_eq_true (show (0:Int)≤n by omega),Int.toNat_natCast,wi64 (n:=(n:Int)+1) (by omega) (by omega)]
    refine ⟨rfl,?_⟩
    cases he:l.getD n default==k with
    | true =>
      show true=_
      symm
      rw [decide_eq_true_eq,← beq_iff_eq.1 he]
      exact getD_mem hc
    | false =>
      refine ⟨⟨n+1,by omega,by simp,?_⟩,by dsimp only; omega⟩
      rw [ht,List.mem_append,List.mem_singleton]
      rintro (h1 | h1)
      · exact h h1
      · rw [h1] at he; simp at he
  · rw [decide_eq_false (show ¬ ((n:Int) < Int.ofNat l.length) from fun h=>hc (Int.ofNat_lt.1 h))]
    refine ⟨rfl,?_⟩
    show false=_
    symm
    rw [decide_eq_false_iff_not]
    rw [List.take_of_length_le (by omega)] at h
    exact h
theorem N162_len (v:Int):(N162 v).length≤5:=by
  unfold N162
  exact c_ind (P:=fun l:List Int=>l.length≤5) (fun _=>by simp) fun _=>c_ind (P:=fun l:List Int=>l.length≤5) (fun _=>by simp) fun _=>by simp
theorem N173_eq (v k:Int):ok173 v k=true∧N173 v k=decide (k ∈ N162 v):=by
  obtain ⟨h1,h2⟩:=of_some (lp173 k (N162 v) (N162_len v))
  unfold ok173 N173
  rw [h1,h2]
  cases decide (k ∈ N162 v) <;> exact ⟨rfl,rfl⟩
theorem N19_there {p:Pos} (h:there p):N19 p=true:=by
  unfold N19
  rw [decide_eq_true h.2,decide_eq_true (show p.turn < 2 by have:=h.1; omega)]
  rfl
section
variable {p:Pos} (hp:PosIn p) (hth:there p)
include hp hth
theorem is_move {m:Mv} (hm:m ∈ N85 p):∃ f g:Nat,f < 64∧g < 64∧m.frm=f∧m.to=g∧m.cas=false∧m.drp=0∧(own p).getLsbD f=true∧(own p).getLsbD g=false∧ok133 p m=true∧N133 p m=true:=by
  have t0:=hp.t0
  have htt:p.turn=0∨p.turn=1:=by have:=hth.1; omega
  obtain ⟨_,f,g,hf,hg,ef,eg,hd,hc,_,_,h1,h2⟩:=N85_mem hp.v0 hm
  have h3:m ∈ mvs p f g:=by
    rw [N85_there hp.v0 hth] at hm
    obtain ⟨a,_,hm⟩:=List.mem_flatMap.1 hm
    obtain ⟨b,_,hm⟩:=List.mem_flatMap.1 hm
    have:m.frm=a∧m.to=b:=by
      revert hm
      unfold mvs
      refine c_ind (P:=fun l:List Mv=>m ∈ l→_) (fun _ h=>by simp at h; rw [h]; exact ⟨rfl,rfl⟩) fun _=>c_ind (P:=fun l:List Mv=>m ∈ l→_) (fun _ h=>by simp at h; rw [h]; exact ⟨rfl,rfl⟩) fun _ h => ?_
      obtain ⟨k,_,h⟩:=List.mem_flatMap.1 h
      simp at h; rw [h]; exact ⟨rfl,rfl⟩
    rw [← this.1,← this.2,ef,eg] at hm
    exact hm
  have hR:=mvsR_eq hp hth hf hg
  rw [h1,h2] at hR
  simp only [cond_true] at hR
  rw [← hR] at h3
  have e160:N160 p f g=true:=by
    cases h:N160 p f g with
    | true=>rfl
    | false=>unfold mvsR at h3; rw [h] at h3; cases h3
  have o160:=t160 hp htt hf hg
  have wf:wr .i64 (f:Int)=f:=wi64 (by omega) (by omega)
  have wg:wr .i64 (g:Int)=g:=wi64 (by omega) (by omega)
  refine ⟨f,g,hf,hg,ef,eg,hc,hd,h1,goal_no h2,?_⟩
  unfold ok133 N133
  unfold mvsR at h3
  rw [e160] at h3
  obtain ⟨o173,e173⟩:=N173_eq p.variant m.pro
  rw [N19_there hth,hc,hd,ef,eg,wf,wg,e160,o160,scale1,Int.toNat_natCast,decide_eq_false (show ¬ ((f:Int) < 0) by omega),decide_eq_false (show ¬ ((f:Int) > 63) by omega),decide_eq_false (show ¬ ((g:Int) < 0) by omega),decide_eq_false (show ¬ ((g:Int) > 63) by omega),decide_eq_true (show (0:Int)≤f by omega),decide_eq_true (show (f:Int) < Int.ofNat 64 by show (f:Int) < 64; omega),o173,e173]
  revert h3
  cases N106 (p.board.getD f 0) != 1 with
  | true=>intro h3; simp at h3; rw [h3]; exact ⟨rfl,rfl⟩
  | false =>
    cases N161 p.turn g != 7 with
    | true=>intro h3; simp at h3; rw [h3]; exact ⟨rfl,rfl⟩
    | false =>
      intro h3
      simp only [Bool.not_true,cond_false,List.mem_map] at h3
      obtain ⟨k,hk,rfl⟩:=h3
      rw [decide_eq_true hk]
      exact ⟨rfl,rfl⟩
theorem taken_eq {m:Mv} (hm:m ∈ N38 p):ok79 p m=true∧N79 p m=N39 p m:=by
  have hth1:=hth.1
  have htt:p.turn=0∨p.turn=1:=by have:=hp.t0; omega
  have hl:(N85 p).length≤1000000:=Nat.le_trans (N85_len hp.v0) (by omega)
  have no:(m.cas=true∨(m.cas=false∧m.drp≠0))→ok79 p m=true∧N79 p m=N39 p m:=fun h=>by
    have e133:N133 p m=false∧ok133 p m=true:=by
      unfold ok133 N133
      rw [N19_there hth]
      rcases h with h | ⟨h,h'⟩
      · rw [h]; exact ⟨rfl,rfl⟩
      · rw [h,bne_iff_ne.2 h']; exact ⟨rfl,rfl⟩
    have hnm:m ∉ N85 p:=fun hm=>by
      obtain ⟨_,_,_,_,_,_,_,hd,hc,_⟩:=N85_mem hp.v0 hm
      rcases h with h | ⟨_,h⟩
      · rw [h] at hc; cases hc
      · exact h hd
    unfold ok79 N79 N39
    rw [e133.1,e133.2,N88_there hth,N37_eq hl,decide_eq_false hnm]
    exact ⟨rfl,rfl⟩
  rw [N38_eq] at hm
  rcases List.mem_append.1 hm with hm | hm
  · rcases List.mem_append.1 hm with hm | hm
    · obtain ⟨f,g,hf,hg,ef,eg,hc,hd,h1,h2,h3,h4⟩:=is_move hp hth hm
      have wg:wr .i64 (g:Int)=g:=wi64 (by omega) (by omega)
      have e134:=N134_bit hp htt hg
      have o134:=t134 (p:=p) hp htt hg
      have hb:=bd_in hp (scale 1 (f:Int)).toNat
      obtain ⟨e89,_⟩:=men' hb.1 hb.2
      unfold ok79 N79 N39
      rw [h3,h4,N88_there hth,N37_eq hl,decide_eq_true hm,ef,eg,wg,e134,o134,ofInt_nat (by omega) (by omega),Int.toNat_natCast,e89,BitVec.getLsbD_or,h2]
      simp only [Bool.false_or,Bool.not_not]
      rw [and_bit1 _ hg,decide_eq_true (show (0:Int)≤f by omega),decide_eq_true (show (f:Int) < Int.ofNat 64 by show (f:Int) < 64; omega)]
      refine ⟨by cases (oth p).getLsbD g <;> rfl,?_⟩
      have e90:wr .i64 ((g:Int) - N135 p.turn)=N90 (wr .u8 (1 - p.turn)) g:=by
        rcases htt with h | h <;> rw [h] <;> unfold N90 N135
        · show wr .i64 ((g:Int) - 8)=wr .i64 ((g:Int) - 8); rfl
        · show wr .i64 ((g:Int) - -8)=wr .i64 ((g:Int)+8)
          congr 1
      rw [e90]
      rfl
    · obtain ⟨_,_,_,_,_,hc,_⟩:=N86_mem hp hm
      exact no (.inl hc)
  · obtain ⟨_,_,_,_,_,hc,d1,_⟩:=N87_mem hp.t0 hm
    exact no (.inr ⟨hc,by omega⟩)
end
def StI {X R:Type} (I:X→Prop) (Q:R→Prop):Stp X R→Prop
  | .go y=>I y
  | .out r=>Q r
  | .bad=>True
theorem itl_keep {X R:Type} {f:X→Stp X R} (I:X→Prop) (Q:R→Prop) (h:∀ x,I x→StI I Q (f x)):∀ (n:Nat) (x:X) (r:R),I x→itl f n x=some r→Q r
  | 0,_,_,_,e=>by cases e
  | n+1,x,r,hx,e=>by
    have:=h x hx
    unfold itl at e
    cases hf:f x with
    | go y=>rw [hf] at this e; exact itl_keep I Q h n y r this e
    | out r'=>rw [hf] at this e; cases e; exact this
    | bad=>rw [hf] at e; cases e
def SC (q r:Pos):Prop:=r.half=q.half∧r.full=q.full
theorem SC.rfl {q:Pos}:SC q q:=⟨Eq.refl _,Eq.refl _⟩
abbrev SCs (q:Pos):Stp (Int×Pos) (Int×Bool×Pos)→Prop:=StI (fun x=>SC q x.2) (fun r=>SC q r.2.2)
theorem sc6 {q:Pos} (c k:Int) (l:List Int) (a:Pos) (m1:Mv) (b:Pos) (m2:Mv) (e:Int) {x:Int×Pos} {r:Int×Bool×Pos} (hx:SC q x.2) (h:lp17_6 c k l a m1 b m2 e x=some r):SC q r.2.2:=by
  unfold lp17_6 at h
  refine itl_keep (fun x=>SC q x.2) (fun r=>SC q r.2.2) (fun x hx => ?_) many x r hx h
  show SCs q _
  refine c_ind (P:=fun s=>SCs q s) (fun _ => ?_) fun _=>trivial
  unfold st17_6
  repeat' (first | exact (show SC q _ from hx) | refine c_ind (P:=fun s=>SCs q s) (fun _ => ?_) (fun _ => ?_))
theorem sc7 {q:Pos} (a:Pos) (m1:Mv) (b:Pos) (m2:Mv) (e:Int) {x:Int×Pos} {r:Int×Bool×Pos} (hx:SC q x.2) (h:lp17_7 a m1 b m2 e x=some r):SC q r.2.2:=by
  unfold lp17_7 at h
  refine itl_keep (fun x=>SC q x.2) (fun r=>SC q r.2.2) (fun x hx => ?_) many x r hx h
  show SCs q _
  refine c_ind (P:=fun s=>SCs q s) (fun hok => ?_) fun _=>trivial
  unfold st17_7
  unfold okL17_7 at hok
  refine c_ind (P:=fun s=>SCs q s) (fun hc => ?_) (fun _=>hx)
  rw [hc] at hok
  simp only [cond_true,Bool.and_eq_true] at hok
  obtain ⟨_,_,h6,_⟩:=hok
  exact sc6 _ _ _ _ _ _ _ _ (x:=(0,x.2)) hx (some_getD h6)
theorem sc_92 (q:Pos) (b c:Int):SC q (N92 q b c).1:=by
  unfold N92
  exact c_ind (P:=fun x:Pos×Bool=>SC q x.1) (fun _=>⟨rfl,rfl⟩) fun _=>c_ind (P:=fun x:Pos×Bool=>SC q x.1) (fun _=>⟨rfl,rfl⟩) fun _=>⟨rfl,rfl⟩
theorem sc_95 (q:Pos) (b c:Int):SC q (N95 q b c):=by
  unfold N95
  exact c_ind (P:=fun x:Pos=>SC q x) (fun _=>c_ind (P:=fun x:Pos=>SC q x) (fun _=>⟨rfl,rfl⟩) fun _=>⟨rfl,rfl⟩) fun _=>⟨rfl,rfl⟩
section
variable {p:Pos} (hp:PosIn p) {m:Mv}
include hp
theorem sc1 (q:Pos) (c:Int):SC q (vF17_1 p m q p m c):=by
  have h:=sc_92 q q.turn m.drp
  unfold vF17_1
  repeat' (first | exact ⟨rfl,rfl⟩ | exact h | refine c_ind (P:=fun x:Pos=>SC q x) (fun _ => ?_) (fun _ => ?_))
theorem sc2 (q:Pos) (c:Int):SC q (vF17_2 p m q p m c):=by
  have h:=sc_95 q q.turn
  unfold vF17_2
  repeat' (first | exact ⟨rfl,rfl⟩ | exact h _ | refine c_ind (P:=fun x:Pos=>SC q x) (fun _ => ?_) (fun _ => ?_))
theorem sc4 {q:Pos} (hk:Kin p q) (c:Int):SC q (vF17_4 p m q p m c):=by
  obtain ⟨b1,C,b2,b3,b4⟩:=of_some (lp17c hk.pin (l:=N96 (N97 q (wr .i64 m.to))) (by rw [N96_eq]; exact sqs_len _ _) (fun s hs=>by rw [N96_eq] at hs; exact sqs_in hs) p p m m c)
  unfold vF17_4
  rw [b2]
  repeat' (first | exact ⟨rfl,rfl⟩ | refine c_ind (P:=fun x:Pos=>SC q x) (fun _ => ?_) (fun _ => ?_))
theorem sc8 (ht:p.turn≤1) {q:Pos} (h:Kin p q) (c:Int):SC q (vF17_8 p m q p m c):=by
  have t0:=hp.t0
  have h2:Kin p ⟨q.variant,q.board,q.promoted,q.pockets,q.turn,List.take (scale 2 q.turn).toNat q.rooks++li [-1,-1]++List.drop ((scale 2 q.turn).toNat+2) q.rooks,q.passing,q.checks,q.half,q.full⟩:=by
    refine h.rooks ?_ ?_
    · have hr:=h.pin.rl
      have:(scale 2 q.turn).toNat≤2:=by rw [h.t]; unfold scale; simp; omega
      simp [li,hr]
      omega
    · intro x hx
      simp only [List.mem_append,li] at hx
      rcases hx with (hx | hx) | hx
      · exact h.pin.r0 x (List.mem_of_mem_take hx)
      · simp at hx; omega
      · exact h.pin.r0 x (List.mem_of_mem_drop hx)
  obtain ⟨r1,k1,_⟩:=lp17_7_kin h p p m m c
  obtain ⟨r2,k2,_⟩:=lp17_7_kin h2 p p m m c
  have b1:SC q r1.2.2:=sc7 p m p m c (x:=(0,q)) SC.rfl k1
  have b2:SC q r2.2.2:=sc7 p m p m c (x:=(0,⟨q.variant,q.board,q.promoted,q.pockets,q.turn,List.take (scale 2 q.turn).toNat q.rooks++li [-1,-1]++List.drop ((scale 2 q.turn).toNat+2) q.rooks,q.passing,q.checks,q.half,q.full⟩)) ⟨rfl,rfl⟩ k2
  unfold vF17_8
  rw [k1,k2]
  repeat' (first | exact b1 | exact b2 | refine c_ind (P:=fun x:Pos=>SC q x) (fun _ => ?_) (fun _ => ?_))
end
noncomputable def halfR (p:Pos) (m:Mv) (d:Int):Int:=bif m.drp==1 then 0 else bif m.drp==0 then (bif N106 (p.board.getD (scale 1 m.frm).toNat 0)==1 then 0 else bif decide (d ≥ 0) then 0 else N122 p.half) else bif decide (d ≥ 0) then 0 else N122 p.half
noncomputable def endR (p z:Pos) (s h f:Int):Pos :=
  bif z.variant==5 then (bif decide (z.checks.getD (scale 1 p.turn).toNat 0 < 3) then (bif N47 (Pos.mk z.variant z.board z.promoted z.pockets (wr .u8 (1 - p.turn)) z.rooks s z.checks h f) (wr .u8 (1 - p.turn)) then Pos.mk z.variant z.board z.promoted z.pockets (wr .u8 (1 - p.turn)) z.rooks s (z.checks.set (scale 1 p.turn).toNat (wr .u8 (z.checks.getD (scale 1 p.turn).toNat 0+1))) h f else Pos.mk z.variant z.board z.promoted z.pockets (wr .u8 (1 - p.turn)) z.rooks s z.checks h f) else Pos.mk z.variant z.board z.promoted z.pockets (wr .u8 (1 - p.turn)) z.rooks s z.checks h f) else Pos.mk z.variant z.board z.promoted z.pockets (wr .u8 (1 - p.turn)) z.rooks s z.checks h f
noncomputable def sndR (p:Pos) (m:Mv) (d:Int):Pos:=N117 p (N116 p m d) m d
noncomputable def trdR (p:Pos) (m:Mv) (d:Int):Pos:=N120 p (bif p.variant==3 then (bif decide (d ≥ 0) then ((lp58_1 d (N118 (sndR p m d) (wr .i64 m.to)) p m (0,sndR p m d)).getD default).2.2 else sndR p m d) else sndR p m d) m d
theorem N58_end (p:Pos) (m:Mv):N58 p m=endR p (trdR p m (N79 p m)) (N121 p (trdR p m (N79 p m)) m) (halfR p m (N79 p m)) (bif p.turn==1 then N122 p.full else (trdR p m (N79 p m)).full):=by
  unfold N58 trdR sndR halfR
  dsimp only
  cases p.variant==3 <;> cases decide (N79 p m ≥ 0) <;> cases m.drp==1 <;> cases m.drp==0 <;> cases N106 (p.board.getD (scale 1 m.frm).toNat 0)==1 <;> cases p.turn==1 <;> rfl
section
variable {p:Pos} (hp:PosIn p) (hth:there p) {m:Mv}
include hp
theorem pr1 (q:Pos) (c:Int):(vF17_1 p m q p m c).promoted=q.promoted:=by
  have h:(N92 q q.turn m.drp).1.promoted=q.promoted:=by
    unfold N92
    exact c_ind (P:=fun x:Pos×Bool=>x.1.promoted=q.promoted) (fun _=>rfl) fun _=>c_ind (P:=fun x:Pos×Bool=>x.1.promoted=q.promoted) (fun _=>rfl) fun _=>rfl
  unfold vF17_1
  repeat' (first | exact rfl | exact h | refine c_ind (P:=fun x:Pos=>x.promoted=q.promoted) (fun _ => ?_) (fun _ => ?_))
include hth
theorem end_eq {z:Pos} (hz:Kin p z) (hsc:SC p z) (hm:m ∈ N38 p) (d:Int):endR p z (N121 p z m) (halfR p m d) (bif p.turn==1 then N122 p.full else z.full)=vF17_11 p m (vF17_10 p m (vF17_9 p m z p m d) p m d) p m d ∧
    ∀ h f:Int,(h=0∨h=N122 p.half)→(f=N122 p.full∨f=z.full)→ok47 (Pos.mk z.variant z.board z.promoted z.pockets (wr .u8 (1 - p.turn)) z.rooks (N121 p z m) z.checks h f) (wr .u8 (1 - p.turn))=true:=by
  obtain ⟨_,f0,f1,_⟩:=N38_mem hp hm
  obtain ⟨t,hpt,ht⟩:=turn_nat hp hth.1
  obtain ⟨_,e9⟩:=passing_eq hp hz hth hm d
  have k9:=(vF9_kin m hz (fun _=>⟨f0,f1⟩) p m d).2
  rw [e9] at k9
  have sp0 : -128≤N121 p z m:=k9.pin.p0
  have sp1:N121 p z m≤127:=k9.pin.p1
  have wt:wr .u8 (1 - p.turn)=((1 - t:Nat):Int):=by rw [hpt,wu8 (by omega) (by omega)]; omega
  have n102:∀ n:Int,-9223372036854775808≤n∧n≤9223372036854775807 → -9223372036854775808≤N122 n∧N122 n≤9223372036854775807:=fun n hn=>N102_in hn
  have pin:∀ h f:Int,(-9223372036854775808≤h∧h≤9223372036854775807)→(-9223372036854775808≤f∧f≤9223372036854775807)→PosIn (Pos.mk z.variant z.board z.promoted z.pockets (wr .u8 (1 - p.turn)) z.rooks (N121 p z m) z.checks h f):=fun h f hh hf =>
    ⟨hz.pin.v0,hz.pin.v1,hz.pin.bl,hz.pin.b0,hz.pin.kl,hz.pin.k0,by show 0≤wr .u8 (1 - p.turn); rw [wt]; omega,by show wr .u8 (1 - p.turn)≤255; rw [wt]; omega,hz.pin.rl,hz.pin.r0,sp0,sp1,hz.pin.cl,hz.pin.c0,hh,hf⟩
  have tt:∀ h f:Int,(Pos.mk z.variant z.board z.promoted z.pockets (wr .u8 (1 - p.turn)) z.rooks (N121 p z m) z.checks h f).turn=0∨(Pos.mk z.variant z.board z.promoted z.pockets (wr .u8 (1 - p.turn)) z.rooks (N121 p z m) z.checks h f).turn=1:=fun h f=>by
    show wr .u8 (1 - p.turn)=0∨wr .u8 (1 - p.turn)=1
    rw [wt]; omega
  have ttw:wr .u8 (1 - p.turn)=0∨wr .u8 (1 - p.turn)=1:=by rw [wt]; omega
  refine ⟨?_,fun h f hh hf => ?_⟩
  · have hb:=bd_in hp (scale 1 m.frm).toNat
    obtain ⟨e89,_⟩:=men' hb.1 hb.2
    have e10:vF17_10 p m (wpas z (N121 p z m)) p m d=⟨z.variant,z.board,z.promoted,z.pockets,z.turn,z.rooks,N121 p z m,z.checks,halfR p m d,bif p.turn==1 then N122 p.full else z.full⟩:=by
      unfold vF17_10 halfR wpas
      dsimp only
      rw [e89,hz.t,hsc.1,hsc.2,show N102 p.half=N122 p.half from rfl,show N102 p.full=N122 p.full from rfl]
      by_cases h0:m.drp=0
      · rw [h0]
        cases N106 (p.board.getD (scale 1 m.frm).toNat 0)==1 <;> cases decide (d ≥ 0) <;> cases p.turn==1 <;> rfl
      · rw [bne_iff_ne.2 h0,beq_eq_false_iff_ne.2 h0]
        cases m.drp==1 <;> cases decide (d ≥ 0) <;> cases p.turn==1 <;> rfl
    rw [e9,e10]
    have hH : -9223372036854775808≤halfR p m d∧halfR p m d≤9223372036854775807:=by
      unfold halfR
      repeat' (first | exact ⟨by omega,by omega⟩ | exact n102 _ hp.h0 | refine c_ind (P:=fun x:Int => -9223372036854775808≤x∧x≤9223372036854775807) (fun _ => ?_) (fun _ => ?_))
    have hF : -9223372036854775808≤(bif p.turn==1 then N122 p.full else z.full)∧(bif p.turn==1 then N122 p.full else z.full)≤9223372036854775807 :=
      c_ind (P:=fun x:Int => -9223372036854775808≤x∧x≤9223372036854775807) (fun _=>n102 _ hp.f0) (fun _=>hz.pin.f0)
    unfold endR vF17_11
    dsimp only
    rw [hz.t,(N47_eq (pin _ _ hH hF) (tt _ _) ttw).2]
    have back:wr .u8 (1 - wr .u8 (1 - p.turn))=p.turn:=by rw [wt,hpt,wu8 (by omega) (by omega)]; omega
    rw [back]
  · refine (N47_eq (pin h f ?_ ?_) (tt h f) ttw).1
    · rcases hh with rfl | rfl
      · omega
      · exact n102 _ hp.h0
    · rcases hf with rfl | rfl
      · exact n102 _ hp.f0
      · exact hz.pin.f0
theorem made_eq (hm:m ∈ N38 p):ok58 p m=true∧N58 p m=mvd p m:=by
  obtain ⟨_,f0,f1,o0,o1,_,d5,_⟩:=N38_mem hp hm
  have hb8 : -128≤m.frm∧m.frm≤127:=by omega
  obtain ⟨o79,e79⟩:=taken_eq hp hth hm
  obtain ⟨o116,e116⟩:=men_eq hp hm
  have k1:Kin p (vF17_1 p m p p m (N39 p m)):=vF1_kin hp m p m (N39 p m)
  obtain ⟨o117,e117⟩:=pocket_eq hp k1 (pr1 hp p _) hm
  have k2:=vF2_kin m k1 p m (N39 p m)
  obtain ⟨o118,l58,e4⟩:=blow_eq (p:=p) k2 o0 o1 (N39 p m)
  have k4:=(vF4_kin m k2 p m (N39 p m)).2
  obtain ⟨o120,e120⟩:=rights_eq hp k4 hb8 (N39 p m) hth.1 (fun _=>⟨f0,f1⟩) d5
  have k8:=(vF8_kin hp m hth.1 k4 (fun _=>⟨f0,f1⟩) p m (N39 p m)).2
  obtain ⟨o121,_⟩:=passing_eq hp k8 hth hm (N39 p m)
  have s1:=sc1 hp (m:=m) p (N39 p m)
  have s2:=sc2 hp (m:=m) (vF17_1 p m p p m (N39 p m)) (N39 p m)
  have s4:=sc4 hp (m:=m) k2 (N39 p m)
  have s8:=sc8 hp (m:=m) hth.1 k4 (N39 p m)
  have hsc:SC p (vF17_8 p m (vF17_4 p m (vF17_2 p m (vF17_1 p m p p m (N39 p m)) p m (N39 p m)) p m (N39 p m)) p m (N39 p m)) :=
    ⟨s8.1.trans (s4.1.trans (s2.1.trans s1.1)),s8.2.trans (s4.2.trans (s2.2.trans s1.2))⟩
  obtain ⟨eEnd,o47⟩:=end_eq hp hth k8 hsc hm (N39 p m)
  have e3:trdR p m (N39 p m)=vF17_8 p m (vF17_4 p m (vF17_2 p m (vF17_1 p m p p m (N39 p m)) p m (N39 p m)) p m (N39 p m)) p m (N39 p m):=by
    unfold trdR sndR
    rw [e116,e117,e4,e120]
  constructor
  · have i1:decide (0≤p.turn)=true:=decide_eq_true hp.t0
    have i2:decide (p.turn < Int.ofNat 2)=true:=decide_eq_true (by show p.turn < 2; have:=hth.1; omega)
    have i3:decide (0≤m.frm)=true:=decide_eq_true f0
    have i4:decide (m.frm < Int.ofNat 64)=true:=decide_eq_true f1
    unfold ok58
    dsimp only
    rw [e79,o79,o116,e116,o117,e117,o118]
    generalize hz:vF17_8 p m (vF17_4 p m (vF17_2 p m (vF17_1 p m p p m (N39 p m)) p m (N39 p m)) p m (N39 p m)) p m (N39 p m)=z at *
    have a1:=o47 0 (N122 p.full) (.inl rfl) (.inl rfl)
    have a2:=o47 0 z.full (.inl rfl) (.inr rfl)
    have a3:=o47 (N122 p.half) (N122 p.full) (.inr rfl) (.inl rfl)
    have a4:=o47 (N122 p.half) z.full (.inr rfl) (.inr rfl)
    cases h3:p.variant==3 with
    | false =>
      rw [h3] at e4
      simp only [cond_false] at e4
      rw [e4,e120,o120,o121,i1,i2,i3,i4]
      simp only [a1,a2,a3,a4,Bool.true_and,Bool.and_true,cond_false]
      cases m.drp==1 <;> cases m.drp==0 <;> cases N106 (p.board.getD (scale 1 m.frm).toNat 0)==1 <;> cases decide (N39 p m ≥ 0) <;> cases p.turn==1 <;> cases z.variant==5 <;> simp
    | true =>
      rw [h3] at e4
      simp only [cond_true] at e4
      cases hd:decide (N39 p m ≥ 0) with
      | false =>
        rw [hd] at e4
        simp only [cond_false] at e4
        rw [e4,e120,o120,o121,i1,i2,i3,i4]
        simp only [a1,a2,a3,a4,Bool.true_and,Bool.and_true,cond_false,cond_true]
        cases m.drp==1 <;> cases m.drp==0 <;> cases N106 (p.board.getD (scale 1 m.frm).toNat 0)==1 <;> cases p.turn==1 <;> cases z.variant==5 <;> simp
      | true =>
        rw [hd] at e4
        simp only [cond_true] at e4
        rw [e4,l58,e120,o120,o121,i1,i2,i3,i4]
        simp only [a1,a2,a3,a4,Bool.true_and,Bool.and_true,cond_true]
        cases m.drp==1 <;> cases m.drp==0 <;> cases N106 (p.board.getD (scale 1 m.frm).toNat 0)==1 <;> cases p.turn==1 <;> cases z.variant==5 <;> simp
  · rw [N58_end,e79,e3,eEnd]
    rfl
end
end Kz
end
section
namespace Kz
open Go Go.RowKit Go.Proofs
set_option maxRecDepth 100000
set_option maxHeartbeats 4000000
noncomputable def K56:List (Nat×Nat×List (Nat×List Nat)):=[(56,16,[(0,[1]),(1,[1,3]),(2,[1,3]),(3,[1,3]),(4,[2])])]
noncomputable def B56:Base:=baseOf Pz (fun f i=>lkC f i K56) [(113,G113),(114,G114),(115,G115)] [] []
theorem hB56:BOk B56:=base_ok named_z ⟨s113,s114,s115,trivial⟩ trivial trivial
noncomputable def N56 (a:Pos):List Mv:=([]++N113 a++N114 a++N115 a)
noncomputable def ok56 (a:Pos):Bool:=(ok113 (a)&&(0==0&&decide (0+(N113 a).length≤1073741824)&&(ok114 (a)&&(([]++N113 a).length==([]++N113 a).length&&decide (([]++N113 a).length+(N114 a).length≤1073741824)&&(ok115 (a)&&(([]++N113 a++N114 a).length==([]++N113 a++N114 a).length&&decide (([]++N113 a++N114 a).length+(N115 a).length≤1073741824)&&true))))))
theorem P56 (a:Pos) (h:ok56 a=true):PS Pz 56 [Pos.av a] ((dL .mv).res (N56 a)):=ps_sum (n:=14) hB56 (by kernel_rfl) (by kernel_rfl) (by kernel_rfl) h
noncomputable def G56:List AV→Tr AV:=g1 dPos (fun a=>gdv (ok56 a) ((dL .mv).res (N56 a)))
theorem s56:Sound Pz 56 G56:=sound1 fun a=>at_gd (P56 a)
noncomputable def K72:List (Nat×Nat×List (Nat×List Nat)):=[(72,8,[(0,[1,2]),(1,[4])])]
noncomputable def B72:Base:=baseOf Pz (fun f i=>lkC f i K72) [(131,G131)] [] []
theorem hB72:BOk B72:=base_ok named_z ⟨s131,trivial⟩ trivial trivial
noncomputable def N72 (a:Pos) (b:Int):Int:=(N131 (Pos.mk a.variant a.board a.promoted a.pockets a.turn a.rooks a.passing a.checks a.half a.full) b 6)
noncomputable def ok72 (a:Pos) (b:Int):Bool:=(ok131 (Pos.mk a.variant a.board a.promoted a.pockets a.turn a.rooks a.passing a.checks a.half a.full) (b) (6)&&true)
theorem P72 (a:Pos) (b:Int) (h:ok72 a b=true):PS Pz 72 [Pos.av a,.int .u8 b] ((dI .i64).res (N72 a b)):=ps_sum (n:=14) hB72 (by kernel_rfl) (by kernel_rfl) (by kernel_rfl) h
noncomputable def G72:List AV→Tr AV:=g2 dPos (dI .u8) (fun a b=>gdv (ok72 a b) ((dI .i64).res (N72 a b)))
theorem s72:Sound Pz 72 G72:=sound2 fun a b=>at_gd (P72 a b)
noncomputable def K78:List (Nat×Nat×List (Nat×List Nat)):=[(78,48,[(0,(2::3::(rn 21 4 (rn 31 7 (rn 43 4 []))))),(1,(2::3::5::6::(rn 21 4 (rn 31 7 (rn 43 4 []))))),(2,(2::3::5::6::16::(rn 21 4 (rn 31 7 (rn 43 4 []))))),(3,(2::3::5::6::7::(rn 31 7 (rn 43 4 [])))),(4,(2::3::6::38::(rn 43 4 []))),(5,[4]),(6,[4])])]
noncomputable def B78:Base:=baseOf Pz (fun f i=>lkC f i K78) [(47,G47),(72,G72),(77,G77)] [] []
theorem hB78:BOk B78:=base_ok named_z ⟨s47,s72,s77,trivial⟩ trivial trivial
noncomputable def N78 (a:Pos) (b:Pos):Bool:=(bif N77 a.variant a.turn then (bif a.variant==3 then (bif decide (N72 b a.turn < 0) then (false) else (bif !decide (N72 b (wr .u8 (1 - a.turn)) < 0) then (bif N47 b a.turn then (false) else (bif a.variant != 8 then (true) else (!N47 b (wr .u8 (1 - a.turn))))) else (bif a.variant != 8 then (true) else (!N47 b (wr .u8 (1 - a.turn)))))) else (bif decide (N72 b a.turn < 0) then (false) else (bif N47 b a.turn then (false) else (bif a.variant != 8 then (true) else (!N47 b (wr .u8 (1 - a.turn))))))) else (bif a.variant != 8 then (true) else (!N47 b (wr .u8 (1 - a.turn)))))
noncomputable def ok78 (a:Pos) (b:Pos):Bool:=(bif N77 a.variant a.turn then (bif a.variant==3 then (ok72 (b) (wr .u8 (1 - a.turn))&&(ok72 (b) (a.turn)&&(bif decide (N72 b a.turn < 0) then true else (bif !decide (N72 b (wr .u8 (1 - a.turn)) < 0) then (ok47 (b) (a.turn)&&(bif N47 b a.turn then true else (bif a.variant != 8 then true else (ok47 (b) (wr .u8 (1 - a.turn))&&true)))) else (bif a.variant != 8 then true else (ok47 (b) (wr .u8 (1 - a.turn))&&true)))))) else (ok72 (b) (a.turn)&&(bif decide (N72 b a.turn < 0) then true else (ok47 (b) (a.turn)&&(bif N47 b a.turn then true else (bif a.variant != 8 then true else (ok47 (b) (wr .u8 (1 - a.turn))&&true))))))) else (bif a.variant != 8 then true else (ok47 (b) (wr .u8 (1 - a.turn))&&true)))
theorem P78 (a:Pos) (b:Pos) (h:ok78 a b=true):PS Pz 78 [Pos.av a,Pos.av b] (dB.res (N78 a b)):=ps_sum (n:=14) hB78 (by kernel_rfl) (by kernel_rfl) (by kernel_rfl) h
noncomputable def G78:List AV→Tr AV:=g2 dPos dPos (fun a b=>gdv (ok78 a b) (dB.res (N78 a b)))
theorem s78:Sound Pz 78 G78:=sound2 fun a b=>at_gd (P78 a b)
noncomputable def K33:List (Nat×Nat×List (Nat×List Nat)):=[(33,77,[(0,(1::(rn 11 12 (rn 52 7 [71,72,73])))),(1,(1::3::4::(rn 11 12 (rn 52 7 [71,72,73])))),(2,(1::3::4::23::(rn 52 7 [71,72,73]))),(3,[2]),(4,(1::3::4::5::(rn 52 7 [71,72,73]))),(5,(1::(rn 3 4 (rn 52 7 [71,72,73])))),(6,(1::(rn 3 4 (29::(rn 52 7 [71,72,73]))))),(7,(1::(rn 3 4 (rn 52 7 [71,72,73])))),(8,(1::(rn 3 4 (40::(rn 52 7 [71,72,73]))))),(9,(1::(rn 3 4 (rn 52 7 [71,72,73])))),(10,(1::(rn 3 4 (rn 52 8 [71,72,73])))),(11,(1::(rn 3 4 (rn 52 7 [71,72,73])))),(12,[3,4,74]),(13,[2]),(14,[2])])]
noncomputable def B33_1:Base:=baseOf Pz (fun f i=>lkC f i K33) [(19,G19),(56,G56),(58,G58),(72,G72),(77,G77),(78,G78),(79,G79)] [] []
theorem hB33_1:BOk B33_1:=base_ok named_z ⟨s19,s56,s58,s72,s77,s78,s79,trivial⟩ trivial trivial
noncomputable def S33_1 (p1:(List Mv)) (p2:Pos) (p3:Nat) (x:((List Mv)×(List Mv)×Int×Nat)):St:=St.mk (AV.any::AV.ptr 0 0::AV.any::AV.list ET.mv x.fst (Tk.own 1)::AV.list ET.mv x.snd.fst (Tk.own 2)::AV.list ET.mv p1 Tk.fresh::AV.int .i64 x.snd.snd.fst::(an 64 (AV.undef::AV.undef::AV.undef::(an 3 [])))) (Hp.mk [(pc p2 [])] [p3,x.fst.length,x.snd.snd.snd] [] 0 0 0)
noncomputable def O33_1 (p1:(List Mv)) (p2:Pos) (p3:Nat):((List Mv)×(List Mv)×Int×Bool×Nat)→Out:=fun y=>.exit 0 (St.mk (AV.any::AV.ptr 0 0::AV.any::AV.list ET.mv y.fst (Tk.own 1)::AV.list ET.mv y.snd.fst (Tk.own 2)::AV.list ET.mv p1 Tk.fresh::AV.int .i64 y.snd.snd.fst::(an 22 (AV.bool y.snd.snd.snd.fst::(an 41 (AV.undef::AV.undef::AV.undef::(an 3 [])))))) (Hp.mk [(pc p2 [])] [p3,y.fst.length,y.snd.snd.snd.snd] [] 0 0 0))
noncomputable def st33_1 (p1:(List Mv)) (p2:Pos) (p3:Nat) (x:((List Mv)×(List Mv)×Int×Nat)):Stp ((List Mv)×(List Mv)×Int×Nat) (((List Mv)×(List Mv)×Int×Bool×Nat)):=(bif decide (x.snd.snd.fst < Int.ofNat p1.length) then (bif !N78 p2 (N58 p2 (p1.getD x.snd.snd.fst.toNat default)) then (Stp.go (x.fst,x.snd.fst,wr .i64 (x.snd.snd.fst+1),x.snd.snd.snd)) else (bif p2.variant==4 then (bif decide (N79 p2 (p1.getD x.snd.snd.fst.toNat default) ≥ 0) then (Stp.go (x.fst++[p1.getD x.snd.snd.fst.toNat default],x.snd.fst++[p1.getD x.snd.snd.fst.toNat default],wr .i64 (x.snd.snd.fst+1),(x.snd.fst++[p1.getD x.snd.snd.fst.toNat default]).length)) else (Stp.go (x.fst++[p1.getD x.snd.snd.fst.toNat default],x.snd.fst,wr .i64 (x.snd.snd.fst+1),x.snd.snd.snd))) else (Stp.go (x.fst++[p1.getD x.snd.snd.fst.toNat default],x.snd.fst,wr .i64 (x.snd.snd.fst+1),x.snd.snd.snd)))) else (Stp.out ((x.fst,x.snd.fst,x.snd.snd.fst,decide (x.snd.snd.fst < Int.ofNat p1.length),x.snd.snd.snd))))
noncomputable def okL33_1 (p1:(List Mv)) (p2:Pos) (p3:Nat) (x:((List Mv)×(List Mv)×Int×Nat)):Bool:=(bif decide (x.snd.snd.fst < Int.ofNat p1.length) then (decide (0≤x.snd.snd.fst)&&decide (x.snd.snd.fst < Int.ofNat p1.length)&&(ok58 (p2) (p1.getD x.snd.snd.fst.toNat default)&&(ok78 (p2) (N58 p2 (p1.getD x.snd.snd.fst.toNat default))&&(bif !N78 p2 (N58 p2 (p1.getD x.snd.snd.fst.toNat default)) then true else (decide (0≤x.snd.snd.fst)&&decide (x.snd.snd.fst < Int.ofNat p1.length)&&(x.fst.length==x.fst.length&&decide (x.fst.length+1≤1073741824)&&(bif p2.variant==4 then (decide (0≤x.snd.snd.fst)&&decide (x.snd.snd.fst < Int.ofNat p1.length)&&(ok79 (p2) (p1.getD x.snd.snd.fst.toNat default)&&(bif decide (N79 p2 (p1.getD x.snd.snd.fst.toNat default) ≥ 0) then (decide (0≤x.snd.snd.fst)&&decide (x.snd.snd.fst < Int.ofNat p1.length)&&(x.snd.snd.snd==x.snd.fst.length&&decide (x.snd.fst.length+1≤1073741824)&&true)) else true))) else true))))))) else true)
noncomputable def lp33_1 (p1:(List Mv)) (p2:Pos) (p3:Nat) (x:((List Mv)×(List Mv)×Int×Nat)):Option (((List Mv)×(List Mv)×Int×Bool×Nat)):=itl (fun x=>bif okL33_1 p1 p2 p3 x then st33_1 p1 p2 p3 x else .bad) many x
abbrev D33_1 {α:Type} (k:(List Mv)→Pos→Nat→((List Mv)×(List Mv)×Int×Nat)→α) (s:St):α:=wP s 0 fun q0=>k (tL (ET.mv) (tT s 5)) q0 (tK s 0) ((tL (ET.mv) (tT s 3)),(tL (ET.mv) (tT s 4)),(tI (tT s 6)),(tK s 2))
theorem L33_1 (p1:(List Mv)) (p2:Pos) (p3:Nat) (x:((List Mv)×(List Mv)×Int×Nat)) (r:((List Mv)×(List Mv)×Int×Bool×Nat)) (h:lp33_1 p1 p2 p3 x=some r):LSpec Pz (bodL Pz 33 6) (S33_1 p1 p2 p3 x) (O33_1 p1 p2 p3 r):=LSpec.smd (m:=12) (fn:=33) hB33_1 (D33_1 fun _ _ _ x=>some x) (fun o=>match o with | .exit 0 s=>some ((tL ET.mv (tT s 3)),(tL ET.mv (tT s 4)),(tI (tT s 6)),(tB (tT s 29)),(tK s 2)) | _=>none) (fun _=>rfl) (fun _=>by kernel_rfl) (fun _=>by kernel_rfl) (fun _=>by kernel_rfl) (fun _=>by kernel_rfl) many x r h
noncomputable def F33_1 (b:Code) (s:St):Tr Out:=D33_1 (fun p1 p2 p3 x=>lk1 b (bodL Pz 33 6) s (S33_1 p1 p2 p3 x) (lp33_1 p1 p2 p3 x) (O33_1 p1 p2 p3)) s
theorem sF33_1:∀ b,LSound Pz b (F33_1 b):=fun _ _ _ h=>lk1_ok (L33_1 _ _ _ _) h
noncomputable def B33:Base:=baseOf Pz (fun f i=>lkC f i K33) [(19,G19),(56,G56),(58,G58),(72,G72),(77,G77),(78,G78),(79,G79)] [(33,6,F33_1)] []
theorem hB33:BOk B33:=base_ok named_z ⟨s19,s56,s58,s72,s77,s78,s79,trivial⟩ ⟨sF33_1,trivial⟩ trivial
noncomputable def N33 (a:Pos):List Mv:=(bif !N19 a then ([]) else (bif N77 a.variant a.turn then (bif decide (N72 a a.turn < 0) then ([]) else (bif a.variant==4 then (bif decide (Int.ofNat ((lp33_1 (N56 a) a 0 ([],[],0,0)).getD default).snd.fst.length > 0) then (((lp33_1 (N56 a) a 0 ([],[],0,0)).getD default).snd.fst) else (((lp33_1 (N56 a) a 0 ([],[],0,0)).getD default).fst)) else (((lp33_1 (N56 a) a 0 ([],[],0,0)).getD default).fst))) else (bif a.variant==4 then (bif decide (Int.ofNat ((lp33_1 (N56 a) a 0 ([],[],0,0)).getD default).snd.fst.length > 0) then (((lp33_1 (N56 a) a 0 ([],[],0,0)).getD default).snd.fst) else (((lp33_1 (N56 a) a 0 ([],[],0,0)).getD default).fst)) else (((lp33_1 (N56 a) a 0 ([],[],0,0)).getD default).fst))))
noncomputable def ok33 (a:Pos):Bool:=(bif !N19 a then true else (bif N77 a.variant a.turn then (ok72 (a) (a.turn)&&(bif decide (N72 a a.turn < 0) then true else (ok56 (a)&&((lp33_1 (N56 a) a 0 ([],[],0,0)).isSome&&true)))) else (ok56 (a)&&((lp33_1 (N56 a) a 0 ([],[],0,0)).isSome&&true))))
theorem P33 (a:Pos) (h:ok33 a=true):PS Pz 33 [Pos.av a] ((dL .mv).res (N33 a)):=ps_sum (n:=14) hB33 (by kernel_rfl) (by kernel_rfl) (by kernel_rfl) h
noncomputable def G33:List AV→Tr AV:=g1 dPos (fun a=>gdv (ok33 a) ((dL .mv).res (N33 a)))
theorem s33:Sound Pz 33 G33:=sound1 fun a=>at_gd (P33 a)
end Kz
end
