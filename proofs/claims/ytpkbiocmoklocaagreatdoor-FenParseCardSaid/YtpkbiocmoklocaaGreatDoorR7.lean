/- Part 7 of the texts under the proof: an abstract interpreter,the summaries of functions,plain laws. -/
import Derived.Test.YtpkbiocmoklocaaGreatDoorR6
set_option linter.unusedSectionVars false
set_option linter.unusedVariables false
set_option linter.unusedSimpArgs false
set_option linter.unnecessarySimpa false
noncomputable section
namespace Kz
open Go Go.RowKit Go.Proofs
set_option maxRecDepth 100000
theorem Qk:∀ (k u:Nat),u < 10 ^ (k+1)→(32:UInt8) ∉ Lib.decDigits u:=by
 intro k
 induction k with
 | zero =>
  intro u hu hm
  rw [Lib.decDigits] at hm
  rw [dif_pos (show u < 10 by omega)] at hm
  have hu':u < 10:=by omega
  have:∀ v:Fin 10,(32:UInt8) ∉ [UInt8.ofNat (48+v.1)]:=by decide
  exact this ⟨u,hu'⟩ hm
 | succ k ih =>
  intro u hu hm
  rw [Lib.decDigits] at hm
  by_cases h10:u < 10
  ·rw [dif_pos h10] at hm
   have:∀ v:Fin 10,(32:UInt8) ∉ [UInt8.ofNat (48+v.1)]:=by decide
   exact this ⟨u,h10⟩ hm
  ·rw [dif_neg h10] at hm
   rcases List.mem_append.1 hm with hm | hm
   ·exact ih (u / 10) (by rw [Nat.pow_succ] at hu; omega) hm
   ·have:∀ v:Fin 10,(32:UInt8) ∉ [UInt8.ofNat (48+v.1)]:=by decide
    exact this ⟨u % 10,Nat.mod_lt _ (by omega)⟩ hm
theorem I0 {n:Int} (h0:0≤n) (h1:n≤10000):(32:UInt8) ∉ aK n∧(aK n).length≤5∧aK n≠[]:=by
 have e:aK n=Lib.decDigits n.toNat:=by
  rw [kU (by omega) (by omega)]
  unfold Lib.itoa
  rw [if_neg (by omega)]
 rw [e]
 refine ⟨Qk 4 _ (by omega),vo 4 _ (by omega),?_⟩
 rw [Lib.decDigits]
 split
 ·simp
 ·simp
theorem zX {p:Pos} (hp:aR p) (h:wB p≠[]):iP p∧wB p=cG p∧(cG p).length≤200:=by
 obtain ⟨_,a,b⟩:=oc hp
 by_cases hw:iP p
 ·have e:=a hw
  rw [e] at h ⊢
  unfold iJ at h ⊢
  by_cases hl:Int.ofNat (cG p).length > 200
  ·rw [decide_eq_true hl,cond_true] at h
   exact absurd rfl h
  ·rw [decide_eq_false hl,cond_false]
   have:¬ ((cG p).length:Int) > 200:=hl
   exact ⟨hw,rfl,by omega⟩
 ·exact absurd (b hw) h
end Kz
end
noncomputable section
namespace Kz
open Go Go.RowKit Go.Proofs
set_option maxRecDepth 100000
set_option maxHeartbeats 4000000

end Kz
end
noncomputable section
namespace Kz
open Go Go.RowKit Go.Proofs
set_option maxRecDepth 100000
def isLet (b:UInt8):Bool:=(decide (65≤b.toNat)&&decide (b.toNat≤90)) || (decide (97≤b.toNat)&&decide (b.toNat≤122))
def AX (b:UInt8):Bool:=decide (48≤b.toNat)&&decide (b.toNat≤57)
def rI (b:UInt8):Bool:=isLet b || (AX b || b==126)
theorem yR {b:UInt8} (h:rI b=true):b≠32∧b≠47:=by
 refine ⟨?_,?_⟩ <;> rintro rfl <;> exact absurd h (by decide)
theorem Wa:(List.range 256).all (fun n=>bif pX (n:Int) then ((gP (n:Int)).length==1&&(gP (n:Int)).all isLet) else true)=true:=by kernel_rfl
theorem PD {x:Int} (h0:0≤x) (h1:x≤255) (h:pX x=true):(gP x).length=1∧∀ b ∈ gP x,isLet b=true:=by
 have t:=dk Wa h0 (by omega)
 rw [Int.toNat_of_nonneg h0,h,cond_true] at t
 simp only [Bool.and_eq_true,beq_iff_eq,List.all_eq_true] at t
 exact t
theorem WE:(List.range 9).all (fun n=>bif n==0 then true else ((aK (n:Int)).length==1&&(aK (n:Int)).all AX))=true:=by kernel_rfl
theorem KT {e:Int} (h0:0≤e) (h8:e≤8):(fl e).length≤1∧(0 < e→(fl e).length=1)∧∀ b ∈ fl e,AX b=true:=by
 unfold fl
 by_cases h:0 < e
 ·have t:=dk WE h0 (by omega)
  have hz:(e.toNat==0)=false:=by
   rw [beq_eq_false_iff_ne]; omega
  rw [Int.toNat_of_nonneg h0,hz,cond_false] at t
  simp only [Bool.and_eq_true,beq_iff_eq,List.all_eq_true] at t
  rw [decide_eq_true (show e > 0 from h),cond_true]
  exact ⟨by omega,fun _=>t.1,t.2⟩
 ·rw [decide_eq_false (show ¬ e > 0 from h),cond_false]
  exact ⟨by simp,fun h'=>absurd h' h,fun b hb=>by cases hb⟩
def Cu (l:List UInt8):Nat:=l.countP isLet
theorem Ef (a b:List UInt8):Cu (a++b)=Cu a+Cu b:=List.countP_append
theorem EF {l:List UInt8} (h:∀ b ∈ l,isLet b=true):Cu l=l.length:=List.countP_eq_length.2 h
def fS (p:Pos):Prop := ∀ s:Int,0≤s→s < 64→cK p s≠0→pX (cK p s)=true
theorem GD {p:Pos} (hp:aR p) {s:Int} (h:pX (cK p s)=true):Cu (hJ p s)=1∧∀ b ∈ hJ p s,rI b=true:=by
 obtain ⟨a0,a1⟩:=mV hp s
 obtain ⟨l1,l2⟩:=PD a0 a1 h
 unfold hJ
 rw [Ef,EF l2,l1]
 refine ⟨?_,?_⟩
 ·have:Cu (bif bQ p.aa s.toNat then [126] else [])=0:=by
   cases bQ p.aa s.toNat <;> rfl
  omega
 ·intro b hb
  rcases List.mem_append.1 hb with hb | hb
  ·unfold rI; rw [l2 b hb]; rfl
  ·revert hb
   cases bQ p.aa s.toNat with
   | true =>
    rw [cond_true,List.mem_singleton]
    rintro rfl
    rfl
   | false=>intro hb; cases hb
theorem oT {p:Pos} (hp:aR p) (hm:fS p) {r:Int} (r0:0≤r) (r7:r≤7):∀ (k:Nat) (e:Int),k≤8→0≤e→e+k≤8→∀ b ∈ bW p r k e,rI b=true
 | 0,e,_,e0,e8=>fun b hb=>by
  rw [bW] at hb
  unfold rI
  rw [(KT e0 (by omega)).2.2 b hb]
  simp
 | k+1,e,k8,e0,e8=>fun b hb=>by
  rw [bW] at hb
  by_cases h:cK p (8 * r+(7 - k))=0
  ·rw [show (cK p (8 * r+(7 - (k:Int)))==0)=true by simpa using h,cond_true] at hb
   exact oT hp hm r0 r7 k (e+1) (by omega) (by omega) (by omega) b hb
  ·rw [show (cK p (8 * r+(7 - (k:Int)))==0)=false by simpa using h,cond_false] at hb
   rcases List.mem_append.1 hb with hb | hb
   ·unfold rI
    rw [(KT e0 (by omega)).2.2 b hb]
    simp
   ·rcases List.mem_append.1 hb with hb | hb
    ·exact (GD hp (hm _ (by omega) (by omega) h)).2 b hb
    ·exact oT hp hm r0 r7 k 0 (by omega) (by omega) (by omega) b hb
variable {p:Pos} {v:Int}
theorem Bd {v:Int} (h0:0≤v) (h1:v≤255) {s:List UInt8} (hs:s.length≤1000000):Sw v s=true∧(v ≥ 9→(N9 v s).2=2)∧(v < 9→200 < s.length→(N9 v s).2=3)∧(v < 9→s.length≤200→(N9 v s).2=5∨((N9 v s).2=0∧wB (N9 v s).1=s∧RP v (N9 v s).1)):=by
 obtain ⟨k21,hr⟩:=P8 h0 h1 hs
 unfold Sw N9
 rw [k21]
 by_cases h9:v ≥ 9
 ·rw [decide_eq_true h9]
  exact ⟨rfl,fun _=>rfl,fun h=>by omega,fun h=>by omega⟩
 rw [decide_eq_false h9]
 by_cases hl:Int.ofNat s.length > 200
 ·have hl':(s.length:Int) > 200:=hl
  rw [decide_eq_true hl]
  exact ⟨rfl,fun h=>absurd h h9,fun _ _=>rfl,fun _ h=>by omega⟩
 have hl':¬ (s.length:Int) > 200:=hl
 rw [decide_eq_false hl]
 simp only [cond_false,Bool.true_and]
 rcases hr with ⟨e,hq⟩ | e
 ·rw [show ((nK v s).2 != 0)=false by rw [e]; rfl,(oc hq.1).1]
  simp only [cond_false,Bool.true_and]
  refine ⟨trivial,fun h=>absurd h h9,fun _ h=>by omega,fun _ _ => ?_⟩
  by_cases hs2:wB (nK v s).1=s
  ·rw [show (!wB (nK v s).1==s)=false by rw [hs2,beq_self_eq_true]; rfl]
   exact .inr ⟨rfl,hs2,hq⟩
  ·rw [show (!wB (nK v s).1==s)=true by rw [Bool.not_eq_true',beq_eq_false_iff_ne]; exact hs2]
   exact .inl rfl
 ·rw [show ((nK v s).2 != 0)=true by rw [e]; rfl]
  exact ⟨rfl,fun h=>absurd h h9,fun _ h=>by omega,fun _ _=>.inl rfl⟩
theorem lZ {s:List UInt8} {n:Nat} (hn:n < s.length) (hb:s[n].toNat < 128):az s (n:Int)=(s[n].toNat:Int)∧aE s (n:Int)=1:=by
 have e:(ByteArray.get! ⟨s.toArray⟩ n)=s[n]:=by
  show s.toArray[n]! = s[n]
  rw [List.getElem!_toArray,getElem!_pos s n hn]
 have d:Utf8.decode ⟨s.toArray⟩ n=(s[n].toNat,1):=by
  unfold Utf8.decode
  dsimp only
  rw [if_pos (show (ByteArray.get! ⟨s.toArray⟩ (n+0)).toNat < 0x80 by rw [Nat.add_zero,e]; exact hb)]
  show ((ByteArray.get! ⟨s.toArray⟩ n).toNat,1)=_
  rw [e]
 unfold az aE
 rw [Int.toNat_natCast,d]
 exact ⟨rfl,rfl⟩
theorem Xk:(List.range 128).all (fun n=>(Utf8.encode (n:Int)).data.toList==[UInt8.ofNat n])=true:=by kernel_rfl
theorem vk {b:UInt8} (hb:b.toNat < 128):(Utf8.encode (b.toNat:Int)).data.toList=[b]:=by
 have h:=List.all_eq_true.1 Xk b.toNat (List.mem_range.2 hb)
 rw [beq_iff_eq,UInt8.ofNat_toNat] at h
 exact h
theorem W9:(List.range 15).all (fun n=>bif pX (n:Int) then (match gP (n:Int) with | [b]=>decide (b.toNat < 128)&&((fw [b]).1==(n:Int))&&(fw [b]).2&&b != 126&&!(AX b) | _=>false) else true)=true:=by kernel_rfl
theorem V7:(List.range 10).all (fun n => !(fw [UInt8.ofNat (48+n)]).2)=true:=by kernel_rfl
theorem D9:(fw [126]).2=false:=by kernel_rfl
theorem J4 {x:Int} (h0:0≤x) (h1:x≤255) (h:pX x=true):x≤14:=by
 have t:(List.range 256).all (fun n=>bif pX (n:Int) then decide (n≤14) else true)=true:=by kernel_rfl
 have:=dk t h0 (by omega)
 rw [Int.toNat_of_nonneg h0,h,cond_true] at this
 have:=of_decide_eq_true this
 omega
theorem lB {x:Int} (h0:0≤x) (h1:x≤255) (h:pX x=true):∃ b:UInt8,gP x=[b]∧b.toNat < 128∧fw [b]=(x,true)∧b≠126:=by
 have h14:=J4 h0 h1 h
 have t:=dk W9 h0 (by omega)
 rw [Int.toNat_of_nonneg h0,h,cond_true] at t
 split at t
 ·rename_i b e
  simp only [Bool.and_eq_true,decide_eq_true_eq,beq_iff_eq,bne_iff_ne] at t
  obtain ⟨⟨⟨⟨a,c⟩,d⟩,f⟩,_⟩:=t
  exact ⟨b,e,a,Prod.ext c d,f⟩
 ·cases t
theorem jO {X R:Type} {F:X→aF X R} {n:Nat} {x y:X} {r:R} (h:F x=.go y) (hr:dh F n y=some r):dh F (n+1) x=some r:=by
 rw [dh,h]
 exact hr
theorem jN {X R:Type} {F:X→aF X R} {x:X} {r:R} (h:F x=.out r):dh F 1 x=some r:=by
 rw [dh,h]
def F4 (i:Int) (l:List (List UInt8)) (a b:Int) (t:List UInt8) (x:Int×Pos×Int):aF (Int×Pos×Int) ((Pos×Int) ⊕ (Int×Pos×Int)):=bif iU i l a b t x then lU i l a b t x else .bad
variable {i:Int} {l:List (List UInt8)} {a b:Int} {t:List UInt8} {q:Pos} {f:Int} {n:Nat}
theorem O0 (h:n=t.length):F4 i l a b t (f,q,(n:Int))=.out (.inr (f,q,(n:Int))):=by
 unfold F4 iU lU
 dsimp only
 rw [decide_eq_false (show ¬ (n:Int) < Int.ofNat t.length by show ¬ (n:Int) < (t.length:Int); omega)]
 rfl
theorem Dr (hn:n < t.length) {e:Nat} (e1:1≤e) (e8:e≤8) (hb:t[n]=UInt8.ofNat (48+e)) (f0:0≤f) (f1:f≤100):F4 i l a b t (f,q,(n:Int))=.go (f+e,q,((n+1:Nat):Int)):=by
 have hv:t[n].toNat=48+e:=by
  rw [hb,UInt8.toNat_ofNat']
  exact Nat.mod_eq_of_lt (by omega)
 obtain ⟨ra,wa⟩:=lZ hn (by omega)
 have hz:=List.all_eq_true.1 V7 e (List.mem_range.2 (by omega))
 rw [← hb,Bool.not_eq_true'] at hz
 unfold F4 iU lU
 dsimp only
 rw [ra,wa,vk (by omega),(eE [t[n]]).1,hz,hv,decide_eq_true (show (n:Int) < Int.ofNat t.length by show (n:Int) < (t.length:Int); omega)]
 have c126:(((48+e:Nat):Int)==126)=false:=by
  rw [beq_eq_false_iff_ne]; omega
 rw [c126,decide_eq_true (show ((48+e:Nat):Int) ≥ 49 by omega),decide_eq_true (show ((48+e:Nat):Int)≤56 by omega)]
 have w:wr .i64 (f+wr .i64 (wr .i32 (((48+e:Nat):Int) - 48)))=f+e:=by
  rw [show wr .i32 (((48+e:Nat):Int) - 48)=((48+e:Nat):Int) - 48 from IntWalk.i32_in _ ⟨by omega,by omega⟩,bD (n:=((48+e:Nat):Int) - 48) (by omega) (by omega),bD (by omega) (by omega)]
  omega
 rw [w]
 rfl
theorem OO (i0:0≤i) (i7:i≤7) (hn:n < t.length) {x:Int} {c:UInt8} (hb:t[n]=c) (hc:c.toNat < 128) (hx:fw [c]=(x,true)) (f0:0≤f) (f7:f≤7):F4 i l a b t (f,q,(n:Int))=.go (f+1,Pos.mk q.variant (q.ag.set (8 * (7 - i)+f).toNat x) q.aa q.ae q.ao q.ah q.af q.ab q.half q.full,((n+1:Nat):Int)):=by
 subst hb
 obtain ⟨ra,wa⟩:=lZ hn hc
 unfold F4 iU lU
 dsimp only
 rw [ra,wa,vk hc,(eE [t[n]]).1,hx,decide_eq_true (show (n:Int) < Int.ofNat t.length by show (n:Int) < (t.length:Int); omega)]
 rw [show wr .i64 (7 - i)=7 - i from bD (by omega) (by omega),show wr .i64 (8 * (7 - i))=8 * (7 - i) from bD (by omega) (by omega),show wr .i64 (8 * (7 - i)+f)=8 * (7 - i)+f from bD (by omega) (by omega),show wr .i64 (f+1)=f+1 from bD (by omega) (by omega),decide_eq_true (show f < 8 by omega),decide_eq_true (show 0≤8 * (7 - i)+f by omega),decide_eq_true (show 8 * (7 - i)+f < Int.ofNat 64 by show 8 * (7 - i)+f < 64; omega),eO]
 rfl
theorem FD (i0:0≤i) (i7:i≤7) (hn:n < t.length) (hb:t[n]=126) (f0:1≤f) (f8:f≤8):F4 i l a b t (f,q,(n:Int))=.go (f,Pos.mk q.variant q.ag (q.aa|||1#64 <<< (8 * (7 - i)+f - 1).toNat) q.ae q.ao q.ah q.af q.ab q.half q.full,((n+1:Nat):Int)):=by
 have hv:t[n].toNat=126:=by rw [hb]; rfl
 obtain ⟨ra,wa⟩:=lZ hn (by omega)
 unfold F4 iU lU
 dsimp only
 rw [ra,wa,vk (by omega),(eE [t[n]]).1,hv,hb,D9,decide_eq_true (show (n:Int) < Int.ofNat t.length by show (n:Int) < (t.length:Int); omega)]
 rw [show wr .i64 (7 - i)=7 - i from bD (by omega) (by omega),show wr .i64 (8 * (7 - i))=8 * (7 - i) from bD (by omega) (by omega),show wr .i64 (8 * (7 - i)+f)=8 * (7 - i)+f from bD (by omega) (by omega),show wr .i64 (8 * (7 - i)+f - 1)=8 * (7 - i)+f - 1 from bD (by omega) (by omega),decide_eq_true (show f > 0 by omega),decide_eq_true (show 0≤8 * (7 - i)+f - 1 by omega)]
 rfl
structure Rd (p q q':Pos) (lo hi:Int):Prop where
 same:q'.variant=q.variant∧q'.ae=q.ae∧q'.ao=q.ao∧q'.ah=q.ah∧q'.af=q.af∧q'.ab=q.ab∧q'.half=q.half∧q'.full=q.full
 len:q'.ag.length=q.ag.length
 ag:∀ s:Int,0≤s→s < 64→cK q' s=if lo≤s∧s < hi∧cK p s≠0 then cK p s else cK q s
 bits:∀ s:Nat,s < 64→bQ q'.aa s=(bQ q.aa s || (decide (lo≤(s:Int)∧(s:Int) < hi)&&bQ p.aa s))
theorem Rd.refl (p q:Pos) {lo hi:Int} (h:hi≤lo):Rd p q q lo hi :=
 ⟨⟨rfl,rfl,rfl,rfl,rfl,rfl,rfl,rfl⟩,rfl,fun s _ _=>by rw [if_neg (by omega)],fun s _=>by rw [decide_eq_false (by omega),Bool.false_and,Bool.or_false]⟩
theorem Rd.trans {p q q1 q2:Pos} {lo mid hi:Int} (h1:Rd p q q1 lo mid) (h2:Rd p q1 q2 mid hi) (a:lo≤mid) (b:mid≤hi):Rd p q q2 lo hi:=by
 obtain ⟨x1,x2,x3,x4,x5,x6,x7,x8⟩:=h1.same
 obtain ⟨y1,y2,y3,y4,y5,y6,y7,y8⟩:=h2.same
 refine ⟨⟨y1.trans x1,y2.trans x2,y3.trans x3,y4.trans x4,y5.trans x5,y6.trans x6,y7.trans x7,y8.trans x8⟩,h2.len.trans h1.len,fun s s0 s1 => ?_,fun s s1 => ?_⟩
 ·rw [h2.ag s s0 s1,h1.ag s s0 s1]
  by_cases c:cK p s≠0
  ·by_cases c1:mid≤s∧s < hi
   ·rw [if_pos ⟨c1.1,c1.2,c⟩,if_pos ⟨by omega,c1.2,c⟩]
   ·rw [if_neg (fun h=>c1 ⟨h.1,h.2.1⟩)]
    by_cases c2:lo≤s∧s < mid
    ·rw [if_pos ⟨c2.1,c2.2,c⟩,if_pos ⟨c2.1,by omega,c⟩]
    ·rw [if_neg (fun h=>c2 ⟨h.1,h.2.1⟩),if_neg (fun h=>by have:=h.1; have:=h.2.1; omega)]
  ·rw [if_neg (fun h=>c h.2.2),if_neg (fun h=>c h.2.2),if_neg (fun h=>c h.2.2)]
 ·rw [h2.bits s s1,h1.bits s s1,Bool.or_assoc]
  congr 1
  cases bQ p.aa s with
  | false=>simp
  | true =>
   simp only [Bool.and_true]
   by_cases c1:lo≤(s:Int)∧(s:Int) < mid
   ·rw [decide_eq_true c1,decide_eq_true (show lo≤(s:Int)∧(s:Int) < hi by omega),Bool.true_or]
   ·rw [decide_eq_false c1,Bool.false_or]
    exact decide_eq_decide.2 (by omega)
theorem DR (x:BitVec 64) {s:Nat} (hs:s < 64) (j:Nat):bQ (x|||1#64 <<< s) j=(bQ x j || decide (j=s)):=by
 rw [hI,hI,BitVec.toNat_or,Nat.testBit_or]
 congr 1
 have e:(1#64 <<< s).toNat=2 ^ s:=by
  rw [BitVec.toNat_shiftLeft,Nat.shiftLeft_eq]
  have:2 ^ s < 2 ^ 64:=Nat.pow_lt_pow_right (by decide) hs
  show 1 * 2 ^ s % 2 ^ 64=2 ^ s
  rw [Nat.one_mul,Nat.mod_eq_of_lt this]
 rw [e,Nat.testBit_two_pow]
 exact decide_eq_decide.2 eq_comm
theorem Rd.SC {p q:Pos} (hl:q.ag.length=64) {s:Int} (s0:0≤s) (s1:s < 64) (hm:cK p s≠0) {b:BitVec 64} (hb:b=bif bQ p.aa s.toNat then q.aa|||1#64 <<< s.toNat else q.aa):Rd p q (Pos.mk q.variant (q.ag.set s.toNat (cK p s)) b q.ae q.ao q.ah q.af q.ab q.half q.full) s (s+1):=by
 refine ⟨⟨rfl,rfl,rfl,rfl,rfl,rfl,rfl,rfl⟩,List.length_set ..,fun j j0 j1 => ?_,fun j j1 => ?_⟩
 ·unfold cK at hm ⊢
  dsimp only
  by_cases h:j=s
  ·subst h
   rw [if_pos ⟨Int.le_refl _,by omega,hm⟩,List.getD_eq_getElem?_getD,List.getElem?_set_self (by omega)]
   rfl
  ·rw [if_neg (by omega),List.getD_eq_getElem?_getD,List.getElem?_set_ne (by omega),← List.getD_eq_getElem?_getD]
 ·dsimp only
  rw [hb]
  have e:decide (s≤(j:Int)∧(j:Int) < s+1)=decide (j=s.toNat):=decide_eq_decide.2 (by omega)
  rw [e]
  cases hbit:bQ p.aa s.toNat with
  | true =>
   rw [cond_true,DR _ (by omega)]
   by_cases h:j=s.toNat
   ·subst h
    rw [hbit]
    simp
   ·rw [decide_eq_false h]
    simp
  | false =>
   rw [cond_false]
   by_cases h:j=s.toNat
   ·subst h
    rw [hbit]
    simp
   ·rw [decide_eq_false h]
    simp
variable {i:Int} {l:List (List UInt8)} {a b:Int} {t:List UInt8} {p:Pos}
theorem Vp:(List.range 9).all (fun n=>bif n==0 then true else aK (n:Int)==[UInt8.ofNat (48+n)])=true:=by kernel_rfl
theorem vN {e:Nat} (e8:e≤8):fl (e:Int)=if e=0 then [] else [UInt8.ofNat (48+e)]:=by
 unfold fl
 by_cases h:e=0
 ·subst h
  rfl
 ·have t:=List.all_eq_true.1 Vp e (List.mem_range.2 (by omega))
  rw [show (e==0)=false by simpa using h,cond_false,beq_iff_eq] at t
  rw [decide_eq_true (show (e:Int) > 0 by omega),cond_true,if_neg h,t]
theorem BL {e:Nat} (e8:e≤8) {pre rest:List UInt8} (ht:t=pre++(fl (e:Int)++rest)) {f:Int} (f0:0≤f) (f1:f≤8) {q:Pos} {r:(Pos×Int) ⊕ (Int×Pos×Int)} {m:Nat}
  (h:dh (F4 i l a b t) m (f+e,q,(((pre++fl (e:Int)).length:Nat):Int))=some r):∃ m',m'≤m+1∧dh (F4 i l a b t) m' (f,q,((pre.length:Nat):Int))=some r:=by
 rw [vN e8] at ht h
 by_cases he:e=0
 ·subst he
  rw [if_pos rfl,List.append_nil] at h
  exact ⟨m,by omega,by rw [show f=f+((0:Nat):Int) by omega]; exact h⟩
 ·rw [if_neg he] at ht h
  rw [List.length_append,List.length_cons,List.length_nil] at h
  have hn:pre.length < t.length:=by rw [ht]; simp
  have hb:t[pre.length]=UInt8.ofNat (48+e):=by
   subst ht
   rw [List.getElem_append_right (Nat.le_refl _)]
   simp
  exact ⟨m+1,Nat.le_refl _,jO (Dr hn (by omega) e8 hb f0 (by omega)) h⟩
theorem pC (hp:aR p) (hm:fS p) (hbit:∀ s:Nat,s < 64→bQ p.aa s=true→cK p s≠0) (i0:0≤i) (i7:i≤7):∀ (k e:Nat) (pre:List UInt8) (q:Pos),q.ag.length=64→k≤8→e+k≤8→t=pre++bW p (7 - i) k e →
  ∃ m q',m≤4 * k+4∧dh (F4 i l a b t) m ((8:Int) - k - e,q,((pre.length:Nat):Int))=some (.inr (8,q',(t.length:Int)))∧Rd p q q' (8 * (7 - i)+(8 - k)) (8 * (7 - i)+8)
 | 0,e,pre,q,hl,_,he,ht=>by
  rw [bW] at ht
  have ht':t=pre++(fl (e:Int)++[]):=by rw [List.append_nil]; exact ht
  have hend:=jN (O0 (i:=i) (l:=l) (a:=a) (b:=b) (t:=t) (q:=q) (f:=8) (n:=(pre++fl (e:Int)).length) (by rw [ht]))
  obtain ⟨m',h1,h2⟩:=BL (i:=i) (l:=l) (a:=a) (b:=b) (f:=(8:Int) - ((0:Nat):Int) - e) (q:=q) (m:=1) (r := .inr (8,q,(t.length:Int))) (by omega) ht' (by omega) (by omega) (by
   rw [show (8:Int) - ((0:Nat):Int) - e+e=8 by omega,hend]
   rw [← ht])
  exact ⟨m',q,by omega,h2,Rd.refl p q (by omega)⟩
 | k+1,e,pre,q,hl,hk,he,ht=>by
  rw [bW] at ht
  by_cases hz:cK p (8 * (7 - i)+(7 - (k:Int)))=0
  ·rw [show (cK p (8 * (7 - i)+(7 - (k:Int)))==0)=true by rw [hz]; rfl,cond_true] at ht
   obtain ⟨m,q',h1,h2,h3⟩:=pC hp hm hbit i0 i7 k (e+1) pre q hl (by omega) (by omega) (by rw [ht]; congr 1)
   refine ⟨m,q',by omega,?_,?_⟩
   ·rw [show (8:Int) - ((k+1:Nat):Int) - (e:Int)=8 - (k:Int) - ((e+1:Nat):Int) by omega]
    exact h2
   ·refine ⟨h3.same,h3.len,fun s s0 s1 => ?_,fun s s1 => ?_⟩
    ·rw [h3.ag s s0 s1]
     by_cases hs:s=8 * (7 - i)+(7 - (k:Int))
     ·subst hs
      rw [if_neg (fun h=>h.2.2 hz),if_neg (fun h=>h.2.2 hz)]
     ·by_cases hc:8 * (7 - i)+(8 - (k:Int))≤s∧s < 8 * (7 - i)+8∧cK p s≠0
      ·rw [if_pos hc,if_pos ⟨by omega,hc.2⟩]
      ·rw [if_neg hc,if_neg (fun h=>hc ⟨by omega,h.2⟩)]
    ·rw [h3.bits s s1]
     congr 1
     by_cases hs:(s:Int)=8 * (7 - i)+(7 - (k:Int))
     ·have:bQ p.aa s=false:=by
       cases hb:bQ p.aa s with
       | false=>rfl
       | true =>
        have:=hbit s s1 hb
        rw [hs] at this
        exact absurd hz this
      rw [this,Bool.and_false,Bool.and_false]
     ·congr 1
      exact decide_eq_decide.2 (by omega)
  ·rw [show (cK p (8 * (7 - i)+(7 - (k:Int)))==0)=false by simpa using hz,cond_false] at ht
   have s0:0≤8 * (7 - i)+(7 - (k:Int)):=by omega
   have s1:8 * (7 - i)+(7 - (k:Int)) < 64:=by omega
   have hin:=mV hp (8 * (7 - i)+(7 - (k:Int)))
   obtain ⟨c,l1,l2,l3,l4⟩:=lB hin.1 hin.2 (hm _ s0 s1 hz)
   unfold hJ at ht
   rw [l1] at ht
   generalize hs:8 * (7 - i)+(7 - (k:Int))=s at *
   have key:∀ (pre2:List UInt8) (q2:Pos),q2.ag.length=64→t=pre2++bW p (7 - i) k 0→Rd p q q2 s (s+1)→∃ m q',m≤4 * k+4∧dh (F4 i l a b t) m ((8:Int) - k,q2,((pre2.length:Nat):Int))=some (.inr (8,q',(t.length:Int)))∧Rd p q q' s (8 * (7 - i)+8):=by
    intro pre2 q2 hl2 ht2 hR
    obtain ⟨m,q',h1,h2,h3⟩:=pC hp hm hbit i0 i7 k 0 pre2 q2 hl2 (by omega) (by omega) ht2
    refine ⟨m,q',h1,?_,?_⟩
    ·rw [show (8:Int) - (k:Int)=8 - (k:Int) - ((0:Nat):Int) by omega]
     exact h2
    ·rw [show 8 * (7 - i)+(8 - (k:Int))=s+1 by omega] at h3
     exact hR.trans h3 (by omega) (by omega)
   have fin:∃ m q',m≤4 * k+6∧dh (F4 i l a b t) m ((7:Int) - k,q,(((pre++fl (e:Int)).length:Nat):Int))=some (.inr (8,q',(t.length:Int)))∧Rd p q q' s (8 * (7 - i)+8):=by
    have hn:(pre++fl (e:Int)).length < t.length:=by
     rw [ht]
     simp only [List.length_append,List.length_cons]
     omega
    have hb:t[(pre++fl (e:Int)).length]=c:=by
     have:t=(pre++fl (e:Int))++(c::((bif bQ p.aa s.toNat then [126] else [])++bW p (7 - i) k 0)):=by
      rw [ht]
      simp only [List.append_assoc,List.cons_append,List.nil_append]
     rw [List.getElem_of_eq this,List.getElem_append_right (Nat.le_refl _)]
     simp
    have st:=OO (l:=l) (a:=a) (b:=b) (q:=q) (f:=(7:Int) - k) i0 i7 hn hb l2 l3 (by omega) (by omega)
    rw [show 8 * (7 - i)+((7:Int) - k)=s by omega,show (7:Int) - (k:Int)+1=8 - k by omega] at st
    cases hbt:bQ p.aa s.toNat with
    | false =>
     rw [hbt,cond_false,List.append_nil] at ht
     obtain ⟨m,q',h1,h2,h3⟩:=key (pre++fl (e:Int)++[c]) _ (by rw [List.length_set]; exact hl) (by rw [ht]; simp only [List.append_assoc]) (Rd.SC hl s0 s1 hz (b:=q.aa) (by rw [hbt]; rfl))
     refine ⟨m+1,q',by omega,jO st ?_,h3⟩
     rw [List.length_append,List.length_cons,List.length_nil] at h2
     exact h2
    | true =>
     rw [hbt,cond_true] at ht
     obtain ⟨m,q',h1,h2,h3⟩:=key (pre++fl (e:Int)++[c]++[126]) _ (by rw [List.length_set]; exact hl) (by rw [ht]; simp only [List.append_assoc]) (Rd.SC hl s0 s1 hz (b:=q.aa|||1#64 <<< s.toNat) (by rw [hbt]; rfl))
     have hn2:(pre++fl (e:Int)).length+1 < t.length:=by
      rw [ht]
      simp only [List.length_append,List.length_cons]
      omega
     have hb2:t[(pre++fl (e:Int)).length+1]=126:=by
      have:t=(pre++fl (e:Int)++[c])++(126::bW p (7 - i) k 0):=by
       rw [ht]
       simp only [List.append_assoc,List.cons_append,List.nil_append]
      have e2:(pre++fl (e:Int)).length+1=(pre++fl (e:Int)++[c]).length:=by
       simp only [List.length_append,List.length_cons,List.length_nil]
      have g:t[(pre++fl (e:Int)).length+1]?=some 126:=by
       rw [e2,this,List.getElem?_append_right (Nat.le_refl _),Nat.sub_self]
       rfl
      exact (List.getElem?_eq_some_iff.1 g).2
     have st2:=FD (l:=l) (a:=a) (b:=b) (q:=Pos.mk q.variant (q.ag.set s.toNat (cK p s)) q.aa q.ae q.ao q.ah q.af q.ab q.half q.full) (f:=(8:Int) - k) i0 i7 hn2 hb2 (by omega) (by omega)
     rw [show 8 * (7 - i)+((8:Int) - k) - 1=s by omega] at st2
     refine ⟨m+2,q',by omega,jO st (jO st2 ?_),h3⟩
     rw [List.length_append,List.length_append,List.length_cons,List.length_nil,List.length_cons,List.length_nil] at h2
     exact h2
   obtain ⟨m,q',h1,h2,h3⟩:=fin
   obtain ⟨m',g1,g2⟩:=BL (i:=i) (l:=l) (a:=a) (b:=b) (f:=(8:Int) - ((k+1:Nat):Int) - e) (by omega) ht (by omega) (by omega) (by
    rw [show (8:Int) - ((k+1:Nat):Int) - e+e=7 - k by omega]
    exact h2)
   refine ⟨m',q',by omega,g2,?_⟩
   rw [show 8 * (7 - i)+((8:Int) - ((k+1:Nat):Int))=s by omega]
   exact h3
theorem JB (a:Int) (b:List (List UInt8)) (c:Int) (d:Int) (e:List UInt8) (f:Int) (t:List UInt8) (x:Int×Pos×Int):eZ a b c d e f t x=eN a b c d t x:=rfl
theorem Rd.trans' {p q q1 q2:Pos} {lo mid hi:Int} (h1:Rd p q q1 mid hi) (h2:Rd p q1 q2 lo mid) (a:lo≤mid) (b:mid≤hi):Rd p q q2 lo hi:=by
 obtain ⟨x1,x2,x3,x4,x5,x6,x7,x8⟩:=h1.same
 obtain ⟨y1,y2,y3,y4,y5,y6,y7,y8⟩:=h2.same
 refine ⟨⟨y1.trans x1,y2.trans x2,y3.trans x3,y4.trans x4,y5.trans x5,y6.trans x6,y7.trans x7,y8.trans x8⟩,h2.len.trans h1.len,fun s s0 s1 => ?_,fun s s1 => ?_⟩
 ·rw [h2.ag s s0 s1,h1.ag s s0 s1]
  by_cases c:cK p s≠0
  ·by_cases c1:lo≤s∧s < mid
   ·rw [if_pos ⟨c1.1,c1.2,c⟩,if_pos ⟨c1.1,by omega,c⟩]
   ·rw [if_neg (fun h=>c1 ⟨h.1,h.2.1⟩)]
    by_cases c2:mid≤s∧s < hi
    ·rw [if_pos ⟨c2.1,c2.2,c⟩,if_pos ⟨by omega,c2.2,c⟩]
    ·rw [if_neg (fun h=>c2 ⟨h.1,h.2.1⟩),if_neg (fun h=>by have:=h.1; have:=h.2.1; omega)]
  ·rw [if_neg (fun h=>c h.2.2),if_neg (fun h=>c h.2.2),if_neg (fun h=>c h.2.2)]
 ·rw [h2.bits s s1,h1.bits s s1,Bool.or_assoc]
  congr 1
  cases bQ p.aa s with
  | false=>simp
  | true =>
   simp only [Bool.and_true]
   by_cases c1:mid≤(s:Int)∧(s:Int) < hi
   ·rw [decide_eq_true c1,decide_eq_true (show lo≤(s:Int)∧(s:Int) < hi by omega),Bool.true_or]
   ·rw [decide_eq_false c1,Bool.false_or]
    exact decide_eq_decide.2 (by omega)
theorem Ip {p:Pos} (hp:aR p) (hm:fS p) (hbit:∀ s:Nat,s < 64→bQ p.aa s=true→cK p s≠0) {i:Int} (i0:0≤i) (i7:i≤7) {q:Pos} (hl:q.ag.length=64) (l:List (List UInt8)) (a b:Int) :
  ∃ q' n,eN i l a b (bW p (7 - i) 8 0) (0,q,0)=some (.inr (8,q',n))∧Rd p q q' (8 * (7 - i)) (8 * (7 - i)+8):=by
 obtain ⟨m,q',h1,h2,h3⟩:=pC (l:=l) (a:=a) (b:=b) hp hm hbit i0 i7 8 0 [] q hl (by omega) (by omega) (t:=bW p (7 - i) 8 0) rfl
 refine ⟨q',_,eS (n:=m) (Nat.le_trans h1 (by unfold many; omega)) h2,?_⟩
 have e:8 * (7 - i)+((8:Int) - ((8:Nat):Int))=8 * (7 - i):=by omega
 rw [e] at h3
 exact h3
theorem GB {p:Pos} (hp:aR p) (hm:fS p) (hbit:∀ s:Nat,s < 64→bQ p.aa s=true→cK p s≠0) {l:List (List UInt8)} (hl8:l.length=8) (hl:∀ j:Nat,j < 8→l.getD j default=bW p (7 - (j:Int)) 8 0) {j:Nat} (hj:j < 8) {q:Pos} (hq:q.ag.length=64) (s:List UInt8) (n:Int) :
  ∃ q',(bif kf l 8 ((j:Int),q) then nw l 8 ((j:Int),q) else .bad)=.go (((j+1:Nat):Int),q')∧(bif j6 l 8 s n ((j:Int),q) then nD l 8 s n ((j:Int),q) else .bad)=.go (((j+1:Nat):Int),q')∧Rd p q q' (8 * (7 - (j:Int))) (8 * (7 - (j:Int))+8):=by
 obtain ⟨q',m,h1,h2⟩:=Ip hp hm hbit (i:=(j:Int)) (by omega) (by omega) hq l 8 (j:Int)
 have w:wr .i64 ((j:Int)+1)=((j+1:Nat):Int):=(bD (by omega) (by omega)).trans (by omega)
 have d1:decide ((j:Int) < 8)=true:=decide_eq_true (by omega)
 have d2:decide (0≤(j:Int))=true:=decide_eq_true (by omega)
 have d3:decide ((j:Int) < Int.ofNat l.length)=true:=decide_eq_true (by rw [hl8]; show (j:Int) < (8:Nat); omega)
 have e:l.getD (j:Int).toNat default=bW p (7 - (j:Int)) 8 0:=hl j hj
 refine ⟨q',?_,?_,h2⟩
 ·unfold kf nw
  dsimp only
  rw [e,h1,d1,d2,d3,w]
  rfl
 ·unfold j6 nD
  dsimp only
  simp only [JB]
  rw [e,h1,d1,d2,d3,w]
  rfl
theorem uN (l:List (List UInt8)) (s:List UInt8) (n:Int) (q:Pos):(bif kf l 8 (((8:Nat):Int),q) then nw l 8 (((8:Nat):Int),q) else .bad)=.out (.inr (8,false,q))∧(bif j6 l 8 s n (((8:Nat):Int),q) then nD l 8 s n (((8:Nat):Int),q) else .bad)=.out (.inr (8,false,q)):=⟨rfl,rfl⟩
theorem tC {p:Pos} (hp:aR p) (hm:fS p) (hbit:∀ s:Nat,s < 64→bQ p.aa s=true→cK p s≠0) {l:List (List UInt8)} (hl8:l.length=8) (hl:∀ j:Nat,j < 8→l.getD j default=bW p (7 - (j:Int)) 8 0) (s:List UInt8) (n:Int):∀ (k j:Nat) (q:Pos),j+k=8→q.ag.length=64 →
  ∃ q',dh (fun x=>bif kf l 8 x then nw l 8 x else .bad) (k+1) ((j:Int),q)=some (.inr (8,false,q'))∧dh (fun x=>bif j6 l 8 s n x then nD l 8 s n x else .bad) (k+1) ((j:Int),q)=some (.inr (8,false,q'))∧Rd p q q' 0 (8 * (k:Int))
 | 0,j,q,hj,hq=>by
  obtain rfl:j=8:=by omega
  exact ⟨q,jN (uN l s n q).1,jN (uN l s n q).2,Rd.refl p q (by omega)⟩
 | k+1,j,q,hj,hq=>by
  obtain ⟨q1,h1,h2,h3⟩:=GB hp hm hbit hl8 hl (j:=j) (by omega) hq s n
  obtain ⟨q',g1,g2,g3⟩:=tC hp hm hbit hl8 hl s n k (j+1) q1 (by omega) (h3.len.trans hq)
  refine ⟨q',jO h1 g1,jO h2 g2,?_⟩
  have e:8 * (7 - (j:Int))=8 * (k:Int):=by omega
  rw [e] at h3
  rw [show 8 * ((k+1:Nat):Int)=8 * (k:Int)+8 by omega]
  exact h3.trans' g3 (by omega) (by omega)
theorem xH {p:Pos} (hp:aR p) (hm:fS p) (hbit:∀ s:Nat,s < 64→bQ p.aa s=true→cK p s≠0) {l:List (List UInt8)} (hl8:l.length=8) (hl:∀ j:Nat,j < 8→l.getD j default=bW p (7 - (j:Int)) 8 0) (s:List UInt8) (n:Int) {q:Pos} (hq:q.ag.length=64) :
  ∃ q',gp l 8 (0,q)=some (.inr (8,false,q'))∧df l 8 s n (0,q)=some (.inr (8,false,q'))∧Rd p q q' 0 64:=by
 obtain ⟨q',h1,h2,h3⟩:=tC hp hm hbit hl8 hl s n 8 0 q (by omega) hq
 exact ⟨q',eS (n:=9) (by unfold many; omega) h1,eS (n:=9) (by unfold many; omega) h2,h3⟩
end Kz
end
noncomputable section
namespace Kz
open Go Go.RowKit Go.Proofs
set_option maxRecDepth 100000
set_option maxHeartbeats 4000000



end Kz
end
noncomputable section
namespace Kz
open Go Go.RowKit Go.Proofs
set_option maxRecDepth 100000
structure YO (p q:Pos) (s0:Int):Prop where
 lo:0≤s0
 hi:s0 < 64
 pr:q.aa=p.aa
 e0:cK p s0=0
 SC:pX (cK q s0)=true
 ne:cK q s0≠0
 bit:bQ p.aa s0.toNat=false
 same:∀ s:Int,0≤s→s < 64→s≠s0→cK q s=cK p s
variable {p q:Pos} {s0:Int}
theorem WW:(List.range 12).all (fun n=>(gP (gX ((n / 6:Nat):Int) ((n % 6:Nat):Int))).all (fun b=>b != 32))=true:=by kernel_rfl
theorem EB {s:List UInt8} {P:UInt8→Prop} (h:∀ b ∈ s,P b):∀ n:Nat,∀ b ∈ Lib.repeatL s n,P b
 | 0,b,hb=>by cases hb
 | n+1,b,hb=>by
  rw [rV] at hb
  rcases List.mem_append.1 hb with hb | hb
  ·exact EB h n b hb
  ·exact h b hb
theorem KX (p:Pos):∀ n:Nat,n≤12→∀ b ∈ gF p n,b≠32
 | 0,_,b,hb=>by cases hb
 | n+1,hn,b,hb=>by
  rw [gF] at hb
  rcases List.mem_append.1 hb with hb | hb
  ·unfold xb at hb
   refine EB (P:=fun b=>b≠32) (fun x hx => ?_) _ b hb
   have:=List.all_eq_true.1 WW (11 - n) (List.mem_range.2 (by omega))
   simpa using List.all_eq_true.1 this x hx
  ·exact KX p n (by omega) b hb
theorem LO (hp:aR p) (hm:fS p):∀ k:Nat,k≤8→∀ b ∈ dW p k,b≠32
 | 0,_,b,hb=>by cases hb
 | k+1,k8,b,hb=>by
  rw [dW] at hb
  rcases List.mem_append.1 hb with hb | hb
  ·exact (yR (oT hp hm (r:=(k:Int)) (by omega) (by omega) 8 0 (by omega) (by omega) (by omega) b hb)).1
  ·rcases List.mem_append.1 hb with hb | hb
   ·revert hb
    cases decide (0 < k) with
    | true =>
     rw [cond_true,List.mem_singleton]
     rintro rfl
     decide
    | false=>intro hb; cases hb
   ·exact LO hp hm k (by omega) b hb
theorem O4 (hp:aR p) (hm:fS p):∀ b ∈ gj p,b≠32:=by
 intro b hb
 unfold gj at hb
 have h8:=LO hp hm 8 (by omega)
 revert hb
 cases ql p.variant with
 | true =>
  rw [cond_true]
  intro hb
  rcases List.mem_append.1 hb with hb | hb
  ·exact h8 b hb
  ·rcases List.mem_cons.1 hb with rfl | hb
   ·decide
   ·rcases List.mem_append.1 hb with hb | hb
    ·exact KX p 12 (by omega) b hb
    ·rw [List.mem_singleton] at hb
     subst hb
     decide
 | false=>exact h8 b
theorem Ho (h:iP p):fS p:=by
 obtain ⟨_,_,_,_,_,_,_,_,h,_⟩:=h
 intro s s0 s1 hs
 obtain ⟨n,rfl⟩:=Int.eq_ofNat_of_zero_le s0
 exact (h n (by omega)).1 hs
theorem qw {c:UInt8}:∀ {a:List UInt8},(∀ b ∈ a,b≠c)→mK c a=[a]
 | [],_=>rfl
 | b::l,h=>by
  unfold mK
  rw [if_neg (by simpa using h b (List.mem_cons_self ..)),qw fun x hx=>h x (List.mem_cons_of_mem _ hx)]
theorem dj {c:UInt8} (t:List UInt8):∀ {a:List UInt8},(∀ b ∈ a,b≠c)→mK c (a++c::t)=a::mK c t
 | [],_=>by
  show mK c (c::t)=_
  rw [mK,if_pos (by simp)]
 | b::l,h=>by
  show mK c (b::(l++c::t))=_
  rw [mK,if_neg (by simpa using h b (List.mem_cons_self ..)),dj t fun x hx=>h x (List.mem_cons_of_mem _ hx)]
theorem yo {p:Pos} (hp:aR p) (hm:fS p):∀ k:Nat,k < 8→(mK 47 (dW p (k+1))).length=k+1∧∀ j:Nat,j < k+1→(mK 47 (dW p (k+1))).getD j default=bW p ((k:Int) - j) 8 0
 | 0,_=>by
  have hno:∀ b ∈ bW p ((0:Nat):Int) 8 0,b≠47:=fun b hb=>(yR (oT hp hm (by omega) (by omega) 8 0 (by omega) (by omega) (by omega) b hb)).2
  have e:dW p (0+1)=bW p ((0:Nat):Int) 8 0:=by
   rw [dW,dW]
   exact List.append_nil _
  rw [e,qw hno]
  refine ⟨rfl,fun j hj => ?_⟩
  obtain rfl:j=0:=by omega
  rfl
 | k+1,hk=>by
  have hno:∀ b ∈ bW p ((k+1:Nat):Int) 8 0,b≠47:=fun b hb=>(yR (oT hp hm (by omega) (by omega) 8 0 (by omega) (by omega) (by omega) b hb)).2
  have e:dW p (k+1+1)=bW p ((k+1:Nat):Int) 8 0++47::dW p (k+1):=by
   rw [dW,decide_eq_true (Nat.succ_pos k)]
   rfl
  obtain ⟨h1,h2⟩:=yo hp hm k (by omega)
  rw [e,dj _ hno]
  refine ⟨by rw [List.length_cons,h1],fun j hj => ?_⟩
  match j with
  | 0=>simp
  | j+1 =>
   rw [List.getD_cons_succ,h2 j (by omega)]
   congr 1
   omega
theorem FM {p:Pos} (hp:aR p) (hm:fS p):(ai (dW p 8) [47]).length=8∧∀ j:Nat,j < 8→(ai (dW p 8) [47]).getD j default=bW p (7 - (j:Int)) 8 0 :=
 yo hp hm 7 (by omega)
theorem CD {p q:Pos} (hp:p.ag.length=64) (hq:q.ag.length=64) (h:∀ s:Int,0≤s→s < 64→cK q s=cK p s):q.ag=p.ag:=by
 refine List.ext_getElem (hq.trans hp.symm) fun n h1 h2 => ?_
 have:=h (n:Int) (by omega) (by omega)
 unfold cK at this
 rw [Int.toNat_natCast,List.getD_eq_getElem?_getD,List.getD_eq_getElem?_getD,List.getElem?_eq_getElem h1,List.getElem?_eq_getElem h2] at this
 exact this
theorem ss {x y:BitVec 64} (h:∀ s:Nat,s < 64→bQ x s=bQ y s):x=y:=by
 refine BitVec.eq_of_getLsbD_eq fun i hi => ?_
 have:=h i hi
 rw [hI,hI] at this
 exact this
theorem Rd.whole {p q q':Pos} (hp:p.ag.length=64) (hq:q.ag=List.replicate 64 0) (h0:q.aa=0) (h:Rd p q q' 0 64):q'=Pos.mk q.variant p.ag p.aa q.ae q.ao q.ah q.af q.ab q.half q.full:=by
 obtain ⟨x1,x2,x3,x4,x5,x6,x7,x8⟩:=h.same
 have b:q'.ag=p.ag:=by
  refine CD hp (h.len.trans (by rw [hq]; rfl)) fun s s0 s1 => ?_
  rw [h.ag s s0 s1]
  by_cases c:cK p s=0
  ·rw [if_neg (fun h=>h.2.2 c),c]
   unfold cK
   rw [hq,List.getD_eq_getElem?_getD]
   cases hg:(List.replicate 64 (0:Int))[s.toNat]? with
   | none=>rfl
   | some x=>exact List.eq_of_mem_replicate (List.mem_of_getElem? hg)
  ·rw [if_pos ⟨s0,s1,c⟩]
 have m:q'.aa=p.aa:=by
  refine ss fun s s1 => ?_
  rw [h.bits s s1,decide_eq_true (by omega),Bool.true_and,h0]
  have:bQ 0 s=false:=by
   rw [hI]
   simp
  rw [this,Bool.false_or]
 cases q'
 dsimp only at *
 subst b m x1 x2 x3 x4 x5 x6 x7 x8
 rfl
theorem SS:(List.range 12).all (fun i=>bif i % 6==0 then true else (match gP (gX ((i / 6:Nat):Int) ((i % 6:Nat):Int)) with
 | [b]=>decide (b.toNat < 128)&&(fw [b]).2&&(nF (fw [b]).1==((i % 6:Nat):Int))&&(rh (fw [b]).1==((i / 6:Nat):Int))&&sT (fw [b]).1&&yn (fw [b]).1&&(b != 91)&&(b != 93)
 | _=>false))=true:=by kernel_rfl
structure Rg (i:Nat) (b:UInt8):Prop where
 lt:b.toNat < 128
 ok:(fw [b]).2=true
 kind:nF (fw [b]).1=((i % 6:Nat):Int)
 side:rh (fw [b]).1=((i / 6:Nat):Int)
 UW:sT (fw [b]).1=true
 WO:yn (fw [b]).1=true
 no:b≠91∧b≠93
theorem uM {i:Nat} (h:i < 12) (h0:i % 6≠0):∃ b,gP (gX ((i / 6:Nat):Int) ((i % 6:Nat):Int))=[b]∧Rg i b:=by
 have t:=List.all_eq_true.1 SS i (List.mem_range.2 h)
 rw [show (i % 6==0)=false by simpa using h0,cond_false] at t
 revert t
 generalize gP (gX ((i / 6:Nat):Int) ((i % 6:Nat):Int))=l
 match l with
 | []=>intro t; cases t
 | [b] =>
  intro t
  simp only [Bool.and_eq_true,decide_eq_true_eq,beq_iff_eq,bne_iff_ne] at t
  obtain ⟨⟨⟨⟨⟨⟨⟨t1,t2⟩,t3⟩,t4⟩,t5⟩,t6⟩,t7⟩,t8⟩:=t
  exact ⟨b,rfl,t1,t2,t3,t4,t5,t6,t7,t8⟩
 | _::_::_=>intro t; cases t
def F1 (s t:List UInt8) (x:Pos×Int):aF (Pos×Int) ((Pos×Int) ⊕ (Pos×Int)):=bif mG s t x then po s t x else .bad
def fX (q:Pos) (k:List Int):Pos:=Pos.mk q.variant q.ag q.aa k q.ao q.ah q.af q.ab q.half q.full
variable {s t:List UInt8} {q:Pos} {n:Nat}
theorem Qj (h:n=t.length):F1 s t (q,(n:Int))=.out (.inr (q,(n:Int))):=by
 unfold F1 mG po
 dsimp only
 have d:decide ((n:Int) < Int.ofNat t.length)=false:=decide_eq_false (by show ¬ (n:Int) < (t.length:Int); omega)
 simp only [d,cond_false,cond_true]
theorem OK {K:List Int} {i:Nat} (hi:i < 12) {b:UInt8} (hp:Rg i b) (hn:n < t.length) (hb:t[n]=b) (k0:0≤K.getD i 0) (k1:K.getD i 0+1≤255):F1 s t (fX q K,(n:Int))=.go (fX q (K.set i (K.getD i 0+1)),((n+1:Nat):Int)):=by
 obtain ⟨ra,wa⟩:=lZ hn (by rw [hb]; exact hp.lt)
 have hx:(scale 6 ((i / 6:Nat):Int)+scale 1 ((i % 6:Nat):Int)).toNat=i:=by
  rw [sF,eO]
  omega
 have w8:wr .u8 (K.getD i 0+1)=K.getD i 0+1:=IntWalk.u8_in _ ⟨by omega,by omega⟩
 unfold F1 mG po
 dsimp only
 rw [ra,wa,vk (by rw [hb]; exact hp.lt),(eE [t[n]]).1,hb,hp.ok,hp.UW,hp.WO,hp.kind,hp.side,decide_eq_true (show (n:Int) < Int.ofNat t.length by show (n:Int) < (t.length:Int); omega),
  decide_eq_true (show ((i % 6:Nat):Int)≤5 by omega),decide_eq_true (show (0:Int)≤((i % 6:Nat):Int) by omega),decide_eq_true (show (0:Int)≤((i / 6:Nat):Int) by omega),decide_eq_true (show ((i / 6:Nat):Int) < Int.ofNat 2 by show ((i / 6:Nat):Int) < 2; omega),decide_eq_true (show ((i % 6:Nat):Int) < Int.ofNat 6 by show ((i % 6:Nat):Int) < 6; omega),hx]
 show aF.go (fX q (K.set i (wr .u8 (K.getD i 0+1))),(n:Int)+1)=_
 rw [w8]
 rfl
theorem FU {i:Nat} (hi:i < 12) {b:UInt8} (hp:Rg i b) {r:(Pos×Int) ⊕ (Pos×Int)} {N:Nat} {rest:List UInt8}:∀ (m:Nat) (pre:List UInt8) (K:List Int),K.length=12→t=pre++(Lib.repeatL [b] m++rest)→0≤K.getD i 0→K.getD i 0+m≤255 →
  dh (F1 s t) N (fX q (K.set i (K.getD i 0+m)),(((pre++Lib.repeatL [b] m).length:Nat):Int))=some r→dh (F1 s t) (N+m) (fX q K,((pre.length:Nat):Int))=some r
 | 0,pre,K,hK,ht,h0,h1,h=>by
  have e:K.set i (K.getD i 0+((0:Nat):Int))=K:=by
   rw [show K.getD i 0+((0:Nat):Int)=K[i]'(by omega) by rw [List.getD_eq_getElem?_getD,List.getElem?_eq_getElem (by omega)]; simp]
   exact List.set_getElem_self _
  rw [e] at h
  rw [show Lib.repeatL [b] 0=[] from rfl,List.append_nil] at h
  exact h
 | m+1,pre,K,hK,ht,h0,h1,h=>by
  have ht':t=(pre++[b])++(Lib.repeatL [b] m++rest):=by
   rw [ht]
   show pre++([b]++Lib.repeatL [b] m++rest)=_
   simp only [List.append_assoc]
  have hn:pre.length < t.length:=by rw [ht']; simp
  have hb:t[pre.length]=b:=by
   have g:t[pre.length]?=some b:=by
    rw [ht',List.append_assoc,List.getElem?_append_right (Nat.le_refl _),Nat.sub_self]
    rfl
   exact (List.getElem?_eq_some_iff.1 g).2
  have g1:(K.set i (K.getD i 0+1)).getD i 0=K.getD i 0+1:=by
   rw [List.getD_eq_getElem?_getD,List.getElem?_set_self (by omega)]
   rfl
  have st:=OK (s:=s) (q:=q) hi hp hn hb h0 (by omega)
  have ih:=FU hi hp (r:=r) (N:=N) (rest:=rest) m (pre++[b]) (K.set i (K.getD i 0+1)) (by rw [List.length_set]; exact hK) ht' (by rw [g1]; omega) (by rw [g1]; omega) (by
   rw [g1,List.set_set]
   rw [show K.getD i 0+1+(m:Int)=K.getD i 0+((m+1:Nat):Int) by omega]
   rw [show pre++[b]++Lib.repeatL [b] m=pre++Lib.repeatL [b] (m+1) by
    show _=pre++([b]++Lib.repeatL [b] m)
    rw [List.append_assoc]]
   exact h)
  rw [show N+(m+1)=N+m+1 by omega]
  refine jO st ?_
  rw [List.length_append] at ih
  exact ih
theorem vI {p:Pos} (hp:aR p) (h00:p.ae.getD 0 0=0) (h06:p.ae.getD 6 0=0):∀ (j:Nat) (pre:List UInt8) (K:List Int),j≤12→K.length=12→(∀ i:Nat,12 - j≤i→i < 12→K.getD i 0=0)→t=pre++gF p j →
  ∃ N K',N≤256 * j+1∧dh (F1 s t) N (fX q K,((pre.length:Nat):Int))=some (.inr (fX q K',(t.length:Int)))∧K'.length=12∧∀ i:Nat,i < 12→K'.getD i 0=if 12 - j≤i then p.ae.getD i 0 else K.getD i 0
 | 0,pre,K,hj,hK,hz,ht=>by
  rw [gF,List.append_nil] at ht
  subst ht
  exact ⟨1,K,by omega,jN (Qj rfl),hK,fun i hi=>by rw [if_neg (by omega)]⟩
 | j+1,pre,K,hj,hK,hz,ht=>by
  rw [gF] at ht
  have hi:11 - j < 12:=by omega
  have hin:=oN hp (11 - j)
  have hzi:=hz (11 - j) (by omega) hi
  have ht':t=(pre++xb p (11 - j))++gF p j:=by rw [ht,List.append_assoc]
  by_cases h6:(11 - j) % 6=0
  ·have hn0:p.ae.getD (11 - j) 0=0:=by
    rcases (show 11 - j=0∨11 - j=6 by omega) with h | h
    ·rw [h]; exact h00
    ·rw [h]; exact h06
   have he:xb p (11 - j)=[]:=by
    unfold xb
    rw [hn0]
    rfl
   rw [he,List.append_nil] at ht'
   obtain ⟨N,K',g1,g2,g3,g4⟩:=vI hp h00 h06 j pre K (by omega) hK (fun i a b=>hz i (by omega) b) ht'
   refine ⟨N,K',by omega,g2,g3,fun i hi => ?_⟩
   rw [g4 i hi]
   by_cases c:12 - j≤i
   ·rw [if_pos c,if_pos (by omega)]
   ·rw [if_neg c]
    by_cases c2:12 - (j+1)≤i
    ·obtain rfl:i=11 - j:=by omega
     rw [if_pos c2,hzi,hn0]
    ·rw [if_neg c2]
  ·obtain ⟨b,hb,hB⟩:=uM hi h6
   have he:xb p (11 - j)=Lib.repeatL [b] (p.ae.getD (11 - j) 0).toNat:=by
    unfold xb
    rw [hb]
   have hset:∀ i:Nat,i < 12→(K.set (11 - j) (K.getD (11 - j) 0+((p.ae.getD (11 - j) 0).toNat:Int))).getD i 0=if i=11 - j then p.ae.getD i 0 else K.getD i 0:=by
    intro i hi'
    by_cases c:i=11 - j
    ·subst c
     rw [if_pos rfl,List.getD_eq_getElem?_getD,List.getElem?_set_self (by omega),hzi]
     show (0:Int)+_=_
     omega
    ·rw [if_neg c,List.getD_eq_getElem?_getD,List.getElem?_set_ne (by omega),← List.getD_eq_getElem?_getD]
   obtain ⟨N,K',g1,g2,g3,g4⟩:=vI hp h00 h06 j (pre++xb p (11 - j)) (K.set (11 - j) (K.getD (11 - j) 0+((p.ae.getD (11 - j) 0).toNat:Int))) (by omega) (by rw [List.length_set]; exact hK) (fun i a b=>by
    rw [hset i b,if_neg (by omega)]
    exact hz i (by omega) b) ht'
   rw [he] at g2 ht
   refine ⟨N+(p.ae.getD (11 - j) 0).toNat,K',by omega,FU hi hB _ pre K hK ht (by omega) (by omega) g2,g3,fun i hi' => ?_⟩
   rw [g4 i hi',hset i hi']
   by_cases c:12 - j≤i
   ·rw [if_pos c,if_pos (by omega)]
   ·rw [if_neg c]
    by_cases c2:12 - (j+1)≤i
    ·rw [if_pos (by omega),if_pos c2]
    ·rw [if_neg (by omega),if_neg c2]
theorem RQ {p:Pos} (hp:aR p) (h00:p.ae.getD 0 0=0) (h06:p.ae.getD 6 0=0) (hl:p.ae.length=12) (hq:q.ae=List.replicate 12 0) :
  cO s (gF p 12) (q,0)=some (.inr (fX q p.ae,((gF p 12).length:Int))):=by
 obtain ⟨N,K',g1,g2,g3,g4⟩:=vI (s:=s) (q:=q) hp h00 h06 12 [] (List.replicate 12 0) (by omega) rfl (fun i _ _=>by
  rw [List.getD_eq_getElem?_getD]
  cases hg:(List.replicate 12 (0:Int))[i]? with
  | none=>rfl
  | some x=>exact List.eq_of_mem_replicate (List.mem_of_getElem? hg)) (t:=gF p 12) rfl
 have e:K'=p.ae:=by
  refine List.ext_getElem (g3.trans hl.symm) fun n h1 h2 => ?_
  have:=g4 n (by omega)
  rw [if_pos (by omega),List.getD_eq_getElem?_getD,List.getD_eq_getElem?_getD,List.getElem?_eq_getElem h1,List.getElem?_eq_getElem h2] at this
  exact this
 subst e
 have eq0:fX q (List.replicate 12 0)=q:=by
  unfold fX
  rw [← hq]
 rw [eq0] at g2
 exact eS (n:=N) (by unfold many; omega) g2
theorem yE {c:UInt8} (t:List UInt8):∀ {a:List UInt8},(∀ b ∈ a,b≠c)→Lib.index (a++c::t) [c]=(a.length:Int)
 | [],_=>by
  show Lib.index (c::t) [c]=0
  rw [Lib.index,if_pos (by simp)]
 | b::l,h=>by
  show Lib.index (b::(l++c::t)) [c]=_
  have hb:b≠c:=h b (List.mem_cons_self ..)
  rw [Lib.index,if_neg (by simpa using fun e:c=b=>hb e.symm),yE t fun x hx=>h x (List.mem_cons_of_mem _ hx),if_neg (by rw [beq_iff_eq]; omega),List.length_cons]
  omega
theorem Dn {c:UInt8} {a:List UInt8} (t:List UInt8) (h:∀ b ∈ a,b≠c):Lib.cut (a++c::t) [c]=(a,t,true):=by
 unfold Lib.cut
 rw [yE t h,if_pos (by omega),Int.toNat_natCast,List.take_left' rfl]
 congr 2
 rw [show a++c::t=(a++[c])++t by simp,List.drop_left' (by simp)]
theorem Fe {c:UInt8} {a:List UInt8} (h:(a++[c]).length≤1000000):ey (a++[c]) [c]=a:=by
 have hl:(a++[c]).length=a.length+1:=by simp
 have w:wr .i64 (Int.ofNat (a++[c]).length - Int.ofNat [c].length)=(a.length:Int):=by
  rw [hl]
  show wr .i64 (((a.length+1:Nat):Int) - ((1:Nat):Int))=_
  rw [bD (by omega) (by omega)]
  omega
 have s:xG (a++[c]) [c]=true:=by
  unfold xG
  rw [w,decide_eq_true (show Int.ofNat (a++[c]).length ≥ Int.ofNat [c].length by rw [hl]; show ((a.length+1:Nat):Int) ≥ ((1:Nat):Int); omega),cond_true,Int.toNat_natCast,List.take_length,List.drop_left' rfl,beq_self_eq_true]
 unfold ey D1
 rw [s,cond_true,w,Int.toNat_natCast,List.take_left' rfl]
 rfl
theorem DE {b:UInt8} (h:rI b=true):b≠91:=by
 rintro rfl
 exact absurd h (by decide)
theorem BU {p:Pos} (hp:aR p) (hm:fS p):∀ k:Nat,k≤8→∀ b ∈ dW p k,b≠91
 | 0,_,b,hb=>by cases hb
 | k+1,k8,b,hb=>by
  rw [dW] at hb
  rcases List.mem_append.1 hb with hb | hb
  ·exact DE (oT hp hm (r:=(k:Int)) (by omega) (by omega) 8 0 (by omega) (by omega) (by omega) b hb)
  ·rcases List.mem_append.1 hb with hb | hb
   ·revert hb
    cases decide (0 < k) with
    | true =>
     rw [cond_true,List.mem_singleton]
     rintro rfl
     decide
    | false=>intro hb; cases hb
   ·exact BU hp hm k (by omega) b hb
theorem Hm {p q:Pos} (hp:aR p) (hm:fS p) (hbit:∀ s:Nat,s < 64→bQ p.aa s=true→cK p s≠0) (hl:p.ag.length=64) (hk:p.ae.length=12) (hz:p.variant≠2→p.ae=List.replicate 12 0) (h00:p.ae.getD 0 0=0) (h06:p.ae.getD 6 0=0)
  (hN:ql p.variant=(p.variant==2)) (hlen:(gj p).length≤5000) (qv:q.variant=p.variant) (qb:q.ag=List.replicate 64 0) (qm:q.aa=0) (qk:q.ae=List.replicate 12 0):aN (gj p) q=.inl (Pos.mk p.variant p.ag p.aa p.ae q.ao q.ah q.af q.ab q.half q.full):=by
 obtain ⟨b1,b2⟩:=FM hp hm
 unfold aN
 rw [show (ByteArray.mk #[93]).data.toList=([93]:List UInt8) from rfl,show (ByteArray.mk #[91]).data.toList=([91]:List UInt8) from rfl,show (ByteArray.mk #[47]).data.toList=([47]:List UInt8) from rfl,qv,hN]
 by_cases h2:p.variant=2
 ·have e2:(p.variant==2)=true:=by rw [h2]; rfl
  have eb:gj p=dW p 8++91::(gF p 12)++[93]:=by
   unfold gj
   rw [hN,e2,cond_true]
   simp
  have ht:ey (gj p) [93]=dW p 8++91::gF p 12:=by
   rw [eb]
   exact Fe (by rw [← eb]; omega)
  obtain ⟨q',r1,r2,r3⟩:=xH hp hm hbit b1 b2 (gF p 12) ((gF p 12).length:Int) (q:=fX q p.ae) (by show q.ag.length=64; rw [qb]; rfl)
  have e8:Int.ofNat (ai (dW p 8) [47]).length=8:=by rw [b1]; rfl
  rw [e2,cond_true,ht,Dn _ (BU hp hm 8 (by omega))]
  dsimp only
  rw [RQ (s:=dW p 8) (q:=q) hp h00 h06 hk qk,e8]
  simp only [Option.getD_some]
  show (bif bP ((df (ai (dW p 8) [47]) 8 (gF p 12) ((gF p 12).length:Int) (0,fX q p.ae)).getD default) then (.inr (gl ((df (ai (dW p 8) [47]) 8 (gF p 12) ((gF p 12).length:Int) (0,fX q p.ae)).getD default))) else (.inl ((gr ((df (ai (dW p 8) [47]) 8 (gF p 12) ((gF p 12).length:Int) (0,fX q p.ae)).getD default)).2.2)):Pos ⊕ Pos)=_
  rw [r2]
  show (Sum.inl q':Pos ⊕ Pos)=_
  rw [r3.whole (q:=fX q p.ae) hl qb qm]
  show (Sum.inl (Pos.mk q.variant p.ag p.aa p.ae q.ao q.ah q.af q.ab q.half q.full):Pos ⊕ Pos)=_
  rw [qv]
 ·have e2:(p.variant==2)=false:=by simpa using h2
  have eb:gj p=dW p 8:=by
   unfold gj
   rw [hN,e2,cond_false]
  obtain ⟨q',r1,r2,r3⟩:=xH hp hm hbit b1 b2 [] 0 (q:=q) (by rw [qb]; rfl)
  have e8:Int.ofNat (ai (dW p 8) [47]).length=8:=by rw [b1]; rfl
  rw [e2,cond_false,eb,e8,r1]
  show (Sum.inl q':Pos ⊕ Pos)=_
  rw [r3.whole hl qb qm,qv,qk,hz h2]
theorem CF {p q:Pos} (t:p.ao=0∨p.ao=1) (h:q.ao=0):bb (cV p) q=.inl (Pos.mk q.variant q.ag q.aa q.ae p.ao q.ah q.af q.ab q.half q.full):=by
 unfold cV
 rcases t with t | t
 ·rw [t]
  cases q
  dsimp only at h
  subst h
  rfl
 ·rw [t]
  rfl
theorem J0:(List.range 64).all (fun n=>(di (n:Int) != [45])&&(Jn (di (n:Int))==((n:Int),true)))=true:=by kernel_rfl
theorem CL {p q:Pos} (h0 : -1≤p.af) (h1:p.af≤63):bj (cF p) q=.inl (Pos.mk q.variant q.ag q.aa q.ae q.ao q.ah p.af q.ab q.half q.full):=by
 unfold cF
 by_cases h:p.af < 0
 ·rw [decide_eq_true h,cond_true,show p.af = -1 by omega]
  rfl
 ·rw [decide_eq_false h,cond_false]
  have t:=dk J0 (show 0≤p.af by omega) (by omega)
  rw [Int.toNat_of_nonneg (by omega)] at t
  simp only [Bool.and_eq_true,beq_iff_eq,bne_iff_ne] at t
  obtain ⟨t1,t2⟩:=t
  unfold bj
  rw [t2,show (di p.af==(ByteArray.mk #[45]).data.toList)=false from beq_eq_false_iff_ne.2 t1]
  show (Sum.inl _:Pos ⊕ Pos)=_
  rw [show wr .i8 p.af=p.af from IntWalk.i8_in _ ⟨by omega,by omega⟩]
theorem zj {q:Pos} {a b:Int} (a0:0≤a) (a3:a≤3) (b0:0≤b) (b3:b≤3) (h:q.ab=[0,0]):cp (43::(aK a++43::aK b)) q=.inl (Pos.mk q.variant q.ag q.aa q.ae q.ao q.ah q.af [a,b] q.half q.full):=by
 have run:∀ x:List UInt8,∀ r,dh (fun x'=>bif nT x x' then qH x x' else .bad) 3 (0,q)=some (.inr r)→x.length=4→cp x q=.inl r.2.2:=by
  intro x r hr hx
  have e:eC x (0,q)=some (.inr r):=eS (n:=3) (by unfold many; omega) hr
  unfold cp
  rw [e,hx]
  rfl
 cases q
 dsimp only at h
 subst h
 rcases (show a=0∨a=1∨a=2∨a=3 by omega) with rfl | rfl | rfl | rfl <;> rcases (show b=0∨b=1∨b=2∨b=3 by omega) with rfl | rfl | rfl | rfl <;> exact run _ (2,false,_) rfl rfl
theorem Qs:(List.range 10001).all (fun n=>eh (aK (n:Int))&&(ky (aK (n:Int))==(n:Int)))=true:=by kernel_rfl
theorem xT {n:Int} (h0:0≤n) (h1:n≤10000):eh (aK n)=true∧ky (aK n)=n:=by
 have t:=dk Qs h0 (by omega)
 rw [Int.toNat_of_nonneg h0] at t
 simp only [Bool.and_eq_true,beq_iff_eq] at t
 exact t
theorem uV {q:Pos} {n:Int} (h0:0≤n) (h1:n≤10000):b8 (aK n) q=.inl (Pos.mk q.variant q.ag q.aa q.ae q.ao q.ah q.af q.ab n q.full):=by
 obtain ⟨a,b⟩:=xT h0 h1
 unfold b8
 rw [a,b]
 rfl
theorem uL {q:Pos} {n:Int} (h0:0≤n) (h1:n≤10000):cQ (aK n) q=.inl (Pos.mk q.variant q.ag q.aa q.ae q.ao q.ah q.af q.ab q.half n):=by
 obtain ⟨a,b⟩:=xT h0 h1
 unfold cQ
 rw [a,b]
 rfl
theorem oW {p:Pos} (hp:aR p) {c d v:Int} (hc:c=0∨c=1) (hd:d=0∨d=1) (h:fR p c d v=true):ed p c v=(d,true)∧0≤v∧v≤7:=by
 have hk:ju p c=sY p c 6:=nA (mD hp hc).1 (ir hp hc).1
 have hl:=(ir hp hc).1
 unfold fR at h
 unfold ed yN
 rw [hk]
 generalize sY p c 6=k at h hl
 by_cases v0:v < 0
 ·rw [decide_eq_true v0] at h; cases h
 rw [decide_eq_false v0,cond_false] at h
 by_cases v7:v > 7
 ·rw [decide_eq_true v7] at h; cases h
 rw [decide_eq_false v7,cond_false] at h
 by_cases k0:k < 0
 ·rw [decide_eq_true k0] at h; cases h
 rw [decide_eq_false k0,cond_false] at h
 have k63:k≤63:=by
  rcases hl with ⟨rfl,_⟩ | ⟨_,h2,_⟩
  ·exact absurd (show (-1:Int) < 0 by decide) k0
  ·exact h2
 have t:=dk xh (show 0≤k by omega) (by omega)
 rw [Int.toNat_of_nonneg (by omega)] at t
 simp only [Bool.and_eq_true,beq_iff_eq] at t
 obtain ⟨⟨⟨⟨⟨t1,t2⟩,_⟩,_⟩,_⟩,_⟩:=t
 rw [decide_eq_false k0,cond_false,t1,t2]
 refine ⟨?_,by omega,by omega⟩
 cases hr:(yJ k != wr .i64 (7 * wr .i64 c)) with
 | true=>rw [hr] at h; cases h
 | false =>
  rw [hr,cond_false] at h
  rw [cond_false]
  rcases hd with rfl | rfl
  ·rw [show ((0:Int)==0)=true from rfl,cond_true,decide_eq_true_eq] at h
   rw [show (v==wN k)=false by rw [beq_eq_false_iff_ne]; omega,cond_false,decide_eq_true (show v > wN k by omega),cond_true]
  ·rw [show ((1:Int)==0)=false from rfl,cond_false,decide_eq_true_eq] at h
   rw [show (v==wN k)=false by rw [beq_eq_false_iff_ne]; omega,cond_false,decide_eq_false (show ¬ v > wN k by omega),cond_false]
theorem Cs {p q:Pos} (h:q.ag=p.ag) (c v:Int):ed q c v=ed p c v∧gk q c v=gk p c v:=by
 unfold ed gk ju uw
 rw [h]
 exact ⟨rfl,rfl⟩
def F8 (t:List UInt8) (x:Pos×Int):aF (Pos×Int) ((Pos×Int) ⊕ (Pos×Int)):=bif mH t x then pI t x else .bad
def cT (q:Pos) (l:List Int):Pos:=Pos.mk q.variant q.ag q.aa q.ae q.ao l q.af q.ab q.half q.full
variable {t:List UInt8} {q:Pos} {n:Nat}
theorem Hb (h:n=t.length):F8 t (q,(n:Int))=.out (.inr (q,(n:Int))):=by
 unfold F8 mH pI
 dsimp only
 have d:decide ((n:Int) < Int.ofNat t.length)=false:=decide_eq_false (by show ¬ (n:Int) < (t.length:Int); omega)
 simp only [d,cond_false,cond_true]
theorem gL {c d v:Int} (hc:c=0∨c=1) (hd:d=0∨d=1) (h0:0≤v) (h1:v≤7):∃ b:UInt8,fc c d v=[b]∧b.toNat < 128∧b.toNat=(if d=0∧v=7 then 75 else if d=1∧v=0 then 81 else 65+v.toNat)+(if c=1 then 32 else 0):=by
 refine ⟨_,by unfold fc; rw [if_neg (by omega)],?_,?_⟩ <;> rw [UInt8.toNat_ofNat'] <;> split <;> split <;> (try split) <;> (try omega)
theorem Kd {c d v:Int} (hc:c=0∨c=1) (hd:d=0∨d=1) (v0:0≤v) (v7:v≤7) {b:UInt8} (hb:fc c d v=[b]) (b128:b.toNat < 128) (hn:n < t.length) (ht:t[n]=b) {r0 r1 r2 r3:Int} (h66:ed (cT q [r0,r1,r2,r3]) c v=(d,true)) (k66:gk (cT q [r0,r1,r2,r3]) c v=true) :
  F8 t (cT q [r0,r1,r2,r3],(n:Int))=.go (cT q ([r0,r1,r2,r3].set (2 * c+d).toNat v),((n+1:Nat):Int)):=by
 obtain ⟨ra,wa⟩:=lZ hn (by rw [ht]; exact b128)
 have hl:decide ((n:Int) < Int.ofNat t.length)=true:=decide_eq_true (by show (n:Int) < (t.length:Int); omega)
 unfold F8 mH pI
 dsimp only
 rw [ra,wa,ht,hl,cond_true,cond_true]
 generalize hx:cT q [r0,r1,r2,r3]=x at h66 k66 ⊢
 have xr:x.ah=[r0,r1,r2,r3]:=by rw [← hx]; rfl
 have fin:x.variant=q.variant∧x.ag=q.ag∧x.aa=q.aa∧x.ae=q.ae∧x.ao=q.ao∧x.af=q.af∧x.ab=q.ab∧x.half=q.half∧x.full=q.full:=by rw [← hx]; exact ⟨rfl,rfl,rfl,rfl,rfl,rfl,rfl,rfl,rfl⟩
 obtain ⟨f1,f2,f3,f4,f5,f6,f7,f8,f9⟩:=fin
 rw [f1,f2,f3,f4,f5,f6,f7,f8,f9,xr]
 generalize ed x=ro at h66 ⊢
 generalize gk x=ko at k66 ⊢
 have key:∀ o,(bif (ko c v&&(bif !(ro c v).2 then true else (decide (0≤(ro c v).1)&&decide ((ro c v).1 < Int.ofNat 2)&&true))) then (bif !(ro c v).2 then aF.out o else aF.go (cT q (List.take (2 * c).toNat [r0,r1,r2,r3]++(List.take 2 (List.drop (2 * c).toNat [r0,r1,r2,r3])).set (scale 1 (ro c v).1).toNat v++List.drop (2 * c+2).toNat [r0,r1,r2,r3]),(n:Int)+1)) else .bad)=(aF.go (cT q ([r0,r1,r2,r3].set (2 * c+d).toNat v),((n+1:Nat):Int)):aF (Pos×Int) ((Pos×Int) ⊕ (Pos×Int))):=by
  intro o
  rw [h66,k66]
  rcases hc with rfl | rfl <;> rcases hd with rfl | rfl <;> rfl
 clear h66 k66 xr f1 f2 f3 f4 f5 f6 f7 f8 f9 hx ht hl hn wa ra
 rcases hc with rfl | rfl <;> rcases hd with rfl | rfl <;> rcases (show v=0∨v=1∨v=2∨v=3∨v=4∨v=5∨v=6∨v=7 by omega) with rfl | rfl | rfl | rfl | rfl | rfl | rfl | rfl <;>
  (obtain rfl:_=b:=(List.cons.inj hb).1
   exact key _)
variable {t:List UInt8} {q:Pos}
theorem I8 {p:Pos} (hp:aR p) {c:Int} (hc:c=0∨c=1) (v:Int):gk p c v=true:=by
 obtain ⟨hl,hk⟩:=mD hp hc
 unfold gk
 rw [hk,Bool.true_and]
 generalize ju p c=k at hl
 by_cases k0:k < 0
 ·rw [decide_eq_true k0]; rfl
 rw [decide_eq_false k0,cond_false]
 have k63:k≤63:=by
  rcases hl with ⟨rfl,_⟩ | ⟨_,h2,_⟩
  ·exact absurd (show (-1:Int) < 0 by decide) k0
  ·exact h2
 have t:=dk xh (show 0≤k by omega) (by omega)
 rw [Int.toNat_of_nonneg (by omega)] at t
 simp only [Bool.and_eq_true,beq_iff_eq] at t
 obtain ⟨⟨⟨⟨⟨t1,t2⟩,t3⟩,t4⟩,_⟩,_⟩:=t
 rw [t3,t4,show Bk c=true by rcases hc with rfl | rfl <;> rfl]
 cases (Pk k != yN c) <;> cases (v==LH k) <;> rfl
theorem qK {p:Pos} (hp:aR p) {c d v:Int} (hc:c=0∨c=1) (hd:d=0∨d=1) (hv:v = -1∨fR p c d v=true) (hq:q.ag=p.ag) {r0 r1 r2 r3:Int} (hl:[r0,r1,r2,r3].set (2 * c+d).toNat (-1)=[r0,r1,r2,r3]) {pre rest:List UInt8} (ht:t=pre++(fc c d v++rest)) {N:Nat} {r:(Pos×Int) ⊕ (Pos×Int)}
  (h:dh (F8 t) N (cT q ([r0,r1,r2,r3].set (2 * c+d).toNat v),(((pre++fc c d v).length:Nat):Int))=some r):dh (F8 t) (N+1) (cT q [r0,r1,r2,r3],((pre.length:Nat):Int))=some r:=by
 rcases hv with rfl | hv
 ·rw [show fc c d (-1)=[] from rfl,List.append_nil,hl] at h
  exact eS (Nat.le_succ _) h
 ·obtain ⟨h66,v0,v7⟩:=oW hp hc hd hv
  obtain ⟨b,hb,b128,_⟩:=gL hc hd v0 v7
  have hn:pre.length < t.length:=by rw [ht,hb]; simp
  have hg:t[pre.length]=b:=by
   have g:t[pre.length]?=some b:=by
    rw [ht,hb,List.getElem?_append_right (Nat.le_refl _),Nat.sub_self]
    rfl
   exact (List.getElem?_eq_some_iff.1 g).2
  obtain ⟨e1,e2⟩:=Cs (p:=p) (q:=cT q [r0,r1,r2,r3]) hq c v
  rw [hb,List.length_append] at h
  exact jO (Kd (q:=q) hc hd v0 v7 hb b128 hn hg (e1.trans h66) (e2.trans (I8 hp hc v))) h
theorem zP {c d v:Int} (hc:c=0∨c=1) (hd:d=0∨d=1) (h:v = -1∨(0≤v∧v≤7)):∀ b ∈ fc c d v,b≠45∧b≠32:=by
 intro b hb
 rcases h with rfl | ⟨v0,v7⟩
 ·cases hb
 ·obtain ⟨b',e,_,hc'⟩:=gL hc hd v0 v7
  rw [e,List.mem_singleton] at hb
  subst hb
  have:65≤b.toNat:=by rw [hc']; split <;> split <;> (try split) <;> omega
  exact ⟨fun e=>by rw [e] at this; exact absurd this (by decide),fun e=>by rw [e] at this; exact absurd this (by decide)⟩
theorem zq {p:Pos} (hp:aR p) (h:∀ c d:Int,(c=0∨c=1)→(d=0∨d=1)→mJ p c d) (hq:q.ag=p.ag):bm (iO (eP p)) q=.inl (cT q p.ah):=by
 have hv:∀ c d:Int,(c=0∨c=1)→(d=0∨d=1)→∀ b ∈ fc c d (p.ah.getD (2 * c+d).toNat 0),b≠45∧b≠32:=by
  intro c d hc hd
  refine zP hc hd ?_
  rcases h c d hc hd with h | h
  ·exact .inl h
  ·exact .inr (oW hp hc hd h).2
 have sw00:=h 0 0 (.inl rfl) (.inl rfl)
 have sw01:=h 0 1 (.inl rfl) (.inr rfl)
 have sw10:=h 1 0 (.inr rfl) (.inl rfl)
 have sw11:=h 1 1 (.inr rfl) (.inr rfl)
 have b00:=hv 0 0 (.inl rfl) (.inl rfl)
 have b01:=hv 0 1 (.inl rfl) (.inr rfl)
 have b10:=hv 1 0 (.inr rfl) (.inl rfl)
 have b11:=hv 1 1 (.inr rfl) (.inr rfl)
 have hl:=hp.rl
 have ea:eP p=fc 0 0 (p.ah.getD 0 0)++(fc 0 1 (p.ah.getD 1 0)++(fc 1 0 (p.ah.getD 2 0)++fc 1 1 (p.ah.getD 3 0))):=by
  unfold eP xL
  rw [List.append_assoc]
  rfl
 have er:p.ah=[p.ah.getD 0 0,p.ah.getD 1 0,p.ah.getD 2 0,p.ah.getD 3 0]:=by
  revert hl
  generalize p.ah=l
  match l with
  | [a,b,c,d]=>intro _; rfl
  | [] | [_] | [_,_] | [_,_,_]=>intro h; cases h
  | _::_::_::_::_::_=>intro h; simp at h
 unfold mJ at sw00 sw01 sw10 sw11
 change p.ah.getD 0 0 = -1∨fR p 0 0 (p.ah.getD 0 0)=true at sw00
 change p.ah.getD 1 0 = -1∨fR p 0 1 (p.ah.getD 1 0)=true at sw01
 change p.ah.getD 2 0 = -1∨fR p 1 0 (p.ah.getD 2 0)=true at sw10
 change p.ah.getD 3 0 = -1∨fR p 1 1 (p.ah.getD 3 0)=true at sw11
 have run:ei (eP p) (cT q [-1,-1,-1,-1],0)=some (.inr (cT q p.ah,((eP p).length:Int))):=by
  refine eS (n:=1+1+1+1+1) (by unfold many; omega) ?_
  refine qK (c:=0) (d:=0) hp (.inl rfl) (.inl rfl) sw00 hq rfl (pre:=[]) (t:=eP p) ea ?_
  refine qK (c:=0) (d:=1) hp (.inl rfl) (.inr rfl) sw01 hq rfl (pre:=[]++fc 0 0 (p.ah.getD 0 0)) (rest:=fc 1 0 (p.ah.getD 2 0)++fc 1 1 (p.ah.getD 3 0)) (by rw [ea,List.nil_append]) ?_
  refine qK (c:=1) (d:=0) hp (.inr rfl) (.inl rfl) sw10 hq rfl (pre:=[]++fc 0 0 (p.ah.getD 0 0)++fc 0 1 (p.ah.getD 1 0)) (rest:=fc 1 1 (p.ah.getD 3 0)) (by rw [ea,List.nil_append,List.append_assoc]) ?_
  refine qK (c:=1) (d:=1) hp (.inr rfl) (.inr rfl) sw11 hq rfl (pre:=[]++fc 0 0 (p.ah.getD 0 0)++fc 0 1 (p.ah.getD 1 0)++fc 1 0 (p.ah.getD 2 0)) (rest:=[]) (by rw [ea,List.nil_append,List.append_assoc,List.append_assoc,List.append_nil]) ?_
  have el:[]++fc 0 0 (p.ah.getD 0 0)++fc 0 1 (p.ah.getD 1 0)++fc 1 0 (p.ah.getD 2 0)++fc 1 1 (p.ah.getD 3 0)=eP p:=by rw [ea,List.nil_append,List.append_assoc,List.append_assoc]
  rw [el]
  have:=jN (Hb (t:=eP p) (q:=cT q p.ah) (n:=(eP p).length) rfl)
  rw [er] at this ⊢
  exact this
 by_cases h0:eP p=[]
 ·have:∀ x:Int,(x = -1∨(0≤x∧x≤7))→True:=fun _ _=>trivial
  rw [h0] at run
  have e2:=run
  unfold ei at e2
  have e3:=eS (n:=1) (m:=many) (by unfold many; omega) (jN (Hb (t:=[]) (q:=cT q [-1,-1,-1,-1]) (n:=0) rfl))
  have e4:some (Sum.inr (cT q [-1,-1,-1,-1],((0:Nat):Int)):(Pos×Int) ⊕ (Pos×Int))=some (.inr (cT q p.ah,(([]:List UInt8).length:Int))):=e3.symm.trans e2
  have e5:=(Prod.mk.inj (Sum.inr.inj (Option.some.inj e4))).1
  rw [h0]
  unfold bm
  rw [← e5]
  rfl
 ·have h45:(eP p==(ByteArray.mk #[45]).data.toList)=false:=by
   rw [beq_eq_false_iff_ne]
   intro e
   have:(45:UInt8) ∈ eP p:=by rw [e]; exact List.mem_singleton.2 rfl
   rw [ea] at this
   simp only [List.mem_append] at this
   rcases this with h | h | h | h
   ·exact (b00 _ h).1 rfl
   ·exact (b01 _ h).1 rfl
   ·exact (b10 _ h).1 rfl
   ·exact (b11 _ h).1 rfl
  have e37:iO (eP p)=eP p:=by
   unfold iO
   rw [show (eP p==(ByteArray.mk #[]).data.toList)=false from beq_eq_false_iff_ne.2 h0,cond_false]
  rw [e37]
  unfold bm
  rw [h45,cond_false]
  show (bif bP ((ei (eP p) (cT q [-1,-1,-1,-1],0)).getD default) then (.inr ((gl ((ei (eP p) (cT q [-1,-1,-1,-1],0)).getD default)).fst)) else (.inl ((gr ((ei (eP p) (cT q [-1,-1,-1,-1],0)).getD default)).fst)):Pos ⊕ Pos)=_
  rw [run]
  rfl
theorem A4 {α β:Type} (a:α):bP (Sum.inl a:α ⊕ β)=true:=rfl
theorem Gw {α β:Type} [Inhabited α] (a:α):gl (Sum.inl a:α ⊕ β)=a:=rfl
theorem UM:(List.range 64).all (fun n=>(di (n:Int)).all (fun b=>b != 32))=true:=by kernel_rfl
theorem I5 {p:Pos} (h0 : -1≤p.af) (h1:p.af≤63):∀ b ∈ cF p,b≠32:=by
 intro b hb
 unfold cF at hb
 by_cases h:p.af < 0
 ·rw [decide_eq_true h,cond_true,List.mem_singleton] at hb
  rw [hb]; decide
 ·rw [decide_eq_false h,cond_false] at hb
  have t:=dk UM (show 0≤p.af by omega) (by omega)
  rw [Int.toNat_of_nonneg (by omega)] at t
  simpa using List.all_eq_true.1 t b hb
theorem Kx (p:Pos):∀ b ∈ cV p,b≠32:=by
 intro b hb
 unfold cV at hb
 cases h:(p.ao==0) with
 | true=>rw [h,cond_true,List.mem_singleton] at hb; rw [hb]; decide
 | false=>rw [h,cond_false,List.mem_singleton] at hb; rw [hb]; decide
theorem vT {n:Int} (h0:0≤n) (h1:n≤10000):∀ b ∈ aK n,b≠32:=fun _ hb e=>(I0 h0 h1).1 (e ▸ hb)
theorem JK {p:Pos} (hp:aR p) (h:∀ c d:Int,(c=0∨c=1)→(d=0∨d=1)→mJ p c d):∀ b ∈ iO (eP p),b≠32:=by
 have hv:∀ c d:Int,(c=0∨c=1)→(d=0∨d=1)→∀ b ∈ fc c d (p.ah.getD (2 * c+d).toNat 0),b≠45∧b≠32:=by
  intro c d hc hd
  refine zP hc hd ?_
  rcases h c d hc hd with h | h
  ·exact .inl h
  ·exact .inr (oW hp hc hd h).2
 intro b hb
 unfold iO at hb
 cases he:(eP p==(ByteArray.mk #[]).data.toList) with
 | true =>
  rw [he,cond_true] at hb
  rw [show b=45 from List.mem_singleton.1 hb]; decide
 | false =>
  rw [he,cond_false] at hb
  unfold eP xL at hb
  simp only [List.mem_append] at hb
  rcases hb with (hb | hb) | (hb | hb)
  ·exact (hv 0 0 (.inl rfl) (.inl rfl) b hb).2
  ·exact (hv 0 1 (.inl rfl) (.inr rfl) b hb).2
  ·exact (hv 1 0 (.inr rfl) (.inl rfl) b hb).2
  ·exact (hv 1 1 (.inr rfl) (.inr rfl) b hb).2
def blank (v:Int):Pos:=Pos.mk v (li (List.replicate 64 0)) 0 (li [0,0,0,0,0,0,0,0,0,0,0,0]) 0 (li [0,0,0,0]) 0 (li [0,0]) 0 0
theorem C6 {p:Pos} (hp:aR p) (h:iP p):nK p.variant (cG p)=(p,0):=by
 have hm:=Ho h
 obtain ⟨v8,t1,L8,M4,h0,f0,h1,f1,sq,⟨k0,c0,c5,k00,k01⟩,⟨k1,d0,d5,Q0,k11⟩⟩:=h
 have rk:∀ c d:Int,(c=0∨c=1)→(d=0∨d=1)→mJ p c d:=by
  rintro c d (rfl | rfl) (rfl | rfl)
  ·exact k00
  ·exact k01
  ·exact Q0
  ·exact k11
 obtain ⟨o65,n65⟩:=gi hp.v0 hp.v1
 have hcl:=hp.cl
 have ec:p.ab=[p.ab.getD 0 0,p.ab.getD 1 0]:=by
  revert hcl
  generalize p.ab=l
  match l with
  | [a,b]=>intro _; rfl
  | [] | [_]=>intro h; cases h
  | _::_::_::_=>intro h; simp at h
 have ci0:=mP hp 0
 have ci1:=mP hp 1
 have pz:∀ i:Nat,i < 12→(p.variant≠2∨i=0∨i=6)→p.ae.getD i 0=0:=by
  intro i hi hh
  have g:=oN hp i
  by_cases hlt:i < 6
  ·have:=k0 i hlt
   rw [show ((6:Int) * 0+(i:Int)).toNat=i by omega] at this
   rcases Int.lt_or_le 0 (p.ae.getD i 0) with q | q
   ·have:=this q; omega
   ·omega
  ·have:=k1 (i - 6) (by omega)
   rw [show ((6:Int) * 1+((i - 6:Nat):Int)).toNat=i by omega] at this
   rcases Int.lt_or_le 0 (p.ae.getD i 0) with q | q
   ·have:=this q; omega
   ·omega
 have hz:p.variant≠2→p.ae=List.replicate 12 0:=by
  intro hv
  refine List.ext_getElem (hp.kl.trans rfl) fun n a b => ?_
  have:=pz n (by rw [hp.kl] at a; exact a) (.inl hv)
  rw [List.getD_eq_getElem?_getD,List.getElem?_eq_getElem a] at this
  rw [List.getElem_replicate]
  exact this
 have e0:=Hm (q:=blank p.variant) hp hm (fun s hs hb=>((sq s hs).2 hb).1) hp.bl hp.kl hz (pz 0 (by omega) (.inr (.inl rfl))) (pz 6 (by omega) (.inr (.inr rfl))) n65 (NG hp o65).2.2 rfl rfl rfl rfl
 have e1:=CF (p:=p) (q:=Pos.mk p.variant p.ag p.aa p.ae 0 [0,0,0,0] 0 [0,0] 0 0) (by have:=hp.t0; omega) rfl
 have e2:=zq (q:=Pos.mk p.variant p.ag p.aa p.ae p.ao [0,0,0,0] 0 [0,0] 0 0) hp rk rfl
 have e3:=CL (p:=p) (q:=Pos.mk p.variant p.ag p.aa p.ae p.ao p.ah 0 [0,0] 0 0) L8 M4
 have n0:=O4 hp hm
 have n1:=Kx p
 have n2:=JK hp rk
 have n3:=I5 L8 M4
 have n5:=vT h0 h1
 have n6:=vT f0 f1
 change aN (gj p) (blank p.variant)=.inl (Pos.mk p.variant p.ag p.aa p.ae 0 [0,0,0,0] 0 [0,0] 0 0) at e0
 change bb _ _=.inl (Pos.mk p.variant p.ag p.aa p.ae p.ao [0,0,0,0] 0 [0,0] 0 0) at e1
 change bm _ _=.inl (Pos.mk p.variant p.ag p.aa p.ae p.ao p.ah 0 [0,0] 0 0) at e2
 change bj _ _=.inl (Pos.mk p.variant p.ag p.aa p.ae p.ao p.ah p.af [0,0] 0 0) at e3
 by_cases hv:p.variant=5
 ·have v5:(p.variant==5)=true:=by rw [hv]; rfl
  have e4:=zj (q:=Pos.mk p.variant p.ag p.aa p.ae p.ao p.ah p.af [0,0] 0 0) ci0.1 c0 ci1.1 d0 rfl
  change cp _ _=.inl (Pos.mk p.variant p.ag p.aa p.ae p.ao p.ah p.af [p.ab.getD 0 0,p.ab.getD 1 0] 0 0) at e4
  rw [← ec] at e4
  have e5:=uV (q:=Pos.mk p.variant p.ag p.aa p.ae p.ao p.ah p.af p.ab 0 0) h0 h1
  have e6:=uL (q:=Pos.mk p.variant p.ag p.aa p.ae p.ao p.ah p.af p.ab p.half 0) f0 f1
  have n4:∀ b ∈ (43::(aK (p.ab.getD 0 0)++43::aK (p.ab.getD 1 0)):List UInt8),b≠32:=by
   intro b hb
   simp only [List.mem_cons,List.mem_append] at hb
   rcases hb with rfl | hb | rfl | hb
   ·decide
   ·exact vT ci0.1 (by omega) b hb
   ·decide
   ·exact vT ci1.1 (by omega) b hb
  have hs:ai (cG p) [32]=[gj p,cV p,iO (eP p),cF p,43::(aK (p.ab.getD 0 0)++43::aK (p.ab.getD 1 0)),aK p.half,aK p.full]:=by
   show mK 32 (cG p)=_
   have e:cG p=gj p++32::(cV p++32::(iO (eP p)++32::(cF p++32::((43::(aK (p.ab.getD 0 0)++43::aK (p.ab.getD 1 0)))++32::(aK p.half++32::aK p.full))))):=by
    unfold cG fO
    rw [v5,cond_true]
    simp only [List.append_assoc,List.cons_append,List.nil_append]
   rw [e,dj _ n0,dj _ n1,dj _ n2,dj _ n3,dj _ n4,dj _ n5,qw n6]
  have yI:bL (cG p) (blank p.variant)=.inl p:=by
   unfold bL
   rw [show (ByteArray.mk #[32]).data.toList=([32]:List UInt8) from rfl,hs]
   simp only [List.getD_cons_zero,List.getD_cons_succ,e0,A4,Gw,e1,e2,e3,e4,e5,e6,cond_true]
   rfl
  unfold nK
  rw [v5,cond_true]
  change (bif bP (bL (cG p) (blank p.variant)) then ((gl (bL (cG p) (blank p.variant)),0):Pos×Int) else _)=_
  rw [yI]
  rfl
 ·have v5:(p.variant==5)=false:=by simpa using hv
  have ek:p.ab=[0,0]:=by
   rw [ec]
   have a:p.ab.getD 0 0=0:=by
    rcases Int.lt_or_le 0 (p.ab.getD 0 0) with q | q
    ·exact absurd (c5 q) hv
    ·omega
   have b:p.ab.getD 1 0=0:=by
    rcases Int.lt_or_le 0 (p.ab.getD 1 0) with q | q
    ·exact absurd (d5 q) hv
    ·omega
   rw [a,b]
  have e5:=uV (q:=Pos.mk p.variant p.ag p.aa p.ae p.ao p.ah p.af [0,0] 0 0) h0 h1
  have e6:=uL (q:=Pos.mk p.variant p.ag p.aa p.ae p.ao p.ah p.af [0,0] p.half 0) f0 f1
  have hs:ai (cG p) [32]=[gj p,cV p,iO (eP p),cF p,aK p.half,aK p.full]:=by
   show mK 32 (cG p)=_
   have e:cG p=gj p++32::(cV p++32::(iO (eP p)++32::(cF p++32::(aK p.half++32::aK p.full)))):=by
    unfold cG fO
    rw [v5,cond_false,List.nil_append]
   rw [e,dj _ n0,dj _ n1,dj _ n2,dj _ n3,dj _ n5,qw n6]
  have e16:bJ (cG p) (blank p.variant)=.inl p:=by
   unfold bJ
   rw [show (ByteArray.mk #[32]).data.toList=([32]:List UInt8) from rfl,hs]
   simp only [List.getD_cons_zero,List.getD_cons_succ,e0,A4,Gw,e1,e2,e3,e5,e6,cond_true]
   rw [← ek]
   rfl
  unfold nK
  rw [v5,cond_false]
  change (bif bP (bJ (cG p) (blank p.variant)) then ((gl (bJ (cG p) (blank p.variant)),0):Pos×Int) else _)=_
  rw [e16]
  rfl
end Kz
end
noncomputable section
namespace Kz
open Go Go.RowKit Go.Proofs
set_option maxRecDepth 100000
set_option maxHeartbeats 4000000

end Kz
end
noncomputable section
namespace Kz
open Go Go.RowKit Go.Proofs
set_option maxRecDepth 100000
theorem JV {v:Int} {s:List UInt8} (h:(N9 v s).2≠0):(N9 v s).1=blank 0:=by
 revert h
 unfold N9
 generalize nK v s=r
 cases decide (v ≥ 9) <;> cases decide (Int.ofNat s.length > 200) <;> cases (r.2 != 0) <;> cases (!wB r.1==s) <;> first | exact fun _=>rfl | exact fun h=>absurd rfl h
theorem Jg {p:Pos} (hp:aR p) (h:iP p) (hl:(cG p).length≤200):N9 p.variant (cG p)=(p,0):=by
 have hr:=C6 hp h
 have h12:=(oc hp).2.1 h
 have hf:iJ (cG p)=cG p:=by
  unfold iJ
  rw [decide_eq_false (show ¬ Int.ofNat (cG p).length > 200 by show ¬ ((cG p).length:Int) > 200; omega),cond_false]
 have hv:decide (p.variant ≥ 9)=false:=decide_eq_false (by have:=h.1; omega)
 have h2:decide (Int.ofNat (cG p).length > 200)=false:=decide_eq_false (by show ¬ ((cG p).length:Int) > 200; omega)
 have he:(!wB p==cG p)=false:=by rw [h12,hf,beq_self_eq_true]; rfl
 unfold N9
 rw [hr,hv,h2]
 show (bif !wB p==cG p then _ else ((p,0):Pos×Int))=_
 rw [he]
 rfl
def ij (s:List UInt8) (i:Int) (bad:Bool):Int:=bif bad then 0 else bif decide (i ≥ Int.ofNat s.length) then 0 else Int.ofNat (s[i.toNat]?.getD 0).toNat
def tk (s:List UInt8) (i:Int) (bad:Bool):Int×Int×Bool:=bif ij s i bad==0 then (ij s i bad,wr .i64 (i+1),true) else (ij s i bad,wr .i64 (i+1),bad)
def nd (c:Int) (s:List UInt8) (i:Int) (bad:Bool):Int×Bool:=bif (tk s i bad).1 != c then ((tk s i bad).2.1,true) else ((tk s i bad).2.1,(tk s i bad).2.2)
variable (s:List UInt8) (i:Int) (bad:Bool) (p q:Pos) (c:Int)
theorem e7:lS s i bad p=ij s i bad:=rfl
theorem LK:cC s i bad p=ij s i bad:=rfl
theorem UX:fA s i bad p q=ij s i bad:=rfl
theorem e8:cq s i bad p=tk s i bad:=rfl
theorem H5:aS s i bad p=tk s i bad:=rfl
theorem X6:aI s i bad p q=tk s i bad:=rfl
theorem Yf:ov c s i bad p=nd c s i bad:=rfl
theorem yI:ak c s i bad p=nd c s i bad:=rfl
def GS:Pos×Int:=(blank 0,5)
def kY (q:Pos) (h f:Int):Pos:=Pos.mk q.variant q.ag q.aa q.ae q.ao q.ah q.af q.ab h f
def wq (q:Pos) (e:Int):Pos:=Pos.mk q.variant q.ag q.aa q.ae q.ao q.ah e q.ab q.half q.full
def zx (q:Pos) (t:Int):Pos:=Pos.mk q.variant q.ag q.aa q.ae t q.ah q.af q.ab q.half q.full
def OS (b:List UInt8) (q:Pos) (i:Int) (bad:Bool):Pos×Int :=
 let n:=ax b i bad q; let r:=ak 32 b n.snd.fst n.snd.snd (kY q n.fst q.full); let m:=ax b r.fst r.snd (kY q n.fst q.full)
 bif m.snd.snd then GS else bif !jL (kY q n.fst m.fst)==b then GS else (kY q n.fst m.fst,0)
def UU (b:List UInt8) (q:Pos) (i:Int) (bad:Bool):Bool :=
 let n:=ax b i bad q; let r:=ak 32 b n.snd.fst n.snd.snd (kY q n.fst q.full); let m:=ax b r.fst r.snd (kY q n.fst q.full)
 aM b i bad q&&(aC 32 b n.snd.fst n.snd.snd (kY q n.fst q.full)&&(aM b r.fst r.snd (kY q n.fst q.full)&&(bif m.snd.snd then true else (eR (kY q n.fst m.fst)&&true))))
def CW (a:Int) (b:List UInt8) (q:Pos) (i:Int) (bad:Bool):Pos×Int :=
 bif a==5 then let l:=(bx b b (0,i,bad,q)).getD default; let r:=ak 32 b l.snd.snd.fst l.snd.snd.snd.fst l.snd.snd.snd.snd; OS b l.snd.snd.snd.snd r.fst r.snd else OS b q i bad
def UO (a:Int) (b:List UInt8) (q:Pos) (i:Int) (bad:Bool):Bool :=
 bif a==5 then let l:=(bx b b (0,i,bad,q)).getD default; let r:=ak 32 b l.snd.snd.fst l.snd.snd.snd.fst l.snd.snd.snd.snd; (bx b b (0,i,bad,q)).isSome&&(aC 32 b l.snd.snd.fst l.snd.snd.snd.fst l.snd.snd.snd.snd&&UU b l.snd.snd.snd.snd r.fst r.snd) else UU b q i bad
def Rt (a:Int) (b:List UInt8) (q:Pos) (i:Int) (bad:Bool):Pos×Int :=
 let r:=ak 32 b i bad q; let q1:=wq q (-1)
 bif cC b r.fst r.snd q1==45 then let t:=ak 32 b (wr .i64 (r.fst+1)) r.snd q1; CW a b q1 t.fst t.snd
 else let t:=aS b r.fst r.snd q1; let u:=aS b t.snd.fst t.snd.snd q1; let n:=AU (List.map ub [t.fst,u.fst]); let q2:=wq q (wr .i8 n.fst)
  bif u.snd.snd then let w:=ak 32 b u.snd.fst true q2; CW a b q2 w.fst w.snd else let w:=ak 32 b u.snd.fst (!n.snd) q2; CW a b q2 w.fst w.snd
def XC (a:Int) (b:List UInt8) (q:Pos) (i:Int) (bad:Bool):Bool :=
 let r:=ak 32 b i bad q; let q1:=wq q (-1)
 aC 32 b i bad q&&(dH b r.fst r.snd q1&&(bif cC b r.fst r.snd q1==45 then let t:=ak 32 b (wr .i64 (r.fst+1)) r.snd q1; (aC 32 b (wr .i64 (r.fst+1)) r.snd q1&&UO a b q1 t.fst t.snd)
 else let t:=aS b r.fst r.snd q1; let u:=aS b t.snd.fst t.snd.snd q1; let n:=AU (List.map ub [t.fst,u.fst]); let q2:=wq q (wr .i8 n.fst)
  (cx b r.fst r.snd q1&&(cx b t.snd.fst t.snd.snd q1&&(wy (List.map ub [t.fst,u.fst])&&(bif u.snd.snd then let w:=ak 32 b u.snd.fst true q2; (aC 32 b u.snd.fst true q2&&UO a b q2 w.fst w.snd) else let w:=ak 32 b u.snd.fst (!n.snd) q2; (aC 32 b u.snd.fst (!n.snd) q2&&UO a b q2 w.fst w.snd)))))))
def Q1 (a:Int) (b:List UInt8) (q:Pos) (i:Int) (bad:Bool):Pos×Int :=
 let r:=ak 32 b i bad q; let t:=cZ q b r.fst r.snd q; Rt a b t.fst t.snd.fst t.snd.snd
def Va (a:Int) (b:List UInt8) (q:Pos) (i:Int) (bad:Bool):Bool :=
 let r:=ak 32 b i bad q; let t:=cZ q b r.fst r.snd q; aC 32 b i bad q&&(fy q b r.fst r.snd q&&XC a b t.fst t.snd.fst t.snd.snd)
def N8 (a:Int) (b:List UInt8) (q:Pos) (i:Int) (bad:Bool):Pos×Int :=
 let r:=ak 32 b i bad q; let t:=aS b r.fst r.snd q
 bif t.fst==98 then Q1 a b (zx q 1) t.snd.fst t.snd.snd else Q1 a b q t.snd.fst t.snd.snd
def U6 (a:Int) (b:List UInt8) (q:Pos) (i:Int) (bad:Bool):Bool :=
 let r:=ak 32 b i bad q; let t:=aS b r.fst r.snd q
 aC 32 b i bad q&&(cx b r.fst r.snd q&&(bif t.fst==98 then Va a b (zx q 1) t.snd.fst t.snd.snd else Va a b q t.snd.fst t.snd.snd))
def Ou (a:Int) (b:List UInt8):Pos×Int :=
 bif decide (a > 8) then (blank 0,2) else bif decide (Int.ofNat b.length > 200) then (blank 0,3) else
 let r:=cR (blank a) b
 bif a==2 then let n:=ak 91 b r.snd.fst r.snd.snd r.fst; let l:=(gz a b b (n.fst,n.snd,r.fst)).getD default; let u:=ak 93 b l.fst l.snd.fst l.snd.snd; N8 a b l.snd.snd u.fst u.snd
 else N8 a b r.fst r.snd.fst r.snd.snd
def RE (a:Int) (b:List UInt8):Bool :=
 bif decide (a > 8) then true else bif decide (Int.ofNat b.length > 200) then true else
 let r:=cR (blank a) b
 jJ (blank a) b&&(bif a==2 then let n:=ak 91 b r.snd.fst r.snd.snd r.fst; let l:=(gz a b b (n.fst,n.snd,r.fst)).getD default; let u:=ak 93 b l.fst l.snd.fst l.snd.snd
  (aC 91 b r.snd.fst r.snd.snd r.fst&&((gz a b b (n.fst,n.snd,r.fst)).isSome&&(aC 93 b l.fst l.snd.fst l.snd.snd&&U6 a b l.snd.snd u.fst u.snd)))
 else U6 a b r.fst r.snd.fst r.snd.snd)
theorem FO (a:Int) (b:List UInt8):sR a b=Ou a b:=by kernel_rfl
theorem JN (a:Int) (b:List UInt8):EU a b=RE a b:=by kernel_rfl
variable {s:List UInt8} {i:Int} {bad:Bool} {p q:Pos} {c v:Int}
theorem Ee (s:List UInt8) (i:Int) (bad:Bool):0≤ij s i bad∧ij s i bad≤255:=by
 unfold ij
 have h:(s[i.toNat]?.getD 0).toNat < 256:=UInt8.toNat_lt _
 cases bad
 ·rw [cond_false]
  cases decide (i ≥ Int.ofNat s.length)
  ·rw [cond_false]
   generalize (s[i.toNat]?.getD 0).toNat=n at h
   show 0≤((n:Nat):Int)∧((n:Nat):Int)≤255
   omega
  ·exact ⟨Int.le_refl _,show (0:Int)≤255 by decide⟩
 ·exact ⟨Int.le_refl _,show (0:Int)≤255 by decide⟩
theorem Kc (h:ij s i bad≠0):bad=false∧i < (s.length:Int):=by
 unfold ij at h
 cases bad
 ·refine ⟨rfl,?_⟩
  rw [cond_false] at h
  by_cases hi:i ≥ Int.ofNat s.length
  ·rw [decide_eq_true hi] at h
   exact absurd rfl h
  ·have hi':¬ i ≥ (s.length:Int):=hi
   omega
 ·exact absurd rfl h
theorem Hc (h0:0≤i):(bif bad then true else (bif decide (i ≥ Int.ofNat s.length) then true else (decide (0≤i)&&decide (i < Int.ofNat s.length)&&true)))=true:=by
 cases bad
 ·by_cases h:i ≥ Int.ofNat s.length
  ·rw [decide_eq_true h]; rfl
  ·have h':¬ i ≥ (s.length:Int):=h
   rw [decide_eq_false h,decide_eq_true h0,decide_eq_true (show i < Int.ofNat s.length by show i < (s.length:Int); omega)]; rfl
 ·rfl
theorem k7 (h0:0≤i):oq s i bad p=true:=Hc h0
theorem Gl (h0:0≤i):dH s i bad p=true:=Hc h0
theorem Ts (h0:0≤i):jH s i bad p q=true:=Hc h0
theorem k8 (h0:0≤i):nJ s i bad p=true:=bN (k7 h0) fun _=>rfl
theorem Ff (h0:0≤i):cx s i bad p=true:=bN (Gl h0) fun _=>rfl
theorem X8 (h0:0≤i):n7 s i bad p q=true:=bN (Ts h0) fun _=>rfl
theorem Q0 (h0:0≤i):oh c s i bad p=true:=bN (k8 h0) fun _=>rfl
theorem Gi (h0:0≤i):aC c s i bad p=true:=bN (Ff h0) fun _=>rfl
theorem mN (h0:0≤i) (h1:i≤1000000):tk s i bad=(ij s i bad,i+1,bad || (ij s i bad==0)):=by
 unfold tk
 rw [bD (by omega) (by omega)]
 cases (ij s i bad==0) <;> simp
theorem lX (h0:0≤i) (h1:i≤1000000):nd c s i bad=(i+1,(ij s i bad != c) || (bad || (ij s i bad==0))):=by
 unfold nd
 rw [mN h0 h1]
 cases (ij s i bad != c) <;> rfl
theorem TK:(List.range 256).all (fun n=>bif iG (n:Int)==0 then true else decide (1≤iG (n:Int))&&decide (iG (n:Int)≤14)&&yL (iG (n:Int))&&(xc (iG (n:Int))==nF (iG (n:Int)))&&(Ae (iG (n:Int))==rh (iG (n:Int)))&&(n != 0))=true:=by kernel_rfl
theorem FW {b:Int} (h0:0≤b) (h1:b≤255) (h:iG b≠0):rX (iG b)∧xc (iG b)=nF (iG b)∧Ae (iG b)=rh (iG b)∧b≠0:=by
 have t:=dk TK h0 (by omega)
 rw [Int.toNat_of_nonneg h0,show (iG b==0)=false by simpa using h,cond_false] at t
 simp only [Bool.and_eq_true,decide_eq_true_eq,beq_iff_eq,bne_iff_ne] at t
 obtain ⟨⟨⟨⟨⟨a,b'⟩,c⟩,d⟩,e⟩,f⟩:=t
 exact ⟨ED a b' c,d,e,by omega⟩
theorem SK:(List.range 64).all (fun n=>CC (n:Int)&&(Q7 (n:Int)==1#64 <<< n))=true:=by kernel_rfl
theorem put_eq (x:BitVec 64) {a:Int} (h0:0≤a) (h1:a≤63):Cc x a=x|||1#64 <<< a.toNat∧wj x a=true:=by
 have t:=dk SK h0 (by omega)
 rw [Int.toNat_of_nonneg h0] at t
 simp only [Bool.and_eq_true,beq_iff_eq] at t
 obtain ⟨e1,e2⟩:=rO x h0 h1
 unfold Cc wj
 rw [e1,e2,t.1,t.2]
 cases hb:bQ x a.toNat with
 | true =>
  refine ⟨?_,rfl⟩
  rw [cond_true]
  refine ss fun j hj => ?_
  rw [DR x (by omega)]
  by_cases h:j=a.toNat
  ·subst h
   rw [hb,Bool.true_or]
  ·rw [decide_eq_false h,Bool.or_false]
 | false =>
  refine ⟨?_,rfl⟩
  rw [cond_false]
  refine BitVec.add_eq_or_of_and_eq_zero _ _ ?_
  refine ss fun j hj => ?_
  rw [hI,hI,BitVec.toNat_and,Nat.testBit_and]
  have e:(1#64 <<< a.toNat).toNat=2 ^ a.toNat:=by
   rw [BitVec.toNat_shiftLeft,Nat.shiftLeft_eq]
   have:2 ^ a.toNat < 2 ^ 64:=Nat.pow_lt_pow_right (by decide) (by omega)
   show 1 * 2 ^ a.toNat % 2 ^ 64=2 ^ a.toNat
   rw [Nat.one_mul,Nat.mod_eq_of_lt this]
  rw [e,Nat.testBit_two_pow]
  rw [hI] at hb
  by_cases h:a.toNat=j
  ·subst h
   rw [hb]
   simp
  ·rw [decide_eq_false h,Bool.and_false]
   simp
theorem JI {a:Int} (a0:0≤a) (a1:a≤56) (hq:RP v q) (h0:0≤i) (h1:i≤1000):∃ r,cY s (a,0,i,bad,q)=some r∧(a≤r.1∧r.1≤a+8∧0≤r.2.1∧r.2.1≤i+18∧RP v r.2.2.2):=by
 refine jh (I:=fun x:Int×Int×Int×Bool×Pos=>x.1=a+x.2.1∧0≤x.2.1∧x.2.1≤8∧0≤x.2.2.1∧x.2.2.1≤i+2 * x.2.1∧RP v x.2.2.2.2) (μ:=fun x=>(8 - x.2.1).toNat) ?_ _ ⟨by dsimp only; omega,Int.le_refl _,(show (0:Int)≤8 by decide),h0,by dsimp only; omega,hq⟩ (show (8 - (0:Int)).toNat < 4294967296 by decide)
 rintro ⟨sq,f,j,b,z⟩ ⟨e1,f0,f8,j0,j1,hz⟩
 dsimp only at e1 f0 f8 j0 j1 hz
 unfold jZ ns
 dsimp only
 simp only [e7,e8,mN j0 (show j≤1000000 by omega)]
 have bi:=Ee s j b
 generalize ij s j b=w at bi
 have hm:=FW bi.1 bi.2
 have w1:f < 8→wr .i64 (sq+1)=sq+1:=fun h=>bD (by omega) (by omega)
 have w2:f < 8→wr .i64 (f+1)=f+1:=fun h=>bD (by omega) (by omega)
 have w3:wr .i64 (j+1+1)=j+1+1:=bD (by omega) (by omega)
 have wd:49≤w→w≤56→wr .i64 (wr .u8 (w - 48))=w - 48:=fun h1 h2=>by
  rw [Bw (n:=w - 48) (by omega) (by omega),bD (by omega) (by omega)]
 refine ⟨aQ (fun hf=>aQ (fun _=>bN (k8 j0) fun _=>aQ (fun hn=>bN ?_ fun _=>bN (k7 (by omega)) fun _=>aQ (fun _=>bN ?_ fun _=>rfl) fun _=>rfl) fun _=>rfl) fun _=>rfl) fun _=>rfl,?_⟩
 ·have hf:f < 8:=of_decide_eq_true hf
  rw [decide_eq_true (show 0≤sq by omega),decide_eq_true (show sq < Int.ofNat 64 by show sq < 64; omega)]; rfl
 ·have hf:f < 8:=of_decide_eq_true hf
  exact (put_eq z.aa (show 0≤sq by omega) (show sq≤63 by omega)).2
 refine bn (fun hf=>bn (fun _=>bn (fun hn => ?_) fun _=>bn (fun _=>bH ⟨by dsimp only; omega,by dsimp only; omega,by dsimp only; omega,by dsimp only; omega,hz⟩) fun g1=>bn (fun _=>bH ⟨by dsimp only; omega,by dsimp only; omega,by dsimp only; omega,by dsimp only; omega,hz⟩) fun g2 => ?_) fun _=>bH ⟨by dsimp only; omega,by dsimp only; omega,by dsimp only; omega,by dsimp only; omega,hz⟩) fun _=>bH ⟨by dsimp only; omega,by dsimp only; omega,by dsimp only; omega,by dsimp only; omega,hz⟩
 ·have hf:f < 8:=of_decide_eq_true hf
  have hM:=(hm (by simpa using hn)).1
  rw [w1 hf,w2 hf,w3]
  refine bn (fun _=>fj ⟨by dsimp only; omega,by dsimp only; omega,by dsimp only; omega,by dsimp only; omega,by dsimp only; omega,k9 (oE hz _ hM) _⟩ ?_) fun _=>fj ⟨by dsimp only; omega,by dsimp only; omega,by dsimp only; omega,by dsimp only; omega,by dsimp only; omega,oE hz _ hM⟩ ?_ <;> (dsimp only; omega)
 ·have hf:f < 8:=of_decide_eq_true hf
  have g1:=of_decide_eq_false g1
  have g2:=of_decide_eq_false g2
  rw [wd (by omega) (by omega),bD (n:=sq+(w - 48)) (by omega) (by omega),bD (n:=f+(w - 48)) (by omega) (by omega)]
  refine bn (fun _=>bH ⟨by dsimp only; omega,by dsimp only; omega,by dsimp only; omega,by dsimp only; omega,hz⟩) fun g3 => ?_
  have g3:=of_decide_eq_false g3
  refine fj ⟨by dsimp only; omega,by dsimp only; omega,by dsimp only; omega,by dsimp only; omega,by dsimp only; omega,hz⟩ ?_
  dsimp only; omega
variable {s:List UInt8} {i:Int} {bad:Bool} {p q:Pos} {c v:Int}
theorem P6 (hq:RP v q):∃ r,iW s (56,0,false,q)=some r∧(0≤r.2.2.1∧r.2.2.1≤216∧RP v r.2.2.2.2):=by
 refine jh (I:=fun x:Int×Int×Bool×Pos => -16≤x.1∧x.1≤56∧0≤x.2.1∧x.2.1+3 * x.1≤168∧RP v x.2.2.2) (μ:=fun x=>(x.1+17).toNat) ?_ _ ⟨(show (-16:Int)≤56 by decide),Int.le_refl _,Int.le_refl _,(show (0:Int)+3 * 56≤168 by decide),hq⟩ (show ((56:Int)+17).toNat < 4294967296 by decide)
 rintro ⟨a,j,b,z⟩ ⟨a0,a1,j0,j1,hz⟩
 dsimp only at a0 a1 j0 j1 hz
 unfold jF ma
 dsimp only
 simp only [Yf]
 by_cases ha:a ≥ 0
 ·obtain ⟨⟨r1,r2,r3,r4⟩,e,g1,g2,g3,g4,g5⟩:=JI (s:=s) (bad:=b) (by omega) a1 hz j0 (show j≤1000 by omega)
  dsimp only at g1 g2 g3 g4 g5
  rw [decide_eq_true ha,e]
  simp only [Option.getD_some,Option.isSome_some,Bool.true_and]
  rw [lX g3 (by omega),bD (n:=r1 - 16) (by omega) (by omega)]
  refine ⟨aQ (fun _=>aQ (fun _=>aQ (fun _=>bN (Q0 g3) fun _=>rfl) fun _=>rfl) fun _=>rfl) fun _=>rfl,?_⟩
  refine bn (fun _=>bn (fun _=>bn (fun _=>fj ⟨by dsimp only; omega,by dsimp only; omega,by dsimp only; omega,by dsimp only; omega,g5⟩ ?_) fun _=>fj ⟨by dsimp only; omega,by dsimp only; omega,by dsimp only; omega,by dsimp only; omega,g5⟩ ?_) fun _=>bH ⟨j0,by dsimp only; omega,hz⟩) fun _=>bH ⟨j0,by dsimp only; omega,hz⟩ <;> (dsimp only; omega)
 ·rw [decide_eq_false ha]
  exact ⟨rfl,bH ⟨j0,by dsimp only; omega,hz⟩⟩
theorem Ka (hq:RP v q):jJ q s=true∧(0≤(cR q s).2.1∧(cR q s).2.1≤216∧RP v (cR q s).1):=by
 obtain ⟨r,e,h⟩:=P6 (s:=s) hq
 unfold jJ cR
 rw [e]
 exact ⟨rfl,h⟩
theorem QZ {a:Int} {t:List UInt8} (hs:s.length≤200) (hq:RP v q) (h0:0≤i) (h1:i≤300):∃ r,gz a t s (i,bad,q)=some r∧(0≤r.1∧r.1≤301∧RP v r.2.2):=by
 refine jh (I:=fun x:Int×Bool×Pos=>0≤x.1∧x.1≤300∧RP v x.2.2) (μ:=fun x=>(301 - x.1).toNat) ?_ _ ⟨h0,h1,hq⟩ (by dsimp only; omega)
 rintro ⟨j,b,z⟩ ⟨j0,j1,hz⟩
 dsimp only at j0 j1 hz
 unfold lu oC
 dsimp only
 simp only [LK,H5,mN j0 (show j≤1000000 by omega)]
 have bi:=Ee s j b
 have bp:=Kc (s:=s) (i:=j) (bad:=b)
 generalize ij s j b=w at bi bp
 have hm:=FW bi.1 bi.2
 refine ⟨bN (Gl j0) fun _=>aQ (fun _=>aQ (fun _=>bN (Ff j0) fun _=>aQ (fun _=>rfl) fun hz=>aQ (fun _=>rfl) fun h6 => ?_) fun _=>rfl) fun _=>rfl,?_⟩
 ·obtain ⟨M,e1,e2,_⟩:=hm (by simpa using hz)
  rw [e1,e2]
  obtain ⟨m1,m2,m3,m4,m5,m6,m7⟩:=M
  rw [e1] at h6
  have h6:nF (iG w)≠6:=by simpa using h6
  exact XK (y:=0) m4 m5 m6 (by omega)
 refine bn (fun _=>bn (fun _=>bn (fun _=>bH ⟨by dsimp only; omega,by dsimp only; omega,hz⟩) fun hn=>bn (fun _=>bH ⟨by dsimp only; omega,by dsimp only; omega,hz⟩) fun _=>fj ⟨by dsimp only; omega,?_,rG hz _ _⟩ ?_) fun _=>bH ⟨j0,by dsimp only; omega,hz⟩) fun _=>bH ⟨j0,by dsimp only; omega,hz⟩
 ·obtain ⟨_,_,_,hw⟩:=hm (by simpa using hn)
  have:=(bp hw).2
  dsimp only; omega
 ·dsimp only; omega
theorem vb {q:Pos} (hq:RP v q) {c d f:Int} (hc:c=0∨c=1):fv q c d f=true:=Dq hq.1 hc d f
theorem Hh (h:RP v q) (j:Nat) (z:Int):RP v (Pos.mk q.variant q.ag q.aa q.ae q.ao (q.ah.set j (wr .i8 z)) q.af q.ab q.half q.full) :=
 kS h (by rw [List.length_set]; exact h.1.rl) fun x hx=>by
  rcases List.mem_or_eq_of_mem_set hx with hx | rfl
  ·exact h.1.r0 x hx
  ·exact nN z
theorem PT {p:Pos} (hq:RP v q) (h0:0≤i) (h1:i≤1000):∃ r,fI s p (0,i,bad,q)=some r∧(0≤r.2.2.1∧r.2.2.1≤i+4∧RP v r.2.2.2.2):=by
 refine jh (I:=fun x:Int×Int×Bool×Pos=>0≤x.1∧x.1≤4∧0≤x.2.1∧x.2.1≤i+x.1∧RP v x.2.2.2) (μ:=fun x=>(4 - x.1).toNat) ?_ _ ⟨Int.le_refl _,(show (0:Int)≤4 by decide),h0,by dsimp only; omega,hq⟩ (show (4 - (0:Int)).toNat < 4294967296 by decide)
 rintro ⟨n,j,b,z⟩ ⟨n0,n4,j0,j1,hz⟩
 dsimp only at n0 n4 j0 j1 hz
 unfold la oJ
 dsimp only
 simp only [UX,X6,mN j0 (show j≤1000000 by omega)]
 generalize ij s j b=w
 have w1:wr .i64 (n+1)=n+1:=bD (by omega) (by omega)
 rw [w1]
 have o:∀ d f,fv z 0 d f=true:=fun d f=>vb hz (.inl rfl)
 have u:∀ d f,fv z 1 d f=true:=fun d f=>vb hz (.inr rfl)
 have kk:∀ a:Bool,(bif a then true else true&&true)=true:=by decide
 simp only [o,u,Ts (s:=s) (bad:=b) (p:=p) (q:=z) j0,X8 (s:=s) (bad:=b) (p:=p) (q:=z) j0,Bool.true_and,Bool.and_true]
 refine ⟨aQ (fun _=>aQ (fun _=>aQ (fun _=>aQ (fun _=>aQ (fun _=>aQ (fun _=>aQ (fun _=>rfl) fun _=>rfl) fun _=>aQ (fun _=>rfl) fun _=>rfl) fun _=>aQ (fun _=>aQ (fun _=>rfl) fun _=>rfl) fun _=>aQ (fun _=>rfl) fun _=>rfl) fun _=>aQ (fun _=>aQ (fun _=>aQ (fun _=>rfl) fun _=>rfl) fun _=>aQ (fun _=>rfl) fun _=>rfl) fun _=>aQ (fun _=>aQ (fun _=>rfl) fun _=>rfl) fun _=>aQ (fun _=>rfl) fun _=>rfl) fun _=>rfl) fun _=>rfl) fun _=>rfl,?_⟩
 refine bn (fun hn => ?_) fun _=>bH ⟨j0,by dsimp only; omega,hz⟩
 have hn:n < 4:=of_decide_eq_true hn
 have G:∀ (b':Bool) (z':Pos),RP v z'→Hd (ni (fun x:Int×Int×Bool×Pos=>0≤x.1∧x.1≤4∧0≤x.2.1∧x.2.1≤i+x.1∧RP v x.2.2.2) (fun r:Int×Bool×Int×Bool×Pos=>0≤r.2.2.1∧r.2.2.1≤i+4∧RP v r.2.2.2.2) (fun x=>(4 - x.1).toNat) (4 - n).toNat (.go (n+1,j+1,b',z'))):=fun b' z' h=>fj ⟨by dsimp only; omega,by dsimp only; omega,by dsimp only; omega,by dsimp only; omega,h⟩ (by dsimp only; omega)
 refine bn (fun _=>bn (fun _ => ?_) fun _=>bH ⟨j0,by dsimp only; omega,hz⟩) fun _=>bH ⟨j0,by dsimp only; omega,hz⟩
 have two:∀ (b1:Bool) (x1 x2:Nat) (f:Int) (y1 y2:Bool),Hd (ni (fun x:Int×Int×Bool×Pos=>0≤x.1∧x.1≤4∧0≤x.2.1∧x.2.1≤i+x.1∧RP v x.2.2.2) (fun r:Int×Bool×Int×Bool×Pos=>0≤r.2.2.1∧r.2.2.1≤i+4∧RP v r.2.2.2.2) (fun x=>(4 - x.1).toNat) (4 - n).toNat (bif y1 then .go (n+1,j+1,b1,Pos.mk z.variant z.ag z.aa z.ae z.ao (z.ah.set x1 (wr .i8 f)) z.af z.ab z.half z.full) else bif y2 then .go (n+1,j+1,b1,Pos.mk z.variant z.ag z.aa z.ae z.ao (z.ah.set x2 (wr .i8 f)) z.af z.ab z.half z.full) else .go (n+1,j+1,true,z))):=fun b1 x1 x2 f y1 y2=>bn (fun _=>G _ _ (Hh hz _ _)) fun _=>bn (fun _=>G _ _ (Hh hz _ _)) fun _=>G _ _ hz
 exact bn (fun _=>bn (fun _=>bn (fun _=>two _ _ _ _ _ _) fun _=>two _ _ _ _ _ _) fun _=>bn (fun _=>two _ _ _ _ _ _) fun _=>two _ _ _ _ _ _) fun _=>bn (fun _=>bn (fun _=>two _ _ _ _ _ _) fun _=>two _ _ _ _ _ _) fun _=>bn (fun _=>two _ _ _ _ _ _) fun _=>two _ _ _ _ _ _
theorem FZ {p:Pos} (hq:RP v q) (h0:0≤i) (h1:i≤1000):fy q s i bad p=true∧(0≤(cZ q s i bad p).2.1∧(cZ q s i bad p).2.1≤i+4∧RP v (cZ q s i bad p).1):=by
 have hz:RP v (Pos.mk q.variant q.ag q.aa q.ae q.ao (li [-1,-1,-1,-1]) q.af q.ab q.half q.full):=kS hq rfl (by decide)
 obtain ⟨r,e,h⟩:=PT (s:=s) (p:=p) (bad:=bad) hz h0 h1
 unfold fy cZ
 rw [Ts h0,e,bD (by omega) (by omega)]
 cases (fA s i bad p (Pos.mk q.variant q.ag q.aa q.ae q.ao (li [-1,-1,-1,-1]) q.af q.ab q.half q.full)==45)
 ·exact ⟨rfl,h⟩
 ·exact ⟨rfl,by show 0≤i+1; omega,by show i+1≤i+4; omega,hz⟩
theorem Sb {t:List UInt8} (hq:RP v q) (h0:0≤i) (h1:i≤1000):∃ r,bx t s (0,i,bad,q)=some r∧(0≤r.2.2.1∧r.2.2.1≤i+4∧RP v r.2.2.2.2):=by
 refine jh (I:=fun x:Int×Int×Bool×Pos=>0≤x.1∧x.1≤2∧0≤x.2.1∧x.2.1≤i+2 * x.1∧RP v x.2.2.2) (μ:=fun x=>(2 - x.1).toNat) ?_ _ ⟨Int.le_refl _,(show (0:Int)≤2 by decide),h0,by dsimp only; omega,hq⟩ (show (2 - (0:Int)).toNat < 4294967296 by decide)
 rintro ⟨n,j,b,z⟩ ⟨n0,n2,j0,j1,hz⟩
 dsimp only at n0 n2 j0 j1 hz
 unfold lG oo
 dsimp only
 simp only [H5,yI,lX j0 (show j≤1000000 by omega),mN (show 0≤j+1 by omega) (show j+1≤1000000 by omega)]
 rw [bD (n:=n+1) (by omega) (by omega)]
 refine ⟨aQ (fun hn=>bN (Gi j0) fun _=>bN (Ff (by omega)) fun _ => ?_) fun _=>rfl,bn (fun hn => ?_) fun _=>bH ⟨j0,by dsimp only; omega,hz⟩⟩
 ·have hn:n < 2:=of_decide_eq_true hn
  rw [decide_eq_true n0,decide_eq_true (show n < Int.ofNat 2 by show n < 2; omega)]; rfl
 ·have hn:n < 2:=of_decide_eq_true hn
  exact fj ⟨by dsimp only; omega,by dsimp only; omega,by dsimp only; omega,by dsimp only; omega,tM hz _ _⟩ (by dsimp only; omega)
theorem UT {p:Pos} (h0:0≤i) (h1:i≤1000):∃ r,iY s p (0,0,i,bad)=some r∧(0≤r.1∧r.1≤1000000∧0≤r.2.2.2.1∧r.2.2.2.1≤i+6):=by
 refine jh (I:=fun x:Int×Int×Int×Bool=>0≤x.2.1∧x.2.1≤6∧0≤x.2.2.1∧x.2.2.1≤i+x.2.1∧0≤x.1∧x.1 < 10 ^ x.2.1.toNat) (μ:=fun x=>(6 - x.2.1).toNat) ?_ _ ⟨Int.le_refl _,(show (0:Int)≤6 by decide),h0,by dsimp only; omega,Int.le_refl _,(show (0:Int) < 1 by decide)⟩ (show (6 - (0:Int)).toNat < 4294967296 by decide)
 rintro ⟨n,k,j,b⟩ ⟨k0,k6,j0,j1,n0,n1⟩
 dsimp only at k0 k6 j0 j1 n0 n1
 have big:∀ m:Nat,m≤6→(10:Int) ^ m≤1000000:=fun m hm=>by
  have:m=0∨m=1∨m=2∨m=3∨m=4∨m=5∨m=6:=by omega
  rcases this with rfl | rfl | rfl | rfl | rfl | rfl | rfl <;> decide
 have nb:=big k.toNat (by omega)
 unfold lg oI
 dsimp only
 simp only [LK,H5,mN j0 (show j≤1000000 by omega)]
 refine ⟨aQ (fun _=>bN (Gl j0) fun _=>aQ (fun _=>bN (Gl j0) fun _=>aQ (fun _=>bN (Ff j0) fun _=>rfl) fun _=>rfl) fun _=>rfl) fun _=>rfl,?_⟩
 have O:∀ (k':Int) (b':Bool),Hd (ni (fun x:Int×Int×Int×Bool=>0≤x.2.1∧x.2.1≤6∧0≤x.2.2.1∧x.2.2.1≤i+x.2.1∧0≤x.1∧x.1 < 10 ^ x.2.1.toNat) (fun r:Int×Int×Bool×Int×Bool=>0≤r.1∧r.1≤1000000∧0≤r.2.2.2.1∧r.2.2.2.1≤i+6) (fun x=>(6 - x.2.1).toNat) (6 - k).toNat (.out (n,k',b',j,b))):=fun k' b'=>bH ⟨n0,by dsimp only; omega,j0,by dsimp only; omega⟩
 refine bn (fun hk=>bn (fun h48=>bn (fun h57 => ?_) fun _=>O _ _) fun _=>O _ _) fun _=>O _ _
 have hk:k < 6:=of_decide_eq_true hk
 have h48:ij s j b ≥ 48:=of_decide_eq_true h48
 have h57:ij s j b≤57:=of_decide_eq_true h57
 rw [Bw (n:=ij s j b - 48) (by omega) (by omega),bD (n:=ij s j b - 48) (by omega) (by omega),bD (n:=10 * n) (by omega) (by omega),bD (n:=10 * n+(ij s j b - 48)) (by omega) (by omega),bD (n:=k+1) (by omega) (by omega)]
 refine fj ⟨by dsimp only; omega,by dsimp only; omega,by dsimp only; omega,by dsimp only; omega,by dsimp only; omega,?_⟩ (by dsimp only; omega)
 show 10 * n+(ij s j b - 48) < 10 ^ (k+1).toNat
 rw [show (k+1).toNat=k.toNat+1 by omega,Int.pow_succ]
 generalize (10:Int) ^ k.toNat=t at n1
 omega
theorem yb {p:Pos} (h0:0≤i) (h1:i≤1000):aM s i bad p=true∧(0≤(ax s i bad p).1∧(ax s i bad p).1≤1000000∧0≤(ax s i bad p).2.1∧(ax s i bad p).2.1≤i+6):=by
 obtain ⟨r,e,h⟩:=UT (s:=s) (p:=p) (bad:=bad) h0 h1
 unfold aM ax
 rw [e]
 exact ⟨rfl,h⟩
variable {s:List UInt8} {i:Int} {bad:Bool} {p q:Pos} {c v a:Int}
theorem zf (hp:aR p):eR p=true∧(iP p→jL p=iJ (cG p))∧(¬ iP p→jL p=[]):=by
 by_cases h:iP p
 ·obtain ⟨x,y⟩:=Rj hp h
  exact ⟨y,fun _=>x,fun g=>absurd h g⟩
 ·have h13:Mf p=false:=by
   cases e:Mf p with
   | false=>rfl
   | true=>exact absurd ((qu hp).1.1 e) h
  have e5:jL p=[]∧eR p=true:=by
   unfold jL eR
   rw [(qu hp).2,h13]
   exact ⟨rfl,rfl⟩
  exact ⟨e5.2,fun g=>absurd g h,fun _=>e5.1⟩
theorem zy (hp:aR p):jL p=wB p:=by
 obtain ⟨_,x1,x2⟩:=zf hp
 obtain ⟨_,y1,y2⟩:=oc hp
 by_cases h:iP p
 ·rw [x1 h,y1 h]
 ·rw [x2 h,y2 h]
def DM (v:Int) (s:List UInt8) (r:Pos×Int):Prop:=r=GS∨(r.2=0∧RP v r.1∧jL r.1=s)
theorem S5 (hq:RP v q) (h0:0≤i) (h1:i≤900):UU s q i bad=true∧DM v s (OS s q i bad):=by
 unfold UU OS
 obtain ⟨k1,a1,a2,a3,a4⟩:=yb (s:=s) (bad:=bad) (p:=q) h0 (show i≤1000 by omega)
 generalize ax s i bad q=n at a1 a2 a3 a4
 dsimp only
 have e:=lX (c:=32) (s:=s) (bad:=n.2.2) a3 (show n.2.1≤1000000 by omega)
 simp only [yI,e]
 obtain ⟨k2,b1,b2,b3,b4⟩:=yb (s:=s) (i:=n.2.1+1) (bad:=(ij s n.2.1 n.2.2 != 32) || (n.2.2 || (ij s n.2.1 n.2.2==0))) (p:=kY q n.1 q.full) (by omega) (by omega)
 generalize ax s (n.2.1+1) ((ij s n.2.1 n.2.2 != 32) || (n.2.2 || (ij s n.2.1 n.2.2==0))) (kY q n.1 q.full)=m at b1 b2 b3 b4
 have hr:RP v (kY q n.1 m.1):=Bt (AG hq (t:=n.1) (by omega) (by omega)) (by omega) (by omega)
 rw [k1,k2,Gi a3,(zf hr.1).1]
 refine ⟨by cases m.2.2 <;> rfl,?_⟩
 cases m.2.2
 ·rw [cond_false]
  by_cases h:jL (kY q n.1 m.1)=s
  ·rw [show (!jL (kY q n.1 m.1)==s)=false by rw [h,beq_self_eq_true]; rfl]
   exact .inr ⟨rfl,hr,h⟩
  ·rw [show (!jL (kY q n.1 m.1)==s)=true by rw [Bool.not_eq_true',beq_eq_false_iff_ne]; exact h]
   exact .inl rfl
 ·exact .inl rfl
theorem Qv (hq:RP v q) (h0:0≤i) (h1:i≤800):UO a s q i bad=true∧DM v s (CW a s q i bad):=by
 unfold UO CW
 cases (a==5)
 ·exact S5 hq h0 (by omega)
 ·obtain ⟨r,e,b1,b2,b3⟩:=Sb (s:=s) (t:=s) (bad:=bad) hq h0 (show i≤1000 by omega)
  rw [e]
  simp only [cond_true,Option.getD_some,Option.isSome_some,Bool.true_and,yI,lX b1 (show r.2.2.1≤1000000 by omega),Gi b1]
  exact S5 b3 (by omega) (by omega)
theorem Sr:(List.range 64).all (fun n=>sW (n:Int))=true:=by kernel_rfl
theorem two {d x y:Bool} {r t:Pos×Int} (h1:x=true∧DM v s r) (h2:y=true∧DM v s t):(bif d then x else y)=true∧DM v s (bif d then r else t):=by
 cases d
 ·exact h2
 ·exact h1
theorem Pa (x:List UInt8):wy x=true:=by
 obtain ⟨r,e,_⟩:∃ r,nu x 0=some r∧True:=by
  refine jh (I:=fun y:Int=>0≤y∧y≤64) (μ:=fun y=>(64 - y).toNat) ?_ _ ⟨Int.le_refl _,by decide⟩ (by decide)
  rintro y ⟨y0,y1⟩
  unfold AK EK
  refine ⟨aQ (fun h=>bN ?_ fun _=>rfl) fun _=>rfl,bn (fun h=>bn (fun _=>bH trivial) fun _ => ?_) fun _=>bH trivial⟩
  ·have h:y < 64:=of_decide_eq_true h
   have t:=dk Sr y0 (show y < 64 from h)
   rw [Int.toNat_of_nonneg y0] at t
   exact t
  ·have h:y < 64:=of_decide_eq_true h
   rw [bD (by omega) (by omega)]
   exact fj ⟨by omega,by omega⟩ (by omega)
 unfold wy
 rw [e]
 cases bP ((some r).getD default) <;> rfl
theorem V4 (hq:RP v q) (h0:0≤i) (h1:i≤700):XC a s q i bad=true∧DM v s (Rt a s q i bad):=by
 unfold XC Rt
 have i8:=nN
 simp only [LK,H5,yI,lX h0 (show i≤1000000 by omega),Gi h0,Gl (show 0≤i+1 by omega),Ff (show 0≤i+1 by omega),Bool.true_and]
 rw [bD (n:=i+1+1) (by omega) (by omega),mN (i:=i+1) (by omega) (by omega)]
 dsimp only
 rw [mN (i:=i+1+1) (by omega) (by omega)]
 dsimp only
 simp only [lX (i:=i+1+1) (by omega) (by omega),lX (i:=i+1+1+1) (by omega) (by omega),Ff (show 0≤i+1+1 by omega),Gi (show 0≤i+1+1 by omega),Gi (show 0≤i+1+1+1 by omega),Pa,Bool.true_and]
 generalize ij s (i+1) ((ij s i bad != 32) || (bad || (ij s i bad==0)))=w
 have r1:RP v (wq q (-1)):=kh hq (by decide) (by decide)
 have r2:∀ n:Int,RP v (wq q (wr .i8 n)):=fun n=>kh hq (i8 n).1 (i8 n).2
 cases (w==45)
 ·rw [cond_false,cond_false]
  exact two (Qv (r2 _) (by omega) (by omega)) (Qv (r2 _) (by omega) (by omega))
 ·exact Qv r1 (by omega) (by omega)
theorem SG (hq:RP v q) (h0:0≤i) (h1:i≤600):Va a s q i bad=true∧DM v s (Q1 a s q i bad):=by
 unfold Va Q1
 simp only [yI,lX h0 (show i≤1000000 by omega),Gi h0,Bool.true_and]
 obtain ⟨k,b1,b2,b3⟩:=FZ (s:=s) (i:=i+1) (bad:=(ij s i bad != 32) || (bad || (ij s i bad==0))) (p:=q) hq (by omega) (by omega)
 rw [k,Bool.true_and]
 exact V4 b3 b1 (by omega)
theorem Ru (hq:RP v q) (h0:0≤i) (h1:i≤500):U6 a s q i bad=true∧DM v s (N8 a s q i bad):=by
 unfold U6 N8
 simp only [H5,yI,lX h0 (show i≤1000000 by omega),Gi h0,Ff (show 0≤i+1 by omega),Bool.true_and,mN (show 0≤i+1 by omega) (show i+1≤1000000 by omega)]
 exact two (SG (q:=zx q 1) (u6 hq (by decide) (by decide)) (by omega) (by omega)) (SG hq (by omega) (by omega))
theorem Hq (h0:0≤v) (h1:v≤255):RP v (blank v) :=
 ⟨⟨h0,h1,rfl,(show ∀ x ∈ List.replicate 64 (0:Int),0≤x∧x≤255 by decide),rfl,(show ∀ x ∈ List.replicate 12 (0:Int),0≤x∧x≤255 by decide),(show (0:Int)≤0 by decide),(show (0:Int)≤255 by decide),rfl,(show ∀ x ∈ List.replicate 4 (0:Int),-128≤x∧x≤127 by decide),(show (-128:Int)≤0 by decide),(show (0:Int)≤127 by decide),rfl,(show ∀ x ∈ List.replicate 2 (0:Int),0≤x∧x≤255 by decide),(show (-9223372036854775808:Int)≤0∧(0:Int)≤9223372036854775807 by decide),(show (-9223372036854775808:Int)≤0∧(0:Int)≤9223372036854775807 by decide)⟩,rfl⟩
theorem Mj (h0:0≤v) (h1:v≤255):EU v s=true∧(v > 8→sR v s=(blank 0,2))∧(v≤8→200 < s.length→sR v s=(blank 0,3))∧(v≤8→s.length≤200→DM v s (sR v s)):=by
 rw [JN,FO]
 unfold RE Ou
 by_cases h8:v > 8
 ·rw [decide_eq_true h8]
  exact ⟨rfl,fun _=>rfl,fun h=>by omega,fun h=>by omega⟩
 rw [decide_eq_false h8]
 by_cases hl:Int.ofNat s.length > 200
 ·have hl':(s.length:Int) > 200:=hl
  rw [decide_eq_true hl]
  exact ⟨rfl,fun h=>absurd h h8,fun _ _=>rfl,fun _ h=>by omega⟩
 have hl':¬ (s.length:Int) > 200:=hl
 rw [decide_eq_false hl]
 obtain ⟨k,b1,b2,b3⟩:=Ka (s:=s) (Hq h0 h1)
 rw [k]
 have fin:∀ (x:Bool) (r:Pos×Int),(x=true∧DM v s r)→(bif false then true else bif false then true else x)=true∧(v > 8→(bif false then (blank 0,(2:Int)) else bif false then (blank 0,3) else r)=(blank 0,2))∧(v≤8→200 < s.length→(bif false then (blank 0,(2:Int)) else bif false then (blank 0,3) else r)=(blank 0,3))∧(v≤8→s.length≤200→DM v s (bif false then (blank 0,(2:Int)) else bif false then (blank 0,3) else r)):=fun x r h=>⟨h.1,fun g=>absurd g h8,fun _ g=>by omega,fun _ _=>h.2⟩
 refine fin _ _ ?_
 rw [Bool.true_and]
 cases (v==2)
 ·exact Ru b3 b1 (by omega)
 ·simp only [cond_true,yI,lX b1 (show (cR (blank v) s).2.1≤1000000 by omega),Gi b1,Bool.true_and]
  obtain ⟨r,e,d1,d2,d3⟩:=QZ (s:=s) (a:=v) (t:=s) (bad:=(ij s (cR (blank v) s).2.1 (cR (blank v) s).2.2 != 91) || ((cR (blank v) s).2.2 || (ij s (cR (blank v) s).2.1 (cR (blank v) s).2.2==0))) (i:=(cR (blank v) s).2.1+1) (by omega) b3 (by omega) (by omega)
  rw [e]
  simp only [Option.getD_some,Option.isSome_some,Bool.true_and,lX d1 (show r.1≤1000000 by omega),Gi d1]
  exact Ru d3 (by omega) (by omega)
def kO {X R:Type} (F:X→aF X R) (n:Nat) (x y:X):Prop := ∀ m r,dh F m y=some r→dh F (n+m) x=some r
noncomputable section
variable {X R:Type} {F:X→aF X R} {n m:Nat} {x y z:X}
theorem kO.refl (x:X):kO F 0 x x:=fun m r h=>by rw [Nat.zero_add]; exact h
theorem kO.one (h:F x=.go y):kO F 1 x y:=fun m r g=>by rw [Nat.add_comm]; exact jO h g
theorem kO.trans (h:kO F n x y) (g:kO F m y z):kO F (n+m) x z:=fun k r e=>by rw [Nat.add_assoc]; exact h _ _ (g _ _ e)
theorem kO.out {r:R} (h:kO F n x y) (e:F y=.out r) (hn:n+1≤many):dh F many x=some r:=eS hn (h 1 r (jN e))
end
variable {s pre t:List UInt8} {b:UInt8} {q:Pos} {a f:Int}
theorem gu (h:s=pre++t):ij s ((pre.length:Nat):Int) false=(t.head?.getD 0).toNat:=by
 subst h
 unfold ij
 rw [cond_false]
 cases t with
 | nil =>
  rw [decide_eq_true (show ((pre.length:Nat):Int) ≥ Int.ofNat (pre++([]:List UInt8)).length by rw [List.append_nil]; exact Int.le_refl _)]
  rfl
 | cons b t =>
  rw [decide_eq_false (show ¬ ((pre.length:Nat):Int) ≥ Int.ofNat (pre++b::t).length by rw [List.length_append,List.length_cons]; show ¬ ((pre.length:Nat):Int) ≥ ((pre.length+(t.length+1):Nat):Int); omega),cond_false,Int.toNat_natCast,List.getElem?_append_right (Nat.le_refl _),Nat.sub_self]
  rfl
theorem kq (h:s=pre++b::t) (hb:b≠0) (hl:s.length≤1000):tk s ((pre.length:Nat):Int) false=((b.toNat:Int),(((pre++[b]).length:Nat):Int),false):=by
 have hp:pre.length≤1000:=by rw [h,List.length_append] at hl; omega
 have hz:((b.toNat:Int)==0)=false:=by
  rw [beq_eq_false_iff_ne]
  intro e
  exact hb (UInt8.toNat_inj.1 (Int.ofNat.inj (show ((b.toNat:Nat):Int)=((0:Nat):Int) from e)))
 rw [mN (by omega) (by omega),gu h]
 show ((b.toNat:Int),_,(false || ((b.toNat:Int)==0)))=_
 rw [hz,List.length_append]
 rfl
theorem lD (h:s=pre++b::t) (hb:b≠0) (hl:s.length≤1000):nd (b.toNat:Int) s ((pre.length:Nat):Int) false=((((pre++[b]).length:Nat):Int),false):=by
 unfold nd
 rw [kq h hb hl,show ((b.toNat:Int) != (b.toNat:Int))=false by simp]
 rfl
theorem CS (h:t.head?≠some 126):((((t.head?.getD 0).toNat:Nat):Int)==126)=false:=by
 rw [beq_eq_false_iff_ne]
 intro e
 cases t with
 | nil=>exact absurd e (by decide)
 | cons b t =>
  refine h ?_
  have e2:b.toNat=126:=Int.ofNat.inj (show ((b.toNat:Nat):Int)=((126:Nat):Int) from e)
  rw [List.head?_cons,UInt8.toNat_inj.1 (show b.toNat=(126:UInt8).toNat from e2)]
def F9 (s:List UInt8) (x:Int×Int×Int×Bool×Pos):aF (Int×Int×Int×Bool×Pos) (Int×Int×Bool×Pos):=bif jZ s x then ns s x else .bad
theorem Se:(List.range 10).all (fun n=>iG ((48+n:Nat):Int)==0)=true:=by kernel_rfl
def US (q:Pos) (a x:Int):Pos:=Pos.mk q.variant (q.ag.set a.toNat x) q.aa q.ae q.ao q.ah q.af q.ab q.half q.full
def T2 (q:Pos) (a x:Int):Pos:=Pos.mk q.variant (q.ag.set a.toNat x) (q.aa|||1#64 <<< a.toNat) q.ae q.ao q.ah q.af q.ab q.half q.full
theorem Pb (i:Int) (bad:Bool):F9 s (a,8,i,bad,q)=.out (a,i,bad,q):=by
 unfold F9 jZ ns
 dsimp only
 rfl
theorem Dz (h:s=pre++b::t) (hl:s.length≤1000) {e:Nat} (he1:1≤e) (he8:e≤8) (hb:b=UInt8.ofNat (48+e)) (f0:0≤f) (f8:f+e≤8) (a0:0≤a) (a1:a≤64):F9 s (a,f,((pre.length:Nat):Int),false,q)=.go (a+e,f+e,(((pre++[b]).length:Nat):Int),false,q):=by
 have hv:b.toNat=48+e:=by
  rw [hb,UInt8.toNat_ofNat']
  exact Nat.mod_eq_of_lt (by omega)
 have hz:=List.all_eq_true.1 Se e (List.mem_range.2 (by omega))
 rw [beq_iff_eq] at hz
 have hb0:b≠0:=fun e'=>by rw [e'] at hv; exact absurd hv (by show ¬ (0=48+e); omega)
 have w:wr .i64 (wr .u8 (((48+e:Nat):Int) - 48))=(e:Int):=by
  rw [Bw (n:=((48+e:Nat):Int) - 48) (by omega) (by omega),bD (by omega) (by omega)]
  omega
 unfold F9 jZ ns
 dsimp only
 simp only [e7,e8,kq h hb0 hl,hv,hz,k8 (s:=s) (i:=((pre.length:Nat):Int)) (bad:=false) (p:=q) (by omega),w,decide_eq_true (show f < 8 by omega),decide_eq_false (show ¬ ((48+e:Nat):Int) < 49 by omega),decide_eq_false (show ¬ ((48+e:Nat):Int) > 56 by omega),bD (n:=f+(e:Int)) (by omega) (by omega),bD (n:=a+(e:Int)) (by omega) (by omega),decide_eq_false (show ¬ f+(e:Int) > 8 by omega)]
 rfl
theorem Qc (h:s=pre++b::t) (ht:t.head?≠some 126) (hl:s.length≤1000) (hb0:b≠0) {x:Int} (hx:iG (b.toNat:Int)=x) (hx0:x≠0) (f0:0≤f) (f7:f≤7) (a0:0≤a) (a1:a≤63):F9 s (a,f,((pre.length:Nat):Int),false,q)=.go (a+1,f+1,(((pre++[b]).length:Nat):Int),false,US q a x):=by
 have h2:s=(pre++[b])++t:=by rw [h]; simp
 unfold F9 jZ ns
 dsimp only
 simp only [e7,e8,kq h hb0 hl,hx,gu h2,CS ht,k8 (s:=s) (i:=((pre.length:Nat):Int)) (bad:=false) (p:=q) (by omega),decide_eq_true (show f < 8 by omega),show (x != 0)=true by simpa using hx0,decide_eq_true a0,decide_eq_true (show a < Int.ofNat 64 by show a < 64; omega),bD (n:=f+1) (by omega) (by omega),bD (n:=a+1) (by omega) (by omega),eO]
 rw [k7 (by omega)]
 rfl
theorem EJ (h:s=pre++b::126::t) (hl:s.length≤1000) (hb0:b≠0) {x:Int} (hx:iG (b.toNat:Int)=x) (hx0:x≠0) (f0:0≤f) (f7:f≤7) (a0:0≤a) (a1:a≤63):F9 s (a,f,((pre.length:Nat):Int),false,q)=.go (a+1,f+1,(((pre++[b,126]).length:Nat):Int),false,T2 q a x):=by
 have h2:s=(pre++[b])++126::t:=by rw [h]; simp
 have hp:pre.length≤1000:=by rw [h,List.length_append] at hl; omega
 have hn:ij s (((pre++[b]).length:Nat):Int) false=126:=gu h2
 unfold F9 jZ ns
 dsimp only
 simp only [e7,e8,kq h hb0 hl,hx,hn,k8 (s:=s) (i:=((pre.length:Nat):Int)) (bad:=false) (p:=q) (by omega),decide_eq_true (show f < 8 by omega),show (x != 0)=true by simpa using hx0,decide_eq_true a0,decide_eq_true (show a < Int.ofNat 64 by show a < 64; omega),bD (n:=f+1) (by omega) (by omega),bD (n:=a+1) (by omega) (by omega),eO,(put_eq q.aa a0 a1).1,(put_eq q.aa a0 a1).2,show ((126:Int)==126)=true from rfl]
 rw [k7 (by omega),bD (n:=(((pre++[b]).length:Nat):Int)+1) (by omega) (by rw [List.length_append,List.length_cons,List.length_nil]; omega),show (((pre++[b,126]).length:Nat):Int)=(((pre++[b]).length:Nat):Int)+1 by simp only [List.length_append,List.length_cons,List.length_nil]; omega]
 rfl
variable {s pre t:List UInt8} {b:UInt8} {p q:Pos} {a f:Int}
theorem RC:(List.range 256).all (fun n=>iG (n:Int)==(bif (fw [UInt8.ofNat n]).2 then (fw [UInt8.ofNat n]).1 else 0))=true:=by kernel_rfl
theorem Fz {x:Int} (h:fw [b]=(x,true)):iG (b.toNat:Int)=x:=by
 have t:=List.all_eq_true.1 RC b.toNat (List.mem_range.2 (UInt8.toNat_lt b))
 rw [beq_iff_eq,UInt8.ofNat_toNat,h] at t
 exact t
theorem LY {e:Nat} (h8:e≤8) (ht:t.head?≠some 126):(fl (e:Int)++t).head?≠some 126:=by
 rw [vN h8]
 by_cases h:e=0
 ·rw [if_pos h]; exact ht
 ·rw [if_neg h]
  intro g
  have:UInt8.ofNat (48+e)=126:=Option.some.inj g
  have:=congrArg UInt8.toNat this
  rw [UInt8.toNat_ofNat'] at this
  have h2:(48+e) % 2 ^ 8=48+e:=Nat.mod_eq_of_lt (by omega)
  rw [h2] at this
  have:48+e=126:=this
  omega
theorem EW (hp:aR p) (hm:fS p) {r:Int} (r0:0≤r) (r7:r≤7) (ht:t.head?≠some 126):∀ (k e:Nat),e+k≤8→(bW p r k e++t).head?≠some 126
 | 0,e,he=>by rw [bW]; exact LY (by omega) ht
 | k+1,e,he=>by
  rw [bW]
  by_cases hz:cK p (8 * r+(7 - (k:Int)))=0
  ·rw [show (cK p (8 * r+(7 - (k:Int)))==0)=true by rw [hz]; rfl,cond_true]
   exact EW hp hm r0 r7 ht k (e+1) (by omega)
  ·rw [show (cK p (8 * r+(7 - (k:Int)))==0)=false by simpa using hz,cond_false,List.append_assoc]
   refine LY (by omega) ?_
   have hin:=mV hp (8 * r+(7 - (k:Int)))
   obtain ⟨c,l1,_,_,l4⟩:=lB hin.1 hin.2 (hm _ (by omega) (by omega) hz)
   unfold hJ
   rw [l1]
   intro g
   exact l4 (Option.some.inj g)
theorem G4 {e:Nat} (h8:e≤8) (h:s=pre++(fl (e:Int)++t)) (hl:s.length≤1000) (f0:0≤f) (f8:f+e≤8) (a0:0≤a) (a1:a≤64):∃ n,n≤1∧kO (F9 s) n (a,f,((pre.length:Nat):Int),false,q) (a+e,f+e,(((pre++fl (e:Int)).length:Nat):Int),false,q):=by
 rw [vN h8] at h ⊢
 by_cases he:e=0
 ·subst he
  rw [if_pos rfl,List.append_nil]
  refine ⟨0,by omega,?_⟩
  rw [show a+((0:Nat):Int)=a by omega,show f+((0:Nat):Int)=f by omega]
  exact kO.refl _
 ·rw [if_neg he] at h ⊢
  exact ⟨1,Nat.le_refl _,kO.one (Dz h hl (by omega) h8 rfl f0 f8 a0 a1)⟩
theorem wx (hp:aR p) (hm:fS p) (hbit:∀ s:Nat,s < 64→bQ p.aa s=true→cK p s≠0) (hl:s.length≤1000) (ht:t.head?≠some 126) {r:Int} (r0:0≤r) (r7:r≤7):∀ (k e:Nat) (pre:List UInt8) (q:Pos),q.ag.length=64→k≤8→e+k≤8→s=pre++(bW p r k e++t) →
  ∃ n q',n≤2 * k+1∧kO (F9 s) n (8 * r+(8 - k - e),(8:Int) - k - e,((pre.length:Nat):Int),false,q) (8 * r+8,8,(((pre++bW p r k e).length:Nat):Int),false,q')∧Rd p q q' (8 * r+(8 - k)) (8 * r+8)
 | 0,e,pre,q,hq,_,he,h=>by
  rw [bW] at h ⊢
  obtain ⟨n,h1,h2⟩:=G4 (e:=e) (q:=q) (f:=(8:Int) - ((0:Nat):Int) - e) (a:=8 * r+(8 - ((0:Nat):Int) - e)) (by omega) h hl (by omega) (by omega) (by omega) (by omega)
  rw [show 8 * r+(8 - ((0:Nat):Int) - e)+e=8 * r+8 by omega,show (8:Int) - ((0:Nat):Int) - e+e=8 by omega] at h2
  exact ⟨n,q,by omega,h2,Rd.refl p q (by omega)⟩
 | k+1,e,pre,q,hq,hk,he,h=>by
  rw [bW] at h ⊢
  by_cases hz:cK p (8 * r+(7 - (k:Int)))=0
  ·rw [show (cK p (8 * r+(7 - (k:Int)))==0)=true by rw [hz]; rfl,cond_true] at h ⊢
   obtain ⟨n,q',h1,h2,h3⟩:=wx hp hm hbit hl ht r0 r7 k (e+1) pre q hq (by omega) (by omega) h
   refine ⟨n,q',by omega,?_,?_⟩
   ·rw [show 8 * r+(8 - ((k+1:Nat):Int) - (e:Int))=8 * r+(8 - (k:Int) - ((e+1:Nat):Int)) by omega,show (8:Int) - ((k+1:Nat):Int) - (e:Int)=8 - (k:Int) - ((e+1:Nat):Int) by omega]
    exact h2
   ·refine ⟨h3.same,h3.len,fun s s0 s1 => ?_,fun s s1 => ?_⟩
    ·rw [h3.ag s s0 s1]
     by_cases hs:s=8 * r+(7 - (k:Int))
     ·subst hs
      rw [if_neg (fun h=>h.2.2 hz),if_neg (fun h=>h.2.2 hz)]
     ·by_cases hc:8 * r+(8 - (k:Int))≤s∧s < 8 * r+8∧cK p s≠0
      ·rw [if_pos hc,if_pos ⟨by omega,hc.2⟩]
      ·rw [if_neg hc,if_neg (fun h=>hc ⟨by omega,h.2⟩)]
    ·rw [h3.bits s s1]
     congr 1
     by_cases hs:(s:Int)=8 * r+(7 - (k:Int))
     ·have:bQ p.aa s=false:=by
       cases hb:bQ p.aa s with
       | false=>rfl
       | true =>
        have:=hbit s s1 hb
        rw [hs] at this
        exact absurd hz this
      rw [this,Bool.and_false,Bool.and_false]
     ·congr 1
      exact decide_eq_decide.2 (by omega)
  ·rw [show (cK p (8 * r+(7 - (k:Int)))==0)=false by simpa using hz,cond_false] at h ⊢
   have s0:0≤8 * r+(7 - (k:Int)):=by omega
   have s1:8 * r+(7 - (k:Int)) < 64:=by omega
   have hin:=mV hp (8 * r+(7 - (k:Int)))
   obtain ⟨c,l1,l2,l3,l4⟩:=lB hin.1 hin.2 (hm _ s0 s1 hz)
   have c0:c≠0:=fun e=>by
    rw [e] at l3
    have:fw [0]=((0:Int),false):=by kernel_rfl
    exact absurd (Prod.mk.inj (this.symm.trans l3)).2 (by decide)
   have hx:=Fz l3
   unfold hJ at h ⊢
   rw [l1] at h ⊢
   obtain ⟨n1,g1,g2⟩:=G4 (e:=e) (q:=q) (f:=(8:Int) - ((k+1:Nat):Int) - e) (a:=8 * r+(8 - ((k+1:Nat):Int) - e)) (by omega) (by rw [h]; simp only [List.append_assoc]; rfl) hl (by omega) (by omega) (by omega) (by omega)
   rw [show 8 * r+(8 - ((k+1:Nat):Int) - e)+e=8 * r+(7 - k) by omega,show (8:Int) - ((k+1:Nat):Int) - e+e=7 - k by omega] at g2
   generalize hs:8 * r+(7 - (k:Int))=z at *
   have key:∀ (pre2:List UInt8) (q2:Pos),q2.ag.length=64→s=pre2++(bW p r k 0++t)→Rd p q q2 z (z+1)→∃ n q',n≤2 * k+1∧kO (F9 s) n (z+1,(7:Int) - k+1,((pre2.length:Nat):Int),false,q2) (8 * r+8,8,(((pre2++bW p r k 0).length:Nat):Int),false,q')∧Rd p q q' (8 * r+(8 - ((k+1:Nat):Int))) (8 * r+8):=by
    intro pre2 q2 hl2 ht2 hR
    obtain ⟨n,q',h1,h2,h3⟩:=wx hp hm hbit hl ht r0 r7 k 0 pre2 q2 hl2 (by omega) (by omega) ht2
    refine ⟨n,q',h1,?_,?_⟩
    ·rw [show 8 * r+(8 - (k:Int) - ((0:Nat):Int))=z+1 by omega,show (8:Int) - (k:Int) - ((0:Nat):Int)=7 - k+1 by omega] at h2
     exact h2
    ·rw [show 8 * r+(8 - (k:Int))=z+1 by omega] at h3
     rw [show 8 * r+(8 - ((k+1:Nat):Int))=z by omega]
     exact hR.trans h3 (by omega) (by omega)
   cases hbt:bQ p.aa z.toNat with
   | false =>
    rw [hbt,cond_false,List.append_nil] at h
    rw [cond_false,List.append_nil]
    have st:=Qc (q:=q) (s:=s) (pre:=pre++fl (e:Int)) (t:=bW p r k 0++t) (b:=c) (f:=(7:Int) - k) (a:=z) (by rw [h]; simp only [List.append_assoc,List.cons_append,List.nil_append]) (EW hp hm r0 r7 ht k 0 (by omega)) hl c0 hx hz (by omega) (by omega) (by omega) (by omega)
    obtain ⟨n,q',h1,h2,h3⟩:=key (pre++fl (e:Int)++[c]) (US q z (cK p z)) (by show (q.ag.set _ _).length=64; rw [List.length_set]; exact hq) (by rw [h]; simp only [List.append_assoc,List.cons_append,List.nil_append]) (Rd.SC hq s0 s1 hz (b:=q.aa) (by rw [hbt]; rfl))
    refine ⟨n1+(1+n),q',by omega,?_,h3⟩
    have:=g2.trans ((kO.one st).trans h2)
    rw [show pre++(fl (e:Int)++([c]++bW p r k 0))=pre++fl (e:Int)++[c]++bW p r k 0 by simp only [List.append_assoc]]
    exact this
   | true =>
    rw [hbt,cond_true] at h
    rw [cond_true]
    have st:=EJ (q:=q) (s:=s) (pre:=pre++fl (e:Int)) (t:=bW p r k 0++t) (b:=c) (f:=(7:Int) - k) (a:=z) (by rw [h]; simp only [List.append_assoc,List.cons_append,List.nil_append]) hl c0 hx hz (by omega) (by omega) (by omega) (by omega)
    obtain ⟨n,q',h1,h2,h3⟩:=key (pre++fl (e:Int)++[c,126]) (T2 q z (cK p z)) (by show (q.ag.set _ _).length=64; rw [List.length_set]; exact hq) (by rw [h]; simp only [List.append_assoc,List.cons_append,List.nil_append]) (Rd.SC hq s0 s1 hz (b:=q.aa|||1#64 <<< z.toNat) (by rw [hbt]; rfl))
    refine ⟨n1+(1+n),q',by omega,?_,h3⟩
    have:=g2.trans ((kO.one st).trans h2)
    rw [show pre++(fl (e:Int)++(([c]++[126])++bW p r k 0))=pre++fl (e:Int)++[c,126]++bW p r k 0 by simp only [List.append_assoc,List.cons_append,List.nil_append]]
    exact this
theorem Gy (hp:aR p) (hm:fS p) (hbit:∀ s:Nat,s < 64→bQ p.aa s=true→cK p s≠0) (hl:s.length≤1000) (ht:t.head?≠some 126) {r:Int} (r0:0≤r) (r7:r≤7) (hq:q.ag.length=64) (h:s=pre++(bW p r 8 0++t)) :
  ∃ q',cY s (8 * r,0,((pre.length:Nat):Int),false,q)=some (8 * r+8,(((pre++bW p r 8 0).length:Nat):Int),false,q')∧Rd p q q' (8 * r) (8 * r+8):=by
 obtain ⟨n,q',h1,h2,h3⟩:=wx hp hm hbit hl ht r0 r7 8 0 pre q hq (by omega) (by omega) h
 rw [show 8 * r+(8 - ((8:Nat):Int) - ((0:Nat):Int))=8 * r by omega,show (8:Int) - ((8:Nat):Int) - ((0:Nat):Int)=0 by omega] at h2
 rw [show 8 * r+((8:Int) - ((8:Nat):Int))=8 * r by omega] at h3
 exact ⟨q',h2.out (Pb _ _) (Nat.le_trans (show n+1≤18 by omega) (by unfold many; omega)),h3⟩
def Mk (s:List UInt8) (x:Int×Int×Bool×Pos):aF (Int×Int×Bool×Pos) (Int×Bool×Int×Bool×Pos):=bif jF s x then ma s x else .bad
theorem JU (i:Int) (bad:Bool):Mk s (-8,i,bad,q)=.out (-8,false,i,bad,q):=by
 unfold Mk jF ma
 dsimp only
 rfl
theorem Eh (hp:aR p) (hm:fS p) (hbit:∀ s:Nat,s < 64→bQ p.aa s=true→cK p s≠0) (hl:s.length≤1000) (ht:t.head?≠some 126):∀ (k:Nat) (pre:List UInt8) (q:Pos),q.ag.length=64→k≤8→s=pre++(dW p k++t) →
  ∃ q',kO (Mk s) k (8 * (k:Int) - 8,((pre.length:Nat):Int),false,q) (-8,(((pre++dW p k).length:Nat):Int),false,q')∧Rd p q q' 0 (8 * (k:Int))
 | 0,pre,q,hq,hk,h=>⟨q,by rw [dW,List.append_nil]; exact kO.refl _,Rd.refl p q (by omega)⟩
 | k+1,pre,q,hq,hk,h=>by
  rw [dW] at h ⊢
  have qC:pre.length≤1000:=by rw [h,List.length_append] at hl; omega
  by_cases hk0:0 < k
  ·rw [decide_eq_true hk0,cond_true] at h ⊢
   obtain ⟨q1,e1,e2⟩:=Gy (q:=q) (r:=(k:Int)) (pre:=pre) (t:=47::(dW p k++t)) hp hm hbit hl (by simp) (by omega) (by omega) hq (by rw [h]; simp only [List.append_assoc,List.cons_append,List.nil_append])
   obtain ⟨q',g1,g2⟩:=Eh hp hm hbit hl ht k (pre++bW p (k:Int) 8 0++[47]) q1 (e2.len.trans hq) (by omega) (by rw [h]; simp only [List.append_assoc,List.cons_append,List.nil_append])
   have hn:=lD (s:=s) (pre:=pre++bW p (k:Int) 8 0) (b:=47) (t:=dW p k++t) (by rw [h]; simp only [List.append_assoc,List.cons_append,List.nil_append]) (by decide) hl
   have st:Mk s (8 * ((k+1:Nat):Int) - 8,((pre.length:Nat):Int),false,q)=.go (8 * (k:Int) - 8,(((pre++bW p (k:Int) 8 0++[47]).length:Nat):Int),false,q1):=by
    rw [show 8 * ((k+1:Nat):Int) - 8=8 * (k:Int) by omega]
    unfold Mk jF ma
    dsimp only
    simp only [e1,Option.getD_some,Option.isSome_some,decide_eq_true (show 8 * (k:Int) ≥ 0 by omega),decide_eq_true (show 8 * (k:Int)+8 > 8 by omega),Yf,Q0 (show 0≤(((pre++bW p (k:Int) 8 0).length:Nat):Int) by omega),bD (n:=8 * (k:Int)+8 - 16) (by omega) (by omega)]
    rw [show ((47:UInt8).toNat:Int)=47 from rfl] at hn
    rw [hn,show 8 * (k:Int)+8 - 16=8 * (k:Int) - 8 by omega]
    rfl
   refine ⟨q',?_,?_⟩
   ·have:=(kO.one st).trans g1
    rw [Nat.add_comm] at this
    rw [show pre++(bW p (k:Int) 8 0++([47]++dW p k))=pre++bW p (k:Int) 8 0++[47]++dW p k by simp only [List.append_assoc]]
    exact this
   ·rw [show 8 * ((k+1:Nat):Int)=8 * (k:Int)+8 by omega]
    exact e2.trans' g2 (by omega) (by omega)
  ·obtain rfl:k=0:=by omega
   rw [decide_eq_false hk0,cond_false,dW,List.nil_append,List.append_nil] at h ⊢
   obtain ⟨q1,e1,e2⟩:=Gy (q:=q) (r:=((0:Nat):Int)) (pre:=pre) (t:=t) hp hm hbit hl ht (by omega) (by omega) hq h
   have st:Mk s (8 * ((0+1:Nat):Int) - 8,((pre.length:Nat):Int),false,q)=.go (-8,(((pre++bW p ((0:Nat):Int) 8 0).length:Nat):Int),false,q1):=by
    have e1:cY s (0,0,((pre.length:Nat):Int),false,q)=some (8,(((pre++bW p ((0:Nat):Int) 8 0).length:Nat):Int),false,q1):=e1
    show Mk s (0,((pre.length:Nat):Int),false,q)=_
    unfold Mk jF ma
    dsimp only
    simp only [e1,Option.getD_some,Option.isSome_some]
    rfl
   exact ⟨q1,kO.one st,e2⟩
theorem MN (hp:aR p) (hm:fS p) (hbit:∀ s:Nat,s < 64→bQ p.aa s=true→cK p s≠0) (hl:s.length≤1000) (ht:t.head?≠some 126) (h:s=dW p 8++t) (v:Int) :
  cR (blank v) s=(Pos.mk v p.ag p.aa (List.replicate 12 0) 0 (List.replicate 4 0) 0 (List.replicate 2 0) 0 0,((dW p 8).length:Int),false):=by
 obtain ⟨q',g1,g2⟩:=Eh hp hm hbit hl ht 8 [] (blank v) rfl (by omega) (by rw [h]; rfl)
 have e:iW s (56,0,false,blank v)=some (-8,false,(((([]:List UInt8)++dW p 8).length:Nat):Int),false,q'):=g1.out (JU _ _) (by unfold many; omega)
 have w:=g2.whole (q:=blank v) hp.bl rfl rfl
 unfold cR
 rw [e]
 show (q',(((dW p 8).length:Nat):Int),false)=_
 rw [w]
 rfl
variable {s pre t u:List UInt8} {b:UInt8} {p q:Pos} {a:Int}
def Q4 (a:Int) (u s:List UInt8) (x:Int×Bool×Pos):aF (Int×Bool×Pos) (Int×Bool×Pos):=bif lu a u s x then oC a u s x else .bad
theorem Ib (h:s=pre++93::t):Q4 a u s (((pre.length:Nat):Int),false,q)=.out (((pre.length:Nat):Int),false,q):=by
 have hn:ij s ((pre.length:Nat):Int) false=93:=gu h
 unfold Q4 lu oC
 dsimp only
 simp only [LK,hn,Gl (s:=s) (i:=((pre.length:Nat):Int)) (bad:=false) (p:=q) (by omega)]
 rfl
theorem Kq {K:List Int} {i:Nat} (hi:i < 12) (hp:Rg i b) (h:s=pre++b::t) (hl:s.length≤1000) (k0:0≤K.getD i 0) (k1:K.getD i 0+1≤255):Q4 a u s (((pre.length:Nat):Int),false,fX q K)=.go ((((pre++[b]).length:Nat):Int),false,fX q (K.set i (K.getD i 0+1))):=by
 have hx:=Fz (b:=b) (x:=(fw [b]).1) (Prod.ext rfl hp.ok)
 have hM:=(eE [b]).2 hp.ok
 have h0:iG (b.toNat:Int)≠0:=by rw [hx]; have:=hM.1; omega
 obtain ⟨_,m2,m3,m4⟩:=FW (b:=(b.toNat:Int)) (by omega) (by have:=UInt8.toNat_lt b; omega) h0
 have b0:b≠0:=fun e=>m4 (by rw [e]; rfl)
 have n93:(((b.toNat:Nat):Int) != 93)=true:=by
  rw [bne_iff_ne]
  intro e
  have e2:b.toNat=93:=Int.ofNat.inj (show ((b.toNat:Nat):Int)=((93:Nat):Int) from e)
  exact hp.no.2 (UInt8.toNat_inj.1 e2)
 have hn:ij s ((pre.length:Nat):Int) false=(b.toNat:Int):=gu h
 rw [hx] at m2 m3
 rw [hp.kind] at m2
 rw [hp.side] at m3
 have hsc:(scale 6 ((i / 6:Nat):Int)+scale 1 ((i % 6:Nat):Int)).toNat=i:=by
  rw [sF,eO]
  omega
 have h0':((fw [b]).1==0)=false:=by rw [← hx]; simpa using h0
 have h6:(((i % 6:Nat):Int)==6)=false:=by rw [beq_eq_false_iff_ne]; omega
 unfold Q4 lu oC
 dsimp only
 simp only [LK,H5,kq h b0 hl,hn,hx,m2,m3,n93,h0',h6,hsc,Gl (s:=s) (i:=((pre.length:Nat):Int)) (bad:=false) (p:=fX q K) (by omega),Ff (s:=s) (i:=((pre.length:Nat):Int)) (bad:=false) (p:=fX q K) (by omega),
  decide_eq_true (show (0:Int)≤((i % 6:Nat):Int) by omega),decide_eq_true (show (0:Int)≤((i / 6:Nat):Int) by omega),decide_eq_true (show ((i / 6:Nat):Int) < Int.ofNat 2 by show ((i / 6:Nat):Int) < 2; omega),decide_eq_true (show ((i % 6:Nat):Int) < Int.ofNat 6 by show ((i % 6:Nat):Int) < 6; omega)]
 show aF.go (_,false,fX q (K.set i (wr .u8 (K.getD i 0+1))))=_
 rw [Bw (n:=K.getD i 0+1) (by omega) (by omega)]
theorem Gn {i:Nat} (hi:i < 12) (hp:Rg i b) (hl:s.length≤1000):∀ (m:Nat) (pre:List UInt8) (K:List Int),K.length=12→s=pre++(Lib.repeatL [b] m++t)→0≤K.getD i 0→K.getD i 0+m≤255 →
  kO (Q4 a u s) m (((pre.length:Nat):Int),false,fX q K) ((((pre++Lib.repeatL [b] m).length:Nat):Int),false,fX q (K.set i (K.getD i 0+m)))
 | 0,pre,K,hK,h,h0,h1=>by
  have e:K.set i (K.getD i 0+((0:Nat):Int))=K:=by
   rw [show K.getD i 0+((0:Nat):Int)=K[i]'(by omega) by rw [List.getD_eq_getElem?_getD,List.getElem?_eq_getElem (by omega)]; simp]
   exact List.set_getElem_self _
  rw [e,show Lib.repeatL [b] 0=[] from rfl,List.append_nil]
  exact kO.refl _
 | m+1,pre,K,hK,h,h0,h1=>by
  have h':s=(pre++[b])++(Lib.repeatL [b] m++t):=by
   rw [h]
   show pre++([b]++Lib.repeatL [b] m++t)=_
   simp only [List.append_assoc]
  have g1:(K.set i (K.getD i 0+1)).getD i 0=K.getD i 0+1:=by
   rw [List.getD_eq_getElem?_getD,List.getElem?_set_self (by omega)]
   rfl
  have st:=Kq (a:=a) (u:=u) (q:=q) hi hp (show s=pre++b::(Lib.repeatL [b] m++t) by rw [h']; simp) hl h0 (by omega)
  have ih:=Gn hi hp hl m (pre++[b]) (K.set i (K.getD i 0+1)) (by rw [List.length_set]; exact hK) h' (by rw [g1]; omega) (by rw [g1]; omega)
  rw [g1,List.set_set,show K.getD i 0+1+(m:Int)=K.getD i 0+((m+1:Nat):Int) by omega,show pre++[b]++Lib.repeatL [b] m=pre++Lib.repeatL [b] (m+1) by
   show _=pre++([b]++Lib.repeatL [b] m)
   rw [List.append_assoc]] at ih
  have:=(kO.one st).trans ih
  rw [Nat.add_comm] at this
  exact this
theorem uW (hp:aR p) (h00:p.ae.getD 0 0=0) (h06:p.ae.getD 6 0=0) (hl:s.length≤1000):∀ (j:Nat) (pre:List UInt8) (K:List Int),j≤12→K.length=12→(∀ i:Nat,12 - j≤i→i < 12→K.getD i 0=0)→s=pre++(gF p j++t) →
  ∃ n K',n≤256 * j∧kO (Q4 a u s) n (((pre.length:Nat):Int),false,fX q K) ((((pre++gF p j).length:Nat):Int),false,fX q K')∧K'.length=12∧∀ i:Nat,i < 12→K'.getD i 0=if 12 - j≤i then p.ae.getD i 0 else K.getD i 0
 | 0,pre,K,hj,hK,hz,h=>⟨0,K,by omega,by rw [gF,List.append_nil]; exact kO.refl _,hK,fun i hi=>by rw [if_neg (by omega)]⟩
 | j+1,pre,K,hj,hK,hz,h=>by
  rw [gF] at h ⊢
  have hi:11 - j < 12:=by omega
  have hin:=oN hp (11 - j)
  have hzi:=hz (11 - j) (by omega) hi
  have h':s=(pre++xb p (11 - j))++(gF p j++t):=by rw [h]; simp only [List.append_assoc]
  have eapp:pre++(xb p (11 - j)++gF p j)=pre++xb p (11 - j)++gF p j:=by rw [List.append_assoc]
  by_cases h6:(11 - j) % 6=0
  ·have hn0:p.ae.getD (11 - j) 0=0:=by
    rcases (show 11 - j=0∨11 - j=6 by omega) with h | h
    ·rw [h]; exact h00
    ·rw [h]; exact h06
   have he:xb p (11 - j)=[]:=by
    unfold xb
    rw [hn0]
    rfl
   rw [he,List.append_nil] at h'
   rw [he,List.nil_append]
   obtain ⟨n,K',g1,g2,g3,g4⟩:=uW hp h00 h06 hl j pre K (by omega) hK (fun i a b=>hz i (by omega) b) h'
   refine ⟨n,K',by omega,g2,g3,fun i hi => ?_⟩
   rw [g4 i hi]
   by_cases c:12 - j≤i
   ·rw [if_pos c,if_pos (by omega)]
   ·rw [if_neg c]
    by_cases c2:12 - (j+1)≤i
    ·obtain rfl:i=11 - j:=by omega
     rw [if_pos c2,hzi,hn0]
    ·rw [if_neg c2]
  ·obtain ⟨b,hb,hB⟩:=uM hi h6
   have he:xb p (11 - j)=Lib.repeatL [b] (p.ae.getD (11 - j) 0).toNat:=by
    unfold xb
    rw [hb]
   have hset:∀ i:Nat,i < 12→(K.set (11 - j) (K.getD (11 - j) 0+((p.ae.getD (11 - j) 0).toNat:Int))).getD i 0=if i=11 - j then p.ae.getD i 0 else K.getD i 0:=by
    intro i hi'
    by_cases c:i=11 - j
    ·subst c
     rw [if_pos rfl,List.getD_eq_getElem?_getD,List.getElem?_set_self (by omega),hzi]
     show (0:Int)+_=_
     omega
    ·rw [if_neg c,List.getD_eq_getElem?_getD,List.getElem?_set_ne (by omega),← List.getD_eq_getElem?_getD]
   obtain ⟨n,K',g1,g2,g3,g4⟩:=uW hp h00 h06 hl j (pre++xb p (11 - j)) (K.set (11 - j) (K.getD (11 - j) 0+((p.ae.getD (11 - j) 0).toNat:Int))) (by omega) (by rw [List.length_set]; exact hK) (fun i a b=>by
    rw [hset i b,if_neg (by omega)]
    exact hz i (by omega) b) h'
   have r1:=Gn (a:=a) (u:=u) (q:=q) (t:=gF p j++t) hi hB hl (p.ae.getD (11 - j) 0).toNat pre K hK (by rw [← he,h]; simp only [List.append_assoc]) (by omega) (by omega)
   rw [← he] at r1
   rw [eapp]
   refine ⟨(p.ae.getD (11 - j) 0).toNat+n,K',by omega,r1.trans g2,g3,fun i hi' => ?_⟩
   rw [g4 i hi',hset i hi']
   by_cases c:12 - j≤i
   ·rw [if_pos c,if_pos (by omega)]
   ·rw [if_neg c]
    by_cases c2:12 - (j+1)≤i
    ·rw [if_pos (by omega),if_pos c2]
    ·rw [if_neg (by omega),if_neg c2]
theorem Pq (hp:aR p) (h00:p.ae.getD 0 0=0) (h06:p.ae.getD 6 0=0) (hl:s.length≤1000) (h:s=pre++(gF p 12++93::t)) (hq:q.ae=List.replicate 12 0) :
  gz a u s (((pre.length:Nat):Int),false,q)=some ((((pre++gF p 12).length:Nat):Int),false,fX q p.ae):=by
 obtain ⟨n,K',g1,g2,g3,g4⟩:=uW (a:=a) (u:=u) (q:=q) hp h00 h06 hl 12 pre (List.replicate 12 0) (by omega) rfl (fun i _ _=>by
  rw [List.getD_eq_getElem?_getD]
  cases hg:(List.replicate 12 (0:Int))[i]? with
  | none=>rfl
  | some x=>exact List.eq_of_mem_replicate (List.mem_of_getElem? hg)) h
 have e:K'=p.ae:=by
  refine List.ext_getElem (g3.trans hp.kl.symm) fun n h1 h2 => ?_
  have:=g4 n (by omega)
  rw [if_pos (by omega),List.getD_eq_getElem?_getD,List.getD_eq_getElem?_getD,List.getElem?_eq_getElem h1,List.getElem?_eq_getElem h2] at this
  exact this
 subst e
 have eq0:fX q (List.replicate 12 0)=q:=by
  unfold fX
  rw [← hq]
 rw [eq0] at g2
 exact g2.out (Ib (t:=t) (by rw [h]; simp only [List.append_assoc])) (Nat.le_trans (show n+1≤3073 by omega) (by unfold many; omega))
variable {s pre t:List UInt8} {b:UInt8} {p q z:Pos}
theorem C3 (hp:aR p) (hq:aR q) (h:q.ag=p.ag) {c:Int} (hc:c=0∨c=1) (d v:Int):fR q c d v=fR p c d v:=by
 have e:sY q c 6=sY p c 6:=by
  have a:=(ir hq hc).1
  have b:=(ir hp hc).1
  refine nA (p:=p) ?_ b
  unfold uf cK at a ⊢
  rw [h] at a
  exact a
 unfold fR
 rw [e]
theorem It {c v:Int} (h:fR p c 1 v=true):fR p c 0 v=false:=by
 unfold fR at h ⊢
 cases h1:decide (v < 0)
 ·rw [h1,cond_false] at h
  rw [cond_false]
  cases h2:decide (v > 7)
  ·rw [h2,cond_false] at h
   rw [cond_false]
   cases h3:decide (sY p c 6 < 0)
   ·rw [h3,cond_false] at h
    rw [cond_false]
    cases h4:(yJ (sY p c 6) != wr .i64 (7 * wr .i64 c))
    ·rw [h4,cond_false] at h
     rw [cond_false,show ((0:Int)==0)=true from rfl,cond_true]
     rw [show ((1:Int)==0)=false from rfl,cond_false,decide_eq_true_eq] at h
     exact decide_eq_false (by omega)
    ·rfl
   ·rfl
  ·rfl
 ·rfl
theorem Oq (hq:aR q) {l:List Int} (h:l.length=4) (g:∀ x ∈ l,-128≤x∧x≤127):aR (cT q l):=(kS (v:=q.variant) ⟨hq,rfl⟩ h g).1
def Tm (s:List UInt8) (z:Pos) (x:Int×Int×Bool×Pos):aF (Int×Int×Bool×Pos) (Int×Bool×Int×Bool×Pos):=bif la s z x then oJ s z x else .bad
theorem Im {n:Int} (n4:n≤4) (h:s=pre++32::t):Tm s z (n,((pre.length:Nat):Int),false,q)=.out (n,false,((pre.length:Nat):Int),false,q):=by
 have hn:ij s ((pre.length:Nat):Int) false=32:=gu h
 unfold Tm la oJ
 dsimp only
 simp only [UX,hn,Ts (s:=s) (i:=((pre.length:Nat):Int)) (bad:=false) (p:=z) (q:=q) (by omega)]
 cases decide (n < 4) <;> rfl
theorem Fw {n c d v:Int} (n0:0≤n) (n4:n < 4) (hc:c=0∨c=1) (hd:d=0∨d=1) (v0:0≤v) (v7:v≤7) (hb:fc c d v=[b]) (h:s=pre++b::t) (hl:s.length≤1000) {r0 r1 r2 r3:Int} (h57:fR (cT q [r0,r1,r2,r3]) c d v=true) (ko:∀ c d f:Int,(c=0∨c=1)→fv (cT q [r0,r1,r2,r3]) c d f=true) :
  Tm s z (n,((pre.length:Nat):Int),false,cT q [r0,r1,r2,r3])=.go (n+1,(((pre++[b]).length:Nat):Int),false,cT q ([r0,r1,r2,r3].set (2 * c+d).toNat v)):=by
 have hx:d=1→fR (cT q [r0,r1,r2,r3]) c 0 v=false:=fun e=>by subst e; exact It h57
 obtain ⟨b',hb',b128,hv⟩:=gL hc hd v0 v7
 obtain rfl:b=b':=(List.cons.inj (hb.symm.trans hb')).1
 have b65:65≤b.toNat:=by rw [hv]; split <;> split <;> (try split) <;> omega
 have b0:b≠0:=fun e=>by rw [e] at b65; exact absurd b65 (by decide)
 have hn:ij s ((pre.length:Nat):Int) false=(b.toNat:Int):=gu h
 have n32:(((b.toNat:Nat):Int) != 32)=true:=by rw [bne_iff_ne]; omega
 unfold Tm la oJ
 dsimp only
 simp only [UX,X6,hn,kq h b0 hl,n32,decide_eq_true n4,Ts (s:=s) (i:=((pre.length:Nat):Int)) (bad:=false) (p:=z) (q:=cT q [r0,r1,r2,r3]) (by omega),X8 (s:=s) (i:=((pre.length:Nat):Int)) (bad:=false) (p:=z) (q:=cT q [r0,r1,r2,r3]) (by omega),bD (n:=n+1) (by omega) (by omega),Bool.true_and,Bool.not_false,cond_true]
 rw [hv]
 clear hn n32 hv hb hb' b128 b65 h
 generalize ((pre++[b]).length:Int)=j
 have key:∀ (ro ko:Int→Int→Int→Bool) (o1 o2:aF (Int×Int×Bool×Pos) (Int×Bool×Int×Bool×Pos)),ro c d v=true→(d=1→ro c 0 v=false)→(∀ d f,ko c d f=true)→(bif (ko c 0 v&&(bif ro c 0 v then true else (ko c 1 v&&true))) then (bif ro c 0 v then aF.go (n+1,j,false,cT q ([r0,r1,r2,r3].set (2 * c).toNat v)) else bif ro c 1 v then aF.go (n+1,j,false,cT q ([r0,r1,r2,r3].set (2 * c+1).toNat v)) else o1) else o2)=.go (n+1,j,false,cT q ([r0,r1,r2,r3].set (2 * c+d).toNat v)):=by
  intro ro ko o1 o2 g1 g2 g3
  rw [g3,g3]
  rcases hd with rfl | rfl
  ·rw [g1,show 2 * c+0=2 * c by omega]; rfl
  ·rw [g2 rfl,g1]; rfl
 have key:=key (fR (cT q [r0,r1,r2,r3])) (fv (cT q [r0,r1,r2,r3]))
 have ko':∀ d f,fv (cT q [r0,r1,r2,r3]) c d f=true:=fun d f=>ko c d f hc
 generalize fR (cT q [r0,r1,r2,r3])=ro at h57 hx key ⊢
 generalize fv (cT q [r0,r1,r2,r3])=kk at ko' key ⊢
 have key:=fun o1 o2=>key o1 o2 h57 hx ko'
 clear h57 hx ko' ko
 rcases hc with rfl | rfl <;> rcases hd with rfl | rfl <;> rcases (show v=0∨v=1∨v=2∨v=3∨v=4∨v=5∨v=6∨v=7 by omega) with rfl | rfl | rfl | rfl | rfl | rfl | rfl | rfl <;> exact key _ _
variable {s pre t:List UInt8} {b:UInt8} {p q z:Pos}
theorem vU (hp:aR p) (hz:aR q) (hq:q.ag=p.ag) {n c d v:Int} (n0:0≤n) (n4:n < 4) (hc:c=0∨c=1) (hd:d=0∨d=1) (hv:v = -1∨fR p c d v=true) (hl:s.length≤1000) {r0 r1 r2 r3:Int} (hr:∀ x ∈ [r0,r1,r2,r3],-128≤x∧x≤127) (hset:[r0,r1,r2,r3].set (2 * c+d).toNat (-1)=[r0,r1,r2,r3]) (h:s=pre++(fc c d v++t)) :
  ∃ m n',m≤1∧n≤n'∧n'≤n+1∧kO (Tm s z) m (n,((pre.length:Nat):Int),false,cT q [r0,r1,r2,r3]) (n',(((pre++fc c d v).length:Nat):Int),false,cT q ([r0,r1,r2,r3].set (2 * c+d).toNat v)) ∧ -128≤v∧v≤127:=by
 rcases hv with rfl | hv
 ·rw [show fc c d (-1)=[] from rfl,List.append_nil,hset]
  exact ⟨0,n,by omega,by omega,by omega,kO.refl _,by omega,by omega⟩
 ·obtain ⟨_,v0,v7⟩:=oW hp hc hd hv
  obtain ⟨b,hb,_,_⟩:=gL hc hd v0 v7
  have hx:=Oq hz (l:=[r0,r1,r2,r3]) rfl hr
  have st:=Fw (z:=z) (q:=q) n0 n4 hc hd v0 v7 hb (t:=t) (s:=s) (pre:=pre) (by rw [h,hb]; rfl) hl (r0:=r0) (r1:=r1) (r2:=r2) (r3:=r3) ((C3 hp hx hq hc d v).trans hv) (fun c d f hc=>vb (v:=(cT q [r0,r1,r2,r3]).variant) ⟨hx,rfl⟩ hc)
  rw [hb]
  exact ⟨1,n+1,by omega,by omega,by omega,kO.one st,by omega,by omega⟩
theorem E9 (hp:aR p) (hz:aR q) (h:∀ c d:Int,(c=0∨c=1)→(d=0∨d=1)→mJ p c d) (hq:q.ag=p.ag) (hl:s.length≤1000) (hs:s=pre++(iO (eP p)++32::t)):cZ q s ((pre.length:Nat):Int) false z=(cT q p.ah,(((pre++iO (eP p)).length:Nat):Int),false):=by
 have sw00:=h 0 0 (.inl rfl) (.inl rfl)
 have sw01:=h 0 1 (.inl rfl) (.inr rfl)
 have sw10:=h 1 0 (.inr rfl) (.inl rfl)
 have sw11:=h 1 1 (.inr rfl) (.inr rfl)
 have ea:eP p=fc 0 0 (p.ah.getD 0 0)++(fc 0 1 (p.ah.getD 1 0)++(fc 1 0 (p.ah.getD 2 0)++fc 1 1 (p.ah.getD 3 0))):=by
  unfold eP xL
  rw [List.append_assoc]
  rfl
 have hrl:=hp.rl
 have er:p.ah=[p.ah.getD 0 0,p.ah.getD 1 0,p.ah.getD 2 0,p.ah.getD 3 0]:=by
  revert hrl
  generalize p.ah=l
  match l with
  | [a,b,c,d]=>intro _; rfl
  | [] | [_] | [_,_] | [_,_,_]=>intro h; cases h
  | _::_::_::_::_::_=>intro h; simp at h
 unfold mJ at sw00 sw01 sw10 sw11
 change p.ah.getD 0 0 = -1∨fR p 0 0 (p.ah.getD 0 0)=true at sw00
 change p.ah.getD 1 0 = -1∨fR p 0 1 (p.ah.getD 1 0)=true at sw01
 change p.ah.getD 2 0 = -1∨fR p 1 0 (p.ah.getD 2 0)=true at sw10
 change p.ah.getD 3 0 = -1∨fR p 1 1 (p.ah.getD 3 0)=true at sw11
 have p0:pre.length≤1000:=by rw [hs,List.length_append] at hl; omega
 unfold cZ
 rw [UX]
 by_cases h0:eP p=[]
 ·have e37:iO (eP p)=[45]:=by rw [h0]; rfl
  rw [e37] at hs ⊢
  rw [show ij s ((pre.length:Nat):Int) false=45 from gu hs,show ((45:Int)==45)=true from rfl,cond_true,bD (by omega) (by omega)]
  rw [ea] at h0
  obtain ⟨a0,h0⟩:=List.append_eq_nil_iff.1 h0
  obtain ⟨a1,h0⟩:=List.append_eq_nil_iff.1 h0
  obtain ⟨a2,a3⟩:=List.append_eq_nil_iff.1 h0
  have emp:∀ {c d v:Int},(c=0∨c=1)→(d=0∨d=1)→(v = -1∨fR p c d v=true)→fc c d v=[]→v = -1:=by
   intro c d v hc hd hv e
   rcases hv with hv | hv
   ·exact hv
   ·obtain ⟨_,v0,v7⟩:=oW hp hc hd hv
    obtain ⟨b,hb,_,_⟩:=gL hc hd v0 v7
    rw [e] at hb; cases hb
  have r0:=emp (.inl rfl) (.inl rfl) sw00 a0
  have r1:=emp (.inl rfl) (.inr rfl) sw01 a1
  have r2:=emp (.inr rfl) (.inl rfl) sw10 a2
  have r3:=emp (.inr rfl) (.inr rfl) sw11 a3
  rw [er,r0,r1,r2,r3,List.length_append]
  rfl
 ·have e37:iO (eP p)=eP p:=by
   unfold iO
   rw [show (eP p==(ByteArray.mk #[]).data.toList)=false from beq_eq_false_iff_ne.2 h0,cond_false]
  rw [e37] at hs ⊢
  have no:∀ {c d v:Int},(c=0∨c=1)→(d=0∨d=1)→(v = -1∨fR p c d v=true)→∀ b ∈ fc c d v,b≠45:=by
   intro c d v hc hd hv b hb
   refine (zP hc hd ?_ b hb).1
   rcases hv with h | h
   ·exact .inl h
   ·exact .inr (oW hp hc hd h).2
  have h45:(ij s ((pre.length:Nat):Int) false==45)=false:=by
   rw [gu hs,beq_eq_false_iff_ne]
   intro e
   have hmem:(45:UInt8) ∈ eP p:=by
    cases hA:eP p with
    | nil=>exact absurd hA h0
    | cons x l =>
     rw [hA] at e
     have e2:x.toNat=45:=Int.ofNat.inj (show ((x.toNat:Nat):Int)=((45:Nat):Int) from e)
     rw [UInt8.toNat_inj.1 (show x.toNat=(45:UInt8).toNat from e2)]
     exact List.mem_cons_self ..
   rw [ea] at hmem
   simp only [List.mem_append] at hmem
   rcases hmem with h | h | h | h
   ·exact no (.inl rfl) (.inl rfl) sw00 _ h rfl
   ·exact no (.inl rfl) (.inr rfl) sw01 _ h rfl
   ·exact no (.inr rfl) (.inl rfl) sw10 _ h rfl
   ·exact no (.inr rfl) (.inr rfl) sw11 _ h rfl
  rw [h45,cond_false]
  have in4:∀ {a b c d:Int},(-128≤a∧a≤127)→(-128≤b∧b≤127)→(-128≤c∧c≤127)→(-128≤d∧d≤127)→∀ x ∈ [a,b,c,d],-128≤x∧x≤127:=by
   intro a b c d ha hb hc hd x hx
   simp only [List.mem_cons,List.not_mem_nil,or_false] at hx
   rcases hx with rfl | rfl | rfl | rfl
   ·exact ha
   ·exact hb
   ·exact hc
   ·exact hd
  have m1:(-128:Int) ≤ -1∧(-1:Int)≤127:=by decide
  obtain ⟨k0,n0,a1,a2,a3,a4,a5⟩:=vU (z:=z) (q:=q) (n:=0) (c:=0) (d:=0) hp hz hq (by omega) (by omega) (.inl rfl) (.inl rfl) sw00 hl (r0 := -1) (r1 := -1) (r2 := -1) (r3 := -1) (in4 m1 m1 m1 m1) rfl (t:=fc 0 1 (p.ah.getD 1 0)++(fc 1 0 (p.ah.getD 2 0)++(fc 1 1 (p.ah.getD 3 0)++32::t))) (s:=s) (pre:=pre) (by rw [hs,ea]; simp only [List.append_assoc])
  obtain ⟨k1,n1,b1,b2,b3,b4,b5⟩:=vU (z:=z) (q:=q) (n:=n0) (c:=0) (d:=1) hp hz hq (by omega) (by omega) (.inl rfl) (.inr rfl) sw01 hl (r0:=p.ah.getD 0 0) (r1 := -1) (r2 := -1) (r3 := -1) (in4 a5 m1 m1 m1) rfl (t:=fc 1 0 (p.ah.getD 2 0)++(fc 1 1 (p.ah.getD 3 0)++32::t)) (s:=s) (pre:=pre++fc 0 0 (p.ah.getD 0 0)) (by rw [hs,ea]; simp only [List.append_assoc])
  obtain ⟨k2,n2,c1,c2,c3,c4,c5⟩:=vU (z:=z) (q:=q) (n:=n1) (c:=1) (d:=0) hp hz hq (by omega) (by omega) (.inr rfl) (.inl rfl) sw10 hl (r0:=p.ah.getD 0 0) (r1:=p.ah.getD 1 0) (r2 := -1) (r3 := -1) (in4 a5 b5 m1 m1) rfl (t:=fc 1 1 (p.ah.getD 3 0)++32::t) (s:=s) (pre:=pre++fc 0 0 (p.ah.getD 0 0)++fc 0 1 (p.ah.getD 1 0)) (by rw [hs,ea]; simp only [List.append_assoc])
  obtain ⟨k3,n3,d1,d2,d3,d4,d5⟩:=vU (z:=z) (q:=q) (n:=n2) (c:=1) (d:=1) hp hz hq (by omega) (by omega) (.inr rfl) (.inr rfl) sw11 hl (r0:=p.ah.getD 0 0) (r1:=p.ah.getD 1 0) (r2:=p.ah.getD 2 0) (r3 := -1) (in4 a5 b5 c5 m1) rfl (t:=32::t) (s:=s) (pre:=pre++fc 0 0 (p.ah.getD 0 0)++fc 0 1 (p.ah.getD 1 0)++fc 1 0 (p.ah.getD 2 0)) (by rw [hs,ea]; simp only [List.append_assoc])
  have all:=((a4.trans b4).trans c4).trans d4
  have el:pre++fc 0 0 (p.ah.getD 0 0)++fc 0 1 (p.ah.getD 1 0)++fc 1 0 (p.ah.getD 2 0)++fc 1 1 (p.ah.getD 3 0)=pre++eP p:=by rw [ea]; simp only [List.append_assoc]
  rw [el] at all
  have run:fI s z (0,((pre.length:Nat):Int),false,cT q [-1,-1,-1,-1])=some (n3,false,(((pre++eP p).length:Nat):Int),false,cT q [p.ah.getD 0 0,p.ah.getD 1 0,p.ah.getD 2 0,p.ah.getD 3 0]):=all.out (Im (t:=t) (by omega) (by rw [hs]; simp only [List.append_assoc])) (Nat.le_trans (show k0+k1+k2+k3+1≤5 by omega) (by unfold many; omega))
  rw [← er] at run
  show (((fI s z (0,((pre.length:Nat):Int),false,cT q [-1,-1,-1,-1])).getD default).snd.snd.snd.snd,((fI s z (0,((pre.length:Nat):Int),false,cT q [-1,-1,-1,-1])).getD default).snd.snd.fst,((fI s z (0,((pre.length:Nat):Int),false,cT q [-1,-1,-1,-1])).getD default).snd.snd.snd.fst)=_
  rw [run]
  rfl
theorem QY:(List.range 64).all (fun n=>match di (n:Int) with | [a,b]=>(AU [a,b]==((n:Int),true))&&(a != 0)&&(b != 0)&&(a != 45) | _=>false)=true:=by kernel_rfl
theorem DT {e:Int} (h0:0≤e) (h1:e≤63):∃ a b,di e=[a,b]∧AU [a,b]=(e,true)∧a≠0∧b≠0∧a≠45:=by
 have t:=dk QY h0 (by omega)
 rw [Int.toNat_of_nonneg h0] at t
 split at t
 ·rename_i a b hn
  simp only [Bool.and_eq_true,beq_iff_eq,bne_iff_ne] at t
  obtain ⟨⟨⟨x1,x2⟩,x3⟩,x4⟩:=t
  exact ⟨a,b,hn,x1,x2,x3,x4⟩
 ·cases t
theorem QM (b:UInt8):ub (b.toNat:Int)=b:=by
 have tb:(List.range 256).all (fun n=>ub (n:Int)==UInt8.ofNat n)=true:=by kernel_rfl
 have:=List.all_eq_true.1 tb b.toNat (List.mem_range.2 (UInt8.toNat_lt b))
 rw [beq_iff_eq,UInt8.ofNat_toNat] at this
 exact this
theorem So {a:Int} (p0 : -1≤p.af) (p1:p.af≤63) (hl:s.length≤1000) (hs:s=pre++32::(cF p++32::t)):Rt a s q ((pre.length:Nat):Int) false=CW a s (wq q p.af) (((pre++32::(cF p++[32])).length:Nat):Int) false:=by
 have h1:s=(pre++[32])++(cF p++32::t):=by rw [hs]; simp
 have n1:=lD (s:=s) (pre:=pre) (b:=32) (t:=cF p++32::t) hs (by decide) hl
 rw [show ((32:UInt8).toNat:Int)=32 from rfl] at n1
 unfold Rt
 simp only [LK,H5,yI,n1]
 have lp:(pre++[32]).length≤1000:=by rw [h1,List.length_append] at hl; omega
 unfold cF at h1 ⊢
 by_cases hp:p.af < 0
 ·rw [decide_eq_true hp,cond_true] at h1 ⊢
  have n45:ij s (((pre++[32]).length:Nat):Int) false=45:=gu h1
  rw [n45,show ((45:Int)==45)=true from rfl,cond_true,bD (by omega) (by omega)]
  have n2:=lD (s:=s) (pre:=pre++[32]++[45]) (b:=32) (t:=t) (by rw [h1]; simp) (by decide) hl
  have e45:(((pre++[32]++[45]).length:Nat):Int)=(((pre++[32]).length:Nat):Int)+1:=by simp only [List.length_append,List.length_cons,List.length_nil]; omega
  rw [show ((32:UInt8).toNat:Int)=32 from rfl,e45] at n2
  rw [n2,show p.af = -1 by omega]
  simp only [List.append_assoc,List.cons_append,List.nil_append]
 ·rw [decide_eq_false hp,cond_false] at h1 ⊢
  obtain ⟨a',b',g1,g2,g3,g4,g5⟩:=DT (show 0≤p.af by omega) p1
  rw [g1] at h1 ⊢
  have h2:s=(pre++[32])++a'::(b'::32::t):=h1
  have h3:s=(pre++[32]++[a'])++b'::(32::t):=by rw [h1]; simp
  have h4:s=(pre++[32]++[a']++[b'])++32::t:=by rw [h1]; simp
  have na:(ij s (((pre++[32]).length:Nat):Int) false==45)=false:=by
   rw [gu h2,beq_eq_false_iff_ne]
   intro e
   have e2:a'.toNat=45:=Int.ofNat.inj (show ((a'.toNat:Nat):Int)=((45:Nat):Int) from e)
   exact g5 (UInt8.toNat_inj.1 e2)
  have n2:=lD (s:=s) h4 (by decide) hl
  rw [show ((32:UInt8).toNat:Int)=32 from rfl] at n2
  rw [na,cond_false]
  simp only [kq h2 g3 hl,kq h3 g4 hl,List.map_cons,List.map_nil,QM,g2,cond_false,Bool.not_true,n2]
  rw [YG (n:=p.af) (by omega) (by omega)]
  simp only [List.append_assoc,List.cons_append,List.nil_append]
variable {s pre t u:List UInt8} {b:UInt8} {p q z:Pos}
theorem qR {d:Nat} (hd:d≤9):(UInt8.ofNat (48+d)).toNat=48+d:=by
 rw [UInt8.toNat_ofNat']
 exact Nat.mod_eq_of_lt (by omega)
theorem Aw {d:Nat} (hd:d≤9):UInt8.ofNat (48+d)≠0:=fun e=>by
 have:=qR hd
 rw [e] at this
 exact absurd this (by show ¬ (0=48+d); omega)
def U3 (u s:List UInt8) (x:Int×Int×Bool×Pos):aF (Int×Int×Bool×Pos) (Int×Bool×Int×Bool×Pos):=bif lG u s x then oo u s x else .bad
def Jh (q:Pos) (l:List Int):Pos:=Pos.mk q.variant q.ag q.aa q.ae q.ao q.ah q.af l q.half q.full
theorem KA (i:Int) (bad:Bool):U3 u s (2,i,bad,q)=.out (2,false,i,bad,q):=by
 unfold U3 lG oo
 dsimp only
 rfl
theorem BW {n:Int} (n0:0≤n) (n2:n < 2) {d:Nat} (hd:d≤9) (h:s=pre++43::UInt8.ofNat (48+d)::t) (hl:s.length≤1000):U3 u s (n,((pre.length:Nat):Int),false,q)=.go (n+1,(((pre++[43,UInt8.ofNat (48+d)]).length:Nat):Int),false,Jh q (q.ab.set n.toNat (d:Int))):=by
 have h2:s=(pre++[43])++UInt8.ofNat (48+d)::t:=by rw [h]; simp
 have n1:=lD h (by decide) hl
 rw [show ((43:UInt8).toNat:Int)=43 from rfl] at n1
 have t1:=kq h2 (Aw hd) hl
 rw [qR hd] at t1
 have w:wr .u8 (((48+d:Nat):Int) - 48)=(d:Int):=by
  rw [Bw (n:=((48+d:Nat):Int) - 48) (by omega) (by omega)]
  omega
 unfold U3 lG oo
 dsimp only
 simp only [H5,yI,n1,t1,w,eO,decide_eq_true n2,decide_eq_true n0,decide_eq_true (show n < Int.ofNat 2 from n2),Gi (show 0≤((pre.length:Nat):Int) by omega),Ff (show 0≤(((pre++[43]).length:Nat):Int) by omega),bD (n:=n+1) (by omega) (by omega)]
 simp only [List.append_assoc,List.cons_append,List.nil_append]
 rfl
theorem yG {c:Int} (h0:0≤c) (h3:c≤3):aK c=[UInt8.ofNat (48+c.toNat)]:=by
 rcases (show c=0∨c=1∨c=2∨c=3 by omega) with rfl | rfl | rfl | rfl <;> rfl
theorem Uu {a b:Int} (a0:0≤a) (a3:a≤3) (b0:0≤b) (b3:b≤3) (hq:q.ab=[0,0]) (hl:s.length≤1000) (h:s=pre++(43::(aK a++43::(aK b++32::t)))):CW 5 s q ((pre.length:Nat):Int) false=OS s (Jh q [a,b]) (((pre++43::(aK a++43::(aK b++[32]))).length:Nat):Int) false:=by
 rw [yG a0 a3,yG b0 b3] at h ⊢
 have h1:s=pre++43::UInt8.ofNat (48+a.toNat)::(43::UInt8.ofNat (48+b.toNat)::32::t):=h
 have h2:s=(pre++[43,UInt8.ofNat (48+a.toNat)])++43::UInt8.ofNat (48+b.toNat)::(32::t):=by rw [h1]; simp
 have h3:s=(pre++[43,UInt8.ofNat (48+a.toNat)]++[43,UInt8.ofNat (48+b.toNat)])++32::t:=by rw [h1]; simp
 have s1:=BW (u:=s) (q:=q) (n:=0) (by decide) (by decide) (d:=a.toNat) (by omega) h1 hl
 have s2:=BW (u:=s) (q:=Jh q (q.ab.set (0:Int).toNat ((a.toNat:Nat):Int))) (n:=0+1) (by decide) (by decide) (d:=b.toNat) (by omega) h2 hl
 have run:bx s s (0,((pre.length:Nat):Int),false,q)=some (2,false,_,_,_):=((kO.one s1).trans (kO.one s2)).out (KA _ _) (by unfold many; omega)
 have n1:=lD h3 (by decide) hl
 rw [show ((32:UInt8).toNat:Int)=32 from rfl] at n1
 unfold CW
 rw [show ((5:Int)==5)=true from rfl,cond_true,run]
 simp only [Option.getD_some,yI,n1]
 have ec:((Jh q (q.ab.set (0:Int).toNat ((a.toNat:Nat):Int))).ab.set (0+1:Int).toNat ((b.toNat:Nat):Int))=[a,b]:=by
  show (q.ab.set 0 ((a.toNat:Nat):Int)).set 1 ((b.toNat:Nat):Int)=[a,b]
  rw [hq,Int.toNat_of_nonneg a0,Int.toNat_of_nonneg b0]
  rfl
 rw [ec]
 simp only [List.append_assoc,List.cons_append,List.nil_append]
 rfl
def Rb (s:List UInt8) (z:Pos) (x:Int×Int×Int×Bool):aF (Int×Int×Int×Bool) (Int×Int×Bool×Int×Bool):=bif lg s z x then oI s z x else .bad
def K7 (t:List UInt8):Prop:=(((t.head?.getD 0).toNat:Nat):Int) < 48∨57 < (((t.head?.getD 0).toNat:Nat):Int)
theorem Jv {n k:Int} (h:s=pre++t) (ht:K7 t):∃ c,Rb s z (n,k,((pre.length:Nat):Int),false)=.out (n,k,c,((pre.length:Nat):Int),false):=by
 have hn:=gu h
 unfold Rb lg oI
 dsimp only
 simp only [LK,hn,Gl (show 0≤((pre.length:Nat):Int) by omega),Ff (show 0≤((pre.length:Nat):Int) by omega)]
 rcases ht with ht | ht
 ·rw [decide_eq_false (show ¬ ((((t.head?.getD 0).toNat:Nat):Int) ≥ 48) by omega)]
  cases decide (k < 6) <;> exact ⟨_,rfl⟩
 ·rw [decide_eq_true (show ((((t.head?.getD 0).toNat:Nat):Int) ≥ 48) by omega),decide_eq_false (show ¬ ((((t.head?.getD 0).toNat:Nat):Int)≤57) by omega)]
  cases decide (k < 6) <;> exact ⟨_,rfl⟩
theorem uc {n k:Int} (n0:0≤n) (n1:n≤1000000) (k0:0≤k) (k6:k < 6) {d:Nat} (hd:d≤9) (h:s=pre++UInt8.ofNat (48+d)::t) (hl:s.length≤1000):Rb s z (n,k,((pre.length:Nat):Int),false)=.go (10 * n+d,k+1,(((pre++[UInt8.ofNat (48+d)]).length:Nat):Int),false):=by
 have hn:ij s ((pre.length:Nat):Int) false=((48+d:Nat):Int):=by
  rw [gu h]
  show (((UInt8.ofNat (48+d)).toNat:Nat):Int)=_
  rw [qR hd]
 have t1:=kq h (Aw hd) hl
 rw [qR hd] at t1
 have w:wr .i64 (wr .u8 (((48+d:Nat):Int) - 48))=(d:Int):=by
  rw [Bw (n:=((48+d:Nat):Int) - 48) (by omega) (by omega),bD (by omega) (by omega)]
  omega
 unfold Rb lg oI
 dsimp only
 simp only [LK,H5,hn,t1,w,Gl (show 0≤((pre.length:Nat):Int) by omega),Ff (show 0≤((pre.length:Nat):Int) by omega),decide_eq_true k6,decide_eq_true (show ((48+d:Nat):Int) ≥ 48 by omega),decide_eq_true (show ((48+d:Nat):Int)≤57 by omega),bD (n:=10 * n) (by omega) (by omega),bD (n:=10 * n+(d:Int)) (by omega) (by omega),bD (n:=k+1) (by omega) (by omega)]
 rfl
theorem KH (hl:s.length≤1000):∀ (m v:Nat) (t:List UInt8),m≤5→v < 10 ^ (m+1)→v≤10000→s=pre++(Lib.decDigits v++t)→∃ L:Nat,1≤L∧L≤m+1∧kO (Rb s z) L (0,0,((pre.length:Nat):Int),false) ((v:Int),(L:Int),(((pre++Lib.decDigits v).length:Nat):Int),false):=by
 have base:∀ (v:Nat) (t:List UInt8),v < 10→s=pre++(Lib.decDigits v++t)→kO (Rb s z) 1 (0,0,((pre.length:Nat):Int),false) ((v:Int),((1:Nat):Int),(((pre++Lib.decDigits v).length:Nat):Int),false):=by
  intro v t hv h
  rw [Lib.decDigits,dif_pos hv] at h ⊢
  have:=uc (z:=z) (n:=0) (k:=0) (by omega) (by omega) (by omega) (by omega) (d:=v) (by omega) h hl
  rw [show (10 * 0+(v:Int))=(v:Int) by omega] at this
  exact kO.one this
 intro m
 induction m with
 | zero =>
  intro v t _ hv _ h
  exact ⟨1,by omega,by omega,base v t (by omega) h⟩
 | succ m ih =>
  intro v t hm hv h10 h
  by_cases hv10:v < 10
  ·exact ⟨1,by omega,by omega,base v t hv10 h⟩
  ·rw [Lib.decDigits,dif_neg hv10] at h ⊢
   obtain ⟨L,l1,l2,g⟩:=ih (v / 10) (UInt8.ofNat (48+v % 10)::t) (by omega) (by rw [Nat.pow_succ] at hv; omega) (by omega) (by rw [h]; simp only [List.append_assoc,List.cons_append,List.nil_append])
   have st:=uc (z:=z) (n:=((v / 10:Nat):Int)) (k:=(L:Int)) (by omega) (by omega) (by omega) (by omega) (d:=v % 10) (by omega) (s:=s) (pre:=pre++Lib.decDigits (v / 10)) (t:=t) (by rw [h]; simp only [List.append_assoc,List.cons_append,List.nil_append]) hl
   rw [show 10 * ((v / 10:Nat):Int)+((v % 10:Nat):Int)=(v:Int) by omega,show (L:Int)+1=((L+1:Nat):Int) by omega,List.append_assoc] at st
   exact ⟨L+1,by omega,by omega,g.trans (kO.one st)⟩
theorem DU {n:Int} (h0:0≤n) (h1:n≤10000) (hl:s.length≤1000) (h:s=pre++(aK n++t)) (ht:K7 t):ax s ((pre.length:Nat):Int) false z=(n,(((pre++aK n).length:Nat):Int),false):=by
 have e:aK n=Lib.decDigits n.toNat:=by
  rw [kU (by omega) (by omega)]
  unfold Lib.itoa
  rw [if_neg (by omega)]
 rw [e] at h ⊢
 obtain ⟨L,l1,l2,g⟩:=KH (z:=z) hl 4 n.toNat t (by omega) (by omega) (by omega) h
 obtain ⟨c,hc⟩:=Jv (z:=z) (n:=((n.toNat:Nat):Int)) (k:=(L:Int)) (s:=s) (pre:=pre++Lib.decDigits n.toNat) (t:=t) (by rw [h]; simp only [List.append_assoc]) ht
 have run:iY s z (0,0,((pre.length:Nat):Int),false)=some _:=g.out hc (Nat.le_trans (show L+1≤6 by omega) (by unfold many; omega))
 unfold ax
 rw [run,Int.toNat_of_nonneg h0]
 rfl
theorem Lf (h0:0≤p.half) (h1:p.half≤10000) (f0:0≤p.full) (f1:p.full≤10000) (hl:s.length≤1000) (h:s=pre++(aK p.half++32::aK p.full)) (hq:kY q p.half p.full=p) (hN:jL p=s):OS s q ((pre.length:Nat):Int) false=(p,0):=by
 have g1:=DU (z:=q) h0 h1 hl h (.inl (show (((32:UInt8).toNat:Nat):Int) < 48 by decide))
 have n1:=lD (s:=s) (pre:=pre++aK p.half) (b:=32) (t:=aK p.full) (by rw [h]; simp only [List.append_assoc]) (by decide) hl
 rw [show ((32:UInt8).toNat:Int)=32 from rfl] at n1
 have g2:=DU (z:=kY q p.half q.full) (s:=s) (pre:=pre++aK p.half++[32]) (t:=[]) f0 f1 hl (by rw [h]; simp only [List.append_assoc,List.cons_append,List.nil_append,List.append_nil]) (.inl (by decide))
 unfold OS
 rw [g1]
 simp only [yI,n1]
 rw [g2]
 dsimp only
 rw [hq,hN,beq_self_eq_true]
 rfl
end Kz
end
noncomputable section
namespace Kz
open Go Go.RowKit Go.Proofs
set_option maxRecDepth 100000
set_option maxHeartbeats 4000000
def K3:List (Nat×Nat×List (Nat×List Nat)):=[(3,32,[(0,[0,1]),(1,[0,1,11]),(2,[4]),(3,[0,1,5,6]),(4,[5,6,7,8]),(5,[4])])]
def B3:aT:=aA Pz (fun f i=>cJ f i K3) [(9,G9),(10,Yc)] [] []
theorem Zn:cr B3:=ar aq ⟨s9,Z3,trivial⟩ trivial trivial
def N3 (a:Int) (b:List UInt8):Bool:=(bif decide (Int.ofNat b.length > 5000) then (true) else (bif db BinOp.eql ((N9 a b).fst.variant==(sR a b).fst.variant&&((N9 a b).fst.ag==(sR a b).fst.ag&&((N9 a b).fst.aa==(sR a b).fst.aa&&((N9 a b).fst.ae==(sR a b).fst.ae&&((N9 a b).fst.ao==(sR a b).fst.ao&&((N9 a b).fst.ah==(sR a b).fst.ah&&((N9 a b).fst.af==(sR a b).fst.af&&((N9 a b).fst.ab==(sR a b).fst.ab&&((N9 a b).fst.half==(sR a b).fst.half&&((N9 a b).fst.full==(sR a b).fst.full&&true)))))))))) then ((N9 a b).snd==(sR a b).snd) else (false)))
def Xo (a:Int) (b:List UInt8):Bool:=(bif decide (Int.ofNat b.length > 5000) then true else (Sw a b&&(EU a b&&true)))
theorem P3 (a:Int) (b:List UInt8) (h:Xo a b=true):PS Pz 3 [.int .u8 a,.str b] (dB.res (N3 a b)):=bw (n:=14) Zn (by kernel_rfl) (by kernel_rfl) (by kernel_rfl) h
end Kz
end
noncomputable section
namespace Kz
open Go Go.RowKit Go.Proofs
set_option maxRecDepth 100000
variable {s pre t:List UInt8} {p q:Pos}
theorem Ub {a:Int} (hp:aR p) (hz:aR q) (hq:q.ag=p.ag) (rk:∀ c d:Int,(c=0∨c=1)→(d=0∨d=1)→mJ p c d) (p0 : -1≤p.af) (p1:p.af≤63) (hl:s.length≤1000) (h:s=pre++32::(iO (eP p)++32::(cF p++32::t))) :
  Q1 a s q ((pre.length:Nat):Int) false=CW a s (wq (cT q p.ah) p.af) (((pre++32::(iO (eP p)++32::(cF p++[32]))).length:Nat):Int) false:=by
 have n1:=lD h (by decide) hl
 rw [show ((32:UInt8).toNat:Int)=32 from rfl] at n1
 have r:=E9 (z:=q) (pre:=pre++[32]) (t:=cF p++32::t) hp hz rk hq hl (by rw [h]; simp only [List.append_assoc,List.cons_append,List.nil_append])
 unfold Q1
 simp only [yI,n1]
 rw [r]
 dsimp only
 rw [So (p:=p) (q:=cT q p.ah) (pre:=pre++[32]++iO (eP p)) (t:=t) p0 p1 hl (by rw [h]; simp only [List.append_assoc,List.cons_append,List.nil_append])]
 simp only [List.append_assoc,List.cons_append,List.nil_append]
theorem TR {a:Int} (hp:aR p) (hz:aR q) (hq:q.ag=p.ag) (ht:p.ao=0∨p.ao=1) (q0:q.ao=0) (rk:∀ c d:Int,(c=0∨c=1)→(d=0∨d=1)→mJ p c d) (p0 : -1≤p.af) (p1:p.af≤63) (hl:s.length≤1000) (h:s=pre++32::(cV p++32::(iO (eP p)++32::(cF p++32::t)))) :
  N8 a s q ((pre.length:Nat):Int) false=CW a s (wq (cT (zx q p.ao) p.ah) p.af) (((pre++32::(cV p++32::(iO (eP p)++32::(cF p++[32])))).length:Nat):Int) false:=by
 have n1:=lD h (by decide) hl
 rw [show ((32:UInt8).toNat:Int)=32 from rfl] at n1
 have hz':aR (zx q p.ao):=(u6 (v:=q.variant) ⟨hz,rfl⟩ (by omega) (by omega)).1
 have fin:∀ b:UInt8,cV p=[b]→s=(pre++[32]++[b])++32::(iO (eP p)++32::(cF p++32::t)):=fun b hb=>by rw [h,hb]; simp only [List.append_assoc,List.cons_append,List.nil_append]
 have c1:=fun (b:UInt8) (hb:cV p=[b])=>Ub (a:=a) (q:=zx q p.ao) (pre:=pre++[32]++[b]) (t:=t) hp hz' hq rk p0 p1 hl (fin b hb)
 unfold N8
 simp only [H5,yI,n1]
 rcases ht with ht | ht
 ·have hb:cV p=[119]:=by unfold cV; rw [ht]; rfl
  have c1:=c1 119 hb
  have t1:=kq (s:=s) (pre:=pre++[32]) (b:=119) (t:=32::(iO (eP p)++32::(cF p++32::t))) (by rw [h,hb]; simp only [List.append_assoc,List.cons_append,List.nil_append]) (by decide) hl
  rw [t1]
  have eq:zx q p.ao=q:=by rw [ht,← q0]; rfl
  rw [eq] at c1 ⊢
  rw [hb]
  refine Eq.trans c1 ?_
  simp only [List.append_assoc,List.cons_append,List.nil_append]
 ·have hb:cV p=[98]:=by unfold cV; rw [ht]; rfl
  have c1:=c1 98 hb
  have t1:=kq (s:=s) (pre:=pre++[32]) (b:=98) (t:=32::(iO (eP p)++32::(cF p++32::t))) (by rw [h,hb]; simp only [List.append_assoc,List.cons_append,List.nil_append]) (by decide) hl
  rw [t1]
  rw [ht] at c1 ⊢
  rw [hb]
  refine Eq.trans c1 ?_
  simp only [List.append_assoc,List.cons_append,List.nil_append]
theorem DQ (hp:aR p) (h:iP p) (hlen:(cG p).length≤200):sR p.variant (cG p)=(p,0):=by
 have hN:jL p=cG p:=by
  rw [(zf hp).2.1 h]
  unfold iJ
  rw [decide_eq_false (show ¬ Int.ofNat (cG p).length > 200 by show ¬ ((cG p).length:Int) > 200; omega),cond_false]
 have hm:=Ho h
 obtain ⟨v8,t1,L8,M4,h0,f0,h1,f1,sq,⟨k0,c0,c5,k00,k01⟩,⟨k1,d0,d5,Q0,k11⟩⟩:=h
 have rk:∀ c d:Int,(c=0∨c=1)→(d=0∨d=1)→mJ p c d:=by
  rintro c d (rfl | rfl) (rfl | rfl)
  ·exact k00
  ·exact k01
  ·exact Q0
  ·exact k11
 have n65:=(gi hp.v0 hp.v1).2
 have hcl:=hp.cl
 have ec:p.ab=[p.ab.getD 0 0,p.ab.getD 1 0]:=by
  revert hcl
  generalize p.ab=l
  match l with
  | [a,b]=>intro _; rfl
  | [] | [_]=>intro h; cases h
  | _::_::_::_=>intro h; simp at h
 have ci0:=mP hp 0
 have ci1:=mP hp 1
 have pz:∀ i:Nat,i < 12→(p.variant≠2∨i=0∨i=6)→p.ae.getD i 0=0:=by
  intro i hi hh
  have g:=oN hp i
  by_cases hlt:i < 6
  ·have:=k0 i hlt
   rw [show ((6:Int) * 0+(i:Int)).toNat=i by omega] at this
   rcases Int.lt_or_le 0 (p.ae.getD i 0) with q | q
   ·have:=this q; omega
   ·omega
  ·have:=k1 (i - 6) (by omega)
   rw [show ((6:Int) * 1+((i - 6:Nat):Int)).toNat=i by omega] at this
   rcases Int.lt_or_le 0 (p.ae.getD i 0) with q | q
   ·have:=this q; omega
   ·omega
 have hz:p.variant≠2→p.ae=List.replicate 12 0:=by
  intro hv
  refine List.ext_getElem (hp.kl.trans rfl) fun n a b => ?_
  have:=pz n (by rw [hp.kl] at a; exact a) (.inl hv)
  rw [List.getD_eq_getElem?_getD,List.getElem?_eq_getElem a] at this
  rw [List.getElem_replicate]
  exact this
 have hbit:∀ s:Nat,s < 64→bQ p.aa s=true→cK p s≠0:=fun s hs hb=>((sq s hs).2 hb).1
 have ht:p.ao=0∨p.ao=1:=by have:=hp.t0; omega
 have hq1:aR (Pos.mk p.variant p.ag p.aa p.ae 0 (List.replicate 4 0) 0 (List.replicate 2 0) 0 0) :=
  ⟨hp.v0,hp.v1,hp.bl,hp.b0,hp.kl,hp.k0,(show (0:Int)≤0 by decide),(show (0:Int)≤255 by decide),rfl,(show ∀ x ∈ List.replicate 4 (0:Int),-128≤x∧x≤127 by decide),(show (-128:Int)≤0 by decide),(show (0:Int)≤127 by decide),rfl,(show ∀ x ∈ List.replicate 2 (0:Int),0≤x∧x≤255 by decide),(show (-9223372036854775808:Int)≤0∧(0:Int)≤9223372036854775807 by decide),(show (-9223372036854775808:Int)≤0∧(0:Int)≤9223372036854775807 by decide)⟩
 have hl:(cG p).length≤1000:=by omega
 have tail:∀ pre:List UInt8,cG p=pre++32::(cV p++32::(iO (eP p)++32::(cF p++32::(fO p++(aK p.half++32::aK p.full)))))→N8 p.variant (cG p) (Pos.mk p.variant p.ag p.aa p.ae 0 (List.replicate 4 0) 0 (List.replicate 2 0) 0 0) ((pre.length:Nat):Int) false=(p,0):=by
  intro pre hpre
  rw [TR (p:=p) hp hq1 rfl ht rfl rk L8 M4 hl hpre]
  by_cases hv:p.variant=5
  ·have v5:fO p=43::(aK (p.ab.getD 0 0)++43::(aK (p.ab.getD 1 0)++[32])):=by unfold fO; rw [hv]; rfl
   rw [v5] at hpre
   rw [show ∀ (q:Pos) (i:Int) (b:Bool),CW p.variant (cG p) q i b=CW 5 (cG p) q i b from fun _ _ _=>by rw [hv],Uu (t:=aK p.half++32::aK p.full) ci0.1 c0 ci1.1 d0 rfl hl (by rw [hpre]; simp only [List.append_assoc,List.cons_append,List.nil_append]),← ec]
   exact Lf h0 h1 f0 f1 hl (by rw [hpre]; simp only [List.append_assoc,List.cons_append,List.nil_append]) rfl hN
  ·have v5:fO p=[]:=by unfold fO; rw [show (p.variant==5)=false by simpa using hv]; rfl
   have ek:p.ab=[0,0]:=by
    rw [ec]
    have a:p.ab.getD 0 0=0:=by
     rcases Int.lt_or_le 0 (p.ab.getD 0 0) with q | q
     ·exact absurd (c5 q) hv
     ·omega
    have b:p.ab.getD 1 0=0:=by
     rcases Int.lt_or_le 0 (p.ab.getD 1 0) with q | q
     ·exact absurd (d5 q) hv
     ·omega
    rw [a,b]
   rw [v5] at hpre
   unfold CW
   rw [show (p.variant==5)=false by simpa using hv,cond_false]
   exact Lf h0 h1 f0 f1 hl (by rw [hpre]; simp only [List.append_assoc,List.cons_append,List.nil_append]) (by
    show Pos.mk p.variant p.ag p.aa p.ae p.ao p.ah p.af [0,0] p.half p.full=p
    rw [← ek]) hN
 rw [FO]
 unfold Ou
 rw [decide_eq_false (show ¬ p.variant > 8 by omega),decide_eq_false (show ¬ Int.ofNat (cG p).length > 200 by show ¬ ((cG p).length:Int) > 200; omega)]
 simp only [cond_false]
 by_cases hv:p.variant=2
 ·have eb:gj p=dW p 8++91::(gF p 12++[93]):=by unfold gj; rw [n65,hv]; rfl
  have e0:cG p=dW p 8++91::(gF p 12++93::32::(cV p++32::(iO (eP p)++32::(cF p++32::(fO p++(aK p.half++32::aK p.full)))))):=by unfold cG; rw [eb]; simp only [List.append_assoc,List.cons_append,List.nil_append]
  rw [MN hp hm hbit hl (by simp) e0 p.variant]
  have n1:=lD e0 (by decide) hl
  rw [show ((91:UInt8).toNat:Int)=91 from rfl] at n1
  have hpk:=Pq (a:=p.variant) (u:=cG p) (s:=cG p) (pre:=dW p 8++[91]) (t:=32::(cV p++32::(iO (eP p)++32::(cF p++32::(fO p++(aK p.half++32::aK p.full)))))) (q:=Pos.mk p.variant p.ag p.aa (List.replicate 12 0) 0 (List.replicate 4 0) 0 (List.replicate 2 0) 0 0) hp (pz 0 (by omega) (.inr (.inl rfl))) (pz 6 (by omega) (.inr (.inr rfl))) hl (by rw [e0]; simp only [List.append_assoc,List.cons_append,List.nil_append]) rfl
  have n2:=lD (s:=cG p) (pre:=dW p 8++[91]++gF p 12) (b:=93) (t:=32::(cV p++32::(iO (eP p)++32::(cF p++32::(fO p++(aK p.half++32::aK p.full)))))) (by rw [e0]; simp only [List.append_assoc,List.cons_append,List.nil_append]) (by decide) hl
  rw [show ((93:UInt8).toNat:Int)=93 from rfl] at n2
  simp only [yI,n1]
  rw [hpk]
  simp only [Option.getD_some,n2]
  rw [show (p.variant==2)=true by rw [hv]; rfl,cond_true]
  exact tail (dW p 8++[91]++gF p 12++[93]) (by rw [e0]; simp only [List.append_assoc,List.cons_append,List.nil_append])
 ·have eb:gj p=dW p 8:=by unfold gj; rw [n65,show (p.variant==2)=false by simpa using hv]; rfl
  have e0:cG p=dW p 8++32::(cV p++32::(iO (eP p)++32::(cF p++32::(fO p++(aK p.half++32::aK p.full))))):=by unfold cG; rw [eb]
  rw [MN hp hm hbit hl (by simp) e0 p.variant,show (p.variant==2)=false by simpa using hv,cond_false]
  have:=tail (dW p 8) e0
  rw [hz hv] at this
  exact this
theorem Ph:(List.range 9).all (fun v=>((N9 (v:Int) []).2==5)&&((sR (v:Int) []).2==5))=true:=by kernel_rfl
theorem CX {v:Int} (h0:0≤v) (h1:v≤255):N9 v s=sR v s∨1000000 < s.length:=by
 by_cases big:1000000 < s.length
 ·exact .inr big
 left
 obtain ⟨_,a1,a2,a3⟩:=Bd h0 h1 (s:=s) (by omega)
 obtain ⟨_,b1,b2,b3⟩:=Mj (s:=s) h0 h1
 have zero:∀ e:Int,e≠0→(N9 v s).2=e→N9 v s=(blank 0,e):=fun e he h=>by
  rw [← h]
  exact Prod.ext (JV (by rw [h]; exact he)) rfl
 by_cases h9:v ≥ 9
 ·rw [b1 (by omega),zero 2 (by decide) (a1 h9)]
 by_cases hl:200 < s.length
 ·rw [b2 (by omega) hl,zero 3 (by decide) (a2 (by omega) hl)]
 have a3:=a3 (by omega) (by omega)
 have b3:=b3 (by omega) (by omega)
 by_cases hs:s=[]
 ·subst hs
  have t:=dk Ph h0 (show v < 9 by omega)
  rw [Int.toNat_of_nonneg h0] at t
  simp only [Bool.and_eq_true,beq_iff_eq] at t
  rw [zero 5 (by decide) t.1]
  rcases b3 with e | ⟨e,_⟩
  ·exact e.symm
  ·rw [t.2] at e; exact absurd e (by decide)
 have wr:∀ {q:Pos},aR q→wB q=s→iP q∧s=cG q∧(cG q).length≤200:=fun {q} hq h=>by
  obtain ⟨x,y,z⟩:=zX hq (by rw [h]; exact hs)
  exact ⟨x,h.symm.trans y,z⟩
 rcases a3 with e | ⟨e,e1,e2⟩
 ·rcases b3 with g | ⟨g,g1,g2⟩
  ·rw [g,zero 5 (by decide) e]; rfl
  ·obtain ⟨x,y,z⟩:=wr g1.1 ((zy g1.1).symm.trans g2)
   have:=Jg g1.1 x z
   rw [← y,g1.2] at this
   rw [this] at e
   exact absurd (show (0:Int)=5 from e) (by decide)
 ·obtain ⟨x,y,z⟩:=wr e2.1 e1
  have:=DQ e2.1 x z
  rw [← y,e2.2] at this
  rw [this]
  exact Prod.ext rfl e
theorem JZ {b:Int} (b0:0≤b) (b1:b≤255) (c:List UInt8):Xo b c=true∧N3 b c=true:=by
 unfold Xo N3
 by_cases hc:Int.ofNat c.length > 5000
 ·rw [decide_eq_true hc]; exact ⟨rfl,rfl⟩
 have hc':¬ (c.length:Int) > 5000:=hc
 rw [decide_eq_false hc,(Bd b0 b1 (s:=c) (by omega)).1,(Mj b0 b1).1]
 have e:N9 b c=sR b c:=(CX b0 b1).resolve_right (by omega)
 rw [e]
 simp only [beq_self_eq_true,Bool.and_true]
 exact ⟨rfl,rfl⟩
end Kz
end
