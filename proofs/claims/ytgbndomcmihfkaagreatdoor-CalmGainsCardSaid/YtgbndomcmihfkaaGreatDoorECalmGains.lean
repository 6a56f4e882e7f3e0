/- CalmGains. -/
import Derived.Test.YtgbndomcmihfkaaGreatDoorE8
import Derived.JoinedCond
set_option linter.unusedSectionVars false
set_option linter.unusedVariables false
set_option linter.unusedSimpArgs false
set_option linter.unnecessarySimpa false
set_option maxRecDepth 100000
set_option maxHeartbeats 4000000
noncomputable section
namespace Kz
open Go Go.RowKit Go.Proofs
def B24:ar:=gm Pz (fun _ _=>[]) [(50,G50)] [] [(52,FG)]
theorem ao2:aO B24:=af ae ⟨s50,trivial⟩ trivial ⟨ap2,trivial⟩
def zD (p:Pos)(m:Mv)(n:Int):Int×Int:=bif decide (n<1)then(0,2)else bif decide (n>32)then(0,2)else bif !XD p m then(0,2)else bif(sy n p m 0).isSome then(((sy n p m 0).getD (0,0)).1,0)else(0,4)
def vF (p:Pos)(m:Mv)(n:Int):Bool:=bif decide (n<1)then true else bif decide (n>32)then true else(KJ p m&&bif !XD p m then true else(Kj p (n-1) 0&&bif(sy n p m 0).isSome then true else(Kj p (n-1) 0&&(!(sy n p m 0).isSome&&true))))
theorem P24 (p:Pos)(m:Mv)(n:Int)(h:vF p m n=true):PS Pz 24 [Pos.av p,Mv.av m,.int .i64 n] ((d2 (dI .i64) (dI .i64)).res (zD p m n)):=sc (n:=30) ao2 (by kernel_rfl) (by kernel_rfl) (by kernel_rfl) h
def G24:GT:=g3 aZ rJ (dI .i64) (fun p m n=>b7 (vF p m n) ((d2 (dI .i64) (dI .i64)).res (zD p m n)))
theorem s24:Sound Pz 24 G24:=dc fun p m n=>aA (P24 p m n)
def K6:KT:=[(6,108,[(0,[2,3,4,5]),(1,[2,3,4,5,31]),(2,[8]),(3,[2,3,4,5,9]),(4,(rn 2 4 [9,41])),(5,[3,4,5,9]),(6,[3,4,5,9,10,11]),(7,[3,4,5,10,11,67]),(8,[8]),(9,[3,4,5,10,11,12]),(10,[10,11,12,13]),(11,[10,11,13,88]),(12,[8]),(13,[8])]),(25,24,[(0,[0,3,5,6]),(1,[0,3,9]),(2,[8])])]
def B6:ar:=bO Pz K6 [(11,G11),(16,G16),(17,G17),(23,G23),(24,G24)] [] [(25,FGR)]
theorem hB6:aO B6:=af ae ⟨s11,s16,s17,s23,s24,trivial⟩ trivial ⟨ap6,trivial⟩
def BI (a:Pos)(m:Mv)(d:Int):Bool:=bif decide (d<1)then(bif(zD a m d).1==0 then(bif(zD a m d).2==2 then DN else false)else false)else bif decide (d>32)then(bif(zD a m d).1==0 then(bif(zD a m d).2==2 then DN else false)else false)else bif !Vx (sK a) m then(bif(zD a m d).1==0 then(bif(zD a m d).2==2 then DN else false)else false)else bif decide ((DD d a m 0).2>200000)then(bif(zD a m d).1==0 then(bif(zD a m d).2==4 then DN else false)else false)else bif(zD a m d).1==(DD d a m 0).1 then(bif(zD a m d).2==0 then DN else false)else false
def K1 (a:Pos)(m:Mv)(d:Int):Bool:=vF a m d&&bif decide (d<1)then true else bif decide (d>32)then true else(J1 (sK a) m&&bif !Vx (sK a) m then true else(okS a m (d-1) 0&&(Nat.ble 0 2&&true)))
def pk6 (a:Pos)(b:Mv)(c d:Int):Bool:=bif decide (c≥0)then(bif decide (Int.ofNat (sK a).length>0)then BI a ((sK a).getD (c.tmod (Int.ofNat (sK a).length)).toNat default) d else BI a b d)else BI a b d
def pd6 (a:Pos)(b:Mv)(c d:Int):Bool:=D7 a&&bif decide (c≥0)then(bif decide (Int.ofNat (sK a).length>0)then(!Int.ofNat (sK a).length==0&&(decide (0≤c.tmod (Int.ofNat (sK a).length))&&decide (c.tmod (Int.ofNat (sK a).length)<Int.ofNat (sK a).length)&&K1 a ((sK a).getD (c.tmod (Int.ofNat (sK a).length)).toNat default) d))else K1 a b d)else K1 a b d
def Zw (a:Pos)(b:Mv)(c d:Int):Bool:=bif decide (d>1)then(bif decide (d≤3)then(bif Wo a then DN else pk6 a b c d)else pk6 a b c d)else pk6 a b c d
def aaL (a:Pos)(b:Mv)(c d:Int):Bool:=bif decide (d>1)then(bif decide (d≤3)then(IE a&&bif Wo a then true else pd6 a b c d)else pd6 a b c d)else pd6 a b c d
def N6 (a:Pos)(b:Mv)(c d:Int):Bool:=bif decide (d>3)then(bif decide (d≤32)then DN else Zw a b c d)else Zw a b c d
def ok6 (a:Pos)(b:Mv)(c d:Int):Bool:=bif decide (d>3)then(bif decide (d≤32)then true else aaL a b c d)else aaL a b c d
theorem P6 (a:Pos)(b:Mv)(c:Int)(d:Int)(h:ok6 a b c d=true):PS Pz 6 [Pos.av a,Mv.av b,.int .i64 c,.int .i64 d] (dB.res (N6 a b c d)):=pq14 hB6 h
variable {p:Pos}{m:Mv}
theorem Yq (hp:ax p)(m:Mv):KJ p m=true∧XD p m=decide (m∈dh p):=by have hl:=nn hp;unfold KJ XD;rw[t30 hp,t65 (by omega),mF (by omega)];exact⟨rfl,rfl⟩
theorem PN {p:Pos}(hp:ax p){n:Nat}{v k:Int}(h:bM n p 0=some (v,k)) : -30000≤v∧v≤30000:=by
 rw[xa n hp]at h;split at h
 ·simp only[A',Prod.mk.injEq]at h;rw[←h.1];exact yY n p
 ·cases h
theorem GO (hp:ax p)(m:Mv){d:Int}(h:d≤3∨d>32):K1 p m d=true∧BI p m d=true:=by
 obtain⟨b1,b2⟩:=AI hp;have hl:=nn hp;obtain⟨k1,k2⟩:=adg (l:=dh p) (by omega) m;unfold K1 BI;rw[b2,k1,k2];by_cases h0:d<1
 ·have e:zD p m d=(0,2):=by unfold zD;rw[decide_eq_true h0];rfl
  have e2:vF p m d=true:=by unfold vF;rw[decide_eq_true h0];rfl
  rw[e,e2,decide_eq_true h0];exact⟨rfl,rfl⟩
 by_cases h1:d>32
 ·have e:zD p m d=(0,2):=by unfold zD;rw[decide_eq_false h0,decide_eq_true h1];rfl
  have e2:vF p m d=true:=by unfold vF;rw[decide_eq_false h0,decide_eq_true h1];rfl
  rw[e,e2,decide_eq_false h0,decide_eq_true h1];exact⟨rfl,rfl⟩
 obtain⟨i1,i2⟩:=Yq hp m;rw[decide_eq_false h0,decide_eq_false h1];by_cases hm:m∈dh p
 ·have hv:Kj p (d-1) 0=true:=by unfold Kj;rw[kg.2 hp,decide_eq_true (show 0≤d-1 by omega),decide_eq_true (show d-1<1000 by omega)];rfl
  have hs:okS p m (d-1) 0=true:=by unfold okS Vl;rw[kg.2 hp,decide_eq_true (show 0≤d-1 by omega),decide_eq_true (show d-1≤3 by omega),decide_eq_true hm];rfl
  have e24:vF p m d=true:=by unfold vF;rw[decide_eq_false h0,decide_eq_false h1,i1,i2,decide_eq_true hm,hv];cases (sy d p m 0).isSome<;>rfl
  rw[e24,hs,decide_eq_true hm];refine⟨rfl,?_⟩;obtain⟨_,hq,ec⟩:=lY hp hm;unfold zD sy DD uF C2;rw[fL,fL,decide_eq_false h0,decide_eq_false h1,i2,decide_eq_true hm,ec];rcases looks (jY hp m) (d-1).toNat with⟨v,k,e1,e2,hk⟩|⟨e1,e2⟩
  ·have hv:=PN (jY hp m) e1;rw[e1,e2];simp only[Option.map_some,Option.isSome_some,Option.getD_some,cond_true,cond_false,Bool.not_true];rw[(back_eq hv.1 hv.2).1,decide_eq_false (show ¬k>200000 by omega),beq_self_eq_true];rfl
  ·rw[e1,decide_eq_true (show(bX (d-1).toNat (du p m).1 0).2>200000 from e2)];rfl
 ·have e:zD p m d=(0,2):=by unfold zD;rw[decide_eq_false h0,decide_eq_false h1,i2,decide_eq_false hm];rfl
  have e2:vF p m d=true:=by unfold vF;rw[decide_eq_false h0,decide_eq_false h1,i1,i2,decide_eq_false hm];rfl
  rw[e,e2,decide_eq_false hm];exact⟨rfl,rfl⟩
theorem Ti (hp:ax p)(m:Mv)(c:Int){d:Int}(h:d≤3∨d>32):pd6 p m c d=true∧pk6 p m c d=true:=by
 obtain⟨b1,b2⟩:=AI hp;obtain⟨h1,h2⟩:=GO hp m h;unfold pd6 pk6;rw[b1,h1,h2];by_cases hc:c≥0
 ·rw[decide_eq_true hc];by_cases hl:Int.ofNat (sK p).length>0
  ·obtain⟨k1,k2⟩:=GO hp ((sK p).getD (c.tmod (Int.ofNat (sK p).length)).toNat default) h;have hne:(Int.ofNat (sK p).length==0)=false:=by grind
   rw[k1,k2,decide_eq_true hl,hne,decide_eq_true (Int.tmod_nonneg _ hc),decide_eq_true (Int.tmod_lt_of_pos c hl)];exact⟨rfl,rfl⟩
  simp_all
 simp_all
theorem SD (hp:ax p)(m:Mv)(c d:Int):ok6 p m c d=true∧N6 p m c d=true:=by
 unfold ok6 N6 aaL Zw;rw[PR hp];by_cases h:d≤3∨d>32
 ·obtain⟨h1,h2⟩:=Ti hp m c h;rw[h1,h2];cases decide (d>3)<;>cases decide (d≤32)<;>cases decide (d>1)<;>cases decide (d≤3)<;>cases Wo p<;>exact⟨rfl,rfl⟩
 ·rw[decide_eq_true (show d>3 by omega),decide_eq_true (show d≤32 by omega)];exact⟨rfl,rfl⟩
end Kz
namespace Kz
open Go Go.RowKit Go.Proofs
set_option maxRecDepth 100000
theorem ao0 (p:Pos)(m:Mv)(c d:Int)(hp:ax p)(_:True)(_:IntKind.has .i64 c)(_:IntKind.has .i64 d):aX Pz 6 [Pos.av p,Mv.av m,.int .i64 c,.int .i64 d] (.bool true):=by have t:=SD hp m c d;have h:=P6 p m c d t.1;rw[t.2]at h;exact h.1
end Kz
namespace Go.Proofs.YtgbndomcmihfkaaGreatDoor
open Kz Go Go.RowKit Go.WideShapes Go.ChangeShapes Go.ChangeAt Go.Proofs
set_option maxRecDepth 100000
theorem CB:Tryz.f6.params=#[31,47,3,3]:=by kernel_rfl
theorem arf:Tryz.f6.resultTypes=#[4]:=by kernel_rfl
theorem rd6:∀t∈Tryz.f6.params.toList,Tryz.prog.readableRec t=true∧t<Tryz.prog.types.size:=by
 rw[CB];have h:([31,47,3,3]:List TypeId).all (fun t=>Tryz.prog.readableRec t&&Nat.blt t Tryz.prog.types.size)=true:=by kernel_rfl
 intro t ht;have:=List.all_eq_true.1 h t ht;simp only[E',Nat.blt_eq]at this;exact this
theorem ajj (W:World)(base:Nat)(args:Array Value)(hl:args.size=Tryz.f6.params.size)(hval:∀(j:Nat) t v,Tryz.f6.params[j]?=some t→args[j]?=some v→Value.okWide Tryz.prog W .any base t v) :
  ∃xs,(∀(g:Gh) (tk:List Nat) (w:World),aI g tk w xs args.toList)∧aX Pz 6 xs (.bool true):=by
 rw[CB]at hl;obtain⟨l⟩:=args;obtain⟨v0,v1,v2,v3,rfl⟩:∃v0 v1 v2 v3,l=[v0,v1,v2,v3]:=by
  match l,hl with
  | [v0,v1,v2,v3],_=>exact⟨_,_,_,_,rfl⟩
 obtain⟨p0,h0,r0⟩:=CN (hval 0 31 v0 (by rw[CB];rfl) rfl);obtain⟨p1,h1,r1⟩:=Ud (hval 1 47 v1 (by rw[CB];rfl) rfl);obtain⟨p2,h2,r2⟩:=wT (k := .i64) DQ (hval 2 3 v2 (by rw[CB];rfl) rfl);obtain⟨p3,h3,r3⟩:=wT (k := .i64) DQ (hval 3 3 v3 (by rw[CB];rfl) rfl);exact⟨[Pos.av p0,Mv.av p1,.int .i64 p2,.int .i64 p3],fun g tk w=>.cons (r0 _ _ _) (.cons (r1 _ _ _) (.cons (r2 _ _ _) (.cons (r3 _ _ _) .nil))),ao0 p0 p1 p2 p3 h0 h1 h2 h3⟩
theorem Iv (os:Os):laidMet Tryz.prog Rows.calmGainsRow.laid ((iP os).forCall (fun _ _=>0) ⟨#[],#[jw,AD,.int .i64 0,.int .i64 0],[]⟩).memory :=
 laidMet_of_run' 12 (by kernel_rfl) (by kernel_rfl)
theorem YD (os:Os){H:Type}(enc:TypeId×Value→H):∃places,DataW.whole enc Tryz.prog ((iP os).forCall (fun _ _=>0) ⟨#[],#[jw,AD,.int .i64 0,.int .i64 0],[]⟩).memory Tryz.f6.params.toList Rows.calmGainsSpec.vars false (#[jw,AD,.int .i64 0,.int .i64 0]:Array Value).toList 12=some ([BD,EV,(.lit (.int .i64 0)),(.lit (.int .i64 0))],[],places) :=
 ⟨[],by kernel_rfl⟩
theorem SE (os:Os)(started:os.Started)(H:Type)(enc:TypeId×Value→H)(F:Stop.Interp) :
  ReturnsInHanded {} Tryz.checked os 6 .any ((OpenSpec.ofChange Rows.calmGainsSpec).preRow enc Tryz.prog Tryz.f6 Rows.calmGainsRow.domain false Rows.calmGainsRow.laid) (((OpenSpec.ofChange Rows.calmGainsSpec).at F).post enc Tryz.prog Tryz.f6 false true false false):=by
 obtain⟨places,hx⟩:=YD os enc
 refine returnsInHanded_of_row (C:=Tryz.checked) (s:=OpenSpec.ofChange Rows.calmGainsSpec) Xv started (by kernel_rfl) Tryz.func6
  (witness_row_at (enc:=enc) (C:=Tryz.checked) false (iP os) #[jw,AD,.int .i64 0,.int .i64 0] rfl (by kernel_rfl) (by kernel_rfl) (by kernel_rfl)
   (OpenSpec.preRow_of_cond 12 hx (by kernel_rfl) (fun k hk=>by cases hk) (by kernel_rfl) (Iv os))) ?_
 intro W base args ds gs before hval hW _ _ _ hL _ _
 exact sC (f:=6) (fn:=Tryz.f6) (s:=Rows.calmGainsSpec) arf rfl rd6 (fun H ds hds=>by
  rw[CB]at hds
  match ds,hds with
  | [d0,d1,d2,d3],_=>rfl) ajj H enc W base args ds gs before hval hW (sE hL)
theorem cr {a b:Bool}(h1:a=true)(h2:b=true):(a&&b)=true:=by rw[h1,h2];rfl
noncomputable abbrev Q6:=OpenSpec.ofChange Rows.calmGainsSpec
noncomputable abbrev R6:=Rows.calmGainsRow
noncomputable abbrev V6:=Tryz.f6.params.toList++Q6.bare.plain.varTypes Tryz.prog
theorem anA:(R6.wf (OpenSpec.ofChange Q6.bare))=true:=by kernel_rfl
theorem alM:laidOutB Pz=true:=by kernel_rfl
theorem as7:mapsRowed Pz=true:=by kernel_rfl
theorem alL:(Tryz.f6.params.all (Pz.readableRec ·))=true:=by kernel_rfl
theorem anF:namedTie Pz R6.named Q6.bare.vars=true:=by kernel_rfl
theorem aoe:(R6.stops==[])=true:=by kernel_rfl
theorem anR:(Pz.stops==[])=true:=by kernel_rfl
theorem ans:(R6.knobs==[])=true:=by kernel_rfl
theorem akz:(Pz.stopKnobs==[])=true:=by kernel_rfl
theorem aoT:(R6.inPlace==Pz.inPlace 6)=true:=by kernel_rfl
theorem afv:(R6.unfollowed==Pz.unfollowed 6)=true:=by kernel_rfl
theorem aho:(R6.recurses==Pz.recurses 6)=true:=by kernel_rfl
theorem ahi:(R6.named==Pz.varsNamed 6)=true:=by kernel_rfl
theorem agl:(R6.maps==V6.any (Pz.mapsRec ·))=true:=by kernel_rfl
theorem ahs:(R6.ifaces==V6.any (Pz.ifacesRec ·))=true:=by kernel_rfl
theorem agj:(R6.mapsOut==Pz.mapsAmong Tryz.f6.resultTypes.toList)=true:=by kernel_rfl
theorem ahf:(R6.loops==V6.any (Pz.loopsFrom ·))=true:=by kernel_rfl
theorem ac3:(R6.wideKeys==(V6++Tryz.f6.resultTypes.toList).any (Pz.wideKeysFrom ·))=true:=by kernel_rfl
theorem aje:(Q6.bare.vars.all (Pz.varReadable ·))=true:=by kernel_rfl
theorem aiD:(Tryz.f6.resultTypes.all (fun t=>Pz.readableRec t&&decide (t<Pz.types.size)))=true:=by kernel_rfl
theorem ahE:(R6.ifacesOut==Tryz.f6.resultTypes.toList.any (Pz.ifacesRec ·))=true:=by kernel_rfl
theorem ajC:(R6.loopsOut==Tryz.f6.resultTypes.toList.any (Pz.loopsFrom ·))=true:=by kernel_rfl
theorem adX:(R6.plainKeys==Pz.plainKeys)=true:=by kernel_rfl
theorem ain:R6.shortTexts.isNone=true:=by kernel_rfl
theorem ajd:Pz.stopsHeard=true:=by kernel_rfl
theorem ajp:Pz.mayEnter=true:=by kernel_rfl
theorem ai3:(R6.lifted==Pz.liftsFinal)=true:=by kernel_rfl
theorem ae6:(Pz.make==some R6.make)=true:=by kernel_rfl
theorem aez:(R6.kinds==(if R6.domain.isEmpty then[]else Tryz.f6.params.toList.map fun t=>match Pz.underlying t with|some (.int k)=>some k|_=>none))=true:=by kernel_rfl
theorem ajW:(R6.pinned==R6.pinnedBy)=true:=by kernel_rfl
theorem ahH:(R6.veiled==(V6++Tryz.f6.resultTypes.toList).any (Pz.veiledRec ·))=true:=by kernel_rfl
theorem ajU:(R6.veiledFits Pz Tryz.f6.params.toList (V6++Tryz.f6.resultTypes.toList))=true:=by kernel_rfl
theorem RO:joinedFacts Tryz.prog 6 Tryz.f6 (OpenSpec.ofChange Rows.calmGainsSpec).bare Rows.calmGainsRow=true:=(cr (cr (cr (cr (cr (cr (cr (cr (cr (cr (cr (cr (cr (cr (cr (cr (cr (cr (cr (cr (cr (cr (cr (cr (cr (cr (cr (cr (cr (cr (cr anA alM) as7) alL) anF) aoe) anR) ans) akz) aoT) afv) aho) ahi) agl) ahs) agj) ahf) ac3) aje) aiD) ahE) ajC) adX) ain) ajd) ajp) ai3) ae6) aez) ajW) ahH) ajU)
theorem P7:Tryz.pinned.checked.prog.funcNamed Rows.calmGainsRow.func=some 6:=by kernel_rfl
theorem af1:Rows.CalmGainsSaid :=
 OpenClaim.holds_of_cond 6 Tryz.f6 rfl rfl rfl rfl rfl rfl rfl ⟨rfl,rfl,rfl,rfl,rfl⟩ rfl rfl rfl rfl rfl P7 Tryz.func6 RO
  (of_decide_eq_true (by kernel_rfl)) (by unfold Func.isWrapper;first|(rw[if_pos (by decide +kernel)];kernel_rfl)|(rw[if_neg (by decide +kernel)];exact⟨rfl,rfl⟩))
  (fun os started H enc _ F=>by rw[OpenClaim.pre_eq_preRow];exact SE os started H enc F)
theorem ZH (f:FuncId)(fn:Func)(hf:Tryz.pinned.checked.prog.funcNamed Rows.calmGainsRow.func=some f)(hfn:Tryz.pinned.checked.prog.funcs[f]?=some fn) :
  true=Tryz.pinned.checked.prog.looks []∧∀(j:Nat) t,fn.params[j]?=some t→Tryz.pinned.checked.prog.wantsStandIn t=false:=by
 obtain rfl:f=6:=Option.some.inj (P7.symm.trans hf) |>.symm;obtain rfl:fn=Tryz.f6:=(Option.some.inj (Tryz.func6.symm.trans hfn)).symm;refine⟨by kernel_rfl,fun j t ht=>?_⟩;rw[CB]at ht;have h:([31,47,3,3]:List TypeId).all (fun t => !Tryz.prog.wantsStandIn t)=true:=by kernel_rfl
 have hm:t∈([31,47,3,3]:List TypeId):=by simpa using Array.mem_of_getElem? ht
 have hw:Tryz.prog.wantsStandIn t=false:=by simpa using List.all_eq_true.1 h t hm
 exact hw
theorem card6:Rows.CalmGainsCardSaid :=
 Claim7.holds_tied_plain_at .later [] _ _ _ _ af1 (fun _ h=>by cases h) (by kernel_rfl) (fun _ h=>by cases h) calmGains_row_tie rfl ⟨rfl,rfl⟩ (by kernel_rfl) rfl ZH (by kernel_rfl)
end Go.Proofs.YtgbndomcmihfkaaGreatDoor
