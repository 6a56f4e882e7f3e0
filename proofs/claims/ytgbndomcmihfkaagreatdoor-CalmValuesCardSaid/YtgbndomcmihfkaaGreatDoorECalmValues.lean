/- CalmValues: of any position and any number of takes,a calm value is as the document says: the value,or why there is none. No conditions. -/
import Derived.Test.YtgbndomcmihfkaaGreatDoorE8
import Derived.JoinedCond
set_option linter.unusedSectionVars false
set_option linter.unusedVariables false
set_option linter.unusedSimpArgs false
set_option linter.unnecessarySimpa false
set_option maxRecDepth 100000
set_option maxHeartbeats 4000000
noncomputable section
namespace Kz
open Go Go.RowKit Go.Proofs
def K4:KT:=[(4,84,[(0,[1,2]),(1,[1,2,26]),(2,[4]),(3,[1,2,5,6]),(4,[1,2,5,6,44]),(5,[4]),(6,[1,2,5,6,7]),(7,[5,6,7,8]),(8,[5,6,8,64]),(9,[4]),(10,[4])]),(20,67,[(0,[0,2,4]),(1,[0,2,4]),(2,[0,2,4,23]),(3,[6]),(4,[0,2,4,7]),(5,[0,2,4,7,28]),(6,[6]),(7,[0,2,4,8]),(8,[0,2,4,8,35]),(9,[6]),(10,[0,2,4,8,9]),(11,[0,2,4,8,9,10]),(12,[0,2,4,8,9,10,42]),(13,[0,2,4,8,9,10]),(14,(0::2::4::(rn 8 4 []))),(15,(0::2::4::(rn 8 4 [64]))),(16,[0,2,4,8,9,10]),(17,[6])])]
def B4:ar:=bO Pz K4 [(16,G16),(17,G17),(18,G18),(19,JZ)] [] [(20,FVR)]
theorem WY:aO B4:=af ae ⟨s16,s17,s18,Kg,trivial⟩ trivial ⟨apV,trivial⟩
def Cn (a:Pos)(b:Int):Bool:=bif decide (b<0)then(bif(yr a b).1==0 then(bif(yr a b).2==2 then DN else false)else false)else bif decide (b>32)then(bif(yr a b).1==0 then(bif(yr a b).2==2 then DN else false)else false)else bif !qK a then(bif(yr a b).1==0 then(bif(yr a b).2==2 then DN else false)else false)else bif decide ((B8 b a 0).2>200000)then(bif(yr a b).1==0 then(bif(yr a b).2==4 then DN else false)else false)else bif(yr a b).1==(B8 b a 0).1 then(bif(yr a b).2==0 then DN else false)else false
def OX (a:Pos)(b:Int):Bool:=Ar a b&&bif decide (b<0)then true else bif decide (b>32)then true else bif !qK a then true else(Vl a b 0&&(Nat.ble 0 1&&true))
def ab5 (a:Pos)(b:Int):Bool:=bif decide (b>1)then(bif decide (b≤3)then(bif Wo a then DN else Cn a b)else Cn a b)else Cn a b
def Yx (a:Pos)(b:Int):Bool:=bif decide (b>1)then(bif decide (b≤3)then(IE a&&bif Wo a then true else OX a b)else OX a b)else OX a b
def N4 (a:Pos)(b:Int):Bool:=bif decide (b>3)then(bif decide (b≤32)then DN else ab5 a b)else ab5 a b
def ok4 (a:Pos)(b:Int):Bool:=bif decide (b>3)then(bif decide (b≤32)then true else Yx a b)else Yx a b
theorem P4 (a:Pos)(b:Int)(h:ok4 a b=true):PS Pz 4 [Pos.av a,.int .i64 b] (dB.res (N4 a b)):=pq14 WY h
variable {p:Pos}
theorem TP (hp:ax p){b:Int}(h:b≤3∨b>32):OX p b=true∧Cn p b=true:=by
 unfold OX Cn;by_cases h0:b<0
 ·have e:yr p b=(0,2):=by unfold yr;rw[decide_eq_true h0];rfl
  have e2:Ar p b=true:=by unfold Ar;rw[decide_eq_true h0];rfl
  rw[e,e2,decide_eq_true h0];exact⟨rfl,rfl⟩
 by_cases h1:b>32
 ·have e:yr p b=(0,2):=by unfold yr;rw[decide_eq_false h0,decide_eq_true h1];rfl
  have e2:Ar p b=true:=by unfold Ar;rw[decide_eq_false h0,decide_eq_true h1];rfl
  rw[e,e2,decide_eq_false h0,decide_eq_true h1];exact⟨rfl,rfl⟩
 rw[aaO hp (by omega) (by omega),decide_eq_false h0,decide_eq_false h1];cases ht:qK p with
 |false =>rw[Ts ht (by omega) (by omega)];exact⟨rfl,rfl⟩
 |true =>
  have hth:=Hu.1 ht;have hr:Vl p b 0=true:=by unfold Vl;rw[kg.2 hp,decide_eq_true (show 0≤b by omega),decide_eq_true (show b≤3 by omega)];rfl
  refine⟨by rw[hr];rfl,?_⟩;rw[IV hth.1 hth.2 (by omega) (by omega)];unfold B8;rw[fL];rcases looks hp b.toNat with⟨v,k,e1,e2,hk⟩|⟨e1,e2⟩
  ·rw[e1,e2];dsimp only;rw[decide_eq_false (show ¬k>200000 by omega),beq_self_eq_true];rfl
  ·rw[e1,decide_eq_true (show(bX b.toNat p 0).2>200000 from e2)];rfl
theorem Sj (hp:ax p)(b:Int):ok4 p b=true∧N4 p b=true:=by
 unfold ok4 N4 Yx ab5;rw[PR hp];by_cases h:b≤3∨b>32
 ·obtain⟨h1,h2⟩:=TP hp h;rw[h1,h2];cases decide (b>3)<;>cases decide (b≤32)<;>cases decide (b>1)<;>cases decide (b≤3)<;>cases Wo p<;>exact⟨rfl,rfl⟩
 ·rw[decide_eq_true (show b>3 by omega),decide_eq_true (show b≤32 by omega)];exact⟨rfl,rfl⟩
end Kz
namespace Kz
open Go Go.RowKit Go.Proofs
set_option maxRecDepth 100000
theorem aor (p:Pos)(b:Int)(hp:ax p)(_:IntKind.has .i64 b):aX Pz 4 [Pos.av p,.int .i64 b] (.bool true):=by have t:=Sj hp b;have h:=P4 p b t.1;rw[t.2]at h;exact h.1
end Kz
namespace Go.Proofs.YtgbndomcmihfkaaGreatDoor
open Kz Go Go.RowKit Go.WideShapes Go.ChangeShapes Go.ChangeAt Go.Proofs
set_option maxRecDepth 100000
theorem Kb:Tryz.f4.params=#[31,3]:=by kernel_rfl
theorem alP:Tryz.f4.resultTypes=#[4]:=by kernel_rfl
theorem rd4:∀t∈Tryz.f4.params.toList,Tryz.prog.readableRec t=true∧t<Tryz.prog.types.size:=by
 rw[Kb];have h:([31,3]:List TypeId).all (fun t=>Tryz.prog.readableRec t&&Nat.blt t Tryz.prog.types.size)=true:=by kernel_rfl
 intro t ht;have:=List.all_eq_true.1 h t ht;simp only[E',Nat.blt_eq]at this;exact this
theorem ah8 (W:World)(base:Nat)(args:Array Value)(hl:args.size=Tryz.f4.params.size)(hval:∀(j:Nat) t v,Tryz.f4.params[j]?=some t→args[j]?=some v→Value.okWide Tryz.prog W .any base t v) :
  ∃xs,(∀(g:Gh) (tk:List Nat) (w:World),aI g tk w xs args.toList)∧aX Pz 4 xs (.bool true):=by
 rw[Kb]at hl;obtain⟨l⟩:=args;obtain⟨v0,v1,rfl⟩:∃v0 v1,l=[v0,v1]:=by
  match l,hl with
  | [v0,v1],_=>exact⟨_,_,rfl⟩
 obtain⟨p0,h0,r0⟩:=CN (hval 0 31 v0 (by rw[Kb];rfl) rfl);obtain⟨p1,h1,r1⟩:=wT (k := .i64) DQ (hval 1 3 v1 (by rw[Kb];rfl) rfl);exact⟨[Pos.av p0,.int .i64 p1],fun g tk w=>.cons (r0 _ _ _) (.cons (r1 _ _ _) .nil),aor p0 p1 h0 h1⟩
theorem Iz (os:Os):laidMet Tryz.prog Rows.calmValuesRow.laid ((iP os).forCall (fun _ _=>0) ⟨#[],#[jw,.int .i64 0],[]⟩).memory :=
 laidMet_of_run' 12 (by kernel_rfl) (by kernel_rfl)
theorem aaY (os:Os){H:Type}(enc:TypeId×Value→H):∃places,DataW.whole enc Tryz.prog ((iP os).forCall (fun _ _=>0) ⟨#[],#[jw,.int .i64 0],[]⟩).memory Tryz.f4.params.toList Rows.calmValuesSpec.vars false (#[jw,.int .i64 0]:Array Value).toList 12=some ([BD,(.lit (.int .i64 0))],[],places) :=
 ⟨[],by kernel_rfl⟩
theorem Su (os:Os)(started:os.Started)(H:Type)(enc:TypeId×Value→H)(F:Stop.Interp) :
  ReturnsInHanded {} Tryz.checked os 4 .any ((OpenSpec.ofChange Rows.calmValuesSpec).preRow enc Tryz.prog Tryz.f4 Rows.calmValuesRow.domain false Rows.calmValuesRow.laid) (((OpenSpec.ofChange Rows.calmValuesSpec).at F).post enc Tryz.prog Tryz.f4 false true false false):=by
 obtain⟨places,hx⟩:=aaY os enc
 refine returnsInHanded_of_row (C:=Tryz.checked) (s:=OpenSpec.ofChange Rows.calmValuesSpec) Xv started (by kernel_rfl) Tryz.func4
  (witness_row_at (enc:=enc) (C:=Tryz.checked) false (iP os) #[jw,.int .i64 0] rfl (by kernel_rfl) (by kernel_rfl) (by kernel_rfl)
   (OpenSpec.preRow_of_cond 12 hx (by kernel_rfl) (fun k hk=>by cases hk) (by kernel_rfl) (Iz os))) ?_
 intro W base args ds gs before hval hW _ _ _ hL _ _
 exact sC (f:=4) (fn:=Tryz.f4) (s:=Rows.calmValuesSpec) alP rfl rd4 (fun H ds hds=>by
  rw[Kb]at hds
  match ds,hds with
  | [d0,d1],_=>rfl) ah8 H enc W base args ds gs before hval hW (sE hL)
theorem cr {a b:Bool}(h1:a=true)(h2:b=true):(a&&b)=true:=by rw[h1,h2];rfl
theorem aqz:(Rows.calmValuesRow.wf (OpenSpec.ofChange (OpenSpec.ofChange Rows.calmValuesSpec).bare))=true:=by kernel_rfl
theorem aoM:(laidOutB Tryz.prog)=true:=by kernel_rfl
theorem aqF:(mapsRowed Tryz.prog)=true:=by kernel_rfl
theorem aou:(Tryz.f4.params.all (Tryz.prog.readableRec ·))=true:=by kernel_rfl
theorem aua:(namedTie Tryz.prog Rows.calmValuesRow.named (OpenSpec.ofChange Rows.calmValuesSpec).bare.vars)=true:=by kernel_rfl
theorem asZ:((Rows.calmValuesRow.stops==[]))=true:=by kernel_rfl
theorem ami:((Tryz.prog.stops==[]))=true:=by kernel_rfl
theorem aqD:((Rows.calmValuesRow.knobs==[]))=true:=by kernel_rfl
theorem aoQ:((Tryz.prog.stopKnobs==[]))=true:=by kernel_rfl
theorem apH:((Rows.calmValuesRow.inPlace==Tryz.prog.inPlace 4))=true:=by kernel_rfl
theorem ahL:((Rows.calmValuesRow.unfollowed==Tryz.prog.unfollowed 4))=true:=by kernel_rfl
theorem adS:((Rows.calmValuesRow.recurses==Tryz.prog.recurses 4))=true:=by kernel_rfl
theorem ahq:((Rows.calmValuesRow.named==Tryz.prog.varsNamed 4))=true:=by kernel_rfl
theorem ahg:((Rows.calmValuesRow.maps==(Tryz.f4.params.toList++(OpenSpec.ofChange Rows.calmValuesSpec).bare.plain.varTypes Tryz.prog).any (Tryz.prog.mapsRec ·)))=true:=by kernel_rfl
theorem agA:((Rows.calmValuesRow.ifaces==(Tryz.f4.params.toList++(OpenSpec.ofChange Rows.calmValuesSpec).bare.plain.varTypes Tryz.prog).any (Tryz.prog.ifacesRec ·)))=true:=by kernel_rfl
theorem aju:((Rows.calmValuesRow.mapsOut==Tryz.prog.mapsAmong Tryz.f4.resultTypes.toList))=true:=by kernel_rfl
theorem ahW:((Rows.calmValuesRow.loops==(Tryz.f4.params.toList++(OpenSpec.ofChange Rows.calmValuesSpec).bare.plain.varTypes Tryz.prog).any (Tryz.prog.loopsFrom ·)))=true:=by kernel_rfl
theorem ajP:((Rows.calmValuesRow.wideKeys==(Tryz.f4.params.toList++(OpenSpec.ofChange Rows.calmValuesSpec).bare.plain.varTypes Tryz.prog++Tryz.f4.resultTypes.toList).any (Tryz.prog.wideKeysFrom ·)))=true:=by kernel_rfl
theorem afM:((OpenSpec.ofChange Rows.calmValuesSpec).bare.vars.all (Tryz.prog.varReadable ·))=true:=by kernel_rfl
theorem ah5:(Tryz.f4.resultTypes.all (fun t=>Tryz.prog.readableRec t&&decide (t<Tryz.prog.types.size)))=true:=by kernel_rfl
theorem agq:((Rows.calmValuesRow.ifacesOut==Tryz.f4.resultTypes.toList.any (Tryz.prog.ifacesRec ·)))=true:=by kernel_rfl
theorem agW:((Rows.calmValuesRow.loopsOut==Tryz.f4.resultTypes.toList.any (Tryz.prog.loopsFrom ·)))=true:=by kernel_rfl
theorem ahc:((Rows.calmValuesRow.plainKeys==Tryz.prog.plainKeys))=true:=by kernel_rfl
theorem ahI:(Rows.calmValuesRow.shortTexts.isNone)=true:=by kernel_rfl
theorem aer:(Tryz.prog.stopsHeard)=true:=by kernel_rfl
theorem aiE:(Tryz.prog.mayEnter)=true:=by kernel_rfl
theorem adC:((Rows.calmValuesRow.lifted==Tryz.prog.liftsFinal))=true:=by kernel_rfl
theorem af9:((Tryz.prog.make==some Rows.calmValuesRow.make))=true:=by kernel_rfl
theorem ahN:((Rows.calmValuesRow.kinds==(if Rows.calmValuesRow.domain.isEmpty then[]else Tryz.f4.params.toList.map fun t=>match Tryz.prog.underlying t with|some (.int k)=>some k|_=>none)))=true:=by kernel_rfl
theorem aes:((Rows.calmValuesRow.pinned==Rows.calmValuesRow.pinnedBy))=true:=by kernel_rfl
theorem acM:((Rows.calmValuesRow.veiled==(Tryz.f4.params.toList++(OpenSpec.ofChange Rows.calmValuesSpec).bare.plain.varTypes Tryz.prog++Tryz.f4.resultTypes.toList).any (Tryz.prog.veiledRec ·)))=true:=by kernel_rfl
theorem aie:(Rows.calmValuesRow.veiledFits Tryz.prog Tryz.f4.params.toList (Tryz.f4.params.toList++(OpenSpec.ofChange Rows.calmValuesSpec).bare.plain.varTypes Tryz.prog++Tryz.f4.resultTypes.toList))=true:=by kernel_rfl
theorem Uh:joinedFacts Tryz.prog 4 Tryz.f4 (OpenSpec.ofChange Rows.calmValuesSpec).bare Rows.calmValuesRow=true:=(cr (cr (cr (cr (cr (cr (cr (cr (cr (cr (cr (cr (cr (cr (cr (cr (cr (cr (cr (cr (cr (cr (cr (cr (cr (cr (cr (cr (cr (cr (cr aqz aoM) aqF) aou) aua) asZ) ami) aqD) aoQ) apH) ahL) adS) ahq) ahg) agA) aju) ahW) ajP) afM) ah5) agq) agW) ahc) ahI) aer) aiE) adC) af9) ahN) aes) acM) aie)
theorem NP:Tryz.pinned.checked.prog.funcNamed Rows.calmValuesRow.func=some 4:=by kernel_rfl
theorem ah3:Rows.CalmValuesSaid :=
 OpenClaim.holds_of_cond 4 Tryz.f4 rfl rfl rfl rfl rfl rfl rfl ⟨rfl,rfl,rfl,rfl,rfl⟩ rfl rfl rfl rfl rfl NP Tryz.func4 Uh
  (of_decide_eq_true (by kernel_rfl)) (by unfold Func.isWrapper;first|(rw[if_pos (by decide +kernel)];kernel_rfl)|(rw[if_neg (by decide +kernel)];exact⟨rfl,rfl⟩))
  (fun os started H enc _ F=>by rw[OpenClaim.pre_eq_preRow];exact Su os started H enc F)
theorem YX (f:FuncId)(fn:Func)(hf:Tryz.pinned.checked.prog.funcNamed Rows.calmValuesRow.func=some f)(hfn:Tryz.pinned.checked.prog.funcs[f]?=some fn) :
  true=Tryz.pinned.checked.prog.looks []∧∀(j:Nat) t,fn.params[j]?=some t→Tryz.pinned.checked.prog.wantsStandIn t=false:=by
 obtain rfl:f=4:=Option.some.inj (NP.symm.trans hf) |>.symm;obtain rfl:fn=Tryz.f4:=(Option.some.inj (Tryz.func4.symm.trans hfn)).symm;refine⟨by kernel_rfl,fun j t ht=>?_⟩;rw[Kb]at ht;have h:([31,3]:List TypeId).all (fun t => !Tryz.prog.wantsStandIn t)=true:=by kernel_rfl
 have hm:t∈([31,3]:List TypeId):=by simpa using Array.mem_of_getElem? ht
 have hw:Tryz.prog.wantsStandIn t=false:=by simpa using List.all_eq_true.1 h t hm
 exact hw
theorem card4:Rows.CalmValuesCardSaid :=
 Claim7.holds_tied_plain_at .later [] _ _ _ _ ah3 (fun _ h=>by cases h) (by kernel_rfl) (fun _ h=>by cases h) calmValues_row_tie rfl ⟨rfl,rfl⟩ (by kernel_rfl) rfl YX (by kernel_rfl)
end Go.Proofs.YtgbndomcmihfkaaGreatDoor
