/- CalmTakes: of any position,the moves that take are told as the document's answer tells them,each once,in any order. No conditions. -/
import Derived.Test.YtgbndomcmihfkaaGreatDoorC8
import Derived.JoinedCond
set_option linter.unusedSectionVars false
set_option linter.unusedVariables false
set_option linter.unusedSimpArgs false
set_option linter.unnecessarySimpa false
set_option maxRecDepth 100000
set_option maxHeartbeats 4000000
noncomputable section
namespace Kz
open Go Go.RowKit Go.Proofs
set_option maxRecDepth 100000
theorem law5 (p:Pos) (hp:aO p):bJ Pz 5 [Pos.av p] (.bool true):=by
 have t:=MA hp
 have h:=P5 p t.1
 rw [t.2] at h
 exact h.1
end Kz
namespace Go.Proofs.YtgbndomcmihfkaaGreatDoor
open Kz Go Go.RowKit Go.WideShapes Go.ChangeShapes Go.ChangeAt Go.Proofs
set_option maxRecDepth 100000
theorem par5:Tryz.f5.params=#[31]:=by kernel_rfl
theorem res5:Tryz.f5.resultTypes=#[4]:=by kernel_rfl
theorem rd5:∀ t∈Tryz.f5.params.toList,Tryz.prog.readableRec t=true∧t<Tryz.prog.types.size:=by
 rw [par5]
 have h:([31]:List TypeId).all (fun t=>Tryz.prog.readableRec t&&Nat.blt t Tryz.prog.types.size)=true:=by kernel_rfl
 intro t ht
 have:=List.all_eq_true.1 h t ht
 simp only [E',Nat.blt_eq] at this
 exact this
theorem open5 (W:World) (base:Nat) (args:Array Value) (hl:args.size=Tryz.f5.params.size) (hval:∀ (j:Nat) t v,Tryz.f5.params[j]?=some t→args[j]?=some v→Value.okWide Tryz.prog W .any base t v) :
  ∃ xs,(∀ (g:Gh) (tk:List Nat) (w:World),aA g tk w xs args.toList)∧bJ Pz 5 xs (.bool true):=by
 rw [par5] at hl
 obtain ⟨l⟩:=args
 obtain ⟨v0,rfl⟩:∃ v0,l=[v0]:=by
  match l,hl with
  | [v0],_=>exact ⟨_,rfl⟩
 obtain ⟨p0,h0,r0⟩:=pos_open (hval 0 31 v0 (by rw [par5];rfl) rfl)
 exact ⟨[Pos.av p0],fun g tk w=>.cons (r0 _ _ _) .nil,law5 p0 h0⟩
theorem laid_met5 (os:Os):laidMet Tryz.prog Rows.calmTakesRow.laid ((laidWorld os).forCall (fun _ _=>0) ⟨#[],#[zeroPos],[]⟩).memory :=
 laidMet_of_run' 12 (by kernel_rfl) (by kernel_rfl)
theorem reads5 (os:Os) {H:Type} (enc:TypeId×Value→H):∃ places,DataW.whole enc Tryz.prog ((laidWorld os).forCall (fun _ _=>0) ⟨#[],#[zeroPos],[]⟩).memory Tryz.f5.params.toList Rows.calmTakesSpec.vars false (#[zeroPos]:Array Value).toList 12=some ([zeroData],[],places) :=
 ⟨[],by kernel_rfl⟩
theorem lifted5 (os:Os) (started:os.Started) (H:Type) (enc:TypeId×Value→H) (F:Stop.Interp) :
  ReturnsInHanded {} Tryz.checked os 5 .any ((OpenSpec.ofChange Rows.calmTakesSpec).preRow enc Tryz.prog Tryz.f5 Rows.calmTakesRow.domain false Rows.calmTakesRow.laid) (((OpenSpec.ofChange Rows.calmTakesSpec).at F).post enc Tryz.prog Tryz.f5 false true false false):=by
 obtain ⟨places,hx⟩:=reads5 os enc
 refine returnsInHanded_of_row (C:=Tryz.checked) (s:=OpenSpec.ofChange Rows.calmTakesSpec) own_z started (by kernel_rfl) Tryz.func5
  (witness_row_at (enc:=enc) (C:=Tryz.checked) false (laidWorld os) #[zeroPos] rfl (by kernel_rfl) (by kernel_rfl) (by kernel_rfl)
   (OpenSpec.preRow_of_cond 12 hx (by kernel_rfl) (fun k hk=>by cases hk) (by kernel_rfl) (laid_met5 os))) ?_
 intro W base args ds gs before hval hW _ _ _ hL _ _
 exact contract_of (f:=5) (fn:=Tryz.f5) (s:=Rows.calmTakesSpec) res5 rfl rd5 (fun H ds hds=>by
  rw [par5] at hds
  match ds,hds with
  | [d0],_=>rfl) open5 H enc W base args ds gs before hval hW (globOk_laid hL)
theorem and2 {a b:Bool} (h1:a=true) (h2:b=true):(a&&b)=true:=by rw [h1,h2];rfl
theorem j5_0:(Rows.calmTakesRow.wf (OpenSpec.ofChange (OpenSpec.ofChange Rows.calmTakesSpec).bare))=true:=by kernel_rfl
theorem j5_1:(laidOutB Tryz.prog)=true:=by kernel_rfl
theorem j5_2:(mapsRowed Tryz.prog)=true:=by kernel_rfl
theorem j5_3:(Tryz.f5.params.all (Tryz.prog.readableRec ·))=true:=by kernel_rfl
theorem j5_4:(namedTie Tryz.prog Rows.calmTakesRow.named (OpenSpec.ofChange Rows.calmTakesSpec).bare.vars)=true:=by kernel_rfl
theorem j5_5:((Rows.calmTakesRow.stops==[]))=true:=by kernel_rfl
theorem j5_6:((Tryz.prog.stops==[]))=true:=by kernel_rfl
theorem j5_7:((Rows.calmTakesRow.knobs==[]))=true:=by kernel_rfl
theorem j5_8:((Tryz.prog.stopKnobs==[]))=true:=by kernel_rfl
theorem j5_9:((Rows.calmTakesRow.inPlace==Tryz.prog.inPlace 5))=true:=by kernel_rfl
theorem j5_10:((Rows.calmTakesRow.unfollowed==Tryz.prog.unfollowed 5))=true:=by kernel_rfl
theorem j5_11:((Rows.calmTakesRow.recurses==Tryz.prog.recurses 5))=true:=by kernel_rfl
theorem j5_12:((Rows.calmTakesRow.named==Tryz.prog.varsNamed 5))=true:=by kernel_rfl
theorem j5_13:((Rows.calmTakesRow.maps==(Tryz.f5.params.toList++(OpenSpec.ofChange Rows.calmTakesSpec).bare.plain.varTypes Tryz.prog).any (Tryz.prog.mapsRec ·)))=true:=by kernel_rfl
theorem j5_14:((Rows.calmTakesRow.ifaces==(Tryz.f5.params.toList++(OpenSpec.ofChange Rows.calmTakesSpec).bare.plain.varTypes Tryz.prog).any (Tryz.prog.ifacesRec ·)))=true:=by kernel_rfl
theorem j5_15:((Rows.calmTakesRow.mapsOut==Tryz.prog.mapsAmong Tryz.f5.resultTypes.toList))=true:=by kernel_rfl
theorem j5_16:((Rows.calmTakesRow.loops==(Tryz.f5.params.toList++(OpenSpec.ofChange Rows.calmTakesSpec).bare.plain.varTypes Tryz.prog).any (Tryz.prog.loopsFrom ·)))=true:=by kernel_rfl
theorem j5_17:((Rows.calmTakesRow.wideKeys==(Tryz.f5.params.toList++(OpenSpec.ofChange Rows.calmTakesSpec).bare.plain.varTypes Tryz.prog++Tryz.f5.resultTypes.toList).any (Tryz.prog.wideKeysFrom ·)))=true:=by kernel_rfl
theorem j5_18:((OpenSpec.ofChange Rows.calmTakesSpec).bare.vars.all (Tryz.prog.varReadable ·))=true:=by kernel_rfl
theorem j5_19:(Tryz.f5.resultTypes.all (fun t=>Tryz.prog.readableRec t&&decide (t<Tryz.prog.types.size)))=true:=by kernel_rfl
theorem j5_20:((Rows.calmTakesRow.ifacesOut==Tryz.f5.resultTypes.toList.any (Tryz.prog.ifacesRec ·)))=true:=by kernel_rfl
theorem j5_21:((Rows.calmTakesRow.loopsOut==Tryz.f5.resultTypes.toList.any (Tryz.prog.loopsFrom ·)))=true:=by kernel_rfl
theorem j5_22:((Rows.calmTakesRow.plainKeys==Tryz.prog.plainKeys))=true:=by kernel_rfl
theorem j5_23:(Rows.calmTakesRow.shortTexts.isNone)=true:=by kernel_rfl
theorem j5_24:(Tryz.prog.stopsHeard)=true:=by kernel_rfl
theorem j5_25:(Tryz.prog.mayEnter)=true:=by kernel_rfl
theorem j5_26:((Rows.calmTakesRow.lifted==Tryz.prog.liftsFinal))=true:=by kernel_rfl
theorem j5_27:((Tryz.prog.make==some Rows.calmTakesRow.make))=true:=by kernel_rfl
theorem j5_28:((Rows.calmTakesRow.kinds==(if Rows.calmTakesRow.domain.isEmpty then [] else Tryz.f5.params.toList.map fun t=>match Tryz.prog.underlying t with | some (.int k)=>some k | _=>none)))=true:=by kernel_rfl
theorem j5_29:((Rows.calmTakesRow.pinned==Rows.calmTakesRow.pinnedBy))=true:=by kernel_rfl
theorem j5_30:((Rows.calmTakesRow.veiled==(Tryz.f5.params.toList++(OpenSpec.ofChange Rows.calmTakesSpec).bare.plain.varTypes Tryz.prog++Tryz.f5.resultTypes.toList).any (Tryz.prog.veiledRec ·)))=true:=by kernel_rfl
theorem j5_31:(Rows.calmTakesRow.veiledFits Tryz.prog Tryz.f5.params.toList (Tryz.f5.params.toList++(OpenSpec.ofChange Rows.calmTakesSpec).bare.plain.varTypes Tryz.prog++Tryz.f5.resultTypes.toList))=true:=by kernel_rfl
theorem joined5:joinedFacts Tryz.prog 5 Tryz.f5 (OpenSpec.ofChange Rows.calmTakesSpec).bare Rows.calmTakesRow=true:=(and2 (and2 (and2 (and2 (and2 (and2 (and2 (and2 (and2 (and2 (and2 (and2 (and2 (and2 (and2 (and2 (and2 (and2 (and2 (and2 (and2 (and2 (and2 (and2 (and2 (and2 (and2 (and2 (and2 (and2 (and2 j5_0 j5_1) j5_2) j5_3) j5_4) j5_5) j5_6) j5_7) j5_8) j5_9) j5_10) j5_11) j5_12) j5_13) j5_14) j5_15) j5_16) j5_17) j5_18) j5_19) j5_20) j5_21) j5_22) j5_23) j5_24) j5_25) j5_26) j5_27) j5_28) j5_29) j5_30) j5_31)
theorem named5:Tryz.pinned.checked.prog.funcNamed Rows.calmTakesRow.func=some 5:=by kernel_rfl
theorem said5:Rows.CalmTakesSaid :=
 OpenClaim.holds_of_cond 5 Tryz.f5 rfl rfl rfl rfl rfl rfl rfl ⟨rfl,rfl,rfl,rfl,rfl⟩ rfl rfl rfl rfl rfl named5 Tryz.func5 joined5
  (of_decide_eq_true (by kernel_rfl)) (by unfold Func.isWrapper;first | (rw [if_pos (by decide +kernel)];kernel_rfl) | (rw [if_neg (by decide +kernel)];exact ⟨rfl,rfl⟩))
  (fun os started H enc _ F=>by rw [OpenClaim.pre_eq_preRow];exact lifted5 os started H enc F)
theorem plain5 (f:FuncId) (fn:Func) (hf:Tryz.pinned.checked.prog.funcNamed Rows.calmTakesRow.func=some f) (hfn:Tryz.pinned.checked.prog.funcs[f]?=some fn) :
  true=Tryz.pinned.checked.prog.looks []∧∀ (j:Nat) t,fn.params[j]?=some t→Tryz.pinned.checked.prog.wantsStandIn t=false:=by
 obtain rfl:f=5:=Option.some.inj (named5.symm.trans hf) |>.symm
 obtain rfl:fn=Tryz.f5:=(Option.some.inj (Tryz.func5.symm.trans hfn)).symm
 refine ⟨by kernel_rfl,fun j t ht=>?_⟩
 rw [par5] at ht
 have h:([31]:List TypeId).all (fun t => !Tryz.prog.wantsStandIn t)=true:=by kernel_rfl
 have hm:t∈([31]:List TypeId):=by simpa using Array.mem_of_getElem? ht
 have hw:Tryz.prog.wantsStandIn t=false:=by simpa using List.all_eq_true.1 h t hm
 exact hw
theorem card5:Rows.CalmTakesCardSaid :=
 Claim7.holds_tied_plain_at .later [] _ _ _ _ said5 (fun _ h=>by cases h) (by kernel_rfl) (fun _ h=>by cases h) calmTakes_row_tie rfl ⟨rfl,rfl⟩ (by kernel_rfl) rfl plain5 (by kernel_rfl)
end Go.Proofs.YtgbndomcmihfkaaGreatDoor
end
