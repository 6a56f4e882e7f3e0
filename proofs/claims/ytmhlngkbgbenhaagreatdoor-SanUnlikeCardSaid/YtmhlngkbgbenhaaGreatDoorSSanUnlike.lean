/- SanUnlike: at any position with at most 100 moves that may be,they have unlike texts,and All tells them in order. No conditions. -/
import Derived.Test.YtmhlngkbgbenhaaGreatDoorS8
import Derived.JoinedCond
set_option linter.unusedSectionVars false
set_option linter.unusedVariables false
set_option linter.unusedSimpArgs false
set_option linter.unnecessarySimpa false
section
namespace Kz
open Go Go.RowKit Go.Proofs
set_option maxRecDepth 100000
theorem law9 (p:Pos) (hp:aR p):bR Pz 9 [Pos.av p] (.bool true):=by
  have t:=FF hp
  have h:=P9 p t.1
  rw [t.2] at h
  exact h.1
end Kz
namespace Go.Proofs.YtmhlngkbgbenhaaGreatDoor
open Kz Go Go.RowKit Go.WideShapes Go.ChangeShapes Go.ChangeAt Go.Proofs
set_option maxRecDepth 100000
theorem par9:Tryz.f9.params=#[31]:=by kernel_rfl
theorem res9:Tryz.f9.resultTypes=#[4]:=by kernel_rfl
theorem rd9:∀ t ∈ Tryz.f9.params.toList,Tryz.prog.readableRec t=true∧t < Tryz.prog.types.size:=by
  rw [par9]
  have h:([31]:List TypeId).all (fun t=>Tryz.prog.readableRec t&&Nat.blt t Tryz.prog.types.size)=true:=by kernel_rfl
  intro t ht
  have:=List.all_eq_true.1 h t ht
  simp only [Bool.and_eq_true,Nat.blt_eq] at this
  exact this
theorem open9 (W:World) (base:Nat) (args:Array Value) (hl:args.size=Tryz.f9.params.size) (hval:∀ (j:Nat) t v,Tryz.f9.params[j]?=some t→args[j]?=some v→Value.okWide Tryz.prog W .any base t v) :
    ∃ xs,(∀ (g:Gh) (tk:List Nat) (w:World),aE g tk w xs args.toList)∧bR Pz 9 xs (.bool true):=by
  rw [par9] at hl
  obtain ⟨l⟩:=args
  obtain ⟨v0,rfl⟩:∃ v0,l=[v0]:=by
    match l,hl with
    | [v0],_=>exact ⟨_,rfl⟩
  obtain ⟨p0,h0,r0⟩:=pos_open (hval 0 31 v0 (by rw [par9]; rfl) rfl)
  exact ⟨[Pos.av p0],fun g tk w=>.cons (r0 _ _ _) .nil,law9 p0 h0⟩
theorem laid_met9 (os:Os):laidMet Tryz.prog Rows.sanUnlikeRow.laid ((laidWorld os).forCall (fun _ _=>0) ⟨#[],#[zeroPos],[]⟩).memory :=
  laid_met_all os _
theorem reads9 (os:Os) {H:Type} (enc:TypeId×Value→H):∃ places,DataW.whole enc Tryz.prog ((laidWorld os).forCall (fun _ _=>0) ⟨#[],#[zeroPos],[]⟩).memory Tryz.f9.params.toList Rows.sanUnlikeSpec.vars false (#[zeroPos]:Array Value).toList 12=some ([zeroData],[],places) :=
  ⟨[],by kernel_rfl⟩
theorem lifted9 (os:Os) (started:os.Started) (H:Type) (enc:TypeId×Value→H) (F:Stop.Interp) :
    ReturnsInHanded {} Tryz.checked os 9 .any ((OpenSpec.ofChange Rows.sanUnlikeSpec).preRow enc Tryz.prog Tryz.f9 Rows.sanUnlikeRow.domain false Rows.sanUnlikeRow.laid) (((OpenSpec.ofChange Rows.sanUnlikeSpec).at F).post enc Tryz.prog Tryz.f9 false true false false):=by
  obtain ⟨places,hx⟩:=reads9 os enc
  refine returnsInHanded_of_row (C:=Tryz.checked) (s:=OpenSpec.ofChange Rows.sanUnlikeSpec) own_z started (by kernel_rfl) Tryz.func9
    (witness_row_atRef (enc:=enc) (C:=Tryz.checked) false (laidWorld os) #[zeroPos] rfl (by kernel_rfl) (by kernel_rfl) (by kernel_rfl)
      (OpenSpec.preRow_of_cond 12 hx (by kernel_rfl) (fun k hk=>by cases hk) (by kernel_rfl) (laid_met9 os))) ?_
  intro W base args ds gs before hval hW _ _ _ hL hS _
  exact contract_of (f:=9) (fn:=Tryz.f9) (s:=Rows.sanUnlikeSpec) res9 rfl rd9 (fun H ds hds=>by
    rw [par9] at hds
    match ds,hds with
    | [d0],_=>rfl) open9 H enc W base args ds gs before hval hW (globOk_laid hL hS)
theorem and2 {a b:Bool} (h1:a=true) (h2:b=true):(a&&b)=true:=by rw [h1,h2]; rfl
theorem j9_0:(Rows.sanUnlikeRow.wf (OpenSpec.ofChange (OpenSpec.ofChange Rows.sanUnlikeSpec).bare))=true:=by kernel_rfl
theorem j9_1:(laidOutB Tryz.prog)=true:=by kernel_rfl
theorem j9_2:(mapsRowed Tryz.prog)=true:=by kernel_rfl
theorem j9_3:(Tryz.f9.params.all (Tryz.prog.readableRec ·))=true:=by kernel_rfl
theorem j9_4:(namedTie Tryz.prog Rows.sanUnlikeRow.named (OpenSpec.ofChange Rows.sanUnlikeSpec).bare.vars)=true:=by kernel_rfl
theorem j9_5:((Rows.sanUnlikeRow.stops==[]))=true:=by kernel_rfl
theorem j9_6:((Tryz.prog.stops==[]))=true:=by kernel_rfl
theorem j9_7:((Rows.sanUnlikeRow.knobs==[]))=true:=by kernel_rfl
theorem j9_8:((Tryz.prog.stopKnobs==[]))=true:=by kernel_rfl
theorem j9_9:((Rows.sanUnlikeRow.inPlace==Tryz.prog.inPlace 9))=true:=by kernel_rfl
theorem j9_10:((Rows.sanUnlikeRow.unfollowed==Tryz.prog.unfollowed 9))=true:=by kernel_rfl
theorem j9_11:((Rows.sanUnlikeRow.recurses==Tryz.prog.recurses 9))=true:=by kernel_rfl
theorem j9_12:((Rows.sanUnlikeRow.named==Tryz.prog.varsNamed 9))=true:=by kernel_rfl
theorem j9_13:((Rows.sanUnlikeRow.maps==(Tryz.f9.params.toList++(OpenSpec.ofChange Rows.sanUnlikeSpec).bare.plain.varTypes Tryz.prog).any (Tryz.prog.mapsRec ·)))=true:=by kernel_rfl
theorem j9_14:((Rows.sanUnlikeRow.ifaces==(Tryz.f9.params.toList++(OpenSpec.ofChange Rows.sanUnlikeSpec).bare.plain.varTypes Tryz.prog).any (Tryz.prog.ifacesRec ·)))=true:=by kernel_rfl
theorem j9_15:((Rows.sanUnlikeRow.mapsOut==Tryz.prog.mapsAmong Tryz.f9.resultTypes.toList))=true:=by kernel_rfl
theorem j9_16:((Rows.sanUnlikeRow.loops==(Tryz.f9.params.toList++(OpenSpec.ofChange Rows.sanUnlikeSpec).bare.plain.varTypes Tryz.prog).any (Tryz.prog.loopsFrom ·)))=true:=by kernel_rfl
theorem j9_17:((Rows.sanUnlikeRow.wideKeys==(Tryz.f9.params.toList++(OpenSpec.ofChange Rows.sanUnlikeSpec).bare.plain.varTypes Tryz.prog++Tryz.f9.resultTypes.toList).any (Tryz.prog.wideKeysFrom ·)))=true:=by kernel_rfl
theorem j9_18:((OpenSpec.ofChange Rows.sanUnlikeSpec).bare.vars.all (Tryz.prog.varReadable ·))=true:=by kernel_rfl
theorem j9_19:(Tryz.f9.resultTypes.all (fun t=>Tryz.prog.readableRec t&&decide (t < Tryz.prog.types.size)))=true:=by kernel_rfl
theorem j9_20:((Rows.sanUnlikeRow.ifacesOut==Tryz.f9.resultTypes.toList.any (Tryz.prog.ifacesRec ·)))=true:=by kernel_rfl
theorem j9_21:((Rows.sanUnlikeRow.loopsOut==Tryz.f9.resultTypes.toList.any (Tryz.prog.loopsFrom ·)))=true:=by kernel_rfl
theorem j9_22:((Rows.sanUnlikeRow.plainKeys==Tryz.prog.plainKeys))=true:=by kernel_rfl
theorem j9_23:(Rows.sanUnlikeRow.shortTexts.isNone)=true:=by kernel_rfl
theorem j9_24:(Tryz.prog.stopsHeard)=true:=by kernel_rfl
theorem j9_25:(Tryz.prog.mayEnter)=true:=by kernel_rfl
theorem j9_26:((Rows.sanUnlikeRow.lifted==Tryz.prog.liftsFinal))=true:=by kernel_rfl
theorem j9_27:((Tryz.prog.make==some Rows.sanUnlikeRow.make))=true:=by kernel_rfl
theorem j9_28:((Rows.sanUnlikeRow.kinds==(if Rows.sanUnlikeRow.domain.isEmpty then [] else Tryz.f9.params.toList.map fun t=>match Tryz.prog.underlying t with | some (.int k)=>some k | _=>none)))=true:=by kernel_rfl
theorem j9_29:((Rows.sanUnlikeRow.pinned==Rows.sanUnlikeRow.pinnedBy))=true:=by kernel_rfl
theorem j9_30:((Rows.sanUnlikeRow.veiled==(Tryz.f9.params.toList++(OpenSpec.ofChange Rows.sanUnlikeSpec).bare.plain.varTypes Tryz.prog++Tryz.f9.resultTypes.toList).any (Tryz.prog.veiledRec ·)))=true:=by kernel_rfl
theorem j9_31:(Rows.sanUnlikeRow.veiledFits Tryz.prog Tryz.f9.params.toList (Tryz.f9.params.toList++(OpenSpec.ofChange Rows.sanUnlikeSpec).bare.plain.varTypes Tryz.prog++Tryz.f9.resultTypes.toList))=true:=by kernel_rfl
theorem joined9:joinedFacts Tryz.prog 9 Tryz.f9 (OpenSpec.ofChange Rows.sanUnlikeSpec).bare Rows.sanUnlikeRow=true:=(and2 (and2 (and2 (and2 (and2 (and2 (and2 (and2 (and2 (and2 (and2 (and2 (and2 (and2 (and2 (and2 (and2 (and2 (and2 (and2 (and2 (and2 (and2 (and2 (and2 (and2 (and2 (and2 (and2 (and2 (and2 j9_0 j9_1) j9_2) j9_3) j9_4) j9_5) j9_6) j9_7) j9_8) j9_9) j9_10) j9_11) j9_12) j9_13) j9_14) j9_15) j9_16) j9_17) j9_18) j9_19) j9_20) j9_21) j9_22) j9_23) j9_24) j9_25) j9_26) j9_27) j9_28) j9_29) j9_30) j9_31)
theorem named9:Tryz.pinned.checked.prog.funcNamed Rows.sanUnlikeRow.func=some 9:=by kernel_rfl
theorem said9:Rows.SanUnlikeSaid :=
  OpenClaim.holds_of_cond 9 Tryz.f9 rfl rfl rfl rfl rfl rfl rfl ⟨rfl,rfl,rfl,rfl,rfl⟩ rfl rfl rfl rfl rfl named9 Tryz.func9 joined9
    (of_decide_eq_true (by kernel_rfl)) (by unfold Func.isWrapper; first | (rw [if_pos (by decide +kernel)]; kernel_rfl) | (rw [if_neg (by decide +kernel)]; exact ⟨rfl,rfl⟩))
    (fun os started H enc _ F=>by rw [OpenClaim.pre_eq_preRow]; exact lifted9 os started H enc F)
theorem plain9 (f:FuncId) (fn:Func) (hf:Tryz.pinned.checked.prog.funcNamed Rows.sanUnlikeRow.func=some f) (hfn:Tryz.pinned.checked.prog.funcs[f]?=some fn) :
    true=Tryz.pinned.checked.prog.looks []∧∀ (j:Nat) t,fn.params[j]?=some t→Tryz.pinned.checked.prog.wantsStandIn t=false:=by
  obtain rfl:f=9:=Option.some.inj (named9.symm.trans hf) |>.symm
  obtain rfl:fn=Tryz.f9:=(Option.some.inj (Tryz.func9.symm.trans hfn)).symm
  refine ⟨by kernel_rfl,fun j t ht => ?_⟩
  rw [par9] at ht
  have h:([31]:List TypeId).all (fun t => !Tryz.prog.wantsStandIn t)=true:=by kernel_rfl
  have hm:t ∈ ([31]:List TypeId):=by simpa using Array.mem_of_getElem? ht
  have hw:Tryz.prog.wantsStandIn t=false:=by simpa using List.all_eq_true.1 h t hm
  exact hw
theorem card9:Rows.SanUnlikeCardSaid :=
  Claim7.holds_tied_plain_at .later [] _ _ _ _ said9 (fun _ h=>by cases h) (by kernel_rfl) (fun _ h=>by cases h) sanUnlike_row_tie rfl ⟨rfl,rfl⟩ (by kernel_rfl) rfl plain9 (by kernel_rfl)
end Go.Proofs.YtmhlngkbgbenhaaGreatDoor
end
