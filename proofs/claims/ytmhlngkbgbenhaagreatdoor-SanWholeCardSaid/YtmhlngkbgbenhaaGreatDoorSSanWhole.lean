/- SanWhole: at any position a move of a piece that may be made is read as itself from its letter,the square whence it comes and the square to which it goes,with 'x' between them just where it takes,and from no other such text. No conditions. -/
import Derived.Test.YtmhlngkbgbenhaaGreatDoorS8
import Derived.JoinedCond
set_option linter.unusedSectionVars false
set_option linter.unusedVariables false
set_option linter.unusedSimpArgs false
set_option linter.unnecessarySimpa false
section
namespace Kz
open Go Go.RowKit Go.Proofs
set_option maxRecDepth 100000
theorem law6 (p:Pos) (b:Int) (hp:aR p) (_:IntKind.has .i64 b):bR Pz 6 [Pos.av p,.int .i64 b] (.bool true):=by
  have t:=Gm hp b
  have h:=P6 p b t.1
  rw [t.2] at h
  exact h.1
end Kz
namespace Go.Proofs.YtmhlngkbgbenhaaGreatDoor
open Kz Go Go.RowKit Go.WideShapes Go.ChangeShapes Go.ChangeAt Go.Proofs
set_option maxRecDepth 100000
theorem par6:Tryz.f6.params=#[31,3]:=by kernel_rfl
theorem res6:Tryz.f6.resultTypes=#[4]:=by kernel_rfl
theorem rd6:∀ t ∈ Tryz.f6.params.toList,Tryz.prog.readableRec t=true∧t < Tryz.prog.types.size:=by
  rw [par6]
  have h:([31,3]:List TypeId).all (fun t=>Tryz.prog.readableRec t&&Nat.blt t Tryz.prog.types.size)=true:=by kernel_rfl
  intro t ht
  have:=List.all_eq_true.1 h t ht
  simp only [Bool.and_eq_true,Nat.blt_eq] at this
  exact this
theorem open6 (W:World) (base:Nat) (args:Array Value) (hl:args.size=Tryz.f6.params.size) (hval:∀ (j:Nat) t v,Tryz.f6.params[j]?=some t→args[j]?=some v→Value.okWide Tryz.prog W .any base t v) :
    ∃ xs,(∀ (g:Gh) (tk:List Nat) (w:World),aE g tk w xs args.toList)∧bR Pz 6 xs (.bool true):=by
  rw [par6] at hl
  obtain ⟨l⟩:=args
  obtain ⟨v0,v1,rfl⟩:∃ v0 v1,l=[v0,v1]:=by
    match l,hl with
    | [v0,v1],_=>exact ⟨_,_,rfl⟩
  obtain ⟨p0,h0,r0⟩:=pos_open (hval 0 31 v0 (by rw [par6]; rfl) rfl)
  obtain ⟨p1,h1,r1⟩:=int_open (k := .i64) under3 (hval 1 3 v1 (by rw [par6]; rfl) rfl)
  exact ⟨[Pos.av p0,.int .i64 p1],fun g tk w=>.cons (r0 _ _ _) (.cons (r1 _ _ _) .nil),law6 p0 p1 h0 h1⟩
theorem laid_met6 (os:Os):laidMet Tryz.prog Rows.sanWholeRow.laid ((laidWorld os).forCall (fun _ _=>0) ⟨#[],#[zeroPos,.int .i64 0],[]⟩).memory :=
  laid_met_all os _
theorem reads6 (os:Os) {H:Type} (enc:TypeId×Value→H):∃ places,DataW.whole enc Tryz.prog ((laidWorld os).forCall (fun _ _=>0) ⟨#[],#[zeroPos,.int .i64 0],[]⟩).memory Tryz.f6.params.toList Rows.sanWholeSpec.vars false (#[zeroPos,.int .i64 0]:Array Value).toList 12=some ([zeroData,(.lit (.int .i64 0))],[],places) :=
  ⟨[],by kernel_rfl⟩
theorem lifted6 (os:Os) (started:os.Started) (H:Type) (enc:TypeId×Value→H) (F:Stop.Interp) :
    ReturnsInHanded {} Tryz.checked os 6 .any ((OpenSpec.ofChange Rows.sanWholeSpec).preRow enc Tryz.prog Tryz.f6 Rows.sanWholeRow.domain false Rows.sanWholeRow.laid) (((OpenSpec.ofChange Rows.sanWholeSpec).at F).post enc Tryz.prog Tryz.f6 false true false false):=by
  obtain ⟨places,hx⟩:=reads6 os enc
  refine returnsInHanded_of_row (C:=Tryz.checked) (s:=OpenSpec.ofChange Rows.sanWholeSpec) own_z started (by kernel_rfl) Tryz.func6
    (witness_row_atRef (enc:=enc) (C:=Tryz.checked) false (laidWorld os) #[zeroPos,.int .i64 0] rfl (by kernel_rfl) (by kernel_rfl) (by kernel_rfl)
      (OpenSpec.preRow_of_cond 12 hx (by kernel_rfl) (fun k hk=>by cases hk) (by kernel_rfl) (laid_met6 os))) ?_
  intro W base args ds gs before hval hW _ _ _ hL hS _
  exact contract_of (f:=6) (fn:=Tryz.f6) (s:=Rows.sanWholeSpec) res6 rfl rd6 (fun H ds hds=>by
    rw [par6] at hds
    match ds,hds with
    | [d0,d1],_=>rfl) open6 H enc W base args ds gs before hval hW (globOk_laid hL hS)
theorem and2 {a b:Bool} (h1:a=true) (h2:b=true):(a&&b)=true:=by rw [h1,h2]; rfl
theorem j6_0:(Rows.sanWholeRow.wf (OpenSpec.ofChange (OpenSpec.ofChange Rows.sanWholeSpec).bare))=true:=by kernel_rfl
theorem j6_1:(laidOutB Tryz.prog)=true:=by kernel_rfl
theorem j6_2:(mapsRowed Tryz.prog)=true:=by kernel_rfl
theorem j6_3:(Tryz.f6.params.all (Tryz.prog.readableRec ·))=true:=by kernel_rfl
theorem j6_4:(namedTie Tryz.prog Rows.sanWholeRow.named (OpenSpec.ofChange Rows.sanWholeSpec).bare.vars)=true:=by kernel_rfl
theorem j6_5:((Rows.sanWholeRow.stops==[]))=true:=by kernel_rfl
theorem j6_6:((Tryz.prog.stops==[]))=true:=by kernel_rfl
theorem j6_7:((Rows.sanWholeRow.knobs==[]))=true:=by kernel_rfl
theorem j6_8:((Tryz.prog.stopKnobs==[]))=true:=by kernel_rfl
theorem j6_9:((Rows.sanWholeRow.inPlace==Tryz.prog.inPlace 6))=true:=by kernel_rfl
theorem j6_10:((Rows.sanWholeRow.unfollowed==Tryz.prog.unfollowed 6))=true:=by kernel_rfl
theorem j6_11:((Rows.sanWholeRow.recurses==Tryz.prog.recurses 6))=true:=by kernel_rfl
theorem j6_12:((Rows.sanWholeRow.named==Tryz.prog.varsNamed 6))=true:=by kernel_rfl
theorem j6_13:((Rows.sanWholeRow.maps==(Tryz.f6.params.toList++(OpenSpec.ofChange Rows.sanWholeSpec).bare.plain.varTypes Tryz.prog).any (Tryz.prog.mapsRec ·)))=true:=by kernel_rfl
theorem j6_14:((Rows.sanWholeRow.ifaces==(Tryz.f6.params.toList++(OpenSpec.ofChange Rows.sanWholeSpec).bare.plain.varTypes Tryz.prog).any (Tryz.prog.ifacesRec ·)))=true:=by kernel_rfl
theorem j6_15:((Rows.sanWholeRow.mapsOut==Tryz.prog.mapsAmong Tryz.f6.resultTypes.toList))=true:=by kernel_rfl
theorem j6_16:((Rows.sanWholeRow.loops==(Tryz.f6.params.toList++(OpenSpec.ofChange Rows.sanWholeSpec).bare.plain.varTypes Tryz.prog).any (Tryz.prog.loopsFrom ·)))=true:=by kernel_rfl
theorem j6_17:((Rows.sanWholeRow.wideKeys==(Tryz.f6.params.toList++(OpenSpec.ofChange Rows.sanWholeSpec).bare.plain.varTypes Tryz.prog++Tryz.f6.resultTypes.toList).any (Tryz.prog.wideKeysFrom ·)))=true:=by kernel_rfl
theorem j6_18:((OpenSpec.ofChange Rows.sanWholeSpec).bare.vars.all (Tryz.prog.varReadable ·))=true:=by kernel_rfl
theorem j6_19:(Tryz.f6.resultTypes.all (fun t=>Tryz.prog.readableRec t&&decide (t < Tryz.prog.types.size)))=true:=by kernel_rfl
theorem j6_20:((Rows.sanWholeRow.ifacesOut==Tryz.f6.resultTypes.toList.any (Tryz.prog.ifacesRec ·)))=true:=by kernel_rfl
theorem j6_21:((Rows.sanWholeRow.loopsOut==Tryz.f6.resultTypes.toList.any (Tryz.prog.loopsFrom ·)))=true:=by kernel_rfl
theorem j6_22:((Rows.sanWholeRow.plainKeys==Tryz.prog.plainKeys))=true:=by kernel_rfl
theorem j6_23:(Rows.sanWholeRow.shortTexts.isNone)=true:=by kernel_rfl
theorem j6_24:(Tryz.prog.stopsHeard)=true:=by kernel_rfl
theorem j6_25:(Tryz.prog.mayEnter)=true:=by kernel_rfl
theorem j6_26:((Rows.sanWholeRow.lifted==Tryz.prog.liftsFinal))=true:=by kernel_rfl
theorem j6_27:((Tryz.prog.make==some Rows.sanWholeRow.make))=true:=by kernel_rfl
theorem j6_28:((Rows.sanWholeRow.kinds==(if Rows.sanWholeRow.domain.isEmpty then [] else Tryz.f6.params.toList.map fun t=>match Tryz.prog.underlying t with | some (.int k)=>some k | _=>none)))=true:=by kernel_rfl
theorem j6_29:((Rows.sanWholeRow.pinned==Rows.sanWholeRow.pinnedBy))=true:=by kernel_rfl
theorem j6_30:((Rows.sanWholeRow.veiled==(Tryz.f6.params.toList++(OpenSpec.ofChange Rows.sanWholeSpec).bare.plain.varTypes Tryz.prog++Tryz.f6.resultTypes.toList).any (Tryz.prog.veiledRec ·)))=true:=by kernel_rfl
theorem j6_31:(Rows.sanWholeRow.veiledFits Tryz.prog Tryz.f6.params.toList (Tryz.f6.params.toList++(OpenSpec.ofChange Rows.sanWholeSpec).bare.plain.varTypes Tryz.prog++Tryz.f6.resultTypes.toList))=true:=by kernel_rfl
theorem joined6:joinedFacts Tryz.prog 6 Tryz.f6 (OpenSpec.ofChange Rows.sanWholeSpec).bare Rows.sanWholeRow=true:=(and2 (and2 (and2 (and2 (and2 (and2 (and2 (and2 (and2 (and2 (and2 (and2 (and2 (and2 (and2 (and2 (and2 (and2 (and2 (and2 (and2 (and2 (and2 (and2 (and2 (and2 (and2 (and2 (and2 (and2 (and2 j6_0 j6_1) j6_2) j6_3) j6_4) j6_5) j6_6) j6_7) j6_8) j6_9) j6_10) j6_11) j6_12) j6_13) j6_14) j6_15) j6_16) j6_17) j6_18) j6_19) j6_20) j6_21) j6_22) j6_23) j6_24) j6_25) j6_26) j6_27) j6_28) j6_29) j6_30) j6_31)
theorem named6:Tryz.pinned.checked.prog.funcNamed Rows.sanWholeRow.func=some 6:=by kernel_rfl
theorem said6:Rows.SanWholeSaid :=
  OpenClaim.holds_of_cond 6 Tryz.f6 rfl rfl rfl rfl rfl rfl rfl ⟨rfl,rfl,rfl,rfl,rfl⟩ rfl rfl rfl rfl rfl named6 Tryz.func6 joined6
    (of_decide_eq_true (by kernel_rfl)) (by unfold Func.isWrapper; first | (rw [if_pos (by decide +kernel)]; kernel_rfl) | (rw [if_neg (by decide +kernel)]; exact ⟨rfl,rfl⟩))
    (fun os started H enc _ F=>by rw [OpenClaim.pre_eq_preRow]; exact lifted6 os started H enc F)
theorem plain6 (f:FuncId) (fn:Func) (hf:Tryz.pinned.checked.prog.funcNamed Rows.sanWholeRow.func=some f) (hfn:Tryz.pinned.checked.prog.funcs[f]?=some fn) :
    true=Tryz.pinned.checked.prog.looks []∧∀ (j:Nat) t,fn.params[j]?=some t→Tryz.pinned.checked.prog.wantsStandIn t=false:=by
  obtain rfl:f=6:=Option.some.inj (named6.symm.trans hf) |>.symm
  obtain rfl:fn=Tryz.f6:=(Option.some.inj (Tryz.func6.symm.trans hfn)).symm
  refine ⟨by kernel_rfl,fun j t ht => ?_⟩
  rw [par6] at ht
  have h:([31,3]:List TypeId).all (fun t => !Tryz.prog.wantsStandIn t)=true:=by kernel_rfl
  have hm:t ∈ ([31,3]:List TypeId):=by simpa using Array.mem_of_getElem? ht
  have hw:Tryz.prog.wantsStandIn t=false:=by simpa using List.all_eq_true.1 h t hm
  exact hw
theorem card6:Rows.SanWholeCardSaid :=
  Claim7.holds_tied_plain_at .later [] _ _ _ _ said6 (fun _ h=>by cases h) (by kernel_rfl) (fun _ h=>by cases h) sanWhole_row_tie rfl ⟨rfl,rfl⟩ (by kernel_rfl) rfl plain6 (by kernel_rfl)
end Go.Proofs.YtmhlngkbgbenhaaGreatDoor
end
