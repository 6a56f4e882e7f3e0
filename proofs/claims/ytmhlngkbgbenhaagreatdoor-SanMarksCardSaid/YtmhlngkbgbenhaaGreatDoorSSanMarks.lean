/- SanMarks: of any position,a move that may not be made has neither a text nor a mark; a move that may be made has a text that ends with its mark ('','+' or '#'),and ahead of the mark stands a rank,a castling's last letter or a piece's letter. No conditions. -/
import Derived.Test.YtmhlngkbgbenhaaGreatDoorS8
import Derived.JoinedCond
set_option linter.unusedSectionVars false
set_option linter.unusedVariables false
set_option linter.unusedSimpArgs false
set_option linter.unnecessarySimpa false
section
namespace Kz
open Go Go.RowKit Go.Proofs
set_option maxRecDepth 100000
theorem law8 (p:Pos) (m:Mv) (c:Int) (hp:aR p) (_:True) (_:IntKind.has .i64 c):bR Pz 8 [Pos.av p,Mv.av m,.int .i64 c] (.bool true):=by
  have t:=GP hp m c
  have h:=P8 p m c t.1
  rw [t.2] at h
  exact h.1
end Kz
namespace Go.Proofs.YtmhlngkbgbenhaaGreatDoor
open Kz Go Go.RowKit Go.WideShapes Go.ChangeShapes Go.ChangeAt Go.Proofs
set_option maxRecDepth 100000
theorem par8:Tryz.f8.params=#[31,38,3]:=by kernel_rfl
theorem res8:Tryz.f8.resultTypes=#[4]:=by kernel_rfl
theorem rd8:∀ t ∈ Tryz.f8.params.toList,Tryz.prog.readableRec t=true∧t < Tryz.prog.types.size:=by
  rw [par8]
  have h:([31,38,3]:List TypeId).all (fun t=>Tryz.prog.readableRec t&&Nat.blt t Tryz.prog.types.size)=true:=by kernel_rfl
  intro t ht
  have:=List.all_eq_true.1 h t ht
  simp only [Bool.and_eq_true,Nat.blt_eq] at this
  exact this
theorem open8 (W:World) (base:Nat) (args:Array Value) (hl:args.size=Tryz.f8.params.size) (hval:∀ (j:Nat) t v,Tryz.f8.params[j]?=some t→args[j]?=some v→Value.okWide Tryz.prog W .any base t v) :
    ∃ xs,(∀ (g:Gh) (tk:List Nat) (w:World),aE g tk w xs args.toList)∧bR Pz 8 xs (.bool true):=by
  rw [par8] at hl
  obtain ⟨l⟩:=args
  obtain ⟨v0,v1,v2,rfl⟩:∃ v0 v1 v2,l=[v0,v1,v2]:=by
    match l,hl with
    | [v0,v1,v2],_=>exact ⟨_,_,_,rfl⟩
  obtain ⟨p0,h0,r0⟩:=pos_open (hval 0 31 v0 (by rw [par8]; rfl) rfl)
  obtain ⟨p1,h1,r1⟩:=mv_open (hval 1 38 v1 (by rw [par8]; rfl) rfl)
  obtain ⟨p2,h2,r2⟩:=int_open (k := .i64) under3 (hval 2 3 v2 (by rw [par8]; rfl) rfl)
  exact ⟨[Pos.av p0,Mv.av p1,.int .i64 p2],fun g tk w=>.cons (r0 _ _ _) (.cons (r1 _ _ _) (.cons (r2 _ _ _) .nil)),law8 p0 p1 p2 h0 h1 h2⟩
theorem laid_met8 (os:Os):laidMet Tryz.prog Rows.sanMarksRow.laid ((laidWorld os).forCall (fun _ _=>0) ⟨#[],#[zeroPos,zeroMv,.int .i64 0],[]⟩).memory :=
  laid_met_all os _
theorem reads8 (os:Os) {H:Type} (enc:TypeId×Value→H):∃ places,DataW.whole enc Tryz.prog ((laidWorld os).forCall (fun _ _=>0) ⟨#[],#[zeroPos,zeroMv,.int .i64 0],[]⟩).memory Tryz.f8.params.toList Rows.sanMarksSpec.vars false (#[zeroPos,zeroMv,.int .i64 0]:Array Value).toList 12=some ([zeroData,zeroMvData,(.lit (.int .i64 0))],[],places) :=
  ⟨[],by kernel_rfl⟩
theorem lifted8 (os:Os) (started:os.Started) (H:Type) (enc:TypeId×Value→H) (F:Stop.Interp) :
    ReturnsInHanded {} Tryz.checked os 8 .any ((OpenSpec.ofChange Rows.sanMarksSpec).preRow enc Tryz.prog Tryz.f8 Rows.sanMarksRow.domain false Rows.sanMarksRow.laid) (((OpenSpec.ofChange Rows.sanMarksSpec).at F).post enc Tryz.prog Tryz.f8 false true false false):=by
  obtain ⟨places,hx⟩:=reads8 os enc
  refine returnsInHanded_of_row (C:=Tryz.checked) (s:=OpenSpec.ofChange Rows.sanMarksSpec) own_z started (by kernel_rfl) Tryz.func8
    (witness_row_atRef (enc:=enc) (C:=Tryz.checked) false (laidWorld os) #[zeroPos,zeroMv,.int .i64 0] rfl (by kernel_rfl) (by kernel_rfl) (by kernel_rfl)
      (OpenSpec.preRow_of_cond 12 hx (by kernel_rfl) (fun k hk=>by cases hk) (by kernel_rfl) (laid_met8 os))) ?_
  intro W base args ds gs before hval hW _ _ _ hL hS _
  exact contract_of (f:=8) (fn:=Tryz.f8) (s:=Rows.sanMarksSpec) res8 rfl rd8 (fun H ds hds=>by
    rw [par8] at hds
    match ds,hds with
    | [d0,d1,d2],_=>rfl) open8 H enc W base args ds gs before hval hW (globOk_laid hL hS)
theorem and2 {a b:Bool} (h1:a=true) (h2:b=true):(a&&b)=true:=by rw [h1,h2]; rfl
theorem j8_0:(Rows.sanMarksRow.wf (OpenSpec.ofChange (OpenSpec.ofChange Rows.sanMarksSpec).bare))=true:=by kernel_rfl
theorem j8_1:(laidOutB Tryz.prog)=true:=by kernel_rfl
theorem j8_2:(mapsRowed Tryz.prog)=true:=by kernel_rfl
theorem j8_3:(Tryz.f8.params.all (Tryz.prog.readableRec ·))=true:=by kernel_rfl
theorem j8_4:(namedTie Tryz.prog Rows.sanMarksRow.named (OpenSpec.ofChange Rows.sanMarksSpec).bare.vars)=true:=by kernel_rfl
theorem j8_5:((Rows.sanMarksRow.stops==[]))=true:=by kernel_rfl
theorem j8_6:((Tryz.prog.stops==[]))=true:=by kernel_rfl
theorem j8_7:((Rows.sanMarksRow.knobs==[]))=true:=by kernel_rfl
theorem j8_8:((Tryz.prog.stopKnobs==[]))=true:=by kernel_rfl
theorem j8_9:((Rows.sanMarksRow.inPlace==Tryz.prog.inPlace 8))=true:=by kernel_rfl
theorem j8_10:((Rows.sanMarksRow.unfollowed==Tryz.prog.unfollowed 8))=true:=by kernel_rfl
theorem j8_11:((Rows.sanMarksRow.recurses==Tryz.prog.recurses 8))=true:=by kernel_rfl
theorem j8_12:((Rows.sanMarksRow.named==Tryz.prog.varsNamed 8))=true:=by kernel_rfl
theorem j8_13:((Rows.sanMarksRow.maps==(Tryz.f8.params.toList++(OpenSpec.ofChange Rows.sanMarksSpec).bare.plain.varTypes Tryz.prog).any (Tryz.prog.mapsRec ·)))=true:=by kernel_rfl
theorem j8_14:((Rows.sanMarksRow.ifaces==(Tryz.f8.params.toList++(OpenSpec.ofChange Rows.sanMarksSpec).bare.plain.varTypes Tryz.prog).any (Tryz.prog.ifacesRec ·)))=true:=by kernel_rfl
theorem j8_15:((Rows.sanMarksRow.mapsOut==Tryz.prog.mapsAmong Tryz.f8.resultTypes.toList))=true:=by kernel_rfl
theorem j8_16:((Rows.sanMarksRow.loops==(Tryz.f8.params.toList++(OpenSpec.ofChange Rows.sanMarksSpec).bare.plain.varTypes Tryz.prog).any (Tryz.prog.loopsFrom ·)))=true:=by kernel_rfl
theorem j8_17:((Rows.sanMarksRow.wideKeys==(Tryz.f8.params.toList++(OpenSpec.ofChange Rows.sanMarksSpec).bare.plain.varTypes Tryz.prog++Tryz.f8.resultTypes.toList).any (Tryz.prog.wideKeysFrom ·)))=true:=by kernel_rfl
theorem j8_18:((OpenSpec.ofChange Rows.sanMarksSpec).bare.vars.all (Tryz.prog.varReadable ·))=true:=by kernel_rfl
theorem j8_19:(Tryz.f8.resultTypes.all (fun t=>Tryz.prog.readableRec t&&decide (t < Tryz.prog.types.size)))=true:=by kernel_rfl
theorem j8_20:((Rows.sanMarksRow.ifacesOut==Tryz.f8.resultTypes.toList.any (Tryz.prog.ifacesRec ·)))=true:=by kernel_rfl
theorem j8_21:((Rows.sanMarksRow.loopsOut==Tryz.f8.resultTypes.toList.any (Tryz.prog.loopsFrom ·)))=true:=by kernel_rfl
theorem j8_22:((Rows.sanMarksRow.plainKeys==Tryz.prog.plainKeys))=true:=by kernel_rfl
theorem j8_23:(Rows.sanMarksRow.shortTexts.isNone)=true:=by kernel_rfl
theorem j8_24:(Tryz.prog.stopsHeard)=true:=by kernel_rfl
theorem j8_25:(Tryz.prog.mayEnter)=true:=by kernel_rfl
theorem j8_26:((Rows.sanMarksRow.lifted==Tryz.prog.liftsFinal))=true:=by kernel_rfl
theorem j8_27:((Tryz.prog.make==some Rows.sanMarksRow.make))=true:=by kernel_rfl
theorem j8_28:((Rows.sanMarksRow.kinds==(if Rows.sanMarksRow.domain.isEmpty then [] else Tryz.f8.params.toList.map fun t=>match Tryz.prog.underlying t with | some (.int k)=>some k | _=>none)))=true:=by kernel_rfl
theorem j8_29:((Rows.sanMarksRow.pinned==Rows.sanMarksRow.pinnedBy))=true:=by kernel_rfl
theorem j8_30:((Rows.sanMarksRow.veiled==(Tryz.f8.params.toList++(OpenSpec.ofChange Rows.sanMarksSpec).bare.plain.varTypes Tryz.prog++Tryz.f8.resultTypes.toList).any (Tryz.prog.veiledRec ·)))=true:=by kernel_rfl
theorem j8_31:(Rows.sanMarksRow.veiledFits Tryz.prog Tryz.f8.params.toList (Tryz.f8.params.toList++(OpenSpec.ofChange Rows.sanMarksSpec).bare.plain.varTypes Tryz.prog++Tryz.f8.resultTypes.toList))=true:=by kernel_rfl
theorem joined8:joinedFacts Tryz.prog 8 Tryz.f8 (OpenSpec.ofChange Rows.sanMarksSpec).bare Rows.sanMarksRow=true:=(and2 (and2 (and2 (and2 (and2 (and2 (and2 (and2 (and2 (and2 (and2 (and2 (and2 (and2 (and2 (and2 (and2 (and2 (and2 (and2 (and2 (and2 (and2 (and2 (and2 (and2 (and2 (and2 (and2 (and2 (and2 j8_0 j8_1) j8_2) j8_3) j8_4) j8_5) j8_6) j8_7) j8_8) j8_9) j8_10) j8_11) j8_12) j8_13) j8_14) j8_15) j8_16) j8_17) j8_18) j8_19) j8_20) j8_21) j8_22) j8_23) j8_24) j8_25) j8_26) j8_27) j8_28) j8_29) j8_30) j8_31)
theorem named8:Tryz.pinned.checked.prog.funcNamed Rows.sanMarksRow.func=some 8:=by kernel_rfl
theorem said8:Rows.SanMarksSaid :=
  OpenClaim.holds_of_cond 8 Tryz.f8 rfl rfl rfl rfl rfl rfl rfl ⟨rfl,rfl,rfl,rfl,rfl⟩ rfl rfl rfl rfl rfl named8 Tryz.func8 joined8
    (of_decide_eq_true (by kernel_rfl)) (by unfold Func.isWrapper; first | (rw [if_pos (by decide +kernel)]; kernel_rfl) | (rw [if_neg (by decide +kernel)]; exact ⟨rfl,rfl⟩))
    (fun os started H enc _ F=>by rw [OpenClaim.pre_eq_preRow]; exact lifted8 os started H enc F)
theorem plain8 (f:FuncId) (fn:Func) (hf:Tryz.pinned.checked.prog.funcNamed Rows.sanMarksRow.func=some f) (hfn:Tryz.pinned.checked.prog.funcs[f]?=some fn) :
    true=Tryz.pinned.checked.prog.looks []∧∀ (j:Nat) t,fn.params[j]?=some t→Tryz.pinned.checked.prog.wantsStandIn t=false:=by
  obtain rfl:f=8:=Option.some.inj (named8.symm.trans hf) |>.symm
  obtain rfl:fn=Tryz.f8:=(Option.some.inj (Tryz.func8.symm.trans hfn)).symm
  refine ⟨by kernel_rfl,fun j t ht => ?_⟩
  rw [par8] at ht
  have h:([31,38,3]:List TypeId).all (fun t => !Tryz.prog.wantsStandIn t)=true:=by kernel_rfl
  have hm:t ∈ ([31,38,3]:List TypeId):=by simpa using Array.mem_of_getElem? ht
  have hw:Tryz.prog.wantsStandIn t=false:=by simpa using List.all_eq_true.1 h t hm
  exact hw
theorem card8:Rows.SanMarksCardSaid :=
  Claim7.holds_tied_plain_at .later [] _ _ _ _ said8 (fun _ h=>by cases h) (by kernel_rfl) (fun _ h=>by cases h) sanMarks_row_tie rfl ⟨rfl,rfl⟩ (by kernel_rfl) rfl plain8 (by kernel_rfl)
end Go.Proofs.YtmhlngkbgbenhaaGreatDoor
end
