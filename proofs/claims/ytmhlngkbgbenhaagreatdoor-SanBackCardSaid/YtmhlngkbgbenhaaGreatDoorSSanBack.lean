/- SanBack: at any position a move that may be is read from its text,without its mark it is read as no other move,and what is read from a text of at most 2000 bytes has a text that is read as it. No conditions. -/
import Derived.Test.YtmhlngkbgbenhaaGreatDoorS8
import Derived.JoinedCond
set_option linter.unusedSectionVars false
set_option linter.unusedVariables false
set_option linter.unusedSimpArgs false
set_option linter.unnecessarySimpa false
section
namespace Kz
open Go Go.RowKit Go.Proofs
set_option maxRecDepth 100000
theorem under9:Tryz.prog.underlying 9=some .string:=by kernel_rfl
theorem str_open {W:World} {r:Reach} {base:Nat} {v:Value} (h:Value.okWide Tryz.prog W r base 9 v):∃ s:List UInt8,True∧∀ (g:Gh) (tk:List Nat) (w:World),aN g tk w (.str s) v:=by
  unfold Value.okWide at h
  rw [under9] at h
  simp only at h
  unfold Cell.okWide at h
  rw [under9] at h
  simp only at h
  unfold Cell.ok at h
  rw [under9] at h
  cases v <;> simp at h
  exact ⟨_,trivial,fun _ _ _=>.str rfl⟩
theorem law7 (p:Pos) (b:Int) (c:List UInt8) (hp:aR p) (_:IntKind.has .i64 b) (_:True):bR Pz 7 [Pos.av p,.int .i64 b,.str c] (.bool true):=by
  have t:=Gd hp b c
  have h:=P7 p b c t.1
  rw [t.2] at h
  exact h.1
end Kz
namespace Go.Proofs.YtmhlngkbgbenhaaGreatDoor
open Kz Go Go.RowKit Go.WideShapes Go.ChangeShapes Go.ChangeAt Go.Proofs
set_option maxRecDepth 100000
theorem par7:Tryz.f7.params=#[31,3,9]:=by kernel_rfl
theorem res7:Tryz.f7.resultTypes=#[4]:=by kernel_rfl
theorem rd7:∀ t ∈ Tryz.f7.params.toList,Tryz.prog.readableRec t=true∧t < Tryz.prog.types.size:=by
  rw [par7]
  have h:([31,3,9]:List TypeId).all (fun t=>Tryz.prog.readableRec t&&Nat.blt t Tryz.prog.types.size)=true:=by kernel_rfl
  intro t ht
  have:=List.all_eq_true.1 h t ht
  simp only [Bool.and_eq_true,Nat.blt_eq] at this
  exact this
theorem open7 (W:World) (base:Nat) (args:Array Value) (hl:args.size=Tryz.f7.params.size) (hval:∀ (j:Nat) t v,Tryz.f7.params[j]?=some t→args[j]?=some v→Value.okWide Tryz.prog W .any base t v) :
    ∃ xs,(∀ (g:Gh) (tk:List Nat) (w:World),aE g tk w xs args.toList)∧bR Pz 7 xs (.bool true):=by
  rw [par7] at hl
  obtain ⟨l⟩:=args
  obtain ⟨v0,v1,v2,rfl⟩:∃ v0 v1 v2,l=[v0,v1,v2]:=by
    match l,hl with
    | [v0,v1,v2],_=>exact ⟨_,_,_,rfl⟩
  obtain ⟨p0,h0,r0⟩:=pos_open (hval 0 31 v0 (by rw [par7]; rfl) rfl)
  obtain ⟨p1,h1,r1⟩:=int_open (k := .i64) under3 (hval 1 3 v1 (by rw [par7]; rfl) rfl)
  obtain ⟨p2,h2,r2⟩:=str_open (hval 2 9 v2 (by rw [par7]; rfl) rfl)
  exact ⟨[Pos.av p0,.int .i64 p1,.str p2],fun g tk w=>.cons (r0 _ _ _) (.cons (r1 _ _ _) (.cons (r2 _ _ _) .nil)),law7 p0 p1 p2 h0 h1 h2⟩
theorem laid_met7 (os:Os):laidMet Tryz.prog Rows.sanBackRow.laid ((laidWorld os).forCall (fun _ _=>0) ⟨#[],#[zeroPos,.int .i64 0,.string ByteArray.empty],[]⟩).memory :=
  laid_met_all os _
theorem reads7 (os:Os) {H:Type} (enc:TypeId×Value→H):∃ places,DataW.whole enc Tryz.prog ((laidWorld os).forCall (fun _ _=>0) ⟨#[],#[zeroPos,.int .i64 0,.string ByteArray.empty],[]⟩).memory Tryz.f7.params.toList Rows.sanBackSpec.vars false (#[zeroPos,.int .i64 0,.string ByteArray.empty]:Array Value).toList 12=some ([zeroData,(.lit (.int .i64 0)),(.lit (.string []))],[],places) :=
  ⟨[],by kernel_rfl⟩
theorem lifted7 (os:Os) (started:os.Started) (H:Type) (enc:TypeId×Value→H) (F:Stop.Interp) :
    ReturnsInHanded {} Tryz.checked os 7 .any ((OpenSpec.ofChange Rows.sanBackSpec).preRow enc Tryz.prog Tryz.f7 Rows.sanBackRow.domain false Rows.sanBackRow.laid) (((OpenSpec.ofChange Rows.sanBackSpec).at F).post enc Tryz.prog Tryz.f7 false true false false):=by
  obtain ⟨places,hx⟩:=reads7 os enc
  refine returnsInHanded_of_row (C:=Tryz.checked) (s:=OpenSpec.ofChange Rows.sanBackSpec) own_z started (by kernel_rfl) Tryz.func7
    (witness_row_atRef (enc:=enc) (C:=Tryz.checked) false (laidWorld os) #[zeroPos,.int .i64 0,.string ByteArray.empty] rfl (by kernel_rfl) (by kernel_rfl) (by kernel_rfl)
      (OpenSpec.preRow_of_cond 12 hx (by kernel_rfl) (fun k hk=>by cases hk) (by kernel_rfl) (laid_met7 os))) ?_
  intro W base args ds gs before hval hW _ _ _ hL hS _
  exact contract_of (f:=7) (fn:=Tryz.f7) (s:=Rows.sanBackSpec) res7 rfl rd7 (fun H ds hds=>by
    rw [par7] at hds
    match ds,hds with
    | [d0,d1,d2],_=>rfl) open7 H enc W base args ds gs before hval hW (globOk_laid hL hS)
theorem and2 {a b:Bool} (h1:a=true) (h2:b=true):(a&&b)=true:=by rw [h1,h2]; rfl
theorem j7_0:(Rows.sanBackRow.wf (OpenSpec.ofChange (OpenSpec.ofChange Rows.sanBackSpec).bare))=true:=by kernel_rfl
theorem j7_1:(laidOutB Tryz.prog)=true:=by kernel_rfl
theorem j7_2:(mapsRowed Tryz.prog)=true:=by kernel_rfl
theorem j7_3:(Tryz.f7.params.all (Tryz.prog.readableRec ·))=true:=by kernel_rfl
theorem j7_4:(namedTie Tryz.prog Rows.sanBackRow.named (OpenSpec.ofChange Rows.sanBackSpec).bare.vars)=true:=by kernel_rfl
theorem j7_5:((Rows.sanBackRow.stops==[]))=true:=by kernel_rfl
theorem j7_6:((Tryz.prog.stops==[]))=true:=by kernel_rfl
theorem j7_7:((Rows.sanBackRow.knobs==[]))=true:=by kernel_rfl
theorem j7_8:((Tryz.prog.stopKnobs==[]))=true:=by kernel_rfl
theorem j7_9:((Rows.sanBackRow.inPlace==Tryz.prog.inPlace 7))=true:=by kernel_rfl
theorem j7_10:((Rows.sanBackRow.unfollowed==Tryz.prog.unfollowed 7))=true:=by kernel_rfl
theorem j7_11:((Rows.sanBackRow.recurses==Tryz.prog.recurses 7))=true:=by kernel_rfl
theorem j7_12:((Rows.sanBackRow.named==Tryz.prog.varsNamed 7))=true:=by kernel_rfl
theorem j7_13:((Rows.sanBackRow.maps==(Tryz.f7.params.toList++(OpenSpec.ofChange Rows.sanBackSpec).bare.plain.varTypes Tryz.prog).any (Tryz.prog.mapsRec ·)))=true:=by kernel_rfl
theorem j7_14:((Rows.sanBackRow.ifaces==(Tryz.f7.params.toList++(OpenSpec.ofChange Rows.sanBackSpec).bare.plain.varTypes Tryz.prog).any (Tryz.prog.ifacesRec ·)))=true:=by kernel_rfl
theorem j7_15:((Rows.sanBackRow.mapsOut==Tryz.prog.mapsAmong Tryz.f7.resultTypes.toList))=true:=by kernel_rfl
theorem j7_16:((Rows.sanBackRow.loops==(Tryz.f7.params.toList++(OpenSpec.ofChange Rows.sanBackSpec).bare.plain.varTypes Tryz.prog).any (Tryz.prog.loopsFrom ·)))=true:=by kernel_rfl
theorem j7_17:((Rows.sanBackRow.wideKeys==(Tryz.f7.params.toList++(OpenSpec.ofChange Rows.sanBackSpec).bare.plain.varTypes Tryz.prog++Tryz.f7.resultTypes.toList).any (Tryz.prog.wideKeysFrom ·)))=true:=by kernel_rfl
theorem j7_18:((OpenSpec.ofChange Rows.sanBackSpec).bare.vars.all (Tryz.prog.varReadable ·))=true:=by kernel_rfl
theorem j7_19:(Tryz.f7.resultTypes.all (fun t=>Tryz.prog.readableRec t&&decide (t < Tryz.prog.types.size)))=true:=by kernel_rfl
theorem j7_20:((Rows.sanBackRow.ifacesOut==Tryz.f7.resultTypes.toList.any (Tryz.prog.ifacesRec ·)))=true:=by kernel_rfl
theorem j7_21:((Rows.sanBackRow.loopsOut==Tryz.f7.resultTypes.toList.any (Tryz.prog.loopsFrom ·)))=true:=by kernel_rfl
theorem j7_22:((Rows.sanBackRow.plainKeys==Tryz.prog.plainKeys))=true:=by kernel_rfl
theorem j7_23:(Rows.sanBackRow.shortTexts.isNone)=true:=by kernel_rfl
theorem j7_24:(Tryz.prog.stopsHeard)=true:=by kernel_rfl
theorem j7_25:(Tryz.prog.mayEnter)=true:=by kernel_rfl
theorem j7_26:((Rows.sanBackRow.lifted==Tryz.prog.liftsFinal))=true:=by kernel_rfl
theorem j7_27:((Tryz.prog.make==some Rows.sanBackRow.make))=true:=by kernel_rfl
theorem j7_28:((Rows.sanBackRow.kinds==(if Rows.sanBackRow.domain.isEmpty then [] else Tryz.f7.params.toList.map fun t=>match Tryz.prog.underlying t with | some (.int k)=>some k | _=>none)))=true:=by kernel_rfl
theorem j7_29:((Rows.sanBackRow.pinned==Rows.sanBackRow.pinnedBy))=true:=by kernel_rfl
theorem j7_30:((Rows.sanBackRow.veiled==(Tryz.f7.params.toList++(OpenSpec.ofChange Rows.sanBackSpec).bare.plain.varTypes Tryz.prog++Tryz.f7.resultTypes.toList).any (Tryz.prog.veiledRec ·)))=true:=by kernel_rfl
theorem j7_31:(Rows.sanBackRow.veiledFits Tryz.prog Tryz.f7.params.toList (Tryz.f7.params.toList++(OpenSpec.ofChange Rows.sanBackSpec).bare.plain.varTypes Tryz.prog++Tryz.f7.resultTypes.toList))=true:=by kernel_rfl
theorem joined7:joinedFacts Tryz.prog 7 Tryz.f7 (OpenSpec.ofChange Rows.sanBackSpec).bare Rows.sanBackRow=true:=(and2 (and2 (and2 (and2 (and2 (and2 (and2 (and2 (and2 (and2 (and2 (and2 (and2 (and2 (and2 (and2 (and2 (and2 (and2 (and2 (and2 (and2 (and2 (and2 (and2 (and2 (and2 (and2 (and2 (and2 (and2 j7_0 j7_1) j7_2) j7_3) j7_4) j7_5) j7_6) j7_7) j7_8) j7_9) j7_10) j7_11) j7_12) j7_13) j7_14) j7_15) j7_16) j7_17) j7_18) j7_19) j7_20) j7_21) j7_22) j7_23) j7_24) j7_25) j7_26) j7_27) j7_28) j7_29) j7_30) j7_31)
theorem named7:Tryz.pinned.checked.prog.funcNamed Rows.sanBackRow.func=some 7:=by kernel_rfl
theorem said7:Rows.SanBackSaid :=
  OpenClaim.holds_of_cond 7 Tryz.f7 rfl rfl rfl rfl rfl rfl rfl ⟨rfl,rfl,rfl,rfl,rfl⟩ rfl rfl rfl rfl rfl named7 Tryz.func7 joined7
    (of_decide_eq_true (by kernel_rfl)) (by unfold Func.isWrapper; first | (rw [if_pos (by decide +kernel)]; kernel_rfl) | (rw [if_neg (by decide +kernel)]; exact ⟨rfl,rfl⟩))
    (fun os started H enc _ F=>by rw [OpenClaim.pre_eq_preRow]; exact lifted7 os started H enc F)
theorem plain7 (f:FuncId) (fn:Func) (hf:Tryz.pinned.checked.prog.funcNamed Rows.sanBackRow.func=some f) (hfn:Tryz.pinned.checked.prog.funcs[f]?=some fn) :
    true=Tryz.pinned.checked.prog.looks []∧∀ (j:Nat) t,fn.params[j]?=some t→Tryz.pinned.checked.prog.wantsStandIn t=false:=by
  obtain rfl:f=7:=Option.some.inj (named7.symm.trans hf) |>.symm
  obtain rfl:fn=Tryz.f7:=(Option.some.inj (Tryz.func7.symm.trans hfn)).symm
  refine ⟨by kernel_rfl,fun j t ht => ?_⟩
  rw [par7] at ht
  have h:([31,3,9]:List TypeId).all (fun t => !Tryz.prog.wantsStandIn t)=true:=by kernel_rfl
  have hm:t ∈ ([31,3,9]:List TypeId):=by simpa using Array.mem_of_getElem? ht
  have hw:Tryz.prog.wantsStandIn t=false:=by simpa using List.all_eq_true.1 h t hm
  exact hw
theorem card7:Rows.SanBackCardSaid :=
  Claim7.holds_tied_plain_at .later [] _ _ _ _ said7 (fun _ h=>by cases h) (by kernel_rfl) (fun _ h=>by cases h) sanBack_row_tie rfl ⟨rfl,rfl⟩ (by kernel_rfl) rfl plain7 (by kernel_rfl)
end Go.Proofs.YtmhlngkbgbenhaaGreatDoor
end
