/- FenMirror: of any position without pockets and checks,in which no rook may castle,that has a text: the position turned about has one too,with the ranks in the other order,the letters' cases changed,and the other color to move; the chapter's examples hold. No conditions. -/
import Derived.Test.YtpkbiocmoklocaaGreatDoorM5
set_option linter.unusedSectionVars false
set_option linter.unusedVariables false
set_option linter.unusedSimpArgs false
set_option linter.unnecessarySimpa false
section
namespace Kz
open Go Go.RowKit
theorem law8 (p:Pos) (hp:PosIn p):PureSpec Pz 8 [Pos.av p] (.bool true):=by
  have t:=N8_true hp
  have h:=P8 p t.1
  rw [t.2] at h
  exact h.1
end Kz
namespace Go.Proofs.YtpkbiocmoklocaaGreatDoor
open Kz Go Go.RowKit Go.WideShapes Go.ChangeShapes Go.ChangeAt Go.Proofs
set_option maxRecDepth 100000
theorem par8:Tryz.f8.params=#[31]:=by kernel_rfl
theorem res8:Tryz.f8.resultTypes=#[4]:=by kernel_rfl
theorem rd8:∀ t ∈ Tryz.f8.params.toList,Tryz.prog.readableRec t=true∧t < Tryz.prog.types.size:=by
  rw [par8]
  have h:([31]:List TypeId).all (fun t=>Tryz.prog.readableRec t&&Nat.blt t Tryz.prog.types.size)=true:=by kernel_rfl
  intro t ht
  have:=List.all_eq_true.1 h t ht
  simp only [Bool.and_eq_true,Nat.blt_eq] at this
  exact this
theorem open8 (W:World) (base:Nat) (args:Array Value) (hl:args.size=Tryz.f8.params.size) (hval:∀ (j:Nat) t v,Tryz.f8.params[j]?=some t→args[j]?=some v→Value.okWide Tryz.prog W .any base t v) :
    ∃ xs,(∀ (g:Gh) (tk:List Nat) (w:World),RepL g tk w xs args.toList)∧PureSpec Pz 8 xs (.bool true):=by
  rw [par8] at hl
  obtain ⟨l⟩:=args
  obtain ⟨v0,rfl⟩:∃ v0,l=[v0]:=by
    match l,hl with
    | [v0],_=>exact ⟨_,rfl⟩
  obtain ⟨p0,h0,r0⟩:=pos_open (hval 0 31 v0 (by rw [par8]; rfl) rfl)
  exact ⟨[Pos.av p0],fun g tk w=>.cons (r0 _ _ _) .nil,law8 p0 h0⟩
theorem laid_met8 (os:Os):laidMet Tryz.prog Rows.fenMirrorRow.laid ((laidWorld os).forCall (fun _ _=>0) ⟨#[],#[zeroPos],[]⟩).memory :=
  laid_met_all os _
theorem reads8 (os:Os) {H:Type} (enc:TypeId×Value→H):∃ places,DataW.whole enc Tryz.prog ((laidWorld os).forCall (fun _ _=>0) ⟨#[],#[zeroPos],[]⟩).memory Tryz.f8.params.toList Rows.fenMirrorSpec.vars false (#[zeroPos]:Array Value).toList 12=some ([zeroData],[],places) :=
  ⟨[],by kernel_rfl⟩
theorem lifted8 (os:Os) (started:os.Started) (H:Type) (enc:TypeId×Value→H) (F:Stop.Interp) :
    ReturnsInHanded {} Tryz.checked os 8 .any ((OpenSpec.ofChange Rows.fenMirrorSpec).preRow enc Tryz.prog Tryz.f8 Rows.fenMirrorRow.domain false Rows.fenMirrorRow.laid) (((OpenSpec.ofChange Rows.fenMirrorSpec).at F).post enc Tryz.prog Tryz.f8 false true false false):=by
  obtain ⟨places,hx⟩:=reads8 os enc
  refine returnsInHanded_of_row (C:=Tryz.checked) (s:=OpenSpec.ofChange Rows.fenMirrorSpec) own_z started (by kernel_rfl) Tryz.func8
    (witness_row_atRef (enc:=enc) (C:=Tryz.checked) false (laidWorld os) #[zeroPos] rfl (by kernel_rfl) (by kernel_rfl) (by kernel_rfl)
      (OpenSpec.preRow_of_cond 12 hx (by kernel_rfl) (fun k hk=>by cases hk) (by kernel_rfl) (laid_met8 os))) ?_
  intro W base args ds gs before hval hW _ _ _ hL hS _
  exact contract_of (f:=8) (fn:=Tryz.f8) (s:=Rows.fenMirrorSpec) res8 rfl rd8 (fun H ds hds=>by
    rw [par8] at hds
    match ds,hds with
    | [d0],_=>rfl) open8 H enc W base args ds gs before hval hW (globOk_laid hL hS)
theorem said8:Rows.FenMirrorSaid :=
  OpenClaim.holds_of_cond 8 Tryz.f8 rfl rfl rfl rfl rfl rfl rfl ⟨rfl,rfl,rfl,rfl,rfl⟩ rfl rfl rfl rfl rfl (by kernel_rfl) Tryz.func8 (by kernel_rfl)
    (of_decide_eq_true (by kernel_rfl)) (by unfold Func.isWrapper; first | (rw [if_pos (by decide +kernel)]; kernel_rfl) | (rw [if_neg (by decide +kernel)]; exact ⟨rfl,rfl⟩))
    (fun os started H enc _ F=>by rw [OpenClaim.pre_eq_preRow]; exact lifted8 os started H enc F)
theorem plain8 (f:FuncId) (fn:Func) (hf:Tryz.pinned.checked.prog.funcNamed Rows.fenMirrorRow.func=some f) (hfn:Tryz.pinned.checked.prog.funcs[f]?=some fn) :
    true=Tryz.pinned.checked.prog.looks []∧∀ (j:Nat) t,fn.params[j]?=some t→Tryz.pinned.checked.prog.wantsStandIn t=false:=by
  obtain rfl:f=8:=Option.some.inj ((show Tryz.prog.funcNamed Rows.fenMirrorRow.func=some 8 by kernel_rfl).symm.trans hf) |>.symm
  obtain rfl:fn=Tryz.f8:=(Option.some.inj (Tryz.func8.symm.trans hfn)).symm
  refine ⟨by kernel_rfl,fun j t ht => ?_⟩
  rw [par8] at ht
  have h:([31]:List TypeId).all (fun t => !Tryz.prog.wantsStandIn t)=true:=by kernel_rfl
  have hm:t ∈ ([31]:List TypeId):=by simpa using Array.mem_of_getElem? ht
  have hw:Tryz.prog.wantsStandIn t=false:=by simpa using List.all_eq_true.1 h t hm
  exact hw
theorem card8:Rows.FenMirrorCardSaid :=
  Claim7.holds_tied_plain_at .later [] _ _ _ _ said8 (fun _ h=>by cases h) (by kernel_rfl) (fun _ h=>by cases h) fenMirror_row_tie rfl ⟨rfl,rfl⟩ (by kernel_rfl) rfl plain8 (by kernel_rfl)
end Go.Proofs.YtpkbiocmoklocaaGreatDoor
end
