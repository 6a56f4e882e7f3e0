/- A position's text by the two printers (fen.Print; the reference's fen): the same for every position whatever; and they refuse the same positions. No condition but the row's own. -/
import Derived.Test.YtpkbiocmoklocaaDoorA5
set_option linter.unusedSectionVars false
set_option linter.unusedVariables false
set_option linter.unusedSimpArgs false
set_option linter.unnecessarySimpa false
section
namespace Kz
open Go Go.RowKit
theorem law3 (p:Pos) (hp:PosIn p):PureSpec Pz 3 [Pos.av p] (.bool true):=by
  have t:=law3_all hp
  have h:=P3 p t.2
  rw [t.1] at h
  exact h.1
end Kz
namespace Go.Proofs.YtpkbiocmoklocaaDoor
open Kz Go Go.RowKit Go.WideShapes Go.ChangeShapes Go.ChangeAt Go.Proofs
set_option maxRecDepth 100000
theorem par3:Tryd.f3.params=#[31]:=by kernel_rfl
theorem res3:Tryd.f3.resultTypes=#[4]:=by kernel_rfl
theorem rd3:∀ t ∈ Tryd.f3.params.toList,Tryd.prog.readableRec t=true∧t < Tryd.prog.types.size:=by
  rw [par3]
  have h:([31]:List TypeId).all (fun t=>Tryd.prog.readableRec t&&Nat.blt t Tryd.prog.types.size)=true:=by kernel_rfl
  intro t ht
  have:=List.all_eq_true.1 h t ht
  simp only [Bool.and_eq_true,Nat.blt_eq] at this
  exact this
theorem open3 (W:World) (base:Nat) (args:Array Value) (hl:args.size=Tryd.f3.params.size) (hval:∀ (j:Nat) t v,Tryd.f3.params[j]?=some t→args[j]?=some v→Value.okWide Tryd.prog W .any base t v) :
    ∃ xs,(∀ (g:Gh) (tk:List Nat) (w:World),RepL g tk w xs args.toList)∧PureSpec Pz 3 xs (.bool true):=by
  rw [par3] at hl
  obtain ⟨l⟩:=args
  obtain ⟨v0,rfl⟩:∃ v0,l=[v0]:=by
    match l,hl with
    | [v0],_=>exact ⟨_,rfl⟩
  obtain ⟨p0,h0,r0⟩:=pos_open (hval 0 31 v0 (by rw [par3]; rfl) rfl)
  exact ⟨[Pos.av p0],fun g tk w=>.cons (r0 _ _ _) .nil,law3 p0 h0⟩
theorem laid_met3 (os:Os):laidMet Tryd.prog Rows.fenPrintRow.laid ((laidWorld os).forCall (fun _ _=>0) ⟨#[],#[zeroPos],[]⟩).memory :=
  laid_met_all os _
theorem reads3 (os:Os) {H:Type} (enc:TypeId×Value→H):∃ places,DataW.whole enc Tryd.prog ((laidWorld os).forCall (fun _ _=>0) ⟨#[],#[zeroPos],[]⟩).memory Tryd.f3.params.toList Rows.fenPrintSpec.vars false (#[zeroPos]:Array Value).toList 12=some ([zeroData],[],places) :=
  ⟨[],by kernel_rfl⟩
theorem lifted3 (os:Os) (started:os.Started) (H:Type) (enc:TypeId×Value→H) (F:Stop.Interp) :
    ReturnsInHanded {} Tryd.checked os 3 .any ((OpenSpec.ofChange Rows.fenPrintSpec).preRow enc Tryd.prog Tryd.f3 Rows.fenPrintRow.domain false Rows.fenPrintRow.laid) (((OpenSpec.ofChange Rows.fenPrintSpec).at F).post enc Tryd.prog Tryd.f3 false true false false):=by
  obtain ⟨places,hx⟩:=reads3 os enc
  refine returnsInHanded_of_row (C:=Tryd.checked) (s:=OpenSpec.ofChange Rows.fenPrintSpec) own_z started (by kernel_rfl) Tryd.func3
    (witness_row_atRef (enc:=enc) (C:=Tryd.checked) false (laidWorld os) #[zeroPos] rfl (by kernel_rfl) (by kernel_rfl) (by kernel_rfl)
      (OpenSpec.preRow_of_cond 12 hx (by kernel_rfl) (fun k hk=>by cases hk) (by kernel_rfl) (laid_met3 os))) ?_
  intro W base args ds gs before hval hW _ _ _ hL _ _
  exact contract_of (f:=3) (fn:=Tryd.f3) (s:=Rows.fenPrintSpec) res3 rfl rd3 (fun H ds hds=>by
    rw [par3] at hds
    match ds,hds with
    | [d0],_=>rfl) open3 H enc W base args ds gs before hval hW (globOk_laid hL)
theorem said3:Rows.FenPrintSaid :=
  OpenClaim.holds_of_cond 3 Tryd.f3 rfl rfl rfl rfl rfl rfl rfl ⟨rfl,rfl,rfl,rfl,rfl⟩ rfl rfl rfl rfl rfl (by kernel_rfl) Tryd.func3 (by kernel_rfl)
    (of_decide_eq_true (by kernel_rfl)) (by unfold Func.isWrapper; first | (rw [if_pos (by decide +kernel)]; kernel_rfl) | (rw [if_neg (by decide +kernel)]; exact ⟨rfl,rfl⟩))
    (fun os started H enc _ F=>by rw [OpenClaim.pre_eq_preRow]; exact lifted3 os started H enc F)
theorem plain3 (f:FuncId) (fn:Func) (hf:Tryd.pinned.checked.prog.funcNamed Rows.fenPrintRow.func=some f) (hfn:Tryd.pinned.checked.prog.funcs[f]?=some fn) :
    false=Tryd.pinned.checked.prog.looks []∧∀ (j:Nat) t,fn.params[j]?=some t→Tryd.pinned.checked.prog.wantsStandIn t=false:=by
  obtain rfl:f=3:=Option.some.inj ((show Tryd.prog.funcNamed Rows.fenPrintRow.func=some 3 by kernel_rfl).symm.trans hf) |>.symm
  obtain rfl:fn=Tryd.f3:=(Option.some.inj (Tryd.func3.symm.trans hfn)).symm
  refine ⟨by kernel_rfl,fun j t ht => ?_⟩
  rw [par3] at ht
  have h:([31]:List TypeId).all (fun t => !Tryd.prog.wantsStandIn t)=true:=by kernel_rfl
  have hm:t ∈ ([31]:List TypeId):=by simpa using Array.mem_of_getElem? ht
  have hw:Tryd.prog.wantsStandIn t=false:=by simpa using List.all_eq_true.1 h t hm
  exact hw
theorem card3:Rows.FenPrintCardSaid :=
  Claim7.holds_tied_plain_at .later [] _ _ _ _ said3 (fun _ h=>by cases h) (by kernel_rfl) (fun _ h=>by cases h) fenPrint_row_tie rfl ⟨rfl,rfl⟩ (by kernel_rfl) rfl plain3 (by kernel_rfl)
end Go.Proofs.YtpkbiocmoklocaaDoor
end
