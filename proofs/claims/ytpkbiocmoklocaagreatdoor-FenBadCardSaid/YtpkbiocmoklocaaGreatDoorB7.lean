/- FenBad: any text of a variant that there is not is refused as an argument; a position's own text with a byte more at its end,or without its first one,is refused,or is the text of what is read,and a text that is too long is refused as that; the chapter's examples hold. No conditions. -/
import Derived.Test.YtpkbiocmoklocaaGreatDoorB6
set_option linter.unusedSectionVars false
set_option linter.unusedVariables false
set_option linter.unusedSimpArgs false
set_option linter.unnecessarySimpa false
section
namespace Kz
open Go Go.RowKit
theorem law6 (p:Pos) (b c:Int) (hp:PosIn p) (hb:IntKind.has .u8 b) (hc:IntKind.has .u8 c):PureSpec Pz 6 [Pos.av p,.int .u8 b,.int .u8 c] (.bool true):=by
  have t:=N6_true hp (has_u8 hb).1 (has_u8 hb).2 (has_u8 hc).1 (has_u8 hc).2
  have h:=P6 p b c t.1
  rw [t.2] at h
  exact h.1
end Kz
namespace Go.Proofs.YtpkbiocmoklocaaGreatDoor
open Kz Go Go.RowKit Go.WideShapes Go.ChangeShapes Go.ChangeAt Go.Proofs
set_option maxRecDepth 100000
theorem par6:Tryz.f6.params=#[31,5,5]:=by kernel_rfl
theorem res6:Tryz.f6.resultTypes=#[4]:=by kernel_rfl
theorem rd6:∀ t ∈ Tryz.f6.params.toList,Tryz.prog.readableRec t=true∧t < Tryz.prog.types.size:=by
  rw [par6]
  have h:([31,5,5]:List TypeId).all (fun t=>Tryz.prog.readableRec t&&Nat.blt t Tryz.prog.types.size)=true:=by kernel_rfl
  intro t ht
  have:=List.all_eq_true.1 h t ht
  simp only [Bool.and_eq_true,Nat.blt_eq] at this
  exact this
theorem open6 (W:World) (base:Nat) (args:Array Value) (hl:args.size=Tryz.f6.params.size) (hval:∀ (j:Nat) t v,Tryz.f6.params[j]?=some t→args[j]?=some v→Value.okWide Tryz.prog W .any base t v) :
    ∃ xs,(∀ (g:Gh) (tk:List Nat) (w:World),RepL g tk w xs args.toList)∧PureSpec Pz 6 xs (.bool true):=by
  rw [par6] at hl
  obtain ⟨l⟩:=args
  obtain ⟨v0,v1,v2,rfl⟩:∃ v0 v1 v2,l=[v0,v1,v2]:=by
    match l,hl with
    | [v0,v1,v2],_=>exact ⟨_,_,_,rfl⟩
  obtain ⟨p0,h0,r0⟩:=pos_open (hval 0 31 v0 (by rw [par6]; rfl) rfl)
  obtain ⟨p1,h1,r1⟩:=int_open (k := .u8) under5 (hval 1 5 v1 (by rw [par6]; rfl) rfl)
  obtain ⟨p2,h2,r2⟩:=int_open (k := .u8) under5 (hval 2 5 v2 (by rw [par6]; rfl) rfl)
  exact ⟨[Pos.av p0,.int .u8 p1,.int .u8 p2],fun g tk w=>.cons (r0 _ _ _) (.cons (r1 _ _ _) (.cons (r2 _ _ _) .nil)),law6 p0 p1 p2 h0 h1 h2⟩
theorem laid_met6 (os:Os):laidMet Tryz.prog Rows.fenBadRow.laid ((laidWorld os).forCall (fun _ _=>0) ⟨#[],#[zeroPos,.int .u8 0,.int .u8 0],[]⟩).memory :=
  laid_met_all os _
theorem reads6 (os:Os) {H:Type} (enc:TypeId×Value→H):∃ places,DataW.whole enc Tryz.prog ((laidWorld os).forCall (fun _ _=>0) ⟨#[],#[zeroPos,.int .u8 0,.int .u8 0],[]⟩).memory Tryz.f6.params.toList Rows.fenBadSpec.vars false (#[zeroPos,.int .u8 0,.int .u8 0]:Array Value).toList 12=some ([zeroData,(.lit (.int .u8 0)),(.lit (.int .u8 0))],[],places) :=
  ⟨[],by kernel_rfl⟩
theorem lifted6 (os:Os) (started:os.Started) (H:Type) (enc:TypeId×Value→H) (F:Stop.Interp) :
    ReturnsInHanded {} Tryz.checked os 6 .any ((OpenSpec.ofChange Rows.fenBadSpec).preRow enc Tryz.prog Tryz.f6 Rows.fenBadRow.domain false Rows.fenBadRow.laid) (((OpenSpec.ofChange Rows.fenBadSpec).at F).post enc Tryz.prog Tryz.f6 false true false false):=by
  obtain ⟨places,hx⟩:=reads6 os enc
  refine returnsInHanded_of_row (C:=Tryz.checked) (s:=OpenSpec.ofChange Rows.fenBadSpec) own_z started (by kernel_rfl) Tryz.func6
    (witness_row_atRef (enc:=enc) (C:=Tryz.checked) false (laidWorld os) #[zeroPos,.int .u8 0,.int .u8 0] rfl (by kernel_rfl) (by kernel_rfl) (by kernel_rfl)
      (OpenSpec.preRow_of_cond 12 hx (by kernel_rfl) (fun k hk=>by cases hk) (by kernel_rfl) (laid_met6 os))) ?_
  intro W base args ds gs before hval hW _ _ _ hL hS _
  exact contract_of (f:=6) (fn:=Tryz.f6) (s:=Rows.fenBadSpec) res6 rfl rd6 (fun H ds hds=>by
    rw [par6] at hds
    match ds,hds with
    | [d0,d1,d2],_=>rfl) open6 H enc W base args ds gs before hval hW (globOk_laid hL hS)
theorem said6:Rows.FenBadSaid :=
  OpenClaim.holds_of_cond 6 Tryz.f6 rfl rfl rfl rfl rfl rfl rfl ⟨rfl,rfl,rfl,rfl,rfl⟩ rfl rfl rfl rfl rfl (by kernel_rfl) Tryz.func6 (by kernel_rfl)
    (of_decide_eq_true (by kernel_rfl)) (by unfold Func.isWrapper; first | (rw [if_pos (by decide +kernel)]; kernel_rfl) | (rw [if_neg (by decide +kernel)]; exact ⟨rfl,rfl⟩))
    (fun os started H enc _ F=>by rw [OpenClaim.pre_eq_preRow]; exact lifted6 os started H enc F)
theorem plain6 (f:FuncId) (fn:Func) (hf:Tryz.pinned.checked.prog.funcNamed Rows.fenBadRow.func=some f) (hfn:Tryz.pinned.checked.prog.funcs[f]?=some fn) :
    true=Tryz.pinned.checked.prog.looks []∧∀ (j:Nat) t,fn.params[j]?=some t→Tryz.pinned.checked.prog.wantsStandIn t=false:=by
  obtain rfl:f=6:=Option.some.inj ((show Tryz.prog.funcNamed Rows.fenBadRow.func=some 6 by kernel_rfl).symm.trans hf) |>.symm
  obtain rfl:fn=Tryz.f6:=(Option.some.inj (Tryz.func6.symm.trans hfn)).symm
  refine ⟨by kernel_rfl,fun j t ht => ?_⟩
  rw [par6] at ht
  have h:([31,5,5]:List TypeId).all (fun t => !Tryz.prog.wantsStandIn t)=true:=by kernel_rfl
  have hm:t ∈ ([31,5,5]:List TypeId):=by simpa using Array.mem_of_getElem? ht
  have hw:Tryz.prog.wantsStandIn t=false:=by simpa using List.all_eq_true.1 h t hm
  exact hw
theorem card6:Rows.FenBadCardSaid :=
  Claim7.holds_tied_plain_at .later [] _ _ _ _ said6 (fun _ h=>by cases h) (by kernel_rfl) (fun _ h=>by cases h) fenBad_row_tie rfl ⟨rfl,rfl⟩ (by kernel_rfl) rfl plain6 (by kernel_rfl)
end Go.Proofs.YtpkbiocmoklocaaGreatDoor
end
