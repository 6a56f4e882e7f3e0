/- FenClocks: of any position that has a text and any two numbers put in place of its clocks: the text with them is the same but for them,in decimal digits at its end,and there is none if one of them may not be; the chapter's examples hold. No conditions. -/
import Derived.Test.YtpkbiocmoklocaaGreatDoorC5
set_option linter.unusedSectionVars false
set_option linter.unusedVariables false
set_option linter.unusedSimpArgs false
set_option linter.unnecessarySimpa false
section
namespace Kz
open Go Go.RowKit
theorem law5 (p:Pos) (b c:Int) (hp:PosIn p) (hb:IntKind.has .i64 b) (hc:IntKind.has .i64 c):PureSpec Pz 5 [Pos.av p,.int .i64 b,.int .i64 c] (.bool true):=by
  have t:=N5_true hp (has_i64 hb) (has_i64 hc)
  have h:=P5 p b c t.1
  rw [t.2] at h
  exact h.1
end Kz
namespace Go.Proofs.YtpkbiocmoklocaaGreatDoor
open Kz Go Go.RowKit Go.WideShapes Go.ChangeShapes Go.ChangeAt Go.Proofs
set_option maxRecDepth 100000
theorem par5:Tryz.f5.params=#[31,3,3]:=by kernel_rfl
theorem res5:Tryz.f5.resultTypes=#[4]:=by kernel_rfl
theorem rd5:∀ t ∈ Tryz.f5.params.toList,Tryz.prog.readableRec t=true∧t < Tryz.prog.types.size:=by
  rw [par5]
  have h:([31,3,3]:List TypeId).all (fun t=>Tryz.prog.readableRec t&&Nat.blt t Tryz.prog.types.size)=true:=by kernel_rfl
  intro t ht
  have:=List.all_eq_true.1 h t ht
  simp only [Bool.and_eq_true,Nat.blt_eq] at this
  exact this
theorem open5 (W:World) (base:Nat) (args:Array Value) (hl:args.size=Tryz.f5.params.size) (hval:∀ (j:Nat) t v,Tryz.f5.params[j]?=some t→args[j]?=some v→Value.okWide Tryz.prog W .any base t v) :
    ∃ xs,(∀ (g:Gh) (tk:List Nat) (w:World),RepL g tk w xs args.toList)∧PureSpec Pz 5 xs (.bool true):=by
  rw [par5] at hl
  obtain ⟨l⟩:=args
  obtain ⟨v0,v1,v2,rfl⟩:∃ v0 v1 v2,l=[v0,v1,v2]:=by
    match l,hl with
    | [v0,v1,v2],_=>exact ⟨_,_,_,rfl⟩
  obtain ⟨p0,h0,r0⟩:=pos_open (hval 0 31 v0 (by rw [par5]; rfl) rfl)
  obtain ⟨p1,h1,r1⟩:=int_open (k := .i64) under3 (hval 1 3 v1 (by rw [par5]; rfl) rfl)
  obtain ⟨p2,h2,r2⟩:=int_open (k := .i64) under3 (hval 2 3 v2 (by rw [par5]; rfl) rfl)
  exact ⟨[Pos.av p0,.int .i64 p1,.int .i64 p2],fun g tk w=>.cons (r0 _ _ _) (.cons (r1 _ _ _) (.cons (r2 _ _ _) .nil)),law5 p0 p1 p2 h0 h1 h2⟩
theorem laid_met5 (os:Os):laidMet Tryz.prog Rows.fenClocksRow.laid ((laidWorld os).forCall (fun _ _=>0) ⟨#[],#[zeroPos,.int .i64 0,.int .i64 0],[]⟩).memory :=
  laid_met_all os _
theorem reads5 (os:Os) {H:Type} (enc:TypeId×Value→H):∃ places,DataW.whole enc Tryz.prog ((laidWorld os).forCall (fun _ _=>0) ⟨#[],#[zeroPos,.int .i64 0,.int .i64 0],[]⟩).memory Tryz.f5.params.toList Rows.fenClocksSpec.vars false (#[zeroPos,.int .i64 0,.int .i64 0]:Array Value).toList 12=some ([zeroData,(.lit (.int .i64 0)),(.lit (.int .i64 0))],[],places) :=
  ⟨[],by kernel_rfl⟩
theorem lifted5 (os:Os) (started:os.Started) (H:Type) (enc:TypeId×Value→H) (F:Stop.Interp) :
    ReturnsInHanded {} Tryz.checked os 5 .any ((OpenSpec.ofChange Rows.fenClocksSpec).preRow enc Tryz.prog Tryz.f5 Rows.fenClocksRow.domain false Rows.fenClocksRow.laid) (((OpenSpec.ofChange Rows.fenClocksSpec).at F).post enc Tryz.prog Tryz.f5 false true false false):=by
  obtain ⟨places,hx⟩:=reads5 os enc
  refine returnsInHanded_of_row (C:=Tryz.checked) (s:=OpenSpec.ofChange Rows.fenClocksSpec) own_z started (by kernel_rfl) Tryz.func5
    (witness_row_atRef (enc:=enc) (C:=Tryz.checked) false (laidWorld os) #[zeroPos,.int .i64 0,.int .i64 0] rfl (by kernel_rfl) (by kernel_rfl) (by kernel_rfl)
      (OpenSpec.preRow_of_cond 12 hx (by kernel_rfl) (fun k hk=>by cases hk) (by kernel_rfl) (laid_met5 os))) ?_
  intro W base args ds gs before hval hW _ _ _ hL hS _
  exact contract_of (f:=5) (fn:=Tryz.f5) (s:=Rows.fenClocksSpec) res5 rfl rd5 (fun H ds hds=>by
    rw [par5] at hds
    match ds,hds with
    | [d0,d1,d2],_=>rfl) open5 H enc W base args ds gs before hval hW (globOk_laid hL hS)
theorem said5:Rows.FenClocksSaid :=
  OpenClaim.holds_of_cond 5 Tryz.f5 rfl rfl rfl rfl rfl rfl rfl ⟨rfl,rfl,rfl,rfl,rfl⟩ rfl rfl rfl rfl rfl (by kernel_rfl) Tryz.func5 (by kernel_rfl)
    (of_decide_eq_true (by kernel_rfl)) (by unfold Func.isWrapper; first | (rw [if_pos (by decide +kernel)]; kernel_rfl) | (rw [if_neg (by decide +kernel)]; exact ⟨rfl,rfl⟩))
    (fun os started H enc _ F=>by rw [OpenClaim.pre_eq_preRow]; exact lifted5 os started H enc F)
theorem plain5 (f:FuncId) (fn:Func) (hf:Tryz.pinned.checked.prog.funcNamed Rows.fenClocksRow.func=some f) (hfn:Tryz.pinned.checked.prog.funcs[f]?=some fn) :
    true=Tryz.pinned.checked.prog.looks []∧∀ (j:Nat) t,fn.params[j]?=some t→Tryz.pinned.checked.prog.wantsStandIn t=false:=by
  obtain rfl:f=5:=Option.some.inj ((show Tryz.prog.funcNamed Rows.fenClocksRow.func=some 5 by kernel_rfl).symm.trans hf) |>.symm
  obtain rfl:fn=Tryz.f5:=(Option.some.inj (Tryz.func5.symm.trans hfn)).symm
  refine ⟨by kernel_rfl,fun j t ht => ?_⟩
  rw [par5] at ht
  have h:([31,3,3]:List TypeId).all (fun t => !Tryz.prog.wantsStandIn t)=true:=by kernel_rfl
  have hm:t ∈ ([31,3,3]:List TypeId):=by simpa using Array.mem_of_getElem? ht
  have hw:Tryz.prog.wantsStandIn t=false:=by simpa using List.all_eq_true.1 h t hm
  exact hw
theorem card5:Rows.FenClocksCardSaid :=
  Claim7.holds_tied_plain_at .later [] _ _ _ _ said5 (fun _ h=>by cases h) (by kernel_rfl) (fun _ h=>by cases h) fenClocks_row_tie rfl ⟨rfl,rfl⟩ (by kernel_rfl) rfl plain5 (by kernel_rfl)
end Go.Proofs.YtpkbiocmoklocaaGreatDoor
end
