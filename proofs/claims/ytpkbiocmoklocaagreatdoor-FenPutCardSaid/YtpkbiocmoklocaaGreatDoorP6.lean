/- FenPut: of any position in which no rook may castle,any empty square and any piece: the text of the position with the piece put there differs from the position's own text in the board's field alone,and there is one unless it is too long; the chapter's examples hold. No conditions. -/
import Derived.Test.YtpkbiocmoklocaaGreatDoorP5
set_option linter.unusedSectionVars false
set_option linter.unusedVariables false
set_option linter.unusedSimpArgs false
set_option linter.unnecessarySimpa false
section
namespace Kz
open Go Go.RowKit
theorem law7 (p:Pos) (b c:Int) (hp:PosIn p) (hb:IntKind.has .i64 b) (hc:IntKind.has .u8 c):PureSpec Pz 7 [Pos.av p,.int .i64 b,.int .u8 c] (.bool true):=by
  have t:=N7_true hp (has_i64 hb) (has_u8 hc)
  have h:=P7 p b c t.1
  rw [t.2] at h
  exact h.1
end Kz
namespace Go.Proofs.YtpkbiocmoklocaaGreatDoor
open Kz Go Go.RowKit Go.WideShapes Go.ChangeShapes Go.ChangeAt Go.Proofs
set_option maxRecDepth 100000
theorem par7:Tryz.f7.params=#[31,3,5]:=by kernel_rfl
theorem res7:Tryz.f7.resultTypes=#[4]:=by kernel_rfl
theorem rd7:∀ t ∈ Tryz.f7.params.toList,Tryz.prog.readableRec t=true∧t < Tryz.prog.types.size:=by
  rw [par7]
  have h:([31,3,5]:List TypeId).all (fun t=>Tryz.prog.readableRec t&&Nat.blt t Tryz.prog.types.size)=true:=by kernel_rfl
  intro t ht
  have:=List.all_eq_true.1 h t ht
  simp only [Bool.and_eq_true,Nat.blt_eq] at this
  exact this
theorem open7 (W:World) (base:Nat) (args:Array Value) (hl:args.size=Tryz.f7.params.size) (hval:∀ (j:Nat) t v,Tryz.f7.params[j]?=some t→args[j]?=some v→Value.okWide Tryz.prog W .any base t v) :
    ∃ xs,(∀ (g:Gh) (tk:List Nat) (w:World),RepL g tk w xs args.toList)∧PureSpec Pz 7 xs (.bool true):=by
  rw [par7] at hl
  obtain ⟨l⟩:=args
  obtain ⟨v0,v1,v2,rfl⟩:∃ v0 v1 v2,l=[v0,v1,v2]:=by
    match l,hl with
    | [v0,v1,v2],_=>exact ⟨_,_,_,rfl⟩
  obtain ⟨p0,h0,r0⟩:=pos_open (hval 0 31 v0 (by rw [par7]; rfl) rfl)
  obtain ⟨p1,h1,r1⟩:=int_open (k := .i64) under3 (hval 1 3 v1 (by rw [par7]; rfl) rfl)
  obtain ⟨p2,h2,r2⟩:=int_open (k := .u8) under5 (hval 2 5 v2 (by rw [par7]; rfl) rfl)
  exact ⟨[Pos.av p0,.int .i64 p1,.int .u8 p2],fun g tk w=>.cons (r0 _ _ _) (.cons (r1 _ _ _) (.cons (r2 _ _ _) .nil)),law7 p0 p1 p2 h0 h1 h2⟩
theorem laid_met7 (os:Os):laidMet Tryz.prog Rows.fenPutRow.laid ((laidWorld os).forCall (fun _ _=>0) ⟨#[],#[zeroPos,.int .i64 0,.int .u8 0],[]⟩).memory :=
  laid_met_all os _
theorem reads7 (os:Os) {H:Type} (enc:TypeId×Value→H):∃ places,DataW.whole enc Tryz.prog ((laidWorld os).forCall (fun _ _=>0) ⟨#[],#[zeroPos,.int .i64 0,.int .u8 0],[]⟩).memory Tryz.f7.params.toList Rows.fenPutSpec.vars false (#[zeroPos,.int .i64 0,.int .u8 0]:Array Value).toList 12=some ([zeroData,(.lit (.int .i64 0)),(.lit (.int .u8 0))],[],places) :=
  ⟨[],by kernel_rfl⟩
theorem lifted7 (os:Os) (started:os.Started) (H:Type) (enc:TypeId×Value→H) (F:Stop.Interp) :
    ReturnsInHanded {} Tryz.checked os 7 .any ((OpenSpec.ofChange Rows.fenPutSpec).preRow enc Tryz.prog Tryz.f7 Rows.fenPutRow.domain false Rows.fenPutRow.laid) (((OpenSpec.ofChange Rows.fenPutSpec).at F).post enc Tryz.prog Tryz.f7 false true false false):=by
  obtain ⟨places,hx⟩:=reads7 os enc
  refine returnsInHanded_of_row (C:=Tryz.checked) (s:=OpenSpec.ofChange Rows.fenPutSpec) own_z started (by kernel_rfl) Tryz.func7
    (witness_row_atRef (enc:=enc) (C:=Tryz.checked) false (laidWorld os) #[zeroPos,.int .i64 0,.int .u8 0] rfl (by kernel_rfl) (by kernel_rfl) (by kernel_rfl)
      (OpenSpec.preRow_of_cond 12 hx (by kernel_rfl) (fun k hk=>by cases hk) (by kernel_rfl) (laid_met7 os))) ?_
  intro W base args ds gs before hval hW _ _ _ hL hS _
  exact contract_of (f:=7) (fn:=Tryz.f7) (s:=Rows.fenPutSpec) res7 rfl rd7 (fun H ds hds=>by
    rw [par7] at hds
    match ds,hds with
    | [d0,d1,d2],_=>rfl) open7 H enc W base args ds gs before hval hW (globOk_laid hL hS)
theorem said7:Rows.FenPutSaid :=
  OpenClaim.holds_of_cond 7 Tryz.f7 rfl rfl rfl rfl rfl rfl rfl ⟨rfl,rfl,rfl,rfl,rfl⟩ rfl rfl rfl rfl rfl (by kernel_rfl) Tryz.func7 (by kernel_rfl)
    (of_decide_eq_true (by kernel_rfl)) (by unfold Func.isWrapper; first | (rw [if_pos (by decide +kernel)]; kernel_rfl) | (rw [if_neg (by decide +kernel)]; exact ⟨rfl,rfl⟩))
    (fun os started H enc _ F=>by rw [OpenClaim.pre_eq_preRow]; exact lifted7 os started H enc F)
theorem plain7 (f:FuncId) (fn:Func) (hf:Tryz.pinned.checked.prog.funcNamed Rows.fenPutRow.func=some f) (hfn:Tryz.pinned.checked.prog.funcs[f]?=some fn) :
    true=Tryz.pinned.checked.prog.looks []∧∀ (j:Nat) t,fn.params[j]?=some t→Tryz.pinned.checked.prog.wantsStandIn t=false:=by
  obtain rfl:f=7:=Option.some.inj ((show Tryz.prog.funcNamed Rows.fenPutRow.func=some 7 by kernel_rfl).symm.trans hf) |>.symm
  obtain rfl:fn=Tryz.f7:=(Option.some.inj (Tryz.func7.symm.trans hfn)).symm
  refine ⟨by kernel_rfl,fun j t ht => ?_⟩
  rw [par7] at ht
  have h:([31,3,5]:List TypeId).all (fun t => !Tryz.prog.wantsStandIn t)=true:=by kernel_rfl
  have hm:t ∈ ([31,3,5]:List TypeId):=by simpa using Array.mem_of_getElem? ht
  have hw:Tryz.prog.wantsStandIn t=false:=by simpa using List.all_eq_true.1 h t hm
  exact hw
theorem card7:Rows.FenPutCardSaid :=
  Claim7.holds_tied_plain_at .later [] _ _ _ _ said7 (fun _ h=>by cases h) (by kernel_rfl) (fun _ h=>by cases h) fenPut_row_tie rfl ⟨rfl,rfl⟩ (by kernel_rfl) rfl plain7 (by kernel_rfl)
end Go.Proofs.YtpkbiocmoklocaaGreatDoor
end
