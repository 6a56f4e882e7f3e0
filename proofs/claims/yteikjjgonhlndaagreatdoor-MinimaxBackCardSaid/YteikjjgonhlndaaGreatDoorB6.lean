/- minimax.Back answers as the document says,and the chapter's rows hold; for every number,without a condition. -/
import Derived.Test.YteikjjgonhlndaaGreatDoorB5
set_option linter.unusedSectionVars false
set_option linter.unusedVariables false
set_option linter.unusedSimpArgs false
set_option linter.unnecessarySimpa false
section
namespace Kz
open Go Go.RowKit
noncomputable def B3:Base:=baseOf Pz (fun _ _=>[]) [(7,G7),(8,G8),(9,g0 (.ret (dB.res true)))] [] []
theorem hB3:BOk B3:=base_ok named_z ⟨s7,s8,sound0 (at_rt P9),trivial⟩ trivial trivial
theorem P3 (a:Int):PS Pz 3 [.int .i64 a] (dB.res (bif N7 a==N8 a then true else false)):=ps_sum (n:=14) (ok:=true) hB3 (by kernel_rfl) (by kernel_rfl) (by kernel_rfl) rfl
theorem N7_eq (a:Int):N7 a=N8 a:=by kernel_rfl
theorem law3 (a:Int) (_:IntKind.has .i64 a):PureSpec Pz 3 [.int .i64 a] (.bool true):=by
  have h:=P3 a
  rw [N7_eq,beq_self_eq_true] at h
  exact h.1
end Kz
namespace Go.Proofs.YteikjjgonhlndaaGreatDoor
open Kz Go Go.RowKit Go.WideShapes Go.ChangeShapes Go.ChangeAt Go.Proofs
set_option maxRecDepth 100000
theorem par3:Tryz.f3.params=#[3]:=by kernel_rfl
theorem res3:Tryz.f3.resultTypes=#[4]:=by kernel_rfl
theorem rd3:∀ t ∈ Tryz.f3.params.toList,Tryz.prog.readableRec t=true∧t < Tryz.prog.types.size:=by
  rw [par3]
  have h:([3]:List TypeId).all (fun t=>Tryz.prog.readableRec t&&Nat.blt t Tryz.prog.types.size)=true:=by kernel_rfl
  intro t ht
  have:=List.all_eq_true.1 h t ht
  simp only [Bool.and_eq_true,Nat.blt_eq] at this
  exact this
theorem open3 (W:World) (base:Nat) (args:Array Value) (hl:args.size=Tryz.f3.params.size) (hval:∀ (j:Nat) t v,Tryz.f3.params[j]?=some t→args[j]?=some v→Value.okWide Tryz.prog W .any base t v) :
    ∃ xs,(∀ (g:Gh) (tk:List Nat) (w:World),RepL g tk w xs args.toList)∧PureSpec Pz 3 xs (.bool true):=by
  rw [par3] at hl
  obtain ⟨l⟩:=args
  obtain ⟨v0,rfl⟩:∃ v0,l=[v0]:=by
    match l,hl with
    | [v0],_=>exact ⟨_,rfl⟩
  obtain ⟨p0,h0,r0⟩:=int_open (k := .i64) under3 (hval 0 3 v0 (by rw [par3]; rfl) rfl)
  exact ⟨[.int .i64 p0],fun g tk w=>.cons (r0 _ _ _) .nil,law3 p0 h0⟩
theorem laid_met3 (os:Os):laidMet Tryz.prog Rows.minimaxBackRow.laid ((laidWorld os).forCall (fun _ _=>0) ⟨#[],#[.int .i64 0],[]⟩).memory :=
  laidMet_of_run' 12 (by kernel_rfl) (by kernel_rfl)
theorem reads3 (os:Os) {H:Type} (enc:TypeId×Value→H):∃ places,DataW.whole enc Tryz.prog ((laidWorld os).forCall (fun _ _=>0) ⟨#[],#[.int .i64 0],[]⟩).memory Tryz.f3.params.toList Rows.minimaxBackSpec.vars false (#[.int .i64 0]:Array Value).toList 12=some ([(.lit (.int .i64 0))],[],places) :=
  ⟨[],by kernel_rfl⟩
theorem lifted3 (os:Os) (started:os.Started) (H:Type) (enc:TypeId×Value→H) (F:Stop.Interp) :
    ReturnsInHanded {} Tryz.checked os 3 .any ((OpenSpec.ofChange Rows.minimaxBackSpec).preRow enc Tryz.prog Tryz.f3 Rows.minimaxBackRow.domain false Rows.minimaxBackRow.laid) (((OpenSpec.ofChange Rows.minimaxBackSpec).at F).post enc Tryz.prog Tryz.f3 false true false false):=by
  obtain ⟨places,hx⟩:=reads3 os enc
  refine returnsInHanded_of_row (C:=Tryz.checked) (s:=OpenSpec.ofChange Rows.minimaxBackSpec) own_z started (by kernel_rfl) Tryz.func3
    (witness_row_at (enc:=enc) (C:=Tryz.checked) false (laidWorld os) #[.int .i64 0] rfl (by kernel_rfl) (by kernel_rfl) (by kernel_rfl)
      (OpenSpec.preRow_of_cond 12 hx (by kernel_rfl) (fun k hk=>by cases hk) (by kernel_rfl) (laid_met3 os))) ?_
  intro W base args ds gs before hval hW _ _ _ hL _ _
  exact contract_of (f:=3) (fn:=Tryz.f3) (s:=Rows.minimaxBackSpec) res3 rfl rd3 (fun H ds hds=>by
    rw [par3] at hds
    match ds,hds with
    | [d0],_=>rfl) open3 H enc W base args ds gs before hval hW (globOk_laid hL)
theorem said3:Rows.MinimaxBackSaid :=
  OpenClaim.holds_of_cond 3 Tryz.f3 rfl rfl rfl rfl rfl rfl rfl ⟨rfl,rfl,rfl,rfl,rfl⟩ rfl rfl rfl rfl rfl (by kernel_rfl) Tryz.func3 (by kernel_rfl)
    (of_decide_eq_true (by kernel_rfl)) (by unfold Func.isWrapper; first | (rw [if_pos (by decide +kernel)]; kernel_rfl) | (rw [if_neg (by decide +kernel)]; exact ⟨rfl,rfl⟩))
    (fun os started H enc _ F=>by rw [OpenClaim.pre_eq_preRow]; exact lifted3 os started H enc F)
theorem plain3 (f:FuncId) (fn:Func) (hf:Tryz.pinned.checked.prog.funcNamed Rows.minimaxBackRow.func=some f) (hfn:Tryz.pinned.checked.prog.funcs[f]?=some fn) :
    true=Tryz.pinned.checked.prog.looks []∧∀ (j:Nat) t,fn.params[j]?=some t→Tryz.pinned.checked.prog.wantsStandIn t=false:=by
  obtain rfl:f=3:=Option.some.inj ((show Tryz.prog.funcNamed Rows.minimaxBackRow.func=some 3 by kernel_rfl).symm.trans hf) |>.symm
  obtain rfl:fn=Tryz.f3:=(Option.some.inj (Tryz.func3.symm.trans hfn)).symm
  refine ⟨by kernel_rfl,fun j t ht => ?_⟩
  rw [par3] at ht
  have h:([3]:List TypeId).all (fun t => !Tryz.prog.wantsStandIn t)=true:=by kernel_rfl
  have hm:t ∈ ([3]:List TypeId):=by simpa using Array.mem_of_getElem? ht
  have hw:Tryz.prog.wantsStandIn t=false:=by simpa using List.all_eq_true.1 h t hm
  exact hw
theorem card3:Rows.MinimaxBackCardSaid :=
  Claim7.holds_tied_plain_at .later [] _ _ _ _ said3 (fun _ h=>by cases h) (by kernel_rfl) (fun _ h=>by cases h) minimaxBack_row_tie rfl ⟨rfl,rfl⟩ (by kernel_rfl) rfl plain3 (by kernel_rfl)
end Go.Proofs.YteikjjgonhlndaaGreatDoor
end
