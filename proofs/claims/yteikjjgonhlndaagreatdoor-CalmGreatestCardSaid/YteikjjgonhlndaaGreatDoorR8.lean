/- CalmGreatest: of a game that goes on,of a variant and a Turn that there are,a calm value with 1 to 3 takes (1 where there are more than 16 of both sides) is the greatest of what the position is worth and of the Gains of its takes; in Antichess of these alone,if there are any; without takes it is what the position is worth. No conditions. -/
import Derived.Test.YteikjjgonhlndaaGreatDoorR7
set_option linter.unusedSectionVars false
set_option linter.unusedVariables false
set_option linter.unusedSimpArgs false
set_option linter.unnecessarySimpa false
section
namespace Kz
open Go Go.RowKit
theorem law4 (p:Pos) (n:Int) (hp:PosIn p) (_:IntKind.has .i64 n):PureSpec Pz 4 [Pos.av p,.int .i64 n] (.bool true):=by
  have t:=N4_true hp n
  have h:=P4 p n t.1
  rw [t.2] at h
  exact h.1
end Kz
namespace Go.Proofs.YteikjjgonhlndaaGreatDoor
open Kz Go Go.RowKit Go.WideShapes Go.ChangeShapes Go.ChangeAt Go.Proofs
set_option maxRecDepth 100000
theorem par4:Tryz.f4.params=#[34,3]:=by kernel_rfl
theorem res4:Tryz.f4.resultTypes=#[4]:=by kernel_rfl
theorem rd4:∀ t ∈ Tryz.f4.params.toList,Tryz.prog.readableRec t=true∧t < Tryz.prog.types.size:=by
  rw [par4]
  have h:([34,3]:List TypeId).all (fun t=>Tryz.prog.readableRec t&&Nat.blt t Tryz.prog.types.size)=true:=by kernel_rfl
  intro t ht
  have:=List.all_eq_true.1 h t ht
  simp only [Bool.and_eq_true,Nat.blt_eq] at this
  exact this
theorem open4 (W:World) (base:Nat) (args:Array Value) (hl:args.size=Tryz.f4.params.size) (hval:∀ (j:Nat) t v,Tryz.f4.params[j]?=some t→args[j]?=some v→Value.okWide Tryz.prog W .any base t v) :
    ∃ xs,(∀ (g:Gh) (tk:List Nat) (w:World),RepL g tk w xs args.toList)∧PureSpec Pz 4 xs (.bool true):=by
  rw [par4] at hl
  obtain ⟨l⟩:=args
  obtain ⟨v0,v1,rfl⟩:∃ v0 v1,l=[v0,v1]:=by
    match l,hl with
    | [v0,v1],_=>exact ⟨_,_,rfl⟩
  obtain ⟨p0,h0,r0⟩:=pos_open (hval 0 34 v0 (by rw [par4]; rfl) rfl)
  obtain ⟨p1,h1,r1⟩:=int_open (k := .i64) under3 (hval 1 3 v1 (by rw [par4]; rfl) rfl)
  exact ⟨[Pos.av p0,.int .i64 p1],fun g tk w=>.cons (r0 _ _ _) (.cons (r1 _ _ _) .nil),law4 p0 p1 h0 h1⟩
theorem laid_met4 (os:Os):laidMet Tryz.prog Rows.calmGreatestRow.laid ((laidWorld os).forCall (fun _ _=>0) ⟨#[],#[zeroPos,.int .i64 0],[]⟩).memory :=
  laidMet_of_run' 12 (by kernel_rfl) (by kernel_rfl)
theorem reads4 (os:Os) {H:Type} (enc:TypeId×Value→H):∃ places,DataW.whole enc Tryz.prog ((laidWorld os).forCall (fun _ _=>0) ⟨#[],#[zeroPos,.int .i64 0],[]⟩).memory Tryz.f4.params.toList Rows.calmGreatestSpec.vars false (#[zeroPos,.int .i64 0]:Array Value).toList 12=some ([zeroData,(.lit (.int .i64 0))],[],places) :=
  ⟨[],by kernel_rfl⟩
theorem lifted4 (os:Os) (started:os.Started) (H:Type) (enc:TypeId×Value→H) (F:Stop.Interp) :
    ReturnsInHanded {} Tryz.checked os 4 .any ((OpenSpec.ofChange Rows.calmGreatestSpec).preRow enc Tryz.prog Tryz.f4 Rows.calmGreatestRow.domain false Rows.calmGreatestRow.laid) (((OpenSpec.ofChange Rows.calmGreatestSpec).at F).post enc Tryz.prog Tryz.f4 false true false false):=by
  obtain ⟨places,hx⟩:=reads4 os enc
  refine returnsInHanded_of_row (C:=Tryz.checked) (s:=OpenSpec.ofChange Rows.calmGreatestSpec) own_z started (by kernel_rfl) Tryz.func4
    (witness_row_at (enc:=enc) (C:=Tryz.checked) false (laidWorld os) #[zeroPos,.int .i64 0] rfl (by kernel_rfl) (by kernel_rfl) (by kernel_rfl)
      (OpenSpec.preRow_of_cond 12 hx (by kernel_rfl) (fun k hk=>by cases hk) (by kernel_rfl) (laid_met4 os))) ?_
  intro W base args ds gs before hval hW _ _ _ hL _ _
  exact contract_of (f:=4) (fn:=Tryz.f4) (s:=Rows.calmGreatestSpec) res4 rfl rd4 (fun H ds hds=>by
    rw [par4] at hds
    match ds,hds with
    | [d0,d1],_=>rfl) open4 H enc W base args ds gs before hval hW (globOk_laid hL)
theorem said4:Rows.CalmGreatestSaid :=
  OpenClaim.holds_of_cond 4 Tryz.f4 rfl rfl rfl rfl rfl rfl rfl ⟨rfl,rfl,rfl,rfl,rfl⟩ rfl rfl rfl rfl rfl (by kernel_rfl) Tryz.func4 (by kernel_rfl)
    (of_decide_eq_true (by kernel_rfl)) (by unfold Func.isWrapper; first | (rw [if_pos (by decide +kernel)]; kernel_rfl) | (rw [if_neg (by decide +kernel)]; exact ⟨rfl,rfl⟩))
    (fun os started H enc _ F=>by rw [OpenClaim.pre_eq_preRow]; exact lifted4 os started H enc F)
theorem plain4 (f:FuncId) (fn:Func) (hf:Tryz.pinned.checked.prog.funcNamed Rows.calmGreatestRow.func=some f) (hfn:Tryz.pinned.checked.prog.funcs[f]?=some fn) :
    true=Tryz.pinned.checked.prog.looks []∧∀ (j:Nat) t,fn.params[j]?=some t→Tryz.pinned.checked.prog.wantsStandIn t=false:=by
  obtain rfl:f=4:=Option.some.inj ((show Tryz.prog.funcNamed Rows.calmGreatestRow.func=some 4 by kernel_rfl).symm.trans hf) |>.symm
  obtain rfl:fn=Tryz.f4:=(Option.some.inj (Tryz.func4.symm.trans hfn)).symm
  refine ⟨by kernel_rfl,fun j t ht => ?_⟩
  rw [par4] at ht
  have h:([34,3]:List TypeId).all (fun t => !Tryz.prog.wantsStandIn t)=true:=by kernel_rfl
  have hm:t ∈ ([34,3]:List TypeId):=by simpa using Array.mem_of_getElem? ht
  have hw:Tryz.prog.wantsStandIn t=false:=by simpa using List.all_eq_true.1 h t hm
  exact hw
theorem card4:Rows.CalmGreatestCardSaid :=
  Claim7.holds_tied_plain_at .later [] _ _ _ _ said4 (fun _ h=>by cases h) (by kernel_rfl) (fun _ h=>by cases h) calmGreatest_row_tie rfl ⟨rfl,rfl⟩ (by kernel_rfl) rfl plain4 (by kernel_rfl)
end Go.Proofs.YteikjjgonhlndaaGreatDoor
end
