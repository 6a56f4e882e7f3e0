/- A searcher that nobody made is none: its methods tell so,of every question; and the chapter's rows hold. No condition. -/
import Derived.Test.YtlmhenicjeonjaaGreatDoorN5
set_option linter.unusedSectionVars false
set_option linter.unusedVariables false
set_option linter.unusedSimpArgs false
set_option linter.unnecessarySimpa false
section
namespace Kz
open Go Go.RowKit
noncomputable def B0:Base:=baseOf Pz (fun _ _=>[]) [] [] []
theorem hB0:BOk B0:=base_ok named_z trivial trivial trivial
theorem sB0 (f:Nat):Sound Pz f (evPure B0 30 f):=fun _ _ h=>evPure_ok hB0 h
noncomputable def B3:Base:=baseOf Pz (fun _ _=>[]) [(8,g0 (.ret (dB.res true))),(4,evPure B0 30 4),(5,evPure B0 30 5)] [] []
theorem hB3:BOk B3:=base_ok named_z ⟨sound0 (at_rt P8),sB0 4,sB0 5,trivial⟩ trivial trivial
theorem Q3 (p:Pos) (d n:Int):isTr (evPure B3 40 3 [askAV p d n]).get=true:=by kernel_rfl
theorem law3 (x:Pos×Int×Int) (_:True):PureSpec Pz 3 [askAV x.1 x.2.1 x.2.2] (.bool true):=by
  obtain ⟨v,h1,h2⟩:=isTr_dec (Q3 x.1 x.2.1 x.2.2)
  exact (ps_of hB3 h1 dB h2).1
end Kz
namespace Go.Proofs.YtlmhenicjeonjaaGreatDoor
open Kz Go Go.RowKit Go.WideShapes Go.ChangeShapes Go.ChangeAt Go.Proofs
set_option maxRecDepth 100000
theorem par3:Tryz.f3.params=#[33]:=by kernel_rfl
theorem res3:Tryz.f3.resultTypes=#[4]:=by kernel_rfl
theorem rd3:∀ t ∈ Tryz.f3.params.toList,Tryz.prog.readableRec t=true∧t < Tryz.prog.types.size:=by
  rw [par3]
  have h:([33]:List TypeId).all (fun t=>Tryz.prog.readableRec t&&Nat.blt t Tryz.prog.types.size)=true:=by kernel_rfl
  intro t ht
  have:=List.all_eq_true.1 h t ht
  simp only [Bool.and_eq_true,Nat.blt_eq] at this
  exact this
theorem open3 (W:World) (base:Nat) (args:Array Value) (hl:args.size=Tryz.f3.params.size) (hval:∀ (j:Nat) t v,Tryz.f3.params[j]?=some t→args[j]?=some v→Value.okWide Tryz.prog W .any base t v) :
    ∃ xs,(∀ (g:Gh) (tk:List Nat) (w:World),RepL g tk w xs args.toList)∧PureSpec Pz 3 xs (.bool true):=by
  rw [par3] at hl
  obtain ⟨l⟩:=args
  obtain ⟨v0,rfl⟩:∃ v0,l=[v0]:=by
    match l,hl with
    | [v0],_=>exact ⟨_,rfl⟩
  obtain ⟨p0,h0,r0⟩:=ask_open (hval 0 33 v0 (by rw [par3]; rfl) rfl)
  exact ⟨[askAV p0.1 p0.2.1 p0.2.2],fun g tk w=>.cons (r0 _ _ _) .nil,law3 p0 h0⟩
theorem laid_met3 (os:Os):laidMet Tryz.prog Rows.searchNilRow.laid ((laidWorld os).forCall (fun _ _=>0) ⟨#[],#[zeroAsk],[]⟩).memory :=
  laidMet_of_run' 12 (by kernel_rfl) (by kernel_rfl)
theorem reads3 (os:Os) {H:Type} (enc:TypeId×Value→H):∃ places,DataW.whole enc Tryz.prog ((laidWorld os).forCall (fun _ _=>0) ⟨#[],#[zeroAsk],[]⟩).memory Tryz.f3.params.toList Rows.searchNilSpec.vars false (#[zeroAsk]:Array Value).toList 12=some ([zeroAskData],[],places) :=
  ⟨[],by kernel_rfl⟩
theorem lifted3 (os:Os) (started:os.Started) (H:Type) (enc:TypeId×Value→H) (F:Stop.Interp) :
    ReturnsInHanded {} Tryz.checked os 3 .any ((OpenSpec.ofChange Rows.searchNilSpec).preRow enc Tryz.prog Tryz.f3 Rows.searchNilRow.domain false Rows.searchNilRow.laid) (((OpenSpec.ofChange Rows.searchNilSpec).at F).post enc Tryz.prog Tryz.f3 false true false false):=by
  obtain ⟨places,hx⟩:=reads3 os enc
  refine returnsInHanded_of_row (C:=Tryz.checked) (s:=OpenSpec.ofChange Rows.searchNilSpec) own_z started (by kernel_rfl) Tryz.func3
    (witness_row_at (enc:=enc) (C:=Tryz.checked) false (laidWorld os) #[zeroAsk] rfl (by kernel_rfl) (by kernel_rfl) (by kernel_rfl)
      (OpenSpec.preRow_of_cond 12 hx (by kernel_rfl) (fun k hk=>by cases hk) (by kernel_rfl) (laid_met3 os))) ?_
  intro W base args ds gs before hval hW _ _ _ hL _ _
  exact contract_of (f:=3) (fn:=Tryz.f3) (s:=Rows.searchNilSpec) res3 rfl rd3 (fun H ds hds=>by
    rw [par3] at hds
    match ds,hds with
    | [d0],_=>rfl) open3 H enc W base args ds gs before hval hW (globOk_laid hL)
theorem said3:Rows.SearchNilSaid :=
  OpenClaim.holds_of_cond 3 Tryz.f3 rfl rfl rfl rfl rfl rfl rfl ⟨rfl,rfl,rfl,rfl,rfl⟩ rfl rfl rfl rfl rfl (by kernel_rfl) Tryz.func3 (by kernel_rfl)
    (of_decide_eq_true (by kernel_rfl)) (by unfold Func.isWrapper; first | (rw [if_pos (by decide +kernel)]; kernel_rfl) | (rw [if_neg (by decide +kernel)]; exact ⟨rfl,rfl⟩))
    (fun os started H enc _ F=>by rw [OpenClaim.pre_eq_preRow]; exact lifted3 os started H enc F)
theorem plain3 (f:FuncId) (fn:Func) (hf:Tryz.pinned.checked.prog.funcNamed Rows.searchNilRow.func=some f) (hfn:Tryz.pinned.checked.prog.funcs[f]?=some fn) :
    true=Tryz.pinned.checked.prog.looks []∧∀ (j:Nat) t,fn.params[j]?=some t→Tryz.pinned.checked.prog.wantsStandIn t=false:=by
  obtain rfl:f=3:=Option.some.inj ((show Tryz.prog.funcNamed Rows.searchNilRow.func=some 3 by kernel_rfl).symm.trans hf) |>.symm
  obtain rfl:fn=Tryz.f3:=(Option.some.inj (Tryz.func3.symm.trans hfn)).symm
  refine ⟨by kernel_rfl,fun j t ht => ?_⟩
  rw [par3] at ht
  have h:([33]:List TypeId).all (fun t => !Tryz.prog.wantsStandIn t)=true:=by kernel_rfl
  have hm:t ∈ ([33]:List TypeId):=by simpa using Array.mem_of_getElem? ht
  have hw:Tryz.prog.wantsStandIn t=false:=by simpa using List.all_eq_true.1 h t hm
  exact hw
theorem card3:Rows.SearchNilCardSaid :=
  Claim7.holds_tied_plain_at .later [] _ _ _ _ said3 (fun _ h=>by cases h) (by kernel_rfl) (fun _ h=>by cases h) searchNil_row_tie rfl ⟨rfl,rfl⟩ (by kernel_rfl) rfl plain3 (by kernel_rfl)
end Go.Proofs.YtlmhenicjeonjaaGreatDoor
end
