/- FenBack: a position that can be printed is read back from its own text,which has at most 200 bytes; any text of at most 5000 bytes is refused with the empty position,or is read as a position of the variant that was asked for,which prints as that very text. No conditions. -/
import Derived.Test.YtpkbiocmoklocaaGreatDoorK6
set_option linter.unusedSectionVars false
set_option linter.unusedVariables false
set_option linter.unusedSimpArgs false
set_option linter.unnecessarySimpa false
section
namespace Kz
open Go Go.RowKit Go.Proofs
set_option maxRecDepth 100000
theorem under9:Tryz.prog.underlying 9=some .string:=by kernel_rfl
theorem str_open {W:World} {r:Reach} {base:Nat} {v:Value} (h:Value.okWide Tryz.prog W r base 9 v):∃ s:List UInt8,True∧∀ (g:Gh) (tk:List Nat) (w:World),Rep g tk w (.str s) v:=by
  unfold Value.okWide at h
  rw [under9] at h
  simp only at h
  unfold Cell.okWide at h
  rw [under9] at h
  simp only at h
  unfold Cell.ok at h
  rw [under9] at h
  cases v <;> simp at h
  exact ⟨_,trivial,fun _ _ _=>.str rfl⟩
theorem law4 (p:Pos) (b:Int) (c:List UInt8) (hp:PosIn p) (hb:IntKind.has .u8 b) (_:True):PureSpec Pz 4 [Pos.av p,.int .u8 b,.str c] (.bool true):=by
  have t:=N4_true hp (has_u8 hb).1 (has_u8 hb).2 c
  have h:=P4 p b c t.1
  rw [t.2] at h
  exact h.1
end Kz
namespace Go.Proofs.YtpkbiocmoklocaaGreatDoor
open Kz Go Go.RowKit Go.WideShapes Go.ChangeShapes Go.ChangeAt Go.Proofs
set_option maxRecDepth 100000
theorem par4:Tryz.f4.params=#[31,5,9]:=by kernel_rfl
theorem res4:Tryz.f4.resultTypes=#[4]:=by kernel_rfl
theorem rd4:∀ t ∈ Tryz.f4.params.toList,Tryz.prog.readableRec t=true∧t < Tryz.prog.types.size:=by
  rw [par4]
  have h:([31,5,9]:List TypeId).all (fun t=>Tryz.prog.readableRec t&&Nat.blt t Tryz.prog.types.size)=true:=by kernel_rfl
  intro t ht
  have:=List.all_eq_true.1 h t ht
  simp only [Bool.and_eq_true,Nat.blt_eq] at this
  exact this
theorem open4 (W:World) (base:Nat) (args:Array Value) (hl:args.size=Tryz.f4.params.size) (hval:∀ (j:Nat) t v,Tryz.f4.params[j]?=some t→args[j]?=some v→Value.okWide Tryz.prog W .any base t v) :
    ∃ xs,(∀ (g:Gh) (tk:List Nat) (w:World),RepL g tk w xs args.toList)∧PureSpec Pz 4 xs (.bool true):=by
  rw [par4] at hl
  obtain ⟨l⟩:=args
  obtain ⟨v0,v1,v2,rfl⟩:∃ v0 v1 v2,l=[v0,v1,v2]:=by
    match l,hl with
    | [v0,v1,v2],_=>exact ⟨_,_,_,rfl⟩
  obtain ⟨p0,h0,r0⟩:=pos_open (hval 0 31 v0 (by rw [par4]; rfl) rfl)
  obtain ⟨p1,h1,r1⟩:=int_open (k := .u8) under5 (hval 1 5 v1 (by rw [par4]; rfl) rfl)
  obtain ⟨p2,h2,r2⟩:=str_open (hval 2 9 v2 (by rw [par4]; rfl) rfl)
  exact ⟨[Pos.av p0,.int .u8 p1,.str p2],fun g tk w=>.cons (r0 _ _ _) (.cons (r1 _ _ _) (.cons (r2 _ _ _) .nil)),law4 p0 p1 p2 h0 h1 h2⟩
theorem laid_met4 (os:Os):laidMet Tryz.prog Rows.fenBackRow.laid ((laidWorld os).forCall (fun _ _=>0) ⟨#[],#[zeroPos,.int .u8 0,.string ByteArray.empty],[]⟩).memory :=
  laid_met_all os _
theorem reads4 (os:Os) {H:Type} (enc:TypeId×Value→H):∃ places,DataW.whole enc Tryz.prog ((laidWorld os).forCall (fun _ _=>0) ⟨#[],#[zeroPos,.int .u8 0,.string ByteArray.empty],[]⟩).memory Tryz.f4.params.toList Rows.fenBackSpec.vars false (#[zeroPos,.int .u8 0,.string ByteArray.empty]:Array Value).toList 12=some ([zeroData,(.lit (.int .u8 0)),(.lit (.string []))],[],places) :=
  ⟨[],by kernel_rfl⟩
theorem lifted4 (os:Os) (started:os.Started) (H:Type) (enc:TypeId×Value→H) (F:Stop.Interp) :
    ReturnsInHanded {} Tryz.checked os 4 .any ((OpenSpec.ofChange Rows.fenBackSpec).preRow enc Tryz.prog Tryz.f4 Rows.fenBackRow.domain false Rows.fenBackRow.laid) (((OpenSpec.ofChange Rows.fenBackSpec).at F).post enc Tryz.prog Tryz.f4 false true false false):=by
  obtain ⟨places,hx⟩:=reads4 os enc
  refine returnsInHanded_of_row (C:=Tryz.checked) (s:=OpenSpec.ofChange Rows.fenBackSpec) own_z started (by kernel_rfl) Tryz.func4
    (witness_row_atRef (enc:=enc) (C:=Tryz.checked) false (laidWorld os) #[zeroPos,.int .u8 0,.string ByteArray.empty] rfl (by kernel_rfl) (by kernel_rfl) (by kernel_rfl)
      (OpenSpec.preRow_of_cond 12 hx (by kernel_rfl) (fun k hk=>by cases hk) (by kernel_rfl) (laid_met4 os))) ?_
  intro W base args ds gs before hval hW _ _ _ hL hS _
  exact contract_of (f:=4) (fn:=Tryz.f4) (s:=Rows.fenBackSpec) res4 rfl rd4 (fun H ds hds=>by
    rw [par4] at hds
    match ds,hds with
    | [d0,d1,d2],_=>rfl) open4 H enc W base args ds gs before hval hW (globOk_laid hL hS)
theorem said4:Rows.FenBackSaid :=
  OpenClaim.holds_of_cond 4 Tryz.f4 rfl rfl rfl rfl rfl rfl rfl ⟨rfl,rfl,rfl,rfl,rfl⟩ rfl rfl rfl rfl rfl (by kernel_rfl) Tryz.func4 (by kernel_rfl)
    (of_decide_eq_true (by kernel_rfl)) (by unfold Func.isWrapper; first | (rw [if_pos (by decide +kernel)]; kernel_rfl) | (rw [if_neg (by decide +kernel)]; exact ⟨rfl,rfl⟩))
    (fun os started H enc _ F=>by rw [OpenClaim.pre_eq_preRow]; exact lifted4 os started H enc F)
theorem plain4 (f:FuncId) (fn:Func) (hf:Tryz.pinned.checked.prog.funcNamed Rows.fenBackRow.func=some f) (hfn:Tryz.pinned.checked.prog.funcs[f]?=some fn) :
    true=Tryz.pinned.checked.prog.looks []∧∀ (j:Nat) t,fn.params[j]?=some t→Tryz.pinned.checked.prog.wantsStandIn t=false:=by
  obtain rfl:f=4:=Option.some.inj ((show Tryz.prog.funcNamed Rows.fenBackRow.func=some 4 by kernel_rfl).symm.trans hf) |>.symm
  obtain rfl:fn=Tryz.f4:=(Option.some.inj (Tryz.func4.symm.trans hfn)).symm
  refine ⟨by kernel_rfl,fun j t ht => ?_⟩
  rw [par4] at ht
  have h:([31,5,9]:List TypeId).all (fun t => !Tryz.prog.wantsStandIn t)=true:=by kernel_rfl
  have hm:t ∈ ([31,5,9]:List TypeId):=by simpa using Array.mem_of_getElem? ht
  have hw:Tryz.prog.wantsStandIn t=false:=by simpa using List.all_eq_true.1 h t hm
  exact hw
theorem card4:Rows.FenBackCardSaid :=
  Claim7.holds_tied_plain_at .later [] _ _ _ _ said4 (fun _ h=>by cases h) (by kernel_rfl) (fun _ h=>by cases h) fenBack_row_tie rfl ⟨rfl,rfl⟩ (by kernel_rfl) rfl plain4 (by kernel_rfl)
end Go.Proofs.YtpkbiocmoklocaaGreatDoor
end
