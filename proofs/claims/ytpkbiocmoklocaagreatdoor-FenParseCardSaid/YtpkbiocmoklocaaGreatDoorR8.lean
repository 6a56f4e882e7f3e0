/- A part of the proof. -/
import Derived.Test.YtpkbiocmoklocaaGreatDoorR7
set_option linter.unusedSectionVars false
set_option linter.unusedVariables false
set_option linter.unusedSimpArgs false
set_option linter.unnecessarySimpa false
noncomputable section
namespace Kz
open Go Go.RowKit Go.Proofs
set_option maxRecDepth 100000
theorem An:Tryz.prog.underlying 9=some .string:=by kernel_rfl
theorem Gr {W:World} {r:Reach} {base:Nat} {v:Value} (h:Value.okWide Tryz.prog W r base 9 v):∃ s:List UInt8,True∧∀ (g:Gh) (tk:List Nat) (w:World),bg g tk w (.str s) v:=by
 unfold Value.okWide at h
 rw [An] at h
 simp only at h
 unfold Cell.okWide at h
 rw [An] at h
 simp only at h
 unfold Cell.ok at h
 rw [An] at h
 cases v <;> simp at h
 exact ⟨_,trivial,fun _ _ _=>.str rfl⟩
theorem WG (b:Int) (c:List UInt8) (hb:IntKind.has .u8 b) (_:True):dJ Pz 3 [.int .u8 b,.str c] (.bool true):=by
 have t:=JZ (ki hb).1 (ki hb).2 c
 have h:=P3 b c t.1
 rw [t.2] at h
 exact h.1
end Kz
namespace Go.Proofs.YtpkbiocmoklocaaGreatDoor
open Kz Go Go.RowKit Go.WideShapes Go.ChangeShapes Go.ChangeAt Go.Proofs
set_option maxRecDepth 100000
theorem CT:Tryz.f3.params=#[5,9]:=by kernel_rfl
theorem Wh:Tryz.f3.resultTypes=#[4]:=by kernel_rfl
theorem Yr:∀ t ∈ Tryz.f3.params.toList,Tryz.prog.readableRec t=true∧t < Tryz.prog.types.size:=by
 rw [CT]
 have h:([5,9]:List TypeId).all (fun t=>Tryz.prog.readableRec t&&Nat.blt t Tryz.prog.types.size)=true:=by kernel_rfl
 intro t ht
 have:=List.all_eq_true.1 h t ht
 simp only [Bool.and_eq_true,Nat.blt_eq] at this
 exact this
theorem TE (W:World) (base:Nat) (args:Array Value) (hl:args.size=Tryz.f3.params.size) (hval:∀ (j:Nat) t v,Tryz.f3.params[j]?=some t→args[j]?=some v→Value.okWide Tryz.prog W .any base t v) :
  ∃ xs,(∀ (g:Gh) (tk:List Nat) (w:World),aL g tk w xs args.toList)∧dJ Pz 3 xs (.bool true):=by
 rw [CT] at hl
 obtain ⟨l⟩:=args
 obtain ⟨v0,v1,rfl⟩:∃ v0 v1,l=[v0,v1]:=by
  match l,hl with
  | [v0,v1],_=>exact ⟨_,_,rfl⟩
 obtain ⟨p0,h0,r0⟩:=FI (k := .u8) PA (hval 0 5 v0 (by rw [CT]; rfl) rfl)
 obtain ⟨p1,h1,r1⟩:=Gr (hval 1 9 v1 (by rw [CT]; rfl) rfl)
 exact ⟨[.int .u8 p0,.str p1],fun g tk w=>.cons (r0 _ _ _) (.cons (r1 _ _ _) .nil),WG p0 p1 h0 h1⟩
theorem Cv (os:Os):laidMet Tryz.prog Rows.fenParseRow.laid ((mw os).forCall (fun _ _=>0) ⟨#[],#[.int .u8 0,.string ByteArray.empty],[]⟩).memory :=
 vW os _
theorem NV (os:Os) {H:Type} (enc:TypeId×Value→H):∃ places,DataW.whole enc Tryz.prog ((mw os).forCall (fun _ _=>0) ⟨#[],#[.int .u8 0,.string ByteArray.empty],[]⟩).memory Tryz.f3.params.toList Rows.fenParseSpec.vars false (#[.int .u8 0,.string ByteArray.empty]:Array Value).toList 12=some ([(.lit (.int .u8 0)),(.lit (.string []))],[],places) :=
 ⟨[],by kernel_rfl⟩
theorem JY (os:Os) (started:os.Started) (H:Type) (enc:TypeId×Value→H) (F:Stop.Interp) :
  ReturnsInHanded {} Tryz.checked os 3 .any ((OpenSpec.ofChange Rows.fenParseSpec).preRow enc Tryz.prog Tryz.f3 Rows.fenParseRow.domain false Rows.fenParseRow.laid) (((OpenSpec.ofChange Rows.fenParseSpec).at F).post enc Tryz.prog Tryz.f3 false true false false):=by
 obtain ⟨places,hx⟩:=NV os enc
 refine returnsInHanded_of_row (C:=Tryz.checked) (s:=OpenSpec.ofChange Rows.fenParseSpec) TI started (by kernel_rfl) Tryz.func3
  (witness_row_atRef (enc:=enc) (C:=Tryz.checked) false (mw os) #[.int .u8 0,.string ByteArray.empty] rfl (by kernel_rfl) (by kernel_rfl) (by kernel_rfl)
   (OpenSpec.preRow_of_cond 12 hx (by kernel_rfl) (fun k hk=>by cases hk) (by kernel_rfl) (Cv os))) ?_
 intro W base args ds gs before hval hW _ _ _ hL hS _
 exact w6 (f:=3) (fn:=Tryz.f3) (s:=Rows.fenParseSpec) Wh rfl Yr (fun H ds hds=>by
  rw [CT] at hds
  match ds,hds with
  | [d0,d1],_=>rfl) TE H enc W base args ds gs before hval hW (xA hL hS)
theorem Rq:Rows.FenParseSaid :=
 OpenClaim.holds_of_cond 3 Tryz.f3 rfl rfl rfl rfl rfl rfl rfl ⟨rfl,rfl,rfl,rfl,rfl⟩ rfl rfl rfl rfl rfl (by kernel_rfl) Tryz.func3 (by kernel_rfl)
  (of_decide_eq_true (by kernel_rfl)) (by unfold Func.isWrapper; first | (rw [if_pos (by decide +kernel)]; kernel_rfl) | (rw [if_neg (by decide +kernel)]; exact ⟨rfl,rfl⟩))
  (fun os started H enc _ F=>by rw [OpenClaim.pre_eq_preRow]; exact JY os started H enc F)
theorem Oh (f:FuncId) (fn:Func) (hf:Tryz.pinned.checked.prog.funcNamed Rows.fenParseRow.func=some f) (hfn:Tryz.pinned.checked.prog.funcs[f]?=some fn) :
  true=Tryz.pinned.checked.prog.looks []∧∀ (j:Nat) t,fn.params[j]?=some t→Tryz.pinned.checked.prog.wantsStandIn t=false:=by
 obtain rfl:f=3:=Option.some.inj ((show Tryz.prog.funcNamed Rows.fenParseRow.func=some 3 by kernel_rfl).symm.trans hf) |>.symm
 obtain rfl:fn=Tryz.f3:=(Option.some.inj (Tryz.func3.symm.trans hfn)).symm
 refine ⟨by kernel_rfl,fun j t ht => ?_⟩
 rw [CT] at ht
 have h:([5,9]:List TypeId).all (fun t => !Tryz.prog.wantsStandIn t)=true:=by kernel_rfl
 have hm:t ∈ ([5,9]:List TypeId):=by simpa using Array.mem_of_getElem? ht
 have hw:Tryz.prog.wantsStandIn t=false:=by simpa using List.all_eq_true.1 h t hm
 exact hw
theorem card3:Rows.FenParseCardSaid :=
 Claim7.holds_tied_plain_at .later [] _ _ _ _ Rq (fun _ h=>by cases h) (by kernel_rfl) (fun _ h=>by cases h) fenParse_row_tie rfl ⟨rfl,rfl⟩ (by kernel_rfl) rfl Oh (by kernel_rfl)
end Go.Proofs.YtpkbiocmoklocaaGreatDoor
end
