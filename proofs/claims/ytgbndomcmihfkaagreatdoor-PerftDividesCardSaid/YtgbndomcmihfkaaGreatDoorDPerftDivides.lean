/- PerftDivides: of any position and any length,of each move how many ways begin with it is as the document says (a length of 1 or 2; lengths that may not be are refused). No conditions. -/
import Derived.Test.YtgbndomcmihfkaaGreatDoorD7
import Derived.JoinedCond
set_option linter.unusedSectionVars false
set_option linter.unusedVariables false
set_option linter.unusedSimpArgs false
set_option linter.unnecessarySimpa false
set_option maxRecDepth 100000
set_option maxHeartbeats 4000000
noncomputable section
namespace Kz
open Go Go.RowKit Go.Proofs
set_option maxRecDepth 100000
theorem adI (p:Pos) (b:Int) (hp:aA p) (_:IntKind.has .i64 b):cF Pz 3 [Pos.av p,.int .i64 b] (.bool true):=by
 have t:=Nu hp b
 have h:=P3 p b t.1
 rw [t.2] at h
 exact h.1
end Kz
namespace Go.Proofs.YtgbndomcmihfkaaGreatDoor
open Kz Go Go.RowKit Go.WideShapes Go.ChangeShapes Go.ChangeAt Go.Proofs
set_option maxRecDepth 100000
theorem Gj:Tryz.f3.params=#[31,3]:=by kernel_rfl
theorem ajo:Tryz.f3.resultTypes=#[4]:=by kernel_rfl
theorem rd3:∀ t∈Tryz.f3.params.toList,Tryz.prog.readableRec t=true∧t<Tryz.prog.types.size:=by
 rw [Gj]
 have h:([31,3]:List TypeId).all (fun t=>Tryz.prog.readableRec t&&Nat.blt t Tryz.prog.types.size)=true:=by kernel_rfl
 intro t ht
 have:=List.all_eq_true.1 h t ht
 simp only [E',Nat.blt_eq] at this
 exact this
theorem acA (W:World) (base:Nat) (args:Array Value) (hl:args.size=Tryz.f3.params.size) (hval:∀ (j:Nat) t v,Tryz.f3.params[j]?=some t→args[j]?=some v→Value.okWide Tryz.prog W .any base t v) :
  ∃ xs,(∀ (g:Gh) (tk:List Nat) (w:World),aB g tk w xs args.toList)∧cF Pz 3 xs (.bool true):=by
 rw [Gj] at hl
 obtain ⟨l⟩:=args
 obtain ⟨v0,v1,rfl⟩:∃ v0 v1,l=[v0,v1]:=by
  match l,hl with
  | [v0,v1],_=>exact ⟨_,_,rfl⟩
 obtain ⟨p0,h0,r0⟩:=JT (hval 0 31 v0 (by rw [Gj];rfl) rfl)
 obtain ⟨p1,h1,r1⟩:=I8 (k := .i64) TI (hval 1 3 v1 (by rw [Gj];rfl) rfl)
 exact ⟨[Pos.av p0,.int .i64 p1],fun g tk w=>.cons (r0 _ _ _) (.cons (r1 _ _ _) .nil),adI p0 p1 h0 h1⟩
theorem Fo (os:Os):laidMet Tryz.prog Rows.perftDividesRow.laid ((qw os).forCall (fun _ _=>0) ⟨#[],#[rD,.int .i64 0],[]⟩).memory :=
 laidMet_of_run' 12 (by kernel_rfl) (by kernel_rfl)
theorem Wy (os:Os) {H:Type} (enc:TypeId×Value→H):∃ places,DataW.whole enc Tryz.prog ((qw os).forCall (fun _ _=>0) ⟨#[],#[rD,.int .i64 0],[]⟩).memory Tryz.f3.params.toList Rows.perftDividesSpec.vars false (#[rD,.int .i64 0]:Array Value).toList 12=some ([Hv,(.lit (.int .i64 0))],[],places) :=
 ⟨[],by kernel_rfl⟩
theorem Pu (os:Os) (started:os.Started) (H:Type) (enc:TypeId×Value→H) (F:Stop.Interp) :
  ReturnsInHanded {} Tryz.checked os 3 .any ((OpenSpec.ofChange Rows.perftDividesSpec).preRow enc Tryz.prog Tryz.f3 Rows.perftDividesRow.domain false Rows.perftDividesRow.laid) (((OpenSpec.ofChange Rows.perftDividesSpec).at F).post enc Tryz.prog Tryz.f3 false true false false):=by
 obtain ⟨places,hx⟩:=Wy os enc
 refine returnsInHanded_of_row (C:=Tryz.checked) (s:=OpenSpec.ofChange Rows.perftDividesSpec) aax started (by kernel_rfl) Tryz.func3
  (witness_row_at (enc:=enc) (C:=Tryz.checked) false (qw os) #[rD,.int .i64 0] rfl (by kernel_rfl) (by kernel_rfl) (by kernel_rfl)
   (OpenSpec.preRow_of_cond 12 hx (by kernel_rfl) (fun k hk=>by cases hk) (by kernel_rfl) (Fo os))) ?_
 intro W base args ds gs before hval hW _ _ _ hL _ _
 exact zf (f:=3) (fn:=Tryz.f3) (s:=Rows.perftDividesSpec) ajo rfl rd3 (fun H ds hds=>by
  rw [Gj] at hds
  match ds,hds with
  | [d0,d1],_=>rfl) acA H enc W base args ds gs before hval hW (Bc hL)
theorem fj {a b:Bool} (h1:a=true) (h2:b=true):(a&&b)=true:=by rw [h1,h2];rfl
theorem ahd:(Rows.perftDividesRow.wf (OpenSpec.ofChange (OpenSpec.ofChange Rows.perftDividesSpec).bare))=true:=by kernel_rfl
theorem agK:(laidOutB Tryz.prog)=true:=by kernel_rfl
theorem ajz:(mapsRowed Tryz.prog)=true:=by kernel_rfl
theorem ah2:(Tryz.f3.params.all (Tryz.prog.readableRec ·))=true:=by kernel_rfl
theorem aiu:(namedTie Tryz.prog Rows.perftDividesRow.named (OpenSpec.ofChange Rows.perftDividesSpec).bare.vars)=true:=by kernel_rfl
theorem ac1:((Rows.perftDividesRow.stops==[]))=true:=by kernel_rfl
theorem ad2:((Tryz.prog.stops==[]))=true:=by kernel_rfl
theorem ajf:((Rows.perftDividesRow.knobs==[]))=true:=by kernel_rfl
theorem agp:((Tryz.prog.stopKnobs==[]))=true:=by kernel_rfl
theorem afq:((Rows.perftDividesRow.inPlace==Tryz.prog.inPlace 3))=true:=by kernel_rfl
theorem aaC:((Rows.perftDividesRow.unfollowed==Tryz.prog.unfollowed 3))=true:=by kernel_rfl
theorem XJ:((Rows.perftDividesRow.recurses==Tryz.prog.recurses 3))=true:=by kernel_rfl
theorem Zc:((Rows.perftDividesRow.named==Tryz.prog.varsNamed 3))=true:=by kernel_rfl
theorem aap:((Rows.perftDividesRow.maps==(Tryz.f3.params.toList++(OpenSpec.ofChange Rows.perftDividesSpec).bare.plain.varTypes Tryz.prog).any (Tryz.prog.mapsRec ·)))=true:=by kernel_rfl
theorem aad:((Rows.perftDividesRow.ifaces==(Tryz.f3.params.toList++(OpenSpec.ofChange Rows.perftDividesSpec).bare.plain.varTypes Tryz.prog).any (Tryz.prog.ifacesRec ·)))=true:=by kernel_rfl
theorem XK:((Rows.perftDividesRow.mapsOut==Tryz.prog.mapsAmong Tryz.f3.resultTypes.toList))=true:=by kernel_rfl
theorem XW:((Rows.perftDividesRow.loops==(Tryz.f3.params.toList++(OpenSpec.ofChange Rows.perftDividesSpec).bare.plain.varTypes Tryz.prog).any (Tryz.prog.loopsFrom ·)))=true:=by kernel_rfl
theorem abB:((Rows.perftDividesRow.wideKeys==(Tryz.f3.params.toList++(OpenSpec.ofChange Rows.perftDividesSpec).bare.plain.varTypes Tryz.prog++Tryz.f3.resultTypes.toList).any (Tryz.prog.wideKeysFrom ·)))=true:=by kernel_rfl
theorem abq:((OpenSpec.ofChange Rows.perftDividesSpec).bare.vars.all (Tryz.prog.varReadable ·))=true:=by kernel_rfl
theorem ZO:(Tryz.f3.resultTypes.all (fun t=>Tryz.prog.readableRec t&&decide (t<Tryz.prog.types.size)))=true:=by kernel_rfl
theorem ab7:((Rows.perftDividesRow.ifacesOut==Tryz.f3.resultTypes.toList.any (Tryz.prog.ifacesRec ·)))=true:=by kernel_rfl
theorem abz:((Rows.perftDividesRow.loopsOut==Tryz.f3.resultTypes.toList.any (Tryz.prog.loopsFrom ·)))=true:=by kernel_rfl
theorem Yk:((Rows.perftDividesRow.plainKeys==Tryz.prog.plainKeys))=true:=by kernel_rfl
theorem acx:(Rows.perftDividesRow.shortTexts.isNone)=true:=by kernel_rfl
theorem Z7:(Tryz.prog.stopsHeard)=true:=by kernel_rfl
theorem YX:(Tryz.prog.mayEnter)=true:=by kernel_rfl
theorem aaw:((Rows.perftDividesRow.lifted==Tryz.prog.liftsFinal))=true:=by kernel_rfl
theorem ab5:((Tryz.prog.make==some Rows.perftDividesRow.make))=true:=by kernel_rfl
theorem Y2:((Rows.perftDividesRow.kinds==(if Rows.perftDividesRow.domain.isEmpty then [] else Tryz.f3.params.toList.map fun t=>match Tryz.prog.underlying t with | some (.int k)=>some k | _=>none)))=true:=by kernel_rfl
theorem Yb:((Rows.perftDividesRow.pinned==Rows.perftDividesRow.pinnedBy))=true:=by kernel_rfl
theorem abK:((Rows.perftDividesRow.veiled==(Tryz.f3.params.toList++(OpenSpec.ofChange Rows.perftDividesSpec).bare.plain.varTypes Tryz.prog++Tryz.f3.resultTypes.toList).any (Tryz.prog.veiledRec ·)))=true:=by kernel_rfl
theorem XV:(Rows.perftDividesRow.veiledFits Tryz.prog Tryz.f3.params.toList (Tryz.f3.params.toList++(OpenSpec.ofChange Rows.perftDividesSpec).bare.plain.varTypes Tryz.prog++Tryz.f3.resultTypes.toList))=true:=by kernel_rfl
theorem PQ:joinedFacts Tryz.prog 3 Tryz.f3 (OpenSpec.ofChange Rows.perftDividesSpec).bare Rows.perftDividesRow=true:=(fj (fj (fj (fj (fj (fj (fj (fj (fj (fj (fj (fj (fj (fj (fj (fj (fj (fj (fj (fj (fj (fj (fj (fj (fj (fj (fj (fj (fj (fj (fj ahd agK) ajz) ah2) aiu) ac1) ad2) ajf) agp) afq) aaC) XJ) Zc) aap) aad) XK) XW) abB) abq) ZO) ab7) abz) Yk) acx) Z7) YX) aaw) ab5) Y2) Yb) abK) XV)
theorem Ha:Tryz.pinned.checked.prog.funcNamed Rows.perftDividesRow.func=some 3:=by kernel_rfl
theorem acC:Rows.PerftDividesSaid :=
 OpenClaim.holds_of_cond 3 Tryz.f3 rfl rfl rfl rfl rfl rfl rfl ⟨rfl,rfl,rfl,rfl,rfl⟩ rfl rfl rfl rfl rfl Ha Tryz.func3 PQ
  (of_decide_eq_true (by kernel_rfl)) (by unfold Func.isWrapper;first | (rw [if_pos (by decide +kernel)];kernel_rfl) | (rw [if_neg (by decide +kernel)];exact ⟨rfl,rfl⟩))
  (fun os started H enc _ F=>by rw [OpenClaim.pre_eq_preRow];exact Pu os started H enc F)
theorem VJ (f:FuncId) (fn:Func) (hf:Tryz.pinned.checked.prog.funcNamed Rows.perftDividesRow.func=some f) (hfn:Tryz.pinned.checked.prog.funcs[f]?=some fn) :
  true=Tryz.pinned.checked.prog.looks []∧∀ (j:Nat) t,fn.params[j]?=some t→Tryz.pinned.checked.prog.wantsStandIn t=false:=by
 obtain rfl:f=3:=Option.some.inj (Ha.symm.trans hf) |>.symm
 obtain rfl:fn=Tryz.f3:=(Option.some.inj (Tryz.func3.symm.trans hfn)).symm
 refine ⟨by kernel_rfl,fun j t ht=>?_⟩
 rw [Gj] at ht
 have h:([31,3]:List TypeId).all (fun t => !Tryz.prog.wantsStandIn t)=true:=by kernel_rfl
 have hm:t∈([31,3]:List TypeId):=by simpa using Array.mem_of_getElem? ht
 have hw:Tryz.prog.wantsStandIn t=false:=by simpa using List.all_eq_true.1 h t hm
 exact hw
theorem card3:Rows.PerftDividesCardSaid :=
 Claim7.holds_tied_plain_at .later [] _ _ _ _ acC (fun _ h=>by cases h) (by kernel_rfl) (fun _ h=>by cases h) perftDivides_row_tie rfl ⟨rfl,rfl⟩ (by kernel_rfl) rfl VJ (by kernel_rfl)
end Go.Proofs.YtgbndomcmihfkaaGreatDoor
end
