/- SanPrint: of any position and any move,the text and the mark that are printed are the ones that the document's answer gives,and so for the move of any number among those that may be made. No conditions. -/
import Derived.Test.YtmhlngkbgbenhaaGreatDoorT7
import Derived.JoinedCond
set_option linter.unusedSectionVars false
set_option linter.unusedVariables false
set_option linter.unusedSimpArgs false
set_option linter.unnecessarySimpa false
noncomputable section
namespace Kz
open Go Go.RowKit Go.Proofs
set_option maxRecDepth 100000
variable {p:Pos}
theorem V2 {n:Nat} (h0:n≠0) (h1:n≤1000000) (c:Int):0≤wr .i64 (Int.ofNat (BitVec.ofInt 64 c % BitVec.ofInt 64 (Int.ofNat n)).toNat)∧wr .i64 (Int.ofNat (BitVec.ofInt 64 c % BitVec.ofInt 64 (Int.ofNat n)).toNat) < Int.ofNat n∧(BitVec.ofInt 64 (Int.ofNat n)==0#64)=false:=by
 have e:(BitVec.ofInt 64 (Int.ofNat n)).toNat=n:=by
  rw [BitVec.toNat_ofInt]
  show ((n:Int) % ((2 ^ 64:Nat):Int)).toNat=n
  rw [Int.emod_eq_of_lt (by omega) (by omega)]
  omega
 have hlt:(BitVec.ofInt 64 c % BitVec.ofInt 64 (Int.ofNat n)).toNat < n:=by
  rw [BitVec.toNat_umod,e]
  exact Nat.mod_lt _ (by omega)
 generalize (BitVec.ofInt 64 c % BitVec.ofInt 64 (Int.ofNat n)).toNat=k at hlt
 rw [aI (n:=Int.ofNat k) (by show (-9223372036854775808:Int)≤(k:Int); omega) (by show (k:Int)≤9223372036854775807; omega)]
 refine ⟨show 0≤(k:Int) by omega,show (k:Int) < n by omega,?_⟩
 rw [beq_eq_false_iff_ne]
 intro h
 rw [h] at e
 exact h0 e.symm
theorem OB (hp:aG p) (m:Mv) (c:Int):ok5 p m c=true∧N5 p m c=true:=by
 obtain ⟨g1,g2⟩:=ud hp
 have hl:=gU hp
 have key:∀ m,zm p m=true∧yl p m=true∧Ax p m=true∧zO p m=true∧LW p m=BF p m∧OE p m=I3 p m:=fun m=>by
  obtain ⟨a,b,_⟩:=rf hp m
  obtain ⟨c,d,e,f⟩:=T9 hp m
  exact ⟨a,c,b,e,d,f⟩
 obtain ⟨a1,a2,a3,a4,a5,a6⟩:=key m
 unfold ok5 N5
 rw [g1,g2,a1,a2,a3,a4,a5,a6]
 simp only [beq_self_eq_true,Bool.not_true,cond_false,Bool.true_and]
 by_cases h0:(bN p).length=0
 ·rw [h0]
  exact ⟨rfl,rfl⟩
 ·obtain ⟨n0,n1,n2⟩:=V2 h0 (show (bN p).length≤1000000 by omega) c
  have e0:(Int.ofNat (bN p).length==0)=false:=beq_eq_false_iff_ne.2 fun h=>h0 (Int.ofNat.inj h)
  rw [e0,n2,decide_eq_true n0,decide_eq_true n1]
  generalize (bN p).getD _ default=x
  obtain ⟨b1,b2,b3,b4,b5,b6⟩:=key x
  rw [b1,b2,b3,b4,b5,b6]
  simp only [beq_self_eq_true]
  exact ⟨rfl,rfl⟩
end Kz
end
noncomputable section
namespace Kz
open Go Go.RowKit Go.Proofs
set_option maxRecDepth 100000
theorem law5 (p:Pos) (m:Mv) (c:Int) (hp:aG p) (_:True) (_:IntKind.has .i64 c):bP Pz 5 [Pos.av p,Mv.av m,.int .i64 c] (.bool true):=by
 have t:=OB hp m c
 have h:=P5 p m c t.1
 rw [t.2] at h
 exact h.1
end Kz
namespace Go.Proofs.YtmhlngkbgbenhaaGreatDoor
open Kz Go Go.RowKit Go.WideShapes Go.ChangeShapes Go.ChangeAt Go.Proofs
set_option maxRecDepth 100000
theorem par5:Tryz.f5.params=#[31,38,3]:=by kernel_rfl
theorem res5:Tryz.f5.resultTypes=#[4]:=by kernel_rfl
theorem rd5:∀ t ∈ Tryz.f5.params.toList,Tryz.prog.readableRec t=true∧t < Tryz.prog.types.size:=by
 rw [par5]
 have h:([31,38,3]:List TypeId).all (fun t=>Tryz.prog.readableRec t&&Nat.blt t Tryz.prog.types.size)=true:=by kernel_rfl
 intro t ht
 have:=List.all_eq_true.1 h t ht
 simp only [Bool.and_eq_true,Nat.blt_eq] at this
 exact this
theorem open5 (W:World) (base:Nat) (args:Array Value) (hl:args.size=Tryz.f5.params.size) (hval:∀ (j:Nat) t v,Tryz.f5.params[j]?=some t→args[j]?=some v→Value.okWide Tryz.prog W .any base t v) :
  ∃ xs,(∀ (g:Gh) (tk:List Nat) (w:World),aC g tk w xs args.toList)∧bP Pz 5 xs (.bool true):=by
 rw [par5] at hl
 obtain ⟨l⟩:=args
 obtain ⟨v0,v1,v2,rfl⟩:∃ v0 v1 v2,l=[v0,v1,v2]:=by
  match l,hl with
  | [v0,v1,v2],_=>exact ⟨_,_,_,rfl⟩
 obtain ⟨p0,h0,r0⟩:=tj (hval 0 31 v0 (by rw [par5]; rfl) rfl)
 obtain ⟨p1,h1,r1⟩:=Nw (hval 1 38 v1 (by rw [par5]; rfl) rfl)
 obtain ⟨p2,h2,r2⟩:=Gr (k := .i64) TS (hval 2 3 v2 (by rw [par5]; rfl) rfl)
 exact ⟨[Pos.av p0,Mv.av p1,.int .i64 p2],fun g tk w=>.cons (r0 _ _ _) (.cons (r1 _ _ _) (.cons (r2 _ _ _) .nil)),law5 p0 p1 p2 h0 h1 h2⟩
theorem laid_met5 (os:Os):laidMet Tryz.prog Rows.sanPrintRow.laid ((eL os).forCall (fun _ _=>0) ⟨#[],#[eS,xH,.int .i64 0],[]⟩).memory :=
 laidMet_of_run' 12 (by kernel_rfl) (by kernel_rfl)
theorem reads5 (os:Os) {H:Type} (enc:TypeId×Value→H):∃ places,DataW.whole enc Tryz.prog ((eL os).forCall (fun _ _=>0) ⟨#[],#[eS,xH,.int .i64 0],[]⟩).memory Tryz.f5.params.toList Rows.sanPrintSpec.vars false (#[eS,xH,.int .i64 0]:Array Value).toList 12=some ([rW,A8,(.lit (.int .i64 0))],[],places) :=
 ⟨[],by kernel_rfl⟩
theorem lifted5 (os:Os) (started:os.Started) (H:Type) (enc:TypeId×Value→H) (F:Stop.Interp) :
  ReturnsInHanded {} Tryz.checked os 5 .any ((OpenSpec.ofChange Rows.sanPrintSpec).preRow enc Tryz.prog Tryz.f5 Rows.sanPrintRow.domain false Rows.sanPrintRow.laid) (((OpenSpec.ofChange Rows.sanPrintSpec).at F).post enc Tryz.prog Tryz.f5 false true false false):=by
 obtain ⟨places,hx⟩:=reads5 os enc
 refine returnsInHanded_of_row (C:=Tryz.checked) (s:=OpenSpec.ofChange Rows.sanPrintSpec) GM started (by kernel_rfl) Tryz.func5
  (witness_row_at (enc:=enc) (C:=Tryz.checked) false (eL os) #[eS,xH,.int .i64 0] rfl (by kernel_rfl) (by kernel_rfl) (by kernel_rfl)
   (OpenSpec.preRow_of_cond 12 hx (by kernel_rfl) (fun k hk=>by cases hk) (by kernel_rfl) (laid_met5 os))) ?_
 intro W base args ds gs before hval hW _ _ _ hL _ _
 exact kU (f:=5) (fn:=Tryz.f5) (s:=Rows.sanPrintSpec) res5 rfl rd5 (fun H ds hds=>by
  rw [par5] at hds
  match ds,hds with
  | [d0,d1,d2],_=>rfl) open5 H enc W base args ds gs before hval hW (kP hL)
theorem and2 {a b:Bool} (h1:a=true) (h2:b=true):(a&&b)=true:=by rw [h1,h2]; rfl
theorem j5_0:(Rows.sanPrintRow.wf (OpenSpec.ofChange (OpenSpec.ofChange Rows.sanPrintSpec).bare))=true:=by kernel_rfl
theorem j5_1:(laidOutB Tryz.prog)=true:=by kernel_rfl
theorem j5_2:(mapsRowed Tryz.prog)=true:=by kernel_rfl
theorem j5_3:(Tryz.f5.params.all (Tryz.prog.readableRec ·))=true:=by kernel_rfl
theorem j5_4:(namedTie Tryz.prog Rows.sanPrintRow.named (OpenSpec.ofChange Rows.sanPrintSpec).bare.vars)=true:=by kernel_rfl
theorem j5_5:((Rows.sanPrintRow.stops==[]))=true:=by kernel_rfl
theorem j5_6:((Tryz.prog.stops==[]))=true:=by kernel_rfl
theorem j5_7:((Rows.sanPrintRow.knobs==[]))=true:=by kernel_rfl
theorem j5_8:((Tryz.prog.stopKnobs==[]))=true:=by kernel_rfl
theorem j5_9:((Rows.sanPrintRow.inPlace==Tryz.prog.inPlace 5))=true:=by kernel_rfl
theorem j5_10:((Rows.sanPrintRow.unfollowed==Tryz.prog.unfollowed 5))=true:=by kernel_rfl
theorem j5_11:((Rows.sanPrintRow.recurses==Tryz.prog.recurses 5))=true:=by kernel_rfl
theorem j5_12:((Rows.sanPrintRow.named==Tryz.prog.varsNamed 5))=true:=by kernel_rfl
theorem j5_13:((Rows.sanPrintRow.maps==(Tryz.f5.params.toList++(OpenSpec.ofChange Rows.sanPrintSpec).bare.plain.varTypes Tryz.prog).any (Tryz.prog.mapsRec ·)))=true:=by kernel_rfl
theorem j5_14:((Rows.sanPrintRow.ifaces==(Tryz.f5.params.toList++(OpenSpec.ofChange Rows.sanPrintSpec).bare.plain.varTypes Tryz.prog).any (Tryz.prog.ifacesRec ·)))=true:=by kernel_rfl
theorem j5_15:((Rows.sanPrintRow.mapsOut==Tryz.prog.mapsAmong Tryz.f5.resultTypes.toList))=true:=by kernel_rfl
theorem j5_16:((Rows.sanPrintRow.loops==(Tryz.f5.params.toList++(OpenSpec.ofChange Rows.sanPrintSpec).bare.plain.varTypes Tryz.prog).any (Tryz.prog.loopsFrom ·)))=true:=by kernel_rfl
theorem j5_17:((Rows.sanPrintRow.wideKeys==(Tryz.f5.params.toList++(OpenSpec.ofChange Rows.sanPrintSpec).bare.plain.varTypes Tryz.prog++Tryz.f5.resultTypes.toList).any (Tryz.prog.wideKeysFrom ·)))=true:=by kernel_rfl
theorem j5_18:((OpenSpec.ofChange Rows.sanPrintSpec).bare.vars.all (Tryz.prog.varReadable ·))=true:=by kernel_rfl
theorem j5_19:(Tryz.f5.resultTypes.all (fun t=>Tryz.prog.readableRec t&&decide (t < Tryz.prog.types.size)))=true:=by kernel_rfl
theorem j5_20:((Rows.sanPrintRow.ifacesOut==Tryz.f5.resultTypes.toList.any (Tryz.prog.ifacesRec ·)))=true:=by kernel_rfl
theorem j5_21:((Rows.sanPrintRow.loopsOut==Tryz.f5.resultTypes.toList.any (Tryz.prog.loopsFrom ·)))=true:=by kernel_rfl
theorem j5_22:((Rows.sanPrintRow.plainKeys==Tryz.prog.plainKeys))=true:=by kernel_rfl
theorem j5_23:(Rows.sanPrintRow.shortTexts.isNone)=true:=by kernel_rfl
theorem j5_24:(Tryz.prog.stopsHeard)=true:=by kernel_rfl
theorem j5_25:(Tryz.prog.mayEnter)=true:=by kernel_rfl
theorem j5_26:((Rows.sanPrintRow.lifted==Tryz.prog.liftsFinal))=true:=by kernel_rfl
theorem j5_27:((Tryz.prog.make==some Rows.sanPrintRow.make))=true:=by kernel_rfl
theorem j5_28:((Rows.sanPrintRow.kinds==(if Rows.sanPrintRow.domain.isEmpty then [] else Tryz.f5.params.toList.map fun t=>match Tryz.prog.underlying t with | some (.int k)=>some k | _=>none)))=true:=by kernel_rfl
theorem j5_29:((Rows.sanPrintRow.pinned==Rows.sanPrintRow.pinnedBy))=true:=by kernel_rfl
theorem j5_30:((Rows.sanPrintRow.veiled==(Tryz.f5.params.toList++(OpenSpec.ofChange Rows.sanPrintSpec).bare.plain.varTypes Tryz.prog++Tryz.f5.resultTypes.toList).any (Tryz.prog.veiledRec ·)))=true:=by kernel_rfl
theorem j5_31:(Rows.sanPrintRow.veiledFits Tryz.prog Tryz.f5.params.toList (Tryz.f5.params.toList++(OpenSpec.ofChange Rows.sanPrintSpec).bare.plain.varTypes Tryz.prog++Tryz.f5.resultTypes.toList))=true:=by kernel_rfl
theorem joined5:joinedFacts Tryz.prog 5 Tryz.f5 (OpenSpec.ofChange Rows.sanPrintSpec).bare Rows.sanPrintRow=true:=(and2 (and2 (and2 (and2 (and2 (and2 (and2 (and2 (and2 (and2 (and2 (and2 (and2 (and2 (and2 (and2 (and2 (and2 (and2 (and2 (and2 (and2 (and2 (and2 (and2 (and2 (and2 (and2 (and2 (and2 (and2 j5_0 j5_1) j5_2) j5_3) j5_4) j5_5) j5_6) j5_7) j5_8) j5_9) j5_10) j5_11) j5_12) j5_13) j5_14) j5_15) j5_16) j5_17) j5_18) j5_19) j5_20) j5_21) j5_22) j5_23) j5_24) j5_25) j5_26) j5_27) j5_28) j5_29) j5_30) j5_31)
theorem named5:Tryz.pinned.checked.prog.funcNamed Rows.sanPrintRow.func=some 5:=by kernel_rfl
theorem said5:Rows.SanPrintSaid :=
 OpenClaim.holds_of_cond 5 Tryz.f5 rfl rfl rfl rfl rfl rfl rfl ⟨rfl,rfl,rfl,rfl,rfl⟩ rfl rfl rfl rfl rfl named5 Tryz.func5 joined5
  (of_decide_eq_true (by kernel_rfl)) (by unfold Func.isWrapper; first | (rw [if_pos (by decide +kernel)]; kernel_rfl) | (rw [if_neg (by decide +kernel)]; exact ⟨rfl,rfl⟩))
  (fun os started H enc _ F=>by rw [OpenClaim.pre_eq_preRow]; exact lifted5 os started H enc F)
theorem plain5 (f:FuncId) (fn:Func) (hf:Tryz.pinned.checked.prog.funcNamed Rows.sanPrintRow.func=some f) (hfn:Tryz.pinned.checked.prog.funcs[f]?=some fn) :
  true=Tryz.pinned.checked.prog.looks []∧∀ (j:Nat) t,fn.params[j]?=some t→Tryz.pinned.checked.prog.wantsStandIn t=false:=by
 obtain rfl:f=5:=Option.some.inj (named5.symm.trans hf) |>.symm
 obtain rfl:fn=Tryz.f5:=(Option.some.inj (Tryz.func5.symm.trans hfn)).symm
 refine ⟨by kernel_rfl,fun j t ht => ?_⟩
 rw [par5] at ht
 have h:([31,38,3]:List TypeId).all (fun t => !Tryz.prog.wantsStandIn t)=true:=by kernel_rfl
 have hm:t ∈ ([31,38,3]:List TypeId):=by simpa using Array.mem_of_getElem? ht
 have hw:Tryz.prog.wantsStandIn t=false:=by simpa using List.all_eq_true.1 h t hm
 exact hw
theorem card5:Rows.SanPrintCardSaid :=
 Claim7.holds_tied_plain_at .later [] _ _ _ _ said5 (fun _ h=>by cases h) (by kernel_rfl) (fun _ h=>by cases h) sanPrint_row_tie rfl ⟨rfl,rfl⟩ (by kernel_rfl) rfl plain5 (by kernel_rfl)
end Go.Proofs.YtmhlngkbgbenhaaGreatDoor
end
