/- The law OutcomeText: the text of how a game stands is as the document says. For every State, every Why; no condition. -/
import Derived.Test.YteikclocoolghaaGreatDoorQ6
set_option linter.unusedSectionVars false
set_option linter.unusedVariables false
set_option linter.unusedSimpArgs false
set_option linter.unnecessarySimpa false
section
namespace Kz
open Go Go.RowKit
theorem law9 (p : Int × Int) (hp : IntKind.has .u8 p.1 ∧ IntKind.has .u8 p.2) : PureSpec Pz 9 [(dR .u8 .u8).arg p] (.bool true) := by
  have t := N9_true (has_u8 hp.1) (has_u8 hp.2)
  have h := P9 p t.1
  rw [t.2] at h
  exact h.1
end Kz
namespace Go.Proofs.YteikclocoolghaaGreatDoor
open Kz Go Go.RowKit Go.WideShapes Go.ChangeShapes Go.ChangeAt Go.Proofs
set_option maxRecDepth 100000
theorem par9 : Tryz.f9.params = #[44] := by kernel_rfl
theorem res9 : Tryz.f9.resultTypes = #[4] := by kernel_rfl
theorem rd9 : ∀ t ∈ Tryz.f9.params.toList, Tryz.prog.readableRec t = true ∧ t < Tryz.prog.types.size := by
  rw [par9]
  have h : ([44] : List TypeId).all (fun t => Tryz.prog.readableRec t && Nat.blt t Tryz.prog.types.size) = true := by kernel_rfl
  intro t ht
  have := List.all_eq_true.1 h t ht
  simp only [Bool.and_eq_true, Nat.blt_eq] at this
  exact this
theorem open9 (W : World) (base : Nat) (args : Array Value) (hl : args.size = Tryz.f9.params.size) (hval : ∀ (j : Nat) t v, Tryz.f9.params[j]? = some t → args[j]? = some v → Value.okWide Tryz.prog W .any base t v) :
    ∃ xs, (∀ (g : Gh) (tk : List Nat) (w : World), RepL g tk w xs args.toList) ∧ PureSpec Pz 9 xs (.bool true) := by
  rw [par9] at hl
  obtain ⟨l⟩ := args
  obtain ⟨v0, rfl⟩ : ∃ v0, l = [v0] := by
    match l, hl with
    | [v0], _ => exact ⟨_, rfl⟩
  obtain ⟨p0, h0, r0⟩ := res_open (hval 0 44 v0 (by rw [par9]; rfl) rfl)
  exact ⟨[(dR .u8 .u8).arg p0], fun g tk w => .cons (r0 _ _ _) .nil, law9 p0 h0⟩
theorem laid_met9 (os : Os) : laidMet Tryz.prog Rows.outcomeTextRow.laid ((laidWorld os).forCall (fun _ _ => 0) ⟨#[], #[.agg #[.int .u8 0, .int .u8 0]], []⟩).memory :=
  laidMet_of_run' 12 (by kernel_rfl) (by kernel_rfl)
theorem reads9 (os : Os) {H : Type} (enc : TypeId × Value → H) : ∃ places, DataW.whole enc Tryz.prog ((laidWorld os).forCall (fun _ _ => 0) ⟨#[], #[.agg #[.int .u8 0, .int .u8 0]], []⟩).memory Tryz.f9.params.toList Rows.outcomeTextSpec.vars false (#[.agg #[.int .u8 0, .int .u8 0]] : Array Value).toList 12 = some ([(.agg [.lit (.int .u8 0), .lit (.int .u8 0)])], [], places) :=
  ⟨[], by kernel_rfl⟩
theorem lifted9 (os : Os) (started : os.Started) (H : Type) (enc : TypeId × Value → H) (F : Stop.Interp) :
    ReturnsInHanded {} Tryz.checked os 9 .any ((OpenSpec.ofChange Rows.outcomeTextSpec).preRow enc Tryz.prog Tryz.f9 Rows.outcomeTextRow.domain false Rows.outcomeTextRow.laid) (((OpenSpec.ofChange Rows.outcomeTextSpec).at F).post enc Tryz.prog Tryz.f9 false true false false) := by
  obtain ⟨places, hx⟩ := reads9 os enc
  refine returnsInHanded_of_row (C := Tryz.checked) (s := OpenSpec.ofChange Rows.outcomeTextSpec) own_z started (by kernel_rfl) Tryz.func9
    (witness_row_at (enc := enc) (C := Tryz.checked) false (laidWorld os) #[.agg #[.int .u8 0, .int .u8 0]] rfl (by kernel_rfl) (by kernel_rfl) (by kernel_rfl)
      (OpenSpec.preRow_of_cond 12 hx (by kernel_rfl) (fun k hk => by cases hk) (by kernel_rfl) (laid_met9 os))) ?_
  intro W base args ds gs before hval hW _ _ _ hL _ _
  exact contract_of (f := 9) (fn := Tryz.f9) (s := Rows.outcomeTextSpec) res9 rfl rd9 (fun H ds hds => by
    rw [par9] at hds
    match ds, hds with
    | [d0], _ => rfl) open9 H enc W base args ds gs before hval hW (globOk_laid hL)
theorem said9 : Rows.OutcomeTextSaid :=
  OpenClaim.holds_of_cond 9 Tryz.f9 rfl rfl rfl rfl rfl rfl rfl ⟨rfl, rfl, rfl, rfl, rfl⟩ rfl rfl rfl rfl rfl (by kernel_rfl) Tryz.func9 (by kernel_rfl)
    (of_decide_eq_true (by kernel_rfl)) (by unfold Func.isWrapper; first | (rw [if_pos (by decide +kernel)]; kernel_rfl) | (rw [if_neg (by decide +kernel)]; exact ⟨rfl, rfl⟩))
    (fun os started H enc _ F => by rw [OpenClaim.pre_eq_preRow]; exact lifted9 os started H enc F)
theorem plain9 (f : FuncId) (fn : Func) (hf : Tryz.pinned.checked.prog.funcNamed Rows.outcomeTextRow.func = some f) (hfn : Tryz.pinned.checked.prog.funcs[f]? = some fn) :
    false = Tryz.pinned.checked.prog.looks [] ∧ ∀ (j : Nat) t, fn.params[j]? = some t → Tryz.pinned.checked.prog.wantsStandIn t = false := by
  obtain rfl : f = 9 := Option.some.inj ((show Tryz.prog.funcNamed Rows.outcomeTextRow.func = some 9 by kernel_rfl).symm.trans hf) |>.symm
  obtain rfl : fn = Tryz.f9 := (Option.some.inj (Tryz.func9.symm.trans hfn)).symm
  refine ⟨by kernel_rfl, fun j t ht => ?_⟩
  rw [par9] at ht
  have h : ([44] : List TypeId).all (fun t => !Tryz.prog.wantsStandIn t) = true := by kernel_rfl
  have hm : t ∈ ([44] : List TypeId) := by simpa using Array.mem_of_getElem? ht
  have hw : Tryz.prog.wantsStandIn t = false := by simpa using List.all_eq_true.1 h t hm
  exact hw
theorem card9 : Rows.OutcomeTextCardSaid :=
  Claim7.holds_tied_plain_at .later [] _ _ _ _ said9 (fun _ h => by cases h) (by kernel_rfl) (fun _ h => by cases h) outcomeText_row_tie rfl ⟨rfl, rfl⟩ (by kernel_rfl) rfl plain9 (by kernel_rfl)
end Go.Proofs.YteikclocoolghaaGreatDoor
end
