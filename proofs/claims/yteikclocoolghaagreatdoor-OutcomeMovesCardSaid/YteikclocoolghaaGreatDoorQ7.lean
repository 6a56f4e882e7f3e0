/- The law OutcomeMoves: who has moves, who is in check, and how it ends. For every position; no condition. -/
import Derived.Test.YteikclocoolghaaGreatDoorQ6
set_option linter.unusedSectionVars false
set_option linter.unusedVariables false
set_option linter.unusedSimpArgs false
set_option linter.unnecessarySimpa false
section
namespace Kz
open Go Go.RowKit
theorem law10 (p : Pos) (hp : PosIn p) : PureSpec Pz 10 [Pos.av p] (.bool true) := by
  have t := N10_true hp
  have h := P10 p t.1
  rw [t.2] at h
  exact h.1
end Kz
namespace Go.Proofs.YteikclocoolghaaGreatDoor
open Kz Go Go.RowKit Go.WideShapes Go.ChangeShapes Go.ChangeAt Go.Proofs
set_option maxRecDepth 100000
theorem par10 : Tryz.f10.params = #[31] := by kernel_rfl
theorem res10 : Tryz.f10.resultTypes = #[4] := by kernel_rfl
theorem rd10 : ∀ t ∈ Tryz.f10.params.toList, Tryz.prog.readableRec t = true ∧ t < Tryz.prog.types.size := by
  rw [par10]
  have h : ([31] : List TypeId).all (fun t => Tryz.prog.readableRec t && Nat.blt t Tryz.prog.types.size) = true := by kernel_rfl
  intro t ht
  have := List.all_eq_true.1 h t ht
  simp only [Bool.and_eq_true, Nat.blt_eq] at this
  exact this
theorem open10 (W : World) (base : Nat) (args : Array Value) (hl : args.size = Tryz.f10.params.size) (hval : ∀ (j : Nat) t v, Tryz.f10.params[j]? = some t → args[j]? = some v → Value.okWide Tryz.prog W .any base t v) :
    ∃ xs, (∀ (g : Gh) (tk : List Nat) (w : World), RepL g tk w xs args.toList) ∧ PureSpec Pz 10 xs (.bool true) := by
  rw [par10] at hl
  obtain ⟨l⟩ := args
  obtain ⟨v0, rfl⟩ : ∃ v0, l = [v0] := by
    match l, hl with
    | [v0], _ => exact ⟨_, rfl⟩
  obtain ⟨p0, h0, r0⟩ := pos_open (hval 0 31 v0 (by rw [par10]; rfl) rfl)
  exact ⟨[Pos.av p0], fun g tk w => .cons (r0 _ _ _) .nil, law10 p0 h0⟩
theorem laid_met10 (os : Os) : laidMet Tryz.prog Rows.outcomeMovesRow.laid ((laidWorld os).forCall (fun _ _ => 0) ⟨#[], #[zeroPos], []⟩).memory :=
  laidMet_of_run' 12 (by kernel_rfl) (by kernel_rfl)
theorem reads10 (os : Os) {H : Type} (enc : TypeId × Value → H) : ∃ places, DataW.whole enc Tryz.prog ((laidWorld os).forCall (fun _ _ => 0) ⟨#[], #[zeroPos], []⟩).memory Tryz.f10.params.toList Rows.outcomeMovesSpec.vars false (#[zeroPos] : Array Value).toList 12 = some ([zeroData], [], places) :=
  ⟨[], by kernel_rfl⟩
theorem lifted10 (os : Os) (started : os.Started) (H : Type) (enc : TypeId × Value → H) (F : Stop.Interp) :
    ReturnsInHanded {} Tryz.checked os 10 .any ((OpenSpec.ofChange Rows.outcomeMovesSpec).preRow enc Tryz.prog Tryz.f10 Rows.outcomeMovesRow.domain false Rows.outcomeMovesRow.laid) (((OpenSpec.ofChange Rows.outcomeMovesSpec).at F).post enc Tryz.prog Tryz.f10 false true false false) := by
  obtain ⟨places, hx⟩ := reads10 os enc
  refine returnsInHanded_of_row (C := Tryz.checked) (s := OpenSpec.ofChange Rows.outcomeMovesSpec) own_z started (by kernel_rfl) Tryz.func10
    (witness_row_at (enc := enc) (C := Tryz.checked) false (laidWorld os) #[zeroPos] rfl (by kernel_rfl) (by kernel_rfl) (by kernel_rfl)
      (OpenSpec.preRow_of_cond 12 hx (by kernel_rfl) (fun k hk => by cases hk) (by kernel_rfl) (laid_met10 os))) ?_
  intro W base args ds gs before hval hW _ _ _ hL _ _
  exact contract_of (f := 10) (fn := Tryz.f10) (s := Rows.outcomeMovesSpec) res10 rfl rd10 (fun H ds hds => by
    rw [par10] at hds
    match ds, hds with
    | [d0], _ => rfl) open10 H enc W base args ds gs before hval hW (globOk_laid hL)
theorem said10 : Rows.OutcomeMovesSaid :=
  OpenClaim.holds_of_cond 10 Tryz.f10 rfl rfl rfl rfl rfl rfl rfl ⟨rfl, rfl, rfl, rfl, rfl⟩ rfl rfl rfl rfl rfl (by kernel_rfl) Tryz.func10 (by kernel_rfl)
    (of_decide_eq_true (by kernel_rfl)) (by unfold Func.isWrapper; first | (rw [if_pos (by decide +kernel)]; kernel_rfl) | (rw [if_neg (by decide +kernel)]; exact ⟨rfl, rfl⟩))
    (fun os started H enc _ F => by rw [OpenClaim.pre_eq_preRow]; exact lifted10 os started H enc F)
theorem plain10 (f : FuncId) (fn : Func) (hf : Tryz.pinned.checked.prog.funcNamed Rows.outcomeMovesRow.func = some f) (hfn : Tryz.pinned.checked.prog.funcs[f]? = some fn) :
    false = Tryz.pinned.checked.prog.looks [] ∧ ∀ (j : Nat) t, fn.params[j]? = some t → Tryz.pinned.checked.prog.wantsStandIn t = false := by
  obtain rfl : f = 10 := Option.some.inj ((show Tryz.prog.funcNamed Rows.outcomeMovesRow.func = some 10 by kernel_rfl).symm.trans hf) |>.symm
  obtain rfl : fn = Tryz.f10 := (Option.some.inj (Tryz.func10.symm.trans hfn)).symm
  refine ⟨by kernel_rfl, fun j t ht => ?_⟩
  rw [par10] at ht
  have h : ([31] : List TypeId).all (fun t => !Tryz.prog.wantsStandIn t) = true := by kernel_rfl
  have hm : t ∈ ([31] : List TypeId) := by simpa using Array.mem_of_getElem? ht
  have hw : Tryz.prog.wantsStandIn t = false := by simpa using List.all_eq_true.1 h t hm
  exact hw
theorem card10 : Rows.OutcomeMovesCardSaid :=
  Claim7.holds_tied_plain_at .later [] _ _ _ _ said10 (fun _ h => by cases h) (by kernel_rfl) (fun _ h => by cases h) outcomeMoves_row_tie rfl ⟨rfl, rfl⟩ (by kernel_rfl) rfl plain10 (by kernel_rfl)
end Go.Proofs.YteikclocoolghaaGreatDoor
end
