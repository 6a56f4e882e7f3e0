/- The law PerftKnown: of Standard's first position there are 1, 20, 400, 8902 ways of the lengths 0, 1, 2, 3. For every length (by its rest by 4); no condition. -/
import Derived.Test.YtkigphpfdagcnaaGreatDoorY6
set_option linter.unusedSectionVars false
set_option linter.unusedVariables false
set_option linter.unusedSimpArgs false
set_option linter.unnecessarySimpa false
section
namespace Kz
open Go Go.RowKit
theorem law7 (b : Int) (_ : IntKind.has .i64 b) : PureSpec Pz 7 [.int .i64 b] (.bool true) := by
  have t := N7_true b
  have h := P7 b t.1
  rw [t.2] at h
  exact h.1
end Kz
namespace Go.Proofs.YtkigphpfdagcnaaGreatDoor
open Kz Go Go.RowKit Go.WideShapes Go.ChangeShapes Go.ChangeAt Go.Proofs
set_option maxRecDepth 100000
theorem par7 : Tryz.f7.params = #[3] := by kernel_rfl
theorem res7 : Tryz.f7.resultTypes = #[4] := by kernel_rfl
theorem rd7 : ∀ t ∈ Tryz.f7.params.toList, Tryz.prog.readableRec t = true ∧ t < Tryz.prog.types.size := by
  rw [par7]
  have h : ([3] : List TypeId).all (fun t => Tryz.prog.readableRec t && Nat.blt t Tryz.prog.types.size) = true := by kernel_rfl
  intro t ht
  have := List.all_eq_true.1 h t ht
  simp only [Bool.and_eq_true, Nat.blt_eq] at this
  exact this
theorem open7 (W : World) (base : Nat) (args : Array Value) (hl : args.size = Tryz.f7.params.size) (hval : ∀ (j : Nat) t v, Tryz.f7.params[j]? = some t → args[j]? = some v → Value.okWide Tryz.prog W .any base t v) :
    ∃ xs, (∀ (g : Gh) (tk : List Nat) (w : World), RepL g tk w xs args.toList) ∧ PureSpec Pz 7 xs (.bool true) := by
  rw [par7] at hl
  obtain ⟨l⟩ := args
  obtain ⟨v0, rfl⟩ : ∃ v0, l = [v0] := by
    match l, hl with
    | [v0], _ => exact ⟨_, rfl⟩
  obtain ⟨p0, h0, r0⟩ := int_open (k := .i64) under3 (hval 0 3 v0 (by rw [par7]; rfl) rfl)
  exact ⟨[.int .i64 p0], fun g tk w => .cons (r0 _ _ _) .nil, law7 p0 h0⟩
theorem laid_met7 (os : Os) : laidMet Tryz.prog Rows.perftKnownRow.laid ((laidWorld os).forCall (fun _ _ => 0) ⟨#[], #[.int .i64 0], []⟩).memory :=
  laidMet_of_run' 12 (by kernel_rfl) (by kernel_rfl)
theorem reads7 (os : Os) {H : Type} (enc : TypeId × Value → H) : ∃ places, DataW.whole enc Tryz.prog ((laidWorld os).forCall (fun _ _ => 0) ⟨#[], #[.int .i64 0], []⟩).memory Tryz.f7.params.toList Rows.perftKnownSpec.vars false (#[.int .i64 0] : Array Value).toList 12 = some ([(.lit (.int .i64 0))], [], places) :=
  ⟨[], by kernel_rfl⟩
theorem lifted7 (os : Os) (started : os.Started) (H : Type) (enc : TypeId × Value → H) (F : Stop.Interp) :
    ReturnsInHanded {} Tryz.checked os 7 .any ((OpenSpec.ofChange Rows.perftKnownSpec).preRow enc Tryz.prog Tryz.f7 Rows.perftKnownRow.domain false Rows.perftKnownRow.laid) (((OpenSpec.ofChange Rows.perftKnownSpec).at F).post enc Tryz.prog Tryz.f7 false true false false) := by
  obtain ⟨places, hx⟩ := reads7 os enc
  refine returnsInHanded_of_row (C := Tryz.checked) (s := OpenSpec.ofChange Rows.perftKnownSpec) own_z started (by kernel_rfl) Tryz.func7
    (witness_row_at (enc := enc) (C := Tryz.checked) false (laidWorld os) #[.int .i64 0] rfl (by kernel_rfl) (by kernel_rfl) (by kernel_rfl)
      (OpenSpec.preRow_of_cond 12 hx (by kernel_rfl) (fun k hk => by cases hk) (by kernel_rfl) (laid_met7 os))) ?_
  intro W base args ds gs before hval hW _ _ _ hL _ _
  exact contract_of (f := 7) (fn := Tryz.f7) (s := Rows.perftKnownSpec) res7 rfl rd7 (fun H ds hds => by
    rw [par7] at hds
    match ds, hds with
    | [d0], _ => rfl) open7 H enc W base args ds gs before hval hW (globOk_laid hL)
theorem said7 : Rows.PerftKnownSaid :=
  OpenClaim.holds_of_cond 7 Tryz.f7 rfl rfl rfl rfl rfl rfl rfl ⟨rfl, rfl, rfl, rfl, rfl⟩ rfl rfl rfl rfl rfl (by kernel_rfl) Tryz.func7 (by kernel_rfl)
    (of_decide_eq_true (by kernel_rfl)) (by unfold Func.isWrapper; first | (rw [if_pos (by decide +kernel)]; kernel_rfl) | (rw [if_neg (by decide +kernel)]; exact ⟨rfl, rfl⟩))
    (fun os started H enc _ F => by rw [OpenClaim.pre_eq_preRow]; exact lifted7 os started H enc F)
theorem plain7 (f : FuncId) (fn : Func) (hf : Tryz.pinned.checked.prog.funcNamed Rows.perftKnownRow.func = some f) (hfn : Tryz.pinned.checked.prog.funcs[f]? = some fn) :
    true = Tryz.pinned.checked.prog.looks [] ∧ ∀ (j : Nat) t, fn.params[j]? = some t → Tryz.pinned.checked.prog.wantsStandIn t = false := by
  obtain rfl : f = 7 := Option.some.inj ((show Tryz.prog.funcNamed Rows.perftKnownRow.func = some 7 by kernel_rfl).symm.trans hf) |>.symm
  obtain rfl : fn = Tryz.f7 := (Option.some.inj (Tryz.func7.symm.trans hfn)).symm
  refine ⟨by kernel_rfl, fun j t ht => ?_⟩
  rw [par7] at ht
  have h : ([3] : List TypeId).all (fun t => !Tryz.prog.wantsStandIn t) = true := by kernel_rfl
  have hm : t ∈ ([3] : List TypeId) := by simpa using Array.mem_of_getElem? ht
  have hw : Tryz.prog.wantsStandIn t = false := by simpa using List.all_eq_true.1 h t hm
  exact hw
theorem card7 : Rows.PerftKnownCardSaid :=
  Claim7.holds_tied_plain_at .later [] _ _ _ _ said7 (fun _ h => by cases h) (by kernel_rfl) (fun _ h => by cases h) perftKnown_row_tie rfl ⟨rfl, rfl⟩ (by kernel_rfl) rfl plain7 (by kernel_rfl)
end Go.Proofs.YtkigphpfdagcnaaGreatDoor
end
