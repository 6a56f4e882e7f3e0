/- Part 7 of the texts under the proof: an abstract interpreter, the summaries of functions, plain laws. -/
import Derived.Test.YteikclocoolghaaGreatDoorQ6
set_option linter.unusedSectionVars false
set_option linter.unusedVariables false
set_option linter.unusedSimpArgs false
set_option linter.unnecessarySimpa false
section
namespace Kz
open Go Go.RowKit Go.Proofs
set_option maxRecDepth 100000
set_option maxHeartbeats 4000000
noncomputable def K8 : List (Nat × List (Nat × List Nat)) := [(8, [(0, (0 :: (rn 2 7 [10]))), (1, (0 :: 1 :: (rn 3 8 [])))])]
noncomputable def B8 : Base := baseOf Pz (fun f i => lkK f i K8) [(27, G27), (28, G28), (29, G29)] [] []
theorem hB8 : BOk B8 := base_ok named_z ⟨s27, s28, s29, trivial⟩ trivial trivial
noncomputable def N8 (a : Pos) : Bool := (bif eqOut BinOp.eql (N27 a == N28 a) then (N29) else (false))
noncomputable def ok8 (a : Pos) : Bool := (ok27 (a) && (ok28 (a) && (bif eqOut BinOp.eql (N27 a == N28 a) then (ok29  && true) else true)))
theorem E8 (a : Pos) : evPure B8 14 8 [Pos.av a] = Tr.br (isPS Pz 27 [a.av] (dB.res (N27 a))) (Tr.br (isPS Pz 28 [a.av] (dB.res (N28 a))) (Tr.br (eqOut BinOp.eql (N27 a == N28 a)) (Tr.br (isPS Pz 29 [] (dB.res N29)) (Tr.ret (AV.bool N29)) Tr.fail) (Tr.ret (AV.cbool false))) Tr.fail) Tr.fail := by kernel_rfl
theorem P8 (a : Pos) (h : ok8 a = true) : PS Pz 8 [Pos.av a] (dB.res (N8 a)) := ps_gotR hB8 (E8 a) (gr_call (P27 (a)) (gr_call (P28 (a)) (gr_br (gr_call (P29 ) (gr_ret rfl)) (gr_ret rfl)))) h
noncomputable def G8 : List AV → Tr AV := g1 dPos (fun a => sure Pz 8 [Pos.av a] (dB.res (N8 a)))
theorem s8 : Sound Pz 8 G8 := sound1 (fun _ => at_sure)
end Kz
end
section
namespace Kz
open Go Go.RowKit
theorem N8_true {p : Pos} (hp : PosIn p) : ok8 p = true ∧ N8 p = true := by
  obtain ⟨h1, h2⟩ := N28_eq hp
  have k29 := ok29_true
  have e29 := N29_true
  have k27 := t27 p
  have eq : eqOut BinOp.eql (N27 p == N28 p) = true := by rw [h2]; simp [eqOut]
  constructor
  · unfold ok8
    rw [k27, h1, eq, k29]; rfl
  · unfold N8
    rw [eq, e29]; rfl
end Kz
end
