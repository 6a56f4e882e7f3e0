/-
  DERIVED. GIVEN WITH THE SEED: THE CARDS: each row of YteikjjgonhlndaaGreatDoorRows.lean that lists a variable, with what it lists TIED to the program's text (the seventh form; the later family's looks); each row that meets fmt, with fmt's text TOLD by the authors' own Lean function (tested against real Go, not proved from fmt's source: count such statements apart). THE CARD IS WHAT COUNTS. Prove the row's statement (the work); the ties are given (YteikjjgonhlndaaGreatDoorTie.lean); close each card by the builder's one call (the guide's Derived/Test/ToyasCard.lean, 'card_holds'). Laid BY PROGRAM, IN A SANDBOX (cutbox-door.mjs). By AI agents, Wed Nov 11 2026. No macro, syntax, notation, axiom, sorry.
-/
import Derived.Test.YteikjjgonhlndaaGreatDoorRows
import GoSem.ClaimSeven
namespace Go.Proofs.YteikjjgonhlndaaGreatDoor
namespace Rows

/-- THE TIED CARD OF 'kibitzerlaw25.MinimaxBack'. -/
def minimaxBackCard : Claim7 := { stood := { row := minimaxBackRow, standIns := [], harness := (true, "e0c2e6d467a814a9d58781b4dbfbe8cfd1d977c587fa54697108fa9fa82e623b"), looks := true }, kinds := [], alts := [], laidByText := true, laidKinds := [.data], laidTests := true, laidLooks := .later }
def MinimaxBackCardSaid : Prop := Claim7.holds Tryz.pinned (.plain (OpenSpec.ofChange minimaxBackSpec)) minimaxBackCard

/-- THE TIED CARD OF 'kibitzerlaw29.CalmGreatest'. -/
def calmGreatestCard : Claim7 := { stood := { row := calmGreatestRow, standIns := [], harness := (true, "e0c2e6d467a814a9d58781b4dbfbe8cfd1d977c587fa54697108fa9fa82e623b"), looks := true }, kinds := [], alts := [], laidByText := true, laidKinds := [.data], laidTests := true, laidLooks := .later }
def CalmGreatestCardSaid : Prop := Claim7.holds Tryz.pinned (.plain (OpenSpec.ofChange calmGreatestSpec)) calmGreatestCard

/-- THE TIED CARD OF 'kibitzerlaw29.CalmPart'. -/
def calmPartCard : Claim7 := { stood := { row := calmPartRow, standIns := [], harness := (true, "e0c2e6d467a814a9d58781b4dbfbe8cfd1d977c587fa54697108fa9fa82e623b"), looks := true }, kinds := [], alts := [], laidByText := true, laidKinds := [.data], laidTests := true, laidLooks := .later }
def CalmPartCardSaid : Prop := Claim7.holds Tryz.pinned (.plain (OpenSpec.ofChange calmPartSpec)) calmPartCard

/-- THE TIED CARD OF 'kibitzerlaw29.CalmBounds'. -/
def calmBoundsCard : Claim7 := { stood := { row := calmBoundsRow, standIns := [], harness := (true, "e0c2e6d467a814a9d58781b4dbfbe8cfd1d977c587fa54697108fa9fa82e623b"), looks := true }, kinds := [], alts := [], laidByText := true, laidKinds := [.data], laidTests := true, laidLooks := .later }
def CalmBoundsCardSaid : Prop := Claim7.holds Tryz.pinned (.plain (OpenSpec.ofChange calmBoundsSpec)) calmBoundsCard

/-- THE SECOND FORM's CARD OF 'kibitzerlaw25.MinimaxBack'. -/
def minimaxBackUptoCard : Claim7 := { stood := { row := minimaxBackUptoRow, standIns := [], harness := (true, "e0c2e6d467a814a9d58781b4dbfbe8cfd1d977c587fa54697108fa9fa82e623b"), looks := true }, kinds := [], alts := [], laidByText := true, laidKinds := [.data], laidTests := true, laidLooks := .later }
def MinimaxBackUptoCardSaid : Prop := Claim7.holds Tryz.pinned (.plain (OpenSpec.upto minimaxBackSpec)) minimaxBackUptoCard

/-- THE SECOND FORM's CARD OF 'kibitzerlaw29.CalmGreatest'. -/
def calmGreatestUptoCard : Claim7 := { stood := { row := calmGreatestUptoRow, standIns := [], harness := (true, "e0c2e6d467a814a9d58781b4dbfbe8cfd1d977c587fa54697108fa9fa82e623b"), looks := true }, kinds := [], alts := [], laidByText := true, laidKinds := [.data], laidTests := true, laidLooks := .later }
def CalmGreatestUptoCardSaid : Prop := Claim7.holds Tryz.pinned (.plain (OpenSpec.upto calmGreatestSpec)) calmGreatestUptoCard

/-- THE SECOND FORM's CARD OF 'kibitzerlaw29.CalmPart'. -/
def calmPartUptoCard : Claim7 := { stood := { row := calmPartUptoRow, standIns := [], harness := (true, "e0c2e6d467a814a9d58781b4dbfbe8cfd1d977c587fa54697108fa9fa82e623b"), looks := true }, kinds := [], alts := [], laidByText := true, laidKinds := [.data], laidTests := true, laidLooks := .later }
def CalmPartUptoCardSaid : Prop := Claim7.holds Tryz.pinned (.plain (OpenSpec.upto calmPartSpec)) calmPartUptoCard

/-- THE SECOND FORM's CARD OF 'kibitzerlaw29.CalmBounds'. -/
def calmBoundsUptoCard : Claim7 := { stood := { row := calmBoundsUptoRow, standIns := [], harness := (true, "e0c2e6d467a814a9d58781b4dbfbe8cfd1d977c587fa54697108fa9fa82e623b"), looks := true }, kinds := [], alts := [], laidByText := true, laidKinds := [.data], laidTests := true, laidLooks := .later }
def CalmBoundsUptoCardSaid : Prop := Claim7.holds Tryz.pinned (.plain (OpenSpec.upto calmBoundsSpec)) calmBoundsUptoCard
end Rows
end Go.Proofs.YteikjjgonhlndaaGreatDoor
