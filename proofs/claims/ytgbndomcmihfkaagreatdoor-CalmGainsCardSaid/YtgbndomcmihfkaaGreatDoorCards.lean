/-
  DERIVED. GIVEN WITH THE SEED: THE CARDS: each row of YtgbndomcmihfkaaGreatDoorRows.lean that lists a variable, with what it lists TIED to the program's text (the seventh form; the later family's looks); each row that meets fmt, with fmt's text TOLD by the authors' own Lean function (tested against real Go, not proved from fmt's source: count such statements apart). THE CARD IS WHAT COUNTS. Prove the row's statement (the work); the ties are given (YtgbndomcmihfkaaGreatDoorTie.lean); close each card by the builder's one call (the guide's Derived/Test/ToyasCard.lean, 'card_holds'). Laid BY PROGRAM, IN A SANDBOX (cutbox-door.mjs). By AI agents, Wed Nov 11 2026. No macro, syntax, notation, axiom, sorry.
-/
import Derived.Test.YtgbndomcmihfkaaGreatDoorRows
import GoSem.ClaimSeven
namespace Go.Proofs.YtgbndomcmihfkaaGreatDoor
namespace Rows

/-- THE TIED CARD OF 'kibitzerlaw22.PerftDivides'. -/
def perftDividesCard : Claim7 := { stood := { row := perftDividesRow, standIns := [], harness := (true, "29755960f14dadfb2a7c8cde76d590e26d2b081f047f36fe62e9207cb44caa6c"), looks := true }, kinds := [], alts := [], laidByText := true, laidKinds := [.data], laidTests := true, laidLooks := .later }
def PerftDividesCardSaid : Prop := Claim7.holds Tryz.pinned (.plain (OpenSpec.ofChange perftDividesSpec)) perftDividesCard

/-- THE TIED CARD OF 'kibitzerlaw29.CalmValues'. -/
def calmValuesCard : Claim7 := { stood := { row := calmValuesRow, standIns := [], harness := (true, "29755960f14dadfb2a7c8cde76d590e26d2b081f047f36fe62e9207cb44caa6c"), looks := true }, kinds := [], alts := [], laidByText := true, laidKinds := [.data], laidTests := true, laidLooks := .later }
def CalmValuesCardSaid : Prop := Claim7.holds Tryz.pinned (.plain (OpenSpec.ofChange calmValuesSpec)) calmValuesCard

/-- THE TIED CARD OF 'kibitzerlaw29.CalmTakes'. -/
def calmTakesCard : Claim7 := { stood := { row := calmTakesRow, standIns := [], harness := (true, "29755960f14dadfb2a7c8cde76d590e26d2b081f047f36fe62e9207cb44caa6c"), looks := true }, kinds := [], alts := [], laidByText := true, laidKinds := [.data], laidTests := true, laidLooks := .later }
def CalmTakesCardSaid : Prop := Claim7.holds Tryz.pinned (.plain (OpenSpec.ofChange calmTakesSpec)) calmTakesCard

/-- THE TIED CARD OF 'kibitzerlaw29.CalmGains'. -/
def calmGainsCard : Claim7 := { stood := { row := calmGainsRow, standIns := [], harness := (true, "29755960f14dadfb2a7c8cde76d590e26d2b081f047f36fe62e9207cb44caa6c"), looks := true }, kinds := [], alts := [], laidByText := true, laidKinds := [.data], laidTests := true, laidLooks := .later }
def CalmGainsCardSaid : Prop := Claim7.holds Tryz.pinned (.plain (OpenSpec.ofChange calmGainsSpec)) calmGainsCard

/-- THE SECOND FORM's CARD OF 'kibitzerlaw22.PerftDivides'. -/
def perftDividesUptoCard : Claim7 := { stood := { row := perftDividesUptoRow, standIns := [], harness := (true, "29755960f14dadfb2a7c8cde76d590e26d2b081f047f36fe62e9207cb44caa6c"), looks := true }, kinds := [], alts := [], laidByText := true, laidKinds := [.data], laidTests := true, laidLooks := .later }
def PerftDividesUptoCardSaid : Prop := Claim7.holds Tryz.pinned (.plain (OpenSpec.upto perftDividesSpec)) perftDividesUptoCard

/-- THE SECOND FORM's CARD OF 'kibitzerlaw29.CalmValues'. -/
def calmValuesUptoCard : Claim7 := { stood := { row := calmValuesUptoRow, standIns := [], harness := (true, "29755960f14dadfb2a7c8cde76d590e26d2b081f047f36fe62e9207cb44caa6c"), looks := true }, kinds := [], alts := [], laidByText := true, laidKinds := [.data], laidTests := true, laidLooks := .later }
def CalmValuesUptoCardSaid : Prop := Claim7.holds Tryz.pinned (.plain (OpenSpec.upto calmValuesSpec)) calmValuesUptoCard

/-- THE SECOND FORM's CARD OF 'kibitzerlaw29.CalmTakes'. -/
def calmTakesUptoCard : Claim7 := { stood := { row := calmTakesUptoRow, standIns := [], harness := (true, "29755960f14dadfb2a7c8cde76d590e26d2b081f047f36fe62e9207cb44caa6c"), looks := true }, kinds := [], alts := [], laidByText := true, laidKinds := [.data], laidTests := true, laidLooks := .later }
def CalmTakesUptoCardSaid : Prop := Claim7.holds Tryz.pinned (.plain (OpenSpec.upto calmTakesSpec)) calmTakesUptoCard

/-- THE SECOND FORM's CARD OF 'kibitzerlaw29.CalmGains'. -/
def calmGainsUptoCard : Claim7 := { stood := { row := calmGainsUptoRow, standIns := [], harness := (true, "29755960f14dadfb2a7c8cde76d590e26d2b081f047f36fe62e9207cb44caa6c"), looks := true }, kinds := [], alts := [], laidByText := true, laidKinds := [.data], laidTests := true, laidLooks := .later }
def CalmGainsUptoCardSaid : Prop := Claim7.holds Tryz.pinned (.plain (OpenSpec.upto calmGainsSpec)) calmGainsUptoCard
end Rows
end Go.Proofs.YtgbndomcmihfkaaGreatDoor
