/-
  DERIVED. GIVEN WITH THE SEED: THE CARDS: each row of YtkigphpfdagcnaaGreatDoorRows.lean that lists a variable, with what it lists TIED to the program's text (the seventh form; the later family's looks); each row that meets fmt, with fmt's text TOLD by the authors' own Lean function (tested against real Go, not proved from fmt's source: count such statements apart). THE CARD IS WHAT COUNTS. Prove the row's statement (the work); the ties are given (YtkigphpfdagcnaaGreatDoorTie.lean); close each card by the builder's one call (the guide's Derived/Test/ToyasCard.lean, 'card_holds'). Laid BY PROGRAM, IN A SANDBOX (cutbox-door.mjs). By AI agents, Wed Nov 11 2026. No macro, syntax, notation, axiom, sorry.
-/
import Derived.Test.YtkigphpfdagcnaaGreatDoorRows
import GoSem.ClaimSeven
namespace Go.Proofs.YtkigphpfdagcnaaGreatDoor
namespace Rows

/-- THE TIED CARD OF 'kibitzerlaw17.LegalList'. -/
def legalListCard : Claim7 := { stood := { row := legalListRow, standIns := [], harness := (true, "eb9489d0f78c1dd0c78cfc6810c49a2f19be5c28881c12a661b020370f83414b"), looks := true }, kinds := [], alts := [], laidByText := true, laidKinds := [.data], laidTests := true, laidLooks := .later }
def LegalListCardSaid : Prop := Claim7.holds Tryz.pinned (.plain (OpenSpec.ofChange legalListSpec)) legalListCard

/-- THE TIED CARD OF 'kibitzerlaw19.OutcomeClock'. -/
def outcomeClockCard : Claim7 := { stood := { row := outcomeClockRow, standIns := [], harness := (true, "eb9489d0f78c1dd0c78cfc6810c49a2f19be5c28881c12a661b020370f83414b"), looks := true }, kinds := [], alts := [], laidByText := true, laidKinds := [.data], laidTests := true, laidLooks := .later }
def OutcomeClockCardSaid : Prop := Claim7.holds Tryz.pinned (.plain (OpenSpec.ofChange outcomeClockSpec)) outcomeClockCard

/-- THE TIED CARD OF 'kibitzerlaw19.OutcomeBehind'. -/
def outcomeBehindCard : Claim7 := { stood := { row := outcomeBehindRow, standIns := [], harness := (true, "eb9489d0f78c1dd0c78cfc6810c49a2f19be5c28881c12a661b020370f83414b"), looks := true }, kinds := [], alts := [], laidByText := true, laidKinds := [.data], laidTests := true, laidLooks := .later }
def OutcomeBehindCardSaid : Prop := Claim7.holds Tryz.pinned (.plain (OpenSpec.ofChange outcomeBehindSpec)) outcomeBehindCard

/-- THE TIED CARD OF 'kibitzerlaw19.OutcomeOf'. -/
def outcomeOfCard : Claim7 := { stood := { row := outcomeOfRow, standIns := [], harness := (true, "eb9489d0f78c1dd0c78cfc6810c49a2f19be5c28881c12a661b020370f83414b"), looks := true }, kinds := [], alts := [], laidByText := true, laidKinds := [.data], laidTests := true, laidLooks := .later }
def OutcomeOfCardSaid : Prop := Claim7.holds Tryz.pinned (.plain (OpenSpec.ofChange outcomeOfSpec)) outcomeOfCard

/-- THE TIED CARD OF 'kibitzerlaw22.PerftKnown'. -/
def perftKnownCard : Claim7 := { stood := { row := perftKnownRow, standIns := [], harness := (true, "eb9489d0f78c1dd0c78cfc6810c49a2f19be5c28881c12a661b020370f83414b"), looks := true }, kinds := [], alts := [], laidByText := true, laidKinds := [.data], laidTests := true, laidLooks := .later }
def PerftKnownCardSaid : Prop := Claim7.holds Tryz.pinned (.plain (OpenSpec.ofChange perftKnownSpec)) perftKnownCard

/-- THE TIED CARD OF 'kibitzerlaw22.PerftEnded'. -/
def perftEndedCard : Claim7 := { stood := { row := perftEndedRow, standIns := [], harness := (true, "eb9489d0f78c1dd0c78cfc6810c49a2f19be5c28881c12a661b020370f83414b"), looks := true }, kinds := [], alts := [], laidByText := true, laidKinds := [.data], laidTests := true, laidLooks := .later }
def PerftEndedCardSaid : Prop := Claim7.holds Tryz.pinned (.plain (OpenSpec.ofChange perftEndedSpec)) perftEndedCard

/-- THE TIED CARD OF 'kibitzerlaw22.PerftDivides'. -/
def perftDividesCard : Claim7 := { stood := { row := perftDividesRow, standIns := [], harness := (true, "eb9489d0f78c1dd0c78cfc6810c49a2f19be5c28881c12a661b020370f83414b"), looks := true }, kinds := [], alts := [], laidByText := true, laidKinds := [.data], laidTests := true, laidLooks := .later }
def PerftDividesCardSaid : Prop := Claim7.holds Tryz.pinned (.plain (OpenSpec.ofChange perftDividesSpec)) perftDividesCard

/-- THE SECOND FORM's CARD OF 'kibitzerlaw17.LegalList'. -/
def legalListUptoCard : Claim7 := { stood := { row := legalListUptoRow, standIns := [], harness := (true, "eb9489d0f78c1dd0c78cfc6810c49a2f19be5c28881c12a661b020370f83414b"), looks := true }, kinds := [], alts := [], laidByText := true, laidKinds := [.data], laidTests := true, laidLooks := .later }
def LegalListUptoCardSaid : Prop := Claim7.holds Tryz.pinned (.plain (OpenSpec.upto legalListSpec)) legalListUptoCard

/-- THE SECOND FORM's CARD OF 'kibitzerlaw19.OutcomeClock'. -/
def outcomeClockUptoCard : Claim7 := { stood := { row := outcomeClockUptoRow, standIns := [], harness := (true, "eb9489d0f78c1dd0c78cfc6810c49a2f19be5c28881c12a661b020370f83414b"), looks := true }, kinds := [], alts := [], laidByText := true, laidKinds := [.data], laidTests := true, laidLooks := .later }
def OutcomeClockUptoCardSaid : Prop := Claim7.holds Tryz.pinned (.plain (OpenSpec.upto outcomeClockSpec)) outcomeClockUptoCard

/-- THE SECOND FORM's CARD OF 'kibitzerlaw19.OutcomeBehind'. -/
def outcomeBehindUptoCard : Claim7 := { stood := { row := outcomeBehindUptoRow, standIns := [], harness := (true, "eb9489d0f78c1dd0c78cfc6810c49a2f19be5c28881c12a661b020370f83414b"), looks := true }, kinds := [], alts := [], laidByText := true, laidKinds := [.data], laidTests := true, laidLooks := .later }
def OutcomeBehindUptoCardSaid : Prop := Claim7.holds Tryz.pinned (.plain (OpenSpec.upto outcomeBehindSpec)) outcomeBehindUptoCard

/-- THE SECOND FORM's CARD OF 'kibitzerlaw19.OutcomeOf'. -/
def outcomeOfUptoCard : Claim7 := { stood := { row := outcomeOfUptoRow, standIns := [], harness := (true, "eb9489d0f78c1dd0c78cfc6810c49a2f19be5c28881c12a661b020370f83414b"), looks := true }, kinds := [], alts := [], laidByText := true, laidKinds := [.data], laidTests := true, laidLooks := .later }
def OutcomeOfUptoCardSaid : Prop := Claim7.holds Tryz.pinned (.plain (OpenSpec.upto outcomeOfSpec)) outcomeOfUptoCard

/-- THE SECOND FORM's CARD OF 'kibitzerlaw22.PerftKnown'. -/
def perftKnownUptoCard : Claim7 := { stood := { row := perftKnownUptoRow, standIns := [], harness := (true, "eb9489d0f78c1dd0c78cfc6810c49a2f19be5c28881c12a661b020370f83414b"), looks := true }, kinds := [], alts := [], laidByText := true, laidKinds := [.data], laidTests := true, laidLooks := .later }
def PerftKnownUptoCardSaid : Prop := Claim7.holds Tryz.pinned (.plain (OpenSpec.upto perftKnownSpec)) perftKnownUptoCard

/-- THE SECOND FORM's CARD OF 'kibitzerlaw22.PerftEnded'. -/
def perftEndedUptoCard : Claim7 := { stood := { row := perftEndedUptoRow, standIns := [], harness := (true, "eb9489d0f78c1dd0c78cfc6810c49a2f19be5c28881c12a661b020370f83414b"), looks := true }, kinds := [], alts := [], laidByText := true, laidKinds := [.data], laidTests := true, laidLooks := .later }
def PerftEndedUptoCardSaid : Prop := Claim7.holds Tryz.pinned (.plain (OpenSpec.upto perftEndedSpec)) perftEndedUptoCard

/-- THE SECOND FORM's CARD OF 'kibitzerlaw22.PerftDivides'. -/
def perftDividesUptoCard : Claim7 := { stood := { row := perftDividesUptoRow, standIns := [], harness := (true, "eb9489d0f78c1dd0c78cfc6810c49a2f19be5c28881c12a661b020370f83414b"), looks := true }, kinds := [], alts := [], laidByText := true, laidKinds := [.data], laidTests := true, laidLooks := .later }
def PerftDividesUptoCardSaid : Prop := Claim7.holds Tryz.pinned (.plain (OpenSpec.upto perftDividesSpec)) perftDividesUptoCard
end Rows
end Go.Proofs.YtkigphpfdagcnaaGreatDoor
