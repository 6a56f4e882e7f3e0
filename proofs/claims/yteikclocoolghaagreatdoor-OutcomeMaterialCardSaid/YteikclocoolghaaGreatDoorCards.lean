/-
  DERIVED. GIVEN WITH THE SEED: THE CARDS: each row of YteikclocoolghaaGreatDoorRows.lean that lists a variable, with what it lists TIED to the program's text (the seventh form; the later family's looks); each row that meets fmt, with fmt's text TOLD by the authors' own Lean function (tested against real Go, not proved from fmt's source: count such statements apart). THE CARD IS WHAT COUNTS. Prove the row's statement (the work); the ties are given (YteikclocoolghaaGreatDoorTie.lean); close each card by the builder's one call (the guide's Derived/Test/ToyasCard.lean, 'card_holds'). Laid BY PROGRAM, IN A SANDBOX (cutbox-door.mjs). By AI agents, Wed Nov 11 2026. No macro, syntax, notation, axiom, sorry.
-/
import Derived.Test.YteikclocoolghaaGreatDoorRows
import GoSem.ClaimSeven
namespace Go.Proofs.YteikclocoolghaaGreatDoor
namespace Rows

/-- THE TIED CARD OF 'kibitzerlaw17.LegalList'. -/
def legalListCard : Claim7 := { stood := { row := legalListRow, standIns := [], harness := (true, "eaa9c29654bfaaa065fccab9bcb67c51fbd445e898ac9fb780dbce2621b7ac88"), looks := false }, kinds := [], alts := [], laidByText := true, laidKinds := [.data], laidTests := true, laidLooks := .later }
def LegalListCardSaid : Prop := Claim7.holds Tryz.pinned (.plain (OpenSpec.ofChange legalListSpec)) legalListCard

/-- THE TIED CARD OF 'kibitzerlaw17.LegalKings'. -/
def legalKingsCard : Claim7 := { stood := { row := legalKingsRow, standIns := [], harness := (true, "eaa9c29654bfaaa065fccab9bcb67c51fbd445e898ac9fb780dbce2621b7ac88"), looks := false }, kinds := [], alts := [], laidByText := true, laidKinds := [.data], laidTests := true, laidLooks := .later }
def LegalKingsCardSaid : Prop := Claim7.holds Tryz.pinned (.plain (OpenSpec.ofChange legalKingsSpec)) legalKingsCard

/-- THE TIED CARD OF 'kibitzerlaw17.LegalPart'. -/
def legalPartCard : Claim7 := { stood := { row := legalPartRow, standIns := [], harness := (true, "eaa9c29654bfaaa065fccab9bcb67c51fbd445e898ac9fb780dbce2621b7ac88"), looks := false }, kinds := [], alts := [], laidByText := true, laidKinds := [.data], laidTests := true, laidLooks := .later }
def LegalPartCardSaid : Prop := Claim7.holds Tryz.pinned (.plain (OpenSpec.ofChange legalPartSpec)) legalPartCard

/-- THE TIED CARD OF 'kibitzerlaw17.LegalClocks'. -/
def legalClocksCard : Claim7 := { stood := { row := legalClocksRow, standIns := [], harness := (true, "eaa9c29654bfaaa065fccab9bcb67c51fbd445e898ac9fb780dbce2621b7ac88"), looks := false }, kinds := [], alts := [], laidByText := true, laidKinds := [.data], laidTests := true, laidLooks := .later }
def LegalClocksCardSaid : Prop := Claim7.holds Tryz.pinned (.plain (OpenSpec.ofChange legalClocksSpec)) legalClocksCard

/-- THE TIED CARD OF 'kibitzerlaw17.LegalWins'. -/
def legalWinsCard : Claim7 := { stood := { row := legalWinsRow, standIns := [], harness := (true, "eaa9c29654bfaaa065fccab9bcb67c51fbd445e898ac9fb780dbce2621b7ac88"), looks := false }, kinds := [], alts := [], laidByText := true, laidKinds := [.data], laidTests := true, laidLooks := .later }
def LegalWinsCardSaid : Prop := Claim7.holds Tryz.pinned (.plain (OpenSpec.ofChange legalWinsSpec)) legalWinsCard

/-- THE TIED CARD OF 'kibitzerlaw19.OutcomeMaterial'. -/
def outcomeMaterialCard : Claim7 := { stood := { row := outcomeMaterialRow, standIns := [], harness := (true, "eaa9c29654bfaaa065fccab9bcb67c51fbd445e898ac9fb780dbce2621b7ac88"), looks := false }, kinds := [], alts := [], laidByText := true, laidKinds := [.data], laidTests := true, laidLooks := .later }
def OutcomeMaterialCardSaid : Prop := Claim7.holds Tryz.pinned (.plain (OpenSpec.ofChange outcomeMaterialSpec)) outcomeMaterialCard

/-- THE TIED CARD OF 'kibitzerlaw19.OutcomeText'. -/
def outcomeTextCard : Claim7 := { stood := { row := outcomeTextRow, standIns := [], harness := (true, "eaa9c29654bfaaa065fccab9bcb67c51fbd445e898ac9fb780dbce2621b7ac88"), looks := false }, kinds := [], alts := [], laidByText := true, laidKinds := [.data], laidTests := true, laidLooks := .later }
def OutcomeTextCardSaid : Prop := Claim7.holds Tryz.pinned (.plain (OpenSpec.ofChange outcomeTextSpec)) outcomeTextCard

/-- THE TIED CARD OF 'kibitzerlaw19.OutcomeMoves'. -/
def outcomeMovesCard : Claim7 := { stood := { row := outcomeMovesRow, standIns := [], harness := (true, "eaa9c29654bfaaa065fccab9bcb67c51fbd445e898ac9fb780dbce2621b7ac88"), looks := false }, kinds := [], alts := [], laidByText := true, laidKinds := [.data], laidTests := true, laidLooks := .later }
def OutcomeMovesCardSaid : Prop := Claim7.holds Tryz.pinned (.plain (OpenSpec.ofChange outcomeMovesSpec)) outcomeMovesCard

/-- THE TIED CARD OF 'kibitzerlaw19.OutcomeClock'. -/
def outcomeClockCard : Claim7 := { stood := { row := outcomeClockRow, standIns := [], harness := (true, "eaa9c29654bfaaa065fccab9bcb67c51fbd445e898ac9fb780dbce2621b7ac88"), looks := false }, kinds := [], alts := [], laidByText := true, laidKinds := [.data], laidTests := true, laidLooks := .later }
def OutcomeClockCardSaid : Prop := Claim7.holds Tryz.pinned (.plain (OpenSpec.ofChange outcomeClockSpec)) outcomeClockCard

/-- THE TIED CARD OF 'kibitzerlaw19.OutcomeBare'. -/
def outcomeBareCard : Claim7 := { stood := { row := outcomeBareRow, standIns := [], harness := (true, "eaa9c29654bfaaa065fccab9bcb67c51fbd445e898ac9fb780dbce2621b7ac88"), looks := false }, kinds := [], alts := [], laidByText := true, laidKinds := [.data], laidTests := true, laidLooks := .later }
def OutcomeBareCardSaid : Prop := Claim7.holds Tryz.pinned (.plain (OpenSpec.ofChange outcomeBareSpec)) outcomeBareCard

/-- THE TIED CARD OF 'kibitzerlaw19.OutcomeOf'. -/
def outcomeOfCard : Claim7 := { stood := { row := outcomeOfRow, standIns := [], harness := (true, "eaa9c29654bfaaa065fccab9bcb67c51fbd445e898ac9fb780dbce2621b7ac88"), looks := false }, kinds := [], alts := [], laidByText := true, laidKinds := [.data], laidTests := true, laidLooks := .later }
def OutcomeOfCardSaid : Prop := Claim7.holds Tryz.pinned (.plain (OpenSpec.ofChange outcomeOfSpec)) outcomeOfCard

/-- THE SECOND FORM's CARD OF 'kibitzerlaw17.LegalList'. -/
def legalListUptoCard : Claim7 := { stood := { row := legalListUptoRow, standIns := [], harness := (true, "eaa9c29654bfaaa065fccab9bcb67c51fbd445e898ac9fb780dbce2621b7ac88"), looks := false }, kinds := [], alts := [], laidByText := true, laidKinds := [.data], laidTests := true, laidLooks := .later }
def LegalListUptoCardSaid : Prop := Claim7.holds Tryz.pinned (.plain (OpenSpec.upto legalListSpec)) legalListUptoCard

/-- THE SECOND FORM's CARD OF 'kibitzerlaw17.LegalKings'. -/
def legalKingsUptoCard : Claim7 := { stood := { row := legalKingsUptoRow, standIns := [], harness := (true, "eaa9c29654bfaaa065fccab9bcb67c51fbd445e898ac9fb780dbce2621b7ac88"), looks := false }, kinds := [], alts := [], laidByText := true, laidKinds := [.data], laidTests := true, laidLooks := .later }
def LegalKingsUptoCardSaid : Prop := Claim7.holds Tryz.pinned (.plain (OpenSpec.upto legalKingsSpec)) legalKingsUptoCard

/-- THE SECOND FORM's CARD OF 'kibitzerlaw17.LegalPart'. -/
def legalPartUptoCard : Claim7 := { stood := { row := legalPartUptoRow, standIns := [], harness := (true, "eaa9c29654bfaaa065fccab9bcb67c51fbd445e898ac9fb780dbce2621b7ac88"), looks := false }, kinds := [], alts := [], laidByText := true, laidKinds := [.data], laidTests := true, laidLooks := .later }
def LegalPartUptoCardSaid : Prop := Claim7.holds Tryz.pinned (.plain (OpenSpec.upto legalPartSpec)) legalPartUptoCard

/-- THE SECOND FORM's CARD OF 'kibitzerlaw17.LegalClocks'. -/
def legalClocksUptoCard : Claim7 := { stood := { row := legalClocksUptoRow, standIns := [], harness := (true, "eaa9c29654bfaaa065fccab9bcb67c51fbd445e898ac9fb780dbce2621b7ac88"), looks := false }, kinds := [], alts := [], laidByText := true, laidKinds := [.data], laidTests := true, laidLooks := .later }
def LegalClocksUptoCardSaid : Prop := Claim7.holds Tryz.pinned (.plain (OpenSpec.upto legalClocksSpec)) legalClocksUptoCard

/-- THE SECOND FORM's CARD OF 'kibitzerlaw17.LegalWins'. -/
def legalWinsUptoCard : Claim7 := { stood := { row := legalWinsUptoRow, standIns := [], harness := (true, "eaa9c29654bfaaa065fccab9bcb67c51fbd445e898ac9fb780dbce2621b7ac88"), looks := false }, kinds := [], alts := [], laidByText := true, laidKinds := [.data], laidTests := true, laidLooks := .later }
def LegalWinsUptoCardSaid : Prop := Claim7.holds Tryz.pinned (.plain (OpenSpec.upto legalWinsSpec)) legalWinsUptoCard

/-- THE SECOND FORM's CARD OF 'kibitzerlaw19.OutcomeMaterial'. -/
def outcomeMaterialUptoCard : Claim7 := { stood := { row := outcomeMaterialUptoRow, standIns := [], harness := (true, "eaa9c29654bfaaa065fccab9bcb67c51fbd445e898ac9fb780dbce2621b7ac88"), looks := false }, kinds := [], alts := [], laidByText := true, laidKinds := [.data], laidTests := true, laidLooks := .later }
def OutcomeMaterialUptoCardSaid : Prop := Claim7.holds Tryz.pinned (.plain (OpenSpec.upto outcomeMaterialSpec)) outcomeMaterialUptoCard

/-- THE SECOND FORM's CARD OF 'kibitzerlaw19.OutcomeText'. -/
def outcomeTextUptoCard : Claim7 := { stood := { row := outcomeTextUptoRow, standIns := [], harness := (true, "eaa9c29654bfaaa065fccab9bcb67c51fbd445e898ac9fb780dbce2621b7ac88"), looks := false }, kinds := [], alts := [], laidByText := true, laidKinds := [.data], laidTests := true, laidLooks := .later }
def OutcomeTextUptoCardSaid : Prop := Claim7.holds Tryz.pinned (.plain (OpenSpec.upto outcomeTextSpec)) outcomeTextUptoCard

/-- THE SECOND FORM's CARD OF 'kibitzerlaw19.OutcomeMoves'. -/
def outcomeMovesUptoCard : Claim7 := { stood := { row := outcomeMovesUptoRow, standIns := [], harness := (true, "eaa9c29654bfaaa065fccab9bcb67c51fbd445e898ac9fb780dbce2621b7ac88"), looks := false }, kinds := [], alts := [], laidByText := true, laidKinds := [.data], laidTests := true, laidLooks := .later }
def OutcomeMovesUptoCardSaid : Prop := Claim7.holds Tryz.pinned (.plain (OpenSpec.upto outcomeMovesSpec)) outcomeMovesUptoCard

/-- THE SECOND FORM's CARD OF 'kibitzerlaw19.OutcomeClock'. -/
def outcomeClockUptoCard : Claim7 := { stood := { row := outcomeClockUptoRow, standIns := [], harness := (true, "eaa9c29654bfaaa065fccab9bcb67c51fbd445e898ac9fb780dbce2621b7ac88"), looks := false }, kinds := [], alts := [], laidByText := true, laidKinds := [.data], laidTests := true, laidLooks := .later }
def OutcomeClockUptoCardSaid : Prop := Claim7.holds Tryz.pinned (.plain (OpenSpec.upto outcomeClockSpec)) outcomeClockUptoCard

/-- THE SECOND FORM's CARD OF 'kibitzerlaw19.OutcomeBare'. -/
def outcomeBareUptoCard : Claim7 := { stood := { row := outcomeBareUptoRow, standIns := [], harness := (true, "eaa9c29654bfaaa065fccab9bcb67c51fbd445e898ac9fb780dbce2621b7ac88"), looks := false }, kinds := [], alts := [], laidByText := true, laidKinds := [.data], laidTests := true, laidLooks := .later }
def OutcomeBareUptoCardSaid : Prop := Claim7.holds Tryz.pinned (.plain (OpenSpec.upto outcomeBareSpec)) outcomeBareUptoCard

/-- THE SECOND FORM's CARD OF 'kibitzerlaw19.OutcomeOf'. -/
def outcomeOfUptoCard : Claim7 := { stood := { row := outcomeOfUptoRow, standIns := [], harness := (true, "eaa9c29654bfaaa065fccab9bcb67c51fbd445e898ac9fb780dbce2621b7ac88"), looks := false }, kinds := [], alts := [], laidByText := true, laidKinds := [.data], laidTests := true, laidLooks := .later }
def OutcomeOfUptoCardSaid : Prop := Claim7.holds Tryz.pinned (.plain (OpenSpec.upto outcomeOfSpec)) outcomeOfUptoCard
end Rows
end Go.Proofs.YteikclocoolghaaGreatDoor
