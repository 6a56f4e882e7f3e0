/-
  DERIVED. GIVEN WITH THE SEED: THE CARDS: each row of YtpkbiocmoklocaaDoorRows.lean that lists a variable, with what it lists TIED to the program's text (the seventh form; the later family's looks); each row that meets fmt, with fmt's text TOLD by the authors' own Lean function (tested against real Go, not proved from fmt's source: count such statements apart). THE CARD IS WHAT COUNTS. Prove the row's statement (the work); the ties are given (YtpkbiocmoklocaaDoorTie.lean); close each card by the builder's one call (the guide's Derived/Test/ToyasCard.lean, 'card_holds'). Laid BY PROGRAM, IN A SANDBOX (cutbox-door.mjs). By AI agents, Wed Nov 11 2026. No macro, syntax, notation, axiom, sorry.
-/
import Derived.Test.YtpkbiocmoklocaaDoorRows
import GoSem.ClaimSeven
namespace Go.Proofs.YtpkbiocmoklocaaDoor
namespace Rows

/-- THE TIED CARD OF 'kibitzerlaw10.FenPrint'. -/
def fenPrintCard : Claim7 := { stood := { row := fenPrintRow, standIns := [], harness := (true, "d04d5bfb3b1cb87f75593084d236b8492dc1e55e4f197ac00e2bacba29e37d53"), looks := false }, kinds := [], alts := [], laidByText := true, laidKinds := [.data, .data, .data, .data, .pinned, .pinned], laidTests := true, laidLooks := .later }
def FenPrintCardSaid : Prop := Claim7.holds Tryd.pinned (.plain (OpenSpec.ofChange fenPrintSpec)) fenPrintCard

/-- THE SECOND FORM's CARD OF 'kibitzerlaw10.FenPrint'. -/
def fenPrintUptoCard : Claim7 := { stood := { row := fenPrintUptoRow, standIns := [], harness := (true, "d04d5bfb3b1cb87f75593084d236b8492dc1e55e4f197ac00e2bacba29e37d53"), looks := false }, kinds := [], alts := [], laidByText := true, laidKinds := [.data, .data, .data, .data, .pinned, .pinned], laidTests := true, laidLooks := .later }
def FenPrintUptoCardSaid : Prop := Claim7.holds Tryd.pinned (.plain (OpenSpec.upto fenPrintSpec)) fenPrintUptoCard
end Rows
end Go.Proofs.YtpkbiocmoklocaaDoor
