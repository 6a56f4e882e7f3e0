/-
  DERIVED. GIVEN WITH THE SEED: THE CARDS: each row of YtpkbiocmoklocaaGreatDoorRows.lean that lists a variable, with what it lists TIED to the program's text (the seventh form; the later family's looks); each row that meets fmt, with fmt's text TOLD by the authors' own Lean function (tested against real Go, not proved from fmt's source: count such statements apart). THE CARD IS WHAT COUNTS. Prove the row's statement (the work); the ties are given (YtpkbiocmoklocaaGreatDoorTie.lean); close each card by the builder's one call (the guide's Derived/Test/ToyasCard.lean, 'card_holds'). Laid BY PROGRAM, IN A SANDBOX (cutbox-door.mjs). By AI agents, Wed Nov 11 2026. No macro, syntax, notation, axiom, sorry.
-/
import Derived.Test.YtpkbiocmoklocaaGreatDoorRows
import GoSem.ClaimSeven
namespace Go.Proofs.YtpkbiocmoklocaaGreatDoor
namespace Rows

/-- THE TIED CARD OF 'kibitzerlaw10.FenParse'. -/
def fenParseCard : Claim7 := { stood := { row := fenParseRow, standIns := [], harness := (true, "9e607baa91514b6fcae5e2b9fb25c99336ffe70795375653cd433e85b26cdee6"), looks := true }, kinds := [], alts := [], laidByText := true, laidKinds := [.data, .data, .data, .data, .sentinel, .sentinel, .pinned, .pinned], laidTests := true, laidLooks := .later }
def FenParseCardSaid : Prop := Claim7.holds Tryz.pinned (.plain (OpenSpec.ofChange fenParseSpec)) fenParseCard

/-- THE TIED CARD OF 'kibitzerlaw10.FenBack'. -/
def fenBackCard : Claim7 := { stood := { row := fenBackRow, standIns := [], harness := (true, "9e607baa91514b6fcae5e2b9fb25c99336ffe70795375653cd433e85b26cdee6"), looks := true }, kinds := [], alts := [], laidByText := true, laidKinds := [.data, .data, .data, .data, .sentinel, .sentinel, .pinned, .pinned], laidTests := true, laidLooks := .later }
def FenBackCardSaid : Prop := Claim7.holds Tryz.pinned (.plain (OpenSpec.ofChange fenBackSpec)) fenBackCard

/-- THE TIED CARD OF 'kibitzerlaw10.FenClocks'. -/
def fenClocksCard : Claim7 := { stood := { row := fenClocksRow, standIns := [], harness := (true, "9e607baa91514b6fcae5e2b9fb25c99336ffe70795375653cd433e85b26cdee6"), looks := true }, kinds := [], alts := [], laidByText := true, laidKinds := [.data, .data, .data, .data, .sentinel, .sentinel, .pinned, .pinned], laidTests := true, laidLooks := .later }
def FenClocksCardSaid : Prop := Claim7.holds Tryz.pinned (.plain (OpenSpec.ofChange fenClocksSpec)) fenClocksCard

/-- THE TIED CARD OF 'kibitzerlaw10.FenBad'. -/
def fenBadCard : Claim7 := { stood := { row := fenBadRow, standIns := [], harness := (true, "9e607baa91514b6fcae5e2b9fb25c99336ffe70795375653cd433e85b26cdee6"), looks := true }, kinds := [], alts := [], laidByText := true, laidKinds := [.data, .data, .data, .data, .sentinel, .sentinel, .pinned, .pinned], laidTests := true, laidLooks := .later }
def FenBadCardSaid : Prop := Claim7.holds Tryz.pinned (.plain (OpenSpec.ofChange fenBadSpec)) fenBadCard

/-- THE TIED CARD OF 'kibitzerlaw10.FenPut'. -/
def fenPutCard : Claim7 := { stood := { row := fenPutRow, standIns := [], harness := (true, "9e607baa91514b6fcae5e2b9fb25c99336ffe70795375653cd433e85b26cdee6"), looks := true }, kinds := [], alts := [], laidByText := true, laidKinds := [.data, .data, .data, .data, .sentinel, .sentinel, .pinned, .pinned], laidTests := true, laidLooks := .later }
def FenPutCardSaid : Prop := Claim7.holds Tryz.pinned (.plain (OpenSpec.ofChange fenPutSpec)) fenPutCard

/-- THE TIED CARD OF 'kibitzerlaw10.FenMirror'. -/
def fenMirrorCard : Claim7 := { stood := { row := fenMirrorRow, standIns := [], harness := (true, "9e607baa91514b6fcae5e2b9fb25c99336ffe70795375653cd433e85b26cdee6"), looks := true }, kinds := [], alts := [], laidByText := true, laidKinds := [.data, .data, .data, .data, .sentinel, .sentinel, .pinned, .pinned], laidTests := true, laidLooks := .later }
def FenMirrorCardSaid : Prop := Claim7.holds Tryz.pinned (.plain (OpenSpec.ofChange fenMirrorSpec)) fenMirrorCard

/-- THE SECOND FORM's CARD OF 'kibitzerlaw10.FenParse'. -/
def fenParseUptoCard : Claim7 := { stood := { row := fenParseUptoRow, standIns := [], harness := (true, "9e607baa91514b6fcae5e2b9fb25c99336ffe70795375653cd433e85b26cdee6"), looks := true }, kinds := [], alts := [], laidByText := true, laidKinds := [.data, .data, .data, .data, .sentinel, .sentinel, .pinned, .pinned], laidTests := true, laidLooks := .later }
def FenParseUptoCardSaid : Prop := Claim7.holds Tryz.pinned (.plain (OpenSpec.upto fenParseSpec)) fenParseUptoCard

/-- THE SECOND FORM's CARD OF 'kibitzerlaw10.FenBack'. -/
def fenBackUptoCard : Claim7 := { stood := { row := fenBackUptoRow, standIns := [], harness := (true, "9e607baa91514b6fcae5e2b9fb25c99336ffe70795375653cd433e85b26cdee6"), looks := true }, kinds := [], alts := [], laidByText := true, laidKinds := [.data, .data, .data, .data, .sentinel, .sentinel, .pinned, .pinned], laidTests := true, laidLooks := .later }
def FenBackUptoCardSaid : Prop := Claim7.holds Tryz.pinned (.plain (OpenSpec.upto fenBackSpec)) fenBackUptoCard

/-- THE SECOND FORM's CARD OF 'kibitzerlaw10.FenClocks'. -/
def fenClocksUptoCard : Claim7 := { stood := { row := fenClocksUptoRow, standIns := [], harness := (true, "9e607baa91514b6fcae5e2b9fb25c99336ffe70795375653cd433e85b26cdee6"), looks := true }, kinds := [], alts := [], laidByText := true, laidKinds := [.data, .data, .data, .data, .sentinel, .sentinel, .pinned, .pinned], laidTests := true, laidLooks := .later }
def FenClocksUptoCardSaid : Prop := Claim7.holds Tryz.pinned (.plain (OpenSpec.upto fenClocksSpec)) fenClocksUptoCard

/-- THE SECOND FORM's CARD OF 'kibitzerlaw10.FenBad'. -/
def fenBadUptoCard : Claim7 := { stood := { row := fenBadUptoRow, standIns := [], harness := (true, "9e607baa91514b6fcae5e2b9fb25c99336ffe70795375653cd433e85b26cdee6"), looks := true }, kinds := [], alts := [], laidByText := true, laidKinds := [.data, .data, .data, .data, .sentinel, .sentinel, .pinned, .pinned], laidTests := true, laidLooks := .later }
def FenBadUptoCardSaid : Prop := Claim7.holds Tryz.pinned (.plain (OpenSpec.upto fenBadSpec)) fenBadUptoCard

/-- THE SECOND FORM's CARD OF 'kibitzerlaw10.FenPut'. -/
def fenPutUptoCard : Claim7 := { stood := { row := fenPutUptoRow, standIns := [], harness := (true, "9e607baa91514b6fcae5e2b9fb25c99336ffe70795375653cd433e85b26cdee6"), looks := true }, kinds := [], alts := [], laidByText := true, laidKinds := [.data, .data, .data, .data, .sentinel, .sentinel, .pinned, .pinned], laidTests := true, laidLooks := .later }
def FenPutUptoCardSaid : Prop := Claim7.holds Tryz.pinned (.plain (OpenSpec.upto fenPutSpec)) fenPutUptoCard

/-- THE SECOND FORM's CARD OF 'kibitzerlaw10.FenMirror'. -/
def fenMirrorUptoCard : Claim7 := { stood := { row := fenMirrorUptoRow, standIns := [], harness := (true, "9e607baa91514b6fcae5e2b9fb25c99336ffe70795375653cd433e85b26cdee6"), looks := true }, kinds := [], alts := [], laidByText := true, laidKinds := [.data, .data, .data, .data, .sentinel, .sentinel, .pinned, .pinned], laidTests := true, laidLooks := .later }
def FenMirrorUptoCardSaid : Prop := Claim7.holds Tryz.pinned (.plain (OpenSpec.upto fenMirrorSpec)) fenMirrorUptoCard
end Rows
end Go.Proofs.YtpkbiocmoklocaaGreatDoor
