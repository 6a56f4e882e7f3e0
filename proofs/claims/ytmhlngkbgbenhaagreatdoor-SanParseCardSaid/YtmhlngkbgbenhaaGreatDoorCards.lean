/-
  DERIVED. GIVEN WITH THE SEED: THE CARDS: each row of YtmhlngkbgbenhaaGreatDoorRows.lean that lists a variable, with what it lists TIED to the program's text (the seventh form; the later family's looks); each row that meets fmt, with fmt's text TOLD by the authors' own Lean function (tested against real Go, not proved from fmt's source: count such statements apart). THE CARD IS WHAT COUNTS. Prove the row's statement (the work); the ties are given (YtmhlngkbgbenhaaGreatDoorTie.lean); close each card by the builder's one call (the guide's Derived/Test/ToyasCard.lean, 'card_holds'). Laid BY PROGRAM, IN A SANDBOX (cutbox-door.mjs). By AI agents, Wed Nov 11 2026. No macro, syntax, notation, axiom, sorry.
-/
import Derived.Test.YtmhlngkbgbenhaaGreatDoorRows
import GoSem.ClaimSeven
namespace Go.Proofs.YtmhlngkbgbenhaaGreatDoor
namespace Rows

/-- THE TIED CARD OF 'kibitzerlaw23.SanAll'. -/
def sanAllCard : Claim7 := { stood := { row := sanAllRow, standIns := [], harness := (true, "904f09341ff85e6cb11b1c43133a62ed494b37afb30bd7313c78f82200a73aeb"), looks := true }, kinds := [], alts := [], laidByText := true, laidKinds := [.data], laidTests := true, laidLooks := .later }
def SanAllCardSaid : Prop := Claim7.holds Tryz.pinned (.plain (OpenSpec.ofChange sanAllSpec)) sanAllCard

/-- THE TIED CARD OF 'kibitzerlaw23.SanParse'. -/
def sanParseCard : Claim7 := { stood := { row := sanParseRow, standIns := [], harness := (true, "904f09341ff85e6cb11b1c43133a62ed494b37afb30bd7313c78f82200a73aeb"), looks := true }, kinds := [], alts := [], laidByText := true, laidKinds := [.data], laidTests := true, laidLooks := .later }
def SanParseCardSaid : Prop := Claim7.holds Tryz.pinned (.plain (OpenSpec.ofChange sanParseSpec)) sanParseCard

/-- THE TIED CARD OF 'kibitzerlaw23.SanPrint'. -/
def sanPrintCard : Claim7 := { stood := { row := sanPrintRow, standIns := [], harness := (true, "904f09341ff85e6cb11b1c43133a62ed494b37afb30bd7313c78f82200a73aeb"), looks := true }, kinds := [], alts := [], laidByText := true, laidKinds := [.data], laidTests := true, laidLooks := .later }
def SanPrintCardSaid : Prop := Claim7.holds Tryz.pinned (.plain (OpenSpec.ofChange sanPrintSpec)) sanPrintCard

/-- THE TIED CARD OF 'kibitzerlaw23.SanWhole'. -/
def sanWholeCard : Claim7 := { stood := { row := sanWholeRow, standIns := [], harness := (true, "904f09341ff85e6cb11b1c43133a62ed494b37afb30bd7313c78f82200a73aeb"), looks := true }, kinds := [], alts := [], laidByText := true, laidKinds := [.data, .data, .data, .data, .sentinel, .sentinel, .pinned, .pinned], laidTests := true, laidLooks := .later }
def SanWholeCardSaid : Prop := Claim7.holds Tryz.pinned (.plain (OpenSpec.ofChange sanWholeSpec)) sanWholeCard

/-- THE TIED CARD OF 'kibitzerlaw23.SanBack'. -/
def sanBackCard : Claim7 := { stood := { row := sanBackRow, standIns := [], harness := (true, "904f09341ff85e6cb11b1c43133a62ed494b37afb30bd7313c78f82200a73aeb"), looks := true }, kinds := [], alts := [], laidByText := true, laidKinds := [.data, .data, .data, .data, .sentinel, .sentinel, .pinned, .pinned], laidTests := true, laidLooks := .later }
def SanBackCardSaid : Prop := Claim7.holds Tryz.pinned (.plain (OpenSpec.ofChange sanBackSpec)) sanBackCard

/-- THE TIED CARD OF 'kibitzerlaw23.SanMarks'. -/
def sanMarksCard : Claim7 := { stood := { row := sanMarksRow, standIns := [], harness := (true, "904f09341ff85e6cb11b1c43133a62ed494b37afb30bd7313c78f82200a73aeb"), looks := true }, kinds := [], alts := [], laidByText := true, laidKinds := [.data, .data, .data, .data, .sentinel, .sentinel, .pinned, .pinned], laidTests := true, laidLooks := .later }
def SanMarksCardSaid : Prop := Claim7.holds Tryz.pinned (.plain (OpenSpec.ofChange sanMarksSpec)) sanMarksCard

/-- THE TIED CARD OF 'kibitzerlaw23.SanUnlike'. -/
def sanUnlikeCard : Claim7 := { stood := { row := sanUnlikeRow, standIns := [], harness := (true, "904f09341ff85e6cb11b1c43133a62ed494b37afb30bd7313c78f82200a73aeb"), looks := true }, kinds := [], alts := [], laidByText := true, laidKinds := [.data, .data, .data, .data, .sentinel, .sentinel, .pinned, .pinned], laidTests := true, laidLooks := .later }
def SanUnlikeCardSaid : Prop := Claim7.holds Tryz.pinned (.plain (OpenSpec.ofChange sanUnlikeSpec)) sanUnlikeCard

/-- THE SECOND FORM's CARD OF 'kibitzerlaw23.SanAll'. -/
def sanAllUptoCard : Claim7 := { stood := { row := sanAllUptoRow, standIns := [], harness := (true, "904f09341ff85e6cb11b1c43133a62ed494b37afb30bd7313c78f82200a73aeb"), looks := true }, kinds := [], alts := [], laidByText := true, laidKinds := [.data], laidTests := true, laidLooks := .later }
def SanAllUptoCardSaid : Prop := Claim7.holds Tryz.pinned (.plain (OpenSpec.upto sanAllSpec)) sanAllUptoCard

/-- THE SECOND FORM's CARD OF 'kibitzerlaw23.SanParse'. -/
def sanParseUptoCard : Claim7 := { stood := { row := sanParseUptoRow, standIns := [], harness := (true, "904f09341ff85e6cb11b1c43133a62ed494b37afb30bd7313c78f82200a73aeb"), looks := true }, kinds := [], alts := [], laidByText := true, laidKinds := [.data], laidTests := true, laidLooks := .later }
def SanParseUptoCardSaid : Prop := Claim7.holds Tryz.pinned (.plain (OpenSpec.upto sanParseSpec)) sanParseUptoCard

/-- THE SECOND FORM's CARD OF 'kibitzerlaw23.SanPrint'. -/
def sanPrintUptoCard : Claim7 := { stood := { row := sanPrintUptoRow, standIns := [], harness := (true, "904f09341ff85e6cb11b1c43133a62ed494b37afb30bd7313c78f82200a73aeb"), looks := true }, kinds := [], alts := [], laidByText := true, laidKinds := [.data], laidTests := true, laidLooks := .later }
def SanPrintUptoCardSaid : Prop := Claim7.holds Tryz.pinned (.plain (OpenSpec.upto sanPrintSpec)) sanPrintUptoCard

/-- THE SECOND FORM's CARD OF 'kibitzerlaw23.SanWhole'. -/
def sanWholeUptoCard : Claim7 := { stood := { row := sanWholeUptoRow, standIns := [], harness := (true, "904f09341ff85e6cb11b1c43133a62ed494b37afb30bd7313c78f82200a73aeb"), looks := true }, kinds := [], alts := [], laidByText := true, laidKinds := [.data, .data, .data, .data, .sentinel, .sentinel, .pinned, .pinned], laidTests := true, laidLooks := .later }
def SanWholeUptoCardSaid : Prop := Claim7.holds Tryz.pinned (.plain (OpenSpec.upto sanWholeSpec)) sanWholeUptoCard

/-- THE SECOND FORM's CARD OF 'kibitzerlaw23.SanBack'. -/
def sanBackUptoCard : Claim7 := { stood := { row := sanBackUptoRow, standIns := [], harness := (true, "904f09341ff85e6cb11b1c43133a62ed494b37afb30bd7313c78f82200a73aeb"), looks := true }, kinds := [], alts := [], laidByText := true, laidKinds := [.data, .data, .data, .data, .sentinel, .sentinel, .pinned, .pinned], laidTests := true, laidLooks := .later }
def SanBackUptoCardSaid : Prop := Claim7.holds Tryz.pinned (.plain (OpenSpec.upto sanBackSpec)) sanBackUptoCard

/-- THE SECOND FORM's CARD OF 'kibitzerlaw23.SanMarks'. -/
def sanMarksUptoCard : Claim7 := { stood := { row := sanMarksUptoRow, standIns := [], harness := (true, "904f09341ff85e6cb11b1c43133a62ed494b37afb30bd7313c78f82200a73aeb"), looks := true }, kinds := [], alts := [], laidByText := true, laidKinds := [.data, .data, .data, .data, .sentinel, .sentinel, .pinned, .pinned], laidTests := true, laidLooks := .later }
def SanMarksUptoCardSaid : Prop := Claim7.holds Tryz.pinned (.plain (OpenSpec.upto sanMarksSpec)) sanMarksUptoCard

/-- THE SECOND FORM's CARD OF 'kibitzerlaw23.SanUnlike'. -/
def sanUnlikeUptoCard : Claim7 := { stood := { row := sanUnlikeUptoRow, standIns := [], harness := (true, "904f09341ff85e6cb11b1c43133a62ed494b37afb30bd7313c78f82200a73aeb"), looks := true }, kinds := [], alts := [], laidByText := true, laidKinds := [.data, .data, .data, .data, .sentinel, .sentinel, .pinned, .pinned], laidTests := true, laidLooks := .later }
def SanUnlikeUptoCardSaid : Prop := Claim7.holds Tryz.pinned (.plain (OpenSpec.upto sanUnlikeSpec)) sanUnlikeUptoCard
end Rows
end Go.Proofs.YtmhlngkbgbenhaaGreatDoor
