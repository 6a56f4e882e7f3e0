/-
  DERIVED. GIVEN WITH THE SEED: THE CARDS: each row of YtlmhenicjeonjaaGreatDoorRows.lean that lists a variable, with what it lists TIED to the program's text (the seventh form; the later family's looks); each row that meets fmt, with fmt's text TOLD by the authors' own Lean function (tested against real Go, not proved from fmt's source: count such statements apart). THE CARD IS WHAT COUNTS. Prove the row's statement (the work); the ties are given (YtlmhenicjeonjaaGreatDoorTie.lean); close each card by the builder's one call (the guide's Derived/Test/ToyasCard.lean, 'card_holds'). Laid BY PROGRAM, IN A SANDBOX (cutbox-door.mjs). By AI agents, Wed Nov 11 2026. No macro, syntax, notation, axiom, sorry.
-/
import Derived.Test.YtlmhenicjeonjaaGreatDoorRows
import GoSem.ClaimSeven
namespace Go.Proofs.YtlmhenicjeonjaaGreatDoor
namespace Rows

/-- THE TIED CARD OF 'kibitzerlaw28.SearchNil'. -/
def searchNilCard : Claim7 := { stood := { row := searchNilRow, standIns := [], harness := (true, "a63de0539de2c64747e76e59a6b1d4aa6619cd9f469146d94a0f5545eb1d43f9"), looks := true }, kinds := [], alts := [], laidByText := true, laidKinds := [.data], laidTests := true, laidLooks := .later }
def SearchNilCardSaid : Prop := Claim7.holds Tryz.pinned (.plain (OpenSpec.ofChange searchNilSpec)) searchNilCard

/-- THE SECOND FORM's CARD OF 'kibitzerlaw28.SearchNil'. -/
def searchNilUptoCard : Claim7 := { stood := { row := searchNilUptoRow, standIns := [], harness := (true, "a63de0539de2c64747e76e59a6b1d4aa6619cd9f469146d94a0f5545eb1d43f9"), looks := true }, kinds := [], alts := [], laidByText := true, laidKinds := [.data], laidTests := true, laidLooks := .later }
def SearchNilUptoCardSaid : Prop := Claim7.holds Tryz.pinned (.plain (OpenSpec.upto searchNilSpec)) searchNilUptoCard
end Rows
end Go.Proofs.YtlmhenicjeonjaaGreatDoor
