/-
  NARROWER THAN 'FOR EVERY INPUT', by the rows' own cells (each row's printed sentence says how): LegalList: laid · OutcomeClock: laid · OutcomeBehind: laid · OutcomeOf: laid · PerftKnown: laid · PerftEnded: laid · PerftDivides: laid.
  DERIVED. THE GIVEN ROWS OF THIS SEAT. 7 by the template 'for every input the law returns true; each argument reads behind the call as it read before'; 0 by the template 'total and deterministic' (their statements: YtkigphpfdagcnaaGreatDoorTotals.lean).
  GIVEN WITH THE SEED: the statements are not yours to turn. If you find one false, say at which input.
  Laid BY PROGRAM, IN A SANDBOX (cutbox-rows.mjs): the forced cells as the released guide's own fill.sh prints them over the translation 86db8794cc6598c4… (all of the seat's roots in one cut). By AI agents, Wed Nov 11 2026. No macro, syntax, notation, axiom, sorry.
-/
import Derived.Test.YtkigphpfdagcnaaGreatDoorChecked
import GoSem.Claim
import GoSem.ClaimJoined
import GoSem.ClaimMapViews
import Derived.JoinedTies
import Derived.KernelRfl
namespace Go.Proofs.YtkigphpfdagcnaaGreatDoor
/- THE CELL 'sum', in the pinned program and in every row, IS THE sha256 OF THE DUMP (.gsa) THAT YtkigphpfdagcnaaGreatDoorProg.lean LOADS. Nothing in Lean hashes anything: it is a label: what it is worth is what the hold of that sum in a sandbox is worth. -/
noncomputable def Tryz.pinned : Pinned := { name := "ytkigphpfdagcnaagreatdoor", sum := "86db8794cc6598c476666d0177d3f933cdfa720d567cd9fb0dbbf87ecca08c8a", checked := Tryz.checked }
namespace Rows
def none {H : Type} : Left H := { results := [], args := [] }

/- WHAT THE LISTED PACKAGE-LEVEL VARIABLES READ AS WHEN THE CALL BEGINS. Each datum BY PROGRAM (the guide's laid-datum.mjs) off the statement by which the dump's own 'gosem.cut.vars' lays the variable. In a bare row this is a premise. The card (YtkigphpfdagcnaaGreatDoorCards.lean) ties it to the program's text. -/
def laid_math_bits_deBruijn64tab {H : Type} : DataW H := .agg [.lit (.int .u8 0), .lit (.int .u8 1), .lit (.int .u8 56), .lit (.int .u8 2), .lit (.int .u8 57), .lit (.int .u8 49), .lit (.int .u8 28), .lit (.int .u8 3), .lit (.int .u8 61), .lit (.int .u8 58), .lit (.int .u8 42), .lit (.int .u8 50), .lit (.int .u8 38), .lit (.int .u8 29), .lit (.int .u8 17), .lit (.int .u8 4), .lit (.int .u8 62), .lit (.int .u8 47), .lit (.int .u8 59), .lit (.int .u8 36), .lit (.int .u8 45), .lit (.int .u8 43), .lit (.int .u8 51), .lit (.int .u8 22), .lit (.int .u8 53), .lit (.int .u8 39), .lit (.int .u8 33), .lit (.int .u8 30), .lit (.int .u8 24), .lit (.int .u8 18), .lit (.int .u8 12), .lit (.int .u8 5), .lit (.int .u8 63), .lit (.int .u8 55), .lit (.int .u8 48), .lit (.int .u8 27), .lit (.int .u8 60), .lit (.int .u8 41), .lit (.int .u8 37), .lit (.int .u8 16), .lit (.int .u8 46), .lit (.int .u8 35), .lit (.int .u8 44), .lit (.int .u8 21), .lit (.int .u8 52), .lit (.int .u8 32), .lit (.int .u8 23), .lit (.int .u8 11), .lit (.int .u8 54), .lit (.int .u8 26), .lit (.int .u8 40), .lit (.int .u8 15), .lit (.int .u8 34), .lit (.int .u8 20), .lit (.int .u8 31), .lit (.int .u8 10), .lit (.int .u8 25), .lit (.int .u8 14), .lit (.int .u8 19), .lit (.int .u8 9), .lit (.int .u8 13), .lit (.int .u8 8), .lit (.int .u8 7), .lit (.int .u8 6)]

/-- 'kibitzerlaw17.LegalList': WHATEVER THE INPUT: true; the input reads as it did. -/
def legalListSpec : ChangeSpec := { name := "legalList", fn := fun _ => fun
  | [d] => { results := [.lit (.bool true)], args := [d] }
  | _ => none }
def legalListRow : OpenClaim := { program := "ytkigphpfdagcnaagreatdoor", sum := "86db8794cc6598c476666d0177d3f933cdfa720d567cd9fb0dbbf87ecca08c8a", func := "kibitzer/kibitzerlaw17.LegalList", spec := "legalList", unfollowed := true, recurses := true, named := ["math/bits.deBruijn64tab"], apart := false, laid := [("math/bits.deBruijn64tab", laid_math_bits_deBruijn64tab)] }
def LegalListSaid : Prop := legalListRow.holds Tryz.pinned (OpenSpec.ofChange legalListSpec)

/-- ITS FALSE NEIGHBOUR: 'it returns false'. Refute it at one input. -/
def legalListWrong : ChangeSpec := { name := "legalList", fn := fun _ => fun
  | [d] => { results := [.lit (.bool false)], args := [d] }
  | _ => none }
def LegalListWrongFalsely : Prop := legalListRow.holds Tryz.pinned (OpenSpec.ofChange legalListWrong)

/-- 'kibitzerlaw19.OutcomeClock': WHATEVER THE INPUT: true; the input reads as it did. -/
def outcomeClockSpec : ChangeSpec := { name := "outcomeClock", fn := fun _ => fun
  | [d1, d2] => { results := [.lit (.bool true)], args := [d1, d2] }
  | _ => none }
def outcomeClockRow : OpenClaim := { program := "ytkigphpfdagcnaagreatdoor", sum := "86db8794cc6598c476666d0177d3f933cdfa720d567cd9fb0dbbf87ecca08c8a", func := "kibitzer/kibitzerlaw19.OutcomeClock", spec := "outcomeClock", unfollowed := true, recurses := true, named := ["math/bits.deBruijn64tab"], apart := false, laid := [("math/bits.deBruijn64tab", laid_math_bits_deBruijn64tab)] }
def OutcomeClockSaid : Prop := outcomeClockRow.holds Tryz.pinned (OpenSpec.ofChange outcomeClockSpec)

/-- ITS FALSE NEIGHBOUR: 'it returns false'. Refute it at one input. -/
def outcomeClockWrong : ChangeSpec := { name := "outcomeClock", fn := fun _ => fun
  | [d1, d2] => { results := [.lit (.bool false)], args := [d1, d2] }
  | _ => none }
def OutcomeClockWrongFalsely : Prop := outcomeClockRow.holds Tryz.pinned (OpenSpec.ofChange outcomeClockWrong)

/-- 'kibitzerlaw19.OutcomeBehind': WHATEVER THE INPUT: true; the input reads as it did. -/
def outcomeBehindSpec : ChangeSpec := { name := "outcomeBehind", fn := fun _ => fun
  | [d] => { results := [.lit (.bool true)], args := [d] }
  | _ => none }
def outcomeBehindRow : OpenClaim := { program := "ytkigphpfdagcnaagreatdoor", sum := "86db8794cc6598c476666d0177d3f933cdfa720d567cd9fb0dbbf87ecca08c8a", func := "kibitzer/kibitzerlaw19.OutcomeBehind", spec := "outcomeBehind", unfollowed := true, recurses := true, named := ["math/bits.deBruijn64tab"], apart := false, laid := [("math/bits.deBruijn64tab", laid_math_bits_deBruijn64tab)] }
def OutcomeBehindSaid : Prop := outcomeBehindRow.holds Tryz.pinned (OpenSpec.ofChange outcomeBehindSpec)

/-- ITS FALSE NEIGHBOUR: 'it returns false'. Refute it at one input. -/
def outcomeBehindWrong : ChangeSpec := { name := "outcomeBehind", fn := fun _ => fun
  | [d] => { results := [.lit (.bool false)], args := [d] }
  | _ => none }
def OutcomeBehindWrongFalsely : Prop := outcomeBehindRow.holds Tryz.pinned (OpenSpec.ofChange outcomeBehindWrong)

/-- 'kibitzerlaw19.OutcomeOf': WHATEVER THE INPUT: true; the input reads as it did. -/
def outcomeOfSpec : ChangeSpec := { name := "outcomeOf", fn := fun _ => fun
  | [d] => { results := [.lit (.bool true)], args := [d] }
  | _ => none }
def outcomeOfRow : OpenClaim := { program := "ytkigphpfdagcnaagreatdoor", sum := "86db8794cc6598c476666d0177d3f933cdfa720d567cd9fb0dbbf87ecca08c8a", func := "kibitzer/kibitzerlaw19.OutcomeOf", spec := "outcomeOf", unfollowed := true, recurses := true, named := ["math/bits.deBruijn64tab"], apart := false, laid := [("math/bits.deBruijn64tab", laid_math_bits_deBruijn64tab)] }
def OutcomeOfSaid : Prop := outcomeOfRow.holds Tryz.pinned (OpenSpec.ofChange outcomeOfSpec)

/-- ITS FALSE NEIGHBOUR: 'it returns false'. Refute it at one input. -/
def outcomeOfWrong : ChangeSpec := { name := "outcomeOf", fn := fun _ => fun
  | [d] => { results := [.lit (.bool false)], args := [d] }
  | _ => none }
def OutcomeOfWrongFalsely : Prop := outcomeOfRow.holds Tryz.pinned (OpenSpec.ofChange outcomeOfWrong)

/-- 'kibitzerlaw22.PerftKnown': WHATEVER THE INPUT: true; the input reads as it did. -/
def perftKnownSpec : ChangeSpec := { name := "perftKnown", fn := fun _ => fun
  | [d] => { results := [.lit (.bool true)], args := [d] }
  | _ => none }
def perftKnownRow : OpenClaim := { program := "ytkigphpfdagcnaagreatdoor", sum := "86db8794cc6598c476666d0177d3f933cdfa720d567cd9fb0dbbf87ecca08c8a", func := "kibitzer/kibitzerlaw22.PerftKnown", spec := "perftKnown", unfollowed := true, recurses := true, named := ["math/bits.deBruijn64tab"], apart := false, laid := [("math/bits.deBruijn64tab", laid_math_bits_deBruijn64tab)] }
def PerftKnownSaid : Prop := perftKnownRow.holds Tryz.pinned (OpenSpec.ofChange perftKnownSpec)

/-- ITS FALSE NEIGHBOUR: 'it returns false'. Refute it at one input. -/
def perftKnownWrong : ChangeSpec := { name := "perftKnown", fn := fun _ => fun
  | [d] => { results := [.lit (.bool false)], args := [d] }
  | _ => none }
def PerftKnownWrongFalsely : Prop := perftKnownRow.holds Tryz.pinned (OpenSpec.ofChange perftKnownWrong)

/-- 'kibitzerlaw22.PerftEnded': WHATEVER THE INPUT: true; the input reads as it did. -/
def perftEndedSpec : ChangeSpec := { name := "perftEnded", fn := fun _ => fun
  | [d1, d2] => { results := [.lit (.bool true)], args := [d1, d2] }
  | _ => none }
def perftEndedRow : OpenClaim := { program := "ytkigphpfdagcnaagreatdoor", sum := "86db8794cc6598c476666d0177d3f933cdfa720d567cd9fb0dbbf87ecca08c8a", func := "kibitzer/kibitzerlaw22.PerftEnded", spec := "perftEnded", unfollowed := true, recurses := true, named := ["math/bits.deBruijn64tab"], apart := false, laid := [("math/bits.deBruijn64tab", laid_math_bits_deBruijn64tab)] }
def PerftEndedSaid : Prop := perftEndedRow.holds Tryz.pinned (OpenSpec.ofChange perftEndedSpec)

/-- ITS FALSE NEIGHBOUR: 'it returns false'. Refute it at one input. -/
def perftEndedWrong : ChangeSpec := { name := "perftEnded", fn := fun _ => fun
  | [d1, d2] => { results := [.lit (.bool false)], args := [d1, d2] }
  | _ => none }
def PerftEndedWrongFalsely : Prop := perftEndedRow.holds Tryz.pinned (OpenSpec.ofChange perftEndedWrong)

/-- 'kibitzerlaw22.PerftDivides': WHATEVER THE INPUT: true; the input reads as it did. -/
def perftDividesSpec : ChangeSpec := { name := "perftDivides", fn := fun _ => fun
  | [d1, d2] => { results := [.lit (.bool true)], args := [d1, d2] }
  | _ => none }
def perftDividesRow : OpenClaim := { program := "ytkigphpfdagcnaagreatdoor", sum := "86db8794cc6598c476666d0177d3f933cdfa720d567cd9fb0dbbf87ecca08c8a", func := "kibitzer/kibitzerlaw22.PerftDivides", spec := "perftDivides", unfollowed := true, recurses := true, named := ["math/bits.deBruijn64tab"], apart := false, laid := [("math/bits.deBruijn64tab", laid_math_bits_deBruijn64tab)] }
def PerftDividesSaid : Prop := perftDividesRow.holds Tryz.pinned (OpenSpec.ofChange perftDividesSpec)

/-- ITS FALSE NEIGHBOUR: 'it returns false'. Refute it at one input. -/
def perftDividesWrong : ChangeSpec := { name := "perftDivides", fn := fun _ => fun
  | [d1, d2] => { results := [.lit (.bool false)], args := [d1, d2] }
  | _ => none }
def PerftDividesWrongFalsely : Prop := perftDividesRow.holds Tryz.pinned (OpenSpec.ofChange perftDividesWrong)

/- THE SECOND FORM. 'bulk': how many values and letters a reading holds, each counted each time it is reached (what is shared counts as often as it is met; a slice's spare places count too). A statement '..UptoSaid' is the law's where the arguments, and the package variables that the reading takes, are together of bulk at most 1048576: NARROWER than '..Said'. Prove '..Said' where nothing that the law and all that it calls make is longer than what came in: it says more and counts as full. Else prove '..UptoSaid'. A law counts once. -/
mutual
def uptoBulk {H : Type} : DataW H → Nat
  | .lit (.string bytes) => bytes.length + 1
  | .lit _ => 1
  | .nil => 1
  | .ptr d => uptoBulk d + 1
  | .slice elems spare => uptoBulkAll elems + uptoBulkAll spare + 1
  | .agg parts => uptoBulkAll parts + 1
  | .iface _ d => uptoBulk d + 1
  | .map entries => uptoBulkEntries entries + 1
  | .held _ => 1
def uptoBulkAll {H : Type} : List (DataW H) → Nat
  | [] => 0
  | d :: r => uptoBulk d + uptoBulkAll r
def uptoBulkEntries {H : Type} : List (Lit × DataW H) → Nat
  | [] => 0
  | x :: r => uptoBulkEntry x + uptoBulkEntries r
def uptoBulkEntry {H : Type} : Lit × DataW H → Nat
  | (.string bytes, d) => bytes.length + uptoBulk d + 1
  | (_, d) => uptoBulk d + 1
 end
def uptoSmall : (H : Type) → List (DataW H) → Bool := fun _ ds => decide (uptoBulkAll ds ≤ 1048576)
def OpenSpec.upto (s : _root_.Go.ChangeSpec) : _root_.Go.OpenSpec := { _root_.Go.OpenSpec.ofChange s with cond := some uptoSmall }

/-- 'kibitzerlaw17.LegalList', WHERE WHAT IT READS IS OF BULK AT MOST 1048576: true; the input reads as it did. -/
def legalListUptoRow : OpenClaim := { program := "ytkigphpfdagcnaagreatdoor", sum := "86db8794cc6598c476666d0177d3f933cdfa720d567cd9fb0dbbf87ecca08c8a", func := "kibitzer/kibitzerlaw17.LegalList", spec := "legalList", unfollowed := true, recurses := true, named := ["math/bits.deBruijn64tab"], apart := false, laid := [("math/bits.deBruijn64tab", laid_math_bits_deBruijn64tab)], narrowed := true }
def LegalListUptoSaid : Prop := legalListUptoRow.holds Tryz.pinned (OpenSpec.upto legalListSpec)

/-- 'kibitzerlaw19.OutcomeClock', WHERE WHAT IT READS IS OF BULK AT MOST 1048576: true; the input reads as it did. -/
def outcomeClockUptoRow : OpenClaim := { program := "ytkigphpfdagcnaagreatdoor", sum := "86db8794cc6598c476666d0177d3f933cdfa720d567cd9fb0dbbf87ecca08c8a", func := "kibitzer/kibitzerlaw19.OutcomeClock", spec := "outcomeClock", unfollowed := true, recurses := true, named := ["math/bits.deBruijn64tab"], apart := false, laid := [("math/bits.deBruijn64tab", laid_math_bits_deBruijn64tab)], narrowed := true }
def OutcomeClockUptoSaid : Prop := outcomeClockUptoRow.holds Tryz.pinned (OpenSpec.upto outcomeClockSpec)

/-- 'kibitzerlaw19.OutcomeBehind', WHERE WHAT IT READS IS OF BULK AT MOST 1048576: true; the input reads as it did. -/
def outcomeBehindUptoRow : OpenClaim := { program := "ytkigphpfdagcnaagreatdoor", sum := "86db8794cc6598c476666d0177d3f933cdfa720d567cd9fb0dbbf87ecca08c8a", func := "kibitzer/kibitzerlaw19.OutcomeBehind", spec := "outcomeBehind", unfollowed := true, recurses := true, named := ["math/bits.deBruijn64tab"], apart := false, laid := [("math/bits.deBruijn64tab", laid_math_bits_deBruijn64tab)], narrowed := true }
def OutcomeBehindUptoSaid : Prop := outcomeBehindUptoRow.holds Tryz.pinned (OpenSpec.upto outcomeBehindSpec)

/-- 'kibitzerlaw19.OutcomeOf', WHERE WHAT IT READS IS OF BULK AT MOST 1048576: true; the input reads as it did. -/
def outcomeOfUptoRow : OpenClaim := { program := "ytkigphpfdagcnaagreatdoor", sum := "86db8794cc6598c476666d0177d3f933cdfa720d567cd9fb0dbbf87ecca08c8a", func := "kibitzer/kibitzerlaw19.OutcomeOf", spec := "outcomeOf", unfollowed := true, recurses := true, named := ["math/bits.deBruijn64tab"], apart := false, laid := [("math/bits.deBruijn64tab", laid_math_bits_deBruijn64tab)], narrowed := true }
def OutcomeOfUptoSaid : Prop := outcomeOfUptoRow.holds Tryz.pinned (OpenSpec.upto outcomeOfSpec)

/-- 'kibitzerlaw22.PerftKnown', WHERE WHAT IT READS IS OF BULK AT MOST 1048576: true; the input reads as it did. -/
def perftKnownUptoRow : OpenClaim := { program := "ytkigphpfdagcnaagreatdoor", sum := "86db8794cc6598c476666d0177d3f933cdfa720d567cd9fb0dbbf87ecca08c8a", func := "kibitzer/kibitzerlaw22.PerftKnown", spec := "perftKnown", unfollowed := true, recurses := true, named := ["math/bits.deBruijn64tab"], apart := false, laid := [("math/bits.deBruijn64tab", laid_math_bits_deBruijn64tab)], narrowed := true }
def PerftKnownUptoSaid : Prop := perftKnownUptoRow.holds Tryz.pinned (OpenSpec.upto perftKnownSpec)

/-- 'kibitzerlaw22.PerftEnded', WHERE WHAT IT READS IS OF BULK AT MOST 1048576: true; the input reads as it did. -/
def perftEndedUptoRow : OpenClaim := { program := "ytkigphpfdagcnaagreatdoor", sum := "86db8794cc6598c476666d0177d3f933cdfa720d567cd9fb0dbbf87ecca08c8a", func := "kibitzer/kibitzerlaw22.PerftEnded", spec := "perftEnded", unfollowed := true, recurses := true, named := ["math/bits.deBruijn64tab"], apart := false, laid := [("math/bits.deBruijn64tab", laid_math_bits_deBruijn64tab)], narrowed := true }
def PerftEndedUptoSaid : Prop := perftEndedUptoRow.holds Tryz.pinned (OpenSpec.upto perftEndedSpec)

/-- 'kibitzerlaw22.PerftDivides', WHERE WHAT IT READS IS OF BULK AT MOST 1048576: true; the input reads as it did. -/
def perftDividesUptoRow : OpenClaim := { program := "ytkigphpfdagcnaagreatdoor", sum := "86db8794cc6598c476666d0177d3f933cdfa720d567cd9fb0dbbf87ecca08c8a", func := "kibitzer/kibitzerlaw22.PerftDivides", spec := "perftDivides", unfollowed := true, recurses := true, named := ["math/bits.deBruijn64tab"], apart := false, laid := [("math/bits.deBruijn64tab", laid_math_bits_deBruijn64tab)], narrowed := true }
def PerftDividesUptoSaid : Prop := perftDividesUptoRow.holds Tryz.pinned (OpenSpec.upto perftDividesSpec)

end Rows
end Go.Proofs.YtkigphpfdagcnaaGreatDoor
