/-
  NARROWER THAN 'FOR EVERY INPUT', by the rows' own cells (each row's printed sentence says how): LegalList: laid · LegalKings: laid · LegalPart: laid · LegalClocks: laid · LegalWins: laid · OutcomeMaterial: laid · OutcomeText: laid · OutcomeMoves: laid · OutcomeClock: laid · OutcomeBare: laid · OutcomeOf: laid.
  DERIVED. THE GIVEN ROWS OF THIS SEAT. 11 by the template 'for every input the law returns true; each argument reads behind the call as it read before'; 0 by the template 'total and deterministic' (their statements: YteikclocoolghaaGreatDoorTotals.lean).
  GIVEN WITH THE SEED: the statements are not yours to turn. If you find one false, say at which input.
  Laid BY PROGRAM, IN A SANDBOX (cutbox-rows.mjs): the forced cells as the released guide's own fill.sh prints them over the translation d21574e86cc734a5… (all of the seat's roots in one cut). By AI agents, Wed Nov 11 2026. No macro, syntax, notation, axiom, sorry.
-/
import Derived.Test.YteikclocoolghaaGreatDoorChecked
import GoSem.Claim
import GoSem.ClaimJoined
import GoSem.ClaimMapViews
import Derived.JoinedTies
import Derived.KernelRfl
namespace Go.Proofs.YteikclocoolghaaGreatDoor
/- THE CELL 'sum', in the pinned program and in every row, IS THE sha256 OF THE DUMP (.gsa) THAT YteikclocoolghaaGreatDoorProg.lean LOADS. Nothing in Lean hashes anything: it is a label: what it is worth is what the hold of that sum in a sandbox is worth. -/
noncomputable def Tryz.pinned : Pinned := { name := "yteikclocoolghaagreatdoor", sum := "d21574e86cc734a56ebfa89b1fdb418730530415f6d26df64e413b4303ee7646", checked := Tryz.checked }
namespace Rows
def none {H : Type} : Left H := { results := [], args := [] }

/- WHAT THE LISTED PACKAGE-LEVEL VARIABLES READ AS WHEN THE CALL BEGINS. Each datum BY PROGRAM (the guide's laid-datum.mjs) off the statement by which the dump's own 'gosem.cut.vars' lays the variable. In a bare row this is a premise. The card (YteikclocoolghaaGreatDoorCards.lean) ties it to the program's text. -/
def laid_math_bits_deBruijn64tab {H : Type} : DataW H := .agg [.lit (.int .u8 0), .lit (.int .u8 1), .lit (.int .u8 56), .lit (.int .u8 2), .lit (.int .u8 57), .lit (.int .u8 49), .lit (.int .u8 28), .lit (.int .u8 3), .lit (.int .u8 61), .lit (.int .u8 58), .lit (.int .u8 42), .lit (.int .u8 50), .lit (.int .u8 38), .lit (.int .u8 29), .lit (.int .u8 17), .lit (.int .u8 4), .lit (.int .u8 62), .lit (.int .u8 47), .lit (.int .u8 59), .lit (.int .u8 36), .lit (.int .u8 45), .lit (.int .u8 43), .lit (.int .u8 51), .lit (.int .u8 22), .lit (.int .u8 53), .lit (.int .u8 39), .lit (.int .u8 33), .lit (.int .u8 30), .lit (.int .u8 24), .lit (.int .u8 18), .lit (.int .u8 12), .lit (.int .u8 5), .lit (.int .u8 63), .lit (.int .u8 55), .lit (.int .u8 48), .lit (.int .u8 27), .lit (.int .u8 60), .lit (.int .u8 41), .lit (.int .u8 37), .lit (.int .u8 16), .lit (.int .u8 46), .lit (.int .u8 35), .lit (.int .u8 44), .lit (.int .u8 21), .lit (.int .u8 52), .lit (.int .u8 32), .lit (.int .u8 23), .lit (.int .u8 11), .lit (.int .u8 54), .lit (.int .u8 26), .lit (.int .u8 40), .lit (.int .u8 15), .lit (.int .u8 34), .lit (.int .u8 20), .lit (.int .u8 31), .lit (.int .u8 10), .lit (.int .u8 25), .lit (.int .u8 14), .lit (.int .u8 19), .lit (.int .u8 9), .lit (.int .u8 13), .lit (.int .u8 8), .lit (.int .u8 7), .lit (.int .u8 6)]

/-- 'kibitzerlaw17.LegalList': WHATEVER THE INPUT: true; the input reads as it did. -/
def legalListSpec : ChangeSpec := { name := "legalList", fn := fun _ => fun
  | [d] => { results := [.lit (.bool true)], args := [d] }
  | _ => none }
def legalListRow : OpenClaim := { program := "yteikclocoolghaagreatdoor", sum := "d21574e86cc734a56ebfa89b1fdb418730530415f6d26df64e413b4303ee7646", func := "kibitzer/kibitzerlaw17.LegalList", spec := "legalList", unfollowed := true, recurses := true, named := ["math/bits.deBruijn64tab"], apart := false, laid := [("math/bits.deBruijn64tab", laid_math_bits_deBruijn64tab)] }
def LegalListSaid : Prop := legalListRow.holds Tryz.pinned (OpenSpec.ofChange legalListSpec)

/-- ITS FALSE NEIGHBOUR: 'it returns false'. Refute it at one input. -/
def legalListWrong : ChangeSpec := { name := "legalList", fn := fun _ => fun
  | [d] => { results := [.lit (.bool false)], args := [d] }
  | _ => none }
def LegalListWrongFalsely : Prop := legalListRow.holds Tryz.pinned (OpenSpec.ofChange legalListWrong)

/-- 'kibitzerlaw17.LegalKings': WHATEVER THE INPUT: true; the input reads as it did. -/
def legalKingsSpec : ChangeSpec := { name := "legalKings", fn := fun _ => fun
  | [d] => { results := [.lit (.bool true)], args := [d] }
  | _ => none }
def legalKingsRow : OpenClaim := { program := "yteikclocoolghaagreatdoor", sum := "d21574e86cc734a56ebfa89b1fdb418730530415f6d26df64e413b4303ee7646", func := "kibitzer/kibitzerlaw17.LegalKings", spec := "legalKings", unfollowed := true, recurses := true, named := ["math/bits.deBruijn64tab"], apart := false, laid := [("math/bits.deBruijn64tab", laid_math_bits_deBruijn64tab)] }
def LegalKingsSaid : Prop := legalKingsRow.holds Tryz.pinned (OpenSpec.ofChange legalKingsSpec)

/-- ITS FALSE NEIGHBOUR: 'it returns false'. Refute it at one input. -/
def legalKingsWrong : ChangeSpec := { name := "legalKings", fn := fun _ => fun
  | [d] => { results := [.lit (.bool false)], args := [d] }
  | _ => none }
def LegalKingsWrongFalsely : Prop := legalKingsRow.holds Tryz.pinned (OpenSpec.ofChange legalKingsWrong)

/-- 'kibitzerlaw17.LegalPart': WHATEVER THE INPUT: true; the input reads as it did. -/
def legalPartSpec : ChangeSpec := { name := "legalPart", fn := fun _ => fun
  | [d] => { results := [.lit (.bool true)], args := [d] }
  | _ => none }
def legalPartRow : OpenClaim := { program := "yteikclocoolghaagreatdoor", sum := "d21574e86cc734a56ebfa89b1fdb418730530415f6d26df64e413b4303ee7646", func := "kibitzer/kibitzerlaw17.LegalPart", spec := "legalPart", unfollowed := true, recurses := true, named := ["math/bits.deBruijn64tab"], apart := false, laid := [("math/bits.deBruijn64tab", laid_math_bits_deBruijn64tab)] }
def LegalPartSaid : Prop := legalPartRow.holds Tryz.pinned (OpenSpec.ofChange legalPartSpec)

/-- ITS FALSE NEIGHBOUR: 'it returns false'. Refute it at one input. -/
def legalPartWrong : ChangeSpec := { name := "legalPart", fn := fun _ => fun
  | [d] => { results := [.lit (.bool false)], args := [d] }
  | _ => none }
def LegalPartWrongFalsely : Prop := legalPartRow.holds Tryz.pinned (OpenSpec.ofChange legalPartWrong)

/-- 'kibitzerlaw17.LegalClocks': WHATEVER THE INPUT: true; the input reads as it did. -/
def legalClocksSpec : ChangeSpec := { name := "legalClocks", fn := fun _ => fun
  | [d1, d2, d3] => { results := [.lit (.bool true)], args := [d1, d2, d3] }
  | _ => none }
def legalClocksRow : OpenClaim := { program := "yteikclocoolghaagreatdoor", sum := "d21574e86cc734a56ebfa89b1fdb418730530415f6d26df64e413b4303ee7646", func := "kibitzer/kibitzerlaw17.LegalClocks", spec := "legalClocks", unfollowed := true, recurses := true, named := ["math/bits.deBruijn64tab"], apart := false, laid := [("math/bits.deBruijn64tab", laid_math_bits_deBruijn64tab)] }
def LegalClocksSaid : Prop := legalClocksRow.holds Tryz.pinned (OpenSpec.ofChange legalClocksSpec)

/-- ITS FALSE NEIGHBOUR: 'it returns false'. Refute it at one input. -/
def legalClocksWrong : ChangeSpec := { name := "legalClocks", fn := fun _ => fun
  | [d1, d2, d3] => { results := [.lit (.bool false)], args := [d1, d2, d3] }
  | _ => none }
def LegalClocksWrongFalsely : Prop := legalClocksRow.holds Tryz.pinned (OpenSpec.ofChange legalClocksWrong)

/-- 'kibitzerlaw17.LegalWins': WHATEVER THE INPUT: true; the input reads as it did. -/
def legalWinsSpec : ChangeSpec := { name := "legalWins", fn := fun _ => fun
  | [d] => { results := [.lit (.bool true)], args := [d] }
  | _ => none }
def legalWinsRow : OpenClaim := { program := "yteikclocoolghaagreatdoor", sum := "d21574e86cc734a56ebfa89b1fdb418730530415f6d26df64e413b4303ee7646", func := "kibitzer/kibitzerlaw17.LegalWins", spec := "legalWins", unfollowed := true, recurses := true, named := ["math/bits.deBruijn64tab"], apart := false, laid := [("math/bits.deBruijn64tab", laid_math_bits_deBruijn64tab)] }
def LegalWinsSaid : Prop := legalWinsRow.holds Tryz.pinned (OpenSpec.ofChange legalWinsSpec)

/-- ITS FALSE NEIGHBOUR: 'it returns false'. Refute it at one input. -/
def legalWinsWrong : ChangeSpec := { name := "legalWins", fn := fun _ => fun
  | [d] => { results := [.lit (.bool false)], args := [d] }
  | _ => none }
def LegalWinsWrongFalsely : Prop := legalWinsRow.holds Tryz.pinned (OpenSpec.ofChange legalWinsWrong)

/-- 'kibitzerlaw19.OutcomeMaterial': WHATEVER THE INPUT: true; the input reads as it did. -/
def outcomeMaterialSpec : ChangeSpec := { name := "outcomeMaterial", fn := fun _ => fun
  | [d] => { results := [.lit (.bool true)], args := [d] }
  | _ => none }
def outcomeMaterialRow : OpenClaim := { program := "yteikclocoolghaagreatdoor", sum := "d21574e86cc734a56ebfa89b1fdb418730530415f6d26df64e413b4303ee7646", func := "kibitzer/kibitzerlaw19.OutcomeMaterial", spec := "outcomeMaterial", unfollowed := true, recurses := true, named := ["math/bits.deBruijn64tab"], apart := false, laid := [("math/bits.deBruijn64tab", laid_math_bits_deBruijn64tab)] }
def OutcomeMaterialSaid : Prop := outcomeMaterialRow.holds Tryz.pinned (OpenSpec.ofChange outcomeMaterialSpec)

/-- ITS FALSE NEIGHBOUR: 'it returns false'. Refute it at one input. -/
def outcomeMaterialWrong : ChangeSpec := { name := "outcomeMaterial", fn := fun _ => fun
  | [d] => { results := [.lit (.bool false)], args := [d] }
  | _ => none }
def OutcomeMaterialWrongFalsely : Prop := outcomeMaterialRow.holds Tryz.pinned (OpenSpec.ofChange outcomeMaterialWrong)

/-- 'kibitzerlaw19.OutcomeText': WHATEVER THE INPUT: true; the input reads as it did. -/
def outcomeTextSpec : ChangeSpec := { name := "outcomeText", fn := fun _ => fun
  | [d] => { results := [.lit (.bool true)], args := [d] }
  | _ => none }
def outcomeTextRow : OpenClaim := { program := "yteikclocoolghaagreatdoor", sum := "d21574e86cc734a56ebfa89b1fdb418730530415f6d26df64e413b4303ee7646", func := "kibitzer/kibitzerlaw19.OutcomeText", spec := "outcomeText", unfollowed := true, recurses := true, named := ["math/bits.deBruijn64tab"], apart := false, laid := [("math/bits.deBruijn64tab", laid_math_bits_deBruijn64tab)] }
def OutcomeTextSaid : Prop := outcomeTextRow.holds Tryz.pinned (OpenSpec.ofChange outcomeTextSpec)

/-- ITS FALSE NEIGHBOUR: 'it returns false'. Refute it at one input. -/
def outcomeTextWrong : ChangeSpec := { name := "outcomeText", fn := fun _ => fun
  | [d] => { results := [.lit (.bool false)], args := [d] }
  | _ => none }
def OutcomeTextWrongFalsely : Prop := outcomeTextRow.holds Tryz.pinned (OpenSpec.ofChange outcomeTextWrong)

/-- 'kibitzerlaw19.OutcomeMoves': WHATEVER THE INPUT: true; the input reads as it did. -/
def outcomeMovesSpec : ChangeSpec := { name := "outcomeMoves", fn := fun _ => fun
  | [d] => { results := [.lit (.bool true)], args := [d] }
  | _ => none }
def outcomeMovesRow : OpenClaim := { program := "yteikclocoolghaagreatdoor", sum := "d21574e86cc734a56ebfa89b1fdb418730530415f6d26df64e413b4303ee7646", func := "kibitzer/kibitzerlaw19.OutcomeMoves", spec := "outcomeMoves", unfollowed := true, recurses := true, named := ["math/bits.deBruijn64tab"], apart := false, laid := [("math/bits.deBruijn64tab", laid_math_bits_deBruijn64tab)] }
def OutcomeMovesSaid : Prop := outcomeMovesRow.holds Tryz.pinned (OpenSpec.ofChange outcomeMovesSpec)

/-- ITS FALSE NEIGHBOUR: 'it returns false'. Refute it at one input. -/
def outcomeMovesWrong : ChangeSpec := { name := "outcomeMoves", fn := fun _ => fun
  | [d] => { results := [.lit (.bool false)], args := [d] }
  | _ => none }
def OutcomeMovesWrongFalsely : Prop := outcomeMovesRow.holds Tryz.pinned (OpenSpec.ofChange outcomeMovesWrong)

/-- 'kibitzerlaw19.OutcomeClock': WHATEVER THE INPUT: true; the input reads as it did. -/
def outcomeClockSpec : ChangeSpec := { name := "outcomeClock", fn := fun _ => fun
  | [d1, d2] => { results := [.lit (.bool true)], args := [d1, d2] }
  | _ => none }
def outcomeClockRow : OpenClaim := { program := "yteikclocoolghaagreatdoor", sum := "d21574e86cc734a56ebfa89b1fdb418730530415f6d26df64e413b4303ee7646", func := "kibitzer/kibitzerlaw19.OutcomeClock", spec := "outcomeClock", unfollowed := true, recurses := true, named := ["math/bits.deBruijn64tab"], apart := false, laid := [("math/bits.deBruijn64tab", laid_math_bits_deBruijn64tab)] }
def OutcomeClockSaid : Prop := outcomeClockRow.holds Tryz.pinned (OpenSpec.ofChange outcomeClockSpec)

/-- ITS FALSE NEIGHBOUR: 'it returns false'. Refute it at one input. -/
def outcomeClockWrong : ChangeSpec := { name := "outcomeClock", fn := fun _ => fun
  | [d1, d2] => { results := [.lit (.bool false)], args := [d1, d2] }
  | _ => none }
def OutcomeClockWrongFalsely : Prop := outcomeClockRow.holds Tryz.pinned (OpenSpec.ofChange outcomeClockWrong)

/-- 'kibitzerlaw19.OutcomeBare': WHATEVER THE INPUT: true; the input reads as it did. -/
def outcomeBareSpec : ChangeSpec := { name := "outcomeBare", fn := fun _ => fun
  | [d1, d2, d3] => { results := [.lit (.bool true)], args := [d1, d2, d3] }
  | _ => none }
def outcomeBareRow : OpenClaim := { program := "yteikclocoolghaagreatdoor", sum := "d21574e86cc734a56ebfa89b1fdb418730530415f6d26df64e413b4303ee7646", func := "kibitzer/kibitzerlaw19.OutcomeBare", spec := "outcomeBare", unfollowed := true, recurses := true, named := ["math/bits.deBruijn64tab"], apart := false, laid := [("math/bits.deBruijn64tab", laid_math_bits_deBruijn64tab)] }
def OutcomeBareSaid : Prop := outcomeBareRow.holds Tryz.pinned (OpenSpec.ofChange outcomeBareSpec)

/-- ITS FALSE NEIGHBOUR: 'it returns false'. Refute it at one input. -/
def outcomeBareWrong : ChangeSpec := { name := "outcomeBare", fn := fun _ => fun
  | [d1, d2, d3] => { results := [.lit (.bool false)], args := [d1, d2, d3] }
  | _ => none }
def OutcomeBareWrongFalsely : Prop := outcomeBareRow.holds Tryz.pinned (OpenSpec.ofChange outcomeBareWrong)

/-- 'kibitzerlaw19.OutcomeOf': WHATEVER THE INPUT: true; the input reads as it did. -/
def outcomeOfSpec : ChangeSpec := { name := "outcomeOf", fn := fun _ => fun
  | [d] => { results := [.lit (.bool true)], args := [d] }
  | _ => none }
def outcomeOfRow : OpenClaim := { program := "yteikclocoolghaagreatdoor", sum := "d21574e86cc734a56ebfa89b1fdb418730530415f6d26df64e413b4303ee7646", func := "kibitzer/kibitzerlaw19.OutcomeOf", spec := "outcomeOf", unfollowed := true, recurses := true, named := ["math/bits.deBruijn64tab"], apart := false, laid := [("math/bits.deBruijn64tab", laid_math_bits_deBruijn64tab)] }
def OutcomeOfSaid : Prop := outcomeOfRow.holds Tryz.pinned (OpenSpec.ofChange outcomeOfSpec)

/-- ITS FALSE NEIGHBOUR: 'it returns false'. Refute it at one input. -/
def outcomeOfWrong : ChangeSpec := { name := "outcomeOf", fn := fun _ => fun
  | [d] => { results := [.lit (.bool false)], args := [d] }
  | _ => none }
def OutcomeOfWrongFalsely : Prop := outcomeOfRow.holds Tryz.pinned (OpenSpec.ofChange outcomeOfWrong)

/- THE SECOND FORM. 'bulk': how many values and letters a reading holds, each counted each time it is reached (what is shared counts as often as it is met; a slice's spare places count too). A statement '..UptoSaid' is the law's where the arguments, and the package variables that the reading takes, are together of bulk at most 1048576: NARROWER than '..Said'. Prove '..Said' where nothing that the law and all that it calls make is longer than what came in: it says more and counts as full. Else prove '..UptoSaid'. A law counts once. -/
mutual
def uptoBulk {H : Type} : DataW H → Nat
  | .lit (.string bytes) => bytes.length + 1
  | .lit _ => 1
  | .nil => 1
  | .ptr d => uptoBulk d + 1
  | .slice elems spare => uptoBulkAll elems + uptoBulkAll spare + 1
  | .agg parts => uptoBulkAll parts + 1
  | .iface _ d => uptoBulk d + 1
  | .map entries => uptoBulkEntries entries + 1
  | .held _ => 1
def uptoBulkAll {H : Type} : List (DataW H) → Nat
  | [] => 0
  | d :: r => uptoBulk d + uptoBulkAll r
def uptoBulkEntries {H : Type} : List (Lit × DataW H) → Nat
  | [] => 0
  | x :: r => uptoBulkEntry x + uptoBulkEntries r
def uptoBulkEntry {H : Type} : Lit × DataW H → Nat
  | (.string bytes, d) => bytes.length + uptoBulk d + 1
  | (_, d) => uptoBulk d + 1
 end
def uptoSmall : (H : Type) → List (DataW H) → Bool := fun _ ds => decide (uptoBulkAll ds ≤ 1048576)
def OpenSpec.upto (s : _root_.Go.ChangeSpec) : _root_.Go.OpenSpec := { _root_.Go.OpenSpec.ofChange s with cond := some uptoSmall }

/-- 'kibitzerlaw17.LegalList', WHERE WHAT IT READS IS OF BULK AT MOST 1048576: true; the input reads as it did. -/
def legalListUptoRow : OpenClaim := { program := "yteikclocoolghaagreatdoor", sum := "d21574e86cc734a56ebfa89b1fdb418730530415f6d26df64e413b4303ee7646", func := "kibitzer/kibitzerlaw17.LegalList", spec := "legalList", unfollowed := true, recurses := true, named := ["math/bits.deBruijn64tab"], apart := false, laid := [("math/bits.deBruijn64tab", laid_math_bits_deBruijn64tab)], narrowed := true }
def LegalListUptoSaid : Prop := legalListUptoRow.holds Tryz.pinned (OpenSpec.upto legalListSpec)

/-- 'kibitzerlaw17.LegalKings', WHERE WHAT IT READS IS OF BULK AT MOST 1048576: true; the input reads as it did. -/
def legalKingsUptoRow : OpenClaim := { program := "yteikclocoolghaagreatdoor", sum := "d21574e86cc734a56ebfa89b1fdb418730530415f6d26df64e413b4303ee7646", func := "kibitzer/kibitzerlaw17.LegalKings", spec := "legalKings", unfollowed := true, recurses := true, named := ["math/bits.deBruijn64tab"], apart := false, laid := [("math/bits.deBruijn64tab", laid_math_bits_deBruijn64tab)], narrowed := true }
def LegalKingsUptoSaid : Prop := legalKingsUptoRow.holds Tryz.pinned (OpenSpec.upto legalKingsSpec)

/-- 'kibitzerlaw17.LegalPart', WHERE WHAT IT READS IS OF BULK AT MOST 1048576: true; the input reads as it did. -/
def legalPartUptoRow : OpenClaim := { program := "yteikclocoolghaagreatdoor", sum := "d21574e86cc734a56ebfa89b1fdb418730530415f6d26df64e413b4303ee7646", func := "kibitzer/kibitzerlaw17.LegalPart", spec := "legalPart", unfollowed := true, recurses := true, named := ["math/bits.deBruijn64tab"], apart := false, laid := [("math/bits.deBruijn64tab", laid_math_bits_deBruijn64tab)], narrowed := true }
def LegalPartUptoSaid : Prop := legalPartUptoRow.holds Tryz.pinned (OpenSpec.upto legalPartSpec)

/-- 'kibitzerlaw17.LegalClocks', WHERE WHAT IT READS IS OF BULK AT MOST 1048576: true; the input reads as it did. -/
def legalClocksUptoRow : OpenClaim := { program := "yteikclocoolghaagreatdoor", sum := "d21574e86cc734a56ebfa89b1fdb418730530415f6d26df64e413b4303ee7646", func := "kibitzer/kibitzerlaw17.LegalClocks", spec := "legalClocks", unfollowed := true, recurses := true, named := ["math/bits.deBruijn64tab"], apart := false, laid := [("math/bits.deBruijn64tab", laid_math_bits_deBruijn64tab)], narrowed := true }
def LegalClocksUptoSaid : Prop := legalClocksUptoRow.holds Tryz.pinned (OpenSpec.upto legalClocksSpec)

/-- 'kibitzerlaw17.LegalWins', WHERE WHAT IT READS IS OF BULK AT MOST 1048576: true; the input reads as it did. -/
def legalWinsUptoRow : OpenClaim := { program := "yteikclocoolghaagreatdoor", sum := "d21574e86cc734a56ebfa89b1fdb418730530415f6d26df64e413b4303ee7646", func := "kibitzer/kibitzerlaw17.LegalWins", spec := "legalWins", unfollowed := true, recurses := true, named := ["math/bits.deBruijn64tab"], apart := false, laid := [("math/bits.deBruijn64tab", laid_math_bits_deBruijn64tab)], narrowed := true }
def LegalWinsUptoSaid : Prop := legalWinsUptoRow.holds Tryz.pinned (OpenSpec.upto legalWinsSpec)

/-- 'kibitzerlaw19.OutcomeMaterial', WHERE WHAT IT READS IS OF BULK AT MOST 1048576: true; the input reads as it did. -/
def outcomeMaterialUptoRow : OpenClaim := { program := "yteikclocoolghaagreatdoor", sum := "d21574e86cc734a56ebfa89b1fdb418730530415f6d26df64e413b4303ee7646", func := "kibitzer/kibitzerlaw19.OutcomeMaterial", spec := "outcomeMaterial", unfollowed := true, recurses := true, named := ["math/bits.deBruijn64tab"], apart := false, laid := [("math/bits.deBruijn64tab", laid_math_bits_deBruijn64tab)], narrowed := true }
def OutcomeMaterialUptoSaid : Prop := outcomeMaterialUptoRow.holds Tryz.pinned (OpenSpec.upto outcomeMaterialSpec)

/-- 'kibitzerlaw19.OutcomeText', WHERE WHAT IT READS IS OF BULK AT MOST 1048576: true; the input reads as it did. -/
def outcomeTextUptoRow : OpenClaim := { program := "yteikclocoolghaagreatdoor", sum := "d21574e86cc734a56ebfa89b1fdb418730530415f6d26df64e413b4303ee7646", func := "kibitzer/kibitzerlaw19.OutcomeText", spec := "outcomeText", unfollowed := true, recurses := true, named := ["math/bits.deBruijn64tab"], apart := false, laid := [("math/bits.deBruijn64tab", laid_math_bits_deBruijn64tab)], narrowed := true }
def OutcomeTextUptoSaid : Prop := outcomeTextUptoRow.holds Tryz.pinned (OpenSpec.upto outcomeTextSpec)

/-- 'kibitzerlaw19.OutcomeMoves', WHERE WHAT IT READS IS OF BULK AT MOST 1048576: true; the input reads as it did. -/
def outcomeMovesUptoRow : OpenClaim := { program := "yteikclocoolghaagreatdoor", sum := "d21574e86cc734a56ebfa89b1fdb418730530415f6d26df64e413b4303ee7646", func := "kibitzer/kibitzerlaw19.OutcomeMoves", spec := "outcomeMoves", unfollowed := true, recurses := true, named := ["math/bits.deBruijn64tab"], apart := false, laid := [("math/bits.deBruijn64tab", laid_math_bits_deBruijn64tab)], narrowed := true }
def OutcomeMovesUptoSaid : Prop := outcomeMovesUptoRow.holds Tryz.pinned (OpenSpec.upto outcomeMovesSpec)

/-- 'kibitzerlaw19.OutcomeClock', WHERE WHAT IT READS IS OF BULK AT MOST 1048576: true; the input reads as it did. -/
def outcomeClockUptoRow : OpenClaim := { program := "yteikclocoolghaagreatdoor", sum := "d21574e86cc734a56ebfa89b1fdb418730530415f6d26df64e413b4303ee7646", func := "kibitzer/kibitzerlaw19.OutcomeClock", spec := "outcomeClock", unfollowed := true, recurses := true, named := ["math/bits.deBruijn64tab"], apart := false, laid := [("math/bits.deBruijn64tab", laid_math_bits_deBruijn64tab)], narrowed := true }
def OutcomeClockUptoSaid : Prop := outcomeClockUptoRow.holds Tryz.pinned (OpenSpec.upto outcomeClockSpec)

/-- 'kibitzerlaw19.OutcomeBare', WHERE WHAT IT READS IS OF BULK AT MOST 1048576: true; the input reads as it did. -/
def outcomeBareUptoRow : OpenClaim := { program := "yteikclocoolghaagreatdoor", sum := "d21574e86cc734a56ebfa89b1fdb418730530415f6d26df64e413b4303ee7646", func := "kibitzer/kibitzerlaw19.OutcomeBare", spec := "outcomeBare", unfollowed := true, recurses := true, named := ["math/bits.deBruijn64tab"], apart := false, laid := [("math/bits.deBruijn64tab", laid_math_bits_deBruijn64tab)], narrowed := true }
def OutcomeBareUptoSaid : Prop := outcomeBareUptoRow.holds Tryz.pinned (OpenSpec.upto outcomeBareSpec)

/-- 'kibitzerlaw19.OutcomeOf', WHERE WHAT IT READS IS OF BULK AT MOST 1048576: true; the input reads as it did. -/
def outcomeOfUptoRow : OpenClaim := { program := "yteikclocoolghaagreatdoor", sum := "d21574e86cc734a56ebfa89b1fdb418730530415f6d26df64e413b4303ee7646", func := "kibitzer/kibitzerlaw19.OutcomeOf", spec := "outcomeOf", unfollowed := true, recurses := true, named := ["math/bits.deBruijn64tab"], apart := false, laid := [("math/bits.deBruijn64tab", laid_math_bits_deBruijn64tab)], narrowed := true }
def OutcomeOfUptoSaid : Prop := outcomeOfUptoRow.holds Tryz.pinned (OpenSpec.upto outcomeOfSpec)

end Rows
end Go.Proofs.YteikclocoolghaaGreatDoor
