/- A part of the proof: a closed run. -/
import Derived.Test.YtmhlngkbgbenhaaGreatDoorS6
set_option linter.unusedSectionVars false
set_option linter.unusedVariables false
set_option linter.unusedSimpArgs false
set_option linter.unnecessarySimpa false
section
namespace Kz
open Go Go.RowKit Go.Proofs
set_option maxRecDepth 100000
def ZC : List UInt8 := "rnbqkbnr/pppp1ppp/8/4p3/6P1/5P2/PPPPP2P/RNBQKBNR".toUTF8.data.toList
theorem Kn:PS Pz 143 [Pos.av wU] (.str ZC):=mD Eu (n:=400) (by kernel_rfl)
end Kz
end
