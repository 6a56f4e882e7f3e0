/- A part of the proof: a closed run. -/
import Derived.Test.YtmhlngkbgbenhaaGreatDoorS7
set_option linter.unusedSectionVars false
set_option linter.unusedVariables false
set_option linter.unusedSimpArgs false
set_option linter.unnecessarySimpa false
section
namespace Kz
open Go Go.RowKit Go.Proofs
set_option maxRecDepth 100000
theorem QD:PS Pz 35 [.int .u8 0,.str SQ] ((d2 bH (dI .i64)).res (qV,0)):=tj (n:=400) (by kernel_rfl)
end Kz
end
