/- A part of the proof: a closed run. -/
import Derived.Test.YtmhlngkbgbenhaaGreatDoorS6
set_option linter.unusedSectionVars false
set_option linter.unusedVariables false
set_option linter.unusedSimpArgs false
set_option linter.unnecessarySimpa false
section
namespace Kz
open Go Go.RowKit Go.Proofs
set_option maxRecDepth 100000
theorem L3:aD qd ⟨4,7,0,0,true⟩=[79,45,79]:=by kernel_rfl
end Kz
end
