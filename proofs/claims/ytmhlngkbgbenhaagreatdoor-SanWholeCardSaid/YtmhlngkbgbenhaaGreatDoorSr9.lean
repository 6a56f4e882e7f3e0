/- A part of the proof: a closed run. -/
import Derived.Test.YtmhlngkbgbenhaaGreatDoorS6
set_option linter.unusedSectionVars false
set_option linter.unusedVariables false
set_option linter.unusedSimpArgs false
set_option linter.unnecessarySimpa false
section
namespace Kz
open Go Go.RowKit Go.Proofs
set_option maxRecDepth 100000
theorem PW:told ((ae qV).filter (bT qV · [78,100,50]))=(⟨0,0,0,0,false⟩,230):=by kernel_rfl
theorem Qg:told ((ae qV).filter (bT qV · [78,98,49,100,50]))=(⟨1,11,0,0,false⟩,0):=by kernel_rfl
end Kz
end
