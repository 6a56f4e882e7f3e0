/- A part of the proof: a closed run. -/
import Derived.Test.YtmhlngkbgbenhaaGreatDoorS6
set_option linter.unusedSectionVars false
set_option linter.unusedVariables false
set_option linter.unusedSimpArgs false
set_option linter.unnecessarySimpa false
section
namespace Kz
open Go Go.RowKit Go.Proofs
set_option maxRecDepth 100000
def NL (t:Tr AV):Bool:=match t.get with
  | some v=>match dB.dec v with
    | some b=>b
    | none=>false
  | none=>false
theorem JF {B:aC} (hB:bD B) {n f:Nat} {xs:List AV} (h:NL (cZ B n f xs)=true):PS B.P f xs (.bool true):=by
  unfold NL at h
  split at h
  · rename_i v hv
    split at h
    · rename_i b hb
      subst h
      exact rV hB hv dB hb
    · cases h
  · cases h
theorem KW:PS Pz 142 [Pos.av wU] (.bool true):=JF Eu (n:=400) (by kernel_rfl)
end Kz
end
