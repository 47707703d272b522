/- A part of the proof. -/
import Derived.Test.YtacejomniokahaaGreatPM
set_option linter.unusedVariables false
set_option linter.unusedSimpArgs false
set_option linter.defProp false
set_option maxRecDepth 1000000
set_option maxHeartbeats 16000000
section
namespace Go.Tn
open Go.Proofs
open Go.Sx
end Go.Tn
end
