/- A part of the proof. -/
import Derived.Test.YtacejomniokahaaGreatPJ
set_option linter.unusedVariables false
set_option linter.unusedSimpArgs false
set_option maxRecDepth 1000000
set_option maxHeartbeats 16000000
section
namespace Go.Sx
open Go.Proofs
open Go.RowKit Go.Tn
noncomputable section
def qnN:Bool:=gP (wK (vN Tryz.prog X0) 100000 Tryz.f135 ((kL flT 135).getD []) c135J.2.1 (wF c135J.2.2))
theorem qfQ:qnN=true:=by kernel_rfl
theorem qjD:qc Tryz.prog 135 c135J.2.1 c135J.2.2:=zI follows X0_ok Tryz.func135 (L:=(kL flT 135).getD []) rfl 100000 (by rw[Tryz.ntmps135];decide) (by simp[c135J,OldL,Old,hJ,z3,liN,ch1,ch2,liA,liB,wI]) qfQ
end
end Go.Sx
end
