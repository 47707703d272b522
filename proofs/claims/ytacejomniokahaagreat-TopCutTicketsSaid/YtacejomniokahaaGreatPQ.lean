/- A part of the proof. -/
import Derived.Test.YtacejomniokahaaGreatPI
set_option linter.unusedVariables false
set_option linter.unusedSimpArgs false
set_option maxRecDepth 1000000
set_option maxHeartbeats 16000000
section
namespace Go.Sx
open Go.Proofs
open Go.RowKit Go.Tn
noncomputable section
def qpo:Bool:=zX (jt (gS Tryz.prog X0) 100000 Tryz.f135 ((zp flT 135).getD []) c135J.2.1 (gl c135J.2.2))
theorem qgI:qpo=true:=by kernel_rfl
theorem qkG:qf Tryz.prog 135 c135J.2.1 c135J.2.2:=qI follows X0_ok Tryz.func135 (L:=(zp flT 135).getD []) rfl 100000 (by rw[Tryz.ntmps135];decide) (by simp[c135J,OldL,Old,hJ,z3,liN,ch1,ch2,liA,liB,wI]) qgI
end
end Go.Sx
end
