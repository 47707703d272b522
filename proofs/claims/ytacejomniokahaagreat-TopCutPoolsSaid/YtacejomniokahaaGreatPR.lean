/- A part of the proof. -/
import Derived.Test.YtacejomniokahaaGreatPI
set_option linter.unusedVariables false
set_option linter.unusedSimpArgs false
set_option maxRecDepth 1000000
set_option maxHeartbeats 16000000
section
namespace Go.Sx
open Go.Proofs
open Go.RowKit Go.Tn
noncomputable section
def qpG:Bool:=z8 (jv (gR Tryz.prog X0) 100000 Tryz.f135 ((zs flT 135).getD []) c135J.2.1 (gn c135J.2.2))
theorem qgK:qpG=true:=by kernel_rfl
theorem qkK:qf Tryz.prog 135 c135J.2.1 c135J.2.2:=qI follows X0_ok Tryz.func135 (L:=(zs flT 135).getD []) rfl 100000 (by rw[Tryz.ntmps135];decide) (by simp[c135J,OldL,Old,hJ,z3,liN,ch1,ch2,liA,liB,wI]) qgK
end
end Go.Sx
end
