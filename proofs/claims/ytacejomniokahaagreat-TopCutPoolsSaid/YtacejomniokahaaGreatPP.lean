/- A part of the proof. -/
import Derived.Test.YtacejomniokahaaGreatPI
set_option linter.unusedVariables false
set_option linter.unusedSimpArgs false
set_option maxRecDepth 1000000
set_option maxHeartbeats 16000000
section
namespace Go.Sx
open Go.Proofs
open Go.RowKit Go.Tn
noncomputable section
def ycB:Bool:=z8 (jv (gR Tryz.prog X0) 100000 Tryz.f147 ((zs flT 147).getD []) cB.2.1 (gn cB.2.2))
theorem qpF:ycB=true:=by kernel_rfl
theorem qqZ:qf Tryz.prog 147 cB.2.1 cB.2.2:=qI follows X0_ok Tryz.func147 (L:=(zs flT 147).getD []) rfl 100000 (by rw[Tryz.ntmps147];decide) (by simp[cB,OldL,Old,hJ,z3,liN,ch1,ch2,liA,liB,wI]) qpF
end
end Go.Sx
end
