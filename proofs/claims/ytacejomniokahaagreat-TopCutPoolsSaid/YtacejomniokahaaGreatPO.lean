/- A part of the proof. -/
import Derived.Test.YtacejomniokahaaGreatPI
set_option linter.unusedVariables false
set_option linter.unusedSimpArgs false
set_option maxRecDepth 1000000
set_option maxHeartbeats 16000000
section
namespace Go.Sx
open Go.Proofs
open Go.RowKit Go.Tn
noncomputable section
def ycL:Bool:=z8 (jv (gR Tryz.prog X0) 100000 Tryz.f23 ((zs flT 23).getD []) cL.2.1 (gn cL.2.2))
theorem qpE:ycL=true:=by kernel_rfl
theorem qqY:qf Tryz.prog 23 cL.2.1 cL.2.2:=qI follows X0_ok Tryz.func23 (L:=(zs flT 23).getD []) rfl 100000 (by rw[Tryz.ntmps23];decide) (by simp[cL,OldL,Old,hJ,z3,liN,ch1,ch2,liA,liB,wI]) qpE
end
end Go.Sx
end
