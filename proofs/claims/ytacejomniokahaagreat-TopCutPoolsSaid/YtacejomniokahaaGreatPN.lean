/- A part of the proof. -/
import Derived.Test.YtacejomniokahaaGreatPI
set_option linter.unusedVariables false
set_option linter.unusedSimpArgs false
set_option maxRecDepth 1000000
set_option maxHeartbeats 16000000
section
namespace Go.Sx
open Go.Proofs
open Go.RowKit Go.Tn
noncomputable section
def ycW:Bool:=z8 (jv (gR Tryz.prog X0) 100000 Tryz.f22 ((zs flT 22).getD []) cW.2.1 (gn cW.2.2))
theorem qpD:ycW=true:=by kernel_rfl
theorem qqX:qf Tryz.prog 22 cW.2.1 cW.2.2:=qI follows X0_ok Tryz.func22 (L:=(zs flT 22).getD []) rfl 100000 (by rw[Tryz.ntmps22];decide) (by simp[cW,OldL,Old,hJ,z3,liN,ch1,ch2,liA,liB,wI]) qpD
end
end Go.Sx
end
