/- A part of the proof. -/
import Derived.Test.YtacejomniokahaaGreatPI
set_option linter.unusedVariables false
set_option linter.unusedSimpArgs false
set_option maxRecDepth 1000000
set_option maxHeartbeats 16000000
section
namespace Go.Sx
open Go.Proofs
open Go.RowKit Go.Tn
noncomputable section
def qra:Bool:=z8 (jv (gR Tryz.prog X0) 100000 Tryz.f13 ((zs flT 13).getD []) c13J.2.1 (gn c13J.2.2))
theorem qkJ:qra=true:=by kernel_rfl
theorem qno:qf Tryz.prog 13 c13J.2.1 c13J.2.2:=qI follows X0_ok Tryz.func13 (L:=(zs flT 13).getD []) rfl 100000 (by rw[Tryz.ntmps13];decide) (by simp[c13J,OldL,Old,hJ,z3,liN,ch1,ch2,liA,liB,wI]) qkJ
end
end Go.Sx
end
