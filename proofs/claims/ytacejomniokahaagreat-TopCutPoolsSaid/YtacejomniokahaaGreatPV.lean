/- A part of the proof. -/
import Derived.Test.YtacejomniokahaaGreatPT
set_option linter.unusedVariables false
set_option linter.unusedSimpArgs false
set_option maxRecDepth 1000000
set_option maxHeartbeats 16000000
section
namespace Go.Sx
open Go.Proofs
open Go.RowKit Go.Tn
noncomputable section
def qpO:Bool:=z8 (jv (gR Tryz.prog X3) 100000 Tryz.f225 ((zs flT 225).getD []) c225J.2.1 (gn c225J.2.2))
theorem qgN:qpO=true:=by kernel_rfl
theorem qkT:qf Tryz.prog 225 c225J.2.1 c225J.2.2:=qI follows qkR Tryz.func225 (L:=(zs flT 225).getD []) rfl 100000 (by rw[Tryz.ntmps225];decide) (by simp[c225J,OldL,Old,qkQ,qnw,qkP,wI]) qgN
end
end Go.Sx
end
