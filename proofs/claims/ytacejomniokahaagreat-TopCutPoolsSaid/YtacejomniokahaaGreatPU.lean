/- A part of the proof. -/
import Derived.Test.YtacejomniokahaaGreatPT
set_option linter.unusedVariables false
set_option linter.unusedSimpArgs false
set_option maxRecDepth 1000000
set_option maxHeartbeats 16000000
section
namespace Go.Sx
open Go.Proofs
open Go.RowKit Go.Tn
noncomputable section
def qpN:Bool:=z8 (jv (gR Tryz.prog X3) 100000 Tryz.f224 ((zs flT 224).getD []) c224J.2.1 (gn c224J.2.2))
theorem qgM:qpN=true:=by kernel_rfl
theorem qkS:qf Tryz.prog 224 c224J.2.1 c224J.2.2:=qI follows qkR Tryz.func224 (L:=(zs flT 224).getD []) rfl 100000 (by rw[Tryz.ntmps224];decide) (by simp[c224J,OldL,Old,qkQ,qnw,qkP,wI]) qgM
end
end Go.Sx
end
