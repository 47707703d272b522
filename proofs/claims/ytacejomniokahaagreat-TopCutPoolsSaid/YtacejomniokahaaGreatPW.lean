/- A part of the proof. -/
import Derived.Test.YtacejomniokahaaGreatPT
set_option linter.unusedVariables false
set_option linter.unusedSimpArgs false
set_option maxRecDepth 1000000
set_option maxHeartbeats 16000000
section
namespace Go.Sx
open Go.Proofs
open Go.RowKit Go.Tn
noncomputable section
def qpP:Bool:=z8 (jv (gR Tryz.prog X3) 100000 Tryz.f223 ((zs flT 223).getD []) c223K.2.1 (gn c223K.2.2))
theorem qgO:qpP=true:=by kernel_rfl
theorem qkU:qf Tryz.prog 223 c223K.2.1 c223K.2.2:=qI follows qkR Tryz.func223 (L:=(zs flT 223).getD []) rfl 100000 (by rw[Tryz.ntmps223];decide) (by simp[c223K,OldL,Old,qkQ,qnw,qkP,wI]) qgO
end
end Go.Sx
end
