/- A part of the proof. -/
import Derived.Test.YtacejomniokahaaGreatPS
set_option linter.unusedVariables false
set_option linter.unusedSimpArgs false
set_option maxRecDepth 1000000
set_option maxHeartbeats 16000000
section
namespace Go.Sx
open Go.Proofs
open Go.RowKit Go.Tn
noncomputable section
def qpx:Bool:=zX (jt (gS Tryz.prog X3) 100000 Tryz.f223 ((zp flT 223).getD []) c223K.2.1 (gl c223K.2.2))
theorem qgM:qpx=true:=by kernel_rfl
theorem qkQ:qf Tryz.prog 223 c223K.2.1 c223K.2.2:=qI follows qkN Tryz.func223 (L:=(zp flT 223).getD []) rfl 100000 (by rw[Tryz.ntmps223];decide) (by simp[c223K,OldL,Old,qkM,qni,qkL,wI]) qgM
end
end Go.Sx
end
