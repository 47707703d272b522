/- A part of the proof. -/
import Derived.Test.YtacejomniokahaaGreatPS
set_option linter.unusedVariables false
set_option linter.unusedSimpArgs false
set_option maxRecDepth 1000000
set_option maxHeartbeats 16000000
section
namespace Go.Sx
open Go.Proofs
open Go.RowKit Go.Tn
noncomputable section
def qpw:Bool:=zX (jt (gS Tryz.prog X3) 100000 Tryz.f225 ((zp flT 225).getD []) c225J.2.1 (gl c225J.2.2))
theorem qgL:qpw=true:=by kernel_rfl
theorem qkP:qf Tryz.prog 225 c225J.2.1 c225J.2.2:=qI follows qkN Tryz.func225 (L:=(zp flT 225).getD []) rfl 100000 (by rw[Tryz.ntmps225];decide) (by simp[c225J,OldL,Old,qkM,qni,qkL,wI]) qgL
end
end Go.Sx
end
