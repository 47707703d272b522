/- A part of the proof. -/
import Derived.Test.YtacejomniokahaaGreatPS
set_option linter.unusedVariables false
set_option linter.unusedSimpArgs false
set_option maxRecDepth 1000000
set_option maxHeartbeats 16000000
section
namespace Go.Sx
open Go.Proofs
open Go.RowKit Go.Tn
noncomputable section
def qpv:Bool:=zX (jt (gS Tryz.prog X3) 100000 Tryz.f224 ((zp flT 224).getD []) c224J.2.1 (gl c224J.2.2))
theorem qgK:qpv=true:=by kernel_rfl
theorem qkO:qf Tryz.prog 224 c224J.2.1 c224J.2.2:=qI follows qkN Tryz.func224 (L:=(zp flT 224).getD []) rfl 100000 (by rw[Tryz.ntmps224];decide) (by simp[c224J,OldL,Old,qkM,qni,qkL,wI]) qgK
end
end Go.Sx
end
