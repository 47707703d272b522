/- A part of the proof. -/
import Derived.Test.YtacejomniokahaaGreatPQ
set_option linter.unusedVariables false
set_option linter.unusedSimpArgs false
set_option maxRecDepth 1000000
set_option maxHeartbeats 16000000
section
namespace Go.Sx
open Go.Proofs
open Go.RowKit Go.Tn
noncomputable section
def qnV:Bool:=gP (wK (vN Tryz.prog X3) 100000 Tryz.f225 ((kL flT 225).getD []) c225J.2.1 (wF c225J.2.2))
theorem qfT:qnV=true:=by kernel_rfl
theorem qjM:qc Tryz.prog 225 c225J.2.1 c225J.2.2:=zI follows qjK Tryz.func225 (L:=(kL flT 225).getD []) rfl 100000 (by rw[Tryz.ntmps225];decide) (by simp[c225J,OldL,Old,qjJ,qlS,qjI,wI]) qfT
end
end Go.Sx
end
