/- A part of the proof. -/
import Derived.Test.YtacejomniokahaaGreatPQ
set_option linter.unusedVariables false
set_option linter.unusedSimpArgs false
set_option maxRecDepth 1000000
set_option maxHeartbeats 16000000
section
namespace Go.Sx
open Go.Proofs
open Go.RowKit Go.Tn
noncomputable section
def qnU:Bool:=gP (wK (vN Tryz.prog X3) 100000 Tryz.f224 ((kL flT 224).getD []) c224J.2.1 (wF c224J.2.2))
theorem qfS:qnU=true:=by kernel_rfl
theorem qjL:qc Tryz.prog 224 c224J.2.1 c224J.2.2:=zI follows qjK Tryz.func224 (L:=(kL flT 224).getD []) rfl 100000 (by rw[Tryz.ntmps224];decide) (by simp[c224J,OldL,Old,qjJ,qlS,qjI,wI]) qfS
end
end Go.Sx
end
