/- A part of the proof. -/
import Derived.Test.YtacejomniokahaaGreatPQ
set_option linter.unusedVariables false
set_option linter.unusedSimpArgs false
set_option maxRecDepth 1000000
set_option maxHeartbeats 16000000
section
namespace Go.Sx
open Go.Proofs
open Go.RowKit Go.Tn
noncomputable section
def qnW:Bool:=gP (wK (vN Tryz.prog X3) 100000 Tryz.f223 ((kL flT 223).getD []) c223K.2.1 (wF c223K.2.2))
theorem qfU:qnW=true:=by kernel_rfl
theorem qjN:qc Tryz.prog 223 c223K.2.1 c223K.2.2:=zI follows qjK Tryz.func223 (L:=(kL flT 223).getD []) rfl 100000 (by rw[Tryz.ntmps223];decide) (by simp[c223K,OldL,Old,qjJ,qlS,qjI,wI]) qfU
end
end Go.Sx
end
