/- A part of the proof. -/
import Derived.Test.YtacejomniokahaaGreatPJ
set_option linter.unusedVariables false
set_option linter.unusedSimpArgs false
set_option maxRecDepth 1000000
set_option maxHeartbeats 16000000
section
namespace Go.Sx
open Go.Proofs
open Go.RowKit Go.Tn
noncomputable section
def ycB:Bool:=gP (wK (vN Tryz.prog X0) 100000 Tryz.f147 ((kL flT 147).getD []) cB.2.1 (wF cB.2.2))
theorem qnM:ycB=true:=by kernel_rfl
theorem qoW:qc Tryz.prog 147 cB.2.1 cB.2.2:=zI follows X0_ok Tryz.func147 (L:=(kL flT 147).getD []) rfl 100000 (by rw[Tryz.ntmps147];decide) (by simp[cB,OldL,Old,hJ,z3,liN,ch1,ch2,liA,liB,wI]) qnM
end
end Go.Sx
end
