/- A part of the proof. -/
import Derived.Test.YtacejomniokahaaGreatPJ
set_option linter.unusedVariables false
set_option linter.unusedSimpArgs false
set_option maxRecDepth 1000000
set_option maxHeartbeats 16000000
section
namespace Go.Sx
open Go.Proofs
open Go.RowKit Go.Tn
noncomputable section
def ycL:Bool:=gP (wK (vN Tryz.prog X0) 100000 Tryz.f23 ((kL flT 23).getD []) cL.2.1 (wF cL.2.2))
theorem qnL:ycL=true:=by kernel_rfl
theorem qoV:qc Tryz.prog 23 cL.2.1 cL.2.2:=zI follows X0_ok Tryz.func23 (L:=(kL flT 23).getD []) rfl 100000 (by rw[Tryz.ntmps23];decide) (by simp[cL,OldL,Old,hJ,z3,liN,ch1,ch2,liA,liB,wI]) qnL
end
end Go.Sx
end
