/- A part of the proof. -/
import Derived.Test.YtacejomniokahaaGreatPL
set_option linter.unusedVariables false
set_option linter.unusedSimpArgs false
set_option maxRecDepth 1000000
set_option maxHeartbeats 16000000
section
namespace Go.Sx
open Go.Proofs
open Go.RowKit Go.Tn
noncomputable section
def ycB:Bool:=vB (ZY (Za Tryz.prog X0) 100000 Tryz.f147 ((jJ flT 147).getD []) cB.2.1 (ZX cB.2.2))
theorem qpG:ycB=true:=by kernel_rfl
theorem qrf:qb Tryz.prog 147 cB.2.1 cB.2.2:=gW follows X0_ok Tryz.func147 (L:=(jJ flT 147).getD []) rfl 100000 (by rw[Tryz.ntmps147];decide) (by simp[cB,OldL,Old,hJ,z3,liN,ch1,ch2,liA,liB,wI]) qpG
end
end Go.Sx
end
