/- A part of the proof. -/
import Derived.Test.YtacejomniokahaaGreatPL
set_option linter.unusedVariables false
set_option linter.unusedSimpArgs false
set_option maxRecDepth 1000000
set_option maxHeartbeats 16000000
section
namespace Go.Sx
open Go.Proofs
open Go.RowKit Go.Tn
noncomputable section
def qrg:Bool:=vB (ZY (Za Tryz.prog X0) 100000 Tryz.f13 ((jJ flT 13).getD []) c13J.2.1 (ZX c13J.2.2))
theorem qls:qrg=true:=by kernel_rfl
theorem qnv:qb Tryz.prog 13 c13J.2.1 c13J.2.2:=gW follows X0_ok Tryz.func13 (L:=(jJ flT 13).getD []) rfl 100000 (by rw[Tryz.ntmps13];decide) (by simp[c13J,OldL,Old,hJ,z3,liN,ch1,ch2,liA,liB,wI]) qls
end
end Go.Sx
end
