/- A part of the proof. -/
import Derived.Test.YtacejomniokahaaGreatPJ
set_option linter.unusedVariables false
set_option linter.unusedSimpArgs false
set_option maxRecDepth 1000000
set_option maxHeartbeats 16000000
section
namespace Go.Sx
open Go.Proofs
open Go.RowKit Go.Tn
noncomputable section
def qoX:Bool:=gP (wK (vN Tryz.prog X0) 100000 Tryz.f13 ((kL flT 13).getD []) c13J.2.1 (wF c13J.2.2))
theorem qjC:qoX=true:=by kernel_rfl
theorem qlK:qc Tryz.prog 13 c13J.2.1 c13J.2.2:=zI follows X0_ok Tryz.func13 (L:=(kL flT 13).getD []) rfl 100000 (by rw[Tryz.ntmps13];decide) (by simp[c13J,OldL,Old,hJ,z3,liN,ch1,ch2,liA,liB,wI]) qjC
end
end Go.Sx
end
