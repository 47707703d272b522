/- A part of the proof. -/
import Derived.Test.YtacejomniokahaaGreatPI
set_option linter.unusedVariables false
set_option linter.unusedSimpArgs false
set_option maxRecDepth 1000000
set_option maxHeartbeats 16000000
section
namespace Go.Sx
open Go.Proofs
open Go.RowKit Go.Tn
noncomputable section
def qqM:Bool:=zX (jt (gS Tryz.prog X0) 100000 Tryz.f13 ((zp flT 13).getD []) c13J.2.1 (gl c13J.2.2))
theorem qkF:qqM=true:=by kernel_rfl
theorem qna:qf Tryz.prog 13 c13J.2.1 c13J.2.2:=qI follows X0_ok Tryz.func13 (L:=(zp flT 13).getD []) rfl 100000 (by rw[Tryz.ntmps13];decide) (by simp[c13J,OldL,Old,hJ,z3,liN,ch1,ch2,liA,liB,wI]) qkF
end
end Go.Sx
end
