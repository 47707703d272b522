/- A part of the proof. -/
import Derived.Test.YtacejomniokahaaGreatPI
set_option linter.unusedVariables false
set_option linter.unusedSimpArgs false
set_option maxRecDepth 1000000
set_option maxHeartbeats 16000000
section
namespace Go.Sx
open Go.Proofs
open Go.RowKit Go.Tn
noncomputable section
def ycW:Bool:=zX (jt (gS Tryz.prog X0) 100000 Tryz.f22 ((zp flT 22).getD []) cW.2.1 (gl cW.2.2))
theorem qpl:ycW=true:=by kernel_rfl
theorem qqJ:qf Tryz.prog 22 cW.2.1 cW.2.2:=qI follows X0_ok Tryz.func22 (L:=(zp flT 22).getD []) rfl 100000 (by rw[Tryz.ntmps22];decide) (by simp[cW,OldL,Old,hJ,z3,liN,ch1,ch2,liA,liB,wI]) qpl
end
end Go.Sx
end
