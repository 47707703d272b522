/- A part of the proof. -/
import Derived.Test.YtacejomniokahaaGreatPL
set_option linter.unusedVariables false
set_option linter.unusedSimpArgs false
set_option maxRecDepth 1000000
set_option maxHeartbeats 16000000
section
namespace Go.Sx
open Go.Proofs
open Go.RowKit Go.Tn
noncomputable section
def ycL:Bool:=zZ (jn (jo Tryz.prog X0) 100000 Tryz.f23 ((zp flT 23).getD []) cL.2.1 (kV cL.2.2))
theorem qmZ:ycL=true:=by kernel_rfl
theorem qoq:qb Tryz.prog 23 cL.2.1 cL.2.2:=qw follows X0_ok Tryz.func23 (L:=(zp flT 23).getD []) rfl 100000 ΩR (by simp[cL,OldL,Old,hJ,z3,liN,ch1,ch2,liA,liB,wI]) qmZ
end
end Go.Sx
end
