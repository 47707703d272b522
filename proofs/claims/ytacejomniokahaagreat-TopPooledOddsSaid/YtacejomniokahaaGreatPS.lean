/- A part of the proof. -/
import Derived.Test.YtacejomniokahaaGreatPI
import Derived.Test.YtacejomniokahaaGreatPN
import Derived.Test.YtacejomniokahaaGreatPO
import Derived.Test.YtacejomniokahaaGreatPP
import Derived.Test.YtacejomniokahaaGreatPQ
import Derived.Test.YtacejomniokahaaGreatPR
set_option linter.unusedVariables false
set_option linter.unusedSimpArgs false
set_option maxRecDepth 1000000
set_option maxHeartbeats 16000000
section
namespace Go.Sx
open Go.Proofs
open Go.RowKit Go.Tn
noncomputable section
def qmF:Bool:=kE (jH (jF Tryz.prog X0) 100000 Tryz.f138 ((zL flT 138).getD []) c138J.2.1 (g6 c138J.2.2))
theorem qeM:qmF=true:=by kernel_rfl
theorem qiw:qf Tryz.prog 138 c138J.2.1 c138J.2.2:=qP follows X0_ok Tryz.func138 (L:=(zL flT 138).getD []) rfl 100000 (by rw[Tryz.ntmps138];decide) (by simp[c138J,OldL,Old,hJ,z3,liN,ch1,ch2,liA,liB,wI]) qeM
end
end Go.Sx
end
section
namespace Go.Sx
open Go.Proofs
open Go.RowKit Go.Tn
noncomputable section
def X1:XP:=⟨flT,plT,olT,[qie,cW,cL,cB,c13J,c135J,c138J],[lsN,l1N]⟩
theorem qix:qeC Tryz.prog X1:=⟨Q3,X0_ok.pl,X0_ok.ol,⟨qnO,qnW,qnX,qnY,qkC,qiv,qiw,trivial⟩,X0_ok.nl⟩
end
end Go.Sx
end
