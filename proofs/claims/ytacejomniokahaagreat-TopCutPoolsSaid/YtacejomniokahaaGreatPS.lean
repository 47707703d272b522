/- A part of the proof. -/
import Derived.Test.YtacejomniokahaaGreatPI
import Derived.Test.YtacejomniokahaaGreatPN
import Derived.Test.YtacejomniokahaaGreatPO
import Derived.Test.YtacejomniokahaaGreatPP
import Derived.Test.YtacejomniokahaaGreatPQ
import Derived.Test.YtacejomniokahaaGreatPR
set_option linter.unusedVariables false
set_option linter.unusedSimpArgs false
set_option maxRecDepth 1000000
set_option maxHeartbeats 16000000
section
namespace Go.Sx
open Go.Proofs
open Go.RowKit Go.Tn
noncomputable section
def qpH:Bool:=z8 (jv (gR Tryz.prog X0) 100000 Tryz.f138 ((zs flT 138).getD []) c138J.2.1 (gn c138J.2.2))
theorem qgL:qpH=true:=by kernel_rfl
theorem qkL:qf Tryz.prog 138 c138J.2.1 c138J.2.2:=qI follows X0_ok Tryz.func138 (L:=(zs flT 138).getD []) rfl 100000 (by rw[Tryz.ntmps138];decide) (by simp[c138J,OldL,Old,hJ,z3,liN,ch1,ch2,liA,liB,wI]) qgL
end
end Go.Sx
end
section
namespace Go.Sx
open Go.Proofs
open Go.RowKit Go.Tn
noncomputable section
def X1:XP:=⟨flT,plT,olT,[qaO,cW,cL,cB,c13J,c135J,c138J],[lsN,l1N]⟩
theorem qkM:qax Tryz.prog X1:=⟨vd,X0_ok.pl,X0_ok.ol,⟨qpj,qqX,qqY,qqZ,qno,qkK,qkL,trivial⟩,X0_ok.nl⟩
end
end Go.Sx
end
