/- A part of the proof. -/
import Derived.Test.YtacejomniokahaaGreatPJ
import Derived.Test.YtacejomniokahaaGreatPK
import Derived.Test.YtacejomniokahaaGreatPL
import Derived.Test.YtacejomniokahaaGreatPM
import Derived.Test.YtacejomniokahaaGreatPN
import Derived.Test.YtacejomniokahaaGreatPO
set_option linter.unusedVariables false
set_option linter.unusedSimpArgs false
set_option maxRecDepth 1000000
set_option maxHeartbeats 16000000
section
namespace Go.Sx
open Go.Proofs
open Go.RowKit Go.Tn
noncomputable section
def qnO:Bool:=gP (wK (vN Tryz.prog X0) 100000 Tryz.f138 ((kL flT 138).getD []) c138J.2.1 (wF c138J.2.2))
theorem qfR:qnO=true:=by kernel_rfl
theorem qjE:qc Tryz.prog 138 c138J.2.1 c138J.2.2:=zI follows X0_ok Tryz.func138 (L:=(kL flT 138).getD []) rfl 100000 (by rw[Tryz.ntmps138];decide) (by simp[c138J,OldL,Old,hJ,z3,liN,ch1,ch2,liA,liB,wI]) qfR
end
end Go.Sx
end
section
namespace Go.Sx
open Go.Proofs
open Go.RowKit Go.Tn
noncomputable section
def X1:XP:=⟨flT,plT,olT,[qag,cW,cL,cB,c13J,c135J,c138J],[lsN,l1N]⟩
theorem qjF:Y5 Tryz.prog X1:=⟨vd,X0_ok.pl,X0_ok.ol,⟨qnJ,qoU,qoV,qoW,qlK,qjD,qjE,trivial⟩,X0_ok.nl⟩
end
end Go.Sx
end
