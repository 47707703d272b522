/- A part of the proof. -/
import Derived.Test.YtacejomniokahaaGreatPL
import Derived.Test.YtacejomniokahaaGreatPQ
import Derived.Test.YtacejomniokahaaGreatPR
import Derived.Test.YtacejomniokahaaGreatPS
import Derived.Test.YtacejomniokahaaGreatPT
import Derived.Test.YtacejomniokahaaGreatPU
set_option linter.unusedVariables false
set_option linter.unusedSimpArgs false
set_option maxRecDepth 1000000
set_option maxHeartbeats 16000000
section
namespace Go.Sx
open Go.Proofs
open Go.RowKit Go.Tn
noncomputable section
def qpI:Bool:=vB (ZY (Za Tryz.prog X0) 100000 Tryz.f138 ((jJ flT 138).getD []) c138J.2.1 (ZX c138J.2.2))
theorem qhe:qpI=true:=by kernel_rfl
theorem qlu:qb Tryz.prog 138 c138J.2.1 c138J.2.2:=gW follows X0_ok Tryz.func138 (L:=(jJ flT 138).getD []) rfl 100000 (by rw[Tryz.ntmps138];decide) (by simp[c138J,OldL,Old,hJ,z3,liN,ch1,ch2,liA,liB,wI]) qhe
end
end Go.Sx
end
section
namespace Go.Sx
open Go.Proofs
open Go.RowKit Go.Tn
noncomputable section
def X1:XP:=⟨flT,plT,olT,[qlo,cW,cL,cB,c13J,c135J,c138J],[lsN,l1N]⟩
theorem qlv:qgX Tryz.prog X1:=⟨Z6,X0_ok.pl,X0_ok.ol,⟨qqZ,qrd,qre,qrf,qnv,qlt,qlu,trivial⟩,X0_ok.nl⟩
end
end Go.Sx
end
