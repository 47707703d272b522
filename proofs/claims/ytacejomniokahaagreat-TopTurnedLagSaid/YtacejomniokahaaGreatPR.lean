/- A part of the proof. -/
import Derived.Test.YtacejomniokahaaGreatPL
import Derived.Test.YtacejomniokahaaGreatPM
import Derived.Test.YtacejomniokahaaGreatPN
import Derived.Test.YtacejomniokahaaGreatPO
import Derived.Test.YtacejomniokahaaGreatPP
import Derived.Test.YtacejomniokahaaGreatPQ
set_option linter.unusedVariables false
set_option linter.unusedSimpArgs false
set_option maxRecDepth 1000000
set_option maxHeartbeats 16000000
section
namespace Go.Sx
open Go.Proofs
open Go.RowKit Go.Tn
noncomputable section
def qnc:Bool:=zZ (jn (jo Tryz.prog X0) 100000 Tryz.f138 ((zp flT 138).getD []) c138J.2.1 (kV c138J.2.2))
theorem qfh:qnc=true:=by kernel_rfl
theorem qjf:qb Tryz.prog 138 c138J.2.1 c138J.2.2:=qw follows X0_ok Tryz.func138 (L:=(zp flT 138).getD []) rfl 100000 (by rw[Tryz.ntmps138];decide) (by simp[c138J,OldL,Old,hJ,z3,liN,ch1,ch2,liA,liB,wI]) qfh
end
end Go.Sx
end
section
namespace Go.Sx
open Go.Proofs
open Go.RowKit Go.Tn
noncomputable section
def X1:XP:=⟨flT,plT,olT,[qlQ,cW,cL,cB,c13J,c135J,c138J],[lsN,l1N]⟩
theorem qjg:qiR Tryz.prog X1:=⟨qae,X0_ok.pl,X0_ok.ol,⟨qoo,qop,qoq,qor,qlo,qje,qjf,trivial⟩,X0_ok.nl⟩
end
end Go.Sx
end
