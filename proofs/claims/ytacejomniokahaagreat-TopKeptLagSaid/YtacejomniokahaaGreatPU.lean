/- A part of the proof. -/
import Derived.Test.YtacejomniokahaaGreatPR
import Derived.Test.YtacejomniokahaaGreatPS
import Derived.Test.YtacejomniokahaaGreatPT
import Derived.Test.YtacejomniokahaaGreatPQ
set_option linter.unusedVariables false
set_option linter.unusedSimpArgs false
set_option maxRecDepth 1000000
set_option maxHeartbeats 16000000
section
namespace Go.Sx
open Go.Proofs
open Go.RowKit Go.Tn
noncomputable section
def X4:XP:=⟨flT,plT,(232,qnT) :: olT,[qag,c224J,c225J,c223K],[lsN,l1N]⟩
theorem qpb:Y5 Tryz.prog X4:=⟨vd,X0_ok.pl,⟨qek,X0_ok.ol⟩,⟨qnJ,qjL,qjM,qjN,trivial⟩,X0_ok.nl⟩
def qpX:Bool:=gP (wK (vN Tryz.prog X4) 1000000 Tryz.f109 ((kL flT 109).getD []) [] wu)
theorem qlT:qpX=true:=by kernel_rfl
theorem qjO:qc Tryz.prog 109 [] (.val (.bool true)):=jr follows qpb Tryz.func109 (L:=(kL flT 109).getD []) rfl 1000000 qlT
end
end Go.Sx
end
section
namespace Go.Tn
open Go.Proofs
open Go.Sx
theorem c43:qc Tryz.prog 43 [] (B true):=by
 refine qh Tryz.func43 rfl Ωa follows Ωa _ _ (by rw[Tryz.ntmps43];simp) (by simp[OldL]) ?_;have h1:=c31;have h2:=qjO;unfold B at *;(simp -dsimp only[↓RP,RQ,seval,TY,Tryz.results43]);refine qq h1 ΩZ (by simp[Fresh]) ?_;(simp -dsimp only[↓RP,RQ,seval,TY,Tryz.results43]);refine qq h2 ΩZ (by simp[Fresh]) ?_;(simp -dsimp only[↓RP,RQ,seval,TY,Tryz.results43])
end Go.Tn
end
