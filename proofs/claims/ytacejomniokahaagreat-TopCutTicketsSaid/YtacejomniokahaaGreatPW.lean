/- A part of the proof. -/
import Derived.Test.YtacejomniokahaaGreatPT
import Derived.Test.YtacejomniokahaaGreatPU
import Derived.Test.YtacejomniokahaaGreatPV
import Derived.Test.YtacejomniokahaaGreatPS
set_option linter.unusedVariables false
set_option linter.unusedSimpArgs false
set_option maxRecDepth 1000000
set_option maxHeartbeats 16000000
section
namespace Go.Sx
open Go.Proofs
open Go.RowKit Go.Tn
noncomputable section
def X4:XP:=⟨flT,plT,(232,qpu) :: olT,[qaO,c224J,c225J,c223K],[lsN,l1N]⟩
theorem qqQ:qax Tryz.prog X4:=⟨vh,X0_ok.pl,⟨qfd,X0_ok.ol⟩,⟨qoX,qkO,qkP,qkQ,trivial⟩,X0_ok.nl⟩
def qsr:Bool:=zX (jt (gS Tryz.prog X4) 1000000 Tryz.f109 ((zp flT 109).getD []) [] wz)
theorem qnj:qsr=true:=by kernel_rfl
theorem qkR:qf Tryz.prog 109 [] (.val (.bool true)):=ju follows qqQ Tryz.func109 (L:=(zp flT 109).getD []) rfl 1000000 qnj
end
end Go.Sx
end
section
namespace Go.Tn
open Go.Proofs
open Go.Sx
theorem c43:qf Tryz.prog 43 [] (B true):=by
 refine qg Tryz.func43 rfl Ωc follows Ωc _ _ (by rw[Tryz.ntmps43];simp) (by simp[OldL]) ?_;have h1:=c31;have h2:=qkR;unfold B at *;(simp -dsimp only[↓RP,RQ,seval,TY,Tryz.results43]);refine qk h1 ΩF Ωah ?_;(simp -dsimp only[↓RP,RQ,seval,TY,Tryz.results43]);refine qk h2 ΩF Ωah ?_;(simp -dsimp only[↓RP,RQ,seval,TY,Tryz.results43])
end Go.Tn
end
