/- A part of the proof. -/
import Derived.Test.YtacejomniokahaaGreatPI
import Derived.Test.YtacejomniokahaaGreatPT
open Nat renaming reduceMul→xa0,reduceAdd→xa1,reduceEqDiff→xa2,reduceLT→xa3,reduceLeDiff→xa4,zero_add→xb0
set_option linter.unusedVariables false
set_option linter.unusedSimpArgs false
set_option maxRecDepth 1000000
set_option maxHeartbeats 16000000
section
namespace Go.Sx
open Go.Proofs
open Go.RowKit Go.Tn
noncomputable section
def qob:List SV→Tr 6 XB→Nat→(SV→Tr 6 XB→Nat→R)→R:=qmJ (jF Tryz.prog X0) 100000 Tryz.f104 [(11,[(2,2)]),(12,[(2,2)])] qiB (sqN 7 (Qi Tryz.f104)) (sqB 8 (Qi Tryz.f104))
theorem qkO:yA Tryz.prog 104 qob:=by
 obtain⟨c,hc⟩:=fnX (P:=Tryz.prog) (L:=[(11,[(2,2)]),(12,[(2,2)])]) Tryz.func104 (Gx Q3 (j:=104) rfl (by rw[xb0];exact Tryz.func104));have e:c=GJ qmK (sqB 8 (Qi Tryz.f104)) (sqN 7 (Qi Tryz.f104)):=by
  have h:=hc.body;have h2:Tryz.f104.body=some (GJ qmK (sqB 8 (Qi Tryz.f104)) (sqN 7 (Qi Tryz.f104))):=by kernel_rfl
  rw[h2]at h;exact(Option.some.inj h).symm
 subst e;exact qkG follows (VS _ _ X0_ok) (GA _ _ X0_ok.fl) hc qkN 100000
def X2:XP:=⟨flT,plT,(104,qob) :: olT,[qie],[lsN,l1N]⟩
theorem qoc:qeC Tryz.prog X2:=⟨Q3,X0_ok.pl,⟨qkO,X0_ok.ol⟩,X0_ok.cl,X0_ok.nl⟩
def y96:Bool:=kE (jH (jF Tryz.prog X2) 100000 Tryz.f96 ((zL flT 96).getD []) [] wL)
theorem qmN:y96=true:=by kernel_rfl
theorem qkP:qf Tryz.prog 96 [] (.val (.bool true)):=jQ follows qoc Tryz.func96 (L:=(zL flT 96).getD []) rfl 100000 qmN
end
end Go.Sx
end
section
namespace Go.Tn
open Go.Proofs
open Go.Sx
theorem c31:qf Tryz.prog 31 [] (B true):=by
 refine qg Tryz.func31 rfl Ωc follows Ωc _ _ (by rw[Tryz.ntmps31];simp) (by simp[OldL]) ?_;have h1:=c12;have h2:=qkP;unfold B at *;(simp -dsimp only[↓RP,RQ,xa0,reduceIte,reduceCtorEq,xa1,xa2,xa3,xa4,TY,Tryz.results31]);refine qm h1 Ω0 (by simp[Fresh]) ?_;(simp -dsimp only[↓RP,RQ,xa0,reduceIte,reduceCtorEq,xa1,xa2,xa3,xa4,TY,Tryz.results31]);refine qm h2 Ω0 (by simp[Fresh]) ?_;(simp -dsimp only[↓RP,RQ,xa0,reduceIte,reduceCtorEq,xa1,xa2,xa3,xa4,TY,Tryz.results31])
end Go.Tn
end
