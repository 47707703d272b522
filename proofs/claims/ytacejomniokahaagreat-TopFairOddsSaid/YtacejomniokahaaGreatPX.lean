/- A part of the proof. -/
import Derived.Test.YtacejomniokahaaGreatPL
import Derived.Test.YtacejomniokahaaGreatPW
open Nat renaming zero_add→xb0
set_option linter.unusedVariables false
set_option linter.unusedSimpArgs false
set_option maxRecDepth 1000000
set_option maxHeartbeats 16000000
section
namespace Go.Sx
open Go.Proofs
open Go.RowKit Go.Tn
noncomputable section
def qri:List SV→Tr 6 XB→Nat→(SV→Tr 6 XB→Nat→R)→R:=qpM (Za Tryz.prog X0) 100000 Tryz.f104 [(11,[(2,2)]),(12,[(2,2)])] qlz (sqN 7 (Zb Tryz.f104)) (sqB 8 (Zb Tryz.f104))
theorem qnH:Qu Tryz.prog 104 qri:=by
 obtain⟨c,hc⟩:=fnX (P:=Tryz.prog) (L:=[(11,[(2,2)]),(12,[(2,2)])]) Tryz.func104 (JV Z6 (j:=104) rfl (by rw[xb0];exact Tryz.func104));have e:c=J8 qpN (sqB 8 (Zb Tryz.f104)) (sqN 7 (Zb Tryz.f104)):=by
  have h:=hc.body;have h2:Tryz.f104.body=some (J8 qpN (sqB 8 (Zb Tryz.f104)) (sqN 7 (Zb Tryz.f104))):=by kernel_rfl
  rw[h2]at h;exact(Option.some.inj h).symm
 subst e;exact qnz follows (Yw _ _ X0_ok) (JY _ _ X0_ok.fl) hc qnG 100000
def X2:XP:=⟨flT,plT,(104,qri) :: olT,[qlo],[lsN,l1N]⟩
theorem qrj:qgX Tryz.prog X2:=⟨Z6,X0_ok.pl,⟨qnH,X0_ok.ol⟩,X0_ok.cl,X0_ok.nl⟩
def y96:Bool:=vB (ZY (Za Tryz.prog X2) 100000 Tryz.f96 ((jJ flT 96).getD []) [] yB)
theorem qpQ:y96=true:=by kernel_rfl
theorem qnI:qb Tryz.prog 96 [] (.val (.bool true)):=vC follows qrj Tryz.func96 (L:=(jJ flT 96).getD []) rfl 100000 qpQ
end
end Go.Sx
end
section
namespace Go.Tn
open Go.Proofs
open Go.Sx
theorem c31:qb Tryz.prog 31 [] (B true):=by
 refine qc Tryz.func31 rfl Ωb follows Ωb _ _ (by rw[Tryz.ntmps31];simp) (by simp[OldL]) ?_;have h1:=c12;have h2:=qnI;unfold B at *;(simp -dsimp only[↓RP,RQ,seval,TY,Tryz.results31]);refine qh h1 ΩT (by simp[Fresh]) ?_;(simp -dsimp only[↓RP,RQ,seval,TY,Tryz.results31]);refine qh h2 ΩT (by simp[Fresh]) ?_;(simp -dsimp only[↓RP,RQ,seval,TY,Tryz.results31])
end Go.Tn
end
