/- A part of the proof. -/
import Derived.Test.YtacejomniokahaaGreatPR
open Nat renaming reduceMul→xa0,reduceAdd→xa1,reduceEqDiff→xa2,reduceLT→xa3,reduceLeDiff→xa4
set_option linter.unusedVariables false
set_option linter.unusedSimpArgs false
set_option maxRecDepth 1000000
set_option maxHeartbeats 16000000
section
namespace Go.Sx
open Go.Proofs
open Go.RowKit Go.Tn
noncomputable section
def y67:Bool:=kY (ve (vf Tryz.prog X1) 100000 Tryz.f67 ((zV flT 67).getD []) [] Qu)
theorem qnk:y67=true:=by kernel_rfl
theorem qlv:qf Tryz.prog 67 [] (.val (.bool true)):=yc follows qju Tryz.func67 (L:=(zV flT 67).getD []) rfl 100000 qnk
end
end Go.Sx
end
section
namespace Go.Sx
open Go.Proofs
open Go.RowKit Go.Tn
noncomputable section
def y68:Bool:=kY (ve (vf Tryz.prog X1) 100000 Tryz.f68 ((zV flT 68).getD []) [] Qu)
theorem qnl:y68=true:=by kernel_rfl
theorem qlw:qf Tryz.prog 68 [] (.val (.bool true)):=yc follows qju Tryz.func68 (L:=(zV flT 68).getD []) rfl 100000 qnl
end
end Go.Sx
end
section
namespace Go.Sx
open Go.Proofs
open Go.RowKit Go.Tn
noncomputable section
def y69:Bool:=kY (ve (vf Tryz.prog X1) 100000 Tryz.f69 ((zV flT 69).getD []) [] Qu)
theorem qnm:y69=true:=by kernel_rfl
theorem qlx:qf Tryz.prog 69 [] (.val (.bool true)):=yc follows qju Tryz.func69 (L:=(zV flT 69).getD []) rfl 100000 qnm
end
end Go.Sx
end
section
namespace Go.Tn
open Go.Proofs
open Go.Sx
theorem c12:qf Tryz.prog 12 [] (B true):=by
 refine qg Tryz.func12 rfl Ωd follows Ωd _ _ (by rw[Tryz.ntmps12];simp) (by simp[OldL]) ?_;have h1:=qlv;have h2:=qlw;have h3:=qlx;unfold B;(simp -dsimp only[↓RP,RQ,xa0,reduceIte,reduceCtorEq,xa1,xa2,xa3,xa4,TY,Tryz.results12]);refine qj h1 (by simp[SubL]) ΩL ?_;(simp -dsimp only[↓RP,RQ,xa0,reduceIte,reduceCtorEq,xa1,xa2,xa3,xa4,TY,Tryz.results12]);refine qj h2 (by simp[SubL]) ΩL ?_;(simp -dsimp only[↓RP,RQ,xa0,reduceIte,reduceCtorEq,xa1,xa2,xa3,xa4,TY,Tryz.results12]);refine qj h3 (by simp[SubL]) ΩL ?_;(simp -dsimp only[↓RP,RQ,xa0,reduceIte,reduceCtorEq,xa1,xa2,xa3,xa4,TY,Tryz.results12])
end Go.Tn
end
