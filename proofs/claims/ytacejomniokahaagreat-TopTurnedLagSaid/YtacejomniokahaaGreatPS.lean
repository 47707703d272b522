/- A part of the proof. -/
import Derived.Test.YtacejomniokahaaGreatPR
open Nat renaming reduceMul→xa0,reduceAdd→xa1,reduceEqDiff→xa2,reduceLT→xa3,reduceLeDiff→xa4
set_option linter.unusedVariables false
set_option linter.unusedSimpArgs false
set_option maxRecDepth 1000000
set_option maxHeartbeats 16000000
section
namespace Go.Sx
open Go.Proofs
open Go.RowKit Go.Tn
noncomputable section
def y67:Bool:=zZ (jn (jo Tryz.prog X1) 100000 Tryz.f67 ((zp flT 67).getD []) [] Qp)
theorem qnd:y67=true:=by kernel_rfl
theorem qlp:qb Tryz.prog 67 [] (.val (.bool true)):=w9 follows qjg Tryz.func67 (L:=(zp flT 67).getD []) rfl 100000 qnd
end
end Go.Sx
end
section
namespace Go.Sx
open Go.Proofs
open Go.RowKit Go.Tn
noncomputable section
def y68:Bool:=zZ (jn (jo Tryz.prog X1) 100000 Tryz.f68 ((zp flT 68).getD []) [] Qp)
theorem qne:y68=true:=by kernel_rfl
theorem qlq:qb Tryz.prog 68 [] (.val (.bool true)):=w9 follows qjg Tryz.func68 (L:=(zp flT 68).getD []) rfl 100000 qne
end
end Go.Sx
end
section
namespace Go.Sx
open Go.Proofs
open Go.RowKit Go.Tn
noncomputable section
def y69:Bool:=zZ (jn (jo Tryz.prog X1) 100000 Tryz.f69 ((zp flT 69).getD []) [] Qp)
theorem qnf:y69=true:=by kernel_rfl
theorem qlr:qb Tryz.prog 69 [] (.val (.bool true)):=w9 follows qjg Tryz.func69 (L:=(zp flT 69).getD []) rfl 100000 qnf
end
end Go.Sx
end
section
namespace Go.Tn
open Go.Proofs
open Go.Sx
theorem c12:qb Tryz.prog 12 [] (B true):=by
 refine qc Tryz.func12 rfl Ωb follows Ωb _ _ (by rw[Tryz.ntmps12];simp) (by simp[OldL]) ?_;have h1:=qlp;have h2:=qlq;have h3:=qlr;unfold B;(simp -dsimp only[↓RP,RQ,xa0,reduceIte,reduceCtorEq,xa1,xa2,xa3,xa4,TY,Tryz.results12]);refine qi h1 (by simp[SubL]) ΩK ?_;(simp -dsimp only[↓RP,RQ,xa0,reduceIte,reduceCtorEq,xa1,xa2,xa3,xa4,TY,Tryz.results12]);refine qi h2 (by simp[SubL]) ΩK ?_;(simp -dsimp only[↓RP,RQ,xa0,reduceIte,reduceCtorEq,xa1,xa2,xa3,xa4,TY,Tryz.results12]);refine qi h3 (by simp[SubL]) ΩK ?_;(simp -dsimp only[↓RP,RQ,xa0,reduceIte,reduceCtorEq,xa1,xa2,xa3,xa4,TY,Tryz.results12])
end Go.Tn
end
