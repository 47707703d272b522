/- A part of the proof. -/
import Derived.Test.YtacejomniokahaaGreatPL
set_option linter.unusedVariables false
set_option linter.unusedSimpArgs false
set_option maxRecDepth 1000000
set_option maxHeartbeats 16000000
section
namespace Go.Sx
open Go.Proofs
open Go.RowKit Go.Tn
noncomputable section
def w23_1:Nat×List SV×SV:=(23,[liN false 1 [1],.arr false false 1 1 (fun _ _=>liN false 1 [1])],.tup [wI 0,wI 0])
def qnm:Bool:=zZ (jn (jo Tryz.prog X0) 100000 Tryz.f23 ((zp flT 23).getD []) w23_1.2.1 (kV w23_1.2.2))
theorem qfo:qnm=true:=by kernel_rfl
theorem qjn:qb Tryz.prog 23 w23_1.2.1 w23_1.2.2:=qw follows X0_ok Tryz.func23 (L:=(zp flT 23).getD []) rfl 100000 ΩR (by simp[w23_1,OldL,Old,liN,wI]) qfo
end
end Go.Sx
end
section
namespace Go.Sx
open Go.Proofs
open Go.RowKit Go.Tn
noncomputable section
def w23_2:Nat×List SV×SV:=(23,[liN false 1 [1],.arr false false 1 1 (fun _ _=>liN false 2 [0,2])],.tup [wI 1,wI 0])
def qnn:Bool:=zZ (jn (jo Tryz.prog X0) 100000 Tryz.f23 ((zp flT 23).getD []) w23_2.2.1 (kV w23_2.2.2))
theorem qfp:qnn=true:=by kernel_rfl
theorem qjo:qb Tryz.prog 23 w23_2.2.1 w23_2.2.2:=qw follows X0_ok Tryz.func23 (L:=(zp flT 23).getD []) rfl 100000 ΩR (by simp[w23_2,OldL,Old,liN,wI]) qfp
end
end Go.Sx
end
section
namespace Go.Sx
open Go.Proofs
open Go.RowKit Go.Tn
noncomputable section
def w23_3:Nat×List SV×SV:=(23,[liN false 1 [1],.arr false false 1 1 (fun _ _=>liN false 3 [0,0,3])],.tup [wI 2,wI 0])
def qno:Bool:=zZ (jn (jo Tryz.prog X0) 100000 Tryz.f23 ((zp flT 23).getD []) w23_3.2.1 (kV w23_3.2.2))
theorem qfq:qno=true:=by kernel_rfl
theorem qjp:qb Tryz.prog 23 w23_3.2.1 w23_3.2.2:=qw follows X0_ok Tryz.func23 (L:=(zp flT 23).getD []) rfl 100000 ΩR (by simp[w23_3,OldL,Old,liN,wI]) qfq
end
end Go.Sx
end
