/- A part of the proof. -/
import Derived.Test.YtacejomniokahaaGreatPL
set_option linter.unusedVariables false
set_option linter.unusedSimpArgs false
set_option maxRecDepth 1000000
set_option maxHeartbeats 16000000
section
namespace Go.Sx
open Go.Proofs
open Go.RowKit Go.Tn
noncomputable section
def w22_1:Nat×List SV×SV:=(22,[liN false 1 [1],.arr false false 1 1 (fun _ _=>liN false 1 [1])],.tup [wI 0,wI 0])
def qng:Bool:=zZ (jn (jo Tryz.prog X0) 100000 Tryz.f22 ((zp flT 22).getD []) w22_1.2.1 (kV w22_1.2.2))
theorem qfi:qng=true:=by kernel_rfl
theorem qjh:qb Tryz.prog 22 w22_1.2.1 w22_1.2.2:=qw follows X0_ok Tryz.func22 (L:=(zp flT 22).getD []) rfl 100000 ΩQ (by simp[w22_1,OldL,Old,liN,wI]) qfi
end
end Go.Sx
end
section
namespace Go.Sx
open Go.Proofs
open Go.RowKit Go.Tn
noncomputable section
def w22_2:Nat×List SV×SV:=(22,[liN false 1 [1],.arr false false 1 1 (fun _ _=>liN false 2 [0,2])],.tup [wI 1,wI 0])
def qnh:Bool:=zZ (jn (jo Tryz.prog X0) 100000 Tryz.f22 ((zp flT 22).getD []) w22_2.2.1 (kV w22_2.2.2))
theorem qfj:qnh=true:=by kernel_rfl
theorem qji:qb Tryz.prog 22 w22_2.2.1 w22_2.2.2:=qw follows X0_ok Tryz.func22 (L:=(zp flT 22).getD []) rfl 100000 ΩQ (by simp[w22_2,OldL,Old,liN,wI]) qfj
end
end Go.Sx
end
section
namespace Go.Sx
open Go.Proofs
open Go.RowKit Go.Tn
noncomputable section
def w22_3:Nat×List SV×SV:=(22,[liN false 1 [1],.arr false false 1 1 (fun _ _=>liN false 3 [0,0,3])],.tup [wI 2,wI 0])
def qni:Bool:=zZ (jn (jo Tryz.prog X0) 100000 Tryz.f22 ((zp flT 22).getD []) w22_3.2.1 (kV w22_3.2.2))
theorem qfk:qni=true:=by kernel_rfl
theorem qjj:qb Tryz.prog 22 w22_3.2.1 w22_3.2.2:=qw follows X0_ok Tryz.func22 (L:=(zp flT 22).getD []) rfl 100000 ΩQ (by simp[w22_3,OldL,Old,liN,wI]) qfk
end
end Go.Sx
end
