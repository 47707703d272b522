/- A part of the proof. -/
import Derived.Test.YtacejomniokahaaGreatPL
set_option linter.unusedVariables false
set_option linter.unusedSimpArgs false
set_option maxRecDepth 1000000
set_option maxHeartbeats 16000000
section
namespace Go.Sx
open Go.Proofs
open Go.RowKit Go.Tn
noncomputable section
def w22_4:Nat×List SV×SV:=(22,[liN false 1 [1],.arr false false 1 1 (fun _ _=>liN false 4 [0,0,0,4])],.tup [wI 3,wI 0])
def qnj:Bool:=zZ (jn (jo Tryz.prog X0) 100000 Tryz.f22 ((zp flT 22).getD []) w22_4.2.1 (kV w22_4.2.2))
theorem qfl:qnj=true:=by kernel_rfl
theorem qjk:qb Tryz.prog 22 w22_4.2.1 w22_4.2.2:=qw follows X0_ok Tryz.func22 (L:=(zp flT 22).getD []) rfl 100000 ΩQ (by simp[w22_4,OldL,Old,liN,wI]) qfl
end
end Go.Sx
end
section
namespace Go.Sx
open Go.Proofs
open Go.RowKit Go.Tn
noncomputable section
def w22_5:Nat×List SV×SV:=(22,[liN false 1 [1],.arr false false 1 1 (fun _ _=>liN false 5 [0,0,0,0,5])],.tup [wI 4,wI 0])
def qnk:Bool:=zZ (jn (jo Tryz.prog X0) 100000 Tryz.f22 ((zp flT 22).getD []) w22_5.2.1 (kV w22_5.2.2))
theorem qfm:qnk=true:=by kernel_rfl
theorem qjl:qb Tryz.prog 22 w22_5.2.1 w22_5.2.2:=qw follows X0_ok Tryz.func22 (L:=(zp flT 22).getD []) rfl 100000 ΩQ (by simp[w22_5,OldL,Old,liN,wI]) qfm
end
end Go.Sx
end
section
namespace Go.Sx
open Go.Proofs
open Go.RowKit Go.Tn
noncomputable section
def w22_6:Nat×List SV×SV:=(22,[liN false 1 [1],.arr false false 1 1 (fun _ _=>liN false 6 [0,0,0,0,0,6])],.tup [wI 5,wI 0])
def qnl:Bool:=zZ (jn (jo Tryz.prog X0) 100000 Tryz.f22 ((zp flT 22).getD []) w22_6.2.1 (kV w22_6.2.2))
theorem qfn:qnl=true:=by kernel_rfl
theorem qjm:qb Tryz.prog 22 w22_6.2.1 w22_6.2.2:=qw follows X0_ok Tryz.func22 (L:=(zp flT 22).getD []) rfl 100000 ΩQ (by simp[w22_6,OldL,Old,liN,wI]) qfn
end
end Go.Sx
end
