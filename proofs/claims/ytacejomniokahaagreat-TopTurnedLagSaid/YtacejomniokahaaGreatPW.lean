/- A part of the proof. -/
import Derived.Test.YtacejomniokahaaGreatPL
import Derived.Test.YtacejomniokahaaGreatPS
import Derived.Test.YtacejomniokahaaGreatPT
import Derived.Test.YtacejomniokahaaGreatPU
import Derived.Test.YtacejomniokahaaGreatPV
set_option linter.unusedVariables false
set_option linter.unusedSimpArgs false
set_option maxRecDepth 1000000
set_option maxHeartbeats 16000000
section
namespace Go.Sx
open Go.Proofs
open Go.RowKit Go.Tn
noncomputable section
def w23_4:Nat×List SV×SV:=(23,[liN false 1 [1],.arr false false 1 1 (fun _ _=>liN false 4 [0,0,0,4])],.tup [wI 3,wI 0])
def qnp:Bool:=zZ (jn (jo Tryz.prog X0) 100000 Tryz.f23 ((zp flT 23).getD []) w23_4.2.1 (kV w23_4.2.2))
theorem qfr:qnp=true:=by kernel_rfl
theorem qjq:qb Tryz.prog 23 w23_4.2.1 w23_4.2.2:=qw follows X0_ok Tryz.func23 (L:=(zp flT 23).getD []) rfl 100000 ΩR (by simp[w23_4,OldL,Old,liN,wI]) qfr
end
end Go.Sx
end
section
namespace Go.Sx
open Go.Proofs
open Go.RowKit Go.Tn
noncomputable section
def w23_5:Nat×List SV×SV:=(23,[liN false 1 [1],.arr false false 1 1 (fun _ _=>liN false 5 [0,0,0,0,5])],.tup [wI 4,wI 0])
def qnq:Bool:=zZ (jn (jo Tryz.prog X0) 100000 Tryz.f23 ((zp flT 23).getD []) w23_5.2.1 (kV w23_5.2.2))
theorem qfs:qnq=true:=by kernel_rfl
theorem qjr:qb Tryz.prog 23 w23_5.2.1 w23_5.2.2:=qw follows X0_ok Tryz.func23 (L:=(zp flT 23).getD []) rfl 100000 ΩR (by simp[w23_5,OldL,Old,liN,wI]) qfs
end
end Go.Sx
end
section
namespace Go.Sx
open Go.Proofs
open Go.RowKit Go.Tn
noncomputable section
def w23_6:Nat×List SV×SV:=(23,[liN false 1 [1],.arr false false 1 1 (fun _ _=>liN false 6 [0,0,0,0,0,6])],.tup [wI 5,wI 0])
def qnr:Bool:=zZ (jn (jo Tryz.prog X0) 100000 Tryz.f23 ((zp flT 23).getD []) w23_6.2.1 (kV w23_6.2.2))
theorem qft:qnr=true:=by kernel_rfl
theorem qjs:qb Tryz.prog 23 w23_6.2.1 w23_6.2.2:=qw follows X0_ok Tryz.func23 (L:=(zp flT 23).getD []) rfl 100000 ΩR (by simp[w23_6,OldL,Old,liN,wI]) qft
end
end Go.Sx
end
section
namespace Go.Tn
open Go.Proofs
open Go.Sx
theorem Kg{t:Nat}{l:List Int}(h:∀i,qbN l i=if i=t - 1 then(t:Int)else 0):liN false t l=.arr false false t 1 (fun i _=>.val (.int .i64 (if i=t - 1 then(t:Int)else 0))):=by
 unfold liN
 congr 1
 funext i _;rw[h]
theorem qpr(t:Nat)(t1:1≤t)(t6:t≤6):qb Tryz.prog 22 [.arr false false 1 1 (fun i _=>.val (.int .i64 (qbN [1] i))),.arr false false 1 1 (fun _ _=>.arr false false t 1 (fun i _=>.val (.int .i64 (if i=t - 1 then(t:Int)else 0))))] (.tup [.val (.int .i64 ((t:Int) - 1)),.val (.int .i64 0)]):=by
 rcases(Ω:t=1∨t=2∨t=3∨t=4∨t=5∨t=6)with rfl|rfl|rfl|rfl|rfl|rfl
 ·rw[←Kg (l:=[1]) (fun i=>by rcases i with _|_|i<;>rfl)];exact qjh
 ·rw[←Kg (l:=[0,2]) (fun i=>by rcases i with _|_|_|i<;>rfl)];exact qji
 ·rw[←Kg (l:=[0,0,3]) (fun i=>by rcases i with _|_|_|_|i<;>rfl)];exact qjj
 ·rw[←Kg (l:=[0,0,0,4]) (fun i=>by rcases i with _|_|_|_|_|i<;>rfl)];exact qjk
 ·rw[←Kg (l:=[0,0,0,0,5]) (fun i=>by rcases i with _|_|_|_|_|_|i<;>rfl)];exact qjl
 ·rw[←Kg (l:=[0,0,0,0,0,6]) (fun i=>by rcases i with _|_|_|_|_|_|_|i<;>rfl)];exact qjm
theorem qps(t:Nat)(t1:1≤t)(t6:t≤6):qb Tryz.prog 23 [.arr false false 1 1 (fun i _=>.val (.int .i64 (qbN [1] i))),.arr false false 1 1 (fun _ _=>.arr false false t 1 (fun i _=>.val (.int .i64 (if i=t - 1 then(t:Int)else 0))))] (.tup [.val (.int .i64 ((t:Int) - 1)),.val (.int .i64 0)]):=by
 rcases(Ω:t=1∨t=2∨t=3∨t=4∨t=5∨t=6)with rfl|rfl|rfl|rfl|rfl|rfl
 ·rw[←Kg (l:=[1]) (fun i=>by rcases i with _|_|i<;>rfl)];exact qjn
 ·rw[←Kg (l:=[0,2]) (fun i=>by rcases i with _|_|_|i<;>rfl)];exact qjo
 ·rw[←Kg (l:=[0,0,3]) (fun i=>by rcases i with _|_|_|_|i<;>rfl)];exact qjp
 ·rw[←Kg (l:=[0,0,0,4]) (fun i=>by rcases i with _|_|_|_|_|i<;>rfl)];exact qjq
 ·rw[←Kg (l:=[0,0,0,0,5]) (fun i=>by rcases i with _|_|_|_|_|_|i<;>rfl)];exact qjr
 ·rw[←Kg (l:=[0,0,0,0,0,6]) (fun i=>by rcases i with _|_|_|_|_|_|_|i<;>rfl)];exact qjs
end Go.Tn
end
