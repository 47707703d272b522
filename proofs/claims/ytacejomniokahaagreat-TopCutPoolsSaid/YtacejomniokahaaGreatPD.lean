/- A part of the proof. -/
import Derived.Test.YtacejomniokahaaGreatPC
set_option linter.unusedVariables false
set_option linter.unusedSimpArgs false
set_option maxRecDepth 1000000
set_option maxHeartbeats 16000000
section
namespace Go.Tn
open Go.Proofs
open Go.Sx Go.RowKit Go.ChangeShapes Go.WideShapes Go.ChangeAt
theorem laid:laidOutB Tryz.prog=true:=by kernel_rfl
theorem ce3:Tryz.prog.cellsOf 3=1:=by kernel_rfl
theorem ce5:Tryz.prog.cellsOf 5=1:=by kernel_rfl
theorem qqe:Tryz.prog.cellsOf 22=1:=by kernel_rfl
theorem qqf{n:Int}(h:InK .u8 n):0≤n∧n<256:=by simp only[InK]at h;omega
section
variable{H:Type}{enc:TypeId×Value→H}{w:World}
theorem GR:Rd enc Tryz.prog w 3 1 (λn:Int=>InK .i64 n) (λn _=>.val (.int .i64 n)):=Rd.int Tryz.underlying3
theorem qlB:Rd enc Tryz.prog w 22 1 (λx:Nat×(Nat→Int)=>x.1≤maxLen∧∀i,i<x.1→InK .i64 (x.2 i)) (λx _=>qE x.1 x.2):=
 Rd.slice Tryz.underlying22 ce3 Ω GR
end
end Go.Tn
end
