/- A part of the proof. -/
import Derived.Test.YtacejomniokahaaGreatPC
set_option linter.unusedVariables false
set_option linter.unusedSimpArgs false
set_option maxRecDepth 1000000
set_option maxHeartbeats 16000000
section
namespace Go.Tn
open Go.Proofs
open Go.Sx Go.RowKit Go.ChangeShapes Go.WideShapes Go.ChangeAt
theorem laid:laidOutB Tryz.prog=true:=by kernel_rfl
theorem ce5:Tryz.prog.cellsOf 5=1:=by kernel_rfl
theorem qol{n:Int}(h:InK .u8 n):0≤n∧n<256:=by simp only[InK]at h;omega
section
variable{H:Type}{enc:TypeId×Value→H}{w:World}
end
end Go.Tn
end
