/- A part of the proof. -/
import Derived.Test.YtacejomniokahaaGreatProg
import Derived.Test.YtacejomniokahaaGreatPF
set_option linter.unusedVariables false
set_option linter.unusedSimpArgs false
set_option maxRecDepth 1000000
set_option maxHeartbeats 16000000
section
namespace Go.Sx
open Go.Proofs
noncomputable section
def nF:Option FL:=none
def aF:Option FL:=some []
def flT:FT:=[nF,nF,nF,nF,nF,nF,nF,nF,nF,nF,nF,aF,aF,aF,aF,aF,aF,some [(17,[(2,2)])],aF,aF,aF,aF,aF,aF,aF,aF,aF,aF,aF,aF,aF,aF,some [(15,[(2,2)])],aF,aF,aF,some [(9,[(2,2)])],aF,aF,aF,aF,aF,aF,aF,aF,aF,some [(16,[(2,2)])],aF,aF,aF,aF,aF,aF,aF,aF,aF,some [(6,[(2,2)])],aF,aF,aF,aF,aF,aF,aF,some [(10,[(2,2)])],aF,aF,aF,aF,aF,aF,some [(7,[(2,2)]),(8,[(2,2)]),(19,[(2,2)]),(20,[(2,2)])],some [(1,[(2,2)])],aF,aF,aF,aF,aF,aF,aF,aF,aF,aF,aF,some [(9,[(2,2)])],aF,aF,some [(1,[(2,2)])],some [(5,[(1,1)])],some [(2,[(2,2)])],aF,aF,aF,aF,aF,aF,some [(18,[(2,2)])],aF,aF,some [(12,[(2,2)])],aF,aF,aF,some [(10,[(47,7),(49,7)]),(12,[(1,1),(8,78)]),(14,[(1,1),(8,108)])],some [(11,[(2,2)]),(12,[(2,2)])],aF,aF,aF,aF,some [(7,[(2,2)]),(8,[(2,2)]),(12,[(2,2)]),(13,[(2,2)])],aF,aF,aF,aF,aF,aF,aF,some [(19,[(116,121),(116,124)])],aF,aF,some [(7,[(2,2)]),(8,[(2,2)]),(13,[(2,2)]),(14,[(2,2)]),(15,[(2,2)]),(18,[(2,2)]),(19,[(2,2)])],aF,aF,aF,some [(1,[(2,2)])],aF,aF,aF,aF,aF,aF,aF,aF,aF,aF,aF,aF,aF,aF,some [(4,[(3,3)])],aF,some [(8,[(2,2)]),(13,[(2,2)]),(17,[(2,2)])],aF,aF,aF,aF,aF,aF,aF,aF,aF,aF,aF,aF,some [(7,[(2,2)]),(8,[(2,2)])],aF,aF,aF,aF,aF,aF,aF,aF,aF,aF,aF,aF,aF,aF,aF,aF,aF,aF,aF,aF,aF,some [(1,[(2,2)])],aF,some [(5,[(2,2)]),(14,[(2,2)])],aF,aF,aF,aF,aF,aF,aF,aF,aF,some [(21,[(1,1)])],aF,aF,some [(5,[(9,4)])],aF,aF,aF,aF,aF,aF,aF,aF,aF,aF,aF,aF,aF,some [(5,[(9,6)]),(6,[(7,4)])],aF,aF,aF,aF,aF,aF,aF,aF,aF,aF,aF,aF,aF,aF,aF,aF,aF,aF,aF,aF,aF,aF,aF,aF,aF,aF,aF,aF,aF,aF,aF,aF,aF,aF,aF,aF,aF,aF,aF,aF,aF,aF,aF,some [(3,[(2,2)]),(8,[(2,2)])],aF,aF,aF,aF,aF,nF,aF,aF,aF,some [(9,[(2,2)])],aF,some [(4,[(2,2)])],aF,aF,aF,aF,aF,aF,aF,aF,aF,some [(1,[(2,2)])],aF,aF,aF,aF,aF,aF,aF,aF,aF,aF,aF,aF,some [(1,[(2,2)])],aF,aF,aF,aF,aF,aF,aF,aF,aF,aF,aF,aF,aF,aF,aF,aF,aF,aF,some [(1,[(2,2)])],aF,aF,aF,aF,aF,aF,aF,aF,aF,aF,aF,aF,aF,aF,aF,aF,aF,aF,aF,some [(5,[(2,2)])],aF,aF,aF,aF,aF,aF,aF,some [(2,[(42,6),(44,6),(46,6)])],some [(10,[(2,2)])],aF,aF,aF,aF,some [(24,[(2,2)])],aF,aF,aF,nF,aF,aF,aF,aF,aF,aF,aF,aF,aF,aF,aF,aF,aF,aF,aF,aF,aF,aF,aF,aF,aF,aF,aF,aF,aF,aF,aF,some [(3,[(2,2)])],aF,aF,aF,aF,some [(13,[(2,2)])],aF,aF,aF,aF,aF,aF,aF,aF,aF,aF,aF,aF,aF,aF,aF,aF,aF,aF,aF,aF,aF,aF,aF,aF,aF,aF,aF,aF,aF,aF,aF,aF]
def qqK:Bool:=okT Tryz.prog flT 0
theorem vd:qqK=true:=by kernel_rfl
end
end Go.Sx
end
