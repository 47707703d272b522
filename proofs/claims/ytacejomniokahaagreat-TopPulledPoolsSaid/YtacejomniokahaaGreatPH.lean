/- A part of the proof. -/
import Derived.Test.YtacejomniokahaaGreatProg
import Derived.Test.YtacejomniokahaaGreatPF
set_option linter.unusedVariables false
set_option linter.unusedSimpArgs false
set_option maxRecDepth 1000000
set_option maxHeartbeats 16000000
section
namespace Go.Sx
open Go.Proofs
noncomputable section
def nF:Option FL:=none
def aF:Option FL:=some []
def flT:FT:=[nF,nF,nF,nF,nF,nF,nF,nF,nF,nF,nF,aF,aF,aF,aF,aF,aF,some [(17,[(2,2)])],aF,aF,aF,aF,aF,aF,aF,aF,aF,aF,aF,aF,aF,aF,some [(15,[(2,2)])],aF,aF,aF,some [(9,[(2,2)])],aF,aF,aF,aF,aF,aF,aF,aF,aF,some [(16,[(2,2)])],aF,aF,aF,aF,aF,aF,aF,aF,aF,some [(6,[(2,2)])],aF,aF,aF,aF,aF,aF,aF,some [(10,[(2,2)])],aF,aF,aF,aF,aF,aF,some [(7,[(0,0),(3,31),(31,3),(3,33),(33,3),(3,36),(36,3),(6,31),(31,6),(6,33),(33,6),(6,36),(36,6)]),(8,[(0,0),(3,41),(41,3),(3,42),(42,3),(3,45),(45,3)]),(19,[(2,2)]),(20,[(0,0),(3,90),(90,3),(3,92),(92,3),(3,95),(95,3),(9,90),(90,9),(9,92),(92,9),(9,95),(95,9)])],some [(1,[(2,2)])],aF,aF,aF,aF,aF,aF,aF,aF,aF,aF,aF,some [(9,[(2,2)])],aF,aF,some [(1,[(2,2)])],some [(5,[(1,1)])],some [(2,[(2,2)])],aF,aF,aF,aF,aF,aF,some [(18,[(2,2)])],aF,aF,some [(12,[(2,2)])],aF,aF,aF,some [(10,[(47,7),(49,7)]),(12,[(1,1),(8,78)]),(14,[(1,1),(8,108)])],some [(11,[(2,2)]),(12,[(2,2)])],aF,aF,aF,aF,some [(7,[(2,2)]),(8,[(2,2)]),(12,[(2,2)]),(13,[(2,2)])],aF,aF,aF,aF,aF,aF,aF,some [(19,[(116,121),(116,124)])],aF,aF,some [(7,[(2,2)]),(8,[(2,2)]),(13,[(2,2)]),(14,[(2,2)]),(15,[(2,2)]),(18,[(2,2)]),(19,[(2,2)])],aF,aF,aF,some [(1,[(2,2)])],aF,aF,aF,aF,aF,aF,aF,aF,aF,aF,aF,aF,aF,aF,some [(4,[(3,3)])],aF,some [(8,[(2,2)]),(13,[(2,2)]),(17,[(2,2)])],aF,aF,aF,aF,aF,aF,aF,aF,aF,aF,aF,aF,some [(7,[(2,2)]),(8,[(2,2)])],aF,aF,aF,aF,aF,aF,aF,aF,aF,aF,aF,aF,aF,aF,aF,aF,aF,aF,aF,aF,aF,some [(1,[(2,2)])],aF,some [(5,[(2,2)]),(14,[(2,2)])],aF,aF,aF,aF,aF,aF,aF,aF,aF,some [(21,[(1,1)])],aF,aF,some [(5,[(9,4)])],aF,aF,aF,aF,aF,aF,aF,aF,aF,aF,aF,aF,aF,some [(5,[(9,6)]),(6,[(7,4)])],aF,aF,aF,aF,aF,aF,aF,aF,aF,aF,aF,aF,aF,aF,aF,aF,aF,aF,aF,aF,aF,aF,aF,aF,aF,aF,aF,aF,aF,aF,aF,aF,aF,aF,aF,aF,aF,aF,aF,aF,aF,aF,aF,some [(3,[(2,2)]),(8,[(2,2)])],aF,aF,aF,aF,aF,nF,aF,aF,aF,some [(9,[(2,2)])],aF,some [(4,[(2,2)])],aF,aF,aF,aF,aF,aF,aF,aF,aF,some [(1,[(2,2)])],aF,aF,aF,aF,aF,aF,aF,aF,aF,aF,aF,aF,some [(1,[(2,2)])],aF,aF,aF,aF,aF,aF,aF,aF,aF,aF,aF,aF,aF,aF,aF,aF,aF,aF,some [(1,[(2,2)])],aF,aF,aF,aF,aF,aF,aF,aF,aF,aF,aF,aF,aF,aF,aF,aF,aF,aF,aF,some [(5,[(2,2)])],aF,aF,aF,aF,aF,aF,aF,some [(2,[(42,6),(44,6),(46,6)])],some [(10,[(2,2)])],aF,aF,aF,aF,some [(24,[(2,2)])],aF,aF,aF,nF,aF,aF,aF,aF,aF,aF,aF,aF,aF,aF,aF,aF,aF,aF,aF,aF,aF,aF,aF,aF,aF,aF,aF,aF,aF,aF,aF,some [(3,[(2,2)])],aF,aF,aF,aF,some [(13,[(2,2)])],aF,aF,aF,aF,aF,aF,aF,aF,aF,aF,aF,aF,aF,aF,aF,aF,aF,aF,aF,aF,aF,aF,aF,aF,aF,aF,aF,aF,aF,aF,aF,aF]
def qok:Bool:=okT Tryz.prog flT 0
theorem qat:qok=true:=by kernel_rfl
end
end Go.Sx
end
