/- A part of the proof. -/
import Derived.Test.YtacejomniokahaaGreatPC
set_option linter.unusedVariables false
set_option linter.unusedSimpArgs false
set_option maxRecDepth 1000000
set_option maxHeartbeats 16000000
section
namespace Go.Tn
open Go.Proofs
open Go.Sx Go.RowKit Go.ChangeShapes Go.WideShapes Go.ChangeAt
theorem laid:laidOutB Tryz.prog=true:=by kernel_rfl
theorem ce3:Tryz.prog.cellsOf 3=1:=by kernel_rfl
theorem qpO{n:Int}(h:InK .u8 n):0≤n∧n<256:=by simp only[InK]at h;omega
section
variable{H:Type}{enc:TypeId×Value→H}{w:World}
theorem qbR:Rd enc Tryz.prog w 3 1 (λn:Int=>InK .i64 n) (λn _=>.val (.int .i64 n)):=Rd.int Tryz.underlying3
theorem qoj{r:Reach}{b0:Nat}{v:Value}{d:DataW H}{ps:List MemPlace}(hv:Value.okWide Tryz.prog w r b0 5 v)(h:DataW.Trod enc Tryz.prog w 0 (λ_=>true) true 5 v d ps) :
  ∃n:Int,InK .u8 n∧Rep noR noN (Gin w) w (.val (.int .u8 n)) v:=by
 obtain⟨n,rfl⟩:=okWide_int Tryz.underlying5 hv;obtain⟨m,hm,hr⟩:=(Rd.int Tryz.underlying5).one rfl h;cases hr;exact⟨n,hm,.val _⟩
end
end Go.Tn
end
