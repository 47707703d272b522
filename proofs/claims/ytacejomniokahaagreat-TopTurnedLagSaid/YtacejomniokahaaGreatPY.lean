/- A part of the proof. -/
import Derived.Test.YtacejomniokahaaGreatPD
set_option linter.unusedVariables false
set_option linter.unusedSimpArgs false
set_option maxRecDepth 1000000
set_option maxHeartbeats 16000000
section
namespace Go.Tn
open Go.Proofs
open Go.Sx Go.RowKit Go.ChangeShapes Go.WideShapes Go.ChangeAt
section
variable{H:Type}{enc:TypeId×Value→H}{w:World}
theorem qls{r:Reach}{b0:Nat}{v:Value}{d:DataW H}{ps:List MemPlace}(hv:Value.okWide Tryz.prog w r b0 25 v)(h:DataW.Trod enc Tryz.prog w 0 (fun _=>true) true 25 v d ps) :
  ∃(m:Nat)(t:Nat→Int),(∀i,i<m→InK .u8 (t i))∧Rep noR noN (Gin w) w (.arr false false m 1 (fun i _=>.val (.int .u8 (t i)))) v:=by
 obtain⟨a,n,c,rfl⟩:=okWide_slice Tryz.underlying25 hv;obtain⟨x,hx,hr⟩:=(Rd.slice (α:=Int) Tryz.underlying25 ce5 Ω (Rd.int Tryz.underlying5)).one rfl h;exact⟨x.1,x.2,fun i hi=>hx.2 i hi,hr⟩
end
end Go.Tn
end
