/- A part of the proof. -/
import Derived.Test.YtacejomniokahaaGreatPD
set_option linter.unusedVariables false
set_option linter.unusedSimpArgs false
set_option maxRecDepth 1000000
set_option maxHeartbeats 16000000
section
namespace Go.Tn
open Go.Proofs
open Go.Sx Go.RowKit Go.ChangeShapes Go.WideShapes Go.ChangeAt
theorem ce2:Tryz.prog.cellsOf 2=1:=by kernel_rfl
theorem qpY:Tryz.prog.cellsOf 92=4*1:=by kernel_rfl
section
variable{H:Type}{enc:TypeId×Value→H}{w:World}
theorem qjQ{r:Reach}{b0:Nat}{v:Value}{d:DataW H}{ps:List MemPlace}(hv:Value.okWide Tryz.prog w r b0 32 v)(h:DataW.Trod enc Tryz.prog w 0 (λ_=>true) true 32 v d ps) :
  ∃(m:Nat)(u:Nat→Int),(∀i,i<m→InK .i64 (u i))∧Rep noR noN (Gin w) w (ints m u) v:=by
 obtain⟨a,n,c,rfl⟩:=okWide_slice Tryz.underlying32 hv;obtain⟨x,hx,hr⟩:=(Rd.slice (α:=Int) Tryz.underlying32 ce2 Ω (Rd.int Tryz.underlying2)).one rfl h;exact⟨x.1,x.2,λi hi=>hx.2 i hi,hr⟩
theorem qjR{r:Reach}{b0:Nat}{v:Value}{d:DataW H}{ps:List MemPlace}(hv:Value.okWide Tryz.prog w r b0 92 v)(h:DataW.Trod enc Tryz.prog w 0 (λ_=>true) true 92 v d ps) :
  ∃t:Nat→Int,(∀i,i<4→InK .u8 (t i))∧Rep noR noN (Gin w) w (.agg [.val (.int .u8 (t 0)),.val (.int .u8 (t 1)),.val (.int .u8 (t 2)),.val (.int .u8 (t 3))]) v:=by
 have hv2:=hv;simp only[Value.okWide,Tryz.underlying92]at hv2;obtain⟨cs,e,_⟩:=hv2;obtain⟨t,ht,hr⟩:=(Rd.array Tryz.underlying92 ce5 Ω qpY (Rd.int Tryz.underlying5)).agg e h;exact⟨t,ht,hr⟩
end
end Go.Tn
end
