/- A part of the proof. -/
import Derived.Test.YtacejomniokahaaGreatPD
import Derived.Test.YtacejomniokahaaGreatPL
set_option linter.unusedVariables false
set_option linter.unusedSimpArgs false
set_option maxRecDepth 1000000
set_option maxHeartbeats 16000000
section
namespace Go.Tn
open Go.Proofs
open Go.Sx Go.RowKit Go.ChangeShapes Go.WideShapes Go.ChangeAt
theorem cf2:Tryz.prog.cellsOf 2=1:=by kernel_rfl
theorem qqR:Tryz.prog.cellsOf 95=1:=by kernel_rfl
theorem qss:Tryz.prog.cellsOf 97=3:=by kernel_rfl
theorem qpy:Tryz.prog.cellsOf 99=2:=by kernel_rfl
theorem qnV:Tryz.prog.cellsOf 101=4:=by kernel_rfl
section
variable{H:Type}{enc:TypeId×Value→H}{w:World}
theorem qcV:Rd enc Tryz.prog w 2 1 (λn:Int=>InK .i64 n) (λn _=>.val (.int .i64 n)):=Rd.int Tryz.underlying2
theorem qpz:Rd enc Tryz.prog w 99 2 (λ_:Int×Int=>True) (λx j=>[SV.val (.int .i64 x.1),SV.val (.int .i64 x.2)].getD j .top):=
 (Rd.struct Tryz.underlying99 qpy (RdF.cons qcV cf2 rfl (RdF.cons qcV cf2 rfl RdF.nil Ωg) Ωg) (by simp[cf2,List.range_succ])).map
  (λx=>(x.1,x.2.1)) (λa _=>⟨trivial,λj hj=>by
  rcases(Ω:j=0∨j=1)with rfl|rfl<;>rfl⟩)
theorem qpA:Rd enc Tryz.prog w 101 4 (λ_:Int×Int×Int×Int=>True) (λx j=>[SV.val (.int .i64 x.1),SV.val (.int .i64 x.2.1),SV.val (.int .i64 x.2.2.1),SV.val (.int .i64 x.2.2.2)].getD j .top):=
 (Rd.struct Tryz.underlying101 qnV (RdF.cons qbR ce3 rfl (RdF.cons qbR ce3 rfl (RdF.cons qpz qpy rfl RdF.nil Ωg) Ωg) Ωg) (by simp[qpy,ce3,List.range_succ])).map
  (λx=>(x.1,x.2.1,x.2.2.1.1,x.2.2.1.2)) (λa _=>⟨trivial,λj hj=>by
  rcases(Ω:j=0∨j=1∨j=2∨j=3)with rfl|rfl|rfl|rfl<;>rfl⟩)
theorem qnl:Rd enc Tryz.prog w 95 1 (λx:Nat×(Nat→Int×Int×Int×Int)=>x.1≤maxLen∧∀i,i<x.1→True) (λx _=>gC x.1 (λi=>(x.2 i).1) (λi=>(x.2 i).2.1) (λi=>(x.2 i).2.2.1) (λi=>(x.2 i).2.2.2)):=
 Rd.slice Tryz.underlying95 qnV Ω qpA
theorem rd_cut:Rd enc Tryz.prog w 97 3 (λ_:Int×Int×(Nat×(Nat→Int×Int×Int×Int))=>True) (λx j=>[SV.val (.int .i64 x.1),SV.val (.int .i64 x.2.1),gC x.2.2.1 (λi=>(x.2.2.2 i).1) (λi=>(x.2.2.2 i).2.1) (λi=>(x.2.2.2 i).2.2.1) (λi=>(x.2.2.2 i).2.2.2)].getD j .top):=
 (Rd.struct Tryz.underlying97 qss (RdF.cons qbR ce3 rfl (RdF.cons qcV cf2 rfl (RdF.cons qnl qqR rfl RdF.nil Ωg) Ωg) Ωg) (by simp[cf2,ce3,qqR,List.range_succ])).map
  (λx=>(x.1,x.2.1,x.2.2.1)) (λa _=>⟨trivial,λj hj=>by
  rcases(Ω:j=0∨j=1∨j=2)with rfl|rfl|rfl<;>rfl⟩)
theorem qnm{r:Reach}{b0:Nat}{v:Value}{d:DataW H}{ps:List MemPlace}(hv:Value.okWide Tryz.prog w r b0 97 v)(h:DataW.Trod enc Tryz.prog w 0 (λ_=>true) true 97 v d ps) :
  ∃(n m:Int)(k:Nat)(f t lo hi:Nat→Int),Rep noR noN (Gin w) w (gH n m k f t lo hi) v:=by
 obtain⟨cs,e,_⟩:=okWide_struct Tryz.underlying97 hv;obtain⟨x,hx,hr⟩:=rd_cut.agg e h;exact⟨x.1,x.2.1,x.2.2.1,_,_,_,_,hr⟩
end
end Go.Tn
end
