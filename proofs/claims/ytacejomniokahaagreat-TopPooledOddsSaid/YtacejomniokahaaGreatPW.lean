/- A part of the proof. -/
import Derived.Test.YtacejomniokahaaGreatPD
import Derived.Test.YtacejomniokahaaGreatPM
set_option linter.unusedVariables false
set_option linter.unusedSimpArgs false
set_option maxRecDepth 1000000
set_option maxHeartbeats 16000000
section
namespace Go.Tn
open Go.Proofs
open Go.Sx Go.RowKit Go.ChangeShapes Go.WideShapes Go.ChangeAt
theorem ce2:Tryz.prog.cellsOf 2=1:=by kernel_rfl
theorem ce4:Tryz.prog.cellsOf 4=1:=by kernel_rfl
theorem qod:Tryz.prog.cellsOf 46=1:=by kernel_rfl
theorem qpJ:Tryz.prog.cellsOf 48=8:=by kernel_rfl
theorem qoe:Tryz.prog.cellsOf 51=3:=by kernel_rfl
section
variable{H:Type}{enc:TypeId×Value→H}{w:World}
theorem V5:Rd enc Tryz.prog w 2 1 (fun n:Int=>InK .i64 n) (fun n _=>.val (.int .i64 n)):=Rd.int Tryz.underlying2
theorem qkQ:Rd enc Tryz.prog w 4 1 (fun _:Bool=>True) (fun b _=>.val (.bool b)):=Rd.bool Tryz.underlying4
theorem qmO:Rd enc Tryz.prog w 51 3 (fun _:Int×Int×Int=>True) (fun x j=>[SV.val (.int .i64 x.1),SV.val (.int .i64 x.2.1),SV.val (.int .i64 x.2.2)].getD j .top):=
 (Rd.struct Tryz.underlying51 qoe (RdF.cons Ga ce3 rfl (RdF.cons Ga ce3 rfl (RdF.cons V5 ce2 rfl RdF.nil Ωg) Ωg) Ωg) (by simp[ce2,ce3,List.range_succ])).map
  (fun x=>(x.1,x.2.1,x.2.2.1)) (fun a _=>⟨trivial,fun j hj=>by
  rcases(Ω:j=0∨j=1∨j=2)with rfl|rfl|rfl<;>rfl⟩)
theorem qkR:Rd enc Tryz.prog w 46 1 (fun x:Nat×(Nat→Int×Int×Int)=>x.1≤maxLen∧∀i,i<x.1→True) (fun x _=>qJ x.1 (fun i=>(x.2 i).1) (fun i=>(x.2 i).2.1) (fun i=>(x.2 i).2.2)):=
 Rd.slice Tryz.underlying46 qoe Ω qmO
theorem rd_book:Rd enc Tryz.prog w 48 8 (fun x:Int×Int×(Nat×(Nat→Int×Int×Int))×(Nat×(Nat→Int))×Bool×Int×Int×Int=>InK .i64 x.2.2.2.2.2.2.1) (fun x j=>[SV.val (.int .i64 x.1),SV.val (.int .i64 x.2.1),qJ x.2.2.1.1 (fun i=>(x.2.2.1.2 i).1) (fun i=>(x.2.2.1.2 i).2.1) (fun i=>(x.2.2.1.2 i).2.2),.arr false false x.2.2.2.1.1 1 (fun i _=>.val (.int .i64 (x.2.2.2.1.2 i))),.val (.bool x.2.2.2.2.1),.val (.int .i64 x.2.2.2.2.2.1),.val (.int .i64 x.2.2.2.2.2.2.1),.val (.int .i64 x.2.2.2.2.2.2.2)].getD j .top):=
 (Rd.struct Tryz.underlying48 qpJ (RdF.cons Ga ce3 rfl (RdF.cons Ga ce3 rfl (RdF.cons qkR qod rfl (RdF.cons qje qne rfl (RdF.cons qkQ ce4 rfl (RdF.cons V5 ce2 rfl (RdF.cons V5 ce2 rfl (RdF.cons V5 ce2 rfl RdF.nil Ωg) Ωg) Ωg) Ωg) Ωg) Ωg) Ωg) Ωg) (by simp[ce2,ce3,ce4,qne,qod,List.range_succ])).map
  (fun x=>(x.1,x.2.1,x.2.2.1,x.2.2.2.1,x.2.2.2.2.1,x.2.2.2.2.2.1,x.2.2.2.2.2.2.1,x.2.2.2.2.2.2.2.1)) (fun a ha=>⟨ha.2.2.2.2.2.2.1,fun j hj=>by
  rcases(Ω:j=0∨j=1∨j=2∨j=3∨j=4∨j=5∨j=6∨j=7)with rfl|rfl|rfl|rfl|rfl|rfl|rfl|rfl<;>rfl⟩)
theorem qiG{r:Reach}{b0:Nat}{v:Value}{d:DataW H}{ps:List MemPlace}(hv:Value.okWide Tryz.prog w r b0 48 v)(h:DataW.Trod enc Tryz.prog w 0 (fun _=>true) true 48 v d ps) :
  ∃(k n:Int)(nb:Nat)(f g q:Nat→Int)(ns:Nat)(s:Nat→Int)(fav:Bool)(c du st:Int),InK .i64 du∧Rep noR noN (Gin w) w (gbk k n nb f g q ns s fav c du st) v:=by
 obtain⟨cs,e,_⟩:=okWide_struct Tryz.underlying48 hv;obtain⟨x,hx,hr⟩:=rd_book.agg e h;exact⟨x.1,x.2.1,x.2.2.1.1,_,_,_,x.2.2.2.1.1,x.2.2.2.1.2,x.2.2.2.2.1,x.2.2.2.2.2.1,x.2.2.2.2.2.2.1,x.2.2.2.2.2.2.2,hx,hr⟩
end
end Go.Tn
end
