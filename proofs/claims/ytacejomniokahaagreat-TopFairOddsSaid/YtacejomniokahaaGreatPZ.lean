/- A part of the proof. -/
import Derived.Test.YtacejomniokahaaGreatPD
import Derived.Test.YtacejomniokahaaGreatPP
set_option linter.unusedVariables false
set_option linter.unusedSimpArgs false
set_option maxRecDepth 1000000
set_option maxHeartbeats 16000000
section
namespace Go.Tn
open Go.Proofs
open Go.Sx Go.RowKit Go.ChangeShapes Go.WideShapes Go.ChangeAt
theorem ce2:Tryz.prog.cellsOf 2=1:=by kernel_rfl
theorem ce4:Tryz.prog.cellsOf 4=1:=by kernel_rfl
theorem qrk:Tryz.prog.cellsOf 46=1:=by kernel_rfl
theorem qsk:Tryz.prog.cellsOf 48=8:=by kernel_rfl
theorem qrl:Tryz.prog.cellsOf 51=3:=by kernel_rfl
section
variable{H:Type}{enc:TypeId×Value→H}{w:World}
theorem YJ:Rd enc Tryz.prog w 2 1 (λn:Int=>InK .i64 n) (λn _=>.val (.int .i64 n)):=Rd.int Tryz.underlying2
theorem qnJ:Rd enc Tryz.prog w 4 1 (λ_:Bool=>True) (λb _=>.val (.bool b)):=Rd.bool Tryz.underlying4
theorem qpU:Rd enc Tryz.prog w 51 3 (λ_:Int×Int×Int=>True) (λx j=>[SV.val (.int .i64 x.1),SV.val (.int .i64 x.2.1),SV.val (.int .i64 x.2.2)].getD j .top):=
 (Rd.struct Tryz.underlying51 qrl (RdF.cons Jr ce3 rfl (RdF.cons Jr ce3 rfl (RdF.cons YJ ce2 rfl RdF.nil Ωj) Ωj) Ωj) (by simp[ce2,ce3,List.range_succ])).map
  (λx=>(x.1,x.2.1,x.2.2.1)) (λa _=>⟨trivial,λj hj=>by
  rcases(Ω:j=0∨j=1∨j=2)with rfl|rfl|rfl<;>rfl⟩)
theorem qnK:Rd enc Tryz.prog w 46 1 (λx:Nat×(Nat→Int×Int×Int)=>x.1≤maxLen∧∀i,i<x.1→True) (λx _=>zA x.1 (λi=>(x.2 i).1) (λi=>(x.2 i).2.1) (λi=>(x.2 i).2.2)):=
 Rd.slice Tryz.underlying46 qrl Ω qpU
theorem rd_book:Rd enc Tryz.prog w 48 8 (λx:Int×Int×(Nat×(Nat→Int×Int×Int))×(Nat×(Nat→Int))×Bool×Int×Int×Int=>InK .i64 x.2.2.2.2.2.2.1) (λx j=>[SV.val (.int .i64 x.1),SV.val (.int .i64 x.2.1),zA x.2.2.1.1 (λi=>(x.2.2.1.2 i).1) (λi=>(x.2.2.1.2 i).2.1) (λi=>(x.2.2.1.2 i).2.2),.arr false false x.2.2.2.1.1 1 (λi _=>.val (.int .i64 (x.2.2.2.1.2 i))),.val (.bool x.2.2.2.2.1),.val (.int .i64 x.2.2.2.2.2.1),.val (.int .i64 x.2.2.2.2.2.2.1),.val (.int .i64 x.2.2.2.2.2.2.2)].getD j .top):=
 (Rd.struct Tryz.underlying48 qsk (RdF.cons Jr ce3 rfl (RdF.cons Jr ce3 rfl (RdF.cons qnK qrk rfl (RdF.cons qmb qqj rfl (RdF.cons qnJ ce4 rfl (RdF.cons YJ ce2 rfl (RdF.cons YJ ce2 rfl (RdF.cons YJ ce2 rfl RdF.nil Ωj) Ωj) Ωj) Ωj) Ωj) Ωj) Ωj) Ωj) (by simp[ce2,ce3,ce4,qqj,qrk,List.range_succ])).map
  (λx=>(x.1,x.2.1,x.2.2.1,x.2.2.2.1,x.2.2.2.2.1,x.2.2.2.2.2.1,x.2.2.2.2.2.2.1,x.2.2.2.2.2.2.2.1)) (λa ha=>⟨ha.2.2.2.2.2.2.1,λj hj=>by
  rcases(Ω:j=0∨j=1∨j=2∨j=3∨j=4∨j=5∨j=6∨j=7)with rfl|rfl|rfl|rfl|rfl|rfl|rfl|rfl<;>rfl⟩)
theorem qlC{r:Reach}{b0:Nat}{v:Value}{d:DataW H}{ps:List MemPlace}(hv:Value.okWide Tryz.prog w r b0 48 v)(h:DataW.Trod enc Tryz.prog w 0 (λ_=>true) true 48 v d ps) :
  ∃(k n:Int)(nb:Nat)(f g q:Nat→Int)(ns:Nat)(s:Nat→Int)(fav:Bool)(c du st:Int),InK .i64 du∧Rep noR noN (Gin w) w (gbk k n nb f g q ns s fav c du st) v:=by
 obtain⟨cs,e,_⟩:=okWide_struct Tryz.underlying48 hv;obtain⟨x,hx,hr⟩:=rd_book.agg e h;exact⟨x.1,x.2.1,x.2.2.1.1,_,_,_,x.2.2.2.1.1,x.2.2.2.1.2,x.2.2.2.2.1,x.2.2.2.2.2.1,x.2.2.2.2.2.2.1,x.2.2.2.2.2.2.2,hx,hr⟩
end
end Go.Tn
end
