/- A part of the proof. -/
import Derived.Test.YtacejomniokahaaGreatPD
import Derived.Test.YtacejomniokahaaGreatPL
import Derived.Test.YtacejomniokahaaGreatPY
set_option linter.unusedVariables false
set_option linter.unusedSimpArgs false
set_option maxRecDepth 1000000
set_option maxHeartbeats 16000000
section
namespace Go.Tn
open Go.Proofs
open Go.Sx Go.RowKit Go.ChangeShapes Go.WideShapes Go.ChangeAt
theorem ce2:Tryz.prog.cellsOf 2=1:=by kernel_rfl
theorem ce4:Tryz.prog.cellsOf 4=1:=by kernel_rfl
theorem qrf:Tryz.prog.cellsOf 46=1:=by kernel_rfl
theorem qsE:Tryz.prog.cellsOf 48=8:=by kernel_rfl
theorem qrg:Tryz.prog.cellsOf 51=3:=by kernel_rfl
section
variable{H:Type}{enc:TypeId×Value→H}{w:World}
theorem W8:Rd enc Tryz.prog w 2 1 (λn:Int=>InK .i64 n) (λn _=>.val (.int .i64 n)):=Rd.int Tryz.underlying2
theorem qnA:Rd enc Tryz.prog w 4 1 (λ_:Bool=>True) (λb _=>.val (.bool b)):=Rd.bool Tryz.underlying4
theorem qpQ:Rd enc Tryz.prog w 51 3 (λ_:Int×Int×Int=>True) (λx j=>[SV.val (.int .i64 x.1),SV.val (.int .i64 x.2.1),SV.val (.int .i64 x.2.2)].getD j .top):=
 (Rd.struct Tryz.underlying51 qrg (RdF.cons GR ce3 rfl (RdF.cons GR ce3 rfl (RdF.cons W8 ce2 rfl RdF.nil Ωg) Ωg) Ωg) (by simp[ce2,ce3,List.range_succ])).map
  (λx=>(x.1,x.2.1,x.2.2.1)) (λa _=>⟨trivial,λj hj=>by
  rcases(Ω:j=0∨j=1∨j=2)with rfl|rfl|rfl<;>rfl⟩)
theorem qnB:Rd enc Tryz.prog w 46 1 (λx:Nat×(Nat→Int×Int×Int)=>x.1≤maxLen∧∀i,i<x.1→True) (λx _=>za x.1 (λi=>(x.2 i).1) (λi=>(x.2 i).2.1) (λi=>(x.2 i).2.2)):=
 Rd.slice Tryz.underlying46 qrg Ω qpQ
theorem rd_book:Rd enc Tryz.prog w 48 8 (λx:Int×Int×(Nat×(Nat→Int×Int×Int))×(Nat×(Nat→Int))×Bool×Int×Int×Int=>InK .i64 x.2.2.2.2.2.2.1) (λx j=>[SV.val (.int .i64 x.1),SV.val (.int .i64 x.2.1),za x.2.2.1.1 (λi=>(x.2.2.1.2 i).1) (λi=>(x.2.2.1.2 i).2.1) (λi=>(x.2.2.1.2 i).2.2),.arr false false x.2.2.2.1.1 1 (λi _=>.val (.int .i64 (x.2.2.2.1.2 i))),.val (.bool x.2.2.2.2.1),.val (.int .i64 x.2.2.2.2.2.1),.val (.int .i64 x.2.2.2.2.2.2.1),.val (.int .i64 x.2.2.2.2.2.2.2)].getD j .top):=
 (Rd.struct Tryz.underlying48 qsE (RdF.cons GR ce3 rfl (RdF.cons GR ce3 rfl (RdF.cons qnB qrf rfl (RdF.cons qlB qqe rfl (RdF.cons qnA ce4 rfl (RdF.cons W8 ce2 rfl (RdF.cons W8 ce2 rfl (RdF.cons W8 ce2 rfl RdF.nil Ωg) Ωg) Ωg) Ωg) Ωg) Ωg) Ωg) Ωg) (by simp[ce2,ce3,ce4,qqe,qrf,List.range_succ])).map
  (λx=>(x.1,x.2.1,x.2.2.1,x.2.2.2.1,x.2.2.2.2.1,x.2.2.2.2.2.1,x.2.2.2.2.2.2.1,x.2.2.2.2.2.2.2.1)) (λa ha=>⟨ha.2.2.2.2.2.2.1,λj hj=>by
  rcases(Ω:j=0∨j=1∨j=2∨j=3∨j=4∨j=5∨j=6∨j=7)with rfl|rfl|rfl|rfl|rfl|rfl|rfl|rfl<;>rfl⟩)
theorem qkY{r:Reach}{b0:Nat}{v:Value}{d:DataW H}{ps:List MemPlace}(hv:Value.okWide Tryz.prog w r b0 48 v)(h:DataW.Trod enc Tryz.prog w 0 (λ_=>true) true 48 v d ps) :
  ∃(k n:Int)(nb:Nat)(f g q:Nat→Int)(ns:Nat)(s:Nat→Int)(fav:Bool)(c du st:Int),InK .i64 du∧Rep noR noN (Gin w) w (gbk k n nb f g q ns s fav c du st) v:=by
 obtain⟨cs,e,_⟩:=okWide_struct Tryz.underlying48 hv;obtain⟨x,hx,hr⟩:=rd_book.agg e h;exact⟨x.1,x.2.1,x.2.2.1.1,_,_,_,x.2.2.2.1.1,x.2.2.2.1.2,x.2.2.2.2.1,x.2.2.2.2.2.1,x.2.2.2.2.2.2.1,x.2.2.2.2.2.2.2,hx,hr⟩
end
end Go.Tn
end
section
namespace Go.Tn
open Go.Proofs
open Go.Sx Go.RowKit Go.ChangeShapes Go.WideShapes Go.ChangeAt
theorem qoi:Tryz.prog.cellsOf 113=3*1:=by kernel_rfl
section
variable{H:Type}{enc:TypeId×Value→H}{w:World}
theorem qkZ:Rd enc Tryz.prog w 5 1 (λn:Nat=>n<256) (λn _=>.val (.int .u8 (n:Nat))):=
 (Rd.int Tryz.underlying5).map (λn:Int=>n.toNat) (λn hn=>by
  have:=qqf hn;refine⟨Ω,λj _=>?_⟩;rw[Int.toNat_of_nonneg this.1])
theorem qnC{r:Reach}{b0:Nat}{v:Value}{d:DataW H}{ps:List MemPlace}(hv:Value.okWide Tryz.prog w r b0 25 v)(h:DataW.Trod enc Tryz.prog w 0 (λ_=>true) true 25 v d ps) :
  ∃t:Nat×(Nat→Nat),(∀i,i<t.1→t.2 i<256)∧Rep noR noN (Gin w) w (.arr false false t.1 1 (λi _=>.val (.int .u8 (t.2 i:Nat)))) v:=by
 obtain⟨a,n,c,rfl⟩:=okWide_slice Tryz.underlying25 hv;obtain⟨x,hx,hr⟩:=(Rd.slice (α:=Nat) Tryz.underlying25 ce5 Ω qkZ).one rfl h;exact⟨x,λi hi=>hx.2 i hi,hr⟩
theorem qnD{r:Reach}{b0:Nat}{v:Value}{d:DataW H}{ps:List MemPlace}(hv:Value.okWide Tryz.prog w r b0 111 v)(h:DataW.Trod enc Tryz.prog w 0 (λ_=>true) true 111 v d ps) :
  ∃(m:Nat)(x y z:Nat→Nat),(∀i,i<m→x i<256∧y i<256∧z i<256)∧Rep noR noN (Gin w) w (cn3 m x y z) v:=by
 obtain⟨a,n,c,rfl⟩:=okWide_slice Tryz.underlying111 hv;have:Inhabited (Nat→Nat):=⟨λ_=>0⟩;have rd:Rd enc Tryz.prog w 113 3 (λx:Nat×Nat×Nat=>x.1<256∧x.2.1<256∧x.2.2<256) (λx j=>[SV.val (.int .u8 (x.1:Nat)),.val (.int .u8 (x.2.1:Nat)),.val (.int .u8 (x.2.2:Nat))].getD j .top):=
  (Rd.array Tryz.underlying113 ce5 Ω qoi qkZ).map (λa=>(a 0,a 1,a 2)) (λa ha=>⟨⟨ha 0 Ω,ha 1 Ω,ha 2 Ω⟩,λj hj=>by
   rcases(Ω:j=0∨j=1∨j=2)with rfl|rfl|rfl<;>rfl⟩)
 obtain⟨x,hx,hr⟩:=(Rd.slice (α:=Nat×Nat×Nat) Tryz.underlying111 qoi Ω rd).one rfl h;exact⟨x.1,λi=>(x.2 i).1,λi=>(x.2 i).2.1,λi=>(x.2 i).2.2,λi hi=>hx.2 i hi,hr⟩
end
end Go.Tn
end
