/- A part of the proof. -/
import Derived.Test.YtacejomniokahaaGreatPC
set_option linter.unusedVariables false
set_option linter.unusedSimpArgs false
set_option maxRecDepth 1000000
set_option maxHeartbeats 16000000
section
namespace Go.Tn
open Go.Proofs
open Go.Sx Go.RowKit Go.ChangeShapes Go.WideShapes Go.ChangeAt
theorem laid:laidOutB Tryz.prog=true:=by kernel_rfl
theorem ce3:Tryz.prog.cellsOf 3=1:=by kernel_rfl
theorem ce5:Tryz.prog.cellsOf 5=1:=by kernel_rfl
theorem qnG:Tryz.prog.cellsOf 22=1:=by kernel_rfl
theorem qoz:Tryz.prog.cellsOf 24=1:=by kernel_rfl
theorem qlw{n:Int}(h:InK .u8 n):0≤n∧n<256:=by simp only[InK]at h;omega
section
variable{H:Type}{enc:TypeId×Value→H}{w:World}
theorem qmb:Rd enc Tryz.prog w 3 1 (fun n:Int=>InK .i64 n) (fun n _=>.val (.int .i64 n)):=Rd.int Tryz.underlying3
theorem qjU:Rd enc Tryz.prog w 22 1 (fun x:Nat×(Nat→Int)=>x.1≤maxLen∧∀i,i<x.1→InK .i64 (x.2 i)) (fun x _=>ints x.1 x.2):=
 Rd.slice Tryz.underlying22 ce3 Ω qmb
theorem rd_hall:Rd enc Tryz.prog w 24 1 (fun p:Nat×(Nat→Int)=>p.1≤maxLen) (fun p _=>ints p.1 p.2):=
 (Rd.struct Tryz.underlying24 qoz (RdF.cons qjU qnG rfl RdF.nil Ωi) (by simp[qnG,List.range_succ])).map
  (fun x=>x.1) (fun a ha=>⟨ha.1.1,fun j hj=>by
  obtain rfl:j=0:=by omega
  rfl⟩)
theorem qgP{r:Reach}{b0:Nat}{v:Value}{d:DataW H}{ps:List MemPlace}(hv:Value.okWide Tryz.prog w r b0 24 v)(h:DataW.Trod enc Tryz.prog w 0 (fun _=>true) true 24 v d ps) :
  ∃(m:Nat)(u:Nat→Int),m≤maxLen∧Rep noR noN (Gin w) w (hsv m u) v:=by
 obtain⟨cs,e,_⟩:=okWide_struct Tryz.underlying24 hv;obtain⟨p,hp,hr⟩:=rd_hall.agg e h;exact⟨p.1,p.2,hp,hr⟩
theorem qmc{r:Reach}{b0:Nat}{v:Value}{d:DataW H}{ps:List MemPlace}(hv:Value.okWide Tryz.prog w r b0 5 v)(h:DataW.Trod enc Tryz.prog w 0 (fun _=>true) true 5 v d ps) :
  ∃n:Int,InK .u8 n∧Rep noR noN (Gin w) w (.val (.int .u8 n)) v:=by
 obtain⟨n,rfl⟩:=okWide_int Tryz.underlying5 hv;obtain⟨m,hm,hr⟩:=(Rd.int Tryz.underlying5).one rfl h;cases hr;exact⟨n,hm,.val _⟩
end
end Go.Tn
end
