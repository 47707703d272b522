/- A part of the proof. -/
import Derived.Test.YtacejomniokahaaGreatPE
import Derived.Test.YtacejomniokahaaGreatPC
open Nat renaming zero_le→xb6
open Bool renaming false_or→xf4
set_option linter.unusedVariables false
set_option linter.unusedSimpArgs false
set_option linter.defProp false
set_option maxRecDepth 1000000
set_option maxHeartbeats 16000000
section
namespace Go.Tv
open Go.Proofs
open Go.Sx
variable{a b k:Int}
theorem ql:True∧qk Tryz.prog 2=some ⟨false,1,some [.int .i64 0],.int .i64⟩∧qk Tryz.prog 3=some ⟨false,1,some [.int .i64 0],.int .i64⟩∧qk Tryz.prog 4=some ⟨false,1,some [.bool false],.bool⟩∧qk Tryz.prog 5=some ⟨false,1,some [.int .u8 0],.int .u8⟩∧qk Tryz.prog 22=some ⟨false,1,some [.slice none 0 0],.slice 3 1⟩∧qk Tryz.prog 28=some ⟨false,1,some [.int .i64 0],.int .i64⟩∧qk Tryz.prog 32=some ⟨false,1,some [.slice none 0 0],.slice 2 1⟩∧qk Tryz.prog 68=some ⟨true,2,some [.int .i64 0,.int .i64 0],.struct [(0,1,some false),(1,1,some false)]⟩∧qw Tryz.prog 68=some [(0,1),(1,1)]∧zE Tryz.prog 68=some [.i .i64,.i .i64]∧qk Tryz.prog 71=some ⟨false,1,some [.slice none 0 0],.slice 99 2⟩∧qk Tryz.prog 73=some ⟨true,2,some [.slice none 0 0,.int .i64 0],.struct [(0,1,some false),(1,1,some false)]⟩∧qw Tryz.prog 73=some [(0,1),(1,1)]∧qk Tryz.prog 82=some ⟨false,1,some [.slice none 0 0],.slice 87 4⟩∧qk Tryz.prog 84=some ⟨true,2,some [.int .i64 0,.slice none 0 0],.struct [(0,1,some false),(1,1,some false)]⟩∧qw Tryz.prog 84=some [(0,1),(1,1)]∧qk Tryz.prog 87=some ⟨true,4,some [.int .i64 0,.int .i64 0,.int .i64 0,.bool false],.struct [(0,1,some false),(1,1,some false),(2,1,some false),(3,1,some false)]⟩∧qw Tryz.prog 87=some [(0,1),(1,1),(2,1),(3,1)]∧zE Tryz.prog 87=some [.i .i64,.i .i64,.i .i64,.b]∧qk Tryz.prog 99=some ⟨true,2,some [.int .i64 0,.int .i64 0],.struct [(0,1,some false),(1,1,some false)]⟩∧qw Tryz.prog 99=some [(0,1),(1,1)]∧zE Tryz.prog 99=some [.i .i64,.i .i64]∧qk Tryz.prog 175=some ⟨false,1,some [.pointer none],.other⟩∧qk Tryz.prog 309=some ⟨false,1,some [.map none],.map 315 3⟩∧qD Tryz.prog 309=some ⟨true,[.i .i64,.b],.val (.int .i64 0)⟩∧qk Tryz.prog 311=some ⟨true,10,some [.int .i64 0,.int .i64 0,.int .i64 0,.int .i64 0,.int .i64 0,.int .i64 0,.int .i64 0,.int .i64 0,.int .i64 0,.int .i64 0],.array 5 68 2⟩∧qw Tryz.prog 311=some [(0,2),(2,2),(4,2),(6,2),(8,2)]∧zE Tryz.prog 311=some [.i .i64,.i .i64,.i .i64,.i .i64,.i .i64,.i .i64,.i .i64,.i .i64,.i .i64,.i .i64]∧qk Tryz.prog 313=some ⟨true,23,some [.int .i64 0,.slice none 0 0,.int .i64 0,.int .i64 0,.int .i64 0,.int .i64 0,.int .i64 0,.int .i64 0,.int .i64 0,.int .i64 0,.int .i64 0,.int .i64 0,.int .i64 0,.int .i64 0,.int .i64 0,.int .i64 0,.int .i64 0,.int .i64 0,.int .i64 0,.int .i64 0,.int .i64 0,.int .i64 0,.map none],.struct [(0,2,some true),(2,10,some true),(12,10,some true),(22,1,some false)]⟩∧qw Tryz.prog 313=some [(0,2),(2,10),(12,10),(22,1)]∧qk Tryz.prog 315=some ⟨true,2,some [.int .i64 0,.bool false],.struct [(0,1,some false),(1,1,some false)]⟩∧qw Tryz.prog 315=some [(0,1),(1,1)]∧zE Tryz.prog 315=some [.i .i64,.b]∧qk Tryz.prog 318=some ⟨false,1,some [.slice none 0 0],.slice 68 2⟩∧qE Tryz.prog 2=8∧qE Tryz.prog 3=8∧qE Tryz.prog 68=16∧qE Tryz.prog 87=32:=⟨trivial,Ωb,Ωb,Ωb,Ωb,Ωb,Ωb,Ωb,Ωb,Ωb,Ωb,Ωb,Ωb,Ωb,Ωb,Ωb,Ωb,Ωb,Ωb,Ωb,Ωb,Ωb,Ωb,Ωb,Ωb,Ωb,Ωb,Ωb,Ωb,Ωb,Ωb,Ωb,Ωb,Ωb,Ωb,Ωb,Ωb,Ωb,Ωb⟩
theorem VY:qD Tryz.prog 309=some ⟨true,[Lf.i .i64,Lf.b],.val (.int .i64 0)⟩:=by kernel_rfl
def lt(a b:Fr):Prop:=a.n*b.d<b.n*a.d
instance(a b:Fr):Decidable (lt a b):=by unfold lt;infer_instance
def le(a b:Fr):Prop:=a.n*b.d≤b.n*a.d
theorem not_lt{a b:Fr}:¬lt a b↔le b a:=by unfold lt le;omega
theorem qjt(hk:0<k)(h:k*a≤k*b):a≤b:=Int.le_of_mul_le_mul_left h hk
theorem Yd(hk:0≤k)(h:a≤b):k*a≤k*b:=Int.mul_le_mul_of_nonneg_left h hk
theorem qoM(hk:0<k)(h:a<b):k*a<k*b:=Int.mul_lt_mul_of_pos_left h hk
theorem KV{a b c:Fr}(ha:0<a.d)(hb:0<b.d)(hc:0<c.d)(h1:le a b)(h2:lt b c):lt a c:=by
 unfold lt le at *;refine qcS hb ?_;have k1:=Yd (k:=c.d) Ω h1;have k2:=qoM (k:=a.d) ha h2;have e1:b.d*(a.n*c.d)=c.d*(a.n*b.d):=by grind
 have e2:c.d*(b.n*a.d)=a.d*(b.n*c.d):=by grind
 have e3:a.d*(c.n*b.d)=b.d*(c.n*a.d):=by grind
 omega
structure Uni(lo hi:Fr):Prop where
 ld:0<lo.d
 hd:0<hi.d
 one:hi.n*lo.d - lo.n*hi.d=1
theorem KW{lo hi:Fr}(u:Uni lo hi)(x:Fr)(h1:lt lo x)(h2:lt x hi):lo.d+hi.d≤x.d:=by
 have h:=u.one;have hb:=u.ld;have hd:=u.hd;unfold lt at h1 h2;have h3:x.d=lo.d*(hi.n*x.d - x.n*hi.d)+hi.d*(x.n*lo.d - lo.n*x.d):=by grind
 have h4:lo.d*1≤lo.d*(hi.n*x.d - x.n*hi.d):=Yd Ω Ω;have h5:hi.d*1≤hi.d*(x.n*lo.d - lo.n*x.d):=Yd Ω Ω;omega
end Go.Tv
end
section
namespace Go.Tv
open Go.Sx
structure qqx(r:Fr)(Q:Int)(lo hi:Fr):Prop where
 ld:0<lo.d
 hd:0<hi.d
 lq:lo.d≤Q
 hq:hi.d≤Q
 lr:le lo r
 hr:lt r hi
 lo:∀x:Fr,0<x.d→x.d≤Q→le x r→le x lo
 hi:∀x:Fr,0<x.d→x.d≤Q→lt r x→le hi x
theorem VZ{a b:Int}(ha:0≤a)(hb:0<b):0≤a.tdiv b∧a.tdiv b*b≤a∧a<(a.tdiv b+1)*b:=by
 rw[Int.tdiv_eq_ediv_of_nonneg ha];have h1:=Int.emod_add_mul_ediv a b;have h2:=Int.emod_nonneg a (Ω:b≠0);have h3:=Int.emod_lt_of_pos a hb;have h4:=Int.ediv_nonneg ha (Ω:0≤b);refine⟨h4,?_,?_⟩
 ·rw[Int.mul_comm];omega
 ·rw[Int.add_mul,Int.mul_comm (a / b)];omega
def sb(r:Fr)(step:Int):Nat→Fr→Fr→Fr×Fr
 |0,lo,hi=>(lo,hi)
 |k+1,lo,hi=>if step<lo.d+hi.d then(lo,hi)else if lt r ⟨lo.n+hi.n,lo.d+hi.d⟩then sb r step k lo ⟨lo.n+hi.n,lo.d+hi.d⟩else sb r step k ⟨lo.n+hi.n,lo.d+hi.d⟩ hi
structure Cl(r:Fr)(step:Int)(lo hi:Fr):Prop where
 u:Uni lo hi
 lq:lo.d≤step
 hq:hi.d≤step
 lr:le lo r
 hr:lt r hi
theorem qju(r:Fr)(step:Int):∀(k:Nat)(lo hi:Fr),Cl r step lo hi→step<lo.d+hi.d+k→Cl r step (sb r step k lo hi).1 (sb r step k lo hi).2∧step<(sb r step k lo hi).1.d+(sb r step k lo hi).2.d
 |0,lo,hi,h,hs=>⟨h,by simp only[sb];omega⟩
 |k+1,lo,hi,h,hs=>by
  have h1:=h.u.ld;have h2:=h.u.hd;have h3:=h.u.one;simp only[sb];split
  ·rename_i hc;exact⟨h,hc⟩
  ·rename_i hc
   split
   ·rename_i hl
    refine qju r step k lo _ ⟨⟨h1,(by show 0<lo.d+hi.d;omega),?_⟩,h.lq,(by show lo.d+hi.d≤step;omega),h.lr,hl⟩ (by show step<lo.d+(lo.d+hi.d)+k;omega);show(lo.n+hi.n)*lo.d - lo.n*(lo.d+hi.d)=1;rw[←h3];grind
   ·rename_i hl
    refine qju r step k _ hi ⟨⟨(by show 0<lo.d+hi.d;omega),h2,?_⟩,(by show lo.d+hi.d≤step;omega),h.hq,not_lt.1 hl,h.hr⟩ (by show step<lo.d+hi.d+hi.d+k;omega);show hi.n*(lo.d+hi.d) -(lo.n+hi.n)*hi.d=1;rw[←h3];grind
theorem qmv{r:Fr}{step:Int}{lo hi:Fr}(hd:0<r.d)(h:Cl r step lo hi)(hs:step<lo.d+hi.d):qqx r step lo hi:=by
 refine⟨h.u.ld,h.u.hd,h.lq,h.hq,h.lr,h.hr,λx x0 xq xr=>?_,λx x0 xq xr=>?_⟩
 ·by_cases hx:lt lo x
  ·have:=KW h.u x hx (KV x0 hd h.u.hd xr h.hr)
   omega
  ·exact not_lt.1 hx
 ·by_cases hx:lt x hi
  ·have:=KW h.u x (KV h.u.ld hd x0 h.lr xr) hx
   omega
  ·exact not_lt.1 hx
def start(r:Fr):Fr×Fr:=(⟨r.n.tdiv r.d,1⟩,⟨r.n.tdiv r.d+1,1⟩)
end Go.Tv
end
section
namespace Go.Tv
open Go.Sx
def qO(a b:Fr):Fr:=red ⟨a.n*b.d+b.n*a.d,a.d*b.d⟩
theorem KA{a b:Fr}(ha:0<a.d)(hb:0<b.d):0<(qO a b).d∧(qO a b).n*(a.d*b.d)=(a.n*b.d+b.n*a.d)*(qO a b).d:=by
 have h:=red_spec (a:=⟨a.n*b.d+b.n*a.d,a.d*b.d⟩) (Int.mul_pos ha hb);exact⟨h.1,h.2.2.1⟩
end Go.Tv
end
section
namespace Go.Tv
open Go.Proofs
open Go.Sx
theorem qaR(a b:Fr)(h1:InK .i64 (a.n*b.d))(h2:InK .i64 (b.n*a.d)):qb Tryz.prog 204 [fsv a,fsv b] (B (decide (lt a b))):=by
 refine qc Tryz.func204 rfl Ωb follows Ωb _ _ (by rw[Tryz.ntmps204];simp) (by simp[OldL,Old,fsv,I]) ?_;simp only[InK]at h1 h2;unfold B lt
 conv=>arg 4;unfold fsv I
 repeat' first|refine sD ?_ ?_<;>intro _|refine aA ?_|simp -dsimp only[↓RP,RQ,seval,fsv,B,I,ql,RZ,eq_self,Tryz.results204]
 all_goals (simp only[InK];omega)
end Go.Tv
end
section
namespace Go.Tv
open Go.Sx
theorem Ye(a:Fr):Old (fsv a):=by simp[Old,OldL,fsv,I]
end Go.Tv
end
section
namespace Go.Tv
open Go.Proofs
open Go.Sx
def clI(r:Fr)(k:Nat)(z:Nat×(Fr×Fr)×(Fr×Fr)):Prop:=
 1≤z.2.1.1.d∧z.2.1.1.d≤(k+1:Nat)∧1≤z.2.1.2.d∧z.2.1.2.d≤(k+1:Nat)∧0≤z.2.1.1.n∧z.2.1.1.n≤(r.n.tdiv r.d+1)*z.2.1.1.d∧0≤z.2.1.2.n∧z.2.1.2.n≤(r.n.tdiv r.d+1)*z.2.1.2.d∧((k+1:Nat):Int)<z.2.1.1.d+z.2.1.2.d+z.1∧sb r (k+1:Nat) z.1 z.2.1.1 z.2.1.2=sb r (k+1:Nat) (k+1) (start r).1 (start r).2
theorem qgF(r:Fr)(k:Nat)(h:0≤r.n.tdiv r.d):clI r k (k+1,start r,(⟨0,0⟩,⟨0,0⟩)):=by
 refine⟨?_,?_,?_,?_,?_,?_,?_,?_,?_,rfl⟩<;>simp only[start]<;>omega
theorem qru(r:Fr)(hn:0≤r.n)(hn2:r.n≤100000000000)(hd:0<r.d)(hd2:r.d≤100000000000)(k:Nat)(hk:k≤99):qb Tryz.prog 205 [fsv r,I (k+1:Nat)] (.tup [fsv (sb r (k+1:Nat) (k+1) (start r).1 (start r).2).1,fsv (sb r (k+1:Nat) (k+1) (start r).1 (start r).2).2]):=by
 refine gp (kE 5 [(9,6)] 6 [(7,4)]) Tryz.func205 rfl Ωb follows Ωb _ _ (by rw[Tryz.ntmps205];simp) (by simp only[OldL,Ye,and_self,true_and];simp[Old,I]) ?_;have⟨t0,t1,t2⟩:=VZ hn hd;have t3:r.n.tdiv r.d*1≤r.n.tdiv r.d*r.d:=Yd t0 Ω
 conv=>arg 4;unfold fsv I
 (repeat' first|refine sD ?_ ?_<;>intro _|refine aA ?_|simp -dsimp only[↓RP,RQ,seval,ki,kj,ko,Tryz.results305,Tryz.results360,fsv,B,I,ql,RZ,eq_self,Tryz.results205]);refine qqe follows ΩC Tryz.func305 rfl Ωb Ωb (by rw[Tryz.ntmps305];simp) λout=>?_;(repeat' first|refine sD ?_ ?_<;>intro _|refine aA ?_|simp -dsimp only[↓RP,RQ,seval,ki,kj,ko,Tryz.results305,Tryz.results360,fsv,B,I,ql,RZ,eq_self,Tryz.results205]);refine qma (ps:=[13,14]) follows ΩC Tryz.func360 rfl Ωb Ωb (by rw[Tryz.results360]) (by rw[Tryz.ntmps360];simp) λout L R=>?_;(repeat' first|refine sD ?_ ?_<;>intro _|refine aA ?_|simp -dsimp only[↓RP,RQ,seval,ki,kj,ko,Tryz.results305,Tryz.results360,fsv,B,I,ql,RZ,eq_self,Tryz.results205]);refine qo (λ(z:Nat×(Fr×Fr)×(Fr×Fr))=>clI r k z) (λz=>⟨[(0,.yld 15),(1,.ptr 7 0),(2,.ptr 8 0),(5,.ptr 27 0),(6,.ptr 28 0)],
   [(28,.cells 68 [.val (.int .i64 z.2.1.2.n),.val (.int .i64 z.2.1.2.d)]),(27,.cells 68 [.val (.int .i64 z.2.1.1.n),.val (.int .i64 z.2.1.1.d)]),(15,.loop L .ready),(8,.cells 2 [.val (.int .i64 (k+1:Nat))]),(7,.cells 68 [.val (.int .i64 r.n),.val (.int .i64 r.d)]),
    (4,.cells 68 [.val (.int .i64 z.2.2.2.n),.val (.int .i64 z.2.2.2.d)]),(3,.cells 68 [.val (.int .i64 z.2.2.1.n),.val (.int .i64 z.2.2.1.d)]),(2,.cells 68 [.val (.int .i64 0),.val (.int .i64 0)]),(1,.cells 68 [.val (.int .i64 0),.val (.int .i64 0)]),(0,.cells 68 [.val (.int .i64 r.n),.val (.int .i64 r.d)])],31⟩) (λz=>z.1) (k+1,start r,(⟨0,0⟩,⟨0,0⟩)) (qgF r k t0) (weak [] [] ?_ ?_ ?_ rfl) λz hz=>?_
 ·(simp -dsimp only[↓RP,RQ,seval]);all_goals simp
 ·(simp -dsimp only[↓RP,RQ,seval,start]);all_goals simp
 ·(simp -dsimp only[↓RP,RQ,seval]);all_goals simp
 obtain⟨m,⟨lo,hi⟩,a,b⟩:=z;obtain⟨b1,b2,b3,b4,b5,b6,b7,b8,b9,b10⟩:=hz;simp only[]at b1 b2 b3 b4 b5 b6 b7 b8 b9 b10 ⊢;have p1:=gv (r.n.tdiv r.d+1) lo.d 100000000001 100 Ω Ω Ω Ω;have p2:=gv (r.n.tdiv r.d+1) hi.d 100000000001 100 Ω Ω Ω Ω;have n1:lo.n+hi.n≤(r.n.tdiv r.d+1)*(lo.d+hi.d):=by rw[Int.mul_add];omega
 have n2:(lo.n+hi.n)*r.d≤(r.n.tdiv r.d+1)*(lo.d+hi.d)*r.d:=Int.mul_le_mul_of_nonneg_right n1 Ω;have n3:(r.n.tdiv r.d+1)*(lo.d+hi.d)*r.d=((r.n.tdiv r.d+1)*r.d)*(lo.d+hi.d):=by grind
 have n5:(r.n.tdiv r.d+1)*r.d=r.n.tdiv r.d*r.d+r.d:=by grind
 have n6:0≤(r.n.tdiv r.d+1)*r.d:=Int.mul_nonneg Ω Ω;have n4:=gv ((r.n.tdiv r.d+1)*r.d) (lo.d+hi.d) 200000000000 200 n6 Ω Ω Ω;have n0:0≤(lo.n+hi.n)*r.d:=Int.mul_nonneg Ω Ω;have n7:=gv r.n (lo.d+hi.d) 100000000000 200 hn Ω hn2 Ω;by_cases hs:((k+1:Nat):Int)<lo.d+hi.d
 ·have e:sb r (k+1:Nat) m lo hi=(lo,hi):=by
   cases m with
   |zero=>rfl
   |succ m=>simp only[sb];rw[if_pos hs]
  rw[←b10,e];(repeat' first|refine sD ?_ ?_<;>intro _|refine aA ?_|simp -dsimp only[↓RP,RQ,seval,ki,kj,ko,Tryz.results305,Tryz.results360,fsv,B,I,ql,RZ,eq_self,Tryz.results205]);refine qdK follows ΩC R ΩC ΩC λout2=>?_;repeat' first|refine sD ?_ ?_<;>intro _|refine aA ?_|simp -dsimp only[↓RP,RQ,seval,ki,kj,ko,Tryz.results305,Tryz.results360,fsv,B,I,ql,RZ,eq_self,Tryz.results205]
  all_goals (exfalso;omega)
 ·obtain⟨m,rfl⟩:∃m',m=m'+1:=⟨m - 1,Ω⟩
  simp only[sb]at b10;rw[if_neg hs]at b10;(repeat' first|refine sD ?_ ?_<;>intro _|refine aA ?_|simp -dsimp only[↓RP,RQ,seval,ki,kj,ko,Tryz.results305,Tryz.results360,fsv,B,I,ql,RZ,eq_self,Tryz.results205]);refine qdK follows ΩC R ΩC ΩC λout2=>?_;repeat' first|refine sD ?_ ?_<;>intro _|refine aA ?_|simp -dsimp only[↓RP,RQ,seval,ki,kj,ko,Tryz.results305,Tryz.results360,fsv,B,I,ql,RZ,eq_self,Tryz.results205]
  all_goals try(exfalso;omega)
  refine qh (qaR r ⟨lo.n+hi.n,lo.d+hi.d⟩ Ωz Ωz) Ωf Ωc ?_;repeat' first|refine sD ?_ ?_<;>intro _|refine aA ?_|simp -dsimp only[↓RP,RQ,seval,ki,kj,ko,Tryz.results305,Tryz.results360,fsv,B,I,ql,RZ,eq_self,Tryz.results205]
  ·rename_i hl
   rw[if_pos hl]at b10;refine⟨(m,(lo,⟨lo.n+hi.n,lo.d+hi.d⟩),(lo,hi)),⟨b1,b2,(by show 1≤lo.d+hi.d;omega),(by show lo.d+hi.d≤_;omega),b5,b6,(by show 0≤lo.n+hi.n;omega),n1,by show _<lo.d+(lo.d+hi.d)+(m:Int);omega,b10⟩,(by show m<m+1;omega),weak [] [] ?_ ?_ ?_ rfl⟩
   ·(simp -dsimp only[↓RP,RQ,seval]);all_goals simp
   ·(simp -dsimp only[↓RP,RQ,seval]);all_goals simp
   ·(simp -dsimp only[↓RP,RQ,seval]);all_goals simp
  ·rename_i hl
   rw[if_neg hl]at b10;refine⟨(m,(⟨lo.n+hi.n,lo.d+hi.d⟩,hi),(lo,hi)),⟨(by show 1≤lo.d+hi.d;omega),(by show lo.d+hi.d≤_;omega),b3,b4,(by show 0≤lo.n+hi.n;omega),n1,b7,b8,by show _<lo.d+hi.d+hi.d+(m:Int);omega,b10⟩,(by show m<m+1;omega),weak [] [] ?_ ?_ ?_ rfl⟩
   ·(simp -dsimp only[↓RP,RQ,seval]);all_goals simp
   ·(simp -dsimp only[↓RP,RQ,seval]);all_goals simp
   ·(simp -dsimp only[↓RP,RQ,seval]);all_goals simp
end Go.Tv
end
section
namespace Go.Tv
open Go.Proofs
open Go.Sx
def nb(r:Fr)(s:Int):Fr×Fr:=sb r s s.toNat (start r).1 (start r).2
theorem qrv(r:Fr)(k:Nat):sb r (k+1:Nat) (k+1) (start r).1 (start r).2=nb r (k+1:Nat):=by unfold nb;rw[Int.toNat_natCast]
theorem nb_cl(r:Fr)(s:Int)(hn:0≤r.n)(hd:0<r.d)(hs:1≤s):Cl r s (nb r s).1 (nb r s).2∧s<(nb r s).1.d+(nb r s).2.d:=by
 have⟨_,h1,h2⟩:=VZ hn hd;have c0:Cl r s (start r).1 (start r).2:=by
  refine⟨⟨by show(0:Int)<1;omega,by show(0:Int)<1;omega,?_⟩,by show(1:Int)≤_;omega,by show(1:Int)≤_;omega,?_,?_⟩
  ·show(r.n.tdiv r.d+1)*1 - r.n.tdiv r.d*1=1
   omega
  ·show r.n.tdiv r.d*r.d≤r.n*1
   omega
  ·show r.n*1<(r.n.tdiv r.d+1)*r.d
   omega
 exact qju r s s.toNat _ _ c0 (by show s<1+1+(s.toNat:Int);omega)
theorem qmw(r:Fr)(s:Int)(hn:0≤r.n)(hd:0<r.d)(hs:1≤s):qqx r s (nb r s).1 (nb r s).2:=
 qmv hd (nb_cl r s hn hd hs).1 (nb_cl r s hn hd hs).2
theorem nb_bd(r:Fr)(s T:Int)(hn:0≤r.n)(hd:0<r.d)(hs:1≤s)(hT:r.n≤T*r.d):(0≤(nb r s).1.n∧(nb r s).1.n≤T*(nb r s).1.d∧1≤(nb r s).1.d∧(nb r s).1.d≤s)∧(1≤(nb r s).2.n∧(nb r s).2.n≤(T+1)*(nb r s).2.d∧1≤(nb r s).2.d∧(nb r s).2.d≤s):=by
 have h:=qmw r s hn hd hs;generalize (nb r s).1=lo at *;generalize (nb r s).2=hi at *;have a1:=h.ld;have a2:=h.hd;have a3:=h.lq;have a4:=h.hq;have b1:0≤lo.n:=by
  have:=h.lo ⟨0,1⟩ (by show(0:Int)<1;omega) (by show(1:Int)≤s;omega) (by show 0*r.d≤r.n*1;omega);have e:0*lo.d≤lo.n*1:=this;omega
 have b2:lo.n≤T*lo.d:=by
  have e1:lo.n*r.d≤r.n*lo.d:=h.lr;have e2:r.n*lo.d≤T*r.d*lo.d:=Int.mul_le_mul_of_nonneg_right hT Ω;have e3:r.d*lo.n≤r.d*(T*lo.d):=by
   have:T*r.d*lo.d=r.d*(T*lo.d):=by grind
   have:r.d*lo.n=lo.n*r.d:=Int.mul_comm _ _;omega
  exact qjt hd e3
 have b3:1≤hi.n:=by
  have e1:r.n*hi.d<hi.n*r.d:=h.hr;have e2:0≤r.n*hi.d:=Int.mul_nonneg hn Ω;have e3:r.d*0<r.d*hi.n:=by rw[Int.mul_comm r.d hi.n];omega
  have:=qcS hd e3;omega
 have b4:hi.n≤(T+1)*hi.d:=by
  have:=h.hi ⟨T+1,1⟩ (by show(0:Int)<1;omega) (by show(1:Int)≤s;omega) (by show r.n*1<(T+1)*r.d;rw[Int.add_mul];omega);have e:hi.n*1≤(T+1)*hi.d:=this;omega
 exact⟨⟨b1,b2,a1,a3⟩,b3,b4,a2,a4⟩
theorem qqy(r:Fr)(hn:0≤r.n)(hn2:r.n≤100000000000)(hd:0<r.d)(hd2:r.d≤100000000000)(s:Int)(h1:1≤s)(h2:s≤100):qb Tryz.prog 205 [fsv r,I s] (.tup [fsv (nb r s).1,fsv (nb r s).2]):=by
 obtain⟨k,rfl⟩:∃k:Nat,s=(k+1:Nat):=⟨s.toNat - 1,Ω⟩;rw[←qrv];exact qru r hn hn2 hd hd2 k Ω
end Go.Tv
end
section
namespace Go.Tv
open Go.Proofs
open Go.Sx
def shV(r:Fr)(s:Int):Fr:=if lt ⟨1000,1⟩ r then⟨1000,1⟩else(nb r s).1
theorem shV_hi{r:Fr}{s:Int}(h:lt ⟨1000,1⟩ r):shV r s=⟨1000,1⟩:=by unfold shV;rw[if_pos h]
theorem shV_lo{r:Fr}{s:Int}(h:¬lt ⟨1000,1⟩ r):shV r s=(nb r s).1:=by unfold shV;rw[if_neg h]
theorem qqz(r:Fr)(hn:0≤r.n)(hn2:r.n≤100000000000)(hd:0<r.d)(hd2:r.d≤100000000000)(s:Int)(h1:1≤s)(h2:s≤100):qb Tryz.prog 101 [fsv r,I s] (fsv (shV r s)):=by
 refine qc Tryz.func101 rfl Ωb follows Ωb _ _ (by rw[Tryz.ntmps101];simp) (by simp only[OldL,Ye,and_self,true_and];simp[Old,I]) ?_
 conv=>arg 4;unfold fsv I
 (repeat' first|refine sD ?_ ?_<;>intro _|refine aA ?_|simp -dsimp only[↓RP,RQ,seval,fsv,B,I,ql,RZ,eq_self,Tryz.results101]);refine qh (qaR ⟨1000,1⟩ r Ωz Ωz) Ωf Ωc ?_;repeat' first|refine sD ?_ ?_<;>intro _|refine aA ?_|simp -dsimp only[↓RP,RQ,seval,fsv,B,I,ql,RZ,eq_self,Tryz.results101]
 all_goals try(exfalso;omega)
 ·rename_i h
  rw[shV_hi (h)]
  all_goals first|exact⟨rfl,rfl⟩|exact⟨⟨rfl,rfl⟩,rfl⟩|exact rfl|skip
 ·rename_i h
  rw[shV_lo (h)];refine qh (qqy r hn hn2 hd hd2 s h1 h2) Ωf Ωa ?_;repeat' first|refine sD ?_ ?_<;>intro _|refine aA ?_|simp -dsimp only[↓RP,RQ,seval,fsv,B,I,ql,RZ,eq_self,Tryz.results101]
  all_goals first|exact⟨rfl,rfl⟩|exact⟨⟨rfl,rfl⟩,rfl⟩|exact rfl|skip
end Go.Tv
end
section
namespace Go.Tv
open Go.Sx
theorem one1(v:Int):∀(i j:Nat),i<1→j<1→oneCell ([SV.val (.int .i64 v)].getD (i+j) SV.top)=true:=by
 intro i j hi hj;obtain rfl:i=0:=by omega
 obtain rfl:j=0:=by omega
 rfl
end Go.Tv
end
section
namespace Go.Tv
open Go.Proofs
open Go.Sx
variable{p:Pl}{s:Int}{k:Nat}
theorem qjv{own sum cut:Int}(h1:1≤own)(h2:own≤1000000)(h3:0≤sum)(h4:sum≤20000000)(h5:0≤cut)(h6:cut≤500):0≤(oddV own sum cut).n∧(oddV own sum cut).n≤20000000000∧0<(oddV own sum cut).d∧(oddV own sum cut).d≤1000000000:=by
 have m:=qjr (own:=own) h1 h2 h3 h4 h5 h6;have hs:=red_spec (a:=⟨max 0 ((1000 - cut)*sum - 1000*own),1000*own⟩) (by show 0<1000*own;omega);obtain⟨s1,s2,s3,s4⟩:=hs;unfold oddV;generalize red ⟨max 0 ((1000 - cut)*sum - 1000*own),1000*own⟩=x at *;have s3:x.n*(1000*own)=max 0 ((1000 - cut)*sum - 1000*own)*x.d:=s3;have s4:x.d≤1000*own:=s4;have hy:0≤max 0 ((1000 - cut)*sum - 1000*own)∧max 0 ((1000 - cut)*sum - 1000*own)≤20000000000:=by omega
 generalize max 0 ((1000 - cut)*sum - 1000*own)=y at *;have hn:0≤x.n:=by
  refine Int.not_lt.1 λh=>?_;have e1:x.n*(1000*own)<0:=Int.mul_neg_of_neg_of_pos h Ω;have e2:0≤y*x.d:=Int.mul_nonneg hy.1 Ω;omega
 refine⟨hn,?_,s1,Ω⟩;refine Int.not_lt.1 λh=>?_;have e1:20000000000*(1000*own)<x.n*(1000*own):=Int.mul_lt_mul_of_pos_right h Ω;have e2:y*x.d≤20000000000*(1000*own):=Int.mul_le_mul hy.2 s4 Ω Ω;omega
def Pl.boardOk(p:Pl)(k:Nat)(s:Int):Fr×Fr:=(shV (p.spanOk k).1 s,shV (p.spanOk k).2 s)
def Pl.board(p:Pl)(r s:Int):(Fr×Fr)×Int:=
 if p.ask r=0 then(if 1≤s∧s≤100 then(if p.lo r.toNat=0 then((⟨0,0⟩,⟨0,0⟩),20)else(p.boardOk r.toNat s,0))else((⟨0,0⟩,⟨0,0⟩),2))else((⟨0,0⟩,⟨0,0⟩),p.ask r)
theorem Pl.board_no{r:Int}(h:¬p.ask r=0):p.board r s=((⟨0,0⟩,⟨0,0⟩),p.ask r):=by unfold Pl.board;rw[if_neg h]
theorem Pl.board_2{r:Int}(h:p.ask r=0)(h2:¬(1≤s∧s≤100)):p.board r s=((⟨0,0⟩,⟨0,0⟩),2):=by unfold Pl.board;rw[if_pos h,if_neg h2]
theorem Pl.board_20(h:p.ask k=0)(h2:1≤s∧s≤100)(h3:p.lo k=0):p.board k s=((⟨0,0⟩,⟨0,0⟩),20):=by unfold Pl.board;rw[if_pos h,if_pos h2,Int.toNat_natCast,if_pos h3]
theorem Pl.board_0(h:p.ask k=0)(h2:1≤s∧s≤100)(h3:¬p.lo k=0):p.board k s=(p.boardOk k s,0):=by unfold Pl.board;rw[if_pos h,if_pos h2,Int.toNat_natCast,if_neg h3]
theorem Pl.few_in(hf:p.Fine):∀j,j<p.n→0≤p.few k j∧p.few k j≤1000000:=λj hj=>by
 have:=hf.rg j hj;unfold Pl.few;split<;>omega
theorem Pl.many_in(hf:p.Fine):∀j,j<p.n→0≤p.many k j∧p.many k j≤1000000:=λj hj=>by
 have:=hf.rg j hj;unfold Pl.many;split<;>omega
theorem Pl.span_bd(hf:p.Fine)(hk:k<p.n)(h0:¬p.lo k=0):(0≤(p.spanOk k).1.n∧(p.spanOk k).1.n≤20000000000∧0<(p.spanOk k).1.d∧(p.spanOk k).1.d≤1000000000)∧(0≤(p.spanOk k).2.n∧(p.spanOk k).2.n≤20000000000∧0<(p.spanOk k).2.d∧(p.spanOk k).2.d≤1000000000):=by
 have⟨hk0,hk1,hk2⟩:=hf.rg k hk;have hn8:=hf.n8;have b1:=wc (Pl.few_in hf (k:=k));have b2:=wc (Pl.many_in hf (k:=k));exact⟨qjv Ω Ω b1.1 Ω hf.c0 hf.c1,qjv Ω Ω b2.1 Ω hf.c0 hf.c1⟩
theorem c36(p:Pl)(r s:Int):qb Tryz.prog 36 [p.sv,I r,I s] (.tup [fsv (p.board r s).1.1,fsv (p.board r s).1.2,I (p.board r s).2]):=by
 refine qc Tryz.func36 rfl Ωb follows Ωb _ _ (by rw[Tryz.ntmps36];simp) (by simp[OldL,p.old];simp[Old,I]) ?_;by_cases ha:p.ask r=0
 rotate_left
 ·rw[Pl.board_no ha]
  conv=>arg 4;unfold Pl.sv rngs I
  (repeat' first|refine sD ?_ ?_<;>intro _|refine aA ?_|simp -dsimp only[↓RP,RQ,seval,ql,fsv,B,I,RZ,eq_self,Tryz.results36]);refine qh (c97 p r) Ωg Ωa ?_;repeat' first|refine sD ?_ ?_<;>intro _|refine aA ?_|simp -dsimp only[↓RP,RQ,seval,ql,fsv,B,I,RZ,eq_self,Tryz.results36]
  all_goals try(exfalso;omega)
  all_goals first|exact⟨rfl,rfl⟩|exact⟨⟨rfl,rfl⟩,⟨rfl,rfl⟩⟩|exact⟨⟨rfl,rfl⟩,⟨rfl,rfl⟩,rfl⟩|skip
 have⟨he,hr0,hr1⟩:=Pl.ask_iff.1 ha;obtain⟨k,rfl⟩:∃k:Nat,r=k:=⟨r.toNat,Ω⟩;have hf:=Pl.fine he;have hk:k<p.n:=by omega
 by_cases hs:1≤s∧s≤100
 rotate_left
 ·rw[Pl.board_2 ha hs]
  conv=>arg 4;unfold Pl.sv rngs I
  (repeat' first|refine sD ?_ ?_<;>intro _|refine aA ?_|simp -dsimp only[↓RP,RQ,seval,ql,fsv,B,I,RZ,eq_self,Tryz.results36]);refine qh (c97 p k) Ωg Ωa ?_;rw[ha];repeat' first|refine sD ?_ ?_<;>intro _|refine aA ?_|simp -dsimp only[↓RP,RQ,seval,ql,fsv,B,I,RZ,eq_self,Tryz.results36]
  all_goals try(exfalso;omega)
  refine qh (wH s 1 100) Ωd Ωc ?_;repeat' first|refine sD ?_ ?_<;>intro _|refine aA ?_|simp -dsimp only[↓RP,RQ,seval,ql,fsv,B,I,RZ,eq_self,Tryz.results36]
  all_goals try(exfalso;omega)
  all_goals first|exact⟨rfl,rfl⟩|exact⟨⟨rfl,rfl⟩,⟨rfl,rfl⟩⟩|exact⟨⟨rfl,rfl⟩,⟨rfl,rfl⟩,rfl⟩|skip
 by_cases h0:p.lo k=0
 ·rw[Pl.board_20 ha hs h0]
  conv=>arg 4;unfold Pl.sv rngs I
  (repeat' first|refine sD ?_ ?_<;>intro _|refine aA ?_|simp -dsimp only[↓RP,RQ,seval,ql,fsv,B,I,RZ,eq_self,Tryz.results36]);refine qh (c97 p k) Ωg Ωa ?_;rw[ha];repeat' first|refine sD ?_ ?_<;>intro _|refine aA ?_|simp -dsimp only[↓RP,RQ,seval,ql,fsv,B,I,RZ,eq_self,Tryz.results36]
  all_goals try(exfalso;omega)
  refine qh (wH s 1 100) Ωd Ωc ?_;repeat' first|refine sD ?_ ?_<;>intro _|refine aA ?_|simp -dsimp only[↓RP,RQ,seval,ql,fsv,B,I,RZ,eq_self,Tryz.results36]
  all_goals try(exfalso;omega)
  refine qh (c32 p k) Ωg Ωa ?_;rw[Pl.span_20 ha h0];repeat' first|refine sD ?_ ?_<;>intro _|refine aA ?_|simp -dsimp only[↓RP,RQ,seval,ql,fsv,B,I,RZ,eq_self,Tryz.results36]
  all_goals try(exfalso;omega)
  all_goals first|exact⟨rfl,rfl⟩|exact⟨⟨rfl,rfl⟩,⟨rfl,rfl⟩⟩|exact⟨⟨rfl,rfl⟩,⟨rfl,rfl⟩,rfl⟩|skip
 ·rw[Pl.board_0 ha hs h0]
  have⟨⟨g1,g2,g3,g4⟩,g5,g6,g7,g8⟩:=Pl.span_bd hf hk h0
  conv=>arg 4;unfold Pl.sv rngs I
  (repeat' first|refine sD ?_ ?_<;>intro _|refine aA ?_|simp -dsimp only[↓RP,RQ,seval,ql,fsv,B,I,RZ,eq_self,Tryz.results36]);refine qh (c97 p k) Ωg Ωa ?_;rw[ha];repeat' first|refine sD ?_ ?_<;>intro _|refine aA ?_|simp -dsimp only[↓RP,RQ,seval,ql,fsv,B,I,RZ,eq_self,Tryz.results36]
  all_goals try(exfalso;omega)
  refine qh (wH s 1 100) Ωd Ωc ?_;repeat' first|refine sD ?_ ?_<;>intro _|refine aA ?_|simp -dsimp only[↓RP,RQ,seval,ql,fsv,B,I,RZ,eq_self,Tryz.results36]
  all_goals try(exfalso;omega)
  refine qh (c32 p k) Ωg Ωa ?_;rw[Pl.span_0 ha h0];unfold Pl.boardOk;generalize (p.spanOk k).1=lo at *;generalize (p.spanOk k).2=hi at *;(repeat' first|refine sD ?_ ?_<;>intro _|refine aA ?_|simp -dsimp only[↓RP,RQ,seval,ql,fsv,B,I,RZ,eq_self,Tryz.results36]);refine qh (qqz lo g1 Ω g3 Ω s hs.1 hs.2) Ωf Ωa ?_;(repeat' first|refine sD ?_ ?_<;>intro _|refine aA ?_|simp -dsimp only[↓RP,RQ,seval,ql,fsv,B,I,RZ,eq_self,Tryz.results36]);refine qh (qqz hi g5 Ω g7 Ω s hs.1 hs.2) Ωf Ωa ?_;repeat' first|refine sD ?_ ?_<;>intro _|refine aA ?_|simp -dsimp only[↓RP,RQ,seval,ql,fsv,B,I,RZ,eq_self,Tryz.results36]
  all_goals first|exact⟨rfl,rfl⟩|exact⟨⟨rfl,rfl⟩,⟨rfl,rfl⟩⟩|exact⟨⟨rfl,rfl⟩,⟨rfl,rfl⟩,rfl⟩|skip
end Go.Tv
end
section
namespace Go.Tv
open Go.Proofs
open Go.Sx
structure Qt where
 r:Int
 n:Int
 d:Int
 l:Bool
def qf(q:Qt):Nat→SV
 |0=>.val (.int .i64 q.r)
 |1=>.val (.int .i64 q.n)
 |2=>.val (.int .i64 q.d)
 |_=>.val (.bool q.l)
theorem QF:True∧(∀q,qf q 0=.val (.int .i64 q.r))∧(∀q,qf q 1=.val (.int .i64 q.n))∧(∀q,qf q 2=.val (.int .i64 q.d))∧(∀q,qf q 3=.val (.bool q.l)):=⟨trivial,λ_=>rfl,λ_=>rfl,λ_=>rfl,λ_=>rfl⟩
theorem qnT(hp:List (Nat×Blk))(q:Qt):∀j,Go.Sx.Sub hp (qf q j) (qf q j)
 |0=>by simp[qf,Go.Sx.Sub]
 |1=>by simp[qf,Go.Sx.Sub]
 |2=>by simp[qf,Go.Sx.Sub]
 |_+3=>by simp[qf,Go.Sx.Sub]
theorem jo(hp:List (Nat×Blk))(rn:Nat→Option Nat)(n:Nat)(sl:Nat→Bool)(q:Qt):∀j,Wk hp rn n sl (qf q j) (qf q j)
 |0=>by simp[qf,Wk]
 |1=>by simp[qf,Wk]
 |2=>by simp[qf,Wk]
 |_+3=>by simp[qf,Wk]
structure Mk where
 run:Int
 m:Nat
 q:Nat→Qt
def qts(m:Nat)(q:Nat→Qt):SV:=.arr false false m 4 (λi j=>qf (q i) j)
def qsv(q:Qt):SV:=.agg [I q.r,I q.n,I q.d,B q.l]
def Mk.sv(M:Mk):SV:=.agg [I M.run,qts M.m M.q]
theorem qf_old(q:Qt):∀j,Old (qf q j)
 |0=>by simp[qf,Old]
 |1=>by simp[qf,Old]
 |2=>by simp[qf,Old]
 |_+3=>by simp[qf,Old]
theorem qeu(m:Nat)(q:Nat→Qt):Old (qts m q):=by
 simp only[qts,Old];exact⟨trivial,λi j _ _=>qf_old _ _⟩
theorem Mk.old(M:Mk):Old M.sv:=by
 simp only[Mk.sv,Old,OldL,qeu,and_true];simp[I,Old]
theorem qev(q:Qt):Old (qsv q):=by simp[qsv,Old,OldL,I,B]
def okS(run:Int)(q:Nat→Qt)(m:Nat):Prop:=∀i,i<m→0≤(q i).r∧(q i).r<run
def okO(q:Nat→Qt)(m:Nat):Prop:=∀i,i<m→(0≤(q i).n∧(q i).n≤190)∧1≤(q i).d∧(q i).d≤10
instance(run:Int)(q:Nat→Qt)(m:Nat):Decidable (okS run q m):=by unfold okS;infer_instance
instance(q:Nat→Qt)(m:Nat):Decidable (okO q m):=by unfold okO;infer_instance
def Mk.err(M:Mk):Int:=if M.run<1∨5<M.run∨12<M.m then 6 else if okS M.run M.q M.m then(if okO M.q M.m then 0 else 3)else 2
structure Mk.Fine(M:Mk):Prop where
 r1:1≤M.run
 r5:M.run≤5
 m12:M.m≤12
 st:okS M.run M.q M.m
 od:okO M.q M.m
variable{M:Mk}
theorem Mk.fine(h:M.err=0):M.Fine:=by
 unfold Mk.err at h;split at h
 ·cases h
 ·rename_i h1
  split at h
  ·rename_i h2
   split at h
   ·rename_i h3;exact⟨Ω,Ω,Ω,h2,h3⟩
   ·cases h
  ·cases h
theorem Mk.Fine.err(h:M.Fine):M.err=0:=by
 have:=h.r1;have:=h.r5;have:=h.m12;unfold Mk.err;rw[if_neg Ω,if_pos h.st,if_pos h.od]
theorem Mk.err_6(h:M.run<1∨5<M.run∨12<M.m):6=M.err:=by unfold Mk.err;rw[if_pos h]
theorem Mk.err_2(h:¬(M.run<1∨5<M.run∨12<M.m))(h2:¬okS M.run M.q M.m):2=M.err:=by unfold Mk.err;rw[if_neg h,if_neg h2]
theorem Mk.err_3(h:¬(M.run<1∨5<M.run∨12<M.m))(h2:okS M.run M.q M.m)(h3:¬okO M.q M.m):3=M.err:=by unfold Mk.err;rw[if_neg h,if_pos h2,if_neg h3]
theorem Mk.err_0(h:¬(M.run<1∨5<M.run∨12<M.m))(h2:okS M.run M.q M.m)(h3:okO M.q M.m):0=M.err:=by unfold Mk.err;rw[if_neg h,if_pos h2,if_pos h3]
theorem qqA(M:Mk):qb Tryz.prog 108 [M.sv] (I M.err):=by
 refine qc Tryz.func108 rfl Ωb follows Ωb _ _ (by rw[Tryz.ntmps108];simp) Ω2 ?_;unfold I
 conv=>arg 4;unfold Mk.sv qts I
 repeat' first|refine sD ?_ ?_<;>intro _|refine aA ?_|simp -dsimp only[↓RP,RQ,seval,ql,QF,fsv,B,I,RZ,eq_self,Tryz.results108]
 all_goals first|(refine zO (Mk.err_6 ?_);omega)|skip
 refine qo (λi=>i≤M.m∧okS M.run M.q i) (λi=>⟨[(1,.ptr 0 0),(2,.val (.int .i64 0)),(3,.val (.int .i64 i))],[(0,.cells 84 [.val (.int .i64 M.run),.arr false false M.m 4 (λi j=>qf (M.q i) j)])],20⟩) (λi=>M.m - i) 0 ⟨xb6 _,λj hj=>by omega⟩ (weak [] [] ?_ ?_ ?_) λi hi=>?_
 ·(simp -dsimp only[↓RP,RQ,seval]);all_goals (try simp[jo])
 ·(simp -dsimp only[↓RP,RQ,seval]);all_goals (try simp[jo])
 ·(simp -dsimp only[↓RP,RQ,seval]);all_goals (try simp[jo])
 repeat' first|refine sD ?_ ?_<;>intro _|refine aA ?_|simp -dsimp only[↓RP,RQ,seval,ql,QF,fsv,B,I,RZ,eq_self,Tryz.results108]
 all_goals first|(refine zO (Mk.err_2 Ω λh=>?_);have h2:=h i Ω;omega)|skip
 ·refine⟨i+1,⟨Ω,λj hj=>?_⟩,Ω,weak [] [] ?_ ?_ ?_⟩
  ·by_cases e:j=i
   ·subst e;omega
   ·exact hi.2 j Ω
  ·(simp -dsimp only[↓RP,RQ,seval]);all_goals (try simp[jo])
  ·(simp -dsimp only[↓RP,RQ,seval]);all_goals (try simp[jo])
  ·(simp -dsimp only[↓RP,RQ,seval]);all_goals (try simp[jo])
 have hS:okS M.run M.q M.m:=by
  have e:i=M.m:=by omega
  exact e▸hi.2
 clear hi;refine qo (λi=>i≤M.m∧okO M.q i) (λi=>⟨[(1,.ptr 0 0),(2,.val (.int .i64 0)),(4,.val (.int .i64 i))],[(0,.cells 84 [.val (.int .i64 M.run),.arr false false M.m 4 (λi j=>qf (M.q i) j)])],60⟩) (λi=>M.m - i) 0 ⟨xb6 _,λj hj=>by omega⟩ (weak [] [] ?_ ?_ ?_) λi hi=>?_
 ·(simp -dsimp only[↓RP,RQ,seval]);all_goals (try simp[jo])
 ·(simp -dsimp only[↓RP,RQ,seval]);all_goals (try simp[jo])
 ·(simp -dsimp only[↓RP,RQ,seval]);all_goals (try simp[jo])
 repeat' first|refine sD ?_ ?_<;>intro _|refine aA ?_|simp -dsimp only[↓RP,RQ,seval,ql,QF,fsv,B,I,RZ,eq_self,Tryz.results108]
 all_goals first|(refine zO (Mk.err_3 Ω hS λh=>?_);have h2:=h i Ω;omega)|(refine zO (Mk.err_0 Ω hS ?_);have e:i=M.m:=Ω;exact e▸hi.2)|skip
 ·refine⟨i+1,⟨Ω,λj hj=>?_⟩,Ω,weak [] [] ?_ ?_ ?_⟩
  ·by_cases e:j=i
   ·subst e;omega
   ·exact hi.2 j Ω
  ·(simp -dsimp only[↓RP,RQ,seval]);all_goals (try simp[jo])
  ·(simp -dsimp only[↓RP,RQ,seval]);all_goals (try simp[jo])
  ·(simp -dsimp only[↓RP,RQ,seval]);all_goals (try simp[jo])
theorem qrw(q:Qt):qb Tryz.prog 207 [qsv q] (B (decide (¬((0≤q.n∧q.n≤190)∧1≤q.d∧q.d≤10)))):=by
 refine qc Tryz.func207 rfl Ωb follows Ωb _ _ (by rw[Tryz.ntmps207];simp) (by simp only[OldL,qev,and_self]) ?_;unfold qsv I B;(repeat' first|refine sD ?_ ?_<;>intro _|refine aA ?_|simp -dsimp only[↓RP,RQ,seval,ql,QF,fsv,B,I,RZ,eq_self,Tryz.results207]);refine qh (wH q.n 0 190) Ωd Ωc ?_;repeat' first|refine sD ?_ ?_<;>intro _|refine aA ?_|simp -dsimp only[↓RP,RQ,seval,ql,QF,fsv,B,I,RZ,eq_self,Tryz.results207]
 rotate_left
 ·rename_i h
  refine Zu ?_;symm;exact decide_eq_true Ω
 rename_i h;refine qh (wH q.d 1 10) Ωd Ωc ?_;repeat' first|refine sD ?_ ?_<;>intro _|refine aA ?_|simp -dsimp only[↓RP,RQ,seval,ql,QF,fsv,B,I,RZ,eq_self,Tryz.results207]
 all_goals (refine Zu ?_;rw[Bool.eq_iff_iff];simp;omega)
theorem qrx(q:Qt)(run:Int):qb Tryz.prog 206 [qsv q,.ref false 1 (λ_=>I run)] (B (decide (¬(0≤q.r∧q.r<run)))):=by
 refine qc Tryz.func206 rfl Ωb follows Ωb _ _ (by rw[Tryz.ntmps206];simp) (by simp only[OldL,qev,and_self,true_and];simp[Old,I]) ?_;unfold qsv I B;repeat' first|refine sD ?_ ?_<;>intro _|refine aA ?_|simp -dsimp only[↓RP,RQ,seval,ql,QF,fsv,B,I,RZ,eq_self,Tryz.results206]
 all_goals (refine Zu ?_;rw[Bool.eq_iff_iff];simp;omega)
theorem qqB(m:Nat)(q:Nat→Qt)(run:Int)(hm:m≤1000000):qb Tryz.prog 306 [qts m q,.fn (.func 206) [] [.ref false 1 (λ_=>I run)]] (I (zb (λi=>decide (¬(0≤(q i).r∧(q i).r<run))) 0 m)):=by
 refine qc Tryz.func306 rfl Ωb follows Ωb _ _ (by rw[Tryz.ntmps306];simp) ΩI ?_;unfold qts I;(repeat' first|refine sD ?_ ?_<;>intro _|refine aA ?_|simp -dsimp only[↓RP,RQ,seval,ql,QF,fsv,B,I,RZ,eq_self,Tryz.results306]);refine qo (λi=>i≤m∧zb (λi=>decide (¬(0≤(q i).r∧(q i).r<run))) 0 m=zb (λi=>decide (¬(0≤(q i).r∧(q i).r<run))) i (m - i)) (λi=>⟨[(0,.arr false false m 4 (λi j=>qf (q i) j)),(1,.fn (.func 206) [] [.ref false 1 (λ_=>.val (.int .i64 run))]),(7,.val (.int .i64 m)),(8,.val (.int .i64 i))],[],20⟩) (λi=>m - i) 0 ⟨xb6 _,rfl⟩ (weak [] [] ?_ ?_ ?_) λi hi=>?_
 ·(simp -dsimp only[↓RP,RQ,seval]);all_goals (try simp[jo])
 ·(simp -dsimp only[↓RP,RQ,seval])
 ·(simp -dsimp only[↓RP,RQ,seval]);all_goals (try simp)
 obtain⟨hi,he⟩:=hi;have e1:∀k,m - i=k+1→zb (λi=>decide (¬(0≤(q i).r∧(q i).r<run))) i (m - i)=if (decide (¬(0≤(q i).r∧(q i).r<run)))=true then(i:Int)else zb (λi=>decide (¬(0≤(q i).r∧(q i).r<run))) (i+1) k:=λk hk=>by rw[hk];rfl
 repeat' first|refine sD ?_ ?_<;>intro _|refine aA ?_|simp -dsimp only[↓RP,RQ,seval,ql,QF,fsv,B,I,RZ,eq_self,Tryz.results306]
 ·rename_i hlt
  have e2:=e1 (m -(i+1)) Ω;refine qh (qrx (q i) run) (by(simp -dsimp only[↓RP,RQ,seval,qsv,I,B]);all_goals (try simp)) Ωc ?_;repeat' first|refine sD ?_ ?_<;>intro _|refine aA ?_|simp -dsimp only[↓RP,RQ,seval,ql,QF,fsv,B,I,RZ,eq_self,Tryz.results306]
  ·rename_i h
   refine zO ?_;rw[he,e2,if_pos (decide_eq_true h)]
  ·rename_i h
   refine⟨i+1,⟨Ω,?_⟩,Ω,weak [] [] ?_ ?_ ?_⟩
   ·rw[he,e2,if_neg (by rw[decide_eq_true_eq];exact h)]
   ·(simp -dsimp only[↓RP,RQ,seval]);all_goals (try simp[jo])
   ·(simp -dsimp only[↓RP,RQ,seval])
   ·(simp -dsimp only[↓RP,RQ,seval]);all_goals (try simp)
 ·rename_i hlt
  refine zO ?_;have:m - i=0:=by omega
  rw[he,this];rfl
theorem qjw(m:Nat)(q:Nat→Qt)(run:Int):zb (λi=>decide (¬(0≤(q i).r∧(q i).r<run))) 0 m<0↔okS run q m:=by
 rw[vy];constructor
 ·intro h i hi'
  have:=h i Ω Ω;simp at this;omega
 ·intro h j _ hj
  have:=h j Ω;simp;omega
theorem qqC(m:Nat)(q:Nat→Qt)(run:Int)(hm:m≤1000000):qb Tryz.prog 208 [qts m q,.fn (.func 206) [] [.ref false 1 (λ_=>I run)]] (B (!decide (okS run q m))):=by
 refine qc Tryz.func208 rfl Ωb follows Ωb _ _ (by rw[Tryz.ntmps208];simp) ΩI ?_;unfold qts B;(repeat' first|refine sD ?_ ?_<;>intro _|refine aA ?_|simp -dsimp only[↓RP,RQ,seval,ql,QF,fsv,B,I,RZ,eq_self,Tryz.results208]);refine qh (qqB m q run hm) Ωv Ωi ?_;repeat' first|refine sD ?_ ?_<;>intro _|refine aA ?_|simp -dsimp only[↓RP,RQ,seval,ql,QF,fsv,B,I,RZ,eq_self,Tryz.results208]
 all_goals (refine Zu ?_;rw[Bool.eq_iff_iff];simp[←qjw])
theorem qqD(m:Nat)(q:Nat→Qt)(hm:m≤1000000):qb Tryz.prog 306 [qts m q,.fn (.func 207) [] []] (I (zb (λi=>decide (¬((0≤(q i).n∧(q i).n≤190)∧1≤(q i).d∧(q i).d≤10))) 0 m)):=by
 refine qc Tryz.func306 rfl Ωb follows Ωb _ _ (by rw[Tryz.ntmps306];simp) ΩI ?_;unfold qts I;(repeat' first|refine sD ?_ ?_<;>intro _|refine aA ?_|simp -dsimp only[↓RP,RQ,seval,ql,QF,fsv,B,I,RZ,eq_self,Tryz.results306]);refine qo (λi=>i≤m∧zb (λi=>decide (¬((0≤(q i).n∧(q i).n≤190)∧1≤(q i).d∧(q i).d≤10))) 0 m=zb (λi=>decide (¬((0≤(q i).n∧(q i).n≤190)∧1≤(q i).d∧(q i).d≤10))) i (m - i)) (λi=>⟨[(0,.arr false false m 4 (λi j=>qf (q i) j)),(1,.fn (.func 207) [] []),(7,.val (.int .i64 m)),(8,.val (.int .i64 i))],[],20⟩) (λi=>m - i) 0 ⟨xb6 _,rfl⟩ (weak [] [] ?_ ?_ ?_) λi hi=>?_
 ·(simp -dsimp only[↓RP,RQ,seval]);all_goals (try simp[jo])
 ·(simp -dsimp only[↓RP,RQ,seval])
 ·(simp -dsimp only[↓RP,RQ,seval]);all_goals (try simp)
 obtain⟨hi,he⟩:=hi;have e1:∀k,m - i=k+1→zb (λi=>decide (¬((0≤(q i).n∧(q i).n≤190)∧1≤(q i).d∧(q i).d≤10))) i (m - i)=if (decide (¬((0≤(q i).n∧(q i).n≤190)∧1≤(q i).d∧(q i).d≤10)))=true then(i:Int)else zb (λi=>decide (¬((0≤(q i).n∧(q i).n≤190)∧1≤(q i).d∧(q i).d≤10))) (i+1) k:=λk hk=>by rw[hk];rfl
 repeat' first|refine sD ?_ ?_<;>intro _|refine aA ?_|simp -dsimp only[↓RP,RQ,seval,ql,QF,fsv,B,I,RZ,eq_self,Tryz.results306]
 ·rename_i hlt
  have e2:=e1 (m -(i+1)) Ω;refine qh (qrw (q i)) (by(simp -dsimp only[↓RP,RQ,seval,qsv,I,B]);all_goals (try simp)) Ωc ?_;repeat' first|refine sD ?_ ?_<;>intro _|refine aA ?_|simp -dsimp only[↓RP,RQ,seval,ql,QF,fsv,B,I,RZ,eq_self,Tryz.results306]
  ·rename_i h
   refine zO ?_;rw[he,e2,if_pos (decide_eq_true h)]
  ·rename_i h
   refine⟨i+1,⟨Ω,?_⟩,Ω,weak [] [] ?_ ?_ ?_⟩
   ·rw[he,e2,if_neg (by rw[decide_eq_true_eq];exact h)]
   ·(simp -dsimp only[↓RP,RQ,seval]);all_goals (try simp[jo])
   ·(simp -dsimp only[↓RP,RQ,seval])
   ·(simp -dsimp only[↓RP,RQ,seval]);all_goals (try simp)
 ·rename_i hlt
  refine zO ?_;have:m - i=0:=by omega
  rw[he,this];rfl
theorem qjx(m:Nat)(q:Nat→Qt):zb (λi=>decide (¬((0≤(q i).n∧(q i).n≤190)∧1≤(q i).d∧(q i).d≤10))) 0 m<0↔okO q m:=by
 rw[vy];constructor
 ·intro h i hi'
  have:=h i Ω Ω;simp at this;omega
 ·intro h j _ hj
  have:=h j Ω;simp;omega
theorem qqE(m:Nat)(q:Nat→Qt)(hm:m≤1000000):qb Tryz.prog 208 [qts m q,.fn (.func 207) [] []] (B (!decide (okO q m))):=by
 refine qc Tryz.func208 rfl Ωb follows Ωb _ _ (by rw[Tryz.ntmps208];simp) ΩI ?_;unfold qts B;(repeat' first|refine sD ?_ ?_<;>intro _|refine aA ?_|simp -dsimp only[↓RP,RQ,seval,ql,QF,fsv,B,I,RZ,eq_self,Tryz.results208]);refine qh (qqD m q hm) Ωv Ωi ?_;repeat' first|refine sD ?_ ?_<;>intro _|refine aA ?_|simp -dsimp only[↓RP,RQ,seval,ql,QF,fsv,B,I,RZ,eq_self,Tryz.results208]
 all_goals (refine Zu ?_;rw[Bool.eq_iff_iff];simp[←qjx])
theorem qoN(M:Mk):qb Tryz.prog 102 [M.sv] (I M.err):=by
 refine qc Tryz.func102 rfl Ωb follows Ωb _ _ (by rw[Tryz.ntmps102];simp) Ω2 ?_;unfold I
 conv=>arg 4;unfold Mk.sv qts I
 (repeat' first|refine sD ?_ ?_<;>intro _|refine aA ?_|simp -dsimp only[↓RP,RQ,seval,ql,QF,fsv,B,I,RZ,eq_self,Tryz.results102]);refine qh (wH M.run 1 5) Ωd Ωc ?_;repeat' first|refine sD ?_ ?_<;>intro _|refine aA ?_|simp -dsimp only[↓RP,RQ,seval,ql,QF,fsv,B,I,RZ,eq_self,Tryz.results102]
 all_goals first|(refine zO (Mk.err_6 ?_);omega)|skip
 refine qh (qqC M.m M.q M.run Ω) Ωv Ωc ?_;repeat' first|refine sD ?_ ?_<;>intro _|refine aA ?_|simp -dsimp only[↓RP,RQ,seval,ql,QF,fsv,B,I,RZ,eq_self,Tryz.results102]
 rotate_left
 ·refine zO (Mk.err_2 Ω (by assumption))
 rename_i hS;refine qh (qqE M.m M.q Ω) Ωv Ωc ?_;repeat' first|refine sD ?_ ?_<;>intro _|refine aA ?_|simp -dsimp only[↓RP,RQ,seval,ql,QF,fsv,B,I,RZ,eq_self,Tryz.results102]
 all_goals first|exact zO (Mk.err_3 Ω hS (by assumption))|exact zO (Mk.err_0 Ω hS (by assumption))|trace_state
end Go.Tv
end
section
namespace Go.Tv
open Go.Sx
def qaS(q:Qt)(s w:Int):Int:=if q.r=w then(2520:Int).tdiv q.d*q.n*s else -2520*s
def Vo(q:Qt)(s w:Int):Int:=if q.l=true then -qaS q s w else qaS q s w
def vH(q:Nat→Qt)(s:Nat→Int)(w:Int):Nat→Int
 |0=>0
 |i+1=>vH q s w i+Vo (q i) (s i) w
def Yf(s:Nat→Int)(m:Nat):Prop:=∀i,i<m→0≤s i∧s i≤1099511627776
instance(s:Nat→Int)(m:Nat):Decidable (Yf s m):=by unfold Yf;infer_instance
end Go.Tv
end
section
namespace Go.Tv
open Go.Proofs
open Go.Sx
variable{M:Mk}{k:Nat}{c:Nat→Int}
def Mk.stk(M:Mk)(k:Nat)(s:Nat→Int):Int:=if M.err=0 then(if k=M.m then(if Yf s k then 0 else 3)else 15)else M.err
def wd(q:Qt)(c:Nat→Int)(all:Int):Prop:=if q.l=true then all*q.d≤c q.r.toNat*(q.d+q.n)else c q.r.toNat*(q.d+q.n)≤all*q.d
instance(q:Qt)(c:Nat→Int)(all:Int):Decidable (wd q c all):=by unfold wd;infer_instance
def fairC(q:Nat→Qt)(c:Nat→Int)(all:Int)(m:Nat):Prop:=∀i,i<m→wd (q i) c all
instance(q:Nat→Qt)(c:Nat→Int)(all:Int)(m:Nat):Decidable (fairC q c all m):=by unfold fairC;infer_instance
def okC(c:Nat→Int)(k:Nat):Prop:=Yf c k∧(1≤sumTo c k∧sumTo c k≤1099511627776)
instance(c:Nat→Int)(k:Nat):Decidable (okC c k):=by unfold okC;infer_instance
def Mk.chE(M:Mk)(k:Nat)(c:Nat→Int):Int:=if M.err=0 then(if (k:Int)=M.run then(if okC c k then(if fairC M.q c (sumTo c k) M.m then 0 else 20)else 3)else 15)else M.err
theorem Mk.chE_no(h:¬M.err=0):M.err=M.chE k c:=by unfold Mk.chE;rw[if_neg h]
theorem Mk.chE_15(h:M.err=0)(h2:¬(k:Int)=M.run):15=M.chE k c:=by unfold Mk.chE;rw[if_pos h,if_neg h2]
theorem Mk.chE_3(h:M.err=0)(h2:(k:Int)=M.run)(h3:¬okC c k):3=M.chE k c:=by unfold Mk.chE;rw[if_pos h,if_pos h2,if_neg h3]
theorem Mk.chE_20(h:M.err=0)(h2:(k:Int)=M.run)(h3:okC c k)(h4:¬fairC M.q c (sumTo c k) M.m):20=M.chE k c:=by unfold Mk.chE;rw[if_pos h,if_pos h2,if_pos h3,if_neg h4]
theorem Mk.chE_0(h:M.err=0)(h2:(k:Int)=M.run)(h3:okC c k)(h4:fairC M.q c (sumTo c k) M.m):0=M.chE k c:=by unfold Mk.chE;rw[if_pos h,if_pos h2,if_pos h3,if_pos h4]
theorem qqF(k:Nat)(hk:k≤20)(c:Nat→Int)(hc:Yf c k):qb Tryz.prog 107 [ints k c] (I (sumTo c k)):=by
 refine qc Tryz.func107 rfl Ωb follows Ωb _ _ (by rw[Tryz.ntmps107];simp) (by simp[OldL,Old,ints]) ?_
 conv=>arg 4;unfold ints I
 (repeat' first|refine sD ?_ ?_<;>intro _|refine aA ?_|simp -dsimp only[↓RP,RQ,seval,ql,QF,fsv,B,I,RZ,eq_self,Tryz.results107]);refine qo (λi=>i≤k) (λi=>⟨[(3,.val (.int .i64 (sumTo c i))),(6,.arr false false k 1 (λi _=>.val (.int .i64 (c i)))),(7,.val (.int .i64 k)),(8,.val (.int .i64 i))],[],40⟩) (λi=>k - i) 0 (xb6 _) (weak [] [] ?_ ?_ ?_) λi hi=>?_
 ·(simp -dsimp only[↓RP,RQ,seval,sumTo]);all_goals (try simp[sumTo])
 ·(simp -dsimp only[↓RP,RQ,seval]);all_goals (try simp)
 ·(simp -dsimp only[↓RP,RQ,seval]);all_goals (try simp)
 have sb:=wc (u:=c) (A:=1099511627776) (n:=i) λj hj=>hc j Ω;by_cases hlt:i<k
 ·have hci:=hc i hlt
  repeat' first|refine sD ?_ ?_<;>intro _|refine aA ?_|simp -dsimp only[↓RP,RQ,seval,ql,QF,fsv,B,I,RZ,eq_self,Tryz.results107]
  all_goals try(exfalso;omega)
  refine⟨i+1,Ω,Ω,weak [] [] ?_ ?_ ?_⟩
  ·(simp -dsimp only[↓RP,RQ,seval,sumTo]);all_goals (try simp)
  ·(simp -dsimp only[↓RP,RQ,seval]);all_goals (try simp)
  ·(simp -dsimp only[↓RP,RQ,seval]);all_goals (try simp)
 ·have e:i=k:=by omega
  subst e;repeat' first|refine sD ?_ ?_<;>intro _|refine aA ?_|simp -dsimp only[↓RP,RQ,seval,ql,QF,fsv,B,I,RZ,eq_self,Tryz.results107]
  all_goals try(exfalso;omega)
theorem c40(M:Mk)(k:Nat)(hk6:k≤1000000)(c:Nat→Int):qb Tryz.prog 40 [M.sv,ints k c] (I (M.chE k c)):=by
 refine qc Tryz.func40 rfl Ωb follows Ωb _ _ (by rw[Tryz.ntmps40];simp) (by simp only[OldL,Mk.old,true_and];simp[Old,ints]) ?_
 conv=>arg 4;unfold Mk.sv qts ints I
 (repeat' first|refine sD ?_ ?_<;>intro _|refine aA ?_|simp -dsimp only[↓RP,RQ,seval,ql,QF,fsv,B,I,RZ,eq_self,Tryz.results40]);refine qh (qoN M) Ωp Ωa ?_;by_cases he:M.err=0
 rotate_left
 ·repeat' first|refine sD ?_ ?_<;>intro _|refine aA ?_|simp -dsimp only[↓RP,RQ,seval,ql,QF,fsv,B,I,RZ,eq_self,Tryz.results40]
  all_goals try(exfalso;omega)
  all_goals exact zO (Mk.chE_no he)
 have hf:=Mk.fine he;rw[he];repeat' first|refine sD ?_ ?_<;>intro _|refine aA ?_|simp -dsimp only[↓RP,RQ,seval,ql,QF,fsv,B,I,RZ,eq_self,Tryz.results40]
 all_goals try(exfalso;omega)
 rotate_left
 ·exact zO (Mk.chE_15 he Ω)
 have hk:(k:Int)=M.run:=by omega
 have hr5:=hf.r5;have hm12:=hf.m12;refine qh (qoJ k c 0 1099511627776 hk6) Ωd Ωc ?_;repeat' first|refine sD ?_ ?_<;>intro _|refine aA ?_|simp -dsimp only[↓RP,RQ,seval,ql,QF,fsv,B,I,RZ,eq_self,Tryz.results40]
 rotate_left
 ·exact zO (Mk.chE_3 he hk λh=>by have:=h.1;contradiction)
 rename_i ha;have ha:Yf c k:=ha;refine qh (qqF k Ω c ha) Ωd Ωa ?_;(repeat' first|refine sD ?_ ?_<;>intro _|refine aA ?_|simp -dsimp only[↓RP,RQ,seval,ql,QF,fsv,B,I,RZ,eq_self,Tryz.results40]);refine qh (wH (sumTo c k) 1 1099511627776) Ωd Ωc ?_;repeat' first|refine sD ?_ ?_<;>intro _|refine aA ?_|simp -dsimp only[↓RP,RQ,seval,ql,QF,fsv,B,I,RZ,eq_self,Tryz.results40]
 rotate_left
 ·rename_i h;exact zO (Mk.chE_3 he hk λh2=>h h2.2)
 rename_i h1;have hok:okC c k:=⟨ha,h1⟩;refine qh (qqF k Ω c ha) Ωd Ωa ?_;(repeat' first|refine sD ?_ ?_<;>intro _|refine aA ?_|simp -dsimp only[↓RP,RQ,seval,ql,QF,fsv,B,I,RZ,eq_self,Tryz.results40]);refine qo (λi=>i≤M.m∧fairC M.q c (sumTo c k) i) (λi=>⟨[(1,.arr false false k 1 (λi _=>.val (.int .i64 (c i)))),(6,.val (.int .i64 (sumTo c k))),(36,.arr false false M.m 4 (λi j=>qf (M.q i) j)),(37,.val (.int .i64 M.m)),(38,.val (.int .i64 i))],[],80⟩) (λi=>M.m - i) 0 ⟨xb6 _,λj hj=>by omega⟩ (weak [] [] ?_ ?_ ?_) λi hi=>?_
 ·(simp -dsimp only[↓RP,RQ,seval]);all_goals (try simp[jo])
 ·(simp -dsimp only[↓RP,RQ,seval]);all_goals (try simp[jo])
 ·(simp -dsimp only[↓RP,RQ,seval]);all_goals (try simp[jo])
 by_cases hlt:i<M.m
 ·have hq:=hf.od i hlt
  have hr:=hf.st i hlt;have hc:=hok.1 (M.q i).r.toNat Ω;have m1:=gv (c (M.q i).r.toNat) ((M.q i).d+(M.q i).n) 1099511627776 200 hc.1 Ω hc.2 Ω;have m2:=gv (sumTo c k) (M.q i).d 1099511627776 10 Ω Ω Ω Ω;have hF:wd (M.q i) c (sumTo c k)↔if (M.q i).l=true then sumTo c k*(M.q i).d≤c (M.q i).r.toNat*((M.q i).d+(M.q i).n)else c (M.q i).r.toNat*((M.q i).d+(M.q i).n)≤sumTo c k*(M.q i).d:=Iff.rfl
  have hno:¬wd (M.q i) c (sumTo c k)→SV.val (.int .i64 20)=SV.val (.int .i64 (M.chE k c)):=λh=>zO (Mk.chE_20 he hk hok λh2=>h (h2 i hlt));have hyes:wd (M.q i) c (sumTo c k)→fairC M.q c (sumTo c k) (i+1):=λh j hj=>by
   by_cases e:j=i
   ·subst e;exact h
   ·exact hi.2 j Ω
  cases hl:(M.q i).l
  all_goals rw[hl]at hF
  ·rw[if_neg Ωq]at hF
   repeat' first|refine sD ?_ ?_<;>intro _|refine aA ?_|simp -dsimp only[↓RP,RQ,seval,hl,ql,QF,fsv,B,I,RZ,eq_self,Tryz.results40]
   all_goals first|(exfalso;omega)|(refine hno λh=>?_;have h3:=hF.1 h;omega)|skip
   all_goals (refine⟨i+1,⟨Ω,hyes (hF.2 Ω)⟩,Ω,weak [] [] ?_ ?_ ?_⟩)
   all_goals ((simp -dsimp only[↓RP,RQ,seval]);all_goals (try simp[jo]))
  ·rw[if_pos rfl]at hF
   repeat' first|refine sD ?_ ?_<;>intro _|refine aA ?_|simp -dsimp only[↓RP,RQ,seval,hl,ql,QF,fsv,B,I,RZ,eq_self,Tryz.results40]
   all_goals first|(exfalso;omega)|(refine hno λh=>?_;have h3:=hF.1 h;omega)|skip
   all_goals (refine⟨i+1,⟨Ω,hyes (hF.2 Ω)⟩,Ω,weak [] [] ?_ ?_ ?_⟩)
   all_goals ((simp -dsimp only[↓RP,RQ,seval]);all_goals (try simp[jo]))
 ·have e:i=M.m:=by omega
  repeat' first|refine sD ?_ ?_<;>intro _|refine aA ?_|simp -dsimp only[↓RP,RQ,seval,ql,QF,fsv,B,I,RZ,eq_self,Tryz.results40]
  all_goals try(exfalso;omega)
  exact zO (Mk.chE_0 he hk hok (e▸hi.2))
theorem c41(M:Mk)(k:Nat)(c:Nat→Int):qb Tryz.prog 41 [M.sv,ints k c] (I (M.chE k c)):=by
 refine qc Tryz.func41 rfl Ωb follows Ωb _ _ (by rw[Tryz.ntmps41];simp) (by simp only[OldL,Mk.old,true_and];simp[Old,ints]) ?_
 conv=>arg 4;unfold Mk.sv qts ints I
 (repeat' first|refine sD ?_ ?_<;>intro _|refine aA ?_|simp -dsimp only[↓RP,RQ,seval,ql,QF,fsv,B,I,RZ,eq_self,Tryz.results41]);refine qh (qqA M) Ωp Ωa ?_;by_cases he:M.err=0
 rotate_left
 ·repeat' first|refine sD ?_ ?_<;>intro _|refine aA ?_|simp -dsimp only[↓RP,RQ,seval,ql,QF,fsv,B,I,RZ,eq_self,Tryz.results41]
  all_goals try(exfalso;omega)
  refine qh (qqA M) Ωp Ωa ?_;repeat' first|refine sD ?_ ?_<;>intro _|refine aA ?_|simp -dsimp only[↓RP,RQ,seval,ql,QF,fsv,B,I,RZ,eq_self,Tryz.results41]
  all_goals exact zO (Mk.chE_no he)
 have hf:=Mk.fine he;rw[he];repeat' first|refine sD ?_ ?_<;>intro _|refine aA ?_|simp -dsimp only[↓RP,RQ,seval,ql,QF,fsv,B,I,RZ,eq_self,Tryz.results41]
 all_goals try(exfalso;omega)
 rotate_left
 ·exact zO (Mk.chE_15 he Ω)
 have hk:(k:Int)=M.run:=by omega
 have hr5:=hf.r5;have hm12:=hf.m12;refine qo (λi=>i≤k∧Yf c i) (λi=>⟨[(1,.arr false false k 1 (λi _=>.val (.int .i64 (c i)))),(2,.ptr 0 0),(5,.val (.int .i64 (sumTo c i))),(6,.val (.int .i64 i))],[(0,.cells 84 [.val (.int .i64 M.run),.arr false false M.m 4 (λi j=>qf (M.q i) j)])],60⟩) (λi=>k - i) 0 ⟨xb6 _,λj hj=>by omega⟩ (weak [] [] ?_ ?_ ?_) λi hi=>?_
 ·(simp -dsimp only[↓RP,RQ,seval,sumTo]);all_goals (try simp[sumTo])
 ·(simp -dsimp only[↓RP,RQ,seval]);all_goals (try simp[jo])
 ·(simp -dsimp only[↓RP,RQ,seval]);all_goals (try simp)
 have sb:=wc (u:=c) (A:=1099511627776) (n:=i) λj hj=>hi.2 j Ω;by_cases hlt:i<k
 ·repeat' first|refine sD ?_ ?_<;>intro _|refine aA ?_|simp -dsimp only[↓RP,RQ,seval,ql,QF,fsv,B,I,RZ,eq_self,Tryz.results41]
  all_goals first
   |(exfalso;omega)
   |(refine zO (Mk.chE_3 he hk λh=>?_);have h2:=h.1 i Ω;omega)
   |skip
  refine⟨i+1,⟨Ω,λj hj=>?_⟩,Ω,weak [] [] ?_ ?_ ?_⟩
  ·by_cases e:j=i
   ·subst e;omega
   ·exact hi.2 j Ω
  ·(simp -dsimp only[↓RP,RQ,seval,sumTo]);all_goals (try simp)
  ·(simp -dsimp only[↓RP,RQ,seval]);all_goals (try simp[jo])
  ·(simp -dsimp only[↓RP,RQ,seval]);all_goals (try simp)
 have e:k=i:=by omega
 subst e;have ha:=hi.2;clear hi;repeat' first|refine sD ?_ ?_<;>intro _|refine aA ?_|simp -dsimp only[↓RP,RQ,seval,ql,QF,fsv,B,I,RZ,eq_self,Tryz.results41]
 all_goals first|(exfalso;omega)|(refine zO (Mk.chE_3 he hk λh=>?_);have:=h.2;omega)|skip
 have hok:okC c k:=⟨ha,Ω⟩;refine qo (λi=>i≤M.m∧fairC M.q c (sumTo c k) i) (λi=>⟨[(1,.arr false false k 1 (λi _=>.val (.int .i64 (c i)))),(2,.ptr 0 0),(5,.val (.int .i64 (sumTo c k))),(7,.val (.int .i64 i))],[(0,.cells 84 [.val (.int .i64 M.run),.arr false false M.m 4 (λi j=>qf (M.q i) j)])],80⟩) (λi=>M.m - i) 0 ⟨xb6 _,λj hj=>by omega⟩ (weak [] [] ?_ ?_ ?_) λi hi=>?_
 ·(simp -dsimp only[↓RP,RQ,seval]);all_goals (try simp[jo])
 ·(simp -dsimp only[↓RP,RQ,seval]);all_goals (try simp[jo])
 ·(simp -dsimp only[↓RP,RQ,seval]);all_goals (try simp[jo])
 by_cases hlt:i<M.m
 ·have hq:=hf.od i hlt
  have hr:=hf.st i hlt;have hc:=hok.1 (M.q i).r.toNat Ω;have m1:=gv (c (M.q i).r.toNat) ((M.q i).d+(M.q i).n) 1099511627776 200 hc.1 Ω hc.2 Ω;have m2:=gv (sumTo c k) (M.q i).d 1099511627776 10 Ω Ω Ω Ω;have hF:wd (M.q i) c (sumTo c k)↔if (M.q i).l=true then sumTo c k*(M.q i).d≤c (M.q i).r.toNat*((M.q i).d+(M.q i).n)else c (M.q i).r.toNat*((M.q i).d+(M.q i).n)≤sumTo c k*(M.q i).d:=Iff.rfl
  have hno:¬wd (M.q i) c (sumTo c k)→SV.val (.int .i64 20)=SV.val (.int .i64 (M.chE k c)):=λh=>zO (Mk.chE_20 he hk hok λh2=>h (h2 i hlt));have hyes:wd (M.q i) c (sumTo c k)→fairC M.q c (sumTo c k) (i+1):=λh j hj=>by
   by_cases e:j=i
   ·subst e;exact h
   ·exact hi.2 j Ω
  cases hl:(M.q i).l
  all_goals rw[hl]at hF
  ·rw[if_neg Ωq]at hF
   repeat' first|refine sD ?_ ?_<;>intro _|refine aA ?_|simp -dsimp only[↓RP,RQ,seval,hl,ql,QF,fsv,B,I,RZ,eq_self,Tryz.results41]
   all_goals first|(exfalso;omega)|(refine hno λh=>?_;have h3:=hF.1 h;omega)|skip
   all_goals (refine⟨i+1,⟨Ω,hyes (hF.2 Ω)⟩,Ω,weak [] [] ?_ ?_ ?_⟩)
   all_goals ((simp -dsimp only[↓RP,RQ,seval]);all_goals (try simp[jo]))
  ·rw[if_pos rfl]at hF
   repeat' first|refine sD ?_ ?_<;>intro _|refine aA ?_|simp -dsimp only[↓RP,RQ,seval,hl,ql,QF,fsv,B,I,RZ,eq_self,Tryz.results41]
   all_goals first|(exfalso;omega)|(refine hno λh=>?_;have h3:=hF.1 h;omega)|skip
   all_goals (refine⟨i+1,⟨Ω,hyes (hF.2 Ω)⟩,Ω,weak [] [] ?_ ?_ ?_⟩)
   all_goals ((simp -dsimp only[↓RP,RQ,seval]);all_goals (try simp[jo]))
 ·have e:i=M.m:=by omega
  repeat' first|refine sD ?_ ?_<;>intro _|refine aA ?_|simp -dsimp only[↓RP,RQ,seval,ql,QF,fsv,B,I,RZ,eq_self,Tryz.results41]
  all_goals try(exfalso;omega)
  exact zO (Mk.chE_0 he hk hok (e▸hi.2))
end Go.Tv
end
section
namespace Go.Tv
open Go.Sx
variable{v:Value}{r:Int}{l:Bool}{i k:Nat}
def xq(q:Qt):Fr:=red ⟨q.d,q.d+q.n⟩
def loS(q:Nat→Qt)(r:Int):Nat→Fr
 |0=>⟨0,1⟩
 |i+1=>if (q i).r=r∧(q i).l=true∧lt (loS q r i) (xq (q i))then xq (q i)else loS q r i
def hiS(q:Nat→Qt)(r:Int):Nat→Fr
 |0=>⟨1,1⟩
 |i+1=>if (q i).r=r∧(q i).l=false∧lt (xq (q i)) (hiS q r i)then xq (q i)else hiS q r i
def zm(q:Nat→Qt)(i:Nat):Prop:=if (q i).l=true then lt (loS q (q i).r i) (xq (q i))else lt (xq (q i)) (hiS q (q i).r i)
instance(q:Nat→Qt)(i:Nat):Decidable (zm q i):=by unfold zm;infer_instance
def byS(q:Nat→Qt)(r:Int)(l:Bool):Nat→Option Nat
 |0=>none
 |i+1=>if (q i).r=r∧(q i).l=l∧zm q i then some i else byS q r l i
structure Ch(a:Fr):Prop where
 n0:0≤a.n
 nd:a.n≤a.d
 d1:1≤a.d
 d2:a.d≤200
theorem qaT{q:Qt}(h:(0≤q.n∧q.n≤190)∧1≤q.d∧q.d≤10):Ch (xq q)∧0<(xq q).n∧(xq q).n*(q.d+q.n)=q.d*(xq q).d:=by
 obtain⟨⟨h1,h2⟩,h3,h4⟩:=h;have⟨s1,s2,s3,s4⟩:=red_spec (a:=⟨q.d,q.d+q.n⟩) (by show 0<q.d+q.n;omega);unfold xq;generalize red ⟨q.d,q.d+q.n⟩=x at *;have s3:x.n*(q.d+q.n)=q.d*x.d:=s3;have s4:x.d≤q.d+q.n:=s4;have p1:0<q.d*x.d:=Int.mul_pos Ω s1;have hn:0<x.n:=by
  refine Int.not_le.1 λh=>?_;have:=Int.mul_nonpos_of_nonpos_of_nonneg h (Ω:0≤q.d+q.n);omega
 have hle:x.n≤x.d:=by
  refine Int.not_lt.1 λh=>?_;have e1:x.d*(q.d+q.n)<x.n*(q.d+q.n):=Int.mul_lt_mul_of_pos_right h Ω;have e2:q.d*x.d≤(q.d+q.n)*x.d:=Int.mul_le_mul_of_nonneg_right Ω Ω;have e3:x.d*(q.d+q.n)=(q.d+q.n)*x.d:=Int.mul_comm _ _;omega
 exact⟨⟨Ω,hle,Ω,Ω⟩,hn,s3⟩
theorem yu{q:Nat→Qt}{r:Int}:∀{m:Nat},okO q m→Ch (loS q r m)
 |0,_=>⟨Int.le_refl 0,by show(0:Int)≤1;decide,Int.le_refl 1,by show(1:Int)≤200;decide⟩
 |m+1,h=>by
  have ih:=yu (q:=q) (r:=r) (m:=m) λi hi=>h i Ω;simp only[loS];split
  ·exact(qaT (h m Ω)).1
  ·exact ih
theorem yv{q:Nat→Qt}{r:Int}:∀{m:Nat},okO q m→Ch (hiS q r m)
 |0,_=>⟨by show(0:Int)≤1;decide,Int.le_refl 1,Int.le_refl 1,by show(1:Int)≤200;decide⟩
 |m+1,h=>by
  have ih:=yv (q:=q) (r:=r) (m:=m) λi hi=>h i Ω;simp only[hiS];split
  ·exact(qaT (h m Ω)).1
  ·exact ih
theorem Ch.in1{a b:Fr}(ha:Ch a)(hb:Ch b):0≤a.n*b.d∧a.n*b.d≤200*200:=by
 have:=ha.n0;have:=ha.nd;have:=ha.d2;have:=hb.d1;have:=hb.d2;exact gv a.n b.d 200 200 Ω Ω Ω Ω
def kv(r:Int)(l:Bool):Value:=.agg #[.int .i64 r,.bool l]
def k1(v:Value):Int:=match v with|.agg cs=>(match cs.toList with|[.int _ n,_]=>n|_=>0)|_=>0
def k2(v:Value):Bool:=match v with|.agg cs=>(match cs.toList with|[_,.bool b]=>b|_=>false)|_=>false
abbrev kfS:Value→Bool:=qm true [Lf.i .i64,Lf.b]
theorem qnU(r:Int)(l:Bool):kfS (kv r l)=true:=rfl
theorem qnV(r:Int)(l:Bool):k1 (kv r l)=r:=rfl
theorem qnW(r:Int)(l:Bool):k2 (kv r l)=l:=rfl
theorem qew(h:kfS v=true):v=kv (k1 v) (k2 v):=by
 unfold kfS qm at h;cases v with
 |agg cs=>
  simp only[]at h;obtain⟨l⟩:=cs
  match l,h with
  |[.int .i64 n,.bool b],h=>rfl
 |_=>cases h
def gb(q:Nat→Qt)(i:Nat)(v:Value):Bool:=kfS v&&(byS q (k1 v) (k2 v) i).isSome
def oI:Option Nat→SV
 |some n=>I n
 |none=>.top
def kI(q:Nat→Qt)(i:Nat)(v:Value):SV:=if kfS v=true then oI (byS q (k1 v) (k2 v) i)else .top
theorem wJ(q:Nat→Qt)(i:Nat)(r:Int)(l:Bool):gb q i (kv r l)=(byS q r l i).isSome:=by
 unfold gb;rw[qnU,qnV,qnW];rfl
theorem ZL(q:Nat→Qt)(i:Nat)(r:Int)(l:Bool):kI q i (kv r l)=oI (byS q r l i):=by
 unfold kI;rw[if_pos (qnU r l),qnV,qnW]
theorem eqK_kv:eqK (kv r l) v=true↔v=kv r l:=by
 constructor
 ·intro h;exact(zF h).symm
 ·rintro rfl;simp[eqK,kv,vN,Qg]
theorem Yg{q:Nat→Qt}(h:zm q i):byS q (q i).r (q i).l (i+1)=some i:=by
 simp only[byS];rw[if_pos ⟨trivial,trivial,h⟩]
theorem qaU{q:Nat→Qt}(h:¬((q i).r=r∧(q i).l=l)):byS q r l (i+1)=byS q r l i:=by
 simp only[byS];rw[if_neg (λh2=>h ⟨h2.1,h2.2.1⟩)]
theorem qex{q:Nat→Qt}(h:¬zm q i):byS q r l (i+1)=byS q r l i:=by
 simp only[byS];rw[if_neg (λh2=>h h2.2.2)]
theorem qjy{q:Nat→Qt}(hk:kfS v=true)(h:eqK (kv (q i).r (q i).l) v=false):¬((q i).r=k1 v∧(q i).l=k2 v):=λ⟨e1,e2⟩=>by
 have:v=kv (q i).r (q i).l:=by rw[e1,e2];exact qew hk
 rw[eqK_kv.2 this]at h;cases h
theorem Yh{q:Nat→Qt}(h:zm q i):zy (gb q i) (kv (q i).r (q i).l)=gb q (i+1):=by
 funext v;unfold zy;cases he:eqK (kv (q i).r (q i).l) v with
 |true=>
  rw[eqK_kv.1 he,wJ,wJ,Yg h];rfl
 |false=>
  rw[xf4];unfold gb;cases hk:kfS v with
  |false=>rfl
  |true=>rw[qaU (qjy hk he)]
theorem qey{q:Nat→Qt}(h:zm q i):qR (kI q i) (kv (q i).r (q i).l) (.val (.int .i64 (i:Nat)))=kI q (i+1):=by
 funext v;unfold qR svIte;cases he:eqK (kv (q i).r (q i).l) v with
 |true=>
  rw[eqK_kv.1 he,ZL,ZL,Yg h,if_pos rfl];rfl
 |false=>
  rw[if_neg Ωq];unfold kI;cases hk:kfS v with
  |false=>rfl
  |true=>rw[qaU (qjy hk he)]
theorem qez(g:Value→SV)(v:Value)(x y:SV):qR (qR g v x) v y=qR g v y:=by
 funext u;unfold qR svIte;split<;>simp_all
theorem qjz{q:Nat→Qt}(h:¬zm q i):gb q (i+1)=gb q i:=by funext v;unfold gb;rw[qex h]
theorem qjA{q:Nat→Qt}(h:¬zm q i):kI q (i+1)=kI q i:=by funext v;unfold kI;rw[qex h]
theorem qjB(q:Nat→Qt):kI q 0=λ_=>.top:=by funext v;unfold kI;simp[byS,oI]
theorem qjC(q:Nat→Qt):gb q 0=λ_=>false:=by funext v;unfold gb;simp[byS]
def dlo(M:Mk)(i k:Nat):Fr:=if (k:Int)<M.run then loS M.q k i else⟨0,0⟩
def dhi(M:Mk)(i k:Nat):Fr:=if (k:Int)<M.run then hiS M.q k i else⟨0,0⟩
abbrev vI(n:Int):SV:=.val (.int .i64 n)
def dkL(run:Int)(m:Nat)(q:Nat→Qt)(lo hi:Nat→Fr)(mid:Nat):List SV:=
 [vI run,.arr false false m 4 (λi j=>qf (q i) j),vI (lo 0).n,vI (lo 0).d,vI (lo 1).n,vI (lo 1).d,vI (lo 2).n,vI (lo 2).d,vI (lo 3).n,vI (lo 3).d,vI (lo 4).n,vI (lo 4).d,
  vI (hi 0).n,vI (hi 0).d,vI (hi 1).n,vI (hi 1).d,vI (hi 2).n,vI (hi 2).d,vI (hi 3).n,vI (hi 3).d,vI (hi 4).n,vI (hi 4).d,.mp mid]
def qN(f:Nat→Fr)(k:Nat)(x:Fr)(j:Nat):Fr:=if j=k then x else f j
section
variable(run:Int)(m:Nat)(q:Nat→Qt)(lo hi:Nat→Fr)(mid:Nat)
theorem qI:(dkL run m q lo hi mid).length=23:=rfl
theorem Jp(h:k<5):k=0∨k=1∨k=2∨k=3∨k=4:=by omega
theorem qqG(h:k<5):((dkL run m q lo hi mid).drop (2+k*2)).take 2=[vI (lo k).n,vI (lo k).d]:=by
 rcases Jp h with rfl|rfl|rfl|rfl|rfl<;>rfl
theorem qnX(h:k<5):((dkL run m q lo hi mid).drop (12+k*2)).take 2=[vI (hi k).n,vI (hi k).d]:=by
 rcases Jp h with rfl|rfl|rfl|rfl|rfl<;>rfl
theorem JE(h:k<5)(x:Fr):(dkL run m q lo hi mid).take (2+k*2)++[vI x.n,vI x.d]++(dkL run m q lo hi mid).drop (2+k*2+2)=dkL run m q (qN lo k x) hi mid:=by
 rcases Jp h with rfl|rfl|rfl|rfl|rfl<;>rfl
theorem JF(h:k<5)(x:Fr):(dkL run m q lo hi mid).take (12+k*2)++[vI x.n,vI x.d]++(dkL run m q lo hi mid).drop (12+k*2+2)=dkL run m q lo (qN hi k x) mid:=by
 rcases Jp h with rfl|rfl|rfl|rfl|rfl<;>rfl
theorem kM:(dkL run m q lo hi mid)[0]? = some (vI run):=rfl
theorem zg:(dkL run m q lo hi mid)[22]? = some (.mp mid):=rfl
end
end Go.Tv
end
