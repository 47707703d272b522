/- A part of the proof. -/
import Derived.Test.YtacejomniokahaaGreatPH
import Derived.Test.YtacejomniokahaaGreatPU
open Nat renaming reduceEqDiff→xa2,le_refl→xa5,zero_add→xb0,add_zero→xb1,zero_le→xb6,sub_self→xb8
set_option linter.unusedVariables false
set_option linter.unusedSimpArgs false
set_option linter.defProp false
set_option maxRecDepth 1000000
set_option maxHeartbeats 16000000
section
namespace Go.Tn
open Go.Proofs
open Go.Sx
theorem TYk:True∧qn Tryz.prog 2=some ⟨false,1,some [.int .i64 0],.int .i64⟩∧qn Tryz.prog 3=some ⟨false,1,some [.int .i64 0],.int .i64⟩∧qn Tryz.prog 4=some ⟨false,1,some [.bool false],.bool⟩∧qn Tryz.prog 5=some ⟨false,1,some [.int .u8 0],.int .u8⟩∧qn Tryz.prog 28=some ⟨false,1,some [.int .i64 0],.int .i64⟩∧qn Tryz.prog 32=some ⟨false,1,some [.slice none 0 0],.slice 2 1⟩∧qn Tryz.prog 92=some ⟨true,4,some [.int .u8 0,.int .u8 0,.int .u8 0,.int .u8 0],.array 4 5 1⟩∧qw Tryz.prog 92=some [(0,1),(1,1),(2,1),(3,1)]∧zk Tryz.prog 92=some [.i .u8,.i .u8,.i .u8,.i .u8]∧qn Tryz.prog 95=some ⟨false,1,some [.slice none 0 0],.slice 101 4⟩∧qn Tryz.prog 97=some ⟨true,3,some [.int .i64 0,.int .i64 0,.slice none 0 0],.struct [(0,1,some false),(1,1,some false),(2,1,some false)]⟩∧qw Tryz.prog 97=some [(0,1),(1,1),(2,1)]∧qn Tryz.prog 99=some ⟨true,2,some [.int .i64 0,.int .i64 0],.struct [(0,1,some false),(1,1,some false)]⟩∧qw Tryz.prog 99=some [(0,1),(1,1)]∧zk Tryz.prog 99=some [.i .i64,.i .i64]∧qn Tryz.prog 101=some ⟨true,4,some [.int .i64 0,.int .i64 0,.int .i64 0,.int .i64 0],.struct [(0,1,some false),(1,1,some false),(2,2,some true)]⟩∧qw Tryz.prog 101=some [(0,1),(1,1),(2,2)]∧zk Tryz.prog 101=some [.i .i64,.i .i64,.i .i64,.i .i64]∧qL Tryz.prog 2=8∧qL Tryz.prog 101=32:=⟨trivial,Ωa,Ωa,Ωa,Ωa,Ωa,Ωa,Ωa,Ωa,Ωa,Ωa,Ωa,Ωa,Ωa,Ωa,Ωa,Ωa,Ωa,Ωa,Ωa,Ωa⟩
theorem qpc{hp:List (Nat×Blk)}{x:Int}:Go.Sx.Sub hp (Go.Tl.I x) (.val (.int .i64 x)):=by simp[Go.Tl.I,Go.Sx.Sub]
def qcj(r:Nat→Int):List SV:=[.val (.int .u8 (r 0)),.val (.int .u8 (r 1)),.val (.int .u8 (r 2)),.val (.int .u8 (r 3))]
theorem qjP{r:Nat→Int}{i:Nat}(h:i<4):(qcj r)[i]? = some (.val (.int .u8 (r i))):=by
 rcases(Ω:i=0∨i=1∨i=2∨i=3)with rfl|rfl|rfl|rfl<;>rfl
def kN:Nat→Nat:=λa=>[0,3,5,6,6].getD a 6
theorem c7(m:Nat)(u:Nat→Int)(hu:∀i,i<m→InK .i64 (u i))(r:Nat→Int)(hr:∀i,i<4→0≤r i∧r i≤255):qc Tryz.prog 7 [ints m u,.agg (qcj r)] (B true):=by
 have h43:=c43;obtain⟨c,hc⟩:∃c:Go.Tl.Curve,c=⟨m,u⟩:=⟨_,rfl⟩;have h42:=Go.Tl.c42 c;refine qh Tryz.func7 rfl Ωa follows Ωa _ _ (by rw[Tryz.ntmps7];exact(by decide:2≤187)) (by simp[OldL,Old,ints,qcj]) ?_;have NB:True:=trivial;unfold B
 conv=>arg 4;unfold ints
 have subc:∀{hp:List (Nat×Blk)},Go.Sx.Sub hp c.sv (.arr false false m 1 (λi _=>.val (.int .i64 (u i)))):=λ{hp}=>by rw[hc];simp[Go.Tl.Curve.sv,Go.Tl.ints,Go.Tl.I,Go.Sx.Sub]
 by_cases hm:10<m
 ·have d1:=decide_eq_true (Ω:(10:Int)<(m:Nat))
  repeat' first|refine sD ?_ ?_<;>intro _|refine aAc ?_|simp -dsimp only[↓RP,RQ,seval,d1,TYQ,TYP,TYk,NB,QR,QT,QN]|exact Ωb|fail
  refine qq h43 ΩZ ΩD ?_;repeat' first|refine sD ?_ ?_<;>intro _|refine aAc ?_|simp -dsimp only[↓RP,RQ,seval,QT,TYQ,TYP,TYk,NB,QR,QN]|exact Ωb|fail
 have d1:=decide_eq_false (Ω:¬(10:Int)<(m:Nat));by_cases he:c.err=0
 case neg=>
  have d2:=decide_eq_false he;repeat' first|refine sD ?_ ?_<;>intro _|refine aAc ?_|simp -dsimp only[↓RP,RQ,seval,d1,TYQ,TYP,TYk,NB,QR,QT,QN]|exact Ωb|fail
  refine qq h42 (by simp only[SubL,and_true];exact subc) (by simp[Fresh,Go.Tl.I]) ?_;repeat' first|refine sD ?_ ?_<;>intro _|refine aAc ?_|simp -dsimp only[↓RP,RQ,seval,Go.Tl.I,d1,d2,TYQ,TYP,TYk,NB,QR,QT,QN]|exact Ωb|fail
  refine qq h43 ΩZ ΩD ?_;repeat' first|refine sD ?_ ?_<;>intro _|refine aAc ?_|simp -dsimp only[↓RP,RQ,seval,QT,TYQ,TYP,TYk,NB,QR,QN]|exact Ωb|fail
 rw[he]at h42;have hF:=Go.Tl.Curve.fine he;have hcm:c.m≤1000000:=by rw[hc];show m≤1000000;omega
 have hM:=Go.Tl.M_bound hF;have h44:∀t:Nat,t≤200→qc Tryz.prog 44 [c.sv,Go.Tl.I t] (.tup [Go.Tl.I (c.M t),Go.Tl.I 0]):=λt ht=>by
  have:=Go.Tl.c44 c hcm t
  rwa [show Go.Tl.mostV c t=(c.M t,0) by unfold Go.Tl.mostV;rw[if_pos he,if_pos Ω,Int.toNat_natCast]]at this
 have hm1:1≤m:=by have:=hF.m1;rw[hc]at this;exact this
 have hu0:u 0=c.M 1:=by
  rw[Go.Tl.M_succ,show min c.m (0+1) - 1=0 by have:=hF.m1;omega];show u 0=c.M 0+c.u 0;rw[Go.Tl.M_zero,hc];show u 0=0+u 0;omega
 repeat' first|refine sD ?_ ?_<;>intro _|refine aAc ?_|simp -dsimp only[↓RP,RQ,seval,d1,TYQ,TYP,TYk,NB,QR,QT,QN]|exact Ωb|fail
 refine qq h42 (by simp only[SubL,and_true];exact subc) (by simp[Fresh,Go.Tl.I]) ?_;repeat' first|refine sD ?_ ?_<;>intro _|refine aAc ?_|simp -dsimp only[↓RP,RQ,seval,Go.Tl.I,d1,TYQ,TYP,TYk,NB,QR,QT,QN]|exact Ωb|fail
 refine qq (h44 1 Ω) ΩE (by simp[Fresh,FreshL,Go.Tl.I]) ?_;repeat' first|refine sD ?_ ?_<;>intro _|refine aAc ?_|simp -dsimp only[↓RP,RQ,seval,Go.Tl.I,hu0,TYQ,TYP,TYk,NB,QR,QT,QN]|exact Ωb|fail
 refine qo (λ(z:Nat×Nat×Nat×(Nat→Nat→SV))=>z.1≤4∧(28<z.2.2.1∧z.2.2.1<z.2.1)∧∀j,j<kN z.1→∀x,x<4→z.2.2.2 j x=(ctL (kH c) j).getD x .top) (λz=>⟨[(0,.arr false false m 1 (λi _=>.val (.int .i64 (u i)))),(3,.ptr 0 0),(7,.ptr 28 0),(8,.val (.int .i64 (z.1:Nat)))],[(28,.cells 97 [.val (.int .i64 4),.val (.int .i64 (c.M 1)),.vec z.2.2.1 (kN z.1) 4]),(z.2.2.1,.rows 101 4 (kN z.1) z.2.2.2),(0,.cells 92 (qcj r))],z.2.1⟩) (λz=>4 - z.1) (0,32,31,λ_ _=>.top) ⟨xb6 _,?a1,λj hj=>absurd hj (Nat.not_lt_zero j)⟩ (Weak.trans (qjk (b:=28) (i:=2) (k:=4) (te:=101) (λ_ _=>.top) Ωq Ωq) (qj (xa5 _) Ωc ?a2)) λz hz=>?_
 case a2=>((repeat' (refine SubHp.ent (by simp[blk,qcj,kN]) ?_));exact λq v hv=>Ωt)
 case a1=>dsimp only;omega
 obtain⟨a,n1,sid,row⟩:=z;obtain⟨ha,⟨hs1,hs2⟩,hrow⟩:=hz;dsimp only at ha hs1 hs2 hrow;dsimp only;clear NB;have NB:=(⟨nmA (Ω:0<n1),nmA (Ω:28<n1),nmA hs2,nmE (Ω:sid≠0),nmE (Ω:sid≠28)⟩:_∧_∧_∧_∧_);by_cases ha4:a<4
 ·have hlt:=decide_eq_true (Ω:((a:Nat):Int)<4)
  repeat' first|refine sD ?_ ?_<;>intro _|refine aAc ?_|simp -dsimp only[↓RP,RQ,seval,hlt,TYQ,TYP,TYk,NB,QR,QT,QN]|exact Ωb|fail
  refine qo (λ(z:Nat×Nat×Nat×(Nat→Nat→SV))=>(a+1≤z.1∧z.1≤4)∧(28<z.2.2.1∧z.2.2.1<z.2.1)∧∀j,j<kN a+(z.1 - a - 1)→∀x,x<4→z.2.2.2 j x=(ctL (kH c) j).getD x .top) (λz=>⟨[(0,.arr false false m 1 (λi _=>.val (.int .i64 (u i)))),(3,.ptr 0 0),(7,.ptr 28 0),(8,.val (.int .i64 (a:Nat))),(9,.val (.int .i64 (z.1:Nat)))],[(28,.cells 97 [.val (.int .i64 4),.val (.int .i64 (c.M 1)),.vec z.2.2.1 (kN a+(z.1 - a - 1)) 4]),(z.2.2.1,.rows 101 4 (kN a+(z.1 - a - 1)) z.2.2.2),(0,.cells 92 (qcj r))],z.2.1⟩) (λz=>4 - z.1) (a+1,_,sid,row) ⟨⟨xa5 _,ha4⟩,⟨hs1,?b1⟩,λj hj=>hrow j (by rwa [show kN a+(a+1 - a - 1)=kN a by omega]at hj)⟩ (qj (xa5 _) Ωc ?b2) λz hz=>?_
  case b1=>dsimp only;omega
  case b2=>dsimp only;rw[show kN a+(a+1 - a - 1)=kN a by omega];exact λq v hv=>hv
  obtain⟨b,n2,sid2,row2⟩:=z;obtain⟨⟨hb1,hb2⟩,⟨hs3,hs4⟩,hrow2⟩:=hz;dsimp only at hb1 hb2 hs3 hs4 hrow2;dsimp only;clear NB;have NB:=(⟨nmA (Ω:0<n2),nmA (Ω:28<n2),nmA hs4,nmE (Ω:sid2≠0),nmE (Ω:sid2≠28)⟩:_∧_∧_∧_∧_);have hkN:kN a+(b - a - 1)≤6:=by
   rcases(Ω:a=0∨a=1∨a=2∨a=3)with rfl|rfl|rfl|rfl<;>simp[kN]<;>omega
  by_cases hb4:b<4
  ·have hlt2:=decide_eq_true (Ω:((b:Nat):Int)<4)
   have hMk:=hM (b - a+1);have hcall:=h44 (b - a+1) Ω;rw[show((b - a+1:Nat):Int)=(b:Int) -(a:Int)+1 by omega]at hcall;have h45:=c45 (a:Nat) (b:Nat) 0 (c.M (b - a+1));have hjf:kf (kN a+(b - a - 1))=a∧kt (kN a+(b - a - 1))=b:=by
    rcases(Ω:a=0∧b=1∨a=0∧b=2∨a=0∧b=3∨a=1∧b=2∨a=1∧b=3∨a=2∧b=3)with⟨rfl,rfl⟩|⟨rfl,rfl⟩|⟨rfl,rfl⟩|⟨rfl,rfl⟩|⟨rfl,rfl⟩|⟨rfl,rfl⟩<;>decide
   obtain⟨N,hN⟩:∃N,N=kN a+(b - a - 1):=⟨_,rfl⟩;obtain⟨X,hX⟩:∃X,X=c.M (b - a+1):=⟨_,rfl⟩;rw[←hX]at hcall h45 hMk;have d3:=decide_eq_false (Ω:¬X<0);have d4:=decide_eq_false (Ω:¬10000000<X);rw[←hN]at hjf hkN hrow2 ⊢;repeat' first|refine sD ?_ ?_<;>intro _|refine aAc ?_|simp -dsimp only[↓RP,RQ,seval,hlt2,TYQ,TYP,TYk,NB,QR,QT,QN]|exact Ωb|fail
   refine qq hcall ΩE (by simp[Fresh,FreshL,Go.Tl.I]) ?_;repeat' first|refine sD ?_ ?_<;>intro _|refine aAc ?_|simp -dsimp only[↓RP,RQ,seval,Go.Tl.I,d3,d4,TYQ,TYP,TYk,NB,QR,QT,QN]|exact Ωb|fail
   refine qq h45 (by simp only[SubL,and_true];exact⟨zQ,zQ,zQ,zQ⟩) Ω7 ?_;repeat' first|refine sD ?_ ?_<;>intro _|refine aAc ?_|simp -dsimp only[↓RP,RQ,seval,QT,TYQ,TYP,TYk,NB,QR,QN]|exact Ωb|fail
   refine⟨⟨.inr trivial,xa5 _,λi j hi hj=>?o1,?o2⟩,by simp only[InK];omega,(b+1,_,n2+30,λi j=>if i<N then row2 i j else [SV.val (.int .i64 (a:Nat)),SV.val (.int .i64 (b:Nat)),SV.val (.int .i64 0),SV.val (.int .i64 X)].getD ((i - N)*4+j) .top),⟨⟨Ωg,Ωg⟩,⟨Ωg,?o4⟩,?o5⟩,Ωg,qj (xa5 _) Ωc ?o6⟩
   case o1=>
    obtain rfl:i=0:=by omega
    rcases(Ω:j=0∨j=1∨j=2∨j=3)with rfl|rfl|rfl|rfl<;>rfl
   case o2=>omega
   case o4=>dsimp only;omega
   case o5=>
    intro j hj x hx;dsimp only at hj ⊢;rw[show kN a+(b+1 - a - 1)=N+1 by omega]at hj;by_cases e:j<N
    ·rw[if_pos e];exact hrow2 j e x hx
    ·obtain rfl:j=N:=by omega
     rw[if_neg e,xb8,Nat.zero_mul,xb0];show _=[SV.val (.int .i64 (kf j:Nat)),.val (.int .i64 (kt j:Nat)),.val (.int .i64 0),.val (.int .i64 (c.M (kt j - kf j+1)))].getD x .top;rw[hjf.1,hjf.2,←hX]
   case o6=>dsimp only;rw[show kN a+(b+1 - a - 1)=N+1 by omega];((repeat' (refine SubHp.ent Ωo ?_));exact λq v hv=>Ωt)
  ·obtain rfl:b=4:=by omega
   have hlt2:=decide_eq_false (Ω:¬((4:Nat):Int)<4);have hk4:kN a+(4 - a - 1)=kN (a+1):=by
    rcases(Ω:a=0∨a=1∨a=2∨a=3)with rfl|rfl|rfl|rfl<;>rfl
   rw[hk4]at hrow2 ⊢;repeat' first|refine sD ?_ ?_<;>intro _|refine aAc ?_|simp -dsimp only[↓RP,RQ,seval,hlt2,TYQ,TYP,TYk,NB,QR,QT,QN]|exact Ωb|fail
   refine⟨(a+1,_,sid2,row2),⟨ha4,⟨hs3,?p1⟩,hrow2⟩,Ωg,qj (xa5 _) Ωc (λq v hv=>hv)⟩
   case p1=>dsimp only;omega
 obtain rfl:a=4:=by omega
 have hlt:=decide_eq_false (Ω:¬((4:Nat):Int)<4);have hrow6:∀j,j<6→∀x,x<4→row j x=(ctL (kH c) j).getD x .top:=hrow;rw[show kN 4=6 from rfl];repeat' first|refine sD ?_ ?_<;>intro _|refine aAc ?_|simp -dsimp only[↓RP,RQ,seval,hlt,TYQ,TYP,TYk,NB,QR,QT,QN]|exact Ωb|fail
 refine qo (λ(z:Nat×Nat×Nat×(Nat→Nat→SV))=>z.1≤4∧(n1≤z.2.2.1∧z.2.2.1<z.2.1)∧∀j,j<z.1→z.2.2.2 j 0=.val (.int .i64 (r j))) (λz=>⟨[(0,.arr false false m 1 (λi _=>.val (.int .i64 (u i)))),(3,.ptr 0 0),(7,.ptr 28 0),(12,.vec z.2.2.1 z.1 1),(13,.val (.int .i64 (z.1:Nat)))],[(z.2.2.1,.rows 2 1 z.1 z.2.2.2),(28,.cells 97 [.val (.int .i64 4),.val (.int .i64 (c.M 1)),.vec sid 6 4]),(sid,.rows 101 4 6 row),(0,.cells 92 (qcj r))],z.2.1⟩) (λz=>4 - z.1) (0,n1+5,n1+4,λ_ _=>.top) ⟨xb6 _,?q1,λj hj=>absurd hj (Nat.not_lt_zero j)⟩ (Weak.trans (Wm (t:=2) (k:=1) (d:=12) (λ_ _=>.top) Ωq) (qj (xa5 _) (by simp[qI,Go.Sx.look,putFr]) ?q2)) λz hz=>?_
 case q1=>dsimp only;omega
 case q2=>((repeat' (refine SubHp.ent (by simp only[blk,NB,jg,jh,xa2,xb1,if_false,if_true];try rfl) ?_));exact λq v hv=>Ωt)
 obtain⟨i,n3,wid,wrow⟩:=z;obtain⟨hi,⟨hw1,hw2⟩,hwr⟩:=hz;dsimp only at hi hw1 hw2 hwr;dsimp only;clear NB;have NB:=(⟨nmA (Ω:0<n3),nmA (Ω:28<n3),nmA (Ω:sid<n3),nmA hw2,nmE (Ω:sid≠0),nmE (Ω:sid≠28),nmE (Ω:wid≠0),nmE (Ω:wid≠28),nmE (Ω:wid≠sid)⟩:_∧_∧_∧_∧_∧_∧_∧_∧_);by_cases hi4:i<4
 ·have hlt:=decide_eq_true (Ω:((i:Nat):Int)<4)
  have g1:=qjP (r:=r) hi4;have hri:=hr i hi4;repeat' first|refine sD ?_ ?_<;>intro _|refine aAc ?_|simp -dsimp only[↓RP,RQ,seval,hlt,g1,TYQ,TYP,TYk,NB,QR,QT,QN]|exact Ωb|fail
  refine⟨(i+1,_,n3+8,λa b=>if a<i then wrow a b else [SV.val (.int .i64 (r i))].getD (a - i+b) .top),⟨hi4,⟨?r1,?r2⟩,?r3⟩,Ωg,qj (xa5 _) Ωc ?r4⟩
  case r1=>dsimp only;omega
  case r2=>dsimp only;omega
  case r3=>
   intro j hj;dsimp only at hj ⊢;by_cases e:j<i
   ·rw[if_pos e];exact hwr j e
   ·obtain rfl:j=i:=by omega
    rw[if_neg e,xb8];rfl
  case r4=>((repeat' (refine SubHp.ent Ωo ?_));exact λq v hv=>Ωt)
 obtain rfl:i=4:=by omega
 have hlt:=decide_eq_false (Ω:¬((4:Nat):Int)<4);have h46:=Go.Tl.c46 c ⟨4,r⟩ hcm (by show 4≤1000000;omega);have hH:=qmu hF;have h47:=c47 (kH c) hH 4 r Ω;have subw:∀{hp:List (Nat×Blk)},blk hp wid=some (.rows 2 1 4 wrow)→Go.Sx.Sub hp (Go.Tl.Curve.sv ⟨4,r⟩) (.vec wid 4 1):=λ{hp} hb=>by
  simp only[Go.Tl.Curve.sv,Go.Tl.ints,Go.Sx.Sub,hb];refine⟨trivial,trivial,trivial,xa5 _,trivial,λi j hi hj=>?_⟩;obtain rfl:j=0:=by omega
  rw[hwr i hi]
 have subh:∀{hp:List (Nat×Blk)},blk hp sid=some (.rows 101 4 6 row)→Go.Sx.Sub hp (haS (kH c)) (.agg [.val (.int .i64 4),.val (.int .i64 (c.M 1)),.vec sid 6 4]):=λ{hp} hb=>by
  unfold haS ctR;refine⟨rfl,rfl,?_,rfl⟩;simp only[Go.Sx.Sub,hb];refine⟨trivial,rfl,trivial,xa5 _,trivial,λi j hi hj=>?_⟩;rw[hrow6 i hi j hj];exact qA _ (by unfold ctL;exact qkO (P:=Old) ΩC ΩC ΩC ΩC j hj)
 repeat' first|refine sD ?_ ?_<;>intro _|refine aAc ?_|simp -dsimp only[↓RP,RQ,seval,hlt,TYQ,TYP,TYk,NB,QR,QT,QN]|exact Ωb|fail
 refine qq h46 (by simp only[SubL,and_true];exact⟨subc,subw Ωs⟩) (by simp[Fresh,FreshL,Go.Tl.tup3,Go.Tl.I]) ?_;repeat' first|refine sD ?_ ?_<;>intro _|refine aAc ?_|simp -dsimp only[↓RP,RQ,seval,Go.Tl.tup3,Go.Tl.I,TYQ,TYP,TYk,NB,QR,QT,QN]|exact Ωb|fail
 have kb:=qlw hF he r hr;have h48:=Go.Tl.c48 c hF 4 Ω;obtain⟨kc1,kc2⟩:=qce hF;obtain⟨bv,hbv⟩:∃bv,bv=(Go.Tl.breakV c ⟨4,r⟩).2.2:=⟨_,rfl⟩;obtain⟨ck,hck⟩:∃ck,ck=ckT (kH c) 4 r:=⟨_,rfl⟩;rw[←hbv,←hck]at kb;rw[←hbv];have h47b:=c47 (kH c) hH 4 (λj=>c.M (j+1) - c.M j) Ω;have h49b:=c49 (kH c) hH 4 (λj=>c.M (j+1) - c.M j) Ω;rw[kc1]at h47b h49b;apply ZJ (P:=Tryz.prog) (O:=⟨[],0,false,zr⟩) (λ(x:Nat×Nat)=>(sid<x.1∧x.1<x.2)) (λx=>⟨[(0,.arr false false m 1 (λi _=>.val (.int .i64 (u i)))),(7,.ptr 28 0),(18,.vec x.1 4 1),(19,.val (.int .i64 0))],[(x.1,.rows 2 1 4 (λj _=>.val (.int .i64 (c.M (j+1) - c.M j)))),(28,.cells 97 [.val (.int .i64 4),.val (.int .i64 (c.M 1)),.vec sid 6 4]),(sid,.rows 101 4 6 row)],x.2⟩)
 case main=>
  intro key;refine qq h47 (by simp only[SubL,and_true];exact⟨subh Ωs,vk Ωs hwr⟩) (by simp[Fresh,I]) ?_;rw[←hck];have hsn:sid<n3:=by omega
  have e50:decide ((5:Int)=0)=false:=rfl;have e05:decide ((0:Int)=5)=false:=rfl;rcases kb with⟨b1,b2⟩|⟨b1,b2⟩
  ·have d5:=decide_eq_true b2
   rw[b1];repeat' first|refine sD ?_ ?_<;>intro _|refine aAc ?_|simp -dsimp only[↓RP,RQ,seval,QT,d5,e50,e05,TYQ,TYP,TYk,NB,QR,QN]|exact Ωb|fail
   refine callN h48 ΩE (by simp[FreshO,FreshOL,Go.Tl.I]) (by simp[FreshB,Go.Tl.I,Fresh]) ?_;repeat' first|refine sD ?_ ?_<;>intro _|refine aAc ?_|simp -dsimp only[↓RP,RQ,seval,Go.Tl.I,setId,setIdL,TYQ,TYP,TYk,NB,QR,QT,QN]|exact Ωb|fail
   refine qq h47b Ωv (by simp[Fresh,I]) ?_;repeat' first|refine sD ?_ ?_<;>intro _|refine aAc ?_|simp -dsimp only[↓RP,RQ,seval,QT,TYQ,TYP,TYk,NB,QR,QN]|exact Ωb|fail
   refine qq h49b Ωv (by simp[Fresh,I]) ?_;repeat' first|refine sD ?_ ?_<;>intro _|refine aAc ?_|simp -dsimp only[↓RP,RQ,seval,QT,TYQ,TYP,TYk,NB,QR,QN]|exact Ωb|fail
   refine(key (n3+30,n3+56) ⟨Ωg,Ωg⟩).weak (qj (xa5 _) Ωc ?y1)
   case y1=>((repeat' (refine SubHp.ent Ωo ?_));exact λq v hv=>Ωt)
  ·have d5:=decide_eq_false b2
   rw[b1];repeat' first|refine sD ?_ ?_<;>intro _|refine aAc ?_|simp -dsimp only[↓RP,RQ,seval,QT,d5,e50,e05,TYQ,TYP,TYk,NB,QR,QN]|exact Ωb|fail
   refine callN h48 ΩE (by simp[FreshO,FreshOL,Go.Tl.I]) (by simp[FreshB,Go.Tl.I,Fresh]) ?_;repeat' first|refine sD ?_ ?_<;>intro _|refine aAc ?_|simp -dsimp only[↓RP,RQ,seval,Go.Tl.I,setId,setIdL,TYQ,TYP,TYk,NB,QR,QT,QN]|exact Ωb|fail
   refine qq h47b Ωv (by simp[Fresh,I]) ?_;repeat' first|refine sD ?_ ?_<;>intro _|refine aAc ?_|simp -dsimp only[↓RP,RQ,seval,QT,TYQ,TYP,TYk,NB,QR,QN]|exact Ωb|fail
   refine qq h49b Ωv (by simp[Fresh,I]) ?_;repeat' first|refine sD ?_ ?_<;>intro _|refine aAc ?_|simp -dsimp only[↓RP,RQ,seval,QT,TYQ,TYP,TYk,NB,QR,QN]|exact Ωb|fail
   refine(key (n3+30,n3+56) ⟨Ωg,Ωg⟩).weak (qj (xa5 _) Ωc ?y2)
   case y2=>((repeat' (refine SubHp.ent Ωo ?_));exact λq v hv=>Ωt)
 case key=>
  rintro⟨lid,n4⟩ ⟨hl1,hl2⟩;dsimp only at hl1 hl2 ⊢;refine qo (λ(z:Nat×Nat)=>z.1≤4∧lid<z.2) (λz=>⟨[(0,.arr false false m 1 (λi _=>.val (.int .i64 (u i)))),(7,.ptr 28 0),(18,.vec lid 4 1),(19,.val (.int .i64 (z.1:Nat)))],[(lid,.rows 2 1 4 (λj _=>.val (.int .i64 (c.M (j+1) - c.M j)))),(28,.cells 97 [.val (.int .i64 4),.val (.int .i64 (c.M 1)),.vec sid 6 4]),(sid,.rows 101 4 6 row)],z.2⟩) (λz=>4 - z.1) (0,n4) ⟨xb6 _,hl2⟩ (qj (xa5 _) Ωc (λq v hv=>hv)) λz hz=>?_;obtain⟨k,n5⟩:=z;obtain⟨hk,hn5⟩:=hz;dsimp only at hk hn5;dsimp only;clear NB;have NB:=(⟨nmE (Ω:lid≠28),nmE (Ω:lid≠sid),nmE (Ω:sid≠28),nmA hn5,nmA (Ω:sid<n5),nmA (Ω:28<n5)⟩:_∧_∧_∧_∧_∧_);by_cases hk4:k<4
  ·have hlt:=decide_eq_true (Ω:((k:Nat):Int)<4)
   have hcall:=h44 (k+1) Ω;rw[show((k+1:Nat):Int)=(k:Int)+1 by omega]at hcall;rcases c50 (kH c) hH 0 k (xb6 _) hk4 with⟨D,E,hD,hE,h50⟩|⟨hno,_⟩
   case inr=>exact absurd ((Ww (h:=kH c)).1 kc1) (hno _)
   obtain⟨q1,q2⟩:=qny hF hk4 hD hE;have h51:=c51 4 (λj=>c.M (j+1) - c.M j) 0 k (xb6 _) hk4 Ω ?bd
   case bd=>
    intro i hi;have:=Go.Tl.M_mono hF (i+1) i Ω;have:=hM (i+1);have:=hM i;omega
   rw[kc2 (k+1) Ω,kc2 0 Ω,Go.Tl.M_zero]at h51;rw[q1,q2]at h50;repeat' first|refine sD ?_ ?_<;>intro _|refine aAc ?_|simp -dsimp only[↓RP,RQ,seval,hlt,TYQ,TYP,TYk,NB,QR,QT,QN]|exact Ωb|fail
   refine qq h50 (by simp only[SubL,and_true];exact⟨subh Ωs,zQ,zQ⟩) Ω7 ?_;repeat' first|refine sD ?_ ?_<;>intro _|refine aAc ?_|simp -dsimp only[↓RP,RQ,seval,QT,TYQ,TYP,TYk,NB,QR,QN]|exact Ωb|fail
   refine qq hcall ΩE (by simp[Fresh,FreshL,Go.Tl.I]) ?_;repeat' first|refine sD ?_ ?_<;>intro _|refine aAc ?_|simp -dsimp only[↓RP,RQ,seval,Go.Tl.I,TYQ,TYP,TYk,NB,QR,QT,QN]|exact Ωb|fail
   refine qq h51 (by simp only[SubL,and_true];exact⟨vk (by simp[blk,NB];rfl) (λi hi=>rfl),zQ,zQ⟩) Ω7 ?_;repeat' first|refine sD ?_ ?_<;>intro _|refine aAc ?_|simp -dsimp only[↓RP,RQ,seval,QT,TYQ,TYP,TYk,NB,QR,QN]|exact Ωb|fail
   refine⟨(k+1,_),⟨hk4,?z1⟩,Ωg,qj (xa5 _) Ωc ?z2⟩
   case z1=>dsimp only;omega
   case z2=>((repeat' (refine SubHp.ent Ωo ?_));exact λq v hv=>Ωt)
  ·obtain rfl:k=4:=by omega
   have hlt:=decide_eq_false (Ω:¬((4:Nat):Int)<4);repeat' first|refine sD ?_ ?_<;>intro _|refine aAc ?_|simp -dsimp only[↓RP,RQ,seval,hlt,TYQ,TYP,TYk,NB,QR,QT,QN]|exact Ωb|fail
   refine qq h43 ΩZ ΩD ?_;repeat' first|refine sD ?_ ?_<;>intro _|refine aAc ?_|simp -dsimp only[↓RP,RQ,seval,QT,TYQ,TYP,TYk,NB,QR,QN]|exact Ωb|fail
end Go.Tn
end
