/- A part of the proof. -/
import Derived.Test.YtacejomniokahaaGreatPF
open Nat renaming reduceMul→xa0,reduceAdd→xa1,reduceEqDiff→xa2,reduceLT→xa3,reduceLeDiff→xa4,le_refl→xa5,add_assoc→xb2,zero_testBit→xb3,zero_le→xb6
open List renaming getD_eq_getElem?_getD→xc6
open Bool renaming false_and→xf2
set_option linter.unusedVariables false
set_option linter.unusedSimpArgs false
set_option linter.defProp false
set_option maxRecDepth 1000000
set_option maxHeartbeats 16000000
section
namespace Go.Tv
open Go.Proofs
open Go.Sx
theorem qeA{a n:Nat}(h:a+7≤n):((∀k,(a=n+k)=False)∧(∀k,(n+k=a)=False)∧(a=n)=False∧(n=a)=False)∧((n=a+1)=False∧(a+1=n)=False∧(n=a+2)=False∧(a+2=n)=False∧(n=a+3)=False∧(a+3=n)=False∧(n=a+4)=False∧(a+4=n)=False∧(n=a+5)=False∧(a+5=n)=False∧(n=a+6)=False∧(a+6=n)=False)∧((∀k,(a+1=n+k)=False)∧(∀k,(n+k=a+1)=False)∧(∀k,(a+2=n+k)=False)∧(∀k,(n+k=a+2)=False)∧(∀k,(a+3=n+k)=False)∧(∀k,(n+k=a+3)=False)∧(∀k,(a+4=n+k)=False)∧(∀k,(n+k=a+4)=False)∧(∀k,(a+5=n+k)=False)∧(∀k,(n+k=a+5)=False)):=by
 refine⟨⟨λk=>?_,λk=>?_,?_,?_⟩,⟨?_,?_,?_,?_,?_,?_,?_,?_,?_,?_,?_,?_⟩,⟨λk=>?_,λk=>?_,λk=>?_,λk=>?_,λk=>?_,λk=>?_,λk=>?_,λk=>?_,λk=>?_,λk=>?_⟩⟩<;>(rw[eq_iff_iff,iff_false];omega)
abbrev mpB(M:Mk)(i:Nat):Blk:=.map kfS (gb M.q i) (kI M.q i)
abbrev qjD(M:Mk):Blk:=.cells 84 [.val (.int .i64 M.run),.arr false false M.m 4 (λi j=>qf (M.q i) j)]
abbrev dkB(M:Mk)(lo hi:Nat→Fr)(mid:Nat):Blk:=.cells 313 (dkL M.run M.m M.q lo hi mid)
theorem qry(M:Mk)(i:Nat)(h:¬zm M.q i):dlo M (i+1)=dlo M i∧dhi M (i+1)=dhi M i∧mpB M (i+1)=mpB M i:=by
 refine⟨?_,?_,?_⟩
 ·funext k
  unfold dlo;split
  ·simp only[loS]
   rw[if_neg];rintro⟨e1,e2,e3⟩;refine h ?_;unfold zm;rw[if_pos e2,e1];exact e3
  ·rfl
 ·funext k
  unfold dhi;split
  ·simp only[hiS]
   rw[if_neg];rintro⟨e1,e2,e3⟩;refine h ?_;unfold zm;rw[if_neg (by rw[e2];decide),e1];exact e3
  ·rfl
 ·show Blk.map kfS (gb M.q (i+1)) (kI M.q (i+1))=_
  rw[qjz h,qjA h]
theorem qoO(M:Mk)(i:Nat){k:Nat}(hk:(M.q i).r=k)(hr:(k:Int)<M.run)(hl:(M.q i).l=true)(h:zm M.q i):dlo M (i+1)=qN (dlo M i) k (xq (M.q i))∧dhi M (i+1)=dhi M i:=by
 have h0:=h;unfold zm at h;rw[if_pos hl,hk]at h;constructor
 ·funext j
  unfold qN;by_cases e:j=k
  ·subst e
   rw[if_pos rfl];unfold dlo;rw[if_pos hr];simp only[loS];rw[if_pos ⟨hk,hl,h⟩]
  ·rw[if_neg e]
   unfold dlo;split
   ·simp only[loS]
    rw[if_neg];rintro⟨e1,_⟩;omega
   ·rfl
 ·funext j
  unfold dhi;split
  ·simp only[hiS]
   rw[if_neg];rintro⟨_,e1,_⟩;rw[hl]at e1;cases e1
  ·rfl
theorem qoP(M:Mk)(i:Nat){k:Nat}(hk:(M.q i).r=k)(hr:(k:Int)<M.run)(hl:(M.q i).l=false)(h:zm M.q i):dhi M (i+1)=qN (dhi M i) k (xq (M.q i))∧dlo M (i+1)=dlo M i:=by
 have h0:=h;unfold zm at h;rw[if_neg (by rw[hl];decide),hk]at h;constructor
 ·funext j
  unfold qN;by_cases e:j=k
  ·subst e
   rw[if_pos rfl];unfold dhi;rw[if_pos hr];simp only[hiS];rw[if_pos ⟨hk,hl,h⟩]
  ·rw[if_neg e]
   unfold dhi;split
   ·simp only[hiS]
    rw[if_neg];rintro⟨e1,_⟩;omega
   ·rfl
 ·funext j
  unfold dlo;split
  ·simp only[loS]
   rw[if_neg];rintro⟨_,e1,_⟩;rw[hl]at e1;cases e1
  ·rfl
theorem qeB{q:Nat→Qt}{i:Nat}(h:zm q i)(hd:gb q i (kv (q i).r (q i).l)=true):gb q i=gb q (i+1):=by
 rw[←Yh h];funext v;unfold zy;cases he:eqK (kv (q i).r (q i).l) v with
 |true=>rw[eqK_kv.1 he,hd];rfl
 |false=>rfl
def qjE:Bool→Bool→Blk→Blk→Blk→Blk
 |_,true,_,_,z=>z
 |true,false,_,y,_=>y
 |false,false,x,_,_=>x
def qmx:Bool→(Nat→Fr)→(Nat→Fr)→Nat→Fr
 |true,x,_=>x
 |false,_,y=>y
theorem zZ(x y:Nat→Fr):qmx true x y=x:=rfl
theorem z8(x y:Nat→Fr):qmx false x y=y:=rfl
theorem z9(b:Bool)(x y z:Blk):qjE b true x y z=z:=by cases b<;>rfl
theorem kO(x y z:Blk):qjE true false x y z=y:=rfl
theorem ka(x y z:Blk):qjE false false x y z=x:=rfl
theorem Gn{id a b c:Nat}{A B C D E F:Blk}{rest:List (Nat×Blk)}(hr:Under rest id)(ha:id+7≤a)(hb:id+7≤b)(hc:id+7≤c):SubHp ((a,A) ::(b,B) ::(c,C) ::(id+5,D) ::(id+3,E) ::(id,F) :: rest) ((id+5,D) ::(id+3,E) ::(id,F) :: rest):=by
 have key:∀n,id+7≤n→blk ((id+5,D) ::(id+3,E) ::(id,F) :: rest) n=none:=λn hn=>by
  simp only[blk];rw[if_neg Ω,if_neg Ω,if_neg Ω];exact hr.none Ω
 exact SubHp.skip (key a ha) (SubHp.skip (key b hb) (SubHp.skip (key c hc) (SubHp.refl _)))
theorem JG:kP Tryz.prog 315=some (true,[Lf.i .i64,Lf.b]):=by kernel_rfl
def ini(M:Mk)(i:Nat)(x:Fr)(k:Nat):Fr:=if k<i then x else⟨0,0⟩
theorem qeC(M:Mk)(i:Nat)(x:Fr):qN (ini M i x) i x=ini M (i+1) x:=by
 funext k;unfold qN ini;by_cases e:k=i
 ·rw[if_pos e,if_pos Ω]
 ·rw[if_neg e]
  by_cases e2:k<i
  ·rw[if_pos e2,if_pos Ω]
  ·rw[if_neg e2,if_neg Ω]
theorem qoQ(M:Mk)(i:Nat)(h:(i:Int)=M.run):ini M i ⟨0,1⟩=dlo M 0:=by
 funext k;unfold ini dlo;by_cases e:k<i
 ·rw[if_pos e,if_pos Ω];rfl
 ·rw[if_neg e,if_neg Ω]
theorem qoR(M:Mk)(i:Nat)(h:(i:Int)=M.run):ini M i ⟨1,1⟩=dhi M 0:=by
 funext k;unfold ini dhi;by_cases e:k<i
 ·rw[if_pos e,if_pos Ω];rfl
 ·rw[if_neg e,if_neg Ω]
theorem qqH(M:Mk)(hf:M.Fine)(id:Nat)(rest:List (Nat×Blk))(hr:Under rest id):EffVC Tryz.prog 103 [M.sv] rest id (λhp' nid' res=>
  hp'=(id+5,dkB M (dlo M M.m) (dhi M M.m) (id+3)) ::(id+3,mpB M M.m) ::(id,qjD M) :: rest∧id+7≤nid'∧res=.ptr (id+5) 0):=by
 refine yP (qV [(10,[(47,7),(49,7)]),(12,[(0,0)]),(14,[(0,0)])]) follows Tryz.func103 rfl Ωb Ωb (by rw[Tryz.ntmps103];simp) λout=>?_;have hr0:blk rest id=none:=hr.none (xa5 _);have NB:True:=trivial;have hlen:∀run m q lo hi mid,(dkL run m q lo hi mid).length=23:=qI;have hr5:=hf.r5;have hr1:=hf.r1;have hm:=hf.m12
 conv=>arg 4;unfold Mk.sv qts I
 (repeat' first|refine sD ?_ ?_<;>intro _|refine aA ?_|simp -dsimp only[↓RP,RQ,xa0,reduceIte,reduceCtorEq,xa1,xa2,xa3,xa4,↓RW,NB,hr0,hlen,QS,ql,QF,fsv,B,I,RZ,eq_self,Tryz.results103]);refine qo (λ(z:Nat×Nat)=>(z.1:Int)≤M.run∧id+7≤z.2) (λz=>⟨[(1,.ptr id 0),(2,.val (.pointer none)),(3,.ptr (id+5) 0),(14,.val (.int .i64 M.run)),(15,.val (.int .i64 z.1))],(id+5,dkB M (ini M z.1 ⟨0,1⟩) (ini M z.1 ⟨1,1⟩) (id+3)) ::(id+3,mpB M 0) ::(id,qjD M) :: rest,z.2⟩) (λz=>(M.run - z.1).toNat) (0,id+10) ⟨by simp only[];omega,by simp only[];omega⟩ (za ?_ ?_) λz hz=>?_
 ·simp[zj,Go.Sx.look]
 ·rw[show mpB M 0=.map kfS (λ_=>false) (λ_=>.top) by show(Blk.map kfS (gb M.q 0) (kI M.q 0))=_;rw[qjC,qjB]]
  exact SubHp.refl _
 obtain⟨i,nid⟩:=z;obtain⟨hz1,hz2⟩:=hz;simp only[]at hz1 hz2;have NB:=qeA hz2;by_cases hlt:(i:Int)<M.run
 ·have hi5:i<5:=by omega
  have gs1:=JE M.run M.m M.q (ini M i ⟨0,1⟩) (ini M i ⟨1,1⟩) (id+3) hi5 ⟨0,1⟩;have gs2:=JF M.run M.m M.q (qN (ini M i ⟨0,1⟩) i ⟨0,1⟩) (ini M i ⟨1,1⟩) (id+3) hi5 ⟨1,1⟩;simp only[xb2]at gs1 gs2;repeat' first|refine sD ?_ ?_<;>intro _|refine aA ?_|simp -dsimp only[↓RP,RQ,xa0,reduceIte,reduceCtorEq,xa1,xa2,xa3,xa4,gs1,gs2,↓RW,NB,hr0,hlen,QS,ql,QF,fsv,B,I,RZ,eq_self,Tryz.results103]
  all_goals try(exfalso;omega)
  refine⟨(i+1,nid+19),⟨by simp only[];omega,by simp only[];omega⟩,by simp only[];omega,za ?_ ?_⟩
  ·simp[zj,Go.Sx.look]
  ·rw[qeC,qeC]
   exact SubHp.refl _
 have ei:(i:Int)=M.run:=by omega
 rw[qoQ M i ei,qoR M i ei];repeat' first|refine sD ?_ ?_<;>intro _|refine aA ?_|simp -dsimp only[↓RP,RQ,xa0,reduceIte,reduceCtorEq,xa1,xa2,xa3,xa4,↓RW,NB,hr0,hlen,QS,ql,QF,fsv,B,I,RZ,eq_self,Tryz.results103]
 all_goals try(exfalso;omega)
 refine qo (λ(z:Nat×Nat)=>z.1≤M.m∧id+7≤z.2) (λz=>⟨[(1,.ptr id 0),(2,.val (.pointer none)),(3,.ptr (id+5) 0),(32,.arr false false M.m 4 (λi j=>qf (M.q i) j)),(33,.val (.int .i64 M.m)),(34,.val (.int .i64 z.1))],(id+5,dkB M (dlo M z.1) (dhi M z.1) (id+3)) ::(id+3,mpB M z.1) ::(id,qjD M) :: rest,z.2⟩) (λz=>M.m - z.1) (0,nid+5) ⟨xb6 _,by simp only[];omega⟩ (za ?_ ?_) λz hz=>?_
 ·simp[zj,Go.Sx.look]
 ·exact SubHp.refl _
 clear hz1 hz2 ei NB;obtain⟨i,nid⟩:=z;obtain⟨hz1,hz2⟩:=hz;simp only[]at hz1 hz2;have NB:=qeA hz2;by_cases hlt:i<M.m
 ·have hq:=hf.od i hlt
  have hst:=hf.st i hlt;obtain⟨k,hk⟩:∃k:Nat,(M.q i).r=k:=⟨(M.q i).r.toNat,Ω⟩;rw[hk]at hst;have k5:k<5:=by omega
  have⟨xc,xp,_⟩:=qaT hq;have kx:=qoL ⟨(M.q i).d,(M.q i).d+(M.q i).n⟩ (by show 0<(M.q i).d+(M.q i).n;omega) (by show(M.q i).d+(M.q i).n≤_;omega) (by show _≤(M.q i).d;omega) (by show(M.q i).d≤_;omega);rw[show red ⟨(M.q i).d,(M.q i).d+(M.q i).n⟩=xq (M.q i)from rfl]at kx;have el:dlo M i k=loS M.q k i:=by unfold dlo;rw[if_pos hst.2]
  have eh:dhi M i k=hiS M.q k i:=by unfold dhi;rw[if_pos hst.2]
  have gl:=qqG M.run M.m M.q (dlo M i) (dhi M i) (id+3) k5;have gh:=qnX M.run M.m M.q (dlo M i) (dhi M i) (id+3) k5;rw[el]at gl;rw[eh]at gh;have cl:=yu (q:=M.q) (r:=k) (m:=i) λj hj=>hf.od j Ω;have ch:=yv (q:=M.q) (r:=k) (m:=i) λj hj=>hf.od j Ω;have n1:=cl.in1 xc;have n2:=xc.in1 cl;have n3:=ch.in1 xc;have n4:=xc.in1 ch;have hbet:zm M.q i↔if (M.q i).l=true then lt (loS M.q (M.q i).r i) (xq (M.q i))else lt (xq (M.q i)) (hiS M.q (M.q i).r i):=Iff.rfl
  rw[hk]at hbet;have hno:¬zm M.q i→dlo M (i+1)=dlo M i∧dhi M (i+1)=dhi M i∧mpB M (i+1)=mpB M i:=qry M i;cases hl:(M.q i).l
  ·rw[hl,if_neg Ωq]at hbet
   repeat' first|refine sD ?_ ?_<;>intro _|refine aA ?_|simp -dsimp only[↓RP,RQ,xa0,reduceIte,reduceCtorEq,xa1,xa2,xa3,xa4,hk,hl,↓RW,NB,hr0,hlen,QS,ql,QF,fsv,B,I,RZ,eq_self,Tryz.results103]
   all_goals try(exfalso;omega)
   refine qh kx Ωd Ωa ?_;repeat' first|refine sD ?_ ?_<;>intro _|refine aA ?_|simp -dsimp only[↓RP,RQ,xa0,reduceIte,reduceCtorEq,xa1,xa2,xa3,xa4,hk,hl,gh,↓RW,NB,hr0,hlen,QS,ql,QF,fsv,B,I,RZ,eq_self,Tryz.results103]
   all_goals try(exfalso;omega)
   refine qh (qaR (xq (M.q i)) (hiS M.q k i) Ωz Ωz) Ωf Ωc ?_;repeat' first|refine sD ?_ ?_<;>intro _|refine aA ?_|simp -dsimp only[↓RP,RQ,xa0,reduceIte,reduceCtorEq,xa1,xa2,xa3,xa4,hk,hl,gh,↓RW,NB,hr0,hlen,QS,ql,QF,fsv,B,I,RZ,eq_self,Tryz.results103]
   all_goals try(exfalso;omega)
   ·rename_i hlt2
    have hb:zm M.q i:=hbet.2 (by assumption);have eput:=Yh hb;have hg0:=qey hb;have hold:=qeB hb;have hdd:gb M.q (i+1) (kv (M.q i).r (M.q i).l)=true:=by rw[wJ,Yg hb];rfl
    rw[hk,hl]at eput hg0 hold hdd;have hput:=eput;have gsl:=JE M.run M.m M.q (dlo M i) (dhi M i) (id+3) k5 (xq (M.q i));have gsh:=JF M.run M.m M.q (dlo M i) (dhi M i) (id+3) k5 (xq (M.q i));have dk22:=λlo hi=>zg M.run M.m M.q lo hi (id+3);simp only[xb2]at gsl gsh;refine Km follows (λm st=>∃(X:SV)(g:Value→SV)(stamp:Value→Nat)(clk n:Nat),qR g (kv k false) (.val (.int .i64 (i:Nat)))=kI M.q (i+1)∧nid+53≤n∧st=⟨[(1,.ptr id 0),(2,.val (.pointer none)),(3,.ptr (id+5) 0),(5,.val (.int .i64 i)),(6,.ptr (nid+4) 0),(7,.ptr (nid+20) 0),(8,.ptr (nid+21) 0),(32,.arr false false M.m 4 (λi j=>qf (M.q i) j)),(33,.val (.int .i64 M.m)),(34,.val (.int .i64 i)),(96,Go.Sx.up (m.testBit 0) (.ptr (id+5) 0)),(97,Go.Sx.up (m.testBit 1) (.ptr (nid+4) 0)),(98,Go.Sx.up (m.testBit 2) (.val (.int .i64 k))),(99,Go.Sx.up (m.testBit 3) (.ptr (id+5) 0)),(100,Go.Sx.up (m.testBit 4) (.ptr (id+5) 0)),(101,Go.Sx.up (m.testBit 5) (.ptr (id+5) 22)),(102,Go.Sx.up (m.testBit 6) (.mp (id+3))),(103,Go.Sx.up (m.testBit 7) (.agg [.val (.int .i64 k),.val (.bool false)])),(104,Go.Sx.up (m.testBit 8) (.agg [.val (.int .i64 (xq (M.q i)).n),.val (.int .i64 (xq (M.q i)).d)])),(105,Go.Sx.up (m.testBit 9) (.val (.int .i64 i))),(106,Go.Sx.up (m.testBit 10) (.ptr (id+5) 0)),(107,Go.Sx.up (m.testBit 11) (.ptr (id+5) 12)),(108,Go.Sx.up (m.testBit 12) (.ptr (id+5) (12+k*2))),(109,Go.Sx.up (m.testBit 14) (.tup [X,.val (.int .i64 (stamp (kv k false)))])),(110,Go.Sx.up (m.testBit 15) (.val (.int .i64 (stamp (kv k false)))))],(nid+21,.cells 315 [.val (.int .i64 k),.val (.bool false)]) ::(nid+20,.cells 68 [.val (.int .i64 (xq (M.q i)).n),.val (.int .i64 (xq (M.q i)).d)]) ::(nid+4,.cells 87 [.val (.int .i64 k),.val (.int .i64 (M.q i).n),.val (.int .i64 (M.q i).d),.val (.bool false)]) ::(id+5,dkB M (dlo M i) (qmx (m.testBit 13) (qN (dhi M i) k (xq (M.q i))) (dhi M i)) (id+3)) ::(id+3,qjE (m.testBit 14) (m.testBit 16) (mpB M i) (.mapS kfS (gb M.q (i+1)) g stamp clk) (mpB M (i+1))) ::(id,qjD M) :: rest,n⟩) (ms:=[0,0,2,0,8,24,56,0,0,0,1,1025,3455,7551,15871,32255,65535]) Ωb Ωb (za (by simp[zj,Go.Sx.look,Go.Sx.up]) (by simp only[xb3,ka,z8];exact SubHp.refl _)) ⟨.top,kI M.q i,λ_=>0,0,_,hg0,xa5 _,rfl⟩ (qi ?_<|qi ?_<|qi ?_<|qi ?_<|qi ?_<|qi ?_<|qi ?_<|qi ?_<|qi ?_<|qi ?_<|qi ?_<|qi ?_<|qi ?_<|qi ?_<|qi ?_<|qi ?_<|qi ?_<|QL) ?_
    iterate 14 focus
     rintro m st ⟨X,g,stamp,clk,n,hg,hn,rfl⟩ hcl hbit hd;unfold opH;rw[qC];simp (discharger:=decide) only[hd,hbit,qv,qq,ka,kO,z9,zZ,z8];refine .inl ?_;(simp -dsimp only[↓RP,RQ,xa0,reduceIte,reduceCtorEq,xa1,xa2,xa3,xa4,↓RW,NB,hr0,hlen,QS,ql,QF,hk,gsh,dk22,fsv,B,I,RZ,eq_self])
     try refine⟨by(first|exact True.intro|(simp only[InK];omega)|omega|(simp only[InK,ne_eq,and_true,true_and];omega)|trivial),?_⟩
     refine⟨_,Weak.refl _ _,X,g,stamp,clk,n+1,hg,Ω,?_⟩;simp (discharger:=decide) only[Qqq,xa2,qv,qq,ka,kO,z9,zZ,z8,hd,hbit]
    ·rintro m st ⟨X,g,stamp,clk,n,hg,hn,rfl⟩ hcl hbit hd
     have q16:m.testBit 16=false:=by
      cases h:m.testBit 16 with
      |false=>rfl
      |true=>have:=hcl 16 14 Ωq h;rw[hbit]at this;cases this
     have q15:m.testBit 15=false:=by
      cases h:m.testBit 15 with
      |false=>rfl
      |true=>have:=hcl 15 14 Ωq h;rw[hbit]at this;cases this
     unfold opH;rw[qC];simp (discharger:=decide) only[q16,q15,hd,hbit,qv,qq,ka,kO,z9,zZ,z8];refine .inr ⟨rfl,.inl ?_⟩;by_cases hdm:gb M.q i (kv k false)=true
     ·refine wE (mid:=id+3) (v:=kv k false) Ωl Ωr VY Ωr rfl hdm λstamp' clk'=>?_
      (simp -dsimp only[↓RP,RQ,xa0,reduceIte,reduceCtorEq,xa1,xa2,xa3,xa4,↓RW,NB,hr0,hlen,QS,ql,QF,hk,gsh,dk22,fsv,B,I,RZ,eq_self]);refine⟨_,Weak.refl _ _,kI M.q i (kv k false),kI M.q i,stamp',clk',n,hg0,hn,?_⟩;rw[hold hdm];simp (discharger:=decide) only[Qqq,xa2,qv,qq,ka,kO,z9,zZ,z8,q16,q15,hd,hbit]
     ·refine Kn (mid:=id+3) (v:=kv k false) Ωl Ωr VY Ωr rfl (by simpa using hdm) λstamp' clk'=>?_
      (simp -dsimp only[↓RP,RQ,xa0,reduceIte,reduceCtorEq,xa1,xa2,xa3,xa4,↓RW,NB,hr0,hlen,QS,ql,QF,hk,gsh,dk22,fsv,B,I,RZ,eq_self]);refine⟨_,Weak.refl _ _,.val (.int .i64 0),qR (kI M.q i) (kv k false) (.val (.int .i64 0)),stamp',clk',n,by rw[qez];exact hg0,hn,?_⟩;rw[hput];simp (discharger:=decide) only[Qqq,xa2,qv,qq,ka,kO,z9,zZ,z8,q16,q15,hd,hbit]
    ·rintro m st ⟨X,g,stamp,clk,n,hg,hn,rfl⟩ hcl hbit hd
     unfold opH;rw[qC];simp (discharger:=decide) only[hd,hbit,qv,qq,ka,kO,z9,zZ,z8];refine .inl ?_;(simp -dsimp only[↓RP,RQ,xa0,reduceIte,reduceCtorEq,xa1,xa2,xa3,xa4,↓RW,NB,hr0,hlen,QS,ql,QF,hk,gsh,dk22,fsv,B,I,RZ,eq_self])
     try refine⟨by(first|exact True.intro|(simp only[InK];omega)|omega|(simp only[InK,ne_eq,and_true,true_and];omega)|trivial),?_⟩
     refine⟨_,Weak.refl _ _,X,g,stamp,clk,n+1,hg,Ω,?_⟩;simp (discharger:=decide) only[Qqq,xa2,qv,qq,ka,kO,z9,zZ,z8,hd,hbit]
    ·rintro m st ⟨X,g,stamp,clk,n,hg,hn,rfl⟩ hcl hbit hd
     unfold opH;rw[qC];simp (discharger:=decide) only[hd,hbit,qv,qq,ka,kO,z9,zZ,z8];refine .inr ⟨rfl,.inr ?_⟩;refine Ko (mid:=id+3) (v:=kv k false) (dom:=gb M.q (i+1)) (get:=g) (stamp:=stamp) (clk:=clk) JG rfl Ωl Ωl Ωl hdd ?_;(simp -dsimp only[↓RP,RQ,xa0,reduceIte,reduceCtorEq,xa1,xa2,xa3,xa4,↓RW,NB,hr0,hlen,QS,ql,QF,hk,gsh,dk22,fsv,B,I,RZ,eq_self]);refine⟨_,Weak.refl _ _,X,g,stamp,clk,n,hg,hn,?_⟩;rw[hg];simp (discharger:=decide) only[Qqq,xa2,qv,qq,ka,kO,z9,zZ,z8,hd,hbit]
    ·rintro m st' ⟨X,g,stamp,clk,n,hg,hn,rfl⟩ hall
     simp only[hall 0 Ωq,hall 1 Ωq,hall 2 Ωq,hall 3 Ωq,hall 4 Ωq,hall 5 Ωq,hall 6 Ωq,hall 7 Ωq,hall 8 Ωq,hall 9 Ωq,hall 10 Ωq,hall 11 Ωq,hall 12 Ωq,hall 13 Ωq,hall 14 Ωq,hall 15 Ωq,hall 16 Ωq,qv,z9,zZ];have⟨e1,e2⟩:=qoP M i hk hst.2 hl hb;rw[←e1,←e2];(repeat' first|refine sD ?_ ?_<;>intro _|refine aA ?_|simp -dsimp only[↓RP,RQ,xa0,reduceIte,reduceCtorEq,xa1,xa2,xa3,xa4,↓RW,NB,hr0,hlen,QS,ql,QF,fsv,B,I,RZ,eq_self,Tryz.results103]);refine⟨(i+1,n+2),⟨by simp only[];omega,by simp only[];omega⟩,by simp only[];omega,za ?_ ?_⟩
     ·simp[zj,Go.Sx.look]
     ·exact Gn hr Ω Ω Ω
   ·have⟨e1,e2,e3⟩:=hno (λh=>absurd (hbet.1 h) (by assumption))
    refine⟨(i+1,nid+55),⟨by simp only[];omega,by simp only[];omega⟩,by simp only[];omega,za ?_ ?_⟩
    ·simp[zj,Go.Sx.look]
    ·rw[e1,e2,e3]
     exact Gn hr Ω Ω Ω
  ·rw[hl,if_pos rfl]at hbet
   repeat' first|refine sD ?_ ?_<;>intro _|refine aA ?_|simp -dsimp only[↓RP,RQ,xa0,reduceIte,reduceCtorEq,xa1,xa2,xa3,xa4,hk,hl,↓RW,NB,hr0,hlen,QS,ql,QF,fsv,B,I,RZ,eq_self,Tryz.results103]
   all_goals try(exfalso;omega)
   refine qh kx Ωd Ωa ?_;repeat' first|refine sD ?_ ?_<;>intro _|refine aA ?_|simp -dsimp only[↓RP,RQ,xa0,reduceIte,reduceCtorEq,xa1,xa2,xa3,xa4,hk,hl,gl,↓RW,NB,hr0,hlen,QS,ql,QF,fsv,B,I,RZ,eq_self,Tryz.results103]
   all_goals try(exfalso;omega)
   refine qh (qaR (loS M.q k i) (xq (M.q i)) Ωz Ωz) Ωf Ωc ?_;repeat' first|refine sD ?_ ?_<;>intro _|refine aA ?_|simp -dsimp only[↓RP,RQ,xa0,reduceIte,reduceCtorEq,xa1,xa2,xa3,xa4,hk,hl,gl,↓RW,NB,hr0,hlen,QS,ql,QF,fsv,B,I,RZ,eq_self,Tryz.results103]
   all_goals try(exfalso;omega)
   ·rename_i hlt2
    have hb:zm M.q i:=hbet.2 (by assumption);have eput:=Yh hb;have hg0:=qey hb;have hold:=qeB hb;have hdd:gb M.q (i+1) (kv (M.q i).r (M.q i).l)=true:=by rw[wJ,Yg hb];rfl
    rw[hk,hl]at eput hg0 hold hdd;have hput:=eput;have gsl:=JE M.run M.m M.q (dlo M i) (dhi M i) (id+3) k5 (xq (M.q i));have gsh:=JF M.run M.m M.q (dlo M i) (dhi M i) (id+3) k5 (xq (M.q i));have dk22:=λlo hi=>zg M.run M.m M.q lo hi (id+3);simp only[xb2]at gsl gsh;refine Km follows (λm st=>∃(X:SV)(g:Value→SV)(stamp:Value→Nat)(clk n:Nat),qR g (kv k true) (.val (.int .i64 (i:Nat)))=kI M.q (i+1)∧nid+38≤n∧st=⟨[(1,.ptr id 0),(2,.val (.pointer none)),(3,.ptr (id+5) 0),(5,.val (.int .i64 i)),(6,.ptr (nid+4) 0),(7,.ptr (nid+20) 0),(8,.ptr (nid+21) 0),(32,.arr false false M.m 4 (λi j=>qf (M.q i) j)),(33,.val (.int .i64 M.m)),(34,.val (.int .i64 i)),(66,Go.Sx.up (m.testBit 0) (.ptr (id+5) 0)),(67,Go.Sx.up (m.testBit 1) (.ptr (nid+4) 0)),(68,Go.Sx.up (m.testBit 2) (.val (.int .i64 k))),(69,Go.Sx.up (m.testBit 3) (.ptr (id+5) 0)),(70,Go.Sx.up (m.testBit 4) (.ptr (id+5) 0)),(71,Go.Sx.up (m.testBit 5) (.ptr (id+5) 22)),(72,Go.Sx.up (m.testBit 6) (.mp (id+3))),(73,Go.Sx.up (m.testBit 7) (.agg [.val (.int .i64 k),.val (.bool true)])),(74,Go.Sx.up (m.testBit 8) (.agg [.val (.int .i64 (xq (M.q i)).n),.val (.int .i64 (xq (M.q i)).d)])),(75,Go.Sx.up (m.testBit 9) (.val (.int .i64 i))),(76,Go.Sx.up (m.testBit 10) (.ptr (id+5) 0)),(77,Go.Sx.up (m.testBit 11) (.ptr (id+5) 2)),(78,Go.Sx.up (m.testBit 12) (.ptr (id+5) (2+k*2))),(79,Go.Sx.up (m.testBit 14) (.tup [X,.val (.int .i64 (stamp (kv k true)))])),(80,Go.Sx.up (m.testBit 15) (.val (.int .i64 (stamp (kv k true)))))],(nid+21,.cells 315 [.val (.int .i64 k),.val (.bool true)]) ::(nid+20,.cells 68 [.val (.int .i64 (xq (M.q i)).n),.val (.int .i64 (xq (M.q i)).d)]) ::(nid+4,.cells 87 [.val (.int .i64 k),.val (.int .i64 (M.q i).n),.val (.int .i64 (M.q i).d),.val (.bool true)]) ::(id+5,dkB M (qmx (m.testBit 13) (qN (dlo M i) k (xq (M.q i))) (dlo M i)) (dhi M i) (id+3)) ::(id+3,qjE (m.testBit 14) (m.testBit 16) (mpB M i) (.mapS kfS (gb M.q (i+1)) g stamp clk) (mpB M (i+1))) ::(id,qjD M) :: rest,n⟩) (ms:=[0,0,2,0,8,24,56,0,0,0,1,1025,3455,7551,15871,32255,65535]) Ωb Ωb (za (by simp[zj,Go.Sx.look,Go.Sx.up]) (by simp only[xb3,ka,z8];exact SubHp.refl _)) ⟨.top,kI M.q i,λ_=>0,0,_,hg0,xa5 _,rfl⟩ (qi ?_<|qi ?_<|qi ?_<|qi ?_<|qi ?_<|qi ?_<|qi ?_<|qi ?_<|qi ?_<|qi ?_<|qi ?_<|qi ?_<|qi ?_<|qi ?_<|qi ?_<|qi ?_<|qi ?_<|QL) ?_
    iterate 14 focus
     rintro m st ⟨X,g,stamp,clk,n,hg,hn,rfl⟩ hcl hbit hd;unfold opH;rw[qC];simp (discharger:=decide) only[hd,hbit,qv,qq,ka,kO,z9,zZ,z8];refine .inl ?_;(simp -dsimp only[↓RP,RQ,xa0,reduceIte,reduceCtorEq,xa1,xa2,xa3,xa4,↓RW,NB,hr0,hlen,QS,ql,QF,hk,gsl,dk22,fsv,B,I,RZ,eq_self])
     try refine⟨by(first|exact True.intro|(simp only[InK];omega)|omega|(simp only[InK,ne_eq,and_true,true_and];omega)|trivial),?_⟩
     refine⟨_,Weak.refl _ _,X,g,stamp,clk,n+1,hg,Ω,?_⟩;simp (discharger:=decide) only[Qqq,xa2,qv,qq,ka,kO,z9,zZ,z8,hd,hbit]
    ·rintro m st ⟨X,g,stamp,clk,n,hg,hn,rfl⟩ hcl hbit hd
     have q16:m.testBit 16=false:=by
      cases h:m.testBit 16 with
      |false=>rfl
      |true=>have:=hcl 16 14 Ωq h;rw[hbit]at this;cases this
     have q15:m.testBit 15=false:=by
      cases h:m.testBit 15 with
      |false=>rfl
      |true=>have:=hcl 15 14 Ωq h;rw[hbit]at this;cases this
     unfold opH;rw[qC];simp (discharger:=decide) only[q16,q15,hd,hbit,qv,qq,ka,kO,z9,zZ,z8];refine .inr ⟨rfl,.inl ?_⟩;by_cases hdm:gb M.q i (kv k true)=true
     ·refine wE (mid:=id+3) (v:=kv k true) Ωm Ωs VY Ωs rfl hdm λstamp' clk'=>?_
      (simp -dsimp only[↓RP,RQ,xa0,reduceIte,reduceCtorEq,xa1,xa2,xa3,xa4,↓RW,NB,hr0,hlen,QS,ql,QF,hk,gsl,dk22,fsv,B,I,RZ,eq_self]);refine⟨_,Weak.refl _ _,kI M.q i (kv k true),kI M.q i,stamp',clk',n,hg0,hn,?_⟩;rw[hold hdm];simp (discharger:=decide) only[Qqq,xa2,qv,qq,ka,kO,z9,zZ,z8,q16,q15,hd,hbit]
     ·refine Kn (mid:=id+3) (v:=kv k true) Ωm Ωs VY Ωs rfl (by simpa using hdm) λstamp' clk'=>?_
      (simp -dsimp only[↓RP,RQ,xa0,reduceIte,reduceCtorEq,xa1,xa2,xa3,xa4,↓RW,NB,hr0,hlen,QS,ql,QF,hk,gsl,dk22,fsv,B,I,RZ,eq_self]);refine⟨_,Weak.refl _ _,.val (.int .i64 0),qR (kI M.q i) (kv k true) (.val (.int .i64 0)),stamp',clk',n,by rw[qez];exact hg0,hn,?_⟩;rw[hput];simp (discharger:=decide) only[Qqq,xa2,qv,qq,ka,kO,z9,zZ,z8,q16,q15,hd,hbit]
    ·rintro m st ⟨X,g,stamp,clk,n,hg,hn,rfl⟩ hcl hbit hd
     unfold opH;rw[qC];simp (discharger:=decide) only[hd,hbit,qv,qq,ka,kO,z9,zZ,z8];refine .inl ?_;(simp -dsimp only[↓RP,RQ,xa0,reduceIte,reduceCtorEq,xa1,xa2,xa3,xa4,↓RW,NB,hr0,hlen,QS,ql,QF,hk,gsl,dk22,fsv,B,I,RZ,eq_self])
     try refine⟨by(first|exact True.intro|(simp only[InK];omega)|omega|(simp only[InK,ne_eq,and_true,true_and];omega)|trivial),?_⟩
     refine⟨_,Weak.refl _ _,X,g,stamp,clk,n+1,hg,Ω,?_⟩;simp (discharger:=decide) only[Qqq,xa2,qv,qq,ka,kO,z9,zZ,z8,hd,hbit]
    ·rintro m st ⟨X,g,stamp,clk,n,hg,hn,rfl⟩ hcl hbit hd
     unfold opH;rw[qC];simp (discharger:=decide) only[hd,hbit,qv,qq,ka,kO,z9,zZ,z8];refine .inr ⟨rfl,.inr ?_⟩;refine Ko (mid:=id+3) (v:=kv k true) (dom:=gb M.q (i+1)) (get:=g) (stamp:=stamp) (clk:=clk) JG rfl Ωm Ωm Ωm hdd ?_;(simp -dsimp only[↓RP,RQ,xa0,reduceIte,reduceCtorEq,xa1,xa2,xa3,xa4,↓RW,NB,hr0,hlen,QS,ql,QF,hk,gsl,dk22,fsv,B,I,RZ,eq_self]);refine⟨_,Weak.refl _ _,X,g,stamp,clk,n,hg,hn,?_⟩;rw[hg];simp (discharger:=decide) only[Qqq,xa2,qv,qq,ka,kO,z9,zZ,z8,hd,hbit]
    ·rintro m st' ⟨X,g,stamp,clk,n,hg,hn,rfl⟩ hall
     simp only[hall 0 Ωq,hall 1 Ωq,hall 2 Ωq,hall 3 Ωq,hall 4 Ωq,hall 5 Ωq,hall 6 Ωq,hall 7 Ωq,hall 8 Ωq,hall 9 Ωq,hall 10 Ωq,hall 11 Ωq,hall 12 Ωq,hall 13 Ωq,hall 14 Ωq,hall 15 Ωq,hall 16 Ωq,qv,z9,zZ];have⟨e1,e2⟩:=qoO M i hk hst.2 hl hb;rw[←e1,←e2];(repeat' first|refine sD ?_ ?_<;>intro _|refine aA ?_|simp -dsimp only[↓RP,RQ,xa0,reduceIte,reduceCtorEq,xa1,xa2,xa3,xa4,↓RW,NB,hr0,hlen,QS,ql,QF,fsv,B,I,RZ,eq_self,Tryz.results103]);refine⟨(i+1,n+2),⟨by simp only[];omega,by simp only[];omega⟩,by simp only[];omega,za ?_ ?_⟩
     ·simp[zj,Go.Sx.look]
     ·exact Gn hr Ω Ω Ω
   ·have⟨e1,e2,e3⟩:=hno (λh=>absurd (hbet.1 h) (by assumption))
    refine⟨(i+1,nid+55),⟨by simp only[];omega,by simp only[];omega⟩,by simp only[];omega,za ?_ ?_⟩
    ·simp[zj,Go.Sx.look]
    ·rw[e1,e2,e3]
     exact Gn hr Ω Ω Ω
 ·have e:i=M.m:=by omega
  subst e;repeat' first|refine sD ?_ ?_<;>intro _|refine aA ?_|simp -dsimp only[↓RP,RQ,xa0,reduceIte,reduceCtorEq,xa1,xa2,xa3,xa4,↓RW,NB,hr0,hlen,QS,ql,QF,fsv,B,I,RZ,eq_self,Tryz.results103]
  all_goals try(exfalso;omega)
  refine⟨_,_,_,za (fr':=[(0,_)]) ⟨.inr rfl,trivial⟩ (SubHp.refl _),rfl,Ω,rfl⟩
end Go.Tv
end
section
namespace Go.Tv
open Go.Proofs
open Go.Sx
theorem qqI(a b:Nat)(ha:a≤9000000000000000000)(hb:b≤9000000000000000000):qb Tryz.prog 105 [I a,I b] (I (Nat.gcd a b)):=by
 refine qc Tryz.func105 rfl Ωb follows Ωb _ _ (by rw[Tryz.ntmps105];simp) Ω5 ?_;unfold I;(repeat' first|refine sD ?_ ?_<;>intro _|refine aA ?_|simp -dsimp only[↓RP,RQ,xa0,reduceIte,reduceCtorEq,xa1,xa2,xa3,xa4,fsv,B,I,ql,RZ,eq_self,Tryz.results105]);refine qo (λ(q:Nat×Nat)=>Nat.gcd q.1 q.2=Nat.gcd a b∧q.1≤9000000000000000000∧q.2≤9000000000000000000) (λq=>⟨[(0,.val (.int .i64 q.1)),(1,.val (.int .i64 q.2))],[],0⟩) (λq=>q.2) (a,b) ⟨rfl,ha,hb⟩ (weak [] [] ?_ ?_ ?_) λq hq=>?_
 ·(simp -dsimp only[↓RP,RQ,xa0,reduceIte,reduceCtorEq,xa1,xa2,xa3,xa4]);all_goals simp
 ·(simp -dsimp only[↓RP,RQ,xa0,reduceIte,reduceCtorEq,xa1,xa2,xa3,xa4])
 ·(simp -dsimp only[↓RP,RQ,xa0,reduceIte,reduceCtorEq,xa1,xa2,xa3,xa4])
 obtain⟨x,y⟩:=q;obtain⟨hg,hx,hy⟩:=hq;have hg:Nat.gcd x y=Nat.gcd a b:=hg;have hx:x≤9000000000000000000:=hx;have hy:y≤9000000000000000000:=hy;by_cases h0:0<y
 ·have hm:=tmN x y
  have hlt:=Nat.mod_lt x h0;have hg2:Nat.gcd y (x % y)=Nat.gcd a b:=by rw[Nat.gcd_comm,←Nat.gcd_rec,Nat.gcd_comm,hg]
  generalize x % y=z at hm hlt hg2;repeat' first|refine sD ?_ ?_<;>intro _|refine aA ?_|simp -dsimp only[↓RP,RQ,xa0,reduceIte,reduceCtorEq,xa1,xa2,xa3,xa4,hm,fsv,B,I,ql,RZ,eq_self,Tryz.results105]
  all_goals try(exfalso;omega)
  refine⟨(y,z),⟨hg2,hy,(by show z≤9000000000000000000;omega)⟩,hlt,weak [] [] ?_ ?_ ?_⟩
  ·(simp -dsimp only[↓RP,RQ,xa0,reduceIte,reduceCtorEq,xa1,xa2,xa3,xa4]);all_goals simp
  ·(simp -dsimp only[↓RP,RQ,xa0,reduceIte,reduceCtorEq,xa1,xa2,xa3,xa4])
  ·(simp -dsimp only[↓RP,RQ,xa0,reduceIte,reduceCtorEq,xa1,xa2,xa3,xa4])
 ·have hy0:y=0:=by omega
  subst hy0;rw[Nat.gcd_zero_right]at hg;rw[←hg];repeat' first|refine sD ?_ ?_<;>intro _|refine aA ?_|simp -dsimp only[↓RP,RQ,xa0,reduceIte,reduceCtorEq,xa1,xa2,xa3,xa4,fsv,B,I,ql,RZ,eq_self,Tryz.results105]
  all_goals first|(exfalso;omega)|rfl|skip
theorem nbF{b c:Nat}(h:c≤b):∀j,j<c→(b=j)=False:=λj hj=>by rw[eq_iff_iff,iff_false];omega
theorem nbG{b c:Nat}(h:c≤b):∀j,j<c→(j=b)=False:=λj hj=>by rw[eq_iff_iff,iff_false];omega
def qjF(q:Nat→Qt)(s:Nat→Int)(m:Nat)(n:Nat):Prop:=∀w:Nat,w<n→0<vH q s w m
instance(q:Nat→Qt)(s:Nat→Int)(m n:Nat):Decidable (qjF q s m n):=by unfold qjF;infer_instance
def Mk.ckS(M:Mk)(k:Nat)(s:Nat→Int):Int:=if M.stk k s=0 then(if qjF M.q s M.m M.run.toNat then 0 else 14)else M.stk k s
theorem Mk.ckS_0{M:Mk}{k:Nat}{s:Nat→Int}(h:M.stk k s=0)(h2:qjF M.q s M.m M.run.toNat):0=M.ckS k s:=by unfold Mk.ckS;rw[if_pos h,if_pos h2]
end Go.Tv
end
section
namespace Go.Tv
open Go.Proofs
open Go.Sx
def ff(a:Fr):Nat→SV
 |0=>.val (.int .i64 a.n)
 |_=>.val (.int .i64 a.d)
theorem FFq:True∧(∀a,ff a 0=.val (.int .i64 a.n))∧(∀a,ff a 1=.val (.int .i64 a.d)):=⟨trivial,λ_=>rfl,λ_=>rfl⟩
def qP(f:Nat→Fr):Nat→Fr
 |0=>⟨0,1⟩
 |i+1=>qO (qP f i) (f i)
def pw:Nat→Int
 |0=>1
 |i+1=>pw i*200
theorem qjG:∀i,1≤pw i
 |0=>Int.le_refl 1
 |i+1=>by have:=qjG i;simp only[pw];omega
theorem qeD{i:Nat}(h:i≤5):pw i≤320000000000:=by
 have:i=0∨i=1∨i=2∨i=3∨i=4∨i=5:=by omega
 rcases this with rfl|rfl|rfl|rfl|rfl|rfl<;>decide
theorem qoS{a:Fr}{K:Int}(hd:0<a.d)(h0:0≤a.n)(h1:a.n≤K*a.d):0≤(red a).n∧(red a).n≤K*(red a).d∧1≤(red a).d∧(red a).d≤a.d:=by
 have⟨s1,s2,s3,s4⟩:=red_spec hd;generalize red a=x at *;refine⟨?_,?_,Ω,s4⟩
 ·refine Int.not_lt.1 λh=>?_
  have e1:x.n*a.d<0:=Int.mul_neg_of_neg_of_pos h hd;have e2:0≤a.n*x.d:=Int.mul_nonneg h0 Ω;omega
 ·have e1:a.n*x.d≤K*a.d*x.d:=Int.mul_le_mul_of_nonneg_right h1 Ω
  have e2:a.d*x.n≤a.d*(K*x.d):=by
   have:K*a.d*x.d=a.d*(K*x.d):=by grind
   have:a.d*x.n=x.n*a.d:=Int.mul_comm _ _;omega
  exact qjt hd e2
theorem ZM{f:Nat→Fr}:∀{i:Nat},(∀j,j<i→Ch (f j))→0≤(qP f i).n∧(qP f i).n≤i*(qP f i).d∧1≤(qP f i).d∧(qP f i).d≤pw i
 |0,_=>⟨Int.le_refl 0,by show(0:Int)≤0*1;omega,Int.le_refl 1,Int.le_refl 1⟩
 |i+1,h=>by
  have⟨a1,a2,a3,a4⟩:=ZM (f:=f) (i:=i) λj hj=>h j Ω;have⟨b1,b2,b3,b4⟩:=h i Ω;simp only[qP,qO,pw];generalize qP f i=a at *;generalize f i=b at *;have p1:=Int.mul_nonneg a1 (Ω:0≤b.d);have p2:=Int.mul_nonneg b1 (Ω:0≤a.d);have p3:0<a.d*b.d:=Int.mul_pos Ω Ω;have q1:a.n*b.d≤i*a.d*b.d:=Int.mul_le_mul_of_nonneg_right a2 Ω;have q2:b.n*a.d≤b.d*a.d:=Int.mul_le_mul_of_nonneg_right b2 Ω;have q3:(((i+1:Nat)):Int)*(a.d*b.d)=i*a.d*b.d+b.d*a.d:=by
   rw[show(((i+1:Nat)):Int)=(i:Int)+1 by omega];grind
  have q4:a.d*b.d≤pw i*200:=Int.mul_le_mul a4 b4 Ω (by have:=qjG i;omega);have⟨r1,r2,r3,r4⟩:=qoS (a:=⟨a.n*b.d+b.n*a.d,a.d*b.d⟩) (K:=((i+1:Nat):Int)) p3 (by show 0≤a.n*b.d+b.n*a.d;omega) (by show a.n*b.d+b.n*a.d≤_*(a.d*b.d);omega);have r4:(red ⟨a.n*b.d+b.n*a.d,a.d*b.d⟩).d≤a.d*b.d:=r4;exact⟨r1,r2,r3,Ω⟩
theorem qeE{f:Nat→Fr}{i:Nat}(hi:i≤4)(h:∀j,j<i+1→Ch (f j)):(0≤(qP f i).n*(f i).d∧(qP f i).n*(f i).d≤1280000000000*200)∧(0≤(f i).n*(qP f i).d∧(f i).n*(qP f i).d≤200*320000000000)∧(1≤(qP f i).d*(f i).d∧(qP f i).d*(f i).d≤320000000000*200):=by
 have⟨a1,a2,a3,a4⟩:=ZM (f:=f) (i:=i) λj hj=>h j Ω;have⟨b1,b2,b3,b4⟩:=h i Ω;have hp:=qeD (i:=i) Ω;have e1:(i:Int)*(qP f i).d≤4*320000000000:=Int.mul_le_mul Ω Ω Ω Ω;have p3:0<(qP f i).d*(f i).d:=Int.mul_pos Ω Ω;exact⟨gv _ _ _ _ a1 Ω Ω b4,gv _ _ _ _ b1 Ω Ω Ω,Ω,(gv (qP f i).d (f i).d 320000000000 200 Ω Ω Ω b4).2⟩
theorem qoT(a b:Fr)(h1 : -4000000000000000000≤a.n*b.d∧a.n*b.d≤2000000000000000000)(h2 : -2000000000000000000≤b.n*a.d∧b.n*a.d≤2000000000000000000)(h4 : -4000000000000000000≤a.n*b.d+b.n*a.d)(h3:1≤a.d*b.d∧a.d*b.d≤4000000000000000000):qb Tryz.prog 212 [fsv a,fsv b] (fsv (qO a b)):=by
 refine qc Tryz.func212 rfl Ωb follows Ωb _ _ (by rw[Tryz.ntmps212];simp) (by simp only[OldL,Ye,and_self]) ?_;unfold qO
 conv=>arg 4;unfold fsv I
 repeat' first|refine sD ?_ ?_<;>intro _|refine aA ?_|simp -dsimp only[↓RP,RQ,seval,ql,QF,FFq,fsv,B,I,RZ,eq_self,Tryz.results212]
 all_goals try(exfalso;omega)
 refine qh (qoL ⟨a.n*b.d+b.n*a.d,a.d*b.d⟩ (by show 0<a.d*b.d;omega) (by show a.d*b.d≤_;omega) (by show _≤a.n*b.d+b.n*a.d;omega) (by show a.n*b.d+b.n*a.d≤_;omega)) Ωd Ωa ?_;repeat' first|refine sD ?_ ?_<;>intro _|refine aA ?_|simp -dsimp only[↓RP,RQ,seval,ql,QF,FFq,fsv,B,I,RZ,eq_self,Tryz.results212]
 all_goals first|exact⟨rfl,rfl⟩|exact⟨⟨rfl,rfl⟩,⟨rfl,rfl⟩⟩|exact⟨⟨rfl,rfl⟩,rfl⟩|exact⟨⟨rfl,rfl⟩,⟨rfl,rfl⟩,rfl⟩|skip
end Go.Tv
end
section
namespace Go.Tv
open Go.Proofs
open Go.Sx
def qcT(f:Nat→Fr):List SV:=[SV.val (.int .i64 (f 0).n),SV.val (.int .i64 (f 0).d),SV.val (.int .i64 (f 1).n),SV.val (.int .i64 (f 1).d),SV.val (.int .i64 (f 2).n),SV.val (.int .i64 (f 2).d),SV.val (.int .i64 (f 3).n),SV.val (.int .i64 (f 3).d),SV.val (.int .i64 (f 4).n),SV.val (.int .i64 (f 4).d)]
theorem qmy(f:Nat→Fr){k:Nat}(h:k<5):List.take 2 (List.drop (k*2) [SV.val (.int .i64 (f 0).n),SV.val (.int .i64 (f 0).d),SV.val (.int .i64 (f 1).n),SV.val (.int .i64 (f 1).d),SV.val (.int .i64 (f 2).n),SV.val (.int .i64 (f 2).d),SV.val (.int .i64 (f 3).n),SV.val (.int .i64 (f 3).d),SV.val (.int .i64 (f 4).n),SV.val (.int .i64 (f 4).d)])=[.val (.int .i64 (f k).n),.val (.int .i64 (f k).d)]:=by
 rcases Jp h with rfl|rfl|rfl|rfl|rfl<;>rfl
theorem one2(a b:Int):∀(i j:Nat),i<1→j<2→oneCell ([SV.val (.int .i64 a),SV.val (.int .i64 b)].getD (i*2+j) SV.top)=true:=by
 intro i j hi hj;obtain rfl:i=0:=by omega
 have:j=0∨j=1:=by omega
 rcases this with rfl|rfl<;>rfl
theorem qqJ(run:Int)(n:Nat)(hn:(n:Int)=run)(n1:1≤n)(n5:n≤5)(f:Nat→Fr)(hf:∀j,j<n→Ch (f j)):qb Tryz.prog 211 [.ref false 1 (λ_=>I run),.agg (qcT f)] (fsv (qP f n)):=by
 refine qc Tryz.func211 rfl Ωb follows Ωb _ _ (by rw[Tryz.ntmps211];simp) (by simp[OldL,Old,I,qcT]) ?_;subst hn;have hz:decide ((f 0).d=0)=false:=decide_eq_false (by have:=(hf 0 Ω).d1;omega)
 conv=>arg 4;unfold qcT I
 repeat' first|refine sD ?_ ?_<;>intro _|refine aAc ?_|simp -dsimp only[↓RP,RQ,seval,hz,xf2,Bool.and_false,↓RW,ql,QF,FFq,fsv,B,I,RZ,eq_self,Tryz.results211]
 all_goals try(exfalso;omega)
 refine qo (λi=>i≤n) (λi=>⟨[(3,.ptr 0 0),(4,.ptr 1 0),(5,.ptr 3 0),(18,.asl 0 0 n 2),(19,.val (.int .i64 n)),(20,.val (.int .i64 i))],[(3,.cells 68 [.val (.int .i64 (qP f i).n),.val (.int .i64 (qP f i).d)]),(1,.cells 68 [.val (.int .i64 0),.val (.int .i64 0)]),(0,.cells 311 [SV.val (.int .i64 (f 0).n),SV.val (.int .i64 (f 0).d),SV.val (.int .i64 (f 1).n),SV.val (.int .i64 (f 1).d),SV.val (.int .i64 (f 2).n),SV.val (.int .i64 (f 2).d),SV.val (.int .i64 (f 3).n),SV.val (.int .i64 (f 3).d),SV.val (.int .i64 (f 4).n),SV.val (.int .i64 (f 4).d)])],20⟩) (λi=>n - i) 0 (xb6 _) (weak [] [] ?_ ?_ ?_) λi hi=>?_
 ·(simp -dsimp only[↓RP,RQ,seval]);all_goals (try simp)
 ·(simp -dsimp only[↓RP,RQ,seval,qP]);all_goals (try simp[qP])
 ·(simp -dsimp only[↓RP,RQ,seval]);all_goals (try simp)
 by_cases hlt:i<n
 ·have⟨⟨m1,m2⟩,⟨m3,m4⟩,m5,m6⟩:=qeE (f:=f) (i:=i) Ω λj hj=>hf j Ω
  have es:qP f (i+1)=qO (qP f i) (f i):=rfl;have gl:=qmy f (k:=i) Ω;repeat' first|refine sD ?_ ?_<;>intro _|refine aAc ?_|simp -dsimp only[↓RP,RQ,seval,gl,↓RW,ql,QF,FFq,fsv,B,I,RZ,eq_self,Tryz.results211]
  all_goals try(exfalso;omega)
  refine qh (qoT (qP f i) (f i) Ω Ω Ω Ω) Ωf Ωa ?_;rw[←es];repeat' first|refine sD ?_ ?_<;>intro _|refine aAc ?_|simp -dsimp only[↓RP,RQ,seval,gl,↓RW,ql,QF,FFq,fsv,B,I,RZ,eq_self,Tryz.results211]
  all_goals try(exfalso;omega)
  refine⟨i+1,Ω,Ω,weak [] [] ?_ ?_ ?_⟩
  ·(simp -dsimp only[↓RP,RQ,seval]);all_goals (try simp)
  ·(simp -dsimp only[↓RP,RQ,seval]);all_goals (try simp)
  ·(simp -dsimp only[↓RP,RQ,seval]);all_goals (try simp)
 ·have e:i=n:=by omega
  subst e;repeat' first|refine sD ?_ ?_<;>intro _|refine aAc ?_|simp -dsimp only[↓RP,RQ,seval,↓RW,ql,QF,FFq,fsv,B,I,RZ,eq_self,Tryz.results211]
  all_goals try(exfalso;omega)
  all_goals first|exact⟨rfl,rfl⟩|exact⟨⟨rfl,rfl⟩,⟨rfl,rfl⟩⟩|exact⟨⟨rfl,rfl⟩,rfl⟩|exact⟨⟨rfl,rfl⟩,⟨rfl,rfl⟩,rfl⟩|skip
end Go.Tv
end
section
namespace Go.Tv
open Go.Sx
def inB(M:Mk)(n:Nat):Prop:=∀r:Nat,r<n→¬lt (hiS M.q r M.m) (loS M.q r M.m)
instance(M:Mk)(n:Nat):Decidable (inB M n):=by unfold inB;infer_instance
def qaV(M:Mk):Prop:=inB M M.run.toNat∧¬lt ⟨1,1⟩ (qP (λr:Nat=>loS M.q r M.m) M.run.toNat)∧¬lt (qP (λr:Nat=>hiS M.q r M.m) M.run.toNat) ⟨1,1⟩
instance(M:Mk):Decidable (qaV M):=by unfold qaV;infer_instance
theorem qcU{f:Nat→Fr}{n:Nat}(hn:n≤5)(h:∀j,j<n→Ch (f j)):(0≤1*(qP f n).d∧1*(qP f n).d≤320000000000)∧(0≤(qP f n).n*1∧(qP f n).n*1≤1600000000000):=by
 have⟨a1,a2,a3,a4⟩:=ZM h;have hp:=qeD hn;have e1:(n:Int)*(qP f n).d≤5*320000000000:=Int.mul_le_mul Ω Ω Ω Ω;omega
end Go.Tv
end
section
namespace Go.Tv
open Go.Sx
variable{a b:Fr}{n r:Nat}{hi lo:Nat→Fr}
def rv(a:Fr):Rat:=(a.n:Rat) /(a.d:Rat)
theorem Yi{a:Int}(h:0<a):(0:Rat)<(a:Rat):=by exact_mod_cast h
theorem V0(h:0<a.d):rv a*(a.d:Rat)=(a.n:Rat):=by
 have:=Yi h;unfold rv
 grind
theorem qmz(h:0<a.d)(hb:0<b.d)(e:a.n*b.d=b.n*a.d):rv a=rv b:=by
 have h1:=Yi h;have h2:=Yi hb;have e':(a.n:Rat)*(b.d:Rat)=(b.n:Rat)*(a.d:Rat):=by exact_mod_cast e
 unfold rv
 grind
theorem qjH(h:0<a.d):rv (red a)=rv a:=by
 have⟨s1,s2,s3,s4⟩:=red_spec h;exact qmz Ω h Ω
theorem vn(h:0<a.d)(hb:0<b.d):lt a b↔rv a<rv b:=by
 have h1:=Yi h;have h2:=Yi hb;have e1:=V0 h;have e2:=V0 hb;unfold lt;rw[←Rat.intCast_lt_intCast,Rat.intCast_mul,Rat.intCast_mul,←e1,←e2];have e3:rv a*(a.d:Rat)*(b.d:Rat)=rv a*((a.d:Rat)*(b.d:Rat)):=by grind
 have e4:rv b*(b.d:Rat)*(a.d:Rat)=rv b*((a.d:Rat)*(b.d:Rat)):=by grind
 rw[e3,e4];exact Rat.mul_lt_mul_right (Rat.mul_pos h1 h2)
theorem Yj(h:0<a.d)(hb:0<b.d):rv (qO a b)=rv a+rv b:=by
 have h1:=Yi h;have h2:=Yi hb;unfold qO;rw[qjH (show 0<a.d*b.d from Int.mul_pos h hb)];unfold rv;show((a.n*b.d+b.n*a.d:Int):Rat) /((a.d*b.d:Int):Rat)=_;rw[Rat.intCast_add,Rat.intCast_mul,Rat.intCast_mul,Rat.intCast_mul];have h3:=Rat.mul_pos h1 h2
 grind
theorem qjI{n d:Int}:rv ⟨-n,d⟩ = - rv ⟨n,d⟩:=by
 unfold rv;show((-n:Int):Rat) / _=_;rw[Rat.intCast_neg,Rat.div_def,Rat.div_def,Rat.neg_mul]
def kJ(g:Nat→Rat):Nat→Rat
 |0=>0
 |k+1=>kJ g k+g k
theorem vo{g h:Nat→Rat}:∀{n:Nat},(∀j,j<n→g j=h j)→kJ g n=kJ h n
 |0,_=>rfl
 |n+1,e=>by
  simp only[kJ];rw[vo (n:=n) λj hj=>e j Ω,e n Ω]
theorem ZN{g h:Nat→Rat}{r:Nat}(e:∀j,j≠r→g j=h j):∀{n:Nat},r<n→kJ g n=kJ h n - h r+g r
 |0,hr=>by omega
 |n+1,hr=>by
  simp only[kJ];by_cases e1:r=n
  ·subst e1
   rw[vo (g:=g) (h:=h) (n:=r) λj hj=>e j Ω]
   grind
  ·rw[ZN e (n:=n) Ω,e n Ω]
   grind
theorem yw{f:Nat→Fr}:∀{n:Nat},(∀j,j<n→0<(f j).d)→0<(qP f n).d∧rv (qP f n)=kJ (λj=>rv (f j)) n
 |0,_=>⟨Int.one_pos,by show rv ⟨0,1⟩=0;unfold rv;rw[Rat.div_def];show((0:Int):Rat)*_=0;grind⟩
 |n+1,h=>by
  have⟨h1,h2⟩:=yw (f:=f) (n:=n) λj hj=>h j Ω;have hn:=h n Ω;have⟨p1,p2⟩:=KA h1 hn;refine⟨p1,?_⟩;simp only[qP,kJ];rw[Yj h1 hn,h2]
def gr(lo hi:Nat→Fr)(r k:Nat):Fr:=if k<r then hi k else lo k
def oth(lo hi:Nat→Fr)(n r:Nat):Fr:=qP (qN (gr lo hi r) r ⟨0,1⟩) n
def left(lo hi:Nat→Fr)(n r:Nat):Fr:=qO ⟨1,1⟩ ⟨-(oth lo hi n r).n,(oth lo hi n r).d⟩
theorem rv0:rv ⟨0,1⟩=0:=by
 unfold rv;rw[Rat.div_def];show((0:Int):Rat)*_=0;grind
theorem rv1:rv ⟨1,1⟩=1:=by
 unfold rv;show((1:Int):Rat) /((1:Int):Rat)=1;grind
theorem qrz(hl:∀k,Ch (lo k))(hh:∀k,Ch (hi k))(r k:Nat):Ch (gr lo hi r k):=by
 unfold gr;split
 ·exact hh k
 ·exact hl k
theorem ch0:Ch ⟨0,1⟩:=⟨Ωq,Ωq,Ωq,Ωq⟩
theorem KB(hl:∀k,Ch (lo k))(hh:∀k,Ch (hi k))(r k:Nat):Ch (qN (gr lo hi r) r ⟨0,1⟩ k):=by
 unfold qN;split
 ·exact ch0
 ·exact qrz hl hh r k
theorem Gp(hl:∀k,Ch (lo k))(hh:∀k,Ch (hi k))(hr:r<n):0<(left lo hi n r).d∧rv (left lo hi n r)=1 -(kJ (λk=>rv (gr lo hi r k)) n - rv (lo r)):=by
 have⟨o1,o2⟩:=yw (f:=qN (gr lo hi r) r ⟨0,1⟩) (n:=n) λj hj=>(KB hl hh r j).d1;have o3:rv (oth lo hi n r)=kJ (λj=>rv (qN (gr lo hi r) r ⟨0,1⟩ j)) n:=o2;have o4:0<(oth lo hi n r).d:=o1;refine⟨(KA (a:=⟨1,1⟩) (b:=⟨-(oth lo hi n r).n,(oth lo hi n r).d⟩) Int.one_pos o4).1,?_⟩;unfold left;rw[Yj (a:=⟨1,1⟩) (b:=⟨-(oth lo hi n r).n,(oth lo hi n r).d⟩) Int.one_pos o4,rv1,qjI];show 1 + - rv (oth lo hi n r)=_;rw[o3,ZN (g:=λj=>rv (qN (gr lo hi r) r ⟨0,1⟩ j)) (h:=λk=>rv (gr lo hi r k)) (r:=r) (λj hj=>by show rv (qN _ r _ j)=_;unfold qN;rw[if_neg hj]) hr];show 1 + -(_ - rv (gr lo hi r r)+rv (qN (gr lo hi r) r ⟨0,1⟩ r))=_;have e1:gr lo hi r r=lo r:=by unfold gr;rw[if_neg Ω]
 have e2:qN (gr lo hi r) r ⟨0,1⟩ r=⟨0,1⟩:=by unfold qN;rw[if_pos rfl]
 rw[e1,e2,rv0]
 grind
theorem qmA(hr:r<n):kJ (λk=>rv (gr lo hi (r+1) k)) n=kJ (λk=>rv (gr lo hi r k)) n - rv (lo r)+rv (hi r):=by
 rw[ZN (g:=λk=>rv (gr lo hi (r+1) k)) (h:=λk=>rv (gr lo hi r k)) (r:=r) (λj hj=>by
  show rv (gr lo hi (r+1) j)=rv (gr lo hi r j);unfold gr;by_cases e:j<r
  ·rw[if_pos e,if_pos Ω]
  ·rw[if_neg e,if_neg Ω]) hr]
 show _ - rv (gr lo hi r r)+rv (gr lo hi (r+1) r)=_;have e1:gr lo hi r r=lo r:=by unfold gr;rw[if_neg Ω]
 have e2:gr lo hi (r+1) r=hi r:=by unfold gr;rw[if_pos Ω]
 rw[e1,e2]
structure FairR(lo hi:Nat→Fr)(n:Nat):Prop where
 lc:∀k,Ch (lo k)
 hc:∀k,Ch (hi k)
 n1:1≤n
 n5:n≤5
 bd:∀r,r<n→rv (lo r)≤rv (hi r)
 sl:kJ (λk=>rv (lo k)) n≤1
 sh:1≤kJ (λk=>rv (hi k)) n
theorem FairR.le(h:FairR lo hi n):∀{r:Nat},r≤n→(∀j,j<r→lt (hi j) (left lo hi n j))→kJ (λk=>rv (gr lo hi r k)) n≤1∧(0<r→kJ (λk=>rv (gr lo hi r k)) n<1)
 |0,_,_=>by
  refine⟨?_,λh=>by omega⟩;have:=h.sl;rw[vo (g:=λk=>rv (gr lo hi 0 k)) (h:=λk=>rv (lo k)) λj _=>by show rv (gr lo hi 0 j)=_;unfold gr;rw[if_neg Ω]];exact this
 |r+1,hr,hs=>by
  have⟨h1,h2⟩:=h.le (r:=r) Ω λj hj=>hs j Ω;have⟨l1,l2⟩:=Gp h.lc h.hc (n:=n) (r:=r) Ω;have h3:=(vn (h.hc r).d1 l1).1 (hs r Ω);rw[qmA Ω];rw[l2]at h3;have h4:kJ (λk=>rv (gr lo hi r k)) n - rv (lo r)+rv (hi r)<1:=by grind
  exact⟨(by grind),λ_=>h4⟩
theorem FairR.stops(h:FairR lo hi n)(hs:∀j,j<n→lt (hi j) (left lo hi n j)):False:=by
 have:=(h.le (xa5 n) hs).2 h.n1;rw[vo (g:=λk=>rv (gr lo hi n k)) (h:=λk=>rv (hi k)) λj hj=>by show rv (gr lo hi n j)=_;unfold gr;rw[if_pos hj]]at this;have:=h.sh
 grind
theorem FairR.left_bd(h:FairR lo hi n)(hr:r<n)(hs:∀j,j<r→lt (hi j) (left lo hi n j)):rv (lo r)≤rv (left lo hi n r):=by
 have⟨h1,h2⟩:=h.le (r:=r) Ω hs;have⟨l1,l2⟩:=Gp h.lc h.hc (n:=n) (r:=r) hr;rw[l2]
 grind
def ownF(lo hi:Nat→Fr)(n r:Nat):Nat→Fr:=qN (gr lo hi r) r (left lo hi n r)
def Stop(lo hi:Nat→Fr)(n r:Nat):Prop:=r<n∧(∀j,j<r→lt (hi j) (left lo hi n j))∧¬lt (hi r) (left lo hi n r)
theorem FairR.own(h:FairR lo hi n)(hr:Stop lo hi n r):(∀k,k<n→0<(ownF lo hi n r k).d∧rv (lo k)≤rv (ownF lo hi n r k)∧rv (ownF lo hi n r k)≤rv (hi k))∧kJ (λk=>rv (ownF lo hi n r k)) n=1:=by
 have⟨s1,s2,s3⟩:=hr;have⟨l1,l2⟩:=Gp h.lc h.hc (n:=n) (r:=r) s1;have l3:=h.left_bd s1 s2;have l4:rv (left lo hi n r)≤rv (hi r):=by
  have:=λe=>s3 ((vn (h.hc r).d1 l1).2 e)
  grind
 refine⟨λk hk=>?_,?_⟩
 ·unfold ownF qN
  by_cases e:k=r
  ·subst e;rw[if_pos rfl];exact⟨l1,l3,l4⟩
  ·rw[if_neg e]
   unfold gr;split
   ·exact⟨(h.hc k).d1,h.bd k hk,Rat.le_refl⟩
   ·exact⟨(h.lc k).d1,Rat.le_refl,h.bd k hk⟩
 ·rw[ZN (g:=λk=>rv (ownF lo hi n r k)) (h:=λk=>rv (gr lo hi r k)) (r:=r) (λj hj=>by show rv (qN _ r _ j)=_;unfold qN;rw[if_neg hj]) s1]
  show _ - rv (gr lo hi r r)+rv (qN _ r _ r)=1;have e1:gr lo hi r r=lo r:=by unfold gr;rw[if_neg Ω]
  have e2:qN (gr lo hi r) r (left lo hi n r) r=left lo hi n r:=by unfold qN;rw[if_pos rfl]
  rw[e1,e2,l2]
  grind
end Go.Tv
end
section
namespace Go.Tv
open Go.Proofs
open Go.Sx
theorem jg:∀{l:List SV},OldL l→∀j,j<l.length→Old (l.getD j .top)
 |[],_,j,h=>by simp at h
 |a :: l,h,0,_=>by simp only[OldL]at h;exact h.1
 |a :: l,h,j+1,hj=>by
  simp only[OldL]at h;have:=jg h.2 j (by simpa using hj);simpa using this
def dkr(M:Mk)(lo hi:Nat→Fr)(j:Nat):SV:=(dkL M.run M.m M.q lo hi 0).getD j .top
theorem qaW(M:Mk)(lo hi:Nat→Fr):∀j,j<22→dkr M lo hi j=((dkL M.run M.m M.q lo hi 0).take 22).getD j .top:=λj hj=>by
 unfold dkr;simp only[xc6];rw[List.getElem?_take_of_lt hj]
theorem ZO(M:Mk)(lo hi:Nat→Fr):∀j,j<22→Old (dkr M lo hi j):=λj hj=>by
 rw[qaW M lo hi j hj];refine jg ?_ j (by show j<22;exact hj);show OldL [vI M.run,.arr false false M.m 4 (λi j=>qf (M.q i) j),vI (lo 0).n,vI (lo 0).d,vI (lo 1).n,vI (lo 1).d,vI (lo 2).n,vI (lo 2).d,vI (lo 3).n,vI (lo 3).d,vI (lo 4).n,vI (lo 4).d,vI (hi 0).n,vI (hi 0).d,vI (hi 1).n,vI (hi 1).d,vI (hi 2).n,vI (hi 2).d,vI (hi 3).n,vI (hi 3).d,vI (hi 4).n,vI (hi 4).d];simp only[OldL,vI,Old,and_self];exact⟨trivial,⟨trivial,λi j _ _=>qf_old _ _⟩,trivial⟩
theorem qmB(M:Mk)(lo hi:Nat→Fr)(mid:Nat):∀j,j<22→(dkL M.run M.m M.q lo hi mid).getD j .top=dkr M lo hi j:=λj hj=>by
 rw[qaW M lo hi j hj];have:(dkL M.run M.m M.q lo hi 0).take 22=(dkL M.run M.m M.q lo hi mid).take 22:=rfl;rw[this];simp only[xc6];rw[List.getElem?_take_of_lt hj]
theorem qmC(hp:List (Nat×Blk))(M:Mk)(lo hi:Nat→Fr)(mid:Nat):∀j,j<22→Go.Sx.Sub hp (dkr M lo hi j) ((dkL M.run M.m M.q lo hi mid).getD j .top)∧j<(dkL M.run M.m M.q lo hi mid).length:=λj hj=>by
 rw[qmB M lo hi mid j hj,qI];exact⟨zD _ (ZO M lo hi j hj),Ω⟩
theorem qoU(M:Mk)(lo hi:Nat→Fr){k:Nat}(h:k<5):dkr M lo hi (2+k*2)=vI (lo k).n∧dkr M lo hi (2+(k*2+1))=vI (lo k).d:=by
 rcases Jp h with rfl|rfl|rfl|rfl|rfl<;>exact⟨rfl,rfl⟩
theorem qoV(M:Mk)(lo hi:Nat→Fr){k:Nat}(h:k<5):dkr M lo hi (12+k*2)=vI (hi k).n∧dkr M lo hi (12+(k*2+1))=vI (hi k).d:=by
 rcases Jp h with rfl|rfl|rfl|rfl|rfl<;>exact⟨rfl,rfl⟩
def zU(M:Mk)(r:Nat):Bool:=decide (lt (hiS M.q r M.m) (loS M.q r M.m))
def clo(M:Mk):SV:=.ref false 1 (λ_=>.ref false 22 (dkr M (dlo M M.m) (dhi M M.m)))
theorem qeF(M:Mk):Old (clo M):=by
 simp only[clo,Old];exact⟨trivial,λ_ _=>⟨trivial,λj hj=>ZO _ _ _ j hj⟩⟩
theorem qrA(M:Mk)(hf:M.Fine)(r:Nat)(hr:(r:Int)<M.run):qb Tryz.prog 210 [I r,clo M] (B (zU M r)):=by
 refine qc Tryz.func210 rfl Ωb follows Ωb _ _ (by rw[Tryz.ntmps210];simp) (by simp only[OldL,qeF,and_true];simp[Old,I]) ?_;have hr5:=hf.r5;have gl:=qoU M (dlo M M.m) (dhi M M.m) (k:=r) Ω;have gh:=qoV M (dlo M M.m) (dhi M M.m) (k:=r) Ω;have el:dlo M M.m r=loS M.q r M.m:=by unfold dlo;rw[if_pos hr]
 have eh:dhi M M.m r=hiS M.q r M.m:=by unfold dhi;rw[if_pos hr]
 rw[el]at gl;rw[eh]at gh;have cl:=yu (q:=M.q) (r:=r) hf.od;have ch:=yv (q:=M.q) (r:=r) hf.od;have n1:=ch.in1 cl;have n2:=cl.in1 ch;unfold B zU
 conv=>arg 4;unfold clo I
 repeat' first|refine sD ?_ ?_<;>intro _|refine aA ?_|simp -dsimp only[↓RP,RQ,seval,sel,xb2,gl,gh,ql,QF,fsv,B,I,RZ,eq_self,Tryz.results210]
 all_goals try(exfalso;omega)
 refine qh (qaR (hiS M.q r M.m) (loS M.q r M.m) Ωz Ωz) Ωf Ωc ?_;repeat' first|refine sD ?_ ?_<;>intro _|refine aA ?_|simp -dsimp only[↓RP,RQ,seval,ql,QF,fsv,B,I,RZ,eq_self,Tryz.results210]
theorem qrB(M:Mk)(hf:M.Fine)(n:Nat)(hn:(n:Int)=M.run):qb Tryz.prog 209 [I (-1),ints n (λi=>(i:Int)),.fn (.func 210) [] [clo M]] (I (zb (zU M) 0 n)):=by
 refine qc Tryz.func209 rfl Ωb follows Ωb _ _ (by rw[Tryz.ntmps209];simp) (by simp only[OldL,Old,qeF,and_true];simp[Old,I,ints]) ?_;have hr5:=hf.r5
 conv=>arg 4;unfold clo ints I
 (repeat' first|refine sD ?_ ?_<;>intro _|refine aA ?_|simp -dsimp only[↓RP,RQ,seval,ql,QF,fsv,B,I,RZ,eq_self,Tryz.results209]);refine qo (λi=>i≤n∧zb (zU M) 0 n=zb (zU M) i (n - i)) (λi=>⟨[(0,.val (.int .i64 (-1))),(2,.fn (.func 210) [] [.ref false 1 (λ_=>.ref false 22 (dkr M (dlo M M.m) (dhi M M.m)))]),(9,.arr false false n 1 (λi _=>.val (.int .i64 (i:Nat)))),(10,.val (.int .i64 n)),(11,.val (.int .i64 i))],[],20⟩) (λi=>n - i) 0 ⟨xb6 _,rfl⟩ (weak [] [] ?_ ?_ ?_) λi hi=>?_
 ·(simp -dsimp only[↓RP,RQ,seval]);all_goals (try simp)
  all_goals (try exact λj hj=>yQ _ (ZO _ _ _ j hj))
 ·(simp -dsimp only[↓RP,RQ,seval])
 ·(simp -dsimp only[↓RP,RQ,seval]);all_goals (try simp)
 obtain⟨hi,he⟩:=hi;have e1:∀k,n - i=k+1→zb (zU M) i (n - i)=if zU M i=true then(i:Int)else zb (zU M) (i+1) k:=λk hk=>by rw[hk];rfl
 by_cases hlt:i<n
 ·have e2:=e1 (n -(i+1)) Ω
  repeat' first|refine sD ?_ ?_<;>intro _|refine aA ?_|simp -dsimp only[↓RP,RQ,seval,ql,QF,fsv,B,I,RZ,eq_self,Tryz.results209]
  all_goals try(exfalso;omega)
  refine qh (qrA M hf i Ω) (by(simp -dsimp only[↓RP,RQ,seval,clo,I]);all_goals (try simp);all_goals (try exact λj hj=>zD _ (ZO _ _ _ j hj))) Ωc ?_;cases hc:zU M i
  all_goals rw[hc]at e2
  all_goals repeat' first|refine sD ?_ ?_<;>intro _|refine aA ?_|simp -dsimp only[↓RP,RQ,seval,ql,QF,fsv,B,I,RZ,eq_self,Tryz.results209]
  ·refine⟨i+1,⟨Ω,by rw[he,e2,if_neg Ωq]⟩,Ω,weak [] [] ?_ ?_ ?_⟩
   ·(simp -dsimp only[↓RP,RQ,seval]);all_goals (try simp)
    all_goals (try exact λj hj=>yQ _ (ZO _ _ _ j hj))
   ·(simp -dsimp only[↓RP,RQ,seval])
   ·(simp -dsimp only[↓RP,RQ,seval]);all_goals (try simp)
  ·refine zO ?_
   rw[he,e2,if_pos rfl]
 ·repeat' first|refine sD ?_ ?_<;>intro _|refine aA ?_|simp -dsimp only[↓RP,RQ,seval,ql,QF,fsv,B,I,RZ,eq_self,Tryz.results209]
  all_goals try(exfalso;omega)
  refine zO ?_;have:n - i=0:=by omega
  rw[he,this];rfl
end Go.Tv
end
