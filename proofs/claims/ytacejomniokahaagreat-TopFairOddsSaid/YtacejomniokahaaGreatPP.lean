/- A part of the proof. -/
import Derived.Test.YtacejomniokahaaGreatPO
import Derived.Test.YtacejomniokahaaGreatPE
import Derived.Test.YtacejomniokahaaGreatPI
open Nat renaming reduceAdd→xa1,reduceEqDiff→xa2,le_refl→xa5,add_zero→xb1,add_assoc→xb2,zero_le→xb6,sub_self→xb8
set_option linter.unusedVariables false
set_option linter.unusedSimpArgs false
set_option linter.defProp false
set_option maxRecDepth 1000000
set_option maxHeartbeats 16000000
section
namespace Go.Tn
open Go.Proofs
open Go.Sx
theorem SubHp.ent{hp l:List (Nat×Blk)}{k:Nat}{x:Blk}(h:blk hp k=some x)(hl:SubHp hp l):SubHp hp ((k,x) :: l):=λq v hv=>by
 simp only[blk]at hv;split at hv
 ·rename_i e;cases hv;rw[e];exact h
 ·exact hl q v hv
end Go.Tn
end
section
namespace Go.Tn
open Go.Proofs
open Go.Sx
def gbk(k n:Int)(nb:Nat)(f g q:Nat→Int)(ns:Nat)(s:Nat→Int)(fav:Bool)(c d st:Int):SV:=.agg [.val (.int .i64 k),.val (.int .i64 n),zA nb f g q,.arr false false ns 1 (λi _=>.val (.int .i64 (s i))),.val (.bool fav),.val (.int .i64 c),.val (.int .i64 d),.val (.int .i64 st)]
theorem Z7(k n:Int)(nb:Nat)(f g q:Nat→Int)(ns:Nat)(s:Nat→Int)(fav:Bool)(c d st:Int):Old (gbk k n nb f g q ns s fav c d st):=by
 simp only[gbk,Old,OldL];exact⟨trivial,trivial,KD _ _ _ _,⟨trivial,λ_ _ _ _=>trivial⟩,trivial,trivial,trivial,trivial,trivial⟩
theorem YG{hp:List (Nat×Blk)}{n:Int}{nb:Nat}{f g q:Nat→Int}{fav:Bool}{c d st:Int}(hg:∀i,i<nb→g i = -1):Go.Sx.Sub hp (bkS n nb f (λ_=>-1) q fav c d st) (bkS n nb f g q fav c d st):=by
 simp only[bkS,Go.Sx.Sub,Go.Sx.SubL,zA,true_and,and_true,and_self];refine⟨λh=>h,λh=>h,λi j hi hj=>?_⟩;rcases(Ω:j=0∨j=1∨j=2)with rfl|rfl|rfl
 ·simp[Go.Sx.Sub]
 ·simp[Go.Sx.Sub,hg i hi]
 ·simp[Go.Sx.Sub]
theorem Gw{hp:List (Nat×Blk)}{nb:Nat}{f g q:Nat→Int}:∀i j,i<nb→j<3→Go.Sx.Sub hp ([SV.val (.int .i64 (f i)),SV.val (.int .i64 (g i)),SV.val (.int .i64 (q i))].getD j .top) ([SV.val (.int .i64 (f i)),SV.val (.int .i64 (g i)),SV.val (.int .i64 (q i))].getD j .top):=by
 intro i j hi hj;rcases(Ω:j=0∨j=1∨j=2)with rfl|rfl|rfl<;>simp[Go.Sx.Sub]
theorem qsd(k n:Int)(nb:Nat)(f g q:Nat→Int)(ns:Nat)(s:Nat→Int)(fav:Bool)(c d st:Int)(hnb:110<nb):qb Tryz.prog 30 [gbk k n nb f g q ns s fav c d st] (.tup [gbk k n nb f g q ns s fav c d st,B false]):=by
 refine qc Tryz.func30 rfl Ωb follows Ωb _ _ (by rw[Tryz.ntmps30];simp) (by simp only[OldL,Z7,and_true]) ?_;have NB:=decide_eq_true (Ω:(110:Int)<(nb:Nat));unfold gbk B;repeat' first|refine sD ?_ ?_<;>intro _|refine aAj ?_|simp -dsimp only[↓RP,RQ,seval,TYP,zA,NB,QR,QT,QN]
 all_goals try exact Ωe
 all_goals (repeat' (first|with_reducible refine An ?_ ?_|exact Gw|exact λh=>h|exact trivial|rfl|(intro i j hi hj;simp[Go.Sx.Sub])))
theorem qpC(d:Int)(hd:InK .i64 d):∃D,Int.tdiv d 10=D∧-922337203685477580≤D∧D≤922337203685477580:=by
 refine⟨_,rfl,?_⟩;simp only[InK]at hd;rcases Int.le_total 0 d with h|h
 ·rw[Int.tdiv_eq_ediv_of_nonneg h];omega
 ·have e:d.tdiv 10 = -((-d).tdiv 10):=by rw[Int.neg_tdiv,Int.neg_neg]
  rw[e,Int.tdiv_eq_ediv_of_nonneg (a:=-d) Ω];omega
theorem qse(k n:Int)(nb:Nat)(f g q:Nat→Int)(ns:Nat)(s:Nat→Int)(fav:Bool)(c d st D:Int)(hnb:nb≤110)(hD:Int.tdiv d 10=D)(hD1 : -922337203685477580≤D∧D≤922337203685477580)(hk:¬ckB n nb f g q 0 (D*10) 1=0):qb Tryz.prog 30 [gbk k n nb f g q ns s fav c d st] (.tup [bkS n nb f g q fav 0 (D*10) 1,B false]):=by
 refine qc Tryz.func30 rfl Ωb follows Ωb _ _ (by rw[Tryz.ntmps30];simp) (by simp only[OldL,Z7,and_true]) ?_;have NB:=decide_eq_false (Ω:¬(110:Int)<(nb:Nat));have h25:=c25 n nb f g q fav 0 (D*10) 1 Ω;have d2:=decide_eq_false hk;unfold gbk bkS B;repeat' first|refine sD ?_ ?_<;>intro _|refine aAj ?_|simp -dsimp only[↓RP,RQ,seval,hD,TYP,zA,NB,QR,QT,QN]
 all_goals try exact Ωe
 refine zC h25 (by simp only[SubL,and_true];exact zD _ (Qa _ _ _ _ _ _ _ _ _)) ?_;repeat' first|refine sD ?_ ?_<;>intro _|refine aAj ?_|simp -dsimp only[↓RP,RQ,seval,d2,QT,TYP,zA,NB,QR,QN]
 all_goals try exact Ωe
 all_goals (repeat' (first|with_reducible refine An ?_ ?_|exact Gw|exact λh=>h|exact trivial|rfl|(intro i j hi hj;simp[Go.Sx.Sub])))
theorem qrb(k:Int)(n:Nat)(nb:Nat)(f g q:Nat→Int)(ns:Nat)(s:Nat→Int)(fav:Bool)(c d st D:Int)(hnb:nb≤110)(hD:Int.tdiv d 10=D)(hD1 : -922337203685477580≤D∧D≤922337203685477580)(hk:ckB n nb f g q 0 (D*10) 1=0)(ok:Bool)(hok:ok=true↔∀r,r<n→cF f q nb (r:Nat)≤10000):qb Tryz.prog 30 [gbk k n nb f g q ns s fav c d st] (.tup [bkS n nb f g q fav 0 (D*10) 1,B ok]):=by
 refine qc Tryz.func30 rfl Ωb follows Ωb _ _ (by rw[Tryz.ntmps30];simp) (by simp only[OldL,Z7,and_true]) ?_;have NB:=decide_eq_false (Ω:¬(110:Int)<(nb:Nat));have h25:=c25 n nb f g q fav 0 (D*10) 1 Ω;obtain⟨k1,k2,k3⟩:=ckB_ok.1 hk;have k4:=k1.1;rw[hk]at h25;unfold gbk bkS B;repeat' first|refine sD ?_ ?_<;>intro _|refine aAj ?_|simp -dsimp only[↓RP,RQ,seval,hD,TYP,zA,NB,QR,QT,QN]
 all_goals try exact Ωe
 refine zC h25 (by simp only[SubL,and_true];exact zD _ (Qa _ _ _ _ _ _ _ _ _)) ?_;repeat' first|refine sD ?_ ?_<;>intro _|refine aAj ?_|simp -dsimp only[↓RP,RQ,seval,QT,TYP,zA,NB,QR,QN]
 all_goals try exact Ωe
 refine qo (λ(w:Nat)=>w≤n∧∀r,r<w→cF f q nb (r:Nat)≤10000) (λw=>⟨[(1,.ptr 0 0),(2,.ptr 1 0),(3,.val (.bool false)),(4,.val (.int .i64 (w:Nat)))],[(1,.cells 48 [.val (.int .i64 0),.val (.int .i64 0),.val (.slice none 0 0),.val (.slice none 0 0),.val (.bool false),.val (.int .i64 0),.val (.int .i64 0),.val (.int .i64 0)]),(0,.cells 48 [.val (.int .i64 0),.val (.int .i64 n),zA nb f g q,.val (.slice none 0 0),.val (.bool fav),.val (.int .i64 0),.val (.int .i64 (D*10)),.val (.int .i64 1)])],200+40*w⟩) (λw=>n - w) 0 ⟨xb6 _,λr hr=>by omega⟩ (qp Ω Ωh (SubHp.refl _)) λw hw=>?_;obtain⟨hw,hp⟩:=hw;by_cases hwn:w<n
 ·have hlt:=decide_eq_true (Ω:((w:Nat):Int)<(n:Nat))
  have h26:=c26 nb n f q fav 0 (D*10) 1 (w:Nat) k2 (λi hi=>by have:=(k3 i hi).1;omega);repeat' first|refine sD ?_ ?_<;>intro _|refine aAj ?_|simp -dsimp only[↓RP,RQ,seval,hlt,TYP,zA,NB,QR,QT,QN]
  all_goals try exact Ωe
  refine zC h26 (by simp only[SubL,and_true];exact⟨YG (λi hi=>(k3 i hi).2.2),by simp[Go.Sx.Sub,Go.Sx.SubL,I]⟩) ?_;by_cases hc:cF f q nb (w:Nat)≤10000
  ·have d5:=decide_eq_false (Ω:¬(10000:Int)<cF f q nb (w:Nat))
   repeat' first|refine sD ?_ ?_<;>intro _|refine aAj ?_|simp -dsimp only[↓RP,RQ,seval,QT,d5,TYP,zA,NB,QR,QN]
   all_goals try exact Ωe
   exact⟨w+1,⟨hwn,λr hr=>by by_cases e:r=w;(subst e;exact hc);exact hp r Ω⟩,Ω,qp Ω Ωh (SubHp.refl _)⟩
  ·have d5:=decide_eq_true (Ω:(10000:Int)<cF f q nb (w:Nat))
   have e:ok=false:=by
    cases ok with
    |false=>rfl
    |true=>exact absurd (hok.1 rfl w hwn) hc
   subst e;repeat' first|refine sD ?_ ?_<;>intro _|refine aAj ?_|simp -dsimp only[↓RP,RQ,seval,QT,d5,TYP,zA,NB,QR,QN]
   all_goals try exact Ωe
   all_goals (repeat' (first|with_reducible refine An ?_ ?_|exact Gw|exact λh=>h|exact trivial|rfl|(intro i j hi hj;simp[Go.Sx.Sub])))
 ·have hlt:=decide_eq_false (Ω:¬((w:Nat):Int)<(n:Nat))
  have e:ok=true:=hok.2 λr hr=>hp r Ω;subst e;repeat' first|refine sD ?_ ?_<;>intro _|refine aAj ?_|simp -dsimp only[↓RP,RQ,seval,hlt,TYP,zA,NB,QR,QT,QN]
  all_goals try exact Ωe
  all_goals (repeat' (first|with_reducible refine An ?_ ?_|exact Gw|exact λh=>h|exact trivial|rfl|(intro i j hi hj;simp[Go.Sx.Sub])))
theorem one2(a b:Int):∀i j:Nat,i<1→j<2→oneCell ([SV.val (.int .i64 a),SV.val (.int .i64 b)].getD (i*2+j) .top)=true:=by
 intro i j hi hj;obtain rfl:i=0:=by omega
 rcases(Ω:j=0∨j=1)with rfl|rfl<;>simp[oneCell]
theorem qsf:qE Tryz.prog 99=16:=by kernel_rfl
theorem c33(n:Nat)(nb:Nat)(f q:Nat→Int)(fav:Bool)(c d st:Int)(hn1:1≤n)(hn:n≤8)(hnb:nb≤100)(hq:∀i,i<nb→1≤q i∧q i≤1000)(hd:0≤d∧d≤500):qb Tryz.prog 33 [bkS n nb f (λ_=>-1) q fav c d st] (.agg [.arr true false n 2 (λi j=>.val (.int .i64 (100*cF f q nb (i:Nat)))),I d]):=by
 refine qc Tryz.func33 rfl Ωb follows Ωb _ _ (by rw[Tryz.ntmps33];simp) (by simp only[OldL,Qa,and_true]) ?_;have NB:True:=trivial;unfold bkS I;repeat' first|refine sD ?_ ?_<;>intro _|refine aAj ?_|simp -dsimp only[↓RP,RQ,seval,TYP,Go.Tv.TYv,NB,QR,QT,QN]
 all_goals try exact Ωe
 refine qo (λ(z:Nat×Nat×Nat×(Nat→Nat→SV))=>z.1≤n∧5<z.2.2.1∧z.2.2.1<z.2.1∧∀i,i<z.1→∀j,j<2→z.2.2.2 i j=.val (.int .i64 (100*cF f q nb (i:Nat)))) (λz=>⟨[(1,.ptr 0 0),(2,.ptr 1 0),(3,.ptr 5 0),(4,.val (.int .i64 (z.1:Nat)))],[(z.2.2.1,.rows 99 2 z.1 z.2.2.2),(5,.cells 73 [.vec z.2.2.1 z.1 2,.val (.int .i64 d)]),(1,.cells 73 [.val (.slice none 0 0),.val (.int .i64 0)]),(0,.cells 48 [.val (.int .i64 0),.val (.int .i64 n),zA nb f (λ_=>-1) q,.val (.slice none 0 0),.val (.bool fav),.val (.int .i64 c),.val (.int .i64 d),.val (.int .i64 st)])],z.2.1⟩) (λz=>n - z.1) (0,9,8,λ_ _=>.top) ⟨xb6 _,Ωk,Ωk,λj hj=>(by cases hj)⟩ (Weak.trans (qbH (b:=5) (i:=0) (k:=2) (te:=99) (λ_ _=>.top) ΩC ΩC) (qp (xa5 _) Ωh ?hA)) λz hz=>?_
 case hA=>((repeat' (refine SubHp.ent ΩN ?_));exact λq v hv=>(by cases hv))
 obtain⟨w,nid,vid,row⟩:=z;obtain⟨hw,n1,n2,hrow⟩:=hz;dsimp only at hw n1 n2 hrow;clear NB;have NB:=(⟨nmA (Ω:0<nid),nmA (Ω:1<nid),nmA (Ω:5<nid),nmA (Ω:vid<nid),nmE (Ω:vid≠0),nmE (Ω:vid≠1),nmE (Ω:vid≠5)⟩:_∧_∧_∧_∧_∧_∧_);by_cases hwn:w<n
 ·have hlt:=decide_eq_true (Ω:((w:Nat):Int)<(n:Nat))
  have h26:=c26 nb n f q fav c d st (w:Nat) hnb hq;have hb:=J4 f q (w:Nat) nb hq;repeat' first|refine sD ?_ ?_<;>intro _|refine aAj ?_|simp -dsimp only[↓RP,RQ,seval,hlt,TYP,Go.Tv.TYv,NB,QR,QT,QN]
  all_goals try exact Ωe
  refine zC h26 (by simp only[SubL,and_true];exact⟨zD _ (Qa _ _ _ _ _ _ _ _ _),by simp[Go.Sx.Sub,Go.Sx.SubL,I]⟩) ?_;repeat' first|refine sD ?_ ?_<;>intro _|refine aAj ?_|simp -dsimp only[↓RP,RQ,seval,QT,TYP,Go.Tv.TYv,NB,QR,QN]
  all_goals try exact Ωe
  refine⟨⟨.inr trivial,xa5 _,one2 _ _,Ω,by rw[qsf];omega⟩,by simp only[InK];omega,(w+1,_,nid+16,λi j=>if i<w then row i j else [SV.val (.int .i64 (100*cF f q nb (w:Nat))),SV.val (.int .i64 (100*cF f q nb (w:Nat)))].getD ((i - w)*2+j) .top),⟨Ωk,Ωk,?n,?ar⟩,Ωk,qp (xa5 _) Ωh ?hs⟩
  case n=>dsimp only;omega
  case ar=>
   dsimp only;intro i hi;by_cases e:i<w
   ·rw[if_pos e,if_pos e];exact⟨hrow i e 0 Ω,hrow i e 1 Ω⟩
   ·obtain rfl:i=w:=by omega
    rw[if_neg e,if_neg e,xb8];exact⟨rfl,rfl⟩
  case hs=>((repeat' (refine SubHp.ent Ωo ?_));exact λq v hv=>(by cases hv))
 ·have hlt:=decide_eq_false (Ω:¬((w:Nat):Int)<(n:Nat))
  obtain rfl:w=n:=by omega
  repeat' first|refine sD ?_ ?_<;>intro _|refine aAj ?_|simp -dsimp only[↓RP,RQ,seval,hlt,TYP,Go.Tv.TYv,NB,QR,QT,QN]
  all_goals try exact Ωe
  all_goals (intro i j hi hj;exact hrow i hi j hj)
end Go.Tn
end
section
namespace Go.Tn
open Go.Proofs
open Go.Sx
def plV(n nb:Nat)(f q:Nat→Int)(d:Int):Go.Tv.Pl:=⟨n,λi=>100*cF f q nb (i:Nat),λi=>100*cF f q nb (i:Nat),d⟩
theorem qds(f q:Nat→Int)(n:Nat):∀nb:Nat,(∀i,i<nb→0≤f i∧f i<n)→Go.Tv.sumTo (λi=>100*cF f q nb (i:Nat)) n=100*sQ q nb
 |0,_=>by
  have:∀m,Go.Tv.sumTo (λi=>100*cF f q 0 (i:Nat)) m=0:=λm=>by
   induction m with
   |zero=>rfl
   |succ m ih=>simp only[Go.Tv.sumTo];rw[ih];simp[cF]
  rw[this];simp[sQ]
 |w+1,h=>by
  have ih:=qds f q n w λi hi=>h i Ω;have hw:=h w Ω;obtain⟨k,hk⟩:∃k:Nat,f w=(k:Nat):=⟨(f w).toNat,Ω⟩;have hkn:k<n:=by omega
  have e1:=Go.Tv.sumTo_one (u:=λi=>100*cF f q w (i:Nat)) (v:=λi=>100*cF f q (w+1) (i:Nat)) (k:=k) (λi hi=>by
   show 100*cF f q (w+1) (i:Nat)=100*cF f q w (i:Nat);rw[qlk,if_neg Ω];omega) (n:=n)
  have e2:=Go.Tv.sumTo_one (u:=λi=>100*cF f q w (i:Nat)) (v:=λi=>100*cF f q w (i:Nat)) (k:=k) (λ_ _=>rfl) (n:=n);rw[if_pos hkn]at e1 e2;rw[ih]at e2;rw[e1,qpy];have e3:cF f q (w+1) (k:Nat)=cF f q w (k:Nat)+q w:=by rw[qlk,if_pos hk]
  show _+100*cF f q (w+1) (k:Nat)=_;rw[e3];have e4:100*sQ q w=Go.Tv.sumTo (λj=>if j=k then 0 else 100*cF f q w (j:Nat)) n+100*cF f q w (k:Nat):=e2;omega
theorem qpD{n nb:Nat}{f q:Nat→Int}{d:Int}(hn1:2≤n)(hn:n≤8)(hq:∀i,i<nb→1≤q i∧q i≤1000)(hd:0≤d∧d≤500)(hu:∀r,r<n→cF f q nb (r:Nat)≤10000){r:Nat}(hr:r<n):(plV n nb f q d).ask r=0:=
 Go.Tv.Pl.ask_iff.2 ⟨Go.Tv.Pl.Fine.err ⟨(by show 1≤n;omega),hn,λi hi=>by
  have h1:=hu i hi;have h2:=J4 f q (i:Nat) nb hq;show 0≤100*cF f q nb (i:Nat)∧100*cF f q nb (i:Nat)≤100*cF f q nb (i:Nat)∧100*cF f q nb (i:Nat)≤1000000;omega,hd.1,hd.2⟩,Ω,by show(r:Int)<(n:Nat);omega⟩
def oth(n r:Nat):List Nat:=(List.range (n - 1)).map λj=>if j<r then j else j+1
end Go.Tn
end
section
namespace Go.Tn
open Go.Proofs
open Go.Sx
variable{n:Nat}{f q:Nat→Int}
theorem qlr{X:Go.Tv.Fr}{s:Int}(hn:0≤X.n)(hd:0<X.d)(hs:1≤s):1≤(Go.Tv.shV X s).d∧(Go.Tv.shV X s).d≤s∧0≤(Go.Tv.shV X s).n∧(Go.Tv.shV X s).n≤1000*(Go.Tv.shV X s).d∧(Go.Tv.shV X s).n*X.d≤X.n*(Go.Tv.shV X s).d:=by
 by_cases h:Go.Tv.lt ⟨1000,1⟩ X
 ·rw[Go.Tv.shV_hi h]
  have h2:1000*X.d<X.n*1:=h;refine⟨Ωq,hs,Ωq,Ωq,?_⟩;show 1000*X.d≤X.n*1;omega
 ·rw[Go.Tv.shV_lo h]
  have h2:¬1000*X.d<X.n*1:=h;have hb:=(Go.Tv.nb_bd X s 1000 hn hd hs Ω).1;have hc:=(Go.Tv.nb_cl X s hn hd hs).1;exact⟨hb.2.2.1,hb.2.2.2,hb.1,hb.2.1,hc.lr⟩
theorem Wl{nb r:Nat}(hf:∀i,i<nb→0≤f i∧f i<n)(hq:∀i,i<nb→1≤q i∧q i≤1000)(hr:r<n):cF f q nb (r:Nat)≤sQ q nb:=by
 clear hf hr
 induction nb with
 |zero=>simp[cF,sQ]
 |succ w ih=>
  have h1:=ih λi hi=>hq i Ω;have h2:=hq w Ω;rw[qlk,qpy];split<;>omega
theorem qsg{nb:Nat}{D:Int}(hn1:2≤n)(hn:n≤8)(hnb:nb≤100)(hf:∀i,i<nb→0≤f i∧f i<n)(hq:∀i,i<nb→1≤q i∧q i≤1000)(hd:0≤D*10∧D*10≤500)(hu:∀r,r<n→cF f q nb (r:Nat)≤10000){s:Int}(hs:1≤s∧s≤10){r:Nat}(hr:r<n)(h0:¬cF f q nb (r:Nat)=0) :
  ∃N d:Int,qb Tryz.prog 36 [(plV n nb f q (D*10)).sv,I r,I s] (.tup [.agg [I N,I d],.agg [I N,I d],I 0])∧(1≤d∧d≤10)∧(0≤N∧N≤10000)∧cF f q nb (r:Nat)*(d+N)≤sQ q nb*d:=by
 have h:=Go.Tv.c36 (plV n nb f q (D*10)) r s;have hU:=J4 f q (r:Nat) nb hq;have hU2:=hu r hr;have hS:=qll q nb hq;rw[Go.Tv.Pl.board_0 (qpD hn1 hn hq hd hu hr) Ω (by show ¬100*cF f q nb (r:Nat)=0;omega)]at h;have e1:(plV n nb f q (D*10)).few r=λi=>100*cF f q nb (i:Nat):=by funext i;simp[Go.Tv.Pl.few,plV]
 have e2:(plV n nb f q (D*10)).many r=λi=>100*cF f q nb (i:Nat):=by funext i;simp[Go.Tv.Pl.many,plV]
 have e3:=qds f q n nb hf;have e4:=(Wl (n:=n) (r:=r) hf hq hr:cF f q nb (r:Nat)≤sQ q nb);unfold Go.Tv.Pl.boardOk Go.Tv.Pl.spanOk at h;rw[e1,e2]at h
 change qb Tryz.prog 36 [(plV n nb f q (D*10)).sv,I r,I s] (.tup [Go.Tv.fsv (Go.Tv.shV (Go.Tv.oddV (100*cF f q nb (r:Nat)) (Go.Tv.sumTo (λi=>100*cF f q nb (i:Nat)) n) (D*10)) s),Go.Tv.fsv (Go.Tv.shV (Go.Tv.oddV (100*cF f q nb (r:Nat)) (Go.Tv.sumTo (λi=>100*cF f q nb (i:Nat)) n) (D*10)) s),I 0])at h
 rw[e3]at h;generalize cF f q nb (r:Nat)=U at *;generalize sQ q nb=S at *;have hS2:S*(100 - D)≤S*100:=Int.mul_le_mul_of_nonneg_left Ω hS.1;have hT:(1000 - D*10)*(100*S)=1000*(S*(100 - D)):=by grind
 unfold Go.Tv.oddV at h;rw[hT]at h;generalize S*(100 - D)=T at *;have hdp:0<(⟨max 0 (1000*T - 1000*(100*U)),1000*(100*U)⟩:Go.Tv.Fr).d:=by show 0<1000*(100*U);omega
 obtain⟨r1,r2,r3,r4⟩:=Go.Tv.red_spec hdp;generalize Go.Tv.red ⟨max 0 (1000*T - 1000*(100*U)),1000*(100*U)⟩=X at *;have r3:X.n*(1000*(100*U))=max 0 (1000*T - 1000*(100*U))*X.d:=r3;have hX:0≤X.n:=by
  rcases Int.le_total 0 X.n with h1|h1
  ·exact h1
  ·have h2:0≤max 0 (1000*T - 1000*(100*U))*X.d:=Int.mul_nonneg Ω Ω
   have h3:0≤(-X.n)*(1000*(100*U) - 1):=Int.mul_nonneg Ω Ω;have h4:(-X.n)*(1000*(100*U) - 1) = -(X.n*(1000*(100*U)))+X.n:=by grind
   omega
 obtain⟨b1,b2,b3,b4,b5⟩:=qlr (s:=s) hX r1 hs.1;refine⟨(Go.Tv.shV X s).n,(Go.Tv.shV X s).d,h,Ω,Ω,?_⟩;generalize (Go.Tv.shV X s).n=N at *;generalize (Go.Tv.shV X s).d=d at *;have m1:N*(1000*(100*U))*X.d≤max 0 (1000*T - 1000*(100*U))*d*X.d:=by
  have h1:(N*X.d)*(1000*(100*U))≤(X.n*d)*(1000*(100*U)):=Int.mul_le_mul_of_nonneg_right b5 Ω;have h2:(N*X.d)*(1000*(100*U))=N*(1000*(100*U))*X.d:=by grind
  have h3:(X.n*d)*(1000*(100*U))=(X.n*(1000*(100*U)))*d:=by grind
  rw[h2,h3,r3]at h1;have h4:max 0 (1000*T - 1000*(100*U))*X.d*d=max 0 (1000*T - 1000*(100*U))*d*X.d:=by grind
  rw[←h4];exact h1
 have m2:=Int.le_of_mul_le_mul_right m1 r1;have m3:max 0 (1000*T - 1000*(100*U))*d≤(100000*(S - U))*d:=Int.mul_le_mul_of_nonneg_right Ω Ω;have m4:N*(1000*(100*U))=100000*(N*U):=by grind
 have m5:(100000*(S - U))*d=100000*(S*d - U*d):=by grind
 have m6:U*(d+N)=U*d+N*U:=by grind
 omega
def mkV(n:Nat)(N d:Nat→Int):Go.Tv.Mk:=⟨n,n,λi=>⟨i,N i,d i,false⟩⟩
theorem qrc{nb:Nat}{N d:Nat→Int}(hn1:2≤n)(hn:n≤5)(hnb:nb≤100)(hf:∀i,i<nb→0≤f i∧f i<n)(hq:∀i,i<nb→1≤q i∧q i≤1000)(hN:∀i,i<n→(1≤d i∧d i≤10)∧(0≤N i∧N i≤190)∧1≤cF f q nb (i:Nat)∧cF f q nb (i:Nat)≤10000∧cF f q nb (i:Nat)*(d i+N i)≤sQ q nb*d i):(mkV n N d).chE n (λi=>cF f q nb (i:Nat))=0:=by
 have he:(mkV n N d).err=0:=by
  unfold Go.Tv.Mk.err;rw[if_neg (by show ¬((n:Int)<1∨5<(n:Int)∨12<n);omega),if_pos (by intro i hi;show 0≤(i:Int)∧(i:Int)<n;exact⟨Ω,(by have:i<n:=hi;omega)⟩),if_pos (show Go.Tv.okO (mkV n N d).q (mkV n N d).m from λi hi=>⟨(hN i hi).2.1,(hN i hi).1⟩)]
 have es:Go.Tv.sumTo (λi=>cF f q nb (i:Nat)) n=sQ q nb:=by
  have h1:=qds f q n nb hf;have h2:∀m,Go.Tv.sumTo (λi=>100*cF f q nb (i:Nat)) m=100*Go.Tv.sumTo (λi=>cF f q nb (i:Nat)) m:=λm=>by
   induction m with
   |zero=>rfl
   |succ m ih=>simp only[Go.Tv.sumTo,ih];omega
  rw[h2]at h1;omega
 have hS:=qll q nb hq;have hS1:1≤sQ q nb:=by
  have:=Wl (n:=n) (r:=0) hf hq Ω;have:=hN 0 Ω;omega
 unfold Go.Tv.Mk.chE;rw[if_pos he,if_pos (show(n:Int)=(mkV n N d).run from rfl),if_pos (show Go.Tv.okC (λi=>cF f q nb (i:Nat)) n from⟨λi hi=>⟨by have:=hN i hi;show 0≤cF f q nb (i:Nat);omega,by have:=hN i hi;show cF f q nb (i:Nat)≤_;omega⟩,by rw[es];omega,by rw[es];omega⟩),if_pos (show Go.Tv.fairC (mkV n N d).q (λi=>cF f q nb (i:Nat)) (Go.Tv.sumTo (λi=>cF f q nb (i:Nat)) n) (mkV n N d).m from ?_)];intro i hi;show cF f q nb (((i:Int).toNat:Nat):Int)*(d i+N i)≤_*d i;rw[es,Int.toNat_natCast];exact(hN i hi).2.2.2.2
theorem qnu{M:Go.Tv.Mk}{k:Nat}{c:Nat→Int}(h:M.chE k c=0):M.Fine∧Go.Tv.sureV M=none∧∃r,Go.Tv.Stop M.lo M.hi M.run.toNat r∧M.chE M.run.toNat (Go.Tv.chI (Go.Tv.ownF M.lo M.hi M.run.toNat r) (Go.Tv.aD (Go.Tv.ownF M.lo M.hi M.run.toNat r) M.run.toNat))=0:=by
 have he:=(Go.Tv.chE_0 h).1;have hf:=Go.Tv.Mk.fine he;have hs:Go.Tv.sureV M=none:=by
  cases hs:Go.Tv.sureV M with
  |none=>rfl
  |some l=>exact(Go.Tv.not_both h (Go.Tv.sure_ck he hs)).elim
 have hF:=Go.Tv.fair_of hf (Go.Tv.sure_none.1 hs);obtain⟨r,hr⟩:=hF.stop;exact⟨hf,hs,r,hr,Go.Tv.fair_ok he hF hr⟩
end Go.Tn
end
