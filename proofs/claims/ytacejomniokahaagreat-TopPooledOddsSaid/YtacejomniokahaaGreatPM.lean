/- A part of the proof. -/
import Derived.Test.YtacejomniokahaaGreatPL
open Nat renaming reduceMul→xa0,reduceAdd→xa1,reduceEqDiff→xa2,reduceLT→xa3,reduceLeDiff→xa4,le_refl→xa5,add_zero→xb1,add_assoc→xb2,zero_le→xb6,sub_self→xb8
open List renaming getD_eq_getElem?_getD→xc6,getElem?_eq_getElem→xc7
set_option linter.unusedVariables false
set_option linter.unusedSimpArgs false
set_option linter.defProp false
set_option maxRecDepth 1000000
set_option maxHeartbeats 16000000
section
namespace Go.Tn
open Go.Proofs
open Go.Sx
theorem SubHp.ent{hp l:List (Nat×Blk)}{k:Nat}{x:Blk}(h:blk hp k=some x)(hl:SubHp hp l):SubHp hp ((k,x) :: l):=fun q v hv=>by
 simp only[blk]at hv;split at hv
 ·rename_i e;cases hv;rw[e];exact h
 ·exact hl q v hv
end Go.Tn
end
section
namespace Go.Tn
open Go.Proofs
open Go.Sx
def gbk(k n:Int)(nb:Nat)(f g q:Nat→Int)(ns:Nat)(s:Nat→Int)(fav:Bool)(c d st:Int):SV:=.agg [.val (.int .i64 k),.val (.int .i64 n),qJ nb f g q,.arr false false ns 1 (fun i _=>.val (.int .i64 (s i))),.val (.bool fav),.val (.int .i64 c),.val (.int .i64 d),.val (.int .i64 st)]
theorem Q4(k n:Int)(nb:Nat)(f g q:Nat→Int)(ns:Nat)(s:Nat→Int)(fav:Bool)(c d st:Int):Old (gbk k n nb f g q ns s fav c d st):=by
 simp only[gbk,Old,OldL];exact⟨trivial,trivial,zg _ _ _ _,⟨trivial,fun _ _ _ _=>trivial⟩,trivial,trivial,trivial,trivial,trivial⟩
theorem Qg{hp:List (Nat×Blk)}{n:Int}{nb:Nat}{f g q:Nat→Int}{fav:Bool}{c d st:Int}(hg:∀i,i<nb→g i = -1):Go.Sx.Sub hp (bkS n nb f (fun _=>-1) q fav c d st) (bkS n nb f g q fav c d st):=by
 simp only[bkS,Go.Sx.Sub,Go.Sx.SubL,qJ,true_and,and_true,and_self];refine⟨fun h=>h,fun h=>h,fun i j hi hj=>?_⟩;rcases(Ω:j=0∨j=1∨j=2)with rfl|rfl|rfl
 ·simp[Go.Sx.Sub]
 ·simp[Go.Sx.Sub,hg i hi]
 ·simp[Go.Sx.Sub]
theorem Kh{hp:List (Nat×Blk)}{nb:Nat}{f g q:Nat→Int}:∀i j,i<nb→j<3→Go.Sx.Sub hp ([SV.val (.int .i64 (f i)),SV.val (.int .i64 (g i)),SV.val (.int .i64 (q i))].getD j .top) ([SV.val (.int .i64 (f i)),SV.val (.int .i64 (g i)),SV.val (.int .i64 (q i))].getD j .top):=by
 intro i j hi hj;rcases(Ω:j=0∨j=1∨j=2)with rfl|rfl|rfl<;>simp[Go.Sx.Sub]
theorem qpB(k n:Int)(nb:Nat)(f g q:Nat→Int)(ns:Nat)(s:Nat→Int)(fav:Bool)(c d st:Int)(hnb:110<nb):qf Tryz.prog 30 [gbk k n nb f g q ns s fav c d st] (.tup [gbk k n nb f g q ns s fav c d st,B false]):=by
 refine qg Tryz.func30 rfl Ωc follows Ωc _ _ (by rw[Tryz.ntmps30];simp) (by simp only[OldL,Q4,and_true]) ?_;have NB:=decide_eq_true (Ω:(110:Int)<(nb:Nat));unfold gbk B;(repeat' (first|refine sD ?_ ?_<;>intro _|refine aAh ?_|(simp -dsimp only[↓RP,RQ,xa0,reduceIte,reduceCtorEq,xa1,xa2,xa3,xa4,TYP,qJ,NB,QR,QT,QN])))
 all_goals try exact Ωb
 all_goals (repeat' (first|with_reducible refine An ?_ ?_|exact Kh|exact fun h=>h|exact trivial|rfl|(intro i j hi hj;simp[Go.Sx.Sub])))
theorem qmz(d:Int)(hd:InK .i64 d):∃D,Int.tdiv d 10=D∧-922337203685477580≤D∧D≤922337203685477580:=by
 refine⟨_,rfl,?_⟩;simp only[InK]at hd;rcases Int.le_total 0 d with h|h
 ·rw[Int.tdiv_eq_ediv_of_nonneg h];omega
 ·have e:d.tdiv 10 = -((-d).tdiv 10):=by rw[Int.neg_tdiv,Int.neg_neg]
  rw[e,Int.tdiv_eq_ediv_of_nonneg (a:=-d) Ω];omega
theorem qpC(k n:Int)(nb:Nat)(f g q:Nat→Int)(ns:Nat)(s:Nat→Int)(fav:Bool)(c d st D:Int)(hnb:nb≤110)(hD:Int.tdiv d 10=D)(hD1 : -922337203685477580≤D∧D≤922337203685477580)(hk:¬ckB n nb f g q 0 (D*10) 1=0):qf Tryz.prog 30 [gbk k n nb f g q ns s fav c d st] (.tup [bkS n nb f g q fav 0 (D*10) 1,B false]):=by
 refine qg Tryz.func30 rfl Ωc follows Ωc _ _ (by rw[Tryz.ntmps30];simp) (by simp only[OldL,Q4,and_true]) ?_;have NB:=decide_eq_false (Ω:¬(110:Int)<(nb:Nat));have h25:=c25 n nb f g q fav 0 (D*10) 1 Ω;have d2:=decide_eq_false hk;unfold gbk bkS B;(repeat' (first|refine sD ?_ ?_<;>intro _|refine aAh ?_|(simp -dsimp only[↓RP,RQ,xa0,reduceIte,reduceCtorEq,xa1,xa2,xa3,xa4,hD,TYP,qJ,NB,QR,QT,QN])))
 all_goals try exact Ωb
 refine zt h25 ΩB ?_;(repeat' (first|refine sD ?_ ?_<;>intro _|refine aAh ?_|(simp -dsimp only[↓RP,RQ,xa0,reduceIte,reduceCtorEq,xa1,xa2,xa3,xa4,d2,QT,TYP,qJ,NB,QR,QN])))
 all_goals try exact Ωb
 all_goals (repeat' (first|with_reducible refine An ?_ ?_|exact Kh|exact fun h=>h|exact trivial|rfl|(intro i j hi hj;simp[Go.Sx.Sub])))
theorem qnS(k:Int)(n:Nat)(nb:Nat)(f g q:Nat→Int)(ns:Nat)(s:Nat→Int)(fav:Bool)(c d st D:Int)(hnb:nb≤110)(hD:Int.tdiv d 10=D)(hD1 : -922337203685477580≤D∧D≤922337203685477580)(hk:ckB n nb f g q 0 (D*10) 1=0)(ok:Bool)(hok:ok=true↔∀r,r<n→cF f q nb (r:Nat)≤10000):qf Tryz.prog 30 [gbk k n nb f g q ns s fav c d st] (.tup [bkS n nb f g q fav 0 (D*10) 1,B ok]):=by
 refine qg Tryz.func30 rfl Ωc follows Ωc _ _ (by rw[Tryz.ntmps30];simp) (by simp only[OldL,Q4,and_true]) ?_;have NB:=decide_eq_false (Ω:¬(110:Int)<(nb:Nat));have h25:=c25 n nb f g q fav 0 (D*10) 1 Ω;obtain⟨k1,k2,k3⟩:=ckB_ok.1 hk;have k4:=k1.1;rw[hk]at h25;unfold gbk bkS B;(repeat' (first|refine sD ?_ ?_<;>intro _|refine aAh ?_|(simp -dsimp only[↓RP,RQ,xa0,reduceIte,reduceCtorEq,xa1,xa2,xa3,xa4,hD,TYP,qJ,NB,QR,QT,QN])))
 all_goals try exact Ωb
 refine zt h25 ΩB ?_;(repeat' (first|refine sD ?_ ?_<;>intro _|refine aAh ?_|(simp -dsimp only[↓RP,RQ,xa0,reduceIte,reduceCtorEq,xa1,xa2,xa3,xa4,QT,TYP,qJ,NB,QR,QN])))
 all_goals try exact Ωb
 refine qo (fun(w:Nat)=>w≤n∧∀r,r<w→cF f q nb (r:Nat)≤10000) (fun w=>⟨[(1,.ptr 0 0),(2,.ptr 1 0),(3,.val (.bool false)),(4,.val (.int .i64 (w:Nat)))],[(1,.cells 48 [.val (.int .i64 0),.val (.int .i64 0),.val (.slice none 0 0),.val (.slice none 0 0),.val (.bool false),.val (.int .i64 0),.val (.int .i64 0),.val (.int .i64 0)]),(0,.cells 48 [.val (.int .i64 0),.val (.int .i64 n),qJ nb f g q,.val (.slice none 0 0),.val (.bool fav),.val (.int .i64 0),.val (.int .i64 (D*10)),.val (.int .i64 1)])],200+40*w⟩) (fun w=>n - w) 0 ⟨xb6 _,fun r hr=>by omega⟩ (weakSU Ω Ωf (SubHp.refl _)) fun w hw=>?_;obtain⟨hw,hp⟩:=hw;by_cases hwn:w<n
 ·have hlt:=decide_eq_true (Ω:((w:Nat):Int)<(n:Nat))
  have h26:=c26 nb n f q fav 0 (D*10) 1 (w:Nat) k2 (fun i hi=>by have:=(k3 i hi).1;omega);(repeat' (first|refine sD ?_ ?_<;>intro _|refine aAh ?_|(simp -dsimp only[↓RP,RQ,xa0,reduceIte,reduceCtorEq,xa1,xa2,xa3,xa4,hlt,TYP,qJ,NB,QR,QT,QN])))
  all_goals try exact Ωb
  refine zt h26 (by simp only[SubL,and_true];exact⟨Qg (fun i hi=>(k3 i hi).2.2),by simp[Go.Sx.Sub,Go.Sx.SubL,I]⟩) ?_;by_cases hc:cF f q nb (w:Nat)≤10000
  ·have d5:=decide_eq_false (Ω:¬(10000:Int)<cF f q nb (w:Nat))
   (repeat' (first|refine sD ?_ ?_<;>intro _|refine aAh ?_|(simp -dsimp only[↓RP,RQ,xa0,reduceIte,reduceCtorEq,xa1,xa2,xa3,xa4,QT,d5,TYP,qJ,NB,QR,QN])))
   all_goals try exact Ωb
   exact⟨w+1,⟨hwn,fun r hr=>by by_cases e:r=w;(subst e;exact hc);exact hp r Ω⟩,Ω,weakSU Ω Ωf (SubHp.refl _)⟩
  ·have d5:=decide_eq_true (Ω:(10000:Int)<cF f q nb (w:Nat))
   have e:ok=false:=by
    cases ok with
    |false=>rfl
    |true=>exact absurd (hok.1 rfl w hwn) hc
   subst e;(repeat' (first|refine sD ?_ ?_<;>intro _|refine aAh ?_|(simp -dsimp only[↓RP,RQ,xa0,reduceIte,reduceCtorEq,xa1,xa2,xa3,xa4,QT,d5,TYP,qJ,NB,QR,QN])))
   all_goals try exact Ωb
   all_goals (repeat' (first|with_reducible refine An ?_ ?_|exact Kh|exact fun h=>h|exact trivial|rfl|(intro i j hi hj;simp[Go.Sx.Sub])))
 ·have hlt:=decide_eq_false (Ω:¬((w:Nat):Int)<(n:Nat))
  have e:ok=true:=hok.2 fun r hr=>hp r Ω;subst e;(repeat' (first|refine sD ?_ ?_<;>intro _|refine aAh ?_|(simp -dsimp only[↓RP,RQ,xa0,reduceIte,reduceCtorEq,xa1,xa2,xa3,xa4,hlt,TYP,qJ,NB,QR,QT,QN])))
  all_goals try exact Ωb
  all_goals (repeat' (first|with_reducible refine An ?_ ?_|exact Kh|exact fun h=>h|exact trivial|rfl|(intro i j hi hj;simp[Go.Sx.Sub])))
theorem qpD(a b:Int):∀i j:Nat,i<1→j<2→oneCell ([SV.val (.int .i64 a),SV.val (.int .i64 b)].getD (i*2+j) .top)=true:=by
 intro i j hi hj;obtain rfl:i=0:=by omega
 rcases(Ω:j=0∨j=1)with rfl|rfl<;>simp[oneCell]
theorem qpE:qF Tryz.prog 99=16:=by kernel_rfl
theorem c33(n:Nat)(nb:Nat)(f q:Nat→Int)(fav:Bool)(c d st:Int)(hn1:1≤n)(hn:n≤8)(hnb:nb≤100)(hq:∀i,i<nb→1≤q i∧q i≤1000)(hd:0≤d∧d≤500):qf Tryz.prog 33 [bkS n nb f (fun _=>-1) q fav c d st] (.agg [.arr true false n 2 (fun i j=>.val (.int .i64 (100*cF f q nb (i:Nat)))),I d]):=by
 refine qg Tryz.func33 rfl Ωc follows Ωc _ _ (by rw[Tryz.ntmps33];simp) (by simp only[OldL,vL,and_true]) ?_;have NB:True:=trivial;unfold bkS I;(repeat' (first|refine sD ?_ ?_<;>intro _|refine aAh ?_|(simp -dsimp only[↓RP,RQ,xa0,reduceIte,reduceCtorEq,xa1,xa2,xa3,xa4,TYP,Go.Tv.TYv,NB,QR,QT,QN])))
 all_goals try exact Ωb
 refine qo (fun(z:Nat×Nat×Nat×(Nat→Nat→SV))=>z.1≤n∧5<z.2.2.1∧z.2.2.1<z.2.1∧∀i,i<z.1→∀j,j<2→z.2.2.2 i j=.val (.int .i64 (100*cF f q nb (i:Nat)))) (fun z=>⟨[(1,.ptr 0 0),(2,.ptr 1 0),(3,.ptr 5 0),(4,.val (.int .i64 (z.1:Nat)))],[(z.2.2.1,.rows 99 2 z.1 z.2.2.2),(5,.cells 73 [.vec z.2.2.1 z.1 2,.val (.int .i64 d)]),(1,.cells 73 [.val (.slice none 0 0),.val (.int .i64 0)]),(0,.cells 48 [.val (.int .i64 0),.val (.int .i64 n),qJ nb f (fun _=>-1) q,.val (.slice none 0 0),.val (.bool fav),.val (.int .i64 c),.val (.int .i64 d),.val (.int .i64 st)])],z.2.1⟩) (fun z=>n - z.1) (0,9,8,fun _ _=>.top) ⟨xb6 _,Ωe,Ωe,fun j hj=>(by cases hj)⟩ (Weak.trans (qio (b:=5) (i:=0) (k:=2) (te:=99) (fun _ _=>.top) Ωx Ωx) (weakSU (xa5 _) Ωf ?hA)) fun z hz=>?_
 case hA=>((repeat' (refine SubHp.ent ΩY ?_));exact fun q v hv=>(by cases hv))
 obtain⟨w,nid,vid,row⟩:=z;obtain⟨hw,n1,n2,hrow⟩:=hz;dsimp only at hw n1 n2 hrow;clear NB;have NB:=(⟨nmA (Ω:0<nid),nmA (Ω:1<nid),nmA (Ω:5<nid),nmA (Ω:vid<nid),nmE (Ω:vid≠0),nmE (Ω:vid≠1),nmE (Ω:vid≠5)⟩:_∧_∧_∧_∧_∧_∧_);by_cases hwn:w<n
 ·have hlt:=decide_eq_true (Ω:((w:Nat):Int)<(n:Nat))
  have h26:=c26 nb n f q fav c d st (w:Nat) hnb hq;have hb:=yD f q (w:Nat) nb hq;(repeat' (first|refine sD ?_ ?_<;>intro _|refine aAh ?_|(simp -dsimp only[↓RP,RQ,xa0,reduceIte,reduceCtorEq,xa1,xa2,xa3,xa4,hlt,TYP,Go.Tv.TYv,NB,QR,QT,QN])))
  all_goals try exact Ωb
  refine zt h26 (by simp only[SubL,and_true];exact⟨qN _ (vL _ _ _ _ _ _ _ _ _),by simp[Go.Sx.Sub,Go.Sx.SubL,I]⟩) ?_;(repeat' (first|refine sD ?_ ?_<;>intro _|refine aAh ?_|(simp -dsimp only[↓RP,RQ,xa0,reduceIte,reduceCtorEq,xa1,xa2,xa3,xa4,QT,TYP,Go.Tv.TYv,NB,QR,QN])))
  all_goals try exact Ωb
  refine⟨⟨.inr trivial,xa5 _,qpD _ _,Ω,by rw[qpE];omega⟩,by simp only[InK];omega,(w+1,_,nid+16,fun i j=>if i<w then row i j else [SV.val (.int .i64 (100*cF f q nb (w:Nat))),SV.val (.int .i64 (100*cF f q nb (w:Nat)))].getD ((i - w)*2+j) .top),⟨Ωe,Ωe,?n,?ar⟩,Ωe,weakSU (xa5 _) Ωf ?hs⟩
  case n=>dsimp only;omega
  case ar=>
   dsimp only;intro i hi;by_cases e:i<w
   ·rw[if_pos e,if_pos e];exact⟨hrow i e 0 Ω,hrow i e 1 Ω⟩
   ·obtain rfl:i=w:=by omega
    rw[if_neg e,if_neg e,xb8];exact⟨rfl,rfl⟩
  case hs=>((repeat' (refine SubHp.ent Ωs ?_));exact fun q v hv=>(by cases hv))
 ·have hlt:=decide_eq_false (Ω:¬((w:Nat):Int)<(n:Nat))
  obtain rfl:w=n:=by omega
  (repeat' (first|refine sD ?_ ?_<;>intro _|refine aAh ?_|(simp -dsimp only[↓RP,RQ,xa0,reduceIte,reduceCtorEq,xa1,xa2,xa3,xa4,hlt,TYP,Go.Tv.TYv,NB,QR,QT,QN])))
  all_goals try exact Ωb
  all_goals (intro i j hi hj;exact hrow i hi j hj)
theorem YM{hp:List (Nat×Blk)}{id n:Nat}{f:Nat→Int}{r:Nat→Nat→SV}(hb:blk hp id=some (.rows 3 1 n r))(h:∀i,i<n→r i 0=.val (.int .i64 (f i))):Go.Sx.Sub hp (.arr true false n 1 (fun i _=>.val (.int .i64 (f i)))) (.vec id n 1):=by
 simp only[Go.Sx.Sub,hb];refine⟨trivial,trivial,trivial,xa5 _,trivial,fun i j hi hj=>?_⟩;obtain rfl:j=0:=by omega
 rw[h i hi]
theorem c35(n r:Nat)(hr:r<n)(hn1:2≤n)(hn:n≤8):qf Tryz.prog 35 [I n,I r] (.arr true false 2 1 (fun i _=>if i=0 then .arr true false 1 1 (fun _ _=>.val (.int .i64 r))else .arr true false (n - 1) 1 (fun j _=>.val (.int .i64 (if j<r then j else j+1:Nat))))):=by
 refine qg Tryz.func35 rfl Ωc follows Ωc _ _ (by rw[Tryz.ntmps35];simp) Ω4 ?_;have NB:True:=trivial;unfold I;(repeat' (first|refine sD ?_ ?_<;>intro _|refine aAh ?_|(simp -dsimp only[↓RP,RQ,xa0,reduceIte,reduceCtorEq,xa1,xa2,xa3,xa4,TYP,NB,QR,QT,QN])))
 all_goals try exact Ωb
 refine qo (fun(z:Nat×Nat×Nat×Nat×(Nat→Nat→SV))=>z.1≤n∧2<z.2.2.1∧z.2.2.1<z.2.1∧z.2.2.2.1=(if r<z.1 then z.1 - 1 else z.1)∧∀j,j<z.2.2.2.1→z.2.2.2.2 j 0=.val (.int .i64 (if j<r then j else j+1:Nat))) (fun z=>⟨[(0,.val (.int .i64 n)),(1,.val (.int .i64 r)),(5,.vec z.2.2.1 z.2.2.2.1 1),(6,.val (.int .i64 (z.1:Nat)))],[(z.2.2.1,.rows 3 1 z.2.2.2.1 z.2.2.2.2)],z.2.1⟩) (fun z=>n - z.1) (0,4,3,0,fun _ _=>.top) ⟨xb6 _,Ωe,Ωe,Ωg,fun j hj=>(by cases hj)⟩ (Weak.trans (V0 (t:=3) (k:=1) (d:=5) (fun _ _=>.top) Ωx) (weakSU (xa5 _) (by simp[zo,Go.Sx.look,putFr]) ?hA)) fun z hz=>?_
 case hA=>((repeat' (refine SubHp.ent ΩY ?_));exact fun q v hv=>(by cases hv))
 obtain⟨w,nid,vid,L,row⟩:=z;obtain⟨hw,n1,n2,hL,hrow⟩:=hz;dsimp only at hw n1 n2 hrow hL;dsimp only;have hL2:L≤w:=by rw[hL];split<;>omega
 clear NB;have NB:=nmA (Ω:vid<nid);by_cases hwn:w<n
 ·have hlt:=decide_eq_true (Ω:((w:Nat):Int)<(n:Nat))
  by_cases e:w=r
  ·subst e
   have e3:decide (((w:Nat):Int)=(w:Nat))=true:=decide_eq_true rfl;(repeat' (first|refine sD ?_ ?_<;>intro _|refine aAh ?_|(simp -dsimp only[↓RP,RQ,xa0,reduceIte,reduceCtorEq,xa1,xa2,xa3,xa4,hlt,e3,TYP,NB,QR,QT,QN])))
   all_goals try exact Ωb
   refine⟨(w+1,_,vid,L,row),⟨Ωe,Ωe,?n,by dsimp only;rw[hL];simp,hrow⟩,Ωe,weakSU (xa5 _) Ωf ?hs⟩
   case n=>dsimp only;omega
   case hs=>((repeat' (refine SubHp.ent Ωs ?_));exact fun q v hv=>(by cases hv))
  ·have e3:=decide_eq_false (Ω:¬((w:Nat):Int)=(r:Nat))
   (repeat' (first|refine sD ?_ ?_<;>intro _|refine aAh ?_|(simp -dsimp only[↓RP,RQ,xa0,reduceIte,reduceCtorEq,xa1,xa2,xa3,xa4,hlt,e3,TYP,NB,QR,QT,QN])))
   all_goals try exact Ωb
   refine⟨(w+1,_,nid+9,L+1,fun i j=>if i<L then row i j else [.val (.int .i64 (w:Nat))].getD (i - L+j) .top),⟨Ωe,Ωe,?n,?l,?ar⟩,Ωe,weakSU (xa5 _) Ωf ?hs⟩
   case n=>dsimp only;omega
   case l=>dsimp only;rw[hL];by_cases e4:r<w;(rw[if_pos e4,if_pos Ω];omega);rw[if_neg e4,if_neg Ω]
   case ar=>
    intro j hj;dsimp only at hj ⊢;by_cases e5:j<L
    ·rw[if_pos e5];exact hrow j e5
    ·obtain rfl:j=L:=by omega
     rw[if_neg e5,xb8];have:(if j<r then j else j+1)=w:=by
      rw[hL];by_cases e4:r<w
      ·rw[if_pos e4,if_neg Ω];omega
      ·rw[if_neg e4,if_pos Ω]
     rw[this];rfl
   case hs=>((repeat' (refine SubHp.ent Ωs ?_));exact fun q v hv=>(by cases hv))
 ·have hlt:=decide_eq_false (Ω:¬((w:Nat):Int)<(n:Nat))
  obtain rfl:w=n:=by omega
  have hLn:L=w - 1:=by rw[hL,if_pos hr]
  subst hLn;have NB2:=(⟨nmE (Ω:nid+4≠vid),nmE (Ω:nid+6≠vid),nmE (Ω:nid+6≠nid+4)⟩:_∧_∧_);(repeat' (first|refine sD ?_ ?_<;>intro _|refine aAh ?_|(simp -dsimp only[↓RP,RQ,xa0,reduceIte,reduceCtorEq,xa1,xa2,xa3,xa4,hlt,TYP,NB,QR,QT,QN])))
  all_goals try exact Ωb
  intro i j hi hj;obtain rfl:j=0:=by omega
  rcases(Ω:i=0∨i=1)with rfl|rfl
  ·rw[if_pos rfl]
   refine YM (r:=fun i j=>[.val (.int .i64 (r:Nat))].getD (i+j) .top) (by simp[blk,NB,NB2]) fun i hi=>?_;obtain rfl:i=0:=by omega
   rfl
  ·rw[if_neg Ω]
   exact YM (r:=row) (by simp[blk,NB,NB2]) hrow
end Go.Tn
end
section
namespace Go.Tn
open Go.Proofs
open Go.Sx
def plV(n nb:Nat)(f q:Nat→Int)(d:Int):Go.Tv.Pl:=⟨n,fun i=>100*cF f q nb (i:Nat),fun i=>100*cF f q nb (i:Nat),d⟩
theorem qiq(f q:Nat→Int)(n:Nat):∀nb:Nat,(∀i,i<nb→0≤f i∧f i<n)→Go.Tv.sumTo (fun i=>100*cF f q nb (i:Nat)) n=100*sQ q nb
 |0,_=>by
  have:∀m,Go.Tv.sumTo (fun i=>100*cF f q 0 (i:Nat)) m=0:=fun m=>by
   induction m with
   |zero=>rfl
   |succ m ih=>simp only[Go.Tv.sumTo];rw[ih];simp[cF]
  rw[this];simp[sQ]
 |w+1,h=>by
  have ih:=qiq f q n w fun i hi=>h i Ω;have hw:=h w Ω;obtain⟨k,hk⟩:∃k:Nat,f w=(k:Nat):=⟨(f w).toNat,Ω⟩;have hkn:k<n:=by omega
  have e1:=Go.Tv.sumTo_one (u:=fun i=>100*cF f q w (i:Nat)) (v:=fun i=>100*cF f q (w+1) (i:Nat)) (k:=k) (fun i hi=>by
   show 100*cF f q (w+1) (i:Nat)=100*cF f q w (i:Nat);rw[V2,if_neg Ω];omega) (n:=n)
  have e2:=Go.Tv.sumTo_one (u:=fun i=>100*cF f q w (i:Nat)) (v:=fun i=>100*cF f q w (i:Nat)) (k:=k) (fun _ _=>rfl) (n:=n);rw[if_pos hkn]at e1 e2;rw[ih]at e2;rw[e1,qeI];have e3:cF f q (w+1) (k:Nat)=cF f q w (k:Nat)+q w:=by rw[V2,if_pos hk]
  show _+100*cF f q (w+1) (k:Nat)=_;rw[e3];have e4:100*sQ q w=Go.Tv.sumTo (fun j=>if j=k then 0 else 100*cF f q w (j:Nat)) n+100*cF f q w (k:Nat):=e2;omega
theorem qir{n nb:Nat}{f q:Nat→Int}{d:Int}(hn1:2≤n)(hn:n≤8)(hq:∀i,i<nb→1≤q i∧q i≤1000)(hd:0≤d∧d≤500)(hu:∀r,r<n→cF f q nb (r:Nat)≤10000){r:Nat}(hr:r<n):(plV n nb f q d).ask r=0:=
 Go.Tv.Pl.ask_iff.2 ⟨Go.Tv.Pl.Fine.err ⟨(by show 1≤n;omega),hn,fun i hi=>by
  have h1:=hu i hi;have h2:=yD f q (i:Nat) nb hq;show 0≤100*cF f q nb (i:Nat)∧100*cF f q nb (i:Nat)≤100*cF f q nb (i:Nat)∧100*cF f q nb (i:Nat)≤1000000;omega,hd.1,hd.2⟩,Ω,by show(r:Int)<(n:Nat);omega⟩
theorem qpF{n nb:Nat}{f q:Nat→Int}{d:Int}(hn1:2≤n)(hn:n≤8)(hq:∀i,i<nb→1≤q i∧q i≤1000)(hd:0≤d∧d≤500)(hu:∀r,r<n→cF f q nb (r:Nat)≤10000){r:Nat}(hr:r<n)(h0:cF f q nb (r:Nat)=0):qf Tryz.prog 32 [(plV n nb f q d).sv,I r] (.tup [.agg [I 0,I 0],.agg [I 0,I 0],I 20]):=by
 have h:=Go.Tv.c32 (plV n nb f q d) r;rw[Go.Tv.Pl.span_20 (qir hn1 hn hq hd hu hr) (by show 100*cF f q nb (r:Nat)=0;omega)]at h;exact h
theorem qmA{a b x y:Int}(hb:0<b)(hy:0<y)(ha:0≤a)(hx:0≤x)(h:a*y=x*b):Int.tdiv a b=Int.tdiv x y:=by
 rw[Int.tdiv_eq_ediv_of_nonneg ha,Int.tdiv_eq_ediv_of_nonneg hx];rw[←Int.mul_ediv_mul_of_pos_left a b hy,h,Int.mul_comm b y,Int.mul_ediv_mul_of_pos_left x y hb]
theorem qnT(q:Nat→Int)(D:Int)(nb:Nat):zc q (D*10) nb=sQ q nb*D:=by
 unfold zc;have e:100*sQ q nb*(D*10)=1000*(sQ q nb*D):=by grind
 rw[e,Int.mul_tdiv_cancel_left _ Ω]
theorem qpG(f q:Nat→Int)(D:Int)(nb r:Nat):pnF f q 0 (D*10) 1 nb 1 r=Int.tdiv (sQ q nb*(100 - D)) (cF f q nb (r:Nat)):=by
 unfold pnF;rw[qnT];have e:(0:Int)+100*sQ q nb - sQ q nb*D=sQ q nb*(100 - D):=by grind
 rw[e,show((1:Nat):Int)=1 from rfl,Int.tdiv_one,Int.mul_one,Int.mul_one]
theorem qpH{n nb:Nat}{f q:Nat→Int}{D:Int}(hn1:2≤n)(hn:n≤8)(hnb:nb≤100)(hf:∀i,i<nb→0≤f i∧f i<n)(hq:∀i,i<nb→1≤q i∧q i≤1000)(hd:0≤D*10∧D*10≤500)(hu:∀r,r<n→cF f q nb (r:Nat)≤10000){r:Nat}(hr:r<n)(h0:¬cF f q nb (r:Nat)=0) :
  ∃N d:Int,qf Tryz.prog 32 [(plV n nb f q (D*10)).sv,I r] (.tup [.agg [I N,I d],.agg [I N,I d],I 0])∧(1≤d∧d≤1000000000)∧(0≤N∧N≤10000000000)∧(0≤pnF f q 0 (D*10) 1 nb 1 r)∧(N=0→pnF f q 0 (D*10) 1 nb 1 r≤100)∧(¬N=0→Int.tdiv (100*(N+d)) d=pnF f q 0 (D*10) 1 nb 1 r):=by
 have h:=Go.Tv.c32 (plV n nb f q (D*10)) r;have hU:=yD f q (r:Nat) nb hq;have hU2:=hu r hr;have hS:=ZL q nb hq;rw[Go.Tv.Pl.span_0 (qir hn1 hn hq hd hu hr) (by show ¬100*cF f q nb (r:Nat)=0;omega)]at h;have e1:(plV n nb f q (D*10)).few r=fun i=>100*cF f q nb (i:Nat):=by funext i;simp[Go.Tv.Pl.few,plV]
 have e2:(plV n nb f q (D*10)).many r=fun i=>100*cF f q nb (i:Nat):=by funext i;simp[Go.Tv.Pl.many,plV]
 have e3:=qiq f q n nb hf;unfold Go.Tv.Pl.spanOk at h;rw[e1,e2]at h
 change qf Tryz.prog 32 [(plV n nb f q (D*10)).sv,I r] (.tup [Go.Tv.fsv (Go.Tv.oddV (100*cF f q nb (r:Nat)) (Go.Tv.sumTo (fun i=>100*cF f q nb (i:Nat)) n) (D*10)),Go.Tv.fsv (Go.Tv.oddV (100*cF f q nb (r:Nat)) (Go.Tv.sumTo (fun i=>100*cF f q nb (i:Nat)) n) (D*10)),I 0])at h
 rw[e3]at h;rw[qpG];generalize cF f q nb (r:Nat)=U at *;generalize sQ q nb=S at *;have hS1:0≤S*(100 - D):=Int.mul_nonneg hS.1 Ω;have hS2:S*(100 - D)≤100000*100:=Int.mul_le_mul Ω Ω Ω Ω;have hT:(1000 - D*10)*(100*S)=1000*(S*(100 - D)):=by grind
 unfold Go.Tv.oddV at h;rw[hT]at h;generalize S*(100 - D)=T at *;have hdp:0<(⟨max 0 (1000*T - 1000*(100*U)),1000*(100*U)⟩:Go.Tv.Fr).d:=by show 0<1000*(100*U);omega
 obtain⟨r1,r2,r3,r4⟩:=Go.Tv.red_spec hdp;generalize Go.Tv.red ⟨max 0 (1000*T - 1000*(100*U)),1000*(100*U)⟩=R at *;obtain⟨N,d⟩:=R;dsimp only at r1 r2 r3 r4;refine⟨N,d,h,Ω,?_⟩;have hpn:0≤Int.tdiv T U:=by rw[Int.tdiv_eq_ediv_of_nonneg hS1];exact Int.ediv_nonneg hS1 Ω
 rcases Int.le_total T (100*U)with hle|hle
 ·rw[show max 0 (1000*T - 1000*(100*U))=0 by omega,Int.zero_mul]at r3
  have hN:N=0:=by
   rcases Int.mul_eq_zero.1 r3 with h1|h1
   ·exact h1
   ·omega
  refine⟨Ω,hpn,fun _=>?_,fun hn=>absurd hN hn⟩;rw[Int.tdiv_eq_ediv_of_nonneg hS1];exact Int.ediv_le_of_le_mul Ω hle
 ·rw[show max 0 (1000*T - 1000*(100*U))=1000*(T - 100*U) by omega]at r3
  have r5:N*(100*U)=(T - 100*U)*d:=by grind
  have hN0:0≤N:=by
   rcases Int.le_total 0 N with h1|h1
   ·exact h1
   ·have h2:0≤(T - 100*U)*d:=Int.mul_nonneg Ω Ω
    have h3:0≤(-N)*(100*U - 1):=Int.mul_nonneg Ω Ω;have h4:(-N)*(100*U - 1) = -(N*(100*U))+N:=by grind
    omega
  have hN1:N≤10000000000:=by
   have h2:(T - 100*U)*d≤(T - 100*U)*(1000*(100*U)):=Int.mul_le_mul_of_nonneg_left r4 Ω;have h3:(T - 100*U)*(1000*(100*U))=(1000*(T - 100*U))*(100*U):=by grind
   have h4:N*(100*U)≤(1000*(T - 100*U))*(100*U):=by rw[r5,←h3];exact h2
   have h5:=Int.le_of_mul_le_mul_right h4 Ω;omega
  refine⟨Ω,hpn,fun hz=>?_,fun hn=>?_⟩
  ·rw[hz,Int.zero_mul]at r5
   rcases Int.mul_eq_zero.1 r5.symm with h1|h1
   ·rw[Int.tdiv_eq_ediv_of_nonneg hS1]
    exact Int.ediv_le_of_le_mul Ω Ω
   ·omega
  ·refine qmA Ω Ω Ω hS1 ?_
   have:100*(N+d)*U=N*(100*U)+100*U*d:=by grind
   rw[this,r5];grind
def oth(n r:Nat):List Nat:=(List.range (n - 1)).map fun j=>if j<r then j else j+1
theorem Q5(n r:Nat):(oth n r).length=n - 1:=by simp[oth]
theorem qkB(n r j:Nat)(hj:j<n - 1):(oth n r).getD j 0=if j<r then j else j+1:=by
 rw[xc6,xc7 (by rw[Q5];exact hj)];simp[oth]
theorem qis(n r:Nat):(oth n r).Pairwise (· < ·):=by
 unfold oth;rw[List.pairwise_map];exact List.Pairwise.imp (fun{a b} h=>by split<;>split<;>omega) List.pairwise_lt_range
theorem qdf{n r:Nat}(hr:r<n)(x:Nat):x∈oth n r↔x<n∧x≠r:=by
 unfold oth;simp only[List.mem_map,List.mem_range];constructor
 ·rintro⟨j,hj,rfl⟩;split<;>omega
 ·rintro⟨h1,h2⟩
  by_cases e:x<r
  ·exact⟨x,Ω,by rw[if_pos e]⟩
  ·exact⟨x - 1,Ω,by rw[if_neg Ω];omega⟩
def Qh(n r:Nat):List (List Nat):=[[r],oth n r]
theorem qlu(n r:Nat)(hn1:2≤n):∀g,g∈Qh n r→g≠[]∧g.Pairwise (· < ·):=by
 intro g hg;rcases List.mem_cons.1 hg with rfl|hg
 ·exact⟨Ωg,Ωg⟩
 ·obtain rfl:=List.mem_singleton.1 hg
  exact⟨fun e=>by have:=Q5 n r;rw[e]at this;simp at this;omega,qis n r⟩
theorem qlv(n r:Nat)(hn:n≤8):∀g,g∈Qh n r→g.length≤8:=by
 intro g hg;rcases List.mem_cons.1 hg with rfl|hg
 ·simp
 ·obtain rfl:=List.mem_singleton.1 hg
  rw[Q5];omega
theorem qlw(n r:Nat):(Qh n r).flatten=r :: oth n r:=by simp[Qh]
theorem qit(n r:Nat)(hr:r<n):(Qh n r).flatten.Nodup:=by
 rw[qlw,List.nodup_cons];exact⟨fun h=>((qdf hr r).1 h).2 rfl,(qis n r).imp (fun{a b} h=>by omega)⟩
theorem qdg(n r:Nat)(hr:r<n)(x:Nat):x∈(Qh n r).flatten↔x<n:=by
 rw[qlw,List.mem_cons,qdf hr];omega
theorem qdh{hp:List (Nat×Blk)}{n r:Nat}:Go.Sx.Sub hp (.arr false false (Qh n r).length 1 (fun i _=>.arr false false ((Qh n r).getD i []).length 1 (fun j _=>.val (.int .i64 (((Qh n r).getD i []).getD j 0:Nat))))) (.arr true false 2 1 (fun i _=>if i=0 then .arr true false 1 1 (fun _ _=>.val (.int .i64 r))else .arr true false (n - 1) 1 (fun j _=>.val (.int .i64 (if j<r then j else j+1:Nat))))):=by
 simp only[Go.Sx.Sub];refine⟨fun h=>(by cases h),fun h=>h,rfl,trivial,fun i j hi hj=>?_⟩;have hi:i<2:=hi;rcases(Ω:i=0∨i=1)with rfl|rfl
 ·rw[if_pos rfl]
  simp only[Go.Sx.Sub];refine⟨fun h=>(by cases h),fun h=>h,rfl,trivial,fun i j hi hj=>?_⟩;obtain rfl:i=0:=by have:i<1:=hi;omega
  rfl
 ·rw[if_neg Ω]
  simp only[Go.Sx.Sub];refine⟨fun h=>(by cases h),fun h=>h,Q5 n r,trivial,fun i j hi hj=>?_⟩;have h1:=qkB n r i (by rw[←Q5 n r];exact hi);show SV.val _=SV.val (.int .i64 (((oth n r).getD i 0:Nat)));rw[h1]
theorem qnU{n nb r:Nat}{f q:Nat→Int}(h0:cF f q nb (r:Nat)=0):[]=dvl f q nb (fun i=>((Qh n r).getD 0 []).getD i 0) ((Qh n r).getD 0 []).length:=by
 show []=dvl f q nb _ (0+1);rw[Qf (by exact h0)];rfl
theorem qnV{n nb r:Nat}{f q:Nat→Int}(h0:¬cF f q nb (r:Nat)=0):[r]=dvl f q nb (fun i=>((Qh n r).getD 0 []).getD i 0) ((Qh n r).getD 0 []).length:=by
 show [r]=dvl f q nb _ (0+1);rw[yk (by exact h0)];rfl
end Go.Tn
end
