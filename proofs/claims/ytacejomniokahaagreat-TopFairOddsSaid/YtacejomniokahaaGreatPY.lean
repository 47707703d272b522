/- A part of the proof. -/
import Derived.Test.YtacejomniokahaaGreatPP
import Derived.Test.YtacejomniokahaaGreatPX
import Derived.Test.YtacejomniokahaaGreatPC
open Nat renaming reduceAdd→xa1,reduceEqDiff→xa2,le_refl→xa5,add_zero→xb1,add_assoc→xb2,zero_le→xb6,sub_self→xb8
set_option linter.unusedVariables false
set_option linter.unusedSimpArgs false
set_option linter.defProp false
set_option maxRecDepth 1000000
set_option maxHeartbeats 16000000
section
namespace Go.Tn
open Go.Proofs
open Go.Sx
variable{hp:List (Nat×Blk)}{n:Nat}
theorem gQ:True∧qk Tryz.prog 82=some ⟨false,1,some [.slice none 0 0],.slice 87 4⟩∧qk Tryz.prog 84=some ⟨true,2,some [.int .i64 0,.slice none 0 0],.struct [(0,1,some false),(1,1,some false)]⟩∧qw Tryz.prog 84=some [(0,1),(1,1)]∧qk Tryz.prog 87=some ⟨true,4,some [.int .i64 0,.int .i64 0,.int .i64 0,.bool false],.struct [(0,1,some false),(1,1,some false),(2,1,some false),(3,1,some false)]⟩∧qw Tryz.prog 87=some [(0,1),(1,1),(2,1),(3,1)]∧zE Tryz.prog 87=some [.i .i64,.i .i64,.i .i64,.b]:=⟨trivial,Ωb,Ωb,Ωb,Ωb,Ωb,Ωb⟩
theorem qpR{nb:Nat}{f q:Nat→Int}{d:Int}:Go.Sx.Sub hp (plV n nb f q d).sv (.agg [.arr true false n 2 (λi j=>.val (.int .i64 (100*cF f q nb (i:Nat)))),.val (.int .i64 d)]):=by
 simp only[Go.Tv.Pl.sv,plV,Go.Tv.rngs,Go.Tv.I,Go.Sx.Sub,Go.Sx.SubL,and_true,true_and];exact⟨λh=>ΩZ,λh=>h,λi j hi hj=>by split<;>rfl⟩
theorem YI{id:Nat}{N d:Nat→Int}{r:Nat→Nat→SV}(hb:blk hp id=some (.rows 87 4 n r))(h:∀i,i<n→∀j,j<4→r i j=Go.Tv.qf ⟨i,N i,d i,false⟩ j):Go.Sx.Sub hp (mkV n N d).sv (.agg [.val (.int .i64 n),.vec id n 4]):=by
 simp only[Go.Tv.Mk.sv,mkV,Go.Tv.qts,Go.Tv.I,Go.Sx.Sub,Go.Sx.SubL,and_true,true_and,hb];refine⟨xa5 _,λi j hi hj=>?_⟩;rw[h i hi j hj];exact zD _ (Go.Tv.qf_old _ j)
theorem qpS{id:Nat}{u:Nat→Int}{r:Nat→Nat→SV}(hb:blk hp id=some (.rows 2 1 n r))(h:∀i,i<n→r i 0=.val (.int .i64 (u i))):Go.Sx.Sub hp (Go.Tv.ints n u) (.vec id n 1):=by
 simp only[Go.Tv.ints,Go.Sx.Sub,hb];refine⟨trivial,trivial,trivial,xa5 _,trivial,λi j hi hj=>?_⟩;obtain rfl:j=0:=by omega
 rw[h i hi]
theorem qpT{u:Nat→Int}:Go.Sx.Sub hp (Go.Tv.ints n u) (.arr true false n 1 (λi _=>.val (.int .i64 (u i)))):=by
 simp only[Go.Tv.ints,Go.Sx.Sub];exact⟨λh=>ΩZ,λh=>h,trivial,trivial,λi j hi hj=>trivial⟩
theorem qsi(a b c:Int)(l:Bool):∀i j:Nat,i<1→j<4→oneCell ([SV.val (.int .i64 a),SV.val (.int .i64 b),SV.val (.int .i64 c),SV.val (.bool l)].getD (i*4+j) .top)=true:=by
 intro i j hi hj;obtain rfl:i=0:=by omega
 rcases(Ω:j=0∨j=1∨j=2∨j=3)with rfl|rfl|rfl|rfl<;>simp[oneCell]
theorem qsj:qE Tryz.prog 87=32:=by kernel_rfl
theorem c6(k n:Int)(nb:Nat)(f g q:Nat→Int)(ns:Nat)(s:Nat→Int)(fav:Bool)(c d st:Int)(hd:InK .i64 d)(a:Int)(ha:0≤a∧a<256):qb Tryz.prog 6 [gbk k n nb f g q ns s fav c d st,.val (.int .u8 a)] (B true):=by
 refine gp (qV [(17,[(0,0)])]) Tryz.func6 rfl Ωb follows Ωb _ _ (by rw[Tryz.ntmps6];simp) (by simp only[OldL,Z7,and_true,true_and];simp[Old]) ?_;have NB:True:=trivial;have h31:=c31;obtain⟨D,hD,hD1⟩:=qpC d hd;by_cases hnb:110<nb
 ·have h30:=qsd k n nb f g q ns s fav c d st hnb
  unfold gbk B;repeat' first|refine sD ?_ ?_<;>intro _|refine aAj ?_|simp -dsimp only[↓RP,RQ,seval,TYP,gQ,Go.Tv.TYv,↓RW,NB,QR,QT,QN]
  all_goals try exact Ωe
  refine zC h30 ΩB ?_;repeat' first|refine sD ?_ ?_<;>intro _|refine aAj ?_|simp -dsimp only[↓RP,RQ,seval,gbk,QT,TYP,gQ,Go.Tv.TYv,↓RW,NB,QR,QN]
  all_goals try exact Ωe
  refine qh h31 ΩT Ω8 ?_;repeat' first|refine sD ?_ ?_<;>intro _|refine aAj ?_|simp -dsimp only[↓RP,RQ,seval,QT,TYP,gQ,Go.Tv.TYv,↓RW,NB,QR,QN]
  all_goals try exact Ωe
 by_cases hk:ckB n nb f g q 0 (D*10) 1=0
 case neg=>
  have h30:=qse k n nb f g q ns s fav c d st D Ω hD hD1 hk;unfold gbk B;repeat' first|refine sD ?_ ?_<;>intro _|refine aAj ?_|simp -dsimp only[↓RP,RQ,seval,TYP,gQ,Go.Tv.TYv,↓RW,NB,QR,QT,QN]
  all_goals try exact Ωe
  refine zC h30 ΩB ?_;repeat' first|refine sD ?_ ?_<;>intro _|refine aAj ?_|simp -dsimp only[↓RP,RQ,seval,bkS,QT,TYP,gQ,Go.Tv.TYv,↓RW,NB,QR,QN]
  all_goals try exact Ωe
  refine qh h31 ΩT Ω8 ?_;repeat' first|refine sD ?_ ?_<;>intro _|refine aAj ?_|simp -dsimp only[↓RP,RQ,seval,QT,TYP,gQ,Go.Tv.TYv,↓RW,NB,QR,QN]
  all_goals try exact Ωe
 obtain⟨⟨⟨k1,k2⟩,k3,k4,k5⟩,k6,k7⟩:=ckB_ok.1 hk;obtain⟨m,rfl⟩:∃m:Nat,n=(m:Nat):=⟨n.toNat,Ω⟩;by_cases hu:∀r,r<m→cF f q nb (r:Nat)≤10000
 case neg=>
  have h30:=qrb k m nb f g q ns s fav c d st D Ω hD hD1 hk false ⟨λh=>ΩZ,λh=>absurd h hu⟩;unfold gbk B;repeat' first|refine sD ?_ ?_<;>intro _|refine aAj ?_|simp -dsimp only[↓RP,RQ,seval,TYP,gQ,Go.Tv.TYv,↓RW,NB,QR,QT,QN]
  all_goals try exact Ωe
  refine zC h30 ΩB ?_;repeat' first|refine sD ?_ ?_<;>intro _|refine aAj ?_|simp -dsimp only[↓RP,RQ,seval,bkS,QT,TYP,gQ,Go.Tv.TYv,↓RW,NB,QR,QN]
  all_goals try exact Ωe
  refine qh h31 ΩT Ω8 ?_;repeat' first|refine sD ?_ ?_<;>intro _|refine aAj ?_|simp -dsimp only[↓RP,RQ,seval,QT,TYP,gQ,Go.Tv.TYv,↓RW,NB,QR,QN]
  all_goals try exact Ωe
 have h30:=qrb k m nb f g q ns s fav c d st D Ω hD hD1 hk true ⟨λ_=>hu,λ_=>rfl⟩;by_cases hm5:5<m
 ·have d5:=decide_eq_true (Ω:(5:Int)<(m:Nat))
  unfold gbk B;repeat' first|refine sD ?_ ?_<;>intro _|refine aAj ?_|simp -dsimp only[↓RP,RQ,seval,TYP,gQ,Go.Tv.TYv,↓RW,NB,QR,QT,QN]
  all_goals try exact Ωe
  refine zC h30 ΩB ?_;repeat' first|refine sD ?_ ?_<;>intro _|refine aAj ?_|simp -dsimp only[↓RP,RQ,seval,d5,bkS,QT,TYP,gQ,Go.Tv.TYv,↓RW,NB,QR,QN]
  all_goals try exact Ωe
  refine qh h31 ΩT Ω8 ?_;repeat' first|refine sD ?_ ?_<;>intro _|refine aAj ?_|simp -dsimp only[↓RP,RQ,seval,QT,TYP,gQ,Go.Tv.TYv,↓RW,NB,QR,QN]
  all_goals try exact Ωe
 have d5:=decide_eq_false (Ω:¬(5:Int)<(m:Nat));have hf:∀i,i<nb→0≤f i∧f i<m:=λi hi=>(k7 i hi).2.1;have hq:∀i,i<nb→1≤q i∧q i≤1000:=λi hi=>(k7 i hi).1;have hg:∀i,i<nb→g i = -1:=λi hi=>(k7 i hi).2.2;obtain⟨sp,hsp,hsp1,hsp2⟩:∃sp,Int.tmod a 10=sp∧0≤sp∧sp<10:=⟨_,rfl,Int.tmod_nonneg _ ha.1,Int.tmod_lt_of_pos _ Ωq⟩;obtain⟨F,hF⟩:=Classical.axiomOfChoice (r:=λ(r:Nat)(p:Int×Int)=>r<m→¬cF f q nb (r:Nat)=0→qb Tryz.prog 36 [(plV m nb f q (D*10)).sv,I r,I (1+sp)] (.tup [.agg [I p.1,I p.2],.agg [I p.1,I p.2],I 0])∧(1≤p.2∧p.2≤10)∧(0≤p.1∧p.1≤10000)∧cF f q nb (r:Nat)*(p.2+p.1)≤sQ q nb*p.2) (λr=>by
  by_cases hr:r<m∧¬cF f q nb (r:Nat)=0
  ·obtain⟨N,e,h⟩:=qsg (s:=1+sp) Ω Ω k6 hf hq k4 hu Ω hr.1 hr.2
   exact⟨(N,e),λ_ _=>h⟩
  ·exact⟨(0,0),λh1 h2=>absurd ⟨h1,h2⟩ hr⟩)
 have h33:=c33 m nb f q fav 0 (D*10) 1 Ω Ω Ω hq k4;unfold gbk B;repeat' first|refine sD ?_ ?_<;>intro _|refine aAj ?_|simp -dsimp only[↓RP,RQ,seval,TYP,gQ,Go.Tv.TYv,↓RW,NB,QR,QT,QN]
 all_goals try exact Ωe
 refine zC h30 ΩB ?_;repeat' first|refine sD ?_ ?_<;>intro _|refine aAj ?_|simp -dsimp only[↓RP,RQ,seval,d5,bkS,QT,TYP,gQ,Go.Tv.TYv,↓RW,NB,QR,QN]
 all_goals try exact Ωe
 refine qo (λ(z:Nat×Nat×Nat×(Nat→Nat→SV)×Nat×(Nat→Nat→SV))=>z.1≤m∧(19<z.2.2.1∧z.2.2.1<z.2.1)∧(19<z.2.2.2.2.1∧z.2.2.2.2.1<z.2.1)∧z.2.2.1≠z.2.2.2.2.1∧(∀i,i<z.1→∀j,j<4→z.2.2.2.1 i j=Go.Tv.qf ⟨i,(F i).1,(F i).2,false⟩ j)∧(∀i,i<z.1→z.2.2.2.2.2 i 0=.val (.int .i64 (cF f q nb (i:Nat))))∧∀i,i<z.1→¬cF f q nb (i:Nat)=0∧(F i).1≤190) (λz=>⟨[(1,.val (.int .u8 a)),(2,.ptr 0 0),(4,.val (.bool false)),(6,.ptr 19 0),(7,.vec z.2.2.2.2.1 z.1 1),(8,.val (.int .i64 (z.1:Nat)))],[(z.2.2.1,.rows 87 4 z.1 z.2.2.2.1),(z.2.2.2.2.1,.rows 2 1 z.1 z.2.2.2.2.2),(19,.cells 84 [.val (.int .i64 m),.vec z.2.2.1 z.1 4]),(0,.cells 48 [.val (.int .i64 0),.val (.int .i64 m),zA nb f g q,.val (.slice none 0 0),.val (.bool fav),.val (.int .i64 0),.val (.int .i64 (D*10)),.val (.int .i64 1)])],z.2.1⟩) (λz=>m - z.1) (0,25,23,λ_ _=>.top,24,λ_ _=>.top) ⟨xb6 _,Ωk,Ωk,Ωk,λi hi=>(by cases hi),λi hi=>(by cases hi),λi hi=>(by cases hi)⟩ (Weak.trans (qbH (b:=19) (i:=1) (k:=4) (te:=87) (λ_ _=>.top) ΩC ΩC) (Weak.trans (YE (t:=2) (k:=1) (d:=7) (λ_ _=>.top) ΩC) (qp (xa5 _) (by simp[zj,Go.Sx.look,putFr]) ?hA))) λz hz=>?_
 case hA=>((repeat' (refine SubHp.ent ΩN ?_));exact λq v hv=>(by cases hv))
 obtain⟨w,nid,qid,qrow,uid,urow⟩:=z;obtain⟨hw,⟨n1,n2⟩,⟨n3,n4⟩,n5,hqr,hur,hall⟩:=hz;dsimp only at hw n1 n2 n3 n4 n5 hqr hur hall;dsimp only;clear NB;have NB:=(⟨nmA (Ω:0<nid),nmA (Ω:19<nid),nmA (Ω:qid<nid),nmA (Ω:uid<nid),nmE (Ω:qid≠0),nmE (Ω:qid≠19),nmE (Ω:uid≠0),nmE (Ω:uid≠19),nmE n5⟩:_∧_∧_∧_∧_∧_∧_∧_∧_);by_cases hwm:w<m
 ·have hlt:=decide_eq_true (Ω:((w:Nat):Int)<(m:Nat))
  have h26:=c26 nb m f q fav 0 (D*10) 1 (w:Nat) Ω hq;have hb:=J4 f q (w:Nat) nb hq;by_cases h0:cF f q nb (w:Nat)=0
  ·rw[h0]at h26
   repeat' first|refine sD ?_ ?_<;>intro _|refine aAj ?_|simp -dsimp only[↓RP,RQ,seval,hlt,TYP,gQ,Go.Tv.TYv,↓RW,NB,QR,QT,QN]
   all_goals try exact Ωe
   refine qh h26 (by simp only[SubL,and_true];exact⟨YG hg,by simp[Go.Sx.Sub,Go.Sx.SubL,I]⟩) (by simp[Fresh,FreshL,I]) ?_;repeat' first|refine sD ?_ ?_<;>intro _|refine aAj ?_|simp -dsimp only[↓RP,RQ,seval,QT,TYP,gQ,Go.Tv.TYv,↓RW,NB,QR,QN]
   all_goals try exact Ωe
   refine qh h31 ΩT Ω8 ?_;repeat' first|refine sD ?_ ?_<;>intro _|refine aAj ?_|simp -dsimp only[↓RP,RQ,seval,QT,TYP,gQ,Go.Tv.TYv,↓RW,NB,QR,QN]
   all_goals try exact Ωe
  ·have d0:=decide_eq_false h0
   obtain⟨h36,p1,p2,p3⟩:=hF w hwm h0;have h37:=Go.Tv.c37 ⟨w,(F w).1,(F w).2,false⟩;generalize hN:(F w).1=N at *;generalize hE:(F w).2=e at *;have g1:=decide_eq_false (Ω:¬N<0);repeat' first|refine sD ?_ ?_<;>intro _|refine aAj ?_|simp -dsimp only[↓RP,RQ,seval,hlt,TYP,gQ,Go.Tv.TYv,↓RW,NB,QR,QT,QN]
   all_goals try exact Ωe
   refine qh h26 (by simp only[SubL,and_true];exact⟨YG hg,by simp[Go.Sx.Sub,Go.Sx.SubL,I]⟩) (by simp[Fresh,FreshL,I]) ?_;repeat' first|refine sD ?_ ?_<;>intro _|refine aAj ?_|simp -dsimp only[↓RP,RQ,seval,QT,d0,TYP,gQ,Go.Tv.TYv,↓RW,NB,QR,QN]
   all_goals try exact Ωe
   refine qh h33 (by simp only[SubL,and_true];exact YG hg) (by simp[Fresh,FreshL,I]) ?_;repeat' first|refine sD ?_ ?_<;>intro _|refine aAj ?_|simp -dsimp only[↓RP,RQ,seval,QT,hsp,TYP,gQ,Go.Tv.TYv,↓RW,NB,QR,QN]
   all_goals try exact Ωe
   refine qh h36 (by simp only[SubL,and_true];exact⟨qpR,by simp[Go.Sx.Sub,I],by simp[Go.Sx.Sub,I]⟩) (by simp[Fresh,FreshL,I]) ?_;by_cases hL:190<N
   ·have g2:=decide_eq_true hL
    repeat' first|refine sD ?_ ?_<;>intro _|refine aAj ?_|simp -dsimp only[↓RP,RQ,seval,QT,g1,g2,TYP,gQ,Go.Tv.TYv,↓RW,NB,QR,QN]
    all_goals try exact Ωe
    refine qh h31 ΩT Ω8 ?_;repeat' first|refine sD ?_ ?_<;>intro _|refine aAj ?_|simp -dsimp only[↓RP,RQ,seval,QT,TYP,gQ,Go.Tv.TYv,↓RW,NB,QR,QN]
    all_goals try exact Ωe
   ·have g2:=decide_eq_false hL
    repeat' first|refine sD ?_ ?_<;>intro _|refine aAj ?_|simp -dsimp only[↓RP,RQ,seval,QT,g1,g2,TYP,gQ,Go.Tv.TYv,↓RW,NB,QR,QN]
    all_goals try exact Ωe
    refine qcz follows [] Ωb ?_;repeat' first|refine sD ?_ ?_<;>intro _|refine aAj ?_|simp -dsimp only[↓RP,RQ,seval,QT,TYP,gQ,Go.Tv.TYv,↓RW,NB,QR,QN]
    all_goals try exact Ωe
    refine qh h37 (by simp[SubL,Go.Sx.Sub,Go.Tv.I,Go.Tv.B]) (by simp[Fresh,FreshL,Go.Tv.qsv,Go.Tv.I,Go.Tv.B]) ?_;repeat' first|refine sD ?_ ?_<;>intro _|refine aAj ?_|simp -dsimp only[↓RP,RQ,seval,Go.Tv.qsv,Go.Tv.I,Go.Tv.B,TYP,gQ,Go.Tv.TYv,↓RW,NB,QR,QT,QN]
    all_goals try exact Ωe
    refine⟨⟨.inr trivial,xa5 _,qsi _ _ _ _,Ω,by rw[qsj];omega⟩,⟨.inr trivial,xa5 _,one1 _,Ω⟩,by simp only[InK];omega,(w+1,_,nid+62,λi j=>if i<w then qrow i j else [SV.val (.int .i64 (w:Nat)),SV.val (.int .i64 N),SV.val (.int .i64 e),SV.val (.bool false)].getD ((i - w)*4+j) .top,nid+66,λi j=>if i<w then urow i j else [SV.val (.int .i64 (cF f q nb (w:Nat)))].getD (i - w+j) .top),⟨Ωk,?n1,?n2,Ωk,?qr,?ur,?al⟩,Ωk,qp (xa5 _) Ωh ?hs⟩
    case n1=>dsimp only;omega
    case n2=>dsimp only;omega
    case qr=>
     intro i hi j hj;dsimp only at hi ⊢;by_cases e5:i<w
     ·rw[if_pos e5];exact hqr i e5 j hj
     ·obtain rfl:i=w:=by omega
      rw[if_neg e5,xb8,hN,hE];rcases(Ω:j=0∨j=1∨j=2∨j=3)with rfl|rfl|rfl|rfl<;>rfl
    case ur=>
     intro i hi;dsimp only at hi ⊢;by_cases e5:i<w
     ·rw[if_pos e5];exact hur i e5
     ·obtain rfl:i=w:=by omega
      rw[if_neg e5,xb8];rfl
    case al=>
     intro i hi;dsimp only at hi;by_cases e5:i<w
     ·exact hall i e5
     ·obtain rfl:i=w:=by omega
      exact⟨h0,by rw[hN];omega⟩
    case hs=>((repeat' (refine SubHp.ent Ωo ?_));exact λq v hv=>(by cases hv))
 ·have hlt:=decide_eq_false (Ω:¬((w:Nat):Int)<(m:Nat))
  obtain rfl:w=m:=by omega
  have hch:=qrc (N:=λi=>(F i).1) (d:=λi=>(F i).2) Ω Ω k6 hf hq (λi hi=>by
   obtain⟨a1,a2⟩:=hall i hi;obtain⟨_,p1,p2,p3⟩:=hF i hi a1;have b1:=J4 f q (i:Nat) nb hq;have b2:=hu i hi;exact⟨p1,⟨p2.1,a2⟩,Ω,b2,p3⟩)
  obtain⟨hfn,hsn,rr,hst,hck⟩:=qnu hch;have h38:=Go.Tv.c38n _ hfn hsn;have h39:=Go.Tv.c39s _ hfn hsn rr hst;have h40:=Go.Tv.c40 (mkV w (λi=>(F i).1) (λi=>(F i).2)) w Ω (λi=>cF f q nb (i:Nat));have h41:=Go.Tv.c41 (mkV w (λi=>(F i).1) (λi=>(F i).2)) (mkV w (λi=>(F i).1) (λi=>(F i).2)).run.toNat (Go.Tv.chI (Go.Tv.ownF (mkV w (λi=>(F i).1) (λi=>(F i).2)).lo (mkV w (λi=>(F i).1) (λi=>(F i).2)).hi (mkV w (λi=>(F i).1) (λi=>(F i).2)).run.toNat rr) (Go.Tv.aD (Go.Tv.ownF (mkV w (λi=>(F i).1) (λi=>(F i).2)).lo (mkV w (λi=>(F i).1) (λi=>(F i).2)).hi (mkV w (λi=>(F i).1) (λi=>(F i).2)).run.toNat rr) (mkV w (λi=>(F i).1) (λi=>(F i).2)).run.toNat));rw[hch]at h40;rw[hck]at h41;generalize Go.Tv.chI (Go.Tv.ownF (mkV w (λi=>(F i).1) (λi=>(F i).2)).lo (mkV w (λi=>(F i).1) (λi=>(F i).2)).hi (mkV w (λi=>(F i).1) (λi=>(F i).2)).run.toNat rr) (Go.Tv.aD (Go.Tv.ownF (mkV w (λi=>(F i).1) (λi=>(F i).2)).lo (mkV w (λi=>(F i).1) (λi=>(F i).2)).hi (mkV w (λi=>(F i).1) (λi=>(F i).2)).run.toNat rr) (mkV w (λi=>(F i).1) (λi=>(F i).2)).run.toNat)=C at *;repeat' first|refine sD ?_ ?_<;>intro _|refine aAj ?_|simp -dsimp only[↓RP,RQ,seval,hlt,TYP,gQ,Go.Tv.TYv,↓RW,NB,QR,QT,QN]
  all_goals try exact Ωe
  refine qh h38 (by simp only[SubL,and_true];exact YI Ωo hqr) (by simp[Fresh,FreshL,Go.Tv.nilV,Go.Tv.I]) ?_;repeat' first|refine sD ?_ ?_<;>intro _|refine aAj ?_|simp -dsimp only[↓RP,RQ,seval,Go.Tv.nilV,Go.Tv.I,TYP,gQ,Go.Tv.TYv,↓RW,NB,QR,QT,QN]
  all_goals try exact Ωe
  refine qh h39 (by simp only[SubL,and_true];exact YI Ωo hqr) (by simp[Fresh,FreshL,Go.Tv.I]) ?_;repeat' first|refine sD ?_ ?_<;>intro _|refine aAj ?_|simp -dsimp only[↓RP,RQ,seval,Go.Tv.I,TYP,gQ,Go.Tv.TYv,↓RW,NB,QR,QT,QN]
  all_goals try exact Ωe
  refine qh h40 (by simp only[SubL,and_true];exact⟨YI Ωo hqr,qpS Ωo hur⟩) (by simp[Fresh,FreshL,Go.Tv.I]) ?_;repeat' first|refine sD ?_ ?_<;>intro _|refine aAj ?_|simp -dsimp only[↓RP,RQ,seval,Go.Tv.I,TYP,gQ,Go.Tv.TYv,↓RW,NB,QR,QT,QN]
  all_goals try exact Ωe
  refine qh h41 (by simp only[SubL,and_true];exact⟨YI Ωo hqr,qpT⟩) (by simp[Fresh,FreshL,Go.Tv.I]) ?_;repeat' first|refine sD ?_ ?_<;>intro _|refine aAj ?_|simp -dsimp only[↓RP,RQ,seval,Go.Tv.I,TYP,gQ,Go.Tv.TYv,↓RW,NB,QR,QT,QN]
  all_goals try exact Ωe
  refine qh h31 ΩT Ω8 ?_;repeat' first|refine sD ?_ ?_<;>intro _|refine aAj ?_|simp -dsimp only[↓RP,RQ,seval,QT,TYP,gQ,Go.Tv.TYv,↓RW,NB,QR,QN]
  all_goals try exact Ωe
end Go.Tn
end
