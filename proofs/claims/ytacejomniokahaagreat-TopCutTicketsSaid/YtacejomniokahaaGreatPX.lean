/- A part of the proof. -/
import Derived.Test.YtacejomniokahaaGreatPL
import Derived.Test.YtacejomniokahaaGreatPW
import Derived.Test.YtacejomniokahaaGreatPC
open Nat renaming reduceEqDiff→xa2,le_refl→xa5,zero_add→xb0,lt_irrefl→xb4,sub_self→xb8
set_option linter.unusedVariables false
set_option linter.unusedSimpArgs false
set_option linter.defProp false
set_option maxRecDepth 1000000
set_option maxHeartbeats 16000000
section
namespace Go.Tn
open Go.Proofs
open Go.Sx
variable{m:Int}{k:Nat}{f hi lo t:Nat→Int}
theorem TYw:True∧qn Tryz.prog 2=some ⟨false,1,some [.int .i64 0],.int .i64⟩∧qn Tryz.prog 3=some ⟨false,1,some [.int .i64 0],.int .i64⟩∧qn Tryz.prog 4=some ⟨false,1,some [.bool false],.bool⟩∧qn Tryz.prog 5=some ⟨false,1,some [.int .u8 0],.int .u8⟩∧qn Tryz.prog 28=some ⟨false,1,some [.int .i64 0],.int .i64⟩∧qn Tryz.prog 32=some ⟨false,1,some [.slice none 0 0],.slice 2 1⟩∧qn Tryz.prog 48=some ⟨true,8,some [.int .i64 0,.int .i64 0,.slice none 0 0,.slice none 0 0,.bool false,.int .i64 0,.int .i64 0,.int .i64 0],.struct [(0,1,some false),(1,1,some false),(2,1,some false),(3,1,some false),(4,1,some false),(5,1,some false),(6,1,some false),(7,1,some false)]⟩∧qr Tryz.prog 48=some [(0,1),(1,1),(2,1),(3,1),(4,1),(5,1),(6,1),(7,1)]∧qn Tryz.prog 50=some ⟨true,3,some [.int .i64 0,.int .i64 0,.int .i64 0],.struct [(0,1,some false),(1,1,some false),(2,1,some false)]⟩∧qr Tryz.prog 50=some [(0,1),(1,1),(2,1)]∧qY Tryz.prog 50=some [.i .i64,.i .i64,.i .i64]∧qn Tryz.prog 51=some ⟨true,3,some [.int .i64 0,.int .i64 0,.int .i64 0],.struct [(0,1,some false),(1,1,some false),(2,1,some false)]⟩∧qr Tryz.prog 51=some [(0,1),(1,1),(2,1)]∧qY Tryz.prog 51=some [.i .i64,.i .i64,.i .i64]∧qn Tryz.prog 75=some ⟨false,1,some [.slice none 0 0],.slice 80 3⟩∧qn Tryz.prog 80=some ⟨true,3,some [.int .i64 0,.int .i64 0,.int .i64 0],.struct [(0,1,some false),(1,1,some false),(2,1,some false)]⟩∧qr Tryz.prog 80=some [(0,1),(1,1),(2,1)]∧qY Tryz.prog 80=some [.i .i64,.i .i64,.i .i64]∧qn Tryz.prog 95=some ⟨false,1,some [.slice none 0 0],.slice 101 4⟩∧qn Tryz.prog 97=some ⟨true,3,some [.int .i64 0,.int .i64 0,.slice none 0 0],.struct [(0,1,some false),(1,1,some false),(2,1,some false)]⟩∧qr Tryz.prog 97=some [(0,1),(1,1),(2,1)]∧qn Tryz.prog 99=some ⟨true,2,some [.int .i64 0,.int .i64 0],.struct [(0,1,some false),(1,1,some false)]⟩∧qr Tryz.prog 99=some [(0,1),(1,1)]∧qY Tryz.prog 99=some [.i .i64,.i .i64]∧qn Tryz.prog 101=some ⟨true,4,some [.int .i64 0,.int .i64 0,.int .i64 0,.int .i64 0],.struct [(0,1,some false),(1,1,some false),(2,2,some true)]⟩∧qr Tryz.prog 101=some [(0,1),(1,1),(2,2)]∧qY Tryz.prog 101=some [.i .i64,.i .i64,.i .i64,.i .i64]∧qG Tryz.prog 101=32:=⟨trivial,Ωc,Ωc,Ωc,Ωc,Ωc,Ωc,Ωc,Ωc,Ωc,Ωc,Ωc,Ωc,Ωc,Ωc,Ωc,Ωc,Ωc,Ωc,Ωc,Ωc,Ωc,Ωc,Ωc,Ωc,Ωc,Ωc,Ωc,Ωc⟩
def gHa(w m:Int)(k:Nat)(f t lo hi:Nat→Int):Ha:=⟨w.toNat,m,k,λj=>(f j).toNat,λj=>(t j).toNat,lo,hi⟩
theorem qcU{w:Int}(h:jR w m k f t lo hi=0):(gHa w m k f t lo hi).Ok∧1≤w∧w≤10∧k≤10∧∀j,j<k→0≤f j∧0≤t j:=by
 unfold jR at h;split at h
 ·cases h
 ·split at h
  ·cases h
  ·split at h
   ·cases h
   ·split at h
    ·rename_i c1 c2 c3 c4
     have c2:=Decidable.not_not.1 c2;refine⟨⟨(by show 1≤w.toNat;omega),(by show w.toNat≤10;omega),(by show k≤10;omega),(by show 0≤m∧m≤1000000;omega),λj hj=>?_,λj hj=>c4 j hj⟩,Ω,Ω,Ω,λj hj=>?_⟩
     ·have:=c2 j hj
      show(f j).toNat≤(t j).toNat∧(t j).toNat<w.toNat;omega
     ·have:=c2 j hj;omega
    ·cases h
theorem qnk{hp:List (Nat×Blk)}{w:Int}(h:jR w m k f t lo hi=0):Go.Sx.Sub hp (haS (gHa w m k f t lo hi)) (.agg [.val (.int .i64 w),.val (.int .i64 m),gC k f t lo hi]):=by
 obtain⟨_,h1,_,_,h2⟩:=qcU h;unfold haS ctR gC;simp only[Go.Sx.Sub,Go.Sx.SubL,and_true,true_and];refine⟨by show SV.val (Value.int .i64 w)=.val (.int .i64 (w.toNat:Nat));rw[Int.toNat_of_nonneg Ω],rfl,λh=>h,λh=>h,rfl,λi j hi' hj=>?_⟩;have:=h2 i hi';have e1:((gHa w m k f t lo hi).f i:Int)=f i:=Int.toNat_of_nonneg this.1;have e2:((gHa w m k f t lo hi).t i:Int)=t i:=Int.toNat_of_nonneg this.2;unfold ctL gL;rw[e1,e2];exact qq _ (qgH (P:=Old) Ωu Ωu Ωu Ωu j hj)
theorem qfe{hp:List (Nat×Blk)}{n:Nat}{H:Ha}{r:Nat}{Lo:Int}(hH:H=gHa n m k f t lo hi)(he:jR n m k f t lo hi=0){id:Nat}{rw0:Nat→Nat→SV}(hb:blk hp id=some (.rows 101 4 (k+1) rw0))(q1:∀i,i<k→∀j,j<4→rw0 i j=(gL f t lo hi i).getD j .top)(q2:∀j,j<4→rw0 k j=[SV.val (.int .i64 (r:Nat)),.val (.int .i64 (r:Nat)),.val (.int .i64 Lo),.val (.int .i64 Lo)].getD j .top):Go.Sx.Sub hp (haS (H.one r Lo)) (.agg [.val (.int .i64 n),.val (.int .i64 m),.vec id (k+1) 4]):=by
 obtain⟨_,_,_,_,h2⟩:=qcU he;subst hH;unfold haS ctR;refine⟨rfl,rfl,?_,rfl⟩;simp only[Go.Sx.Sub,hb];refine⟨trivial,rfl,trivial,xa5 _,trivial,λi j hi' hj=>?_⟩;have hi2:i<k+1:=hi';by_cases c:i<k
 ·rw[q1 i c j hj]
  have:=h2 i c;have e1:(((gHa n m k f t lo hi).one r Lo).f i:Int)=f i:=by
   show((if i<k then(f i).toNat else r:Nat):Int)=f i;rw[if_pos c];exact Int.toNat_of_nonneg this.1
  have e2:(((gHa n m k f t lo hi).one r Lo).t i:Int)=t i:=by
   show((if i<k then(t i).toNat else r:Nat):Int)=t i;rw[if_pos c];exact Int.toNat_of_nonneg this.2
  have e3:((gHa n m k f t lo hi).one r Lo).lo i=lo i:=if_pos c;have e4:((gHa n m k f t lo hi).one r Lo).hi i=hi i:=if_pos c;unfold ctL gL;rw[e1,e2,e3,e4];exact qq _ (qgH (P:=Old) Ωu Ωu Ωu Ωu j hj)
 ·obtain rfl:i=k:=by omega
  rw[q2 j hj];have e1:((gHa n m i f t lo hi).one r Lo).f i=r:=if_neg (xb4 _);have e2:((gHa n m i f t lo hi).one r Lo).t i=r:=if_neg (xb4 _);have e3:((gHa n m i f t lo hi).one r Lo).lo i=Lo:=if_neg (xb4 _);have e4:((gHa n m i f t lo hi).one r Lo).hi i=Lo:=if_neg (xb4 _);unfold ctL;rw[e1,e2,e3,e4];exact qq _ (qgH (P:=Old) Ωu Ωu Ωu Ωu j hj)
theorem c9(w m:Int)(k:Nat)(f t lo hi:Nat→Int)(a:Int)(ha:0≤a∧a<256):qf Tryz.prog 9 [gH w m k f t lo hi,.val (.int .u8 a)] (B true):=by
 have h43:=c43;have e190:decide ((19:Int)=0)=false:=rfl;have h55:=qqH w m k f t lo hi;refine kM (qR [(18,[(0,0)])]) Tryz.func9 rfl Ωc follows Ωc _ _ (by rw[Tryz.ntmps9];simp) (by simp only[OldL,qcT,and_true,true_and];simp[Old]) ?_;have NB:True:=trivial;unfold B gH;have sub0:∀{hp:List (Nat×Blk)},Go.Sx.Sub hp (gH w m k f t lo hi) (.agg [.val (.int .i64 w),.val (.int .i64 m),gC k f t lo hi]):=λ{hp}=>qq _ (qcT _ _ _ _ _ _ _);by_cases hk:20<k
 ·have d1:=decide_eq_true (Ω:(20:Int)<(k:Nat))
  repeat' first|refine sD ?_ ?_<;>intro _|refine aAh ?_|simp -dsimp only[↓RP,RQ,seval,d1,gC,TYQ,TYP,TYw,↓RW,NB,QR,QT,QN]
  all_goals try exact Ωa
  refine qk h43 ΩF Ωz ?_;repeat' first|refine sD ?_ ?_<;>intro _|refine aAh ?_|simp -dsimp only[↓RP,RQ,seval,QT,TYQ,TYP,TYw,↓RW,NB,QR,QN]
  all_goals try exact Ωa
 have d1:=decide_eq_false (Ω:¬(20:Int)<(k:Nat));by_cases he:jR w m k f t lo hi=0
 case neg=>
  have d2:=decide_eq_false he;repeat' first|refine sD ?_ ?_<;>intro _|refine aAh ?_|simp -dsimp only[↓RP,RQ,seval,d1,gC,TYQ,TYP,TYw,↓RW,NB,QR,QT,QN]
  all_goals try exact Ωa
  refine qk h55 (by simp only[SubL,and_true];exact sub0) (by simp[Fresh,I]) ?_;repeat' first|refine sD ?_ ?_<;>intro _|refine aAh ?_|simp -dsimp only[↓RP,RQ,seval,QT,d1,d2,TYQ,TYP,TYw,↓RW,NB,QR,QN]
  all_goals try exact Ωa
  refine qk h43 ΩF Ωz ?_;repeat' first|refine sD ?_ ?_<;>intro _|refine aAh ?_|simp -dsimp only[↓RP,RQ,seval,QT,TYQ,TYP,TYw,↓RW,NB,QR,QN]
  all_goals try exact Ωa
 rw[he]at h55;repeat' first|refine sD ?_ ?_<;>intro _|refine aAh ?_|simp -dsimp only[↓RP,RQ,seval,d1,gC,TYQ,TYP,TYw,↓RW,NB,QR,QT,QN]
 all_goals try exact Ωa
 refine qk h55 (by simp only[SubL,and_true];exact sub0) (by simp[Fresh,I]) ?_;by_cases hw:2≤w∧w≤8∧m≤1000
 case neg=>
  by_cases c1:w<2
  ·have e1:=decide_eq_true c1
   repeat' first|refine sD ?_ ?_<;>intro _|refine aAh ?_|simp -dsimp only[↓RP,RQ,seval,QT,d1,e1,TYQ,TYP,TYw,↓RW,NB,QR,QN]
   all_goals try exact Ωa
   refine qk h43 ΩF Ωz ?_;repeat' first|refine sD ?_ ?_<;>intro _|refine aAh ?_|simp -dsimp only[↓RP,RQ,seval,QT,TYQ,TYP,TYw,↓RW,NB,QR,QN]
   all_goals try exact Ωa
  have e1:=decide_eq_false c1;by_cases c2:8<w
  ·have e2:=decide_eq_true c2
   repeat' first|refine sD ?_ ?_<;>intro _|refine aAh ?_|simp -dsimp only[↓RP,RQ,seval,QT,d1,e1,e2,TYQ,TYP,TYw,↓RW,NB,QR,QN]
   all_goals try exact Ωa
   refine qk h43 ΩF Ωz ?_;repeat' first|refine sD ?_ ?_<;>intro _|refine aAh ?_|simp -dsimp only[↓RP,RQ,seval,QT,TYQ,TYP,TYw,↓RW,NB,QR,QN]
   all_goals try exact Ωa
  have e2:=decide_eq_false c2;have e3:=decide_eq_true (Ω:1000<m);repeat' first|refine sD ?_ ?_<;>intro _|refine aAh ?_|simp -dsimp only[↓RP,RQ,seval,QT,d1,e1,e2,e3,TYQ,TYP,TYw,↓RW,NB,QR,QN]
  all_goals try exact Ωa
  refine qk h43 ΩF Ωz ?_;repeat' first|refine sD ?_ ?_<;>intro _|refine aAh ?_|simp -dsimp only[↓RP,RQ,seval,QT,TYQ,TYP,TYw,↓RW,NB,QR,QN]
  all_goals try exact Ωa
 have e1:=decide_eq_false (Ω:¬w<2);have e2:=decide_eq_false (Ω:¬8<w);have e3:=decide_eq_false (Ω:¬1000<m);obtain⟨o,hw1,hw2,hk2,_⟩:=qcU he;obtain⟨n,rfl⟩:∃n:Nat,w=(n:Nat):=⟨w.toNat,Ω⟩;obtain⟨r,hr,hrn⟩:∃r:Nat,Int.tmod a (n:Nat)=(r:Nat)∧r<n:=by
  have g1:=Int.tmod_nonneg (a:=a) (n:Nat) Ω;have g2:=Int.tmod_lt_of_pos a (Ω:(0:Int)<(n:Nat));exact⟨(Int.tmod a (n:Nat)).toNat,Ω,Ω⟩
 obtain⟨H,hH⟩:∃H,H=gHa n m k f t lo hi:=⟨_,rfl⟩;have subH:∀{hp:List (Nat×Blk)},Go.Sx.Sub hp (haS H) (.agg [.val (.int .i64 n),.val (.int .i64 m),gC k f t lo hi]):=λ{hp}=>by rw[hH];exact qnk he
 have hHw:H.w=n:=by rw[hH];rfl
 have hHm:H.m=m:=by rw[hH];rfl
 have hHk:H.k=k:=by rw[hH];rfl
 rw[←hH]at o;have hS:(∃D E,Lst H.C (H.w+1) r D∧Lst H.C (H.w+1) (r+1) E∧qf Tryz.prog 50 [haS H,I r,I r] (.tup [.agg [I (- E r),I (D (r+1))],I 0]))∨_:=c50 H o r r (xa5 _) Ω;have hT:=c53 H o;rw[hHw]at hT;rcases hS with⟨D,E,hD,hE,h50⟩|⟨hno,h50⟩
 case inr=>
  rcases hT with⟨D,hD,h53⟩|⟨_,h53⟩
  case inl=>exact absurd (Lst.tru o (by rw[hHw];exact hD)) (hno _)
  repeat' first|refine sD ?_ ?_<;>intro _|refine aAh ?_|simp -dsimp only[↓RP,RQ,seval,QT,d1,e1,e2,e3,hr,TYQ,TYP,TYw,↓RW,NB,QR,QN]
  all_goals try exact Ωa
  refine qk h50 (by simp only[SubL,and_true];exact⟨subH,zt,zt⟩) ΩC ?_;repeat' first|refine sD ?_ ?_<;>intro _|refine aAh ?_|simp -dsimp only[↓RP,RQ,seval,QT,TYQ,TYP,TYw,↓RW,NB,QR,QN]
  all_goals try exact Ωa
  refine qk h53 (by simp only[SubL,and_true];exact subH) ΩC ?_;repeat' first|refine sD ?_ ?_<;>intro _|refine aAh ?_|simp -dsimp only[↓RP,RQ,seval,QT,TYQ,TYP,TYw,↓RW,NB,QR,QN]
  all_goals try exact Ωa
  refine qk h43 ΩF Ωz ?_;repeat' first|refine sD ?_ ?_<;>intro _|refine aAh ?_|simp -dsimp only[↓RP,RQ,seval,QT,TYQ,TYP,TYw,↓RW,NB,QR,QN]
  all_goals try exact Ωa
 rcases hT with⟨T,hT,h53⟩|⟨hno,_⟩
 case inr=>exact absurd (Lst.tru o hD) (hno _)
 have tT:=Lst.tru o (by rw[hHw];exact hT);obtain⟨s1,s2,s3,s4,s5,s6⟩:=qpj o Ω hD hE tT;have hu:∀i,i<n→0≤dfT T i∧dfT T i≤1000:=λi hi=>by
  have:=tT.1 i Ω;unfold dfT;omega
 have h49:=c49 H o n (dfT T) Ω;rw[show ckT H n (dfT T)=0 by rw[←hHw];exact qkE tT]at h49;have h56:=c56 n (dfT T) 0 1 Ω hu Ω (by simp only[InK];omega);rw[Int.mul_zero]at h56;have h45:=c45 r r (-E r) (-E r);have h57:=c57 n r hrn Ω Ω;have h34:=qpk n (dfT T) Ω Ω hu r hrn;have eT:dfT T r=T (r+1) - T r:=rfl;rw[←eT]at s1 s2
 change qf Tryz.prog 53 [haS H] (.tup [.arr true false n 1 (λi _=>.val (.int .i64 (dfT T i))),I 0])at h53
 obtain⟨Lo,hLo⟩:∃Lo,Lo = -E r:=⟨_,rfl⟩;obtain⟨Hi,hHi⟩:∃Hi,Hi=D (r+1):=⟨_,rfl⟩;rw[←hLo]at s1 s3 s4 s6 h50 h45;rw[←hHi]at s2 h50;have hX:¬k=10→∃u2:Nat→Int,(∀i,i<n→0≤u2 i∧u2 i≤1000)∧u2 r=Lo∧qf Tryz.prog 53 [haS (H.one r Lo)] (.tup [.arr true false n 1 (λi _=>.val (.int .i64 (u2 i))),I 0])∧qf Tryz.prog 49 [haS (H.one r Lo),qA n u2] (I 0):=λhk10=>by
  have o2:=Ha.one_ok o Ω (Ω:r<H.w) (v:=Lo) Ω;have hX:=c53 _ o2;have eW:(H.one r Lo).w=n:=hHw;rw[eW]at hX;rcases hX with⟨T2,hT2,h53⟩|⟨hno,_⟩
  case inr=>exact absurd (Ha.one_tru.2 ⟨s5,s6⟩) (hno E)
  have tT2:=Lst.tru o2 (by rw[eW];exact hT2);have h49:=c49 _ o2 n (dfT T2) Ω;rw[show ckT (H.one r Lo) n (dfT T2)=0 by rw[←eW];exact qkE tT2]at h49;refine⟨dfT T2,λi hi=>?_,(Ha.one_tru.1 tT2).2,h53,h49⟩;have:=tT2.1 i Ω;have e5:(H.one r Lo).m=m:=hHm;unfold dfT;omega
 generalize dfT T=u at *;repeat' first|refine sD ?_ ?_<;>intro _|refine aAh ?_|simp -dsimp only[↓RP,RQ,seval,QT,d1,e1,e2,e3,hr,TYQ,TYP,TYw,↓RW,NB,QR,QN]
 all_goals try exact Ωa
 refine qk h50 (by simp only[SubL,and_true];exact⟨subH,zt,zt⟩) ΩC ?_;repeat' first|refine sD ?_ ?_<;>intro _|refine aAh ?_|simp -dsimp only[↓RP,RQ,seval,QT,TYQ,TYP,TYw,↓RW,NB,QR,QN]
 all_goals try exact Ωa
 refine qk h53 (by simp only[SubL,and_true];exact subH) ΩC ?_;repeat' first|refine sD ?_ ?_<;>intro _|refine aAh ?_|simp -dsimp only[↓RP,RQ,seval,QT,TYQ,TYP,TYw,↓RW,NB,QR,QN]
 all_goals try exact Ωa
 refine qk h49 (by simp only[SubL,and_true];exact⟨subH,KZ⟩) (by simp[Fresh,I]) ?_;repeat' first|refine sD ?_ ?_<;>intro _|refine aAh ?_|simp -dsimp only[↓RP,RQ,seval,QT,TYQ,TYP,TYw,↓RW,NB,QR,QN]
 all_goals try exact Ωa
 refine qk h56 Ω3 JA ?_;repeat' first|refine sD ?_ ?_<;>intro _|refine aAh ?_|simp -dsimp only[↓RP,RQ,seval,QT,TYQ,TYP,TYw,↓RW,NB,QR,QN]
 all_goals try exact Ωa
 refine qk h57 Ω8 QQ ?_;by_cases hz:Hi=0
 ·rcases h34 with⟨u0,h34⟩|⟨u0,_⟩
  case inr=>omega
  have dz:=decide_eq_true hz;repeat' first|refine sD ?_ ?_<;>intro _|refine aAh ?_|simp -dsimp only[↓RP,RQ,seval,QT,dz,TYQ,TYP,TYw,↓RW,NB,QR,QN]
  all_goals try exact Ωa
  refine qk h34 ΩJ ΩC ?_;repeat' first|refine sD ?_ ?_<;>intro _|refine aAh ?_|simp -dsimp only[↓RP,RQ,seval,QT,dz,TYQ,TYP,TYw,↓RW,NB,QR,QN]
  all_goals try exact Ωa
  refine qk h43 ΩF Ωz ?_;repeat' first|refine sD ?_ ?_<;>intro _|refine aAh ?_|simp -dsimp only[↓RP,RQ,seval,QT,TYQ,TYP,TYw,↓RW,NB,QR,QN]
  all_goals try exact Ωa
 have dz:=decide_eq_false hz;by_cases hl:0<Lo
 ·rcases h34 with⟨u0,_⟩|⟨u0,p,p1,h34,p2⟩
  case inl=>omega
  have dl:=decide_eq_true hl;have dp:=decide_eq_false (Ω:¬p<100);rw[p2]at dp;repeat' first|refine sD ?_ ?_<;>intro _|refine aAh ?_|simp -dsimp only[↓RP,RQ,seval,QT,dz,dl,TYQ,TYP,TYw,↓RW,NB,QR,QN]
  all_goals try exact Ωa
  refine qk h34 ΩJ Kb ?_;by_cases hk10:k=10
  ·have dk:=decide_eq_true (Ω:((k:Nat):Int)=10)
   repeat' first|refine sD ?_ ?_<;>intro _|refine aAh ?_|simp -dsimp only[↓RP,RQ,seval,QT,dz,dl,dp,dk,TYQ,TYP,TYw,↓RW,NB,QR,QN]
   all_goals try exact Ωa
   refine qk h43 ΩF Ωz ?_;repeat' first|refine sD ?_ ?_<;>intro _|refine aAh ?_|simp -dsimp only[↓RP,RQ,seval,QT,TYQ,TYP,TYw,↓RW,NB,QR,QN]
   all_goals try exact Ωa
  have dk:=decide_eq_false (Ω:¬((k:Nat):Int)=10);repeat' first|refine sD ?_ ?_<;>intro _|refine aAh ?_|simp -dsimp only[↓RP,RQ,seval,QT,dz,dl,dp,dk,TYQ,TYP,TYw,↓RW,NB,QR,QN]
  all_goals try exact Ωa
  refine GQ follows [] Ωc ?_;repeat' first|refine sD ?_ ?_<;>intro _|refine aAh ?_|simp -dsimp only[↓RP,RQ,seval,QT,TYQ,TYP,TYw,↓RW,NB,QR,QN]
  all_goals try exact Ωa
  refine⟨⟨.inr trivial,λi j hi hj=>?_,Ω⟩,?_⟩
  ·rcases(Ω:j=0∨j=1∨j=2∨j=3)with rfl|rfl|rfl|rfl<;>rfl
  refine qk h45 (by simp only[SubL,and_true];exact⟨zt,zt,zt,zt⟩) ΩC ?_;repeat' first|refine sD ?_ ?_<;>intro _|refine aAh ?_|simp -dsimp only[↓RP,RQ,seval,QT,TYQ,TYP,TYw,↓RW,NB,QR,QN]
  all_goals try exact Ωa
  obtain⟨u2,hu2,eu2,h53b,h49b⟩:=hX hk10;have h56b:=c56 n u2 0 1 Ω hu2 Ω (by simp only[InK];omega);rw[Int.mul_zero]at h56b;have h34b:=qpk n u2 Ω Ω hu2 r hrn;have subX:∀{hp:List (Nat×Blk)}{id:Nat}{rw0:Nat→Nat→SV},blk hp id=some (.rows 101 4 (k+1) rw0)→(∀i,i<k→∀j,j<4→rw0 i j=(gL f t lo hi i).getD j .top)→(∀j,j<4→rw0 k j=[SV.val (.int .i64 (r:Nat)),.val (.int .i64 (r:Nat)),.val (.int .i64 Lo),.val (.int .i64 Lo)].getD j .top)→Go.Sx.Sub hp (haS (H.one r Lo)) (.agg [.val (.int .i64 n),.val (.int .i64 m),.vec id (k+1) 4]):=λhb q1 q2=>qfe hH he hb q1 q2;refine⟨⟨.inr trivial,xa5 _,λi j hi hj=>?_,Ω⟩,?_⟩
  ·obtain rfl:i=0:=by omega
   rcases(Ω:j=0∨j=1∨j=2∨j=3)with rfl|rfl|rfl|rfl<;>rfl
  refine qk h53b (by simp only[SubL,and_true];exact subX ΩR (λi hi' j hj=>by rw[if_pos hi',if_neg (Nat.not_lt_zero _)];rfl) (λj hj=>by rw[if_neg (xb4 _),xb8,Nat.zero_mul,xb0])) ΩC ?_;repeat' first|refine sD ?_ ?_<;>intro _|refine aAh ?_|simp -dsimp only[↓RP,RQ,seval,QT,dl,TYQ,TYP,TYw,↓RW,NB,QR,QN]
  all_goals try exact Ωa
  refine qk h49b (by simp only[SubL,and_true];exact⟨subX ΩR (λi hi' j hj=>by rw[if_pos hi',if_neg (Nat.not_lt_zero _)];rfl) (λj hj=>by rw[if_neg (xb4 _),xb8,Nat.zero_mul,xb0]),KZ⟩) (by simp[Fresh,I]) ?_;repeat' first|refine sD ?_ ?_<;>intro _|refine aAh ?_|simp -dsimp only[↓RP,RQ,seval,QT,dl,TYQ,TYP,TYw,↓RW,NB,QR,QN]
  all_goals try exact Ωa
  refine qk h56b Ω3 JA ?_;repeat' first|refine sD ?_ ?_<;>intro _|refine aAh ?_|simp -dsimp only[↓RP,RQ,seval,QT,dl,TYQ,TYP,TYw,↓RW,NB,QR,QN]
  all_goals try exact Ωa
  refine qk h57 Ω8 QQ ?_;rcases h34b with⟨u3,h34b⟩|⟨u3,p',p1',h34b,p2'⟩
  case inl=>omega
  repeat' first|refine sD ?_ ?_<;>intro _|refine aAh ?_|simp -dsimp only[↓RP,RQ,seval,QT,dl,TYQ,TYP,TYw,↓RW,NB,QR,QN]
  all_goals try exact Ωa
  refine qk h34b ΩJ Kb ?_;repeat' first|refine sD ?_ ?_<;>intro _|refine aAh ?_|simp -dsimp only[↓RP,RQ,seval,QT,dl,TYQ,TYP,TYw,↓RW,NB,QR,QN]
  all_goals try exact Ωa
  refine qk h43 ΩF Ωz ?_;repeat' first|refine sD ?_ ?_<;>intro _|refine aAh ?_|simp -dsimp only[↓RP,RQ,seval,QT,TYQ,TYP,TYw,↓RW,NB,QR,QN]
  all_goals try exact Ωa
 ·have dl:=decide_eq_false hl
  have:∃(dv:SV)(er:Int),Fresh (.tup [dv,I er])∧qf Tryz.prog 34 [bkS n (psL u n).length (psF u n) (λ_=>-1) (psQ u n) false 0 0 1,.arr false false (jP n r).length 1 (λi _=>.arr false false ((jP n r).getD i []).length 1 (λj _=>.val (.int .i64 (((jP n r).getD i []).getD j 0:Nat))))] (.tup [dv,I er]):=by
   rcases h34 with⟨_,h34⟩|⟨_,_,_,h34,_⟩
   ·exact⟨_,_,by simp[Fresh,FreshL,I],h34⟩
   ·exact⟨_,_,Kb,h34⟩
  obtain⟨dv,er,fr,h34⟩:=this;repeat' first|refine sD ?_ ?_<;>intro _|refine aAh ?_|simp -dsimp only[↓RP,RQ,seval,QT,dz,dl,TYQ,TYP,TYw,↓RW,NB,QR,QN]
  all_goals try exact Ωa
  refine qk h34 ΩJ fr ?_;by_cases hk10:k=10
  ·have dk:=decide_eq_true (Ω:((k:Nat):Int)=10)
   repeat' first|refine sD ?_ ?_<;>intro _|refine aAh ?_|simp -dsimp only[↓RP,RQ,seval,QT,dz,dl,dk,TYQ,TYP,TYw,↓RW,NB,QR,QN]
   all_goals try exact Ωa
   refine qk h43 ΩF Ωz ?_;repeat' first|refine sD ?_ ?_<;>intro _|refine aAh ?_|simp -dsimp only[↓RP,RQ,seval,QT,TYQ,TYP,TYw,↓RW,NB,QR,QN]
   all_goals try exact Ωa
  have dk:=decide_eq_false (Ω:¬((k:Nat):Int)=10);repeat' first|refine sD ?_ ?_<;>intro _|refine aAh ?_|simp -dsimp only[↓RP,RQ,seval,QT,dz,dl,dk,TYQ,TYP,TYw,↓RW,NB,QR,QN]
  all_goals try exact Ωa
  refine GQ follows [] Ωc ?_;repeat' first|refine sD ?_ ?_<;>intro _|refine aAh ?_|simp -dsimp only[↓RP,RQ,seval,QT,TYQ,TYP,TYw,↓RW,NB,QR,QN]
  all_goals try exact Ωa
  refine⟨⟨.inr trivial,λi j hi hj=>?_,Ω⟩,?_⟩
  ·rcases(Ω:j=0∨j=1∨j=2∨j=3)with rfl|rfl|rfl|rfl<;>rfl
  refine qk h45 (by simp only[SubL,and_true];exact⟨zt,zt,zt,zt⟩) ΩC ?_;repeat' first|refine sD ?_ ?_<;>intro _|refine aAh ?_|simp -dsimp only[↓RP,RQ,seval,QT,TYQ,TYP,TYw,↓RW,NB,QR,QN]
  all_goals try exact Ωa
  obtain⟨u2,hu2,eu2,h53b,h49b⟩:=hX hk10;have h56b:=c56 n u2 0 1 Ω hu2 Ω (by simp only[InK];omega);rw[Int.mul_zero]at h56b;have h34b:=qpk n u2 Ω Ω hu2 r hrn;have subX:∀{hp:List (Nat×Blk)}{id:Nat}{rw0:Nat→Nat→SV},blk hp id=some (.rows 101 4 (k+1) rw0)→(∀i,i<k→∀j,j<4→rw0 i j=(gL f t lo hi i).getD j .top)→(∀j,j<4→rw0 k j=[SV.val (.int .i64 (r:Nat)),.val (.int .i64 (r:Nat)),.val (.int .i64 Lo),.val (.int .i64 Lo)].getD j .top)→Go.Sx.Sub hp (haS (H.one r Lo)) (.agg [.val (.int .i64 n),.val (.int .i64 m),.vec id (k+1) 4]):=λhb q1 q2=>qfe hH he hb q1 q2;refine⟨⟨.inr trivial,xa5 _,λi j hi hj=>?_,Ω⟩,?_⟩
  ·obtain rfl:i=0:=by omega
   rcases(Ω:j=0∨j=1∨j=2∨j=3)with rfl|rfl|rfl|rfl<;>rfl
  refine qk h53b (by simp only[SubL,and_true];exact subX ΩR (λi hi' j hj=>by rw[if_pos hi',if_neg (Nat.not_lt_zero _)];rfl) (λj hj=>by rw[if_neg (xb4 _),xb8,Nat.zero_mul,xb0])) ΩC ?_;repeat' first|refine sD ?_ ?_<;>intro _|refine aAh ?_|simp -dsimp only[↓RP,RQ,seval,QT,dl,TYQ,TYP,TYw,↓RW,NB,QR,QN]
  all_goals try exact Ωa
  refine qk h49b (by simp only[SubL,and_true];exact⟨subX ΩR (λi hi' j hj=>by rw[if_pos hi',if_neg (Nat.not_lt_zero _)];rfl) (λj hj=>by rw[if_neg (xb4 _),xb8,Nat.zero_mul,xb0]),KZ⟩) (by simp[Fresh,I]) ?_;repeat' first|refine sD ?_ ?_<;>intro _|refine aAh ?_|simp -dsimp only[↓RP,RQ,seval,QT,dl,TYQ,TYP,TYw,↓RW,NB,QR,QN]
  all_goals try exact Ωa
  refine qk h56b Ω3 JA ?_;repeat' first|refine sD ?_ ?_<;>intro _|refine aAh ?_|simp -dsimp only[↓RP,RQ,seval,QT,dl,TYQ,TYP,TYw,↓RW,NB,QR,QN]
  all_goals try exact Ωa
  refine qk h57 Ω8 QQ ?_;rcases h34b with⟨u3,h34b⟩|⟨u3,p',p1',h34b,p2'⟩
  case inr=>omega
  repeat' first|refine sD ?_ ?_<;>intro _|refine aAh ?_|simp -dsimp only[↓RP,RQ,seval,QT,dl,TYQ,TYP,TYw,↓RW,NB,QR,QN]
  all_goals try exact Ωa
  refine qk h34b ΩJ ΩC ?_;repeat' first|refine sD ?_ ?_<;>intro _|refine aAh ?_|simp -dsimp only[↓RP,RQ,seval,QT,dl,e190,TYQ,TYP,TYw,↓RW,NB,QR,QN]
  all_goals try exact Ωa
  refine qk h43 ΩF Ωz ?_;repeat' first|refine sD ?_ ?_<;>intro _|refine aAh ?_|simp -dsimp only[↓RP,RQ,seval,QT,TYQ,TYP,TYw,↓RW,NB,QR,QN]
  all_goals try exact Ωa
end Go.Tn
end
