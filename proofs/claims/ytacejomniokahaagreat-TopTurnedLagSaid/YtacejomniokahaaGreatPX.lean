/- A part of the proof. -/
import Derived.Test.YtacejomniokahaaGreatPI
import Derived.Test.YtacejomniokahaaGreatPW
open Nat renaming reduceMul→xa0,reduceAdd→xa1,reduceEqDiff→xa2,reduceLT→xa3,reduceLeDiff→xa4,le_refl→xa5,add_zero→xb1,add_assoc→xb2,zero_le→xb6,sub_self→xb8
set_option linter.unusedVariables false
set_option linter.unusedSimpArgs false
set_option linter.defProp false
set_option maxRecDepth 1000000
set_option maxHeartbeats 16000000
section
namespace Go.Tn
open Go.Proofs
open Go.Sx
open Go.He (zP Kr mem_lst vx)
def puL(m P:Nat)(t:Nat→Int)(i:Nat):List Nat:=if i<P then zP (Int.tmod (t i) ((2^m:Nat):Int)).toNat m else []
def puB(m P:Nat)(t:Nat→Int)(i w:Nat):Bool:=decide (w∈puL m P t i)
theorem jE{hp:List (Nat×Blk)}{id n:Nat}{f:Nat→Int}{r:Nat→Nat→SV}(hb:blk hp id=some (.rows 2 1 n r))(h:∀i,i<n→r i 0=.val (.int .i64 (f i))):Go.Sx.Sub hp (.arr false false n 1 (fun i _=>.val (.int .i64 (f i)))) (.vec id n 1):=by
 simp only[Go.Sx.Sub,hb];refine⟨trivial,trivial,trivial,xa5 _,trivial,fun i j hi hj=>?_⟩;obtain rfl:j=0:=by omega
 rw[h i hi]
theorem qdF{hp:List (Nat×Blk)}{id t:Nat}{X Y:SV}(hb:blk hp id=some (.rows t 1 1 (fun i j=>[Y].getD (i+j) .top)))(h:Go.Sx.Sub hp X Y):Go.Sx.Sub hp (.arr false false 1 1 (fun _ _=>X)) (.vec id 1 1):=by
 simp only[Go.Sx.Sub,hb];refine⟨trivial,trivial,trivial,xa5 _,trivial,fun i j hi hj=>?_⟩;obtain rfl:j=0:=by omega
 obtain rfl:i=0:=by omega
 exact h
structure LT(m:Nat)(u:Nat→Int)(c:Nat→Nat)(k:Nat)(t:Nat→Int)(P w T i nid:Nat)(s:Nat→Int)(aid:Nat)(ar:Nat→Nat→SV)(did:Nat)(dr:Nat→Nat→SV):Prop where
 le:i≤P+T
 n55:55≤nid
 a:52<aid∧aid<nid
 d:52<did∧did<nid
 ad:aid≠did
 s:∀r,r<m→s r=sT c k (puB m P t) i r
 ar:∀j,j<i→ar j 0=.val (.int .i64 (cmF (puB m P t) w j))
 dr:∀j,j<i→dr j 0=.val (.int .i64 (adF c k (puB m P t) w j))
theorem c3(m:Nat)(u:Nat→Int)(a:Int)(ha:0≤a∧a<256)(P:Nat)(t:Nat→Int)(ht:∀i,i<P→0≤t i∧t i<256):qb Tryz.prog 3 [hsv m u,.val (.int .u8 a),.arr false false P 1 (fun i _=>.val (.int .u8 (t i)))] (B true):=by
 refine qc Tryz.func3 rfl Ωb follows Ωb _ _ (by rw[Tryz.ntmps3];simp) (by simp[OldL,Old,QV,hsv,ints]) ?_;obtain⟨A,rfl⟩:∃A:Nat,a=(A:Nat):=⟨a.toNat,Ω⟩;have NB:True:=trivial;have hr0:True:=trivial;have h11:=qpb m u;have h12:=c12;by_cases hall:m≤10∧ckH m u=0
 case neg=>
  rw[decide_eq_false hall]at h11;unfold hsv B at *;(repeat' (first|refine sD ?_ ?_<;>intro _|refine aAi ?_|(simp -dsimp only[↓RP,RQ,xa0,reduceIte,reduceCtorEq,xa1,xa2,xa3,xa4,Go.Tl.TYm,↓RY,TYQ,TYP,NB,QR,QT,QN])))
  all_goals try exact Ωa
  refine qi h11 Ωh ΩK ?_;(repeat' (first|refine sD ?_ ?_<;>intro _|refine aAi ?_|(simp -dsimp only[↓RP,RQ,xa0,reduceIte,reduceCtorEq,xa1,xa2,xa3,xa4,Go.Tl.TYm,↓RY,TYQ,TYP,NB,QR,QT,QN])))
  all_goals try exact Ωa
  refine qi h12 (by simp[SubL]) ΩK ?_;(repeat' (first|refine sD ?_ ?_<;>intro _|refine aAi ?_|(simp -dsimp only[↓RP,RQ,xa0,reduceIte,reduceCtorEq,xa1,xa2,xa3,xa4,Go.Tl.TYm,↓RY,TYQ,TYP,NB,QR,QT,QN])))
  all_goals try exact Ωa
 rw[decide_eq_true hall]at h11;have hk:=hall.2;obtain⟨hm1,hm5,hu,_⟩:=vb hk;by_cases hP:40<P
 ·have d3:=decide_eq_true (Ω:(40:Int)<((P:Nat):Int))
  unfold hsv B at *;(repeat' (first|refine sD ?_ ?_<;>intro _|refine aAi ?_|(simp -dsimp only[↓RP,RQ,xa0,reduceIte,reduceCtorEq,xa1,xa2,xa3,xa4,d3,Go.Tl.TYm,↓RY,TYQ,TYP,NB,QR,QT,QN])))
  all_goals try exact Ωa
  refine qi h11 Ωh ΩK ?_;(repeat' (first|refine sD ?_ ?_<;>intro _|refine aAi ?_|(simp -dsimp only[↓RP,RQ,xa0,reduceIte,reduceCtorEq,xa1,xa2,xa3,xa4,d3,Go.Tl.TYm,↓RY,TYQ,TYP,NB,QR,QT,QN])))
  all_goals try exact Ωa
  refine qi h12 (by simp[SubL]) ΩK ?_;(repeat' (first|refine sD ?_ ?_<;>intro _|refine aAi ?_|(simp -dsimp only[↓RP,RQ,xa0,reduceIte,reduceCtorEq,xa1,xa2,xa3,xa4,Go.Tl.TYm,↓RY,TYQ,TYP,NB,QR,QT,QN])))
  all_goals try exact Ωa
 have d3:=decide_eq_false (Ω:¬(40:Int)<((P:Nat):Int));obtain⟨w,hw,hwm⟩:∃w:Nat,Int.tmod (A:Int) (m:Nat)=(w:Nat)∧w<m:=by
  have g1:=Int.tmod_nonneg (a:=(A:Int)) (m:Nat) Ω;have g2:=Int.tmod_lt_of_pos (A:Int) (Ω:(0:Int)<(m:Nat));exact⟨(Int.tmod (A:Int) (m:Nat)).toNat,Ω,Ω⟩
 obtain⟨T,hT⟩:∃T:Nat,u w=(T:Nat):=⟨(u w).toNat,(by have:=hu w hwm;omega)⟩;have hT1:=hu w hwm;rw[hT]at hT1;rcases c13 m u hk with h13|⟨k,c,S,hS,hk1,h13⟩
 ·unfold hsv B at *
  (repeat' (first|refine sD ?_ ?_<;>intro _|refine aAi ?_|(simp -dsimp only[↓RP,RQ,xa0,reduceIte,reduceCtorEq,xa1,xa2,xa3,xa4,d3,Go.Tl.TYm,↓RY,TYQ,TYP,NB,QR,QT,QN])))
  all_goals try exact Ωa
  refine qi h11 Ωh ΩK ?_;(repeat' (first|refine sD ?_ ?_<;>intro _|refine aAi ?_|(simp -dsimp only[↓RP,RQ,xa0,reduceIte,reduceCtorEq,xa1,xa2,xa3,xa4,d3,hw,Go.Tl.TYm,↓RY,TYQ,TYP,NB,QR,QT,QN])))
  all_goals try exact Ωa
  refine qi h13 Ωh Ωab ?_;(repeat' (first|refine sD ?_ ?_<;>intro _|refine aAi ?_|(simp -dsimp only[↓RP,RQ,xa0,reduceIte,reduceCtorEq,xa1,xa2,xa3,xa4,QT,hw,Go.Tl.TYm,↓RY,TYQ,TYP,NB,QR,QN])))
  all_goals try exact Ωa
  refine qi h12 (by simp[SubL]) ΩK ?_;(repeat' (first|refine sD ?_ ?_<;>intro _|refine aAi ?_|(simp -dsimp only[↓RP,RQ,xa0,reduceIte,reduceCtorEq,xa1,xa2,xa3,xa4,Go.Tl.TYm,↓RY,TYQ,TYP,NB,QR,QT,QN])))
  all_goals try exact Ωa
 have h14:=c14 m u hk k c S hS;by_cases hT6:6<T
 ·have d6:=decide_eq_true (Ω:(6:Int)<((T:Nat):Int))
  unfold hsv B at *;(repeat' (first|refine sD ?_ ?_<;>intro _|refine aAi ?_|(simp -dsimp only[↓RP,RQ,xa0,reduceIte,reduceCtorEq,xa1,xa2,xa3,xa4,d3,Go.Tl.TYm,↓RY,TYQ,TYP,NB,QR,QT,QN])))
  all_goals try exact Ωa
  refine qi h11 Ωh ΩK ?_;(repeat' (first|refine sD ?_ ?_<;>intro _|refine aAi ?_|(simp -dsimp only[↓RP,RQ,xa0,reduceIte,reduceCtorEq,xa1,xa2,xa3,xa4,d3,hw,Go.Tl.TYm,↓RY,TYQ,TYP,NB,QR,QT,QN])))
  all_goals try exact Ωa
  refine qi h13 Ωh Ωab ?_;(repeat' (first|refine sD ?_ ?_<;>intro _|refine aAi ?_|(simp -dsimp only[↓RP,RQ,xa0,reduceIte,reduceCtorEq,xa1,xa2,xa3,xa4,QT,hw,Go.Tl.TYm,↓RY,TYQ,TYP,NB,QR,QN])))
  all_goals try exact Ωa
  refine qi h14 Ωs (by simp[Fresh,I]) ?_;(repeat' (first|refine sD ?_ ?_<;>intro _|refine aAi ?_|(simp -dsimp only[↓RP,RQ,xa0,reduceIte,reduceCtorEq,xa1,xa2,xa3,xa4,QT,hw,hT,d6,Go.Tl.TYm,↓RY,TYQ,TYP,NB,QR,QN])))
  all_goals try exact Ωa
  refine qi h12 (by simp[SubL]) ΩK ?_;(repeat' (first|refine sD ?_ ?_<;>intro _|refine aAi ?_|(simp -dsimp only[↓RP,RQ,xa0,reduceIte,reduceCtorEq,xa1,xa2,xa3,xa4,Go.Tl.TYm,↓RY,TYQ,TYP,NB,QR,QT,QN])))
  all_goals try exact Ωa
 have d6:=decide_eq_false (Ω:¬(6:Int)<((T:Nat):Int));have h15:=c15 m u Ω;unfold hsv B at *;(repeat' (first|refine sD ?_ ?_<;>intro _|refine aAi ?_|(simp -dsimp only[↓RP,RQ,xa0,reduceIte,reduceCtorEq,xa1,xa2,xa3,xa4,d3,Go.Tl.TYm,↓RY,TYQ,TYP,NB,QR,QT,QN])))
 all_goals try exact Ωa
 refine qi h11 Ωh ΩK ?_;(repeat' (first|refine sD ?_ ?_<;>intro _|refine aAi ?_|(simp -dsimp only[↓RP,RQ,xa0,reduceIte,reduceCtorEq,xa1,xa2,xa3,xa4,d3,hw,Go.Tl.TYm,↓RY,TYQ,TYP,NB,QR,QT,QN])))
 all_goals try exact Ωa
 refine qi h13 Ωh Ωab ?_;(repeat' (first|refine sD ?_ ?_<;>intro _|refine aAi ?_|(simp -dsimp only[↓RP,RQ,xa0,reduceIte,reduceCtorEq,xa1,xa2,xa3,xa4,QT,hw,Go.Tl.TYm,↓RY,TYQ,TYP,NB,QR,QN])))
 all_goals try exact Ωa
 refine qi h14 Ωs (by simp[Fresh,I]) ?_;have eT1:((T:Nat):Int) - 1=((T - 1:Nat):Int):=by omega
 (repeat' (first|refine sD ?_ ?_<;>intro _|refine aAi ?_|(simp -dsimp only[↓RP,RQ,xa0,reduceIte,reduceCtorEq,xa1,xa2,xa3,xa4,QT,hw,hT,d6,eT1,Go.Tl.TYm,↓RY,TYQ,TYP,NB,QR,QN])))
 all_goals try exact Ωa
 refine qi h15 Ωh (by simp[Fresh,FreshL]) ?_;(repeat' (first|refine sD ?_ ?_<;>intro _|refine aAi ?_|(simp -dsimp only[↓RP,RQ,xa0,reduceIte,reduceCtorEq,xa1,xa2,xa3,xa4,QT,hw,hT,d6,Go.Tl.TYm,↓RY,TYQ,TYP,NB,QR,QN])))
 all_goals try exact Ωa
 refine qj (fun(z:Nat×Nat×(Nat→Int)×Nat×(Nat→Nat→SV)×Nat×(Nat→Nat→SV))=>LT m u c k t P w T z.1 z.2.1 z.2.2.1 z.2.2.2.1 z.2.2.2.2.1 z.2.2.2.2.2.1 z.2.2.2.2.2.2) (fun z=>⟨[(2,.arr false false P 1 (fun i _=>.val (.int .u8 (t i)))),(3,.ptr 0 0),(7,.val (.int .i64 (w:Nat))),(8,.arr true false k 1 (fun i _=>.val (.int .i64 (c i:Nat)))),(10,.val (.int .i64 (T:Nat))),(11,.vec 39 T 1),(12,.arr true false m 1 (fun i _=>.val (.int .i64 (z.2.2.1 i)))),(13,.vec z.2.2.2.1 z.1 1),(14,.vec z.2.2.2.2.2.1 z.1 1),(15,.val (.int .i64 (z.1:Nat)))],[(z.2.2.2.1,.rows 2 1 z.1 z.2.2.2.2.1),(z.2.2.2.2.2.1,.rows 2 1 z.1 z.2.2.2.2.2.2),(39,.rows 2 1 T (fun a b=>if a=T - 1∧b=0 then SV.val (.int .i64 (T:Nat))else SV.val ([Value.int .i64 0].getD b undef))),(0,.cells 24 [.arr false false m 1 (fun i _=>.val (.int .i64 (u i)))])],z.2.1⟩) (fun z=>P+T - z.1) (0,55,fun _=>0,53,fun _ _=>.top,54,fun _ _=>.top) ⟨xb6 _,Ωf,Ωf,Ωf,Ωf,fun _ _=>rfl,fun j hj=>(by cases hj),fun j hj=>(by cases hj)⟩ (Weak.trans (Kt (t:=2) (k:=1) (d:=13) (fun _ _=>.top) (by rfl)) (Weak.trans (Kt (t:=2) (k:=1) (d:=14) (fun _ _=>.top) (by rfl)) (qf (xa5 _) (by simp[qM,Go.Sx.look,putFr]) ?hA))) fun z hz=>?_
 case hA=>((repeat' (refine SubHp.ent (by simp only[blk,xa2,if_false,if_true,reduceCtorEq]) ?_));exact fun q v hv=>Ω2)
 obtain⟨i,nid,s,aid,ar,did,dr⟩:=z;have hz':LT m u c k t P w T i nid s aid ar did dr:=hz;obtain⟨q1,q2,q3,q4,q5,q6,q7,q8⟩:=hz';clear NB;dsimp only;have NB:=(⟨nmA (Ω:0<nid),nmA (Ω:39<nid),nmA (Ω:aid<nid),nmA (Ω:did<nid),nmE (Ω:aid≠0),nmE (Ω:aid≠39),nmE (Ω:did≠0),nmE (Ω:did≠39),nmE q5⟩:_∧_∧_∧_∧_∧_∧_∧_∧_);by_cases hi:i<P+T
 ·have hlt:=decide_eq_true (Ω:((i:Nat):Int)<(P:Nat)+(T:Nat))
  obtain⟨l,hl⟩:∃l,l=puL m P t i:=⟨_,rfl⟩;have hkp:=hS.k1;have hVm:=hS.win (i % k) (Nat.mod_lt _ hkp);obtain⟨V,hV⟩:∃V,V=c (i % k):=⟨_,rfl⟩;rw[←hV]at hVm;have hvk:Int.tmod (i:Nat) (k:Nat)=((i % k:Nat):Int):=rfl;have hmk:=Nat.mod_lt i hkp;have hVc:((c (i % k):Nat):Int)=(V:Nat):=by rw[hV]
  have hpl:∀r,puB m P t i r=decide (r∈l):=fun r=>by rw[hl];rfl
  have hlb:l.length≤m∧(∀j,j<l.length→nxP (fun i=>(l.getD i 0:Nat)) j≤((l.getD j 0:Nat):Int)∧((l.getD j 0:Nat):Int)<m):=by
   rw[hl];unfold puL;split
   ·exact⟨JW _ m,qky _ m⟩
   ·exact⟨xb6 _,fun j hj=>by cases hj⟩
  have hs:∀r,r<m→0≤s r∧s r≤u r:=fun r hr=>by
   rw[q6 r hr];have h1:=qkw (c:=c) (k:=k) (p:=puB m P t) (w:=r) i;have h2:=qda (p:=puB m P t) hS hr i;have h3:=hS.fit i r hr;omega
  have ho:okP (fun i=>yF l.length (fun i=>(l.getD i 0:Nat)) (i:Nat)) (wj m s) u m:=fun r hr _=>by
   rw[Q1 hr,q6 r hr];have h2:=qda (p:=puB m P t) hS hr i;have h3:=hS.fit i r hr;omega
  have h17:qb Tryz.prog 17 [hsv m u,ints m s,ints l.length (fun i=>(l.getD i 0:Nat)),I V] (.tup [.arr true false m 1 (fun i _=>.val (.int .i64 (nxS m l V s i))),I (Jn m l V s),I 0]):=qoI m l.length V u s (fun i=>(l.getD i 0:Nat)) hk hs Ω hlb.2 hVm ho;have hs':=qmB (v:=V) hs ho;have hgt:=qkx hVm hs ho;have huV:=hu V hVm;have h18:=c18 m u (nxS m l V s) hk hs';have h19:=c19 l.length (fun i=>(l.getD i 0:Nat)) (w:Nat) Ω;have hmw:=Q9 l w;unfold yF at hmw;rw[hmw]at h19;have hst:∀r,r<m→nxS m l V s r=sT c k (puB m P t) (i+1) r:=fun r hr=>by
   rw[qkv,hpl,←hV];unfold nxS upN;by_cases e:r=V
   ·rw[if_pos e,if_pos e.symm]
   ·rw[if_neg e,if_neg (fun h=>e h.symm),Kv hr,q6 r hr]
    by_cases h:r∈l
    ·rw[if_pos h,decide_eq_true h,if_pos rfl]
    ·rw[if_neg h,decide_eq_false h];rfl
  have hone:cmF (puB m P t) w i=if w∈l then 1 else 0:=by
   unfold cmF;rw[hpl];by_cases h:w∈l
   ·rw[if_pos h,decide_eq_true h,if_pos rfl]
   ·rw[if_neg h,decide_eq_false h];rfl
  have hadd:adF c k (puB m P t) w i=if V=w then Jn m l V s else 0:=by
   unfold adF;rw[←hV];by_cases h:V=w
   ·rw[if_pos h,if_pos h,hone,h]
    unfold Jn;rw[Kv hwm,q6 w hwm]
   ·rw[if_neg h,if_neg h]
  unfold hsv at h17 h18;refine if hiP:i<P then ?ca else ?cb
  case ca=>
   have hlt1:=decide_eq_true (Ω:((i:Nat):Int)<(P:Nat));have b0:=ht i hiP;have hb64:IntKind.i64.bits=64:=rfl;obtain⟨M,hM⟩:∃M:Nat,M=2^m:=⟨_,rfl⟩;have hMb:2≤M∧M≤32:=by
    rcases(Ω:m=1∨m=2∨m=3∨m=4∨m=5)with e|e|e|e|e<;>(subst e;subst hM;decide)
   have hpw:(1:Int)*2^m=(M:Nat):=by rw[hM,Int.one_mul];norm_cast
   obtain⟨x,hx,hxM⟩:∃x:Nat,Int.tmod (t i) (M:Nat)=(x:Nat)∧x<M:=by
    have g1:=Int.tmod_nonneg (M:Nat) b0.1;have g2:=Int.tmod_lt_of_pos (t i) (Ω:(0:Int)<(M:Nat));exact⟨(Int.tmod (t i) (M:Nat)).toNat,Ω,Ω⟩
   have h16:=c16 x m Ω (by rw[←hM];exact hxM);have hlx:zP x m=l:=by
    rw[hl];unfold puL;rw[if_pos hiP,←hM,hx];rfl
   rw[hlx]at h16;(repeat' (first|refine sD ?_ ?_<;>intro _|refine aAi ?_|(simp -dsimp only[↓RP,RQ,xa0,reduceIte,reduceCtorEq,xa1,xa2,xa3,xa4,hlt,hlt1,hb64,hpw,hx,Go.Tl.TYm,↓RY,TYQ,TYP,NB,QR,QT,QN])))
   all_goals try exact Ωa
   refine qi h16 (by(simp -dsimp only[↓RP,RQ,xa0,reduceIte,reduceCtorEq,xa1,xa2,xa3,xa4,QV,I]);all_goals (try simp[QV,Go.Sx.Sub,Go.Sx.SubL])) (by simp[Fresh,FreshL,nsv]) ?_;(repeat' (first|refine sD ?_ ?_<;>intro _|refine aAi ?_|(simp -dsimp only[↓RP,RQ,xa0,reduceIte,reduceCtorEq,xa1,xa2,xa3,xa4,nsv,hvk,hVc,QT,Go.Tl.TYm,↓RY,TYQ,TYP,NB,QR,QN])))
   all_goals try exact Ωa
   refine qi h17 Ωe Ωab ?_;(repeat' (first|refine sD ?_ ?_<;>intro _|refine aAi ?_|(simp -dsimp only[↓RP,RQ,xa0,reduceIte,reduceCtorEq,xa1,xa2,xa3,xa4,QT,Go.Tl.TYm,↓RY,TYQ,TYP,NB,QR,QN])))
   all_goals try exact Ωa
   refine qi h18 Ωs (by simp[Fresh,I]) ?_;by_cases hwl:w∈l
   ·by_cases hVw:V=w
    ·rw[decide_eq_true hwl]at h19
     rw[if_pos hwl]at hone;rw[if_pos hVw]at hadd;have dV:=decide_eq_true (Ω:((V:Nat):Int)=(w:Nat));(repeat' (first|refine sD ?_ ?_<;>intro _|refine aAi ?_|(simp -dsimp only[↓RP,RQ,xa0,reduceIte,reduceCtorEq,xa1,xa2,xa3,xa4,QT,Go.Tl.TYm,↓RY,TYQ,TYP,NB,QR,QN])))
     all_goals try exact Ωa
     refine qi h19 Ωe Ω0 ?_;(repeat' (first|refine sD ?_ ?_<;>intro _|refine aAi ?_|(simp -dsimp only[↓RP,RQ,xa0,reduceIte,reduceCtorEq,xa1,xa2,xa3,xa4,QT,dV,Go.Tl.TYm,↓RY,TYQ,TYP,NB,QR,QN])))
     all_goals try exact Ωa
     refine⟨(i+1,_,nxS m l V s,nid+58,fun a b=>if a<i then ar a b else [SV.val (.int .i64 1)].getD (a - i+b) .top,nid+66,fun a b=>if a<i then dr a b else [SV.val (.int .i64 (Jn m l V s))].getD (a - i+b) .top),⟨Ω,?n,?a,?d,?ad,hst,?ar,?dr⟩,Ωf,qf (xa5 _) Ωg ?hs⟩
     case n=>dsimp only;omega
     case a=>dsimp only;omega
     case d=>dsimp only;omega
     case ad=>dsimp only;omega
     case ar=>
      intro j hj;dsimp only at hj ⊢;by_cases e:j<i
      ·rw[if_pos e];exact q7 j e
      ·obtain rfl:j=i:=by omega
       rw[if_neg e,xb8,hone];rfl
     case dr=>
      intro j hj;dsimp only at hj ⊢;by_cases e:j<i
      ·rw[if_pos e];exact q8 j e
      ·obtain rfl:j=i:=by omega
       rw[if_neg e,xb8,hadd];rfl
     case hs=>((repeat' (refine SubHp.ent Ωq ?_));exact fun q v hv=>Ω2)
    ·rw[decide_eq_true hwl]at h19
     rw[if_pos hwl]at hone;rw[if_neg hVw]at hadd;have dV:=decide_eq_false (Ω:¬((V:Nat):Int)=(w:Nat));(repeat' (first|refine sD ?_ ?_<;>intro _|refine aAi ?_|(simp -dsimp only[↓RP,RQ,xa0,reduceIte,reduceCtorEq,xa1,xa2,xa3,xa4,QT,Go.Tl.TYm,↓RY,TYQ,TYP,NB,QR,QN])))
     all_goals try exact Ωa
     refine qi h19 Ωe Ω0 ?_;(repeat' (first|refine sD ?_ ?_<;>intro _|refine aAi ?_|(simp -dsimp only[↓RP,RQ,xa0,reduceIte,reduceCtorEq,xa1,xa2,xa3,xa4,QT,dV,Go.Tl.TYm,↓RY,TYQ,TYP,NB,QR,QN])))
     all_goals try exact Ωa
     refine⟨(i+1,_,nxS m l V s,nid+58,fun a b=>if a<i then ar a b else [SV.val (.int .i64 1)].getD (a - i+b) .top,nid+65,fun a b=>if a<i then dr a b else [SV.val (.int .i64 0)].getD (a - i+b) .top),⟨Ω,?n,?a,?d,?ad,hst,?ar,?dr⟩,Ωf,qf (xa5 _) Ωg ?hs⟩
     case n=>dsimp only;omega
     case a=>dsimp only;omega
     case d=>dsimp only;omega
     case ad=>dsimp only;omega
     case ar=>
      intro j hj;dsimp only at hj ⊢;by_cases e:j<i
      ·rw[if_pos e];exact q7 j e
      ·obtain rfl:j=i:=by omega
       rw[if_neg e,xb8,hone];rfl
     case dr=>
      intro j hj;dsimp only at hj ⊢;by_cases e:j<i
      ·rw[if_pos e];exact q8 j e
      ·obtain rfl:j=i:=by omega
       rw[if_neg e,xb8,hadd];rfl
     case hs=>((repeat' (refine SubHp.ent Ωq ?_));exact fun q v hv=>Ω2)
   ·by_cases hVw:V=w
    ·rw[decide_eq_false hwl]at h19
     rw[if_neg hwl]at hone;rw[if_pos hVw]at hadd;have dV:=decide_eq_true (Ω:((V:Nat):Int)=(w:Nat));(repeat' (first|refine sD ?_ ?_<;>intro _|refine aAi ?_|(simp -dsimp only[↓RP,RQ,xa0,reduceIte,reduceCtorEq,xa1,xa2,xa3,xa4,QT,Go.Tl.TYm,↓RY,TYQ,TYP,NB,QR,QN])))
     all_goals try exact Ωa
     refine qi h19 Ωe Ω0 ?_;(repeat' (first|refine sD ?_ ?_<;>intro _|refine aAi ?_|(simp -dsimp only[↓RP,RQ,xa0,reduceIte,reduceCtorEq,xa1,xa2,xa3,xa4,QT,dV,Go.Tl.TYm,↓RY,TYQ,TYP,NB,QR,QN])))
     all_goals try exact Ωa
     refine⟨(i+1,_,nxS m l V s,nid+57,fun a b=>if a<i then ar a b else [SV.val (.int .i64 0)].getD (a - i+b) .top,nid+65,fun a b=>if a<i then dr a b else [SV.val (.int .i64 (Jn m l V s))].getD (a - i+b) .top),⟨Ω,?n,?a,?d,?ad,hst,?ar,?dr⟩,Ωf,qf (xa5 _) Ωg ?hs⟩
     case n=>dsimp only;omega
     case a=>dsimp only;omega
     case d=>dsimp only;omega
     case ad=>dsimp only;omega
     case ar=>
      intro j hj;dsimp only at hj ⊢;by_cases e:j<i
      ·rw[if_pos e];exact q7 j e
      ·obtain rfl:j=i:=by omega
       rw[if_neg e,xb8,hone];rfl
     case dr=>
      intro j hj;dsimp only at hj ⊢;by_cases e:j<i
      ·rw[if_pos e];exact q8 j e
      ·obtain rfl:j=i:=by omega
       rw[if_neg e,xb8,hadd];rfl
     case hs=>((repeat' (refine SubHp.ent Ωq ?_));exact fun q v hv=>Ω2)
    ·rw[decide_eq_false hwl]at h19
     rw[if_neg hwl]at hone;rw[if_neg hVw]at hadd;have dV:=decide_eq_false (Ω:¬((V:Nat):Int)=(w:Nat));(repeat' (first|refine sD ?_ ?_<;>intro _|refine aAi ?_|(simp -dsimp only[↓RP,RQ,xa0,reduceIte,reduceCtorEq,xa1,xa2,xa3,xa4,QT,Go.Tl.TYm,↓RY,TYQ,TYP,NB,QR,QN])))
     all_goals try exact Ωa
     refine qi h19 Ωe Ω0 ?_;(repeat' (first|refine sD ?_ ?_<;>intro _|refine aAi ?_|(simp -dsimp only[↓RP,RQ,xa0,reduceIte,reduceCtorEq,xa1,xa2,xa3,xa4,QT,dV,Go.Tl.TYm,↓RY,TYQ,TYP,NB,QR,QN])))
     all_goals try exact Ωa
     refine⟨(i+1,_,nxS m l V s,nid+57,fun a b=>if a<i then ar a b else [SV.val (.int .i64 0)].getD (a - i+b) .top,nid+64,fun a b=>if a<i then dr a b else [SV.val (.int .i64 0)].getD (a - i+b) .top),⟨Ω,?n,?a,?d,?ad,hst,?ar,?dr⟩,Ωf,qf (xa5 _) Ωg ?hs⟩
     case n=>dsimp only;omega
     case a=>dsimp only;omega
     case d=>dsimp only;omega
     case ad=>dsimp only;omega
     case ar=>
      intro j hj;dsimp only at hj ⊢;by_cases e:j<i
      ·rw[if_pos e];exact q7 j e
      ·obtain rfl:j=i:=by omega
       rw[if_neg e,xb8,hone];rfl
     case dr=>
      intro j hj;dsimp only at hj ⊢;by_cases e:j<i
      ·rw[if_pos e];exact q8 j e
      ·obtain rfl:j=i:=by omega
       rw[if_neg e,xb8,hadd];rfl
     case hs=>((repeat' (refine SubHp.ent Ωq ?_));exact fun q v hv=>Ω2)
  case cb=>
   have hlt1:=decide_eq_false (Ω:¬((i:Nat):Int)<(P:Nat));have hl0:l=[]:=by rw[hl];unfold puL;rw[if_neg hiP]
   have hl00:l.length=0:=by rw[hl0];rfl
   (repeat' (first|refine sD ?_ ?_<;>intro _|refine aAi ?_|(simp -dsimp only[↓RP,RQ,xa0,reduceIte,reduceCtorEq,xa1,xa2,xa3,xa4,hlt,hlt1,hvk,hVc,QT,Go.Tl.TYm,↓RY,TYQ,TYP,NB,QR,QN])))
   all_goals try exact Ωa
   refine qi h17 Ωe Ωab ?_;(repeat' (first|refine sD ?_ ?_<;>intro _|refine aAi ?_|(simp -dsimp only[↓RP,RQ,xa0,reduceIte,reduceCtorEq,xa1,xa2,xa3,xa4,QT,Go.Tl.TYm,↓RY,TYQ,TYP,NB,QR,QN])))
   all_goals try exact Ωa
   refine qi h18 Ωs (by simp[Fresh,I]) ?_;by_cases hwl:w∈l
   ·by_cases hVw:V=w
    ·rw[decide_eq_true hwl]at h19
     rw[if_pos hwl]at hone;rw[if_pos hVw]at hadd;have dV:=decide_eq_true (Ω:((V:Nat):Int)=(w:Nat));(repeat' (first|refine sD ?_ ?_<;>intro _|refine aAi ?_|(simp -dsimp only[↓RP,RQ,xa0,reduceIte,reduceCtorEq,xa1,xa2,xa3,xa4,QT,Go.Tl.TYm,↓RY,TYQ,TYP,NB,QR,QN])))
     all_goals try exact Ωa
     refine qi h19 Ωe Ω0 ?_;(repeat' (first|refine sD ?_ ?_<;>intro _|refine aAi ?_|(simp -dsimp only[↓RP,RQ,xa0,reduceIte,reduceCtorEq,xa1,xa2,xa3,xa4,QT,dV,Go.Tl.TYm,↓RY,TYQ,TYP,NB,QR,QN])))
     all_goals try exact Ωa
     refine⟨(i+1,_,nxS m l V s,nid+47,fun a b=>if a<i then ar a b else [SV.val (.int .i64 1)].getD (a - i+b) .top,nid+55,fun a b=>if a<i then dr a b else [SV.val (.int .i64 (Jn m l V s))].getD (a - i+b) .top),⟨Ω,?n,?a,?d,?ad,hst,?ar,?dr⟩,Ωf,qf (xa5 _) Ωg ?hs⟩
     case n=>dsimp only;omega
     case a=>dsimp only;omega
     case d=>dsimp only;omega
     case ad=>dsimp only;omega
     case ar=>
      intro j hj;dsimp only at hj ⊢;by_cases e:j<i
      ·rw[if_pos e];exact q7 j e
      ·obtain rfl:j=i:=by omega
       rw[if_neg e,xb8,hone];rfl
     case dr=>
      intro j hj;dsimp only at hj ⊢;by_cases e:j<i
      ·rw[if_pos e];exact q8 j e
      ·obtain rfl:j=i:=by omega
       rw[if_neg e,xb8,hadd];rfl
     case hs=>((repeat' (refine SubHp.ent Ωq ?_));exact fun q v hv=>Ω2)
    ·rw[decide_eq_true hwl]at h19
     rw[if_pos hwl]at hone;rw[if_neg hVw]at hadd;have dV:=decide_eq_false (Ω:¬((V:Nat):Int)=(w:Nat));(repeat' (first|refine sD ?_ ?_<;>intro _|refine aAi ?_|(simp -dsimp only[↓RP,RQ,xa0,reduceIte,reduceCtorEq,xa1,xa2,xa3,xa4,QT,Go.Tl.TYm,↓RY,TYQ,TYP,NB,QR,QN])))
     all_goals try exact Ωa
     refine qi h19 Ωe Ω0 ?_;(repeat' (first|refine sD ?_ ?_<;>intro _|refine aAi ?_|(simp -dsimp only[↓RP,RQ,xa0,reduceIte,reduceCtorEq,xa1,xa2,xa3,xa4,QT,dV,Go.Tl.TYm,↓RY,TYQ,TYP,NB,QR,QN])))
     all_goals try exact Ωa
     refine⟨(i+1,_,nxS m l V s,nid+47,fun a b=>if a<i then ar a b else [SV.val (.int .i64 1)].getD (a - i+b) .top,nid+54,fun a b=>if a<i then dr a b else [SV.val (.int .i64 0)].getD (a - i+b) .top),⟨Ω,?n,?a,?d,?ad,hst,?ar,?dr⟩,Ωf,qf (xa5 _) Ωg ?hs⟩
     case n=>dsimp only;omega
     case a=>dsimp only;omega
     case d=>dsimp only;omega
     case ad=>dsimp only;omega
     case ar=>
      intro j hj;dsimp only at hj ⊢;by_cases e:j<i
      ·rw[if_pos e];exact q7 j e
      ·obtain rfl:j=i:=by omega
       rw[if_neg e,xb8,hone];rfl
     case dr=>
      intro j hj;dsimp only at hj ⊢;by_cases e:j<i
      ·rw[if_pos e];exact q8 j e
      ·obtain rfl:j=i:=by omega
       rw[if_neg e,xb8,hadd];rfl
     case hs=>((repeat' (refine SubHp.ent Ωq ?_));exact fun q v hv=>Ω2)
   ·by_cases hVw:V=w
    ·rw[decide_eq_false hwl]at h19
     rw[if_neg hwl]at hone;rw[if_pos hVw]at hadd;have dV:=decide_eq_true (Ω:((V:Nat):Int)=(w:Nat));(repeat' (first|refine sD ?_ ?_<;>intro _|refine aAi ?_|(simp -dsimp only[↓RP,RQ,xa0,reduceIte,reduceCtorEq,xa1,xa2,xa3,xa4,QT,Go.Tl.TYm,↓RY,TYQ,TYP,NB,QR,QN])))
     all_goals try exact Ωa
     refine qi h19 Ωe Ω0 ?_;(repeat' (first|refine sD ?_ ?_<;>intro _|refine aAi ?_|(simp -dsimp only[↓RP,RQ,xa0,reduceIte,reduceCtorEq,xa1,xa2,xa3,xa4,QT,dV,Go.Tl.TYm,↓RY,TYQ,TYP,NB,QR,QN])))
     all_goals try exact Ωa
     refine⟨(i+1,_,nxS m l V s,nid+46,fun a b=>if a<i then ar a b else [SV.val (.int .i64 0)].getD (a - i+b) .top,nid+54,fun a b=>if a<i then dr a b else [SV.val (.int .i64 (Jn m l V s))].getD (a - i+b) .top),⟨Ω,?n,?a,?d,?ad,hst,?ar,?dr⟩,Ωf,qf (xa5 _) Ωg ?hs⟩
     case n=>dsimp only;omega
     case a=>dsimp only;omega
     case d=>dsimp only;omega
     case ad=>dsimp only;omega
     case ar=>
      intro j hj;dsimp only at hj ⊢;by_cases e:j<i
      ·rw[if_pos e];exact q7 j e
      ·obtain rfl:j=i:=by omega
       rw[if_neg e,xb8,hone];rfl
     case dr=>
      intro j hj;dsimp only at hj ⊢;by_cases e:j<i
      ·rw[if_pos e];exact q8 j e
      ·obtain rfl:j=i:=by omega
       rw[if_neg e,xb8,hadd];rfl
     case hs=>((repeat' (refine SubHp.ent Ωq ?_));exact fun q v hv=>Ω2)
    ·rw[decide_eq_false hwl]at h19
     rw[if_neg hwl]at hone;rw[if_neg hVw]at hadd;have dV:=decide_eq_false (Ω:¬((V:Nat):Int)=(w:Nat));(repeat' (first|refine sD ?_ ?_<;>intro _|refine aAi ?_|(simp -dsimp only[↓RP,RQ,xa0,reduceIte,reduceCtorEq,xa1,xa2,xa3,xa4,QT,Go.Tl.TYm,↓RY,TYQ,TYP,NB,QR,QN])))
     all_goals try exact Ωa
     refine qi h19 Ωe Ω0 ?_;(repeat' (first|refine sD ?_ ?_<;>intro _|refine aAi ?_|(simp -dsimp only[↓RP,RQ,xa0,reduceIte,reduceCtorEq,xa1,xa2,xa3,xa4,QT,dV,Go.Tl.TYm,↓RY,TYQ,TYP,NB,QR,QN])))
     all_goals try exact Ωa
     refine⟨(i+1,_,nxS m l V s,nid+46,fun a b=>if a<i then ar a b else [SV.val (.int .i64 0)].getD (a - i+b) .top,nid+53,fun a b=>if a<i then dr a b else [SV.val (.int .i64 0)].getD (a - i+b) .top),⟨Ω,?n,?a,?d,?ad,hst,?ar,?dr⟩,Ωf,qf (xa5 _) Ωg ?hs⟩
     case n=>dsimp only;omega
     case a=>dsimp only;omega
     case d=>dsimp only;omega
     case ad=>dsimp only;omega
     case ar=>
      intro j hj;dsimp only at hj ⊢;by_cases e:j<i
      ·rw[if_pos e];exact q7 j e
      ·obtain rfl:j=i:=by omega
       rw[if_neg e,xb8,hone];rfl
     case dr=>
      intro j hj;dsimp only at hj ⊢;by_cases e:j<i
      ·rw[if_pos e];exact q8 j e
      ·obtain rfl:j=i:=by omega
       rw[if_neg e,xb8,hadd];rfl
     case hs=>((repeat' (refine SubHp.ent Ωq ?_));exact fun q v hv=>Ω2)
 ·obtain rfl:i=P+T:=by omega
  have hlt:=decide_eq_false (show ¬(((P+T:Nat):Nat):Int)<(P:Nat)+(T:Nat) by omega);obtain⟨lt1,x,y,lt2,lt3,lt4⟩:=qoV (p:=puB m P t) hS hwm hT Ω Ω (P:=P) Ω (fun i hi=>by unfold puB puL;rw[if_neg Ω];rfl);have h20:=Go.Tl.c20 (cvT T) (caT (puB m P t) w (P+T)) (daT c k (puB m P t) w (P+T)) (by show T≤1000000;omega) Ωag Ωag;rw[lt1]at h20;have h21:=Go.Tl.c21 (caT (puB m P t) w (P+T)) (daT c k (puB m P t) w (P+T)) Ωag Ωag;rw[lt2]at h21;have h22:=qpr T Ω Ω;have h23:=qps T Ω Ω;unfold Go.Tl.Curve.sv Go.Tl.ints caT daT cvT Go.Tl.I at h20;unfold Go.Tl.Curve.sv Go.Tl.ints caT daT Go.Tl.tup3 Go.Tl.I at h21;dsimp only at h20 h21;(repeat' (first|refine sD ?_ ?_<;>intro _|refine aAi ?_|(simp -dsimp only[↓RP,RQ,xa0,reduceIte,reduceCtorEq,xa1,xa2,xa3,xa4,hlt,Go.Tl.TYm,↓RY,TYQ,TYP,NB,QR,QT,QN])))
  all_goals try exact Ωa
  refine qi h20 (by simp only[SubL,and_true];exact⟨(jE (r:=(fun a b=>if a=T - 1∧b=0 then SV.val (.int .i64 (T:Nat))else SV.val ([Value.int .i64 0].getD b undef))) Ωk (fun i _=>by by_cases e:i=T - 1<;>simp[e])),jE (r:=ar) Ωk q7,jE (r:=dr) Ωk q8⟩) ΩK ?_;(repeat' (first|refine sD ?_ ?_<;>intro _|refine aAi ?_|(simp -dsimp only[↓RP,RQ,xa0,reduceIte,reduceCtorEq,xa1,xa2,xa3,xa4,Go.Tl.TYm,↓RY,TYQ,TYP,NB,QR,QT,QN])))
  all_goals try exact Ωa
  refine qi h21 (by simp only[SubL,and_true];exact⟨jE (r:=ar) Ωk q7,jE (r:=dr) Ωk q8⟩) (by simp[Fresh,FreshL]) ?_;(repeat' (first|refine sD ?_ ?_<;>intro _|refine aAi ?_|(simp -dsimp only[↓RP,RQ,xa0,reduceIte,reduceCtorEq,xa1,xa2,xa3,xa4,Go.Tl.TYm,↓RY,TYQ,TYP,NB,QR,QT,QN])))
  all_goals try exact Ωa
  refine qi h22 (by simp only[SubL,and_true];exact⟨jE (f:=qbN [1]) (r:=fun i j=>[SV.val (.int .i64 1)].getD (i+j) .top) Ωk (fun i hi=>by(obtain rfl:i=0:=by omega);rfl),qdF (t:=32) (Y:=.vec 39 T 1) Ωk (jE (r:=(fun a b=>if a=T - 1∧b=0 then SV.val (.int .i64 (T:Nat))else SV.val ([Value.int .i64 0].getD b undef))) Ωk (fun i _=>by by_cases e:i=T - 1<;>simp[e]))⟩) (by simp[Fresh,FreshL]) ?_;(repeat' (first|refine sD ?_ ?_<;>intro _|refine aAi ?_|(simp -dsimp only[↓RP,RQ,xa0,reduceIte,reduceCtorEq,xa1,xa2,xa3,xa4,Go.Tl.TYm,↓RY,TYQ,TYP,NB,QR,QT,QN])))
  all_goals try exact Ωa
  refine qi h23 (by simp only[SubL,and_true];exact⟨jE (f:=qbN [1]) (r:=fun i j=>[SV.val (.int .i64 1)].getD (i+j) .top) Ωk (fun i hi=>by(obtain rfl:i=0:=by omega);rfl),qdF (t:=32) (Y:=.vec 39 T 1) Ωk (jE (r:=(fun a b=>if a=T - 1∧b=0 then SV.val (.int .i64 (T:Nat))else SV.val ([Value.int .i64 0].getD b undef))) Ωk (fun i _=>by by_cases e:i=T - 1<;>simp[e]))⟩) (by simp[Fresh,FreshL]) ?_;have dx:=decide_eq_true lt3;have dy:=decide_eq_true lt4;(repeat' (first|refine sD ?_ ?_<;>intro _|refine aAi ?_|(simp -dsimp only[↓RP,RQ,xa0,reduceIte,reduceCtorEq,xa1,xa2,xa3,xa4,dx,dy,Go.Tl.TYm,↓RY,TYQ,TYP,NB,QR,QT,QN])))
  all_goals try exact Ωa
  refine qi h12 (by simp[SubL]) ΩK ?_;(repeat' (first|refine sD ?_ ?_<;>intro _|refine aAi ?_|(simp -dsimp only[↓RP,RQ,xa0,reduceIte,reduceCtorEq,xa1,xa2,xa3,xa4,Go.Tl.TYm,↓RY,TYQ,TYP,NB,QR,QT,QN])))
  all_goals try exact Ωa
end Go.Tn
end
