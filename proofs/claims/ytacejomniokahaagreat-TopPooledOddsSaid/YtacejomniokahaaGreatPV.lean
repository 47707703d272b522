/- A part of the proof. -/
import Derived.Test.YtacejomniokahaaGreatPM
import Derived.Test.YtacejomniokahaaGreatPU
open Nat renaming reduceMul→xa0,reduceAdd→xa1,reduceEqDiff→xa2,reduceLT→xa3,reduceLeDiff→xa4
open List renaming length_singleton→xd1
set_option linter.unusedVariables false
set_option linter.unusedSimpArgs false
set_option linter.defProp false
set_option maxRecDepth 1000000
set_option maxHeartbeats 16000000
section
namespace Go.Tn
open Go.Proofs
open Go.Sx
theorem gK:True∧qn Tryz.prog 75=some ⟨false,1,some [.slice none 0 0],.slice 80 3⟩∧qn Tryz.prog 80=some ⟨true,3,some [.int .i64 0,.int .i64 0,.int .i64 0],.struct [(0,1,some false),(1,1,some false),(2,1,some false)]⟩∧qB Tryz.prog 80=some [(0,1),(1,1),(2,1)]∧z9 Tryz.prog 80=some [.i .i64,.i .i64,.i .i64]:=⟨trivial,Ωc,Ωc,Ωc,Ωc⟩
theorem qiE{K:Nat}{a b c:Nat→Value}{v:Value}:Fresh (.tup [.arr true false K 3 (fun i j=>[SV.val (a i),SV.val (b i),SV.val (c i)].getD j .top),.val v]):=by
 simp only[Fresh,FreshL,and_true];refine⟨trivial,fun i j hi hj=>?_⟩;rcases(Ω:j=0∨j=1∨j=2)with rfl|rfl|rfl<;>trivial
theorem qiF{hp:List (Nat×Blk)}{n nb:Nat}{f q:Nat→Int}{d:Int}:Go.Sx.Sub hp (plV n nb f q d).sv (.agg [.arr true false n 2 (fun i j=>.val (.int .i64 (100*cF f q nb (i:Nat)))),.val (.int .i64 d)]):=by
 simp only[Go.Tv.Pl.sv,plV,Go.Tv.rngs,Go.Tv.I,Go.Sx.Sub,Go.Sx.SubL,and_true,true_and];exact⟨fun h=>(by cases h),fun h=>h,fun i j hi hj=>by split<;>rfl⟩
theorem JW{n r:Nat}:Fresh (.arr true false 2 1 (fun i _=>if i=0 then .arr true false 1 1 (fun _ _=>.val (.int .i64 r))else .arr true false (n - 1) 1 (fun j _=>.val (.int .i64 (if j<r then j else j+1:Nat))))):=by
 simp only[Fresh];refine⟨trivial,fun i j hi hj=>?_⟩;split<;>exact⟨rfl,fun _ _ _ _=>trivial⟩
theorem c5(k n:Int)(nb:Nat)(f g q:Nat→Int)(ns:Nat)(s:Nat→Int)(fav:Bool)(c d st:Int)(hd:InK .i64 d)(a:Int)(ha:0≤a∧a<256):qf Tryz.prog 5 [gbk k n nb f g q ns s fav c d st,.val (.int .u8 a)] (B true):=by
 refine qg Tryz.func5 rfl Ωc follows Ωc _ _ (by rw[Tryz.ntmps5];simp) (by simp only[OldL,Q4,and_true,true_and];simp[Old]) ?_;have NB:True:=trivial;have h31:=c31;obtain⟨D,hD,hD1⟩:=qmz d hd;by_cases hnb:110<nb
 ·have h30:=qpB k n nb f g q ns s fav c d st hnb
  unfold gbk B;(repeat' (first|refine sD ?_ ?_<;>intro _|refine aAh ?_|(simp -dsimp only[↓RP,RQ,xa0,reduceIte,reduceCtorEq,xa1,xa2,xa3,xa4,TYP,gK,Go.Tv.TYv,NB,QR,QT,QN])))
  all_goals try exact Ωb
  refine zt h30 Ωw ?_;(repeat' (first|refine sD ?_ ?_<;>intro _|refine aAh ?_|(simp -dsimp only[↓RP,RQ,xa0,reduceIte,reduceCtorEq,xa1,xa2,xa3,xa4,gbk,QT,TYP,gK,Go.Tv.TYv,NB,QR,QN])))
  all_goals try exact Ωb
  refine qm h31 Ω0 (by simp[Fresh,B]) ?_;(repeat' (first|refine sD ?_ ?_<;>intro _|refine aAh ?_|(simp -dsimp only[↓RP,RQ,xa0,reduceIte,reduceCtorEq,xa1,xa2,xa3,xa4,QT,TYP,gK,Go.Tv.TYv,NB,QR,QN])))
  all_goals try exact Ωb
 by_cases hk:ckB n nb f g q 0 (D*10) 1=0
 case neg=>
  have h30:=qpC k n nb f g q ns s fav c d st D Ω hD hD1 hk;unfold gbk B;(repeat' (first|refine sD ?_ ?_<;>intro _|refine aAh ?_|(simp -dsimp only[↓RP,RQ,xa0,reduceIte,reduceCtorEq,xa1,xa2,xa3,xa4,TYP,gK,Go.Tv.TYv,NB,QR,QT,QN])))
  all_goals try exact Ωb
  refine zt h30 Ωw ?_;(repeat' (first|refine sD ?_ ?_<;>intro _|refine aAh ?_|(simp -dsimp only[↓RP,RQ,xa0,reduceIte,reduceCtorEq,xa1,xa2,xa3,xa4,bkS,QT,TYP,gK,Go.Tv.TYv,NB,QR,QN])))
  all_goals try exact Ωb
  refine qm h31 Ω0 (by simp[Fresh,B]) ?_;(repeat' (first|refine sD ?_ ?_<;>intro _|refine aAh ?_|(simp -dsimp only[↓RP,RQ,xa0,reduceIte,reduceCtorEq,xa1,xa2,xa3,xa4,QT,TYP,gK,Go.Tv.TYv,NB,QR,QN])))
  all_goals try exact Ωb
 obtain⟨⟨⟨k1,k2⟩,k3,k4,k5⟩,k6,k7⟩:=ckB_ok.1 hk;obtain⟨m,rfl⟩:∃m:Nat,n=(m:Nat):=⟨n.toNat,Ω⟩;by_cases hu:∀r,r<m→cF f q nb (r:Nat)≤10000
 case neg=>
  have h30:=qnS k m nb f g q ns s fav c d st D Ω hD hD1 hk false ⟨fun h=>(by cases h),fun h=>absurd h hu⟩;unfold gbk B;(repeat' (first|refine sD ?_ ?_<;>intro _|refine aAh ?_|(simp -dsimp only[↓RP,RQ,xa0,reduceIte,reduceCtorEq,xa1,xa2,xa3,xa4,TYP,gK,Go.Tv.TYv,NB,QR,QT,QN])))
  all_goals try exact Ωb
  refine zt h30 Ωw ?_;(repeat' (first|refine sD ?_ ?_<;>intro _|refine aAh ?_|(simp -dsimp only[↓RP,RQ,xa0,reduceIte,reduceCtorEq,xa1,xa2,xa3,xa4,bkS,QT,TYP,gK,Go.Tv.TYv,NB,QR,QN])))
  all_goals try exact Ωb
  refine qm h31 Ω0 (by simp[Fresh,B]) ?_;(repeat' (first|refine sD ?_ ?_<;>intro _|refine aAh ?_|(simp -dsimp only[↓RP,RQ,xa0,reduceIte,reduceCtorEq,xa1,xa2,xa3,xa4,QT,TYP,gK,Go.Tv.TYv,NB,QR,QN])))
  all_goals try exact Ωb
 have h30:=qnS k m nb f g q ns s fav c d st D Ω hD hD1 hk true ⟨fun _=>hu,fun _=>rfl⟩;have hf:∀i,i<nb→0≤f i∧f i<m:=fun i hi=>(k7 i hi).2.1;have hq:∀i,i<nb→1≤q i∧q i≤1000:=fun i hi=>(k7 i hi).1;have hg:∀i,i<nb→g i = -1:=fun i hi=>(k7 i hi).2.2;obtain⟨w,hw,hwm⟩:∃w:Nat,Int.tmod a (m:Nat)=(w:Nat)∧w<m:=by
  have g1:=Int.tmod_nonneg (a:=a) (m:Nat) Ω;have g2:=Int.tmod_lt_of_pos a (Ω:(0:Int)<(m:Nat));exact⟨(Int.tmod a (m:Nat)).toNat,Ω,Ω⟩
 have h33:=c33 m nb f q fav 0 (D*10) 1 Ω Ω Ω hq k4;have h35:=c35 m w hwm Ω Ω;have h26:=c26 nb m f q fav 0 (D*10) 1 (w:Nat) Ω hq;by_cases h0:cF f q nb (w:Nat)=0
 ·have h32:=qpF Ω Ω hq k4 hu hwm h0
  have h34:=qps m nb f q fav 0 (D*10) 1 Ω Ω Ω hf hq Ω k4 Ω (Qh m w) (by show 2≤8;omega) (qlv m w Ω) (qlu m w Ω) (qit m w hwm) (qdg m w hwm) [] (qnU h0) rfl;rw[h0]at h26;unfold gbk B;(repeat' (first|refine sD ?_ ?_<;>intro _|refine aAh ?_|(simp -dsimp only[↓RP,RQ,xa0,reduceIte,reduceCtorEq,xa1,xa2,xa3,xa4,TYP,gK,Go.Tv.TYv,NB,QR,QT,QN])))
  all_goals try exact Ωb
  refine zt h30 Ωw ?_;(repeat' (first|refine sD ?_ ?_<;>intro _|refine aAh ?_|(simp -dsimp only[↓RP,RQ,xa0,reduceIte,reduceCtorEq,xa1,xa2,xa3,xa4,hw,bkS,QT,TYP,gK,Go.Tv.TYv,NB,QR,QN])))
  all_goals try exact Ωb
  refine qm h33 (by simp only[SubL,and_true];exact Qg hg) ΩX ?_;(repeat' (first|refine sD ?_ ?_<;>intro _|refine aAh ?_|(simp -dsimp only[↓RP,RQ,xa0,reduceIte,reduceCtorEq,xa1,xa2,xa3,xa4,QT,TYP,gK,Go.Tv.TYv,NB,QR,QN])))
  all_goals try exact Ωb
  refine qm h32 (by simp only[SubL,and_true];exact⟨qiF,by simp[Go.Sx.Sub,I]⟩) ΩX ?_;(repeat' (first|refine sD ?_ ?_<;>intro _|refine aAh ?_|(simp -dsimp only[↓RP,RQ,xa0,reduceIte,reduceCtorEq,xa1,xa2,xa3,xa4,QT,TYP,gK,Go.Tv.TYv,NB,QR,QN])))
  all_goals try exact Ωb
  refine qm h35 ΩZ JW ?_;(repeat' (first|refine sD ?_ ?_<;>intro _|refine aAh ?_|(simp -dsimp only[↓RP,RQ,xa0,reduceIte,reduceCtorEq,xa1,xa2,xa3,xa4,QT,TYP,gK,Go.Tv.TYv,NB,QR,QN])))
  all_goals try exact Ωb
  refine qm h34 (by simp only[SubL,and_true];exact⟨Qg hg,qdh⟩) ΩX ?_;(repeat' (first|refine sD ?_ ?_<;>intro _|refine aAh ?_|(simp -dsimp only[↓RP,RQ,xa0,reduceIte,reduceCtorEq,xa1,xa2,xa3,xa4,QT,TYP,gK,Go.Tv.TYv,NB,QR,QN])))
  all_goals try exact Ωb
  refine qm h26 (by simp only[SubL,and_true];exact⟨Qg hg,by simp[Go.Sx.Sub,Go.Sx.SubL,I]⟩) ΩX ?_;(repeat' (first|refine sD ?_ ?_<;>intro _|refine aAh ?_|(simp -dsimp only[↓RP,RQ,xa0,reduceIte,reduceCtorEq,xa1,xa2,xa3,xa4,QT,TYP,gK,Go.Tv.TYv,NB,QR,QN])))
  all_goals try exact Ωb
  refine qm h31 Ω0 (by simp[Fresh,B]) ?_;(repeat' (first|refine sD ?_ ?_<;>intro _|refine aAh ?_|(simp -dsimp only[↓RP,RQ,xa0,reduceIte,reduceCtorEq,xa1,xa2,xa3,xa4,QT,TYP,gK,Go.Tv.TYv,NB,QR,QN])))
  all_goals try exact Ωb
 ·obtain⟨N,e,h32,e1,e2,e3,e4,e5⟩:=qpH Ω Ω Ω hf hq k4 hu hwm h0
  have h34:=qpt m nb f q fav 0 (D*10) 1 Ω Ω Ω hf hq Ω k4 Ω (Qh m w) (by show 2≤8;omega) (qlv m w Ω) (qlu m w Ω) (qit m w hwm) (qdg m w hwm) [w] (qnV h0) Ωg;simp only[xd1]at h34;have h36:=decide_eq_false h0;unfold gbk B;(repeat' (first|refine sD ?_ ?_<;>intro _|refine aAh ?_|(simp -dsimp only[↓RP,RQ,xa0,reduceIte,reduceCtorEq,xa1,xa2,xa3,xa4,TYP,gK,Go.Tv.TYv,NB,QR,QT,QN])))
  all_goals try exact Ωb
  refine zt h30 Ωw ?_;(repeat' (first|refine sD ?_ ?_<;>intro _|refine aAh ?_|(simp -dsimp only[↓RP,RQ,xa0,reduceIte,reduceCtorEq,xa1,xa2,xa3,xa4,hw,bkS,QT,TYP,gK,Go.Tv.TYv,NB,QR,QN])))
  all_goals try exact Ωb
  refine qm h33 (by simp only[SubL,and_true];exact Qg hg) ΩX ?_;(repeat' (first|refine sD ?_ ?_<;>intro _|refine aAh ?_|(simp -dsimp only[↓RP,RQ,xa0,reduceIte,reduceCtorEq,xa1,xa2,xa3,xa4,QT,TYP,gK,Go.Tv.TYv,NB,QR,QN])))
  all_goals try exact Ωb
  refine qm h32 (by simp only[SubL,and_true];exact⟨qiF,by simp[Go.Sx.Sub,I]⟩) ΩX ?_;(repeat' (first|refine sD ?_ ?_<;>intro _|refine aAh ?_|(simp -dsimp only[↓RP,RQ,xa0,reduceIte,reduceCtorEq,xa1,xa2,xa3,xa4,QT,TYP,gK,Go.Tv.TYv,NB,QR,QN])))
  all_goals try exact Ωb
  refine qm h35 ΩZ JW ?_;(repeat' (first|refine sD ?_ ?_<;>intro _|refine aAh ?_|(simp -dsimp only[↓RP,RQ,xa0,reduceIte,reduceCtorEq,xa1,xa2,xa3,xa4,QT,TYP,gK,Go.Tv.TYv,NB,QR,QN])))
  all_goals try exact Ωb
  refine qm h34 (by simp only[SubL,and_true];exact⟨Qg hg,qdh⟩) qiE ?_;(repeat' (first|refine sD ?_ ?_<;>intro _|refine aAh ?_|(simp -dsimp only[↓RP,RQ,xa0,reduceIte,reduceCtorEq,xa1,xa2,xa3,xa4,QT,TYP,gK,Go.Tv.TYv,NB,QR,QN])))
  all_goals try exact Ωb
  refine qm h26 (by simp only[SubL,and_true];exact⟨Qg hg,by simp[Go.Sx.Sub,Go.Sx.SubL,I]⟩) ΩX ?_;have dn:=decide_eq_false (Ω:¬N<0);by_cases hN:N=0
  ·have hp:=decide_eq_true (e4 hN)
   have hp0:=decide_eq_true e3;subst hN;(repeat' (first|refine sD ?_ ?_<;>intro _|refine aAh ?_|(simp -dsimp only[↓RP,RQ,xa0,reduceIte,reduceCtorEq,xa1,xa2,xa3,xa4,QT,h36,hp,hp0,TYP,gK,Go.Tv.TYv,NB,QR,QN])))
   all_goals try exact Ωb
   all_goals (refine qm h31 Ω0 (by simp[Fresh,B]) ?_)
   (repeat' (first|refine sD ?_ ?_<;>intro _|refine aAh ?_|(simp -dsimp only[↓RP,RQ,xa0,reduceIte,reduceCtorEq,xa1,xa2,xa3,xa4,QT,TYP,gK,Go.Tv.TYv,NB,QR,QN])))
   all_goals try exact Ωb
   all_goals trace_state
  ·have hp:=e5 hN
   have hN2:=decide_eq_false hN;have hp0:0≤pnF f q 0 (D*10) 1 nb 1 w∧InK .i64 (pnF f q 0 (D*10) 1 nb 1 w):=⟨e3,by
    rw[←hp];have h1:0≤100*(N+e):=by omega
    have h2:=Int.ediv_le_self e h1;rw[Int.tdiv_eq_ediv_of_nonneg h1];have h3:=Int.ediv_nonneg h1 (Ω:0≤e);simp only[InK];omega⟩
   (repeat' (first|refine sD ?_ ?_<;>intro _|refine aAh ?_|(simp -dsimp only[↓RP,RQ,xa0,reduceIte,reduceCtorEq,xa1,xa2,xa3,xa4,QT,h36,hN2,hp,hp0,TYP,gK,Go.Tv.TYv,NB,QR,QN])))
   all_goals try exact Ωb
   all_goals (refine qm h31 Ω0 (by simp[Fresh,B]) ?_)
   (repeat' (first|refine sD ?_ ?_<;>intro _|refine aAh ?_|(simp -dsimp only[↓RP,RQ,xa0,reduceIte,reduceCtorEq,xa1,xa2,xa3,xa4,QT,TYP,gK,Go.Tv.TYv,NB,QR,QN])))
   all_goals try exact Ωb
   all_goals trace_state
end Go.Tn
end
