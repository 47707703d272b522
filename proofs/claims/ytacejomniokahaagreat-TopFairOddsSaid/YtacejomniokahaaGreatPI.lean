/- A part of the proof. -/
import Derived.Test.YtacejomniokahaaGreatPH
import Derived.Test.YtacejomniokahaaGreatPE
import Derived.Test.YtacejomniokahaaGreatPC
open Nat renaming le_refl→xa5,eq_of_beq_eq_true→xa6,le_of_ble_eq_true→xa7,lt_of_lt_of_le→xa9,zero_add→xb0,add_zero→xb1,add_assoc→xb2,lt_succ_self→xb5,zero_le→xb6,sub_self→xb8,le_trans→xc1
open List renaming getD_eq_getElem?_getD→xc6,getElem?_eq_getElem→xc7,length_append→xc8,getElem?_append_left→xc9,getElem?_append_right→xd0,length_singleton→xd1,append_nil→xd3,mem_append→xd4,mem_cons_self→xd5,getElem?_cons_succ→xd7,length_take→xd9,mem_singleton→xe0,length_map→xe1,length_cons→xe4
open Bool renaming and_eq_true→xe6,false_eq_true→xe7,true_and→xf0
open Classical renaming byContradiction→xf9
open Option renaming getD_some→xg0
set_option linter.unusedVariables false
set_option linter.unusedSimpArgs false
set_option linter.defProp false
set_option maxRecDepth 1000000
set_option maxHeartbeats 16000000
section
namespace Go.Tv
open Go.Proofs
open Go.Sx
variable{k n:Nat}{x:Fr}
def chI(f:Nat→Fr)(A:Nat)(i:Nat):Int:=(A:Int).tdiv (f i).d*(f i).n
theorem qoY{row:Nat→Nat→SV}{g:Nat→Fr}(h:∀i,i<n→row i 0=ff (g i) 0∧row i 1=ff (g i) 1):∀i,i<n→(if i=k∧0≤0∧0<2 then [SV.val (Value.int IntKind.i64 x.n),SV.val (Value.int IntKind.i64 x.d)].getD (0 - 0) SV.top else row i 0)=ff (qN g k x i) 0∧(if i=k∧0≤1∧1<2 then [SV.val (Value.int IntKind.i64 x.n),SV.val (Value.int IntKind.i64 x.d)].getD (1 - 0) SV.top else row i 1)=ff (qN g k x i) 1:=by
 intro i hi;by_cases e:i=k
 ·simp[qN,e,ff]
 ·simp[qN,e,h i hi]
theorem grs{lo hi:Nat→Fr}{j:Nat}:qN (qN (gr lo hi k) k x) k (hi k) j=gr lo hi (k+1) j:=by
 unfold qN gr;by_cases e:j=k
 ·subst e;rw[if_pos rfl,if_pos Ω]
 ·rw[if_neg e,if_neg e]
  by_cases e2:j<k
  ·rw[if_pos e2,if_pos Ω]
  ·rw[if_neg e2,if_neg Ω]
theorem qrC{lo hi:Nat→Fr}{j:Nat}:qN (qN (gr lo hi k) k x) k (left lo hi n k) j=ownF lo hi n k j:=by
 unfold ownF qN;by_cases e:j=k
 ·subst e;rw[if_pos rfl,if_pos rfl]
 ·rw[if_neg e,if_neg e,if_neg e]
def qoZ(M:Mk)(id did mid n A:Nat)(row3:Nat→Nat→SV)(rest:List (Nat×Blk))(z:Nat×Nat×Nat×(Nat→Nat→SV)):St:=
 match z.1 with
 |0=>⟨[(2,.val (.slice none 0 0)),(10,.val (.int .i64 A)),(13,.val (.slice none 0 0)),(101,.vec (id+9) n 2),(102,.val (.int .i64 n)),(103,.val (.int .i64 0))],(id+9,.rows 68 2 n row3) ::(did,dkB M (dlo M M.m) (dhi M M.m) mid) :: rest,z.2.2.1⟩
 |u+1=>⟨[(2,.val (.slice none 0 0)),(10,.val (.int .i64 A)),(13,.vec z.2.1 (u+1) 1),(101,.vec (id+9) n 2),(102,.val (.int .i64 n)),(103,.val (.int .i64 (u+1:Nat)))],(z.2.1,.rows 2 1 (u+1) z.2.2.2) ::(id+9,.rows 68 2 n row3) ::(did,dkB M (dlo M M.m) (dhi M M.m) mid) :: rest,z.2.2.1⟩
theorem qjP(M:Mk)(id did mid n A:Nat)(row3:Nat→Nat→SV)(rest:List (Nat×Blk))(rid nid:Nat)(row:Nat→Nat→SV):qoZ M id did mid n A row3 rest (0,rid,nid,row)=⟨[(2,.val (.slice none 0 0)),(10,.val (.int .i64 A)),(13,.val (.slice none 0 0)),(101,.vec (id+9) n 2),(102,.val (.int .i64 n)),(103,.val (.int .i64 0))],(id+9,.rows 68 2 n row3) ::(did,dkB M (dlo M M.m) (dhi M M.m) mid) :: rest,nid⟩:=rfl
theorem Yn(M:Mk)(id did mid n A:Nat)(row3:Nat→Nat→SV)(rest:List (Nat×Blk))(u rid nid:Nat)(row:Nat→Nat→SV):qoZ M id did mid n A row3 rest (u+1,rid,nid,row)=⟨[(2,.val (.slice none 0 0)),(10,.val (.int .i64 A)),(13,.vec rid (u+1) 1),(101,.vec (id+9) n 2),(102,.val (.int .i64 n)),(103,.val (.int .i64 (u+1:Nat)))],(rid,.rows 2 1 (u+1) row) ::(id+9,.rows 68 2 n row3) ::(did,dkB M (dlo M M.m) (dhi M M.m) mid) :: rest,nid⟩:=rfl
theorem qrD(run:Int)(m:Nat)(q:Nat→Qt)(lo hi:Nat→Fr)(mid:Nat)(hn:n≤5):oneRows n 2 (λi j=>(dkL run m q lo hi mid).getD (2+(i*2+j)) .top):=by
 intro i j hi hj;have h5:=Jp (Ω:i<5);have:j=0∨j=1:=by omega
 rcases h5 with rfl|rfl|rfl|rfl|rfl<;>rcases this with rfl|rfl<;>rfl
theorem qrE(M:Mk)(hf:M.Fine)(n r:Nat)(hn:M.run=n)(hF:FairR (λk:Nat=>loS M.q k M.m) (λk:Nat=>hiS M.q k M.m) n)(hS:Stop (λk:Nat=>loS M.q k M.m) (λk:Nat=>hiS M.q k M.m) n r)(did mid id:Nat)(rest:List (Nat×Blk))(hd:did<id)(hr:Under rest id)(hrd:blk rest did=none):EffVC Tryz.prog 106 [.ptr did 0] ((did,dkB M (dlo M M.m) (dhi M M.m) mid) :: rest) id (λhp' nid' res=>id≤nid'∧∃rid row,id≤rid∧rid<nid'∧(∀i,i<n→row i 0=I (chI (ownF (λk:Nat=>loS M.q k M.m) (λk:Nat=>hiS M.q k M.m) n r) (aD (ownF (λk:Nat=>loS M.q k M.m) (λk:Nat=>hiS M.q k M.m) n r) n) i))∧hp'=(rid,.rows 2 1 n row) ::(did,dkB M (dlo M M.m) (dhi M M.m) mid) :: rest∧res=.vec rid n 1):=by
 refine yj follows Tryz.func106 rfl Ωb Ωb (by rw[Tryz.ntmps106];simp) λout=>?_;have hr0:blk rest id=none:=hr.none (xa5 _);have hdr:True:=trivial;have NB:True:=trivial;have NB1:True:=trivial;have ND:=nmA hd;have hr5:=hF.n5;have hr1:=hF.n1;(repeat' first|refine sD ?_ ?_<;>intro _|refine aAd ?_|simp -dsimp only[↓RP,RQ,seval,hn,ql,NB,NB1,ND,hr0,hdr,kM,zg,qI,QS,QF,FFq,fsv,B,I,RZ,eq_self,Tryz.results106]);refine⟨⟨Ω,.inr trivial,xa5 _,qrD _ _ _ _ _ _ hr5⟩,?_⟩;refine qo (λ(z:Nat×Nat×(Nat→Nat→SV))=>z.1≤r∧id+25≤z.2.1∧∀i,i<n→z.2.2 i 0=ff (gr (λk:Nat=>loS M.q k M.m) (λk:Nat=>hiS M.q k M.m) z.1 i) 0∧z.2.2 i 1=ff (gr (λk:Nat=>loS M.q k M.m) (λk:Nat=>hiS M.q k M.m) z.1 i) 1) (λz=>⟨[(0,.ptr did 0),(2,.val (.slice none 0 0)),(3,.ptr (id+2) 0),(4,.vec (id+9) n 2),(34,.vec (id+9) n 2),(35,.val (.int .i64 n)),(36,.val (.int .i64 (z.1:Nat)))],(id+9,.rows 68 2 n z.2.2) ::(id+2,.cells 68 [.val (.int .i64 1),.val (.int .i64 1)]) ::(did,dkB M (dlo M M.m) (dhi M M.m) mid) :: rest,z.2.1⟩) (λz=>n - z.1) (0,id+25,_) ⟨xb6 _,xa5 _,?_⟩ (za Ωh (SubHp.refl _)) λz hz=>?_
 ·intro i hi
  have h5:=Jp (Ω:i<5);have e1:gr (λk:Nat=>loS M.q k M.m) (λk:Nat=>hiS M.q k M.m) 0 i=dlo M M.m i:=by unfold gr dlo;rw[if_neg Ω,if_pos Ω]
  simp only[e1];rw[Nat.min_self];show(if i<n then(dkL (↑n) M.m M.q (dlo M M.m) (dhi M M.m) mid).getD (2+(i*2+0)) SV.top else _)=_∧(if i<n then(dkL (↑n) M.m M.q (dlo M M.m) (dhi M M.m) mid).getD (2+(i*2+1)) SV.top else _)=_;rw[if_pos hi,if_pos hi];rcases h5 with rfl|rfl|rfl|rfl|rfl<;>exact⟨rfl,rfl⟩
 obtain⟨k,nid,row⟩:=z;obtain⟨z1,z2,z3⟩:=hz;simp only[]at z1 z2 z3 ⊢;have s1:=hS.1;have hk:k<n:=by omega
 have hkn:(k:Int)<n:=by omega
 have NB:=(⟨nmA (Ω:id<nid),nmA (Ω:did<nid),nmA (Ω:id+2<nid),nmA (Ω:id+9<nid)⟩:_∧_∧_∧_);repeat' first|refine sD ?_ ?_<;>intro _|refine aAd ?_|simp -dsimp only[↓RP,RQ,seval,ql,NB,NB1,ND,hr0,hdr,kM,zg,qI,QS,QF,FFq,fsv,B,I,RZ,eq_self,Tryz.results106]
 all_goals try(exfalso;omega)
 refine qo (λ(z:Nat×Nat×(Nat→Nat→SV))=>z.1≤n∧nid+14≤z.2.1∧∀i,i<n→z.2.2 i 0=ff ((qN (gr (λk:Nat=>loS M.q k M.m) (λk:Nat=>hiS M.q k M.m) k) k ⟨0,1⟩) i) 0∧z.2.2 i 1=ff ((qN (gr (λk:Nat=>loS M.q k M.m) (λk:Nat=>hiS M.q k M.m) k) k ⟨0,1⟩) i) 1) (λz=>⟨[(0,.ptr did 0),(2,.val (.slice none 0 0)),(3,.ptr (id+2) 0),(4,.vec (id+9) n 2),(34,.vec (id+9) n 2),(35,.val (.int .i64 n)),(36,.val (.int .i64 (k:Nat))),(5,.val (.int .i64 (k:Nat))),(6,.ptr (nid+9) 0),(44,.vec (id+9) n 2),(45,.val (.int .i64 n)),(46,.val (.int .i64 (z.1:Nat)))],(nid+9,.cells 68 [.val (.int .i64 (qP (qN (gr (λk:Nat=>loS M.q k M.m) (λk:Nat=>hiS M.q k M.m) k) k ⟨0,1⟩) z.1).n),.val (.int .i64 (qP (qN (gr (λk:Nat=>loS M.q k M.m) (λk:Nat=>hiS M.q k M.m) k) k ⟨0,1⟩) z.1).d)]) ::(id+9,.rows 68 2 n z.2.2) ::(id+2,.cells 68 [.val (.int .i64 1),.val (.int .i64 1)]) ::(did,dkB M (dlo M M.m) (dhi M M.m) mid) :: rest,z.2.1⟩) (λz=>n - z.1) (0,nid+14,_) ⟨xb6 _,xa5 _,?_⟩ (za Ωh (SubHp.refl _)) λz hz=>?_
 ·intro i hi
  exact qoY (x:=⟨0,1⟩) z3 i hi
 obtain⟨i,nid2,row2⟩:=z;obtain⟨y1,y2,y3⟩:=hz;simp only[]at y1 y2 y3 ⊢;have NB1:=(⟨nmA (Ω:id<nid2),nmA (Ω:did<nid2),nmA (Ω:id+2<nid2),nmA (Ω:id+9<nid2),nmA (Ω:nid+9<nid2)⟩:_∧_∧_∧_∧_);have och:=λj=>KB hF.lc hF.hc k j;by_cases hlt:i<n
 ·have hltI:(i:Int)<n:=by omega
  have⟨g0,g1⟩:=y3 i hlt;have⟨m1,m2,m3⟩:=qeE (f:=(qN (gr (λk:Nat=>loS M.q k M.m) (λk:Nat=>hiS M.q k M.m) k) k ⟨0,1⟩)) (i:=i) Ω λj _=>och j;repeat' first|refine sD ?_ ?_<;>intro _|refine aAd ?_|simp -dsimp only[↓RP,RQ,seval,ql,g0,g1,NB,NB1,ND,hr0,hdr,kM,zg,qI,QS,QF,FFq,fsv,B,I,RZ,eq_self,Tryz.results106]
  all_goals try(exfalso;omega)
  refine qh (qoT (qP (qN (gr (λk:Nat=>loS M.q k M.m) (λk:Nat=>hiS M.q k M.m) k) k ⟨0,1⟩) i) ((qN (gr (λk:Nat=>loS M.q k M.m) (λk:Nat=>hiS M.q k M.m) k) k ⟨0,1⟩) i) Ω Ω Ω Ω) Ωf Ωa ?_;rw[show qO (qP (qN (gr (λk:Nat=>loS M.q k M.m) (λk:Nat=>hiS M.q k M.m) k) k ⟨0,1⟩) i) ((qN (gr (λk:Nat=>loS M.q k M.m) (λk:Nat=>hiS M.q k M.m) k) k ⟨0,1⟩) i)=qP (qN (gr (λk:Nat=>loS M.q k M.m) (λk:Nat=>hiS M.q k M.m) k) k ⟨0,1⟩) (i+1)from rfl];repeat' first|refine sD ?_ ?_<;>intro _|refine aAd ?_|simp -dsimp only[↓RP,RQ,seval,ql,NB,NB1,ND,hr0,hdr,kM,zg,qI,QS,QF,FFq,fsv,B,I,RZ,eq_self,Tryz.results106]
  all_goals try(exfalso;omega)
  refine⟨(i+1,nid2+11,row2),⟨by simp only[];omega,by simp only[];omega,y3⟩,by simp only[];omega,?_⟩;refine za Ωh ?_;refine SubHp.skip ?_ (SubHp.refl _);simp only[blk];rw[if_neg Ω,if_neg Ω,if_neg Ω,if_neg Ω];exact hr.none Ω
 ·have e:i=n:=by omega
  subst e;clear hlt;have⟨⟨b1,b2⟩,b3,b4⟩:=qcU (f:=(qN (gr (λk:Nat=>loS M.q k M.m) (λk:Nat=>hiS M.q k M.m) k) k ⟨0,1⟩)) (n:=i) hr5 λj _=>och j;have⟨l1,l2,l3,l4⟩:=hF.left_in hk λj hj=>hS.2.1 j Ω;have k5:k<5:=by omega
  have⟨_,_,b5,_⟩:=ZM (f:=(qN (gr (λk:Nat=>loS M.q k M.m) (λk:Nat=>hiS M.q k M.m) k) k ⟨0,1⟩)) (i:=i) λj _=>och j;have gh:=qnX M.run M.m M.q (dlo M M.m) (dhi M M.m) mid k5;have ehi:dhi M M.m k=hiS M.q k M.m:=by unfold dhi;rw[if_pos Ω]
  rw[ehi]at gh;have hch:=hF.hc k;have hc1:=hch.n0;have hc2:=hch.nd;have hc3:=hch.d1;have hc4:=hch.d2;have n1:=gv (hiS M.q k M.m).n (left (λk:Nat=>loS M.q k M.m) (λk:Nat=>hiS M.q k M.m) i k).d 200 1600000000 hc1 Ω Ω l4;have n2:=gv (left (λk:Nat=>loS M.q k M.m) (λk:Nat=>hiS M.q k M.m) i k).n (hiS M.q k M.m).d 1600000000 200 l1 Ω Ω hc4;repeat' first|refine sD ?_ ?_<;>intro _|refine aAd ?_|simp -dsimp only[↓RP,RQ,seval,ql,Int.zero_sub,NB,NB1,ND,hr0,hdr,kM,zg,qI,QS,QF,FFq,fsv,B,I,RZ,eq_self,Tryz.results106]
  all_goals try(exfalso;omega)
  skip
  refine qh (qoT ⟨1,1⟩ ⟨-(qP (qN (gr (λk:Nat=>loS M.q k M.m) (λk:Nat=>hiS M.q k M.m) k) k ⟨0,1⟩) i).n,(qP (qN (gr (λk:Nat=>loS M.q k M.m) (λk:Nat=>hiS M.q k M.m) k) k ⟨0,1⟩) i).d⟩ (by show _≤1*(qP (qN (gr (λk:Nat=>loS M.q k M.m) (λk:Nat=>hiS M.q k M.m) k) k ⟨0,1⟩) i).d∧1*(qP (qN (gr (λk:Nat=>loS M.q k M.m) (λk:Nat=>hiS M.q k M.m) k) k ⟨0,1⟩) i).d≤_;omega) (by show _≤-(qP (qN (gr (λk:Nat=>loS M.q k M.m) (λk:Nat=>hiS M.q k M.m) k) k ⟨0,1⟩) i).n*1∧-(qP (qN (gr (λk:Nat=>loS M.q k M.m) (λk:Nat=>hiS M.q k M.m) k) k ⟨0,1⟩) i).n*1≤_;omega) (by show _≤1*(qP (qN (gr (λk:Nat=>loS M.q k M.m) (λk:Nat=>hiS M.q k M.m) k) k ⟨0,1⟩) i).d + -(qP (qN (gr (λk:Nat=>loS M.q k M.m) (λk:Nat=>hiS M.q k M.m) k) k ⟨0,1⟩) i).n*1;omega) (by show 1≤1*(qP (qN (gr (λk:Nat=>loS M.q k M.m) (λk:Nat=>hiS M.q k M.m) k) k ⟨0,1⟩) i).d∧1*(qP (qN (gr (λk:Nat=>loS M.q k M.m) (λk:Nat=>hiS M.q k M.m) k) k ⟨0,1⟩) i).d≤_;omega)) Ωf Ωa ?_;rw[show qO ⟨1,1⟩ ⟨-(qP (qN (gr (λk:Nat=>loS M.q k M.m) (λk:Nat=>hiS M.q k M.m) k) k ⟨0,1⟩) i).n,(qP (qN (gr (λk:Nat=>loS M.q k M.m) (λk:Nat=>hiS M.q k M.m) k) k ⟨0,1⟩) i).d⟩=left (λk:Nat=>loS M.q k M.m) (λk:Nat=>hiS M.q k M.m) i k from rfl];repeat' first|refine sD ?_ ?_<;>intro _|refine aAd ?_|simp -dsimp only[↓RP,RQ,seval,ql,gh,NB,NB1,ND,hr0,hdr,kM,zg,qI,QS,QF,FFq,fsv,B,I,RZ,eq_self,Tryz.results106]
  all_goals try(exfalso;omega)
  refine qh (qaR (hiS M.q k M.m) (left (λk:Nat=>loS M.q k M.m) (λk:Nat=>hiS M.q k M.m) i k) Ωz Ωz) (by(simp -dsimp only[↓RP,RQ,seval,gh,fsv,Go.Tv.ints,I,B]);all_goals (try simp)) Ωc ?_;repeat' first|refine sD ?_ ?_<;>intro _|refine aAd ?_|simp -dsimp only[↓RP,RQ,seval,ql,gh,NB,NB1,ND,hr0,hdr,kM,zg,qI,QS,QF,FFq,fsv,B,I,RZ,eq_self,Tryz.results106]
  all_goals try(exfalso;omega)
  ·rename_i hb
   have hkr:k≠r:=λe=>hS.2.2 (e▸hb);refine⟨(k+1,nid2+32,λa b=>if a=k∧0≤b∧b<2 then [SV.val (Value.int IntKind.i64 (hiS M.q k M.m).n),SV.val (Value.int IntKind.i64 (hiS M.q k M.m).d)].getD (b - 0) SV.top else row2 a b),⟨by simp only[];omega,by simp only[];omega,?_⟩,by simp only[];omega,?_⟩
   rotate_left
   ·refine za Ωh ?_
    refine SubHp.skip ?_ (SubHp.skip ?_ (SubHp.refl _))
    ·simp only[blk]
     rw[if_neg Ω,if_neg Ω,if_neg Ω];exact hr.none Ω
    ·simp only[blk]
     rw[if_neg Ω,if_neg Ω,if_neg Ω];exact hr.none Ω
   ·intro j hj
    have:=qoY (k:=k) (x:=hiS M.q k M.m) y3 j hj;rw[grs]at this;exact this
  rename_i hb;obtain rfl:k=r:=by
   by_cases e:k=r
   ·exact e
   ·exact absurd (hS.2.1 k Ω) hb
  clear b1 b2 b3 b4 b5 l1 l2 l3 l4 hc1 hc2 hc3 hc4 n1 n2 gh;refine qo (λ(z:Nat×Nat×(Nat→Nat→SV))=>z.1≤i∧nid2+29≤z.2.1∧∀j,j<i→z.2.2 j 0=ff ((ownF (λk:Nat=>loS M.q k M.m) (λk:Nat=>hiS M.q k M.m) i k) j) 0∧z.2.2 j 1=ff ((ownF (λk:Nat=>loS M.q k M.m) (λk:Nat=>hiS M.q k M.m) i k) j) 1) (λz=>⟨[(2,.val (.slice none 0 0)),(4,.vec (id+9) i 2),(10,.val (.int .i64 (aD (ownF (λk:Nat=>loS M.q k M.m) (λk:Nat=>hiS M.q k M.m) i k) z.1:Nat))),(85,.vec (id+9) i 2),(86,.val (.int .i64 i)),(87,.val (.int .i64 (z.1:Nat)))],(id+9,.rows 68 2 i z.2.2) ::(did,dkB M (dlo M M.m) (dhi M M.m) mid) :: rest,z.2.1⟩) (λz=>i - z.1) (0,nid2+29,λa b=>if a=k∧0≤b∧b<2 then [SV.val (Value.int IntKind.i64 (left (λk:Nat=>loS M.q k M.m) (λk:Nat=>hiS M.q k M.m) i k).n),SV.val (Value.int IntKind.i64 (left (λk:Nat=>loS M.q k M.m) (λk:Nat=>hiS M.q k M.m) i k).d)].getD (b - 0) SV.top else row2 a b) ⟨xb6 _,xa5 _,?_⟩ (za (by simp[zj,Go.Sx.look];rfl) ?_) λz hz=>?_
  ·intro j hj
   have:=qoY (k:=k) (x:=left (λk:Nat=>loS M.q k M.m) (λk:Nat=>hiS M.q k M.m) i k) y3 j hj;rw[qrC]at this;exact this
  ·refine SubHp.skip ?_ (SubHp.skip ?_ (SubHp.cons (SubHp.skip ?_ (SubHp.refl _))))
   ·simp only[blk]
    rw[if_neg Ω,if_neg Ω];exact hr.none Ω
   ·simp only[blk]
    rw[if_neg Ω,if_neg Ω];exact hr.none Ω
   ·simp only[blk]
    rw[if_neg Ω];exact hr.none Ω
  obtain⟨t,nid3,row3⟩:=z;obtain⟨x1,x2,x3⟩:=hz;simp only[]at x1 x2 x3 ⊢;have NB2:=(⟨nmA (Ω:id<nid3),nmA (Ω:did<nid3),nmA (Ω:id+9<nid3)⟩:_∧_∧_);clear NB NB1 z3 y3;have NB:=NB2;have NB1:True:=trivial;have⟨al1,al2⟩:=hF.all hS x1;by_cases hlt:t<i
  ·have⟨g0,g1⟩:=x3 t hlt
   have⟨w1,w2,w3,w4,w5⟩:=hF.own_in hS t hlt;have⟨al3,al4⟩:=hF.all hS (k:=t+1) Ω;obtain⟨dn,ed⟩:∃dn:Nat,((ownF (λk:Nat=>loS M.q k M.m) (λk:Nat=>hiS M.q k M.m) i k) t).d=dn:=⟨_,(Int.toNat_of_nonneg Ω).symm⟩;have ea:aD (ownF (λk:Nat=>loS M.q k M.m) (λk:Nat=>hiS M.q k M.m) i k) (t+1)=aD (ownF (λk:Nat=>loS M.q k M.m) (λk:Nat=>hiS M.q k M.m) i k) t / Nat.gcd (aD (ownF (λk:Nat=>loS M.q k M.m) (λk:Nat=>hiS M.q k M.m) i k) t) dn*dn:=by rw[qjM];show Nat.lcm _ ((ownF (λk:Nat=>loS M.q k M.m) (λk:Nat=>hiS M.q k M.m) i k) t).d.toNat=_;rw[ed];rfl
   rw[ed]at w2 w3 w4;rw[show ff ((ownF (λk:Nat=>loS M.q k M.m) (λk:Nat=>hiS M.q k M.m) i k) t) 1=.val (.int .i64 (dn:Int))from by rw[←ed];rfl]at g1;have kg:=qqI (aD (ownF (λk:Nat=>loS M.q k M.m) (λk:Nat=>hiS M.q k M.m) i k) t) dn Ω Ω;have gpos:0<Nat.gcd (aD (ownF (λk:Nat=>loS M.q k M.m) (λk:Nat=>hiS M.q k M.m) i k) t) dn:=Nat.gcd_pos_of_pos_right _ Ω;have gne:((Nat.gcd (aD (ownF (λk:Nat=>loS M.q k M.m) (λk:Nat=>hiS M.q k M.m) i k) t) dn:Nat):Int)≠0:=by omega
   have e3:(aD (ownF (λk:Nat=>loS M.q k M.m) (λk:Nat=>hiS M.q k M.m) i k) t:Int).tdiv (Nat.gcd (aD (ownF (λk:Nat=>loS M.q k M.m) (λk:Nat=>hiS M.q k M.m) i k) t) dn:Nat)*(dn:Nat)=(aD (ownF (λk:Nat=>loS M.q k M.m) (λk:Nat=>hiS M.q k M.m) i k) (t+1):Nat):=by rw[ea,tdN,Int.natCast_mul]
   have e4:0≤(aD (ownF (λk:Nat=>loS M.q k M.m) (λk:Nat=>hiS M.q k M.m) i k) t:Int).tdiv (Nat.gcd (aD (ownF (λk:Nat=>loS M.q k M.m) (λk:Nat=>hiS M.q k M.m) i k) t) dn:Nat)∧(aD (ownF (λk:Nat=>loS M.q k M.m) (λk:Nat=>hiS M.q k M.m) i k) t:Int).tdiv (Nat.gcd (aD (ownF (λk:Nat=>loS M.q k M.m) (λk:Nat=>hiS M.q k M.m) i k) t) dn:Nat)≤(aD (ownF (λk:Nat=>loS M.q k M.m) (λk:Nat=>hiS M.q k M.m) i k) t:Nat):=by
    rw[tdN];exact⟨Int.natCast_nonneg _,Int.ofNat_le.2 (Nat.div_le_self _ _)⟩
   clear ea w5;repeat' first|refine sD ?_ ?_<;>intro _|refine aAd ?_|simp -dsimp only[↓RP,RQ,seval,ql,g0,g1,NB,NB1,ND,hr0,hdr,kM,zg,qI,QS,QF,FFq,fsv,B,I,RZ,eq_self,Tryz.results106]
   all_goals try(exfalso;omega)
   refine qh kg Ωd Ωa ?_;repeat' first|refine sD ?_ ?_<;>intro _|refine aAd ?_|simp -dsimp only[↓RP,RQ,seval,ql,g0,g1,e3,NB,NB1,ND,hr0,hdr,kM,zg,qI,QS,QF,FFq,fsv,B,I,RZ,eq_self,Tryz.results106]
   all_goals try(exfalso;omega)
   refine⟨(t+1,nid3+17,row3),⟨by simp only[];omega,by simp only[];omega,x3⟩,by simp only[];omega,?_⟩;refine za Ωh ?_;refine SubHp.skip ?_ (SubHp.refl _);simp only[blk];rw[if_neg Ω,if_neg Ω];exact hr.none Ω
  ·have e:t=i:=by omega
   subst e;clear hlt;repeat' first|refine sD ?_ ?_<;>intro _|refine aAd ?_|simp -dsimp only[↓RP,RQ,seval,ql,NB,NB1,ND,hr0,hdr,kM,zg,qI,QS,QF,FFq,fsv,B,I,RZ,eq_self,Tryz.results106]
   all_goals try(exfalso;omega)
   obtain⟨A,eA⟩:∃A,aD (ownF (λk:Nat=>loS M.q k M.m) (λk:Nat=>hiS M.q k M.m) t k) t=A:=⟨_,rfl⟩;have dA:∀j,j<t→((ownF (λk:Nat=>loS M.q k M.m) (λk:Nat=>hiS M.q k M.m) t k) j).d.toNat ∣ A:=λj hj=>eA▸JI hj;rw[eA]at al1 al2 ⊢;refine qo (λ(z:Nat×Nat×Nat×(Nat→Nat→SV))=>z.1≤t∧nid3+5≤z.2.2.1∧(0<z.1→id+10≤z.2.1∧z.2.1<z.2.2.1)∧∀i,i<z.1→z.2.2.2 i 0=I (chI (ownF (λk:Nat=>loS M.q k M.m) (λk:Nat=>hiS M.q k M.m) t k) A i)) (qoZ M id did mid t A row3 rest) (λz=>t - z.1) (0,0,nid3+5,λ_ _=>.top) ⟨by simp only[];omega,by simp only[];omega,λh=>by simp only[]at h;omega,λi h=>by simp only[]at h;omega⟩ (by rw[qjP];exact za Ωh (SubHp.refl _)) λz hz=>?_;obtain⟨u,rid,nid4,row4⟩:=z;obtain⟨v1,v2,v3,v4⟩:=hz;simp only[]at v1 v2 v3 v4;clear NB NB1 NB2;have NB:=(⟨nmA (Ω:id<nid4),nmA (Ω:did<nid4),nmA (Ω:id+9<nid4)⟩:_∧_∧_);have NB1:True:=trivial;by_cases hlt:u<t
   ·have⟨g0,g1⟩:=x3 u hlt
    have⟨w1,w2,w3,w4,w5⟩:=hF.own_in hS u hlt;obtain⟨v,ev⟩:∃v,(A:Int).tdiv ((ownF (λk:Nat=>loS M.q k M.m) (λk:Nat=>hiS M.q k M.m) t k) u).d=v:=⟨_,rfl⟩;have e4:0≤v∧v≤A:=by
     rw[←ev,show((ownF (λk:Nat=>loS M.q k M.m) (λk:Nat=>hiS M.q k M.m) t k) u).d=(((ownF (λk:Nat=>loS M.q k M.m) (λk:Nat=>hiS M.q k M.m) t k) u).d.toNat:Nat)from(Int.toNat_of_nonneg Ω).symm,tdN];exact⟨Int.natCast_nonneg _,Int.ofNat_le.2 (Nat.div_le_self _ _)⟩
    have n1:=gv v ((ownF (λk:Nat=>loS M.q k M.m) (λk:Nat=>hiS M.q k M.m) t k) u).n 1600000000 1600000000 e4.1 w1 Ω Ω;have dne:((ownF (λk:Nat=>loS M.q k M.m) (λk:Nat=>hiS M.q k M.m) t k) u).d≠0:=by omega
    clear w5 dA;cases u with
    |zero=>
     rw[qjP];repeat' first|refine sD ?_ ?_<;>intro _|refine aAd ?_|simp -dsimp only[↓RP,RQ,seval,ql,g0,g1,ev,NB,NB1,ND,hr0,hdr,kM,zg,qI,QS,QF,FFq,fsv,B,I,RZ,eq_self,Tryz.results106]
     all_goals try(exfalso;omega)
     refine⟨(0+1,nid4+14,nid4+18,λi j=>[SV.val (.int .i64 (v*((ownF (λk:Nat=>loS M.q k M.m) (λk:Nat=>hiS M.q k M.m) t k) 0).n))].getD (i+j) SV.top),⟨by simp only[];omega,by simp only[];omega,λ_=>by simp only[];omega,λi hi=>?_⟩,by simp only[];omega,?_⟩
     rotate_left
     ·rw[Yn]
      refine za Ωh (SubHp.cons (SubHp.skip ?_ (SubHp.skip ?_ (SubHp.refl _))))
      ·simp only[blk]
       rw[if_neg Ω,if_neg Ω];exact hr.none Ω
      ·simp only[blk]
       rw[if_neg Ω,if_neg Ω];exact hr.none Ω
     ·have e:i=0:=by simp only[]at hi;omega
      subst e;show SV.val (.int .i64 (v*((ownF (λk:Nat=>loS M.q k M.m) (λk:Nat=>hiS M.q k M.m) t k) 0).n))=_;rw[←ev];rfl
    |succ u=>
     have⟨z5,z6⟩:=v3 Ω;have NB1:=(⟨nmE (Ω:rid≠id),nmE (Ω:rid≠did),nmE (Ω:rid≠id+9),nmA z6⟩:_∧_∧_∧_);have hdr:dropBlk rest rid=rest:=zf (hr.none Ω);rw[Yn];repeat' first|refine sD ?_ ?_<;>intro _|refine aAd ?_|simp -dsimp only[↓RP,RQ,seval,ql,g0,g1,ev,NB,NB1,ND,hr0,hdr,kM,zg,qI,QS,QF,FFq,fsv,B,I,RZ,eq_self,Tryz.results106]
     all_goals try(exfalso;omega)
     refine⟨(u+1+1,nid4+14,nid4+18,λi j=>if i<u+1 then row4 i j else [SV.val (.int .i64 (v*((ownF (λk:Nat=>loS M.q k M.m) (λk:Nat=>hiS M.q k M.m) t k) (u+1)).n))].getD (i -(u+1)+j) SV.top),⟨by simp only[];omega,by simp only[];omega,λ_=>by simp only[];omega,λi hi=>?_⟩,by simp only[];omega,?_⟩
     rotate_left
     ·rw[Yn]
      refine za Ωh (SubHp.cons (SubHp.skip ?_ (SubHp.skip ?_ (SubHp.refl _))))
      ·simp only[blk]
       rw[if_neg Ω,if_neg Ω];exact hr.none Ω
      ·simp only[blk]
       rw[if_neg Ω,if_neg Ω];exact hr.none Ω
     ·simp only[]at hi ⊢
      by_cases e:i<u+1
      ·rw[if_pos e];exact v4 i e
      ·have e2:i=u+1:=by omega
       subst e2;rw[if_neg e,xb8];show SV.val (.int .i64 (v*((ownF (λk:Nat=>loS M.q k M.m) (λk:Nat=>hiS M.q k M.m) t k) (u+1)).n))=_;rw[←ev];rfl
   ·have e:u=t:=by omega
    subst e;obtain⟨u,rfl⟩:∃j,u=j+1:=⟨u - 1,Ω⟩;have⟨z5,z6⟩:=v3 Ω;have NB1:=(⟨nmE (Ω:rid≠id),nmE (Ω:rid≠did),nmE (Ω:rid≠id+9),nmA z6⟩:_∧_∧_∧_);have hdr:dropBlk rest rid=rest:=zf (hr.none Ω);rw[Yn];repeat' first|refine sD ?_ ?_<;>intro _|refine aAd ?_|simp -dsimp only[↓RP,RQ,seval,ql,NB,NB1,ND,hr0,hdr,kM,zg,qI,QS,QF,FFq,fsv,B,I,RZ,eq_self,Tryz.results106]
    all_goals try(exfalso;omega)
    refine⟨(rid,.rows 2 1 (u+1) row4) ::(did,dkB M (dlo M M.m) (dhi M M.m) mid) :: rest,nid4+3,.vec rid (u+1) 1,za Ωh (SubHp.cons (SubHp.skip ?_ (SubHp.refl _))),Ω,rid,row4,Ω,Ω,v4,rfl,rfl⟩;simp only[blk];rw[if_neg Ω];exact hr.none Ω
end Go.Tv
end
section
namespace Go.Tv
open Go.Sx
abbrev Mk.lo(M:Mk):Nat→Fr:=λk:Nat=>loS M.q k M.m
abbrev Mk.hi(M:Mk):Nat→Fr:=λk:Nat=>hiS M.q k M.m
theorem Q2{f g:Nat→Fr}:∀{n:Nat},(∀j,j<n→f j=g j)→qP f n=qP g n
 |0,_=>rfl
 |n+1,e=>by
  simp only[qP];rw[Q2 (n:=n) λj hj=>e j Ω,e n Ω]
theorem qjQ(M:Mk):qP (dlo M M.m) M.run.toNat=qP M.lo M.run.toNat:=
 Q2 λj hj=>by unfold dlo;rw[if_pos Ω]
theorem qjR(M:Mk):qP (dhi M M.m) M.run.toNat=qP M.hi M.run.toNat:=
 Q2 λj hj=>by unfold dhi;rw[if_pos Ω]
theorem qba{b:Nat→Bool}:∀{k i:Nat},¬0≤zb b i k→∀j,i≤j→j<i+k→b j=false
 |0,i,_,j,h1,h2=>by omega
 |k+1,i,h,j,h1,h2=>by
  simp only[zb]at h;split at h
  ·omega
  ·rename_i hb
   by_cases e:j=i
   ·subst e;simpa using hb
   ·exact qba h j Ω Ω
theorem sure_none{M:Mk}:sureV M=none↔qaV M:=by
 unfold sureV qaV;rw[qjQ,qjR];constructor
 ·intro h
  split at h
  ·cases h
  ·rename_i h1
   split at h
   ·cases h
   ·rename_i h2
    split at h
    ·cases h
    ·rename_i h3
     refine⟨λr hr=>?_,h2,h3⟩;have:=qba h1 r Ω Ω;unfold zU at this;exact of_decide_eq_false this
 ·rintro⟨h1,h2,h3⟩
  rw[if_neg,if_neg h2,if_neg h3];intro h;obtain⟨j,_,e2,_,e4⟩:=ZP h;exact h1 j Ω (of_decide_eq_true e4)
theorem fair_of{M:Mk}(hf:M.Fine)(h:qaV M):FairR M.lo M.hi M.run.toNat:=by
 have cl:∀r:Nat,Ch (M.lo r):=λr=>yu hf.od;have ch:∀r:Nat,Ch (M.hi r):=λr=>yv hf.od;have hr5:=hf.r5;have hr1:=hf.r1;obtain⟨h1,h2,h3⟩:=h;have⟨a1,a2⟩:=yw (f:=M.lo) (n:=M.run.toNat) λj _=>(cl j).d1;have⟨b1,b2⟩:=yw (f:=M.hi) (n:=M.run.toNat) λj _=>(ch j).d1;refine⟨cl,ch,Ω,Ω,λr hr=>?_,?_,?_⟩
 ·have:=h1 r hr
  have e:=vn (ch r).d1 (cl r).d1;have:=λx=>this (e.2 x)
  grind
 ·rw[←a2]
  have e:=vn (show(0:Int)<(⟨1,1⟩:Fr).d from Int.one_pos) a1;have:=λx=>h2 (e.2 x);rw[rv1]at this
  grind
 ·rw[←b2]
  have e:=vn b1 (show(0:Int)<(⟨1,1⟩:Fr).d from Int.one_pos);have:=λx=>h3 (e.2 x);rw[rv1]at this
  grind
theorem qnZ(p:Nat→Prop):∀n,(∀j,j<n→p j)∨∃r,r<n∧(∀j,j<r→p j)∧¬p r
 |0=>.inl λj hj=>by omega
 |n+1=>by
  rcases qnZ p n with h|⟨r,h1,h2,h3⟩
  ·by_cases hp:p n
   ·refine .inl λj hj=>?_
    by_cases e:j=n
    ·subst e;exact hp
    ·exact h j Ω
   ·exact .inr ⟨n,Ω,h,hp⟩
  ·exact .inr ⟨r,Ω,h2,h3⟩
theorem FairR.stop{lo hi:Nat→Fr}{n:Nat}(h:FairR lo hi n):∃r,Stop lo hi n r:=by
 rcases qnZ (λj=>lt (hi j) (left lo hi n j)) n with h1|⟨r,h1,h2,h3⟩
 ·exact(h.stops h1).elim
 ·exact⟨r,h1,h2,h3⟩
end Go.Tv
end
section
namespace Go.Tv
open Go.Proofs
open Go.Sx
theorem c39s(M:Mk)(hf:M.Fine)(hs:sureV M=none)(r:Nat)(hS:Stop M.lo M.hi M.run.toNat r):qb Tryz.prog 39 [M.sv] (.tup [.arr true false M.run.toNat 1 (λi _=>.val (.int .i64 (chI (ownF M.lo M.hi M.run.toNat r) (aD (ownF M.lo M.hi M.run.toNat r) M.run.toNat) i))),I 0]):=by
 refine qc Tryz.func39 rfl Ωb follows Ωb _ _ (by rw[Tryz.ntmps39];simp) Ω2 ?_
 conv=>arg 4;unfold Mk.sv qts I
 (repeat' first|refine sD ?_ ?_<;>intro _|refine aAe ?_|simp -dsimp only[↓RP,RQ,seval,I,ql,QF,fsv,B,RZ,eq_self,Tryz.results39]);refine qh (qoN M) Ωp Ωa ?_;rw[Mk.Fine.err hf];repeat' first|refine sD ?_ ?_<;>intro _|refine aAe ?_|simp -dsimp only[↓RP,RQ,seval,I,ql,QF,fsv,B,RZ,eq_self,Tryz.results39]
 all_goals try(exfalso;omega)
 refine wO ΩC (qqH M hf _ _ (Under.nil.cons Ω)) λhp' nid' res ⟨q1,q2,q3⟩=>?_;subst q1 q3;have NB:=nbF q2;have NB2:=nbG q2;have NB3:True:=trivial;(repeat' first|refine sD ?_ ?_<;>intro _|refine aA ?_|simp -dsimp only[↓RP,RQ,seval,NB,NB2,NB3,QR,ql,QF,fsv,B,I,RZ,eq_self,Tryz.results39]);refine wO ΩC (qqK M hf _ _ _ _ Ω Ω Ω ((Under.nil.cons Ω).cons Ω) ΩN ΩN) λhp' nid2 res ⟨q4,q5⟩=>?_;rw[hs]at q5;obtain⟨q5,q6⟩:=q5;subst q5 q6;have hF:=fair_of hf (sure_none.1 hs);have hr1:=hf.r1;(repeat' first|refine sD ?_ ?_<;>intro _|refine aA ?_|simp -dsimp only[↓RP,RQ,seval,B,I,NB,NB2,NB3,QR,ql,QF,fsv,RZ,eq_self,Tryz.results39]);refine wO ΩC (qrE M hf M.run.toNat r Ω hF hS _ _ _ _ Ω ((Under.nil.cons Ω).cons Ω) ΩN) λhp' nid3 res ⟨q7,rid,row,g1,g2,g3,q8,q9⟩=>?_;subst q8 q9;(repeat' first|refine sD ?_ ?_<;>intro _|refine aA ?_|simp -dsimp only[↓RP,RQ,seval,B,I,NB,NB2,NB3,QR,ql,QF,fsv,RZ,eq_self,Tryz.results39]);exact λi j hi hj=>by
  obtain rfl:j=0:=by omega
  exact g3 i hi
end Go.Tv
end
section
namespace Go.Tv
open Go.Sx
theorem qoa{q:Qt}(h:(0≤q.n∧q.n≤190)∧1≤q.d∧q.d≤10):rv (xq q)*((q.d+q.n:Int):Rat)=((q.d:Int):Rat):=by
 have hp:(0:Int)<(⟨q.d,q.d+q.n⟩:Fr).d:=by show 0<q.d+q.n;omega
 unfold xq;rw[qjH hp];exact V0 hp
theorem qjS{q:Nat→Qt}{r:Int}:∀{m:Nat},okO q m→∀i,i<m→(q i).r=r→(q i).l=true→rv (xq (q i))≤rv (loS q r m)
 |0,_,i,h,_,_=>by omega
 |m+1,hq,i,h,h1,h2=>by
  have cl:=yu (q:=q) (r:=r) (m:=m) λj hj=>hq j Ω;have cx:=(qaT (hq m Ω)).1;have e:=vn cl.d1 cx.d1;simp only[loS];by_cases hi:i=m
  ·subst hi
   split
   ·exact Rat.le_refl
   ·rename_i hn
    have:¬lt (loS q r i) (xq (q i)):=λx=>hn ⟨h1,h2,x⟩;rw[e]at this
    grind
  ·have ih:=qjS (q:=q) (r:=r) (m:=m) (λj hj=>hq j Ω) i Ω h1 h2
   split
   ·rename_i hn
    have:=e.1 hn.2.2
    grind
   ·exact ih
theorem qjT{q:Nat→Qt}{r:Int}:∀{m:Nat},okO q m→∀i,i<m→(q i).r=r→(q i).l=false→rv (hiS q r m)≤rv (xq (q i))
 |0,_,i,h,_,_=>by omega
 |m+1,hq,i,h,h1,h2=>by
  have ch:=yv (q:=q) (r:=r) (m:=m) λj hj=>hq j Ω;have cx:=(qaT (hq m Ω)).1;have e:=vn cx.d1 ch.d1;simp only[hiS];by_cases hi:i=m
  ·subst hi
   split
   ·exact Rat.le_refl
   ·rename_i hn
    have:¬lt (xq (q i)) (hiS q r i):=λx=>hn ⟨h1,h2,x⟩;rw[e]at this
    grind
  ·have ih:=qjT (q:=q) (r:=r) (m:=m) (λj hj=>hq j Ω) i Ω h1 h2
   split
   ·rename_i hn
    have:=e.1 hn.2.2
    grind
   ·exact ih
theorem qjU{f:Nat→Fr}{A i:Nat}(hd:0<(f i).d)(h:(f i).d.toNat ∣ A):((chI f A i:Int):Rat)=(A:Rat)*rv (f i):=by
 obtain⟨k,hk⟩:=h;have e1:(A:Int)=(f i).d*k:=by rw[hk,Int.natCast_mul,Int.toNat_of_nonneg Ω]
 have e2:chI f A i=k*(f i).n:=by
  unfold chI;rw[e1,Int.mul_tdiv_cancel_left _ Ω]
 have e3:(A:Rat)=((f i).d:Rat)*(k:Rat):=by exact_mod_cast e1
 have e4:=V0 hd;rw[e2,Rat.intCast_mul,e3];show((k:Int):Rat)*((f i).n:Rat)=_;rw[←e4,Rat.intCast_natCast]
 grind
theorem qeJ{f:Nat→Fr}{A:Nat}:∀{n:Nat},(∀j,j<n→0<(f j).d∧(f j).d.toNat ∣ A)→((sumTo (chI f A) n:Int):Rat)=(A:Rat)*kJ (λj=>rv (f j)) n
 |0,_=>by simp only[sumTo,kJ];grind
 |n+1,h=>by
  simp only[sumTo,kJ];rw[Rat.intCast_add,qeJ (n:=n) λj hj=>h j Ω,qjU (h n Ω).1 (h n Ω).2]
  grind
theorem fair_ok{M:Mk}(he:M.err=0)(hF:FairR M.lo M.hi M.run.toNat){r:Nat}(hS:Stop M.lo M.hi M.run.toNat r):M.chE M.run.toNat (chI (ownF M.lo M.hi M.run.toNat r) (aD (ownF M.lo M.hi M.run.toNat r) M.run.toNat))=0:=by
 have hf:=Mk.fine he;have hr1:=hf.r1;have oi:=hF.own_in hS;obtain⟨ob,os⟩:=hF.own hS;have⟨a1,a2⟩:=hF.all hS (xa5 _);have hdv:∀j,j<M.run.toNat→0<(ownF M.lo M.hi M.run.toNat r j).d∧(ownF M.lo M.hi M.run.toNat r j).d.toNat ∣ aD (ownF M.lo M.hi M.run.toNat r) M.run.toNat:=λj hj=>⟨(oi j hj).2.2.1,JI hj⟩;generalize aD (ownF M.lo M.hi M.run.toNat r) M.run.toNat=A at *;generalize ownF M.lo M.hi M.run.toNat r=f at *;have hs:sumTo (chI f A) M.run.toNat=A:=by
  have:=qeJ hdv;rw[os]at this;have h2:((sumTo (chI f A) M.run.toNat:Int):Rat)=((A:Int):Rat):=by rw[this,Rat.intCast_natCast];grind
  exact_mod_cast h2
 have hall:Yf (chI f A) M.run.toNat:=by
  intro i hi;have⟨b1,b2,b3,_,_⟩:=oi i hi;obtain⟨_,k,hk⟩:=hdv i hi;have e1:(A:Int)=(f i).d*k:=by rw[hk,Int.natCast_mul,Int.toNat_of_nonneg Ω]
  have e2:chI f A i=k*(f i).n:=by
   unfold chI;rw[e1,Int.mul_tdiv_cancel_left _ Ω]
  have p1:0≤(k:Int)*(f i).n:=Int.mul_nonneg Ω b1;have p2:(k:Int)*(f i).n≤k*(f i).d:=Int.mul_le_mul_of_nonneg_left b2 Ω;have p3:(k:Int)*(f i).d=A:=by rw[e1,Int.mul_comm]
  rw[e2];omega
 symm
 unfold Mk.chE;rw[if_pos he,if_pos Ω,if_pos ⟨hall,by rw[hs];omega⟩,if_pos];intro i hi;have hq:=hf.od i hi;have hr:=hf.st i hi;have hx:=qoa hq;have hrn:(q:Nat)→(q:Int)=(M.q i).r→q<M.run.toNat:=λq e=>by omega
 obtain⟨t,ht⟩:∃t:Nat,(M.q i).r=t:=⟨(M.q i).r.toNat,Ω⟩;have ht2:=hrn t ht.symm;have⟨c1,c2⟩:=hdv t ht2;have ec:=qjU c1 c2;have⟨_,d2,d3⟩:=ob t ht2;have hK:(0:Rat)≤(A:Rat)*((((M.q i).d+(M.q i).n:Int)):Rat):=by
  have:(0:Int)≤(A:Int)*((M.q i).d+(M.q i).n):=Int.mul_nonneg Ω Ω;have h2:((0:Int):Rat)≤(((A:Int)*((M.q i).d+(M.q i).n):Int):Rat):=Rat.intCast_le_intCast.2 this;rw[Rat.intCast_mul,Rat.intCast_natCast]at h2;exact h2
 unfold wd;rw[hs,ht,Int.toNat_natCast];split
 ·rename_i hl
  have h1:=qjS hf.od i hi ht hl;have h2:rv (xq (M.q i))≤rv (f t):=Rat.le_trans h1 d2;have h3:=Rat.mul_le_mul_of_nonneg_left h2 hK;rw[←Rat.intCast_le_intCast,Rat.intCast_mul,Rat.intCast_mul,ec,←hx,Rat.intCast_natCast]
  grind
 ·rename_i hl
  have h1:=qjT hf.od i hi ht ΩX;have h2:rv (f t)≤rv (xq (M.q i)):=Rat.le_trans d3 h1;have h3:=Rat.mul_le_mul_of_nonneg_left h2 hK;rw[←Rat.intCast_le_intCast,Rat.intCast_mul,Rat.intCast_mul,ec,←hx,Rat.intCast_natCast]
  grind
end Go.Tv
end
section
namespace Go.Tv
open Go.Sx
variable{n:Nat}{M:Mk}
theorem KC{q:Nat→Qt}{r:Int}{n:Nat}:∀{i:Nat},byS q r true i=some n→n<i∧(q n).r=r∧(q n).l=true∧loS q r i=xq (q n)
 |0,h=>by cases h
 |i+1,h=>by
  simp only[byS]at h;split at h
  ·rename_i hb
   cases h;obtain⟨b1,b2,b3⟩:=hb;unfold zm at b3;rw[if_pos b2,b1]at b3;refine⟨Ω,b1,b2,?_⟩;simp only[loS];rw[if_pos ⟨b1,b2,b3⟩]
  ·rename_i hb
   have⟨a1,a2,a3,a4⟩:=KC h;refine⟨Ω,a2,a3,?_⟩;simp only[loS];rw[if_neg,a4];rintro⟨c1,c2,c3⟩;refine hb ⟨c1,c2,?_⟩;unfold zm;rw[if_pos c2,c1];exact c3
theorem yZ{q:Nat→Qt}{r:Int}{n:Nat}:∀{i:Nat},byS q r false i=some n→n<i∧(q n).r=r∧(q n).l=false∧hiS q r i=xq (q n)
 |0,h=>by cases h
 |i+1,h=>by
  simp only[byS]at h;split at h
  ·rename_i hb
   cases h;obtain⟨b1,b2,b3⟩:=hb;unfold zm at b3;rw[if_neg (by rw[b2];decide),b1]at b3;refine⟨Ω,b1,b2,?_⟩;simp only[hiS];rw[if_pos ⟨b1,b2,b3⟩]
  ·rename_i hb
   have⟨a1,a2,a3,a4⟩:=yZ h;refine⟨Ω,a2,a3,?_⟩;simp only[hiS];rw[if_neg,a4];rintro⟨c1,c2,c3⟩;refine hb ⟨c1,c2,?_⟩;unfold zm;rw[if_neg (by rw[c2];decide),c1];exact c3
def ind(p:Prop)[Decidable p]:Rat:=if p then 1 else 0
def K8(q:Qt)(w:Int):Rat:=if q.l=true then rv (xq q) - ind (q.r=w)else ind (q.r=w) - rv (xq q)
theorem qeK{d:Int}(h1:1≤d)(h2:d≤10):(2520:Int).tdiv d*d=2520:=by
 have:d=1∨d=2∨d=3∨d=4∨d=5∨d=6∨d=7∨d=8∨d=9∨d=10:=by omega
 rcases this with rfl|rfl|rfl|rfl|rfl|rfl|rfl|rfl|rfl|rfl<;>decide
theorem qpa{q:Qt}(h:(0≤q.n∧q.n≤190)∧1≤q.d∧q.d≤10){A:Nat}(hA:(q.d+q.n).toNat ∣ A)(w:Int):((Vo q ((A:Int).tdiv (q.d+q.n)*q.d) w:Int):Rat)=2520*(A:Rat)*K8 q w:=by
 obtain⟨k,hk⟩:=hA;have e1:(A:Int)=(q.d+q.n)*k:=by rw[hk,Int.natCast_mul,Int.toNat_of_nonneg Ω]
 have hx:=qoa h;have e3:(A:Rat)=((q.d+q.n:Int):Rat)*(k:Rat):=by exact_mod_cast e1
 have e4:(A:Rat)*rv (xq q)=(k:Rat)*((q.d:Int):Rat):=by rw[e3,←hx];grind
 have e5:(A:Rat)=(k:Rat)*((q.d:Int):Rat)+(k:Rat)*((q.n:Int):Rat):=by rw[e3,Rat.intCast_add];grind
 rw[e1,Int.mul_tdiv_cancel_left _ Ω];have hd:=qeK h.2.1 h.2.2;have eX:((qaS q (k*q.d) w:Int):Rat)=2520*(A:Rat)*(ind (q.r=w) - rv (xq q)):=by
  unfold qaS ind;by_cases e:q.r=w
  ·rw[if_pos e,if_pos e]
   have:(2520:Int).tdiv q.d*q.n*(k*q.d)=2520*(k*q.n):=by
    have:(2520:Int).tdiv q.d*q.n*(k*q.d)=(2520:Int).tdiv q.d*q.d*(k*q.n):=by grind
    rw[this,hd]
   rw[this,Rat.intCast_mul,Rat.intCast_mul];have:((2520:Int):Rat)=2520:=rfl;rw[this,Rat.intCast_natCast]
   grind
  ·rw[if_neg e,if_neg e,Rat.intCast_mul,Rat.intCast_mul]
   have:((-2520:Int):Rat) = -2520:=rfl;rw[this,Rat.intCast_natCast]
   grind
 unfold Vo K8;by_cases hl:q.l=true
 ·rw[if_pos hl,if_pos hl,Rat.intCast_neg,eX];grind
 ·rw[if_neg hl,if_neg hl,eX]
theorem qjV(q:Qt)(w:Int):Vo q 0 w=0:=by unfold Vo qaS;simp
theorem qbb{q:Nat→Qt}{s s':Nat→Int}{w:Int}{n:Nat}(e:∀j,j≠n→s' j=s j):∀{m:Nat},n<m→vH q s' w m=vH q s w m - Vo (q n) (s n) w+Vo (q n) (s' n) w
 |0,h=>by omega
 |m+1,h=>by
  simp only[vH];by_cases e1:n=m
  ·subst e1
   have:vH q s' w n=vH q s w n:=by
    have:∀k,k≤n→vH q s' w k=vH q s w k:=by
     intro k
     induction k with
     |zero=>intro _;rfl
     |succ k ih=>intro hk;simp only[vH];rw[ih Ω,e k Ω]
    exact this n (xa5 n)
   rw[this];omega
  ·rw[qbb e (m:=m) Ω,e m Ω];omega
theorem qjW{q:Nat→Qt}{s:Nat→Int}{w:Int}(h:∀i,s i=0):∀{m:Nat},vH q s w m=0
 |0=>rfl
 |m+1=>by simp only[vH];rw[qjW h,h,qjV];rfl
def K9(g:Nat→Rat):List Nat→Rat
 |[]=>0
 |a :: l=>g a+K9 g l
theorem qbc(g:Nat→Rat)(l m:List Nat):K9 g (l++m)=K9 g l+K9 g m:=by
 induction l with
 |nil=>simp only[K9,List.nil_append];grind
 |cons a l ih=>simp only[K9,List.cons_append,ih];grind
theorem qeL{q:Nat→Qt}{l:List Nat}{n A:Nat}:∀{k:Nat},k≤l.length→∀i,stR q (l++[n]) A k i=stR q l A k i
 |0,_,_=>rfl
 |k+1,h,i=>by
  simp only[stR];rw[ZQ Ω,qeL (k:=k) Ω]
structure Good(q:Nat→Qt)(A m:Nat)(w:Int)(l:List Nat):Prop where
 net:((vH q (stR q l A l.length) w m:Int):Rat)=2520*(A:Rat)*K9 (λn=>K8 (q n) w) l
 zero:∀i,i∉l→stR q l A l.length i=0
theorem Good.nil(q:Nat→Qt)(A m:Nat)(w:Int):Good q A m w []:=by
 refine⟨?_,λi _=>rfl⟩;rw[qjW (s:=stR q [] A ([]:List Nat).length) (λi=>rfl)];simp only[K9]
 grind
theorem Good.snoc{q:Nat→Qt}{A m:Nat}{w:Int}{l:List Nat}(h:Good q A m w l)(hq:okO q m)(hn:n<m)(hnl:n∉l)(hA:sz q n ∣ A):Good q A m w (l++[n]):=by
 have e0:(l++[n]).length=l.length+1:=by simp
 have es:∀i,stR q (l++[n]) A (l++[n]).length i=if i=n then(A:Int).tdiv ((q i).d+(q i).n)*(q i).d else stR q l A l.length i:=λi=>by
  rw[e0];simp only[stR];rw[ZR,qeL (xa5 _)]
 refine⟨?_,λi hi=>?_⟩
 ·rw[qbb (s:=stR q l A l.length) (n:=n) (λj hj=>by rw[es,if_neg hj]) hn,h.zero n hnl,qjV,es,if_pos rfl,Rat.intCast_add,Rat.intCast_sub,h.net,qpa (hq n hn) hA,qbc]
  simp only[K9]
  grind
 ·rw[es,if_neg (λe=>hi (by rw[e];simp)),h.zero i (λe=>hi (by simp[e]))]
theorem qjX{q:Nat→Qt}{l:List Nat}:∀{k j:Nat},j<k→sz q (l.getD j 0) ∣ aL q l k
 |0,_,h=>by omega
 |k+1,j,h=>by
  simp only[aL];by_cases e:j=k
  ·subst e;exact Nat.dvd_lcm_right _ _
  ·exact Nat.dvd_trans (qjX (k:=k) (j:=j) Ω) (Nat.dvd_lcm_left _ _)
theorem qmD{q:Nat→Qt}{l:List Nat}(h:n∈l):sz q n ∣ aL q l l.length:=by
 obtain⟨j,hj,e⟩:=List.getElem_of_mem h;have:=qjX (q:=q) (l:=l) hj
 rwa [xc6,xc7 hj,xg0,e]at this
theorem qcW{M:Mk}{lay:Bool}:∀{r n:Nat},n∈pk M lay r→∃k:Nat,k<r∧byS M.q k lay M.m=some n
 |0,n,h=>by cases h
 |r+1,n,h=>by
  cases hb:byS M.q r lay M.m with
  |none=>rw[yX hb]at h;obtain⟨k,h1,h2⟩:=qcW h;exact⟨k,Ω,h2⟩
  |some x=>
   rw[yY hb,xd4,xe0]at h;rcases h with h|rfl
   ·obtain⟨k,h1,h2⟩:=qcW h;exact⟨k,Ω,h2⟩
   ·exact⟨r,Ω,hb⟩
theorem qqL{lay:Bool}{k:Nat}(h:byS M.q k lay M.m=some n):n<M.m∧(M.q n).r=k∧(M.q n).l=lay:=by
 cases lay
 ·exact⟨(yZ h).1,(yZ h).2.1,(yZ h).2.2.1⟩
 ·exact⟨(KC h).1,(KC h).2.1,(KC h).2.2.1⟩
theorem Gq{M:Mk}(hf:M.Fine){lay:Bool}{A:Nat}(w:Int):∀{r:Nat},(∀n,n∈pk M lay r→sz M.q n ∣ A)→Good M.q A M.m w (pk M lay r)
 |0,_=>Good.nil _ _ _ _
 |r+1,h=>by
  cases hb:byS M.q r lay M.m with
  |none=>rw[yX hb]at h ⊢;exact Gq hf w h
  |some x=>
   rw[yY hb]at h ⊢;have⟨x1,x2,x3⟩:=qqL hb;refine(Gq hf w λn hn=>h n (by simp[hn])).snoc hf.od x1 (λhm=>?_) (h x Ωj);obtain⟨k,k1,k2⟩:=qcW hm;have:=(qqL k2).2.1;omega
theorem JJ{w:Nat}:∀{n:Nat},kJ (λk=>ind ((k:Int)=(w:Int))) n=if w<n then 1 else 0
 |0=>by rw[if_neg Ω];rfl
 |n+1=>by
  simp only[kJ];rw[JJ (n:=n)];unfold ind;by_cases e:w=n
  ·subst e;rw[if_neg Ω,if_pos rfl,if_pos Ω];grind
  ·by_cases e2:w<n
   ·rw[if_pos e2,if_neg Ω,if_pos Ω];grind
   ·rw[if_neg e2,if_neg Ω,if_neg Ω];grind
theorem JK{g h:Nat→Rat}:∀{n:Nat},kJ (λk=>g k - h k) n=kJ g n - kJ h n
 |0=>by simp only[kJ];grind
 |n+1=>by simp only[kJ];rw[JK (n:=n)];grind
theorem qeM{g h:Nat→Rat}:∀{n:Nat},(∀j,j<n→g j≤h j)→kJ g n≤kJ h n
 |0,_=>Rat.le_refl
 |n+1,e=>by
  simp only[kJ];have h1:=qeM (n:=n) λj hj=>e j Ω;have h2:=e n Ω
  grind
def Vp(M:Mk)(lay:Bool)(w:Int)(k:Nat):Rat:=match byS M.q k lay M.m with|some n=>K8 (M.q n) w|none=>0
theorem Gr{M:Mk}{lay:Bool}{w:Int}:∀{r:Nat},K9 (λn=>K8 (M.q n) w) (pk M lay r)=kJ (Vp M lay w) r
 |0=>rfl
 |r+1=>by
  simp only[kJ];cases hb:byS M.q r lay M.m with
  |none=>
   rw[yX hb,Gr (r:=r)];unfold Vp;rw[hb];simp only[];grind
  |some x=>
   rw[yY hb,qbc,Gr (r:=r)];have:Vp M lay w r=K8 (M.q x) w:=by unfold Vp;rw[hb]
   rw[this];simp only[K9];grind
theorem qpb(p:Prop)[Decidable p]:0≤ind p∧ind p≤1:=by
 unfold ind;split<;>grind
theorem qjY(w:Int)(k:Nat):rv (M.lo k) - ind ((k:Int)=w)≤Vp M true w k:=by
 have hi:=qpb ((k:Int)=w);unfold Vp;cases hb:byS M.q k true M.m with
 |none=>
  have:M.lo k=⟨0,1⟩:=qjK hb;rw[this,rv0];grind
 |some n=>
  have⟨a1,a2,a3,a4⟩:=KC hb;have a4:M.lo k=xq (M.q n):=a4;rw[a4];simp only[];unfold K8;rw[if_pos a3,a2];exact Rat.le_refl
theorem qgI(w:Int)(k:Nat)(h:rv (M.hi k)<1):Vp M false w k=ind ((k:Int)=w) - rv (M.hi k):=by
 unfold Vp;cases hb:byS M.q k false M.m with
 |none=>
  have:M.hi k=⟨1,1⟩:=qjL hb;rw[this,rv1]at h
  grind
 |some n=>
  have⟨a1,a2,a3,a4⟩:=yZ hb;have a4:M.hi k=xq (M.q n):=a4;rw[a4];simp only[];unfold K8;rw[if_neg (by rw[a3];decide),a2]
end Go.Tv
end
section
namespace Go.Tv
open Go.Sx
variable{l:List Nat}
theorem qjZ{q:Nat→Qt}{l:List Nat}{A m:Nat}(hq:okO q m)(hl:∀n,n∈l→n<m):∀{k:Nat},k≤l.length→∀i,0≤stR q l A k i∧stR q l A k i≤A
 |0,_,i=>by simp only[stR];omega
 |k+1,h,i=>by
  simp only[stR];split
  ·rename_i e
   have hm:l.getD k 0∈l:=by
    rw[xc6,xc7 (Ω:k<l.length)];exact List.getElem_mem _
   have h1:=hq i (e▸hl _ hm);have e1:(q i).d+(q i).n=((sz q i:Nat):Int):=by unfold sz;omega
   rw[e1,tdN];have h2:(0:Int)≤((A / sz q i:Nat):Int):=Int.natCast_nonneg _;have h3:((A / sz q i:Nat):Int)*((sz q i:Nat):Int)≤A:=by
    rw[←Int.natCast_mul];exact Int.ofNat_le.2 (Nat.div_mul_le_self _ _)
   have h4:((A / sz q i:Nat):Int)*(q i).d≤((A / sz q i:Nat):Int)*((sz q i:Nat):Int):=Int.mul_le_mul_of_nonneg_left Ω h2;exact⟨Int.mul_nonneg h2 Ω,Ω⟩
  ·exact qjZ hq hl (k:=k) Ω i
theorem Good.pos{q:Nat→Qt}{A m:Nat}{w:Int}(h:Good q A m w l)(hA:1≤A)(hp:0<K9 (λn=>K8 (q n) w) l):0<vH q (stR q l A l.length) w m:=by
 have h1:(0:Rat)<(A:Rat):=by exact_mod_cast (Ω:0<A)
 have h2:(0:Rat)<2520*(A:Rat):=by grind
 have h3:=Rat.mul_pos h2 hp;rw[←h.net]at h3
 exact_mod_cast h3
theorem KX{g:Nat→Rat}(hg:∀j,0≤g j):∀{n k:Nat},k<n→g k≤kJ g n
 |0,_,h=>by omega
 |n+1,k,h=>by
  simp only[kJ];have h0:∀m,0≤kJ g m:=λm=>by
   induction m with
   |zero=>exact Rat.le_refl
   |succ m ih=>simp only[kJ];have:=hg m;grind
  by_cases e:k=n
  ·subst e;have:=h0 k;grind
  ·have:=KX hg (n:=n) (k:=k) Ω;have:=hg n;grind
theorem Ch.rv0{a:Fr}(h:Ch a):0≤rv a:=by
 have:¬lt a ⟨0,1⟩:=by unfold lt;have:=h.n0;show ¬a.n*1<0*a.d;omega
 rw[vn h.d1 Int.one_pos,Go.Tv.rv0]at this
 grind
theorem qka{M:Mk}(hf:M.Fine)(h:sureV M=some l){w:Nat}(hw:w<M.run.toNat):0<vH M.q (stR M.q l (aL M.q l l.length) l.length) w M.m:=by
 have⟨hl,hl5⟩:=qeI hf h;have⟨a1,_⟩:=qjN hf.od hl l.length (xa5 _);have cl:∀r:Nat,Ch (M.lo r):=λr=>yu hf.od;have ch:∀r:Nat,Ch (M.hi r):=λr=>yv hf.od;have dv:∀n,n∈l→sz M.q n ∣ aL M.q l l.length:=λn hn=>qmD hn;generalize aL M.q l l.length=A at *;have⟨s1,s2⟩:=yw (f:=M.lo) (n:=M.run.toNat) λj _=>(cl j).d1;have⟨t1,t2⟩:=yw (f:=M.hi) (n:=M.run.toNat) λj _=>(ch j).d1;unfold sureV at h;rw[qjQ,qjR]at h;split at h
 ·rename_i hF
  cases h;obtain⟨r0,_,f2,f3,f4⟩:=ZP hF;have⟨⟨n1,b1⟩,n2,b2⟩:=JH hf f4;have en1:byN M (zb (zU M) 0 M.run.toNat).toNat false=n1:=by rw[f3,Int.toNat_natCast];unfold byN;rw[b1];rfl
  have en2:byN M (zb (zU M) 0 M.run.toNat).toNat true=n2:=by rw[f3,Int.toNat_natCast];unfold byN;rw[b2];rfl
  rw[en1,en2]at dv ⊢;have⟨c1,c2,c3,c4⟩:=yZ b1;have⟨d1,d2,d3,d4⟩:=KC b2;have hne:n2∉[n1]:=by
   intro hm;rw[xe0]at hm;subst hm;rw[c3]at d3;cases d3
  have g:=((Good.nil M.q A M.m w).snoc hf.od c1 Ωj (dv n1 Ωj)).snoc hf.od d1 hne (dv n2 Ωj);refine g.pos a1 ?_;have hc:lt (M.hi r0) (M.lo r0):=of_decide_eq_true f4;have hc:=(vn (ch r0).d1 (cl r0).d1).1 hc;rw[show M.hi r0=xq (M.q n1)from c4,show M.lo r0=xq (M.q n2)from d4]at hc;show 0<K8 (M.q n1) w+(K8 (M.q n2) w+0);unfold K8;rw[if_neg (by rw[c3];decide),if_pos d3,c2,d2]
  grind
 ·split at h
  ·rename_i h2
   cases h;refine(Gq hf w dv).pos a1 ?_;rw[Gr];have h3:=qeM (g:=λk=>rv (M.lo k) - ind ((k:Int)=(w:Int))) (h:=Vp M true w) (n:=M.run.toNat) λj _=>qjY w j;rw[JK (g:=λk=>rv (M.lo k)) (h:=λk=>ind ((k:Int)=(w:Int))),JJ,if_pos hw,←s2]at h3;have:=(vn (show(0:Int)<(⟨1,1⟩:Fr).d from Int.one_pos) s1).1 h2;rw[rv1]at this
   grind
  ·split at h
   ·rename_i h2
    cases h;refine(Gq hf w dv).pos a1 ?_;have hs:=(vn t1 (show(0:Int)<(⟨1,1⟩:Fr).d from Int.one_pos)).1 h2;rw[rv1,t2]at hs;have h1:∀k,k<M.run.toNat→rv (M.hi k)<1:=λk hk=>by
     have:=KX (g:=λk=>rv (M.hi k)) (λj=>(ch j).rv0) hk
     grind
    rw[Gr,vo (g:=Vp M false w) (h:=λk=>ind ((k:Int)=(w:Int)) - rv (M.hi k)) λj hj=>qgI w j (h1 j hj),JK (g:=λk=>ind ((k:Int)=(w:Int))) (h:=λk=>rv (M.hi k)),JJ,if_pos hw]
    grind
   ·cases h
theorem sure_ck{M:Mk}(he:M.err=0)(h:sureV M=some l):M.ckS M.m (λi=>stR M.q l (aL M.q l l.length) l.length i)=0:=by
 have hf:=Mk.fine he;have⟨hl,hl5⟩:=qeI hf h;have⟨a1,a2⟩:=qjN hf.od hl l.length (xa5 _);have a3:=qeD hl5;have hst:M.stk M.m (λi=>stR M.q l (aL M.q l l.length) l.length i)=0:=by
  unfold Mk.stk;rw[if_pos he,if_pos rfl,if_pos];intro i _;have:=qjZ (A:=aL M.q l l.length) hf.od hl (xa5 l.length) i;show 0≤stR M.q l (aL M.q l l.length) l.length i∧stR M.q l (aL M.q l l.length) l.length i≤1099511627776;omega
 exact(Mk.ckS_0 hst λw hw=>qka hf h hw).symm
end Go.Tv
end
section
namespace Go.Tv
open Go.Sx
variable{c:Nat→Int}{M:Mk}{k:Nat}
def wT(c:Nat→Int)(f:Nat→Int):Nat→Int
 |0=>0
 |n+1=>wT c f n+c n*f n
theorem qbd{c f g:Nat→Int}:∀{n:Nat},wT c (λw=>f w+g w) n=wT c f n+wT c g n
 |0=>rfl
 |n+1=>by simp only[wT];rw[qbd (n:=n),Int.mul_add];omega
theorem qbe{c f:Nat→Int}:∀{n:Nat},wT c (λw=>-f w) n = -wT c f n
 |0=>rfl
 |n+1=>by simp only[wT];rw[qbe (n:=n),Int.mul_neg];omega
theorem qkb{c:Nat→Int}{q:Qt}{s:Int}{r:Nat}(hr:q.r=r):∀{n:Nat},wT c (λw=>qaS q s w) n = -2520*s*sumTo c n+(if r<n then c r*((2520:Int).tdiv q.d*q.n*s+2520*s)else 0)
 |0=>by rw[if_neg Ω];simp[wT,sumTo]
 |n+1=>by
  simp only[wT,sumTo];rw[qkb hr (n:=n)];unfold qaS;by_cases e:r=n
  ·subst e
   rw[if_neg Ω,if_pos hr,if_pos Ω]
   grind
  ·rw[if_neg (Ω:¬q.r=(n:Int))]
   by_cases e2:r<n
   ·rw[if_pos e2,if_pos (Ω:r<n+1)];grind
   ·rw[if_neg e2,if_neg (Ω:¬r<n+1)];grind
theorem qpc{q:Qt}(h:(0≤q.n∧q.n≤190)∧1≤q.d∧q.d≤10){n:Nat}(hr:0≤q.r∧q.r<n){s:Int}(hs:0≤s)(hq:wd q c (sumTo c n)):wT c (λw=>Vo q s w) n≤0:=by
 obtain⟨r,er⟩:∃r:Nat,q.r=r:=⟨q.r.toNat,Ω⟩;have hX:=qkb (c:=c) (s:=s) er (n:=n);rw[if_pos Ω]at hX;have hd:=qeK h.2.1 h.2.2;have hK:0≤(2520:Int).tdiv q.d:=Int.tdiv_nonneg Ω Ω;generalize (2520:Int).tdiv q.d=K at *;have e : -2520*s*sumTo c n+c r*(K*q.n*s+2520*s)=K*s*(c r*(q.d+q.n) - sumTo c n*q.d):=by
  rw[show(-2520:Int) = -(K*q.d) by omega,show(2520:Int)=K*q.d by omega]
  grind
 rw[e]at hX;have hKs:=Int.mul_nonneg hK hs;unfold wd at hq;rw[er,Int.toNat_natCast]at hq;unfold Vo;by_cases hl:q.l=true
 ·rw[if_pos hl]at hq
  simp only[hl,if_true];rw[qbe (f:=λw:Nat=>qaS q s w),hX];have:=Int.mul_nonneg hKs (Ω:0≤c r*(q.d+q.n) - sumTo c n*q.d);omega
 ·rw[if_neg hl]at hq
  have hl':q.l=false:=by simpa using hl
  simp only[hl',if_false,xe7];rw[hX];have:=Int.mul_nonneg hKs (Ω:0≤sumTo c n*q.d - c r*(q.d+q.n));have e2:K*s*(sumTo c n*q.d - c r*(q.d+q.n)) = -(K*s*(c r*(q.d+q.n) - sumTo c n*q.d)):=by grind
  omega
theorem qob{q:Nat→Qt}{c s:Nat→Int}{n:Nat}:∀{m:Nat},okO q m→okS n q m→(∀i,i<m→0≤s i)→(∀i,i<m→wd (q i) c (sumTo c n))→wT c (λw=>vH q s w m) n≤0
 |0,_,_,_,_=>by
  have:∀k,wT c (λw=>vH q s w 0) k=0:=λk=>by
   induction k with
   |zero=>rfl
   |succ k ih=>
    have ih:wT c (λ_=>0) k=0:=ih;simp only[wT,vH];rw[ih];omega
  rw[this];exact Int.le_refl 0
 |m+1,h1,h2,h3,h4=>by
  have ih:=qob (m:=m) (λi hi=>h1 i Ω) (λi hi=>h2 i Ω) (λi hi=>h3 i Ω) (λi hi=>h4 i Ω);have hv:=qpc (h1 m Ω) (h2 m Ω) (h3 m Ω) (h4 m Ω);simp only[vH];rw[qbd (f:=λw:Nat=>vH q s w m) (g:=λw:Nat=>Vo (q m) (s m) w)];omega
theorem chE_0(h:M.chE k c=0):M.err=0∧(k:Int)=M.run∧okC c k∧fairC M.q c (sumTo c k) M.m:=by
 unfold Mk.chE at h;split at h
 ·rename_i h1
  split at h
  ·rename_i h2
   split at h
   ·rename_i h3
    split at h
    ·rename_i h4;exact⟨h1,h2,h3,h4⟩
    ·cases h
   ·cases h
  ·cases h
 ·rename_i h1;exact absurd h h1
theorem qmE{s:Nat→Int}(h:M.ckS k s=0):M.err=0∧k=M.m∧Yf s k∧qjF M.q s M.m M.run.toNat:=by
 unfold Mk.ckS at h;split at h
 ·rename_i h1
  split at h
  ·rename_i h2
   unfold Mk.stk at h1;split at h1
   ·rename_i h3
    split at h1
    ·rename_i h4
     split at h1
     ·rename_i h5;exact⟨h3,h4,h5,h2⟩
     ·cases h1
    ·cases h1
   ·rename_i h3;exact absurd h1 h3
  ·cases h
 ·rename_i h1;exact absurd h h1
theorem V2{c f:Nat→Int}:∀{n:Nat},(∀j,j<n→0≤c j)→(∀j,j<n→0<f j)→sumTo c n≤wT c f n
 |0,_,_=>Int.le_refl 0
 |n+1,hc,h=>by
  simp only[wT,sumTo];have h1:=V2 (n:=n) (λj hj=>hc j Ω) λj hj=>h j Ω;have h2:=Int.mul_le_mul_of_nonneg_left (show 1≤f n from h n Ω) (hc n Ω);omega
theorem not_both{j:Nat}{s:Nat→Int}(h1:M.chE k c=0)(h2:M.ckS j s=0):False:=by
 have⟨he,hk,⟨hc,hs1,_⟩,hfr⟩:=chE_0 h1;have⟨_,hj,hs,hw⟩:=qmE h2;have hf:=Mk.fine he;subst hj;have hkn:M.run.toNat=k:=by omega
 rw[hkn]at hw;have hst:okS k M.q M.m:=by rw[hk];exact hf.st
 have a:=qob (n:=k) hf.od hst (λi hi=>(hs i hi).1) hfr;have b:=V2 (c:=c) (f:=λw:Nat=>vH M.q s w M.m) (n:=k) (λi hi=>(hc i hi).1) λw hw'=>hw w hw';omega
end Go.Tv
end
section
namespace Go.Tv
open Go.Proofs
open Go.Sx
theorem c37(q:Qt):qb Tryz.prog 37 [I q.r,I q.n,I q.d,B q.l] (qsv q):=by
 refine qc Tryz.func37 rfl Ωb follows Ωb _ _ (by rw[Tryz.ntmps37];simp) (by simp[OldL,Old,I,B]) ?_;unfold qsv I B;repeat' first|refine sD ?_ ?_<;>intro _|refine aA ?_|simp -dsimp only[↓RP,RQ,seval,ql,QF,fsv,B,I,RZ,eq_self,Tryz.results37]
 all_goals first|exact⟨rfl,rfl⟩|exact⟨⟨rfl,rfl⟩,⟨rfl,rfl⟩⟩|exact⟨⟨rfl,rfl⟩,rfl⟩|exact⟨⟨rfl,rfl⟩,⟨rfl,rfl⟩,rfl⟩|skip
end Go.Tv
end
section
namespace Go.Tn
open Go.Proofs
open Go.Sx
theorem TYP:True∧qk Tryz.prog 2=some ⟨false,1,some [.int .i64 0],.int .i64⟩∧qk Tryz.prog 3=some ⟨false,1,some [.int .i64 0],.int .i64⟩∧qk Tryz.prog 4=some ⟨false,1,some [.bool false],.bool⟩∧qk Tryz.prog 5=some ⟨false,1,some [.int .u8 0],.int .u8⟩∧qk Tryz.prog 22=some ⟨false,1,some [.slice none 0 0],.slice 3 1⟩∧qk Tryz.prog 25=some ⟨false,1,some [.slice none 0 0],.slice 5 1⟩∧qk Tryz.prog 28=some ⟨false,1,some [.int .i64 0],.int .i64⟩∧qk Tryz.prog 45=some ⟨false,1,some [.slice none 0 0],.slice 49 2⟩∧qk Tryz.prog 46=some ⟨false,1,some [.slice none 0 0],.slice 51 3⟩∧qk Tryz.prog 48=some ⟨true,8,some [.int .i64 0,.int .i64 0,.slice none 0 0,.slice none 0 0,.bool false,.int .i64 0,.int .i64 0,.int .i64 0],.struct [(0,1,some false),(1,1,some false),(2,1,some false),(3,1,some false),(4,1,some false),(5,1,some false),(6,1,some false),(7,1,some false)]⟩∧qw Tryz.prog 48=some [(0,1),(1,1),(2,1),(3,1),(4,1),(5,1),(6,1),(7,1)]∧qk Tryz.prog 49=some ⟨true,2,some [.int .u8 0,.int .u8 0],.array 2 5 1⟩∧qw Tryz.prog 49=some [(0,1),(1,1)]∧zE Tryz.prog 49=some [.i .u8,.i .u8]∧qk Tryz.prog 51=some ⟨true,3,some [.int .i64 0,.int .i64 0,.int .i64 0],.struct [(0,1,some false),(1,1,some false),(2,1,some false)]⟩∧qw Tryz.prog 51=some [(0,1),(1,1),(2,1)]∧zE Tryz.prog 51=some [.i .i64,.i .i64,.i .i64]∧qk Tryz.prog 55=some ⟨true,2,some [.int .i64 0,.int .i64 0],.array 2 3 1⟩∧qw Tryz.prog 55=some [(0,1),(1,1)]∧zE Tryz.prog 55=some [.i .i64,.i .i64]∧qk Tryz.prog 57=some ⟨true,6,some [.int .i64 0,.int .i64 0,.int .i64 0,.int .i64 0,.int .i64 0,.int .i64 0],.struct [(0,1,some false),(1,1,some false),(2,1,some false),(3,1,some false),(4,1,some false),(5,1,some false)]⟩∧qw Tryz.prog 57=some [(0,1),(1,1),(2,1),(3,1),(4,1),(5,1)]∧zE Tryz.prog 57=some [.i .i64,.i .i64,.i .i64,.i .i64,.i .i64,.i .i64]∧qk Tryz.prog 60=some ⟨false,1,some [.slice none 0 0],.slice 22 1⟩∧qE Tryz.prog 46=24∧qE Tryz.prog 48=96∧qE Tryz.prog 51=24∧qE Tryz.prog 55=16:=⟨trivial,Ωb,Ωb,Ωb,Ωb,Ωb,Ωb,Ωb,Ωb,Ωb,Ωb,Ωb,Ωb,Ωb,Ωb,Ωb,Ωb,Ωb,Ωb,Ωb,Ωb,Ωb,Ωb,Ωb,Ωb,Ωb,Ωb,Ωb,Ωb⟩
def zA(nb:Nat)(f g q:Nat→Int):SV:=.arr false false nb 3 (λi j=>[SV.val (.int .i64 (f i)),.val (.int .i64 (g i)),.val (.int .i64 (q i))].getD j .top)
def qcX(a b c:Int):SV:=.agg [.val (.int .i64 a),.val (.int .i64 b),.val (.int .i64 c)]
def bkS(n:Int)(nb:Nat)(f g q:Nat→Int)(fav:Bool)(c d st:Int):SV:=.agg [.val (.int .i64 0),.val (.int .i64 n),zA nb f g q,.val (.slice none 0 0),.val (.bool fav),.val (.int .i64 c),.val (.int .i64 d),.val (.int .i64 st)]
theorem KD(nb:Nat)(f g q:Nat→Int):Old (zA nb f g q):=by
 simp only[zA,Old];refine⟨trivial,λi j hi hj=>?_⟩;have:j=0∨j=1∨j=2:=by omega
 rcases this with rfl|rfl|rfl<;>simp[Old]
theorem Qa(n:Int)(nb:Nat)(f g q:Nat→Int)(fav:Bool)(c d st:Int):Old (bkS n nb f g q fav c d st):=by
 simp only[bkS,Old,OldL];exact⟨trivial,trivial,KD _ _ _ _,trivial,trivial,trivial,trivial,trivial,trivial⟩
theorem qbf(a b c:Int):Old (qcX a b c):=by simp[qcX,Old,OldL]
def okB(n a b c:Int):Prop:=(1≤c∧c≤1000)∧(0≤a∧a<n)∧b = -1
instance(n a b c:Int):Decidable (okB n a b c):=inferInstanceAs (Decidable (_∧_∧_))
def qkc(n c d st:Int):Prop:=(2≤n∧n≤8)∧(0≤c∧c≤1000000)∧(0≤d∧d≤500)∧1≤st∧st≤100
instance(n c d st:Int):Decidable (qkc n c d st):=inferInstanceAs (Decidable (_∧_∧_∧_∧_))
def ckB(n:Int)(nb:Nat)(f g q:Nat→Int)(c d st:Int):Int:=if ¬qkc n c d st then 3 else if 100<nb then 6 else if ¬(∀i,i<nb→okB n (f i) (g i) (q i))then 16 else 0
theorem ckB_ok{n:Int}{nb:Nat}{f g q:Nat→Int}{c d st:Int}:ckB n nb f g q c d st=0↔qkc n c d st∧nb≤100∧∀i,i<nb→okB n (f i) (g i) (q i):=by
 unfold ckB;by_cases h1:qkc n c d st
 ·rw[if_neg (λh=>h h1)]
  by_cases h2:100<nb
  ·rw[if_pos h2]
   exact⟨λh=>by omega,λh=>by omega⟩
  ·rw[if_neg h2]
   by_cases h3:∀i,i<nb→okB n (f i) (g i) (q i)
   ·rw[if_neg (λh=>h h3)]
    exact⟨λ_=>⟨h1,Ω,h3⟩,λ_=>rfl⟩
   ·rw[if_pos h3]
    exact⟨λh=>by omega,λh=>absurd h.2.2 h3⟩
 ·rw[if_pos h1]
  exact⟨λh=>by omega,λh=>absurd h.1 h1⟩
theorem qqM(x:Int):qb Tryz.prog 94 [.val (.slice none 0 0),I x] (B false):=by
 refine qc Tryz.func94 rfl Ωb follows Ωb _ _ (by rw[Tryz.ntmps94];simp) ΩD ?_;unfold I B;repeat' first|refine sD ?_ ?_<;>intro _|refine aAb ?_|simp -dsimp only[↓RP,RQ,seval,TYP,QT,QN]
 all_goals try exact Ωe
 refine qo (λ(_:Unit)=>True) (λ_=>⟨[(0,.val (.slice none 0 0)),(5,.val (.int .i64 0))],[],10⟩) (λ_=>0) () trivial (qp Ω Ωh (SubHp.refl _)) λz hz=>?_;repeat' first|refine sD ?_ ?_<;>intro _|refine aAb ?_|simp -dsimp only[↓RP,RQ,seval,TYP,QT,QN]
 all_goals try exact Ωe
theorem qrF  : qb Tryz.prog 182 [.val (.int .i64 0)] (B true):=by
 refine qc Tryz.func182 rfl Ωb follows Ωb _ _ (by rw[Tryz.ntmps182];simp) ΩD ?_;unfold B;repeat' first|refine sD ?_ ?_<;>intro _|refine aAb ?_|simp -dsimp only[↓RP,RQ,seval,TYP,QT,QN]
 all_goals try exact Ωe
theorem c90(n:Int)(nb:Nat)(f g q:Nat→Int)(fav:Bool)(c d st:Int)(x y z:Int):qb Tryz.prog 90 [bkS n nb f g q fav c d st,qcX x y z] (B (decide (okB n x y z))):=by
 refine qc Tryz.func90 rfl Ωb follows Ωb _ _ (by rw[Tryz.ntmps90];simp) ΩD ?_;have h1:=qrF;unfold bkS qcX B zA;by_cases g1:(1≤z∧z≤1000)∧(0≤x∧x<n)
 ·have d1:=decide_eq_false (Ω:¬z<1)
  have d2:=decide_eq_false (Ω:¬1000<z);have d3:=decide_eq_false (Ω:¬x<0);have d4:=decide_eq_false (Ω:¬n≤x);repeat' first|refine sD ?_ ?_<;>intro _|refine aAb ?_|simp -dsimp only[↓RP,RQ,seval,d1,d2,d3,d4,TYP,QT,QN]
  all_goals try exact Ωe
  refine qh (h1) (by(simp -dsimp only[↓RP,RQ,seval,QV,hsv,ints,I,B]);all_goals (try simp[QV,Go.Sx.Sub,Go.Sx.SubL])) Ωt ?_;repeat' first|refine sD ?_ ?_<;>intro _|refine aAb ?_|simp -dsimp only[↓RP,RQ,seval,QT,TYP,QN]
  all_goals try exact Ωe
  refine Zu ?_;unfold okB;simp[g1]
 ·repeat' first|refine sD ?_ ?_<;>intro _|refine aAb ?_|simp -dsimp only[↓RP,RQ,seval,TYP,QT,QN]
  all_goals try exact Ωe
  all_goals exact Zu (by rw[decide_eq_false];exact λh=>g1 ⟨h.1,h.2.1⟩)
theorem c25(n:Int)(nb:Nat)(f g q:Nat→Int)(fav:Bool)(c d st:Int)(hnb:nb≤1000000):qb Tryz.prog 25 [bkS n nb f g q fav c d st] (I (ckB n nb f g q c d st)):=by
 refine qc Tryz.func25 rfl Ωb follows Ωb _ _ (by rw[Tryz.ntmps25];simp) ΩD ?_;have NB:True:=trivial;unfold bkS I;by_cases g1:qkc n c d st
 ·have⟨⟨a1,a2⟩,⟨a3,a4⟩,⟨a5,a6⟩,a7,a8⟩:=g1
  have d1:=decide_eq_false (Ω:¬n<2);have d2:=decide_eq_false (Ω:¬8<n);have d3:=decide_eq_false (Ω:¬c<0);have d4:=decide_eq_false (Ω:¬1000000<c);have d5:=decide_eq_false (Ω:¬d<0);have d6:=decide_eq_false (Ω:¬500<d);have d7:=decide_eq_false (Ω:¬st<1);have d8:=decide_eq_false (Ω:¬100<st);have z0:=decide_eq_false (Ω:¬(0:Int)<0);have z3:=decide_eq_false (Ω:¬(3:Int)<0);have NB:=(⟨d1,d2,d3,d4,d5,d6,d7,d8,z0,z3⟩:_∧_∧_∧_∧_∧_∧_∧_∧_∧_);by_cases g2:100<nb
  ·have e1:=decide_eq_true (Ω:(100:Int)<(nb:Nat))
   repeat' first|refine sD ?_ ?_<;>intro _|refine aAb ?_|simp -dsimp only[↓RP,RQ,seval,zA,e1,TYP,NB,QR,QT,QN]
   all_goals try exact Ωe
   refine zO ?_;unfold ckB;rw[if_neg (λh=>h g1),if_pos g2]
  ·have e1:=decide_eq_false (Ω:¬(100:Int)<(nb:Nat))
   repeat' first|refine sD ?_ ?_<;>intro _|refine aAb ?_|simp -dsimp only[↓RP,RQ,seval,zA,e1,TYP,NB,QR,QT,QN]
   all_goals try exact Ωe
   refine qo (λ(w:Nat)=>w≤nb∧∀i,i<w→okB n (f i) (g i) (q i)) (λw=>⟨[(1,.ptr 0 0),(3,.val (.int .i64 (w:Nat)))],[(0,.cells 48 [.val (.int .i64 0),.val (.int .i64 n),zA nb f g q,.val (.slice none 0 0),.val (.bool fav),.val (.int .i64 c),.val (.int .i64 d),.val (.int .i64 st)])],200+40*w⟩) (λw=>nb - w) 0 ⟨xb6 _,λi hi=>by omega⟩ (qp Ω Ωh (SubHp.refl _)) λw hw=>?_;obtain⟨hw,hk⟩:=hw;by_cases hwm:w<nb
   ·have hlt:=decide_eq_true (Ω:((w:Nat):Int)<(nb:Nat))
    have h90:=c90 n nb f g q fav c d st (f w) (g w) (q w);repeat' first|refine sD ?_ ?_<;>intro _|refine aAb ?_|simp -dsimp only[↓RP,RQ,seval,zA,hlt,TYP,NB,QR,QT,QN]
    all_goals try exact Ωe
    refine qh (h90) (by simp only[SubL,and_true];exact⟨zD _ (Qa _ _ _ _ _ _ _ _ _),zD _ (qbf _ _ _)⟩) Ωt ?_;by_cases ho:okB n (f w) (g w) (q w)
    ·have e2:=decide_eq_true ho
     repeat' first|refine sD ?_ ?_<;>intro _|refine aAb ?_|simp -dsimp only[↓RP,RQ,seval,QT,e2,TYP,NB,QR,QN]
     all_goals try exact Ωe
     exact⟨w+1,⟨hwm,λi hi=>(by by_cases e:i=w;(subst e;exact ho);exact hk i Ω)⟩,Ω,qp Ω Ωh (SubHp.refl _)⟩
    ·have e2:=decide_eq_false ho
     repeat' first|refine sD ?_ ?_<;>intro _|refine aAb ?_|simp -dsimp only[↓RP,RQ,seval,QT,e2,TYP,NB,QR,QN]
     all_goals try exact Ωe
     refine zO ?_;unfold ckB;rw[if_neg (λh=>h g1),if_neg g2,if_pos (λh=>ho (h w hwm))]
   ·obtain rfl:nb=w:=by omega
    have hlt:=decide_eq_false (Ω:¬((nb:Nat):Int)<(nb:Nat));have d9:=decide_eq_false (Ω:¬n - 2<(0:Int));repeat' first|refine sD ?_ ?_<;>intro _|refine aAb ?_|simp -dsimp only[↓RP,RQ,seval,zA,hlt,d9,TYP,NB,QR,QT,QN]
    all_goals try exact Ωe
    refine qo (λ(_:Unit)=>True) (λ_=>⟨[(1,.ptr 0 0),(4,.val (.int .i64 0))],[(0,.cells 48 [.val (.int .i64 0),.val (.int .i64 n),zA nb f g q,.val (.slice none 0 0),.val (.bool fav),.val (.int .i64 c),.val (.int .i64 d),.val (.int .i64 st)])],300+40*nb⟩) (λ_=>0) () trivial (qp Ω Ωh (SubHp.refl _)) λz hz=>?_;have d10:=decide_eq_false (Ω:¬(0:Int)<0);repeat' first|refine sD ?_ ?_<;>intro _|refine aAb ?_|simp -dsimp only[↓RP,RQ,seval,zA,d10,TYP,NB,QR,QT,QN]
    all_goals try exact Ωe
    refine zO (ckB_ok.2 ⟨g1,Ω,hk⟩).symm
 ·have z0:=decide_eq_false (Ω:¬(0:Int)<0)
  have z3:=decide_eq_false (Ω:¬(3:Int)<0);repeat' first|refine sD ?_ ?_<;>intro _|refine aAb ?_|simp -dsimp only[↓RP,RQ,seval,zA,z0,z3,TYP,NB,QR,QT,QN]
  all_goals try exact Ωe
  all_goals first|(exfalso;exact g1 ⟨⟨Ω,Ω⟩,⟨Ω,Ω⟩,⟨Ω,Ω⟩,Ω,Ω⟩)|skip
  all_goals refine zO ?_
  all_goals (unfold ckB;rw[if_pos g1])
end Go.Tn
end
section
namespace Go.Tn
open Go.Proofs
open Go.Sx
theorem TYQ:True∧qk Tryz.prog 32=some ⟨false,1,some [.slice none 0 0],.slice 2 1⟩:=⟨trivial,Ωb⟩
theorem qoI(m:Nat)(u:Nat→Int)(g:Nat)(caps:List SV)(ho:OldL caps)(b:Nat→Bool)(hm:m≤1000000)(hg:∀i,i<m→qb Tryz.prog g (.val (.int .i64 (u i)) :: caps) (B (b i))):qb Tryz.prog 304 [ints m u,.fn (.func g) [] caps] (I (zb b 0 m)):=by
 refine qc Tryz.func304 rfl Ωb follows Ωb _ _ (by rw[Tryz.ntmps304];simp) (by simp[OldL,Old,QV,ints,I,ho]) ?_
 conv=>arg 4;unfold ints
 (simp -dsimp only[↓RP,RQ,seval,TYQ,TYP,TY,Tryz.results304]);refine qo (λi=>i≤m∧zb b 0 m=zb b i (m - i)) (λi=>⟨[(0,.arr false false m 1 (λi _=>.val (.int .i64 (u i)))),(1,.fn (.func g) [] caps),(7,.val (.int .i64 m)),(8,.val (.int .i64 i))],[],0⟩) (λi=>m - i) 0 ⟨xb6 _,rfl⟩ (weak [] [] ?_ ?_ ?_) λi hi=>?_
 ·(simp -dsimp only[↓RP,RQ,seval,QV]);all_goals (try simp[wkL_refl caps ho,QV])
 iterate 2 focus(simp -dsimp only[↓RP,RQ,seval,QV])
 obtain⟨hi,he⟩:=hi;have e1:∀k,m - i=k+1→zb b i (m - i)=if b i=true then(i:Int)else zb b (i+1) k:=λk hk=>by rw[hk];rfl
 repeat' first|refine sD ?_ ?_<;>intro _|refine aA ?_|simp -dsimp only[↓RP,RQ,seval,QT,TYQ,TYP,QN]
 ·rename_i hlt
  have hlt:i<m:=by omega
  have e2:=e1 (m -(i+1)) Ω;refine qh (hg i hlt) (by(simp -dsimp only[↓RP,RQ,seval,QV,I]);all_goals (try simp[subL_refl caps ho,QV])) (by(simp -dsimp only[↓RP,RQ,seval,B])) ?_;repeat' first|refine sD ?_ ?_<;>intro _|refine aA ?_|simp -dsimp only[↓RP,RQ,seval,QT,TYQ,TYP,QN]
  ·rename_i h
   refine zO ?_;rw[he,e2,if_pos h]
  ·rename_i h1
   refine⟨i+1,⟨Ω,?_⟩,Ω,weak [] [] ?_ ?_ ?_⟩
   ·rw[he,e2,if_neg (by simp[h1])]
   ·(simp -dsimp only[↓RP,RQ,seval,QV]);all_goals (try simp[wkL_refl caps ho,QV])
   iterate 2 focus(simp -dsimp only[↓RP,RQ,seval,QV])
 ·rename_i hlt
  refine zO ?_;have:m - i=0:=by omega
  rw[he,this];rfl
theorem qqw(m:Nat)(u:Nat→Int)(g:Nat)(caps:List SV)(ho:OldL caps)(b:Nat→Bool)(hm:m≤1000000)(hg:∀i,i<m→qb Tryz.prog g (.val (.int .i64 (u i)) :: caps) (B (b i))):qb Tryz.prog 202 [ints m u,.fn (.func g) [] caps] (B (decide (qiC b m))):=by
 refine qc Tryz.func202 rfl Ωb follows Ωb _ _ (by rw[Tryz.ntmps202];simp) (by simp[OldL,Old,QV,ints,I,ho]) ?_;(simp -dsimp only[↓RP,RQ,seval,TY,QV,QN]);refine qh (qoI m u g caps ho b hm hg) (by(simp -dsimp only[↓RP,RQ,seval,QV,ints]);all_goals (try simp[subL_refl caps ho,QV])) (by(simp -dsimp only[↓RP,RQ,seval,I])) ?_;(repeat' (first|refine sD ?_ ?_<;>intro _|refine aA ?_|simp -dsimp only[↓RP,RQ,seval,I,B,QV,TYQ,TYP,TY,QN]));refine Zu ?_;rw[Bool.eq_iff_iff];simp[←qiD]
end Go.Tn
end
section
namespace Go.Tn
open Go.Proofs
open Go.Sx
end Go.Tn
end
section
namespace Go.Tn
open Go.Proofs
open Go.Sx
theorem qbg:qk Tryz.prog 22=some ⟨false,1,some [.slice none 0 0],.slice 3 1⟩:=by kernel_rfl
theorem ty3:qk Tryz.prog 3=some ⟨false,1,some [.int .i64 0],.int .i64⟩:=by kernel_rfl
theorem qkd{O:Ctx}{fr:List (Nat×SV)}{hp:List (Nat×Blk)}{nid d id n k:Nat}(h:Go.Sx.look fr d=.vec id n k):Weak O ⟨fr,hp,nid⟩ ⟨putFr fr d (.que id 0 n k),hp,nid⟩:=λbase okc ns outs x w ⟨r,h'⟩=>⟨r,h'.sat,h'.keys,λi=>by
 show Rep _ _ _ _ (Go.Sx.look (putFr fr d _) i) _;rw[zq];split
 ·rename_i e
  have hv:=h'.fr d;rw[show(⟨fr,hp,nid⟩:St).fr=fr from rfl,h]at hv;rw[e];generalize x.tmps.getD d undef=v at hv ⊢;cases hv with
  |vecNil _ _ hN hr=>exact Rep.queNil (N:=λx=>x<nid) _ _ _ _ hN
  |vec _ _ _ b cap cs t hN hr hb hcs hcap hmx=>
   have q:=Rep.que (N:=λx=>x<nid) (G:=Gd base okc r (λx=>x<nid) hp w) id 0 n k b cap cs t hN hr hb (by rw[xb0];exact hcs) hcap (by rw[xb0];exact hmx)
   simp_all
 ·exact h'.fr i,h'.size,h'.lo,h'.out,h'.rfix,h'.defers⟩
def setN(f:Nat→Nat)(k x:Nat):Nat→Nat:=λi=>if i=k then x else f i
def kT(start i:Nat):List Nat→Nat→(Nat→Nat)→List Nat→Bool×(Nat→Nat)×List Nat
 |[],_,by',wait=>(false,by',wait)
 |to :: l,w,by',wait=>if 0<by' to then kT start i l (w+1) by' wait else if to=start then(true,setN by' to (1+i*5+w),wait)else kT start i l (w+1) (setN by' to (1+i*5+w)) (wait++[to])
def qgJ(L:Nat→List Nat)(start:Nat):Nat→(Nat→Nat)→List Nat→Option (Bool×(Nat→Nat))
 |0,_,_=>none
 |_+1,by',[]=>some (false,by')
 |f+1,by',i :: wait=>if (kT start i (L i) 0 by' wait).1=true then some (true,(kT start i (L i) 0 by' wait).2.1)else qgJ L start f (kT start i (L i) 0 by' wait).2.1 (kT start i (L i) 0 by' wait).2.2
def JL(L:Nat→List Nat)(N fb fk:Nat):Nat→Nat→List Nat→Option (List Nat)
 |0,_,best=>some best
 |k+1,start,best=>match qgJ L start fb (λ_=>0) [start]with
  |none=>none
  |some (false,_)=>JL L N fb fk k (start+1) best
  |some (true,by')=>match VX by' N start fk start []with
   |none=>none
   |some l=>JL L N fb fk k (start+1) (if best.length=0∨l.length<best.length then l.reverse else best)
structure Cl(N:Nat)(L:Nat→List Nat)(nx:Nat→Nat→SV)(H:List (Nat×Blk))(id tb xid:Nat)(A R M:SV)(sid:Nat):Prop where
 N5:N≤100000
 l5:∀i,i<N→(L i).length≤5
 inn:∀i,i<N→∀a,a∈L i→a<N
 tb:blk H tb=some (.cells 253 [A,.vec sid N 5,.vec xid N 1,R,M])
 xid:blk H xid=some (.rows 22 1 N nx)
 nx:∀i,i<N→(L i=[]∧nx i 0=.val (.slice none 0 0))∨∃xi r,nx i 0=.vec xi (L i).length 1∧blk H xi=some (.rows 3 1 (L i).length r)∧qcR (L i) r
 und:Under H id
structure QI(N:Nat)(L:Nat→List Nat)(start fb n1:Nat)(Rb:Bool×(Nat→Nat))(f c:Nat)(by':Nat→Nat)(byr:Nat→Nat→SV)(wait:List Nat)(wid off:Nat)(J:Nat→Nat→SV):Prop where
 fu:f+c=fb
 run:qgJ L start f by' wait=some Rb
 row:∀x,x<N→byr x 0=.val (.int .i64 (by' x:Nat))
 le:∀x,x<N→by' x≤1000000
 lt:∀x,x∈wait→x<N
 J:∀i,i<wait.length→J (off+i) 0=.val (.int .i64 (wait.getD i 0:Nat))
 off:off≤c
 len:wait.length≤1+5*c
 w1:n1+11≤wid
 w2:wid<n1+20+450*c
structure RI(N:Nat)(L:Nat→List Nat)(start i c n1 n2 nr:Nat)(R3:Bool×(Nat→Nat)×List Nat)(k:Nat)(by':Nat→Nat)(byr:Nat→Nat→SV)(wait:List Nat)(wid off:Nat)(J:Nat→Nat→SV):Prop where
 kl:k≤(L i).length
 run:kT start i ((L i).drop k) k by' wait=R3
 row:∀x,x<N→byr x 0=.val (.int .i64 (by' x:Nat))
 le:∀x,x<N→by' x≤1000000
 lt:∀x,x∈wait→x<N
 J:∀i,i<wait.length→J (off+i) 0=.val (.int .i64 (wait.getD i 0:Nat))
 off:off≤c+1
 len:wait.length≤nr+k
 w1:n1+11≤wid
 w2:wid<n2+40+60*k
def bSV(bid:Nat)(best:List Nat):SV:=match best with
 |[]=>.val (.slice none 0 0)
 |_ :: l=>.vec bid (l.length+1) 1
def bH(bid:Nat)(best:List Nat)(r:Nat→Nat→SV)(H:List (Nat×Blk)):List (Nat×Blk):=match best with
 |[]=>H
 |_ :: l=>(bid,.rows 3 1 (l.length+1) r) :: H
theorem Cl.bH{N:Nat}{L:Nat→List Nat}{nx:Nat→Nat→SV}{H:List (Nat×Blk)}{id tb xid:Nat}{A R M:SV}{sid:Nat}(h:Cl N L nx H id tb xid A R M sid){bid:Nat}{best:List Nat}{r:Nat→Nat→SV}{n:Nat}(hn:id≤n)(hb:best≠[]→id≤bid∧bid<n):Cl N L nx (bH bid best r H) n tb xid A R M sid:=by
 cases best with
 |nil=>exact⟨h.N5,h.l5,h.inn,h.tb,h.xid,h.nx,λk x hx=>xa9 (h.und k x hx) hn⟩
 |cons x l=>
  have⟨h1,h2⟩:=hb Ωj;have key:∀k y,blk H k=some y→blk ((bid,.rows 3 1 (l.length+1) r) :: H) k=some y:=λk y hy=>by
   have:=h.und k y hy;simp only[blk];rw[if_neg Ω];exact hy
  refine⟨h.N5,h.l5,h.inn,key _ _ h.tb,key _ _ h.xid,λi hi=>?_,λk y hy=>?_⟩
  ·rcases h.nx i hi with c|⟨xi,r',c1,c2,c3⟩
   ·exact .inl c
   ·exact .inr ⟨xi,r',c1,key _ _ c2,c3⟩
  ·simp only[Go.Tn.bH,blk]at hy
   split at hy
   ·omega
   ·exact xa9 (h.und k y hy) hn
theorem qke{b:Nat}{l:List Nat}(h:0<l.length):bSV b l=.vec b l.length 1:=by
 cases l with
 |nil=>cases h
 |cons x l=>rfl
theorem qoc{b:Nat}{l:List Nat}{r:Nat→Nat→SV}{H:List (Nat×Blk)}(h:0<l.length):bH b l r H=(b,.rows 3 1 l.length r) :: H:=by
 cases l with
 |nil=>cases h
 |cons x l=>rfl
theorem e73(N:Nat)(L:Nat→List Nat)(nx:Nat→Nat→SV)(H:List (Nat×Blk))(id tb xid:Nat)(A R M:SV)(sid fb fk:Nat)(res0:List Nat)(h:Cl N L nx H id tb xid A R M sid)(hfb:fb≤100000)(hfk:fk≤100000)(hF:JL L N fb fk N 0 []=some res0)(C:Nat)(hCC:C=500*fb+100*fk+2000) :
  EffVC Tryz.prog 73 [.ptr tb 0] H id (λhp' nid' res=>nid'≤id+100+C*N∧∃bid r,(res0≠[]→id≤bid∧bid<nid')∧qcR res0 r∧hp'=bH bid res0 r H∧res=bSV bid res0):=by
 refine yP (qV [(16,[(0,0)])]) follows Tryz.func73 rfl Ωb Ωb (by rw[Tryz.ntmps73];simp) λout=>?_;have NB:True:=trivial;have hN5:=h.N5;repeat' first|refine sD ?_ ?_<;>intro _|refine aAf ?_|simp -dsimp only[↓RP,RQ,seval,h.tb,↓RY,NB,QS,QT,qT,QN]
 all_goals try exact Ωe
 refine qo (λ(z:Nat×List Nat×Nat×(Nat→Nat→SV))=>z.1≤N∧JL L N fb fk (N - z.1) z.1 z.2.1=some res0∧qcR z.2.1 z.2.2.2∧(z.2.1≠[]→id≤z.2.2.1∧z.2.2.1<id+20+C*z.1)) (λz=>⟨[(0,.ptr tb 0),(3,bSV z.2.2.1 z.2.1),(15,.val (.int .i64 (N:Nat))),(16,.val (.int .i64 (z.1:Nat)))],bH z.2.2.1 z.2.1 z.2.2.2 H,id+20+C*z.1⟩) (λz=>N - z.1) (0,[],0,λ_ _=>.top) ⟨xb6 _,hF,λi hi=>(by cases hi),λhh=>absurd rfl hh⟩ (qp (by simp only[];omega) (by simp[zj,Go.Sx.look,bSV]) (SubHp.refl _)) λz hz=>?_;obtain⟨start,best,bid,br⟩:=z;obtain⟨z1,z2,z3,z4⟩:=hz;simp only[]at z1 z2 z3 z4;obtain⟨n1,hn1⟩:∃n1,n1=id+20+C*start:=⟨_,rfl⟩;have hid1:id≤n1:=by rw[hn1,xb2];exact Nat.le_add_right _ _
 rw[←hn1]at z4;simp only[];rw[←hn1];by_cases hlt:start<N
 ·have hlt1:=decide_eq_true (Ω:((start:Nat):Int)<(N:Nat))
  have hC:=h.bH (r:=br) hid1 z4;obtain⟨bv,hbv⟩:∃bv,bv=bSV bid best:=⟨_,rfl⟩;obtain⟨H2,hH2⟩:∃H2,H2=bH bid best br H:=⟨_,rfl⟩;rw[←hbv,←hH2];rw[←hH2]at hC;have htb:=hC.und _ _ hC.tb;have hxid:=hC.und _ _ hC.xid;have NB:=(⟨nmA htb,nmA hxid⟩:_∧_);repeat' first|refine sD ?_ ?_<;>intro _|refine aAf ?_|simp -dsimp only[↓RP,RQ,seval,hlt1,hC.tb,↓RY,NB,QS,QT,qT,QN]
  all_goals try exact Ωe
  have hk:N - start=(N -(start+1))+1:=by omega
  rw[hk]at z2;simp only[JL]at z2;cases hb0:qgJ L start fb (λ_=>0) [start]with
  |none=>rw[hb0]at z2;cases z2
  |some Rb=>
  rw[hb0]at z2;refine qo (λ(z:Nat×Nat×(Nat→Nat)×(Nat→Nat→SV)×List Nat×Nat×Nat×(Nat→Nat→SV))=>QI N L start fb n1 Rb z.1 z.2.1 z.2.2.1 z.2.2.2.1 z.2.2.2.2.1 z.2.2.2.2.2.1 z.2.2.2.2.2.2.1 z.2.2.2.2.2.2.2) (λz=>⟨[(0,.ptr tb 0),(3,bv),(4,.val (.int .i64 (start:Nat))),(5,.vec (n1+8) N 1),(6,.que z.2.2.2.2.2.1 (z.2.2.2.2.2.2.1) (z.2.2.2.2.1.length) 1),(15,.val (.int .i64 (N:Nat))),(16,.val (.int .i64 (start:Nat)))],(z.2.2.2.2.2.1,.rows 3 1 (z.2.2.2.2.2.2.1+z.2.2.2.2.1.length) z.2.2.2.2.2.2.2) ::(n1+8,.rows 3 1 N z.2.2.2.1) :: H2,n1+20+450*z.2.1⟩) (λz=>z.1) (fb,0,λ_=>0,λx j=>SV.val ([Value.int IntKind.i64 0].getD j undef),[start],n1+11,0,λi j=>[SV.val (.int .i64 (start:Nat))].getD (i+j) SV.top) ⟨rfl,hb0,λx hx=>rfl,λx hx=>xb6 _,λx hx=>(by rw[List.mem_singleton.1 hx];exact hlt),λi hi=>(by have hi:i<1:=hi;obtain rfl:i=0:=Ω;rfl),xa5 _,Ωj,xa5 _,(by show n1+11<n1+20+450*0;omega)⟩ (Weak.trans (qkd (d:=6) rfl) (qp (by simp only[];omega) (by simp[zj,Go.Sx.look,putFr]) (SubHp.refl _))) λz hz=>?_;obtain⟨f,c,by',byr,wait,wid,off,J⟩:=z;have hz':QI N L start fb n1 Rb f c by' byr wait wid off J:=hz
  obtain⟨y1,y2,y3,y4,y5,y6,y7,y8,y9,y10⟩:=hz';simp only[];cases f with
  |zero=>cases y2
  |succ f=>
  obtain⟨n2,hn2⟩:∃n2,n2=n1+20+450*c:=⟨_,rfl⟩;rw[←hn2];have hw2:wid<n2:=by omega
  clear NB;have NB:=(⟨nmA (Ω:tb<n2),nmA (Ω:xid<n2),nmA hw2,nmE (Ω:wid≠tb),nmE (Ω:wid≠xid),nmE (Ω:wid≠n1+8),nmA htb,nmA hxid,nmA (Ω:n1+8<n2)⟩:_∧_∧_∧_∧_∧_∧_∧_∧_);cases wait with
  |nil=>
   simp only[qgJ]at y2;cases y2;repeat' first|refine sD ?_ ?_<;>intro _|refine aAf ?_|simp -dsimp only[↓RP,RQ,seval,hC.tb,↓RY,NB,QS,QT,qT,QN]
   all_goals try exact Ωe
   refine⟨(start+1,best,bid,br),⟨Ω,z2,z3,λhh=>?_⟩,by first|omega|(simp only[];omega)|(dsimp only;omega),?_⟩
   ·grind
   ·have hX:id+(20+C*(start+1))=n1+C:=by rw[hn1,Nat.mul_add,Nat.mul_one];omega
    simp only[];rw[hX,←hbv,←hH2];exact qp Ω Ωh (SubHp.skip (hC.und.none Ω) (SubHp.skip (hC.und.none Ω) (SubHp.refl _)))
  |cons i rest=>
   have hi:i<N:=y5 i xd5;have hgt:=decide_eq_true (Ω:(0:Int)<((rest.length+1:Nat):Int));have hJ0:=y6 0 Ωj;rw[xb1]at hJ0;have hJ1:J off 0=SV.val (.int .i64 (i:Nat)):=hJ0;rw[xe4]at y8;have hql:((rest.length+1:Nat):Int) - 1=((rest.length:Nat):Int):=by omega
   obtain⟨R3,hR3⟩:∃R3,R3=kT start i (L i) 0 by' rest:=⟨_,rfl⟩
   simp only[qgJ]at y2;rw[←hR3]at y2;have hl5:=hC.l5 i hi;rcases hC.nx i hi with⟨c1,c2⟩|⟨xi,r,c1,c2,c3⟩
   ·rw[c1]at hR3
    simp only[kT]at hR3;subst hR3;simp only[xe7,if_false]at y2;repeat' first|refine sD ?_ ?_<;>intro _|refine aAf ?_|simp -dsimp only[↓RP,RQ,seval,hgt,hql,hC.tb,hC.xid,hJ1,c2,↓RY,NB,QS,QT,qT,QN]
    all_goals try exact Ωe
    refine qo (λ(z:Unit)=>True) (λ_=>⟨[(0,.ptr tb 0),(3,bv),(4,.val (.int .i64 (start:Nat))),(5,.vec (n1+8) N 1),(6,.que wid (off+1) (rest.length) 1),(15,.val (.int .i64 (N:Nat))),(16,.val (.int .i64 (start:Nat)))]++[(42,.val (.int .i64 0)),(43,.val (.int .i64 0))],(wid,.rows 3 1 (off+1+rest.length) J) ::(n1+8,.rows 3 1 N byr) :: H2,n2+100⟩) (λ_=>0) () trivial (qp Ω Ωh (by rw[show off+(rest.length+1)=off+1+rest.length by omega];exact SubHp.refl _)) λz hz=>?_;repeat' first|refine sD ?_ ?_<;>intro _|refine aAf ?_|simp -dsimp only[↓RP,RQ,seval,↓RY,NB,QS,QT,qT,QN]
    all_goals try exact Ωe
    have hq:QI N L start fb n1 Rb f (c+1) by' byr rest wid (off+1) J:=⟨Ω,y2,y3,y4,λx hx=>y5 x (List.mem_cons_of_mem _ hx),λi hi=>by
     have:=y6 (i+1) Ωu;rw[show off+1+i=off+(i+1) by omega,this];rfl,Ω,Ω,y9,Ω⟩
    exact⟨(f,c+1,by',byr,rest,wid,off+1,J),hq,Ωk,qp Ωk Ωh (by dsimp only;rw[show off+1+rest.length=off+(1+rest.length) by omega];exact SubHp.refl _)⟩
   ·have hxi:=hC.und _ _ c2
    have NX:=(⟨nmA (Ω:xi<n2),nmE (Ω:xi≠wid),nmA (Ω:xi<n1)⟩:_∧_∧_);repeat' first|refine sD ?_ ?_<;>intro _|refine aAf ?_|simp -dsimp only[↓RP,RQ,seval,hgt,hql,hC.tb,hC.xid,hJ1,c1,↓RY,NB,QS,QT,qT,QN]
    all_goals try exact Ωe
    refine qo (λ(z:Nat×(Nat→Nat)×(Nat→Nat→SV)×List Nat×Nat×Nat×(Nat→Nat→SV))=>RI N L start i c n1 n2 rest.length R3 z.1 z.2.1 z.2.2.1 z.2.2.2.1 z.2.2.2.2.1 z.2.2.2.2.2.1 z.2.2.2.2.2.2) (λz=>⟨[(0,.ptr tb 0),(3,bv),(4,.val (.int .i64 (start:Nat))),(5,.vec (n1+8) N 1),(6,.que z.2.2.2.2.1 (z.2.2.2.2.2.1) (z.2.2.2.1.length) 1),(15,.val (.int .i64 (N:Nat))),(16,.val (.int .i64 (start:Nat)))]++[(7,.val (.int .i64 (i:Nat))),(41,.vec xi (L i).length 1),(42,.val (.int .i64 ((L i).length:Nat))),(43,.val (.int .i64 (z.1:Nat)))],(z.2.2.2.2.1,.rows 3 1 (z.2.2.2.2.2.1+z.2.2.2.1.length) z.2.2.2.2.2.2) ::(n1+8,.rows 3 1 N z.2.2.1) :: H2,n2+40+60*z.1⟩) (λz=>(L i).length - z.1) (0,by',byr,rest,wid,off+1,J) (by
     have:RI N L start i c n1 n2 rest.length R3 0 by' byr rest wid (off+1) J:=⟨xb6 _,hR3.symm,y3,y4,λx hx=>y5 x (List.mem_cons_of_mem _ hx),λi hi=>by
      have:=y6 (i+1) Ωu;rw[show off+1+i=off+(i+1) by omega,this];rfl,Ω,Ω,y9,Ω⟩
     exact this) (qp Ωk Ωh (by dsimp only;rw[show off+(rest.length+1)=off+1+rest.length by omega];exact SubHp.refl _)) λz hz=>?_
    obtain⟨k,by1,byr1,wait1,wid1,off1,J1⟩:=z;have hz':RI N L start i c n1 n2 rest.length R3 k by1 byr1 wait1 wid1 off1 J1:=hz;obtain⟨x1,x2,x3,x4,x5,x6,x7,x8,x9,x10⟩:=hz';dsimp only;obtain⟨n3,hn3⟩:∃n3,n3=n2+40+60*k:=⟨_,rfl⟩;rw[←hn3];have hw3:wid1<n3:=by omega
    clear NB NX;have NB:=(⟨nmA (Ω:tb<n3),nmA (Ω:xid<n3),nmA hw3,nmE (Ω:wid1≠tb),nmE (Ω:wid1≠xid),nmE (Ω:wid1≠n1+8),nmA htb,nmA hxid,nmA (Ω:n1+8<n3),nmA (Ω:xi<n3),nmE (Ω:xi≠wid1),nmA (Ω:xi<n1)⟩:_∧_∧_∧_∧_∧_∧_∧_∧_∧_∧_∧_);by_cases hkl:k<(L i).length
    ·have hk1:=decide_eq_true (Ω:((k:Nat):Int)<((L i).length:Nat))
     have hdr2:dropBlk H2 wid1=H2:=zf (hC.und.none Ω);obtain⟨to,hto⟩:∃to,to=(L i).getD k 0:=⟨_,rfl⟩;have hgi:(L i)[k]? = some to:=by rw[hto,xc6,xc7 hkl];rfl
     have htoN:to<N:=hC.inn i hi to (List.mem_of_getElem? hgi);have hdr:(L i).drop k=to ::(L i).drop (k+1):=by
      rw[List.drop_eq_getElem_cons hkl];rw[xc7 hkl]at hgi;rw[Option.some.inj hgi]
     rw[hdr]at x2;simp only[kT]at x2;have hrk:=c3 k hkl;rw[←hto]at hrk;have hrt:=x3 to htoN;by_cases hb1:0<by1 to
     ·rw[if_pos hb1]at x2
      have hb2:=decide_eq_true (Ω:(0:Int)<((by1 to:Nat):Int));repeat' first|refine sD ?_ ?_<;>intro _|refine aAf ?_|simp -dsimp only[↓RP,RQ,seval,hk1,hrk,hrt,hb2,c2,↓RY,NB,QS,QT,qT,QN]
      all_goals try exact Ωe
      have hRI:RI N L start i c n1 n2 rest.length R3 (k+1) by1 byr1 wait1 wid1 off1 J1:=⟨hkl,x2,x3,x4,x5,x6,x7,Ω,x9,Ω⟩;exact⟨(k+1,by1,byr1,wait1,wid1,off1,J1),hRI,Ωk,qp Ωk Ωh (SubHp.refl _)⟩
     ·rw[if_neg hb1]at x2
      have hb2:=decide_eq_false (Ω:¬(0:Int)<((by1 to:Nat):Int));by_cases hs:to=start
      ·rw[if_pos hs]at x2
       have hs2:=decide_eq_true (Ω:((to:Nat):Int)=(start:Nat));subst x2;simp only[if_true]at y2;have y2:=Option.some.inj y2;subst y2;dsimp only at z2;cases hbk:VX (setN by1 to (1+i*5+k)) N start fk start []with
       |none=>rw[hbk]at z2;cases z2
       |some l=>
       rw[hbk]at z2;dsimp only at z2;repeat' first|refine sD ?_ ?_<;>intro _|refine aAf ?_|simp -dsimp only[↓RP,RQ,seval,hk1,hrk,hrt,hb2,hs2,c2,↓RY,NB,QS,QT,qT,QN]
       all_goals try exact Ωe
       refine wO ΩC (qrn _ _ tb (n1+8) N start fk (setN by1 to (1+i*5+k)) (λa b=>if a=to∧b=0 then SV.val (.int .i64 (1+(i:Int)*5+(k:Int)))else byr1 a b) l h.N5 (λy x hx=>?hUn) hfk hlt Ω Ω4 (λx hx=>?hRo) (λx hx=>?hLe) hbk) λhp' n4 res hQ=>?_
       case hUn=>
        simp only[blk]at hx;split at hx
        ·omega
        ·split at hx
         ·omega
         ·have:=hC.und y x hx;omega
       case hRo=>
        by_cases e:x=to
        ·rw[if_pos ⟨e,rfl⟩];unfold setN;rw[if_pos e];congr 2
        ·rw[if_neg (λe2=>e e2.1)];unfold setN;rw[if_neg e];exact x3 x hx
       case hLe=>
        unfold setN;split
        ·omega
        ·exact x4 x hx
       obtain⟨q1,rid,r',q2,q2',q3,q4,rfl,rfl⟩:=hQ;have q0:n3≤rid:=by omega
       have hX:id+(20+C*(start+1))=n1+C:=by rw[hn1,Nat.mul_add,Nat.mul_one];omega
       rw[hbv,hH2];have hX2:id+20+C*(start+1)=n1+C:=by rw[hn1,Nat.mul_add,Nat.mul_one];omega
       have hlr:0<l.reverse.length:=by rw[List.length_reverse];exact q3
       have hfu:c+1≤fb:=by omega
       cases best with
       |nil=>
        have HN:∀q,n1≤q→blk H q=none:=λq hq=>h.und.none Ω;rw[show bSV bid ([]:List Nat)=SV.val (.slice none 0 0)from rfl,show Go.Tn.bH bid [] br H=H from rfl];rw[if_pos (.inl rfl)]at z2;repeat' first|refine sD ?_ ?_<;>intro _|refine aAf ?_|simp -dsimp only[↓RP,RQ,seval,↓RY,NB,QS,QT,qT,QN]
        all_goals try exact Ωe
        exact⟨(start+1,l.reverse,rid,r'),⟨Ωk,z2,q4,λ_=>⟨Ωk,by dsimp only;(first|rw[hX2]|rw[hX]);omega⟩⟩,Ωk,by
         dsimp only;rw[qke hlr,qoc hlr,List.length_reverse]
         first|rw[hX]|rw[hX2]
         exact qp Ω Ωh (SubHp.cons (SubHp.skip (HN _ Ω) (SubHp.skip (HN _ Ω) (SubHp.refl _))))⟩
       |cons bx bl=>
        have⟨z5,z6⟩:=z4 Ωj;have HN:∀q,n1≤q→blk ((bid,.rows 3 1 (bl.length+1) br) :: H) q=none:=λq hq=>by
         simp only[blk];rw[if_neg Ω];exact h.und.none Ω
        rw[show bSV bid (bx :: bl)=.vec bid (bl.length+1) 1 from rfl,show Go.Tn.bH bid (bx :: bl) br H=(bid,.rows 3 1 (bl.length+1) br) :: H from rfl];have g0:=decide_eq_false (show ¬(((bl.length+1:Nat):Int)=0) by omega);by_cases hcmp:l.length<bl.length+1
        ·rw[if_pos (.inr hcmp)]at z2
         have g1:=decide_eq_true (Ω:((l.length:Nat):Int)<((bl.length+1:Nat):Int));repeat' first|refine sD ?_ ?_<;>intro _|refine aAf ?_|simp -dsimp only[↓RP,RQ,seval,g0,g1,↓RY,NB,QS,QT,qT,QN]
         all_goals try exact Ωe
         exact⟨(start+1,l.reverse,rid,r'),⟨Ωk,z2,q4,λ_=>⟨Ωk,by dsimp only;(first|rw[hX2]|rw[hX]);omega⟩⟩,Ωk,by
          dsimp only;rw[qke hlr,qoc hlr,List.length_reverse]
          first|rw[hX]|rw[hX2]
          exact qp Ω Ωh (SubHp.cons (SubHp.skip (h.und.none Ω) (SubHp.skip (h.und.none Ω) (SubHp.skip (h.und.none z5) (SubHp.refl _)))))⟩
        ·rw[if_neg (λe=>e.elim (λe=>by simp at e) hcmp)]at z2
         have g1:=decide_eq_false (Ω:¬((l.length:Nat):Int)<((bl.length+1:Nat):Int));repeat' first|refine sD ?_ ?_<;>intro _|refine aAf ?_|simp -dsimp only[↓RP,RQ,seval,g0,g1,↓RY,NB,QS,QT,qT,QN]
         all_goals try exact Ωe
         exact⟨(start+1,bx :: bl,bid,br),⟨Ωk,z2,z3,λ_=>⟨z5,by dsimp only;(first|rw[hX2]|rw[hX]);omega⟩⟩,Ωk,by
          dsimp only
          first|rw[hX]|rw[hX2]
          exact qp Ω (by simp[zj,Go.Sx.look,bSV]) (SubHp.skip (HN _ Ω) (SubHp.skip (HN _ Ω) (SubHp.skip (HN _ Ω) (SubHp.refl _))))⟩
      ·rw[if_neg hs]at x2
       have hs2:=decide_eq_false (Ω:¬((to:Nat):Int)=(start:Nat));repeat' first|refine sD ?_ ?_<;>intro _|refine aAf ?_|simp -dsimp only[↓RP,RQ,seval,hk1,hrk,hrt,hb2,hs2,c2,↓RY,NB,QS,QT,qT,QN]
       all_goals try exact Ωe
       refine Kq (qK ?_);(repeat' first|refine sD ?_ ?_<;>intro _|refine aAf ?_|simp -dsimp only[↓RP,RQ,seval,hdr2,hk1,hrk,hrt,hb2,hs2,c2,↓RY,NB,QS,QT,qT,QN]);refine qK ?_;(repeat' first|refine sD ?_ ?_<;>intro _|refine aAf ?_|simp -dsimp only[↓RP,RQ,seval,hdr2,hk1,hrk,hrt,hb2,hs2,c2,↓RY,NB,QS,QT,qT,QN]);refine qK ?_;(repeat' first|refine sD ?_ ?_<;>intro _|refine aAf ?_|simp -dsimp only[↓RP,RQ,seval,hdr2,hk1,hrk,hrt,hb2,hs2,c2,↓RY,NB,QS,QT,qT,QN]);refine ju rfl (qiB (id:=wid1) (off:=off1) (n:=wait1.length) (n':=off1+wait1.length) (m:=1) (k:=1) (e:=3) (row:=J1) (row2:=λi j=>[SV.val (.int .i64 (to:Nat))].getD (i+j) SV.top) (obl2:=1≤1∧1=1) qbg ty3 rfl Ω rfl rfl (by show rowsOf _ (SV.vec (n3+25) 1 1)=_;simp[rowsOf,blk]) (by exact⟨xa5 _,rfl⟩) (by exact one1 _) Ω4 (xa5 _) Ω Ω (by rw[by3];omega) Ωk ?_ ?_)
       ·refine qK ?_
        repeat' first|refine sD ?_ ?_<;>intro _|refine aAf ?_|simp -dsimp only[↓RP,RQ,seval,ji,hdr2,hk1,hrk,hrt,hb2,hs2,c2,↓RY,NB,QS,QT,qT,QN]
        all_goals try exact Ωe
        have hRI:RI N L start i c n1 n2 rest.length R3 (k+1) (setN by1 to (1+i*5+k)) (λa b=>if a=to∧b=0 then SV.val (.int .i64 (1+(i:Int)*5+(k:Int)))else byr1 a b) (wait1++[to]) (n3+26) off1 (λi j=>if i<off1+wait1.length then J1 i j else [SV.val (.int .i64 (to:Nat))].getD (i -(off1+wait1.length)+j) SV.top):=by
         refine⟨hkl,x2,λx hx=>?_,λx hx=>?_,λx hx=>?_,λy hy=>?_,Ω,by rw[xc8,xd1];omega,Ω,Ω⟩
         ·by_cases e:x=to
          ·rw[if_pos ⟨e,rfl⟩];unfold setN;rw[if_pos e];congr 2
          ·rw[if_neg (λe2=>e e2.1)];unfold setN;rw[if_neg e];exact x3 x hx
         ·unfold setN;split
          ·omega
          ·exact x4 x hx
         ·rcases List.mem_append.1 hx with h1|h1
          ·exact x5 x h1
          ·rw[List.mem_singleton.1 h1];exact htoN
         ·rw[xc8,xd1]at hy
          show(if off1+y<off1+wait1.length then J1 (off1+y) 0 else [SV.val (.int .i64 (to:Nat))].getD (off1+y -(off1+wait1.length)+0) SV.top)=_;by_cases hc:y<wait1.length
          ·rw[if_pos Ω,x6 y hc,xc6,xc6,xc9 hc]
          ·obtain rfl:y=wait1.length:=by omega
           rw[if_neg Ω,xb8,xc6 (l:=wait1++[to]),xd0 (xa5 _),xb8];rfl
        refine⟨(k+1,setN by1 to (1+i*5+k),_,wait1++[to],n3+26,off1,_),hRI,Ωk,qp Ωk Ωh ?_⟩;dsimp only;rw[xc8,xd1];exact SubHp.cons (SubHp.skip (show blk ((n1+8,_) :: H2) (n3+25)=none by simp only[blk];rw[if_neg Ω];exact hC.und.none Ω) (SubHp.refl _))
       ·refine qK ?_
        repeat' first|refine sD ?_ ?_<;>intro _|refine aAf ?_|simp -dsimp only[↓RP,RQ,seval,ji,hdr2,hk1,hrk,hrt,hb2,hs2,c2,↓RY,NB,QS,QT,qT,QN]
        all_goals try exact Ωe
        have hRI:RI N L start i c n1 n2 rest.length R3 (k+1) (setN by1 to (1+i*5+k)) (λa b=>if a=to∧b=0 then SV.val (.int .i64 (1+(i:Int)*5+(k:Int)))else byr1 a b) (wait1++[to]) (n3+26) 0 (λi j=>if i<wait1.length then J1 (off1+i) j else [SV.val (.int .i64 (to:Nat))].getD (i - wait1.length+j) SV.top):=by
         refine⟨hkl,x2,λx hx=>?_,λx hx=>?_,λx hx=>?_,λy hy=>?_,Ω,by rw[xc8,xd1];omega,Ω,Ω⟩
         ·by_cases e:x=to
          ·rw[if_pos ⟨e,rfl⟩];unfold setN;rw[if_pos e];congr 2
          ·rw[if_neg (λe2=>e e2.1)];unfold setN;rw[if_neg e];exact x3 x hx
         ·unfold setN;split
          ·omega
          ·exact x4 x hx
         ·rcases List.mem_append.1 hx with h1|h1
          ·exact x5 x h1
          ·rw[List.mem_singleton.1 h1];exact htoN
         ·rw[xc8,xd1]at hy
          show(if 0+y<wait1.length then J1 (off1+(0+y)) 0 else [SV.val (.int .i64 (to:Nat))].getD (0+y - wait1.length+0) SV.top)=_;rw[xb0];by_cases hc:y<wait1.length
          ·rw[if_pos Ω,x6 y hc,xc6,xc6,xc9 hc]
          ·obtain rfl:y=wait1.length:=by omega
           rw[if_neg Ω,xb8,xc6 (l:=wait1++[to]),xd0 (xa5 _),xb8];rfl
        refine⟨(k+1,setN by1 to (1+i*5+k),_,wait1++[to],n3+26,0,_),hRI,Ωk,qp Ωk Ωh ?_⟩;dsimp only;rw[xc8,xd1,xb0];exact SubHp.cons (SubHp.skip (show blk ((n1+8,_) :: H2) (n3+25)=none by simp only[blk];rw[if_neg Ω];exact hC.und.none Ω) (SubHp.refl _))
    ·have hk1:=decide_eq_false (Ω:¬((k:Nat):Int)<((L i).length:Nat))
     rw[List.drop_eq_nil_of_le Ω]at x2;simp only[kT]at x2;subst x2;simp only[xe7,if_false]at y2;repeat' first|refine sD ?_ ?_<;>intro _|refine aAf ?_|simp -dsimp only[↓RP,RQ,seval,hk1,↓RY,NB,QS,QT,qT,QN]
     all_goals try exact Ωe
     have hQ:QI N L start fb n1 Rb f (c+1) by1 byr1 wait1 wid1 off1 J1:=⟨Ω,y2,x3,x4,x5,x6,x7,Ω,x9,Ω⟩;exact⟨(f,c+1,by1,byr1,wait1,wid1,off1,J1),hQ,Ωk,qp Ωk Ωh (SubHp.refl _)⟩
 ·have hlt1:=decide_eq_false (Ω:¬((start:Nat):Int)<(N:Nat))
  have e0:start=N:=by omega
  rw[e0,xb8]at z2;simp only[JL]at z2;have z2:=Option.some.inj z2;subst z2;repeat' first|refine sD ?_ ?_<;>intro _|refine aAf ?_|simp -dsimp only[↓RP,RQ,seval,hlt1,↓RY,NB,QS,QT,qT,QN]
  all_goals try exact Ωe
  rw[e0]at hn1;exact⟨_,_,_,qp (xa5 _) (fr':=[(0,_)]) ⟨.inr rfl,trivial⟩ (SubHp.refl _),Ω,bid,br,λhh=>by have:=z4 hh;omega,z3,rfl,rfl⟩
end Go.Tn
end
section
namespace Go.Tn
open Go.Proofs
open Go.Sx
variable{N:Nat}{len:Nat→Nat}{to:Nat→Nat→Nat}{F rw rw0:Nat→Int}{fl:List Value}
theorem jH:qk Tryz.prog 393=some ⟨false,1,some [.slice none 0 0],.slice 255 6⟩:=by kernel_rfl
theorem qrG(a b c d e g:Int):∀i j,i<1→j<6→oneCell ([SV.val (.int .i64 a),SV.val (.int .i64 b),SV.val (.int .i64 c),SV.val (.int .i64 d),SV.val (.int .i64 e),SV.val (.int .i64 g)].getD (i*6+j) SV.top)=true:=by
 intro i j hi hj;obtain rfl:i=0:=by omega
 rw[Nat.zero_mul,xb0];rcases(Ω:j=0∨j=1∨j=2∨j=3∨j=4∨j=5)with rfl|rfl|rfl|rfl|rfl|rfl<;>rfl
theorem qeN{O:Ctx}{fr fr':List (Nat×SV)}{hp hp':List (Nat×Blk)}{nid nid' mid:Nat}{fit dom dom':Value→Bool}{get:Value→SV}{st:Value→Nat}{c:Nat}(hb:blk hp mid=some (.mapS fit dom get st c))(hd:∀v,dom' v=dom v)(hn:nid≤nid')(hf:zj fr fr')(hh:SubHp (setBlk hp mid (.map fit dom' get)) hp'):Weak O ⟨fr,hp,nid⟩ ⟨fr',hp',nid'⟩:=
 Weak.trans (qjo hb hd) (qp hn hf hh)
theorem qkf:qE Tryz.prog 255=48:=by kernel_rfl
theorem qod:qD Tryz.prog 250=some ⟨true,[Lf.i .i64,Lf.i .i64,Lf.i .i64,Lf.i .i64,Lf.i .i64,Lf.i .i64],.val (.int .i64 0)⟩:=by kernel_rfl
structure Hl(N:Nat)(len:Nat→Nat)(to:Nat→Nat→Nat)(F:Nat→Int)(dom0:Value→Bool)(nx:Nat→Nat→SV)(rest:List (Nat×Blk))(id tb xid rid mid:Nat):Prop where
 fx:Fx N len to F
 N5:N≤100000
 l5:∀i,i<N→len i≤5
 keys:∀v,dom0 v=true→∃(f:Nat→Int)(n:Nat),n<N∧v=kp f n
 one:∀v v',dom0 v=true→dom0 v'=true→zY v=zY v'→v=v'
 all:∀i,i<N→∃v,dom0 v=true∧zY v=i
 nx:∀i,i<N→(len i=0∧nx i 0=.val (.slice none 0 0))∨∃xi r,nx i 0=.vec xi (len i) 1∧blk rest xi=some (.rows 3 1 (len i) r)∧(xi≠tb∧xi≠xid∧xi≠rid∧xi≠mid∧xi<id)∧∀j,j<len i→r j 0=.val (.int .i64 (to i j:Nat))
 itb:tb<id
 ixid:xid<id
 irid:rid<id
 imid:mid<id
 d1:tb≠xid
 d2:tb≠rid
 d3:tb≠mid
 d4:xid≠rid
 d5:xid≠mid
 d6:rid≠mid
 und:Under rest id
structure Fnd(N:Nat)(len:Nat→Nat)(to:Nat→Nat→Nat)(F rw0 rw:Nat→Int)(dom:Value→Bool)(ks fl:List Value):Prop where
 nd:ks.Nodup
 inD:∀v,v∈ks→dom v=true
 sub:∀v,v∈fl→v∈ks
 rwF:Rw N F rw
 mem:∀v,dom v=true→(0≤rw (zY v)↔v∈fl)
 nil:fl=[]→rw=rw0∧∀v,v∈ks→∃j,j<len (zY v)∧rw0 (to (zY v) j)<0
 cn:cnt rw N+fl.length=cnt rw0 N
 up:∀i,0≤rw0 i→0≤rw i
theorem Fnd.stop{dom:Value→Bool}{ks:List Value}(h:Fnd N len to F rw0 rw dom ks fl){v:Value}(hv:dom v=true)(hn:v∉ks)(hj:∃j,j<len (zY v)∧rw (to (zY v) j)<0):Fnd N len to F rw0 rw dom (ks++[v]) fl:=
 ⟨jw h.nd hn,λx hx=>by
  rcases List.mem_append.1 hx with h1|h1
  ·exact h.inD x h1
  ·rw[List.mem_singleton.1 h1];exact hv,λx hx=>List.mem_append.2 (.inl (h.sub x hx)),h.rwF,h.mem,λe=>⟨(h.nil e).1,λx hx=>by
  rcases List.mem_append.1 hx with h1|h1
  ·exact(h.nil e).2 x h1
  ·rw[List.mem_singleton.1 h1,←(h.nil e).1];exact hj⟩,h.cn,h.up⟩
theorem Fnd.hit{dom:Value→Bool}{ks:List Value}(h:Fnd N len to F rw0 rw dom ks fl)(hone:∀v v',dom v=true→dom v'=true→zY v=zY v'→v=v'){v:Value}(hv:dom v=true)(hN:zY v<N)(hn:v∉ks){x:Int}(hx:x=F (zY v))(h0:0≤x):Fnd N len to F rw0 (Ql rw (zY v) x) dom (ks++[v]) (fl++[v]):=by
 have hneg:rw (zY v)<0:=by
  have:=(h.mem v hv).1;have:=mt this (λhm=>hn (h.sub v hm));omega
 refine⟨jw h.nd hn,λx hx=>?_,λx hx=>?_,λi hi=>?_,λu hu=>?_,λe=>?_,?_,λi hi=>?_⟩
 ·rcases List.mem_append.1 hx with h1|h1
  ·exact h.inD x h1
  ·simp_all
 ·rcases List.mem_append.1 hx with h1|h1
  ·exact List.mem_append.2 (.inl (h.sub x h1))
  ·simp_all
 ·unfold Ql
  split
  ·simp_all
  ·exact h.rwF i hi
 ·unfold Ql
  split
  ·grind
  ·rename_i e
   rw[h.mem u hu,xd4,xe0]
   grind
 ·simp at e
 ·have:=je hneg h0 hN
  have:=h.cn
  grind
 ·unfold Ql
  split
  ·exact h0
  ·exact h.up i hi
open Classical in
noncomputable def domC(dom:Value→Bool)(fl:List Value):Value→Bool:=λv=>dom v&&!decide (v∈fl)
theorem qkg(dom:Value→Bool):domC dom []=dom:=by funext v;simp[domC]
open Classical in
theorem qpd{dom:Value→Bool}{f:Nat→Int}{n:Nat}:kz (domC dom fl) (kp f n)=domC dom (fl++[kp f n]):=by
 funext v;unfold kz domC;have e:eqK (kp f n) v=decide (v=kp f n):=by rw[Bool.eq_iff_iff,eqK_kp,decide_eq_true_eq]
 rw[e,Bool.eq_iff_iff];simp only[xe6,Bool.not_eq_true',decide_eq_false_iff_not,xd4,xe0];constructor
 iterate 2 focus simp_all
open Classical in
theorem Fnd.dom{dom0:Value→Bool}{ks:List Value}(h:Fnd N len to F rw0 rw (λv=>dom0 v&&decide (rw0 (zY v)<0)) ks fl):domC (λv=>dom0 v&&decide (rw0 (zY v)<0)) fl=λv=>dom0 v&&decide (rw (zY v)<0):=by
 funext v;unfold domC;rw[Bool.eq_iff_iff];simp only[xe6,Bool.not_eq_true',decide_eq_false_iff_not,decide_eq_true_eq];constructor
 ·rintro⟨⟨h1,h2⟩,h3⟩
  have:=mt (h.mem v (by rw[h1,decide_eq_true h2];rfl)).1 h3
  simp_all
 ·rintro⟨h1,h2⟩
  have h3:rw0 (zY v)<0:=by
   have:=mt (h.up (zY v));omega
  exact⟨⟨h1,h3⟩,mt (h.mem v (by rw[h1,decide_eq_true h3];rfl)).2 Ω⟩
def qrH(fl:List Value)(row:Nat→Nat→SV):Prop:=∀i j,i<fl.length→j<6→row i j=kc (fl.getD i undef) j
def st0(N:Nat)(get:Value→SV)(A Z:SV)(nx:Nat→Nat→SV)(dom0:Value→Bool)(rest:List (Nat×Blk))(id tb xid rid mid:Nat)(z:(Nat→Int)×(Nat→Nat→SV)×Nat):St:=
 ⟨[(0,.ptr tb 0)],(rid,.rows 3 1 N z.2.1) ::(mid,.map kfP (λv=>dom0 v&&decide (z.1 (zY v)<0)) get) ::(tb,.cells 253 [A,Z,.vec xid N 1,.vec rid N 1,.mp mid]) ::(xid,.rows 22 1 N nx) :: rest,id+(960*N+400)*z.2.2⟩
def st1(N:Nat)(get:Value→SV)(A Z:SV)(nx:Nat→Nat→SV)(dom:Value→Bool)(rest:List (Nat×Blk))(n1 tb xid rid mid clk:Nat)(stamp:Value→Nat)(z:List Value×List Value×(Nat→Int)×(Nat→Nat→SV)×Nat×(Nat→Nat→SV)):St:=
 match z with
 |(ks,[],_,row,_,_)=>⟨[(0,.ptr tb 0),(2,.val (.slice none 0 0)),(12,.ptr (n1+5) 0)],(n1+5,.iter mid clk (ks.map stamp) clk) ::(rid,.rows 3 1 N row) ::(mid,.mapS kfP dom get stamp clk) ::(tb,.cells 253 [A,Z,.vec xid N 1,.vec rid N 1,.mp mid]) ::(xid,.rows 22 1 N nx) :: rest,n1+20+900*ks.length⟩
 |(ks,_ :: l,_,row,oid,frow)=>⟨[(0,.ptr tb 0),(2,.vec oid (l.length+1) 6),(12,.ptr (n1+5) 0)],(oid,.rows 255 6 (l.length+1) frow) ::(n1+5,.iter mid clk (ks.map stamp) clk) ::(rid,.rows 3 1 N row) ::(mid,.mapS kfP dom get stamp clk) ::(tb,.cells 253 [A,Z,.vec xid N 1,.vec rid N 1,.mp mid]) ::(xid,.rows 22 1 N nx) :: rest,n1+20+900*ks.length⟩
theorem qkh(N:Nat)(get:Value→SV)(A Z:SV)(nx:Nat→Nat→SV)(dom:Value→Bool)(rest:List (Nat×Blk))(n1 tb xid rid mid clk:Nat)(stamp:Value→Nat)(ks:List Value)(rw:Nat→Int)(row:Nat→Nat→SV)(oid:Nat)(frow:Nat→Nat→SV):st1 N get A Z nx dom rest n1 tb xid rid mid clk stamp (ks,[],rw,row,oid,frow)=⟨[(0,.ptr tb 0),(2,.val (.slice none 0 0)),(12,.ptr (n1+5) 0)],(n1+5,.iter mid clk (ks.map stamp) clk) ::(rid,.rows 3 1 N row) ::(mid,.mapS kfP dom get stamp clk) ::(tb,.cells 253 [A,Z,.vec xid N 1,.vec rid N 1,.mp mid]) ::(xid,.rows 22 1 N nx) :: rest,n1+20+900*ks.length⟩:=rfl
theorem qeO(N:Nat)(get:Value→SV)(A Z:SV)(nx:Nat→Nat→SV)(dom:Value→Bool)(rest:List (Nat×Blk))(n1 tb xid rid mid clk:Nat)(stamp:Value→Nat)(ks:List Value)(x:Value)(l:List Value)(rw:Nat→Int)(row:Nat→Nat→SV)(oid:Nat)(frow:Nat→Nat→SV):st1 N get A Z nx dom rest n1 tb xid rid mid clk stamp (ks,x :: l,rw,row,oid,frow)=⟨[(0,.ptr tb 0),(2,.vec oid (l.length+1) 6),(12,.ptr (n1+5) 0)],(oid,.rows 255 6 (l.length+1) frow) ::(n1+5,.iter mid clk (ks.map stamp) clk) ::(rid,.rows 3 1 N row) ::(mid,.mapS kfP dom get stamp clk) ::(tb,.cells 253 [A,Z,.vec xid N 1,.vec rid N 1,.mp mid]) ::(xid,.rows 22 1 N nx) :: rest,n1+20+900*ks.length⟩:=rfl
theorem qrI(N:Nat)(len:Nat→Nat)(to:Nat→Nat→Nat)(F:Nat→Int)(dom0:Value→Bool)(get:Value→SV)(A Z:SV)(nx row0:Nat→Nat→SV)(rest:List (Nat×Blk))(id tb xid rid mid:Nat)
  (h:Hl N len to F dom0 nx rest id tb xid rid mid) (hr0:∀i,i<N→row0 i 0=.val (.int .i64 (-1))) :
  EffVC Tryz.prog 163 [.ptr tb 0] ((rid,.rows 3 1 N row0) ::(mid,.map kfP dom0 get) ::(tb,.cells 253 [A,Z,.vec xid N 1,.vec rid N 1,.mp mid]) ::(xid,.rows 22 1 N nx) :: rest) id (λhp' nid' res=>nid'≤id+1000*(N+2)*(N+2)∧res=.tup []∧∃row,(∀i,i<N→row i 0=.val (.int .i64 (F i)))∧hp'=(rid,.rows 3 1 N row) ::(mid,.map kfP (λv=>dom0 v&&decide (F (zY v)<0)) get) ::(tb,.cells 253 [A,Z,.vec xid N 1,.vec rid N 1,.mp mid]) ::(xid,.rows 22 1 N nx) :: rest):=by
 refine yj follows Tryz.func163 rfl Ωb Ωb (by rw[Tryz.ntmps163];simp) λout=>?_;have htb:=h.itb;have hxid:=h.ixid;have hrid:=h.irid;have hmid:=h.imid;have ND:=(⟨nmE h.d1,nmE h.d2,nmE h.d3,nmE h.d4,nmE h.d5,nmE h.d6⟩:_∧_∧_∧_∧_∧_);have NB:True:=trivial;have NB1:True:=trivial;have hN5:=h.N5;have e0:(λv=>dom0 v&&decide ((-1:Int)<0))=dom0:=by funext v;simp
 (repeat' first|refine sD ?_ ?_<;>intro _|refine aAa ?_|simp -dsimp only[↓RP,RQ,seval,NB,NB1,ND,jH,QS,QT,QN]);refine qo (λ(z:(Nat→Int)×(Nat→Nat→SV)×Nat)=>Rw N F z.1∧(∀i,i<N→z.2.1 i 0=.val (.int .i64 (z.1 i)))∧z.2.2+cnt z.1 N≤N) (st0 N get A Z nx dom0 rest id tb xid rid mid) (λz=>cnt z.1 N) (λ_=>-1,row0,0) ⟨λi hi=>.inr rfl,hr0,by have:=JD (λ_=>-1) N;simp only[];omega⟩ (by unfold st0;simp only[Nat.mul_zero,xb1,e0];exact qp (xa5 _) Ωh (SubHp.refl _)) λz hz=>?_;obtain⟨rw0,row,c⟩:=z;obtain⟨z1,z2,z3⟩:=hz;simp only[]at z1 z2 z3;unfold st0;simp only[];obtain⟨n1,hn1⟩:∃n1,n1=id+(960*N+400)*c:=⟨_,rfl⟩;have hid1:id≤n1:=by rw[hn1];exact Nat.le_add_right _ _
 rw[←hn1];have NB:=(⟨nmA (Ω:tb<n1),nmA (Ω:xid<n1),nmA (Ω:rid<n1),nmA (Ω:mid<n1)⟩:_∧_∧_∧_);(repeat' first|refine sD ?_ ?_<;>intro _|refine aAa ?_|simp -dsimp only[↓RP,RQ,seval,NB,NB1,ND,jH,QS,QT,QN]);refine WF (mid:=mid) (fit:=kfP) (dom:=(λv=>dom0 v&&decide (rw0 (zY v)<0))) (get:=get) ΩC ΩC qod ΩA λstamp clk hst hinj=>?_;(repeat' first|refine sD ?_ ?_<;>intro _|refine aAa ?_|simp -dsimp only[↓RP,RQ,seval,NB,NB1,ND,jH,QS,QT,QN]);obtain⟨dom,hdom⟩:∃dom,dom=λv=>dom0 v&&decide (rw0 (zY v)<0):=⟨_,rfl⟩;have hst:∀k,dom k=true→stamp k<clk:=by rw[hdom];exact hst
 have hinj:∀k k',dom k=true→dom k'=true→stamp k=stamp k'→k=k':=by rw[hdom];exact hinj
 have hd0:∀k,dom k=true→dom0 k=true:=λk hk=>by rw[hdom]at hk;simp only[xe6]at hk;exact hk.1
 rw[←hdom];have hone:∀v v',dom v=true→dom v'=true→zY v=zY v'→v=v':=λv v' h1 h2=>h.one v v' (hd0 v h1) (hd0 v' h2);have hbx0:∀{Y Z':Blk} x,n1≤x→blk ((rid,Y) ::(mid,Z') ::(tb,.cells 253 [A,Z,.vec xid N 1,.vec rid N 1,.mp mid]) ::(xid,.rows 22 1 N nx) :: rest) x=none:=λx hx=>by
  simp only[blk];rw[if_neg Ω,if_neg Ω,if_neg Ω,if_neg Ω];exact h.und.none Ω
 have hbx:∀{X Y Z':Blk} x,n1+6≤x→blk ((n1+5,X) ::(rid,Y) ::(mid,Z') ::(tb,.cells 253 [A,Z,.vec xid N 1,.vec rid N 1,.mp mid]) ::(xid,.rows 22 1 N nx) :: rest) x=none:=λx hx=>by
  simp only[blk];rw[if_neg Ω,if_neg Ω,if_neg Ω,if_neg Ω,if_neg Ω];exact h.und.none Ω
 refine qo (λ(z:List Value×List Value×(Nat→Int)×(Nat→Nat→SV)×Nat×(Nat→Nat→SV))=>Fnd N len to F rw0 z.2.2.1 dom z.1 z.2.1∧(∀i,i<N→z.2.2.2.1 i 0=.val (.int .i64 (z.2.2.1 i)))∧qrH z.2.1 z.2.2.2.2.2∧(z.2.1≠[]→n1+6≤z.2.2.2.2.1∧z.2.2.2.2.1<n1+20+900*z.1.length)) (st1 N get A Z nx dom rest n1 tb xid rid mid clk stamp) (λz=>N - z.1.length) ([],[],rw0,row,0,λ_ _=>.top) ⟨⟨List.nodup_nil,λv hv=>(by cases hv),λv hv=>(by cases hv),z1,λv hv=>?_,λ_=>⟨rfl,λv hv=>(by cases hv)⟩,rfl,λi hi=>hi⟩,z2,λi j hi=>(by cases hi),λhh=>absurd rfl hh⟩ (by rw[qkh];exact qp Ωj Ωh (SubHp.refl _)) λz hz=>?_
 ·rw[hdom]at hv
  simp only[xe6,decide_eq_true_eq]at hv;exact⟨λh1=>by have h1:0≤rw0 (zY v):=h1;omega,λh1=>(by cases h1)⟩
 obtain⟨ks,fl,rw1,row1,oid,frow⟩:=z;obtain⟨y1,y2,y3,y4⟩:=hz;simp only[]at y1 y2 y3 y4;have hks:ks.length≤N:=by
  have:=gq N (ks.map zY) (Kx y1.nd λa b ha hb=>hone a b (y1.inD a ha) (y1.inD b hb)) λx hx=>by
   obtain⟨v,hv,rfl⟩:=List.mem_map.1 hx;obtain⟨f,n,hn,rfl⟩:=h.keys v (hd0 v (y1.inD v hv));exact hn
  rwa [xe1]at this
 have hkl:∀v,dom v=true→v∉ks→ks.length<N:=λv hv hm=>by
  have:=gq N ((ks++[v]).map zY) (Kx (jw y1.nd hm) λa b ha hb=>hone a b ?_ ?_) λx hx=>?_
  ·rw[xe1,xc8,xd1]at this;omega
  ·rcases List.mem_append.1 ha with h1|h1
   ·exact y1.inD a h1
   ·rw[List.mem_singleton.1 h1];exact hv
  ·rcases List.mem_append.1 hb with h1|h1
   ·exact y1.inD b h1
   ·rw[List.mem_singleton.1 h1];exact hv
  ·obtain⟨u,hu,rfl⟩:=List.mem_map.1 hx
   have hu2:dom u=true:=by
    rcases List.mem_append.1 hu with h1|h1
    ·exact y1.inD u h1
    ·rw[List.mem_singleton.1 h1];exact hv
   obtain⟨f,n,hn,rfl⟩:=h.keys u (hd0 u hu2);exact hn
 clear NB;obtain⟨nn,hnn⟩:∃nn,nn=n1+20+900*ks.length:=⟨_,rfl⟩;have hn2:n1+20≤nn:=by omega
 have NB:=(⟨nmA (Ω:tb<nn),nmA (Ω:xid<nn),nmA (Ω:rid<nn),nmA (Ω:mid<nn),nmA (Ω:tb<n1),nmA (Ω:xid<n1),nmA (Ω:rid<n1),nmA (Ω:mid<n1),nmA (Ω:n1+5<nn)⟩:_∧_∧_∧_∧_∧_∧_∧_∧_);cases fl with
 |nil=>
  ·rw[qkh,←hnn]
   (repeat' first|refine sD ?_ ?_<;>intro _|refine aAa ?_|simp -dsimp only[↓RP,RQ,seval,NB,NB1,ND,jH,QS,QT,QN]);refine qcu (iid:=n1+5) (mid:=mid) (clk:=clk) (seen:=ks.map stamp) (fit:=kfP) (dom:=dom) (get:=get) (stamp:=stamp) ΩC ΩC ΩA ΩA (λk hk1 hk2 hk3=>?_) (λhall=>?_)
   ·obtain⟨f,n,hn,rfl⟩:=h.keys k (hd0 k hk2)
    have hk4:kp f n∉ks:=λhm=>hk3 (List.mem_map.2 ⟨_,hm,rfl⟩);(repeat' first|refine sD ?_ ?_<;>intro _|refine aAa ?_|simp -dsimp only[↓RP,RQ,seval,NB,NB1,ND,jH,QS,QT,QN]);refine Gf (s:=.agg (kpL f n)) (iid:=n1+5) (mid:=mid) (clk:=clk) (seen:=ks.map stamp) (fit:=kfP) (dom:=dom) (get:=get) (stamp:=stamp) (k:=kp f n) ΩC ΩC ΩA ΩA hk2 (yO [.int .i64 (f 0),.int .i64 (f 1),.int .i64 (f 2),.int .i64 (f 3),.int .i64 (f 4),.int .i64 (n:Nat)]) ?_;unfold kpL;(repeat' first|refine sD ?_ ?_<;>intro _|refine aAa ?_|simp -dsimp only[↓RP,RQ,seval,NB,NB1,ND,jH,QS,QT,QN]);refine wO ΩC (qqs _ _ tb xid rid mid N n (len n) A Z nx row1 rw1 (to n) hN5 hn (by have:=h.l5 n hn;omega) ΩA ΩA ΩA y2 (λi hi=>by have:=h.fx.lo i hi;have:=h.fx.hi i hi;rcases y1.rwF i hi with e|e<;>omega) (λj hj=>h.fx.inn n j hn hj) ?hNX) λhp' n3 res hQ=>?_
    case hNX=>
     rcases h.nx n hn with⟨a,b⟩|⟨xi,r,a,b,⟨x1,x2,x3,x4,x5⟩,x6⟩
     ·exact .inl ⟨a,b⟩
     ·have NX:=(⟨nmE x1,nmE x2,nmE x3,nmE x4,nmA (Ω:xi<nn),nmA (Ω:xi<n1)⟩:_∧_∧_∧_∧_∧_)
      exact .inr ⟨xi,r,a,by simp[blk,NB,NB1,ND,NX,b],x6⟩
    obtain⟨rfl,q1,q2,hQ⟩:=hQ;have hl5:=h.l5 n hn;have NB3:=(⟨nmA (Ω:tb<n3),nmA (Ω:xid<n3),nmA (Ω:rid<n3),nmA (Ω:mid<n3),nmA (Ω:nn+4<n3),nmA (Ω:n1+5<n3)⟩:_∧_∧_∧_∧_∧_);rcases hQ with⟨hk,rfl⟩|⟨hk,rfl⟩
    ·obtain⟨w0,w1⟩:=h.fx.set y1.rwF hn hk
     have w2:=h.fx.hi n hn;have w3:=y1.cn;have w4:=JD rw0 N;have w5:=hN5
     skip
     rw[w1];unfold I B;repeat' first|refine sD ?_ ?_<;>intro _|refine aAa ?_|simp -dsimp only[↓RP,RQ,seval,NB3,qkf,NB,NB1,ND,jH,QS,QT,QN]
     skip
     refine⟨(ks++[kp f n],[kp f n],Ql rw1 n (F n),(λa b=>if a=n∧b=0 then SV.val (.int .i64 (F n))else row1 a b),n3+13,(λi j=>[SV.val (.int .i64 (f 0)),SV.val (.int .i64 (f 1)),SV.val (.int .i64 (f 2)),SV.val (.int .i64 (f 3)),SV.val (.int .i64 (f 4)),SV.val (.int .i64 (n:Nat))].getD (i*6+j) SV.top)),⟨y1.hit hone hk2 hn hk4 rfl w0,λi hi=>?_,?_,λ_=>?_⟩,?_,?_⟩
     ·simp only[Ql]
      by_cases e:i=n
      ·rw[if_pos ⟨e,trivial⟩,if_pos e]
      ·rw[if_neg (λe2=>e e2.1),if_neg e];exact y2 i hi
     ·intro i j hi hj
      have e:i=0:=by have hi:i<1:=hi;omega
      subst e;have k:=qjn f n;show [SV.val (.int .i64 (f 0)),SV.val (.int .i64 (f 1)),SV.val (.int .i64 (f 2)),SV.val (.int .i64 (f 3)),SV.val (.int .i64 (f 4)),SV.val (.int .i64 (n:Nat))].getD (0*6+j) SV.top=kc (kp f n) j;rw[Nat.zero_mul,xb0];rcases(Ω:j=0∨j=1∨j=2∨j=3∨j=4∨j=5)with rfl|rfl|rfl|rfl|rfl|rfl
      ·exact k.1.symm
      ·exact k.2.1.symm
      ·exact k.2.2.1.symm
      ·exact k.2.2.2.1.symm
      ·exact k.2.2.2.2.1.symm
      ·exact k.2.2.2.2.2.symm
     ·simp only[xc8,xd1];omega
     ·have hk5:=hkl _ hk2 hk4
      simp only[xc8,xd1];omega
     ·rw[qeO,List.map_append,List.map_cons,List.map_nil,xc8,xd1]
      exact qp Ω Ωh (SubHp.cons (SubHp.skip (hbx _ Ω) (SubHp.skip (hbx _ Ω) (SubHp.refl _))))
    ·unfold I B
     (repeat' first|refine sD ?_ ?_<;>intro _|refine aAa ?_|simp -dsimp only[↓RP,RQ,seval,NB3,NB,NB1,ND,jH,QS,QT,QN]);refine⟨(ks++[kp f n],[],rw1,row1,oid,frow),⟨y1.stop hk2 hk4 hk,y2,y3,λhh=>?_⟩,?_,?_⟩
     ·exact absurd hh Ωj
     ·have hk5:=hkl _ hk2 hk4
      simp only[xc8,xd1];omega
     ·rw[qkh,List.map_append,List.map_cons,List.map_nil,xc8,xd1]
      exact qp Ω Ωh (SubHp.skip (hbx _ Ω) (SubHp.refl _))
   ·skip
    have hkk:∀v,dom v=true→v∈ks:=λv hv=>by
     obtain⟨u,hu,e⟩:=List.mem_map.1 (hall v hv);rw[←hinj u v (y1.inD u hu) hv e];exact hu
    have⟨hrw,hno⟩:=y1.nil rfl;subst hrw;have hF:∀i,i<N→rw1 i=F i:=λi hi=>h.fx.fin y1.rwF (λi hi hneg=>by
     obtain⟨v,hv,rfl⟩:=h.all i hi;refine hno v (hkk v ?_);rw[hdom];simp only[hv,xf0,decide_eq_true_eq];exact hneg) 1000000 i hi (h.fx.hi i hi)
    repeat' first|refine sD ?_ ?_<;>intro _|refine aAa ?_|simp -dsimp only[↓RP,RQ,seval,NB,NB1,ND,jH,QS,QT,QN]
    all_goals try exact Ωe
    refine⟨_,_,_,qeN (mid:=mid) (fit:=kfP) (dom:=dom) (dom':=λv=>dom0 v&&decide (F (zY v)<0)) (get:=get) (st:=stamp) (c:=clk) ΩA (λv=>?_) (xa5 _) (fr':=[(0,_)]) ⟨.inr rfl,trivial⟩ (by simp only[setBlk,NB,NB1,ND,reduceIte];exact SubHp.skip (hbx0 _ Ω) (SubHp.refl _)),?_,rfl,row1,λi hi=>by rw[y2 i hi,hF i hi],rfl⟩
    ·rw[hdom]
     show(dom0 v&&decide (F (zY v)<0))=(dom0 v&&decide (rw1 (zY v)<0));cases hv:dom0 v with
     |false=>rfl
     |true=>
      obtain⟨f,n,hn,rfl⟩:=h.keys v hv;rw[wG,hF n hn]
    ·have hc:=Nat.mul_le_mul_left (960*N+400) (Ω:c≤N)
     have e3:(960*N+400)*N=960*(N*N)+400*N:=by rw[Nat.add_mul,Nat.mul_assoc]
     rw[e3]at hc;have e1:1000*(N+2)*(N+2)=1000*(N*N)+4000*N+4000:=by
      rw[Nat.mul_assoc,Nat.add_mul,Nat.mul_add,Nat.mul_add];omega
     rw[e1,hnn,hn1];omega
 |cons x l=>
  have⟨y5,y6⟩:=y4 Ωj;rw[←hnn]at y6;have NO:=(⟨nmE (Ω:oid≠tb),nmE (Ω:oid≠xid),nmE (Ω:oid≠rid),nmE (Ω:oid≠mid),nmE (Ω:oid≠n1+5),nmA y6⟩:_∧_∧_∧_∧_∧_);have hdr:dropBlk rest oid=rest:=zf (h.und.none Ω);have hbx2:∀{X Y Z' V:Blk} x,n1+6≤x→x≠oid→blk ((oid,V) ::(n1+5,X) ::(rid,Y) ::(mid,Z') ::(tb,.cells 253 [A,Z,.vec xid N 1,.vec rid N 1,.mp mid]) ::(xid,.rows 22 1 N nx) :: rest) x=none:=λx hx hx2=>by
   simp only[blk];rw[if_neg hx2];exact hbx x hx
  ·rw[qeO,←hnn]
   (repeat' first|refine sD ?_ ?_<;>intro _|refine aAa ?_|simp -dsimp only[↓RP,RQ,seval,NO,hdr,NB,NB1,ND,jH,QS,QT,QN]);refine qcu (iid:=n1+5) (mid:=mid) (clk:=clk) (seen:=ks.map stamp) (fit:=kfP) (dom:=dom) (get:=get) (stamp:=stamp) ΩC ΩC ΩK ΩK (λk hk1 hk2 hk3=>?_) (λhall=>?_)
   ·obtain⟨f,n,hn,rfl⟩:=h.keys k (hd0 k hk2)
    have hk4:kp f n∉ks:=λhm=>hk3 (List.mem_map.2 ⟨_,hm,rfl⟩);(repeat' first|refine sD ?_ ?_<;>intro _|refine aAa ?_|simp -dsimp only[↓RP,RQ,seval,NO,hdr,NB,NB1,ND,jH,QS,QT,QN]);refine Gf (s:=.agg (kpL f n)) (iid:=n1+5) (mid:=mid) (clk:=clk) (seen:=ks.map stamp) (fit:=kfP) (dom:=dom) (get:=get) (stamp:=stamp) (k:=kp f n) ΩC ΩC ΩK ΩK hk2 (yO [.int .i64 (f 0),.int .i64 (f 1),.int .i64 (f 2),.int .i64 (f 3),.int .i64 (f 4),.int .i64 (n:Nat)]) ?_;unfold kpL;(repeat' first|refine sD ?_ ?_<;>intro _|refine aAa ?_|simp -dsimp only[↓RP,RQ,seval,NO,hdr,NB,NB1,ND,jH,QS,QT,QN]);refine wO ΩC (qqs _ _ tb xid rid mid N n (len n) A Z nx row1 rw1 (to n) hN5 hn (by have:=h.l5 n hn;omega) ΩK ΩK ΩK y2 (λi hi=>by have:=h.fx.lo i hi;have:=h.fx.hi i hi;rcases y1.rwF i hi with e|e<;>omega) (λj hj=>h.fx.inn n j hn hj) ?hNX) λhp' n3 res hQ=>?_
    case hNX=>
     rcases h.nx n hn with⟨a,b⟩|⟨xi,r,a,b,⟨x1,x2,x3,x4,x5⟩,x6⟩
     ·exact .inl ⟨a,b⟩
     ·have NX:=(⟨nmE x1,nmE x2,nmE x3,nmE x4,nmA (Ω:xi<nn),nmA (Ω:xi<n1),nmE (Ω:xi≠oid)⟩:_∧_∧_∧_∧_∧_∧_)
      exact .inr ⟨xi,r,a,by simp[blk,NB,NB1,ND,NX,NO,b],x6⟩
    obtain⟨rfl,q1,q2,hQ⟩:=hQ;have hl5:=h.l5 n hn;have NB3:=(⟨nmA (Ω:tb<n3),nmA (Ω:xid<n3),nmA (Ω:rid<n3),nmA (Ω:mid<n3),nmA (Ω:nn+4<n3),nmA (Ω:n1+5<n3),nmA (Ω:oid<n3)⟩:_∧_∧_∧_∧_∧_∧_);rcases hQ with⟨hk,rfl⟩|⟨hk,rfl⟩
    ·obtain⟨w0,w1⟩:=h.fx.set y1.rwF hn hk
     have w2:=h.fx.hi n hn;have w3:=y1.cn;have w4:=JD rw0 N;have w5:=hN5;rw[xe4]at w3;rw[w1];unfold I B;(repeat' first|refine sD ?_ ?_<;>intro _|refine aAa ?_|simp -dsimp only[↓RP,RQ,seval,NB3,qkf,NO,hdr,NB,NB1,ND,jH,QS,QT,QN]);refine⟨⟨.inr trivial,xa5 _,qrG _ _ _ _ _ _,Ω⟩,Ω,Ω,?_⟩;refine⟨(ks++[kp f n],x ::(l++[kp f n]),Ql rw1 n (F n),(λa b=>if a=n∧b=0 then SV.val (.int .i64 (F n))else row1 a b),n3+13,(λi j=>if i<l.length+1 then frow i j else [SV.val (.int .i64 (f 0)),SV.val (.int .i64 (f 1)),SV.val (.int .i64 (f 2)),SV.val (.int .i64 (f 3)),SV.val (.int .i64 (f 4)),SV.val (.int .i64 (n:Nat))].getD ((i -(l.length+1))*6+j) SV.top)),⟨y1.hit hone hk2 hn hk4 rfl w0,λi hi=>?_,?_,λ_=>?_⟩,?_,?_⟩
     ·simp only[Ql]
      by_cases e:i=n
      ·rw[if_pos ⟨e,trivial⟩,if_pos e]
      ·rw[if_neg (λe2=>e e2.1),if_neg e];exact y2 i hi
     ·intro i j hi hj
      have hi:i<(x ::(l++[kp f n])).length:=hi;rw[xe4,xc8,xd1]at hi;by_cases hc:i<l.length+1
      ·show(if i<l.length+1 then frow i j else _)=_
       rw[if_pos hc,y3 i j hc hj];have eG:(x ::(l++[kp f n])).getD i undef=(x :: l).getD i undef:=by
        rw[←List.cons_append,xc6,xc6,xc9 hc]
       show _=kc ((x ::(l++[kp f n])).getD i undef) j;rw[eG]
      ·have e:i=l.length+1:=by omega
       subst e;have k:=qjn f n;have eG:(x ::(l++[kp f n])).getD (l.length+1) undef=kp f n:=by simp[xc6]
       show(if l.length+1<l.length+1 then frow (l.length+1) j else [SV.val (.int .i64 (f 0)),SV.val (.int .i64 (f 1)),SV.val (.int .i64 (f 2)),SV.val (.int .i64 (f 3)),SV.val (.int .i64 (f 4)),SV.val (.int .i64 (n:Nat))].getD ((l.length+1 -(l.length+1))*6+j) SV.top)=kc ((x ::(l++[kp f n])).getD (l.length+1) undef) j;rw[if_neg Ω,eG,xb8,Nat.zero_mul,xb0];rcases(Ω:j=0∨j=1∨j=2∨j=3∨j=4∨j=5)with rfl|rfl|rfl|rfl|rfl|rfl
       ·exact k.1.symm
       ·exact k.2.1.symm
       ·exact k.2.2.1.symm
       ·exact k.2.2.2.1.symm
       ·exact k.2.2.2.2.1.symm
       ·exact k.2.2.2.2.2.symm
     ·simp only[xc8,xd1];omega
     ·have hk5:=hkl _ hk2 hk4
      simp only[xc8,xd1];omega
     ·rw[qeO,List.map_append,List.map_cons,List.map_nil,xc8,xd1,xc8,xd1]
      exact qp Ω Ωh (SubHp.cons (SubHp.skip (hbx _ Ω) (SubHp.skip (hbx _ Ω) (SubHp.refl _))))
    ·unfold I B
     (repeat' first|refine sD ?_ ?_<;>intro _|refine aAa ?_|simp -dsimp only[↓RP,RQ,seval,NB3,NO,hdr,NB,NB1,ND,jH,QS,QT,QN]);refine⟨(ks++[kp f n],x :: l,rw1,row1,oid,frow),⟨y1.stop hk2 hk4 hk,y2,y3,λhh=>?_⟩,?_,?_⟩
     ·have:=y4 hh
      simp only[xc8,xd1];omega
     ·have hk5:=hkl _ hk2 hk4
      simp only[xc8,xd1];omega
     ·rw[qeO,List.map_append,List.map_cons,List.map_nil,xc8,xd1]
      exact qp Ω Ωh (SubHp.skip (hbx2 _ Ω Ω) (SubHp.refl _))
   ·skip
    have hkk:ks.length≤N:=hks;have hfl:=y1.cn;have hcl:=JD rw0 N;rw[xe4]at hfl;have hl0:=decide_eq_false (show ¬(((l.length+1:Nat):Nat):Int)=0 by omega);obtain⟨fl,hfe⟩:∃fl,fl=x :: l:=⟨_,rfl⟩;obtain⟨m,hm⟩:∃m,m=l.length+1:=⟨_,rfl⟩;have hml:m=fl.length:=by rw[hfe,hm];rfl
    rw[←hm]at hfl hl0;rw[←hfe]at y1 y3;rw[←hm];repeat' first|refine sD ?_ ?_<;>intro _|refine aAa ?_|simp -dsimp only[↓RP,RQ,seval,NO,hdr,hl0,NB,NB1,ND,jH,QS,QT,QN]
    all_goals try exact Ωe
    refine qo (λ(i:Nat)=>i≤m) (λi=>⟨[(0,.ptr tb 0),(40,.vec oid m 6),(41,.val (.int .i64 (m:Nat))),(42,.val (.int .i64 (i:Nat)))],(oid,.rows 255 6 m frow) ::(rid,.rows 3 1 N row1) ::(mid,.mapS kfP (domC dom (fl.take i)) get stamp clk) ::(tb,.cells 253 [A,Z,.vec xid N 1,.vec rid N 1,.mp mid]) ::(xid,.rows 22 1 N nx) :: rest,nn+40+60*i⟩) (λi=>m - i) 0 (xb6 _) (by rw[List.take_zero,qkg];exact qp Ω Ωh (SubHp.cons (SubHp.skip (hbx0 _ Ω) (SubHp.refl _)))) λi hi=>?_;obtain⟨n4,hn4⟩:∃n4,n4=nn+40+60*i:=⟨_,rfl⟩;rw[←hn4];clear NB;have NB:=(⟨nmA (Ω:tb<n4),nmA (Ω:xid<n4),nmA (Ω:rid<n4),nmA (Ω:mid<n4),nmA (Ω:oid<n4)⟩:_∧_∧_∧_∧_);have hbx4:∀{X Y Z':Blk} x,n4≤x→blk ((oid,X) ::(rid,Y) ::(mid,Z') ::(tb,.cells 253 [A,Z,.vec xid N 1,.vec rid N 1,.mp mid]) ::(xid,.rows 22 1 N nx) :: rest) x=none:=λx hx=>by
     simp only[blk];rw[if_neg Ω,if_neg Ω,if_neg Ω,if_neg Ω,if_neg Ω];exact h.und.none Ω
    by_cases him:i<m
    ·have hlt:=decide_eq_true (Ω:((i:Nat):Int)<(m:Nat))
     have hmem:fl.getD i undef∈fl:=by
      rw[xc6,xc7 (Ω:i<fl.length)];exact List.getElem_mem _
     obtain⟨f,n,hn,hfn⟩:=h.keys _ (hd0 _ (y1.inD _ (y1.sub _ hmem)));have k:=qjn f n;have f0:=y3 i 0 Ω Ω;have f1:=y3 i 1 Ω Ω;have f2:=y3 i 2 Ω Ω;have f3:=y3 i 3 Ω Ω;have f4:=y3 i 4 Ω Ω;have f5:=y3 i 5 Ω Ω;rw[hfn,k.1]at f0;rw[hfn,k.2.1]at f1;rw[hfn,k.2.2.1]at f2;rw[hfn,k.2.2.2.1]at f3;rw[hfn,k.2.2.2.2.1]at f4;rw[hfn,k.2.2.2.2.2]at f5;repeat' first|refine sD ?_ ?_<;>intro _|refine aAa ?_|simp -dsimp only[↓RP,RQ,seval,NO,hlt,f0,f1,f2,f3,f4,f5,qod,qkf,NB,NB1,ND,jH,QS,QT,QN]
     all_goals try exact Ωe
     have hgi:fl[i]? = some (kp f n):=by
      rw[←hfn,xc6,xc7 (Ω:i<fl.length)];rfl
     have hcut:kz (domC dom (List.take i fl)) (Value.agg #[Value.int .i64 (f 0),Value.int .i64 (f 1),Value.int .i64 (f 2),Value.int .i64 (f 3),Value.int .i64 (f 4),Value.int .i64 (n:Nat)])=domC dom (List.take (i+1) fl):=by
      show kz _ (kp f n)=_;rw[qpd,List.take_add_one,hgi];rfl
     rw[hcut];exact⟨i+1,Ω,Ω,qp Ω Ωh (SubHp.skip (hbx4 _ Ω) (SubHp.refl _))⟩
    ·obtain rfl:i=m:=by omega
     have hlt:=decide_eq_false (Ω:¬((i:Nat):Int)<(i:Nat));repeat' first|refine sD ?_ ?_<;>intro _|refine aAa ?_|simp -dsimp only[↓RP,RQ,seval,NO,hlt,NB,NB1,ND,jH,QS,QT,QN]
     all_goals try exact Ωe
     have yd:=y1;rw[hdom]at yd;have ed:=yd.dom;have hX:id+(960*N+400)*(c+1)=n1+(960*N+400):=by rw[hn1,Nat.mul_add,Nat.mul_one];omega
     refine⟨(rw1,row1,c+1),⟨y1.rwF,y2,by simp only[];omega⟩,by simp only[];omega,qeN (mid:=mid) (fit:=kfP) (dom:=domC dom (List.take i fl)) (dom':=λv=>dom0 v&&decide (rw1 (zY v)<0)) (get:=get) (st:=stamp) (c:=clk) ΩK (λv=>?_) (by simp only[];rw[hX];omega) Ωh (by simp only[setBlk,NB,NB1,ND,NO,reduceIte];exact SubHp.skip (hbx0 _ Ω) (SubHp.refl _))⟩;rw[hdom,List.take_of_length_le Ω,ed]
end Go.Tn
end
section
namespace Go.Sx
open Go.RowKit
noncomputable section
variable{l:List SV}{α:Type}
def jl(cl:SV→Option SV)(l:List SV):Option (List SV):=
 List.rec (motive:=λ_=>Option (List SV)) (some []) (λa _ ih=>match cl a,ih with
  |some b,some m=>some (b :: m)
  |_,_=>none) l
def qqN(k:Nat)(l:List SV)(i j:Nat):SV:=l.getD (i*k+j) .top
def qbh(o full:Bool)(n k:Nat)(l:Option (List SV)):Option SV:=
 match l with
 |some l=>some (.arr o full n k (qqN k l))
 |none=>none
def qmF(f:List SV→SV)(l:Option (List SV)):Option SV:=
 match l with
 |some l=>some (f l)
 |none=>none
def fnO(f:Fn)(a b:Option (List SV)):Option SV:=
 match a,b with
 |some a,some b=>some (.fn f a b)
 |_,_=>none
def qmG(o:Bool)(n:Nat)(l:Option (List SV)):Option SV:=
 match l with
 |some l=>some (.ref o n (λj=>l.getD j .top))
 |none=>none
def qcY(o:Bool)(hp:Tr 6 XB)(cl:SV→Option SV)(s:SV):Option SV:=
 match s with
 |.val v=>some (.val v)
 |.agg l=>qmF .agg (jl cl l)
 |.tup l=>qmF .tup (jl cl l)
 |.fn f a b=>fnO f (jl cl a) (jl cl b)
 |.vec id n k=>(match hp.find id with
  |some (.rows _ k' n' l)=>Bool.rec none (qbh o false n k (jl cl (l.take (n*k)))) (Nat.ble n n'&&Nat.beq k k')
  |_=>none)
 |.cut id n k=>(match hp.find id with
  |some (.rows _ k' n' l)=>Bool.rec none (qbh o true n k (jl cl (l.take (n*k)))) (Nat.ble n n'&&Nat.beq k k')
  |_=>none)
 |.asl id off n k=>(match hp.find id with
  |some (.cells _ l)=>Bool.rec none (qbh o false n k (jl cl ((l.drop off).take (n*k)))) (Nat.ble (off+n*k) l.length)
  |_=>none)
 |.ptr id off=>(match hp.find id with
  |some (.cells _ l)=>qmG o (l.length - off) (jl cl (l.drop off))
  |_=>none)
 |.arr o' full n k row=>Bool.rec none (qbh o full n k (jl cl (wS row k n))) (Bool.rec true o' o)
 |.ref o' n row=>Bool.rec none (qmG o n (jl cl (sel row 0 n))) (Bool.rec true o' o)
 |_=>some .top
def Q3(o:Bool)(hp:Tr 6 XB)(n:Nat):SV→Option SV:=Nat.rec (λ_=>some .top) (λ_ ih=>qcY o hp ih) n
section
variable{H:List (Nat×Blk)}{hp:Tr 6 XB}{LM:Nat→Option Loop}
def OF(o:Bool)(s:SV):Prop:=(o=false→Old s)∧(o=true→Fresh s)
def OFL(o:Bool)(s:List SV):Prop:=(o=false→OldL s)∧(o=true→FreshL s)
theorem zJ{o:Bool}{cl:SV→Option SV}(hcl:∀s s',cl s=some s'→Sub H s' s∧OF o s'):∀{l l':List SV},jl cl l=some l'→SubL H l' l∧OFL o l'∧l'.length=l.length∧∀i,i<l.length→Sub H (l'.getD i .top) (l.getD i .top)∧OF o (l'.getD i .top)
 |[],l',h=>by
  cases h;exact⟨by simp[SubL],⟨λ_=>by simp[OldL],λ_=>by simp[FreshL]⟩,rfl,λi hi=>by simp at hi⟩
 |a :: l,l',h=>by
  have h:(match cl a,jl cl l with
   |some b,some m=>some (b :: m)
   |_,_=>none)=some l':=h
  split at h
  ·rename_i b m hb hm
   cases h;obtain⟨h1,h2⟩:=hcl _ _ hb;obtain⟨g1,g2,g3,g4⟩:=zJ hcl hm;refine⟨by simp only[SubL];exact⟨h1,g1⟩,⟨λe=>by simp only[OldL];exact⟨h2.1 e,g2.1 e⟩,λe=>by simp only[FreshL];exact⟨h2.2 e,g2.2 e⟩⟩,by simp[g3],λi hi=>?_⟩;cases i with
   |zero=>exact⟨h1,h2⟩
   |succ i=>exact g4 i Ωab
  ·cases h
theorem Yo{o full:Bool}{n k:Nat}(h:∀i,i<n*k→OF o (l.getD i .top)):OF o (.arr o full n k (qqN k l)):=
 ⟨λe=>by simp only[Old];exact⟨e,λi j hi hj=>(h _ (gV hi hj)).1 e⟩,λe=>by simp only[Fresh];exact⟨e,λi j hi hj=>(h _ (gV hi hj)).2 e⟩⟩
theorem qki{o:Bool}{n:Nat}(h:∀i,i<n→OF o (l.getD i .top)):OF o (.ref o n (λj=>l.getD j .top)):=
 ⟨λe=>by simp only[Old];exact⟨e,λj hj=>(h _ hj).1 e⟩,λe=>by simp only[Fresh];exact⟨e,λj hj=>(h _ hj).2 e⟩⟩
theorem qbi{a b:Bool}{x:Option α}{y:α}(h:(Bool.rec none x (a&&b):Option α)=some y):a=true∧b=true∧x=some y:=by
 cases a<;>cases b<;>first|exact⟨rfl,rfl,h⟩|cases h
theorem JM{a:Bool}{x:Option α}{y:α}(h:(Bool.rec none x a:Option α)=some y):a=true∧x=some y:=by
 cases a<;>first|exact⟨rfl,h⟩|cases h
theorem Qb{m i:Nat}(h:i<m):(l.take m).getD i .top=l.getD i .top:=by
 simp_all
theorem qgK{m i:Nat}:(l.drop m).getD i .top=l.getD (m+i) .top:=by
 simp_all
theorem KE(hH:HRel LM hp H)(o:Bool):∀(n:Nat)(s s':SV),Q3 o hp n s=some s'→Sub H s' s∧OF o s'
 |0,s,s',h=>by
  have h:some SV.top=some s':=h;cases h;exact⟨by simp[Sub],⟨λ_=>by simp[Old],λ_=>by simp[Fresh]⟩⟩
 |m+1,s,s',h0=>by
  have h:qcY o hp (Q3 o hp m) s=some s':=h0;clear h0;have ih:=KE hH o m;unfold qcY at h;split at h
  ·cases h;exact⟨by simp[Sub],⟨λ_=>by simp[Old],λ_=>by simp[Fresh]⟩⟩
  ·unfold qmF at h
   split at h
   ·rename_i l' hl
    cases h;obtain⟨h1,h2,_⟩:=zJ ih hl;exact⟨by simp only[Sub];exact h1,⟨λe=>by simp only[Old];exact h2.1 e,λe=>by simp only[Fresh];exact h2.2 e⟩⟩
   ·cases h
  ·unfold qmF at h
   split at h
   ·rename_i l' hl
    cases h;obtain⟨h1,h2,_⟩:=zJ ih hl;exact⟨by simp only[Sub];exact h1,⟨λe=>by simp only[Old];exact h2.1 e,λe=>by simp only[Fresh];exact h2.2 e⟩⟩
   ·cases h
  ·unfold fnO at h
   split at h
   ·rename_i a' b' ha hb
    cases h;obtain⟨h1,h2,_⟩:=zJ ih ha;obtain⟨g1,g2,_⟩:=zJ ih hb;exact⟨by simp only[Sub];exact⟨trivial,h1,g1⟩,⟨λe=>by simp only[Old];exact⟨h2.1 e,g2.1 e⟩,λe=>by simp only[Fresh];exact⟨h2.2 e,g2.2 e⟩⟩⟩
   ·cases h
  ·split at h
   ·rename_i id n k _ _ k' n' l hb
    obtain⟨q1,q2,p⟩:=qbi h;clear h;have q1:=xa7 q1;have q2:=xa6 q2;subst q2;unfold qbh at p;split at p
    ·rename_i l' hl
     cases p;obtain⟨_,_,h3,h4⟩:=zJ ih hl;obtain⟨row,hb,hr⟩:=hH.rows hb;have hlen:(l.take (n*k)).length=n*k:=(hr.take q1).1;refine⟨?_,Yo λi hi=>(h4 i Ω).2⟩;simp only[Sub,hb];refine⟨trivial,trivial,trivial,q1,trivial,λi j hi hj=>?_⟩;have:=(h4 (i*k+j) (by rw[hlen];exact gV hi hj)).1;rw[Qb (gV hi hj)]at this;rw[hr.2 i j Ω hj];exact this
    ·cases p
   ·cases h
  ·split at h
   ·rename_i id n k _ _ k' n' l hb
    obtain⟨q1,q2,p⟩:=qbi h;clear h;have q1:=xa7 q1;have q2:=xa6 q2;subst q2;unfold qbh at p;split at p
    ·rename_i l' hl
     cases p;obtain⟨_,_,h3,h4⟩:=zJ ih hl;obtain⟨row,hb,hr⟩:=hH.rows hb;have hlen:(l.take (n*k)).length=n*k:=(hr.take q1).1;refine⟨?_,Yo λi hi=>(h4 i Ω).2⟩;simp only[Sub,hb];refine⟨trivial,trivial,q1,trivial,λi j hi hj=>?_⟩;have:=(h4 (i*k+j) (by rw[hlen];exact gV hi hj)).1;rw[Qb (gV hi hj)]at this;rw[hr.2 i j Ω hj];exact this
    ·cases p
   ·cases h
  ·split at h
   ·rename_i id off n k _ _ l hb
    obtain⟨q1,p⟩:=JM h;clear h;have q1:=xa7 q1;unfold qbh at p;split at p
    ·rename_i l' hl
     cases p;obtain⟨_,_,h3,h4⟩:=zJ ih hl;have hlen:((l.drop off).take (n*k)).length=n*k:=by rw[xd9,List.length_drop];omega
     refine⟨?_,Yo λi hi=>(h4 i Ω).2⟩;simp only[Sub,hH.cells hb];refine⟨trivial,trivial,trivial,q1,λi j hi hj=>?_⟩;have:=(h4 (i*k+j) (by rw[hlen];exact gV hi hj)).1;rw[Qb (gV hi hj),qgK]at this;exact this
    ·cases p
   ·cases h
  ·split at h
   ·rename_i id off _ _ l hb
    unfold qmG at h;split at h
    ·rename_i l' hl
     cases h;obtain⟨_,_,h3,h4⟩:=zJ ih hl;have hlen:(l.drop off).length=l.length - off:=List.length_drop;refine⟨?_,qki λi hi=>(h4 i Ω).2⟩;simp only[Sub,hH.cells hb]
     grind
    ·cases h
   ·cases h
  ·rename_i o' full n k row
   obtain⟨q1,p⟩:=JM h;clear h;unfold qbh at p;split at p
   ·rename_i l' hl
    cases p;obtain⟨_,_,h3,h4⟩:=zJ ih hl;have hr:=jF row k n;refine⟨?_,Yo λi hi=>(h4 i (by rw[hr.1];exact hi)).2⟩;simp only[Sub];refine⟨λe=>by rw[e]at q1;exact q1,id,trivial,trivial,λi j hi hj=>?_⟩;have:=(h4 (i*k+j) (by rw[hr.1];exact gV hi hj)).1;rw[hr.2 i j hi hj];exact this
   ·cases p
  ·rename_i o' n row
   obtain⟨q1,p⟩:=JM h;clear h;unfold qmG at p;split at p
   ·rename_i l' hl
    cases p;obtain⟨_,_,h3,h4⟩:=zJ ih hl;refine⟨?_,qki λi hi=>(h4 i (by rw[jq];exact hi)).2⟩;simp only[Sub];refine⟨λe=>by rw[e]at q1;exact q1,xa5 _,λj hj=>?_⟩;have:=(h4 j (by rw[jq];exact hj)).1;have e2:(sel row 0 n).getD j .top=row j:=by rw[xc6,yD,if_pos hj,xb0];rfl
    simp_all
   ·cases p
  ·cases h
   exact⟨by simp[Sub],⟨λ_=>by simp[Old],λ_=>by simp[Fresh]⟩⟩
def qcZ(fr:SV→Bool)(s:SV):Bool:=
 match s with
 |.val _=>true
 |.agg l=>l.all fr
 |.tup l=>l.all fr
 |.fn _ a b=>a.all fr&&b.all fr
 |.arr true _ n k row=>(wS row k n).all fr
 |.ref true n row=>(sel row 0 n).all fr
 |_=>false
def JN(n:Nat):SV→Bool:=Nat.rec (λ_=>false) (λ_ ih=>qcZ ih) n
theorem we{fr:SV→Bool}(hfr:∀s,fr s=true→Fresh s):∀{l:List SV},l.all fr=true→FreshL l
 |[],_=>by simp[FreshL]
 |a :: l,h=>by
  rw[List.all_cons,xe6]at h;simp only[FreshL];exact⟨hfr a h.1,we hfr h.2⟩
theorem Qc:∀(n:Nat)(s:SV),JN n s=true→Fresh s
 |0,s,h=>by cases h
 |m+1,s,h0=>by
  have h:qcZ (JN m) s=true:=h0;clear h0;have ih:=Qc m;unfold qcZ at h;split at h
  ·simp[Fresh]
  ·simp only[Fresh];exact we ih h
  ·simp only[Fresh];exact we ih h
  ·rw[xe6]at h
   simp only[Fresh];exact⟨we ih h.1,we ih h.2⟩
  ·rename_i n k row
   have hr:=jF row k n;simp only[Fresh];refine⟨trivial,λi j hi hj=>ih _ ?_⟩;rw[hr.2 i j hi hj,xc6];have hlt:i*k+j<(wS row k n).length:=by rw[hr.1];exact gV hi hj
   simp_all
  ·rename_i n row
   simp only[Fresh];refine⟨trivial,λj hj=>ih _ ?_⟩;have hlt:j<(sel row 0 n).length:=by rw[jq];exact hj
   have e:(sel row 0 n)[j]? = some (row j):=by rw[yD,if_pos hj,xb0]
   grind
  ·cases h
def qeP(u v:Value):Bool:=
 match u with
 |.int k a=>(match v with|.int k' b=>eqKind k k'&&Vk a b|_=>false)
 |.pointer none=>(match v with|.pointer none=>true|_=>false)
 |.slice none 0 0=>(match v with|.slice none 0 0=>true|_=>false)
 |.nilFunc=>(match v with|.nilFunc=>true|_=>false)
 |u=>eqK u v
theorem qbj{u v:Value}(h:qeP u v=true):u=v:=by
 unfold qeP at h;split at h
 ·split at h
  ·rw[xe6,yR,decide_eq_true_eq]at h
   rw[vL h.1,h.2]
  ·cases h
 ·grind
 ·grind
 ·grind
 ·exact zF h
def mtL(m:SV→SV→Bool)(l:List SV):List SV→Bool:=List.rec (motive:=λ_=>List SV→Bool) (λl'=>List.rec true (λ_ _ _=>false) l') (λa _ ih l'=>List.rec false (λb l' _=>Bool.rec false (ih l') (m a b)) l') l
def mtR(m:SV→SV→Bool)(hp:Tr 6 XB)(o:Bool)(n k:Nat)(row:Nat→Nat→SV)(x:SV):Bool:=
 match x with
 |.vec id n1 k1=>(match hp.find id with
  |some (.rows _ k' n' l)=>Nat.beq n n1&&(Nat.beq k k1&&(Nat.beq k1 k'&&(Nat.ble n n'&&mtL m (wS row k n) (l.take (n*k)))))
  |_=>false)
 |.asl id off n1 k1=>(match hp.find id with
  |some (.cells _ l)=>Nat.beq n n1&&(Nat.beq k k1&&(Nat.ble (off+n*k) l.length&&mtL m (wS row k n) ((l.drop off).take (n*k))))
  |_=>false)
 |.arr o' _ n1 k1 row1=>Nat.beq n n1&&(Nat.beq k k1&&((Bool.rec true o' o:Bool)&&mtL m (wS row k n) (wS row1 k n)))
 |_=>false
def mtS(m:SV→SV→Bool)(hp:Tr 6 XB)(p x:SV):Bool:=
 match p with
 |.top=>true
 |.val u=>(match x with|.val v=>qeP u v|_=>false)
 |.agg l=>(match x with|.agg l'=>mtL m l l'|_=>false)
 |.tup l=>(match x with|.tup l'=>mtL m l l'|_=>false)
 |.arr o false n k row=>mtR m hp o n k row x
 |_=>false
def mtX(hp:Tr 6 XB)(n:Nat):SV→SV→Bool:=Nat.rec (λ_ _=>false) (λ_ ih=>mtS ih hp) n
theorem Q4{m:SV→SV→Bool}(hm:∀p x,m p x=true→Sub H p x):∀{l l':List SV},mtL m l l'=true→SubL H l l'∧l.length=l'.length∧∀i,i<l.length→Sub H (l.getD i .top) (l'.getD i .top)
 |[],[],_=>⟨by simp[SubL],rfl,λi hi=>by simp at hi⟩
 |[],b :: l',h=>by cases h
 |a :: l,[],h=>by cases h
 |a :: l,b :: l',h=>by
  have h:(Bool.rec false (mtL m l l') (m a b):Bool)=true:=h;cases q:m a b with
  |false=>rw[q]at h;cases h
  |true=>
   rw[q]at h;obtain⟨h1,h2,h3⟩:=Q4 hm h;refine⟨by simp only[SubL];exact⟨hm _ _ q,h1⟩,by simp[h2],λi hi=>?_⟩;cases i with
   |zero=>exact hm _ _ q
   |succ i=>exact h3 i Ωab
theorem qda(hH:HRel LM hp H):∀(n:Nat)(p x:SV),mtX hp n p x=true→Sub H p x
 |0,p,x,h=>by cases h
 |n+1,p,x,h0=>by
  have h:mtS (mtX hp n) hp p x=true:=h0;clear h0;have ih:=qda hH n;unfold mtS at h;split at h
  ·simp[Sub]
  ·split at h
   ·rw[qbj h];simp[Sub]
   ·cases h
  ·split at h
   ·simp only[Sub];exact(Q4 ih h).1
   ·cases h
  ·split at h
   ·simp only[Sub];exact(Q4 ih h).1
   ·cases h
  ·rename_i o n0 k row
   have hr0:=jF row k n0;have pr:∀i j,i<n0→j<k→(wS row k n0).getD (i*k+j) .top=row i j:=λi j hi hj=>(hr0.2 i j hi hj).symm;have hln:∀i j,i<n0→j<k→i*k+j<(wS row k n0).length:=λi j hi hj=>by rw[hr0.1];exact gV hi hj
   unfold mtR at h;split at h
   ·split at h
    ·rename_i id n1 k1 _ _ k' n' l hb
     simp only[xe6,Nat.beq_eq,Nat.ble_eq]at h;obtain⟨rfl,rfl,rfl,h4,h5⟩:=h;obtain⟨row',hb,hr⟩:=hH.rows hb;obtain⟨_,_,h7⟩:=Q4 ih h5;simp only[Sub,hb];refine⟨trivial,trivial,trivial,h4,trivial,λi j hi hj=>?_⟩;have:=h7 (i*k+j) (hln i j hi hj);rw[pr i j hi hj,Qb (gV hi hj)]at this;rw[hr.2 i j Ω hj];exact this
    ·cases h
   ·split at h
    ·rename_i id off n1 k1 _ _ l hb
     simp only[xe6,Nat.beq_eq,Nat.ble_eq]at h;obtain⟨rfl,rfl,h4,h5⟩:=h;obtain⟨_,_,h7⟩:=Q4 ih h5;simp only[Sub,hH.cells hb]
     grind
    ·cases h
   ·rename_i o' full n1 k1 row1
    simp only[xe6,Nat.beq_eq]at h;obtain⟨rfl,rfl,h4,h5⟩:=h;obtain⟨_,_,h7⟩:=Q4 ih h5;have hr1:=jF row1 k n0;simp only[Sub];refine⟨λe=>(by rw[e]at h4;exact h4),λe=>(by cases e),trivial,trivial,λi j hi hj=>?_⟩;have:=h7 (i*k+j) (hln i j hi hj);rw[pr i j hi hj,←hr1.2 i j hi hj]at this;exact this
   ·cases h
  ·cases h
def V3(hp:Tr 6 XB)(args:List SV)(l:List (List SV×α)):Option α:=List.rec none (λp _ ih=>Bool.rec ih (some p.2) (mtL (mtX hp 5) p.1 args)) l
theorem yx{α:Type}(hH:HRel LM hp H){args:List SV}:∀{l:List (List SV×α)}{s:α},V3 hp args l=some s→∃qq_,(qq_,s)∈l∧SubL H qq_ args
 |[],s,h=>by cases h
 |p :: l,s,h=>by
  have h:(Bool.rec (V3 hp args l) (some p.2) (mtL (mtX hp 5) p.1 args):Option α)=some s:=h;cases q:mtL (mtX hp 5) p.1 args with
  |false=>
   rw[q]at h;obtain⟨qq_,h1,h2⟩:=yx hH h
   grind
  |true=>
   rw[q]at h;have h:some p.2=some s:=h;cases h;exact⟨p.1,xd5,(Q4 (qda hH 5) q).1⟩
end
end
end Go.Sx
end
section
namespace Go.Sx
open Go.RowKit
noncomputable section
variable{fr:Tr 3 SV}{d:Option Tmp}{s:SV}{g:Tr 3 SV→Tr 6 XB→Nat→R}{hp hp':Tr 6 XB}{nid:Nat}{st:St}{H:List (Nat×Blk)}{K:St→Prop}{args:List SV}
variable{ρ:Q}
abbrev XK:=Ex→Tr 3 SV→Tr 6 XB→Nat→R
inductive CX:Type
 |top
 |rnd
 |gen (y:Nat) (L:List (Nat×List (Nat×Nat))) (fr:Tr 3 SV) (ps:List Tmp) (a b:Code)
abbrev FL:=List (Nat×List (Nat×Nat))
abbrev XC:=FL→CX→Code→Tr 3 SV→Tr 6 XB→Nat→XK→R
section
variable{P:Program}{E:XE}{LM:Nat→Option Loop}
def StR(LM:Nat→Option Loop)(fr:Tr 3 SV)(hp:Tr 6 XB)(nid:Nat)(st:St):Prop:=FRel fr st.fr∧HRel LM hp st.hp∧st.nid=nid
def putD(d:Option Tmp)(s:SV)(fr:Tr 3 SV)(g:Tr 3 SV→R):R:=
 match d with
 |none=>g fr
 |some d=>zl (some s) 12 fr d g
theorem FRel.put{fr':Tr 3 SV}{F:List (Nat×SV)}{d:Nat}(h:FRel fr F)(hp:qiH fr fr' d (some s)):FRel fr' (putFr F d s):=λt=>by
 rw[zq];unfold qA;rw[hp t];by_cases c:t=d
 ·simp_all
 ·rw[if_neg c,if_neg c];exact h t
theorem gt{g:Tr 3 SV→R}(h:putD d s fr g=.ok ρ)(hs:StR LM fr hp nid st):∃fr',StR LM fr' hp nid (st.put d s)∧g fr'=.ok ρ:=by
 unfold putD at h;cases d with
 |none=>exact⟨fr,hs,h⟩
 |some d=>
  obtain⟨fr',h1,h2⟩:=qH _ _ _ _ h;exact⟨fr',⟨hs.1.put h1,hs.2.1,hs.2.2⟩,h2⟩
theorem HRel.cons(h:HRel LM hp H){id:Nat}{b:XB}{b':Blk}(hb:BRel (LM id) b b')(hp:qiH hp hp' id (some b)):HRel LM hp' ((id,b') :: H):=λj x hj=>by
 rw[hp j]at hj;by_cases c:j=id
 ·rw[if_pos c]at hj;cases hj;exact⟨b',by simp only[blk];rw[if_pos c],c▸hb⟩
 ·rw[if_neg c]at hj;simp only[blk];rw[if_neg c];exact h j x hj
theorem HRel.set(h:HRel LM hp H){id:Nat}{b y:XB}{b':Blk}(hb:BRel (LM id) b b')(hy:hp.find id=some y)(hp:qiH hp hp' id (some b)):HRel LM hp' (setBlk H id b'):=λj x hj=>by
 rw[hp j]at hj;rw[qn];by_cases c:j=id
 ·rw[if_pos c]at hj;cases hj
  obtain⟨z,hz,_⟩:=h id y hy
  simp_all
 ·rw[if_neg c]at hj;rw[if_neg c];exact h j x hj
theorem HRel.drop(h:HRel LM hp H){id:Nat}(hp:qiH hp hp' id none):HRel LM hp' (dropBlk H id):=λj x hj=>by
 rw[hp j]at hj;rw[qB];by_cases c:j=id
 ·simp_all
 ·rw[if_neg c]at hj;rw[if_neg c];exact h j x hj
structure qkj(P:Program)(g:Nat)(fn:Func)(L:FL)(c:Code):Prop where
 at_:P.funcs[g]? = some fn
 body:fn.body=some c
 name : (fn.name == "runtime.NumGoroutine") = false
 ok:qJ (qV L) fn.ntmps c=true
def Yp(l:List SV):Nat→Tr 3 SV→(Tr 3 SV→R)→R:=
 List.rec (motive:=λ_=>Nat→Tr 3 SV→(Tr 3 SV→R)→R) (λ_ t g=>g t) (λa _ ih i t g=>zl (some a) 12 t i λt=>qj (Nat.succ i) λi=>ih i t g) l
theorem qeQ:∀(l:List SV)(i:Nat)(t:Tr 3 SV)(g:Tr 3 SV→R),Yp l i t g=.ok ρ→∃t',(∀j,qA t' j=if j<i then qA t j else if j<i+l.length then l.getD (j - i) .top else qA t j)∧g t'=.ok ρ
 |[],i,t,g,h=>⟨t,λj=>by
   by_cases c:j<i
   ·rw[if_pos c]
   ·rw[if_neg c,if_neg (by simpa using c)],h⟩
 |a :: l,i,t,g,h=>by
  have h:zl (some a) 12 t i (λt=>qj (Nat.succ i) λi=>Yp l i t g)=.ok ρ:=h;obtain⟨t1,h1,h⟩:=qH _ _ _ _ h;rw[qe]at h;obtain⟨t2,h2,h⟩:=qeQ l _ _ _ h;refine⟨t2,λj=>?_,h⟩;rw[h2 j];have e1:qA t1 j=if j=i then a else qA t j:=by
   unfold qA;rw[h1 j];by_cases c:j=i
   ·simp_all
   ·simp_all
  rw[e1];by_cases c:j<i
  ·grind
  ·grind
theorem Qd{l:List SV}{g:Tr 3 SV→R}(h:Yp l 0 .nil g=.ok ρ):∃t',FRel t' (argFr 0 l)∧g t'=.ok ρ:=by
 obtain⟨t',h1,h2⟩:=qeQ l 0 .nil g h;refine⟨t',λj=>?_,h2⟩;rw[h1 j,G7,if_neg (Nat.not_lt_zero j),if_neg (Nat.not_lt_zero j),Nat.sub_zero];by_cases c:j<0+l.length
 ·rw[if_pos c]
 ·rw[if_neg c,xc6,List.getElem?_eq_none Ω];unfold qA;rw[Zw];rfl
def qmH(E:XE)(fr:Tr 3 SV)(hp:Tr 6 XB)(rv:ResultVar)(g:SV→R):R:=
 match rv with
 |.tmp t=>g (qA fr t)
 |.cell t ty=>qax E hp ty (qA fr t) λx=>(match x with|.pure s=>g s|_=>.bad 300 0)
def yz(E:XE)(fr:Tr 3 SV)(hp:Tr 6 XB)(l:List ResultVar):(List SV→R)→R:=
 List.rec (motive:=λ_=>(List SV→R)→R) (λg=>g []) (λrv _ ih g=>qmH E fr hp rv λs=>svK s λs=>ih λm=>g (s :: m)) l
theorem qmI(hE:XOk P E)(hs:StR LM fr hp nid st){rv:ResultVar}{g:SV→R}{K:SV→Prop}(h:qmH E fr hp rv g=.ok ρ)(hk:∀s,g s=.ok ρ→K s):resultVC P rv st K:=by
 unfold qmH at h;split at h
 ·show K (look st.fr _)
  rw[hs.1];exact hk _ h
 ·rename_i t ty
  show match rLoad (qk P ty) st.hp (look st.fr t)with
   |.pure obl sv=>obl∧K sv
   |.ex obl=>∃sv,obl sv∧K sv
   |_=>False
  rw[hs.1];obtain⟨x,h1,h2⟩:=qay (id:=0) hE hs.2.1 h;cases x<;>simp only[reduceCtorEq]at h2
  rename_i s;rcases h1 with⟨obl,e,ho⟩|⟨obl,e,ho⟩
  ·simp_all
  ·grind
theorem Qe(hE:XOk P E){fr:Tr 3 SV}{hp:Tr 6 XB}{nid:Nat}{st:St}(hs:StR LM fr hp nid st):∀{l:List ResultVar}{g:List SV→R}{K:List SV→Prop},yz E fr hp l g=.ok ρ→(∀m,g m=.ok ρ→K m)→resultsVC P l st K
 |[],g,K,h,hk=>hk [] h
 |rv :: l,g,K,h,hk=>by
  have h:qmH E fr hp rv (λs=>svK s λs=>yz E fr hp l λm=>g (s :: m))=.ok ρ:=h;refine qmI hE hs h λs h=>?_;rw[QW]at h;exact Qe hE hs h λm h=>hk _ h
theorem Q5 {O : Ctx} (far : Nat → List (Nat × Nat)) (hm : P.follows .mixedOrders = true) {f : FuncId} {fn : Func} {c : Code} (hf : P.funcs[f]? = some fn) (hb : fn.body = some c) (hname : (fn.name == "runtime.NumGoroutine") = false) (hok : qJ far fn.ntmps c = true) {args : List SV} (hlen : args.length ≤ fn.ntmps) {st : St} {K : St → SV → Prop}
  (h:∀out:List Fr,vc P ⟨out,st.nid,false,far⟩ c ⟨argFr 0 args,st.hp,st.nid⟩ (λe st'=>match e with|.exit _=>False|_=>resultsVC P fn.results.toList st' (λm=>K ⟨st.fr,st'.hp,st'.nid⟩ (oneSV m)))):kW P O f args st K:=by
 intro base okc ns r outs a w vs h0 hl ha;refine⟨jU hf hb hname vs w,?_⟩;refine gT hm hf hb hok (O:=⟨⟨st.fr,none,ns,st.nid⟩ :: O.fs,st.nid,false,far⟩) (outs:=⟨a :: outs.as,r⟩) (base:=base) (okc:=okc) (st0:=⟨argFr 0 args,st.hp,st.nid⟩) rfl (Post:=λst' m=>K ⟨st.fr,st'.hp,st'.nid⟩ (oneSV m))
  ⟨r,h0.pushF far none (λ_ h=>by cases h) false (Zl hl Ω ha) Ωu rfl⟩ (h _) λst' r' a' w' m us hP hi hml hreps=>?_
 exact⟨_,⟨st.fr,st'.hp,st'.nid⟩,r',oneSV m,rfl,hP,hi.lo,hi.popF h0,vS hml hreps⟩
def wQ(P:Program)(E:XE):Prop:=∀g fn L,E.fns g=some (fn,L)→∃c,qkj P g fn L c
def qgL(LM:Nat→Option Loop)(fs:List Fr)(rnd:Bool):CX→Prop
 |.top=>rnd=false
 |.rnd=>rnd=true
 |.gen y L0 fr ps a b=>rnd=false∧∃L F,LM y=some L∧FRel fr F∧Jk (qV L0) fs L F ps a b
def vA(P:Program)(run:XC):Prop:=∀(ρ:Q)(LM:Nat→Option Loop)(fs:List Fr)(lo:Nat)(rnd:Bool)(L:FL)(cx:CX)(c:Code)(st:St)(fr:Tr 3 SV)(hp:Tr 6 XB)(nid:Nat)(f:XK)(K:Ex→St→Prop),qgL LM fs rnd cx→StR LM fr hp nid st→run L cx c fr hp nid f=.ok ρ→
 (∀e fr' hp' nid' st',StR LM fr' hp' nid' st'→f e fr' hp' nid'=.ok ρ→K e st')→vc P ⟨fs,lo,rnd,qV L⟩ c st K
def qrJ(E:XE)(rs:List ResultVar)(d:Option Tmp)(fr:Tr 3 SV)(g:Tr 3 SV→Tr 6 XB→Nat→R):XK
 |.exit _,_,_,_=>.bad 301 0
 |.normal,fr3,hp3,nid3=>yz E fr3 hp3 rs λm=>svK (oneSV m) λs=>putD d s fr λfr=>g fr hp3 nid3
 |.ret,fr3,hp3,nid3=>yz E fr3 hp3 rs λm=>svK (oneSV m) λs=>putD d s fr λfr=>g fr hp3 nid3
def qkk(E:XE)(run:XC)(fn:Func)(L:FL)(d:Option Tmp)(args:List SV)(fr:Tr 3 SV)(hp:Tr 6 XB)(id:Nat)(g:Tr 3 SV→Tr 6 XB→Nat→R):R:=
 match fn.body with
 |some c=>qg 302 (Nat.ble args.length fn.ntmps) (Yp args 0 .nil λfr2=>run L .top c fr2 hp id (qrJ E fn.results.toList d fr g))
 |none=>.bad 303 0
def qdb(ps:List Tmp):List SV→Tr 3 SV→(Tr 3 SV→R)→R:=
 List.rec (motive:=λ_=>List SV→Tr 3 SV→(Tr 3 SV→R)→R) (λ_ t g=>g t) (λp _ ih qq_ t g=>match qq_ with
  |[]=>.bad 340 0
  |a :: qq_=>zl (some a) 12 t p λt=>ih qq_ t g) ps
theorem V4:∀{ps:List Tmp}{qq_:List SV}{t:Tr 3 SV}{F:List (Nat×SV)}{g:Tr 3 SV→R},FRel t F→qdb ps qq_ t g=.ok ρ→∃t',FRel t' (putPs F ps qq_)∧g t'=.ok ρ
 |[],qq_,t,F,g,hF,h=>⟨t,(by cases qq_<;>exact hF),h⟩
 |p :: ps,[],t,F,g,hF,h=>by cases h
 |p :: ps,a :: qq_,t,F,g,hF,h=>by
  have h:zl (some a) 12 t p (λt=>qdb ps qq_ t g)=.ok ρ:=h;obtain⟨t1,h1,h⟩:=qH _ _ _ _ h;exact V4 (ps:=ps) (qq_:=qq_) (hF.put h1) h
def qoe(y:Nat)(d:Option Tmp)(fr:Tr 3 SV)(g:Tr 3 SV→Tr 6 XB→Nat→R)(e:Ex)(hp:Tr 6 XB)(nid:Nat):R:=
 match hp.find y with
 |some (.loop .busy)=>(match e with
  |.normal=>zl (some (.loop .ready)) 22 hp y λhp=>putD d (.val (.bool true)) fr λfr=>g fr hp nid
  |.ret=>zl (some (.loop .retd)) 22 hp y λhp=>putD d (.val (.bool false)) fr λfr=>g fr hp nid
  |.exit i=>zl (some (.loop (.left i))) 22 hp y λhp=>putD d (.val (.bool false)) fr λfr=>g fr hp nid)
 |_=>.bad 341 0
def qof(run:XC)(L:FL)(y:Nat)(b:Code)(d:Option Tmp)(fr:Tr 3 SV)(g:Tr 3 SV→Tr 6 XB→Nat→R):XK
 |.normal,fr1,hp1,nid1=>(match hp1.find y with
  |some (.loop .ready)=>zl (some (.loop .busy)) 22 hp1 y λhp2=>run L .rnd b fr1 hp2 nid1 λe _ hp nid=>qoe y d fr g e hp nid
  |_=>.bad 342 0)
 |_,_,_,_=>.bad 343 0
def qdc(run:XC)(cx:CX)(d:Option Tmp)(y:Nat)(args:List SV)(fr:Tr 3 SV)(hp:Tr 6 XB)(id:Nat)(g:Tr 3 SV→Tr 6 XB→Nat→R):R:=
 match cx with
 |.gen y0 L fr0 ps a b=>qg 344 (Nat.beq y y0) (qg 345 (Nat.beq args.length ps.length) (match hp.find y with
  |some (.loop .ready)=>qdb ps args fr0 λfr2=>run L .rnd a fr2 hp id (qof run L y b d fr g)
  |_=>.bad 346 0))
 |_=>.bad 347 0
theorem HRel.loop(h:HRel LM hp H){y:Nat}{s:RSt}{L:Loop}(e:hp.find y=some (.loop s))(hL:LM y=some L):blk H y=some (.loop L s):=by
 obtain⟨b',h1,h2⟩:=h _ _ e;cases b'<;>simp only[BRel]at h2
 simp_all
variable{run:XC}
theorem qgM(hm:P.follows .mixedOrders=true)(hrun:vA P run){fs:List Fr}{lo:Nat}{rnd:Bool}{far:Nat→List (Nat×Nat)}{cx:CX}(hcx:qgL LM fs rnd cx){y:Nat}{id:Nat}(hs:StR LM fr hp nid st)(h:qdc run cx d y args fr hp id g=.ok ρ)
  (hk:∀fr' hp' nid' st',StR LM fr' hp' nid' st'→g fr' hp' nid'=.ok ρ→K st'):yK P ⟨fs,lo,rnd,far⟩ y args ⟨st.fr,st.hp,id⟩ λst' res=>K (st'.put d res):=by
 unfold qdc at h;split at h
 ·rename_i y0 L0 fr0 ps a b
  obtain⟨q1,p1⟩:=qa h;obtain⟨q2,p2⟩:=qa p1;have q1:=xa6 q1;have q2:=xa6 q2;subst q1;obtain⟨_,L,F,hL,hF,hR⟩:=hcx;split at p2
  ·rename_i hb
   obtain⟨fr2,h2,h⟩:=V4 hF p2;refine VO hm hR (hs.2.1.loop hb hL) q2 λout=>?_;refine hrun ρ LM _ _ _ L0 .rnd a ⟨_,_,_⟩ fr2 hp id _ _ rfl ⟨h2,hs.2.1,rfl⟩ h λe fr1 hp1 nid1 st1 hs1 h1=>?_;unfold qof at h1;split at h1
   ·split at h1
    ·rename_i hb1
     have hb1':=hs1.2.1.loop hb1 hL;obtain⟨hp2,p2,h1⟩:=qH _ _ _ _ h1;refine⟨by rw[hb1'];rfl,?_⟩;refine hrun ρ LM _ _ _ L0 .rnd b ⟨_,_,_⟩ _ hp2 _ _ _ rfl ⟨hs1.1,hs1.2.1.set (b:=.loop .busy) (b':=.loop L .busy) ⟨rfl,hL⟩ hb1 p2,hs1.2.2⟩ h1 λe fr3 hp3 nid3 st3 hs3 h3=>?_;unfold qoe at h3;split at h3
     ·rename_i hb3
      have hb3':=hs3.2.1.loop hb3 hL;refine⟨by rw[hb3'];rfl,?_⟩;have fin:∀(s:RSt)(b:Bool),(zl (some (.loop s)) 22 hp3 y λhp=>putD d (.val (.bool b)) fr λfr=>g fr hp nid3)=.ok ρ→K (St.put ⟨st.fr,setBlk st3.hp y (.loop L s),st3.nid⟩ d (.val (.bool b))):=by
       intro s b h;obtain⟨hp4,p4,h⟩:=qH _ _ _ _ h;obtain⟨fr',g1,g2⟩:=gt (LM:=LM) (st:=⟨st.fr,setBlk st3.hp y (.loop L s),st3.nid⟩) h ⟨hs.1,hs3.2.1.set (b:=.loop s) (b':=.loop L s) ⟨rfl,hL⟩ hb3 p4,hs3.2.2⟩
       grind
      cases e with
      |normal=>exact fin _ _ h3
      |ret=>exact fin _ _ h3
      |exit i=>exact fin _ _ h3
     ·cases h3
    ·cases h1
   ·cases h1
  ·cases p2
 ·cases h
def qmJ(E:XE)(h0:Nat)(rs:List ResultVar):XK
 |.exit _,_,_,_=>.bad 370 0
 |.normal,fr,hp,_=>yz E fr hp rs λm=>(match Q3 true hp 5 (oneSV m)with|some s=>.ok (.mk s .nil 0)|none=>.bad 371 h0)
 |.ret,fr,hp,_=>yz E fr hp rs λm=>(match Q3 true hp 5 (oneSV m)with|some s=>.ok (.mk s .nil 0)|none=>.bad 371 h0)
def qog(fr:Tr 3 SV)(hp:Tr 6 XB)(nid:Nat)(d:Option Tmp)(g:Tr 3 SV→Tr 6 XB→Nat→R)(r:R):R:=
 match r with
 |.ok (.mk s _ _)=>qg 373 (JN 5 s) (putD d s fr λfr=>g fr hp nid)
 |.bad c i=>.bad c i
def qkl(n:Nat)(i:Sh)(args:List SV)(d:Option Tmp)(fr:Tr 3 SV)(hp:Tr 6 XB)(nid:Nat)(g:Tr 3 SV→Tr 6 XB→Nat→R):R:=
 qg 376 (Nat.beq args.length n) (match i.sv args with
  |some s=>putD d s fr λfr=>g fr hp nid
  |none=>.bad 377 0)
theorem qkm{h0 n:Nat}{i:Sh}(hp0:KJ P h0 n i)(hs:StR LM fr hp nid st)(h:qkl n i args d fr hp nid g=.ok ρ)
  (hk:∀fr' hp' nid' st',StR LM fr' hp' nid' st'→g fr' hp' nid'=.ok ρ→K st'):Wt P st.hp h0 args (λr=>K (st.put d r)):=by
 unfold qkl at h;obtain⟨q,p⟩:=qa h;have q:=xa6 q;split at p
 ·rename_i s ha
  obtain⟨fr',k1,k2⟩:=gt p hs;exact⟨s,.inr ⟨i,by rw[q];exact hp0,ha⟩,hk _ _ _ _ k1 k2⟩
 ·cases p
def qkn(E:XE)(run:XC)(h0:Nat)(fn:Func)(L:FL)(d:Option Tmp)(qq_:Option (List SV))(fr:Tr 3 SV)(hp:Tr 6 XB)(nid:Nat)(g:Tr 3 SV→Tr 6 XB→Nat→R):R:=
 match fn.body,qq_ with
 |some c,some qq_=>qg 374 (Nat.ble qq_.length fn.ntmps) (qog fr hp nid d g (Yp qq_ 0 .nil λfr2=>run L .top c fr2 .nil 0 (qmJ E h0 fn.results.toList)))
 |_,_=>.bad 375 h0
theorem qko(hm:P.follows .mixedOrders=true)(hE:XOk P E)(hrun:vA P run){h0:Nat}{fn:Func}{L:FL}{c:Code}(hc:qkj P h0 fn L c)(hs:StR LM fr hp nid st)(h:qkn E run h0 fn L d (jl (Q3 false hp 5) args) fr hp nid g=.ok ρ)
  (hk:∀fr' hp' nid' st',StR LM fr' hp' nid' st'→g fr' hp' nid'=.ok ρ→K st'):Wt P st.hp h0 args (λr=>K (st.put d r)):=by
 unfold qkn at h;rw[hc.body]at h;split at h
 ·rename_i c' qq_ hb has
  cases hb;obtain⟨q,h⟩:=qa h;obtain⟨g1,g2,_⟩:=zJ (KE hs.2.1 false 5) has;unfold qog at h;split at h
  ·rename_i s hp0 n0 hr
   obtain⟨q2,h⟩:=qa h;obtain⟨fr',k1,k2⟩:=gt h hs;obtain⟨fr2,f1,f2⟩:=Qd hr;refine⟨s,.inl ⟨qq_,gp (qV L) hc.at_ hc.body hc.name hm hc.ok qq_ s (xa7 q) (g2.1 rfl) ?_,.inl ⟨g1,Qc 5 s q2⟩⟩,hk _ _ _ _ k1 k2⟩;have key:∀(fr3:Tr 3 SV)(hp3:Tr 6 XB)(nid3:Nat)(st3:St),StR (λ_=>none) fr3 hp3 nid3 st3→yz E fr3 hp3 fn.results.toList (λm=>(match Q3 true hp3 5 (oneSV m)with|some s=>.ok (.mk s .nil 0)|none=>.bad 371 h0))=.ok (.mk s hp0 n0)→retVC P fn.results.toList st3 s:=λfr3 hp3 nid3 st3 h3 h=>by
    rw[G9];refine Qe hE h3 h λm h=>?_;split at h
    ·rename_i s' hs'
     cases h;exact(KE h3.2.1 true 5 _ _ hs').1
    ·cases h
   refine hrun _ (λ_=>none) _ _ _ L .top c _ fr2 .nil 0 _ _ rfl ⟨f1,λid b hb=>(by rw[Zw]at hb;cases hb),rfl⟩ f2 λe fr3 hp3 nid3 st3 h3 h=>?_;cases e with
   |exit i=>cases h
   |normal=>exact key _ _ _ _ h3 h
   |ret=>exact key _ _ _ _ h3 h
  ·cases h
 ·cases h
def ZS(E:XE)(run:XC)(cx:CX)(j:Bool)(d:Option Tmp)(id:Nat)(xr:XR)(fr:Tr 3 SV)(hp:Tr 6 XB)(nid:Nat)(g:Tr 3 SV→Tr 6 XB→Nat→R):R:=
 match xr with
 |.pure s=>putD d s fr λfr=>g fr hp nid
 |.new b s=>zl (some b) 22 hp id λhp=>putD d s fr λfr=>g fr hp nid
 |.upd i b s=>(match hp.find i with
  |some _=>zl (some b) 22 hp i λhp=>putD d s fr λfr=>g fr hp nid
  |none=>.bad 304 0)
 |.grow i b s=>qg 305 (!(Nat.beq i id)) (zl none 22 hp i λhp=>zl (some b) 22 hp id λhp=>putD d s fr λfr=>g fr hp nid)
 |.call h args=>(match E.prj h with
  |some (n,i)=>qkl n i args d fr hp nid g
  |none=>match E.orc h with
  |some f=>qg 306 j (f args hp id λs hp nid=>putD d s fr λfr=>g fr hp nid)
  |none=>match V3 hp args (E.ctr h)with
  |some s=>qg 309 (JN 5 s) (putD d s fr λfr=>g fr hp nid)
  |none=>match V3 hp args (E.ctn h)with
  |some (t,k,n,l,s)=>Qk l λl=>zl (some (.rows t k n l)) 22 hp id λhp=>putD d (setId id s) fr λfr=>g fr hp nid
  |none=>match E.fns h with
  |some (fn,L)=>Bool.rec (qkn E run h fn L d (jl (Q3 false hp 5) args) fr hp nid g) (qkk E run fn L d args fr hp id g) j
  |none=>.bad 307 h)
 |.yield y args=>qg 308 j (qdc run cx d y args fr hp id g)
theorem qmK(hm:P.follows .mixedOrders=true)(hE:XOk P E)(hf:wQ P E)(hrun:vA P run){fs:List Fr}{lo:Nat}{rnd:Bool}{far:Nat→List (Nat×Nat)}{cx:CX}(hcx:qgL LM fs rnd cx){j:Bool}{J:Prop}(hj:j=true→J){op:Op}{id:Nat}{xr:XR}{r:Res}(hs:StR LM fr hp nid st)(hh:Hit xr id r)(h:ZS E run cx j d id xr fr hp nid g=.ok ρ)
  (hk:∀fr' hp' nid' st',StR LM fr' hp' nid' st'→g fr' hp' nid'=.ok ρ→K st'):wN P ⟨fs,lo,rnd,far⟩ J op d id st K r:=by
 unfold ZS at h;split at h
 ·obtain⟨fr',h1,h2⟩:=gt h hs
  rcases hh with⟨obl,rfl,ho⟩|⟨obl,rfl,ho⟩
  ·exact⟨ho,hk _ _ _ _ h1 h2⟩
  ·exact⟨_,ho,hk _ _ _ _ h1 h2⟩
 ·obtain⟨obl,b',mk,rfl,ho,hb,rfl⟩:=hh
  obtain⟨hp',p1,h⟩:=qH _ _ _ _ h;obtain⟨fr',h1,h2⟩:=gt (st:={ st with hp:=(id,b') :: st.hp }) h ⟨hs.1,hs.2.1.cons hb.any p1,hs.2.2⟩;exact⟨ho,hk _ _ _ _ h1 h2⟩
 ·split at h
  ·rename_i y hy
   obtain⟨hp',p1,h⟩:=qH _ _ _ _ h;rcases hh with⟨obl,b',rfl,ho,hb,rfl⟩|⟨obl,b',rfl,ho,hb⟩
   ·obtain⟨fr',h1,h2⟩:=gt (st:={ st with hp:=setBlk st.hp _ b' }) h ⟨hs.1,hs.2.1.set hb.any hy p1,hs.2.2⟩
    exact⟨ho,hk _ _ _ _ h1 h2⟩
   ·obtain⟨fr',h1,h2⟩:=gt (st:={ st with hp:=setBlk st.hp _ b' }) h ⟨hs.1,hs.2.1.set hb.any hy p1,hs.2.2⟩
    exact⟨ho,hk _ _ _ _ h1 h2⟩
  ·cases h
 ·rename_i i b s
  obtain⟨obl,b',mk,rfl,ho,hb,rfl⟩:=hh;obtain⟨q,h⟩:=qa h;have q:i≠id:=λe=>by rw[e,Nat.beq_refl]at q;cases q
  obtain⟨hp1,p1,h⟩:=qH _ _ _ _ h;obtain⟨hp2,p2,h⟩:=qH _ _ _ _ h;obtain⟨fr',h1,h2⟩:=gt (st:={ st with hp:=(id,b') :: dropBlk st.hp i }) h ⟨hs.1,(hs.2.1.drop p1).cons hb.any p2,hs.2.2⟩;exact⟨⟨ho,q⟩,hk _ _ _ _ h1 h2⟩
 ·rename_i h0 args
  split at h
  ·rename_i n i hp0
   have hh:r=.call h0 args:=hh;subst hh;exact .inl (qkm (hE.prj _ _ _ hp0) hs h hk)
  split at h
  ·rename_i f hof
   obtain⟨q,h⟩:=qa h;have hh:r=.call h0 args:=hh;subst hh;refine .inr (.inr ⟨hj q,hE.orc _ _ hof ρ LM _ args hp _ ⟨st.fr,st.hp,id⟩ (λst' res=>K (st'.put d res)) hs.2.1 h λs hp' nid' H' hH' hk'=>?_⟩);obtain⟨fr',h1,h2⟩:=gt (LM:=LM) (st:=⟨st.fr,H',nid'⟩) hk' ⟨hs.1,hH',rfl⟩
   grind
  split at h
  ·rename_i s hcs
   obtain⟨qq_,h1,h2⟩:=yx hs.2.1 hcs;obtain⟨h3,h⟩:=qa h;have hh:r=.call h0 args:=hh;subst hh;obtain⟨fr',g1,g2⟩:=gt h hs;exact .inl ⟨s,.inl ⟨qq_,hE.ctr _ _ _ h1,.inl ⟨h2,Qc 5 _ h3⟩⟩,hk _ _ _ _ g1 g2⟩
  split at h
  ·rename_i t k n l s hcs
   obtain⟨qq_,h1,h2⟩:=yx hs.2.1 hcs;obtain⟨row,c1,c2,c3,c4⟩:=hE.ctn _ _ _ _ _ _ _ h1;rw[kS]at h;obtain⟨hp',p1,h⟩:=qH _ _ _ _ h;have hh:r=.call h0 args:=hh;subst hh;obtain⟨fr',g1,g2⟩:=gt (st:={ st with hp:=(id,.rows t k n row) :: st.hp }) h ⟨hs.1,hs.2.1.cons (b:=.rows t k n l) (b':=.rows t k n row) ⟨rfl,rfl,rfl,c2⟩ p1,hs.2.2⟩;exact .inr (.inl ⟨qq_,_,_,c1,.inl ⟨h2,c3,c4⟩,hk _ _ _ _ g1 g2⟩)
  split at h
  ·rename_i fn L hfn
   obtain⟨c,hc⟩:=hf _ _ _ hfn;cases q:j with
   |false=>
    rw[q]at h;have hh:r=.call h0 args:=hh;subst hh;exact .inl (qko hm hE hrun hc hs h hk)
   |true=>
   rw[q]at h;have h:qkk E run fn L d args fr hp id g=.ok ρ:=h;unfold qkk at h;rw[hc.body]at h;obtain⟨q2,h⟩:=qa h;obtain⟨fr2,f1,f2⟩:=Qd h;have hh:r=.call h0 args:=hh;subst hh;refine .inr (.inr ⟨hj q,Q5 (qV L) (K:=λst' res=>K (st'.put d res)) hm hc.at_ hc.body hc.name hc.ok (xa7 q2) λout=>?_⟩);have key:∀(fr3:Tr 3 SV)(hp3:Tr 6 XB)(nid3:Nat)(st3:St),StR LM fr3 hp3 nid3 st3→yz E fr3 hp3 fn.results.toList (λm=>svK (oneSV m) λs=>putD d s fr λfr=>g fr hp3 nid3)=.ok ρ→resultsVC P fn.results.toList st3 (λm=>K (St.put ⟨st.fr,st3.hp,st3.nid⟩ d (oneSV m))):=by
    intro fr3 hp3 nid3 st3 h3 h;refine Qe hE h3 h λm h=>?_;rw[QW]at h;obtain⟨fr',g1,g2⟩:=gt (st:=⟨st.fr,st3.hp,st3.nid⟩) h ⟨hs.1,h3.2.1,h3.2.2⟩
    grind
   refine hrun ρ LM _ _ _ L .top c ⟨argFr 0 args,st.hp,id⟩ fr2 hp id _ _ rfl ⟨f1,hs.2.1,rfl⟩ f2 λe fr3 hp3 nid3 st3 h3 h=>?_;cases e with
   |exit i=>cases h
   |normal=>exact key _ _ _ _ h3 h
   |ret=>exact key _ _ _ _ h3 h
  ·cases h
 ·rename_i y args
  obtain⟨q,h⟩:=qa h;have hh:r=.yield y args:=hh;subst hh;exact⟨hj q,qgM hm hrun hcx hs h hk⟩
def xGo(E:XE)(run:XC)(cx:CX)(j:Bool)(o:Oper)(fr:Tr 3 SV)(hp:Tr 6 XB)(nid i:Nat)(g:Tr 3 SV→Tr 6 XB→Nat→R):R:=
 qj (nid+i) λid=>xOp E fr hp id o.op λxr=>ZS E run cx j o.dst id xr fr hp nid g
def yA(ds:List (Option Tmp))(gd:Option (Nat×Bool))(d:Option Tmp)(fr:Tr 3 SV)(hp:Tr 6 XB)(nid:Nat)(go:R)(g:Tr 3 SV→Tr 6 XB→Nat→R):R:=
 match gd with
 |none=>go
 |some (i,want)=>(match nth ds i with
  |none=>.bad 310 0
  |some t=>(match qA fr t with
   |.val (.bool b)=>Bool.rec (putD d undefSV fr λfr=>g fr hp nid) go (b == want)
   |.val (.tuple _)=>putD d undefSV fr λfr=>g fr hp nid
   |_=>.bad 311 0))
def ZT(E:XE)(run:XC)(cx:CX)(j:Bool)(ds:List (Option Tmp))(ops:List Oper):Nat→Tr 3 SV→Tr 6 XB→Nat→(Tr 3 SV→Tr 6 XB→Nat→R)→R:=
 List.rec (motive:=λ_=>Nat→Tr 3 SV→Tr 6 XB→Nat→(Tr 3 SV→Tr 6 XB→Nat→R)→R) (λ_ fr hp nid g=>g fr hp nid)
  (λo _ ih i fr hp nid g=>yA ds o.guard o.dst fr hp nid (xGo E run cx j o fr hp nid i λfr hp nid=>qj (Nat.succ i) λi=>ih i fr hp nid g) (λfr hp nid=>qj (Nat.succ i) λi=>ih i fr hp nid g)) ops
theorem StR.same(hs:StR LM fr hp nid st){t:Tmp}(e:qA fr t=s):StR LM fr hp nid (st.put (some t) s):=⟨λu=>by
 show look (putFr st.fr t s) u=_;rw[zq];by_cases c:u=t
 ·rw[if_pos c,c,e]
 ·rw[if_neg c];exact hs.1 u,hs.2.1,hs.2.2⟩
theorem Gs(hm:P.follows .mixedOrders=true)(hE:XOk P E)(hf:wQ P E){run:XC}(hrun:vA P run){fs:List Fr}{lo:Nat}{rnd:Bool}{far:Nat→List (Nat×Nat)}{cx:CX}(hcx:qgL LM fs rnd cx){j:Bool}{J:Prop}(hj:j=true→J){ds:List (Option Tmp)}:∀{ops:List Oper}{i:Nat}{fr:Tr 3 SV}{hp:Tr 6 XB}{nid:Nat}{g:Tr 3 SV→Tr 6 XB→Nat→R}{st:St}{K:St→Prop},StR LM fr hp nid st→ZT E run cx j ds ops i fr hp nid g=.ok ρ→
  (∀fr' hp' nid' st',StR LM fr' hp' nid' st'→g fr' hp' nid'=.ok ρ→K st')→qL P ⟨fs,lo,rnd,far⟩ J ds ops i st K
 |[],i,fr,hp,nid,g,st,K,hs,h,hk=>hk _ _ _ _ hs h
 |o :: ops,i,fr,hp,nid,g,st,K,hs,h,hk=>by
  have h:yA ds o.guard o.dst fr hp nid (xGo E run cx j o fr hp nid i λfr hp nid=>qj (Nat.succ i) λi=>ZT E run cx j ds ops i fr hp nid g) (λfr hp nid=>qj (Nat.succ i) λi=>ZT E run cx j ds ops i fr hp nid g)=.ok ρ:=h;have next:∀fr' hp' nid' st',StR LM fr' hp' nid' st'→(qj (Nat.succ i) λi=>ZT E run cx j ds ops i fr' hp' nid' g)=.ok ρ→qL P ⟨fs,lo,rnd,far⟩ J ds ops (i+1) st' K:=by
   intro fr' hp' nid' st' hs' h';rw[qe]at h';exact Gs hm hE hf hrun hcx hj hs' h' hk
  have go:∀st,StR LM fr hp nid st→xGo E run cx j o fr hp nid i (λfr hp nid=>qj (Nat.succ i) λi=>ZT E run cx j ds ops i fr hp nid g)=.ok ρ→wN P ⟨fs,lo,rnd,far⟩ J o.op o.dst (st.nid+i) st (λst=>qL P ⟨fs,lo,rnd,far⟩ J ds ops (i+1) st K) (stepR P (look st.fr) st.hp o.op):=by
   intro st hs h;unfold xGo at h;rw[qe]at h;obtain⟨xr,h1,h2⟩:=qcL hE hs.1.fn hs.2.1 h;rw[hs.2.2];exact qmK hm hE hf hrun hcx hj hs h1 h2 next
  have skip:∀st,StR LM fr hp nid st→(putD o.dst undefSV fr λfr=>qj (Nat.succ i) λi=>ZT E run cx j ds ops i fr hp nid g)=.ok ρ→qL P ⟨fs,lo,rnd,far⟩ J ds ops (i+1) (st.put o.dst undefSV) K:=by
   intro st hs h;obtain⟨fr',h1,h2⟩:=gt h hs
   grind
  unfold qL zr;unfold yA at h;cases hgd:o.guard with
  |none=>rw[hgd]at h;exact go st hs h
  |some x=>
   obtain⟨i0,want⟩:=x;rw[hgd]at h;dsimp only at h ⊢;cases hn:nth ds i0 with
   |none=>rw[hn]at h;cases h
   |some t=>
    rw[hn]at h;dsimp only at h ⊢;rw[hs.1 t];split at h
    ·rename_i b hb
     rw[hb];have hs2:=hs.same hb;cases want<;>cases b<;>(dsimp only at h ⊢)
     ·exact⟨λe=>(by cases e),λ_=>go _ hs2 h⟩
     ·exact⟨λ_=>skip _ hs2 h,λe=>by cases e⟩
     ·exact⟨λe=>(by cases e),λ_=>skip _ hs2 h⟩
     ·exact⟨λ_=>go _ hs2 h,λe=>by cases e⟩
    ·simp_all
    ·cases h
end
end
end Go.Sx
end
section
namespace Go.Sx
open Go.RowKit
noncomputable section
variable{run:XC}{O:Ctx}{op:Op}{hp:Tr 6 XB}{st:St}{K:Ex→St→Prop}{s:SV}{fr:Tr 3 SV}{o:Oper}{H:List (Nat×Blk)}{l:List Oper}
variable{ρ:Q}
def qkp(eq:SV→SV→Bool):List SV→List SV→Bool
 |[],[]=>true
 |a :: l,b :: m=>eq a b&&qkp eq l m
 |_,_=>false
def qpe(eq:SV→SV→Bool)(a b:SV):Bool:=
 match a with
 |.val u=>(match b with|.val v=>qeP u v|_=>false)
 |.ptr i o=>(match b with|.ptr j p=>Nat.beq i j&&Nat.beq o p|_=>false)
 |.elt i k a c=>(match b with|.elt j l b d=>Nat.beq i j&&(Nat.beq k l&&(Nat.beq a b&&Nat.beq c d))|_=>false)
 |.vec i n k=>(match b with|.vec j m l=>Nat.beq i j&&(Nat.beq n m&&Nat.beq k l)|_=>false)
 |.cut i n k=>(match b with|.cut j m l=>Nat.beq i j&&(Nat.beq n m&&Nat.beq k l)|_=>false)
 |.asl i o n k=>(match b with|.asl j p m l=>Nat.beq i j&&(Nat.beq o p&&(Nat.beq n m&&Nat.beq k l))|_=>false)
 |.que i o n k=>(match b with|.que j p m l=>Nat.beq i j&&(Nat.beq o p&&(Nat.beq n m&&Nat.beq k l))|_=>false)
 |.mp i=>(match b with|.mp j=>Nat.beq i j|_=>false)
 |.agg l=>(match b with|.agg m=>qkp eq l m|_=>false)
 |.tup l=>(match b with|.tup m=>qkp eq l m|_=>false)
 |.top=>(match b with|.top=>true|_=>false)
 |_=>false
def qpf(n:Nat):SV→SV→Bool:=Nat.rec (λ_ _=>false) (λ_ ih=>qpe ih) n
theorem qeR{eq:SV→SV→Bool}(h:∀a b,eq a b=true→a=b):∀{l m:List SV},qkp eq l m=true→l=m
 |[],[],_=>rfl
 |[],_ :: _,e=>by cases e
 |_ :: _,[],e=>by cases e
 |a :: l,b :: m,e=>by
  simp only[qkp,xe6]at e;rw[h _ _ e.1,qeR h e.2]
theorem qeS:∀(n:Nat)(a b:SV),qpf n a b=true→a=b
 |0,a,b,h=>by cases h
 |n+1,a,b,h=>by
  have h:qpe (qpf n) a b=true:=h;have ih:=qeS n;unfold qpe at h;split at h<;>(try split at h)<;>first
   |(cases h;done)
   |(rw[qbj h];done)
   |(rw[qeR ih h];done)
   |(rw[xa6 h];done)
   |rfl
   |(simp only[xe6,Nat.beq_eq]at h;obtain⟨rfl,rfl⟩:=h;rfl)
   |(simp only[xe6,Nat.beq_eq]at h;obtain⟨rfl,rfl,rfl⟩:=h;rfl)
   |(simp only[xe6,Nat.beq_eq]at h;obtain⟨rfl,rfl,rfl,rfl⟩:=h;rfl)
def qrK(E:XE)(rs:List ResultVar)(g:SV→Tr 6 XB→Nat→R):XK
 |.exit _,_,_,_=>.bad 301 0
 |.normal,fr3,hp3,nid3=>yz E fr3 hp3 rs λm=>svK (oneSV m) λs=>g s hp3 nid3
 |.ret,fr3,hp3,nid3=>yz E fr3 hp3 rs λm=>svK (oneSV m) λs=>g s hp3 nid3
def qoh(E:XE)(run:XC)(fn:Func)(L:FL)(args:List SV)(hp:Tr 6 XB)(id:Nat)(g:SV→Tr 6 XB→Nat→R):R:=
 match fn.body with
 |some c=>qg 302 (Nat.ble args.length fn.ntmps) (Yp args 0 .nil λfr2=>run L .top c fr2 hp id (qrK E fn.results.toList g))
 |none=>.bad 303 0
def qoi(n:Nat)(i:Sh)(args:List SV)(g:SV→R):R:=
 qg 376 (Nat.beq args.length n) (match i.sv args with
  |some s=>svK s g
  |none=>.bad 377 0)
def qbk(E:XE)(run:XC)(id:Nat)(xr:XR)(hp:Tr 6 XB)(g:SV→Tr 6 XB→Nat→R):R:=
 match xr with
 |.pure s=>g s hp id
 |.new b s=>zl (some b) 22 hp id λhp=>g s hp id
 |.upd i b s=>(match hp.find i with
  |some _=>zl (some b) 22 hp i λhp=>g s hp id
  |none=>.bad 304 0)
 |.grow i b s=>qg 305 (!(Nat.beq i id)) (zl none 22 hp i λhp=>zl (some b) 22 hp id λhp=>g s hp id)
 |.call h args=>(match E.prj h with
  |some (n,i)=>qoi n i args λs=>g s hp id
  |none=>match E.orc h with
  |some f=>f args hp id g
  |none=>match V3 hp args (E.ctr h)with
  |some s=>qg 309 (JN 5 s) (g s hp id)
  |none=>match V3 hp args (E.ctn h)with
  |some (t,k,n,l,s)=>Qk l λl=>zl (some (.rows t k n l)) 22 hp id λhp=>g (setId id s) hp id
  |none=>match E.fns h with
  |some (fn,L)=>qoh E run fn L args hp id g
  |none=>.bad 307 h)
 |.yield _ _=>.bad 381 0
def okQ(s:SV)(hp:Tr 6 XB)(nid:Nat):R:=.ok (.mk s hp nid)
def KY(E:XE)(run:XC)(id:Nat)(o:Oper)(fr:Tr 3 SV)(hp:Tr 6 XB)(g:SV→Tr 6 XB→Nat→R):R:=
 match (xOp E fr hp id o.op λxr=>qbk E run id xr hp okQ)with
 |.ok (.mk s hp nid)=>g s hp nid
 |.bad c i=>.bad c i
def qeT(xr:XR):R:=
 match xr with
 |.pure s=>.ok (.mk s .nil 0)
 |_=>.bad 382 0
def JO(k:Value)(l:List Value):Bool:=List.rec false (λa _ ih=>Bool.rec ih true (Js a k)) l
def jO(es:List (Value×Option SV)):List Value→List Value:=List.rec (motive:=λ_=>List Value→List Value) (λ_=>[]) (λp _ ih seen=>Bool.rec (ih seen) (Bool.rec (Option.rec (ih (p.1 :: seen)) (λ_=>p.1 :: ih (p.1 :: seen)) p.2) (ih seen) (JO p.1 seen)) (Js p.1 p.1)) es
def qdd(es:List (Value×Option SV)):List Value→Nat→(Nat→R)→R:=List.rec (motive:=λ_=>List Value→Nat→(Nat→R)→R) (λ_ c f=>f c) (λp _ ih seen c f=>Bool.rec (ih seen c f) (Bool.rec (Option.rec (ih (p.1 :: seen) c f) (λ_=>qj (Nat.succ c) λc=>ih (p.1 :: seen) c f) p.2) (ih seen c f) (JO p.1 seen)) (Js p.1 p.1)) es
def qbl(E:XE)(op:Op):Option Operand:=
 match op with
 |.call ⟨.builtin .len,args,ts⟩=>(match args.toList,ts.toList with
  |[x],[t]=>(match E.mps t with
   |some _=>some x
   |none=>none)
  |_,_=>none)
 |_=>none
def JP(x:SV)(hp:Tr 6 XB):R:=
 match x with
 |.mp id=>(match hp.find id with
  |some (.map _ _ es)=>qdd es [] 0 λn=>.ok (.mk (.val (.int .i64 (.ofNat n))) .nil 0)
  |_=>.bad 390 0)
 |_=>.bad 391 0
def JQ(E:XE)(fr:Tr 3 SV)(hp:Tr 6 XB)(op:Op):R:=
 match qbl E op with
 |some x=>JP (zp fr x) hp
 |none=>xOp E fr hp 0 op qeT
def jm(E:XE)(o:Oper)(fr:Tr 3 SV)(hp:Tr 6 XB)(g:SV→R):R:=
 match (JQ E fr hp o.op)with
 |.ok (.mk s _ _)=>g s
 |.bad c i=>.bad c i
def qoj(fr:Tr 3 SV)(op:Op):Bool:=
 match op with
 |.load _ x=>(match zp fr x with|.ref _ _ _=>true|_=>false)
 |_=>false
def zP(fr:Tr 3 SV)(op:Op):Bool:=JB op&&!qoj fr op
def Vq(b:Bool)(hp:Tr 6 XB):Tr 6 XB:=Bool.rec .nil hp b
abbrev CK:=Tr 3 SV→Tr 6 XB→Nat→List (Tr 6 XB)→R
def gdX(ds:List (Option Tmp))(gd:Option (Nat×Bool))(fr:Tr 3 SV):Option Bool:=
 match gd with
 |none=>some false
 |some (i,want)=>(match nth ds i with
  |none=>none
  |some t=>(match qA fr t with
   |.val (.bool b)=>some (!(b == want))
   |.val (.tuple _)=>some true
   |_=>none))
def jp(E:XE)(run:XC)(n:Nat)(ds:List (Option Tmp))(ops:List Oper):Tr 3 SV→Tr 6 XB→Nat→List (Tr 6 XB)→CK→R:=
 List.rec (motive:=λ_=>Tr 3 SV→Tr 6 XB→Nat→List (Tr 6 XB)→CK→R) (λfr hp nid hs g=>g fr hp nid hs)
  (λo _ ih fr hp nid hs g=>match gdX ds o.guard fr with
   |some false=>Bool.rec (jm E o fr (Vq (zP fr o.op) hp) λs=>putD o.dst s fr λfr=>ih fr hp nid hs g)
    (qj (nid+n) λid=>KY E run id o fr hp λs hp' nid'=>qj (Nat.succ nid') λnid'=>putD o.dst s fr λfr=>ih fr hp' nid' (hs++[hp']) g) (jk o.op)
   |some true=>putD o.dst undefSV fr λfr=>Bool.rec (ih fr hp nid hs g) (qj (nid+n) λnid=>ih fr hp nid (hs++[hp]) g) (jk o.op)
   |none=>.bad 386 0) ops
def Ga(ds:List (Option Tmp))(o:Oper)(fr:Tr 3 SV):Bool:=match gdX ds o.guard fr with
 |some false=>true
 |_=>false
def Yq(E:XE)(fr:Tr 3 SV)(o:Oper)(hp:Tr 6 XB)(r:R):R:=
 jm E o fr hp λs=>(match o.dst with
  |some d=>qql 384 d (qpf 6 s (qA fr d)) r
  |none=>r)
def Q6(E:XE)(fr:Tr 3 SV)(o:Oper)(lo hi tx:Nat)(r:R)(hs:List (Tr 6 XB)):Nat→R:=
 List.rec (motive:=λ_=>Nat→R) (λ_=>r) (λhp _ ih k=>Bool.rec (qj (Nat.succ k) λk=>ih k) (Yq E fr o hp (qj (Nat.succ k) λk=>ih k)) (Nat.ble lo k&&(Nat.ble k hi&&!(Nat.beq k tx)))) hs
def JR(E:XE)(l:List Oper)(fr:Tr 3 SV)(hs:List (Tr 6 XB))(r:R)(ops:List Oper):Nat→R:=
 List.rec (motive:=λ_=>Nat→R) (λ_=>r) (λo _ ih i=>Bool.rec (qj (Nat.succ i) λi=>ih i) (qj (loC l i) λlo=>qj (hiC l i) λhi=>qj (kc (efL l) i) λtx=>Q6 E fr o lo hi tx (qj (Nat.succ i) λi=>ih i) hs 0) (zP fr o.op&&Ga (dsts l) o fr)) ops
def qmL(E:XE)(run:XC)(ops:List Oper)(fr:Tr 3 SV)(hp:Tr 6 XB)(nid:Nat)(f:XK):R:=
 qg 385 (W9 ops) (qj ops.length λn=>jp E run n (dsts ops) ops fr hp nid [hp] λfr hp nid hs=>JR E ops fr hs (qj (nid+n) λnid=>f .normal fr hp nid) ops 0)
section
variable{P:Program}{E:XE}{LM:Nat→Option Loop}
theorem qmM(hm:P.follows .mixedOrders=true)(hE:XOk P E)(hf:wQ P E)(hrun:vA P run){d:Option Tmp}{id:Nat}{xr:XR}{g:SV→Tr 6 XB→Nat→R}{K:St→Prop}{r:Res}(hH:HRel LM hp st.hp)(hn:st.nid=id)(hh:Hit xr id r)(h:qbk E run id xr hp g=.ok ρ)
  (hk:∀s hp' nid' st',(∀t,look st'.fr t=look (st.put d s).fr t)→HRel LM hp' st'.hp→st'.nid=nid'→g s hp' nid'=.ok ρ→K st'):wN P O True op d id st K r:=by
 have fr0:∀(H:List (Nat×Blk))(n:Nat)(s:SV)(t:Nat),look (St.put ⟨st.fr,H,n⟩ d s).fr t=look (st.put d s).fr t:=λH n s t=>by rw[vm,vm]
 unfold qbk at h;split at h
 ·rcases hh with⟨obl,rfl,ho⟩|⟨obl,rfl,ho⟩
  ·exact⟨ho,hk _ _ _ _ (λt=>rfl) (by rw[zu];exact hH) Ωy h⟩
  ·exact⟨_,ho,hk _ _ _ _ (λt=>rfl) (by rw[zu];exact hH) Ωy h⟩
 ·obtain⟨obl,b',mk,rfl,ho,hb,rfl⟩:=hh
  obtain⟨hp',p1,h⟩:=qH _ _ _ _ h;exact⟨ho,hk _ _ _ _ (λt=>fr0 _ _ _ t) (by rw[zu];exact hH.cons hb.any p1) Ωy h⟩
 ·split at h
  ·rename_i y hy
   obtain⟨hp',p1,h⟩:=qH _ _ _ _ h;rcases hh with⟨obl,b',rfl,ho,hb,rfl⟩|⟨obl,b',rfl,ho,hb⟩
   ·exact⟨ho,hk _ _ _ _ (λt=>fr0 _ _ _ t) (by rw[zu];exact hH.set hb.any hy p1) Ωy h⟩
   ·exact⟨ho,hk _ _ _ _ (λt=>fr0 _ _ _ t) (by rw[zu];exact hH.set hb.any hy p1) Ωy h⟩
  ·cases h
 ·rename_i i b s
  obtain⟨obl,b',mk,rfl,ho,hb,rfl⟩:=hh;obtain⟨q,h⟩:=qa h;have q:i≠id:=λe=>by rw[e,Nat.beq_refl]at q;cases q
  obtain⟨hp1,p1,h⟩:=qH _ _ _ _ h;obtain⟨hp2,p2,h⟩:=qH _ _ _ _ h;exact⟨⟨ho,q⟩,hk _ _ _ _ (λt=>fr0 _ _ _ t) (by rw[zu];exact(hH.drop p1).cons hb.any p2) Ωy h⟩
 ·rename_i h0 args
  have hh:r=.call h0 args:=hh;subst hh;split at h
  ·rename_i n i hp0
   unfold qoi at h;obtain⟨q,h⟩:=qa h;have q:=xa6 q;split at h
   ·rename_i s ha
    rw[QW]at h;exact .inl ⟨s,.inr ⟨i,by rw[q];exact hE.prj _ _ _ hp0,ha⟩,hk _ _ _ _ (λt=>rfl) (by rw[zu];exact hH) Ωy h⟩
   ·cases h
  split at h
  ·rename_i f hof
   refine .inr (.inr ⟨trivial,hE.orc _ _ hof ρ LM O args hp g ⟨st.fr,st.hp,id⟩ (λst' res=>K (st'.put d res)) hH h λs hp' nid' H' hH' hk'=>?_⟩);exact hk _ _ _ _ (λt=>fr0 _ _ _ t) (by rw[zu];exact hH') (by rw[qx]) hk'
  split at h
  ·rename_i s hcs
   obtain⟨qq_,h1,h2⟩:=yx hH hcs;obtain⟨h3,h⟩:=qa h;exact .inl ⟨s,.inl ⟨qq_,hE.ctr _ _ _ h1,.inl ⟨h2,Qc 5 _ h3⟩⟩,hk _ _ _ _ (λt=>rfl) (by rw[zu];exact hH) Ωy h⟩
  split at h
  ·rename_i t k n l s hcs
   obtain⟨qq_,h1,h2⟩:=yx hH hcs;obtain⟨row,c1,c2,c3,c4⟩:=hE.ctn _ _ _ _ _ _ _ h1;rw[kS]at h;obtain⟨hp',p1,h⟩:=qH _ _ _ _ h;exact .inr (.inl ⟨qq_,_,_,c1,.inl ⟨h2,c3,c4⟩,hk _ _ _ _ (λt=>fr0 _ _ _ t) (by rw[zu];exact hH.cons (b:=.rows t k n l) (b':=.rows t k n row) ⟨rfl,rfl,rfl,c2⟩ p1) Ωy h⟩)
  split at h
  ·rename_i fn L hfn
   obtain⟨c,hc⟩:=hf _ _ _ hfn;unfold qoh at h;rw[hc.body]at h;obtain⟨q2,h⟩:=qa h;obtain⟨fr2,f1,f2⟩:=Qd h;refine .inr (.inr ⟨trivial,Q5 (qV L) (K:=λst' res=>K (st'.put d res)) hm hc.at_ hc.body hc.name hc.ok (xa7 q2) λout=>?_⟩);have key:∀(fr3:Tr 3 SV)(hp3:Tr 6 XB)(nid3:Nat)(st3:St),StR LM fr3 hp3 nid3 st3→yz E fr3 hp3 fn.results.toList (λm=>svK (oneSV m) λs=>g s hp3 nid3)=.ok ρ→resultsVC P fn.results.toList st3 (λm=>K (St.put ⟨st.fr,st3.hp,st3.nid⟩ d (oneSV m))):=by
    intro fr3 hp3 nid3 st3 h3 h;refine Qe hE h3 h λm h=>?_;rw[QW]at h;exact hk _ _ _ _ (λt=>fr0 _ _ _ t) (by rw[zu];exact h3.2.1) (by rw[qx];exact h3.2.2) h
   refine hrun ρ LM _ _ _ L .top c ⟨argFr 0 args,st.hp,id⟩ fr2 hp id _ _ rfl ⟨f1,hH,rfl⟩ f2 λe fr3 hp3 nid3 st3 h3 h=>?_;cases e with
   |exit i=>cases h
   |normal=>exact key _ _ _ _ h3 h
   |ret=>exact key _ _ _ _ h3 h
  ·cases h
 ·cases h
def qeU(P:Program)(LM:Nat→Option Loop)(n:Nat)(ds:List (Option Tmp))(o:Oper)(sk:Bool)(s:SV)(X X':Tr 3 SV)(Y Y':Tr 6 XB)(Z Z':Nat):Prop:=
 (∀t,qA X' t=if o.dst=some t then s else qA X t)∧gdX ds o.guard X=some sk∧
 (sk=true→s=undefSV∧Y'=Y∧(jk o.op=true→Z+n≤Z'))∧
 (jk o.op=false→Y'=Y∧Z'=Z)∧
 (sk=false→jk o.op=false→(∀H,HRel LM Y H→PureAt P (qA X) H o.op s)∧(zP X o.op=false→∀H,PureAt P (qA X) H o.op s))∧
 (sk=false→jk o.op=true→∀(O:Ctx)(st1:St),(∀t,t∈gu o→look st1.fr t=qA X t)→HRel LM Y st1.hp→st1.nid=Z+n→∀K':St→Prop,(∀st':St,(∀t,look st'.fr t=look (st1.put o.dst s).fr t)→HRel LM Y' st'.hp→st'.nid+1≤Z'→K' st')→wN P O True o.op o.dst st1.nid st1 K' (stepR P (look st1.fr) st1.hp o.op))
theorem Yr{d:Option Tmp}{g:Tr 3 SV→R}(h:putD d s fr g=.ok ρ):∃fr',(∀t,qA fr' t=if d=some t then s else qA fr t)∧g fr'=.ok ρ:=by
 unfold putD at h;cases d with
 |none=>exact⟨fr,λt=>by rw[if_neg (by intro h;cases h)],h⟩
 |some d=>
  obtain⟨fr',h1,h2⟩:=qH _ _ _ _ h;refine⟨fr',λt=>?_,h2⟩;unfold qA;rw[h1 t];by_cases c:t=d
  ·simp_all
  ·grind
theorem Q7{t:Tmp}(h : .tmp t∈o.op.operands.toList):t∈gu o:=by
 unfold gu
 grind
theorem qeV:HRel LM .nil H:=λid b hb=>by rw[Zw]at hb;cases hb
theorem V5{g:SV→R}(h:jm E o fr hp g=.ok ρ):∃s,(∃a b,JQ E fr hp o.op=.ok (.mk s a b))∧g s=.ok ρ:=by
 unfold jm at h;split at h
 ·simp_all
 ·cases h
theorem Ys{k:Value}(hk:eqK k k=true):∀{l:List Value},JO k l=true↔k∈l
 |[]=>by simp[JO]
 |a :: l=>by
  show(Bool.rec (JO k l) true (Js a k):Bool)=true↔_;rw[WT,List.mem_cons];cases h:eqK a k with
  |true=>have:=zF h;simp[this]
  |false=>
   show JO k l=true↔_;rw[Ys hk];constructor
   ·exact .inr
   ·grind
theorem Q9(p:Value×Option SV)(es:List (Value×Option SV))(seen:List Value):jO (p :: es) seen=(Bool.rec (jO es seen) (Bool.rec (Option.rec (jO es (p.1 :: seen)) (λ_=>p.1 :: jO es (p.1 :: seen)) p.2) (jO es seen) (JO p.1 seen)) (Js p.1 p.1):List Value):=rfl
theorem ZU(f:Nat→R):∀(es:List (Value×Option SV))(seen:List Value)(c:Nat),qdd es seen c f=f (c+(jO es seen).length)
 |[],seen,c=>rfl
 |p :: es,seen,c=>by
  show(Bool.rec (qdd es seen c f) (Bool.rec (Option.rec (qdd es (p.1 :: seen) c f) (λ_=>qj (Nat.succ c) λc=>qdd es (p.1 :: seen) c f) p.2) (qdd es seen c f) (JO p.1 seen)) (Js p.1 p.1):R)=_;rw[Q9];cases Js p.1 p.1 with
  |false=>exact ZU f es seen c
  |true=>
  cases JO p.1 seen with
  |true=>exact ZU f es seen c
  |false=>
   cases p.2 with
   |none=>exact ZU f es _ c
   |some s=>
    show(qj (Nat.succ c) λc=>qdd es (p.1 :: seen) c f)=f (c+((jO es (p.1 :: seen)).length+1));rw[qe,ZU f es _ _]
    congr 1;omega
theorem keysE_mem{k:Value}:∀{es:List (Value×Option SV)}{seen:List Value},k∈jO es seen↔k∉seen∧(gU es k).isSome=true
 |[],seen=>by
  show k∈[]↔_∧Option.isSome none=true;simp
 |p :: es,seen=>by
  rw[Q9,kF,WT];cases hs:eqK p.1 p.1 with
  |false=>
   show k∈jO es seen↔_;rw[keysE_mem];have:¬(eqK p.1 k=true):=λh=>by rw[←zF h,hs]at h;cases h
   rw[if_neg this]
  |true=>
   cases hh:JO p.1 seen with
   |true=>
    show k∈jO es seen↔_;have hm:=(Ys hs).1 hh;rw[keysE_mem];by_cases c:eqK p.1 k=true
    ·have:=zF c
     simp_all
    ·rw[if_neg c]
   |false=>
    have hm:p.1∉seen:=λh=>by rw[(Ys hs).2 h]at hh;cases hh
    by_cases c:eqK p.1 k=true
    ·rw[if_pos c]
     have:=zF c;subst this;cases p.2 with
     |none=>
      show p.1∈jO es (p.1 :: seen)↔_;rw[keysE_mem];simp
     |some s=>
      show p.1∈p.1 :: jO es (p.1 :: seen)↔_;simp[hm]
    ·rw[if_neg c]
     have hne:k≠p.1:=λh=>by rw[h,hs]at c;exact c rfl
     cases p.2 with
     |none=>
      show k∈jO es (p.1 :: seen)↔_;rw[keysE_mem];simp[hne]
     |some s=>
      show k∈p.1 :: jO es (p.1 :: seen)↔_;rw[List.mem_cons,keysE_mem];simp[hne]
theorem jI:∀{es:List (Value×Option SV)}{seen:List Value},(jO es seen).Nodup
 |[],seen=>List.nodup_nil
 |p :: es,seen=>by
  rw[Q9];cases Js p.1 p.1 with
  |false=>exact jI
  |true=>
   cases JO p.1 seen with
   |true=>exact jI
   |false=>
    cases p.2 with
    |none=>exact jI
    |some s=>
     refine List.nodup_cons.2 ⟨λh=>?_,jI⟩;have:=(keysE_mem.1 h).1;simp at this
theorem qkq{x:Operand}(h:qbl E op=some x):∃t mi,op=.call ⟨.builtin .len,#[x],#[t]⟩∧E.mps t=some mi:=by
 unfold qbl at h;split at h
 ·rename_i args ts
  split at h
  ·rename_i x' t ha ht
   split at h
   ·rename_i mi hm
    cases h;have e1:=GM ha;have e2:=GM ht
    simp_all
   ·cases h
  ·cases h
 ·cases h
theorem ZV(hE:XOk P E)(hH:HRel LM hp H)(h:∃a b,JQ E fr hp op=.ok (.mk s a b)):PureAt P (qA fr) H op s:=by
 obtain⟨a,b,h⟩:=h;unfold JQ at h;split at h
 ·rename_i x hl
  obtain⟨t,mi,rfl,hm⟩:=qkq hl;refine .inr ⟨rfl,λO st hfr hst=>?_⟩;unfold JP at h;split at h
  ·rename_i id hx
   split at h
   ·rename_i ag ls es hb
    rw[ZU]at h;cases h;subst hst;obtain⟨dom,get,g1,g2⟩:=hH.map hb;have hxe:env (look st.fr) x=.mp id:=by
     rw[←hx];cases x with
     |tmp t=>exact hfr t Ωn
     |_=>rfl
    have:=qgC (O:=O) (hE.mps _ _ hm) hxe g1 jI (L:=jO es []) λk=>by rw[(g2 k).1,keysE_mem];simp
    simp_all
   ·cases h
  ·cases h
 ·obtain⟨xr,h1,h2⟩:=qcL hE (F:=qA fr) (λ_=>rfl) hH h
  cases xr<;>simp only[qeT,reduceCtorEq]at h2
  cases h2;exact .inl h1
theorem PureAt.congr{F F':Nat→SV}(h:PureAt P F H o.op s)(hF:∀t,t∈gu o→F' t=F t):PureAt P F' H o.op s:=by
 rcases h with h|⟨h1,h2⟩
 ·exact .inl (by rw[VV (F':=F) λt ht=>hF t (Q7 ht)];exact h)
 ·exact .inr ⟨h1,λO st hfr hst=>h2 O st (λt ht=>by rw[hfr t ht,hF t ht]) hst⟩
theorem qkr{j:Nat}:efL (o :: l) (j+1)=efL l j:=by simp[efL]
theorem qeW{o:Oper}{l:List Oper}:∀{j:Nat},kc (efL (o :: l)) (j+1)=(if jk o.op=true then 1 else 0)+kc (efL l) j
 |0=>by simp[kc,efL]
 |j+1=>by
  have ih:=qeW (o:=o) (l:=l) (j:=j);simp only[kc]at ih ⊢;rw[ih,qkr];omega
theorem JS(hm:P.follows .mixedOrders=true)(hE:XOk P E)(hf:wQ P E){run:XC}(hrun:vA P run){n:Nat}{ds:List (Option Tmp)}:∀{ops:List Oper}{fr:Tr 3 SV}{hp:Tr 6 XB}{nid k0:Nat}{hs:List (Tr 6 XB)}{g:CK},jp E run n ds ops fr hp nid hs g=.ok ρ→hs.length=k0+1→hs[k0]? = some hp→
  ∃(res:Nat→SV)(sk:Nat→Bool)(X:Nat→Tr 3 SV)(Y:Nat→Tr 6 XB)(Z:Nat→Nat)(hs':List (Tr 6 XB)),X 0=fr∧Y 0=hp∧Z 0=nid∧g (X ops.length) (Y ops.length) (Z ops.length) hs'=.ok ρ∧
   (∀i o,ops[i]? = some o→qeU P LM n ds o (sk i) (res i) (X i) (X (i+1)) (Y i) (Y (i+1)) (Z i) (Z (i+1)))∧(∀j,j≤ops.length→hs'[k0+kc (efL ops) j]? = some (Y j))∧∀k,k≤k0→hs'[k]? = hs[k]?
 |[],fr,hp,nid,k0,hs,g,h,hl,hh=>by
  refine⟨λ_=>.top,λ_=>false,λ_=>fr,λ_=>hp,λ_=>nid,hs,rfl,rfl,rfl,h,λi o ho=>by simp at ho,λj hj=>?_,λ_ _=>rfl⟩;have:j=0:=by simpa using hj
  subst this;exact hh
 |o :: ops,fr,hp,nid,k0,hs,g,h,hl,hh=>by
  have h:(match gdX ds o.guard fr with
   |some false=>Bool.rec (jm E o fr (Vq (zP fr o.op) hp) λs=>putD o.dst s fr λfr=>jp E run n ds ops fr hp nid hs g)
    (qj (nid+n) λid=>KY E run id o fr hp λs hp' nid'=>qj (Nat.succ nid') λnid'=>putD o.dst s fr λfr=>jp E run n ds ops fr hp' nid' (hs++[hp']) g) (jk o.op)
   |some true=>putD o.dst undefSV fr λfr=>Bool.rec (jp E run n ds ops fr hp nid hs g) (qj (nid+n) λnid=>jp E run n ds ops fr hp nid (hs++[hp]) g) (jk o.op)
   |none=>.bad 386 0:R)=.ok ρ:=h
  have glue:∀(k:Bool)(s:SV)(fr':Tr 3 SV)(hp':Tr 6 XB)(nid' k1:Nat)(hs1:List (Tr 6 XB)),qeU P LM n ds o k s fr fr' hp hp' nid nid'→jp E run n ds ops fr' hp' nid' hs1 g=.ok ρ→hs1.length=k1+1→hs1[k1]? = some hp'→k1=k0+(if jk o.op=true then 1 else 0)→(∀k,k≤k0→hs1[k]? = hs[k]?)→
    ∃(res:Nat→SV)(sk:Nat→Bool)(X:Nat→Tr 3 SV)(Y:Nat→Tr 6 XB)(Z:Nat→Nat)(hs':List (Tr 6 XB)),X 0=fr∧Y 0=hp∧Z 0=nid∧g (X (o :: ops).length) (Y (o :: ops).length) (Z (o :: ops).length) hs'=.ok ρ∧
   (∀i o',(o :: ops)[i]? = some o'→qeU P LM n ds o' (sk i) (res i) (X i) (X (i+1)) (Y i) (Y (i+1)) (Z i) (Z (i+1)))∧(∀j,j≤(o :: ops).length→hs'[k0+kc (efL (o :: ops)) j]? = some (Y j))∧∀k,k≤k0→hs'[k]? = hs[k]?:=by
   intro k s fr' hp' nid' k1 hs1 hstep hrest hl1 hh1 hk1 hpre;obtain⟨res,sk,X,Y,Z,hs',e1,e2,e3,hg,hst,hsg,hpr⟩:=JS hm hE hf hrun hrest hl1 hh1;refine⟨λi=>Nat.casesOn i s res,λi=>Nat.casesOn i k sk,λi=>Nat.casesOn i fr X,λi=>Nat.casesOn i hp Y,λi=>Nat.casesOn i nid Z,hs',rfl,rfl,rfl,hg,λi o' ho=>?_,λj hj=>?_,λk hk=>?_⟩
   ·cases i with
    |zero=>
     (simp_all;omega)
    |succ i=>exact hst i o' (by simpa using ho)
   ·cases j with
    |zero=>
     show hs'[k0+0]? = some hp
     simp_all
    |succ j=>
     show hs'[_]? = some (Y j);rw[qeW,←xb2,←hk1]
     simp_all
   ·grind
  split at h
  ·rename_i hgd
   cases q:jk o.op with
   |false=>
    rw[q]at h;have h:jm E o fr (Vq (zP fr o.op) hp) (λs=>putD o.dst s fr λfr=>jp E run n ds ops fr hp nid hs g)=.ok ρ:=h;obtain⟨s,hx,h⟩:=V5 h;obtain⟨fr',hfr,h⟩:=Yr h;refine glue false s fr' hp nid k0 hs ⟨hfr,hgd,λe=>(by cases e),λ_=>⟨rfl,rfl⟩,λ_ _=>⟨λH hH=>?_,λhr H=>?_⟩,λ_ e=>by rw[q]at e;cases e⟩ h hl hh (by simp[q]) (λ_ _=>rfl)
    ·refine ZV hE (LM:=LM) (hp:=Vq (zP fr o.op) hp) ?_ hx
     cases zP fr o.op
     ·exact qeV
     ·exact hH
    ·rw[hr]at hx
     exact ZV hE (LM:=LM) (hp:=.nil) qeV hx
   |true=>
    rw[q]at h;have h:qj (nid+n) (λid=>KY E run id o fr hp λs hp' nid'=>qj (Nat.succ nid') λnid'=>putD o.dst s fr λfr=>jp E run n ds ops fr hp' nid' (hs++[hp']) g)=.ok ρ:=h;rw[qe]at h;unfold KY at h;split at h
    ·rename_i s hp' nid' hx
     dsimp only at h;rw[qe]at h;obtain⟨fr',hfr,h⟩:=Yr h;refine glue false s fr' hp' (nid'+1) (k0+1) (hs++[hp']) ⟨hfr,hgd,λe=>(by cases e),λe=>(by rw[q]at e;cases e),λ_ e=>(by rw[q]at e;cases e),λ_ _ O st1 hops hH hn K' hk=>?_⟩ h (by simp[hl]) ?_ (by simp[q]) λk hk=>?_
     ·have e:stepR P (look st1.fr) st1.hp o.op=stepR P (qA fr) st1.hp o.op:=VV λt ht=>hops t (Q7 ht)
      rw[e,hn];obtain⟨xr,h1,h2⟩:=qcL hE (F:=qA fr) (λ_=>rfl) hH hx;refine qmM hm hE hf hrun (id:=nid+n) hH hn h1 h2 λs1 hp1 nid1 st' hf' hH' hn' hq=>?_;unfold okQ at hq
      simp_all
     ·simp_all
     ·grind
    ·cases h
  ·rename_i hgd
   obtain⟨fr',hfr,h⟩:=Yr h;cases q:jk o.op with
   |false=>
    rw[q]at h;exact glue true undefSV fr' hp nid k0 hs ⟨hfr,hgd,λ_=>⟨rfl,rfl,λe=>(by rw[q]at e;cases e)⟩,λ_=>⟨rfl,rfl⟩,λe=>(by cases e),λe=>(by cases e)⟩ h hl hh (by simp[q]) (λ_ _=>rfl)
   |true=>
    rw[q]at h;have h:(qj (nid+n) λnid=>jp E run n ds ops fr' hp nid (hs++[hp]) g)=.ok ρ:=h;rw[qe]at h;refine glue true undefSV fr' hp (nid+n) (k0+1) (hs++[hp]) ⟨hfr,hgd,λ_=>⟨rfl,rfl,λ_=>xa5 _⟩,λe=>(by rw[q]at e;cases e),λe=>(by cases e),λe=>(by cases e)⟩ h (by simp[hl]) ?_ (by simp[q]) λk hk=>?_
    ·simp_all
    ·grind
  ·cases h
def qks(P:Program)(LM:Nat→Option Loop)(fr:Tr 3 SV)(o:Oper)(hp:Tr 6 XB):Prop:=∀H,HRel LM hp H→∃s,PureAt P (qA fr) H o.op s∧∀d,o.dst=some d→s=qA fr d
theorem qgN(hE:XOk P E){r:R}(h:Yq E fr o hp r=.ok ρ):qks P LM fr o hp∧r=.ok ρ:=by
 obtain⟨s,hx,h⟩:=V5 h;cases e:o.dst with
 |none=>
  rw[e]at h;exact⟨λH hH=>⟨s,ZV hE hH hx,λd hd=>by rw[e]at hd;cases hd⟩,h⟩
 |some d=>
  rw[e]at h;obtain⟨h1,h⟩:=qmd h;exact⟨λH hH=>⟨s,ZV hE hH hx,λd' hd=>by rw[e]at hd;cases hd;exact qeS _ _ _ h1⟩,h⟩
theorem qeX(hE:XOk P E){fr:Tr 3 SV}{o:Oper}{lo hi tx:Nat}{r:R}:∀{hs:List (Tr 6 XB)}{k:Nat},Q6 E fr o lo hi tx r hs k=.ok ρ→r=.ok ρ∧∀j y,hs[j]? = some y→lo≤k+j→k+j≤hi→k+j≠tx→qks P LM fr o y
 |[],k,h=>⟨h,λj y hj=>by simp at hj⟩
 |hp :: hs,k,h=>by
  have h:(Bool.rec (qj (Nat.succ k) λk=>Q6 E fr o lo hi tx r hs k) (Yq E fr o hp (qj (Nat.succ k) λk=>Q6 E fr o lo hi tx r hs k)) (Nat.ble lo k&&(Nat.ble k hi&&!(Nat.beq k tx))):R)=.ok ρ:=h;have key:(qj (Nat.succ k) λk=>Q6 E fr o lo hi tx r hs k)=.ok ρ∧(lo≤k→k≤hi→k≠tx→qks P LM fr o hp):=by
   cases q:(Nat.ble lo k&&(Nat.ble k hi&&!(Nat.beq k tx)))with
   |false=>
    (simp_all;omega)
   |true=>
    rw[q]at h;obtain⟨h1,h2⟩:=qgN (LM:=LM) hE h
    simp_all
  obtain⟨h1,h2⟩:=key;rw[qe]at h1;obtain⟨h3,h4⟩:=qeX hE h1;refine⟨h3,λj y hj a b c=>?_⟩;cases j with
  |zero=>simp at hj;subst hj;exact h2 a b c
  |succ j=>exact h4 j y (by simpa using hj) Ω Ω Ω
theorem qeY(hE:XOk P E){l:List Oper}{fr:Tr 3 SV}{hs:List (Tr 6 XB)}{r:R}:∀{ops:List Oper}{i:Nat},JR E l fr hs r ops i=.ok ρ→r=.ok ρ∧∀j o,ops[j]? = some o→(zP fr o.op&&Ga (dsts l) o fr)=true→∀k y,hs[k]? = some y→loC l (i+j)≤k→k≤hiC l (i+j)→k≠kc (efL l) (i+j)→qks P LM fr o y
 |[],i,h=>⟨h,λj o hj=>by simp at hj⟩
 |o :: ops,i,h=>by
  have h:(Bool.rec (qj (Nat.succ i) λi=>JR E l fr hs r ops i) (qj (loC l i) λlo=>qj (hiC l i) λhi=>qj (kc (efL l) i) λtx=>Q6 E fr o lo hi tx (qj (Nat.succ i) λi=>JR E l fr hs r ops i) hs 0) (zP fr o.op&&Ga (dsts l) o fr):R)=.ok ρ:=h;have key:(qj (Nat.succ i) λi=>JR E l fr hs r ops i)=.ok ρ∧((zP fr o.op&&Ga (dsts l) o fr)=true→∀k y,hs[k]? = some y→loC l i≤k→k≤hiC l i→k≠kc (efL l) i→qks P LM fr o y):=by
   cases q:(zP fr o.op&&Ga (dsts l) o fr)with
   |false=>rw[q]at h;exact⟨h,λe=>by cases e⟩
   |true=>
    rw[q]at h;have h:(qj (loC l i) λlo=>qj (hiC l i) λhi=>qj (kc (efL l) i) λtx=>Q6 E fr o lo hi tx (qj (Nat.succ i) λi=>JR E l fr hs r ops i) hs 0)=.ok ρ:=h;rw[qe,qe,qe]at h;obtain⟨h1,h2⟩:=qeX (LM:=LM) hE h
    grind
  obtain⟨h1,h2⟩:=key;rw[qe]at h1;obtain⟨h3,h4⟩:=qeY hE h1;refine⟨h3,λj o' hj hr k y hk a b c=>?_⟩;cases j with
  |zero=>simp at hj;subst hj;exact h2 hr k y hk a b c
  |succ j=>
   grind
theorem qmN(hm:P.follows .mixedOrders=true)(hE:XOk P E)(hf:wQ P E)(hrun:vA P run){id:Nat}{nid:Nat}{f:XK}{g:Tag K}(hs:StR LM fr hp nid st)(h:qmL E run l fr hp nid f=.ok ρ)
  (hk:∀e fr' hp' nid' st',StR LM fr' hp' nid' st'→f e fr' hp' nid'=.ok ρ→K e st'):vj P O id l true st K g:=by
 obtain⟨q,h⟩:=qa h;rw[qe]at h;have hc:=qgB q;obtain⟨res,sk,X,Y,Z,hs',e1,e2,e3,hg,hst,hsg,hpr⟩:=JS (LM:=LM) hm hE hf hrun h (k0:=0) rfl rfl;obtain⟨hfin,hck⟩:=qeY (LM:=LM) hE hg;rw[qe]at hfin;have hsi:∀i,i<l.length→∃o,l[i]? = some o:=λi hi=>⟨l[i],by simp[hi]⟩;have hX:∀j,j≤l.length→∀t,qA (X j) t=FS (nth (dsts l)) res (λ_=>true) (look st.fr) j t:=by
  intro j
  induction j with
  |zero=>intro _ t;rw[e1];exact(hs.1 t).symm
  |succ j ih=>
   intro hj t;obtain⟨o,ho⟩:=hsi j Ω;have hd:nth (dsts l) j=o.dst:=by rw[zk,ho];rfl
   rw[(hst j o ho).1 t,ih Ω t];simp only[FS,hd,true_and]
 have hopd:∀i o,l[i]? = some o→∀t,t∈gu o→qA (X l.length) t=qA (X i) t:=by
  intro i o ho t ht;have hi:i<l.length:=(List.getElem?_eq_some_iff.1 ho).1;rw[hX _ (xa5 _),hX i Ω];refine W8 Ω λx hx hxl hd=>?_;have:=hc.lt i x hi (hc.ops i o t x ho ht hxl hd);omega
 have hef:∀i o,l[i]? = some o→efL l i=jk o.op:=λi o ho=>by simp[efL,ho]
 have hY:∀j,j<l.length→efL l j=false→Y (j+1)=Y j∧Z (j+1)=Z j:=by
  intro j hj he;obtain⟨o,ho⟩:=hsi j hj;exact(hst j o ho).2.2.2.1 (by rw[←hef j o ho];exact he)
 have hgt:∀i o g want t,l[i]? = some o→o.guard=some (g,want)→nth (dsts l) g=some t→qA (X l.length) t=qA (X i) t:=by
  intro i o g want t ho hgd ht;have hi:i<l.length:=(List.getElem?_eq_some_iff.1 ho).1;have hgl:=hc.lt i g hi (hc.grd i o g want ho hgd).1;rw[hX _ (xa5 _),hX i Ω];refine W8 Ω λx hx hxl hd=>?_;exact hc.dist x g t Ω hxl hd ht
 have hgX:∀i o,l[i]? = some o→gdX (dsts l) o.guard (X l.length)=gdX (dsts l) o.guard (X i):=by
  intro i o ho;unfold gdX;cases hgd:o.guard with
  |none=>rfl
  |some p=>
   obtain⟨g,want⟩:=p;dsimp only;cases ht:nth (dsts l) g with
   |none=>rfl
   |some t=>dsimp only;rw[hgt i o g want t ho hgd ht]
 refine qaO hm hc res Y Z (qA (X l.length)) sk (λi o ho=>?_) hY (λt=>hX _ (xa5 _) t) (by rw[e2];exact hs.2.1) (by rw[e3];exact hs.2.2) ?_ ?_ ?_
 ·obtain⟨_,s2,s3,s4,_,_⟩:=hst i o ho
  rw[←hgX i o ho]at s2;refine⟨?_,λhs=>⟨(s3 hs).2.1,λhe=>(s3 hs).2.2 (by rw[←hef i o ho];exact he),λd hd=>(s3 hs).1⟩⟩;unfold gdX at s2;unfold Grd;cases hgd:o.guard with
  |none=>rw[hgd]at s2;exact(Option.some.inj s2).symm
  |some p=>
   obtain⟨g,want⟩:=p;rw[hgd]at s2;dsimp only at s2;split at s2
   ·cases s2
   ·rename_i t ht
    refine⟨t,ht,?_⟩;split at s2
    ·rename_i b hb
     exact .inl ⟨b,hb,(Option.some.inj s2).symm⟩
    ·rename_i vs hb
     exact .inr ⟨⟨vs,hb⟩,(Option.some.inj s2).symm⟩
    ·cases s2
 ·intro i o ho hsk he j hj hlo hhi F H hF hH
  have hi:i<l.length:=(List.getElem?_eq_some_iff.1 ho).1;obtain⟨p1,p2⟩:=(hst i o ho).2.2.2.2.1 hsk (by rw[←hef i o ho];exact he);have hFi:∀t,t∈gu o→F t=qA (X i) t:=λt ht=>by rw[hF t ht,hopd i o ho t ht]
  by_cases c:kc (efL l) j=kc (efL l) i
  ·have hst2:Y j=Y i:=by
    by_cases d:j≤i
    ·exact(wb hY d Ω c).1
    ·exact(wb hY (Ω:i≤j) hj c.symm).1.symm
   exact⟨_,(p1 H (by rw[←hst2];exact hH)).congr hFi,λ_ _=>rfl⟩
  ·have hsee:zP (X l.length) o.op=zP (X i) o.op:=by
    unfold zP
    congr 2
    unfold qoj;split
    ·rename_i t x hop
     have:zp (X l.length) x=zp (X i) x:=by
      cases x<;>first|rfl|skip
      rename_i t;exact hopd i o ho t (Q7 (by rw[hop];simp[Op.operands]))
     rw[this]
    ·rfl
   cases d:zP (X i) o.op with
   |false=>
    exact⟨_,(p2 d H).congr hFi,λ_ _=>rfl⟩
   |true=>
    have h1:=hsg j hj;rw[xb0]at h1;have:=hck i o ho (by rw[hsee,d,xf0];unfold Ga;rw[hgX i o ho,(hst i o ho).2.1,hsk]) _ _ h1 (by rw[xb0];exact hlo) (by rw[xb0];exact hhi) (by rw[xb0];exact c) H hH;obtain⟨s,hs1,hs2⟩:=this;refine⟨s,?_,λd hd=>?_⟩
    ·exact hs1.congr hF
    ·rw[hs2 d hd,hX _ (xa5 _)]
     have hdi:nth (dsts l) i=some d:=by rw[zk,ho];exact hd
     refine W4 hdi rfl hi λx hx hxd=>?_;refine xf9 λhne=>?_;by_cases hlt:x<i
     ·exact hc.dist i x d hlt hi hdi hxd
     ·exact hc.dist x i d Ω hx hxd hdi
 ·intro i o ho hsk he st1 hops hH hn K' hk'
  exact(hst i o ho).2.2.2.2.2 hsk (by rw[←hef i o ho];exact he) O st1 (λt ht=>by rw[hops t ht,hopd i o ho t ht]) hH hn K' hk'
 ·intro st' hf' hH' hn'
  exact hk _ _ _ _ _ ⟨hf',hH',hn'⟩ hfin
def qgO(P:Program)(O:Ctx)(ds:List (Option Tmp)):List Oper→St→(St→Prop)→Prop
 |[],st,K=>∃st1,Weak O st st1∧K st1
 |o :: rest,st,K=>∃st1,Weak O st st1∧opH P O ds o st1 λst'=>qgO P O ds rest st' K
theorem qeZ{O:Ctx}{base:World}{okc:Nat→Prop}{ns:Nat}{outs:jn}{ro:Option Nat}{allops:Array Oper}{Q:Exit→Act→World→Prop}{K:St→Prop}:∀(ops:List Oper)(st:St)(a:Act)(w:World),Inv O base okc ns st.nid outs st a w→ops.all (kX ns)=true→
  qgO P O (dsts allops.toList) ops st K→(∀st' a' w',K st'→Inv O base okc ns st'.nid outs st' a' w'→Q .normal a' w')→wpListIn (FR ro) 0 P allops Q ops a w
 |[],st,a,w,h,hd,⟨st1,hw,hk⟩,hK=>hK st1 a w hk (hw _ _ _ _ _ _ h)
 |o :: rest,st,a,w,h,hd,⟨st1,hw,hk⟩,hK=>by
  simp only[List.all_cons,xe6]at hd;unfold wpListIn;exact WK (hw _ _ _ _ _ _ h) hd.1 hk λst' a' w' hk' hi'=>qeZ rest st' a' w' hi' hd.2 hk' hK
theorem qmO{id:Nat}{ops:List Oper}{g:Tag K}(h:qgO P O (dsts ops) ops st (λst'=>K .normal st')):vj P O id ops false st K g:=by
 intro base okc ns outs a w ro Q hro hc hi hK;simp only[qJ,xe6]at hc;obtain⟨hd,-⟩:=hc;have hd:ops.all (kX ns)=true:=by simpa using hd
 refine wpIn_region_list ?_;have:=qeZ (ro:=ro) (allops:=ops.toArray) (Q:=Q) (K:=λst'=>K .normal st') ops st a w hi hd Ω0 λst' a' w' hk hi'=>hK .normal st' a' w' hk hi';simpa using this
theorem qkt{O:Ctx}{n:Nat}{all:List Oper}{K:St→Prop}:∀{l:List Oper}{res:Nat→SV}{sk:Nat→Bool}{X:Nat→Tr 3 SV}{Y:Nat→Tr 6 XB}{Z:Nat→Nat}{st:St}{d:Nat},(∀i o,l[i]? = some o→qeU P LM n (dsts all) o (sk i) (res i) (X i) (X (i+1)) (Y i) (Y (i+1)) (Z i) (Z (i+1)))→FRel (X 0) st.fr→HRel LM (Y 0) st.hp→st.nid≤Z 0+d→d+l.length≤n→
  (∀st',FRel (X l.length) st'.fr→HRel LM (Y l.length) st'.hp→st'.nid=Z l.length+n→K st')→qgO P O (dsts all) l st K
 |[],res,sk,X,Y,Z,st,d,h,hF,hH,hn,hd,hk=>by
  have hd:d≤n:=by simpa using hd
  have hk:∀st',FRel (X 0) st'.fr→HRel LM (Y 0) st'.hp→st'.nid=Z 0+n→K st':=hk;exact⟨{ st with nid:=Z 0+n },Q0 _ _ _ Ω,hk _ hF hH rfl⟩
 |o :: l,res,sk,X,Y,Z,st,d,h,hF,hH,hn,hd,hk=>by
  have hst:=h 0 o rfl;have hd:d+(l.length+1)≤n:=by simpa using hd
  have next:∀st',FRel (X 1) st'.fr→HRel LM (Y 1) st'.hp→st'.nid≤Z 1+(d+1)→qgO P O (dsts all) l st' K:=λst' hf' hs' hn'=>
   qkt (l:=l) (res:=λi=>res (i+1)) (sk:=λi=>sk (i+1)) (X:=λi=>X (i+1)) (Y:=λi=>Y (i+1)) (Z:=λi=>Z (i+1)) (d:=d+1) (λi o' ho=>h (i+1) o' (by simpa using ho)) hf' hs' hn' Ω hk
  obtain⟨s1,s2,s3,s4,s5,s6⟩:=hst;have s1:∀t,qA (X 1) t=if o.dst=some t then res 0 else qA (X 0) t:=s1
  have s4:jk o.op=false→Y 1=Y 0∧Z 1=Z 0:=s4;have s3:sk 0=true→res 0=undefSV∧Y 1=Y 0∧(jk o.op=true→Z 0+n≤Z 1):=s3;have hgrd:Grd all (look st.fr) o (sk 0):=by
   unfold gdX at s2;unfold Grd;cases hgd:o.guard with
   |none=>rw[hgd]at s2;exact(Option.some.inj s2).symm
   |some p=>
    obtain⟨g,want⟩:=p;rw[hgd]at s2;dsimp only at s2;split at s2
    ·cases s2
    ·rename_i t ht
     refine⟨t,ht,?_⟩;rw[hF t];split at s2
     ·simp_all
     ·simp_all
     ·cases s2
  have frs:∀(st2:St)(fr:List (Nat×SV)),(∀t,look st2.fr t=look st.fr t)→(∀t,look fr t=look (st2.put o.dst (res 0)).fr t)→FRel (X 1) fr:=λst2 fr h2 h3 t=>by
   rw[h3,vm,s1 t,h2,hF t]
  cases q:jk o.op with
  |false=>
   obtain⟨y1,z1⟩:=s4 q;refine⟨st,Weak.refl _ _,Ya hgrd (λhsk st2 h2 h2h h2n=>?_) (λhsk st2 h2 h2h h2n=>?_)⟩
   ·obtain⟨p1,_⟩:=s5 hsk q
    have h1:=(p1 st2.hp (by rw[h2h];exact hH)).congr (F':=look st2.fr) λt _=>by rw[h2,hF t]
    have f2:qgO P O (dsts all) l ⟨inD o.dst (st2.put o.dst (res 0)).fr,(st2.put o.dst (res 0)).hp,(st2.put o.dst (res 0)).nid+1⟩ K:=next _ (frs st2 _ h2 λt=>jD _ _ _) (by show HRel LM (Y 1) (st2.put o.dst (res 0)).hp;rw[zu,h2h,y1];exact hH) (by show(st2.put o.dst (res 0)).nid+1≤_;rw[qx,z1];omega);rcases h1 with(⟨obl,e,h⟩|⟨obl,e,h⟩)|⟨hnd,h⟩
    ·rw[e];exact .inl ⟨h,f2⟩
    ·rw[e];exact .inl ⟨_,h,f2⟩
    ·refine .inr ⟨hnd,(h O st2 (λt _=>rfl) rfl).mono ?_⟩
     rintro st' res' ⟨rfl,rfl⟩;exact next _ (frs st' _ h2 λt=>yV _ _ _ _) (by rw[yW,h2h,y1];exact hH) (by rw[gE,z1];omega)
   ·obtain⟨k1,k2,_⟩:=s3 hsk
    exact next _ (frs st2 _ h2 λt=>by rw[yV,k1]) (by rw[yW,h2h,y1];exact hH) (by rw[gE,z1];omega)
  |true=>
   refine⟨{ st with nid:=Z 0+n },Q0 _ _ _ Ω,Ya (st:={ st with nid:=Z 0+n }) hgrd (λhsk st2 h2 h2h h2n=>?_) (λhsk st2 h2 h2h h2n=>?_)⟩
   ·refine .inl (s6 hsk q O st2 (λt _=>by rw[h2];exact hF t) (by rw[h2h];exact hH) h2n _ λst' hf' hH' hn'=>?_)
    exact next _ (frs st2 _ h2 λt=>by rw[jD,hf']) hH' (by show st'.nid+1≤_;exact xc1 hn' (Nat.le_add_right _ _))
   ·obtain⟨k1,k2,k3⟩:=s3 hsk
    exact next _ (frs st2 _ h2 λt=>by rw[yV,k1]) (by rw[yW,h2h,k2];exact hH) (by rw[gE,h2n];exact xc1 (k3 q) (Nat.le_add_right _ _))
def qpg(E:XE)(run:XC)(ops:List Oper)(fr:Tr 3 SV)(hp:Tr 6 XB)(nid:Nat)(f:XK):R:=
 qj ops.length λn=>jp E run n (dsts ops) ops fr hp nid [hp] λfr hp nid hs=>qj (nid+n) λnid=>f .normal fr hp nid
theorem qmP(hm:P.follows .mixedOrders=true)(hE:XOk P E)(hf:wQ P E)(hrun:vA P run){id:Nat}{nid:Nat}{f:XK}{g:Tag K}(hs:StR LM fr hp nid st)(h:qpg E run l fr hp nid f=.ok ρ)
  (hk:∀e fr' hp' nid' st',StR LM fr' hp' nid' st'→f e fr' hp' nid'=.ok ρ→K e st'):vj P O id l false st K g:=by
 unfold qpg at h;rw[qe]at h;obtain⟨res,sk,X,Y,Z,hs',e1,e2,e3,hg,hst,hsg,hpr⟩:=JS (LM:=LM) hm hE hf hrun h (k0:=0) rfl rfl;rw[qe]at hg;refine qmO (qkt (d:=0) hst (by rw[e1];exact hs.1) (by rw[e2];exact hs.2.1) (by rw[e3,hs.2.2];omega) Ω λst' hf' hH' hn'=>?_);exact hk _ _ _ _ st' ⟨hf',hH',hn'⟩ hg
end
end
end Go.Sx
end
section
namespace Go.Sx
open Go.RowKit
noncomputable section
variable{LM:Nat→Option Loop}{hp:Tr 6 XB}{fr:Tr 3 SV}
variable{ρ:Q}
def qgP(run:XC)(L:FL)(cx:CX)(b:Code)(f:XK):XK
 |.normal,fr,hp,nid=>run L cx b fr hp nid f
 |.exit i,fr,hp,nid=>f (.exit i) fr hp nid
 |.ret,fr,hp,nid=>f .ret fr hp nid
def qku(id:Nat)(f:XK):XK
 |.normal,fr,hp,nid=>f .normal fr hp nid
 |.exit i,fr,hp,nid=>Bool.rec (f (.exit i) fr hp nid) (f .normal fr hp nid) (Nat.beq i id)
 |.ret,fr,hp,nid=>f .ret fr hp nid
def qkv(v:SV)(a b:R):R:=
 match v with
 |.val (.bool c)=>Bool.rec b a c
 |_=>.bad 320 0
def qkw(bk:SV→Option Nat)(fr:Tr 3 SV)(l:List (Nat×Nat))(k:R):R:=
 List.rec (motive:=λ_=>R) k (λp _ ih=>match bk (qA fr p.1),bk (qA fr p.2)with
  |some i,some j=>qg 360 (!(Nat.beq i j)) ih
  |_,_=>ih) l
def JT(ops:List Oper)(f:XK)(fr:Tr 3 SV)(hp:Tr 6 XB)(nid:Nat):R:=qj (nid+ops.length) λnid=>f .normal fr hp nid
def qrL(mid:Nat)(fr:Tr 3 SV)(l:List Tmp):Bool:=l.all λa=>match qQ (qA fr a)with
 |some i=>!(Nat.beq i mid)
 |none=>true
def qkx(q:EI)(ops:List Oper)(fr:Tr 3 SV)(hp:Tr 6 XB)(k:R):R:=match qA fr q.mm with
 |.mp mid=>(match hp.find mid with
  |some (.map _ _ _)=>qg 365 (qrL mid fr (Jz ops)) k
  |_=>.bad 366 0)
 |_=>.bad 367 0
def qqO(te tx:Tmp)(fr:Tr 3 SV)(g:Tr 3 SV→R):R:=zl (some .top) 22 fr te λfr=>zl (some .top) 22 fr tx g
def qph(E:XE)(run:XC)(cx:CX)(ops:List Oper)(l:List (Nat×Nat))(fr:Tr 3 SV)(hp:Tr 6 XB)(nid:Nat)(f:XK):R:=
 match entI ops with
 |some q=>qg 363 (qjh q l ops) (ZT E run cx false (dsts ops) (K7 q.e q.x q.s q.upd 0 ops) 0 fr hp nid λfr hp nid=>qkw qQ fr l (qkx q ops fr hp (qqO q.te q.tx fr λfr=>JT ops f fr hp nid)))
 |none=>.bad 368 0
def qde(E:XE)(run:XC)(L:FL)(cx:CX)(id:Nat)(d:Bool)(ops:List Oper)(fr:Tr 3 SV)(hp:Tr 6 XB)(nid:Nat)(f:XK):R:=
 match qV L id with
 |[]=>ZT E run cx (zN d ops) (dsts ops) ops 0 fr hp nid (JT ops f)
 |(a,b) :: l=>Bool.rec (ZT E run cx (zN d ops) (dsts ops) ops 0 fr hp nid λfr hp nid=>qkw qQ fr ((a,b) :: l) (JT ops f fr hp nid))
  (Bool.rec (qg 361 d (Bool.rec (Bool.rec (.bad 362 0) (qmL E run ops fr hp nid f) (Nat.beq a 2)) (qph E run cx ops l fr hp nid f) (Nat.beq a 1))) (qg 364 (!d) (qpg E run ops fr hp nid f)) (Nat.beq a 3)) (Nat.beq a b)
def Yt(id:Nat)(fr:Tr 3 SV)(f:XK)(hp:Tr 6 XB)(nid:Nat):R:=
 match hp.find id with
 |some (.loop s)=>zl none 22 hp id λhp=>(match s with
  |.ready=>f .normal fr hp nid
  |.retd=>f .ret fr hp nid
  |.left i=>f (.exit i) fr hp nid
  |_=>.bad 350 0)
 |_=>.bad 351 0
def Yu(E:XE)(run:XC)(L:FL)(v:SV)(ps:List Tmp)(a b:Code)(fr:Tr 3 SV)(hp:Tr 6 XB)(nid:Nat)(f:XK):R:=
 match v with
 |.fn (.func g) [] caps=>(match E.fns g with
  |some (fn,[])=>(match fn.body,fn.results.toList with
   |some c,[]=>qg 352 (Nat.ble (caps.length+1) fn.ntmps) (zl (some (.loop .ready)) 22 hp nid λhp1=>Yp (.yld nid :: caps) 0 .nil λfr1=>qj (Nat.succ nid) λn1=>run [] (.gen nid L fr ps a b) c fr1 hp1 n1 λe _ hp3 nid3=>(match e with
    |.exit _=>.bad 353 0
    |.normal=>Yt nid fr f hp3 nid3
    |.ret=>Yt nid fr f hp3 nid3))
   |_,_=>.bad 354 0)
  |_=>.bad 355 g)
 |_=>.bad 356 0
def V6(E:XE)(run:XC)(L:FL)(cx:CX)(c:Code)(fr:Tr 3 SV)(hp:Tr 6 XB)(nid:Nat)(f:XK):R:=
 match c with
 |.skip=>f .normal fr hp nid
 |.label _=>f .normal fr hp nid
 |.seq a b=>run L cx a fr hp nid (qgP run L cx b f)
 |.cond x a b=>qkv (zp fr x) (run L cx a fr hp nid f) (run L cx b fr hp nid f)
 |.block id c=>run L cx c fr hp nid (qku id f)
 |.exit id=>f (.exit id) fr hp nid
 |.ret=>f .ret fr hp nid
 |.scope c=>run L cx c fr hp nid f
 |.loop c=>run L cx c fr hp nid (qgP run L cx (.loop c) f)
 |.region id ops d=>qde E run L cx id d ops.toList fr hp nid f
 |.rangeFunc x ps a b=>(match cx with
  |.rnd=>.bad 357 0
  |_=>Yu E run L (zp fr x) ps.toList a b fr hp nid f)
 |_=>.bad 321 0
section
variable{P:Program}{E:XE}
theorem HRel.lm{LM':Nat→Option Loop}{H:List (Nat×Blk)}(h:HRel LM hp H)(e:∀id b,hp.find id=some b→LM' id=LM id):HRel LM' hp H:=λid b hb=>by
 rw[e id b hb];exact h id b hb
theorem qgQ(hm:P.follows .mixedOrders=true)(hf:wQ P E){run:XC}(hrun:vA P run){fs:List Fr}{lo:Nat}{L:FL}{x:Operand}{ps:List Tmp}{a b:Code}{st:St}{n0:Nat}{f:XK}{K:Ex→St→Prop}(hs:StR LM fr hp n0 st)(h:Yu E run L (zp fr x) ps a b fr hp n0 f=.ok ρ)
  (hk:∀e fr' hp' nid' st',StR LM fr' hp' nid' st'→f e fr' hp' nid'=.ok ρ→K e st'):yh P ⟨fs,lo,false,qV L⟩ (.rangeFunc x ps.toArray a b) st K:=by
 obtain⟨F,H,nid⟩:=st;obtain⟨s1,s2,s3⟩:=hs;have s3:nid=n0:=s3;subst s3;have s1:FRel fr F:=s1;have s2:HRel LM hp H:=s2;unfold Yu at h;split at h
 ·rename_i g caps hv
  split at h
  ·rename_i fn hfn
   obtain⟨c,hc⟩:=hf _ _ _ hfn;split at h
   ·rename_i c' hb hr
    have:c'=c:=by rw[hc.body]at hb;cases hb;rfl
    subst this;obtain⟨q,h⟩:=qa h;obtain⟨hp1,p1,h⟩:=qH _ _ _ _ h;obtain⟨fr1,f1,h⟩:=Qd h;rw[qe]at h;refine VP hm rfl (by rw[s1.fn.env];exact hv) hc.at_ hc.body hc.name hc.ok hr (xa7 q) λout Lr hL=>?_;generalize hLM:(λi=>if i=nid then some Lr else LM i)=LM';have eL:LM' nid=some Lr:=by rw[←hLM];show(if nid=nid then some Lr else LM nid)=_;rw[if_pos rfl]
    have eO:∀i,i≠nid→LM' i=LM i:=λi hi=>by rw[←hLM];show(if i=nid then some Lr else LM i)=_;rw[if_neg hi]
    have r1:HRel LM' hp1 ((nid,.loop Lr .ready) :: H):=λi y hy=>by
     rw[p1 i]at hy;by_cases c:i=nid
     ·rw[if_pos c]at hy;cases hy
      exact⟨.loop Lr .ready,by simp only[blk];rw[if_pos c],rfl,by rw[c];exact eL⟩
     ·rw[if_neg c]at hy;simp only[blk];rw[if_neg c,eO i c];exact s2 i y hy
    have fin:∀(hp3:Tr 6 XB)(nid3:Nat)(fr3:Tr 3 SV)(st3:St),StR LM' fr3 hp3 nid3 st3→Yt nid fr f hp3 nid3=.ok ρ→vU Lr F K st3.hp st3.nid nid (blk st3.hp nid):=by
     intro hp3 nid3 fr3 st3 h3 hr;unfold Yt at hr;split at hr
     ·rename_i s hb3
      rw[h3.2.1.loop hb3 eL];obtain⟨hp4,p4,hr⟩:=qH _ _ _ _ hr;have r4:StR LM fr hp4 nid3 ⟨F,dropBlk st3.hp nid,st3.nid⟩:=by
       refine⟨s1,(h3.2.1.drop p4).lm λi y hy=>?_,h3.2.2⟩;rw[p4 i]at hy;by_cases c:i=nid
       ·simp_all
       ·exact(eO i c).symm
      refine⟨rfl,?_⟩;cases s<;>first|exact hk _ _ _ _ _ r4 hr|cases hr
     ·cases hr
    refine hrun ρ LM' _ _ _ [] (.gen nid L fr ps a b) c' ⟨_,_,_⟩ fr1 hp1 (nid+1) _ _ ⟨rfl,Lr,F,eL,s1,hL⟩ ⟨f1,r1,rfl⟩ h λe fr3 hp3 nid3 st3 h3 h=>?_;cases e with
    |exit i=>cases h
    |normal=>exact fin _ _ _ _ h3 h
    |ret=>exact fin _ _ _ _ h3 h
   ·cases h
  ·cases h
 ·cases h
theorem ZW{fr:Tr 3 SV}{st:St}(hF:FRel fr st.fr){X:Prop}{k:R}(hX:k=.ok ρ→X):∀{l:List (Nat×Nat)},qkw qQ fr l k=.ok ρ→FarVC l st X
 |[],h=>hX h
 |(a,b) :: l,h=>by
  have h:(match qQ (qA fr a),qQ (qA fr b)with
   |some i,some j=>qg 360 (!(Nat.beq i j)) (qkw qQ fr l k)
   |_,_=>qkw qQ fr l k)=.ok ρ:=h
  show vO (look st.fr a) (look st.fr b)∧FarVC l st X;rw[hF a,hF b];unfold vO;split at h
  ·rename_i i j h1 h2
   rw[h1,h2];obtain⟨q,h⟩:=qa h;exact⟨λe=>(by rw[e,Nat.beq_refl]at q;cases q),ZW hF hX h⟩
  ·rename_i hn
   refine⟨?_,ZW hF hX h⟩;split
   ·simp_all
   ·trivial
theorem qky{q:EI}{ops:List Oper}{st:St}(hF:FRel fr st.fr)(hH:HRel LM hp st.hp){k:R}(h:qkx q ops fr hp k=.ok ρ):qqr q ops st∧k=.ok ρ:=by
 unfold qkx at h;split at h
 ·rename_i mid e1
  split at h
  ·rename_i e2
   obtain⟨h1,h2⟩:=qa h;refine⟨λmid' hmid=>?_,h2⟩;rw[hF,e1]at hmid;injection hmid with hmid;subst hmid;refine⟨?_,λa ha=>?_⟩
   ·obtain⟨b',hb,hr⟩:=hH _ _ e2
    cases b'<;>simp only[BRel]at hr
    simp_all
   ·rw[hF]
    have:=List.all_eq_true.1 h1 a ha;intro c
    simp_all
  ·cases h
 ·cases h
theorem qmQ{te tx:Tmp}{g:Tr 3 SV→R}(h:qqO te tx fr g=.ok ρ):∃fr',(∀t,qA fr' t=if t=te∨t=tx then .top else qA fr t)∧g fr'=.ok ρ:=by
 obtain⟨f1,h1,h⟩:=qH _ _ _ _ h;obtain⟨f2,h2,h⟩:=qH _ _ _ _ h;refine⟨f2,λt=>?_,h⟩;unfold qA;rw[h2,h1];by_cases c1:t=tx
 ·simp_all
 ·by_cases c2:t=te
  ·simp_all
  ·simp_all
theorem qkz(hm:P.follows .mixedOrders=true)(hE:XOk P E)(hf:wQ P E){run:XC}(hrun:vA P run)(hloop:∀(ρ:Q)(LM:Nat→Option Loop)(fs:List Fr)(lo:Nat)(rnd:Bool)(L:FL)(cx:CX)(c:Code)(st:St)(fr:Tr 3 SV)(hp:Tr 6 XB)(nid:Nat)(f:XK)(K:Ex→St→Prop),qgL LM fs rnd cx→StR LM fr hp nid st→run L cx c fr hp nid (qgP run L cx (.loop c) f)=.ok ρ→
  (∀e fr' hp' nid' st',StR LM fr' hp' nid' st'→f e fr' hp' nid'=.ok ρ→K e st')→vc P ⟨fs,lo,rnd,qV L⟩ (.loop c) st K):vA P (V6 E run):=by
 intro ρ LM fs lo rnd L cx c st fr hp nid f K hcx hs h hk;cases c<;>simp only[V6,reduceCtorEq]at h
 case skip=>exact hk _ _ _ _ _ hs h
 case label=>exact hk _ _ _ _ _ hs h
 case exit=>exact hk _ _ _ _ _ hs h
 case ret=>exact hk _ _ _ _ _ hs h
 case scope c=>exact hrun ρ LM _ _ _ _ _ c _ _ _ _ _ _ hcx hs h hk
 case seq a b=>
  refine hrun ρ LM _ _ _ _ _ a _ _ _ _ _ _ hcx hs h λe fr' hp' nid' st' hs' h'=>?_;cases e with
  |normal=>exact hrun ρ LM _ _ _ _ _ b _ _ _ _ _ _ hcx hs' h' hk
  |exit i=>exact hk _ _ _ _ _ hs' h'
  |ret=>exact hk _ _ _ _ _ hs' h'
 case loop c=>exact hloop ρ LM _ _ _ _ _ c _ _ _ _ _ _ hcx hs h hk
 case block id c=>
  refine hrun ρ LM _ _ _ _ _ c _ _ _ _ _ _ hcx hs h λe fr' hp' nid' st' hs' h'=>?_;cases e with
  |normal=>exact hk _ _ _ _ _ hs' h'
  |ret=>exact hk _ _ _ _ _ hs' h'
  |exit i=>
   have h':(Bool.rec (f (.exit i) fr' hp' nid') (f .normal fr' hp' nid') (Nat.beq i id):R)=.ok ρ:=h';show if i=id then K .normal st' else K (.exit i) st'
   cases e:Nat.beq i id with
   |true=>rw[e]at h';rw[if_pos (xa6 e)];exact hk _ _ _ _ _ hs' h'
   |false=>
    rw[e]at h';rw[if_neg (λq=>by rw[q,Nat.beq_refl]at e;cases e)]
    grind
 case rangeFunc x ps a b=>
  have key:rnd=false∧Yu E run L (zp fr x) ps.toList a b fr hp nid f=.ok ρ:=by
   cases cx with
   |top=>exact⟨hcx,h⟩
   |rnd=>cases h
   |gen y L0 fr0 ps0 a0 b0=>exact⟨hcx.1,h⟩
  obtain⟨rfl,h⟩:=key;have:=qgQ (fs:=fs) (lo:=lo) (x:=x) (ps:=ps.toList) hm hf hrun hs h hk;exact this
 case cond x a b=>
  show G5 P (env (look st.fr) x) _ _;rw[hs.1.fn.env];unfold qkv at h;split at h
  ·rename_i b0 hb
   rw[hb];cases b0 with
   |true=>exact⟨λ_=>hrun ρ LM _ _ _ _ _ a _ _ _ _ _ _ hcx hs h hk,λe=>by cases e⟩
   |false=>exact⟨λe=>(by cases e),λ_=>hrun ρ LM _ _ _ _ _ b _ _ _ _ _ _ hcx hs h hk⟩
  ·cases h
 case region id ops d=>
  have done:∀fr' hp' nid' st',StR LM fr' hp' nid' st'→JT ops.toList f fr' hp' nid'=.ok ρ→K .normal ⟨st'.fr,st'.hp,st'.nid+ops.toList.length⟩:=by
   intro fr' hp' nid' st' hs' h';unfold JT at h';rw[qe]at h';exact hk _ _ _ _ ⟨st'.fr,st'.hp,st'.nid+ops.toList.length⟩ ⟨hs'.1,hs'.2.1,by rw[hs'.2.2]⟩ h'
  show(if kD (qV L id)=true then yh P _ (.region id ops d) st K else qL P _ (zN d ops.toList=true) (dsts ops.toList) ops.toList 0 st (λst'=>FarVC (qV L id) st' (K .normal { st' with nid:=st'.nid+ops.toList.length })));unfold qde at h;split at h
  ·rename_i hl
   rw[hl,if_neg (by simp[kD])];exact Gs hm hE hf hrun hcx (λe=>e) hs h done
  ·rename_i a b l hl
   rw[hl];cases e:Nat.beq a b with
   |false=>
    rw[e]at h;have hab:a≠b:=λq=>by rw[q,Nat.beq_refl]at e;cases e
    rw[if_neg (by simp[kD,hab])];refine Gs hm hE hf hrun hcx (λe=>e) hs h λfr' hp' nid' st' hs' h'=>?_;exact ZW hs'.1 (λh'=>done _ _ _ _ hs' h') h'
   |true=>
    rw[e]at h;have hab:a=b:=xa6 e;rw[if_pos (by simp[kD,hab])];cases e3:Nat.beq a 3 with
    |true=>
     rw[e3]at h;obtain⟨q1,p1⟩:=qa h;have q1:d=false:=by cases d<;>first|rfl|cases q1
     subst q1;have:=qmP (P:=P) (O:=⟨fs,lo,rnd,qV L⟩) (id:=id) (K:=K) (g:=.mk) hm hE hf hrun hs p1 hk;exact this
    |false=>
    rw[e3]at h;obtain⟨q1,p1⟩:=qa h;subst q1;cases e1:Nat.beq a 1 with
    |true=>
     rw[e1]at p1
     replace p1:qph E run cx ops.toList l fr hp nid f=.ok ρ:=p1
     unfold qph at p1;split at p1
     ·rename_i q hq
      obtain⟨q2,p2⟩:=qa p1;exact qaN (P:=P) (O:=⟨fs,lo,rnd,qV L⟩) (id:=id) (K:=K) (g:=.mk) (far:=l) hm (qmt hq) q2 (Gs hm hE hf hrun hcx (J:=False) (λe=>by cases e) hs p2 λfr' hp' nid' st' hs' h'=>ZW hs'.1 (λh'=>by
       obtain⟨h1,h2⟩:=qky hs'.1 hs'.2.1 h';refine⟨h1,λst2 hf2 hh2 hn2=>?_⟩;obtain⟨fr2,hfr2,h3⟩:=qmQ h2;unfold JT at h3;rw[qe]at h3;refine hk _ _ _ _ st2 ⟨λt=>?_,λi b hb=>?_,?_⟩ h3
       ·rw[hf2,hfr2,hs'.1]
       ·rw[hh2];exact hs'.2.1 i b hb
       ·rw[hn2,hs'.2.2]) h')
     ·cases p1
    |false=>
    rw[e1]at p1;cases e2:Nat.beq a 2 with
    |true=>
     rw[e2]at p1;have:=qmN (P:=P) (O:=⟨fs,lo,rnd,qV L⟩) (id:=id) (K:=K) (g:=.mk) hm hE hf hrun hs p1 hk;exact this
    |false=>
    simp_all
end
end
end Go.Sx
end
section
namespace Go.Sx
open Go.RowKit
noncomputable section
def svF(s:SV):(Value→R)→R→R:=SV.rec (motive_1:=λ_=>(Value→R)→R→R) (motive_2:=λ_=>PUnit) (λ f d=>d) (λv f d=>f v) (λ_ _ f d=>d) (λ_ _ f d=>d) (λ_ _ _ _ _ f d=>d) (λ_ _ f d=>d) (λ_ _ _ _ f d=>d) (λ_ _ _ _ f d=>d) (λ_ _ _ _ _ _ f d=>d) (λ_ _ _ f d=>d) (λ_ f d=>d) (λ_ _ _ _ f d=>d) (λ_ _ _ _ f d=>d) (λ_ _ _ f d=>d) (λ_ _ _ _ _ f d=>d) (λ_ f d=>d) PUnit.unit (λ_ _ _ _=>PUnit.unit) s
def qrM(v:Value):(IntKind→Int→R)→R→R:=Value.rec (motive_1:=λ_=>(IntKind→Int→R)→R→R) (motive_2:=λ_=>PUnit) (motive_3:=λ_=>PUnit) (λ_ f d=>d) (λk n f d=>f k n) (λ_ _ f d=>d) (λ_ _ _ f d=>d) (λ_ f d=>d) (λ_ f d=>d) (λ_ _ _ f d=>d) (λ_ f d=>d) (λ_ f d=>d) (λ_ _ _ _ _ f d=>d) (λ f d=>d) (λ_ _ _ f d=>d) (λ f d=>d) (λ_ _ f d=>d) (λ_ _ f d=>d) (λ_ _=>PUnit.unit) PUnit.unit (λ_ _ _ _=>PUnit.unit) v
def qqP(v:Value):(Bool→R)→R→R:=Value.rec (motive_1:=λ_=>(Bool→R)→R→R) (motive_2:=λ_=>PUnit) (motive_3:=λ_=>PUnit) (λb f d=>f b) (λ_ _ f d=>d) (λ_ _ f d=>d) (λ_ _ _ f d=>d) (λ_ f d=>d) (λ_ f d=>d) (λ_ _ _ f d=>d) (λ_ f d=>d) (λ_ f d=>d) (λ_ _ _ _ _ f d=>d) (λ f d=>d) (λ_ _ _ f d=>d) (λ f d=>d) (λ_ _ f d=>d) (λ_ _ f d=>d) (λ_ _=>PUnit.unit) PUnit.unit (λ_ _ _ _=>PUnit.unit) v
def qfa(s:SV)(f:IntKind→Int→R)(d:R):R:=svF s (λv=>qrM v f d) d
def qpi(s:SV)(f:Bool→R)(d:R):R:=svF s (λv=>qqP v f d) d
def kA(k:IntKind):Nat:=IntKind.rec 100 101 2 3 4 5 6 7 k
def kB(k:IntKind):Nat:=IntKind.rec 102 103 2 3 4 5 6 7 k
def qpj(k k':IntKind):Bool:=Nat.beq (kA k) (kB k')
theorem qmR(k k':IntKind):qpj k k'=eqKind k k':=by cases k<;>cases k'<;>rfl
def qpk(a b:Int):IntKind→(XR→R)→R:=Int.rec (λx=>Int.rec (λy k f=>qj (Nat.add x y) λn=>Bool.rec (.bad 19 0) (f (.pure (.val (.int k (.ofNat n))))) (Nat.ble n (hiK k))) (λy k f=>jX 19 k (Int.add (.ofNat x) (.negSucc y)) f) b) (λx k f=>jX 19 k (Int.add (.negSucc x) b) f) a
theorem qmS(a b:Int)(k:IntKind)(f:XR→R):qpk a b k f=jX 19 k (Int.add a b) f:=by
 cases a with
 |negSucc x=>rfl
 |ofNat x=>cases b with
  |negSucc y=>rfl
  |ofNat y=>
   have e:qpk (.ofNat x) (.ofNat y) k f=qj (Nat.add x y) λn=>Bool.rec (.bad 19 0) (f (.pure (.val (.int k (.ofNat n))))) (Nat.ble n (hiK k)):=rfl;rw[e,qe];unfold jX;rw[jW];rfl
def qqQ(a b:Int):IntKind→(XR→R)→R:=Int.rec (λx=>Int.rec (λy k f=>Bool.rec (jX 20 k (Int.sub (.ofNat x) (.ofNat y)) f) (qj (Nat.sub x y) λn=>Bool.rec (.bad 20 0) (f (.pure (.val (.int k (.ofNat n))))) (Nat.ble n (hiK k))) (Nat.ble y x)) (λy k f=>jX 20 k (Int.sub (.ofNat x) (.negSucc y)) f) b) (λx k f=>jX 20 k (Int.sub (.negSucc x) b) f) a
theorem qmT(a b:Int)(k:IntKind)(f:XR→R):qqQ a b k f=jX 20 k (Int.sub a b) f:=by
 cases a with
 |negSucc x=>rfl
 |ofNat x=>cases b with
  |negSucc y=>rfl
  |ofNat y=>
   show(Bool.rec _ _ (Nat.ble y x):R)=_;cases h:Nat.ble y x with
   |false=>rfl
   |true=>
    have e:Int.sub (.ofNat x) (.ofNat y)=.ofNat (x - y):=by
     have:=xa7 h;show(Int.ofNat x - Int.ofNat y)=_
     grind
    rw[e];show qj (Nat.sub x y) _=jX 20 k (Int.ofNat (x - y)) f;unfold jX;rw[qe,jW];rfl
def qpl(a b:Int):IntKind→(XR→R)→R:=Int.rec (λx=>Int.rec (λy k f=>qj (Nat.mul x y) λn=>Bool.rec (.bad 21 0) (f (.pure (.val (.int k (.ofNat n))))) (Nat.ble n (hiK k))) (λy k f=>jX 21 k (Int.mul (.ofNat x) (.negSucc y)) f) b) (λx k f=>jX 21 k (Int.mul (.negSucc x) b) f) a
theorem qmU(a b:Int)(k:IntKind)(f:XR→R):qpl a b k f=jX 21 k (Int.mul a b) f:=by
 cases a with
 |negSucc x=>rfl
 |ofNat x=>cases b with
  |negSucc y=>rfl
  |ofNat y=>
   have e:qpl (.ofNat x) (.ofNat y) k f=qj (Nat.mul x y) λn=>Bool.rec (.bad 21 0) (f (.pure (.val (.int k (.ofNat n))))) (Nat.ble n (hiK k)):=rfl;rw[e,qe];unfold jX;rw[jW];rfl
def qkA(op:BinOp):Bx (IntKind→Int→Int→(XR→R)→R):=
 match op with
 |.add=>.mk λk a b f=>qpk a b k f
 |.sub=>.mk λk a b f=>qqQ a b k f
 |.mul=>.mk λk a b f=>qpl a b k f
 |.eql=>.mk λk a b f=>KU (Vk a b) λb=>f (.pure (.val (.bool b)))
 |.neq=>.mk λk a b f=>Bool.rec (f (.pure (.val (.bool true)))) (f (.pure (.val (.bool false)))) (Vk a b)
 |.lss=>.mk λk a b f=>KU (K6 a b) λb=>f (.pure (.val (.bool b)))
 |.leq=>.mk λk a b f=>Bool.rec (f (.pure (.val (.bool true)))) (f (.pure (.val (.bool false)))) (K6 b a)
 |.gtr=>.mk λk a b f=>KU (K6 b a) λb=>f (.pure (.val (.bool b)))
 |.geq=>.mk λk a b f=>Bool.rec (f (.pure (.val (.bool true)))) (f (.pure (.val (.bool false)))) (K6 a b)
 |op=>.mk λk a b f=>qgr op k a b f
theorem qkB(b:Bool)(f:XR→R):(Bool.rec (f (.pure (.val (.bool true)))) (f (.pure (.val (.bool false)))) b:R)=QY (!b) f:=by
 rw[jY];cases b<;>rfl
theorem qmV(op:BinOp)(k:IntKind)(a b:Int)(f:XR→R):(qkA op).get k a b f=qgr op k a b f:=by
 cases op<;>first
  |rfl
  |exact qmS _ _ _ _
  |exact qmT _ _ _ _
  |exact qmU _ _ _ _
  |exact qkB _ _
def qkC(l:List SV):Nat→(SV→R)→R→R:=List.rec (λ_ _ d=>d) (λa _ ih i=>Nat.rec (λf _=>f a) (λj _=>ih j) i) l
theorem qfb:∀(l:List SV)(i:Nat)(f:SV→R)(d:R),qkC l i f d=(match l[i]? with|some s=>f s|none=>d)
 |[],i,f,d=>by cases i<;>rfl
 |a :: l,0,f,d=>rfl
 |a :: l,i+1,f,d=>by
  rw[xd7,←qfb l i f d];rfl
def qfc(l:List SV):Nat→(List SV→R)→R:=List.rec (λi g=>Nat.rec (g []) (λ_ _=>.bad 65 0) i) (λa _ ih i=>Nat.rec (λg=>g []) (λj _ g=>ih j λm=>g (a :: m)) i) l
def qfd(l:List SV):Nat→Nat→(List SV→R)→R:=List.rec (λo sz g=>Nat.rec (Nat.rec (g []) (λ_ _=>.bad 65 0) sz) (λ_ _=>.bad 65 0) o) (λa tl ih o=>Nat.rec (λsz g=>qfc (a :: tl) sz g) (λj _ sz g=>ih j sz g) o) l
theorem qbm:∀(l:List SV)(n:Nat)(g:List SV→R),qfc l n g=qg 65 (Nat.ble n l.length) (g (l.take n))
 |[],0,g=>rfl
 |[],n+1,g=>rfl
 |a :: l,0,g=>rfl
 |a :: l,n+1,g=>by
  show qfc l n (λm=>g (a :: m))=_;rw[qbm l n];rfl
theorem qbn:∀(l:List SV)(o n:Nat)(g:List SV→R),qfd l o n g=qg 65 (Nat.ble (o+n) l.length) (g ((l.drop o).take n))
 |[],0,0,g=>rfl
 |[],0,n+1,g=>by rw[xb0];rfl
 |[],o+1,n,g=>by rw[show o+1+n=(o+n)+1 by omega];rfl
 |a :: l,0,n,g=>by
  show qfc (a :: l) n g=_;rw[qbm,xb0];rfl
 |a :: l,o+1,n,g=>by
  show qfd l o n g=_;rw[qbn l o n,show o+1+n=(o+n)+1 by omega];rfl
def qkD(l:List SV):Nat→SV→(List SV→R)→R:=List.rec (λ_ _ _=>.bad 78 0) (λa tl ih o=>Nat.rec (λs g=>g (s :: tl)) (λj _ s g=>ih j s λm=>g (a :: m)) o) l
theorem Yv:∀(l:List SV)(o:Nat)(s:SV)(g:List SV→R),qkD l o s g=qaz s l o g
 |[],o,s,g=>by unfold qaz;cases o<;>rfl
 |a :: l,0,s,g=>by unfold qaz;rw[qW];rfl
 |a :: l,o+1,s,g=>by
  show qkD l o s (λm=>g (a :: m))=_;rw[Yv l o s];unfold qaz;rw[qW,qW];rfl
def ldC(b:Option XB)(off:Nat)(f:XR→R):R:=Option.rec (motive:=λ_=>Nat→(XR→R)→R) (λ_ _=>.bad 69 0) (λb=>XB.rec (motive:=λ_=>Nat→(XR→R)→R) (λ_ l off f=>qkC l off (λs=>f (.pure s)) (.bad 64 0)) (λ_ _ _ _ _ _=>.bad 69 0) (λ_ _ _=>.bad 69 0) (λ_ _ _ _ _=>.bad 69 0) b) b off f
def ldR(b:Option XB)(k i j:Nat)(f:XR→R):R:=Option.rec (motive:=λ_=>Nat→Nat→Nat→(XR→R)→R) (λ_ _ _ _=>.bad 70 0) (λb=>XB.rec (motive:=λ_=>Nat→Nat→Nat→(XR→R)→R) (λ_ _ _ _ _ _=>.bad 70 0) (λ_ k' n l k i j f=>Qv k k' n i j 1 λo=>qkC l o (λs=>f (.pure s)) (.bad 64 0)) (λ_ _ _ _ _=>.bad 70 0) (λ_ _ _ _ _ _ _=>.bad 70 0) b) b k i j f
def qok(a:SV):Tr 6 XB→(XR→R)→R:=SV.rec (motive_1:=λ_=>Tr 6 XB→(XR→R)→R) (motive_2:=λ_=>PUnit) (λ hp f=>.bad 72 0) (λ_ hp f=>.bad 72 0) (λ_ _ hp f=>.bad 72 0) (λ_ _ hp f=>.bad 72 0) (λ_ _ _ _ _ hp f=>.bad 72 0) (λid off hp f=>ldC (hp.find id) off f) (λid k i j hp f=>ldR (hp.find id) k i j f) (λo n row ih hp f=>Ks hp (.ref o n row) f) (λ_ _ _ _ _ _ hp f=>.bad 72 0) (λ_ _ _ hp f=>.bad 72 0) (λ_ hp f=>.bad 72 0) (λ_ _ _ _ hp f=>.bad 72 0) (λ_ _ _ _ hp f=>.bad 72 0) (λ_ _ _ hp f=>.bad 72 0) (λ_ _ _ _ _ hp f=>.bad 72 0) (λ_ hp f=>.bad 72 0) PUnit.unit (λ_ _ _ _=>PUnit.unit) a
theorem JU(l:List SV)(o:Nat)(f:XR→R):qkC l o (λs=>f (.pure s)) (.bad 64 0)=yo l o f:=by rw[qfb];rfl
theorem qkE(a:SV)(hp:Tr 6 XB)(f:XR→R):qok a hp f=Ks hp a f:=by
 cases a<;>first|rfl|skip
 case ptr id off=>
  show ldC (hp.find id) off f=_;unfold Ks ldC;dsimp only;cases hp.find id with
  |none=>rfl
  |some b=>cases b<;>first|rfl|exact JU _ _ _
 case elt id k i j=>
  show ldR (hp.find id) k i j f=_;unfold Ks ldR;dsimp only;cases hp.find id with
  |none=>rfl
  |some b=>
   cases b<;>first|rfl|skip
   rename_i t k' n l;show Qv k k' n i j 1 (λo=>qkC l o (λs=>f (.pure s)) (.bad 64 0))=_
   congr 1
   funext o;exact JU _ _ _
theorem qbo(l:List SV)(o n:Nat)(f:XR→R):qfd l o n (λl=>f (.pure (.agg l)))=yp l o n f:=by
 rw[qbn];unfold yp;rw[qW]
def qpm(b:Option XB)(off sz:Nat)(f:XR→R):R:=Option.rec (motive:=λ_=>Nat→Nat→(XR→R)→R) (λ_ _ _=>.bad 73 0) (λb=>XB.rec (motive:=λ_=>Nat→Nat→(XR→R)→R) (λ_ l off sz f=>qfd l off sz (λl=>f (.pure (.agg l)))) (λ_ _ _ _ _ _ _=>.bad 73 0) (λ_ _ _ _=>.bad 73 0) (λ_ _ _ _ _ _=>.bad 73 0) b) b off sz f
def qol(a:SV):Nat→Tr 6 XB→(XR→R)→R:=SV.rec (motive_1:=λ_=>Nat→Tr 6 XB→(XR→R)→R) (motive_2:=λ_=>PUnit) (λ sz hp f=>.bad 76 0) (λ_ sz hp f=>.bad 76 0) (λ_ _ sz hp f=>.bad 76 0) (λ_ _ sz hp f=>.bad 76 0) (λ_ _ _ _ _ sz hp f=>.bad 76 0) (λid off sz hp f=>qpm (hp.find id) off sz f) (λid k i j sz hp f=>Kt hp sz (.elt id k i j) f) (λo n row ih sz hp f=>Kt hp sz (.ref o n row) f) (λ_ _ _ _ _ _ sz hp f=>.bad 76 0) (λ_ _ _ sz hp f=>.bad 76 0) (λ_ sz hp f=>.bad 76 0) (λ_ _ _ _ sz hp f=>.bad 76 0) (λ_ _ _ _ sz hp f=>.bad 76 0) (λ_ _ _ sz hp f=>.bad 76 0) (λ_ _ _ _ _ sz hp f=>.bad 76 0) (λ_ sz hp f=>.bad 76 0) PUnit.unit (λ_ _ _ _=>PUnit.unit) a
theorem qkF(a:SV)(sz:Nat)(hp:Tr 6 XB)(f:XR→R):qol a sz hp f=Kt hp sz a f:=by
 cases a<;>first|rfl|skip
 case ptr id off=>
  show qpm (hp.find id) off sz f=_;unfold Kt qpm;dsimp only;cases hp.find id with
  |none=>rfl
  |some b=>cases b<;>first|rfl|exact qbo _ _ _ _
abbrev OpR:=Tr 3 SV→Tr 6 XB→Nat→(XR→R)→R
def Vr(x:Operand):Bx (Tr 3 SV→SV):=Operand.rec (λt=>qj t λt=>Bx.rec (λq=>.mk λfr=>Option.rec .top (λs=>s) (q fr)) (Qj SV 3 t)) (λv=>.mk λ_=>.val v) (λ_=>.mk λ_=>.top) (λf=>.mk λ_=>.fn (.func f) [] []) x
theorem Gt(x:Operand)(fr:Tr 3 SV):(Vr x).get fr=zp fr x:=by
 cases x<;>first|rfl|skip
 rename_i t;have e:Vr (.tmp t)=qj t λt=>Bx.rec (λq=>.mk λfr=>Option.rec .top (λs=>s) (q fr)) (Qj SV 3 t):=rfl;rw[e,qe];show(Option.rec .top (λs=>s) ((Qj SV 3 t).get fr):SV)=qA fr t;unfold qA;rw[Gg]
def qfe(l:List Operand):Bx (Tr 3 SV→List SV):=List.rec (.mk λ_=>[]) (λx _ ih=>Bx.rec (λa=>Bx.rec (λm=>.mk λfr=>a fr :: m fr) ih) (Vr x)) l
theorem qbp(fr:Tr 3 SV):∀l,(qfe l).get fr=wP fr l
 |[]=>rfl
 |x :: l=>by
  show(Vr x).get fr ::(qfe l).get fr=_;rw[Gt,qbp];rfl
def eB(x:Operand)(k:(Tr 3 SV→SV)→Bx OpR):Bx OpR:=Bx.rec k (Vr x)
theorem zQ(x:Operand)(k:(Tr 3 SV→SV)→Bx OpR):eB x k=k (λfr=>zp fr x):=by
 show k (Vr x).get=_;congr 1;funext fr;exact Gt x fr
def qom(E:XE)(t:TypeId)(x:Operand):Bx OpR:=
 match E.tys t with
 |some ⟨false,_,_,_⟩=>eB x λa=>.mk λfr hp _ f=>qok (a fr) hp f
 |some ⟨true,sz,_,_⟩=>eB x λa=>.mk λfr hp _ f=>qol (a fr) sz hp f
 |none=>.mk λ_ _ _ _=>.bad 77 0
def stC(b:Option XB)(id off:Nat)(v:SV)(f:XR→R):R:=Option.rec (motive:=λ_=>Nat→Nat→SV→(XR→R)→R) (λ_ _ _ _=>.bad 80 0) (λb=>XB.rec (motive:=λ_=>Nat→Nat→SV→(XR→R)→R) (λt l id off v f=>qkD l off v λl=>f (.upd id (.cells t l) undefSV)) (λ_ _ _ _ _ _ _ _=>.bad 80 0) (λ_ _ _ _ _=>.bad 80 0) (λ_ _ _ _ _ _ _=>.bad 80 0) b) b id off v f
def stR(b:Option XB)(id k i j:Nat)(v:SV)(f:XR→R):R:=Option.rec (motive:=λ_=>Nat→Nat→Nat→Nat→SV→(XR→R)→R) (λ_ _ _ _ _ _=>.bad 81 0) (λb=>XB.rec (motive:=λ_=>Nat→Nat→Nat→Nat→SV→(XR→R)→R) (λ_ _ _ _ _ _ _ _=>.bad 81 0) (λt k' n l id k i j v f=>Qv k k' n i j 1 λo=>qkD l o v λl=>f (.upd id (.rows t k' n l) undefSV)) (λ_ _ _ _ _ _ _=>.bad 81 0) (λ_ _ _ _ _ _ _ _ _=>.bad 81 0) b) b id k i j v f
def qdf(a:SV):Tr 6 XB→SV→(XR→R)→R:=SV.rec (motive_1:=λ_=>Tr 6 XB→SV→(XR→R)→R) (motive_2:=λ_=>PUnit) (λ hp v f=>.bad 82 0) (λ_ hp v f=>.bad 82 0) (λ_ _ hp v f=>.bad 82 0) (λ_ _ hp v f=>.bad 82 0) (λ_ _ _ _ _ hp v f=>.bad 82 0) (λid off hp v f=>stC (hp.find id) id off v f) (λid k i j hp v f=>stR (hp.find id) id k i j v f) (λ_ _ _ _ hp v f=>.bad 82 0) (λ_ _ _ _ _ _ hp v f=>.bad 82 0) (λ_ _ _ hp v f=>.bad 82 0) (λ_ hp v f=>.bad 82 0) (λ_ _ _ _ hp v f=>.bad 82 0) (λ_ _ _ _ hp v f=>.bad 82 0) (λ_ _ _ hp v f=>.bad 82 0) (λ_ _ _ _ _ hp v f=>.bad 82 0) (λ_ hp v f=>.bad 82 0) PUnit.unit (λ_ _ _ _=>PUnit.unit) a
theorem qgR(a:SV)(hp:Tr 6 XB)(v:SV)(f:XR→R):qdf a hp v f=ZB hp a v f:=by
 cases a<;>first|rfl|skip
 case ptr id off=>
  show stC (hp.find id) id off v f=_;unfold ZB stC;dsimp only;cases hp.find id with
  |none=>rfl
  |some b=>cases b<;>first|rfl|exact Yv _ _ _ _
 case elt id k i j=>
  show stR (hp.find id) id k i j v f=_;unfold ZB stR;dsimp only;cases hp.find id with
  |none=>rfl
  |some b=>
   cases b<;>first|rfl|skip
   rename_i t k' n l;show Qv k k' n i j 1 (λo=>qkD l o v λl=>f (.upd id (.rows t k' n l) undefSV))=_
   congr 1
   funext o;exact Yv _ _ _ _
def qkG(E:XE)(t:TypeId)(a x:Operand):Bx OpR:=
 match E.tys t with
 |some ⟨false,sz,_,_⟩=>eB a λa=>eB x λx=>.mk λfr hp _ f=>qg 86 (oneCell (x fr)) (qg 87 (Nat.beq sz 1) (qdf (a fr) hp (x fr) f))
 |_=>eB a λa=>eB x λx=>.mk λfr hp _ f=>Ju E hp t (a fr) (x fr) f
def qmW(x y:SV)(h:IntKind→Int→Int→R)(sl:R):R:=qfa x (λk a=>qfa y (λk' b=>Bool.rec (.bad 40 0) (h k a b) (qpj k k')) sl) sl
theorem qbq{s:SV}{f:IntKind→Int→R}{d:R}(h:∀k n,s≠.val (.int k n)):qfa s f d=d:=by
 cases s<;>first|rfl|skip
 rename_i v;cases v<;>first|rfl|skip
 simp_all
theorem qkH(s:SV):(∃k n,s=.val (.int k n))∨∀k n,s≠.val (.int k n):=by
 by_cases h:∃k n,s=.val (.int k n)
 ·exact .inl h
 ·simp_all
theorem qmX(E:XE)(op:BinOp)(t:TypeId)(x y:SV)(f:XR→R):qmW x y (λk a b=>(qkA op).get k a b f) (qcE E op t x y f)=qcE E op t x y f:=by
 unfold qmW;rcases qkH x with⟨k,a,rfl⟩|hx
 ·rcases qkH y with⟨k',b,rfl⟩|hy
  ·show(Bool.rec (.bad 40 0) ((qkA op).get k a b f) (qpj k k'):R)=qg 40 (eqKind k k') (qgr op k a b f)
   rw[qmR,qmV];rfl
  ·show qfa y _ _=_
   exact qbq hy
 ·exact qbq hx
def qqR(E:XE)(op:BinOp)(t:TypeId)(x y:Operand):Bx OpR:=Bx.rec (λh=>eB x λa=>eB y λb=>.mk λfr _ _ f=>qmW (a fr) (b fr) (λk m n=>h k m n f) (qcE E op t (a fr) (b fr) f)) (qkA op)
def qqS(x:SV):Nat→(XR→R)→R:=SV.rec (motive_1:=λ_=>Nat→(XR→R)→R) (motive_2:=λ_=>PUnit) (λ o f=>.bad 102 0) (λ_ o f=>.bad 102 0) (λ_ _ o f=>.bad 102 0) (λ_ _ o f=>.bad 102 0) (λ_ _ _ _ _ o f=>.bad 102 0) (λid off o f=>qj (Nat.add off o) λn=>f (.pure (.ptr id n))) (λid k i j o f=>ZC (.elt id k i j) o f) (λb n row ih o f=>ZC (.ref b n row) o f) (λ_ _ _ _ _ _ o f=>.bad 102 0) (λ_ _ _ o f=>.bad 102 0) (λ_ o f=>.bad 102 0) (λ_ _ _ _ o f=>.bad 102 0) (λ_ _ _ _ o f=>.bad 102 0) (λ_ _ _ o f=>.bad 102 0) (λ_ _ _ _ _ o f=>.bad 102 0) (λ_ o f=>.bad 102 0) PUnit.unit (λ_ _ _ _=>PUnit.unit) x
theorem qmY(x:SV)(o:Nat)(f:XR→R):qqS x o f=ZC x o f:=by
 cases x<;>rfl
def qdg(E:XE)(t:TypeId)(x:Operand)(i:Nat):Bx OpR:=
 match E.tys t with
 |some ⟨_,_,_,.struct fs⟩=>(match fs[i]? with
  |some (o,s,_)=>(match Nat.ble 1 s with
   |true=>eB x λa=>qj o λo=>.mk λfr _ _ f=>qqS (a fr) o f
   |false=>.mk λ_ _ _ _=>.bad 103 0)
  |none=>.mk λ_ _ _ _=>.bad 104 0)
 |_=>.mk λ_ _ _ _=>.bad 105 0
def qqT(x:SV):(XR→R)→R:=SV.rec (motive_1:=λ_=>(XR→R)→R) (motive_2:=λ_=>PUnit) (λ f=>.bad 100 0) (λ_ f=>.bad 100 0) (λ_ _ f=>.bad 100 0) (λ_ _ f=>.bad 100 0) (λg a b iha ihb f=>qiQ (.fn g a b) f) (λid off f=>f (.pure (.ptr id off))) (λid k i j f=>f (.pure (.elt id k i j))) (λo n row ih f=>f (.pure (.ref o n row))) (λ_ _ _ _ _ _ f=>.bad 100 0) (λ_ _ _ f=>.bad 100 0) (λ_ f=>.bad 100 0) (λ_ _ _ _ f=>.bad 100 0) (λ_ _ _ _ f=>.bad 100 0) (λ_ _ _ f=>.bad 100 0) (λ_ _ _ _ _ f=>.bad 100 0) (λ_ f=>.bad 100 0) PUnit.unit (λ_ _ _ _=>PUnit.unit) x
theorem qmZ(x:SV)(f:XR→R):qqT x f=qiQ x f:=by cases x<;>rfl
def qkI(E:XE)(c:Call):Bx OpR:=
 match c.callee with
 |.value (.func g)=>Bx.rec (λm=>.mk λfr _ _ f=>jj (m fr) λl=>f (.call g l)) (qfe c.args.toList)
 |.builtin .len=>(match c.args.toList,c.argTypes.toList with
  |[x],[t]=>(match E.tys t with
   |some ⟨_,_,_,.slice _ _⟩=>eB x λa=>.mk λfr _ _ f=>qiR (a fr) f
   |some ⟨_,_,_,.array n _ _⟩=>.mk λ_ _ _ f=>f (.pure (.val (.int .i64 (.ofNat n))))
   |_=>.mk λfr hp id f=>vZ E fr hp c id f)
  |_,_=>.mk λfr hp id f=>vZ E fr hp c id f)
 |.builtin .append=>(match c.args.toList,c.argTypes.toList with
  |[s,x],[t,t']=>(match Nat.beq t t' with
   |true=>eB s λa=>eB x λb=>.mk λfr hp id f=>ZF E hp t (a fr) (b fr) id f
   |false=>.mk λ_ _ _ _=>.bad 231 0)
  |_,_=>.mk λfr hp id f=>vZ E fr hp c id f)
 |_=>.mk λfr hp id f=>vZ E fr hp c id f
def cOp(E:XE)(op:Op):Bx OpR:=
 match op with
 |.move x=>eB x λa=>.mk λfr _ _ f=>f (.pure (a fr))
 |.assign x=>eB x λa=>.mk λfr _ _ f=>f (.pure (a fr))
 |.pick c a b=>eB c λc=>eB a λa=>eB b λb=>.mk λfr _ _ f=>qdU (c fr) (a fr) (b fr) f
 |.alloc t=>.mk λ_ _ id f=>WV E t id f
 |.box t x=>eB x λa=>.mk λfr _ id f=>qmj E t (a fr) id f
 |.load t x=>qom E t x
 |.store t a x=>qkG E t a x
 |.nilCheck x=>eB x λa=>.mk λfr _ _ f=>qqT (a fr) f
 |.binOp op t x y _=>qqR E op t x y
 |.unOp op _ x=>eB x λa=>.mk λfr _ _ f=>xUn op (a fr) f
 |.convert s t x=>eB x λa=>.mk λfr _ _ f=>qdT E s t (a fr) f
 |.fieldAddr t x i=>qdg E t x i
 |.field t x i=>eB x λa=>.mk λfr _ _ f=>WW E t (a fr) i f
 |.indexAddr t x i=>eB x λa=>eB i λb=>.mk λfr _ _ f=>wF E t (a fr) (b fr) f
 |.extract x i=>eB x λa=>.mk λfr _ _ f=>ZD (a fr) i f
 |.call c=>qkI E c
 |.index t x i=>eB x λa=>eB i λb=>.mk λfr _ _ f=>WX E t (a fr) (b fr) f
 |.makeMap t rs=>.mk λ_ _ id f=>ZH E t rs.isSome id f
 |.lookup t x k ok=>eB x λa=>eB k λb=>.mk λfr hp _ f=>Gk E hp t (a fr) (b fr) ok f
 |op=>.mk λfr hp id f=>xOp E fr hp id op f
theorem qgS(E:XE)(t:TypeId)(x:Operand)(i:Nat)(fr:Tr 3 SV)(hp:Tr 6 XB)(id:Nat)(f:XR→R):(qdg E t x i).get fr hp id f=vk E t (zp fr x) i f:=by
 unfold qdg vk;cases E.tys t with
 |none=>rfl
 |some ti=>
  obtain⟨a,b,c,d⟩:=ti;cases d<;>first|rfl|skip
  rename_i fs;dsimp only;cases fs[i]? with
  |none=>rfl
  |some y=>
   obtain⟨o,s,ag⟩:=y;dsimp only;cases Nat.ble 1 s with
   |false=>rfl
   |true=>
    dsimp only;rw[zQ,qe];exact qmY _ _ _
theorem qkJ(E:XE)(c:Call)(fr:Tr 3 SV)(hp:Tr 6 XB)(id:Nat)(f:XR→R):(qkI E c).get fr hp id f=vZ E fr hp c id f:=by
 unfold qkI;split
 ·rename_i g hc
  show jj ((qfe c.args.toList).get fr) (λl=>f (.call g l))=_;rw[qW,qbp];unfold vZ;rw[hc];show _=Qk ([]++(wP fr c.args.toList++[])) λl=>f (.call g l);rw[kS,List.nil_append,xd3]
 ·rename_i hc
  split
  ·rename_i x t ha ht
   have e:vZ E fr hp c id f=qgw E t (zp fr x) f:=by
    unfold vZ;rw[hc];show ZI E hp .len c.argTypes.toList (wP fr c.args.toList) id f=_;rw[ha,ht];rfl
   split
   ·rename_i hT
    rw[zQ,e];unfold qgw;rw[hT];rfl
   ·rename_i hT
    rw[e];unfold qgw;rw[hT];rfl
   ·rfl
  ·rfl
 ·rename_i hc
  split
  ·rename_i s x t t' ha ht
   have e:vZ E fr hp c id f=qg 231 (Nat.beq t t') (ZF E hp t (zp fr s) (zp fr x) id f):=by
    unfold vZ;rw[hc];show ZI E hp .append c.argTypes.toList (wP fr c.args.toList) id f=_;rw[ha,ht];rfl
   rw[e];cases Nat.beq t t' with
   |true=>dsimp only;rw[zQ,zQ];rfl
   |false=>rfl
  ·rfl
 ·rfl
theorem qdh(E:XE)(op:Op)(fr:Tr 3 SV)(hp:Tr 6 XB)(id:Nat)(f:XR→R):(cOp E op).get fr hp id f=xOp E fr hp id op f:=by
 cases op<;>first|rfl|(unfold cOp xOp;dsimp only)
 case move x=>rw[zQ,gG];rfl
 case assign x=>rw[zQ,gG];rfl
 case pick=>rw[zQ,zQ,zQ];rfl
 case box=>rw[zQ];rfl
 case load t x=>
  unfold qom qax;cases E.tys t with
  |none=>rfl
  |some ti=>
   obtain⟨a,b,c,d⟩:=ti;cases a
   ·dsimp only;rw[zQ];exact qkE _ _ _
   ·dsimp only;rw[zQ];exact qkF _ _ _ _
 case store t a x=>
  unfold qkG;split
  ·rename_i hT
   rw[zQ,zQ];unfold Ju;rw[hT];show qg 86 _ (qg 87 _ (qdf (zp fr a) hp (zp fr x) f))=_;rw[qgR]
  ·rw[zQ,zQ];rfl
 case nilCheck=>rw[zQ];exact qmZ _ _
 case binOp op t x y t'=>
  unfold qqR;show(eB x λa=>eB y λb=>.mk λfr _ _ f=>qmW (a fr) (b fr) (λk m n=>(qkA op).get k m n f) (qcE E op t (a fr) (b fr) f)).get fr hp id f=_;rw[zQ,zQ];exact qmX E op t _ _ f
 case unOp=>rw[zQ];rfl
 case convert=>rw[zQ];rfl
 case fieldAddr t x i=>exact qgS _ _ _ _ _ _ _ _
 case field=>rw[zQ];rfl
 case indexAddr=>rw[zQ,zQ];rfl
 case extract=>rw[zQ];rfl
 case call c=>exact qkJ _ _ _ _ _ _
 case index=>rw[zQ,zQ];rfl
 case lookup=>rw[zQ,zQ];rfl
abbrev GK:=Tr 3 SV→Tr 6 XB→Nat→R
abbrev qrN:=XC→CX→Nat→XR→Tr 3 SV→Tr 6 XB→Nat→GK→R
def qgT(E:XE)(j:Bool)(d:Option Tmp):Bx qrN:=
 match d with
 |none=>.mk λrun cx id xr fr hp nid g=>XR.rec (motive:=λ_=>XC→CX→Nat→Tr 3 SV→Tr 6 XB→Nat→GK→R) (λ_ _ _ _ fr hp nid g=>g fr hp nid) (λb _ _ _ id fr hp nid g=>zl (some b) 22 hp id λhp=>g fr hp nid)
  (λi b s run cx id fr hp nid g=>Option.rec (.bad 304 0) (λ_=>zl (some b) 22 hp i λhp=>g fr hp nid) (hp.find i)) (λi b s run cx id fr hp nid g=>ZS E run cx j none id (.grow i b s) fr hp nid g) (λh l run cx id fr hp nid g=>ZS E run cx j none id (.call h l) fr hp nid g) (λh l run cx id fr hp nid g=>ZS E run cx j none id (.yield h l) fr hp nid g) xr run cx id fr hp nid g
 |some d=>qj d λd=>Bx.rec (λp=>.mk λrun cx id xr fr hp nid g=>XR.rec (motive:=λ_=>XC→CX→Nat→Tr 3 SV→Tr 6 XB→Nat→GK→R) (λs _ _ _ fr hp nid g=>p fr (some s) λfr=>g fr hp nid) (λb s _ _ id fr hp nid g=>zl (some b) 22 hp id λhp=>p fr (some s) λfr=>g fr hp nid)
  (λi b s run cx id fr hp nid g=>Option.rec (.bad 304 0) (λ_=>zl (some b) 22 hp i λhp=>p fr (some s) λfr=>g fr hp nid) (hp.find i)) (λi b s run cx id fr hp nid g=>ZS E run cx j (some d) id (.grow i b s) fr hp nid g) (λh l run cx id fr hp nid g=>ZS E run cx j (some d) id (.call h l) fr hp nid g) (λh l run cx id fr hp nid g=>ZS E run cx j (some d) id (.yield h l) fr hp nid g) xr run cx id fr hp nid g) (QU SV 3 d)
theorem qna(E:XE)(j:Bool)(d:Option Tmp)(run:XC)(cx:CX)(id:Nat)(xr:XR)(fr:Tr 3 SV)(hp:Tr 6 XB)(nid:Nat)(g:GK):(qgT E j d).get run cx id xr fr hp nid g=ZS E run cx j d id xr fr hp nid g:=by
 cases d with
 |none=>
  cases xr<;>first|rfl|skip
  rename_i i b s;show(Option.rec (.bad 304 0) (λ_=>zl (some b) 22 hp i λhp=>g fr hp nid) (hp.find i):R)=_;unfold ZS;dsimp only;cases hp.find i<;>rfl
 |some d=>
  unfold qgT;dsimp only;rw[qe];have e:∀(s:SV)(fr:Tr 3 SV)(k:Tr 3 SV→R),(QU SV 3 d).get fr (some s) k=putD (some d) s fr k:=λs fr k=>by
   show _=zl (some s) 12 fr d k;rw[WS]
  cases xr<;>first|rfl|exact e _ _ _|skip
  ·rename_i b s
   show zl (some b) 22 hp id (λhp=>(QU SV 3 d).get fr (some s) λfr=>g fr hp nid)=_;unfold ZS;dsimp only
   congr 1
   funext hp;exact e _ _ _
  ·rename_i i b s
   show(Option.rec (.bad 304 0) (λ_=>zl (some b) 22 hp i λhp=>(QU SV 3 d).get fr (some s) λfr=>g fr hp nid) (hp.find i):R)=_;unfold ZS;dsimp only;cases hp.find i with
   |none=>rfl
   |some y=>
    show zl (some b) 22 hp i (λhp=>(QU SV 3 d).get fr (some s) λfr=>g fr hp nid)=zl (some b) 22 hp i (λhp=>putD (some d) s fr λfr=>g fr hp nid)
    congr 1
    funext hp;exact e _ _ _
abbrev qkK:=XC→CX→Tr 3 SV→Tr 6 XB→Nat→GK→R
def cGo(E:XE)(j:Bool)(o:Oper)(i:Nat)(k:(XC→CX→Tr 3 SV→Tr 6 XB→Nat→GK→R)→Bx qkK):Bx qkK:=
 Bx.rec (λq=>Bx.rec (λr=>(match jk o.op with
  |true=>k λrun cx fr hp nid g=>qj (Nat.add nid i) λid=>q fr hp id λxr=>r run cx id xr fr hp nid g
  |false=>k λrun cx fr hp nid g=>q fr hp (Nat.add nid i) λxr=>r run cx (Nat.add nid i) xr fr hp nid g)) (qgT E j o.dst)) (cOp E o.op)
def KF(E:XE)(j:Bool)(ds:List (Option Tmp))(l:List Oper):Nat→Bx qkK:=
 List.rec (motive:=λ_=>Nat→Bx qkK) (λ_=>.mk λ_ _ fr hp nid g=>g fr hp nid) (λo _ ih i=>qj (Nat.succ i) λi1=>Bx.rec (λrest=>cGo E j o i λgo=>(match o.guard with
  |none=>.mk λrun cx fr hp nid g=>go run cx fr hp nid λfr hp nid=>rest run cx fr hp nid g
  |some p=>.mk λrun cx fr hp nid g=>yA ds (some p) o.dst fr hp nid (go run cx fr hp nid λfr hp nid=>rest run cx fr hp nid g) (λfr hp nid=>rest run cx fr hp nid g))) (ih i1)) l
theorem qpn(E:XE)(j:Bool)(o:Oper)(i:Nat)(k:(XC→CX→Tr 3 SV→Tr 6 XB→Nat→GK→R)→Bx qkK):cGo E j o i k=k λrun cx fr hp nid g=>xGo E run cx j o fr hp nid i g:=by
 show(match jk o.op with
  |true=>k λrun cx fr hp nid g=>qj (Nat.add nid i) λid=>(cOp E o.op).get fr hp id λxr=>(qgT E j o.dst).get run cx id xr fr hp nid g
  |false=>k λrun cx fr hp nid g=>(cOp E o.op).get fr hp (Nat.add nid i) λxr=>(qgT E j o.dst).get run cx (Nat.add nid i) xr fr hp nid g)=_
 have e:∀run cx fr hp nid g id,(cOp E o.op).get fr hp id (λxr=>(qgT E j o.dst).get run cx id xr fr hp nid g)=xOp E fr hp id o.op λxr=>ZS E run cx j o.dst id xr fr hp nid g:=λrun cx fr hp nid g id=>by
  rw[qdh]
  congr 1
  funext xr;exact qna _ _ _ _ _ _ _ _ _ _ _
 cases jk o.op with
 |true=>
  dsimp only
  congr 1
  funext run cx fr hp nid g;rw[qe,e];unfold xGo;rw[qe];rfl
 |false=>
  dsimp only
  congr 1
  funext run cx fr hp nid g;rw[e];unfold xGo;rw[qe];rfl
theorem qff(E:XE)(j:Bool)(ds:List (Option Tmp))(run:XC)(cx:CX):∀(l:List Oper)(i:Nat)(fr:Tr 3 SV)(hp:Tr 6 XB)(nid:Nat)(g:GK),(KF E j ds l i).get run cx fr hp nid g=ZT E run cx j ds l i fr hp nid g
 |[],i,fr,hp,nid,g=>rfl
 |o :: l,i,fr,hp,nid,g=>by
  have ih:=qff E j ds run cx l (Nat.succ i);show Bx.get (qj (Nat.succ i) λi1=>Bx.rec (λrest=>cGo E j o i λgo=>(match o.guard with
   |none=>.mk λrun cx fr hp nid g=>go run cx fr hp nid λfr hp nid=>rest run cx fr hp nid g
   |some p=>.mk λrun cx fr hp nid g=>yA ds (some p) o.dst fr hp nid (go run cx fr hp nid λfr hp nid=>rest run cx fr hp nid g) (λfr hp nid=>rest run cx fr hp nid g))) (KF E j ds l i1)) run cx fr hp nid g=yA ds o.guard o.dst fr hp nid (xGo E run cx j o fr hp nid i λfr hp nid=>qj (Nat.succ i) λi=>ZT E run cx j ds l i fr hp nid g) (λfr hp nid=>qj (Nat.succ i) λi=>ZT E run cx j ds l i fr hp nid g)
  rw[qe];show(cGo E j o i λgo=>(match o.guard with
   |none=>.mk λrun cx fr hp nid g=>go run cx fr hp nid λfr hp nid=>(KF E j ds l (Nat.succ i)).get run cx fr hp nid g
   |some p=>.mk λrun cx fr hp nid g=>yA ds (some p) o.dst fr hp nid (go run cx fr hp nid λfr hp nid=>(KF E j ds l (Nat.succ i)).get run cx fr hp nid g) (λfr hp nid=>(KF E j ds l (Nat.succ i)).get run cx fr hp nid g))).get run cx fr hp nid g=_
  rw[qpn];have e:(λfr hp nid=>(KF E j ds l (Nat.succ i)).get run cx fr hp nid g)=λfr hp nid=>qj (Nat.succ i) λi=>ZT E run cx j ds l i fr hp nid g:=by
   funext fr hp nid;rw[qe,ih]
  cases o.guard with
  |none=>
   show xGo E run cx j o fr hp nid i (λfr hp nid=>(KF E j ds l (Nat.succ i)).get run cx fr hp nid g)=_;rw[e];rfl
  |some p=>
   show yA ds (some p) o.dst fr hp nid (xGo E run cx j o fr hp nid i (λfr hp nid=>(KF E j ds l (Nat.succ i)).get run cx fr hp nid g)) (λfr hp nid=>(KF E j ds l (Nat.succ i)).get run cx fr hp nid g)=_;rw[e]
abbrev ChR:=XC→Tr 3 SV→Tr 6 XB→Nat→List (Tr 6 XB)→CK→R
def okK(r:R)(g:SV→Tr 6 XB→Nat→R):R:=R.rec (λq=>Q.rec (λs hp nid=>g s hp nid) q) (λc i=>.bad c i) r
theorem qkL(E:XE)(run:XC)(id:Nat)(o:Oper)(fr:Tr 3 SV)(hp:Tr 6 XB)(g:SV→Tr 6 XB→Nat→R):okK ((cOp E o.op).get fr hp id λxr=>qbk E run id xr hp okQ) g=KY E run id o fr hp g:=by
 rw[qdh];unfold okK KY;cases (xOp E fr hp id o.op λxr=>qbk E run id xr hp okQ)with
 |ok q=>cases q;rfl
 |bad c i=>rfl
def qkM(xr:XR):R:=XR.rec (λs=>.ok (.mk s .nil 0)) (λ_ _=>.bad 382 0) (λ_ _ _=>.bad 382 0) (λ_ _ _=>.bad 382 0) (λ_ _=>.bad 382 0) (λ_ _=>.bad 382 0) xr
theorem qkN:qkM=qeT:=by funext xr;cases xr<;>rfl
def cPu(E:XE)(op:Op):Bx (Tr 3 SV→Tr 6 XB→R):=
 match qbl E op with
 |some x=>Bx.rec (λq=>.mk λfr hp=>JP (q fr) hp) (Vr x)
 |none=>Bx.rec (λq=>.mk λfr hp=>q fr hp 0 qkM) (cOp E op)
theorem qpo(E:XE)(op:Op)(fr:Tr 3 SV)(hp:Tr 6 XB):(cPu E op).get fr hp=JQ E fr hp op:=by
 unfold cPu JQ;cases qbl E op with
 |some x=>
  show JP ((Vr x).get fr) hp=JP (zp fr x) hp;rw[Gt]
 |none=>
  show(cOp E op).get fr hp 0 qkM=xOp E fr hp 0 op qeT;rw[qdh,qkN]
theorem V7(E:XE)(o:Oper)(fr:Tr 3 SV)(hp:Tr 6 XB)(g:SV→R):okK ((cPu E o.op).get fr hp) (λs _ _=>g s)=jm E o fr hp g:=by
 rw[qpo];unfold okK jm;cases JQ E fr hp o.op with
 |ok q=>cases q;rfl
 |bad c i=>rfl
def Vs(d:Option Tmp):Bx (Tr 3 SV→SV→(Tr 3 SV→R)→R):=
 match d with
 |none=>.mk λfr _ g=>g fr
 |some d=>qj d λd=>Bx.rec (λp=>.mk λfr s g=>p fr (some s) g) (QU SV 3 d)
theorem qnb(d:Option Tmp)(fr:Tr 3 SV)(s:SV)(g:Tr 3 SV→R):(Vs d).get fr s g=putD d s fr g:=by
 cases d with
 |none=>rfl
 |some d=>
  unfold Vs;dsimp only;rw[qe];show(QU SV 3 d).get fr (some s) g=zl (some s) 12 fr d g;rw[WS]
def qdi(E:XE)(n:Nat)(o:Oper)(rest:ChR):Bx ChR:=
 Bx.rec (λu=>Bx.rec (λq=>Bx.rec (λp=>(match jk o.op with
  |true=>.mk λrun fr hp nid hs g=>qj (Nat.add nid n) λid=>okK (q fr hp id λxr=>qbk E run id xr hp okQ) λs hp' nid'=>qj (Nat.succ nid') λnid'=>p fr s λfr=>rest run fr hp' nid' (hs++[hp']) g
  |false=>(match JB o.op with
   |true=>.mk λrun fr hp nid hs g=>okK (u fr (Vq (zP fr o.op) hp)) λs _ _=>p fr s λfr=>rest run fr hp nid hs g
   |false=>.mk λrun fr hp nid hs g=>okK (u fr .nil) λs _ _=>p fr s λfr=>rest run fr hp nid hs g))) (Vs o.dst)) (cOp E o.op)) (cPu E o.op)
def cCh(E:XE)(n:Nat)(ds:List (Option Tmp))(l:List Oper):Bx ChR:=
 List.rec (.mk λ_ fr hp nid hs g=>g fr hp nid hs) (λo _ ih=>Bx.rec (λrest=>Bx.rec (λgo=>(match o.guard with
  |none=>.mk go
  |some p=>.mk λrun fr hp nid hs g=>Option.rec (.bad 386 0) (λsk=>Bool.rec (go run fr hp nid hs g) (putD o.dst undefSV fr λfr=>Bool.rec (rest run fr hp nid hs g) (qj (Nat.add nid n) λnid=>rest run fr hp nid (hs++[hp]) g) (jk o.op)) sk) (gdX ds (some p) fr))) (qdi E n o rest)) ih) l
theorem qnc(E:XE)(n:Nat)(o:Oper)(rest:ChR)(run:XC)(fr:Tr 3 SV)(hp:Tr 6 XB)(nid:Nat)(hs:List (Tr 6 XB))(g:CK):(qdi E n o rest).get run fr hp nid hs g=(Bool.rec (jm E o fr (Vq (zP fr o.op) hp) λs=>putD o.dst s fr λfr=>rest run fr hp nid hs g)
        (qj (nid+n) λid=>KY E run id o fr hp λs hp' nid'=>qj (Nat.succ nid') λnid'=>putD o.dst s fr λfr=>rest run fr hp' nid' (hs++[hp']) g) (jk o.op):R):=by
 have e1:∀(s:SV)(k:Tr 3 SV→R),(Vs o.dst).get fr s k=putD o.dst s fr k:=λs k=>qnb _ _ _ _;show Bx.get (match jk o.op with
  |true=>.mk λrun fr hp nid hs g=>qj (Nat.add nid n) λid=>okK ((cOp E o.op).get fr hp id λxr=>qbk E run id xr hp okQ) λs hp' nid'=>qj (Nat.succ nid') λnid'=>(Vs o.dst).get fr s λfr=>rest run fr hp' nid' (hs++[hp']) g
  |false=>(match JB o.op with
   |true=>.mk λrun fr hp nid hs g=>okK ((cPu E o.op).get fr (Vq (zP fr o.op) hp)) λs _ _=>(Vs o.dst).get fr s λfr=>rest run fr hp nid hs g
   |false=>.mk λrun fr hp nid hs g=>okK ((cPu E o.op).get fr .nil) λs _ _=>(Vs o.dst).get fr s λfr=>rest run fr hp nid hs g)) run fr hp nid hs g=_
 cases jk o.op with
 |true=>
  show qj (Nat.add nid n) (λid=>okK ((cOp E o.op).get fr hp id λxr=>qbk E run id xr hp okQ) λs hp' nid'=>qj (Nat.succ nid') λnid'=>(Vs o.dst).get fr s λfr=>rest run fr hp' nid' (hs++[hp']) g)=qj (nid+n) _;rw[qe,qe,qkL]
  congr 1
  simp_all
 |false=>
  cases hr:JB o.op with
  |true=>
   show okK ((cPu E o.op).get fr (Vq (zP fr o.op) hp)) (λs _ _=>(Vs o.dst).get fr s λfr=>rest run fr hp nid hs g)=_;rw[V7];show jm _ _ _ _ _=jm _ _ _ _ _
   congr 1
   simp_all
  |false=>
   show okK ((cPu E o.op).get fr .nil) (λs _ _=>(Vs o.dst).get fr s λfr=>rest run fr hp nid hs g)=_;rw[V7];have:Vq (zP fr o.op) hp=.nil:=by unfold zP;rw[hr];rfl
   show jm _ _ _ _ _=jm _ _ _ _ _
   simp_all
theorem qkO(E:XE)(n:Nat)(ds:List (Option Tmp))(run:XC):∀(l:List Oper)(fr:Tr 3 SV)(hp:Tr 6 XB)(nid:Nat)(hs:List (Tr 6 XB))(g:CK),(cCh E n ds l).get run fr hp nid hs g=jp E run n ds l fr hp nid hs g
 |[],fr,hp,nid,hs,g=>rfl
 |o :: l,fr,hp,nid,hs,g=>by
  have ih:=qkO E n ds run l;have ihf:(cCh E n ds l).get run=jp E run n ds l:=by funext fr hp nid hs g;exact ih fr hp nid hs g
  have go:=qnc E n o (cCh E n ds l).get run;show Bx.get (match o.guard with
   |none=>.mk (qdi E n o (cCh E n ds l).get).get
   |some p=>.mk λrun fr hp nid hs g=>Option.rec (.bad 386 0) (λsk=>Bool.rec ((qdi E n o (cCh E n ds l).get).get run fr hp nid hs g) (putD o.dst undefSV fr λfr=>Bool.rec ((cCh E n ds l).get run fr hp nid hs g) (qj (Nat.add nid n) λnid=>(cCh E n ds l).get run fr hp nid (hs++[hp]) g) (jk o.op)) sk) (gdX ds (some p) fr)) run fr hp nid hs g=(match gdX ds o.guard fr with
   |some false=>Bool.rec (jm E o fr (Vq (zP fr o.op) hp) λs=>putD o.dst s fr λfr=>jp E run n ds l fr hp nid hs g)
    (qj (nid+n) λid=>KY E run id o fr hp λs hp' nid'=>qj (Nat.succ nid') λnid'=>putD o.dst s fr λfr=>jp E run n ds l fr hp' nid' (hs++[hp']) g) (jk o.op)
   |some true=>putD o.dst undefSV fr λfr=>Bool.rec (jp E run n ds l fr hp nid hs g) (qj (nid+n) λnid=>jp E run n ds l fr hp nid (hs++[hp]) g) (jk o.op)
   |none=>.bad 386 0)
  cases hg:o.guard with
  |none=>
   show(qdi E n o (cCh E n ds l).get).get run fr hp nid hs g=_;rw[go,ihf];rfl
  |some p=>
   show(Option.rec (.bad 386 0) (λsk=>Bool.rec ((qdi E n o (cCh E n ds l).get).get run fr hp nid hs g) (putD o.dst undefSV fr λfr=>Bool.rec ((cCh E n ds l).get run fr hp nid hs g) (qj (Nat.add nid n) λnid=>(cCh E n ds l).get run fr hp nid (hs++[hp]) g) (jk o.op)) sk) (gdX ds (some p) fr):R)=_;cases gdX ds (some p) fr with
   |none=>rfl
   |some sk=>
    cases sk with
    |false=>
     show(qdi E n o (cCh E n ds l).get).get run fr hp nid hs g=_;rw[go,ihf]
    |true=>
     rw[ihf];rfl
def cCk(l:List Oper)(E:XE)(ops:List Oper):Nat→Bx (Tr 3 SV→List (Tr 6 XB)→R→R):=
 List.rec (motive:=λ_=>Nat→Bx (Tr 3 SV→List (Tr 6 XB)→R→R)) (λ_=>.mk λ_ _ r=>r) (λo _ ih i=>qj (Nat.succ i) λi1=>Bx.rec (λrest=>(match JB o.op with
  |true=>qj (loC l i) λlo=>qj (hiC l i) λhi=>qj (kc (efL l) i) λtx=>(match Nat.beq lo tx&&Nat.beq hi tx with
   |true=>.mk rest
   |false=>.mk λfr hs r=>Bool.rec (rest fr hs r) (Q6 E fr o lo hi tx (rest fr hs r) hs 0) (zP fr o.op&&Ga (dsts l) o fr))
  |false=>.mk rest)) (ih i1)) ops
theorem V8(E:XE)(fr:Tr 3 SV)(o:Oper)(t:Nat)(r:R):∀(hs:List (Tr 6 XB))(k:Nat),Q6 E fr o t t t r hs k=r
 |[],k=>rfl
 |hp :: hs,k=>by
  show(Bool.rec (qj (Nat.succ k) λk=>Q6 E fr o t t t r hs k) (Yq E fr o hp (qj (Nat.succ k) λk=>Q6 E fr o t t t r hs k)) (Nat.ble t k&&(Nat.ble k t&&!(Nat.beq k t))):R)=r;have:(Nat.ble t k&&(Nat.ble k t&&!(Nat.beq k t)))=false:=by
   cases h1:Nat.ble t k with
   |false=>rfl
   |true=>
    cases h2:Nat.ble k t with
    |false=>rfl
    |true=>
     (simp_all;omega)
  rw[this];show(qj (Nat.succ k) λk=>Q6 E fr o t t t r hs k)=r;rw[qe];exact V8 E fr o t r hs _
theorem qkP(E:XE)(l:List Oper)(fr:Tr 3 SV)(hs:List (Tr 6 XB))(r:R):∀(ops:List Oper)(i:Nat),(cCk l E ops i).get fr hs r=JR E l fr hs r ops i
 |[],i=>rfl
 |o :: ops,i=>by
  have ih:=qkP E l fr hs r ops (Nat.succ i);show Bx.get (qj (Nat.succ i) λi1=>Bx.rec (λrest=>(match JB o.op with
   |true=>qj (loC l i) λlo=>qj (hiC l i) λhi=>qj (kc (efL l) i) λtx=>(match Nat.beq lo tx&&Nat.beq hi tx with
    |true=>.mk rest
    |false=>.mk λfr hs r=>Bool.rec (rest fr hs r) (Q6 E fr o lo hi tx (rest fr hs r) hs 0) (zP fr o.op&&Ga (dsts l) o fr))
   |false=>.mk rest)) (cCk l E ops i1)) fr hs r=(Bool.rec (qj (Nat.succ i) λi=>JR E l fr hs r ops i) (qj (loC l i) λlo=>qj (hiC l i) λhi=>qj (kc (efL l) i) λtx=>Q6 E fr o lo hi tx (qj (Nat.succ i) λi=>JR E l fr hs r ops i) hs 0) (zP fr o.op&&Ga (dsts l) o fr):R)
  rw[qe];have e:(qj (Nat.succ i) λi=>JR E l fr hs r ops i)=(cCk l E ops (Nat.succ i)).get fr hs r:=by rw[qe,ih]
  rw[e];cases hr:JB o.op with
  |false=>
   have:(zP fr o.op&&Ga (dsts l) o fr)=false:=by unfold zP;rw[hr];rfl
   rw[this]
  |true=>
   show Bx.get (qj (loC l i) λlo=>qj (hiC l i) λhi=>qj (kc (efL l) i) λtx=>(match Nat.beq lo tx&&Nat.beq hi tx with
    |true=>.mk (cCk l E ops (Nat.succ i)).get
    |false=>.mk λfr hs r=>Bool.rec ((cCk l E ops (Nat.succ i)).get fr hs r) (Q6 E fr o lo hi tx ((cCk l E ops (Nat.succ i)).get fr hs r) hs 0) (zP fr o.op&&Ga (dsts l) o fr))) fr hs r=_
   rw[qe,qe,qe,qe,qe,qe];cases h:(Nat.beq (loC l i) (kc (efL l) i)&&Nat.beq (hiC l i) (kc (efL l) i))with
   |false=>rfl
   |true=>
    rw[xe6]at h;rw[xa6 h.1,xa6 h.2,V8];cases (zP fr o.op&&Ga (dsts l) o fr)<;>rfl
abbrev qkQ:=XC→CX→Tr 3 SV→Tr 6 XB→Nat→XK→R
def qpp(E:XE)(L:FL)(id:Nat)(d:Bool)(ops:List Oper):Bx qkQ:=
 match qV L id with
 |[]=>KU (zN d ops) λj=>Bx.rec (λq=>qj ops.length λn=>.mk λrun cx fr hp nid f=>q run cx fr hp nid λfr hp nid=>qj (Nat.add nid n) λnid=>f .normal fr hp nid) (KF E j (dsts ops) ops 0)
 |(2,2) :: _=>(match d,W9 ops with
  |true,true=>qj ops.length λn=>Bx.rec (λq=>Bx.rec (λck=>.mk λrun cx fr hp nid f=>q run fr hp nid [hp] λfr hp nid hs=>ck fr hs (qj (Nat.add nid n) λnid=>f .normal fr hp nid)) (cCk ops E ops 0)) (cCh E n (dsts ops) ops)
  |_,_=>.mk λrun cx fr hp nid f=>qde E run L cx id d ops fr hp nid f)
 |_=>.mk λrun cx fr hp nid f=>qde E run L cx id d ops fr hp nid f
theorem qnd(E:XE)(L:FL)(id:Nat)(d:Bool)(ops:List Oper)(run:XC)(cx:CX)(fr:Tr 3 SV)(hp:Tr 6 XB)(nid:Nat)(f:XK):(qpp E L id d ops).get run cx fr hp nid f=qde E run L cx id d ops fr hp nid f:=by
 unfold qpp;split
 ·rename_i h
  unfold qde;rw[h,Zv];have e:(Bx.rec (λq=>qj ops.length λn=>.mk λrun cx fr hp nid f=>q run cx fr hp nid λfr hp nid=>qj (Nat.add nid n) λnid=>f .normal fr hp nid) (KF E (zN d ops) (dsts ops) ops 0):Bx qkQ)=.mk λrun cx fr hp nid f=>(KF E (zN d ops) (dsts ops) ops 0).get run cx fr hp nid λfr hp nid=>qj (Nat.add nid ops.length) λnid=>f .normal fr hp nid:=by
   show(qj ops.length λn=>_)=_;rw[qe];rfl
  rw[e];show(KF E (zN d ops) (dsts ops) ops 0).get run cx fr hp nid (λfr hp nid=>qj (Nat.add nid ops.length) λnid=>f .normal fr hp nid)=ZT E run cx (zN d ops) (dsts ops) ops 0 fr hp nid (JT ops f);rw[qff];rfl
 ·rename_i l h
  split
  ·rename_i hd hch
   unfold qde;rw[h];show _=qg 361 true (qmL E run ops fr hp nid f);unfold qmL;rw[hch];show _=qj ops.length λn=>jp E run n (dsts ops) ops fr hp nid [hp] λfr hp nid hs=>JR E ops fr hs (qj (nid+n) λnid=>f .normal fr hp nid) ops 0;rw[qe,qe];show(cCh E ops.length (dsts ops) ops).get run fr hp nid [hp] (λfr hp nid hs=>(cCk ops E ops 0).get fr hs (qj (Nat.add nid ops.length) λnid=>f .normal fr hp nid))=_;rw[qkO]
   congr 1
   funext fr hp nid hs;exact qkP _ _ _ _ _ _ _
  ·rfl
 ·rfl
def qkR(run:XC)(L:FL)(cx:CX)(b:Code)(f:XK)(e:Ex)(fr:Tr 3 SV)(hp:Tr 6 XB)(nid:Nat):R:=Ex.rec (run L cx b fr hp nid f) (λi=>f (.exit i) fr hp nid) (f .ret fr hp nid) e
theorem qfg(run:XC)(L:FL)(cx:CX)(b:Code)(f:XK):qkR run L cx b f=qgP run L cx b f:=by
 funext e fr hp nid;cases e<;>rfl
def qdj(id:Nat)(f:XK)(e:Ex)(fr:Tr 3 SV)(hp:Tr 6 XB)(nid:Nat):R:=Ex.rec (f .normal fr hp nid) (λi=>Bool.rec (f (.exit i) fr hp nid) (f .normal fr hp nid) (Nat.beq i id)) (f .ret fr hp nid) e
theorem qgU(id:Nat)(f:XK):qdj id f=qku id f:=by
 funext e fr hp nid;cases e<;>rfl
def qkS(v:SV)(a b:R):R:=qpi v (λc=>Bool.rec b a c) (.bad 320 0)
theorem qkT(v:SV)(a b:R):qkS v a b=qkv v a b:=by
 cases v<;>first|rfl|skip
 rename_i v;cases v<;>rfl
def qkU(E:XE)(L:FL)(c:Code):Bx qkQ:=
 match c with
 |.skip=>.mk λ_ _ fr hp nid f=>f .normal fr hp nid
 |.seq a b=>.mk λrun cx fr hp nid f=>run L cx a fr hp nid (qkR run L cx b f)
 |.cond x a b=>Bx.rec (λq=>.mk λrun cx fr hp nid f=>qkS (q fr) (run L cx a fr hp nid f) (run L cx b fr hp nid f)) (Vr x)
 |.block id c=>.mk λrun cx fr hp nid f=>run L cx c fr hp nid (qdj id f)
 |.exit id=>.mk λ_ _ fr hp nid f=>f (.exit id) fr hp nid
 |.ret=>.mk λ_ _ fr hp nid f=>f .ret fr hp nid
 |.scope c=>.mk λrun cx fr hp nid f=>run L cx c fr hp nid f
 |.loop c=>.mk λrun cx fr hp nid f=>run L cx c fr hp nid (qkR run L cx (.loop c) f)
 |.region id ops d=>qpp E L id d ops.toList
 |c=>.mk λrun cx fr hp nid f=>V6 E run L cx c fr hp nid f
theorem qkV(E:XE)(run:XC)(L:FL)(cx:CX)(c:Code)(fr:Tr 3 SV)(hp:Tr 6 XB)(nid:Nat)(f:XK):(qkU E L c).get run cx fr hp nid f=V6 E run L cx c fr hp nid f:=by
 cases c<;>first|rfl|(unfold qkU V6;dsimp only)
 case seq a b=>show run L cx a fr hp nid (qkR run L cx b f)=_;rw[qfg]
 case cond x a b=>
  show qkS ((Vr x).get fr) _ _=_;rw[qkT,Gt]
 case block id c=>show run L cx c fr hp nid (qdj id f)=_;rw[qgU]
 case loop c=>show run L cx c fr hp nid (qkR run L cx (.loop c) f)=_;rw[qfg]
 case region id ops d=>exact qnd _ _ _ _ _ _ _ _ _ _ _
end
end Go.Sx
end
section
namespace Go.Sx
open Go.RowKit
noncomputable section
variable{ρ:Q}
def Gb(E:XE)(n:Nat):XC:=Nat.rec (motive:=λ_=>XC) (λ_ _ _ _ _ _ _=>.bad 322 0) (λ_ ih L cx c fr hp nid f=>Bx.rec (λq=>q ih cx fr hp nid f) (qkU E L c)) n
theorem V9(E:XE)(n:Nat):Gb E (n+1)=V6 E (Gb E n):=by
 funext L cx c fr hp nid f;exact qkV E (Gb E n) L cx c fr hp nid f
section
variable{P:Program}{E:XE}
theorem qkW{n:Nat}(ih:∀m,m≤n→vA P (Gb E m)){LM:Nat→Option Loop}{fs:List Fr}{lo:Nat}{rnd:Bool}{L:FL}{cx:CX}(hcx:qgL LM fs rnd cx){c:Code}{st:St}{fr:Tr 3 SV}{hp:Tr 6 XB}{nid:Nat}{f:XK}{K:Ex→St→Prop}(hs:StR LM fr hp nid st)(h:Gb E n L cx c fr hp nid (qgP (Gb E n) L cx (.loop c) f)=.ok ρ)
  (hk:∀e fr' hp' nid' st',StR LM fr' hp' nid' st'→f e fr' hp' nid'=.ok ρ→K e st'):vc P ⟨fs,lo,rnd,qV L⟩ (.loop c) st K:=by
 refine .inl ⟨{p:Nat×St // p.1≤n∧∃fr hp nid,StR LM fr hp nid p.2∧Gb E p.1 L cx c fr hp nid (qgP (Gb E p.1) L cx (.loop c) f)=.ok ρ},λx=>x.1.2,λx=>x.1.1,⟨(n,st),xa5 n,fr,hp,nid,hs,h⟩,λ_ _ _ _ _ _ hi=>hi,?_⟩;rintro⟨⟨m,s⟩,hmn,fr,hp,nid,hs,h⟩;refine ih m hmn ρ LM _ _ _ _ _ c _ _ _ _ _ _ hcx hs h λe fr' hp' nid' st' hs' h'=>?_;cases e with
 |exit i=>exact hk _ _ _ _ _ hs' h'
 |ret=>exact hk _ _ _ _ _ hs' h'
 |normal=>
  cases m with
  |zero=>cases h'
  |succ m=>
   have h':Gb E (m+1) L cx (.loop c) fr' hp' nid' f=.ok ρ:=h';rw[V9]at h';exact⟨⟨(m,st'),Nat.le_of_succ_le hmn,fr',hp',nid',hs',h'⟩,xb5 m,λ_ _ _ _ _ _ hi=>hi⟩
theorem qfh(hm:P.follows .mixedOrders=true)(hE:XOk P E)(hf:wQ P E)(n:Nat):vA P (Gb E n):=by
 induction n using Nat.strongRecOn with
 |_ n ih=>
  cases n with
  |zero=>exact λ_ _ _ _ _ _ _ _ _ _ _ _ _ _ _ _ h _=>by cases h
  |succ n=>
   rw[V9];exact qkz hm hE hf (ih n (xb5 n)) λρ LM fs lo rnd L cx c st fr hp nid f K hcx hs h hk=>qkW (λm hmn=>ih m (Nat.lt_succ_of_le hmn)) hcx hs h hk
def qrO(E:XE)(rs:List ResultVar)(ok:Tr 6 XB→SV→R):XK
 |.exit _,_,_,_=>.bad 330 0
 |.normal,fr,hp,_=>yz E fr hp rs λm=>ok hp (oneSV m)
 |.ret,fr,hp,_=>yz E fr hp rs λm=>ok hp (oneSV m)
def yB(_:Tr 6 XB)(s:SV):R:=
 match s with
 |.val (.bool b)=>Bool.rec (.bad 331 0) (.ok (.mk .top .nil 0)) b
 |_=>.bad 332 0
def ZX(res:SV)(hp:Tr 6 XB)(s:SV):R:=Bool.rec (.bad 334 0) (.ok (.mk .top .nil 0)) (mtX hp 6 res s)
theorem qgV{s:SV}{hp:Tr 6 XB}(h:yB hp s=.ok ρ):s=.val (.bool true):=by
 unfold yB at h;split at h
 ·rename_i b
  cases b with
  |true=>rfl
  |false=>cases h
 ·cases h
def ZY(E:XE)(n:Nat)(fn:Func)(L:FL)(args:List SV)(ok:Tr 6 XB→SV→R):R:=
 match fn.body with
 |some c=>Yp args 0 .nil λfr=>Gb E n L .top c fr .nil 0 (qrO E fn.results.toList ok)
 |none=>.bad 333 0
def vB:R→Bool
 |.ok _=>true
 |_=>false
theorem wR(hm:P.follows .mixedOrders=true)(hE:XOk P E)(hf:wQ P E){g:Nat}{fn:Func}{L:FL}{c:Code}(hc:qkj P g fn L c){args:List SV}(hl:args.length≤fn.ntmps)(ho:OldL args){res:SV}{ok:Tr 6 XB→SV→R}(hok:∀hp s H,HRel (λ_=>none) hp H→ok hp s=.ok ρ→Sub H res s)(n:Nat)(h:ZY E n fn L args ok=.ok ρ):qb P g args res:=by
 refine gp (qV L) hc.at_ hc.body hc.name hm hc.ok args res hl ho ?_;unfold ZY at h;rw[hc.body]at h;obtain⟨fr,h1,h2⟩:=Qd h;have key:∀(fr3:Tr 3 SV)(hp3:Tr 6 XB)(nid3:Nat)(st3:St),StR (λ_=>none) fr3 hp3 nid3 st3→yz E fr3 hp3 fn.results.toList (λm=>ok hp3 (oneSV m))=.ok ρ→retVC P fn.results.toList st3 res:=λfr3 hp3 nid3 st3 h3 h=>by
  rw[G9];exact Qe hE h3 h λm h=>hok _ _ _ h3.2.1 h
 refine qfh hm hE hf n ρ (λ_=>none) _ _ _ L .top c _ fr .nil 0 _ _ rfl ⟨h1,λid b hb=>(by rw[Zw]at hb;cases hb),rfl⟩ h2 λe fr3 hp3 nid3 st3 h3 h=>?_;cases e with
 |exit i=>cases h
 |normal=>exact key _ _ _ _ h3 h
 |ret=>exact key _ _ _ _ h3 h
theorem qdk(hp:Tr 6 XB)(s:SV)(H:List (Nat×Blk))(_:HRel (λ_=>none) hp H)(h:yB hp s=.ok ρ):Sub H (.val (.bool true)) s:=by
 rw[qgV h];rfl
theorem qgW{res:SV}(hp:Tr 6 XB)(s:SV)(H:List (Nat×Blk))(hH:HRel (λ_=>none) hp H)(h:ZX res hp s=.ok ρ):Sub H res s:=by
 unfold ZX at h;cases q:mtX hp 6 res s with
 |false=>rw[q]at h;cases h
 |true=>exact qda hH 6 _ _ q
theorem qbr{r:R}(h:vB r=true):∃q,r=.ok q:=by
 unfold vB at h;split at h
 ·exact⟨_,rfl⟩
 ·cases h
end
end
end Go.Sx
end
