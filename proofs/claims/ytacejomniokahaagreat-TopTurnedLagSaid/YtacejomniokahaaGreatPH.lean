/- A part of the proof. -/
import Derived.Test.YtacejomniokahaaGreatPG
open Nat renaming reduceMul→xa0,reduceAdd→xa1,reduceEqDiff→xa2,reduceLT→xa3,reduceLeDiff→xa4,le_refl→xa5,zero_add→xb0,add_zero→xb1,add_assoc→xb2,lt_succ_self→xb5,zero_le→xb6,sub_self→xb8
open List renaming getD_eq_getElem?_getD→xc6,getElem?_eq_getElem→xc7,length_map→xe1,getElem?_range→xe3
open Bool renaming and_eq_true→xe6,or_eq_true→xe8,true_and→xf0,false_or→xf4
set_option linter.unusedVariables false
set_option linter.unusedSimpArgs false
set_option linter.defProp false
set_option maxRecDepth 1000000
set_option maxHeartbeats 16000000
section
namespace Go.Tn
open Go.Proofs
open Go.Sx
def dM(u:Nat→Int)(m:Nat):Nat→Value→Bool
 |0=>fun _=>false
 |i+1=>zt (dM u m i) (kp (qH u m (i:Nat) 0) i)
def gM(u:Nat→Int)(m:Nat):Nat→Value→SV
 |0=>fun _=>.top
 |i+1=>qY (gM u m i) (kp (qH u m (i:Nat) 0) i) (.val (.int .i64 1))
theorem qnX(a b:Nat):oneRows 1 1 (fun i j=>[SV.vec a b 1].getD (i+j) .top):=fun i j hi hj=>by
 obtain rfl:i=0:=by omega
 obtain rfl:j=0:=by omega
 rfl
theorem SubHp.ent{hp l:List (Nat×Blk)}{k:Nat}{x:Blk}(h:blk hp k=some x)(hl:SubHp hp l):SubHp hp ((k,x) :: l):=fun q v hv=>by
 simp only[blk]at hv;split at hv
 ·rename_i e;cases hv;rw[e];exact h
 ·exact hl q v hv
structure NI(u:Nat→Int)(m N id sid rid lo i n xid:Nat)(nx:Nat→Nat→SV)(R:List (Nat×Blk)):Prop where
 le:i≤N
 lo:lo≤n
 x1:id+13≤xid
 x2:xid<n
 x3:xid≠sid
 x4:xid≠rid
 und:∀q v,blk R q=some v→(q<id∨id+16≤q)∧q<n∧q≠xid∧q≠sid∧q≠rid
 nx:∀j,j<i→∃xi r,nx j 0=.vec xi (nxL u m j).length 1∧blk R xi=some (.rows 3 1 (nxL u m j).length r)∧YE (nxL u m j) r
theorem ZH(u:Nat→Int)(m:Nat)(v:Value):∀n,dM u m n v=true↔∃i,i<n∧v=kp (qH u m (i:Nat) 0) i
 |0=>⟨fun h=>(by cases h),fun⟨i,h,_⟩=>Ω⟩
 |n+1=>by
  show(eqK (kp (qH u m (n:Nat) 0) n) v || dM u m n v)=true↔_;rw[xe8,ZH u m v n,eqK_kp];constructor
  ·rintro(h|⟨i,h1,h2⟩)
   ·exact⟨n,xb5 n,h⟩
   ·exact⟨i,Nat.lt_succ_of_lt h1,h2⟩
  ·rintro⟨i,h1,h2⟩
   by_cases e:i=n
   ·subst e;exact .inl h2
   ·exact .inr ⟨i,Ω,h2⟩
theorem qhP(u:Nat→Int)(m:Nat)(v:Value):∀n,dM u m n v=true→gM u m n v=.val (.int .i64 1)
 |0,h=>by cases h
 |n+1,h=>by
  have h:(eqK (kp (qH u m (n:Nat) 0) n) v || dM u m n v)=true:=h;show svIte (eqK (kp (qH u m (n:Nat) 0) n) v) (.val (.int .i64 1)) (gM u m n v)=_;cases e:eqK (kp (qH u m (n:Nat) 0) n) v with
  |true=>rfl
  |false=>rw[e,xf4]at h;exact qhP u m v n h
theorem e71(m:Nat)(u:Nat→Int)(hk:ckH m u=0)(N:Nat)(hN:prd u m=(N:Nat))(F:Nat→Int)(hFx:Fx N (fun i=>(nxL u m i).length) (fun i j=>(nxL u m i).getD j 0) F)(id:Nat)(rest:List (Nat×Blk))(hr:Under rest id):EffVC Tryz.prog 71 [hsv m u] rest id (fun hp' nid' res=>∃tb sid xid rid mid nx dom get,res=.ptr tb 0∧id≤nid'∧Cl N (nxL u m) nx hp' nid' tb xid (.arr false false m 1 (fun i _=>.val (.int .i64 (u i)))) (.vec rid N 1) (.mp mid) sid∧blk hp' mid=some (.map kfP dom get)∧(∀v,dom v=true→∃x:Int,get v=.val (.int .i64 x))∧∀i,i<N→dom (kp (qH u m (i:Nat) 0) i)=decide (F i<0)):=by
 refine yn (zW [(7,[(0,0)]),(8,[(0,0)]),(20,[(0,0)])]) follows Tryz.func71 rfl Ωb Ωb (by rw[Tryz.ntmps71];simp) fun out=>?_;obtain⟨hm1,hm5,hu,hpr⟩:=vb hk;have hr0:blk rest id=none:=hr.none (xa5 _);have NB:True:=trivial;have h158:=qnF m u hm5 hu;unfold hsv at *;(repeat' (first|refine sD ?_ ?_<;>intro _|refine aAi ?_|(simp -dsimp only[↓RP,RQ,xa0,reduceIte,reduceCtorEq,xa1,xa2,xa3,xa4,↓RY,TYX,TYZ,NB,QS,QT,QN])))
 all_goals try exact Ωa
 refine qi (h158) Ωm Ωc ?_;(repeat' (first|refine sD ?_ ?_<;>intro _|refine aAi ?_|(simp -dsimp only[↓RP,RQ,xa0,reduceIte,reduceCtorEq,xa1,xa2,xa3,xa4,QT,↓RY,TYX,TYZ,NB,QS,QN])))
 all_goals try exact Ωa
 rw[hN]at hpr ⊢;refine qj (fun(z:Nat×Nat×Nat×(Nat→Nat→SV)×Nat×(Nat→Nat→SV))=>z.1≤N∧id+16≤z.2.1∧(id+12<z.2.2.1∧z.2.2.1<z.2.1∧z.2.2.1≠id+14)∧(id+12<z.2.2.2.2.1∧z.2.2.2.2.1<z.2.1∧z.2.2.2.2.1≠id+14)∧z.2.2.1≠z.2.2.2.2.1∧(∀j,j<z.1→∀c,c<5→z.2.2.2.1 j c=.val (.int .i64 (qH u m (j:Nat) 0 c)))∧(∀j,j<z.1→z.2.2.2.2.2 j 0=.val (.int .i64 (-1)))) (fun z=>⟨[(1,.ptr id 0),(3,.ptr (id+6) 0),(20,.val (.int .i64 (N:Nat))),(21,.val (.int .i64 (z.1:Nat)))],(z.2.2.1,.rows 140 5 (z.1) (z.2.2.2.1)) ::(z.2.2.2.2.1,.rows 3 1 (z.1) (z.2.2.2.2.2)) ::(id+14,.rows 22 1 0 (fun _ _=>.top)) ::(id+6,.cells 136 [.ptr (id+5) 0]) ::(id+5,.cells 253 [.arr false false m 1 (fun i _=>.val (.int .i64 (u i))),.vec z.2.2.1 (z.1) 5,.vec (id+14) 0 1,.vec z.2.2.2.2.1 (z.1) 1,.mp (id+3)]) ::(id+3,.map kfP (dM u m (z.1)) (gM u m (z.1))) ::(id,.cells 24 [.arr false false m 1 (fun i _=>.val (.int .i64 (u i)))]) :: rest,z.2.1⟩) (fun z=>N - z.1) (0,id+16,id+13,fun _ _=>.top,id+15,fun _ _=>.top) ⟨xb6 _,Ωf,Ωf,Ωf,Ωf,fun j hj=>(by cases hj),fun j hj=>(by cases hj)⟩ (Weak.trans (wY (t:=253) (l:=[.arr false false m 1 (fun i _=>.val (.int .i64 (u i))),.val (.slice none 0 0),.val (.slice none 0 0),.val (.slice none 0 0),.mp (id+3)]) (b:=id+5) (i:=1) (k:=5) (te:=140) (fun _ _=>.top) ΩN rfl) (Weak.trans (wY (t:=253) (l:=[.arr false false m 1 (fun i _=>.val (.int .i64 (u i))),.vec (id+13) 0 5,.val (.slice none 0 0),.val (.slice none 0 0),.mp (id+3)]) (b:=id+5) (i:=2) (k:=1) (te:=22) (fun _ _=>.top) ΩN rfl) (Weak.trans (wY (t:=253) (l:=[.arr false false m 1 (fun i _=>.val (.int .i64 (u i))),.vec (id+13) 0 5,.vec (id+14) 0 1,.val (.slice none 0 0),.mp (id+3)]) (b:=id+5) (i:=3) (k:=1) (te:=3) (fun _ _=>.top) ΩN rfl) (qf Ωf Ωg ?hA)))) fun z hz=>?_
 case hA=>(intro q v hv;simp only[blk]at hv ⊢;((repeat' split at hv)<;>(repeat' split)<;>first|exact hv|(exfalso;omega)|cases hv))
 obtain⟨i,n1,sid,sr,rid,rr⟩:=z;obtain⟨hi,hn1,⟨hs1,hs2,hs3⟩,⟨hq1,hq2,hq3⟩,hsr,hsw,hrv⟩:=hz;dsimp only at hi hn1 hs1 hs2 hs3 hq1 hq2 hq3 hsr hsw hrv ⊢;clear NB;have hdr1:dropBlk rest sid=rest:=qU (hr.none Ω);have hdr2:dropBlk rest rid=rest:=qU (hr.none Ω);by_cases hiN:i<N
 ·have hlt:=decide_eq_true (Ω:((i:Nat):Int)<(N:Nat))
  have h159:=qoL m u hk i Ω;have NB:=(⟨nmA (Ω:id<n1),nmA (Ω:id+3<n1),nmA (Ω:id+5<n1),nmA (Ω:id+6<n1),nmA (Ω:id+14<n1),nmA (Ω:sid<n1),nmA (Ω:rid<n1),nmE (Ω:id≠sid),nmE (Ω:id≠rid),nmE (Ω:id+3≠sid),nmE (Ω:id+3≠rid),nmE (Ω:id+5≠sid),nmE (Ω:id+5≠rid),nmE (Ω:id+6≠sid),nmE (Ω:id+6≠rid),nmE (Ω:id+14≠sid),nmE (Ω:id+14≠rid),nmE (Ω:sid≠rid)⟩:_∧_∧_∧_∧_∧_∧_∧_∧_∧_∧_∧_∧_∧_∧_∧_∧_∧_);(repeat' (first|refine sD ?_ ?_<;>intro _|refine aAi ?_|(simp -dsimp only[↓RP,RQ,xa0,reduceIte,reduceCtorEq,xa1,xa2,xa3,xa4,hlt,↓RY,TYX,TYZ,NB,QS,QT,QN])))
  all_goals try exact Ωa
  refine qi h159 (by simp only[SubL,and_true];exact⟨(by simp only[Go.Sx.Sub,blk,NB,ka,kb,xa2,if_false,if_true];intro j hj;(obtain rfl:j=0:=by omega);exact⟨by simp[Go.Sx.Sub],Ωi⟩),by simp[Go.Sx.Sub,I]⟩) (by simp[Fresh,FreshL,stS,stL]) ?_;(repeat' (first|refine sD ?_ ?_<;>intro _|refine aAi ?_|(simp -dsimp only[↓RP,RQ,xa0,reduceIte,reduceCtorEq,xa1,xa2,xa3,xa4,QT,stS,stL,↓RY,TYX,TYZ,NB,QS,QN])))
  all_goals try exact Ωa
  refine qoO (tp:=id+6) (tb:=id+5) (sid:=sid) (n:=i) (row:=sr) (sp:=n1+6) (a0:=.arr false false m 1 (fun i _=>.val (.int .i64 (u i)))) (a2:=.vec (id+14) 0 1) (a3:=.vec rid i 1) (a4:=.mp (id+3)) (b0:=.val (.int .i64 (qH u m (i:Nat) 0 0))) (b1:=.val (.int .i64 (qH u m (i:Nat) 0 1))) (b2:=.val (.int .i64 (qH u m (i:Nat) 0 2))) (b3:=.val (.int .i64 (qH u m (i:Nat) 0 3))) (b4:=.val (.int .i64 (qH u m (i:Nat) 0 4))) Ω3 ΩI ΩI ΩI Ω Ω (one5 _ _ _ _ _) Ω3 ΩN Ω fun fr' hfr=>⟨⟨[(1,.ptr id 0),(3,.ptr (id+6) 0),(5,.val (.int .i64 (i:Nat))),(6,.ptr (n1+6) 0),(20,.val (.int .i64 (N:Nat))),(21,.val (.int .i64 (i:Nat)))],(n1+6,.cells 140 (stL (qH u m (i:Nat) 0))) ::(n1+48,.rows 140 5 (i+1) (fun a b=>if a<i then sr a b else [SV.val (.int .i64 (qH u m (i:Nat) 0 0)),.val (.int .i64 (qH u m (i:Nat) 0 1)),.val (.int .i64 (qH u m (i:Nat) 0 2)),.val (.int .i64 (qH u m (i:Nat) 0 3)),.val (.int .i64 (qH u m (i:Nat) 0 4))].getD ((a - i)*5+b) .top)) ::(rid,.rows 3 1 i rr) ::(id+14,.rows 22 1 0 (fun _ _=>.top)) ::(id+6,.cells 136 [.ptr (id+5) 0]) ::(id+5,.cells 253 [.arr false false m 1 (fun i _=>.val (.int .i64 (u i))),.vec (n1+48) (i+1) 5,.vec (id+14) 0 1,.vec rid i 1,.mp (id+3)]) ::(id+3,.map kfP (dM u m i) (gM u m i)) ::(id,.cells 24 [.arr false false m 1 (fun i _=>.val (.int .i64 (u i)))]) :: rest,n1+99⟩,qf (xa5 _) ?hB ?hC,?hD⟩
  case hB=>simp[qM,hfr,FS,nth,dsts,Ke,Go.Sx.look]
  case hC=>simp only[setBlk,dropBlk,NB,hdr1,ka,kb,xb1,xb2,xa1,xa2,if_false,if_true];(intro q v hv;simp only[blk]at hv ⊢;((repeat' split at hv)<;>(repeat' split)<;>first|exact hv|(exfalso;omega)|cases hv|(exfalso;have:=hr _ _ hv;omega)))
  (repeat' (first|refine sD ?_ ?_<;>intro _|refine aAi ?_|(simp -dsimp only[↓RP,RQ,xa0,reduceIte,reduceCtorEq,xa1,xa2,xa3,xa4,stL,↓RY,TYX,TYZ,NB,QS,QT,QN])))
  all_goals try exact Ωa
  refine qoP (tp:=id+6) (tb:=id+5) (sid:=rid) (n:=i) (row:=rr) (a0:=.arr false false m 1 (fun i _=>.val (.int .i64 (u i)))) (a1:=.vec (n1+48) (i+1) 5) (a2:=.vec (id+14) 0 1) (a4:=.mp (id+3)) Ω3 ΩI ΩI ΩI Ω Ω (one1 _) fun fr' hfr=>⟨⟨[(1,.ptr id 0),(3,.ptr (id+6) 0),(5,.val (.int .i64 (i:Nat))),(6,.ptr (n1+6) 0),(20,.val (.int .i64 (N:Nat))),(21,.val (.int .i64 (i:Nat)))],(n1+6,.cells 140 (stL (qH u m (i:Nat) 0))) ::((n1+48),.rows 140 5 (i+1) ((fun a b=>if a<i then sr a b else [SV.val (.int .i64 (qH u m (i:Nat) 0 0)),.val (.int .i64 (qH u m (i:Nat) 0 1)),.val (.int .i64 (qH u m (i:Nat) 0 2)),.val (.int .i64 (qH u m (i:Nat) 0 3)),.val (.int .i64 (qH u m (i:Nat) 0 4))].getD ((a - i)*5+b) .top))) ::((n1+139),.rows 3 1 (i+1) ((fun a b=>if a<i then rr a b else [SV.val (.int .i64 (-1))].getD (a - i+b) .top))) ::(id+14,.rows 22 1 0 (fun _ _=>.top)) ::(id+6,.cells 136 [.ptr (id+5) 0]) ::(id+5,.cells 253 [.arr false false m 1 (fun i _=>.val (.int .i64 (u i))),.vec (n1+48) (i+1) 5,.vec (id+14) 0 1,.vec (n1+139) (i+1) 1,.mp (id+3)]) ::(id+3,.map kfP (dM u m i) (gM u m i)) ::(id,.cells 24 [.arr false false m 1 (fun i _=>.val (.int .i64 (u i)))]) :: rest,n1+189⟩,qf (xa5 _) ?hB2 ?hC2,?hD2⟩
  case hB2=>simp[qM,hfr,FS,nth,dsts,GF,Go.Sx.look]
  case hC2=>simp only[setBlk,dropBlk,NB,hdr2,ka,kb,xb1,xb2,xa1,xa2,if_false,if_true];(intro q v hv;simp only[blk]at hv ⊢;((repeat' split at hv)<;>(repeat' split)<;>first|exact hv|(exfalso;omega)|cases hv|(exfalso;have:=hr _ _ hv;omega)))
  (repeat' (first|refine sD ?_ ?_<;>intro _|refine aAi ?_|(simp -dsimp only[↓RP,RQ,xa0,reduceIte,reduceCtorEq,xa1,xa2,xa3,xa4,stL,↓RY,TYX,TYZ,NB,QS,QT,QN])))
  all_goals try exact Ωa
  refine⟨(i+1,_,n1+48,(fun a b=>if a<i then sr a b else [SV.val (.int .i64 (qH u m (i:Nat) 0 0)),.val (.int .i64 (qH u m (i:Nat) 0 1)),.val (.int .i64 (qH u m (i:Nat) 0 2)),.val (.int .i64 (qH u m (i:Nat) 0 3)),.val (.int .i64 (qH u m (i:Nat) 0 4))].getD ((a - i)*5+b) .top),n1+139,(fun a b=>if a<i then rr a b else [SV.val (.int .i64 (-1))].getD (a - i+b) .top)),⟨hiN,?g1,?g2,?g3,?g4,?g5,?g6⟩,Ωf,qf (xa5 _) Ωg ?hE⟩
  case g1=>dsimp only;omega
  case g2=>dsimp only;omega
  case g3=>dsimp only;omega
  case g4=>dsimp only;omega
  case g5=>
   intro j hj c hc;dsimp only at hj ⊢;by_cases e:j<i
   ·rw[if_pos e];exact hsw j e c hc
   ·obtain rfl:j=i:=by omega
    rw[if_neg e,xb8,Nat.zero_mul,xb0];rcases(Ω:c=0∨c=1∨c=2∨c=3∨c=4)with rfl|rfl|rfl|rfl|rfl<;>rfl
  case g6=>
   intro j hj;dsimp only at hj ⊢;by_cases e:j<i
   ·rw[if_pos e];exact hrv j e
   ·obtain rfl:j=i:=by omega
    rw[if_neg e,xb8];rfl
  case hE=>(intro q v hv;simp only[blk]at hv ⊢;((repeat' split at hv)<;>(repeat' split)<;>first|exact hv|(exfalso;omega)|cases hv|(exfalso;have:=hr _ _ hv;omega)))
 obtain rfl:N=i:=by omega
 have hlt:=decide_eq_false (Ω:¬((N:Nat):Int)<(N:Nat));have NB:=(⟨nmA (Ω:id<n1),nmA (Ω:id+3<n1),nmA (Ω:id+5<n1),nmA (Ω:id+6<n1),nmA (Ω:id+14<n1),nmA (Ω:sid<n1),nmA (Ω:rid<n1),nmE (Ω:id≠sid),nmE (Ω:id≠rid),nmE (Ω:id+3≠sid),nmE (Ω:id+3≠rid),nmE (Ω:id+5≠sid),nmE (Ω:id+5≠rid),nmE (Ω:id+6≠sid),nmE (Ω:id+6≠rid),nmE (Ω:id+14≠sid),nmE (Ω:id+14≠rid),nmE (Ω:sid≠rid)⟩:_∧_∧_∧_∧_∧_∧_∧_∧_∧_∧_∧_∧_∧_∧_∧_∧_∧_);(repeat' (first|refine sD ?_ ?_<;>intro _|refine aAi ?_|(simp -dsimp only[↓RP,RQ,xa0,reduceIte,reduceCtorEq,xa1,xa2,xa3,xa4,hlt,↓RY,TYX,TYZ,NB,QS,QT,QN])))
 all_goals try exact Ωa
 refine qj (fun(z:Nat×Nat×Nat×(Nat→Nat→SV)×List (Nat×Blk))=>NI u m N id sid rid n1 z.1 z.2.1 z.2.2.1 z.2.2.2.1 z.2.2.2.2) (fun z=>⟨[(1,.ptr id 0),(3,.ptr (id+6) 0),(57,.vec sid N 5),(58,.val (.int .i64 (N:Nat))),(59,.val (.int .i64 (z.1:Nat)))],(z.2.2.1,.rows 22 1 (z.1) (z.2.2.2.1)) ::(sid,.rows 140 5 N sr) ::(rid,.rows 3 1 N rr) ::(id+6,.cells 136 [.ptr (id+5) 0]) ::(id+5,.cells 253 [.arr false false m 1 (fun i _=>.val (.int .i64 (u i))),.vec sid N 5,.vec (z.2.2.1) (z.1) 1,.vec rid N 1,.mp (id+3)]) ::(id+3,.map kfP (dM u m N) (gM u m N)) ::(id,.cells 24 [.arr false false m 1 (fun i _=>.val (.int .i64 (u i)))]) :: z.2.2.2.2,z.2.1⟩) (fun z=>N - z.1) (0,_,id+14,fun _ _=>.top,rest) ⟨xb6 _,Ωf,Ωf,Ωf,Ωf,Ωf,fun q v hv=>(by have:=hr _ _ hv;dsimp only;omega),fun j hj=>(by cases hj)⟩ (qf (xa5 _) Ωg ?hF) fun z hz=>?_
 case hF=>(intro q v hv;simp only[blk]at hv ⊢;((repeat' split at hv)<;>(repeat' split)<;>first|exact hv|(exfalso;omega)|cases hv|(exfalso;have:=hr _ _ hv;omega)))
 obtain⟨i,n2,xid,nx,R⟩:=z;have hz':NI u m N id sid rid n1 i n2 xid nx R:=hz;obtain⟨g1,g2,g3,g4,g5,g6,g7,g8⟩:=hz';clear NB;dsimp only;by_cases hiN:i<N
 ·have hlt:=decide_eq_true (Ω:((i:Nat):Int)<(N:Nat))
  have e0:=hsw i hiN 0 Ω;have e1:=hsw i hiN 1 Ω;have e2:=hsw i hiN 2 Ω;have e3:=hsw i hiN 3 Ω;have e4:=hsw i hiN 4 Ω;obtain⟨s,hs⟩:∃s,s=qH u m (i:Nat) 0:=⟨_,rfl⟩;rw[←hs]at e0 e1 e2 e3 e4;have NB:=(⟨nmA (Ω:id<n2),nmA (Ω:id+3<n2),nmA (Ω:id+5<n2),nmA (Ω:id+6<n2),nmA (Ω:xid<n2),nmA (Ω:sid<n2),nmA (Ω:rid<n2),nmE (Ω:id≠xid),nmE (Ω:id≠sid),nmE (Ω:id≠rid),nmE (Ω:id+3≠xid),nmE (Ω:id+3≠sid),nmE (Ω:id+3≠rid),nmE (Ω:id+5≠xid),nmE (Ω:id+5≠sid),nmE (Ω:id+5≠rid),nmE (Ω:id+6≠xid),nmE (Ω:id+6≠sid),nmE (Ω:id+6≠rid),nmE (Ω:xid≠sid),nmE (Ω:xid≠rid),nmE (Ω:sid≠rid)⟩:_∧_∧_∧_∧_∧_∧_∧_∧_∧_∧_∧_∧_∧_∧_∧_∧_∧_∧_∧_∧_∧_);have hRn:∀q,n2≤q→blk R q=none:=fun q hq=>by
   cases hb:blk R q with
   |none=>rfl
   |some v=>have:=g7 q v hb;omega
  (repeat' (first|refine sD ?_ ?_<;>intro _|refine aAi ?_|(simp -dsimp only[↓RP,RQ,xa0,reduceIte,reduceCtorEq,xa1,xa2,xa3,xa4,hlt,e0,e1,e2,e3,e4,↓RY,TYX,TYZ,NB,QS,QT,QN])))
  all_goals try exact Ωa
  have hsb:∀w,w<m→0≤s w∧s w≤u w:=fun w hw=>by
   have hh:=(qcT m (fun i hi=>(hu i hi).1) (i:Nat) Ω (by rw[hN];omega)).2 w hw;rw[hs];unfold qH;rw[if_neg Ω];exact hh
  have hg160:∀w:Nat,w<m→qb Tryz.prog 160 (.val (.int .i64 (w:Nat)) :: []) (B ((fun _=>true) w)):=fun w _=>qoK w;by_cases hp:okP (fun _=>true) s u m
  ·have h77:=qnS m u s 160 [] (fun _=>true) hm5 hsb (fun i hi=>(hu i hi).2) (by simp[OldL]) hg160 hp
   obtain⟨s2,hs2⟩:∃s2,s2=plW (fun _=>true) s m:=⟨_,rfl⟩;rw[←hs2]at h77;refine qi h77 (by simp only[SubL,and_true];exact⟨ku _ (by simp[Old,OldL,stS,stL]),ku _ (by simp[Old,OldL,hsv]),by simp[Go.Sx.Sub,SubL]⟩) (by simp[Fresh,FreshL,stS,stL,B]) ?_;(repeat' (first|refine sD ?_ ?_<;>intro _|refine aAi ?_|(simp -dsimp only[↓RP,RQ,xa0,reduceIte,reduceCtorEq,xa1,xa2,xa3,xa4,stS,stL,↓RY,TYX,TYZ,NB,QS,QT,QN])))
   all_goals try exact Ωa
   refine qnC follows (by rfl) Tryz.func161 rfl Ωb Ωb (by rw[Tryz.ntmps161];simp) fun out=>?_;(repeat' (first|refine sD ?_ ?_<;>intro _|refine aAi ?_|(simp -dsimp only[↓RP,RQ,xa0,reduceIte,reduceCtorEq,xa1,xa2,xa3,xa4,stS,stL,↓RY,TYX,TYZ,NB,QS,QT,QN])))
   all_goals try exact Ωa
   refine qjS follows (gf:=277) (by rfl) Tryz.func277 rfl Ωb Ωb (by rfl) (by rw[Tryz.ntmps277];simp) fun out2 L RO=>?_;(repeat' (first|refine sD ?_ ?_<;>intro _|refine aAi ?_|(simp -dsimp only[↓RP,RQ,xa0,reduceIte,reduceCtorEq,xa1,xa2,xa3,xa4,stS,stL,↓RY,TYX,TYZ,NB,QS,QT,QN])))
   all_goals try exact Ωa
   have hnx:nxL u m i=(List.range m).map (fun v=>(ixF u (upN (fun w=>dgF u m i w+1) v 0) m).toNat):=by
    unfold nxL;rw[if_pos];intro w hw;have h1:=hp w hw rfl;rw[hs]at h1;unfold qH at h1;rw[if_neg Ω]at h1;exact h1
   have hs2w:∀w,w<m→s2 w=s w+1:=fun w hw=>by rw[hs2];unfold plW;rw[if_pos ⟨hw,rfl⟩]
   have hix:∀k:Nat,k<m→ixF u (upN s2 k 0) m=((nxL u m i).getD k 0:Nat)∧(nxL u m i).getD k 0≤1000:=fun k hk=>by
    have e:(nxL u m i).getD k 0=(ixF u (upN (fun w=>dgF u m i w+1) k 0) m).toNat:=by
     rw[hnx,xc6,List.getElem?_map,xe3 hk];rfl
    have e2:ixF u (upN s2 k 0) m=ixF u (upN (fun w=>dgF u m i w+1) k 0) m:=ZG m fun w hw=>by
     unfold upN;by_cases c:w=k
     ·rw[if_pos c,if_pos c]
     ·rw[if_neg c,if_neg c,hs2w w hw,hs];unfold qH;rw[if_neg Ω]
    have hb:=vd (u:=u) (s:=upN (fun w=>dgF u m i w+1) k 0) (m:=m) (fun w hw=>by
     have h1:=hp w hw rfl;have h2:=hsb w hw;have h3:s w=dgF u m i w:=by rw[hs];unfold qH;rw[if_neg Ω]
     unfold upN;by_cases c:w=k
     ·simp only[if_pos c];omega
     ·simp only[if_neg c];omega) (xa5 m)
    rw[hN]at hb;rw[e,e2];omega
   have hlen:(nxL u m i).length=m:=by rw[hnx,xe1,List.length_range]
   refine qj (fun(z:Nat×Nat×Nat×(Nat→Nat→SV))=>z.1≤m∧n2+35≤z.2.1∧(n2+34≤z.2.2.1∧z.2.2.1<z.2.1)∧∀j,j<z.1→z.2.2.2 j 0=.val (.int .i64 ((nxL u m i).getD j 0:Nat))) (fun z=>⟨[(0,.yld (n2+26)),(1,.ptr (n2+18) 0),(2,.ptr (n2+19) 0),(10,.val (.int .i64 (m:Nat))),(11,.val (.int .i64 (z.1:Nat)))],(z.2.2.1,.rows 3 1 (z.1) (z.2.2.2)) ::(n2+26,.loop L .ready) ::(n2+19,.cells 140 [.val (.int .i64 (s2 0)),.val (.int .i64 (s2 1)),.val (.int .i64 (s2 2)),.val (.int .i64 (s2 3)),.val (.int .i64 (s2 4))]) ::(n2+18,.cells 136 [.ptr (id+5) 0]) ::(n2+5,.cells 22 [.vec (z.2.2.1) (z.1) 1]) ::(xid,.rows 22 1 (i) (nx)) ::(sid,.rows 140 5 N sr) ::(rid,.rows 3 1 N rr) ::(id+6,.cells 136 [.ptr (id+5) 0]) ::(id+5,.cells 253 [.arr false false m 1 (fun i _=>.val (.int .i64 (u i))),.vec sid N 5,.vec (xid) (i) 1,.vec rid N 1,.mp (id+3)]) ::(id+3,.map kfP (dM u m N) (gM u m N)) ::(id,.cells 24 [.arr false false m 1 (fun i _=>.val (.int .i64 (u i)))]) :: R,z.2.1⟩) (fun z=>m - z.1) (0,n2+35,n2+34,fun _ _=>.top) ⟨xb6 _,xa5 _,Ωf,fun j hj=>(by cases hj)⟩ (Weak.trans (wY (t:=22) (l:=[.val (.slice none 0 0)]) (b:=n2+5) (i:=0) (k:=1) (te:=3) (fun _ _=>.top) ΩN rfl) (qf Ωf Ωg ?hG)) fun z hz=>?_
   case hG=>((repeat' (refine SubHp.ent (by simp only[blk,NB,ka,kb,xa2,xb1,xb2,xa1,List.set,if_false,if_true]) ?_));exact fun q v hv=>ΩD)
   obtain⟨k,n3,wid,wr⟩:=z;obtain⟨q1,q2,⟨q3,q4⟩,q5⟩:=hz;dsimp only at q1 q2 q3 q4 q5 ⊢;have NB2:=NB;clear NB;have NB:=(⟨nmA (Ω:id<n3),nmA (Ω:id+3<n3),nmA (Ω:id+5<n3),nmA (Ω:id+6<n3),nmA (Ω:n2+5<n3),nmA (Ω:n2+18<n3),nmA (Ω:n2+19<n3),nmA (Ω:n2+26<n3),nmA (Ω:xid<n3),nmA (Ω:sid<n3),nmA (Ω:rid<n3),nmA (Ω:wid<n3),nmE (Ω:id≠xid),nmE (Ω:id≠sid),nmE (Ω:id≠rid),nmE (Ω:id≠wid),nmE (Ω:id+3≠xid),nmE (Ω:id+3≠sid),nmE (Ω:id+3≠rid),nmE (Ω:id+3≠wid),nmE (Ω:id+5≠xid),nmE (Ω:id+5≠sid),nmE (Ω:id+5≠rid),nmE (Ω:id+5≠wid),nmE (Ω:id+6≠xid),nmE (Ω:id+6≠sid),nmE (Ω:id+6≠rid),nmE (Ω:id+6≠wid),nmE (Ω:n2+5≠xid),nmE (Ω:n2+5≠sid),nmE (Ω:n2+5≠rid),nmE (Ω:n2+5≠wid),nmE (Ω:n2+18≠xid),nmE (Ω:n2+18≠sid),nmE (Ω:n2+18≠rid),nmE (Ω:n2+18≠wid),nmE (Ω:n2+19≠xid),nmE (Ω:n2+19≠sid),nmE (Ω:n2+19≠rid),nmE (Ω:n2+19≠wid),nmE (Ω:n2+26≠xid),nmE (Ω:n2+26≠sid),nmE (Ω:n2+26≠rid),nmE (Ω:n2+26≠wid),nmE (Ω:xid≠wid),nmE (Ω:sid≠wid),nmE (Ω:rid≠wid),nmE (Ω:xid≠sid),nmE (Ω:xid≠rid),nmE (Ω:sid≠rid)⟩:_∧_∧_∧_∧_∧_∧_∧_∧_∧_∧_∧_∧_∧_∧_∧_∧_∧_∧_∧_∧_∧_∧_∧_∧_∧_∧_∧_∧_∧_∧_∧_∧_∧_∧_∧_∧_∧_∧_∧_∧_∧_∧_∧_∧_∧_∧_∧_∧_∧_);by_cases hkm:k<m
   ·have hlt2:=decide_eq_true (Ω:((k:Nat):Int)<(m:Nat))
    have h80:=c80 s2 k Ω;(repeat' (first|refine sD ?_ ?_<;>intro _|refine aAi ?_|(simp -dsimp only[↓RP,RQ,xa0,reduceIte,reduceCtorEq,xa1,xa2,xa3,xa4,hlt2,NB2,↓RY,TYX,TYZ,NB,QS,QT,QN])))
    all_goals try exact Ωa
    refine qi h80 (by simp only[SubL,and_true];exact⟨ku _ (by simp[Old,OldL,stS,stL]),by simp[I,Go.Sx.Sub]⟩) (by simp[Fresh,FreshL,stS,stL]) ?_;(repeat' (first|refine sD ?_ ?_<;>intro _|refine aAi ?_|(simp -dsimp only[↓RP,RQ,xa0,reduceIte,reduceCtorEq,xa1,xa2,xa3,xa4,stS,stL,NB2,↓RY,TYX,TYZ,NB,QS,QT,QN])))
    all_goals try exact Ωa
    refine qjR follows (by rfl) RO (by simp[blk,NB,NB2]) (by rfl) fun out5=>?_;(repeat' (first|refine sD ?_ ?_<;>intro _|refine aAi ?_|(simp -dsimp only[↓RP,RQ,xa0,reduceIte,reduceCtorEq,xa1,xa2,xa3,xa4,stS,stL,NB2,↓RY,TYX,TYZ,NB,QS,QT,QN])))
    all_goals try exact Ωa
    have hsk:∀w,w<m→0≤upN s2 k 0 w∧upN s2 k 0 w≤u w:=fun w hw=>by
     have h1:=hp w hw rfl;have h2:=hsb w hw;have h3:=hs2w w hw;unfold upN;by_cases c:w=k
     ·simp only[if_pos c];omega
     ·simp only[if_neg c];omega
    have h162:=qnW m u (upN s2 k 0) hm5 hu hsk;obtain⟨hx1,hx2⟩:=hix k hkm;rw[hx1]at h162;obtain⟨x,hx⟩:∃x,x=(nxL u m i).getD k 0:=⟨_,rfl⟩;rw[←hx]at h162 hx2;refine qi h162 (by simp only[SubL,and_true];exact⟨(by simp only[Go.Sx.Sub,blk,NB,NB2,ka,kb,xa2,if_false,if_true];intro j hj;(obtain rfl:j=0:=by omega);exact⟨by simp[Go.Sx.Sub],Ωi⟩),ku _ (by simp[Old,OldL,stL])⟩) (by simp[Fresh,I]) ?_;(repeat' (first|refine sD ?_ ?_<;>intro _|refine aAi ?_|(simp -dsimp only[↓RP,RQ,xa0,reduceIte,reduceCtorEq,xa1,xa2,xa3,xa4,QT,NB2,↓RY,TYX,TYZ,NB,QS,QN])))
    all_goals try exact Ωa
    refine⟨⟨xa5 _,.inr trivial,Ω⟩,by simp only[InK];omega,(k+1,_,n3+20,fun a b=>if a<k then wr a b else [SV.val (Value.int IntKind.i64 (x:Nat))].getD (a - k+b) SV.top),⟨hkm,?k1,?k2,?k3⟩,Ωf,qf (xa5 _) Ωg ?hI⟩
    case k1=>dsimp only;omega
    case k2=>dsimp only;omega
    case k3=>
     intro j hj;dsimp only at hj ⊢;by_cases e:j<k
     ·rw[if_pos e];exact q5 j e
     ·obtain rfl:j=k:=by omega
      rw[if_neg e,xb8,hx];rfl
    case hI=>((repeat' (refine SubHp.ent (by simp only[blk,NB,NB2,ka,kb,xa2,xb1,xb2,xa1,List.set,if_false,if_true]) ?_));exact fun q v hv=>ΩD)
   ·obtain rfl:m=k:=by omega
    have hlt2:=decide_eq_false (Ω:¬((m:Nat):Int)<(m:Nat));have hdR:dropBlk R (n2+26)=R:=qU (hRn _ Ω);have hdX:dropBlk R xid=R:=qU (by cases hb:blk R xid with|none=>rfl|some v=>(have:=g7 _ v hb;omega));(repeat' (first|refine sD ?_ ?_<;>intro _|refine aAi ?_|(simp -dsimp only[↓RP,RQ,xa0,reduceIte,reduceCtorEq,xa1,xa2,xa3,xa4,hlt2,NB2,hdR,↓RY,TYX,TYZ,NB,QS,QT,QN])))
    all_goals try exact Ωa
    refine qlE (tp:=id+6) (tb:=id+5) (sid:=xid) (n:=i) (row:=nx) (sp:=n2+5) (xi:=wid) (xn:=m) (a0:=.arr false false m 1 (fun i _=>.val (.int .i64 (u i)))) (a1:=.vec sid N 5) (a3:=.vec rid N 1) (a4:=.mp (id+3)) Ω3 (by simp[blk,NB,NB2]) (by simp[blk,NB,NB2]) (by simp[blk,NB,NB2]) Ω Ω (qnX _ _) Ω3 (by simp[blk,NB,NB2]) Ω fun fr' hfr=>⟨⟨[(1,.ptr id 0),(3,.ptr (id+6) 0),(57,.vec sid N 5),(58,.val (.int .i64 (N:Nat))),(59,.val (.int .i64 (i:Nat)))],(((n3+1)+40),.rows 22 1 (i+1) (fun a b=>if a<i then nx a b else [SV.vec wid m 1].getD (a - i+b) .top)) ::(sid,.rows 140 5 N sr) ::(rid,.rows 3 1 N rr) ::(id+6,.cells 136 [.ptr (id+5) 0]) ::(id+5,.cells 253 [.arr false false m 1 (fun i _=>.val (.int .i64 (u i))),.vec sid N 5,.vec (((n3+1)+40)) (i+1) 1,.vec rid N 1,.mp (id+3)]) ::(id+3,.map kfP (dM u m N) (gM u m N)) ::(id,.cells 24 [.arr false false m 1 (fun i _=>.val (.int .i64 (u i)))]) ::(wid,.rows 3 1 m wr) :: R,(n3+1)+80+11⟩,qf (xa5 _) ?hJ1 ?hJ2,?hJ3⟩
    case hJ1=>simp[qM,hfr,FS,nth,dsts,vy,Go.Sx.look]
    case hJ2=>
     simp only[setBlk,dropBlk,NB,NB2,hdX,ka,kb,xb1,xb2,xa1,xa2,if_false,if_true]
     ((repeat' (refine SubHp.ent (by simp only[blk,NB,NB2,ka,kb,xa2,xb1,xb2,xa1,List.set,if_false,if_true]) ?_));exact fun q v hv=>ΩD)
    case hJ3=>
     (repeat' (first|refine sD ?_ ?_<;>intro _|refine aAi ?_|(simp -dsimp only[↓RP,RQ,xa0,reduceIte,reduceCtorEq,xa1,xa2,xa3,xa4,↓RY,TYX,TYZ,NB,QS,QT,QN])))
     all_goals try exact Ωa
     refine⟨(i+1,_,(n3+1)+40,fun a b=>if a<i then nx a b else [SV.vec wid m 1].getD (a - i+b) .top,(wid,.rows 3 1 m wr) :: R),⟨hiN,?y1,?y2,?y3,?y4,?y5,?y6,?y7⟩,Ωf,qf (xa5 _) Ωg (SubHp.refl _)⟩
     case y1=>dsimp only;omega
     case y2=>dsimp only;omega
     case y3=>dsimp only;omega
     case y4=>dsimp only;omega
     case y5=>dsimp only;omega
     case y6=>
      intro q v hv;dsimp only at hv ⊢;simp only[blk]at hv;split at hv
      ·omega
      ·have:=g7 q v hv;omega
     case y7=>
      intro j hj;dsimp only at hj ⊢;by_cases e:j<i
      ·obtain⟨xi,r,h1,h2,h3⟩:=g8 j e
       refine⟨xi,r,by rw[if_pos e];exact h1,?_,h3⟩;simp only[blk];rw[if_neg (by have:=g7 _ _ h2;omega)];exact h2
      ·obtain rfl:j=i:=by omega
       refine⟨wid,wr,?_,?_,fun a ha=>q5 a (by rw[hlen]at ha;exact ha)⟩
       ·rw[if_neg e,hlen,xb8];rfl
       ·simp only[blk,if_true];rw[hlen]
  ·have h77:=qoG m u s 160 [] (fun _=>true) hm5 hsb (fun i hi=>(hu i hi).2) (by simp[OldL]) hg160 hp
   refine qi h77 (by simp only[SubL,and_true];exact⟨ku _ (by simp[Old,OldL,stS,stL]),ku _ (by simp[Old,OldL,hsv]),by simp[Go.Sx.Sub,SubL]⟩) (by simp[Fresh,FreshL,stS,stL,B]) ?_;have hdX:dropBlk R xid=R:=qU (by cases hb:blk R xid with|none=>rfl|some v=>(have:=g7 _ v hb;omega));have hlen:(nxL u m i).length=0:=by
    unfold nxL;rw[if_neg]
    ·rfl
    ·intro hc
     refine hp fun w hw _=>?_;have:=hc w hw;rw[hs];unfold qH;rw[if_neg Ω];exact this
   have q5:∀j,j<0→(fun _ _=>SV.top:Nat→Nat→SV) j 0=.val (.int .i64 ((nxL u m i).getD j 0:Nat)):=fun j hj=>by omega
   (repeat' (first|refine sD ?_ ?_<;>intro _|refine aAi ?_|(simp -dsimp only[↓RP,RQ,xa0,reduceIte,reduceCtorEq,xa1,xa2,xa3,xa4,stS,stL,↓RY,TYX,TYZ,NB,QS,QT,QN])))
   all_goals try exact Ωa
   refine qma (wY (t:=22) (l:=[.val (.slice none 0 0)]) (b:=n2+5) (i:=0) (k:=1) (te:=3) (fun _ _=>.top) ΩI rfl) (g':=.mk) ?_;simp only[List.set];refine qlE (tp:=id+6) (tb:=id+5) (sid:=xid) (n:=i) (row:=nx) (sp:=n2+5) (xi:=(n2+16)) (xn:=0) (a0:=.arr false false m 1 (fun i _=>.val (.int .i64 (u i)))) (a1:=.vec sid N 5) (a3:=.vec rid N 1) (a4:=.mp (id+3)) Ω3 ΩI ΩI ΩI Ω Ω (qnX _ _) Ω3 ΩI Ω fun fr' hfr=>⟨⟨[(1,.ptr id 0),(3,.ptr (id+6) 0),(57,.vec sid N 5),(58,.val (.int .i64 (N:Nat))),(59,.val (.int .i64 (i:Nat)))],(((n2+17)+40),.rows 22 1 (i+1) (fun a b=>if a<i then nx a b else [SV.vec (n2+16) 0 1].getD (a - i+b) .top)) ::(sid,.rows 140 5 N sr) ::(rid,.rows 3 1 N rr) ::(id+6,.cells 136 [.ptr (id+5) 0]) ::(id+5,.cells 253 [.arr false false m 1 (fun i _=>.val (.int .i64 (u i))),.vec sid N 5,.vec (((n2+17)+40)) (i+1) 1,.vec rid N 1,.mp (id+3)]) ::(id+3,.map kfP (dM u m N) (gM u m N)) ::(id,.cells 24 [.arr false false m 1 (fun i _=>.val (.int .i64 (u i)))]) ::((n2+16),.rows 3 1 0 (fun _ _=>.top)) :: R,(n2+17)+80+11⟩,qf (xa5 _) ?hJ1 ?hJ2,?hJ3⟩
   case hJ1=>simp[qM,hfr,FS,nth,dsts,vy,Go.Sx.look]
   case hJ2=>
    simp only[setBlk,dropBlk,NB,hdX,ka,kb,xb1,xb2,xa1,xa2,if_false,if_true]
    ((repeat' (refine SubHp.ent (by simp only[blk,NB,ka,kb,xa2,xb1,xb2,xa1,List.set,if_false,if_true]) ?_));exact fun q v hv=>ΩD)
   case hJ3=>
    (repeat' (first|refine sD ?_ ?_<;>intro _|refine aAi ?_|(simp -dsimp only[↓RP,RQ,xa0,reduceIte,reduceCtorEq,xa1,xa2,xa3,xa4,↓RY,TYX,TYZ,NB,QS,QT,QN])))
    all_goals try exact Ωa
    refine⟨(i+1,_,(n2+17)+40,fun a b=>if a<i then nx a b else [SV.vec (n2+16) 0 1].getD (a - i+b) .top,((n2+16),.rows 3 1 0 (fun _ _=>.top)) :: R),⟨hiN,?y1,?y2,?y3,?y4,?y5,?y6,?y7⟩,Ωf,qf (xa5 _) Ωg (SubHp.refl _)⟩
    case y1=>dsimp only;omega
    case y2=>dsimp only;omega
    case y3=>dsimp only;omega
    case y4=>dsimp only;omega
    case y5=>dsimp only;omega
    case y6=>
     intro q v hv;dsimp only at hv ⊢;simp only[blk]at hv;split at hv
     ·omega
     ·have:=g7 q v hv;omega
    case y7=>
     intro j hj;dsimp only at hj ⊢;by_cases e:j<i
     ·obtain⟨xi,r,h1,h2,h3⟩:=g8 j e
      refine⟨xi,r,by rw[if_pos e];exact h1,?_,h3⟩;simp only[blk];rw[if_neg (by have:=g7 _ _ h2;omega)];exact h2
     ·obtain rfl:j=i:=by omega
      refine⟨(n2+16),(fun _ _=>.top),?_,?_,fun a ha=>q5 a (by rw[hlen]at ha;exact ha)⟩
      ·rw[if_neg e,hlen,xb8];rfl
      ·simp only[blk,if_true];rw[hlen]
 obtain rfl:N=i:=by omega
 have hlt:=decide_eq_false (Ω:¬((N:Nat):Int)<(N:Nat));have NB:=(⟨nmA (Ω:id<n2),nmA (Ω:id+3<n2),nmA (Ω:id+5<n2),nmA (Ω:id+6<n2),nmA (Ω:xid<n2),nmA (Ω:sid<n2),nmA (Ω:rid<n2),nmE (Ω:id≠xid),nmE (Ω:id≠sid),nmE (Ω:id≠rid),nmE (Ω:id+3≠xid),nmE (Ω:id+3≠sid),nmE (Ω:id+3≠rid),nmE (Ω:id+5≠xid),nmE (Ω:id+5≠sid),nmE (Ω:id+5≠rid),nmE (Ω:id+6≠xid),nmE (Ω:id+6≠sid),nmE (Ω:id+6≠rid),nmE (Ω:xid≠sid),nmE (Ω:xid≠rid),nmE (Ω:sid≠rid)⟩:_∧_∧_∧_∧_∧_∧_∧_∧_∧_∧_∧_∧_∧_∧_∧_∧_∧_∧_∧_∧_∧_);(repeat' (first|refine sD ?_ ?_<;>intro _|refine aAi ?_|(simp -dsimp only[↓RP,RQ,xa0,reduceIte,reduceCtorEq,xa1,xa2,xa3,xa4,hlt,↓RY,TYX,TYZ,NB,QS,QT,QN])))
 all_goals try exact Ωa
 have hRn:∀q,n2≤q→blk R q=none:=fun q hq=>by
  cases hb:blk R q with
  |none=>rfl
  |some v=>have:=g7 q v hb;omega
 refine jS (by rfl) (EffVC.sub (hp2:=(rid,.rows 3 1 N rr) ::(id+3,.map kfP (dM u m N) (gM u m N)) ::(id+5,.cells 253 [.arr false false m 1 (fun i _=>.val (.int .i64 (u i))),.vec sid N 5,.vec xid N 1,.vec rid N 1,.mp (id+3)]) ::(xid,.rows 22 1 N nx) ::(sid,.rows 140 5 N sr) ::(id+6,.cells 136 [.ptr (id+5) 0]) ::(id,.cells 24 [.arr false false m 1 (fun i _=>.val (.int .i64 (u i)))]) :: R) ?hK (qnV N (fun i=>(nxL u m i).length) (fun i j=>(nxL u m i).getD j 0) F (dM u m N) (gM u m N) (.arr false false m 1 (fun i _=>.val (.int .i64 (u i)))) (.vec sid N 5) nx rr ((sid,.rows 140 5 N sr) ::(id+6,.cells 136 [.ptr (id+5) 0]) ::(id,.cells 24 [.arr false false m 1 (fun i _=>.val (.int .i64 (u i)))]) :: R) (n2+2) (id+5) xid rid (id+3) ?hHl hrv)) fun hp' nid' res hQ=>?_
 case hK=>((repeat' (refine SubHp.ent Ωq ?_));exact fun q v hv=>ΩD)
 case hHl=>
  refine⟨hFx,Ω,fun i hi=>by have:=We u m i;omega,fun v hv=>?_,fun v v' hv hv' e=>?_,fun i hi=>⟨kp (qH u m (i:Nat) 0) i,(ZH u m _ N).2 ⟨i,hi,rfl⟩,rfl⟩,fun i hi=>?_,Ω,Ω,Ω,Ω,Ω,Ω,Ω,Ω,Ω,Ω,fun q v hv=>?_⟩
  ·obtain⟨i,h1,h2⟩:=(ZH u m v N).1 hv
   exact⟨_,i,h1,h2⟩
  ·obtain⟨i,h1,rfl⟩:=(ZH u m v N).1 hv
   obtain⟨j,h3,rfl⟩:=(ZH u m v' N).1 hv';rw[gW,gW]at e;rw[e]
  ·obtain⟨xi,r,h1,h2,h3⟩:=g8 i hi
   have hx:=g7 _ _ h2;refine .inr ⟨xi,r,h1,?_,Ω,h3⟩;simp only[blk];rw[if_neg Ω,if_neg Ω,if_neg Ω];exact h2
  ·simp only[blk]at hv
   split at hv
   ·omega
   ·split at hv
    ·omega
    ·split at hv
     ·omega
     ·have:=g7 q v hv;omega
 obtain⟨hn',rfl,row,hrow,rfl⟩:=hQ;(repeat' (first|refine sD ?_ ?_<;>intro _|refine aAi ?_|(simp -dsimp only[↓RP,RQ,xa0,reduceIte,reduceCtorEq,xa1,xa2,xa3,xa4,↓RY,TYX,TYZ,NB,QS,QT,QN])))
 all_goals try exact Ωa
 refine⟨_,nid'+4+(n2+2),_,qf Ω ⟨.inr rfl,trivial⟩ (SubHp.refl _),id+5,sid,xid,rid,id+3,nx,fun v=>dM u m N v&&decide (F (zG v)<0),gM u m N,rfl,Ω,⟨Ω,fun i hi=>by have:=We u m i;omega,fun i hi a ha=>?_,by simp[blk,NB],by simp[blk,NB],fun i hi=>?_,fun q v hv=>?_⟩,by simp[blk,NB],fun v hv=>?_,fun i hi=>?_⟩
 ·obtain⟨j,hj,rfl⟩:=List.getElem_of_mem ha
  have:=hFx.inn i j hi hj;rw[xc6,xc7 hj]at this;exact this
 ·obtain⟨xi,r,h1,h2,h3⟩:=g8 i hi
  have hx:=g7 _ _ h2;refine .inr ⟨xi,r,h1,?_,h3⟩;simp only[blk]
  (repeat rw[if_neg Ω])
  exact h2
 ·simp only[blk]at hv
  by_cases c:q<n2
  ·omega
  ·exfalso
   (repeat rw[if_neg Ω]at hv)
   have:=g7 q v hv;omega
 ·simp only[xe6]at hv
  exact⟨1,qhP u m v N hv.1⟩
 ·dsimp only
  rw[(ZH u m _ N).2 ⟨i,hi,rfl⟩,gW,xf0]
end Go.Tn
end
