/- A part of the proof. -/
import Derived.Test.YtacejomniokahaaGreatProg
import Derived.Test.YtacejomniokahaaGreatPC
open Nat renaming reduceMul→xa0,reduceAdd→xa1,reduceEqDiff→xa2,reduceLT→xa3,reduceLeDiff→xa4,le_refl→xa5,eq_of_beq_eq_true→xa6,le_of_ble_eq_true→xa7,mul_le_mul_right→xa8,zero_add→xb0,add_zero→xb1,add_assoc→xb2,lt_irrefl→xb4,zero_le→xb6,add_sub_cancel_left→xb7,sub_self→xb8,le_of_lt→xb9,le_trans→xc1,add_comm→xc5
open List renaming getD_eq_getElem?_getD→xc6,getElem?_eq_getElem→xc7,length_append→xc8,getElem?_append_left→xc9,getElem?_append_right→xd0,getElem?_cons_succ→xd7,length_replicate→xd8,length_take→xd9,getElem?_range→xe3,length_cons→xe4,length_set→xe5
open Bool renaming and_eq_true→xe6,false_eq_true→xe7,true_and→xf0,false_or→xf4
open Classical renaming byContradiction→xf9
set_option linter.unusedVariables false
set_option linter.unusedSimpArgs false
set_option linter.defProp false
set_option linter.constructorNameAsVariable false
set_option maxRecDepth 1000000
set_option maxHeartbeats 16000000
section
namespace Go.Tl
open Go.Proofs
open Go.Sx
theorem follows:Tryz.prog.follows .mixedOrders=true:=by kernel_rfl
theorem TYl:qn Tryz.prog 2=some { agg:=false,size:=1,zero:=some [Value.int IntKind.i64 (0)],d:=D.int IntKind.i64 }∧qn Tryz.prog 3=some { agg:=false,size:=1,zero:=some [Value.int IntKind.i64 (0)],d:=D.int IntKind.i64 }∧qn Tryz.prog 4=some { agg:=false,size:=1,zero:=some [Value.bool false],d:=D.bool }∧qn Tryz.prog 32=some { agg:=false,size:=1,zero:=some [Value.slice none 0 0],d:=D.slice 2 1 }∧qn Tryz.prog 43=some { agg:=false,size:=1,zero:=some [Value.slice none 0 0],d:=D.slice 32 1 }:=⟨Ωa,Ωa,Ωa,Ωa,Ωa⟩
theorem by2:qL Tryz.prog 2=8:=by kernel_rfl
def I(n:Int):SV:=.val (.int .i64 n)
def ints(n:Nat)(u:Nat→Int):SV:=.arr false false n 1 (λi _=>.val (.int .i64 (u i)))
theorem vC{a b:Int}(h:a=b):SV.val (Value.int IntKind.i64 a)=SV.val (Value.int IntKind.i64 b):=by rw[h]
def qS(f:Nat→Int):Nat→Int
 |0=>f 0
 |k+1=>min (qS f k) (f (k+1))
theorem Qr(f:Nat→Int):∀m k,k≤m→qS f m≤f k
 |0,k,h=>by
   have:k=0:=by omega
   subst this;exact Int.le_refl _
 |m+1,k,h=>by
  simp only[qS];by_cases e:k=m+1
  ·subst e;omega
  ·have:=Qr f m k Ω;omega
theorem j6(f:Nat→Int):∀m,∃k,k≤m∧qS f m=f k
 |0=>⟨0,xa5 _,rfl⟩
 |m+1=>by
  obtain⟨k,hk,e⟩:=j6 f m;simp only[qS];by_cases h:f (m+1)≤qS f m
  ·exact⟨m+1,xa5 _,Ω⟩
  ·exact⟨k,Ω,Ω⟩
theorem qbj(f:Nat→Int)(m:Nat)(c:Int)(h:∀k,k≤m→c≤f k):c≤qS f m:=by
 obtain⟨k,hk,e⟩:=j6 f m;rw[e];exact h k hk
theorem Qc(f g:Nat→Int):∀m,(∀k,k≤m→f k=g k)→qS f m=qS g m
 |0,h=>h 0 (xa5 _)
 |m+1,h=>by
  simp only[qS];rw[Qc f g m (λk hk=>h k Ω),h (m+1) (xa5 _)]
structure Curve where
 m:Nat
 u:Nat→Int
structure Curve.Fine(c:Curve):Prop where
 m1:1≤c.m
 m6:c.m≤6
 rg:∀i,i<c.m→0≤c.u i∧c.u i≤100
 up:∀i,i<c.m - 1→c.u i≤c.u (i+1)
theorem Curve.Fine.mono{c:Curve}(h:c.Fine):∀j i,i≤j→j<c.m→c.u i≤c.u j
 |0,i,hi,_=>by
   have:i=0:=by omega
   subst this;exact Int.le_refl _
 |j+1,i,hi,hj=>by
  by_cases e:i=j+1
  ·subst e;exact Int.le_refl _
  ·exact Int.le_trans (h.mono j i Ω Ω) (h.up j Ω)
def Curve.L1(c:Curve)(k:Nat):Int:=((k / c.m:Nat):Int)*c.u (c.m - 1)+(if 0<k % c.m then c.u (k % c.m - 1)else 0)
theorem qkp(c:Curve):c.L1 0=0:=by unfold Curve.L1;simp
def Ls(C:Nat→Curve):Nat→Nat→Int
 |0=>(C 0).L1
 |i+1=>λk=>qS (λp=>Ls C i (k - p)+(C (i+1)).L1 p) k
theorem Ls_le(C:Nat→Curve)(i k p:Nat)(hp:p≤k):Ls C (i+1) k≤Ls C i (k - p)+(C (i+1)).L1 p:=
 Qr (λp=>Ls C i (k - p)+(C (i+1)).L1 p) k p hp
theorem Ls_at(C:Nat→Curve)(i k:Nat):∃p,p≤k∧Ls C (i+1) k=Ls C i (k - p)+(C (i+1)).L1 p:=
 j6 (λp=>Ls C i (k - p)+(C (i+1)).L1 p) k
def Curve.sv(c:Curve):SV:=ints c.m c.u
theorem Curve.old(c:Curve):Old c.sv:=by simp[Old,Curve.sv,ints]
theorem tdN(k m:Nat):(k:Int).tdiv (m:Int)=((k / m:Nat):Int):=rfl
theorem tmN(k m:Nat):(k:Int).tmod (m:Int)=((k % m:Nat):Int):=rfl
theorem qlY(c:Curve)(h:c.Fine)(k:Nat)(hk:k≤400):0≤((k / c.m:Nat):Int)*c.u (c.m - 1)∧((k / c.m:Nat):Int)*c.u (c.m - 1)≤40000:=by
 have h1:=h.m1;have h2:=h.rg (c.m - 1) Ω;have h3:k / c.m≤400:=xc1 (Nat.div_le_self _ _) hk;generalize k / c.m=q at h3 ⊢;have h4:((q:Nat):Int)*c.u (c.m - 1)≤((q:Nat):Int)*100:=Int.mul_le_mul_of_nonneg_left h2.2 Ω;have h5:0≤(q:Int)*c.u (c.m - 1):=Int.mul_nonneg Ω h2.1;omega
theorem qom(c:Curve)(h:c.Fine)(k:Nat)(hk:k≤400):qc Tryz.prog 172 [c.sv,I k] (I (c.L1 k)):=by
 refine qh Tryz.func172 rfl Ωa follows Ωa _ _ (by rw[Tryz.ntmps172];simp) (by simp[OldL,c.old];simp[Old,I]) ?_;have h1:=h.m1;have h6:=h.m6;have hb:=qlY c h k hk;have e1:(c.m:Int) - 1=((c.m - 1:Nat):Int):=by omega
 have hr:=Nat.mod_lt k h1;have hq:k / c.m≤400:=xc1 (Nat.div_le_self _ _) hk;have eL:c.L1 k=((k / c.m:Nat):Int)*c.u (c.m - 1)+(if 0<k % c.m then c.u (k % c.m - 1)else 0):=rfl;rw[eL];have hd:=tdN k c.m;have hm:=tmN k c.m;generalize k / c.m=q at *;generalize k % c.m=r at *;unfold I
 conv=>arg 4;unfold Curve.sv ints
 by_cases h0:0<r
 ·have e2:(r:Int) - 1=((r - 1:Nat):Int):=by omega
  have hu:=h.rg (r - 1) Ω;rw[if_pos h0];(repeat' (first|refine sD ?_ ?_<;>intro _|refine aA ?_|simp -dsimp only[↓RP,RQ,seval,e1,e2,hd,hm,TYl,Int.toNat_natCast,Tryz.results172]))
  all_goals first|(exfalso;omega)|(first|exact True.intro|(simp only[InK];omega)|omega|(simp only[InK,ne_eq,and_true,true_and];omega)|trivial)|skip
 ·rw[if_neg h0]
  (repeat' (first|refine sD ?_ ?_<;>intro _|refine aA ?_|simp -dsimp only[↓RP,RQ,seval,e1,hd,hm,TYl,Int.toNat_natCast,Tryz.results172]))
  all_goals first|(exfalso;omega)|(refine vC ?_;omega)|(first|exact True.intro|(simp only[InK];omega)|omega|(simp only[InK,ne_eq,and_true,true_and];omega)|trivial)|skip
def chn(n:Nat)(C:Nat→Curve):SV:=.arr false false n 1 (λi _=>.arr false false (C i).m 1 (λj _=>.val (.int .i64 ((C i).u j))))
theorem qcD(n:Nat)(C:Nat→Curve):Old (chn n C):=by simp[Old,chn]
theorem Q2(c:Curve)(h:c.Fine)(k:Nat)(hk:k≤400):0≤c.L1 k∧c.L1 k≤50000:=by
 have hb:=qlY c h k hk;have h1:=h.m1;have hr:=Nat.mod_lt k h1;unfold Curve.L1;split
 ·have:=h.rg (k % c.m - 1) Ω;omega
 ·omega
theorem Ym(C:Nat→Curve):∀i,(∀j,j≤i→(C j).Fine)→∀k,k≤400→0≤Ls C i k∧Ls C i k≤50000
 |0,h,k,hk=>Q2 _ (h 0 Ω) k hk
 |i+1,h,k,hk=>by
  obtain⟨p,hp,e⟩:=Ls_at C i k;have h1:=Ym C i (λj hj=>h j Ω);have h2:=Ls_le C i k 0 (xb6 _);rw[qkp,Nat.sub_zero]at h2;have h3:=h1 (k - p) Ω;have h4:=h1 k hk;have h5:=Q2 _ (h (i+1) Ω) p Ω;omega
def z1(f:Nat→Int)(k j:Nat):Int:=if j<k then f j else 0
theorem qcE(f:Nat→Int)(j:Nat):z1 f 0 j=0:=by unfold z1;rw[if_neg Ω]
theorem qbk(f:Nat→Int)(k a:Nat):(if a=k then SV.val (.int .i64 (f k))else .val (.int .i64 (z1 f k a)))=.val (.int .i64 (z1 f (k+1) a)):=by
 unfold z1;by_cases e:a=k
 ·subst e;rw[if_pos rfl,if_pos Ω]
 ·rw[if_neg e]
  by_cases h:a<k
  ·rw[if_pos h,if_pos Ω]
  ·rw[if_neg h,if_neg Ω]
theorem VK(f:Nat→Int)(k a:Nat)(h:a<k):z1 f k a=f a:=by unfold z1;rw[if_pos h]
theorem qpf(last:Nat)(hl:last≤1000000)(f:FuncId)(first caps:List SV)(hf:OldL first)(hc:OldL caps)(g:Nat→Int)(hg:∀k,k≤last→qc Tryz.prog f (first++I k :: caps) (I (g k))) :
  qc Tryz.prog 179 [I last,.fn (.func f) first caps] (I (qS g last)):=by
 refine qh Tryz.func179 rfl Ωa follows Ωa _ _ (by rw[Tryz.ntmps179];simp) (by simp only[OldL,Old,I,hf,hc,and_self]) ?_;unfold I;(repeat' (first|refine sD ?_ ?_<;>intro _|refine aA ?_|simp -dsimp only[↓RP,RQ,seval,TYl,Tryz.results179]));refine zY (hg 0 (xb6 _)) (subL_refl _ (JS hf hc)) ?_;(repeat' (first|refine sD ?_ ?_<;>intro _|refine aA ?_|simp -dsimp only[↓RP,RQ,seval,I,TYl,Tryz.results179]));refine qo (λ(k:Nat)=>k≤last) (λk=>⟨[(0,.val (.int .i64 last)),(1,.fn (.func f) first caps),(5,.val (.int .i64 (qS g k))),(6,.val (.int .i64 ((k:Int)+1)))],[],0⟩) (λk=>last - k) 0 (xb6 _) (weak [] [] ?_ ?_ ?_) λk hk=>?_
 ·(simp -dsimp only[↓RP,RQ,seval,qS]);all_goals (try simp)
  exact⟨wkL_refl _ hf,wkL_refl _ hc⟩
 ·(simp -dsimp only[↓RP,RQ,seval])
 ·(simp -dsimp only[↓RP,RQ,seval])
 by_cases hlt:k<last
 ·have eP:(k:Int)+1=((k+1:Nat):Int):=by omega
  (repeat' (first|refine sD ?_ ?_<;>intro _|refine aA ?_|simp -dsimp only[↓RP,RQ,seval,eP,TYl,Tryz.results179]))
  all_goals try(exfalso;omega)
  refine zY (hg (k+1) hlt) (subL_refl _ (JS hf hc)) ?_;(repeat' (first|refine sD ?_ ?_<;>intro _|refine aA ?_|simp -dsimp only[↓RP,RQ,seval,I,eP,TYl,Tryz.results179]))
  all_goals try(exfalso;omega)
  refine⟨k+1,hlt,Ω,weak [] [] ?_ ?_ ?_⟩
  ·(simp -dsimp only[↓RP,RQ,seval,qS]);all_goals (try simp)
   exact⟨wkL_refl _ hf,wkL_refl _ hc⟩
  ·(simp -dsimp only[↓RP,RQ,seval])
  ·(simp -dsimp only[↓RP,RQ,seval])
 ·have hke:k=last:=by omega
  subst hke;(repeat' (first|refine sD ?_ ?_<;>intro _|refine aA ?_|simp -dsimp only[↓RP,RQ,seval,TYl,Tryz.results179]))
  all_goals try(exfalso;omega)
theorem qpg(N:Nat)(f:Nat→Int)(c:Curve)(h:c.Fine)(k p:Nat)(hk:k<N)(hN:N≤401)(hp:p≤k)(hf:∀j,j≤k→0≤f j∧f j≤1000000) :
  qc Tryz.prog 284 [I p,.ref false 1 (λ_=>ints N f),.ref false 1 (λ_=>I k),.ref false 1 (λ_=>c.sv)] (I (f (k - p)+c.L1 p)):=by
 refine qh Tryz.func284 rfl Ωa follows Ωa _ _ (by rw[Tryz.ntmps284];simp) (by simp only[OldL,Old,c.old,I];simp[Old,ints]) ?_;have b1:=Q2 c h p Ω;have b2:=hf (k - p) Ω;have er:(k:Int) -(p:Int)=((k - p:Nat):Int):=by omega
 unfold I
 conv=>arg 4;unfold Curve.sv ints
 (repeat' (first|refine sD ?_ ?_<;>intro _|refine aA ?_|simp -dsimp only[↓RP,RQ,seval,er,TYl,Int.toNat_natCast,Tryz.results284]))
 all_goals try(exfalso;omega)
 refine qq (qom c h p Ω) Ωh Ωe ?_;(repeat' (first|refine sD ?_ ?_<;>intro _|refine aA ?_|simp -dsimp only[↓RP,RQ,seval,I,er,TYl,Int.toNat_natCast,Tryz.results284]))
 all_goals (first|exact True.intro|(simp only[InK];omega)|omega|(simp only[InK,ne_eq,and_true,true_and];omega)|trivial)
theorem c178(n:Nat)(C:Nat→Curve)(n1:1≤n)(n3:n≤3)(hC:∀i,i<n→(C i).Fine)(turns:Nat)(ht:turns≤400):qZ Tryz.prog 178 [chn n C,I turns] (.rows 2 1 (turns+1) (λj _=>I (Ls C (n - 1) j))) (.vec 0 (turns+1) 1):=by
 refine gD Tryz.func178 rfl Ωa follows Ωa _ _ _ (by rw[Tryz.ntmps178];simp) (by simp only[OldL,qcD,Old,I,and_self]) ?_;unfold I
 conv=>arg 4;unfold chn Curve.sv ints
 have eT:((turns:Int)+1).toNat=turns+1:=by omega
 (repeat' (first|refine sD ?_ ?_<;>intro _|refine aA ?_|simp -dsimp only[↓RP,RQ,seval,eT,by2,TYl,Int.toNat_natCast,Tryz.results178]));have eN:((n:Int) - 1).toNat=n - 1:=by omega
 refine qo (λ(k:Nat)=>k≤turns+1) (λk=>⟨[(0,.arr false false n 1 (λi _=>.arr false false (C i).m 1 (λj _=>.val (.int .i64 ((C i).u j))))),(1,.val (.int .i64 turns)),(5,.ptr 61 0),(15,.val (.int .i64 ((turns+1:Nat):Int))),(16,.val (.int .i64 k))],[(61,.cells 32 [.vec 60 (turns+1) 1]),(60,.rows 2 1 (turns+1) (λj _=>.val (.int .i64 (z1 (C 0).L1 k j))))],62⟩) (λk=>turns+1 - k) 0 (xb6 _) (weak [(61,some 4),(60,some 3)] [] ?_ ?_ ?_) λk hk=>?_
 ·(simp -dsimp only[↓RP,RQ,seval]);all_goals simp
 ·(simp -dsimp only[↓RP,RQ,seval,qcE]);all_goals (try simp)
 ·(simp -dsimp only[↓RP,RQ,seval]);all_goals simp
 by_cases hlt:k<turns+1
 ·have hL:=Q2 (C 0) (hC 0 Ω) k Ω
  (repeat' (first|refine sD ?_ ?_<;>intro _|refine aA ?_|simp -dsimp only[↓RP,RQ,seval,I,eT,eN,by2,TYl,Int.toNat_natCast,Tryz.results178]))
  all_goals try(exfalso;omega)
  refine qq (qom (C 0) (hC 0 Ω) k Ω) Ωh Ωe ?_;(repeat' (first|refine sD ?_ ?_<;>intro _|refine aA ?_|simp -dsimp only[↓RP,RQ,seval,I,eT,eN,by2,TYl,Int.toNat_natCast,Tryz.results178]))
  all_goals try(exfalso;omega)
  refine⟨k+1,Ω,Ω,weak [] [] ?_ ?_ ?_⟩
  ·(simp -dsimp only[↓RP,RQ,seval]);all_goals simp
  ·(simp -dsimp only[↓RP,RQ,seval]);all_goals (try simp)
   exact λa ha=>qbk (C 0).L1 k a
  ·(simp -dsimp only[↓RP,RQ,seval]);all_goals simp
 ·have hke:k=turns+1:=by omega
  subst hke;(repeat' (first|refine sD ?_ ?_<;>intro _|refine aA ?_|simp -dsimp only[↓RP,RQ,seval,I,eT,eN,by2,TYl,Int.toNat_natCast,Tryz.results178]))
  all_goals try(exfalso;omega)
  refine qo (λ(i:Nat)=>i<n) (λi=>⟨[(0,.arr false false n 1 (λi _=>.arr false false (C i).m 1 (λj _=>.val (.int .i64 ((C i).u j))))),(1,.val (.int .i64 turns)),(5,.ptr 61 0),(29,.arr false false (n - 1) 1 (λi _=>.arr false false (C (1+i)).m 1 (λj _=>.val (.int .i64 ((C (1+i)).u j))))),(30,.val (.int .i64 ((n - 1:Nat):Int))),(31,.val (.int .i64 i))],[(61,.cells 32 [.vec 60 (turns+1) 1]),(60,.rows 2 1 (turns+1) (λj _=>.val (.int .i64 (Ls C i j))))],62⟩) (λi=>n - i) 0 n1 (weak [] [] ?_ ?_ ?_) λi hi=>?_
  ·(simp -dsimp only[↓RP,RQ,seval]);all_goals simp
  ·(simp -dsimp only[↓RP,RQ,seval]);all_goals (try simp)
   exact λa ha=>VK (C 0).L1 (turns+1) a ha
  ·(simp -dsimp only[↓RP,RQ,seval]);all_goals simp
  by_cases hin:i+1<n
  ·have e1i:1+i=i+1:=by omega
   (repeat' (first|refine sD ?_ ?_<;>intro _|refine aA ?_|simp -dsimp only[↓RP,RQ,seval,I,eT,eN,by2,TYl,Int.toNat_natCast,Tryz.results178]))
   all_goals try(exfalso;omega)
   refine qo (λ(k:Nat)=>k≤turns+1) (λk=>⟨[(0,.arr false false n 1 (λi _=>.arr false false (C i).m 1 (λj _=>.val (.int .i64 ((C i).u j))))),(1,.val (.int .i64 turns)),(5,.ptr 61 0),(29,.arr false false (n - 1) 1 (λi _=>.arr false false (C (1+i)).m 1 (λj _=>.val (.int .i64 ((C (1+i)).u j))))),(30,.val (.int .i64 ((n - 1:Nat):Int))),(31,.val (.int .i64 i)),(8,.ptr 62 0),(9,.vec 90 (turns+1) 1),(39,.val (.int .i64 ((turns+1:Nat):Int))),(40,.val (.int .i64 k))],[(90,.rows 2 1 (turns+1) (λj _=>.val (.int .i64 (z1 (Ls C (i+1)) k j)))),(62,.cells 32 [.arr false false (C (1+i)).m 1 (λj _=>.val (.int .i64 ((C (1+i)).u j)))]),(61,.cells 32 [.vec 60 (turns+1) 1]),(60,.rows 2 1 (turns+1) (λj _=>.val (.int .i64 (Ls C i j))))],91⟩) (λk=>turns+1 - k) 0 (xb6 _) (weak [(90,some 69),(62,some 65)] [] ?_ ?_ ?_) λk hk=>?_
   ·(simp -dsimp only[↓RP,RQ,seval]);all_goals simp
   ·(simp -dsimp only[↓RP,RQ,seval,qcE]);all_goals (try simp)
   ·(simp -dsimp only[↓RP,RQ,seval]);all_goals simp
   by_cases hlt:k<turns+1
   ·(repeat' (first|refine sD ?_ ?_<;>intro _|refine aA ?_|simp -dsimp only[↓RP,RQ,seval,I,eT,eN,by2,TYl,Int.toNat_natCast,Tryz.results178]))
    all_goals try(exfalso;omega)
    refine qq (qpf k Ω 284 [] [.ref false 1 (λ_=>ints (turns+1) (Ls C i)),.ref false 1 (λ_=>I k),.ref false 1 (λ_=>(C (1+i)).sv)] trivial (by simp[OldL,Old,Curve.sv,ints,I]) (λp=>Ls C i (k - p)+(C (1+i)).L1 p) λp hp=>qpg (turns+1) (Ls C i) (C (1+i)) (hC (1+i) Ω) k p hlt Ω hp λj hj=>?_) ?_ Ωe ?_
    ·have:=Ym C i (λj hj=>hC j Ω) j Ω;omega
    ·(simp -dsimp only[↓RP,RQ,seval,Curve.sv,ints,I]);all_goals (try simp)
     refine⟨?_,?_⟩
     ·(simp -dsimp only[↓RP,RQ,seval]);all_goals simp
     ·(simp -dsimp only[↓RP,RQ,seval]);all_goals simp
    have eF:qS (λp=>Ls C i (k - p)+(C (1+i)).L1 p) k=Ls C (i+1) k:=by rw[e1i];rfl
    (repeat' (first|refine sD ?_ ?_<;>intro _|refine aA ?_|simp -dsimp only[↓RP,RQ,seval,eF,I,eT,eN,by2,TYl,Int.toNat_natCast,Tryz.results178]))
    all_goals try(exfalso;omega)
    refine⟨k+1,Ω,Ω,weak [] [] ?_ ?_ ?_⟩
    ·(simp -dsimp only[↓RP,RQ,seval]);all_goals simp
    ·(simp -dsimp only[↓RP,RQ,seval]);all_goals (try simp)
     exact λa ha=>qbk (Ls C (i+1)) k a
    ·(simp -dsimp only[↓RP,RQ,seval]);all_goals simp
   ·have hke:k=turns+1:=by omega
    subst hke;(repeat' (first|refine sD ?_ ?_<;>intro _|refine aA ?_|simp -dsimp only[↓RP,RQ,seval,I,eT,eN,by2,TYl,Int.toNat_natCast,Tryz.results178]))
    all_goals try(exfalso;omega)
    refine⟨i+1,hin,Ω,weak [(60,some 90)] [] ?_ ?_ ?_⟩
    ·(simp -dsimp only[↓RP,RQ,seval]);all_goals simp
    ·(simp -dsimp only[↓RP,RQ,seval]);all_goals (try simp)
     exact λa ha=>VK (Ls C (i+1)) (turns+1) a ha
    ·(simp -dsimp only[↓RP,RQ,seval]);all_goals simp
  ·have hie:i=n - 1:=by omega
   (repeat' (first|refine sD ?_ ?_<;>intro _|refine aA ?_|simp -dsimp only[↓RP,RQ,seval,I,eT,eN,by2,TYl,Int.toNat_natCast,Tryz.results178]))
   all_goals try(exfalso;omega)
   refine⟨60,_,rfl,?_,?_⟩
   ·(simp -dsimp only[↓RP,RQ,seval,I,hie]);all_goals simp
   ·(simp -dsimp only[↓RP,RQ,seval])
end Go.Tl
end
section
namespace Go.Tl
open Go.Sx
variable{c:Curve}
def Curve.err(c:Curve):Int:=
 if c.m<1∨6<c.m then 6 else if ∀i,i<c.m→0≤c.u i∧c.u i≤100 then(if ∀i,i<c.m - 1→c.u i≤c.u (i+1)then 0 else 16)else 3
theorem Curve.fine(h:c.err=0):c.Fine:=by
 unfold Curve.err at h;split at h
 ·omega
 ·split at h
  ·split at h
   ·rename_i h1 h2 h3
    exact⟨Ω,Ω,h2,h3⟩
   ·omega
  ·omega
theorem Curve.err_fine(h:c.Fine):c.err=0:=by
 have h1:=h.m1;have h2:=h.m6;unfold Curve.err;rw[if_neg Ω,if_pos h.rg,if_pos h.up]
def Curve.rErr(c:Curve):Int:=if 60<c.m then 6 else if ∀i,i<c.m→0≤c.u i∧c.u i≤10000 then 0 else 3
def sumTo(u:Nat→Int):Nat→Int
 |0=>0
 |i+1=>sumTo u i+u i
theorem qmI(a:SV)(i j:Nat)(hi:i<1)(hj:j<1):[a].getD (i+j) .top=a:=by
 have:i+j=0:=by omega
 rw[this];rfl
theorem qph(f:Nat→SV)(i a:Nat)(ha:a<i+1)(hb:i≤a):[f i][a - i]?.getD .top=f a:=by
 have h2:a=i:=by omega
 subst h2;rw[xb8];rfl
def qbl(C:Nat→Curve)(i:Nat):Nat→Int
 |0=>0
 |k+1=>if (C i).rErr=0 then qbl C (i+1) k else(C i).rErr
theorem GF(u:Nat→Int)(b:Int)(hb:0≤b)(m:Nat)(hu:∀i,i<m→0≤u i∧u i≤b):∀k,k≤m→0≤sumTo u k∧sumTo u k≤b*k
 |0,_=>by simp[sumTo]
 |k+1,h=>by
  have h1:=GF u b hb m hu k Ω;have h2:=hu k Ω;simp only[sumTo];rw[show((k+1:Nat):Int)=(k:Int)+1 from rfl,Int.mul_add,Int.mul_one];omega
def qmJ(A L:Nat→Int)(t:Nat):Nat→Int
 |0=>A t
 |U+1=>min (qmJ A L t U) (A U+L (t - U))
def lz(A L:Nat→Int)(t:Nat):Int:=qmJ A L t t
def w1(A L:Nat→Int)(t j:Nat):Int:=if j<t then lz A L j else A j
def w2(A L:Nat→Int)(t U j:Nat):Int:=if j<t then lz A L j else if j=t then qmJ A L t U else A j
structure Row(c:Curve):Prop where
 m60:c.m≤60
 rg:∀i,i<c.m→0≤c.u i∧c.u i≤10000
theorem qhp(h:c.rErr=0):Row c:=by
 unfold Curve.rErr at h;split at h
 ·omega
 ·split at h
  ·rename_i h1 h2;exact⟨Ω,h2⟩
  ·omega
abbrev Curve.S(c:Curve):Nat→Int:=sumTo c.u
theorem qkq(h:Row c)(k:Nat)(hk:k≤c.m):0≤c.S k∧c.S k≤600000:=by
 have h1:=GF c.u 10000 Ω c.m h.rg k hk;have h2:=h.m60;show 0≤sumTo c.u k∧sumTo c.u k≤600000;omega
def two(a d:Curve)(i:Nat):Curve:=if i=0 then a else d
theorem qhq(a:Curve):qbl (λ_=>a) 0 1=a.rErr:=by
 show(if a.rErr=0 then 0 else a.rErr)=_;split
 ·rename_i h;exact h.symm
 ·rfl
abbrev qfe(N:Nat)(f:Nat→Int):Blk:=.rows 2 1 N (λj _=>.val (.int .i64 (f j)))
def tup3(x:Int×Int×Int):SV:=.tup [I x.1,I x.2.1,I x.2.2]
def upL(u:Nat→Int)(m:Nat):Prop:=∀i,i<m - 1→u i≤u (i+1)
instance(u:Nat→Int)(m:Nat):Decidable (upL u m):=by unfold upL;infer_instance
end Go.Tl
end
section
namespace Go.Tl
open Go.Proofs
open Go.Sx
variable{a n:Nat}
def B(b:Bool):SV:=.val (.bool b)
theorem GE{a b:Bool}(h:a=b):SV.val (Value.bool a)=SV.val (Value.bool b):=by rw[h]
theorem TYm:True∧qn Tryz.prog 2=some ⟨false,1,some [.int .i64 0],.int .i64⟩∧qn Tryz.prog 3=some ⟨false,1,some [.int .i64 0],.int .i64⟩∧qn Tryz.prog 4=some ⟨false,1,some [.bool false],.bool⟩∧qn Tryz.prog 28=some ⟨false,1,some [.int .i64 0],.int .i64⟩∧qn Tryz.prog 32=some ⟨false,1,some [.slice none 0 0],.slice 2 1⟩∧qn Tryz.prog 43=some ⟨false,1,some [.slice none 0 0],.slice 32 1⟩∧qL Tryz.prog 2=8:=⟨trivial,Ωa,Ωa,Ωa,Ωa,Ωa,Ωa,Ωa⟩
def g6(b:Nat→Bool)(i:Nat):Nat→Int
 |0=>-1
 |k+1=>if b i=true then i else g6 b (i+1) k
theorem Q1(b:Nat→Bool):∀(k i:Nat),g6 b i k<0↔∀j,i≤j→j<i+k→b j=false
 |0,i=>by simp[g6];intro j h1 h2;omega
 |k+1,i=>by
  simp only[g6];split
  ·rename_i h
   constructor
   ·intro h';omega
   ·intro h';have:=h' i Ω Ω;rw[h]at this;cases this
  ·rename_i h
   rw[Q1 b k (i+1)];constructor
   ·intro h' j h1 h2
    by_cases e:j=i
    ·subst e;simpa using h
    ·exact h' j Ω Ω
   ·intro h' j h1 h2;exact h' j Ω Ω
def vD(lo hi:Int):SV:=.fn (.func 229) [] [.ref false 1 (λ_=>I lo),.ref false 1 (λ_=>I hi)]
theorem qpi(n lo hi:Int):qc Tryz.prog 229 [I n,.ref false 1 (λ_=>I lo),.ref false 1 (λ_=>I hi)] (B (decide (n<lo) || decide (hi<n))):=by
 refine qh Tryz.func229 rfl Ωa follows Ωa _ _ (by rw[Tryz.ntmps229];simp) (by simp[OldL,Old,I]) ?_;unfold I B;(repeat' (first|refine sD ?_ ?_<;>intro _|refine aA ?_|simp -dsimp only[↓RP,RQ,seval,TYm,Tryz.results229]))
 all_goals (refine GE ?_;rw[Bool.eq_iff_iff];simp;omega)
theorem qmK(m:Nat)(u:Nat→Int)(lo hi':Int)(hm:m≤1000000):qc Tryz.prog 304 [ints m u,vD lo hi'] (I (g6 (λi=>decide (u i<lo) || decide (hi'<u i)) 0 m)):=by
 refine qh Tryz.func304 rfl Ωa follows Ωa _ _ (by rw[Tryz.ntmps304];simp) (by simp[OldL,Old,ints,vD,I]) ?_;unfold ints vD I;(simp -dsimp only[↓RP,RQ,seval,TYm,Tryz.results304]);refine qo (λi=>i≤m∧g6 (λi=>decide (u i<lo) || decide (hi'<u i)) 0 m=g6 (λi=>decide (u i<lo) || decide (hi'<u i)) i (m - i)) (λi=>⟨[(0,.arr false false m 1 (λi _=>.val (.int .i64 (u i)))),(1,.fn (.func 229) [] [.ref false 1 (λ_=>.val (.int .i64 lo)),.ref false 1 (λ_=>.val (.int .i64 hi'))]),(7,.val (.int .i64 m)),(8,.val (.int .i64 i))],[],0⟩) (λi=>m - i) 0 ⟨xb6 _,rfl⟩ (weak [] [] ?_ ?_ ?_) λi hi=>?_
 ·(simp -dsimp only[↓RP,RQ,seval]);simp
 ·(simp -dsimp only[↓RP,RQ,seval])
 ·(simp -dsimp only[↓RP,RQ,seval])
 obtain⟨hi,he⟩:=hi;have e1:∀k,m - i=k+1→g6 (λi=>decide (u i<lo) || decide (hi'<u i)) i (m - i)=if (decide (u i<lo) || decide (hi'<u i))=true then(i:Int)else g6 (λi=>decide (u i<lo) || decide (hi'<u i)) (i+1) k:=λk hk=>by rw[hk];rfl
 (repeat' (first|refine sD ?_ ?_<;>intro _|refine aA ?_|simp -dsimp only[↓RP,RQ,seval,TYm,Tryz.results304]))
 ·rename_i hlt
  have e2:=e1 (m -(i+1)) Ω;refine qq (qpi (u i) lo hi') (by(simp -dsimp only[↓RP,RQ,seval,I]);simp) Ωf ?_;(repeat' (first|refine sD ?_ ?_<;>intro _|refine aA ?_|simp -dsimp only[↓RP,RQ,seval,B,TYm,Tryz.results304]))
  ·rename_i h
   refine vC ?_;rw[he,e2,if_pos (by simp[h])]
  ·rename_i h1 h2
   refine vC ?_;rw[he,e2,if_pos (by simp[h2])]
  ·rename_i h1 h2
   refine⟨i+1,⟨Ω,?_⟩,Ω,weak [] [] ?_ ?_ ?_⟩
   ·rw[he,e2,if_neg Ωl]
   ·(simp -dsimp only[↓RP,RQ,seval]);simp
   ·(simp -dsimp only[↓RP,RQ,seval])
   ·(simp -dsimp only[↓RP,RQ,seval])
 ·rename_i hlt
  refine vC ?_;have:m - i=0:=by omega
  rw[he,this];rfl
def gk(u:Nat→Int)(m:Nat)(lo hi:Int):Prop:=∀i,i<m→lo≤u i∧u i≤hi
instance(u:Nat→Int)(m:Nat)(lo hi:Int):Decidable (gk u m lo hi):=by unfold gk;infer_instance
theorem ZN(u:Nat→Int)(m:Nat)(lo hi:Int):g6 (λi=>decide (u i<lo) || decide (hi<u i)) 0 m<0↔gk u m lo hi:=by
 rw[Q1];constructor
 ·intro h i hi'
  have:=h i Ω Ω;simp at this;omega
 ·intro h j _ hj
  have:=h j Ω;simp;omega
theorem qmL(m:Nat)(u:Nat→Int)(lo hi:Int)(hm:m≤1000000):qc Tryz.prog 202 [ints m u,vD lo hi] (B (!decide (gk u m lo hi))):=by
 refine qh Tryz.func202 rfl Ωa follows Ωa _ _ (by rw[Tryz.ntmps202];simp) (by simp[OldL,Old,ints,vD,I]) ?_;unfold ints vD I B;(simp -dsimp only[↓RP,RQ,seval,TYm,Tryz.results202]);refine qq (qmK m u lo hi hm) (by(simp -dsimp only[↓RP,RQ,seval,ints,vD,I]);simp) Ωe ?_;(repeat' (first|refine sD ?_ ?_<;>intro _|refine aA ?_|simp -dsimp only[↓RP,RQ,seval,I,TYm,Tryz.results202]));refine GE ?_;rw[Bool.eq_iff_iff];simp[←ZN]
theorem qmM(m:Nat)(u:Nat→Int)(lo hi:Int)(hm:m≤1000000):qc Tryz.prog 110 [I lo,I hi,ints m u] (B (decide (gk u m lo hi))):=by
 refine qh Tryz.func110 rfl Ωa follows Ωa _ _ (by rw[Tryz.ntmps110];simp) (by simp[OldL,Old,ints,I]) ?_;unfold ints I B;(simp -dsimp only[↓RP,RQ,seval,TYm,Tryz.results110]);refine qq (qmL m u lo hi hm) (by(simp -dsimp only[↓RP,RQ,seval,ints,vD,I]);simp) Ωf ?_;(repeat' (first|refine sD ?_ ?_<;>intro _|refine aA ?_|simp -dsimp only[↓RP,RQ,seval,B,TYm,Tryz.results110]));simp
theorem qbm(x lo hi:Int):qc Tryz.prog 110 [I lo,I hi,ints 1 (λ_=>x)] (B (decide (lo≤x∧x≤hi))):=by
 have:=qmM 1 (λ_=>x) lo hi Ω;have e:gk (λ_=>x) 1 lo hi↔(lo≤x∧x≤hi):=⟨λh=>h 0 Ω,λh i _=>h⟩;simpa[e]using this
theorem qpj(n:Int):qc Tryz.prog 355 [I n] (B false):=by
 refine qh Tryz.func355 rfl Ωa follows Ωa _ _ (by rw[Tryz.ntmps355];simp) (by simp[OldL,Old,I]) ?_;unfold I B;(repeat' (first|refine sD ?_ ?_<;>intro _|refine aA ?_|simp -dsimp only[↓RP,RQ,seval,TYm,Tryz.results355]))
 all_goals simp
theorem qpk(a b:Int):qc Tryz.prog 281 [I a,I b] (B (decide (a<b))):=by
 refine qh Tryz.func281 rfl Ωa follows Ωa _ _ (by rw[Tryz.ntmps281];simp) (by simp[OldL,Old,I]) ?_;unfold I B;(repeat' (first|refine sD ?_ ?_<;>intro _|refine aA ?_|simp -dsimp only[↓RP,RQ,seval,TYm,Tryz.results281]));refine qq (qpj a) Ωe Ωf ?_;(repeat' (first|refine sD ?_ ?_<;>intro _|refine aA ?_|simp -dsimp only[↓RP,RQ,seval,B,TYm,Tryz.results281]))
theorem qpl(m:Nat)(u:Nat→Int)(h1:1≤m)(h2:m≤1000000):qc Tryz.prog 171 [ints m u] (B (decide (upL u m))):=by
 refine qh Tryz.func171 rfl Ωa follows Ωa _ _ (by rw[Tryz.ntmps171];simp) (by simp[OldL,Old,ints]) ?_;unfold B
 conv=>arg 4;unfold ints
 (repeat' (first|refine sD ?_ ?_<;>intro _|refine aA ?_|simp -dsimp only[↓RP,RQ,seval,TYm,Tryz.results171]));refine qo (λi=>i≤m - 1∧∀j,i≤j→j<m - 1→u j≤u (j+1)) (λi=>⟨[(0,.arr false false m 1 (λi _=>.val (.int .i64 (u i)))),(3,.val (.int .i64 i))],[],0⟩) (λi=>i) (m - 1) ⟨xa5 _,λj a b=>by omega⟩ (weak [] [] ?_ ?_ ?_) λi hi=>?_
 ·(simp -dsimp only[↓RP,RQ,seval]);all_goals (try simp)
  all_goals omega
 ·(simp -dsimp only[↓RP,RQ,seval])
 ·(simp -dsimp only[↓RP,RQ,seval])
 obtain⟨hi,hj⟩:=hi;by_cases h0:0<i
 ·have e2:(i:Int) - 1=((i - 1:Nat):Int):=by omega
  (repeat' (first|refine sD ?_ ?_<;>intro _|refine aA ?_|simp -dsimp only[↓RP,RQ,seval,e2,TYm,Int.toNat_natCast,Tryz.results171]))
  all_goals try(exfalso;omega)
  refine qq (qpk (u i) (u (i - 1))) Ωe Ωf ?_;(repeat' (first|refine sD ?_ ?_<;>intro _|refine aA ?_|simp -dsimp only[↓RP,RQ,seval,B,e2,TYm,Int.toNat_natCast,Tryz.results171]))
  ·refine GE ?_
   rw[eq_comm,decide_eq_false_iff_not];intro h;have:=h (i - 1) Ω;rw[show i - 1+1=i by omega]at this;omega
  ·refine⟨i - 1,⟨Ω,λj a b=>?_⟩,Ω,weak [] [] ?_ ?_ ?_⟩
   ·by_cases e:j=i - 1
    ·subst e;rw[show i - 1+1=i by omega];omega
    ·exact hj j Ω b
   ·(simp -dsimp only[↓RP,RQ,seval]);all_goals simp
   ·(simp -dsimp only[↓RP,RQ,seval])
   ·(simp -dsimp only[↓RP,RQ,seval])
 ·have hin:i=0:=by omega
  subst hin;(repeat' (first|refine sD ?_ ?_<;>intro _|refine aA ?_|simp -dsimp only[↓RP,RQ,seval,TYm,Int.toNat_natCast,Tryz.results171]))
  all_goals first|(exfalso;omega)|(refine GE ?_;rw[eq_comm,decide_eq_true_iff];exact λj h=>hj j (xb6 _) h)|skip
theorem c82(c:Curve)(hm:c.m≤1000000):qc Tryz.prog 82 [c.sv] (I c.err):=by
 refine qh Tryz.func82 rfl Ωa follows Ωa _ _ (by rw[Tryz.ntmps82];simp) (by simp[OldL,c.old]) ?_;unfold I
 conv=>arg 4;unfold Curve.sv ints
 (repeat' (first|refine sD ?_ ?_<;>intro _|refine aA ?_|simp -dsimp only[↓RP,RQ,seval,TYm,Tryz.results82]));refine qq (qbm c.m 1 6) Ωj Ωf ?_;(repeat' (first|refine sD ?_ ?_<;>intro _|refine aA ?_|simp -dsimp only[↓RP,RQ,seval,B,TYm,Tryz.results82]))
 rotate_left
 ·refine vC ?_;unfold Curve.err;rw[if_pos Ω]
 rename_i h1;refine qq (qmM c.m c.u 0 100 hm) Ωj Ωf ?_;(repeat' (first|refine sD ?_ ?_<;>intro _|refine aA ?_|simp -dsimp only[↓RP,RQ,seval,B,TYm,Tryz.results82]))
 rotate_left
 ·rename_i h2
  refine vC ?_;unfold Curve.err;rw[if_neg Ω,if_neg (show ¬(∀i,i<c.m→0≤c.u i∧c.u i≤100)from h2)]
 rename_i h2;refine qq (qpl c.m c.u Ω hm) Ωj Ωf ?_;(repeat' (first|refine sD ?_ ?_<;>intro _|refine aA ?_|simp -dsimp only[↓RP,RQ,seval,B,TYm,Tryz.results82]))
 ·rename_i h3
  refine vC ?_;unfold Curve.err;rw[if_neg Ω,if_pos (show ∀i,i<c.m→0≤c.u i∧c.u i≤100 from h2),if_pos (show ∀i,i<c.m - 1→c.u i≤c.u (i+1)from h3)]
 ·rename_i h3
  refine vC ?_;unfold Curve.err;rw[if_neg Ω,if_pos (show ∀i,i<c.m→0≤c.u i∧c.u i≤100 from h2),if_neg (show ¬(∀i,i<c.m - 1→c.u i≤c.u (i+1))from h3)]
theorem qpm(n:Nat)(C:Nat→Curve)(hn:n≤1000)(hC:∀i,i<n→(C i).m≤1000000):qc Tryz.prog 112 [chn n C] (I (qbl C 0 n)):=by
 refine qh Tryz.func112 rfl Ωa follows Ωa _ _ (by rw[Tryz.ntmps112];simp) (by simp only[OldL,qcD,and_self]) ?_;unfold I
 conv=>arg 4;unfold chn
 (repeat' (first|refine sD ?_ ?_<;>intro _|refine aA ?_|simp -dsimp only[↓RP,RQ,seval,TYm,Int.toNat_natCast,Tryz.results112]));refine qo (λ(i:Nat)=>i≤n∧qbl C 0 n=qbl C i (n - i)) (λi=>⟨[(0,.arr false false n 1 (λi _=>.arr false false (C i).m 1 (λj _=>.val (.int .i64 ((C i).u j))))),(5,.arr false false n 1 (λi _=>.arr false false (C i).m 1 (λj _=>.val (.int .i64 ((C i).u j))))),(6,.val (.int .i64 n)),(7,.val (.int .i64 i))],[],0⟩) (λi=>n - i) 0 ⟨xb6 _,rfl⟩ (weak [] [] ?_ ?_ ?_) λi hi=>?_
 ·(simp -dsimp only[↓RP,RQ,seval]);all_goals simp
 ·(simp -dsimp only[↓RP,RQ,seval])
 ·(simp -dsimp only[↓RP,RQ,seval])
 obtain⟨hi,he⟩:=hi;by_cases hlt:i<n
 ·have es:qbl C i (n - i)=if (C i).rErr=0 then qbl C (i+1) (n -(i+1))else(C i).rErr:=by
   rw[show n - i=(n -(i+1))+1 by omega];rfl
  have hm:=hC i hlt;(repeat' (first|refine sD ?_ ?_<;>intro _|refine aA ?_|simp -dsimp only[↓RP,RQ,seval,TYm,Int.toNat_natCast,Tryz.results112]))
  all_goals try(exfalso;omega)
  ·rename_i h60
   refine vC ?_;have:(C i).rErr=6:=by unfold Curve.rErr;rw[if_pos Ω]
   rw[he,es,this];rfl
  ·rename_i h60
   refine qq (qmM (C i).m (C i).u 0 10000 hm) Ωj Ωf ?_;(repeat' (first|refine sD ?_ ?_<;>intro _|refine aA ?_|simp -dsimp only[↓RP,RQ,seval,B,TYm,Int.toNat_natCast,Tryz.results112]))
   ·rename_i hin
    have e0:(C i).rErr=0:=by unfold Curve.rErr;rw[if_neg Ω,if_pos (show ∀j,j<(C i).m→0≤(C i).u j∧(C i).u j≤10000 from hin)]
    rw[if_pos e0]at es;refine⟨i+1,⟨Ω,by rw[he,es]⟩,Ω,weak [] [] ?_ ?_ ?_⟩
    ·(simp -dsimp only[↓RP,RQ,seval]);all_goals simp
    ·(simp -dsimp only[↓RP,RQ,seval])
    ·(simp -dsimp only[↓RP,RQ,seval])
   ·rename_i hin
    have e0:(C i).rErr=3:=by unfold Curve.rErr;rw[if_neg Ω,if_neg (show ¬∀j,j<(C i).m→0≤(C i).u j∧(C i).u j≤10000 from hin)]
    refine vC ?_;rw[he,es,e0];rfl
 ·have hin:i=n:=by omega
  subst hin;(repeat' (first|refine sD ?_ ?_<;>intro _|refine aA ?_|simp -dsimp only[↓RP,RQ,seval,TYm,Int.toNat_natCast,Tryz.results112]))
  all_goals try(exfalso;omega)
  refine vC ?_;rw[he,xb8];rfl
theorem qpn(c:Curve)(hm:c.m≤1000)(hu:∀i,i<c.m→0≤c.u i∧c.u i≤1000000):qZ Tryz.prog 113 [c.sv] (.rows 2 1 (c.m+1) (λj _=>I (sumTo c.u j))) (.vec 0 (c.m+1) 1):=by
 refine gD Tryz.func113 rfl Ωa follows Ωa _ _ _ (by rw[Tryz.ntmps113];simp) (by simp[OldL,c.old]) ?_;unfold I
 conv=>arg 4;unfold Curve.sv ints
 have eT:((c.m:Int)+1).toNat=c.m+1:=by omega
 (repeat' (first|refine sD ?_ ?_<;>intro _|refine aA ?_|simp -dsimp only[↓RP,RQ,seval,eT,by2,TYm,Int.toNat_natCast,Tryz.results113]));refine⟨⟨xa5 _,rfl⟩,?_⟩;refine qo (λ(t:Nat)=>t≤c.m) (λt=>⟨[(0,.arr false false c.m 1 (λi _=>.val (.int .i64 (c.u i)))),(3,.vec 60 (c.m+1) 1),(11,.arr false false c.m 1 (λi _=>.val (.int .i64 (c.u i)))),(12,.val (.int .i64 c.m)),(13,.val (.int .i64 t))],[(60,.rows 2 1 (c.m+1) (λj _=>.val (.int .i64 (z1 (sumTo c.u) (t+1) j))))],61⟩) (λt=>c.m - t) 0 (xb6 _) (weak [(60,some 4)] [] ?_ ?_ ?_) λt ht=>?_
 ·(simp -dsimp only[↓RP,RQ,seval]);all_goals simp
 ·(simp -dsimp only[↓RP,RQ,seval]);all_goals (try simp)
  intro a _;unfold z1;by_cases e:a<1
  ·have:a=0:=by omega
   subst this;rfl
  ·rw[if_neg e]
 ·(simp -dsimp only[↓RP,RQ,seval]);all_goals simp
 by_cases hlt:t<c.m
 ·have b1:=GF c.u 1000000 Ω c.m hu t Ω
  have b2:=hu t hlt;have eP:(t:Int)+1=((t+1:Nat):Int):=by omega
  have e1:z1 (sumTo c.u) (t+1) t=sumTo c.u t:=VK _ _ _ Ω;have e2:sumTo c.u t+c.u t=sumTo c.u (t+1):=rfl;(repeat' (first|refine sD ?_ ?_<;>intro _|refine aA ?_|simp -dsimp only[↓RP,RQ,seval,eP,e1,e2,eT,by2,TYm,Int.toNat_natCast,Tryz.results113]))
  all_goals try(exfalso;omega)
  refine⟨t+1,Ω,Ω,weak [] [] ?_ ?_ ?_⟩
  ·(simp -dsimp only[↓RP,RQ,seval]);all_goals simp
  ·(simp -dsimp only[↓RP,RQ,seval]);all_goals (try simp)
   exact λa ha=>qbk (sumTo c.u) (t+1) a
  ·(simp -dsimp only[↓RP,RQ,seval]);all_goals simp
 ·have hte:t=c.m:=by omega
  subst hte;(repeat' (first|refine sD ?_ ?_<;>intro _|refine aA ?_|simp -dsimp only[↓RP,RQ,seval,eT,by2,TYm,Int.toNat_natCast,Tryz.results113]))
  all_goals try(exfalso;omega)
  refine⟨60,_,rfl,?_,?_⟩
  ·(simp -dsimp only[↓RP,RQ,seval,I]);all_goals (try simp)
   exact λa ha=>VK _ _ _ ha
  ·(simp -dsimp only[↓RP,RQ,seval])
theorem qhr(h:a<n):(a=n)=False:=by simp;omega
theorem qhs(h:a<n):(n=a)=False:=by simp;omega
theorem VL{b:Nat}(hab:a≠b)(ha:a<n)(hb:b<n):((a=b)=False∧(b=a)=False)∧((∀k,(a=n+k)=False)∧(∀k,(n+k=a)=False)∧(a=n)=False∧(n=a)=False)∧((∀k,(b=n+k)=False)∧(∀k,(n+k=b)=False)∧(b=n)=False∧(n=b)=False):=
 ⟨⟨by simp[hab],by simp[Ne.symm hab]⟩,⟨qfc ha,qfd ha,qhr ha,qhs ha⟩,⟨qfc hb,qfd hb,qhr hb,qhs hb⟩⟩
theorem zp{b c:Nat}(hab:a≠b)(hac:a≠c)(hbc:b≠c)(ha:a<n)(hb:b<n)(hc:c<n):(((a=b)=False∧(b=a)=False)∧((a=c)=False∧(c=a)=False)∧((b=c)=False∧(c=b)=False))∧((∀k,(a=n+k)=False)∧(∀k,(n+k=a)=False)∧(a=n)=False∧(n=a)=False)∧((∀k,(b=n+k)=False)∧(∀k,(n+k=b)=False)∧(b=n)=False∧(n=b)=False)∧((∀k,(c=n+k)=False)∧(∀k,(n+k=c)=False)∧(c=n)=False∧(n=c)=False):=
 ⟨⟨⟨by simp[hab],by simp[Ne.symm hab]⟩,⟨by simp[hac],by simp[Ne.symm hac]⟩,⟨by simp[hbc],by simp[Ne.symm hbc]⟩⟩,⟨qfc ha,qfd ha,qhr ha,qhs ha⟩,⟨qfc hb,qfd hb,qhr hb,qhs hb⟩,⟨qfc hc,qfd hc,qhr hc,qhs hc⟩⟩
end Go.Tl
end
section
namespace Go.Tl
open Go.Proofs
open Go.Sx
theorem TYn:True∧qn Tryz.prog 2=some ⟨false,1,some [.int .i64 0],.int .i64⟩∧qn Tryz.prog 3=some ⟨false,1,some [.int .i64 0],.int .i64⟩∧qn Tryz.prog 4=some ⟨false,1,some [.bool false],.bool⟩∧qn Tryz.prog 28=some ⟨false,1,some [.int .i64 0],.int .i64⟩∧qn Tryz.prog 32=some ⟨false,1,some [.slice none 0 0],.slice 2 1⟩∧qn Tryz.prog 43=some ⟨false,1,some [.slice none 0 0],.slice 32 1⟩∧qn Tryz.prog 68=some ⟨true,2,some [.int .i64 0,.int .i64 0],.struct [(0,1,some false),(1,1,some false)]⟩∧qw Tryz.prog 68=some [(0,1),(1,1)]∧zk Tryz.prog 68=some [.i .i64,.i .i64]∧qn Tryz.prog 152=some ⟨false,1,some [.pointer none],.other⟩∧qn Tryz.prog 156=some ⟨false,1,some [.nilFunc],.other⟩∧qn Tryz.prog 275=some ⟨true,1,some [.slice none 0 0],.struct [(0,1,some false)]⟩∧qw Tryz.prog 275=some [(0,1)]∧qn Tryz.prog 276=some ⟨false,1,some [.map none],.map 282 2⟩∧qz Tryz.prog 276=some ⟨true,[.i .i64],.val (.int .i64 0)⟩∧qn Tryz.prog 278=some ⟨true,7,some [.int .i64 0,.int .i64 0,.int .i64 0,.int .i64 0,.int .i64 0,.int .i64 0,.int .i64 0],.array 7 2 1⟩∧qw Tryz.prog 278=some [(0,1),(1,1),(2,1),(3,1),(4,1),(5,1),(6,1)]∧zk Tryz.prog 278=some [.i .i64,.i .i64,.i .i64,.i .i64,.i .i64,.i .i64,.i .i64]∧qn Tryz.prog 280=some ⟨true,10,some [.slice none 0 0,.map none,.int .i64 0,.int .i64 0,.int .i64 0,.int .i64 0,.int .i64 0,.int .i64 0,.int .i64 0,.int .i64 0],.struct [(0,1,some true),(1,1,some false),(2,7,some true),(9,1,some false)]⟩∧qw Tryz.prog 280=some [(0,1),(1,1),(2,7),(9,1)]∧qn Tryz.prog 282=some ⟨true,1,some [.int .i64 0],.struct [(0,1,some false)]⟩∧qw Tryz.prog 282=some [(0,1)]∧zk Tryz.prog 282=some [.i .i64]∧qL Tryz.prog 2=8:=⟨trivial,Ωa,Ωa,Ωa,Ωa,Ωa,Ωa,Ωa,Ωa,Ωa,Ωa,Ωa,Ωa,Ωa,Ωa,Ωa,Ωa,Ωa,Ωa,Ωa,Ωa,Ωa,Ωa,Ωa,Ωa⟩
theorem qlZ:qz Tryz.prog 276=some ⟨true,[.i .i64],.val (.int .i64 0)⟩:=by kernel_rfl
theorem Qd{k:Nat}:∀{l:List (Nat×Blk)},blk l k=none→dropBlk l k=l
 |[],_=>rfl
 |(i,b) :: l,h=>by
  simp only[blk]at h;simp only[dropBlk];split at h
  ·cases h
  ·rename_i c;rw[if_neg c,Qd h]
theorem _root_.Go.Sx.Under.drop{l:List (Nat×Blk)}{n:Nat}(h:Under l n){m:Nat}(hm:n≤m)(k:Nat):dropBlk l (m+k)=l:=Qd (h.none Ω)
def Curve.tab(c:Curve):Nat→Nat→Int
 |0=>λ_=>0
 |k+1=>λj=>if j=k+1 then qS (λp=>c.tab k (k - p)+c.u p) (min c.m (k+1) - 1)else c.tab k j
def Curve.M(c:Curve)(k:Nat):Int:=c.tab k k
theorem qht(c:Curve):∀k j,j≤k→c.tab k j=c.M j
 |0,j,h=>by
   have:j=0:=by omega
   subst this;rfl
 |k+1,j,h=>by
  by_cases e:j=k+1
  ·subst e;rfl
  ·have:=qht c k j Ω
   rw[←this];show(if j=k+1 then _ else c.tab k j)=c.tab k j;rw[if_neg e]
theorem M_zero(c:Curve):c.M 0=0:=rfl
theorem M_succ(c:Curve)(k:Nat):c.M (k+1)=qS (λp=>c.M (k - p)+c.u p) (min c.m (k+1) - 1):=by
 show(if k+1=k+1 then qS (λp=>c.tab k (k - p)+c.u p) (min c.m (k+1) - 1)else c.tab k (k+1))=_;rw[if_pos rfl];exact Qc _ _ _ λp _=>by rw[qht c k (k - p) Ω]
section
variable{c:Curve}(h:c.Fine)
include h
omit h in
theorem qon(k p:Nat)(hp:p<c.m)(hk:p≤k):c.M (k+1)≤c.M (k - p)+c.u p:=by
 rw[M_succ];exact Qr (λp=>c.M (k - p)+c.u p) _ p Ω
theorem qmN(k:Nat):∃p,p<c.m∧p≤k∧c.M (k+1)=c.M (k - p)+c.u p:=by
 obtain⟨p,hp,e⟩:=j6 (λp=>c.M (k - p)+c.u p) (min c.m (k+1) - 1);have:=h.m1;exact⟨p,Ω,Ω,by rw[M_succ,e]⟩
theorem M_bound:∀k,0≤c.M k∧c.M k≤100*k:=by
 intro k
 induction k using Nat.strongRecOn with
 |_ k ih=>
  cases k with
  |zero=>rw[M_zero];omega
  |succ k=>
   obtain⟨p,h1,h2,e⟩:=qmN h k;have i1:=ih (k - p) Ω;have i2:=h.rg p h1;rw[e];omega
theorem qkr(k:Nat):c.M k≤c.M (k+1):=by
 obtain⟨p,h1,h2,e⟩:=qmN h k;rw[e];by_cases hp:p=0
 ·subst hp
  have:=(h.rg 0 h1).1;rw[Nat.sub_zero];omega
 ·obtain⟨k',rfl⟩:∃k',k=k'+1:=⟨k - 1,Ω⟩
  have i1:=qon (c:=c) k' (p - 1) Ω Ω;have i2:=h.up (p - 1) Ω;rw[show p - 1+1=p by omega]at i2;rw[show k'+1 - p=k' -(p - 1) by omega];omega
theorem M_mono:∀j i,i≤j→c.M i≤c.M j
 |0,i,hi=>by
   have:i=0:=by omega
   subst this;exact Int.le_refl _
 |j+1,i,hi=>by
  by_cases e:i=j+1
  ·subst e;exact Int.le_refl _
  ·exact Int.le_trans (M_mono j i Ω) (qkr h j)
theorem M_sub(a:Nat):∀b,c.M (a+b)≤c.M a+c.M b:=by
 intro b
 induction b using Nat.strongRecOn with
 |_ b ih=>
  cases b with
  |zero=>rw[M_zero];simp
  |succ b=>
   obtain⟨p,h1,h2,e⟩:=qmN h b;have i1:=ih (b - p) Ω;have i2:=qon (c:=c) (a+b) p h1 Ω;rw[show a+b - p=a+(b - p) by omega]at i2;rw[show a+(b+1)=a+b+1 by omega,e];omega
end
end Go.Tl
end
section
namespace Go.Tl
open Go.Proofs
open Go.Sx
theorem c42(c:Curve):qc Tryz.prog 42 [c.sv] (I c.err):=by
 refine qh Tryz.func42 rfl Ωa follows Ωa _ _ (by rw[Tryz.ntmps42];simp) (by simp[OldL,c.old]) ?_;unfold I
 conv=>arg 4;unfold Curve.sv ints
 (repeat' (first|refine sD ?_ ?_<;>intro _|refine aA ?_|simp -dsimp only[↓RP,RQ,seval,TYn,Tryz.results42]))
 all_goals first|(refine vC ?_;unfold Curve.err;rw[if_pos Ω];done)|skip
 rename_i hm1 hm2;refine qo (λi=>i≤c.m∧∀j,j<i→0≤c.u j∧c.u j≤100) (λi=>⟨[(0,.arr false false c.m 1 (λi _=>.val (.int .i64 (c.u i)))),(3,.val (.int .i64 i))],[],0⟩) (λi=>c.m - i) 0 ⟨xb6 _,λj hj=>by omega⟩ (weak [] [] ?_ ?_ ?_) λi hi=>?_
 ·(simp -dsimp only[↓RP,RQ,seval]);all_goals simp
 ·(simp -dsimp only[↓RP,RQ,seval])
 ·(simp -dsimp only[↓RP,RQ,seval])
 obtain⟨hi,hj⟩:=hi;have bad:∀i,i<c.m→(c.u i<0∨100<c.u i)→c.err=3:=λi h1 h2=>by
  unfold Curve.err;rw[if_neg Ω,if_neg (λh=>by have:=h i h1;omega)]
 by_cases hlt:i<c.m
 ·(repeat' (first|refine sD ?_ ?_<;>intro _|refine aA ?_|simp -dsimp only[↓RP,RQ,seval,TYn,Int.toNat_natCast,Tryz.results42]))
  all_goals first|(exfalso;omega)|(refine(vC ?_:_);rw[bad i hlt Ω];done)|skip
  refine⟨i+1,⟨Ω,λj hj2=>?_⟩,Ω,weak [] [] ?_ ?_ ?_⟩
  ·by_cases e:j=i
   ·subst e;omega
   ·exact hj j Ω
  ·(simp -dsimp only[↓RP,RQ,seval]);all_goals simp
  ·(simp -dsimp only[↓RP,RQ,seval])
  ·(simp -dsimp only[↓RP,RQ,seval])
 have hin:i=c.m:=by omega
 subst hin;(repeat' (first|refine sD ?_ ?_<;>intro _|refine aA ?_|simp -dsimp only[↓RP,RQ,seval,TYn,Int.toNat_natCast,Tryz.results42]))
 all_goals try(exfalso;omega)
 refine qo (λi=>1≤i∧i≤c.m∧∀j,j<i - 1→c.u j≤c.u (j+1)) (λi=>⟨[(0,.arr false false c.m 1 (λi _=>.val (.int .i64 (c.u i)))),(4,.val (.int .i64 i))],[],0⟩) (λi=>c.m - i) 1 ⟨xa5 _,Ω,λj hj=>by omega⟩ (weak [] [] ?_ ?_ ?_) λi hi=>?_
 ·(simp -dsimp only[↓RP,RQ,seval]);all_goals simp
 ·(simp -dsimp only[↓RP,RQ,seval])
 ·(simp -dsimp only[↓RP,RQ,seval])
 obtain⟨hi1,hi,hk⟩:=hi;have er:(λ(k:Nat)=>(k:Int) - 1) i=((i - 1:Nat):Int):=by show(i:Int) - 1=_;omega
 have er2:(i:Int) - 1=((i - 1:Nat):Int):=by omega
 by_cases hlt:i<c.m
 ·(repeat' (first|refine sD ?_ ?_<;>intro _|refine aA ?_|simp -dsimp only[↓RP,RQ,seval,er2,TYn,Int.toNat_natCast,Tryz.results42]))
  all_goals first|(exfalso;omega)|(first|exact True.intro|(simp only[InK];omega)|omega|(simp only[InK,ne_eq,and_true,true_and];omega)|trivial)|skip
  ·refine vC ?_
   unfold Curve.err;rw[if_neg Ω,if_pos hj,if_neg (λh=>by have:=h (i - 1) Ω;rw[show i - 1+1=i by omega]at this;omega)]
  refine⟨i+1,⟨Ω,Ω,λj hj2=>?_⟩,Ω,weak [] [] ?_ ?_ ?_⟩
  ·by_cases e:j=i - 1
   ·subst e;rw[show i - 1+1=i by omega];omega
   ·exact hk j Ω
  ·(simp -dsimp only[↓RP,RQ,seval]);all_goals simp
  ·(simp -dsimp only[↓RP,RQ,seval])
  ·(simp -dsimp only[↓RP,RQ,seval])
 ·have hin:i=c.m:=by omega
  subst hin;have e0:c.err=0:=by
   unfold Curve.err;rw[if_neg Ω,if_pos hj,if_pos hk]
  (repeat' (first|refine sD ?_ ?_<;>intro _|refine aA ?_|simp -dsimp only[↓RP,RQ,seval,TYn,Int.toNat_natCast,Tryz.results42]))
  all_goals first|(exfalso;omega)|(refine vC ?_;omega)|(first|exact True.intro|(simp only[InK];omega)|omega|(simp only[InK,ne_eq,and_true,true_and];omega)|trivial)|skip
end Go.Tl
end
section
namespace Go.Tl
open Go.Sx
end Go.Tl
end
section
namespace Go.Tl
open Go.Sx
def bst(c:Curve)(k:Nat):Nat→Int
 |0=>-1
 |P+1=>qS (λp=>c.M (k - p)+c.u p) P
theorem qks(c:Curve)(h:c.Fine)(k:Nat):bst c k (min c.m (k+1))=c.M (k+1):=by
 have h1:=h.m1;rw[M_succ];obtain⟨P,e⟩:∃P,min c.m (k+1)=P+1:=⟨min c.m (k+1) - 1,Ω⟩;rw[e];rfl
theorem qhu(c:Curve)(h:c.Fine)(k P:Nat)(hP:P<c.m):bst c k (P+1)=(if bst c k P<0∨c.M (k - P)+c.u P<bst c k P then c.M (k - P)+c.u P else bst c k P):=by
 cases P with
 |zero=>
  show c.M (k - 0)+c.u 0=_;rw[if_pos (.inl (Ω:(-1:Int)<0))]
 |succ Q=>
  show min (qS (λp=>c.M (k - p)+c.u p) Q) (c.M (k -(Q+1))+c.u (Q+1))=_;have h0:0≤qS (λp=>c.M (k - p)+c.u p) Q:=qbj _ _ _ λp hp=>by
   have h1:=(M_bound h (k - p)).1;have h2:=(h.rg p Ω).1;omega
  have e:bst c k (Q+1)=qS (λp=>c.M (k - p)+c.u p) Q:=rfl;rw[e];generalize qS (λp=>c.M (k - p)+c.u p) Q=b at *;split<;>omega
theorem qff(c:Curve)(h:c.Fine)(k P:Nat)(hP:P≤c.m)(hk:k≤400) : -1≤bst c k P∧bst c k P≤50000:=by
 cases P with
 |zero=>show -1≤(-1:Int)∧(-1:Int)≤50000;omega
 |succ Q=>
  obtain⟨p,hp,e⟩:=j6 (λp=>c.M (k - p)+c.u p) Q;have e2:bst c k (Q+1)=qS (λp=>c.M (k - p)+c.u p) Q:=rfl;have h1:=M_bound h (k - p);have h2:=h.rg p Ω;rw[e2,e];omega
end Go.Tl
end
section
namespace Go.Tl
open Go.Sx
end Go.Tl
end
section
namespace Go.Tl
open Go.Sx
end Go.Tl
end
section
namespace Go.Tl
open Go.Sx
def bk(n:Int):Value:=.agg #[.int .i64 n]
def k1(v:Value):Int:=match v with|.agg cs=>(match cs.toList with|[.int _ n]=>n|_=>-1)|_=>-1
abbrev kf:Value→Bool:=qk true [.i .i64]
theorem Yn(n:Int):k1 (bk n)=n:=rfl
theorem qma(n:Int):kf (bk n)=true:=rfl
theorem jS{cs:Array Value}(h:qQ [.i .i64] cs.toList=true):∃n,#[Value.int .i64 n]=cs:=by
 obtain⟨l⟩:=cs;cases l with
 |nil=>simp[qQ]at h
 |cons x l=>
  cases l with
  |cons y l=>simp[qQ]at h
  |nil=>
   simp[qQ]at h;cases x<;>simp[lfOk]at h
   subst h;exact⟨_,rfl⟩
theorem qcF{v:Value}(h:kf v=true):∃n,v=bk n:=by
 unfold kf qk at h;cases v<;>simp at h
 rename_i cs;obtain⟨n,hn⟩:=jS h;exact⟨n,by unfold bk;rw[←hn]⟩
theorem qmO(m n:Int):eqK (bk m) (bk n)=decide (m=n):=by simp[eqK,bk,jU,wH]
theorem yF(m:Int)(v:Value):eqK (bk m) v=(kf v&&decide (m=k1 v)):=by
 cases h:kf v with
 |true=>
  obtain⟨n,rfl⟩:=qcF h;rw[qmO];rfl
 |false=>
  cases h2:eqK (bk m) v with
  |false=>rfl
  |true=>rw[←zq h2,qma]at h;cases h
def wq(T:Nat)(v:Value):Bool:=kf v&&(decide (0≤k1 v)&&(decide (k1 v=0) ||(decide ((T:Int) - 12<k1 v)&&decide (k1 v≤T))))
def vE(c:Curve)(v:Value):SV:=I (c.M (k1 v).toNat)
theorem ZO:qD (λ_=>false) (bk 0)=wq 0:=by
 funext v;unfold qD wq;rw[yF];cases kf v
 ·rfl
 ·rw[Bool.eq_iff_iff];simp;omega
theorem qfg(T:Nat)(h:T+1≠12):ki (qD (wq T) (bk ((T:Int)+1))) (bk ((T:Int)+1 - 12))=wq (T+1):=by
 funext v;unfold ki qD wq;rw[yF,yF];cases kf v
 ·rfl
 ·rw[Bool.eq_iff_iff];simp;omega
theorem Yo(T:Nat)(h:T+1=12):qD (wq T) (bk ((T:Int)+1))=wq (T+1):=by
 funext v;unfold qD wq;rw[yF];cases kf v
 ·rfl
 ·rw[Bool.eq_iff_iff];simp;omega
theorem qcG(T t:Nat)(h:t=0∨(T<t+12∧t≤T)):wq T (bk t)=true:=by
 unfold wq;rw[qma,Yn];simp;omega
theorem KB(c:Curve)(t:Nat):vE c (bk t)=I (c.M t):=by
 unfold vE;rw[Yn];rfl
theorem qhv(c:Curve)(t:Nat):qC (vE c) (bk t) (I (c.M t))=vE c:=by
 funext v;unfold qC;rw[yF];cases hv:kf v with
 |false=>simp[svIte]
 |true=>
  obtain⟨n,rfl⟩:=qcF hv;rw[Yn];by_cases e:(t:Int)=n
  ·subst e;simp[svIte,KB]
  ·simp[svIte,e]
theorem qfh(c:Curve)(x:SV)(t:Nat):qC (qC (vE c) (bk t) x) (bk t) (I (c.M t))=vE c:=by
 funext v;unfold qC;rw[yF];cases hv:kf v with
 |false=>simp[svIte]
 |true=>
  obtain⟨n,rfl⟩:=qcF hv;rw[Yn];by_cases e:(t:Int)=n
  ·subst e;simp[svIte,KB]
  ·simp[svIte,e]
theorem qfc{a n:Nat}(h:a<n)(k:Nat):(a=n+k)=False:=by simp;omega
theorem qfd{a n:Nat}(h:a<n)(k:Nat):(n+k=a)=False:=by simp;omega
theorem Q3(i:Nat)(b:Blk)(l:List (Nat×Blk)):blk ((i,b) :: l) i=some b:=by simp[blk]
end Go.Tl
end
section
namespace Go.Tl
open Go.Proofs
open Go.Sx
def fw(c:Curve)(full:Bool)(j:Nat):Int:=if full=true then c.M j else 0
abbrev bdC(c:Curve)(mid:Nat)(full:Bool)(top:Nat):Blk:=.cells 280 [.arr false false c.m 1 (λi _=>.val (.int .i64 (c.u i))),.mp mid,.val (.int .i64 (fw c full 0)),.val (.int .i64 (fw c full 1)),.val (.int .i64 (fw c full 2)),.val (.int .i64 (fw c full 3)),.val (.int .i64 (fw c full 4)),.val (.int .i64 (fw c full 5)),.val (.int .i64 (fw c full 6)),.val (.int .i64 top)]
abbrev bdM(c:Curve)(top:Nat):Blk:=.map (qk true [.i .i64]) (wq top) (vE c)
theorem qpo(c:Curve)(t:Int):qc Tryz.prog 181 [.agg [c.sv],I t] (.fn (.func 285) [] [.ref true 1 (λ_=>c.sv),.ref true 1 (λ_=>I t)]):=by
 refine qh Tryz.func181 rfl Ωa follows Ωa _ _ (by rw[Tryz.ntmps181];simp) (by simp[OldL,Old,c.old];simp[Old,I]) ?_;unfold I Curve.sv ints;(repeat' (first|refine sD ?_ ?_<;>intro _|refine aA ?_|simp -dsimp only[↓RP,RQ,xa0,reduceIte,reduceCtorEq,xa1,xa2,xa3,xa4,TYn,Tryz.results181]));refine⟨λj hj=>?_,λj hj=>?_⟩
 ·have:j=0:=by omega
  subst this;(simp -dsimp only[↓RP,RQ,xa0,reduceIte,reduceCtorEq,xa1,xa2,xa3,xa4]);all_goals simp
 ·have:j=0:=by omega
  subst this;simp
def zf(c:Curve)(full:Bool):Prop:=∀j,j<7→fw c full j=0
instance(c:Curve)(full:Bool):Decidable (zf c full):=by unfold zf;infer_instance
theorem qoo(c:Curve)(full:Bool):(decide (fw c full 0=0)&&(decide (fw c full 1=0)&&(decide (fw c full 2=0)&&(decide (fw c full 3=0)&&(decide (fw c full 4=0)&&(decide (fw c full 5=0)&&decide (fw c full 6=0)))))))=decide (zf c full):=by
 rw[Bool.eq_iff_iff];simp only[xe6,decide_eq_true_eq];constructor
 ·rintro⟨h0,h1,h2,h3,h4,h5,h6⟩ j hj
  have:j=0∨j=1∨j=2∨j=3∨j=4∨j=5∨j=6:=by omega
  rcases this with rfl|rfl|rfl|rfl|rfl|rfl|rfl<;>assumption
 ·intro h
  exact⟨h 0 Ω,h 1 Ω,h 2 Ω,h 3 Ω,h 4 Ω,h 5 Ω,h 6 Ω⟩
theorem qkt(c:Curve)(full:Bool)(a b t:SV):∀k,k<7→[a,b,.val (.int .i64 (fw c full 0)),.val (.int .i64 (fw c full 1)),.val (.int .i64 (fw c full 2)),.val (.int .i64 (fw c full 3)),.val (.int .i64 (fw c full 4)),.val (.int .i64 (fw c full 5)),.val (.int .i64 (fw c full 6)),t][2+k]? = some (.val (.int .i64 (fw c full k))):=by
 intro k hk;have:k=0∨k=1∨k=2∨k=3∨k=4∨k=5∨k=6:=by omega
 rcases this with rfl|rfl|rfl|rfl|rfl|rfl|rfl<;>rfl
abbrev bdI(c:Curve)(mid:Nat)(full:Bool)(t:Int):Blk:=.cells 280 [.arr false false c.m 1 (λi _=>.val (.int .i64 (c.u i))),.mp mid,.val (.int .i64 (fw c full 0)),.val (.int .i64 (fw c full 1)),.val (.int .i64 (fw c full 2)),.val (.int .i64 (fw c full 3)),.val (.int .i64 (fw c full 4)),.val (.int .i64 (fw c full 5)),.val (.int .i64 (fw c full 6)),.val (.int .i64 t)]
def zF:Bool→Int→Int→Int
 |true,a,_=>a
 |false,_,b=>b
def Kr:Bool→Bool→Blk→Blk→Blk→Blk
 |_,true,_,_,z=>z
 |true,false,_,y,_=>y
 |false,false,x,_,_=>x
def mpA(c:Curve):Blk:=.map (qk true [.i .i64]) (λ_=>false) (vE c)
def mpB(c:Curve)(stamp:Value→Nat)(clk:Nat):Blk:=.mapS (qk true [.i .i64]) (qD (λ_=>false) (bk 0)) (qC (vE c) (bk 0) (.val (.int .i64 0))) stamp clk
def mpC(c:Curve):Blk:=.map (qk true [.i .i64]) (wq 0) (vE c)
theorem qhw(c:Curve):(.map (qk true [.i .i64]) (qD (λ_=>false) (bk 0)) (qC (qC (vE c) (bk 0) (.val (.int .i64 0))) (bk 0) (.val (.int .i64 0))):Blk)=mpC c:=by
 unfold mpC;rw[ZO]
 congr 1
 exact qfh c _ 0
theorem e88(c:Curve)(h:c.Fine)(full:Bool)(top turns:Nat)(ht:top≤400)(hu:turns≤400)(bid mid id:Nat)(rest:List (Nat×Blk))(hbm:bid≠mid)(hb:bid<id)(hm:mid<id)(hr:Under rest id) :
  EffVC Tryz.prog 88 [.ptr bid 0,I turns] ((bid,bdC c mid full top) ::(mid,bdM c top) :: rest) id (λhp' nid' res=>∃top',top'≤400∧hp'=(bid,bdC c mid full top') ::(mid,bdM c top') :: rest∧id≤nid'∧res=I (c.M turns)):=by
 refine yD (vo 5) follows Tryz.func88 rfl Ωa Ωa (by rw[Tryz.ntmps88];simp) λout=>?_;have h1:=h.m1;have h6:=h.m6;have NB:=VL hbm hb hm;have hz:=qoo c full;unfold I;by_cases hfast:turns<7∧¬zf c full
 ·have hg:=λa b t=>qkt c full a b t turns hfast.1
  (repeat' (first|refine sD ?_ ?_<;>intro _|refine aA ?_|simp -dsimp only[↓RP,RQ,xa0,reduceIte,reduceCtorEq,xa1,xa2,xa3,xa4,hz,hg,NB,xb1,xb2,TYn,Int.toNat_natCast,qK,qt,Tryz.results88]))
  all_goals first|(exfalso;omega)|(exfalso;exact hfast.2 (by assumption))|skip
  have hfull:full=true:=by
   cases full with
   |true=>rfl
   |false=>exact absurd (λj _=>rfl) hfast.2
  refine⟨_,_,_,zw (fr':=[(0,.val (.int .i64 (fw c full turns)))]) ⟨.inr rfl,trivial⟩ (SubHp.skip ?_ (SubHp.refl _)),top,ht,rfl,Ω,by rw[hfull];rfl⟩;simp only[blk,NB,if_false];exact hr.none (xa5 _)
 apply ZJ (P:=Tryz.prog) (O:=⟨out,id,false,vo 5⟩) (λ(x:Nat×Nat)=>x.1≤400∧x.1≤turns+6∧id+1≤x.2) (λx=>⟨[(1,.val (.int .i64 turns)),(2,.ptr id 0)],(id,.cells 152 [.ptr bid 0]) ::(bid,bdC c mid full x.1) ::(mid,bdM c x.1) :: rest,x.2⟩)
 case main=>
  intro key;(repeat' (first|refine sD ?_ ?_<;>intro _|refine aA ?_|simp -dsimp only[↓RP,RQ,xa0,reduceIte,reduceCtorEq,xa1,xa2,xa3,xa4,hz,NB,xb1,xb2,TYn,Int.toNat_natCast,qK,qt,Tryz.results88]))
  all_goals try(exfalso;omega)
  all_goals first|(exfalso;exact hfast ⟨Ω,(by assumption)⟩)|skip
  ·refine yE follows (λm st=>∃(stamp:Value→Nat)(clk nid:Nat),id+1≤nid∧st=⟨[(1,.val (.int .i64 turns)),(2,.ptr id 0),(36,up (m.testBit 0) (.ptr bid 0)),(37,up (m.testBit 1) (.ptr bid 0)),(38,up (m.testBit 2) (.ptr bid 1)),(39,up (m.testBit 3) (.mp mid)),(40,up (m.testBit 4) (.agg [.val (.int .i64 0)])),(41,up (m.testBit 5) (.ptr bid 0)),(42,up (m.testBit 6) (.tup [.val (.int .i64 0),.val (.int .i64 (stamp (bk 0)))])),(43,up (m.testBit 7) (.val (.int .i64 (stamp (bk 0))))),(44,up (m.testBit 9) (.ptr bid 0)),(45,up (m.testBit 10) (.ptr bid 9))],
    (id,.cells 152 [.ptr bid 0]) ::(bid,bdI c mid full (zF (m.testBit 11) 0 top)) ::(mid,Kr (m.testBit 6) (m.testBit 8) (mpA c) (mpB c stamp clk) (mpC c)) :: rest,nid⟩) (ms:=[0,1,3,7,0,0,31,95,223,511,1023,2047]) Ωa Ωa (zw (by simp[qI,Go.Sx.look,Go.Sx.up]) (λk x hx=>hx)) ⟨λ_=>0,0,_,Ω,rfl⟩ (qi ?_<|qi ?_<|qi ?_<|qi ?_<|qi ?_<|qi ?_<|qi ?_<|qi ?_<|qi ?_<|qi ?_<|qi ?_<|qi ?_<|wo) ?_
   ·rintro m st ⟨stamp,clk,nid,hn,rfl⟩ hcl hbit hd
    unfold opH;rw[qe];simp only[hbit,qd,qb,zF];refine .inl ?_;(simp -dsimp only[↓RP,RQ,xa0,reduceIte,reduceCtorEq,xa1,xa2,xa3,xa4,hn,NB,xb1,xb2,TYn,Int.toNat_natCast,qK,qt,Tryz.results88]);refine⟨_,Weak.refl _ _,stamp,clk,nid+1,Ω,?_⟩;simp only[Qqq,xa2,qd,qb,hbit,zF]
   ·rintro m st ⟨stamp,clk,nid,hn,rfl⟩ hcl hbit hd
    have q0:=hd 0 Ωd Ωd;unfold opH;rw[qe];simp only[q0,hbit,qd,qb,zF];refine .inl ?_;(simp -dsimp only[↓RP,RQ,xa0,reduceIte,reduceCtorEq,xa1,xa2,xa3,xa4,hn,NB,xb1,xb2,TYn,Int.toNat_natCast,qK,qt,Tryz.results88]);refine⟨_,Weak.refl _ _,stamp,clk,nid+1,Ω,?_⟩;simp only[Qqq,xa2,qd,qb,q0,hbit,zF]
   ·rintro m st ⟨stamp,clk,nid,hn,rfl⟩ hcl hbit hd
    have q1:=hd 1 Ωd Ωd;unfold opH;rw[qe];simp only[q1,hbit,qd,qb,zF];refine .inl ?_;(simp -dsimp only[↓RP,RQ,xa0,reduceIte,reduceCtorEq,xa1,xa2,xa3,xa4,hn,NB,xb1,xb2,TYn,Int.toNat_natCast,qK,qt,Tryz.results88]);refine⟨_,Weak.refl _ _,stamp,clk,nid+1,Ω,?_⟩;simp only[Qqq,xa2,qd,qb,q1,hbit,zF]
   ·rintro m st ⟨stamp,clk,nid,hn,rfl⟩ hcl hbit hd
    have q2:=hd 2 Ωd Ωd;unfold opH;rw[qe];simp only[q2,hbit,qd,qb,zF];refine .inl ?_;(simp -dsimp only[↓RP,RQ,xa0,reduceIte,reduceCtorEq,xa1,xa2,xa3,xa4,hn,NB,xb1,xb2,TYn,Int.toNat_natCast,qK,qt,Tryz.results88]);refine⟨_,Weak.refl _ _,stamp,clk,nid+1,Ω,?_⟩;simp only[Qqq,xa2,qd,qb,q2,hbit,zF]
   ·rintro m st ⟨stamp,clk,nid,hn,rfl⟩ hcl hbit hd
    unfold opH;rw[qe];simp only[hbit,qd,qb,zF];refine .inl ?_;(simp -dsimp only[↓RP,RQ,xa0,reduceIte,reduceCtorEq,xa1,xa2,xa3,xa4,hn,NB,xb1,xb2,TYn,Int.toNat_natCast,qK,qt,Tryz.results88]);refine⟨_,Weak.refl _ _,stamp,clk,nid+1,Ω,?_⟩;simp only[Qqq,xa2,qd,qb,hbit,zF]
   ·rintro m st ⟨stamp,clk,nid,hn,rfl⟩ hcl hbit hd
    unfold opH;rw[qe];simp only[hbit,qd,qb,zF];refine .inl ?_;(simp -dsimp only[↓RP,RQ,xa0,reduceIte,reduceCtorEq,xa1,xa2,xa3,xa4,hn,NB,xb1,xb2,TYn,Int.toNat_natCast,qK,qt,Tryz.results88]);refine⟨_,Weak.refl _ _,stamp,clk,nid+1,Ω,?_⟩;simp only[Qqq,xa2,qd,qb,hbit,zF]
   ·rintro m st ⟨stamp,clk,nid,hn,rfl⟩ hcl hbit hd
    have q3:=hd 3 Ωd Ωd;have q4:=hd 4 Ωd Ωd;have q7:m.testBit 7=false:=Bool.eq_false_iff.2 λh=>by have:=hcl 7 6 Ωd h;rw[hbit]at this;cases this
    have q8:m.testBit 8=false:=Bool.eq_false_iff.2 λh=>by have:=hcl 8 6 Ωd h;rw[hbit]at this;cases this
    unfold opH;rw[qe];simp only[q3,q4,q7,q8,hbit,qd,qb,Kr];refine .inr ⟨rfl,.inl (ZK (dom:=λ_=>false) (get:=vE c) (mid:=mid) Ωq (v:=bk 0) Ωq qlZ (by(simp -dsimp only[↓RP,RQ,xa0,reduceIte,reduceCtorEq,xa1,xa2,xa3,xa4,NB,mpA])) Ωq Ωq λst' clk'=>?_)⟩;refine⟨_,Weak.refl _ _,st',clk',nid,hn,?_⟩;(simp -dsimp only[↓RP,RQ,xa0,reduceIte,reduceCtorEq,xa1,xa2,xa3,xa4,NB]);simp only[Qqq,xa2,qd,qb,q3,q4,q7,q8,hbit,Kr,mpB]
   ·rintro m st ⟨stamp,clk,nid,hn,rfl⟩ hcl hbit hd
    have q6:=hd 6 Ωd Ωd;unfold opH;rw[qe];simp only[q6,hbit,qd,qb,zF];refine .inl ?_;(simp -dsimp only[↓RP,RQ,xa0,reduceIte,reduceCtorEq,xa1,xa2,xa3,xa4,hn,NB,xb1,xb2,TYn,Int.toNat_natCast,qK,qt,Tryz.results88]);refine⟨_,Weak.refl _ _,stamp,clk,nid+1,Ω,?_⟩;simp only[Qqq,xa2,qd,qb,q6,hbit,zF]
   ·rintro m st ⟨stamp,clk,nid,hn,rfl⟩ hcl hbit hd
    have q3:=hd 3 Ωd Ωd;have q7:=hd 7 Ωd Ωd;have q6:=hd 6 Ωd Ωd;unfold opH;rw[qe];simp only[q3,q7,q6,hbit,qd,qb,Kr];refine .inr ⟨rfl,.inr (ZL (kt:=282) (v:=bk 0) (mid:=mid) (ag:=true) (ls:=[.i .i64]) (dom:=qD (λ_=>false) (bk 0)) (get:=qC (vE c) (bk 0) (.val (.int .i64 0))) (stamp:=stamp) (clk:=clk) Ωa Ωq Ωq Ωq (by(simp -dsimp only[↓RP,RQ,xa0,reduceIte,reduceCtorEq,xa1,xa2,xa3,xa4,NB,mpB])) Ωq ?_)⟩;refine⟨_,Weak.refl _ _,stamp,clk,nid,hn,?_⟩;(simp -dsimp only[↓RP,RQ,xa0,reduceIte,reduceCtorEq,xa1,xa2,xa3,xa4,NB]);simp only[Qqq,xa2,qd,qb,q3,q7,q6,hbit,Kr,qhw]
   ·rintro m st ⟨stamp,clk,nid,hn,rfl⟩ hcl hbit hd
    have q5:=hd 5 Ωd Ωd;unfold opH;rw[qe];simp only[q5,hbit,qd,qb,zF];refine .inl ?_;(simp -dsimp only[↓RP,RQ,xa0,reduceIte,reduceCtorEq,xa1,xa2,xa3,xa4,hn,NB,xb1,xb2,TYn,Int.toNat_natCast,qK,qt,Tryz.results88]);refine⟨_,Weak.refl _ _,stamp,clk,nid+1,Ω,?_⟩;simp only[Qqq,xa2,qd,qb,q5,hbit,zF]
   ·rintro m st ⟨stamp,clk,nid,hn,rfl⟩ hcl hbit hd
    have q9:=hd 9 Ωd Ωd;unfold opH;rw[qe];simp only[q9,hbit,qd,qb,zF];refine .inl ?_;(simp -dsimp only[↓RP,RQ,xa0,reduceIte,reduceCtorEq,xa1,xa2,xa3,xa4,hn,NB,xb1,xb2,TYn,Int.toNat_natCast,qK,qt,Tryz.results88]);refine⟨_,Weak.refl _ _,stamp,clk,nid+1,Ω,?_⟩;simp only[Qqq,xa2,qd,qb,q9,hbit,zF]
   ·rintro m st ⟨stamp,clk,nid,hn,rfl⟩ hcl hbit hd
    have q10:=hd 10 Ωd Ωd;unfold opH;rw[qe];simp only[q10,hbit,qd,qb,zF];refine .inl ?_;(simp -dsimp only[↓RP,RQ,xa0,reduceIte,reduceCtorEq,xa1,xa2,xa3,xa4,hn,NB,xb1,xb2,TYn,Int.toNat_natCast,qK,qt,Tryz.results88]);refine⟨_,Weak.refl _ _,stamp,clk,nid+1,Ω,?_⟩;simp only[Qqq,xa2,qd,qb,q10,hbit,zF]
   ·rintro m st' ⟨stamp,clk,nid,hn,rfl⟩ hall
    simp only[hall 0 Ωd,hall 1 Ωd,hall 2 Ωd,hall 3 Ωd,hall 4 Ωd,hall 5 Ωd,hall 6 Ωd,hall 7 Ωd,hall 8 Ωd,hall 9 Ωd,hall 10 Ωd,hall 11 Ωd,qd,zF,Kr,mpC];(simp -dsimp only[↓RP,RQ,xa0,reduceIte,reduceCtorEq,xa1,xa2,xa3,xa4,NB,xb1,xb2,TYn,Int.toNat_natCast,qK,qt,Tryz.results88]);refine LoopOr.weak (key (0,_) ?_) (zw ?_ (SubHp.refl _))
    ·refine⟨?_,?_,?_⟩<;>simp only[]<;>omega
    ·simp[qI,Go.Sx.look]
  ·refine LoopOr.weak (key (top,_) ?_) (zw ?_ (SubHp.refl _))
   ·refine⟨?_,?_,?_⟩<;>simp only[]<;>omega
   ·simp[qI,Go.Sx.look]
  ·refine yE follows (λm st=>∃(stamp:Value→Nat)(clk nid:Nat),id+1≤nid∧st=⟨[(1,.val (.int .i64 turns)),(2,.ptr id 0),(36,up (m.testBit 0) (.ptr bid 0)),(37,up (m.testBit 1) (.ptr bid 0)),(38,up (m.testBit 2) (.ptr bid 1)),(39,up (m.testBit 3) (.mp mid)),(40,up (m.testBit 4) (.agg [.val (.int .i64 0)])),(41,up (m.testBit 5) (.ptr bid 0)),(42,up (m.testBit 6) (.tup [.val (.int .i64 0),.val (.int .i64 (stamp (bk 0)))])),(43,up (m.testBit 7) (.val (.int .i64 (stamp (bk 0))))),(44,up (m.testBit 9) (.ptr bid 0)),(45,up (m.testBit 10) (.ptr bid 9))],
    (id,.cells 152 [.ptr bid 0]) ::(bid,bdI c mid full (zF (m.testBit 11) 0 top)) ::(mid,Kr (m.testBit 6) (m.testBit 8) (mpA c) (mpB c stamp clk) (mpC c)) :: rest,nid⟩) (ms:=[0,1,3,7,0,0,31,95,223,511,1023,2047]) Ωa Ωa (zw (by simp[qI,Go.Sx.look,Go.Sx.up]) (λk x hx=>hx)) ⟨λ_=>0,0,_,Ω,rfl⟩ (qi ?_<|qi ?_<|qi ?_<|qi ?_<|qi ?_<|qi ?_<|qi ?_<|qi ?_<|qi ?_<|qi ?_<|qi ?_<|qi ?_<|wo) ?_
   ·rintro m st ⟨stamp,clk,nid,hn,rfl⟩ hcl hbit hd
    unfold opH;rw[qe];simp only[hbit,qd,qb,zF];refine .inl ?_;(simp -dsimp only[↓RP,RQ,xa0,reduceIte,reduceCtorEq,xa1,xa2,xa3,xa4,hn,NB,xb1,xb2,TYn,Int.toNat_natCast,qK,qt,Tryz.results88]);refine⟨_,Weak.refl _ _,stamp,clk,nid+1,Ω,?_⟩;simp only[Qqq,xa2,qd,qb,hbit,zF]
   ·rintro m st ⟨stamp,clk,nid,hn,rfl⟩ hcl hbit hd
    have q0:=hd 0 Ωd Ωd;unfold opH;rw[qe];simp only[q0,hbit,qd,qb,zF];refine .inl ?_;(simp -dsimp only[↓RP,RQ,xa0,reduceIte,reduceCtorEq,xa1,xa2,xa3,xa4,hn,NB,xb1,xb2,TYn,Int.toNat_natCast,qK,qt,Tryz.results88]);refine⟨_,Weak.refl _ _,stamp,clk,nid+1,Ω,?_⟩;simp only[Qqq,xa2,qd,qb,q0,hbit,zF]
   ·rintro m st ⟨stamp,clk,nid,hn,rfl⟩ hcl hbit hd
    have q1:=hd 1 Ωd Ωd;unfold opH;rw[qe];simp only[q1,hbit,qd,qb,zF];refine .inl ?_;(simp -dsimp only[↓RP,RQ,xa0,reduceIte,reduceCtorEq,xa1,xa2,xa3,xa4,hn,NB,xb1,xb2,TYn,Int.toNat_natCast,qK,qt,Tryz.results88]);refine⟨_,Weak.refl _ _,stamp,clk,nid+1,Ω,?_⟩;simp only[Qqq,xa2,qd,qb,q1,hbit,zF]
   ·rintro m st ⟨stamp,clk,nid,hn,rfl⟩ hcl hbit hd
    have q2:=hd 2 Ωd Ωd;unfold opH;rw[qe];simp only[q2,hbit,qd,qb,zF];refine .inl ?_;(simp -dsimp only[↓RP,RQ,xa0,reduceIte,reduceCtorEq,xa1,xa2,xa3,xa4,hn,NB,xb1,xb2,TYn,Int.toNat_natCast,qK,qt,Tryz.results88]);refine⟨_,Weak.refl _ _,stamp,clk,nid+1,Ω,?_⟩;simp only[Qqq,xa2,qd,qb,q2,hbit,zF]
   ·rintro m st ⟨stamp,clk,nid,hn,rfl⟩ hcl hbit hd
    unfold opH;rw[qe];simp only[hbit,qd,qb,zF];refine .inl ?_;(simp -dsimp only[↓RP,RQ,xa0,reduceIte,reduceCtorEq,xa1,xa2,xa3,xa4,hn,NB,xb1,xb2,TYn,Int.toNat_natCast,qK,qt,Tryz.results88]);refine⟨_,Weak.refl _ _,stamp,clk,nid+1,Ω,?_⟩;simp only[Qqq,xa2,qd,qb,hbit,zF]
   ·rintro m st ⟨stamp,clk,nid,hn,rfl⟩ hcl hbit hd
    unfold opH;rw[qe];simp only[hbit,qd,qb,zF];refine .inl ?_;(simp -dsimp only[↓RP,RQ,xa0,reduceIte,reduceCtorEq,xa1,xa2,xa3,xa4,hn,NB,xb1,xb2,TYn,Int.toNat_natCast,qK,qt,Tryz.results88]);refine⟨_,Weak.refl _ _,stamp,clk,nid+1,Ω,?_⟩;simp only[Qqq,xa2,qd,qb,hbit,zF]
   ·rintro m st ⟨stamp,clk,nid,hn,rfl⟩ hcl hbit hd
    have q3:=hd 3 Ωd Ωd;have q4:=hd 4 Ωd Ωd;have q7:m.testBit 7=false:=Bool.eq_false_iff.2 λh=>by have:=hcl 7 6 Ωd h;rw[hbit]at this;cases this
    have q8:m.testBit 8=false:=Bool.eq_false_iff.2 λh=>by have:=hcl 8 6 Ωd h;rw[hbit]at this;cases this
    unfold opH;rw[qe];simp only[q3,q4,q7,q8,hbit,qd,qb,Kr];refine .inr ⟨rfl,.inl (ZK (dom:=λ_=>false) (get:=vE c) (mid:=mid) Ωq (v:=bk 0) Ωq qlZ (by(simp -dsimp only[↓RP,RQ,xa0,reduceIte,reduceCtorEq,xa1,xa2,xa3,xa4,NB,mpA])) Ωq Ωq λst' clk'=>?_)⟩;refine⟨_,Weak.refl _ _,st',clk',nid,hn,?_⟩;(simp -dsimp only[↓RP,RQ,xa0,reduceIte,reduceCtorEq,xa1,xa2,xa3,xa4,NB]);simp only[Qqq,xa2,qd,qb,q3,q4,q7,q8,hbit,Kr,mpB]
   ·rintro m st ⟨stamp,clk,nid,hn,rfl⟩ hcl hbit hd
    have q6:=hd 6 Ωd Ωd;unfold opH;rw[qe];simp only[q6,hbit,qd,qb,zF];refine .inl ?_;(simp -dsimp only[↓RP,RQ,xa0,reduceIte,reduceCtorEq,xa1,xa2,xa3,xa4,hn,NB,xb1,xb2,TYn,Int.toNat_natCast,qK,qt,Tryz.results88]);refine⟨_,Weak.refl _ _,stamp,clk,nid+1,Ω,?_⟩;simp only[Qqq,xa2,qd,qb,q6,hbit,zF]
   ·rintro m st ⟨stamp,clk,nid,hn,rfl⟩ hcl hbit hd
    have q3:=hd 3 Ωd Ωd;have q7:=hd 7 Ωd Ωd;have q6:=hd 6 Ωd Ωd;unfold opH;rw[qe];simp only[q3,q7,q6,hbit,qd,qb,Kr];refine .inr ⟨rfl,.inr (ZL (kt:=282) (v:=bk 0) (mid:=mid) (ag:=true) (ls:=[.i .i64]) (dom:=qD (λ_=>false) (bk 0)) (get:=qC (vE c) (bk 0) (.val (.int .i64 0))) (stamp:=stamp) (clk:=clk) Ωa Ωq Ωq Ωq (by(simp -dsimp only[↓RP,RQ,xa0,reduceIte,reduceCtorEq,xa1,xa2,xa3,xa4,NB,mpB])) Ωq ?_)⟩;refine⟨_,Weak.refl _ _,stamp,clk,nid,hn,?_⟩;(simp -dsimp only[↓RP,RQ,xa0,reduceIte,reduceCtorEq,xa1,xa2,xa3,xa4,NB]);simp only[Qqq,xa2,qd,qb,q3,q7,q6,hbit,Kr,qhw]
   ·rintro m st ⟨stamp,clk,nid,hn,rfl⟩ hcl hbit hd
    have q5:=hd 5 Ωd Ωd;unfold opH;rw[qe];simp only[q5,hbit,qd,qb,zF];refine .inl ?_;(simp -dsimp only[↓RP,RQ,xa0,reduceIte,reduceCtorEq,xa1,xa2,xa3,xa4,hn,NB,xb1,xb2,TYn,Int.toNat_natCast,qK,qt,Tryz.results88]);refine⟨_,Weak.refl _ _,stamp,clk,nid+1,Ω,?_⟩;simp only[Qqq,xa2,qd,qb,q5,hbit,zF]
   ·rintro m st ⟨stamp,clk,nid,hn,rfl⟩ hcl hbit hd
    have q9:=hd 9 Ωd Ωd;unfold opH;rw[qe];simp only[q9,hbit,qd,qb,zF];refine .inl ?_;(simp -dsimp only[↓RP,RQ,xa0,reduceIte,reduceCtorEq,xa1,xa2,xa3,xa4,hn,NB,xb1,xb2,TYn,Int.toNat_natCast,qK,qt,Tryz.results88]);refine⟨_,Weak.refl _ _,stamp,clk,nid+1,Ω,?_⟩;simp only[Qqq,xa2,qd,qb,q9,hbit,zF]
   ·rintro m st ⟨stamp,clk,nid,hn,rfl⟩ hcl hbit hd
    have q10:=hd 10 Ωd Ωd;unfold opH;rw[qe];simp only[q10,hbit,qd,qb,zF];refine .inl ?_;(simp -dsimp only[↓RP,RQ,xa0,reduceIte,reduceCtorEq,xa1,xa2,xa3,xa4,hn,NB,xb1,xb2,TYn,Int.toNat_natCast,qK,qt,Tryz.results88]);refine⟨_,Weak.refl _ _,stamp,clk,nid+1,Ω,?_⟩;simp only[Qqq,xa2,qd,qb,q10,hbit,zF]
   ·rintro m st' ⟨stamp,clk,nid,hn,rfl⟩ hall
    simp only[hall 0 Ωd,hall 1 Ωd,hall 2 Ωd,hall 3 Ωd,hall 4 Ωd,hall 5 Ωd,hall 6 Ωd,hall 7 Ωd,hall 8 Ωd,hall 9 Ωd,hall 10 Ωd,hall 11 Ωd,qd,zF,Kr,mpC];(simp -dsimp only[↓RP,RQ,xa0,reduceIte,reduceCtorEq,xa1,xa2,xa3,xa4,NB,xb1,xb2,TYn,Int.toNat_natCast,qK,qt,Tryz.results88]);refine LoopOr.weak (key (0,_) ?_) (zw ?_ (SubHp.refl _))
    ·refine⟨?_,?_,?_⟩<;>simp only[]<;>omega
    ·simp[qI,Go.Sx.look]
  ·refine LoopOr.weak (key (top,_) ?_) (zw ?_ (SubHp.refl _))
   ·refine⟨?_,?_,?_⟩<;>simp only[]<;>omega
   ·simp[qI,Go.Sx.look]
 case key=>
  intro x hx;refine qo (λ(x:Nat×Nat)=>x.1≤400∧x.1≤turns+6∧id+1≤x.2) (λx=>⟨[(1,.val (.int .i64 turns)),(2,.ptr id 0)],(id,.cells 152 [.ptr bid 0]) ::(bid,bdC c mid full x.1) ::(mid,bdM c x.1) :: rest,x.2⟩) (λx=>turns - x.1) x hx (Weak.refl _ _) λx hx=>?_;obtain⟨T,nid⟩:=x;obtain⟨hT1,hT2,hn⟩:=hx
  replace hT1:T≤400:=hT1
  replace hT2:T≤turns+6:=hT2
  replace hn:id+1≤nid:=hn
  have NB:=zp (a:=bid) (b:=mid) (c:=id) (n:=nid) hbm Ω Ω Ω Ω Ω;have hM:=M_bound h;by_cases hlt:T<turns
  ·(repeat' (first|refine sD ?_ ?_<;>intro _|refine aA ?_|simp -dsimp only[↓RP,RQ,xa0,reduceIte,reduceCtorEq,xa1,xa2,xa3,xa4,NB,QS,TYn,Int.toNat_natCast,Tryz.results88]))
   all_goals try(exfalso;omega)
   refine zY (qpo c ((T:Int)+1)) Ωh ?_;(repeat' (first|refine sD ?_ ?_<;>intro _|refine aA ?_|simp -dsimp only[↓RP,RQ,xa0,reduceIte,reduceCtorEq,xa1,xa2,xa3,xa4,NB,QS,TYn,Int.toNat_natCast,Tryz.results88]));refine qkk (ps:=[68,69]) follows (λn=>by rfl) Ωq Tryz.func285 rfl Ωa Ωa (by rw[Tryz.results285]) (by rw[Tryz.ntmps285];simp) λout2 L R=>?_;(repeat' (first|refine sD ?_ ?_<;>intro _|refine aA ?_|simp -dsimp only[↓RP,RQ,xa0,reduceIte,reduceCtorEq,xa1,xa2,xa3,xa4,Curve.sv,ints,I,NB,QS,TYn,Int.toNat_natCast,Tryz.results88,Tryz.results285]));have hrd:=λk=>hr.drop (m:=nid) Ω k;refine qo (λ(x:Nat×Nat)=>x.1≤min c.m (T+1)∧nid+26≤x.2) (λx=>⟨[(0,.yld (nid+25)),(1,.ref true 1 λ_=>.arr false false c.m 1 λi _=>.val (.int .i64 (c.u i))),(2,.ref true 1 λ_=>.val (.int .i64 ((T:Int)+1))),(7,.arr false false c.m 1 λi _=>.val (.int .i64 (c.u i))),(8,.val (.int .i64 c.m)),(9,.val (.int .i64 x.1))],
    (nid+25,.loop L .ready) ::(nid+14,.cells 2 [.val (.int .i64 (bst c T x.1))]) ::(id,.cells 152 [.ptr bid 0]) ::(bid,bdI c mid full ((T:Int)+1)) ::(mid,bdM c T) :: rest,x.2⟩) (λx=>min c.m (T+1) - x.1) (0,_) ⟨xb6 _,?_⟩ (zw Ωc (SubHp.refl _)) λx hx=>?_
   ·simp only[];omega
   obtain⟨p,nid2⟩:=x;obtain⟨hp1,hn2⟩:=hx
   replace hp1:p≤min c.m (T+1):=hp1
   replace hn2:nid+26≤nid2:=hn2
   have hbb:=qff c h T p Ω Ω;have hpi:((p:Nat):Int)+1≤7:=by omega
   by_cases hpl:p<min c.m (T+1)
   ·have hup:=h.rg p Ω
    have hMp:=hM (T - p);have er:(T:Int)+1 -((p:Int)+1)=((T - p:Nat):Int):=by omega
    have hk1:wq T (.agg #[.int .i64 ((T - p:Nat):Int)])=true:=qcG T (T - p) Ω;have hg1:vE c (.agg #[.int .i64 ((T - p:Nat):Int)])=.val (.int .i64 (c.M (T - p))):=KB c (T - p);have hs:=qhu c h T p Ω;rw[Int.add_comm (c.M (T - p))]at hs;(repeat' (first|refine sD ?_ ?_<;>intro _|refine aA ?_|simp -dsimp only[↓RP,RQ,xa0,reduceIte,reduceCtorEq,xa1,xa2,xa3,xa4,NB,QS,TYn,Int.toNat_natCast,Tryz.results88,Tryz.results285]))
    all_goals try(exfalso;omega)
    refine qgH follows Ωq R (Q3 _ _ _) Ωq λout3=>?_;(repeat' (first|refine sD ?_ ?_<;>intro _|refine aA ?_|simp -dsimp only[↓RP,RQ,xa0,reduceIte,reduceCtorEq,xa1,xa2,xa3,xa4,er,hk1,hg1,NB,QS,TYn,Int.toNat_natCast,Tryz.results88,Tryz.results285]))
    all_goals try(exfalso;omega)
    ·rw[if_pos Ω]at hs
     refine⟨(p+1,_),⟨by simp only[];omega,?_⟩,by simp only[];omega,zw ?_ ?_⟩
     ·simp only[];omega
     ·simp[qI,Go.Sx.look]
     ·simp only[hs];exact SubHp.refl _
    ·rw[if_pos Ω]at hs
     refine⟨(p+1,_),⟨by simp only[];omega,?_⟩,by simp only[];omega,zw ?_ ?_⟩
     ·simp only[];omega
     ·simp[qI,Go.Sx.look]
     ·simp only[hs];exact SubHp.refl _
    ·rw[if_neg Ω]at hs
     refine⟨(p+1,_),⟨by simp only[];omega,?_⟩,by simp only[];omega,zw ?_ ?_⟩
     ·simp only[];omega
     ·simp[qI,Go.Sx.look]
     ·simp only[hs];exact SubHp.refl _
   ·have hpe:p=min c.m (T+1):=by omega
    have hbe:=qks c h T;have NB2:=zp (a:=bid) (b:=mid) (c:=id) (n:=nid2) hbm Ω Ω Ω Ω Ω;have NB3:=VL (a:=nid+14) (b:=nid+25) (n:=nid2) Ω Ω Ω;rw[←hpe]at hbe;have ep:qC (vE c) (.agg #[.int .i64 ((T:Int)+1)]) (.val (.int .i64 (c.M (T+1))))=vE c:=qhv c (T+1);by_cases h12:T+1=12
    ·have ed:qD (wq T) (.agg #[.int .i64 ((T:Int)+1)])=wq (T+1):=Yo T h12
     (repeat' (first|refine sD ?_ ?_<;>intro _|refine aA ?_|simp -dsimp only[↓RP,RQ,xa0,reduceIte,reduceCtorEq,xa1,xa2,xa3,xa4,ep,ed,hrd,hbe,NB2,NB3,NB,QS,TYn,Int.toNat_natCast,Tryz.results88,Tryz.results285]))
     all_goals try(exfalso;omega)
     all_goals
      refine⟨(T+1,_),⟨by simp only[];omega,by simp only[];omega,?_⟩,by simp only[];omega,zw ?_ ?_⟩
      ·simp only[];omega
      ·simp[qI,Go.Sx.look]
      ·refine SubHp.skip ?_ (SubHp.skip ?_ (SubHp.refl _))
       ·simp only[blk,NB,NB2,NB3,if_false];exact hr.none Ω
       ·simp only[blk,NB,NB2,NB3,if_false];exact hr.none Ω
    ·have ed:ki (qD (wq T) (.agg #[.int .i64 ((T:Int)+1)])) (.agg #[.int .i64 ((T:Int)+1 - 12)])=wq (T+1):=qfg T h12
     (repeat' (first|refine sD ?_ ?_<;>intro _|refine aA ?_|simp -dsimp only[↓RP,RQ,xa0,reduceIte,reduceCtorEq,xa1,xa2,xa3,xa4,ep,ed,hrd,hbe,NB2,NB3,NB,QS,TYn,Int.toNat_natCast,Tryz.results88,Tryz.results285]))
     all_goals try(exfalso;omega)
     all_goals
      refine⟨(T+1,_),⟨by simp only[];omega,by simp only[];omega,?_⟩,by simp only[];omega,zw ?_ ?_⟩
      ·simp only[];omega
      ·simp[qI,Go.Sx.look]
      ·refine SubHp.skip ?_ (SubHp.skip ?_ (SubHp.refl _))
       ·simp only[blk,NB,NB2,NB3,if_false];exact hr.none Ω
       ·simp only[blk,NB,NB2,NB3,if_false];exact hr.none Ω
  ·have hk:wq T (.agg #[.int .i64 turns])=true:=qcG T turns Ω
   have hg:vE c (.agg #[.int .i64 turns])=.val (.int .i64 (c.M turns)):=KB c turns;(repeat' (first|refine sD ?_ ?_<;>intro _|refine aA ?_|simp -dsimp only[↓RP,RQ,xa0,reduceIte,reduceCtorEq,xa1,xa2,xa3,xa4,hk,hg,NB,QS,TYn,Int.toNat_natCast,Tryz.results88]))
   all_goals try(exfalso;omega)
   refine⟨_,_,_,zw (fr':=[(0,.val (.int .i64 (c.M turns)))]) ⟨.inr rfl,trivial⟩ (SubHp.skip ?_ (SubHp.refl _)),T,hT1,rfl,Ω,rfl⟩;simp only[blk,NB,if_false];exact hr.none (xa5 _)
end Go.Tl
end
section
namespace Go.Tl
open Go.Proofs
open Go.Sx
def fk(c:Curve)(k j:Nat):Int:=if j<k then c.M j else 0
abbrev fkB(c:Curve)(k:Nat):Blk:=.cells 278 [.val (.int .i64 (fk c k 0)),.val (.int .i64 (fk c k 1)),.val (.int .i64 (fk c k 2)),.val (.int .i64 (fk c k 3)),.val (.int .i64 (fk c k 4)),.val (.int .i64 (fk c k 5)),.val (.int .i64 (fk c k 6))]
theorem qmP(c:Curve)(h:c.Fine)(id:Nat):EffVC Tryz.prog 111 [c.sv] [] id (λhp' nid' res=>∃bid mid top,bid≠mid∧bid<nid'∧mid<nid'∧id≤bid∧id≤mid∧top≤400∧hp'=[(bid,bdC c mid true top),(mid,bdM c top)]∧res=.ptr bid 0):=by
 refine Qp follows Tryz.func111 rfl Ωa Ωa (by rw[Tryz.ntmps111];simp) λout=>?_;unfold Curve.sv ints;(repeat' (first|refine sD ?_ ?_<;>intro _|refine aA ?_|simp -dsimp only[↓RP,RQ,seval,QS,TYn,Int.toNat_natCast,Tryz.results111]));refine qo (λ(x:Nat×Nat×Nat)=>x.1≤7∧x.2.1≤400∧id+12≤x.2.2) (λx=>⟨[(3,.ptr (id+8) 0),(4,.ptr (id+10) 0),(13,.val (.int .i64 x.1))],[(id+8,bdC c (id+3) false x.2.1),(id+3,bdM c x.2.1),(id+10,fkB c x.1)],x.2.2⟩) (λx=>7 - x.1) (0,0,_) ⟨by simp only[];omega,by simp only[];omega,?_⟩ (Weak.trans (qoh (mid:=id+3) (fit:=qk true [.i .i64]) (dom:=qD (λ_=>false) (bk 0)) (get:=qC (λ_=>.top) (bk 0) (.val (.int .i64 0))) (get':=vE c) ?_ ?_) (zw ?_ ?_)) λx hx=>?_
 ·exact xa5 _
 ·(simp -dsimp only[↓RP,RQ,seval,jg,jh]);rfl
 ·intro v hv
  rw[ZO]at hv;unfold wq at hv;simp only[xe6]at hv;obtain⟨n,rfl⟩:=qcF hv.1;have:n=0:=by
   have:=hv.2;rw[Yn]at this;simp at this;omega
  subst this;rfl
 ·simp[qI,Go.Sx.look]
 ·intro k x hx
  by_cases h1:k=id+8
  ·subst h1
   simp[blk]at hx;simp[blk,setBlk,←hx,fw,fk]
  ·by_cases h2:k=id+3
   ·subst h2
    simp[blk]at hx;simp[blk,setBlk,←hx,ZO]
   ·by_cases h3:k=id+10
    ·subst h3
     simp[blk]at hx;simp[blk,setBlk,←hx,fw,fk]
    ·simp[blk,h1,h2,h3]at hx
 obtain⟨k,top,nid⟩:=x;obtain⟨hk,ht,hn⟩:=hx
 replace hk:k≤7:=hk
 replace ht:top≤400:=ht
 replace hn:id+12≤nid:=hn
 have NB:=zp (a:=id+8) (b:=id+3) (c:=id+10) (n:=nid) Ω Ω Ω Ω Ω Ω;by_cases hlt:k<7
 ·(repeat' (first|refine sD ?_ ?_<;>intro _|refine aA ?_|simp -dsimp only[↓RP,RQ,seval,NB,QS,TYn,Int.toNat_natCast,Tryz.results111]))
  all_goals try(exfalso;omega)
  refine j5 Ωq (e88 c h false top k ht Ω (id+8) (id+3) _ [(id+10,fkB c k)] Ω Ω Ω (Under.nil.cons Ω)) λhp' nid' res ⟨top',ht',q1,hn',q2⟩=>?_;subst q1 q2;have hk7:k=0∨k=1∨k=2∨k=3∨k=4∨k=5∨k=6:=by omega
  obtain⟨k2,hk2⟩:∃k2,k2=k+1:=⟨_,rfl⟩;rcases hk7 with rfl|rfl|rfl|rfl|rfl|rfl|rfl
  all_goals
   (repeat' (first|refine sD ?_ ?_<;>intro _|refine aA ?_|simp -dsimp only[↓RP,RQ,seval,NB,I,QS,TYn,Int.toNat_natCast,Tryz.results111]))
   all_goals try(exfalso;omega)
   refine⟨(k2,top',_),⟨?_,?_,?_⟩,?_,zw ?_ ?_⟩
   rotate_left 4
   ·subst hk2;simp[qI,Go.Sx.look]
   ·subst hk2;exact SubHp.refl _
   ·simp only[];omega
   ·simp only[];omega
   ·simp only[];omega
   ·simp only[];omega
 ·have hke:k=7:=by omega
  subst hke;(repeat' (first|refine sD ?_ ?_<;>intro _|refine aA ?_|simp -dsimp only[↓RP,RQ,seval,NB,QS,TYn,Int.toNat_natCast,Tryz.results111]))
  all_goals try(exfalso;omega)
  refine⟨_,_,_,zw (fr':=[(0,.ptr (id+8) 0)]) ⟨.inr rfl,trivial⟩ ?_,id+8,id+3,top,Ω,Ω,Ω,Ω,Ω,ht,rfl,rfl⟩;intro k x hx;by_cases h1:k=id+8
  ·subst h1
   simp[blk]at hx;simp[blk,←hx,fw,fk]
  ·by_cases h2:k=id+3
   ·subst h2
    simp[blk]at hx;simp[blk,←hx]
   ·simp[blk,h1,h2]at hx
end Go.Tl
end
section
namespace Go.Tl
open Go.Proofs
open Go.Sx
def mostV(c:Curve)(t:Int):Int×Int:=if c.err=0 then(if 0≤t∧t≤200 then(c.M t.toNat,0)else(0,3))else(0,c.err)
theorem c44(c:Curve)(hm:c.m≤1000000)(t:Int):qc Tryz.prog 44 [c.sv,I t] (.tup [I (mostV c t).1,I (mostV c t).2]):=by
 refine qh Tryz.func44 rfl Ωa follows Ωa _ _ (by rw[Tryz.ntmps44];simp) (by simp[OldL,c.old];simp[Old,I]) ?_;unfold I
 conv=>arg 4;unfold Curve.sv ints
 (repeat' (first|refine sD ?_ ?_<;>intro _|refine aA ?_|simp -dsimp only[↓RP,RQ,seval,TYn,Tryz.results44]));refine qq (c82 c hm) Ωh Ωe ?_;(repeat' (first|refine sD ?_ ?_<;>intro _|refine aA ?_|simp -dsimp only[↓RP,RQ,seval,I,TYn,Tryz.results44]))
 rotate_left
 ·rename_i he
  unfold mostV;rw[if_neg he];exact⟨rfl,rfl⟩
 rename_i he;have hf:=Curve.fine he;refine qq (qbm t 0 200) Ωj Ωf ?_;(repeat' (first|refine sD ?_ ?_<;>intro _|refine aA ?_|simp -dsimp only[↓RP,RQ,seval,B,TYn,Tryz.results44]))
 rotate_left
 ·rename_i ht
  unfold mostV;rw[if_pos he,if_neg ht];exact⟨rfl,rfl⟩
 rename_i ht;obtain⟨k,rfl⟩:∃k:Nat,t=k:=⟨t.toNat,Ω⟩;have e0:mostV c k=(c.M k,0):=by unfold mostV;rw[if_pos he,if_pos ht];rfl
 rw[e0];refine j5 Ωq (EffVC.sub (hp2:=[]) (λk x hx=>by simp[blk]at hx) (qmP c hf _)) λhp' nid' res ⟨bid,mid,top,q1,q2,q3,q4,q5,q6,q7,q8⟩=>?_;subst q7 q8;(repeat' (first|refine sD ?_ ?_<;>intro _|refine aA ?_|simp -dsimp only[↓RP,RQ,seval,TYn,Tryz.results44]));refine j5 Ωq (e88 c hf true top k q6 Ω bid mid _ [] q1 Ω Ω Under.nil) λhp' nid2 res ⟨top',ht',r1,hn',r2⟩=>?_;subst r1 r2;(repeat' (first|refine sD ?_ ?_<;>intro _|refine aA ?_|simp -dsimp only[↓RP,RQ,seval,I,TYn,Tryz.results44]))
end Go.Tl
end
section
namespace Go.Tl
open Go.Proofs
open Go.Sx
theorem qpp(N:Nat)(f:Nat→Int)(hN:N≤1000)(hf:∀i,i<N→0≤f i∧f i≤1000000000):qZ Tryz.prog 116 [ints N f] (.rows 2 1 (N - 1) (λj _=>I (f (j+1) - f j))) (.vec 0 (N - 1) 1):=by
 refine gD Tryz.func116 rfl Ωa follows Ωa _ _ _ (by rw[Tryz.ntmps116];simp) (by simp[OldL,Old,ints]) ?_;unfold I
 conv=>arg 4;unfold ints
 (repeat' (first|refine sD ?_ ?_<;>intro _|refine aA ?_|simp -dsimp only[↓RP,RQ,seval,by2,TYn,Int.toNat_natCast,Tryz.results116]));refine qo (λ(t:Nat)=>t≤N - 1) (λt=>⟨[(0,.arr false false N 1 (λi _=>.val (.int .i64 (f i)))),(3,.vec 60 t 1),(4,.val (.int .i64 ((t:Int)+1)))],[(60,.rows 2 1 t (λj _=>.val (.int .i64 (f (j+1) - f j))))],61⟩) (λt=>N - 1 - t) 0 (xb6 _) (weak [(60,none)] [] ?_ ?_ ?_) λt ht=>?_
 ·(simp -dsimp only[↓RP,RQ,seval]);all_goals simp
 ·(simp -dsimp only[↓RP,RQ,seval]);all_goals simp
 ·(simp -dsimp only[↓RP,RQ,seval]);all_goals simp
 by_cases hlt:t<N - 1
 ·have b1:=hf t Ω
  have b2:=hf (t+1) Ω;have eP:(t:Int)+1=((t+1:Nat):Int):=by omega
  have eM:((t+1:Nat):Int) - 1=(t:Int):=by omega
  (repeat' (first|refine sD ?_ ?_<;>intro _|refine aA ?_|simp -dsimp only[↓RP,RQ,seval,eP,eM,by2,TYn,Int.toNat_natCast,Tryz.results116]))
  all_goals try(exfalso;omega)
  refine⟨⟨xa5 _,.inr trivial,Ω⟩,by(first|exact True.intro|(simp only[InK];omega)|omega|(simp only[InK,ne_eq,and_true,true_and];omega)|trivial),t+1,Ω,Ω,weak [(60,some 82)] [] ?_ ?_ ?_⟩
  ·(simp -dsimp only[↓RP,RQ,seval]);all_goals simp
  ·(simp -dsimp only[↓RP,RQ,seval]);all_goals (try simp)
   exact λa h1 h2=>qph (λj=>.val (.int .i64 (f (j+1) - f j))) t a h1 h2
  ·(simp -dsimp only[↓RP,RQ,seval]);all_goals simp
 ·have hte:t=N - 1:=by omega
  (repeat' (first|refine sD ?_ ?_<;>intro _|refine aA ?_|simp -dsimp only[↓RP,RQ,seval,by2,TYn,Int.toNat_natCast,Tryz.results116]))
  all_goals try(exfalso;omega)
  refine⟨60,_,rfl,?_,?_⟩
  ·(simp -dsimp only[↓RP,RQ,seval,I,←hte]);all_goals (try simp)
  ·(simp -dsimp only[↓RP,RQ,seval,hte])
end Go.Tl
end
section
namespace Go.Tl
open Go.Proofs
open Go.Sx
variable{t:Nat}
def fk1(P:Nat→Bool)(i:Nat):Nat→Nat
 |0=>0
 |n+1=>if P i=true then i else fk1 P (i+1) n
def brkP(c a:Curve)(t k:Nat):Bool:=decide (c.M k<sumTo a.u (t+k) - sumTo a.u t)
def Jp(c a:Curve)(t:Nat):Nat:=fk1 (brkP c a t) 1 (a.m - t)
def brkF(c a:Curve)(t:Nat):Nat→Nat×Nat
 |0=>(0,0)
 |n+1=>if Jp c a t=0 then brkF c a (t+1) n else(t,Jp c a t)
def brkV(p:Nat×Nat):Int×Int×Int:=if p.2=0 then(0,0,5)else((p.1:Int),(p.2:Int),0)
def breakV(c a:Curve):Int×Int×Int:=if c.err=0 then(if a.rErr=0 then brkV (brkF c a 0 a.m)else(0,0,a.rErr))else(0,0,c.err)
theorem qcH(P:Nat→Bool):∀n i,1≤i→P i=true→fk1 P i (n+1)=i:=λn i _ h=>by simp only[fk1,h,if_true]
theorem Yp(P:Nat→Bool)(n i:Nat)(h:P i=false):fk1 P i (n+1)=fk1 P (i+1) n:=by simp only[fk1,h];rfl
theorem Yq{c a:Curve}{n:Nat}(h:Jp c a t≠0):brkF c a t (n+1)=(t,Jp c a t):=by simp only[brkF];rw[if_neg h]
theorem JU{c a:Curve}{n:Nat}(h:Jp c a t=0):brkF c a t (n+1)=brkF c a (t+1) n:=by simp only[brkF];rw[if_pos h]
theorem qhx{k:Nat}(h:1≤k):brkV (t,k)=((t:Int),(k:Int),0):=by unfold brkV;rw[if_neg (by simp only[];omega)]
theorem c46(c a:Curve)(hm:c.m≤1000000)(hm2:a.m≤1000000):qc Tryz.prog 46 [c.sv,a.sv] (tup3 (breakV c a)):=by
 refine kG (vo 16) Tryz.func46 rfl Ωa follows Ωa _ _ (by rw[Tryz.ntmps46];simp) (by simp[OldL,c.old,a.old]) ?_;unfold tup3 I
 conv=>arg 4;unfold Curve.sv ints
 (repeat' (first|refine sD ?_ ?_<;>intro _|refine aA ?_|simp -dsimp only[↓RP,RQ,xa0,reduceIte,reduceCtorEq,xa1,xa2,xa3,xa4,TYn,Tryz.results46]));refine qq (c82 c hm) Ωh Ωe ?_;(repeat' (first|refine sD ?_ ?_<;>intro _|refine aA ?_|simp -dsimp only[↓RP,RQ,xa0,reduceIte,reduceCtorEq,xa1,xa2,xa3,xa4,I,TYn,Tryz.results46]))
 rotate_left
 ·rename_i he
  unfold breakV;rw[if_neg he];exact⟨rfl,rfl,rfl⟩
 rename_i he;have hf:=Curve.fine he;refine qq (qpm 1 (λ_=>a) Ω (λi hi=>hm2)) ?_ Ωe ?_
 ·(simp -dsimp only[↓RP,RQ,xa0,reduceIte,reduceCtorEq,xa1,xa2,xa3,xa4,chn])
  intro i j hi hj;rw[qmI _ i j hi hj];exact qA _ a.old
 rw[qhq];(repeat' (first|refine sD ?_ ?_<;>intro _|refine aA ?_|simp -dsimp only[↓RP,RQ,xa0,reduceIte,reduceCtorEq,xa1,xa2,xa3,xa4,I,TYn,Tryz.results46]))
 rotate_left
 ·rename_i hr
  unfold breakV;rw[if_pos he,if_neg hr];exact⟨rfl,rfl,rfl⟩
 rename_i hr;have ra:=qhp hr;have a60:=ra.m60;have e0:breakV c a=brkV (brkF c a 0 a.m):=by unfold breakV;rw[if_pos he,if_pos hr]
 rw[e0];refine j5 Ωq (EffVC.sub (hp2:=[]) (λk x hx=>by simp[blk]at hx) (qmP c hf _)) λhp' nid0 res ⟨bid,mid,top0,hbm,q2,q3,q4,q5,ht0,q7,q8⟩=>?_;subst q7 q8;(repeat' (first|refine sD ?_ ?_<;>intro _|refine aA ?_|simp -dsimp only[↓RP,RQ,xa0,reduceIte,reduceCtorEq,xa1,xa2,xa3,xa4,TYn,Tryz.results46]));refine qeU (qpn a Ω (λi hi=>by have:=ra.rg i hi;omega)) Ωh Ωn Ωn ?_;(repeat' (first|refine sD ?_ ?_<;>intro _|refine aA ?_|simp -dsimp only[↓RP,RQ,xa0,reduceIte,reduceCtorEq,xa1,xa2,xa3,xa4,I,TYn,Int.toNat_natCast,xb2,Tryz.results46]));have hM:=M_bound hf;have hS:=λk hk=>qkq ra k hk;obtain⟨ia,hia⟩:∃ia,ia=nid0+3:=⟨_,rfl⟩;obtain⟨n0,hn0⟩:∃n0,n0=nid0+4:=⟨_,rfl⟩;have h13:bid≠ia:=by omega
 have h23:mid≠ia:=by omega
 rw[←hia];refine qo (λ(x:Nat×Nat×Nat)=>x.1≤a.m∧x.2.1≤400∧n0≤x.2.2∧brkF c a 0 a.m=brkF c a x.1 (a.m - x.1)) (λx=>⟨[(1,.arr false false a.m 1 (λi _=>.val (.int .i64 (a.u i)))),(10,.vec ia (a.m+1) 1),(11,.fn (.func 88) [.ptr bid 0] []),(12,.val (.int .i64 0)),(13,.val (.int .i64 0)),(34,.val (.int .i64 a.m)),(35,.val (.int .i64 x.1))],(bid,bdC c mid true x.2.1) ::(mid,bdM c x.2.1) ::(ia,qfe (a.m+1) a.S) :: [],x.2.2⟩) (λx=>a.m - x.1) (0,top0,_) ⟨xb6 _,ht0,?_,rfl⟩ (zw ?_ ?_) λx hx=>?_
 rotate_left
 ·simp[qI,Go.Sx.look]
 ·intro k x hx
  by_cases h1:k=bid
  ·subst h1
   simp[blk]at hx;simp[blk,h13,←hx]
  ·by_cases h2:k=mid
   ·subst h2
    simp[blk,h1]at hx;simp[blk,h1,h23,←hx]
   ·simp[blk,h1,h2]at hx
    simp[blk,hx]
 rotate_left
 ·simp only[];omega
 obtain⟨t,top,nid⟩:=x;obtain⟨ht,htop,hn,hb⟩:=hx
 replace ht:t≤a.m:=ht
 replace htop:top≤400:=htop
 replace hn:n0≤nid:=hn
 replace hb:brkF c a 0 a.m=brkF c a t (a.m - t):=hb
 have NB:=zp (a:=bid) (b:=mid) (c:=ia) (n:=nid) hbm h13 h23 Ω Ω Ω;by_cases hlt:t<a.m
 ·have hb1:a.m - t=(a.m -(t+1))+1:=by omega
  rw[hb1]at hb;(repeat' (first|refine sD ?_ ?_<;>intro _|refine aA ?_|simp -dsimp only[↓RP,RQ,xa0,reduceIte,reduceCtorEq,xa1,xa2,xa3,xa4,NB,I,B,xb1,xb2,TYn,Int.toNat_natCast,Tryz.results46]))
  all_goals try(exfalso;omega)
  refine qo (λ(x:Nat×Nat×Nat)=>(1≤x.1∧x.1≤a.m - t+1∧Jp c a t=fk1 (brkP c a t) x.1 (a.m - t+1 - x.1))∧x.2.1≤400∧n0≤x.2.2) (λx=>⟨[(1,.arr false false a.m 1 (λi _=>.val (.int .i64 (a.u i)))),(10,.vec ia (a.m+1) 1),(11,.fn (.func 88) [.ptr bid 0] []),(12,.val (.int .i64 0)),(13,.val (.int .i64 0)),(34,.val (.int .i64 a.m)),(35,.val (.int .i64 t)),(14,.val (.int .i64 t)),(15,.val (.int .i64 x.1))],(bid,bdC c mid true x.2.1) ::(mid,bdM c x.2.1) ::(ia,qfe (a.m+1) a.S) :: [],x.2.2⟩) (λx=>a.m - t+1 - x.1) (1,top,_) ⟨⟨xa5 _,by simp only[];omega,rfl⟩,htop,?_⟩ (zw ?_ ?_) λx hx=>?_
  rotate_left
  ·simp[qI,Go.Sx.look]
  ·exact SubHp.refl _
  rotate_left
  ·simp only[];omega
  obtain⟨k,top,nid⟩:=x;obtain⟨⟨hk1,hk2,hbt⟩,htop,hn⟩:=hx
  replace hk1:1≤k:=hk1
  replace hk2:k≤a.m - t+1:=hk2
  replace htop:top≤400:=htop
  replace hn:n0≤nid:=hn
  replace hbt:Jp c a t=fk1 (brkP c a t) k (a.m - t+1 - k):=hbt
  have NB:=zp (a:=bid) (b:=mid) (c:=ia) (n:=nid) hbm h13 h23 Ω Ω Ω;have eTK:(t:Int)+(k:Int)=((t+k:Nat):Int):=rfl;by_cases hkl:k≤a.m - t
  ·have hk3:a.m - t+1 - k=(a.m - t - k)+1:=by omega
   rw[hk3]at hbt;have s1:0≤sumTo a.u (t+k)∧sumTo a.u (t+k)≤600000:=hS (t+k) Ω;have s2:0≤sumTo a.u t∧sumTo a.u t≤600000:=hS t Ω;have m1:=hM k;(repeat' (first|refine sD ?_ ?_<;>intro _|refine aA ?_|simp -dsimp only[↓RP,RQ,xa0,reduceIte,reduceCtorEq,xa1,xa2,xa3,xa4,eTK,NB,I,B,xb1,xb2,TYn,Int.toNat_natCast,Tryz.results46]))
   all_goals try(exfalso;omega)
   refine yE follows (λm st=>∃(top nid:Nat),top≤400∧n0≤nid∧st=⟨[(1,.arr false false a.m 1 (λi _=>.val (.int .i64 (a.u i)))),(10,.vec ia (a.m+1) 1),(11,.fn (.func 88) [.ptr bid 0] []),(12,.val (.int .i64 0)),(13,.val (.int .i64 0)),(14,.val (.int .i64 t)),(15,.val (.int .i64 k)),(34,.val (.int .i64 a.m)),(35,.val (.int .i64 t)),(46,up (m.testBit 0) (.vec ia (a.m+1) 1)),(47,up (m.testBit 1) (.val (.int .i64 t))),(48,up (m.testBit 2) (.val (.int .i64 k))),(49,up (m.testBit 3) (.val (.int .i64 ((t+k:Nat):Int)))),(50,up (m.testBit 4) (.elt ia 1 (t+k) 0)),(51,up (m.testBit 5) (.val (.int .i64 (sumTo a.u (t+k))))),(52,up (m.testBit 6) (.vec ia (a.m+1) 1)),(53,up (m.testBit 7) (.val (.int .i64 t))),(54,up (m.testBit 8) (.elt ia 1 t 0)),(55,up (m.testBit 9) (.val (.int .i64 (sumTo a.u t)))),(56,up (m.testBit 10) (.val (.int .i64 (sumTo a.u (t+k) - sumTo a.u t)))),(57,up (m.testBit 11) (.fn (.func 88) [.ptr bid 0] [])),(58,up (m.testBit 12) (.val (.int .i64 k))),(59,up (m.testBit 13) (.val (.int .i64 (c.M k)))),(60,up (m.testBit 14) (.val (.bool (decide (c.M k<sumTo a.u (t+k) - sumTo a.u t)))))],(bid,bdC c mid true top) ::(mid,bdM c top) ::(ia,qfe (a.m+1) a.S) :: [],nid⟩) (ms:=[0,0,0,6,15,31,0,0,192,448,1023,0,0,6144,16383]) Ωa Ωa (zw (by simp[qI,Go.Sx.look,Go.Sx.up]) (SubHp.refl _)) ⟨top,_,htop,Ω,rfl⟩ (qi ?_<|qi ?_<|qi ?_<|qi ?_<|qi ?_<|qi ?_<|qi ?_<|qi ?_<|qi ?_<|qi ?_<|qi ?_<|qi ?_<|qi ?_<|qi ?_<|qi ?_<|wo) ?_
   ·rintro m st ⟨top,nid,ht,hn,rfl⟩ hcl hbit hd
    have NB:=zp (a:=bid) (b:=mid) (c:=ia) (n:=nid) hbm h13 h23 Ω Ω Ω;unfold opH;rw[qe];simp only[hbit,qd,qb];refine .inl ?_;(simp -dsimp only[↓RP,RQ,xa0,reduceIte,reduceCtorEq,xa1,xa2,xa3,xa4,eTK,I,B,NB,xb1,xb2,TYn,Int.toNat_natCast,Tryz.results46])
    try refine⟨by(first|exact True.intro|(simp only[InK];omega)|omega|(simp only[InK,ne_eq,and_true,true_and];omega)|trivial),?_⟩
    refine⟨_,Weak.refl _ _,top,nid+1,ht,Ω,?_⟩;simp only[Qqq,xa2,qd,qb,hbit]
   ·rintro m st ⟨top,nid,ht,hn,rfl⟩ hcl hbit hd
    have NB:=zp (a:=bid) (b:=mid) (c:=ia) (n:=nid) hbm h13 h23 Ω Ω Ω;unfold opH;rw[qe];simp only[hbit,qd,qb];refine .inl ?_;(simp -dsimp only[↓RP,RQ,xa0,reduceIte,reduceCtorEq,xa1,xa2,xa3,xa4,eTK,I,B,NB,xb1,xb2,TYn,Int.toNat_natCast,Tryz.results46])
    try refine⟨by(first|exact True.intro|(simp only[InK];omega)|omega|(simp only[InK,ne_eq,and_true,true_and];omega)|trivial),?_⟩
    refine⟨_,Weak.refl _ _,top,nid+1,ht,Ω,?_⟩;simp only[Qqq,xa2,qd,qb,hbit]
   ·rintro m st ⟨top,nid,ht,hn,rfl⟩ hcl hbit hd
    have NB:=zp (a:=bid) (b:=mid) (c:=ia) (n:=nid) hbm h13 h23 Ω Ω Ω;unfold opH;rw[qe];simp only[hbit,qd,qb];refine .inl ?_;(simp -dsimp only[↓RP,RQ,xa0,reduceIte,reduceCtorEq,xa1,xa2,xa3,xa4,eTK,I,B,NB,xb1,xb2,TYn,Int.toNat_natCast,Tryz.results46])
    try refine⟨by(first|exact True.intro|(simp only[InK];omega)|omega|(simp only[InK,ne_eq,and_true,true_and];omega)|trivial),?_⟩
    refine⟨_,Weak.refl _ _,top,nid+1,ht,Ω,?_⟩;simp only[Qqq,xa2,qd,qb,hbit]
   ·rintro m st ⟨top,nid,ht,hn,rfl⟩ hcl hbit hd
    have q1:=hd 1 Ωd Ωd;have q2:=hd 2 Ωd Ωd;have NB:=zp (a:=bid) (b:=mid) (c:=ia) (n:=nid) hbm h13 h23 Ω Ω Ω;unfold opH;rw[qe];simp only[q1,q2,hbit,qd,qb];refine .inl ?_;(simp -dsimp only[↓RP,RQ,xa0,reduceIte,reduceCtorEq,xa1,xa2,xa3,xa4,eTK,I,B,NB,xb1,xb2,TYn,Int.toNat_natCast,Tryz.results46])
    try refine⟨by(first|exact True.intro|(simp only[InK];omega)|omega|(simp only[InK,ne_eq,and_true,true_and];omega)|trivial),?_⟩
    refine⟨_,Weak.refl _ _,top,nid+1,ht,Ω,?_⟩;simp only[Qqq,xa2,qd,qb,q1,q2,hbit]
   ·rintro m st ⟨top,nid,ht,hn,rfl⟩ hcl hbit hd
    have q0:=hd 0 Ωd Ωd;have q3:=hd 3 Ωd Ωd;have NB:=zp (a:=bid) (b:=mid) (c:=ia) (n:=nid) hbm h13 h23 Ω Ω Ω;unfold opH;rw[qe];simp only[q0,q3,hbit,qd,qb];refine .inl ?_;(simp -dsimp only[↓RP,RQ,xa0,reduceIte,reduceCtorEq,xa1,xa2,xa3,xa4,eTK,I,B,NB,xb1,xb2,TYn,Int.toNat_natCast,Tryz.results46])
    try refine⟨by(first|exact True.intro|(simp only[InK];omega)|omega|(simp only[InK,ne_eq,and_true,true_and];omega)|trivial),?_⟩
    refine⟨_,Weak.refl _ _,top,nid+1,ht,Ω,?_⟩;simp only[Qqq,xa2,qd,qb,q0,q3,hbit]
   ·rintro m st ⟨top,nid,ht,hn,rfl⟩ hcl hbit hd
    have q4:=hd 4 Ωd Ωd;have NB:=zp (a:=bid) (b:=mid) (c:=ia) (n:=nid) hbm h13 h23 Ω Ω Ω;unfold opH;rw[qe];simp only[q4,hbit,qd,qb];refine .inl ?_;(simp -dsimp only[↓RP,RQ,xa0,reduceIte,reduceCtorEq,xa1,xa2,xa3,xa4,eTK,I,B,NB,xb1,xb2,TYn,Int.toNat_natCast,Tryz.results46])
    try refine⟨by(first|exact True.intro|(simp only[InK];omega)|omega|(simp only[InK,ne_eq,and_true,true_and];omega)|trivial),?_⟩
    refine⟨_,Weak.refl _ _,top,nid+1,ht,Ω,?_⟩;simp only[Qqq,xa2,qd,qb,q4,hbit]
   ·rintro m st ⟨top,nid,ht,hn,rfl⟩ hcl hbit hd
    have NB:=zp (a:=bid) (b:=mid) (c:=ia) (n:=nid) hbm h13 h23 Ω Ω Ω;unfold opH;rw[qe];simp only[hbit,qd,qb];refine .inl ?_;(simp -dsimp only[↓RP,RQ,xa0,reduceIte,reduceCtorEq,xa1,xa2,xa3,xa4,eTK,I,B,NB,xb1,xb2,TYn,Int.toNat_natCast,Tryz.results46])
    try refine⟨by(first|exact True.intro|(simp only[InK];omega)|omega|(simp only[InK,ne_eq,and_true,true_and];omega)|trivial),?_⟩
    refine⟨_,Weak.refl _ _,top,nid+1,ht,Ω,?_⟩;simp only[Qqq,xa2,qd,qb,hbit]
   ·rintro m st ⟨top,nid,ht,hn,rfl⟩ hcl hbit hd
    have NB:=zp (a:=bid) (b:=mid) (c:=ia) (n:=nid) hbm h13 h23 Ω Ω Ω;unfold opH;rw[qe];simp only[hbit,qd,qb];refine .inl ?_;(simp -dsimp only[↓RP,RQ,xa0,reduceIte,reduceCtorEq,xa1,xa2,xa3,xa4,eTK,I,B,NB,xb1,xb2,TYn,Int.toNat_natCast,Tryz.results46])
    try refine⟨by(first|exact True.intro|(simp only[InK];omega)|omega|(simp only[InK,ne_eq,and_true,true_and];omega)|trivial),?_⟩
    refine⟨_,Weak.refl _ _,top,nid+1,ht,Ω,?_⟩;simp only[Qqq,xa2,qd,qb,hbit]
   ·rintro m st ⟨top,nid,ht,hn,rfl⟩ hcl hbit hd
    have q6:=hd 6 Ωd Ωd;have q7:=hd 7 Ωd Ωd;have NB:=zp (a:=bid) (b:=mid) (c:=ia) (n:=nid) hbm h13 h23 Ω Ω Ω;unfold opH;rw[qe];simp only[q6,q7,hbit,qd,qb];refine .inl ?_;(simp -dsimp only[↓RP,RQ,xa0,reduceIte,reduceCtorEq,xa1,xa2,xa3,xa4,eTK,I,B,NB,xb1,xb2,TYn,Int.toNat_natCast,Tryz.results46])
    try refine⟨by(first|exact True.intro|(simp only[InK];omega)|omega|(simp only[InK,ne_eq,and_true,true_and];omega)|trivial),?_⟩
    refine⟨_,Weak.refl _ _,top,nid+1,ht,Ω,?_⟩;simp only[Qqq,xa2,qd,qb,q6,q7,hbit]
   ·rintro m st ⟨top,nid,ht,hn,rfl⟩ hcl hbit hd
    have q8:=hd 8 Ωd Ωd;have NB:=zp (a:=bid) (b:=mid) (c:=ia) (n:=nid) hbm h13 h23 Ω Ω Ω;unfold opH;rw[qe];simp only[q8,hbit,qd,qb];refine .inl ?_;(simp -dsimp only[↓RP,RQ,xa0,reduceIte,reduceCtorEq,xa1,xa2,xa3,xa4,eTK,I,B,NB,xb1,xb2,TYn,Int.toNat_natCast,Tryz.results46])
    try refine⟨by(first|exact True.intro|(simp only[InK];omega)|omega|(simp only[InK,ne_eq,and_true,true_and];omega)|trivial),?_⟩
    refine⟨_,Weak.refl _ _,top,nid+1,ht,Ω,?_⟩;simp only[Qqq,xa2,qd,qb,q8,hbit]
   ·rintro m st ⟨top,nid,ht,hn,rfl⟩ hcl hbit hd
    have q5:=hd 5 Ωd Ωd;have q9:=hd 9 Ωd Ωd;have NB:=zp (a:=bid) (b:=mid) (c:=ia) (n:=nid) hbm h13 h23 Ω Ω Ω;unfold opH;rw[qe];simp only[q5,q9,hbit,qd,qb];refine .inl ?_;(simp -dsimp only[↓RP,RQ,xa0,reduceIte,reduceCtorEq,xa1,xa2,xa3,xa4,eTK,I,B,NB,xb1,xb2,TYn,Int.toNat_natCast,Tryz.results46])
    try refine⟨by(first|exact True.intro|(simp only[InK];omega)|omega|(simp only[InK,ne_eq,and_true,true_and];omega)|trivial),?_⟩
    refine⟨_,Weak.refl _ _,top,nid+1,ht,Ω,?_⟩;simp only[Qqq,xa2,qd,qb,q5,q9,hbit]
   ·rintro m st ⟨top,nid,ht,hn,rfl⟩ hcl hbit hd
    have NB:=zp (a:=bid) (b:=mid) (c:=ia) (n:=nid) hbm h13 h23 Ω Ω Ω;unfold opH;rw[qe];simp only[hbit,qd,qb];refine .inl ?_;(simp -dsimp only[↓RP,RQ,xa0,reduceIte,reduceCtorEq,xa1,xa2,xa3,xa4,eTK,I,B,NB,xb1,xb2,TYn,Int.toNat_natCast,Tryz.results46])
    try refine⟨by(first|exact True.intro|(simp only[InK];omega)|omega|(simp only[InK,ne_eq,and_true,true_and];omega)|trivial),?_⟩
    refine⟨_,Weak.refl _ _,top,nid+1,ht,Ω,?_⟩;simp only[Qqq,xa2,qd,qb,hbit]
   ·rintro m st ⟨top,nid,ht,hn,rfl⟩ hcl hbit hd
    have NB:=zp (a:=bid) (b:=mid) (c:=ia) (n:=nid) hbm h13 h23 Ω Ω Ω;unfold opH;rw[qe];simp only[hbit,qd,qb];refine .inl ?_;(simp -dsimp only[↓RP,RQ,xa0,reduceIte,reduceCtorEq,xa1,xa2,xa3,xa4,eTK,I,B,NB,xb1,xb2,TYn,Int.toNat_natCast,Tryz.results46])
    try refine⟨by(first|exact True.intro|(simp only[InK];omega)|omega|(simp only[InK,ne_eq,and_true,true_and];omega)|trivial),?_⟩
    refine⟨_,Weak.refl _ _,top,nid+1,ht,Ω,?_⟩;simp only[Qqq,xa2,qd,qb,hbit]
   ·rintro m st ⟨top,nid,ht,hn,rfl⟩ hcl hbit hd
    have q11:=hd 11 Ωd Ωd;have q12:=hd 12 Ωd Ωd;have NB:=zp (a:=bid) (b:=mid) (c:=ia) (n:=nid) hbm h13 h23 Ω Ω Ω;unfold opH;rw[qe];simp only[q11,q12,hbit,qd,qb];refine .inl ?_;(simp -dsimp only[↓RP,RQ,xa0,reduceIte,reduceCtorEq,xa1,xa2,xa3,xa4,eTK,I,B,NB,xb1,xb2,TYn,Int.toNat_natCast,Tryz.results46]);refine j5 trivial (e88 c hf true top k ht Ω bid mid _ [(ia,qfe (a.m+1) a.S)] hbm Ω Ω (Under.nil.cons Ω)) λhp' nid' res ⟨top',ht',r1,hn',r2⟩=>?_;subst r1 r2;(simp -dsimp only[↓RP,RQ,xa0,reduceIte,reduceCtorEq,xa1,xa2,xa3,xa4,eTK,I,B,NB,xb1,xb2,TYn,Int.toNat_natCast,Tryz.results46]);refine⟨_,Weak.refl _ _,top',nid'+1,ht',Ω,?_⟩;simp only[Qqq,xa2,qd,qb,q11,q12,hbit]
   ·rintro m st ⟨top,nid,ht,hn,rfl⟩ hcl hbit hd
    have q10:=hd 10 Ωd Ωd;have q13:=hd 13 Ωd Ωd;have NB:=zp (a:=bid) (b:=mid) (c:=ia) (n:=nid) hbm h13 h23 Ω Ω Ω;unfold opH;rw[qe];simp only[q10,q13,hbit,qd,qb];refine .inl ?_;(simp -dsimp only[↓RP,RQ,xa0,reduceIte,reduceCtorEq,xa1,xa2,xa3,xa4,eTK,I,B,NB,xb1,xb2,TYn,Int.toNat_natCast,Tryz.results46])
    try refine⟨by(first|exact True.intro|(simp only[InK];omega)|omega|(simp only[InK,ne_eq,and_true,true_and];omega)|trivial),?_⟩
    refine⟨_,Weak.refl _ _,top,nid+1,ht,Ω,?_⟩;simp only[Qqq,xa2,qd,qb,q10,q13,hbit]
   ·rintro m st' ⟨top,nid,ht,hn,rfl⟩ hall
    simp only[hall 0 Ωd,hall 1 Ωd,hall 2 Ωd,hall 3 Ωd,hall 4 Ωd,hall 5 Ωd,hall 6 Ωd,hall 7 Ωd,hall 8 Ωd,hall 9 Ωd,hall 10 Ωd,hall 11 Ωd,hall 12 Ωd,hall 13 Ωd,hall 14 Ωd,qd];have NB:=zp (a:=bid) (b:=mid) (c:=ia) (n:=nid) hbm h13 h23 Ω Ω Ω;(repeat' (first|refine sD ?_ ?_<;>intro _|refine aA ?_|simp -dsimp only[↓RP,RQ,xa0,reduceIte,reduceCtorEq,xa1,xa2,xa3,xa4,NB,I,B,xb1,xb2,TYn,Int.toNat_natCast,Tryz.results46]))
    all_goals try(exfalso;omega)
    ·rename_i hgt _
     have hp:brkP c a t k=true:=by unfold brkP;exact decide_eq_true hgt
     rw[qcH _ _ _ hk1 hp]at hbt;rw[hb,Yq Ω,hbt,qhx hk1];exact⟨rfl,rfl,rfl⟩
    ·rename_i hgt
     have hp:brkP c a t k=false:=by unfold brkP;exact decide_eq_false hgt
     rw[Yp _ _ _ hp]at hbt;refine⟨(k+1,top,_),⟨⟨by simp only[];omega,by simp only[];omega,by rw[hbt];congr 1;simp only[];omega⟩,ht,?_⟩,by simp only[];omega,zw ?_ ?_⟩
     rotate_left
     ·simp[qI,Go.Sx.look]
     ·exact SubHp.refl _
     ·simp only[];omega
  ·have hk3:a.m - t+1 - k=0:=by omega
   rw[hk3]at hbt;rw[JU hbt]at hb;(repeat' (first|refine sD ?_ ?_<;>intro _|refine aA ?_|simp -dsimp only[↓RP,RQ,xa0,reduceIte,reduceCtorEq,xa1,xa2,xa3,xa4,eTK,NB,I,B,xb1,xb2,TYn,Int.toNat_natCast,Tryz.results46]))
   all_goals try(exfalso;omega)
   refine⟨(t+1,top,_),⟨by simp only[];omega,htop,?_,hb⟩,by simp only[];omega,zw ?_ ?_⟩
   rotate_left
   ·simp[qI,Go.Sx.look]
   ·exact SubHp.refl _
   ·simp only[];omega
 ·have hte:t=a.m:=by omega
  subst hte;rw[xb8]at hb;have e1:brkV (brkF c a 0 a.m)=(0,0,5):=by rw[hb];rfl
  rw[e1];(repeat' (first|refine sD ?_ ?_<;>intro _|refine aA ?_|simp -dsimp only[↓RP,RQ,xa0,reduceIte,reduceCtorEq,xa1,xa2,xa3,xa4,NB,I,B,xb1,xb2,TYn,Int.toNat_natCast,Tryz.results46]))
  all_goals first|(exfalso;omega)|(rename_i hq;exact absurd trivial hq)|skip
end Go.Tl
end
section
namespace Go.Tl
open Go.Proofs
open Go.Sx
abbrev qpq:SV:=.val (.slice none 0 0)
theorem qcI{i g b m:Nat}{X Y B M:Blk}(h1:i≠b)(h2:i≠m)(h3:g≠b)(h4:g≠m):SubHp ((i,X) ::(g,Y) ::(b,B) ::(m,M) :: []) ((b,B) ::(m,M) ::(i,X) :: []):=λk x hx=>by
 simp only[blk]at hx ⊢;by_cases e1:k=b
 ·subst e1
  rw[if_pos rfl]at hx;rw[if_neg (Ne.symm h1),if_neg (Ne.symm h3),if_pos rfl];exact hx
 ·rw[if_neg e1]at hx
  by_cases e2:k=m
  ·subst e2
   rw[if_pos rfl]at hx;rw[if_neg (Ne.symm h2),if_neg (Ne.symm h4),if_neg e1,if_pos rfl];exact hx
  ·rw[if_neg e2]at hx
   by_cases e3:k=i
   ·rw[if_pos e3]at hx ⊢;exact hx
   ·rw[if_neg e3]at hx;cases hx
def VM(c:Curve)(T bid mid:Nat):Nat×Nat×Nat×Nat→St
 |(0,top,nid,_)=>⟨[(7,.ptr bid 0),(8,qpq),(24,.val (.int .i64 ((T:Int)+1))),(25,.val (.int .i64 0))],(bid,bdC c mid true top) ::(mid,bdM c top) :: [],nid⟩
 |(t+1,top,nid,ia)=>⟨[(7,.ptr bid 0),(8,.vec ia (t+1) 1),(24,.val (.int .i64 ((T:Int)+1))),(25,.val (.int .i64 ((t+1:Nat):Int)))],(bid,bdC c mid true top) ::(mid,bdM c top) ::(ia,qfe (t+1) c.M) :: [],nid⟩
theorem c48(c:Curve)(h:c.Fine)(T:Nat)(hT:T≤60):qZ Tryz.prog 48 [c.sv,I T] (.rows 2 1 T (λj _=>I (c.M (j+1) - c.M j))) (.tup [.vec 0 T 1,I 0]):=by
 refine gD Tryz.func48 rfl Ωa follows Ωa _ _ _ (by rw[Tryz.ntmps48];simp) (by simp[OldL,c.old];simp[Old,I]) ?_;unfold I;have he:=Curve.err_fine h;have hM:=M_bound h;have hm:=h.m6
 conv=>arg 4;unfold Curve.sv ints
 (repeat' (first|refine sD ?_ ?_<;>intro _|refine aA ?_|simp -dsimp only[↓RP,RQ,seval,TYn,Tryz.results48]));refine qq (c82 c Ω) Ωh Ωe ?_;(repeat' (first|refine sD ?_ ?_<;>intro _|refine aA ?_|simp -dsimp only[↓RP,RQ,seval,I,he,decide_true,Bool.not_true,TYn,Tryz.results48]));refine qq (qbm T 0 60) Ωj Ωf ?_;(repeat' (first|refine sD ?_ ?_<;>intro _|refine aA ?_|simp -dsimp only[↓RP,RQ,seval,B,TYn,Tryz.results48]))
 all_goals try(exfalso;omega)
 refine j5 Ωq (EffVC.sub (hp2:=[]) (λk x hx=>by simp[blk]at hx) (qmP c h _)) λhp' nid0 res ⟨bid,mid,top0,hbm,q2,q3,q4,q5,ht0,q7,q8⟩=>?_;subst q7 q8;(repeat' (first|refine sD ?_ ?_<;>intro _|refine aA ?_|simp -dsimp only[↓RP,RQ,seval,TYn,Tryz.results48]))
 all_goals try(exfalso;omega)
 refine qo (λ(x:Nat×Nat×Nat×Nat)=>x.1≤T+1∧x.2.1≤400∧nid0≤x.2.2.1∧(0<x.1→x.2.2.2≠bid∧x.2.2.2≠mid∧x.2.2.2<x.2.2.1)) (VM c T bid mid) (λx=>T+1 - x.1) (0,top0,_,0) ⟨xb6 _,ht0,?_,λh=>absurd h (xb4 0)⟩ (zw ?_ ?_) λx hx=>?_
 rotate_left
 ·simp[qI,Go.Sx.look]
 ·exact SubHp.refl _
 rotate_left
 ·simp only[];omega
 obtain⟨t,top,nid,ia⟩:=x;obtain⟨ht,htop,hn,hia⟩:=hx
 replace ht:t≤T+1:=ht
 replace htop:top≤400:=htop
 replace hn:nid0≤nid:=hn
 replace hia:0<t→ia≠bid∧ia≠mid∧ia<nid:=hia
 by_cases hlt:t<T+1
 ·cases t with
  |zero=>
   simp only[VM];have NB:=VL (a:=bid) (b:=mid) (n:=nid) hbm Ω Ω;(repeat' (first|refine sD ?_ ?_<;>intro _|refine aA ?_|simp -dsimp only[↓RP,RQ,seval,NB,I,TYn,Int.toNat_natCast,xb1,xb2,Tryz.results48]))
   all_goals try(exfalso;omega)
   refine j5 Ωq (e88 c h true top 0 htop Ω bid mid _ [] hbm Ω Ω Under.nil) λhp' nid' res ⟨top',ht',r1,hn',r2⟩=>?_;subst r1 r2;have NB2:=VL (a:=bid) (b:=mid) (n:=nid') hbm Ω Ω;(repeat' (first|refine sD ?_ ?_<;>intro _|refine aA ?_|simp -dsimp only[↓RP,RQ,seval,NB2,by2,QR,I,TYn,Int.toNat_natCast,Tryz.results48]))
   all_goals try(exfalso;omega)
   refine⟨(1,top',_,nid'+5),⟨by simp only[];omega,ht',?_,?_⟩,by simp only[];omega,Weak.trans (qlW (id:=nid'+5) (row':=λj _=>.val (.int .i64 (c.M j))) (Q3 _ _ _) ?_) (zw ?_ ?_)⟩
   rotate_left 2
   ·intro i j hi hj
    have:i=0:=by omega
    subst this;rw[qmI _ 0 j Ω hj]
   ·simp[qI,Go.Sx.look]
   ·(simp -dsimp only[↓RP,RQ,seval,jg,jh])
    exact qcI Ω Ω Ω Ω
   ·simp only[];omega
   ·simp only[];omega
  |succ t=>
   obtain⟨i1,i2,i3⟩:=hia Ω;simp only[VM];have NB:=zp (a:=bid) (b:=mid) (c:=ia) (n:=nid) hbm (Ne.symm i1) (Ne.symm i2) Ω Ω Ω;(repeat' (first|refine sD ?_ ?_<;>intro _|refine aA ?_|simp -dsimp only[↓RP,RQ,seval,NB,I,TYn,Int.toNat_natCast,xb1,xb2,Tryz.results48]))
   all_goals try(exfalso;omega)
   refine j5 Ωq (e88 c h true top (t+1) htop Ω bid mid _ [(ia,qfe (t+1) c.M)] hbm Ω Ω (Under.nil.cons Ω)) λhp' nid' res ⟨top',ht',r1,hn',r2⟩=>?_;subst r1 r2;have NB2:=zp (a:=bid) (b:=mid) (c:=ia) (n:=nid') hbm (Ne.symm i1) (Ne.symm i2) Ω Ω Ω;have m1:=hM (t+1);(repeat' (first|refine sD ?_ ?_<;>intro _|refine aA ?_|simp -dsimp only[↓RP,RQ,seval,NB2,by2,QR,I,TYn,Int.toNat_natCast,Tryz.results48]))
   all_goals try(exfalso;omega)
   refine⟨⟨.inr trivial,xa5 _,λa b ha hb=>by rw[qmI _ a b ha hb];rfl,Ω⟩,by(first|exact True.intro|(simp only[InK];omega)|omega|(simp only[InK,ne_eq,and_true,true_and];omega)|trivial),?_⟩;refine⟨(t+2,top',_,nid'+5),⟨by simp only[];omega,ht',?_,?_⟩,by simp only[];omega,Weak.trans (qlW (id:=nid'+5) (row':=λj _=>.val (.int .i64 (c.M j))) (Q3 _ _ _) ?_) (zw ?_ ?_)⟩
   rotate_left 2
   ·intro i j hi hj
    have j0:j=0:=by omega
    subst j0;by_cases e:i<t+1
    ·rw[if_pos e]
    ·rw[if_neg e]
     have:i=t+1:=by omega
     subst this;rw[xb8];rfl
   ·simp[qI,Go.Sx.look]
   ·(simp -dsimp only[↓RP,RQ,seval,jg,jh])
    exact qcI Ω Ω Ω Ω
   ·simp only[];omega
   ·simp only[];omega
 ·have hte:t=T+1:=by omega
  subst hte;obtain⟨i1,i2,i3⟩:=hia Ω;simp only[VM];have NB:=zp (a:=bid) (b:=mid) (c:=ia) (n:=nid) hbm (Ne.symm i1) (Ne.symm i2) Ω Ω Ω;(repeat' (first|refine sD ?_ ?_<;>intro _|refine aA ?_|simp -dsimp only[↓RP,RQ,seval,NB,I,TYn,Int.toNat_natCast,xb1,xb2,Tryz.results48]))
  all_goals try(exfalso;omega)
  refine callN (qpp (T+1) c.M Ω (λi hi=>by have:=hM i;omega)) (by(simp -dsimp only[↓RP,RQ,seval,ints,I,NB]);all_goals simp) Ωn Ωn ?_;(repeat' (first|refine sD ?_ ?_<;>intro _|refine aA ?_|simp -dsimp only[↓RP,RQ,seval,NB,I,TYn,Int.toNat_natCast,xb1,xb2,Nat.add_sub_cancel,Tryz.results48]));refine⟨nid+2,_,Q3 _ _ _,?_,?_⟩
  ·(simp -dsimp only[↓RP,RQ,seval]);all_goals (try simp)
  ·(simp -dsimp only[↓RP,RQ,seval])
end Go.Tl
end
section
namespace Go.Tl
open Go.Sx
def conv(f g:Nat→Int)(k:Nat):Int:=qS (λp=>f (k - p)+g p) k
end Go.Tl
end
section
namespace Go.Tl
open Go.Sx
theorem Yr(P:Nat→Bool):∀n i,1≤i→(fk1 P i n=0∧∀j,i≤j→j<i+n→P j=false)∨(i≤fk1 P i n∧fk1 P i n<i+n∧P (fk1 P i n)=true∧∀j,i≤j→j<fk1 P i n→P j=false)
 |0,i,_=>.inl ⟨rfl,λj h1 h2=>by omega⟩
 |n+1,i,hi=>by
  by_cases h:P i=true
  ·right
   rw[qcH P n i hi h];exact⟨xa5 _,Ω,h,λj h1 h2=>by omega⟩
  ·have h:P i=false:=by simpa using h
   rw[Yp P n i h];rcases Yr P n (i+1) Ω with⟨h1,h2⟩|⟨h1,h2,h3,h4⟩
   ·refine .inl ⟨h1,λj h3 h4=>?_⟩
    by_cases e:j=i
    ·subst e;exact h
    ·exact h2 j Ω Ω
   ·refine .inr ⟨Ω,Ω,h3,λj h5 h6=>?_⟩
    by_cases e:j=i
    ·subst e;exact h
    ·exact h4 j Ω h6
theorem brkF_spec(c a:Curve):∀n t,t+n=a.m→(brkF c a t n=(0,0)∧∀s,t≤s→∀k,1≤k→s+k≤a.m→brkP c a s k=false)∨
  (t≤(brkF c a t n).1∧1≤(brkF c a t n).2∧(brkF c a t n).1+(brkF c a t n).2≤a.m∧brkP c a (brkF c a t n).1 (brkF c a t n).2=true∧(∀j,1≤j→j<(brkF c a t n).2→brkP c a (brkF c a t n).1 j=false)∧∀s,t≤s→s<(brkF c a t n).1→∀k,1≤k→s+k≤a.m→brkP c a s k=false)
 |0,t,e=>.inl ⟨rfl,λs hs k hk h=>by omega⟩
 |n+1,t,e=>by
  have hs:=Yr (brkP c a t) (a.m - t) 1 (xa5 _);by_cases h:Jp c a t=0
  ·rw[JU h]
   have h0:∀k,1≤k→t+k≤a.m→brkP c a t k=false:=λk h1 h2=>by
    rcases hs with⟨_,h3⟩|⟨h3,_⟩
    ·exact h3 k h1 Ω
    ·have:fk1 (brkP c a t) 1 (a.m - t)=0:=h
     omega
   rcases brkF_spec c a n (t+1) Ω with⟨h1,h2⟩|⟨h1,h2,h3,h4,h5,h6⟩
   ·refine .inl ⟨h1,λs h3 k h4 h5=>?_⟩
    by_cases e:s=t
    ·subst e;exact h0 k h4 h5
    ·exact h2 s Ω k h4 h5
   ·refine .inr ⟨Ω,h2,h3,h4,h5,λs h7 h8 k h9 h10=>?_⟩
    by_cases e:s=t
    ·subst e;exact h0 k h9 h10
    ·exact h6 s Ω h8 k h9 h10
  ·rw[Yq h]
   right
   rcases hs with⟨h1,_⟩|⟨h1,h2,h3,h4⟩
   ·exact absurd h1 h
   ·have e2:Jp c a t=fk1 (brkP c a t) 1 (a.m - t):=rfl
    rw[←e2]at h1 h2 h3 h4;exact⟨xa5 _,h1,(by show t+Jp c a t≤a.m;omega),h3,h4,λs h5 h6=>by have:s<t:=h6;omega⟩
end Go.Tl
end
section
namespace Go.Tn
variable{C:Nat→Nat→Int}{a n p q:Nat}{S:Nat→Int}
def NW:Int:=1099511627776
def rlx(C:Nat→Nat→Int)(S:Nat→Int)(p q:Nat):Nat→Int:=λx=>if x=q∧C p q≠NW∧S p≠NW∧S p+C p q<S q then S p+C p q else S x
def jF(C:Nat→Nat→Int)(S:Nat→Int)(p:Nat):Nat→Nat→Int
 |0=>S
 |q+1=>rlx C (jF C S p q) p q
def rnd(C:Nat→Nat→Int)(n:Nat)(S:Nat→Int):Nat→Nat→Int
 |0=>S
 |p+1=>jF C (rnd C n S p) p n
def itR(C:Nat→Nat→Int)(n:Nat)(S:Nat→Int):Nat→Nat→Int
 |0=>S
 |k+1=>rnd C n (itR C n S k) n
def S0(a:Nat):Nat→Int:=λx=>if x=a then 0 else NW
def Fea(C:Nat→Nat→Int)(n:Nat)(D:Nat→Int):Prop:=∀p q,p<n→q<n→C p q≠NW→D q≤D p+C p q
def Lst(C:Nat→Nat→Int)(n a:Nat)(D:Nat→Int):Prop:=D a=0∧Fea C n D∧∀F,Fea C n F→∀q,q<n→F q - F a≤D q
def Cb(C:Nat→Nat→Int):Prop:=∀p q,C p q≠NW→-10000000≤C p q∧C p q≤10000000
def Adj(C:Nat→Nat→Int)(n:Nat):Prop:=∀i,i+1<n→C i (i+1)≠NW∧C (i+1) i≠NW
theorem Q4:∀{n:Nat}{l:List Nat},l.Nodup→(∀x∈l,x<n)→l.length≤n
 |0,l,h,hl=>by
  cases l with
  |nil=>simp
  |cons x l=>exact absurd (hl x Ωi) Ω
 |n+1,l,h,hl=>by
  have h1:=Q4 (n:=n) (l:=l.erase n) (h.erase n) (λx hx=>by
   have hm:=(List.Nodup.mem_erase_iff h).1 hx;have:=hl x hm.2;have h2:=hm.1;omega)
  rw[List.length_erase]at h1;split at h1<;>omega
theorem qhy{α:Type}(f:α→Int):∀{l:List α},l≠[]→∃a,a∈l∧∀b,b∈l→f a≤f b
 |[],h=>absurd rfl h
 |[x],_=>⟨x,Ωi,λb hb=>by simp at hb;subst hb;exact Int.le_refl _⟩
 |x :: y :: l,_=>by
  obtain⟨a,ha,h⟩:=qhy f (l:=y :: l) Ωi;by_cases c:f x≤f a
  ·exact⟨x,Ωi,λb hb=>by
    rcases List.mem_cons.1 hb with rfl|hb
    ·exact Int.le_refl _
    ·have:=h b hb;omega⟩
  ·exact⟨a,List.mem_cons_of_mem _ ha,λb hb=>by
    rcases List.mem_cons.1 hb with rfl|hb
    ·omega
    ·exact h b hb⟩
theorem cross(hA:Adj C n){U:List Nat}{y:Nat}(ha:a∈U)(han:a<n)(hy:y∉U)(hyn:y<n):∃p q,p∈U∧q∉U∧q<n∧C p q≠NW:=by
 by_cases c:a<y
 ·obtain⟨d,rfl⟩:∃d,y=a+d:=⟨y - a,Ω⟩
  clear c
  induction d with
  |zero=>exact absurd ha hy
  |succ d ih=>
   by_cases c:a+d∈U
   ·exact⟨a+d,a+(d+1),c,hy,hyn,(hA (a+d) hyn).1⟩
   ·exact ih c Ω
 ·obtain⟨d,rfl⟩:∃d,a=y+d:=⟨a - y,Ω⟩
  clear c
  induction d generalizing y with
  |zero=>exact absurd ha hy
  |succ d ih=>
   by_cases c:y+1∈U
   ·exact⟨y+1,y,c,hy,hyn,(hA y Ω).2⟩
   ·exact ih c Ω (by rw[Nat.add_right_comm];exact ha) Ω
structure Tre(C:Nat→Nat→Int)(n a:Nat)(F:Nat→Int)(i:Nat)(U:List Nat)(D:Nat→Int)(R:Nat→Nat):Prop where
 len:U.length=i+1
 nd:U.Nodup
 lt:∀x,x∈U→x<n
 ma:a∈U
 da:D a=0
 rk:∀x,x∈U→R x≤i
 fe:∀p q,p∈U→q∈U→C p q≠NW→D q≤D p+C p q
 ti:∀q,q∈U→q≠a→∃p,p∈U∧C p q≠NW∧D q=D p+C p q∧R p<R q
 ou:∃M,(∀x,x∈U→D x - F x≤M)∧∀p q,p∈U→q<n→q∉U→C p q≠NW→M≤D p+C p q - F q
theorem qop{C:Nat→Nat→Int}{n a:Nat}{F:Nat→Int}(hA:Adj C n)(hF:Fea C n F)(ha:a<n):∀i,i<n→∃U D R,Tre C n a F i U D R
 |0,_=>⟨[a],λ_=>0,λ_=>0,Ωi,Ωi,(by simpa using ha),Ωi,rfl,Ωi,λp q hp hq hc=>by
   simp at hp hq;subst hp;subst hq;have:=hF _ _ ha ha hc;show(0:Int)≤0+_;omega,λq hq hn=>by simp at hq;exact absurd hq hn,- F a,Ωi,λp q hp hq _ hc=>by
   simp at hp;subst hp;have:=hF _ _ ha hq hc;show _≤(0:Int)+_ - _;omega⟩
 |i+1,hi=>by
  obtain⟨U,D,R,h⟩:=qop hA hF ha i Ω;obtain⟨y,hyn,hy⟩:∃y,y<n∧y∉U:=by
   refine xf9 λhc=>?_;have h1:∀y,y<n→y∈U:=λy hy=>xf9 λh2=>hc ⟨y,hy,h2⟩;have h2:=Q4 (n:=U.length) (l:=List.range n) List.nodup_range;have h3:n≤U.length:=by
    have:∀(m:Nat)(V:List Nat),V.Nodup→(∀y,y<m→y∈V)→m≤V.length:=λm=>by
     induction m with
     |zero=>intro V _ _;omega
     |succ m ih=>
      intro V hV hm;have h4:=ih (V.erase m) (hV.erase m) (λy hy=>(List.Nodup.mem_erase_iff hV).2 ⟨Ω,hm y Ω⟩);have h5:=hm m Ω;rw[List.length_erase,if_pos (by simpa using h5)]at h4;have:=List.length_pos_of_mem h5;omega
    exact this n U h.nd h1
   have:=h.len;omega
  obtain⟨p0,q0,hp0,hq0,hqn0,hc0⟩:=cross hA h.ma (h.lt a h.ma) hy hyn;obtain⟨⟨p,x⟩,hm,hmin⟩:=qhy (λe:Nat×Nat=>D e.1+C e.1 e.2 - F e.2) (l:=(U.flatMap λp=>((List.range n).filter λq=>decide (q∉U∧C p q≠NW)).map λq=>(p,q))) (by
   intro e;have:(p0,q0)∈(U.flatMap λp=>((List.range n).filter λq=>decide (q∉U∧C p q≠NW)).map λq=>(p,q)):=by
    simp only[List.mem_flatMap,List.mem_map,List.mem_filter,List.mem_range,decide_eq_true_eq];exact⟨p0,hp0,q0,⟨hqn0,hq0,hc0⟩,rfl⟩
   rw[e]at this;simp at this)
  have hmem:∀p' x',(p',x')∈(U.flatMap λp=>((List.range n).filter λq=>decide (q∉U∧C p q≠NW)).map λq=>(p,q))↔p'∈U∧x'<n∧x'∉U∧C p' x'≠NW:=λp' x'=>by
   simp only[List.mem_flatMap,List.mem_map,List.mem_filter,List.mem_range,decide_eq_true_eq,Prod.mk.injEq];constructor
   ·rintro⟨a,b,c,⟨d,e,f⟩,rfl,rfl⟩;exact⟨b,d,e,f⟩
   ·rintro⟨b,d,e,f⟩;exact⟨p',b,x',⟨d,e,f⟩,rfl,rfl⟩
  obtain⟨hp,hxn,hx,hc⟩:=(hmem p x).1 hm;have hmi:∀p' x',p'∈U→x'<n→x'∉U→C p' x'≠NW→D p+C p x - F x≤D p'+C p' x' - F x':=λp' x' h1 h2 h3 h4=>hmin (p',x') ((hmem p' x').2 ⟨h1,h2,h3,h4⟩);obtain⟨M,hM1,hM2⟩:=h.ou;have hne:∀z,z∈U→z≠x:=λz hz e=>hx (e▸hz);have hDz:∀z,z∈U→(if z=x then D p+C p x else D z)=D z:=λz hz=>if_neg (hne z hz);have hMx:=hM2 p x hp hxn hx hc;refine⟨x :: U,λz=>if z=x then D p+C p x else D z,λz=>if z=x then i+1 else R z,by simp[h.len],List.nodup_cons.2 ⟨hx,h.nd⟩,?_,List.mem_cons_of_mem _ h.ma,by rw[hDz a h.ma];exact h.da,?_,?_,?_,D p+C p x - F x,?_,?_⟩
  ·intro z hz
   rcases List.mem_cons.1 hz with rfl|hz
   ·exact hxn
   ·exact h.lt z hz
  ·intro z hz
   rcases List.mem_cons.1 hz with rfl|hz
   ·rw[if_pos rfl];exact xa5 _
   ·rw[if_neg (hne z hz)];have:=h.rk z hz;omega
  ·intro u v gu gv huv
   rcases List.mem_cons.1 gu with e1|hu<;>rcases List.mem_cons.1 gv with e2|hv
   ·subst e1;subst e2
    have:=hF _ _ hxn hxn huv;omega
   ·subst e1
    rw[if_pos rfl,hDz v hv];have h1:=hM1 v hv;have h2:=hF _ _ hxn (h.lt v hv) huv;omega
   ·subst e2
    rw[if_pos rfl,hDz u hu];have:=hmi u v hu hxn hx huv;omega
   ·rw[hDz u hu,hDz v hv];exact h.fe u v hu hv huv
  ·intro q hq hqa
   rcases List.mem_cons.1 hq with e|hq
   ·subst e
    refine⟨p,List.mem_cons_of_mem _ hp,hc,by rw[if_pos rfl,hDz p hp],?_⟩;rw[if_pos rfl,if_neg (hne p hp)];have:=h.rk p hp;omega
   ·obtain⟨u,h1,h2,h3,h4⟩:=h.ti q hq hqa
    exact⟨u,List.mem_cons_of_mem _ h1,h2,by rw[hDz u h1,hDz q hq];exact h3,by rw[if_neg (hne u h1),if_neg (hne q hq)];exact h4⟩
  ·intro z hz
   rcases List.mem_cons.1 hz with rfl|hz
   ·rw[if_pos rfl];exact Int.le_refl _
   ·rw[hDz z hz];have:=hM1 z hz;omega
  ·intro u v hu hvn hv huv
   have hv2:v∉U:=λe=>hv (List.mem_cons_of_mem _ e);rcases List.mem_cons.1 hu with e|hu
   ·subst e
    rw[if_pos rfl];have:=hF _ _ hxn hvn huv;omega
   ·rw[hDz u hu];exact hmi u v hu hvn hv2 huv
structure Spt(C:Nat→Nat→Int)(n a:Nat)(D:Nat→Int)(R:Nat→Nat):Prop where
 da:D a=0
 rk:∀x,x<n→R x+1≤n
 fe:Fea C n D
 ti:∀q,q<n→q≠a→∃p,p<n∧C p q≠NW∧D q=D p+C p q∧R p<R q
theorem spt{F:Nat→Int}(hA:Adj C n)(hF:Fea C n F)(ha:a<n):∃D R,Spt C n a D R:=by
 obtain⟨U,D,R,h⟩:=qop hA hF ha (n - 1) Ω;have hall:∀y,y<n→y∈U:=λy hy=>xf9 λc=>by
  have h1:=Q4 (n:=n) (l:=y :: U) (List.nodup_cons.2 ⟨c,h.nd⟩) (λz hz=>by
   rcases List.mem_cons.1 hz with rfl|hz
   ·exact hy
   ·exact h.lt z hz)
  have:=h.len;simp at h1;omega
 exact⟨D,R,h.da,λx hx=>by have:=h.rk x (hall x hx);omega,λp q hp hq=>h.fe p q (hall p hp) (hall q hq),λq hq hqa=>by
  obtain⟨p,h1,h2⟩:=h.ti q (hall q hq) hqa;exact⟨p,h.lt p h1,h2⟩⟩
theorem Spt.lst{D:Nat→Int}{R:Nat→Nat}(h:Spt C n a D R):Lst C n a D:=by
 refine⟨h.da,h.fe,λF hF q=>?_⟩;have:∀k q,R q≤k→q<n→F q - F a≤D q:=λk=>by
  induction k with
  |zero=>
   intro q hk hq;by_cases e:q=a
   ·subst e;have:=h.da;omega
   ·obtain⟨p,h1,h2,h3,h4⟩:=h.ti q hq e
    omega
  |succ k ih=>
   intro q hk hq;by_cases e:q=a
   ·subst e;have:=h.da;omega
   ·obtain⟨p,h1,h2,h3,h4⟩:=h.ti q hq e
    have h5:=ih p Ω h1;have h6:=hF p q h1 hq h2;omega
 exact this (R q) q (xa5 _)
theorem qmQ(C:Nat→Nat→Int)(S:Nat→Int)(p q x:Nat):rlx C S p q x≤S x:=by
 unfold rlx;split
 ·rename_i h;obtain⟨rfl,_,_,h⟩:=h;omega
 ·exact Int.le_refl _
theorem yG(C:Nat→Nat→Int)(S:Nat→Int)(p x:Nat):∀{i j},i≤j→jF C S p j x≤jF C S p i x
 |i,0,h=>by rw[Nat.le_zero.1 h];exact Int.le_refl _
 |i,j+1,h=>by
  by_cases e:i=j+1
  ·subst e;exact Int.le_refl _
  ·exact Int.le_trans (qmQ C _ p j x) (yG C S p x (i:=i) (j:=j) Ω)
theorem Qs(C:Nat→Nat→Int)(n:Nat)(S:Nat→Int)(x:Nat):∀{i j},i≤j→rnd C n S j x≤rnd C n S i x
 |i,0,h=>by rw[Nat.le_zero.1 h];exact Int.le_refl _
 |i,j+1,h=>by
  by_cases e:i=j+1
  ·subst e;exact Int.le_refl _
  ·exact Int.le_trans (yG C (rnd C n S j) j x (xb6 n)) (Qs C n S x (i:=i) (j:=j) Ω)
theorem qcJ{Q:(Nat→Int)→Prop}(hq:∀S p q,p<n→q<n→Q S→Q (rlx C S p q))(h:Q S)(hp:p<n)(hqn:q≤n):Q (jF C (rnd C n S p) p q):=by
 induction p generalizing q with
 |zero=>
  induction q with
  |zero=>exact h
  |succ q ih=>exact hq _ _ _ hp Ω (ih Ω)
 |succ p ihp=>
  induction q with
  |zero=>exact ihp Ω (xa5 _)
  |succ q ih=>exact hq _ _ _ hp Ω (ih Ω)
theorem Ys{Q:(Nat→Int)→Prop}(hq:∀S p q,p<n→q<n→Q S→Q (rlx C S p q))(h:Q S)(hp:p≤n):Q (rnd C n S p):=by
 cases p with
 |zero=>exact h
 |succ p=>exact qcJ hq h (q:=n) hp (xa5 _)
theorem qbn{C:Nat→Nat→Int}{n:Nat}{Q:(Nat→Int)→Prop}(hq:∀S p q,p<n→q<n→Q S→Q (rlx C S p q)){S:Nat→Int}(h:Q S):∀k,Q (itR C n S k)
 |0=>h
 |k+1=>Ys hq (qbn hq h k) (xa5 _)
def Abv(D:Nat→Int)(n:Nat)(S:Nat→Int):Prop:=∀x,x<n→D x≤S x
theorem VN{D:Nat→Int}(hD:Fea C n D)(S:Nat→Int)(p q:Nat)(hp:p<n)(hq:q<n)(h:Abv D n S):Abv D n (rlx C S p q):=λx hx=>by
 unfold rlx;split
 ·rename_i c;obtain⟨rfl,h1,_,_⟩:=c
  have h2:=hD p x hp hx h1;have h3:=h p hp;omega
 ·exact h x hx
theorem qmR{D:Nat→Int}(hD:Fea C n D)(hb:∀x,x<n→D x<NW)(h:Abv D n S)(hp:p<n)(hq:q<n)(hc:C p q≠NW)(he:D q=D p+C p q)(hs:S p=D p):rnd C n S n q=D q:=by
 have hab:∀{i j},i<n→j≤n→Abv D n (jF C (rnd C n S i) i j):=λhi hj=>qcJ (VN hD) h hi hj;have h1:jF C (rnd C n S p) p q p=D p:=by
  have h2:=hab hp (xb9 hq) p hp;have h3:=yG C (rnd C n S p) p p (xb6 q);have h4:=Qs C n S p (xb6 p);simp only[jF,rnd]at h3 h4;omega
 have h5:jF C (rnd C n S p) p (q+1) q≤D q:=by
  simp only[jF];unfold rlx;rw[h1];by_cases c:D p+C p q<jF C (rnd C n S p) p q q
  ·rw[if_pos ⟨rfl,hc,(by have:=hb p hp;omega),c⟩];omega
  ·rw[if_neg (λe=>c e.2.2.2)];omega
 have h6:=yG C (rnd C n S p) p q (Ω:q+1≤n);have h7:=Qs C n S q (Ω:p+1≤n);simp only[rnd]at h7;have h8:=Ys (VN hD) h (xa5 n) q hq;omega
theorem qku{D:Nat→Int}{R:Nat→Nat}(h:Spt C n a D R)(hb:∀x,x<n→D x<NW)(ha:a<n):∀k q,q<n→R q≤k→itR C n (S0 a) k q=D q:=by
 have h0:Abv D n (S0 a):=λx hx=>by
  unfold S0;split
  ·rename_i e;subst e;have:=h.da;omega
  ·exact Int.le_of_lt (hb x hx)
 have hab:=qbn (VN h.fe) h0;have hst:∀k q,q<n→itR C n (S0 a) k q=D q→itR C n (S0 a) (k+1) q=D q:=λk q hq e=>by
  have h1:=hab (k+1) q hq;have h2:=Qs C n (itR C n (S0 a) k) q (xb6 n);simp only[rnd]at h2;show rnd C n (itR C n (S0 a) k) n q=D q;have h3:D q≤rnd C n (itR C n (S0 a) k) n q:=h1;omega
 have hA:∀k,itR C n (S0 a) k a=D a:=λk=>by
  induction k with
  |zero=>simp[itR,S0,h.da]
  |succ k ih=>exact hst k a ha ih
 intro k
 induction k with
 |zero=>
  intro q hq hr;by_cases e:q=a
  ·subst e;exact hA 0
  ·obtain⟨p,h1,h2,h3,h4⟩:=h.ti q hq e;omega
 |succ k ih=>
  intro q hq hr;by_cases e:q=a
  ·subst e;exact hA _
  ·obtain⟨p,h1,h2,h3,h4⟩:=h.ti q hq e
   exact qmR h.fe hb (hab k) h1 hq h2 h3 (ih p h1 Ω)
theorem qhz{F:Nat→Int}(hA:Adj C n)(hF:Fea C n F)(ha:a<n)(hC:Cb C)(hn:n≤11):∃D,Lst C n a D∧(∀k,n≤k+1→∀x,x<n→itR C n (S0 a) k x=D x)∧(∀k,(∀x,x<n→itR C n (S0 a) (k+1) x=itR C n (S0 a) k x)→∀x,x<n→itR C n (S0 a) (k+1) x=D x):=by
 obtain⟨D,R,h⟩:=spt hA hF ha;have hb:∀x,x<n→D x<NW:=λx hx=>by
  have:∀k x,R x≤k→x<n→D x≤10000000*k:=λk=>by
   induction k with
   |zero=>
    intro q hk hq;by_cases e:q=a
    ·subst e;have:=h.da;omega
    ·obtain⟨p,h1,h2,h3,h4⟩:=h.ti q hq e;omega
   |succ k ih=>
    intro q hk hq;by_cases e:q=a
    ·subst e;have:=h.da;omega
    ·obtain⟨p,h1,h2,h3,h4⟩:=h.ti q hq e
     have h5:=ih p Ω h1;have h6:=(hC p q h2).2;omega
  have h1:=this (R x) x (xa5 _) hx;have h2:=h.rk x hx;unfold NW;omega
 have h1:∀k,n≤k+1→∀x,x<n→itR C n (S0 a) k x=D x:=λk hk x hx=>qku h hb ha k x hx (by have:=h.rk x hx;omega);refine⟨D,h.lst,h1,λk hk x hx=>?_⟩;have h2:∀j x,x<n→itR C n (S0 a) (k+j) x=itR C n (S0 a) k x:=λj=>by
  induction j with
  |zero=>intro x _;rfl
  |succ j ih=>
   intro x hx;have h3:∀(S T:Nat→Int),(∀x,x<n→S x=T x)→∀i,i≤n→∀x,x<n→rnd C n S i x=rnd C n T i x:=λS T hST i=>by
    have h4:∀(S T:Nat→Int),(∀x,x<n→S x=T x)→∀i,i<n→∀j,j≤n→∀x,x<n→jF C S i j x=jF C T i j x:=λS T hST i hi j=>by
     induction j with
     |zero=>intro _ x hx;exact hST x hx
     |succ j ih=>
      intro hj x hx;simp only[jF,rlx];rw[ih Ω x hx,ih Ω i hi,ih Ω j Ω]
    induction i with
    |zero=>intro _ x hx;exact hST x hx
    |succ i ih=>intro hi x hx;exact h4 _ _ (ih Ω) i Ω n (xa5 _) x hx
   have h5:=h3 _ _ (λx hx=>ih x hx) n (xa5 _) x hx;have h6:=hk x hx;simp only[itR]at h6;show rnd C n (itR C n (S0 a) (k+j)) n x=_;rw[h5,h6]
 have h3:=h2 n x hx;rw[hk x hx,←h3];exact h1 (k+n) Ω x hx
def Bd(n:Nat)(B:Int)(S:Nat→Int):Prop:=∀x,x<n→S x=NW∨(-B≤S x∧S x≤B)
theorem qmS(hC:Cb C){B:Int}(hp:p<n)(h:Bd n B S):Bd n (B+10000000) (rlx C S p q):=λx hx=>by
 unfold rlx;split
 ·rename_i c;obtain⟨rfl,h1,h2,_⟩:=c
  have h3:=hC _ _ h1;rcases h p hp with h4|h4
  ·exact absurd h4 h2
  ·right;omega
 ·rcases h x hx with h4|h4
  ·exact .inl h4
  ·right;omega
theorem qbo{C:Nat→Nat→Int}{n:Nat}(hC:Cb C){B:Int}{S:Nat→Int}{p:Nat}(hp:p<n)(h:Bd n B S):∀q:Nat,Bd n (B+10000000*q) (jF C S p q)
 |0=>by simpa[jF]using h
 |q+1=>by
  have:=qmS (q:=q) hC hp (qbo hC hp h q);intro x hx;rcases this x hx with h4|h4
  ·exact .inl h4
  ·right;simp only[jF];omega
theorem qbp{C:Nat→Nat→Int}{n:Nat}(hC:Cb C)(hn:n≤11){B:Int}{S:Nat→Int}(h:Bd n B S):∀p:Nat,p≤n→Bd n (B+110000000*p) (rnd C n S p)
 |0,_=>by simpa[rnd]using h
 |p+1,hp=>by
  have:=qbo hC (p:=p) hp (qbp hC hn h p Ω) n;intro x hx;rcases this x hx with h4|h4
  ·exact .inl h4
  ·right;simp only[rnd];omega
theorem qhA{C:Nat→Nat→Int}{n:Nat}(hC:Cb C)(hn:n≤11)(a:Nat):∀k:Nat,Bd n (1210000000*k) (itR C n (S0 a) k)
 |0=>λx hx=>by
  show S0 a x=NW∨_≤S0 a x∧S0 a x≤_;unfold S0;split
  ·right;omega
  ·left;rfl
 |k+1=>by
  have:=qbp hC hn (qhA hC hn a k) n (xa5 n);intro x hx;rcases this x hx with h4|h4
  ·exact .inl h4
  ·right;simp only[itR];omega
theorem qkv(hA:Adj C n)(hC:Cb C)(hn:n≤11)(ha:a<n){k:Nat}(hk12:k≤20)(hk:∀x,x<n→itR C n (S0 a) (k+1) x=itR C n (S0 a) k x):Fea C n (itR C n (S0 a) (k+1)):=by
 have hst:∀i j x,i<n→j≤n→x<n→jF C (rnd C n (itR C n (S0 a) k) i) i j x=itR C n (S0 a) k x:=λi j x hi hj hx=>by
  have h1:=yG C (rnd C n (itR C n (S0 a) k) i) i x hj;have h2:=Qs C n (itR C n (S0 a) k) x (Ω:i+1≤n);have h3:=yG C (rnd C n (itR C n (S0 a) k) i) i x (xb6 j);have h4:=Qs C n (itR C n (S0 a) k) x (xb6 i);have h5:=hk x hx;simp only[itR,jF,rnd]at *;omega
 have hcl:∀p q,p<n→q<n→C p q≠NW→itR C n (S0 a) k p≠NW→itR C n (S0 a) k q≤itR C n (S0 a) k p+C p q:=λp q hp hq hc hf=>by
  have h1:=hst p (q+1) q hp Ω hq;simp only[jF]at h1;unfold rlx at h1;rw[hst p q p hp Ω hp,hst p q q hp Ω hq]at h1;by_cases c:itR C n (S0 a) k p+C p q<itR C n (S0 a) k q
  ·rw[if_pos ⟨rfl,hc,hf,c⟩]at h1;omega
  ·omega
 have hb:=qhA hC hn a k;have hnx:∀p q,p<n→q<n→C p q≠NW→itR C n (S0 a) k p≠NW→itR C n (S0 a) k q≠NW:=λp q hp hq hc hf e=>by
  have h1:=hcl p q hp hq hc hf;have h2:=hC p q hc;rcases hb p hp with h3|h3
  ·exact hf h3
  ·rw[e]at h1;unfold NW at h1;omega
 have hfa:itR C n (S0 a) k a≠NW:=by
  have h1:∀k,itR C n (S0 a) k a≤0:=λk=>by
   induction k with
   |zero=>simp[itR,S0]
   |succ k ih=>exact Int.le_trans (Qs C n (itR C n (S0 a) k) a (xb6 n)) ih
  have:=h1 k;unfold NW;omega
 have hup:∀d,a+d<n→itR C n (S0 a) k (a+d)≠NW:=λd=>by
  induction d with
  |zero=>intro _;exact hfa
  |succ d ih=>intro h;exact hnx (a+d) (a+(d+1)) Ω h (hA (a+d) h).1 (ih Ω)
 have hdn:∀d,d≤a→itR C n (S0 a) k (a - d)≠NW:=λd=>by
  induction d with
  |zero=>intro _;exact hfa
  |succ d ih=>
   intro h;have h1:=(hA (a -(d+1)) Ω).2;rw[show a -(d+1)+1=a - d by omega]at h1;exact hnx (a - d) (a -(d+1)) Ω Ω h1 (ih Ω)
 have hfin:∀x,x<n→itR C n (S0 a) k x≠NW:=λx hx=>by
  by_cases c:a≤x
  ·have:=hup (x - a) Ω;rwa [show a+(x - a)=x by omega]at this
  ·have:=hdn (a - x) Ω;rwa [show a -(a - x)=x by omega]at this
 intro p q hp hq hc;rw[hk p hp,hk q hq];exact hcl p q hp hq hc (hfin p hp)
end Go.Tn
end
section
namespace Go.Tn
structure Ha where
 w:Nat
 m:Int
 k:Nat
 f:Nat→Nat
 t:Nat→Nat
 lo:Nat→Int
 hi:Nat→Int
structure Ha.Ok(h:Ha):Prop where
 w1:1≤h.w
 w2:h.w≤10
 k:h.k≤10
 m:0≤h.m∧h.m≤1000000
 ft:∀j,j<h.k→h.f j≤h.t j∧h.t j<h.w
 lh:∀j,j<h.k→0≤h.lo j∧h.lo j≤h.hi j∧h.hi j≤10000000
def Ks:List (Nat×Nat×Int)→Nat→Nat→Int
 |[]=>λ_ _=>NW
 |e :: l=>λx y=>if x=e.1∧y=e.2.1∧e.2.2<Ks l x y then e.2.2 else Ks l x y
def Ha.fw(h:Ha)(i:Nat):Nat×Nat×Int:=if i<h.w then(i,i+1,h.m)else(h.f (i - h.w),h.t (i - h.w)+1,h.hi (i - h.w))
def Ha.bk(h:Ha)(i:Nat):Nat×Nat×Int:=if i<h.w then(i+1,i,0)else(h.t (i - h.w)+1,h.f (i - h.w),- h.lo (i - h.w))
def Ha.st(h:Ha):Nat→List (Nat×Nat×Int)
 |0=>[]
 |i+1=>h.bk i :: h.fw i :: h.st i
def Ha.C(h:Ha):Nat→Nat→Int:=Ks (h.st (h.w+h.k))
def Ha.Tru(h:Ha)(F:Nat→Int):Prop:=(∀i,i<h.w→0≤F (i+1) - F i∧F (i+1) - F i≤h.m)∧∀j,j<h.k→h.lo j≤F (h.t j+1) - F (h.f j)∧F (h.t j+1) - F (h.f j)≤h.hi j
theorem KC:∀{l:List (Nat×Nat×Int)}{p q:Nat}{c:Int},(p,q,c)∈l→Ks l p q≤c
 |e :: l,p,q,c,h=>by
  rcases List.mem_cons.1 h with rfl|h
  ·simp only[Ks,true_and];split<;>omega
  ·have:=KC h
   simp only[Ks];split<;>omega
theorem GG:∀{l:List (Nat×Nat×Int)}{p q:Nat},Ks l p q≠NW→(p,q,Ks l p q)∈l
 |[],p,q,h=>absurd rfl h
 |(a,b,c) :: l,p,q,h=>by
  simp only[Ks]at h ⊢;split
  ·rename_i c;obtain⟨rfl,rfl,_⟩:=c;simp
  ·rename_i c;rw[if_neg c]at h;exact List.mem_cons_of_mem _ (GG h)
theorem Ha.st_mem(h:Ha):∀{n:Nat}{e:Nat×Nat×Int},e∈h.st n↔∃i,i<n∧(e=h.fw i∨e=h.bk i)
 |0,e=>by simp[Ha.st]
 |n+1,e=>by
  simp only[Ha.st,List.mem_cons,Ha.st_mem h (n:=n)];constructor
  ·rintro(h1|h1|⟨i,h1,h2⟩)
   ·exact⟨n,Ω,.inr h1⟩
   ·exact⟨n,Ω,.inl h1⟩
   ·exact⟨i,Ω,h2⟩
  ·rintro⟨i,h1,h2⟩
   by_cases c:i=n
   ·subst c;rcases h2 with h2|h2
    ·exact .inr (.inl h2)
    ·exact .inl h2
   ·exact .inr (.inr ⟨i,Ω,h2⟩)
variable{h:Ha}
theorem Ha.Ok.step(o:h.Ok){n:Nat}(hn:n≤h.w+h.k){p q:Nat}{c:Int}(hm:(p,q,c)∈h.st n):p≤h.w∧q≤h.w∧-10000000≤c∧c≤10000000:=by
 obtain⟨i,h1,h2⟩:=h.st_mem.1 hm;have hm2:=o.m;rcases h2 with h2|h2
 ·unfold Ha.fw at h2
  split at h2
  ·cases h2;exact⟨Ω,Ω,Ω,Ω⟩
  ·have h3:=o.ft (i - h.w) Ω
   have h4:=o.lh (i - h.w) Ω;cases h2;exact⟨Ω,Ω,Ω,Ω⟩
 ·unfold Ha.bk at h2
  split at h2
  ·cases h2;exact⟨Ω,Ω,Ω,Ω⟩
  ·have h3:=o.ft (i - h.w) Ω
   have h4:=o.lh (i - h.w) Ω;cases h2;exact⟨Ω,Ω,Ω,Ω⟩
theorem Ha.Ok.cb(o:h.Ok):Cb h.C:=λp q hc=>(o.step (xa5 _) (GG hc)).2.2
theorem Ha.Ok.adj(o:h.Ok):Adj h.C (h.w+1):=λi hi=>by
 have h1:=KC (l:=h.st (h.w+h.k)) (p:=i) (q:=i+1) (c:=h.m) (h.st_mem.2 ⟨i,Ω,.inl (by unfold Ha.fw;rw[if_pos Ω])⟩);have h2:=KC (l:=h.st (h.w+h.k)) (p:=i+1) (q:=i) (c:=0) (h.st_mem.2 ⟨i,Ω,.inr (by unfold Ha.bk;rw[if_pos Ω])⟩);have:=o.m;unfold Ha.C NW;omega
theorem Ha.Ok.fea(o:h.Ok){F:Nat→Int}:Fea h.C (h.w+1) F↔h.Tru F:=by
 constructor
 ·intro hF
  have key:∀{p q:Nat}{c:Int},(p,q,c)∈h.st (h.w+h.k)→F q≤F p+c:=λ{p q c} hm=>by
   have h1:=o.step (xa5 _) hm;have h2:=KC hm;have h3:=hF p q Ω Ω (by unfold Ha.C NW;omega);unfold Ha.C at h3;omega
  constructor
  ·intro i hi
   have h1:=key (h.st_mem.2 ⟨i,Ω,.inl (by unfold Ha.fw;rw[if_pos hi])⟩);have h2:=key (h.st_mem.2 ⟨i,Ω,.inr (by unfold Ha.bk;rw[if_pos hi])⟩);omega
  ·intro j hj
   have h1:=key (h.st_mem.2 ⟨h.w+j,Ω,.inl (by unfold Ha.fw;rw[if_neg Ω])⟩);have h2:=key (h.st_mem.2 ⟨h.w+j,Ω,.inr (by unfold Ha.bk;rw[if_neg Ω])⟩);simp only[xb7]at h1 h2;omega
 ·rintro⟨h1,h2⟩ p q hp hq hc
  obtain⟨i,h3,h4⟩:=h.st_mem.1 (GG hc);unfold Ha.C;generalize Ks (h.st (h.w+h.k)) p q=c at *;rcases h4 with h4|h4
  ·unfold Ha.fw at h4
   split at h4
   ·cases h4;have:=h1 p (by assumption);omega
   ·cases h4;have:=h2 (i - h.w) Ω;omega
  ·unfold Ha.bk at h4
   split at h4
   ·cases h4;have:=h1 q (by assumption);omega
   ·cases h4;have:=h2 (i - h.w) Ω;omega
theorem Ha.Ok.least(o:h.Ok){a:Nat}(ha:a≤h.w):(∃D,Lst h.C (h.w+1) a D∧(∃k,k≤h.w∧∀x,x≤h.w→itR h.C (h.w+1) (S0 a) (k+1) x=itR h.C (h.w+1) (S0 a) k x)∧∀k,(∀x,x≤h.w→itR h.C (h.w+1) (S0 a) (k+1) x=itR h.C (h.w+1) (S0 a) k x)→∀x,x≤h.w→itR h.C (h.w+1) (S0 a) (k+1) x=D x)∨((∀F,¬h.Tru F)∧∀k,k≤20→¬∀x,x≤h.w→itR h.C (h.w+1) (S0 a) (k+1) x=itR h.C (h.w+1) (S0 a) k x):=by
 have hw:=o.w2;by_cases hF:∃F,h.Tru F
 ·obtain⟨F,hF⟩:=hF
  obtain⟨D,h1,h2,h3⟩:=qhz o.adj (o.fea.2 hF) (a:=a) Ω o.cb Ω;refine .inl ⟨D,h1,⟨h.w,xa5 _,λx hx=>?_⟩,λk hk x hx=>h3 k (λy hy=>hk y Ω) x Ω⟩;rw[h2 (h.w+1) Ω x Ω,h2 h.w Ω x Ω]
 ·refine .inr ⟨λF h=>hF ⟨F,h⟩,λk hk hs=>hF ⟨_,o.fea.1 (qkv o.adj o.cb Ω (a:=a) Ω hk λx hx=>hs x Ω)⟩⟩
end Go.Tn
end
section
namespace Go.Tn
open Go.Proofs
open Go.Sx
end Go.Tn
end
section
namespace Go.He
structure Wd where
 a:Int
 b:Int
 k:Int
def Lk(w:Wd)(x y:Int):Prop:=(w.a=x∧w.b=y)∨(w.k=1∧w.b=x∧w.a=y)
def lnk(w:Wd)(l:List Int):List Int:=(if w.a∈l then [w.b]else [])++(if w.k=1∧w.b∈l then [w.a]else [])
structure Pth(w:Nat→Wd)(c:Nat→Int)(j:Nat)(p:Nat→Int):Prop where
 lk:∀i,i<j→Lk (w (c i).toNat) (p i) (p (i+1))
inductive Go(w:Nat→Wd)(m:Nat)(x:Int):Nat→Int→Prop
 |nil:Go w m x 0 x
 |snoc {d:Nat} {y z:Int} (i:Nat) (h:Go w m x d y) (hi:i<m) (hl:Lk (w i) y z):Go w m x (d+1) z
structure Fit(w:Nat→Wd)(m:Nat)(n:Int):Prop where
 a:∀i,i<m→0≤(w i).a∧(w i).a<n
 b:∀i,i<m→0≤(w i).b∧(w i).b<n
 ne:∀i,i<m→(w i).a≠(w i).b
 k:∀i,i<m→0≤(w i).k∧(w i).k≤2
open Classical in
noncomputable def cnt(P:Int→Prop):Nat→Nat
 |0=>0
 |n+1=>cnt P n+(if P n then 1 else 0)
def Wi(w:Nat→Wd)(m:Nat)(x:Int)(d:Nat)(y:Int):Prop:=∃e,e≤d∧Go w m x e y
def Bef(w:Nat→Wd)(m:Nat)(x y:Int):Prop:=∃i d e,i<m∧(w i).k=0∧Go w m x d (w i).a∧Go w m (w i).b e y
def Loop(w:Nat→Wd)(m:Nat):Prop:=∃i d,i<m∧(w i).k=0∧Go w m (w i).b d (w i).a
noncomputable def key(w:Nat→Wd)(m n:Nat)(x:Int):Nat:=cnt (λy=>Bef w m y x) n
end Go.He
end
section
namespace Go.He
def rkN(g:Nat→Int)(i:Nat):Nat→Int
 |0=>1
 |k+1=>if g k<g i then rkN g i k+1 else rkN g i k
def rk(g:Nat→Int)(n i:Nat):Int:=rkN g i n
def Fin(g:Nat→Int)(n:Nat):Prop:=∀i,i<n→g i=rk g n i
instance(g:Nat→Int)(n:Nat):Decidable (Fin g n):=by unfold Fin;infer_instance
def enc(n:Nat)(f:Nat→Nat):Nat→Nat
 |0=>0
 |j+1=>enc n f j*n+f j
end Go.He
end
section
namespace Go.He
end Go.He
end
section
namespace Go.He
def lst(p:Nat→Bool):Nat→List Nat
 |0=>[]
 |T+1=>if p T=true then lst p T++[T]else lst p T
theorem qkw{φ:Nat→Nat}:∀{l m:List Nat},l.Nodup→(∀a,a∈l→φ a∈m)→(∀a b,a∈l→b∈l→φ a=φ b→a=b)→l.length≤m.length
 |[],_,_,_,_=>xb6 _
 |a :: l,m,hn,hm,hi=>by
  rw[List.nodup_cons]at hn;have h1:=hm a Ωi;have:=qkw (φ:=φ) (l:=l) (m:=m.erase (φ a)) hn.2 (λb hb=>by
   refine(List.mem_erase_of_ne λe=>?_).2 (hm b (by simp[hb]));have:=hi b a (by simp[hb]) Ωi e;exact hn.1 (this▸hb)) λb c hb hc=>hi b c (by simp[hb]) (by simp[hc])
  rw[List.length_erase_of_mem h1]at this;have h2:=List.length_pos_of_mem h1;simp only[xe4];omega
end Go.He
end
section
namespace Go.He
def cat(w:Nat→Wd)(l:List Int):Nat→List Int
 |0=>[]
 |k+1=>cat w l k++lnk (w k) l
def lev(w:Nat→Wd)(m:Nat)(x:Int):Nat→List Int
 |0=>[x]
 |d+1=>cat w (lev w m x d) m
structure Mi(S:Nat→Prop)(N:Nat):Prop where
 none:N=0→∀L,¬S L
 some:N≠0→S N
 le:∀L,S L→N≤L
def inS(w:Nat→Wd)(m i:Nat)(best:Nat):Nat→Nat
 |0=>best
 |j+1=>if (w i).a∈lev w m (w i).b j∧(inS w m i best j=0∨j+1<inS w m i best j)then j+1 else inS w m i best j
def shN(w:Nat→Wd)(m n:Nat):Nat→Nat
 |0=>0
 |i+1=>if (w i).k=0 then inS w m i (shN w m n i) n else shN w m n i
end Go.He
end
section
namespace Go.He
def stI(w:Nat→Wd)(a b:Int):Nat→Option Nat
 |0=>none
 |i+1=>if (w i).k=0∧(w i).a=a∧(w i).b=b then some i else stI w a b i
def wkI(w:Nat→Wd)(a b:Int):Nat→Option Nat
 |0=>none
 |i+1=>if (w i).k≠0∧(((w i).a=a∧(w i).b=b)∨((w i).k=1∧(w i).b=a∧(w i).a=b))then some i else wkI w a b i
def lkI(w:Nat→Wd)(m:Nat)(a b:Int):Option Nat:=match stI w a b m with|some i=>some i|none=>wkI w a b m
structure Bs where
 wait:List Nat
 ways:Nat→List Nat
 seen:Nat→Bool
def upN{α:Type}(f:Nat→α)(k:Nat)(x:α)(j:Nat):α:=if j=k then x else f j
def stp(w:Nat→Wd)(m a:Nat)(s:Bs)(b:Nat):Bs:=
 match lkI w m a b with
 |some i=>if s.seen b=false then⟨s.wait++[b],upN s.ways b (s.ways a++[i]),upN s.seen b true⟩else s
 |none=>s
def inn(w:Nat→Wd)(m a:Nat)(s:Bs):Nat→Bs
 |0=>s
 |b+1=>stp w m a (inn w m a s b) b
def pop(s:Bs):Bs:=⟨s.wait.tail,s.ways,s.seen⟩
def nxt(w:Nat→Wd)(m n:Nat)(s:Bs):Bs:=pop (inn w m (s.wait.headD 0) s n)
def ini(x:Nat):Bs:=⟨[x],λ_=>[],λj=>decide (j=x)⟩
def bfs(w:Nat→Wd)(m n to:Nat):Nat→Bs→Option (List Nat)
 |0,_=>none
 |f+1,s=>match s.wait with
  |[]=>none
  |a :: _=>if a=to then some (s.ways a)else bfs w m n to f (nxt w m n s)
inductive Wy(w:Nat→Wd)(m:Nat)(x:Int):List Nat→Int→Prop
 |nil:Wy w m x [] x
 |snoc {l:List Nat} {y z:Int} (i:Nat) (h:Wy w m x l y) (hi:i<m) (hl:Lk (w i) y z):Wy w m x (l++[i]) z
structure Bf(w:Nat→Wd)(m n x:Nat)(done:List Nat)(s:Bs):Prop where
 nd:(done++s.wait).Nodup
 lt:∀y,y∈done++s.wait→y<n
 seen:∀y,s.seen y=true↔y∈done++s.wait
 way:∀y,y∈done++s.wait→Wy w m x (s.ways y) y
 src:x∈done++s.wait∧s.ways x=[]
 out:∀a,a∈done→∀b i:Nat,b<n→i<m→Lk (w i) a b→b∈done++s.wait∧(s.ways b).length≤(s.ways a).length+1
 sort:(done++s.wait).Pairwise λy z=>(s.ways y).length≤(s.ways z).length
 near:∀a r,s.wait=a :: r→∀y,y∈s.wait→(s.ways y).length≤(s.ways a).length+1
def way(w:Nat→Wd)(m n x to:Nat):Option (List Nat):=bfs w m n to (n+1) (ini x)
end Go.He
end
section
namespace Go.He
structure Cc(w:Nat→Wd)(m n:Nat)(c:List Nat):Prop where
 ex:∃i l,c=i :: l∧i<m∧(w i).k=0∧Wy w m (w i).b l (w i).a
def Pz(w:Nat→Wd)(m:Nat)(S:Nat→Nat→Prop)(L:Nat):Prop:=∃one two i d:Nat,S one two∧i<m∧(w i).k=0∧(w i).a=one∧(w i).b=two∧Go w m (w i).b d (w i).a∧L=d+1
structure Bt(w:Nat→Wd)(m n:Nat)(S:Nat→Nat→Prop)(best:List Nat):Prop where
 mi:Mi (Pz w m S) best.length
 ok:best≠[]→Cc w m n best
end Go.He
end
section
namespace Go.He
structure Inc(l:List Nat)(f b:Nat):Prop where
 p:l.Pairwise (· < ·)
 m:∀x,x∈l→f≤x∧x<b
end Go.He
end
section
namespace Go.He
end Go.He
end
section
namespace Go.Tn
open Go.Proofs
open Go.Sx
open Go.He
theorem one1(a:Int):∀(i j:Nat),i<1→j<1→oneCell ([.val (.int .i64 a)].getD (i+j) SV.top)=true:=by
 intro i j hi hj;obtain rfl:i=0:=by omega
 obtain rfl:j=0:=by omega
 rfl
end Go.Tn
end
section
namespace Go.Sx
open Go.RowKit
noncomputable section
variable{j k n:Nat}{b':Blk}{LM:Nat→Option Loop}{H:List (Nat×Blk)}{r:Res}{s:SV}{obl:Prop}{args:List SV}
inductive Q8(β:Type):Type
 |mk (a b c d e f g h:β)
def T8(α:Type):Nat→Type
 |0=>Option α
 |n+1=>Q8 (T8 α n)
def Tr(n:Nat)(α:Type):Type:=T8 α n
inductive XB:Type
 |cells (t:TypeId) (l:List SV)
 |rows (t:TypeId) (k n:Nat) (l:List SV)
 |loop (s:RSt)
 |map (ag:Bool) (ls:List Lf) (es:List (Value×Option SV))
inductive Q:Type
 |mk (s:SV) (hp:Tr 6 XB) (nid:Nat)
inductive R:Type
 |ok (q:Q)
 |bad (c id:Nat)
variable{ρ:Q}
section
variable{α β:Type}
def qm(n:Nat)(f:Nat→β):β:=Nat.rec (f 0) (λm _=>f (Nat.succ m)) n
theorem qg(n:Nat)(f:Nat→β):qm n f=f n:=by cases n<;>rfl
def Yt(n:Int)(f:Int→β):β:=Int.rec (λa=>qm a λa=>f (.ofNat a)) (λa=>qm a λa=>f (.negSucc a)) n
theorem jG(n:Int)(f:Int→β):Yt n f=f n:=by cases n<;>exact qg _ (λa=>f _)
def Kh(b:Bool)(f:Bool→β):β:=Bool.rec (f false) (f true) b
theorem Q5(b:Bool)(f:Bool→β):Kh b f=f b:=by cases b<;>rfl
def gI(l:List α)(f:List α→β):β:=(List.rec (motive:=λ_=>(List α→β)→β) (λf=>f []) (λa _ ih f=>ih λl=>f (a :: l)) l) f
theorem qT(l:List α):∀(f:List α→β),gI l f=f l:=by
 induction l with
 |nil=>intro f;rfl
 |cons a l ih=>intro f;exact ih λl=>f (a :: l)
inductive Bx(α:Type):Type
 |mk (a:α)
def Bx.get(b:Bx α):α:=Bx.rec (λa=>a) b
def em8(α:Type):(n:Nat)→T8 α n
 |0=>none
 |n+1=>.mk (em8 α n) (em8 α n) (em8 α n) (em8 α n) (em8 α n) (em8 α n) (em8 α n) (em8 α n)
def Tr.nil{α:Type}:Tr n α:=em8 α n
def JV(k:Nat)(x0 x1 x2 x3 x4 x5 x6 x7:β):β:=Nat.rec x0 (λk _=>Nat.rec x1 (λk _=>Nat.rec x2 (λk _=>Nat.rec x3 (λk _=>Nat.rec x4 (λk _=>Nat.rec x5 (λk _=>Nat.rec x6 (λ_ _=>x7) k) k) k) k) k) k) k
def Yu(k:Nat)(t:Q8 β):β:=Q8.rec (λa b c d e f g h=>JV k a b c d e f g h) t
def qmT(k:Nat)(t:Q8 β)(y:β):Q8 β:=Q8.rec (λa b c d e f g h=>JV k (.mk y b c d e f g h) (.mk a y c d e f g h) (.mk a b y d e f g h) (.mk a b c y e f g h) (.mk a b c d y f g h) (.mk a b c d e y g h) (.mk a b c d e f y h) (.mk a b c d e f g y)) t
theorem Yv(h:k<8):k=0∨k=1∨k=2∨k=3∨k=4∨k=5∨k=6∨k=7:=by omega
theorem qhB(hk:k<8)(hj:j<8)(t:Q8 β)(y:β):Yu j (qmT k t y)=if j=k then y else Yu j t:=by
 cases t;rcases Yv hk with rfl|rfl|rfl|rfl|rfl|rfl|rfl|rfl<;>rcases Yv hj with rfl|rfl|rfl|rfl|rfl|rfl|rfl|rfl<;>rfl
def yV(α:Type)(n:Nat):Nat→Bx (T8 α n→Option α):=Nat.rec (motive:=λn=>Nat→Bx (T8 α n→Option α)) (λi=>Nat.rec (.mk λt=>t) (λ_ _=>.mk λ_=>none) i)
 (λn ih i=>qm (i / 8) λk=>Bx.rec (λq=>JV (i % 8) (.mk λt=>Q8.rec (motive:=λ_=>Option α) (λa _ _ _ _ _ _ _=>q a) t) (.mk λt=>Q8.rec (motive:=λ_=>Option α) (λ_ a _ _ _ _ _ _=>q a) t) (.mk λt=>Q8.rec (motive:=λ_=>Option α) (λ_ _ a _ _ _ _ _=>q a) t) (.mk λt=>Q8.rec (motive:=λ_=>Option α) (λ_ _ _ a _ _ _ _=>q a) t) (.mk λt=>Q8.rec (motive:=λ_=>Option α) (λ_ _ _ _ a _ _ _=>q a) t) (.mk λt=>Q8.rec (motive:=λ_=>Option α) (λ_ _ _ _ _ a _ _=>q a) t) (.mk λt=>Q8.rec (motive:=λ_=>Option α) (λ_ _ _ _ _ _ a _=>q a) t) (.mk λt=>Q8.rec (motive:=λ_=>Option α) (λ_ _ _ _ _ _ _ a=>q a) t)) (ih k)) n
theorem ZP(n i:Nat)(t:T8 α (n+1)):(yV α (n+1) i).get t=(yV α n (i / 8)).get (Yu (i % 8) t):=by
 have e:yV α (n+1) i=qm (i / 8) λk=>Bx.rec (λq=>JV (i % 8) (.mk λt=>Q8.rec (motive:=λ_=>Option α) (λa _ _ _ _ _ _ _=>q a) t) (.mk λt=>Q8.rec (motive:=λ_=>Option α) (λ_ a _ _ _ _ _ _=>q a) t) (.mk λt=>Q8.rec (motive:=λ_=>Option α) (λ_ _ a _ _ _ _ _=>q a) t) (.mk λt=>Q8.rec (motive:=λ_=>Option α) (λ_ _ _ a _ _ _ _=>q a) t) (.mk λt=>Q8.rec (motive:=λ_=>Option α) (λ_ _ _ _ a _ _ _=>q a) t) (.mk λt=>Q8.rec (motive:=λ_=>Option α) (λ_ _ _ _ _ a _ _=>q a) t) (.mk λt=>Q8.rec (motive:=λ_=>Option α) (λ_ _ _ _ _ _ a _=>q a) t) (.mk λt=>Q8.rec (motive:=λ_=>Option α) (λ_ _ _ _ _ _ _ a=>q a) t)) (yV α n k):=rfl;rw[e,qg];cases yV α n (i / 8)with
 |mk q=>
 cases t;rcases Yv (Nat.mod_lt i (show 0<8 by decide))with h|h|h|h|h|h|h|h<;>rw[h]<;>rfl
def Tr.find(t:Tr n α)(i:Nat):Option α:=qm i λi=>Bx.rec (λq=>q t) (yV α n i)
theorem KD(t:Tr n α)(i:Nat):t.find i=(yV α n i).get t:=by
 unfold Tr.find;rw[qg];rfl
theorem qhC:∀(n i:Nat),(yV α n i).get (em8 α n)=none
 |0,0=>rfl
 |0,_+1=>rfl
 |n+1,i=>by
  rw[ZP];have:Yu (i % 8) (em8 α (n+1))=em8 α n:=by
   rcases Yv (Nat.mod_lt i (show 0<8 by decide))with h|h|h|h|h|h|h|h<;>rw[h]<;>rfl
  rw[this];exact qhC n _
theorem Q6(i:Nat):(Tr.nil:Tr n α).find i=none:=by rw[KD];exact qhC n i
def Qt(α:Type)(n:Nat):Nat→Bx (T8 α n→Option α→(T8 α n→R)→R):=Nat.rec (motive:=λn=>Nat→Bx (T8 α n→Option α→(T8 α n→R)→R)) (λi=>Nat.rec (.mk λ_ a f=>f a) (λ_ _=>.mk λ_ _ _=>.bad 2 0) i)
 (λn ih i=>qm (i / 8) λk=>Bx.rec (λq=>JV (i % 8) (.mk λt s z=>Q8.rec (motive:=λ_=>R) (λa b c d e f g h=>q a s λa=>z (.mk a b c d e f g h)) t) (.mk λt s z=>Q8.rec (motive:=λ_=>R) (λa b c d e f g h=>q b s λb=>z (.mk a b c d e f g h)) t) (.mk λt s z=>Q8.rec (motive:=λ_=>R) (λa b c d e f g h=>q c s λc=>z (.mk a b c d e f g h)) t) (.mk λt s z=>Q8.rec (motive:=λ_=>R) (λa b c d e f g h=>q d s λd=>z (.mk a b c d e f g h)) t)
  (.mk λt s z=>Q8.rec (motive:=λ_=>R) (λa b c d e f g h=>q e s λe=>z (.mk a b c d e f g h)) t) (.mk λt s z=>Q8.rec (motive:=λ_=>R) (λa b c d e f g h=>q f s λf=>z (.mk a b c d e f g h)) t) (.mk λt s z=>Q8.rec (motive:=λ_=>R) (λa b c d e f g h=>q g s λg=>z (.mk a b c d e f g h)) t) (.mk λt s z=>Q8.rec (motive:=λ_=>R) (λa b c d e f g h=>q h s λh=>z (.mk a b c d e f g h)) t)) (ih k)) n
theorem qfi(n i:Nat)(t:T8 α (n+1))(s:Option α)(z:T8 α (n+1)→R):(Qt α (n+1) i).get t s z=(Qt α n (i / 8)).get (Yu (i % 8) t) s λy=>z (qmT (i % 8) t y):=by
 have e:Qt α (n+1) i=qm (i / 8) λk=>Bx.rec (λq=>JV (i % 8) (.mk λt s z=>Q8.rec (motive:=λ_=>R) (λa b c d e f g h=>q a s λa=>z (.mk a b c d e f g h)) t) (.mk λt s z=>Q8.rec (motive:=λ_=>R) (λa b c d e f g h=>q b s λb=>z (.mk a b c d e f g h)) t) (.mk λt s z=>Q8.rec (motive:=λ_=>R) (λa b c d e f g h=>q c s λc=>z (.mk a b c d e f g h)) t) (.mk λt s z=>Q8.rec (motive:=λ_=>R) (λa b c d e f g h=>q d s λd=>z (.mk a b c d e f g h)) t)
  (.mk λt s z=>Q8.rec (motive:=λ_=>R) (λa b c d e f g h=>q e s λe=>z (.mk a b c d e f g h)) t) (.mk λt s z=>Q8.rec (motive:=λ_=>R) (λa b c d e f g h=>q f s λf=>z (.mk a b c d e f g h)) t) (.mk λt s z=>Q8.rec (motive:=λ_=>R) (λa b c d e f g h=>q g s λg=>z (.mk a b c d e f g h)) t) (.mk λt s z=>Q8.rec (motive:=λ_=>R) (λa b c d e f g h=>q h s λh=>z (.mk a b c d e f g h)) t)) (Qt α n k):=rfl
 rw[e,qg];cases Qt α n (i / 8)with
 |mk q=>
 cases t;rcases Yv (Nat.mod_lt i (show 0<8 by decide))with h|h|h|h|h|h|h|h<;>rw[h]<;>rfl
def qY(a:Option α)(_:Nat)(t:Tr n α)(i:Nat)(f:Tr n α→R):R:=qm i λi=>Bx.rec (λq=>q t a f) (Qt α n i)
theorem VO(a:Option α)(m:Nat)(t:Tr n α)(i:Nat)(f:Tr n α→R):qY a m t i f=(Qt α n i).get t a f:=by
 unfold qY;rw[qg];rfl
def qhD(t t':Tr n α)(i:Nat)(a:Option α):Prop:=∀j,t'.find j=if j=i then a else t.find j
theorem qcK{a:Option α}:∀(n:Nat)(t:T8 α n)(i:Nat)(f:T8 α n→R),(Qt α n i).get t a f=.ok ρ→∃t',(∀j,(yV α n j).get t'=if j=i then a else(yV α n j).get t)∧f t'=.ok ρ
 |0,t,i,f,h=>by
  cases i with
  |zero=>
   refine⟨a,λj=>?_,h⟩;cases j with
   |zero=>rw[if_pos rfl];rfl
   |succ j=>rw[if_neg (Nat.succ_ne_zero j)];rfl
  |succ i=>cases h
 |n+1,t,i,f,h=>by
  rw[qfi]at h;obtain⟨t',h1,h2⟩:=qcK n _ _ _ h;refine⟨_,λj=>?_,h2⟩;refine(ZP n j _).trans ?_;have e1:(if j=i then a else(yV α (n+1) j).get t)=if j=i then a else(yV α n (j / 8)).get (Yu (j % 8) t):=by
   by_cases c:j=i
   ·rw[if_pos c,if_pos c]
   ·rw[if_neg c,if_neg c];exact ZP n j t
  refine Eq.trans ?_ e1.symm;have e2:Yu (j % 8) (qmT (i % 8) t t')=if j % 8=i % 8 then t' else Yu (j % 8) t:=qhB (Nat.mod_lt _ Ωd) (Nat.mod_lt _ Ωd) t t'
  refine(congrArg (yV α n (j / 8)).get e2).trans ?_;by_cases c:j % 8=i % 8
  ·rw[if_pos c,h1,c]
   by_cases d:j / 8=i / 8
   ·rw[if_pos d,if_pos Ω]
   ·rw[if_neg d,if_neg (by intro e;rw[e]at d;exact d rfl)]
  ·rw[if_neg c,if_neg (by intro e;rw[e]at c;exact c rfl)]
theorem qB{a:Option α}(m:Nat)(t:Tr n α)(i:Nat)(f:Tr n α→R)(h:qY a m t i f=.ok ρ):∃t',qhD t t' i a∧f t'=.ok ρ:=by
 rw[VO]at h;obtain⟨t',h1,h2⟩:=qcK n t i f h;refine⟨t',λj=>(KD (n:=n) t' j).trans ((h1 j).trans ?_),h2⟩;by_cases c:j=i
 ·rw[if_pos c,if_pos c]
 ·rw[if_neg c,if_neg c];exact(KD (n:=n) t j).symm
end
def ql(c:Nat)(a:Bool)(b:R):R:=Bool.rec (.bad c 0) b a
theorem qa{c:Nat}{a:Bool}{b:R}(h:ql c a b=.ok ρ):a=true∧b=.ok ρ:=by
 cases a
 ·cases h
 ·exact⟨rfl,h⟩
def qoq(c i:Nat)(a:Bool)(b:R):R:=Bool.rec (.bad c i) b a
theorem qkx{c i:Nat}{a:Bool}{b:R}(h:qoq c i a b=.ok ρ):a=true∧b=.ok ρ:=by
 cases a
 ·cases h
 ·exact⟨rfl,h⟩
def hiK(k:IntKind):Nat:=IntKind.rec 127 32767 2147483647 9223372036854775807 255 65535 4294967295 18446744073709551615 k
def loK(k:IntKind):Nat:=IntKind.rec 128 32768 2147483648 9223372036854775808 0 0 0 0 k
def qky(k:IntKind)(n:Int):Bool:=Int.rec (λa=>Nat.ble a (hiK k)) (λa=>Nat.ble (Nat.succ a) (loK k)) n
theorem Q7{k:IntKind}{n:Int}(h:qky k n=true):InK k n:=by
 cases n with
 |ofNat a=>
  have h:Nat.ble a (hiK k)=true:=h;have h:=xa7 h;cases k<;>simp only[hiK]at h<;>simp only[InK,Int.ofNat_eq_natCast]<;>omega
 |negSucc a=>
  have h:Nat.ble (Nat.succ a) (loK k)=true:=h;have h:=xa7 h;cases k<;>simp only[loK]at h<;>simp only[InK]<;>omega
def Kt(a b:Int):Bool:=Int.rec (λa=>Int.rec (λb=>Nat.ble (Nat.succ a) b) (λ_=>false) b) (λa=>Int.rec (λ_=>true) (λb=>Nat.ble (Nat.succ b) a) b) a
theorem KE(a b:Int):Kt a b=decide (a<b):=by
 rw[Bool.eq_iff_iff,decide_eq_true_eq];cases a with
 |ofNat a=>cases b with
  |ofNat b=>show Nat.ble (Nat.succ a) b=true↔_;rw[Nat.ble_eq,Int.ofNat_eq_natCast,Int.ofNat_eq_natCast];omega
  |negSucc b=>show false=true↔_;simp only[xe7,false_iff,Int.ofNat_eq_natCast];omega
 |negSucc a=>cases b with
  |ofNat b=>show true=true↔_;simp only[true_iff,Int.ofNat_eq_natCast];omega
  |negSucc b=>show Nat.ble (Nat.succ b) a=true↔_;rw[Nat.ble_eq];omega
def Jq(a b:Int):Bool:=Int.rec (λa=>Int.rec (λb=>Nat.beq a b) (λ_=>false) b) (λa=>Int.rec (λ_=>false) (λb=>Nat.beq a b) b) a
theorem yH(a b:Int):Jq a b=decide (a=b):=by
 rw[Bool.eq_iff_iff,decide_eq_true_eq];cases a with
 |ofNat a=>cases b with
  |ofNat b=>show Nat.beq a b=true↔_;rw[Nat.beq_eq,Int.ofNat_eq_natCast,Int.ofNat_eq_natCast];omega
  |negSucc b=>show false=true↔_;simp only[xe7,false_iff,Int.ofNat_eq_natCast];omega
 |negSucc a=>cases b with
  |ofNat b=>show false=true↔_;simp only[xe7,false_iff,Int.ofNat_eq_natCast];omega
  |negSucc b=>show Nat.beq a b=true↔_;rw[Nat.beq_eq];omega
def qmU(v:Value)(f:SV→R):R:=
 match v with
 |.int k n=>Yt n λn=>f (.val (.int k n))
 |.bool b=>Kh b λb=>f (.val (.bool b))
 |v=>f (.val v)
theorem qkz(v:Value)(f:SV→R):qmU v f=f (.val v):=by
 unfold qmU;split
 ·exact jG _ (λn=>f (.val (.int _ n)))
 ·exact Q5 _ (λn=>f (.val (.bool n)))
 ·rfl
def svK(s:SV)(f:SV→R):R:=
 match s with
 |.val v=>qmU v f
 |.agg l=>gI l λl=>f (.agg l)
 |.ptr id off=>qm off λoff=>f (.ptr id off)
 |.elt id k i j=>qm i λi=>qm j λj=>f (.elt id k i j)
 |.vec id n k=>qm n λn=>f (.vec id n k)
 |.cut id n k=>qm n λn=>f (.cut id n k)
 |.asl id off n k=>qm off λoff=>qm n λn=>f (.asl id off n k)
 |.que id off n k=>qm off λoff=>qm n λn=>f (.que id off n k)
 |s=>f s
theorem Qu(s:SV)(f:SV→R):svK s f=f s:=by
 unfold svK;split<;>simp only[qkz,qT,qg]
def yW(l:List SV)(f:List SV→R):R:=(List.rec (motive:=λ_=>(List SV→R)→R) (λf=>f []) (λa _ ih f=>svK a λa=>ih λl=>f (a :: l)) l) f
theorem kd(l:List SV):∀(f:List SV→R),yW l f=f l:=by
 induction l with
 |nil=>intro f;rfl
 |cons a l ih=>
  intro f;show svK a (λa=>yW l λl=>f (a :: l))=_;rw[Qu,ih]
def kN(k:IntKind):Nat:=IntKind.rec 0 1 2 3 4 5 6 7 k
theorem qhE(k k':IntKind):Nat.beq (kN k) (kN k')=decide (k=k'):=by cases k<;>cases k'<;>rfl
def lfB(a b:Lf):Bool:=Lf.rec (λk=>Lf.rec (λk'=>Nat.beq (kN k) (kN k')) false b) (Lf.rec (λ_=>false) true b) a
theorem qmV{a b:Lf}(h:lfB a b=true):a=b:=by
 cases a with
 |i k=>cases b with
  |i k'=>
   have h:Nat.beq (kN k) (kN k')=true:=h;rw[qhE,decide_eq_true_eq]at h;rw[h]
  |b=>cases h
 |b=>cases b with
  |i k'=>cases h
  |b=>rfl
def qmW(l:List Lf):List Lf→Bool:=List.rec (motive:=λ_=>List Lf→Bool) (λm=>List.rec true (λ_ _ _=>false) m) (λa _ ih m=>List.rec false (λc m _=>Bool.rec false (ih m) (lfB a c)) m) l
theorem qcL:∀{l m:List Lf},qmW l m=true→l=m
 |[],[],_=>rfl
 |[],_ :: _,h=>by cases h
 |_ :: _,[],h=>by cases h
 |a :: l,b :: m,h=>by
  have h:(Bool.rec false (qmW l m) (lfB a b):Bool)=true:=h;cases q:lfB a b with
  |false=>rw[q]at h;cases h
  |true=>rw[q]at h;rw[qmV q,qcL h]
def qhF(v:Value):(IntKind→Int→Bool)→Bool→Bool:=Value.rec (motive_1:=λ_=>(IntKind→Int→Bool)→Bool→Bool) (motive_2:=λ_=>PUnit) (motive_3:=λ_=>PUnit) (λ_ f d=>d) (λk n f d=>f k n) (λ_ _ f d=>d) (λ_ _ _ f d=>d) (λ_ f d=>d) (λ_ f d=>d) (λ_ _ _ f d=>d) (λ_ f d=>d) (λ_ f d=>d) (λ_ _ _ _ _ f d=>d) (λ f d=>d) (λ_ _ _ f d=>d) (λ f d=>d) (λ_ _ f d=>d) (λ_ _ f d=>d) (λ_ _=>PUnit.unit) PUnit.unit (λ_ _ _ _=>PUnit.unit) v
def qbq(v:Value):(Bool→Bool)→Bool→Bool:=Value.rec (motive_1:=λ_=>(Bool→Bool)→Bool→Bool) (motive_2:=λ_=>PUnit) (motive_3:=λ_=>PUnit) (λb f d=>f b) (λ_ _ f d=>d) (λ_ _ f d=>d) (λ_ _ _ f d=>d) (λ_ f d=>d) (λ_ f d=>d) (λ_ _ _ f d=>d) (λ_ f d=>d) (λ_ f d=>d) (λ_ _ _ _ _ f d=>d) (λ f d=>d) (λ_ _ _ f d=>d) (λ f d=>d) (λ_ _ f d=>d) (λ_ _ f d=>d) (λ_ _=>PUnit.unit) PUnit.unit (λ_ _ _ _=>PUnit.unit) v
def qcM(v:Value):(List Value→Bool)→Bool→Bool:=Value.rec (motive_1:=λ_=>(List Value→Bool)→Bool→Bool) (motive_2:=λ_=>PUnit) (motive_3:=λ_=>PUnit) (λ_ f d=>d) (λ_ _ f d=>d) (λ_ _ f d=>d) (λ_ _ _ f d=>d) (λ_ f d=>d) (λ_ f d=>d) (λ_ _ _ f d=>d) (λ_ f d=>d) (λ_ f d=>d) (λ_ _ _ _ _ f d=>d) (λ f d=>d) (λ_ _ _ f d=>d) (λ f d=>d) (λc ih f d=>f c.toList) (λ_ _ f d=>d) (λ_ _=>PUnit.unit) PUnit.unit (λ_ _ _ _=>PUnit.unit) v
def qcN(v u:Value):Bool:=qhF v (λk a=>qhF u (λk' b=>Bool.rec false (Jq a b) (Nat.beq (kN k) (kN k'))) false) (qbq v (λa=>qbq u (λb=>Bool.rec (Bool.rec true false b) b a) false) false)
theorem Yw(v u:Value):qcN v u=wH v u:=by
 cases v<;>first|rfl|skip
 case bool a=>cases u<;>first|rfl|(rename_i b;cases a<;>cases b<;>rfl)
 case int k a=>
  cases u<;>first|rfl|skip
  rename_i k' b;show(Bool.rec false (Jq a b) (Nat.beq (kN k) (kN k')):Bool)=(decide (k=k')&&decide (a=b));rw[qhE,yH];cases decide (k=k')<;>rfl
def qhG(l:List Value):List Value→Bool:=List.rec (motive:=λ_=>List Value→Bool) (λm=>List.rec true (λ_ _ _=>false) m) (λa _ ih m=>List.rec false (λb m _=>Bool.rec false (ih m) (qcN a b)) m) l
theorem Yx:∀(l m:List Value),qhG l m=jU l m
 |[],[]=>rfl
 |[],_ :: _=>rfl
 |_ :: _,[]=>rfl
 |a :: l,b :: m=>by
  show(Bool.rec false (qhG l m) (qcN a b):Bool)=(wH a b&&jU l m);rw[Yw,Yx l m];cases wH a b<;>rfl
def GH(v u:Value):Bool:=qcM v (λa=>qcM u (λb=>qhG a b) false) (qcM u (λ_=>false) (qcN v u))
theorem VP(v u:Value):GH v u=eqK v u:=by
 have h:=Yw v u;cases v<;>cases u<;>first|exact h|rfl|exact Yx _ _
def qhH(f:Lf)(v:Value):Bool:=Lf.rec (λk=>qhF v (λk' _=>Nat.beq (kN k) (kN k')) false) (qbq v (λ_=>true) false) f
theorem qhI(f:Lf)(v:Value):qhH f v=lfOk f v:=by
 cases f<;>cases v<;>first|rfl|exact qhE _ _
def qkA(l:List Lf):List Value→Bool:=List.rec (motive:=λ_=>List Value→Bool) (λm=>List.rec true (λ_ _ _=>false) m) (λa _ ih m=>List.rec false (λb m _=>Bool.rec false (ih m) (qhH a b)) m) l
theorem VQ:∀(l:List Lf)(m:List Value),qkA l m=qQ l m
 |[],[]=>rfl
 |[],_ :: _=>rfl
 |_ :: _,[]=>rfl
 |a :: l,b :: m=>by
  show(Bool.rec false (qkA l m) (qhH a b):Bool)=(lfOk a b&&qQ l m);rw[qhI,VQ l m];cases lfOk a b<;>rfl
def KF(ag:Bool)(ls:List Lf)(v:Value):Bool:=Bool.rec (qkA ls [v]) (qcM v (λc=>qkA ls c) false) ag
theorem Qv(ag:Bool)(ls:List Lf)(v:Value):KF ag ls v=qk ag ls v:=by
 cases ag with
 |false=>exact VQ _ _
 |true=>cases v<;>first|rfl|exact VQ _ _
def kw(es:List (Value×Option SV))(k:Value):Option SV:=List.rec (motive:=λ_=>Option SV) none (λp _ ih=>Bool.rec ih p.2 (GH p.1 k)) es
theorem zK(p:Value×Option SV)(es:List (Value×Option SV))(k:Value):kw (p :: es) k=if eqK p.1 k=true then p.2 else kw es k:=by
 show(Bool.rec (kw es k) p.2 (GH p.1 k):Option SV)=_;rw[VP];cases eqK p.1 k<;>rfl
def RowL(n k:Nat)(l:List SV)(row:Nat→Nat→SV):Prop:=l.length=n*k∧∀i j,i<n→j<k→row i j=l.getD (i*k+j) .top
def BRel(lm:Option Loop):XB→Blk→Prop
 |.cells t l,.cells t' l'=>t=t'∧l=l'
 |.rows t k n l,.rows t' k' n' row=>t=t'∧k=k'∧n=n'∧RowL n k l row
 |.loop s,.loop L s'=>s=s'∧lm=some L
 |.map ag ls es,.map fit dom get=>fit=qk ag ls∧∀k,dom k=(kw es k).isSome∧∀s,kw es k=some s→get k=s
 |_,_=>False
def HRel(LM:Nat→Option Loop)(hp:Tr 6 XB)(H:List (Nat×Blk)):Prop:=∀id b,hp.find id=some b→∃b',blk H id=some b'∧BRel (LM id) b b'
variable{b:XB}
theorem BRel.any{lm:Option Loop}(h:BRel none b b'):BRel lm b b':=by
 cases b<;>cases b'<;>simp only[BRel,reduceCtorEq,and_false]at h ⊢<;>exact h
variable{hp:Tr 6 XB}
theorem HRel.cells(h:HRel LM hp H){id:Nat}{t:TypeId}{l:List SV}(e:hp.find id=some (.cells t l)):blk H id=some (.cells t l):=by
 obtain⟨b',h1,h2⟩:=h _ _ e;cases b'<;>simp only[BRel]at h2
 obtain⟨rfl,rfl⟩:=h2;exact h1
theorem HRel.rows(h:HRel LM hp H){id:Nat}{t:TypeId}{l:List SV}(e:hp.find id=some (.rows t k n l)):∃row,blk H id=some (.rows t k n row)∧RowL n k l row:=by
 obtain⟨b',h1,h2⟩:=h _ _ e;cases b'<;>simp only[BRel]at h2
 obtain⟨rfl,rfl,rfl,h3⟩:=h2;exact⟨_,h1,h3⟩
theorem HRel.map(h:HRel LM hp H){id:Nat}{ag:Bool}{ls:List Lf}{es:List (Value×Option SV)}(e:hp.find id=some (.map ag ls es)):∃dom get,blk H id=some (.map (qk ag ls) dom get)∧∀k,dom k=(kw es k).isSome∧∀s,kw es k=some s→get k=s:=by
 obtain⟨b',h1,h2⟩:=h _ _ e;cases b'<;>simp only[BRel]at h2
 obtain⟨rfl,h3⟩:=h2;exact⟨_,_,h1,h3⟩
inductive XR:Type
 |pure (s:SV)
 |new (b:XB) (s:SV)
 |upd (id:Nat) (b:XB) (s:SV)
 |grow (old:Nat) (b:XB) (s:SV)
 |call (f:Nat) (args:List SV)
 |yield (id:Nat) (args:List SV)
def qor(s:SV)(r:Res):Prop:=(∃obl,r=.pure obl s∧obl)∨∃obl,r=.ex obl∧obl s
def Hit(x:XR)(id:Nat)(r:Res):Prop:=
 match x with
 |.pure s=>qor s r
 |.new b s=>∃obl b' mk,r=.new obl b' mk∧obl∧BRel none b b'∧mk id=s
 |.upd j b s=>(∃obl b',r=.upd obl j b'∧obl∧BRel none b b'∧s=undefSV)∨∃obl b',r=.updv obl j b' s∧obl∧BRel none b b'
 |.grow j b s=>∃obl b' mk,r=.grow obl j b' mk∧obl∧BRel none b b'∧mk id=s
 |.call g args=>r=.call g args
 |.yield y args=>r=.yield y args
def zR(ρ:Q)(f:XR→R)(id:Nat)(r:Res):Prop:=∃x,Hit x id r∧f x=.ok ρ
variable{f:XR→R}
theorem qf{id:Nat}(e:r=.pure obl s)(ho:obl)(h:f (.pure s)=.ok ρ):zR ρ f id r:=⟨.pure s,.inl ⟨obl,e,ho⟩,h⟩
theorem Q9{id:Nat}{obl:SV→Prop}(e:r=.ex obl)(ho:obl s)(h:f (.pure s)=.ok ρ):zR ρ f id r:=⟨.pure s,.inr ⟨obl,e,ho⟩,h⟩
theorem jn{id:Nat}{mk:Nat→SV}(h:f (.new b s)=.ok ρ)(e:r=.new obl b' mk)(ho:obl)(hb:BRel none b b')(hs:mk id=s):zR ρ f id r:=⟨.new b s,⟨obl,b',mk,e,ho,hb,hs⟩,h⟩
theorem kW{id:Nat}(h:f (.upd j b undefSV)=.ok ρ)(e:r=.upd obl j b')(ho:obl)(hb:BRel none b b'):zR ρ f id r:=⟨.upd j b undefSV,.inl ⟨obl,b',e,ho,hb,rfl⟩,h⟩
theorem JW{id:Nat}(h:f (.upd j b s)=.ok ρ)(e:r=.updv obl j b' s)(ho:obl)(hb:BRel none b b'):zR ρ f id r:=⟨.upd j b s,.inr ⟨obl,b',e,ho,hb⟩,h⟩
theorem qfj{id:Nat}{mk:Nat→SV}(h:f (.grow j b s)=.ok ρ)(e:r=.grow obl j b' mk)(ho:obl)(hb:BRel none b b')(hs:mk id=s):zR ρ f id r:=⟨.grow j b s,⟨obl,b',mk,e,ho,hb,hs⟩,h⟩
theorem qfk{id g:Nat}(e:r=.call g args)(h:f (.call g args)=.ok ρ):zR ρ f id r:=⟨.call g args,e,h⟩
theorem qbr{id g:Nat}(e:r=.yield g args)(h:f (.yield g args)=.ok ρ):zR ρ f id r:=⟨.yield g args,e,h⟩
structure XE:Type where
 fns:Nat→Option (Func×List (Nat×List (Nat×Nat)))
 tys:TypeId→Option TyI
 pls:TypeId→Option (List (Nat×Nat))
 eqs:TypeId→Option (List Lf)
 sls:TypeId→Option (TypeId×Nat×List Value)
 mps:TypeId→Option jV
 prj:Nat→Option (Nat×Sh)
 str:TypeId→Bool
 orc:Nat→Option (List SV→Tr 6 XB→Nat→(SV→Tr 6 XB→Nat→R)→R)
 ctr:Nat→List (List SV×SV)
 ctn:Nat→List (List SV×(TypeId×Nat×Nat×List SV×SV))
def qhJ(P:Program)(g:Nat)(qq_:List SV)(t:TypeId)(k n:Nat)(l:List SV)(s:SV):Prop:=∃row,qZ P g qq_ (.rows t k n row) s∧RowL n k l row∧FreshO s∧FreshB (.rows t k n row)
def yc(P:Program)(g:Nat)(f:List SV→Tr 6 XB→Nat→(SV→Tr 6 XB→Nat→R)→R):Prop:=
 ∀(ρ:Q)(LM:Nat→Option Loop)(O:Ctx)(args:List SV)(hp:Tr 6 XB)(k:SV→Tr 6 XB→Nat→R)(st:St)(K:St→SV→Prop),HRel LM hp st.hp→f args hp st.nid k=.ok ρ→
  (∀s hp' nid' H',HRel LM hp' H'→k s hp' nid'=.ok ρ→K ⟨st.fr,H',nid'⟩ s)→ko P O g args st K
structure XOk(P:Program)(E:XE):Prop where
 tys:∀t ti,E.tys t=some ti→qn P t=some ti
 pls:∀t pl,E.pls t=some pl→qw P t=some pl
 eqs:∀t ls,E.eqs t=some ls→zk P t=some ls
 prj:∀g n i,E.prj g=some (n,i)→Z5 P g n i
 str:∀t,E.str t=true→P.underlying t=some .string
 orc:∀g f,E.orc g=some f→yc P g f
 ctr:∀g qq_ s,(qq_,s)∈E.ctr g→qc P g qq_ s
 ctn:∀g qq_ t k n l s,(qq_,(t,k,n,l,s))∈E.ctn g→qhJ P g qq_ t k n l s
 mps:∀t x,E.mps t=some x→qz P t=some x
 sls:∀t e k z,E.sls t=some (e,k,z)→(∃a b c,qn P t=some ⟨a,b,c,.slice e k⟩)∧(∃a b d,qn P e=some ⟨a,b,some z,d⟩)∧0<k∧z.length=k∧qL P e≤100000000
end
end Go.Sx
end
section
namespace Go.Sx
open Go.RowKit
noncomputable section
variable{i j k n o sz:Nat}{op:BinOp}{a x:SV}{t:TypeId}{l:List SV}{row:Nat→Nat→SV}
variable{ρ:Q}
section
variable{P:Program}{E:XE}{f:XR→R}{id:Nat}{hp:Tr 6 XB}{H:List (Nat×Blk)}{LM:Nat→Option Loop}
def jH(c:Nat)(k:IntKind)(n:Int)(f:XR→R):R:=Yt n λn=>ql c (qky k n) (f (.pure (.val (.int k n))))
theorem zZ{c:Nat}{k:IntKind}{n:Int}(h:jH c k n f=.ok ρ):InK k n∧f (.pure (.val (.int k n)))=.ok ρ:=by
 unfold jH at h;rw[jG]at h;have h:=qa h;exact⟨Q7 h.1,h.2⟩
def Qw(b:Bool)(f:XR→R):R:=Kh b λb=>f (.pure (.val (.bool b)))
theorem jI(b:Bool):Qw b f=f (.pure (.val (.bool b))):=Q5 _ _
def Za(s:SV)(f:XR→R):R:=svK s λs=>f (.pure s)
theorem kX(s:SV):Za s f=f (.pure s):=Qu _ _
def qcO(op:BinOp)(k:IntKind)(a b:Int)(f:XR→R):R:=
 match a,b with
 |.ofNat a,.ofNat b=>ql 10 (qky k (.ofNat a)) (ql 11 (qky k (.ofNat b)) (match op with
  |.and=>qm (Nat.land a b) λn=>f (.pure (.val (.int k (.ofNat n))))
  |.or=>qm (Nat.lor a b) λn=>f (.pure (.val (.int k (.ofNat n))))
  |_=>.bad 12 0))
 |_,_=>.bad 13 0
def qos(k:IntKind)(a b:Int)(f:XR→R):R:=
 match b with
 |.ofNat b=>ql 14 (Nat.ble b k.bits) (jH 15 k (Int.mul a (.ofNat (Nat.pow 2 b))) f)
 |_=>.bad 16 0
def qot(k:IntKind)(a b:Int)(f:XR→R):R:=
 match b with
 |.ofNat b=>ql 17 (Nat.ble b k.bits) (Yt (Int.fdiv a (.ofNat (Nat.pow 2 b))) λn=>f (.pure (.val (.int k n))))
 |_=>.bad 18 0
def qfl(op:BinOp)(k:IntKind)(a b:Int)(f:XR→R):R:=
 match op with
 |.add=>jH 19 k (Int.add a b) f
 |.sub=>jH 20 k (Int.sub a b) f
 |.mul=>jH 21 k (Int.mul a b) f
 |.quo=>ql 22 (!Jq b 0) (jH 23 k (Int.tdiv a b) f)
 |.rem=>ql 24 (!Jq b 0) (jH 25 k (Int.tmod a b) f)
 |.eql=>Qw (Jq a b) f
 |.neq=>Qw (!Jq a b) f
 |.lss=>Qw (Kt a b) f
 |.leq=>Qw (!Kt b a) f
 |.gtr=>Qw (Kt b a) f
 |.geq=>Qw (!Kt a b) f
 |.shl=>qos k a b f
 |.shr=>qot k a b f
 |.and=>qcO .and k a b f
 |.or=>qcO .or k a b f
 |_=>.bad 26 0
theorem nlt(a b:Int):(!Kt b a)=decide (a≤b):=by
 rw[KE,Bool.eq_iff_iff,Bool.not_eq_true',decide_eq_false_iff_not,decide_eq_true_eq];omega
theorem qou(b:Nat):Int.ofNat (Nat.pow 2 b)=(2:Int)^(Int.ofNat b).toNat:=by
 show((2^b:Nat):Int)=_;rw[Int.natCast_pow];rfl
theorem qN(a:Nat):0≤Int.ofNat a:=Int.natCast_nonneg a
theorem qkB{k:IntKind}{a b:Int}(h:qfl op k a b f=.ok ρ):zR ρ f id (rInt op k a b):=by
 cases op<;>simp only[qfl,jI,reduceCtorEq]at h
 ·exact qf rfl (zZ h).1 (zZ h).2
 ·exact qf rfl (zZ h).1 (zZ h).2
 ·exact qf rfl (zZ h).1 (zZ h).2
 ·obtain⟨h0,h⟩:=qa h
  rw[yH,Bool.not_eq_true',decide_eq_false_iff_not]at h0;exact qf rfl ⟨h0,(zZ h).1⟩ (zZ h).2
 ·obtain⟨h0,h⟩:=qa h
  rw[yH,Bool.not_eq_true',decide_eq_false_iff_not]at h0;exact qf rfl h0 (zZ h).2
 ·unfold qcO at h
  split at h
  ·obtain⟨h1,h⟩:=qa h
   obtain⟨h2,h⟩:=qa h;simp only[qg]at h;exact qf rfl ⟨qN _,Q7 h1,qN _,Q7 h2⟩ h
  ·cases h
 ·unfold qcO at h
  split at h
  ·obtain⟨h1,h⟩:=qa h
   obtain⟨h2,h⟩:=qa h;simp only[qg]at h;exact qf rfl ⟨qN _,Q7 h1,qN _,Q7 h2⟩ h
  ·cases h
 ·unfold qos at h
  split at h
  ·obtain⟨h1,h⟩:=qa h
   rw[qou]at h;exact qf rfl ⟨qN _,xa7 h1,(zZ h).1⟩ (zZ h).2
  ·cases h
 ·unfold qot at h
  split at h
  ·obtain⟨h1,h⟩:=qa h
   rw[qou,jG]at h;exact qf rfl ⟨qN _,xa7 h1⟩ h
  ·cases h
 ·rw[yH]at h;exact qf rfl trivial h
 ·rw[yH]at h;exact qf rfl trivial h
 ·rw[KE]at h;exact qf rfl trivial h
 ·rw[nlt]at h;exact qf rfl trivial h
 ·rw[KE]at h;exact qf rfl trivial h
 ·rw[nlt]at h;exact qf rfl trivial h
def GI(E:XE)(op:BinOp)(t:TypeId)(isnil:Bool)(y:SV)(f:XR→R):R:=
 match y with
 |.val v=>ql 30 (nilSlice v) (match E.tys t with
  |some ⟨_,_,_,.slice _ _⟩=>(match op with
   |.eql=>Qw isnil f
   |.neq=>Qw (!isnil) f
   |_=>.bad 31 0)
  |_=>.bad 32 0)
 |_=>.bad 33 0
theorem ye(hE:XOk P E){isnil:Bool}{y:SV}(h:GI E op t isnil y f=.ok ρ):∃v s,y=.val v∧f (.pure s)=.ok ρ∧∀obl,rNilS P op t obl isnil v=.pure obl s:=by
 unfold GI at h;split at h
 ·rename_i v
  obtain⟨h1,h⟩:=qa h;split at h
  ·rename_i a b c e k ht
   have ht:=hE.tys _ _ ht;split at h
   ·rw[jI]at h;exact⟨v,_,rfl,h,λobl=>by simp only[rNilS,h1,ht]⟩
   ·rw[jI]at h;exact⟨v,_,rfl,h,λobl=>by simp only[rNilS,h1,ht]⟩
   ·cases h
  ·cases h
 ·cases h
def xEq(E:XE)(op:BinOp)(t:TypeId)(l m:List SV)(f:XR→R):R:=
 match E.eqs t with
 |some ls=>ql 34 (fitS ls l) (ql 35 (fitS ls m) (match op with
  |.eql=>Qw (eqSVs l m) f
  |.neq=>Qw (!eqSVs l m) f
  |_=>.bad 36 0))
 |none=>.bad 37 0
theorem qmX(hE:XOk P E){m:List SV}(h:xEq E op t l m f=.ok ρ):zR ρ f id (rEq P op t l m):=by
 unfold xEq at h;split at h
 ·rename_i ls hl
  have hl:=hE.eqs _ _ hl;obtain⟨h1,h⟩:=qa h;obtain⟨h2,h⟩:=qa h;split at h
  ·rw[jI]at h;exact qf (obl:=fitS ls l=true∧fitS ls m=true) (by simp only[rEq,hl]) ⟨h1,h2⟩ h
  ·rw[jI]at h;exact qf (obl:=fitS ls l=true∧fitS ls m=true) (by simp only[rEq,hl]) ⟨h1,h2⟩ h
  ·cases h
 ·cases h
def qmb(E:XE)(op:BinOp)(t:TypeId)(a b:Bool)(f:XR→R):R:=
 match E.tys t with
 |some ⟨_,_,_,.bool⟩=>(match op with
  |.eql=>Qw (a == b) f
  |.neq=>Qw (!(a == b)) f
  |_=>.bad 38 0)
 |_=>.bad 39 0
def qmc(E:XE)(op:BinOp)(t:TypeId)(u:Value)(y:SV)(f:XR→R):R:=
 match u with
 |.int k a=>(match y with|.val (.int k' b)=>ql 40 (eqKind k k') (qfl op k a b f)|_=>.bad 41 0)
 |.slice a n c=>GI E op t a.isNone y f
 |.bool a=>(match y with|.val (.bool b)=>qmb E op t a b f|_=>.bad 42 0)
 |_=>.bad 43 0
def qbs(E:XE)(op:BinOp)(t:TypeId)(x y:SV)(f:XR→R):R:=
 match x with
 |.val u=>qmc E op t u y f
 |.agg l=>(match y with|.agg m=>xEq E op t l m f|_=>.bad 44 0)
 |.vec _ n _=>ql 45 (Nat.ble 1 n) (GI E op t false y f)
 |.cut _ n _=>ql 46 (Nat.ble 1 n) (GI E op t false y f)
 |.arr _ _ n _ _=>ql 47 (Nat.ble 1 n) (GI E op t false y f)
 |.asl _ _ _ _=>GI E op t false y f
 |_=>.bad 48 0
theorem qcP(a b:Bool):(a == b)=decide (a=b):=by cases a<;>cases b<;>rfl
theorem qkC(hE:XOk P E){y:SV}(h:qbs E op t x y f=.ok ρ):zR ρ f id (rBin P op t x y):=by
 unfold qbs at h;split at h
 ·rename_i u
  unfold qmc at h;split at h
  ·split at h
   ·obtain⟨h1,h2⟩:=qa h
    have e:=vq h1;subst e;have:∀(a b:Int)(k:IntKind),eqKind k k=true→rBin P op t (.val (.int k a)) (.val (.int k b))=rInt op k a b:=λa b k hk=>by simp only[rBin,hk,if_true]
    rw[this _ _ _ h1];exact qkB h2
   ·cases h
  ·obtain⟨v,s,rfl,h1,h2⟩:=ye hE h
   exact qf (h2 True) trivial h1
  ·split at h
   ·unfold qmb at h
    split at h
    ·rename_i ht
     have ht:=hE.tys _ _ ht;split at h
     ·rw[jI,qcP]at h;exact qf (by simp only[rBin,ht]) trivial h
     ·rw[jI,qcP]at h;exact qf (by simp only[rBin,ht]) trivial h
     ·cases h
    ·cases h
   ·cases h
  ·cases h
 ·split at h
  ·exact qmX hE h
  ·cases h
 ·obtain⟨h0,h⟩:=qa h
  obtain⟨v,s,rfl,h1,h2⟩:=ye hE h;exact qf (h2 _) (xa7 h0) h1
 ·obtain⟨h0,h⟩:=qa h
  obtain⟨v,s,rfl,h1,h2⟩:=ye hE h;exact qf (h2 _) (xa7 h0) h1
 ·obtain⟨h0,h⟩:=qa h
  obtain⟨v,s,rfl,h1,h2⟩:=ye hE h;exact qf (h2 _) (xa7 h0) h1
 ·obtain⟨v,s,rfl,h1,h2⟩:=ye hE h
  exact qf (h2 _) trivial h1
 ·cases h
def xUn(op:UnOp)(x:SV)(f:XR→R):R:=
 match x with
 |.val (.int k a)=>(match op with|.neg=>jH 50 k (Int.sub 0 a) f|_=>.bad 51 0)
 |.val (.bool b)=>(match op with|.not=>Qw (!b) f|_=>.bad 52 0)
 |_=>.bad 53 0
theorem qmY{op:UnOp}(h:xUn op x f=.ok ρ):zR ρ f id (rUn op x):=by
 unfold xUn at h;split at h
 ·split at h
  ·exact qf rfl (zZ h).1 (zZ h).2
  ·cases h
 ·split at h
  ·rw[jI]at h;exact qf rfl trivial h
  ·cases h
 ·cases h
def qcQ(E:XE)(s t:TypeId)(x:SV)(f:XR→R):R:=
 match E.tys s,E.tys t with
 |some _,some ⟨_,_,_,.int k⟩=>(match x with|.val (.int _ n)=>jH 54 k n f|_=>.bad 55 0)
 |_,_=>.bad 56 0
theorem qhK(hE:XOk P E){s:TypeId}(h:qcQ E s t x f=.ok ρ):zR ρ f id (rConv (qn P s) (qn P t) x):=by
 unfold qcQ at h;split at h
 ·rename_i hs ht
  rw[hE.tys _ _ hs,hE.tys _ _ ht];split at h
  ·exact qf rfl (zZ h).1 (zZ h).2
  ·cases h
 ·cases h
def qcR(c a b:SV)(f:XR→R):R:=
 match c with
 |.val (.bool c)=>(match c with|true=>f (.pure a)|false=>f (.pure b))
 |_=>.bad 57 0
theorem qhL{c b:SV}(h:qcR c a b f=.ok ρ):zR ρ f id (rPick c a b):=by
 unfold qcR at h;split at h
 ·split at h
  ·exact qf rfl trivial h
  ·exact qf rfl trivial h
 ·cases h
def VR(E:XE)(t:TypeId)(id:Nat)(f:XR→R):R:=
 match E.tys t with
 |some ⟨_,_,some z,_⟩=>yW (vals z) λz=>f (.new (.cells t z) (.ptr id 0))
 |_=>.bad 60 0
theorem qfm(hE:XOk P E)(h:VR E t id f=.ok ρ):zR ρ f id (rAlloc (qn P t) t):=by
 unfold VR at h;split at h
 ·rename_i ht
  rw[kd]at h;rw[hE.tys _ _ ht];exact jn h rfl trivial ⟨rfl,rfl⟩ rfl
 ·cases h
def qkD(E:XE)(t:TypeId)(x:SV)(id:Nat)(f:XR→R):R:=
 match E.tys t with
 |some ⟨true,_,_,_⟩=>(match x with
  |.agg l=>f (.new (.cells t l) (.ptr id 0))
  |_=>.bad 61 0)
 |some ⟨false,_,_,_⟩=>ql 62 (oneCell x) (f (.new (.cells t [x]) (.ptr id 0)))
 |none=>.bad 63 0
theorem qkE(hE:XOk P E)(h:qkD E t x id f=.ok ρ):zR ρ f id (rBox (qn P t) t x):=by
 unfold qkD at h;split at h
 ·rename_i ht
  rw[hE.tys _ _ ht];split at h
  ·exact jn h rfl trivial ⟨rfl,rfl⟩ rfl
  ·cases h
 ·rename_i ht
  rw[hE.tys _ _ ht];obtain⟨h1,h⟩:=qa h;exact jn h rfl h1 ⟨rfl,rfl⟩ rfl
 ·cases h
def yf(l:List SV)(o:Nat)(f:XR→R):R:=match l[o]? with|some s=>f (.pure s)|none=>.bad 64 0
def yg(l:List SV)(o sz:Nat)(f:XR→R):R:=ql 65 (Nat.ble (o+sz) l.length) (gI ((l.drop o).take sz) λl=>f (.pure (.agg l)))
theorem vF(h:yf l o f=.ok ρ):∃s,l[o]? = some s∧f (.pure s)=.ok ρ:=by
 unfold yf at h;split at h
 ·rename_i s hs;exact⟨s,hs,h⟩
 ·cases h
theorem yI(h:yg l o sz f=.ok ρ):o+sz≤l.length∧f (.pure (.agg ((l.drop o).take sz)))=.ok ρ:=by
 unfold yg at h;obtain⟨h1,h⟩:=qa h;rw[qT]at h;exact⟨xa7 h1,h⟩
def Qe(k k' n i j sz:Nat)(g:Nat→R):R:=ql 66 (Nat.beq k k') (ql 67 (Nat.ble (Nat.succ i) n) (ql 68 (Nat.ble (j+sz) k) (qm (i*k+j) g)))
theorem Zb{k':Nat}{g:Nat→R}(h:Qe k k' n i j sz g=.ok ρ):k=k'∧i<n∧j+sz≤k∧g (i*k+j)=.ok ρ:=by
 unfold Qe at h;obtain⟨h1,h⟩:=qa h;obtain⟨h2,h⟩:=qa h;obtain⟨h3,h⟩:=qa h;rw[qg]at h;exact⟨xa6 h1,xa7 h2,xa7 h3,h⟩
def ZQ(hp:Tr 6 XB)(a:SV)(f:XR→R):R:=
 match a with
 |.ptr id off=>(match hp.find id with
  |some (.cells _ l)=>yf l off f
  |_=>.bad 69 0)
 |.elt id k i j=>(match hp.find id with
  |some (.rows _ k' n l)=>Qe k k' n i j 1 λo=>yf l o f
  |_=>.bad 70 0)
 |.ref _ n row=>ql 71 (Nat.ble 1 n) (Za (row 0) f)
 |_=>.bad 72 0
def ZR(hp:Tr 6 XB)(sz:Nat)(a:SV)(f:XR→R):R:=
 match a with
 |.ptr id off=>(match hp.find id with
  |some (.cells _ l)=>yg l off sz f
  |_=>.bad 73 0)
 |.elt id k i j=>(match hp.find id with
  |some (.rows _ k' n l)=>Qe k k' n i j sz λo=>yg l o sz f
  |_=>.bad 74 0)
 |.ref _ n row=>ql 75 (Nat.ble sz n) (yW (sel row 0 sz) λl=>f (.pure (.agg l)))
 |_=>.bad 76 0
def Yy(E:XE)(hp:Tr 6 XB)(t:TypeId)(a:SV)(f:XR→R):R:=
 match E.tys t with
 |some ⟨false,_,_,_⟩=>ZQ hp a f
 |some ⟨true,sz,_,_⟩=>ZR hp sz a f
 |none=>.bad 77 0
theorem kY(hi:i<n)(hj:j<k):i*k+j<n*k:=by
 have:=xa8 k (show i+1≤n from hi);rw[Nat.add_mul,Nat.one_mul]at this;omega
theorem RowL.get(h:RowL n k l row)(hi:i<n)(hj:j<k){s:SV}(hs:l[i*k+j]? = some s):row i j=s:=by
 rw[h.2 i j hi hj,xc6,hs];rfl
theorem RowL.sel(h:RowL n k l row)(hi:i<n)(hj:j+sz≤k):sel (row i) j sz=(l.drop (i*k+j)).take sz:=by
 refine List.ext_getElem? λq=>?_;rw[yq,List.getElem?_take];by_cases c:q<sz
 ·rw[if_pos c,if_pos c,List.getElem?_drop,h.2 i (j+q) hi Ω,xc6]
  have:i*k+j+q<l.length:=by rw[h.1];have:=kY (k:=k) hi (Ω:j+q<k);omega
  rw[show i*k+(j+q)=i*k+j+q by omega,xc7 this];rfl
 ·rw[if_neg c,if_neg c]
theorem Yz(hE:XOk P E)(hH:HRel LM hp H)(h:Yy E hp t a f=.ok ρ):zR ρ f id (rLoad (qn P t) H a):=by
 unfold Yy at h;split at h
 ·rename_i ht
  rw[hE.tys _ _ ht];unfold ZQ at h;split at h
  ·split at h
   ·rename_i hb
    obtain⟨s,h1,h2⟩:=vF h;simp only[rLoad,hH.cells hb];exact Q9 rfl h1 h2
   ·cases h
  ·split at h
   ·rename_i hb
    obtain⟨row,hb,hr⟩:=hH.rows hb;obtain⟨rfl,h1,h2,h⟩:=Zb h;obtain⟨s,h3,h4⟩:=vF h;have:=hr.get h1 h2 h3;subst this;simp only[rLoad,hb];exact qf rfl ⟨trivial,h1,h2⟩ h4
   ·cases h
  ·obtain⟨h1,h⟩:=qa h
   rw[kX]at h;exact qf rfl (xa7 h1) h
  ·cases h
 ·rename_i sz _ _ ht
  rw[hE.tys _ _ ht];unfold ZR at h;split at h
  ·split at h
   ·rename_i hb
    obtain⟨h1,h2⟩:=yI h;simp only[rLoad,hH.cells hb];exact qf rfl h1 h2
   ·cases h
  ·split at h
   ·rename_i hb
    obtain⟨row,hb,hr⟩:=hH.rows hb;obtain⟨rfl,h1,h2,h⟩:=Zb h;obtain⟨h3,h4⟩:=yI h;rw[←hr.sel h1 h2]at h4;simp only[rLoad,hb];exact qf rfl ⟨trivial,h1,h2⟩ h4
   ·cases h
  ·obtain⟨h1,h⟩:=qa h
   rw[kd]at h;exact qf rfl (xa7 h1) h
  ·cases h
 ·cases h
def YA(s:SV)(l:List SV)(o:Nat)(g:List SV→R):R:=ql 78 (Nat.ble (Nat.succ o) l.length) (gI (l.set o s) g)
def setN(vs:List SV)(l:List SV)(o:Nat)(g:List SV→R):R:=ql 79 (Nat.ble (o+vs.length) l.length) (gI (l.take o++vs++l.drop (o+vs.length)) g)
def Zc(hp:Tr 6 XB)(a v:SV)(f:XR→R):R:=
 match a with
 |.ptr id off=>(match hp.find id with
  |some (.cells t l)=>YA v l off λl=>f (.upd id (.cells t l) undefSV)
  |_=>.bad 80 0)
 |.elt id k i j=>(match hp.find id with
  |some (.rows t k' n l)=>Qe k k' n i j 1 λo=>YA v l o λl=>f (.upd id (.rows t k' n l) undefSV)
  |_=>.bad 81 0)
 |_=>.bad 82 0
def qcS(hp:Tr 6 XB)(a:SV)(vs:List SV)(f:XR→R):R:=
 match a with
 |.ptr id off=>(match hp.find id with
  |some (.cells t l)=>setN vs l off λl=>f (.upd id (.cells t l) undefSV)
  |_=>.bad 83 0)
 |.elt id k i j=>(match hp.find id with
  |some (.rows t k' n l)=>Qe k k' n i j vs.length λo=>setN vs l o λl=>f (.upd id (.rows t k' n l) undefSV)
  |_=>.bad 84 0)
 |_=>.bad 85 0
def GJ(E:XE)(hp:Tr 6 XB)(t:TypeId)(a v:SV)(f:XR→R):R:=
 match E.tys t with
 |some ⟨false,sz,_,_⟩=>ql 86 (oneCell v) (ql 87 (Nat.beq sz 1) (Zc hp a v f))
 |some ⟨true,sz,_,_⟩=>(match v with
  |.agg vs=>ql 88 (allOne vs) (ql 89 (Nat.beq vs.length sz) (qcS hp a vs f))
  |_=>.bad 90 0)
 |none=>.bad 91 0
theorem qcT{s:SV}{g:List SV→R}(h:YA s l o g=.ok ρ):o<l.length∧g (l.set o s)=.ok ρ:=by
 unfold YA at h;obtain⟨h1,h⟩:=qa h;rw[qT]at h;exact⟨xa7 h1,h⟩
theorem qcU{vs:List SV}{g:List SV→R}(h:setN vs l o g=.ok ρ):o+vs.length≤l.length∧g (l.take o++vs++l.drop (o+vs.length))=.ok ρ:=by
 unfold setN at h;obtain⟨h1,h⟩:=qa h;rw[qT]at h;exact⟨xa7 h1,h⟩
theorem qcV{a b:Nat}(hj:j<k)(hb:b<k):a*k+b=i*k+j↔a=i∧b=j:=by
 constructor
 ·intro h
  have h1:(a*k+b) / k=a:=by rw[Nat.mul_comm,Nat.mul_add_div Ω,Nat.div_eq_of_lt hb,xb1]
  have h2:(i*k+j) / k=i:=by rw[Nat.mul_comm,Nat.mul_add_div Ω,Nat.div_eq_of_lt hj,xb1]
  have:a=i:=by rw[←h1,h,h2]
  subst this;exact⟨rfl,Ω⟩
 ·rintro⟨rfl,rfl⟩;rfl
theorem RowL.set(h:RowL n k l row)(hi:i<n)(hj:j<k)(v:SV):RowL n k (l.set (i*k+j) v) (λa b=>if a=i∧b=j then v else row a b):=by
 refine⟨by rw[xe5];exact h.1,λa b ha hb=>?_⟩;have hlt:i*k+j<l.length:=by rw[h.1];exact kY hi hj
 show(if a=i∧b=j then v else row a b)=_;rw[xc6,List.getElem?_set];by_cases c:a=i∧b=j
 ·rw[if_pos c,if_pos ((qcV hj hb).2 c).symm,if_pos hlt];rfl
 ·rw[if_neg c,if_neg (λe=>c ((qcV hj hb).1 e.symm)),h.2 a b ha hb,xc6]
theorem RowL.setN{vs:List SV}(h:RowL n k l row)(hi:i<n)(hj:j+vs.length≤k):RowL n k (l.take (i*k+j)++vs++l.drop (i*k+j+vs.length)) (λa b=>if a=i∧j≤b∧b<j+vs.length then vs.getD (b - j) .top else row a b):=by
 by_cases hk:k=0
 ·subst hk
  have hv:vs.length=0:=by omega
  have hv:vs=[]:=List.length_eq_zero_iff.1 hv;subst hv;have e0:=h.1;rw[Nat.mul_zero]at e0;have e0:=List.length_eq_zero_iff.1 e0;subst e0;refine⟨Ωi,λa b _ hb=>by omega⟩
 have hend:i*k+j+vs.length≤l.length:=by
  rw[h.1];have:=xa8 k (show i+1≤n from hi);rw[Nat.add_mul,Nat.one_mul]at this;omega
 refine⟨by rw[xc8,xc8,xd9,List.length_drop,←h.1];omega,λa b ha hb=>?_⟩;have ht:(l.take (i*k+j)).length=i*k+j:=by rw[xd9];omega
 show(if a=i∧j≤b∧b<j+vs.length then vs.getD (b - j) .top else row a b)=_;rw[xc6,h.2 a b ha hb,xc6,xc6];by_cases c:a=i∧j≤b∧b<j+vs.length
 ·obtain⟨rfl,c1,c2⟩:=c
  rw[if_pos ⟨rfl,c1,c2⟩,xc9 (by rw[xc8,ht];omega),xd0 Ω,ht]
  congr 2;omega
 ·rw[if_neg c]
  by_cases d:a*k+b<i*k+j
  ·rw[xc9 (by rw[xc8,ht];omega),xc9 Ω,List.getElem?_take,if_pos d]
  ·have hge:i*k+j+vs.length≤a*k+b:=by
    by_cases e:a=i
    ·subst e
     have:¬(j≤b∧b<j+vs.length):=λx=>c ⟨rfl,x⟩;omega
    ·have:i+1≤a:=by
      refine xf9 λx=>?_;have:=xa8 k (Ω:a+1≤i);rw[Nat.add_mul,Nat.one_mul]at this;omega
     have:=xa8 k this;rw[Nat.add_mul,Nat.one_mul]at this;omega
   rw[xd0 (by rw[xc8,ht];omega),xc8,ht,List.getElem?_drop]
   congr 2;omega
theorem qfn(hE:XOk P E)(hH:HRel LM hp H){v:SV}(h:GJ E hp t a v f=.ok ρ):zR ρ f id (rStore (qn P t) H a v):=by
 unfold GJ at h;split at h
 ·rename_i ht
  rw[hE.tys _ _ ht];obtain⟨h1,h⟩:=qa h;obtain⟨h2,h⟩:=qa h;have h2:=xa6 h2;unfold Zc at h;split at h
  ·split at h
   ·rename_i hb
    obtain⟨h3,h⟩:=qcT h;simp only[rStore,hH.cells hb];exact kW h rfl ⟨h3,h1,h2⟩ ⟨rfl,rfl⟩
   ·cases h
  ·split at h
   ·rename_i hb
    obtain⟨row,hb,hr⟩:=hH.rows hb;obtain⟨rfl,h3,h4,h⟩:=Zb h;obtain⟨h5,h⟩:=qcT h;simp only[rStore,hb];exact kW h rfl ⟨trivial,h3,h4,h1,h2⟩ ⟨rfl,rfl,rfl,hr.set h3 h4 v⟩
   ·cases h
  ·cases h
 ·rename_i sz _ _ ht
  rw[hE.tys _ _ ht];split at h
  ·rename_i vs
   obtain⟨h1,q1⟩:=qa h;obtain⟨h2,q⟩:=qa q1;have h2:=xa6 h2;subst h2;unfold qcS at q;split at q
   ·split at q
    ·rename_i hb
     obtain⟨h3,q⟩:=qcU q;simp only[rStore,hH.cells hb];exact kW q rfl ⟨h3,trivial,h1⟩ ⟨rfl,rfl⟩
    ·cases q
   ·split at q
    ·rename_i hb
     obtain⟨row,hb,hr⟩:=hH.rows hb;obtain⟨rfl,h3,h4,q⟩:=Zb q;obtain⟨h5,q⟩:=qcU q;simp only[rStore,hb];exact kW q rfl ⟨trivial,h3,h4,trivial,h1⟩ ⟨rfl,rfl,rfl,hr.setN h3 h4⟩
    ·cases q
   ·cases q
  ·cases h
 ·cases h
end
end
end Go.Sx
end
section
namespace Go.Sx
open Go.RowKit
noncomputable section
variable{x:SV}{t:TypeId}{i k m n:Nat}{l:List SV}{row:Nat→Nat→SV}
variable{ρ:Q}
section
variable{P:Program}{E:XE}{f:XR→R}{id:Nat}{hp:Tr 6 XB}{H:List (Nat×Blk)}{LM:Nat→Option Loop}
def qhM(x:SV)(f:XR→R):R:=
 match x with
 |.ptr id off=>f (.pure (.ptr id off))
 |.elt id k i j=>f (.pure (.elt id k i j))
 |.ref o n row=>f (.pure (.ref o n row))
 |.fn (.func g) a b=>f (.pure (.fn (.func g) a b))
 |_=>.bad 100 0
theorem qkF(h:qhM x f=.ok ρ):zR ρ f id (rNil x):=by
 unfold qhM at h;split at h<;>first|exact qf rfl trivial h|cases h
def Zd(x:SV)(o:Nat)(f:XR→R):R:=
 match x with
 |.ptr id off=>Za (.ptr id (off+o)) f
 |.elt id k i j=>Za (.elt id k i (j+o)) f
 |.ref b n row=>ql 101 (Nat.ble o n) (f (.pure (.ref b (n - o) (λj=>row (o+j)))))
 |_=>.bad 102 0
def j7(E:XE)(t:TypeId)(x:SV)(i:Nat)(f:XR→R):R:=
 match E.tys t with
 |some ⟨_,_,_,.struct fs⟩=>(match fs[i]? with
  |some (o,s,_)=>ql 103 (Nat.ble 1 s) (Zd x o f)
  |none=>.bad 104 0)
 |_=>.bad 105 0
theorem Jr(hE:XOk P E)(h:j7 E t x i f=.ok ρ):zR ρ f id (rFieldAddr (qn P t) x i):=by
 unfold j7 at h;split at h
 ·rename_i ht
  rw[hE.tys _ _ ht];split at h
  ·rename_i o s ag hf
   obtain⟨h1,q⟩:=qa h;have h1:s≠0:=by have:=xa7 h1;omega
   unfold Zd at q;simp only[rFieldAddr,hf];split at q
   ·rw[kX]at q;exact qf rfl h1 q
   ·rw[kX]at q;exact qf rfl h1 q
   ·obtain⟨h2,q⟩:=qa q
    exact qf rfl ⟨h1,xa7 h2⟩ q
   ·cases q
  ·cases h
 ·cases h
def VS(E:XE)(t:TypeId)(x:SV)(i:Nat)(f:XR→R):R:=
 match E.tys t with
 |some ⟨_,_,_,.struct fs⟩=>(match fs[i]? with
  |some (o,s,ag)=>(match x with
   |.agg l=>(match ag with
    |some true=>yg l o s f
    |some false=>yf l o f
    |none=>.bad 106 0)
   |_=>.bad 107 0)
  |none=>.bad 108 0)
 |_=>.bad 109 0
theorem qfo(hE:XOk P E)(h:VS E t x i f=.ok ρ):zR ρ f id (rField (qn P t) x i):=by
 unfold VS at h;split at h
 ·rename_i ht
  rw[hE.tys _ _ ht];split at h
  ·rename_i o s ag hf
   split at h
   ·simp only[rField,hf]
    split at h
    ·obtain⟨h1,h2⟩:=yI h;exact qf rfl h1 h2
    ·obtain⟨s,h1,h2⟩:=vF h;exact Q9 rfl h1 h2
    ·cases h
   ·cases h
  ·cases h
 ·cases h
def Js(i:SV)(n:Nat)(g:Nat→R):R:=
 match i with
 |.val (.int _ (.ofNat i))=>ql 110 (Nat.ble (Nat.succ i) n) (g i)
 |_=>.bad 111 0
theorem vi{i:SV}{g:Nat→R}(h:Js i n g=.ok ρ):∃k a,i=.val (.int k (.ofNat a))∧0≤Int.ofNat a∧Int.ofNat a<(n:Int)∧g a=.ok ρ:=by
 unfold Js at h;split at h
 ·obtain⟨h1,h⟩:=qa h
  exact⟨_,_,rfl,qN _,by have:=xa7 h1;simp only[Int.ofNat_eq_natCast];omega,h⟩
 ·cases h
def qcW(k:Nat)(x i:SV)(f:XR→R):R:=
 match x with
 |.arr o _ n k' row=>ql 112 (Nat.beq k' k) (Js i n λi=>f (.pure (.ref o k (row i))))
 |.vec id n k'=>ql 113 (Nat.beq k' k) (Js i n λi=>f (.pure (.elt id k i 0)))
 |.asl id off n k'=>ql 114 (Nat.beq k' k) (Js i n λi=>Za (.ptr id (off+i*k)) f)
 |.que id off n k'=>ql 115 (Nat.beq k' k) (Js i n λi=>Za (.elt id k (off+i) 0) f)
 |_=>.bad 116 0
def qcX(n k:Nat)(x i:SV)(f:XR→R):R:=
 match x with
 |.ptr id off=>Js i n λi=>Za (.ptr id (off+i*k)) f
 |.ref o m row=>Js i n λi=>ql 117 (Nat.ble (i*k) m) (f (.pure (.ref o (m - i*k) (λj=>row (i*k+j)))))
 |_=>.bad 118 0
def wr(E:XE)(t:TypeId)(x i:SV)(f:XR→R):R:=
 match E.tys t with
 |some ⟨_,_,_,.slice _ k⟩=>qcW k x i f
 |some ⟨_,_,_,.array n _ k⟩=>qcX n k x i f
 |_=>.bad 119 0
theorem Jt(hE:XOk P E){i:SV}(h:wr E t x i f=.ok ρ):zR ρ f id (rIndexAddr (qn P t) x i):=by
 unfold wr at h;split at h
 ·rename_i ht
  rw[hE.tys _ _ ht];unfold qcW at h;split at h
  ·obtain⟨h1,h⟩:=qa h
   obtain⟨_,a,rfl,h2,h3,h⟩:=vi h;exact qf rfl ⟨h2,h3,xa6 h1⟩ h
  ·obtain⟨h1,h⟩:=qa h
   obtain⟨_,a,rfl,h2,h3,h⟩:=vi h;exact qf rfl ⟨h2,h3,xa6 h1⟩ h
  ·obtain⟨h1,h⟩:=qa h
   obtain⟨_,a,rfl,h2,h3,h⟩:=vi h;rw[kX]at h;exact qf rfl ⟨h2,h3,xa6 h1⟩ h
  ·obtain⟨h1,h⟩:=qa h
   obtain⟨_,a,rfl,h2,h3,h⟩:=vi h;rw[kX]at h;exact qf rfl ⟨h2,h3,xa6 h1⟩ h
  ·cases h
 ·rename_i ht
  rw[hE.tys _ _ ht];unfold qcX at h;split at h
  ·obtain⟨_,a,rfl,h2,h3,h⟩:=vi h
   rw[kX]at h;exact qf rfl ⟨h2,h3⟩ h
  ·obtain⟨_,a,rfl,h2,h3,h⟩:=vi h
   obtain⟨h1,h⟩:=qa h;exact qf rfl ⟨h2,h3,xa7 h1⟩ h
  ·cases h
 ·cases h
def qcY(E:XE)(e:TypeId)(n k:Nat)(l:List SV)(i:SV)(f:XR→R):R:=
 match E.tys e with
 |some ⟨true,_,_,_⟩=>Js i n λi=>yg l (i*k) k f
 |some ⟨false,_,_,_⟩=>ql 120 (Nat.beq k 1) (Js i n λi=>yf l i f)
 |none=>.bad 121 0
def qcZ(s:ByteArray)(i:SV)(f:XR→R):R:=
 match i with
 |.val (.int _ (.ofNat a))=>(match s[a]? with
  |some b=>qm b.toNat λn=>f (.pure (.val (.int .u8 (.ofNat n))))
  |none=>.bad 159 0)
 |_=>.bad 159 1
def VT(E:XE)(t:TypeId)(x i:SV)(f:XR→R):R:=
 match E.tys t with
 |some ⟨_,_,_,.array n e k⟩=>(match x with
  |.agg l=>qcY E e n k l i f
  |_=>.bad 122 0)
 |some ⟨_,_,_,.other⟩=>(match x with
  |.val (.string s)=>ql 158 (E.str t) (qcZ s i f)
  |_=>.bad 123 t)
 |_=>.bad 123 0
theorem qfp(hE:XOk P E){i:SV}(h:VT E t x i f=.ok ρ):zR ρ f id (rIndex P t x i):=by
 unfold VT at h;split at h
 ·rename_i ht
  have ht:=hE.tys _ _ ht;split at h
  ·unfold qcY at h
   split at h
   ·rename_i he
    have he:=hE.tys _ _ he;obtain⟨_,a,rfl,h2,h3,h⟩:=vi h;obtain⟨h4,h5⟩:=yI h;simp only[rIndex,ht,he];exact qf rfl ⟨h2,h3,h4⟩ h5
   ·rename_i he
    have he:=hE.tys _ _ he;obtain⟨h1,h⟩:=qa h;obtain⟨_,a,rfl,h2,h3,h⟩:=vi h;obtain⟨s,h4,h5⟩:=vF h;simp only[rIndex,ht,he];exact Q9 rfl ⟨h2,h3,xa6 h1,h4⟩ h5
   ·cases h
  ·cases h
 ·rename_i ht
  have ht:=hE.tys _ _ ht;split at h
  ·obtain⟨h1,h⟩:=qa h
   have hu:=hE.str _ h1;unfold qcZ at h;split at h
   ·split at h
    ·rename_i b hb
     rw[qg]at h;simp only[rIndex,ht,hu];exact Q9 rfl ⟨qN _,b,hb,rfl⟩ h
    ·cases h
   ·cases h
  ·cases h
 ·cases h
def Ze(x:SV)(i:Nat)(f:XR→R):R:=
 match x with
 |.tup l=>yf l i f
 |_=>.bad 124 0
theorem YB(h:Ze x i f=.ok ρ):zR ρ f id (rExtract x i):=by
 unfold Ze at h;split at h
 ·obtain⟨s,h1,h2⟩:=vF h;exact Q9 rfl h1 h2
 ·cases h
def qhN(x:SV)(f:XR→R):R:=
 match x with
 |.arr _ _ n _ _=>f (.pure (.val (.int .i64 (.ofNat n))))
 |.vec _ n _=>f (.pure (.val (.int .i64 (.ofNat n))))
 |.asl _ _ n _=>f (.pure (.val (.int .i64 (.ofNat n))))
 |.que _ _ n _=>f (.pure (.val (.int .i64 (.ofNat n))))
 |.cut _ n _=>f (.pure (.val (.int .i64 (.ofNat n))))
 |.val (.slice none 0 0)=>f (.pure (.val (.int .i64 0)))
 |_=>.bad 125 0
def qfq(E:XE)(t:TypeId)(x:SV)(f:XR→R):R:=
 match E.tys t with
 |some ⟨_,_,_,.slice _ _⟩=>qhN x f
 |some ⟨_,_,_,.array n _ _⟩=>f (.pure (.val (.int .i64 (.ofNat n))))
 |_=>.bad 126 0
theorem qkG(hE:XOk P E)(h:qfq E t x f=.ok ρ):zR ρ f id (rLen (qn P t) x):=by
 unfold qfq at h;split at h
 ·rename_i ht
  rw[hE.tys _ _ ht];unfold qhN at h;split at h<;>first|exact qf rfl trivial h|cases h
 ·rename_i ht
  rw[hE.tys _ _ ht];exact qf rfl trivial h
 ·cases h
def qhO(mx:Bool)(a b:Int):Int:=Bool.rec (Bool.rec b a (Kt a b)) (Bool.rec a b (Kt a b)) mx
theorem VU(mx:Bool)(a b:Int):qhO mx a b=if mx=true then max a b else min a b:=by
 unfold qhO;rw[KE];by_cases c:a<b
 ·rw[decide_eq_true c];cases mx<;>simp<;>omega
 ·rw[decide_eq_false c];cases mx<;>simp<;>omega
def qkH(mx:Bool)(l:List SV)(f:XR→R):R:=
 match l with
 |[.val (.int k a),.val (.int k' b)]=>ql 127 (eqKind k k') (Yt (qhO mx a b) λn=>f (.pure (.val (.int k n))))
 |[.val (.int k a),.val (.int k' b),.val (.int k'' c)]=>ql 128 (eqKind k k') (ql 129 (eqKind k k'') (Yt (qhO mx (qhO mx a b) c) λn=>f (.pure (.val (.int k n)))))
 |_=>.bad 130 0
theorem qda{mx:Bool}(h:qkH mx l f=.ok ρ):zR ρ f id (rMin mx l):=by
 unfold qkH at h;split at h
 ·obtain⟨h1,h⟩:=qa h
  rw[jG,VU]at h;simp only[rMin,rMin2,h1,if_true];exact qf rfl trivial h
 ·obtain⟨h1,h⟩:=qa h
  obtain⟨h2,h⟩:=qa h;rw[jG,VU,VU]at h;simp only[rMin,rMin2,h1,h2,if_true];exact qf rfl trivial h
 ·cases h
theorem RowL.take(h:RowL n k l row)(hm:m≤n):RowL m k (l.take (m*k)) row:=by
 have hmk:m*k≤n*k:=xa8 k hm;refine⟨by rw[xd9,h.1];omega,λi j hi hj=>?_⟩;rw[h.2 i j Ω hj,xc6,xc6,List.getElem?_take,if_pos (kY hi hj)]
theorem RowL.app{l2:List SV}{row2:Nat→Nat→SV}(h:RowL n k l row)(h2:RowL m k l2 row2):RowL (n+m) k (l++l2) (λi j=>if i<n then row i j else row2 (i - n) j):=by
 refine⟨by rw[xc8,h.1,h2.1,Nat.add_mul],λi j hi hj=>?_⟩;show(if i<n then row i j else row2 (i - n) j)=_;rw[xc6];by_cases c:i<n
 ·rw[if_pos c,h.2 i j c hj,xc6,xc9 (by rw[h.1];exact kY c hj)]
 ·have hge:n*k≤i*k:=xa8 k Ω
  rw[if_neg c,h2.2 (i - n) j Ω hj,xc6,xd0 (by rw[h.1];omega),h.1,Nat.sub_mul]
  congr 2;omega
theorem RowL.nil(row:Nat→Nat→SV):RowL 0 k [] row:=⟨Ωi,λi j hi=>by omega⟩
def wJ(row:Nat→Nat→SV)(k:Nat):Nat→List SV
 |0=>[]
 |n+1=>wJ row k n++sel (row n) 0 k
theorem jo(row:Nat→Nat→SV)(k:Nat):∀n,RowL n k (wJ row k n) row
 |0=>RowL.nil row
 |n+1=>by
  have h1:=jo row k n;have h2:RowL 1 k (sel (row n) 0 k) (λi j=>row (n+i) j):=by
   refine⟨by rw[gQ,Nat.one_mul],λi j hi hj=>?_⟩;obtain rfl:i=0:=by omega
   rw[xc6,yq,Nat.zero_mul,xb0,xb0,if_pos hj];rfl
  have h3:=h1.app h2;refine⟨h3.1,λi j hi hj=>?_⟩;rw[show(wJ row k (n+1))=wJ row k n++sel (row n) 0 k from rfl,←h3.2 i j hi hj];show _=if i<n then row i j else row (n+(i - n)) j
  by_cases c:i<n
  ·rw[if_pos c]
  ·rw[if_neg c,show n+(i - n)=i by omega]
def Zf(hp:Tr 6 XB)(x:SV)(g:Nat→Nat→List SV→R):R:=
 match x with
 |.vec id n k=>(match hp.find id with
  |some (.rows _ k' n' l)=>ql 131 (Nat.ble n n') (ql 132 (Nat.beq k k') (gI (l.take (n*k)) λl=>g n k l))
  |_=>.bad 133 0)
 |.cut id n k=>(match hp.find id with
  |some (.rows _ k' n' l)=>ql 134 (Nat.ble n n') (ql 135 (Nat.beq k k') (gI (l.take (n*k)) λl=>g n k l))
  |_=>.bad 136 0)
 |.asl id off n k=>(match hp.find id with
  |some (.cells _ l)=>ql 137 (Nat.ble (off+n*k) l.length) (gI ((l.drop off).take (n*k)) λl=>g n k l)
  |_=>.bad 138 0)
 |.arr _ _ n k row=>yW (wJ row k n) λl=>g n k l
 |.val u=>ql 139 (nilSlice u) (g 0 1 [])
 |_=>.bad 140 0
theorem vG(hH:HRel LM hp H){g:Nat→Nat→List SV→R}(h:Zf hp x g=.ok ρ):∃obl m k row l,rowsOf H x=some (obl,m,k,row)∧obl∧RowL m k l row∧g m k l=.ok ρ:=by
 unfold Zf at h;split at h
 ·split at h
  ·rename_i i n k _ _ k' n' l hb
   obtain⟨row,hb,hr⟩:=hH.rows hb;obtain⟨h1,q1⟩:=qa h;obtain⟨h2,q⟩:=qa q1;have h1:=xa7 h1;have h2:=xa6 h2;rw[qT]at q;have e:rowsOf H (.vec i n k)=some (n≤n'∧k=k',n,k,row):=by simp only[rowsOf,hb]
   refine⟨_,_,_,row,_,e,⟨h1,h2⟩,?_,q⟩;rw[h2];exact hr.take h1
  ·cases h
 ·split at h
  ·rename_i i n k _ _ k' n' l hb
   obtain⟨row,hb,hr⟩:=hH.rows hb;obtain⟨h1,q1⟩:=qa h;obtain⟨h2,q⟩:=qa q1;have h1:=xa7 h1;have h2:=xa6 h2;rw[qT]at q;have e:rowsOf H (.cut i n k)=some (n≤n'∧k=k',n,k,row):=by simp only[rowsOf,hb]
   refine⟨_,_,_,row,_,e,⟨h1,h2⟩,?_,q⟩;rw[h2];exact hr.take h1
  ·cases h
 ·split at h
  ·rename_i off n k _ _ l hb
   obtain⟨h1,h⟩:=qa h;have h1:=xa7 h1;rw[qT]at h;refine⟨_,_,_,_,_,by simp only[rowsOf,hH.cells hb];rfl,h1,⟨by rw[xd9,List.length_drop];omega,λi j hi hj=>?_⟩,h⟩;rw[xc6,xc6,List.getElem?_take,if_pos (kY hi hj),List.getElem?_drop]
  ·cases h
 ·rw[kd]at h
  exact⟨_,_,_,_,_,rfl,trivial,jo _ _ _,h⟩
 ·obtain⟨h1,h⟩:=qa h
  exact⟨_,_,_,_,_,by simp only[rowsOf,h1,if_true];rfl,trivial,RowL.nil _,h⟩
 ·cases h
theorem GL:∀{l:List SV}{i:Nat}{s:SV},allOne l=true→l[i]? = some s→oneCell s=true
 |[],i,s,h,e=>by simp at e
 |a :: l,i,s,h,e=>by
  simp only[allOne,xe6]at h;cases i with
  |zero=>simp at e;subst e;exact h.1
  |succ i=>exact GL h.2 (by simpa using e)
theorem RowL.one(h:RowL n k l row)(h1:allOne l=true):oneRows n k row:=λi j hi hj=>by
 have hlt:i*k+j<l.length:=by rw[h.1];exact kY hi hj
 rw[h.2 i j hi hj,xc6,xc7 hlt];exact GL h1 (xc7 hlt)
def orK(a b:Bool):Bool:=Bool.rec b true a
theorem VV{a b:Bool}(h:orK a b=true):a=true∨b=true:=by cases a<;>first|exact .inr h|exact .inl rfl
def qdb(e k:Nat)(m k2:Nat)(l2:List SV)(n k1:Nat)(l1:List SV)(id:Nat)(f:XR→R):R:=
 ql 141 (Nat.ble 1 m) (ql 142 (orK (Nat.beq n 0) (Nat.beq k1 k)) (ql 143 (Nat.beq k2 k) (qm (n+m) λq=>ql 144 (Nat.ble q 1000000) (gI (l1++l2) λl=>f (.new (.rows e k q l) (.vec id q k))))))
def qmd(hp:Tr 6 XB)(e k id0 n k' m k2:Nat)(l2:List SV)(id:Nat)(f:XR→R):R:=
 match hp.find id0 with
 |some (.rows t' k'' n' l1)=>ql 145 (orK (Nat.beq m 0) (Nat.beq k2 k)) (ql 146 (Nat.beq k' k) (ql 147 (Nat.beq k'' k) (ql 148 (Nat.beq t' e) (ql 149 (Nat.ble n n') (ql 150 (allOne l2) (qm (n+m) λq=>ql 151 (Nat.ble q 1000000) (gI (l1.take (n*k)++l2) λl=>f (.grow id0 (.rows e k q l) (.vec id q k)))))))))
 |_=>.bad 152 0
def qme(hp:Tr 6 XB)(e k:Nat)(s:SV)(m k2:Nat)(l2:List SV)(id:Nat)(f:XR→R):R:=
 match s with
 |.vec id0 n k'=>qmd hp e k id0 n k' m k2 l2 id f
 |.val u=>ql 153 (nilSlice u) (ql 154 (orK (Nat.beq m 0) (Nat.beq k2 k)) (ql 155 (Nat.ble m 1000000) (f (.new (.rows e k m l2) (.vec id m k)))))
 |.cut i n kk=>Zf hp (.cut i n kk) λn k1 l1=>qdb e k m k2 l2 n k1 l1 id f
 |.arr o true n kk row=>Zf hp (.arr o true n kk row) λn k1 l1=>qdb e k m k2 l2 n k1 l1 id f
 |_=>.bad 156 0
def Zg(E:XE)(hp:Tr 6 XB)(t:TypeId)(s x:SV)(id:Nat)(f:XR→R):R:=
 match E.sls t with
 |some (e,k,_)=>Zf hp x λm k2 l2=>qme hp e k s m k2 l2 id f
 |none=>.bad 157 0
theorem RowL.of0{k2:Nat}(h:RowL m k2 l row)(h0:m=0∨k2=k):RowL m k l row:=by
 rcases h0 with rfl|rfl
 ·have:=h.1
  rw[Nat.zero_mul]at this;rw[List.length_eq_zero_iff.1 this];exact RowL.nil row
 ·exact h
theorem qbt(hE:XOk P E)(hH:HRel LM hp H){s:SV}(h:Zg E hp t s x id f=.ok ρ):zR ρ f id (rAppend P t H s x):=by
 unfold Zg at h;split at h
 ·rename_i e k z ht
  obtain⟨⟨_,_,_,h1⟩,⟨_,_,_,h2⟩,h3,h4,h5⟩:=hE.sls _ _ _ _ ht;obtain⟨obl,m,k2,row2,l2,hx,ho,hr,h⟩:=vG hH h;simp only[rAppend,h1,h2,hx];have new:∀{n k1:Nat}{l1:List SV}{row1:Nat→Nat→SV}{obl1:Prop},qdb e k m k2 l2 n k1 l1 id f=.ok ρ→obl1→RowL n k1 l1 row1→zR ρ f id (.new (obl1∧obl∧0<m∧(n=0∨k1=k)∧k2=k∧0<k∧z.length=k∧n+m≤1000000∧qL P e≤100000000) (.rows e k (n+m) (λi j=>if i<n then row1 i j else row2 (i - n) j)) (λid=>.vec id (n+m) k)):=by
   intro n k1 l1 row1 obl1 h ho1 hr1;unfold qdb at h;obtain⟨q1,h⟩:=qa h;obtain⟨q2,h⟩:=qa h;obtain⟨q3,h⟩:=qa h;rw[qg]at h;obtain⟨q4,h⟩:=qa h;rw[qT]at h;have q1:=xa7 q1;have q2:n=0∨k1=k:=(VV q2).imp xa6 xa6;have q3:=xa6 q3;have q4:=xa7 q4;exact jn h rfl ⟨ho1,ho,q1,q2,q3,h3,h4,q4,h5⟩ ⟨rfl,rfl,rfl,(hr1.of0 q2).app (hr.of0 (.inr q3))⟩ rfl
  unfold qme at h;split at h
  ·unfold qmd at h
   split at h
   ·rename_i hb
    obtain⟨row,hb,hr1⟩:=hH.rows hb;obtain⟨q1,h⟩:=qa h;obtain⟨q2,h⟩:=qa h;obtain⟨q3,h⟩:=qa h;obtain⟨q4,h⟩:=qa h;obtain⟨q5,h⟩:=qa h;obtain⟨q6,h⟩:=qa h;rw[qg]at h;obtain⟨q7,h⟩:=qa h;rw[qT]at h;have q1:m=0∨k2=k:=(VV q1).imp xa6 xa6;have q2:=xa6 q2;have q3:=xa6 q3;have q4:=xa6 q4;have q5:=xa7 q5;have q7:=xa7 q7;simp only[hb];rw[q3]at hr1;exact qfj h rfl ⟨ho,q1,q2,q3,q4,q5,h3,h4,(hr.of0 q1).one q6,q7,h5⟩ ⟨rfl,rfl,rfl,(hr1.take q5).app (hr.of0 q1)⟩ rfl
   ·cases h
  ·obtain⟨q1,h⟩:=qa h
   obtain⟨q2,h⟩:=qa h;obtain⟨q3,h⟩:=qa h;have q2:m=0∨k2=k:=(VV q2).imp xa6 xa6;simp only[q1];exact jn h rfl ⟨ho,q2,h3,h4,xa7 q3,h5⟩ ⟨rfl,rfl,rfl,hr.of0 q2⟩ rfl
  ·obtain⟨obl1,n,k1,row1,l1,hx1,ho1,hr1,h⟩:=vG hH h
   simp only[hx1];exact new h ho1 hr1
  ·obtain⟨obl1,n,k1,row1,l1,hx1,ho1,hr1,h⟩:=vG hH h
   simp only[hx1];exact new h ho1 hr1
  ·cases h
 ·cases h
end
end
end Go.Sx
end
section
namespace Go.Sx
open Go.RowKit
noncomputable section
variable{g:Nat→R}{a m n:Nat}{l:List SV}{t:TypeId}{k s x:SV}{row:Nat→Nat→SV}{fr:Tr 3 SV}{F:Nat→SV}
variable{ρ:Q}
section
variable{P:Program}{E:XE}{f:XR→R}{id:Nat}{hp:Tr 6 XB}{H:List (Nat×Blk)}{LM:Nat→Option Loop}
def ZS(d:Nat)(o:Option SV)(g:Nat→R):R:=
 match o with
 |none=>g d
 |some (.val (.int _ (.ofNat i)))=>g i
 |_=>.bad 160 0
theorem Zh{d:Nat}{o:Option SV}(h:ZS d o g=.ok ρ):∃a,bnd (d:Int) o=some (Int.ofNat a)∧g a=.ok ρ:=by
 unfold ZS at h;split at h
 ·exact⟨d,rfl,h⟩
 ·exact⟨_,rfl,h⟩
 ·cases h
theorem jp{o:Option SV}(h:ZS 0 o g=.ok ρ):∃a,bnd 0 o=some (Int.ofNat a)∧g a=.ok ρ:=Zh (d:=0) h
theorem zP{b:Nat}(h:a≤b):Int.ofNat a≤Int.ofNat b:=by simp only[Int.ofNat_eq_natCast];omega
theorem yJ{b:Nat}:(Int.ofNat b - Int.ofNat a).toNat=b - a:=by simp only[Int.ofNat_eq_natCast];omega
def qdc(k:Nat)(id n k':Nat)(lo hi mx:Option SV)(f:XR→R):R:=
 ZS 0 lo λl=>ZS n hi λh=>ql 162 (Nat.ble h n) (ql 163 (Nat.beq k' k) (ql 161 (Nat.ble l h) (match mx with
  |none=>Bool.rec (ql 182 (Nat.beq h n) (qm (h - l) λq=>f (.pure (.que id l q k)))) (f (.pure (.vec id h k))) (Nat.beq l 0)
  |some m=>ZS 0 (some m) λm=>ql 164 (Nat.ble h m) (ql 165 hi.isSome (ql 183 (Nat.ble m n) (Bool.rec (f (.pure .top)) (f (.pure (.cut id h k))) (Nat.beq l 0&&Nat.beq h m)))))))
def qdd(u:Value)(lo hi mx:Option SV)(f:XR→R):R:=
 ZS 0 lo λl=>ZS 0 hi λh=>ql 166 (nilSlice u) (ql 167 (Nat.beq l 0) (ql 168 (Nat.beq h 0) (match mx with
  |none=>f (.pure (.val (.slice none 0 0)))
  |some m=>ZS 0 (some m) λm=>ql 169 (Nat.beq m 0) (ql 170 hi.isSome (f (.pure (.val (.slice none 0 0))))))))
def qhP(l h n:Nat):Bool:=Bool.rec false (Bool.rec false (orK (Nat.beq l 0) (Nat.ble (Nat.succ l) h)) (Nat.ble h n)) (Nat.ble l h)
theorem YC{l h:Nat}(e:qhP l h n=true):0≤Int.ofNat l∧(Int.ofNat l=0∨Int.ofNat l<Int.ofNat h)∧Int.ofNat l≤Int.ofNat h∧Int.ofNat h≤(n:Int):=by
 unfold qhP at e;cases h1:Nat.ble l h with
 |false=>rw[h1]at e;cases e
 |true=>
  rw[h1]at e;cases h2:Nat.ble h n with
  |false=>rw[h2]at e;cases e
  |true=>
   rw[h2]at e;have e:orK (Nat.beq l 0) (Nat.ble (Nat.succ l) h)=true:=e;have h1:=xa7 h1;have h2:=xa7 h2;have e:=(VV e).imp xa6 xa7;simp only[Int.ofNat_eq_natCast];omega
def KG(n k:Nat)(id off:Nat)(lo hi:Option SV)(f:XR→R):R:=
 ZS 0 lo λl=>ZS n hi λh=>ql 171 (qhP l h n) (qm (off+l*k) λo=>qm (h - l) λq=>f (.pure (.asl id o q k)))
def qde(k:Nat)(x:SV)(lo hi mx:Option SV)(f:XR→R):R:=
 match x with
 |.vec id n k'=>qdc k id n k' lo hi mx f
 |.val u=>qdd u lo hi mx f
 |.asl id off n k'=>(match mx with|none=>ql 172 (Nat.beq k' k) (KG n k id off lo hi f)|some _=>.bad 173 0)
 |.arr o full n k' row=>(match mx with|none=>ZS 0 lo λl=>ZS n hi λh=>ql 174 (Nat.ble l h) (ql 175 (Nat.ble h n) (ql 176 (Nat.beq k' k) (Kh (full&&hi.isNone) λfl=>qm (h - l) λq=>f (.pure (.arr o fl q k (λi j=>row (l+i) j))))))|some _=>.bad 177 0)
 |_=>.bad 178 0
def qbu(E:XE)(t:TypeId)(x:SV)(lo hi mx:Option SV)(f:XR→R):R:=
 match E.tys t with
 |some ⟨_,_,_,.slice _ k⟩=>qde k x lo hi mx f
 |some ⟨_,_,_,.array n _ k⟩=>(match x with
  |.ptr id off=>(match mx with|none=>KG n k id off lo hi f|some _=>.bad 179 0)
  |_=>.bad 180 0)
 |_=>.bad 181 0
theorem YD{m:SV}(h:bnd 0 (some m)=some (Int.ofNat a)):∃k,m=.val (.int k (Int.ofNat a)):=by
 unfold bnd at h;split at h
 ·rename_i e;cases e
 ·rename_i e;cases e;cases h;exact⟨_,rfl⟩
 ·cases h
theorem qfr(hE:XOk P E){lo hi mx:Option SV}(h:qbu E t x lo hi mx f=.ok ρ):zR ρ f id (rSlice (qn P t) x lo hi mx):=by
 unfold qbu at h;split at h
 ·rename_i ht
  rw[hE.tys _ _ ht];unfold qde at h;split at h
  ·unfold qdc at h
   obtain⟨a,ea,h⟩:=jp h;obtain⟨b,eb,h⟩:=Zh h;obtain⟨q2,h⟩:=qa h;obtain⟨q3,h⟩:=qa h;obtain⟨q1,h⟩:=qa h;have q1:=xa7 q1;have q2:=xa7 q2;have q3:=xa6 q3;split at h
   ·simp only[rSlice,ea,eb]
    cases z:Nat.beq a 0 with
    |true=>
     rw[z]at h;have z:=xa6 z;subst z;exact qf rfl ⟨Int.le_refl _,qN _,zP q2,.inl rfl,q3⟩ h
    |false=>
     rw[z]at h;obtain⟨q4,h⟩:=qa h;have q4:=xa6 q4;rw[qg]at h;have hz:¬(Int.ofNat a=0):=λc=>by
      simp only[Int.ofNat_eq_natCast]at c;have:a=0:=by omega
      rw[this]at z;cases z
     have ee:∀i k,zU (Int.ofNat a) (Int.ofNat b) i k=.que i a (b - a) k:=λi k=>by
      unfold zU;rw[if_neg hz,yJ];rfl
     rw[ee];exact qf rfl ⟨qN _,zP q1,zP q2,.inr (by rw[q4];rfl),q3⟩ h
   ·obtain⟨c,ec,p⟩:=jp h
    obtain⟨q4,p1⟩:=qa p;obtain⟨q5,p2⟩:=qa p1;obtain⟨q6,p3⟩:=qa p2;obtain⟨kk,em⟩:=YD ec;have q4:=xa7 q4;have q6:=xa7 q6;rw[em];simp only[rSlice,ea,eb];cases z:(Nat.beq a 0&&Nat.beq b c)with
    |true=>
     rw[z]at p3;simp only[xe6]at z;have z1:=xa6 z.1;have z2:=xa6 z.2;have ee:∀i k,jT (Int.ofNat a) (Int.ofNat b) (Int.ofNat c) i k=.cut i b k:=λi k=>by
      unfold jT;rw[if_pos ⟨by rw[z1];rfl,by rw[z2]⟩];rfl
     rw[ee];exact qf rfl ⟨qN _,zP q1,zP q4,zP q6,q5,q3⟩ p3
    |false=>
     rw[z]at p3;have ee:∀i k,jT (Int.ofNat a) (Int.ofNat b) (Int.ofNat c) i k=.top:=λi k=>by
      unfold jT;rw[if_neg];rintro⟨z1,z2⟩;simp only[Int.ofNat_eq_natCast]at z1 z2;have z1:a=0:=by omega
      have z2:b=c:=by omega
      rw[z1,z2,Nat.beq_refl,Nat.beq_refl]at z;cases z
     rw[ee];exact qf rfl ⟨qN _,zP q1,zP q4,zP q6,q5,q3⟩ p3
  ·unfold qdd at h
   obtain⟨a,ea,h⟩:=jp h;obtain⟨b,eb,h⟩:=jp h;obtain⟨q1,h⟩:=qa h;obtain⟨q2,h⟩:=qa h;obtain⟨q3,h⟩:=qa h;have z2:Int.ofNat a=0:=by rw[xa6 q2];rfl
   have z3:Int.ofNat b=0:=by rw[xa6 q3];rfl
   split at h
   ·simp only[rSlice,ea,eb]
    exact qf rfl ⟨q1,z2,z3⟩ h
   ·obtain⟨c,ec,p⟩:=jp h
    obtain⟨q4,p1⟩:=qa p;obtain⟨q5,p2⟩:=qa p1;obtain⟨kk,em⟩:=YD ec;have z4:Int.ofNat c=0:=by rw[xa6 q4];rfl
    rw[em];simp only[rSlice,ea,eb];exact qf rfl ⟨q1,z2,z3,z4,q5⟩ p2
  ·split at h
   ·obtain⟨q1,h⟩:=qa h
    unfold KG at h;obtain⟨a,ea,h⟩:=jp h;obtain⟨b,eb,h⟩:=Zh h;obtain⟨q2,h⟩:=qa h;rw[qg,qg]at h;obtain⟨r1,r2,r3,r4⟩:=YC q2;simp only[rSlice,ea,eb];rw[←yJ]at h;exact qf rfl ⟨r1,r2,r3,r4,xa6 q1⟩ h
   ·cases h
  ·split at h
   ·obtain⟨a,ea,h⟩:=jp h
    obtain⟨b,eb,h⟩:=Zh h;obtain⟨q1,h⟩:=qa h;obtain⟨q2,h⟩:=qa h;obtain⟨q3,h⟩:=qa h;rw[Q5,qg,←yJ]at h;simp only[rSlice,ea,eb];exact qf rfl ⟨qN _,zP (xa7 q1),zP (xa7 q2),xa6 q3⟩ h
   ·cases h
  ·cases h
 ·rename_i ht
  rw[hE.tys _ _ ht];split at h
  ·split at h
   ·unfold KG at h
    obtain⟨a,ea,h⟩:=jp h;obtain⟨b,eb,h⟩:=Zh h;obtain⟨q2,h⟩:=qa h;rw[qg,qg]at h;simp only[rSlice,ea,eb];rw[←yJ]at h;exact qf rfl (YC q2) h
   ·cases h
  ·cases h
 ·cases h
theorem YE:∀l:List Value,(vals l).length=l.length
 |[]=>rfl
 |a :: l=>by rw[vals,xe4,xe4,YE l]
theorem qdf:∀(l:List Value)(i:Nat),i<l.length→(vals l)[i]? = some (.val (l.getD i undef))
 |[],i,h=>by simp at h
 |a :: l,0,h=>rfl
 |a :: l,i+1,h=>by
  rw[vals,xd7,qdf l i ΩG];rfl
theorem YF(z:List Value):∀n,RowL n z.length (zrep z n) (λ_ j=>.val (z.getD j undef))
 |0=>RowL.nil _
 |n+1=>by
  have h1:RowL 1 z.length (vals z) (λ_ j=>.val (z.getD j undef)):=by
   refine⟨by rw[YE,Nat.one_mul],λi j hi hj=>?_⟩;obtain rfl:i=0:=by omega
   rw[xc6,Nat.zero_mul,xb0,qdf z j hj];rfl
  have h2:=h1.app (YF z n);refine⟨by have:=h2.1;rw[xc5 1 n]at this;exact this,λi j hi hj=>?_⟩;rw[show zrep z (n+1)=vals z++zrep z n from rfl,←h2.2 i j Ω hj];show _=if i<1 then SV.val (z.getD j undef)else SV.val (z.getD j undef)
  rw[ite_self]
def qkI(s:SV)(g:Nat→R):R:=
 match s with
 |.val (.int _ (.ofNat n))=>g n
 |_=>.bad 190 0
theorem qdg(h:qkI s g=.ok ρ):∃k n,s=.val (.int k (Int.ofNat n))∧g n=.ok ρ:=by
 unfold qkI at h;split at h
 ·exact⟨_,_,rfl,h⟩
 ·cases h
def qhQ(E:XE)(t:TypeId)(l c:SV)(id:Nat)(f:XR→R):R:=
 match E.sls t with
 |some (e,k,z)=>qkI l λl=>qkI c λc=>ql 191 (Nat.ble l c) (ql 192 (Nat.ble c 1000000) (yW (zrep z c) λL=>f (.new (.rows e k c L) (.vec id l k))))
 |none=>.bad 193 0
theorem qhR(hE:XOk P E){l c:SV}(h:qhQ E t l c id f=.ok ρ):zR ρ f id (rMakeSlice P t l c):=by
 unfold qhQ at h;split at h
 ·rename_i e k z ht
  obtain⟨⟨_,_,_,h1⟩,⟨_,_,_,h2⟩,h3,h4,h5⟩:=hE.sls _ _ _ _ ht;obtain⟨_,a,e1,p1⟩:=qdg h;obtain⟨_,b,e2,p2⟩:=qdg p1;obtain⟨q1,p3⟩:=qa p2;obtain⟨q2,p4⟩:=qa p3;rw[kd]at p4;rw[e1,e2];simp only[rMakeSlice,h1,h2];subst h4;have q2:=zP (xa7 q2);exact jn p4 rfl ⟨qN _,zP (xa7 q1),q2,h5,rfl,h3⟩ ⟨rfl,rfl,rfl,YF z b⟩ rfl
 ·cases h
def qdh(l:Option (List SV))(f:XR→R):R:=
 match l with
 |some l=>yW l λl=>f (.pure (.agg l))
 |none=>.bad 194 0
def qbv(E:XE)(t:TypeId)(ps:List (Nat×SV))(f:XR→R):R:=
 match E.tys t,E.pls t with
 |some ⟨true,_,some z,_⟩,some pl=>qdh (fillS (λi=>pl[i]?) (vals z) ps) f
 |_,_=>.bad 195 0
theorem qfs(hE:XOk P E){ps:List (Nat×SV)}(h:qbv E t ps f=.ok ρ):zR ρ f id (rBuild P t ps):=by
 unfold qbv at h;split at h
 ·rename_i z _ pl ht hp
  have ht:=hE.tys _ _ ht;have hp:=hE.pls _ _ hp;unfold qdh at h;simp only[rBuild,ht,hp];split at h
  ·rename_i l hl
   rw[kd]at h;rw[hl];exact qf rfl trivial h
  ·cases h
 ·cases h
def qdi(e k len:Nat)(id:Nat)(l:Option (List SV))(f:XR→R):R:=
 match l with
 |some l=>yW l λl=>ql 196 (Nat.beq l.length (len*k)) (ql 197 (Nat.ble (len*k) 16777216) (f (.new (.rows e k len l) (.vec id len k))))
 |none=>.bad 198 0
def yh(E:XE)(t:TypeId)(len:Nat)(ps:List (Nat×SV))(id:Nat)(f:XR→R):R:=
 match E.sls t with
 |some (e,k,z)=>qdi e k len id (fillS (λi=>some (i*k,k)) (zrep z len) ps) f
 |none=>.bad 199 0
theorem GM(hE:XOk P E){len:Nat}{ps:List (Nat×SV)}(h:yh E t len ps id f=.ok ρ):zR ρ f id (rBuildSlice P t len ps):=by
 unfold yh at h;split at h
 ·rename_i e k z ht
  obtain⟨⟨_,_,_,h1⟩,⟨_,_,_,h2⟩,h3,h4,h5⟩:=hE.sls _ _ _ _ ht;unfold qdi at h;simp only[rBuildSlice,h1,h2];split at h
  ·rename_i l hl
   rw[kd]at h;obtain⟨q1,h⟩:=qa h;obtain⟨q2,h⟩:=qa h;rw[hl];exact jn h rfl ⟨h4,h3,xa7 q2⟩ ⟨rfl,rfl,rfl,xa6 q1,λi j _ _=>rfl⟩ rfl
  ·cases h
 ·cases h
def qhS(hp:Tr 6 XB)(k:Nat)(id n k' m k2:Nat)(l2:List SV)(f:XR→R):R:=
 match hp.find id with
 |some (.rows t k'' n' l)=>ql 200 (Nat.beq k2 k) (ql 201 (Nat.beq k' k) (ql 202 (Nat.beq k'' k) (ql 203 (Nat.ble n n') (ql 204 (Nat.ble 1 k) (ql 205 (allOne l2) (qm (min m n) λq=>gI (l2.take (q*k)++l.drop (q*k)) λl=>f (.upd id (.rows t k n' l) (.val (.int .i64 (q:Nat))))))))))
 |_=>.bad 206 0
def qhT(hp:Tr 6 XB)(k:Nat)(id off n k' m k2:Nat)(l2:List SV)(f:XR→R):R:=
 match hp.find id with
 |some (.cells t l)=>ql 207 (Nat.beq k2 1) (ql 208 (Nat.beq k' 1) (ql 209 (Nat.beq k 1) (ql 210 (Nat.ble (off+n) l.length) (ql 211 (Nat.ble 1 m) (ql 212 (Nat.ble 1 n) (ql 213 (allOne l2) (qm (min m n) λq=>gI (l.take off++l2.take q++l.drop (off+q)) λl=>f (.upd id (.cells t l) (.val (.int .i64 (q:Nat)))))))))))
 |_=>.bad 214 0
def qhU(hp:Tr 6 XB)(k:Nat)(d:SV)(m k2:Nat)(l2:List SV)(f:XR→R):R:=
 match d with
 |.vec id n k'=>qhS hp k id n k' m k2 l2 f
 |.asl id off n k'=>qhT hp k id off n k' m k2 l2 f
 |_=>.bad 215 0
def qhV(E:XE)(hp:Tr 6 XB)(t:TypeId)(d x:SV)(f:XR→R):R:=
 match E.tys t with
 |some ⟨_,_,_,.slice _ k⟩=>Zf hp x λm k2 l2=>qhU hp k d m k2 l2 f
 |_=>.bad 216 0
theorem RowL.cpy{k q:Nat}{l2:List SV}{row2:Nat→Nat→SV}(h:RowL n k l row)(h2:RowL m k l2 row2)(hq:q≤m)(hn:q≤n):RowL n k (l2.take (q*k)++l.drop (q*k)) (λi j=>if i<q then row2 i j else row i j):=by
 have a1:q*k≤m*k:=xa8 k hq;have a2:q*k≤n*k:=xa8 k hn;have e1:(l2.take (q*k)).length=q*k:=by rw[xd9,h2.1];omega
 refine⟨by rw[xc8,e1,List.length_drop,h.1];omega,λi j hi hj=>?_⟩;show(if i<q then row2 i j else row i j)=_;rw[xc6];by_cases c:i<q
 ·rw[if_pos c,h2.2 i j Ω hj,xc6,xc9 (by rw[e1];exact kY c hj),List.getElem?_take,if_pos (kY c hj)]
 ·have hge:q*k≤i*k:=xa8 k Ω
  rw[if_neg c,h.2 i j hi hj,xc6,xd0 (by rw[e1];omega),e1,List.getElem?_drop]
  congr 2;omega
theorem qhW{q:Nat}(h:RowL m 1 l row)(hq:q≤m):(List.range q).map (λi=>row i 0)=l.take q:=by
 refine List.ext_getElem? λi=>?_;rw[List.getElem?_take];by_cases c:i<q
 ·have hl:i<l.length:=by rw[h.1];omega
  rw[if_pos c,List.getElem?_map,xe3 c,xc7 hl];show some (row i 0)=_;rw[h.2 i 0 Ω Ω,xc6,Nat.mul_one,xb1,xc7 hl];rfl
 ·rw[if_neg c,List.getElem?_eq_none Ωl]
theorem qhX(hE:XOk P E)(hH:HRel LM hp H){d:SV}(h:qhV E hp t d x f=.ok ρ):zR ρ f id (rCopy P t H d x):=by
 unfold qhV at h;split at h
 ·rename_i k ht
  have ht:=hE.tys _ _ ht;obtain⟨obl,m,k2,row2,l2,hx,ho,hr,h⟩:=vG hH h;unfold qhU at h;simp only[rCopy,ht,hx];split at h
  ·unfold qhS at h
   split at h
   ·rename_i hb
    obtain⟨row,hb,hr1⟩:=hH.rows hb;obtain⟨q1,h⟩:=qa h;obtain⟨q2,h⟩:=qa h;obtain⟨q3,h⟩:=qa h;obtain⟨q4,h⟩:=qa h;obtain⟨q5,h⟩:=qa h;obtain⟨q6,h⟩:=qa h;rw[qg,qT]at h;have q1:=xa6 q1;have q2:=xa6 q2;have q3:=xa6 q3;have q4:=xa7 q4;have q5:=xa7 q5;simp only[hb];rw[q3]at hr1;have hr2:=hr.of0 (.inr q1);exact JW h rfl ⟨ho,.inr q1,q2,q3,q4,q5,hr2.one q6⟩ ⟨rfl,rfl,rfl,hr1.cpy hr2 (Nat.min_le_left _ _) Ω⟩
   ·cases h
  ·unfold qhT at h
   split at h
   ·rename_i hb
    obtain⟨q1,h⟩:=qa h;obtain⟨q2,h⟩:=qa h;obtain⟨q3,h⟩:=qa h;obtain⟨q4,h⟩:=qa h;obtain⟨q5,h⟩:=qa h;obtain⟨q6,h⟩:=qa h;obtain⟨q7,h⟩:=qa h;rw[qg,qT]at h;have q1:=xa6 q1;have q2:=xa6 q2;have q3:=xa6 q3;have q4:=xa7 q4;have q5:=xa7 q5;have q6:=xa7 q6;simp only[hH.cells hb];have hr2:=hr.of0 (.inr q1);exact JW h rfl ⟨ho,q1,q2,q3,q4,q5,q6,hr2.one q7⟩ ⟨rfl,by rw[qhW hr2 (Nat.min_le_left _ _)]⟩
   ·cases h
  ·cases h
 ·cases h
def qdj(hp:Tr 6 XB)(v:Value)(k:Nat)(d:SV)(f:XR→R):R:=
 match d with
 |.asl id off n k'=>(match hp.find id with
  |some (.cells t l)=>ql 220 (Nat.ble (off+n) l.length) (ql 221 (Nat.beq k' 1) (ql 222 (Nat.beq k 1) (ql 223 v.oneCell' (ql 224 (Nat.ble 1 n) (gI (l.take off++List.replicate n (.val v)++l.drop (off+n)) λl=>f (.upd id (.cells t l) undefSV))))))
  |_=>.bad 225 0)
 |.vec id n k'=>(match hp.find id with
  |some (.rows t kk m l)=>ql 228 (Nat.beq k' 1) (ql 229 (Nat.beq kk 1) (ql 241 (Nat.beq k 1) (ql 242 (Nat.ble n m) (ql 243 v.oneCell' (gI (List.replicate n (.val v)++l.drop n) λl=>f (.upd id (.rows t 1 m l) undefSV))))))
  |_=>.bad 244 0)
 |.que id off n k'=>(match hp.find id with
  |some (.rows t kk m l)=>ql 248 (Nat.beq k' 1) (ql 249 (Nat.beq kk 1) (ql 250 (Nat.beq k 1) (ql 251 (Nat.ble (off+n) m) (ql 252 v.oneCell' (gI (l.take off++(List.replicate n (.val v)++l.drop (off+n))) λl=>f (.upd id (.rows t 1 m l) undefSV))))))
  |_=>.bad 253 0)
 |_=>.bad 226 0
theorem RowL.clrq{off:Nat}{v:SV}(h:RowL m 1 l row)(hn:off+n≤m):RowL m 1 (l.take off++(List.replicate n v++l.drop (off+n))) (λi j=>if off≤i∧i<off+n then v else row i j):=by
 obtain⟨h1,h2⟩:=h;have ht:(l.take off).length=off:=by rw[xd9];omega
 refine⟨by simp[h1];omega,λi j hi hj=>?_⟩;have hj0:j=0:=by omega
 subst hj0;simp only[Nat.mul_one,xb1,xc6];by_cases c:i<off
 ·rw[if_neg Ω,xc9 Ω,List.getElem?_take,if_pos c,h2 i 0 hi Ω]
  simp only[Nat.mul_one,xb1,xc6]
 ·rw[xd0 Ω,ht]
  by_cases d:i<off+n
  ·rw[if_pos Ω,xc9 Ωl,List.getElem?_replicate,if_pos Ω];rfl
  ·rw[if_neg Ω,xd0 Ωl,h2 i 0 hi Ω]
   simp only[xd8,List.getElem?_drop,Nat.mul_one,xb1,xc6];rw[show off+n+(i - off - n)=i by omega]
theorem RowL.clr{v:SV}(h:RowL m 1 l row)(hn:n≤m):RowL m 1 (List.replicate n v++l.drop n) (λi j=>if i<n then v else row i j):=by
 obtain⟨h1,h2⟩:=h;refine⟨by simp[h1];omega,λi j hi hj=>?_⟩;have hj0:j=0:=by omega
 subst hj0;simp only[Nat.mul_one,xb1,xc6];by_cases c:i<n
 ·rw[if_pos c,xc9 (by simpa using c)]
  simp[c]
 ·rw[if_neg c,xd0 (by simpa using c),h2 i 0 hi Ω]
  simp only[xd8,List.getElem?_drop,Nat.mul_one,xb1,xc6];rw[show n+(i - n)=i by omega]
def qbw(E:XE)(hp:Tr 6 XB)(t:TypeId)(d:SV)(f:XR→R):R:=
 match E.sls t with
 |some (_,k,[v])=>qdj hp v k d f
 |some _=>.bad 227 0
 |none=>(match d with
  |.mp id=>(match E.mps t with
   |some mi=>(match hp.find id with
    |some (.map ag ls es)=>f (.upd id (.map ag ls []) undefSV)
    |_=>.bad 245 0)
   |none=>.bad 246 0)
  |_=>.bad 247 0)
theorem qft(hE:XOk P E)(hH:HRel LM hp H){d:SV}:qbw E hp t d f=.ok ρ→zR ρ f id (match d with
   |.mp id=>rClearMap (qz P t) H (.mp id)
   |x=>rClear P t H x):=by
 intro h;unfold qbw at h;split at h
 ·rename_i ht
  obtain⟨⟨_,_,_,h1⟩,⟨_,_,_,h2⟩,h3,h4,h5⟩:=hE.sls _ _ _ _ ht;unfold qdj at h;split at h
  ·split at h
   ·rename_i hb
    obtain⟨q1,h⟩:=qa h;obtain⟨q2,h⟩:=qa h;obtain⟨q3,h⟩:=qa h;obtain⟨q4,h⟩:=qa h;obtain⟨q5,h⟩:=qa h;rw[qT]at h;simp only[rClear,h1,h2,hH.cells hb];exact kW h rfl ⟨xa7 q1,xa6 q2,xa6 q3,q4,xa7 q5⟩ ⟨rfl,rfl⟩
   ·cases h
  ·split at h
   ·rename_i hb
    obtain⟨q1,p1⟩:=qa h;obtain⟨q2,p2⟩:=qa p1;obtain⟨q3,p3⟩:=qa p2;obtain⟨q4,p4⟩:=qa p3;obtain⟨q5,p5⟩:=qa p4;rw[qT]at p5;obtain⟨row,hb',hr⟩:=hH.rows hb;have q2:=xa6 q2;rw[q2]at hb' hr;simp only[rClear,h1,h2,hb'];exact kW p5 rfl ⟨xa6 q1,trivial,xa6 q3,xa7 q4,q5⟩ ⟨rfl,rfl,rfl,hr.clr (xa7 q4)⟩
   ·cases h
  ·split at h
   ·rename_i hb
    obtain⟨q1,p1⟩:=qa h;obtain⟨q2,p2⟩:=qa p1;obtain⟨q3,p3⟩:=qa p2;obtain⟨q4,p4⟩:=qa p3;obtain⟨q5,p5⟩:=qa p4;rw[qT]at p5;obtain⟨row,hb',hr⟩:=hH.rows hb;have q2:=xa6 q2;rw[q2]at hb' hr;simp only[rClear,h1,h2,hb'];exact kW p5 rfl ⟨xa6 q1,trivial,xa6 q3,xa7 q4,q5⟩ ⟨rfl,rfl,rfl,hr.clrq (xa7 q4)⟩
   ·cases h
  ·cases h
 ·cases h
 ·split at h
  ·split at h
   ·rename_i mi hm
    split at h
    ·rename_i ag ls es hb
     obtain⟨dom,get,g1,g2⟩:=hH.map hb;simp only[rClearMap,hE.mps _ _ hm,g1];exact kW h rfl trivial ⟨rfl,λu=>⟨rfl,λs hs=>by cases hs⟩⟩
    ·cases h
   ·cases h
  ·cases h
def qhY(s:SV)(g:Value→R):R:=
 match keyV s with
 |some v=>g v
 |none=>.bad 400 0
theorem VW{g:Value→R}(h:qhY s g=.ok ρ):∃v,keyV s=some v∧g v=.ok ρ:=by
 unfold qhY at h;split at h
 ·rename_i v hv;exact⟨v,hv,h⟩
 ·cases h
def qhZ(hp:Tr 6 XB)(x:SV)(mi:jV)(g:Nat→List (Value×Option SV)→R):R:=
 match x with
 |.mp id=>(match hp.find id with
  |some (.map ag ls es)=>ql 401 (decide (mi.ag=ag)) (ql 402 (qmW mi.ls ls) (g id es))
  |_=>.bad 403 0)
 |_=>.bad 404 0
theorem VX(hH:HRel LM hp H){mi:jV}{g:Nat→List (Value×Option SV)→R}(h:qhZ hp x mi g=.ok ρ):∃id es dom get,x=.mp id∧blk H id=some (.map (qk mi.ag mi.ls) dom get)∧(∀k,dom k=(kw es k).isSome∧∀s,kw es k=some s→get k=s)∧g id es=.ok ρ:=by
 unfold qhZ at h;split at h
 ·split at h
  ·rename_i ag ls es hb
   obtain⟨q1,p1⟩:=qa h;obtain⟨q2,p2⟩:=qa p1;obtain⟨dom,get,h1,h2⟩:=hH.map hb;rw[←of_decide_eq_true q1,←qcL q2]at h1;exact⟨_,_,_,_,rfl,h1,h2,p2⟩
  ·cases h
 ·cases h
def qia(z:SV)(o:Option SV)(ok:Bool)(f:XR→R):R:=
 match o with
 |some s=>Bool.rec (f (.pure s)) (f (.pure (.tup [s,.val (.bool true)]))) ok
 |none=>Bool.rec (f (.pure z)) (f (.pure (.tup [z,.val (.bool false)]))) ok
def KH(E:XE)(hp:Tr 6 XB)(t:TypeId)(x k:SV)(ok:Bool)(f:XR→R):R:=
 match E.mps t with
 |some mi=>qhZ hp x mi λ_ es=>qhY k λv=>ql 405 (KF mi.ag mi.ls v) (qia mi.zero (kw es v) ok f)
 |none=>.bad 406 0
theorem qbx(hE:XOk P E)(hH:HRel LM hp H){ok:Bool}(h:KH E hp t x k ok f=.ok ρ):zR ρ f id (rLookup (qz P t) H x k ok):=by
 unfold KH at h;split at h
 ·rename_i mi hm
  rw[hE.mps _ _ hm];obtain⟨i,es,dom,get,rfl,hb,hd,h⟩:=VX hH h;obtain⟨v,hv,h⟩:=VW h;obtain⟨q,h⟩:=qa h;rw[Qv]at q;obtain⟨ag,ls,z⟩:=mi;simp only[rLookup,mapOf,hb,hv];have hdv:=hd v;unfold qia at h;split at h
  ·rename_i s hs
   rw[hs]at hdv;have e1:dom v=true:=hdv.1;have e2:get v=s:=hdv.2 s rfl;rw[e1,e2];cases ok
   ·exact qf rfl ⟨trivial,q⟩ h
   ·exact qf rfl ⟨trivial,q⟩ h
  ·rename_i hs
   rw[hs]at hdv;have e1:dom v=false:=hdv.1;rw[e1];cases ok
   ·exact qf rfl ⟨trivial,q⟩ h
   ·exact qf rfl ⟨trivial,q⟩ h
 ·cases h
def KI(E:XE)(hp:Tr 6 XB)(t:TypeId)(m k x:SV)(f:XR→R):R:=
 match E.mps t with
 |some mi=>qhZ hp m mi λi es=>qhY k λv=>ql 407 (KF mi.ag mi.ls v) (f (.upd i (.map mi.ag mi.ls ((v,some x) :: es)) undefSV))
 |none=>.bad 409 0
theorem GN(hE:XOk P E)(hH:HRel LM hp H){m:SV}(h:KI E hp t m k x f=.ok ρ):zR ρ f id (rUpdate (qz P t) H m k x):=by
 unfold KI at h;split at h
 ·rename_i mi hm
  rw[hE.mps _ _ hm];obtain⟨i,es,dom,get,rfl,hb,hd,h⟩:=VX hH h;obtain⟨v,hv,h⟩:=VW h;obtain⟨q,h⟩:=qa h;rw[Qv]at q;obtain⟨ag,ls,z⟩:=mi;simp only[rUpdate,hb,hv];refine kW h rfl ⟨trivial,q,trivial⟩ ⟨rfl,λu=>?_⟩;rw[zK];unfold qD qC;cases e:eqK v u with
  |true=>exact⟨rfl,λs hs=>by rw[if_pos rfl]at hs;cases hs;rfl⟩
  |false=>
   rw[if_neg Ωd,xf4];exact⟨(hd u).1,λs hs=>(hd u).2 s hs⟩
 ·cases h
def VY(E:XE)(hp:Tr 6 XB)(t:TypeId)(m k:SV)(f:XR→R):R:=
 match E.mps t with
 |some mi=>qhZ hp m mi λi es=>qhY k λv=>ql 410 (KF mi.ag mi.ls v) (f (.upd i (.map mi.ag mi.ls ((v,none) :: es)) undefSV))
 |none=>.bad 411 0
theorem qby(hE:XOk P E)(hH:HRel LM hp H){m:SV}(h:VY E hp t m k f=.ok ρ):zR ρ f id (rDelete (qz P t) H m k):=by
 unfold VY at h;split at h
 ·rename_i mi hm
  rw[hE.mps _ _ hm];obtain⟨i,es,dom,get,rfl,hb,hd,h⟩:=VX hH h;obtain⟨v,hv,h⟩:=VW h;obtain⟨q,h⟩:=qa h;rw[Qv]at q;obtain⟨ag,ls,z⟩:=mi;simp only[rDelete,hb,hv];refine kW h rfl ⟨trivial,q⟩ ⟨rfl,λu=>?_⟩;rw[zK];unfold ki;cases e:eqK v u with
  |true=>exact⟨rfl,λs hs=>by rw[if_pos rfl]at hs;cases hs⟩
  |false=>
   rw[if_neg Ωd,Bool.not_false,xf0];exact⟨(hd u).1,λs hs=>(hd u).2 s hs⟩
 ·cases h
def Zi(E:XE)(t:TypeId)(rs:Bool)(id:Nat)(f:XR→R):R:=
 match E.mps t with
 |some mi=>ql 412 (!rs) (f (.new (.map mi.ag mi.ls []) (.mp id)))
 |none=>.bad 413 0
theorem YG(hE:XOk P E){rs:Bool}(h:Zi E t rs id f=.ok ρ):zR ρ f id (rMakeMap (qz P t) rs):=by
 unfold Zi at h;split at h
 ·rename_i mi hm
  rw[hE.mps _ _ hm];obtain⟨q,h⟩:=qa h;obtain⟨ag,ls,z⟩:=mi;cases rs
  ·exact jn h rfl trivial ⟨rfl,λk=>⟨rfl,λs hs=>by cases hs⟩⟩ rfl
  ·cases q
 ·cases h
def qx(F:Tr 3 SV)(t:Nat):SV:=Option.rec .top (λs=>s) (F.find t)
def FRel(fr:Tr 3 SV)(F:List (Nat×SV)):Prop:=∀t,look F t=qx fr t
def FRelF(fr:Tr 3 SV)(F:Nat→SV):Prop:=∀t,F t=qx fr t
theorem FRel.fn{F:List (Nat×SV)}(h:FRel fr F):FRelF fr (look F):=h
def zb(F:Tr 3 SV)(x:Operand):SV:=Operand.rec (λt=>qx F t) (λv=>.val v) (λ_=>.top) (λf=>.fn (.func f) [] []) x
theorem FRelF.env(h:FRelF fr F)(x:Operand):env F x=zb fr x:=by cases x<;>first|exact h _|rfl
def wD(F:Tr 3 SV):List Operand→List SV
 |[]=>[]
 |x :: l=>zb F x :: wD F l
theorem FRelF.envs{fr:Tr 3 SV}{F:Nat→SV}(h:FRelF fr F):∀l:List Operand,envs F l=wD fr l
 |[]=>rfl
 |x :: l=>by rw[Sx.envs,wD,h.env,FRelF.envs h l]
def YH(F:Tr 3 SV):List (Nat×Operand)→List (Nat×SV)
 |[]=>[]
 |x :: l=>(x.1,zb F x.2) :: YH F l
theorem FRelF.envp{fr:Tr 3 SV}{F:Nat→SV}(h:FRelF fr F):∀l:List (Nat×Operand),envp F l=YH fr l
 |[]=>rfl
 |x :: l=>by rw[Sx.envp,YH,h.env,FRelF.envp h l]
def Zj(E:XE)(hp:Tr 6 XB)(b:Builtin)(ts:List TypeId)(args:List SV)(id:Nat)(f:XR→R):R:=
 match b with
 |.len=>(match args,ts with|[x],[t]=>qfq E t x f|_,_=>.bad 230 0)
 |.append=>(match args,ts with|[s,x],[t,t']=>ql 231 (Nat.beq t t') (Zg E hp t s x id f)|_,_=>.bad 232 0)
 |.min=>qkH false args f
 |.max=>qkH true args f
 |.copy=>(match args,ts with|[d,x],[t,t']=>qhV E hp t d x f|_,_=>.bad 233 0)
 |.clear=>(match args,ts with|[d],[t]=>qbw E hp t d f|_,_=>.bad 234 0)
 |.delete=>(match args,ts with|[m,k],[t,t']=>VY E hp t m k f|_,_=>.bad 238 0)
 |_=>.bad 235 0
def vH(E:XE)(fr:Tr 3 SV)(hp:Tr 6 XB)(c:Call)(id:Nat)(f:XR→R):R:=
 match c.callee with
 |.value x=>(match zb fr x with
  |.fn (.func g) first caps=>yW (first++(wD fr c.args.toList++caps)) λl=>f (.call g l)
  |.yld y=>yW (wD fr c.args.toList) λl=>f (.yield y l)
  |_=>.bad 236 0)
 |.builtin b=>Zj E hp b c.argTypes.toList (wD fr c.args.toList) id f
 |_=>.bad 237 0
theorem GO{l:List Operand}(h:Sx.envs F l=[s,x]):∃a b,l=[a,b]∧s=Sx.env F a∧x=Sx.env F b:=by
 match l,h with
 |[a,b],h=>simp only[Sx.envs,List.cons.injEq,and_true]at h;exact⟨a,b,rfl,h.1.symm,h.2.symm⟩
 |[],h=>cases h
 |[a],h=>simp[Sx.envs]at h
 |a :: b :: c :: l,h=>simp[Sx.envs]at h
theorem YI{l:List Operand}(h:Sx.envs F l=[s]):∃a,l=[a]∧s=Sx.env F a:=by
 match l,h with
 |[a],h=>simp only[Sx.envs,List.cons.injEq,and_true]at h;exact⟨a,rfl,h.symm⟩
 |[],h=>cases h
 |a :: b :: l,h=>simp[Sx.envs]at h
theorem qib(hE:XOk P E)(hF:FRelF fr F)(hH:HRel LM hp H){c:Call}(h:vH E fr hp c id f=.ok ρ):zR ρ f id (rCall P F H c):=by
 unfold vH at h;split at h
 ·rename_i x hc
  simp only[rCall,hc,hF.env,hF.envs];split at h
  ·rename_i hx
   rw[kd]at h;rw[hx];exact qfk rfl h
  ·rename_i hx
   rw[kd]at h;rw[hx];exact qbr rfl h
  ·cases h
 ·rename_i b hc
  rw[←hF.envs]at h;unfold Zj at h;split at h
  ·split at h
   ·rename_i ha ht
    obtain⟨a,e,rfl⟩:=YI ha;simp only[rCall,hc,e,ht];exact qkG hE h
   ·cases h
  ·split at h
   ·rename_i ha ht
    obtain⟨a,b,e,rfl,rfl⟩:=GO ha;obtain⟨q,h⟩:=qa h;have q:=xa6 q;simp only[rCall,hc,e,ht,if_pos q];exact qbt hE hH h
   ·cases h
  ·simp only[rCall,hc]
   exact qda h
  ·simp only[rCall,hc]
   exact qda h
  ·split at h
   ·rename_i ha ht
    obtain⟨a,b,e,rfl,rfl⟩:=GO ha;simp only[rCall,hc,e,ht];exact qhX hE hH h
   ·cases h
  ·split at h
   ·rename_i ha ht
    obtain⟨a,e,rfl⟩:=YI ha;simp only[rCall,hc,e,ht];exact qft hE hH h
   ·cases h
  ·split at h
   ·rename_i ha ht
    obtain⟨a,b,e,rfl,rfl⟩:=GO ha;simp only[rCall,hc,e,ht];exact qby hE hH h
   ·cases h
  ·cases h
 ·cases h
def qkJ(fr:Tr 3 SV):Option Operand→Option SV
 |none=>none
 |some x=>some (zb fr x)
theorem FRelF.opt(h:FRelF fr F)(o:Option Operand):o.map (Sx.env F)=qkJ fr o:=by
 cases o
 ·rfl
 ·show some _=some _;rw[h.env]
def xOp(E:XE)(fr:Tr 3 SV)(hp:Tr 6 XB)(id:Nat)(op:Op)(f:XR→R):R:=
 match op with
 |.move x=>Za (zb fr x) f
 |.assign x=>Za (zb fr x) f
 |.pick c a b=>qcR (zb fr c) (zb fr a) (zb fr b) f
 |.alloc t=>VR E t id f
 |.box t x=>qkD E t (zb fr x) id f
 |.load t x=>Yy E hp t (zb fr x) f
 |.store t a x=>GJ E hp t (zb fr a) (zb fr x) f
 |.nilCheck x=>qhM (zb fr x) f
 |.binOp op t x y _=>qbs E op t (zb fr x) (zb fr y) f
 |.unOp op _ x=>xUn op (zb fr x) f
 |.convert s t x=>qcQ E s t (zb fr x) f
 |.makeFunc g fs cs=>yW (wD fr fs.toList) λa=>yW (wD fr cs.toList) λb=>f (.pure (.fn g a b))
 |.fieldAddr t x i=>j7 E t (zb fr x) i f
 |.field t x i=>VS E t (zb fr x) i f
 |.indexAddr t x i=>wr E t (zb fr x) (zb fr i) f
 |.extract x i=>Ze (zb fr x) i f
 |.call c=>vH E fr hp c id f
 |.build t ps=>qbv E t (YH fr ps.toList) f
 |.buildSlice t len ps=>yh E t len (YH fr ps.toList) id f
 |.makeSlice t l c=>qhQ E t (zb fr l) (zb fr c) id f
 |.slice t x lo hi mx=>qbu E t (zb fr x) (qkJ fr lo) (qkJ fr hi) (qkJ fr mx) f
 |.index t x i=>VT E t (zb fr x) (zb fr i) f
 |.makeMap t rs=>Zi E t rs.isSome id f
 |.lookup t x k ok=>KH E hp t (zb fr x) (zb fr k) ok f
 |.mapUpdate t m k x=>KI E hp t (zb fr m) (zb fr k) (zb fr x) f
 |.insert t m k x=>KI E hp t (zb fr m) (zb fr k) (zb fr x) f
 |.mapEntry _ _ _=>.bad 241 0
 |.entryStore _ _ _ _=>.bad 242 0
 |.range _ _=>.bad 243 0
 |.next _ _=>.bad 244 0
 |.entry _=>.bad 245 0
 |_=>.bad 240 0
theorem qbz(hE:XOk P E)(hF:FRelF fr F)(hH:HRel LM hp H){op:Op}(h:xOp E fr hp id op f=.ok ρ):zR ρ f id (stepR P F H op):=by
 cases op<;>simp only[xOp,reduceCtorEq]at h<;>simp only[stepR,hF.env,hF.envs,hF.envp,hF.opt]
 case move x=>rw[kX]at h;exact qf rfl trivial h
 case assign x=>rw[kX]at h;exact qf rfl trivial h
 case pick=>exact qhL h
 case alloc=>exact qfm hE h
 case box=>exact qkE hE h
 case load=>exact Yz hE hH h
 case store=>exact qfn hE hH h
 case nilCheck=>exact qkF h
 case binOp=>exact qkC hE h
 case unOp=>exact qmY h
 case convert=>exact qhK hE h
 case makeFunc=>rw[kd,kd]at h;exact qf rfl trivial h
 case fieldAddr=>exact Jr hE h
 case field=>exact qfo hE h
 case indexAddr=>exact Jt hE h
 case extract=>exact YB h
 case call=>exact qib hE hF hH h
 case build=>exact qfs hE h
 case buildSlice=>exact GM hE h
 case makeSlice=>exact qhR hE h
 case slice=>exact qfr hE h
 case index=>exact qfp hE h
 case makeMap=>exact YG hE h
 case lookup=>exact qbx hE hH h
 case mapUpdate=>exact GN hE hH h
 case insert=>exact GN hE hH h
end
end
end Go.Sx
end
