/- A part of the proof. -/
import Derived.Test.YtacejomniokahaaGreatProg
import Derived.Test.YtacejomniokahaaGreatPH
import Derived.Test.YtacejomniokahaaGreatPC
import Derived.Test.YtacejomniokahaaGreatPG
import Derived.Test.YtacejomniokahaaGreatPE
open Nat renaming reduceMul→xa0,reduceAdd→xa1,reduceEqDiff→xa2,reduceLT→xa3,reduceLeDiff→xa4,le_refl→xa5,eq_of_beq_eq_true→xa6,le_of_ble_eq_true→xa7,lt_of_lt_of_le→xa9,zero_add→xb0,add_zero→xb1,add_assoc→xb2,lt_succ_self→xb5,zero_le→xb6,sub_self→xb8,le_trans→xc1
open List renaming getD_eq_getElem?_getD→xc6,getElem?_eq_getElem→xc7,getElem?_append_left→xc9,getElem?_append_right→xd0,append_nil→xd3,mem_cons_self→xd5,getElem?_cons_zero→xd6,getElem?_cons_succ→xd7,length_take→xd9
open Bool renaming and_eq_true→xe6,true_and→xf0
open Array renaming getD_eq_getD_getElem?→xf5,getElem?_toList→xf6
open Classical renaming byContradiction→xf9
set_option linter.unusedVariables false
set_option linter.unusedSimpArgs false
set_option linter.defProp false
set_option maxRecDepth 1000000
set_option maxHeartbeats 16000000
section
namespace Go.Tn
open Go.Proofs
open Go.Sx
theorem Q2(u:Nat→Int):∀k,ixF u zS k=0
 |0=>rfl
 |k+1=>by rw[wg,Q2 u k];show 0*_+(0:Int)=0;omega
theorem qcW{u:Nat→Int}{m:Nat}(hu:∀i,i<m→1≤u i∧u i≤12):kp (qH u m ((0:Nat):Int) 0) 0=kp zS 0:=by
 have h:∀i,qH u m ((0:Nat):Int) 0 i=zS i:=fun i=>by
  unfold qH;split
  ·rfl
  ·have:=qhI (u:=u) (s:=zS) m (fun i hi=>by have:=hu i hi;show 0≤(0:Int)∧(0:Int)≤u i;omega) i Ω
   rw[Q2]at this;exact this
 unfold kp;rw[h,h,h,h,h]
theorem qnY{u:Nat→Int}{m N:Nat}(hu:∀i,i<m→1≤u i∧u i≤12)(hN:prd u m=(N:Nat))(i x:Nat)(hi:i<N)(hx:x∈nxL u m i):x<N:=by
 obtain⟨j,hj,e⟩:=List.getElem_of_mem hx;have:=(qhJ (fun i hi=>(hu i hi).1) (by rw[hN];omega) (show(nxL u m i)[j]? = some x by rw[xc7 hj,e])).2.1;rw[hN]at this;omega
theorem qoR(m:Nat)(u:Nat→Int)(hk:ckH m u=0)(N:Nat)(hN:prd u m=(N:Nat))(F:Nat→Int)(hFx:Fx N (fun i=>(nxL u m i).length) (fun i j=>(nxL u m i).getD j 0) F)(h0:¬F 0<0):qb Tryz.prog 13 [hsv m u] (.tup [.val (.slice none 0 0),I 17]):=by
 refine qc Tryz.func13 rfl Ωb follows Ωb _ _ (by rw[Tryz.ntmps13];simp) Ωy ?_;obtain⟨hm1,hm5,hu,hpr⟩:=vb hk;have NB:True:=trivial;have h70:=c70 m u Ω;rw[hk]at h70;have h71:=fun id rest hr=>e71 m u hk N hN F hFx id rest hr;have hN1:=(Zx hu m (xa5 _)).1;rw[hN]at hN1;unfold hsv at *;(repeat' (first|refine sD ?_ ?_<;>intro _|refine aAi ?_|(simp -dsimp only[↓RP,RQ,xa0,reduceIte,reduceCtorEq,xa1,xa2,xa3,xa4,↓RY,TYX,TYZ,NB,QR,QT,QN])))
 all_goals try exact Ωa
 refine qi (h70) Ωm Ωc ?_;(repeat' (first|refine sD ?_ ?_<;>intro _|refine aAi ?_|(simp -dsimp only[↓RP,RQ,xa0,reduceIte,reduceCtorEq,xa1,xa2,xa3,xa4,QT,↓RY,TYX,TYZ,NB,QR,QN])))
 all_goals try exact Ωa
 refine jS (by rfl) (h71 _ _ (fun q v hv=>by simp only[blk]at hv;split at hv<;>first|omega|cases hv)) fun hp' nid' res hQ=>?_;obtain⟨tb,sid,xid,rid,mid,nx,dom,get,rfl,hn',hcl,hmid,hget,hdom⟩:=hQ;(repeat' (first|refine sD ?_ ?_<;>intro _|refine aAi ?_|(simp -dsimp only[↓RP,RQ,xa0,reduceIte,reduceCtorEq,xa1,xa2,xa3,xa4,↓RY,TYX,TYZ,NB,QR,QT,QN])))
 all_goals try exact Ωa
 have h72:=fun id hU hid=>e72 hp' id tb mid m 0 u zS false false (fun i _=>.val (.int .i64 (u i))) hU (fun i _=>rfl) (.vec sid N 5) (.vec xid N 1) (.vec rid N 1) hm5 hu (fun i hi=>by have:=hu i hi;show 0≤(0:Int)∧(0:Int)≤u i;omega) (Q2 u m) hid hcl.tb dom get hmid hget;have hd0:dom (kp zS 0)=false:=by
  have:=hdom 0 Ω;rw[qcW hu]at this;rw[this];exact decide_eq_false h0
 unfold stL zS at h72;unfold zS at hd0;refine jS (by rfl) (h72 _ (hcl.und.mono Ω) (by have:=hcl.und _ _ hcl.tb;omega)) fun hp2 nid2 res hQ=>?_;obtain⟨rfl,hn2,rfl⟩:=hQ;(repeat' (first|refine sD ?_ ?_<;>intro _|refine aAi ?_|(simp -dsimp only[↓RP,RQ,xa0,reduceIte,reduceCtorEq,xa1,xa2,xa3,xa4,hd0,↓RY,TYX,TYZ,NB,QR,QT,QN])))
 all_goals try exact Ωa
theorem qoS(m:Nat)(u:Nat→Int)(hk:ckH m u=0)(N:Nat)(hN:prd u m=(N:Nat))(F:Nat→Int)(hFx:Fx N (fun i=>(nxL u m i).length) (fun i j=>(nxL u m i).getD j 0) F)(h0:F 0<0)(best:List Nat)(hb:yO (nxL u m) N (N+2) (N+2) N 0 []=some best)(hb1:1≤best.length)(hbN:best.length≤N):qb Tryz.prog 13 [hsv m u] (.tup [.arr true false best.length 1 (fun i _=>.val (.int .i64 (best.getD i 0:Nat))),I 0]):=by
 refine qc Tryz.func13 rfl Ωb follows Ωb _ _ (by rw[Tryz.ntmps13];simp) Ωy ?_;obtain⟨hm1,hm5,hu,hpr⟩:=vb hk;have NB:True:=trivial;have h70:=c70 m u Ω;rw[hk]at h70;have h71:=fun id rest hr=>e71 m u hk N hN F hFx id rest hr;have hN1:=(Zx hu m (xa5 _)).1;rw[hN]at hN1;unfold hsv at *;(repeat' (first|refine sD ?_ ?_<;>intro _|refine aAi ?_|(simp -dsimp only[↓RP,RQ,xa0,reduceIte,reduceCtorEq,xa1,xa2,xa3,xa4,↓RY,TYX,TYZ,NB,QR,QT,QN])))
 all_goals try exact Ωa
 refine qi (h70) Ωm Ωc ?_;(repeat' (first|refine sD ?_ ?_<;>intro _|refine aAi ?_|(simp -dsimp only[↓RP,RQ,xa0,reduceIte,reduceCtorEq,xa1,xa2,xa3,xa4,QT,↓RY,TYX,TYZ,NB,QR,QN])))
 all_goals try exact Ωa
 refine jS (by rfl) (h71 _ _ (fun q v hv=>by simp only[blk]at hv;split at hv<;>first|omega|cases hv)) fun hp' nid' res hQ=>?_;obtain⟨tb,sid,xid,rid,mid,nx,dom,get,rfl,hn',hcl,hmid,hget,hdom⟩:=hQ;(repeat' (first|refine sD ?_ ?_<;>intro _|refine aAi ?_|(simp -dsimp only[↓RP,RQ,xa0,reduceIte,reduceCtorEq,xa1,xa2,xa3,xa4,↓RY,TYX,TYZ,NB,QR,QT,QN])))
 all_goals try exact Ωa
 have h72:=fun id hU hid=>e72 hp' id tb mid m 0 u zS false false (fun i _=>.val (.int .i64 (u i))) hU (fun i _=>rfl) (.vec sid N 5) (.vec xid N 1) (.vec rid N 1) hm5 hu (fun i hi=>by have:=hu i hi;show 0≤(0:Int)∧(0:Int)≤u i;omega) (Q2 u m) hid hcl.tb dom get hmid hget;have hd0:dom (kp zS 0)=true:=by
  have:=hdom 0 Ω;rw[qcW hu]at this;rw[this];exact decide_eq_true h0
 unfold stL zS at h72;unfold zS at hd0;refine jS (by rfl) (h72 _ (hcl.und.mono Ω) (by have:=hcl.und _ _ hcl.tb;omega)) fun hp2 nid2 res hQ=>?_;obtain⟨rfl,hn2,rfl⟩:=hQ;(repeat' (first|refine sD ?_ ?_<;>intro _|refine aAi ?_|(simp -dsimp only[↓RP,RQ,xa0,reduceIte,reduceCtorEq,xa1,xa2,xa3,xa4,hd0,↓RY,TYX,TYZ,NB,QR,QT,QN])))
 all_goals try exact Ωa
 have h73:=fun H id hcl=>e73 N (nxL u m) nx H id tb xid (.arr false false m 1 (fun i _=>.val (.int .i64 (u i)))) (.vec rid N 1) (.mp mid) sid (N+2) (N+2) best hcl Ω Ω hb _ rfl;refine jS (by rfl) (h73 _ _ ⟨hcl.N5,hcl.l5,hcl.inn,hcl.tb,hcl.xid,hcl.nx,hcl.und.mono Ω⟩) fun hp3 nid3 res hQ=>?_;obtain⟨hn3,bid,r,hbid,hr,rfl,rfl⟩:=hQ;rw[qbn hb1,qhE hb1];obtain⟨hb2,hb3⟩:=hbid (fun e=>by rw[e]at hb1;exact absurd hb1 Ωi);clear NB;have NB:=nmA hb3;(repeat' (first|refine sD ?_ ?_<;>intro _|refine aAi ?_|(simp -dsimp only[↓RP,RQ,xa0,reduceIte,reduceCtorEq,xa1,xa2,xa3,xa4,↓RY,TYX,TYZ,NB,QR,QT,QN])))
 all_goals try exact Ωa
 refine⟨⟨xa5 _,.inr trivial,xa5 _,fun i j hi hj=>?_⟩,xa5 _,fun i j hi hj=>?_⟩
 ·obtain rfl:j=0:=by omega
  rw[hr i hi];rfl
 ·obtain rfl:j=0:=by omega
  rw[if_pos Ω,hr i hi]
theorem c13(m:Nat)(u:Nat→Int)(hk:ckH m u=0):qb Tryz.prog 13 [hsv m u] (.tup [.val (.slice none 0 0),I 17])∨∃k c S,Wk4 m u k c S∧k≤1000∧qb Tryz.prog 13 [hsv m u] (.tup [.arr true false k 1 (fun i _=>.val (.int .i64 (c i:Nat))),I 0]):=by
 obtain⟨hm1,hm5,hu,hpr⟩:=vb hk;obtain⟨N,hN⟩:∃N:Nat,prd u m=(N:Nat):=⟨(prd u m).toNat,by have:=Zx hu m (xa5 _);omega⟩;have hN1:=(Zx hu m (xa5 _)).1;rw[hN]at hN1 hpr;have hin:=fun i x hi hx=>qnY (N:=N) hu hN i x hi hx;obtain⟨F,hF⟩:=qeN (N:=N) (len:=fun i=>(nxL u m i).length) (to:=fun i j=>(nxL u m i).getD j 0) Ω (fun i j hi hj=>hin i _ hi (by
  rw[xc6,xc7 hj];exact List.getElem_mem _))
 by_cases h0:F 0<0
 ·right
  obtain⟨s,l,h1,h2,h3,h4⟩:=YI (L:=nxL u m) (N:=N) (G:=fun i=>F i<0) hin (fun i hi hG=>by
   have hG:F i<0:=hG;have hn:¬∀j,j<(nxL u m i).length→0≤F ((nxL u m i).getD j 0):=fun h=>by have:=(hF.ok i hi).2 h;omega
   have⟨j,hj⟩:=Classical.not_forall.1 hn;have⟨hj1,hj2⟩:=Classical.not_imp.1 hj;refine⟨_,?_,show F ((nxL u m i).getD j 0)<0 by omega⟩;rw[xc6,xc7 hj1];exact List.getElem_mem _) (a:=0) Ω h0
  obtain⟨best,hb,hR,hne⟩:=Wc (L:=nxL u m) (N:=N) hin (fun i _=>xc1 (We u m i) hm5) N 0 [] Ω (.inl rfl);have hne:=hne (.inl ⟨s,l,h1,h2,h3,h4⟩);rcases hR with h|hR
  ·exact absurd h hne
  obtain⟨S,hS⟩:=Rnd.walk hu hN Ω hR;exact⟨best.length,_,S,hS,(by have:=hR.2.1;omega),qoS m u hk N hN F hF h0 best hb (List.length_pos_iff.2 hne) hR.2.1⟩
 ·left
  exact qoR m u hk N hN F hF h0
end Go.Tn
end
section
namespace Go.Tl
open Go.Proofs
open Go.Sx
theorem follows:Tryz.prog.follows .mixedOrders=true:=by kernel_rfl
theorem TYl:qk Tryz.prog 2=some { agg:=false,size:=1,zero:=some [Value.int IntKind.i64 (0)],d:=D.int IntKind.i64 }∧qk Tryz.prog 3=some { agg:=false,size:=1,zero:=some [Value.int IntKind.i64 (0)],d:=D.int IntKind.i64 }∧qk Tryz.prog 4=some { agg:=false,size:=1,zero:=some [Value.bool false],d:=D.bool }∧qk Tryz.prog 32=some { agg:=false,size:=1,zero:=some [Value.slice none 0 0],d:=D.slice 2 1 }∧qk Tryz.prog 43=some { agg:=false,size:=1,zero:=some [Value.slice none 0 0],d:=D.slice 32 1 }:=⟨Ωb,Ωb,Ωb,Ωb,Ωb⟩
theorem by2:qD Tryz.prog 2=8:=by kernel_rfl
def I(n:Int):SV:=.val (.int .i64 n)
def ints(n:Nat)(u:Nat→Int):SV:=.arr false false n 1 (fun i _=>.val (.int .i64 (u i)))
theorem gv{a b:Int}(h:a=b):SV.val (Value.int IntKind.i64 a)=SV.val (Value.int IntKind.i64 b):=by rw[h]
def kY(f:Nat→Int):Nat→Int
 |0=>f 0
 |k+1=>min (kY f k) (f (k+1))
theorem GG(f:Nat→Int):∀m k,k≤m→kY f m≤f k
 |0,k,h=>by
   have:k=0:=by omega
   subst this;exact Int.le_refl _
 |m+1,k,h=>by
  simp only[kY];by_cases e:k=m+1
  ·subst e;omega
  ·have:=GG f m k Ω;omega
theorem GH(f:Nat→Int):∀m,∃k,k≤m∧kY f m=f k
 |0=>⟨0,xa5 _,rfl⟩
 |m+1=>by
  obtain⟨k,hk,e⟩:=GH f m;simp only[kY];by_cases h:f (m+1)≤kY f m
  ·exact⟨m+1,xa5 _,Ω⟩
  ·exact⟨k,Ω,Ω⟩
structure Curve where
 m:Nat
 u:Nat→Int
structure Curve.Fine(c:Curve):Prop where
 m1:1≤c.m
 m6:c.m≤6
 rg:∀i,i<c.m→0≤c.u i∧c.u i≤100
 up:∀i,i<c.m - 1→c.u i≤c.u (i+1)
theorem Curve.Fine.mono{c:Curve}(h:c.Fine):∀j i,i≤j→j<c.m→c.u i≤c.u j
 |0,i,hi,_=>by
   have:i=0:=by omega
   subst this;exact Int.le_refl _
 |j+1,i,hi,hj=>by
  by_cases e:i=j+1
  ·subst e;exact Int.le_refl _
  ·exact Int.le_trans (h.mono j i Ω Ω) (h.up j Ω)
def Curve.L1(c:Curve)(k:Nat):Int:=((k / c.m:Nat):Int)*c.u (c.m - 1)+(if 0<k % c.m then c.u (k % c.m - 1)else 0)
theorem qks(c:Curve):c.L1 0=0:=by unfold Curve.L1;simp
def Ls(C:Nat→Curve):Nat→Nat→Int
 |0=>(C 0).L1
 |i+1=>fun k=>kY (fun p=>Ls C i (k - p)+(C (i+1)).L1 p) k
theorem Ls_le(C:Nat→Curve)(i k p:Nat)(hp:p≤k):Ls C (i+1) k≤Ls C i (k - p)+(C (i+1)).L1 p:=
 GG (fun p=>Ls C i (k - p)+(C (i+1)).L1 p) k p hp
theorem Ls_at(C:Nat→Curve)(i k:Nat):∃p,p≤k∧Ls C (i+1) k=Ls C i (k - p)+(C (i+1)).L1 p:=
 GH (fun p=>Ls C i (k - p)+(C (i+1)).L1 p) k
def Curve.sv(c:Curve):SV:=ints c.m c.u
theorem Curve.old(c:Curve):Old c.sv:=by simp[Old,Curve.sv,ints]
theorem tdN(k m:Nat):(k:Int).tdiv (m:Int)=((k / m:Nat):Int):=rfl
theorem tmN(k m:Nat):(k:Int).tmod (m:Int)=((k % m:Nat):Int):=rfl
theorem qlF(c:Curve)(h:c.Fine)(k:Nat)(hk:k≤400):0≤((k / c.m:Nat):Int)*c.u (c.m - 1)∧((k / c.m:Nat):Int)*c.u (c.m - 1)≤40000:=by
 have h1:=h.m1;have h2:=h.rg (c.m - 1) Ω;have h3:k / c.m≤400:=xc1 (Nat.div_le_self _ _) hk;generalize k / c.m=q at h3 ⊢;have h4:((q:Nat):Int)*c.u (c.m - 1)≤((q:Nat):Int)*100:=Int.mul_le_mul_of_nonneg_left h2.2 Ω;have h5:0≤(q:Int)*c.u (c.m - 1):=Int.mul_nonneg Ω h2.1;omega
theorem qms(c:Curve)(h:c.Fine)(k:Nat)(hk:k≤400):qb Tryz.prog 172 [c.sv,I k] (I (c.L1 k)):=by
 refine qc Tryz.func172 rfl Ωb follows Ωb _ _ (by rw[Tryz.ntmps172];simp) (by simp[OldL,c.old];simp[Old,I]) ?_;have h1:=h.m1;have h6:=h.m6;have hb:=qlF c h k hk;have e1:(c.m:Int) - 1=((c.m - 1:Nat):Int):=by omega
 have hr:=Nat.mod_lt k h1;have hq:k / c.m≤400:=xc1 (Nat.div_le_self _ _) hk;have eL:c.L1 k=((k / c.m:Nat):Int)*c.u (c.m - 1)+(if 0<k % c.m then c.u (k % c.m - 1)else 0):=rfl;rw[eL];have hd:=tdN k c.m;have hm:=tmN k c.m;generalize k / c.m=q at *;generalize k % c.m=r at *;unfold I
 conv=>arg 4;unfold Curve.sv ints
 by_cases h0:0<r
 ·have e2:(r:Int) - 1=((r - 1:Nat):Int):=by omega
  have hu:=h.rg (r - 1) Ω;rw[if_pos h0];(repeat' (first|refine sD ?_ ?_<;>intro _|refine aA ?_|simp -dsimp only[↓RP,RQ,implies_true,forall_const,xa0,reduceIte,reduceCtorEq,xa1,xa2,xa3,xa4,e1,e2,hd,hm,TYl,Int.toNat_natCast,Tryz.results172]))
  all_goals first|(exfalso;omega)|(first|exact True.intro|(simp only[InK];omega)|omega|(simp only[InK,ne_eq,and_true,true_and];omega)|trivial)|skip
 ·rw[if_neg h0]
  (repeat' (first|refine sD ?_ ?_<;>intro _|refine aA ?_|simp -dsimp only[↓RP,RQ,implies_true,forall_const,xa0,reduceIte,reduceCtorEq,xa1,xa2,xa3,xa4,e1,hd,hm,TYl,Int.toNat_natCast,Tryz.results172]))
  all_goals first|(exfalso;omega)|(refine gv ?_;omega)|(first|exact True.intro|(simp only[InK];omega)|omega|(simp only[InK,ne_eq,and_true,true_and];omega)|trivial)|skip
def chn(n:Nat)(C:Nat→Curve):SV:=.arr false false n 1 (fun i _=>.arr false false (C i).m 1 (fun j _=>.val (.int .i64 ((C i).u j))))
theorem qcX(n:Nat)(C:Nat→Curve):Old (chn n C):=by simp[Old,chn]
theorem vz(c:Curve)(h:c.Fine)(k:Nat)(hk:k≤400):0≤c.L1 k∧c.L1 k≤50000:=by
 have hb:=qlF c h k hk;have h1:=h.m1;have hr:=Nat.mod_lt k h1;unfold Curve.L1;split
 ·have:=h.rg (k % c.m - 1) Ω;omega
 ·omega
theorem YJ(C:Nat→Curve):∀i,(∀j,j≤i→(C j).Fine)→∀k,k≤400→0≤Ls C i k∧Ls C i k≤50000
 |0,h,k,hk=>vz _ (h 0 Ω) k hk
 |i+1,h,k,hk=>by
  obtain⟨p,hp,e⟩:=Ls_at C i k;have h1:=YJ C i (fun j hj=>h j Ω);have h2:=Ls_le C i k 0 (xb6 _);rw[qks,Nat.sub_zero]at h2;have h3:=h1 (k - p) Ω;have h4:=h1 k hk;have h5:=vz _ (h (i+1) Ω) p Ω;omega
def z1(f:Nat→Int)(k j:Nat):Int:=if j<k then f j else 0
theorem qcY(f:Nat→Int)(j:Nat):z1 f 0 j=0:=by unfold z1;rw[if_neg Ω]
theorem qbr(f:Nat→Int)(k a:Nat):(if a=k then SV.val (.int .i64 (f k))else .val (.int .i64 (z1 f k a)))=.val (.int .i64 (z1 f (k+1) a)):=by
 unfold z1;by_cases e:a=k
 ·subst e;rw[if_pos rfl,if_pos Ω]
 ·rw[if_neg e]
  by_cases h:a<k
  ·rw[if_pos h,if_pos Ω]
  ·rw[if_neg h,if_neg Ω]
theorem Wf(f:Nat→Int)(k a:Nat)(h:a<k):z1 f k a=f a:=by unfold z1;rw[if_pos h]
theorem qoT(last:Nat)(hl:last≤1000000)(f:FuncId)(first caps:List SV)(hf:OldL first)(hc:OldL caps)(g:Nat→Int)(hg:∀k,k≤last→qb Tryz.prog f (first++I k :: caps) (I (g k))) :
  qb Tryz.prog 179 [I last,.fn (.func f) first caps] (I (kY g last)):=by
 refine qc Tryz.func179 rfl Ωb follows Ωb _ _ (by rw[Tryz.ntmps179];simp) (by simp only[OldL,Old,I,hf,hc,and_self]) ?_;unfold I;(repeat' (first|refine sD ?_ ?_<;>intro _|refine aA ?_|simp -dsimp only[↓RP,RQ,implies_true,forall_const,xa0,reduceIte,reduceCtorEq,xa1,xa2,xa3,xa4,TYl,Tryz.results179]));refine vV (hg 0 (xb6 _)) (subL_refl _ (JM hf hc)) ?_;(repeat' (first|refine sD ?_ ?_<;>intro _|refine aA ?_|simp -dsimp only[↓RP,RQ,implies_true,forall_const,xa0,reduceIte,reduceCtorEq,xa1,xa2,xa3,xa4,I,TYl,Tryz.results179]));refine qj (fun(k:Nat)=>k≤last) (fun k=>⟨[(0,.val (.int .i64 last)),(1,.fn (.func f) first caps),(5,.val (.int .i64 (kY g k))),(6,.val (.int .i64 ((k:Int)+1)))],[],0⟩) (fun k=>last - k) 0 (xb6 _) (weak [] [] ?_ ?_ ?_) fun k hk=>?_
 ·(simp -dsimp only[↓RP,RQ,implies_true,forall_const,xa0,reduceIte,reduceCtorEq,xa1,xa2,xa3,xa4,kY]);all_goals (try simp)
  exact⟨wkL_refl _ hf,wkL_refl _ hc⟩
 ·(simp -dsimp only[↓RP,RQ,implies_true,forall_const,xa0,reduceIte,reduceCtorEq,xa1,xa2,xa3,xa4])
 ·(simp -dsimp only[↓RP,RQ,implies_true,forall_const,xa0,reduceIte,reduceCtorEq,xa1,xa2,xa3,xa4])
 by_cases hlt:k<last
 ·have eP:(k:Int)+1=((k+1:Nat):Int):=by omega
  (repeat' (first|refine sD ?_ ?_<;>intro _|refine aA ?_|simp -dsimp only[↓RP,RQ,implies_true,forall_const,xa0,reduceIte,reduceCtorEq,xa1,xa2,xa3,xa4,eP,TYl,Tryz.results179]))
  all_goals first|(exfalso;omega)|skip
  refine vV (hg (k+1) hlt) (subL_refl _ (JM hf hc)) ?_;(repeat' (first|refine sD ?_ ?_<;>intro _|refine aA ?_|simp -dsimp only[↓RP,RQ,implies_true,forall_const,xa0,reduceIte,reduceCtorEq,xa1,xa2,xa3,xa4,I,eP,TYl,Tryz.results179]))
  all_goals first|(exfalso;omega)|skip
  refine⟨k+1,hlt,Ω,weak [] [] ?_ ?_ ?_⟩
  ·(simp -dsimp only[↓RP,RQ,implies_true,forall_const,xa0,reduceIte,reduceCtorEq,xa1,xa2,xa3,xa4,kY]);all_goals (try simp)
   exact⟨wkL_refl _ hf,wkL_refl _ hc⟩
  ·(simp -dsimp only[↓RP,RQ,implies_true,forall_const,xa0,reduceIte,reduceCtorEq,xa1,xa2,xa3,xa4])
  ·(simp -dsimp only[↓RP,RQ,implies_true,forall_const,xa0,reduceIte,reduceCtorEq,xa1,xa2,xa3,xa4])
 ·have hke:k=last:=by omega
  subst hke;(repeat' (first|refine sD ?_ ?_<;>intro _|refine aA ?_|simp -dsimp only[↓RP,RQ,implies_true,forall_const,xa0,reduceIte,reduceCtorEq,xa1,xa2,xa3,xa4,TYl,Tryz.results179]))
  all_goals first|(exfalso;omega)|skip
theorem qoU(N:Nat)(f:Nat→Int)(c:Curve)(h:c.Fine)(k p:Nat)(hk:k<N)(hN:N≤401)(hp:p≤k)(hf:∀j,j≤k→0≤f j∧f j≤1000000) :
  qb Tryz.prog 284 [I p,.ref false 1 (fun _=>ints N f),.ref false 1 (fun _=>I k),.ref false 1 (fun _=>c.sv)] (I (f (k - p)+c.L1 p)):=by
 refine qc Tryz.func284 rfl Ωb follows Ωb _ _ (by rw[Tryz.ntmps284];simp) (by simp only[OldL,Old,c.old,I];simp[Old,ints]) ?_;have b1:=vz c h p Ω;have b2:=hf (k - p) Ω;have er:(k:Int) -(p:Int)=((k - p:Nat):Int):=by omega
 unfold I
 conv=>arg 4;unfold Curve.sv ints
 (repeat' (first|refine sD ?_ ?_<;>intro _|refine aA ?_|simp -dsimp only[↓RP,RQ,implies_true,forall_const,xa0,reduceIte,reduceCtorEq,xa1,xa2,xa3,xa4,er,TYl,Int.toNat_natCast,Tryz.results284]))
 all_goals first|(exfalso;omega)|skip
 refine qi (qms c h p Ω) Ωn Ωj ?_;(repeat' (first|refine sD ?_ ?_<;>intro _|refine aA ?_|simp -dsimp only[↓RP,RQ,implies_true,forall_const,xa0,reduceIte,reduceCtorEq,xa1,xa2,xa3,xa4,I,er,TYl,Int.toNat_natCast,Tryz.results284]))
 all_goals (first|exact True.intro|(simp only[InK];omega)|omega|(simp only[InK,ne_eq,and_true,true_and];omega)|trivial)
theorem c178(n:Nat)(C:Nat→Curve)(n1:1≤n)(n3:n≤3)(hC:∀i,i<n→(C i).Fine)(turns:Nat)(ht:turns≤400):zd Tryz.prog 178 [chn n C,I turns] (.rows 2 1 (turns+1) (fun j _=>I (Ls C (n - 1) j))) (.vec 0 (turns+1) 1):=by
 refine jv Tryz.func178 rfl Ωb follows Ωb _ _ _ (by rw[Tryz.ntmps178];simp) (by simp only[OldL,qcX,Old,I,and_self]) ?_;unfold I
 conv=>arg 4;unfold chn Curve.sv ints
 have eT:((turns:Int)+1).toNat=turns+1:=by omega
 (repeat' (first|refine sD ?_ ?_<;>intro _|refine aA ?_|simp -dsimp only[↓RP,RQ,implies_true,forall_const,xa0,reduceIte,reduceCtorEq,xa1,xa2,xa3,xa4,eT,by2,TYl,Int.toNat_natCast,Tryz.results178]));have eN:((n:Int) - 1).toNat=n - 1:=by omega
 refine qj (fun(k:Nat)=>k≤turns+1) (fun k=>⟨[(0,.arr false false n 1 (fun i _=>.arr false false (C i).m 1 (fun j _=>.val (.int .i64 ((C i).u j))))),(1,.val (.int .i64 turns)),(5,.ptr 61 0),(15,.val (.int .i64 ((turns+1:Nat):Int))),(16,.val (.int .i64 k))],[(61,.cells 32 [.vec 60 (turns+1) 1]),(60,.rows 2 1 (turns+1) (fun j _=>.val (.int .i64 (z1 (C 0).L1 k j))))],62⟩) (fun k=>turns+1 - k) 0 (xb6 _) (weak [(61,some 4),(60,some 3)] [] ?_ ?_ ?_) fun k hk=>?_
 ·(simp -dsimp only[↓RP,RQ,implies_true,forall_const,xa0,reduceIte,reduceCtorEq,xa1,xa2,xa3,xa4]);all_goals simp
 ·(simp -dsimp only[↓RP,RQ,implies_true,forall_const,xa0,reduceIte,reduceCtorEq,xa1,xa2,xa3,xa4,qcY]);all_goals (try simp)
 ·(simp -dsimp only[↓RP,RQ,implies_true,forall_const,xa0,reduceIte,reduceCtorEq,xa1,xa2,xa3,xa4]);all_goals simp
 by_cases hlt:k<turns+1
 ·have hL:=vz (C 0) (hC 0 Ω) k Ω
  (repeat' (first|refine sD ?_ ?_<;>intro _|refine aA ?_|simp -dsimp only[↓RP,RQ,implies_true,forall_const,xa0,reduceIte,reduceCtorEq,xa1,xa2,xa3,xa4,I,eT,eN,by2,TYl,Int.toNat_natCast,Tryz.results178]))
  all_goals first|(exfalso;omega)|skip
  refine qi (qms (C 0) (hC 0 Ω) k Ω) Ωn Ωj ?_;(repeat' (first|refine sD ?_ ?_<;>intro _|refine aA ?_|simp -dsimp only[↓RP,RQ,implies_true,forall_const,xa0,reduceIte,reduceCtorEq,xa1,xa2,xa3,xa4,I,eT,eN,by2,TYl,Int.toNat_natCast,Tryz.results178]))
  all_goals first|(exfalso;omega)|skip
  refine⟨k+1,Ω,Ω,weak [] [] ?_ ?_ ?_⟩
  ·(simp -dsimp only[↓RP,RQ,implies_true,forall_const,xa0,reduceIte,reduceCtorEq,xa1,xa2,xa3,xa4]);all_goals simp
  ·(simp -dsimp only[↓RP,RQ,implies_true,forall_const,xa0,reduceIte,reduceCtorEq,xa1,xa2,xa3,xa4]);all_goals (try simp)
   exact fun a ha=>qbr (C 0).L1 k a
  ·(simp -dsimp only[↓RP,RQ,implies_true,forall_const,xa0,reduceIte,reduceCtorEq,xa1,xa2,xa3,xa4]);all_goals simp
 ·have hke:k=turns+1:=by omega
  subst hke;(repeat' (first|refine sD ?_ ?_<;>intro _|refine aA ?_|simp -dsimp only[↓RP,RQ,implies_true,forall_const,xa0,reduceIte,reduceCtorEq,xa1,xa2,xa3,xa4,I,eT,eN,by2,TYl,Int.toNat_natCast,Tryz.results178]))
  all_goals first|(exfalso;omega)|skip
  refine qj (fun(i:Nat)=>i<n) (fun i=>⟨[(0,.arr false false n 1 (fun i _=>.arr false false (C i).m 1 (fun j _=>.val (.int .i64 ((C i).u j))))),(1,.val (.int .i64 turns)),(5,.ptr 61 0),(29,.arr false false (n - 1) 1 (fun i _=>.arr false false (C (1+i)).m 1 (fun j _=>.val (.int .i64 ((C (1+i)).u j))))),(30,.val (.int .i64 ((n - 1:Nat):Int))),(31,.val (.int .i64 i))],[(61,.cells 32 [.vec 60 (turns+1) 1]),(60,.rows 2 1 (turns+1) (fun j _=>.val (.int .i64 (Ls C i j))))],62⟩) (fun i=>n - i) 0 n1 (weak [] [] ?_ ?_ ?_) fun i hi=>?_
  ·(simp -dsimp only[↓RP,RQ,implies_true,forall_const,xa0,reduceIte,reduceCtorEq,xa1,xa2,xa3,xa4]);all_goals simp
  ·(simp -dsimp only[↓RP,RQ,implies_true,forall_const,xa0,reduceIte,reduceCtorEq,xa1,xa2,xa3,xa4]);all_goals (try simp)
   exact fun a ha=>Wf (C 0).L1 (turns+1) a ha
  ·(simp -dsimp only[↓RP,RQ,implies_true,forall_const,xa0,reduceIte,reduceCtorEq,xa1,xa2,xa3,xa4]);all_goals simp
  by_cases hin:i+1<n
  ·have e1i:1+i=i+1:=by omega
   (repeat' (first|refine sD ?_ ?_<;>intro _|refine aA ?_|simp -dsimp only[↓RP,RQ,implies_true,forall_const,xa0,reduceIte,reduceCtorEq,xa1,xa2,xa3,xa4,I,eT,eN,by2,TYl,Int.toNat_natCast,Tryz.results178]))
   all_goals first|(exfalso;omega)|skip
   refine qj (fun(k:Nat)=>k≤turns+1) (fun k=>⟨[(0,.arr false false n 1 (fun i _=>.arr false false (C i).m 1 (fun j _=>.val (.int .i64 ((C i).u j))))),(1,.val (.int .i64 turns)),(5,.ptr 61 0),(29,.arr false false (n - 1) 1 (fun i _=>.arr false false (C (1+i)).m 1 (fun j _=>.val (.int .i64 ((C (1+i)).u j))))),(30,.val (.int .i64 ((n - 1:Nat):Int))),(31,.val (.int .i64 i)),(8,.ptr 62 0),(9,.vec 90 (turns+1) 1),(39,.val (.int .i64 ((turns+1:Nat):Int))),(40,.val (.int .i64 k))],[(90,.rows 2 1 (turns+1) (fun j _=>.val (.int .i64 (z1 (Ls C (i+1)) k j)))),(62,.cells 32 [.arr false false (C (1+i)).m 1 (fun j _=>.val (.int .i64 ((C (1+i)).u j)))]),(61,.cells 32 [.vec 60 (turns+1) 1]),(60,.rows 2 1 (turns+1) (fun j _=>.val (.int .i64 (Ls C i j))))],91⟩) (fun k=>turns+1 - k) 0 (xb6 _) (weak [(90,some 69),(62,some 65)] [] ?_ ?_ ?_) fun k hk=>?_
   ·(simp -dsimp only[↓RP,RQ,implies_true,forall_const,xa0,reduceIte,reduceCtorEq,xa1,xa2,xa3,xa4]);all_goals simp
   ·(simp -dsimp only[↓RP,RQ,implies_true,forall_const,xa0,reduceIte,reduceCtorEq,xa1,xa2,xa3,xa4,qcY]);all_goals (try simp)
   ·(simp -dsimp only[↓RP,RQ,implies_true,forall_const,xa0,reduceIte,reduceCtorEq,xa1,xa2,xa3,xa4]);all_goals simp
   by_cases hlt:k<turns+1
   ·(repeat' (first|refine sD ?_ ?_<;>intro _|refine aA ?_|simp -dsimp only[↓RP,RQ,implies_true,forall_const,xa0,reduceIte,reduceCtorEq,xa1,xa2,xa3,xa4,I,eT,eN,by2,TYl,Int.toNat_natCast,Tryz.results178]))
    all_goals first|(exfalso;omega)|skip
    refine qi (qoT k Ω 284 [] [.ref false 1 (fun _=>ints (turns+1) (Ls C i)),.ref false 1 (fun _=>I k),.ref false 1 (fun _=>(C (1+i)).sv)] trivial (by simp[OldL,Old,Curve.sv,ints,I]) (fun p=>Ls C i (k - p)+(C (1+i)).L1 p) fun p hp=>qoU (turns+1) (Ls C i) (C (1+i)) (hC (1+i) Ω) k p hlt Ω hp fun j hj=>?_) ?_ Ωj ?_
    ·have:=YJ C i (fun j hj=>hC j Ω) j Ω;omega
    ·(simp -dsimp only[↓RP,RQ,implies_true,forall_const,xa0,reduceIte,reduceCtorEq,xa1,xa2,xa3,xa4,Curve.sv,ints,I]);all_goals (try simp)
     refine⟨?_,?_⟩
     ·(simp -dsimp only[↓RP,RQ,implies_true,forall_const,xa0,reduceIte,reduceCtorEq,xa1,xa2,xa3,xa4]);all_goals simp
     ·(simp -dsimp only[↓RP,RQ,implies_true,forall_const,xa0,reduceIte,reduceCtorEq,xa1,xa2,xa3,xa4]);all_goals simp
    have eF:kY (fun p=>Ls C i (k - p)+(C (1+i)).L1 p) k=Ls C (i+1) k:=by rw[e1i];rfl
    (repeat' (first|refine sD ?_ ?_<;>intro _|refine aA ?_|simp -dsimp only[↓RP,RQ,implies_true,forall_const,xa0,reduceIte,reduceCtorEq,xa1,xa2,xa3,xa4,eF,I,eT,eN,by2,TYl,Int.toNat_natCast,Tryz.results178]))
    all_goals first|(exfalso;omega)|skip
    refine⟨k+1,Ω,Ω,weak [] [] ?_ ?_ ?_⟩
    ·(simp -dsimp only[↓RP,RQ,implies_true,forall_const,xa0,reduceIte,reduceCtorEq,xa1,xa2,xa3,xa4]);all_goals simp
    ·(simp -dsimp only[↓RP,RQ,implies_true,forall_const,xa0,reduceIte,reduceCtorEq,xa1,xa2,xa3,xa4]);all_goals (try simp)
     exact fun a ha=>qbr (Ls C (i+1)) k a
    ·(simp -dsimp only[↓RP,RQ,implies_true,forall_const,xa0,reduceIte,reduceCtorEq,xa1,xa2,xa3,xa4]);all_goals simp
   ·have hke:k=turns+1:=by omega
    subst hke;(repeat' (first|refine sD ?_ ?_<;>intro _|refine aA ?_|simp -dsimp only[↓RP,RQ,implies_true,forall_const,xa0,reduceIte,reduceCtorEq,xa1,xa2,xa3,xa4,I,eT,eN,by2,TYl,Int.toNat_natCast,Tryz.results178]))
    all_goals first|(exfalso;omega)|skip
    refine⟨i+1,hin,Ω,weak [(60,some 90)] [] ?_ ?_ ?_⟩
    ·(simp -dsimp only[↓RP,RQ,implies_true,forall_const,xa0,reduceIte,reduceCtorEq,xa1,xa2,xa3,xa4]);all_goals simp
    ·(simp -dsimp only[↓RP,RQ,implies_true,forall_const,xa0,reduceIte,reduceCtorEq,xa1,xa2,xa3,xa4]);all_goals (try simp)
     exact fun a ha=>Wf (Ls C (i+1)) (turns+1) a ha
    ·(simp -dsimp only[↓RP,RQ,implies_true,forall_const,xa0,reduceIte,reduceCtorEq,xa1,xa2,xa3,xa4]);all_goals simp
  ·have hie:i=n - 1:=by omega
   (repeat' (first|refine sD ?_ ?_<;>intro _|refine aA ?_|simp -dsimp only[↓RP,RQ,implies_true,forall_const,xa0,reduceIte,reduceCtorEq,xa1,xa2,xa3,xa4,I,eT,eN,by2,TYl,Int.toNat_natCast,Tryz.results178]))
   all_goals first|(exfalso;omega)|skip
   refine⟨60,_,rfl,?_,?_⟩
   ·(simp -dsimp only[↓RP,RQ,implies_true,forall_const,xa0,reduceIte,reduceCtorEq,xa1,xa2,xa3,xa4,I,hie]);all_goals simp
   ·(simp -dsimp only[↓RP,RQ,implies_true,forall_const,xa0,reduceIte,reduceCtorEq,xa1,xa2,xa3,xa4])
end Go.Tl
end
section
namespace Go.Tl
open Go.Sx
def Curve.err(c:Curve):Int:=
 if c.m<1∨6<c.m then 6 else if ∀i,i<c.m→0≤c.u i∧c.u i≤100 then(if ∀i,i<c.m - 1→c.u i≤c.u (i+1)then 0 else 16)else 3
theorem Curve.fine{c:Curve}(h:c.err=0):c.Fine:=by
 unfold Curve.err at h;split at h
 ·omega
 ·split at h
  ·split at h
   ·rename_i h1 h2 h3
    exact⟨Ω,Ω,h2,h3⟩
   ·omega
  ·omega
theorem Curve.err_fine{c:Curve}(h:c.Fine):c.err=0:=by
 have h1:=h.m1;have h2:=h.m6;unfold Curve.err;rw[if_neg Ω,if_pos h.rg,if_pos h.up]
def Curve.rErr(c:Curve):Int:=if 60<c.m then 6 else if ∀i,i<c.m→0≤c.u i∧c.u i≤10000 then 0 else 3
def qv(u:Nat→Int):Nat→Int
 |0=>0
 |i+1=>qv u i+u i
def qbs(C:Nat→Curve)(i:Nat):Nat→Int
 |0=>0
 |k+1=>if (C i).rErr=0 then qbs C (i+1) k else(C i).rErr
theorem GI(u:Nat→Int)(b:Int)(hb:0≤b)(m:Nat)(hu:∀i,i<m→0≤u i∧u i≤b):∀k,k≤m→0≤qv u k∧qv u k≤b*k
 |0,_=>by simp[qv]
 |k+1,h=>by
  have h1:=GI u b hb m hu k Ω;have h2:=hu k Ω;simp only[qv];rw[show((k+1:Nat):Int)=(k:Int)+1 from rfl,Int.mul_add,Int.mul_one];omega
def lzTo(A L:Nat→Int)(t:Nat):Nat→Int
 |0=>A t
 |U+1=>min (lzTo A L t U) (A U+L (t - U))
def lz(A L:Nat→Int)(t:Nat):Int:=lzTo A L t t
theorem GJ(A L:Nat→Int)(m t:Nat)(ht:t<m)(hA:∀i,i<m→0≤A i∧A i≤1000000000)(hL:∀i,i<m→0≤L i∧L i≤1000000000):∀U,U≤t→0≤lzTo A L t U∧lzTo A L t U≤1000000000
 |0,_=>hA t ht
 |U+1,h=>by
  have h1:=GJ A L m t ht hA hL U Ω;have h2:=hA U Ω;have h3:=hL (t - U) Ω;simp only[lzTo];omega
theorem lzTo_le(A L:Nat→Int)(t:Nat):∀U u,u<U→lzTo A L t U≤A u+L (t - u)
 |0,u,h=>by omega
 |U+1,u,h=>by
  simp only[lzTo];by_cases e:u=U
  ·subst e;omega
  ·have:=lzTo_le A L t U u Ω;omega
theorem lzTo_le0(A L:Nat→Int)(t:Nat):∀U,lzTo A L t U≤A t
 |0=>Int.le_refl _
 |U+1=>by have:=lzTo_le0 A L t U;simp only[lzTo];omega
def w1(A L:Nat→Int)(t j:Nat):Int:=if j<t then lz A L j else A j
def w2(A L:Nat→Int)(t U j:Nat):Int:=if j<t then lz A L j else if j=t then lzTo A L t U else A j
theorem qkt(A L:Nat→Int)(j:Nat):w1 A L 0 j=A j:=by unfold w1;rw[if_neg Ω]
theorem qnZ(A L:Nat→Int)(t j:Nat):w1 A L t j=w2 A L t 0 j:=by
 unfold w1 w2;by_cases e:j<t
 ·rw[if_pos e,if_pos e]
 ·rw[if_neg e,if_neg e]
  by_cases e2:j=t
  ·subst e2;rw[if_pos rfl];rfl
  ·rw[if_neg e2]
theorem qoa(A L:Nat→Int)(t U:Nat):w2 A L t U t=lzTo A L t U:=by unfold w2;rw[if_neg Ω,if_pos rfl]
theorem qmt(A L:Nat→Int)(t j:Nat):w2 A L t t j=w1 A L (t+1) j:=by
 unfold w1 w2;by_cases e:j<t
 ·rw[if_pos e,if_pos Ω]
 ·rw[if_neg e]
  by_cases e2:j=t
  ·subst e2;rw[if_pos rfl,if_pos Ω];rfl
  ·rw[if_neg e2,if_neg Ω]
theorem qmu(A L:Nat→Int)(t U a:Nat):(if a=t then SV.val (.int .i64 (lzTo A L t (U+1)))else .val (.int .i64 (w2 A L t U a)))=.val (.int .i64 (w2 A L t (U+1) a)):=by
 unfold w2;by_cases e:a=t
 ·subst e;rw[if_pos rfl,if_neg Ω,if_pos rfl]
 ·rw[if_neg e,if_neg e,if_neg e]
theorem qmv(A L:Nat→Int)(t j:Nat)(h:j<t):w1 A L t j=lz A L j:=by unfold w1;rw[if_pos h]
structure Row(c:Curve):Prop where
 m60:c.m≤60
 rg:∀i,i<c.m→0≤c.u i∧c.u i≤10000
theorem Q3{c:Curve}(h:c.rErr=0):Row c:=by
 unfold Curve.rErr at h;split at h
 ·omega
 ·split at h
  ·rename_i h1 h2;exact⟨Ω,h2⟩
  ·omega
theorem GL{c:Curve}(h:Row c):c.rErr=0:=by
 have:=h.m60;unfold Curve.rErr;rw[if_neg Ω,if_pos h.rg]
abbrev Curve.S(c:Curve):Nat→Int:=qv c.u
theorem Q4{c:Curve}(h:Row c)(k:Nat)(hk:k≤c.m):0≤c.S k∧c.S k≤600000:=by
 have h1:=GI c.u 10000 Ω c.m h.rg k hk;have h2:=h.m60;show 0≤qv c.u k∧qv c.u k≤600000;omega
def jD(a d:Curve):Prop:=∀t,t<a.m+1→d.S t≤a.S t
instance(a d:Curve):Decidable (jD a d):=by unfold jD;infer_instance
def gE(a d:Curve):Int:=if a.rErr=0 then(if d.rErr=0 then(if a.m=d.m then(if jD a d then 0 else 14)else 15)else d.rErr)else a.rErr
def two(a d:Curve)(i:Nat):Curve:=if i=0 then a else d
theorem qku(a d:Curve)(i j:Nat)(hi:i<2)(hj:j<1):[a.sv,d.sv].getD (i+j) .top=(two a d i).sv:=by
 have:j=0:=by omega
 subst this;have:i=0∨i=1:=by omega
 rcases this with rfl|rfl<;>rfl
def pr2(a d:Curve):Int:=if a.rErr=0 then(if d.rErr=0 then 0 else d.rErr)else a.rErr
theorem YK{a d:Curve}(h:pr2 a d=0):a.rErr=0∧d.rErr=0:=by
 unfold pr2 at h;split at h
 ·rename_i ha
  split at h
  ·rename_i hd;exact⟨ha,hd⟩
  ·contradiction
 ·contradiction
theorem qhQ{a d:Curve}(h:¬pr2 a d=0):gE a d=pr2 a d:=by
 unfold pr2 at h ⊢;unfold gE;by_cases ha:a.rErr=0
 ·rw[if_pos ha]at h ⊢
  rw[if_pos ha];by_cases hd:d.rErr=0
  ·rw[if_pos hd]at h;contradiction
  ·rw[if_neg hd,if_neg hd]
 ·rw[if_neg ha,if_neg ha]
theorem qhR(a d:Curve):qbs (two a d) 0 2=pr2 a d:=by
 show(if (two a d 0).rErr=0 then(if (two a d 1).rErr=0 then 0 else(two a d 1).rErr)else(two a d 0).rErr)=_;rfl
abbrev GM(N:Nat)(f:Nat→Int):Blk:=.rows 2 1 N (fun j _=>.val (.int .i64 (f j)))
def qeO(c a:Curve)(t:Nat):Int:=lz a.S c.L1 t
def gh(c a d:Curve):Int:=if c.err=0 then(if gE a d=0 then(if ∀t,t<a.m+1→qeO c a t≤d.S t then 0 else 18)else gE a d)else c.err
theorem YL{a d:Curve}(h:gE a d=0):Row a∧Row d∧a.m=d.m∧jD a d:=by
 unfold gE at h;split at h
 ·rename_i h1
  split at h
  ·rename_i h2
   split at h
   ·rename_i h3
    split at h
    ·rename_i h4;exact⟨Q3 h1,Q3 h2,h3,h4⟩
    ·contradiction
   ·contradiction
  ·contradiction
 ·contradiction
def qbt(P:Nat→Bool)(i:Nat):Nat→Nat
 |0=>i
 |n+1=>if P i=true then i else qbt P (i+1) n
theorem J7(P:Nat→Bool):∀n i,(∃j,i≤j∧j<i+n∧P j=true)→i≤qbt P i n∧qbt P i n<i+n∧P (qbt P i n)=true∧∀j,i≤j→j<qbt P i n→P j=false
 |0,i,⟨j,h1,h2,_⟩=>by omega
 |n+1,i,⟨j,h1,h2,h3⟩=>by
  simp only[qbt];by_cases h:P i=true
  ·rw[if_pos h]
   exact⟨xa5 _,Ω,h,fun j a b=>by omega⟩
  ·rw[if_neg h]
   have hji:i+1≤j:=by
    by_cases e:j=i
    ·subst e;exact absurd h3 h
    ·omega
   obtain⟨a,b,c,d⟩:=J7 P n (i+1) ⟨j,hji,Ω,h3⟩;refine⟨Ω,Ω,c,fun j' h1 h2=>?_⟩;by_cases e:j'=i
   ·subst e;simpa using h
   ·exact d j' Ω h2
def atF(a d:Curve)(t:Nat):Nat:=qbt (fun j=>decide (a.S t≤d.S j)) t (a.m+1 - t)
def kG(a d:Curve):Nat→Int
 |0=>0
 |k+1=>max (kG a d k) (a.S k - d.S k)
def kH(a d:Curve):Nat→Int
 |0=>0
 |k+1=>max (kH a d k) ((atF a d k:Int) - k)
def GN(a d:Curve):Int×Int×Int:=if gE a d=0 then(if a.S a.m=d.S a.m then(kG a d (a.m+1),kH a d (a.m+1),0)else(0,0,18))else(0,0,gE a d)
theorem qcZ{a:Curve}(h:Row a)(k:Nat)(hk:k<a.m):a.S k≤a.S (k+1):=by
 have:=h.rg k hk;show qv a.u k≤qv a.u k+a.u k;omega
theorem qhS{a:Curve}(h:Row a):∀j i,i≤j→j≤a.m→a.S i≤a.S j
 |0,i,hi,_=>by
   have:i=0:=by omega
   subst this;exact Int.le_refl _
 |j+1,i,hi,hj=>by
  by_cases e:i=j+1
  ·subst e;exact Int.le_refl _
  ·exact Int.le_trans (qhS h j i Ω Ω) (qcZ h j Ω)
theorem Q5{a d:Curve}(ha:Row a)(he:a.S a.m=d.S a.m)(t:Nat)(ht:t≤a.m):t≤atF a d t∧atF a d t≤a.m∧a.S t≤d.S (atF a d t)∧∀j,t≤j→j<atF a d t→d.S j<a.S t:=by
 obtain⟨h1,h2,h3,h4⟩:=J7 (fun j=>decide (a.S t≤d.S j)) (a.m+1 - t) t ⟨a.m,ht,Ω,decide_eq_true (by rw[←he];exact qhS ha a.m t ht (xa5 _))⟩;refine⟨h1,(by unfold atF;omega),of_decide_eq_true h3,fun j a b=>?_⟩;have:=of_decide_eq_false (h4 j a b);omega
theorem atF_le{a d:Curve}(ha:Row a)(he:a.S a.m=d.S a.m)(t j:Nat)(ht:t≤a.m)(hj:t≤j)(h:a.S t≤d.S j):atF a d t≤j:=by
 obtain⟨h1,h2,h3,h4⟩:=Q5 ha he t ht;refine xf9 fun hlt=>?_;have:=h4 j hj Ω;omega
theorem qhT{a d:Curve}(ha:Row a)(he:a.S a.m=d.S a.m)(t:Nat)(ht:t+1≤a.m):atF a d t≤atF a d (t+1):=by
 obtain⟨h1,h2,h3,h4⟩:=Q5 ha he (t+1) ht;exact atF_le ha he t _ Ω Ω (Int.le_trans (qcZ ha t Ω) h3)
theorem Q6{a d:Curve}(ha:Row a)(hd:Row d)(hm:a.m=d.m):∀k,k≤a.m+1→0≤kG a d k∧kG a d k≤600000
 |0,_=>by simp[kG]
 |k+1,hk=>by
  have h1:=Q6 ha hd hm k Ω;have h2:=Q4 ha k Ω;have h3:=Q4 hd k Ω;simp only[kG];omega
theorem Q7{a d:Curve}(ha:Row a)(he:a.S a.m=d.S a.m):∀k,k≤a.m+1→0≤kH a d k∧kH a d k≤60
 |0,_=>by simp[kH]
 |k+1,hk=>by
  have h1:=Q7 ha he k Ω;obtain⟨h2,h3,_,_⟩:=Q5 ha he k Ω;have h60:=ha.m60;simp only[kH];omega
def atP(a d:Curve):Nat→Nat
 |0=>0
 |t+1=>atF a d t
theorem qmw{a d:Curve}(ha:Row a)(he:a.S a.m=d.S a.m):∀t,t≤a.m→atP a d t≤atF a d t
 |0,_=>xb6 _
 |t+1,h=>qhT ha he t h
def tup3(x:Int×Int×Int):SV:=.tup [I x.1,I x.2.1,I x.2.2]
def upL(u:Nat→Int)(m:Nat):Prop:=∀i,i<m - 1→u i≤u (i+1)
instance(u:Nat→Int)(m:Nat):Decidable (upL u m):=by unfold upL;infer_instance
end Go.Tl
end
section
namespace Go.Tn
open Go.Sx
open Go.Tl (Curve qv qeO gh GN gE kG kH atF Row GL jD)
def sT(c:Nat→Nat)(k:Nat)(p:Nat→Nat→Bool):Nat→Nat→Int
 |0=>fun _=>0
 |i+1=>fun w=>if c (i % k)=w then 0 else sT c k p i w+(if p i w=true then 1 else 0)
section
variable{m:Nat}{u:Nat→Int}{k:Nat}{c:Nat→Nat}{S:Nat→Nat→Int}{p:Nat→Nat→Bool}{w:Nat}
theorem qkv(i:Nat):sT c k p (i+1) w=if c (i % k)=w then 0 else sT c k p i w+(if p i w=true then 1 else 0):=rfl
theorem qkw:∀i,0≤sT c k p i w
 |0=>Int.le_refl _
 |i+1=>by
  rw[qkv];have:=qkw i;split
  ·omega
  ·split<;>omega
theorem qda(h:Wk4 m u k c S)(hw:w<m):∀i,sT c k p i w≤S i w
 |0=>(h.fit 0 w hw).1
 |i+1=>by
  rw[qkv,h.step i w hw];have:=qda h hw i;split
  ·omega
  ·split<;>omega
def cmF(p:Nat→Nat→Bool)(w i:Nat):Int:=if p i w=true then 1 else 0
def adF(c:Nat→Nat)(k:Nat)(p:Nat→Nat→Bool)(w i:Nat):Int:=if c (i % k)=w then sT c k p i w+cmF p w i else 0
theorem qhU(i:Nat):0≤cmF p w i∧cmF p w i≤1:=by unfold cmF;split<;>omega
theorem qbu:∀T,qv (adF c k p w) T+sT c k p T w=qv (cmF p w) T
 |0=>rfl
 |T+1=>by
  have ih:=qbu T;show qv (adF c k p w) T+adF c k p w T+sT c k p (T+1) w=qv (cmF p w) T+cmF p w T;rw[qkv];unfold adF at *;have e:(if p T w=true then(1:Int)else 0)=cmF p w T:=rfl;rw[e];split<;>omega
theorem qob(U:Nat):∀d:Nat,qv (cmF p w) U≤qv (cmF p w) (U+d)∧qv (cmF p w) (U+d)≤qv (cmF p w) U+d
 |0=>⟨Int.le_refl _,Ωi⟩
 |d+1=>by
  have ih:=qob U d;have h1:=qhU (p:=p) (w:=w) (U+d);have e:qv (cmF p w) (U+(d+1))=qv (cmF p w) (U+d)+cmF p w (U+d):=rfl;rw[e];omega
theorem qbv{U T:Nat}(h:U≤T):qv (cmF p w) U≤qv (cmF p w) T∧qv (cmF p w) T≤qv (cmF p w) U+((T:Int) - U):=by
 have:=qob (p:=p) (w:=w) U (T - U);rw[show U+(T - U)=T by omega]at this;omega
theorem qhV{P:Nat}(hp:∀i,P≤i→p i w=false){T:Nat}(h:P≤T):qv (cmF p w) T=qv (cmF p w) P:=by
 have key:∀d,qv (cmF p w) (P+d)=qv (cmF p w) P:=fun d=>by
  induction d with
  |zero=>rfl
  |succ d ih=>
   show qv (cmF p w) (P+d)+cmF p w (P+d)=_;have:cmF p w (P+d)=0:=by unfold cmF;rw[hp _ Ω];rfl
   rw[ih,this];omega
 have:=key (T - P);rw[show P+(T - P)=T by omega]at this;exact this
theorem qhW(h:Wk4 m u k c S)(hw:w<m):∀T:Nat,∃U:Nat,U≤T∧(T:Int) - U≤S T w∧qv (adF c k p w) T=qv (cmF p w) U
 |0=>⟨0,xa5 _,by have:=(h.fit 0 w hw).1;omega,rfl⟩
 |T+1=>by
  obtain⟨U,h1,h2,h3⟩:=qhW h hw T;have hs:=h.step T w hw;have e:qv (adF c k p w) (T+1)=qv (adF c k p w) T+adF c k p w T:=rfl;by_cases hv:c (T % k)=w
  ·refine⟨T+1,xa5 _,by rw[hs,if_pos hv];omega,?_⟩
   have g:=qbu (c:=c) (k:=k) (p:=p) (w:=w) T;rw[e];unfold adF at *;rw[if_pos hv];show _=qv (cmF p w) T+cmF p w T;omega
  ·refine⟨U,Ω,by rw[hs,if_neg hv];omega,?_⟩
   rw[e,h3];unfold adF;rw[if_neg hv];omega
def cvT(t:Nat):Curve:=⟨t,fun i=>if i=t - 1 then(t:Int)else 0⟩
def caT(p:Nat→Nat→Bool)(w N:Nat):Curve:=⟨N,cmF p w⟩
def daT(c:Nat→Nat)(k:Nat)(p:Nat→Nat→Bool)(w N:Nat):Curve:=⟨N,adF c k p w⟩
theorem qhX{t:Nat}(t1:1≤t)(t6:t≤6):(cvT t).Fine:=by
 refine⟨t1,t6,fun i hi=>?_,fun i hi=>?_⟩
 ·show 0≤(if i=t - 1 then(t:Int)else 0)∧(if i=t - 1 then(t:Int)else 0)≤100
  split<;>omega
 ·show(if i=t - 1 then(t:Int)else 0)≤(if i+1=t - 1 then(t:Int)else 0)
  have hi:i<t - 1:=hi;rw[if_neg Ω];split<;>omega
theorem qmx{t j:Nat}(h:j<t):(cvT t).L1 j=0:=by
 unfold Curve.L1;show((j / t:Nat):Int)*_+(if 0<j % t then(if j % t - 1=t - 1 then(t:Int)else 0)else 0)=0;rw[Nat.div_eq_of_lt h,Nat.mod_eq_of_lt h];split
 ·rw[if_neg Ω];simp
 ·simp
theorem qoc(h:Wk4 m u k c S)(hw:w<m)(i:Nat):0≤adF c k p w i∧adF c k p w i≤u w:=by
 have h1:=qda (p:=p) h hw i;have h2:=qkw (c:=c) (k:=k) (p:=p) (w:=w) i;have h3:=qhU (p:=p) (w:=w) i;have h4:=h.fit i w hw;unfold adF;split<;>omega
theorem qoV(h:Wk4 m u k c S)(hw:w<m){t:Nat}(ht:u w=(t:Nat))(t1:1≤t)(t6:t≤6){P:Nat}(hP:P≤40)(hp:∀i,P≤i→p i w=false) :
  gh (cvT t) (caT p w (P+t)) (daT c k p w (P+t))=0∧∃x y,GN (caT p w (P+t)) (daT c k p w (P+t))=(x,y,0)∧x≤(t:Int) - 1∧y≤(t:Int) - 1:=by
 have hf:=qhX t1 t6;have ra:Row (caT p w (P+t)):=⟨(by show P+t≤60;omega),fun i _=>by have:=qhU (p:=p) (w:=w) i;show 0≤cmF p w i∧cmF p w i≤10000;omega⟩;have rd:Row (daT c k p w (P+t)):=⟨(by show P+t≤60;omega),fun i _=>by have:=qoc (p:=p) h hw i;show 0≤adF c k p w i∧adF c k p w i≤10000;omega⟩;have gap:∀T:Nat,∃U:Nat,U≤T∧(T:Int) - U≤(t:Int) - 1∧qv (adF c k p w) T=qv (cmF p w) U:=fun T=>by
  obtain⟨U,h1,h2,h3⟩:=qhW (p:=p) h hw T;have:=h.fit T w hw;exact⟨U,h1,Ω,h3⟩
 have hnm:jD (caT p w (P+t)) (daT c k p w (P+t)):=fun T _=>by
  show qv (adF c k p w) T≤qv (cmF p w) T;have h1:=qbu (c:=c) (k:=k) (p:=p) (w:=w) T;have h2:=qkw (c:=c) (k:=k) (p:=p) (w:=w) T;omega
 have hrows:gE (caT p w (P+t)) (daT c k p w (P+t))=0:=by
  unfold gE;rw[if_pos (GL ra),if_pos (GL rd),if_pos (show(caT p w (P+t)).m=(daT c k p w (P+t)).m from rfl),if_pos hnm]
 have he:(caT p w (P+t)).S (caT p w (P+t)).m=(daT c k p w (P+t)).S (caT p w (P+t)).m:=by
  show qv (cmF p w) (P+t)=qv (adF c k p w) (P+t);obtain⟨U,h1,h2,h3⟩:=gap (P+t);rw[h3,qhV hp (Ω:P≤P+t),qhV hp (Ω:P≤U)]
 refine⟨?_,kG (caT p w (P+t)) (daT c k p w (P+t)) (P+t+1),kH (caT p w (P+t)) (daT c k p w (P+t)) (P+t+1),?_,?_,?_⟩
 ·unfold gh
  rw[if_pos (Curve.err_fine hf),if_pos hrows,if_pos];intro T hT;obtain⟨U,h1,h2,h3⟩:=gap T;show Go.Tl.lzTo (qv (cmF p w)) (cvT t).L1 T T≤qv (adF c k p w) T;rw[h3];by_cases e:U=T
  ·rw[e];exact Go.Tl.lzTo_le0 _ _ _ _
  ·have:=Go.Tl.lzTo_le (qv (cmF p w)) (cvT t).L1 T T U Ω
   rw[qmx (Ω:T - U<t)]at this;omega
 ·unfold GN
  rw[if_pos hrows,if_pos he];rfl
 ·have key:∀n,kG (caT p w (P+t)) (daT c k p w (P+t)) n≤(t:Int) - 1:=fun n=>by
   induction n with
   |zero=>show(0:Int)≤_;omega
   |succ n ih=>
    obtain⟨U,h1,h2,h3⟩:=gap n;have h4:=qbv (p:=p) (w:=w) h1;show max (kG (caT p w (P+t)) (daT c k p w (P+t)) n) (qv (cmF p w) n - qv (adF c k p w) n)≤_;rw[h3];omega
  exact key _
 ·have key:∀n,n≤P+t+1→kH (caT p w (P+t)) (daT c k p w (P+t)) n≤(t:Int) - 1:=fun n=>by
   induction n with
   |zero=>intro _;show(0:Int)≤_;omega
   |succ n ih=>
    intro hn;have ih:=ih Ω;have h5:atF (caT p w (P+t)) (daT c k p w (P+t)) n≤n+(t - 1):=by
     by_cases hj:n+(t - 1)≤P+t
     ·refine Go.Tl.atF_le ra he n _ (by show n≤P+t;omega) Ω ?_
      show qv (cmF p w) n≤qv (adF c k p w) (n+(t - 1));obtain⟨U,h1,h2,h3⟩:=gap (n+(t - 1));rw[h3];exact(qbv (Ω:n≤U)).1
     ·have h6:=Go.Tl.atF_le ra he n (P+t) (by show n≤P+t;omega) Ω (by
       have he':qv (cmF p w) (P+t)=qv (adF c k p w) (P+t):=he;show qv (cmF p w) n≤qv (adF c k p w) (P+t);rw[←he'];exact(qbv (Ω:n≤P+t)).1)
      omega
    show max (kH (caT p w (P+t)) (daT c k p w (P+t)) n) ((atF (caT p w (P+t)) (daT c k p w (P+t)) n:Int) - n)≤_;omega
  exact key _ (xa5 _)
end
end Go.Tn
end
section
namespace Go.Tl
open Go.Proofs
open Go.Sx
def B(b:Bool):SV:=.val (.bool b)
theorem Qd{a b:Bool}(h:a=b):SV.val (Value.bool a)=SV.val (Value.bool b):=by rw[h]
theorem TYm:True∧qk Tryz.prog 2=some ⟨false,1,some [.int .i64 0],.int .i64⟩∧qk Tryz.prog 3=some ⟨false,1,some [.int .i64 0],.int .i64⟩∧qk Tryz.prog 4=some ⟨false,1,some [.bool false],.bool⟩∧qk Tryz.prog 28=some ⟨false,1,some [.int .i64 0],.int .i64⟩∧qk Tryz.prog 32=some ⟨false,1,some [.slice none 0 0],.slice 2 1⟩∧qk Tryz.prog 43=some ⟨false,1,some [.slice none 0 0],.slice 32 1⟩∧qD Tryz.prog 2=8:=⟨trivial,Ωb,Ωb,Ωb,Ωb,Ωb,Ωb,Ωb⟩
def kQ(b:Nat→Bool)(i:Nat):Nat→Int
 |0=>-1
 |k+1=>if b i=true then i else kQ b (i+1) k
theorem QD(b:Nat→Bool):∀(k i:Nat),kQ b i k<0↔∀j,i≤j→j<i+k→b j=false
 |0,i=>by simp[kQ];intro j h1 h2;omega
 |k+1,i=>by
  simp only[kQ];split
  ·rename_i h
   constructor
   ·intro h';omega
   ·intro h';have:=h' i Ω Ω;rw[h]at this;cases this
  ·rename_i h
   rw[QD b k (i+1)];constructor
   ·intro h' j h1 h2
    by_cases e:j=i
    ·subst e;simpa using h
    ·exact h' j Ω Ω
   ·intro h' j h1 h2;exact h' j Ω Ω
def vo(lo hi:Int):SV:=.fn (.func 229) [] [.ref false 1 (fun _=>I lo),.ref false 1 (fun _=>I hi)]
theorem qoW(n lo hi:Int):qb Tryz.prog 229 [I n,.ref false 1 (fun _=>I lo),.ref false 1 (fun _=>I hi)] (B (decide (n<lo) || decide (hi<n))):=by
 refine qc Tryz.func229 rfl Ωb follows Ωb _ _ (by rw[Tryz.ntmps229];simp) (by simp[OldL,Old,I]) ?_;unfold I B;(repeat' (first|refine sD ?_ ?_<;>intro _|refine aA ?_|simp -dsimp only[↓RP,RQ,implies_true,forall_const,xa0,reduceIte,reduceCtorEq,xa1,xa2,xa3,xa4,TYm,Tryz.results229]))
 all_goals (refine Qd ?_;rw[Bool.eq_iff_iff];simp;omega)
theorem qmp(m:Nat)(u:Nat→Int)(lo hi':Int)(hm:m≤1000000):qb Tryz.prog 304 [ints m u,vo lo hi'] (I (kQ (fun i=>decide (u i<lo) || decide (hi'<u i)) 0 m)):=by
 refine qc Tryz.func304 rfl Ωb follows Ωb _ _ (by rw[Tryz.ntmps304];simp) (by simp[OldL,Old,ints,vo,I]) ?_;unfold ints vo I;(simp -dsimp only[↓RP,RQ,implies_true,forall_const,xa0,reduceIte,reduceCtorEq,xa1,xa2,xa3,xa4,TYm,Tryz.results304]);refine qj (fun i=>i≤m∧kQ (fun i=>decide (u i<lo) || decide (hi'<u i)) 0 m=kQ (fun i=>decide (u i<lo) || decide (hi'<u i)) i (m - i)) (fun i=>⟨[(0,.arr false false m 1 (fun i _=>.val (.int .i64 (u i)))),(1,.fn (.func 229) [] [.ref false 1 (fun _=>.val (.int .i64 lo)),.ref false 1 (fun _=>.val (.int .i64 hi'))]),(7,.val (.int .i64 m)),(8,.val (.int .i64 i))],[],0⟩) (fun i=>m - i) 0 ⟨xb6 _,rfl⟩ (weak [] [] ?_ ?_ ?_) fun i hi=>?_
 ·(simp -dsimp only[↓RP,RQ,implies_true,forall_const,xa0,reduceIte,reduceCtorEq,xa1,xa2,xa3,xa4]);simp
 ·(simp -dsimp only[↓RP,RQ,implies_true,forall_const,xa0,reduceIte,reduceCtorEq,xa1,xa2,xa3,xa4])
 ·(simp -dsimp only[↓RP,RQ,implies_true,forall_const,xa0,reduceIte,reduceCtorEq,xa1,xa2,xa3,xa4])
 obtain⟨hi,he⟩:=hi;have e1:∀k,m - i=k+1→kQ (fun i=>decide (u i<lo) || decide (hi'<u i)) i (m - i)=if (decide (u i<lo) || decide (hi'<u i))=true then(i:Int)else kQ (fun i=>decide (u i<lo) || decide (hi'<u i)) (i+1) k:=fun k hk=>by rw[hk];rfl
 (repeat' (first|refine sD ?_ ?_<;>intro _|refine aA ?_|simp -dsimp only[↓RP,RQ,implies_true,forall_const,xa0,reduceIte,reduceCtorEq,xa1,xa2,xa3,xa4,TYm,Tryz.results304]))
 ·rename_i hlt
  have e2:=e1 (m -(i+1)) Ω;refine qi (qoW (u i) lo hi') (by(simp -dsimp only[↓RP,RQ,implies_true,forall_const,xa0,reduceIte,reduceCtorEq,xa1,xa2,xa3,xa4,I]);simp) Ωl ?_;(repeat' (first|refine sD ?_ ?_<;>intro _|refine aA ?_|simp -dsimp only[↓RP,RQ,implies_true,forall_const,xa0,reduceIte,reduceCtorEq,xa1,xa2,xa3,xa4,B,TYm,Tryz.results304]))
  ·rename_i h
   refine gv ?_;rw[he,e2,if_pos (by simp[h])]
  ·rename_i h1 h2
   refine gv ?_;rw[he,e2,if_pos (by simp[h2])]
  ·rename_i h1 h2
   refine⟨i+1,⟨Ω,?_⟩,Ω,weak [] [] ?_ ?_ ?_⟩
   ·rw[he,e2,if_neg Ωr]
   ·(simp -dsimp only[↓RP,RQ,implies_true,forall_const,xa0,reduceIte,reduceCtorEq,xa1,xa2,xa3,xa4]);simp
   ·(simp -dsimp only[↓RP,RQ,implies_true,forall_const,xa0,reduceIte,reduceCtorEq,xa1,xa2,xa3,xa4])
   ·(simp -dsimp only[↓RP,RQ,implies_true,forall_const,xa0,reduceIte,reduceCtorEq,xa1,xa2,xa3,xa4])
 ·rename_i hlt
  refine gv ?_;have:m - i=0:=by omega
  rw[he,this];rfl
def gD(u:Nat→Int)(m:Nat)(lo hi:Int):Prop:=∀i,i<m→lo≤u i∧u i≤hi
instance(u:Nat→Int)(m:Nat)(lo hi:Int):Decidable (gD u m lo hi):=by unfold gD;infer_instance
theorem Zw(u:Nat→Int)(m:Nat)(lo hi:Int):kQ (fun i=>decide (u i<lo) || decide (hi<u i)) 0 m<0↔gD u m lo hi:=by
 rw[QD];constructor
 ·intro h i hi'
  have:=h i Ω Ω;simp at this;omega
 ·intro h j _ hj
  have:=h j Ω;simp;omega
theorem qnT(m:Nat)(u:Nat→Int)(lo hi:Int)(hm:m≤1000000):qb Tryz.prog 202 [ints m u,vo lo hi] (B (!decide (gD u m lo hi))):=by
 refine qc Tryz.func202 rfl Ωb follows Ωb _ _ (by rw[Tryz.ntmps202];simp) (by simp[OldL,Old,ints,vo,I]) ?_;unfold ints vo I B;(simp -dsimp only[↓RP,RQ,implies_true,forall_const,xa0,reduceIte,reduceCtorEq,xa1,xa2,xa3,xa4,TYm,Tryz.results202]);refine qi (qmp m u lo hi hm) (by(simp -dsimp only[↓RP,RQ,implies_true,forall_const,xa0,reduceIte,reduceCtorEq,xa1,xa2,xa3,xa4,ints,vo,I]);simp) Ωj ?_;(repeat' (first|refine sD ?_ ?_<;>intro _|refine aA ?_|simp -dsimp only[↓RP,RQ,implies_true,forall_const,xa0,reduceIte,reduceCtorEq,xa1,xa2,xa3,xa4,I,TYm,Tryz.results202]));refine Qd ?_;rw[Bool.eq_iff_iff];simp[←Zw]
theorem qmy(m:Nat)(u:Nat→Int)(lo hi:Int)(hm:m≤1000000):qb Tryz.prog 110 [I lo,I hi,ints m u] (B (decide (gD u m lo hi))):=by
 refine qc Tryz.func110 rfl Ωb follows Ωb _ _ (by rw[Tryz.ntmps110];simp) (by simp[OldL,Old,ints,I]) ?_;unfold ints I B;(simp -dsimp only[↓RP,RQ,implies_true,forall_const,xa0,reduceIte,reduceCtorEq,xa1,xa2,xa3,xa4,TYm,Tryz.results110]);refine qi (qnT m u lo hi hm) (by(simp -dsimp only[↓RP,RQ,implies_true,forall_const,xa0,reduceIte,reduceCtorEq,xa1,xa2,xa3,xa4,ints,vo,I]);simp) Ωl ?_;(repeat' (first|refine sD ?_ ?_<;>intro _|refine aA ?_|simp -dsimp only[↓RP,RQ,implies_true,forall_const,xa0,reduceIte,reduceCtorEq,xa1,xa2,xa3,xa4,B,TYm,Tryz.results110]));simp
theorem qmz(x lo hi:Int):qb Tryz.prog 110 [I lo,I hi,ints 1 (fun _=>x)] (B (decide (lo≤x∧x≤hi))):=by
 have:=qmy 1 (fun _=>x) lo hi Ω;have e:gD (fun _=>x) 1 lo hi↔(lo≤x∧x≤hi):=⟨fun h=>h 0 Ω,fun h i _=>h⟩;simpa[e]using this
theorem qoX(n:Int):qb Tryz.prog 355 [I n] (B false):=by
 refine qc Tryz.func355 rfl Ωb follows Ωb _ _ (by rw[Tryz.ntmps355];simp) (by simp[OldL,Old,I]) ?_;unfold I B;(repeat' (first|refine sD ?_ ?_<;>intro _|refine aA ?_|simp -dsimp only[↓RP,RQ,implies_true,forall_const,xa0,reduceIte,reduceCtorEq,xa1,xa2,xa3,xa4,TYm,Tryz.results355]))
 all_goals simp
theorem qoY(a b:Int):qb Tryz.prog 281 [I a,I b] (B (decide (a<b))):=by
 refine qc Tryz.func281 rfl Ωb follows Ωb _ _ (by rw[Tryz.ntmps281];simp) (by simp[OldL,Old,I]) ?_;unfold I B;(repeat' (first|refine sD ?_ ?_<;>intro _|refine aA ?_|simp -dsimp only[↓RP,RQ,implies_true,forall_const,xa0,reduceIte,reduceCtorEq,xa1,xa2,xa3,xa4,TYm,Tryz.results281]));refine qi (qoX a) Ωj Ωl ?_;(repeat' (first|refine sD ?_ ?_<;>intro _|refine aA ?_|simp -dsimp only[↓RP,RQ,implies_true,forall_const,xa0,reduceIte,reduceCtorEq,xa1,xa2,xa3,xa4,B,TYm,Tryz.results281]))
theorem qoZ(m:Nat)(u:Nat→Int)(h1:1≤m)(h2:m≤1000000):qb Tryz.prog 171 [ints m u] (B (decide (upL u m))):=by
 refine qc Tryz.func171 rfl Ωb follows Ωb _ _ (by rw[Tryz.ntmps171];simp) (by simp[OldL,Old,ints]) ?_;unfold B
 conv=>arg 4;unfold ints
 (repeat' (first|refine sD ?_ ?_<;>intro _|refine aA ?_|simp -dsimp only[↓RP,RQ,implies_true,forall_const,xa0,reduceIte,reduceCtorEq,xa1,xa2,xa3,xa4,TYm,Tryz.results171]));refine qj (fun i=>i≤m - 1∧∀j,i≤j→j<m - 1→u j≤u (j+1)) (fun i=>⟨[(0,.arr false false m 1 (fun i _=>.val (.int .i64 (u i)))),(3,.val (.int .i64 i))],[],0⟩) (fun i=>i) (m - 1) ⟨xa5 _,fun j a b=>by omega⟩ (weak [] [] ?_ ?_ ?_) fun i hi=>?_
 ·(simp -dsimp only[↓RP,RQ,implies_true,forall_const,xa0,reduceIte,reduceCtorEq,xa1,xa2,xa3,xa4]);all_goals (try simp)
  all_goals omega
 ·(simp -dsimp only[↓RP,RQ,implies_true,forall_const,xa0,reduceIte,reduceCtorEq,xa1,xa2,xa3,xa4])
 ·(simp -dsimp only[↓RP,RQ,implies_true,forall_const,xa0,reduceIte,reduceCtorEq,xa1,xa2,xa3,xa4])
 obtain⟨hi,hj⟩:=hi;by_cases h0:0<i
 ·have e2:(i:Int) - 1=((i - 1:Nat):Int):=by omega
  (repeat' (first|refine sD ?_ ?_<;>intro _|refine aA ?_|simp -dsimp only[↓RP,RQ,implies_true,forall_const,xa0,reduceIte,reduceCtorEq,xa1,xa2,xa3,xa4,e2,TYm,Int.toNat_natCast,Tryz.results171]))
  all_goals first|(exfalso;omega)|skip
  refine qi (qoY (u i) (u (i - 1))) Ωj Ωl ?_;(repeat' (first|refine sD ?_ ?_<;>intro _|refine aA ?_|simp -dsimp only[↓RP,RQ,implies_true,forall_const,xa0,reduceIte,reduceCtorEq,xa1,xa2,xa3,xa4,B,e2,TYm,Int.toNat_natCast,Tryz.results171]))
  ·refine Qd ?_
   rw[eq_comm,decide_eq_false_iff_not];intro h;have:=h (i - 1) Ω;rw[show i - 1+1=i by omega]at this;omega
  ·refine⟨i - 1,⟨Ω,fun j a b=>?_⟩,Ω,weak [] [] ?_ ?_ ?_⟩
   ·by_cases e:j=i - 1
    ·subst e;rw[show i - 1+1=i by omega];omega
    ·exact hj j Ω b
   ·(simp -dsimp only[↓RP,RQ,implies_true,forall_const,xa0,reduceIte,reduceCtorEq,xa1,xa2,xa3,xa4]);all_goals simp
   ·(simp -dsimp only[↓RP,RQ,implies_true,forall_const,xa0,reduceIte,reduceCtorEq,xa1,xa2,xa3,xa4])
   ·(simp -dsimp only[↓RP,RQ,implies_true,forall_const,xa0,reduceIte,reduceCtorEq,xa1,xa2,xa3,xa4])
 ·have hin:i=0:=by omega
  subst hin;(repeat' (first|refine sD ?_ ?_<;>intro _|refine aA ?_|simp -dsimp only[↓RP,RQ,implies_true,forall_const,xa0,reduceIte,reduceCtorEq,xa1,xa2,xa3,xa4,TYm,Int.toNat_natCast,Tryz.results171]))
  all_goals first|(exfalso;omega)|(refine Qd ?_;rw[eq_comm,decide_eq_true_iff];exact fun j h=>hj j (xb6 _) h)|skip
theorem c82(c:Curve)(hm:c.m≤1000000):qb Tryz.prog 82 [c.sv] (I c.err):=by
 refine qc Tryz.func82 rfl Ωb follows Ωb _ _ (by rw[Tryz.ntmps82];simp) (by simp[OldL,c.old]) ?_;unfold I
 conv=>arg 4;unfold Curve.sv ints
 (repeat' (first|refine sD ?_ ?_<;>intro _|refine aA ?_|simp -dsimp only[↓RP,RQ,implies_true,forall_const,xa0,reduceIte,reduceCtorEq,xa1,xa2,xa3,xa4,TYm,Tryz.results82]));refine qi (qmz c.m 1 6) Ωw Ωl ?_;(repeat' (first|refine sD ?_ ?_<;>intro _|refine aA ?_|simp -dsimp only[↓RP,RQ,implies_true,forall_const,xa0,reduceIte,reduceCtorEq,xa1,xa2,xa3,xa4,B,TYm,Tryz.results82]))
 rotate_left
 ·refine gv ?_;unfold Curve.err;rw[if_pos Ω]
 rename_i h1;refine qi (qmy c.m c.u 0 100 hm) Ωw Ωl ?_;(repeat' (first|refine sD ?_ ?_<;>intro _|refine aA ?_|simp -dsimp only[↓RP,RQ,implies_true,forall_const,xa0,reduceIte,reduceCtorEq,xa1,xa2,xa3,xa4,B,TYm,Tryz.results82]))
 rotate_left
 ·rename_i h2
  refine gv ?_;unfold Curve.err;rw[if_neg Ω,if_neg (show ¬(∀i,i<c.m→0≤c.u i∧c.u i≤100)from h2)]
 rename_i h2;refine qi (qoZ c.m c.u Ω hm) Ωw Ωl ?_;(repeat' (first|refine sD ?_ ?_<;>intro _|refine aA ?_|simp -dsimp only[↓RP,RQ,implies_true,forall_const,xa0,reduceIte,reduceCtorEq,xa1,xa2,xa3,xa4,B,TYm,Tryz.results82]))
 ·rename_i h3
  refine gv ?_;unfold Curve.err;rw[if_neg Ω,if_pos (show ∀i,i<c.m→0≤c.u i∧c.u i≤100 from h2),if_pos (show ∀i,i<c.m - 1→c.u i≤c.u (i+1)from h3)]
 ·rename_i h3
  refine gv ?_;unfold Curve.err;rw[if_neg Ω,if_pos (show ∀i,i<c.m→0≤c.u i∧c.u i≤100 from h2),if_neg (show ¬(∀i,i<c.m - 1→c.u i≤c.u (i+1))from h3)]
theorem qpa(n:Nat)(C:Nat→Curve)(hn:n≤1000)(hC:∀i,i<n→(C i).m≤1000000):qb Tryz.prog 112 [chn n C] (I (qbs C 0 n)):=by
 refine qc Tryz.func112 rfl Ωb follows Ωb _ _ (by rw[Tryz.ntmps112];simp) (by simp only[OldL,qcX,and_self]) ?_;unfold I
 conv=>arg 4;unfold chn
 (repeat' (first|refine sD ?_ ?_<;>intro _|refine aA ?_|simp -dsimp only[↓RP,RQ,implies_true,forall_const,xa0,reduceIte,reduceCtorEq,xa1,xa2,xa3,xa4,TYm,Int.toNat_natCast,Tryz.results112]));refine qj (fun(i:Nat)=>i≤n∧qbs C 0 n=qbs C i (n - i)) (fun i=>⟨[(0,.arr false false n 1 (fun i _=>.arr false false (C i).m 1 (fun j _=>.val (.int .i64 ((C i).u j))))),(5,.arr false false n 1 (fun i _=>.arr false false (C i).m 1 (fun j _=>.val (.int .i64 ((C i).u j))))),(6,.val (.int .i64 n)),(7,.val (.int .i64 i))],[],0⟩) (fun i=>n - i) 0 ⟨xb6 _,rfl⟩ (weak [] [] ?_ ?_ ?_) fun i hi=>?_
 ·(simp -dsimp only[↓RP,RQ,implies_true,forall_const,xa0,reduceIte,reduceCtorEq,xa1,xa2,xa3,xa4]);all_goals simp
 ·(simp -dsimp only[↓RP,RQ,implies_true,forall_const,xa0,reduceIte,reduceCtorEq,xa1,xa2,xa3,xa4])
 ·(simp -dsimp only[↓RP,RQ,implies_true,forall_const,xa0,reduceIte,reduceCtorEq,xa1,xa2,xa3,xa4])
 obtain⟨hi,he⟩:=hi;by_cases hlt:i<n
 ·have es:qbs C i (n - i)=if (C i).rErr=0 then qbs C (i+1) (n -(i+1))else(C i).rErr:=by
   rw[show n - i=(n -(i+1))+1 by omega];rfl
  have hm:=hC i hlt;(repeat' (first|refine sD ?_ ?_<;>intro _|refine aA ?_|simp -dsimp only[↓RP,RQ,implies_true,forall_const,xa0,reduceIte,reduceCtorEq,xa1,xa2,xa3,xa4,TYm,Int.toNat_natCast,Tryz.results112]))
  all_goals first|(exfalso;omega)|skip
  ·rename_i h60
   refine gv ?_;have:(C i).rErr=6:=by unfold Curve.rErr;rw[if_pos Ω]
   rw[he,es,this];rfl
  ·rename_i h60
   refine qi (qmy (C i).m (C i).u 0 10000 hm) Ωw Ωl ?_;(repeat' (first|refine sD ?_ ?_<;>intro _|refine aA ?_|simp -dsimp only[↓RP,RQ,implies_true,forall_const,xa0,reduceIte,reduceCtorEq,xa1,xa2,xa3,xa4,B,TYm,Int.toNat_natCast,Tryz.results112]))
   ·rename_i hin
    have e0:(C i).rErr=0:=by unfold Curve.rErr;rw[if_neg Ω,if_pos (show ∀j,j<(C i).m→0≤(C i).u j∧(C i).u j≤10000 from hin)]
    rw[if_pos e0]at es;refine⟨i+1,⟨Ω,by rw[he,es]⟩,Ω,weak [] [] ?_ ?_ ?_⟩
    ·(simp -dsimp only[↓RP,RQ,implies_true,forall_const,xa0,reduceIte,reduceCtorEq,xa1,xa2,xa3,xa4]);all_goals simp
    ·(simp -dsimp only[↓RP,RQ,implies_true,forall_const,xa0,reduceIte,reduceCtorEq,xa1,xa2,xa3,xa4])
    ·(simp -dsimp only[↓RP,RQ,implies_true,forall_const,xa0,reduceIte,reduceCtorEq,xa1,xa2,xa3,xa4])
   ·rename_i hin
    have e0:(C i).rErr=3:=by unfold Curve.rErr;rw[if_neg Ω,if_neg (show ¬∀j,j<(C i).m→0≤(C i).u j∧(C i).u j≤10000 from hin)]
    refine gv ?_;rw[he,es,e0];rfl
 ·have hin:i=n:=by omega
  subst hin;(repeat' (first|refine sD ?_ ?_<;>intro _|refine aA ?_|simp -dsimp only[↓RP,RQ,implies_true,forall_const,xa0,reduceIte,reduceCtorEq,xa1,xa2,xa3,xa4,TYm,Int.toNat_natCast,Tryz.results112]))
  all_goals first|(exfalso;omega)|skip
  refine gv ?_;rw[he,xb8];rfl
theorem qod(c:Curve)(hm:c.m≤1000)(hu:∀i,i<c.m→0≤c.u i∧c.u i≤1000000):zd Tryz.prog 113 [c.sv] (.rows 2 1 (c.m+1) (fun j _=>I (qv c.u j))) (.vec 0 (c.m+1) 1):=by
 refine jv Tryz.func113 rfl Ωb follows Ωb _ _ _ (by rw[Tryz.ntmps113];simp) (by simp[OldL,c.old]) ?_;unfold I
 conv=>arg 4;unfold Curve.sv ints
 have eT:((c.m:Int)+1).toNat=c.m+1:=by omega
 (repeat' (first|refine sD ?_ ?_<;>intro _|refine aA ?_|simp -dsimp only[↓RP,RQ,implies_true,forall_const,xa0,reduceIte,reduceCtorEq,xa1,xa2,xa3,xa4,eT,by2,TYm,Int.toNat_natCast,Tryz.results113]));refine⟨⟨xa5 _,rfl⟩,?_⟩;refine qj (fun(t:Nat)=>t≤c.m) (fun t=>⟨[(0,.arr false false c.m 1 (fun i _=>.val (.int .i64 (c.u i)))),(3,.vec 60 (c.m+1) 1),(11,.arr false false c.m 1 (fun i _=>.val (.int .i64 (c.u i)))),(12,.val (.int .i64 c.m)),(13,.val (.int .i64 t))],[(60,.rows 2 1 (c.m+1) (fun j _=>.val (.int .i64 (z1 (qv c.u) (t+1) j))))],61⟩) (fun t=>c.m - t) 0 (xb6 _) (weak [(60,some 4)] [] ?_ ?_ ?_) fun t ht=>?_
 ·(simp -dsimp only[↓RP,RQ,implies_true,forall_const,xa0,reduceIte,reduceCtorEq,xa1,xa2,xa3,xa4]);all_goals simp
 ·(simp -dsimp only[↓RP,RQ,implies_true,forall_const,xa0,reduceIte,reduceCtorEq,xa1,xa2,xa3,xa4]);all_goals (try simp)
  intro a _;unfold z1;by_cases e:a<1
  ·have:a=0:=by omega
   subst this;rfl
  ·rw[if_neg e]
 ·(simp -dsimp only[↓RP,RQ,implies_true,forall_const,xa0,reduceIte,reduceCtorEq,xa1,xa2,xa3,xa4]);all_goals simp
 by_cases hlt:t<c.m
 ·have b1:=GI c.u 1000000 Ω c.m hu t Ω
  have b2:=hu t hlt;have eP:(t:Int)+1=((t+1:Nat):Int):=by omega
  have e1:z1 (qv c.u) (t+1) t=qv c.u t:=Wf _ _ _ Ω;have e2:qv c.u t+c.u t=qv c.u (t+1):=rfl;(repeat' (first|refine sD ?_ ?_<;>intro _|refine aA ?_|simp -dsimp only[↓RP,RQ,implies_true,forall_const,xa0,reduceIte,reduceCtorEq,xa1,xa2,xa3,xa4,eP,e1,e2,eT,by2,TYm,Int.toNat_natCast,Tryz.results113]))
  all_goals first|(exfalso;omega)|skip
  refine⟨t+1,Ω,Ω,weak [] [] ?_ ?_ ?_⟩
  ·(simp -dsimp only[↓RP,RQ,implies_true,forall_const,xa0,reduceIte,reduceCtorEq,xa1,xa2,xa3,xa4]);all_goals simp
  ·(simp -dsimp only[↓RP,RQ,implies_true,forall_const,xa0,reduceIte,reduceCtorEq,xa1,xa2,xa3,xa4]);all_goals (try simp)
   exact fun a ha=>qbr (qv c.u) (t+1) a
  ·(simp -dsimp only[↓RP,RQ,implies_true,forall_const,xa0,reduceIte,reduceCtorEq,xa1,xa2,xa3,xa4]);all_goals simp
 ·have hte:t=c.m:=by omega
  subst hte;(repeat' (first|refine sD ?_ ?_<;>intro _|refine aA ?_|simp -dsimp only[↓RP,RQ,implies_true,forall_const,xa0,reduceIte,reduceCtorEq,xa1,xa2,xa3,xa4,eT,by2,TYm,Int.toNat_natCast,Tryz.results113]))
  all_goals first|(exfalso;omega)|skip
  refine⟨60,_,rfl,?_,?_⟩
  ·(simp -dsimp only[↓RP,RQ,implies_true,forall_const,xa0,reduceIte,reduceCtorEq,xa1,xa2,xa3,xa4,I]);all_goals (try simp)
   exact fun a ha=>Wf _ _ _ ha
  ·(simp -dsimp only[↓RP,RQ,implies_true,forall_const,xa0,reduceIte,reduceCtorEq,xa1,xa2,xa3,xa4])
theorem c84(c:Curve)(h:c.Fine)(N:Nat)(A:Nat→Int)(hN:N≤400)(hA:∀i,i<N→0≤A i∧A i≤1000000000):zd Tryz.prog 84 [c.sv,ints N A] (.rows 2 1 N (fun j _=>I (lz A c.L1 j))) (.vec 0 N 1):=by
 refine jv Tryz.func84 rfl Ωb follows Ωb _ _ _ (by rw[Tryz.ntmps84];simp) (by simp[OldL,Old,c.old,ints]) ?_;unfold I
 conv=>arg 4;unfold Curve.sv ints
 have hL:∀i,i<N→0≤c.L1 i∧c.L1 i≤1000000000:=fun i hi=>by have:=vz c h i Ω;omega
 (repeat' (first|refine sD ?_ ?_<;>intro _|refine aA ?_|simp -dsimp only[↓RP,RQ,implies_true,forall_const,xa0,reduceIte,reduceCtorEq,xa1,xa2,xa3,xa4,by2,TYm,Int.toNat_natCast,Tryz.results84]));refine⟨⟨.inr trivial,xa5 _⟩,?_⟩;refine qj (fun(t:Nat)=>t≤N) (fun t=>⟨[(0,.arr false false c.m 1 (fun i _=>.val (.int .i64 (c.u i)))),(1,.arr false false N 1 (fun i _=>.val (.int .i64 (A i)))),(5,.vec 60 N 1),(15,.val (.int .i64 N)),(16,.val (.int .i64 t))],[(60,.rows 2 1 N (fun j _=>.val (.int .i64 (w1 A c.L1 t j))))],61⟩) (fun t=>N - t) 0 (xb6 _) (weak [(60,some 3)] [] ?_ ?_ ?_) fun t ht=>?_
 ·(simp -dsimp only[↓RP,RQ,implies_true,forall_const,xa0,reduceIte,reduceCtorEq,xa1,xa2,xa3,xa4]);all_goals simp
 ·(simp -dsimp only[↓RP,RQ,implies_true,forall_const,xa0,reduceIte,reduceCtorEq,xa1,xa2,xa3,xa4,qkt]);all_goals (try simp)
  exact fun a h1 h2=>absurd h1 Ω
 ·(simp -dsimp only[↓RP,RQ,implies_true,forall_const,xa0,reduceIte,reduceCtorEq,xa1,xa2,xa3,xa4]);all_goals simp
 by_cases hlt:t<N
 ·(repeat' (first|refine sD ?_ ?_<;>intro _|refine aA ?_|simp -dsimp only[↓RP,RQ,implies_true,forall_const,xa0,reduceIte,reduceCtorEq,xa1,xa2,xa3,xa4,I,by2,TYm,Int.toNat_natCast,Tryz.results84]))
  all_goals first|(exfalso;omega)|skip
  refine qj (fun(U:Nat)=>U≤t) (fun U=>⟨[(0,.arr false false c.m 1 (fun i _=>.val (.int .i64 (c.u i)))),(1,.arr false false N 1 (fun i _=>.val (.int .i64 (A i)))),(5,.vec 60 N 1),(15,.val (.int .i64 N)),(16,.val (.int .i64 t)),(6,.val (.int .i64 t)),(19,.val (.int .i64 t)),(20,.val (.int .i64 U))],[(60,.rows 2 1 N (fun j _=>.val (.int .i64 (w2 A c.L1 t U j))))],61⟩) (fun U=>t - U) 0 (xb6 _) (weak [] [] ?_ ?_ ?_) fun U hU=>?_
  ·(simp -dsimp only[↓RP,RQ,implies_true,forall_const,xa0,reduceIte,reduceCtorEq,xa1,xa2,xa3,xa4]);all_goals simp
  ·(simp -dsimp only[↓RP,RQ,implies_true,forall_const,xa0,reduceIte,reduceCtorEq,xa1,xa2,xa3,xa4,qnZ]);all_goals (try simp)
  ·(simp -dsimp only[↓RP,RQ,implies_true,forall_const,xa0,reduceIte,reduceCtorEq,xa1,xa2,xa3,xa4]);all_goals simp
  by_cases hU2:U<t
  ·have er:(t:Int) -(U:Int)=((t - U:Nat):Int):=by omega
   have b0:=GJ A c.L1 N t hlt hA hL U hU;have b1:=hA U Ω;have b2:=vz c h (t - U) Ω;have e1:=qoa A c.L1 t U;have e2:lzTo A c.L1 t (U+1)=min (lzTo A c.L1 t U) (A U+c.L1 (t - U)):=rfl;(repeat' (first|refine sD ?_ ?_<;>intro _|refine aA ?_|simp -dsimp only[↓RP,RQ,implies_true,forall_const,xa0,reduceIte,reduceCtorEq,xa1,xa2,xa3,xa4,er,e1,I,by2,TYm,Int.toNat_natCast,Tryz.results84]))
   all_goals first|(exfalso;omega)|skip
   refine qi (qms c h (t - U) Ω) Ωn Ωj ?_;(repeat' (first|refine sD ?_ ?_<;>intro _|refine aA ?_|simp -dsimp only[↓RP,RQ,implies_true,forall_const,xa0,reduceIte,reduceCtorEq,xa1,xa2,xa3,xa4,er,e1,I,by2,TYm,Int.toNat_natCast,Tryz.results84]))
   all_goals first|(exfalso;omega)|skip
   refine⟨U+1,Ω,Ω,weak [] [] ?_ ?_ ?_⟩
   ·(simp -dsimp only[↓RP,RQ,implies_true,forall_const,xa0,reduceIte,reduceCtorEq,xa1,xa2,xa3,xa4]);all_goals simp
   ·(simp -dsimp only[↓RP,RQ,implies_true,forall_const,xa0,reduceIte,reduceCtorEq,xa1,xa2,xa3,xa4]);all_goals (try simp)
    rw[←e2];exact fun a ha=>qmu A c.L1 t U a
   ·(simp -dsimp only[↓RP,RQ,implies_true,forall_const,xa0,reduceIte,reduceCtorEq,xa1,xa2,xa3,xa4]);all_goals simp
  ·have hUe:U=t:=by omega
   subst hUe;(repeat' (first|refine sD ?_ ?_<;>intro _|refine aA ?_|simp -dsimp only[↓RP,RQ,implies_true,forall_const,xa0,reduceIte,reduceCtorEq,xa1,xa2,xa3,xa4,I,by2,TYm,Int.toNat_natCast,Tryz.results84]))
   all_goals first|(exfalso;omega)|skip
   refine⟨U+1,Ω,Ω,weak [] [] ?_ ?_ ?_⟩
   ·(simp -dsimp only[↓RP,RQ,implies_true,forall_const,xa0,reduceIte,reduceCtorEq,xa1,xa2,xa3,xa4]);all_goals simp
   ·(simp -dsimp only[↓RP,RQ,implies_true,forall_const,xa0,reduceIte,reduceCtorEq,xa1,xa2,xa3,xa4,qmt]);all_goals (try simp)
   ·(simp -dsimp only[↓RP,RQ,implies_true,forall_const,xa0,reduceIte,reduceCtorEq,xa1,xa2,xa3,xa4]);all_goals simp
 ·have hte:t=N:=by omega
  subst hte;(repeat' (first|refine sD ?_ ?_<;>intro _|refine aA ?_|simp -dsimp only[↓RP,RQ,implies_true,forall_const,xa0,reduceIte,reduceCtorEq,xa1,xa2,xa3,xa4,I,by2,TYm,Int.toNat_natCast,Tryz.results84]))
  all_goals first|(exfalso;omega)|skip
  refine⟨60,_,rfl,?_,?_⟩
  ·(simp -dsimp only[↓RP,RQ,implies_true,forall_const,xa0,reduceIte,reduceCtorEq,xa1,xa2,xa3,xa4,I]);all_goals (try simp)
   exact fun a ha=>qmv _ _ _ _ ha
  ·(simp -dsimp only[↓RP,RQ,implies_true,forall_const,xa0,reduceIte,reduceCtorEq,xa1,xa2,xa3,xa4])
theorem qhY{a n:Nat}(h:a<n):(a=n)=False:=by simp;omega
theorem qhZ{a n:Nat}(h:a<n):(n=a)=False:=by simp;omega
theorem Wg{a b n:Nat}(hab:a≠b)(ha:a<n)(hb:b<n):((a=b)=False∧(b=a)=False)∧((∀k,(a=n+k)=False)∧(∀k,(n+k=a)=False)∧(a=n)=False∧(n=a)=False)∧((∀k,(b=n+k)=False)∧(∀k,(n+k=b)=False)∧(b=n)=False∧(n=b)=False):=
 ⟨⟨by simp[hab],by simp[Ne.symm hab]⟩,⟨qgI ha,qgJ ha,qhY ha,qhZ ha⟩,⟨qgI hb,qgJ hb,qhY hb,qhZ hb⟩⟩
theorem qmA{a b c n:Nat}(hab:a≠b)(hac:a≠c)(hbc:b≠c)(ha:a<n)(hb:b<n)(hc:c<n):(((a=b)=False∧(b=a)=False)∧((a=c)=False∧(c=a)=False)∧((b=c)=False∧(c=b)=False))∧((∀k,(a=n+k)=False)∧(∀k,(n+k=a)=False)∧(a=n)=False∧(n=a)=False)∧((∀k,(b=n+k)=False)∧(∀k,(n+k=b)=False)∧(b=n)=False∧(n=b)=False)∧((∀k,(c=n+k)=False)∧(∀k,(n+k=c)=False)∧(c=n)=False∧(n=c)=False):=
 ⟨⟨⟨by simp[hab],by simp[Ne.symm hab]⟩,⟨by simp[hac],by simp[Ne.symm hac]⟩,⟨by simp[hbc],by simp[Ne.symm hbc]⟩⟩,⟨qgI ha,qgJ ha,qhY ha,qhZ ha⟩,⟨qgI hb,qgJ hb,qhY hb,qhZ hb⟩,⟨qgI hc,qgJ hc,qhY hc,qhZ hc⟩⟩
theorem e83(a d:Curve)(ha:a.m≤1000000)(hd:d.m≤1000000)(id:Nat):EffVC Tryz.prog 83 [a.sv,d.sv] [] id (fun hp' nid' res=>
  (gE a d≠0∧hp'=[]∧id≤nid'∧res=.tup [.val (.slice none 0 0),.val (.slice none 0 0),I (gE a d)])∨
  (gE a d=0∧∃ia ib,ia≠ib∧ia<nid'∧ib<nid'∧id≤ia∧id≤ib∧hp'=[(ib,GM (a.m+1) d.S),(ia,GM (a.m+1) a.S)]∧res=.tup [.vec ia (a.m+1) 1,.vec ib (a.m+1) 1,I 0])):=by
 refine wK follows Tryz.func83 rfl Ωb Ωb (by rw[Tryz.ntmps83];simp) fun out=>?_;unfold Curve.sv ints;(repeat' (first|refine sD ?_ ?_<;>intro _|refine aA ?_|simp -dsimp only[↓RP,RQ,implies_true,forall_const,xa0,reduceIte,reduceCtorEq,xa1,xa2,xa3,xa4,QS,TYm,Int.toNat_natCast,Tryz.results83]));refine qi (qpa 2 (two a d) Ω (fun i hi=>by
  have:i=0∨i=1:=by omega
  rcases this with rfl|rfl
  ·exact ha
  ·exact hd)) ?_ Ωj ?_
 ·(simp -dsimp only[↓RP,RQ,implies_true,forall_const,xa0,reduceIte,reduceCtorEq,xa1,xa2,xa3,xa4,chn])
  intro i j hi hj;have:=qku a d i j hi hj;unfold Curve.sv ints at this;rw[this];exact ku _ (two a d i).old
 rw[qhR];(repeat' (first|refine sD ?_ ?_<;>intro _|refine aA ?_|simp -dsimp only[↓RP,RQ,implies_true,forall_const,xa0,reduceIte,reduceCtorEq,xa1,xa2,xa3,xa4,I,QS,Nat.add_lt_add_iff_left,TYm,Int.toNat_natCast,Tryz.results83]))
 rotate_left 2
 ·rename_i hp
  refine⟨[],_,_,gt (fr':=[(0,_)]) ⟨.inr rfl,trivial⟩ (fun k x hx=>by simp[blk]at hx),.inl ⟨?_,rfl,Ω,?_⟩⟩
  ·rw[qhQ hp];exact hp
  ·rw[qhQ hp];rfl
 rotate_left
 ·rename_i hp hm
  obtain⟨h1,h2⟩:=YK hp;have e0:gE a d=15:=by unfold gE;rw[if_pos h1,if_pos h2,if_neg Ω]
  refine⟨[],_,_,gt (fr':=[(0,_)]) ⟨.inr rfl,trivial⟩ (fun k x hx=>by simp[blk]at hx),.inl ⟨?_,rfl,Ω,?_⟩⟩
  ·rw[e0];omega
  ·rw[e0];rfl
 rename_i hp hm;obtain⟨h1,h2⟩:=YK hp;have ra:=Q3 h1;have rd:=Q3 h2;have a60:=ra.m60;have d60:=rd.m60;have hm:a.m=d.m:=by omega
 have e0:gE a d=if jD a d then 0 else 14:=by unfold gE;rw[if_pos h1,if_pos h2,if_pos hm]
 refine JJ (qod a Ω (fun i hi=>by have:=ra.rg i hi;omega)) Ωn Ωp Ωp ?_;(repeat' (first|refine sD ?_ ?_<;>intro _|refine aA ?_|simp -dsimp only[↓RP,RQ,implies_true,forall_const,xa0,reduceIte,reduceCtorEq,xa1,xa2,xa3,xa4,I,QS,Nat.add_lt_add_iff_left,TYm,Int.toNat_natCast,Tryz.results83]));refine JJ (qod d Ω (fun i hi=>by have:=rd.rg i hi;omega)) Ωn Ωp Ωp ?_;(repeat' (first|refine sD ?_ ?_<;>intro _|refine aA ?_|simp -dsimp only[↓RP,RQ,implies_true,forall_const,xa0,reduceIte,reduceCtorEq,xa1,xa2,xa3,xa4,I,QS,Nat.add_lt_add_iff_left,TYm,Int.toNat_natCast,Tryz.results83]));refine qj (fun(x:Nat×Nat)=>x.1≤a.m+1∧id+22≤x.2∧∀j,j<x.1→d.S j≤a.S j) (fun x=>⟨[(8,.vec (id+18) (a.m+1) 1),(9,.vec (id+20) (d.m+1) 1),(30,.val (.int .i64 ((a.m+1:Nat):Int))),(31,.val (.int .i64 x.1))],[(id+20,GM (d.m+1) d.S),(id+18,GM (a.m+1) a.S)],x.2⟩) (fun x=>a.m+1 - x.1) (0,_) ⟨xb6 _,?_,fun j hj=>by simp only[]at hj;omega⟩ (gt ?_ ?_) fun x hx=>?_
 rotate_left
 ·simp[qM,Go.Sx.look]
 ·refine SubHp.cons (SubHp.cons (fun k x hx=>by simp[blk]at hx))
 rotate_left
 ·simp only[];omega
 obtain⟨t,nid⟩:=x;obtain⟨ht,hn,hj⟩:=hx
 replace ht:t≤a.m+1:=ht
 replace hn:id+22≤nid:=hn
 replace hj:∀j,j<t→d.S j≤a.S j:=hj
 by_cases hlt:t<a.m+1
 ·(repeat' (first|refine sD ?_ ?_<;>intro _|refine aA ?_|simp -dsimp only[↓RP,RQ,implies_true,forall_const,xa0,reduceIte,reduceCtorEq,xa1,xa2,xa3,xa4,I,QS,Nat.add_lt_add_iff_left,TYm,Int.toNat_natCast,Tryz.results83]))
  all_goals first|(exfalso;omega)|skip
  ·rename_i hgt
   have hnm:¬jD a d:=fun h=>by have:d.S t≤a.S t:=h t hlt;omega
   rw[if_neg hnm]at e0;refine⟨[],_,_,gt (fr':=[(0,_)]) ⟨.inr rfl,trivial⟩ (fun k x hx=>by simp[blk]at hx),.inl ⟨?_,rfl,Ω,?_⟩⟩
   ·rw[e0];omega
   ·rw[e0];rfl
  ·rename_i hgt
   refine⟨(t+1,_),⟨by simp only[];omega,?_,fun j hj2=>?_⟩,by simp only[];omega,gt ?_ ?_⟩
   rotate_left 2
   ·simp[qM,Go.Sx.look]
   ·exact SubHp.refl _
   ·simp only[];omega
   ·by_cases e:j=t
    ·subst e;show d.S j≤a.S j;omega
    ·exact hj j (by simp only[]at hj2;omega)
 ·have hte:t=a.m+1:=by omega
  subst hte;rw[if_pos (show jD a d from hj)]at e0;(repeat' (first|refine sD ?_ ?_<;>intro _|refine aA ?_|simp -dsimp only[↓RP,RQ,implies_true,forall_const,xa0,reduceIte,reduceCtorEq,xa1,xa2,xa3,xa4,I,QS,Nat.add_lt_add_iff_left,TYm,Int.toNat_natCast,Tryz.results83]))
  all_goals first|(exfalso;omega)|skip
  refine⟨_,_,_,gt (fr':=[(0,_)]) ⟨.inr rfl,trivial⟩ (SubHp.refl _),.inr ⟨e0,id+18,id+20,Ω,Ω,Ω,Ω,Ω,?_,?_⟩⟩
  ·rw[hm]
  ·rw[hm];rfl
theorem c20(c a d:Curve)(hm:c.m≤1000000)(hm2:a.m≤1000000)(hm3:d.m≤1000000):qb Tryz.prog 20 [c.sv,a.sv,d.sv] (I (gh c a d)):=by
 refine qc Tryz.func20 rfl Ωb follows Ωb _ _ (by rw[Tryz.ntmps20];simp) (by simp[OldL,c.old,a.old,d.old]) ?_;unfold I
 conv=>arg 4;unfold Curve.sv ints
 (repeat' (first|refine sD ?_ ?_<;>intro _|refine aA ?_|simp -dsimp only[↓RP,RQ,implies_true,forall_const,xa0,reduceIte,reduceCtorEq,xa1,xa2,xa3,xa4,TYm,Tryz.results20]));refine qi (c82 c hm) Ωn Ωj ?_;(repeat' (first|refine sD ?_ ?_<;>intro _|refine aA ?_|simp -dsimp only[↓RP,RQ,implies_true,forall_const,xa0,reduceIte,reduceCtorEq,xa1,xa2,xa3,xa4,I,TYm,Tryz.results20]))
 rotate_left
 ·rename_i he
  refine gv ?_;unfold gh;rw[if_neg he]
 rename_i he;have hc:=Curve.fine he;refine jS (by rfl) (e83 a d hm2 hm3 _) fun hp' nid0 res hq=>?_;rcases hq with⟨hr,r1,r2,r3⟩|⟨hr,ia,ib,hab,h1,h2,h3,h4,r1,r2⟩
 ·subst r1 r3
  (repeat' (first|refine sD ?_ ?_<;>intro _|refine aA ?_|simp -dsimp only[↓RP,RQ,implies_true,forall_const,xa0,reduceIte,reduceCtorEq,xa1,xa2,xa3,xa4,I,TYm,Tryz.results20]))
  ·rename_i h0
   exact absurd h0 hr
  ·refine gv ?_;unfold gh;rw[if_pos he,if_neg hr]
 subst r1 r2;have e0:gh c a d=if ∀t,t<a.m+1→qeO c a t≤d.S t then 0 else 18:=by unfold gh;rw[if_pos he,if_pos hr]
 rw[e0];obtain⟨ha,hd,hm,hnm⟩:=YL hr;have a60:=ha.m60;have d60:=hd.m60;have NB:=Wg (a:=ia) (b:=ib) (n:=nid0) hab h1 h2;(repeat' (first|refine sD ?_ ?_<;>intro _|refine aA ?_|simp -dsimp only[↓RP,RQ,implies_true,forall_const,xa0,reduceIte,reduceCtorEq,xa1,xa2,xa3,xa4,NB,I,decide_true,Bool.not_true,TYm,Int.toNat_natCast,xb1,xb2,Tryz.results20]));refine callN (c84 c hc (a.m+1) a.S Ω (fun i hi=>by have:=Q4 ha i Ω;omega)) (by(simp -dsimp only[↓RP,RQ,implies_true,forall_const,xa0,reduceIte,reduceCtorEq,xa1,xa2,xa3,xa4,NB,Curve.sv,ints,I]);all_goals simp) Ωp Ωp ?_;(repeat' (first|refine sD ?_ ?_<;>intro _|refine aA ?_|simp -dsimp only[↓RP,RQ,implies_true,forall_const,xa0,reduceIte,reduceCtorEq,xa1,xa2,xa3,xa4,NB,I,TYm,Int.toNat_natCast,xb1,xb2,Tryz.results20]));obtain⟨iz,hiz⟩:∃iz,iz=nid0+14:=⟨_,rfl⟩;rw[←hiz];refine qj (fun(x:Nat×Nat)=>x.1≤a.m+1∧nid0+15≤x.2∧∀j,j<x.1→qeO c a j≤d.S j) (fun x=>⟨[(9,.vec ib (a.m+1) 1),(30,.vec iz (a.m+1) 1),(31,.val (.int .i64 ((a.m+1:Nat):Int))),(32,.val (.int .i64 x.1))],[(iz,GM (a.m+1) (qeO c a)),(ib,GM (a.m+1) d.S),(ia,GM (a.m+1) a.S)],x.2⟩) (fun x=>a.m+1 - x.1) (0,_) ⟨xb6 _,?_,fun j hj=>absurd hj (Nat.not_lt_zero _)⟩ (gt ?_ ?_) fun x hx=>?_
 rotate_left
 ·simp[qM,Go.Sx.look]
 ·exact SubHp.refl _
 rotate_left
 ·simp only[];omega
 obtain⟨i,nid⟩:=x;obtain⟨hi,hn,hj⟩:=hx
 replace hi:i≤a.m+1:=hi
 replace hn:nid0+15≤nid:=hn
 replace hj:∀j,j<i→qeO c a j≤d.S j:=hj
 have NB:=qmA (a:=iz) (b:=ib) (c:=ia) (n:=nid) Ω Ω Ω Ω Ω Ω;by_cases hlt:i<a.m+1
 ·(repeat' (first|refine sD ?_ ?_<;>intro _|refine aA ?_|simp -dsimp only[↓RP,RQ,implies_true,forall_const,xa0,reduceIte,reduceCtorEq,xa1,xa2,xa3,xa4,NB,I,TYm,Int.toNat_natCast,xb1,xb2,Tryz.results20]))
  all_goals first|(exfalso;omega)|skip
  ·rename_i hgt
   refine gv ?_;rw[if_neg (fun h=>by have:=h i hlt;omega)]
  ·rename_i hgt
   refine⟨(i+1,_),⟨by simp only[];omega,?_,fun j hj2=>?_⟩,by simp only[];omega,gt ?_ ?_⟩
   rotate_left 2
   ·simp[qM,Go.Sx.look]
   ·exact SubHp.refl _
   ·simp only[];omega
   ·by_cases e:j=i
    ·subst e;omega
    ·exact hj j (by simp only[]at hj2;omega)
 ·have hie:i=a.m+1:=by omega
  subst hie;rw[if_pos hj];(repeat' (first|refine sD ?_ ?_<;>intro _|refine aA ?_|simp -dsimp only[↓RP,RQ,implies_true,forall_const,xa0,reduceIte,reduceCtorEq,xa1,xa2,xa3,xa4,NB,I,TYm,Int.toNat_natCast,xb1,xb2,Tryz.results20]))
  all_goals first|(exfalso;omega)|skip
theorem c21(a d:Curve)(hm2:a.m≤1000000)(hm3:d.m≤1000000):qb Tryz.prog 21 [a.sv,d.sv] (tup3 (GN a d)):=by
 refine qc Tryz.func21 rfl Ωb follows Ωb _ _ (by rw[Tryz.ntmps21];simp) (by simp[OldL,a.old,d.old]) ?_;unfold tup3 I
 conv=>arg 4;unfold Curve.sv ints
 (repeat' (first|refine sD ?_ ?_<;>intro _|refine aA ?_|simp -dsimp only[↓RP,RQ,implies_true,forall_const,xa0,reduceIte,reduceCtorEq,xa1,xa2,xa3,xa4,TYm,Tryz.results21]));refine jS (by rfl) (e83 a d hm2 hm3 _) fun hp' nid0 res hq=>?_;rcases hq with⟨hr,r1,r2,r3⟩|⟨hr,ia,ib,hab,h1,h2,h3,h4,r1,r2⟩
 ·subst r1 r3
  (repeat' (first|refine sD ?_ ?_<;>intro _|refine aA ?_|simp -dsimp only[↓RP,RQ,implies_true,forall_const,xa0,reduceIte,reduceCtorEq,xa1,xa2,xa3,xa4,I,TYm,Tryz.results21]))
  ·rename_i h0
   exact absurd h0 hr
  ·unfold GN;rw[if_neg hr]
   exact⟨rfl,rfl,rfl⟩
 subst r1 r2;have e0:GN a d=if a.S a.m=d.S a.m then(kG a d (a.m+1),kH a d (a.m+1),0)else(0,0,18):=by unfold GN;rw[if_pos hr]
 rw[e0];obtain⟨ha,hd,hm,hnm⟩:=YL hr;have a60:=ha.m60;have d60:=hd.m60;have NB:=Wg (a:=ia) (b:=ib) (n:=nid0) hab h1 h2;(repeat' (first|refine sD ?_ ?_<;>intro _|refine aA ?_|simp -dsimp only[↓RP,RQ,implies_true,forall_const,xa0,reduceIte,reduceCtorEq,xa1,xa2,xa3,xa4,decide_true,Bool.not_true,NB,I,TYm,Int.toNat_natCast,xb1,xb2,Tryz.results21]))
 all_goals first|(exfalso;omega)|skip
 rotate_left
 ·rename_i he
  rw[if_neg he];exact⟨rfl,rfl,rfl⟩
 rename_i he;rw[if_pos he];have hSa:=fun k hk=>Q4 ha k hk;have hSd:=fun k hk=>Q4 hd k hk;refine qj (fun(x:Nat×Nat)=>x.1≤a.m+1∧nid0≤x.2) (fun x=>⟨[(7,.vec ia (a.m+1) 1),(8,.vec ib (a.m+1) 1),(11,.val (.int .i64 (kH a d x.1))),(38,.val (.int .i64 ((a.m+1:Nat):Int))),(39,.val (.int .i64 x.1)),(10,.val (.int .i64 (kG a d x.1))),(12,.val (.int .i64 (atP a d x.1)))],[(ib,GM (a.m+1) d.S),(ia,GM (a.m+1) a.S)],x.2⟩) (fun x=>a.m+1 - x.1) (0,_) ⟨xb6 _,?_⟩ (gt ?_ ?_) fun x hx=>?_
 rotate_left
 ·simp[qM,Go.Sx.look,kH,kG,atP]
 ·exact SubHp.refl _
 rotate_left
 ·simp only[];omega
 obtain⟨t,nid⟩:=x;obtain⟨ht,hn⟩:=hx
 replace ht:t≤a.m+1:=ht
 replace hn:nid0≤nid:=hn
 have NB:=Wg (a:=ia) (b:=ib) (n:=nid) hab Ω Ω;by_cases hlt:t<a.m+1
 ·obtain⟨f1,f2,f3,f4⟩:=Q5 ha he t Ω
  have w1:=Q6 ha hd hm t Ω;have w2:=Q7 ha he t Ω;have b1:=hSa t Ω;have b2:=hSd t Ω;have eW:kG a d (t+1)=max (kG a d t) (a.S t - d.S t):=rfl;have eL:kH a d (t+1)=max (kH a d t) ((atF a d t:Int) - t):=rfl;have hp:=qmw ha he t Ω;(repeat' (first|refine sD ?_ ?_<;>intro _|refine aA ?_|simp -dsimp only[↓RP,RQ,implies_true,forall_const,xa0,reduceIte,reduceCtorEq,xa1,xa2,xa3,xa4,NB,I,TYm,Int.toNat_natCast,xb1,xb2,Tryz.results21]))
  all_goals first|(exfalso;omega)|skip
  refine qj (fun(x:Nat×Nat)=>x.1≤atF a d t∧nid0≤x.2) (fun x=>⟨[(7,.vec ia (a.m+1) 1),(8,.vec ib (a.m+1) 1),(11,.val (.int .i64 (kH a d t))),(38,.val (.int .i64 ((a.m+1:Nat):Int))),(39,.val (.int .i64 t)),(10,.val (.int .i64 (kG a d (t+1)))),(12,.val (.int .i64 x.1)),(13,.val (.int .i64 t))],[(ib,GM (a.m+1) d.S),(ia,GM (a.m+1) a.S)],x.2⟩) (fun x=>atF a d t - x.1) (atP a d t,_) ⟨hp,?_⟩ (gt ?_ ?_) fun x hx=>?_
  rotate_left
  ·simp[qM,Go.Sx.look,eW]
  ·exact SubHp.refl _
  rotate_left
  ·simp only[];omega
  obtain⟨x,nid⟩:=x;obtain⟨hx,hn⟩:=hx
  replace hx:x≤atF a d t:=hx
  replace hn:nid0≤nid:=hn
  have NB:=Wg (a:=ia) (b:=ib) (n:=nid) hab Ω Ω;have b3:=hSd x Ω;(repeat' (first|refine sD ?_ ?_<;>intro _|refine aA ?_|simp -dsimp only[↓RP,RQ,implies_true,forall_const,xa0,reduceIte,reduceCtorEq,xa1,xa2,xa3,xa4,NB,I,TYm,Int.toNat_natCast,xb1,xb2,Tryz.results21]))
  all_goals first|(exfalso;omega)|skip
  ·rename_i hxt
   refine⟨(x+1,_),⟨by simp only[];omega,?_⟩,by simp only[];omega,gt ?_ ?_⟩
   rotate_left
   ·simp[qM,Go.Sx.look]
   ·exact SubHp.refl _
   ·simp only[];omega
  ·rename_i hxt hdx
   have hne:x≠atF a d t:=fun e=>by rw[←e]at f3;omega
   refine⟨(x+1,_),⟨by simp only[];omega,?_⟩,by simp only[];omega,gt ?_ ?_⟩
   rotate_left
   ·simp[qM,Go.Sx.look]
   ·exact SubHp.refl _
   ·simp only[];omega
  ·rename_i hxt hdx _
   have hxe:x=atF a d t:=Nat.le_antisymm hx (atF_le ha he t x Ω Ω Ω);refine⟨(t+1,_),⟨by simp only[];omega,?_⟩,by simp only[];omega,gt ?_ ?_⟩
   rotate_left
   ·simp only[qM,Go.Sx.look,eL,←hxe,show atP a d (t+1)=x from hxe.symm]
    simp
   ·exact SubHp.refl _
   ·simp only[];omega
 ·have hte:t=a.m+1:=by omega
  subst hte;(repeat' (first|refine sD ?_ ?_<;>intro _|refine aA ?_|simp -dsimp only[↓RP,RQ,implies_true,forall_const,xa0,reduceIte,reduceCtorEq,xa1,xa2,xa3,xa4,NB,I,TYm,Int.toNat_natCast,xb1,xb2,Tryz.results21]))
  all_goals first|(exfalso;omega)|skip
end Go.Tl
end
section
namespace Go.Tn
open Go.Proofs
open Go.RowKit Go.Sx
open Go.He (zP Kr mem_lst vx)
theorem wZ{l:List Nat}{j:Nat}(h:j<l.length):l.getD j 0=l[j]:=by simp[xc6,h]
theorem Q9(l:List Nat)(r:Nat):yF l.length (fun i=>(l.getD i 0:Nat)) (r:Nat)=decide (r∈l):=by
 unfold yF;rw[Bool.eq_iff_iff,decide_eq_true_eq,decide_eq_true_eq];constructor
 ·rintro⟨i,h1,h2⟩
  have h3:=of_decide_eq_true h2;dsimp only at h3;rw[wZ h1]at h3;have:r=l[i]:=by omega
  rw[this];exact List.getElem_mem h1
 ·intro h
  obtain⟨i,h1,h2⟩:=List.getElem_of_mem h;exact⟨i,h1,decide_eq_true (by dsimp only;rw[wZ h1,h2])⟩
def nxS(n:Nat)(l:List Nat)(v:Nat)(s:Nat→Int):Nat→Int:=upN (plW (fun i=>yF l.length (fun i=>(l.getD i 0:Nat)) (i:Nat)) (wj n s) n) v 0
def Jn(n:Nat)(l:List Nat)(v:Nat)(s:Nat→Int):Int:=plW (fun i=>yF l.length (fun i=>(l.getD i 0:Nat)) (i:Nat)) (wj n s) n v
theorem Kv{n:Nat}{l:List Nat}{s:Nat→Int}{r:Nat}(hr:r<n):plW (fun i=>yF l.length (fun i=>(l.getD i 0:Nat)) (i:Nat)) (wj n s) n r=s r+if r∈l then 1 else 0:=by
 unfold plW;dsimp only;rw[Q1 hr];have e:=Q9 l r;by_cases c:r∈l
 ·rw[decide_eq_true c]at e
  rw[if_pos ⟨hr,e⟩,if_pos c]
 ·rw[decide_eq_false c]at e
  rw[if_neg (fun x=>by rw[e]at x;exact absurd x.2 ΩB),if_neg c,Int.add_zero]
theorem qmB{n:Nat}{l:List Nat}{v:Nat}{s u:Nat→Int}(hs:∀i,i<n→0≤s i∧s i≤u i)(ho:okP (fun i=>yF l.length (fun i=>(l.getD i 0:Nat)) (i:Nat)) (wj n s) u n):∀i,i<n→0≤nxS n l v s i∧nxS n l v s i≤u i:=by
 intro i hi;have h1:=hs i hi;unfold nxS upN;split
 ·omega
 ·have h2:=ho i hi
  dsimp only at h2;rw[Q9,decide_eq_true_eq,Q1 hi]at h2;rw[Kv hi];split
  ·rename_i c;have:=h2 c;omega
  ·omega
theorem qkx{n:Nat}{l:List Nat}{v:Nat}{s u:Nat→Int}(hv:v<n)(hs:∀i,i<n→0≤s i∧s i≤u i)(ho:okP (fun i=>yF l.length (fun i=>(l.getD i 0:Nat)) (i:Nat)) (wj n s) u n):0≤Jn n l v s∧Jn n l v s≤u v:=by
 have h1:=hs v hv;unfold Jn;have h2:=ho v hv;dsimp only at h2;rw[Q9,decide_eq_true_eq,Q1 hv]at h2;rw[Kv hv];split
 ·rename_i c;have:=h2 c;omega
 ·omega
theorem qky(x m:Nat):∀i,i<(zP x m).length→nxP (fun i=>((zP x m).getD i 0:Nat)) i≤(((zP x m).getD i 0:Nat):Int)∧(((zP x m).getD i 0:Nat):Int)<m:=by
 intro i hi;have hinc:=(Kr (fun i=>x.testBit i) m);have hlt:(zP x m).getD i 0<m:=by
  rw[wZ hi];exact(mem_lst.1 (List.getElem_mem hi)).1
 refine⟨?_,Ω⟩;cases i with
 |zero=>show(0:Int)≤_;omega
 |succ i=>
  rw[qhH];have:=List.pairwise_iff_getElem.1 hinc.1 i (i+1) (by show i<(zP x m).length;omega) hi Ω;rw[wZ hi,wZ (Ω:i<(zP x m).length)];show(((zP x m)[i]:Nat):Int)+1≤((zP x m)[i+1]:Nat);have h2:(zP x m)[i]<(zP x m)[i+1]:=this;omega
theorem qpb(m:Nat)(u:Nat→Int):qb Tryz.prog 11 [hsv m u] (B (decide (m≤10∧ckH m u=0))):=by
 by_cases h10:m≤10
 ·exact c11 m u Ω
 have NB:True:=trivial;have hr0:True:=trivial;have d1:=decide_eq_false (Ω:¬((m:Nat):Int)≤10);refine qc Tryz.func11 rfl Ωb follows Ωb _ _ (by rw[Tryz.ntmps11];simp) Ωy ?_;unfold hsv B;(repeat' (first|refine sD ?_ ?_<;>intro _|refine aAj ?_|(simp -dsimp only[↓RP,RQ,xa0,reduceIte,reduceCtorEq,xa1,xa2,xa3,xa4,d1,NB,QS,hr0,QT,QN])))
 all_goals try exact Ωa
 all_goals exact Qd (by simp[h10])
end Go.Tn
end
section
namespace Go.Sx
open Go.RowKit
noncomputable section
def gz(cl:SV→Option SV)(l:List SV):Option (List SV):=
 List.rec (motive:=fun _=>Option (List SV)) (some []) (fun a _ ih=>match cl a,ih with
  |some b,some m=>some (b :: m)
  |_,_=>none) l
def qoe(k:Nat)(l:List SV)(i j:Nat):SV:=l.getD (i*k+j) .top
def YM(o full:Bool)(n k:Nat)(l:Option (List SV)):Option SV:=
 match l with
 |some l=>some (.arr o full n k (qoe k l))
 |none=>none
def qkz(f:List SV→SV)(l:Option (List SV)):Option SV:=
 match l with
 |some l=>some (f l)
 |none=>none
def fnO(f:Fn)(a b:Option (List SV)):Option SV:=
 match a,b with
 |some a,some b=>some (.fn f a b)
 |_,_=>none
def qkA(o:Bool)(n:Nat)(l:Option (List SV)):Option SV:=
 match l with
 |some l=>some (.ref o n (fun j=>l.getD j .top))
 |none=>none
def qbw(o:Bool)(hp:Tr 6 XB)(cl:SV→Option SV)(s:SV):Option SV:=
 match s with
 |.val v=>some (.val v)
 |.agg l=>qkz .agg (gz cl l)
 |.tup l=>qkz .tup (gz cl l)
 |.fn f a b=>fnO f (gz cl a) (gz cl b)
 |.vec id n k=>(match hp.find id with
  |some (.rows _ k' n' l)=>Bool.rec none (YM o false n k (gz cl (l.take (n*k)))) (Nat.ble n n'&&Nat.beq k k')
  |_=>none)
 |.cut id n k=>(match hp.find id with
  |some (.rows _ k' n' l)=>Bool.rec none (YM o true n k (gz cl (l.take (n*k)))) (Nat.ble n n'&&Nat.beq k k')
  |_=>none)
 |.asl id off n k=>(match hp.find id with
  |some (.cells _ l)=>Bool.rec none (YM o false n k (gz cl ((l.drop off).take (n*k)))) (Nat.ble (off+n*k) l.length)
  |_=>none)
 |.ptr id off=>(match hp.find id with
  |some (.cells _ l)=>qkA o (l.length - off) (gz cl (l.drop off))
  |_=>none)
 |.arr o' full n k row=>Bool.rec none (YM o full n k (gz cl (wi row k n))) (Bool.rec true o' o)
 |.ref o' n row=>Bool.rec none (qkA o n (gz cl (sel row 0 n))) (Bool.rec true o' o)
 |_=>some .top
def Qk(o:Bool)(hp:Tr 6 XB)(n:Nat):SV→Option SV:=Nat.rec (fun _=>some .top) (fun _ ih=>qbw o hp ih) n
section
variable{H:List (Nat×Blk)}{hp:Tr 6 XB}{LM:Nat→Option Loop}
def OF(o:Bool)(s:SV):Prop:=(o=false→Old s)∧(o=true→Fresh s)
def OFL(o:Bool)(s:List SV):Prop:=(o=false→OldL s)∧(o=true→FreshL s)
theorem zy{o:Bool}{cl:SV→Option SV}(hcl:∀s s',cl s=some s'→Sub H s' s∧OF o s'):∀{l l':List SV},gz cl l=some l'→SubL H l' l∧OFL o l'∧l'.length=l.length∧∀i,i<l.length→Sub H (l'.getD i .top) (l.getD i .top)∧OF o (l'.getD i .top)
 |[],l',h=>by
  cases h;exact⟨by simp[SubL],⟨fun _=>by simp[OldL],fun _=>by simp[FreshL]⟩,rfl,fun i hi=>by simp at hi⟩
 |a :: l,l',h=>by
  have h:(match cl a,gz cl l with
   |some b,some m=>some (b :: m)
   |_,_=>none)=some l':=h
  split at h
  ·rename_i b m hb hm
   cases h;obtain⟨h1,h2⟩:=hcl _ _ hb;obtain⟨g1,g2,g3,g4⟩:=zy hcl hm;refine⟨by simp only[SubL];exact⟨h1,g1⟩,⟨fun e=>by simp only[OldL];exact⟨h2.1 e,g2.1 e⟩,fun e=>by simp only[FreshL];exact⟨h2.2 e,g2.2 e⟩⟩,by simp[g3],fun i hi=>?_⟩;cases i with
   |zero=>exact⟨h1,h2⟩
   |succ i=>exact g4 i Ω5
  ·cases h
theorem Wh{o full:Bool}{n k:Nat}{l:List SV}(h:∀i,i<n*k→OF o (l.getD i .top)):OF o (.arr o full n k (qoe k l)):=
 ⟨fun e=>by simp only[Old];exact⟨e,fun i j hi hj=>(h _ (kT hi hj)).1 e⟩,fun e=>by simp only[Fresh];exact⟨e,fun i j hi hj=>(h _ (kT hi hj)).2 e⟩⟩
theorem qia{o:Bool}{n:Nat}{l:List SV}(h:∀i,i<n→OF o (l.getD i .top)):OF o (.ref o n (fun j=>l.getD j .top)):=
 ⟨fun e=>by simp only[Old];exact⟨e,fun j hj=>(h _ hj).1 e⟩,fun e=>by simp only[Fresh];exact⟨e,fun j hj=>(h _ hj).2 e⟩⟩
theorem YN{a b:Bool}{α:Type}{x:Option α}{y:α}(h:(Bool.rec none x (a&&b):Option α)=some y):a=true∧b=true∧x=some y:=by
 cases a<;>cases b<;>first|exact⟨rfl,rfl,h⟩|cases h
theorem GO{a:Bool}{α:Type}{x:Option α}{y:α}(h:(Bool.rec none x a:Option α)=some y):a=true∧x=some y:=by
 cases a<;>first|exact⟨rfl,h⟩|cases h
theorem vA{l:List SV}{m i:Nat}(h:i<m):(l.take m).getD i .top=l.getD i .top:=by
 rw[xc6,xc6,List.getElem?_take,if_pos h]
theorem ZI{l:List SV}{m i:Nat}:(l.drop m).getD i .top=l.getD (m+i) .top:=by
 rw[xc6,xc6,List.getElem?_drop]
theorem ZJ(hH:HRel LM hp H)(o:Bool):∀(n:Nat)(s s':SV),Qk o hp n s=some s'→Sub H s' s∧OF o s'
 |0,s,s',h=>by
  have h:some SV.top=some s':=h;cases h;exact⟨by simp[Sub],⟨fun _=>by simp[Old],fun _=>by simp[Fresh]⟩⟩
 |m+1,s,s',h0=>by
  have h:qbw o hp (Qk o hp m) s=some s':=h0;clear h0;have ih:=ZJ hH o m;unfold qbw at h;split at h
  ·cases h;exact⟨by simp[Sub],⟨fun _=>by simp[Old],fun _=>by simp[Fresh]⟩⟩
  ·unfold qkz at h
   split at h
   ·rename_i l' hl
    cases h;obtain⟨h1,h2,_⟩:=zy ih hl;exact⟨by simp only[Sub];exact h1,⟨fun e=>by simp only[Old];exact h2.1 e,fun e=>by simp only[Fresh];exact h2.2 e⟩⟩
   ·cases h
  ·unfold qkz at h
   split at h
   ·rename_i l' hl
    cases h;obtain⟨h1,h2,_⟩:=zy ih hl;exact⟨by simp only[Sub];exact h1,⟨fun e=>by simp only[Old];exact h2.1 e,fun e=>by simp only[Fresh];exact h2.2 e⟩⟩
   ·cases h
  ·unfold fnO at h
   split at h
   ·rename_i a' b' ha hb
    cases h;obtain⟨h1,h2,_⟩:=zy ih ha;obtain⟨g1,g2,_⟩:=zy ih hb;exact⟨by simp only[Sub];exact⟨trivial,h1,g1⟩,⟨fun e=>by simp only[Old];exact⟨h2.1 e,g2.1 e⟩,fun e=>by simp only[Fresh];exact⟨h2.2 e,g2.2 e⟩⟩⟩
   ·cases h
  ·split at h
   ·rename_i id n k _ _ k' n' l hb
    obtain⟨q1,q2,p⟩:=YN h;clear h;have q1:=xa7 q1;have q2:=xa6 q2;subst q2;unfold YM at p;split at p
    ·rename_i l' hl
     cases p;obtain⟨_,_,h3,h4⟩:=zy ih hl;obtain⟨row,hb,hr⟩:=hH.rows hb;have hlen:(l.take (n*k)).length=n*k:=(hr.take q1).1;refine⟨?_,Wh fun i hi=>(h4 i Ω).2⟩;simp only[Sub,hb];refine⟨trivial,trivial,trivial,q1,trivial,fun i j hi hj=>?_⟩;have:=(h4 (i*k+j) (by rw[hlen];exact kT hi hj)).1;rw[vA (kT hi hj)]at this;rw[hr.2 i j Ω hj];exact this
    ·cases p
   ·cases h
  ·split at h
   ·rename_i id n k _ _ k' n' l hb
    obtain⟨q1,q2,p⟩:=YN h;clear h;have q1:=xa7 q1;have q2:=xa6 q2;subst q2;unfold YM at p;split at p
    ·rename_i l' hl
     cases p;obtain⟨_,_,h3,h4⟩:=zy ih hl;obtain⟨row,hb,hr⟩:=hH.rows hb;have hlen:(l.take (n*k)).length=n*k:=(hr.take q1).1;refine⟨?_,Wh fun i hi=>(h4 i Ω).2⟩;simp only[Sub,hb];refine⟨trivial,trivial,q1,trivial,fun i j hi hj=>?_⟩;have:=(h4 (i*k+j) (by rw[hlen];exact kT hi hj)).1;rw[vA (kT hi hj)]at this;rw[hr.2 i j Ω hj];exact this
    ·cases p
   ·cases h
  ·split at h
   ·rename_i id off n k _ _ l hb
    obtain⟨q1,p⟩:=GO h;clear h;have q1:=xa7 q1;unfold YM at p;split at p
    ·rename_i l' hl
     cases p;obtain⟨_,_,h3,h4⟩:=zy ih hl;have hlen:((l.drop off).take (n*k)).length=n*k:=by rw[xd9,List.length_drop];omega
     refine⟨?_,Wh fun i hi=>(h4 i Ω).2⟩;simp only[Sub,hH.cells hb];refine⟨trivial,trivial,trivial,q1,fun i j hi hj=>?_⟩;have:=(h4 (i*k+j) (by rw[hlen];exact kT hi hj)).1;rw[vA (kT hi hj),ZI]at this;exact this
    ·cases p
   ·cases h
  ·split at h
   ·rename_i id off _ _ l hb
    unfold qkA at h;split at h
    ·rename_i l' hl
     cases h;obtain⟨_,_,h3,h4⟩:=zy ih hl;have hlen:(l.drop off).length=l.length - off:=List.length_drop;refine⟨?_,qia fun i hi=>(h4 i Ω).2⟩;simp only[Sub,hH.cells hb];intro j hj;have:=(h4 j Ω).1;rw[ZI]at this;exact⟨this,Ω⟩
    ·cases h
   ·cases h
  ·rename_i o' full n k row
   obtain⟨q1,p⟩:=GO h;clear h;unfold YM at p;split at p
   ·rename_i l' hl
    cases p;obtain⟨_,_,h3,h4⟩:=zy ih hl;have hr:=jb row k n;refine⟨?_,Wh fun i hi=>(h4 i (by rw[hr.1];exact hi)).2⟩;simp only[Sub];refine⟨fun e=>by rw[e]at q1;exact q1,id,trivial,trivial,fun i j hi hj=>?_⟩;have:=(h4 (i*k+j) (by rw[hr.1];exact kT hi hj)).1;rw[hr.2 i j hi hj];exact this
   ·cases p
  ·rename_i o' n row
   obtain⟨q1,p⟩:=GO h;clear h;unfold qkA at p;split at p
   ·rename_i l' hl
    cases p;obtain⟨_,_,h3,h4⟩:=zy ih hl;refine⟨?_,qia fun i hi=>(h4 i (by rw[gG];exact hi)).2⟩;simp only[Sub];refine⟨fun e=>by rw[e]at q1;exact q1,xa5 _,fun j hj=>?_⟩;have:=(h4 j (by rw[gG];exact hj)).1;have e2:(sel row 0 n).getD j .top=row j:=by rw[xc6,yb,if_pos hj,xb0];rfl
    rw[e2]at this;exact this
   ·cases p
  ·cases h
   exact⟨by simp[Sub],⟨fun _=>by simp[Old],fun _=>by simp[Fresh]⟩⟩
def qbx(fr:SV→Bool)(s:SV):Bool:=
 match s with
 |.val _=>true
 |.agg l=>l.all fr
 |.tup l=>l.all fr
 |.fn _ a b=>a.all fr&&b.all fr
 |.arr true _ n k row=>(wi row k n).all fr
 |.ref true n row=>(sel row 0 n).all fr
 |_=>false
def GP(n:Nat):SV→Bool:=Nat.rec (fun _=>false) (fun _ ih=>qbx ih) n
theorem vB{fr:SV→Bool}(hfr:∀s,fr s=true→Fresh s):∀{l:List SV},l.all fr=true→FreshL l
 |[],_=>by simp[FreshL]
 |a :: l,h=>by
  rw[List.all_cons,xe6]at h;simp only[FreshL];exact⟨hfr a h.1,vB hfr h.2⟩
theorem yx:∀(n:Nat)(s:SV),GP n s=true→Fresh s
 |0,s,h=>by cases h
 |m+1,s,h0=>by
  have h:qbx (GP m) s=true:=h0;clear h0;have ih:=yx m;unfold qbx at h;split at h
  ·simp[Fresh]
  ·simp only[Fresh];exact vB ih h
  ·simp only[Fresh];exact vB ih h
  ·rw[xe6]at h
   simp only[Fresh];exact⟨vB ih h.1,vB ih h.2⟩
  ·rename_i n k row
   have hr:=jb row k n;simp only[Fresh];refine⟨trivial,fun i j hi hj=>ih _ ?_⟩;rw[hr.2 i j hi hj,xc6];have hlt:i*k+j<(wi row k n).length:=by rw[hr.1];exact kT hi hj
   rw[xc7 hlt];exact List.all_eq_true.1 h _ (List.getElem_mem hlt)
  ·rename_i n row
   simp only[Fresh];refine⟨trivial,fun j hj=>ih _ ?_⟩;have hlt:j<(sel row 0 n).length:=by rw[gG];exact hj
   have e:(sel row 0 n)[j]? = some (row j):=by rw[yb,if_pos hj,xb0]
   exact List.all_eq_true.1 h _ (List.mem_of_getElem? e)
  ·cases h
def qdb(u v:Value):Bool:=
 match u with
 |.int k a=>(match v with|.int k' b=>eqKind k k'&&Jj a b|_=>false)
 |.pointer none=>(match v with|.pointer none=>true|_=>false)
 |.slice none 0 0=>(match v with|.slice none 0 0=>true|_=>false)
 |.nilFunc=>(match v with|.nilFunc=>true|_=>false)
 |u=>eqK u v
theorem YO{u v:Value}(h:qdb u v=true):u=v:=by
 unfold qdb at h;split at h
 ·split at h
  ·rw[xe6,yo,decide_eq_true_eq]at h
   rw[vg h.1,h.2]
  ·cases h
 ·split at h<;>first|rfl|cases h
 ·split at h<;>first|rfl|cases h
 ·split at h<;>first|rfl|cases h
 ·exact kf h
def mtL(m:SV→SV→Bool)(l:List SV):List SV→Bool:=List.rec (motive:=fun _=>List SV→Bool) (fun l'=>List.rec true (fun _ _ _=>false) l') (fun a _ ih l'=>List.rec false (fun b l' _=>Bool.rec false (ih l') (m a b)) l') l
def mtR(m:SV→SV→Bool)(hp:Tr 6 XB)(o:Bool)(n k:Nat)(row:Nat→Nat→SV)(x:SV):Bool:=
 match x with
 |.vec id n1 k1=>(match hp.find id with
  |some (.rows _ k' n' l)=>Nat.beq n n1&&(Nat.beq k k1&&(Nat.beq k1 k'&&(Nat.ble n n'&&mtL m (wi row k n) (l.take (n*k)))))
  |_=>false)
 |.asl id off n1 k1=>(match hp.find id with
  |some (.cells _ l)=>Nat.beq n n1&&(Nat.beq k k1&&(Nat.ble (off+n*k) l.length&&mtL m (wi row k n) ((l.drop off).take (n*k))))
  |_=>false)
 |.arr o' _ n1 k1 row1=>Nat.beq n n1&&(Nat.beq k k1&&((Bool.rec true o' o:Bool)&&mtL m (wi row k n) (wi row1 k n)))
 |_=>false
def mtS(m:SV→SV→Bool)(hp:Tr 6 XB)(p x:SV):Bool:=
 match p with
 |.top=>true
 |.val u=>(match x with|.val v=>qdb u v|_=>false)
 |.agg l=>(match x with|.agg l'=>mtL m l l'|_=>false)
 |.tup l=>(match x with|.tup l'=>mtL m l l'|_=>false)
 |.arr o false n k row=>mtR m hp o n k row x
 |_=>false
def mtX(hp:Tr 6 XB)(n:Nat):SV→SV→Bool:=Nat.rec (fun _ _=>false) (fun _ ih=>mtS ih hp) n
theorem Ql{m:SV→SV→Bool}(hm:∀p x,m p x=true→Sub H p x):∀{l l':List SV},mtL m l l'=true→SubL H l l'∧l.length=l'.length∧∀i,i<l.length→Sub H (l.getD i .top) (l'.getD i .top)
 |[],[],_=>⟨by simp[SubL],rfl,fun i hi=>by simp at hi⟩
 |[],b :: l',h=>by cases h
 |a :: l,[],h=>by cases h
 |a :: l,b :: l',h=>by
  have h:(Bool.rec false (mtL m l l') (m a b):Bool)=true:=h;cases q:m a b with
  |false=>rw[q]at h;cases h
  |true=>
   rw[q]at h;obtain⟨h1,h2,h3⟩:=Ql hm h;refine⟨by simp only[SubL];exact⟨hm _ _ q,h1⟩,by simp[h2],fun i hi=>?_⟩;cases i with
   |zero=>exact hm _ _ q
   |succ i=>exact h3 i Ω5
theorem qby(hH:HRel LM hp H):∀(n:Nat)(p x:SV),mtX hp n p x=true→Sub H p x
 |0,p,x,h=>by cases h
 |n+1,p,x,h0=>by
  have h:mtS (mtX hp n) hp p x=true:=h0;clear h0;have ih:=qby hH n;unfold mtS at h;split at h
  ·simp[Sub]
  ·split at h
   ·rw[YO h];simp[Sub]
   ·cases h
  ·split at h
   ·simp only[Sub];exact(Ql ih h).1
   ·cases h
  ·split at h
   ·simp only[Sub];exact(Ql ih h).1
   ·cases h
  ·rename_i o n0 k row
   have hr0:=jb row k n0;have pr:∀i j,i<n0→j<k→(wi row k n0).getD (i*k+j) .top=row i j:=fun i j hi hj=>(hr0.2 i j hi hj).symm;have hln:∀i j,i<n0→j<k→i*k+j<(wi row k n0).length:=fun i j hi hj=>by rw[hr0.1];exact kT hi hj
   unfold mtR at h;split at h
   ·split at h
    ·rename_i id n1 k1 _ _ k' n' l hb
     simp only[xe6,Nat.beq_eq,Nat.ble_eq]at h;obtain⟨rfl,rfl,rfl,h4,h5⟩:=h;obtain⟨row',hb,hr⟩:=hH.rows hb;obtain⟨_,_,h7⟩:=Ql ih h5;simp only[Sub,hb];refine⟨trivial,trivial,trivial,h4,trivial,fun i j hi hj=>?_⟩;have:=h7 (i*k+j) (hln i j hi hj);rw[pr i j hi hj,vA (kT hi hj)]at this;rw[hr.2 i j Ω hj];exact this
    ·cases h
   ·split at h
    ·rename_i id off n1 k1 _ _ l hb
     simp only[xe6,Nat.beq_eq,Nat.ble_eq]at h;obtain⟨rfl,rfl,h4,h5⟩:=h;obtain⟨_,_,h7⟩:=Ql ih h5;simp only[Sub,hH.cells hb];refine⟨trivial,trivial,trivial,h4,fun i j hi hj=>?_⟩;have:=h7 (i*k+j) (hln i j hi hj);rw[pr i j hi hj,vA (kT hi hj),ZI]at this;exact this
    ·cases h
   ·rename_i o' full n1 k1 row1
    simp only[xe6,Nat.beq_eq]at h;obtain⟨rfl,rfl,h4,h5⟩:=h;obtain⟨_,_,h7⟩:=Ql ih h5;have hr1:=jb row1 k n0;simp only[Sub];refine⟨fun e=>(by rw[e]at h4;exact h4),fun e=>(by cases e),trivial,trivial,fun i j hi hj=>?_⟩;have:=h7 (i*k+j) (hln i j hi hj);rw[pr i j hi hj,←hr1.2 i j hi hj]at this;exact this
   ·cases h
  ·cases h
def J8{α:Type}(hp:Tr 6 XB)(args:List SV)(l:List (List SV×α)):Option α:=List.rec none (fun p _ ih=>Bool.rec ih (some p.2) (mtL (mtX hp 5) p.1 args)) l
theorem w6{α:Type}(hH:HRel LM hp H){args:List SV}:∀{l:List (List SV×α)}{s:α},J8 hp args l=some s→∃qq_,(qq_,s)∈l∧SubL H qq_ args
 |[],s,h=>by cases h
 |p :: l,s,h=>by
  have h:(Bool.rec (J8 hp args l) (some p.2) (mtL (mtX hp 5) p.1 args):Option α)=some s:=h;cases q:mtL (mtX hp 5) p.1 args with
  |false=>
   rw[q]at h;obtain⟨qq_,h1,h2⟩:=w6 hH h;exact⟨qq_,List.mem_cons_of_mem _ h1,h2⟩
  |true=>
   rw[q]at h;have h:some p.2=some s:=h;cases h;exact⟨p.1,xd5,(Ql (qby hH 5) q).1⟩
end
end
end Go.Sx
end
section
namespace Go.Sx
open Go.RowKit
noncomputable section
variable{ρ:Q}
abbrev XK:=Ex→Tr 3 SV→Tr 6 XB→Nat→R
inductive CX:Type
 |top
 |rnd
 |gen (y:Nat) (L:List (Nat×List (Nat×Nat))) (fr:Tr 3 SV) (ps:List Tmp) (a b:Code)
abbrev FL:=List (Nat×List (Nat×Nat))
abbrev XC:=FL→CX→Code→Tr 3 SV→Tr 6 XB→Nat→XK→R
section
variable{P:Program}{E:XE}{LM:Nat→Option Loop}
def StR(LM:Nat→Option Loop)(fr:Tr 3 SV)(hp:Tr 6 XB)(nid:Nat)(st:St):Prop:=FRel fr st.fr∧HRel LM hp st.hp∧st.nid=nid
def putD(d:Option Tmp)(s:SV)(fr:Tr 3 SV)(g:Tr 3 SV→R):R:=
 match d with
 |none=>g fr
 |some d=>zi (some s) 12 fr d g
theorem FRel.put{fr fr':Tr 3 SV}{F:List (Nat×SV)}{d:Nat}{s:SV}(h:FRel fr F)(hp:qgS fr fr' d (some s)):FRel fr' (putFr F d s):=fun t=>by
 rw[zb];unfold qA;rw[hp t];by_cases c:t=d
 ·rw[if_pos c,if_pos c]
 ·rw[if_neg c,if_neg c];exact h t
theorem kE{d:Option Tmp}{s:SV}{fr:Tr 3 SV}{g:Tr 3 SV→R}(h:putD d s fr g=.ok ρ){hp:Tr 6 XB}{nid:Nat}{st:St}(hs:StR LM fr hp nid st):∃fr',StR LM fr' hp nid (st.put d s)∧g fr'=.ok ρ:=by
 unfold putD at h;cases d with
 |none=>exact⟨fr,hs,h⟩
 |some d=>
  obtain⟨fr',h1,h2⟩:=qI _ _ _ _ h;exact⟨fr',⟨hs.1.put h1,hs.2.1,hs.2.2⟩,h2⟩
theorem HRel.cons{hp hp':Tr 6 XB}{H:List (Nat×Blk)}(h:HRel LM hp H){id:Nat}{b:XB}{b':Blk}(hb:BRel (LM id) b b')(hp:qgS hp hp' id (some b)):HRel LM hp' ((id,b') :: H):=fun j x hj=>by
 rw[hp j]at hj;by_cases c:j=id
 ·rw[if_pos c]at hj;cases hj;exact⟨b',by simp only[blk];rw[if_pos c],c▸hb⟩
 ·rw[if_neg c]at hj;simp only[blk];rw[if_neg c];exact h j x hj
theorem HRel.set{hp hp':Tr 6 XB}{H:List (Nat×Blk)}(h:HRel LM hp H){id:Nat}{b y:XB}{b':Blk}(hb:BRel (LM id) b b')(hy:hp.find id=some y)(hp:qgS hp hp' id (some b)):HRel LM hp' (setBlk H id b'):=fun j x hj=>by
 rw[hp j]at hj;rw[qn];by_cases c:j=id
 ·rw[if_pos c]at hj;cases hj
  obtain⟨z,hz,_⟩:=h id y hy;rw[if_pos c,hz];exact⟨b',rfl,c▸hb⟩
 ·rw[if_neg c]at hj;rw[if_neg c];exact h j x hj
theorem HRel.drop{hp hp':Tr 6 XB}{H:List (Nat×Blk)}(h:HRel LM hp H){id:Nat}(hp:qgS hp hp' id none):HRel LM hp' (dropBlk H id):=fun j x hj=>by
 rw[hp j]at hj;rw[qq];by_cases c:j=id
 ·rw[if_pos c]at hj;cases hj
 ·rw[if_neg c]at hj;rw[if_neg c];exact h j x hj
structure qkB(P:Program)(g:Nat)(fn:Func)(L:FL)(c:Code):Prop where
 at_:P.funcs[g]? = some fn
 body:fn.body=some c
 name : (fn.name == "runtime.NumGoroutine") = false
 ok:qB (zW L) fn.ntmps c=true
def YP(l:List SV):Nat→Tr 3 SV→(Tr 3 SV→R)→R:=
 List.rec (motive:=fun _=>Nat→Tr 3 SV→(Tr 3 SV→R)→R) (fun _ t g=>g t) (fun a _ ih i t g=>zi (some a) 12 t i fun t=>qh (Nat.succ i) fun i=>ih i t g) l
theorem qdc:∀(l:List SV)(i:Nat)(t:Tr 3 SV)(g:Tr 3 SV→R),YP l i t g=.ok ρ→∃t',(∀j,qA t' j=if j<i then qA t j else if j<i+l.length then l.getD (j - i) .top else qA t j)∧g t'=.ok ρ
 |[],i,t,g,h=>⟨t,fun j=>by
   by_cases c:j<i
   ·rw[if_pos c]
   ·rw[if_neg c,if_neg (by simpa using c)],h⟩
 |a :: l,i,t,g,h=>by
  have h:zi (some a) 12 t i (fun t=>qh (Nat.succ i) fun i=>YP l i t g)=.ok ρ:=h;obtain⟨t1,h1,h⟩:=qI _ _ _ _ h;rw[qe]at h;obtain⟨t2,h2,h⟩:=qdc l _ _ _ h;refine⟨t2,fun j=>?_,h⟩;rw[h2 j];have e1:qA t1 j=if j=i then a else qA t j:=by
   unfold qA;rw[h1 j];by_cases c:j=i
   ·rw[if_pos c,if_pos c]
   ·rw[if_neg c,if_neg c]
  rw[e1];by_cases c:j<i
  ·rw[if_pos Ω,if_neg Ω,if_pos c]
  ·rw[if_neg c]
   by_cases d:j=i
   ·rw[if_pos Ω,if_pos d,if_pos Ωr,d,xb8];rfl
   ·rw[if_neg Ω,if_neg d]
    by_cases e:j<i+(a :: l).length
    ·rw[if_pos e,if_pos (by simp at e ⊢;omega),show j - i=j -(i+1)+1 by omega];rfl
    ·rw[if_neg e,if_neg (by simp at e ⊢;omega)]
theorem Za{l:List SV}{g:Tr 3 SV→R}(h:YP l 0 .nil g=.ok ρ):∃t',FRel t' (argFr 0 l)∧g t'=.ok ρ:=by
 obtain⟨t',h1,h2⟩:=qdc l 0 .nil g h;refine⟨t',fun j=>?_,h2⟩;rw[h1 j,Gc,if_neg (Nat.not_lt_zero j),if_neg (Nat.not_lt_zero j),Nat.sub_zero];by_cases c:j<0+l.length
 ·rw[if_pos c]
 ·rw[if_neg c,xc6,List.getElem?_eq_none Ω];unfold qA;rw[QF];rfl
def qkC(E:XE)(fr:Tr 3 SV)(hp:Tr 6 XB)(rv:ResultVar)(g:SV→R):R:=
 match rv with
 |.tmp t=>g (qA fr t)
 |.cell t ty=>Yh E hp ty (qA fr t) fun x=>(match x with|.pure s=>g s|_=>.bad 300 0)
def Zb(E:XE)(fr:Tr 3 SV)(hp:Tr 6 XB)(l:List ResultVar):(List SV→R)→R:=
 List.rec (motive:=fun _=>(List SV→R)→R) (fun g=>g []) (fun rv _ ih g=>qkC E fr hp rv fun s=>svK s fun s=>ih fun m=>g (s :: m)) l
theorem qkD(hE:XOk P E){fr:Tr 3 SV}{hp:Tr 6 XB}{nid:Nat}{st:St}(hs:StR LM fr hp nid st){rv:ResultVar}{g:SV→R}{K:SV→Prop}(h:qkC E fr hp rv g=.ok ρ)(hk:∀s,g s=.ok ρ→K s):resultVC P rv st K:=by
 unfold qkC at h;split at h
 ·show K (look st.fr _)
  rw[hs.1];exact hk _ h
 ·rename_i t ty
  show match rLoad (qk P ty) st.hp (look st.fr t)with
   |.pure obl sv=>obl∧K sv
   |.ex obl=>∃sv,obl sv∧K sv
   |_=>False
  rw[hs.1];obtain⟨x,h1,h2⟩:=Yi (id:=0) hE hs.2.1 h;cases x<;>simp only[reduceCtorEq]at h2
  rename_i s;rcases h1 with⟨obl,e,ho⟩|⟨obl,e,ho⟩
  ·rw[e];exact⟨ho,hk s h2⟩
  ·rw[e];exact⟨s,ho,hk s h2⟩
theorem Zc(hE:XOk P E){fr:Tr 3 SV}{hp:Tr 6 XB}{nid:Nat}{st:St}(hs:StR LM fr hp nid st):∀{l:List ResultVar}{g:List SV→R}{K:List SV→Prop},Zb E fr hp l g=.ok ρ→(∀m,g m=.ok ρ→K m)→resultsVC P l st K
 |[],g,K,h,hk=>hk [] h
 |rv :: l,g,K,h,hk=>by
  have h:qkC E fr hp rv (fun s=>svK s fun s=>Zb E fr hp l fun m=>g (s :: m))=.ok ρ:=h;refine qkD hE hs h fun s h=>?_;rw[Zz]at h;exact Zc hE hs h fun m h=>hk _ h
theorem GQ {O : Ctx} (far : Nat → List (Nat × Nat)) (hm : P.follows .mixedOrders = true) {f : FuncId} {fn : Func} {c : Code} (hf : P.funcs[f]? = some fn) (hb : fn.body = some c) (hname : (fn.name == "runtime.NumGoroutine") = false) (hok : qB far fn.ntmps c = true) {args : List SV} (hlen : args.length ≤ fn.ntmps) {st : St} {K : St → SV → Prop}
  (h:∀out:List Fr,vc P ⟨out,st.nid,false,far⟩ c ⟨argFr 0 args,st.hp,st.nid⟩ (fun e st'=>match e with|.exit _=>False|_=>resultsVC P fn.results.toList st' (fun m=>K ⟨st.fr,st'.hp,st'.nid⟩ (oneSV m)))):ki P O f args st K:=by
 intro base okc ns r outs a w vs h0 hl ha;refine⟨jw hf hb hname vs w,?_⟩;refine ge hm hf hb hok (O:=⟨⟨st.fr,none,ns,st.nid⟩ :: O.fs,st.nid,false,far⟩) (outs:=⟨a :: outs.as,r⟩) (base:=base) (okc:=okc) (st0:=⟨argFr 0 args,st.hp,st.nid⟩) rfl (Post:=fun st' m=>K ⟨st.fr,st'.hp,st'.nid⟩ (oneSV m))
  ⟨r,h0.pushF far none (fun _ h=>by cases h) false (Qy hl Ω ha) Ωr rfl⟩ (h _) fun st' r' a' w' m us hP hi hml hreps=>?_
 exact⟨_,⟨st.fr,st'.hp,st'.nid⟩,r',oneSV m,rfl,hP,hi.lo,hi.popF h0,vl hml hreps⟩
def w7(P:Program)(E:XE):Prop:=∀g fn L,E.fns g=some (fn,L)→∃c,qkB P g fn L c
def qeP(LM:Nat→Option Loop)(fs:List Fr)(rnd:Bool):CX→Prop
 |.top=>rnd=false
 |.rnd=>rnd=true
 |.gen y L0 fr ps a b=>rnd=false∧∃L F,LM y=some L∧FRel fr F∧Gk (zW L0) fs L F ps a b
def vC(P:Program)(run:XC):Prop:=∀(ρ:Q)(LM:Nat→Option Loop)(fs:List Fr)(lo:Nat)(rnd:Bool)(L:FL)(cx:CX)(c:Code)(st:St)(fr:Tr 3 SV)(hp:Tr 6 XB)(nid:Nat)(f:XK)(K:Ex→St→Prop),qeP LM fs rnd cx→StR LM fr hp nid st→run L cx c fr hp nid f=.ok ρ→
 (∀e fr' hp' nid' st',StR LM fr' hp' nid' st'→f e fr' hp' nid'=.ok ρ→K e st')→vc P ⟨fs,lo,rnd,zW L⟩ c st K
def qpc(E:XE)(rs:List ResultVar)(d:Option Tmp)(fr:Tr 3 SV)(g:Tr 3 SV→Tr 6 XB→Nat→R):XK
 |.exit _,_,_,_=>.bad 301 0
 |.normal,fr3,hp3,nid3=>Zb E fr3 hp3 rs fun m=>svK (oneSV m) fun s=>putD d s fr fun fr=>g fr hp3 nid3
 |.ret,fr3,hp3,nid3=>Zb E fr3 hp3 rs fun m=>svK (oneSV m) fun s=>putD d s fr fun fr=>g fr hp3 nid3
def qib(E:XE)(run:XC)(fn:Func)(L:FL)(d:Option Tmp)(args:List SV)(fr:Tr 3 SV)(hp:Tr 6 XB)(id:Nat)(g:Tr 3 SV→Tr 6 XB→Nat→R):R:=
 match fn.body with
 |some c=>qg 302 (Nat.ble args.length fn.ntmps) (YP args 0 .nil fun fr2=>run L .top c fr2 hp id (qpc E fn.results.toList d fr g))
 |none=>.bad 303 0
def qbz(ps:List Tmp):List SV→Tr 3 SV→(Tr 3 SV→R)→R:=
 List.rec (motive:=fun _=>List SV→Tr 3 SV→(Tr 3 SV→R)→R) (fun _ t g=>g t) (fun p _ ih qq_ t g=>match qq_ with
  |[]=>.bad 340 0
  |a :: qq_=>zi (some a) 12 t p fun t=>ih qq_ t g) ps
theorem J9:∀{ps:List Tmp}{qq_:List SV}{t:Tr 3 SV}{F:List (Nat×SV)}{g:Tr 3 SV→R},FRel t F→qbz ps qq_ t g=.ok ρ→∃t',FRel t' (putPs F ps qq_)∧g t'=.ok ρ
 |[],qq_,t,F,g,hF,h=>⟨t,(by cases qq_<;>exact hF),h⟩
 |p :: ps,[],t,F,g,hF,h=>by cases h
 |p :: ps,a :: qq_,t,F,g,hF,h=>by
  have h:zi (some a) 12 t p (fun t=>qbz ps qq_ t g)=.ok ρ:=h;obtain⟨t1,h1,h⟩:=qI _ _ _ _ h;exact J9 (ps:=ps) (qq_:=qq_) (hF.put h1) h
def qlG(y:Nat)(d:Option Tmp)(fr:Tr 3 SV)(g:Tr 3 SV→Tr 6 XB→Nat→R)(e:Ex)(hp:Tr 6 XB)(nid:Nat):R:=
 match hp.find y with
 |some (.loop .busy)=>(match e with
  |.normal=>zi (some (.loop .ready)) 22 hp y fun hp=>putD d (.val (.bool true)) fr fun fr=>g fr hp nid
  |.ret=>zi (some (.loop .retd)) 22 hp y fun hp=>putD d (.val (.bool false)) fr fun fr=>g fr hp nid
  |.exit i=>zi (some (.loop (.left i))) 22 hp y fun hp=>putD d (.val (.bool false)) fr fun fr=>g fr hp nid)
 |_=>.bad 341 0
def qlH(run:XC)(L:FL)(y:Nat)(b:Code)(d:Option Tmp)(fr:Tr 3 SV)(g:Tr 3 SV→Tr 6 XB→Nat→R):XK
 |.normal,fr1,hp1,nid1=>(match hp1.find y with
  |some (.loop .ready)=>zi (some (.loop .busy)) 22 hp1 y fun hp2=>run L .rnd b fr1 hp2 nid1 fun e _ hp nid=>qlG y d fr g e hp nid
  |_=>.bad 342 0)
 |_,_,_,_=>.bad 343 0
def qbA(run:XC)(cx:CX)(d:Option Tmp)(y:Nat)(args:List SV)(fr:Tr 3 SV)(hp:Tr 6 XB)(id:Nat)(g:Tr 3 SV→Tr 6 XB→Nat→R):R:=
 match cx with
 |.gen y0 L fr0 ps a b=>qg 344 (Nat.beq y y0) (qg 345 (Nat.beq args.length ps.length) (match hp.find y with
  |some (.loop .ready)=>qbz ps args fr0 fun fr2=>run L .rnd a fr2 hp id (qlH run L y b d fr g)
  |_=>.bad 346 0))
 |_=>.bad 347 0
theorem HRel.loop{hp:Tr 6 XB}{H:List (Nat×Blk)}(h:HRel LM hp H){y:Nat}{s:RSt}{L:Loop}(e:hp.find y=some (.loop s))(hL:LM y=some L):blk H y=some (.loop L s):=by
 obtain⟨b',h1,h2⟩:=h _ _ e;cases b'<;>simp only[BRel]at h2
 obtain⟨rfl,h3⟩:=h2;rw[hL]at h3;cases h3;exact h1
theorem qeQ(hm:P.follows .mixedOrders=true){run:XC}(hrun:vC P run){fs:List Fr}{lo:Nat}{rnd:Bool}{far:Nat→List (Nat×Nat)}{cx:CX}(hcx:qeP LM fs rnd cx){d:Option Tmp}{y:Nat}{args:List SV}{fr:Tr 3 SV}{hp:Tr 6 XB}{nid id:Nat}{g:Tr 3 SV→Tr 6 XB→Nat→R}{st:St}{K:St→Prop}(hs:StR LM fr hp nid st)(h:qbA run cx d y args fr hp id g=.ok ρ)
  (hk:∀fr' hp' nid' st',StR LM fr' hp' nid' st'→g fr' hp' nid'=.ok ρ→K st'):yj P ⟨fs,lo,rnd,far⟩ y args ⟨st.fr,st.hp,id⟩ fun st' res=>K (st'.put d res):=by
 unfold qbA at h;split at h
 ·rename_i y0 L0 fr0 ps a b
  obtain⟨q1,p1⟩:=qa h;obtain⟨q2,p2⟩:=qa p1;have q1:=xa6 q1;have q2:=xa6 q2;subst q1;obtain⟨_,L,F,hL,hF,hR⟩:=hcx;split at p2
  ·rename_i hb
   obtain⟨fr2,h2,h⟩:=J9 hF p2;refine JN hm hR (hs.2.1.loop hb hL) q2 fun out=>?_;refine hrun ρ LM _ _ _ L0 .rnd a ⟨_,_,_⟩ fr2 hp id _ _ rfl ⟨h2,hs.2.1,rfl⟩ h fun e fr1 hp1 nid1 st1 hs1 h1=>?_;unfold qlH at h1;split at h1
   ·split at h1
    ·rename_i hb1
     have hb1':=hs1.2.1.loop hb1 hL;obtain⟨hp2,p2,h1⟩:=qI _ _ _ _ h1;refine⟨by rw[hb1'];rfl,?_⟩;refine hrun ρ LM _ _ _ L0 .rnd b ⟨_,_,_⟩ _ hp2 _ _ _ rfl ⟨hs1.1,hs1.2.1.set (b:=.loop .busy) (b':=.loop L .busy) ⟨rfl,hL⟩ hb1 p2,hs1.2.2⟩ h1 fun e fr3 hp3 nid3 st3 hs3 h3=>?_;unfold qlG at h3;split at h3
     ·rename_i hb3
      have hb3':=hs3.2.1.loop hb3 hL;refine⟨by rw[hb3'];rfl,?_⟩;have fin:∀(s:RSt)(b:Bool),(zi (some (.loop s)) 22 hp3 y fun hp=>putD d (.val (.bool b)) fr fun fr=>g fr hp nid3)=.ok ρ→K (St.put ⟨st.fr,setBlk st3.hp y (.loop L s),st3.nid⟩ d (.val (.bool b))):=by
       intro s b h;obtain⟨hp4,p4,h⟩:=qI _ _ _ _ h;obtain⟨fr',g1,g2⟩:=kE (LM:=LM) (st:=⟨st.fr,setBlk st3.hp y (.loop L s),st3.nid⟩) h ⟨hs.1,hs3.2.1.set (b:=.loop s) (b':=.loop L s) ⟨rfl,hL⟩ hb3 p4,hs3.2.2⟩;exact hk _ _ _ _ g1 g2
      cases e with
      |normal=>exact fin _ _ h3
      |ret=>exact fin _ _ h3
      |exit i=>exact fin _ _ h3
     ·cases h3
    ·cases h1
   ·cases h1
  ·cases p2
 ·cases h
def qkE(E:XE)(h0:Nat)(rs:List ResultVar):XK
 |.exit _,_,_,_=>.bad 370 0
 |.normal,fr,hp,_=>Zb E fr hp rs fun m=>(match Qk true hp 5 (oneSV m)with|some s=>.ok (.mk s .nil 0)|none=>.bad 371 h0)
 |.ret,fr,hp,_=>Zb E fr hp rs fun m=>(match Qk true hp 5 (oneSV m)with|some s=>.ok (.mk s .nil 0)|none=>.bad 371 h0)
def qlI(fr:Tr 3 SV)(hp:Tr 6 XB)(nid:Nat)(d:Option Tmp)(g:Tr 3 SV→Tr 6 XB→Nat→R)(r:R):R:=
 match r with
 |.ok (.mk s _ _)=>qg 373 (GP 5 s) (putD d s fr fun fr=>g fr hp nid)
 |.bad c i=>.bad c i
def qic(n:Nat)(i:Sh)(args:List SV)(d:Option Tmp)(fr:Tr 3 SV)(hp:Tr 6 XB)(nid:Nat)(g:Tr 3 SV→Tr 6 XB→Nat→R):R:=
 qg 376 (Nat.beq args.length n) (match i.sv args with
  |some s=>putD d s fr fun fr=>g fr hp nid
  |none=>.bad 377 0)
theorem qid{h0 n:Nat}{i:Sh}(hp0:ZO P h0 n i){d:Option Tmp}{args:List SV}{fr:Tr 3 SV}{hp:Tr 6 XB}{nid:Nat}{g:Tr 3 SV→Tr 6 XB→Nat→R}{st:St}{K:St→Prop}(hs:StR LM fr hp nid st)(h:qic n i args d fr hp nid g=.ok ρ)
  (hk:∀fr' hp' nid' st',StR LM fr' hp' nid' st'→g fr' hp' nid'=.ok ρ→K st'):CallVC P st.hp h0 args (fun r=>K (st.put d r)):=by
 unfold qic at h;obtain⟨q,p⟩:=qa h;have q:=xa6 q;split at p
 ·rename_i s ha
  obtain⟨fr',k1,k2⟩:=kE p hs;exact⟨s,.inr ⟨i,by rw[q];exact hp0,ha⟩,hk _ _ _ _ k1 k2⟩
 ·cases p
def qie(E:XE)(run:XC)(h0:Nat)(fn:Func)(L:FL)(d:Option Tmp)(qq_:Option (List SV))(fr:Tr 3 SV)(hp:Tr 6 XB)(nid:Nat)(g:Tr 3 SV→Tr 6 XB→Nat→R):R:=
 match fn.body,qq_ with
 |some c,some qq_=>qg 374 (Nat.ble qq_.length fn.ntmps) (qlI fr hp nid d g (YP qq_ 0 .nil fun fr2=>run L .top c fr2 .nil 0 (qkE E h0 fn.results.toList)))
 |_,_=>.bad 375 h0
theorem qif(hm:P.follows .mixedOrders=true)(hE:XOk P E){run:XC}(hrun:vC P run){h0:Nat}{fn:Func}{L:FL}{c:Code}(hc:qkB P h0 fn L c){d:Option Tmp}{args:List SV}{fr:Tr 3 SV}{hp:Tr 6 XB}{nid:Nat}{g:Tr 3 SV→Tr 6 XB→Nat→R}{st:St}{K:St→Prop}(hs:StR LM fr hp nid st)(h:qie E run h0 fn L d (gz (Qk false hp 5) args) fr hp nid g=.ok ρ)
  (hk:∀fr' hp' nid' st',StR LM fr' hp' nid' st'→g fr' hp' nid'=.ok ρ→K st'):CallVC P st.hp h0 args (fun r=>K (st.put d r)):=by
 unfold qie at h;rw[hc.body]at h;split at h
 ·rename_i c' qq_ hb has
  cases hb;obtain⟨q,h⟩:=qa h;obtain⟨g1,g2,_⟩:=zy (ZJ hs.2.1 false 5) has;unfold qlI at h;split at h
  ·rename_i s hp0 n0 hr
   obtain⟨q2,h⟩:=qa h;obtain⟨fr',k1,k2⟩:=kE h hs;obtain⟨fr2,f1,f2⟩:=Za hr;refine⟨s,.inl ⟨qq_,ju (zW L) hc.at_ hc.body hc.name hm hc.ok qq_ s (xa7 q) (g2.1 rfl) ?_,.inl ⟨g1,yx 5 s q2⟩⟩,hk _ _ _ _ k1 k2⟩;have key:∀(fr3:Tr 3 SV)(hp3:Tr 6 XB)(nid3:Nat)(st3:St),StR (fun _=>none) fr3 hp3 nid3 st3→Zb E fr3 hp3 fn.results.toList (fun m=>(match Qk true hp3 5 (oneSV m)with|some s=>.ok (.mk s .nil 0)|none=>.bad 371 h0))=.ok (.mk s hp0 n0)→retVC P fn.results.toList st3 s:=fun fr3 hp3 nid3 st3 h3 h=>by
    rw[Gf];refine Zc hE h3 h fun m h=>?_;split at h
    ·rename_i s' hs'
     cases h;exact(ZJ h3.2.1 true 5 _ _ hs').1
    ·cases h
   refine hrun _ (fun _=>none) _ _ _ L .top c _ fr2 .nil 0 _ _ rfl ⟨f1,fun id b hb=>(by rw[QF]at hb;cases hb),rfl⟩ f2 fun e fr3 hp3 nid3 st3 h3 h=>?_;cases e with
   |exit i=>cases h
   |normal=>exact key _ _ _ _ h3 h
   |ret=>exact key _ _ _ _ h3 h
  ·cases h
 ·cases h
def Zd(E:XE)(run:XC)(cx:CX)(j:Bool)(d:Option Tmp)(id:Nat)(xr:XR)(fr:Tr 3 SV)(hp:Tr 6 XB)(nid:Nat)(g:Tr 3 SV→Tr 6 XB→Nat→R):R:=
 match xr with
 |.pure s=>putD d s fr fun fr=>g fr hp nid
 |.new b s=>zi (some b) 22 hp id fun hp=>putD d s fr fun fr=>g fr hp nid
 |.upd i b s=>(match hp.find i with
  |some _=>zi (some b) 22 hp i fun hp=>putD d s fr fun fr=>g fr hp nid
  |none=>.bad 304 0)
 |.grow i b s=>qg 305 (!(Nat.beq i id)) (zi none 22 hp i fun hp=>zi (some b) 22 hp id fun hp=>putD d s fr fun fr=>g fr hp nid)
 |.call h args=>(match E.prj h with
  |some (n,i)=>qic n i args d fr hp nid g
  |none=>match E.orc h with
  |some f=>qg 306 j (f args hp id fun s hp nid=>putD d s fr fun fr=>g fr hp nid)
  |none=>match J8 hp args (E.ctr h)with
  |some s=>qg 309 (GP 5 s) (putD d s fr fun fr=>g fr hp nid)
  |none=>match J8 hp args (E.ctn h)with
  |some (t,k,n,l,s)=>yD l fun l=>zi (some (.rows t k n l)) 22 hp id fun hp=>putD d (setId id s) fr fun fr=>g fr hp nid
  |none=>match E.fns h with
  |some (fn,L)=>Bool.rec (qie E run h fn L d (gz (Qk false hp 5) args) fr hp nid g) (qib E run fn L d args fr hp id g) j
  |none=>.bad 307 h)
 |.yield y args=>qg 308 j (qbA run cx d y args fr hp id g)
theorem qkF(hm:P.follows .mixedOrders=true)(hE:XOk P E)(hf:w7 P E){run:XC}(hrun:vC P run){fs:List Fr}{lo:Nat}{rnd:Bool}{far:Nat→List (Nat×Nat)}{cx:CX}(hcx:qeP LM fs rnd cx){j:Bool}{J:Prop}(hj:j=true→J){op:Op}{d:Option Tmp}{id:Nat}{xr:XR}{fr:Tr 3 SV}{hp:Tr 6 XB}{nid:Nat}{g:Tr 3 SV→Tr 6 XB→Nat→R}{st:St}{K:St→Prop}{r:Res}(hs:StR LM fr hp nid st)(hh:Hit xr id r)(h:Zd E run cx j d id xr fr hp nid g=.ok ρ)
  (hk:∀fr' hp' nid' st',StR LM fr' hp' nid' st'→g fr' hp' nid'=.ok ρ→K st'):kj P ⟨fs,lo,rnd,far⟩ J op d id st K r:=by
 unfold Zd at h;split at h
 ·obtain⟨fr',h1,h2⟩:=kE h hs
  rcases hh with⟨obl,rfl,ho⟩|⟨obl,rfl,ho⟩
  ·exact⟨ho,hk _ _ _ _ h1 h2⟩
  ·exact⟨_,ho,hk _ _ _ _ h1 h2⟩
 ·obtain⟨obl,b',mk,rfl,ho,hb,rfl⟩:=hh
  obtain⟨hp',p1,h⟩:=qI _ _ _ _ h;obtain⟨fr',h1,h2⟩:=kE (st:={ st with hp:=(id,b') :: st.hp }) h ⟨hs.1,hs.2.1.cons hb.any p1,hs.2.2⟩;exact⟨ho,hk _ _ _ _ h1 h2⟩
 ·split at h
  ·rename_i y hy
   obtain⟨hp',p1,h⟩:=qI _ _ _ _ h;rcases hh with⟨obl,b',rfl,ho,hb,rfl⟩|⟨obl,b',rfl,ho,hb⟩
   ·obtain⟨fr',h1,h2⟩:=kE (st:={ st with hp:=setBlk st.hp _ b' }) h ⟨hs.1,hs.2.1.set hb.any hy p1,hs.2.2⟩
    exact⟨ho,hk _ _ _ _ h1 h2⟩
   ·obtain⟨fr',h1,h2⟩:=kE (st:={ st with hp:=setBlk st.hp _ b' }) h ⟨hs.1,hs.2.1.set hb.any hy p1,hs.2.2⟩
    exact⟨ho,hk _ _ _ _ h1 h2⟩
  ·cases h
 ·rename_i i b s
  obtain⟨obl,b',mk,rfl,ho,hb,rfl⟩:=hh;obtain⟨q,h⟩:=qa h;have q:i≠id:=fun e=>by rw[e,Nat.beq_refl]at q;cases q
  obtain⟨hp1,p1,h⟩:=qI _ _ _ _ h;obtain⟨hp2,p2,h⟩:=qI _ _ _ _ h;obtain⟨fr',h1,h2⟩:=kE (st:={ st with hp:=(id,b') :: dropBlk st.hp i }) h ⟨hs.1,(hs.2.1.drop p1).cons hb.any p2,hs.2.2⟩;exact⟨⟨ho,q⟩,hk _ _ _ _ h1 h2⟩
 ·rename_i h0 args
  split at h
  ·rename_i n i hp0
   have hh:r=.call h0 args:=hh;subst hh;exact .inl (qid (hE.prj _ _ _ hp0) hs h hk)
  split at h
  ·rename_i f hof
   obtain⟨q,h⟩:=qa h;have hh:r=.call h0 args:=hh;subst hh;refine .inr (.inr ⟨hj q,hE.orc _ _ hof ρ LM _ args hp _ ⟨st.fr,st.hp,id⟩ (fun st' res=>K (st'.put d res)) hs.2.1 h fun s hp' nid' H' hH' hk'=>?_⟩);obtain⟨fr',h1,h2⟩:=kE (LM:=LM) (st:=⟨st.fr,H',nid'⟩) hk' ⟨hs.1,hH',rfl⟩;exact hk _ _ _ _ h1 h2
  split at h
  ·rename_i s hcs
   obtain⟨qq_,h1,h2⟩:=w6 hs.2.1 hcs;obtain⟨h3,h⟩:=qa h;have hh:r=.call h0 args:=hh;subst hh;obtain⟨fr',g1,g2⟩:=kE h hs;exact .inl ⟨s,.inl ⟨qq_,hE.ctr _ _ _ h1,.inl ⟨h2,yx 5 _ h3⟩⟩,hk _ _ _ _ g1 g2⟩
  split at h
  ·rename_i t k n l s hcs
   obtain⟨qq_,h1,h2⟩:=w6 hs.2.1 hcs;obtain⟨row,c1,c2,c3,c4⟩:=hE.ctn _ _ _ _ _ _ _ h1;rw[kd]at h;obtain⟨hp',p1,h⟩:=qI _ _ _ _ h;have hh:r=.call h0 args:=hh;subst hh;obtain⟨fr',g1,g2⟩:=kE (st:={ st with hp:=(id,.rows t k n row) :: st.hp }) h ⟨hs.1,hs.2.1.cons (b:=.rows t k n l) (b':=.rows t k n row) ⟨rfl,rfl,rfl,c2⟩ p1,hs.2.2⟩;exact .inr (.inl ⟨qq_,_,_,c1,.inl ⟨h2,c3,c4⟩,hk _ _ _ _ g1 g2⟩)
  split at h
  ·rename_i fn L hfn
   obtain⟨c,hc⟩:=hf _ _ _ hfn;cases q:j with
   |false=>
    rw[q]at h;have hh:r=.call h0 args:=hh;subst hh;exact .inl (qif hm hE hrun hc hs h hk)
   |true=>
   rw[q]at h;have h:qib E run fn L d args fr hp id g=.ok ρ:=h;unfold qib at h;rw[hc.body]at h;obtain⟨q2,h⟩:=qa h;obtain⟨fr2,f1,f2⟩:=Za h;have hh:r=.call h0 args:=hh;subst hh;refine .inr (.inr ⟨hj q,GQ (zW L) (K:=fun st' res=>K (st'.put d res)) hm hc.at_ hc.body hc.name hc.ok (xa7 q2) fun out=>?_⟩);have key:∀(fr3:Tr 3 SV)(hp3:Tr 6 XB)(nid3:Nat)(st3:St),StR LM fr3 hp3 nid3 st3→Zb E fr3 hp3 fn.results.toList (fun m=>svK (oneSV m) fun s=>putD d s fr fun fr=>g fr hp3 nid3)=.ok ρ→resultsVC P fn.results.toList st3 (fun m=>K (St.put ⟨st.fr,st3.hp,st3.nid⟩ d (oneSV m))):=by
    intro fr3 hp3 nid3 st3 h3 h;refine Zc hE h3 h fun m h=>?_;rw[Zz]at h;obtain⟨fr',g1,g2⟩:=kE (st:=⟨st.fr,st3.hp,st3.nid⟩) h ⟨hs.1,h3.2.1,h3.2.2⟩;exact hk _ _ _ _ g1 g2
   refine hrun ρ LM _ _ _ L .top c ⟨argFr 0 args,st.hp,id⟩ fr2 hp id _ _ rfl ⟨f1,hs.2.1,rfl⟩ f2 fun e fr3 hp3 nid3 st3 h3 h=>?_;cases e with
   |exit i=>cases h
   |normal=>exact key _ _ _ _ h3 h
   |ret=>exact key _ _ _ _ h3 h
  ·cases h
 ·rename_i y args
  obtain⟨q,h⟩:=qa h;have hh:r=.yield y args:=hh;subst hh;exact⟨hj q,qeQ hm hrun hcx hs h hk⟩
def xGo(E:XE)(run:XC)(cx:CX)(j:Bool)(o:Oper)(fr:Tr 3 SV)(hp:Tr 6 XB)(nid i:Nat)(g:Tr 3 SV→Tr 6 XB→Nat→R):R:=
 qh (nid+i) fun id=>xOp E fr hp id o.op fun xr=>Zd E run cx j o.dst id xr fr hp nid g
def w8(ds:List (Option Tmp))(gd:Option (Nat×Bool))(d:Option Tmp)(fr:Tr 3 SV)(hp:Tr 6 XB)(nid:Nat)(go:R)(g:Tr 3 SV→Tr 6 XB→Nat→R):R:=
 match gd with
 |none=>go
 |some (i,want)=>(match nth ds i with
  |none=>.bad 310 0
  |some t=>(match qA fr t with
   |.val (.bool b)=>Bool.rec (putD d undefSV fr fun fr=>g fr hp nid) go (b == want)
   |.val (.tuple _)=>putD d undefSV fr fun fr=>g fr hp nid
   |_=>.bad 311 0))
def Ze(E:XE)(run:XC)(cx:CX)(j:Bool)(ds:List (Option Tmp))(ops:List Oper):Nat→Tr 3 SV→Tr 6 XB→Nat→(Tr 3 SV→Tr 6 XB→Nat→R)→R:=
 List.rec (motive:=fun _=>Nat→Tr 3 SV→Tr 6 XB→Nat→(Tr 3 SV→Tr 6 XB→Nat→R)→R) (fun _ fr hp nid g=>g fr hp nid)
  (fun o _ ih i fr hp nid g=>w8 ds o.guard o.dst fr hp nid (xGo E run cx j o fr hp nid i fun fr hp nid=>qh (Nat.succ i) fun i=>ih i fr hp nid g) (fun fr hp nid=>qh (Nat.succ i) fun i=>ih i fr hp nid g)) ops
theorem StR.same{fr:Tr 3 SV}{hp:Tr 6 XB}{nid:Nat}{st:St}(hs:StR LM fr hp nid st){t:Tmp}{s:SV}(e:qA fr t=s):StR LM fr hp nid (st.put (some t) s):=⟨fun u=>by
 show look (putFr st.fr t s) u=_;rw[zb];by_cases c:u=t
 ·rw[if_pos c,c,e]
 ·rw[if_neg c];exact hs.1 u,hs.2.1,hs.2.2⟩
theorem Kw(hm:P.follows .mixedOrders=true)(hE:XOk P E)(hf:w7 P E){run:XC}(hrun:vC P run){fs:List Fr}{lo:Nat}{rnd:Bool}{far:Nat→List (Nat×Nat)}{cx:CX}(hcx:qeP LM fs rnd cx){j:Bool}{J:Prop}(hj:j=true→J){ds:List (Option Tmp)}:∀{ops:List Oper}{i:Nat}{fr:Tr 3 SV}{hp:Tr 6 XB}{nid:Nat}{g:Tr 3 SV→Tr 6 XB→Nat→R}{st:St}{K:St→Prop},StR LM fr hp nid st→Ze E run cx j ds ops i fr hp nid g=.ok ρ→
  (∀fr' hp' nid' st',StR LM fr' hp' nid' st'→g fr' hp' nid'=.ok ρ→K st')→qZ P ⟨fs,lo,rnd,far⟩ J ds ops i st K
 |[],i,fr,hp,nid,g,st,K,hs,h,hk=>hk _ _ _ _ hs h
 |o :: ops,i,fr,hp,nid,g,st,K,hs,h,hk=>by
  have h:w8 ds o.guard o.dst fr hp nid (xGo E run cx j o fr hp nid i fun fr hp nid=>qh (Nat.succ i) fun i=>Ze E run cx j ds ops i fr hp nid g) (fun fr hp nid=>qh (Nat.succ i) fun i=>Ze E run cx j ds ops i fr hp nid g)=.ok ρ:=h;have next:∀fr' hp' nid' st',StR LM fr' hp' nid' st'→(qh (Nat.succ i) fun i=>Ze E run cx j ds ops i fr' hp' nid' g)=.ok ρ→qZ P ⟨fs,lo,rnd,far⟩ J ds ops (i+1) st' K:=by
   intro fr' hp' nid' st' hs' h';rw[qe]at h';exact Kw hm hE hf hrun hcx hj hs' h' hk
  have go:∀st,StR LM fr hp nid st→xGo E run cx j o fr hp nid i (fun fr hp nid=>qh (Nat.succ i) fun i=>Ze E run cx j ds ops i fr hp nid g)=.ok ρ→kj P ⟨fs,lo,rnd,far⟩ J o.op o.dst (st.nid+i) st (fun st=>qZ P ⟨fs,lo,rnd,far⟩ J ds ops (i+1) st K) (stepR P (look st.fr) st.hp o.op):=by
   intro st hs h;unfold xGo at h;rw[qe]at h;obtain⟨xr,h1,h2⟩:=qbg hE hs.1.fn hs.2.1 h;rw[hs.2.2];exact qkF hm hE hf hrun hcx hj hs h1 h2 next
  have skip:∀st,StR LM fr hp nid st→(putD o.dst undefSV fr fun fr=>qh (Nat.succ i) fun i=>Ze E run cx j ds ops i fr hp nid g)=.ok ρ→qZ P ⟨fs,lo,rnd,far⟩ J ds ops (i+1) (st.put o.dst undefSV) K:=by
   intro st hs h;obtain⟨fr',h1,h2⟩:=kE h hs;exact next _ _ _ _ h1 h2
  unfold qZ zf;unfold w8 at h;cases hgd:o.guard with
  |none=>rw[hgd]at h;exact go st hs h
  |some x=>
   obtain⟨i0,want⟩:=x;rw[hgd]at h;dsimp only at h ⊢;cases hn:nth ds i0 with
   |none=>rw[hn]at h;cases h
   |some t=>
    rw[hn]at h;dsimp only at h ⊢;rw[hs.1 t];split at h
    ·rename_i b hb
     rw[hb];have hs2:=hs.same hb;cases want<;>cases b<;>(dsimp only at h ⊢)
     ·exact⟨fun e=>(by cases e),fun _=>go _ hs2 h⟩
     ·exact⟨fun _=>skip _ hs2 h,fun e=>by cases e⟩
     ·exact⟨fun e=>(by cases e),fun _=>skip _ hs2 h⟩
     ·exact⟨fun _=>go _ hs2 h,fun e=>by cases e⟩
    ·rename_i vs hb
     rw[hb];exact skip st hs h
    ·cases h
end
end
end Go.Sx
end
section
namespace Go.Sx
open Go.RowKit
noncomputable section
variable{ρ:Q}
def qig(eq:SV→SV→Bool):List SV→List SV→Bool
 |[],[]=>true
 |a :: l,b :: m=>eq a b&&qig eq l m
 |_,_=>false
def qmC(eq:SV→SV→Bool)(a b:SV):Bool:=
 match a with
 |.val u=>(match b with|.val v=>qdb u v|_=>false)
 |.ptr i o=>(match b with|.ptr j p=>Nat.beq i j&&Nat.beq o p|_=>false)
 |.elt i k a c=>(match b with|.elt j l b d=>Nat.beq i j&&(Nat.beq k l&&(Nat.beq a b&&Nat.beq c d))|_=>false)
 |.vec i n k=>(match b with|.vec j m l=>Nat.beq i j&&(Nat.beq n m&&Nat.beq k l)|_=>false)
 |.cut i n k=>(match b with|.cut j m l=>Nat.beq i j&&(Nat.beq n m&&Nat.beq k l)|_=>false)
 |.asl i o n k=>(match b with|.asl j p m l=>Nat.beq i j&&(Nat.beq o p&&(Nat.beq n m&&Nat.beq k l))|_=>false)
 |.que i o n k=>(match b with|.que j p m l=>Nat.beq i j&&(Nat.beq o p&&(Nat.beq n m&&Nat.beq k l))|_=>false)
 |.mp i=>(match b with|.mp j=>Nat.beq i j|_=>false)
 |.agg l=>(match b with|.agg m=>qig eq l m|_=>false)
 |.tup l=>(match b with|.tup m=>qig eq l m|_=>false)
 |.top=>(match b with|.top=>true|_=>false)
 |_=>false
def qmD(n:Nat):SV→SV→Bool:=Nat.rec (fun _ _=>false) (fun _ ih=>qmC ih) n
theorem qdd{eq:SV→SV→Bool}(h:∀a b,eq a b=true→a=b):∀{l m:List SV},qig eq l m=true→l=m
 |[],[],_=>rfl
 |[],_ :: _,e=>by cases e
 |_ :: _,[],e=>by cases e
 |a :: l,b :: m,e=>by
  simp only[qig,xe6]at e;rw[h _ _ e.1,qdd h e.2]
theorem qde:∀(n:Nat)(a b:SV),qmD n a b=true→a=b
 |0,a,b,h=>by cases h
 |n+1,a,b,h=>by
  have h:qmC (qmD n) a b=true:=h;have ih:=qde n;unfold qmC at h;split at h<;>(try split at h)<;>first
   |(cases h;done)
   |(rw[YO h];done)
   |(rw[qdd ih h];done)
   |(rw[xa6 h];done)
   |rfl
   |(simp only[xe6,Nat.beq_eq]at h;obtain⟨rfl,rfl⟩:=h;rfl)
   |(simp only[xe6,Nat.beq_eq]at h;obtain⟨rfl,rfl,rfl⟩:=h;rfl)
   |(simp only[xe6,Nat.beq_eq]at h;obtain⟨rfl,rfl,rfl,rfl⟩:=h;rfl)
def qpd(E:XE)(rs:List ResultVar)(g:SV→Tr 6 XB→Nat→R):XK
 |.exit _,_,_,_=>.bad 301 0
 |.normal,fr3,hp3,nid3=>Zb E fr3 hp3 rs fun m=>svK (oneSV m) fun s=>g s hp3 nid3
 |.ret,fr3,hp3,nid3=>Zb E fr3 hp3 rs fun m=>svK (oneSV m) fun s=>g s hp3 nid3
def qlJ(E:XE)(run:XC)(fn:Func)(L:FL)(args:List SV)(hp:Tr 6 XB)(id:Nat)(g:SV→Tr 6 XB→Nat→R):R:=
 match fn.body with
 |some c=>qg 302 (Nat.ble args.length fn.ntmps) (YP args 0 .nil fun fr2=>run L .top c fr2 hp id (qpd E fn.results.toList g))
 |none=>.bad 303 0
def qlK(n:Nat)(i:Sh)(args:List SV)(g:SV→R):R:=
 qg 376 (Nat.beq args.length n) (match i.sv args with
  |some s=>svK s g
  |none=>.bad 377 0)
def YQ(E:XE)(run:XC)(id:Nat)(xr:XR)(hp:Tr 6 XB)(g:SV→Tr 6 XB→Nat→R):R:=
 match xr with
 |.pure s=>g s hp id
 |.new b s=>zi (some b) 22 hp id fun hp=>g s hp id
 |.upd i b s=>(match hp.find i with
  |some _=>zi (some b) 22 hp i fun hp=>g s hp id
  |none=>.bad 304 0)
 |.grow i b s=>qg 305 (!(Nat.beq i id)) (zi none 22 hp i fun hp=>zi (some b) 22 hp id fun hp=>g s hp id)
 |.call h args=>(match E.prj h with
  |some (n,i)=>qlK n i args fun s=>g s hp id
  |none=>match E.orc h with
  |some f=>f args hp id g
  |none=>match J8 hp args (E.ctr h)with
  |some s=>qg 309 (GP 5 s) (g s hp id)
  |none=>match J8 hp args (E.ctn h)with
  |some (t,k,n,l,s)=>yD l fun l=>zi (some (.rows t k n l)) 22 hp id fun hp=>g (setId id s) hp id
  |none=>match E.fns h with
  |some (fn,L)=>qlJ E run fn L args hp id g
  |none=>.bad 307 h)
 |.yield _ _=>.bad 381 0
def okQ(s:SV)(hp:Tr 6 XB)(nid:Nat):R:=.ok (.mk s hp nid)
def Z0(E:XE)(run:XC)(id:Nat)(o:Oper)(fr:Tr 3 SV)(hp:Tr 6 XB)(g:SV→Tr 6 XB→Nat→R):R:=
 match (xOp E fr hp id o.op fun xr=>YQ E run id xr hp okQ)with
 |.ok (.mk s hp nid)=>g s hp nid
 |.bad c i=>.bad c i
def qdf(xr:XR):R:=
 match xr with
 |.pure s=>.ok (.mk s .nil 0)
 |_=>.bad 382 0
def GR(k:Value)(l:List Value):Bool:=List.rec false (fun a _ ih=>Bool.rec ih true (Gr a k)) l
def jp(es:List (Value×Option SV)):List Value→List Value:=List.rec (motive:=fun _=>List Value→List Value) (fun _=>[]) (fun p _ ih seen=>Bool.rec (ih seen) (Bool.rec (Option.rec (ih (p.1 :: seen)) (fun _=>p.1 :: ih (p.1 :: seen)) p.2) (ih seen) (GR p.1 seen)) (Gr p.1 p.1)) es
def qbB(es:List (Value×Option SV)):List Value→Nat→(Nat→R)→R:=List.rec (motive:=fun _=>List Value→Nat→(Nat→R)→R) (fun _ c f=>f c) (fun p _ ih seen c f=>Bool.rec (ih seen c f) (Bool.rec (Option.rec (ih (p.1 :: seen) c f) (fun _=>qh (Nat.succ c) fun c=>ih (p.1 :: seen) c f) p.2) (ih seen c f) (GR p.1 seen)) (Gr p.1 p.1)) es
def YR(E:XE)(op:Op):Option Operand:=
 match op with
 |.call ⟨.builtin .len,args,ts⟩=>(match args.toList,ts.toList with
  |[x],[t]=>(match E.mps t with
   |some _=>some x
   |none=>none)
  |_,_=>none)
 |_=>none
def GS(x:SV)(hp:Tr 6 XB):R:=
 match x with
 |.mp id=>(match hp.find id with
  |some (.map _ _ es)=>qbB es [] 0 fun n=>.ok (.mk (.val (.int .i64 (.ofNat n))) .nil 0)
  |_=>.bad 390 0)
 |_=>.bad 391 0
def GT(E:XE)(fr:Tr 3 SV)(hp:Tr 6 XB)(op:Op):R:=
 match YR E op with
 |some x=>GS (qW fr x) hp
 |none=>xOp E fr hp 0 op qdf
def gA(E:XE)(o:Oper)(fr:Tr 3 SV)(hp:Tr 6 XB)(g:SV→R):R:=
 match (GT E fr hp o.op)with
 |.ok (.mk s _ _)=>g s
 |.bad c i=>.bad c i
def qlL(fr:Tr 3 SV)(op:Op):Bool:=
 match op with
 |.load _ x=>(match qW fr x with|.ref _ _ _=>true|_=>false)
 |_=>false
def zD(fr:Tr 3 SV)(op:Op):Bool:=Gz op&&!qlL fr op
def Jo(b:Bool)(hp:Tr 6 XB):Tr 6 XB:=Bool.rec .nil hp b
abbrev CK:=Tr 3 SV→Tr 6 XB→Nat→List (Tr 6 XB)→R
def gdX(ds:List (Option Tmp))(gd:Option (Nat×Bool))(fr:Tr 3 SV):Option Bool:=
 match gd with
 |none=>some false
 |some (i,want)=>(match nth ds i with
  |none=>none
  |some t=>(match qA fr t with
   |.val (.bool b)=>some (!(b == want))
   |.val (.tuple _)=>some true
   |_=>none))
def gF(E:XE)(run:XC)(n:Nat)(ds:List (Option Tmp))(ops:List Oper):Tr 3 SV→Tr 6 XB→Nat→List (Tr 6 XB)→CK→R:=
 List.rec (motive:=fun _=>Tr 3 SV→Tr 6 XB→Nat→List (Tr 6 XB)→CK→R) (fun fr hp nid hs g=>g fr hp nid hs)
  (fun o _ ih fr hp nid hs g=>match gdX ds o.guard fr with
   |some false=>Bool.rec (gA E o fr (Jo (zD fr o.op) hp) fun s=>putD o.dst s fr fun fr=>ih fr hp nid hs g)
    (qh (nid+n) fun id=>Z0 E run id o fr hp fun s hp' nid'=>qh (Nat.succ nid') fun nid'=>putD o.dst s fr fun fr=>ih fr hp' nid' (hs++[hp']) g) (kU o.op)
   |some true=>putD o.dst undefSV fr fun fr=>Bool.rec (ih fr hp nid hs g) (qh (nid+n) fun nid=>ih fr hp nid (hs++[hp]) g) (kU o.op)
   |none=>.bad 386 0) ops
def Kf(ds:List (Option Tmp))(o:Oper)(fr:Tr 3 SV):Bool:=match gdX ds o.guard fr with
 |some false=>true
 |_=>false
def Wj(E:XE)(fr:Tr 3 SV)(o:Oper)(hp:Tr 6 XB)(r:R):R:=
 gA E o fr hp fun s=>(match o.dst with
  |some d=>qnH 384 d (qmD 6 s (qA fr d)) r
  |none=>r)
def Qm(E:XE)(fr:Tr 3 SV)(o:Oper)(lo hi tx:Nat)(r:R)(hs:List (Tr 6 XB)):Nat→R:=
 List.rec (motive:=fun _=>Nat→R) (fun _=>r) (fun hp _ ih k=>Bool.rec (qh (Nat.succ k) fun k=>ih k) (Wj E fr o hp (qh (Nat.succ k) fun k=>ih k)) (Nat.ble lo k&&(Nat.ble k hi&&!(Nat.beq k tx)))) hs
def GU(E:XE)(l:List Oper)(fr:Tr 3 SV)(hs:List (Tr 6 XB))(r:R)(ops:List Oper):Nat→R:=
 List.rec (motive:=fun _=>Nat→R) (fun _=>r) (fun o _ ih i=>Bool.rec (qh (Nat.succ i) fun i=>ih i) (qh (loC l i) fun lo=>qh (hiC l i) fun hi=>qh (kc (efL l) i) fun tx=>Qm E fr o lo hi tx (qh (Nat.succ i) fun i=>ih i) hs 0) (zD fr o.op&&Kf (dsts l) o fr)) ops
def qkG(E:XE)(run:XC)(ops:List Oper)(fr:Tr 3 SV)(hp:Tr 6 XB)(nid:Nat)(f:XK):R:=
 qg 385 (GB ops) (qh ops.length fun n=>gF E run n (dsts ops) ops fr hp nid [hp] fun fr hp nid hs=>GU E ops fr hs (qh (nid+n) fun nid=>f .normal fr hp nid) ops 0)
section
variable{P:Program}{E:XE}{LM:Nat→Option Loop}
theorem qkH(hm:P.follows .mixedOrders=true)(hE:XOk P E)(hf:w7 P E){run:XC}(hrun:vC P run){O:Ctx}{op:Op}{d:Option Tmp}{id:Nat}{xr:XR}{hp:Tr 6 XB}{g:SV→Tr 6 XB→Nat→R}{st:St}{K:St→Prop}{r:Res}(hH:HRel LM hp st.hp)(hn:st.nid=id)(hh:Hit xr id r)(h:YQ E run id xr hp g=.ok ρ)
  (hk:∀s hp' nid' st',(∀t,look st'.fr t=look (st.put d s).fr t)→HRel LM hp' st'.hp→st'.nid=nid'→g s hp' nid'=.ok ρ→K st'):kj P O True op d id st K r:=by
 have fr0:∀(H:List (Nat×Blk))(n:Nat)(s:SV)(t:Nat),look (St.put ⟨st.fr,H,n⟩ d s).fr t=look (st.put d s).fr t:=fun H n s t=>by rw[z8,z8]
 unfold YQ at h;split at h
 ·rcases hh with⟨obl,rfl,ho⟩|⟨obl,rfl,ho⟩
  ·exact⟨ho,hk _ _ _ _ (fun t=>rfl) (by rw[zk];exact hH) ΩE h⟩
  ·exact⟨_,ho,hk _ _ _ _ (fun t=>rfl) (by rw[zk];exact hH) ΩE h⟩
 ·obtain⟨obl,b',mk,rfl,ho,hb,rfl⟩:=hh
  obtain⟨hp',p1,h⟩:=qI _ _ _ _ h;exact⟨ho,hk _ _ _ _ (fun t=>fr0 _ _ _ t) (by rw[zk];exact hH.cons hb.any p1) ΩE h⟩
 ·split at h
  ·rename_i y hy
   obtain⟨hp',p1,h⟩:=qI _ _ _ _ h;rcases hh with⟨obl,b',rfl,ho,hb,rfl⟩|⟨obl,b',rfl,ho,hb⟩
   ·exact⟨ho,hk _ _ _ _ (fun t=>fr0 _ _ _ t) (by rw[zk];exact hH.set hb.any hy p1) ΩE h⟩
   ·exact⟨ho,hk _ _ _ _ (fun t=>fr0 _ _ _ t) (by rw[zk];exact hH.set hb.any hy p1) ΩE h⟩
  ·cases h
 ·rename_i i b s
  obtain⟨obl,b',mk,rfl,ho,hb,rfl⟩:=hh;obtain⟨q,h⟩:=qa h;have q:i≠id:=fun e=>by rw[e,Nat.beq_refl]at q;cases q
  obtain⟨hp1,p1,h⟩:=qI _ _ _ _ h;obtain⟨hp2,p2,h⟩:=qI _ _ _ _ h;exact⟨⟨ho,q⟩,hk _ _ _ _ (fun t=>fr0 _ _ _ t) (by rw[zk];exact(hH.drop p1).cons hb.any p2) ΩE h⟩
 ·rename_i h0 args
  have hh:r=.call h0 args:=hh;subst hh;split at h
  ·rename_i n i hp0
   unfold qlK at h;obtain⟨q,h⟩:=qa h;have q:=xa6 q;split at h
   ·rename_i s ha
    rw[Zz]at h;exact .inl ⟨s,.inr ⟨i,by rw[q];exact hE.prj _ _ _ hp0,ha⟩,hk _ _ _ _ (fun t=>rfl) (by rw[zk];exact hH) ΩE h⟩
   ·cases h
  split at h
  ·rename_i f hof
   refine .inr (.inr ⟨trivial,hE.orc _ _ hof ρ LM O args hp g ⟨st.fr,st.hp,id⟩ (fun st' res=>K (st'.put d res)) hH h fun s hp' nid' H' hH' hk'=>?_⟩);exact hk _ _ _ _ (fun t=>fr0 _ _ _ t) (by rw[zk];exact hH') (by rw[qr]) hk'
  split at h
  ·rename_i s hcs
   obtain⟨qq_,h1,h2⟩:=w6 hH hcs;obtain⟨h3,h⟩:=qa h;exact .inl ⟨s,.inl ⟨qq_,hE.ctr _ _ _ h1,.inl ⟨h2,yx 5 _ h3⟩⟩,hk _ _ _ _ (fun t=>rfl) (by rw[zk];exact hH) ΩE h⟩
  split at h
  ·rename_i t k n l s hcs
   obtain⟨qq_,h1,h2⟩:=w6 hH hcs;obtain⟨row,c1,c2,c3,c4⟩:=hE.ctn _ _ _ _ _ _ _ h1;rw[kd]at h;obtain⟨hp',p1,h⟩:=qI _ _ _ _ h;exact .inr (.inl ⟨qq_,_,_,c1,.inl ⟨h2,c3,c4⟩,hk _ _ _ _ (fun t=>fr0 _ _ _ t) (by rw[zk];exact hH.cons (b:=.rows t k n l) (b':=.rows t k n row) ⟨rfl,rfl,rfl,c2⟩ p1) ΩE h⟩)
  split at h
  ·rename_i fn L hfn
   obtain⟨c,hc⟩:=hf _ _ _ hfn;unfold qlJ at h;rw[hc.body]at h;obtain⟨q2,h⟩:=qa h;obtain⟨fr2,f1,f2⟩:=Za h;refine .inr (.inr ⟨trivial,GQ (zW L) (K:=fun st' res=>K (st'.put d res)) hm hc.at_ hc.body hc.name hc.ok (xa7 q2) fun out=>?_⟩);have key:∀(fr3:Tr 3 SV)(hp3:Tr 6 XB)(nid3:Nat)(st3:St),StR LM fr3 hp3 nid3 st3→Zb E fr3 hp3 fn.results.toList (fun m=>svK (oneSV m) fun s=>g s hp3 nid3)=.ok ρ→resultsVC P fn.results.toList st3 (fun m=>K (St.put ⟨st.fr,st3.hp,st3.nid⟩ d (oneSV m))):=by
    intro fr3 hp3 nid3 st3 h3 h;refine Zc hE h3 h fun m h=>?_;rw[Zz]at h;exact hk _ _ _ _ (fun t=>fr0 _ _ _ t) (by rw[zk];exact h3.2.1) (by rw[qr];exact h3.2.2) h
   refine hrun ρ LM _ _ _ L .top c ⟨argFr 0 args,st.hp,id⟩ fr2 hp id _ _ rfl ⟨f1,hH,rfl⟩ f2 fun e fr3 hp3 nid3 st3 h3 h=>?_;cases e with
   |exit i=>cases h
   |normal=>exact key _ _ _ _ h3 h
   |ret=>exact key _ _ _ _ h3 h
  ·cases h
 ·cases h
def YS(P:Program)(LM:Nat→Option Loop)(n:Nat)(ds:List (Option Tmp))(o:Oper)(sk:Bool)(s:SV)(X X':Tr 3 SV)(Y Y':Tr 6 XB)(Z Z':Nat):Prop:=
 (∀t,qA X' t=if o.dst=some t then s else qA X t)∧gdX ds o.guard X=some sk∧
 (sk=true→s=undefSV∧Y'=Y∧(kU o.op=true→Z+n≤Z'))∧
 (kU o.op=false→Y'=Y∧Z'=Z)∧
 (sk=false→kU o.op=false→(∀H,HRel LM Y H→PureAt P (qA X) H o.op s)∧(zD X o.op=false→∀H,PureAt P (qA X) H o.op s))∧
 (sk=false→kU o.op=true→∀(O:Ctx)(st1:St),(∀t,t∈zl o→look st1.fr t=qA X t)→HRel LM Y st1.hp→st1.nid=Z+n→∀K':St→Prop,(∀st':St,(∀t,look st'.fr t=look (st1.put o.dst s).fr t)→HRel LM Y' st'.hp→st'.nid+1≤Z'→K' st')→kj P O True o.op o.dst st1.nid st1 K' (stepR P (look st1.fr) st1.hp o.op))
theorem Wl{d:Option Tmp}{s:SV}{fr:Tr 3 SV}{g:Tr 3 SV→R}(h:putD d s fr g=.ok ρ):∃fr',(∀t,qA fr' t=if d=some t then s else qA fr t)∧g fr'=.ok ρ:=by
 unfold putD at h;cases d with
 |none=>exact⟨fr,fun t=>by rw[if_neg (by intro h;cases h)],h⟩
 |some d=>
  obtain⟨fr',h1,h2⟩:=qI _ _ _ _ h;refine⟨fr',fun t=>?_,h2⟩;unfold qA;rw[h1 t];by_cases c:t=d
  ·rw[if_pos c,if_pos (by rw[c])]
  ·rw[if_neg c,if_neg (by intro h;cases h;exact c rfl)]
theorem Qn{o:Oper}{t:Tmp}(h : .tmp t∈o.op.operands.toList):t∈zl o:=by
 unfold zl;rw[List.mem_filterMap];exact⟨_,h,rfl⟩
theorem qdg{H:List (Nat×Blk)}:HRel LM .nil H:=fun id b hb=>by rw[QF]at hb;cases hb
theorem Va{o:Oper}{fr:Tr 3 SV}{hp:Tr 6 XB}{g:SV→R}(h:gA E o fr hp g=.ok ρ):∃s,(∃a b,GT E fr hp o.op=.ok (.mk s a b))∧g s=.ok ρ:=by
 unfold gA at h;split at h
 ·rename_i s a b hx
  exact⟨s,⟨a,b,hx⟩,h⟩
 ·cases h
theorem Wm{k:Value}(hk:eqK k k=true):∀{l:List Value},GR k l=true↔k∈l
 |[]=>by simp[GR]
 |a :: l=>by
  show(Bool.rec (GR k l) true (Gr a k):Bool)=true↔_;rw[VO,List.mem_cons];cases h:eqK a k with
  |true=>have:=kf h;simp[this]
  |false=>
   show GR k l=true↔_;rw[Wm hk];constructor
   ·exact .inr
   ·rintro(rfl|h1)
    ·rw[hk]at h;cases h
    ·exact h1
theorem Qo(p:Value×Option SV)(es:List (Value×Option SV))(seen:List Value):jp (p :: es) seen=(Bool.rec (jp es seen) (Bool.rec (Option.rec (jp es (p.1 :: seen)) (fun _=>p.1 :: jp es (p.1 :: seen)) p.2) (jp es seen) (GR p.1 seen)) (Gr p.1 p.1):List Value):=rfl
theorem Zf(f:Nat→R):∀(es:List (Value×Option SV))(seen:List Value)(c:Nat),qbB es seen c f=f (c+(jp es seen).length)
 |[],seen,c=>rfl
 |p :: es,seen,c=>by
  show(Bool.rec (qbB es seen c f) (Bool.rec (Option.rec (qbB es (p.1 :: seen) c f) (fun _=>qh (Nat.succ c) fun c=>qbB es (p.1 :: seen) c f) p.2) (qbB es seen c f) (GR p.1 seen)) (Gr p.1 p.1):R)=_;rw[Qo];cases Gr p.1 p.1 with
  |false=>exact Zf f es seen c
  |true=>
  cases GR p.1 seen with
  |true=>exact Zf f es seen c
  |false=>
   cases p.2 with
   |none=>exact Zf f es _ c
   |some s=>
    show(qh (Nat.succ c) fun c=>qbB es (p.1 :: seen) c f)=f (c+((jp es (p.1 :: seen)).length+1));rw[qe,Zf f es _ _]
    congr 1;omega
theorem keysE_mem{k:Value}:∀{es:List (Value×Option SV)}{seen:List Value},k∈jp es seen↔k∉seen∧(vp es k).isSome=true
 |[],seen=>by
  show k∈[]↔_∧Option.isSome none=true;simp
 |p :: es,seen=>by
  rw[Qo,vY,VO];cases hs:eqK p.1 p.1 with
  |false=>
   show k∈jp es seen↔_;rw[keysE_mem];have:¬(eqK p.1 k=true):=fun h=>by rw[←kf h,hs]at h;cases h
   rw[if_neg this]
  |true=>
   cases hh:GR p.1 seen with
   |true=>
    show k∈jp es seen↔_;have hm:=(Wm hs).1 hh;rw[keysE_mem];by_cases c:eqK p.1 k=true
    ·have:=kf c
     subst this;simp[hm]
    ·rw[if_neg c]
   |false=>
    have hm:p.1∉seen:=fun h=>by rw[(Wm hs).2 h]at hh;cases hh
    by_cases c:eqK p.1 k=true
    ·rw[if_pos c]
     have:=kf c;subst this;cases p.2 with
     |none=>
      show p.1∈jp es (p.1 :: seen)↔_;rw[keysE_mem];simp
     |some s=>
      show p.1∈p.1 :: jp es (p.1 :: seen)↔_;simp[hm]
    ·rw[if_neg c]
     have hne:k≠p.1:=fun h=>by rw[h,hs]at c;exact c rfl
     cases p.2 with
     |none=>
      show k∈jp es (p.1 :: seen)↔_;rw[keysE_mem];simp[hne]
     |some s=>
      show k∈p.1 :: jp es (p.1 :: seen)↔_;rw[List.mem_cons,keysE_mem];simp[hne]
theorem jf:∀{es:List (Value×Option SV)}{seen:List Value},(jp es seen).Nodup
 |[],seen=>List.nodup_nil
 |p :: es,seen=>by
  rw[Qo];cases Gr p.1 p.1 with
  |false=>exact jf
  |true=>
   cases GR p.1 seen with
   |true=>exact jf
   |false=>
    cases p.2 with
    |none=>exact jf
    |some s=>
     refine List.nodup_cons.2 ⟨fun h=>?_,jf⟩;have:=(keysE_mem.1 h).1;simp at this
theorem qih{op:Op}{x:Operand}(h:YR E op=some x):∃t mi,op=.call ⟨.builtin .len,#[x],#[t]⟩∧E.mps t=some mi:=by
 unfold YR at h;split at h
 ·rename_i args ts
  split at h
  ·rename_i x' t ha ht
   split at h
   ·rename_i mi hm
    cases h;have e1:=KQ ha;have e2:=KQ ht;subst e1;subst e2;exact⟨t,mi,rfl,hm⟩
   ·cases h
  ·cases h
 ·cases h
theorem Zg(hE:XOk P E){fr:Tr 3 SV}{hp:Tr 6 XB}{op:Op}{s:SV}{H:List (Nat×Blk)}(hH:HRel LM hp H)(h:∃a b,GT E fr hp op=.ok (.mk s a b)):PureAt P (qA fr) H op s:=by
 obtain⟨a,b,h⟩:=h;unfold GT at h;split at h
 ·rename_i x hl
  obtain⟨t,mi,rfl,hm⟩:=qih hl;refine .inr ⟨rfl,fun O st hfr hst=>?_⟩;unfold GS at h;split at h
  ·rename_i id hx
   split at h
   ·rename_i ag ls es hb
    rw[Zf]at h;cases h;subst hst;obtain⟨dom,get,g1,g2⟩:=hH.map hb;have hxe:env (look st.fr) x=.mp id:=by
     rw[←hx];cases x with
     |tmp t=>exact hfr t Ωo
     |_=>rfl
    have:=qeL (O:=O) (hE.mps _ _ hm) hxe g1 jf (L:=jp es []) fun k=>by rw[(g2 k).1,keysE_mem];simp
    rw[xb0];exact this
   ·cases h
  ·cases h
 ·obtain⟨xr,h1,h2⟩:=qbg hE (F:=qA fr) (fun _=>rfl) hH h
  cases xr<;>simp only[qdf,reduceCtorEq]at h2
  cases h2;exact .inl h1
theorem PureAt.congr{F F':Nat→SV}{H:List (Nat×Blk)}{o:Oper}{s:SV}(h:PureAt P F H o.op s)(hF:∀t,t∈zl o→F' t=F t):PureAt P F' H o.op s:=by
 rcases h with h|⟨h1,h2⟩
 ·exact .inl (by rw[JT (F':=F) fun t ht=>hF t (Qn ht)];exact h)
 ·exact .inr ⟨h1,fun O st hfr hst=>h2 O st (fun t ht=>by rw[hfr t ht,hF t ht]) hst⟩
theorem qii{o:Oper}{l:List Oper}{j:Nat}:efL (o :: l) (j+1)=efL l j:=by simp[efL]
theorem qdh{o:Oper}{l:List Oper}:∀{j:Nat},kc (efL (o :: l)) (j+1)=(if kU o.op=true then 1 else 0)+kc (efL l) j
 |0=>by simp[kc,efL]
 |j+1=>by
  have ih:=qdh (o:=o) (l:=l) (j:=j);simp only[kc]at ih ⊢;rw[ih,qii];omega
theorem GV(hm:P.follows .mixedOrders=true)(hE:XOk P E)(hf:w7 P E){run:XC}(hrun:vC P run){n:Nat}{ds:List (Option Tmp)}:∀{ops:List Oper}{fr:Tr 3 SV}{hp:Tr 6 XB}{nid k0:Nat}{hs:List (Tr 6 XB)}{g:CK},gF E run n ds ops fr hp nid hs g=.ok ρ→hs.length=k0+1→hs[k0]? = some hp→
  ∃(res:Nat→SV)(sk:Nat→Bool)(X:Nat→Tr 3 SV)(Y:Nat→Tr 6 XB)(Z:Nat→Nat)(hs':List (Tr 6 XB)),X 0=fr∧Y 0=hp∧Z 0=nid∧g (X ops.length) (Y ops.length) (Z ops.length) hs'=.ok ρ∧
   (∀i o,ops[i]? = some o→YS P LM n ds o (sk i) (res i) (X i) (X (i+1)) (Y i) (Y (i+1)) (Z i) (Z (i+1)))∧(∀j,j≤ops.length→hs'[k0+kc (efL ops) j]? = some (Y j))∧∀k,k≤k0→hs'[k]? = hs[k]?
 |[],fr,hp,nid,k0,hs,g,h,hl,hh=>by
  refine⟨fun _=>.top,fun _=>false,fun _=>fr,fun _=>hp,fun _=>nid,hs,rfl,rfl,rfl,h,fun i o ho=>by simp at ho,fun j hj=>?_,fun _ _=>rfl⟩;have:j=0:=by simpa using hj
  subst this;exact hh
 |o :: ops,fr,hp,nid,k0,hs,g,h,hl,hh=>by
  have h:(match gdX ds o.guard fr with
   |some false=>Bool.rec (gA E o fr (Jo (zD fr o.op) hp) fun s=>putD o.dst s fr fun fr=>gF E run n ds ops fr hp nid hs g)
    (qh (nid+n) fun id=>Z0 E run id o fr hp fun s hp' nid'=>qh (Nat.succ nid') fun nid'=>putD o.dst s fr fun fr=>gF E run n ds ops fr hp' nid' (hs++[hp']) g) (kU o.op)
   |some true=>putD o.dst undefSV fr fun fr=>Bool.rec (gF E run n ds ops fr hp nid hs g) (qh (nid+n) fun nid=>gF E run n ds ops fr hp nid (hs++[hp]) g) (kU o.op)
   |none=>.bad 386 0:R)=.ok ρ:=h
  have glue:∀(k:Bool)(s:SV)(fr':Tr 3 SV)(hp':Tr 6 XB)(nid' k1:Nat)(hs1:List (Tr 6 XB)),YS P LM n ds o k s fr fr' hp hp' nid nid'→gF E run n ds ops fr' hp' nid' hs1 g=.ok ρ→hs1.length=k1+1→hs1[k1]? = some hp'→k1=k0+(if kU o.op=true then 1 else 0)→(∀k,k≤k0→hs1[k]? = hs[k]?)→
    ∃(res:Nat→SV)(sk:Nat→Bool)(X:Nat→Tr 3 SV)(Y:Nat→Tr 6 XB)(Z:Nat→Nat)(hs':List (Tr 6 XB)),X 0=fr∧Y 0=hp∧Z 0=nid∧g (X (o :: ops).length) (Y (o :: ops).length) (Z (o :: ops).length) hs'=.ok ρ∧
   (∀i o',(o :: ops)[i]? = some o'→YS P LM n ds o' (sk i) (res i) (X i) (X (i+1)) (Y i) (Y (i+1)) (Z i) (Z (i+1)))∧(∀j,j≤(o :: ops).length→hs'[k0+kc (efL (o :: ops)) j]? = some (Y j))∧∀k,k≤k0→hs'[k]? = hs[k]?:=by
   intro k s fr' hp' nid' k1 hs1 hstep hrest hl1 hh1 hk1 hpre;obtain⟨res,sk,X,Y,Z,hs',e1,e2,e3,hg,hst,hsg,hpr⟩:=GV hm hE hf hrun hrest hl1 hh1;refine⟨fun i=>Nat.casesOn i s res,fun i=>Nat.casesOn i k sk,fun i=>Nat.casesOn i fr X,fun i=>Nat.casesOn i hp Y,fun i=>Nat.casesOn i nid Z,hs',rfl,rfl,rfl,hg,fun i o' ho=>?_,fun j hj=>?_,fun k hk=>?_⟩
   ·cases i with
    |zero=>
     simp at ho;subst ho;show YS P LM n ds o k s fr (X 0) hp (Y 0) nid (Z 0);rw[e1,e2,e3];exact hstep
    |succ i=>exact hst i o' Ω6
   ·cases j with
    |zero=>
     show hs'[k0+0]? = some hp;rw[xb1,hpr k0 Ω,hpre k0 (xa5 _),hh]
    |succ j=>
     show hs'[_]? = some (Y j);rw[qdh,←xb2,←hk1];exact hsg j ΩY
   ·rw[hpr k Ω,hpre k hk]
  split at h
  ·rename_i hgd
   cases q:kU o.op with
   |false=>
    rw[q]at h;have h:gA E o fr (Jo (zD fr o.op) hp) (fun s=>putD o.dst s fr fun fr=>gF E run n ds ops fr hp nid hs g)=.ok ρ:=h;obtain⟨s,hx,h⟩:=Va h;obtain⟨fr',hfr,h⟩:=Wl h;refine glue false s fr' hp nid k0 hs ⟨hfr,hgd,fun e=>(by cases e),fun _=>⟨rfl,rfl⟩,fun _ _=>⟨fun H hH=>?_,fun hr H=>?_⟩,fun _ e=>by rw[q]at e;cases e⟩ h hl hh (by simp[q]) (fun _ _=>rfl)
    ·refine Zg hE (LM:=LM) (hp:=Jo (zD fr o.op) hp) ?_ hx
     cases zD fr o.op
     ·exact qdg
     ·exact hH
    ·rw[hr]at hx
     exact Zg hE (LM:=LM) (hp:=.nil) qdg hx
   |true=>
    rw[q]at h;have h:qh (nid+n) (fun id=>Z0 E run id o fr hp fun s hp' nid'=>qh (Nat.succ nid') fun nid'=>putD o.dst s fr fun fr=>gF E run n ds ops fr hp' nid' (hs++[hp']) g)=.ok ρ:=h;rw[qe]at h;unfold Z0 at h;split at h
    ·rename_i s hp' nid' hx
     dsimp only at h;rw[qe]at h;obtain⟨fr',hfr,h⟩:=Wl h;refine glue false s fr' hp' (nid'+1) (k0+1) (hs++[hp']) ⟨hfr,hgd,fun e=>(by cases e),fun e=>(by rw[q]at e;cases e),fun _ e=>(by rw[q]at e;cases e),fun _ _ O st1 hops hH hn K' hk=>?_⟩ h (by simp[hl]) ?_ (by simp[q]) fun k hk=>?_
     ·have e:stepR P (look st1.fr) st1.hp o.op=stepR P (qA fr) st1.hp o.op:=JT fun t ht=>hops t (Qn ht)
      rw[e,hn];obtain⟨xr,h1,h2⟩:=qbg hE (F:=qA fr) (fun _=>rfl) hH hx;refine qkH hm hE hf hrun (id:=nid+n) hH hn h1 h2 fun s1 hp1 nid1 st' hf' hH' hn' hq=>?_;unfold okQ at hq;cases hq;exact hk st' hf' hH' Ω
     ·rw[xd0 Ω,hl,xb8];rfl
     ·exact xc9 Ω
    ·cases h
  ·rename_i hgd
   obtain⟨fr',hfr,h⟩:=Wl h;cases q:kU o.op with
   |false=>
    rw[q]at h;exact glue true undefSV fr' hp nid k0 hs ⟨hfr,hgd,fun _=>⟨rfl,rfl,fun e=>(by rw[q]at e;cases e)⟩,fun _=>⟨rfl,rfl⟩,fun e=>(by cases e),fun e=>(by cases e)⟩ h hl hh (by simp[q]) (fun _ _=>rfl)
   |true=>
    rw[q]at h;have h:(qh (nid+n) fun nid=>gF E run n ds ops fr' hp nid (hs++[hp]) g)=.ok ρ:=h;rw[qe]at h;refine glue true undefSV fr' hp (nid+n) (k0+1) (hs++[hp]) ⟨hfr,hgd,fun _=>⟨rfl,rfl,fun _=>xa5 _⟩,fun e=>(by rw[q]at e;cases e),fun e=>(by cases e),fun e=>(by cases e)⟩ h (by simp[hl]) ?_ (by simp[q]) fun k hk=>?_
    ·rw[xd0 Ω,hl,xb8];rfl
    ·exact xc9 Ω
  ·cases h
def qij(P:Program)(LM:Nat→Option Loop)(fr:Tr 3 SV)(o:Oper)(hp:Tr 6 XB):Prop:=∀H,HRel LM hp H→∃s,PureAt P (qA fr) H o.op s∧∀d,o.dst=some d→s=qA fr d
theorem qeR(hE:XOk P E){fr:Tr 3 SV}{o:Oper}{hp:Tr 6 XB}{r:R}(h:Wj E fr o hp r=.ok ρ):qij P LM fr o hp∧r=.ok ρ:=by
 obtain⟨s,hx,h⟩:=Va h;cases e:o.dst with
 |none=>
  rw[e]at h;exact⟨fun H hH=>⟨s,Zg hE hH hx,fun d hd=>by rw[e]at hd;cases hd⟩,h⟩
 |some d=>
  rw[e]at h;obtain⟨h1,h⟩:=qjV h;exact⟨fun H hH=>⟨s,Zg hE hH hx,fun d' hd=>by rw[e]at hd;cases hd;exact qde _ _ _ h1⟩,h⟩
theorem qdi(hE:XOk P E){fr:Tr 3 SV}{o:Oper}{lo hi tx:Nat}{r:R}:∀{hs:List (Tr 6 XB)}{k:Nat},Qm E fr o lo hi tx r hs k=.ok ρ→r=.ok ρ∧∀j y,hs[j]? = some y→lo≤k+j→k+j≤hi→k+j≠tx→qij P LM fr o y
 |[],k,h=>⟨h,fun j y hj=>by simp at hj⟩
 |hp :: hs,k,h=>by
  have h:(Bool.rec (qh (Nat.succ k) fun k=>Qm E fr o lo hi tx r hs k) (Wj E fr o hp (qh (Nat.succ k) fun k=>Qm E fr o lo hi tx r hs k)) (Nat.ble lo k&&(Nat.ble k hi&&!(Nat.beq k tx))):R)=.ok ρ:=h;have key:(qh (Nat.succ k) fun k=>Qm E fr o lo hi tx r hs k)=.ok ρ∧(lo≤k→k≤hi→k≠tx→qij P LM fr o hp):=by
   cases q:(Nat.ble lo k&&(Nat.ble k hi&&!(Nat.beq k tx)))with
   |false=>
    rw[q]at h;refine⟨h,fun h1 h2 h3=>?_⟩;have:(Nat.ble lo k&&(Nat.ble k hi&&!(Nat.beq k tx)))=true:=by
     simp only[xe6,Bool.not_eq_true',Nat.ble_eq];exact⟨h1,h2,by cases c:Nat.beq k tx with
      |false=>rfl
      |true=>exact absurd (xa6 c) h3⟩
    rw[q]at this;cases this
   |true=>
    rw[q]at h;obtain⟨h1,h2⟩:=qeR (LM:=LM) hE h;exact⟨h2,fun _ _ _=>h1⟩
  obtain⟨h1,h2⟩:=key;rw[qe]at h1;obtain⟨h3,h4⟩:=qdi hE h1;refine⟨h3,fun j y hj a b c=>?_⟩;cases j with
  |zero=>simp at hj;subst hj;exact h2 a b c
  |succ j=>exact h4 j y ΩY Ω Ω Ω
theorem qdj(hE:XOk P E){l:List Oper}{fr:Tr 3 SV}{hs:List (Tr 6 XB)}{r:R}:∀{ops:List Oper}{i:Nat},GU E l fr hs r ops i=.ok ρ→r=.ok ρ∧∀j o,ops[j]? = some o→(zD fr o.op&&Kf (dsts l) o fr)=true→∀k y,hs[k]? = some y→loC l (i+j)≤k→k≤hiC l (i+j)→k≠kc (efL l) (i+j)→qij P LM fr o y
 |[],i,h=>⟨h,fun j o hj=>by simp at hj⟩
 |o :: ops,i,h=>by
  have h:(Bool.rec (qh (Nat.succ i) fun i=>GU E l fr hs r ops i) (qh (loC l i) fun lo=>qh (hiC l i) fun hi=>qh (kc (efL l) i) fun tx=>Qm E fr o lo hi tx (qh (Nat.succ i) fun i=>GU E l fr hs r ops i) hs 0) (zD fr o.op&&Kf (dsts l) o fr):R)=.ok ρ:=h;have key:(qh (Nat.succ i) fun i=>GU E l fr hs r ops i)=.ok ρ∧((zD fr o.op&&Kf (dsts l) o fr)=true→∀k y,hs[k]? = some y→loC l i≤k→k≤hiC l i→k≠kc (efL l) i→qij P LM fr o y):=by
   cases q:(zD fr o.op&&Kf (dsts l) o fr)with
   |false=>rw[q]at h;exact⟨h,fun e=>by cases e⟩
   |true=>
    rw[q]at h;have h:(qh (loC l i) fun lo=>qh (hiC l i) fun hi=>qh (kc (efL l) i) fun tx=>Qm E fr o lo hi tx (qh (Nat.succ i) fun i=>GU E l fr hs r ops i) hs 0)=.ok ρ:=h;rw[qe,qe,qe]at h;obtain⟨h1,h2⟩:=qdi (LM:=LM) hE h;exact⟨h1,fun _ k y hk a b c=>h2 k y hk Ω Ω Ω⟩
  obtain⟨h1,h2⟩:=key;rw[qe]at h1;obtain⟨h3,h4⟩:=qdj hE h1;refine⟨h3,fun j o' hj hr k y hk a b c=>?_⟩;cases j with
  |zero=>simp at hj;subst hj;exact h2 hr k y hk a b c
  |succ j=>
   have e:i+(j+1)=i+1+j:=by omega
   rw[e]at a b c;exact h4 j o' ΩY hr k y hk a b c
theorem qkI(hm:P.follows .mixedOrders=true)(hE:XOk P E)(hf:w7 P E){run:XC}(hrun:vC P run){O:Ctx}{id:Nat}{l:List Oper}{fr:Tr 3 SV}{hp:Tr 6 XB}{nid:Nat}{f:XK}{st:St}{K:Ex→St→Prop}{g:Tag K}(hs:StR LM fr hp nid st)(h:qkG E run l fr hp nid f=.ok ρ)
  (hk:∀e fr' hp' nid' st',StR LM fr' hp' nid' st'→f e fr' hp' nid'=.ok ρ→K e st'):gC P O id l true st K g:=by
 obtain⟨q,h⟩:=qa h;rw[qe]at h;have hc:=JU q;obtain⟨res,sk,X,Y,Z,hs',e1,e2,e3,hg,hst,hsg,hpr⟩:=GV (LM:=LM) hm hE hf hrun h (k0:=0) rfl rfl;obtain⟨hfin,hck⟩:=qdj (LM:=LM) hE hg;rw[qe]at hfin;have hsi:∀i,i<l.length→∃o,l[i]? = some o:=fun i hi=>⟨l[i],by simp[hi]⟩;have hX:∀j,j≤l.length→∀t,qA (X j) t=FS (nth (dsts l)) res (fun _=>true) (look st.fr) j t:=by
  intro j
  induction j with
  |zero=>intro _ t;rw[e1];exact(hs.1 t).symm
  |succ j ih=>
   intro hj t;obtain⟨o,ho⟩:=hsi j Ω;have hd:nth (dsts l) j=o.dst:=by rw[za,ho];rfl
   rw[(hst j o ho).1 t,ih Ω t];simp only[FS,hd,true_and]
 have hopd:∀i o,l[i]? = some o→∀t,t∈zl o→qA (X l.length) t=qA (X i) t:=by
  intro i o ho t ht;have hi:i<l.length:=(List.getElem?_eq_some_iff.1 ho).1;rw[hX _ (xa5 _),hX i Ω];refine V3 Ω fun x hx hxl hd=>?_;have:=hc.lt i x hi (hc.ops i o t x ho ht hxl hd);omega
 have hef:∀i o,l[i]? = some o→efL l i=kU o.op:=fun i o ho=>by simp[efL,ho]
 have hY:∀j,j<l.length→efL l j=false→Y (j+1)=Y j∧Z (j+1)=Z j:=by
  intro j hj he;obtain⟨o,ho⟩:=hsi j hj;exact(hst j o ho).2.2.2.1 (by rw[←hef j o ho];exact he)
 have hgt:∀i o g want t,l[i]? = some o→o.guard=some (g,want)→nth (dsts l) g=some t→qA (X l.length) t=qA (X i) t:=by
  intro i o g want t ho hgd ht;have hi:i<l.length:=(List.getElem?_eq_some_iff.1 ho).1;have hgl:=hc.lt i g hi (hc.grd i o g want ho hgd).1;rw[hX _ (xa5 _),hX i Ω];refine V3 Ω fun x hx hxl hd=>?_;exact hc.dist x g t Ω hxl hd ht
 have hgX:∀i o,l[i]? = some o→gdX (dsts l) o.guard (X l.length)=gdX (dsts l) o.guard (X i):=by
  intro i o ho;unfold gdX;cases hgd:o.guard with
  |none=>rfl
  |some p=>
   obtain⟨g,want⟩:=p;dsimp only;cases ht:nth (dsts l) g with
   |none=>rfl
   |some t=>dsimp only;rw[hgt i o g want t ho hgd ht]
 refine Yz hm hc res Y Z (qA (X l.length)) sk (fun i o ho=>?_) hY (fun t=>hX _ (xa5 _) t) (by rw[e2];exact hs.2.1) (by rw[e3];exact hs.2.2) ?_ ?_ ?_
 ·obtain⟨_,s2,s3,s4,_,_⟩:=hst i o ho
  rw[←hgX i o ho]at s2;refine⟨?_,fun hs=>⟨(s3 hs).2.1,fun he=>(s3 hs).2.2 (by rw[←hef i o ho];exact he),fun d hd=>(s3 hs).1⟩⟩;unfold gdX at s2;unfold Grd;cases hgd:o.guard with
  |none=>rw[hgd]at s2;exact(Option.some.inj s2).symm
  |some p=>
   obtain⟨g,want⟩:=p;rw[hgd]at s2;dsimp only at s2;split at s2
   ·cases s2
   ·rename_i t ht
    refine⟨t,ht,?_⟩;split at s2
    ·rename_i b hb
     exact .inl ⟨b,hb,(Option.some.inj s2).symm⟩
    ·rename_i vs hb
     exact .inr ⟨⟨vs,hb⟩,(Option.some.inj s2).symm⟩
    ·cases s2
 ·intro i o ho hsk he j hj hlo hhi F H hF hH
  have hi:i<l.length:=(List.getElem?_eq_some_iff.1 ho).1;obtain⟨p1,p2⟩:=(hst i o ho).2.2.2.2.1 hsk (by rw[←hef i o ho];exact he);have hFi:∀t,t∈zl o→F t=qA (X i) t:=fun t ht=>by rw[hF t ht,hopd i o ho t ht]
  by_cases c:kc (efL l) j=kc (efL l) i
  ·have hst2:Y j=Y i:=by
    by_cases d:j≤i
    ·exact(vw hY d Ω c).1
    ·exact(vw hY (Ω:i≤j) hj c.symm).1.symm
   exact⟨_,(p1 H (by rw[←hst2];exact hH)).congr hFi,fun _ _=>rfl⟩
  ·have hsee:zD (X l.length) o.op=zD (X i) o.op:=by
    unfold zD
    congr 2
    unfold qlL;split
    ·rename_i t x hop
     have:qW (X l.length) x=qW (X i) x:=by
      cases x<;>first|rfl|skip
      rename_i t;exact hopd i o ho t (Qn (by rw[hop];simp[Op.operands]))
     rw[this]
    ·rfl
   cases d:zD (X i) o.op with
   |false=>
    exact⟨_,(p2 d H).congr hFi,fun _ _=>rfl⟩
   |true=>
    have h1:=hsg j hj;rw[xb0]at h1;have:=hck i o ho (by rw[hsee,d,xf0];unfold Kf;rw[hgX i o ho,(hst i o ho).2.1,hsk]) _ _ h1 (by rw[xb0];exact hlo) (by rw[xb0];exact hhi) (by rw[xb0];exact c) H hH;obtain⟨s,hs1,hs2⟩:=this;refine⟨s,?_,fun d hd=>?_⟩
    ·exact hs1.congr hF
    ·rw[hs2 d hd,hX _ (xa5 _)]
     have hdi:nth (dsts l) i=some d:=by rw[za,ho];exact hd
     refine VY hdi rfl hi fun x hx hxd=>?_;refine xf9 fun hne=>?_;by_cases hlt:x<i
     ·exact hc.dist i x d hlt hi hdi hxd
     ·exact hc.dist x i d Ω hx hxd hdi
 ·intro i o ho hsk he st1 hops hH hn K' hk'
  exact(hst i o ho).2.2.2.2.2 hsk (by rw[←hef i o ho];exact he) O st1 (fun t ht=>by rw[hops t ht,hopd i o ho t ht]) hH hn K' hk'
 ·intro st' hf' hH' hn'
  exact hk _ _ _ _ _ ⟨hf',hH',hn'⟩ hfin
def qeS(P:Program)(O:Ctx)(ds:List (Option Tmp)):List Oper→St→(St→Prop)→Prop
 |[],st,K=>∃st1,Weak O st st1∧K st1
 |o :: rest,st,K=>∃st1,Weak O st st1∧opH P O ds o st1 fun st'=>qeS P O ds rest st' K
theorem qdk{O:Ctx}{base:World}{okc:Nat→Prop}{ns:Nat}{outs:gJ}{ro:Option Nat}{allops:Array Oper}{Q:Exit→Act→World→Prop}{K:St→Prop}:∀(ops:List Oper)(st:St)(a:Act)(w:World),Inv O base okc ns st.nid outs st a w→ops.all (kO ns)=true→
  qeS P O (dsts allops.toList) ops st K→(∀st' a' w',K st'→Inv O base okc ns st'.nid outs st' a' w'→Q .normal a' w')→wpListIn (FR ro) 0 P allops Q ops a w
 |[],st,a,w,h,hd,⟨st1,hw,hk⟩,hK=>hK st1 a w hk (hw _ _ _ _ _ _ h)
 |o :: rest,st,a,w,h,hd,⟨st1,hw,hk⟩,hK=>by
  simp only[List.all_cons,xe6]at hd;unfold wpListIn;exact VK (hw _ _ _ _ _ _ h) hd.1 hk fun st' a' w' hk' hi'=>qdk rest st' a' w' hi' hd.2 hk' hK
theorem qkJ{O:Ctx}{st:St}{K:Ex→St→Prop}{id:Nat}{ops:List Oper}{g:Tag K}(h:qeS P O (dsts ops) ops st (fun st'=>K .normal st')):gC P O id ops false st K g:=by
 intro base okc ns outs a w ro Q hro hc hi hK;simp only[qB,xe6]at hc;obtain⟨hd,-⟩:=hc;have hd:ops.all (kO ns)=true:=by simpa using hd
 refine wpIn_region_list ?_;have:=qdk (ro:=ro) (allops:=ops.toArray) (Q:=Q) (K:=fun st'=>K .normal st') ops st a w hi hd ΩZ fun st' a' w' hk hi'=>hK .normal st' a' w' hk hi';simpa using this
theorem qik{O:Ctx}{n:Nat}{all:List Oper}{K:St→Prop}:∀{l:List Oper}{res:Nat→SV}{sk:Nat→Bool}{X:Nat→Tr 3 SV}{Y:Nat→Tr 6 XB}{Z:Nat→Nat}{st:St}{d:Nat},(∀i o,l[i]? = some o→YS P LM n (dsts all) o (sk i) (res i) (X i) (X (i+1)) (Y i) (Y (i+1)) (Z i) (Z (i+1)))→FRel (X 0) st.fr→HRel LM (Y 0) st.hp→st.nid≤Z 0+d→d+l.length≤n→
  (∀st',FRel (X l.length) st'.fr→HRel LM (Y l.length) st'.hp→st'.nid=Z l.length+n→K st')→qeS P O (dsts all) l st K
 |[],res,sk,X,Y,Z,st,d,h,hF,hH,hn,hd,hk=>by
  have hd:d≤n:=by simpa using hd
  have hk:∀st',FRel (X 0) st'.fr→HRel LM (Y 0) st'.hp→st'.nid=Z 0+n→K st':=hk;exact⟨{ st with nid:=Z 0+n },wU _ _ _ Ω,hk _ hF hH rfl⟩
 |o :: l,res,sk,X,Y,Z,st,d,h,hF,hH,hn,hd,hk=>by
  have hst:=h 0 o rfl;have hd:d+(l.length+1)≤n:=by simpa using hd
  have next:∀st',FRel (X 1) st'.fr→HRel LM (Y 1) st'.hp→st'.nid≤Z 1+(d+1)→qeS P O (dsts all) l st' K:=fun st' hf' hs' hn'=>
   qik (l:=l) (res:=fun i=>res (i+1)) (sk:=fun i=>sk (i+1)) (X:=fun i=>X (i+1)) (Y:=fun i=>Y (i+1)) (Z:=fun i=>Z (i+1)) (d:=d+1) (fun i o' ho=>h (i+1) o' Ω6) hf' hs' hn' Ω hk
  obtain⟨s1,s2,s3,s4,s5,s6⟩:=hst;have s1:∀t,qA (X 1) t=if o.dst=some t then res 0 else qA (X 0) t:=s1
  have s4:kU o.op=false→Y 1=Y 0∧Z 1=Z 0:=s4;have s3:sk 0=true→res 0=undefSV∧Y 1=Y 0∧(kU o.op=true→Z 0+n≤Z 1):=s3;have hgrd:Grd all (look st.fr) o (sk 0):=by
   unfold gdX at s2;unfold Grd;cases hgd:o.guard with
   |none=>rw[hgd]at s2;exact(Option.some.inj s2).symm
   |some p=>
    obtain⟨g,want⟩:=p;rw[hgd]at s2;dsimp only at s2;split at s2
    ·cases s2
    ·rename_i t ht
     refine⟨t,ht,?_⟩;rw[hF t];split at s2
     ·rename_i b hb
      exact .inl ⟨b,hb,(Option.some.inj s2).symm⟩
     ·rename_i vs hb
      exact .inr ⟨⟨vs,hb⟩,(Option.some.inj s2).symm⟩
     ·cases s2
  have frs:∀(st2:St)(fr:List (Nat×SV)),(∀t,look st2.fr t=look st.fr t)→(∀t,look fr t=look (st2.put o.dst (res 0)).fr t)→FRel (X 1) fr:=fun st2 fr h2 h3 t=>by
   rw[h3,z8,s1 t,h2,hF t]
  cases q:kU o.op with
  |false=>
   obtain⟨y1,z1⟩:=s4 q;refine⟨st,Weak.refl _ _,ZF hgrd (fun hsk st2 h2 h2h h2n=>?_) (fun hsk st2 h2 h2h h2n=>?_)⟩
   ·obtain⟨p1,_⟩:=s5 hsk q
    have h1:=(p1 st2.hp (by rw[h2h];exact hH)).congr (F':=look st2.fr) fun t _=>by rw[h2,hF t]
    have f2:qeS P O (dsts all) l ⟨inD o.dst (st2.put o.dst (res 0)).fr,(st2.put o.dst (res 0)).hp,(st2.put o.dst (res 0)).nid+1⟩ K:=next _ (frs st2 _ h2 fun t=>kM _ _ _) (by show HRel LM (Y 1) (st2.put o.dst (res 0)).hp;rw[zk,h2h,y1];exact hH) (by show(st2.put o.dst (res 0)).nid+1≤_;rw[qr,z1];omega);rcases h1 with(⟨obl,e,h⟩|⟨obl,e,h⟩)|⟨hnd,h⟩
    ·rw[e];exact .inl ⟨h,f2⟩
    ·rw[e];exact .inl ⟨_,h,f2⟩
    ·refine .inr ⟨hnd,(h O st2 (fun t _=>rfl) rfl).mono ?_⟩
     rintro st' res' ⟨rfl,rfl⟩;exact next _ (frs st' _ h2 fun t=>jC _ _ _ _) (by rw[yu,h2h,y1];exact hH) (by rw[zJ,z1];omega)
   ·obtain⟨k1,k2,_⟩:=s3 hsk
    exact next _ (frs st2 _ h2 fun t=>by rw[jC,k1]) (by rw[yu,h2h,y1];exact hH) (by rw[zJ,z1];omega)
  |true=>
   refine⟨{ st with nid:=Z 0+n },wU _ _ _ Ω,ZF (st:={ st with nid:=Z 0+n }) hgrd (fun hsk st2 h2 h2h h2n=>?_) (fun hsk st2 h2 h2h h2n=>?_)⟩
   ·refine .inl (s6 hsk q O st2 (fun t _=>by rw[h2];exact hF t) (by rw[h2h];exact hH) h2n _ fun st' hf' hH' hn'=>?_)
    exact next _ (frs st2 _ h2 fun t=>by rw[kM,hf']) hH' (by show st'.nid+1≤_;exact xc1 hn' (Nat.le_add_right _ _))
   ·obtain⟨k1,k2,k3⟩:=s3 hsk
    exact next _ (frs st2 _ h2 fun t=>by rw[jC,k1]) (by rw[yu,h2h,k2];exact hH) (by rw[zJ,h2n];exact xc1 (k3 q) (Nat.le_add_right _ _))
def qmE(E:XE)(run:XC)(ops:List Oper)(fr:Tr 3 SV)(hp:Tr 6 XB)(nid:Nat)(f:XK):R:=
 qh ops.length fun n=>gF E run n (dsts ops) ops fr hp nid [hp] fun fr hp nid hs=>qh (nid+n) fun nid=>f .normal fr hp nid
theorem qkK(hm:P.follows .mixedOrders=true)(hE:XOk P E)(hf:w7 P E){run:XC}(hrun:vC P run){O:Ctx}{id:Nat}{l:List Oper}{fr:Tr 3 SV}{hp:Tr 6 XB}{nid:Nat}{f:XK}{st:St}{K:Ex→St→Prop}{g:Tag K}(hs:StR LM fr hp nid st)(h:qmE E run l fr hp nid f=.ok ρ)
  (hk:∀e fr' hp' nid' st',StR LM fr' hp' nid' st'→f e fr' hp' nid'=.ok ρ→K e st'):gC P O id l false st K g:=by
 unfold qmE at h;rw[qe]at h;obtain⟨res,sk,X,Y,Z,hs',e1,e2,e3,hg,hst,hsg,hpr⟩:=GV (LM:=LM) hm hE hf hrun h (k0:=0) rfl rfl;rw[qe]at hg;refine qkJ (qik (d:=0) hst (by rw[e1];exact hs.1) (by rw[e2];exact hs.2.1) (by rw[e3,hs.2.2];omega) Ω fun st' hf' hH' hn'=>?_);exact hk _ _ _ _ st' ⟨hf',hH',hn'⟩ hg
end
end
end Go.Sx
end
section
namespace Go.Sx
open Go.RowKit
noncomputable section
variable{ρ:Q}
def qeT(run:XC)(L:FL)(cx:CX)(b:Code)(f:XK):XK
 |.normal,fr,hp,nid=>run L cx b fr hp nid f
 |.exit i,fr,hp,nid=>f (.exit i) fr hp nid
 |.ret,fr,hp,nid=>f .ret fr hp nid
def qil(id:Nat)(f:XK):XK
 |.normal,fr,hp,nid=>f .normal fr hp nid
 |.exit i,fr,hp,nid=>Bool.rec (f (.exit i) fr hp nid) (f .normal fr hp nid) (Nat.beq i id)
 |.ret,fr,hp,nid=>f .ret fr hp nid
def qim(v:SV)(a b:R):R:=
 match v with
 |.val (.bool c)=>Bool.rec b a c
 |_=>.bad 320 0
def qin(bk:SV→Option Nat)(fr:Tr 3 SV)(l:List (Nat×Nat))(k:R):R:=
 List.rec (motive:=fun _=>R) k (fun p _ ih=>match bk (qA fr p.1),bk (qA fr p.2)with
  |some i,some j=>qg 360 (!(Nat.beq i j)) ih
  |_,_=>ih) l
def GW(ops:List Oper)(f:XK)(fr:Tr 3 SV)(hp:Tr 6 XB)(nid:Nat):R:=qh (nid+ops.length) fun nid=>f .normal fr hp nid
def qpe(mid:Nat)(fr:Tr 3 SV)(l:List Tmp):Bool:=l.all fun a=>match qR (qA fr a)with
 |some i=>!(Nat.beq i mid)
 |none=>true
def qio(q:EI)(ops:List Oper)(fr:Tr 3 SV)(hp:Tr 6 XB)(k:R):R:=match qA fr q.mm with
 |.mp mid=>(match hp.find mid with
  |some (.map _ _ _)=>qg 365 (qpe mid fr (Gy ops)) k
  |_=>.bad 366 0)
 |_=>.bad 367 0
def qof(te tx:Tmp)(fr:Tr 3 SV)(g:Tr 3 SV→R):R:=zi (some .top) 22 fr te fun fr=>zi (some .top) 22 fr tx g
def qmF(E:XE)(run:XC)(cx:CX)(ops:List Oper)(l:List (Nat×Nat))(fr:Tr 3 SV)(hp:Tr 6 XB)(nid:Nat)(f:XK):R:=
 match entI ops with
 |some q=>qg 363 (qhs q l ops) (Ze E run cx false (dsts ops) (Kd q.e q.x q.s q.upd 0 ops) 0 fr hp nid fun fr hp nid=>qin qR fr l (qio q ops fr hp (qof q.te q.tx fr fun fr=>GW ops f fr hp nid)))
 |none=>.bad 368 0
def qbC(E:XE)(run:XC)(L:FL)(cx:CX)(id:Nat)(d:Bool)(ops:List Oper)(fr:Tr 3 SV)(hp:Tr 6 XB)(nid:Nat)(f:XK):R:=
 match zW L id with
 |[]=>Ze E run cx (kF d ops) (dsts ops) ops 0 fr hp nid (GW ops f)
 |(a,b) :: l=>Bool.rec (Ze E run cx (kF d ops) (dsts ops) ops 0 fr hp nid fun fr hp nid=>qin qR fr ((a,b) :: l) (GW ops f fr hp nid))
  (Bool.rec (qg 361 d (Bool.rec (Bool.rec (.bad 362 0) (qkG E run ops fr hp nid f) (Nat.beq a 2)) (qmF E run cx ops l fr hp nid f) (Nat.beq a 1))) (qg 364 (!d) (qmE E run ops fr hp nid f)) (Nat.beq a 3)) (Nat.beq a b)
def Wn(id:Nat)(fr:Tr 3 SV)(f:XK)(hp:Tr 6 XB)(nid:Nat):R:=
 match hp.find id with
 |some (.loop s)=>zi none 22 hp id fun hp=>(match s with
  |.ready=>f .normal fr hp nid
  |.retd=>f .ret fr hp nid
  |.left i=>f (.exit i) fr hp nid
  |_=>.bad 350 0)
 |_=>.bad 351 0
def Wo(E:XE)(run:XC)(L:FL)(v:SV)(ps:List Tmp)(a b:Code)(fr:Tr 3 SV)(hp:Tr 6 XB)(nid:Nat)(f:XK):R:=
 match v with
 |.fn (.func g) [] caps=>(match E.fns g with
  |some (fn,[])=>(match fn.body,fn.results.toList with
   |some c,[]=>qg 352 (Nat.ble (caps.length+1) fn.ntmps) (zi (some (.loop .ready)) 22 hp nid fun hp1=>YP (.yld nid :: caps) 0 .nil fun fr1=>qh (Nat.succ nid) fun n1=>run [] (.gen nid L fr ps a b) c fr1 hp1 n1 fun e _ hp3 nid3=>(match e with
    |.exit _=>.bad 353 0
    |.normal=>Wn nid fr f hp3 nid3
    |.ret=>Wn nid fr f hp3 nid3))
   |_,_=>.bad 354 0)
  |_=>.bad 355 g)
 |_=>.bad 356 0
def Vb(E:XE)(run:XC)(L:FL)(cx:CX)(c:Code)(fr:Tr 3 SV)(hp:Tr 6 XB)(nid:Nat)(f:XK):R:=
 match c with
 |.skip=>f .normal fr hp nid
 |.label _=>f .normal fr hp nid
 |.seq a b=>run L cx a fr hp nid (qeT run L cx b f)
 |.cond x a b=>qim (qW fr x) (run L cx a fr hp nid f) (run L cx b fr hp nid f)
 |.block id c=>run L cx c fr hp nid (qil id f)
 |.exit id=>f (.exit id) fr hp nid
 |.ret=>f .ret fr hp nid
 |.scope c=>run L cx c fr hp nid f
 |.loop c=>run L cx c fr hp nid (qeT run L cx (.loop c) f)
 |.region id ops d=>qbC E run L cx id d ops.toList fr hp nid f
 |.rangeFunc x ps a b=>(match cx with
  |.rnd=>.bad 357 0
  |_=>Wo E run L (qW fr x) ps.toList a b fr hp nid f)
 |_=>.bad 321 0
section
variable{P:Program}{E:XE}
theorem HRel.lm{LM LM':Nat→Option Loop}{hp:Tr 6 XB}{H:List (Nat×Blk)}(h:HRel LM hp H)(e:∀id b,hp.find id=some b→LM' id=LM id):HRel LM' hp H:=fun id b hb=>by
 rw[e id b hb];exact h id b hb
theorem qeU(hm:P.follows .mixedOrders=true)(hf:w7 P E){run:XC}(hrun:vC P run){LM:Nat→Option Loop}{fs:List Fr}{lo:Nat}{L:FL}{x:Operand}{ps:List Tmp}{a b:Code}{st:St}{fr:Tr 3 SV}{hp:Tr 6 XB}{n0:Nat}{f:XK}{K:Ex→St→Prop}(hs:StR LM fr hp n0 st)(h:Wo E run L (qW fr x) ps a b fr hp n0 f=.ok ρ)
  (hk:∀e fr' hp' nid' st',StR LM fr' hp' nid' st'→f e fr' hp' nid'=.ok ρ→K e st'):wG P ⟨fs,lo,false,zW L⟩ (.rangeFunc x ps.toArray a b) st K:=by
 obtain⟨F,H,nid⟩:=st;obtain⟨s1,s2,s3⟩:=hs;have s3:nid=n0:=s3;subst s3;have s1:FRel fr F:=s1;have s2:HRel LM hp H:=s2;unfold Wo at h;split at h
 ·rename_i g caps hv
  split at h
  ·rename_i fn hfn
   obtain⟨c,hc⟩:=hf _ _ _ hfn;split at h
   ·rename_i c' hb hr
    have:c'=c:=by rw[hc.body]at hb;cases hb;rfl
    subst this;obtain⟨q,h⟩:=qa h;obtain⟨hp1,p1,h⟩:=qI _ _ _ _ h;obtain⟨fr1,f1,h⟩:=Za h;rw[qe]at h;refine JO hm rfl (by rw[s1.fn.env];exact hv) hc.at_ hc.body hc.name hc.ok hr (xa7 q) fun out Lr hL=>?_;generalize hLM:(fun i=>if i=nid then some Lr else LM i)=LM';have eL:LM' nid=some Lr:=by rw[←hLM];show(if nid=nid then some Lr else LM nid)=_;rw[if_pos rfl]
    have eO:∀i,i≠nid→LM' i=LM i:=fun i hi=>by rw[←hLM];show(if i=nid then some Lr else LM i)=_;rw[if_neg hi]
    have r1:HRel LM' hp1 ((nid,.loop Lr .ready) :: H):=fun i y hy=>by
     rw[p1 i]at hy;by_cases c:i=nid
     ·rw[if_pos c]at hy;cases hy
      exact⟨.loop Lr .ready,by simp only[blk];rw[if_pos c],rfl,by rw[c];exact eL⟩
     ·rw[if_neg c]at hy;simp only[blk];rw[if_neg c,eO i c];exact s2 i y hy
    have fin:∀(hp3:Tr 6 XB)(nid3:Nat)(fr3:Tr 3 SV)(st3:St),StR LM' fr3 hp3 nid3 st3→Wn nid fr f hp3 nid3=.ok ρ→vn Lr F K st3.hp st3.nid nid (blk st3.hp nid):=by
     intro hp3 nid3 fr3 st3 h3 hr;unfold Wn at hr;split at hr
     ·rename_i s hb3
      rw[h3.2.1.loop hb3 eL];obtain⟨hp4,p4,hr⟩:=qI _ _ _ _ hr;have r4:StR LM fr hp4 nid3 ⟨F,dropBlk st3.hp nid,st3.nid⟩:=by
       refine⟨s1,(h3.2.1.drop p4).lm fun i y hy=>?_,h3.2.2⟩;rw[p4 i]at hy;by_cases c:i=nid
       ·rw[if_pos c]at hy;cases hy
       ·exact(eO i c).symm
      refine⟨rfl,?_⟩;cases s<;>first|exact hk _ _ _ _ _ r4 hr|cases hr
     ·cases hr
    refine hrun ρ LM' _ _ _ [] (.gen nid L fr ps a b) c' ⟨_,_,_⟩ fr1 hp1 (nid+1) _ _ ⟨rfl,Lr,F,eL,s1,hL⟩ ⟨f1,r1,rfl⟩ h fun e fr3 hp3 nid3 st3 h3 h=>?_;cases e with
    |exit i=>cases h
    |normal=>exact fin _ _ _ _ h3 h
    |ret=>exact fin _ _ _ _ h3 h
   ·cases h
  ·cases h
 ·cases h
theorem Zh{fr:Tr 3 SV}{st:St}(hF:FRel fr st.fr){X:Prop}{k:R}(hX:k=.ok ρ→X):∀{l:List (Nat×Nat)},qin qR fr l k=.ok ρ→FarVC l st X
 |[],h=>hX h
 |(a,b) :: l,h=>by
  have h:(match qR (qA fr a),qR (qA fr b)with
   |some i,some j=>qg 360 (!(Nat.beq i j)) (qin qR fr l k)
   |_,_=>qin qR fr l k)=.ok ρ:=h
  show vi (look st.fr a) (look st.fr b)∧FarVC l st X;rw[hF a,hF b];unfold vi;split at h
  ·rename_i i j h1 h2
   rw[h1,h2];obtain⟨q,h⟩:=qa h;exact⟨fun e=>(by rw[e,Nat.beq_refl]at q;cases q),Zh hF hX h⟩
  ·rename_i hn
   refine⟨?_,Zh hF hX h⟩;split
   ·rename_i i j h1 h2;exact absurd h2 (hn i j h1)
   ·trivial
theorem qip{q:EI}{ops:List Oper}{fr:Tr 3 SV}{hp:Tr 6 XB}{st:St}{LM:Nat→Option Loop}(hF:FRel fr st.fr)(hH:HRel LM hp st.hp){k:R}(h:qio q ops fr hp k=.ok ρ):qnM q ops st∧k=.ok ρ:=by
 unfold qio at h;split at h
 ·rename_i mid e1
  split at h
  ·rename_i e2
   obtain⟨h1,h2⟩:=qa h;refine⟨fun mid' hmid=>?_,h2⟩;rw[hF,e1]at hmid;injection hmid with hmid;subst hmid;refine⟨?_,fun a ha=>?_⟩
   ·obtain⟨b',hb,hr⟩:=hH _ _ e2
    cases b'<;>simp only[BRel]at hr
    exact⟨_,_,_,hb⟩
   ·rw[hF]
    have:=List.all_eq_true.1 h1 a ha;intro c;rw[c]at this;simp at this
  ·cases h
 ·cases h
theorem qkL{te tx:Tmp}{fr:Tr 3 SV}{g:Tr 3 SV→R}(h:qof te tx fr g=.ok ρ):∃fr',(∀t,qA fr' t=if t=te∨t=tx then .top else qA fr t)∧g fr'=.ok ρ:=by
 obtain⟨f1,h1,h⟩:=qI _ _ _ _ h;obtain⟨f2,h2,h⟩:=qI _ _ _ _ h;refine⟨f2,fun t=>?_,h⟩;unfold qA;rw[h2,h1];by_cases c1:t=tx
 ·rw[if_pos c1,if_pos (.inr c1)]
 ·by_cases c2:t=te
  ·rw[if_neg c1,if_pos c2,if_pos (.inl c2)]
  ·rw[if_neg c1,if_neg c2,if_neg (by rintro(c|c)<;>contradiction)]
theorem qiq(hm:P.follows .mixedOrders=true)(hE:XOk P E)(hf:w7 P E){run:XC}(hrun:vC P run)(hloop:∀(ρ:Q)(LM:Nat→Option Loop)(fs:List Fr)(lo:Nat)(rnd:Bool)(L:FL)(cx:CX)(c:Code)(st:St)(fr:Tr 3 SV)(hp:Tr 6 XB)(nid:Nat)(f:XK)(K:Ex→St→Prop),qeP LM fs rnd cx→StR LM fr hp nid st→run L cx c fr hp nid (qeT run L cx (.loop c) f)=.ok ρ→
  (∀e fr' hp' nid' st',StR LM fr' hp' nid' st'→f e fr' hp' nid'=.ok ρ→K e st')→vc P ⟨fs,lo,rnd,zW L⟩ (.loop c) st K):vC P (Vb E run):=by
 intro ρ LM fs lo rnd L cx c st fr hp nid f K hcx hs h hk;cases c<;>simp only[Vb,reduceCtorEq]at h
 case skip=>exact hk _ _ _ _ _ hs h
 case label=>exact hk _ _ _ _ _ hs h
 case exit=>exact hk _ _ _ _ _ hs h
 case ret=>exact hk _ _ _ _ _ hs h
 case scope c=>exact hrun ρ LM _ _ _ _ _ c _ _ _ _ _ _ hcx hs h hk
 case seq a b=>
  refine hrun ρ LM _ _ _ _ _ a _ _ _ _ _ _ hcx hs h fun e fr' hp' nid' st' hs' h'=>?_;cases e with
  |normal=>exact hrun ρ LM _ _ _ _ _ b _ _ _ _ _ _ hcx hs' h' hk
  |exit i=>exact hk _ _ _ _ _ hs' h'
  |ret=>exact hk _ _ _ _ _ hs' h'
 case loop c=>exact hloop ρ LM _ _ _ _ _ c _ _ _ _ _ _ hcx hs h hk
 case block id c=>
  refine hrun ρ LM _ _ _ _ _ c _ _ _ _ _ _ hcx hs h fun e fr' hp' nid' st' hs' h'=>?_;cases e with
  |normal=>exact hk _ _ _ _ _ hs' h'
  |ret=>exact hk _ _ _ _ _ hs' h'
  |exit i=>
   have h':(Bool.rec (f (.exit i) fr' hp' nid') (f .normal fr' hp' nid') (Nat.beq i id):R)=.ok ρ:=h';show if i=id then K .normal st' else K (.exit i) st'
   cases e:Nat.beq i id with
   |true=>rw[e]at h';rw[if_pos (xa6 e)];exact hk _ _ _ _ _ hs' h'
   |false=>
    rw[e]at h';rw[if_neg (fun q=>by rw[q,Nat.beq_refl]at e;cases e)];exact hk _ _ _ _ _ hs' h'
 case rangeFunc x ps a b=>
  have key:rnd=false∧Wo E run L (qW fr x) ps.toList a b fr hp nid f=.ok ρ:=by
   cases cx with
   |top=>exact⟨hcx,h⟩
   |rnd=>cases h
   |gen y L0 fr0 ps0 a0 b0=>exact⟨hcx.1,h⟩
  obtain⟨rfl,h⟩:=key;have:=qeU (fs:=fs) (lo:=lo) (x:=x) (ps:=ps.toList) hm hf hrun hs h hk;exact this
 case cond x a b=>
  show Ga P (env (look st.fr) x) _ _;rw[hs.1.fn.env];unfold qim at h;split at h
  ·rename_i b0 hb
   rw[hb];cases b0 with
   |true=>exact⟨fun _=>hrun ρ LM _ _ _ _ _ a _ _ _ _ _ _ hcx hs h hk,fun e=>by cases e⟩
   |false=>exact⟨fun e=>(by cases e),fun _=>hrun ρ LM _ _ _ _ _ b _ _ _ _ _ _ hcx hs h hk⟩
  ·cases h
 case region id ops d=>
  have done:∀fr' hp' nid' st',StR LM fr' hp' nid' st'→GW ops.toList f fr' hp' nid'=.ok ρ→K .normal ⟨st'.fr,st'.hp,st'.nid+ops.toList.length⟩:=by
   intro fr' hp' nid' st' hs' h';unfold GW at h';rw[qe]at h';exact hk _ _ _ _ ⟨st'.fr,st'.hp,st'.nid+ops.toList.length⟩ ⟨hs'.1,hs'.2.1,by rw[hs'.2.2]⟩ h'
  show(if jj (zW L id)=true then wG P _ (.region id ops d) st K else qZ P _ (kF d ops.toList=true) (dsts ops.toList) ops.toList 0 st (fun st'=>FarVC (zW L id) st' (K .normal { st' with nid:=st'.nid+ops.toList.length })));unfold qbC at h;split at h
  ·rename_i hl
   rw[hl,if_neg (by simp[jj])];exact Kw hm hE hf hrun hcx (fun e=>e) hs h done
  ·rename_i a b l hl
   rw[hl];cases e:Nat.beq a b with
   |false=>
    rw[e]at h;have hab:a≠b:=fun q=>by rw[q,Nat.beq_refl]at e;cases e
    rw[if_neg (by simp[jj,hab])];refine Kw hm hE hf hrun hcx (fun e=>e) hs h fun fr' hp' nid' st' hs' h'=>?_;exact Zh hs'.1 (fun h'=>done _ _ _ _ hs' h') h'
   |true=>
    rw[e]at h;have hab:a=b:=xa6 e;rw[if_pos (by simp[jj,hab])];cases e3:Nat.beq a 3 with
    |true=>
     rw[e3]at h;obtain⟨q1,p1⟩:=qa h;have q1:d=false:=by cases d<;>first|rfl|cases q1
     subst q1;have:=qkK (P:=P) (O:=⟨fs,lo,rnd,zW L⟩) (id:=id) (K:=K) (g:=.mk) hm hE hf hrun hs p1 hk;exact this
    |false=>
    rw[e3]at h;obtain⟨q1,p1⟩:=qa h;subst q1;cases e1:Nat.beq a 1 with
    |true=>
     rw[e1]at p1
     replace p1:qmF E run cx ops.toList l fr hp nid f=.ok ρ:=p1
     unfold qmF at p1;split at p1
     ·rename_i q hq
      obtain⟨q2,p2⟩:=qa p1;exact Yx (P:=P) (O:=⟨fs,lo,rnd,zW L⟩) (id:=id) (K:=K) (g:=.mk) (far:=l) hm (qkl hq) q2 (Kw hm hE hf hrun hcx (J:=False) (fun e=>by cases e) hs p2 fun fr' hp' nid' st' hs' h'=>Zh hs'.1 (fun h'=>by
       obtain⟨h1,h2⟩:=qip hs'.1 hs'.2.1 h';refine⟨h1,fun st2 hf2 hh2 hn2=>?_⟩;obtain⟨fr2,hfr2,h3⟩:=qkL h2;unfold GW at h3;rw[qe]at h3;refine hk _ _ _ _ st2 ⟨fun t=>?_,fun i b hb=>?_,?_⟩ h3
       ·rw[hf2,hfr2,hs'.1]
       ·rw[hh2];exact hs'.2.1 i b hb
       ·rw[hn2,hs'.2.2]) h')
     ·cases p1
    |false=>
    rw[e1]at p1;cases e2:Nat.beq a 2 with
    |true=>
     rw[e2]at p1;have:=qkI (P:=P) (O:=⟨fs,lo,rnd,zW L⟩) (id:=id) (K:=K) (g:=.mk) hm hE hf hrun hs p1 hk;exact this
    |false=>
    rw[e2]at p1;cases p1
end
end
end Go.Sx
end
section
namespace Go.Sx
open Go.RowKit
noncomputable section
def svF(s:SV):(Value→R)→R→R:=SV.rec (motive_1:=fun _=>(Value→R)→R→R) (motive_2:=fun _=>PUnit) (fun  f d=>d) (fun v f d=>f v) (fun _ _ f d=>d) (fun _ _ f d=>d) (fun _ _ _ _ _ f d=>d) (fun _ _ f d=>d) (fun _ _ _ _ f d=>d) (fun _ _ _ _ f d=>d) (fun _ _ _ _ _ _ f d=>d) (fun _ _ _ f d=>d) (fun _ f d=>d) (fun _ _ _ _ f d=>d) (fun _ _ _ _ f d=>d) (fun _ _ _ f d=>d) (fun _ _ _ _ _ f d=>d) (fun _ f d=>d) PUnit.unit (fun _ _ _ _=>PUnit.unit) s
def qpf(v:Value):(IntKind→Int→R)→R→R:=Value.rec (motive_1:=fun _=>(IntKind→Int→R)→R→R) (motive_2:=fun _=>PUnit) (motive_3:=fun _=>PUnit) (fun _ f d=>d) (fun k n f d=>f k n) (fun _ _ f d=>d) (fun _ _ _ f d=>d) (fun _ f d=>d) (fun _ f d=>d) (fun _ _ _ f d=>d) (fun _ f d=>d) (fun _ f d=>d) (fun _ _ _ _ _ f d=>d) (fun  f d=>d) (fun _ _ _ f d=>d) (fun  f d=>d) (fun _ _ f d=>d) (fun _ _ f d=>d) (fun _ _=>PUnit.unit) PUnit.unit (fun _ _ _ _=>PUnit.unit) v
def qog(v:Value):(Bool→R)→R→R:=Value.rec (motive_1:=fun _=>(Bool→R)→R→R) (motive_2:=fun _=>PUnit) (motive_3:=fun _=>PUnit) (fun b f d=>f b) (fun _ _ f d=>d) (fun _ _ f d=>d) (fun _ _ _ f d=>d) (fun _ f d=>d) (fun _ f d=>d) (fun _ _ _ f d=>d) (fun _ f d=>d) (fun _ f d=>d) (fun _ _ _ _ _ f d=>d) (fun  f d=>d) (fun _ _ _ f d=>d) (fun  f d=>d) (fun _ _ f d=>d) (fun _ _ f d=>d) (fun _ _=>PUnit.unit) PUnit.unit (fun _ _ _ _=>PUnit.unit) v
def qdl(s:SV)(f:IntKind→Int→R)(d:R):R:=svF s (fun v=>qpf v f d) d
def qmG(s:SV)(f:Bool→R)(d:R):R:=svF s (fun v=>qog v f d) d
def kA(k:IntKind):Nat:=IntKind.rec 100 101 2 3 4 5 6 7 k
def kB(k:IntKind):Nat:=IntKind.rec 102 103 2 3 4 5 6 7 k
def qmH(k k':IntKind):Bool:=Nat.beq (kA k) (kB k')
theorem qkM(k k':IntKind):qmH k k'=eqKind k k':=by cases k<;>cases k'<;>rfl
def qmI(a b:Int):IntKind→(XR→R)→R:=Int.rec (fun x=>Int.rec (fun y k f=>qh (Nat.add x y) fun n=>Bool.rec (.bad 19 0) (f (.pure (.val (.int k (.ofNat n))))) (Nat.ble n (hiK k))) (fun y k f=>jz 19 k (Int.add (.ofNat x) (.negSucc y)) f) b) (fun x k f=>jz 19 k (Int.add (.negSucc x) b) f) a
theorem qkN(a b:Int)(k:IntKind)(f:XR→R):qmI a b k f=jz 19 k (Int.add a b) f:=by
 cases a with
 |negSucc x=>rfl
 |ofNat x=>cases b with
  |negSucc y=>rfl
  |ofNat y=>
   have e:qmI (.ofNat x) (.ofNat y) k f=qh (Nat.add x y) fun n=>Bool.rec (.bad 19 0) (f (.pure (.val (.int k (.ofNat n))))) (Nat.ble n (hiK k)):=rfl;rw[e,qe];unfold jz;rw[jy];rfl
def qoh(a b:Int):IntKind→(XR→R)→R:=Int.rec (fun x=>Int.rec (fun y k f=>Bool.rec (jz 20 k (Int.sub (.ofNat x) (.ofNat y)) f) (qh (Nat.sub x y) fun n=>Bool.rec (.bad 20 0) (f (.pure (.val (.int k (.ofNat n))))) (Nat.ble n (hiK k))) (Nat.ble y x)) (fun y k f=>jz 20 k (Int.sub (.ofNat x) (.negSucc y)) f) b) (fun x k f=>jz 20 k (Int.sub (.negSucc x) b) f) a
theorem qkO(a b:Int)(k:IntKind)(f:XR→R):qoh a b k f=jz 20 k (Int.sub a b) f:=by
 cases a with
 |negSucc x=>rfl
 |ofNat x=>cases b with
  |negSucc y=>rfl
  |ofNat y=>
   show(Bool.rec _ _ (Nat.ble y x):R)=_;cases h:Nat.ble y x with
   |false=>rfl
   |true=>
    have e:Int.sub (.ofNat x) (.ofNat y)=.ofNat (x - y):=by
     have:=xa7 h;show(Int.ofNat x - Int.ofNat y)=_;simp only[Int.ofNat_eq_natCast];omega
    rw[e];show qh (Nat.sub x y) _=jz 20 k (Int.ofNat (x - y)) f;unfold jz;rw[qe,jy];rfl
def qmJ(a b:Int):IntKind→(XR→R)→R:=Int.rec (fun x=>Int.rec (fun y k f=>qh (Nat.mul x y) fun n=>Bool.rec (.bad 21 0) (f (.pure (.val (.int k (.ofNat n))))) (Nat.ble n (hiK k))) (fun y k f=>jz 21 k (Int.mul (.ofNat x) (.negSucc y)) f) b) (fun x k f=>jz 21 k (Int.mul (.negSucc x) b) f) a
theorem qkP(a b:Int)(k:IntKind)(f:XR→R):qmJ a b k f=jz 21 k (Int.mul a b) f:=by
 cases a with
 |negSucc x=>rfl
 |ofNat x=>cases b with
  |negSucc y=>rfl
  |ofNat y=>
   have e:qmJ (.ofNat x) (.ofNat y) k f=qh (Nat.mul x y) fun n=>Bool.rec (.bad 21 0) (f (.pure (.val (.int k (.ofNat n))))) (Nat.ble n (hiK k)):=rfl;rw[e,qe];unfold jz;rw[jy];rfl
def qir(op:BinOp):Bx (IntKind→Int→Int→(XR→R)→R):=
 match op with
 |.add=>.mk fun k a b f=>qmI a b k f
 |.sub=>.mk fun k a b f=>qoh a b k f
 |.mul=>.mk fun k a b f=>qmJ a b k f
 |.eql=>.mk fun k a b f=>ZY (Jj a b) fun b=>f (.pure (.val (.bool b)))
 |.neq=>.mk fun k a b f=>Bool.rec (f (.pure (.val (.bool true)))) (f (.pure (.val (.bool false)))) (Jj a b)
 |.lss=>.mk fun k a b f=>ZY (Kc a b) fun b=>f (.pure (.val (.bool b)))
 |.leq=>.mk fun k a b f=>Bool.rec (f (.pure (.val (.bool true)))) (f (.pure (.val (.bool false)))) (Kc b a)
 |.gtr=>.mk fun k a b f=>ZY (Kc b a) fun b=>f (.pure (.val (.bool b)))
 |.geq=>.mk fun k a b f=>Bool.rec (f (.pure (.val (.bool true)))) (f (.pure (.val (.bool false)))) (Kc a b)
 |op=>.mk fun k a b f=>qeB op k a b f
theorem qis(b:Bool)(f:XR→R):(Bool.rec (f (.pure (.val (.bool true)))) (f (.pure (.val (.bool false)))) b:R)=Qg (!b) f:=by
 rw[jA];cases b<;>rfl
theorem qkQ(op:BinOp)(k:IntKind)(a b:Int)(f:XR→R):(qir op).get k a b f=qeB op k a b f:=by
 cases op<;>first
  |rfl
  |exact qkN _ _ _ _
  |exact qkO _ _ _ _
  |exact qkP _ _ _ _
  |exact qis _ _
def qit(l:List SV):Nat→(SV→R)→R→R:=List.rec (fun _ _ d=>d) (fun a _ ih i=>Nat.rec (fun f _=>f a) (fun j _=>ih j) i) l
theorem qdm:∀(l:List SV)(i:Nat)(f:SV→R)(d:R),qit l i f d=(match l[i]? with|some s=>f s|none=>d)
 |[],i,f,d=>by cases i<;>rfl
 |a :: l,0,f,d=>rfl
 |a :: l,i+1,f,d=>by
  rw[xd7,←qdm l i f d];rfl
def qdn(l:List SV):Nat→(List SV→R)→R:=List.rec (fun i g=>Nat.rec (g []) (fun _ _=>.bad 65 0) i) (fun a _ ih i=>Nat.rec (fun g=>g []) (fun j _ g=>ih j fun m=>g (a :: m)) i) l
def qdo(l:List SV):Nat→Nat→(List SV→R)→R:=List.rec (fun o sz g=>Nat.rec (Nat.rec (g []) (fun _ _=>.bad 65 0) sz) (fun _ _=>.bad 65 0) o) (fun a tl ih o=>Nat.rec (fun sz g=>qdn (a :: tl) sz g) (fun j _ sz g=>ih j sz g) o) l
theorem YT:∀(l:List SV)(n:Nat)(g:List SV→R),qdn l n g=qg 65 (Nat.ble n l.length) (g (l.take n))
 |[],0,g=>rfl
 |[],n+1,g=>rfl
 |a :: l,0,g=>rfl
 |a :: l,n+1,g=>by
  show qdn l n (fun m=>g (a :: m))=_;rw[YT l n];rfl
theorem YU:∀(l:List SV)(o n:Nat)(g:List SV→R),qdo l o n g=qg 65 (Nat.ble (o+n) l.length) (g ((l.drop o).take n))
 |[],0,0,g=>rfl
 |[],0,n+1,g=>by rw[xb0];rfl
 |[],o+1,n,g=>by rw[show o+1+n=(o+n)+1 by omega];rfl
 |a :: l,0,n,g=>by
  show qdn (a :: l) n g=_;rw[YT,xb0];rfl
 |a :: l,o+1,n,g=>by
  show qdo l o n g=_;rw[YU l o n,show o+1+n=(o+n)+1 by omega];rfl
def qiu(l:List SV):Nat→SV→(List SV→R)→R:=List.rec (fun _ _ _=>.bad 78 0) (fun a tl ih o=>Nat.rec (fun s g=>g (s :: tl)) (fun j _ s g=>ih j s fun m=>g (a :: m)) o) l
theorem Wp:∀(l:List SV)(o:Nat)(s:SV)(g:List SV→R),qiu l o s g=Yj s l o g
 |[],o,s,g=>by unfold Yj;cases o<;>rfl
 |a :: l,0,s,g=>by unfold Yj;rw[qN];rfl
 |a :: l,o+1,s,g=>by
  show qiu l o s (fun m=>g (a :: m))=_;rw[Wp l o s];unfold Yj;rw[qN,qN];rfl
def ldC(b:Option XB)(off:Nat)(f:XR→R):R:=Option.rec (motive:=fun _=>Nat→(XR→R)→R) (fun _ _=>.bad 69 0) (fun b=>XB.rec (motive:=fun _=>Nat→(XR→R)→R) (fun _ l off f=>qit l off (fun s=>f (.pure s)) (.bad 64 0)) (fun _ _ _ _ _ _=>.bad 69 0) (fun _ _ _=>.bad 69 0) (fun _ _ _ _ _=>.bad 69 0) b) b off f
def ldR(b:Option XB)(k i j:Nat)(f:XR→R):R:=Option.rec (motive:=fun _=>Nat→Nat→Nat→(XR→R)→R) (fun _ _ _ _=>.bad 70 0) (fun b=>XB.rec (motive:=fun _=>Nat→Nat→Nat→(XR→R)→R) (fun _ _ _ _ _ _=>.bad 70 0) (fun _ k' n l k i j f=>yM k k' n i j 1 fun o=>qit l o (fun s=>f (.pure s)) (.bad 64 0)) (fun _ _ _ _ _=>.bad 70 0) (fun _ _ _ _ _ _ _=>.bad 70 0) b) b k i j f
def qlM(a:SV):Tr 6 XB→(XR→R)→R:=SV.rec (motive_1:=fun _=>Tr 6 XB→(XR→R)→R) (motive_2:=fun _=>PUnit) (fun  hp f=>.bad 72 0) (fun _ hp f=>.bad 72 0) (fun _ _ hp f=>.bad 72 0) (fun _ _ hp f=>.bad 72 0) (fun _ _ _ _ _ hp f=>.bad 72 0) (fun id off hp f=>ldC (hp.find id) off f) (fun id k i j hp f=>ldR (hp.find id) k i j f) (fun o n row ih hp f=>ZA hp (.ref o n row) f) (fun _ _ _ _ _ _ hp f=>.bad 72 0) (fun _ _ _ hp f=>.bad 72 0) (fun _ hp f=>.bad 72 0) (fun _ _ _ _ hp f=>.bad 72 0) (fun _ _ _ _ hp f=>.bad 72 0) (fun _ _ _ hp f=>.bad 72 0) (fun _ _ _ _ _ hp f=>.bad 72 0) (fun _ hp f=>.bad 72 0) PUnit.unit (fun _ _ _ _=>PUnit.unit) a
theorem GX(l:List SV)(o:Nat)(f:XR→R):qit l o (fun s=>f (.pure s)) (.bad 64 0)=wP l o f:=by rw[qdm];rfl
theorem qiv(a:SV)(hp:Tr 6 XB)(f:XR→R):qlM a hp f=ZA hp a f:=by
 cases a<;>first|rfl|skip
 case ptr id off=>
  show ldC (hp.find id) off f=_;unfold ZA ldC;dsimp only;cases hp.find id with
  |none=>rfl
  |some b=>cases b<;>first|rfl|exact GX _ _ _
 case elt id k i j=>
  show ldR (hp.find id) k i j f=_;unfold ZA ldR;dsimp only;cases hp.find id with
  |none=>rfl
  |some b=>
   cases b<;>first|rfl|skip
   rename_i t k' n l;show yM k k' n i j 1 (fun o=>qit l o (fun s=>f (.pure s)) (.bad 64 0))=_
   congr 1
   funext o;exact GX _ _ _
theorem YV(l:List SV)(o n:Nat)(f:XR→R):qdo l o n (fun l=>f (.pure (.agg l)))=wQ l o n f:=by
 rw[YU];unfold wQ;rw[qN]
def qmK(b:Option XB)(off sz:Nat)(f:XR→R):R:=Option.rec (motive:=fun _=>Nat→Nat→(XR→R)→R) (fun _ _ _=>.bad 73 0) (fun b=>XB.rec (motive:=fun _=>Nat→Nat→(XR→R)→R) (fun _ l off sz f=>qdo l off sz (fun l=>f (.pure (.agg l)))) (fun _ _ _ _ _ _ _=>.bad 73 0) (fun _ _ _ _=>.bad 73 0) (fun _ _ _ _ _ _=>.bad 73 0) b) b off sz f
def qlN(a:SV):Nat→Tr 6 XB→(XR→R)→R:=SV.rec (motive_1:=fun _=>Nat→Tr 6 XB→(XR→R)→R) (motive_2:=fun _=>PUnit) (fun  sz hp f=>.bad 76 0) (fun _ sz hp f=>.bad 76 0) (fun _ _ sz hp f=>.bad 76 0) (fun _ _ sz hp f=>.bad 76 0) (fun _ _ _ _ _ sz hp f=>.bad 76 0) (fun id off sz hp f=>qmK (hp.find id) off sz f) (fun id k i j sz hp f=>ZB hp sz (.elt id k i j) f) (fun o n row ih sz hp f=>ZB hp sz (.ref o n row) f) (fun _ _ _ _ _ _ sz hp f=>.bad 76 0) (fun _ _ _ sz hp f=>.bad 76 0) (fun _ sz hp f=>.bad 76 0) (fun _ _ _ _ sz hp f=>.bad 76 0) (fun _ _ _ _ sz hp f=>.bad 76 0) (fun _ _ _ sz hp f=>.bad 76 0) (fun _ _ _ _ _ sz hp f=>.bad 76 0) (fun _ sz hp f=>.bad 76 0) PUnit.unit (fun _ _ _ _=>PUnit.unit) a
theorem qiw(a:SV)(sz:Nat)(hp:Tr 6 XB)(f:XR→R):qlN a sz hp f=ZB hp sz a f:=by
 cases a<;>first|rfl|skip
 case ptr id off=>
  show qmK (hp.find id) off sz f=_;unfold ZB qmK;dsimp only;cases hp.find id with
  |none=>rfl
  |some b=>cases b<;>first|rfl|exact YV _ _ _ _
abbrev OpR:=Tr 3 SV→Tr 6 XB→Nat→(XR→R)→R
def Jp(x:Operand):Bx (Tr 3 SV→SV):=Operand.rec (fun t=>qh t fun t=>Bx.rec (fun q=>.mk fun fr=>Option.rec .top (fun s=>s) (q fr)) (yC SV 3 t)) (fun v=>.mk fun _=>.val v) (fun _=>.mk fun _=>.top) (fun f=>.mk fun _=>.fn (.func f) [] []) x
theorem Kx(x:Operand)(fr:Tr 3 SV):(Jp x).get fr=qW fr x:=by
 cases x<;>first|rfl|skip
 rename_i t;have e:Jp (.tmp t)=qh t fun t=>Bx.rec (fun q=>.mk fun fr=>Option.rec .top (fun s=>s) (q fr)) (yC SV 3 t):=rfl;rw[e,qe];show(Option.rec .top (fun s=>s) ((yC SV 3 t).get fr):SV)=qA fr t;unfold qA;rw[Kl]
def qdp(l:List Operand):Bx (Tr 3 SV→List SV):=List.rec (.mk fun _=>[]) (fun x _ ih=>Bx.rec (fun a=>Bx.rec (fun m=>.mk fun fr=>a fr :: m fr) ih) (Jp x)) l
theorem YW(fr:Tr 3 SV):∀l,(qdp l).get fr=we fr l
 |[]=>rfl
 |x :: l=>by
  show(Jp x).get fr ::(qdp l).get fr=_;rw[Kx,YW];rfl
def eB(x:Operand)(k:(Tr 3 SV→SV)→Bx OpR):Bx OpR:=Bx.rec k (Jp x)
theorem zE(x:Operand)(k:(Tr 3 SV→SV)→Bx OpR):eB x k=k (fun fr=>qW fr x):=by
 show k (Jp x).get=_;congr 1;funext fr;exact Kx x fr
def qlO(E:XE)(t:TypeId)(x:Operand):Bx OpR:=
 match E.tys t with
 |some ⟨false,_,_,_⟩=>eB x fun a=>.mk fun fr hp _ f=>qlM (a fr) hp f
 |some ⟨true,sz,_,_⟩=>eB x fun a=>.mk fun fr hp _ f=>qlN (a fr) sz hp f
 |none=>.mk fun _ _ _ _=>.bad 77 0
def stC(b:Option XB)(id off:Nat)(v:SV)(f:XR→R):R:=Option.rec (motive:=fun _=>Nat→Nat→SV→(XR→R)→R) (fun _ _ _ _=>.bad 80 0) (fun b=>XB.rec (motive:=fun _=>Nat→Nat→SV→(XR→R)→R) (fun t l id off v f=>qiu l off v fun l=>f (.upd id (.cells t l) undefSV)) (fun _ _ _ _ _ _ _ _=>.bad 80 0) (fun _ _ _ _ _=>.bad 80 0) (fun _ _ _ _ _ _ _=>.bad 80 0) b) b id off v f
def stR(b:Option XB)(id k i j:Nat)(v:SV)(f:XR→R):R:=Option.rec (motive:=fun _=>Nat→Nat→Nat→Nat→SV→(XR→R)→R) (fun _ _ _ _ _ _=>.bad 81 0) (fun b=>XB.rec (motive:=fun _=>Nat→Nat→Nat→Nat→SV→(XR→R)→R) (fun _ _ _ _ _ _ _ _=>.bad 81 0) (fun t k' n l id k i j v f=>yM k k' n i j 1 fun o=>qiu l o v fun l=>f (.upd id (.rows t k' n l) undefSV)) (fun _ _ _ _ _ _ _=>.bad 81 0) (fun _ _ _ _ _ _ _ _ _=>.bad 81 0) b) b id k i j v f
def qbD(a:SV):Tr 6 XB→SV→(XR→R)→R:=SV.rec (motive_1:=fun _=>Tr 6 XB→SV→(XR→R)→R) (motive_2:=fun _=>PUnit) (fun  hp v f=>.bad 82 0) (fun _ hp v f=>.bad 82 0) (fun _ _ hp v f=>.bad 82 0) (fun _ _ hp v f=>.bad 82 0) (fun _ _ _ _ _ hp v f=>.bad 82 0) (fun id off hp v f=>stC (hp.find id) id off v f) (fun id k i j hp v f=>stR (hp.find id) id k i j v f) (fun _ _ _ _ hp v f=>.bad 82 0) (fun _ _ _ _ _ _ hp v f=>.bad 82 0) (fun _ _ _ hp v f=>.bad 82 0) (fun _ hp v f=>.bad 82 0) (fun _ _ _ _ hp v f=>.bad 82 0) (fun _ _ _ _ hp v f=>.bad 82 0) (fun _ _ _ hp v f=>.bad 82 0) (fun _ _ _ _ _ hp v f=>.bad 82 0) (fun _ hp v f=>.bad 82 0) PUnit.unit (fun _ _ _ _=>PUnit.unit) a
theorem qeV(a:SV)(hp:Tr 6 XB)(v:SV)(f:XR→R):qbD a hp v f=QM hp a v f:=by
 cases a<;>first|rfl|skip
 case ptr id off=>
  show stC (hp.find id) id off v f=_;unfold QM stC;dsimp only;cases hp.find id with
  |none=>rfl
  |some b=>cases b<;>first|rfl|exact Wp _ _ _ _
 case elt id k i j=>
  show stR (hp.find id) id k i j v f=_;unfold QM stR;dsimp only;cases hp.find id with
  |none=>rfl
  |some b=>
   cases b<;>first|rfl|skip
   rename_i t k' n l;show yM k k' n i j 1 (fun o=>qiu l o v fun l=>f (.upd id (.rows t k' n l) undefSV))=_
   congr 1
   funext o;exact Wp _ _ _ _
def qix(E:XE)(t:TypeId)(a x:Operand):Bx OpR:=
 match E.tys t with
 |some ⟨false,sz,_,_⟩=>eB a fun a=>eB x fun x=>.mk fun fr hp _ f=>qg 86 (oneCell (x fr)) (qg 87 (Nat.beq sz 1) (qbD (a fr) hp (x fr) f))
 |_=>eB a fun a=>eB x fun x=>.mk fun fr hp _ f=>Gt E hp t (a fr) (x fr) f
def qkR(x y:SV)(h:IntKind→Int→Int→R)(sl:R):R:=qdl x (fun k a=>qdl y (fun k' b=>Bool.rec (.bad 40 0) (h k a b) (qmH k k')) sl) sl
theorem YX{s:SV}{f:IntKind→Int→R}{d:R}(h:∀k n,s≠.val (.int k n)):qdl s f d=d:=by
 cases s<;>first|rfl|skip
 rename_i v;cases v<;>first|rfl|skip
 exact absurd rfl (h _ _)
theorem qiy(s:SV):(∃k n,s=.val (.int k n))∨∀k n,s≠.val (.int k n):=by
 by_cases h:∃k n,s=.val (.int k n)
 ·exact .inl h
 ·exact .inr fun k n e=>h ⟨k,n,e⟩
theorem qkS(E:XE)(op:BinOp)(t:TypeId)(x y:SV)(f:XR→R):qkR x y (fun k a b=>(qir op).get k a b f) (qaZ E op t x y f)=qaZ E op t x y f:=by
 unfold qkR;rcases qiy x with⟨k,a,rfl⟩|hx
 ·rcases qiy y with⟨k',b,rfl⟩|hy
  ·show(Bool.rec (.bad 40 0) ((qir op).get k a b f) (qmH k k'):R)=qg 40 (eqKind k k') (qeB op k a b f)
   rw[qkM,qkQ];rfl
  ·show qdl y _ _=_
   exact YX hy
 ·exact YX hx
def qoi(E:XE)(op:BinOp)(t:TypeId)(x y:Operand):Bx OpR:=Bx.rec (fun h=>eB x fun a=>eB y fun b=>.mk fun fr _ _ f=>qkR (a fr) (b fr) (fun k m n=>h k m n f) (qaZ E op t (a fr) (b fr) f)) (qir op)
def qoj(x:SV):Nat→(XR→R)→R:=SV.rec (motive_1:=fun _=>Nat→(XR→R)→R) (motive_2:=fun _=>PUnit) (fun  o f=>.bad 102 0) (fun _ o f=>.bad 102 0) (fun _ _ o f=>.bad 102 0) (fun _ _ o f=>.bad 102 0) (fun _ _ _ _ _ o f=>.bad 102 0) (fun id off o f=>qh (Nat.add off o) fun n=>f (.pure (.ptr id n))) (fun id k i j o f=>QO (.elt id k i j) o f) (fun b n row ih o f=>QO (.ref b n row) o f) (fun _ _ _ _ _ _ o f=>.bad 102 0) (fun _ _ _ o f=>.bad 102 0) (fun _ o f=>.bad 102 0) (fun _ _ _ _ o f=>.bad 102 0) (fun _ _ _ _ o f=>.bad 102 0) (fun _ _ _ o f=>.bad 102 0) (fun _ _ _ _ _ o f=>.bad 102 0) (fun _ o f=>.bad 102 0) PUnit.unit (fun _ _ _ _=>PUnit.unit) x
theorem qkT(x:SV)(o:Nat)(f:XR→R):qoj x o f=QO x o f:=by
 cases x<;>rfl
def qbE(E:XE)(t:TypeId)(x:Operand)(i:Nat):Bx OpR:=
 match E.tys t with
 |some ⟨_,_,_,.struct fs⟩=>(match fs[i]? with
  |some (o,s,_)=>(match Nat.ble 1 s with
   |true=>eB x fun a=>qh o fun o=>.mk fun fr _ _ f=>qoj (a fr) o f
   |false=>.mk fun _ _ _ _=>.bad 103 0)
  |none=>.mk fun _ _ _ _=>.bad 104 0)
 |_=>.mk fun _ _ _ _=>.bad 105 0
def qok(x:SV):(XR→R)→R:=SV.rec (motive_1:=fun _=>(XR→R)→R) (motive_2:=fun _=>PUnit) (fun  f=>.bad 100 0) (fun _ f=>.bad 100 0) (fun _ _ f=>.bad 100 0) (fun _ _ f=>.bad 100 0) (fun g a b iha ihb f=>qhb (.fn g a b) f) (fun id off f=>f (.pure (.ptr id off))) (fun id k i j f=>f (.pure (.elt id k i j))) (fun o n row ih f=>f (.pure (.ref o n row))) (fun _ _ _ _ _ _ f=>.bad 100 0) (fun _ _ _ f=>.bad 100 0) (fun _ f=>.bad 100 0) (fun _ _ _ _ f=>.bad 100 0) (fun _ _ _ _ f=>.bad 100 0) (fun _ _ _ f=>.bad 100 0) (fun _ _ _ _ _ f=>.bad 100 0) (fun _ f=>.bad 100 0) PUnit.unit (fun _ _ _ _=>PUnit.unit) x
theorem qkU(x:SV)(f:XR→R):qok x f=qhb x f:=by cases x<;>rfl
def qiz(E:XE)(c:Call):Bx OpR:=
 match c.callee with
 |.value (.func g)=>Bx.rec (fun m=>.mk fun fr _ _ f=>gy (m fr) fun l=>f (.call g l)) (qdp c.args.toList)
 |.builtin .len=>(match c.args.toList,c.argTypes.toList with
  |[x],[t]=>(match E.tys t with
   |some ⟨_,_,_,.slice _ _⟩=>eB x fun a=>.mk fun fr _ _ f=>qhc (a fr) f
   |some ⟨_,_,_,.array n _ _⟩=>.mk fun _ _ _ f=>f (.pure (.val (.int .i64 (.ofNat n))))
   |_=>.mk fun fr hp id f=>vt E fr hp c id f)
  |_,_=>.mk fun fr hp id f=>vt E fr hp c id f)
 |.builtin .append=>(match c.args.toList,c.argTypes.toList with
  |[s,x],[t,t']=>(match Nat.beq t t' with
   |true=>eB s fun a=>eB x fun b=>.mk fun fr hp id f=>QU E hp t (a fr) (b fr) id f
   |false=>.mk fun _ _ _ _=>.bad 231 0)
  |_,_=>.mk fun fr hp id f=>vt E fr hp c id f)
 |_=>.mk fun fr hp id f=>vt E fr hp c id f
def cOp(E:XE)(op:Op):Bx OpR:=
 match op with
 |.move x=>eB x fun a=>.mk fun fr _ _ f=>f (.pure (a fr))
 |.assign x=>eB x fun a=>.mk fun fr _ _ f=>f (.pure (a fr))
 |.pick c a b=>eB c fun c=>eB a fun a=>eB b fun b=>.mk fun fr _ _ f=>qcp (c fr) (a fr) (b fr) f
 |.alloc t=>.mk fun _ _ id f=>VQ E t id f
 |.box t x=>eB x fun a=>.mk fun fr _ id f=>qkc E t (a fr) id f
 |.load t x=>qlO E t x
 |.store t a x=>qix E t a x
 |.nilCheck x=>eB x fun a=>.mk fun fr _ _ f=>qok (a fr) f
 |.binOp op t x y _=>qoi E op t x y
 |.unOp op _ x=>eB x fun a=>.mk fun fr _ _ f=>xUn op (a fr) f
 |.convert s t x=>eB x fun a=>.mk fun fr _ _ f=>qco E s t (a fr) f
 |.fieldAddr t x i=>qbE E t x i
 |.field t x i=>eB x fun a=>.mk fun fr _ _ f=>VR E t (a fr) i f
 |.indexAddr t x i=>eB x fun a=>eB i fun b=>.mk fun fr _ _ f=>vZ E t (a fr) (b fr) f
 |.extract x i=>eB x fun a=>.mk fun fr _ _ f=>QP (a fr) i f
 |.call c=>qiz E c
 |.index t x i=>eB x fun a=>eB i fun b=>.mk fun fr _ _ f=>VS E t (a fr) (b fr) f
 |.makeMap t rs=>.mk fun _ _ id f=>QX E t rs.isSome id f
 |.lookup t x k ok=>eB x fun a=>eB k fun b=>.mk fun fr hp _ f=>Kp E hp t (a fr) (b fr) ok f
 |op=>.mk fun fr hp id f=>xOp E fr hp id op f
theorem qeW(E:XE)(t:TypeId)(x:Operand)(i:Nat)(fr:Tr 3 SV)(hp:Tr 6 XB)(id:Nat)(f:XR→R):(qbE E t x i).get fr hp id f=jU E t (qW fr x) i f:=by
 unfold qbE jU;cases E.tys t with
 |none=>rfl
 |some ti=>
  obtain⟨a,b,c,d⟩:=ti;cases d<;>first|rfl|skip
  rename_i fs;dsimp only;cases fs[i]? with
  |none=>rfl
  |some y=>
   obtain⟨o,s,ag⟩:=y;dsimp only;cases Nat.ble 1 s with
   |false=>rfl
   |true=>
    dsimp only;rw[zE,qe];exact qkT _ _ _
theorem qiA(E:XE)(c:Call)(fr:Tr 3 SV)(hp:Tr 6 XB)(id:Nat)(f:XR→R):(qiz E c).get fr hp id f=vt E fr hp c id f:=by
 unfold qiz;split
 ·rename_i g hc
  show gy ((qdp c.args.toList).get fr) (fun l=>f (.call g l))=_;rw[qN,YW];unfold vt;rw[hc];show _=yD ([]++(we fr c.args.toList++[])) fun l=>f (.call g l);rw[kd,List.nil_append,xd3]
 ·rename_i hc
  split
  ·rename_i x t ha ht
   have e:vt E fr hp c id f=qeG E t (qW fr x) f:=by
    unfold vt;rw[hc];show QY E hp .len c.argTypes.toList (we fr c.args.toList) id f=_;rw[ha,ht];rfl
   split
   ·rename_i hT
    rw[zE,e];unfold qeG;rw[hT];rfl
   ·rename_i hT
    rw[e];unfold qeG;rw[hT];rfl
   ·rfl
  ·rfl
 ·rename_i hc
  split
  ·rename_i s x t t' ha ht
   have e:vt E fr hp c id f=qg 231 (Nat.beq t t') (QU E hp t (qW fr s) (qW fr x) id f):=by
    unfold vt;rw[hc];show QY E hp .append c.argTypes.toList (we fr c.args.toList) id f=_;rw[ha,ht];rfl
   rw[e];cases Nat.beq t t' with
   |true=>dsimp only;rw[zE,zE];rfl
   |false=>rfl
  ·rfl
 ·rfl
theorem qbF(E:XE)(op:Op)(fr:Tr 3 SV)(hp:Tr 6 XB)(id:Nat)(f:XR→R):(cOp E op).get fr hp id f=xOp E fr hp id op f:=by
 cases op<;>first|rfl|(unfold cOp xOp;dsimp only)
 case move x=>rw[zE,kS];rfl
 case assign x=>rw[zE,kS];rfl
 case pick=>rw[zE,zE,zE];rfl
 case box=>rw[zE];rfl
 case load t x=>
  unfold qlO Yh;cases E.tys t with
  |none=>rfl
  |some ti=>
   obtain⟨a,b,c,d⟩:=ti;cases a
   ·dsimp only;rw[zE];exact qiv _ _ _
   ·dsimp only;rw[zE];exact qiw _ _ _ _
 case store t a x=>
  unfold qix;split
  ·rename_i hT
   rw[zE,zE];unfold Gt;rw[hT];show qg 86 _ (qg 87 _ (qbD (qW fr a) hp (qW fr x) f))=_;rw[qeV]
  ·rw[zE,zE];rfl
 case nilCheck=>rw[zE];exact qkU _ _
 case binOp op t x y t'=>
  unfold qoi;show(eB x fun a=>eB y fun b=>.mk fun fr _ _ f=>qkR (a fr) (b fr) (fun k m n=>(qir op).get k m n f) (qaZ E op t (a fr) (b fr) f)).get fr hp id f=_;rw[zE,zE];exact qkS E op t _ _ f
 case unOp=>rw[zE];rfl
 case convert=>rw[zE];rfl
 case fieldAddr t x i=>exact qeW _ _ _ _ _ _ _ _
 case field=>rw[zE];rfl
 case indexAddr=>rw[zE,zE];rfl
 case extract=>rw[zE];rfl
 case call c=>exact qiA _ _ _ _ _ _
 case index=>rw[zE,zE];rfl
 case lookup=>rw[zE,zE];rfl
abbrev GK:=Tr 3 SV→Tr 6 XB→Nat→R
abbrev qpg:=XC→CX→Nat→XR→Tr 3 SV→Tr 6 XB→Nat→GK→R
def qeX(E:XE)(j:Bool)(d:Option Tmp):Bx qpg:=
 match d with
 |none=>.mk fun run cx id xr fr hp nid g=>XR.rec (motive:=fun _=>XC→CX→Nat→Tr 3 SV→Tr 6 XB→Nat→GK→R) (fun _ _ _ _ fr hp nid g=>g fr hp nid) (fun b _ _ _ id fr hp nid g=>zi (some b) 22 hp id fun hp=>g fr hp nid)
  (fun i b s run cx id fr hp nid g=>Option.rec (.bad 304 0) (fun _=>zi (some b) 22 hp i fun hp=>g fr hp nid) (hp.find i)) (fun i b s run cx id fr hp nid g=>Zd E run cx j none id (.grow i b s) fr hp nid g) (fun h l run cx id fr hp nid g=>Zd E run cx j none id (.call h l) fr hp nid g) (fun h l run cx id fr hp nid g=>Zd E run cx j none id (.yield h l) fr hp nid g) xr run cx id fr hp nid g
 |some d=>qh d fun d=>Bx.rec (fun p=>.mk fun run cx id xr fr hp nid g=>XR.rec (motive:=fun _=>XC→CX→Nat→Tr 3 SV→Tr 6 XB→Nat→GK→R) (fun s _ _ _ fr hp nid g=>p fr (some s) fun fr=>g fr hp nid) (fun b s _ _ id fr hp nid g=>zi (some b) 22 hp id fun hp=>p fr (some s) fun fr=>g fr hp nid)
  (fun i b s run cx id fr hp nid g=>Option.rec (.bad 304 0) (fun _=>zi (some b) 22 hp i fun hp=>p fr (some s) fun fr=>g fr hp nid) (hp.find i)) (fun i b s run cx id fr hp nid g=>Zd E run cx j (some d) id (.grow i b s) fr hp nid g) (fun h l run cx id fr hp nid g=>Zd E run cx j (some d) id (.call h l) fr hp nid g) (fun h l run cx id fr hp nid g=>Zd E run cx j (some d) id (.yield h l) fr hp nid g) xr run cx id fr hp nid g) (Qe SV 3 d)
theorem qkV(E:XE)(j:Bool)(d:Option Tmp)(run:XC)(cx:CX)(id:Nat)(xr:XR)(fr:Tr 3 SV)(hp:Tr 6 XB)(nid:Nat)(g:GK):(qeX E j d).get run cx id xr fr hp nid g=Zd E run cx j d id xr fr hp nid g:=by
 cases d with
 |none=>
  cases xr<;>first|rfl|skip
  rename_i i b s;show(Option.rec (.bad 304 0) (fun _=>zi (some b) 22 hp i fun hp=>g fr hp nid) (hp.find i):R)=_;unfold Zd;dsimp only;cases hp.find i<;>rfl
 |some d=>
  unfold qeX;dsimp only;rw[qe];have e:∀(s:SV)(fr:Tr 3 SV)(k:Tr 3 SV→R),(Qe SV 3 d).get fr (some s) k=putD (some d) s fr k:=fun s fr k=>by
   show _=zi (some s) 12 fr d k;rw[VN]
  cases xr<;>first|rfl|exact e _ _ _|skip
  ·rename_i b s
   show zi (some b) 22 hp id (fun hp=>(Qe SV 3 d).get fr (some s) fun fr=>g fr hp nid)=_;unfold Zd;dsimp only
   congr 1
   funext hp;exact e _ _ _
  ·rename_i i b s
   show(Option.rec (.bad 304 0) (fun _=>zi (some b) 22 hp i fun hp=>(Qe SV 3 d).get fr (some s) fun fr=>g fr hp nid) (hp.find i):R)=_;unfold Zd;dsimp only;cases hp.find i with
   |none=>rfl
   |some y=>
    show zi (some b) 22 hp i (fun hp=>(Qe SV 3 d).get fr (some s) fun fr=>g fr hp nid)=zi (some b) 22 hp i (fun hp=>putD (some d) s fr fun fr=>g fr hp nid)
    congr 1
    funext hp;exact e _ _ _
abbrev qiB:=XC→CX→Tr 3 SV→Tr 6 XB→Nat→GK→R
def cGo(E:XE)(j:Bool)(o:Oper)(i:Nat)(k:(XC→CX→Tr 3 SV→Tr 6 XB→Nat→GK→R)→Bx qiB):Bx qiB:=
 Bx.rec (fun q=>Bx.rec (fun r=>(match kU o.op with
  |true=>k fun run cx fr hp nid g=>qh (Nat.add nid i) fun id=>q fr hp id fun xr=>r run cx id xr fr hp nid g
  |false=>k fun run cx fr hp nid g=>q fr hp (Nat.add nid i) fun xr=>r run cx (Nat.add nid i) xr fr hp nid g)) (qeX E j o.dst)) (cOp E o.op)
def ZK(E:XE)(j:Bool)(ds:List (Option Tmp))(l:List Oper):Nat→Bx qiB:=
 List.rec (motive:=fun _=>Nat→Bx qiB) (fun _=>.mk fun _ _ fr hp nid g=>g fr hp nid) (fun o _ ih i=>qh (Nat.succ i) fun i1=>Bx.rec (fun rest=>cGo E j o i fun go=>(match o.guard with
  |none=>.mk fun run cx fr hp nid g=>go run cx fr hp nid fun fr hp nid=>rest run cx fr hp nid g
  |some p=>.mk fun run cx fr hp nid g=>w8 ds (some p) o.dst fr hp nid (go run cx fr hp nid fun fr hp nid=>rest run cx fr hp nid g) (fun fr hp nid=>rest run cx fr hp nid g))) (ih i1)) l
theorem qmL(E:XE)(j:Bool)(o:Oper)(i:Nat)(k:(XC→CX→Tr 3 SV→Tr 6 XB→Nat→GK→R)→Bx qiB):cGo E j o i k=k fun run cx fr hp nid g=>xGo E run cx j o fr hp nid i g:=by
 show(match kU o.op with
  |true=>k fun run cx fr hp nid g=>qh (Nat.add nid i) fun id=>(cOp E o.op).get fr hp id fun xr=>(qeX E j o.dst).get run cx id xr fr hp nid g
  |false=>k fun run cx fr hp nid g=>(cOp E o.op).get fr hp (Nat.add nid i) fun xr=>(qeX E j o.dst).get run cx (Nat.add nid i) xr fr hp nid g)=_
 have e:∀run cx fr hp nid g id,(cOp E o.op).get fr hp id (fun xr=>(qeX E j o.dst).get run cx id xr fr hp nid g)=xOp E fr hp id o.op fun xr=>Zd E run cx j o.dst id xr fr hp nid g:=fun run cx fr hp nid g id=>by
  rw[qbF]
  congr 1
  funext xr;exact qkV _ _ _ _ _ _ _ _ _ _ _
 cases kU o.op with
 |true=>
  dsimp only
  congr 1
  funext run cx fr hp nid g;rw[qe,e];unfold xGo;rw[qe];rfl
 |false=>
  dsimp only
  congr 1
  funext run cx fr hp nid g;rw[e];unfold xGo;rw[qe];rfl
theorem qdq(E:XE)(j:Bool)(ds:List (Option Tmp))(run:XC)(cx:CX):∀(l:List Oper)(i:Nat)(fr:Tr 3 SV)(hp:Tr 6 XB)(nid:Nat)(g:GK),(ZK E j ds l i).get run cx fr hp nid g=Ze E run cx j ds l i fr hp nid g
 |[],i,fr,hp,nid,g=>rfl
 |o :: l,i,fr,hp,nid,g=>by
  have ih:=qdq E j ds run cx l (Nat.succ i);show Bx.get (qh (Nat.succ i) fun i1=>Bx.rec (fun rest=>cGo E j o i fun go=>(match o.guard with
   |none=>.mk fun run cx fr hp nid g=>go run cx fr hp nid fun fr hp nid=>rest run cx fr hp nid g
   |some p=>.mk fun run cx fr hp nid g=>w8 ds (some p) o.dst fr hp nid (go run cx fr hp nid fun fr hp nid=>rest run cx fr hp nid g) (fun fr hp nid=>rest run cx fr hp nid g))) (ZK E j ds l i1)) run cx fr hp nid g=w8 ds o.guard o.dst fr hp nid (xGo E run cx j o fr hp nid i fun fr hp nid=>qh (Nat.succ i) fun i=>Ze E run cx j ds l i fr hp nid g) (fun fr hp nid=>qh (Nat.succ i) fun i=>Ze E run cx j ds l i fr hp nid g)
  rw[qe];show(cGo E j o i fun go=>(match o.guard with
   |none=>.mk fun run cx fr hp nid g=>go run cx fr hp nid fun fr hp nid=>(ZK E j ds l (Nat.succ i)).get run cx fr hp nid g
   |some p=>.mk fun run cx fr hp nid g=>w8 ds (some p) o.dst fr hp nid (go run cx fr hp nid fun fr hp nid=>(ZK E j ds l (Nat.succ i)).get run cx fr hp nid g) (fun fr hp nid=>(ZK E j ds l (Nat.succ i)).get run cx fr hp nid g))).get run cx fr hp nid g=_
  rw[qmL];have e:(fun fr hp nid=>(ZK E j ds l (Nat.succ i)).get run cx fr hp nid g)=fun fr hp nid=>qh (Nat.succ i) fun i=>Ze E run cx j ds l i fr hp nid g:=by
   funext fr hp nid;rw[qe,ih]
  cases o.guard with
  |none=>
   show xGo E run cx j o fr hp nid i (fun fr hp nid=>(ZK E j ds l (Nat.succ i)).get run cx fr hp nid g)=_;rw[e];rfl
  |some p=>
   show w8 ds (some p) o.dst fr hp nid (xGo E run cx j o fr hp nid i (fun fr hp nid=>(ZK E j ds l (Nat.succ i)).get run cx fr hp nid g)) (fun fr hp nid=>(ZK E j ds l (Nat.succ i)).get run cx fr hp nid g)=_;rw[e]
abbrev ChR:=XC→Tr 3 SV→Tr 6 XB→Nat→List (Tr 6 XB)→CK→R
def okK(r:R)(g:SV→Tr 6 XB→Nat→R):R:=R.rec (fun q=>Q.rec (fun s hp nid=>g s hp nid) q) (fun c i=>.bad c i) r
theorem qiC(E:XE)(run:XC)(id:Nat)(o:Oper)(fr:Tr 3 SV)(hp:Tr 6 XB)(g:SV→Tr 6 XB→Nat→R):okK ((cOp E o.op).get fr hp id fun xr=>YQ E run id xr hp okQ) g=Z0 E run id o fr hp g:=by
 rw[qbF];unfold okK Z0;cases (xOp E fr hp id o.op fun xr=>YQ E run id xr hp okQ)with
 |ok q=>cases q;rfl
 |bad c i=>rfl
def qiD(xr:XR):R:=XR.rec (fun s=>.ok (.mk s .nil 0)) (fun _ _=>.bad 382 0) (fun _ _ _=>.bad 382 0) (fun _ _ _=>.bad 382 0) (fun _ _=>.bad 382 0) (fun _ _=>.bad 382 0) xr
theorem qiE:qiD=qdf:=by funext xr;cases xr<;>rfl
def cPu(E:XE)(op:Op):Bx (Tr 3 SV→Tr 6 XB→R):=
 match YR E op with
 |some x=>Bx.rec (fun q=>.mk fun fr hp=>GS (q fr) hp) (Jp x)
 |none=>Bx.rec (fun q=>.mk fun fr hp=>q fr hp 0 qiD) (cOp E op)
theorem qmM(E:XE)(op:Op)(fr:Tr 3 SV)(hp:Tr 6 XB):(cPu E op).get fr hp=GT E fr hp op:=by
 unfold cPu GT;cases YR E op with
 |some x=>
  show GS ((Jp x).get fr) hp=GS (qW fr x) hp;rw[Kx]
 |none=>
  show(cOp E op).get fr hp 0 qiD=xOp E fr hp 0 op qdf;rw[qbF,qiE]
theorem Vc(E:XE)(o:Oper)(fr:Tr 3 SV)(hp:Tr 6 XB)(g:SV→R):okK ((cPu E o.op).get fr hp) (fun s _ _=>g s)=gA E o fr hp g:=by
 rw[qmM];unfold okK gA;cases GT E fr hp o.op with
 |ok q=>cases q;rfl
 |bad c i=>rfl
def Jq(d:Option Tmp):Bx (Tr 3 SV→SV→(Tr 3 SV→R)→R):=
 match d with
 |none=>.mk fun fr _ g=>g fr
 |some d=>qh d fun d=>Bx.rec (fun p=>.mk fun fr s g=>p fr (some s) g) (Qe SV 3 d)
theorem qkW(d:Option Tmp)(fr:Tr 3 SV)(s:SV)(g:Tr 3 SV→R):(Jq d).get fr s g=putD d s fr g:=by
 cases d with
 |none=>rfl
 |some d=>
  unfold Jq;dsimp only;rw[qe];show(Qe SV 3 d).get fr (some s) g=zi (some s) 12 fr d g;rw[VN]
def qbG(E:XE)(n:Nat)(o:Oper)(rest:ChR):Bx ChR:=
 Bx.rec (fun u=>Bx.rec (fun q=>Bx.rec (fun p=>(match kU o.op with
  |true=>.mk fun run fr hp nid hs g=>qh (Nat.add nid n) fun id=>okK (q fr hp id fun xr=>YQ E run id xr hp okQ) fun s hp' nid'=>qh (Nat.succ nid') fun nid'=>p fr s fun fr=>rest run fr hp' nid' (hs++[hp']) g
  |false=>(match Gz o.op with
   |true=>.mk fun run fr hp nid hs g=>okK (u fr (Jo (zD fr o.op) hp)) fun s _ _=>p fr s fun fr=>rest run fr hp nid hs g
   |false=>.mk fun run fr hp nid hs g=>okK (u fr .nil) fun s _ _=>p fr s fun fr=>rest run fr hp nid hs g))) (Jq o.dst)) (cOp E o.op)) (cPu E o.op)
def cCh(E:XE)(n:Nat)(ds:List (Option Tmp))(l:List Oper):Bx ChR:=
 List.rec (.mk fun _ fr hp nid hs g=>g fr hp nid hs) (fun o _ ih=>Bx.rec (fun rest=>Bx.rec (fun go=>(match o.guard with
  |none=>.mk go
  |some p=>.mk fun run fr hp nid hs g=>Option.rec (.bad 386 0) (fun sk=>Bool.rec (go run fr hp nid hs g) (putD o.dst undefSV fr fun fr=>Bool.rec (rest run fr hp nid hs g) (qh (Nat.add nid n) fun nid=>rest run fr hp nid (hs++[hp]) g) (kU o.op)) sk) (gdX ds (some p) fr))) (qbG E n o rest)) ih) l
theorem qkX(E:XE)(n:Nat)(o:Oper)(rest:ChR)(run:XC)(fr:Tr 3 SV)(hp:Tr 6 XB)(nid:Nat)(hs:List (Tr 6 XB))(g:CK):(qbG E n o rest).get run fr hp nid hs g=(Bool.rec (gA E o fr (Jo (zD fr o.op) hp) fun s=>putD o.dst s fr fun fr=>rest run fr hp nid hs g)
        (qh (nid+n) fun id=>Z0 E run id o fr hp fun s hp' nid'=>qh (Nat.succ nid') fun nid'=>putD o.dst s fr fun fr=>rest run fr hp' nid' (hs++[hp']) g) (kU o.op):R):=by
 have e1:∀(s:SV)(k:Tr 3 SV→R),(Jq o.dst).get fr s k=putD o.dst s fr k:=fun s k=>qkW _ _ _ _;show Bx.get (match kU o.op with
  |true=>.mk fun run fr hp nid hs g=>qh (Nat.add nid n) fun id=>okK ((cOp E o.op).get fr hp id fun xr=>YQ E run id xr hp okQ) fun s hp' nid'=>qh (Nat.succ nid') fun nid'=>(Jq o.dst).get fr s fun fr=>rest run fr hp' nid' (hs++[hp']) g
  |false=>(match Gz o.op with
   |true=>.mk fun run fr hp nid hs g=>okK ((cPu E o.op).get fr (Jo (zD fr o.op) hp)) fun s _ _=>(Jq o.dst).get fr s fun fr=>rest run fr hp nid hs g
   |false=>.mk fun run fr hp nid hs g=>okK ((cPu E o.op).get fr .nil) fun s _ _=>(Jq o.dst).get fr s fun fr=>rest run fr hp nid hs g)) run fr hp nid hs g=_
 cases kU o.op with
 |true=>
  show qh (Nat.add nid n) (fun id=>okK ((cOp E o.op).get fr hp id fun xr=>YQ E run id xr hp okQ) fun s hp' nid'=>qh (Nat.succ nid') fun nid'=>(Jq o.dst).get fr s fun fr=>rest run fr hp' nid' (hs++[hp']) g)=qh (nid+n) _;rw[qe,qe,qiC]
  congr 1
  funext s hp' nid';rw[qe,qe,e1]
 |false=>
  cases hr:Gz o.op with
  |true=>
   show okK ((cPu E o.op).get fr (Jo (zD fr o.op) hp)) (fun s _ _=>(Jq o.dst).get fr s fun fr=>rest run fr hp nid hs g)=_;rw[Vc];show gA _ _ _ _ _=gA _ _ _ _ _
   congr 1
   funext s;exact e1 _ _
  |false=>
   show okK ((cPu E o.op).get fr .nil) (fun s _ _=>(Jq o.dst).get fr s fun fr=>rest run fr hp nid hs g)=_;rw[Vc];have:Jo (zD fr o.op) hp=.nil:=by unfold zD;rw[hr];rfl
   show gA _ _ _ _ _=gA _ _ _ _ _;rw[this]
   congr 1
   funext s;exact e1 _ _
theorem qiF(E:XE)(n:Nat)(ds:List (Option Tmp))(run:XC):∀(l:List Oper)(fr:Tr 3 SV)(hp:Tr 6 XB)(nid:Nat)(hs:List (Tr 6 XB))(g:CK),(cCh E n ds l).get run fr hp nid hs g=gF E run n ds l fr hp nid hs g
 |[],fr,hp,nid,hs,g=>rfl
 |o :: l,fr,hp,nid,hs,g=>by
  have ih:=qiF E n ds run l;have ihf:(cCh E n ds l).get run=gF E run n ds l:=by funext fr hp nid hs g;exact ih fr hp nid hs g
  have go:=qkX E n o (cCh E n ds l).get run;show Bx.get (match o.guard with
   |none=>.mk (qbG E n o (cCh E n ds l).get).get
   |some p=>.mk fun run fr hp nid hs g=>Option.rec (.bad 386 0) (fun sk=>Bool.rec ((qbG E n o (cCh E n ds l).get).get run fr hp nid hs g) (putD o.dst undefSV fr fun fr=>Bool.rec ((cCh E n ds l).get run fr hp nid hs g) (qh (Nat.add nid n) fun nid=>(cCh E n ds l).get run fr hp nid (hs++[hp]) g) (kU o.op)) sk) (gdX ds (some p) fr)) run fr hp nid hs g=(match gdX ds o.guard fr with
   |some false=>Bool.rec (gA E o fr (Jo (zD fr o.op) hp) fun s=>putD o.dst s fr fun fr=>gF E run n ds l fr hp nid hs g)
    (qh (nid+n) fun id=>Z0 E run id o fr hp fun s hp' nid'=>qh (Nat.succ nid') fun nid'=>putD o.dst s fr fun fr=>gF E run n ds l fr hp' nid' (hs++[hp']) g) (kU o.op)
   |some true=>putD o.dst undefSV fr fun fr=>Bool.rec (gF E run n ds l fr hp nid hs g) (qh (nid+n) fun nid=>gF E run n ds l fr hp nid (hs++[hp]) g) (kU o.op)
   |none=>.bad 386 0)
  cases hg:o.guard with
  |none=>
   show(qbG E n o (cCh E n ds l).get).get run fr hp nid hs g=_;rw[go,ihf];rfl
  |some p=>
   show(Option.rec (.bad 386 0) (fun sk=>Bool.rec ((qbG E n o (cCh E n ds l).get).get run fr hp nid hs g) (putD o.dst undefSV fr fun fr=>Bool.rec ((cCh E n ds l).get run fr hp nid hs g) (qh (Nat.add nid n) fun nid=>(cCh E n ds l).get run fr hp nid (hs++[hp]) g) (kU o.op)) sk) (gdX ds (some p) fr):R)=_;cases gdX ds (some p) fr with
   |none=>rfl
   |some sk=>
    cases sk with
    |false=>
     show(qbG E n o (cCh E n ds l).get).get run fr hp nid hs g=_;rw[go,ihf]
    |true=>
     rw[ihf];rfl
def cCk(l:List Oper)(E:XE)(ops:List Oper):Nat→Bx (Tr 3 SV→List (Tr 6 XB)→R→R):=
 List.rec (motive:=fun _=>Nat→Bx (Tr 3 SV→List (Tr 6 XB)→R→R)) (fun _=>.mk fun _ _ r=>r) (fun o _ ih i=>qh (Nat.succ i) fun i1=>Bx.rec (fun rest=>(match Gz o.op with
  |true=>qh (loC l i) fun lo=>qh (hiC l i) fun hi=>qh (kc (efL l) i) fun tx=>(match Nat.beq lo tx&&Nat.beq hi tx with
   |true=>.mk rest
   |false=>.mk fun fr hs r=>Bool.rec (rest fr hs r) (Qm E fr o lo hi tx (rest fr hs r) hs 0) (zD fr o.op&&Kf (dsts l) o fr))
  |false=>.mk rest)) (ih i1)) ops
theorem Vd(E:XE)(fr:Tr 3 SV)(o:Oper)(t:Nat)(r:R):∀(hs:List (Tr 6 XB))(k:Nat),Qm E fr o t t t r hs k=r
 |[],k=>rfl
 |hp :: hs,k=>by
  show(Bool.rec (qh (Nat.succ k) fun k=>Qm E fr o t t t r hs k) (Wj E fr o hp (qh (Nat.succ k) fun k=>Qm E fr o t t t r hs k)) (Nat.ble t k&&(Nat.ble k t&&!(Nat.beq k t))):R)=r;have:(Nat.ble t k&&(Nat.ble k t&&!(Nat.beq k t)))=false:=by
   cases h1:Nat.ble t k with
   |false=>rfl
   |true=>
    cases h2:Nat.ble k t with
    |false=>rfl
    |true=>
     have:=xa7 h1;have:=xa7 h2;have:k=t:=by omega
     rw[this,Nat.beq_refl];rfl
  rw[this];show(qh (Nat.succ k) fun k=>Qm E fr o t t t r hs k)=r;rw[qe];exact Vd E fr o t r hs _
theorem qiG(E:XE)(l:List Oper)(fr:Tr 3 SV)(hs:List (Tr 6 XB))(r:R):∀(ops:List Oper)(i:Nat),(cCk l E ops i).get fr hs r=GU E l fr hs r ops i
 |[],i=>rfl
 |o :: ops,i=>by
  have ih:=qiG E l fr hs r ops (Nat.succ i);show Bx.get (qh (Nat.succ i) fun i1=>Bx.rec (fun rest=>(match Gz o.op with
   |true=>qh (loC l i) fun lo=>qh (hiC l i) fun hi=>qh (kc (efL l) i) fun tx=>(match Nat.beq lo tx&&Nat.beq hi tx with
    |true=>.mk rest
    |false=>.mk fun fr hs r=>Bool.rec (rest fr hs r) (Qm E fr o lo hi tx (rest fr hs r) hs 0) (zD fr o.op&&Kf (dsts l) o fr))
   |false=>.mk rest)) (cCk l E ops i1)) fr hs r=(Bool.rec (qh (Nat.succ i) fun i=>GU E l fr hs r ops i) (qh (loC l i) fun lo=>qh (hiC l i) fun hi=>qh (kc (efL l) i) fun tx=>Qm E fr o lo hi tx (qh (Nat.succ i) fun i=>GU E l fr hs r ops i) hs 0) (zD fr o.op&&Kf (dsts l) o fr):R)
  rw[qe];have e:(qh (Nat.succ i) fun i=>GU E l fr hs r ops i)=(cCk l E ops (Nat.succ i)).get fr hs r:=by rw[qe,ih]
  rw[e];cases hr:Gz o.op with
  |false=>
   have:(zD fr o.op&&Kf (dsts l) o fr)=false:=by unfold zD;rw[hr];rfl
   rw[this]
  |true=>
   show Bx.get (qh (loC l i) fun lo=>qh (hiC l i) fun hi=>qh (kc (efL l) i) fun tx=>(match Nat.beq lo tx&&Nat.beq hi tx with
    |true=>.mk (cCk l E ops (Nat.succ i)).get
    |false=>.mk fun fr hs r=>Bool.rec ((cCk l E ops (Nat.succ i)).get fr hs r) (Qm E fr o lo hi tx ((cCk l E ops (Nat.succ i)).get fr hs r) hs 0) (zD fr o.op&&Kf (dsts l) o fr))) fr hs r=_
   rw[qe,qe,qe,qe,qe,qe];cases h:(Nat.beq (loC l i) (kc (efL l) i)&&Nat.beq (hiC l i) (kc (efL l) i))with
   |false=>rfl
   |true=>
    rw[xe6]at h;rw[xa6 h.1,xa6 h.2,Vd];cases (zD fr o.op&&Kf (dsts l) o fr)<;>rfl
abbrev qiH:=XC→CX→Tr 3 SV→Tr 6 XB→Nat→XK→R
def qmN(E:XE)(L:FL)(id:Nat)(d:Bool)(ops:List Oper):Bx qiH:=
 match zW L id with
 |[]=>ZY (kF d ops) fun j=>Bx.rec (fun q=>qh ops.length fun n=>.mk fun run cx fr hp nid f=>q run cx fr hp nid fun fr hp nid=>qh (Nat.add nid n) fun nid=>f .normal fr hp nid) (ZK E j (dsts ops) ops 0)
 |(2,2) :: _=>(match d,GB ops with
  |true,true=>qh ops.length fun n=>Bx.rec (fun q=>Bx.rec (fun ck=>.mk fun run cx fr hp nid f=>q run fr hp nid [hp] fun fr hp nid hs=>ck fr hs (qh (Nat.add nid n) fun nid=>f .normal fr hp nid)) (cCk ops E ops 0)) (cCh E n (dsts ops) ops)
  |_,_=>.mk fun run cx fr hp nid f=>qbC E run L cx id d ops fr hp nid f)
 |_=>.mk fun run cx fr hp nid f=>qbC E run L cx id d ops fr hp nid f
theorem qkY(E:XE)(L:FL)(id:Nat)(d:Bool)(ops:List Oper)(run:XC)(cx:CX)(fr:Tr 3 SV)(hp:Tr 6 XB)(nid:Nat)(f:XK):(qmN E L id d ops).get run cx fr hp nid f=qbC E run L cx id d ops fr hp nid f:=by
 unfold qmN;split
 ·rename_i h
  unfold qbC;rw[h,QE];have e:(Bx.rec (fun q=>qh ops.length fun n=>.mk fun run cx fr hp nid f=>q run cx fr hp nid fun fr hp nid=>qh (Nat.add nid n) fun nid=>f .normal fr hp nid) (ZK E (kF d ops) (dsts ops) ops 0):Bx qiH)=.mk fun run cx fr hp nid f=>(ZK E (kF d ops) (dsts ops) ops 0).get run cx fr hp nid fun fr hp nid=>qh (Nat.add nid ops.length) fun nid=>f .normal fr hp nid:=by
   show(qh ops.length fun n=>_)=_;rw[qe];rfl
  rw[e];show(ZK E (kF d ops) (dsts ops) ops 0).get run cx fr hp nid (fun fr hp nid=>qh (Nat.add nid ops.length) fun nid=>f .normal fr hp nid)=Ze E run cx (kF d ops) (dsts ops) ops 0 fr hp nid (GW ops f);rw[qdq];rfl
 ·rename_i l h
  split
  ·rename_i hd hch
   unfold qbC;rw[h];show _=qg 361 true (qkG E run ops fr hp nid f);unfold qkG;rw[hch];show _=qh ops.length fun n=>gF E run n (dsts ops) ops fr hp nid [hp] fun fr hp nid hs=>GU E ops fr hs (qh (nid+n) fun nid=>f .normal fr hp nid) ops 0;rw[qe,qe];show(cCh E ops.length (dsts ops) ops).get run fr hp nid [hp] (fun fr hp nid hs=>(cCk ops E ops 0).get fr hs (qh (Nat.add nid ops.length) fun nid=>f .normal fr hp nid))=_;rw[qiF]
   congr 1
   funext fr hp nid hs;exact qiG _ _ _ _ _ _ _
  ·rfl
 ·rfl
def qiI(run:XC)(L:FL)(cx:CX)(b:Code)(f:XK)(e:Ex)(fr:Tr 3 SV)(hp:Tr 6 XB)(nid:Nat):R:=Ex.rec (run L cx b fr hp nid f) (fun i=>f (.exit i) fr hp nid) (f .ret fr hp nid) e
theorem qdr(run:XC)(L:FL)(cx:CX)(b:Code)(f:XK):qiI run L cx b f=qeT run L cx b f:=by
 funext e fr hp nid;cases e<;>rfl
def qbH(id:Nat)(f:XK)(e:Ex)(fr:Tr 3 SV)(hp:Tr 6 XB)(nid:Nat):R:=Ex.rec (f .normal fr hp nid) (fun i=>Bool.rec (f (.exit i) fr hp nid) (f .normal fr hp nid) (Nat.beq i id)) (f .ret fr hp nid) e
theorem qeY(id:Nat)(f:XK):qbH id f=qil id f:=by
 funext e fr hp nid;cases e<;>rfl
def qiJ(v:SV)(a b:R):R:=qmG v (fun c=>Bool.rec b a c) (.bad 320 0)
theorem qiK(v:SV)(a b:R):qiJ v a b=qim v a b:=by
 cases v<;>first|rfl|skip
 rename_i v;cases v<;>rfl
def qiL(E:XE)(L:FL)(c:Code):Bx qiH:=
 match c with
 |.skip=>.mk fun _ _ fr hp nid f=>f .normal fr hp nid
 |.seq a b=>.mk fun run cx fr hp nid f=>run L cx a fr hp nid (qiI run L cx b f)
 |.cond x a b=>Bx.rec (fun q=>.mk fun run cx fr hp nid f=>qiJ (q fr) (run L cx a fr hp nid f) (run L cx b fr hp nid f)) (Jp x)
 |.block id c=>.mk fun run cx fr hp nid f=>run L cx c fr hp nid (qbH id f)
 |.exit id=>.mk fun _ _ fr hp nid f=>f (.exit id) fr hp nid
 |.ret=>.mk fun _ _ fr hp nid f=>f .ret fr hp nid
 |.scope c=>.mk fun run cx fr hp nid f=>run L cx c fr hp nid f
 |.loop c=>.mk fun run cx fr hp nid f=>run L cx c fr hp nid (qiI run L cx (.loop c) f)
 |.region id ops d=>qmN E L id d ops.toList
 |c=>.mk fun run cx fr hp nid f=>Vb E run L cx c fr hp nid f
theorem qiM(E:XE)(run:XC)(L:FL)(cx:CX)(c:Code)(fr:Tr 3 SV)(hp:Tr 6 XB)(nid:Nat)(f:XK):(qiL E L c).get run cx fr hp nid f=Vb E run L cx c fr hp nid f:=by
 cases c<;>first|rfl|(unfold qiL Vb;dsimp only)
 case seq a b=>show run L cx a fr hp nid (qiI run L cx b f)=_;rw[qdr]
 case cond x a b=>
  show qiJ ((Jp x).get fr) _ _=_;rw[qiK,Kx]
 case block id c=>show run L cx c fr hp nid (qbH id f)=_;rw[qeY]
 case loop c=>show run L cx c fr hp nid (qiI run L cx (.loop c) f)=_;rw[qdr]
 case region id ops d=>exact qkY _ _ _ _ _ _ _ _ _ _ _
end
end Go.Sx
end
section
namespace Go.Sx
open Go.RowKit
noncomputable section
variable{ρ:Q}
def GY(E:XE)(n:Nat):XC:=Nat.rec (motive:=fun _=>XC) (fun _ _ _ _ _ _ _=>.bad 322 0) (fun _ ih L cx c fr hp nid f=>Bx.rec (fun q=>q ih cx fr hp nid f) (qiL E L c)) n
theorem Ve(E:XE)(n:Nat):GY E (n+1)=Vb E (GY E n):=by
 funext L cx c fr hp nid f;exact qiM E (GY E n) L cx c fr hp nid f
section
variable{P:Program}{E:XE}
theorem qiN{n:Nat}(ih:∀m,m≤n→vC P (GY E m)){LM:Nat→Option Loop}{fs:List Fr}{lo:Nat}{rnd:Bool}{L:FL}{cx:CX}(hcx:qeP LM fs rnd cx){c:Code}{st:St}{fr:Tr 3 SV}{hp:Tr 6 XB}{nid:Nat}{f:XK}{K:Ex→St→Prop}(hs:StR LM fr hp nid st)(h:GY E n L cx c fr hp nid (qeT (GY E n) L cx (.loop c) f)=.ok ρ)
  (hk:∀e fr' hp' nid' st',StR LM fr' hp' nid' st'→f e fr' hp' nid'=.ok ρ→K e st'):vc P ⟨fs,lo,rnd,zW L⟩ (.loop c) st K:=by
 refine .inl ⟨{p:Nat×St // p.1≤n∧∃fr hp nid,StR LM fr hp nid p.2∧GY E p.1 L cx c fr hp nid (qeT (GY E p.1) L cx (.loop c) f)=.ok ρ},fun x=>x.1.2,fun x=>x.1.1,⟨(n,st),xa5 n,fr,hp,nid,hs,h⟩,fun _ _ _ _ _ _ hi=>hi,?_⟩;rintro⟨⟨m,s⟩,hmn,fr,hp,nid,hs,h⟩;refine ih m hmn ρ LM _ _ _ _ _ c _ _ _ _ _ _ hcx hs h fun e fr' hp' nid' st' hs' h'=>?_;cases e with
 |exit i=>exact hk _ _ _ _ _ hs' h'
 |ret=>exact hk _ _ _ _ _ hs' h'
 |normal=>
  cases m with
  |zero=>cases h'
  |succ m=>
   have h':GY E (m+1) L cx (.loop c) fr' hp' nid' f=.ok ρ:=h';rw[Ve]at h';exact⟨⟨(m,st'),Nat.le_of_succ_le hmn,fr',hp',nid',hs',h'⟩,xb5 m,fun _ _ _ _ _ _ hi=>hi⟩
theorem qkZ(hm:P.follows .mixedOrders=true)(hE:XOk P E)(hf:w7 P E)(n:Nat):vC P (GY E n):=by
 induction n using Nat.strongRecOn with
 |_ n ih=>
  cases n with
  |zero=>exact fun _ _ _ _ _ _ _ _ _ _ _ _ _ _ _ _ h _=>by cases h
  |succ n=>
   rw[Ve];exact qiq hm hE hf (ih n (xb5 n)) fun ρ LM fs lo rnd L cx c st fr hp nid f K hcx hs h hk=>qiN (fun m hmn=>ih m (Nat.lt_succ_of_le hmn)) hcx hs h hk
def qph(E:XE)(rs:List ResultVar)(ok:Tr 6 XB→SV→R):XK
 |.exit _,_,_,_=>.bad 330 0
 |.normal,fr,hp,_=>Zb E fr hp rs fun m=>ok hp (oneSV m)
 |.ret,fr,hp,_=>Zb E fr hp rs fun m=>ok hp (oneSV m)
def Qp(_:Tr 6 XB)(s:SV):R:=
 match s with
 |.val (.bool b)=>Bool.rec (.bad 331 0) (.ok (.mk .top .nil 0)) b
 |_=>.bad 332 0
def kV(res:SV)(hp:Tr 6 XB)(s:SV):R:=Bool.rec (.bad 334 0) (.ok (.mk .top .nil 0)) (mtX hp 6 res s)
theorem qeZ{s:SV}{hp:Tr 6 XB}(h:Qp hp s=.ok ρ):s=.val (.bool true):=by
 unfold Qp at h;split at h
 ·rename_i b
  cases b with
  |true=>rfl
  |false=>cases h
 ·cases h
def jn(E:XE)(n:Nat)(fn:Func)(L:FL)(args:List SV)(ok:Tr 6 XB→SV→R):R:=
 match fn.body with
 |some c=>YP args 0 .nil fun fr=>GY E n L .top c fr .nil 0 (qph E fn.results.toList ok)
 |none=>.bad 333 0
def zZ:R→Bool
 |.ok _=>true
 |_=>false
theorem wh(hm:P.follows .mixedOrders=true)(hE:XOk P E)(hf:w7 P E){g:Nat}{fn:Func}{L:FL}{c:Code}(hc:qkB P g fn L c){args:List SV}(hl:args.length≤fn.ntmps)(ho:OldL args){res:SV}{ok:Tr 6 XB→SV→R}(hok:∀hp s H,HRel (fun _=>none) hp H→ok hp s=.ok ρ→Sub H res s)(n:Nat)(h:jn E n fn L args ok=.ok ρ):qb P g args res:=by
 refine ju (zW L) hc.at_ hc.body hc.name hm hc.ok args res hl ho ?_;unfold jn at h;rw[hc.body]at h;obtain⟨fr,h1,h2⟩:=Za h;have key:∀(fr3:Tr 3 SV)(hp3:Tr 6 XB)(nid3:Nat)(st3:St),StR (fun _=>none) fr3 hp3 nid3 st3→Zb E fr3 hp3 fn.results.toList (fun m=>ok hp3 (oneSV m))=.ok ρ→retVC P fn.results.toList st3 res:=fun fr3 hp3 nid3 st3 h3 h=>by
  rw[Gf];exact Zc hE h3 h fun m h=>hok _ _ _ h3.2.1 h
 refine qkZ hm hE hf n ρ (fun _=>none) _ _ _ L .top c _ fr .nil 0 _ _ rfl ⟨h1,fun id b hb=>(by rw[QF]at hb;cases hb),rfl⟩ h2 fun e fr3 hp3 nid3 st3 h3 h=>?_;cases e with
 |exit i=>cases h
 |normal=>exact key _ _ _ _ h3 h
 |ret=>exact key _ _ _ _ h3 h
theorem qbI(hp:Tr 6 XB)(s:SV)(H:List (Nat×Blk))(_:HRel (fun _=>none) hp H)(h:Qp hp s=.ok ρ):Sub H (.val (.bool true)) s:=by
 rw[qeZ h];rfl
theorem qfa{res:SV}(hp:Tr 6 XB)(s:SV)(H:List (Nat×Blk))(hH:HRel (fun _=>none) hp H)(h:kV res hp s=.ok ρ):Sub H res s:=by
 unfold kV at h;cases q:mtX hp 6 res s with
 |false=>rw[q]at h;cases h
 |true=>exact qby hH 6 _ _ q
theorem YY{r:R}(h:zZ r=true):∃q,r=.ok q:=by
 unfold zZ at h;split at h
 ·exact⟨_,rfl⟩
 ·cases h
end
end
end Go.Sx
end
section
namespace Go.Sx
open Go.RowKit
noncomputable section
variable{ρ:Q}
def okB (L : FL) (fn : Func) : Bool := !(fn.name == "runtime.NumGoroutine") && (match fn.body with | some c => qB (zW L) fn.ntmps c | none => false)
theorem fnX{P:Program}{g:Nat}{fn:Func}{L:FL}(h:P.funcs[g]? = some fn)(ho:okB L fn=true):∃c,qkB P g fn L c:=by
 unfold okB at ho;simp only[xe6,Bool.not_eq_true']at ho;obtain⟨h1,h2⟩:=ho;cases hb:fn.body with
 |none=>rw[hb]at h2;cases h2
 |some c=>rw[hb]at h2;exact⟨c,⟨h,hb,h1,h2⟩⟩
abbrev FT:=List (Option FL)
def zp{α:Type}(l:List (Option α)):Nat→Option α:=List.rec (fun _=>none) (fun a _ ih i=>Nat.rec a (fun j _=>ih j) i) l
def qol(fn:Option Func)(L:FL):Option (Func×FL):=Option.rec none (fun fn=>some (fn,L)) fn
def okT(P:Program)(l:FT):Nat→Bool:=List.rec (fun _=>true) (fun a _ ih i=>Bool.rec false (qh (Nat.succ i) fun i=>ih i) (Option.rec true (fun L=>Option.rec false (fun fn=>okB L fn) (P.funcs[i]?)) a)) l
theorem Wq{P:Program}:∀{l:FT}{i j:Nat}{L:FL}{fn:Func},okT P l i=true→zp l j=some L→P.funcs[i+j]? = some fn→okB L fn=true
 |[],i,j,L,fn,h,hj,hf=>by cases hj
 |a :: l,i,j,L,fn,h,hj,hf=>by
  have h:(Bool.rec false (qh (Nat.succ i) fun i=>okT P l i) (Option.rec true (fun L=>Option.rec false (fun fn=>okB L fn) (P.funcs[i]?)) a):Bool)=true:=h;rw[qe]at h;cases q:(Option.rec true (fun L=>Option.rec false (fun fn=>okB L fn) (P.funcs[i]?)) a:Bool)with
  |false=>rw[q]at h;cases h
  |true=>
   rw[q]at h;cases j with
   |zero=>
    have hj:a=some L:=hj;subst hj;rw[xb1]at hf;rw[hf]at q;exact q
   |succ j=>exact Wq (l:=l) (i:=i+1) (j:=j) h hj (by rw[show i+1+j=i+(j+1) by omega];exact hf)
def qmO(P:Program)(t:TypeId):Option (TypeId×Nat×List Value):=
 match qk P t with
 |some ⟨_,_,_,.slice e k⟩=>(match qk P e with
  |some ⟨_,_,some z,_⟩=>Bool.rec none (some (e,k,z)) (Nat.ble 1 k&&(Nat.beq z.length k&&Nat.ble (qD P e) 100000000))
  |_=>none)
 |_=>none
def qds:List (Nat×Nat×Sh)→Nat→Option (Nat×Sh)
 |[],_=>none
 |(h,x) :: l,g=>Bool.rec (qds l g) (some x) (Nat.beq g h)
def qiO(P:Program):List (Nat×Nat×Sh)→Prop
 |[]=>True
 |(h,n,i) :: l=>ZO P h n i∧qiO P l
theorem YZ{P:Program}:∀{pl:List (Nat×Nat×Sh)},qiO P pl→∀g n i,qds pl g=some (n,i)→ZO P g n i
 |[],_,g,n,i,h=>by cases h
 |(h0,n0,i0) :: l,hp,g,n,i,h=>by
  have h:(Bool.rec (qds l g) (some (n0,i0)) (Nat.beq g h0):Option (Nat×Sh))=some (n,i):=h;cases e:Nat.beq g h0 with
  |true=>rw[e]at h;have h:=Option.some.inj h;cases h;rw[xa6 e];exact hp.1
  |false=>rw[e]at h;exact YZ hp.2 g n i h
theorem Ky{P:Program}{g:Nat}(h:∀v:Value,qb P g [.val v] (.val v)):ZO P g 1 (.one 0):=by
 refine⟨(h undef).1,fun w vs hv _=>?_⟩;refine((h (vs.getD 0 undef)).2 (fun _=>True) w vs hv fun i sv hi=>?_).mono fun e w'=>?_
 ·cases i with
  |zero=>simp only[xd6,Option.some.injEq]at hi;subst hi;exact .val _
  |succ i=>simp at hi
 ·rintro⟨v,rfl,hb,hr⟩
  cases hr;exact⟨rfl,hb⟩
theorem qla {P : Program} {g n : Nat} {l : List Nat} (hf : ∃ fn, P.funcs[g]? = some fn ∧ (fn.name == "runtime.NumGoroutine") = false ∧ fn.body.isSome = true) (h : ∀ vs : Array Value, n = vs.size → (∀ i, i ∈ l → (vs.getD i undef).oneCell' = true) → qb P g (vs.toList.map .val) (.agg (l.map fun i => .val (vs.getD i undef)))) : ZO P g n (.ag l) := by
 refine⟨hf,fun w vs hv ho=>?_⟩;refine((h vs hv ho).2 (fun _=>True) w vs Ωi fun i sv hi=>?_).mono fun e w'=>?_
 ·rw[List.getElem?_map,xf6]at hi
  cases e:vs[i]? with
  |none=>rw[e]at hi;cases hi
  |some v=>
   rw[e]at hi;cases hi;rw[xf5,e];exact .val _
 ·rintro⟨v,rfl,hb,hr⟩
  cases hr with
  |agg _ cs hl hr=>
  refine⟨?_,hb⟩
  congr 1
  unfold Sh.val
  congr 1
  refine Array.ext (by simpa using hl.symm) fun i h1 h2=>?_;have h3:i<l.length:=by simpa using h2
  have hi:=hr i (.val (vs.getD l[i] undef)) (by rw[List.getElem?_map,xc7 h3];rfl);have e:cs.getD i undef=cs[i]:=by rw[xf5,Array.getElem?_eq_getElem h1];rfl
  rw[e]at hi;have e2:(l.map fun i=>vs.getD i undef).toArray[i]=vs.getD l[i] undef:=by simp
  rw[e2];generalize cs[i]=z at hi;cases hi;rfl
structure XP:Type where
 fl:FT
 pl:List (Nat×Nat×Sh)
 ol:List (Nat×(List SV→Tr 6 XB→Nat→(SV→Tr 6 XB→Nat→R)→R))
 cl:List (Nat×List SV×SV)
 nl:List (Nat×List SV×(TypeId×Nat×Nat×List SV×SV))
def qdt:List (Nat×(List SV→Tr 6 XB→Nat→(SV→Tr 6 XB→Nat→R)→R))→Nat→Option (List SV→Tr 6 XB→Nat→(SV→Tr 6 XB→Nat→R)→R)
 |[],_=>none
 |(h,f) :: l,g=>Bool.rec (qdt l g) (some f) (Nat.beq g h)
def Vf:List (Nat×List SV×SV)→Nat→List (List SV×SV)
 |[],_=>[]
 |(h,x) :: l,g=>Bool.rec (Vf l g) (x :: Vf l g) (Nat.beq g h)
def Vg:List (Nat×List SV×(TypeId×Nat×Nat×List SV×SV))→Nat→List (List SV×(TypeId×Nat×Nat×List SV×SV))
 |[],_=>[]
 |(h,x) :: l,g=>Bool.rec (Vg l g) (x :: Vg l g) (Nat.beq g h)
def qbJ(P:Program):List (Nat×List SV×(TypeId×Nat×Nat×List SV×SV))→Prop
 |[]=>True
 |(h,qq_,t,k,n,m,s) :: l=>qgY P h qq_ t k n m s∧qbJ P l
def qbK(P:Program):List (Nat×(List SV→Tr 6 XB→Nat→(SV→Tr 6 XB→Nat→R)→R))→Prop
 |[]=>True
 |(h,f) :: l=>ZZ P h f∧qbK P l
def qbL(P:Program):List (Nat×List SV×SV)→Prop
 |[]=>True
 |(h,qq_,s) :: l=>qb P h qq_ s∧qbL P l
theorem Y0{P:Program}:∀{l:List (Nat×(List SV→Tr 6 XB→Nat→(SV→Tr 6 XB→Nat→R)→R))},qbK P l→∀g f,qdt l g=some f→ZZ P g f
 |[],_,g,f,h=>by cases h
 |(h0,f0) :: l,hp,g,f,h=>by
  have h:(Bool.rec (qdt l g) (some f0) (Nat.beq g h0):Option _)=some f:=h;cases e:Nat.beq g h0 with
  |true=>rw[e]at h;have h:=Option.some.inj h;cases h;rw[xa6 e];exact hp.1
  |false=>rw[e]at h;exact Y0 hp.2 g f h
theorem GZ{P:Program}:∀{l:List (Nat×List SV×SV)},qbL P l→∀g qq_ s,(qq_,s)∈Vf l g→qb P g qq_ s
 |[],_,g,qq_,s,h=>by cases h
 |(h0,as0,s0) :: l,hp,g,qq_,s,h=>by
  have h:(qq_,s)∈(Bool.rec (Vf l g) ((as0,s0) :: Vf l g) (Nat.beq g h0):List (List SV×SV)):=h;cases e:Nat.beq g h0 with
  |true=>
   rw[e]at h;rcases List.mem_cons.1 h with h|h
   ·cases h;rw[xa6 e];exact hp.1
   ·exact GZ hp.2 g qq_ s h
  |false=>rw[e]at h;exact GZ hp.2 g qq_ s h
theorem G1{P:Program}:∀{l:List (Nat×List SV×(TypeId×Nat×Nat×List SV×SV))},qbJ P l→∀g qq_ t k n m s,(qq_,(t,k,n,m,s))∈Vg l g→qgY P g qq_ t k n m s
 |[],_,g,qq_,t,k,n,m,s,h=>by cases h
 |(h0,as0,t0,k0,n0,m0,s0) :: l,hp,g,qq_,t,k,n,m,s,h=>by
  have h:(qq_,(t,k,n,m,s))∈(Bool.rec (Vg l g) ((as0,(t0,k0,n0,m0,s0)) :: Vg l g) (Nat.beq g h0):List (List SV×(TypeId×Nat×Nat×List SV×SV))):=h;cases e:Nat.beq g h0 with
  |true=>
   rw[e]at h;rcases List.mem_cons.1 h with h|h
   ·cases h;rw[xa6 e];exact hp.1
   ·exact G1 hp.2 g qq_ t k n m s h
  |false=>rw[e]at h;exact G1 hp.2 g qq_ t k n m s h
def qiP(P:Program)(t:TypeId):Bool:=
 match P.underlying t with
 |some .string=>true
 |_=>false
theorem qiQ(P:Program)(t:TypeId)(h:qiP P t=true):P.underlying t=some .string:=by
 unfold qiP at h;split at h
 ·rename_i e;exact e
 ·cases h
def jo(P:Program)(X:XP):XE:=⟨fun g=>Option.rec none (fun L=>qol P.funcs[g]? L) (zp X.fl g),qk P,qX P,jh P,qmO P,qE P,qds X.pl,qiP P,qdt X.ol,Vf X.cl,Vg X.nl⟩
structure qiR(P:Program)(X:XP):Prop where
 fl:okT P X.fl 0=true
 pl:qiO P X.pl
 ol:qbK P X.ol
 cl:qbL P X.cl
 nl:qbJ P X.nl
theorem Y1(P:Program)(X:XP)(hk:okT P X.fl 0=true):w7 P (jo P X):=fun g fn L h=>by
 have h:(Option.rec none (fun L=>qol P.funcs[g]? L) (zp X.fl g):Option (Func×FL))=some (fn,L):=h;cases e:zp X.fl g with
 |none=>rw[e]at h;cases h
 |some L0=>
  rw[e]at h;cases hf:P.funcs[g]? with
  |none=>rw[hf]at h;cases h
  |some f=>
   rw[hf]at h;have h:some (f,L0)=some (fn,L):=h;cases h;exact fnX hf (Wq hk e (by rw[xb0];exact hf))
theorem qdu(P:Program)(X:XP)(hX:qiR P X):XOk P (jo P X):=⟨fun _ _ h=>h,fun _ _ h=>h,fun _ _ h=>h,YZ hX.pl,qiQ P,Y0 hX.ol,GZ hX.cl,G1 hX.nl,fun _ _ h=>h,fun t e k z h=>by
 have h:qmO P t=some (e,k,z):=h;unfold qmO at h;split at h
 ·rename_i h1
  split at h
  ·rename_i h2
   generalize hb:(Nat.ble 1 _&&(Nat.beq _ _&&Nat.ble _ 100000000))=b at h;cases b with
   |false=>cases h
   |true=>
    have h:=Option.some.inj h;simp only[Prod.mk.injEq]at h;obtain⟨rfl,rfl,rfl⟩:=h;simp only[xe6]at hb;exact⟨⟨_,_,_,h1⟩,⟨_,_,_,h2⟩,xa7 hb.1,xa6 hb.2.1,xa7 hb.2.2⟩
  ·cases h
 ·cases h⟩
theorem w9{P:Program}(hm:P.follows .mixedOrders=true){X:XP}(hX:qiR P X){g:Nat}{fn:Func}{L:FL}(hg:P.funcs[g]? = some fn)(hL:zp X.fl g=some L)(n:Nat)(h:zZ (jn (jo P X) n fn L [] Qp)=true):qb P g [] (.val (.bool true)):=by
 obtain⟨c,hc⟩:=fnX hg (Wq hX.fl hL (by rw[xb0];exact hg));obtain⟨q,h⟩:=YY h;exact wh hm (qdu P X hX) (Y1 P X hX.fl) hc (xb6 _) (args:=[]) trivial qbI n h
theorem qw{P:Program}(hm:P.follows .mixedOrders=true){X:XP}(hX:qiR P X){g:Nat}{fn:Func}{L:FL}(hg:P.funcs[g]? = some fn)(hL:zp X.fl g=some L)(n:Nat){args:List SV}(hl:args.length≤fn.ntmps)(ho:OldL args){res:SV}(h:zZ (jn (jo P X) n fn L args (kV res))=true):qb P g args res:=by
 obtain⟨c,hc⟩:=fnX hg (Wq hX.fl hL (by rw[xb0];exact hg));obtain⟨q,h⟩:=YY h;exact wh hm (qdu P X hX) (Y1 P X hX.fl) hc hl ho qfa n h
end
end Go.Sx
end
section
namespace Go.Sx
open Go.RowKit
noncomputable section
def Zi(t:Tr 4 Nat)(l:List Nat):Nat:=List.rec (motive:=fun _=>Nat→Nat) (fun m=>m) (fun a _ ih m=>Option.rec 0 (fun x=>Nat.rec 0 (fun y _=>qh (Nat.max m (Nat.succ x)) fun m=>ih m) x) (t.find a)) l 1
def Wr(l:List (List Nat)):Nat→Tr 4 Nat→(Tr 4 Nat→Nat→R)→Nat→R:=List.rec (motive:=fun _=>Nat→Tr 4 Nat→(Tr 4 Nat→Nat→R)→Nat→R) (fun _ t f c=>f t c) (fun a _ ih i t f c=>qh (Nat.succ i) fun i1=>Option.rec (.bad 452 0) (fun x=>Nat.rec (qh (Zi t a) fun m=>Nat.rec (ih i1 t f c) (fun _ _=>qh (Nat.succ c) fun c=>zi (some m) 22 t i fun t=>ih i1 t f c) m) (fun _ _=>ih i1 t f c) x) (t.find i)) l
def qmP(l:List (List Nat))(n:Nat):Tr 4 Nat→(Tr 4 Nat→R)→R:=Nat.rec (motive:=fun _=>Tr 4 Nat→(Tr 4 Nat→R)→R) (fun _ _=>.bad 453 0) (fun _ ih t f=>Wr l 0 t (fun t c=>Nat.rec (f t) (fun _ _=>ih t f) c) 0) n
def qbM(l:List (List Nat)):Nat→Tr 4 Nat→(Tr 4 Nat→R)→R:=List.rec (motive:=fun _=>Nat→Tr 4 Nat→(Tr 4 Nat→R)→R) (fun _ t f=>f t) (fun _ _ ih i t f=>zi (some 0) 22 t i fun t=>qh (Nat.succ i) fun i=>ih i t f) l
def qfb(x:Nat):SV:=Nat.rec (.val (.int .i64 (.negSucc 0))) (fun y _=>.val (.int .i64 (.ofNat y))) x
def qdv(t:Tr 4 Nat)(l:List (List Nat)):Nat→(List SV→R)→R:=List.rec (motive:=fun _=>Nat→(List SV→R)→R) (fun _ f=>f []) (fun _ _ ih i f=>qh (Nat.succ i) fun i1=>Option.rec (.bad 454 0) (fun x=>qh x fun x=>ih i1 fun m=>f (qfb x :: m)) (t.find i)) l
def qfc(k:Value):Nat:=match k with
 |.agg c=>(match c.toList with
  |[_,_,_,_,_,.int _ (.ofNat n)]=>n
  |_=>0)
 |_=>0
def qdw(t:Tr 4 Nat)(es:List (Value×Option SV))(f:List (Value×Option SV)→R):R:=(List.rec (motive:=fun _=>(List (Value×Option SV)→R)→R) (fun f=>f []) (fun p _ ih f=>qh (qfc p.1) fun i=>Option.rec (.bad 455 0) (fun x=>Nat.rec (ih fun l=>f (p :: l)) (fun _ _=>ih f) x) (t.find i)) es) f
end
end Go.Sx
end
section
namespace Go.Sx
open Go.Proofs
noncomputable section
def cvU(i:Nat):Int:=Nat.rec 0 (fun j _=>Nat.rec 2 (fun _ _=>4) j) i
def cvB:Go.Tl.Curve:=⟨3,cvU⟩
theorem Y2:cvB.Fine:=⟨ΩB,ΩB,fun i hi=>by
 have hi:i<3:=hi
 match i,hi with
 |0,_=>decide
 |1,_=>decide
 |2,_=>decide,fun i hi=>by
 have hi:i<2:=hi
 match i,hi with
 |0,_=>decide
 |1,_=>decide⟩
def gB(k:Nat):Nat:=4*(k / 3) - Bool.rec 0 2 (Nat.beq (k % 3) 0)
theorem G2(k:Nat):cvB.L1 k=((4*(k / 3)+(if k % 3=2 then 2 else 0):Nat):Int):=by
 unfold Go.Tl.Curve.L1;show((k / 3:Nat):Int)*4+(if 0<k % 3 then cvU (k % 3 - 1)else 0)=_;have:k % 3=0∨k % 3=1∨k % 3=2:=by omega
 rcases this with h|h|h
 ·rw[h];simp;omega
 ·have e:cvU 0=0:=rfl
  rw[h];simp[e];omega
 ·have e:cvU 1=2:=rfl
  rw[h];simp[e];omega
theorem qlP(k:Nat):gB k=if k % 3=0 then 4*(k / 3) - 2 else 4*(k / 3):=by
 unfold gB;by_cases h:k % 3=0
 ·rw[if_pos h,h];rfl
 ·rw[if_neg h]
  have:Nat.beq (k % 3) 0=false:=by cases e:Nat.beq (k % 3) 0 with
   |false=>rfl
   |true=>exact absurd (xa6 e) h
  rw[this];rfl
theorem qom(k:Nat):Go.Tl.Ls (fun _=>cvB) 1 k=(gB k:Int):=by
 have h1:∀p,p≤k→(gB k:Int)≤cvB.L1 (k - p)+cvB.L1 p:=fun p hp=>by
  rw[G2,G2,qlP];split<;>split<;>split<;>omega
 have h2:Go.Tl.Ls (fun _=>cvB) 1 k≤(gB k:Int):=by
  cases k with
  |zero=>decide
  |succ k=>
   have:=Go.Tl.Ls_le (fun _=>cvB) 0 (k+1) 1 Ω;refine Int.le_trans this ?_;show cvB.L1 (k+1 - 1)+cvB.L1 1≤_;rw[G2,G2,qlP];split<;>split<;>split<;>omega
 obtain⟨p,hp,e⟩:=Go.Tl.Ls_at (fun _=>cvB) 0 k;have h3:=h1 p hp;have e:Go.Tl.Ls (fun _=>cvB) 1 k=cvB.L1 (k - p)+cvB.L1 p:=e;omega
def Y3(j _:Nat):SV:=.val (.int .i64 (.ofNat (gB j)))
def lsN:Nat×List SV×(TypeId×Nat×Nat×List SV×SV):=(178,[Go.Tl.chn 2 (fun _=>cvB),Go.Tl.I 360],(2,1,361,wi Y3 1 361,.vec 0 361 1))
theorem qmQ:qgY Tryz.prog 178 [Go.Tl.chn 2 (fun _=>cvB),Go.Tl.I 360] 2 1 361 (wi Y3 1 361) (.vec 0 361 1):=by
 refine⟨Y3,?_,jb _ _ _,by simp[FreshO],by simp[FreshB,Fresh,Y3]⟩;have h:=Go.Tl.c178 2 (fun _=>cvB) Ω Ω (fun _ _=>Y2) 360 Ω;have e:(fun j (_:Nat)=>Go.Tl.I (Go.Tl.Ls (fun _=>cvB) (2 - 1) j))=Y3:=by
  funext j _;show SV.val (.int .i64 (Go.Tl.Ls (fun _=>cvB) 1 j))=_;rw[qom];rfl
 rw[e]at h;exact h
def g1B(k:Nat):Nat:=Nat.add (4*(k / 3)) (Bool.rec 0 2 (Nat.beq (k % 3) 2))
theorem qmR(k:Nat):cvB.L1 k=(g1B k:Int):=by
 rw[G2];unfold g1B
 congr 1
 show _=4*(k / 3)+_
 congr 1
 by_cases h:k % 3=2
 ·rw[if_pos h,h];rfl
 ·rw[if_neg h]
  have:Nat.beq (k % 3) 2=false:=by cases e:Nat.beq (k % 3) 2 with
   |false=>rfl
   |true=>exact absurd (xa6 e) h
  rw[this]
def Y4(j _:Nat):SV:=.val (.int .i64 (.ofNat (g1B j)))
def l1N:Nat×List SV×(TypeId×Nat×Nat×List SV×SV):=(178,[Go.Tl.chn 1 (fun _=>cvB),Go.Tl.I 360],(2,1,361,wi Y4 1 361,.vec 0 361 1))
theorem qmS:qgY Tryz.prog 178 [Go.Tl.chn 1 (fun _=>cvB),Go.Tl.I 360] 2 1 361 (wi Y4 1 361) (.vec 0 361 1):=by
 refine⟨Y4,?_,jb _ _ _,by simp[FreshO],by simp[FreshB,Fresh,Y4]⟩;have h:=Go.Tl.c178 1 (fun _=>cvB) Ω Ω (fun _ _=>Y2) 360 Ω;have e:(fun j (_:Nat)=>Go.Tl.I (Go.Tl.Ls (fun _=>cvB) (1 - 1) j))=Y4:=by
  funext j _;show SV.val (.int .i64 (cvB.L1 j))=_;rw[qmR];rfl
 rw[e]at h;exact h
end
end Go.Sx
end
section
namespace Go.Sx
noncomputable section
def wI(n:Int):SV:=.val (.int .i64 n)
def qbN(l:List Int):Nat→Int:=List.rec (fun _=>0) (fun a _ ih i=>Nat.rec a (fun j _=>ih j) i) l
def liN(o:Bool)(n:Nat)(l:List Int):SV:=.arr o false n 1 (fun i _=>.val (.int .i64 (qbN l i)))
def liA:SV:=liN false 3 [3,4,4]
def liB:SV:=liN false 3 [0,2,4]
def ch1:SV:=.arr false false 1 1 (fun _ _=>liB)
def ch2:SV:=.arr false false 2 1 (fun _ _=>liB)
def cW:Nat×List SV×SV:=(22,[liA,ch2],.tup [wI 4,wI 0])
def cL:Nat×List SV×SV:=(23,[liA,ch1],.tup [wI 2,wI 0])
def cB:Nat×List SV×SV:=(147,[liA,ch1],.tup [liN true 3 [4,5,7],wI 0])
end
end Go.Sx
end
section
namespace Go.Sx
noncomputable section
def hJ:SV:=.agg [liN false 3 [2,3,6]]
def z3:SV:=liN false 3 [0,0,0]
def qpi(l:List (List Int)):Nat→List Int:=List.rec (fun _=>[]) (fun a _ ih i=>Nat.rec a (fun j _=>ih j) i) l
def dSt:List (List Int):=[[0,0,0],[0,1,1],[1,0,1],[1,1,0],[0,2,2],[1,0,2],[1,2,0],[0,1,2],[2,0,2],[2,1,0],[0,2,1],[2,0,1],[2,2,0],[0,3,3],[1,0,3],[1,3,0],[0,1,3],[2,0,3],[0,3,1],[2,3,0],[0,2,3],[0,3,2],[0,1,4],[2,0,4],[0,2,4],[1,0,4],[0,3,4],[0,2,5],[1,0,5],[0,3,5],[0,1,5],[2,0,5],[0,3,6],[1,0,6],[0,1,6],[2,0,6],[0,2,6]]
def dLf:List Int:=[9,7,7,8,5,6,2,6,1,1,7,1,1,1,4,1,5,1,1,1,5,1,3,1,3,4,1,2,2,1,3,1,1,1,1,1,1]
def dJ:SV:=.arr true false 37 2 (fun i j=>Nat.rec (liN true 3 (qpi dSt i)) (fun _ _=>wI (qbN dLf i)) j)
def c13J:Nat×List SV×SV:=(13,[hJ],.tup [.val (.slice none 0 0),wI 17])
def c135J:Nat×List SV×SV:=(135,[hJ,z3],.tup [dJ,wI 0])
def c138J:Nat×List SV×SV:=(138,[hJ,z3],.tup [liN true 8 [2,0,1,0,1,0,2,0],wI 0])
def qlQ:Nat×List SV×SV:=(170,[liN false 0 []],liN true 0 [])
end
end Go.Sx
end
section
namespace Go.Sx
theorem ZL{hp:List (Nat×Blk)}{m:Nat→Option Nat}{nn:Nat}{sl:Nat→Bool}:∀{l:List SV},(∀(i:Nat) sv,l[i]? = some sv→Wk hp m nn sl sv sv)→WkL hp m nn sl l l
 |[],_=>by simp[WkL]
 |a :: l,h=>by
  unfold WkL;exact⟨h 0 a rfl,ZL fun i sv e=>h (i+1) sv e⟩
theorem vD{hp:List (Nat×Blk)}{m:Nat→Option Nat}{nn n0:Nat}{sl:Nat→Bool}(hm:∀i,i<n0→m i=some i)(hn:n0≤nn){r:Nat→Option Nat}{G:Bool→Nat→Prop}{w:World}{sv:SV}{v:Value}(h:Rep r (· < n0) G w sv v):Wk hp m nn sl sv sv:=by
 have key:∀id,id<n0→id<nn∧m id=some id:=fun id h=>⟨xa9 h hn,hm id h⟩
 induction h with
 |top v=>simp[Wk]
 |val v=>simp[Wk]
 |agg l cs hl h ih=>unfold Wk;exact ZL ih
 |tup l cs hl h ih=>unfold Wk;exact ZL ih
 |fn f l k cs ds hl hm' h h' ih ih'=>unfold Wk;exact⟨rfl,ZL ih,ZL ih'⟩
 |ptr id off b hN hr=>unfold Wk;exact⟨(key id hN).1,(key id hN).2,rfl⟩
 |elt id k i j b hN hr=>unfold Wk;exact⟨(key id hN).1,(key id hN).2,rfl,rfl,rfl⟩
 |ref o n row b off f hG hc h ih=>unfold Wk;exact⟨fun h=>h,xa5 _,ih⟩
 |arrNil o full k row a cap hf=>unfold Wk;exact⟨fun h=>h,fun h=>h,rfl,rfl,fun i j hi=>by omega⟩
 |arr o full n k row b off cap f hG hf hcap hc h ih=>unfold Wk;exact⟨fun h=>h,fun h=>h,rfl,rfl,ih⟩
 |vecNil id k hN hr=>unfold Wk;exact⟨(key id hN).1,(key id hN).2,rfl,rfl⟩
 |vec id n k b cap cs t hN hr=>unfold Wk;exact⟨(key id hN).1,(key id hN).2,rfl,rfl⟩
 |mp id b hN hr=>unfold Wk;exact key id hN
 |asl id off n k b cap hN hr hcap=>unfold Wk;exact⟨(key id hN).1,(key id hN).2,rfl,rfl,rfl⟩
 |queNil id off k a hN=>unfold Wk;exact⟨(key id hN).1,(key id hN).2,rfl,rfl,rfl⟩
 |que id off n k b cap cs t hN hr=>unfold Wk;exact⟨(key id hN).1,(key id hN).2,rfl,rfl,rfl⟩
 |cutNil id k hN hr=>unfold Wk;exact⟨(key id hN).1,(key id hN).2,rfl,rfl⟩
 |cut id n k b hN hr=>unfold Wk;exact⟨(key id hN).1,(key id hN).2,rfl,rfl⟩
 |cmp o fit dom get b es clock hG hb hmo h ih=>
  unfold Wk;refine⟨fun h=>h,rfl,rfl,fun k hk=>?_⟩;obtain⟨e,he,rfl⟩:=hmo.has k hk;exact ih e he
 |yld id b hN hr=>unfold Wk;exact key id hN
theorem qbO{hp:List (Nat×Blk)}{m:Nat→Option Nat}{nn n0:Nat}{sl:Nat→Bool}(hm:∀i,i<n0→m i=some i)(hn:n0≤nn){r:Nat→Option Nat}{G:Bool→Nat→Prop}{w:World}{ob:Option Nat}{x:Blk}(h:BlkRep r (· < n0) G w ob x):WkB hp m nn sl x x:=by
 cases h with
 |cells t l b cs hb hl h=>exact⟨rfl,ZL fun i sv e=>vD hm hn (h i sv e)⟩
 |none t k row=>exact⟨rfl,rfl,xa5 _,fun i j hi=>by omega⟩
 |rows t k n row b cs hb hl h=>exact⟨rfl,rfl,xa5 _,fun i j hi hj=>vD hm hn (h i j hi hj)⟩
 |map fit dom get b es clock hb hmo ht h=>
  refine⟨rfl,rfl,fun k hk=>?_⟩;obtain⟨e,he,rfl⟩:=hmo.has k hk;exact vD hm hn (h e he)
 |mapS fit dom get stamp b es clock hb hmo ht hst h=>
  refine⟨rfl,rfl,rfl,rfl,fun k hk=>?_⟩;obtain⟨e,he,rfl⟩:=hmo.has k hk;exact vD hm hn (h e he)
 |iter mid since seen last b m' hN hr hb=>exact⟨xa9 hN hn,hm _ hN,rfl,rfl,rfl⟩
 |loop L s b hb=>exact⟨rfl,rfl⟩
theorem G3{P:Program}{O:Ctx}{f:FuncId}{args:List SV}{st:St}{K0 K:St→SV→Prop}(h:ki P O f args st K0)
  (hk:∀st' sv,(∀hp bid n,st.nid≤n→∀id y,blk st.hp id=some y→WkB hp (ren [(st.nid,some bid)]) n (fun _=>false) y y)→K0 st' sv→
   ∃bid hp2 sv2 n,st'.fr=st.fr∧st.nid≤bid∧(∀id x,blk hp2 id=some x→((id<st.nid∧blk st'.hp id=some x)∨(id=st.nid∧blk st'.hp bid=some x∧st.nid+1≤n))∧WkB st'.hp (ren [(st.nid,some bid)]) n (fun _=>false) x x)∧
    Wk st'.hp (ren [(st.nid,some bid)]) n (fun _=>false) sv2 sv∧st.nid≤n∧K ⟨st.fr,hp2,n⟩ sv2):ki P O f args st K:=fun base okc ns r outs a w vs h1 h2 h3=>by
 obtain⟨e1,e2⟩:=h base okc ns r outs a w vs h1 h2 h3;have rn:∀(bid i:Nat),i<st.nid→ren [(st.nid,some bid)] i=some i:=fun bid i hi=>by simp only[ren];rw[if_neg Ω]
 refine⟨e1,e2.mono fun e w' ⟨v,st',r',res,g1,g2,g3,g4,g5⟩=>?_⟩;obtain⟨bid,hp2,sv2,n,k1,k2,k3,k6,k7,k8⟩:=hk _ _ (fun hp bid n hn id y hy=>qbO (rn bid) hn (h1.sat.rep id y hy (h1.keys id y hy))) g2;have rn:=rn bid;have rn0:ren [(st.nid,some bid)] st.nid=some bid:=by simp[ren]
 have W:=W7 (st':=⟨st.fr,hp2,n⟩) (ren [(st.nid,some bid)]) (fun _=>false) (fun i=>by rw[k1];exact vD rn k7 (h1.fr i)) (fun id x hx=>by
  obtain⟨⟨hlt,hx⟩|⟨rfl,hx,hn⟩,hw⟩:=k3 id x hx
  ·rw[rn id hlt]
   refine⟨(by show id<n;omega),rfl,?_⟩;rw[hx];exact hw
  ·rw[rn0]
   refine⟨(by show st.nid<n;omega),rfl,?_⟩;rw[hx];exact hw) (fun id x id' x' y hx hx' hy hy'=>by
  obtain⟨⟨hlt,hx⟩|⟨rfl,hx,hn⟩,hw⟩:=k3 id x hx<;>obtain⟨⟨hlt',hx'⟩|⟨rfl,hx',hn'⟩,hw'⟩:=k3 id' x' hx'
  ·rw[rn id hlt]at hy;rw[rn id' hlt']at hy';cases hy;cases hy';rfl
  ·rw[rn0]at hy';rw[rn id hlt]at hy;cases hy;cases hy';omega
  ·rw[rn0]at hy;rw[rn id' hlt']at hy';cases hy;cases hy';omega
  ·rfl) (xc1 h1.lo k7) (fun id hid=>rn id (xa9 hid h1.lo)) g4
 exact⟨v,_,_,sv2,g1,k8,k7,W.1,W.2 _ _ _ k6 g5⟩
end Go.Sx
end
