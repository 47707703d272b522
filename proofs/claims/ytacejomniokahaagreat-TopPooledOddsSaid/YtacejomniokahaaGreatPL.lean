/- A part of the proof. -/
import Derived.Test.YtacejomniokahaaGreatPK
import Derived.Test.YtacejomniokahaaGreatPE
import Derived.Test.YtacejomniokahaaGreatPG
import Derived.Test.YtacejomniokahaaGreatPF
open Nat renaming reduceMul→xa0,reduceAdd→xa1,reduceEqDiff→xa2,reduceLT→xa3,reduceLeDiff→xa4,le_refl→xa5,lt_irrefl→xb4,lt_succ_self→xb5,zero_le→xb6,sub_self→xb8,le_succ→xc4
open List renaming getD_eq_getElem?_getD→xc6,getElem?_eq_getElem→xc7,getElem?_append_right→xd0,mem_cons_self→xd5,length_take→xd9,mem_singleton→xe0,getElem?_range→xe3,length_cons→xe4,length_set→xe5
open Option renaming map_some→xg1
set_option linter.unusedVariables false
set_option linter.unusedSimpArgs false
set_option linter.defProp false
set_option maxRecDepth 1000000
set_option maxHeartbeats 16000000
section
namespace Go.Tn
open Go.Proofs
open Go.Sx
theorem qps(n nb:Nat)(f q:Nat→Int)(fav:Bool)(c d st:Int)(hn1:2≤n)(hn:n≤8)(hnb:nb≤100)(hf:∀i,i<nb→0≤f i∧f i<n)(hq:∀i,i<nb→1≤q i∧q i≤1000)(hc:0≤c∧c≤1000000)(hd:0≤d∧d≤500)(hst:1≤st∧st≤100)(G:List (List Nat))(hG:G.length≤8)(hG0:∀g,g∈G→g.length≤8)(hG1:∀g,g∈G→g≠[]∧g.Pairwise (· < ·))(hG2:G.flatten.Nodup)(hG3:∀x,x∈G.flatten↔x<n)(D:List Nat)(hD:D=dvl f q nb (fun i=>(G.getD 0 []).getD i 0) (G.getD 0 []).length)(hD0:D=[]):qf Tryz.prog 34 [bkS n nb f (fun _=>-1) q fav c d st,.arr false false G.length 1 (fun i _=>.arr false false (G.getD i []).length 1 (fun j _=>.val (.int .i64 ((G.getD i []).getD j 0:Nat))))] (.tup [.val (.slice none 0 0),I 19]):=by
 refine qg Tryz.func34 rfl Ωc follows Ωc _ _ (by rw[Tryz.ntmps34];simp) (by simp[OldL,Old,QV,ints,I,bkS,zg]) ?_;have NB:True:=trivial;have hr0:True:=trivial;have hne:1≤G.length:=by
  cases hg:G with
  |nil=>have:=(hG3 0).2 Ω;rw[hg]at this;cases this
  |cons a l=>simp
 have hgm:G.getD 0 []∈G:=by
  rw[xc6,xc7 hne];exact List.getElem_mem _
 have hg1:=hG1 _ hgm;have hg8:=hG0 _ hgm;have hgp:1≤(G.getD 0 []).length:=List.length_pos_iff.2 hg1.1;unfold bkS I;(repeat' (first|refine sD ?_ ?_<;>intro _|refine aAg ?_|(simp -dsimp only[↓RP,RQ,xa0,reduceIte,reduceCtorEq,xa1,xa2,xa3,xa4,TYQ,TYP,NB,QS,hr0,TYR,TYS,TYU,QT,QN])))
 all_goals try exact Ωb
 refine jd Ωx (e92 n nb f q fav c d st hn1 hn hnb hf hq hc hd hst G hG hG0 hG1 hG2 hG3 _ _ ?hu) fun hp' nid' res ⟨tid,mid,q1,q2,q3,q4,q5⟩=>?_
 case hu=>
  intro q v hv;simp only[blk]at hv;(repeat' split at hv)<;>first|omega|cases hv
 subst q4 q5;(repeat' (first|refine sD ?_ ?_<;>intro _|refine aAg ?_|(simp -dsimp only[↓RP,RQ,xa0,reduceIte,reduceCtorEq,xa1,xa2,xa3,xa4,TYQ,TYP,NB,QS,hr0,TYR,TYS,TYU,QT,QN])))
 all_goals try exact Ωb
 refine jd Ωx (e99 n nb f q fav c d st hn1 hn hnb hf hq hc hd hst G (G.getD 0 []) rfl hne hG hgp hg8 hg1.2 tid mid _ _ ?hu2 ?ht ?hm) fun hp2 nid2 res ⟨p1,ov,p2,p3,p4⟩=>?_
 case hu2=>
  intro q v hv;simp only[blk]at hv;(repeat' split at hv)<;>first|omega|cases hv
 case ht=>omega
 case hm=>omega
 subst p3 p4;rw[←hD]at p2 ⊢;rcases ov with _|⟨did,row⟩
 ·subst hD0
  dsimp only[dvX,dvS];clear NB;have NB:=(⟨nmA (Ω:tid<nid2),nmA (Ω:mid<nid2),nmE (Ω:tid≠mid)⟩:_∧_∧_);(repeat' (first|refine sD ?_ ?_<;>intro _|refine aAg ?_|(simp -dsimp only[↓RP,RQ,xa0,reduceIte,reduceCtorEq,xa1,xa2,xa3,xa4,TYQ,TYP,NB,QS,hr0,TYR,TYS,TYU,QT,QN])))
  all_goals try exact Ωb
 ·exact absurd hD0 p2.1
theorem qpt(n nb:Nat)(f q:Nat→Int)(fav:Bool)(c d st:Int)(hn1:2≤n)(hn:n≤8)(hnb:nb≤100)(hf:∀i,i<nb→0≤f i∧f i<n)(hq:∀i,i<nb→1≤q i∧q i≤1000)(hc:0≤c∧c≤1000000)(hd:0≤d∧d≤500)(hst:1≤st∧st≤100)(G:List (List Nat))(hG:G.length≤8)(hG0:∀g,g∈G→g.length≤8)(hG1:∀g,g∈G→g≠[]∧g.Pairwise (· < ·))(hG2:G.flatten.Nodup)(hG3:∀x,x∈G.flatten↔x<n)(D:List Nat)(hD:D=dvl f q nb (fun i=>(G.getD 0 []).getD i 0) (G.getD 0 []).length)(hD0:D≠[]):qf Tryz.prog 34 [bkS n nb f (fun _=>-1) q fav c d st,.arr false false G.length 1 (fun i _=>.arr false false (G.getD i []).length 1 (fun j _=>.val (.int .i64 ((G.getD i []).getD j 0:Nat))))] (.tup [.arr true false D.length 3 (fun i j=>[.val (.int .i64 (D.getD i 0:Nat)),.val (.int .i64 (-1)),.val (.int .i64 (pnF f q c d st nb D.length (D.getD i 0)))].getD j .top),I 0]):=by
 refine qg Tryz.func34 rfl Ωc follows Ωc _ _ (by rw[Tryz.ntmps34];simp) (by simp[OldL,Old,QV,ints,I,bkS,zg]) ?_;have NB:True:=trivial;have hr0:True:=trivial;have hne:1≤G.length:=by
  cases hg:G with
  |nil=>have:=(hG3 0).2 Ω;rw[hg]at this;cases this
  |cons a l=>simp
 have hgm:G.getD 0 []∈G:=by
  rw[xc6,xc7 hne];exact List.getElem_mem _
 have hg1:=hG1 _ hgm;have hg8:=hG0 _ hgm;have hgp:1≤(G.getD 0 []).length:=List.length_pos_iff.2 hg1.1;unfold bkS I;(repeat' (first|refine sD ?_ ?_<;>intro _|refine aAg ?_|(simp -dsimp only[↓RP,RQ,xa0,reduceIte,reduceCtorEq,xa1,xa2,xa3,xa4,TYQ,TYP,NB,QS,hr0,TYR,TYS,TYU,QT,QN])))
 all_goals try exact Ωb
 refine jd Ωx (e92 n nb f q fav c d st hn1 hn hnb hf hq hc hd hst G hG hG0 hG1 hG2 hG3 _ _ ?hu) fun hp' nid' res ⟨tid,mid,q1,q2,q3,q4,q5⟩=>?_
 case hu=>
  intro q v hv;simp only[blk]at hv;(repeat' split at hv)<;>first|omega|cases hv
 subst q4 q5;(repeat' (first|refine sD ?_ ?_<;>intro _|refine aAg ?_|(simp -dsimp only[↓RP,RQ,xa0,reduceIte,reduceCtorEq,xa1,xa2,xa3,xa4,TYQ,TYP,NB,QS,hr0,TYR,TYS,TYU,QT,QN])))
 all_goals try exact Ωb
 refine jd Ωx (e99 n nb f q fav c d st hn1 hn hnb hf hq hc hd hst G (G.getD 0 []) rfl hne hG hgp hg8 hg1.2 tid mid _ _ ?hu2 ?ht ?hm) fun hp2 nid2 res ⟨p1,ov,p2,p3,p4⟩=>?_
 case hu2=>
  intro q v hv;simp only[blk]at hv;(repeat' split at hv)<;>first|omega|cases hv
 case ht=>omega
 case hm=>omega
 subst p3 p4;rw[←hD]at p2 ⊢;rcases ov with _|⟨did,row⟩
 ·exact absurd p2 hD0
 ·obtain⟨ho1,ho2,ho3,ho4⟩:=p2
  dsimp only[dvX,dvS];have hDl:1≤D.length:=List.length_pos_iff.2 hD0;have hD8:D.length≤8:=by
   have:=Kg f q nb (fun i=>(G.getD 0 []).getD i 0) (G.getD 0 []).length;rw[←hD]at this;omega
  clear NB;have NB:=(⟨nmA (Ω:tid<nid2),nmA (Ω:mid<nid2),nmA (Ω:did<nid2),nmE (Ω:tid≠mid),nmE (Ω:did≠tid),nmE (Ω:did≠mid)⟩:_∧_∧_∧_∧_∧_);have dz:=decide_eq_false (Ω:¬((D.length:Nat):Int)=0);(repeat' (first|refine sD ?_ ?_<;>intro _|refine aAg ?_|(simp -dsimp only[↓RP,RQ,xa0,reduceIte,reduceCtorEq,xa1,xa2,xa3,xa4,dz,TYQ,TYP,NB,QS,hr0,TYR,TYS,TYU,QT,QN])))
  all_goals try exact Ωb
  intro i j hi hj;obtain⟨r0,r1,r2⟩:=ho4 i hi;rcases(Ω:j=0∨j=1∨j=2)with rfl|rfl|rfl
  ·rw[r0];simp[Go.Sx.Sub]
  ·rw[r1];simp[Go.Sx.Sub]
  ·rw[r2];simp[Go.Sx.Sub]
end Go.Tn
end
section
namespace Go.Tv
open Go.Proofs
open Go.Sx
theorem follows:Tryz.prog.follows .mixedOrders=true:=by kernel_rfl
theorem TYv:True∧qn Tryz.prog 2=some ⟨false,1,some [.int .i64 0],.int .i64⟩∧qn Tryz.prog 3=some ⟨false,1,some [.int .i64 0],.int .i64⟩∧qn Tryz.prog 4=some ⟨false,1,some [.bool false],.bool⟩∧qn Tryz.prog 28=some ⟨false,1,some [.int .i64 0],.int .i64⟩∧qn Tryz.prog 32=some ⟨false,1,some [.slice none 0 0],.slice 2 1⟩∧qn Tryz.prog 68=some ⟨true,2,some [.int .i64 0,.int .i64 0],.struct [(0,1,some false),(1,1,some false)]⟩∧qB Tryz.prog 68=some [(0,1),(1,1)]∧z9 Tryz.prog 68=some [.i .i64,.i .i64]∧qn Tryz.prog 71=some ⟨false,1,some [.slice none 0 0],.slice 99 2⟩∧qn Tryz.prog 73=some ⟨true,2,some [.slice none 0 0,.int .i64 0],.struct [(0,1,some false),(1,1,some false)]⟩∧qB Tryz.prog 73=some [(0,1),(1,1)]∧qn Tryz.prog 99=some ⟨true,2,some [.int .i64 0,.int .i64 0],.struct [(0,1,some false),(1,1,some false)]⟩∧qB Tryz.prog 99=some [(0,1),(1,1)]∧z9 Tryz.prog 99=some [.i .i64,.i .i64]∧qF Tryz.prog 2=8:=⟨trivial,Ωc,Ωc,Ωc,Ωc,Ωc,Ωc,Ωc,Ωc,Ωc,Ωc,Ωc,Ωc,Ωc,Ωc,Ωc⟩
structure Fr where
 n:Int
 d:Int
theorem qmu{k a b:Int}(hk:0<k)(h:k*a<k*b):a<b:=Int.lt_of_mul_lt_mul_left h Ω
def red(a:Fr):Fr:=⟨a.n.tdiv (Int.gcd a.n a.d),a.d.tdiv (Int.gcd a.n a.d)⟩
theorem red_spec{a:Fr}(h:0<a.d):0<(red a).d∧Int.gcd (red a).n (red a).d=1∧(red a).n*a.d=a.n*(red a).d∧(red a).d≤a.d:=by
 have hg:0<Int.gcd a.n a.d:=Int.gcd_pos_of_ne_zero_right _ Ω;obtain⟨x,hx⟩:=Int.gcd_dvd_left (a:=a.n) (b:=a.d);obtain⟨y,hy⟩:=Int.gcd_dvd_right (a:=a.n) (b:=a.d);unfold red;generalize hG:Int.gcd a.n a.d=g at *;have hg':(g:Int)≠0:=by omega
 have e1:a.n.tdiv g=x:=by rw[hx];exact Int.mul_tdiv_cancel_left _ hg'
 have e2:a.d.tdiv g=y:=by rw[hy];exact Int.mul_tdiv_cancel_left _ hg'
 simp only[e1,e2];have hy0:0<y:=by
  refine qmu (k:=(g:Int)) Ω ?_;rw[←hy];omega
 refine⟨hy0,?_,?_,?_⟩
 ·rw[hx,hy,Int.gcd_mul_left]at hG
  have h3:g*Int.gcd x y=g*1:=by simpa using hG
  exact Nat.eq_of_mul_eq_mul_left hg h3
 ·rw[hx,hy];grind
 ·rw[hy]
  have:1*y≤(g:Int)*y:=Int.mul_le_mul_of_nonneg_right Ω Ω;omega
def I(n:Int):SV:=.val (.int .i64 n)
def B(b:Bool):SV:=.val (.bool b)
def ints(n:Nat)(u:Nat→Int):SV:=.arr false false n 1 (fun i _=>.val (.int .i64 (u i)))
theorem gI{a b:Int}(h:a=b):SV.val (Value.int IntKind.i64 a)=SV.val (Value.int IntKind.i64 b):=by rw[h]
theorem vV{a b:Bool}(h:a=b):SV.val (Value.bool a)=SV.val (Value.bool b):=by rw[h]
def fsv(a:Fr):SV:=.agg [I a.n,I a.d]
def zx(b:Nat→Bool)(i:Nat):Nat→Int
 |0=>-1
 |k+1=>if b i=true then i else zx b (i+1) k
theorem w8(b:Nat→Bool):∀(k i:Nat),zx b i k<0↔∀j,i≤j→j<i+k→b j=false
 |0,i=>by simp[zx];intro j h1 h2;omega
 |k+1,i=>by
  simp only[zx];split
  ·rename_i h
   constructor
   ·intro h';omega
   ·intro h';have:=h' i Ω Ω;rw[h]at this;cases this
  ·rename_i h
   rw[w8 b k (i+1)];constructor
   ·intro h' j h1 h2
    by_cases e:j=i
    ·subst e;simpa using h
    ·exact h' j Ω Ω
   ·intro h' j h1 h2;exact h' j Ω Ω
def j6(lo hi:Int):SV:=.fn (.func 203) [] [.ref false 1 (fun _=>I lo),.ref false 1 (fun _=>I hi)]
theorem qpu(n lo hi:Int):qf Tryz.prog 203 [I n,.ref false 1 (fun _=>I lo),.ref false 1 (fun _=>I hi)] (B (decide (n<lo) || decide (hi<n))):=by
 refine qg Tryz.func203 rfl Ωc follows Ωc _ _ (by rw[Tryz.ntmps203];simp) Ω4 ?_;unfold I B;(repeat' (first|refine sD ?_ ?_<;>intro _|refine aA ?_|simp -dsimp only[↓RP,RQ,implies_true,forall_const,xa0,reduceIte,reduceCtorEq,xa1,xa2,xa3,xa4,TYv,Tryz.results203]))
 all_goals (refine vV ?_;rw[Bool.eq_iff_iff];simp;omega)
theorem qlP(m:Nat)(u:Nat→Int)(lo hi':Int)(hm:m≤1000000):qf Tryz.prog 304 [ints m u,j6 lo hi'] (I (zx (fun i=>decide (u i<lo) || decide (hi'<u i)) 0 m)):=by
 refine qg Tryz.func304 rfl Ωc follows Ωc _ _ (by rw[Tryz.ntmps304];simp) (by simp[OldL,Old,ints,j6,I]) ?_;unfold ints j6 I;(simp -dsimp only[↓RP,RQ,implies_true,forall_const,xa0,reduceIte,reduceCtorEq,xa1,xa2,xa3,xa4,TYv,Tryz.results304]);refine qo (fun i=>i≤m∧zx (fun i=>decide (u i<lo) || decide (hi'<u i)) 0 m=zx (fun i=>decide (u i<lo) || decide (hi'<u i)) i (m - i)) (fun i=>⟨[(0,.arr false false m 1 (fun i _=>.val (.int .i64 (u i)))),(1,.fn (.func 203) [] [.ref false 1 (fun _=>.val (.int .i64 lo)),.ref false 1 (fun _=>.val (.int .i64 hi'))]),(7,.val (.int .i64 m)),(8,.val (.int .i64 i))],[],0⟩) (fun i=>m - i) 0 ⟨xb6 _,rfl⟩ (weak [] [] ?_ ?_ ?_) fun i hi=>?_
 ·(simp -dsimp only[↓RP,RQ,implies_true,forall_const,xa0,reduceIte,reduceCtorEq,xa1,xa2,xa3,xa4]);simp
 ·(simp -dsimp only[↓RP,RQ,implies_true,forall_const,xa0,reduceIte,reduceCtorEq,xa1,xa2,xa3,xa4])
 ·(simp -dsimp only[↓RP,RQ,implies_true,forall_const,xa0,reduceIte,reduceCtorEq,xa1,xa2,xa3,xa4])
 obtain⟨hi,he⟩:=hi;have e1:∀k,m - i=k+1→zx (fun i=>decide (u i<lo) || decide (hi'<u i)) i (m - i)=if (decide (u i<lo) || decide (hi'<u i))=true then(i:Int)else zx (fun i=>decide (u i<lo) || decide (hi'<u i)) (i+1) k:=fun k hk=>by rw[hk];rfl
 (repeat' (first|refine sD ?_ ?_<;>intro _|refine aA ?_|simp -dsimp only[↓RP,RQ,implies_true,forall_const,xa0,reduceIte,reduceCtorEq,xa1,xa2,xa3,xa4,TYv,Tryz.results304]))
 ·rename_i hlt
  have e2:=e1 (m -(i+1)) Ω;refine qm (qpu (u i) lo hi') (by(simp -dsimp only[↓RP,RQ,implies_true,forall_const,xa0,reduceIte,reduceCtorEq,xa1,xa2,xa3,xa4,I]);simp) Ωi ?_;(repeat' (first|refine sD ?_ ?_<;>intro _|refine aA ?_|simp -dsimp only[↓RP,RQ,implies_true,forall_const,xa0,reduceIte,reduceCtorEq,xa1,xa2,xa3,xa4,B,TYv,Tryz.results304]))
  ·rename_i h
   refine gI ?_;rw[he,e2,if_pos (by simp[h])]
  ·rename_i h1 h2
   refine gI ?_;rw[he,e2,if_pos (by simp[h2])]
  ·rename_i h1 h2
   refine⟨i+1,⟨Ω,?_⟩,Ω,weak [] [] ?_ ?_ ?_⟩
   ·rw[he,e2,if_neg Ωl]
   ·(simp -dsimp only[↓RP,RQ,implies_true,forall_const,xa0,reduceIte,reduceCtorEq,xa1,xa2,xa3,xa4]);simp
   ·(simp -dsimp only[↓RP,RQ,implies_true,forall_const,xa0,reduceIte,reduceCtorEq,xa1,xa2,xa3,xa4])
   ·(simp -dsimp only[↓RP,RQ,implies_true,forall_const,xa0,reduceIte,reduceCtorEq,xa1,xa2,xa3,xa4])
 ·rename_i hlt
  refine gI ?_;have:m - i=0:=by omega
  rw[he,this];rfl
def vR(u:Nat→Int)(m:Nat)(lo hi:Int):Prop:=∀i,i<m→lo≤u i∧u i≤hi
instance(u:Nat→Int)(m:Nat)(lo hi:Int):Decidable (vR u m lo hi):=by unfold vR;infer_instance
theorem Zk(u:Nat→Int)(m:Nat)(lo hi:Int):zx (fun i=>decide (u i<lo) || decide (hi<u i)) 0 m<0↔vR u m lo hi:=by
 rw[w8];constructor
 ·intro h i hi'
  have:=h i Ω Ω;simp at this;omega
 ·intro h j _ hj
  have:=h j Ω;simp;omega
theorem qlQ(m:Nat)(u:Nat→Int)(lo hi:Int)(hm:m≤1000000):qf Tryz.prog 202 [ints m u,j6 lo hi] (B (!decide (vR u m lo hi))):=by
 refine qg Tryz.func202 rfl Ωc follows Ωc _ _ (by rw[Tryz.ntmps202];simp) (by simp[OldL,Old,ints,j6,I]) ?_;unfold ints j6 I B;(simp -dsimp only[↓RP,RQ,implies_true,forall_const,xa0,reduceIte,reduceCtorEq,xa1,xa2,xa3,xa4,TYv,Tryz.results202]);refine qm (qlP m u lo hi hm) (by(simp -dsimp only[↓RP,RQ,implies_true,forall_const,xa0,reduceIte,reduceCtorEq,xa1,xa2,xa3,xa4,ints,j6,I]);simp) Ωn ?_;(repeat' (first|refine sD ?_ ?_<;>intro _|refine aA ?_|simp -dsimp only[↓RP,RQ,implies_true,forall_const,xa0,reduceIte,reduceCtorEq,xa1,xa2,xa3,xa4,I,TYv,Tryz.results202]));refine vV ?_;rw[Bool.eq_iff_iff];simp[←Zk]
theorem qnR(m:Nat)(u:Nat→Int)(lo hi:Int)(hm:m≤1000000):qf Tryz.prog 100 [I lo,I hi,ints m u] (B (decide (vR u m lo hi))):=by
 refine qg Tryz.func100 rfl Ωc follows Ωc _ _ (by rw[Tryz.ntmps100];simp) (by simp[OldL,Old,ints,I]) ?_;unfold ints I B;(simp -dsimp only[↓RP,RQ,implies_true,forall_const,xa0,reduceIte,reduceCtorEq,xa1,xa2,xa3,xa4,TYv,Tryz.results100]);refine qm (qlQ m u lo hi hm) (by(simp -dsimp only[↓RP,RQ,implies_true,forall_const,xa0,reduceIte,reduceCtorEq,xa1,xa2,xa3,xa4,ints,j6,I]);simp) Ωi ?_;(repeat' (first|refine sD ?_ ?_<;>intro _|refine aA ?_|simp -dsimp only[↓RP,RQ,implies_true,forall_const,xa0,reduceIte,reduceCtorEq,xa1,xa2,xa3,xa4,B,TYv,Tryz.results100]));simp
theorem qil(x lo hi:Int):qf Tryz.prog 100 [I lo,I hi,ints 1 (fun _=>x)] (B (decide (lo≤x∧x≤hi))):=by
 have:=qnR 1 (fun _=>x) lo hi Ω;have e:vR (fun _=>x) 1 lo hi↔(lo≤x∧x≤hi):=⟨fun h=>h 0 Ω,fun h i _=>h⟩;simpa[e]using this
theorem qmv(x y lo hi:Int):qf Tryz.prog 100 [I lo,I hi,ints 2 (fun i=>if i=0 then x else y)] (B (decide ((lo≤x∧x≤hi)∧(lo≤y∧y≤hi)))):=by
 have:=qnR 2 (fun i=>if i=0 then x else y) lo hi Ω;have e:vR (fun i=>if i=0 then x else y) 2 lo hi↔((lo≤x∧x≤hi)∧(lo≤y∧y≤hi)):=⟨fun h=>⟨by have:=h 0 Ω;simpa using this,by have:=h 1 Ω;simpa using this⟩,fun h i hi=>by
  by_cases e:i=0
  ·subst e;simpa using h.1
  ·simpa[e]using h.2⟩
 simpa[e]using this
theorem qnc(x y:Int):∀(i:Nat),i<2→[SV.val (.int .i64 x),SV.val (.int .i64 y)][i]?.getD SV.top=SV.val (.int .i64 (if i=0 then x else y))
 |0,_=>rfl
 |1,_=>rfl
theorem tmN(k m:Nat):(k:Int).tmod (m:Int)=((k % m:Nat):Int):=rfl
theorem qpv(a b:Nat)(ha:a≤4611686018427387904)(hb:b≤4611686018427387904):qf Tryz.prog 105 [I a,I b] (I (Nat.gcd a b)):=by
 refine qg Tryz.func105 rfl Ωc follows Ωc _ _ (by rw[Tryz.ntmps105];simp) Ω4 ?_;unfold I;(repeat' (first|refine sD ?_ ?_<;>intro _|refine aA ?_|(simp -dsimp only[↓RP,RQ,implies_true,forall_const,xa0,reduceIte,reduceCtorEq,xa1,xa2,xa3,xa4,fsv,B,I,TYv,RZ,eq_self,Tryz.results105])));refine qo (fun(q:Nat×Nat)=>Nat.gcd q.1 q.2=Nat.gcd a b∧q.1≤4611686018427387904∧q.2≤4611686018427387904) (fun q=>⟨[(0,.val (.int .i64 q.1)),(1,.val (.int .i64 q.2))],[],0⟩) (fun q=>q.2) (a,b) ⟨rfl,ha,hb⟩ (weak [] [] ?_ ?_ ?_) fun q hq=>?_
 ·(simp -dsimp only[↓RP,RQ,implies_true,forall_const,xa0,reduceIte,reduceCtorEq,xa1,xa2,xa3,xa4]);all_goals simp
 ·(simp -dsimp only[↓RP,RQ,implies_true,forall_const,xa0,reduceIte,reduceCtorEq,xa1,xa2,xa3,xa4])
 ·(simp -dsimp only[↓RP,RQ,implies_true,forall_const,xa0,reduceIte,reduceCtorEq,xa1,xa2,xa3,xa4])
 obtain⟨x,y⟩:=q;obtain⟨hg,hx,hy⟩:=hq;have hg:Nat.gcd x y=Nat.gcd a b:=hg;have hx:x≤4611686018427387904:=hx;have hy:y≤4611686018427387904:=hy;by_cases h0:0<y
 ·have hm:=tmN x y
  have hlt:=Nat.mod_lt x h0;have hg2:Nat.gcd y (x % y)=Nat.gcd a b:=by rw[Nat.gcd_comm,←Nat.gcd_rec,Nat.gcd_comm,hg]
  generalize x % y=z at hm hlt hg2;(repeat' (first|refine sD ?_ ?_<;>intro _|refine aA ?_|(simp -dsimp only[↓RP,RQ,implies_true,forall_const,xa0,reduceIte,reduceCtorEq,xa1,xa2,xa3,xa4,hm,fsv,B,I,TYv,RZ,eq_self,Tryz.results105])))
  all_goals first|(exfalso;omega)|skip
  refine⟨(y,z),⟨hg2,hy,(by show z≤4611686018427387904;omega)⟩,hlt,weak [] [] ?_ ?_ ?_⟩
  ·(simp -dsimp only[↓RP,RQ,implies_true,forall_const,xa0,reduceIte,reduceCtorEq,xa1,xa2,xa3,xa4]);all_goals simp
  ·(simp -dsimp only[↓RP,RQ,implies_true,forall_const,xa0,reduceIte,reduceCtorEq,xa1,xa2,xa3,xa4])
  ·(simp -dsimp only[↓RP,RQ,implies_true,forall_const,xa0,reduceIte,reduceCtorEq,xa1,xa2,xa3,xa4])
 ·have hy0:y=0:=by omega
  subst hy0;rw[Nat.gcd_zero_right]at hg;rw[←hg];(repeat' (first|refine sD ?_ ?_<;>intro _|refine aA ?_|(simp -dsimp only[↓RP,RQ,implies_true,forall_const,xa0,reduceIte,reduceCtorEq,xa1,xa2,xa3,xa4,fsv,B,I,TYv,RZ,eq_self,Tryz.results105])))
  all_goals first|(exfalso;omega)|rfl|skip
theorem qpw(a:Fr)(hd:0<a.d)(hd2:a.d≤4611686018427387904)(h1 : -4611686018427387904≤a.n)(h2:a.n≤4611686018427387904):qf Tryz.prog 200 [I a.n,I a.d] (fsv (red a)):=by
 refine qg Tryz.func200 rfl Ωc follows Ωc _ _ (by rw[Tryz.ntmps200];simp) Ω4 ?_;have hg:=Int.gcd_pos_of_ne_zero_right a.n (Ω:a.d≠0);have eg:Int.gcd a.n a.d=Nat.gcd a.n.natAbs a.d.natAbs:=Int.gcd_eq_natAbs_gcd_natAbs _ _;have e1:max a.n (-a.n)=((a.n.natAbs:Nat):Int):=by omega
 have e2:a.d=((a.d.natAbs:Nat):Int):=by omega
 have⟨r1,r2,r3,r4⟩:=red_spec hd;have rn : -4611686018427387904≤(red a).n∧(red a).n≤4611686018427387904:=by
  have h5:(red a).n=a.n.tdiv (Int.gcd a.n a.d):=rfl;have h6:=Int.natAbs_tdiv_le_natAbs a.n (Int.gcd a.n a.d);rw[←h5]at h6;omega
 have k:=qpv a.n.natAbs a.d.natAbs Ω Ω;rw[←e2,←eg,←e1]at k;have q1:a.n.tdiv (Int.gcd a.n a.d)=(red a).n:=rfl;have q2:a.d.tdiv (Int.gcd a.n a.d)=(red a).d:=rfl;generalize Int.gcd a.n a.d=g at *;unfold fsv I;(repeat' (first|refine sD ?_ ?_<;>intro _|refine aA ?_|(simp -dsimp only[↓RP,RQ,implies_true,forall_const,xa0,reduceIte,reduceCtorEq,xa1,xa2,xa3,xa4,fsv,B,I,TYv,RZ,eq_self,Tryz.results200])))
 all_goals first|(exfalso;omega)|skip
 refine qm k (by(simp -dsimp only[↓RP,RQ,implies_true,forall_const,xa0,reduceIte,reduceCtorEq,xa1,xa2,xa3,xa4,I]);all_goals (try simp)) Ωk ?_;(repeat' (first|refine sD ?_ ?_<;>intro _|refine aA ?_|(simp -dsimp only[↓RP,RQ,implies_true,forall_const,xa0,reduceIte,reduceCtorEq,xa1,xa2,xa3,xa4,q1,q2,fsv,B,I,TYv,RZ,eq_self,Tryz.results200])))
 all_goals first|(exfalso;omega)|skip
 all_goals (simp only[InK];omega)
theorem qmw(a b A B:Int)(a0:0≤a)(b0:0≤b)(hA:a≤A)(hB:b≤B):0≤a*b∧a*b≤A*B:=⟨Int.mul_nonneg a0 b0,Int.mul_le_mul hA hB b0 Ω⟩
structure Pl where
 n:Nat
 lo:Nat→Int
 hi:Nat→Int
 cut:Int
def rngs(n:Nat)(lo hi:Nat→Int):SV:=.arr false false n 2 (fun i j=>.val (.int .i64 (if j=0 then lo i else hi i)))
def Pl.sv(p:Pl):SV:=.agg [rngs p.n p.lo p.hi,I p.cut]
theorem Pl.old(p:Pl):Old p.sv:=by simp[Old,OldL,Pl.sv,rngs,I]
def qeK(lo hi:Nat→Int)(m:Nat):Prop:=∀i,i<m→0≤lo i∧lo i≤hi i∧hi i≤1000000
instance(lo hi:Nat→Int)(m:Nat):Decidable (qeK lo hi m):=by unfold qeK;infer_instance
def Pl.err(p:Pl):Int:=if p.n<1∨8<p.n then 6 else if qeK p.lo p.hi p.n∧(0≤p.cut∧p.cut≤500)then 0 else 3
structure Pl.Fine(p:Pl):Prop where
 n1:1≤p.n
 n8:p.n≤8
 rg:qeK p.lo p.hi p.n
 c0:0≤p.cut
 c1:p.cut≤500
theorem Pl.fine{p:Pl}(h:p.err=0):p.Fine:=by
 unfold Pl.err at h;split at h
 ·cases h
 ·rename_i h1
  split at h
  ·rename_i h2;exact⟨Ω,Ω,h2.1,h2.2.1,h2.2.2⟩
  ·cases h
theorem Pl.Fine.err{p:Pl}(h:p.Fine):p.err=0:=by
 have:=h.n1;have:=h.n8;unfold Pl.err;rw[if_neg Ω,if_pos ⟨h.rg,h.c0,h.c1⟩]
def Zw(lo hi:Int):Prop:=hi<lo∨¬((0≤lo∧lo≤1000000)∧(0≤hi∧hi≤1000000))
instance(lo hi:Int):Decidable (Zw lo hi):=by unfold Zw;infer_instance
theorem qpx(lo hi:Int):qf Tryz.prog 299 [.agg [I lo,I hi]] (B (decide (Zw lo hi))):=by
 refine qg Tryz.func299 rfl Ωc follows Ωc _ _ (by rw[Tryz.ntmps299];simp) Ω4 ?_;unfold I B;(repeat' (first|refine sD ?_ ?_<;>intro _|refine aA ?_|(simp -dsimp only[↓RP,RQ,implies_true,forall_const,xa0,reduceIte,reduceCtorEq,xa1,xa2,xa3,xa4,TYv,fsv,B,I,RZ,eq_self,Tryz.results299])))
 ·rename_i h
  refine vV ?_;symm;exact decide_eq_true (.inl h)
 ·refine qm (qmv lo hi 0 1000000) (by(simp -dsimp only[↓RP,RQ,implies_true,forall_const,xa0,reduceIte,reduceCtorEq,xa1,xa2,xa3,xa4,Go.Tv.ints,I]);all_goals (try simp);all_goals (try exact qnc _ _)) Ωi ?_
  (repeat' (first|refine sD ?_ ?_<;>intro _|refine aA ?_|(simp -dsimp only[↓RP,RQ,implies_true,forall_const,xa0,reduceIte,reduceCtorEq,xa1,xa2,xa3,xa4,TYv,fsv,B,I,RZ,eq_self,Tryz.results299])))
  all_goals (refine vV ?_;rw[Bool.eq_iff_iff];simp[Zw];omega)
theorem qpy(m:Nat)(lo hi:Nat→Int)(hm:m≤1000000):qf Tryz.prog 358 [rngs m lo hi,.fn (.func 299) [] []] (I (zx (fun i=>decide (Zw (lo i) (hi i))) 0 m)):=by
 refine qg Tryz.func358 rfl Ωc follows Ωc _ _ (by rw[Tryz.ntmps358];simp) (by simp[OldL,Old,rngs]) ?_;unfold rngs I;(repeat' (first|refine sD ?_ ?_<;>intro _|refine aA ?_|(simp -dsimp only[↓RP,RQ,implies_true,forall_const,xa0,reduceIte,reduceCtorEq,xa1,xa2,xa3,xa4,TYv,fsv,B,I,RZ,eq_self,Tryz.results358])));refine qo (fun i=>i≤m∧zx (fun i=>decide (Zw (lo i) (hi i))) 0 m=zx (fun i=>decide (Zw (lo i) (hi i))) i (m - i)) (fun i=>⟨[(0,.arr false false m 2 (fun i j=>.val (.int .i64 (if j=0 then lo i else hi i)))),(1,.fn (.func 299) [] []),(7,.val (.int .i64 m)),(8,.val (.int .i64 i))],[],0⟩) (fun i=>m - i) 0 ⟨xb6 _,rfl⟩ (weak [] [] ?_ ?_ ?_) fun i hi=>?_
 ·(simp -dsimp only[↓RP,RQ,implies_true,forall_const,xa0,reduceIte,reduceCtorEq,xa1,xa2,xa3,xa4]);all_goals (try simp)
 ·(simp -dsimp only[↓RP,RQ,implies_true,forall_const,xa0,reduceIte,reduceCtorEq,xa1,xa2,xa3,xa4])
 ·(simp -dsimp only[↓RP,RQ,implies_true,forall_const,xa0,reduceIte,reduceCtorEq,xa1,xa2,xa3,xa4])
 obtain⟨hi,he⟩:=hi;rename_i hi';have e1:∀k,m - i=k+1→zx (fun i=>decide (Zw (lo i) (hi' i))) i (m - i)=if decide (Zw (lo i) (hi' i))=true then(i:Int)else zx (fun i=>decide (Zw (lo i) (hi' i))) (i+1) k:=fun k hk=>by rw[hk];rfl
 (repeat' (first|refine sD ?_ ?_<;>intro _|refine aA ?_|(simp -dsimp only[↓RP,RQ,implies_true,forall_const,xa0,reduceIte,reduceCtorEq,xa1,xa2,xa3,xa4,TYv,fsv,B,I,RZ,eq_self,Tryz.results358])))
 ·rename_i hlt
  have e2:=e1 (m -(i+1)) Ω;refine qm (qpx (lo i) (hi' i)) (by(simp -dsimp only[↓RP,RQ,implies_true,forall_const,xa0,reduceIte,reduceCtorEq,xa1,xa2,xa3,xa4,I]);all_goals (try simp)) Ωi ?_;(repeat' (first|refine sD ?_ ?_<;>intro _|refine aA ?_|(simp -dsimp only[↓RP,RQ,implies_true,forall_const,xa0,reduceIte,reduceCtorEq,xa1,xa2,xa3,xa4,TYv,fsv,B,I,RZ,eq_self,Tryz.results358])))
  ·rename_i h
   refine gI ?_;rw[he,e2,if_pos (by simp[h])]
  ·rename_i h1
   refine⟨i+1,⟨Ω,?_⟩,Ω,weak [] [] ?_ ?_ ?_⟩
   ·rw[he,e2,if_neg (by simp[h1])]
   ·(simp -dsimp only[↓RP,RQ,implies_true,forall_const,xa0,reduceIte,reduceCtorEq,xa1,xa2,xa3,xa4]);all_goals (try simp)
   ·(simp -dsimp only[↓RP,RQ,implies_true,forall_const,xa0,reduceIte,reduceCtorEq,xa1,xa2,xa3,xa4])
   ·(simp -dsimp only[↓RP,RQ,implies_true,forall_const,xa0,reduceIte,reduceCtorEq,xa1,xa2,xa3,xa4])
 ·rename_i hlt
  refine gI ?_;have:m - i=0:=by omega
  rw[he,this];rfl
theorem qim(lo hi:Nat→Int)(m:Nat):zx (fun i=>decide (Zw (lo i) (hi i))) 0 m<0↔qeK lo hi m:=by
 rw[w8];constructor
 ·intro h i hi'
  have:=h i Ω Ω;simp[Zw]at this;omega
 ·intro h j _ hj
  have:=h j Ω;simp[Zw];omega
theorem qpz(m:Nat)(lo hi:Nat→Int)(hm:m≤1000000):qf Tryz.prog 300 [rngs m lo hi,.fn (.func 299) [] []] (B (!decide (qeK lo hi m))):=by
 refine qg Tryz.func300 rfl Ωc follows Ωc _ _ (by rw[Tryz.ntmps300];simp) (by simp[OldL,Old,rngs]) ?_;unfold rngs B;(repeat' (first|refine sD ?_ ?_<;>intro _|refine aA ?_|(simp -dsimp only[↓RP,RQ,implies_true,forall_const,xa0,reduceIte,reduceCtorEq,xa1,xa2,xa3,xa4,TYv,fsv,B,I,RZ,eq_self,Tryz.results300])));refine qm (qpy m lo hi hm) (by(simp -dsimp only[↓RP,RQ,implies_true,forall_const,xa0,reduceIte,reduceCtorEq,xa1,xa2,xa3,xa4,rngs,I]);all_goals (try simp)) Ωn ?_;(repeat' (first|refine sD ?_ ?_<;>intro _|refine aA ?_|(simp -dsimp only[↓RP,RQ,implies_true,forall_const,xa0,reduceIte,reduceCtorEq,xa1,xa2,xa3,xa4,TYv,fsv,B,I,RZ,eq_self,Tryz.results300])))
 all_goals (refine vV ?_;rw[Bool.eq_iff_iff];simp[←qim])
theorem qpA(p:Pl):qf Tryz.prog 199 [p.sv] (I p.err):=by
 refine qg Tryz.func199 rfl Ωc follows Ωc _ _ (by rw[Tryz.ntmps199];simp) (by simp[OldL,p.old]) ?_;unfold I
 conv=>arg 4;unfold Pl.sv rngs I
 (repeat' (first|refine sD ?_ ?_<;>intro _|refine aA ?_|(simp -dsimp only[↓RP,RQ,implies_true,forall_const,xa0,reduceIte,reduceCtorEq,xa1,xa2,xa3,xa4,TYv,fsv,B,I,RZ,eq_self,Tryz.results199])));refine qm (qil p.n 1 8) Ωm Ωi ?_;(repeat' (first|refine sD ?_ ?_<;>intro _|refine aA ?_|(simp -dsimp only[↓RP,RQ,implies_true,forall_const,xa0,reduceIte,reduceCtorEq,xa1,xa2,xa3,xa4,TYv,fsv,B,I,RZ,eq_self,Tryz.results199])))
 rotate_left
 ·refine gI ?_;unfold Pl.err;rw[if_pos Ω]
 rename_i h1;refine qm (qpz p.n p.lo p.hi Ω) (by(simp -dsimp only[↓RP,RQ,implies_true,forall_const,xa0,reduceIte,reduceCtorEq,xa1,xa2,xa3,xa4,rngs]);all_goals (try simp)) Ωi ?_;(repeat' (first|refine sD ?_ ?_<;>intro _|refine aA ?_|(simp -dsimp only[↓RP,RQ,implies_true,forall_const,xa0,reduceIte,reduceCtorEq,xa1,xa2,xa3,xa4,TYv,fsv,B,I,RZ,eq_self,Tryz.results199])))
 ·rename_i h6
  refine qm (qil p.cut 0 500) Ωm Ωi ?_;(repeat' (first|refine sD ?_ ?_<;>intro _|refine aA ?_|(simp -dsimp only[↓RP,RQ,implies_true,forall_const,xa0,reduceIte,reduceCtorEq,xa1,xa2,xa3,xa4,TYv,fsv,B,I,RZ,eq_self,Tryz.results199])))
  all_goals first
   |(refine gI ?_;unfold Pl.err;rw[if_neg Ω,if_pos ⟨(by assumption),(by assumption)⟩])
   |(refine gI ?_;unfold Pl.err;rw[if_neg Ω,if_neg (fun h=>by have:=h.2;omega)])
 ·rename_i h6
  refine gI ?_;unfold Pl.err;rw[if_neg Ω,if_neg (fun h=>h6 h.1)]
def Pl.ask(p:Pl)(r:Int):Int:=if p.err=0 then(if r<0∨p.n≤r then 2 else 0)else p.err
theorem Pl.ask_iff{p:Pl}{r:Int}:p.ask r=0↔p.err=0∧0≤r∧r<p.n:=by
 unfold Pl.ask;split
 ·rename_i h
  split
  ·constructor
   ·intro h3;cases h3
   ·omega
  ·constructor
   ·intro _;omega
   ·intro _;rfl
 ·rename_i h;constructor
  ·intro h3;exact absurd h3 h
  ·intro h3;exact absurd h3.1 h
theorem c97(p:Pl)(r:Int):qf Tryz.prog 97 [p.sv,I r] (I (p.ask r)):=by
 refine qg Tryz.func97 rfl Ωc follows Ωc _ _ (by rw[Tryz.ntmps97];simp) (by simp[OldL,p.old];simp[Old,I]) ?_;unfold I
 conv=>arg 4;unfold Pl.sv rngs I
 (repeat' (first|refine sD ?_ ?_<;>intro _|refine aA ?_|(simp -dsimp only[↓RP,RQ,implies_true,forall_const,xa0,reduceIte,reduceCtorEq,xa1,xa2,xa3,xa4,TYv,fsv,B,I,RZ,eq_self,Tryz.results97])));refine qm (qpA p) Ωt Ωn ?_;by_cases h0:p.err=0
 ·rw[h0]
  (repeat' (first|refine sD ?_ ?_<;>intro _|refine aA ?_|(simp -dsimp only[↓RP,RQ,implies_true,forall_const,xa0,reduceIte,reduceCtorEq,xa1,xa2,xa3,xa4,TYv,fsv,B,I,RZ,eq_self,Tryz.results97])))
  all_goals first
   |(refine gI ?_;unfold Pl.ask;rw[if_pos h0,if_pos Ω];done)
   |(refine gI ?_;unfold Pl.ask;rw[if_pos h0,if_neg Ω];done)
   |(exfalso;omega)
 ·(repeat' (first|refine sD ?_ ?_<;>intro _|refine aA ?_|(simp -dsimp only[↓RP,RQ,implies_true,forall_const,xa0,reduceIte,reduceCtorEq,xa1,xa2,xa3,xa4,TYv,fsv,B,I,RZ,eq_self,Tryz.results97])))
  all_goals first|(exfalso;omega)|skip
  all_goals (refine gI ?_;unfold Pl.ask;rw[if_neg h0])
def oddV(own sum cut:Int):Fr:=red ⟨max 0 ((1000 - cut)*sum - 1000*own),1000*own⟩
def sumTo(u:Nat→Int):Nat→Int
 |0=>0
 |n+1=>sumTo u n+u n
theorem YJ{u:Nat→Int}{A:Int}:∀{n:Nat},(∀i,i<n→0≤u i∧u i≤A)→0≤sumTo u n∧sumTo u n≤A*n
 |0,_=>by simp[sumTo]
 |n+1,h=>by
  have ih:=YJ (n:=n) fun i hi=>h i Ω;have:=h n Ω;have e:A*((n+1:Nat):Int)=A*n+A:=by grind
  simp only[sumTo];omega
theorem qmx{own sum cut:Int}(h1:1≤own)(h2:own≤1000000)(h3:0≤sum)(h4:sum≤20000000)(h5:0≤cut)(h6:cut≤500):0≤(1000 - cut)*sum∧(1000 - cut)*sum≤20000000000:=by
 have:=qmw (1000 - cut) sum 1000 20000000 Ω h3 Ω h4;omega
theorem c98(own others cut:Int)(h1:1≤own)(h2:own≤1000000)(h3:0≤others)(h4:others≤19000000)(h5:0≤cut)(h6:cut≤500):qf Tryz.prog 98 [I own,I others,I cut] (fsv (oddV own (own+others) cut)):=by
 refine qg Tryz.func98 rfl Ωc follows Ωc _ _ (by rw[Tryz.ntmps98];simp) Ω4 ?_;have m1:=qmx (own:=own) (sum:=own+others) (cut:=cut) h1 h2 Ω Ω h5 h6
 conv=>arg 4;unfold I
 (repeat' (first|refine sD ?_ ?_<;>intro _|refine aA ?_|(simp -dsimp only[↓RP,RQ,implies_true,forall_const,xa0,reduceIte,reduceCtorEq,xa1,xa2,xa3,xa4,TYv,fsv,B,I,RZ,eq_self,Tryz.results98])))
 all_goals first|(exfalso;omega)|skip
 all_goals (refine qm (qpw ⟨max 0 ((1000 - cut)*(own+others) - 1000*own),1000*own⟩ (by show 0<1000*own;omega) (by show 1000*own≤_;omega) (by show _≤max 0 ((1000 - cut)*(own+others) - 1000*own);omega) (by show max 0 ((1000 - cut)*(own+others) - 1000*own)≤_;omega)) Ωm Ωk ?_)
 all_goals (repeat' (first|refine sD ?_ ?_<;>intro _|refine aA ?_|(simp -dsimp only[↓RP,RQ,implies_true,forall_const,xa0,reduceIte,reduceCtorEq,xa1,xa2,xa3,xa4,oddV,TYv,fsv,B,I,RZ,eq_self,Tryz.results98])))
 all_goals first|exact⟨rfl,rfl⟩|skip
theorem sumTo_one{u v:Nat→Int}{k:Nat}(h:∀i,i≠k→v i=u i):∀{n:Nat},sumTo v n=sumTo (fun j=>if j=k then 0 else u j) n+(if k<n then v k else 0)
 |0=>by simp[sumTo]
 |n+1=>by
  simp only[sumTo];rw[sumTo_one (n:=n) h];by_cases e:n=k
  ·subst e
   simp
  ·rw[if_neg e,h n e]
   by_cases e2:k<n
   ·rw[if_pos e2,if_pos Ω];omega
   ·rw[if_neg e2,if_neg Ω];omega
def Pl.few(p:Pl)(k i:Nat):Int:=if i=k then p.hi i else p.lo i
def Pl.many(p:Pl)(k i:Nat):Int:=if i=k then p.lo i else p.hi i
theorem Pl.few_sum(p:Pl){k:Nat}(hk:k<p.n):sumTo (p.few k) p.n=p.hi k+sumTo (fun j=>if j=k then 0 else p.lo j) p.n:=by
 rw[sumTo_one (u:=p.lo) (v:=p.few k) (k:=k) fun i hi=>by unfold Pl.few;rw[if_neg hi],if_pos hk];unfold Pl.few;rw[if_pos rfl];omega
theorem Pl.many_sum(p:Pl){k:Nat}(hk:k<p.n):sumTo (p.many k) p.n=p.lo k+sumTo (fun j=>if j=k then 0 else p.hi j) p.n:=by
 rw[sumTo_one (u:=p.hi) (v:=p.many k) (k:=k) fun i hi=>by unfold Pl.many;rw[if_neg hi],if_pos hk];unfold Pl.many;rw[if_pos rfl];omega
def Pl.spanOk(p:Pl)(k:Nat):Fr×Fr:=(oddV (p.hi k) (sumTo (p.few k) p.n) p.cut,oddV (p.lo k) (sumTo (p.many k) p.n) p.cut)
def Pl.span(p:Pl)(r:Int):(Fr×Fr)×Int:=
 if p.ask r=0 then(if p.lo r.toNat=0 then((⟨0,0⟩,⟨0,0⟩),20)else(p.spanOk r.toNat,0))else((⟨0,0⟩,⟨0,0⟩),p.ask r)
theorem Pl.span_no{p:Pl}{r:Int}(h:¬p.ask r=0):p.span r=((⟨0,0⟩,⟨0,0⟩),p.ask r):=by unfold Pl.span;rw[if_neg h]
theorem Pl.span_20{p:Pl}{k:Nat}(h:p.ask k=0)(h2:p.lo k=0):p.span k=((⟨0,0⟩,⟨0,0⟩),20):=by unfold Pl.span;rw[if_pos h,Int.toNat_natCast,if_pos h2]
theorem Pl.span_0{p:Pl}{k:Nat}(h:p.ask k=0)(h2:¬p.lo k=0):p.span k=(p.spanOk k,0):=by unfold Pl.span;rw[if_pos h,Int.toNat_natCast,if_neg h2]
theorem qin{u:Nat→Int}{k n:Nat}(h:∀i,i<n→0≤u i∧u i≤1000000):0≤sumTo (fun j=>if j=k then 0 else u j) n∧sumTo (fun j=>if j=k then 0 else u j) n≤1000000*n:=
 YJ fun i hi=>by have:=h i hi;by_cases e:i=k<;>simp only[e,if_true,if_false]<;>first|omega|(have:=h k Ω;omega)|exact this
theorem c32(p:Pl)(r:Int):qf Tryz.prog 32 [p.sv,I r] (.tup [fsv (p.span r).1.1,fsv (p.span r).1.2,I (p.span r).2]):=by
 refine qg Tryz.func32 rfl Ωc follows Ωc _ _ (by rw[Tryz.ntmps32];simp) (by simp[OldL,p.old];simp[Old,I]) ?_;by_cases ha:p.ask r=0
 rotate_left
 ·rw[Pl.span_no ha]
  conv=>arg 4;unfold Pl.sv rngs I
  (repeat' (first|refine sD ?_ ?_<;>intro _|refine aA ?_|(simp -dsimp only[↓RP,RQ,implies_true,forall_const,xa0,reduceIte,reduceCtorEq,xa1,xa2,xa3,xa4,TYv,fsv,B,I,RZ,eq_self,Tryz.results32])));refine qm (c97 p r) Ωt Ωk ?_;(repeat' (first|refine sD ?_ ?_<;>intro _|refine aA ?_|(simp -dsimp only[↓RP,RQ,implies_true,forall_const,xa0,reduceIte,reduceCtorEq,xa1,xa2,xa3,xa4,TYv,fsv,B,I,RZ,eq_self,Tryz.results32])))
  all_goals first|(exfalso;omega)|skip
 have⟨he,hr0,hr1⟩:=Pl.ask_iff.1 ha;obtain⟨k,rfl⟩:∃k:Nat,r=k:=⟨r.toNat,Ω⟩;have hf:=Pl.fine he;have hk:k<p.n:=by omega
 have⟨hk0,hk1,hk2⟩:=hf.rg k hk;have hn8:=hf.n8
 conv=>arg 4;unfold Pl.sv rngs I
 (repeat' (first|refine sD ?_ ?_<;>intro _|refine aA ?_|(simp -dsimp only[↓RP,RQ,implies_true,forall_const,xa0,reduceIte,reduceCtorEq,xa1,xa2,xa3,xa4,TYv,fsv,B,I,RZ,eq_self,Tryz.results32])));refine qm (c97 p k) Ωt Ωk ?_;rw[ha];(repeat' (first|refine sD ?_ ?_<;>intro _|refine aA ?_|(simp -dsimp only[↓RP,RQ,implies_true,forall_const,xa0,reduceIte,reduceCtorEq,xa1,xa2,xa3,xa4,TYv,fsv,B,I,RZ,eq_self,Tryz.results32])))
 all_goals first|(exfalso;omega)|skip
 ·rename_i h0
  rw[Pl.span_20 ha h0]
  all_goals first|exact⟨rfl,rfl⟩|exact⟨⟨rfl,rfl⟩,⟨rfl,rfl⟩,rfl⟩|skip
 ·rename_i h0
  rw[Pl.span_0 ha h0];have hs1:=p.few_sum hk;have hs2:=p.many_sum hk;unfold Pl.spanOk;rw[hs1,hs2];refine qo (fun i=>i≤p.n) (fun i=>⟨[(1,.val (.int .i64 k)),(2,.ptr 0 0),(4,.ptr 1 0),(5,.ptr 2 0),(6,.val (.int .i64 0)),(8,.ptr 15 0),(9,.ptr 20 0),(31,.arr false false p.n 2 (fun i j=>.val (.int .i64 (if j=0 then p.lo i else p.hi i)))),(32,.val (.int .i64 p.n)),(33,.val (.int .i64 i))],[(20,.cells 99 [.val (.int .i64 (sumTo (fun j=>if j=k then 0 else p.lo j) i)),.val (.int .i64 (sumTo (fun j=>if j=k then 0 else p.hi j) i))]),(15,.cells 99 [.val (.int .i64 (p.lo k)),.val (.int .i64 (p.hi k))]),(2,.cells 68 [.val (.int .i64 0),.val (.int .i64 0)]),(1,.cells 68 [.val (.int .i64 0),.val (.int .i64 0)]),(0,.cells 73 [.arr false false p.n 2 (fun i j=>.val (.int .i64 (if j=0 then p.lo i else p.hi i))),.val (.int .i64 p.cut)])],25⟩) (fun i=>p.n - i) 0 (xb6 _) (weak [] [] ?_ ?_ ?_) fun i hi=>?_
  ·(simp -dsimp only[↓RP,RQ,implies_true,forall_const,xa0,reduceIte,reduceCtorEq,xa1,xa2,xa3,xa4]);all_goals (try simp)
  ·(simp -dsimp only[↓RP,RQ,implies_true,forall_const,xa0,reduceIte,reduceCtorEq,xa1,xa2,xa3,xa4,sumTo]);all_goals (try simp[sumTo])
  ·(simp -dsimp only[↓RP,RQ,implies_true,forall_const,xa0,reduceIte,reduceCtorEq,xa1,xa2,xa3,xa4]);all_goals (try simp)
  have b1:=qin (u:=p.lo) (k:=k) (n:=i) fun j hj=>by have:=hf.rg j Ω;omega
  have b2:=qin (u:=p.hi) (k:=k) (n:=i) fun j hj=>by have:=hf.rg j Ω;omega
  by_cases hlt:i<p.n
  ·have hui:=hf.rg i hlt
   (repeat' (first|refine sD ?_ ?_<;>intro _|refine aA ?_|(simp -dsimp only[↓RP,RQ,implies_true,forall_const,xa0,reduceIte,reduceCtorEq,xa1,xa2,xa3,xa4,TYv,fsv,B,I,RZ,eq_self,Tryz.results32])))
   all_goals first|(exfalso;omega)|skip
   all_goals (refine⟨i+1,Ω,Ω,weak [] [] ?_ ?_ ?_⟩)
   all_goals ((simp -dsimp only[↓RP,RQ,implies_true,forall_const,xa0,reduceIte,reduceCtorEq,xa1,xa2,xa3,xa4,sumTo]);all_goals (try simp[sumTo]))
   all_goals (try omega)
   all_goals (try (have:i=k:=by omega);simp[this])
  ·have e:i=p.n:=by omega
   subst e;(repeat' (first|refine sD ?_ ?_<;>intro _|refine aA ?_|(simp -dsimp only[↓RP,RQ,implies_true,forall_const,xa0,reduceIte,reduceCtorEq,xa1,xa2,xa3,xa4,TYv,fsv,B,I,RZ,eq_self,Tryz.results32])))
   all_goals first|(exfalso;omega)|skip
   refine qm (c98 (p.hi k) (sumTo (fun j=>if j=k then 0 else p.lo j) p.n) p.cut Ω Ω b1.1 Ω hf.c0 hf.c1) Ωm Ωk ?_;(repeat' (first|refine sD ?_ ?_<;>intro _|refine aA ?_|(simp -dsimp only[↓RP,RQ,implies_true,forall_const,xa0,reduceIte,reduceCtorEq,xa1,xa2,xa3,xa4,TYv,fsv,B,I,RZ,eq_self,Tryz.results32])))
   all_goals first|(exfalso;omega)|skip
   refine qm (c98 (p.lo k) (sumTo (fun j=>if j=k then 0 else p.hi j) p.n) p.cut Ω Ω b2.1 Ω hf.c0 hf.c1) Ωm Ωk ?_;(repeat' (first|refine sD ?_ ?_<;>intro _|refine aA ?_|(simp -dsimp only[↓RP,RQ,implies_true,forall_const,xa0,reduceIte,reduceCtorEq,xa1,xa2,xa3,xa4,TYv,fsv,B,I,RZ,eq_self,Tryz.results32])))
   all_goals first|exact⟨rfl,rfl⟩|exact⟨⟨rfl,rfl⟩,⟨rfl,rfl⟩⟩|exact⟨⟨rfl,rfl⟩,⟨rfl,rfl⟩,rfl⟩|skip
end Go.Tv
end
section
namespace Go.Sx
open Go.RowKit
section
variable{P:Program}
end
end Go.Sx
end
section
namespace Go.Sx
open Go.RowKit
theorem qio{O:Ctx}{fr:List (Nat×SV)}{hp:List (Nat×Blk)}{nid b i k:Nat}{t te:TypeId}{l:List SV}(row:Nat→Nat→SV)(hb:blk hp b=some (.cells t l))(hi:l[i]? = some (.val (.slice none 0 0))):Weak O ⟨fr,hp,nid⟩ ⟨fr,(b,.cells t (l.set i (.vec nid 0 k))) ::(nid,.rows te k 0 row) :: hp,nid+1⟩:=fun base okc ns outs a w ⟨r,h'⟩=>by
 have hbn:b<nid:=h'.keys b _ hb;obtain⟨r',hst,hrep⟩:=wb h'.sat nid (xb4 _) none (hp':=(nid,.rows te k 0 row) :: hp) (e:=te) (k:=k) (row:=row) ΩY (fun j hj _=>by simp only[blk];rw[if_neg (Nat.ne_of_lt hj)]) (fun o ho=>by cases ho);rw[gN]at hst hrep;have hb1:blk ((nid,.rows te k 0 row) :: hp) b=some (.cells t l):=by simp only[blk];rw[if_neg (Nat.ne_of_lt hbn)];exact hb
 have dom:∀id x,blk ((b,.cells t (l.set i (.vec nid 0 k))) ::(nid,.rows te k 0 row) :: hp) id=some x→∃y,blk ((nid,.rows te k 0 row) :: hp) id=some y:=fun id x hx=>by
  by_cases e:id=b
  ·rw[e];exact⟨_,hb1⟩
  ·rw[show blk ((b,.cells t (l.set i (.vec nid 0 k))) ::(nid,.rows te k 0 row) :: hp) id=blk ((nid,.rows te k 0 row) :: hp) id by simp only[blk];rw[if_neg e]]at hx
   exact⟨x,hx⟩
 have gd:∀o c,Gd base okc r' (· < nid+1) ((nid,.rows te k 0 row) :: hp) w o c→Gd base okc r' (· < nid+1) ((b,.cells t (l.set i (.vec nid 0 k))) ::(nid,.rows te k 0 row) :: hp) w o c∧w.heap[c]? = w.heap[c]?:=fun o c hc=>⟨⟨hc.1,fun id x hx hid hr=>by obtain⟨y,hy⟩:=dom id x hx;exact hc.2.1 id y hy hid hr,hc.2.2⟩,rfl⟩;have sat:Sat base okc r' (· < nid+1) ((b,.cells t (l.set i (.vec nid 0 k))) ::(nid,.rows te k 0 row) :: hp) w:=by
  refine⟨hst.sat.below,fun id x hx hid=>?_,fun id x c hx hid hc=>?_,fun id x id' x' c hx hid hx' hid' hc hc'=>?_⟩
  ·by_cases e:id=b
   ·have hr:=hst.sat.rep b _ hb1 (Ω:b<nid+1)
    rw[e]at hx ⊢;simp only[blk,if_true,Option.some.injEq]at hx;rw[←hx];generalize r' b=ob at hr ⊢;cases hr with
    |cells _ _ c cs hc hl h=>
     refine .cells t _ c cs hc (by rw[xe5];exact hl) fun j sv hj=>?_;rw[List.getElem?_set]at hj;split at hj
     ·rename_i eij
      split at hj
      ·injection hj with hj
       rw[←hj,←eij];have h0:=h i _ hi;generalize cs.getD i undef=v at h0 ⊢;cases h0;exact hrep.mono (fun _ _=>rfl) (fun _ h=>h) gd (Shapes.refl w)
      ·cases hj
     ·exact(h j sv hj).mono (fun _ _=>rfl) (fun _ h=>h) gd (Shapes.refl w)
   ·rw[show blk ((b,.cells t (l.set i (.vec nid 0 k))) ::(nid,.rows te k 0 row) :: hp) id=blk ((nid,.rows te k 0 row) :: hp) id by simp only[blk];rw[if_neg e]]at hx
    exact(hst.sat.rep id x hx hid).mono (fun _ _=>rfl) (fun _ h=>h) gd (Shapes.refl w) (fun _ _=>rfl)
  ·obtain⟨y,hy⟩:=dom id x hx;exact hst.sat.own id y c hy hid hc
  ·obtain⟨y,hy⟩:=dom id x hx
   obtain⟨y',hy'⟩:=dom id' x' hx';exact hst.sat.inj id y id' y' c hy hid hy' hid' hc hc'
 have hst2:Step base okc r (· < nid) hp w r' (· < nid+1) ((b,.cells t (l.set i (.vec nid 0 k))) ::(nid,.rows te k 0 row) :: hp) w:=hst.trans ⟨sat,fun _ _=>rfl,fun _ h=>h,gd,Shapes.refl w⟩;exact⟨r',(h'.step hst2 (fun j x hx=>by
  obtain⟨y,hy⟩:=dom j x hx;simp only[blk]at hy;split at hy
  ·rename_i e;rw[e];exact xb5 _
  ·exact Nat.lt_succ_of_lt (h'.keys j y hy)) (xc4 _) (d:=none) (fun t ht=>by cases ht) (.val undef)).nid (nid+1)⟩
section
variable{P:Program}
end
end Go.Sx
end
section
namespace Go.Tn
def Pth(L:Nat→List Nat):Nat→List Nat→Nat→Prop
 |a,[],b=>a=b
 |a,w :: l,b=>∃x,(L a)[w]? = some x∧Pth L x l b
theorem Pth.app{L:Nat→List Nat}:∀{l k:List Nat}{a b c:Nat},Pth L a l b→Pth L b k c→Pth L a (l++k) c
 |[],_,_,_,_,h,h2=>by cases h;exact h2
 |_ :: _,_,_,_,_,⟨x,h1,h2⟩,h3=>⟨x,h1,h2.app h3⟩
def cM(by':Nat→Nat):Nat→Nat
 |0=>0
 |n+1=>cM by' n+(if 0<by' n then 1 else 0)
theorem YK{a b:Nat→Nat}:∀n,(∀x,x<n→a x=b x)→cM a n=cM b n
 |0,_=>rfl
 |n+1,h=>by simp only[cM];rw[YK n fun x hx=>h x Ω,h n Ω]
theorem qbo{by':Nat→Nat}{x v:Nat}(h0:by' x=0)(hv:0<v):∀n,x<n→cM (setN by' x v) n=cM by' n+1
 |0,h=>by omega
 |n+1,h=>by
  simp only[cM];by_cases e:x=n
  ·subst e
   rw[YK (b:=by') x fun y hy=>by unfold setN;rw[if_neg Ω]];have:setN by' x v x=v:=by unfold setN;rw[if_pos rfl]
   rw[this,h0,if_pos hv,if_neg Ω]
  ·rw[qbo h0 hv n Ω]
   have:setN by' x v n=by' n:=by unfold setN;rw[if_neg Ω]
   rw[this];omega
structure Mk(L:Nat→List Nat)(N start:Nat)(by' d:Nat→Nat):Prop where
 one:∀x,x≠start→0<by' x→x<N∧(L ((by' x - 1) / 5))[(by' x - 1) % 5]? = some x∧((by' x - 1) / 5=start∨(0<by' ((by' x - 1) / 5)∧d ((by' x - 1) / 5)<d x))
 up:∀x,x≠start→0<by' x→1≤d x∧d x≤cM by' N
theorem dm5(i w:Nat)(h:w<5):(1+i*5+w - 1) / 5=i∧(1+i*5+w - 1) % 5=w:=by omega
theorem Mk.push{L:Nat→List Nat}{N start i w to:Nat}{by' d:Nat→Nat}(h:Mk L N start by' d)(hw:w<5)(hget:(L i)[w]? = some to)(hto:to<N)(hne:to≠start)(h0:by' to=0)(hr:i=start∨0<by' i):Mk L N start (setN by' to (1+i*5+w)) (setN d to (cM by' N+1)):=by
 obtain⟨m1,m2⟩:=dm5 i w hw;have hc:=qbo (v:=1+i*5+w) h0 Ω N hto;have hs:∀x,x≠to→setN by' to (1+i*5+w) x=by' x:=fun x hx=>by unfold setN;rw[if_neg hx]
 have hd:∀x,x≠to→setN d to (cM by' N+1) x=d x:=fun x hx=>by unfold setN;rw[if_neg hx]
 have hst:setN by' to (1+i*5+w) to=1+i*5+w:=by unfold setN;rw[if_pos rfl]
 have hdt:setN d to (cM by' N+1) to=cM by' N+1:=by unfold setN;rw[if_pos rfl]
 refine⟨fun x hx hp=>?_,fun x hx hp=>?_⟩
 ·by_cases e:x=to
  ·subst e
   rw[hst,m1,m2,hdt];refine⟨hto,hget,?_⟩;by_cases ei:i=start
   ·exact .inl ei
   ·right
    have hi:=hr.resolve_left ei;have:i≠x:=fun q=>by rw[q,h0]at hi;cases hi
    rw[hs i this,hd i this];have:=h.up i ei hi;exact⟨hi,Ω⟩
  ·rw[hs x e]at hp ⊢
   obtain⟨g1,g2,g3⟩:=h.one x hx hp;refine⟨g1,g2,?_⟩;rcases g3 with g3|⟨g3,g4⟩
   ·exact .inl g3
   ·right
    have:(by' x - 1) / 5≠to:=fun q=>by rw[q,h0]at g3;cases g3
    rw[hs _ this,hd _ this,hd x e];exact⟨g3,g4⟩
 ·rw[hc]
  by_cases e:x=to
  ·subst e;rw[hdt];exact⟨Ω,xa5 _⟩
  ·rw[hs x e]at hp
   rw[hd x e];have:=h.up x hx hp;omega
theorem vr{L:Nat→List Nat}{N start i:Nat}(hL:∀x,x∈L i→x<N)(h5:(L i).length≤5):∀(l:List Nat)(w:Nat)(by' d:Nat→Nat)(wait:List Nat),L i=(L i).take w++l→w+l.length=(L i).length→
  Mk L N start by' d→(i=start∨0<by' i)→by' start=0→
  ((ke start i l w by' wait).1=true∧∃b d' w',(ke start i l w by' wait).2.1=setN b start (1+i*5+w')∧w'<5∧(L i)[w']? = some start∧Mk L N start b d'∧(i=start∨0<b i)∧b start=0)∨
  ((ke start i l w by' wait).1=false∧(ke start i l w by' wait).2.1 start=0∧(∃d',Mk L N start (ke start i l w by' wait).2.1 d')∧(∀x,x∈l→x≠start∧0<(ke start i l w by' wait).2.1 x)∧(∀x,0<by' x→0<(ke start i l w by' wait).2.1 x)∧
    ∃new,(ke start i l w by' wait).2.2=wait++new∧(∀x,x∈new→x<N∧0<(ke start i l w by' wait).2.1 x)∧(∀x,0<(ke start i l w by' wait).2.1 x→0<by' x∨x∈new)∧cM (ke start i l w by' wait).2.1 N=cM by' N+new.length)
 |[],w,by',d,wait,_,_,hM,_,h0=>.inr ⟨rfl,h0,⟨d,hM⟩,fun x hx=>(by cases hx),fun x hx=>hx,[],by simp[ke],fun x hx=>(by cases hx),fun x hx=>.inl hx,rfl⟩
 |to :: l,w,by',d,wait,hl,hw,hM,hr,h0=>by
  have hlen:((L i).take w).length=w:=by rw[xd9];simp only[xe4]at hw;omega
  have hget:(L i)[w]? = some to:=by
   rw[hl,xd0 (by rw[hlen];exact xa5 _),hlen,xb8];rfl
  have hto:to<N:=hL to (List.mem_of_getElem? hget);have hw5:w<5:=by simp only[xe4]at hw;omega
  have hl':L i=(L i).take (w+1)++l:=by
   rw[List.take_add_one,hget,List.append_assoc];exact hl
  have hw':w+1+l.length=(L i).length:=by simp only[xe4]at hw;omega
  simp only[ke];by_cases hb:0<by' to
  ·rw[if_pos hb]
   rcases vr hL h5 l (w+1) by' d wait hl' hw' hM hr h0 with q|⟨q1,q2,q3,q4,q5,q6⟩
   ·exact .inl q
   ·refine .inr ⟨q1,q2,q3,fun x hx=>?_,q5,q6⟩
    rcases List.mem_cons.1 hx with rfl|hx
    ·exact⟨fun e2=>(by rw[e2,h0]at hb;cases hb),q5 _ hb⟩
    ·exact q4 x hx
  ·rw[if_neg hb]
   by_cases e:to=start
   ·rw[if_pos e]
    exact .inl ⟨rfl,by',d,w,by rw[e],hw5,by rw[hget,e],hM,hr,h0⟩
   ·rw[if_neg e]
    have hz:by' to=0:=by omega
    have hM2:=hM.push hw5 hget hto e hz hr;have hs:∀x,x≠to→setN by' to (1+i*5+w) x=by' x:=fun x hx=>by unfold setN;rw[if_neg hx]
    have hst:setN by' to (1+i*5+w) to=1+i*5+w:=by unfold setN;rw[if_pos rfl]
    have hup:∀x,0<by' x→0<setN by' to (1+i*5+w) x:=fun x hx=>by
     by_cases c:x=to
     ·rw[c,hst];omega
     ·rw[hs x c];exact hx
    rcases vr hL h5 l (w+1) (setN by' to (1+i*5+w)) _ (wait++[to]) hl' hw' hM2 (hr.imp id (hup i)) (by rw[hs start (Ne.symm e)];exact h0)with q|⟨q1,q2,q3,q4,q5,new,q6,q7,q8,q9⟩
    ·exact .inl q
    ·refine .inr ⟨q1,q2,q3,fun x hx=>?_,fun x hx=>q5 x (hup x hx),to :: new,by rw[q6,List.append_assoc];rfl,fun x hx=>?_,fun x hx=>?_,?_⟩
     ·rcases List.mem_cons.1 hx with rfl|hx
      ·exact⟨e,q5 _ (by rw[hst];omega)⟩
      ·exact q4 x hx
     ·rcases List.mem_cons.1 hx with rfl|hx
      ·exact⟨hto,q5 _ (by rw[hst];omega)⟩
      ·exact q7 x hx
     ·rcases q8 x hx with h|h
      ·by_cases c:x=to
       ·exact .inr (by rw[c];exact xd5)
       ·rw[hs x c]at h;exact .inl h
      ·exact .inr (List.mem_cons_of_mem _ h)
     ·rw[q9,qbo hz Ω N hto,xe4];omega
structure Bf(L:Nat→List Nat)(N start:Nat)(by':Nat→Nat)(wait:List Nat)(dn:Nat→Prop):Prop where
 mks:∃d,Mk L N start by' d
 st:by' start=0
 wt:∀x,x∈wait→x<N∧(x=start∨0<by' x)
 don:∀x,dn x→∀y,y∈L x→y≠start∧0<by' y
 all:∀x,x=start∨0<by' x→dn x∨x∈wait
theorem Bf.first{L:Nat→List Nat}{N start:Nat}(hs:start<N):Bf L N start (fun _=>0) [start] (fun _=>False):=
 ⟨⟨fun _=>0,fun x hx hp=>(by cases hp),fun x hx hp=>(by cases hp)⟩,rfl,fun x hx=>(by rw[xe0]at hx;subst hx;exact⟨hs,.inl rfl⟩),fun x hx=>hx.elim,fun x hx=>.inr (by
   rcases hx with rfl|hx
   ·exact List.mem_singleton.2 rfl
   ·cases hx)⟩
def Rnd(L:Nat→List Nat)(N:Nat)(best:List Nat):Prop:=best≠[]∧best.length≤N∧∃s,s<N∧Pth L s best s
end Go.Tn
end
section
namespace Go.Tn
open Go.Proofs
open Go.Sx
end Go.Tn
end
section
namespace Go.Tn
open Go.Proofs
open Go.Sx
def snB(c:Nat→Nat)(k:Nat)(w:Nat):Nat→Bool
 |0=>false
 |i+1=>decide (c (i % k)=w) || snB c k w i
theorem qlr(c:Nat→Nat)(k w i:Nat):snB c k w (i+1)=(decide (c (i % k)=w) || snB c k w i):=rfl
structure Wk4(m:Nat)(u:Nat→Int)(k:Nat)(c:Nat→Nat)(S:Nat→Nat→Int):Prop where
 k1:1≤k
 k2:k≤1000
 win:∀i,i<k→c i<m
 fit:∀t w,w<m→0≤S t w∧S t w+1≤u w
 step:∀t w,w<m→S (t+1) w=if c (t % k)=w then 0 else S t w+1
 back:∀w,w<m→S k w=S 0 w
theorem Wk4.seen{m:Nat}{u:Nat→Int}{k:Nat}{c:Nat→Nat}{S:Nat→Nat→Int}(h:Wk4 m u k c S){w:Nat}(hw:w<m):snB c k w (2*k)=true:=by
 cases hs:snB c k w (2*k)with
 |true=>rfl
 |false=>
  exfalso
  have key:∀i,i≤2*k→snB c k w i=false:=by
   have down:∀d i,i+d=2*k→snB c k w i=false:=fun d=>by
    induction d with
    |zero=>intro i hi;rw[show i=2*k by omega];exact hs
    |succ d ih=>
     intro i hi;have h1:=ih (i+1) Ω;rw[qlr,Bool.or_eq_false_iff]at h1;exact h1.2
   exact fun i hi=>down (2*k - i) i Ω
  have up:∀i,i≤k→S i w=S 0 w+i:=fun i=>by
   induction i with
   |zero=>intro _;omega
   |succ i ih=>
    intro hi;have h1:=key (i+1) Ω;rw[qlr,Bool.or_eq_false_iff]at h1;rw[h.step i w hw,if_neg (of_decide_eq_false h1.1),ih Ω];omega
  have h1:=up k (xa5 _);have h2:=h.back w hw;have h3:=h.k1;omega
end Go.Tn
end
section
namespace Go.Tn
open Go.Sx
def dgF(u:Nat→Int):Nat→Int→Nat→Int
 |0,_=>fun _=>0
 |k+1,n=>upN (dgF u k (n /(u k+1))) k (n %(u k+1))
theorem JU{u s t:Nat→Int}:∀k,(∀i,i<k→s i=t i)→ixF u s k=ixF u t k
 |0,_=>rfl
 |k+1,h=>by rw[QQ,QQ,JU k fun i hi=>h i Ω,h k Ω]
theorem qip{u:Nat→Int}:∀k,(∀i,i<k→1≤u i)→∀n,0≤n→n<prd u k→ixF u (dgF u k n) k=n∧∀i,i<k→0≤dgF u k n i∧dgF u k n i≤u i
 |0,_,n,h0,h1=>⟨by simp only[prd]at h1;simp only[ixF];omega,fun i hi=>by omega⟩
 |k+1,hu,n,h0,h1=>by
  have huk:=hu k Ω;have hq0:0≤n /(u k+1):=Int.ediv_nonneg h0 Ω;have hq1:n /(u k+1)<prd u k:=by
   refine Int.ediv_lt_of_lt_mul Ω ?_;simp only[prd]at h1;exact h1
  have hr0:=Int.emod_nonneg n (Ω:u k+1≠0);have hr1:=Int.emod_lt_of_pos n (Ω:0<u k+1);obtain⟨g1,g2⟩:=qip k (fun i hi=>hu i Ω) (n /(u k+1)) hq0 hq1;have ha:∀i,i<k→dgF u (k+1) n i=dgF u k (n /(u k+1)) i:=fun i hi=>by
   simp only[dgF,upN];rw[if_neg Ω]
  have hb:dgF u (k+1) n k=n %(u k+1):=by simp only[dgF,upN];rw[if_pos trivial]
  refine⟨?_,fun i hi=>?_⟩
  ·rw[QQ,JU k ha,g1,hb]
   have:=Int.mul_ediv_add_emod n (u k+1);rw[Int.mul_comm]at this;exact this
  ·by_cases e:i=k
   ·subst e;rw[hb];omega
   ·rw[ha i Ω];exact g2 i Ω
theorem qls{u s:Nat→Int}:∀k,(∀i,i<k→0≤s i∧s i≤u i)→∀i,i<k→dgF u k (ixF u s k) i=s i
 |0,_,i,hi=>by omega
 |k+1,h,i,hi=>by
  have hk:=h k Ω;rw[QQ];have e1:(ixF u s k*(u k+1)+s k) /(u k+1)=ixF u s k:=by
   rw[Int.add_comm,Int.add_mul_ediv_right _ _ Ω,Int.ediv_eq_zero_of_lt hk.1 Ω];omega
  have e2:(ixF u s k*(u k+1)+s k) %(u k+1)=s k:=by
   rw[Int.add_comm,Int.add_mul_emod_self_right,Int.emod_eq_of_lt hk.1 Ω]
  simp only[dgF,upN];by_cases e:i=k
  ·subst e;rw[if_pos rfl,e2]
  ·rw[if_neg e,e1];exact qls k (fun i hi=>h i Ω) i Ω
def qbp(u:Nat→Int)(m:Nat)(s:Nat→Int):Prop:=∀w,w<m→s w+1≤u w
instance(u:Nat→Int)(m:Nat)(s:Nat→Int):Decidable (qbp u m s):=by unfold qbp;infer_instance
def nxL(u:Nat→Int)(m n:Nat):List Nat:=if qbp u m (dgF u m n)then(List.range m).map (fun v=>(ixF u (upN (fun w=>dgF u m n w+1) v 0) m).toNat)else []
theorem qkA{u:Nat→Int}{m n w x:Nat}(h:(nxL u m n)[w]? = some x):qbp u m (dgF u m n)∧w<m∧x=(ixF u (upN (fun w=>dgF u m n w+1) w 0) m).toNat:=by
 unfold nxL at h;split at h
 ·rename_i hc
  rw[List.getElem?_map]at h;by_cases hw:w<m
  ·rw[xe3 hw]at h
   simp only[xg1,Option.some.injEq]at h;exact⟨hc,hw,h.symm⟩
  ·rw[List.getElem?_eq_none (by rw[List.length_range];omega)]at h
   cases h
 ·cases h
theorem qmy{u:Nat→Int}{m n v:Nat}(hu:∀i,i<m→1≤u i)(hn:(n:Int)<prd u m)(hc:qbp u m (dgF u m n)):∀i,i<m→0≤upN (fun w=>dgF u m n w+1) v 0 i∧upN (fun w=>dgF u m n w+1) v 0 i≤u i:=fun i hi=>by
 have h1:=(qip m hu n Ω hn).2 i hi;have h2:=hc i hi;have h3:=hu i hi;unfold upN;dsimp only;split<;>omega
theorem qlt{u:Nat→Int}{m n w x:Nat}(hu:∀i,i<m→1≤u i)(hn:(n:Int)<prd u m)(h:(nxL u m n)[w]? = some x):w<m∧(x:Int)<prd u m∧qbp u m (dgF u m n)∧∀i,i<m→dgF u m x i=if w=i then 0 else dgF u m n i+1:=by
 obtain⟨h1,h2,h3⟩:=qkA h;have hf:=qmy (v:=w) hu hn h1;have hb:=yY hf (xa5 m);have hx:(x:Int)=ixF u (upN (fun w=>dgF u m n w+1) w 0) m:=by rw[h3];omega
 refine⟨h2,Ω,h1,fun i hi=>?_⟩;rw[hx,qls m hf i hi];unfold upN;by_cases e:i=w
 ·rw[if_pos e,if_pos e.symm]
 ·rw[if_neg e,if_neg (Ne.symm e)]
theorem Pth.seq{L:Nat→List Nat}:∀{l:List Nat}{a b:Nat},Pth L a l b→∃x:Nat→Nat,x 0=a∧x l.length=b∧∀t,t<l.length→(L (x t))[l.getD t 0]? = some (x (t+1))
 |[],a,b,h=>⟨fun _=>a,rfl,h,fun t ht=>by cases ht⟩
 |w :: l,a,b,⟨y,h1,h2⟩=>by
  obtain⟨x,g1,g2,g3⟩:=h2.seq;refine⟨fun t=>match t with|0=>a|t+1=>x t,rfl,g2,fun t ht=>?_⟩;cases t with
  |zero=>show(L a)[w]? = some (x 0);rw[g1];exact h1
  |succ t=>exact g3 t (by simpa using ht)
theorem YL{t k:Nat}(hk:1≤k):(t+1) % k=if t % k+1=k then 0 else t % k+1:=by
 have h1:t % k<k:=Nat.mod_lt _ Ω;have h2:=Nat.div_add_mod t k;split
 ·rename_i e
  have:t+1=k*(t / k+1):=by rw[Nat.mul_add,Nat.mul_one];omega
  rw[this,Nat.mul_mod_right]
 ·rename_i e
  have:t+1=(t % k+1)+k*(t / k):=by omega
  rw[this,Nat.add_mul_mod_self_left,Nat.mod_eq_of_lt Ω]
theorem Rnd.walk{u:Nat→Int}{m N:Nat}{best:List Nat}(hu:∀i,i<m→1≤u i∧u i≤12)(hN:prd u m=(N:Nat))(hN2:N≤1000)(h:Rnd (nxL u m) N best):∃S,Wk4 m u best.length (fun t=>best.getD t 0) S:=by
 obtain⟨h1,h2,s,hs,hp⟩:=h;obtain⟨x,g1,g2,g3⟩:=hp.seq;have hu1:∀i,i<m→1≤u i:=fun i hi=>(hu i hi).1;have hk:1≤best.length:=List.length_pos_iff.2 h1;have hx:∀t,t≤best.length→((x t:Nat):Int)<prd u m:=fun t=>by
  induction t with
  |zero=>intro _;rw[g1];omega
  |succ t ih=>exact fun ht=>(qlt hu1 (ih Ω) (g3 t Ω)).2.1
 have hper:dgF u m (x best.length)=dgF u m (x 0):=by rw[g1,g2]
 have hst:∀t,t<best.length→best.getD t 0<m∧qbp u m (dgF u m (x t))∧∀i,i<m→dgF u m (x (t+1)) i=if best.getD t 0=i then 0 else dgF u m (x t) i+1:=fun t ht=>by
  obtain⟨a,_,b,c⟩:=qlt hu1 (hx t Ω) (g3 t ht);exact⟨a,b,c⟩
 refine⟨fun t w=>dgF u m (x (t % best.length)) w,hk,Ω,fun i hi=>(hst i hi).1,fun t w hw=>?_,fun t w hw=>?_,fun w hw=>?_⟩
 ·have ht:t % best.length<best.length:=Nat.mod_lt _ Ω
  have q1:=((qip m hu1 (x (t % best.length)) Ω (hx _ Ω)).2 w hw).1;have q2:=(hst _ ht).2.1 w hw;exact⟨q1,q2⟩
 ·have ht:t % best.length<best.length:=Nat.mod_lt _ Ω
  have q:=(hst _ ht).2.2 w hw;rw[←q];rw[YL hk];by_cases e:t % best.length+1=best.length
  ·rw[if_pos e,e,hper]
  ·rw[if_neg e]
 ·rw[Nat.mod_self,Nat.zero_mod]
end Go.Tn
end
section
namespace Go.Tn
open Go.Proofs
open Go.Sx
end Go.Tn
end
section
namespace Go.Tn
def hF(len:Nat→Nat)(to:Nat→Nat→Nat):Nat→Nat→Int
 |0,_=>-1
 |k+1,i=>if ∀j,j<len i→0≤hF len to k (to i j)then mxF (hF len to k) (to i) (len i)else -1
theorem qcR(F:Nat→Int)(to:Nat→Nat):∀m,0≤mxF F to m
 |0=>Int.le_refl _
 |m+1=>by have:=qcR F to m;rw[QP];omega
theorem VV{F:Nat→Int}{to:Nat→Nat}{X:Int}(hX:0≤X):∀m,(∀j,j<m→F (to j)<X)→mxF F to m≤X
 |0,_=>hX
 |m+1,h=>by
  have h1:=VV hX m fun j hj=>h j Ω;have h2:=h m Ω;rw[QP];omega
end Go.Tn
end
section
namespace Go.Tn
open Go.Proofs
open Go.Sx
end Go.Tn
end
section
namespace Go.Tn
open Go.Proofs
open Go.RowKit
open Go.Sx
end Go.Tn
end
