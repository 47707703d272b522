/- A part of the proof. -/
import Derived.Test.YtacejomniokahaaGreatPL
import Derived.Test.YtacejomniokahaaGreatPS
open Nat renaming reduceMul→xa0,reduceAdd→xa1,reduceEqDiff→xa2,reduceLT→xa3,reduceLeDiff→xa4,le_refl→xa5,zero_le→xb6,add_sub_cancel_left→xb7,sub_self→xb8,le_of_lt→xb9
open List renaming getD_eq_getElem?_getD→xc6,getElem?_eq_getElem→xc7,mem_append→xd4
set_option linter.unusedVariables false
set_option linter.unusedSimpArgs false
set_option linter.defProp false
set_option maxRecDepth 1000000
set_option maxHeartbeats 16000000
section
namespace Go.Tn
open Go.Proofs
open Go.Sx
open Go.He (zR V4 mem_lst yu)
theorem qpS(m:Nat)(u:Nat→Int):qf Tryz.prog 11 [hsv m u] (B (decide (m≤10∧ckH m u=0))):=by
 by_cases h10:m≤10
 ·exact c11 m u Ω
 have NB:True:=trivial;have hr0:True:=trivial;have d1:=decide_eq_false (Ω:¬((m:Nat):Int)≤10);refine qg Tryz.func11 rfl Ωd follows Ωd _ _ (by rw[Tryz.ntmps11];simp) Ωg ?_;unfold hsv B;(repeat' (first|refine sD ?_ ?_<;>intro _|refine aAj ?_|(simp -dsimp only[↓RP,RQ,xa0,reduceIte,reduceCtorEq,xa1,xa2,xa3,xa4,d1,TYQ,TYP,NB,QS,hr0,TYR,TYS,TYU,QT,QN])))
 all_goals try exact Ωb
 all_goals exact wu (by simp[h10])
def btX(o:Option (Nat×(Nat→Nat→SV)))(k:Nat)(rest:List (Nat×Blk)):List (Nat×Blk):=match o with
 |none=>rest
 |some (did,row)=>(did,.rows 51 3 k row) :: rest
def btS(o:Option (Nat×(Nat→Nat→SV)))(k:Nat):SV:=match o with
 |none=>.val (.slice none 0 0)
 |some (did,_)=>.vec did k 3
def btO(f:Nat→Int)(nb lo m:Nat)(o:Option (Nat×(Nat→Nat→SV))):Prop:=match o with
 |none=>nb=0
 |some (did,row)=>lo<did∧did<m∧∀i,i<nb→row i 0=.val (.int .i64 (f i))∧row i 1=.val (.int .i64 (-1))∧row i 2=.val (.int .i64 1)
theorem qce{f:Nat→Int}{nb lo m m2:Nat}{o:Option (Nat×(Nat→Nat→SV))}(h:btO f nb lo m o)(h2:m≤m2):btO f nb lo m2 o:=by
 rcases o with _|⟨did,row⟩
 ·exact h
 ·exact⟨h.1,(by have:=h.2.1;omega),h.2.2⟩
def bkA(m:Nat)(nb:Nat)(o:Option (Nat×(Nat→Nat→SV))):List SV:=[.val (.int .i64 0),.val (.int .i64 (m:Nat)),btS o nb,.val (.slice none 0 0),.val (.bool false),.val (.int .i64 0),.val (.int .i64 0),.val (.int .i64 1)]
theorem Jn{hp:List (Nat×Blk)}{f:Nat→Int}{m nb lo nid:Nat}{o:Option (Nat×(Nat→Nat→SV))}(h:btO f nb lo nid o)(hb:∀did row,o=some (did,row)→blk hp did=some (.rows 51 3 nb row)):Go.Sx.Sub hp (bkS m nb f (fun _=>-1) (fun _=>1) false 0 0 1) (.agg (bkA m nb o)):=by
 have h1:Go.Sx.Sub hp (zh nb f (fun _=>-1) (fun _=>1)) (btS o nb):=by
  rcases o with _|⟨did,row⟩
  ·have h0:nb=0:=h
   subst h0;exact⟨rfl,rfl⟩
  ·simp only[zh,btS,Go.Sx.Sub,hb did row rfl]
   refine⟨trivial,trivial,trivial,xa5 _,trivial,fun i j hi hj=>?_⟩;obtain⟨e0,e1,e2⟩:=h.2.2 i hi;rcases(Ω:j=0∨j=1∨j=2)with rfl|rfl|rfl
   ·rw[e0];simp[Go.Sx.Sub]
   ·rw[e1];simp[Go.Sx.Sub]
   ·rw[e2];simp[Go.Sx.Sub]
 simp only[bkS,bkA,Go.Sx.Sub,SubL,and_true,true_and];exact h1
theorem qjv(v n:Nat):∀k g,g∈fgs v n k→∃j,g=fgp v j n
 |0,g,h=>by cases h
 |k+1,g,h=>by
  rw[Jh,xd4]at h;rcases h with h|h
  ·exact qjv v n k g h
  ·split at h
   ·cases h
   ·exact⟨k,List.mem_singleton.1 h⟩
theorem qly(x m:Nat):∀i,i<(zR x m).length→nxP (fun i=>((zR x m).getD i 0:Nat)) i≤(((zR x m).getD i 0:Nat):Int)∧(((zR x m).getD i 0:Nat):Int)<m:=by
 intro i hi;have hinc:=(V4 (fun i=>x.testBit i) m);have hlt:(zR x m).getD i 0<m:=by
  rw[jO hi];exact(mem_lst.1 (List.getElem_mem hi)).1
 refine⟨?_,Ω⟩;cases i with
 |zero=>show(0:Int)≤_;omega
 |succ i=>
  rw[YS];have:=List.pairwise_iff_getElem.1 hinc.1 i (i+1) (by show i<(zR x m).length;omega) hi Ω;rw[jO hi,jO (Ω:i<(zR x m).length)];show(((zR x m)[i]:Nat):Int)+1≤((zR x m)[i+1]:Nat);have h2:(zR x m)[i]<(zR x m)[i+1]:=this;omega
theorem c4(m:Nat)(u:Nat→Int)(k:Nat)(t:Nat→Nat→Int)(ht:∀i j,i<k→j<2→0≤t i j∧t i j<256)(a:Int)(ha:0≤a∧a<256):qf Tryz.prog 4 [hsv m u,.arr false false k 2 (fun i j=>.val (.int .u8 (t i j))),.val (.int .u8 a)] (B true):=by
 refine qg Tryz.func4 rfl Ωd follows Ωd _ _ (by rw[Tryz.ntmps4];simp) (by simp[OldL,Old,QV,hsv,qA]) ?_;obtain⟨A,rfl⟩:∃A:Nat,a=(A:Nat):=⟨a.toNat,Ω⟩;have NB:True:=trivial;have hr0:True:=trivial;have h11:=qpS m u;have h12:=c12;by_cases hall:m≤10∧ckH m u=0
 case neg=>
  rw[decide_eq_false hall]at h11;unfold hsv B at *;(repeat' (first|refine sD ?_ ?_<;>intro _|refine aAj ?_|(simp -dsimp only[↓RP,RQ,xa0,reduceIte,reduceCtorEq,xa1,xa2,xa3,xa4,TYQ,TYP,NB,QS,hr0,TYR,TYS,TYU,↓RY,QT,QN])))
  all_goals try exact Ωb
  refine qj (h11) Ωm ΩL ?_;(repeat' (first|refine sD ?_ ?_<;>intro _|refine aAj ?_|(simp -dsimp only[↓RP,RQ,xa0,reduceIte,reduceCtorEq,xa1,xa2,xa3,xa4,TYQ,TYP,NB,QS,hr0,TYR,TYS,TYU,↓RY,QT,QN])))
  all_goals try exact Ωb
  refine qj (h12) (by simp[SubL]) ΩL ?_;(repeat' (first|refine sD ?_ ?_<;>intro _|refine aAj ?_|(simp -dsimp only[↓RP,RQ,xa0,reduceIte,reduceCtorEq,xa1,xa2,xa3,xa4,TYQ,TYP,NB,QS,hr0,TYR,TYS,TYU,↓RY,QT,QN])))
  all_goals try exact Ωb
 rw[decide_eq_true hall]at h11;obtain⟨hm1,hm5,hu,_⟩:=GL hall.2;by_cases hm2:m<2
 ·have d2:=decide_eq_true (Ω:((m:Nat):Int)<2)
  unfold hsv B at *;(repeat' (first|refine sD ?_ ?_<;>intro _|refine aAj ?_|(simp -dsimp only[↓RP,RQ,xa0,reduceIte,reduceCtorEq,xa1,xa2,xa3,xa4,d2,TYQ,TYP,NB,QS,hr0,TYR,TYS,TYU,↓RY,QT,QN])))
  all_goals try exact Ωb
  refine qj (h11) Ωm ΩL ?_;(repeat' (first|refine sD ?_ ?_<;>intro _|refine aAj ?_|(simp -dsimp only[↓RP,RQ,xa0,reduceIte,reduceCtorEq,xa1,xa2,xa3,xa4,d2,TYQ,TYP,NB,QS,hr0,TYR,TYS,TYU,↓RY,QT,QN])))
  all_goals try exact Ωb
  refine qj (h12) (by simp[SubL]) ΩL ?_;(repeat' (first|refine sD ?_ ?_<;>intro _|refine aAj ?_|(simp -dsimp only[↓RP,RQ,xa0,reduceIte,reduceCtorEq,xa1,xa2,xa3,xa4,TYQ,TYP,NB,QS,hr0,TYR,TYS,TYU,↓RY,QT,QN])))
  all_goals try exact Ωb
 have d2:=decide_eq_false (Ω:¬((m:Nat):Int)<2);by_cases hk90:90<k
 ·have d3:=decide_eq_true (Ω:(90:Int)<((k:Nat):Int))
  unfold hsv B at *;(repeat' (first|refine sD ?_ ?_<;>intro _|refine aAj ?_|(simp -dsimp only[↓RP,RQ,xa0,reduceIte,reduceCtorEq,xa1,xa2,xa3,xa4,d2,d3,TYQ,TYP,NB,QS,hr0,TYR,TYS,TYU,↓RY,QT,QN])))
  all_goals try exact Ωb
  refine qj (h11) Ωm ΩL ?_;(repeat' (first|refine sD ?_ ?_<;>intro _|refine aAj ?_|(simp -dsimp only[↓RP,RQ,xa0,reduceIte,reduceCtorEq,xa1,xa2,xa3,xa4,d2,d3,TYQ,TYP,NB,QS,hr0,TYR,TYS,TYU,↓RY,QT,QN])))
  all_goals try exact Ωb
  refine qj (h12) (by simp[SubL]) ΩL ?_;(repeat' (first|refine sD ?_ ?_<;>intro _|refine aAj ?_|(simp -dsimp only[↓RP,RQ,xa0,reduceIte,reduceCtorEq,xa1,xa2,xa3,xa4,TYQ,TYP,NB,QS,hr0,TYR,TYS,TYU,↓RY,QT,QN])))
  all_goals try exact Ωb
 have d3:=decide_eq_false (Ω:¬(90:Int)<((k:Nat):Int));have h15:=c15 m u Ω;unfold hsv B at *;(repeat' (first|refine sD ?_ ?_<;>intro _|refine aAj ?_|(simp -dsimp only[↓RP,RQ,xa0,reduceIte,reduceCtorEq,xa1,xa2,xa3,xa4,d2,d3,TYQ,TYP,NB,QS,hr0,TYR,TYS,TYU,↓RY,QT,QN])))
 all_goals try exact Ωb
 refine qj (h11) Ωm ΩL ?_;(repeat' (first|refine sD ?_ ?_<;>intro _|refine aAj ?_|(simp -dsimp only[↓RP,RQ,xa0,reduceIte,reduceCtorEq,xa1,xa2,xa3,xa4,d2,d3,TYQ,TYP,NB,QS,hr0,TYR,TYS,TYU,↓RY,QT,QN])))
 all_goals try exact Ωb
 refine qj (h15) Ωm ΩL ?_;(repeat' (first|refine sD ?_ ?_<;>intro _|refine aAj ?_|(simp -dsimp only[↓RP,RQ,xa0,reduceIte,reduceCtorEq,xa1,xa2,xa3,xa4,d2,d3,TYQ,TYP,NB,QS,hr0,TYR,TYS,TYU,↓RY,QT,QN])))
 all_goals try exact Ωb
 refine qn (fun(z:Nat×Nat×Nat×(Nat→Int)×(Nat→Int)×(Nat→Int)×(Nat→Nat→SV)×Option (Nat×(Nat→Nat→SV)))=>z.1≤k∧PP m z.2.1 z.2.2.2.1 z.2.2.2.2.1 z.2.2.2.2.2.1∧(∀r,r<m→z.2.2.2.2.2.1 r≤u r)∧(∀r,r<m→z.2.2.2.2.2.2.1 r 0=.val (.int .i64 (z.2.2.2.2.1 r)))∧btO z.2.2.2.1 z.2.1 28 z.2.2.1 z.2.2.2.2.2.2.2∧28<z.2.2.1) (fun z=>⟨[(1,.arr false false k 2 (fun i j=>.val (.int .u8 (t i j)))),(2,.val (.int .u8 (A:Nat))),(3,.ptr 0 0),(7,.val (.int .i64 (m:Nat))),(8,.ptr 22 0),(9,(.arr true false m 1 (fun i _=>.val (.int .i64 (z.2.2.2.2.2.1 i))))),(10,.vec 28 m 1),(11,.val (.int .i64 (z.1:Nat)))],(28,.rows 3 1 m (z.2.2.2.2.2.2.1)) ::(22,.cells 48 (bkA m z.2.1 z.2.2.2.2.2.2.2)) ::(0,.cells 24 [.arr false false m 1 (fun i _=>.val (.int .i64 (u i)))]) :: btX z.2.2.2.2.2.2.2 z.2.1 [],z.2.2.1⟩) (fun z=>k - z.1) (0,0,35,fun _=>0,fun _=>0,fun _=>0,fun x j=>SV.val ([Value.int IntKind.i64 0].getD j undef),none) ⟨xb6 _,PP.zero m _,fun r hr=>(by have:=hu r hr;dsimp only;omega),fun r hr=>rfl,rfl,Ωe⟩ (weakSU Ωe Ωf (SubHp.refl _)) fun z hz=>?_;obtain⟨i,nb,nid,f,add,s,arow,o⟩:=z;obtain⟨hi,hP,hsu,har,hbt,hnid⟩:=hz;dsimp only at hi hP hsu har hbt hnid ⊢;clear NB;have NB:=(⟨nmA (Ω:0<nid),nmA (Ω:22<nid),nmA (Ω:28<nid)⟩:_∧_∧_);refine if hik:i<k then ?body else ?ext
 case' body=>
  have hlt:=decide_eq_true (Ω:((i:Nat):Int)<(k:Nat));have b0:=ht i 0 hik Ω;have b1:=ht i 1 hik Ω;have hln:rLen (some ⟨false,1,some [.slice none 0 0],.slice 51 3⟩) (btS o nb)=.pure True (.val (.int .i64 (nb:Nat))):=by
   rcases o with _|⟨did,row⟩
   ·have h0:nb=0:=hbt
    subst h0;rfl
   ·rfl
  have hb64:IntKind.i64.bits=64:=rfl;obtain⟨M,hM⟩:∃M:Nat,M=2^m:=⟨_,rfl⟩;have hMb:4≤M∧M≤32:=by
   rcases(Ω:m=2∨m=3∨m=4∨m=5)with e|e|e|e<;>(subst e;subst hM;decide)
  have hpw:(1:Int)*2^m=(M:Nat):=by rw[hM,Int.one_mul];norm_cast
  obtain⟨x,hx,hxM⟩:∃x:Nat,Int.tmod (t i 0) (M:Nat)=(x:Nat)∧x<M:=by
   have g1:=Int.tmod_nonneg (M:Nat) b0.1;have g2:=Int.tmod_lt_of_pos (t i 0) (Ω:(0:Int)<(M:Nat));exact⟨(Int.tmod (t i 0) (M:Nat)).toNat,Ω,Ω⟩
  obtain⟨v,hv,hvm⟩:∃v:Nat,Int.tmod (t i 1) (m:Nat)=(v:Nat)∧v<m:=by
   have g1:=Int.tmod_nonneg (m:Nat) b1.1;have g2:=Int.tmod_lt_of_pos (t i 1) (Ω:(0:Int)<(m:Nat));exact⟨(Int.tmod (t i 1) (m:Nat)).toNat,Ω,Ω⟩
  have h16:=c16 x m Ω (by rw[←hM];exact hxM);have hbk:=qly x m;have hbn:(zR x m).Nodup:=yu _ _;have hbl:∀y,y∈zR x m→y<m:=fun y hy=>(mem_lst.1 hy).1;have hb5:(zR x m).length≤m:=J7 x m;obtain⟨l,hl⟩:∃l,l=zR x m:=⟨_,rfl⟩;rw[←hl]at h16 hbk hbn hbl hb5;have hnb:=hP.hb;unfold bkA;(repeat' (first|refine sD ?_ ?_<;>intro _|refine aAj ?_|(simp -dsimp only[↓RP,RQ,xa0,reduceIte,reduceCtorEq,xa1,xa2,xa3,xa4,hlt,hb64,hpw,hx,TYQ,TYP,NB,QS,hr0,TYR,TYS,TYU,↓RY,QT,QN])))
  all_goals try exact Ωb
  refine qj (h16) (by(simp -dsimp only[↓RP,RQ,xa0,reduceIte,reduceCtorEq,xa1,xa2,xa3,xa4,QV,I]);all_goals (try simp[QV,Go.Sx.Sub,Go.Sx.SubL])) (by simp[Fresh,FreshL,nsv]) ?_;refine if hbr:100<nb+l.length then ?brk else ?cont
  case' brk=>
   have d5:=decide_eq_true (Ω:(100:Int)<((nb:Nat):Int)+((l.length:Nat):Int));(repeat' (first|refine sD ?_ ?_<;>intro _|refine aAj ?_|(simp -dsimp only[↓RP,RQ,xa0,reduceIte,reduceCtorEq,xa1,xa2,xa3,xa4,hv,hln,nsv,d5,TYQ,TYP,NB,QS,hr0,TYR,TYS,TYU,↓RY,QT,QN])))
   all_goals try exact Ωb
  case cont=>
   have d5:=decide_eq_false (Ω:¬(100:Int)<((nb:Nat):Int)+((l.length:Nat):Int));have hs:∀i,i<m→0≤s i∧s i≤u i:=fun i hi=>⟨hP.hs i hi,hsu i hi⟩;(repeat' (first|refine sD ?_ ?_<;>intro _|refine aAj ?_|(simp -dsimp only[↓RP,RQ,xa0,reduceIte,reduceCtorEq,xa1,xa2,xa3,xa4,hv,hln,nsv,d5,TYQ,TYP,NB,QS,hr0,TYR,TYS,TYU,↓RY,QT,QN])))
   all_goals try exact Ωb
   by_cases ho:okP (fun i=>wZ l.length (fun i=>(l.getD i 0:Nat)) (i:Nat)) (vd m s) u m
   ·have h17:qf Tryz.prog 17 [hsv m u,qA m s,qA l.length (fun i=>(l.getD i 0:Nat)),I v] (.tup [.arr true false m 1 (fun i _=>.val (.int .i64 (nxS m l v s i))),I (Kv m l v s),I 0]):=qoF m l.length v u s (fun i=>(l.getD i 0:Nat)) hall.2 hs Ω hbk hvm ho
    have hs':=qne (v:=v) hs ho;have hgt:=qlt hvm hs ho;have huv:=hu v hvm;have h18:=c18 m u (nxS m l v s) hall.2 hs';have hbd:=hP.bd hvm;have dg0:=decide_eq_false (Ω:¬Kv m l v s<0);have dg1:=decide_eq_false (Ω:¬12<Kv m l v s);have hav:=har v hvm;refine qj (h17) Ωl Ωa ?_;(repeat' (first|refine sD ?_ ?_<;>intro _|refine aAj ?_|(simp -dsimp only[↓RP,RQ,xa0,reduceIte,reduceCtorEq,xa1,xa2,xa3,xa4,QT,dg0,dg1,TYQ,TYP,NB,QS,hr0,TYR,TYS,TYU,↓RY,QN])))
    all_goals try exact Ωb
    refine qj (h18) Ωl Ωa ?_;(repeat' (first|refine sD ?_ ?_<;>intro _|refine aAj ?_|(simp -dsimp only[↓RP,RQ,xa0,reduceIte,reduceCtorEq,xa1,xa2,xa3,xa4,QT,dg0,dg1,hav,TYQ,TYP,NB,QS,hr0,TYR,TYS,TYU,↓RY,QN])))
    all_goals try exact Ωb
    refine qn (fun(z:Nat×Nat×Option (Nat×(Nat→Nat→SV)))=>z.1≤l.length∧btO (apF f nb l) (nb+z.1) 28 z.2.1 z.2.2∧nid<z.2.1) (fun z=>⟨[(1,.arr false false k 2 (fun i j=>.val (.int .u8 (t i j)))),(2,.val (.int .u8 (A:Nat))),(3,.ptr 0 0),(7,.val (.int .i64 (m:Nat))),(8,.ptr 22 0),(9,(.arr true false m 1 (fun i _=>.val (.int .i64 ((nxS m l v s) i))))),(10,.vec 28 m 1),(11,.val (.int .i64 (i:Nat))),(12,(.arr true false l.length 1 (fun i _=>.val (.int .i64 (l.getD i 0:Nat))))),(17,.val (.int .i64 (z.1:Nat)))],(28,.rows 3 1 m (fun a b=>if a=v∧b=0 then .val (.int .i64 (add v+Kv m l v s))else arow a b)) ::(22,.cells 48 (bkA m (nb+z.1) z.2.2)) ::(0,.cells 24 [.arr false false m 1 (fun i _=>.val (.int .i64 (u i)))]) :: btX z.2.2 (nb+z.1) [],z.2.1⟩) (fun z=>l.length - z.1) (0,nid+200,o) ⟨xb6 _,?hi1,Ωe⟩ (weakSU Ωe Ωf (SubHp.refl _)) fun z hz=>?_
    case hi1=>
     rcases o with _|⟨did,row⟩
     ·exact hbt
     ·refine⟨hbt.1,(by have:=hbt.2.1;dsimp only;omega),fun i hi=>?_⟩
      have hi':i<nb:=hi;rw[show apF f nb l i=f i by unfold apF;rw[if_pos hi']];exact hbt.2.2 i hi'
    obtain⟨j,nid2,o2⟩:=z;obtain⟨hj,hb2,hn2⟩:=hz;dsimp only at hj hb2 hn2 ⊢;clear NB;by_cases hjl:j<l.length
    ·have hlt2:=decide_eq_true (Ω:((j:Nat):Int)<(l.length:Nat))
     have h24:=c24 (l.getD j 0:Nat) (-1) 1;unfold bkA;rcases o2 with _|⟨did,row⟩
     ·have hz0:nb+j=0:=hb2
      have NB:=(⟨nmA (Ω:0<nid2),nmA (Ω:22<nid2),nmA (Ω:28<nid2)⟩:_∧_∧_);dsimp only[btX,btS];(repeat' (first|refine sD ?_ ?_<;>intro _|refine aAj ?_|(simp -dsimp only[↓RP,RQ,xa0,reduceIte,reduceCtorEq,xa1,xa2,xa3,xa4,hlt2,TYQ,TYP,NB,QS,hr0,TYR,TYS,TYU,↓RY,QT,QN])))
      all_goals try exact Ωb
      refine qj (h24) Ωl (by simp[Fresh,FreshL,jR]) ?_;(repeat' (first|refine sD ?_ ?_<;>intro _|refine aAj ?_|(simp -dsimp only[↓RP,RQ,xa0,reduceIte,reduceCtorEq,xa1,xa2,xa3,xa4,QT,jR,TYQ,TYP,NB,QS,hr0,TYR,TYS,TYU,↓RY,QN])))
      all_goals try exact Ωb
      have e1:nb+(j+1)=1:=by omega
      have hq:apF f nb l 0=(l.getD j 0:Nat):=by unfold apF;rw[if_neg Ω,show 0 - nb=j by omega]
      refine⟨(j+1,nid2+18,some (nid2+12,fun i j1=>[SV.val (.int .i64 (l.getD j 0:Nat)),.val (.int .i64 (-1)),.val (.int .i64 1)].getD (i*3+j1) .top)),⟨hjl,?hi2,Ωe⟩,Ωe,weakSU (xa5 _) Ωf ?hs2⟩
      case hi2=>
       dsimp only;refine⟨Ω,Ω,fun i hi=>?_⟩;obtain rfl:i=0:=by omega
       rw[hq];exact⟨rfl,rfl,rfl⟩
      case hs2=>
       dsimp only;rw[e1]
       (try dsimp only[btX,btS])
       (intro q v hv;simp only[blk]at hv ⊢;((repeat' split at hv)<;>(repeat' split)<;>first|exact hv|(exfalso;omega)|cases hv))
     ·obtain⟨g1,g2,g3⟩:=hb2
      have NB:=(⟨nmA (Ω:0<nid2),nmA (Ω:22<nid2),nmA (Ω:28<nid2),nmA (Ω:did<nid2),nmE (Ω:did≠0),nmE (Ω:did≠22),nmE (Ω:did≠28)⟩:_∧_∧_∧_∧_∧_∧_);dsimp only[btX,btS];(repeat' (first|refine sD ?_ ?_<;>intro _|refine aAj ?_|(simp -dsimp only[↓RP,RQ,xa0,reduceIte,reduceCtorEq,xa1,xa2,xa3,xa4,hlt2,TYQ,TYP,NB,QS,hr0,TYR,TYS,TYU,↓RY,QT,QN])))
      all_goals try exact Ωb
      refine qj (h24) Ωl (by simp[Fresh,FreshL,jR]) ?_;(repeat' (first|refine sD ?_ ?_<;>intro _|refine aAj ?_|(simp -dsimp only[↓RP,RQ,xa0,reduceIte,reduceCtorEq,xa1,xa2,xa3,xa4,QT,jR,TYQ,TYP,NB,QS,hr0,TYR,TYS,TYU,↓RY,QN])))
      all_goals try exact Ωb
      have hq:apF f nb l (nb+j)=(l.getD j 0:Nat):=by unfold apF;rw[if_neg Ω,xb7]
      refine⟨(j+1,nid2+18,some (nid2+12,fun i j1=>if i<nb+j then row i j1 else [SV.val (.int .i64 (l.getD j 0:Nat)),.val (.int .i64 (-1)),.val (.int .i64 1)].getD ((i -(nb+j))*3+j1) .top)),⟨hjl,?hi3,Ωe⟩,Ωe,weakSU (xa5 _) Ωf ?hs3⟩
      case hi3=>
       dsimp only;refine⟨Ω,Ω,fun i hi=>?_⟩;by_cases e:i<nb+j
       ·simp only[if_pos e];exact g3 i e
       ·obtain rfl:i=nb+j:=by omega
        simp only[if_neg e,xb8];rw[hq];exact⟨rfl,rfl,rfl⟩
      case hs3=>
       dsimp only
       (try dsimp only[btX,btS])
       (intro q v hv;simp only[blk]at hv ⊢;((repeat' split at hv)<;>(repeat' split)<;>first|exact hv|(exfalso;omega)|cases hv))
    ·obtain rfl:j=l.length:=by omega
     have hlt2:=decide_eq_false (Ω:¬((l.length:Nat):Int)<(l.length:Nat));have NB:=(⟨nmA (Ω:0<nid2),nmA (Ω:22<nid2),nmA (Ω:28<nid2)⟩:_∧_∧_);(repeat' (first|refine sD ?_ ?_<;>intro _|refine aAj ?_|(simp -dsimp only[↓RP,RQ,xa0,reduceIte,reduceCtorEq,xa1,xa2,xa3,xa4,hlt2,TYQ,TYP,NB,QS,hr0,TYR,TYS,TYU,↓RY,QT,QN])))
     all_goals try exact Ωb
     refine⟨(i+1,nb+l.length,_,apF f nb l,upN add v (add v+Kv m l v s),nxS m l v s,fun a b=>if a=v∧b=0 then .val (.int .i64 (add v+Kv m l v s))else arow a b,o2),⟨hik,hP.turn hbn hbl Ω hvm,fun r hr=>(hs' r hr).2,?hn3,qce hb2 ?hn4,?hn5⟩,Ωe,weakSU (xa5 _) Ωf (SubHp.refl _)⟩
     case hn3=>
      intro r hr;dsimp only;unfold upN;by_cases e:r=v
      ·rw[if_pos ⟨e,rfl⟩,if_pos e]
      ·rw[if_neg (fun e2=>e e2.1),if_neg e];exact har r hr
     case hn4=>dsimp only;omega
     case hn5=>dsimp only;omega
   ·have h17:=qoG m l.length v u s (fun i=>(l.getD i 0:Nat)) hall.2 hs Ω hbk hvm ho
    refine qj (h17) Ωl Ωa ?_;(repeat' (first|refine sD ?_ ?_<;>intro _|refine aAj ?_|(simp -dsimp only[↓RP,RQ,xa0,reduceIte,reduceCtorEq,xa1,xa2,xa3,xa4,QT,TYQ,TYP,NB,QS,hr0,TYR,TYS,TYU,↓RY,QN])))
    all_goals try exact Ωb
    refine⟨(i+1,nb,_,f,add,s,arow,o),⟨hik,hP,hsu,har,qce hbt ?hn1,?hn2⟩,Ωe,weakSU (xa5 _) Ωf (SubHp.refl _)⟩
    case hn1=>dsimp only;omega
    case hn2=>dsimp only;omega
 case' ext=>
  have hlt:=decide_eq_false (Ω:¬((i:Nat):Int)<(k:Nat));unfold bkA;(repeat' (first|refine sD ?_ ?_<;>intro _|refine aAj ?_|(simp -dsimp only[↓RP,RQ,xa0,reduceIte,reduceCtorEq,xa1,xa2,xa3,xa4,hlt,TYQ,TYP,NB,QS,hr0,TYR,TYS,TYU,↓RY,QT,QN])))
  all_goals try exact Ωb
 all_goals
  have hnb:=hP.hb;have h25:=c25 m nb f (fun _=>-1) (fun _=>1) false 0 0 1 Ω;rw[qdT m nb f Ω Ω hnb hP.hf]at h25;refine qj h25 (by simp only[SubL,and_true];exact Jn hbt (fun did row e=>by subst e;have g1:28<did:=hbt.1;have g2:did<nid:=hbt.2.1;simp only[btX,blk];(repeat rw[if_neg Ω]);rfl)) (by simp[Fresh,I]) ?_;(repeat' (first|refine sD ?_ ?_<;>intro _|refine aAj ?_|(simp -dsimp only[↓RP,RQ,xa0,reduceIte,reduceCtorEq,xa1,xa2,xa3,xa4,QT,TYQ,TYP,NB,QS,hr0,TYR,TYS,TYU,↓RY,QN])))
  all_goals try exact Ωb
  refine qn (fun(z:Nat×Nat)=>z.1≤m∧nid<z.2) (fun z=>⟨[(2,.val (.int .u8 (A:Nat))),(7,.val (.int .i64 (m:Nat))),(8,.ptr 22 0),(9,(.arr true false m 1 (fun i _=>.val (.int .i64 (s i))))),(10,.vec 28 m 1),(18,.val (.int .i64 (smN (fun r=>add r+s r) z.1))),(19,.val (.int .i64 (z.1:Nat)))],(28,.rows 3 1 m (arow)) ::(22,.cells 48 (bkA m nb o)) ::(0,.cells 24 [.arr false false m 1 (fun i _=>.val (.int .i64 (u i)))]) :: btX o nb [],z.2⟩) (fun z=>m - z.1) (0,nid+100) ⟨xb6 _,Ωe⟩ (weakSU Ωe (by simp[qX,Go.Sx.look];rfl) (SubHp.refl _)) fun z hz=>?_;obtain⟨r,nid2⟩:=z;obtain⟨hr,hn2⟩:=hz;dsimp only at hr hn2 ⊢;clear NB;have NB:=(⟨nmA (Ω:0<nid2),nmA (Ω:22<nid2),nmA (Ω:28<nid2)⟩:_∧_∧_);unfold bkA;have hbt2:=qce hbt (xb9 hn2);by_cases hrm:r<m
  ·have hlt2:=decide_eq_true (Ω:((r:Nat):Int)<(m:Nat))
   have h26:=c26 nb m f (r:Nat) hnb;rw[←hP.he r hrm]at h26;have hav:=har r hrm;have hbd:=hP.bd hrm;have hsm:=qjq (V:=fun r=>add r+s r) (b:=200) Ω r (fun x hx=>by have:=hP.bd (Ω:x<m);show 0≤add x+s x∧add x+s x≤200;omega);(repeat' (first|refine sD ?_ ?_<;>intro _|refine aAj ?_|(simp -dsimp only[↓RP,RQ,xa0,reduceIte,reduceCtorEq,xa1,xa2,xa3,xa4,hlt2,TYQ,TYP,NB,QS,hr0,TYR,TYS,TYU,↓RY,QT,QN])))
   all_goals try exact Ωb
   refine qj h26 (by simp only[SubL,and_true];exact⟨Jn hbt2 (fun did row e=>by subst e;have g1:28<did:=hbt.1;have g2:did<nid:=hbt.2.1;simp only[btX,blk];(repeat rw[if_neg Ω]);rfl),qR _ (by simp[Old,OldL,I])⟩) (by simp[Fresh,I]) ?_;(repeat' (first|refine sD ?_ ?_<;>intro _|refine aAj ?_|(simp -dsimp only[↓RP,RQ,xa0,reduceIte,reduceCtorEq,xa1,xa2,xa3,xa4,QT,hav,TYQ,TYP,NB,QS,hr0,TYR,TYS,TYU,↓RY,QN])))
   all_goals try exact Ωb
   refine⟨(r+1,_),⟨hrm,?hq1⟩,Ωe,weakSU (xa5 _) (by simp[qX,Go.Sx.look,Zw]) (SubHp.refl _)⟩
   case hq1=>dsimp only;omega
  ·obtain rfl:r=m:=by omega
   have hlt2:=decide_eq_false (Ω:¬((r:Nat):Int)<(r:Nat));have hsum:smN (fun x=>add x+s x) r=(nb:Nat):=by
    rw[VA r fun x hx=>hP.he x hx];exact qjp nb hP.hf
   rw[hsum];have h28:=c28 r nb A f Ω Ω hnb Ω;have hfin:=qan A r 8;have hflt:=Vx A r 8;have hmem:=WL A r 8;have hgl:=qdV A r 8;have hg8:∀g,g∈fgs A r 8→g.length≤8:=fun g hg=>by
    obtain⟨y,rfl⟩:=qjv A r 8 g hg;have:=qdU A y r;omega
   obtain⟨G,hG⟩:∃G,G=fgs A r 8:=⟨_,rfl⟩;rw[←hG]at h28 hfin hflt hmem hgl hg8;obtain⟨D,hD⟩:∃D,D=dvl f nb (fun i=>(G.getD 0 []).getD i 0) (G.getD 0 []).length:=⟨_,rfl⟩;have h27:=c27 r nb f Ω Ω hnb hP.hf G hgl hg8 hfin hflt (fun x=>⟨fun h=>((hmem x).1 h).1,fun h=>(hmem x).2 ⟨h,qmW A x⟩⟩) D hD;have hD8:D.length≤8:=by
    have:=Zv f nb (fun i=>(G.getD 0 []).getD i 0) (G.getD 0 []).length;rw[←hD]at this;by_cases hne:1≤G.length
    ·have hgm:G.getD 0 []∈G:=by
      rw[xc6,xc7 hne];exact List.getElem_mem _
     have:=hg8 _ hgm;omega
    ·have e0:G.getD 0 []=[]:=by rw[List.eq_nil_of_length_eq_zero (Ω:G.length=0)];rfl
     rw[e0]at this;simp only[List.length_nil]at this;omega
   have hac:=qnd f nb D;have hab:=qoo f nb D hnb hD8;have h29:=c29 r nb f Ω Ω hnb hP.hf;have hF:=qca (cV f nb) r Ω;have hG2:∀x,x<r→add x+s x≤add (amx (cV f nb) r)+s (amx (cV f nb) r):=fun x hx=>by
    rw[hP.he x hx,hP.he _ hF];exact qiY (cV f nb) r x hx
   obtain⟨F,hFe⟩:∃F,F=amx (cV f nb) r:=⟨_,rfl⟩;rw[←hFe]at h29 hF hG2;(repeat' (first|refine sD ?_ ?_<;>intro _|refine aAj ?_|(simp -dsimp only[↓RP,RQ,xa0,reduceIte,reduceCtorEq,xa1,xa2,xa3,xa4,hlt2,TYQ,TYP,NB,QS,hr0,TYR,TYS,TYU,↓RY,QT,QN])))
   all_goals try exact Ωb
   refine qj h28 (by simp only[SubL,and_true];exact⟨Jn hbt2 (fun did row e=>by subst e;have g1:28<did:=hbt.1;have g2:did<nid:=hbt.2.1;simp only[btX,blk];(repeat rw[if_neg Ω]);rfl),(by simp only[Go.Sx.Sub,blk,if_true,true_and,xa5];intro i j hi hj;(obtain rfl:j=0:=by omega);rcases(Ω:i=0∨i=1∨i=2)with rfl|rfl|rfl<;>simp[Go.Sx.Sub])⟩) ΩL ?_;(repeat' (first|refine sD ?_ ?_<;>intro _|refine aAj ?_|(simp -dsimp only[↓RP,RQ,xa0,reduceIte,reduceCtorEq,xa1,xa2,xa3,xa4,QT,TYQ,TYP,NB,QS,hr0,TYR,TYS,TYU,↓RY,QN])))
   all_goals try exact Ωb
   refine qj h27 (by simp only[SubL,and_true];exact⟨Jn hbt2 (fun did row e=>by subst e;have g1:28<did:=hbt.1;have g2:did<nid:=hbt.2.1;simp only[btX,blk];(repeat rw[if_neg Ω]);rfl),by simp[Go.Sx.Sub]⟩) (by simp[Fresh,FreshL,I]) ?_;(repeat' (first|refine sD ?_ ?_<;>intro _|refine aAj ?_|(simp -dsimp only[↓RP,RQ,xa0,reduceIte,reduceCtorEq,xa1,xa2,xa3,xa4,QT,hac,TYQ,TYP,NB,QS,hr0,TYR,TYS,TYU,↓RY,QN])))
   all_goals try exact Ωb
   have dF0:=decide_eq_false (Ω:¬((F:Nat):Int)<0);have dF1:=decide_eq_false (Ω:¬((r:Nat):Int)≤(F:Nat));refine qj h29 (by simp only[SubL,and_true];exact Jn hbt2 (fun did row e=>by subst e;have g1:28<did:=hbt.1;have g2:did<nid:=hbt.2.1;simp only[btX,blk];(repeat rw[if_neg Ω]);rfl)) (by simp[Fresh,FreshL,I]) ?_;(repeat' (first|refine sD ?_ ?_<;>intro _|refine aAj ?_|(simp -dsimp only[↓RP,RQ,xa0,reduceIte,reduceCtorEq,xa1,xa2,xa3,xa4,QT,dF0,dF1,TYQ,TYP,NB,QS,hr0,TYR,TYS,TYU,↓RY,QN])))
   all_goals try exact Ωb
   refine qn (fun(z:Nat×Nat)=>z.1≤r∧nid2<z.2) (fun z=>⟨[(7,.val (.int .i64 (r:Nat))),(9,(.arr true false r 1 (fun i _=>.val (.int .i64 (s i))))),(10,.vec 28 r 1),(23,.val (.int .i64 (F:Nat))),(24,.val (.int .i64 (z.1:Nat)))],[(28,.rows 3 1 r arow)],z.2⟩) (fun z=>r - z.1) (0,nid2+100) ⟨xb6 _,Ωe⟩ (weakSU Ωe Ωf ?hs9) fun z hz=>?_
   case hs9=>(intro q v hv;simp only[blk]at hv ⊢;((repeat' split at hv)<;>(repeat' split)<;>first|exact hv|(exfalso;omega)|cases hv))
   obtain⟨x,nid3⟩:=z;obtain⟨hx,hn3⟩:=hz;dsimp only at hx hn3 ⊢;clear NB;have NB:=nmA (Ω:28<nid3);by_cases hxr:x<r
   ·have hlt3:=decide_eq_true (Ω:((x:Nat):Int)<(r:Nat))
    have hav:=har x hxr;have haF:=har F hF;have hb1:=hP.bd hxr;have hb2:=hP.bd hF;have dgt:=decide_eq_false (show ¬add F+s F<add x+s x by have:=hG2 x hxr;omega);(repeat' (first|refine sD ?_ ?_<;>intro _|refine aAj ?_|(simp -dsimp only[↓RP,RQ,xa0,reduceIte,reduceCtorEq,xa1,xa2,xa3,xa4,hlt3,hav,haF,dgt,TYQ,TYP,NB,QS,hr0,TYR,TYS,TYU,↓RY,QT,QN])))
    all_goals try exact Ωb
    refine⟨(x+1,_),⟨hxr,?hq2⟩,Ωe,weakSU (xa5 _) Ωf (SubHp.refl _)⟩
    case hq2=>dsimp only;omega
   ·obtain rfl:x=r:=by omega
    have hlt3:=decide_eq_false (Ω:¬((x:Nat):Int)<(x:Nat));(repeat' (first|refine sD ?_ ?_<;>intro _|refine aAj ?_|(simp -dsimp only[↓RP,RQ,xa0,reduceIte,reduceCtorEq,xa1,xa2,xa3,xa4,hlt3,TYQ,TYP,NB,QS,hr0,TYR,TYS,TYU,↓RY,QT,QN])))
    all_goals try exact Ωb
    refine qj (h12) (by simp[SubL]) ΩL ?_;(repeat' (first|refine sD ?_ ?_<;>intro _|refine aAj ?_|(simp -dsimp only[↓RP,RQ,xa0,reduceIte,reduceCtorEq,xa1,xa2,xa3,xa4,TYQ,TYP,NB,QS,hr0,TYR,TYS,TYU,↓RY,QT,QN])))
    all_goals try exact Ωb
end Go.Tn
end
