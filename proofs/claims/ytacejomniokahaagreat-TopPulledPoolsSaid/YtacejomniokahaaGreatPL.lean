/- A part of the proof. -/
import Derived.Test.YtacejomniokahaaGreatPK
import Derived.Test.YtacejomniokahaaGreatPE
import Derived.Test.YtacejomniokahaaGreatPG
open Nat renaming reduceMul→xa0,reduceAdd→xa1,reduceEqDiff→xa2,reduceLT→xa3,reduceLeDiff→xa4,le_refl→xa5,zero_le→xb6,add_sub_cancel_left→xb7
open List renaming getD_eq_getElem?_getD→xc6,getElem?_eq_getElem→xc7,mem_append→xd4,mem_singleton→xe0
set_option linter.unusedVariables false
set_option linter.unusedSimpArgs false
set_option linter.defProp false
set_option maxRecDepth 1000000
set_option maxHeartbeats 16000000
section
namespace Go.Tn
open Go.Proofs
open Go.Sx
def pdS(f:Nat→Int)(nb:Nat)(K:Nat)(D:List Nat):Nat→Int
 |0=>0
 |w+1=>pdS f nb K D w+pnF f nb K (D.getD w 0)*cF f nb (D.getD w 0:Nat)
theorem qmc(f:Nat→Int)(nb:Nat)(K:Nat)(D:List Nat)(w:Nat):pdS f nb K D (w+1)=pdS f nb K D w+pnF f nb K (D.getD w 0)*cF f nb (D.getD w 0:Nat):=rfl
theorem qcd(f:Nat→Int)(nb:Nat)(K:Nat)(D:List Nat)(hnb:nb≤100):∀w:Nat,0≤pdS f nb K D w∧pdS f nb K D w≤1000000*w
 |0=>by simp[pdS]
 |w+1=>by
  have ih:=qcd f nb K D hnb w;have h1:=qjl f nb K (D.getD w 0) hnb;have h2:=yf f (D.getD w 0:Nat) nb;have h3:0≤pnF f nb K (D.getD w 0)*cF f nb (D.getD w 0:Nat):=Int.mul_nonneg h1.1 h2.1;have h4:pnF f nb K (D.getD w 0)*cF f nb (D.getD w 0:Nat)≤10000*100:=Int.mul_le_mul h1.2 Ω h2.1 Ω;rw[qmc,Int.natCast_add];omega
def acP(f:Nat→Int)(nb:Nat)(D:List Nat):Int:=pdS f nb D.length D D.length
def acK(f:Nat→Int)(nb:Nat)(D:List Nat):Int:=if D.length=0 then 0 else 100*nb - acP f nb D
def acO(f:Nat→Int)(nb:Nat)(D:List Nat):Int:=if D.length=0 then 100*nb else 0
theorem qnd(f:Nat→Int)(nb:Nat)(D:List Nat):acP f nb D+acK f nb D+acO f nb D=100*nb:=by
 unfold acK acO;split
 ·rename_i h
  unfold acP;rw[h];simp[pdS]
 ·omega
theorem qoo(f:Nat→Int)(nb:Nat)(D:List Nat)(hnb:nb≤100)(hD:D.length≤8):(0≤acP f nb D∧acP f nb D≤8000000)∧(-8000000≤acK f nb D∧acK f nb D≤10000)∧0≤acO f nb D∧acO f nb D≤10000:=by
 have:=qcd f nb D.length D hnb D.length;have h1:0≤acP f nb D∧acP f nb D≤8000000:=by unfold acP;omega
 refine⟨h1,?_,?_⟩
 ·unfold acK;split<;>omega
 ·unfold acO;split<;>omega
theorem e93(n nb:Nat)(f:Nat→Int)(hn1:2≤n)(hn:n≤8)(hnb:nb≤100)(hf:∀i,i<nb→0≤f i∧f i<n)(G:List (List Nat))(gr:List Nat)(hgr:G.getD 0 []=gr)(hG:1≤G.length)(hG8:G.length≤8)(h1:1≤gr.length)(h8:gr.length≤8)(hs:gr.Pairwise (· < ·))(D:List Nat)(hD:D=dvl f nb (fun i=>gr.getD i 0) gr.length)(tid mid id:Nat)(rest:List (Nat×Blk))(hr:Under rest id)(ht:tid<id)(hm:mid<tid):EffVC Tryz.prog 93 [.ptr tid 0,.arr false false G.length 1 (fun i _=>.arr false false (G.getD i []).length 1 (fun j _=>.val (.int .i64 ((G.getD i []).getD j 0:Nat))))] ((tid,.cells 167 (tlL n nb f (amx (cV f nb) n:Nat) (.mp mid) (100*nb) 0 0 0 0 (100*nb))) ::(mid,.map (qm true [.i .i64,.i .i64]) (uD f nb) (uG f nb)) :: rest) id (fun hp' nid' res=>id≤nid'∧hp'=((tid,.cells 167 (tlL n nb f (amx (cV f nb) n:Nat) (.mp mid) (100*nb) 0 0 0 0 (100*nb))) ::(mid,.map (qm true [.i .i64,.i .i64]) (uD f nb) (uG f nb)) :: rest)∧res=(.agg [.val (.int .i64 (100*(nb:Nat))),.val (.int .i64 0),.val (.int .i64 0),.val (.int .i64 (acP f nb D)),.val (.int .i64 (acK f nb D)),.val (.int .i64 (acO f nb D))])):=by
 refine vb follows Tryz.func93 rfl Ωd Ωd (by rw[Tryz.ntmps93];simp) fun out=>?_;have hr0:blk rest id=none:=hr.none (xa5 _);have hD8:D.length≤8:=by
  have:=Zv f nb (fun i=>gr.getD i 0) gr.length;rw[←hD]at this;omega
 have NB:=(⟨nmA (Ω:tid<id),nmA (Ω:mid<id),nmE (Ω:tid≠mid)⟩:_∧_∧_);(repeat' (first|refine sD ?_ ?_<;>intro _|refine aAj ?_|(simp -dsimp only[↓RP,RQ,xa0,reduceIte,reduceCtorEq,xa1,xa2,xa3,xa4,tlL,TYQ,TYP,NB,QS,hr0,TYR,TYS,TYU,QT,QN])))
 all_goals try exact Ωb
 refine jh ΩA (EffVC.sub (hp2:=(tid,.cells 167 (tlL n nb f (amx (cV f nb) n:Nat) (.mp mid) (100*nb) 0 0 0 0 (100*nb))) ::(mid,.map (qm true [.i .i64,.i .i64]) (uD f nb) (uG f nb)) ::(id+5,(.cells 57 [.val (.int .i64 (100*(nb:Nat))),.val (.int .i64 0),.val (.int .i64 0),.val (.int .i64 0),.val (.int .i64 0),.val (.int .i64 (100*(nb:Nat)))])) ::(id,(.cells 57 [.val (.int .i64 0),.val (.int .i64 0),.val (.int .i64 0),.val (.int .i64 0),.val (.int .i64 0),.val (.int .i64 0)])) :: rest) ?hsub (e99 n nb f hn1 hn hnb hf G gr hgr hG hG8 h1 h8 hs tid mid _ ((id+5,(.cells 57 [.val (.int .i64 (100*(nb:Nat))),.val (.int .i64 0),.val (.int .i64 0),.val (.int .i64 0),.val (.int .i64 0),.val (.int .i64 (100*(nb:Nat)))])) ::(id,(.cells 57 [.val (.int .i64 0),.val (.int .i64 0),.val (.int .i64 0),.val (.int .i64 0),.val (.int .i64 0),.val (.int .i64 0)])) :: rest) ?hu ?ht ?hm)) fun hp' nid' res ⟨q1,ov,qo,q4,q5⟩=>?_
 case hsub=>(intro q v hv;simp only[blk]at hv ⊢;((repeat' split at hv)<;>(repeat' split)<;>first|exact hv|(exfalso;omega)|(exfalso;have:=hr _ _ hv;omega)))
 case hu=>(intro q v hv;simp only[blk]at hv;((repeat' split at hv)<;>first|omega|(have:=hr _ _ hv;omega)))
 case ht=>omega
 case hm=>exact hm
 rw[←hD]at qo q4 q5;subst q4 q5;rcases ov with _|⟨did,row⟩
 ·have hD0:D=[]:=qo
  have e1:acP f nb D=0:=by rw[hD0];rfl
  have e2:acK f nb D=0:=by rw[hD0];rfl
  have e3:acO f nb D=100*(nb:Nat):=by rw[hD0];rfl
  rw[e1,e2,e3];dsimp only[dvX,dvS];clear NB;have NB:=(⟨nmA (Ω:tid<nid'),nmA (Ω:mid<nid'),nmA (Ω:id<nid'),nmA (Ω:id+5<nid'),nmE (Ω:tid≠mid),nmE (Ω:tid≠id),nmE (Ω:tid≠id+5),nmE (Ω:mid≠id),nmE (Ω:mid≠id+5)⟩:_∧_∧_∧_∧_∧_∧_∧_∧_);(repeat' (first|refine sD ?_ ?_<;>intro _|refine aAj ?_|(simp -dsimp only[↓RP,RQ,xa0,reduceIte,reduceCtorEq,xa1,xa2,xa3,xa4,tlL,TYQ,TYP,NB,QS,hr0,TYR,TYS,TYU,QT,QN])))
  all_goals try exact Ωb
  refine⟨(tid,.cells 167 (tlL n nb f (amx (cV f nb) n:Nat) (.mp mid) (100*nb) 0 0 0 0 (100*nb))) ::(mid,.map (qm true [.i .i64,.i .i64]) (uD f nb) (uG f nb)) :: rest,_,_,j5 (fr':=[(0,_)]) ⟨.inr rfl,trivial⟩ ?hsE,?hqE,rfl,rfl⟩
  case hsE=>(intro q v hv;simp only[blk]at hv ⊢;((repeat' split at hv)<;>(repeat' split)<;>first|exact hv|(exfalso;omega)|(exfalso;have:=hr _ _ hv;omega)))
  case hqE=>omega
 ·obtain⟨ho1,ho2,ho3,ho4⟩:=qo
  have hk1:1≤D.length:=List.length_pos_iff.2 ho1;have dl:=decide_eq_false (Ω:¬((D.length:Nat):Int)=0);dsimp only[dvX,dvS];clear NB;have NB:=(⟨nmA (Ω:tid<nid'),nmA (Ω:mid<nid'),nmA (Ω:id<nid'),nmA (Ω:id+5<nid'),nmA (Ω:did<nid'),nmE (Ω:tid≠mid),nmE (Ω:tid≠id),nmE (Ω:tid≠id+5),nmE (Ω:tid≠did),nmE (Ω:mid≠id),nmE (Ω:mid≠id+5),nmE (Ω:mid≠did),nmE (Ω:id≠did),nmE (Ω:id+5≠did)⟩:_∧_∧_∧_∧_∧_∧_∧_∧_∧_∧_∧_∧_∧_);(repeat' (first|refine sD ?_ ?_<;>intro _|refine aAj ?_|(simp -dsimp only[↓RP,RQ,xa0,reduceIte,reduceCtorEq,xa1,xa2,xa3,xa4,tlL,dl,TYQ,TYP,NB,QS,hr0,TYR,TYS,TYU,QT,QN])))
  all_goals try exact Ωb
  refine qn (fun(z:Nat×Nat)=>z.1≤D.length∧nid'≤z.2) (fun z=>⟨[(0,.ptr tid 0),(4,.ptr id 0),(5,.ptr (id+5) 0),(20,.vec did D.length 3),(21,.val (.int .i64 (D.length:Nat))),(22,.val (.int .i64 (z.1:Nat)))],(did,.rows 80 3 D.length row) ::(id+5,(.cells 57 [.val (.int .i64 (100*(nb:Nat))),.val (.int .i64 0),.val (.int .i64 0),.val (.int .i64 (pdS f nb D.length D z.1)),.val (.int .i64 0),.val (.int .i64 (100*(nb:Nat)))])) ::(id,(.cells 57 [.val (.int .i64 0),.val (.int .i64 0),.val (.int .i64 0),.val (.int .i64 0),.val (.int .i64 0),.val (.int .i64 0)])) ::(tid,.cells 167 (tlL n nb f (amx (cV f nb) n:Nat) (.mp mid) (100*nb) 0 0 0 0 (100*nb))) ::(mid,.map (qm true [.i .i64,.i .i64]) (uD f nb) (uG f nb)) :: rest,z.2⟩) (fun z=>D.length - z.1) (0,nid'+100) ⟨xb6 _,Ωe⟩ (weakSU Ωe Ωf ?hs1) fun z hz=>?_
  case hs1=>(intro q v hv;simp only[blk]at hv ⊢;((repeat' split at hv)<;>(repeat' split)<;>first|exact hv|(exfalso;omega)|(exfalso;have:=hr _ _ hv;omega)))
  obtain⟨w,m1⟩:=z;obtain⟨hw,hm1⟩:=hz;dsimp only at hw hm1 ⊢;clear NB;have NB:=(⟨nmA (Ω:tid<m1),nmA (Ω:mid<m1),nmA (Ω:id<m1),nmA (Ω:id+5<m1),nmA (Ω:did<m1),nmE (Ω:tid≠mid),nmE (Ω:tid≠id),nmE (Ω:tid≠id+5),nmE (Ω:tid≠did),nmE (Ω:mid≠id),nmE (Ω:mid≠id+5),nmE (Ω:mid≠did),nmE (Ω:id≠did),nmE (Ω:id+5≠did)⟩:_∧_∧_∧_∧_∧_∧_∧_∧_∧_∧_∧_∧_∧_);have hpd:=qcd f nb D.length D hnb w;by_cases hwl:w<D.length
  ·have hlt:=decide_eq_true (Ω:((w:Nat):Int)<(D.length:Nat))
   obtain⟨r0,r1,r2⟩:=ho4 w hwl;have hl:(if uD f nb (Value.agg #[Value.int IntKind.i64 (D.getD w 0:Nat),Value.int IntKind.i64 (-1)])=true then uG f nb (Value.agg #[Value.int IntKind.i64 (D.getD w 0:Nat),Value.int IntKind.i64 (-1)])else SV.val (Value.int IntKind.i64 0))=SV.val (.int .i64 (cF f nb (D.getD w 0:Nat))):=WJ f nb _;have hb:=qjl f nb D.length (D.getD w 0) hnb;have hc:=yf f (D.getD w 0:Nat) nb;have hm3:0≤pnF f nb D.length (D.getD w 0)*cF f nb (D.getD w 0:Nat):=Int.mul_nonneg hb.1 hc.1;have hm4:pnF f nb D.length (D.getD w 0)*cF f nb (D.getD w 0:Nat)≤10000*100:=Int.mul_le_mul hb.2 Ω hc.1 Ω;(repeat' (first|refine sD ?_ ?_<;>intro _|refine aAj ?_|(simp -dsimp only[↓RP,RQ,xa0,reduceIte,reduceCtorEq,xa1,xa2,xa3,xa4,hlt,r0,r1,r2,hl,tlL,TYQ,TYP,NB,QS,hr0,TYR,TYS,TYU,QT,QN])))
   all_goals try exact Ωb
   refine⟨(w+1,m1+27),⟨hwl,Ωe⟩,Ωe,weakSU Ωe Ωf ?hs2⟩
   case hs2=>
    dsimp only;rw[qmc]
    (intro q v hv;simp only[blk]at hv ⊢;((repeat' split at hv)<;>(repeat' split)<;>first|exact hv|(exfalso;omega)|(exfalso;have:=hr _ _ hv;omega)))
  ·obtain rfl:w=D.length:=by omega
   have hlt:=decide_eq_false (Ω:¬((D.length:Nat):Int)<(D.length:Nat));have e2:acK f nb D=100*(nb:Nat) - pdS f nb D.length D D.length:=by unfold acK acP;rw[if_neg Ω]
   have e3:acO f nb D=0:=by unfold acO;rw[if_neg Ω]
   rw[e2,e3];(repeat' (first|refine sD ?_ ?_<;>intro _|refine aAj ?_|(simp -dsimp only[↓RP,RQ,xa0,reduceIte,reduceCtorEq,xa1,xa2,xa3,xa4,hlt,tlL,TYQ,TYP,NB,QS,hr0,TYR,TYS,TYU,QT,QN])))
   all_goals try exact Ωb
   refine⟨(tid,.cells 167 (tlL n nb f (amx (cV f nb) n:Nat) (.mp mid) (100*nb) 0 0 0 0 (100*nb))) ::(mid,.map (qm true [.i .i64,.i .i64]) (uD f nb) (uG f nb)) :: rest,_,_,j5 (fr':=[(0,_)]) ⟨.inr rfl,trivial⟩ ?hsF,?hqF,rfl,rfl⟩
   case hsF=>(intro q v hv;simp only[blk]at hv ⊢;((repeat' split at hv)<;>(repeat' split)<;>first|exact hv|(exfalso;omega)|(exfalso;have:=hr _ _ hv;omega)))
   case hqF=>omega
theorem c27(n nb:Nat)(f:Nat→Int)(hn1:2≤n)(hn:n≤8)(hnb:nb≤100)(hf:∀i,i<nb→0≤f i∧f i<n)(G:List (List Nat))(hG:G.length≤8)(hG0:∀g,g∈G→g.length≤8)(hG1:∀g,g∈G→g≠[]∧g.Pairwise (· < ·))(hG2:G.flatten.Nodup)(hG3:∀x,x∈G.flatten↔x<n)(D:List Nat)(hD:D=dvl f nb (fun i=>(G.getD 0 []).getD i 0) (G.getD 0 []).length):qf Tryz.prog 27 [bkS n nb f (fun _=>-1) (fun _=>1) false 0 0 1,.arr false false G.length 1 (fun i _=>.arr false false (G.getD i []).length 1 (fun j _=>.val (.int .i64 ((G.getD i []).getD j 0:Nat))))] (.tup [(.agg [.val (.int .i64 (100*(nb:Nat))),.val (.int .i64 0),.val (.int .i64 0),.val (.int .i64 (acP f nb D)),.val (.int .i64 (acK f nb D)),.val (.int .i64 (acO f nb D))]),I 0]):=by
 refine qg Tryz.func27 rfl Ωd follows Ωd _ _ (by rw[Tryz.ntmps27];simp) (by simp[OldL,Old,QV,qA,I,bkS,zD]) ?_;have NB:True:=trivial;have hr0:True:=trivial;have hne:1≤G.length:=by
  cases hg:G with
  |nil=>have:=(hG3 0).2 Ω;rw[hg]at this;cases this
  |cons a l=>simp
 have hgm:G.getD 0 []∈G:=by
  rw[xc6,xc7 hne];exact List.getElem_mem _
 have hg1:=hG1 _ hgm;have hg8:=hG0 _ hgm;have hgp:1≤(G.getD 0 []).length:=List.length_pos_iff.2 hg1.1;unfold bkS I;(repeat' (first|refine sD ?_ ?_<;>intro _|refine aAj ?_|(simp -dsimp only[↓RP,RQ,xa0,reduceIte,reduceCtorEq,xa1,xa2,xa3,xa4,TYQ,TYP,NB,QS,hr0,TYR,TYS,TYU,QT,QN])))
 all_goals try exact Ωb
 refine jh ΩA (e92 n nb f hn1 hn hnb hf G hG hG0 hG1 hG2 hG3 _ _ ?hu) fun hp' nid' res ⟨tid,mid,q1,q2,q3,q4,q5⟩=>?_
 case hu=>
  intro q v hv;simp only[blk]at hv;(repeat' split at hv)<;>first|omega|cases hv
 subst q4 q5;(repeat' (first|refine sD ?_ ?_<;>intro _|refine aAj ?_|(simp -dsimp only[↓RP,RQ,xa0,reduceIte,reduceCtorEq,xa1,xa2,xa3,xa4,TYQ,TYP,NB,QS,hr0,TYR,TYS,TYU,QT,QN])))
 all_goals try exact Ωb
 refine jh ΩA (e93 n nb f hn1 hn hnb hf G (G.getD 0 []) rfl hne hG hgp hg8 hg1.2 D hD tid mid _ _ ?hu2 ?ht ?hm) fun hp2 nid2 res ⟨p1,p2,p3⟩=>?_
 case hu2=>
  intro q v hv;simp only[blk]at hv;(repeat' split at hv)<;>first|omega|cases hv
 case ht=>omega
 case hm=>omega
 subst p2 p3;clear NB;have NB:=(⟨nmA (Ω:tid<nid2),nmA (Ω:mid<nid2),nmE (Ω:tid≠mid),nmE (Ω:tid≠0),nmE (Ω:tid≠1),nmE (Ω:mid≠0),nmE (Ω:mid≠1)⟩:_∧_∧_∧_∧_∧_∧_);(repeat' (first|refine sD ?_ ?_<;>intro _|refine aAj ?_|(simp -dsimp only[↓RP,RQ,xa0,reduceIte,reduceCtorEq,xa1,xa2,xa3,xa4,QT,tlL,TYQ,TYP,NB,QS,hr0,TYR,TYS,TYU,QN])))
 all_goals try exact Ωb
end Go.Tn
end
section
namespace Go.Tn
open Go.RowKit Go.Sx Go.He
def apF(f:Nat→Int)(nb:Nat)(l:List Nat)(i:Nat):Int:=if i<nb then f i else(l.getD (i - nb) 0:Nat)
theorem qav{f g:Nat→Int}{r:Int}:∀w,(∀i,i<w→f i=g i)→cF f w r=cF g w r
 |0,_=>rfl
 |w+1,h=>by rw[ZZ,ZZ,qav w fun i hi=>h i Ω,h w Ω]
theorem qjn(f:Nat→Int)(nb:Nat)(l:List Nat)(r:Int):∀j,cF (apF f nb l) (nb+j) r=cF f nb r+cF (fun i=>(l.getD i 0:Nat)) j r
 |0=>by
  show cF (apF f nb l) nb r=_;rw[qav nb fun i hi=>by show apF f nb l i=f i;unfold apF;rw[if_pos hi]];simp[cF]
 |j+1=>by
  show cF (apF f nb l) (nb+j+1) r=_;rw[ZZ,ZZ,qjn f nb l r j];have:apF f nb l (nb+j)=(l.getD j 0:Nat):=by unfold apF;rw[if_neg Ω,xb7]
  rw[this];omega
theorem jO{l:List Nat}{j:Nat}(h:j<l.length):l.getD j 0=l[j]:=by simp[xc6,h]
theorem qjo(l:List Nat)(hn:l.Nodup)(r:Nat):∀j,j≤l.length→cF (fun i=>(l.getD i 0:Nat)) j (r:Nat)=if r∈l.take j then 1 else 0
 |0,_=>by simp[cF]
 |j+1,h=>by
  have hj:j<l.length:=h;have e:l.take (j+1)=l.take j++[l[j]]:=by rw[List.take_add_one,xc7 hj];rfl
  have nd:(l.take (j+1)).Nodup:=hn.sublist (List.take_sublist _ _);rw[e,List.nodup_append]at nd;have nd2:l[j]∉l.take j:=fun hm=>nd.2.2 _ hm _ (List.mem_singleton.2 rfl) rfl;rw[ZZ,qjo l hn r j Ω,e];simp only[jO hj,xd4,xe0];by_cases c:l[j]=r
  ·subst c
   rw[if_neg nd2,if_pos rfl,if_pos (.inr rfl)];rfl
  ·rw[if_neg (Ω:¬((l[j]:Nat):Int)=(r:Nat)),Int.add_zero]
   by_cases d:r∈l.take j
   ·rw[if_pos d,if_pos (.inl d)]
   ·rw[if_neg d,if_neg fun x=>x.elim d fun y=>c y.symm]
theorem Jm(l:List Nat)(r:Nat):wZ l.length (fun i=>(l.getD i 0:Nat)) (r:Nat)=decide (r∈l):=by
 unfold wZ;rw[Bool.eq_iff_iff,decide_eq_true_eq,decide_eq_true_eq];constructor
 ·rintro⟨i,h1,h2⟩
  have h3:=of_decide_eq_true h2;dsimp only at h3;rw[jO h1]at h3;have:r=l[i]:=by omega
  rw[this];exact List.getElem_mem h1
 ·intro h
  obtain⟨i,h1,h2⟩:=List.getElem_of_mem h;exact⟨i,h1,decide_eq_true (by dsimp only;rw[jO h1,h2])⟩
structure PP(n nb:Nat)(f add s:Nat→Int):Prop where
 hb:nb≤100
 hf:∀i,i<nb→0≤f i∧f i<n
 ha:∀r,r<n→0≤add r
 hs:∀r,r<n→0≤s r
 he:∀r,r<n→add r+s r=cF f nb (r:Nat)
def nxS(n:Nat)(l:List Nat)(v:Nat)(s:Nat→Int):Nat→Int:=upN (plW (fun i=>wZ l.length (fun i=>(l.getD i 0:Nat)) (i:Nat)) (vd n s) n) v 0
def Kv(n:Nat)(l:List Nat)(v:Nat)(s:Nat→Int):Int:=plW (fun i=>wZ l.length (fun i=>(l.getD i 0:Nat)) (i:Nat)) (vd n s) n v
theorem yG{n:Nat}{l:List Nat}{s:Nat→Int}{r:Nat}(hr:r<n):plW (fun i=>wZ l.length (fun i=>(l.getD i 0:Nat)) (i:Nat)) (vd n s) n r=s r+if r∈l then 1 else 0:=by
 unfold plW;dsimp only;rw[Zi hr];have e:=Jm l r;by_cases c:r∈l
 ·rw[decide_eq_true c]at e
  rw[if_pos ⟨hr,e⟩,if_pos c]
 ·rw[decide_eq_false c]at e
  rw[if_neg (fun x=>by rw[e]at x;exact absurd x.2 Ωr),if_neg c,Int.add_zero]
theorem PP.turn{n nb:Nat}{f add s:Nat→Int}(h:PP n nb f add s){l:List Nat}(hl:l.Nodup)(hlt:∀x,x∈l→x<n)(hnb:nb+l.length≤100){v:Nat}(hv:v<n):PP n (nb+l.length) (apF f nb l) (upN add v (add v+Kv n l v s)) (nxS n l v s):=by
 refine⟨hnb,fun i hi=>?_,fun r hr=>?_,fun r hr=>?_,fun r hr=>?_⟩
 ·unfold apF
  split
  ·rename_i c;exact h.hf i c
  ·rename_i c
   have hj:i - nb<l.length:=by omega
   rw[jO hj];have:=hlt _ (List.getElem_mem hj);omega
 ·unfold upN
  split
  ·have h1:=h.ha v hv
   have h2:=h.hs v hv;unfold Kv;rw[yG hv];split<;>omega
  ·exact h.ha r hr
 ·unfold nxS upN
  split
  ·exact Int.le_refl _
  ·rw[yG hr]
   have h2:=h.hs r hr;split<;>omega
 ·rw[qjn,qjo l hl r _ (xa5 _),List.take_length,←h.he r hr]
  unfold nxS upN Kv;by_cases c:r=v
  ·subst c
   rw[if_pos rfl,if_pos rfl,yG hr];omega
  ·rw[if_neg c,if_neg c,yG hr];omega
theorem PP.zero(n:Nat)(f:Nat→Int):PP n 0 f (fun _=>0) (fun _=>0):=⟨Ω,fun i hi=>by omega,fun _ _=>Int.le_refl _,fun _ _=>Int.le_refl _,fun _ _=>rfl⟩
theorem PP.bd{n nb:Nat}{f add s:Nat→Int}(h:PP n nb f add s){r:Nat}(hr:r<n):0≤add r∧add r≤100∧0≤s r∧s r≤100:=by
 have h1:=h.ha r hr;have h2:=h.hs r hr;have h3:=h.he r hr;have h4:=yf f (r:Nat) nb;have:=h.hb;omega
theorem qne{n:Nat}{l:List Nat}{v:Nat}{s u:Nat→Int}(hs:∀i,i<n→0≤s i∧s i≤u i)(ho:okP (fun i=>wZ l.length (fun i=>(l.getD i 0:Nat)) (i:Nat)) (vd n s) u n):∀i,i<n→0≤nxS n l v s i∧nxS n l v s i≤u i:=by
 intro i hi;have h1:=hs i hi;unfold nxS upN;split
 ·omega
 ·have h2:=ho i hi
  dsimp only at h2;rw[Jm,decide_eq_true_eq,Zi hi]at h2;rw[yG hi];split
  ·rename_i c;have:=h2 c;omega
  ·omega
theorem qlt{n:Nat}{l:List Nat}{v:Nat}{s u:Nat→Int}(hv:v<n)(hs:∀i,i<n→0≤s i∧s i≤u i)(ho:okP (fun i=>wZ l.length (fun i=>(l.getD i 0:Nat)) (i:Nat)) (vd n s) u n):0≤Kv n l v s∧Kv n l v s≤u v:=by
 have h1:=hs v hv;unfold Kv;have h2:=ho v hv;dsimp only at h2;rw[Jm,decide_eq_true_eq,Zi hv]at h2;rw[yG hv];split
 ·rename_i c;have:=h2 c;omega
 ·omega
def smN(V:Nat→Int):Nat→Int
 |0=>0
 |n+1=>smN V n+V n
theorem Zw(V:Nat→Int)(n:Nat):smN V (n+1)=smN V n+V n:=rfl
theorem qdZ(V W:Nat→Int):∀n,smN (fun r=>V r+W r) n=smN V n+smN W n
 |0=>rfl
 |n+1=>by rw[Zw,Zw,Zw,qdZ V W n];omega
theorem VA{V W:Nat→Int}:∀n,(∀r,r<n→V r=W r)→smN V n=smN W n
 |0,_=>rfl
 |n+1,h=>by rw[Zw,Zw,VA n fun r hr=>h r Ω,h n Ω]
theorem qea(x:Int)(hx:0≤x):∀n:Nat,smN (fun r=>if x=(r:Nat)then 1 else 0) n=if x<n then 1 else 0
 |0=>by rw[if_neg Ω];rfl
 |n+1=>by
  rw[Zw,qea x hx n];by_cases c:x=(n:Nat)
  ·rw[if_neg Ω,if_pos c,if_pos Ω];rfl
  ·rw[if_neg c]
   by_cases d:x<n
   ·rw[if_pos d,if_pos Ω];rfl
   ·rw[if_neg d,if_neg Ω];rfl
theorem qaw:∀n,smN (fun _=>0) n=0
 |0=>rfl
 |n+1=>by rw[Zw,qaw n];rfl
theorem qjp{n:Nat}{f:Nat→Int}:∀nb,(∀i,i<nb→0≤f i∧f i<n)→smN (fun r=>cF f nb (r:Nat)) n=nb
 |0,_=>qaw n
 |nb+1,h=>by
  have e:(fun r:Nat=>cF f (nb+1) (r:Nat))=fun r:Nat=>cF f nb (r:Nat)+(if f nb=(r:Nat)then 1 else 0):=by funext r;exact ZZ f nb r
  rw[e,qdZ,qjp nb fun i hi=>h i Ω,qea _ (h nb Ω).1,if_pos (h nb Ω).2];omega
theorem qjq{V:Nat→Int}{b:Int}(h0:0≤b):∀n:Nat,(∀r,r<n→0≤V r∧V r≤b)→0≤smN V n∧smN V n≤n*b
 |0,_=>by simp[smN]
 |n+1,h=>by
  have ih:=qjq h0 n fun r hr=>h r Ω;have h1:=h n Ω;rw[Zw,Int.natCast_add,Int.add_mul];omega
end Go.Tn
end
