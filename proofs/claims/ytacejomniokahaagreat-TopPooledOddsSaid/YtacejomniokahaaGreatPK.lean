/- A part of the proof. -/
import Derived.Test.YtacejomniokahaaGreatPJ
open Nat renaming reduceMul→xa0,reduceAdd→xa1,reduceEqDiff→xa2,reduceLT→xa3,reduceLeDiff→xa4,le_refl→xa5,zero_add→xb0,zero_le→xb6,sub_self→xb8
open List renaming getD_eq_getElem?_getD→xc6,getElem?_eq_getElem→xc7,length_append→xc8,getElem?_append_left→xc9,getElem?_append_right→xd0,length_singleton→xd1,length_map→xe1
open Bool renaming or_eq_true→xe8
open Option renaming getD_some→xg0
set_option linter.unusedVariables false
set_option linter.unusedSimpArgs false
set_option linter.defProp false
set_option maxRecDepth 1000000
set_option maxHeartbeats 16000000
section
namespace Go.Tn
open Go.Proofs
open Go.Sx
theorem TYU:True∧qn Tryz.prog 75=some ⟨false,1,some [.slice none 0 0],.slice 80 3⟩∧qn Tryz.prog 80=some ⟨true,3,some [.int .i64 0,.int .i64 0,.int .i64 0],.struct [(0,1,some false),(1,1,some false),(2,1,some false)]⟩∧qB Tryz.prog 80=some [(0,1),(1,1),(2,1)]∧z9 Tryz.prog 80=some [.i .i64,.i .i64,.i .i64]∧qn Tryz.prog 160=some ⟨false,1,some [.pointer none],.other⟩∧qF Tryz.prog 80=24:=⟨trivial,Ωc,Ωc,Ωc,Ωc,Ωc,Ωc⟩
theorem qnQ(G:List (List Nat))(tid:Nat)(H:List (Nat×Blk))(id:Nat)(hr:Under H id)(ht:tid<id):EffVC Tryz.prog 201 [.ptr tid 0,.arr false false G.length 1 (fun i _=>.arr false false (G.getD i []).length 1 (fun j _=>.val (.int .i64 ((G.getD i []).getD j 0:Nat))))] H id (fun hp' nid' res=>∃a b,id≤a∧a<b∧b<nid'∧hp'=(b,.cells 60 [.arr false false G.length 1 (fun i _=>.arr false false (G.getD i []).length 1 (fun j _=>.val (.int .i64 ((G.getD i []).getD j 0:Nat))))]) ::(a,.cells 160 [.ptr tid 0]) :: H∧res=.fn (.func 301) [] [.ptr a 0,.ptr b 0]):=by
 refine vD follows Tryz.func201 rfl Ωc Ωc (by rw[Tryz.ntmps201];simp) fun out=>?_;have hr0:blk H id=none:=hr.none (xa5 _);have NB:=(⟨nmA (Ω:tid<id),trivial⟩:_∧_);(repeat' (first|refine sD ?_ ?_<;>intro _|refine aAg ?_|(simp -dsimp only[↓RP,RQ,xa0,reduceIte,reduceCtorEq,xa1,xa2,xa3,xa4,TYQ,TYP,NB,QS,hr0,TYR,TYS,TYU,QT,QN])))
 all_goals try exact Ωb
 exact⟨_,_,_,vQ (fr':=[(0,_)]) ⟨.inr rfl,trivial⟩ (SubHp.refl _),id,id+1,Ω,Ω,Ω,rfl,rfl⟩
theorem one3(a b c:Int):∀(i j:Nat),i<1→j<3→oneCell ([SV.val (.int .i64 a),.val (.int .i64 b),.val (.int .i64 c)].getD (i*3+j) SV.top)=true:=by
 intro i j hi hj;obtain rfl:i=0:=by omega
 rw[Nat.zero_mul,xb0];rcases(Ω:j=0∨j=1∨j=2)with rfl|rfl|rfl<;>rfl
def pnF(f q:Nat→Int)(c d st:Int)(nb:Nat)(K:Nat)(r:Nat):Int:=Int.tdiv (Int.tdiv (c+100*sQ q nb - zc q d nb) (K:Nat)) (cF f q nb (r:Nat)*st)*st
theorem qii{q:Nat→Int}{c d:Int}{nb:Nat}(hnb:nb≤100)(hq:∀i,i<nb→1≤q i∧q i≤1000)(hc:0≤c∧c≤1000000)(hd:0≤d∧d≤500):0≤(c+100*sQ q nb - zc q d nb)∧(c+100*sQ q nb - zc q d nb)≤11000000:=by
 have h1:=qbk hnb hq hd;have h2:=ZL q nb hq;omega
theorem qmt{q:Nat→Int}{c d:Int}{nb:Nat}(K:Nat)(hnb:nb≤100)(hq:∀i,i<nb→1≤q i∧q i≤1000)(hc:0≤c∧c≤1000000)(hd:0≤d∧d≤500):0≤Int.tdiv (c+100*sQ q nb - zc q d nb) (K:Nat)∧Int.tdiv (c+100*sQ q nb - zc q d nb) (K:Nat)≤11000000:=by
 have h0:=qii hnb hq hc hd;have h1:(0:Int)≤Int.tdiv (c+100*sQ q nb - zc q d nb) (K:Nat):=Int.tdiv_nonneg h0.1 (Int.natCast_nonneg _);have h2:Int.tdiv (c+100*sQ q nb - zc q d nb) (K:Nat)≤(c+100*sQ q nb - zc q d nb):=Int.tdiv_le_self _ h0.1;omega
theorem qij{x st:Int}(hx:0≤x∧x≤100000)(hst:1≤st∧st≤100):x≤x*st∧x*st≤100*x:=by
 have h1:x*1≤x*st:=Int.mul_le_mul_of_nonneg_left hst.1 hx.1;have h2:x*st≤x*100:=Int.mul_le_mul_of_nonneg_left hst.2 hx.1;omega
theorem qlq{x n st:Int}(hx:0≤x∧x≤11000000)(hn:0≤n∧n≤100000)(hst:1≤st∧st≤100):0≤Int.tdiv x (n*st)∧Int.tdiv x (n*st)≤11000000∧0≤Int.tdiv x (n*st)*st∧Int.tdiv x (n*st)*st≤1100000000:=by
 have h0:=qij hn hst;have h1:(0:Int)≤Int.tdiv x (n*st):=Int.tdiv_nonneg hx.1 Ω;have h2:=Int.tdiv_le_self (a:=x) (n*st) hx.1;have h3:Int.tdiv x (n*st)*st≤Int.tdiv x (n*st)*100:=Int.mul_le_mul_of_nonneg_left hst.2 h1;have h4:0≤Int.tdiv x (n*st)*st:=Int.mul_nonneg h1 Ω;omega
def dvX(o:Option (Nat×(Nat→Nat→SV)))(k:Nat)(rest:List (Nat×Blk)):List (Nat×Blk):=match o with
 |none=>rest
 |some (did,row)=>(did,.rows 80 3 k row) :: rest
def dvS(o:Option (Nat×(Nat→Nat→SV)))(k:Nat):SV:=match o with
 |none=>.val (.slice none 0 0)
 |some (did,_)=>.vec did k 3
def dvO(f q:Nat→Int)(c d st:Int)(nb K lo m:Nat)(D:List Nat)(o:Option (Nat×(Nat→Nat→SV))):Prop:=match o with
 |none=>D=[]
 |some (did,row)=>D≠[]∧lo<did∧did<m∧∀i,i<D.length→row i 0=.val (.int .i64 (D.getD i 0:Nat))∧row i 1=.val (.int .i64 (-1))∧row i 2=.val (.int .i64 (pnF f q c d st nb K (D.getD i 0)))
theorem qik{f q:Nat→Int}{c d st:Int}{nb K lo m lo2 m2:Nat}{D:List Nat}{o:Option (Nat×(Nat→Nat→SV))}(h:dvO f q c d st nb K lo m D o)(h1:lo2≤lo)(h2:m≤m2):dvO f q c d st nb K lo2 m2 D o:=by
 rcases o with _|⟨did,row⟩
 ·exact h
 ·obtain⟨a,b,c,d⟩:=h
  exact⟨a,Ω,Ω,d⟩
theorem e99(n nb:Nat)(f q:Nat→Int)(fav:Bool)(c d st:Int)(hn1:2≤n)(hn:n≤8)(hnb:nb≤100)(hf:∀i,i<nb→0≤f i∧f i<n)(hq:∀i,i<nb→1≤q i∧q i≤1000)(hc:0≤c∧c≤1000000)(hd:0≤d∧d≤500)(hst:1≤st∧st≤100)(G:List (List Nat))(gr:List Nat)(hgr:G.getD 0 []=gr)(hG:1≤G.length)(hG8:G.length≤8)(h1:1≤gr.length)(h8:gr.length≤8)(hs:gr.Pairwise (· < ·))(tid mid id:Nat)(rest:List (Nat×Blk))(hr:Under rest id)(ht:tid<id)(hm:mid<tid):EffVC Tryz.prog 99 [.ptr tid 0,.arr false false G.length 1 (fun i _=>.arr false false (G.getD i []).length 1 (fun j _=>.val (.int .i64 ((G.getD i []).getD j 0:Nat))))] ((tid,.cells 167 (tlL n nb f q fav c d st (amx (cV f q nb) n:Nat) (.mp mid) (c+100*sQ q nb) 0 (zc q d nb) 0 0 (c+100*sQ q nb - zc q d nb))) ::(mid,.map (ql true [.i .i64,.i .i64]) (uD f nb) (uG f q nb)) :: rest) id (fun hp' nid' res=>id≤nid'∧∃ov,dvO f q c d st nb (dvl f q nb (fun i=>gr.getD i 0) gr.length).length id nid' (dvl f q nb (fun i=>gr.getD i 0) gr.length) ov∧hp'=dvX ov (dvl f q nb (fun i=>gr.getD i 0) gr.length).length ((tid,.cells 167 (tlL n nb f q fav c d st (amx (cV f q nb) n:Nat) (.mp mid) (c+100*sQ q nb) 0 (zc q d nb) 0 0 (c+100*sQ q nb - zc q d nb))) ::(mid,.map (ql true [.i .i64,.i .i64]) (uD f nb) (uG f q nb)) :: rest)∧res=dvS ov (dvl f q nb (fun i=>gr.getD i 0) gr.length).length):=by
 refine vC (zJ [(12,[(0,0)])]) follows Tryz.func99 rfl Ωc Ωc (by rw[Tryz.ntmps99];simp) fun out=>?_;have hr0:blk rest id=none:=hr.none (xa5 _);have NB:=(⟨nmA (Ω:tid<id),nmA (Ω:mid<id),nmE (Ω:tid≠mid)⟩:_∧_∧_);(repeat' (first|refine sD ?_ ?_<;>intro _|refine aAg ?_|(simp -dsimp only[↓RP,RQ,xa0,reduceIte,reduceCtorEq,xa1,xa2,xa3,xa4,TYQ,TYP,NB,QS,hr0,TYR,TYS,TYU,↓RY,QT,QN])))
 all_goals try exact Ωb
 refine jd Ωx (qnQ G tid _ _ (by first|exact(Under.cons (Under.cons (Under.cons (Under.cons (Under.cons (hr.mono Ω) Ω) Ω) Ω) Ω) Ω)) Ω) fun hp' nid' res ⟨a,b,q1,q2,q3,q4,q5⟩=>?_;subst q4 q5;(repeat' (first|refine sD ?_ ?_<;>intro _|refine aAg ?_|(simp -dsimp only[↓RP,RQ,xa0,reduceIte,reduceCtorEq,xa1,xa2,xa3,xa4,TYQ,TYP,NB,QS,hr0,TYR,TYS,TYU,↓RY,QT,QN])))
 all_goals try exact Ωb
 refine qbG follows (gf:=301) Ωx Tryz.func301 rfl Ωc Ωc Ωx (by rw[Tryz.ntmps301];simp) fun out2 L R=>?_;have NB2:=(⟨nmA (Ω:a<nid'),nmA (Ω:b<nid'),nmA (Ω:id<nid'),nmA (Ω:id+2<nid'),nmA (Ω:id+3<nid'),nmA (Ω:tid<nid'),nmA (Ω:mid<nid')⟩:_∧_∧_∧_∧_∧_∧_);have NB3:=(⟨nmE (Ω:a≠b),nmE (Ω:a≠id),nmE (Ω:a≠id+2),nmE (Ω:a≠id+3),nmE (Ω:a≠tid),nmE (Ω:a≠mid),nmE (Ω:b≠id),nmE (Ω:b≠id+2),nmE (Ω:b≠id+3),nmE (Ω:b≠tid),nmE (Ω:b≠mid)⟩:_∧_∧_∧_∧_∧_∧_∧_∧_∧_∧_);have h302:=qpq G hG hG8 (by rw[hgr];exact h1) (by rw[hgr];exact h8) (by rw[hgr];exact hs);rw[hgr]at h302;(repeat' (first|refine sD ?_ ?_<;>intro _|refine aAg ?_|(simp -dsimp only[↓RP,RQ,xa0,reduceIte,reduceCtorEq,xa1,xa2,xa3,xa4,NB2,NB3,tlL,TYQ,TYP,NB,QS,hr0,TYR,TYS,TYU,↓RY,QT,QN])))
 all_goals try exact Ωb
 refine callN h302 (by simp only[SubL,and_true];exact⟨qN _ (by simp[Old]),by simp[I,Go.Sx.Sub]⟩) (by simp[FreshO]) Ωag ?_;(repeat' (first|refine sD ?_ ?_<;>intro _|refine aAg ?_|(simp -dsimp only[↓RP,RQ,xa0,reduceIte,reduceCtorEq,xa1,xa2,xa3,xa4,NB2,NB3,tlL,TYQ,TYP,NB,QS,hr0,TYR,TYS,TYU,↓RY,QT,QN])))
 all_goals try exact Ωb
 obtain⟨Y,hY⟩:∃Y,Y=nid'+3:=⟨_,rfl⟩;obtain⟨rid,hrid⟩:∃rid,rid=nid'+20:=⟨_,rfl⟩;rw[←hY,←hrid];refine qo (fun(z:Nat×Nat)=>z.1≤gr.length∧rid<z.2) (fun z=>⟨[(0,.yld Y),(1,.ptr a 0),(5,.vec rid gr.length 1),(26,.vec rid gr.length 1),(27,.val (.int .i64 (gr.length:Nat))),(28,.val (.int .i64 (z.1:Nat)))],(rid,.rows 3 1 gr.length (fun i _=>.val (.int .i64 (gr.getD i 0:Nat)))) ::(Y,.loop L .ready) ::(a,.cells 160 [.ptr tid 0]) ::(id+3,.cells 165 [.mp (id+2)]) ::(id+2,.map (ql true [.i .i64,.i .i64]) (bD f q nb (fun i=>gr.getD i 0) z.1) (bG f q nb (fun i=>gr.getD i 0) z.1)) ::(id,.cells 160 [.ptr tid 0]) ::(tid,.cells 167 (tlL n nb f q fav c d st (amx (cV f q nb) n:Nat) (.mp mid) (c+100*sQ q nb) 0 (zc q d nb) 0 0 (c+100*sQ q nb - zc q d nb))) ::(mid,.map (ql true [.i .i64,.i .i64]) (uD f nb) (uG f q nb)) :: rest,z.2⟩) (fun z=>gr.length - z.1) (0,nid'+25) ⟨xb6 _,Ωe⟩ (weakSU (xa5 _) Ωf ?hs1) fun z hz=>?_
 case hs1=>(intro q v hv;simp only[blk]at hv ⊢;((repeat' split at hv)<;>(repeat' split)<;>first|exact hv|(exfalso;omega)|(exfalso;have:=hr _ _ hv;omega)))
 obtain⟨w,m1⟩:=z;obtain⟨hw,hm1⟩:=hz;dsimp only at hw hm1 ⊢;clear NB NB2 NB3;have NB:=(⟨nmA (Ω:rid<m1),nmA (Ω:Y<m1),nmA (Ω:a<m1),nmA (Ω:id+3<m1),nmA (Ω:id+2<m1),nmA (Ω:id<m1),nmA (Ω:tid<m1),nmA (Ω:mid<m1),nmE (Ω:rid≠Y),nmE (Ω:rid≠a),nmE (Ω:rid≠id+3),nmE (Ω:rid≠id+2),nmE (Ω:rid≠id),nmE (Ω:rid≠tid),nmE (Ω:rid≠mid),nmE (Ω:Y≠a),nmE (Ω:Y≠id+3),nmE (Ω:Y≠id+2),nmE (Ω:Y≠id),nmE (Ω:Y≠tid),nmE (Ω:Y≠mid),nmE (Ω:a≠id+3),nmE (Ω:a≠id+2),nmE (Ω:a≠id),nmE (Ω:a≠tid),nmE (Ω:a≠mid),nmE (Ω:id+3≠tid),nmE (Ω:id+3≠mid),nmE (Ω:id+2≠tid),nmE (Ω:id+2≠mid),nmE (Ω:id≠tid),nmE (Ω:id≠mid),nmE (Ω:tid≠mid)⟩:_∧_∧_∧_∧_∧_∧_∧_∧_∧_∧_∧_∧_∧_∧_∧_∧_∧_∧_∧_∧_∧_∧_∧_∧_∧_∧_∧_∧_∧_∧_∧_∧_);by_cases hwl:w<gr.length
 ·have hlt:=decide_eq_true (Ω:((w:Nat):Int)<(gr.length:Nat))
  have h257:=qlR n nb f (fun _=>-1) q fav c d st;unfold bkS B at h257;have hl:(if uD f nb (Value.agg #[Value.int IntKind.i64 ((gr.getD w 0:Nat):Int),Value.int IntKind.i64 (-1)])=true then uG f q nb (Value.agg #[Value.int IntKind.i64 ((gr.getD w 0:Nat):Int),Value.int IntKind.i64 (-1)])else SV.val (Value.int IntKind.i64 0))=SV.val (.int .i64 (cF f q nb (gr.getD w 0:Nat))):=qbl f q nb _;have hp1:∀D:Value→Bool,qI D (Value.agg #[Value.int IntKind.i64 ((gr.getD w 0:Nat):Int),Value.int IntKind.i64 (-1)]) (Value.agg #[Value.int IntKind.i64 ((gr.getD w 0:Nat):Int),Value.int IntKind.i64 (-1)])=true:=fun D=>by
   simp only[qI,xe8];exact .inl (eqK_ksv.2 rfl)
  have hp2:∀(g:Value→SV)(X:SV),qC g (Value.agg #[Value.int IntKind.i64 ((gr.getD w 0:Nat):Int),Value.int IntKind.i64 (-1)]) X (Value.agg #[Value.int IntKind.i64 ((gr.getD w 0:Nat):Int),Value.int IntKind.i64 (-1)])=X:=fun g X=>by
   have e:eqK (Value.agg #[Value.int IntKind.i64 ((gr.getD w 0:Nat):Int),Value.int IntKind.i64 (-1)]) (Value.agg #[Value.int IntKind.i64 ((gr.getD w 0:Nat):Int),Value.int IntKind.i64 (-1)])=true:=eqK_ksv.2 rfl;simp only[qC,e,svIte,if_true]
  (repeat' (first|refine sD ?_ ?_<;>intro _|refine aAg ?_|(simp -dsimp only[↓RP,RQ,xa0,reduceIte,reduceCtorEq,xa1,xa2,xa3,xa4,hlt,tlL,TYQ,TYP,NB,QS,hr0,TYR,TYS,TYU,↓RY,QT,QN])))
  all_goals try exact Ωb
  refine qm (h257) ΩF Ωa ?_;(repeat' (first|refine sD ?_ ?_<;>intro _|refine aAg ?_|(simp -dsimp only[↓RP,RQ,xa0,reduceIte,reduceCtorEq,xa1,xa2,xa3,xa4,TYQ,TYP,NB,QS,hr0,TYR,TYS,TYU,↓RY,QT,QN])))
  all_goals try exact Ωb
  refine Vo follows Ωx R ΩN Ωx fun out3=>?_;by_cases hz0:cF f q nb (gr.getD w 0:Nat)=0
  ·have dz:=decide_eq_true hz0
   (repeat' (first|refine sD ?_ ?_<;>intro _|refine aAg ?_|(simp -dsimp only[↓RP,RQ,xa0,reduceIte,reduceCtorEq,xa1,xa2,xa3,xa4,dz,hl,hp1,hp2,TYQ,TYP,NB,QS,hr0,TYR,TYS,TYU,↓RY,QT,QN])))
   all_goals try exact Ωb
   refine⟨(w+1,m1+37),⟨hwl,Ωe⟩,Ωe,weakSU (xa5 _) Ωf ?hs2⟩
   case hs2=>
    dsimp only;rw[qig (gr:=(fun i=>gr.getD i 0)) hz0,qkz]
    (intro q v hv;simp only[blk]at hv ⊢;((repeat' split at hv)<;>(repeat' split)<;>first|exact hv|(exfalso;omega)|(exfalso;have:=hr _ _ hv;omega)))
  ·have dz:=decide_eq_false hz0
   (repeat' (first|refine sD ?_ ?_<;>intro _|refine aAg ?_|(simp -dsimp only[↓RP,RQ,xa0,reduceIte,reduceCtorEq,xa1,xa2,xa3,xa4,dz,hl,hp1,hp2,TYQ,TYP,NB,QS,hr0,TYR,TYS,TYU,↓RY,QT,QN])))
   all_goals try exact Ωb
   refine⟨(w+1,m1+37),⟨hwl,Ωe⟩,Ωe,weakSU Ωe Ωf ?hs3⟩
   case hs3=>
    dsimp only;rw[V3 (gr:=(fun i=>gr.getD i 0)) hz0,qkz]
    (intro q v hv;simp only[blk]at hv ⊢;((repeat' split at hv)<;>(repeat' split)<;>first|exact hv|(exfalso;omega)|(exfalso;have:=hr _ _ hv;omega)))
 obtain rfl:w=gr.length:=by omega
 have hlt:=decide_eq_false (Ω:¬((gr.length:Nat):Int)<(gr.length:Nat));have hdr:dropBlk rest Y=rest:=zn (hr.none Ω);(repeat' (first|refine sD ?_ ?_<;>intro _|refine aAg ?_|(simp -dsimp only[↓RP,RQ,xa0,reduceIte,reduceCtorEq,xa1,xa2,xa3,xa4,hlt,hdr,tlL,TYQ,TYP,NB,QS,hr0,TYR,TYS,TYU,↓RY,QT,QN])))
 all_goals try exact Ωb
 obtain⟨oid,hoid⟩:∃oid,oid=m1+1:=⟨_,rfl⟩;rw[←hoid];refine jd Ωx (qnQ G tid _ _ ?hu1 Ω) fun hp2 nid2 res2 ⟨a2,b2,p1,p2,p3,p4,p5⟩=>?_
 case hu1=>(intro q v hv;simp only[blk]at hv;((repeat' split at hv)<;>first|omega|(have:=hr _ _ hv;omega)))
 subst p4 p5;(repeat' (first|refine sD ?_ ?_<;>intro _|refine aAg ?_|(simp -dsimp only[↓RP,RQ,xa0,reduceIte,reduceCtorEq,xa1,xa2,xa3,xa4,TYQ,TYP,NB,QS,hr0,TYR,TYS,TYU,↓RY,QT,QN])))
 all_goals try exact Ωb
 refine qbG follows (gf:=301) Ωx Tryz.func301 rfl Ωc Ωc Ωx (by rw[Tryz.ntmps301];simp) fun out4 L2 R2=>?_;clear NB;have NB:=(⟨nmA (Ω:a2<nid2),nmA (Ω:b2<nid2),nmA (Ω:oid<nid2),nmA (Ω:rid<nid2),nmA (Ω:a<nid2),nmA (Ω:id+3<nid2),nmA (Ω:id+2<nid2),nmA (Ω:id<nid2),nmA (Ω:tid<nid2),nmA (Ω:mid<nid2),nmE (Ω:a2≠b2),nmE (Ω:a2≠oid),nmE (Ω:a2≠rid),nmE (Ω:a2≠a),nmE (Ω:a2≠id+3),nmE (Ω:a2≠id+2),nmE (Ω:a2≠id),nmE (Ω:a2≠tid),nmE (Ω:a2≠mid),nmE (Ω:b2≠oid),nmE (Ω:b2≠rid),nmE (Ω:b2≠a),nmE (Ω:b2≠id+3),nmE (Ω:b2≠id+2),nmE (Ω:b2≠id),nmE (Ω:b2≠tid),nmE (Ω:b2≠mid),nmE (Ω:oid≠rid),nmE (Ω:oid≠a),nmE (Ω:oid≠id+3),nmE (Ω:oid≠id+2),nmE (Ω:oid≠id),nmE (Ω:oid≠tid),nmE (Ω:oid≠mid),nmE (Ω:rid≠a),nmE (Ω:rid≠id+3),nmE (Ω:rid≠id+2),nmE (Ω:rid≠id),nmE (Ω:rid≠tid),nmE (Ω:rid≠mid),nmE (Ω:a≠id+3),nmE (Ω:a≠id+2),nmE (Ω:a≠id),nmE (Ω:a≠tid),nmE (Ω:a≠mid),nmE (Ω:id+3≠tid),nmE (Ω:id+3≠mid),nmE (Ω:id+2≠tid),nmE (Ω:id+2≠mid),nmE (Ω:id≠tid),nmE (Ω:id≠mid),nmE (Ω:tid≠mid)⟩:_∧_∧_∧_∧_∧_∧_∧_∧_∧_∧_∧_∧_∧_∧_∧_∧_∧_∧_∧_∧_∧_∧_∧_∧_∧_∧_∧_∧_∧_∧_∧_∧_∧_∧_∧_∧_∧_∧_∧_∧_∧_∧_∧_∧_∧_∧_∧_∧_∧_∧_∧_);(repeat' (first|refine sD ?_ ?_<;>intro _|refine aAg ?_|(simp -dsimp only[↓RP,RQ,xa0,reduceIte,reduceCtorEq,xa1,xa2,xa3,xa4,hdr,tlL,TYQ,TYP,NB,QS,hr0,TYR,TYS,TYU,↓RY,QT,QN])))
 all_goals try exact Ωb
 refine callN h302 (by simp only[SubL,and_true];exact⟨qN _ (by simp[Old]),by simp[I,Go.Sx.Sub]⟩) (by simp[FreshO]) Ωag ?_;(repeat' (first|refine sD ?_ ?_<;>intro _|refine aAg ?_|(simp -dsimp only[↓RP,RQ,xa0,reduceIte,reduceCtorEq,xa1,xa2,xa3,xa4,hdr,tlL,TYQ,TYP,NB,QS,hr0,TYR,TYS,TYU,↓RY,QT,QN])))
 all_goals try exact Ωb
 obtain⟨Y2,hY2⟩:∃Y,Y=nid2+3:=⟨_,rfl⟩;obtain⟨rid2,hrid2⟩:∃rid,rid=nid2+20:=⟨_,rfl⟩;rw[←hY2,←hrid2];obtain⟨D,hD⟩:∃D,D=dvl f q nb (fun i=>gr.getD i 0) gr.length:=⟨_,rfl⟩;have hD8:D.length≤8:=by
  have:=Kg f q nb (fun i=>gr.getD i 0) gr.length;rw[←hD]at this;omega
 have hinj:∀i j,i<j→j<gr.length→(fun i=>gr.getD i 0) i≠(fun i=>gr.getD i 0) j:=fun i j hi hj e=>by
  have:=List.pairwise_iff_getElem.1 hs i j Ω hj hi;dsimp only at e;rw[xc6,xc6,xc7 Ω,xc7 hj]at e;simp only[xg0]at e;omega
 refine qo (fun(z:Nat×Nat×Option (Nat×(Nat→Nat→SV)))=>z.1≤gr.length∧rid2<z.2.1∧dvO f q c d st nb D.length rid2 z.2.1 (dvl f q nb (fun i=>gr.getD i 0) z.1) z.2.2) (fun z=>⟨[(0,.yld Y2),(1,.ptr a2 0),(5,.vec rid2 gr.length 1),(26,.vec rid2 gr.length 1),(27,.val (.int .i64 (gr.length:Nat))),(28,.val (.int .i64 (z.1:Nat)))],(rid2,.rows 3 1 gr.length (fun i _=>.val (.int .i64 (gr.getD i 0:Nat)))) ::(Y2,.loop L2 .ready) ::(a2,.cells 160 [.ptr tid 0]) ::(oid,.cells 75 [dvS (z.2.2) (dvl f q nb (fun i=>gr.getD i 0) z.1).length]) :: dvX (z.2.2) (dvl f q nb (fun i=>gr.getD i 0) z.1).length ((id+3,.cells 165 [.mp (id+2)]) ::(id+2,.map (ql true [.i .i64,.i .i64]) (bD f q nb (fun i=>gr.getD i 0) gr.length) (bG f q nb (fun i=>gr.getD i 0) gr.length)) ::(id,.cells 160 [.ptr tid 0]) ::(tid,.cells 167 (tlL n nb f q fav c d st (amx (cV f q nb) n:Nat) (.mp mid) (c+100*sQ q nb) 0 (zc q d nb) 0 0 (c+100*sQ q nb - zc q d nb))) ::(mid,.map (ql true [.i .i64,.i .i64]) (uD f nb) (uG f q nb)) :: rest),z.2.1⟩) (fun z=>gr.length - z.1) (0,nid2+25,none) ⟨xb6 _,Ωe,rfl⟩ (weakSU (xa5 _) Ωf ?hs4) fun z hz=>?_
 case hs4=>
  exact SubHp.cons (SubHp.cons (SubHp.skip ΩK (SubHp.cons (SubHp.cons (SubHp.skip ΩK (SubHp.skip ΩK (SubHp.refl _)))))))
 obtain⟨w,m2,ov⟩:=z;obtain⟨hw2,hm2,hov⟩:=hz;dsimp only at hw2 hm2 hov ⊢;clear NB;by_cases hwl:w<gr.length
 ·have hlt:=decide_eq_true (Ω:((w:Nat):Int)<(gr.length:Nat))
  have h257:=qlR n nb f (fun _=>-1) q fav c d st;unfold bkS B at h257;have hcb:=yD f q (gr.getD w 0:Nat) nb hq;have hdl:=Kg f q nb (fun i=>gr.getD i 0) w;have hsh:=qmt D.length hnb hq hc hd;obtain⟨sv,hsv⟩:∃sv,sv=dvS ov (dvl f q nb (fun i=>gr.getD i 0) w).length:=⟨_,rfl⟩;rcases ov with _|⟨did,row⟩
  ·have hov:dvl f q nb (fun i=>gr.getD i 0) w=[]:=hov
   dsimp only[dvX,dvS];have NB:=(⟨nmA (Ω:rid2<m2),nmA (Ω:Y2<m2),nmA (Ω:a2<m2),nmA (Ω:oid<m2),nmA (Ω:id+3<m2),nmA (Ω:id+2<m2),nmA (Ω:id<m2),nmA (Ω:tid<m2),nmA (Ω:mid<m2),nmE (Ω:rid2≠Y2),nmE (Ω:rid2≠a2),nmE (Ω:rid2≠oid),nmE (Ω:rid2≠id+3),nmE (Ω:rid2≠id+2),nmE (Ω:rid2≠id),nmE (Ω:rid2≠tid),nmE (Ω:rid2≠mid),nmE (Ω:Y2≠a2),nmE (Ω:Y2≠oid),nmE (Ω:Y2≠id+3),nmE (Ω:Y2≠id+2),nmE (Ω:Y2≠id),nmE (Ω:Y2≠tid),nmE (Ω:Y2≠mid),nmE (Ω:a2≠oid),nmE (Ω:a2≠id+3),nmE (Ω:a2≠id+2),nmE (Ω:a2≠id),nmE (Ω:a2≠tid),nmE (Ω:a2≠mid),nmE (Ω:oid≠id+3),nmE (Ω:oid≠id+2),nmE (Ω:oid≠id),nmE (Ω:oid≠tid),nmE (Ω:oid≠mid),nmE (Ω:id+3≠tid),nmE (Ω:id+3≠mid),nmE (Ω:id+2≠tid),nmE (Ω:id+2≠mid),nmE (Ω:id≠tid),nmE (Ω:id≠mid),nmE (Ω:tid≠mid)⟩:_∧_∧_∧_∧_∧_∧_∧_∧_∧_∧_∧_∧_∧_∧_∧_∧_∧_∧_∧_∧_∧_∧_∧_∧_∧_∧_∧_∧_∧_∧_∧_∧_∧_∧_∧_∧_∧_∧_∧_∧_∧_);(repeat' (first|refine sD ?_ ?_<;>intro _|refine aAg ?_|(simp -dsimp only[↓RP,RQ,xa0,reduceIte,reduceCtorEq,xa1,xa2,xa3,xa4,hlt,tlL,TYQ,TYP,NB,QS,hr0,TYR,TYS,TYU,↓RY,QT,QN])))
   all_goals try exact Ωb
   refine qm (h257) ΩF Ωa ?_;(repeat' (first|refine sD ?_ ?_<;>intro _|refine aAg ?_|(simp -dsimp only[↓RP,RQ,xa0,reduceIte,reduceCtorEq,xa1,xa2,xa3,xa4,TYQ,TYP,NB,QS,hr0,TYR,TYS,TYU,↓RY,QT,QN])))
   all_goals try exact Ωb
   refine Vo follows Ωx R2 ΩN Ωx fun out5=>?_;by_cases hz0:cF f q nb (gr.getD w 0:Nat)=0
   ·have hb0:bD f q nb (fun i=>gr.getD i 0) gr.length (Value.agg #[Value.int IntKind.i64 ((gr.getD w 0:Nat):Int),Value.int IntKind.i64 (-1)])=false:=qih (gr:=(fun i=>gr.getD i 0)) (i:=w) hz0
    (repeat' (first|refine sD ?_ ?_<;>intro _|refine aAg ?_|(simp -dsimp only[↓RP,RQ,xa0,reduceIte,reduceCtorEq,xa1,xa2,xa3,xa4,hb0,TYQ,TYP,NB,QS,hr0,TYR,TYS,TYU,↓RY,QT,QN])))
    all_goals try exact Ωb
    refine⟨(w+1,m2+31,none),⟨hwl,Ωe,?ho0none⟩,Ωe,weakSU (xa5 _) Ωf ?hs0none⟩
    case ho0none=>
     dsimp only;rw[Qf (gr:=(fun i=>gr.getD i 0)) hz0];exact hov
    case hs0none=>
     dsimp only[dvX,dvS]
     skip
     (intro q v hv;simp only[blk]at hv ⊢;((repeat' split at hv)<;>(repeat' split)<;>first|exact hv|(exfalso;omega)|(exfalso;have:=hr _ _ hv;omega)))
   ·have hb1:bD f q nb (fun i=>gr.getD i 0) gr.length (Value.agg #[Value.int IntKind.i64 ((gr.getD w 0:Nat):Int),Value.int IntKind.i64 (-1)])=true:=YI f q nb (fun i=>gr.getD i 0) w hz0 gr.length hwl
    have hb2:bG f q nb (fun i=>gr.getD i 0) gr.length (Value.agg #[Value.int IntKind.i64 ((gr.getD w 0:Nat):Int),Value.int IntKind.i64 (-1)])=.val (.int .i64 (cF f q nb (gr.getD w 0:Nat))):=qlo (gr:=(fun i=>gr.getD i 0)) hwl hz0;have hDm:gr.getD w 0∈D:=by
     rw[hD];exact(yl f q nb (fun i=>gr.getD i 0) _ _).2 ⟨w,hwl,rfl,hz0⟩
    have hD0:1≤D.length:=List.length_pos_iff.2 (List.ne_nil_of_mem hDm);(repeat' (first|refine sD ?_ ?_<;>intro _|refine aAg ?_|(simp -dsimp only[↓RP,RQ,xa0,reduceIte,reduceCtorEq,xa1,xa2,xa3,xa4,hb1,hb2,TYQ,TYP,NB,QS,hr0,TYR,TYS,TYU,↓RY,QT,QN])))
    all_goals try exact Ωb
    refine qlp (mid:=mid) (id:=id) (tid:=tid) (get:=bG f q nb (fun i=>gr.getD i 0) gr.length) (n:=n) (nb:=nb) (f:=f) (fv:=(amx (cV f q nb) n:Nat)) (M:=.mp mid) (a0:=c+100*sQ q nb) (a1:=0) (a2:=zc q d nb) (a3:=0) (a4:=0) (a5:=c+100*sQ q nb - zc q d nb) (q:=q) (fav:=fav) (c:=c) (d:=d) (st:=st) (oid:=oid) (p8:=m2+12) (x9:=cF f q nb (gr.getD w 0:Nat)) (L:=(dvl f q nb (fun i=>gr.getD i 0) gr.length).map (fun r:Nat=>ks (r:Nat) (-1))) ΩQ ΩQ ΩQ ΩQ ΩQ Ωv Ωv (by simp only[blk,NB,w6,w7,xa2,if_false,if_true];rfl) Ωv (GI hinj) (qde f q nb (fun i=>gr.getD i 0) gr.length) (by rw[xe1,←hD];exact hD0) (by rw[xe1,←hD];exact hD8) (by have:=qii hnb hq hc hd;constructor<;>omega) (by rw[xe1,←hD];omega) ?_;rw[xe1,←hD];have hcz:1≤cF f q nb (gr.getD w 0:Nat):=by omega
    have hpn:=qlq (x:=Int.tdiv (c+100*sQ q nb - zc q d nb) (D.length:Nat)) (n:=cF f q nb (gr.getD w 0:Nat)) hsh Ω hst;have hms:=qij (x:=cF f q nb (gr.getD w 0:Nat)) Ω hst;(repeat' (first|refine sD ?_ ?_<;>intro _|refine aAg ?_|(simp -dsimp only[↓RP,RQ,xa0,reduceIte,reduceCtorEq,xa1,xa2,xa3,xa4,tlL,TYQ,TYP,NB,QS,hr0,TYR,TYS,TYU,↓RY,QT,QN])))
    all_goals try exact Ωb
    have hS:dvl f q nb (fun i=>gr.getD i 0) (w+1)=[gr.getD w 0]:=by rw[yk (gr:=(fun i=>gr.getD i 0)) hz0,hov];rfl
    refine⟨(w+1,m2+64,some (m2+55,fun i j=>[SV.val (.int .i64 (gr.getD w 0:Nat)),.val (.int .i64 (-1)),.val (.int .i64 (Int.tdiv (Int.tdiv (c+100*sQ q nb - zc q d nb) (D.length:Nat)) (cF f q nb (gr.getD w 0:Nat)*st)*st))].getD (i*3+j) .top)),⟨hwl,Ωe,?ho1⟩,Ωe,weakSU (xa5 _) Ωf ?hs5⟩
    case ho1=>
     dsimp only;rw[hS];refine⟨Ωg,Ω,Ω,fun i hi=>?_⟩;obtain rfl:i=0:=by simp at hi;omega
     exact⟨rfl,rfl,rfl⟩
    case hs5=>
     dsimp only;rw[hS];dsimp only[dvX,dvS,List.length]
     (intro q v hv;simp only[blk]at hv ⊢;((repeat' split at hv)<;>(repeat' split)<;>first|exact hv|(exfalso;omega)|(exfalso;have:=hr _ _ hv;omega)))
  ·obtain⟨ho1,ho2,ho3,ho4⟩:=hov
   dsimp only[dvX,dvS];have hdd:dropBlk rest did=rest:=zn (hr.none Ω);have NB:=(⟨nmA (Ω:did<m2),nmA (Ω:rid2<m2),nmA (Ω:Y2<m2),nmA (Ω:a2<m2),nmA (Ω:oid<m2),nmA (Ω:id+3<m2),nmA (Ω:id+2<m2),nmA (Ω:id<m2),nmA (Ω:tid<m2),nmA (Ω:mid<m2),nmE (Ω:did≠rid2),nmE (Ω:did≠Y2),nmE (Ω:did≠a2),nmE (Ω:did≠oid),nmE (Ω:did≠id+3),nmE (Ω:did≠id+2),nmE (Ω:did≠id),nmE (Ω:did≠tid),nmE (Ω:did≠mid),nmE (Ω:rid2≠Y2),nmE (Ω:rid2≠a2),nmE (Ω:rid2≠oid),nmE (Ω:rid2≠id+3),nmE (Ω:rid2≠id+2),nmE (Ω:rid2≠id),nmE (Ω:rid2≠tid),nmE (Ω:rid2≠mid),nmE (Ω:Y2≠a2),nmE (Ω:Y2≠oid),nmE (Ω:Y2≠id+3),nmE (Ω:Y2≠id+2),nmE (Ω:Y2≠id),nmE (Ω:Y2≠tid),nmE (Ω:Y2≠mid),nmE (Ω:a2≠oid),nmE (Ω:a2≠id+3),nmE (Ω:a2≠id+2),nmE (Ω:a2≠id),nmE (Ω:a2≠tid),nmE (Ω:a2≠mid),nmE (Ω:oid≠id+3),nmE (Ω:oid≠id+2),nmE (Ω:oid≠id),nmE (Ω:oid≠tid),nmE (Ω:oid≠mid),nmE (Ω:id+3≠tid),nmE (Ω:id+3≠mid),nmE (Ω:id+2≠tid),nmE (Ω:id+2≠mid),nmE (Ω:id≠tid),nmE (Ω:id≠mid),nmE (Ω:tid≠mid)⟩:_∧_∧_∧_∧_∧_∧_∧_∧_∧_∧_∧_∧_∧_∧_∧_∧_∧_∧_∧_∧_∧_∧_∧_∧_∧_∧_∧_∧_∧_∧_∧_∧_∧_∧_∧_∧_∧_∧_∧_∧_∧_∧_∧_∧_∧_∧_∧_∧_∧_∧_∧_);(repeat' (first|refine sD ?_ ?_<;>intro _|refine aAg ?_|(simp -dsimp only[↓RP,RQ,xa0,reduceIte,reduceCtorEq,xa1,xa2,xa3,xa4,hlt,tlL,TYQ,TYP,NB,QS,hr0,TYR,TYS,TYU,↓RY,QT,QN])))
   all_goals try exact Ωb
   refine qm (h257) ΩF Ωa ?_;(repeat' (first|refine sD ?_ ?_<;>intro _|refine aAg ?_|(simp -dsimp only[↓RP,RQ,xa0,reduceIte,reduceCtorEq,xa1,xa2,xa3,xa4,TYQ,TYP,NB,QS,hr0,TYR,TYS,TYU,↓RY,QT,QN])))
   all_goals try exact Ωb
   refine Vo follows Ωx R2 ΩN Ωx fun out5=>?_;by_cases hz0:cF f q nb (gr.getD w 0:Nat)=0
   ·have hb0:bD f q nb (fun i=>gr.getD i 0) gr.length (Value.agg #[Value.int IntKind.i64 ((gr.getD w 0:Nat):Int),Value.int IntKind.i64 (-1)])=false:=qih (gr:=(fun i=>gr.getD i 0)) (i:=w) hz0
    (repeat' (first|refine sD ?_ ?_<;>intro _|refine aAg ?_|(simp -dsimp only[↓RP,RQ,xa0,reduceIte,reduceCtorEq,xa1,xa2,xa3,xa4,hb0,TYQ,TYP,NB,QS,hr0,TYR,TYS,TYU,↓RY,QT,QN])))
    all_goals try exact Ωb
    refine⟨(w+1,m2+31,some (did,row)),⟨hwl,Ωe,?ho0some⟩,Ωe,weakSU (xa5 _) Ωf ?hs0some⟩
    case ho0some=>
     dsimp only;rw[Qf (gr:=(fun i=>gr.getD i 0)) hz0];exact⟨ho1,ho2,Ω,ho4⟩
    case hs0some=>
     dsimp only;rw[Qf (gr:=(fun i=>gr.getD i 0)) hz0];(try dsimp only[dvX,dvS])
     (intro q v hv;simp only[blk]at hv ⊢;((repeat' split at hv)<;>(repeat' split)<;>first|exact hv|(exfalso;omega)|(exfalso;have:=hr _ _ hv;omega)))
   ·have hb1:bD f q nb (fun i=>gr.getD i 0) gr.length (Value.agg #[Value.int IntKind.i64 ((gr.getD w 0:Nat):Int),Value.int IntKind.i64 (-1)])=true:=YI f q nb (fun i=>gr.getD i 0) w hz0 gr.length hwl
    have hb2:bG f q nb (fun i=>gr.getD i 0) gr.length (Value.agg #[Value.int IntKind.i64 ((gr.getD w 0:Nat):Int),Value.int IntKind.i64 (-1)])=.val (.int .i64 (cF f q nb (gr.getD w 0:Nat))):=qlo (gr:=(fun i=>gr.getD i 0)) hwl hz0;have hDm:gr.getD w 0∈D:=by
     rw[hD];exact(yl f q nb (fun i=>gr.getD i 0) _ _).2 ⟨w,hwl,rfl,hz0⟩
    have hD0:1≤D.length:=List.length_pos_iff.2 (List.ne_nil_of_mem hDm);(repeat' (first|refine sD ?_ ?_<;>intro _|refine aAg ?_|(simp -dsimp only[↓RP,RQ,xa0,reduceIte,reduceCtorEq,xa1,xa2,xa3,xa4,hb1,hb2,TYQ,TYP,NB,QS,hr0,TYR,TYS,TYU,↓RY,QT,QN])))
    all_goals try exact Ωb
    refine qlp (mid:=mid) (id:=id) (tid:=tid) (get:=bG f q nb (fun i=>gr.getD i 0) gr.length) (n:=n) (nb:=nb) (f:=f) (fv:=(amx (cV f q nb) n:Nat)) (M:=.mp mid) (a0:=c+100*sQ q nb) (a1:=0) (a2:=zc q d nb) (a3:=0) (a4:=0) (a5:=c+100*sQ q nb - zc q d nb) (q:=q) (fav:=fav) (c:=c) (d:=d) (st:=st) (oid:=oid) (p8:=m2+12) (x9:=cF f q nb (gr.getD w 0:Nat)) (L:=(dvl f q nb (fun i=>gr.getD i 0) gr.length).map (fun r:Nat=>ks (r:Nat) (-1))) ΩQ ΩQ ΩQ ΩQ ΩQ Ωv Ωv (by simp only[blk,NB,w6,w7,xa2,if_false,if_true];rfl) Ωv (GI hinj) (qde f q nb (fun i=>gr.getD i 0) gr.length) (by rw[xe1,←hD];exact hD0) (by rw[xe1,←hD];exact hD8) (by have:=qii hnb hq hc hd;constructor<;>omega) (by rw[xe1,←hD];omega) ?_;rw[xe1,←hD];have hcz:1≤cF f q nb (gr.getD w 0:Nat):=by omega
    have hpn:=qlq (x:=Int.tdiv (c+100*sQ q nb - zc q d nb) (D.length:Nat)) (n:=cF f q nb (gr.getD w 0:Nat)) hsh Ω hst;have hms:=qij (x:=cF f q nb (gr.getD w 0:Nat)) Ω hst;(repeat' (first|refine sD ?_ ?_<;>intro _|refine aAg ?_|(simp -dsimp only[↓RP,RQ,xa0,reduceIte,reduceCtorEq,xa1,xa2,xa3,xa4,tlL,hdd,TYQ,TYP,NB,QS,hr0,TYR,TYS,TYU,↓RY,QT,QN])))
    all_goals try exact Ωb
    have hS:dvl f q nb (fun i=>gr.getD i 0) (w+1)=dvl f q nb (fun i=>gr.getD i 0) w++[gr.getD w 0]:=yk (gr:=(fun i=>gr.getD i 0)) hz0;have hSl:(dvl f q nb (fun i=>gr.getD i 0) (w+1)).length=(dvl f q nb (fun i=>gr.getD i 0) w).length+1:=by rw[hS,xc8,xd1]
    refine⟨(w+1,m2+64,some (m2+55,fun i j=>if i<(dvl f q nb (fun i=>gr.getD i 0) w).length then row i j else [SV.val (.int .i64 (gr.getD w 0:Nat)),.val (.int .i64 (-1)),.val (.int .i64 (Int.tdiv (Int.tdiv (c+100*sQ q nb - zc q d nb) (D.length:Nat)) (cF f q nb (gr.getD w 0:Nat)*st)*st))].getD ((i -(dvl f q nb (fun i=>gr.getD i 0) w).length)*3+j) .top)),⟨hwl,Ωe,?ho2⟩,Ωe,weakSU (xa5 _) Ωf ?hs6⟩
    case ho2=>
     dsimp only;refine⟨by rw[hS];simp,Ω,Ω,fun i hi=>?_⟩;rw[hSl]at hi;rw[hS];by_cases e:i<(dvl f q nb (fun i=>gr.getD i 0) w).length
     ·simp only[if_pos e]
      rw[xc6,xc9 e,←xc6];exact ho4 i e
     ·obtain rfl:i=(dvl f q nb (fun i=>gr.getD i 0) w).length:=by omega
      simp only[if_neg e,xb8];have hgd:(dvl f q nb (fun i=>gr.getD i 0) w++[gr.getD w 0]).getD (dvl f q nb (fun i=>gr.getD i 0) w).length 0=gr.getD w 0:=by
       rw[xc6,xd0 (xa5 _),xb8];rfl
      rw[hgd];exact⟨rfl,rfl,rfl⟩
    case hs6=>
     dsimp only;rw[hSl]
     (try dsimp only[dvX,dvS])
     (intro q v hv;simp only[blk]at hv ⊢;((repeat' split at hv)<;>(repeat' split)<;>first|exact hv|(exfalso;omega)|(exfalso;have:=hr _ _ hv;omega)))
 obtain rfl:w=gr.length:=by omega
 have hlt:=decide_eq_false (Ω:¬((gr.length:Nat):Int)<(gr.length:Nat));have hdr2:dropBlk rest Y2=rest:=zn (hr.none Ω);rw[←hD]at hov ⊢;rcases ov with _|⟨did,row⟩
 ·dsimp only[dvX,dvS]
  have NB:=(⟨nmA (Ω:rid2<m2),nmA (Ω:Y2<m2),nmA (Ω:a2<m2),nmA (Ω:oid<m2),nmA (Ω:id+3<m2),nmA (Ω:id+2<m2),nmA (Ω:id<m2),nmA (Ω:tid<m2),nmA (Ω:mid<m2),nmE (Ω:rid2≠Y2),nmE (Ω:rid2≠a2),nmE (Ω:rid2≠oid),nmE (Ω:rid2≠id+3),nmE (Ω:rid2≠id+2),nmE (Ω:rid2≠id),nmE (Ω:rid2≠tid),nmE (Ω:rid2≠mid),nmE (Ω:Y2≠a2),nmE (Ω:Y2≠oid),nmE (Ω:Y2≠id+3),nmE (Ω:Y2≠id+2),nmE (Ω:Y2≠id),nmE (Ω:Y2≠tid),nmE (Ω:Y2≠mid),nmE (Ω:a2≠oid),nmE (Ω:a2≠id+3),nmE (Ω:a2≠id+2),nmE (Ω:a2≠id),nmE (Ω:a2≠tid),nmE (Ω:a2≠mid),nmE (Ω:oid≠id+3),nmE (Ω:oid≠id+2),nmE (Ω:oid≠id),nmE (Ω:oid≠tid),nmE (Ω:oid≠mid),nmE (Ω:id+3≠tid),nmE (Ω:id+3≠mid),nmE (Ω:id+2≠tid),nmE (Ω:id+2≠mid),nmE (Ω:id≠tid),nmE (Ω:id≠mid),nmE (Ω:tid≠mid)⟩:_∧_∧_∧_∧_∧_∧_∧_∧_∧_∧_∧_∧_∧_∧_∧_∧_∧_∧_∧_∧_∧_∧_∧_∧_∧_∧_∧_∧_∧_∧_∧_∧_∧_∧_∧_∧_∧_∧_∧_∧_∧_);(repeat' (first|refine sD ?_ ?_<;>intro _|refine aAg ?_|(simp -dsimp only[↓RP,RQ,xa0,reduceIte,reduceCtorEq,xa1,xa2,xa3,xa4,hlt,hdr2,tlL,TYQ,TYP,NB,QS,hr0,TYR,TYS,TYU,↓RY,QT,QN])))
  all_goals try exact Ωb
  refine⟨(tid,.cells 167 (tlL n nb f q fav c d st (amx (cV f q nb) n:Nat) (.mp mid) (c+100*sQ q nb) 0 (zc q d nb) 0 0 (c+100*sQ q nb - zc q d nb))) ::(mid,.map (ql true [.i .i64,.i .i64]) (uD f nb) (uG f q nb)) :: rest,_,_,vQ (fr':=[(0,_)]) ⟨.inr rfl,trivial⟩ ?hsE,?hqE,none,qik hov Ω ?hmE,rfl,rfl⟩
  case hsE=>(intro q v hv;simp only[blk]at hv ⊢;((repeat' split at hv)<;>(repeat' split)<;>first|exact hv|(exfalso;omega)|(exfalso;have:=hr _ _ hv;omega)))
  case hqE=>omega
  case hmE=>omega
 ·obtain⟨ho1,ho2,ho3,ho4⟩:=hov
  dsimp only[dvX,dvS];have NB:=(⟨nmA (Ω:did<m2),nmA (Ω:rid2<m2),nmA (Ω:Y2<m2),nmA (Ω:a2<m2),nmA (Ω:oid<m2),nmA (Ω:id+3<m2),nmA (Ω:id+2<m2),nmA (Ω:id<m2),nmA (Ω:tid<m2),nmA (Ω:mid<m2),nmE (Ω:did≠rid2),nmE (Ω:did≠Y2),nmE (Ω:did≠a2),nmE (Ω:did≠oid),nmE (Ω:did≠id+3),nmE (Ω:did≠id+2),nmE (Ω:did≠id),nmE (Ω:did≠tid),nmE (Ω:did≠mid),nmE (Ω:rid2≠Y2),nmE (Ω:rid2≠a2),nmE (Ω:rid2≠oid),nmE (Ω:rid2≠id+3),nmE (Ω:rid2≠id+2),nmE (Ω:rid2≠id),nmE (Ω:rid2≠tid),nmE (Ω:rid2≠mid),nmE (Ω:Y2≠a2),nmE (Ω:Y2≠oid),nmE (Ω:Y2≠id+3),nmE (Ω:Y2≠id+2),nmE (Ω:Y2≠id),nmE (Ω:Y2≠tid),nmE (Ω:Y2≠mid),nmE (Ω:a2≠oid),nmE (Ω:a2≠id+3),nmE (Ω:a2≠id+2),nmE (Ω:a2≠id),nmE (Ω:a2≠tid),nmE (Ω:a2≠mid),nmE (Ω:oid≠id+3),nmE (Ω:oid≠id+2),nmE (Ω:oid≠id),nmE (Ω:oid≠tid),nmE (Ω:oid≠mid),nmE (Ω:id+3≠tid),nmE (Ω:id+3≠mid),nmE (Ω:id+2≠tid),nmE (Ω:id+2≠mid),nmE (Ω:id≠tid),nmE (Ω:id≠mid),nmE (Ω:tid≠mid)⟩:_∧_∧_∧_∧_∧_∧_∧_∧_∧_∧_∧_∧_∧_∧_∧_∧_∧_∧_∧_∧_∧_∧_∧_∧_∧_∧_∧_∧_∧_∧_∧_∧_∧_∧_∧_∧_∧_∧_∧_∧_∧_∧_∧_∧_∧_∧_∧_∧_∧_∧_∧_);(repeat' (first|refine sD ?_ ?_<;>intro _|refine aAg ?_|(simp -dsimp only[↓RP,RQ,xa0,reduceIte,reduceCtorEq,xa1,xa2,xa3,xa4,hlt,hdr2,tlL,TYQ,TYP,NB,QS,hr0,TYR,TYS,TYU,↓RY,QT,QN])))
  all_goals try exact Ωb
  refine⟨(did,.rows 80 3 D.length row) ::(tid,.cells 167 (tlL n nb f q fav c d st (amx (cV f q nb) n:Nat) (.mp mid) (c+100*sQ q nb) 0 (zc q d nb) 0 0 (c+100*sQ q nb - zc q d nb))) ::(mid,.map (ql true [.i .i64,.i .i64]) (uD f nb) (uG f q nb)) :: rest,_,_,vQ (fr':=[(0,_)]) ⟨.inr rfl,trivial⟩ ?hsF,?hqF,some (did,row),qik (lo:=rid2) (m:=m2) ⟨ho1,ho2,ho3,ho4⟩ Ω ?hmF,rfl,rfl⟩
  case hsF=>(intro q v hv;simp only[blk]at hv ⊢;((repeat' split at hv)<;>(repeat' split)<;>first|exact hv|(exfalso;omega)|(exfalso;have:=hr _ _ hv;omega)))
  case hqF=>omega
  case hmF=>omega
end Go.Tn
end
