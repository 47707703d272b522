/- A part of the proof. -/
import Derived.Test.YtacejomniokahaaGreatPJ
import Derived.Test.YtacejomniokahaaGreatPE
open Nat renaming reduceEqDiff→xa2,le_refl→xa5,zero_add→xb0,zero_le→xb6,sub_self→xb8
open List renaming getD_eq_getElem?_getD→xc6,getElem?_eq_getElem→xc7,length_append→xc8,getElem?_append_left→xc9,getElem?_append_right→xd0,length_singleton→xd1,length_map→xe1
open Bool renaming or_eq_true→xe8
open Option renaming getD_some→xg0
open Go.Sx.SV renaming val→Ψ
open Go.Value renaming int→Φ
open Go.IntKind renaming i64→Γ
set_option linter.unusedVariables false
set_option linter.unusedSimpArgs false
set_option linter.defProp false
set_option maxRecDepth 1000000
set_option maxHeartbeats 16000000
section
namespace Go.Tn
open Go.Proofs
open Go.Sx
variable{q:Nat→Int}{c d st:Int}{nb:Nat}
theorem TYU:True∧qn Tryz.prog 75=some ⟨false,1,some [.slice none 0 0],.slice 80 3⟩∧qn Tryz.prog 80=some ⟨true,3,some [Φ Γ 0,Φ Γ 0,Φ Γ 0],.struct [(0,1,some false),(1,1,some false),(2,1,some false)]⟩∧qt Tryz.prog 80=some [(0,1),(1,1),(2,1)]∧qW Tryz.prog 80=some [.i .i64,.i .i64,.i .i64]∧qn Tryz.prog 160=some ⟨false,1,some [.pointer none],.other⟩∧qF Tryz.prog 80=24:=⟨trivial,Ωb,Ωb,Ωb,Ωb,Ωb,Ωb⟩
theorem qqM(G:List (List Nat))(tid:Nat)(H:List (Nat×Blk))(id:Nat)(hr:Under H id)(ht:tid<id):EffVC Tryz.prog 201 [.ptr tid 0,.arr false false G.length 1 (λi _=>.arr false false (G.getD i []).length 1 (λj _=>Ψ (Φ Γ ((G.getD i []).getD j 0:Nat))))] H id (λhp' nid' res=>∃a b,id≤a∧a<b∧b<nid'∧hp'=(b,.cells 60 [.arr false false G.length 1 (λi _=>.arr false false (G.getD i []).length 1 (λj _=>Ψ (Φ Γ ((G.getD i []).getD j 0:Nat))))]) ::(a,.cells 160 [.ptr tid 0]) :: H∧res=.fn (.func 301) [] [.ptr a 0,.ptr b 0]):=by
 refine vu follows Tryz.func201 rfl Ωb Ωb (by rw[Tryz.ntmps201];simp) λout=>?_;have hr0:blk H id=none:=hr.none (xa5 _);have NB:=(⟨nmA (Ω:tid<id),trivial⟩:_∧_);(repeat' first|refine sD ?_ ?_<;>intro _|refine aAg ?_|simp -dsimp only[↓RP,RQ,seval,TYz,NB,QÀ,hr0,TYR,TYS,TYU]);exact⟨_,_,_,vm (fr':=[(0,_)]) ⟨.inr rfl,trivial⟩ (SubHp.refl _),id,id+1,Ω,Ω,Ω,rfl,rfl⟩
theorem one3(a b c:Int):∀(i j:Nat),i<1→j<3→oneCell ([Ψ (Φ Γ a),Ψ (Φ Γ b),Ψ (Φ Γ c)].getD (i*3+j) SV.top)=true:=by
 intro i j hi hj;obtain rfl:i=0:=by omega
 rw[Nat.zero_mul,xb0];rcases(Ω:j=0∨j=1∨j=2)with rfl|rfl|rfl<;>rfl
def pnF(f q:Nat→Int)(c d st:Int)(nb:Nat)(K:Nat)(r:Nat):Int:=Int.tdiv (Int.tdiv (c+100*sQ q nb - qM q d nb) (K:Nat)) (cF f q nb (r:Nat)*st)*st
theorem qeK(hnb:nb≤100)(hq:∀i,i<nb→1≤q i∧q i≤1000)(hc:0≤c∧c≤1000000)(hd:0≤d∧d≤500):0≤(c+100*sQ q nb - qM q d nb)∧(c+100*sQ q nb - qM q d nb)≤11000000:=by
 have h1:=Jm hnb hq hd;have h2:=Zx q nb hq;omega
theorem qko(K:Nat)(hnb:nb≤100)(hq:∀i,i<nb→1≤q i∧q i≤1000)(hc:0≤c∧c≤1000000)(hd:0≤d∧d≤500):0≤Int.tdiv (c+100*sQ q nb - qM q d nb) (K:Nat)∧Int.tdiv (c+100*sQ q nb - qM q d nb) (K:Nat)≤11000000:=by
 have h0:=qeK hnb hq hc hd;have h1:(0:Int)≤Int.tdiv (c+100*sQ q nb - qM q d nb) (K:Nat):=Int.tdiv_nonneg h0.1 (Int.natCast_nonneg _);have h2:Int.tdiv (c+100*sQ q nb - qM q d nb) (K:Nat)≤(c+100*sQ q nb - qM q d nb):=Int.tdiv_le_self _ h0.1;omega
theorem qkp{x:Int}(hx:0≤x∧x≤100000)(hst:1≤st∧st≤100):x≤x*st∧x*st≤100*x:=by
 have h1:x*1≤x*st:=Int.mul_le_mul_of_nonneg_left hst.1 hx.1;have h2:x*st≤x*100:=Int.mul_le_mul_of_nonneg_left hst.2 hx.1;omega
theorem qkq{x n:Int}(hx:0≤x∧x≤11000000)(hn:0≤n∧n≤100000)(hst:1≤st∧st≤100):0≤Int.tdiv x (n*st)∧Int.tdiv x (n*st)≤11000000∧0≤Int.tdiv x (n*st)*st∧Int.tdiv x (n*st)*st≤1100000000:=by
 have h0:=qkp hn hst;have h1:(0:Int)≤Int.tdiv x (n*st):=Int.tdiv_nonneg hx.1 Ω;have h2:=Int.tdiv_le_self (a:=x) (n*st) hx.1;have h3:Int.tdiv x (n*st)*st≤Int.tdiv x (n*st)*100:=Int.mul_le_mul_of_nonneg_left hst.2 h1;have h4:0≤Int.tdiv x (n*st)*st:=Int.mul_nonneg h1 Ω;omega
def dvX(o:Option (Nat×(Nat→Nat→SV)))(k:Nat)(rest:List (Nat×Blk)):List (Nat×Blk):=match o with
 |none=>rest
 |some (did,row)=>(did,.rows 80 3 k row) :: rest
def dvS(o:Option (Nat×(Nat→Nat→SV)))(k:Nat):SV:=match o with
 |none=>.val (.slice none 0 0)
 |some (did,_)=>.vec did k 3
def dvO(f q:Nat→Int)(c d st:Int)(nb K lo m:Nat)(D:List Nat)(o:Option (Nat×(Nat→Nat→SV))):Prop:=match o with
 |none=>D=[]
 |some (did,row)=>D≠[]∧lo<did∧did<m∧∀i,i<D.length→row i 0=Ψ (Φ Γ (D.getD i 0:Nat))∧row i 1=Ψ (Φ Γ (-1))∧row i 2=Ψ (Φ Γ (pnF f q c d st nb K (D.getD i 0)))
theorem qkr{f:Nat→Int}{K lo m lo2 m2:Nat}{D:List Nat}{o:Option (Nat×(Nat→Nat→SV))}(h:dvO f q c d st nb K lo m D o)(h1:lo2≤lo)(h2:m≤m2):dvO f q c d st nb K lo2 m2 D o:=by
 rcases o with _|⟨did,row⟩
 ·exact h
 ·obtain⟨a,b,c,d⟩:=h
  exact⟨a,Ω,Ω,d⟩
theorem e99(n nb:Nat)(f q:Nat→Int)(fav:Bool)(c d st:Int)(hn1:2≤n)(hn:n≤8)(hnb:nb≤100)(hf:∀i,i<nb→0≤f i∧f i<n)(hq:∀i,i<nb→1≤q i∧q i≤1000)(hc:0≤c∧c≤1000000)(hd:0≤d∧d≤500)(hst:1≤st∧st≤100)(G:List (List Nat))(gr:List Nat)(hgr:G.getD 0 []=gr)(hG:1≤G.length)(hG8:G.length≤8)(h1:1≤gr.length)(h8:gr.length≤8)(hs:gr.Pairwise (· < ·))(tid mid id:Nat)(rest:List (Nat×Blk))(hr:Under rest id)(ht:tid<id)(hm:mid<tid):EffVC Tryz.prog 99 [.ptr tid 0,.arr false false G.length 1 (λi _=>.arr false false (G.getD i []).length 1 (λj _=>Ψ (Φ Γ ((G.getD i []).getD j 0:Nat))))] ((tid,.cells 167 (tlL n nb f q fav c d st (amx (cV f q nb) n:Nat) (.mp mid) (c+100*sQ q nb) 0 (qM q d nb) 0 0 (c+100*sQ q nb - qM q d nb))) ::(mid,.map (qh true [.i .i64,.i .i64]) (uD f nb) (uG f q nb)) :: rest) id (λhp' nid' res=>id≤nid'∧∃ov,dvO f q c d st nb (dvl f q nb (λi=>gr.getD i 0) gr.length).length id nid' (dvl f q nb (λi=>gr.getD i 0) gr.length) ov∧hp'=dvX ov (dvl f q nb (λi=>gr.getD i 0) gr.length).length ((tid,.cells 167 (tlL n nb f q fav c d st (amx (cV f q nb) n:Nat) (.mp mid) (c+100*sQ q nb) 0 (qM q d nb) 0 0 (c+100*sQ q nb - qM q d nb))) ::(mid,.map (qh true [.i .i64,.i .i64]) (uD f nb) (uG f q nb)) :: rest)∧res=dvS ov (dvl f q nb (λi=>gr.getD i 0) gr.length).length):=by
 refine wo (qV [(12,[(0,0)])]) follows Tryz.func99 rfl Ωb Ωb (by rw[Tryz.ntmps99];simp) λout=>?_;have hr0:blk rest id=none:=hr.none (xa5 _);have NB:=(⟨nmA (Ω:tid<id),nmA (Ω:mid<id),nmE (Ω:tid≠mid)⟩:_∧_∧_);(repeat' first|refine sD ?_ ?_<;>intro _|refine aAg ?_|simp -dsimp only[↓RP,RQ,seval,TYz,NB,QÀ,hr0,TYR,TYS,TYU,↓RY]);refine gG Ωr (qqM G tid _ _ (by first|exact(Under.cons (Under.cons (Under.cons (Under.cons (Under.cons (hr.mono Ω) Ω) Ω) Ω) Ω) Ω)) Ω) λhp' nid' res ⟨a,b,q1,q2,q3,q4,q5⟩=>?_;subst q4 q5;(repeat' first|refine sD ?_ ?_<;>intro _|refine aAg ?_|simp -dsimp only[↓RP,RQ,seval,TYz,NB,QÀ,hr0,TYR,TYS,TYU,↓RY]);refine qdl follows (gf:=301) Ωr Tryz.func301 rfl Ωb Ωb Ωr (by rw[Tryz.ntmps301];simp) λout2 L R=>?_;have NB2:=(⟨nmA (Ω:a<nid'),nmA (Ω:b<nid'),nmA (Ω:id<nid'),nmA (Ω:id+2<nid'),nmA (Ω:id+3<nid'),nmA (Ω:tid<nid'),nmA (Ω:mid<nid')⟩:_∧_∧_∧_∧_∧_∧_);have NB3:=(⟨nmE (Ω:a≠b),nmE (Ω:a≠id),nmE (Ω:a≠id+2),nmE (Ω:a≠id+3),nmE (Ω:a≠tid),nmE (Ω:a≠mid),nmE (Ω:b≠id),nmE (Ω:b≠id+2),nmE (Ω:b≠id+3),nmE (Ω:b≠tid),nmE (Ω:b≠mid)⟩:_∧_∧_∧_∧_∧_∧_∧_∧_∧_∧_);have h302:=qss G hG hG8 (by rw[hgr];exact h1) (by rw[hgr];exact h8) (by rw[hgr];exact hs);rw[hgr]at h302;(repeat' first|refine sD ?_ ?_<;>intro _|refine aAg ?_|simp -dsimp only[↓RP,RQ,seval,NB2,NB3,tlL,TYz,NB,QÀ,hr0,TYR,TYS,TYU,↓RY]);refine callN h302 (by simp only[SubL,and_true];exact⟨qr _ ΩE,by simp[I,Go.Sx.Sub]⟩) (by simp[FreshO]) Ωaj ?_;(repeat' first|refine sD ?_ ?_<;>intro _|refine aAg ?_|simp -dsimp only[↓RP,RQ,seval,NB2,NB3,tlL,TYz,NB,QÀ,hr0,TYR,TYS,TYU,↓RY]);obtain⟨Y,hY⟩:∃Y,Y=nid'+3:=⟨_,rfl⟩;obtain⟨rid,hrid⟩:∃rid,rid=nid'+20:=⟨_,rfl⟩;rw[←hY,←hrid];refine qp (λ(z:Nat×Nat)=>z.1≤gr.length∧rid<z.2) (λz=>⟨[(0,.yld Y),(1,.ptr a 0),(5,.vec rid gr.length 1),(26,.vec rid gr.length 1),(27,Ψ (Φ Γ (gr.length:Nat))),(28,Ψ (Φ Γ (z.1:Nat)))],(rid,.rows 3 1 gr.length (λi _=>Ψ (Φ Γ (gr.getD i 0:Nat)))) ::(Y,.loop L .ready) ::(a,.cells 160 [.ptr tid 0]) ::(id+3,.cells 165 [.mp (id+2)]) ::(id+2,.map (qh true [.i .i64,.i .i64]) (bD f q nb (λi=>gr.getD i 0) z.1) (bG f q nb (λi=>gr.getD i 0) z.1)) ::(id,.cells 160 [.ptr tid 0]) ::(tid,.cells 167 (tlL n nb f q fav c d st (amx (cV f q nb) n:Nat) (.mp mid) (c+100*sQ q nb) 0 (qM q d nb) 0 0 (c+100*sQ q nb - qM q d nb))) ::(mid,.map (qh true [.i .i64,.i .i64]) (uD f nb) (uG f q nb)) :: rest,z.2⟩) (λz=>gr.length - z.1) (0,nid'+25) ⟨xb6 _,Ωc⟩ (weakSU (xa5 _) Ωd ?hs1) λz hz=>?_
 case hs1=>(intro q v hv;simp only[blk]at hv ⊢;((repeat' split at hv)<;>(repeat' split)<;>first|exact hv|(exfalso;omega)|(exfalso;have:=hr _ _ hv;omega)))
 obtain⟨w,m1⟩:=z;obtain⟨hw,hm1⟩:=hz;dsimp only at hw hm1 ⊢;clear NB NB2 NB3;have NB:=(⟨nmA (Ω:rid<m1),nmA (Ω:Y<m1),nmA (Ω:a<m1),nmA (Ω:id+3<m1),nmA (Ω:id+2<m1),nmA (Ω:id<m1),nmA (Ω:tid<m1),nmA (Ω:mid<m1),nmE (Ω:rid≠Y),nmE (Ω:rid≠a),nmE (Ω:rid≠id+3),nmE (Ω:rid≠id+2),nmE (Ω:rid≠id),nmE (Ω:rid≠tid),nmE (Ω:rid≠mid),nmE (Ω:Y≠a),nmE (Ω:Y≠id+3),nmE (Ω:Y≠id+2),nmE (Ω:Y≠id),nmE (Ω:Y≠tid),nmE (Ω:Y≠mid),nmE (Ω:a≠id+3),nmE (Ω:a≠id+2),nmE (Ω:a≠id),nmE (Ω:a≠tid),nmE (Ω:a≠mid),nmE (Ω:id+3≠tid),nmE (Ω:id+3≠mid),nmE (Ω:id+2≠tid),nmE (Ω:id+2≠mid),nmE (Ω:id≠tid),nmE (Ω:id≠mid),nmE (Ω:tid≠mid)⟩:_∧_∧_∧_∧_∧_∧_∧_∧_∧_∧_∧_∧_∧_∧_∧_∧_∧_∧_∧_∧_∧_∧_∧_∧_∧_∧_∧_∧_∧_∧_∧_∧_);by_cases hwl:w<gr.length
 ·have hlt:=decide_eq_true (Ω:((w:Nat):Int)<(gr.length:Nat))
  have h257:=qoG n nb f (λ_=>-1) q fav c d st;unfold bkS B at h257;have hl:(if uD f nb (Value.agg #[Value.int IntKind.i64 ((gr.getD w 0:Nat):Int),Value.int IntKind.i64 (-1)])=true then uG f q nb (Value.agg #[Value.int IntKind.i64 ((gr.getD w 0:Nat):Int),Value.int IntKind.i64 (-1)])else SV.val (Value.int IntKind.i64 0))=Ψ (Φ Γ (cF f q nb (gr.getD w 0:Nat))):=WS f q nb _;have hp1:∀D:Value→Bool,qA D (Value.agg #[Value.int IntKind.i64 ((gr.getD w 0:Nat):Int),Value.int IntKind.i64 (-1)]) (Value.agg #[Value.int IntKind.i64 ((gr.getD w 0:Nat):Int),Value.int IntKind.i64 (-1)])=true:=λD=>by
   simp only[qA,xe8];exact .inl (eqK_ksv.2 rfl)
  have hp2:∀(g:Value→SV)(X:SV),qB g (Value.agg #[Value.int IntKind.i64 ((gr.getD w 0:Nat):Int),Value.int IntKind.i64 (-1)]) X (Value.agg #[Value.int IntKind.i64 ((gr.getD w 0:Nat):Int),Value.int IntKind.i64 (-1)])=X:=λg X=>by
   have e:eqK (Value.agg #[Value.int IntKind.i64 ((gr.getD w 0:Nat):Int),Value.int IntKind.i64 (-1)]) (Value.agg #[Value.int IntKind.i64 ((gr.getD w 0:Nat):Int),Value.int IntKind.i64 (-1)])=true:=eqK_ksv.2 rfl;simp only[qB,e,svIte,if_true]
  (repeat' first|refine sD ?_ ?_<;>intro _|refine aAg ?_|simp -dsimp only[↓RP,RQ,seval,hlt,tlL,TYz,NB,QÀ,hr0,TYR,TYS,TYU,↓RY]);refine qk (h257) ΩI Ωa ?_;(repeat' first|refine sD ?_ ?_<;>intro _|refine aAg ?_|simp -dsimp only[↓RP,RQ,seval,TYz,NB,QÀ,hr0,TYR,TYS,TYU,↓RY]);refine We follows Ωr R Ωp Ωr λout3=>?_;by_cases hz0:cF f q nb (gr.getD w 0:Nat)=0
  ·have dz:=decide_eq_true hz0
   (repeat' first|refine sD ?_ ?_<;>intro _|refine aAg ?_|simp -dsimp only[↓RP,RQ,seval,dz,hl,hp1,hp2,TYz,NB,QÀ,hr0,TYR,TYS,TYU,↓RY]);refine⟨(w+1,m1+37),⟨hwl,Ωc⟩,Ωc,weakSU (xa5 _) Ωd ?hs2⟩
   case hs2=>
    dsimp only;rw[qkm (gr:=(λi=>gr.getD i 0)) hz0,qmY]
    (intro q v hv;simp only[blk]at hv ⊢;((repeat' split at hv)<;>(repeat' split)<;>first|exact hv|(exfalso;omega)|(exfalso;have:=hr _ _ hv;omega)))
  ·have dz:=decide_eq_false hz0
   (repeat' first|refine sD ?_ ?_<;>intro _|refine aAg ?_|simp -dsimp only[↓RP,RQ,seval,dz,hl,hp1,hp2,TYz,NB,QÀ,hr0,TYR,TYS,TYU,↓RY]);refine⟨(w+1,m1+37),⟨hwl,Ωc⟩,Ωc,weakSU Ωc Ωd ?hs3⟩
   case hs3=>
    dsimp only;rw[WT (gr:=(λi=>gr.getD i 0)) hz0,qmY]
    (intro q v hv;simp only[blk]at hv ⊢;((repeat' split at hv)<;>(repeat' split)<;>first|exact hv|(exfalso;omega)|(exfalso;have:=hr _ _ hv;omega)))
 obtain rfl:w=gr.length:=by omega
 have hlt:=decide_eq_false (Ω:¬((gr.length:Nat):Int)<(gr.length:Nat));have hdr:dropBlk rest Y=rest:=zg (hr.none Ω);(repeat' first|refine sD ?_ ?_<;>intro _|refine aAg ?_|simp -dsimp only[↓RP,RQ,seval,hlt,hdr,tlL,TYz,NB,QÀ,hr0,TYR,TYS,TYU,↓RY]);obtain⟨oid,hoid⟩:∃oid,oid=m1+1:=⟨_,rfl⟩;rw[←hoid];refine gG Ωr (qqM G tid _ _ ?hu1 Ω) λhp2 nid2 res2 ⟨a2,b2,p1,p2,p3,p4,p5⟩=>?_
 case hu1=>(intro q v hv;simp only[blk]at hv;((repeat' split at hv)<;>first|omega|(have:=hr _ _ hv;omega)))
 subst p4 p5;(repeat' first|refine sD ?_ ?_<;>intro _|refine aAg ?_|simp -dsimp only[↓RP,RQ,seval,TYz,NB,QÀ,hr0,TYR,TYS,TYU,↓RY]);refine qdl follows (gf:=301) Ωr Tryz.func301 rfl Ωb Ωb Ωr (by rw[Tryz.ntmps301];simp) λout4 L2 R2=>?_;clear NB;have NB:=(⟨nmA (Ω:a2<nid2),nmA (Ω:b2<nid2),nmA (Ω:oid<nid2),nmA (Ω:rid<nid2),nmA (Ω:a<nid2),nmA (Ω:id+3<nid2),nmA (Ω:id+2<nid2),nmA (Ω:id<nid2),nmA (Ω:tid<nid2),nmA (Ω:mid<nid2),nmE (Ω:a2≠b2),nmE (Ω:a2≠oid),nmE (Ω:a2≠rid),nmE (Ω:a2≠a),nmE (Ω:a2≠id+3),nmE (Ω:a2≠id+2),nmE (Ω:a2≠id),nmE (Ω:a2≠tid),nmE (Ω:a2≠mid),nmE (Ω:b2≠oid),nmE (Ω:b2≠rid),nmE (Ω:b2≠a),nmE (Ω:b2≠id+3),nmE (Ω:b2≠id+2),nmE (Ω:b2≠id),nmE (Ω:b2≠tid),nmE (Ω:b2≠mid),nmE (Ω:oid≠rid),nmE (Ω:oid≠a),nmE (Ω:oid≠id+3),nmE (Ω:oid≠id+2),nmE (Ω:oid≠id),nmE (Ω:oid≠tid),nmE (Ω:oid≠mid),nmE (Ω:rid≠a),nmE (Ω:rid≠id+3),nmE (Ω:rid≠id+2),nmE (Ω:rid≠id),nmE (Ω:rid≠tid),nmE (Ω:rid≠mid),nmE (Ω:a≠id+3),nmE (Ω:a≠id+2),nmE (Ω:a≠id),nmE (Ω:a≠tid),nmE (Ω:a≠mid),nmE (Ω:id+3≠tid),nmE (Ω:id+3≠mid),nmE (Ω:id+2≠tid),nmE (Ω:id+2≠mid),nmE (Ω:id≠tid),nmE (Ω:id≠mid),nmE (Ω:tid≠mid)⟩:_∧_∧_∧_∧_∧_∧_∧_∧_∧_∧_∧_∧_∧_∧_∧_∧_∧_∧_∧_∧_∧_∧_∧_∧_∧_∧_∧_∧_∧_∧_∧_∧_∧_∧_∧_∧_∧_∧_∧_∧_∧_∧_∧_∧_∧_∧_∧_∧_∧_∧_∧_);(repeat' first|refine sD ?_ ?_<;>intro _|refine aAg ?_|simp -dsimp only[↓RP,RQ,seval,hdr,tlL,TYz,NB,QÀ,hr0,TYR,TYS,TYU,↓RY]);refine callN h302 (by simp only[SubL,and_true];exact⟨qr _ ΩE,by simp[I,Go.Sx.Sub]⟩) (by simp[FreshO]) Ωaj ?_;(repeat' first|refine sD ?_ ?_<;>intro _|refine aAg ?_|simp -dsimp only[↓RP,RQ,seval,hdr,tlL,TYz,NB,QÀ,hr0,TYR,TYS,TYU,↓RY]);obtain⟨Y2,hY2⟩:∃Y,Y=nid2+3:=⟨_,rfl⟩;obtain⟨rid2,hrid2⟩:∃rid,rid=nid2+20:=⟨_,rfl⟩;rw[←hY2,←hrid2];obtain⟨D,hD⟩:∃D,D=dvl f q nb (λi=>gr.getD i 0) gr.length:=⟨_,rfl⟩;have hD8:D.length≤8:=by
  have:=yW f q nb (λi=>gr.getD i 0) gr.length;rw[←hD]at this;omega
 have hinj:∀i j,i<j→j<gr.length→(λi=>gr.getD i 0) i≠(λi=>gr.getD i 0) j:=λi j hi hj e=>by
  have:=List.pairwise_iff_getElem.1 hs i j Ω hj hi;dsimp only at e;rw[xc6,xc6,xc7 Ω,xc7 hj]at e;simp only[xg0]at e;omega
 refine qp (λ(z:Nat×Nat×Option (Nat×(Nat→Nat→SV)))=>z.1≤gr.length∧rid2<z.2.1∧dvO f q c d st nb D.length rid2 z.2.1 (dvl f q nb (λi=>gr.getD i 0) z.1) z.2.2) (λz=>⟨[(0,.yld Y2),(1,.ptr a2 0),(5,.vec rid2 gr.length 1),(26,.vec rid2 gr.length 1),(27,Ψ (Φ Γ (gr.length:Nat))),(28,Ψ (Φ Γ (z.1:Nat)))],(rid2,.rows 3 1 gr.length (λi _=>Ψ (Φ Γ (gr.getD i 0:Nat)))) ::(Y2,.loop L2 .ready) ::(a2,.cells 160 [.ptr tid 0]) ::(oid,.cells 75 [dvS (z.2.2) (dvl f q nb (λi=>gr.getD i 0) z.1).length]) :: dvX (z.2.2) (dvl f q nb (λi=>gr.getD i 0) z.1).length ((id+3,.cells 165 [.mp (id+2)]) ::(id+2,.map (qh true [.i .i64,.i .i64]) (bD f q nb (λi=>gr.getD i 0) gr.length) (bG f q nb (λi=>gr.getD i 0) gr.length)) ::(id,.cells 160 [.ptr tid 0]) ::(tid,.cells 167 (tlL n nb f q fav c d st (amx (cV f q nb) n:Nat) (.mp mid) (c+100*sQ q nb) 0 (qM q d nb) 0 0 (c+100*sQ q nb - qM q d nb))) ::(mid,.map (qh true [.i .i64,.i .i64]) (uD f nb) (uG f q nb)) :: rest),z.2.1⟩) (λz=>gr.length - z.1) (0,nid2+25,none) ⟨xb6 _,Ωc,rfl⟩ (weakSU (xa5 _) Ωd ?hs4) λz hz=>?_
 case hs4=>
  exact SubHp.cons (SubHp.cons (SubHp.skip ΩP (SubHp.cons (SubHp.cons (SubHp.skip ΩP (SubHp.skip ΩP (SubHp.refl _)))))))
 obtain⟨w,m2,ov⟩:=z;obtain⟨hw2,hm2,hov⟩:=hz;dsimp only at hw2 hm2 hov ⊢;clear NB;by_cases hwl:w<gr.length
 ·have hlt:=decide_eq_true (Ω:((w:Nat):Int)<(gr.length:Nat))
  have h257:=qoG n nb f (λ_=>-1) q fav c d st;unfold bkS B at h257;have hcb:=yq f q (gr.getD w 0:Nat) nb hq;have hdl:=yW f q nb (λi=>gr.getD i 0) w;have hsh:=qko D.length hnb hq hc hd;obtain⟨sv,hsv⟩:∃sv,sv=dvS ov (dvl f q nb (λi=>gr.getD i 0) w).length:=⟨_,rfl⟩;rcases ov with _|⟨did,row⟩
  ·have hov:dvl f q nb (λi=>gr.getD i 0) w=[]:=hov
   dsimp only[dvX,dvS];have NB:=(⟨nmA (Ω:rid2<m2),nmA (Ω:Y2<m2),nmA (Ω:a2<m2),nmA (Ω:oid<m2),nmA (Ω:id+3<m2),nmA (Ω:id+2<m2),nmA (Ω:id<m2),nmA (Ω:tid<m2),nmA (Ω:mid<m2),nmE (Ω:rid2≠Y2),nmE (Ω:rid2≠a2),nmE (Ω:rid2≠oid),nmE (Ω:rid2≠id+3),nmE (Ω:rid2≠id+2),nmE (Ω:rid2≠id),nmE (Ω:rid2≠tid),nmE (Ω:rid2≠mid),nmE (Ω:Y2≠a2),nmE (Ω:Y2≠oid),nmE (Ω:Y2≠id+3),nmE (Ω:Y2≠id+2),nmE (Ω:Y2≠id),nmE (Ω:Y2≠tid),nmE (Ω:Y2≠mid),nmE (Ω:a2≠oid),nmE (Ω:a2≠id+3),nmE (Ω:a2≠id+2),nmE (Ω:a2≠id),nmE (Ω:a2≠tid),nmE (Ω:a2≠mid),nmE (Ω:oid≠id+3),nmE (Ω:oid≠id+2),nmE (Ω:oid≠id),nmE (Ω:oid≠tid),nmE (Ω:oid≠mid),nmE (Ω:id+3≠tid),nmE (Ω:id+3≠mid),nmE (Ω:id+2≠tid),nmE (Ω:id+2≠mid),nmE (Ω:id≠tid),nmE (Ω:id≠mid),nmE (Ω:tid≠mid)⟩:_∧_∧_∧_∧_∧_∧_∧_∧_∧_∧_∧_∧_∧_∧_∧_∧_∧_∧_∧_∧_∧_∧_∧_∧_∧_∧_∧_∧_∧_∧_∧_∧_∧_∧_∧_∧_∧_∧_∧_∧_∧_);(repeat' first|refine sD ?_ ?_<;>intro _|refine aAg ?_|simp -dsimp only[↓RP,RQ,seval,hlt,tlL,TYz,NB,QÀ,hr0,TYR,TYS,TYU,↓RY]);refine qk (h257) ΩI Ωa ?_;(repeat' first|refine sD ?_ ?_<;>intro _|refine aAg ?_|simp -dsimp only[↓RP,RQ,seval,TYz,NB,QÀ,hr0,TYR,TYS,TYU,↓RY]);refine We follows Ωr R2 Ωp Ωr λout5=>?_;by_cases hz0:cF f q nb (gr.getD w 0:Nat)=0
   ·have hb0:bD f q nb (λi=>gr.getD i 0) gr.length (Value.agg #[Value.int IntKind.i64 ((gr.getD w 0:Nat):Int),Value.int IntKind.i64 (-1)])=false:=qkn (gr:=(λi=>gr.getD i 0)) (i:=w) hz0
    (repeat' first|refine sD ?_ ?_<;>intro _|refine aAg ?_|simp -dsimp only[↓RP,RQ,seval,hb0,TYz,NB,QÀ,hr0,TYR,TYS,TYU,↓RY]);refine⟨(w+1,m2+31,none),⟨hwl,Ωc,?ho0none⟩,Ωc,weakSU (xa5 _) Ωd ?hs0none⟩
    case ho0none=>
     dsimp only;rw[Z9 (gr:=(λi=>gr.getD i 0)) hz0];exact hov
    case hs0none=>
     dsimp only[dvX,dvS]
     skip
     (intro q v hv;simp only[blk]at hv ⊢;((repeat' split at hv)<;>(repeat' split)<;>first|exact hv|(exfalso;omega)|(exfalso;have:=hr _ _ hv;omega)))
   ·have hb1:bD f q nb (λi=>gr.getD i 0) gr.length (Value.agg #[Value.int IntKind.i64 ((gr.getD w 0:Nat):Int),Value.int IntKind.i64 (-1)])=true:=qaP f q nb (λi=>gr.getD i 0) w hz0 gr.length hwl
    have hb2:bG f q nb (λi=>gr.getD i 0) gr.length (Value.agg #[Value.int IntKind.i64 ((gr.getD w 0:Nat):Int),Value.int IntKind.i64 (-1)])=Ψ (Φ Γ (cF f q nb (gr.getD w 0:Nat))):=qod (gr:=(λi=>gr.getD i 0)) hwl hz0;have hDm:gr.getD w 0∈D:=by
     rw[hD];exact(wz f q nb (λi=>gr.getD i 0) _ _).2 ⟨w,hwl,rfl,hz0⟩
    have hD0:1≤D.length:=List.length_pos_iff.2 (List.ne_nil_of_mem hDm);(repeat' first|refine sD ?_ ?_<;>intro _|refine aAg ?_|simp -dsimp only[↓RP,RQ,seval,hb1,hb2,TYz,NB,QÀ,hr0,TYR,TYS,TYU,↓RY]);refine qoe (mid:=mid) (id:=id) (tid:=tid) (get:=bG f q nb (λi=>gr.getD i 0) gr.length) (n:=n) (nb:=nb) (f:=f) (fv:=(amx (cV f q nb) n:Nat)) (M:=.mp mid) (a0:=c+100*sQ q nb) (a1:=0) (a2:=qM q d nb) (a3:=0) (a4:=0) (a5:=c+100*sQ q nb - qM q d nb) (q:=q) (fav:=fav) (c:=c) (d:=d) (st:=st) (oid:=oid) (p8:=m2+12) (x9:=cF f q nb (gr.getD w 0:Nat)) (L:=(dvl f q nb (λi=>gr.getD i 0) gr.length).map (λr:Nat=>ks (r:Nat) (-1))) ΩG ΩG ΩG ΩG ΩG Ωv Ωv (by simp only[blk,NB,jd,je,xa2,if_false,if_true];rfl) Ωv (Jq hinj) (qeJ f q nb (λi=>gr.getD i 0) gr.length) (by rw[xe1,←hD];exact hD0) (by rw[xe1,←hD];exact hD8) (by have:=qeK hnb hq hc hd;constructor<;>omega) (by rw[xe1,←hD];omega) ?_;rw[xe1,←hD];have hcz:1≤cF f q nb (gr.getD w 0:Nat):=by omega
    have hpn:=qkq (x:=Int.tdiv (c+100*sQ q nb - qM q d nb) (D.length:Nat)) (n:=cF f q nb (gr.getD w 0:Nat)) hsh Ω hst;have hms:=qkp (x:=cF f q nb (gr.getD w 0:Nat)) Ω hst;(repeat' first|refine sD ?_ ?_<;>intro _|refine aAg ?_|simp -dsimp only[↓RP,RQ,seval,tlL,TYz,NB,QÀ,hr0,TYR,TYS,TYU,↓RY]);have hS:dvl f q nb (λi=>gr.getD i 0) (w+1)=[gr.getD w 0]:=by rw[Zz (gr:=(λi=>gr.getD i 0)) hz0,hov];rfl
    refine⟨(w+1,m2+64,some (m2+55,λi j=>[Ψ (Φ Γ (gr.getD w 0:Nat)),Ψ (Φ Γ (-1)),Ψ (Φ Γ (Int.tdiv (Int.tdiv (c+100*sQ q nb - qM q d nb) (D.length:Nat)) (cF f q nb (gr.getD w 0:Nat)*st)*st))].getD (i*3+j) .top)),⟨hwl,Ωc,?ho1⟩,Ωc,weakSU (xa5 _) Ωd ?hs5⟩
    case ho1=>
     dsimp only;rw[hS];refine⟨Ωg,Ω,Ω,λi hi=>?_⟩;obtain rfl:i=0:=by simp at hi;omega
     exact⟨rfl,rfl,rfl⟩
    case hs5=>
     dsimp only;rw[hS];dsimp only[dvX,dvS,List.length]
     (intro q v hv;simp only[blk]at hv ⊢;((repeat' split at hv)<;>(repeat' split)<;>first|exact hv|(exfalso;omega)|(exfalso;have:=hr _ _ hv;omega)))
  ·obtain⟨ho1,ho2,ho3,ho4⟩:=hov
   dsimp only[dvX,dvS];have hdd:dropBlk rest did=rest:=zg (hr.none Ω);have NB:=(⟨nmA (Ω:did<m2),nmA (Ω:rid2<m2),nmA (Ω:Y2<m2),nmA (Ω:a2<m2),nmA (Ω:oid<m2),nmA (Ω:id+3<m2),nmA (Ω:id+2<m2),nmA (Ω:id<m2),nmA (Ω:tid<m2),nmA (Ω:mid<m2),nmE (Ω:did≠rid2),nmE (Ω:did≠Y2),nmE (Ω:did≠a2),nmE (Ω:did≠oid),nmE (Ω:did≠id+3),nmE (Ω:did≠id+2),nmE (Ω:did≠id),nmE (Ω:did≠tid),nmE (Ω:did≠mid),nmE (Ω:rid2≠Y2),nmE (Ω:rid2≠a2),nmE (Ω:rid2≠oid),nmE (Ω:rid2≠id+3),nmE (Ω:rid2≠id+2),nmE (Ω:rid2≠id),nmE (Ω:rid2≠tid),nmE (Ω:rid2≠mid),nmE (Ω:Y2≠a2),nmE (Ω:Y2≠oid),nmE (Ω:Y2≠id+3),nmE (Ω:Y2≠id+2),nmE (Ω:Y2≠id),nmE (Ω:Y2≠tid),nmE (Ω:Y2≠mid),nmE (Ω:a2≠oid),nmE (Ω:a2≠id+3),nmE (Ω:a2≠id+2),nmE (Ω:a2≠id),nmE (Ω:a2≠tid),nmE (Ω:a2≠mid),nmE (Ω:oid≠id+3),nmE (Ω:oid≠id+2),nmE (Ω:oid≠id),nmE (Ω:oid≠tid),nmE (Ω:oid≠mid),nmE (Ω:id+3≠tid),nmE (Ω:id+3≠mid),nmE (Ω:id+2≠tid),nmE (Ω:id+2≠mid),nmE (Ω:id≠tid),nmE (Ω:id≠mid),nmE (Ω:tid≠mid)⟩:_∧_∧_∧_∧_∧_∧_∧_∧_∧_∧_∧_∧_∧_∧_∧_∧_∧_∧_∧_∧_∧_∧_∧_∧_∧_∧_∧_∧_∧_∧_∧_∧_∧_∧_∧_∧_∧_∧_∧_∧_∧_∧_∧_∧_∧_∧_∧_∧_∧_∧_∧_);(repeat' first|refine sD ?_ ?_<;>intro _|refine aAg ?_|simp -dsimp only[↓RP,RQ,seval,hlt,tlL,TYz,NB,QÀ,hr0,TYR,TYS,TYU,↓RY]);refine qk (h257) ΩI Ωa ?_;(repeat' first|refine sD ?_ ?_<;>intro _|refine aAg ?_|simp -dsimp only[↓RP,RQ,seval,TYz,NB,QÀ,hr0,TYR,TYS,TYU,↓RY]);refine We follows Ωr R2 Ωp Ωr λout5=>?_;by_cases hz0:cF f q nb (gr.getD w 0:Nat)=0
   ·have hb0:bD f q nb (λi=>gr.getD i 0) gr.length (Value.agg #[Value.int IntKind.i64 ((gr.getD w 0:Nat):Int),Value.int IntKind.i64 (-1)])=false:=qkn (gr:=(λi=>gr.getD i 0)) (i:=w) hz0
    (repeat' first|refine sD ?_ ?_<;>intro _|refine aAg ?_|simp -dsimp only[↓RP,RQ,seval,hb0,TYz,NB,QÀ,hr0,TYR,TYS,TYU,↓RY]);refine⟨(w+1,m2+31,some (did,row)),⟨hwl,Ωc,?ho0some⟩,Ωc,weakSU (xa5 _) Ωd ?hs0some⟩
    case ho0some=>
     dsimp only;rw[Z9 (gr:=(λi=>gr.getD i 0)) hz0];exact⟨ho1,ho2,Ω,ho4⟩
    case hs0some=>
     dsimp only;rw[Z9 (gr:=(λi=>gr.getD i 0)) hz0];(try dsimp only[dvX,dvS])
     (intro q v hv;simp only[blk]at hv ⊢;((repeat' split at hv)<;>(repeat' split)<;>first|exact hv|(exfalso;omega)|(exfalso;have:=hr _ _ hv;omega)))
   ·have hb1:bD f q nb (λi=>gr.getD i 0) gr.length (Value.agg #[Value.int IntKind.i64 ((gr.getD w 0:Nat):Int),Value.int IntKind.i64 (-1)])=true:=qaP f q nb (λi=>gr.getD i 0) w hz0 gr.length hwl
    have hb2:bG f q nb (λi=>gr.getD i 0) gr.length (Value.agg #[Value.int IntKind.i64 ((gr.getD w 0:Nat):Int),Value.int IntKind.i64 (-1)])=Ψ (Φ Γ (cF f q nb (gr.getD w 0:Nat))):=qod (gr:=(λi=>gr.getD i 0)) hwl hz0;have hDm:gr.getD w 0∈D:=by
     rw[hD];exact(wz f q nb (λi=>gr.getD i 0) _ _).2 ⟨w,hwl,rfl,hz0⟩
    have hD0:1≤D.length:=List.length_pos_iff.2 (List.ne_nil_of_mem hDm);(repeat' first|refine sD ?_ ?_<;>intro _|refine aAg ?_|simp -dsimp only[↓RP,RQ,seval,hb1,hb2,TYz,NB,QÀ,hr0,TYR,TYS,TYU,↓RY]);refine qoe (mid:=mid) (id:=id) (tid:=tid) (get:=bG f q nb (λi=>gr.getD i 0) gr.length) (n:=n) (nb:=nb) (f:=f) (fv:=(amx (cV f q nb) n:Nat)) (M:=.mp mid) (a0:=c+100*sQ q nb) (a1:=0) (a2:=qM q d nb) (a3:=0) (a4:=0) (a5:=c+100*sQ q nb - qM q d nb) (q:=q) (fav:=fav) (c:=c) (d:=d) (st:=st) (oid:=oid) (p8:=m2+12) (x9:=cF f q nb (gr.getD w 0:Nat)) (L:=(dvl f q nb (λi=>gr.getD i 0) gr.length).map (λr:Nat=>ks (r:Nat) (-1))) ΩG ΩG ΩG ΩG ΩG Ωv Ωv (by simp only[blk,NB,jd,je,xa2,if_false,if_true];rfl) Ωv (Jq hinj) (qeJ f q nb (λi=>gr.getD i 0) gr.length) (by rw[xe1,←hD];exact hD0) (by rw[xe1,←hD];exact hD8) (by have:=qeK hnb hq hc hd;constructor<;>omega) (by rw[xe1,←hD];omega) ?_;rw[xe1,←hD];have hcz:1≤cF f q nb (gr.getD w 0:Nat):=by omega
    have hpn:=qkq (x:=Int.tdiv (c+100*sQ q nb - qM q d nb) (D.length:Nat)) (n:=cF f q nb (gr.getD w 0:Nat)) hsh Ω hst;have hms:=qkp (x:=cF f q nb (gr.getD w 0:Nat)) Ω hst;(repeat' first|refine sD ?_ ?_<;>intro _|refine aAg ?_|simp -dsimp only[↓RP,RQ,seval,tlL,hdd,TYz,NB,QÀ,hr0,TYR,TYS,TYU,↓RY]);have hS:dvl f q nb (λi=>gr.getD i 0) (w+1)=dvl f q nb (λi=>gr.getD i 0) w++[gr.getD w 0]:=Zz (gr:=(λi=>gr.getD i 0)) hz0;have hSl:(dvl f q nb (λi=>gr.getD i 0) (w+1)).length=(dvl f q nb (λi=>gr.getD i 0) w).length+1:=by rw[hS,xc8,xd1]
    refine⟨(w+1,m2+64,some (m2+55,λi j=>if i<(dvl f q nb (λi=>gr.getD i 0) w).length then row i j else [Ψ (Φ Γ (gr.getD w 0:Nat)),Ψ (Φ Γ (-1)),Ψ (Φ Γ (Int.tdiv (Int.tdiv (c+100*sQ q nb - qM q d nb) (D.length:Nat)) (cF f q nb (gr.getD w 0:Nat)*st)*st))].getD ((i -(dvl f q nb (λi=>gr.getD i 0) w).length)*3+j) .top)),⟨hwl,Ωc,?ho2⟩,Ωc,weakSU (xa5 _) Ωd ?hs6⟩
    case ho2=>
     dsimp only;refine⟨by rw[hS];simp,Ω,Ω,λi hi=>?_⟩;rw[hSl]at hi;rw[hS];by_cases e:i<(dvl f q nb (λi=>gr.getD i 0) w).length
     ·simp only[if_pos e]
      rw[xc6,xc9 e,←xc6];exact ho4 i e
     ·obtain rfl:i=(dvl f q nb (λi=>gr.getD i 0) w).length:=by omega
      simp only[if_neg e,xb8];have hgd:(dvl f q nb (λi=>gr.getD i 0) w++[gr.getD w 0]).getD (dvl f q nb (λi=>gr.getD i 0) w).length 0=gr.getD w 0:=by
       rw[xc6,xd0 (xa5 _),xb8];rfl
      rw[hgd];exact⟨rfl,rfl,rfl⟩
    case hs6=>
     dsimp only;rw[hSl]
     (try dsimp only[dvX,dvS])
     (intro q v hv;simp only[blk]at hv ⊢;((repeat' split at hv)<;>(repeat' split)<;>first|exact hv|(exfalso;omega)|(exfalso;have:=hr _ _ hv;omega)))
 obtain rfl:w=gr.length:=by omega
 have hlt:=decide_eq_false (Ω:¬((gr.length:Nat):Int)<(gr.length:Nat));have hdr2:dropBlk rest Y2=rest:=zg (hr.none Ω);rw[←hD]at hov ⊢;rcases ov with _|⟨did,row⟩
 ·dsimp only[dvX,dvS]
  have NB:=(⟨nmA (Ω:rid2<m2),nmA (Ω:Y2<m2),nmA (Ω:a2<m2),nmA (Ω:oid<m2),nmA (Ω:id+3<m2),nmA (Ω:id+2<m2),nmA (Ω:id<m2),nmA (Ω:tid<m2),nmA (Ω:mid<m2),nmE (Ω:rid2≠Y2),nmE (Ω:rid2≠a2),nmE (Ω:rid2≠oid),nmE (Ω:rid2≠id+3),nmE (Ω:rid2≠id+2),nmE (Ω:rid2≠id),nmE (Ω:rid2≠tid),nmE (Ω:rid2≠mid),nmE (Ω:Y2≠a2),nmE (Ω:Y2≠oid),nmE (Ω:Y2≠id+3),nmE (Ω:Y2≠id+2),nmE (Ω:Y2≠id),nmE (Ω:Y2≠tid),nmE (Ω:Y2≠mid),nmE (Ω:a2≠oid),nmE (Ω:a2≠id+3),nmE (Ω:a2≠id+2),nmE (Ω:a2≠id),nmE (Ω:a2≠tid),nmE (Ω:a2≠mid),nmE (Ω:oid≠id+3),nmE (Ω:oid≠id+2),nmE (Ω:oid≠id),nmE (Ω:oid≠tid),nmE (Ω:oid≠mid),nmE (Ω:id+3≠tid),nmE (Ω:id+3≠mid),nmE (Ω:id+2≠tid),nmE (Ω:id+2≠mid),nmE (Ω:id≠tid),nmE (Ω:id≠mid),nmE (Ω:tid≠mid)⟩:_∧_∧_∧_∧_∧_∧_∧_∧_∧_∧_∧_∧_∧_∧_∧_∧_∧_∧_∧_∧_∧_∧_∧_∧_∧_∧_∧_∧_∧_∧_∧_∧_∧_∧_∧_∧_∧_∧_∧_∧_∧_);(repeat' first|refine sD ?_ ?_<;>intro _|refine aAg ?_|simp -dsimp only[↓RP,RQ,seval,hlt,hdr2,tlL,TYz,NB,QÀ,hr0,TYR,TYS,TYU,↓RY]);refine⟨(tid,.cells 167 (tlL n nb f q fav c d st (amx (cV f q nb) n:Nat) (.mp mid) (c+100*sQ q nb) 0 (qM q d nb) 0 0 (c+100*sQ q nb - qM q d nb))) ::(mid,.map (qh true [.i .i64,.i .i64]) (uD f nb) (uG f q nb)) :: rest,_,_,vm (fr':=[(0,_)]) ⟨.inr rfl,trivial⟩ ?hsE,?hqE,none,qkr hov Ω ?hmE,rfl,rfl⟩
  case hsE=>(intro q v hv;simp only[blk]at hv ⊢;((repeat' split at hv)<;>(repeat' split)<;>first|exact hv|(exfalso;omega)|(exfalso;have:=hr _ _ hv;omega)))
  case hqE=>omega
  case hmE=>omega
 ·obtain⟨ho1,ho2,ho3,ho4⟩:=hov
  dsimp only[dvX,dvS];have NB:=(⟨nmA (Ω:did<m2),nmA (Ω:rid2<m2),nmA (Ω:Y2<m2),nmA (Ω:a2<m2),nmA (Ω:oid<m2),nmA (Ω:id+3<m2),nmA (Ω:id+2<m2),nmA (Ω:id<m2),nmA (Ω:tid<m2),nmA (Ω:mid<m2),nmE (Ω:did≠rid2),nmE (Ω:did≠Y2),nmE (Ω:did≠a2),nmE (Ω:did≠oid),nmE (Ω:did≠id+3),nmE (Ω:did≠id+2),nmE (Ω:did≠id),nmE (Ω:did≠tid),nmE (Ω:did≠mid),nmE (Ω:rid2≠Y2),nmE (Ω:rid2≠a2),nmE (Ω:rid2≠oid),nmE (Ω:rid2≠id+3),nmE (Ω:rid2≠id+2),nmE (Ω:rid2≠id),nmE (Ω:rid2≠tid),nmE (Ω:rid2≠mid),nmE (Ω:Y2≠a2),nmE (Ω:Y2≠oid),nmE (Ω:Y2≠id+3),nmE (Ω:Y2≠id+2),nmE (Ω:Y2≠id),nmE (Ω:Y2≠tid),nmE (Ω:Y2≠mid),nmE (Ω:a2≠oid),nmE (Ω:a2≠id+3),nmE (Ω:a2≠id+2),nmE (Ω:a2≠id),nmE (Ω:a2≠tid),nmE (Ω:a2≠mid),nmE (Ω:oid≠id+3),nmE (Ω:oid≠id+2),nmE (Ω:oid≠id),nmE (Ω:oid≠tid),nmE (Ω:oid≠mid),nmE (Ω:id+3≠tid),nmE (Ω:id+3≠mid),nmE (Ω:id+2≠tid),nmE (Ω:id+2≠mid),nmE (Ω:id≠tid),nmE (Ω:id≠mid),nmE (Ω:tid≠mid)⟩:_∧_∧_∧_∧_∧_∧_∧_∧_∧_∧_∧_∧_∧_∧_∧_∧_∧_∧_∧_∧_∧_∧_∧_∧_∧_∧_∧_∧_∧_∧_∧_∧_∧_∧_∧_∧_∧_∧_∧_∧_∧_∧_∧_∧_∧_∧_∧_∧_∧_∧_∧_);(repeat' first|refine sD ?_ ?_<;>intro _|refine aAg ?_|simp -dsimp only[↓RP,RQ,seval,hlt,hdr2,tlL,TYz,NB,QÀ,hr0,TYR,TYS,TYU,↓RY]);refine⟨(did,.rows 80 3 D.length row) ::(tid,.cells 167 (tlL n nb f q fav c d st (amx (cV f q nb) n:Nat) (.mp mid) (c+100*sQ q nb) 0 (qM q d nb) 0 0 (c+100*sQ q nb - qM q d nb))) ::(mid,.map (qh true [.i .i64,.i .i64]) (uD f nb) (uG f q nb)) :: rest,_,_,vm (fr':=[(0,_)]) ⟨.inr rfl,trivial⟩ ?hsF,?hqF,some (did,row),qkr (lo:=rid2) (m:=m2) ⟨ho1,ho2,ho3,ho4⟩ Ω ?hmF,rfl,rfl⟩
  case hsF=>(intro q v hv;simp only[blk]at hv ⊢;((repeat' split at hv)<;>(repeat' split)<;>first|exact hv|(exfalso;omega)|(exfalso;have:=hr _ _ hv;omega)))
  case hqF=>omega
  case hmF=>omega
end Go.Tn
end
section
namespace Go.Tn
open Go.Proofs
open Go.Sx
theorem qqN(n nb:Nat)(f q:Nat→Int)(fav:Bool)(c d st:Int)(hn1:2≤n)(hn:n≤8)(hnb:nb≤100)(hf:∀i,i<nb→0≤f i∧f i<n)(hq:∀i,i<nb→1≤q i∧q i≤1000)(hc:0≤c∧c≤1000000)(hd:0≤d∧d≤500)(hst:1≤st∧st≤100)(G:List (List Nat))(hG:G.length≤8)(hG0:∀g,g∈G→g.length≤8)(hG1:∀g,g∈G→g≠[]∧g.Pairwise (· < ·))(hG2:G.flatten.Nodup)(hG3:∀x,x∈G.flatten↔x<n)(D:List Nat)(hD:D=dvl f q nb (λi=>(G.getD 0 []).getD i 0) (G.getD 0 []).length)(hD0:D=[]):qf Tryz.prog 34 [bkS n nb f (λ_=>-1) q fav c d st,.arr false false G.length 1 (λi _=>.arr false false (G.getD i []).length 1 (λj _=>Ψ (Φ Γ ((G.getD i []).getD j 0:Nat))))] (.tup [.val (.slice none 0 0),I 19]):=by
 refine qg Tryz.func34 rfl Ωb follows Ωb _ _ (by rw[Tryz.ntmps34];simp) Ωac ?_;have NB:True:=trivial;have hr0:True:=trivial;have hne:1≤G.length:=by
  cases hg:G with
  |nil=>have:=(hG3 0).2 Ω;rw[hg]at this;cases this
  |cons a l=>simp
 have hgm:G.getD 0 []∈G:=by
  rw[xc6,xc7 hne];exact List.getElem_mem _
 have hg1:=hG1 _ hgm;have hg8:=hG0 _ hgm;have hgp:1≤(G.getD 0 []).length:=List.length_pos_iff.2 hg1.1;unfold bkS I;(repeat' first|refine sD ?_ ?_<;>intro _|refine aAg ?_|simp -dsimp only[↓RP,RQ,seval,TYz,NB,QÀ,hr0,TYR,TYS,TYU]);refine gG Ωr (e92 n nb f q fav c d st hn1 hn hnb hf hq hc hd hst G hG hG0 hG1 hG2 hG3 _ _ ?hu) λhp' nid' res ⟨tid,mid,q1,q2,q3,q4,q5⟩=>?_
 case hu=>
  intro q v hv;simp only[blk]at hv;(repeat' split at hv)<;>first|omega|cases hv
 subst q4 q5;(repeat' first|refine sD ?_ ?_<;>intro _|refine aAg ?_|simp -dsimp only[↓RP,RQ,seval,TYz,NB,QÀ,hr0,TYR,TYS,TYU]);refine gG Ωr (e99 n nb f q fav c d st hn1 hn hnb hf hq hc hd hst G (G.getD 0 []) rfl hne hG hgp hg8 hg1.2 tid mid _ _ ?hu2 ?ht ?hm) λhp2 nid2 res ⟨p1,ov,p2,p3,p4⟩=>?_
 case hu2=>
  intro q v hv;simp only[blk]at hv;(repeat' split at hv)<;>first|omega|cases hv
 case ht=>omega
 case hm=>omega
 subst p3 p4;rw[←hD]at p2 ⊢;rcases ov with _|⟨did,row⟩
 ·subst hD0
  dsimp only[dvX,dvS];clear NB;have NB:=(⟨nmA (Ω:tid<nid2),nmA (Ω:mid<nid2),nmE (Ω:tid≠mid)⟩:_∧_∧_);repeat' first|refine sD ?_ ?_<;>intro _|refine aAg ?_|simp -dsimp only[↓RP,RQ,seval,TYz,NB,QÀ,hr0,TYR,TYS,TYU]
 ·exact absurd hD0 p2.1
theorem qqO(n nb:Nat)(f q:Nat→Int)(fav:Bool)(c d st:Int)(hn1:2≤n)(hn:n≤8)(hnb:nb≤100)(hf:∀i,i<nb→0≤f i∧f i<n)(hq:∀i,i<nb→1≤q i∧q i≤1000)(hc:0≤c∧c≤1000000)(hd:0≤d∧d≤500)(hst:1≤st∧st≤100)(G:List (List Nat))(hG:G.length≤8)(hG0:∀g,g∈G→g.length≤8)(hG1:∀g,g∈G→g≠[]∧g.Pairwise (· < ·))(hG2:G.flatten.Nodup)(hG3:∀x,x∈G.flatten↔x<n)(D:List Nat)(hD:D=dvl f q nb (λi=>(G.getD 0 []).getD i 0) (G.getD 0 []).length)(hD0:D≠[]):qf Tryz.prog 34 [bkS n nb f (λ_=>-1) q fav c d st,.arr false false G.length 1 (λi _=>.arr false false (G.getD i []).length 1 (λj _=>Ψ (Φ Γ ((G.getD i []).getD j 0:Nat))))] (.tup [.arr true false D.length 3 (λi j=>[Ψ (Φ Γ (D.getD i 0:Nat)),Ψ (Φ Γ (-1)),Ψ (Φ Γ (pnF f q c d st nb D.length (D.getD i 0)))].getD j .top),I 0]):=by
 refine qg Tryz.func34 rfl Ωb follows Ωb _ _ (by rw[Tryz.ntmps34];simp) Ωac ?_;have NB:True:=trivial;have hr0:True:=trivial;have hne:1≤G.length:=by
  cases hg:G with
  |nil=>have:=(hG3 0).2 Ω;rw[hg]at this;cases this
  |cons a l=>simp
 have hgm:G.getD 0 []∈G:=by
  rw[xc6,xc7 hne];exact List.getElem_mem _
 have hg1:=hG1 _ hgm;have hg8:=hG0 _ hgm;have hgp:1≤(G.getD 0 []).length:=List.length_pos_iff.2 hg1.1;unfold bkS I;(repeat' first|refine sD ?_ ?_<;>intro _|refine aAg ?_|simp -dsimp only[↓RP,RQ,seval,TYz,NB,QÀ,hr0,TYR,TYS,TYU]);refine gG Ωr (e92 n nb f q fav c d st hn1 hn hnb hf hq hc hd hst G hG hG0 hG1 hG2 hG3 _ _ ?hu) λhp' nid' res ⟨tid,mid,q1,q2,q3,q4,q5⟩=>?_
 case hu=>
  intro q v hv;simp only[blk]at hv;(repeat' split at hv)<;>first|omega|cases hv
 subst q4 q5;(repeat' first|refine sD ?_ ?_<;>intro _|refine aAg ?_|simp -dsimp only[↓RP,RQ,seval,TYz,NB,QÀ,hr0,TYR,TYS,TYU]);refine gG Ωr (e99 n nb f q fav c d st hn1 hn hnb hf hq hc hd hst G (G.getD 0 []) rfl hne hG hgp hg8 hg1.2 tid mid _ _ ?hu2 ?ht ?hm) λhp2 nid2 res ⟨p1,ov,p2,p3,p4⟩=>?_
 case hu2=>
  intro q v hv;simp only[blk]at hv;(repeat' split at hv)<;>first|omega|cases hv
 case ht=>omega
 case hm=>omega
 subst p3 p4;rw[←hD]at p2 ⊢;rcases ov with _|⟨did,row⟩
 ·exact absurd p2 hD0
 ·obtain⟨ho1,ho2,ho3,ho4⟩:=p2
  dsimp only[dvX,dvS];have hDl:1≤D.length:=List.length_pos_iff.2 hD0;have hD8:D.length≤8:=by
   have:=yW f q nb (λi=>(G.getD 0 []).getD i 0) (G.getD 0 []).length;rw[←hD]at this;omega
  clear NB;have NB:=(⟨nmA (Ω:tid<nid2),nmA (Ω:mid<nid2),nmA (Ω:did<nid2),nmE (Ω:tid≠mid),nmE (Ω:did≠tid),nmE (Ω:did≠mid)⟩:_∧_∧_∧_∧_∧_);have dz:=decide_eq_false (Ω:¬((D.length:Nat):Int)=0);(repeat' first|refine sD ?_ ?_<;>intro _|refine aAg ?_|simp -dsimp only[↓RP,RQ,seval,dz,TYz,NB,QÀ,hr0,TYR,TYS,TYU]);intro i j hi hj;obtain⟨r0,r1,r2⟩:=ho4 i hi;rcases(Ω:j=0∨j=1∨j=2)with rfl|rfl|rfl
  ·rw[r0];simp[Go.Sx.Sub]
  ·rw[r1];simp[Go.Sx.Sub]
  ·rw[r2];simp[Go.Sx.Sub]
end Go.Tn
end
section
namespace Go.Tv
open Go.Proofs
open Go.Sx
theorem follows:Tryz.prog.follows .mixedOrders=true:=by kernel_rfl
theorem TYv:True∧qn Tryz.prog 2=some ⟨false,1,some [Φ Γ 0],.int .i64⟩∧qn Tryz.prog 3=some ⟨false,1,some [Φ Γ 0],.int .i64⟩∧qn Tryz.prog 4=some ⟨false,1,some [.bool false],.bool⟩∧qn Tryz.prog 28=some ⟨false,1,some [Φ Γ 0],.int .i64⟩∧qn Tryz.prog 32=some ⟨false,1,some [.slice none 0 0],.slice 2 1⟩∧qn Tryz.prog 68=some ⟨true,2,some [Φ Γ 0,Φ Γ 0],.struct [(0,1,some false),(1,1,some false)]⟩∧qt Tryz.prog 68=some [(0,1),(1,1)]∧qW Tryz.prog 68=some [.i .i64,.i .i64]∧qn Tryz.prog 71=some ⟨false,1,some [.slice none 0 0],.slice 99 2⟩∧qn Tryz.prog 73=some ⟨true,2,some [.slice none 0 0,Φ Γ 0],.struct [(0,1,some false),(1,1,some false)]⟩∧qt Tryz.prog 73=some [(0,1),(1,1)]∧qn Tryz.prog 99=some ⟨true,2,some [Φ Γ 0,Φ Γ 0],.struct [(0,1,some false),(1,1,some false)]⟩∧qt Tryz.prog 99=some [(0,1),(1,1)]∧qW Tryz.prog 99=some [.i .i64,.i .i64]∧qF Tryz.prog 2=8:=⟨trivial,Ωb,Ωb,Ωb,Ωb,Ωb,Ωb,Ωb,Ωb,Ωb,Ωb,Ωb,Ωb,Ωb,Ωb,Ωb⟩
structure Fr where
 n:Int
 d:Int
def I(n:Int):SV:=Ψ (Φ Γ n)
def B(b:Bool):SV:=.val (.bool b)
def qE(n:Nat)(u:Nat→Int):SV:=.arr false false n 1 (λi _=>Ψ (Φ Γ (u i)))
theorem ya{a b:Int}(h:a=b):SV.val (Value.int IntKind.i64 a)=SV.val (Value.int IntKind.i64 b):=by rw[h]
theorem wL{a b:Bool}(h:a=b):SV.val (Value.bool a)=SV.val (Value.bool b):=by rw[h]
def zK(b:Nat→Bool)(i:Nat):Nat→Int
 |0=>-1
 |k+1=>if b i=true then i else zK b (i+1) k
theorem Q5(b:Nat→Bool):∀(k i:Nat),zK b i k<0↔∀j,i≤j→j<i+k→b j=false
 |0,i=>by simp[zK];intro j h1 h2;omega
 |k+1,i=>by
  simp only[zK];split
  ·grind
  ·rename_i h
   rw[Q5 b k (i+1)];constructor
   ·grind
   ·grind
def jp(lo hi:Int):SV:=.fn (.func 203) [] [.ref false 1 (λ_=>I lo),.ref false 1 (λ_=>I hi)]
theorem qsu(n lo hi:Int):qf Tryz.prog 203 [I n,.ref false 1 (λ_=>I lo),.ref false 1 (λ_=>I hi)] (B (decide (n<lo) || decide (hi<n))):=by
 refine qg Tryz.func203 rfl Ωb follows Ωb _ _ (by rw[Tryz.ntmps203];simp) (by simp[OldL,Old,I]) ?_;unfold I B;(repeat' (first|refine sD ?_ ?_<;>intro _|refine aA ?_|simp -dsimp only[↓RP,RQ,seval,TYv,Tryz.results203]))
 all_goals (refine wL ?_;rw[Bool.eq_iff_iff];simp;omega)
theorem qoE(m:Nat)(u:Nat→Int)(lo hi':Int)(hm:m≤1000000):qf Tryz.prog 304 [qE m u,jp lo hi'] (I (zK (λi=>decide (u i<lo) || decide (hi'<u i)) 0 m)):=by
 refine qg Tryz.func304 rfl Ωb follows Ωb _ _ (by rw[Tryz.ntmps304];simp) (by simp[OldL,Old,qE,jp,I]) ?_;unfold qE jp I;(simp -dsimp only[↓RP,RQ,seval,TYv,Tryz.results304]);refine qp (λi=>i≤m∧zK (λi=>decide (u i<lo) || decide (hi'<u i)) 0 m=zK (λi=>decide (u i<lo) || decide (hi'<u i)) i (m - i)) (λi=>⟨[(0,.arr false false m 1 (λi _=>Ψ (Φ Γ (u i)))),(1,.fn (.func 203) [] [.ref false 1 (λ_=>Ψ (Φ Γ lo)),.ref false 1 (λ_=>Ψ (Φ Γ hi'))]),(7,Ψ (Φ Γ m)),(8,Ψ (Φ Γ i))],[],0⟩) (λi=>m - i) 0 ⟨xb6 _,rfl⟩ (weak [] [] ?_ ?_ ?_) λi hi=>?_
 ·(simp -dsimp only[↓RP,RQ,seval]);simp
 ·(simp -dsimp only[↓RP,RQ,seval])
 ·(simp -dsimp only[↓RP,RQ,seval])
 obtain⟨hi,he⟩:=hi;have e1:∀k,m - i=k+1→zK (λi=>decide (u i<lo) || decide (hi'<u i)) i (m - i)=if (decide (u i<lo) || decide (hi'<u i))=true then(i:Int)else zK (λi=>decide (u i<lo) || decide (hi'<u i)) (i+1) k:=λk hk=>by rw[hk];rfl
 (repeat' (first|refine sD ?_ ?_<;>intro _|refine aA ?_|simp -dsimp only[↓RP,RQ,seval,TYv,Tryz.results304]))
 ·rename_i hlt
  have e2:=e1 (m -(i+1)) Ω;refine qk (qsu (u i) lo hi') (by(simp -dsimp only[↓RP,RQ,seval,I]);simp) (by(simp -dsimp only[↓RP,RQ,seval,B])) ?_;(repeat' (first|refine sD ?_ ?_<;>intro _|refine aA ?_|simp -dsimp only[↓RP,RQ,seval,B,TYv,Tryz.results304]))
  ·simp_all
  ·simp_all
  ·rename_i h1 h2
   refine⟨i+1,⟨Ω,?_⟩,Ω,weak [] [] ?_ ?_ ?_⟩
   ·rw[he,e2,if_neg Ωj]
   ·(simp -dsimp only[↓RP,RQ,seval]);simp
   ·(simp -dsimp only[↓RP,RQ,seval])
   ·(simp -dsimp only[↓RP,RQ,seval])
 ·rename_i hlt
  refine ya ?_;have:m - i=0:=by omega
  rw[he,this];rfl
def gT(u:Nat→Int)(m:Nat)(lo hi:Int):Prop:=∀i,i<m→lo≤u i∧u i≤hi
instance(u:Nat→Int)(m:Nat)(lo hi:Int):Decidable (gT u m lo hi):=by unfold gT;infer_instance
theorem yJ(u:Nat→Int)(m:Nat)(lo hi:Int):zK (λi=>decide (u i<lo) || decide (hi<u i)) 0 m<0↔gT u m lo hi:=by
 rw[Q5];constructor
 ·intro h i hi'
  simp_all
 ·intro h j _ hj
  have:=h j Ω;simp;omega
theorem qoF(m:Nat)(u:Nat→Int)(lo hi:Int)(hm:m≤1000000):qf Tryz.prog 202 [qE m u,jp lo hi] (B (!decide (gT u m lo hi))):=by
 refine qg Tryz.func202 rfl Ωb follows Ωb _ _ (by rw[Tryz.ntmps202];simp) (by simp[OldL,Old,qE,jp,I]) ?_;unfold qE jp I B;(simp -dsimp only[↓RP,RQ,seval,TYv,Tryz.results202]);refine qk (qoE m u lo hi hm) (by(simp -dsimp only[↓RP,RQ,seval,qE,jp,I]);simp) Ωn ?_;(repeat' (first|refine sD ?_ ?_<;>intro _|refine aA ?_|simp -dsimp only[↓RP,RQ,seval,I,TYv,Tryz.results202]));refine wL ?_;rw[Bool.eq_iff_iff];simp[←yJ]
theorem tmN(k m:Nat):(k:Int).tmod (m:Int)=((k % m:Nat):Int):=rfl
structure Pl where
 n:Nat
 lo:Nat→Int
 hi:Nat→Int
 cut:Int
def qqP(lo hi:Nat→Int)(m:Nat):Prop:=∀i,i<m→0≤lo i∧lo i≤hi i∧hi i≤1000000
instance(lo hi:Nat→Int)(m:Nat):Decidable (qqP lo hi m):=by unfold qqP;infer_instance
end Go.Tv
end
section
namespace Go.Sx
open Go.RowKit
section
variable{P:Program}
end
end Go.Sx
end
