/- A part of the proof. -/
import Derived.Test.YtacejomniokahaaGreatPG
open Nat renaming le_refl→xa5,zero_add→xb0,zero_le→xb6,sub_self→xb8,le_trans→xc1
open List renaming getD_eq_getElem?_getD→xc6,getElem?_eq_getElem→xc7,length_append→xc8,getElem?_append_left→xc9,length_singleton→xd1,append_nil→xd3,mem_append→xd4,mem_cons_self→xd5,mem_singleton→xe0
open Bool renaming and_eq_true→xe6
set_option linter.unusedVariables false
set_option linter.unusedSimpArgs false
set_option linter.defProp false
set_option maxRecDepth 1000000
set_option maxHeartbeats 16000000
section
namespace Go.Tv
open Go.Proofs
open Go.Sx
variable{n r:Nat}{l:List Nat}{M:Mk}
def byN(M:Mk)(r:Nat)(l:Bool):Nat:=(byS M.q r l M.m).getD 0
def pk(M:Mk)(l:Bool):Nat→List Nat
 |0=>[]
 |r+1=>pk M l r++(match byS M.q r l M.m with|some n=>[n]|none=>[])
def sureV(M:Mk):Option (List Nat):=
 if 0≤zb (zU M) 0 M.run.toNat then some [byN M (zb (zU M) 0 M.run.toNat).toNat false,byN M (zb (zU M) 0 M.run.toNat).toNat true]
 else if lt ⟨1,1⟩ (qP (dlo M M.m) M.run.toNat)then some (pk M true M.run.toNat)
 else if lt (qP (dhi M M.m) M.run.toNat) ⟨1,1⟩then some (pk M false M.run.toNat)else none
theorem nmA{a:Nat}(h:a<n):(∀k,(a=n+k)=False)∧(∀k,(n+k=a)=False)∧(a=n)=False∧(n=a)=False:=
 ⟨λk=>by rw[eq_iff_iff,iff_false];omega,λk=>by rw[eq_iff_iff,iff_false];omega,by rw[eq_iff_iff,iff_false];omega,by rw[eq_iff_iff,iff_false];omega⟩
theorem nmE{a b:Nat}(h:a≠b):(a=b)=False∧(b=a)=False:=⟨by simp[h],by simp[Ne.symm h]⟩
def qoW(M:Mk)(id did mid:Nat)(rest:List (Nat×Blk))(z:Nat×Nat×Nat×(Nat→Nat→SV)):St:=
 match z.1 with
 |0=>⟨[(1,.ptr id 0),(2,.val (.slice none 0 0)),(3,.val (.bool false)),(4,.val (.slice none 0 0)),(20,.val (.int .i64 M.run)),(21,.val (.int .i64 0))],(id,.cells 175 [.ptr did 0]) ::(did,dkB M (dlo M M.m) (dhi M M.m) mid) ::(mid,mpB M M.m) :: rest,z.2.2.1⟩
 |r+1=>⟨[(1,.ptr id 0),(2,.val (.slice none 0 0)),(3,.val (.bool false)),(4,.vec z.2.1 (r+1) 1),(20,.val (.int .i64 M.run)),(21,.val (.int .i64 (r+1:Nat)))],(z.2.1,.rows 3 1 (r+1) z.2.2.2) ::(id,.cells 175 [.ptr did 0]) ::(did,dkB M (dlo M M.m) (dhi M M.m) mid) ::(mid,mpB M M.m) :: rest,z.2.2.1⟩
theorem qjJ(M:Mk)(id did mid:Nat)(rest:List (Nat×Blk))(rid nid:Nat)(row:Nat→Nat→SV):qoW M id did mid rest (0,rid,nid,row)=⟨[(1,.ptr id 0),(2,.val (.slice none 0 0)),(3,.val (.bool false)),(4,.val (.slice none 0 0)),(20,.val (.int .i64 M.run)),(21,.val (.int .i64 0))],(id,.cells 175 [.ptr did 0]) ::(did,dkB M (dlo M M.m) (dhi M M.m) mid) ::(mid,mpB M M.m) :: rest,nid⟩:=rfl
theorem Yk(M:Mk)(id did mid:Nat)(rest:List (Nat×Blk))(r rid nid:Nat)(row:Nat→Nat→SV):qoW M id did mid rest (r+1,rid,nid,row)=⟨[(1,.ptr id 0),(2,.val (.slice none 0 0)),(3,.val (.bool false)),(4,.vec rid (r+1) 1),(20,.val (.int .i64 M.run)),(21,.val (.int .i64 (r+1:Nat)))],(rid,.rows 3 1 (r+1) row) ::(id,.cells 175 [.ptr did 0]) ::(did,dkB M (dlo M M.m) (dhi M M.m) mid) ::(mid,mpB M M.m) :: rest,nid⟩:=rfl
theorem zf{l:List (Nat×Blk)}{j:Nat}(h:blk l j=none):dropBlk l j=l:=by
 induction l with
 |nil=>rfl
 |cons p l ih=>
  obtain⟨i,b⟩:=p;simp only[blk]at h;split at h
  ·cases h
  ·rename_i hne
   simp only[dropBlk];rw[if_neg hne,ih h]
theorem qjK{q:Nat→Qt}{r:Int}:∀{i:Nat},byS q r true i=none→loS q r i=⟨0,1⟩
 |0,_=>rfl
 |i+1,h=>by
  simp only[byS]at h;split at h
  ·cases h
  ·rename_i hb
   simp only[loS];rw[if_neg,qjK h];rintro⟨e1,e2,e3⟩;refine hb ⟨e1,e2,?_⟩;unfold zm;rw[if_pos e2,e1];exact e3
theorem qjL{q:Nat→Qt}{r:Int}:∀{i:Nat},byS q r false i=none→hiS q r i=⟨1,1⟩
 |0,_=>rfl
 |i+1,h=>by
  simp only[byS]at h;split at h
  ·cases h
  ·rename_i hb
   simp only[hiS];rw[if_neg,qjL h];rintro⟨e1,e2,e3⟩;refine hb ⟨e1,e2,?_⟩;unfold zm;rw[if_neg (by rw[e2];decide),e1];exact e3
theorem ZP{b:Nat→Bool}:∀{k i:Nat},0≤zb b i k→∃j,i≤j∧j<i+k∧zb b i k=(j:Nat)∧b j=true
 |0,i,h=>by simp only[zb]at h;omega
 |k+1,i,h=>by
  simp only[zb]at h ⊢;split at h
  ·rename_i hb
   rw[if_pos hb];exact⟨i,Ω,Ω,rfl,hb⟩
  ·rename_i hb
   rw[if_neg hb];obtain⟨j,h1,h2,h3,h4⟩:=ZP h;exact⟨j,Ω,Ω,h3,h4⟩
theorem JH(hf:M.Fine)(h:zU M r=true):(∃n,byS M.q r false M.m=some n)∧∃n,byS M.q r true M.m=some n:=by
 have h:=of_decide_eq_true h;have cl:=yu (q:=M.q) (r:=r) hf.od;have ch:=yv (q:=M.q) (r:=r) hf.od;constructor
 ·cases e:byS M.q r false M.m with
  |some n=>exact⟨n,rfl⟩
  |none=>
   rw[qjL e]at h;have h:1*(loS M.q r M.m).d<(loS M.q r M.m).n*1:=h;have:=cl.nd;omega
 ·cases e:byS M.q r true M.m with
  |some n=>exact⟨n,rfl⟩
  |none=>
   rw[qjK e]at h;have h:(hiS M.q r M.m).n*1<0*(hiS M.q r M.m).d:=h;have:=ch.n0;omega
theorem gq:∀(n:Nat)(l:List Nat),l.Nodup→(∀s,s∈l→s<n)→l.length≤n
 |0,l,_,h=>by
  cases l with
  |nil=>exact xa5 _
  |cons a l=>have:=h a xd5;omega
 |n+1,l,hn,h=>by
  by_cases hm:n∈l
  ·have h1:=gq n (l.erase n) (hn.erase n) λs hs=>by
    have h2:=(List.Nodup.mem_erase_iff hn).1 hs;have:=h s h2.2;omega
   rw[List.length_erase_of_mem hm]at h1;omega
  ·have:=gq n l hn λs hs=>by
    have:=h s hs;have:s≠n:=λe=>hm (e▸hs);omega
   omega
theorem jw{s:Nat}(h:l.Nodup)(hs:s∉l):(l++[s]).Nodup:=by
 rw[List.nodup_append];exact⟨h,Ωj,λa ha b hb=>by simp at hb;subst hb;exact λe=>hs (e▸ha)⟩
theorem qgG{dom:Value→Bool}{a r:Int}{l l':Bool}(h:l≠l'):kz dom (kv a l) (kv r l')=dom (kv r l'):=by
 unfold kz;cases e:eqK (kv a l) (kv r l')with
 |false=>rfl
 |true=>
  have:=eqK_kv.1 e;have h2:k2 (kv r l')=k2 (kv a l):=by rw[this]
  exact absurd h2.symm h
theorem qoX{dom:Value→Bool}{k v:Value}(h:kz dom k v=true):dom v=true:=by
 unfold kz at h;rw[xe6]at h;exact h.2
def st3(M:Mk)(lay:Bool)(id did mid rid r:Nat)(row:Nat→Nat→SV)(dom:Value→Bool)(stamp:Value→Nat)(clk:Nat)(rest:List (Nat×Blk))(z:Nat×Nat×Nat×(Nat→Nat→SV)):St:=
 match pk M lay z.1 with
 |[]=>⟨[(1,.ptr id 0),(9,.val (.bool lay)),(11,.val (.slice none 0 0)),(91,.vec rid (r+1) 1),(92,.val (.int .i64 (r+1:Nat))),(93,.val (.int .i64 z.1))],(rid,.rows 3 1 (r+1) row) ::(id,.cells 175 [.ptr did 0]) ::(did,dkB M (dlo M M.m) (dhi M M.m) mid) ::(mid,.mapS kfS dom (kI M.q M.m) stamp clk) :: rest,z.2.2.1⟩
 |_ :: l=>⟨[(1,.ptr id 0),(9,.val (.bool lay)),(11,.vec z.2.1 (l.length+1) 1),(91,.vec rid (r+1) 1),(92,.val (.int .i64 (r+1:Nat))),(93,.val (.int .i64 z.1))],(z.2.1,.rows 3 1 (l.length+1) z.2.2.2) ::(rid,.rows 3 1 (r+1) row) ::(id,.cells 175 [.ptr did 0]) ::(did,dkB M (dlo M M.m) (dhi M M.m) mid) ::(mid,.mapS kfS dom (kI M.q M.m) stamp clk) :: rest,z.2.2.1⟩
theorem qaX(M:Mk)(lay:Bool)(id did mid rid r:Nat)(row:Nat→Nat→SV)(dom:Value→Bool)(stamp:Value→Nat)(clk:Nat)(rest:List (Nat×Blk))(i oid nid:Nat)(row':Nat→Nat→SV)(h:pk M lay i=[]):st3 M lay id did mid rid r row dom stamp clk rest (i,oid,nid,row')=⟨[(1,.ptr id 0),(9,.val (.bool lay)),(11,.val (.slice none 0 0)),(91,.vec rid (r+1) 1),(92,.val (.int .i64 (r+1:Nat))),(93,.val (.int .i64 i))],(rid,.rows 3 1 (r+1) row) ::(id,.cells 175 [.ptr did 0]) ::(did,dkB M (dlo M M.m) (dhi M M.m) mid) ::(mid,.mapS kfS dom (kI M.q M.m) stamp clk) :: rest,nid⟩:=by
 unfold st3;simp only[h]
theorem V1(M:Mk)(lay:Bool)(id did mid rid r:Nat)(row:Nat→Nat→SV)(dom:Value→Bool)(stamp:Value→Nat)(clk:Nat)(rest:List (Nat×Blk))(i oid nid:Nat)(row':Nat→Nat→SV){x:Nat}(h:pk M lay i=x :: l):st3 M lay id did mid rid r row dom stamp clk rest (i,oid,nid,row')=⟨[(1,.ptr id 0),(9,.val (.bool lay)),(11,.vec oid (l.length+1) 1),(91,.vec rid (r+1) 1),(92,.val (.int .i64 (r+1:Nat))),(93,.val (.int .i64 i))],(oid,.rows 3 1 (l.length+1) row') ::(rid,.rows 3 1 (r+1) row) ::(id,.cells 175 [.ptr did 0]) ::(did,dkB M (dlo M M.m) (dhi M M.m) mid) ::(mid,.mapS kfS dom (kI M.q M.m) stamp clk) :: rest,nid⟩:=by
 unfold st3;simp only[h]
theorem yX{l:Bool}(h:byS M.q r l M.m=none):pk M l (r+1)=pk M l r:=by simp only[pk,h,xd3]
theorem yY{l:Bool}(h:byS M.q r l M.m=some n):pk M l (r+1)=pk M l r++[n]:=by simp only[pk,h]
theorem Yl(M:Mk)(l:Bool):∀r,(pk M l r).length≤r
 |0=>xa5 0
 |r+1=>by
  have:=Yl M l r;cases h:byS M.q r l M.m with
  |none=>rw[yX h];omega
  |some n=>rw[yY h,xc8,xd1];omega
theorem ZQ{i:Nat}(h:i<l.length):(l++[n]).getD i 0=l.getD i 0:=by
 simp[xc6,xc9 h]
theorem ZR:(l++[n]).getD l.length 0=n:=by
 simp[xc6]
theorem qqK(M:Mk)(hf:M.Fine)(did mid id:Nat)(rest:List (Nat×Blk))(hd:did<id)(hm':mid<id)(hdm:did≠mid)(hr:Under rest id)(hrd:blk rest did=none)(hrm:blk rest mid=none):EffVC Tryz.prog 104 [.ptr did 0] ((did,dkB M (dlo M M.m) (dhi M M.m) mid) ::(mid,mpB M M.m) :: rest) id (λhp' nid' res=>id≤nid'∧
  match sureV M with
  |some l=>(l=[]∧hp'=rest∧res=.tup [.val (.slice none 0 0),B true])∨(∃rid row,id≤rid∧rid<nid'∧(∀i,i<l.length→row i 0=I (l.getD i 0:Nat))∧hp'=(rid,.rows 3 1 l.length row) :: rest∧res=.tup [.vec rid l.length 1,B true])
  |none=>hp'=(did,dkB M (dlo M M.m) (dhi M M.m) mid) :: rest∧res=.tup [.val (.slice none 0 0),B false]):=by
 refine yj follows Tryz.func104 rfl Ωb Ωb (by rw[Tryz.ntmps104];simp) λout=>?_;have hr0:blk rest id=none:=hr.none (xa5 _);have hdr:True:=trivial;have NB:True:=trivial;have NB1:True:=trivial;have ND:=(⟨nmE hdm,nmA hd,nmA hm'⟩:_∧_∧_);have hr5:=hf.r5;have hr1:=hf.r1;have hbx:∀x,id<x→blk ((id,.cells 175 [.ptr did 0]) ::(did,dkB M (dlo M M.m) (dhi M M.m) mid) ::(mid,mpB M M.m) :: rest) x=none:=λx hx=>by
  simp only[blk];rw[if_neg Ω,if_neg Ω,if_neg Ω];exact hr.none Ω
 (repeat' first|refine sD ?_ ?_<;>intro _|refine aAd ?_|simp -dsimp only[↓RP,RQ,seval,NB,NB1,ND,hr0,hdr,kM,zg,qI,QS,ql,QF,fsv,B,I,RZ,eq_self,Tryz.results104]);refine qo (λ(z:Nat×Nat×Nat×(Nat→Nat→SV))=>(z.1:Int)≤M.run∧id+1≤z.2.2.1∧(0<z.1→id+1≤z.2.1∧z.2.1<z.2.2.1)∧∀i,i<z.1→z.2.2.2 i 0=.val (.int .i64 (i:Nat))) (qoW M id did mid rest) (λz=>(M.run - z.1).toNat) (0,0,id+10,λ_ _=>.top) ⟨by simp only[];omega,by simp only[];omega,λh=>by simp only[]at h;omega,λi h=>by simp only[]at h;omega⟩ (by rw[qjJ];exact za Ωh (SubHp.refl _)) λz hz=>?_;obtain⟨r,rid,nid,row⟩:=z;obtain⟨z1,z2,z3,z4⟩:=hz;simp only[]at z1 z2 z3 z4;have NB:=(⟨nmA (Ω:id<nid),nmA (Ω:did<nid),nmA (Ω:mid<nid)⟩:_∧_∧_);by_cases hlt:(r:Int)<M.run
 ·cases r with
  |zero=>
   rw[qjJ];repeat' first|refine sD ?_ ?_<;>intro _|refine aAd ?_|simp -dsimp only[↓RP,RQ,seval,ql,NB,NB1,ND,hr0,hdr,kM,zg,qI,QS,QF,fsv,B,I,RZ,eq_self,Tryz.results104]
   all_goals try(exfalso;omega)
   refine⟨(0+1,nid+6,nid+10,λi j=>[SV.val (.int .i64 0)].getD (i+j) SV.top),⟨by simp only[];omega,by simp only[];omega,λ_=>by simp only[];omega,λi hi=>?_⟩,by simp only[];omega,?_⟩
   rotate_left
   ·rw[Yk]
    exact za Ωh (SubHp.cons (SubHp.skip (hbx _ Ω) (SubHp.refl _)))
   ·have e:i=0:=by simp only[]at hi;omega
    subst e;rfl
  |succ r=>
   have⟨z5,z6⟩:=z3 Ω;have NB1:=(⟨nmE (Ω:rid≠id),nmE (Ω:rid≠did),nmE (Ω:rid≠mid),nmA z6⟩:_∧_∧_∧_);have hdr:dropBlk rest rid=rest:=zf (hr.none Ω);rw[Yk];repeat' first|refine sD ?_ ?_<;>intro _|refine aAd ?_|simp -dsimp only[↓RP,RQ,seval,ql,NB,NB1,ND,hr0,hdr,kM,zg,qI,QS,QF,fsv,B,I,RZ,eq_self,Tryz.results104]
   all_goals try(exfalso;omega)
   refine⟨(r+1+1,nid+6,nid+10,λi j=>if i<r+1 then row i j else [SV.val (.int .i64 ((r+1:Nat):Int))].getD (i -(r+1)+j) SV.top),⟨by simp only[];omega,by simp only[];omega,λ_=>by simp only[];omega,λi hi=>?_⟩,by simp only[];omega,?_⟩
   rotate_left
   ·rw[Yk]
    exact za Ωh (SubHp.cons (SubHp.skip (hbx _ Ω) (SubHp.refl _)))
   ·simp only[]at hi ⊢
    by_cases e:i<r+1
    ·rw[if_pos e];exact z4 i e
    ·have e2:i=r+1:=by omega
     subst e2;rw[if_neg e,xb8];rfl
 obtain⟨r,rfl⟩:∃j,r=j+1:=⟨r - 1,Ω⟩;have⟨z5,z6⟩:=z3 Ω;have NB1:=(⟨nmE (Ω:rid≠id),nmE (Ω:rid≠did),nmE (Ω:rid≠mid),nmA z6⟩:_∧_∧_∧_);have hdr:dropBlk rest rid=rest:=zf (hr.none Ω);have hn:((r+1:Nat):Int)=M.run:=by omega
 rw[Yk];repeat' first|refine sD ?_ ?_<;>intro _|refine aAd ?_|simp -dsimp only[↓RP,RQ,seval,NB,NB1,ND,hr0,hdr,kM,zg,qI,QS,ql,QF,fsv,B,I,RZ,eq_self,Tryz.results104]
 all_goals try(exfalso;omega)
 have hbx2:∀{X:Blk} x,id<x→x≠rid→blk ((rid,.rows 3 1 (r+1) row) ::(id,.cells 175 [.ptr did 0]) ::(did,dkB M (dlo M M.m) (dhi M M.m) mid) ::(mid,X) :: rest) x=none:=λx hx hx2=>by
  simp only[blk];rw[if_neg hx2,if_neg Ω,if_neg Ω,if_neg Ω];exact hr.none Ω
 have hSub:∀hp,blk hp id=some (.cells 175 [.ptr did 0])→blk hp did=some (dkB M (dlo M M.m) (dhi M M.m) mid)→∀j,j<1→Go.Sx.Sub hp (SV.ref false 22 (dkr M (dlo M M.m) (dhi M M.m))) ([SV.ptr did 0].getD j SV.top)∧j<1:=λhp _ h2 j hj=>by
  obtain rfl:j=0:=by omega
  refine⟨?_,hj⟩;show Go.Sx.Sub hp (SV.ref false 22 (dkr M (dlo M M.m) (dhi M M.m))) (SV.ptr did 0);simp only[Go.Sx.Sub,h2];intro j hj;rw[xb0];exact qmC hp M _ _ mid j hj
 have hs0:sureV M=if 0≤zb (zU M) 0 M.run.toNat then some [byN M (zb (zU M) 0 M.run.toNat).toNat false,byN M (zb (zU M) 0 M.run.toNat).toNat true]
  else if lt ⟨1,1⟩ (qP (dlo M M.m) M.run.toNat)then some (pk M true M.run.toNat)
  else if lt (qP (dhi M M.m) M.run.toNat) ⟨1,1⟩then some (pk M false M.run.toNat)else none:=rfl
 have hnT:M.run.toNat=r+1:=by omega
 rw[hnT]at hs0;refine qh (qrB M hf (r+1) hn) (by(simp -dsimp only[↓RP,RQ,seval,clo,ints,I,NB,NB1,ND]);exact⟨⟨xa5 _,λi j hi hj=>by obtain rfl:j=0:=Ω;exact z4 i hi⟩,hSub _ (by simp[blk,ND,NB1]) (by simp[blk,ND,NB1])⟩) Ωa ?_;by_cases hF0:0≤zb (zU M) 0 (r+1)
 ·obtain⟨r0,_,f2,f3,f4⟩:=ZP hF0
  have⟨⟨n1,b1⟩,n2,b2⟩:=JH hf f4;rw[f3]at hs0 ⊢;rw[if_pos Ω,Int.toNat_natCast]at hs0;have d1:gb M.q M.m (Value.agg #[.int .i64 (r0:Int),.bool false])=true:=by show gb M.q M.m (kv r0 false)=true;rw[wJ,b1];rfl
  have d2:gb M.q M.m (Value.agg #[.int .i64 (r0:Int),.bool true])=true:=by show gb M.q M.m (kv r0 true)=true;rw[wJ,b2];rfl
  have g1:kI M.q M.m (Value.agg #[.int .i64 (r0:Int),.bool false])=.val (.int .i64 (n1:Nat)):=by show kI M.q M.m (kv r0 false)=_;rw[ZL,b1];rfl
  have g2:kI M.q M.m (Value.agg #[.int .i64 (r0:Int),.bool true])=.val (.int .i64 (n2:Nat)):=by show kI M.q M.m (kv r0 true)=_;rw[ZL,b2];rfl
  repeat' first|refine sD ?_ ?_<;>intro _|refine aAd ?_|simp -dsimp only[↓RP,RQ,seval,d1,d2,g1,g2,NB,NB1,ND,hr0,hdr,kM,zg,qI,QS,ql,QF,fsv,B,I,RZ,eq_self,Tryz.results104]
  all_goals try(exfalso;omega)
  rw[hs0];refine⟨_,_,_,za (fr':=[(0,_)]) ⟨.inr rfl,trivial⟩ (SubHp.cons (SubHp.skip (hr.none Ω) (SubHp.skip hr0 (SubHp.skip hrd (SubHp.skip hrm (SubHp.refl _)))))),Ω,.inr ⟨_,_,?_,?_,λi hi=>?_,rfl,rfl⟩⟩
  ·omega
  ·omega
  ·have hi:i<2:=hi
   have:i=0∨i=1:=by omega
   rcases this with rfl|rfl
   ·show SV.val (.int .i64 (n1:Nat))=I (byN M r0 false:Nat)
    unfold byN;rw[b1];rfl
   ·show SV.val (.int .i64 (n2:Nat))=I (byN M r0 true:Nat)
    unfold byN;rw[b2];rfl
 ·rw[if_neg hF0]at hs0
  have hF1:decide (0≤zb (zU M) 0 (r+1))=false:=decide_eq_false hF0;have hl10:List.take 10 (List.drop 2 (dkL M.run M.m M.q (dlo M M.m) (dhi M M.m) mid))=qcT (dlo M M.m):=rfl;have hh10:List.take 10 (List.drop 12 (dkL M.run M.m M.q (dlo M M.m) (dhi M M.m) mid))=qcT (dhi M M.m):=rfl;repeat' first|refine sD ?_ ?_<;>intro _|refine aAd ?_|simp -dsimp only[↓RP,RQ,seval,hF1,hl10,NB,NB1,ND,hr0,hdr,kM,zg,qI,QS,ql,QF,fsv,B,I,RZ,eq_self,Tryz.results104]
  all_goals try(exfalso;omega)
  have hsub98:∀j,j<1→(dkL M.run M.m M.q (dlo M M.m) (dhi M M.m) mid).getD j SV.top=SV.val (.int .i64 M.run)∧j<(dkL M.run M.m M.q (dlo M M.m) (dhi M M.m) mid).length:=λj hj=>by
   obtain rfl:j=0:=by omega
   exact⟨rfl,by rw[qI];decide⟩
  have chL:∀j,j<r+1→Ch ((dlo M M.m) j):=λj hj=>by unfold dlo;rw[if_pos Ω];exact yu hf.od
  have chH:∀j,j<r+1→Ch ((dhi M M.m) j):=λj hj=>by unfold dhi;rw[if_pos Ω];exact yv hf.od
  have⟨⟨l1,l2⟩,l3,l4⟩:=qcU (n:=r+1) Ω chL;have⟨⟨h1,h2⟩,h3,h4⟩:=qcU (n:=r+1) Ω chH;refine qh (qqJ M.run (r+1) hn Ω Ω (dlo M M.m) chL) (by(simp -dsimp only[↓RP,RQ,seval,qcT,I,NB,NB1,ND,hl10]);exact hsub98) Ωa ?_;(repeat' first|refine sD ?_ ?_<;>intro _|refine aAd ?_|simp -dsimp only[↓RP,RQ,seval,hF1,hl10,hh10,NB,NB1,ND,hr0,hdr,kM,zg,qI,QS,ql,QF,fsv,B,I,RZ,eq_self,Tryz.results104]);refine qh (qaR ⟨1,1⟩ (qP (dlo M M.m) (r+1)) Ωz Ωz) Ωf Ωc ?_;apply qgm (P:=Tryz.prog) (λ(x:Bool×(Value→Nat)×Nat)=>sureV M=some (pk M x.1 (r+1))∧(∀k,gb M.q M.m k=true→x.2.1 k<x.2.2)) (λx=>⟨[(1,.ptr id 0),(4,.vec rid (r+1) 1),(9,.val (.bool x.1)),(77,.ptr (nid+39) 0)],(nid+39,.iter mid x.2.2 [] x.2.2) ::(rid,.rows 3 1 (r+1) row) ::(id,.cells 175 [.ptr did 0]) ::(did,dkB M (dlo M M.m) (dhi M M.m) mid) ::(mid,.mapS kfS (gb M.q M.m) (kI M.q M.m) x.2.1 x.2.2) :: rest,nid+45⟩)
  case main=>
   intro key;by_cases hL:lt ⟨1,1⟩ (qP (dlo M M.m) (r+1))
   ·rw[if_pos hL]at hs0
    have hL1:decide (lt ⟨1,1⟩ (qP (dlo M M.m) (r+1)))=true:=decide_eq_true hL;rw[hL1];repeat' first|refine sD ?_ ?_<;>intro _|refine aAd ?_|simp -dsimp only[↓RP,RQ,seval,hF1,hl10,hh10,NB,NB1,ND,hr0,hdr,kM,zg,qI,QS,ql,QF,fsv,B,I,RZ,eq_self,Tryz.results104]
    all_goals try(exfalso;omega)
    refine WF (mid:=mid) (fit:=kfS) (dom:=gb M.q M.m) (get:=kI M.q M.m) ΩC ΩC VY ΩA λstamp clk hst hinj=>?_;(repeat' first|refine sD ?_ ?_<;>intro _|refine aAd ?_|simp -dsimp only[↓RP,RQ,seval,NB,NB1,ND,hr0,hdr,kM,zg,qI,QS,ql,QF,fsv,B,I,RZ,eq_self,Tryz.results104]);refine(key (true,stamp,clk) ⟨hs0,hst⟩).weak (za ?_ ?_)
    ·simp[zj,Go.Sx.look]
    ·exact SubHp.cons (SubHp.skip (hbx2 _ Ω Ω) (SubHp.refl _))
   ·rw[if_neg hL]at hs0
    have hL1:decide (lt ⟨1,1⟩ (qP (dlo M M.m) (r+1)))=false:=decide_eq_false hL;rw[hL1];repeat' first|refine sD ?_ ?_<;>intro _|refine aAd ?_|simp -dsimp only[↓RP,RQ,seval,hF1,hl10,hh10,NB,NB1,ND,hr0,hdr,kM,zg,qI,QS,ql,QF,fsv,B,I,RZ,eq_self,Tryz.results104]
    all_goals try(exfalso;omega)
    refine qh (qqJ M.run (r+1) hn Ω Ω (dhi M M.m) chH) (by(simp -dsimp only[↓RP,RQ,seval,qcT,I,NB,NB1,ND,hh10]);exact hsub98) Ωa ?_;(repeat' first|refine sD ?_ ?_<;>intro _|refine aAd ?_|simp -dsimp only[↓RP,RQ,seval,hF1,hl10,hh10,NB,NB1,ND,hr0,hdr,kM,zg,qI,QS,ql,QF,fsv,B,I,RZ,eq_self,Tryz.results104]);refine qh (qaR (qP (dhi M M.m) (r+1)) ⟨1,1⟩ Ωz Ωz) Ωf Ωc ?_;by_cases hH:lt (qP (dhi M M.m) (r+1)) ⟨1,1⟩
    ·rw[if_pos hH]at hs0
     have hH1:decide (lt (qP (dhi M M.m) (r+1)) ⟨1,1⟩)=true:=decide_eq_true hH;rw[hH1];repeat' first|refine sD ?_ ?_<;>intro _|refine aAd ?_|simp -dsimp only[↓RP,RQ,seval,hF1,hl10,hh10,NB,NB1,ND,hr0,hdr,kM,zg,qI,QS,ql,QF,fsv,B,I,RZ,eq_self,Tryz.results104]
     all_goals try(exfalso;omega)
     refine WF (mid:=mid) (fit:=kfS) (dom:=gb M.q M.m) (get:=kI M.q M.m) ΩC ΩC VY ΩA λstamp clk hst hinj=>?_;(repeat' first|refine sD ?_ ?_<;>intro _|refine aAd ?_|simp -dsimp only[↓RP,RQ,seval,NB,NB1,ND,hr0,hdr,kM,zg,qI,QS,ql,QF,fsv,B,I,RZ,eq_self,Tryz.results104]);refine(key (false,stamp,clk) ⟨hs0,hst⟩).weak (za ?_ ?_)
     ·simp[zj,Go.Sx.look]
     ·exact SubHp.cons (SubHp.skip (hbx2 _ Ω Ω) (SubHp.refl _))
    ·rw[if_neg hH]at hs0
     have hH1:decide (lt (qP (dhi M M.m) (r+1)) ⟨1,1⟩)=false:=decide_eq_false hH;rw[hH1];repeat' first|refine sD ?_ ?_<;>intro _|refine aAd ?_|simp -dsimp only[↓RP,RQ,seval,hF1,hl10,hh10,NB,NB1,ND,hr0,hdr,kM,zg,qI,QS,ql,QF,fsv,B,I,RZ,eq_self,Tryz.results104]
     all_goals try(exfalso;omega)
     rw[hs0];have nn:∀x,id≤x→blk ((did,dkB M (dlo M M.m) (dhi M M.m) mid) :: rest) x=none:=λx hx=>by
      simp only[blk];rw[if_neg Ω];exact hr.none hx
     exact⟨_,_,_,za (fr':=[(0,_)]) ⟨.inr rfl,trivial⟩ (SubHp.skip (nn _ Ω) (SubHp.skip (nn _ Ω) (SubHp.skip (nn _ (xa5 _)) (SubHp.cons (SubHp.skip hrm (SubHp.refl _)))))),Ω,rfl,rfl⟩
  case key=>
   rintro⟨bb,stamp,clk⟩ ⟨hs0,hst⟩;dsimp only at hs0 hst ⊢;refine qo (λ(z:List Nat×(Value→Bool)×Nat)=>z.1.Nodup∧(∀s,s∈z.1→s<clk)∧(∀v,z.2.1 v=true→gb M.q M.m v=true)∧(∀r':Nat,z.2.1 (kv r' bb)=gb M.q M.m (kv r' bb))∧nid+40≤z.2.2) (λz=>⟨[(1,.ptr id 0),(4,.vec rid (r+1) 1),(9,.val (.bool bb)),(77,.ptr (nid+39) 0)],(nid+39,.iter mid clk z.1 clk) ::(rid,.rows 3 1 (r+1) row) ::(id,.cells 175 [.ptr did 0]) ::(did,dkB M (dlo M M.m) (dhi M M.m) mid) ::(mid,.mapS kfS z.2.1 (kI M.q M.m) stamp clk) :: rest,z.2.2⟩) (λz=>clk - z.1.length) ([],gb M.q M.m,nid+45) ⟨List.nodup_nil,λs hs=>(by cases hs),λ_ h=>h,λ_=>rfl,by simp only[];omega⟩ (Weak.refl _ _) λz hz=>?_;obtain⟨seen,dom,nn⟩:=z;obtain⟨y1,y2,y3,y4,y5⟩:=hz;simp only[]at y1 y2 y3 y4 y5;clear NB;have NB:=(⟨nmA (Ω:id<nn),nmA (Ω:did<nn),nmA (Ω:mid<nn),nmA (Ω:rid<nn),nmA (Ω:nid+39<nn),nmA (Ω:id<nid),nmA (Ω:did<nid),nmA (Ω:mid<nid)⟩:_∧_∧_∧_∧_∧_∧_∧_);have hbx3:∀{X Y:Blk} x,nn≤x→blk ((nid+39,Y) ::(rid,.rows 3 1 (r+1) row) ::(id,.cells 175 [.ptr did 0]) ::(did,dkB M (dlo M M.m) (dhi M M.m) mid) ::(mid,X) :: rest) x=none:=λx hx=>by
    simp only[blk];rw[if_neg Ω,if_neg Ω,if_neg Ω,if_neg Ω,if_neg Ω];exact hr.none Ω
   (repeat' first|refine sD ?_ ?_<;>intro _|refine aAd ?_|simp -dsimp only[↓RP,RQ,seval,NB,NB1,ND,hr0,hdr,kM,zg,qI,QS,ql,QF,fsv,B,I,RZ,eq_self,Tryz.results104]);refine qcu (iid:=nid+39) (mid:=mid) (clk:=clk) (seen:=seen) (fit:=kfS) (dom:=dom) (get:=kI M.q M.m) (stamp:=stamp) ΩC ΩC ΩA ΩA (λk hk1 hk2 hk3=>?_) (λhall=>?_)
   ·obtain⟨r',l',rfl⟩:∃r' l',k=kv r' l':=⟨k1 k,k2 k,qew hk1⟩
    (repeat' first|refine sD ?_ ?_<;>intro _|refine aAd ?_|simp -dsimp only[↓RP,RQ,seval,NB,NB1,ND,hr0,hdr,kM,zg,qI,QS,ql,QF,fsv,B,I,RZ,eq_self,Tryz.results104]);refine Gf (s:=.agg [.val (.int .i64 r'),.val (.bool l')]) (iid:=nid+39) (mid:=mid) (clk:=clk) (seen:=seen) (fit:=kfS) (dom:=dom) (get:=kI M.q M.m) (stamp:=stamp) (k:=kv r' l') ΩC ΩC ΩA ΩA hk2 (yO [.int .i64 r',.bool l']) ?_;have hsn:=jw y1 hk3;have hst':∀s,s∈seen++[stamp (kv r' l')]→s<clk:=λs hs=>by
     rcases List.mem_append.1 hs with h|h
     ·exact y2 s h
     ·rw[List.mem_singleton.1 h];exact hst _ (y3 _ hk2)
    have hlen:=gq clk _ hsn hst';rw[xc8,xd1]at hlen;repeat' first|refine sD ?_ ?_<;>intro _|refine aAd ?_|simp -dsimp only[↓RP,RQ,seval,NB,NB1,ND,hr0,hdr,kM,zg,qI,QS,ql,QF,fsv,B,I,RZ,eq_self,Tryz.results104]
    all_goals try(exfalso;omega)
    ·refine⟨(seen++[stamp (kv r' l')],dom,nn+10),⟨hsn,hst',y3,y4,by simp only[];omega⟩,by simp only[xc8,xd1];omega,za ?_ ?_⟩
     ·simp[zj,Go.Sx.look]
     ·exact SubHp.skip (hbx3 _ Ω) (SubHp.refl _)
    ·rename_i hne
     refine⟨(seen++[stamp (kv r' l')],kz dom (kv r' l'),nn+16),⟨hsn,hst',λv hv=>y3 v (qoX hv),λr''=>by simp only[];rw[qgG hne];exact y4 r'',by simp only[];omega⟩,by simp only[xc8,xd1];omega,za ?_ ?_⟩
     ·simp[zj,Go.Sx.look]
     ·exact SubHp.skip (hbx3 _ Ω) (SubHp.refl _)
   ·repeat' first|refine sD ?_ ?_<;>intro _|refine aAd ?_|simp -dsimp only[↓RP,RQ,seval,NB,NB1,ND,hr0,hdr,kM,zg,qI,QS,ql,QF,fsv,B,I,RZ,eq_self,Tryz.results104]
    all_goals try(exfalso;omega)
    refine qo (λ(z:Nat×Nat×Nat×(Nat→Nat→SV))=>z.1≤r+1∧nn+6≤z.2.2.1∧(pk M bb z.1≠[]→nn≤z.2.1∧z.2.1<z.2.2.1)∧∀i,i<(pk M bb z.1).length→z.2.2.2 i 0=.val (.int .i64 ((pk M bb z.1).getD i 0:Nat))) (st3 M bb id did mid rid r row dom stamp clk rest) (λz=>r+1 - z.1) (0,0,nn+6,λ_ _=>.top) ⟨xb6 _,xa5 _,λh=>absurd rfl h,λi hi=>(by cases hi)⟩ (by rw[qaX _ _ _ _ _ _ _ _ _ _ _ _ _ _ _ _ rfl];exact za Ωh (SubHp.skip (hbx2 _ Ω Ω) (SubHp.refl _))) λz hz=>?_;obtain⟨i,oid,n3,row'⟩:=z;obtain⟨x1,x2,x3,x4⟩:=hz;simp only[]at x1 x2 x3 x4;clear NB;have NB:=(⟨nmA (Ω:id<n3),nmA (Ω:did<n3),nmA (Ω:mid<n3),nmA (Ω:rid<n3)⟩:_∧_∧_∧_);have hbx4:∀{X:Blk} x,nn≤x→blk ((rid,.rows 3 1 (r+1) row) ::(id,.cells 175 [.ptr did 0]) ::(did,dkB M (dlo M M.m) (dhi M M.m) mid) ::(mid,X) :: rest) x=none:=λx hx=>by
     simp only[blk];rw[if_neg Ω,if_neg Ω,if_neg Ω,if_neg Ω];exact hr.none Ω
    have hpl:=Yl M bb i;by_cases hli:i<r+1
    ·have zi:=z4 i hli
     have dI:dom (Value.agg #[.int .i64 (i:Nat),.bool bb])=(byS M.q (i:Nat) bb M.m).isSome:=by
      show dom (kv (i:Nat) bb)=_;rw[y4 i,wJ]
     have gI:kI M.q M.m (Value.agg #[.int .i64 (i:Nat),.bool bb])=oI (byS M.q (i:Nat) bb M.m):=ZL _ _ _ _;cases hb:byS M.q (i:Nat) bb M.m with
     |none=>
      have hpk:=yX hb;rw[hb]at dI gI;simp only[Option.isSome_none]at dI;cases hp:pk M bb i with
      |nil=>
       rw[qaX _ _ _ _ _ _ _ _ _ _ _ _ _ _ _ _ hp];repeat' first|refine sD ?_ ?_<;>intro _|refine aAd ?_|simp -dsimp only[↓RP,RQ,seval,dI,gI,zi,NB,NB1,ND,hr0,hdr,kM,zg,qI,QS,ql,QF,fsv,B,I,RZ,eq_self,Tryz.results104]
       all_goals try(exfalso;omega)
       refine⟨(i+1,oid,n3+20,row'),⟨by first|omega|(simp only[];omega),by first|omega|(simp only[];omega),by rw[hpk];exact λh=>absurd hp h,by rw[hpk];exact x4⟩,by first|omega|(simp only[];omega),?_⟩;rw[qaX _ _ _ _ _ _ _ _ _ _ _ _ _ _ _ _ (hpk.trans hp)];exact za Ωh (SubHp.refl _)
      |cons x l=>
       have⟨x5,x6⟩:=x3 (by rw[hp];simp);rw[V1 _ _ _ _ _ _ _ _ _ _ _ _ _ _ _ _ hp];have NB2:=(⟨nmE (Ω:oid≠id),nmE (Ω:oid≠did),nmE (Ω:oid≠mid),nmE (Ω:oid≠rid),nmA x6⟩:_∧_∧_∧_∧_);repeat' first|refine sD ?_ ?_<;>intro _|refine aAd ?_|simp -dsimp only[↓RP,RQ,seval,NB2,dI,gI,zi,NB,NB1,ND,hr0,hdr,kM,zg,qI,QS,ql,QF,fsv,B,I,RZ,eq_self,Tryz.results104]
       all_goals try(exfalso;omega)
       refine⟨(i+1,oid,n3+20,row'),⟨by first|omega|(simp only[];omega),by first|omega|(simp only[];omega),λ_=>by first|exact⟨Ω,Ω⟩|(simp only[];omega),by rw[hpk];exact x4⟩,by first|omega|(simp only[];omega),?_⟩;rw[V1 _ _ _ _ _ _ _ _ _ _ _ _ _ _ _ _ (hpk.trans hp)];exact za Ωh (SubHp.refl _)
     |some n=>
      have hpk:=yY hb;rw[hb]at dI gI;simp only[Option.isSome_some,oI,I]at dI gI;cases hp:pk M bb i with
      |nil=>
       rw[qaX _ _ _ _ _ _ _ _ _ _ _ _ _ _ _ _ hp];repeat' first|refine sD ?_ ?_<;>intro _|refine aAd ?_|simp -dsimp only[↓RP,RQ,seval,ql,dI,gI,zi,NB,NB1,ND,hr0,hdr,kM,zg,qI,QS,QF,fsv,B,I,RZ,eq_self,Tryz.results104]
       all_goals try(exfalso;omega)
       have hpn:pk M bb (i+1)=n :: []:=by rw[hpk,hp];rfl
       refine⟨(i+1,n3+26,n3+30,λi j=>[SV.val (.int .i64 (n:Nat))].getD (i+j) SV.top),⟨by first|omega|(simp only[];omega),by first|omega|(simp only[];omega),λ_=>by first|exact⟨Ω,Ω⟩|(simp only[];omega),λi' hi'=>?_⟩,by first|omega|(simp only[];omega),?_⟩
       rotate_left
       ·rw[V1 _ _ _ _ _ _ _ _ _ _ _ _ _ _ _ _ hpn]
        exact za Ωh (SubHp.cons (SubHp.skip (hbx4 _ Ω) (SubHp.refl _)))
       ·simp only[hpn]at hi' ⊢
        have hi':i'<1:=hi';obtain rfl:i'=0:=by omega
        rfl
      |cons x l=>
       have⟨x5,x6⟩:=x3 (by rw[hp];simp);rw[hp]at hpl;have hpl:l.length+1≤i:=hpl;rw[V1 _ _ _ _ _ _ _ _ _ _ _ _ _ _ _ _ hp];have NB2:=(⟨nmE (Ω:oid≠id),nmE (Ω:oid≠did),nmE (Ω:oid≠mid),nmE (Ω:oid≠rid),nmA x6⟩:_∧_∧_∧_∧_);repeat' first|refine sD ?_ ?_<;>intro _|refine aAd ?_|simp -dsimp only[↓RP,RQ,seval,ql,NB2,dI,gI,zi,NB,NB1,ND,hr0,hdr,kM,zg,qI,QS,QF,fsv,B,I,RZ,eq_self,Tryz.results104]
       all_goals try(exfalso;omega)
       refine⟨⟨xa5 _,.inr trivial,Ω⟩,by simp only[InK];omega,?_⟩;have hpn:pk M bb (i+1)=x ::(l++[n]):=by rw[hpk,hp];rfl
       refine⟨(i+1,n3+26,n3+30,λi j=>if i<l.length+1 then row' i j else [SV.val (.int .i64 (n:Nat))].getD (i -(l.length+1)+j) SV.top),⟨by first|omega|(simp only[];omega),by first|omega|(simp only[];omega),λ_=>by first|exact⟨Ω,Ω⟩|(simp only[];omega),λi' hi'=>?_⟩,by first|omega|(simp only[];omega),?_⟩
       rotate_left
       ·rw[V1 _ _ _ _ _ _ _ _ _ _ _ _ _ _ _ _ hpn,xc8,xd1]
        exact za Ωh (SubHp.cons (SubHp.skip (hbx4 _ Ω) (SubHp.skip (hbx4 _ Ω) (SubHp.refl _))))
       ·simp only[hpk]at hi' ⊢
        rw[xc8,xd1]at hi';have hpl2:(pk M bb i).length=l.length+1:=by rw[hp];rfl
        by_cases hc:i'<l.length+1
        ·rw[if_pos hc,x4 i' Ω,ZQ Ω]
        ·have e2:i'=(pk M bb i).length:=by omega
         subst e2;rw[if_neg hc,hpl2,xb8,←hpl2,ZR];rfl
    ·have e:i=r+1:=by omega
     subst e;rw[hs0];cases hp:pk M bb (r+1)with
     |nil=>
      rw[qaX _ _ _ _ _ _ _ _ _ _ _ _ _ _ _ _ hp];repeat' first|refine sD ?_ ?_<;>intro _|refine aAd ?_|simp -dsimp only[↓RP,RQ,seval,NB,NB1,ND,hr0,hdr,kM,zg,qI,QS,ql,QF,fsv,B,I,RZ,eq_self,Tryz.results104]
      all_goals try(exfalso;omega)
      exact⟨_,_,_,za (fr':=[(0,_)]) ⟨.inr rfl,trivial⟩ (SubHp.skip (hr.none Ω) (SubHp.skip hr0 (SubHp.skip hrd (SubHp.skip hrm (SubHp.refl _))))),Ω,.inl ⟨rfl,rfl⟩⟩
     |cons x l=>
      have⟨x5,x6⟩:=x3 (by rw[hp];simp);rw[V1 _ _ _ _ _ _ _ _ _ _ _ _ _ _ _ _ hp];have NB2:=(⟨nmE (Ω:oid≠id),nmE (Ω:oid≠did),nmE (Ω:oid≠mid),nmE (Ω:oid≠rid),nmA x6⟩:_∧_∧_∧_∧_);repeat' first|refine sD ?_ ?_<;>intro _|refine aAd ?_|simp -dsimp only[↓RP,RQ,seval,NB2,NB,NB1,ND,hr0,hdr,kM,zg,qI,QS,ql,QF,fsv,B,I,RZ,eq_self,Tryz.results104]
      all_goals try(exfalso;omega)
      rw[hp]at x4;exact⟨_,_,_,za (fr':=[(0,_)]) ⟨.inr rfl,trivial⟩ (SubHp.cons (SubHp.skip (hr.none Ω) (SubHp.skip hr0 (SubHp.skip hrd (SubHp.skip hrm (SubHp.refl _)))))),Ω,.inr ⟨_,_,Ω,Ω,x4,rfl,rfl⟩⟩
end Go.Tv
end
section
namespace Go.Tv
open Go.Proofs
open Go.Sx
def sz(q:Nat→Qt)(n:Nat):Nat:=((q n).d+(q n).n).toNat
def aL(q:Nat→Qt)(l:List Nat):Nat→Nat
 |0=>1
 |k+1=>Nat.lcm (aL q l k) (sz q (l.getD k 0))
def stR(q:Nat→Qt)(l:List Nat)(A:Nat):Nat→Nat→Int
 |0,_=>0
 |k+1,i=>if i=l.getD k 0 then(A:Int).tdiv ((q i).d+(q i).n)*(q i).d else stR q l A k i
theorem qjM(a s:Nat):a / Nat.gcd a s*s=Nat.lcm a s:=by
 unfold Nat.lcm;rw[Nat.div_mul_right_comm (Nat.gcd_dvd_left a s)]
theorem qjN{q:Nat→Qt}{l:List Nat}{m:Nat}(hq:okO q m)(hl:∀n,n∈l→n<m):∀k,k≤l.length→1≤aL q l k∧(aL q l k:Int)≤pw k
 |0,_=>⟨xa5 1,Int.le_refl 1⟩
 |k+1,h=>by
  have⟨h1,h2⟩:=qjN hq hl k Ω;have hm:l.getD k 0∈l:=by
   rw[xc6,xc7 (Ω:k<l.length)];exact List.getElem_mem _
  have hs:=hq _ (hl _ hm);have s1:1≤sz q (l.getD k 0):=by unfold sz;omega
  have s2:sz q (l.getD k 0)≤200:=by unfold sz;omega
  simp only[aL,pw];have hp:0<Nat.lcm (aL q l k) (sz q (l.getD k 0)):=Nat.lcm_pos Ω Ω;have hle:Nat.lcm (aL q l k) (sz q (l.getD k 0))≤aL q l k*sz q (l.getD k 0):=Nat.le_of_dvd (Nat.mul_pos Ω Ω) (Nat.lcm_dvd (Nat.dvd_mul_right _ _) (Nat.dvd_mul_left _ _));have hle2:aL q l k*sz q (l.getD k 0)≤aL q l k*200:=Nat.mul_le_mul_left _ s2;omega
theorem qeG{q:Nat→Qt}{r:Int}{l:Bool}{n:Nat}:∀{i:Nat},byS q r l i=some n→n<i
 |0,h=>by cases h
 |i+1,h=>by
  simp only[byS]at h;split at h
  ·cases h;omega
  ·have:=qeG h;omega
theorem qeH{M:Mk}{lay:Bool}:∀{r n:Nat},n∈pk M lay r→n<M.m
 |0,n,h=>by cases h
 |r+1,n,h=>by
  cases hb:byS M.q r lay M.m with
  |none=>rw[yX hb]at h;exact qeH h
  |some x=>
   rw[yY hb,xd4,xe0]at h;rcases h with h|rfl
   ·exact qeH h
   ·exact qeG hb
theorem qeI{M:Mk}(hf:M.Fine){l:List Nat}(h:sureV M=some l):(∀n,n∈l→n<M.m)∧l.length≤5:=by
 have hr5:=hf.r5;have hr1:=hf.r1;unfold sureV at h;split at h
 ·rename_i hF
  cases h;obtain⟨r0,_,f2,f3,f4⟩:=ZP hF;have⟨⟨n1,b1⟩,n2,b2⟩:=JH hf f4;rw[f3,Int.toNat_natCast];refine⟨λn hn=>?_,(by show 2≤5;decide)⟩;simp only[List.mem_cons,List.not_mem_nil,or_false]at hn;unfold byN at hn;rw[b1,b2]at hn;rcases hn with rfl|rfl
  ·exact qeG b1
  ·exact qeG b2
 ·split at h
  ·cases h
   exact⟨λn hn=>qeH hn,xc1 (Yl M true _) Ω⟩
  ·split at h
   ·cases h
    exact⟨λn hn=>qeH hn,xc1 (Yl M false _) Ω⟩
   ·cases h
theorem tdN(a b:Nat):(a:Int).tdiv (b:Int)=((a / b:Nat):Int):=rfl
abbrev nilV:SV:=.val (.slice none 0 0)
theorem c38n(M:Mk)(hf:M.Fine)(hs:sureV M=none):qb Tryz.prog 38 [M.sv] (.tup [nilV,I 5]):=by
 refine qc Tryz.func38 rfl Ωb follows Ωb _ _ (by rw[Tryz.ntmps38];simp) Ω2 ?_
 conv=>arg 4;unfold Mk.sv qts I
 (repeat' first|refine sD ?_ ?_<;>intro _|refine aAe ?_|simp -dsimp only[↓RP,RQ,seval,I,ql,QF,fsv,B,RZ,eq_self,Tryz.results38]);refine qh (qoN M) Ωp Ωa ?_;rw[Mk.Fine.err hf];repeat' first|refine sD ?_ ?_<;>intro _|refine aAe ?_|simp -dsimp only[↓RP,RQ,seval,I,ql,QF,fsv,B,RZ,eq_self,Tryz.results38]
 all_goals try(exfalso;omega)
 refine wO ΩC (qqH M hf _ _ (Under.nil.cons Ω)) λhp' nid' res ⟨q1,q2,q3⟩=>?_;subst q1 q3;have NB:=nbF q2;have NB2:=nbG q2;have NB3:True:=trivial;(repeat' first|refine sD ?_ ?_<;>intro _|refine aA ?_|simp -dsimp only[↓RP,RQ,seval,NB,NB2,NB3,QR,ql,QF,fsv,B,I,RZ,eq_self,Tryz.results38]);refine wO ΩC (qqK M hf _ _ _ _ Ω Ω Ω ((Under.nil.cons Ω).cons Ω) ΩN ΩN) λhp' nid2 res ⟨q4,q5⟩=>?_;rw[hs]at q5;obtain⟨q5,q6⟩:=q5;subst q5 q6;repeat' first|refine sD ?_ ?_<;>intro _|refine aA ?_|simp -dsimp only[↓RP,RQ,seval,B,I,NB,NB2,NB3,QR,ql,QF,fsv,RZ,eq_self,Tryz.results38]
 all_goals first|exact⟨rfl,rfl⟩|exact⟨⟨rfl,rfl⟩,⟨rfl,rfl⟩⟩|exact⟨⟨rfl,rfl⟩,rfl⟩|exact⟨⟨rfl,rfl⟩,⟨rfl,rfl⟩,rfl⟩|skip
end Go.Tv
end
section
namespace Go.Tv
open Go.Sx
variable{hi lo:Nat→Fr}{n r:Nat}
def aD(f:Nat→Fr):Nat→Nat
 |0=>1
 |k+1=>Nat.lcm (aD f k) (f k).d.toNat
theorem qaY{a b:Fr}{C:Int}(ha:0<a.d)(hb:0<b.d)(h1:a.d ∣ C)(h2:b.d ∣ C):(qO a b).d ∣ C:=by
 have hp:0<a.d*b.d:=Int.mul_pos ha hb;have⟨s1,s2,s3,s4⟩:=red_spec (a:=⟨a.n*b.d+b.n*a.d,a.d*b.d⟩) hp;have s3:(qO a b).n*(a.d*b.d)=(a.n*b.d+b.n*a.d)*(qO a b).d:=s3;have s2:Int.gcd (qO a b).n (qO a b).d=1:=s2;obtain⟨x,hx⟩:=h1;obtain⟨y,hy⟩:=h2;generalize qO a b=p at *;have e:p.d*(a.n*x+b.n*y)*(a.d*b.d)=p.n*C*(a.d*b.d):=by
  have e1:p.n*C*(a.d*b.d)=C*(p.n*(a.d*b.d)):=by grind
  rw[e1,s3];have e2:C*((a.n*b.d+b.n*a.d)*p.d)=p.d*(a.n*b.d*C+b.n*a.d*C):=by grind
  rw[e2];have e3:a.n*b.d*C=a.n*x*(a.d*b.d):=by rw[hx];grind
  have e4:b.n*a.d*C=b.n*y*(a.d*b.d):=by rw[hy];grind
  rw[e3,e4];grind
 have e5:=Int.eq_of_mul_eq_mul_right Ω e;have h3:p.d ∣ p.n*C:=⟨_,e5.symm⟩;rw[←Int.natAbs_dvd_natAbs]at h3 ⊢;rw[Int.natAbs_mul]at h3;refine Nat.Coprime.dvd_of_dvd_mul_left ?_ h3;unfold Nat.Coprime;rw[Nat.gcd_comm];exact s2
theorem qaZ{f:Nat→Fr}{C:Int}:∀{n:Nat},(∀j,j<n→0<(f j).d∧(f j).d ∣ C)→(qP f n).d ∣ C
 |0,_=>Int.one_dvd C
 |n+1,h=>qaY (yw (n:=n) λj hj=>(h j Ω).1).1 (h n Ω).1 (qaZ (n:=n) λj hj=>h j Ω) (h n Ω).2
theorem qjO{f:Nat→Fr}{C:Nat}:∀{n:Nat},(∀j,j<n→(f j).d.toNat ∣ C)→aD f n ∣ C
 |0,_=>Nat.one_dvd C
 |n+1,h=>Nat.lcm_dvd (qjO (n:=n) λj hj=>h j Ω) (h n Ω)
theorem JI{f:Nat→Fr}:∀{n:Nat}{j:Nat},j<n→(f j).d.toNat ∣ aD f n
 |0,_,h=>by omega
 |n+1,j,h=>by
  simp only[aD];by_cases e:j=n
  ·subst e;exact Nat.dvd_lcm_right _ _
  ·exact Nat.dvd_trans (JI (n:=n) (j:=j) Ω) (Nat.dvd_lcm_left _ _)
theorem Ym{f:Nat→Fr}:∀{n:Nat},(∀j,j<n→0<(f j).d)→1≤aD f n
 |0,_=>xa5 1
 |n+1,h=>by
  have h1:=Ym (f:=f) (n:=n) λj hj=>h j Ω;have h2:=h n Ω;exact Nat.lcm_pos Ω Ω
theorem qnY{f:Nat→Fr}{r:Nat}(hf:∀k,Ch (f k))(hr:(f r).d=1):∀{n:Nat},(aD f n:Int)*(if r<n then 200 else 1)≤pw n
 |0=>by show(1:Int)*_≤1;rw[if_neg Ω];decide
 |n+1=>by
  have h1:=qnY hf hr (n:=n);have h2:=hf n;have d1:=h2.d1;have d2:=h2.d2;have p1:=Ym (f:=f) (n:=n) λj _=>(hf j).d1;simp only[aD,pw];have hle:Nat.lcm (aD f n) (f n).d.toNat≤aD f n*(f n).d.toNat:=Nat.le_of_dvd (Nat.mul_pos Ω Ω) (Nat.lcm_dvd (Nat.dvd_mul_right _ _) (Nat.dvd_mul_left _ _));by_cases e:r=n
  ·subst e
   rw[hr]at hle;rw[if_neg Ω]at h1;rw[if_pos Ω,hr];have:(Nat.lcm (aD f r) (Int.toNat 1))≤aD f r:=by rw[show Int.toNat 1=1 from rfl]at hle ⊢;omega
   omega
  ·have hle2:aD f n*(f n).d.toNat≤aD f n*200:=Nat.mul_le_mul_left _ Ω
   by_cases e2:r<n
   ·rw[if_pos e2]at h1
    rw[if_pos Ω];omega
   ·rw[if_neg e2]at h1
    rw[if_neg Ω];omega
def qcV(lo hi:Nat→Fr)(n r:Nat):Nat:=aD (qN (gr lo hi r) r ⟨0,1⟩) n
theorem FairR.com(h:FairR lo hi n)(hr:r<n):1≤qcV lo hi n r∧(qcV lo hi n r:Int)≤1600000000:=by
 have hc:=λk=>KB h.lc h.hc r k;have hd:(qN (gr lo hi r) r ⟨0,1⟩ r).d=1:=by unfold qN;rw[if_pos rfl]
 have h1:=qnY hc hd (n:=n);rw[if_pos hr]at h1;have h2:=qeD h.n5;have h3:=Ym (f:=qN (gr lo hi r) r ⟨0,1⟩) (n:=n) λj _=>(hc j).d1;unfold qcV;omega
theorem FairR.left_dvd(h:FairR lo hi n)(hr:r<n):(left lo hi n r).d ∣(qcV lo hi n r:Int):=by
 have hc:=λk=>KB h.lc h.hc r k;have o1:=(yw (f:=qN (gr lo hi r) r ⟨0,1⟩) (n:=n) λj _=>(hc j).d1).1;refine qaY (a:=⟨1,1⟩) (b:=⟨-(oth lo hi n r).n,(oth lo hi n r).d⟩) Int.one_pos o1 (Int.one_dvd _) ?_;refine qaZ λj hj=>⟨(hc j).d1,?_⟩;have h1:=JI (f:=qN (gr lo hi r) r ⟨0,1⟩) hj;have h2:=(hc j).d1;have h3:(((qN (gr lo hi r) r ⟨0,1⟩ j).d.toNat:Nat):Int) ∣((qcV lo hi n r:Nat):Int):=Int.natCast_dvd_natCast.2 h1
 rwa [Int.toNat_of_nonneg Ω]at h3
theorem FairR.left_in(h:FairR lo hi n)(hr:r<n)(hs:∀j,j<r→lt (hi j) (left lo hi n j)):0≤(left lo hi n r).n∧(left lo hi n r).n≤(left lo hi n r).d∧1≤(left lo hi n r).d∧(left lo hi n r).d≤1600000000:=by
 have⟨l1,l2⟩:=Gp h.lc h.hc hr;have l3:=h.left_bd hr hs;have l4:=Int.le_of_dvd (by have:=(h.com hr).1;omega) (h.left_dvd hr);have l5:=(h.com hr).2;have l6:=h.lc r;have e1:=V0 l1;have e2:=V0 l6.d1;have p1:=Yi l1;have p2:=Yi l6.d1;have nn:0≤rv (lo r):=by
  have:¬lt (lo r) ⟨0,1⟩:=by unfold lt;have:=l6.n0;show ¬(lo r).n*1<0*(lo r).d;omega
  rw[vn l6.d1 Int.one_pos,rv0]at this
  grind
 have hc:=λk=>KB h.lc h.hc r k;have⟨q1,q2,q3,_⟩:=ZM (f:=qN (gr lo hi r) r ⟨0,1⟩) (i:=n) λj _=>hc j;have⟨r1,r2⟩:=KA (a:=⟨1,1⟩) (b:=⟨-(oth lo hi n r).n,(oth lo hi n r).d⟩) Int.one_pos (show 0<(oth lo hi n r).d from q3);refine⟨?_,?_,l1,Ω⟩
 ·refine Int.not_lt.1 λhn=>?_
  have:lt (left lo hi n r) ⟨0,1⟩:=by unfold lt;show(left lo hi n r).n*1<0*(left lo hi n r).d;omega
  rw[vn l1 Int.one_pos,rv0]at this
  grind
 ·refine Int.not_lt.1 λhn=>?_
  have:lt ⟨1,1⟩ (left lo hi n r):=by unfold lt;show 1*(left lo hi n r).d<(left lo hi n r).n*1;omega
  rw[vn (show(0:Int)<(⟨1,1⟩:Fr).d from Int.one_pos) l1,rv1]at this;have o5:0≤rv (oth lo hi n r):=by
   have:¬lt (oth lo hi n r) ⟨0,1⟩:=by unfold lt;have q1:0≤(oth lo hi n r).n:=q1;show ¬(oth lo hi n r).n*1<0*(oth lo hi n r).d;omega
   rw[vn (show 0<(oth lo hi n r).d from q3) Int.one_pos,rv0]at this
   grind
  have l7:rv (left lo hi n r)=1 + - rv (oth lo hi n r):=by
   show rv (qO ⟨1,1⟩ ⟨-(oth lo hi n r).n,(oth lo hi n r).d⟩)=_;rw[Yj (a:=⟨1,1⟩) (b:=⟨-(oth lo hi n r).n,(oth lo hi n r).d⟩) Int.one_pos q3,rv1,qjI]
  grind
theorem qgH{k:Nat}(h:k≠r):ownF lo hi n r k=qN (gr lo hi r) r ⟨0,1⟩ k:=by
 unfold ownF qN;rw[if_neg h,if_neg h]
theorem FairR.own_in(h:FairR lo hi n)(hs:Stop lo hi n r):∀k,k<n→0≤(ownF lo hi n r k).n∧(ownF lo hi n r k).n≤(ownF lo hi n r k).d∧1≤(ownF lo hi n r k).d∧(ownF lo hi n r k).d≤1600000000∧(ownF lo hi n r k).d.toNat ∣ qcV lo hi n r:=by
 intro k hk;by_cases e:k=r
 ·subst e
  have⟨a1,a2,a3,a4⟩:=h.left_in hs.1 hs.2.1;have a5:=h.left_dvd hs.1;have e1:ownF lo hi n k k=left lo hi n k:=by unfold ownF qN;rw[if_pos rfl]
  rw[e1];refine⟨a1,a2,a3,a4,?_⟩;have:(((left lo hi n k).d.toNat:Nat):Int) ∣((qcV lo hi n k:Nat):Int):=by rwa [Int.toNat_of_nonneg Ω]
  exact Int.natCast_dvd_natCast.1 this
 ·rw[qgH e]
  have hc:=KB h.lc h.hc r k;exact⟨hc.n0,hc.nd,hc.d1,(by have:=hc.d2;omega),JI hk⟩
theorem FairR.all(h:FairR lo hi n)(hs:Stop lo hi n r){k:Nat}(hk:k≤n):1≤aD (ownF lo hi n r) k∧(aD (ownF lo hi n r) k:Int)≤1600000000:=by
 have h1:=qjO (f:=ownF lo hi n r) (n:=k) λj hj=>(h.own_in hs j Ω).2.2.2.2;have h2:=h.com hs.1;have h3:=Nat.le_of_dvd Ω h1;exact⟨Ym λj hj=>(h.own_in hs j Ω).2.2.1,Ω⟩
end Go.Tv
end
