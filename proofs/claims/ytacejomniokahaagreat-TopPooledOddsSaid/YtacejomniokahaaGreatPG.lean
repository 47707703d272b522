/- A part of the proof. -/
import Derived.Test.YtacejomniokahaaGreatProg
import Derived.Test.YtacejomniokahaaGreatPE
import Derived.Test.YtacejomniokahaaGreatPF
import Derived.Test.YtacejomniokahaaGreatPC
open Nat renaming reduceMul→xa0,reduceAdd→xa1,reduceEqDiff→xa2,reduceLT→xa3,reduceLeDiff→xa4,le_refl→xa5,eq_of_beq_eq_true→xa6,le_of_ble_eq_true→xa7,mul_le_mul_right→xa8,zero_add→xb0,add_zero→xb1,add_assoc→xb2,lt_irrefl→xb4,lt_succ_self→xb5,zero_le→xb6,sub_self→xb8,le_trans→xc1,le_succ→xc4
open List renaming getD_eq_getElem?_getD→xc6,getElem?_eq_getElem→xc7,length_append→xc8,getElem?_append_left→xc9,getElem?_append_right→xd0,length_singleton→xd1,mem_append→xd4,mem_cons_self→xd5,length_replicate→xd8,length_take→xd9,mem_singleton→xe0,length_map→xe1,getElem?_toArray→xe2,length_cons→xe4
open Bool renaming and_eq_true→xe6,false_eq_true→xe7,and_true→xf1,or_false→xf3,false_or→xf4
open Array renaming getD_eq_getD_getElem?→xf5,length_toList→xf7
open Classical renaming byContradiction→xf9
open Option renaming map_some→xg1
set_option linter.unusedVariables false
set_option linter.unusedSimpArgs false
set_option linter.defProp false
set_option maxRecDepth 1000000
set_option maxHeartbeats 16000000
section
namespace Go.Tn
open Go.Proofs
open Go.Sx
def VZ:List Nat→(Nat→Nat)→List Nat→(Nat→Nat)×List Nat
 |[],seen,wait=>(seen,wait)
 |to :: l,seen,wait=>if seen to=0 then VZ l (setN seen to 1) (wait++[to])else VZ l seen wait
def JP(L:Nat→List Nat):Nat→(Nat→Nat)→List Nat→List Nat→Option (List Nat)
 |0,_,_,_=>none
 |_+1,_,[],out=>some out
 |f+1,seen,i :: wait,out=>JP L f (VZ (L i) seen wait).1 (VZ (L i) seen wait).2 (out++[i])
theorem Cl.cons{N:Nat}{L:Nat→List Nat}{nx:Nat→Nat→SV}{H:List (Nat×Blk)}{id tb xid:Nat}{A R M:SV}{sid:Nat}(h:Cl N L nx H id tb xid A R M sid){bid:Nat}{b:Blk}{n:Nat}(hb:id≤bid)(hn:bid<n):Cl N L nx ((bid,b) :: H) n tb xid A R M sid:=by
 have key:∀k y,blk H k=some y→blk ((bid,b) :: H) k=some y:=fun k y hy=>by
  have:=h.und k y hy;simp only[blk];rw[if_neg Ω];exact hy
 refine⟨h.N5,h.l5,h.inn,key _ _ h.tb,key _ _ h.xid,fun i hi=>?_,fun k y hy=>?_⟩
 ·rcases h.nx i hi with c|⟨xi,r',c1,c2,c3⟩
  ·exact .inl c
  ·exact .inr ⟨xi,r',c1,key _ _ c2,c3⟩
 ·simp only[blk]at hy
  split at hy
  ·omega
  ·have:=h.und k y hy;omega
theorem V0{O:Ctx}{fr:List (Nat×SV)}{hp:List (Nat×Blk)}{nid d k:Nat}{t:TypeId}(row:Nat→Nat→SV)(h:Go.Sx.look fr d=.val (.slice none 0 0)):Weak O ⟨fr,hp,nid⟩ ⟨putFr fr d (.vec nid 0 k),(nid,.rows t k 0 row) :: hp,nid+1⟩:=fun base okc ns outs a w ⟨r,h'⟩=>by
 obtain⟨r',hst,hrep⟩:=wb h'.sat nid (xb4 _) none (hp':=(nid,.rows t k 0 row) :: hp) (e:=t) (k:=k) (row:=row) ΩY (fun j hj _=>by simp only[blk];rw[if_neg (Nat.ne_of_lt hj)]) (fun o ho=>by cases ho);rw[gN]at hst hrep;have h2:=(h'.step hst (fun i x hx=>by
  simp only[blk]at hx;split at hx
  ·rename_i e;rw[e];exact xb5 _
  ·exact Nat.lt_succ_of_lt (h'.keys i x hx)) (xc4 _) (d:=none) (fun t ht=>by cases ht) (.val undef)).nid (nid+1)
 refine⟨r',h2.sat,h2.keys,fun i=>?_,h2.size,h2.lo,h2.out,h2.rfix,h2.defers⟩;show Rep _ _ _ _ (Go.Sx.look (putFr fr d _) i) _;rw[zb];split
 ·rename_i e
  have hv:=h'.fr d;rw[show(⟨fr,hp,nid⟩:St).fr=fr from rfl,h]at hv;rw[e];generalize a.tmps.getD d undef=v at hv ⊢;cases hv;exact hrep
 ·exact h2.fr i
def qmi(l:List Nat)(srow r:Nat→Nat→SV):Prop:=∀k,k<l.length→∀j,j<5→r k j=srow (l.getD k 0) j
theorem one5(a b c d e:Int):oneRows 1 5 (fun i j=>[SV.val (.int .i64 a),SV.val (.int .i64 b),SV.val (.int .i64 c),SV.val (.int .i64 d),SV.val (.int .i64 e)].getD (i*5+j) SV.top):=fun i j hi hj=>by
 obtain rfl:i=0:=by omega
 have:j=0∨j=1∨j=2∨j=3∨j=4:=by omega
 rcases this with rfl|rfl|rfl|rfl|rfl<;>rfl
structure QJ(N:Nat)(L:Nat→List Nat)(fu n1 lo:Nat)(srow:Nat→Nat→SV)(res0:List Nat)(f c:Nat)(seen:Nat→Nat)(byr:Nat→Nat→SV)(wait:List Nat)(wid off:Nat)(J:Nat→Nat→SV)(outL:List Nat)(oid:Nat)(r:Nat→Nat→SV):Prop where
 fu:f+c=fu
 run:JP L f seen wait outL=some res0
 row:∀x,x<N→byr x 0=.val (.int .i64 (seen x:Nat))
 le:∀x,x<N→seen x≤1
 lt:∀x,x∈wait→x<N
 J:∀i,i<wait.length→J (off+i) 0=.val (.int .i64 (wait.getD i 0:Nat))
 off:off≤c
 len:wait.length≤1+5*c
 w1:lo≤wid
 w2:wid<n1+450*c
 out:qmi outL srow r
 ol:outL.length≤c
 o1:lo≤oid
 o2:oid<n1+450*c
 o3:wid≠oid
structure RJ(N:Nat)(L:Nat→List Nat)(i c n1 n2 lo nr:Nat)(R3:(Nat→Nat)×List Nat)(oid k:Nat)(seen:Nat→Nat)(byr:Nat→Nat→SV)(wait:List Nat)(wid off:Nat)(J:Nat→Nat→SV):Prop where
 kl:k≤(L i).length
 run:VZ ((L i).drop k) seen wait=R3
 row:∀x,x<N→byr x 0=.val (.int .i64 (seen x:Nat))
 le:∀x,x<N→seen x≤1
 lt:∀x,x∈wait→x<N
 J:∀i,i<wait.length→J (off+i) 0=.val (.int .i64 (wait.getD i 0:Nat))
 off:off≤c+1
 len:wait.length≤nr+k
 w1:lo≤wid
 w2:wid<n2+60*k
 o3:wid≠oid
theorem qoD(N:Nat)(L:Nat→List Nat)(nx:Nat→Nat→SV)(H:List (Nat×Blk))(id tb xid sid:Nat)(A R M:SV)(s:Nat→Int)(srow:Nat→Nat→SV)(i0 fu:Nat)(res0:List Nat)(h:Cl N L nx H id tb xid A R M sid)(hfu:fu≤100000)
  (hsr:blk H sid=some (.rows 140 5 N srow)) (hsi:∀i,i<N→∀j,j<5→∃x:Int,srow i j=.val (.int .i64 x)) (hix:∀sd:Nat→Nat→SV,EffVC Tryz.prog 162 [.ptr tb 0,.agg (stL s)] ((id+7,.rows 3 1 N sd) ::(id,.cells 140 (stL s)) :: H) (id+11) (fun hp' nid' res=>hp'=((id+7,.rows 3 1 N sd) ::(id,.cells 140 (stL s)) :: H)∧nid'=id+11+200∧res=I (i0:Nat)))
  (hi0N:i0<N) (hF:JP L fu (setN (fun _=>0) i0 1) [i0] []=some res0) :
  EffVC Tryz.prog 262 [.ptr tb 0,.agg (stL s)] H id (fun hp' nid' res=>nid'≤id+400+450*fu∧∃oid r,id≤oid∧oid<nid'∧qmi res0 srow r∧hp'=(oid,.rows 140 5 res0.length r) :: H∧res=.vec oid res0.length 5):=by
 refine vC (zJ [(14,[(0,0)])]) follows Tryz.func262 rfl Ωc Ωc (by rw[Tryz.ntmps262];simp) fun out=>?_;have hN5:=h.N5;have htb:=h.und _ _ h.tb;have hxid:=h.und _ _ h.xid;have hsid:=h.und _ _ hsr;have NB:=(⟨nmA htb,nmA hxid,nmA hsid⟩:_∧_∧_);(repeat' (first|refine sD ?_ ?_<;>intro _|refine aAd ?_|(simp -dsimp only[↓RP,RQ,xa0,reduceIte,reduceCtorEq,xa1,xa2,xa3,xa4,h.tb,qcr,Yb,↓RY,NB,QS,QT,qL,QN])))
 all_goals try exact Ωb
 refine jd Ωx (hix _) fun hp' nid' res hQ=>?_;obtain⟨rfl,rfl,rfl⟩:=hQ;(repeat' (first|refine sD ?_ ?_<;>intro _|refine aAd ?_|(simp -dsimp only[↓RP,RQ,xa0,reduceIte,reduceCtorEq,xa1,xa2,xa3,xa4,h.tb,qcr,Yb,↓RY,NB,QS,QT,qL,QN])))
 all_goals try exact Ωb
 obtain⟨n1,hn1⟩:∃n1,n1=id+300:=⟨_,rfl⟩;have hB:∀x,x<N→(if x=i0∧0=0 then SV.val (.int .i64 1)else SV.val ([Value.int .i64 0].getD 0 undef))=.val (.int .i64 (setN (fun _=>0) i0 1 x:Nat)):=fun x hx=>by
  unfold setN;by_cases e:x=i0
  ·rw[if_pos ⟨e,rfl⟩,if_pos e];rfl
  ·rw[if_neg (fun q=>e q.1),if_neg e];rfl
 refine qo (fun(z:Nat×Nat×(Nat→Nat)×(Nat→Nat→SV)×List Nat×Nat×Nat×(Nat→Nat→SV)×List Nat×Nat×(Nat→Nat→SV))=>QJ N L fu n1 (id+8) srow res0 z.1 z.2.1 z.2.2.1 z.2.2.2.1 z.2.2.2.2.1 z.2.2.2.2.2.1 z.2.2.2.2.2.2.1 z.2.2.2.2.2.2.2.1 z.2.2.2.2.2.2.2.2.1 z.2.2.2.2.2.2.2.2.2.1 z.2.2.2.2.2.2.2.2.2.2) (fun z=>⟨[(0,.ptr tb 0),(5,.vec (id+7) N 1),(6,.que z.2.2.2.2.2.1 (z.2.2.2.2.2.2.1) (z.2.2.2.2.1.length) 1),(7,.vec z.2.2.2.2.2.2.2.2.2.1 (z.2.2.2.2.2.2.2.2.1.length) 5)],(z.2.2.2.2.2.1,.rows 3 1 (z.2.2.2.2.2.2.1+z.2.2.2.2.1.length) z.2.2.2.2.2.2.2.1) ::(id+7,.rows 3 1 N z.2.2.2.1) ::(z.2.2.2.2.2.2.2.2.2.1,.rows 140 5 z.2.2.2.2.2.2.2.2.1.length z.2.2.2.2.2.2.2.2.2.2) :: H,n1+450*z.2.1⟩) (fun z=>z.1) (fu,0,setN (fun _=>0) i0 1,fun a b=>if a=i0∧b=0 then SV.val (.int .i64 1)else SV.val ([Value.int .i64 0].getD b undef),[i0],id+214,0,fun i j=>[SV.val (.int .i64 (i0:Nat))].getD (i+j) SV.top,[],id+223,fun _ _=>.top) ⟨rfl,hF,hB,fun x hx=>(by show(if x=i0 then 1 else 0)≤1;split<;>omega),fun x hx=>(by rw[List.mem_singleton.1 hx];exact hi0N),fun i hi=>(by have hi:i<1:=hi;obtain rfl:i=0:=Ω;rfl),xa5 _,Ωg,Ωe,Ωe,fun k hk=>(by cases hk),xa5 _,Ωe,Ωe,Ωe⟩ (Weak.trans (qgP (d:=6) rfl) (Weak.trans (V0 (t:=140) (k:=5) (d:=7) (fun _ _=>.top) rfl) (weakSU Ωe (by simp[zo,Go.Sx.look,putFr]) ?hA5))) fun z hz=>?_
 case hA5=>(intro q v hv;simp only[blk]at hv ⊢;((repeat' split at hv)<;>(repeat' split)<;>first|exact hv|(exfalso;omega)|(exfalso;have:=h.und _ _ hv;omega)))
 obtain⟨f,c,seen,byr,wait,wid,off,J,outL,oid,orw⟩:=z;have hz':QJ N L fu n1 (id+8) srow res0 f c seen byr wait wid off J outL oid orw:=hz;obtain⟨y1,y2,y3,y4,y5,y6,y7,y8,y9,y10,y11,y12,y13,y14,y15⟩:=hz';dsimp only;cases f with
 |zero=>cases y2
 |succ f=>
 obtain⟨n2,hn2⟩:∃n2,n2=n1+450*c:=⟨_,rfl⟩;rw[←hn2]at y10 y14 ⊢;clear NB;have NB:=(⟨nmA (Ω:tb<n2),nmA (Ω:xid<n2),nmA (Ω:sid<n2),nmA y10,nmA y14,nmE (Ω:wid≠tb),nmE (Ω:wid≠xid),nmE (Ω:wid≠sid),nmE (Ω:wid≠id+7),nmE y15,nmE (Ω:oid≠tb),nmE (Ω:oid≠xid),nmE (Ω:oid≠sid),nmE (Ω:oid≠id+7),nmA htb,nmA hxid,nmA hsid,nmA (Ω:id+7<n2)⟩:_∧_∧_∧_∧_∧_∧_∧_∧_∧_∧_∧_∧_∧_∧_∧_∧_∧_);have hdr0:dropBlk H oid=H:=zn (h.und.none Ω);cases wait with
 |nil=>
  simp only[JP]at y2;have y2:=Option.some.inj y2;subst y2;(repeat' (first|refine sD ?_ ?_<;>intro _|refine aAd ?_|(simp -dsimp only[↓RP,RQ,xa0,reduceIte,reduceCtorEq,xa1,xa2,xa3,xa4,h.tb,↓RY,NB,QS,QT,qL,QN])))
  all_goals try exact Ωb
  refine⟨_,_,_,weakSU (xa5 _) (fr':=[(0,_)]) ⟨.inr rfl,trivial⟩ ?hSb,Ω,oid,orw,Ω,Ω,y11,rfl,rfl⟩
  case hSb=>(intro q v hv;simp only[blk]at hv ⊢;((repeat' split at hv)<;>(repeat' split)<;>first|exact hv|(exfalso;omega)|(exfalso;have:=h.und _ _ hv;omega)))
 |cons i rest=>
  have hi:i<N:=y5 i xd5;have hgt:=decide_eq_true (Ω:(0:Int)<((rest.length+1:Nat):Int));have hJ0:=y6 0 Ωg;rw[xb1]at hJ0;have hJ1:J off 0=SV.val (.int .i64 (i:Nat)):=hJ0;rw[xe4]at y8;have hql:((rest.length+1:Nat):Int) - 1=((rest.length:Nat):Int):=by omega
  obtain⟨x0,e0⟩:=hsi i hi 0 Ω;obtain⟨x1,e1⟩:=hsi i hi 1 Ω;obtain⟨x2,e2⟩:=hsi i hi 2 Ω;obtain⟨x3,e3⟩:=hsi i hi 3 Ω;obtain⟨x4,e4⟩:=hsi i hi 4 Ω;simp only[JP]at y2;have hor:qmi (outL++[i]) srow (fun a b=>if a<outL.length then orw a b else [SV.val (.int .i64 x0),SV.val (.int .i64 x1),SV.val (.int .i64 x2),SV.val (.int .i64 x3),SV.val (.int .i64 x4)].getD ((a - outL.length)*5+b) SV.top):=fun a ha b hb=>by
   rw[xc8,xd1]at ha;by_cases hc:a<outL.length
   ·show(if a<outL.length then orw a b else _)=_
    rw[if_pos hc,y11 a hc b hb,xc6,xc6,xc9 hc]
   ·obtain rfl:a=outL.length:=by omega
    show(if outL.length<outL.length then orw outL.length b else [SV.val (.int .i64 x0),SV.val (.int .i64 x1),SV.val (.int .i64 x2),SV.val (.int .i64 x3),SV.val (.int .i64 x4)].getD ((outL.length - outL.length)*5+b) SV.top)=_;rw[if_neg Ω,xc6 (l:=outL++[i]),xd0 (xa5 _),xb8];have:b=0∨b=1∨b=2∨b=3∨b=4:=by omega
    rcases this with rfl|rfl|rfl|rfl|rfl
    ·exact e0.symm
    ·exact e1.symm
    ·exact e2.symm
    ·exact e3.symm
    ·exact e4.symm
  obtain⟨or2,hor2⟩:∃or2,or2=(fun a b=>if a<outL.length then orw a b else [SV.val (.int .i64 x0),SV.val (.int .i64 x1),SV.val (.int .i64 x2),SV.val (.int .i64 x3),SV.val (.int .i64 x4)].getD ((a - outL.length)*5+b) SV.top):=⟨_,rfl⟩;rw[←hor2]at hor;have hl5:=h.l5 i hi;rcases h.nx i hi with⟨c1,c2⟩|⟨xi,r,c1,c2,c3⟩
  ·rw[c1]at y2
   simp only[VZ]at y2;(repeat' (first|refine sD ?_ ?_<;>intro _|refine aAd ?_|(simp -dsimp only[↓RP,RQ,xa0,reduceIte,reduceCtorEq,xa1,xa2,xa3,xa4,c2,hgt,hql,h.tb,h.xid,hsr,hJ1,e0,e1,e2,e3,e4,hdr0,qkU,↓RY,NB,QS,QT,qL,QN])))
   all_goals try exact Ωb
   refine qo (fun(z:Unit)=>True) (fun _=>⟨[(0,.ptr tb 0),(5,.vec (id+7) N 1),(6,.que wid (off+1) (rest.length) 1),(7,.vec (n2+19) (outL.length+1) 5)]++[(51,.val (.int .i64 0)),(52,.val (.int .i64 0))],(wid,.rows 3 1 (off+1+rest.length) J) ::(id+7,.rows 3 1 N byr) ::(n2+19,.rows 140 5 (outL.length+1) or2) :: H,n2+100⟩) (fun _=>0) () trivial (weakSU Ω Ωf ?hSa) fun z hz=>?_
   case hSa=>rw[hor2,show off+1+rest.length=off+(rest.length+1) by omega];(intro q v hv;simp only[blk]at hv ⊢;((repeat' split at hv)<;>(repeat' split)<;>first|exact hv|(exfalso;omega)|(exfalso;have:=h.und _ _ hv;omega)))
   (repeat' (first|refine sD ?_ ?_<;>intro _|refine aAd ?_|(simp -dsimp only[↓RP,RQ,xa0,reduceIte,reduceCtorEq,xa1,xa2,xa3,xa4,↓RY,NB,QS,QT,qL,QN])))
   all_goals try exact Ωb
   have hq:QJ N L fu n1 (id+8) srow res0 f (c+1) seen byr rest wid (off+1) J (outL++[i]) (n2+19) or2:=⟨Ω,y2,y3,y4,fun x hx=>y5 x (List.mem_cons_of_mem _ hx),fun i hi=>by
    have:=y6 (i+1) Ωl;rw[show off+1+i=off+(i+1) by omega,this];rfl,Ω,Ω,y9,Ω,hor,by rw[xc8,xd1];omega,Ω,Ω,Ω⟩
   exact⟨(f,c+1,seen,byr,rest,wid,off+1,J,outL++[i],n2+19,or2),hq,Ωe,weakSU Ωe Ωf (by dsimp only;rw[xc8,xd1,show off+1+rest.length=off+(1+rest.length) by omega];exact SubHp.refl _)⟩
  ·have hxi:=h.und _ _ c2
   have NX:=(⟨nmA (Ω:xi<n2),nmE (Ω:xi≠wid),nmE (Ω:xi≠oid),nmA hxi⟩:_∧_∧_∧_);obtain⟨R3,hR3⟩:∃R3,R3=VZ (L i) seen rest:=⟨_,rfl⟩;rw[←hR3]at y2;(repeat' (first|refine sD ?_ ?_<;>intro _|refine aAd ?_|(simp -dsimp only[↓RP,RQ,xa0,reduceIte,reduceCtorEq,xa1,xa2,xa3,xa4,c1,hgt,hql,h.tb,h.xid,hsr,hJ1,e0,e1,e2,e3,e4,hdr0,qkU,↓RY,NB,QS,QT,qL,QN])))
   all_goals try exact Ωb
   refine qo (fun(z:Nat×(Nat→Nat)×(Nat→Nat→SV)×List Nat×Nat×Nat×(Nat→Nat→SV))=>RJ N L i c n1 (n2+40) (id+8) rest.length R3 (n2+19) z.1 z.2.1 z.2.2.1 z.2.2.2.1 z.2.2.2.2.1 z.2.2.2.2.2.1 z.2.2.2.2.2.2) (fun z=>⟨[(0,.ptr tb 0),(5,.vec (id+7) N 1),(6,.que z.2.2.2.2.1 (z.2.2.2.2.2.1) (z.2.2.2.1.length) 1),(7,.vec (n2+19) (outL.length+1) 5)]++[(50,.vec xi (L i).length 1),(51,.val (.int .i64 ((L i).length:Nat))),(52,.val (.int .i64 (z.1:Nat)))],(z.2.2.2.2.1,.rows 3 1 (z.2.2.2.2.2.1+z.2.2.2.1.length) z.2.2.2.2.2.2) ::(id+7,.rows 3 1 N z.2.2.1) ::(n2+19,.rows 140 5 (outL.length+1) or2) :: H,n2+40+60*z.1⟩) (fun z=>(L i).length - z.1) (0,seen,byr,rest,wid,off+1,J) (by
     have:RJ N L i c n1 (n2+40) (id+8) rest.length R3 (n2+19) 0 seen byr rest wid (off+1) J:=⟨xb6 _,hR3.symm,y3,y4,fun x hx=>y5 x (List.mem_cons_of_mem _ hx),fun i hi=>by
      have:=y6 (i+1) Ωl;rw[show off+1+i=off+(i+1) by omega,this];rfl,Ω,Ω,y9,Ω,Ω⟩
     exact this) (weakSU Ωe Ωf ?hSc) fun z hz=>?_
   case hSc=>dsimp only;rw[hor2,show off+1+rest.length=off+(rest.length+1) by omega];(intro q v hv;simp only[blk]at hv ⊢;((repeat' split at hv)<;>(repeat' split)<;>first|exact hv|(exfalso;omega)|(exfalso;have:=h.und _ _ hv;omega)))
   obtain⟨k,seen1,byr1,wait1,wid1,off1,J1⟩:=z;have hz':RJ N L i c n1 (n2+40) (id+8) rest.length R3 (n2+19) k seen1 byr1 wait1 wid1 off1 J1:=hz;obtain⟨v1,v2,v3,v4,v5,v6,v7,v8,v9,v10,v11⟩:=hz';dsimp only;obtain⟨n3,hn3⟩:∃n3,n3=n2+40+60*k:=⟨_,rfl⟩;rw[←hn3]at v10 ⊢;clear NB NX;have NB:=(⟨nmA (Ω:tb<n3),nmA (Ω:xid<n3),nmA v10,nmE (Ω:wid1≠tb),nmE (Ω:wid1≠xid),nmE (Ω:wid1≠id+7),nmE v11,nmA htb,nmA hxid,nmA (Ω:id+7<n3),nmA (Ω:xi<n3),nmE (Ω:xi≠wid1),nmA hxi,nmA (Ω:n2+19<n3),nmA (Ω:xi<n2),nmA (Ω:id+7<n2)⟩:_∧_∧_∧_∧_∧_∧_∧_∧_∧_∧_∧_∧_∧_∧_∧_);by_cases hkl:k<(L i).length
   ·have hk1:=decide_eq_true (Ω:((k:Nat):Int)<((L i).length:Nat))
    have hdr2:dropBlk H wid1=H:=zn (h.und.none Ω);obtain⟨to,hto⟩:∃to,to=(L i).getD k 0:=⟨_,rfl⟩;have hgi:(L i)[k]? = some to:=by rw[hto,xc6,xc7 hkl];rfl
    have htoN:to<N:=h.inn i hi to (List.mem_of_getElem? hgi);have hdr:(L i).drop k=to ::(L i).drop (k+1):=by
     rw[List.drop_eq_getElem_cons hkl];rw[xc7 hkl]at hgi;rw[Option.some.inj hgi]
    rw[hdr]at v2;simp only[VZ]at v2;have hrk:=c3 k hkl;rw[←hto]at hrk;have hrt:=v3 to htoN;have hle:=v4 to htoN;by_cases hb1:seen1 to=0
    ·rw[if_pos hb1]at v2
     have hb2:=decide_eq_true (Ω:((seen1 to:Nat):Int)=0);(repeat' (first|refine sD ?_ ?_<;>intro _|refine aAd ?_|(simp -dsimp only[↓RP,RQ,xa0,reduceIte,reduceCtorEq,xa1,xa2,xa3,xa4,hk1,hrk,hrt,hb2,c2,↓RY,NB,QS,QT,qL,QN])))
     all_goals try exact Ωb
     refine Zj (qA ?_);(repeat' (first|refine sD ?_ ?_<;>intro _|refine aAd ?_|(simp -dsimp only[↓RP,RQ,xa0,reduceIte,reduceCtorEq,xa1,xa2,xa3,xa4,hdr0,hdr2,hk1,hrk,hrt,hb2,c2,↓RY,NB,QS,QT,qL,QN])));refine qA ?_;(repeat' (first|refine sD ?_ ?_<;>intro _|refine aAd ?_|(simp -dsimp only[↓RP,RQ,xa0,reduceIte,reduceCtorEq,xa1,xa2,xa3,xa4,hdr0,hdr2,hk1,hrk,hrt,hb2,c2,↓RY,NB,QS,QT,qL,QN])));refine qA ?_;(repeat' (first|refine sD ?_ ?_<;>intro _|refine aAd ?_|(simp -dsimp only[↓RP,RQ,xa0,reduceIte,reduceCtorEq,xa1,xa2,xa3,xa4,hdr0,hdr2,hk1,hrk,hrt,hb2,c2,↓RY,NB,QS,QT,qL,QN])));refine gH rfl (qgd (id:=wid1) (off:=off1) (n:=wait1.length) (n':=off1+wait1.length) (m:=1) (k:=1) (e:=3) (row:=J1) (row2:=fun i j=>[SV.val (.int .i64 (to:Nat))].getD (i+j) SV.top) (obl2:=1≤1∧1=1) Yd ty3 rfl Ω rfl rfl (by show rowsOf _ (SV.vec (n3+15) 1 1)=_;simp[rowsOf,blk]) (by exact⟨xa5 _,rfl⟩) (by exact one1 _) ΩN (xa5 _) Ω Ω (by rw[by3];omega) Ωe ?_ ?_)
     ·refine qA ?_
      (repeat' (first|refine sD ?_ ?_<;>intro _|refine aAd ?_|(simp -dsimp only[↓RP,RQ,xa0,reduceIte,reduceCtorEq,xa1,xa2,xa3,xa4,gj,hdr0,hdr2,hk1,hrk,hrt,hb2,c2,↓RY,NB,QS,QT,qL,QN])))
      all_goals try exact Ωb
      have hRI:RJ N L i c n1 (n2+40) (id+8) rest.length R3 (n2+19) (k+1) (setN seen1 to 1) (fun a b=>if a=to∧b=0 then SV.val (.int .i64 1)else byr1 a b) (wait1++[to]) (n3+16) off1 (fun i j=>if i<off1+wait1.length then J1 i j else [SV.val (.int .i64 (to:Nat))].getD (i -(off1+wait1.length)+j) SV.top):=by
       refine⟨hkl,v2,fun x hx=>?_,fun x hx=>?_,fun x hx=>?_,fun y hy=>?_,Ω,by rw[xc8,xd1];omega,Ω,Ω,Ω⟩
       ·by_cases e:x=to
        ·rw[if_pos ⟨e,rfl⟩];unfold setN;rw[if_pos e];rfl
        ·rw[if_neg (fun e2=>e e2.1)];unfold setN;rw[if_neg e];exact v3 x hx
       ·unfold setN;split
        ·omega
        ·exact v4 x hx
       ·rcases List.mem_append.1 hx with h1|h1
        ·exact v5 x h1
        ·rw[List.mem_singleton.1 h1];exact htoN
       ·rw[xc8,xd1]at hy
        show(if off1+y<off1+wait1.length then J1 (off1+y) 0 else [SV.val (.int .i64 (to:Nat))].getD (off1+y -(off1+wait1.length)+0) SV.top)=_
        skip
        by_cases hc:y<wait1.length
        ·rw[if_pos Ω,v6 y hc,xc6,xc6,xc9 hc]
        ·obtain rfl:y=wait1.length:=by omega
         rw[if_neg Ω,xb8,xc6 (l:=wait1++[to]),xd0 (xa5 _),xb8];rfl
      refine⟨(k+1,setN seen1 to 1,_,wait1++[to],n3+16,off1,_),hRI,Ωe,weakSU Ωe Ωf ?_⟩;dsimp only;rw[xc8,xd1];exact SubHp.cons (SubHp.skip (show blk ((id+7,_) ::(n2+19,_) :: H) (n3+15)=none by simp only[blk];rw[if_neg Ω,if_neg Ω];exact h.und.none Ω) (SubHp.refl _))
     ·refine qA ?_
      (repeat' (first|refine sD ?_ ?_<;>intro _|refine aAd ?_|(simp -dsimp only[↓RP,RQ,xa0,reduceIte,reduceCtorEq,xa1,xa2,xa3,xa4,gj,hdr0,hdr2,hk1,hrk,hrt,hb2,c2,↓RY,NB,QS,QT,qL,QN])))
      all_goals try exact Ωb
      have hRI:RJ N L i c n1 (n2+40) (id+8) rest.length R3 (n2+19) (k+1) (setN seen1 to 1) (fun a b=>if a=to∧b=0 then SV.val (.int .i64 1)else byr1 a b) (wait1++[to]) (n3+16) 0 (fun i j=>if i<wait1.length then J1 (off1+i) j else [SV.val (.int .i64 (to:Nat))].getD (i - wait1.length+j) SV.top):=by
       refine⟨hkl,v2,fun x hx=>?_,fun x hx=>?_,fun x hx=>?_,fun y hy=>?_,Ω,by rw[xc8,xd1];omega,Ω,Ω,Ω⟩
       ·by_cases e:x=to
        ·rw[if_pos ⟨e,rfl⟩];unfold setN;rw[if_pos e];rfl
        ·rw[if_neg (fun e2=>e e2.1)];unfold setN;rw[if_neg e];exact v3 x hx
       ·unfold setN;split
        ·omega
        ·exact v4 x hx
       ·rcases List.mem_append.1 hx with h1|h1
        ·exact v5 x h1
        ·rw[List.mem_singleton.1 h1];exact htoN
       ·rw[xc8,xd1]at hy
        show(if 0+y<wait1.length then J1 (off1+(0+y)) 0 else [SV.val (.int .i64 (to:Nat))].getD (0+y - wait1.length+0) SV.top)=_;rw[xb0];by_cases hc:y<wait1.length
        ·rw[if_pos Ω,v6 y hc,xc6,xc6,xc9 hc]
        ·obtain rfl:y=wait1.length:=by omega
         rw[if_neg Ω,xb8,xc6 (l:=wait1++[to]),xd0 (xa5 _),xb8];rfl
      refine⟨(k+1,setN seen1 to 1,_,wait1++[to],n3+16,0,_),hRI,Ωe,weakSU Ωe Ωf ?_⟩;dsimp only;rw[xc8,xd1,xb0];exact SubHp.cons (SubHp.skip (show blk ((id+7,_) ::(n2+19,_) :: H) (n3+15)=none by simp only[blk];rw[if_neg Ω,if_neg Ω];exact h.und.none Ω) (SubHp.refl _))
    ·rw[if_neg hb1]at v2
     have hb2:=decide_eq_false (Ω:¬((seen1 to:Nat):Int)=0);(repeat' (first|refine sD ?_ ?_<;>intro _|refine aAd ?_|(simp -dsimp only[↓RP,RQ,xa0,reduceIte,reduceCtorEq,xa1,xa2,xa3,xa4,hk1,hrk,hrt,hb2,c2,↓RY,NB,QS,QT,qL,QN])))
     all_goals try exact Ωb
     have hRI:RJ N L i c n1 (n2+40) (id+8) rest.length R3 (n2+19) (k+1) seen1 byr1 wait1 wid1 off1 J1:=⟨hkl,v2,v3,v4,v5,v6,v7,Ω,v9,Ω,v11⟩;exact⟨(k+1,seen1,byr1,wait1,wid1,off1,J1),hRI,Ωe,weakSU Ωe Ωf (SubHp.refl _)⟩
   ·have hk1:=decide_eq_false (Ω:¬((k:Nat):Int)<((L i).length:Nat))
    rw[List.drop_eq_nil_of_le Ω]at v2;simp only[VZ]at v2;subst v2;(repeat' (first|refine sD ?_ ?_<;>intro _|refine aAd ?_|(simp -dsimp only[↓RP,RQ,xa0,reduceIte,reduceCtorEq,xa1,xa2,xa3,xa4,hk1,↓RY,NB,QS,QT,qL,QN])))
    all_goals try exact Ωb
    have hq:QJ N L fu n1 (id+8) srow res0 f (c+1) seen1 byr1 wait1 wid1 off1 J1 (outL++[i]) (n2+19) or2:=⟨Ω,y2,v3,v4,v5,v6,v7,Ω,v9,Ω,hor,by rw[xc8,xd1];omega,Ω,Ω,v11⟩;exact⟨(f,c+1,seen1,byr1,wait1,wid1,off1,J1,outL++[i],n2+19,or2),hq,Ωe,weakSU Ωe Ωf (by dsimp only;rw[xc8,xd1];exact SubHp.refl _)⟩
theorem qoE{H:List (Nat×Blk)}{id tb tix m N i0:Nat}{u s:Nat→Int}{tr:Nat→Nat→SV}{Z1 Z2 R M:SV}(hU:Under H id)(hb:blk H tb=some (.cells 253 [.vec tix m 1,Z1,Z2,R,M]))(ht:blk H tix=some (.rows 3 1 m tr))(htu:∀i,i<m→tr i 0=.val (.int .i64 (u i)))(hm:m≤5)(hu:∀i,i<m→1≤u i∧u i≤12)(hs:∀i,i<m→0≤s i∧s i≤u i)
  (hi0:ixF u s m=(i0:Nat)) (sd:Nat→Nat→SV):EffVC Tryz.prog 162 [.ptr tb 0,.agg (stL s)] ((id+7,.rows 3 1 N sd) ::(id,.cells 140 (stL s)) :: H) (id+11) (fun hp' nid' res=>hp'=((id+7,.rows 3 1 N sd) ::(id,.cells 140 (stL s)) :: H)∧nid'=id+11+200∧res=I (i0:Nat)):=by
 have htb:=hU _ _ hb;have hti:=hU _ _ ht;have hN:=hU.none (Ω:id≤id+11);rw[←hi0];refine qnp _ _ tb m u s tix tr Ω ?_ ?_ htu Z1 Z2 R M hm hu hs Ω ?_
 ·simp only[blk];rw[if_neg Ω,if_neg Ω];exact hN
 ·simp only[blk];rw[if_neg Ω,if_neg Ω];exact ht
 ·simp only[blk];rw[if_neg Ω,if_neg Ω];exact hb
theorem qoF{H:List (Nat×Blk)}{id tb m N i0:Nat}{o full:Bool}{row:Nat→Nat→SV}{u s:Nat→Int}{Z1 Z2 R M:SV}(hU:Under H id)(hb:blk H tb=some (.cells 253 [.arr o full m 1 row,Z1,Z2,R,M]))(htu:∀i,i<m→row i 0=.val (.int .i64 (u i)))(hm:m≤5)(hu:∀i,i<m→1≤u i∧u i≤12)(hs:∀i,i<m→0≤s i∧s i≤u i)
  (hi0:ixF u s m=(i0:Nat)) (sd:Nat→Nat→SV):EffVC Tryz.prog 162 [.ptr tb 0,.agg (stL s)] ((id+7,.rows 3 1 N sd) ::(id,.cells 140 (stL s)) :: H) (id+11) (fun hp' nid' res=>hp'=((id+7,.rows 3 1 N sd) ::(id,.cells 140 (stL s)) :: H)∧nid'=id+11+200∧res=I (i0:Nat)):=by
 have htb:=hU _ _ hb;have hN:=hU.none (Ω:id≤id+11);rw[←hi0];refine qnq _ _ tb m u s o full row ?_ htu Z1 Z2 R M hm hu hs Ω ?_
 ·simp only[blk];rw[if_neg Ω,if_neg Ω];exact hN
 ·simp only[blk];rw[if_neg Ω,if_neg Ω];exact hb
end Go.Tn
end
section
namespace Go.Sx
open Go.Proofs
open Go.RowKit Go.Tn
noncomputable section
variable{ρ:Q}
def V1(s:SV):Bool:=match s with
 |.val (.int .i64 _)=>true
 |_=>false
theorem qeF{s:SV}(h:V1 s=true):∃x:Int,s=.val (.int .i64 x):=by
 unfold V1 at h;split at h
 ·exact⟨_,rfl⟩
 ·cases h
def qcU(l:List SV)(r:R):R:=List.rec r (fun a _ ih=>qj 520 (V1 a) ih) l
theorem GE{r:R}:∀{l:List SV},qcU l r=.ok ρ→r=.ok ρ∧∀i,i<l.length→∃x:Int,l.getD i .top=.val (.int .i64 x)
 |[],h=>⟨h,fun i hi=>by cases hi⟩
 |a :: l,h=>by
  have h:qj 520 (V1 a) (qcU l r)=.ok ρ:=h;obtain⟨h1,h⟩:=qe h;obtain⟨h,h2⟩:=GE h;refine⟨h,fun i hi=>?_⟩;cases i with
  |zero=>exact qeF h1
  |succ i=>exact h2 i (Nat.lt_of_succ_lt_succ hi)
def stK(us sl:List Nat)(m:Nat)(r:R):R:=Nat.rec (motive:=fun _=>Nat→R) (fun _=>r) (fun _ ih i=>qj 521 (Nat.ble 1 (us.getD i 0)) (qj 522 (Nat.ble (us.getD i 0) 12) (qj 523 (Nat.ble (sl.getD i 0) (us.getD i 0)) (qk (Nat.succ i) fun i=>ih i)))) m 0
theorem qcV{us sl:List Nat}{r:R}:∀(m i:Nat),(Nat.rec (motive:=fun _=>Nat→R) (fun _=>r) (fun _ ih i=>qj 521 (Nat.ble 1 (us.getD i 0)) (qj 522 (Nat.ble (us.getD i 0) 12) (qj 523 (Nat.ble (sl.getD i 0) (us.getD i 0)) (qk (Nat.succ i) fun i=>ih i)))) m i:R)=.ok ρ→r=.ok ρ∧∀j,i≤j→j<i+m→1≤us.getD j 0∧us.getD j 0≤12∧sl.getD j 0≤us.getD j 0
 |0,i,h=>⟨h,fun j h1 h2=>by omega⟩
 |m+1,i,h=>by
  obtain⟨h1,h⟩:=qe h;obtain⟨h2,h⟩:=qe h;obtain⟨h3,h⟩:=qe h;rw[qi]at h;obtain⟨h,h4⟩:=qcV m (i+1) h;refine⟨h,fun j hj1 hj2=>?_⟩;by_cases e:j=i
  ·subst e;exact⟨xa7 h1,xa7 h2,xa7 h3⟩
  ·exact h4 j Ω Ω
theorem qmj{us sl:List Nat}{m:Nat}{r:R}(h:stK us sl m r=.ok ρ):r=.ok ρ∧∀j,j<m→1≤us.getD j 0∧us.getD j 0≤12∧sl.getD j 0≤us.getD j 0:=by
 obtain⟨h1,h2⟩:=qcV m 0 h;exact⟨h1,fun j hj=>h2 j (xb6 _) Ω⟩
def Yx(ss:List SV)(l:List Nat):List SV:=List.rec [] (fun i _ ih=>(ss.drop (i*5)).take 5++ih) l
theorem Yy{ss:List SV}{N:Nat}(hs:ss.length=N*5):∀{l:List Nat},(∀i,i∈l→i<N)→(Yx ss l).length=l.length*5∧∀k j,k<l.length→j<5→(Yx ss l).getD (k*5+j) .top=ss.getD (l.getD k 0*5+j) .top
 |[],_=>⟨rfl,fun k j hk=>by cases hk⟩
 |a :: l,h=>by
  have⟨h1,h2⟩:=Yy hs (l:=l) fun i hi=>h i (List.mem_cons_of_mem _ hi);have ha:=h a xd5;have e:Yx ss (a :: l)=(ss.drop (a*5)).take 5++Yx ss l:=rfl;have l5:((ss.drop (a*5)).take 5).length=5:=by rw[xd9,List.length_drop,hs];omega
  rw[e];refine⟨by rw[xc8,l5,h1,xe4];omega,fun k j hk hj=>?_⟩;rw[xc6,xc6];cases k with
  |zero=>
   rw[xc9 (by rw[l5];omega),List.getElem?_take_of_lt Ω,List.getElem?_drop];show(ss[a*5+(0*5+j)]?).getD .top=(ss[a*5+j]?).getD .top;rw[Nat.zero_mul,xb0]
  |succ k=>
   rw[xd0 (by rw[l5];omega),l5,←xc6,show(k+1)*5+j - 5=k*5+j by omega,h2 k j (Nat.lt_of_succ_lt_succ hk) hj,xc6];rfl
def qmk(hp:Tr 6 XB)(A:SV)(f:Nat→List SV→R):R:=
 match A with
 |.vec tix m 1=>(match hp.find tix with
  |some (.rows 3 1 m2 ts)=>qj 533 (Nat.beq m2 m) (f m ts)
  |_=>.bad 542 0)
 |.arr _ _ m 1 row=>f m (List.ofFn fun(i:Fin m)=>row i.1 0)
 |_=>.bad 543 0
theorem qkd{hp:Tr 6 XB}{LM:Nat→Option Loop}{H:List (Nat×Blk)}(hH:HRel LM hp H){A:SV}{f:Nat→List SV→R}(h:qmk hp A f=.ok ρ):∃m ts,f m ts=.ok ρ∧ts.length=m∧((∃tix tr,A=.vec tix m 1∧blk H tix=some (.rows 3 1 m tr)∧∀i,i<m→tr i 0=ts.getD i .top)∨∃o full row,A=.arr o full m 1 row∧∀i,i<m→row i 0=ts.getD i .top):=by
 unfold qmk at h;split at h
 ·split at h
  ·rename_i m2 ts hf
   obtain⟨a,h⟩:=qe h;have a:=xa6 a;subst a;obtain⟨row,hb,l,g⟩:=hH.rows hf;exact⟨_,ts,h,Ω,.inl ⟨_,row,rfl,hb,fun i hi=>by rw[g i 0 hi Ω,Nat.mul_one,xb1]⟩⟩
  ·cases h
 ·rename_i o full m row
  exact⟨_,_,h,Ωg,.inr ⟨o,full,row,rfl,fun i hi=>by rw[xc6,List.getElem?_ofFn];simp[hi]⟩⟩
 ·cases h
def qhT(args:List SV)(hp:Tr 6 XB)(nid:Nat)(k:SV→Tr 6 XB→Nat→R):R:=
 match args with
 |[.ptr tb 0,.agg st]=>(match hp.find tb with
  |some (.cells 253 [A,.vec sid n' 5,.vec xid n 1,_,_])=>(match hp.find xid,hp.find sid with
   |some (.rows 22 1 n1 xs),some (.rows 140 5 n2 ss)=>qmk hp A fun m ts=>
    qj 530 (Nat.beq n' n) (qj 531 (Nat.beq n1 n) (qj 532 (Nat.beq n2 n) (qj 534 (Nat.ble n 1000) (qj 535 (Nat.ble m 5) (qj 536 (Nat.beq st.length 5)
     (Yu ts fun us=>Yu st fun sl=>stK us sl m (qcU ss (GD hp tb xs fun L=>qkb n L (qk (ixF (fun i=>((us.getD i 0:Nat):Int)) (fun i=>((sl.getD i 0:Nat):Int)) m).toNat fun i0=>qj 537 (Nat.ble (Nat.succ i0) n)
      (match JP (fun i=>L.getD i []) (n+1) (Go.Tn.setN (fun _=>0) i0 1) [i0] []with
       |none=>.bad 538 0
       |some l=>qka l fun l=>ltK n l (qk nid fun nid=>qk l.length fun c=>gk (Yx ss l) fun o=>qW (some (.rows 140 5 c o)) 22 hp nid fun hp=>qk (Nat.succ nid) fun n2=>k (.vec nid c 5) hp n2)))))))))))
   |_,_=>.bad 539 0)
  |_=>.bad 540 0)
 |_=>.bad 541 0
theorem qhU:yA Tryz.prog 262 qhT:=by
 intro ρ LM O args hp k st K hH h hk;unfold qhT at h;split at h
 ·rename_i tb sv
  split at h
  ·rename_i A sid n' xid n Rr M hft
   split at h
   ·rename_i n1 xs n2 ss hfx hfs
    obtain⟨m2,ts,h,tl,hthr⟩:=qkd hH h;obtain⟨a1,h⟩:=qe h;obtain⟨a2,h⟩:=qe h;obtain⟨a3,h⟩:=qe h;obtain⟨a5,h⟩:=qe h;obtain⟨a6,h⟩:=qe h;obtain⟨a7,h⟩:=qe h;obtain⟨us,h,u1,u2⟩:=Q1 h;obtain⟨sl,h,s1,s2⟩:=Q1 h;obtain⟨h,b1⟩:=qmj h;obtain⟨h,b5⟩:=GE h;obtain⟨L,h,b2,b3⟩:=yi h;obtain⟨h,b4⟩:=VY h;rw[qi]at h;obtain⟨a8,h⟩:=qe h;have e1:=xa6 a1;have e2:=xa6 a2;have e3:=xa6 a3;have hN:=xa7 a5;have hm:=xa7 a6;have h5:=xa6 a7;have hi0:=xa7 a8;subst e1 e2 e3;split at h
    ·cases h
    ·rename_i l hF
     rw[VX]at h;obtain⟨h,c1⟩:=VW h;rw[qi,qi,qQ]at h;obtain⟨hp1,p1,h⟩:=qz _ _ _ _ h;rw[qi]at h;obtain⟨rowx,hbx,lx,gx⟩:=hH.rows hfx;obtain⟨rows,hbs,ls,gs⟩:=hH.rows hfs;have hbt:=hH.cells hft;intro base okc ns r outs a w vs hI hlen hv;have keys:=hI.keys;have hmem:∀i,i<n2→L.getD i []∈L:=fun i hi=>by
      rw[xc6,xc7 Ω];exact List.getElem_mem _
     have hC:Go.Tn.Cl n2 (fun i=>L.getD i []) rowx st.hp st.nid tb xid A Rr M sid:=by
      refine⟨Ω,fun i hi=>(b4 _ (hmem i hi)).1,fun i hi=>(b4 _ (hmem i hi)).2,hbt,hbx,fun i hi=>?_,fun k x hx=>keys k x hx⟩;have gxi:=gx i 0 hi Ω;rw[Nat.mul_one,xb1]at gxi;rcases b3 i Ω with⟨c1,c2⟩|⟨xi,n,l,c1,c2,c3,c4,c5,c6⟩
      ·exact .inl ⟨c2,by rw[gxi,c1]⟩
      ·obtain⟨r,d1,d2,d3⟩:=hH.rows c4
       have el:(L.getD i []).length=n:=by omega
       refine .inr ⟨xi,r,by rw[gxi,c1,el],by rw[d1,el],fun j hj=>?_⟩;have hj:j<(L.getD i []).length:=hj;rw[d3 j 0 Ω Ω,Nat.mul_one,xb1];exact c6 j Ω
     have hst:sv=stL (fun i=>((sl.getD i 0:Nat):Int)):=by
      refine List.ext_getElem (by rw[h5];rfl) fun j h1 h2=>?_;have:=s2 j h1;rw[xc6,xc7 h1]at this;have h3:j<5:=by omega
      have h4:=VJ (s:=fun i=>((sl.getD i 0:Nat):Int)) h3;rw[xc7 h2]at h4;rw[Option.some.inj h4];exact this
     have hbb:=yY (u:=fun i=>((us.getD i 0:Nat):Int)) (s:=fun i=>((sl.getD i 0:Nat):Int)) (m:=m2) (fun i hi=>by have:=b1 i hi;omega) (xa5 m2);have hU:Under st.hp st.nid:=fun k x hx=>keys k x hx;have hu1:∀i,i<m2→(1:Int)≤((us.getD i 0:Nat):Int)∧((us.getD i 0:Nat):Int)≤12:=fun i hi=>by have:=b1 i hi;omega
     have hs1:∀i,i<m2→(0:Int)≤((sl.getD i 0:Nat):Int)∧((sl.getD i 0:Nat):Int)≤((us.getD i 0:Nat):Int):=fun i hi=>by have:=b1 i hi;omega
     have E:=qoD n2 _ rowx st.hp st.nid tb xid sid A Rr M (fun i=>((sl.getD i 0:Nat):Int)) rows (ixF (fun i=>((us.getD i 0:Nat):Int)) (fun i=>((sl.getD i 0:Nat):Int)) m2).toNat (n2+1) l hC Ω hbs
      (fun i hi j hj=>by
       rw[gs i j hi hj];exact b5 _ (by rw[ls];have:i*5+5≤n2*5:=Ω;omega)) (by
      rcases hthr with⟨tix,tr,rfl,t1,t2⟩|⟨o,full,row,rfl,t2⟩
      ·exact qoE hU hbt t1 (fun i hi=>(t2 i hi).trans (u2 i Ω)) hm hu1 hs1 (by rw[Int.toNat_of_nonneg hbb.1])
      ·exact qoF hU hbt (fun i hi=>(t2 i hi).trans (u2 i Ω)) hm hu1 hs1 (by rw[Int.toNat_of_nonneg hbb.1])) Ω hF
     rw[←hst]at E;refine GB (E O st.fr) (fun st' sv hself hq=>?_) base okc ns r outs a w vs hI hlen hv;obtain⟨fr',hp',nid'⟩:=st';obtain⟨q0,q1,oid,rr,z1,z2,q3,q4,q5⟩:=hq;simp only[]at q0 q1 q4;subst q0 q4 q5;have hl5:=Yy (N:=n2) (by rw[ls]) (l:=l) c1;refine⟨oid,(st.nid,.rows 140 5 l.length rr) :: st.hp,.vec st.nid l.length 5,st.nid+1,rfl,z1,fun id y hy=>?_,?_,xc4 _,hk _ hp1 _ _ (fun id b hb=>?_) h⟩
     ·simp only[blk]at hy
      split at hy
      ·rename_i e
       cases hy;refine⟨.inr ⟨e,by simp[blk],xa5 _⟩,rfl,rfl,xa5 _,fun i j hi hj=>?_⟩;have hli:l.getD i 0<n2:=c1 _ (by rw[xc6,xc7 hi];exact List.getElem_mem _);rw[q3 i hi j hj,gs _ j hli hj];obtain⟨x,hx⟩:=b5 (l.getD i 0*5+j) (by rw[ls];omega);rw[hx];simp[Wk]
      ·have hlt:=keys id y hy
       refine⟨.inl ⟨hlt,?_⟩,hself _ _ _ (xc4 _) _ _ hy⟩;simp only[blk];rw[if_neg Ω];exact hy
     ·unfold Wk
      refine⟨Ω,?_,rfl,rfl⟩;simp[ren]
     ·rw[p1 id]at hb
      simp only[blk];by_cases e:id=st.nid
      ·rw[if_pos e]at hb ⊢
       cases hb;refine⟨_,rfl,rfl,rfl,rfl,hl5.1,fun i j hi hj=>?_⟩;have hli:l.getD i 0<n2:=c1 _ (by rw[xc6,xc7 hi];exact List.getElem_mem _);rw[hl5.2 i j hi hj,q3 i hi j hj,gs _ j hli hj]
      ·rw[if_neg e]at hb ⊢
       exact hH id b hb
   ·cases h
  ·cases h
 ·cases h
end
end Go.Sx
end
section
namespace Go.Sx
open Go.RowKit
section
variable{P:Program}
def gu(row:Nat→Nat→SV)(i0 j0 m:Nat):Nat→Nat→SV:=fun x j=>if i0≤x∧x<i0+m then row (j0+(x - i0)) j else row x j
theorem qeG{base:World}{okc:Nat→Prop}{r:Nat→Option Nat}{N:Nat→Prop}{hp:List (Nat×Blk)}{w:World}(h:Sat base okc r N hp w){t ty e:TypeId}{i:TypeInfo}(ht:P.underlying t=some (.slice e))(hi:P.info? e=some i){k:Nat}(hk:i.size=k)(hpos:0<k)
  {id i0 j0 m n':Nat} {row:Nat→Nat→SV} {u v:Value} (hu:Rep r N (Gd base okc r N hp w) w (.vec id i0 k) u) (hv:Rep r N (Gd base okc r N hp w) w (.que id j0 m k) v) (hblk:blk hp id=some (.rows e k n' row)) (hi0:i0+m≤n') (hj0:j0+m≤n') (h9:oneRows m k fun x j=>row (j0+x) j) :
  ∃z w',(Builtin.append_ #[t,t] ty #[u,v]).run P w=.ok z w'∧Step base okc r N hp w r N (setBlk hp id (.rows e k n' (gu row i0 j0 m))) w'∧Rep r N (Gd base okc r N (setBlk hp id (.rows e k n' (gu row i0 j0 m))) w') w' (.vec id (i0+m) k) z:=by
 have hN:N id:=by cases hu<;>assumption
 have hrep:=h.rep _ _ hblk hN;obtain⟨a2,c2,hv2⟩:∃a2 c2,v=.slice a2 m c2:=by cases hv<;>exact⟨_,_,rfl⟩
 by_cases hm0:m=0
 ·subst hm0
  have hst:Step base okc r N hp w r N (setBlk hp id (.rows e k n' (gu row i0 j0 0))) w:=h.same hblk fun G' hG' _=>by
   cases hr:r id with
   |none=>
    rw[hr]at hrep;cases hrep with
    |none _ _ _=>exact .none _ _ _
   |some b=>
    rw[hr]at hrep;cases hrep with
    |rows _ _ _ _ _ cs hb' hl hes=>
     refine .rows _ _ _ _ b cs hb' hl fun x j hx hj=>?_;have e:gu row i0 j0 0 x j=row x j:=by unfold gu;rw[if_neg Ω]
     rw[e];exact(hes x j hx hj).mono (fun _ _=>rfl) (fun _ h=>h) (fun o c hc=>⟨hG' o c hc,rfl⟩) (Shapes.refl w)
  obtain⟨a1,c1,hu1,hle⟩:∃a1 c1,u=.slice a1 i0 c1∧i0≤c1:=by cases hu<;>exact⟨_,_,rfl,Ω⟩
  have hrun:=kR (P:=P) (w:=w) t ty e i ht hi a1 a2 i0 c1 c2 hle;rw[←hu1,←hv2]at hrun;exact⟨_,_,hrun,hst,hst.rep hu⟩
 ·cases hu with
  |vecNil _ _ _ hrn=>
   rw[hrn]at hrep;cases hrep with
   |none _ _ _=>omega
  |vec _ _ _ b cap cs tt _ hrn hb hcs hcap hmx=>
   rw[hrn]at hrep;cases hrep with
   |rows _ _ _ _ _ cs' hb' hl hes=>
    rw[hb]at hb';simp only[Option.some.injEq,Obj.cells.injEq,and_true]at hb';obtain⟨rfl,rfl⟩:=hb';have hnc:n'≤cap:=by
     rw[hcs]at hl;exact Nat.le_of_mul_le_mul_right hl hpos
    cases hv with
    |queNil _ _ _ a hN'=>exact absurd rfl hm0
    |que _ _ _ _ b2 j6 cs2 t2 _ hr2 hb2 _ hcap2 _=>
    rw[hrn]at hr2;cases hr2;obtain⟨f2,hf2⟩:∃f2:Nat→Nat→Value,f2=fun x j=>cs.getD ((j0+x)*k+j) undef:=⟨_,rfl⟩;have hc2:∀x j,x<m→j<k→w.cell? ⟨b,j0*k+(x*k+j),none⟩=some (f2 x j):=fun x j hx hj=>by
     have:=zu (Ω:j0+x<n') hj;rw[←xb2,←Nat.add_mul,hf2];exact zC hb _ Ω
    have hrp2:∀x j,x<m→j<k→Rep r N (Gd base okc r N hp w) w (row (j0+x) j) (f2 x j):=fun x j hx hj=>by
     rw[hf2];exact hes _ _ Ω hj
    have hfit:i0*i.size+(qx f2 m k).length≤cs.size:=by rw[qq,hk,hcs,←Nat.add_mul];exact xa8 _ Ω
    have hrun:=run_append_room (P:=P) w t ty tt i ht hi b i0 cap cs hb ⟨b,j0*k,none⟩ m j6 (qx f2 m k) (by rw[qq,hk]) (gA hc2 hpos) (wa hrp2 h9 hpos) Ω hfit;have hsz:(cs.toList.take (i0*i.size)++qx f2 m k++cs.toList.drop (i0*i.size+(qx f2 m k).length)).toArray.size=cs.size:=by
     simp only[List.size_toArray,xc8,xd9,List.length_drop,xf7];omega
    have hsh:=kG (w:=w) hb hsz;have hb3:=setRow_heap w b cs (cs.toList.take (i0*i.size)++qx f2 m k++cs.toList.drop (i0*i.size+(qx f2 m k).length)).toArray tt _ hb;have hst:Step base okc r N hp w r N (setBlk hp id (.rows tt k n' (gu row i0 j0 m))) (w.setRow b (cs.toList.take (i0*i.size)++qx f2 m k++cs.toList.drop (i0*i.size+(qx f2 m k).length)).toArray):=
     h.upd hblk hN hrn (.rows tt k n' (gu row i0 j0 m)) (k9 h.below (h.own _ _ _ hblk hN hrn) _) hsh ΩR (fun c hc=>qX w b _ hc) fun G' hG'=>by
      refine .rows _ _ _ _ b _ hb3 (by rw[hsz];exact hl) fun x j hx hj=>?_;have hcell:((cs.toList.take (i0*i.size)++qx f2 m k++cs.toList.drop (i0*i.size+(qx f2 m k).length)).toArray).getD (x*k+j) undef=if i0≤x∧x<i0+m then f2 (x - i0) j else cs.getD (x*k+j) undef:=by
       have hnl:i0*k≤cs.size:=by rw[hcs];exact xa8 _ Ω
       have hxs:x*k+j<cs.size:=by have:=zu hx hj;omega
       simp only[xf5,xe2,hk];have hmin:min (i0*k) cs.toList.length=i0*k:=by simp;omega
       by_cases hxn:x<i0
       ·have:=zu hxn hj
        rw[if_neg Ω,List.append_assoc,xc9 Ωl,List.getElem?_take_of_lt this];simp
       ·have hle:i0*k≤x*k:=xa8 _ Ω
        by_cases hxm:x<i0+m
        ·have hlt:=zu (Ω:x - i0<m) hj
         rw[Nat.sub_mul]at hlt;rw[if_pos Ω,xc9 Ωz,xd0 Ω6,xd9,hmin];have e:x*k+j - i0*k=(x - i0)*k+j:=by rw[Nat.sub_mul];omega
         rw[e,kH _ _ _ _ _ Ω hj];rfl
        ·have hle2:(i0+m)*k≤x*k:=xa8 _ Ω
         rw[Nat.add_mul]at hle2;rw[if_neg Ω,xd0 Ωz,xc8,xd9,qq,hmin,List.getElem?_drop];rw[show i0*k+m*k+(x*k+j -(i0*k+m*k))=x*k+j by omega];simp
      rw[hcell];unfold gu;by_cases hxn:i0≤x∧x<i0+m
      ·rw[if_pos hxn,if_pos hxn];exact(hrp2 _ j Ω hj).mono (fun _ _=>rfl) (fun _ h=>h) (fun o c hc=>⟨hG' o c hc,qX w b _ fun e=>hc.2.1 id _ hblk hN (by rw[e];exact hrn)⟩) hsh
      ·rw[if_neg hxn,if_neg hxn];exact(hes x j Ω hj).mono (fun _ _=>rfl) (fun _ h=>h) (fun o c hc=>⟨hG' o c hc,qX w b _ fun e=>hc.2.1 id _ hblk hN (by rw[e];exact hrn)⟩) hsh
    exact⟨_,_,hrun,hst,.vec _ _ _ b cap _ tt hN hrn hb3 (hsz.trans hcs) Ω hmx⟩
theorem qke{O:Ctx}{t:TypeId}{x y:Operand}{id i0 j0 n' m k:Nat}{e:TypeId}{row:Nat→Nat→SV}{st:St}{K:St→SV→Prop}{ag:Bool}{sz:Nat}{z0:Option (List Value)}
  (ht:qn P t=some ⟨ag,sz,z0,.slice e k⟩) (hpos:0<k)
  (hx:env (look st.fr) x=.vec id i0 k) (hy:env (look st.fr) y=.que id j0 m k) (hb:blk st.hp id=some (.rows e k n' row)) (hi0:i0+m≤n') (hj0:j0+m≤n') (h9:oneRows m k fun x j=>row (j0+x) j)
  (hA:K ⟨st.fr,setBlk st.hp id (.rows e k n' (gu row i0 j0 m)),st.nid⟩ (.vec id (i0+m) k)):OpVC P O (.call ⟨.builtin .append,#[x,y],#[t,t]⟩) st K:=by
 intro base okc ns r outs a w o ho hi;obtain⟨hts,i,hi',hk⟩:=zA ht;have hu:=hi.env x;rw[hx]at hu;have hv:=hi.env y;rw[hy]at hv;generalize hex:a.eval x=u at hu;generalize hey:a.eval y=v at hv;obtain⟨v',w',hrun,hst,hrep⟩:=qeG (ty:=o.type) hi.sat hts hi' hk hpos hu hv hb hi0 hj0 h9;have e0:execOp a.eval o=(do pure (.value (←Builtin.append_ #[t,t] o.type #[u,v]))):=by
  obtain⟨dst,op,type,pos,aft,guard⟩:=o;simp only[]at ho;subst ho;simp[execOp,Go.resolve,Go.invoke,Go.builtin,hex,hey]
 have erun:(execOp a.eval o).run P w=.ok (.value v') w':=by
  rw[e0];simp only[Sem.run_bind,hrun,Result.andThen_ok,Sem.run_pure]
 refine⟨v',w',erun,_,r,_,hA,xa5 _,?_,hrep⟩;have hkey:∀(j:Nat)(z:Blk),blk (setBlk st.hp id (.rows e k n' (gu row i0 j0 m))) j=some z→j<st.nid:=fun j z hz=>by
  rw[qp]at hz;split at hz
  ·rename_i e;subst e;exact hi.keys _ _ hb
  ·exact hi.keys j z hz
 have:=hi.step hst hkey (xa5 _) (d:=none) (fun t ht=>by cases ht) (.val undef);exact this
theorem qbh{O:Ctx}{t:TypeId}{x lo hi:Operand}{id n n' l h k:Nat}{kl kh:IntKind}{e:TypeId}{row:Nat→Nat→SV}{st:St}{K:St→SV→Prop}{ag:Bool}{sz:Nat}{z0:Option (List Value)}
  (ht:qn P t=some ⟨ag,sz,z0,.slice e k⟩) (hpos:0<k)
  (hx:env (look st.fr) x=.vec id n k) (hlo:env (look st.fr) lo=.val (.int kl (l:Nat))) (hhi:env (look st.fr) hi=.val (.int kh (h:Nat))) (hb:blk st.hp id=some (.rows e k n' row)) (hlh:l≤h) (hh:h≤n')
  (hA:K st (.que id l (h - l) k)):OpVC P O (.slice t x (some lo) (some hi) none) st K:=by
 intro base okc ns r outs a w o ho hI;obtain⟨hts,i,hi',hk⟩:=zA ht;have hu:=hI.env x;rw[hx]at hu;have hv:=hI.env lo;rw[hlo]at hv;have hv2:=hI.env hi;rw[hhi]at hv2;generalize hex:a.eval x=u at hu;generalize hey:a.eval lo=v at hv;generalize hez:a.eval hi=v2 at hv2;cases hv;cases hv2;have e0:execOp a.eval o=(do pure (.value (←Instr.sliceAt t u (some (.int kl (l:Nat))) (some (.int kh (h:Nat))) none))):=by
  obtain⟨dst,op,type,pos,aft,guard⟩:=o;simp only[]at ho;subst ho;simp[execOp,hex,hey,hez]
 have hN:id<st.nid:=by cases hu<;>assumption
 have hrep:=hI.sat.rep _ _ hb hN;have fin:∀v',(Instr.sliceAt t u (some (.int kl (l:Nat))) (some (.int kh (h:Nat))) none).run P w=.ok v' w→Rep r (· < st.nid) (Gd base okc r (· < st.nid) st.hp w) w (.que id l (h - l) k) v'→_:=fun v' hrun hr=>
  (⟨v',w,by rw[e0];simp only[Sem.run_bind,hrun,Result.andThen_ok,Sem.run_pure],st,r,_,hA,xa5 _,hI,hr⟩:∃v w',(execOp a.eval o).run P w=.ok (.value v) w'∧∃st' r' res,K st' res∧st.nid≤st'.nid∧InvR O base okc ns st'.nid r' outs st' a w'∧Rep r' (· < st'.nid) (Gd base okc r' (· < st'.nid) st'.hp w') w' res v)
 cases hu with
 |vecNil _ _ _ hrn=>
  rw[hrn]at hrep;cases hrep with
  |none _ _ _=>
   obtain rfl:h=0:=by omega
   obtain rfl:l=0:=by omega
   refine fin _ (zi hts hi' (qV true 0 0 0 0 0 (.inr ⟨kl,rfl⟩) (.inr ⟨kh,rfl⟩) (.inl ⟨rfl,rfl⟩) (xa5 _) (xa5 _) (xa5 _))) ?_;exact .queNil _ _ _ _ hN
 |vec _ _ _ b cap cs tt _ hrn hbb hcs hcap hmx=>
  rw[hrn]at hrep;cases hrep with
  |rows _ _ _ _ _ cs' hb' hl hes=>
   rw[hbb]at hb';simp only[Option.some.injEq,Obj.cells.injEq,and_true]at hb';obtain⟨rfl,rfl⟩:=hb';have hnc:n'≤cap:=by
    rw[hcs]at hl;exact Nat.le_of_mul_le_mul_right hl hpos
   refine fin _ (zi hts hi' (qV true n cap l h cap (.inr ⟨kl,rfl⟩) (.inr ⟨kh,rfl⟩) (.inl ⟨rfl,rfl⟩) hlh Ω (xa5 _))) ?_;by_cases e:cap=l
   ·rw[if_pos e]
    rw[show h - l=0 by omega,show cap - l=0 by omega];exact .queNil _ _ _ _ hN
   ·rw[if_neg e]
    simp only[xg1,qM,xb0];rw[hk];exact .que _ _ _ _ b (cap - l) cs tt hN hrn hbb (by rw[hcs];congr 1;omega) Ω Ω
end
end Go.Sx
end
section
namespace Go.Tn
open Go.Proofs
open Go.Sx
def pc(m:Nat):Nat:=(m.testBit 0).toNat+(m.testBit 1).toNat+(m.testBit 2).toNat+(m.testBit 3).toNat+(m.testBit 4).toNat+(m.testBit 5).toNat+(m.testBit 6).toNat+(m.testBit 7).toNat
theorem qnE(H:List (Nat×Blk))(id oid n nn i j:Nat)(row:Nat→Nat→SV)(hn:n≤100000)(hnn:n≤nn)(hij:i<j)(hj:j≤n)(hb:blk H oid=some (.rows 3 1 nn row))(hid:oid<id)(hone:∀x,x<n→∃v:Int,row x 0=.val (.int .i64 v)) :
  EffVC Tryz.prog 186 [.vec oid n 1,.val (.int .i64 (i:Nat)),.val (.int .i64 (j:Nat))] H id (fun hp' nid' res=>nid'=id+60∧res=.vec oid (n -(j - i)) 1∧∃r,(∀x,x<nn→r x 0=if n -(j - i)≤x∧x<n then .val (.int .i64 0)else gu row i j (n - j) x 0)∧hp'=setBlk H oid (.rows 3 1 nn r)):=by
 refine vC (zJ [(5,[(0,0)]),(6,[(0,0)])]) follows Tryz.func186 rfl Ωc Ωc (by rw[Tryz.ntmps186];simp) fun out=>?_;have NB:=(nmA hid:_∧_);have hne:=decide_eq_false (Ω:¬((i:Nat):Int)=(j:Nat));(repeat' (first|refine sD ?_ ?_<;>intro _|refine aAe ?_|(simp -dsimp only[↓RP,RQ,xa0,reduceIte,reduceCtorEq,xa1,xa2,xa3,xa4,hne,hb,↓RY,NB,QS,QT,qL,QN])))
 all_goals try exact Ωb
 have hvf:zU ((j:Nat):Int) ((n:Nat):Int) oid 1=.que oid j (n - j) 1:=by
  unfold zU;rw[if_neg Ω,show(((n:Nat):Int) -(j:Nat)).toNat=n - j by omega];rfl
 have hvt:zU 0 ((i:Nat):Int) oid 1=.vec oid i 1:=by unfold zU;rw[if_pos rfl];rfl
 have hd1:n -(j - i)=i+(n - j):=by omega
 have hone2:oneRows (n - j) 1 fun x y=>row (j+x) y:=fun x y hx hy=>by
  obtain rfl:y=0:=by omega
  obtain⟨v,hv⟩:=hone (j+x) Ω;show oneCell (row (j+x) 0)=true;rw[hv];rfl
 refine yV follows (fun m st=>∃s0 hp,(m.testBit 6=false→hp=H)∧(m.testBit 6=true→hp=setBlk H oid (.rows 3 1 nn (gu row i j (n - j))))∧(m.testBit 7=false→s0=.vec oid n 1)∧(m.testBit 7=true→s0=.vec oid (i+(n - j)) 1)∧
  st=⟨[(0,s0),(1,.val (.int .i64 (i:Nat))),(2,.val (.int .i64 (j:Nat))),(7,.val (.int .i64 (n:Nat))),(20,up (m.testBit 0) (.vec oid n 1)),(21,up (m.testBit 1) (.val (.int .i64 (i:Nat)))),(22,up (m.testBit 2) (.vec oid i 1)),(23,up (m.testBit 3) (.vec oid n 1)),(24,up (m.testBit 4) (.val (.int .i64 (j:Nat)))),(25,up (m.testBit 5) (.que oid j (n - j) 1)),(26,up (m.testBit 6) (.vec oid (i+(n - j)) 1))],hp,id+13+pc m⟩) (ms:=[0,0,3,0,0,24,63,127]) Ωc Ωc (vQ (fr':=[(0,.vec oid n 1),(1,.val (.int .i64 (i:Nat))),(2,.val (.int .i64 (j:Nat))),(7,.val (.int .i64 (n:Nat))),(20,.top),(21,.top),(22,.top),(23,.top),(24,.top),(25,.top),(26,.top)]) Ωf (SubHp.refl H)) ⟨_,_,fun _=>rfl,fun h=>(by simp at h),fun _=>rfl,fun h=>(by simp at h),by simp[pc,Go.Sx.up]⟩ (zT ?_<|zT ?_<|zT ?_<|zT ?_<|zT ?_<|zT ?_<|zT ?_<|zT ?_<|qau) ?_
 ·rintro m st ⟨s0,hp,g1,g2,g3,g4,rfl⟩ hcl hbit hd
  refine⟨_,Weak.refl _ _,?_⟩;unfold opH;rw[zm];simp only[hbit,qR,qG];have h7:m.testBit 7=false:=by
   cases h:m.testBit 7 with
   |false=>rfl
   |true=>have:=hcl 7 0 Ωu h;rw[hbit]at this;cases this
  rw[g3 h7];refine .inl ?_;(repeat' (first|refine sD ?_ ?_<;>intro _|refine aAe ?_|(simp -dsimp only[↓RP,RQ,xa0,reduceIte,reduceCtorEq,xa1,xa2,xa3,xa4,hvf,hvt,↓RY,NB,QS,QT,qL,QN])))
  all_goals try exact Ωb
  refine⟨_,Weak.refl _ _,.vec oid n 1,hp,fun h=>g1 Ωo,fun h=>g2 Ωo,fun h=>rfl,fun h=>(by rw[tb,h7]at h;simp at h),?_⟩;have hpc:pc (m ||| 2^0)=pc m+1:=by unfold pc;simp only[tb,xa2,Nat.succ_ne_self,Nat.zero_ne_one,Nat.one_ne_zero,decide_false,decide_true,xf3,Bool.or_true,xf4,qR,qG,reduceCtorEq,hbit,Bool.toNat_true,Bool.toNat_false]<;>omega
  rw[hpc];simp only[tb,xa2,Nat.succ_ne_self,Nat.zero_ne_one,Nat.one_ne_zero,decide_false,decide_true,xf3,Bool.or_true,xf4,qR,qG,reduceCtorEq,hbit,xb2]
 ·rintro m st ⟨s0,hp,g1,g2,g3,g4,rfl⟩ hcl hbit hd
  refine⟨_,Weak.refl _ _,?_⟩;unfold opH;rw[zm];simp only[hbit,qR,qG];refine .inl ?_;(repeat' (first|refine sD ?_ ?_<;>intro _|refine aAe ?_|(simp -dsimp only[↓RP,RQ,xa0,reduceIte,reduceCtorEq,xa1,xa2,xa3,xa4,hvf,hvt,↓RY,NB,QS,QT,qL,QN])))
  all_goals try exact Ωb
  refine⟨_,Weak.refl _ _,s0,hp,fun h=>g1 Ωo,fun h=>g2 Ωo,fun h=>g3 Ωo,fun h=>g4 Ωo,?_⟩;have hpc:pc (m ||| 2^1)=pc m+1:=by unfold pc;simp only[tb,xa2,Nat.succ_ne_self,Nat.zero_ne_one,Nat.one_ne_zero,decide_false,decide_true,xf3,Bool.or_true,xf4,qR,qG,reduceCtorEq,hbit,Bool.toNat_true,Bool.toNat_false]<;>omega
  rw[hpc];simp only[tb,xa2,Nat.succ_ne_self,Nat.zero_ne_one,Nat.one_ne_zero,decide_false,decide_true,xf3,Bool.or_true,xf4,qR,qG,reduceCtorEq,hbit,xb2]
 ·rintro m st ⟨s0,hp,g1,g2,g3,g4,rfl⟩ hcl hbit hd
  have q0:=hd 0 Ωu Ωu;have q1:=hd 1 Ωu Ωu;refine⟨_,Weak.refl _ _,?_⟩;unfold opH;rw[zm];simp only[q0,q1,hbit,qR,qG];refine .inl ?_;(repeat' (first|refine sD ?_ ?_<;>intro _|refine aAe ?_|(simp -dsimp only[↓RP,RQ,xa0,reduceIte,reduceCtorEq,xa1,xa2,xa3,xa4,hvf,hvt,↓RY,NB,QS,QT,qL,QN])))
  all_goals try exact Ωb
  refine⟨_,Weak.refl _ _,s0,hp,fun h=>g1 Ωo,fun h=>g2 Ωo,fun h=>g3 Ωo,fun h=>g4 Ωo,?_⟩;have hpc:pc (m ||| 2^2)=pc m+1:=by unfold pc;simp only[tb,xa2,Nat.succ_ne_self,Nat.zero_ne_one,Nat.one_ne_zero,decide_false,decide_true,xf3,Bool.or_true,xf4,qR,qG,reduceCtorEq,q0,q1,hbit,Bool.toNat_true,Bool.toNat_false]<;>omega
  rw[hpc];simp only[tb,xa2,Nat.succ_ne_self,Nat.zero_ne_one,Nat.one_ne_zero,decide_false,decide_true,xf3,Bool.or_true,xf4,qR,qG,reduceCtorEq,q0,q1,hbit,xb2]
 ·rintro m st ⟨s0,hp,g1,g2,g3,g4,rfl⟩ hcl hbit hd
  refine⟨_,Weak.refl _ _,?_⟩;unfold opH;rw[zm];simp only[hbit,qR,qG];have h7:m.testBit 7=false:=by
   cases h:m.testBit 7 with
   |false=>rfl
   |true=>have:=hcl 7 3 Ωu h;rw[hbit]at this;cases this
  rw[g3 h7];refine .inl ?_;(repeat' (first|refine sD ?_ ?_<;>intro _|refine aAe ?_|(simp -dsimp only[↓RP,RQ,xa0,reduceIte,reduceCtorEq,xa1,xa2,xa3,xa4,hvf,hvt,↓RY,NB,QS,QT,qL,QN])))
  all_goals try exact Ωb
  refine⟨_,Weak.refl _ _,.vec oid n 1,hp,fun h=>g1 Ωo,fun h=>g2 Ωo,fun h=>rfl,fun h=>(by rw[tb,h7]at h;simp at h),?_⟩;have hpc:pc (m ||| 2^3)=pc m+1:=by unfold pc;simp only[tb,xa2,Nat.succ_ne_self,Nat.zero_ne_one,Nat.one_ne_zero,decide_false,decide_true,xf3,Bool.or_true,xf4,qR,qG,reduceCtorEq,hbit,Bool.toNat_true,Bool.toNat_false]<;>omega
  rw[hpc];simp only[tb,xa2,Nat.succ_ne_self,Nat.zero_ne_one,Nat.one_ne_zero,decide_false,decide_true,xf3,Bool.or_true,xf4,qR,qG,reduceCtorEq,hbit,xb2]
 ·rintro m st ⟨s0,hp,g1,g2,g3,g4,rfl⟩ hcl hbit hd
  refine⟨_,Weak.refl _ _,?_⟩;unfold opH;rw[zm];simp only[hbit,qR,qG];refine .inl ?_;(repeat' (first|refine sD ?_ ?_<;>intro _|refine aAe ?_|(simp -dsimp only[↓RP,RQ,xa0,reduceIte,reduceCtorEq,xa1,xa2,xa3,xa4,hvf,hvt,↓RY,NB,QS,QT,qL,QN])))
  all_goals try exact Ωb
  refine⟨_,Weak.refl _ _,s0,hp,fun h=>g1 Ωo,fun h=>g2 Ωo,fun h=>g3 Ωo,fun h=>g4 Ωo,?_⟩;have hpc:pc (m ||| 2^4)=pc m+1:=by unfold pc;simp only[tb,xa2,Nat.succ_ne_self,Nat.zero_ne_one,Nat.one_ne_zero,decide_false,decide_true,xf3,Bool.or_true,xf4,qR,qG,reduceCtorEq,hbit,Bool.toNat_true,Bool.toNat_false]<;>omega
  rw[hpc];simp only[tb,xa2,Nat.succ_ne_self,Nat.zero_ne_one,Nat.one_ne_zero,decide_false,decide_true,xf3,Bool.or_true,xf4,qR,qG,reduceCtorEq,hbit,xb2]
 ·rintro m st ⟨s0,hp,g1,g2,g3,g4,rfl⟩ hcl hbit hd
  have q3:=hd 3 Ωu Ωu;have q4:=hd 4 Ωu Ωu;refine⟨_,Weak.refl _ _,?_⟩;unfold opH;rw[zm];simp only[q3,q4,hbit,qR,qG];refine .inl ?_;(repeat' (first|refine sD ?_ ?_<;>intro _|refine aAe ?_|(simp -dsimp only[↓RP,RQ,xa0,reduceIte,reduceCtorEq,xa1,xa2,xa3,xa4,hvf,hvt,↓RY,NB,QS,QT,qL,QN])))
  all_goals try exact Ωb
  refine⟨_,Weak.refl _ _,s0,hp,fun h=>g1 Ωo,fun h=>g2 Ωo,fun h=>g3 Ωo,fun h=>g4 Ωo,?_⟩;have hpc:pc (m ||| 2^5)=pc m+1:=by unfold pc;simp only[tb,xa2,Nat.succ_ne_self,Nat.zero_ne_one,Nat.one_ne_zero,decide_false,decide_true,xf3,Bool.or_true,xf4,qR,qG,reduceCtorEq,q3,q4,hbit,Bool.toNat_true,Bool.toNat_false]<;>omega
  rw[hpc];simp only[tb,xa2,Nat.succ_ne_self,Nat.zero_ne_one,Nat.one_ne_zero,decide_false,decide_true,xf3,Bool.or_true,xf4,qR,qG,reduceCtorEq,q3,q4,hbit,xb2]
 ·rintro m st ⟨s0,hp,g1,g2,g3,g4,rfl⟩ hcl hbit hd
  have q2:=hd 2 Ωu Ωu;have q5:=hd 5 Ωu Ωu;refine⟨_,Weak.refl _ _,?_⟩;unfold opH;rw[zm];simp only[q2,q5,hbit,qR,qG];rw[g1 hbit];refine .inr ⟨rfl,.inl (qke (id:=oid) (i0:=i) (j0:=j) (n':=nn) (m:=n - j) (k:=1) (e:=3) (row:=row) Yd Ω rfl rfl hb Ω Ω hone2 ?_)⟩;refine⟨_,yW _ _ (id+13+(pc m+1)) (by simp only[St.putI];omega),s0,setBlk H oid (.rows 3 1 nn (gu row i j (n - j))),fun h=>(by rw[tb]at h;simp at h),fun h=>rfl,fun h=>g3 Ωo,fun h=>g4 Ωo,?_⟩;have hpc:pc (m ||| 2^6)=pc m+1:=by unfold pc;simp only[tb,xa2,Nat.succ_ne_self,Nat.zero_ne_one,Nat.one_ne_zero,decide_false,decide_true,xf3,Bool.or_true,xf4,qR,qG,reduceCtorEq,q2,q5,hbit,Bool.toNat_true,Bool.toNat_false]<;>omega
  rw[show pc (m ||| 2^(0+1+1+1+1+1+1))=pc m+1 from hpc];simp only[xa1,tb,xa2,Nat.succ_ne_self,Nat.zero_ne_one,Nat.one_ne_zero,decide_false,decide_true,xf3,Bool.or_true,xf4,qR,qG,reduceCtorEq,q2,q5,hbit,xb2];simp[St.putI,putIn]
 ·rintro m st ⟨s0,hp,g1,g2,g3,g4,rfl⟩ hcl hbit hd
  have q6:=hd 6 Ωu Ωu;refine⟨_,Weak.refl _ _,?_⟩;unfold opH;rw[zm];simp only[q6,hbit,qR,qG];refine .inl ?_;(repeat' (first|refine sD ?_ ?_<;>intro _|refine aAe ?_|(simp -dsimp only[↓RP,RQ,xa0,reduceIte,reduceCtorEq,xa1,xa2,xa3,xa4,hvf,hvt,↓RY,NB,QS,QT,qL,QN])))
  all_goals try exact Ωb
  refine⟨_,Weak.refl _ _,.vec oid (i+(n - j)) 1,hp,fun h=>g1 Ωo,fun h=>g2 Ωo,fun h=>(by rw[tb]at h;simp at h),fun h=>rfl,?_⟩;have hpc:pc (m ||| 2^7)=pc m+1:=by unfold pc;simp only[tb,xa2,Nat.succ_ne_self,Nat.zero_ne_one,Nat.one_ne_zero,decide_false,decide_true,xf3,Bool.or_true,xf4,qR,qG,reduceCtorEq,q6,hbit,Bool.toNat_true,Bool.toNat_false]<;>omega
  rw[hpc];simp only[tb,xa2,Nat.succ_ne_self,Nat.zero_ne_one,Nat.one_ne_zero,decide_false,decide_true,xf3,Bool.or_true,xf4,qR,qG,reduceCtorEq,q6,hbit,xb2]
 ·rintro m st' ⟨s0,hp,g1,g2,g3,g4,rfl⟩ hall
  have h7:=hall 7 Ωu;have h6:=hall 6 Ωu;rw[g2 h6,g4 h7];refine⟨_,Weak.refl _ _,?_⟩;have hpc:pc m=8:=by unfold pc;simp only[hall 0 Ωu,hall 1 Ωu,hall 2 Ωu,hall 3 Ωu,hall 4 Ωu,hall 5 Ωu,h6,h7];rfl
  rw[hpc];simp only[hall 0 Ωu,hall 1 Ωu,hall 2 Ωu,hall 3 Ωu,hall 4 Ωu,hall 5 Ωu,h6,h7,qR];have eH:∀b,blk (setBlk H oid b) oid=some b:=fun b=>qcq hb;(repeat' (first|refine sD ?_ ?_<;>intro _|refine aAe ?_|(simp -dsimp only[↓RP,RQ,xa0,reduceIte,reduceCtorEq,xa1,xa2,xa3,xa4,eH,↓RY,NB,QS,QT,qL,QN])))
  all_goals try exact Ωb
  refine Zj (qA ?_);(repeat' (first|refine sD ?_ ?_<;>intro _|refine aAe ?_|(simp -dsimp only[↓RP,RQ,xa0,reduceIte,reduceCtorEq,xa1,xa2,xa3,xa4,eH,↓RY,NB,QS,QT,qL,QN])));refine qA ?_;(repeat' (first|refine sD ?_ ?_<;>intro _|refine aAe ?_|(simp -dsimp only[↓RP,RQ,xa0,reduceIte,reduceCtorEq,xa1,xa2,xa3,xa4,eH,↓RY,NB,QS,QT,qL,QN])));refine qA ?_;(repeat' (first|refine sD ?_ ?_<;>intro _|refine aAe ?_|(simp -dsimp only[↓RP,RQ,xa0,reduceIte,reduceCtorEq,xa1,xa2,xa3,xa4,eH,↓RY,NB,QS,QT,qL,QN])));refine qA ?_;(repeat' (first|refine sD ?_ ?_<;>intro _|refine aAe ?_|(simp -dsimp only[↓RP,RQ,xa0,reduceIte,reduceCtorEq,xa1,xa2,xa3,xa4,eH,↓RY,NB,QS,QT,qL,QN])));refine gH rfl (qbh (id:=oid) (n:=i+(n - j)) (n':=nn) (l:=i+(n - j)) (h:=n) (k:=1) (e:=3) (row:=gu row i j (n - j)) (kl:=.i64) (kh:=.i64) Yd Ω rfl Ωae Ωae (eH _) Ω hnn ?_);refine qA ?_;(repeat' (first|refine sD ?_ ?_<;>intro _|refine aAe ?_|(simp -dsimp only[↓RP,RQ,xa0,reduceIte,reduceCtorEq,xa1,xa2,xa3,xa4,gj,eH,Ka,↓RY,NB,QS,QT,qL,QN])))
  all_goals try exact Ωb
  refine⟨⟨Ω,rfl⟩,?_⟩;refine⟨_,_,_,weakSU (nid':=id+60) Ω (fr':=[(0,_)]) ⟨.inr rfl,trivial⟩ (SubHp.refl _),rfl,by rw[hd1];rfl,_,fun x hx=>?_,rfl⟩;rw[hd1];have e2:i+(n - j)+(n -(i+(n - j)))=n:=by omega
  have e3:(i+(n - j+(n -(i+(n - j)))))=n:=by omega
  simp only[e2,e3]
end Go.Tn
end
section
namespace Go.Tn
open Go.Proofs
open Go.Sx
theorem qeH{P:Program}{O:Ctx}{op:Op}{st st2:St}{K:St→SV→Prop}(hw:Weak O st st2)(hn:st.nid≤st2.nid)(h:OpVC P O op st2 K):OpVC P O op st K:=by
 intro base okc ns r outs a w o ho hi;obtain⟨r',hi'⟩:=hw _ _ _ _ _ _ ⟨r,hi⟩;obtain⟨v,w',h1,st',r2,res,h2,h3,h4⟩:=h base okc ns r' outs a w o ho hi';exact⟨v,w',h1,st',r2,res,h2,xc1 hn h3,h4⟩
theorem u3:Tryz.prog.underlying 3=some (.int .i64):=by kernel_rfl
theorem qcW{P:Program}{O:Ctx}{t:TypeId}{x:Operand}{e:TypeId}{st:St}{K:St→SV→Prop}(ht:P.underlying t=some (.slice e))(hx:env (Go.Sx.look st.fr) x=.val (.slice none 0 0))(h:K st (.val (.int .i64 0))):OpVC P O (.call ⟨.builtin .cap,#[x],#[t]⟩) st K:=by
 intro base okc ns r outs a w o ho hi;have hu:=hi.env x;rw[hx]at hu;generalize hex:a.eval x=u at hu;cases hu;refine⟨.int .i64 0,w,?_,st,r,_,h,xa5 _,hi,.val _⟩;obtain⟨dst,op,type,pos,aft,guard⟩:=o;simp only[]at ho;subst ho;simp[execOp,Go.resolve,Go.invoke,Go.builtin,hex,Builtin.cap_,run_underlying ht,goInt]
theorem qoG(H:List (Nat×Blk))(id m:Nat)(hm:1≤m)(hm2:m≤100000)(hU:Under H id) :
  EffVC Tryz.prog 394 [.val (.slice none 0 0),.val (.int .i64 (m:Nat))] H id (fun hp' nid' res=>nid'=id+60∧∃oid r,id≤oid∧oid<nid'∧hp'=(oid,.rows 3 1 m r) :: H∧res=.vec oid 0 1):=by
 refine vC (zJ [(3,[(0,0)]),(5,[(0,0)])]) follows Tryz.func394 rfl Ωc Ωc (by rw[Tryz.ntmps394];simp) fun out=>?_;have NB:True:=trivial;have h0:=decide_eq_false (Ω:¬((m:Nat):Int)<0);have h1:=decide_eq_true (Ω:(0:Int)<((m:Nat):Int));(repeat' (first|refine sD ?_ ?_<;>intro _|refine aAf ?_|(simp -dsimp only[↓RP,RQ,xa0,reduceIte,reduceCtorEq,xa1,xa2,xa3,xa4,h0,↓RY,NB,QS,QT,qL,QN])))
 all_goals try exact Ωb
 refine Zj (qA ?_);(repeat' (first|refine sD ?_ ?_<;>intro _|refine aAf ?_|(simp -dsimp only[↓RP,RQ,xa0,reduceIte,reduceCtorEq,xa1,xa2,xa3,xa4,↓RY,NB,QS,QT,qL,QN])));refine qA ?_;(repeat' (first|refine sD ?_ ?_<;>intro _|refine aAf ?_|(simp -dsimp only[↓RP,RQ,xa0,reduceIte,reduceCtorEq,xa1,xa2,xa3,xa4,↓RY,NB,QS,QT,qL,QN])));refine gH rfl (qcW (zA Yd).1 Ωae ?_);refine qA ?_;(repeat' (first|refine sD ?_ ?_<;>intro _|refine aAf ?_|(simp -dsimp only[↓RP,RQ,xa0,reduceIte,reduceCtorEq,xa1,xa2,xa3,xa4,↓RY,NB,QS,QT,qL,QN])));refine qA ?_;(repeat' (first|refine sD ?_ ?_<;>intro _|refine aAf ?_|(simp -dsimp only[↓RP,RQ,xa0,reduceIte,reduceCtorEq,xa1,xa2,xa3,xa4,↓RY,NB,QS,QT,qL,QN])));refine qA ?_;(repeat' (first|refine sD ?_ ?_<;>intro _|refine aAf ?_|(simp -dsimp only[↓RP,RQ,xa0,reduceIte,reduceCtorEq,xa1,xa2,xa3,xa4,↓RY,NB,QS,QT,qL,QN])));refine qA ?_;(repeat' (first|refine sD ?_ ?_<;>intro _|refine aAf ?_|(simp -dsimp only[↓RP,RQ,xa0,reduceIte,reduceCtorEq,xa1,xa2,xa3,xa4,↓RY,NB,QS,QT,qL,QN])));refine qA ?_;(repeat' (first|refine sD ?_ ?_<;>intro _|refine aAf ?_|(simp -dsimp only[↓RP,RQ,xa0,reduceIte,reduceCtorEq,xa1,xa2,xa3,xa4,gj,h1,↓RY,NB,QS,QT,qL,QN])))
 all_goals try exact Ωb
 refine Zj (qA ?_);(repeat' (first|refine sD ?_ ?_<;>intro _|refine aAf ?_|(simp -dsimp only[↓RP,RQ,xa0,reduceIte,reduceCtorEq,xa1,xa2,xa3,xa4,↓RY,NB,QS,QT,qL,QN])));refine qA ?_;(repeat' (first|refine sD ?_ ?_<;>intro _|refine aAf ?_|(simp -dsimp only[↓RP,RQ,xa0,reduceIte,reduceCtorEq,xa1,xa2,xa3,xa4,↓RY,NB,QS,QT,qL,QN])));refine gH rfl (qcW (zA Yd).1 Ωae ?_);refine qA ?_;(repeat' (first|refine sD ?_ ?_<;>intro _|refine aAf ?_|(simp -dsimp only[↓RP,RQ,xa0,reduceIte,reduceCtorEq,xa1,xa2,xa3,xa4,↓RY,NB,QS,QT,qL,QN])));refine qA ?_;(repeat' (first|refine sD ?_ ?_<;>intro _|refine aAf ?_|(simp -dsimp only[↓RP,RQ,xa0,reduceIte,reduceCtorEq,xa1,xa2,xa3,xa4,↓RY,NB,QS,QT,qL,QN])));refine gH rfl (qeH (V0 (t:=3) (k:=1) (d:=20) (fun _ _=>.top) (by simp[Go.Sx.look,putIn])) (xc4 _) (qga (id:=id+16) (row:=fun _ _=>.top) (n':=0) (n:=0) (m:=m) (kn:=.i64) (kq:=.i64) Yd ty3 ?hu3 ?hx ?hy ?hb (xa5 _) Ω (by rw[by3];omega) ?hid ?_))
 case hu3=>exact u3
 case hx=>simp[env,Go.Sx.look,putFr]
 case hy=>simp[env,Go.Sx.look,putFr,putIn]
 case hb=>simp[blk]
 case hid=>simp
 have hdr:dropBlk H (id+16)=H:=zn (hU.none Ω);have hvt:∀k,zU 0 0 k 1=.vec k 0 1:=fun k=>by unfold zU;rw[if_pos rfl];rfl
 have hlt:(id+16:Nat)<id+17:=by omega
 simp only[dropBlk,if_true,hdr];refine qA ?_;(repeat' (first|refine sD ?_ ?_<;>intro _|refine aAf ?_|(simp -dsimp only[↓RP,RQ,xa0,reduceIte,reduceCtorEq,xa1,xa2,xa3,xa4,hvt,↓RY,NB,QS,QT,qL,QN])));refine qA ?_;(repeat' (first|refine sD ?_ ?_<;>intro _|refine aAf ?_|(simp -dsimp only[↓RP,RQ,xa0,reduceIte,reduceCtorEq,xa1,xa2,xa3,xa4,hvt,↓RY,NB,QS,QT,qL,QN])));refine qA ?_;(repeat' (first|refine sD ?_ ?_<;>intro _|refine aAf ?_|(simp -dsimp only[↓RP,RQ,xa0,reduceIte,reduceCtorEq,xa1,xa2,xa3,xa4,hvt,↓RY,NB,QS,QT,qL,QN])));refine qA ?_;(repeat' (first|refine sD ?_ ?_<;>intro _|refine aAf ?_|(simp -dsimp only[↓RP,RQ,xa0,reduceIte,reduceCtorEq,xa1,xa2,xa3,xa4,gj,hvt,↓RY,NB,QS,QT,qL,QN])))
 all_goals try exact Ωb
 exact⟨_,_,_,weakSU (nid':=id+60) Ω (fr':=[(0,_)]) ⟨.inr rfl,trivial⟩ (SubHp.refl _),rfl,id+17,_,Ω,Ω,rfl,rfl⟩
def gv(L:Nat→List Int):Nat→List Int
 |0=>[]
 |k+1=>gv L k++L k
theorem kF(L:Nat→List Int)(k:Nat):gv L (k+1)=gv L k++L k:=rfl
theorem qcX(L:Nat→List Int){k n:Nat}(h:k≤n):(gv L k).length≤(gv L n).length:=by
 induction n with
 |zero=>obtain rfl:k=0:=by omega
        exact xa5 _
 |succ n ih=>
  by_cases e:k=n+1
  ·subst e;exact xa5 _
  ·have:=ih Ω;rw[kF,xc8];omega
def lls(n:Nat)(L:Nat→List Int):SV:=.arr false false n 1 (fun i _=>.arr false false (L i).length 1 (fun j _=>.val (.int .i64 ((L i).getD j 0))))
theorem qnF(n:Nat)(L:Nat→List Int)(hn:n≤10000)(h1:1≤(gv L n).length)(h2:(gv L n).length≤100000):zp Tryz.prog 359 [lls n L] (.rows 3 1 (gv L n).length (fun x _=>.val (.int .i64 ((gv L n).getD x 0)))) (.vec 0 (gv L n).length 1):=by
 refine jj Tryz.func359 rfl Ωc follows Ωc _ _ _ (by rw[Tryz.ntmps359];simp) (by simp[OldL,Old,lls]) ?_;unfold lls;(repeat' (first|refine sD ?_ ?_<;>intro _|refine aA ?_|(simp -dsimp only[↓RP,RQ,xa0,reduceIte,reduceCtorEq,xa1,xa2,xa3,xa4,kF,QT,QN])))
 all_goals try exact Ωb
 refine qo (fun(k:Nat)=>k≤n) (fun k=>⟨[(0,.arr false false n 1 (fun i _=>.arr false false (L i).length 1 (fun j _=>.val (.int .i64 ((L i).getD j 0))))),(3,.val (.int .i64 ((gv L k).length:Nat))),(9,.arr false false n 1 (fun i _=>.arr false false (L i).length 1 (fun j _=>.val (.int .i64 ((L i).getD j 0))))),(10,.val (.int .i64 (n:Nat))),(11,.val (.int .i64 (k:Nat)))],[],10+20*k⟩) (fun k=>n - k) 0 (xb6 _) (weakSU Ωg (by simp[zo,Go.Sx.look,gv]) (SubHp.refl _)) fun k hk=>?_;by_cases hkn:k<n
 ·have hlt:=decide_eq_true (Ω:((k:Nat):Int)<(n:Nat))
  have hle:=qcX L (k:=k+1) hkn;rw[kF,xc8]at hle;have hnn:=decide_eq_false (show ¬(((gv L k).length:Nat):Int)+((L k).length:Nat)<0 by omega);(repeat' (first|refine sD ?_ ?_<;>intro _|refine aA ?_|(simp -dsimp only[↓RP,RQ,xa0,reduceIte,reduceCtorEq,xa1,xa2,xa3,xa4,hlt,hnn,kF,QT,QN])))
  all_goals try exact Ωb
  refine⟨k+1,hkn,Ω,weakSU Ω (by simp[zo,Go.Sx.look,kF]) (SubHp.refl _)⟩
 ·obtain rfl:n=k:=by omega
  have hlt:=decide_eq_false (Ω:¬((n:Nat):Int)<(n:Nat));(repeat' (first|refine sD ?_ ?_<;>intro _|refine aA ?_|(simp -dsimp only[↓RP,RQ,xa0,reduceIte,reduceCtorEq,xa1,xa2,xa3,xa4,hlt,kF,QT,QN])))
  all_goals try exact Ωb
  refine jd Ωx (qoG [] _ (gv L n).length h1 h2 Under.nil) fun hp' nid' res hQ=>?_;obtain⟨rfl,oid,r0,q1,q2,rfl,rfl⟩:=hQ;(repeat' (first|refine sD ?_ ?_<;>intro _|refine aA ?_|(simp -dsimp only[↓RP,RQ,xa0,reduceIte,reduceCtorEq,xa1,xa2,xa3,xa4,kF,QT,QN])))
  all_goals try exact Ωb
  refine qo (fun(z:Nat×Nat×(Nat→Nat→SV))=>z.1≤n∧z.2.1<100+20*n+20*z.1∧∀x,x<(gv L z.1).length→z.2.2 x 0=.val (.int .i64 ((gv L z.1).getD x 0))) (fun z=>⟨[(0,.arr false false n 1 (fun i _=>.arr false false (L i).length 1 (fun j _=>.val (.int .i64 ((L i).getD j 0))))),(6,.vec z.2.1 (gv L z.1).length 1),(25,.arr false false n 1 (fun i _=>.arr false false (L i).length 1 (fun j _=>.val (.int .i64 ((L i).getD j 0))))),(26,.val (.int .i64 (n:Nat))),(27,.val (.int .i64 (z.1:Nat)))],[(z.2.1,.rows 3 1 (gv L z.1).length z.2.2)],100+20*n+20*z.1⟩) (fun z=>n - z.1) (0,oid,r0) ⟨xb6 _,Ωe,fun x hx=>(by simp[gv]at hx)⟩ (weak [] [] ?hw1 ?hw2 ?hw3 rfl) fun z hz=>?_
  case hw1=>(simp -dsimp only[↓RP,RQ,xa0,reduceIte,reduceCtorEq,xa1,xa2,xa3,xa4,gv]);all_goals (try simp[gv]);omega
  case hw2=>(simp -dsimp only[↓RP,RQ,xa0,reduceIte,reduceCtorEq,xa1,xa2,xa3,xa4,gv]);all_goals (try simp[gv]);omega
  case hw3=>(simp -dsimp only[↓RP,RQ,xa0,reduceIte,reduceCtorEq,xa1,xa2,xa3,xa4]);all_goals (try simp)
  obtain⟨k,oid1,r⟩:=z;obtain⟨z1,z2,z3⟩:=hz;dsimp only at z1 z2 z3;dsimp only;by_cases hkn:k<n
  ·have hlt:=decide_eq_true (Ω:((k:Nat):Int)<(n:Nat))
   have hle:=qcX L (k:=k+1) hkn;rw[kF,xc8]at hle;(repeat' (first|refine sD ?_ ?_<;>intro _|refine aA ?_|(simp -dsimp only[↓RP,RQ,xa0,reduceIte,reduceCtorEq,xa1,xa2,xa3,xa4,hlt,kF,QT,QN])))
   all_goals try exact Ωb
   refine⟨⟨⟨.inr trivial,xa5 _,Ω⟩,Ω⟩,by simp only[InK];omega,(k+1,100+20*n+20*k+1+3+2,_),⟨Ωe,Ωe,fun x hx=>?_⟩,Ωe,weakSU Ωe (by simp[zo,Go.Sx.look,kF]) (by dsimp only;rw[kF,xc8];exact SubHp.refl _)⟩;dsimp only at hx ⊢;rw[kF,xc8]at hx;rw[kF];by_cases e:x<(gv L k).length
   ·rw[if_pos e,z3 x e,xc6,xc6,xc9 e]
   ·rw[if_neg e,xc6,xc6,xd0 Ω]
  ·obtain rfl:n=k:=by omega
   have hlt:=decide_eq_false (Ω:¬((n:Nat):Int)<(n:Nat));(repeat' (first|refine sD ?_ ?_<;>intro _|refine aA ?_|(simp -dsimp only[↓RP,RQ,xa0,reduceIte,reduceCtorEq,xa1,xa2,xa3,xa4,hlt,kF,QT,QN])))
   all_goals try exact Ωb
   refine⟨oid1,_,by simp[blk];rfl,?_,?_⟩
   ·simp only[SubB,true_and]
    exact⟨xa5 _,fun i j hi hj=>by
      obtain rfl:j=0:=by omega
      rw[z3 i hi];simp[Go.Sx.Sub]⟩
   ·simp[SubO]
end Go.Tn
end
section
namespace Go.Sx
open Go.Proofs
open Go.RowKit Go.Tn
noncomputable section
variable{ρ:Q}
theorem qhV{P:Program}{O:Ctx}{g:FuncId}{args pats:List SV}{b:Blk}{res:SV}{st:St}{K:St→SV→Prop}(hc:zp P g pats b res)(hs:NewOk st.hp pats args b res)(hk:K ⟨st.fr,(st.nid,b) :: st.hp,st.nid+1⟩ (setId st.nid res)):kK P O g args st K:=by
 intro base okc ns r outs a w vs hI hl ha;have hrun:(callFunc g vs).run P w=.ok (.enter g vs) w:=by
  obtain⟨⟨fn,hf,hname,hbody⟩,_⟩:=hc;have:fn.body.isNone=false:=by cases hb:fn.body<;>simp_all
  simp only[callFunc,Sem.run_bind,run_program,Result.andThen_ok,hf,hname,xe7,if_false,this,Sem.run_pure]
 refine⟨hrun,?_⟩;have := Jh (o := ⟨some 0, .move (.const undef), 0, "", #[], none⟩) (a := { a with tmps := #[undef] }) (Q := fun _ _ _ => False) hI.sat hl ha hc hs (id := st.nid) (xb4 _) (hp2 := (st.nid, b) :: st.hp) ΩY (fun j hj => by simp only [blk]; rw [if_neg (Nat.ne_of_lt hj)])
  (K:=fun a' w'=>∃st' r' res,K st' res∧st.nid≤st'.nid∧InvR O base okc ns st'.nid r' outs st' a w'∧Rep r' (· < st'.nid) (Gd base okc r' (· < st'.nid) st'.hp w') w' res (a'.tmps.getD 0 undef)) (fun v w' r' hst hrep=>by
   rw[gN]at hst hrep;have h2:=(hI.step hst (fun i x hx=>by
    simp only[blk]at hx;split at hx
    ·rename_i e;rw[e];exact xb5 _
    ·exact Nat.lt_succ_of_lt (hI.keys i x hx)) (xc4 _) (d:=none) (fun t ht=>by cases ht) (.val undef)).nid (st.nid+1)
   exact⟨⟨st.fr,(st.nid,b) :: st.hp,st.nid+1⟩,r',_,hk,xc4 _,h2,by simpa[Act.put]using hrep⟩)
 rw[hrun,Oper.upon_enter]at this;refine this.mono fun e w' h=>?_;cases e with
 |returned v=>
  obtain⟨st',r',res',h1,h2,h3,h4⟩:=h;exact⟨v,st',r',res',rfl,h1,h2,h3,by simpa[Act.put]using h4⟩
 |panicked c=>exact h.elim
 |outgrown=>obtain⟨_,_,h⟩:=h;exact h.elim
theorem Yz{H:List (Nat×Blk)}{x:SV}{obl:Prop}{n k:Nat}{row p:Nat→Nat→SV}(h:rowsOf H x=some (obl,n,k,row))(ho:obl)(hs:∀i j,i<n→j<k→Go.Sx.Sub H (p i j) (row i j)):Go.Sx.Sub H (.arr false false n k p) x:=by
 unfold rowsOf at h;split at h
 ·cases h
  unfold Go.Sx.Sub;refine⟨fun h=>absurd h Ωg,fun h=>absurd h Ωg,rfl,rfl,hs⟩
 ·split at h
  ·rename_i hb
   cases h;obtain⟨h1,rfl⟩:=ho;simp only[Go.Sx.Sub,hb];exact⟨trivial,trivial,trivial,h1,trivial,hs⟩
  ·cases h
 ·split at h
  ·rename_i hb
   cases h;obtain⟨h1,rfl⟩:=ho;simp only[Go.Sx.Sub,hb];exact⟨trivial,trivial,h1,trivial,hs⟩
  ·cases h
 ·split at h
  ·rename_i hb
   cases h;simp only[Go.Sx.Sub,hb];exact⟨trivial,trivial,trivial,ho,hs⟩
  ·cases h
 ·split at h
  ·rename_i hn
   cases h;simp only[Go.Sx.Sub];exact⟨hn,trivial⟩
  ·cases h
 ·cases h
def qml(args:List SV)(hp:Tr 6 XB)(nid:Nat)(k:SV→Tr 6 XB→Nat→R):R:=
 match args with
 |[.vec id n 1,.val (.int .i64 (.ofNat i)),.val (.int .i64 (.ofNat j))]=>(match hp.find id with
  |some (.rows 3 1 nn l)=>qj 560 (Nat.ble (Nat.succ i) j) (qj 561 (Nat.ble j n) (qj 562 (Nat.ble n nn) (qj 563 (Nat.ble n 1000) (qcU l (qk (n -(j - i)) fun m=>gk (l.take i++(l.take n).drop j++List.replicate (j - i) (SV.val (.int .i64 (.ofNat 0)))++l.drop n) fun l=>qW (some (.rows 3 1 nn l)) 22 hp id fun hp=>k (.vec id m 1) hp nid)))))
  |_=>.bad 564 0)
 |_=>.bad 565 0
theorem qkf{l:List SV}{i j n nn x:Nat}(hl:l.length=nn)(hij:i<j)(hj:j≤n)(hn:n≤nn)(hx:x<nn):(l.take i++(l.take n).drop j++List.replicate (j - i) (SV.val (.int .i64 (.ofNat 0)))++l.drop n).getD x .top=if n -(j - i)≤x∧x<n then .val (.int .i64 0)else if i≤x∧x<i+(n - j)then l.getD (j+(x - i)) .top else l.getD x .top:=by
 have l1:(l.take i).length=i:=by rw[xd9];omega
 have l2:((l.take n).drop j).length=n - j:=by rw[List.length_drop,xd9];omega
 have l3:(l.take i++(l.take n).drop j).length=n -(j - i):=by rw[xc8,l1,l2];omega
 have l4:(l.take i++(l.take n).drop j++List.replicate (j - i) (SV.val (.int .i64 (.ofNat 0)))).length=n:=by rw[xc8,l3,xd8];omega
 simp only[xc6];by_cases c1:n≤x
 ·rw[xd0 Ω,l4,List.getElem?_drop,if_neg Ω,if_neg Ω,show n+(x - n)=x by omega]
 ·rw[xc9 Ω]
  by_cases c2:n -(j - i)≤x
  ·rw[if_pos ⟨c2,Ω⟩,xd0 Ω,l3,List.getElem?_replicate,if_pos Ω];rfl
  ·rw[if_neg Ω,xc9 Ω]
   by_cases c3:i≤x
   ·rw[if_pos ⟨c3,Ω⟩,xd0 Ω,l1,List.getElem?_drop,List.getElem?_take_of_lt Ω]
   ·rw[if_neg Ω,xc9 Ω,List.getElem?_take_of_lt Ω]
theorem qkg:yA Tryz.prog 186 qml:=by
 intro ρ LM O args hp k st K hH h hk;unfold qml at h;split at h
 ·rename_i oid n i j
  split at h
  ·rename_i nn l hf
   obtain⟨a1,h⟩:=qe h;obtain⟨a2,h⟩:=qe h;obtain⟨a3,h⟩:=qe h;obtain⟨a4,h⟩:=qe h;obtain⟨h,b1⟩:=GE h;rw[qi,qQ]at h;obtain⟨hp1,p1,h⟩:=qz _ _ _ _ h;have hij:i<j:=xa7 a1;have hj:=xa7 a2;have hn:=xa7 a3;have hN:=xa7 a4;obtain⟨row,hb,lr,gr⟩:=hH.rows hf;rw[Nat.mul_one]at lr;intro base okc ns r outs a w vs hI hlen hv;have keys:=hI.keys;have hrow:∀x,x<nn→row x 0=l.getD x .top:=fun x hx=>by
    have:=gr x 0 hx Ω
    rwa [Nat.mul_one,xb1]at this
   have E:=qnE st.hp st.nid oid n nn i j row Ω hn hij hj hb (keys _ _ hb) (fun x hx=>by rw[hrow x Ω];exact b1 x Ω);refine GB (E O st.fr) (fun st' sv hself hq=>?_) base okc ns r outs a w vs hI hlen hv;obtain⟨fr',hp',nid'⟩:=st';obtain⟨q0,q1,q2,rr,q3,q4⟩:=hq;simp only[]at q0 q1 q2 q4;subst q0 q1 q2 q4;have hval:∀x,x<nn→rr x 0=(l.take i++(l.take n).drop j++List.replicate (j - i) (SV.val (.int .i64 (.ofNat 0)))++l.drop n).getD x .top:=fun x hx=>by
    rw[q3 x hx,qkf lr hij hj hn hx];by_cases c:n -(j - i)≤x∧x<n
    ·rw[if_pos c,if_pos c]
    ·rw[if_neg c,if_neg c]
     unfold gu;by_cases c2:i≤x∧x<i+(n - j)
     ·rw[if_pos c2,if_pos c2,hrow _ Ω]
     ·rw[if_neg c2,if_neg c2,hrow _ hx]
   refine⟨st.nid,setBlk st.hp oid (.rows 3 1 nn rr),.vec oid (n -(j - i)) 1,st.nid,rfl,xa5 _,fun id x hx=>?_,?_,xa5 _,hk _ hp1 _ _ (fun id b hbb=>?_) h⟩
   ·have hx':=hx
    rw[qp]at hx;split at hx
    ·rename_i e
     subst e;rw[hb]at hx;cases hx;refine⟨.inl ⟨keys _ _ hb,hx'⟩,rfl,rfl,xa5 _,fun y z hy hz=>?_⟩;obtain rfl:z=0:=by omega
     rw[q3 y hy];split
     ·simp[Wk]
     ·unfold gu
      split
      ·rw[hrow _ Ω]
       obtain⟨v,hv⟩:=b1 (j+(y - i)) Ω;rw[hv];simp[Wk]
      ·rw[hrow _ hy]
       obtain⟨v,hv⟩:=b1 y Ω;rw[hv];simp[Wk]
    ·exact⟨.inl ⟨keys _ _ hx,hx'⟩,hself _ _ _ (xa5 _) _ _ hx⟩
   ·unfold Wk
    have:=keys _ _ hb;refine⟨this,?_,rfl,rfl⟩;simp only[ren];rw[if_neg Ω]
   ·rw[p1 id]at hbb
    rw[qp];by_cases e:id=oid
    ·rw[if_pos e]at hbb ⊢
     cases hbb;rw[hb];refine⟨_,rfl,rfl,rfl,rfl,?_,fun y z hy hz=>?_⟩
     ·rw[xc8,xc8,xc8,xd9,List.length_drop,xd9,xd8,List.length_drop];omega
     ·obtain rfl:z=0:=by omega
      rw[Nat.mul_one,xb1];exact hval y hy
    ·rw[if_neg e]at hbb ⊢
     exact hH id b hbb
  ·cases h
 ·cases h
def qcY(l:List SV)(f:List Int→R):R:=(List.rec (motive:=fun _=>(List Int→R)→R) (fun f=>f []) (fun a _ ih f=>match a with
 |.val (.int .i64 x)=>WO x fun x=>ih fun l=>f (x :: l)
 |_=>.bad 570 0) l) f
theorem YA:∀{l:List SV}{f:List Int→R},qcY l f=.ok ρ→∃m,f m=.ok ρ∧m.length=l.length∧∀j,j<l.length→l.getD j .top=.val (.int .i64 (m.getD j 0))
 |[],f,h=>⟨[],h,rfl,fun j hj=>by cases hj⟩
 |a :: l,f,h=>by
  have h:(match (generalizing:=false) a with
   |.val (.int .i64 x)=>WO x fun x=>qcY l fun l=>f (x :: l)
   |_=>.bad 570 0)=(.ok ρ:R):=h
  split at h
  ·rename_i x _
   rw[jl]at h;obtain⟨m,h1,h2,h3⟩:=YA h;refine⟨x :: m,h1,by simp[h2],fun j hj=>?_⟩;cases j with
   |zero=>rfl
   |succ j=>exact h3 j (Nat.lt_of_succ_lt_succ hj)
  ·cases h
def qbi(hp:Tr 6 XB)(l:List SV)(f:List (List Int)→R):R:=(List.rec (motive:=fun _=>(List (List Int)→R)→R) (fun f=>f []) (fun a _ ih f=>QE hp a fun _ k m=>qj 571 (Nat.beq k 1) (qcY m fun x=>ih fun l=>f (x :: l))) l) f
theorem JQ{hp:Tr 6 XB}{LM:Nat→Option Loop}{H:List (Nat×Blk)}(hH:HRel LM hp H):∀{l:List SV}{f:List (List Int)→R},qbi hp l f=.ok ρ→∃L,f L=.ok ρ∧L.length=l.length∧∀i,i<l.length→Go.Sx.Sub H (.arr false false (L.getD i []).length 1 (fun j _=>.val (.int .i64 ((L.getD i []).getD j 0)))) (l.getD i .top)
 |[],f,h=>⟨[],h,rfl,fun j hj=>by cases hj⟩
 |a :: l,f,h=>by
  have h:QE hp a (fun _ k m=>qj 571 (Nat.beq k 1) (qcY m fun x=>qbi hp l fun l=>f (x :: l)))=.ok ρ:=h;obtain⟨obl,n,k,row,m,h1,h2,h3,g1⟩:=j8 hH h;obtain⟨e0,g2⟩:=qe g1;have e:=xa6 e0;clear h g1 e0;subst e;obtain⟨x,h,h4,h5⟩:=YA g2;clear g2;obtain⟨L,h,h6,h7⟩:=JQ hH h;refine⟨x :: L,h,by simp[h6],fun i hi=>?_⟩;cases i with
  |zero=>
   show Go.Sx.Sub H (.arr false false x.length 1 (fun j _=>.val (.int .i64 (x.getD j 0)))) a;have hx:x.length=n:=by rw[h4,h3.1,Nat.mul_one]
   rw[hx];refine Yz h1 h2 fun y z hy hz=>?_;obtain rfl:z=0:=by omega
   have:=h3.2 y 0 hy Ω;rw[Nat.mul_one,xb1,h5 y Ω]at this;rw[this];simp[Go.Sx.Sub]
  |succ i=>exact h7 i (Nat.lt_of_succ_lt_succ hi)
theorem JR(L:List (List Int)):∀k,k≤L.length→gv (fun i=>L.getD i []) k=(L.take k).flatten
 |0,_=>rfl
 |k+1,h=>by
  rw[kF,JR L k Ω,List.take_succ_eq_append_getElem Ω,List.flatten_append,xc6,xc7 Ω];simp
def svI(l:List Int):List SV:=l.map fun n=>.val (.int .i64 n)
theorem qkh{l:List Int}{i:Nat}(h:i<l.length):(svI l).getD i .top=.val (.int .i64 (l.getD i 0)):=by
 unfold svI;rw[xc6,xc6,List.getElem?_map,xc7 h];rfl
def qmm(args:List SV)(hp:Tr 6 XB)(nid:Nat)(k:SV→Tr 6 XB→Nat→R):R:=
 match args with
 |[x]=>QE hp x fun n k1 l=>qj 572 (Nat.beq k1 1) (qj 573 (Nat.ble n 10000) (qbi hp l fun L=>yp (svI L.flatten) fun o=>qk o.length fun m=>qj 574 (Nat.ble 1 m) (qj 575 (Nat.ble m 100000) (qk nid fun nid=>qW (some (.rows 3 1 m o)) 22 hp nid fun hp=>qk (Nat.succ nid) fun n2=>k (.vec nid m 1) hp n2))))
 |_=>.bad 576 0
theorem qki:yA Tryz.prog 359 qmm:=by
 intro ρ LM O args hp k st K hH h hk;unfold qmm at h;split at h
 ·rename_i x
  obtain⟨obl,n,k1,row,l,h1,h2,h3,g1⟩:=j8 hH h;obtain⟨e0,g2⟩:=qe g1;obtain⟨a1,g3⟩:=qe g2;have e:=xa6 e0;clear h g1 g2 e0;subst e;obtain⟨L,h,h6,h7⟩:=JQ hH g3;clear g3;rw[kd,qi]at h;obtain⟨a2,h⟩:=qe h;obtain⟨a3,h⟩:=qe h;rw[qi]at h;obtain⟨hp1,p1,h⟩:=qz _ _ _ _ h;rw[qi]at h;have hn:=xa7 a1;have hm1:=xa7 a2;have hm2:=xa7 a3;have hLn:L.length=n:=by rw[h6,h3.1,Nat.mul_one]
  have hcat:gv (fun i=>L.getD i []) n=L.flatten:=by
   rw[JR L n Ω,←hLn,List.take_length]
  have hsl:(svI L.flatten).length=L.flatten.length:=by unfold svI;rw[xe1]
  have C:=qnF n (fun i=>L.getD i []) hn (by rw[hcat];omega) (by rw[hcat];omega);rw[hcat]at C;refine qhV C (.inl ⟨?_,by simp[FreshO],by simp[FreshB,Fresh]⟩) ?_
  ·simp only[SubL,and_true]
   exact Yz h1 h2 fun i j hi hj=>by
    obtain rfl:j=0:=by omega
    have:=h3.2 i 0 hi Ω;rw[Nat.mul_one,xb1]at this;rw[this];exact h7 i Ω
  ·rw[show setId st.nid (.vec 0 L.flatten.length 1)=.vec st.nid (svI L.flatten).length 1 by simp[setId,hsl]]
   refine hk _ hp1 _ _ (fun id b hb=>?_) h;rw[p1 id]at hb;simp only[blk];by_cases e:id=st.nid
   ·rw[if_pos e]at hb ⊢
    cases hb;refine⟨_,rfl,rfl,rfl,by rw[hsl],Ωg,fun i j hi hj=>?_⟩;obtain rfl:j=0:=by omega
    rw[Nat.mul_one,xb1,qkh Ω]
   ·rw[if_neg e]at hb ⊢
    exact hH id b hb
 ·cases h
end
end Go.Sx
end
section
namespace Go.Tn
open Go.Proofs
open Go.Sx
theorem TYR:True∧qn Tryz.prog 165=some ⟨false,1,some [.map none],.map 213 2⟩∧qy Tryz.prog 165=some ⟨true,[.i .i64,.i .i64],.int .i64 0⟩∧qn Tryz.prog 167=some ⟨true,16,some [.int .i64 0,.int .i64 0,.slice none 0 0,.slice none 0 0,.bool false,.int .i64 0,.int .i64 0,.int .i64 0,.int .i64 0,.map none,.int .i64 0,.int .i64 0,.int .i64 0,.int .i64 0,.int .i64 0,.int .i64 0],.struct [(0,8,some true),(8,1,some false),(9,1,some false),(10,6,some true)]⟩∧qB Tryz.prog 167=some [(0,8),(8,1),(9,1),(10,6)]∧qn Tryz.prog 213=some ⟨true,2,some [.int .i64 0,.int .i64 0],.struct [(0,1,some false),(1,1,some false)]⟩∧qB Tryz.prog 213=some [(0,1),(1,1)]∧z9 Tryz.prog 213=some [.i .i64,.i .i64]∧qn Tryz.prog 57=some ⟨true,6,some [.int .i64 0,.int .i64 0,.int .i64 0,.int .i64 0,.int .i64 0,.int .i64 0],.struct [(0,1,some false),(1,1,some false),(2,1,some false),(3,1,some false),(4,1,some false),(5,1,some false)]⟩∧qB Tryz.prog 57=some [(0,1),(1,1),(2,1),(3,1),(4,1),(5,1)]∧z9 Tryz.prog 57=some [.i .i64,.i .i64,.i .i64,.i .i64,.i .i64,.i .i64]∧qn Tryz.prog 160=some ⟨false,1,some [.pointer none],.other⟩∧qn Tryz.prog 402=some ⟨true,8,some [.int .i64 0,.int .i64 0,.int .i64 0,.int .i64 0,.int .i64 0,.int .i64 0,.int .i64 0,.int .i64 0],.array 8 2 1⟩∧qB Tryz.prog 402=some [(0,1),(1,1),(2,1),(3,1),(4,1),(5,1),(6,1),(7,1)]∧z9 Tryz.prog 402=some [.i .i64,.i .i64,.i .i64,.i .i64,.i .i64,.i .i64,.i .i64,.i .i64]∧qF Tryz.prog 3=8:=⟨trivial,Ωc,Ωc,Ωc,Ωc,Ωc,Ωc,Ωc,Ωc,Ωc,Ωc,Ωc,Ωc,Ωc,Ωc,Ωc⟩
def tlL(n:Int)(nb:Nat)(f q:Nat→Int)(fav:Bool)(c d st:Int)(fv:Int)(M:SV)(a0 a1 a2 a3 a4 a5:Int):List SV:=[.val (.int .i64 0),.val (.int .i64 n),qJ nb f (fun _=>-1) q,.val (.slice none 0 0),.val (.bool fav),.val (.int .i64 c),.val (.int .i64 d),.val (.int .i64 st),.val (.int .i64 fv),M,.val (.int .i64 a0),.val (.int .i64 a1),.val (.int .i64 a2),.val (.int .i64 a3),.val (.int .i64 a4),.val (.int .i64 a5)]
def tlR(n:Int)(nb:Nat)(f q:Nat→Int)(fav:Bool)(c d st:Int)(fv:Int)(M:SV)(a0 a1 a2 a3 a4 a5:Int):SV:=.ref false 16 (fun j=>(tlL n nb f q fav c d st fv M a0 a1 a2 a3 a4 a5).getD j .top)
theorem s16{j:Nat}(h:j<16):j=0∨j=1∨j=2∨j=3∨j=4∨j=5∨j=6∨j=7∨j=8∨j=9∨j=10∨j=11∨j=12∨j=13∨j=14∨j=15:=by omega
theorem qlk{P:SV→Prop}{n:Int}{nb:Nat}{f q:Nat→Int}{fav:Bool}{c d st:Int}{fv:Int}{M:SV}{a0 a1 a2 a3 a4 a5:Int}(hv:∀v,P (.val v))(hb:P (qJ nb f (fun _=>-1) q))(hM:P M):∀j,j<16→P ((tlL n nb f q fav c d st fv M a0 a1 a2 a3 a4 a5).getD j .top):=by
 intro j hj;rcases s16 hj with rfl|rfl|rfl|rfl|rfl|rfl|rfl|rfl|rfl|rfl|rfl|rfl|rfl|rfl|rfl|rfl<;>first|exact hb|exact hM|exact hv _
theorem qcZ{n:Int}{nb:Nat}{f q:Nat→Int}{fav:Bool}{c d st:Int}{fv:Int}{M:SV}{a0 a1 a2 a3 a4 a5:Int}(hM:Old M):Old (tlR n nb f q fav c d st fv M a0 a1 a2 a3 a4 a5):=by
 simp only[tlR,Old];exact⟨trivial,qlk (P:=Old) (fun v=>by simp[Old]) (zg _ _ _ _) hM⟩
theorem qnG(x:Int):qf Tryz.prog 169 [(.val (.slice none 0 0)),I x] (I (-1)):=by
 refine qg Tryz.func169 rfl Ωc follows Ωc _ _ (by rw[Tryz.ntmps169];simp) Ωh ?_;have NB:True:=trivial;unfold I;(repeat' (first|refine sD ?_ ?_<;>intro _|refine aAc ?_|(simp -dsimp only[↓RP,RQ,xa0,reduceIte,reduceCtorEq,xa1,xa2,xa3,xa4,TYQ,TYP,NB,QR,TYR,QT,QN])))
 all_goals try exact Ωb
 refine qo (fun(_:Unit)=>True) (fun _=>⟨[(0,(.val (.slice none 0 0))),(1,.val (.int .i64 x)),(7,.val (.int .i64 0)),(8,.val (.int .i64 0))],[],10⟩) (fun _=>0) () trivial (weakSU Ω Ωf (SubHp.refl _)) fun z hz=>?_;(repeat' (first|refine sD ?_ ?_<;>intro _|refine aAc ?_|(simp -dsimp only[↓RP,RQ,xa0,reduceIte,reduceCtorEq,xa1,xa2,xa3,xa4,TYQ,TYP,NB,QR,TYR,QT,QN])))
 all_goals try exact Ωb
theorem qoH(x:Int):qf Tryz.prog 79 [(.val (.slice none 0 0)),I x] (B false):=by
 refine qg Tryz.func79 rfl Ωc follows Ωc _ _ (by rw[Tryz.ntmps79];simp) Ωh ?_;have NB:True:=trivial;have h1:=qnG x;unfold I B;(repeat' (first|refine sD ?_ ?_<;>intro _|refine aAc ?_|(simp -dsimp only[↓RP,RQ,xa0,reduceIte,reduceCtorEq,xa1,xa2,xa3,xa4,TYQ,TYP,NB,QR,TYR,QT,QN])))
 all_goals try exact Ωb
 refine qm (h1) Ωd Ωa ?_;(repeat' (first|refine sD ?_ ?_<;>intro _|refine aAc ?_|(simp -dsimp only[↓RP,RQ,xa0,reduceIte,reduceCtorEq,xa1,xa2,xa3,xa4,QT,TYQ,TYP,NB,QR,TYR,QN])))
 all_goals try exact Ωb
 all_goals (refine vV ?_;simp)
theorem qhW(r:Int)(n:Int)(nb:Nat)(f q:Nat→Int)(fav:Bool)(c d st:Int)(fv:Int)(M:SV)(hM:Old M)(a0 a1 a2 a3 a4 a5:Int):qf Tryz.prog 256 [tlR n nb f q fav c d st fv M a0 a1 a2 a3 a4 a5,I r] (B false):=by
 refine qg Tryz.func256 rfl Ωc follows Ωc _ _ (by rw[Tryz.ntmps256];simp) ΩO ?_;have NB:True:=trivial;have h1:=qoH r;unfold I B
 conv=>arg 4;unfold tlR tlL
 (repeat' (first|refine sD ?_ ?_<;>intro _|refine aAc ?_|(simp -dsimp only[↓RP,RQ,xa0,reduceIte,reduceCtorEq,xa1,xa2,xa3,xa4,TYQ,TYP,NB,QR,TYR,QT,QN])))
 all_goals try exact Ωb
 refine qm (h1) Ωd Ωa ?_;(repeat' (first|refine sD ?_ ?_<;>intro _|refine aAc ?_|(simp -dsimp only[↓RP,RQ,xa0,reduceIte,reduceCtorEq,xa1,xa2,xa3,xa4,QT,TYQ,TYP,NB,QR,TYR,QN])))
 all_goals try exact Ωb
theorem qnH(n:Nat)(nb:Nat)(f q:Nat→Int)(fav:Bool)(c d st:Int)(fv:Int)(M:SV)(hM:Old M)(a0 a1 a2 a3 a4 a5:Int)(hn1:1≤n)(hn:n≤8):zp Tryz.prog 184 [tlR n nb f q fav c d st fv M a0 a1 a2 a3 a4 a5] (.rows 3 1 n (fun i _=>.val (.int .i64 (i:Nat)))) (.vec 0 n 1):=by
 refine jj Tryz.func184 rfl Ωc follows Ωc _ _ _ (by rw[Tryz.ntmps184];simp) ΩO ?_;have NB:True:=trivial;unfold tlR tlL;(repeat' (first|refine sD ?_ ?_<;>intro _|refine aAc ?_|(simp -dsimp only[↓RP,RQ,xa0,reduceIte,reduceCtorEq,xa1,xa2,xa3,xa4,TYQ,TYP,NB,QR,TYR,QT,QN])))
 all_goals try exact Ωb
 refine qo (fun(z:Nat×(Nat→Nat→SV))=>z.1≤n∧∀x,x<z.1→z.2 x 0=.val (.int .i64 (x:Nat))) (fun z=>⟨[(0,.ref false 16 (fun j=>(tlL n nb f q fav c d st fv M a0 a1 a2 a3 a4 a5).getD j .top)),(3,.vec (60+25*z.1) z.1 1),(9,.val (.int .i64 (n:Nat))),(10,.val (.int .i64 (z.1:Nat)))],[(60+25*z.1,.rows 3 1 z.1 z.2)],60+25*z.1+10⟩) (fun z=>n - z.1) (0,fun _ _=>.top) ⟨xb6 _,fun x hx=>(by simp only[]at hx;omega)⟩ (weak [(60,none)] [] ?hw1 ?hw2 ?hw3) fun z hz=>?_
 case hw1=>(simp -dsimp only[↓RP,RQ,xa0,reduceIte,reduceCtorEq,xa1,xa2,xa3,xa4,QV]);all_goals (try simp[QV]);all_goals exact qlk (P:=fun z=>Wk _ _ _ _ z z) (fun v=>by simp[Wk]) (wZ _ (zg _ _ _ _)) (wZ _ hM)
 case hw2=>(simp -dsimp only[↓RP,RQ,xa0,reduceIte,reduceCtorEq,xa1,xa2,xa3,xa4,QV]);all_goals (try simp[QV])
 case hw3=>(simp -dsimp only[↓RP,RQ,xa0,reduceIte,reduceCtorEq,xa1,xa2,xa3,xa4,QV]);all_goals (try simp[QV])
 obtain⟨w,r⟩:=z;obtain⟨hw,hr⟩:=hz;dsimp only at hw hr ⊢;by_cases hwm:w<n
 ·have hlt:=decide_eq_true (Ω:((w:Nat):Int)<(n:Nat))
  obtain⟨n1,hn1⟩:∃n1,n1=60+25*w:=⟨_,rfl⟩;rw[←hn1];have h1:=qhW w n nb f q fav c d st fv M hM a0 a1 a2 a3 a4 a5;(repeat' (first|refine sD ?_ ?_<;>intro _|refine aAc ?_|(simp -dsimp only[↓RP,RQ,xa0,reduceIte,reduceCtorEq,xa1,xa2,xa3,xa4,hlt,TYQ,TYP,NB,QR,TYR,QT,QN])))
  all_goals try exact Ωb
  refine qm (h1) ΩH Ωa ?_;(repeat' (first|refine sD ?_ ?_<;>intro _|refine aAc ?_|(simp -dsimp only[↓RP,RQ,xa0,reduceIte,reduceCtorEq,xa1,xa2,xa3,xa4,QT,TYQ,TYP,NB,QR,TYR,QN])))
  all_goals try exact Ωb
  refine⟨⟨xa5 _,.inr trivial,Ω⟩,by simp only[InK];omega,(w+1,fun i j=>if i<w then r i j else [SV.val (.int .i64 (w:Nat))].getD (i - w+j) .top),⟨hwm,fun x hx=>?_⟩,Ωe,weakSU Ωe ?hs1 ?hs2⟩
  case hs1=>dsimp only;rw[show 60+25*(w+1)=n1+25 by omega];simp[zo,Go.Sx.look]
  case hs2=>dsimp only;rw[show 60+25*(w+1)=n1+25 by omega];exact SubHp.cons (fun _ _ h=>by simp[blk]at h)
  dsimp only at hx ⊢;by_cases e:x<w
  ·rw[if_pos e];exact hr x e
  ·obtain rfl:x=w:=by omega
   rw[if_neg e];simp
 ·obtain rfl:n=w:=by omega
  have hlt:=decide_eq_false (Ω:¬((n:Nat):Int)<(n:Nat));(repeat' (first|refine sD ?_ ?_<;>intro _|refine aAc ?_|(simp -dsimp only[↓RP,RQ,xa0,reduceIte,reduceCtorEq,xa1,xa2,xa3,xa4,hlt,TYQ,TYP,NB,QR,TYR,QT,QN])))
  all_goals try exact Ωb
  refine⟨60+25*n,_,by simp[blk];rfl,?_,?_⟩
  ·simp only[SubB,true_and]
   exact⟨xa5 _,fun i j hi hj=>by
     obtain rfl:j=0:=by omega
     rw[hr i hi];simp[Go.Sx.Sub]⟩
  ·simp[SubO]
def YB(V:Nat→Int):List SV:=[.ref false 8 (fun j=>.val (.int .i64 (V j)))]
theorem YC(V:Nat→Int):OldL (YB V):=by simp[YB,OldL,Old]
def amx(V:Nat→Int):Nat→Nat
 |0=>0
 |w+1=>if V (amx V w)<V w then w else amx V w
theorem qda(V:Nat→Int)(w:Nat):amx V (w+1)=if V (amx V w)<V w then w else amx V w:=rfl
theorem qhX(V:Nat→Int):∀w,1≤w→amx V w<w
 |0,h=>by omega
 |w+1,_=>by
  rw[qda];by_cases e:w=0
  ·subst e;simp[amx]
  ·have:=qhX V w Ω
   split<;>omega
theorem qoI(r:Nat)(V:Nat→Int)(hr:r<8):qf Tryz.prog 291 (I r :: YB V) (I (V r)):=by
 refine qg Tryz.func291 rfl Ωc follows Ωc _ _ (by rw[Tryz.ntmps291];simp[YB]) (by simp only[OldL,YC,and_true];simp[Old,I]) ?_;have NB:True:=trivial;unfold I YB;(repeat' (first|refine sD ?_ ?_<;>intro _|refine aAc ?_|(simp -dsimp only[↓RP,RQ,xa0,reduceIte,reduceCtorEq,xa1,xa2,xa3,xa4,TYQ,TYP,NB,QR,TYR,QT,QN])))
 all_goals try exact Ωb
 all_goals omega
theorem qoJ(n:Nat)(V:Nat→Int)(g:Nat)(caps:List SV)(ho:OldL caps)(h1:1≤n)(hn:n≤1000000)(hg:∀i,i<n→qf Tryz.prog g (I (i:Nat) :: caps) (I (V i)))(hV:∀i,i<n→0≤V i∧V i≤1000000):qf Tryz.prog 290 [ints n (fun i=>(i:Nat)),.fn (.func g) [] caps] (I (amx V n)):=by
 refine qg Tryz.func290 rfl Ωc follows Ωc _ _ (by rw[Tryz.ntmps290];simp) (by simp[OldL,Old,ints,ho]) ?_;have NB:True:=trivial;unfold I ints;(repeat' (first|refine sD ?_ ?_<;>intro _|refine aAc ?_|(simp -dsimp only[↓RP,RQ,xa0,reduceIte,reduceCtorEq,xa1,xa2,xa3,xa4,TYQ,TYP,NB,QR,TYR,QT,QN])))
 all_goals try exact Ωb
 refine qo (fun(w:Nat)=>w≤n) (fun w=>⟨[(1,.fn (.func g) [] caps),(5,.val (.int .i64 (amx V w:Nat))),(11,.arr false false n 1 (fun i _=>.val (.int .i64 (i:Nat)))),(12,.val (.int .i64 (n:Nat))),(13,.val (.int .i64 (w:Nat)))],[],100+40*w⟩) (fun w=>n - w) 0 (xb6 _) (weakSU Ω (by simp[zo,Go.Sx.look,amx]) (SubHp.refl _)) fun w hw=>?_;by_cases hwm:w<n
 ·have hlt:=decide_eq_true (Ω:((w:Nat):Int)<(n:Nat))
  have ham:amx V w<n:=by
   by_cases e:w=0
   ·subst e;simp only[amx];omega
   ·have:=qhX V w Ω;omega
  (repeat' (first|refine sD ?_ ?_<;>intro _|refine aAc ?_|(simp -dsimp only[↓RP,RQ,xa0,reduceIte,reduceCtorEq,xa1,xa2,xa3,xa4,hlt,TYQ,TYP,NB,QR,TYR,QT,QN])))
  all_goals try exact Ωb
  refine qm (hg w hwm) (by(simp -dsimp only[↓RP,RQ,xa0,reduceIte,reduceCtorEq,xa1,xa2,xa3,xa4,I,Go.Sx.SubL,Go.Sx.Sub]);all_goals (try simp[subL_refl caps ho])) Ωq ?_;(repeat' (first|refine sD ?_ ?_<;>intro _|refine aAc ?_|(simp -dsimp only[↓RP,RQ,xa0,reduceIte,reduceCtorEq,xa1,xa2,xa3,xa4,QT,TYQ,TYP,NB,QR,TYR,QN])))
  all_goals try exact Ωb
  refine qm (hg _ ham) (by(simp -dsimp only[↓RP,RQ,xa0,reduceIte,reduceCtorEq,xa1,xa2,xa3,xa4,I,Go.Sx.SubL,Go.Sx.Sub]);all_goals (try simp[subL_refl caps ho])) Ωq ?_;(repeat' (first|refine sD ?_ ?_<;>intro _|refine aAc ?_|(simp -dsimp only[↓RP,RQ,xa0,reduceIte,reduceCtorEq,xa1,xa2,xa3,xa4,QT,TYQ,TYP,NB,QR,TYR,QN])))
  all_goals try exact Ωb
  ·rename_i hc
   exact⟨w+1,hwm,Ω,weakSU Ω (by rw[qda,if_pos hc];simp[zo,Go.Sx.look]) (SubHp.refl _)⟩
  ·rename_i hc
   exact⟨w+1,hwm,Ω,weakSU Ω (by rw[qda,if_neg hc];simp[zo,Go.Sx.look]) (SubHp.refl _)⟩
 ·obtain rfl:n=w:=by omega
  have hlt:=decide_eq_false (Ω:¬((n:Nat):Int)<(n:Nat));(repeat' (first|refine sD ?_ ?_<;>intro _|refine aAc ?_|(simp -dsimp only[↓RP,RQ,xa0,reduceIte,reduceCtorEq,xa1,xa2,xa3,xa4,hlt,TYQ,TYP,NB,QR,TYR,QT,QN])))
  all_goals try exact Ωb
theorem qnI(x y:Int)(n:Int)(nb:Nat)(f q:Nat→Int)(fav:Bool)(c d st:Int)(fv:Int)(M:SV)(hM:Old M)(a0 a1 a2 a3 a4 a5:Int):qf Tryz.prog 129 [tlR n nb f q fav c d st fv M a0 a1 a2 a3 a4 a5,yr x (-1) y] (.tup [.agg [.val (.int .i64 x),.val (.int .i64 (-1))],B true]):=by
 refine qg Tryz.func129 rfl Ωc follows Ωc _ _ (by rw[Tryz.ntmps129];simp) ΩO ?_;have NB:True:=trivial;have h1:=qhW x n nb f q fav c d st fv M hM a0 a1 a2 a3 a4 a5;have h2:=qhW (-1) n nb f q fav c d st fv M hM a0 a1 a2 a3 a4 a5;unfold B yr
 conv=>arg 4;unfold tlR tlL
 (repeat' (first|refine sD ?_ ?_<;>intro _|refine aAc ?_|(simp -dsimp only[↓RP,RQ,xa0,reduceIte,reduceCtorEq,xa1,xa2,xa3,xa4,TYQ,TYP,NB,QR,TYR,QT,QN])))
 all_goals try exact Ωb
 refine qm (h1) ΩH Ωa ?_;(repeat' (first|refine sD ?_ ?_<;>intro _|refine aAc ?_|(simp -dsimp only[↓RP,RQ,xa0,reduceIte,reduceCtorEq,xa1,xa2,xa3,xa4,QT,TYQ,TYP,NB,QR,TYR,QN])))
 all_goals try exact Ωb
 refine qm (h2) ΩH Ωa ?_;(repeat' (first|refine sD ?_ ?_<;>intro _|refine aAc ?_|(simp -dsimp only[↓RP,RQ,xa0,reduceIte,reduceCtorEq,xa1,xa2,xa3,xa4,QT,TYQ,TYP,NB,QR,TYR,QN])))
 all_goals try exact Ωb
end Go.Tn
end
section
namespace Go.Tn
open Go.Proofs
open Go.Sx
def cF(f q:Nat→Int):Nat→Int→Int
 |0,_=>0
 |w+1,r=>cF f q w r+(if f w=r then q w else 0)
theorem V2(f q:Nat→Int)(w:Nat)(r:Int):cF f q (w+1) r=cF f q w r+(if f w=r then q w else 0):=rfl
theorem yD(f q:Nat→Int)(r:Int):∀w:Nat,(∀i,i<w→1≤q i∧q i≤1000)→0≤cF f q w r∧cF f q w r≤1000*w
 |0,_=>by simp[cF]
 |w+1,h=>by
  have h1:=yD f q r w fun i hi=>h i Ω;have h2:=h w Ω;rw[V2];split<;>omega
def sQ(q:Nat→Int):Nat→Int
 |0=>0
 |w+1=>sQ q w+q w
theorem qeI(q:Nat→Int)(w:Nat):sQ q (w+1)=sQ q w+q w:=rfl
theorem ZL(q:Nat→Int):∀w:Nat,(∀i,i<w→1≤q i∧q i≤1000)→0≤sQ q w∧sQ q w≤1000*w
 |0,_=>by simp[sQ]
 |w+1,h=>by
  have h1:=ZL q w fun i hi=>h i Ω;have h2:=h w Ω;rw[qeI];omega
def zc(q:Nat→Int)(d:Int)(nb:Nat):Int:=Int.tdiv (100*sQ q nb*d) 1000
theorem qbj{q:Nat→Int}{d:Int}{nb:Nat}(hnb:nb≤100)(hq:∀i,i<nb→1≤q i∧q i≤1000)(hd:0≤d∧d≤500):0≤100*sQ q nb*d∧100*sQ q nb*d≤50000*sQ q nb:=by
 have h:=ZL q nb hq;have h1:0≤100*sQ q nb*d:=Int.mul_nonneg Ω hd.1;have h2:100*sQ q nb*d≤100*sQ q nb*500:=Int.mul_le_mul_of_nonneg_left hd.2 Ω;omega
theorem qbk{q:Nat→Int}{d:Int}{nb:Nat}(hnb:nb≤100)(hq:∀i,i<nb→1≤q i∧q i≤1000)(hd:0≤d∧d≤500):0≤zc q d nb∧zc q d nb≤50*sQ q nb:=by
 have h:=qbj hnb hq hd;unfold zc;rw[Int.tdiv_eq_ediv_of_nonneg h.1];omega
def ks(a b:Int):Value:=.agg #[.int .i64 a,.int .i64 b]
theorem eqK_ks{a b c d:Int}:eqK (ks a b) (ks c d)=true↔a=c∧b=d:=by
 simp[eqK,ks,jI,wg]
def uD(f:Nat→Int):Nat→Value→Bool
 |0=>fun _=>false
 |w+1=>qI (uD f w) (ks (f w) (-1))
def uG(f q:Nat→Int):Nat→Value→SV
 |0=>fun _=>.top
 |w+1=>qC (uG f q w) (ks (f w) (-1)) (.val (.int .i64 (cF f q (w+1) (f w))))
theorem qhY(f q:Nat→Int)(r:Int):∀w,uD f w (ks r (-1))=true→uG f q w (ks r (-1))=.val (.int .i64 (cF f q w r))
 |0,h=>by simp[uD]at h
 |w+1,h=>by
  by_cases e:f w=r
  ·have:eqK (ks (f w) (-1)) (ks r (-1))=true:=eqK_ks.2 ⟨e,rfl⟩
   simp only[uG,qC,this,svIte];rw[if_pos trivial,e]
  ·have:eqK (ks (f w) (-1)) (ks r (-1))=false:=by
    cases hb:eqK (ks (f w) (-1)) (ks r (-1))with
    |false=>rfl
    |true=>exact absurd (eqK_ks.1 hb).1 e
   simp only[uD,qI,this,xf4]at h;simp only[uG,qC,this,svIte];rw[if_neg Ωu,qhY f q r w h,V2 f q w r,if_neg e,Int.add_zero]
theorem qll(f q:Nat→Int)(r:Int):∀w,uD f w (ks r (-1))=false→cF f q w r=0
 |0,h=>rfl
 |w+1,h=>by
  by_cases e:f w=r
  ·have:eqK (ks (f w) (-1)) (ks r (-1))=true:=eqK_ks.2 ⟨e,rfl⟩
   simp[uD,qI,this]at h
  ·have:eqK (ks (f w) (-1)) (ks r (-1))=false:=by
    cases hb:eqK (ks (f w) (-1)) (ks r (-1))with
    |false=>rfl
    |true=>exact absurd (eqK_ks.1 hb).1 e
   simp only[uD,qI,this,xf4]at h;rw[V2,if_neg e,qll f q r w h];rfl
def on8(V:Nat→Int):List SV:=[.val (.int .i64 (V 0)),.val (.int .i64 (V 1)),.val (.int .i64 (V 2)),.val (.int .i64 (V 3)),.val (.int .i64 (V 4)),.val (.int .i64 (V 5)),.val (.int .i64 (V 6)),.val (.int .i64 (V 7))]
theorem s8{j:Nat}(h:j<8):j=0∨j=1∨j=2∨j=3∨j=4∨j=5∨j=6∨j=7:=by omega
theorem qdb(V:Nat→Int){j:Nat}(h:j<8):(on8 V)[j]? = some (.val (.int .i64 (V j))):=by
 rcases s8 h with rfl|rfl|rfl|rfl|rfl|rfl|rfl|rfl<;>rfl
theorem qkj(V:Nat→Int):(on8 V).length=8:=rfl
theorem qkk(V:Nat→Int){j:Nat}(h:j<8)(x:Int):(on8 V).set j (.val (.int .i64 x))=on8 (upN V j x):=by
 rcases s8 h with rfl|rfl|rfl|rfl|rfl|rfl|rfl|rfl<;>rfl
def cV(f q:Nat→Int)(w:Nat):Nat→Int:=fun j=>cF f q w j
theorem qoK(f q:Nat→Int)(w k:Nat)(h:f w=k):upN (cV f q w) k (cF f q w k+q w)=cV f q (w+1):=by
 funext j;unfold upN cV;rw[V2,h];by_cases e:j=k
 ·subst e;rw[if_pos rfl,if_pos rfl]
 ·rw[if_neg e,if_neg Ω];omega
theorem qnJ(V:Nat→Int)(n:Nat)(h:∀j,j<n→V j=0):amx V n=0:=by
 induction n with
 |zero=>rfl
 |succ n ih=>
  rw[qda,ih (fun j hj=>h j Ω),if_neg];by_cases e:n=0
  ·subst e;omega
  ·rw[h 0 Ω,h n Ω];omega
theorem Zv{hp:List (Nat×Blk)}{tid:Nat}{n:Int}{nb:Nat}{f q:Nat→Int}{fav:Bool}{c d st:Int}{fv:Int}{M:SV}{a0 a1 a2 a3 a4 a5:Int}(h:blk hp tid=some (.cells 167 (tlL n nb f q fav c d st fv M a0 a1 a2 a3 a4 a5))):Go.Sx.Sub hp (tlR n nb f q fav c d st fv .top a0 a1 a2 a3 a4 a5) (.ptr tid 0):=by
 simp only[tlR,Go.Sx.Sub,h];intro j hj;refine⟨?_,by simp[tlL];omega⟩;rw[xb0];rcases s16 hj with rfl|rfl|rfl|rfl|rfl|rfl|rfl|rfl|rfl|rfl|rfl|rfl|rfl|rfl|rfl|rfl<;>first|exact trivial|rfl|exact qN _ (zg _ _ _ _)
theorem qkl{hp:List (Nat×Blk)}{i g:Nat}{V:Nat→Int}(h:blk hp i=some (.cells 402 (on8 V))):Go.Sx.Sub hp (.fn (.func g) [] (YB V)) (.fn (.func g) [] [.ptr i 0]):=by
 simp only[Go.Sx.Sub,SubL,YB,and_true,true_and,h];intro j hj;refine⟨?_,by simp[on8];omega⟩;rw[xb0,xc6,qdb _ hj];rfl
theorem qbl(f q:Nat→Int)(w:Nat)(r:Int):svIte (uD f w (.agg #[.int .i64 r,.int .i64 (-1)])) (uG f q w (.agg #[.int .i64 r,.int .i64 (-1)])) (.val (.int .i64 0))=.val (.int .i64 (cF f q w r)):=by
 show svIte (uD f w (ks r (-1))) (uG f q w (ks r (-1))) _=_;cases h:uD f w (ks r (-1))with
 |true=>simp only[svIte,if_true];exact qhY f q r w h
 |false=>simp only[svIte];rw[qll f q r w h];rfl
theorem yj:Old .top:=by simp[Old]
theorem qhZ(V:Nat→Int):List.take 8 (on8 V)=on8 V:=rfl
theorem qkm(V:Nat→Int):fitS [.i .i64,.i .i64,.i .i64,.i .i64,.i .i64,.i .i64,.i .i64,.i .i64] (on8 V)=true:=rfl
theorem qia(V:Nat→Int):eqSVs (on8 V) [.val (.int .i64 0),.val (.int .i64 0),.val (.int .i64 0),.val (.int .i64 0),.val (.int .i64 0),.val (.int .i64 0),.val (.int .i64 0),.val (.int .i64 0)]=true↔∀j,j<8→V j=0:=by
 simp only[on8,eqSVs,eqV,xe6,decide_eq_true_eq,xf1,beq_iff_eq];constructor
 ·rintro⟨h0,h1,h2,h3,h4,h5,h6,h7⟩ j hj
  rcases s8 hj with rfl|rfl|rfl|rfl|rfl|rfl|rfl|rfl<;>assumption
 ·intro h
  exact⟨h 0 Ω,h 1 Ω,h 2 Ω,h 3 Ω,h 4 Ω,h 5 Ω,h 6 Ω,h 7 Ω⟩
theorem qoL(n nb:Nat)(f q:Nat→Int)(fav:Bool)(c d st:Int)(hn1:2≤n)(hn:n≤8)(hnb:nb≤100)(hf:∀i,i<nb→0≤f i∧f i<n)(hq:∀i,i<nb→1≤q i∧q i≤1000)(hc:0≤c∧c≤1000000)(hd:0≤d∧d≤500)(hst:1≤st∧st≤100)(id:Nat)(rest:List (Nat×Blk))(hr:Under rest id):EffVC Tryz.prog 188 [bkS n nb f (fun _=>-1) q fav c d st] rest id (fun hp' nid' res=>
  ∃tid mid,id≤mid∧mid<tid∧tid<nid'∧hp'=(tid,.cells 167 (tlL n nb f q fav c d st (amx (cV f q nb) n:Nat) (.mp mid) (c+100*sQ q nb) 0 (zc q d nb) 0 0 (c+100*sQ q nb - zc q d nb))) ::(mid,.map (ql true [.i .i64,.i .i64]) (uD f nb) (uG f q nb)) :: rest∧res=.ptr tid 0):=by
 refine vC (zJ [(21,[(0,0)])]) follows Tryz.func188 rfl Ωc Ωc (by rw[Tryz.ntmps188];simp) fun out=>?_;have hr0:blk rest id=none:=hr.none (xa5 _);have NB:True:=trivial;unfold bkS qJ;(repeat' (first|refine sD ?_ ?_<;>intro _|refine aAc ?_|(simp -dsimp only[↓RP,RQ,xa0,reduceIte,reduceCtorEq,xa1,xa2,xa3,xa4,TYQ,TYP,NB,QS,↓RY,hr0,TYR,QT,QN])))
 all_goals try exact Ωb
 refine qo (fun(z:Nat×Nat)=>z.1≤nb∧id+11≤z.2) (fun z=>⟨[(1,.ptr id 0),(2,.val (.pointer none)),(3,.ptr (id+8) 0),(4,.ptr (id+10) 0),(22,.arr false false nb 3 (fun i j=>[SV.val (.int .i64 (f i)),.val (.int .i64 (-1)),.val (.int .i64 (q i))].getD j .top)),(23,.val (.int .i64 (nb:Nat))),(24,.val (.int .i64 (z.1:Nat)))],(id+10,.cells 402 (on8 (cV f q z.1))) ::(id+8,.cells 167 [.val (.int .i64 0),.val (.int .i64 n),.arr false false nb 3 (fun i j=>[SV.val (.int .i64 (f i)),.val (.int .i64 (-1)),.val (.int .i64 (q i))].getD j .top),.val (.slice none 0 0),.val (.bool fav),.val (.int .i64 c),.val (.int .i64 d),.val (.int .i64 st),.val (.int .i64 0),.mp (id+3),.val (.int .i64 c),.val (.int .i64 0),.val (.int .i64 0),.val (.int .i64 0),.val (.int .i64 0),.val (.int .i64 0)]) ::(id+3,.map (ql true [.i .i64,.i .i64]) (fun _=>false) (fun _=>.top)) ::(id,.cells 48 [.val (.int .i64 0),.val (.int .i64 n),.arr false false nb 3 (fun i j=>[SV.val (.int .i64 (f i)),.val (.int .i64 (-1)),.val (.int .i64 (q i))].getD j .top),.val (.slice none 0 0),.val (.bool fav),.val (.int .i64 c),.val (.int .i64 d),.val (.int .i64 st)]) :: rest,z.2⟩) (fun z=>nb - z.1) (0,id+30) ⟨xb6 _,Ωe⟩ (weakSU Ωe Ωf (SubHp.refl _)) fun z hz=>?_;obtain⟨w,nid⟩:=z;obtain⟨hw,hi⟩:=hz;dsimp only at hw hi ⊢;have NB:=(⟨nmA (Ω:id<nid),nmA (Ω:id+3<nid),nmA (Ω:id+8<nid),nmA (Ω:id+10<nid)⟩:_∧_∧_∧_);by_cases hwm:w<nb
 ·have hlt:=decide_eq_true (Ω:((w:Nat):Int)<(nb:Nat))
  obtain⟨b1,b2⟩:=hf w hwm;obtain⟨k,hk⟩:∃k:Nat,f w=k:=⟨(f w).toNat,Ω⟩;have k8:k<8:=by omega
  have h1:=qhW (f w) n nb f q fav c d st 0 .top yj c 0 0 0 0 0;have h2:=qhW (-1) n nb f q fav c d st 0 .top yj c 0 0 0 0 0;(repeat' (first|refine sD ?_ ?_<;>intro _|refine aAc ?_|(simp -dsimp only[↓RP,RQ,xa0,reduceIte,reduceCtorEq,xa1,xa2,xa3,xa4,hlt,qJ,TYQ,TYP,NB,QS,↓RY,hr0,TYR,QT,QN])))
  all_goals try exact Ωb
  refine qm (h1) (by simp only[SubL,and_true];refine⟨Zv (M:=.mp (id+3)) (by simp[blk,NB];rfl),?_⟩;simp[I,Go.Sx.Sub]) Ωa ?_;(repeat' (first|refine sD ?_ ?_<;>intro _|refine aAc ?_|(simp -dsimp only[↓RP,RQ,xa0,reduceIte,reduceCtorEq,xa1,xa2,xa3,xa4,QT,TYQ,TYP,NB,QS,↓RY,hr0,TYR,QN])))
  all_goals try exact Ωb
  refine qm (h2) (by simp only[SubL,and_true];refine⟨Zv (M:=.mp (id+3)) (by simp[blk,NB];rfl),?_⟩;simp[I,Go.Sx.Sub]) Ωa ?_;have hset:=qkk (cV f q w) k8 (cF f q w k+q w);rw[qoK f q w k hk]at hset;have hb:=yD f q k w (fun i hi=>hq i Ω);have hqw:=hq w hwm;have hget:(on8 (cV f q w))[k]? = some (.val (.int .i64 (cF f q w k))):=qdb (cV f q w) k8;(repeat' (first|refine sD ?_ ?_<;>intro _|refine aAc ?_|(simp -dsimp only[↓RP,RQ,xa0,reduceIte,reduceCtorEq,xa1,xa2,xa3,xa4,QT,hk,qkj,hget,hset,TYQ,TYP,NB,QS,↓RY,hr0,TYR,QN])))
  all_goals try exact Ωb
  refine⟨(w+1,_),⟨hwm,?_⟩,Ωe,weakSU (xa5 _) Ωf ?_⟩
  ·dsimp only;omega
  ·refine SubHp.skip ?_ (SubHp.refl _)
   simp only[blk];rw[if_neg Ω,if_neg Ω,if_neg Ω,if_neg Ω];exact hr.none Ω
 obtain rfl:nb=w:=by omega
 have hlt:=decide_eq_false (Ω:¬((nb:Nat):Int)<(nb:Nat));have h1:=qnH n nb f q fav c d st 0 .top yj c 0 0 0 0 0 Ω hn;(repeat' (first|refine sD ?_ ?_<;>intro _|refine aAc ?_|(simp -dsimp only[↓RP,RQ,xa0,reduceIte,reduceCtorEq,xa1,xa2,xa3,xa4,hlt,qJ,TYQ,TYP,NB,QS,↓RY,hr0,TYR,QT,QN])))
 all_goals try exact Ωb
 refine callN h1 (by simp only[SubL,and_true];exact Zv (M:=.mp (id+3)) (by simp[blk,NB];rfl)) (by simp[FreshO]) Ωag ?_;(repeat' (first|refine sD ?_ ?_<;>intro _|refine aAc ?_|(simp -dsimp only[↓RP,RQ,xa0,reduceIte,reduceCtorEq,xa1,xa2,xa3,xa4,hlt,qJ,TYQ,TYP,NB,QS,↓RY,hr0,TYR,QT,QN])))
 all_goals try exact Ωb
 refine⟨xa5 _,qkm _,?_⟩;rw[qhZ];by_cases hz:∀j,j<8→cV f q nb j=0
 ·rw[(qia _).2 hz]
  have hx:=qnJ (cV f q nb) n (fun j hj=>hz j Ω);(repeat' (first|refine sD ?_ ?_<;>intro _|refine aAc ?_|(simp -dsimp only[↓RP,RQ,xa0,reduceIte,reduceCtorEq,xa1,xa2,xa3,xa4,TYQ,TYP,NB,QS,↓RY,hr0,TYR,QT,QN])))
  all_goals first|contradiction|(exfalso;omega)|skip
  refine qo (fun(z:Nat×Nat)=>z.1≤nb∧id+11≤z.2) (fun z=>⟨[(1,.ptr id 0),(2,.val (.pointer none)),(3,.ptr (id+8) 0),(8,.fn (.func 129) [.ptr (id+8) 0] []),(69,.arr false false nb 3 (fun i j=>[SV.val (.int .i64 (f i)),.val (.int .i64 (-1)),.val (.int .i64 (q i))].getD j .top)),(70,.val (.int .i64 (nb:Nat))),(71,.val (.int .i64 (z.1:Nat)))],(id+8,.cells 167 [.val (.int .i64 0),.val (.int .i64 n),.arr false false nb 3 (fun i j=>[SV.val (.int .i64 (f i)),.val (.int .i64 (-1)),.val (.int .i64 (q i))].getD j .top),.val (.slice none 0 0),.val (.bool fav),.val (.int .i64 c),.val (.int .i64 d),.val (.int .i64 st),.val (.int .i64 (amx (cV f q nb) n:Nat)),.mp (id+3),.val (.int .i64 (c+100*sQ q z.1)),.val (.int .i64 0),.val (.int .i64 0),.val (.int .i64 0),.val (.int .i64 0),.val (.int .i64 0)]) ::(id+3,.map (ql true [.i .i64,.i .i64]) (uD f z.1) (uG f q z.1)) ::(id,.cells 48 [.val (.int .i64 0),.val (.int .i64 n),.arr false false nb 3 (fun i j=>[SV.val (.int .i64 (f i)),.val (.int .i64 (-1)),.val (.int .i64 (q i))].getD j .top),.val (.slice none 0 0),.val (.bool fav),.val (.int .i64 c),.val (.int .i64 d),.val (.int .i64 st)]) :: rest,z.2⟩) (fun z=>nb - z.1) (0,nid+100) ⟨xb6 _,Ωe⟩ (weakSU Ωe Ωf ?hs1) fun z hz2=>?_
  case hs1=>
   dsimp only;refine SubHp.skip ?_ (SubHp.skip ?_ ?_)
   ·simp only[blk]
    rw[if_neg Ω,if_neg Ω,if_neg Ω];exact hr.none Ω
   ·simp only[blk]
    rw[if_neg Ω,if_neg Ω,if_neg Ω];exact hr.none Ω
   ·rw[show c+100*sQ q 0=c by simp[sQ]];rw[hx];exact SubHp.refl _
  obtain⟨w,m1⟩:=z;obtain⟨hw2,hm⟩:=hz2;dsimp only at hw2 hm ⊢;clear NB;have NB:=(⟨nmA (Ω:id<m1),nmA (Ω:id+3<m1),nmA (Ω:id+8<m1),nmA (Ω:id+10<m1)⟩:_∧_∧_∧_);by_cases hwm2:w<nb
  ·have hlt2:=decide_eq_true (Ω:((w:Nat):Int)<(nb:Nat))
   have hb:=yD f q (f w) w (fun i hi=>hq i Ω);have hqw:=hq w hwm2;have hsb:=ZL q w (fun i hi=>hq i Ω);have hsS:=qeI q w;have e1:c+100*sQ q w+100*q w=c+100*sQ q (w+1):=by rw[qeI];omega
   have h129:=qnI (f w) (q w) n nb f q fav c d st (amx (cV f q nb) n:Nat) .top yj (c+100*sQ q (w+1)) 0 0 0 0 0;(repeat' (first|refine sD ?_ ?_<;>intro _|refine aAc ?_|(simp -dsimp only[↓RP,RQ,xa0,reduceIte,reduceCtorEq,xa1,xa2,xa3,xa4,hlt2,qJ,e1,TYQ,TYP,NB,QS,↓RY,hr0,TYR,QT,QN])))
   all_goals try exact Ωb
   refine qm (h129) (by simp only[SubL,and_true];refine⟨Zv (M:=.mp (id+3)) (by simp[blk,NB];rfl),?_⟩;simp[yr,Go.Sx.Sub,SubL]) Ωa ?_;have hl:(if uD f w (Value.agg #[Value.int IntKind.i64 (f w),Value.int IntKind.i64 (-1)])=true then uG f q w (Value.agg #[Value.int IntKind.i64 (f w),Value.int IntKind.i64 (-1)])else SV.val (Value.int IntKind.i64 0))=SV.val (.int .i64 (cF f q w (f w))):=qbl f q w (f w);(repeat' (first|refine sD ?_ ?_<;>intro _|refine aAc ?_|(simp -dsimp only[↓RP,RQ,xa0,reduceIte,reduceCtorEq,xa1,xa2,xa3,xa4,QT,TYQ,TYP,NB,QS,↓RY,hr0,TYR,QN])))
   all_goals try exact Ωb
   refine wE (q:=⟨9,10,11,103,104,165,97,.tmp 98,.tmp 102⟩) (far:=[]) follows ⟨Ωu,Ωu,Ωu,⟨_,rfl,rfl,rfl⟩,⟨_,rfl,rfl,rfl⟩,⟨_,rfl,rfl,rfl⟩⟩ Ωc ?_;(repeat' (first|refine sD ?_ ?_<;>intro _|refine aAc ?_|(simp -dsimp only[↓RP,RQ,xa0,reduceIte,reduceCtorEq,xa1,xa2,xa3,xa4,QL,gl,hl,EI.upd,or_self,or_false,or_true,true_or,false_or,↓reduceIte,TYQ,TYP,NB,QS,↓RY,hr0,TYR,QT,QN])))
   all_goals try exact Ωb
   refine⟨?_,fun st2 hlk hbk hnid=>?_⟩
   ·intro mid hmid
    have hm3:id+3=mid:=by simpa[Go.Sx.look]using hmid
    subst hm3;refine⟨⟨_,_,_,by simp[blk,NB];exact⟨rfl,rfl,rfl⟩⟩,fun a ha=>?_⟩;have ha3:a=96∨a=11∨a=100:=by simpa[QM]using ha
    rcases ha3 with rfl|rfl|rfl<;>simp[Go.Sx.look,qO,NB]
    all_goals omega
   ·obtain⟨fr2,hp2,nid2⟩:=st2
    dsimp only at hlk hbk hnid ⊢;subst hnid;have l71:Go.Sx.look fr2 71=.val (.int .i64 (w:Nat)):=by rw[hlk];simp
    have l1:Go.Sx.look fr2 1=.ptr id 0:=by rw[hlk];simp
    have l2:Go.Sx.look fr2 2=.val (.pointer none):=by rw[hlk];simp
    have l3:Go.Sx.look fr2 3=.ptr (id+8) 0:=by rw[hlk];simp
    have l8:Go.Sx.look fr2 8=.fn (.func 129) [.ptr (id+8) 0] []:=by rw[hlk];simp
    have l69:Go.Sx.look fr2 69=.arr false false nb 3 (fun i j=>[SV.val (.int .i64 (f i)),.val (.int .i64 (-1)),.val (.int .i64 (q i))].getD j .top):=by rw[hlk];simp
    have l70:Go.Sx.look fr2 70=.val (.int .i64 (nb:Nat)):=by rw[hlk];simp
    have e2:qC (uG f q w) (Value.agg #[Value.int IntKind.i64 (f w),Value.int IntKind.i64 (-1)]) (SV.val (Value.int IntKind.i64 (cF f q w (f w)+q w)))=uG f q (w+1):=by
     show _=qC (uG f q w) (ks (f w) (-1)) (.val (.int .i64 (cF f q (w+1) (f w))));rw[V2,if_pos rfl];rfl
    simp only[e1,e2]at hbk;(repeat' (first|refine sD ?_ ?_<;>intro _|refine aAc ?_|(simp -dsimp only[↓RP,RQ,xa0,reduceIte,reduceCtorEq,xa1,xa2,xa3,xa4,l71,TYQ,TYP,NB,QS,↓RY,hr0,TYR,QT,QN])))
    all_goals try exact Ωb
    refine⟨(w+1,m1+42),⟨hwm2,Ωe⟩,Ωe,weakSU (xa5 _) (by simp[zo,Go.Sx.look,l1,l2,l3,l8,l69,l70]) (fun j x hx=>?_)⟩;show blk hp2 j=some x;rw[hbk];refine SubHp.skip ?_ (SubHp.skip ?_ (SubHp.refl _)) j x hx
    ·simp only[blk]
     rw[if_neg Ω,if_neg Ω,if_neg Ω];exact hr.none Ω
    ·simp only[blk]
     rw[if_neg Ω,if_neg Ω,if_neg Ω];exact hr.none Ω
  obtain rfl:nb=w:=by omega
  have hlt2:=decide_eq_false (Ω:¬((nb:Nat):Int)<(nb:Nat));have hdu:=qbk Ω hq hd;have hsb:=ZL q nb hq;have e5:c+100*sQ q nb - c=100*sQ q nb:=by omega
  have e6:Int.tdiv (100*sQ q nb*d) 1000=zc q d nb:=rfl;have e7:=qbj Ω hq hd;(repeat' (first|refine sD ?_ ?_<;>intro _|refine aAc ?_|(simp -dsimp only[↓RP,RQ,xa0,reduceIte,reduceCtorEq,xa1,xa2,xa3,xa4,hlt2,e5,e6,Int.sub_zero,TYQ,TYP,NB,QS,↓RY,hr0,TYR,QT,QN])))
  all_goals try exact Ωb
  exact⟨_,m1+48,_,vQ (fr':=[(0,_)]) ⟨.inr rfl,trivial⟩ (SubHp.cons (SubHp.cons (SubHp.skip hr0 (SubHp.refl _)))),id+8,id+3,Ω,Ω,Ω,rfl,rfl⟩
 ·rw[show eqSVs (on8 (cV f q nb)) _=false from by rw[Bool.eq_false_iff];exact fun h=>hz ((qia _).1 h)]
  have h2:=qoJ n (cV f q nb) 291 (YB (cV f q nb)) (YC _) Ω Ω (fun i hi=>qoI i (cV f q nb) Ω) (fun i hi=>by have:=yD f q i nb hq;unfold cV;omega);(repeat' (first|refine sD ?_ ?_<;>intro _|refine aAc ?_|(simp -dsimp only[↓RP,RQ,xa0,reduceIte,reduceCtorEq,xa1,xa2,xa3,xa4,TYQ,TYP,NB,QS,↓RY,hr0,TYR,QT,QN])))
  all_goals first|contradiction|(exfalso;omega)|skip
  refine qm (h2) (by simp only[SubL,and_true];refine⟨(by(simp -dsimp only[↓RP,RQ,xa0,reduceIte,reduceCtorEq,xa1,xa2,xa3,xa4,ints]);all_goals (try simp[Go.Sx.Sub,blk,NB])),?_⟩;exact qkl ΩN) Ωa ?_;(repeat' (first|refine sD ?_ ?_<;>intro _|refine aAc ?_|(simp -dsimp only[↓RP,RQ,xa0,reduceIte,reduceCtorEq,xa1,xa2,xa3,xa4,QT,TYQ,TYP,NB,QS,↓RY,hr0,TYR,QN])))
  all_goals try exact Ωb
  refine qo (fun(z:Nat×Nat)=>z.1≤nb∧id+11≤z.2) (fun z=>⟨[(1,.ptr id 0),(2,.val (.pointer none)),(3,.ptr (id+8) 0),(8,.fn (.func 129) [.ptr (id+8) 0] []),(69,.arr false false nb 3 (fun i j=>[SV.val (.int .i64 (f i)),.val (.int .i64 (-1)),.val (.int .i64 (q i))].getD j .top)),(70,.val (.int .i64 (nb:Nat))),(71,.val (.int .i64 (z.1:Nat)))],(id+8,.cells 167 [.val (.int .i64 0),.val (.int .i64 n),.arr false false nb 3 (fun i j=>[SV.val (.int .i64 (f i)),.val (.int .i64 (-1)),.val (.int .i64 (q i))].getD j .top),.val (.slice none 0 0),.val (.bool fav),.val (.int .i64 c),.val (.int .i64 d),.val (.int .i64 st),.val (.int .i64 (amx (cV f q nb) n:Nat)),.mp (id+3),.val (.int .i64 (c+100*sQ q z.1)),.val (.int .i64 0),.val (.int .i64 0),.val (.int .i64 0),.val (.int .i64 0),.val (.int .i64 0)]) ::(id+3,.map (ql true [.i .i64,.i .i64]) (uD f z.1) (uG f q z.1)) ::(id,.cells 48 [.val (.int .i64 0),.val (.int .i64 n),.arr false false nb 3 (fun i j=>[SV.val (.int .i64 (f i)),.val (.int .i64 (-1)),.val (.int .i64 (q i))].getD j .top),.val (.slice none 0 0),.val (.bool fav),.val (.int .i64 c),.val (.int .i64 d),.val (.int .i64 st)]) :: rest,z.2⟩) (fun z=>nb - z.1) (0,nid+100) ⟨xb6 _,Ωe⟩ (weakSU Ωe Ωf ?hs1) fun z hz2=>?_
  case hs1=>
   dsimp only;refine SubHp.skip ?_ (SubHp.skip ?_ ?_)
   ·simp only[blk]
    rw[if_neg Ω,if_neg Ω,if_neg Ω];exact hr.none Ω
   ·simp only[blk]
    rw[if_neg Ω,if_neg Ω,if_neg Ω];exact hr.none Ω
   ·rw[show c+100*sQ q 0=c by simp[sQ]];exact SubHp.refl _
  obtain⟨w,m1⟩:=z;obtain⟨hw2,hm⟩:=hz2;dsimp only at hw2 hm ⊢;clear NB;have NB:=(⟨nmA (Ω:id<m1),nmA (Ω:id+3<m1),nmA (Ω:id+8<m1),nmA (Ω:id+10<m1)⟩:_∧_∧_∧_);by_cases hwm2:w<nb
  ·have hlt2:=decide_eq_true (Ω:((w:Nat):Int)<(nb:Nat))
   have hb:=yD f q (f w) w (fun i hi=>hq i Ω);have hqw:=hq w hwm2;have hsb:=ZL q w (fun i hi=>hq i Ω);have hsS:=qeI q w;have e1:c+100*sQ q w+100*q w=c+100*sQ q (w+1):=by rw[qeI];omega
   have h129:=qnI (f w) (q w) n nb f q fav c d st (amx (cV f q nb) n:Nat) .top yj (c+100*sQ q (w+1)) 0 0 0 0 0;(repeat' (first|refine sD ?_ ?_<;>intro _|refine aAc ?_|(simp -dsimp only[↓RP,RQ,xa0,reduceIte,reduceCtorEq,xa1,xa2,xa3,xa4,hlt2,qJ,e1,TYQ,TYP,NB,QS,↓RY,hr0,TYR,QT,QN])))
   all_goals try exact Ωb
   refine qm (h129) (by simp only[SubL,and_true];refine⟨Zv (M:=.mp (id+3)) (by simp[blk,NB];rfl),?_⟩;simp[yr,Go.Sx.Sub,SubL]) Ωa ?_;have hl:(if uD f w (Value.agg #[Value.int IntKind.i64 (f w),Value.int IntKind.i64 (-1)])=true then uG f q w (Value.agg #[Value.int IntKind.i64 (f w),Value.int IntKind.i64 (-1)])else SV.val (Value.int IntKind.i64 0))=SV.val (.int .i64 (cF f q w (f w))):=qbl f q w (f w);(repeat' (first|refine sD ?_ ?_<;>intro _|refine aAc ?_|(simp -dsimp only[↓RP,RQ,xa0,reduceIte,reduceCtorEq,xa1,xa2,xa3,xa4,QT,TYQ,TYP,NB,QS,↓RY,hr0,TYR,QN])))
   all_goals try exact Ωb
   refine wE (q:=⟨9,10,11,103,104,165,97,.tmp 98,.tmp 102⟩) (far:=[]) follows ⟨Ωu,Ωu,Ωu,⟨_,rfl,rfl,rfl⟩,⟨_,rfl,rfl,rfl⟩,⟨_,rfl,rfl,rfl⟩⟩ Ωc ?_;(repeat' (first|refine sD ?_ ?_<;>intro _|refine aAc ?_|(simp -dsimp only[↓RP,RQ,xa0,reduceIte,reduceCtorEq,xa1,xa2,xa3,xa4,QL,gl,hl,EI.upd,or_self,or_false,or_true,true_or,false_or,↓reduceIte,TYQ,TYP,NB,QS,↓RY,hr0,TYR,QT,QN])))
   all_goals try exact Ωb
   refine⟨?_,fun st2 hlk hbk hnid=>?_⟩
   ·intro mid hmid
    have hm3:id+3=mid:=by simpa[Go.Sx.look]using hmid
    subst hm3;refine⟨⟨_,_,_,by simp[blk,NB];exact⟨rfl,rfl,rfl⟩⟩,fun a ha=>?_⟩;have ha3:a=96∨a=11∨a=100:=by simpa[QM]using ha
    rcases ha3 with rfl|rfl|rfl<;>simp[Go.Sx.look,qO,NB]
    all_goals omega
   ·obtain⟨fr2,hp2,nid2⟩:=st2
    dsimp only at hlk hbk hnid ⊢;subst hnid;have l71:Go.Sx.look fr2 71=.val (.int .i64 (w:Nat)):=by rw[hlk];simp
    have l1:Go.Sx.look fr2 1=.ptr id 0:=by rw[hlk];simp
    have l2:Go.Sx.look fr2 2=.val (.pointer none):=by rw[hlk];simp
    have l3:Go.Sx.look fr2 3=.ptr (id+8) 0:=by rw[hlk];simp
    have l8:Go.Sx.look fr2 8=.fn (.func 129) [.ptr (id+8) 0] []:=by rw[hlk];simp
    have l69:Go.Sx.look fr2 69=.arr false false nb 3 (fun i j=>[SV.val (.int .i64 (f i)),.val (.int .i64 (-1)),.val (.int .i64 (q i))].getD j .top):=by rw[hlk];simp
    have l70:Go.Sx.look fr2 70=.val (.int .i64 (nb:Nat)):=by rw[hlk];simp
    have e2:qC (uG f q w) (Value.agg #[Value.int IntKind.i64 (f w),Value.int IntKind.i64 (-1)]) (SV.val (Value.int IntKind.i64 (cF f q w (f w)+q w)))=uG f q (w+1):=by
     show _=qC (uG f q w) (ks (f w) (-1)) (.val (.int .i64 (cF f q (w+1) (f w))));rw[V2,if_pos rfl];rfl
    simp only[e1,e2]at hbk;(repeat' (first|refine sD ?_ ?_<;>intro _|refine aAc ?_|(simp -dsimp only[↓RP,RQ,xa0,reduceIte,reduceCtorEq,xa1,xa2,xa3,xa4,l71,TYQ,TYP,NB,QS,↓RY,hr0,TYR,QT,QN])))
    all_goals try exact Ωb
    refine⟨(w+1,m1+42),⟨hwm2,Ωe⟩,Ωe,weakSU (xa5 _) (by simp[zo,Go.Sx.look,l1,l2,l3,l8,l69,l70]) (fun j x hx=>?_)⟩;show blk hp2 j=some x;rw[hbk];refine SubHp.skip ?_ (SubHp.skip ?_ (SubHp.refl _)) j x hx
    ·simp only[blk]
     rw[if_neg Ω,if_neg Ω,if_neg Ω];exact hr.none Ω
    ·simp only[blk]
     rw[if_neg Ω,if_neg Ω,if_neg Ω];exact hr.none Ω
  obtain rfl:nb=w:=by omega
  have hlt2:=decide_eq_false (Ω:¬((nb:Nat):Int)<(nb:Nat));have hdu:=qbk Ω hq hd;have hsb:=ZL q nb hq;have e5:c+100*sQ q nb - c=100*sQ q nb:=by omega
  have e6:Int.tdiv (100*sQ q nb*d) 1000=zc q d nb:=rfl;have e7:=qbj Ω hq hd;(repeat' (first|refine sD ?_ ?_<;>intro _|refine aAc ?_|(simp -dsimp only[↓RP,RQ,xa0,reduceIte,reduceCtorEq,xa1,xa2,xa3,xa4,hlt2,e5,e6,Int.sub_zero,TYQ,TYP,NB,QS,↓RY,hr0,TYR,QT,QN])))
  all_goals try exact Ωb
  exact⟨_,m1+48,_,vQ (fr':=[(0,_)]) ⟨.inr rfl,trivial⟩ (SubHp.cons (SubHp.cons (SubHp.skip hr0 (SubHp.refl _)))),id+8,id+3,Ω,Ω,Ω,rfl,rfl⟩
end Go.Tn
end
section
namespace Go.Tn
open Go.Proofs
open Go.Sx
theorem qkn(n nb:Nat)(f q:Nat→Int)(fav:Bool)(c d st:Int)(hn1:2≤n)(hn:n≤8)(hnb:nb≤100)(hf:∀i,i<nb→0≤f i∧f i<n)(hq:∀i,i<nb→1≤q i∧q i≤1000)(hc:0≤c∧c≤1000000)(hd:0≤d∧d≤500)(hst:1≤st∧st≤100):ckB n nb f (fun _=>-1) q c d st=0:=
 ckB_ok.2 ⟨⟨⟨Ω,Ω⟩,hc,hd,hst.1,hst.2⟩,hnb,fun i hi=>⟨hq i hi,hf i hi,rfl⟩⟩
theorem e95(n nb:Nat)(f q:Nat→Int)(fav:Bool)(c d st:Int)(hn1:2≤n)(hn:n≤8)(hnb:nb≤100)(hf:∀i,i<nb→0≤f i∧f i<n)(hq:∀i,i<nb→1≤q i∧q i≤1000)(hc:0≤c∧c≤1000000)(hd:0≤d∧d≤500)(hst:1≤st∧st≤100)(id:Nat)(rest:List (Nat×Blk))(hr:Under rest id):EffVC Tryz.prog 95 [bkS n nb f (fun _=>-1) q fav c d st] rest id (fun hp' nid' res=>
  ∃tid mid,id≤mid∧mid<tid∧tid<nid'∧hp'=(tid,.cells 167 (tlL n nb f q fav c d st (amx (cV f q nb) n:Nat) (.mp mid) (c+100*sQ q nb) 0 (zc q d nb) 0 0 (c+100*sQ q nb - zc q d nb))) ::(mid,.map (ql true [.i .i64,.i .i64]) (uD f nb) (uG f q nb)) :: rest∧res=.tup [.ptr tid 0,I 0]):=by
 refine vD follows Tryz.func95 rfl Ωc Ωc (by rw[Tryz.ntmps95];simp) fun out=>?_;have hr0:blk rest id=none:=hr.none (xa5 _);have NB:True:=trivial;have h1:=qot n nb f (fun _=>-1) q fav c d st (qkn n nb f q fav c d st hn1 hn hnb hf hq hc hd hst);unfold bkS;(repeat' (first|refine sD ?_ ?_<;>intro _|refine aAc ?_|(simp -dsimp only[↓RP,RQ,xa0,reduceIte,reduceCtorEq,xa1,xa2,xa3,xa4,TYQ,TYP,NB,QS,hr0,TYR,QT,QN])))
 all_goals try exact Ωb
 refine qm (h1) ΩB Ωa ?_;(repeat' (first|refine sD ?_ ?_<;>intro _|refine aAc ?_|(simp -dsimp only[↓RP,RQ,xa0,reduceIte,reduceCtorEq,xa1,xa2,xa3,xa4,QT,TYQ,TYP,NB,QS,hr0,TYR,QN])))
 all_goals try exact Ωb
 refine jd Ωx (qoL n nb f q fav c d st hn1 hn hnb hf hq hc hd hst _ _ ((hr.mono (Nat.le_add_right id _)).cons Ω)) fun hp' nid' res ⟨tid,mid,q1,q2,q3,q4,q5⟩=>?_;subst q4 q5;(repeat' (first|refine sD ?_ ?_<;>intro _|refine aAc ?_|(simp -dsimp only[↓RP,RQ,xa0,reduceIte,reduceCtorEq,xa1,xa2,xa3,xa4,TYQ,TYP,NB,QS,hr0,TYR,QT,QN])))
 all_goals try exact Ωb
 exact⟨_,_,_,vQ (fr':=[(0,_)]) ⟨.inr rfl,trivial⟩ (SubHp.cons (SubHp.cons (SubHp.skip hr0 (SubHp.refl _)))),tid,mid,Ω,Ω,Ω,rfl,rfl⟩
theorem c91(nb:Nat)(n:Int)(f q:Nat→Int)(fav:Bool)(c d st:Int)(x y:Int):qf Tryz.prog 91 [bkS n nb f (fun _=>-1) q fav c d st,yr x (-1) y] (.tup [.agg [I x,I (-1)],B true]):=by
 refine qg Tryz.func91 rfl Ωc follows Ωc _ _ (by rw[Tryz.ntmps91];simp) Ωh ?_;have NB:True:=trivial;have hr0:True:=trivial;have h1:=qnr x;have h2:=qnr (-1);unfold bkS yr I B;(repeat' (first|refine sD ?_ ?_<;>intro _|refine aAc ?_|(simp -dsimp only[↓RP,RQ,xa0,reduceIte,reduceCtorEq,xa1,xa2,xa3,xa4,TYQ,TYP,NB,QS,hr0,TYR,QT,QN])))
 all_goals try exact Ωb
 refine qm (h1) ΩZ Ωa ?_;(repeat' (first|refine sD ?_ ?_<;>intro _|refine aAc ?_|(simp -dsimp only[↓RP,RQ,xa0,reduceIte,reduceCtorEq,xa1,xa2,xa3,xa4,QT,TYQ,TYP,NB,QS,hr0,TYR,QN])))
 all_goals try exact Ωb
 refine qm (h2) ΩZ Ωa ?_;(repeat' (first|refine sD ?_ ?_<;>intro _|refine aAc ?_|(simp -dsimp only[↓RP,RQ,xa0,reduceIte,reduceCtorEq,xa1,xa2,xa3,xa4,QT,TYQ,TYP,NB,QS,hr0,TYR,QN])))
 all_goals try exact Ωb
theorem c26(nb:Nat)(n:Int)(f q:Nat→Int)(fav:Bool)(c d st:Int)(r:Int)(hnb:nb≤100)(hq:∀i,i<nb→1≤q i∧q i≤1000):qf Tryz.prog 26 [bkS n nb f (fun _=>-1) q fav c d st,.agg [I r,I (-1)]] (I (cF f q nb r)):=by
 refine qg Tryz.func26 rfl Ωc follows Ωc _ _ (by rw[Tryz.ntmps26];simp) Ωh ?_;have NB:True:=trivial;have hr0:True:=trivial;unfold bkS I;(repeat' (first|refine sD ?_ ?_<;>intro _|refine aAc ?_|(simp -dsimp only[↓RP,RQ,xa0,reduceIte,reduceCtorEq,xa1,xa2,xa3,xa4,TYQ,TYP,NB,QS,hr0,TYR,QT,QN])))
 all_goals try exact Ωb
 refine qo (fun(w:Nat)=>w≤nb) (fun w=>⟨[(2,.ptr 0 0),(3,.ptr 1 0),(5,.val (.int .i64 (cF f q w r))),(6,.val (.int .i64 (w:Nat)))],[(1,.cells 55 [.val (.int .i64 r),.val (.int .i64 (-1))]),(0,.cells 48 [.val (.int .i64 0),.val (.int .i64 n),qJ nb f (fun _=>-1) q,.val (.slice none 0 0),.val (.bool fav),.val (.int .i64 c),.val (.int .i64 d),.val (.int .i64 st)])],100+60*w⟩) (fun w=>nb - w) 0 (xb6 _) (weakSU Ω (by simp[zo,Go.Sx.look,cF]) (SubHp.refl _)) fun w hw=>?_;by_cases hwm:w<nb
 ·have hlt:=decide_eq_true (Ω:((w:Nat):Int)<(nb:Nat))
  obtain⟨n1,hn1⟩:∃n1,n1=100+60*w:=⟨_,rfl⟩;rw[←hn1];have NB:=(⟨nmA (Ω:0<n1),nmA (Ω:1<n1)⟩:_∧_);have h1:=c91 nb n f q fav c d st (f w) (q w);have hb:=yD f q r w (fun i hi=>hq i Ω);have hqw:=hq w hwm;(repeat' (first|refine sD ?_ ?_<;>intro _|refine aAc ?_|(simp -dsimp only[↓RP,RQ,xa0,reduceIte,reduceCtorEq,xa1,xa2,xa3,xa4,hlt,qJ,TYQ,TYP,NB,QS,hr0,TYR,QT,QN])))
  all_goals try exact Ωb
  refine qm (h1) ΩA Ωa ?_;(repeat' (first|refine sD ?_ ?_<;>intro _|refine aAc ?_|(simp -dsimp only[↓RP,RQ,xa0,reduceIte,reduceCtorEq,xa1,xa2,xa3,xa4,QT,qJ,TYQ,TYP,NB,QS,hr0,TYR,QN])))
  all_goals try exact Ωb
  all_goals
   rename_i hc;refine⟨w+1,hwm,Ω,weakSU Ω (by simp[zo,Go.Sx.look,V2,hc]) (SubHp.skip ?_ (SubHp.refl _))⟩;simp only[blk];rw[if_neg Ω,if_neg Ω]
 ·obtain rfl:nb=w:=by omega
  have hlt:=decide_eq_false (Ω:¬((nb:Nat):Int)<(nb:Nat));(repeat' (first|refine sD ?_ ?_<;>intro _|refine aAc ?_|(simp -dsimp only[↓RP,RQ,xa0,reduceIte,reduceCtorEq,xa1,xa2,xa3,xa4,hlt,qJ,TYQ,TYP,NB,QS,hr0,TYR,QT,QN])))
  all_goals try exact Ωb
end Go.Tn
end
section
namespace Go.Tn
open Go.Proofs
open Go.Sx
theorem qoM(m:Nat)(u:Nat→Int)(hm:m≤1000000)(hu:∀i,i+1<m→u i<u (i+1)):qf Tryz.prog 185 [ints m u] (B true):=by
 refine qg Tryz.func185 rfl Ωc follows Ωc _ _ (by rw[Tryz.ntmps185];simp) Ωh ?_;have NB:True:=trivial;have hr0:True:=trivial;unfold ints B;(repeat' (first|refine sD ?_ ?_<;>intro _|refine aAc ?_|(simp -dsimp only[↓RP,RQ,xa0,reduceIte,reduceCtorEq,xa1,xa2,xa3,xa4,TYQ,TYP,NB,QS,hr0,TYR,QT,QN])))
 all_goals try exact Ωb
 refine qo (fun(w:Nat)=>w≤m) (fun w=>⟨[(0,.arr false false m 1 (fun i _=>.val (.int .i64 (u i)))),(4,.arr false false m 1 (fun i _=>.val (.int .i64 (u i)))),(5,.val (.int .i64 (m:Nat))),(6,.val (.int .i64 (w:Nat)))],[],40+30*w⟩) (fun w=>m - w) 0 (xb6 _) (weakSU Ω Ωf (SubHp.refl _)) fun w hw=>?_;by_cases hwm:w<m
 ·have hlt:=decide_eq_true (Ω:((w:Nat):Int)<(m:Nat))
  by_cases h0:w=0
  ·subst h0
   have dg:=decide_eq_false (Ω:¬(0:Int)<((0:Nat):Int));(repeat' (first|refine sD ?_ ?_<;>intro _|refine aAc ?_|(simp -dsimp only[↓RP,RQ,xa0,reduceIte,reduceCtorEq,xa1,xa2,xa3,xa4,hlt,dg,TYQ,TYP,NB,QS,hr0,TYR,QT,QN])))
   all_goals try exact Ωb
   exact⟨1,hwm,Ω,weakSU Ω Ωf (SubHp.refl _)⟩
  ·have dg:=decide_eq_true (Ω:(0:Int)<((w:Nat):Int))
   have hlt3:=hu (w - 1) Ω;rw[show w - 1+1=w by omega]at hlt3;have tn:Int.toNat ((w:Nat) - 1:Int)=w - 1:=by omega
   have dl:=decide_eq_false (Ω:¬u w≤u (w - 1));(repeat' (first|refine sD ?_ ?_<;>intro _|refine aAc ?_|(simp -dsimp only[↓RP,RQ,xa0,reduceIte,reduceCtorEq,xa1,xa2,xa3,xa4,hlt,dg,tn,dl,TYQ,TYP,NB,QS,hr0,TYR,QT,QN])))
   all_goals try exact Ωb
   refine⟨w+1,hwm,Ω,weakSU Ω Ωf (SubHp.refl _)⟩
 ·obtain rfl:m=w:=by omega
  have hlt:=decide_eq_false (Ω:¬((m:Nat):Int)<(m:Nat));(repeat' (first|refine sD ?_ ?_<;>intro _|refine aAc ?_|(simp -dsimp only[↓RP,RQ,xa0,reduceIte,reduceCtorEq,xa1,xa2,xa3,xa4,hlt,TYQ,TYP,NB,QS,hr0,TYR,QT,QN])))
  all_goals try exact Ωb
end Go.Tn
end
section
namespace Go.Tn
open Go.Sx
theorem YD(b:Nat→Bool):∀(k i:Nat),(∃j,i≤j∧j<i+k∧b j=true)→∃j:Nat,zx b i k=j∧i≤j∧j<i+k∧b j=true
 |0,i,⟨j,h1,h2,_⟩=>by omega
 |k+1,i,⟨j,h1,h2,h3⟩=>by
  show ∃j':Nat,(if b i=true then(i:Int)else zx b (i+1) k)=j'∧_;by_cases e:b i=true
  ·exact⟨i,by rw[if_pos e],xa5 _,Ω,e⟩
  ·have hj:i+1≤j:=by
    refine xf9 fun hn=>e ?_;obtain rfl:j=i:=by omega
    exact h3
   obtain⟨j',q1,q2,q3,q4⟩:=YD b k (i+1) ⟨j,hj,Ω,h3⟩;exact⟨j',by rw[if_neg e];exact q1,Ω,Ω,q4⟩
theorem qmn{l:List Nat}{i:Nat}(h:l.Nodup)(hi:i<l.length)(x:Nat):x∈l.eraseIdx i↔x∈l∧x≠l[i]:=by
 rw[List.mem_eraseIdx_iff_getElem];constructor
 ·rintro⟨j,hj,hne,rfl⟩
  refine⟨List.getElem_mem _,fun e=>hne ?_⟩;exact(List.getElem_inj h).1 e
 ·rintro⟨hm,hne⟩
  obtain⟨j,hj,rfl⟩:=List.getElem_of_mem hm;exact⟨j,hj,fun e=>hne (by subst e;rfl),rfl⟩
theorem qmo{l:List Nat}{i n nn:Nat}{row r:Nat→Nat→SV}(hn:n=l.length)(hi:i<n)(hnn:n≤nn)(h0:∀x (hx:x<l.length),row x 0=.val (.int .i64 (l[x]:Nat)))
  (hr:∀x,x<nn→r x 0=if n -(i+1 - i)≤x∧x<n then .val (.int .i64 0)else gu row i (i+1) (n -(i+1)) x 0) :
  ∀x (hx:x<(l.eraseIdx i).length),r x 0=.val (.int .i64 ((l.eraseIdx i)[x]:Nat)):=by
 intro x hx;have hl:(l.eraseIdx i).length=l.length - 1:=List.length_eraseIdx_of_lt Ω;rw[hr x Ω,if_neg Ω];rw[List.getElem_eraseIdx];unfold gu;by_cases e:x<i
 ·rw[if_neg Ω]
  rw[h0 x Ω];simp[e]
 ·rw[if_pos ⟨Ω,Ω⟩]
  rw[show i+1+(x - i)=x+1 by omega,h0 (x+1) Ω];simp[e]
end Go.Tn
end
section
namespace Go.Tn
open Go.Proofs
open Go.Sx
def lft(n:Nat)(G:List (List Nat))(g w:Nat)(L:List Nat):Prop:=L.Nodup∧∀x,x∈L↔x<n∧x∉(G.take g).flatten++(G.getD g []).take w
def rwL(L:List Nat)(r:Nat→Nat→SV):Prop:=∀x (hx:x<L.length),r x 0=.val (.int .i64 (L[x]:Nat))
theorem qko{G:List (List Nat)}{g:Nat}(hg:g<G.length):G=G.take g++G.getD g [] :: G.drop (g+1):=by
 rw[xc6,xc7 hg];show G=G.take g++G[g] :: G.drop (g+1);rw[←List.drop_eq_getElem_cons hg,List.take_append_drop]
theorem qmp{n g w:Nat}{G:List (List Nat)}{L:List Nat}(hG2:G.flatten.Nodup)(hG3:∀x,x∈G.flatten↔x<n)(h:lft n G g w L)(hg:g<G.length)(hw:w<(G.getD g []).length):(G.getD g [])[w]∈L:=by
 have hs:=qko hg;rw[h.2];have hm:(G.getD g [])[w]∈G.flatten:=List.mem_flatten.2 ⟨G.getD g [],by rw[xc6,xc7 hg];exact List.getElem_mem _,List.getElem_mem _⟩;refine⟨(hG3 _).1 hm,fun hx=>?_⟩;rw[hs,List.flatten_append,List.flatten_cons]at hG2;rw[List.nodup_append]at hG2;obtain⟨_,h2,h3⟩:=hG2;rcases List.mem_append.1 hx with h4|h4
 ·exact h3 _ h4 _ (List.mem_append.2 (.inl (List.getElem_mem _))) rfl
 ·have h5:=(List.nodup_append.1 h2).1
  obtain⟨j,hj,e⟩:=List.getElem_of_mem h4;rw[xd9]at hj;rw[List.getElem_take]at e;have:=(List.getElem_inj h5).1 e;omega
theorem qib{n g w i:Nat}{G:List (List Nat)}{L:List Nat}(h:lft n G g w L)(hw:w<(G.getD g []).length)(hi:i<L.length)(e:L[i]=(G.getD g [])[w]):lft n G g (w+1) (L.eraseIdx i):=by
 refine⟨h.1.sublist (List.eraseIdx_sublist _ _),fun x=>?_⟩;rw[qmn h.1 hi,h.2,e,List.take_add_one,xc7 hw];simp only[xd4,Option.toList_some,xe0,not_or,ne_eq];constructor
 ·rintro⟨⟨h1,h2,h3⟩,h4⟩;exact⟨h1,h2,h3,h4⟩
 ·rintro⟨h1,h2,h3,h4⟩;exact⟨⟨h1,h2,h3⟩,h4⟩
theorem qeJ{n g:Nat}{G:List (List Nat)}{L:List Nat}(h:lft n G g (G.getD g []).length L)(hg:g<G.length):lft n G (g+1) 0 L:=by
 refine⟨h.1,fun x=>?_⟩;have e:G.take (g+1)=G.take g++[G.getD g []]:=by
  rw[List.take_add_one,xc7 hg,xc6,xc7 hg];rfl
 rw[h.2,List.take_length,e,List.flatten_append];simp
theorem e92(n nb:Nat)(f q:Nat→Int)(fav:Bool)(c d st:Int)(hn1:2≤n)(hn:n≤8)(hnb:nb≤100)(hf:∀i,i<nb→0≤f i∧f i<n)(hq:∀i,i<nb→1≤q i∧q i≤1000)(hc:0≤c∧c≤1000000)(hd:0≤d∧d≤500)(hst:1≤st∧st≤100)(G:List (List Nat))(hG:G.length≤8)(hG0:∀g,g∈G→g.length≤8)(hG1:∀g,g∈G→g≠[]∧g.Pairwise (· < ·))(hG2:G.flatten.Nodup)(hG3:∀x,x∈G.flatten↔x<n)(id:Nat)(rest:List (Nat×Blk))(hr:Under rest id):EffVC Tryz.prog 92 [bkS n nb f (fun _=>-1) q fav c d st,.arr false false G.length 1 (fun i _=>.arr false false (G.getD i []).length 1 (fun j _=>.val (.int .i64 ((G.getD i []).getD j 0:Nat))))] rest id (fun hp' nid' res=>
  ∃tid mid,id≤mid∧mid<tid∧tid<nid'∧hp'=(tid,.cells 167 (tlL n nb f q fav c d st (amx (cV f q nb) n:Nat) (.mp mid) (c+100*sQ q nb) 0 (zc q d nb) 0 0 (c+100*sQ q nb - zc q d nb))) ::(mid,.map (ql true [.i .i64,.i .i64]) (uD f nb) (uG f q nb)) :: rest∧res=.tup [.ptr tid 0,I 0]):=by
 refine vD follows Tryz.func92 rfl Ωc Ωc (by rw[Tryz.ntmps92];simp) fun out=>?_;have hr0:blk rest id=none:=hr.none (xa5 _);have NB:True:=trivial;unfold bkS;(repeat' (first|refine sD ?_ ?_<;>intro _|refine aAc ?_|(simp -dsimp only[↓RP,RQ,xa0,reduceIte,reduceCtorEq,xa1,xa2,xa3,xa4,TYQ,TYP,NB,QS,hr0,TYR,QT,QN])))
 all_goals try exact Ωb
 refine jd Ωx (e95 n nb f q fav c d st hn1 hn hnb hf hq hc hd hst _ _ ((hr.mono (Nat.le_add_right id _)).cons Ω)) fun hp' nid' res ⟨tid,mid,q1,q2,q3,q4,q5⟩=>?_;subst q4 q5;have h184:=qnH n nb f q fav c d st (amx (cV f q nb) n:Nat) .top yj (c+100*sQ q nb) 0 (zc q d nb) 0 0 (c+100*sQ q nb - zc q d nb) Ω hn;(repeat' (first|refine sD ?_ ?_<;>intro _|refine aAc ?_|(simp -dsimp only[↓RP,RQ,xa0,reduceIte,reduceCtorEq,xa1,xa2,xa3,xa4,TYQ,TYP,NB,QS,hr0,TYR,QT,QN])))
 all_goals try exact Ωb
 refine callN h184 (by simp only[SubL,and_true];exact Zv (M:=.mp mid) ΩY) (by simp[FreshO]) Ωag ?_;(repeat' (first|refine sD ?_ ?_<;>intro _|refine aAc ?_|(simp -dsimp only[↓RP,RQ,xa0,reduceIte,reduceCtorEq,xa1,xa2,xa3,xa4,TYQ,TYP,NB,QS,hr0,TYR,QT,QN])))
 all_goals try exact Ωb
 obtain⟨lid,hlid⟩:∃lid,lid=nid'+10:=⟨_,rfl⟩;rw[←hlid];refine qo (fun(z:Nat×List Nat×(Nat→Nat→SV)×Nat)=>z.1≤G.length∧lft n G z.1 0 z.2.1∧rwL z.2.1 z.2.2.1∧z.2.1.length≤n∧lid<z.2.2.2) (fun z=>⟨[(1,.arr false false G.length 1 (fun i _=>.arr false false (G.getD i []).length 1 (fun j _=>.val (.int .i64 ((G.getD i []).getD j 0:Nat))))),(4,.val (.pointer none)),(5,.val (.int .i64 0)),(6,.ptr tid 0),(8,.vec lid z.2.1.length 1),(24,.arr false false G.length 1 (fun i _=>.arr false false (G.getD i []).length 1 (fun j _=>.val (.int .i64 ((G.getD i []).getD j 0:Nat))))),(25,.val (.int .i64 (G.length:Nat))),(26,.val (.int .i64 (z.1:Nat)))],(lid,.rows 3 1 n z.2.2.1) ::(tid,.cells 167 (tlL n nb f q fav c d st (amx (cV f q nb) n:Nat) (.mp mid) (c+100*sQ q nb) 0 (zc q d nb) 0 0 (c+100*sQ q nb - zc q d nb))) ::(mid,.map (ql true [.i .i64,.i .i64]) (uD f nb) (uG f q nb)) :: rest,z.2.2.2⟩) (fun z=>G.length - z.1) (0,List.range n,fun i _=>.val (.int .i64 (i:Nat)),nid'+15) ⟨xb6 _,⟨List.nodup_range,fun x=>Ωg⟩,fun x hx=>Ωg,Ωg,Ωe⟩ (weakSU (xa5 _) Ωf (SubHp.cons (SubHp.cons (SubHp.cons (SubHp.skip hr0 (SubHp.refl _)))))) fun z hz=>?_;obtain⟨g,L,r,n1⟩:=z;obtain⟨hg,hL,hrw,hLn,hn1'⟩:=hz;dsimp only at hg hL hrw hLn hn1' ⊢;have NB:=(⟨nmA (Ω:lid<n1),nmA (Ω:tid<n1),nmA (Ω:mid<n1),nmE (Ω:lid≠tid),nmE (Ω:lid≠mid),nmE (Ω:tid≠mid)⟩:_∧_∧_∧_∧_∧_);by_cases hgl:g<G.length
 ·have hlt:=decide_eq_true (Ω:((g:Nat):Int)<(G.length:Nat))
  obtain⟨gr,hgr⟩:∃gr,gr=G.getD g []:=⟨_,rfl⟩;have hmem:gr∈G:=by rw[hgr,xc6,xc7 hgl];exact List.getElem_mem _
  have⟨hne,hinc⟩:=hG1 gr hmem;have hpos:0<gr.length:=List.length_pos_iff.2 hne;have dl:=decide_eq_false (Ω:¬((gr.length:Nat):Int)=0);have hgrn:gr.length≤1000000:=by have:=hG0 gr hmem;omega
  have h185:=qoM gr.length (fun j=>(gr.getD j 0:Nat)) hgrn (fun i hi=>by
   have:=List.pairwise_iff_getElem.1 hinc i (i+1) Ω hi Ω;rw[xc6,xc6,xc7 Ω,xc7 hi];simpa using this)
  have hgr':=hgr.symm;(repeat' (first|refine sD ?_ ?_<;>intro _|refine aAc ?_|(simp -dsimp only[↓RP,RQ,xa0,reduceIte,reduceCtorEq,xa1,xa2,xa3,xa4,hlt,hgr',dl,TYQ,TYP,NB,QS,hr0,TYR,QT,QN])))
  all_goals try exact Ωb
  refine qm (h185) (by(simp -dsimp only[↓RP,RQ,xa0,reduceIte,reduceCtorEq,xa1,xa2,xa3,xa4,ints]);all_goals (try simp[Go.Sx.Sub])) Ωa ?_;(repeat' (first|refine sD ?_ ?_<;>intro _|refine aAc ?_|(simp -dsimp only[↓RP,RQ,xa0,reduceIte,reduceCtorEq,xa1,xa2,xa3,xa4,QT,hgr',dl,TYQ,TYP,NB,QS,hr0,TYR,QN])))
  all_goals try exact Ωb
  have ARR:True:=trivial;refine qo (fun(z:Nat×List Nat×(Nat→Nat→SV)×Nat)=>z.1≤gr.length∧lft n G g z.1 z.2.1∧rwL z.2.1 z.2.2.1∧z.2.1.length≤n∧lid<z.2.2.2) (fun z=>⟨[(1,.arr false false G.length 1 (fun i _=>.arr false false (G.getD i []).length 1 (fun j _=>.val (.int .i64 ((G.getD i []).getD j 0:Nat))))),(4,.val (.pointer none)),(5,.val (.int .i64 0)),(6,.ptr tid 0),(8,.vec lid z.2.1.length 1),(24,.arr false false G.length 1 (fun i _=>.arr false false (G.getD i []).length 1 (fun j _=>.val (.int .i64 ((G.getD i []).getD j 0:Nat))))),(25,.val (.int .i64 (G.length:Nat))),(26,.val (.int .i64 (g:Nat))),(38,.arr false false gr.length 1 (fun j _=>.val (.int .i64 (gr.getD j 0:Nat)))),(39,.val (.int .i64 (gr.length:Nat))),(40,.val (.int .i64 (z.1:Nat)))],(lid,.rows 3 1 n z.2.2.1) ::(tid,.cells 167 (tlL n nb f q fav c d st (amx (cV f q nb) n:Nat) (.mp mid) (c+100*sQ q nb) 0 (zc q d nb) 0 0 (c+100*sQ q nb - zc q d nb))) ::(mid,.map (ql true [.i .i64,.i .i64]) (uD f nb) (uG f q nb)) :: rest,z.2.2.2⟩) (fun z=>gr.length - z.1) (0,L,r,n1+40) ⟨xb6 _,hL,hrw,hLn,Ωe⟩ (weakSU Ωe Ωf (SubHp.refl _)) fun z hz=>?_;clear NB;obtain⟨w,L2,r2,n2⟩:=z;obtain⟨hw,hL2,hrw2,hLn2,hn2⟩:=hz;dsimp only at hw hL2 hrw2 hLn2 hn2 ⊢;have NB:=(⟨nmA (Ω:lid<n2),nmA (Ω:tid<n2),nmA (Ω:mid<n2),nmE (Ω:lid≠tid),nmE (Ω:lid≠mid),nmE (Ω:tid≠mid)⟩:_∧_∧_∧_∧_∧_);by_cases hwl:w<gr.length
  ·have hlt2:=decide_eq_true (Ω:((w:Nat):Int)<(gr.length:Nat))
   have hin:=qmp hG2 hG3 hL2 hgl (w:=w) (by rw[←hgr];exact hwl);have hgw:(gr.getD w 0)∈L2:=by
    rw[xc6,xc7 hwl];subst hgr;exact hin
   obtain⟨p,hp,hpe⟩:=List.getElem_of_mem hgw;have h169:=qoj L2.length (fun j=>(L2.getD j 0:Nat)) (gr.getD w 0:Nat) Ω;obtain⟨i,e1,_,e3,e4⟩:=YD (vAt (fun j=>(L2.getD j 0:Nat)) (gr.getD w 0:Nat)) L2.length 0 ⟨p,xb6 _,Ω,by simp only[vAt,decide_eq_true_eq];rw[xc6 (l:=L2),xc7 hp,←hpe];rfl⟩;rw[e1]at h169;have hi:i<L2.length:=by omega
   have hie:L2[i]=(G.getD g [])[w]'(by rw[←hgr];exact hwl):=by
    simp only[vAt,decide_eq_true_eq]at e4;rw[xc6 (l:=L2),xc7 hi,xc6 (l:=gr),xc7 hwl]at e4;subst hgr;have e6:(((G.getD g [])[w]:Nat):Int)=(L2[i]:Nat):=e4;omega
   have dneg:=decide_eq_false (Ω:¬((i:Nat):Int)<0);have hle:L2.length -(i+1 - i)=(L2.eraseIdx i).length:=by rw[List.length_eraseIdx_of_lt hi];omega
   have k186:∀id',lid<id'→EffVC Tryz.prog 186 [.vec lid L2.length 1,.val (.int .i64 (i:Nat)),.val (.int .i64 ((i:Nat)+1))] ((lid,.rows 3 1 n r2) ::(tid,.cells 167 (tlL n nb f q fav c d st (amx (cV f q nb) n:Nat) (.mp mid) (c+100*sQ q nb) 0 (zc q d nb) 0 0 (c+100*sQ q nb - zc q d nb))) ::(mid,.map (ql true [.i .i64,.i .i64]) (uD f nb) (uG f q nb)) :: rest) id' (fun hp' nid' res=>nid'=id'+60∧res=.vec lid (L2.length -(i+1 - i)) 1∧∃r,(∀x,x<n→r x 0=if L2.length -(i+1 - i)≤x∧x<L2.length then .val (.int .i64 0)else gu r2 i (i+1) (L2.length -(i+1)) x 0)∧hp'=setBlk ((lid,.rows 3 1 n r2) ::(tid,.cells 167 (tlL n nb f q fav c d st (amx (cV f q nb) n:Nat) (.mp mid) (c+100*sQ q nb) 0 (zc q d nb) 0 0 (c+100*sQ q nb - zc q d nb))) ::(mid,.map (ql true [.i .i64,.i .i64]) (uD f nb) (uG f q nb)) :: rest) lid (.rows 3 1 n r)):=fun id' h'=>by
    have:=qnE ((lid,.rows 3 1 n r2) ::(tid,.cells 167 (tlL n nb f q fav c d st (amx (cV f q nb) n:Nat) (.mp mid) (c+100*sQ q nb) 0 (zc q d nb) 0 0 (c+100*sQ q nb - zc q d nb))) ::(mid,.map (ql true [.i .i64,.i .i64]) (uD f nb) (uG f q nb)) :: rest) id' lid L2.length n i (i+1) r2 Ω hLn2 Ω Ω ΩY h' (fun x hx=>⟨_,hrw2 x hx⟩);rw[show(((i+1:Nat)):Int)=(i:Nat)+1 by omega]at this;exact this
   (repeat' (first|refine sD ?_ ?_<;>intro _|refine aAc ?_|(simp -dsimp only[↓RP,RQ,xa0,reduceIte,reduceCtorEq,xa1,xa2,xa3,xa4,hlt2,TYQ,TYP,NB,QS,hr0,TYR,QT,QN])))
   all_goals try exact Ωb
   refine qm (h169) (by simp only[SubL,ints,I,Go.Sx.Sub,blk,if_true,true_and,and_true];exact⟨hLn2,fun a b ha hb=>by(obtain rfl:b=0:=by omega);rw[hrw2 a ha,xc6,xc7 ha];rfl⟩) Ωa ?_;(repeat' (first|refine sD ?_ ?_<;>intro _|refine aAc ?_|(simp -dsimp only[↓RP,RQ,xa0,reduceIte,reduceCtorEq,xa1,xa2,xa3,xa4,QT,dneg,TYQ,TYP,NB,QS,hr0,TYR,QN])))
   all_goals try exact Ωb
   refine jd Ωx (k186 _ Ω) fun hp' nid2 res ⟨qa,qb,r',qc,qd⟩=>?_;rw[hle]at qb;subst qa qb qd;(repeat' (first|refine sD ?_ ?_<;>intro _|refine aAc ?_|(simp -dsimp only[↓RP,RQ,xa0,reduceIte,reduceCtorEq,xa1,xa2,xa3,xa4,setBlk,TYQ,TYP,NB,QS,hr0,TYR,QT,QN])))
   all_goals try exact Ωb
   refine⟨(w+1,L2.eraseIdx i,r',_),⟨hwl,qib hL2 (by rw[←hgr];exact hwl) hi hie,qmo rfl hi hLn2 hrw2 qc,?hz3,?hz4⟩,Ωe,weakSU (xa5 _) Ωf (SubHp.refl _)⟩
   case hz3=>dsimp only;omega
   case hz4=>dsimp only;omega
  ·obtain rfl:w=gr.length:=by omega
   have hlt2:=decide_eq_false (Ω:¬((gr.length:Nat):Int)<(gr.length:Nat));(repeat' (first|refine sD ?_ ?_<;>intro _|refine aAc ?_|(simp -dsimp only[↓RP,RQ,xa0,reduceIte,reduceCtorEq,xa1,xa2,xa3,xa4,hlt2,TYQ,TYP,NB,QS,hr0,TYR,QT,QN])))
   all_goals try exact Ωb
   refine⟨(g+1,L2,r2,_),⟨hgl,qeJ (by rw[←hgr];exact hL2) hgl,hrw2,hLn2,?hz1⟩,Ωe,weakSU (xa5 _) Ωf (SubHp.refl _)⟩;dsimp only;omega
 ·obtain rfl:g=G.length:=by omega
  have hlt:=decide_eq_false (Ω:¬((G.length:Nat):Int)<(G.length:Nat));have hL0:L=[]:=by
   refine List.eq_nil_iff_forall_not_mem.2 fun x hx=>?_;have:=(hL.2 x).1 hx;rw[List.take_length]at this;exact this.2 (List.mem_append.2 (.inl ((hG3 x).2 this.1)))
  subst hL0;(repeat' (first|refine sD ?_ ?_<;>intro _|refine aAc ?_|(simp -dsimp only[↓RP,RQ,xa0,reduceIte,reduceCtorEq,xa1,xa2,xa3,xa4,hlt,TYQ,TYP,NB,QS,hr0,TYR,QT,QN])))
  all_goals try exact Ωb
  exact⟨_,_,_,vQ (fr':=[(0,_)]) ⟨.inr rfl,trivial⟩ (SubHp.skip (by simp only[blk];rw[if_neg Ω,if_neg Ω];exact hr.none Ω) (SubHp.refl _)),tid,mid,Ω,Ω,Ω,rfl,rfl⟩
end Go.Tn
end
section
namespace Go.Tn
open Go.Proofs
open Go.Sx
theorem qoN(a:Int):qf Tryz.prog 405 [I a] (B false):=by
 refine qg Tryz.func405 rfl Ωc follows Ωc _ _ (by rw[Tryz.ntmps405];simp) Ωh ?_;have NB:True:=trivial;have hr0:True:=trivial;unfold I B;(repeat' (first|refine sD ?_ ?_<;>intro _|refine aAc ?_|(simp -dsimp only[↓RP,RQ,xa0,reduceIte,reduceCtorEq,xa1,xa2,xa3,xa4,TYQ,TYP,NB,QS,hr0,TYR,QT,QN])))
 all_goals try exact Ωb
 all_goals (refine vV ?_;simp)
theorem qoO(a b:Int):qf Tryz.prog 389 [I a,I b] (B (decide (a<b))):=by
 refine qg Tryz.func389 rfl Ωc follows Ωc _ _ (by rw[Tryz.ntmps389];simp) Ωh ?_;have NB:True:=trivial;have hr0:True:=trivial;have h1:=qoN a;unfold I B;(repeat' (first|refine sD ?_ ?_<;>intro _|refine aAc ?_|(simp -dsimp only[↓RP,RQ,xa0,reduceIte,reduceCtorEq,xa1,xa2,xa3,xa4,TYQ,TYP,NB,QS,hr0,TYR,QT,QN])))
 all_goals try exact Ωb
 refine qm (h1) ΩZ Ωa ?_;(repeat' (first|refine sD ?_ ?_<;>intro _|refine aAc ?_|(simp -dsimp only[↓RP,RQ,xa0,reduceIte,reduceCtorEq,xa1,xa2,xa3,xa4,QT,TYQ,TYP,NB,QS,hr0,TYR,QN])))
 all_goals try exact Ωb
theorem qoP(m:Nat)(u:Nat→Int)(h1:1≤m)(hm:m≤1000000)(hu:∀i,i+1<m→u i<u (i+1)):qf Tryz.prog 383 [ints m u,I 0,I m] (.tup []):=by
 refine qg Tryz.func383 rfl Ωc follows Ωc _ _ (by rw[Tryz.ntmps383];simp) Ωh ?_;have NB:True:=trivial;have hr0:True:=trivial;unfold ints I;(repeat' (first|refine sD ?_ ?_<;>intro _|refine aAc ?_|(simp -dsimp only[↓RP,RQ,xa0,reduceIte,reduceCtorEq,xa1,xa2,xa3,xa4,TYQ,TYP,NB,QS,hr0,TYR,QT,QN])))
 all_goals try exact Ωb
 refine qo (fun(w:Nat)=>1≤w∧w≤m) (fun w=>⟨[(0,.arr false false m 1 (fun i _=>.val (.int .i64 (u i)))),(1,.val (.int .i64 0)),(2,.val (.int .i64 (m:Nat))),(6,.val (.int .i64 (w:Nat)))],[],40+60*w⟩) (fun w=>m - w) 1 ⟨xa5 _,h1⟩ (weakSU Ω Ωf (SubHp.refl _)) fun w hw=>?_;obtain⟨hw1,hw⟩:=hw;by_cases hwm:w<m
 ·have hlt:=decide_eq_true (Ω:((w:Nat):Int)<(m:Nat))
  (repeat' (first|refine sD ?_ ?_<;>intro _|refine aAc ?_|(simp -dsimp only[↓RP,RQ,xa0,reduceIte,reduceCtorEq,xa1,xa2,xa3,xa4,hlt,TYQ,TYP,NB,QS,hr0,TYR,QT,QN])))
  all_goals try exact Ωb
  refine qo (fun(_:Unit)=>True) (fun _=>⟨[(0,.arr false false m 1 (fun i _=>.val (.int .i64 (u i)))),(1,.val (.int .i64 0)),(2,.val (.int .i64 (m:Nat))),(6,.val (.int .i64 (w:Nat))),(7,.val (.int .i64 (w:Nat)))],[],60+60*w⟩) (fun _=>0) () trivial (weakSU Ω Ωf (SubHp.refl _)) fun z hz=>?_;have dg:=decide_eq_true (Ω:(0:Int)<((w:Nat):Int));have hlt3:=hu (w - 1) Ω;rw[show w - 1+1=w by omega]at hlt3;have tn:Int.toNat ((w:Nat) - 1:Int)=w - 1:=by omega
  have dl:=decide_eq_false (Ω:¬u w<u (w - 1));have h389:=qoO (u w) (u (w - 1));rw[dl]at h389;(repeat' (first|refine sD ?_ ?_<;>intro _|refine aAc ?_|(simp -dsimp only[↓RP,RQ,xa0,reduceIte,reduceCtorEq,xa1,xa2,xa3,xa4,hlt,dg,tn,TYQ,TYP,NB,QS,hr0,TYR,QT,QN])))
  all_goals try exact Ωb
  refine qm (h389) ΩZ Ωa ?_;(repeat' (first|refine sD ?_ ?_<;>intro _|refine aAc ?_|(simp -dsimp only[↓RP,RQ,xa0,reduceIte,reduceCtorEq,xa1,xa2,xa3,xa4,QT,TYQ,TYP,NB,QS,hr0,TYR,QN])))
  all_goals try exact Ωb
  refine⟨w+1,⟨Ω,hwm⟩,Ω,weakSU Ω Ωf (SubHp.refl _)⟩
 ·obtain rfl:m=w:=by omega
  have hlt:=decide_eq_false (Ω:¬((m:Nat):Int)<(m:Nat));(repeat' (first|refine sD ?_ ?_<;>intro _|refine aAc ?_|(simp -dsimp only[↓RP,RQ,xa0,reduceIte,reduceCtorEq,xa1,xa2,xa3,xa4,hlt,TYQ,TYP,NB,QS,hr0,TYR,QT,QN])))
  all_goals try exact Ωb
end Go.Tn
end
section
namespace Go.Tl
open Go.Proofs
open Go.Sx
theorem follows:Tryz.prog.follows .mixedOrders=true:=by kernel_rfl
theorem TYl:qn Tryz.prog 2=some { agg:=false,size:=1,zero:=some [Value.int IntKind.i64 (0)],d:=D.int IntKind.i64 }∧qn Tryz.prog 3=some { agg:=false,size:=1,zero:=some [Value.int IntKind.i64 (0)],d:=D.int IntKind.i64 }∧qn Tryz.prog 4=some { agg:=false,size:=1,zero:=some [Value.bool false],d:=D.bool }∧qn Tryz.prog 32=some { agg:=false,size:=1,zero:=some [Value.slice none 0 0],d:=D.slice 2 1 }∧qn Tryz.prog 43=some { agg:=false,size:=1,zero:=some [Value.slice none 0 0],d:=D.slice 32 1 }:=⟨Ωc,Ωc,Ωc,Ωc,Ωc⟩
theorem by2:qF Tryz.prog 2=8:=by kernel_rfl
def I(n:Int):SV:=.val (.int .i64 n)
def ints(n:Nat)(u:Nat→Int):SV:=.arr false false n 1 (fun i _=>.val (.int .i64 (u i)))
theorem gI{a b:Int}(h:a=b):SV.val (Value.int IntKind.i64 a)=SV.val (Value.int IntKind.i64 b):=by rw[h]
def kT(f:Nat→Int):Nat→Int
 |0=>f 0
 |k+1=>min (kT f k) (f (k+1))
theorem GF(f:Nat→Int):∀m k,k≤m→kT f m≤f k
 |0,k,h=>by
   have:k=0:=by omega
   subst this;exact Int.le_refl _
 |m+1,k,h=>by
  simp only[kT];by_cases e:k=m+1
  ·subst e;omega
  ·have:=GF f m k Ω;omega
theorem GG(f:Nat→Int):∀m,∃k,k≤m∧kT f m=f k
 |0=>⟨0,xa5 _,rfl⟩
 |m+1=>by
  obtain⟨k,hk,e⟩:=GG f m;simp only[kT];by_cases h:f (m+1)≤kT f m
  ·exact⟨m+1,xa5 _,Ω⟩
  ·exact⟨k,Ω,Ω⟩
structure Curve where
 m:Nat
 u:Nat→Int
structure Curve.Fine(c:Curve):Prop where
 m1:1≤c.m
 m6:c.m≤6
 rg:∀i,i<c.m→0≤c.u i∧c.u i≤100
 up:∀i,i<c.m - 1→c.u i≤c.u (i+1)
theorem Curve.Fine.mono{c:Curve}(h:c.Fine):∀j i,i≤j→j<c.m→c.u i≤c.u j
 |0,i,hi,_=>by
   have:i=0:=by omega
   subst this;exact Int.le_refl _
 |j+1,i,hi,hj=>by
  by_cases e:i=j+1
  ·subst e;exact Int.le_refl _
  ·exact Int.le_trans (h.mono j i Ω Ω) (h.up j Ω)
def Curve.L1(c:Curve)(k:Nat):Int:=((k / c.m:Nat):Int)*c.u (c.m - 1)+(if 0<k % c.m then c.u (k % c.m - 1)else 0)
theorem qkp(c:Curve):c.L1 0=0:=by unfold Curve.L1;simp
def Ls(C:Nat→Curve):Nat→Nat→Int
 |0=>(C 0).L1
 |i+1=>fun k=>kT (fun p=>Ls C i (k - p)+(C (i+1)).L1 p) k
theorem Ls_le(C:Nat→Curve)(i k p:Nat)(hp:p≤k):Ls C (i+1) k≤Ls C i (k - p)+(C (i+1)).L1 p:=
 GF (fun p=>Ls C i (k - p)+(C (i+1)).L1 p) k p hp
theorem Ls_at(C:Nat→Curve)(i k:Nat):∃p,p≤k∧Ls C (i+1) k=Ls C i (k - p)+(C (i+1)).L1 p:=
 GG (fun p=>Ls C i (k - p)+(C (i+1)).L1 p) k
def Curve.sv(c:Curve):SV:=ints c.m c.u
theorem Curve.old(c:Curve):Old c.sv:=by simp[Old,Curve.sv,ints]
theorem tdN(k m:Nat):(k:Int).tdiv (m:Int)=((k / m:Nat):Int):=rfl
theorem tmN(k m:Nat):(k:Int).tmod (m:Int)=((k % m:Nat):Int):=rfl
theorem qlm(c:Curve)(h:c.Fine)(k:Nat)(hk:k≤400):0≤((k / c.m:Nat):Int)*c.u (c.m - 1)∧((k / c.m:Nat):Int)*c.u (c.m - 1)≤40000:=by
 have h1:=h.m1;have h2:=h.rg (c.m - 1) Ω;have h3:k / c.m≤400:=xc1 (Nat.div_le_self _ _) hk;generalize k / c.m=q at h3 ⊢;have h4:((q:Nat):Int)*c.u (c.m - 1)≤((q:Nat):Int)*100:=Int.mul_le_mul_of_nonneg_left h2.2 Ω;have h5:0≤(q:Int)*c.u (c.m - 1):=Int.mul_nonneg Ω h2.1;omega
theorem qnK(c:Curve)(h:c.Fine)(k:Nat)(hk:k≤400):qf Tryz.prog 172 [c.sv,I k] (I (c.L1 k)):=by
 refine qg Tryz.func172 rfl Ωc follows Ωc _ _ (by rw[Tryz.ntmps172];simp) (by simp[OldL,c.old];simp[Old,I]) ?_;have h1:=h.m1;have h6:=h.m6;have hb:=qlm c h k hk;have e1:(c.m:Int) - 1=((c.m - 1:Nat):Int):=by omega
 have hr:=Nat.mod_lt k h1;have hq:k / c.m≤400:=xc1 (Nat.div_le_self _ _) hk;have eL:c.L1 k=((k / c.m:Nat):Int)*c.u (c.m - 1)+(if 0<k % c.m then c.u (k % c.m - 1)else 0):=rfl;rw[eL];have hd:=tdN k c.m;have hm:=tmN k c.m;generalize k / c.m=q at *;generalize k % c.m=r at *;unfold I
 conv=>arg 4;unfold Curve.sv ints
 by_cases h0:0<r
 ·have e2:(r:Int) - 1=((r - 1:Nat):Int):=by omega
  have hu:=h.rg (r - 1) Ω;rw[if_pos h0];(repeat' (first|refine sD ?_ ?_<;>intro _|refine aA ?_|simp -dsimp only[↓RP,RQ,implies_true,forall_const,xa0,reduceIte,reduceCtorEq,xa1,xa2,xa3,xa4,e1,e2,hd,hm,TYl,Int.toNat_natCast,Tryz.results172]))
  all_goals first|(exfalso;omega)|(first|exact True.intro|(simp only[InK];omega)|omega|(simp only[InK,ne_eq,and_true,true_and];omega)|trivial)|skip
 ·rw[if_neg h0]
  (repeat' (first|refine sD ?_ ?_<;>intro _|refine aA ?_|simp -dsimp only[↓RP,RQ,implies_true,forall_const,xa0,reduceIte,reduceCtorEq,xa1,xa2,xa3,xa4,e1,hd,hm,TYl,Int.toNat_natCast,Tryz.results172]))
  all_goals first|(exfalso;omega)|(refine gI ?_;omega)|(first|exact True.intro|(simp only[InK];omega)|omega|(simp only[InK,ne_eq,and_true,true_and];omega)|trivial)|skip
def chn(n:Nat)(C:Nat→Curve):SV:=.arr false false n 1 (fun i _=>.arr false false (C i).m 1 (fun j _=>.val (.int .i64 ((C i).u j))))
theorem qkq(n:Nat)(C:Nat→Curve):Old (chn n C):=by simp[Old,chn]
theorem Q2(c:Curve)(h:c.Fine)(k:Nat)(hk:k≤400):0≤c.L1 k∧c.L1 k≤50000:=by
 have hb:=qlm c h k hk;have h1:=h.m1;have hr:=Nat.mod_lt k h1;unfold Curve.L1;split
 ·have:=h.rg (k % c.m - 1) Ω;omega
 ·omega
theorem YE(C:Nat→Curve):∀i,(∀j,j≤i→(C j).Fine)→∀k,k≤400→0≤Ls C i k∧Ls C i k≤50000
 |0,h,k,hk=>Q2 _ (h 0 Ω) k hk
 |i+1,h,k,hk=>by
  obtain⟨p,hp,e⟩:=Ls_at C i k;have h1:=YE C i (fun j hj=>h j Ω);have h2:=Ls_le C i k 0 (xb6 _);rw[qkp,Nat.sub_zero]at h2;have h3:=h1 (k - p) Ω;have h4:=h1 k hk;have h5:=Q2 _ (h (i+1) Ω) p Ω;omega
def z1(f:Nat→Int)(k j:Nat):Int:=if j<k then f j else 0
theorem qdc(f:Nat→Int)(j:Nat):z1 f 0 j=0:=by unfold z1;rw[if_neg Ω]
theorem qic(f:Nat→Int)(k a:Nat):(if a=k then SV.val (.int .i64 (f k))else .val (.int .i64 (z1 f k a)))=.val (.int .i64 (z1 f (k+1) a)):=by
 unfold z1;by_cases e:a=k
 ·subst e;rw[if_pos rfl,if_pos Ω]
 ·rw[if_neg e]
  by_cases h:a<k
  ·rw[if_pos h,if_pos Ω]
  ·rw[if_neg h,if_neg Ω]
theorem qid(f:Nat→Int)(k a:Nat)(h:a<k):z1 f k a=f a:=by unfold z1;rw[if_pos h]
theorem qoQ(last:Nat)(hl:last≤1000000)(f:FuncId)(first caps:List SV)(hf:OldL first)(hc:OldL caps)(g:Nat→Int)(hg:∀k,k≤last→qf Tryz.prog f (first++I k :: caps) (I (g k))) :
  qf Tryz.prog 179 [I last,.fn (.func f) first caps] (I (kT g last)):=by
 refine qg Tryz.func179 rfl Ωc follows Ωc _ _ (by rw[Tryz.ntmps179];simp) (by simp only[OldL,Old,I,hf,hc,and_self]) ?_;unfold I;(repeat' (first|refine sD ?_ ?_<;>intro _|refine aA ?_|simp -dsimp only[↓RP,RQ,implies_true,forall_const,xa0,reduceIte,reduceCtorEq,xa1,xa2,xa3,xa4,TYl,Tryz.results179]));refine zt (hg 0 (xb6 _)) (subL_refl _ (Jp hf hc)) ?_;(repeat' (first|refine sD ?_ ?_<;>intro _|refine aA ?_|simp -dsimp only[↓RP,RQ,implies_true,forall_const,xa0,reduceIte,reduceCtorEq,xa1,xa2,xa3,xa4,I,TYl,Tryz.results179]));refine qo (fun(k:Nat)=>k≤last) (fun k=>⟨[(0,.val (.int .i64 last)),(1,.fn (.func f) first caps),(5,.val (.int .i64 (kT g k))),(6,.val (.int .i64 ((k:Int)+1)))],[],0⟩) (fun k=>last - k) 0 (xb6 _) (weak [] [] ?_ ?_ ?_) fun k hk=>?_
 ·(simp -dsimp only[↓RP,RQ,implies_true,forall_const,xa0,reduceIte,reduceCtorEq,xa1,xa2,xa3,xa4,kT]);all_goals (try simp)
  exact⟨wkL_refl _ hf,wkL_refl _ hc⟩
 ·(simp -dsimp only[↓RP,RQ,implies_true,forall_const,xa0,reduceIte,reduceCtorEq,xa1,xa2,xa3,xa4])
 ·(simp -dsimp only[↓RP,RQ,implies_true,forall_const,xa0,reduceIte,reduceCtorEq,xa1,xa2,xa3,xa4])
 by_cases hlt:k<last
 ·have eP:(k:Int)+1=((k+1:Nat):Int):=by omega
  (repeat' (first|refine sD ?_ ?_<;>intro _|refine aA ?_|simp -dsimp only[↓RP,RQ,implies_true,forall_const,xa0,reduceIte,reduceCtorEq,xa1,xa2,xa3,xa4,eP,TYl,Tryz.results179]))
  all_goals first|(exfalso;omega)|skip
  refine zt (hg (k+1) hlt) (subL_refl _ (Jp hf hc)) ?_;(repeat' (first|refine sD ?_ ?_<;>intro _|refine aA ?_|simp -dsimp only[↓RP,RQ,implies_true,forall_const,xa0,reduceIte,reduceCtorEq,xa1,xa2,xa3,xa4,I,eP,TYl,Tryz.results179]))
  all_goals first|(exfalso;omega)|skip
  refine⟨k+1,hlt,Ω,weak [] [] ?_ ?_ ?_⟩
  ·(simp -dsimp only[↓RP,RQ,implies_true,forall_const,xa0,reduceIte,reduceCtorEq,xa1,xa2,xa3,xa4,kT]);all_goals (try simp)
   exact⟨wkL_refl _ hf,wkL_refl _ hc⟩
  ·(simp -dsimp only[↓RP,RQ,implies_true,forall_const,xa0,reduceIte,reduceCtorEq,xa1,xa2,xa3,xa4])
  ·(simp -dsimp only[↓RP,RQ,implies_true,forall_const,xa0,reduceIte,reduceCtorEq,xa1,xa2,xa3,xa4])
 ·have hke:k=last:=by omega
  subst hke;(repeat' (first|refine sD ?_ ?_<;>intro _|refine aA ?_|simp -dsimp only[↓RP,RQ,implies_true,forall_const,xa0,reduceIte,reduceCtorEq,xa1,xa2,xa3,xa4,TYl,Tryz.results179]))
  all_goals first|(exfalso;omega)|skip
theorem qoR(N:Nat)(f:Nat→Int)(c:Curve)(h:c.Fine)(k p:Nat)(hk:k<N)(hN:N≤401)(hp:p≤k)(hf:∀j,j≤k→0≤f j∧f j≤1000000) :
  qf Tryz.prog 284 [I p,.ref false 1 (fun _=>ints N f),.ref false 1 (fun _=>I k),.ref false 1 (fun _=>c.sv)] (I (f (k - p)+c.L1 p)):=by
 refine qg Tryz.func284 rfl Ωc follows Ωc _ _ (by rw[Tryz.ntmps284];simp) (by simp only[OldL,Old,c.old,I];simp[Old,ints]) ?_;have b1:=Q2 c h p Ω;have b2:=hf (k - p) Ω;have er:(k:Int) -(p:Int)=((k - p:Nat):Int):=by omega
 unfold I
 conv=>arg 4;unfold Curve.sv ints
 (repeat' (first|refine sD ?_ ?_<;>intro _|refine aA ?_|simp -dsimp only[↓RP,RQ,implies_true,forall_const,xa0,reduceIte,reduceCtorEq,xa1,xa2,xa3,xa4,er,TYl,Int.toNat_natCast,Tryz.results284]))
 all_goals first|(exfalso;omega)|skip
 refine qm (qnK c h p Ω) (by(simp -dsimp only[↓RP,RQ,implies_true,forall_const,xa0,reduceIte,reduceCtorEq,xa1,xa2,xa3,xa4,Curve.sv,ints,I]);all_goals simp) Ωn ?_;(repeat' (first|refine sD ?_ ?_<;>intro _|refine aA ?_|simp -dsimp only[↓RP,RQ,implies_true,forall_const,xa0,reduceIte,reduceCtorEq,xa1,xa2,xa3,xa4,I,er,TYl,Int.toNat_natCast,Tryz.results284]))
 all_goals (first|exact True.intro|(simp only[InK];omega)|omega|(simp only[InK,ne_eq,and_true,true_and];omega)|trivial)
theorem c178(n:Nat)(C:Nat→Curve)(n1:1≤n)(n3:n≤3)(hC:∀i,i<n→(C i).Fine)(turns:Nat)(ht:turns≤400):zp Tryz.prog 178 [chn n C,I turns] (.rows 2 1 (turns+1) (fun j _=>I (Ls C (n - 1) j))) (.vec 0 (turns+1) 1):=by
 refine jj Tryz.func178 rfl Ωc follows Ωc _ _ _ (by rw[Tryz.ntmps178];simp) (by simp only[OldL,qkq,Old,I,and_self]) ?_;unfold I
 conv=>arg 4;unfold chn Curve.sv ints
 have eT:((turns:Int)+1).toNat=turns+1:=by omega
 (repeat' (first|refine sD ?_ ?_<;>intro _|refine aA ?_|simp -dsimp only[↓RP,RQ,implies_true,forall_const,xa0,reduceIte,reduceCtorEq,xa1,xa2,xa3,xa4,eT,by2,TYl,Int.toNat_natCast,Tryz.results178]));have eN:((n:Int) - 1).toNat=n - 1:=by omega
 refine qo (fun(k:Nat)=>k≤turns+1) (fun k=>⟨[(0,.arr false false n 1 (fun i _=>.arr false false (C i).m 1 (fun j _=>.val (.int .i64 ((C i).u j))))),(1,.val (.int .i64 turns)),(5,.ptr 61 0),(15,.val (.int .i64 ((turns+1:Nat):Int))),(16,.val (.int .i64 k))],[(61,.cells 32 [.vec 60 (turns+1) 1]),(60,.rows 2 1 (turns+1) (fun j _=>.val (.int .i64 (z1 (C 0).L1 k j))))],62⟩) (fun k=>turns+1 - k) 0 (xb6 _) (weak [(61,some 4),(60,some 3)] [] ?_ ?_ ?_) fun k hk=>?_
 ·(simp -dsimp only[↓RP,RQ,implies_true,forall_const,xa0,reduceIte,reduceCtorEq,xa1,xa2,xa3,xa4]);all_goals simp
 ·(simp -dsimp only[↓RP,RQ,implies_true,forall_const,xa0,reduceIte,reduceCtorEq,xa1,xa2,xa3,xa4,qdc]);all_goals (try simp)
 ·(simp -dsimp only[↓RP,RQ,implies_true,forall_const,xa0,reduceIte,reduceCtorEq,xa1,xa2,xa3,xa4]);all_goals simp
 by_cases hlt:k<turns+1
 ·have hL:=Q2 (C 0) (hC 0 Ω) k Ω
  (repeat' (first|refine sD ?_ ?_<;>intro _|refine aA ?_|simp -dsimp only[↓RP,RQ,implies_true,forall_const,xa0,reduceIte,reduceCtorEq,xa1,xa2,xa3,xa4,I,eT,eN,by2,TYl,Int.toNat_natCast,Tryz.results178]))
  all_goals first|(exfalso;omega)|skip
  refine qm (qnK (C 0) (hC 0 Ω) k Ω) (by(simp -dsimp only[↓RP,RQ,implies_true,forall_const,xa0,reduceIte,reduceCtorEq,xa1,xa2,xa3,xa4,Curve.sv,ints,I]);all_goals simp) Ωn ?_;(repeat' (first|refine sD ?_ ?_<;>intro _|refine aA ?_|simp -dsimp only[↓RP,RQ,implies_true,forall_const,xa0,reduceIte,reduceCtorEq,xa1,xa2,xa3,xa4,I,eT,eN,by2,TYl,Int.toNat_natCast,Tryz.results178]))
  all_goals first|(exfalso;omega)|skip
  refine⟨k+1,Ω,Ω,weak [] [] ?_ ?_ ?_⟩
  ·(simp -dsimp only[↓RP,RQ,implies_true,forall_const,xa0,reduceIte,reduceCtorEq,xa1,xa2,xa3,xa4]);all_goals simp
  ·(simp -dsimp only[↓RP,RQ,implies_true,forall_const,xa0,reduceIte,reduceCtorEq,xa1,xa2,xa3,xa4]);all_goals (try simp)
   exact fun a ha=>qic (C 0).L1 k a
  ·(simp -dsimp only[↓RP,RQ,implies_true,forall_const,xa0,reduceIte,reduceCtorEq,xa1,xa2,xa3,xa4]);all_goals simp
 ·have hke:k=turns+1:=by omega
  subst hke;(repeat' (first|refine sD ?_ ?_<;>intro _|refine aA ?_|simp -dsimp only[↓RP,RQ,implies_true,forall_const,xa0,reduceIte,reduceCtorEq,xa1,xa2,xa3,xa4,I,eT,eN,by2,TYl,Int.toNat_natCast,Tryz.results178]))
  all_goals first|(exfalso;omega)|skip
  refine qo (fun(i:Nat)=>i<n) (fun i=>⟨[(0,.arr false false n 1 (fun i _=>.arr false false (C i).m 1 (fun j _=>.val (.int .i64 ((C i).u j))))),(1,.val (.int .i64 turns)),(5,.ptr 61 0),(29,.arr false false (n - 1) 1 (fun i _=>.arr false false (C (1+i)).m 1 (fun j _=>.val (.int .i64 ((C (1+i)).u j))))),(30,.val (.int .i64 ((n - 1:Nat):Int))),(31,.val (.int .i64 i))],[(61,.cells 32 [.vec 60 (turns+1) 1]),(60,.rows 2 1 (turns+1) (fun j _=>.val (.int .i64 (Ls C i j))))],62⟩) (fun i=>n - i) 0 n1 (weak [] [] ?_ ?_ ?_) fun i hi=>?_
  ·(simp -dsimp only[↓RP,RQ,implies_true,forall_const,xa0,reduceIte,reduceCtorEq,xa1,xa2,xa3,xa4]);all_goals simp
  ·(simp -dsimp only[↓RP,RQ,implies_true,forall_const,xa0,reduceIte,reduceCtorEq,xa1,xa2,xa3,xa4]);all_goals (try simp)
   exact fun a ha=>qid (C 0).L1 (turns+1) a ha
  ·(simp -dsimp only[↓RP,RQ,implies_true,forall_const,xa0,reduceIte,reduceCtorEq,xa1,xa2,xa3,xa4]);all_goals simp
  by_cases hin:i+1<n
  ·have e1i:1+i=i+1:=by omega
   (repeat' (first|refine sD ?_ ?_<;>intro _|refine aA ?_|simp -dsimp only[↓RP,RQ,implies_true,forall_const,xa0,reduceIte,reduceCtorEq,xa1,xa2,xa3,xa4,I,eT,eN,by2,TYl,Int.toNat_natCast,Tryz.results178]))
   all_goals first|(exfalso;omega)|skip
   refine qo (fun(k:Nat)=>k≤turns+1) (fun k=>⟨[(0,.arr false false n 1 (fun i _=>.arr false false (C i).m 1 (fun j _=>.val (.int .i64 ((C i).u j))))),(1,.val (.int .i64 turns)),(5,.ptr 61 0),(29,.arr false false (n - 1) 1 (fun i _=>.arr false false (C (1+i)).m 1 (fun j _=>.val (.int .i64 ((C (1+i)).u j))))),(30,.val (.int .i64 ((n - 1:Nat):Int))),(31,.val (.int .i64 i)),(8,.ptr 62 0),(9,.vec 90 (turns+1) 1),(39,.val (.int .i64 ((turns+1:Nat):Int))),(40,.val (.int .i64 k))],[(90,.rows 2 1 (turns+1) (fun j _=>.val (.int .i64 (z1 (Ls C (i+1)) k j)))),(62,.cells 32 [.arr false false (C (1+i)).m 1 (fun j _=>.val (.int .i64 ((C (1+i)).u j)))]),(61,.cells 32 [.vec 60 (turns+1) 1]),(60,.rows 2 1 (turns+1) (fun j _=>.val (.int .i64 (Ls C i j))))],91⟩) (fun k=>turns+1 - k) 0 (xb6 _) (weak [(90,some 69),(62,some 65)] [] ?_ ?_ ?_) fun k hk=>?_
   ·(simp -dsimp only[↓RP,RQ,implies_true,forall_const,xa0,reduceIte,reduceCtorEq,xa1,xa2,xa3,xa4]);all_goals simp
   ·(simp -dsimp only[↓RP,RQ,implies_true,forall_const,xa0,reduceIte,reduceCtorEq,xa1,xa2,xa3,xa4,qdc]);all_goals (try simp)
   ·(simp -dsimp only[↓RP,RQ,implies_true,forall_const,xa0,reduceIte,reduceCtorEq,xa1,xa2,xa3,xa4]);all_goals simp
   by_cases hlt:k<turns+1
   ·(repeat' (first|refine sD ?_ ?_<;>intro _|refine aA ?_|simp -dsimp only[↓RP,RQ,implies_true,forall_const,xa0,reduceIte,reduceCtorEq,xa1,xa2,xa3,xa4,I,eT,eN,by2,TYl,Int.toNat_natCast,Tryz.results178]))
    all_goals first|(exfalso;omega)|skip
    refine qm (qoQ k Ω 284 [] [.ref false 1 (fun _=>ints (turns+1) (Ls C i)),.ref false 1 (fun _=>I k),.ref false 1 (fun _=>(C (1+i)).sv)] trivial (by simp[OldL,Old,Curve.sv,ints,I]) (fun p=>Ls C i (k - p)+(C (1+i)).L1 p) fun p hp=>qoR (turns+1) (Ls C i) (C (1+i)) (hC (1+i) Ω) k p hlt Ω hp fun j hj=>?_) ?_ Ωn ?_
    ·have:=YE C i (fun j hj=>hC j Ω) j Ω;omega
    ·(simp -dsimp only[↓RP,RQ,implies_true,forall_const,xa0,reduceIte,reduceCtorEq,xa1,xa2,xa3,xa4,Curve.sv,ints,I]);all_goals (try simp)
     refine⟨?_,?_⟩
     ·(simp -dsimp only[↓RP,RQ,implies_true,forall_const,xa0,reduceIte,reduceCtorEq,xa1,xa2,xa3,xa4]);all_goals simp
     ·(simp -dsimp only[↓RP,RQ,implies_true,forall_const,xa0,reduceIte,reduceCtorEq,xa1,xa2,xa3,xa4]);all_goals simp
    have eF:kT (fun p=>Ls C i (k - p)+(C (1+i)).L1 p) k=Ls C (i+1) k:=by rw[e1i];rfl
    (repeat' (first|refine sD ?_ ?_<;>intro _|refine aA ?_|simp -dsimp only[↓RP,RQ,implies_true,forall_const,xa0,reduceIte,reduceCtorEq,xa1,xa2,xa3,xa4,eF,I,eT,eN,by2,TYl,Int.toNat_natCast,Tryz.results178]))
    all_goals first|(exfalso;omega)|skip
    refine⟨k+1,Ω,Ω,weak [] [] ?_ ?_ ?_⟩
    ·(simp -dsimp only[↓RP,RQ,implies_true,forall_const,xa0,reduceIte,reduceCtorEq,xa1,xa2,xa3,xa4]);all_goals simp
    ·(simp -dsimp only[↓RP,RQ,implies_true,forall_const,xa0,reduceIte,reduceCtorEq,xa1,xa2,xa3,xa4]);all_goals (try simp)
     exact fun a ha=>qic (Ls C (i+1)) k a
    ·(simp -dsimp only[↓RP,RQ,implies_true,forall_const,xa0,reduceIte,reduceCtorEq,xa1,xa2,xa3,xa4]);all_goals simp
   ·have hke:k=turns+1:=by omega
    subst hke;(repeat' (first|refine sD ?_ ?_<;>intro _|refine aA ?_|simp -dsimp only[↓RP,RQ,implies_true,forall_const,xa0,reduceIte,reduceCtorEq,xa1,xa2,xa3,xa4,I,eT,eN,by2,TYl,Int.toNat_natCast,Tryz.results178]))
    all_goals first|(exfalso;omega)|skip
    refine⟨i+1,hin,Ω,weak [(60,some 90)] [] ?_ ?_ ?_⟩
    ·(simp -dsimp only[↓RP,RQ,implies_true,forall_const,xa0,reduceIte,reduceCtorEq,xa1,xa2,xa3,xa4]);all_goals simp
    ·(simp -dsimp only[↓RP,RQ,implies_true,forall_const,xa0,reduceIte,reduceCtorEq,xa1,xa2,xa3,xa4]);all_goals (try simp)
     exact fun a ha=>qid (Ls C (i+1)) (turns+1) a ha
    ·(simp -dsimp only[↓RP,RQ,implies_true,forall_const,xa0,reduceIte,reduceCtorEq,xa1,xa2,xa3,xa4]);all_goals simp
  ·have hie:i=n - 1:=by omega
   (repeat' (first|refine sD ?_ ?_<;>intro _|refine aA ?_|simp -dsimp only[↓RP,RQ,implies_true,forall_const,xa0,reduceIte,reduceCtorEq,xa1,xa2,xa3,xa4,I,eT,eN,by2,TYl,Int.toNat_natCast,Tryz.results178]))
   all_goals first|(exfalso;omega)|skip
   refine⟨60,_,rfl,?_,?_⟩
   ·(simp -dsimp only[↓RP,RQ,implies_true,forall_const,xa0,reduceIte,reduceCtorEq,xa1,xa2,xa3,xa4,I,hie]);all_goals simp
   ·(simp -dsimp only[↓RP,RQ,implies_true,forall_const,xa0,reduceIte,reduceCtorEq,xa1,xa2,xa3,xa4])
end Go.Tl
end
section
namespace Go.Sx
open Go.Proofs
noncomputable section
def cvU(i:Nat):Int:=Nat.rec 0 (fun j _=>Nat.rec 2 (fun _ _=>4) j) i
def cvB:Go.Tl.Curve:=⟨3,cvU⟩
theorem YF:cvB.Fine:=⟨Ωu,Ωu,fun i hi=>by
 have hi:i<3:=hi
 match i,hi with
 |0,_=>decide
 |1,_=>decide
 |2,_=>decide,fun i hi=>by
 have hi:i<2:=hi
 match i,hi with
 |0,_=>decide
 |1,_=>decide⟩
def gB(k:Nat):Nat:=4*(k / 3) - Bool.rec 0 2 (Nat.beq (k % 3) 0)
theorem GH(k:Nat):cvB.L1 k=((4*(k / 3)+(if k % 3=2 then 2 else 0):Nat):Int):=by
 unfold Go.Tl.Curve.L1;show((k / 3:Nat):Int)*4+(if 0<k % 3 then cvU (k % 3 - 1)else 0)=_;have:k % 3=0∨k % 3=1∨k % 3=2:=by omega
 rcases this with h|h|h
 ·rw[h];simp;omega
 ·have e:cvU 0=0:=rfl
  rw[h];simp[e];omega
 ·have e:cvU 1=2:=rfl
  rw[h];simp[e];omega
theorem qln(k:Nat):gB k=if k % 3=0 then 4*(k / 3) - 2 else 4*(k / 3):=by
 unfold gB;by_cases h:k % 3=0
 ·rw[if_pos h,h];rfl
 ·rw[if_neg h]
  have:Nat.beq (k % 3) 0=false:=by cases e:Nat.beq (k % 3) 0 with
   |false=>rfl
   |true=>exact absurd (xa6 e) h
  rw[this];rfl
theorem qnL(k:Nat):Go.Tl.Ls (fun _=>cvB) 1 k=(gB k:Int):=by
 have h1:∀p,p≤k→(gB k:Int)≤cvB.L1 (k - p)+cvB.L1 p:=fun p hp=>by
  rw[GH,GH,qln];split<;>split<;>split<;>omega
 have h2:Go.Tl.Ls (fun _=>cvB) 1 k≤(gB k:Int):=by
  cases k with
  |zero=>decide
  |succ k=>
   have:=Go.Tl.Ls_le (fun _=>cvB) 0 (k+1) 1 Ω;refine Int.le_trans this ?_;show cvB.L1 (k+1 - 1)+cvB.L1 1≤_;rw[GH,GH,qln];split<;>split<;>split<;>omega
 obtain⟨p,hp,e⟩:=Go.Tl.Ls_at (fun _=>cvB) 0 k;have h3:=h1 p hp;have e:Go.Tl.Ls (fun _=>cvB) 1 k=cvB.L1 (k - p)+cvB.L1 p:=e;omega
def YG(j _:Nat):SV:=.val (.int .i64 (.ofNat (gB j)))
def lsN:Nat×List SV×(TypeId×Nat×Nat×List SV×SV):=(178,[Go.Tl.chn 2 (fun _=>cvB),Go.Tl.I 360],(2,1,361,vW YG 1 361,.vec 0 361 1))
theorem qmq:qgo Tryz.prog 178 [Go.Tl.chn 2 (fun _=>cvB),Go.Tl.I 360] 2 1 361 (vW YG 1 361) (.vec 0 361 1):=by
 refine⟨YG,?_,gW _ _ _,by simp[FreshO],by simp[FreshB,Fresh,YG]⟩;have h:=Go.Tl.c178 2 (fun _=>cvB) Ω Ω (fun _ _=>YF) 360 Ω;have e:(fun j (_:Nat)=>Go.Tl.I (Go.Tl.Ls (fun _=>cvB) (2 - 1) j))=YG:=by
  funext j _;show SV.val (.int .i64 (Go.Tl.Ls (fun _=>cvB) 1 j))=_;rw[qnL];rfl
 rw[e]at h;exact h
def g1B(k:Nat):Nat:=Nat.add (4*(k / 3)) (Bool.rec 0 2 (Nat.beq (k % 3) 2))
theorem qmr(k:Nat):cvB.L1 k=(g1B k:Int):=by
 rw[GH];unfold g1B
 congr 1
 show _=4*(k / 3)+_
 congr 1
 by_cases h:k % 3=2
 ·rw[if_pos h,h];rfl
 ·rw[if_neg h]
  have:Nat.beq (k % 3) 2=false:=by cases e:Nat.beq (k % 3) 2 with
   |false=>rfl
   |true=>exact absurd (xa6 e) h
  rw[this]
def YH(j _:Nat):SV:=.val (.int .i64 (.ofNat (g1B j)))
def l1N:Nat×List SV×(TypeId×Nat×Nat×List SV×SV):=(178,[Go.Tl.chn 1 (fun _=>cvB),Go.Tl.I 360],(2,1,361,vW YH 1 361,.vec 0 361 1))
theorem qms:qgo Tryz.prog 178 [Go.Tl.chn 1 (fun _=>cvB),Go.Tl.I 360] 2 1 361 (vW YH 1 361) (.vec 0 361 1):=by
 refine⟨YH,?_,gW _ _ _,by simp[FreshO],by simp[FreshB,Fresh,YH]⟩;have h:=Go.Tl.c178 1 (fun _=>cvB) Ω Ω (fun _ _=>YF) 360 Ω;have e:(fun j (_:Nat)=>Go.Tl.I (Go.Tl.Ls (fun _=>cvB) (1 - 1) j))=YH:=by
  funext j _;show SV.val (.int .i64 (cvB.L1 j))=_;rw[qmr];rfl
 rw[e]at h;exact h
end
end Go.Sx
end
section
namespace Go.Sx
noncomputable section
def wI(n:Int):SV:=.val (.int .i64 n)
def qnM(l:List Int):Nat→Int:=List.rec (fun _=>0) (fun a _ ih i=>Nat.rec a (fun j _=>ih j) i) l
def liN(o:Bool)(n:Nat)(l:List Int):SV:=.arr o false n 1 (fun i _=>.val (.int .i64 (qnM l i)))
def liA:SV:=liN false 3 [3,4,4]
def liB:SV:=liN false 3 [0,2,4]
def ch1:SV:=.arr false false 1 1 (fun _ _=>liB)
def ch2:SV:=.arr false false 2 1 (fun _ _=>liB)
def cW:Nat×List SV×SV:=(22,[liA,ch2],.tup [wI 4,wI 0])
def cL:Nat×List SV×SV:=(23,[liA,ch1],.tup [wI 2,wI 0])
def cB:Nat×List SV×SV:=(147,[liA,ch1],.tup [liN true 3 [4,5,7],wI 0])
end
end Go.Sx
end
section
namespace Go.Sx
noncomputable section
def hJ:SV:=.agg [liN false 3 [2,3,6]]
def z3:SV:=liN false 3 [0,0,0]
def qoS(l:List (List Int)):Nat→List Int:=List.rec (fun _=>[]) (fun a _ ih i=>Nat.rec a (fun j _=>ih j) i) l
def dSt:List (List Int):=[[0,0,0],[0,1,1],[1,0,1],[1,1,0],[0,2,2],[1,0,2],[1,2,0],[0,1,2],[2,0,2],[2,1,0],[0,2,1],[2,0,1],[2,2,0],[0,3,3],[1,0,3],[1,3,0],[0,1,3],[2,0,3],[0,3,1],[2,3,0],[0,2,3],[0,3,2],[0,1,4],[2,0,4],[0,2,4],[1,0,4],[0,3,4],[0,2,5],[1,0,5],[0,3,5],[0,1,5],[2,0,5],[0,3,6],[1,0,6],[0,1,6],[2,0,6],[0,2,6]]
def dLf:List Int:=[9,7,7,8,5,6,2,6,1,1,7,1,1,1,4,1,5,1,1,1,5,1,3,1,3,4,1,2,2,1,3,1,1,1,1,1,1]
def dJ:SV:=.arr true false 37 2 (fun i j=>Nat.rec (liN true 3 (qoS dSt i)) (fun _ _=>wI (qnM dLf i)) j)
def c13J:Nat×List SV×SV:=(13,[hJ],.tup [.val (.slice none 0 0),wI 17])
def c135J:Nat×List SV×SV:=(135,[hJ,z3],.tup [dJ,wI 0])
def c138J:Nat×List SV×SV:=(138,[hJ,z3],.tup [liN true 8 [2,0,1,0,1,0,2,0],wI 0])
def qie:Nat×List SV×SV:=(170,[liN false 0 []],liN true 0 [])
end
end Go.Sx
end
