/- A part of the proof. -/
import Derived.Test.YtacejomniokahaaGreatPE
import Derived.Test.YtacejomniokahaaGreatPC
open Nat renaming reduceMul→xa0,reduceAdd→xa1,reduceEqDiff→xa2,reduceLT→xa3,reduceLeDiff→xa4,le_refl→xa5,lt_of_lt_of_le→xa9,zero_add→xb0,add_zero→xb1,add_assoc→xb2,lt_irrefl→xb4,lt_succ_self→xb5,zero_le→xb6,sub_self→xb8,le_succ→xc4
open List renaming getD_eq_getElem?_getD→xc6,getElem?_eq_getElem→xc7,length_append→xc8,getElem?_append_left→xc9,getElem?_append_right→xd0,length_singleton→xd1,mem_cons_self→xd5,getElem?_cons_zero→xd6,getElem?_cons_succ→xd7,length_cons→xe4,length_set→xe5
open Bool renaming and_eq_true→xe6,false_eq_true→xe7,or_eq_true→xe8
set_option linter.unusedVariables false
set_option linter.unusedSimpArgs false
set_option linter.defProp false
set_option maxRecDepth 1000000
set_option maxHeartbeats 16000000
section
namespace Go.Tn
open Go.Proofs
open Go.Sx
theorem YF:qk Tryz.prog 22=some ⟨false,1,some [.slice none 0 0],.slice 3 1⟩:=by kernel_rfl
theorem ty3:qk Tryz.prog 3=some ⟨false,1,some [.int .i64 0],.int .i64⟩:=by kernel_rfl
theorem qhD{O:Ctx}{fr:List (Nat×SV)}{hp:List (Nat×Blk)}{nid d id n k:Nat}(h:Go.Sx.look fr d=.vec id n k):Weak O ⟨fr,hp,nid⟩ ⟨putFr fr d (.que id 0 n k),hp,nid⟩:=fun base okc ns outs x w ⟨r,h'⟩=>⟨r,h'.sat,h'.keys,fun i=>by
 show Rep _ _ _ _ (Go.Sx.look (putFr fr d _) i) _;rw[zb];split
 ·rename_i e
  have hv:=h'.fr d;rw[show(⟨fr,hp,nid⟩:St).fr=fr from rfl,h]at hv;rw[e];generalize x.tmps.getD d undef=v at hv ⊢;cases hv with
  |vecNil _ _ hN hr=>exact Rep.queNil (N:=fun x=>x<nid) _ _ _ _ hN
  |vec _ _ _ b cap cs t hN hr hb hcs hcap hmx=>
   have q:=Rep.que (N:=fun x=>x<nid) (G:=Gd base okc r (fun x=>x<nid) hp w) id 0 n k b cap cs t hN hr hb (by rw[xb0];exact hcs) hcap (by rw[xb0];exact hmx);rw[Nat.zero_mul]at q;exact q
 ·exact h'.fr i,h'.size,h'.lo,h'.out,h'.rfix,h'.defers⟩
def setN(f:Nat→Nat)(k x:Nat):Nat→Nat:=fun i=>if i=k then x else f i
def zQ(start i:Nat):List Nat→Nat→(Nat→Nat)→List Nat→Bool×(Nat→Nat)×List Nat
 |[],_,by',wait=>(false,by',wait)
 |to :: l,w,by',wait=>if 0<by' to then zQ start i l (w+1) by' wait else if to=start then(true,setN by' to (1+i*5+w),wait)else zQ start i l (w+1) (setN by' to (1+i*5+w)) (wait++[to])
def V9(L:Nat→List Nat)(start:Nat):Nat→(Nat→Nat)→List Nat→Option (Bool×(Nat→Nat))
 |0,_,_=>none
 |_+1,by',[]=>some (false,by')
 |f+1,by',i :: wait=>if (zQ start i (L i) 0 by' wait).1=true then some (true,(zQ start i (L i) 0 by' wait).2.1)else V9 L start f (zQ start i (L i) 0 by' wait).2.1 (zQ start i (L i) 0 by' wait).2.2
def yO(L:Nat→List Nat)(N fb fk:Nat):Nat→Nat→List Nat→Option (List Nat)
 |0,_,best=>some best
 |k+1,start,best=>match V9 L start fb (fun _=>0) [start]with
  |none=>none
  |some (false,_)=>yO L N fb fk k (start+1) best
  |some (true,by')=>match wX by' N start fk start []with
   |none=>none
   |some l=>yO L N fb fk k (start+1) (if best.length=0∨l.length<best.length then l.reverse else best)
structure Cl(N:Nat)(L:Nat→List Nat)(nx:Nat→Nat→SV)(H:List (Nat×Blk))(id tb xid:Nat)(A R M:SV)(sid:Nat):Prop where
 N5:N≤100000
 l5:∀i,i<N→(L i).length≤5
 inn:∀i,i<N→∀a,a∈L i→a<N
 tb:blk H tb=some (.cells 253 [A,.vec sid N 5,.vec xid N 1,R,M])
 xid:blk H xid=some (.rows 22 1 N nx)
 nx:∀i,i<N→(L i=[]∧nx i 0=.val (.slice none 0 0))∨∃xi r,nx i 0=.vec xi (L i).length 1∧blk H xi=some (.rows 3 1 (L i).length r)∧YE (L i) r
 und:Under H id
structure QI(N:Nat)(L:Nat→List Nat)(start fb n1:Nat)(Rb:Bool×(Nat→Nat))(f c:Nat)(by':Nat→Nat)(byr:Nat→Nat→SV)(wait:List Nat)(wid off:Nat)(J:Nat→Nat→SV):Prop where
 fu:f+c=fb
 run:V9 L start f by' wait=some Rb
 row:∀x,x<N→byr x 0=.val (.int .i64 (by' x:Nat))
 le:∀x,x<N→by' x≤1000000
 lt:∀x,x∈wait→x<N
 J:∀i,i<wait.length→J (off+i) 0=.val (.int .i64 (wait.getD i 0:Nat))
 off:off≤c
 len:wait.length≤1+5*c
 w1:n1+11≤wid
 w2:wid<n1+20+450*c
structure RI(N:Nat)(L:Nat→List Nat)(start i c n1 n2 nr:Nat)(R3:Bool×(Nat→Nat)×List Nat)(k:Nat)(by':Nat→Nat)(byr:Nat→Nat→SV)(wait:List Nat)(wid off:Nat)(J:Nat→Nat→SV):Prop where
 kl:k≤(L i).length
 run:zQ start i ((L i).drop k) k by' wait=R3
 row:∀x,x<N→byr x 0=.val (.int .i64 (by' x:Nat))
 le:∀x,x<N→by' x≤1000000
 lt:∀x,x∈wait→x<N
 J:∀i,i<wait.length→J (off+i) 0=.val (.int .i64 (wait.getD i 0:Nat))
 off:off≤c+1
 len:wait.length≤nr+k
 w1:n1+11≤wid
 w2:wid<n2+40+60*k
def bSV(bid:Nat)(best:List Nat):SV:=match best with
 |[]=>.val (.slice none 0 0)
 |_ :: l=>.vec bid (l.length+1) 1
def bH(bid:Nat)(best:List Nat)(r:Nat→Nat→SV)(H:List (Nat×Blk)):List (Nat×Blk):=match best with
 |[]=>H
 |_ :: l=>(bid,.rows 3 1 (l.length+1) r) :: H
theorem Cl.bH{N:Nat}{L:Nat→List Nat}{nx:Nat→Nat→SV}{H:List (Nat×Blk)}{id tb xid:Nat}{A R M:SV}{sid:Nat}(h:Cl N L nx H id tb xid A R M sid){bid:Nat}{best:List Nat}{r:Nat→Nat→SV}{n:Nat}(hn:id≤n)(hb:best≠[]→id≤bid∧bid<n):Cl N L nx (bH bid best r H) n tb xid A R M sid:=by
 cases best with
 |nil=>exact⟨h.N5,h.l5,h.inn,h.tb,h.xid,h.nx,fun k x hx=>xa9 (h.und k x hx) hn⟩
 |cons x l=>
  have⟨h1,h2⟩:=hb Ωi;have key:∀k y,blk H k=some y→blk ((bid,.rows 3 1 (l.length+1) r) :: H) k=some y:=fun k y hy=>by
   have:=h.und k y hy;simp only[blk];rw[if_neg Ω];exact hy
  refine⟨h.N5,h.l5,h.inn,key _ _ h.tb,key _ _ h.xid,fun i hi=>?_,fun k y hy=>?_⟩
  ·rcases h.nx i hi with c|⟨xi,r',c1,c2,c3⟩
   ·exact .inl c
   ·exact .inr ⟨xi,r',c1,key _ _ c2,c3⟩
  ·simp only[Go.Tn.bH,blk]at hy
   split at hy
   ·omega
   ·exact xa9 (h.und k y hy) hn
theorem qbn{b:Nat}{l:List Nat}(h:0<l.length):bSV b l=.vec b l.length 1:=by
 cases l with
 |nil=>cases h
 |cons x l=>rfl
theorem qhE{b:Nat}{l:List Nat}{r:Nat→Nat→SV}{H:List (Nat×Blk)}(h:0<l.length):bH b l r H=(b,.rows 3 1 l.length r) :: H:=by
 cases l with
 |nil=>cases h
 |cons x l=>rfl
theorem e73(N:Nat)(L:Nat→List Nat)(nx:Nat→Nat→SV)(H:List (Nat×Blk))(id tb xid:Nat)(A R M:SV)(sid fb fk:Nat)(res0:List Nat)(h:Cl N L nx H id tb xid A R M sid)(hfb:fb≤100000)(hfk:fk≤100000)(hF:yO L N fb fk N 0 []=some res0)(C:Nat)(hCC:C=500*fb+100*fk+2000) :
  EffVC Tryz.prog 73 [.ptr tb 0] H id (fun hp' nid' res=>nid'≤id+100+C*N∧∃bid r,(res0≠[]→id≤bid∧bid<nid')∧YE res0 r∧hp'=bH bid res0 r H∧res=bSV bid res0):=by
 refine yn (zW [(16,[(0,0)])]) follows Tryz.func73 rfl Ωb Ωb (by rw[Tryz.ntmps73];simp) fun out=>?_;have NB:True:=trivial;have hN5:=h.N5;(repeat' (first|refine sD ?_ ?_<;>intro _|refine aAd ?_|(simp -dsimp only[↓RP,RQ,xa0,reduceIte,reduceCtorEq,xa1,xa2,xa3,xa4,h.tb,↓RY,NB,QS,QT,qK,QN])))
 all_goals try exact Ωa
 refine qj (fun(z:Nat×List Nat×Nat×(Nat→Nat→SV))=>z.1≤N∧yO L N fb fk (N - z.1) z.1 z.2.1=some res0∧YE z.2.1 z.2.2.2∧(z.2.1≠[]→id≤z.2.2.1∧z.2.2.1<id+20+C*z.1)) (fun z=>⟨[(0,.ptr tb 0),(3,bSV z.2.2.1 z.2.1),(15,.val (.int .i64 (N:Nat))),(16,.val (.int .i64 (z.1:Nat)))],bH z.2.2.1 z.2.1 z.2.2.2 H,id+20+C*z.1⟩) (fun z=>N - z.1) (0,[],0,fun _ _=>.top) ⟨xb6 _,hF,fun i hi=>(by cases hi),fun hh=>absurd rfl hh⟩ (qf (by simp only[];omega) (by simp[qM,Go.Sx.look,bSV]) (SubHp.refl _)) fun z hz=>?_;obtain⟨start,best,bid,br⟩:=z;obtain⟨z1,z2,z3,z4⟩:=hz;simp only[]at z1 z2 z3 z4;obtain⟨n1,hn1⟩:∃n1,n1=id+20+C*start:=⟨_,rfl⟩;have hid1:id≤n1:=by rw[hn1,xb2];exact Nat.le_add_right _ _
 rw[←hn1]at z4;simp only[];rw[←hn1];by_cases hlt:start<N
 ·have hlt1:=decide_eq_true (Ω:((start:Nat):Int)<(N:Nat))
  have hC:=h.bH (r:=br) hid1 z4;obtain⟨bv,hbv⟩:∃bv,bv=bSV bid best:=⟨_,rfl⟩;obtain⟨H2,hH2⟩:∃H2,H2=bH bid best br H:=⟨_,rfl⟩;rw[←hbv,←hH2];rw[←hH2]at hC;have htb:=hC.und _ _ hC.tb;have hxid:=hC.und _ _ hC.xid;have NB:=(⟨nmA htb,nmA hxid⟩:_∧_);(repeat' (first|refine sD ?_ ?_<;>intro _|refine aAd ?_|(simp -dsimp only[↓RP,RQ,xa0,reduceIte,reduceCtorEq,xa1,xa2,xa3,xa4,hlt1,hC.tb,↓RY,NB,QS,QT,qK,QN])))
  all_goals try exact Ωa
  have hk:N - start=(N -(start+1))+1:=by omega
  rw[hk]at z2;simp only[yO]at z2;cases hb0:V9 L start fb (fun _=>0) [start]with
  |none=>rw[hb0]at z2;cases z2
  |some Rb=>
  rw[hb0]at z2;refine qj (fun(z:Nat×Nat×(Nat→Nat)×(Nat→Nat→SV)×List Nat×Nat×Nat×(Nat→Nat→SV))=>QI N L start fb n1 Rb z.1 z.2.1 z.2.2.1 z.2.2.2.1 z.2.2.2.2.1 z.2.2.2.2.2.1 z.2.2.2.2.2.2.1 z.2.2.2.2.2.2.2) (fun z=>⟨[(0,.ptr tb 0),(3,bv),(4,.val (.int .i64 (start:Nat))),(5,.vec (n1+8) N 1),(6,.que z.2.2.2.2.2.1 (z.2.2.2.2.2.2.1) (z.2.2.2.2.1.length) 1),(15,.val (.int .i64 (N:Nat))),(16,.val (.int .i64 (start:Nat)))],(z.2.2.2.2.2.1,.rows 3 1 (z.2.2.2.2.2.2.1+z.2.2.2.2.1.length) z.2.2.2.2.2.2.2) ::(n1+8,.rows 3 1 N z.2.2.2.1) :: H2,n1+20+450*z.2.1⟩) (fun z=>z.1) (fb,0,fun _=>0,fun x j=>SV.val ([Value.int IntKind.i64 0].getD j undef),[start],n1+11,0,fun i j=>[SV.val (.int .i64 (start:Nat))].getD (i+j) SV.top) ⟨rfl,hb0,fun x hx=>rfl,fun x hx=>xb6 _,fun x hx=>(by rw[List.mem_singleton.1 hx];exact hlt),fun i hi=>(by have hi:i<1:=hi;obtain rfl:i=0:=Ω;rfl),xa5 _,Ωi,xa5 _,(by show n1+11<n1+20+450*0;omega)⟩ (Weak.trans (qhD (d:=6) rfl) (qf (by simp only[];omega) (by simp[qM,Go.Sx.look,putFr]) (SubHp.refl _))) fun z hz=>?_;obtain⟨f,c,by',byr,wait,wid,off,J⟩:=z;have hz':QI N L start fb n1 Rb f c by' byr wait wid off J:=hz
  obtain⟨y1,y2,y3,y4,y5,y6,y7,y8,y9,y10⟩:=hz';simp only[];cases f with
  |zero=>cases y2
  |succ f=>
  obtain⟨n2,hn2⟩:∃n2,n2=n1+20+450*c:=⟨_,rfl⟩;rw[←hn2];have hw2:wid<n2:=by omega
  clear NB;have NB:=(⟨nmA (Ω:tb<n2),nmA (Ω:xid<n2),nmA hw2,nmE (Ω:wid≠tb),nmE (Ω:wid≠xid),nmE (Ω:wid≠n1+8),nmA htb,nmA hxid,nmA (Ω:n1+8<n2)⟩:_∧_∧_∧_∧_∧_∧_∧_∧_);cases wait with
  |nil=>
   simp only[V9]at y2;cases y2;(repeat' (first|refine sD ?_ ?_<;>intro _|refine aAd ?_|(simp -dsimp only[↓RP,RQ,xa0,reduceIte,reduceCtorEq,xa1,xa2,xa3,xa4,hC.tb,↓RY,NB,QS,QT,qK,QN])))
   all_goals try exact Ωa
   refine⟨(start+1,best,bid,br),⟨Ω,z2,z3,fun hh=>?_⟩,by first|omega|(simp only[];omega)|(dsimp only;omega),?_⟩
   ·have:=z4 hh
    have hX:id+(20+C*(start+1))=n1+C:=by rw[hn1,Nat.mul_add,Nat.mul_one];omega
    simp only[];rw[hX];omega
   ·have hX:id+(20+C*(start+1))=n1+C:=by rw[hn1,Nat.mul_add,Nat.mul_one];omega
    simp only[];rw[hX,←hbv,←hH2];exact qf Ω Ωg (SubHp.skip (hC.und.none Ω) (SubHp.skip (hC.und.none Ω) (SubHp.refl _)))
  |cons i rest=>
   have hi:i<N:=y5 i xd5;have hgt:=decide_eq_true (Ω:(0:Int)<((rest.length+1:Nat):Int));have hJ0:=y6 0 Ωi;rw[xb1]at hJ0;have hJ1:J off 0=SV.val (.int .i64 (i:Nat)):=hJ0;rw[xe4]at y8;have hql:((rest.length+1:Nat):Int) - 1=((rest.length:Nat):Int):=by omega
   obtain⟨R3,hR3⟩:∃R3,R3=zQ start i (L i) 0 by' rest:=⟨_,rfl⟩
   simp only[V9]at y2;rw[←hR3]at y2;have hl5:=hC.l5 i hi;rcases hC.nx i hi with⟨c1,c2⟩|⟨xi,r,c1,c2,c3⟩
   ·rw[c1]at hR3
    simp only[zQ]at hR3;subst hR3;simp only[xe7,if_false]at y2;(repeat' (first|refine sD ?_ ?_<;>intro _|refine aAd ?_|(simp -dsimp only[↓RP,RQ,xa0,reduceIte,reduceCtorEq,xa1,xa2,xa3,xa4,hgt,hql,hC.tb,hC.xid,hJ1,c2,↓RY,NB,QS,QT,qK,QN])))
    all_goals try exact Ωa
    refine qj (fun(z:Unit)=>True) (fun _=>⟨[(0,.ptr tb 0),(3,bv),(4,.val (.int .i64 (start:Nat))),(5,.vec (n1+8) N 1),(6,.que wid (off+1) (rest.length) 1),(15,.val (.int .i64 (N:Nat))),(16,.val (.int .i64 (start:Nat)))]++[(42,.val (.int .i64 0)),(43,.val (.int .i64 0))],(wid,.rows 3 1 (off+1+rest.length) J) ::(n1+8,.rows 3 1 N byr) :: H2,n2+100⟩) (fun _=>0) () trivial (qf Ω Ωg (by rw[show off+(rest.length+1)=off+1+rest.length by omega];exact SubHp.refl _)) fun z hz=>?_;(repeat' (first|refine sD ?_ ?_<;>intro _|refine aAd ?_|(simp -dsimp only[↓RP,RQ,xa0,reduceIte,reduceCtorEq,xa1,xa2,xa3,xa4,↓RY,NB,QS,QT,qK,QN])))
    all_goals try exact Ωa
    have hq:QI N L start fb n1 Rb f (c+1) by' byr rest wid (off+1) J:=⟨Ω,y2,y3,y4,fun x hx=>y5 x (List.mem_cons_of_mem _ hx),fun i hi=>by
     have:=y6 (i+1) Ωr;rw[show off+1+i=off+(i+1) by omega,this];rfl,Ω,Ω,y9,Ω⟩
    exact⟨(f,c+1,by',byr,rest,wid,off+1,J),hq,Ωf,qf Ωf Ωg (by dsimp only;rw[show off+1+rest.length=off+(1+rest.length) by omega];exact SubHp.refl _)⟩
   ·have hxi:=hC.und _ _ c2
    have NX:=(⟨nmA (Ω:xi<n2),nmE (Ω:xi≠wid),nmA (Ω:xi<n1)⟩:_∧_∧_);(repeat' (first|refine sD ?_ ?_<;>intro _|refine aAd ?_|(simp -dsimp only[↓RP,RQ,xa0,reduceIte,reduceCtorEq,xa1,xa2,xa3,xa4,hgt,hql,hC.tb,hC.xid,hJ1,c1,↓RY,NB,QS,QT,qK,QN])))
    all_goals try exact Ωa
    refine qj (fun(z:Nat×(Nat→Nat)×(Nat→Nat→SV)×List Nat×Nat×Nat×(Nat→Nat→SV))=>RI N L start i c n1 n2 rest.length R3 z.1 z.2.1 z.2.2.1 z.2.2.2.1 z.2.2.2.2.1 z.2.2.2.2.2.1 z.2.2.2.2.2.2) (fun z=>⟨[(0,.ptr tb 0),(3,bv),(4,.val (.int .i64 (start:Nat))),(5,.vec (n1+8) N 1),(6,.que z.2.2.2.2.1 (z.2.2.2.2.2.1) (z.2.2.2.1.length) 1),(15,.val (.int .i64 (N:Nat))),(16,.val (.int .i64 (start:Nat)))]++[(7,.val (.int .i64 (i:Nat))),(41,.vec xi (L i).length 1),(42,.val (.int .i64 ((L i).length:Nat))),(43,.val (.int .i64 (z.1:Nat)))],(z.2.2.2.2.1,.rows 3 1 (z.2.2.2.2.2.1+z.2.2.2.1.length) z.2.2.2.2.2.2) ::(n1+8,.rows 3 1 N z.2.2.1) :: H2,n2+40+60*z.1⟩) (fun z=>(L i).length - z.1) (0,by',byr,rest,wid,off+1,J) (by
     have:RI N L start i c n1 n2 rest.length R3 0 by' byr rest wid (off+1) J:=⟨xb6 _,hR3.symm,y3,y4,fun x hx=>y5 x (List.mem_cons_of_mem _ hx),fun i hi=>by
      have:=y6 (i+1) Ωr;rw[show off+1+i=off+(i+1) by omega,this];rfl,Ω,Ω,y9,Ω⟩
     exact this) (qf Ωf Ωg (by dsimp only;rw[show off+(rest.length+1)=off+1+rest.length by omega];exact SubHp.refl _)) fun z hz=>?_
    obtain⟨k,by1,byr1,wait1,wid1,off1,J1⟩:=z;have hz':RI N L start i c n1 n2 rest.length R3 k by1 byr1 wait1 wid1 off1 J1:=hz;obtain⟨x1,x2,x3,x4,x5,x6,x7,x8,x9,x10⟩:=hz';dsimp only;obtain⟨n3,hn3⟩:∃n3,n3=n2+40+60*k:=⟨_,rfl⟩;rw[←hn3];have hw3:wid1<n3:=by omega
    clear NB NX;have NB:=(⟨nmA (Ω:tb<n3),nmA (Ω:xid<n3),nmA hw3,nmE (Ω:wid1≠tb),nmE (Ω:wid1≠xid),nmE (Ω:wid1≠n1+8),nmA htb,nmA hxid,nmA (Ω:n1+8<n3),nmA (Ω:xi<n3),nmE (Ω:xi≠wid1),nmA (Ω:xi<n1)⟩:_∧_∧_∧_∧_∧_∧_∧_∧_∧_∧_∧_);by_cases hkl:k<(L i).length
    ·have hk1:=decide_eq_true (Ω:((k:Nat):Int)<((L i).length:Nat))
     have hdr2:dropBlk H2 wid1=H2:=qU (hC.und.none Ω);obtain⟨to,hto⟩:∃to,to=(L i).getD k 0:=⟨_,rfl⟩;have hgi:(L i)[k]? = some to:=by rw[hto,xc6,xc7 hkl];rfl
     have htoN:to<N:=hC.inn i hi to (List.mem_of_getElem? hgi);have hdr:(L i).drop k=to ::(L i).drop (k+1):=by
      rw[List.drop_eq_getElem_cons hkl];rw[xc7 hkl]at hgi;rw[Option.some.inj hgi]
     rw[hdr]at x2;simp only[zQ]at x2;have hrk:=c3 k hkl;rw[←hto]at hrk;have hrt:=x3 to htoN;by_cases hb1:0<by1 to
     ·rw[if_pos hb1]at x2
      have hb2:=decide_eq_true (Ω:(0:Int)<((by1 to:Nat):Int));(repeat' (first|refine sD ?_ ?_<;>intro _|refine aAd ?_|(simp -dsimp only[↓RP,RQ,xa0,reduceIte,reduceCtorEq,xa1,xa2,xa3,xa4,hk1,hrk,hrt,hb2,c2,↓RY,NB,QS,QT,qK,QN])))
      all_goals try exact Ωa
      have hRI:RI N L start i c n1 n2 rest.length R3 (k+1) by1 byr1 wait1 wid1 off1 J1:=⟨hkl,x2,x3,x4,x5,x6,x7,Ω,x9,Ω⟩;exact⟨(k+1,by1,byr1,wait1,wid1,off1,J1),hRI,Ωf,qf Ωf Ωg (SubHp.refl _)⟩
     ·rw[if_neg hb1]at x2
      have hb2:=decide_eq_false (Ω:¬(0:Int)<((by1 to:Nat):Int));by_cases hs:to=start
      ·rw[if_pos hs]at x2
       have hs2:=decide_eq_true (Ω:((to:Nat):Int)=(start:Nat));subst x2;simp only[if_true]at y2;have y2:=Option.some.inj y2;subst y2;dsimp only at z2;cases hbk:wX (setN by1 to (1+i*5+k)) N start fk start []with
       |none=>rw[hbk]at z2;cases z2
       |some l=>
       rw[hbk]at z2;dsimp only at z2;(repeat' (first|refine sD ?_ ?_<;>intro _|refine aAd ?_|(simp -dsimp only[↓RP,RQ,xa0,reduceIte,reduceCtorEq,xa1,xa2,xa3,xa4,hk1,hrk,hrt,hb2,hs2,c2,↓RY,NB,QS,QT,qK,QN])))
       all_goals try exact Ωa
       refine jS (by rfl) (qoC _ _ tb (n1+8) N start fk (setN by1 to (1+i*5+k)) (fun a b=>if a=to∧b=0 then SV.val (.int .i64 (1+(i:Int)*5+(k:Int)))else byr1 a b) l h.N5 (fun y x hx=>?hUn) hfk hlt Ω ΩI (fun x hx=>?hRo) (fun x hx=>?hLe) hbk) fun hp' n4 res hQ=>?_
       case hUn=>
        simp only[blk]at hx;split at hx
        ·omega
        ·split at hx
         ·omega
         ·have:=hC.und y x hx;omega
       case hRo=>
        by_cases e:x=to
        ·rw[if_pos ⟨e,rfl⟩];unfold setN;rw[if_pos e];congr 2
        ·rw[if_neg (fun e2=>e e2.1)];unfold setN;rw[if_neg e];exact x3 x hx
       case hLe=>
        unfold setN;split
        ·omega
        ·exact x4 x hx
       obtain⟨q1,rid,r',q2,q2',q3,q4,rfl,rfl⟩:=hQ;have q0:n3≤rid:=by omega
       have hX:id+(20+C*(start+1))=n1+C:=by rw[hn1,Nat.mul_add,Nat.mul_one];omega
       rw[hbv,hH2];have hX2:id+20+C*(start+1)=n1+C:=by rw[hn1,Nat.mul_add,Nat.mul_one];omega
       have hlr:0<l.reverse.length:=by rw[List.length_reverse];exact q3
       have hfu:c+1≤fb:=by omega
       cases best with
       |nil=>
        have HN:∀q,n1≤q→blk H q=none:=fun q hq=>h.und.none Ω;rw[show bSV bid ([]:List Nat)=SV.val (.slice none 0 0)from rfl,show Go.Tn.bH bid [] br H=H from rfl];rw[if_pos (.inl rfl)]at z2;(repeat' (first|refine sD ?_ ?_<;>intro _|refine aAd ?_|(simp -dsimp only[↓RP,RQ,xa0,reduceIte,reduceCtorEq,xa1,xa2,xa3,xa4,↓RY,NB,QS,QT,qK,QN])))
        all_goals try exact Ωa
        exact⟨(start+1,l.reverse,rid,r'),⟨Ωf,z2,q4,fun _=>⟨Ωf,by dsimp only;(first|rw[hX2]|rw[hX]);omega⟩⟩,Ωf,by
         dsimp only;rw[qbn hlr,qhE hlr,List.length_reverse]
         first|rw[hX]|rw[hX2]
         exact qf Ω Ωg (SubHp.cons (SubHp.skip (HN _ Ω) (SubHp.skip (HN _ Ω) (SubHp.refl _))))⟩
       |cons bx bl=>
        have⟨z5,z6⟩:=z4 Ωi;have HN:∀q,n1≤q→blk ((bid,.rows 3 1 (bl.length+1) br) :: H) q=none:=fun q hq=>by
         simp only[blk];rw[if_neg Ω];exact h.und.none Ω
        rw[show bSV bid (bx :: bl)=.vec bid (bl.length+1) 1 from rfl,show Go.Tn.bH bid (bx :: bl) br H=(bid,.rows 3 1 (bl.length+1) br) :: H from rfl];have g0:=decide_eq_false (show ¬(((bl.length+1:Nat):Int)=0) by omega);by_cases hcmp:l.length<bl.length+1
        ·rw[if_pos (.inr hcmp)]at z2
         have g1:=decide_eq_true (Ω:((l.length:Nat):Int)<((bl.length+1:Nat):Int));(repeat' (first|refine sD ?_ ?_<;>intro _|refine aAd ?_|(simp -dsimp only[↓RP,RQ,xa0,reduceIte,reduceCtorEq,xa1,xa2,xa3,xa4,g0,g1,↓RY,NB,QS,QT,qK,QN])))
         all_goals try exact Ωa
         exact⟨(start+1,l.reverse,rid,r'),⟨Ωf,z2,q4,fun _=>⟨Ωf,by dsimp only;(first|rw[hX2]|rw[hX]);omega⟩⟩,Ωf,by
          dsimp only;rw[qbn hlr,qhE hlr,List.length_reverse]
          first|rw[hX]|rw[hX2]
          exact qf Ω Ωg (SubHp.cons (SubHp.skip (h.und.none Ω) (SubHp.skip (h.und.none Ω) (SubHp.skip (h.und.none z5) (SubHp.refl _)))))⟩
        ·rw[if_neg (fun e=>e.elim (fun e=>by simp at e) hcmp)]at z2
         have g1:=decide_eq_false (Ω:¬((l.length:Nat):Int)<((bl.length+1:Nat):Int));(repeat' (first|refine sD ?_ ?_<;>intro _|refine aAd ?_|(simp -dsimp only[↓RP,RQ,xa0,reduceIte,reduceCtorEq,xa1,xa2,xa3,xa4,g0,g1,↓RY,NB,QS,QT,qK,QN])))
         all_goals try exact Ωa
         exact⟨(start+1,bx :: bl,bid,br),⟨Ωf,z2,z3,fun _=>⟨z5,by dsimp only;(first|rw[hX2]|rw[hX]);omega⟩⟩,Ωf,by
          dsimp only
          first|rw[hX]|rw[hX2]
          exact qf Ω (by simp[qM,Go.Sx.look,bSV]) (SubHp.skip (HN _ Ω) (SubHp.skip (HN _ Ω) (SubHp.skip (HN _ Ω) (SubHp.refl _))))⟩
      ·rw[if_neg hs]at x2
       have hs2:=decide_eq_false (Ω:¬((to:Nat):Int)=(start:Nat));(repeat' (first|refine sD ?_ ?_<;>intro _|refine aAd ?_|(simp -dsimp only[↓RP,RQ,xa0,reduceIte,reduceCtorEq,xa1,xa2,xa3,xa4,hk1,hrk,hrt,hb2,hs2,c2,↓RY,NB,QS,QT,qK,QN])))
       all_goals try exact Ωa
       refine Zv (qz ?_);(repeat' (first|refine sD ?_ ?_<;>intro _|refine aAd ?_|(simp -dsimp only[↓RP,RQ,xa0,reduceIte,reduceCtorEq,xa1,xa2,xa3,xa4,hdr2,hk1,hrk,hrt,hb2,hs2,c2,↓RY,NB,QS,QT,qK,QN])));refine qz ?_;(repeat' (first|refine sD ?_ ?_<;>intro _|refine aAd ?_|(simp -dsimp only[↓RP,RQ,xa0,reduceIte,reduceCtorEq,xa1,xa2,xa3,xa4,hdr2,hk1,hrk,hrt,hb2,hs2,c2,↓RY,NB,QS,QT,qK,QN])));refine qz ?_;(repeat' (first|refine sD ?_ ?_<;>intro _|refine aAd ?_|(simp -dsimp only[↓RP,RQ,xa0,reduceIte,reduceCtorEq,xa1,xa2,xa3,xa4,hdr2,hk1,hrk,hrt,hb2,hs2,c2,↓RY,NB,QS,QT,qK,QN])));refine gO rfl (qgN (id:=wid1) (off:=off1) (n:=wait1.length) (n':=off1+wait1.length) (m:=1) (k:=1) (e:=3) (row:=J1) (row2:=fun i j=>[SV.val (.int .i64 (to:Nat))].getD (i+j) SV.top) (obl2:=1≤1∧1=1) YF ty3 rfl Ω rfl rfl (by show rowsOf _ (SV.vec (n3+25) 1 1)=_;simp[rowsOf,blk]) (by exact⟨xa5 _,rfl⟩) (by exact one1 _) ΩI (xa5 _) Ω Ω (by rw[by3];omega) Ωf ?_ ?_)
       ·refine qz ?_
        (repeat' (first|refine sD ?_ ?_<;>intro _|refine aAd ?_|(simp -dsimp only[↓RP,RQ,xa0,reduceIte,reduceCtorEq,xa1,xa2,xa3,xa4,gu,hdr2,hk1,hrk,hrt,hb2,hs2,c2,↓RY,NB,QS,QT,qK,QN])))
        all_goals try exact Ωa
        have hRI:RI N L start i c n1 n2 rest.length R3 (k+1) (setN by1 to (1+i*5+k)) (fun a b=>if a=to∧b=0 then SV.val (.int .i64 (1+(i:Int)*5+(k:Int)))else byr1 a b) (wait1++[to]) (n3+26) off1 (fun i j=>if i<off1+wait1.length then J1 i j else [SV.val (.int .i64 (to:Nat))].getD (i -(off1+wait1.length)+j) SV.top):=by
         refine⟨hkl,x2,fun x hx=>?_,fun x hx=>?_,fun x hx=>?_,fun y hy=>?_,Ω,by rw[xc8,xd1];omega,Ω,Ω⟩
         ·by_cases e:x=to
          ·rw[if_pos ⟨e,rfl⟩];unfold setN;rw[if_pos e];congr 2
          ·rw[if_neg (fun e2=>e e2.1)];unfold setN;rw[if_neg e];exact x3 x hx
         ·unfold setN;split
          ·omega
          ·exact x4 x hx
         ·rcases List.mem_append.1 hx with h1|h1
          ·exact x5 x h1
          ·rw[List.mem_singleton.1 h1];exact htoN
         ·rw[xc8,xd1]at hy
          show(if off1+y<off1+wait1.length then J1 (off1+y) 0 else [SV.val (.int .i64 (to:Nat))].getD (off1+y -(off1+wait1.length)+0) SV.top)=_;by_cases hc:y<wait1.length
          ·rw[if_pos Ω,x6 y hc,xc6,xc6,xc9 hc]
          ·obtain rfl:y=wait1.length:=by omega
           rw[if_neg Ω,xb8,xc6 (l:=wait1++[to]),xd0 (xa5 _),xb8];rfl
        refine⟨(k+1,setN by1 to (1+i*5+k),_,wait1++[to],n3+26,off1,_),hRI,Ωf,qf Ωf Ωg ?_⟩;dsimp only;rw[xc8,xd1];exact SubHp.cons (SubHp.skip (show blk ((n1+8,_) :: H2) (n3+25)=none by simp only[blk];rw[if_neg Ω];exact hC.und.none Ω) (SubHp.refl _))
       ·refine qz ?_
        (repeat' (first|refine sD ?_ ?_<;>intro _|refine aAd ?_|(simp -dsimp only[↓RP,RQ,xa0,reduceIte,reduceCtorEq,xa1,xa2,xa3,xa4,gu,hdr2,hk1,hrk,hrt,hb2,hs2,c2,↓RY,NB,QS,QT,qK,QN])))
        all_goals try exact Ωa
        have hRI:RI N L start i c n1 n2 rest.length R3 (k+1) (setN by1 to (1+i*5+k)) (fun a b=>if a=to∧b=0 then SV.val (.int .i64 (1+(i:Int)*5+(k:Int)))else byr1 a b) (wait1++[to]) (n3+26) 0 (fun i j=>if i<wait1.length then J1 (off1+i) j else [SV.val (.int .i64 (to:Nat))].getD (i - wait1.length+j) SV.top):=by
         refine⟨hkl,x2,fun x hx=>?_,fun x hx=>?_,fun x hx=>?_,fun y hy=>?_,Ω,by rw[xc8,xd1];omega,Ω,Ω⟩
         ·by_cases e:x=to
          ·rw[if_pos ⟨e,rfl⟩];unfold setN;rw[if_pos e];congr 2
          ·rw[if_neg (fun e2=>e e2.1)];unfold setN;rw[if_neg e];exact x3 x hx
         ·unfold setN;split
          ·omega
          ·exact x4 x hx
         ·rcases List.mem_append.1 hx with h1|h1
          ·exact x5 x h1
          ·rw[List.mem_singleton.1 h1];exact htoN
         ·rw[xc8,xd1]at hy
          show(if 0+y<wait1.length then J1 (off1+(0+y)) 0 else [SV.val (.int .i64 (to:Nat))].getD (0+y - wait1.length+0) SV.top)=_;rw[xb0];by_cases hc:y<wait1.length
          ·rw[if_pos Ω,x6 y hc,xc6,xc6,xc9 hc]
          ·obtain rfl:y=wait1.length:=by omega
           rw[if_neg Ω,xb8,xc6 (l:=wait1++[to]),xd0 (xa5 _),xb8];rfl
        refine⟨(k+1,setN by1 to (1+i*5+k),_,wait1++[to],n3+26,0,_),hRI,Ωf,qf Ωf Ωg ?_⟩;dsimp only;rw[xc8,xd1,xb0];exact SubHp.cons (SubHp.skip (show blk ((n1+8,_) :: H2) (n3+25)=none by simp only[blk];rw[if_neg Ω];exact hC.und.none Ω) (SubHp.refl _))
    ·have hk1:=decide_eq_false (Ω:¬((k:Nat):Int)<((L i).length:Nat))
     rw[List.drop_eq_nil_of_le Ω]at x2;simp only[zQ]at x2;subst x2;simp only[xe7,if_false]at y2;(repeat' (first|refine sD ?_ ?_<;>intro _|refine aAd ?_|(simp -dsimp only[↓RP,RQ,xa0,reduceIte,reduceCtorEq,xa1,xa2,xa3,xa4,hk1,↓RY,NB,QS,QT,qK,QN])))
     all_goals try exact Ωa
     have hQ:QI N L start fb n1 Rb f (c+1) by1 byr1 wait1 wid1 off1 J1:=⟨Ω,y2,x3,x4,x5,x6,x7,Ω,x9,Ω⟩;exact⟨(f,c+1,by1,byr1,wait1,wid1,off1,J1),hQ,Ωf,qf Ωf Ωg (SubHp.refl _)⟩
 ·have hlt1:=decide_eq_false (Ω:¬((start:Nat):Int)<(N:Nat))
  have e0:start=N:=by omega
  rw[e0,xb8]at z2;simp only[yO]at z2;have z2:=Option.some.inj z2;subst z2;(repeat' (first|refine sD ?_ ?_<;>intro _|refine aAd ?_|(simp -dsimp only[↓RP,RQ,xa0,reduceIte,reduceCtorEq,xa1,xa2,xa3,xa4,hlt1,↓RY,NB,QS,QT,qK,QN])))
  all_goals try exact Ωa
  rw[e0]at hn1;exact⟨_,_,_,qf (xa5 _) (fr':=[(0,_)]) ⟨.inr rfl,trivial⟩ (SubHp.refl _),Ω,bid,br,fun hh=>by have:=z4 hh;omega,z3,rfl,rfl⟩
end Go.Tn
end
section
namespace Go.Tn
open Go.Proofs
open Go.Sx
theorem qo(s:Nat→Int):List.take 5 (stL s)=stL s:=rfl
def Wa:List Nat→(Nat→Nat)→List Nat→(Nat→Nat)×List Nat
 |[],seen,wait=>(seen,wait)
 |to :: l,seen,wait=>if seen to=0 then Wa l (setN seen to 1) (wait++[to])else Wa l seen wait
def JZ(L:Nat→List Nat):Nat→(Nat→Nat)→List Nat→List Nat→Option (List Nat)
 |0,_,_,_=>none
 |_+1,_,[],out=>some out
 |f+1,seen,i :: wait,out=>JZ L f (Wa (L i) seen wait).1 (Wa (L i) seen wait).2 (out++[i])
theorem Cl.cons{N:Nat}{L:Nat→List Nat}{nx:Nat→Nat→SV}{H:List (Nat×Blk)}{id tb xid:Nat}{A R M:SV}{sid:Nat}(h:Cl N L nx H id tb xid A R M sid){bid:Nat}{b:Blk}{n:Nat}(hb:id≤bid)(hn:bid<n):Cl N L nx ((bid,b) :: H) n tb xid A R M sid:=by
 have key:∀k y,blk H k=some y→blk ((bid,b) :: H) k=some y:=fun k y hy=>by
  have:=h.und k y hy;simp only[blk];rw[if_neg Ω];exact hy
 refine⟨h.N5,h.l5,h.inn,key _ _ h.tb,key _ _ h.xid,fun i hi=>?_,fun k y hy=>?_⟩
 ·rcases h.nx i hi with c|⟨xi,r',c1,c2,c3⟩
  ·exact .inl c
  ·exact .inr ⟨xi,r',c1,key _ _ c2,c3⟩
 ·simp only[blk]at hy
  split at hy
  ·omega
  ·have:=h.und k y hy;omega
theorem Kt{O:Ctx}{fr:List (Nat×SV)}{hp:List (Nat×Blk)}{nid d k:Nat}{t:TypeId}(row:Nat→Nat→SV)(h:Go.Sx.look fr d=.val (.slice none 0 0)):Weak O ⟨fr,hp,nid⟩ ⟨putFr fr d (.vec nid 0 k),(nid,.rows t k 0 row) :: hp,nid+1⟩:=fun base okc ns outs a w ⟨r,h'⟩=>by
 obtain⟨r',hst,hrep⟩:=wo h'.sat nid (xb4 _) none (hp':=(nid,.rows t k 0 row) :: hp) (e:=t) (k:=k) (row:=row) ΩN (fun j hj _=>by simp only[blk];rw[if_neg (Nat.ne_of_lt hj)]) (fun o ho=>by cases ho);rw[gS]at hst hrep;have h2:=(h'.step hst (fun i x hx=>by
  simp only[blk]at hx;split at hx
  ·rename_i e;rw[e];exact xb5 _
  ·exact Nat.lt_succ_of_lt (h'.keys i x hx)) (xc4 _) (d:=none) (fun t ht=>by cases ht) (.val undef)).nid (nid+1)
 refine⟨r',h2.sat,h2.keys,fun i=>?_,h2.size,h2.lo,h2.out,h2.rfix,h2.defers⟩;show Rep _ _ _ _ (Go.Sx.look (putFr fr d _) i) _;rw[zb];split
 ·rename_i e
  have hv:=h'.fr d;rw[show(⟨fr,hp,nid⟩:St).fr=fr from rfl,h]at hv;rw[e];generalize a.tmps.getD d undef=v at hv ⊢;cases hv;exact hrep
 ·exact h2.fr i
def qmm(l:List Nat)(srow r:Nat→Nat→SV):Prop:=∀k,k<l.length→∀j,j<5→r k j=srow (l.getD k 0) j
theorem one5(a b c d e:Int):oneRows 1 5 (fun i j=>[SV.val (.int .i64 a),SV.val (.int .i64 b),SV.val (.int .i64 c),SV.val (.int .i64 d),SV.val (.int .i64 e)].getD (i*5+j) SV.top):=fun i j hi hj=>by
 obtain rfl:i=0:=by omega
 have:j=0∨j=1∨j=2∨j=3∨j=4:=by omega
 rcases this with rfl|rfl|rfl|rfl|rfl<;>rfl
structure QJ(N:Nat)(L:Nat→List Nat)(fu n1 lo:Nat)(srow:Nat→Nat→SV)(res0:List Nat)(f c:Nat)(seen:Nat→Nat)(byr:Nat→Nat→SV)(wait:List Nat)(wid off:Nat)(J:Nat→Nat→SV)(outL:List Nat)(oid:Nat)(r:Nat→Nat→SV):Prop where
 fu:f+c=fu
 run:JZ L f seen wait outL=some res0
 row:∀x,x<N→byr x 0=.val (.int .i64 (seen x:Nat))
 le:∀x,x<N→seen x≤1
 lt:∀x,x∈wait→x<N
 J:∀i,i<wait.length→J (off+i) 0=.val (.int .i64 (wait.getD i 0:Nat))
 off:off≤c
 len:wait.length≤1+5*c
 w1:lo≤wid
 w2:wid<n1+450*c
 out:qmm outL srow r
 ol:outL.length≤c
 o1:lo≤oid
 o2:oid<n1+450*c
 o3:wid≠oid
structure RJ(N:Nat)(L:Nat→List Nat)(i c n1 n2 lo nr:Nat)(R3:(Nat→Nat)×List Nat)(oid k:Nat)(seen:Nat→Nat)(byr:Nat→Nat→SV)(wait:List Nat)(wid off:Nat)(J:Nat→Nat→SV):Prop where
 kl:k≤(L i).length
 run:Wa ((L i).drop k) seen wait=R3
 row:∀x,x<N→byr x 0=.val (.int .i64 (seen x:Nat))
 le:∀x,x<N→seen x≤1
 lt:∀x,x∈wait→x<N
 J:∀i,i<wait.length→J (off+i) 0=.val (.int .i64 (wait.getD i 0:Nat))
 off:off≤c+1
 len:wait.length≤nr+k
 w1:lo≤wid
 w2:wid<n2+60*k
 o3:wid≠oid
theorem qoD(N:Nat)(L:Nat→List Nat)(nx:Nat→Nat→SV)(H:List (Nat×Blk))(id tb xid sid:Nat)(A R M:SV)(s:Nat→Int)(srow:Nat→Nat→SV)(i0 fu:Nat)(res0:List Nat)(h:Cl N L nx H id tb xid A R M sid)(hfu:fu≤100000)
  (hsr:blk H sid=some (.rows 140 5 N srow)) (hsi:∀i,i<N→∀j,j<5→∃x:Int,srow i j=.val (.int .i64 x)) (hix:∀sd:Nat→Nat→SV,EffVC Tryz.prog 162 [.ptr tb 0,.agg (stL s)] ((id+7,.rows 3 1 N sd) ::(id,.cells 140 (stL s)) :: H) (id+11) (fun hp' nid' res=>hp'=((id+7,.rows 3 1 N sd) ::(id,.cells 140 (stL s)) :: H)∧nid'=id+11+200∧res=I (i0:Nat)))
  (hi0N:i0<N) (hF:JZ L fu (setN (fun _=>0) i0 1) [i0] []=some res0) :
  EffVC Tryz.prog 262 [.ptr tb 0,.agg (stL s)] H id (fun hp' nid' res=>nid'≤id+400+450*fu∧∃oid r,id≤oid∧oid<nid'∧qmm res0 srow r∧hp'=(oid,.rows 140 5 res0.length r) :: H∧res=.vec oid res0.length 5):=by
 refine yn (zW [(14,[(0,0)])]) follows Tryz.func262 rfl Ωb Ωb (by rw[Tryz.ntmps262];simp) fun out=>?_;have hN5:=h.N5;have htb:=h.und _ _ h.tb;have hxid:=h.und _ _ h.xid;have hsid:=h.und _ _ hsr;have NB:=(⟨nmA htb,nmA hxid,nmA hsid⟩:_∧_∧_);(repeat' (first|refine sD ?_ ?_<;>intro _|refine aAe ?_|(simp -dsimp only[↓RP,RQ,xa0,reduceIte,reduceCtorEq,xa1,xa2,xa3,xa4,h.tb,qp,qo,↓RY,NB,QS,QT,qK,QN])))
 all_goals try exact Ωa
 refine jS (by rfl) (hix _) fun hp' nid' res hQ=>?_;obtain⟨rfl,rfl,rfl⟩:=hQ;(repeat' (first|refine sD ?_ ?_<;>intro _|refine aAe ?_|(simp -dsimp only[↓RP,RQ,xa0,reduceIte,reduceCtorEq,xa1,xa2,xa3,xa4,h.tb,qp,qo,↓RY,NB,QS,QT,qK,QN])))
 all_goals try exact Ωa
 obtain⟨n1,hn1⟩:∃n1,n1=id+300:=⟨_,rfl⟩;have hB:∀x,x<N→(if x=i0∧0=0 then SV.val (.int .i64 1)else SV.val ([Value.int .i64 0].getD 0 undef))=.val (.int .i64 (setN (fun _=>0) i0 1 x:Nat)):=fun x hx=>by
  unfold setN;by_cases e:x=i0
  ·rw[if_pos ⟨e,rfl⟩,if_pos e];rfl
  ·rw[if_neg (fun q=>e q.1),if_neg e];rfl
 refine qj (fun(z:Nat×Nat×(Nat→Nat)×(Nat→Nat→SV)×List Nat×Nat×Nat×(Nat→Nat→SV)×List Nat×Nat×(Nat→Nat→SV))=>QJ N L fu n1 (id+8) srow res0 z.1 z.2.1 z.2.2.1 z.2.2.2.1 z.2.2.2.2.1 z.2.2.2.2.2.1 z.2.2.2.2.2.2.1 z.2.2.2.2.2.2.2.1 z.2.2.2.2.2.2.2.2.1 z.2.2.2.2.2.2.2.2.2.1 z.2.2.2.2.2.2.2.2.2.2) (fun z=>⟨[(0,.ptr tb 0),(5,.vec (id+7) N 1),(6,.que z.2.2.2.2.2.1 (z.2.2.2.2.2.2.1) (z.2.2.2.2.1.length) 1),(7,.vec z.2.2.2.2.2.2.2.2.2.1 (z.2.2.2.2.2.2.2.2.1.length) 5)],(z.2.2.2.2.2.1,.rows 3 1 (z.2.2.2.2.2.2.1+z.2.2.2.2.1.length) z.2.2.2.2.2.2.2.1) ::(id+7,.rows 3 1 N z.2.2.2.1) ::(z.2.2.2.2.2.2.2.2.2.1,.rows 140 5 z.2.2.2.2.2.2.2.2.1.length z.2.2.2.2.2.2.2.2.2.2) :: H,n1+450*z.2.1⟩) (fun z=>z.1) (fu,0,setN (fun _=>0) i0 1,fun a b=>if a=i0∧b=0 then SV.val (.int .i64 1)else SV.val ([Value.int .i64 0].getD b undef),[i0],id+214,0,fun i j=>[SV.val (.int .i64 (i0:Nat))].getD (i+j) SV.top,[],id+223,fun _ _=>.top) ⟨rfl,hF,hB,fun x hx=>(by show(if x=i0 then 1 else 0)≤1;split<;>omega),fun x hx=>(by rw[List.mem_singleton.1 hx];exact hi0N),fun i hi=>(by have hi:i<1:=hi;obtain rfl:i=0:=Ω;rfl),xa5 _,Ωi,Ωf,Ωf,fun k hk=>(by cases hk),xa5 _,Ωf,Ωf,Ωf⟩ (Weak.trans (qhD (d:=6) rfl) (Weak.trans (Kt (t:=140) (k:=5) (d:=7) (fun _ _=>.top) rfl) (qf Ωf (by simp[qM,Go.Sx.look,putFr]) ?hA5))) fun z hz=>?_
 case hA5=>(intro q v hv;simp only[blk]at hv ⊢;((repeat' split at hv)<;>(repeat' split)<;>first|exact hv|(exfalso;omega)|(exfalso;have:=h.und _ _ hv;omega)))
 obtain⟨f,c,seen,byr,wait,wid,off,J,outL,oid,orw⟩:=z;have hz':QJ N L fu n1 (id+8) srow res0 f c seen byr wait wid off J outL oid orw:=hz;obtain⟨y1,y2,y3,y4,y5,y6,y7,y8,y9,y10,y11,y12,y13,y14,y15⟩:=hz';dsimp only;cases f with
 |zero=>cases y2
 |succ f=>
 obtain⟨n2,hn2⟩:∃n2,n2=n1+450*c:=⟨_,rfl⟩;rw[←hn2]at y10 y14 ⊢;clear NB;have NB:=(⟨nmA (Ω:tb<n2),nmA (Ω:xid<n2),nmA (Ω:sid<n2),nmA y10,nmA y14,nmE (Ω:wid≠tb),nmE (Ω:wid≠xid),nmE (Ω:wid≠sid),nmE (Ω:wid≠id+7),nmE y15,nmE (Ω:oid≠tb),nmE (Ω:oid≠xid),nmE (Ω:oid≠sid),nmE (Ω:oid≠id+7),nmA htb,nmA hxid,nmA hsid,nmA (Ω:id+7<n2)⟩:_∧_∧_∧_∧_∧_∧_∧_∧_∧_∧_∧_∧_∧_∧_∧_∧_∧_);have hdr0:dropBlk H oid=H:=qU (h.und.none Ω);cases wait with
 |nil=>
  simp only[JZ]at y2;have y2:=Option.some.inj y2;subst y2;(repeat' (first|refine sD ?_ ?_<;>intro _|refine aAe ?_|(simp -dsimp only[↓RP,RQ,xa0,reduceIte,reduceCtorEq,xa1,xa2,xa3,xa4,h.tb,↓RY,NB,QS,QT,qK,QN])))
  all_goals try exact Ωa
  refine⟨_,_,_,qf (xa5 _) (fr':=[(0,_)]) ⟨.inr rfl,trivial⟩ ?hSb,Ω,oid,orw,Ω,Ω,y11,rfl,rfl⟩
  case hSb=>(intro q v hv;simp only[blk]at hv ⊢;((repeat' split at hv)<;>(repeat' split)<;>first|exact hv|(exfalso;omega)|(exfalso;have:=h.und _ _ hv;omega)))
 |cons i rest=>
  have hi:i<N:=y5 i xd5;have hgt:=decide_eq_true (Ω:(0:Int)<((rest.length+1:Nat):Int));have hJ0:=y6 0 Ωi;rw[xb1]at hJ0;have hJ1:J off 0=SV.val (.int .i64 (i:Nat)):=hJ0;rw[xe4]at y8;have hql:((rest.length+1:Nat):Int) - 1=((rest.length:Nat):Int):=by omega
  obtain⟨x0,e0⟩:=hsi i hi 0 Ω;obtain⟨x1,e1⟩:=hsi i hi 1 Ω;obtain⟨x2,e2⟩:=hsi i hi 2 Ω;obtain⟨x3,e3⟩:=hsi i hi 3 Ω;obtain⟨x4,e4⟩:=hsi i hi 4 Ω;simp only[JZ]at y2;have hor:qmm (outL++[i]) srow (fun a b=>if a<outL.length then orw a b else [SV.val (.int .i64 x0),SV.val (.int .i64 x1),SV.val (.int .i64 x2),SV.val (.int .i64 x3),SV.val (.int .i64 x4)].getD ((a - outL.length)*5+b) SV.top):=fun a ha b hb=>by
   rw[xc8,xd1]at ha;by_cases hc:a<outL.length
   ·show(if a<outL.length then orw a b else _)=_
    rw[if_pos hc,y11 a hc b hb,xc6,xc6,xc9 hc]
   ·obtain rfl:a=outL.length:=by omega
    show(if outL.length<outL.length then orw outL.length b else [SV.val (.int .i64 x0),SV.val (.int .i64 x1),SV.val (.int .i64 x2),SV.val (.int .i64 x3),SV.val (.int .i64 x4)].getD ((outL.length - outL.length)*5+b) SV.top)=_;rw[if_neg Ω,xc6 (l:=outL++[i]),xd0 (xa5 _),xb8];have:b=0∨b=1∨b=2∨b=3∨b=4:=by omega
    rcases this with rfl|rfl|rfl|rfl|rfl
    ·exact e0.symm
    ·exact e1.symm
    ·exact e2.symm
    ·exact e3.symm
    ·exact e4.symm
  obtain⟨or2,hor2⟩:∃or2,or2=(fun a b=>if a<outL.length then orw a b else [SV.val (.int .i64 x0),SV.val (.int .i64 x1),SV.val (.int .i64 x2),SV.val (.int .i64 x3),SV.val (.int .i64 x4)].getD ((a - outL.length)*5+b) SV.top):=⟨_,rfl⟩;rw[←hor2]at hor;have hl5:=h.l5 i hi;rcases h.nx i hi with⟨c1,c2⟩|⟨xi,r,c1,c2,c3⟩
  ·rw[c1]at y2
   simp only[Wa]at y2;(repeat' (first|refine sD ?_ ?_<;>intro _|refine aAe ?_|(simp -dsimp only[↓RP,RQ,xa0,reduceIte,reduceCtorEq,xa1,xa2,xa3,xa4,c2,hgt,hql,h.tb,h.xid,hsr,hJ1,e0,e1,e2,e3,e4,hdr0,qlv,↓RY,NB,QS,QT,qK,QN])))
   all_goals try exact Ωa
   refine qj (fun(z:Unit)=>True) (fun _=>⟨[(0,.ptr tb 0),(5,.vec (id+7) N 1),(6,.que wid (off+1) (rest.length) 1),(7,.vec (n2+19) (outL.length+1) 5)]++[(51,.val (.int .i64 0)),(52,.val (.int .i64 0))],(wid,.rows 3 1 (off+1+rest.length) J) ::(id+7,.rows 3 1 N byr) ::(n2+19,.rows 140 5 (outL.length+1) or2) :: H,n2+100⟩) (fun _=>0) () trivial (qf Ω Ωg ?hSa) fun z hz=>?_
   case hSa=>rw[hor2,show off+1+rest.length=off+(rest.length+1) by omega];(intro q v hv;simp only[blk]at hv ⊢;((repeat' split at hv)<;>(repeat' split)<;>first|exact hv|(exfalso;omega)|(exfalso;have:=h.und _ _ hv;omega)))
   (repeat' (first|refine sD ?_ ?_<;>intro _|refine aAe ?_|(simp -dsimp only[↓RP,RQ,xa0,reduceIte,reduceCtorEq,xa1,xa2,xa3,xa4,↓RY,NB,QS,QT,qK,QN])))
   all_goals try exact Ωa
   have hq:QJ N L fu n1 (id+8) srow res0 f (c+1) seen byr rest wid (off+1) J (outL++[i]) (n2+19) or2:=⟨Ω,y2,y3,y4,fun x hx=>y5 x (List.mem_cons_of_mem _ hx),fun i hi=>by
    have:=y6 (i+1) Ωr;rw[show off+1+i=off+(i+1) by omega,this];rfl,Ω,Ω,y9,Ω,hor,by rw[xc8,xd1];omega,Ω,Ω,Ω⟩
   exact⟨(f,c+1,seen,byr,rest,wid,off+1,J,outL++[i],n2+19,or2),hq,Ωf,qf Ωf Ωg (by dsimp only;rw[xc8,xd1,show off+1+rest.length=off+(1+rest.length) by omega];exact SubHp.refl _)⟩
  ·have hxi:=h.und _ _ c2
   have NX:=(⟨nmA (Ω:xi<n2),nmE (Ω:xi≠wid),nmE (Ω:xi≠oid),nmA hxi⟩:_∧_∧_∧_);obtain⟨R3,hR3⟩:∃R3,R3=Wa (L i) seen rest:=⟨_,rfl⟩;rw[←hR3]at y2;(repeat' (first|refine sD ?_ ?_<;>intro _|refine aAe ?_|(simp -dsimp only[↓RP,RQ,xa0,reduceIte,reduceCtorEq,xa1,xa2,xa3,xa4,c1,hgt,hql,h.tb,h.xid,hsr,hJ1,e0,e1,e2,e3,e4,hdr0,qlv,↓RY,NB,QS,QT,qK,QN])))
   all_goals try exact Ωa
   refine qj (fun(z:Nat×(Nat→Nat)×(Nat→Nat→SV)×List Nat×Nat×Nat×(Nat→Nat→SV))=>RJ N L i c n1 (n2+40) (id+8) rest.length R3 (n2+19) z.1 z.2.1 z.2.2.1 z.2.2.2.1 z.2.2.2.2.1 z.2.2.2.2.2.1 z.2.2.2.2.2.2) (fun z=>⟨[(0,.ptr tb 0),(5,.vec (id+7) N 1),(6,.que z.2.2.2.2.1 (z.2.2.2.2.2.1) (z.2.2.2.1.length) 1),(7,.vec (n2+19) (outL.length+1) 5)]++[(50,.vec xi (L i).length 1),(51,.val (.int .i64 ((L i).length:Nat))),(52,.val (.int .i64 (z.1:Nat)))],(z.2.2.2.2.1,.rows 3 1 (z.2.2.2.2.2.1+z.2.2.2.1.length) z.2.2.2.2.2.2) ::(id+7,.rows 3 1 N z.2.2.1) ::(n2+19,.rows 140 5 (outL.length+1) or2) :: H,n2+40+60*z.1⟩) (fun z=>(L i).length - z.1) (0,seen,byr,rest,wid,off+1,J) (by
     have:RJ N L i c n1 (n2+40) (id+8) rest.length R3 (n2+19) 0 seen byr rest wid (off+1) J:=⟨xb6 _,hR3.symm,y3,y4,fun x hx=>y5 x (List.mem_cons_of_mem _ hx),fun i hi=>by
      have:=y6 (i+1) Ωr;rw[show off+1+i=off+(i+1) by omega,this];rfl,Ω,Ω,y9,Ω,Ω⟩
     exact this) (qf Ωf Ωg ?hSc) fun z hz=>?_
   case hSc=>dsimp only;rw[hor2,show off+1+rest.length=off+(rest.length+1) by omega];(intro q v hv;simp only[blk]at hv ⊢;((repeat' split at hv)<;>(repeat' split)<;>first|exact hv|(exfalso;omega)|(exfalso;have:=h.und _ _ hv;omega)))
   obtain⟨k,seen1,byr1,wait1,wid1,off1,J1⟩:=z;have hz':RJ N L i c n1 (n2+40) (id+8) rest.length R3 (n2+19) k seen1 byr1 wait1 wid1 off1 J1:=hz;obtain⟨v1,v2,v3,v4,v5,v6,v7,v8,v9,v10,v11⟩:=hz';dsimp only;obtain⟨n3,hn3⟩:∃n3,n3=n2+40+60*k:=⟨_,rfl⟩;rw[←hn3]at v10 ⊢;clear NB NX;have NB:=(⟨nmA (Ω:tb<n3),nmA (Ω:xid<n3),nmA v10,nmE (Ω:wid1≠tb),nmE (Ω:wid1≠xid),nmE (Ω:wid1≠id+7),nmE v11,nmA htb,nmA hxid,nmA (Ω:id+7<n3),nmA (Ω:xi<n3),nmE (Ω:xi≠wid1),nmA hxi,nmA (Ω:n2+19<n3),nmA (Ω:xi<n2),nmA (Ω:id+7<n2)⟩:_∧_∧_∧_∧_∧_∧_∧_∧_∧_∧_∧_∧_∧_∧_∧_);by_cases hkl:k<(L i).length
   ·have hk1:=decide_eq_true (Ω:((k:Nat):Int)<((L i).length:Nat))
    have hdr2:dropBlk H wid1=H:=qU (h.und.none Ω);obtain⟨to,hto⟩:∃to,to=(L i).getD k 0:=⟨_,rfl⟩;have hgi:(L i)[k]? = some to:=by rw[hto,xc6,xc7 hkl];rfl
    have htoN:to<N:=h.inn i hi to (List.mem_of_getElem? hgi);have hdr:(L i).drop k=to ::(L i).drop (k+1):=by
     rw[List.drop_eq_getElem_cons hkl];rw[xc7 hkl]at hgi;rw[Option.some.inj hgi]
    rw[hdr]at v2;simp only[Wa]at v2;have hrk:=c3 k hkl;rw[←hto]at hrk;have hrt:=v3 to htoN;have hle:=v4 to htoN;by_cases hb1:seen1 to=0
    ·rw[if_pos hb1]at v2
     have hb2:=decide_eq_true (Ω:((seen1 to:Nat):Int)=0);(repeat' (first|refine sD ?_ ?_<;>intro _|refine aAe ?_|(simp -dsimp only[↓RP,RQ,xa0,reduceIte,reduceCtorEq,xa1,xa2,xa3,xa4,hk1,hrk,hrt,hb2,c2,↓RY,NB,QS,QT,qK,QN])))
     all_goals try exact Ωa
     refine Zv (qz ?_);(repeat' (first|refine sD ?_ ?_<;>intro _|refine aAe ?_|(simp -dsimp only[↓RP,RQ,xa0,reduceIte,reduceCtorEq,xa1,xa2,xa3,xa4,hdr0,hdr2,hk1,hrk,hrt,hb2,c2,↓RY,NB,QS,QT,qK,QN])));refine qz ?_;(repeat' (first|refine sD ?_ ?_<;>intro _|refine aAe ?_|(simp -dsimp only[↓RP,RQ,xa0,reduceIte,reduceCtorEq,xa1,xa2,xa3,xa4,hdr0,hdr2,hk1,hrk,hrt,hb2,c2,↓RY,NB,QS,QT,qK,QN])));refine qz ?_;(repeat' (first|refine sD ?_ ?_<;>intro _|refine aAe ?_|(simp -dsimp only[↓RP,RQ,xa0,reduceIte,reduceCtorEq,xa1,xa2,xa3,xa4,hdr0,hdr2,hk1,hrk,hrt,hb2,c2,↓RY,NB,QS,QT,qK,QN])));refine gO rfl (qgN (id:=wid1) (off:=off1) (n:=wait1.length) (n':=off1+wait1.length) (m:=1) (k:=1) (e:=3) (row:=J1) (row2:=fun i j=>[SV.val (.int .i64 (to:Nat))].getD (i+j) SV.top) (obl2:=1≤1∧1=1) YF ty3 rfl Ω rfl rfl (by show rowsOf _ (SV.vec (n3+15) 1 1)=_;simp[rowsOf,blk]) (by exact⟨xa5 _,rfl⟩) (by exact one1 _) ΩI (xa5 _) Ω Ω (by rw[by3];omega) Ωf ?_ ?_)
     ·refine qz ?_
      (repeat' (first|refine sD ?_ ?_<;>intro _|refine aAe ?_|(simp -dsimp only[↓RP,RQ,xa0,reduceIte,reduceCtorEq,xa1,xa2,xa3,xa4,gu,hdr0,hdr2,hk1,hrk,hrt,hb2,c2,↓RY,NB,QS,QT,qK,QN])))
      all_goals try exact Ωa
      have hRI:RJ N L i c n1 (n2+40) (id+8) rest.length R3 (n2+19) (k+1) (setN seen1 to 1) (fun a b=>if a=to∧b=0 then SV.val (.int .i64 1)else byr1 a b) (wait1++[to]) (n3+16) off1 (fun i j=>if i<off1+wait1.length then J1 i j else [SV.val (.int .i64 (to:Nat))].getD (i -(off1+wait1.length)+j) SV.top):=by
       refine⟨hkl,v2,fun x hx=>?_,fun x hx=>?_,fun x hx=>?_,fun y hy=>?_,Ω,by rw[xc8,xd1];omega,Ω,Ω,Ω⟩
       ·by_cases e:x=to
        ·rw[if_pos ⟨e,rfl⟩];unfold setN;rw[if_pos e];rfl
        ·rw[if_neg (fun e2=>e e2.1)];unfold setN;rw[if_neg e];exact v3 x hx
       ·unfold setN;split
        ·omega
        ·exact v4 x hx
       ·rcases List.mem_append.1 hx with h1|h1
        ·exact v5 x h1
        ·rw[List.mem_singleton.1 h1];exact htoN
       ·rw[xc8,xd1]at hy
        show(if off1+y<off1+wait1.length then J1 (off1+y) 0 else [SV.val (.int .i64 (to:Nat))].getD (off1+y -(off1+wait1.length)+0) SV.top)=_
        skip
        by_cases hc:y<wait1.length
        ·rw[if_pos Ω,v6 y hc,xc6,xc6,xc9 hc]
        ·obtain rfl:y=wait1.length:=by omega
         rw[if_neg Ω,xb8,xc6 (l:=wait1++[to]),xd0 (xa5 _),xb8];rfl
      refine⟨(k+1,setN seen1 to 1,_,wait1++[to],n3+16,off1,_),hRI,Ωf,qf Ωf Ωg ?_⟩;dsimp only;rw[xc8,xd1];exact SubHp.cons (SubHp.skip (show blk ((id+7,_) ::(n2+19,_) :: H) (n3+15)=none by simp only[blk];rw[if_neg Ω,if_neg Ω];exact h.und.none Ω) (SubHp.refl _))
     ·refine qz ?_
      (repeat' (first|refine sD ?_ ?_<;>intro _|refine aAe ?_|(simp -dsimp only[↓RP,RQ,xa0,reduceIte,reduceCtorEq,xa1,xa2,xa3,xa4,gu,hdr0,hdr2,hk1,hrk,hrt,hb2,c2,↓RY,NB,QS,QT,qK,QN])))
      all_goals try exact Ωa
      have hRI:RJ N L i c n1 (n2+40) (id+8) rest.length R3 (n2+19) (k+1) (setN seen1 to 1) (fun a b=>if a=to∧b=0 then SV.val (.int .i64 1)else byr1 a b) (wait1++[to]) (n3+16) 0 (fun i j=>if i<wait1.length then J1 (off1+i) j else [SV.val (.int .i64 (to:Nat))].getD (i - wait1.length+j) SV.top):=by
       refine⟨hkl,v2,fun x hx=>?_,fun x hx=>?_,fun x hx=>?_,fun y hy=>?_,Ω,by rw[xc8,xd1];omega,Ω,Ω,Ω⟩
       ·by_cases e:x=to
        ·rw[if_pos ⟨e,rfl⟩];unfold setN;rw[if_pos e];rfl
        ·rw[if_neg (fun e2=>e e2.1)];unfold setN;rw[if_neg e];exact v3 x hx
       ·unfold setN;split
        ·omega
        ·exact v4 x hx
       ·rcases List.mem_append.1 hx with h1|h1
        ·exact v5 x h1
        ·rw[List.mem_singleton.1 h1];exact htoN
       ·rw[xc8,xd1]at hy
        show(if 0+y<wait1.length then J1 (off1+(0+y)) 0 else [SV.val (.int .i64 (to:Nat))].getD (0+y - wait1.length+0) SV.top)=_;rw[xb0];by_cases hc:y<wait1.length
        ·rw[if_pos Ω,v6 y hc,xc6,xc6,xc9 hc]
        ·obtain rfl:y=wait1.length:=by omega
         rw[if_neg Ω,xb8,xc6 (l:=wait1++[to]),xd0 (xa5 _),xb8];rfl
      refine⟨(k+1,setN seen1 to 1,_,wait1++[to],n3+16,0,_),hRI,Ωf,qf Ωf Ωg ?_⟩;dsimp only;rw[xc8,xd1,xb0];exact SubHp.cons (SubHp.skip (show blk ((id+7,_) ::(n2+19,_) :: H) (n3+15)=none by simp only[blk];rw[if_neg Ω,if_neg Ω];exact h.und.none Ω) (SubHp.refl _))
    ·rw[if_neg hb1]at v2
     have hb2:=decide_eq_false (Ω:¬((seen1 to:Nat):Int)=0);(repeat' (first|refine sD ?_ ?_<;>intro _|refine aAe ?_|(simp -dsimp only[↓RP,RQ,xa0,reduceIte,reduceCtorEq,xa1,xa2,xa3,xa4,hk1,hrk,hrt,hb2,c2,↓RY,NB,QS,QT,qK,QN])))
     all_goals try exact Ωa
     have hRI:RJ N L i c n1 (n2+40) (id+8) rest.length R3 (n2+19) (k+1) seen1 byr1 wait1 wid1 off1 J1:=⟨hkl,v2,v3,v4,v5,v6,v7,Ω,v9,Ω,v11⟩;exact⟨(k+1,seen1,byr1,wait1,wid1,off1,J1),hRI,Ωf,qf Ωf Ωg (SubHp.refl _)⟩
   ·have hk1:=decide_eq_false (Ω:¬((k:Nat):Int)<((L i).length:Nat))
    rw[List.drop_eq_nil_of_le Ω]at v2;simp only[Wa]at v2;subst v2;(repeat' (first|refine sD ?_ ?_<;>intro _|refine aAe ?_|(simp -dsimp only[↓RP,RQ,xa0,reduceIte,reduceCtorEq,xa1,xa2,xa3,xa4,hk1,↓RY,NB,QS,QT,qK,QN])))
    all_goals try exact Ωa
    have hq:QJ N L fu n1 (id+8) srow res0 f (c+1) seen1 byr1 wait1 wid1 off1 J1 (outL++[i]) (n2+19) or2:=⟨Ω,y2,v3,v4,v5,v6,v7,Ω,v9,Ω,hor,by rw[xc8,xd1];omega,Ω,Ω,v11⟩;exact⟨(f,c+1,seen1,byr1,wait1,wid1,off1,J1,outL++[i],n2+19,or2),hq,Ωf,qf Ωf Ωg (by dsimp only;rw[xc8,xd1];exact SubHp.refl _)⟩
theorem qoE{H:List (Nat×Blk)}{id tb tix m N i0:Nat}{u s:Nat→Int}{tr:Nat→Nat→SV}{Z1 Z2 R M:SV}(hU:Under H id)(hb:blk H tb=some (.cells 253 [.vec tix m 1,Z1,Z2,R,M]))(ht:blk H tix=some (.rows 3 1 m tr))(htu:∀i,i<m→tr i 0=.val (.int .i64 (u i)))(hm:m≤5)(hu:∀i,i<m→1≤u i∧u i≤12)(hs:∀i,i<m→0≤s i∧s i≤u i)
  (hi0:ixF u s m=(i0:Nat)) (sd:Nat→Nat→SV):EffVC Tryz.prog 162 [.ptr tb 0,.agg (stL s)] ((id+7,.rows 3 1 N sd) ::(id,.cells 140 (stL s)) :: H) (id+11) (fun hp' nid' res=>hp'=((id+7,.rows 3 1 N sd) ::(id,.cells 140 (stL s)) :: H)∧nid'=id+11+200∧res=I (i0:Nat)):=by
 have htb:=hU _ _ hb;have hti:=hU _ _ ht;have hN:=hU.none (Ω:id≤id+11);rw[←hi0];refine qnQ _ _ tb m u s tix tr Ω ?_ ?_ htu Z1 Z2 R M hm hu hs Ω ?_
 ·simp only[blk];rw[if_neg Ω,if_neg Ω];exact hN
 ·simp only[blk];rw[if_neg Ω,if_neg Ω];exact ht
 ·simp only[blk];rw[if_neg Ω,if_neg Ω];exact hb
theorem qoF{H:List (Nat×Blk)}{id tb m N i0:Nat}{o full:Bool}{row:Nat→Nat→SV}{u s:Nat→Int}{Z1 Z2 R M:SV}(hU:Under H id)(hb:blk H tb=some (.cells 253 [.arr o full m 1 row,Z1,Z2,R,M]))(htu:∀i,i<m→row i 0=.val (.int .i64 (u i)))(hm:m≤5)(hu:∀i,i<m→1≤u i∧u i≤12)(hs:∀i,i<m→0≤s i∧s i≤u i)
  (hi0:ixF u s m=(i0:Nat)) (sd:Nat→Nat→SV):EffVC Tryz.prog 162 [.ptr tb 0,.agg (stL s)] ((id+7,.rows 3 1 N sd) ::(id,.cells 140 (stL s)) :: H) (id+11) (fun hp' nid' res=>hp'=((id+7,.rows 3 1 N sd) ::(id,.cells 140 (stL s)) :: H)∧nid'=id+11+200∧res=I (i0:Nat)):=by
 have htb:=hU _ _ hb;have hN:=hU.none (Ω:id≤id+11);rw[←hi0];refine qnR _ _ tb m u s o full row ?_ htu Z1 Z2 R M hm hu hs Ω ?_
 ·simp only[blk];rw[if_neg Ω,if_neg Ω];exact hN
 ·simp only[blk];rw[if_neg Ω,if_neg Ω];exact hb
end Go.Tn
end
section
namespace Go.Sx
open Go.RowKit
theorem wY{O:Ctx}{fr:List (Nat×SV)}{hp:List (Nat×Blk)}{nid b i k:Nat}{t te:TypeId}{l:List SV}(row:Nat→Nat→SV)(hb:blk hp b=some (.cells t l))(hi:l[i]? = some (.val (.slice none 0 0))):Weak O ⟨fr,hp,nid⟩ ⟨fr,(b,.cells t (l.set i (.vec nid 0 k))) ::(nid,.rows te k 0 row) :: hp,nid+1⟩:=fun base okc ns outs a w ⟨r,h'⟩=>by
 have hbn:b<nid:=h'.keys b _ hb;obtain⟨r',hst,hrep⟩:=wo h'.sat nid (xb4 _) none (hp':=(nid,.rows te k 0 row) :: hp) (e:=te) (k:=k) (row:=row) ΩN (fun j hj _=>by simp only[blk];rw[if_neg (Nat.ne_of_lt hj)]) (fun o ho=>by cases ho);rw[gS]at hst hrep;have hb1:blk ((nid,.rows te k 0 row) :: hp) b=some (.cells t l):=by simp only[blk];rw[if_neg (Nat.ne_of_lt hbn)];exact hb
 have dom:∀id x,blk ((b,.cells t (l.set i (.vec nid 0 k))) ::(nid,.rows te k 0 row) :: hp) id=some x→∃y,blk ((nid,.rows te k 0 row) :: hp) id=some y:=fun id x hx=>by
  by_cases e:id=b
  ·rw[e];exact⟨_,hb1⟩
  ·rw[show blk ((b,.cells t (l.set i (.vec nid 0 k))) ::(nid,.rows te k 0 row) :: hp) id=blk ((nid,.rows te k 0 row) :: hp) id by simp only[blk];rw[if_neg e]]at hx
   exact⟨x,hx⟩
 have gd:∀o c,Gd base okc r' (· < nid+1) ((nid,.rows te k 0 row) :: hp) w o c→Gd base okc r' (· < nid+1) ((b,.cells t (l.set i (.vec nid 0 k))) ::(nid,.rows te k 0 row) :: hp) w o c∧w.heap[c]? = w.heap[c]?:=fun o c hc=>⟨⟨hc.1,fun id x hx hid hr=>by obtain⟨y,hy⟩:=dom id x hx;exact hc.2.1 id y hy hid hr,hc.2.2⟩,rfl⟩;have sat:Sat base okc r' (· < nid+1) ((b,.cells t (l.set i (.vec nid 0 k))) ::(nid,.rows te k 0 row) :: hp) w:=by
  refine⟨hst.sat.below,fun id x hx hid=>?_,fun id x c hx hid hc=>?_,fun id x id' x' c hx hid hx' hid' hc hc'=>?_⟩
  ·by_cases e:id=b
   ·have hr:=hst.sat.rep b _ hb1 (Ω:b<nid+1)
    rw[e]at hx ⊢;simp only[blk,if_true,Option.some.injEq]at hx;rw[←hx];generalize r' b=ob at hr ⊢;cases hr with
    |cells _ _ c cs hc hl h=>
     refine .cells t _ c cs hc (by rw[xe5];exact hl) fun j sv hj=>?_;rw[List.getElem?_set]at hj;split at hj
     ·rename_i eij
      split at hj
      ·injection hj with hj
       rw[←hj,←eij];have h0:=h i _ hi;generalize cs.getD i undef=v at h0 ⊢;cases h0;exact hrep.mono (fun _ _=>rfl) (fun _ h=>h) gd (Shapes.refl w)
      ·cases hj
     ·exact(h j sv hj).mono (fun _ _=>rfl) (fun _ h=>h) gd (Shapes.refl w)
   ·rw[show blk ((b,.cells t (l.set i (.vec nid 0 k))) ::(nid,.rows te k 0 row) :: hp) id=blk ((nid,.rows te k 0 row) :: hp) id by simp only[blk];rw[if_neg e]]at hx
    exact(hst.sat.rep id x hx hid).mono (fun _ _=>rfl) (fun _ h=>h) gd (Shapes.refl w) (fun _ _=>rfl)
  ·obtain⟨y,hy⟩:=dom id x hx;exact hst.sat.own id y c hy hid hc
  ·obtain⟨y,hy⟩:=dom id x hx
   obtain⟨y',hy'⟩:=dom id' x' hx';exact hst.sat.inj id y id' y' c hy hid hy' hid' hc hc'
 have hst2:Step base okc r (· < nid) hp w r' (· < nid+1) ((b,.cells t (l.set i (.vec nid 0 k))) ::(nid,.rows te k 0 row) :: hp) w:=hst.trans ⟨sat,fun _ _=>rfl,fun _ h=>h,gd,Shapes.refl w⟩;exact⟨r',(h'.step hst2 (fun j x hx=>by
  obtain⟨y,hy⟩:=dom j x hx;simp only[blk]at hy;split at hy
  ·rename_i e;rw[e];exact xb5 _
  ·exact Nat.lt_succ_of_lt (h'.keys j y hy)) (xc4 _) (d:=none) (fun t ht=>by cases ht) (.val undef)).nid (nid+1)⟩
section
variable{P:Program}
def ef3(l:List Oper)(a b c:Nat):Bool:=GB l&&l.all (fun o=>o.guard.isNone)&&Nat.blt a b&&Nat.blt b c&&Nat.beq (c+1) l.length&&Nat.beq (kc (efL l) l.length) 3&&(List.range l.length).all fun i=>(efL l i ==(decide (i=a) || decide (i=b) || decide (i=c)))&&(efL l i || Nat.ble (hiC l i) 2)
def J0(P:Program)(G:Nat→SV)(Q:List (Nat×Blk)→Prop)(res:Nat→SV):Nat→List Oper→Prop
 |_,[]=>True
 |i,o :: l=>(kU o.op=true∨∀(F:Nat→SV)(H:List (Nat×Blk)),(∀t,t∈zl o→F t=G t)→Q H→qjZ (res i) (stepR P F H o.op))∧J0 P G Q res (i+1) l
theorem J2{G:Nat→SV}{Q:List (Nat×Blk)→Prop}{res:Nat→SV}:∀{l:List Oper}{k i:Nat}{o:Oper},J0 P G Q res k l→l[i]? = some o→kU o.op=false→∀(F:Nat→SV)(H:List (Nat×Blk)),(∀t,t∈zl o→F t=G t)→Q H→qjZ (res (k+i)) (stepR P F H o.op)
 |o' :: l,k,0,o,h,ho,he=>by
  simp only[xd6,Option.some.injEq]at ho;subst ho;rcases h.1 with c|c
  ·rw[he]at c;cases c
  ·exact c
 |o' :: l,k,i+1,o,h,ho,he=>by
  simp only[xd7]at ho;have:=J2 h.2 ho he;rw[show k+1+i=k+(i+1) by omega]at this;exact this
 |[],k,i,o,h,ho,he=>by simp at ho
def qmn(P:Program)(O:Ctx)(l:List Oper)(G:Nat→SV)(i:Nat)(H H':List (Nat×Blk))(Z Z':Nat)(r:SV):Prop:=
 ∀o,l[i]? = some o→∀st1:St,(∀t,t∈zl o→look st1.fr t=G t)→st1.hp=H→st1.nid=Z+l.length→∀K':St→Prop,(∀st':St,(∀t,look st'.fr t=look (st1.put o.dst r).fr t)→st'.hp=H'→st'.nid+1≤Z'→K' st')→kj P O True o.op o.dst st1.nid st1 K' (stepR P (look st1.fr) st1.hp o.op)
theorem GC(hm:P.follows .mixedOrders=true){O:Ctx}{st:St}{K:Ex→St→Prop}{id:Nat}{l:List Oper}(a b c:Nat)(hc:ef3 l a b c=true)(res:Nat→SV)(H1 H2 H3:List (Nat×Blk))(Z1 Z2 Z3:Nat)(Q:List (Nat×Blk)→Prop)(hQ:Q st.hp∧Q H1∧Q H2)(G:Nat→SV)
  (hG:∀t,G t=FS (nth (dsts l)) res (fun _=>true) (look st.fr) l.length t)
  (hp:J0 P G Q res 0 l)
  (ha:qmn P O l G a st.hp H1 st.nid Z1 (res a)) (hb:qmn P O l G b H1 H2 Z1 Z2 (res b)) (hcc:qmn P O l G c H2 H3 Z2 Z3 (res c))
  (hK:∀st':St,(∀t,look st'.fr t=G t)→st'.hp=H3→st'.nid=Z3+l.length→∃st2,Weak O st' st2∧K .normal st2) {g:Tag K}:gC P O id l true st K g:=by
 simp only[ef3,xe6,List.all_eq_true,List.mem_range,Nat.blt_eq,Nat.beq_eq,xe8,beq_iff_eq,Nat.ble_eq]at hc;obtain⟨⟨⟨⟨⟨⟨c1,c2⟩,c3⟩,c4⟩,c5⟩,c6⟩,c7⟩:=hc;have ef:∀i,i<l.length→efL l i=true→i=a∨i=b∨i=c:=fun i hi he=>by
  have:=(c7 i hi).1;rw[he]at this;have:=this.symm;simp only[xe8,decide_eq_true_eq]at this;omega
 have ne:∀i,i<l.length→efL l i=false→i≠a∧i≠b∧i≠c:=fun i hi he=>by
  have:=(c7 i hi).1;rw[he]at this;have:=this.symm;simp only[Bool.or_eq_false_iff,decide_eq_false_iff_not]at this;exact⟨this.1.1,this.1.2,this.2⟩
 have grd:∀(i:Nat)(o:Oper)(F:Nat→SV),l[i]? = some o→Grd l F o false:=fun i o F ho=>by
  unfold Grd;have h3:=c2 o (List.mem_of_getElem? ho);cases e:o.guard with
  |none=>rfl
  |some p=>rw[e]at h3;cases h3
 refine V6 hm (JU c1) res (fun j=>if j≤a then st.hp else if j≤b then H1 else if j≤c then H2 else H3) (fun j=>if j≤a then st.nid else if j≤b then Z1 else if j≤c then Z2 else Z3) G (fun _=>false) (fun i o ho=>⟨grd i o G ho,fun h=>by cases h⟩) (fun j hj he=>?_) hG ?_ ?_ ?_ ?_ ?_
 ·obtain⟨n1,n2,n3⟩:=ne j hj he
  try dsimp only
  have e1:(j+1≤a)↔(j≤a):=by omega
  have e2:(j+1≤b)↔(j≤b):=by omega
  have e3:(j+1≤c)↔(j≤c):=by omega
  simp only[e1,e2,e3,and_self]
 ·simp
 ·simp
 ·intro i o ho hsk he j hj h1 h2 F H hF hH
  have hi:i<l.length:=(List.getElem?_eq_some_iff.1 ho).1;have h3:hiC l i≤2:=by
   rcases(c7 i hi).2 with q|q
   ·rw[he]at q;cases q
   ·exact q
  have hjc:j≤c:=by
   by_cases q:j≤c
   ·exact q
   ·exfalso
    have:j=l.length:=by omega
    rw[this,c6]at h2;omega
  have he':kU o.op=false:=by
   unfold efL at he;rw[ho]at he;exact he
  have:=J2 hp ho he' F H hF (by
   rw[hH]
   try dsimp only
   split
   ·exact hQ.1
   ·split
    ·exact hQ.2.1
    ·first|exact hQ.2.2|(rw[if_pos hjc];exact hQ.2.2))
  rw[xb0]at this;exact⟨res i,.inl this,fun _ _=>rfl⟩
 ·intro i o ho hsk he st1 hf hH hn K' hk
  have hi:i<l.length:=(List.getElem?_eq_some_iff.1 ho).1
  try dsimp only at hH hn hk
  rcases ef i hi he with e|e|e
  ·subst e
   rw[if_pos (xa5 _)]at hH hn;refine ha o ho st1 hf hH hn K' fun st' a1 a2 a3=>hk st' a1 ?_ ?_
   ·rw[if_neg Ω,if_pos Ω];exact a2
   ·rw[if_neg Ω,if_pos Ω];exact a3
  ·subst e
   rw[if_neg Ω,if_pos (xa5 _)]at hH hn;refine hb o ho st1 hf hH hn K' fun st' a1 a2 a3=>hk st' a1 ?_ ?_
   ·rw[if_neg Ω,if_neg Ω,if_pos Ω];exact a2
   ·rw[if_neg Ω,if_neg Ω,if_pos Ω];exact a3
  ·subst e
   rw[if_neg Ω,if_neg Ω,if_pos (xa5 _)]at hH hn;refine hcc o ho st1 hf hH hn K' fun st' a1 a2 a3=>hk st' a1 ?_ ?_
   ·rw[if_neg Ω,if_neg Ω,if_neg Ω];exact a2
   ·rw[if_neg Ω,if_neg Ω,if_neg Ω];exact a3
 ·intro st' hf hH hn
  try dsimp only at hH hn
  rw[if_neg Ω,if_neg Ω,if_neg Ω]at hH hn;exact hK st' hf hH hn
end
end Go.Sx
end
