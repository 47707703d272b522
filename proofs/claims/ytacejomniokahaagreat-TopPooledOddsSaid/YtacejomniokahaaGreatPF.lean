/- A part of the proof. -/
import Derived.Test.YtacejomniokahaaGreatPE
import Derived.Test.YtacejomniokahaaGreatPC
open Nat renaming reduceMul→xa0,reduceAdd→xa1,reduceEqDiff→xa2,reduceLT→xa3,reduceLeDiff→xa4,le_refl→xa5,eq_of_beq_eq_true→xa6,le_of_ble_eq_true→xa7,lt_of_lt_of_le→xa9,zero_add→xb0,add_zero→xb1,add_assoc→xb2,lt_succ_self→xb5,zero_le→xb6,sub_self→xb8,le_trans→xc1,le_succ→xc4
open List renaming getD_eq_getElem?_getD→xc6,getElem?_eq_getElem→xc7,length_append→xc8,getElem?_append_left→xc9,getElem?_append_right→xd0,length_singleton→xd1,append_nil→xd3,mem_append→xd4,mem_cons_self→xd5,getElem?_cons_zero→xd6,getElem?_cons_succ→xd7,length_take→xd9,mem_singleton→xe0,length_map→xe1,length_cons→xe4
open Bool renaming and_eq_true→xe6,false_eq_true→xe7,true_and→xf0
open Array renaming getD_eq_getD_getElem?→xf5,getElem?_toList→xf6
open Classical renaming byContradiction→xf9
set_option linter.unusedVariables false
set_option linter.unusedSimpArgs false
set_option linter.defProp false
set_option maxRecDepth 1000000
set_option maxHeartbeats 16000000
section
namespace Go.Tn
open Go.Proofs
open Go.Sx
theorem Yd:qn Tryz.prog 22=some ⟨false,1,some [.slice none 0 0],.slice 3 1⟩:=by kernel_rfl
theorem ty3:qn Tryz.prog 3=some ⟨false,1,some [.int .i64 0],.int .i64⟩:=by kernel_rfl
theorem qgP{O:Ctx}{fr:List (Nat×SV)}{hp:List (Nat×Blk)}{nid d id n k:Nat}(h:Go.Sx.look fr d=.vec id n k):Weak O ⟨fr,hp,nid⟩ ⟨putFr fr d (.que id 0 n k),hp,nid⟩:=fun base okc ns outs x w ⟨r,h'⟩=>⟨r,h'.sat,h'.keys,fun i=>by
 show Rep _ _ _ _ (Go.Sx.look (putFr fr d _) i) _;rw[zb];split
 ·rename_i e
  have hv:=h'.fr d;rw[show(⟨fr,hp,nid⟩:St).fr=fr from rfl,h]at hv;rw[e];generalize x.tmps.getD d undef=v at hv ⊢;cases hv with
  |vecNil _ _ hN hr=>exact Rep.queNil (N:=fun x=>x<nid) _ _ _ _ hN
  |vec _ _ _ b cap cs t hN hr hb hcs hcap hmx=>
   have q:=Rep.que (N:=fun x=>x<nid) (G:=Gd base okc r (fun x=>x<nid) hp w) id 0 n k b cap cs t hN hr hb (by rw[xb0];exact hcs) hcap (by rw[xb0];exact hmx);rw[Nat.zero_mul]at q;exact q
 ·exact h'.fr i,h'.size,h'.lo,h'.out,h'.rfix,h'.defers⟩
def setN(f:Nat→Nat)(k x:Nat):Nat→Nat:=fun i=>if i=k then x else f i
def ke(start i:Nat):List Nat→Nat→(Nat→Nat)→List Nat→Bool×(Nat→Nat)×List Nat
 |[],_,by',wait=>(false,by',wait)
 |to :: l,w,by',wait=>if 0<by' to then ke start i l (w+1) by' wait else if to=start then(true,setN by' to (1+i*5+w),wait)else ke start i l (w+1) (setN by' to (1+i*5+w)) (wait++[to])
def qep(L:Nat→List Nat)(start:Nat):Nat→(Nat→Nat)→List Nat→Option (Bool×(Nat→Nat))
 |0,_,_=>none
 |_+1,by',[]=>some (false,by')
 |f+1,by',i :: wait=>if (ke start i (L i) 0 by' wait).1=true then some (true,(ke start i (L i) 0 by' wait).2.1)else qep L start f (ke start i (L i) 0 by' wait).2.1 (ke start i (L i) 0 by' wait).2.2
def Gm(L:Nat→List Nat)(N fb fk:Nat):Nat→Nat→List Nat→Option (List Nat)
 |0,_,best=>some best
 |k+1,start,best=>match qep L start fb (fun _=>0) [start]with
  |none=>none
  |some (false,_)=>Gm L N fb fk k (start+1) best
  |some (true,by')=>match JB by' N start fk start []with
   |none=>none
   |some l=>Gm L N fb fk k (start+1) (if best.length=0∨l.length<best.length then l.reverse else best)
structure Cl(N:Nat)(L:Nat→List Nat)(nx:Nat→Nat→SV)(H:List (Nat×Blk))(id tb xid:Nat)(A R M:SV)(sid:Nat):Prop where
 N5:N≤100000
 l5:∀i,i<N→(L i).length≤5
 inn:∀i,i<N→∀a,a∈L i→a<N
 tb:blk H tb=some (.cells 253 [A,.vec sid N 5,.vec xid N 1,R,M])
 xid:blk H xid=some (.rows 22 1 N nx)
 nx:∀i,i<N→(L i=[]∧nx i 0=.val (.slice none 0 0))∨∃xi r,nx i 0=.vec xi (L i).length 1∧blk H xi=some (.rows 3 1 (L i).length r)∧qaO (L i) r
 und:Under H id
structure QI(N:Nat)(L:Nat→List Nat)(start fb n1:Nat)(Rb:Bool×(Nat→Nat))(f c:Nat)(by':Nat→Nat)(byr:Nat→Nat→SV)(wait:List Nat)(wid off:Nat)(J:Nat→Nat→SV):Prop where
 fu:f+c=fb
 run:qep L start f by' wait=some Rb
 row:∀x,x<N→byr x 0=.val (.int .i64 (by' x:Nat))
 le:∀x,x<N→by' x≤1000000
 lt:∀x,x∈wait→x<N
 J:∀i,i<wait.length→J (off+i) 0=.val (.int .i64 (wait.getD i 0:Nat))
 off:off≤c
 len:wait.length≤1+5*c
 w1:n1+11≤wid
 w2:wid<n1+20+450*c
structure RI(N:Nat)(L:Nat→List Nat)(start i c n1 n2 nr:Nat)(R3:Bool×(Nat→Nat)×List Nat)(k:Nat)(by':Nat→Nat)(byr:Nat→Nat→SV)(wait:List Nat)(wid off:Nat)(J:Nat→Nat→SV):Prop where
 kl:k≤(L i).length
 run:ke start i ((L i).drop k) k by' wait=R3
 row:∀x,x<N→byr x 0=.val (.int .i64 (by' x:Nat))
 le:∀x,x<N→by' x≤1000000
 lt:∀x,x∈wait→x<N
 J:∀i,i<wait.length→J (off+i) 0=.val (.int .i64 (wait.getD i 0:Nat))
 off:off≤c+1
 len:wait.length≤nr+k
 w1:n1+11≤wid
 w2:wid<n2+40+60*k
def bSV(bid:Nat)(best:List Nat):SV:=match best with
 |[]=>.val (.slice none 0 0)
 |_ :: l=>.vec bid (l.length+1) 1
def bH(bid:Nat)(best:List Nat)(r:Nat→Nat→SV)(H:List (Nat×Blk)):List (Nat×Blk):=match best with
 |[]=>H
 |_ :: l=>(bid,.rows 3 1 (l.length+1) r) :: H
theorem Cl.bH{N:Nat}{L:Nat→List Nat}{nx:Nat→Nat→SV}{H:List (Nat×Blk)}{id tb xid:Nat}{A R M:SV}{sid:Nat}(h:Cl N L nx H id tb xid A R M sid){bid:Nat}{best:List Nat}{r:Nat→Nat→SV}{n:Nat}(hn:id≤n)(hb:best≠[]→id≤bid∧bid<n):Cl N L nx (bH bid best r H) n tb xid A R M sid:=by
 cases best with
 |nil=>exact⟨h.N5,h.l5,h.inn,h.tb,h.xid,h.nx,fun k x hx=>xa9 (h.und k x hx) hn⟩
 |cons x l=>
  have⟨h1,h2⟩:=hb Ωg;have key:∀k y,blk H k=some y→blk ((bid,.rows 3 1 (l.length+1) r) :: H) k=some y:=fun k y hy=>by
   have:=h.und k y hy;simp only[blk];rw[if_neg Ω];exact hy
  refine⟨h.N5,h.l5,h.inn,key _ _ h.tb,key _ _ h.xid,fun i hi=>?_,fun k y hy=>?_⟩
  ·rcases h.nx i hi with c|⟨xi,r',c1,c2,c3⟩
   ·exact .inl c
   ·exact .inr ⟨xi,r',c1,key _ _ c2,c3⟩
  ·simp only[Go.Tn.bH,blk]at hy
   split at hy
   ·omega
   ·exact xa9 (h.und k y hy) hn
theorem qgQ{b:Nat}{l:List Nat}(h:0<l.length):bSV b l=.vec b l.length 1:=by
 cases l with
 |nil=>cases h
 |cons x l=>rfl
theorem qkZ{b:Nat}{l:List Nat}{r:Nat→Nat→SV}{H:List (Nat×Blk)}(h:0<l.length):bH b l r H=(b,.rows 3 1 l.length r) :: H:=by
 cases l with
 |nil=>cases h
 |cons x l=>rfl
theorem e73(N:Nat)(L:Nat→List Nat)(nx:Nat→Nat→SV)(H:List (Nat×Blk))(id tb xid:Nat)(A R M:SV)(sid fb fk:Nat)(res0:List Nat)(h:Cl N L nx H id tb xid A R M sid)(hfb:fb≤100000)(hfk:fk≤100000)(hF:Gm L N fb fk N 0 []=some res0)(C:Nat)(hCC:C=500*fb+100*fk+2000) :
  EffVC Tryz.prog 73 [.ptr tb 0] H id (fun hp' nid' res=>nid'≤id+100+C*N∧∃bid r,(res0≠[]→id≤bid∧bid<nid')∧qaO res0 r∧hp'=bH bid res0 r H∧res=bSV bid res0):=by
 refine vC (zJ [(16,[(0,0)])]) follows Tryz.func73 rfl Ωc Ωc (by rw[Tryz.ntmps73];simp) fun out=>?_;have NB:True:=trivial;have hN5:=h.N5;(repeat' (first|refine sD ?_ ?_<;>intro _|refine aAc ?_|(simp -dsimp only[↓RP,RQ,xa0,reduceIte,reduceCtorEq,xa1,xa2,xa3,xa4,h.tb,↓RY,NB,QS,QT,qL,QN])))
 all_goals try exact Ωb
 refine qo (fun(z:Nat×List Nat×Nat×(Nat→Nat→SV))=>z.1≤N∧Gm L N fb fk (N - z.1) z.1 z.2.1=some res0∧qaO z.2.1 z.2.2.2∧(z.2.1≠[]→id≤z.2.2.1∧z.2.2.1<id+20+C*z.1)) (fun z=>⟨[(0,.ptr tb 0),(3,bSV z.2.2.1 z.2.1),(15,.val (.int .i64 (N:Nat))),(16,.val (.int .i64 (z.1:Nat)))],bH z.2.2.1 z.2.1 z.2.2.2 H,id+20+C*z.1⟩) (fun z=>N - z.1) (0,[],0,fun _ _=>.top) ⟨xb6 _,hF,fun i hi=>(by cases hi),fun hh=>absurd rfl hh⟩ (weakSU (by simp only[];omega) (by simp[zo,Go.Sx.look,bSV]) (SubHp.refl _)) fun z hz=>?_;obtain⟨start,best,bid,br⟩:=z;obtain⟨z1,z2,z3,z4⟩:=hz;simp only[]at z1 z2 z3 z4;obtain⟨n1,hn1⟩:∃n1,n1=id+20+C*start:=⟨_,rfl⟩;have hid1:id≤n1:=by rw[hn1,xb2];exact Nat.le_add_right _ _
 rw[←hn1]at z4;simp only[];rw[←hn1];by_cases hlt:start<N
 ·have hlt1:=decide_eq_true (Ω:((start:Nat):Int)<(N:Nat))
  have hC:=h.bH (r:=br) hid1 z4;obtain⟨bv,hbv⟩:∃bv,bv=bSV bid best:=⟨_,rfl⟩;obtain⟨H2,hH2⟩:∃H2,H2=bH bid best br H:=⟨_,rfl⟩;rw[←hbv,←hH2];rw[←hH2]at hC;have htb:=hC.und _ _ hC.tb;have hxid:=hC.und _ _ hC.xid;have NB:=(⟨nmA htb,nmA hxid⟩:_∧_);(repeat' (first|refine sD ?_ ?_<;>intro _|refine aAc ?_|(simp -dsimp only[↓RP,RQ,xa0,reduceIte,reduceCtorEq,xa1,xa2,xa3,xa4,hlt1,hC.tb,↓RY,NB,QS,QT,qL,QN])))
  all_goals try exact Ωb
  have hk:N - start=(N -(start+1))+1:=by omega
  rw[hk]at z2;simp only[Gm]at z2;cases hb0:qep L start fb (fun _=>0) [start]with
  |none=>rw[hb0]at z2;cases z2
  |some Rb=>
  rw[hb0]at z2;refine qo (fun(z:Nat×Nat×(Nat→Nat)×(Nat→Nat→SV)×List Nat×Nat×Nat×(Nat→Nat→SV))=>QI N L start fb n1 Rb z.1 z.2.1 z.2.2.1 z.2.2.2.1 z.2.2.2.2.1 z.2.2.2.2.2.1 z.2.2.2.2.2.2.1 z.2.2.2.2.2.2.2) (fun z=>⟨[(0,.ptr tb 0),(3,bv),(4,.val (.int .i64 (start:Nat))),(5,.vec (n1+8) N 1),(6,.que z.2.2.2.2.2.1 (z.2.2.2.2.2.2.1) (z.2.2.2.2.1.length) 1),(15,.val (.int .i64 (N:Nat))),(16,.val (.int .i64 (start:Nat)))],(z.2.2.2.2.2.1,.rows 3 1 (z.2.2.2.2.2.2.1+z.2.2.2.2.1.length) z.2.2.2.2.2.2.2) ::(n1+8,.rows 3 1 N z.2.2.2.1) :: H2,n1+20+450*z.2.1⟩) (fun z=>z.1) (fb,0,fun _=>0,fun x j=>SV.val ([Value.int IntKind.i64 0].getD j undef),[start],n1+11,0,fun i j=>[SV.val (.int .i64 (start:Nat))].getD (i+j) SV.top) ⟨rfl,hb0,fun x hx=>rfl,fun x hx=>xb6 _,fun x hx=>(by rw[List.mem_singleton.1 hx];exact hlt),fun i hi=>(by have hi:i<1:=hi;obtain rfl:i=0:=Ω;rfl),xa5 _,Ωg,xa5 _,(by show n1+11<n1+20+450*0;omega)⟩ (Weak.trans (qgP (d:=6) rfl) (weakSU (by simp only[];omega) (by simp[zo,Go.Sx.look,putFr]) (SubHp.refl _))) fun z hz=>?_;obtain⟨f,c,by',byr,wait,wid,off,J⟩:=z;have hz':QI N L start fb n1 Rb f c by' byr wait wid off J:=hz
  obtain⟨y1,y2,y3,y4,y5,y6,y7,y8,y9,y10⟩:=hz';simp only[];cases f with
  |zero=>cases y2
  |succ f=>
  obtain⟨n2,hn2⟩:∃n2,n2=n1+20+450*c:=⟨_,rfl⟩;rw[←hn2];have hw2:wid<n2:=by omega
  clear NB;have NB:=(⟨nmA (Ω:tb<n2),nmA (Ω:xid<n2),nmA hw2,nmE (Ω:wid≠tb),nmE (Ω:wid≠xid),nmE (Ω:wid≠n1+8),nmA htb,nmA hxid,nmA (Ω:n1+8<n2)⟩:_∧_∧_∧_∧_∧_∧_∧_∧_);cases wait with
  |nil=>
   simp only[qep]at y2;cases y2;(repeat' (first|refine sD ?_ ?_<;>intro _|refine aAc ?_|(simp -dsimp only[↓RP,RQ,xa0,reduceIte,reduceCtorEq,xa1,xa2,xa3,xa4,hC.tb,↓RY,NB,QS,QT,qL,QN])))
   all_goals try exact Ωb
   refine⟨(start+1,best,bid,br),⟨Ω,z2,z3,fun hh=>?_⟩,by first|omega|(simp only[];omega)|(dsimp only;omega),?_⟩
   ·have:=z4 hh
    have hX:id+(20+C*(start+1))=n1+C:=by rw[hn1,Nat.mul_add,Nat.mul_one];omega
    simp only[];rw[hX];omega
   ·have hX:id+(20+C*(start+1))=n1+C:=by rw[hn1,Nat.mul_add,Nat.mul_one];omega
    simp only[];rw[hX,←hbv,←hH2];exact weakSU Ω Ωf (SubHp.skip (hC.und.none Ω) (SubHp.skip (hC.und.none Ω) (SubHp.refl _)))
  |cons i rest=>
   have hi:i<N:=y5 i xd5;have hgt:=decide_eq_true (Ω:(0:Int)<((rest.length+1:Nat):Int));have hJ0:=y6 0 Ωg;rw[xb1]at hJ0;have hJ1:J off 0=SV.val (.int .i64 (i:Nat)):=hJ0;rw[xe4]at y8;have hql:((rest.length+1:Nat):Int) - 1=((rest.length:Nat):Int):=by omega
   obtain⟨R3,hR3⟩:∃R3,R3=ke start i (L i) 0 by' rest:=⟨_,rfl⟩
   simp only[qep]at y2;rw[←hR3]at y2;have hl5:=hC.l5 i hi;rcases hC.nx i hi with⟨c1,c2⟩|⟨xi,r,c1,c2,c3⟩
   ·rw[c1]at hR3
    simp only[ke]at hR3;subst hR3;simp only[xe7,if_false]at y2;(repeat' (first|refine sD ?_ ?_<;>intro _|refine aAc ?_|(simp -dsimp only[↓RP,RQ,xa0,reduceIte,reduceCtorEq,xa1,xa2,xa3,xa4,hgt,hql,hC.tb,hC.xid,hJ1,c2,↓RY,NB,QS,QT,qL,QN])))
    all_goals try exact Ωb
    refine qo (fun(z:Unit)=>True) (fun _=>⟨[(0,.ptr tb 0),(3,bv),(4,.val (.int .i64 (start:Nat))),(5,.vec (n1+8) N 1),(6,.que wid (off+1) (rest.length) 1),(15,.val (.int .i64 (N:Nat))),(16,.val (.int .i64 (start:Nat)))]++[(42,.val (.int .i64 0)),(43,.val (.int .i64 0))],(wid,.rows 3 1 (off+1+rest.length) J) ::(n1+8,.rows 3 1 N byr) :: H2,n2+100⟩) (fun _=>0) () trivial (weakSU Ω Ωf (by rw[show off+(rest.length+1)=off+1+rest.length by omega];exact SubHp.refl _)) fun z hz=>?_;(repeat' (first|refine sD ?_ ?_<;>intro _|refine aAc ?_|(simp -dsimp only[↓RP,RQ,xa0,reduceIte,reduceCtorEq,xa1,xa2,xa3,xa4,↓RY,NB,QS,QT,qL,QN])))
    all_goals try exact Ωb
    have hq:QI N L start fb n1 Rb f (c+1) by' byr rest wid (off+1) J:=⟨Ω,y2,y3,y4,fun x hx=>y5 x (List.mem_cons_of_mem _ hx),fun i hi=>by
     have:=y6 (i+1) Ωl;rw[show off+1+i=off+(i+1) by omega,this];rfl,Ω,Ω,y9,Ω⟩
    exact⟨(f,c+1,by',byr,rest,wid,off+1,J),hq,Ωe,weakSU Ωe Ωf (by dsimp only;rw[show off+1+rest.length=off+(1+rest.length) by omega];exact SubHp.refl _)⟩
   ·have hxi:=hC.und _ _ c2
    have NX:=(⟨nmA (Ω:xi<n2),nmE (Ω:xi≠wid),nmA (Ω:xi<n1)⟩:_∧_∧_);(repeat' (first|refine sD ?_ ?_<;>intro _|refine aAc ?_|(simp -dsimp only[↓RP,RQ,xa0,reduceIte,reduceCtorEq,xa1,xa2,xa3,xa4,hgt,hql,hC.tb,hC.xid,hJ1,c1,↓RY,NB,QS,QT,qL,QN])))
    all_goals try exact Ωb
    refine qo (fun(z:Nat×(Nat→Nat)×(Nat→Nat→SV)×List Nat×Nat×Nat×(Nat→Nat→SV))=>RI N L start i c n1 n2 rest.length R3 z.1 z.2.1 z.2.2.1 z.2.2.2.1 z.2.2.2.2.1 z.2.2.2.2.2.1 z.2.2.2.2.2.2) (fun z=>⟨[(0,.ptr tb 0),(3,bv),(4,.val (.int .i64 (start:Nat))),(5,.vec (n1+8) N 1),(6,.que z.2.2.2.2.1 (z.2.2.2.2.2.1) (z.2.2.2.1.length) 1),(15,.val (.int .i64 (N:Nat))),(16,.val (.int .i64 (start:Nat)))]++[(7,.val (.int .i64 (i:Nat))),(41,.vec xi (L i).length 1),(42,.val (.int .i64 ((L i).length:Nat))),(43,.val (.int .i64 (z.1:Nat)))],(z.2.2.2.2.1,.rows 3 1 (z.2.2.2.2.2.1+z.2.2.2.1.length) z.2.2.2.2.2.2) ::(n1+8,.rows 3 1 N z.2.2.1) :: H2,n2+40+60*z.1⟩) (fun z=>(L i).length - z.1) (0,by',byr,rest,wid,off+1,J) (by
     have:RI N L start i c n1 n2 rest.length R3 0 by' byr rest wid (off+1) J:=⟨xb6 _,hR3.symm,y3,y4,fun x hx=>y5 x (List.mem_cons_of_mem _ hx),fun i hi=>by
      have:=y6 (i+1) Ωl;rw[show off+1+i=off+(i+1) by omega,this];rfl,Ω,Ω,y9,Ω⟩
     exact this) (weakSU Ωe Ωf (by dsimp only;rw[show off+(rest.length+1)=off+1+rest.length by omega];exact SubHp.refl _)) fun z hz=>?_
    obtain⟨k,by1,byr1,wait1,wid1,off1,J1⟩:=z;have hz':RI N L start i c n1 n2 rest.length R3 k by1 byr1 wait1 wid1 off1 J1:=hz;obtain⟨x1,x2,x3,x4,x5,x6,x7,x8,x9,x10⟩:=hz';dsimp only;obtain⟨n3,hn3⟩:∃n3,n3=n2+40+60*k:=⟨_,rfl⟩;rw[←hn3];have hw3:wid1<n3:=by omega
    clear NB NX;have NB:=(⟨nmA (Ω:tb<n3),nmA (Ω:xid<n3),nmA hw3,nmE (Ω:wid1≠tb),nmE (Ω:wid1≠xid),nmE (Ω:wid1≠n1+8),nmA htb,nmA hxid,nmA (Ω:n1+8<n3),nmA (Ω:xi<n3),nmE (Ω:xi≠wid1),nmA (Ω:xi<n1)⟩:_∧_∧_∧_∧_∧_∧_∧_∧_∧_∧_∧_);by_cases hkl:k<(L i).length
    ·have hk1:=decide_eq_true (Ω:((k:Nat):Int)<((L i).length:Nat))
     have hdr2:dropBlk H2 wid1=H2:=zn (hC.und.none Ω);obtain⟨to,hto⟩:∃to,to=(L i).getD k 0:=⟨_,rfl⟩;have hgi:(L i)[k]? = some to:=by rw[hto,xc6,xc7 hkl];rfl
     have htoN:to<N:=hC.inn i hi to (List.mem_of_getElem? hgi);have hdr:(L i).drop k=to ::(L i).drop (k+1):=by
      rw[List.drop_eq_getElem_cons hkl];rw[xc7 hkl]at hgi;rw[Option.some.inj hgi]
     rw[hdr]at x2;simp only[ke]at x2;have hrk:=c3 k hkl;rw[←hto]at hrk;have hrt:=x3 to htoN;by_cases hb1:0<by1 to
     ·rw[if_pos hb1]at x2
      have hb2:=decide_eq_true (Ω:(0:Int)<((by1 to:Nat):Int));(repeat' (first|refine sD ?_ ?_<;>intro _|refine aAc ?_|(simp -dsimp only[↓RP,RQ,xa0,reduceIte,reduceCtorEq,xa1,xa2,xa3,xa4,hk1,hrk,hrt,hb2,c2,↓RY,NB,QS,QT,qL,QN])))
      all_goals try exact Ωb
      have hRI:RI N L start i c n1 n2 rest.length R3 (k+1) by1 byr1 wait1 wid1 off1 J1:=⟨hkl,x2,x3,x4,x5,x6,x7,Ω,x9,Ω⟩;exact⟨(k+1,by1,byr1,wait1,wid1,off1,J1),hRI,Ωe,weakSU Ωe Ωf (SubHp.refl _)⟩
     ·rw[if_neg hb1]at x2
      have hb2:=decide_eq_false (Ω:¬(0:Int)<((by1 to:Nat):Int));by_cases hs:to=start
      ·rw[if_pos hs]at x2
       have hs2:=decide_eq_true (Ω:((to:Nat):Int)=(start:Nat));subst x2;simp only[if_true]at y2;have y2:=Option.some.inj y2;subst y2;dsimp only at z2;cases hbk:JB (setN by1 to (1+i*5+k)) N start fk start []with
       |none=>rw[hbk]at z2;cases z2
       |some l=>
       rw[hbk]at z2;dsimp only at z2;(repeat' (first|refine sD ?_ ?_<;>intro _|refine aAc ?_|(simp -dsimp only[↓RP,RQ,xa0,reduceIte,reduceCtorEq,xa1,xa2,xa3,xa4,hk1,hrk,hrt,hb2,hs2,c2,↓RY,NB,QS,QT,qL,QN])))
       all_goals try exact Ωb
       refine jd Ωx (qok _ _ tb (n1+8) N start fk (setN by1 to (1+i*5+k)) (fun a b=>if a=to∧b=0 then SV.val (.int .i64 (1+(i:Int)*5+(k:Int)))else byr1 a b) l h.N5 (fun y x hx=>?hUn) hfk hlt Ω ΩN (fun x hx=>?hRo) (fun x hx=>?hLe) hbk) fun hp' n4 res hQ=>?_
       case hUn=>
        simp only[blk]at hx;split at hx
        ·omega
        ·split at hx
         ·omega
         ·have:=hC.und y x hx;omega
       case hRo=>
        by_cases e:x=to
        ·rw[if_pos ⟨e,rfl⟩];unfold setN;rw[if_pos e];congr 2
        ·rw[if_neg (fun e2=>e e2.1)];unfold setN;rw[if_neg e];exact x3 x hx
       case hLe=>
        unfold setN;split
        ·omega
        ·exact x4 x hx
       obtain⟨q1,rid,r',q2,q2',q3,q4,rfl,rfl⟩:=hQ;have q0:n3≤rid:=by omega
       have hX:id+(20+C*(start+1))=n1+C:=by rw[hn1,Nat.mul_add,Nat.mul_one];omega
       rw[hbv,hH2];have hX2:id+20+C*(start+1)=n1+C:=by rw[hn1,Nat.mul_add,Nat.mul_one];omega
       have hlr:0<l.reverse.length:=by rw[List.length_reverse];exact q3
       have hfu:c+1≤fb:=by omega
       cases best with
       |nil=>
        have HN:∀q,n1≤q→blk H q=none:=fun q hq=>h.und.none Ω;rw[show bSV bid ([]:List Nat)=SV.val (.slice none 0 0)from rfl,show Go.Tn.bH bid [] br H=H from rfl];rw[if_pos (.inl rfl)]at z2;(repeat' (first|refine sD ?_ ?_<;>intro _|refine aAc ?_|(simp -dsimp only[↓RP,RQ,xa0,reduceIte,reduceCtorEq,xa1,xa2,xa3,xa4,↓RY,NB,QS,QT,qL,QN])))
        all_goals try exact Ωb
        exact⟨(start+1,l.reverse,rid,r'),⟨Ωe,z2,q4,fun _=>⟨Ωe,by dsimp only;(first|rw[hX2]|rw[hX]);omega⟩⟩,Ωe,by
         dsimp only;rw[qgQ hlr,qkZ hlr,List.length_reverse]
         first|rw[hX]|rw[hX2]
         exact weakSU Ω Ωf (SubHp.cons (SubHp.skip (HN _ Ω) (SubHp.skip (HN _ Ω) (SubHp.refl _))))⟩
       |cons bx bl=>
        have⟨z5,z6⟩:=z4 Ωg;have HN:∀q,n1≤q→blk ((bid,.rows 3 1 (bl.length+1) br) :: H) q=none:=fun q hq=>by
         simp only[blk];rw[if_neg Ω];exact h.und.none Ω
        rw[show bSV bid (bx :: bl)=.vec bid (bl.length+1) 1 from rfl,show Go.Tn.bH bid (bx :: bl) br H=(bid,.rows 3 1 (bl.length+1) br) :: H from rfl];have g0:=decide_eq_false (show ¬(((bl.length+1:Nat):Int)=0) by omega);by_cases hcmp:l.length<bl.length+1
        ·rw[if_pos (.inr hcmp)]at z2
         have g1:=decide_eq_true (Ω:((l.length:Nat):Int)<((bl.length+1:Nat):Int));(repeat' (first|refine sD ?_ ?_<;>intro _|refine aAc ?_|(simp -dsimp only[↓RP,RQ,xa0,reduceIte,reduceCtorEq,xa1,xa2,xa3,xa4,g0,g1,↓RY,NB,QS,QT,qL,QN])))
         all_goals try exact Ωb
         exact⟨(start+1,l.reverse,rid,r'),⟨Ωe,z2,q4,fun _=>⟨Ωe,by dsimp only;(first|rw[hX2]|rw[hX]);omega⟩⟩,Ωe,by
          dsimp only;rw[qgQ hlr,qkZ hlr,List.length_reverse]
          first|rw[hX]|rw[hX2]
          exact weakSU Ω Ωf (SubHp.cons (SubHp.skip (h.und.none Ω) (SubHp.skip (h.und.none Ω) (SubHp.skip (h.und.none z5) (SubHp.refl _)))))⟩
        ·rw[if_neg (fun e=>e.elim (fun e=>by simp at e) hcmp)]at z2
         have g1:=decide_eq_false (Ω:¬((l.length:Nat):Int)<((bl.length+1:Nat):Int));(repeat' (first|refine sD ?_ ?_<;>intro _|refine aAc ?_|(simp -dsimp only[↓RP,RQ,xa0,reduceIte,reduceCtorEq,xa1,xa2,xa3,xa4,g0,g1,↓RY,NB,QS,QT,qL,QN])))
         all_goals try exact Ωb
         exact⟨(start+1,bx :: bl,bid,br),⟨Ωe,z2,z3,fun _=>⟨z5,by dsimp only;(first|rw[hX2]|rw[hX]);omega⟩⟩,Ωe,by
          dsimp only
          first|rw[hX]|rw[hX2]
          exact weakSU Ω (by simp[zo,Go.Sx.look,bSV]) (SubHp.skip (HN _ Ω) (SubHp.skip (HN _ Ω) (SubHp.skip (HN _ Ω) (SubHp.refl _))))⟩
      ·rw[if_neg hs]at x2
       have hs2:=decide_eq_false (Ω:¬((to:Nat):Int)=(start:Nat));(repeat' (first|refine sD ?_ ?_<;>intro _|refine aAc ?_|(simp -dsimp only[↓RP,RQ,xa0,reduceIte,reduceCtorEq,xa1,xa2,xa3,xa4,hk1,hrk,hrt,hb2,hs2,c2,↓RY,NB,QS,QT,qL,QN])))
       all_goals try exact Ωb
       refine Zj (qA ?_);(repeat' (first|refine sD ?_ ?_<;>intro _|refine aAc ?_|(simp -dsimp only[↓RP,RQ,xa0,reduceIte,reduceCtorEq,xa1,xa2,xa3,xa4,hdr2,hk1,hrk,hrt,hb2,hs2,c2,↓RY,NB,QS,QT,qL,QN])));refine qA ?_;(repeat' (first|refine sD ?_ ?_<;>intro _|refine aAc ?_|(simp -dsimp only[↓RP,RQ,xa0,reduceIte,reduceCtorEq,xa1,xa2,xa3,xa4,hdr2,hk1,hrk,hrt,hb2,hs2,c2,↓RY,NB,QS,QT,qL,QN])));refine qA ?_;(repeat' (first|refine sD ?_ ?_<;>intro _|refine aAc ?_|(simp -dsimp only[↓RP,RQ,xa0,reduceIte,reduceCtorEq,xa1,xa2,xa3,xa4,hdr2,hk1,hrk,hrt,hb2,hs2,c2,↓RY,NB,QS,QT,qL,QN])));refine gH rfl (qgd (id:=wid1) (off:=off1) (n:=wait1.length) (n':=off1+wait1.length) (m:=1) (k:=1) (e:=3) (row:=J1) (row2:=fun i j=>[SV.val (.int .i64 (to:Nat))].getD (i+j) SV.top) (obl2:=1≤1∧1=1) Yd ty3 rfl Ω rfl rfl (by show rowsOf _ (SV.vec (n3+25) 1 1)=_;simp[rowsOf,blk]) (by exact⟨xa5 _,rfl⟩) (by exact one1 _) ΩN (xa5 _) Ω Ω (by rw[by3];omega) Ωe ?_ ?_)
       ·refine qA ?_
        (repeat' (first|refine sD ?_ ?_<;>intro _|refine aAc ?_|(simp -dsimp only[↓RP,RQ,xa0,reduceIte,reduceCtorEq,xa1,xa2,xa3,xa4,gj,hdr2,hk1,hrk,hrt,hb2,hs2,c2,↓RY,NB,QS,QT,qL,QN])))
        all_goals try exact Ωb
        have hRI:RI N L start i c n1 n2 rest.length R3 (k+1) (setN by1 to (1+i*5+k)) (fun a b=>if a=to∧b=0 then SV.val (.int .i64 (1+(i:Int)*5+(k:Int)))else byr1 a b) (wait1++[to]) (n3+26) off1 (fun i j=>if i<off1+wait1.length then J1 i j else [SV.val (.int .i64 (to:Nat))].getD (i -(off1+wait1.length)+j) SV.top):=by
         refine⟨hkl,x2,fun x hx=>?_,fun x hx=>?_,fun x hx=>?_,fun y hy=>?_,Ω,by rw[xc8,xd1];omega,Ω,Ω⟩
         ·by_cases e:x=to
          ·rw[if_pos ⟨e,rfl⟩];unfold setN;rw[if_pos e];congr 2
          ·rw[if_neg (fun e2=>e e2.1)];unfold setN;rw[if_neg e];exact x3 x hx
         ·unfold setN;split
          ·omega
          ·exact x4 x hx
         ·rcases List.mem_append.1 hx with h1|h1
          ·exact x5 x h1
          ·rw[List.mem_singleton.1 h1];exact htoN
         ·rw[xc8,xd1]at hy
          show(if off1+y<off1+wait1.length then J1 (off1+y) 0 else [SV.val (.int .i64 (to:Nat))].getD (off1+y -(off1+wait1.length)+0) SV.top)=_;by_cases hc:y<wait1.length
          ·rw[if_pos Ω,x6 y hc,xc6,xc6,xc9 hc]
          ·obtain rfl:y=wait1.length:=by omega
           rw[if_neg Ω,xb8,xc6 (l:=wait1++[to]),xd0 (xa5 _),xb8];rfl
        refine⟨(k+1,setN by1 to (1+i*5+k),_,wait1++[to],n3+26,off1,_),hRI,Ωe,weakSU Ωe Ωf ?_⟩;dsimp only;rw[xc8,xd1];exact SubHp.cons (SubHp.skip (show blk ((n1+8,_) :: H2) (n3+25)=none by simp only[blk];rw[if_neg Ω];exact hC.und.none Ω) (SubHp.refl _))
       ·refine qA ?_
        (repeat' (first|refine sD ?_ ?_<;>intro _|refine aAc ?_|(simp -dsimp only[↓RP,RQ,xa0,reduceIte,reduceCtorEq,xa1,xa2,xa3,xa4,gj,hdr2,hk1,hrk,hrt,hb2,hs2,c2,↓RY,NB,QS,QT,qL,QN])))
        all_goals try exact Ωb
        have hRI:RI N L start i c n1 n2 rest.length R3 (k+1) (setN by1 to (1+i*5+k)) (fun a b=>if a=to∧b=0 then SV.val (.int .i64 (1+(i:Int)*5+(k:Int)))else byr1 a b) (wait1++[to]) (n3+26) 0 (fun i j=>if i<wait1.length then J1 (off1+i) j else [SV.val (.int .i64 (to:Nat))].getD (i - wait1.length+j) SV.top):=by
         refine⟨hkl,x2,fun x hx=>?_,fun x hx=>?_,fun x hx=>?_,fun y hy=>?_,Ω,by rw[xc8,xd1];omega,Ω,Ω⟩
         ·by_cases e:x=to
          ·rw[if_pos ⟨e,rfl⟩];unfold setN;rw[if_pos e];congr 2
          ·rw[if_neg (fun e2=>e e2.1)];unfold setN;rw[if_neg e];exact x3 x hx
         ·unfold setN;split
          ·omega
          ·exact x4 x hx
         ·rcases List.mem_append.1 hx with h1|h1
          ·exact x5 x h1
          ·rw[List.mem_singleton.1 h1];exact htoN
         ·rw[xc8,xd1]at hy
          show(if 0+y<wait1.length then J1 (off1+(0+y)) 0 else [SV.val (.int .i64 (to:Nat))].getD (0+y - wait1.length+0) SV.top)=_;rw[xb0];by_cases hc:y<wait1.length
          ·rw[if_pos Ω,x6 y hc,xc6,xc6,xc9 hc]
          ·obtain rfl:y=wait1.length:=by omega
           rw[if_neg Ω,xb8,xc6 (l:=wait1++[to]),xd0 (xa5 _),xb8];rfl
        refine⟨(k+1,setN by1 to (1+i*5+k),_,wait1++[to],n3+26,0,_),hRI,Ωe,weakSU Ωe Ωf ?_⟩;dsimp only;rw[xc8,xd1,xb0];exact SubHp.cons (SubHp.skip (show blk ((n1+8,_) :: H2) (n3+25)=none by simp only[blk];rw[if_neg Ω];exact hC.und.none Ω) (SubHp.refl _))
    ·have hk1:=decide_eq_false (Ω:¬((k:Nat):Int)<((L i).length:Nat))
     rw[List.drop_eq_nil_of_le Ω]at x2;simp only[ke]at x2;subst x2;simp only[xe7,if_false]at y2;(repeat' (first|refine sD ?_ ?_<;>intro _|refine aAc ?_|(simp -dsimp only[↓RP,RQ,xa0,reduceIte,reduceCtorEq,xa1,xa2,xa3,xa4,hk1,↓RY,NB,QS,QT,qL,QN])))
     all_goals try exact Ωb
     have hQ:QI N L start fb n1 Rb f (c+1) by1 byr1 wait1 wid1 off1 J1:=⟨Ω,y2,x3,x4,x5,x6,x7,Ω,x9,Ω⟩;exact⟨(f,c+1,by1,byr1,wait1,wid1,off1,J1),hQ,Ωe,weakSU Ωe Ωf (SubHp.refl _)⟩
 ·have hlt1:=decide_eq_false (Ω:¬((start:Nat):Int)<(N:Nat))
  have e0:start=N:=by omega
  rw[e0,xb8]at z2;simp only[Gm]at z2;have z2:=Option.some.inj z2;subst z2;(repeat' (first|refine sD ?_ ?_<;>intro _|refine aAc ?_|(simp -dsimp only[↓RP,RQ,xa0,reduceIte,reduceCtorEq,xa1,xa2,xa3,xa4,hlt1,↓RY,NB,QS,QT,qL,QN])))
  all_goals try exact Ωb
  rw[e0]at hn1;exact⟨_,_,_,weakSU (xa5 _) (fr':=[(0,_)]) ⟨.inr rfl,trivial⟩ (SubHp.refl _),Ω,bid,br,fun hh=>by have:=z4 hh;omega,z3,rfl,rfl⟩
end Go.Tn
end
section
namespace Go.Tn
open Go.Proofs
open Go.Sx
theorem gY:qn Tryz.prog 393=some ⟨false,1,some [.slice none 0 0],.slice 255 6⟩:=by kernel_rfl
theorem qou(a b c d e g:Int):∀i j,i<1→j<6→oneCell ([SV.val (.int .i64 a),SV.val (.int .i64 b),SV.val (.int .i64 c),SV.val (.int .i64 d),SV.val (.int .i64 e),SV.val (.int .i64 g)].getD (i*6+j) SV.top)=true:=by
 intro i j hi hj;obtain rfl:i=0:=by omega
 rw[Nat.zero_mul,xb0];rcases(Ω:j=0∨j=1∨j=2∨j=3∨j=4∨j=5)with rfl|rfl|rfl|rfl|rfl|rfl<;>rfl
theorem qcs{O:Ctx}{fr fr':List (Nat×SV)}{hp hp':List (Nat×Blk)}{nid nid' mid:Nat}{fit dom dom':Value→Bool}{get:Value→SV}{st:Value→Nat}{c:Nat}(hb:blk hp mid=some (.mapS fit dom get st c))(hd:∀v,dom' v=dom v)(hn:nid≤nid')(hf:zo fr fr')(hh:SubHp (setBlk hp mid (.map fit dom' get)) hp'):Weak O ⟨fr,hp,nid⟩ ⟨fr',hp',nid'⟩:=
 Weak.trans (qgM hb hd) (weakSU hn hf hh)
theorem qgR:qF Tryz.prog 255=48:=by kernel_rfl
theorem qla:qy Tryz.prog 250=some ⟨true,[Lf.i .i64,Lf.i .i64,Lf.i .i64,Lf.i .i64,Lf.i .i64,Lf.i .i64],.int .i64 0⟩:=by kernel_rfl
structure Hl(N:Nat)(len:Nat→Nat)(to:Nat→Nat→Nat)(F:Nat→Int)(dom0:Value→Bool)(nx:Nat→Nat→SV)(rest:List (Nat×Blk))(id tb xid rid mid:Nat):Prop where
 fx:Fx N len to F
 N5:N≤100000
 l5:∀i,i<N→len i≤5
 keys:∀v,dom0 v=true→∃(f:Nat→Int)(n:Nat),n<N∧v=kp f n
 one:∀v v',dom0 v=true→dom0 v'=true→zK v=zK v'→v=v'
 all:∀i,i<N→∃v,dom0 v=true∧zK v=i
 nx:∀i,i<N→(len i=0∧nx i 0=.val (.slice none 0 0))∨∃xi r,nx i 0=.vec xi (len i) 1∧blk rest xi=some (.rows 3 1 (len i) r)∧(xi≠tb∧xi≠xid∧xi≠rid∧xi≠mid∧xi<id)∧∀j,j<len i→r j 0=.val (.int .i64 (to i j:Nat))
 itb:tb<id
 ixid:xid<id
 irid:rid<id
 imid:mid<id
 d1:tb≠xid
 d2:tb≠rid
 d3:tb≠mid
 d4:xid≠rid
 d5:xid≠mid
 d6:rid≠mid
 und:Under rest id
structure Fnd(N:Nat)(len:Nat→Nat)(to:Nat→Nat→Nat)(F rw0 rw:Nat→Int)(dom:Value→Bool)(ks fl:List Value):Prop where
 nd:ks.Nodup
 inD:∀v,v∈ks→dom v=true
 sub:∀v,v∈fl→v∈ks
 rwF:Rw N F rw
 mem:∀v,dom v=true→(0≤rw (zK v)↔v∈fl)
 nil:fl=[]→rw=rw0∧∀v,v∈ks→∃j,j<len (zK v)∧rw0 (to (zK v) j)<0
 cn:cnt rw N+fl.length=cnt rw0 N
 up:∀i,0≤rw0 i→0≤rw i
theorem Fnd.stop{N:Nat}{len:Nat→Nat}{to:Nat→Nat→Nat}{F rw0 rw:Nat→Int}{dom:Value→Bool}{ks fl:List Value}(h:Fnd N len to F rw0 rw dom ks fl){v:Value}(hv:dom v=true)(hn:v∉ks)(hj:∃j,j<len (zK v)∧rw (to (zK v) j)<0):Fnd N len to F rw0 rw dom (ks++[v]) fl:=
 ⟨vK h.nd hn,fun x hx=>by
  rcases List.mem_append.1 hx with h1|h1
  ·exact h.inD x h1
  ·rw[List.mem_singleton.1 h1];exact hv,fun x hx=>List.mem_append.2 (.inl (h.sub x hx)),h.rwF,h.mem,fun e=>⟨(h.nil e).1,fun x hx=>by
  rcases List.mem_append.1 hx with h1|h1
  ·exact(h.nil e).2 x h1
  ·rw[List.mem_singleton.1 h1,←(h.nil e).1];exact hj⟩,h.cn,h.up⟩
theorem Fnd.hit{N:Nat}{len:Nat→Nat}{to:Nat→Nat→Nat}{F rw0 rw:Nat→Int}{dom:Value→Bool}{ks fl:List Value}(h:Fnd N len to F rw0 rw dom ks fl)(hone:∀v v',dom v=true→dom v'=true→zK v=zK v'→v=v'){v:Value}(hv:dom v=true)(hN:zK v<N)(hn:v∉ks){x:Int}(hx:x=F (zK v))(h0:0≤x):Fnd N len to F rw0 (yq rw (zK v) x) dom (ks++[v]) (fl++[v]):=by
 have hneg:rw (zK v)<0:=by
  have:=(h.mem v hv).1;have:=mt this (fun hm=>hn (h.sub v hm));omega
 refine⟨vK h.nd hn,fun x hx=>?_,fun x hx=>?_,fun i hi=>?_,fun u hu=>?_,fun e=>?_,?_,fun i hi=>?_⟩
 ·rcases List.mem_append.1 hx with h1|h1
  ·exact h.inD x h1
  ·rw[List.mem_singleton.1 h1];exact hv
 ·rcases List.mem_append.1 hx with h1|h1
  ·exact List.mem_append.2 (.inl (h.sub x h1))
  ·exact List.mem_append.2 (.inr h1)
 ·unfold yq
  split
  ·rename_i e;subst e;exact .inl hx
  ·exact h.rwF i hi
 ·unfold yq
  split
  ·rename_i e
   have:=hone u v hu hv e;subst this;exact⟨fun _=>List.mem_append.2 (.inr xd5),fun _=>h0⟩
  ·rename_i e
   rw[h.mem u hu,xd4,xe0];exact⟨.inl,fun h1=>h1.resolve_right fun e2=>e (by rw[e2])⟩
 ·simp at e
 ·have:=gP hneg h0 hN
  have:=h.cn;rw[xc8,xd1];omega
 ·unfold yq
  split
  ·exact h0
  ·exact h.up i hi
open Classical in
noncomputable def domC(dom:Value→Bool)(fl:List Value):Value→Bool:=fun v=>dom v&&!decide (v∈fl)
theorem qgS(dom:Value→Bool):domC dom []=dom:=by funext v;simp[domC]
open Classical in
theorem qlS{dom:Value→Bool}{fl:List Value}{f:Nat→Int}{n:Nat}:ka (domC dom fl) (kp f n)=domC dom (fl++[kp f n]):=by
 funext v;unfold ka domC;have e:eqK (kp f n) v=decide (v=kp f n):=by rw[Bool.eq_iff_iff,eqK_kp,decide_eq_true_eq]
 rw[e,Bool.eq_iff_iff];simp only[xe6,Bool.not_eq_true',decide_eq_false_iff_not,xd4,xe0];constructor
 ·rintro⟨h1,h2,h3⟩;exact⟨h2,fun h=>h.elim h3 h1⟩
 ·rintro⟨h1,h2⟩;exact⟨fun h=>h2 (.inr h),h1,fun h=>h2 (.inl h)⟩
open Classical in
theorem Fnd.dom{N:Nat}{len:Nat→Nat}{to:Nat→Nat→Nat}{F rw0 rw:Nat→Int}{dom0:Value→Bool}{ks fl:List Value}(h:Fnd N len to F rw0 rw (fun v=>dom0 v&&decide (rw0 (zK v)<0)) ks fl):domC (fun v=>dom0 v&&decide (rw0 (zK v)<0)) fl=fun v=>dom0 v&&decide (rw (zK v)<0):=by
 funext v;unfold domC;rw[Bool.eq_iff_iff];simp only[xe6,Bool.not_eq_true',decide_eq_false_iff_not,decide_eq_true_eq];constructor
 ·rintro⟨⟨h1,h2⟩,h3⟩
  have:=mt (h.mem v (by rw[h1,decide_eq_true h2];rfl)).1 h3;exact⟨h1,Ω⟩
 ·rintro⟨h1,h2⟩
  have h3:rw0 (zK v)<0:=by
   have:=mt (h.up (zK v));omega
  exact⟨⟨h1,h3⟩,mt (h.mem v (by rw[h1,decide_eq_true h3];rfl)).2 Ω⟩
def qov(fl:List Value)(row:Nat→Nat→SV):Prop:=∀i j,i<fl.length→j<6→row i j=kc (fl.getD i undef) j
def st0(N:Nat)(get:Value→SV)(A Z:SV)(nx:Nat→Nat→SV)(dom0:Value→Bool)(rest:List (Nat×Blk))(id tb xid rid mid:Nat)(z:(Nat→Int)×(Nat→Nat→SV)×Nat):St:=
 ⟨[(0,.ptr tb 0)],(rid,.rows 3 1 N z.2.1) ::(mid,.map kfP (fun v=>dom0 v&&decide (z.1 (zK v)<0)) get) ::(tb,.cells 253 [A,Z,.vec xid N 1,.vec rid N 1,.mp mid]) ::(xid,.rows 22 1 N nx) :: rest,id+(960*N+400)*z.2.2⟩
def st1(N:Nat)(get:Value→SV)(A Z:SV)(nx:Nat→Nat→SV)(dom:Value→Bool)(rest:List (Nat×Blk))(n1 tb xid rid mid clk:Nat)(stamp:Value→Nat)(z:List Value×List Value×(Nat→Int)×(Nat→Nat→SV)×Nat×(Nat→Nat→SV)):St:=
 match z with
 |(ks,[],_,row,_,_)=>⟨[(0,.ptr tb 0),(2,.val (.slice none 0 0)),(12,.ptr (n1+5) 0)],(n1+5,.iter mid clk (ks.map stamp) clk) ::(rid,.rows 3 1 N row) ::(mid,.mapS kfP dom get stamp clk) ::(tb,.cells 253 [A,Z,.vec xid N 1,.vec rid N 1,.mp mid]) ::(xid,.rows 22 1 N nx) :: rest,n1+20+900*ks.length⟩
 |(ks,_ :: l,_,row,oid,frow)=>⟨[(0,.ptr tb 0),(2,.vec oid (l.length+1) 6),(12,.ptr (n1+5) 0)],(oid,.rows 255 6 (l.length+1) frow) ::(n1+5,.iter mid clk (ks.map stamp) clk) ::(rid,.rows 3 1 N row) ::(mid,.mapS kfP dom get stamp clk) ::(tb,.cells 253 [A,Z,.vec xid N 1,.vec rid N 1,.mp mid]) ::(xid,.rows 22 1 N nx) :: rest,n1+20+900*ks.length⟩
theorem qgT(N:Nat)(get:Value→SV)(A Z:SV)(nx:Nat→Nat→SV)(dom:Value→Bool)(rest:List (Nat×Blk))(n1 tb xid rid mid clk:Nat)(stamp:Value→Nat)(ks:List Value)(rw:Nat→Int)(row:Nat→Nat→SV)(oid:Nat)(frow:Nat→Nat→SV):st1 N get A Z nx dom rest n1 tb xid rid mid clk stamp (ks,[],rw,row,oid,frow)=⟨[(0,.ptr tb 0),(2,.val (.slice none 0 0)),(12,.ptr (n1+5) 0)],(n1+5,.iter mid clk (ks.map stamp) clk) ::(rid,.rows 3 1 N row) ::(mid,.mapS kfP dom get stamp clk) ::(tb,.cells 253 [A,Z,.vec xid N 1,.vec rid N 1,.mp mid]) ::(xid,.rows 22 1 N nx) :: rest,n1+20+900*ks.length⟩:=rfl
theorem qct(N:Nat)(get:Value→SV)(A Z:SV)(nx:Nat→Nat→SV)(dom:Value→Bool)(rest:List (Nat×Blk))(n1 tb xid rid mid clk:Nat)(stamp:Value→Nat)(ks:List Value)(x:Value)(l:List Value)(rw:Nat→Int)(row:Nat→Nat→SV)(oid:Nat)(frow:Nat→Nat→SV):st1 N get A Z nx dom rest n1 tb xid rid mid clk stamp (ks,x :: l,rw,row,oid,frow)=⟨[(0,.ptr tb 0),(2,.vec oid (l.length+1) 6),(12,.ptr (n1+5) 0)],(oid,.rows 255 6 (l.length+1) frow) ::(n1+5,.iter mid clk (ks.map stamp) clk) ::(rid,.rows 3 1 N row) ::(mid,.mapS kfP dom get stamp clk) ::(tb,.cells 253 [A,Z,.vec xid N 1,.vec rid N 1,.mp mid]) ::(xid,.rows 22 1 N nx) :: rest,n1+20+900*ks.length⟩:=rfl
theorem qow(N:Nat)(len:Nat→Nat)(to:Nat→Nat→Nat)(F:Nat→Int)(dom0:Value→Bool)(get:Value→SV)(A Z:SV)(nx row0:Nat→Nat→SV)(rest:List (Nat×Blk))(id tb xid rid mid:Nat)
  (h:Hl N len to F dom0 nx rest id tb xid rid mid) (hr0:∀i,i<N→row0 i 0=.val (.int .i64 (-1))) :
  EffVC Tryz.prog 163 [.ptr tb 0] ((rid,.rows 3 1 N row0) ::(mid,.map kfP dom0 get) ::(tb,.cells 253 [A,Z,.vec xid N 1,.vec rid N 1,.mp mid]) ::(xid,.rows 22 1 N nx) :: rest) id (fun hp' nid' res=>nid'≤id+1000*(N+2)*(N+2)∧res=.tup []∧∃row,(∀i,i<N→row i 0=.val (.int .i64 (F i)))∧hp'=(rid,.rows 3 1 N row) ::(mid,.map kfP (fun v=>dom0 v&&decide (F (zK v)<0)) get) ::(tb,.cells 253 [A,Z,.vec xid N 1,.vec rid N 1,.mp mid]) ::(xid,.rows 22 1 N nx) :: rest):=by
 refine vD follows Tryz.func163 rfl Ωc Ωc (by rw[Tryz.ntmps163];simp) fun out=>?_;have htb:=h.itb;have hxid:=h.ixid;have hrid:=h.irid;have hmid:=h.imid;have ND:=(⟨nmE h.d1,nmE h.d2,nmE h.d3,nmE h.d4,nmE h.d5,nmE h.d6⟩:_∧_∧_∧_∧_∧_);have NB:True:=trivial;have NB1:True:=trivial;have hN5:=h.N5;have e0:(fun v=>dom0 v&&decide ((-1:Int)<0))=dom0:=by funext v;simp
 (repeat' (first|refine sD ?_ ?_<;>intro _|refine aAa ?_|(simp -dsimp only[↓RP,RQ,xa0,reduceIte,reduceCtorEq,xa1,xa2,xa3,xa4,NB,NB1,ND,gY,QS,QT,QN])));refine qo (fun(z:(Nat→Int)×(Nat→Nat→SV)×Nat)=>Rw N F z.1∧(∀i,i<N→z.2.1 i 0=.val (.int .i64 (z.1 i)))∧z.2.2+cnt z.1 N≤N) (st0 N get A Z nx dom0 rest id tb xid rid mid) (fun z=>cnt z.1 N) (fun _=>-1,row0,0) ⟨fun i hi=>.inr rfl,hr0,by have:=yQ (fun _=>-1) N;simp only[];omega⟩ (by unfold st0;simp only[Nat.mul_zero,xb1,e0];exact weakSU (xa5 _) Ωf (SubHp.refl _)) fun z hz=>?_;obtain⟨rw0,row,c⟩:=z;obtain⟨z1,z2,z3⟩:=hz;simp only[]at z1 z2 z3;unfold st0;simp only[];obtain⟨n1,hn1⟩:∃n1,n1=id+(960*N+400)*c:=⟨_,rfl⟩;have hid1:id≤n1:=by rw[hn1];exact Nat.le_add_right _ _
 rw[←hn1];have NB:=(⟨nmA (Ω:tb<n1),nmA (Ω:xid<n1),nmA (Ω:rid<n1),nmA (Ω:mid<n1)⟩:_∧_∧_∧_);(repeat' (first|refine sD ?_ ?_<;>intro _|refine aAa ?_|(simp -dsimp only[↓RP,RQ,xa0,reduceIte,reduceCtorEq,xa1,xa2,xa3,xa4,NB,NB1,ND,gY,QS,QT,QN])));refine qiY (mid:=mid) (fit:=kfP) (dom:=(fun v=>dom0 v&&decide (rw0 (zK v)<0))) (get:=get) Ωx Ωx qla ΩJ fun stamp clk hst hinj=>?_;(repeat' (first|refine sD ?_ ?_<;>intro _|refine aAa ?_|(simp -dsimp only[↓RP,RQ,xa0,reduceIte,reduceCtorEq,xa1,xa2,xa3,xa4,NB,NB1,ND,gY,QS,QT,QN])));obtain⟨dom,hdom⟩:∃dom,dom=fun v=>dom0 v&&decide (rw0 (zK v)<0):=⟨_,rfl⟩;have hst:∀k,dom k=true→stamp k<clk:=by rw[hdom];exact hst
 have hinj:∀k k',dom k=true→dom k'=true→stamp k=stamp k'→k=k':=by rw[hdom];exact hinj
 have hd0:∀k,dom k=true→dom0 k=true:=fun k hk=>by rw[hdom]at hk;simp only[xe6]at hk;exact hk.1
 rw[←hdom];have hone:∀v v',dom v=true→dom v'=true→zK v=zK v'→v=v':=fun v v' h1 h2=>h.one v v' (hd0 v h1) (hd0 v' h2);have hbx0:∀{Y Z':Blk} x,n1≤x→blk ((rid,Y) ::(mid,Z') ::(tb,.cells 253 [A,Z,.vec xid N 1,.vec rid N 1,.mp mid]) ::(xid,.rows 22 1 N nx) :: rest) x=none:=fun x hx=>by
  simp only[blk];rw[if_neg Ω,if_neg Ω,if_neg Ω,if_neg Ω];exact h.und.none Ω
 have hbx:∀{X Y Z':Blk} x,n1+6≤x→blk ((n1+5,X) ::(rid,Y) ::(mid,Z') ::(tb,.cells 253 [A,Z,.vec xid N 1,.vec rid N 1,.mp mid]) ::(xid,.rows 22 1 N nx) :: rest) x=none:=fun x hx=>by
  simp only[blk];rw[if_neg Ω,if_neg Ω,if_neg Ω,if_neg Ω,if_neg Ω];exact h.und.none Ω
 refine qo (fun(z:List Value×List Value×(Nat→Int)×(Nat→Nat→SV)×Nat×(Nat→Nat→SV))=>Fnd N len to F rw0 z.2.2.1 dom z.1 z.2.1∧(∀i,i<N→z.2.2.2.1 i 0=.val (.int .i64 (z.2.2.1 i)))∧qov z.2.1 z.2.2.2.2.2∧(z.2.1≠[]→n1+6≤z.2.2.2.2.1∧z.2.2.2.2.1<n1+20+900*z.1.length)) (st1 N get A Z nx dom rest n1 tb xid rid mid clk stamp) (fun z=>N - z.1.length) ([],[],rw0,row,0,fun _ _=>.top) ⟨⟨List.nodup_nil,fun v hv=>(by cases hv),fun v hv=>(by cases hv),z1,fun v hv=>?_,fun _=>⟨rfl,fun v hv=>(by cases hv)⟩,rfl,fun i hi=>hi⟩,z2,fun i j hi=>(by cases hi),fun hh=>absurd rfl hh⟩ (by rw[qgT];exact weakSU Ωg Ωf (SubHp.refl _)) fun z hz=>?_
 ·rw[hdom]at hv
  simp only[xe6,decide_eq_true_eq]at hv;exact⟨fun h1=>by have h1:0≤rw0 (zK v):=h1;omega,fun h1=>(by cases h1)⟩
 obtain⟨ks,fl,rw1,row1,oid,frow⟩:=z;obtain⟨y1,y2,y3,y4⟩:=hz;simp only[]at y1 y2 y3 y4;have hks:ks.length≤N:=by
  have:=jv N (ks.map zK) (Zq y1.nd fun a b ha hb=>hone a b (y1.inD a ha) (y1.inD b hb)) fun x hx=>by
   obtain⟨v,hv,rfl⟩:=List.mem_map.1 hx;obtain⟨f,n,hn,rfl⟩:=h.keys v (hd0 v (y1.inD v hv));exact hn
  rwa [xe1]at this
 have hkl:∀v,dom v=true→v∉ks→ks.length<N:=fun v hv hm=>by
  have:=jv N ((ks++[v]).map zK) (Zq (vK y1.nd hm) fun a b ha hb=>hone a b ?_ ?_) fun x hx=>?_
  ·rw[xe1,xc8,xd1]at this;omega
  ·rcases List.mem_append.1 ha with h1|h1
   ·exact y1.inD a h1
   ·rw[List.mem_singleton.1 h1];exact hv
  ·rcases List.mem_append.1 hb with h1|h1
   ·exact y1.inD b h1
   ·rw[List.mem_singleton.1 h1];exact hv
  ·obtain⟨u,hu,rfl⟩:=List.mem_map.1 hx
   have hu2:dom u=true:=by
    rcases List.mem_append.1 hu with h1|h1
    ·exact y1.inD u h1
    ·rw[List.mem_singleton.1 h1];exact hv
   obtain⟨f,n,hn,rfl⟩:=h.keys u (hd0 u hu2);exact hn
 clear NB;obtain⟨nn,hnn⟩:∃nn,nn=n1+20+900*ks.length:=⟨_,rfl⟩;have hn2:n1+20≤nn:=by omega
 have NB:=(⟨nmA (Ω:tb<nn),nmA (Ω:xid<nn),nmA (Ω:rid<nn),nmA (Ω:mid<nn),nmA (Ω:tb<n1),nmA (Ω:xid<n1),nmA (Ω:rid<n1),nmA (Ω:mid<n1),nmA (Ω:n1+5<nn)⟩:_∧_∧_∧_∧_∧_∧_∧_∧_);cases fl with
 |nil=>
  ·rw[qgT,←hnn]
   (repeat' (first|refine sD ?_ ?_<;>intro _|refine aAa ?_|(simp -dsimp only[↓RP,RQ,xa0,reduceIte,reduceCtorEq,xa1,xa2,xa3,xa4,NB,NB1,ND,gY,QS,QT,QN])));refine qfy (iid:=n1+5) (mid:=mid) (clk:=clk) (seen:=ks.map stamp) (fit:=kfP) (dom:=dom) (get:=get) (stamp:=stamp) Ωx Ωx ΩJ ΩJ (fun k hk1 hk2 hk3=>?_) (fun hall=>?_)
   ·obtain⟨f,n,hn,rfl⟩:=h.keys k (hd0 k hk2)
    have hk4:kp f n∉ks:=fun hm=>hk3 (List.mem_map.2 ⟨_,hm,rfl⟩);(repeat' (first|refine sD ?_ ?_<;>intro _|refine aAa ?_|(simp -dsimp only[↓RP,RQ,xa0,reduceIte,reduceCtorEq,xa1,xa2,xa3,xa4,NB,NB1,ND,gY,QS,QT,QN])));refine Vh (s:=.agg (kpL f n)) (iid:=n1+5) (mid:=mid) (clk:=clk) (seen:=ks.map stamp) (fit:=kfP) (dom:=dom) (get:=get) (stamp:=stamp) (k:=kp f n) Ωx Ωx ΩJ ΩJ hk2 (Zh [.int .i64 (f 0),.int .i64 (f 1),.int .i64 (f 2),.int .i64 (f 3),.int .i64 (f 4),.int .i64 (n:Nat)]) ?_;unfold kpL;(repeat' (first|refine sD ?_ ?_<;>intro _|refine aAa ?_|(simp -dsimp only[↓RP,RQ,xa0,reduceIte,reduceCtorEq,xa1,xa2,xa3,xa4,NB,NB1,ND,gY,QS,QT,QN])));refine jd Ωx (qnn _ _ tb xid rid mid N n (len n) A Z nx row1 rw1 (to n) hN5 hn (by have:=h.l5 n hn;omega) ΩJ ΩJ ΩJ y2 (fun i hi=>by have:=h.fx.lo i hi;have:=h.fx.hi i hi;rcases y1.rwF i hi with e|e<;>omega) (fun j hj=>h.fx.inn n j hn hj) ?hNX) fun hp' n3 res hQ=>?_
    case hNX=>
     rcases h.nx n hn with⟨a,b⟩|⟨xi,r,a,b,⟨x1,x2,x3,x4,x5⟩,x6⟩
     ·exact .inl ⟨a,b⟩
     ·have NX:=(⟨nmE x1,nmE x2,nmE x3,nmE x4,nmA (Ω:xi<nn),nmA (Ω:xi<n1)⟩:_∧_∧_∧_∧_∧_)
      exact .inr ⟨xi,r,a,by simp[blk,NB,NB1,ND,NX,b],x6⟩
    obtain⟨rfl,q1,q2,hQ⟩:=hQ;have hl5:=h.l5 n hn;have NB3:=(⟨nmA (Ω:tb<n3),nmA (Ω:xid<n3),nmA (Ω:rid<n3),nmA (Ω:mid<n3),nmA (Ω:nn+4<n3),nmA (Ω:n1+5<n3)⟩:_∧_∧_∧_∧_∧_);rcases hQ with⟨hk,rfl⟩|⟨hk,rfl⟩
    ·obtain⟨w0,w1⟩:=h.fx.set y1.rwF hn hk
     have w2:=h.fx.hi n hn;have w3:=y1.cn;have w4:=yQ rw0 N;have w5:=hN5
     skip
     rw[w1];unfold I B;(repeat' (first|refine sD ?_ ?_<;>intro _|refine aAa ?_|(simp -dsimp only[↓RP,RQ,xa0,reduceIte,reduceCtorEq,xa1,xa2,xa3,xa4,NB3,qgR,NB,NB1,ND,gY,QS,QT,QN])))
     skip
     refine⟨(ks++[kp f n],[kp f n],yq rw1 n (F n),(fun a b=>if a=n∧b=0 then SV.val (.int .i64 (F n))else row1 a b),n3+13,(fun i j=>[SV.val (.int .i64 (f 0)),SV.val (.int .i64 (f 1)),SV.val (.int .i64 (f 2)),SV.val (.int .i64 (f 3)),SV.val (.int .i64 (f 4)),SV.val (.int .i64 (n:Nat))].getD (i*6+j) SV.top)),⟨y1.hit hone hk2 hn hk4 rfl w0,fun i hi=>?_,?_,fun _=>?_⟩,?_,?_⟩
     ·simp only[yq]
      by_cases e:i=n
      ·rw[if_pos ⟨e,trivial⟩,if_pos e]
      ·rw[if_neg (fun e2=>e e2.1),if_neg e];exact y2 i hi
     ·intro i j hi hj
      have e:i=0:=by have hi:i<1:=hi;omega
      subst e;have k:=qgL f n;show [SV.val (.int .i64 (f 0)),SV.val (.int .i64 (f 1)),SV.val (.int .i64 (f 2)),SV.val (.int .i64 (f 3)),SV.val (.int .i64 (f 4)),SV.val (.int .i64 (n:Nat))].getD (0*6+j) SV.top=kc (kp f n) j;rw[Nat.zero_mul,xb0];rcases(Ω:j=0∨j=1∨j=2∨j=3∨j=4∨j=5)with rfl|rfl|rfl|rfl|rfl|rfl
      ·exact k.1.symm
      ·exact k.2.1.symm
      ·exact k.2.2.1.symm
      ·exact k.2.2.2.1.symm
      ·exact k.2.2.2.2.1.symm
      ·exact k.2.2.2.2.2.symm
     ·simp only[xc8,xd1];omega
     ·have hk5:=hkl _ hk2 hk4
      simp only[xc8,xd1];omega
     ·rw[qct,List.map_append,List.map_cons,List.map_nil,xc8,xd1]
      exact weakSU Ω Ωf (SubHp.cons (SubHp.skip (hbx _ Ω) (SubHp.skip (hbx _ Ω) (SubHp.refl _))))
    ·unfold I B
     (repeat' (first|refine sD ?_ ?_<;>intro _|refine aAa ?_|(simp -dsimp only[↓RP,RQ,xa0,reduceIte,reduceCtorEq,xa1,xa2,xa3,xa4,NB3,NB,NB1,ND,gY,QS,QT,QN])));refine⟨(ks++[kp f n],[],rw1,row1,oid,frow),⟨y1.stop hk2 hk4 hk,y2,y3,fun hh=>?_⟩,?_,?_⟩
     ·exact absurd hh Ωg
     ·have hk5:=hkl _ hk2 hk4
      simp only[xc8,xd1];omega
     ·rw[qgT,List.map_append,List.map_cons,List.map_nil,xc8,xd1]
      exact weakSU Ω Ωf (SubHp.skip (hbx _ Ω) (SubHp.refl _))
   ·skip
    have hkk:∀v,dom v=true→v∈ks:=fun v hv=>by
     obtain⟨u,hu,e⟩:=List.mem_map.1 (hall v hv);rw[←hinj u v (y1.inD u hu) hv e];exact hu
    have⟨hrw,hno⟩:=y1.nil rfl;subst hrw;have hF:∀i,i<N→rw1 i=F i:=fun i hi=>h.fx.fin y1.rwF (fun i hi hneg=>by
     obtain⟨v,hv,rfl⟩:=h.all i hi;refine hno v (hkk v ?_);rw[hdom];simp only[hv,xf0,decide_eq_true_eq];exact hneg) 1000000 i hi (h.fx.hi i hi)
    (repeat' (first|refine sD ?_ ?_<;>intro _|refine aAa ?_|(simp -dsimp only[↓RP,RQ,xa0,reduceIte,reduceCtorEq,xa1,xa2,xa3,xa4,NB,NB1,ND,gY,QS,QT,QN])))
    all_goals try exact Ωb
    refine⟨_,_,_,qcs (mid:=mid) (fit:=kfP) (dom:=dom) (dom':=fun v=>dom0 v&&decide (F (zK v)<0)) (get:=get) (st:=stamp) (c:=clk) ΩJ (fun v=>?_) (xa5 _) (fr':=[(0,_)]) ⟨.inr rfl,trivial⟩ (by simp only[setBlk,NB,NB1,ND,reduceIte];exact SubHp.skip (hbx0 _ Ω) (SubHp.refl _)),?_,rfl,row1,fun i hi=>by rw[y2 i hi,hF i hi],rfl⟩
    ·rw[hdom]
     show(dom0 v&&decide (F (zK v)<0))=(dom0 v&&decide (rw1 (zK v)<0));cases hv:dom0 v with
     |false=>rfl
     |true=>
      obtain⟨f,n,hn,rfl⟩:=h.keys v hv;rw[vJ,hF n hn]
    ·have hc:=Nat.mul_le_mul_left (960*N+400) (Ω:c≤N)
     have e3:(960*N+400)*N=960*(N*N)+400*N:=by rw[Nat.add_mul,Nat.mul_assoc]
     rw[e3]at hc;have e1:1000*(N+2)*(N+2)=1000*(N*N)+4000*N+4000:=by
      rw[Nat.mul_assoc,Nat.add_mul,Nat.mul_add,Nat.mul_add];omega
     rw[e1,hnn,hn1];omega
 |cons x l=>
  have⟨y5,y6⟩:=y4 Ωg;rw[←hnn]at y6;have NO:=(⟨nmE (Ω:oid≠tb),nmE (Ω:oid≠xid),nmE (Ω:oid≠rid),nmE (Ω:oid≠mid),nmE (Ω:oid≠n1+5),nmA y6⟩:_∧_∧_∧_∧_∧_);have hdr:dropBlk rest oid=rest:=zn (h.und.none Ω);have hbx2:∀{X Y Z' V:Blk} x,n1+6≤x→x≠oid→blk ((oid,V) ::(n1+5,X) ::(rid,Y) ::(mid,Z') ::(tb,.cells 253 [A,Z,.vec xid N 1,.vec rid N 1,.mp mid]) ::(xid,.rows 22 1 N nx) :: rest) x=none:=fun x hx hx2=>by
   simp only[blk];rw[if_neg hx2];exact hbx x hx
  ·rw[qct,←hnn]
   (repeat' (first|refine sD ?_ ?_<;>intro _|refine aAa ?_|(simp -dsimp only[↓RP,RQ,xa0,reduceIte,reduceCtorEq,xa1,xa2,xa3,xa4,NO,hdr,NB,NB1,ND,gY,QS,QT,QN])));refine qfy (iid:=n1+5) (mid:=mid) (clk:=clk) (seen:=ks.map stamp) (fit:=kfP) (dom:=dom) (get:=get) (stamp:=stamp) Ωx Ωx ΩI ΩI (fun k hk1 hk2 hk3=>?_) (fun hall=>?_)
   ·obtain⟨f,n,hn,rfl⟩:=h.keys k (hd0 k hk2)
    have hk4:kp f n∉ks:=fun hm=>hk3 (List.mem_map.2 ⟨_,hm,rfl⟩);(repeat' (first|refine sD ?_ ?_<;>intro _|refine aAa ?_|(simp -dsimp only[↓RP,RQ,xa0,reduceIte,reduceCtorEq,xa1,xa2,xa3,xa4,NO,hdr,NB,NB1,ND,gY,QS,QT,QN])));refine Vh (s:=.agg (kpL f n)) (iid:=n1+5) (mid:=mid) (clk:=clk) (seen:=ks.map stamp) (fit:=kfP) (dom:=dom) (get:=get) (stamp:=stamp) (k:=kp f n) Ωx Ωx ΩI ΩI hk2 (Zh [.int .i64 (f 0),.int .i64 (f 1),.int .i64 (f 2),.int .i64 (f 3),.int .i64 (f 4),.int .i64 (n:Nat)]) ?_;unfold kpL;(repeat' (first|refine sD ?_ ?_<;>intro _|refine aAa ?_|(simp -dsimp only[↓RP,RQ,xa0,reduceIte,reduceCtorEq,xa1,xa2,xa3,xa4,NO,hdr,NB,NB1,ND,gY,QS,QT,QN])));refine jd Ωx (qnn _ _ tb xid rid mid N n (len n) A Z nx row1 rw1 (to n) hN5 hn (by have:=h.l5 n hn;omega) ΩI ΩI ΩI y2 (fun i hi=>by have:=h.fx.lo i hi;have:=h.fx.hi i hi;rcases y1.rwF i hi with e|e<;>omega) (fun j hj=>h.fx.inn n j hn hj) ?hNX) fun hp' n3 res hQ=>?_
    case hNX=>
     rcases h.nx n hn with⟨a,b⟩|⟨xi,r,a,b,⟨x1,x2,x3,x4,x5⟩,x6⟩
     ·exact .inl ⟨a,b⟩
     ·have NX:=(⟨nmE x1,nmE x2,nmE x3,nmE x4,nmA (Ω:xi<nn),nmA (Ω:xi<n1),nmE (Ω:xi≠oid)⟩:_∧_∧_∧_∧_∧_∧_)
      exact .inr ⟨xi,r,a,by simp[blk,NB,NB1,ND,NX,NO,b],x6⟩
    obtain⟨rfl,q1,q2,hQ⟩:=hQ;have hl5:=h.l5 n hn;have NB3:=(⟨nmA (Ω:tb<n3),nmA (Ω:xid<n3),nmA (Ω:rid<n3),nmA (Ω:mid<n3),nmA (Ω:nn+4<n3),nmA (Ω:n1+5<n3),nmA (Ω:oid<n3)⟩:_∧_∧_∧_∧_∧_∧_);rcases hQ with⟨hk,rfl⟩|⟨hk,rfl⟩
    ·obtain⟨w0,w1⟩:=h.fx.set y1.rwF hn hk
     have w2:=h.fx.hi n hn;have w3:=y1.cn;have w4:=yQ rw0 N;have w5:=hN5;rw[xe4]at w3;rw[w1];unfold I B;(repeat' (first|refine sD ?_ ?_<;>intro _|refine aAa ?_|(simp -dsimp only[↓RP,RQ,xa0,reduceIte,reduceCtorEq,xa1,xa2,xa3,xa4,NB3,qgR,NO,hdr,NB,NB1,ND,gY,QS,QT,QN])));refine⟨⟨.inr trivial,xa5 _,qou _ _ _ _ _ _,Ω⟩,Ω,Ω,?_⟩;refine⟨(ks++[kp f n],x ::(l++[kp f n]),yq rw1 n (F n),(fun a b=>if a=n∧b=0 then SV.val (.int .i64 (F n))else row1 a b),n3+13,(fun i j=>if i<l.length+1 then frow i j else [SV.val (.int .i64 (f 0)),SV.val (.int .i64 (f 1)),SV.val (.int .i64 (f 2)),SV.val (.int .i64 (f 3)),SV.val (.int .i64 (f 4)),SV.val (.int .i64 (n:Nat))].getD ((i -(l.length+1))*6+j) SV.top)),⟨y1.hit hone hk2 hn hk4 rfl w0,fun i hi=>?_,?_,fun _=>?_⟩,?_,?_⟩
     ·simp only[yq]
      by_cases e:i=n
      ·rw[if_pos ⟨e,trivial⟩,if_pos e]
      ·rw[if_neg (fun e2=>e e2.1),if_neg e];exact y2 i hi
     ·intro i j hi hj
      have hi:i<(x ::(l++[kp f n])).length:=hi;rw[xe4,xc8,xd1]at hi;by_cases hc:i<l.length+1
      ·show(if i<l.length+1 then frow i j else _)=_
       rw[if_pos hc,y3 i j hc hj];have eG:(x ::(l++[kp f n])).getD i undef=(x :: l).getD i undef:=by
        rw[←List.cons_append,xc6,xc6,xc9 hc]
       show _=kc ((x ::(l++[kp f n])).getD i undef) j;rw[eG]
      ·have e:i=l.length+1:=by omega
       subst e;have k:=qgL f n;have eG:(x ::(l++[kp f n])).getD (l.length+1) undef=kp f n:=by simp[xc6]
       show(if l.length+1<l.length+1 then frow (l.length+1) j else [SV.val (.int .i64 (f 0)),SV.val (.int .i64 (f 1)),SV.val (.int .i64 (f 2)),SV.val (.int .i64 (f 3)),SV.val (.int .i64 (f 4)),SV.val (.int .i64 (n:Nat))].getD ((l.length+1 -(l.length+1))*6+j) SV.top)=kc ((x ::(l++[kp f n])).getD (l.length+1) undef) j;rw[if_neg Ω,eG,xb8,Nat.zero_mul,xb0];rcases(Ω:j=0∨j=1∨j=2∨j=3∨j=4∨j=5)with rfl|rfl|rfl|rfl|rfl|rfl
       ·exact k.1.symm
       ·exact k.2.1.symm
       ·exact k.2.2.1.symm
       ·exact k.2.2.2.1.symm
       ·exact k.2.2.2.2.1.symm
       ·exact k.2.2.2.2.2.symm
     ·simp only[xc8,xd1];omega
     ·have hk5:=hkl _ hk2 hk4
      simp only[xc8,xd1];omega
     ·rw[qct,List.map_append,List.map_cons,List.map_nil,xc8,xd1,xc8,xd1]
      exact weakSU Ω Ωf (SubHp.cons (SubHp.skip (hbx _ Ω) (SubHp.skip (hbx _ Ω) (SubHp.refl _))))
    ·unfold I B
     (repeat' (first|refine sD ?_ ?_<;>intro _|refine aAa ?_|(simp -dsimp only[↓RP,RQ,xa0,reduceIte,reduceCtorEq,xa1,xa2,xa3,xa4,NB3,NO,hdr,NB,NB1,ND,gY,QS,QT,QN])));refine⟨(ks++[kp f n],x :: l,rw1,row1,oid,frow),⟨y1.stop hk2 hk4 hk,y2,y3,fun hh=>?_⟩,?_,?_⟩
     ·have:=y4 hh
      simp only[xc8,xd1];omega
     ·have hk5:=hkl _ hk2 hk4
      simp only[xc8,xd1];omega
     ·rw[qct,List.map_append,List.map_cons,List.map_nil,xc8,xd1]
      exact weakSU Ω Ωf (SubHp.skip (hbx2 _ Ω Ω) (SubHp.refl _))
   ·skip
    have hkk:ks.length≤N:=hks;have hfl:=y1.cn;have hcl:=yQ rw0 N;rw[xe4]at hfl;have hl0:=decide_eq_false (show ¬(((l.length+1:Nat):Nat):Int)=0 by omega);obtain⟨fl,hfe⟩:∃fl,fl=x :: l:=⟨_,rfl⟩;obtain⟨m,hm⟩:∃m,m=l.length+1:=⟨_,rfl⟩;have hml:m=fl.length:=by rw[hfe,hm];rfl
    rw[←hm]at hfl hl0;rw[←hfe]at y1 y3;rw[←hm];(repeat' (first|refine sD ?_ ?_<;>intro _|refine aAa ?_|(simp -dsimp only[↓RP,RQ,xa0,reduceIte,reduceCtorEq,xa1,xa2,xa3,xa4,NO,hdr,hl0,NB,NB1,ND,gY,QS,QT,QN])))
    all_goals try exact Ωb
    refine qo (fun(i:Nat)=>i≤m) (fun i=>⟨[(0,.ptr tb 0),(40,.vec oid m 6),(41,.val (.int .i64 (m:Nat))),(42,.val (.int .i64 (i:Nat)))],(oid,.rows 255 6 m frow) ::(rid,.rows 3 1 N row1) ::(mid,.mapS kfP (domC dom (fl.take i)) get stamp clk) ::(tb,.cells 253 [A,Z,.vec xid N 1,.vec rid N 1,.mp mid]) ::(xid,.rows 22 1 N nx) :: rest,nn+40+60*i⟩) (fun i=>m - i) 0 (xb6 _) (by rw[List.take_zero,qgS];exact weakSU Ω Ωf (SubHp.cons (SubHp.skip (hbx0 _ Ω) (SubHp.refl _)))) fun i hi=>?_;obtain⟨n4,hn4⟩:∃n4,n4=nn+40+60*i:=⟨_,rfl⟩;rw[←hn4];clear NB;have NB:=(⟨nmA (Ω:tb<n4),nmA (Ω:xid<n4),nmA (Ω:rid<n4),nmA (Ω:mid<n4),nmA (Ω:oid<n4)⟩:_∧_∧_∧_∧_);have hbx4:∀{X Y Z':Blk} x,n4≤x→blk ((oid,X) ::(rid,Y) ::(mid,Z') ::(tb,.cells 253 [A,Z,.vec xid N 1,.vec rid N 1,.mp mid]) ::(xid,.rows 22 1 N nx) :: rest) x=none:=fun x hx=>by
     simp only[blk];rw[if_neg Ω,if_neg Ω,if_neg Ω,if_neg Ω,if_neg Ω];exact h.und.none Ω
    by_cases him:i<m
    ·have hlt:=decide_eq_true (Ω:((i:Nat):Int)<(m:Nat))
     have hmem:fl.getD i undef∈fl:=by
      rw[xc6,xc7 (Ω:i<fl.length)];exact List.getElem_mem _
     obtain⟨f,n,hn,hfn⟩:=h.keys _ (hd0 _ (y1.inD _ (y1.sub _ hmem)));have k:=qgL f n;have f0:=y3 i 0 Ω Ω;have f1:=y3 i 1 Ω Ω;have f2:=y3 i 2 Ω Ω;have f3:=y3 i 3 Ω Ω;have f4:=y3 i 4 Ω Ω;have f5:=y3 i 5 Ω Ω;rw[hfn,k.1]at f0;rw[hfn,k.2.1]at f1;rw[hfn,k.2.2.1]at f2;rw[hfn,k.2.2.2.1]at f3;rw[hfn,k.2.2.2.2.1]at f4;rw[hfn,k.2.2.2.2.2]at f5;(repeat' (first|refine sD ?_ ?_<;>intro _|refine aAa ?_|(simp -dsimp only[↓RP,RQ,xa0,reduceIte,reduceCtorEq,xa1,xa2,xa3,xa4,NO,hlt,f0,f1,f2,f3,f4,f5,qla,qgR,NB,NB1,ND,gY,QS,QT,QN])))
     all_goals try exact Ωb
     have hgi:fl[i]? = some (kp f n):=by
      rw[←hfn,xc6,xc7 (Ω:i<fl.length)];rfl
     have hcut:ka (domC dom (List.take i fl)) (Value.agg #[Value.int .i64 (f 0),Value.int .i64 (f 1),Value.int .i64 (f 2),Value.int .i64 (f 3),Value.int .i64 (f 4),Value.int .i64 (n:Nat)])=domC dom (List.take (i+1) fl):=by
      show ka _ (kp f n)=_;rw[qlS,List.take_add_one,hgi];rfl
     rw[hcut];exact⟨i+1,Ω,Ω,weakSU Ω Ωf (SubHp.skip (hbx4 _ Ω) (SubHp.refl _))⟩
    ·obtain rfl:i=m:=by omega
     have hlt:=decide_eq_false (Ω:¬((i:Nat):Int)<(i:Nat));(repeat' (first|refine sD ?_ ?_<;>intro _|refine aAa ?_|(simp -dsimp only[↓RP,RQ,xa0,reduceIte,reduceCtorEq,xa1,xa2,xa3,xa4,NO,hlt,NB,NB1,ND,gY,QS,QT,QN])))
     all_goals try exact Ωb
     have yd:=y1;rw[hdom]at yd;have ed:=yd.dom;have hX:id+(960*N+400)*(c+1)=n1+(960*N+400):=by rw[hn1,Nat.mul_add,Nat.mul_one];omega
     refine⟨(rw1,row1,c+1),⟨y1.rwF,y2,by simp only[];omega⟩,by simp only[];omega,qcs (mid:=mid) (fit:=kfP) (dom:=domC dom (List.take i fl)) (dom':=fun v=>dom0 v&&decide (rw1 (zK v)<0)) (get:=get) (st:=stamp) (c:=clk) ΩI (fun v=>?_) (by simp only[];rw[hX];omega) Ωf (by simp only[setBlk,NB,NB1,ND,NO,reduceIte];exact SubHp.skip (hbx0 _ Ω) (SubHp.refl _))⟩;rw[hdom,List.take_of_length_le Ω,ed]
end Go.Tn
end
section
namespace Go.Sx
open Go.RowKit
noncomputable section
def gp(cl:SV→Option SV)(l:List SV):Option (List SV):=
 List.rec (motive:=fun _=>Option (List SV)) (some []) (fun a _ ih=>match cl a,ih with
  |some b,some m=>some (b :: m)
  |_,_=>none) l
def qnw(k:Nat)(l:List SV)(i j:Nat):SV:=l.getD (i*k+j) .top
def Ye(o full:Bool)(n k:Nat)(l:Option (List SV)):Option SV:=
 match l with
 |some l=>some (.arr o full n k (qnw k l))
 |none=>none
def qjw(f:List SV→SV)(l:Option (List SV)):Option SV:=
 match l with
 |some l=>some (f l)
 |none=>none
def fnO(f:Fn)(a b:Option (List SV)):Option SV:=
 match a,b with
 |some a,some b=>some (.fn f a b)
 |_,_=>none
def qjx(o:Bool)(n:Nat)(l:Option (List SV)):Option SV:=
 match l with
 |some l=>some (.ref o n (fun j=>l.getD j .top))
 |none=>none
def qaP(o:Bool)(hp:Tr 6 XB)(cl:SV→Option SV)(s:SV):Option SV:=
 match s with
 |.val v=>some (.val v)
 |.agg l=>qjw .agg (gp cl l)
 |.tup l=>qjw .tup (gp cl l)
 |.fn f a b=>fnO f (gp cl a) (gp cl b)
 |.vec id n k=>(match hp.find id with
  |some (.rows _ k' n' l)=>Bool.rec none (Ye o false n k (gp cl (l.take (n*k)))) (Nat.ble n n'&&Nat.beq k k')
  |_=>none)
 |.cut id n k=>(match hp.find id with
  |some (.rows _ k' n' l)=>Bool.rec none (Ye o true n k (gp cl (l.take (n*k)))) (Nat.ble n n'&&Nat.beq k k')
  |_=>none)
 |.asl id off n k=>(match hp.find id with
  |some (.cells _ l)=>Bool.rec none (Ye o false n k (gp cl ((l.drop off).take (n*k)))) (Nat.ble (off+n*k) l.length)
  |_=>none)
 |.ptr id off=>(match hp.find id with
  |some (.cells _ l)=>qjx o (l.length - off) (gp cl (l.drop off))
  |_=>none)
 |.arr o' full n k row=>Bool.rec none (Ye o full n k (gp cl (vW row k n))) (Bool.rec true o' o)
 |.ref o' n row=>Bool.rec none (qjx o n (gp cl (sel row 0 n))) (Bool.rec true o' o)
 |_=>some .top
def yZ(o:Bool)(hp:Tr 6 XB)(n:Nat):SV→Option SV:=Nat.rec (fun _=>some .top) (fun _ ih=>qaP o hp ih) n
section
variable{H:List (Nat×Blk)}{hp:Tr 6 XB}{LM:Nat→Option Loop}
def OF(o:Bool)(s:SV):Prop:=(o=false→Old s)∧(o=true→Fresh s)
def OFL(o:Bool)(s:List SV):Prop:=(o=false→OldL s)∧(o=true→FreshL s)
theorem zB{o:Bool}{cl:SV→Option SV}(hcl:∀s s',cl s=some s'→Sub H s' s∧OF o s'):∀{l l':List SV},gp cl l=some l'→SubL H l' l∧OFL o l'∧l'.length=l.length∧∀i,i<l.length→Sub H (l'.getD i .top) (l.getD i .top)∧OF o (l'.getD i .top)
 |[],l',h=>by
  cases h;exact⟨by simp[SubL],⟨fun _=>by simp[OldL],fun _=>by simp[FreshL]⟩,rfl,fun i hi=>by simp at hi⟩
 |a :: l,l',h=>by
  have h:(match cl a,gp cl l with
   |some b,some m=>some (b :: m)
   |_,_=>none)=some l':=h
  split at h
  ·rename_i b m hb hm
   cases h;obtain⟨h1,h2⟩:=hcl _ _ hb;obtain⟨g1,g2,g3,g4⟩:=zB hcl hm;refine⟨by simp only[SubL];exact⟨h1,g1⟩,⟨fun e=>by simp only[OldL];exact⟨h2.1 e,g2.1 e⟩,fun e=>by simp only[FreshL];exact⟨h2.2 e,g2.2 e⟩⟩,by simp[g3],fun i hi=>?_⟩;cases i with
   |zero=>exact⟨h1,h2⟩
   |succ i=>exact g4 i Ω8
  ·cases h
theorem VK{o full:Bool}{n k:Nat}{l:List SV}(h:∀i,i<n*k→OF o (l.getD i .top)):OF o (.arr o full n k (qnw k l)):=
 ⟨fun e=>by simp only[Old];exact⟨e,fun i j hi hj=>(h _ (kQ hi hj)).1 e⟩,fun e=>by simp only[Fresh];exact⟨e,fun i j hi hj=>(h _ (kQ hi hj)).2 e⟩⟩
theorem qgU{o:Bool}{n:Nat}{l:List SV}(h:∀i,i<n→OF o (l.getD i .top)):OF o (.ref o n (fun j=>l.getD j .top)):=
 ⟨fun e=>by simp only[Old];exact⟨e,fun j hj=>(h _ hj).1 e⟩,fun e=>by simp only[Fresh];exact⟨e,fun j hj=>(h _ hj).2 e⟩⟩
theorem Yf{a b:Bool}{α:Type}{x:Option α}{y:α}(h:(Bool.rec none x (a&&b):Option α)=some y):a=true∧b=true∧x=some y:=by
 cases a<;>cases b<;>first|exact⟨rfl,rfl,h⟩|cases h
theorem Gn{a:Bool}{α:Type}{x:Option α}{y:α}(h:(Bool.rec none x a:Option α)=some y):a=true∧x=some y:=by
 cases a<;>first|exact⟨rfl,h⟩|cases h
theorem vd{l:List SV}{m i:Nat}(h:i<m):(l.take m).getD i .top=l.getD i .top:=by
 rw[xc6,xc6,List.getElem?_take,if_pos h]
theorem Zr{l:List SV}{m i:Nat}:(l.drop m).getD i .top=l.getD (m+i) .top:=by
 rw[xc6,xc6,List.getElem?_drop]
theorem Zs(hH:HRel LM hp H)(o:Bool):∀(n:Nat)(s s':SV),yZ o hp n s=some s'→Sub H s' s∧OF o s'
 |0,s,s',h=>by
  have h:some SV.top=some s':=h;cases h;exact⟨by simp[Sub],⟨fun _=>by simp[Old],fun _=>by simp[Fresh]⟩⟩
 |m+1,s,s',h0=>by
  have h:qaP o hp (yZ o hp m) s=some s':=h0;clear h0;have ih:=Zs hH o m;unfold qaP at h;split at h
  ·cases h;exact⟨by simp[Sub],⟨fun _=>by simp[Old],fun _=>by simp[Fresh]⟩⟩
  ·unfold qjw at h
   split at h
   ·rename_i l' hl
    cases h;obtain⟨h1,h2,_⟩:=zB ih hl;exact⟨by simp only[Sub];exact h1,⟨fun e=>by simp only[Old];exact h2.1 e,fun e=>by simp only[Fresh];exact h2.2 e⟩⟩
   ·cases h
  ·unfold qjw at h
   split at h
   ·rename_i l' hl
    cases h;obtain⟨h1,h2,_⟩:=zB ih hl;exact⟨by simp only[Sub];exact h1,⟨fun e=>by simp only[Old];exact h2.1 e,fun e=>by simp only[Fresh];exact h2.2 e⟩⟩
   ·cases h
  ·unfold fnO at h
   split at h
   ·rename_i a' b' ha hb
    cases h;obtain⟨h1,h2,_⟩:=zB ih ha;obtain⟨g1,g2,_⟩:=zB ih hb;exact⟨by simp only[Sub];exact⟨trivial,h1,g1⟩,⟨fun e=>by simp only[Old];exact⟨h2.1 e,g2.1 e⟩,fun e=>by simp only[Fresh];exact⟨h2.2 e,g2.2 e⟩⟩⟩
   ·cases h
  ·split at h
   ·rename_i id n k _ _ k' n' l hb
    obtain⟨q1,q2,p⟩:=Yf h;clear h;have q1:=xa7 q1;have q2:=xa6 q2;subst q2;unfold Ye at p;split at p
    ·rename_i l' hl
     cases p;obtain⟨_,_,h3,h4⟩:=zB ih hl;obtain⟨row,hb,hr⟩:=hH.rows hb;have hlen:(l.take (n*k)).length=n*k:=(hr.take q1).1;refine⟨?_,VK fun i hi=>(h4 i Ω).2⟩;simp only[Sub,hb];refine⟨trivial,trivial,trivial,q1,trivial,fun i j hi hj=>?_⟩;have:=(h4 (i*k+j) (by rw[hlen];exact kQ hi hj)).1;rw[vd (kQ hi hj)]at this;rw[hr.2 i j Ω hj];exact this
    ·cases p
   ·cases h
  ·split at h
   ·rename_i id n k _ _ k' n' l hb
    obtain⟨q1,q2,p⟩:=Yf h;clear h;have q1:=xa7 q1;have q2:=xa6 q2;subst q2;unfold Ye at p;split at p
    ·rename_i l' hl
     cases p;obtain⟨_,_,h3,h4⟩:=zB ih hl;obtain⟨row,hb,hr⟩:=hH.rows hb;have hlen:(l.take (n*k)).length=n*k:=(hr.take q1).1;refine⟨?_,VK fun i hi=>(h4 i Ω).2⟩;simp only[Sub,hb];refine⟨trivial,trivial,q1,trivial,fun i j hi hj=>?_⟩;have:=(h4 (i*k+j) (by rw[hlen];exact kQ hi hj)).1;rw[vd (kQ hi hj)]at this;rw[hr.2 i j Ω hj];exact this
    ·cases p
   ·cases h
  ·split at h
   ·rename_i id off n k _ _ l hb
    obtain⟨q1,p⟩:=Gn h;clear h;have q1:=xa7 q1;unfold Ye at p;split at p
    ·rename_i l' hl
     cases p;obtain⟨_,_,h3,h4⟩:=zB ih hl;have hlen:((l.drop off).take (n*k)).length=n*k:=by rw[xd9,List.length_drop];omega
     refine⟨?_,VK fun i hi=>(h4 i Ω).2⟩;simp only[Sub,hH.cells hb];refine⟨trivial,trivial,trivial,q1,fun i j hi hj=>?_⟩;have:=(h4 (i*k+j) (by rw[hlen];exact kQ hi hj)).1;rw[vd (kQ hi hj),Zr]at this;exact this
    ·cases p
   ·cases h
  ·split at h
   ·rename_i id off _ _ l hb
    unfold qjx at h;split at h
    ·rename_i l' hl
     cases h;obtain⟨_,_,h3,h4⟩:=zB ih hl;have hlen:(l.drop off).length=l.length - off:=List.length_drop;refine⟨?_,qgU fun i hi=>(h4 i Ω).2⟩;simp only[Sub,hH.cells hb];intro j hj;have:=(h4 j Ω).1;rw[Zr]at this;exact⟨this,Ω⟩
    ·cases h
   ·cases h
  ·rename_i o' full n k row
   obtain⟨q1,p⟩:=Gn h;clear h;unfold Ye at p;split at p
   ·rename_i l' hl
    cases p;obtain⟨_,_,h3,h4⟩:=zB ih hl;have hr:=gW row k n;refine⟨?_,VK fun i hi=>(h4 i (by rw[hr.1];exact hi)).2⟩;simp only[Sub];refine⟨fun e=>by rw[e]at q1;exact q1,id,trivial,trivial,fun i j hi hj=>?_⟩;have:=(h4 (i*k+j) (by rw[hr.1];exact kQ hi hj)).1;rw[hr.2 i j hi hj];exact this
   ·cases p
  ·rename_i o' n row
   obtain⟨q1,p⟩:=Gn h;clear h;unfold qjx at p;split at p
   ·rename_i l' hl
    cases p;obtain⟨_,_,h3,h4⟩:=zB ih hl;refine⟨?_,qgU fun i hi=>(h4 i (by rw[gz];exact hi)).2⟩;simp only[Sub];refine⟨fun e=>by rw[e]at q1;exact q1,xa5 _,fun j hj=>?_⟩;have:=(h4 j (by rw[gz];exact hj)).1;have e2:(sel row 0 n).getD j .top=row j:=by rw[xc6,wN,if_pos hj,xb0];rfl
    rw[e2]at this;exact this
   ·cases p
  ·cases h
   exact⟨by simp[Sub],⟨fun _=>by simp[Old],fun _=>by simp[Fresh]⟩⟩
def qaQ(fr:SV→Bool)(s:SV):Bool:=
 match s with
 |.val _=>true
 |.agg l=>l.all fr
 |.tup l=>l.all fr
 |.fn _ a b=>a.all fr&&b.all fr
 |.arr true _ n k row=>(vW row k n).all fr
 |.ref true n row=>(sel row 0 n).all fr
 |_=>false
def Gp(n:Nat):SV→Bool:=Nat.rec (fun _=>false) (fun _ ih=>qaQ ih) n
theorem ve{fr:SV→Bool}(hfr:∀s,fr s=true→Fresh s):∀{l:List SV},l.all fr=true→FreshL l
 |[],_=>by simp[FreshL]
 |a :: l,h=>by
  rw[List.all_cons,xe6]at h;simp only[FreshL];exact⟨hfr a h.1,ve hfr h.2⟩
theorem yf:∀(n:Nat)(s:SV),Gp n s=true→Fresh s
 |0,s,h=>by cases h
 |m+1,s,h0=>by
  have h:qaQ (Gp m) s=true:=h0;clear h0;have ih:=yf m;unfold qaQ at h;split at h
  ·simp[Fresh]
  ·simp only[Fresh];exact ve ih h
  ·simp only[Fresh];exact ve ih h
  ·rw[xe6]at h
   simp only[Fresh];exact⟨ve ih h.1,ve ih h.2⟩
  ·rename_i n k row
   have hr:=gW row k n;simp only[Fresh];refine⟨trivial,fun i j hi hj=>ih _ ?_⟩;rw[hr.2 i j hi hj,xc6];have hlt:i*k+j<(vW row k n).length:=by rw[hr.1];exact kQ hi hj
   rw[xc7 hlt];exact List.all_eq_true.1 h _ (List.getElem_mem hlt)
  ·rename_i n row
   simp only[Fresh];refine⟨trivial,fun j hj=>ih _ ?_⟩;have hlt:j<(sel row 0 n).length:=by rw[gz];exact hj
   have e:(sel row 0 n)[j]? = some (row j):=by rw[wN,if_pos hj,xb0]
   exact List.all_eq_true.1 h _ (List.mem_of_getElem? e)
  ·cases h
def qcu(u v:Value):Bool:=
 match u with
 |.int k a=>(match v with|.int k' b=>eqKind k k'&&GW a b|_=>false)
 |.pointer none=>(match v with|.pointer none=>true|_=>false)
 |.slice none 0 0=>(match v with|.slice none 0 0=>true|_=>false)
 |.nilFunc=>(match v with|.nilFunc=>true|_=>false)
 |u=>eqK u v
theorem Yg{u v:Value}(h:qcu u v=true):u=v:=by
 unfold qcu at h;split at h
 ·split at h
  ·rw[xe6,w9,decide_eq_true_eq]at h
   rw[jV h.1,h.2]
  ·cases h
 ·split at h<;>first|rfl|cases h
 ·split at h<;>first|rfl|cases h
 ·split at h<;>first|rfl|cases h
 ·exact zw h
def mtL(m:SV→SV→Bool)(l:List SV):List SV→Bool:=List.rec (motive:=fun _=>List SV→Bool) (fun l'=>List.rec true (fun _ _ _=>false) l') (fun a _ ih l'=>List.rec false (fun b l' _=>Bool.rec false (ih l') (m a b)) l') l
def mtR(m:SV→SV→Bool)(hp:Tr 6 XB)(o:Bool)(n k:Nat)(row:Nat→Nat→SV)(x:SV):Bool:=
 match x with
 |.vec id n1 k1=>(match hp.find id with
  |some (.rows _ k' n' l)=>Nat.beq n n1&&(Nat.beq k k1&&(Nat.beq k1 k'&&(Nat.ble n n'&&mtL m (vW row k n) (l.take (n*k)))))
  |_=>false)
 |.asl id off n1 k1=>(match hp.find id with
  |some (.cells _ l)=>Nat.beq n n1&&(Nat.beq k k1&&(Nat.ble (off+n*k) l.length&&mtL m (vW row k n) ((l.drop off).take (n*k))))
  |_=>false)
 |.arr o' _ n1 k1 row1=>Nat.beq n n1&&(Nat.beq k k1&&((Bool.rec true o' o:Bool)&&mtL m (vW row k n) (vW row1 k n)))
 |_=>false
def mtS(m:SV→SV→Bool)(hp:Tr 6 XB)(p x:SV):Bool:=
 match p with
 |.top=>true
 |.val u=>(match x with|.val v=>qcu u v|_=>false)
 |.agg l=>(match x with|.agg l'=>mtL m l l'|_=>false)
 |.tup l=>(match x with|.tup l'=>mtL m l l'|_=>false)
 |.arr o false n k row=>mtR m hp o n k row x
 |_=>false
def mtX(hp:Tr 6 XB)(n:Nat):SV→SV→Bool:=Nat.rec (fun _ _=>false) (fun _ ih=>mtS ih hp) n
theorem Qa{m:SV→SV→Bool}(hm:∀p x,m p x=true→Sub H p x):∀{l l':List SV},mtL m l l'=true→SubL H l l'∧l.length=l'.length∧∀i,i<l.length→Sub H (l.getD i .top) (l'.getD i .top)
 |[],[],_=>⟨by simp[SubL],rfl,fun i hi=>by simp at hi⟩
 |[],b :: l',h=>by cases h
 |a :: l,[],h=>by cases h
 |a :: l,b :: l',h=>by
  have h:(Bool.rec false (mtL m l l') (m a b):Bool)=true:=h;cases q:m a b with
  |false=>rw[q]at h;cases h
  |true=>
   rw[q]at h;obtain⟨h1,h2,h3⟩:=Qa hm h;refine⟨by simp only[SubL];exact⟨hm _ _ q,h1⟩,by simp[h2],fun i hi=>?_⟩;cases i with
   |zero=>exact hm _ _ q
   |succ i=>exact h3 i Ω8
theorem qaR(hH:HRel LM hp H):∀(n:Nat)(p x:SV),mtX hp n p x=true→Sub H p x
 |0,p,x,h=>by cases h
 |n+1,p,x,h0=>by
  have h:mtS (mtX hp n) hp p x=true:=h0;clear h0;have ih:=qaR hH n;unfold mtS at h;split at h
  ·simp[Sub]
  ·split at h
   ·rw[Yg h];simp[Sub]
   ·cases h
  ·split at h
   ·simp only[Sub];exact(Qa ih h).1
   ·cases h
  ·split at h
   ·simp only[Sub];exact(Qa ih h).1
   ·cases h
  ·rename_i o n0 k row
   have hr0:=gW row k n0;have pr:∀i j,i<n0→j<k→(vW row k n0).getD (i*k+j) .top=row i j:=fun i j hi hj=>(hr0.2 i j hi hj).symm;have hln:∀i j,i<n0→j<k→i*k+j<(vW row k n0).length:=fun i j hi hj=>by rw[hr0.1];exact kQ hi hj
   unfold mtR at h;split at h
   ·split at h
    ·rename_i id n1 k1 _ _ k' n' l hb
     simp only[xe6,Nat.beq_eq,Nat.ble_eq]at h;obtain⟨rfl,rfl,rfl,h4,h5⟩:=h;obtain⟨row',hb,hr⟩:=hH.rows hb;obtain⟨_,_,h7⟩:=Qa ih h5;simp only[Sub,hb];refine⟨trivial,trivial,trivial,h4,trivial,fun i j hi hj=>?_⟩;have:=h7 (i*k+j) (hln i j hi hj);rw[pr i j hi hj,vd (kQ hi hj)]at this;rw[hr.2 i j Ω hj];exact this
    ·cases h
   ·split at h
    ·rename_i id off n1 k1 _ _ l hb
     simp only[xe6,Nat.beq_eq,Nat.ble_eq]at h;obtain⟨rfl,rfl,h4,h5⟩:=h;obtain⟨_,_,h7⟩:=Qa ih h5;simp only[Sub,hH.cells hb];refine⟨trivial,trivial,trivial,h4,fun i j hi hj=>?_⟩;have:=h7 (i*k+j) (hln i j hi hj);rw[pr i j hi hj,vd (kQ hi hj),Zr]at this;exact this
    ·cases h
   ·rename_i o' full n1 k1 row1
    simp only[xe6,Nat.beq_eq]at h;obtain⟨rfl,rfl,h4,h5⟩:=h;obtain⟨_,_,h7⟩:=Qa ih h5;have hr1:=gW row1 k n0;simp only[Sub];refine⟨fun e=>(by rw[e]at h4;exact h4),fun e=>(by cases e),trivial,trivial,fun i j hi hj=>?_⟩;have:=h7 (i*k+j) (hln i j hi hj);rw[pr i j hi hj,←hr1.2 i j hi hj]at this;exact this
   ·cases h
  ·cases h
def JC{α:Type}(hp:Tr 6 XB)(args:List SV)(l:List (List SV×α)):Option α:=List.rec none (fun p _ ih=>Bool.rec ih (some p.2) (mtL (mtX hp 5) p.1 args)) l
theorem wH{α:Type}(hH:HRel LM hp H){args:List SV}:∀{l:List (List SV×α)}{s:α},JC hp args l=some s→∃qq_,(qq_,s)∈l∧SubL H qq_ args
 |[],s,h=>by cases h
 |p :: l,s,h=>by
  have h:(Bool.rec (JC hp args l) (some p.2) (mtL (mtX hp 5) p.1 args):Option α)=some s:=h;cases q:mtL (mtX hp 5) p.1 args with
  |false=>
   rw[q]at h;obtain⟨qq_,h1,h2⟩:=wH hH h;exact⟨qq_,List.mem_cons_of_mem _ h1,h2⟩
  |true=>
   rw[q]at h;have h:some p.2=some s:=h;cases h;exact⟨p.1,xd5,(Qa (qaR hH 5) q).1⟩
end
end
end Go.Sx
end
section
namespace Go.Sx
open Go.RowKit
noncomputable section
variable{ρ:Q}
abbrev XK:=Ex→Tr 3 SV→Tr 6 XB→Nat→R
inductive CX:Type
 |top
 |rnd
 |gen (y:Nat) (L:List (Nat×List (Nat×Nat))) (fr:Tr 3 SV) (ps:List Tmp) (a b:Code)
abbrev FL:=List (Nat×List (Nat×Nat))
abbrev XC:=FL→CX→Code→Tr 3 SV→Tr 6 XB→Nat→XK→R
section
variable{P:Program}{E:XE}{LM:Nat→Option Loop}
def StR(LM:Nat→Option Loop)(fr:Tr 3 SV)(hp:Tr 6 XB)(nid:Nat)(st:St):Prop:=FRel fr st.fr∧HRel LM hp st.hp∧st.nid=nid
def putD(d:Option Tmp)(s:SV)(fr:Tr 3 SV)(g:Tr 3 SV→R):R:=
 match d with
 |none=>g fr
 |some d=>qW (some s) 12 fr d g
theorem FRel.put{fr fr':Tr 3 SV}{F:List (Nat×SV)}{d:Nat}{s:SV}(h:FRel fr F)(hp:qgi fr fr' d (some s)):FRel fr' (putFr F d s):=fun t=>by
 rw[zb];unfold qu;rw[hp t];by_cases c:t=d
 ·rw[if_pos c,if_pos c]
 ·rw[if_neg c,if_neg c];exact h t
theorem kC{d:Option Tmp}{s:SV}{fr:Tr 3 SV}{g:Tr 3 SV→R}(h:putD d s fr g=.ok ρ){hp:Tr 6 XB}{nid:Nat}{st:St}(hs:StR LM fr hp nid st):∃fr',StR LM fr' hp nid (st.put d s)∧g fr'=.ok ρ:=by
 unfold putD at h;cases d with
 |none=>exact⟨fr,hs,h⟩
 |some d=>
  obtain⟨fr',h1,h2⟩:=qz _ _ _ _ h;exact⟨fr',⟨hs.1.put h1,hs.2.1,hs.2.2⟩,h2⟩
theorem HRel.cons{hp hp':Tr 6 XB}{H:List (Nat×Blk)}(h:HRel LM hp H){id:Nat}{b:XB}{b':Blk}(hb:BRel (LM id) b b')(hp:qgi hp hp' id (some b)):HRel LM hp' ((id,b') :: H):=fun j x hj=>by
 rw[hp j]at hj;by_cases c:j=id
 ·rw[if_pos c]at hj;cases hj;exact⟨b',by simp only[blk];rw[if_pos c],c▸hb⟩
 ·rw[if_neg c]at hj;simp only[blk];rw[if_neg c];exact h j x hj
theorem HRel.set{hp hp':Tr 6 XB}{H:List (Nat×Blk)}(h:HRel LM hp H){id:Nat}{b y:XB}{b':Blk}(hb:BRel (LM id) b b')(hy:hp.find id=some y)(hp:qgi hp hp' id (some b)):HRel LM hp' (setBlk H id b'):=fun j x hj=>by
 rw[hp j]at hj;rw[qp];by_cases c:j=id
 ·rw[if_pos c]at hj;cases hj
  obtain⟨z,hz,_⟩:=h id y hy;rw[if_pos c,hz];exact⟨b',rfl,c▸hb⟩
 ·rw[if_neg c]at hj;rw[if_neg c];exact h j x hj
theorem HRel.drop{hp hp':Tr 6 XB}{H:List (Nat×Blk)}(h:HRel LM hp H){id:Nat}(hp:qgi hp hp' id none):HRel LM hp' (dropBlk H id):=fun j x hj=>by
 rw[hp j]at hj;rw[qv];by_cases c:j=id
 ·rw[if_pos c]at hj;cases hj
 ·rw[if_neg c]at hj;rw[if_neg c];exact h j x hj
structure qgV(P:Program)(g:Nat)(fn:Func)(L:FL)(c:Code):Prop where
 at_:P.funcs[g]? = some fn
 body:fn.body=some c
 name : (fn.name == "runtime.NumGoroutine") = false
 ok:qD (zJ L) fn.ntmps c=true
def VL(l:List SV):Nat→Tr 3 SV→(Tr 3 SV→R)→R:=
 List.rec (motive:=fun _=>Nat→Tr 3 SV→(Tr 3 SV→R)→R) (fun _ t g=>g t) (fun a _ ih i t g=>qW (some a) 12 t i fun t=>qk (Nat.succ i) fun i=>ih i t g) l
theorem qcv:∀(l:List SV)(i:Nat)(t:Tr 3 SV)(g:Tr 3 SV→R),VL l i t g=.ok ρ→∃t',(∀j,qu t' j=if j<i then qu t j else if j<i+l.length then l.getD (j - i) .top else qu t j)∧g t'=.ok ρ
 |[],i,t,g,h=>⟨t,fun j=>by
   by_cases c:j<i
   ·rw[if_pos c]
   ·rw[if_neg c,if_neg (by simpa using c)],h⟩
 |a :: l,i,t,g,h=>by
  have h:qW (some a) 12 t i (fun t=>qk (Nat.succ i) fun i=>VL l i t g)=.ok ρ:=h;obtain⟨t1,h1,h⟩:=qz _ _ _ _ h;rw[qi]at h;obtain⟨t2,h2,h⟩:=qcv l _ _ _ h;refine⟨t2,fun j=>?_,h⟩;rw[h2 j];have e1:qu t1 j=if j=i then a else qu t j:=by
   unfold qu;rw[h1 j];by_cases c:j=i
   ·rw[if_pos c,if_pos c]
   ·rw[if_neg c,if_neg c]
  rw[e1];by_cases c:j<i
  ·rw[if_pos Ω,if_neg Ω,if_pos c]
  ·rw[if_neg c]
   by_cases d:j=i
   ·rw[if_pos Ω,if_pos d,if_pos Ωl,d,xb8];rfl
   ·rw[if_neg Ω,if_neg d]
    by_cases e:j<i+(a :: l).length
    ·rw[if_pos e,if_pos (by simp at e ⊢;omega),show j - i=j -(i+1)+1 by omega];rfl
    ·rw[if_neg e,if_neg (by simp at e ⊢;omega)]
theorem yg{l:List SV}{g:Tr 3 SV→R}(h:VL l 0 .nil g=.ok ρ):∃t',FRel t' (argFr 0 l)∧g t'=.ok ρ:=by
 obtain⟨t',h1,h2⟩:=qcv l 0 .nil g h;refine⟨t',fun j=>?_,h2⟩;rw[h1 j,KU,if_neg (Nat.not_lt_zero j),if_neg (Nat.not_lt_zero j),Nat.sub_zero];by_cases c:j<0+l.length
 ·rw[if_pos c]
 ·rw[if_neg c,xc6,List.getElem?_eq_none Ω];unfold qu;rw[Qw];rfl
def qjy(E:XE)(fr:Tr 3 SV)(hp:Tr 6 XB)(rv:ResultVar)(g:SV→R):R:=
 match rv with
 |.tmp t=>g (qu fr t)
 |.cell t ty=>WT E hp ty (qu fr t) fun x=>(match x with|.pure s=>g s|_=>.bad 300 0)
def wJ(E:XE)(fr:Tr 3 SV)(hp:Tr 6 XB)(l:List ResultVar):(List SV→R)→R:=
 List.rec (motive:=fun _=>(List SV→R)→R) (fun g=>g []) (fun rv _ ih g=>qjy E fr hp rv fun s=>svK s fun s=>ih fun m=>g (s :: m)) l
theorem qjz(hE:XOk P E){fr:Tr 3 SV}{hp:Tr 6 XB}{nid:Nat}{st:St}(hs:StR LM fr hp nid st){rv:ResultVar}{g:SV→R}{K:SV→Prop}(h:qjy E fr hp rv g=.ok ρ)(hk:∀s,g s=.ok ρ→K s):resultVC P rv st K:=by
 unfold qjy at h;split at h
 ·show K (look st.fr _)
  rw[hs.1];exact hk _ h
 ·rename_i t ty
  show match rLoad (qn P ty) st.hp (look st.fr t)with
   |.pure obl sv=>obl∧K sv
   |.ex obl=>∃sv,obl sv∧K sv
   |_=>False
  rw[hs.1];obtain⟨x,h1,h2⟩:=WU (id:=0) hE hs.2.1 h;cases x<;>simp only[reduceCtorEq]at h2
  rename_i s;rcases h1 with⟨obl,e,ho⟩|⟨obl,e,ho⟩
  ·rw[e];exact⟨ho,hk s h2⟩
  ·rw[e];exact⟨s,ho,hk s h2⟩
theorem yh(hE:XOk P E){fr:Tr 3 SV}{hp:Tr 6 XB}{nid:Nat}{st:St}(hs:StR LM fr hp nid st):∀{l:List ResultVar}{g:List SV→R}{K:List SV→Prop},wJ E fr hp l g=.ok ρ→(∀m,g m=.ok ρ→K m)→resultsVC P l st K
 |[],g,K,h,hk=>hk [] h
 |rv :: l,g,K,h,hk=>by
  have h:qjy E fr hp rv (fun s=>svK s fun s=>wJ E fr hp l fun m=>g (s :: m))=.ok ρ:=h;refine qjz hE hs h fun s h=>?_;rw[yS]at h;exact yh hE hs h fun m h=>hk _ h
theorem Qb {O : Ctx} (far : Nat → List (Nat × Nat)) (hm : P.follows .mixedOrders = true) {f : FuncId} {fn : Func} {c : Code} (hf : P.funcs[f]? = some fn) (hb : fn.body = some c) (hname : (fn.name == "runtime.NumGoroutine") = false) (hok : qD far fn.ntmps c = true) {args : List SV} (hlen : args.length ≤ fn.ntmps) {st : St} {K : St → SV → Prop}
  (h:∀out:List Fr,vc P ⟨out,st.nid,false,far⟩ c ⟨argFr 0 args,st.hp,st.nid⟩ (fun e st'=>match e with|.exit _=>False|_=>resultsVC P fn.results.toList st' (fun m=>K ⟨st.fr,st'.hp,st'.nid⟩ (oneSV m)))):kK P O f args st K:=by
 intro base okc ns r outs a w vs h0 hl ha;refine⟨vz hf hb hname vs w,?_⟩;refine gU hm hf hb hok (O:=⟨⟨st.fr,none,ns,st.nid⟩ :: O.fs,st.nid,false,far⟩) (outs:=⟨a :: outs.as,r⟩) (base:=base) (okc:=okc) (st0:=⟨argFr 0 args,st.hp,st.nid⟩) rfl (Post:=fun st' m=>K ⟨st.fr,st'.hp,st'.nid⟩ (oneSV m))
  ⟨r,h0.pushF far none (fun _ h=>by cases h) false (ZZ hl Ω ha) Ωl rfl⟩ (h _) fun st' r' a' w' m us hP hi hml hreps=>?_
 exact⟨_,⟨st.fr,st'.hp,st'.nid⟩,r',oneSV m,rfl,hP,hi.lo,hi.popF h0,wY hml hreps⟩
def vT(P:Program)(E:XE):Prop:=∀g fn L,E.fns g=some (fn,L)→∃c,qgV P g fn L c
def qeq(LM:Nat→Option Loop)(fs:List Fr)(rnd:Bool):CX→Prop
 |.top=>rnd=false
 |.rnd=>rnd=true
 |.gen y L0 fr ps a b=>rnd=false∧∃L F,LM y=some L∧FRel fr F∧K3 (zJ L0) fs L F ps a b
def jP(P:Program)(run:XC):Prop:=∀(ρ:Q)(LM:Nat→Option Loop)(fs:List Fr)(lo:Nat)(rnd:Bool)(L:FL)(cx:CX)(c:Code)(st:St)(fr:Tr 3 SV)(hp:Tr 6 XB)(nid:Nat)(f:XK)(K:Ex→St→Prop),qeq LM fs rnd cx→StR LM fr hp nid st→run L cx c fr hp nid f=.ok ρ→
 (∀e fr' hp' nid' st',StR LM fr' hp' nid' st'→f e fr' hp' nid'=.ok ρ→K e st')→vc P ⟨fs,lo,rnd,zJ L⟩ c st K
def qox(E:XE)(rs:List ResultVar)(d:Option Tmp)(fr:Tr 3 SV)(g:Tr 3 SV→Tr 6 XB→Nat→R):XK
 |.exit _,_,_,_=>.bad 301 0
 |.normal,fr3,hp3,nid3=>wJ E fr3 hp3 rs fun m=>svK (oneSV m) fun s=>putD d s fr fun fr=>g fr hp3 nid3
 |.ret,fr3,hp3,nid3=>wJ E fr3 hp3 rs fun m=>svK (oneSV m) fun s=>putD d s fr fun fr=>g fr hp3 nid3
def qgW(E:XE)(run:XC)(fn:Func)(L:FL)(d:Option Tmp)(args:List SV)(fr:Tr 3 SV)(hp:Tr 6 XB)(id:Nat)(g:Tr 3 SV→Tr 6 XB→Nat→R):R:=
 match fn.body with
 |some c=>qj 302 (Nat.ble args.length fn.ntmps) (VL args 0 .nil fun fr2=>run L .top c fr2 hp id (qox E fn.results.toList d fr g))
 |none=>.bad 303 0
def qaS(ps:List Tmp):List SV→Tr 3 SV→(Tr 3 SV→R)→R:=
 List.rec (motive:=fun _=>List SV→Tr 3 SV→(Tr 3 SV→R)→R) (fun _ t g=>g t) (fun p _ ih qq_ t g=>match qq_ with
  |[]=>.bad 340 0
  |a :: qq_=>qW (some a) 12 t p fun t=>ih qq_ t g) ps
theorem JD:∀{ps:List Tmp}{qq_:List SV}{t:Tr 3 SV}{F:List (Nat×SV)}{g:Tr 3 SV→R},FRel t F→qaS ps qq_ t g=.ok ρ→∃t',FRel t' (putPs F ps qq_)∧g t'=.ok ρ
 |[],qq_,t,F,g,hF,h=>⟨t,(by cases qq_<;>exact hF),h⟩
 |p :: ps,[],t,F,g,hF,h=>by cases h
 |p :: ps,a :: qq_,t,F,g,hF,h=>by
  have h:qW (some a) 12 t p (fun t=>qaS ps qq_ t g)=.ok ρ:=h;obtain⟨t1,h1,h⟩:=qz _ _ _ _ h;exact JD (ps:=ps) (qq_:=qq_) (hF.put h1) h
def qlb(y:Nat)(d:Option Tmp)(fr:Tr 3 SV)(g:Tr 3 SV→Tr 6 XB→Nat→R)(e:Ex)(hp:Tr 6 XB)(nid:Nat):R:=
 match hp.find y with
 |some (.loop .busy)=>(match e with
  |.normal=>qW (some (.loop .ready)) 22 hp y fun hp=>putD d (.val (.bool true)) fr fun fr=>g fr hp nid
  |.ret=>qW (some (.loop .retd)) 22 hp y fun hp=>putD d (.val (.bool false)) fr fun fr=>g fr hp nid
  |.exit i=>qW (some (.loop (.left i))) 22 hp y fun hp=>putD d (.val (.bool false)) fr fun fr=>g fr hp nid)
 |_=>.bad 341 0
def qlc(run:XC)(L:FL)(y:Nat)(b:Code)(d:Option Tmp)(fr:Tr 3 SV)(g:Tr 3 SV→Tr 6 XB→Nat→R):XK
 |.normal,fr1,hp1,nid1=>(match hp1.find y with
  |some (.loop .ready)=>qW (some (.loop .busy)) 22 hp1 y fun hp2=>run L .rnd b fr1 hp2 nid1 fun e _ hp nid=>qlb y d fr g e hp nid
  |_=>.bad 342 0)
 |_,_,_,_=>.bad 343 0
def qaT(run:XC)(cx:CX)(d:Option Tmp)(y:Nat)(args:List SV)(fr:Tr 3 SV)(hp:Tr 6 XB)(id:Nat)(g:Tr 3 SV→Tr 6 XB→Nat→R):R:=
 match cx with
 |.gen y0 L fr0 ps a b=>qj 344 (Nat.beq y y0) (qj 345 (Nat.beq args.length ps.length) (match hp.find y with
  |some (.loop .ready)=>qaS ps args fr0 fun fr2=>run L .rnd a fr2 hp id (qlc run L y b d fr g)
  |_=>.bad 346 0))
 |_=>.bad 347 0
theorem HRel.loop{hp:Tr 6 XB}{H:List (Nat×Blk)}(h:HRel LM hp H){y:Nat}{s:RSt}{L:Loop}(e:hp.find y=some (.loop s))(hL:LM y=some L):blk H y=some (.loop L s):=by
 obtain⟨b',h1,h2⟩:=h _ _ e;cases b'<;>simp only[BRel]at h2
 obtain⟨rfl,h3⟩:=h2;rw[hL]at h3;cases h3;exact h1
theorem qer(hm:P.follows .mixedOrders=true){run:XC}(hrun:jP P run){fs:List Fr}{lo:Nat}{rnd:Bool}{far:Nat→List (Nat×Nat)}{cx:CX}(hcx:qeq LM fs rnd cx){d:Option Tmp}{y:Nat}{args:List SV}{fr:Tr 3 SV}{hp:Tr 6 XB}{nid id:Nat}{g:Tr 3 SV→Tr 6 XB→Nat→R}{st:St}{K:St→Prop}(hs:StR LM fr hp nid st)(h:qaT run cx d y args fr hp id g=.ok ρ)
  (hk:∀fr' hp' nid' st',StR LM fr' hp' nid' st'→g fr' hp' nid'=.ok ρ→K st'):wU P ⟨fs,lo,rnd,far⟩ y args ⟨st.fr,st.hp,id⟩ fun st' res=>K (st'.put d res):=by
 unfold qaT at h;split at h
 ·rename_i y0 L0 fr0 ps a b
  obtain⟨q1,p1⟩:=qe h;obtain⟨q2,p2⟩:=qe p1;have q1:=xa6 q1;have q2:=xa6 q2;subst q1;obtain⟨_,L,F,hL,hF,hR⟩:=hcx;split at p2
  ·rename_i hb
   obtain⟨fr2,h2,h⟩:=JD hF p2;refine Jq hm hR (hs.2.1.loop hb hL) q2 fun out=>?_;refine hrun ρ LM _ _ _ L0 .rnd a ⟨_,_,_⟩ fr2 hp id _ _ rfl ⟨h2,hs.2.1,rfl⟩ h fun e fr1 hp1 nid1 st1 hs1 h1=>?_;unfold qlc at h1;split at h1
   ·split at h1
    ·rename_i hb1
     have hb1':=hs1.2.1.loop hb1 hL;obtain⟨hp2,p2,h1⟩:=qz _ _ _ _ h1;refine⟨by rw[hb1'];rfl,?_⟩;refine hrun ρ LM _ _ _ L0 .rnd b ⟨_,_,_⟩ _ hp2 _ _ _ rfl ⟨hs1.1,hs1.2.1.set (b:=.loop .busy) (b':=.loop L .busy) ⟨rfl,hL⟩ hb1 p2,hs1.2.2⟩ h1 fun e fr3 hp3 nid3 st3 hs3 h3=>?_;unfold qlb at h3;split at h3
     ·rename_i hb3
      have hb3':=hs3.2.1.loop hb3 hL;refine⟨by rw[hb3'];rfl,?_⟩;have fin:∀(s:RSt)(b:Bool),(qW (some (.loop s)) 22 hp3 y fun hp=>putD d (.val (.bool b)) fr fun fr=>g fr hp nid3)=.ok ρ→K (St.put ⟨st.fr,setBlk st3.hp y (.loop L s),st3.nid⟩ d (.val (.bool b))):=by
       intro s b h;obtain⟨hp4,p4,h⟩:=qz _ _ _ _ h;obtain⟨fr',g1,g2⟩:=kC (LM:=LM) (st:=⟨st.fr,setBlk st3.hp y (.loop L s),st3.nid⟩) h ⟨hs.1,hs3.2.1.set (b:=.loop s) (b':=.loop L s) ⟨rfl,hL⟩ hb3 p4,hs3.2.2⟩;exact hk _ _ _ _ g1 g2
      cases e with
      |normal=>exact fin _ _ h3
      |ret=>exact fin _ _ h3
      |exit i=>exact fin _ _ h3
     ·cases h3
    ·cases h1
   ·cases h1
  ·cases p2
 ·cases h
def qjA(E:XE)(h0:Nat)(rs:List ResultVar):XK
 |.exit _,_,_,_=>.bad 370 0
 |.normal,fr,hp,_=>wJ E fr hp rs fun m=>(match yZ true hp 5 (oneSV m)with|some s=>.ok (.mk s .nil 0)|none=>.bad 371 h0)
 |.ret,fr,hp,_=>wJ E fr hp rs fun m=>(match yZ true hp 5 (oneSV m)with|some s=>.ok (.mk s .nil 0)|none=>.bad 371 h0)
def qld(fr:Tr 3 SV)(hp:Tr 6 XB)(nid:Nat)(d:Option Tmp)(g:Tr 3 SV→Tr 6 XB→Nat→R)(r:R):R:=
 match r with
 |.ok (.mk s _ _)=>qj 373 (Gp 5 s) (putD d s fr fun fr=>g fr hp nid)
 |.bad c i=>.bad c i
def qgX(n:Nat)(i:Sh)(args:List SV)(d:Option Tmp)(fr:Tr 3 SV)(hp:Tr 6 XB)(nid:Nat)(g:Tr 3 SV→Tr 6 XB→Nat→R):R:=
 qj 376 (Nat.beq args.length n) (match i.sv args with
  |some s=>putD d s fr fun fr=>g fr hp nid
  |none=>.bad 377 0)
theorem qgY{h0 n:Nat}{i:Sh}(hp0:Zz P h0 n i){d:Option Tmp}{args:List SV}{fr:Tr 3 SV}{hp:Tr 6 XB}{nid:Nat}{g:Tr 3 SV→Tr 6 XB→Nat→R}{st:St}{K:St→Prop}(hs:StR LM fr hp nid st)(h:qgX n i args d fr hp nid g=.ok ρ)
  (hk:∀fr' hp' nid' st',StR LM fr' hp' nid' st'→g fr' hp' nid'=.ok ρ→K st'):CallVC P st.hp h0 args (fun r=>K (st.put d r)):=by
 unfold qgX at h;obtain⟨q,p⟩:=qe h;have q:=xa6 q;split at p
 ·rename_i s ha
  obtain⟨fr',k1,k2⟩:=kC p hs;exact⟨s,.inr ⟨i,by rw[q];exact hp0,ha⟩,hk _ _ _ _ k1 k2⟩
 ·cases p
def qgZ(E:XE)(run:XC)(h0:Nat)(fn:Func)(L:FL)(d:Option Tmp)(qq_:Option (List SV))(fr:Tr 3 SV)(hp:Tr 6 XB)(nid:Nat)(g:Tr 3 SV→Tr 6 XB→Nat→R):R:=
 match fn.body,qq_ with
 |some c,some qq_=>qj 374 (Nat.ble qq_.length fn.ntmps) (qld fr hp nid d g (VL qq_ 0 .nil fun fr2=>run L .top c fr2 .nil 0 (qjA E h0 fn.results.toList)))
 |_,_=>.bad 375 h0
theorem qha(hm:P.follows .mixedOrders=true)(hE:XOk P E){run:XC}(hrun:jP P run){h0:Nat}{fn:Func}{L:FL}{c:Code}(hc:qgV P h0 fn L c){d:Option Tmp}{args:List SV}{fr:Tr 3 SV}{hp:Tr 6 XB}{nid:Nat}{g:Tr 3 SV→Tr 6 XB→Nat→R}{st:St}{K:St→Prop}(hs:StR LM fr hp nid st)(h:qgZ E run h0 fn L d (gp (yZ false hp 5) args) fr hp nid g=.ok ρ)
  (hk:∀fr' hp' nid' st',StR LM fr' hp' nid' st'→g fr' hp' nid'=.ok ρ→K st'):CallVC P st.hp h0 args (fun r=>K (st.put d r)):=by
 unfold qgZ at h;rw[hc.body]at h;split at h
 ·rename_i c' qq_ hb has
  cases hb;obtain⟨q,h⟩:=qe h;obtain⟨g1,g2,_⟩:=zB (Zs hs.2.1 false 5) has;unfold qld at h;split at h
  ·rename_i s hp0 n0 hr
   obtain⟨q2,h⟩:=qe h;obtain⟨fr',k1,k2⟩:=kC h hs;obtain⟨fr2,f1,f2⟩:=yg hr;refine⟨s,.inl ⟨qq_,ji (zJ L) hc.at_ hc.body hc.name hm hc.ok qq_ s (xa7 q) (g2.1 rfl) ?_,.inl ⟨g1,yf 5 s q2⟩⟩,hk _ _ _ _ k1 k2⟩;have key:∀(fr3:Tr 3 SV)(hp3:Tr 6 XB)(nid3:Nat)(st3:St),StR (fun _=>none) fr3 hp3 nid3 st3→wJ E fr3 hp3 fn.results.toList (fun m=>(match yZ true hp3 5 (oneSV m)with|some s=>.ok (.mk s .nil 0)|none=>.bad 371 h0))=.ok (.mk s hp0 n0)→retVC P fn.results.toList st3 s:=fun fr3 hp3 nid3 st3 h3 h=>by
    rw[KW];refine yh hE h3 h fun m h=>?_;split at h
    ·rename_i s' hs'
     cases h;exact(Zs h3.2.1 true 5 _ _ hs').1
    ·cases h
   refine hrun _ (fun _=>none) _ _ _ L .top c _ fr2 .nil 0 _ _ rfl ⟨f1,fun id b hb=>(by rw[Qw]at hb;cases hb),rfl⟩ f2 fun e fr3 hp3 nid3 st3 h3 h=>?_;cases e with
   |exit i=>cases h
   |normal=>exact key _ _ _ _ h3 h
   |ret=>exact key _ _ _ _ h3 h
  ·cases h
 ·cases h
def QU(E:XE)(run:XC)(cx:CX)(j:Bool)(d:Option Tmp)(id:Nat)(xr:XR)(fr:Tr 3 SV)(hp:Tr 6 XB)(nid:Nat)(g:Tr 3 SV→Tr 6 XB→Nat→R):R:=
 match xr with
 |.pure s=>putD d s fr fun fr=>g fr hp nid
 |.new b s=>qW (some b) 22 hp id fun hp=>putD d s fr fun fr=>g fr hp nid
 |.upd i b s=>(match hp.find i with
  |some _=>qW (some b) 22 hp i fun hp=>putD d s fr fun fr=>g fr hp nid
  |none=>.bad 304 0)
 |.grow i b s=>qj 305 (!(Nat.beq i id)) (qW none 22 hp i fun hp=>qW (some b) 22 hp id fun hp=>putD d s fr fun fr=>g fr hp nid)
 |.call h args=>(match E.prj h with
  |some (n,i)=>qgX n i args d fr hp nid g
  |none=>match E.orc h with
  |some f=>qj 306 j (f args hp id fun s hp nid=>putD d s fr fun fr=>g fr hp nid)
  |none=>match JC hp args (E.ctr h)with
  |some s=>qj 309 (Gp 5 s) (putD d s fr fun fr=>g fr hp nid)
  |none=>match JC hp args (E.ctn h)with
  |some (t,k,n,l,s)=>yp l fun l=>qW (some (.rows t k n l)) 22 hp id fun hp=>putD d (setId id s) fr fun fr=>g fr hp nid
  |none=>match E.fns h with
  |some (fn,L)=>Bool.rec (qgZ E run h fn L d (gp (yZ false hp 5) args) fr hp nid g) (qgW E run fn L d args fr hp id g) j
  |none=>.bad 307 h)
 |.yield y args=>qj 308 j (qaT run cx d y args fr hp id g)
theorem qjB(hm:P.follows .mixedOrders=true)(hE:XOk P E)(hf:vT P E){run:XC}(hrun:jP P run){fs:List Fr}{lo:Nat}{rnd:Bool}{far:Nat→List (Nat×Nat)}{cx:CX}(hcx:qeq LM fs rnd cx){j:Bool}{J:Prop}(hj:j=true→J){op:Op}{d:Option Tmp}{id:Nat}{xr:XR}{fr:Tr 3 SV}{hp:Tr 6 XB}{nid:Nat}{g:Tr 3 SV→Tr 6 XB→Nat→R}{st:St}{K:St→Prop}{r:Res}(hs:StR LM fr hp nid st)(hh:Hit xr id r)(h:QU E run cx j d id xr fr hp nid g=.ok ρ)
  (hk:∀fr' hp' nid' st',StR LM fr' hp' nid' st'→g fr' hp' nid'=.ok ρ→K st'):vP P ⟨fs,lo,rnd,far⟩ J op d id st K r:=by
 unfold QU at h;split at h
 ·obtain⟨fr',h1,h2⟩:=kC h hs
  rcases hh with⟨obl,rfl,ho⟩|⟨obl,rfl,ho⟩
  ·exact⟨ho,hk _ _ _ _ h1 h2⟩
  ·exact⟨_,ho,hk _ _ _ _ h1 h2⟩
 ·obtain⟨obl,b',mk,rfl,ho,hb,rfl⟩:=hh
  obtain⟨hp',p1,h⟩:=qz _ _ _ _ h;obtain⟨fr',h1,h2⟩:=kC (st:={ st with hp:=(id,b') :: st.hp }) h ⟨hs.1,hs.2.1.cons hb.any p1,hs.2.2⟩;exact⟨ho,hk _ _ _ _ h1 h2⟩
 ·split at h
  ·rename_i y hy
   obtain⟨hp',p1,h⟩:=qz _ _ _ _ h;rcases hh with⟨obl,b',rfl,ho,hb,rfl⟩|⟨obl,b',rfl,ho,hb⟩
   ·obtain⟨fr',h1,h2⟩:=kC (st:={ st with hp:=setBlk st.hp _ b' }) h ⟨hs.1,hs.2.1.set hb.any hy p1,hs.2.2⟩
    exact⟨ho,hk _ _ _ _ h1 h2⟩
   ·obtain⟨fr',h1,h2⟩:=kC (st:={ st with hp:=setBlk st.hp _ b' }) h ⟨hs.1,hs.2.1.set hb.any hy p1,hs.2.2⟩
    exact⟨ho,hk _ _ _ _ h1 h2⟩
  ·cases h
 ·rename_i i b s
  obtain⟨obl,b',mk,rfl,ho,hb,rfl⟩:=hh;obtain⟨q,h⟩:=qe h;have q:i≠id:=fun e=>by rw[e,Nat.beq_refl]at q;cases q
  obtain⟨hp1,p1,h⟩:=qz _ _ _ _ h;obtain⟨hp2,p2,h⟩:=qz _ _ _ _ h;obtain⟨fr',h1,h2⟩:=kC (st:={ st with hp:=(id,b') :: dropBlk st.hp i }) h ⟨hs.1,(hs.2.1.drop p1).cons hb.any p2,hs.2.2⟩;exact⟨⟨ho,q⟩,hk _ _ _ _ h1 h2⟩
 ·rename_i h0 args
  split at h
  ·rename_i n i hp0
   have hh:r=.call h0 args:=hh;subst hh;exact .inl (qgY (hE.prj _ _ _ hp0) hs h hk)
  split at h
  ·rename_i f hof
   obtain⟨q,h⟩:=qe h;have hh:r=.call h0 args:=hh;subst hh;refine .inr (.inr ⟨hj q,hE.orc _ _ hof ρ LM _ args hp _ ⟨st.fr,st.hp,id⟩ (fun st' res=>K (st'.put d res)) hs.2.1 h fun s hp' nid' H' hH' hk'=>?_⟩);obtain⟨fr',h1,h2⟩:=kC (LM:=LM) (st:=⟨st.fr,H',nid'⟩) hk' ⟨hs.1,hH',rfl⟩;exact hk _ _ _ _ h1 h2
  split at h
  ·rename_i s hcs
   obtain⟨qq_,h1,h2⟩:=wH hs.2.1 hcs;obtain⟨h3,h⟩:=qe h;have hh:r=.call h0 args:=hh;subst hh;obtain⟨fr',g1,g2⟩:=kC h hs;exact .inl ⟨s,.inl ⟨qq_,hE.ctr _ _ _ h1,.inl ⟨h2,yf 5 _ h3⟩⟩,hk _ _ _ _ g1 g2⟩
  split at h
  ·rename_i t k n l s hcs
   obtain⟨qq_,h1,h2⟩:=wH hs.2.1 hcs;obtain⟨row,c1,c2,c3,c4⟩:=hE.ctn _ _ _ _ _ _ _ h1;rw[kd]at h;obtain⟨hp',p1,h⟩:=qz _ _ _ _ h;have hh:r=.call h0 args:=hh;subst hh;obtain⟨fr',g1,g2⟩:=kC (st:={ st with hp:=(id,.rows t k n row) :: st.hp }) h ⟨hs.1,hs.2.1.cons (b:=.rows t k n l) (b':=.rows t k n row) ⟨rfl,rfl,rfl,c2⟩ p1,hs.2.2⟩;exact .inr (.inl ⟨qq_,_,_,c1,.inl ⟨h2,c3,c4⟩,hk _ _ _ _ g1 g2⟩)
  split at h
  ·rename_i fn L hfn
   obtain⟨c,hc⟩:=hf _ _ _ hfn;cases q:j with
   |false=>
    rw[q]at h;have hh:r=.call h0 args:=hh;subst hh;exact .inl (qha hm hE hrun hc hs h hk)
   |true=>
   rw[q]at h;have h:qgW E run fn L d args fr hp id g=.ok ρ:=h;unfold qgW at h;rw[hc.body]at h;obtain⟨q2,h⟩:=qe h;obtain⟨fr2,f1,f2⟩:=yg h;have hh:r=.call h0 args:=hh;subst hh;refine .inr (.inr ⟨hj q,Qb (zJ L) (K:=fun st' res=>K (st'.put d res)) hm hc.at_ hc.body hc.name hc.ok (xa7 q2) fun out=>?_⟩);have key:∀(fr3:Tr 3 SV)(hp3:Tr 6 XB)(nid3:Nat)(st3:St),StR LM fr3 hp3 nid3 st3→wJ E fr3 hp3 fn.results.toList (fun m=>svK (oneSV m) fun s=>putD d s fr fun fr=>g fr hp3 nid3)=.ok ρ→resultsVC P fn.results.toList st3 (fun m=>K (St.put ⟨st.fr,st3.hp,st3.nid⟩ d (oneSV m))):=by
    intro fr3 hp3 nid3 st3 h3 h;refine yh hE h3 h fun m h=>?_;rw[yS]at h;obtain⟨fr',g1,g2⟩:=kC (st:=⟨st.fr,st3.hp,st3.nid⟩) h ⟨hs.1,h3.2.1,h3.2.2⟩;exact hk _ _ _ _ g1 g2
   refine hrun ρ LM _ _ _ L .top c ⟨argFr 0 args,st.hp,id⟩ fr2 hp id _ _ rfl ⟨f1,hs.2.1,rfl⟩ f2 fun e fr3 hp3 nid3 st3 h3 h=>?_;cases e with
   |exit i=>cases h
   |normal=>exact key _ _ _ _ h3 h
   |ret=>exact key _ _ _ _ h3 h
  ·cases h
 ·rename_i y args
  obtain⟨q,h⟩:=qe h;have hh:r=.yield y args:=hh;subst hh;exact⟨hj q,qer hm hrun hcx hs h hk⟩
def xGo(E:XE)(run:XC)(cx:CX)(j:Bool)(o:Oper)(fr:Tr 3 SV)(hp:Tr 6 XB)(nid i:Nat)(g:Tr 3 SV→Tr 6 XB→Nat→R):R:=
 qk (nid+i) fun id=>xOp E fr hp id o.op fun xr=>QU E run cx j o.dst id xr fr hp nid g
def wK(ds:List (Option Tmp))(gd:Option (Nat×Bool))(d:Option Tmp)(fr:Tr 3 SV)(hp:Tr 6 XB)(nid:Nat)(go:R)(g:Tr 3 SV→Tr 6 XB→Nat→R):R:=
 match gd with
 |none=>go
 |some (i,want)=>(match nth ds i with
  |none=>.bad 310 0
  |some t=>(match qu fr t with
   |.val (.bool b)=>Bool.rec (putD d undefSV fr fun fr=>g fr hp nid) go (b == want)
   |.val (.tuple _)=>putD d undefSV fr fun fr=>g fr hp nid
   |_=>.bad 311 0))
def QW(E:XE)(run:XC)(cx:CX)(j:Bool)(ds:List (Option Tmp))(ops:List Oper):Nat→Tr 3 SV→Tr 6 XB→Nat→(Tr 3 SV→Tr 6 XB→Nat→R)→R:=
 List.rec (motive:=fun _=>Nat→Tr 3 SV→Tr 6 XB→Nat→(Tr 3 SV→Tr 6 XB→Nat→R)→R) (fun _ fr hp nid g=>g fr hp nid)
  (fun o _ ih i fr hp nid g=>wK ds o.guard o.dst fr hp nid (xGo E run cx j o fr hp nid i fun fr hp nid=>qk (Nat.succ i) fun i=>ih i fr hp nid g) (fun fr hp nid=>qk (Nat.succ i) fun i=>ih i fr hp nid g)) ops
theorem StR.same{fr:Tr 3 SV}{hp:Tr 6 XB}{nid:Nat}{st:St}(hs:StR LM fr hp nid st){t:Tmp}{s:SV}(e:qu fr t=s):StR LM fr hp nid (st.put (some t) s):=⟨fun u=>by
 show look (putFr st.fr t s) u=_;rw[zb];by_cases c:u=t
 ·rw[if_pos c,c,e]
 ·rw[if_neg c];exact hs.1 u,hs.2.1,hs.2.2⟩
theorem Kb(hm:P.follows .mixedOrders=true)(hE:XOk P E)(hf:vT P E){run:XC}(hrun:jP P run){fs:List Fr}{lo:Nat}{rnd:Bool}{far:Nat→List (Nat×Nat)}{cx:CX}(hcx:qeq LM fs rnd cx){j:Bool}{J:Prop}(hj:j=true→J){ds:List (Option Tmp)}:∀{ops:List Oper}{i:Nat}{fr:Tr 3 SV}{hp:Tr 6 XB}{nid:Nat}{g:Tr 3 SV→Tr 6 XB→Nat→R}{st:St}{K:St→Prop},StR LM fr hp nid st→QW E run cx j ds ops i fr hp nid g=.ok ρ→
  (∀fr' hp' nid' st',StR LM fr' hp' nid' st'→g fr' hp' nid'=.ok ρ→K st')→qZ P ⟨fs,lo,rnd,far⟩ J ds ops i st K
 |[],i,fr,hp,nid,g,st,K,hs,h,hk=>hk _ _ _ _ hs h
 |o :: ops,i,fr,hp,nid,g,st,K,hs,h,hk=>by
  have h:wK ds o.guard o.dst fr hp nid (xGo E run cx j o fr hp nid i fun fr hp nid=>qk (Nat.succ i) fun i=>QW E run cx j ds ops i fr hp nid g) (fun fr hp nid=>qk (Nat.succ i) fun i=>QW E run cx j ds ops i fr hp nid g)=.ok ρ:=h;have next:∀fr' hp' nid' st',StR LM fr' hp' nid' st'→(qk (Nat.succ i) fun i=>QW E run cx j ds ops i fr' hp' nid' g)=.ok ρ→qZ P ⟨fs,lo,rnd,far⟩ J ds ops (i+1) st' K:=by
   intro fr' hp' nid' st' hs' h';rw[qi]at h';exact Kb hm hE hf hrun hcx hj hs' h' hk
  have go:∀st,StR LM fr hp nid st→xGo E run cx j o fr hp nid i (fun fr hp nid=>qk (Nat.succ i) fun i=>QW E run cx j ds ops i fr hp nid g)=.ok ρ→vP P ⟨fs,lo,rnd,far⟩ J o.op o.dst (st.nid+i) st (fun st=>qZ P ⟨fs,lo,rnd,far⟩ J ds ops (i+1) st K) (stepR P (look st.fr) st.hp o.op):=by
   intro st hs h;unfold xGo at h;rw[qi]at h;obtain⟨xr,h1,h2⟩:=qaH hE hs.1.fn hs.2.1 h;rw[hs.2.2];exact qjB hm hE hf hrun hcx hj hs h1 h2 next
  have skip:∀st,StR LM fr hp nid st→(putD o.dst undefSV fr fun fr=>qk (Nat.succ i) fun i=>QW E run cx j ds ops i fr hp nid g)=.ok ρ→qZ P ⟨fs,lo,rnd,far⟩ J ds ops (i+1) (st.put o.dst undefSV) K:=by
   intro st hs h;obtain⟨fr',h1,h2⟩:=kC h hs;exact next _ _ _ _ h1 h2
  unfold qZ zf;unfold wK at h;cases hgd:o.guard with
  |none=>rw[hgd]at h;exact go st hs h
  |some x=>
   obtain⟨i0,want⟩:=x;rw[hgd]at h;dsimp only at h ⊢;cases hn:nth ds i0 with
   |none=>rw[hn]at h;cases h
   |some t=>
    rw[hn]at h;dsimp only at h ⊢;rw[hs.1 t];split at h
    ·rename_i b hb
     rw[hb];have hs2:=hs.same hb;cases want<;>cases b<;>(dsimp only at h ⊢)
     ·exact⟨fun e=>(by cases e),fun _=>go _ hs2 h⟩
     ·exact⟨fun _=>skip _ hs2 h,fun e=>by cases e⟩
     ·exact⟨fun e=>(by cases e),fun _=>skip _ hs2 h⟩
     ·exact⟨fun _=>go _ hs2 h,fun e=>by cases e⟩
    ·rename_i vs hb
     rw[hb];exact skip st hs h
    ·cases h
end
end
end Go.Sx
end
section
namespace Go.Sx
open Go.RowKit
noncomputable section
variable{ρ:Q}
def qhb(eq:SV→SV→Bool):List SV→List SV→Bool
 |[],[]=>true
 |a :: l,b :: m=>eq a b&&qhb eq l m
 |_,_=>false
def qlT(eq:SV→SV→Bool)(a b:SV):Bool:=
 match a with
 |.val u=>(match b with|.val v=>qcu u v|_=>false)
 |.ptr i o=>(match b with|.ptr j p=>Nat.beq i j&&Nat.beq o p|_=>false)
 |.elt i k a c=>(match b with|.elt j l b d=>Nat.beq i j&&(Nat.beq k l&&(Nat.beq a b&&Nat.beq c d))|_=>false)
 |.vec i n k=>(match b with|.vec j m l=>Nat.beq i j&&(Nat.beq n m&&Nat.beq k l)|_=>false)
 |.cut i n k=>(match b with|.cut j m l=>Nat.beq i j&&(Nat.beq n m&&Nat.beq k l)|_=>false)
 |.asl i o n k=>(match b with|.asl j p m l=>Nat.beq i j&&(Nat.beq o p&&(Nat.beq n m&&Nat.beq k l))|_=>false)
 |.que i o n k=>(match b with|.que j p m l=>Nat.beq i j&&(Nat.beq o p&&(Nat.beq n m&&Nat.beq k l))|_=>false)
 |.mp i=>(match b with|.mp j=>Nat.beq i j|_=>false)
 |.agg l=>(match b with|.agg m=>qhb eq l m|_=>false)
 |.tup l=>(match b with|.tup m=>qhb eq l m|_=>false)
 |.top=>(match b with|.top=>true|_=>false)
 |_=>false
def qlU(n:Nat):SV→SV→Bool:=Nat.rec (fun _ _=>false) (fun _ ih=>qlT ih) n
theorem qcw{eq:SV→SV→Bool}(h:∀a b,eq a b=true→a=b):∀{l m:List SV},qhb eq l m=true→l=m
 |[],[],_=>rfl
 |[],_ :: _,e=>by cases e
 |_ :: _,[],e=>by cases e
 |a :: l,b :: m,e=>by
  simp only[qhb,xe6]at e;rw[h _ _ e.1,qcw h e.2]
theorem qcx:∀(n:Nat)(a b:SV),qlU n a b=true→a=b
 |0,a,b,h=>by cases h
 |n+1,a,b,h=>by
  have h:qlT (qlU n) a b=true:=h;have ih:=qcx n;unfold qlT at h;split at h<;>(try split at h)<;>first
   |(cases h;done)
   |(rw[Yg h];done)
   |(rw[qcw ih h];done)
   |(rw[xa6 h];done)
   |rfl
   |(simp only[xe6,Nat.beq_eq]at h;obtain⟨rfl,rfl⟩:=h;rfl)
   |(simp only[xe6,Nat.beq_eq]at h;obtain⟨rfl,rfl,rfl⟩:=h;rfl)
   |(simp only[xe6,Nat.beq_eq]at h;obtain⟨rfl,rfl,rfl,rfl⟩:=h;rfl)
def qoy(E:XE)(rs:List ResultVar)(g:SV→Tr 6 XB→Nat→R):XK
 |.exit _,_,_,_=>.bad 301 0
 |.normal,fr3,hp3,nid3=>wJ E fr3 hp3 rs fun m=>svK (oneSV m) fun s=>g s hp3 nid3
 |.ret,fr3,hp3,nid3=>wJ E fr3 hp3 rs fun m=>svK (oneSV m) fun s=>g s hp3 nid3
def qle(E:XE)(run:XC)(fn:Func)(L:FL)(args:List SV)(hp:Tr 6 XB)(id:Nat)(g:SV→Tr 6 XB→Nat→R):R:=
 match fn.body with
 |some c=>qj 302 (Nat.ble args.length fn.ntmps) (VL args 0 .nil fun fr2=>run L .top c fr2 hp id (qoy E fn.results.toList g))
 |none=>.bad 303 0
def qlf(n:Nat)(i:Sh)(args:List SV)(g:SV→R):R:=
 qj 376 (Nat.beq args.length n) (match i.sv args with
  |some s=>svK s g
  |none=>.bad 377 0)
def Yh(E:XE)(run:XC)(id:Nat)(xr:XR)(hp:Tr 6 XB)(g:SV→Tr 6 XB→Nat→R):R:=
 match xr with
 |.pure s=>g s hp id
 |.new b s=>qW (some b) 22 hp id fun hp=>g s hp id
 |.upd i b s=>(match hp.find i with
  |some _=>qW (some b) 22 hp i fun hp=>g s hp id
  |none=>.bad 304 0)
 |.grow i b s=>qj 305 (!(Nat.beq i id)) (qW none 22 hp i fun hp=>qW (some b) 22 hp id fun hp=>g s hp id)
 |.call h args=>(match E.prj h with
  |some (n,i)=>qlf n i args fun s=>g s hp id
  |none=>match E.orc h with
  |some f=>f args hp id g
  |none=>match JC hp args (E.ctr h)with
  |some s=>qj 309 (Gp 5 s) (g s hp id)
  |none=>match JC hp args (E.ctn h)with
  |some (t,k,n,l,s)=>yp l fun l=>qW (some (.rows t k n l)) 22 hp id fun hp=>g (setId id s) hp id
  |none=>match E.fns h with
  |some (fn,L)=>qle E run fn L args hp id g
  |none=>.bad 307 h)
 |.yield _ _=>.bad 381 0
def okQ(s:SV)(hp:Tr 6 XB)(nid:Nat):R:=.ok (.mk s hp nid)
def ZK(E:XE)(run:XC)(id:Nat)(o:Oper)(fr:Tr 3 SV)(hp:Tr 6 XB)(g:SV→Tr 6 XB→Nat→R):R:=
 match (xOp E fr hp id o.op fun xr=>Yh E run id xr hp okQ)with
 |.ok (.mk s hp nid)=>g s hp nid
 |.bad c i=>.bad c i
def qcy(xr:XR):R:=
 match xr with
 |.pure s=>.ok (.mk s .nil 0)
 |_=>.bad 382 0
def Gq(k:Value)(l:List Value):Bool:=List.rec false (fun a _ ih=>Bool.rec ih true (Gb a k)) l
def je(es:List (Value×Option SV)):List Value→List Value:=List.rec (motive:=fun _=>List Value→List Value) (fun _=>[]) (fun p _ ih seen=>Bool.rec (ih seen) (Bool.rec (Option.rec (ih (p.1 :: seen)) (fun _=>p.1 :: ih (p.1 :: seen)) p.2) (ih seen) (Gq p.1 seen)) (Gb p.1 p.1)) es
def qaU(es:List (Value×Option SV)):List Value→Nat→(Nat→R)→R:=List.rec (motive:=fun _=>List Value→Nat→(Nat→R)→R) (fun _ c f=>f c) (fun p _ ih seen c f=>Bool.rec (ih seen c f) (Bool.rec (Option.rec (ih (p.1 :: seen) c f) (fun _=>qk (Nat.succ c) fun c=>ih (p.1 :: seen) c f) p.2) (ih seen c f) (Gq p.1 seen)) (Gb p.1 p.1)) es
def Yi(E:XE)(op:Op):Option Operand:=
 match op with
 |.call ⟨.builtin .len,args,ts⟩=>(match args.toList,ts.toList with
  |[x],[t]=>(match E.mps t with
   |some _=>some x
   |none=>none)
  |_,_=>none)
 |_=>none
def Gr(x:SV)(hp:Tr 6 XB):R:=
 match x with
 |.mp id=>(match hp.find id with
  |some (.map _ _ es)=>qaU es [] 0 fun n=>.ok (.mk (.val (.int .i64 (.ofNat n))) .nil 0)
  |_=>.bad 390 0)
 |_=>.bad 391 0
def Gs(E:XE)(fr:Tr 3 SV)(hp:Tr 6 XB)(op:Op):R:=
 match Yi E op with
 |some x=>Gr (qY fr x) hp
 |none=>xOp E fr hp 0 op qcy
def gt(E:XE)(o:Oper)(fr:Tr 3 SV)(hp:Tr 6 XB)(g:SV→R):R:=
 match (Gs E fr hp o.op)with
 |.ok (.mk s _ _)=>g s
 |.bad c i=>.bad c i
def qlg(fr:Tr 3 SV)(op:Op):Bool:=
 match op with
 |.load _ x=>(match qY fr x with|.ref _ _ _=>true|_=>false)
 |_=>false
def zF(fr:Tr 3 SV)(op:Op):Bool:=Gj op&&!qlg fr op
def G1(b:Bool)(hp:Tr 6 XB):Tr 6 XB:=Bool.rec .nil hp b
abbrev CK:=Tr 3 SV→Tr 6 XB→Nat→List (Tr 6 XB)→R
def gdX(ds:List (Option Tmp))(gd:Option (Nat×Bool))(fr:Tr 3 SV):Option Bool:=
 match gd with
 |none=>some false
 |some (i,want)=>(match nth ds i with
  |none=>none
  |some t=>(match qu fr t with
   |.val (.bool b)=>some (!(b == want))
   |.val (.tuple _)=>some true
   |_=>none))
def gy(E:XE)(run:XC)(n:Nat)(ds:List (Option Tmp))(ops:List Oper):Tr 3 SV→Tr 6 XB→Nat→List (Tr 6 XB)→CK→R:=
 List.rec (motive:=fun _=>Tr 3 SV→Tr 6 XB→Nat→List (Tr 6 XB)→CK→R) (fun fr hp nid hs g=>g fr hp nid hs)
  (fun o _ ih fr hp nid hs g=>match gdX ds o.guard fr with
   |some false=>Bool.rec (gt E o fr (G1 (zF fr o.op) hp) fun s=>putD o.dst s fr fun fr=>ih fr hp nid hs g)
    (qk (nid+n) fun id=>ZK E run id o fr hp fun s hp' nid'=>qk (Nat.succ nid') fun nid'=>putD o.dst s fr fun fr=>ih fr hp' nid' (hs++[hp']) g) (gm o.op)
   |some true=>putD o.dst undefSV fr fun fr=>Bool.rec (ih fr hp nid hs g) (qk (nid+n) fun nid=>ih fr hp nid (hs++[hp]) g) (gm o.op)
   |none=>.bad 386 0) ops
def ZU(ds:List (Option Tmp))(o:Oper)(fr:Tr 3 SV):Bool:=match gdX ds o.guard fr with
 |some false=>true
 |_=>false
def VM(E:XE)(fr:Tr 3 SV)(o:Oper)(hp:Tr 6 XB)(r:R):R:=
 gt E o fr hp fun s=>(match o.dst with
  |some d=>qng 384 d (qlU 6 s (qu fr d)) r
  |none=>r)
def Qc(E:XE)(fr:Tr 3 SV)(o:Oper)(lo hi tx:Nat)(r:R)(hs:List (Tr 6 XB)):Nat→R:=
 List.rec (motive:=fun _=>Nat→R) (fun _=>r) (fun hp _ ih k=>Bool.rec (qk (Nat.succ k) fun k=>ih k) (VM E fr o hp (qk (Nat.succ k) fun k=>ih k)) (Nat.ble lo k&&(Nat.ble k hi&&!(Nat.beq k tx)))) hs
def Gt(E:XE)(l:List Oper)(fr:Tr 3 SV)(hs:List (Tr 6 XB))(r:R)(ops:List Oper):Nat→R:=
 List.rec (motive:=fun _=>Nat→R) (fun _=>r) (fun o _ ih i=>Bool.rec (qk (Nat.succ i) fun i=>ih i) (qk (loC l i) fun lo=>qk (hiC l i) fun hi=>qk (kc (efL l) i) fun tx=>Qc E fr o lo hi tx (qk (Nat.succ i) fun i=>ih i) hs 0) (zF fr o.op&&ZU (dsts l) o fr)) ops
def qjC(E:XE)(run:XC)(ops:List Oper)(fr:Tr 3 SV)(hp:Tr 6 XB)(nid:Nat)(f:XK):R:=
 qj 385 (Gk ops) (qk ops.length fun n=>gy E run n (dsts ops) ops fr hp nid [hp] fun fr hp nid hs=>Gt E ops fr hs (qk (nid+n) fun nid=>f .normal fr hp nid) ops 0)
section
variable{P:Program}{E:XE}{LM:Nat→Option Loop}
theorem qjD(hm:P.follows .mixedOrders=true)(hE:XOk P E)(hf:vT P E){run:XC}(hrun:jP P run){O:Ctx}{op:Op}{d:Option Tmp}{id:Nat}{xr:XR}{hp:Tr 6 XB}{g:SV→Tr 6 XB→Nat→R}{st:St}{K:St→Prop}{r:Res}(hH:HRel LM hp st.hp)(hn:st.nid=id)(hh:Hit xr id r)(h:Yh E run id xr hp g=.ok ρ)
  (hk:∀s hp' nid' st',(∀t,look st'.fr t=look (st.put d s).fr t)→HRel LM hp' st'.hp→st'.nid=nid'→g s hp' nid'=.ok ρ→K st'):vP P O True op d id st K r:=by
 have fr0:∀(H:List (Nat×Blk))(n:Nat)(s:SV)(t:Nat),look (St.put ⟨st.fr,H,n⟩ d s).fr t=look (st.put d s).fr t:=fun H n s t=>by rw[gn,gn]
 unfold Yh at h;split at h
 ·rcases hh with⟨obl,rfl,ho⟩|⟨obl,rfl,ho⟩
  ·exact⟨ho,hk _ _ _ _ (fun t=>rfl) (by rw[zk];exact hH) Ωy h⟩
  ·exact⟨_,ho,hk _ _ _ _ (fun t=>rfl) (by rw[zk];exact hH) Ωy h⟩
 ·obtain⟨obl,b',mk,rfl,ho,hb,rfl⟩:=hh
  obtain⟨hp',p1,h⟩:=qz _ _ _ _ h;exact⟨ho,hk _ _ _ _ (fun t=>fr0 _ _ _ t) (by rw[zk];exact hH.cons hb.any p1) Ωy h⟩
 ·split at h
  ·rename_i y hy
   obtain⟨hp',p1,h⟩:=qz _ _ _ _ h;rcases hh with⟨obl,b',rfl,ho,hb,rfl⟩|⟨obl,b',rfl,ho,hb⟩
   ·exact⟨ho,hk _ _ _ _ (fun t=>fr0 _ _ _ t) (by rw[zk];exact hH.set hb.any hy p1) Ωy h⟩
   ·exact⟨ho,hk _ _ _ _ (fun t=>fr0 _ _ _ t) (by rw[zk];exact hH.set hb.any hy p1) Ωy h⟩
  ·cases h
 ·rename_i i b s
  obtain⟨obl,b',mk,rfl,ho,hb,rfl⟩:=hh;obtain⟨q,h⟩:=qe h;have q:i≠id:=fun e=>by rw[e,Nat.beq_refl]at q;cases q
  obtain⟨hp1,p1,h⟩:=qz _ _ _ _ h;obtain⟨hp2,p2,h⟩:=qz _ _ _ _ h;exact⟨⟨ho,q⟩,hk _ _ _ _ (fun t=>fr0 _ _ _ t) (by rw[zk];exact(hH.drop p1).cons hb.any p2) Ωy h⟩
 ·rename_i h0 args
  have hh:r=.call h0 args:=hh;subst hh;split at h
  ·rename_i n i hp0
   unfold qlf at h;obtain⟨q,h⟩:=qe h;have q:=xa6 q;split at h
   ·rename_i s ha
    rw[yS]at h;exact .inl ⟨s,.inr ⟨i,by rw[q];exact hE.prj _ _ _ hp0,ha⟩,hk _ _ _ _ (fun t=>rfl) (by rw[zk];exact hH) Ωy h⟩
   ·cases h
  split at h
  ·rename_i f hof
   refine .inr (.inr ⟨trivial,hE.orc _ _ hof ρ LM O args hp g ⟨st.fr,st.hp,id⟩ (fun st' res=>K (st'.put d res)) hH h fun s hp' nid' H' hH' hk'=>?_⟩);exact hk _ _ _ _ (fun t=>fr0 _ _ _ t) (by rw[zk];exact hH') (by rw[qr]) hk'
  split at h
  ·rename_i s hcs
   obtain⟨qq_,h1,h2⟩:=wH hH hcs;obtain⟨h3,h⟩:=qe h;exact .inl ⟨s,.inl ⟨qq_,hE.ctr _ _ _ h1,.inl ⟨h2,yf 5 _ h3⟩⟩,hk _ _ _ _ (fun t=>rfl) (by rw[zk];exact hH) Ωy h⟩
  split at h
  ·rename_i t k n l s hcs
   obtain⟨qq_,h1,h2⟩:=wH hH hcs;obtain⟨row,c1,c2,c3,c4⟩:=hE.ctn _ _ _ _ _ _ _ h1;rw[kd]at h;obtain⟨hp',p1,h⟩:=qz _ _ _ _ h;exact .inr (.inl ⟨qq_,_,_,c1,.inl ⟨h2,c3,c4⟩,hk _ _ _ _ (fun t=>fr0 _ _ _ t) (by rw[zk];exact hH.cons (b:=.rows t k n l) (b':=.rows t k n row) ⟨rfl,rfl,rfl,c2⟩ p1) Ωy h⟩)
  split at h
  ·rename_i fn L hfn
   obtain⟨c,hc⟩:=hf _ _ _ hfn;unfold qle at h;rw[hc.body]at h;obtain⟨q2,h⟩:=qe h;obtain⟨fr2,f1,f2⟩:=yg h;refine .inr (.inr ⟨trivial,Qb (zJ L) (K:=fun st' res=>K (st'.put d res)) hm hc.at_ hc.body hc.name hc.ok (xa7 q2) fun out=>?_⟩);have key:∀(fr3:Tr 3 SV)(hp3:Tr 6 XB)(nid3:Nat)(st3:St),StR LM fr3 hp3 nid3 st3→wJ E fr3 hp3 fn.results.toList (fun m=>svK (oneSV m) fun s=>g s hp3 nid3)=.ok ρ→resultsVC P fn.results.toList st3 (fun m=>K (St.put ⟨st.fr,st3.hp,st3.nid⟩ d (oneSV m))):=by
    intro fr3 hp3 nid3 st3 h3 h;refine yh hE h3 h fun m h=>?_;rw[yS]at h;exact hk _ _ _ _ (fun t=>fr0 _ _ _ t) (by rw[zk];exact h3.2.1) (by rw[qr];exact h3.2.2) h
   refine hrun ρ LM _ _ _ L .top c ⟨argFr 0 args,st.hp,id⟩ fr2 hp id _ _ rfl ⟨f1,hH,rfl⟩ f2 fun e fr3 hp3 nid3 st3 h3 h=>?_;cases e with
   |exit i=>cases h
   |normal=>exact key _ _ _ _ h3 h
   |ret=>exact key _ _ _ _ h3 h
  ·cases h
 ·cases h
def Yj(P:Program)(LM:Nat→Option Loop)(n:Nat)(ds:List (Option Tmp))(o:Oper)(sk:Bool)(s:SV)(X X':Tr 3 SV)(Y Y':Tr 6 XB)(Z Z':Nat):Prop:=
 (∀t,qu X' t=if o.dst=some t then s else qu X t)∧gdX ds o.guard X=some sk∧
 (sk=true→s=undefSV∧Y'=Y∧(gm o.op=true→Z+n≤Z'))∧
 (gm o.op=false→Y'=Y∧Z'=Z)∧
 (sk=false→gm o.op=false→(∀H,HRel LM Y H→PureAt P (qu X) H o.op s)∧(zF X o.op=false→∀H,PureAt P (qu X) H o.op s))∧
 (sk=false→gm o.op=true→∀(O:Ctx)(st1:St),(∀t,t∈zI o→look st1.fr t=qu X t)→HRel LM Y st1.hp→st1.nid=Z+n→∀K':St→Prop,(∀st':St,(∀t,look st'.fr t=look (st1.put o.dst s).fr t)→HRel LM Y' st'.hp→st'.nid+1≤Z'→K' st')→vP P O True o.op o.dst st1.nid st1 K' (stepR P (look st1.fr) st1.hp o.op))
theorem VN{d:Option Tmp}{s:SV}{fr:Tr 3 SV}{g:Tr 3 SV→R}(h:putD d s fr g=.ok ρ):∃fr',(∀t,qu fr' t=if d=some t then s else qu fr t)∧g fr'=.ok ρ:=by
 unfold putD at h;cases d with
 |none=>exact⟨fr,fun t=>by rw[if_neg (by intro h;cases h)],h⟩
 |some d=>
  obtain⟨fr',h1,h2⟩:=qz _ _ _ _ h;refine⟨fr',fun t=>?_,h2⟩;unfold qu;rw[h1 t];by_cases c:t=d
  ·rw[if_pos c,if_pos (by rw[c])]
  ·rw[if_neg c,if_neg (by intro h;cases h;exact c rfl)]
theorem Qd{o:Oper}{t:Tmp}(h : .tmp t∈o.op.operands.toList):t∈zI o:=by
 unfold zI;rw[List.mem_filterMap];exact⟨_,h,rfl⟩
theorem qcz{H:List (Nat×Blk)}:HRel LM .nil H:=fun id b hb=>by rw[Qw]at hb;cases hb
theorem JE{o:Oper}{fr:Tr 3 SV}{hp:Tr 6 XB}{g:SV→R}(h:gt E o fr hp g=.ok ρ):∃s,(∃a b,Gs E fr hp o.op=.ok (.mk s a b))∧g s=.ok ρ:=by
 unfold gt at h;split at h
 ·rename_i s a b hx
  exact⟨s,⟨a,b,hx⟩,h⟩
 ·cases h
theorem VO{k:Value}(hk:eqK k k=true):∀{l:List Value},Gq k l=true↔k∈l
 |[]=>by simp[Gq]
 |a :: l=>by
  show(Bool.rec (Gq k l) true (Gb a k):Bool)=true↔_;rw[Vr,List.mem_cons];cases h:eqK a k with
  |true=>have:=zw h;simp[this]
  |false=>
   show Gq k l=true↔_;rw[VO hk];constructor
   ·exact .inr
   ·rintro(rfl|h1)
    ·rw[hk]at h;cases h
    ·exact h1
theorem Qe(p:Value×Option SV)(es:List (Value×Option SV))(seen:List Value):je (p :: es) seen=(Bool.rec (je es seen) (Bool.rec (Option.rec (je es (p.1 :: seen)) (fun _=>p.1 :: je es (p.1 :: seen)) p.2) (je es seen) (Gq p.1 seen)) (Gb p.1 p.1):List Value):=rfl
theorem QX(f:Nat→R):∀(es:List (Value×Option SV))(seen:List Value)(c:Nat),qaU es seen c f=f (c+(je es seen).length)
 |[],seen,c=>rfl
 |p :: es,seen,c=>by
  show(Bool.rec (qaU es seen c f) (Bool.rec (Option.rec (qaU es (p.1 :: seen) c f) (fun _=>qk (Nat.succ c) fun c=>qaU es (p.1 :: seen) c f) p.2) (qaU es seen c f) (Gq p.1 seen)) (Gb p.1 p.1):R)=_;rw[Qe];cases Gb p.1 p.1 with
  |false=>exact QX f es seen c
  |true=>
  cases Gq p.1 seen with
  |true=>exact QX f es seen c
  |false=>
   cases p.2 with
   |none=>exact QX f es _ c
   |some s=>
    show(qk (Nat.succ c) fun c=>qaU es (p.1 :: seen) c f)=f (c+((je es (p.1 :: seen)).length+1));rw[qi,QX f es _ _]
    congr 1;omega
theorem keysE_mem{k:Value}:∀{es:List (Value×Option SV)}{seen:List Value},k∈je es seen↔k∉seen∧(kY es k).isSome=true
 |[],seen=>by
  show k∈[]↔_∧Option.isSome none=true;simp
 |p :: es,seen=>by
  rw[Qe,zY,Vr];cases hs:eqK p.1 p.1 with
  |false=>
   show k∈je es seen↔_;rw[keysE_mem];have:¬(eqK p.1 k=true):=fun h=>by rw[←zw h,hs]at h;cases h
   rw[if_neg this]
  |true=>
   cases hh:Gq p.1 seen with
   |true=>
    show k∈je es seen↔_;have hm:=(VO hs).1 hh;rw[keysE_mem];by_cases c:eqK p.1 k=true
    ·have:=zw c
     subst this;simp[hm]
    ·rw[if_neg c]
   |false=>
    have hm:p.1∉seen:=fun h=>by rw[(VO hs).2 h]at hh;cases hh
    by_cases c:eqK p.1 k=true
    ·rw[if_pos c]
     have:=zw c;subst this;cases p.2 with
     |none=>
      show p.1∈je es (p.1 :: seen)↔_;rw[keysE_mem];simp
     |some s=>
      show p.1∈p.1 :: je es (p.1 :: seen)↔_;simp[hm]
    ·rw[if_neg c]
     have hne:k≠p.1:=fun h=>by rw[h,hs]at c;exact c rfl
     cases p.2 with
     |none=>
      show k∈je es (p.1 :: seen)↔_;rw[keysE_mem];simp[hne]
     |some s=>
      show k∈p.1 :: je es (p.1 :: seen)↔_;rw[List.mem_cons,keysE_mem];simp[hne]
theorem gZ:∀{es:List (Value×Option SV)}{seen:List Value},(je es seen).Nodup
 |[],seen=>List.nodup_nil
 |p :: es,seen=>by
  rw[Qe];cases Gb p.1 p.1 with
  |false=>exact gZ
  |true=>
   cases Gq p.1 seen with
   |true=>exact gZ
   |false=>
    cases p.2 with
    |none=>exact gZ
    |some s=>
     refine List.nodup_cons.2 ⟨fun h=>?_,gZ⟩;have:=(keysE_mem.1 h).1;simp at this
theorem qhc{op:Op}{x:Operand}(h:Yi E op=some x):∃t mi,op=.call ⟨.builtin .len,#[x],#[t]⟩∧E.mps t=some mi:=by
 unfold Yi at h;split at h
 ·rename_i args ts
  split at h
  ·rename_i x' t ha ht
   split at h
   ·rename_i mi hm
    cases h;have e1:=Ky ha;have e2:=Ky ht;subst e1;subst e2;exact⟨t,mi,rfl,hm⟩
   ·cases h
  ·cases h
 ·cases h
theorem QY(hE:XOk P E){fr:Tr 3 SV}{hp:Tr 6 XB}{op:Op}{s:SV}{H:List (Nat×Blk)}(hH:HRel LM hp H)(h:∃a b,Gs E fr hp op=.ok (.mk s a b)):PureAt P (qu fr) H op s:=by
 obtain⟨a,b,h⟩:=h;unfold Gs at h;split at h
 ·rename_i x hl
  obtain⟨t,mi,rfl,hm⟩:=qhc hl;refine .inr ⟨rfl,fun O st hfr hst=>?_⟩;unfold Gr at h;split at h
  ·rename_i id hx
   split at h
   ·rename_i ag ls es hb
    rw[QX]at h;cases h;subst hst;obtain⟨dom,get,g1,g2⟩:=hH.map hb;have hxe:env (look st.fr) x=.mp id:=by
     rw[←hx];cases x with
     |tmp t=>exact hfr t Ωj
     |_=>rfl
    have:=JA (O:=O) (hE.mps _ _ hm) hxe g1 gZ (L:=je es []) fun k=>by rw[(g2 k).1,keysE_mem];simp
    rw[xb0];exact this
   ·cases h
  ·cases h
 ·obtain⟨xr,h1,h2⟩:=qaH hE (F:=qu fr) (fun _=>rfl) hH h
  cases xr<;>simp only[qcy,reduceCtorEq]at h2
  cases h2;exact .inl h1
theorem PureAt.congr{F F':Nat→SV}{H:List (Nat×Blk)}{o:Oper}{s:SV}(h:PureAt P F H o.op s)(hF:∀t,t∈zI o→F' t=F t):PureAt P F' H o.op s:=by
 rcases h with h|⟨h1,h2⟩
 ·exact .inl (by rw[Jx (F':=F) fun t ht=>hF t (Qd ht)];exact h)
 ·exact .inr ⟨h1,fun O st hfr hst=>h2 O st (fun t ht=>by rw[hfr t ht,hF t ht]) hst⟩
theorem qhd{o:Oper}{l:List Oper}{j:Nat}:efL (o :: l) (j+1)=efL l j:=by simp[efL]
theorem qcA{o:Oper}{l:List Oper}:∀{j:Nat},kc (efL (o :: l)) (j+1)=(if gm o.op=true then 1 else 0)+kc (efL l) j
 |0=>by simp[kc,efL]
 |j+1=>by
  have ih:=qcA (o:=o) (l:=l) (j:=j);simp only[kc]at ih ⊢;rw[ih,qhd];omega
theorem Gu(hm:P.follows .mixedOrders=true)(hE:XOk P E)(hf:vT P E){run:XC}(hrun:jP P run){n:Nat}{ds:List (Option Tmp)}:∀{ops:List Oper}{fr:Tr 3 SV}{hp:Tr 6 XB}{nid k0:Nat}{hs:List (Tr 6 XB)}{g:CK},gy E run n ds ops fr hp nid hs g=.ok ρ→hs.length=k0+1→hs[k0]? = some hp→
  ∃(res:Nat→SV)(sk:Nat→Bool)(X:Nat→Tr 3 SV)(Y:Nat→Tr 6 XB)(Z:Nat→Nat)(hs':List (Tr 6 XB)),X 0=fr∧Y 0=hp∧Z 0=nid∧g (X ops.length) (Y ops.length) (Z ops.length) hs'=.ok ρ∧
   (∀i o,ops[i]? = some o→Yj P LM n ds o (sk i) (res i) (X i) (X (i+1)) (Y i) (Y (i+1)) (Z i) (Z (i+1)))∧(∀j,j≤ops.length→hs'[k0+kc (efL ops) j]? = some (Y j))∧∀k,k≤k0→hs'[k]? = hs[k]?
 |[],fr,hp,nid,k0,hs,g,h,hl,hh=>by
  refine⟨fun _=>.top,fun _=>false,fun _=>fr,fun _=>hp,fun _=>nid,hs,rfl,rfl,rfl,h,fun i o ho=>by simp at ho,fun j hj=>?_,fun _ _=>rfl⟩;have:j=0:=by simpa using hj
  subst this;exact hh
 |o :: ops,fr,hp,nid,k0,hs,g,h,hl,hh=>by
  have h:(match gdX ds o.guard fr with
   |some false=>Bool.rec (gt E o fr (G1 (zF fr o.op) hp) fun s=>putD o.dst s fr fun fr=>gy E run n ds ops fr hp nid hs g)
    (qk (nid+n) fun id=>ZK E run id o fr hp fun s hp' nid'=>qk (Nat.succ nid') fun nid'=>putD o.dst s fr fun fr=>gy E run n ds ops fr hp' nid' (hs++[hp']) g) (gm o.op)
   |some true=>putD o.dst undefSV fr fun fr=>Bool.rec (gy E run n ds ops fr hp nid hs g) (qk (nid+n) fun nid=>gy E run n ds ops fr hp nid (hs++[hp]) g) (gm o.op)
   |none=>.bad 386 0:R)=.ok ρ:=h
  have glue:∀(k:Bool)(s:SV)(fr':Tr 3 SV)(hp':Tr 6 XB)(nid' k1:Nat)(hs1:List (Tr 6 XB)),Yj P LM n ds o k s fr fr' hp hp' nid nid'→gy E run n ds ops fr' hp' nid' hs1 g=.ok ρ→hs1.length=k1+1→hs1[k1]? = some hp'→k1=k0+(if gm o.op=true then 1 else 0)→(∀k,k≤k0→hs1[k]? = hs[k]?)→
    ∃(res:Nat→SV)(sk:Nat→Bool)(X:Nat→Tr 3 SV)(Y:Nat→Tr 6 XB)(Z:Nat→Nat)(hs':List (Tr 6 XB)),X 0=fr∧Y 0=hp∧Z 0=nid∧g (X (o :: ops).length) (Y (o :: ops).length) (Z (o :: ops).length) hs'=.ok ρ∧
   (∀i o',(o :: ops)[i]? = some o'→Yj P LM n ds o' (sk i) (res i) (X i) (X (i+1)) (Y i) (Y (i+1)) (Z i) (Z (i+1)))∧(∀j,j≤(o :: ops).length→hs'[k0+kc (efL (o :: ops)) j]? = some (Y j))∧∀k,k≤k0→hs'[k]? = hs[k]?:=by
   intro k s fr' hp' nid' k1 hs1 hstep hrest hl1 hh1 hk1 hpre;obtain⟨res,sk,X,Y,Z,hs',e1,e2,e3,hg,hst,hsg,hpr⟩:=Gu hm hE hf hrun hrest hl1 hh1;refine⟨fun i=>Nat.casesOn i s res,fun i=>Nat.casesOn i k sk,fun i=>Nat.casesOn i fr X,fun i=>Nat.casesOn i hp Y,fun i=>Nat.casesOn i nid Z,hs',rfl,rfl,rfl,hg,fun i o' ho=>?_,fun j hj=>?_,fun k hk=>?_⟩
   ·cases i with
    |zero=>
     simp at ho;subst ho;show Yj P LM n ds o k s fr (X 0) hp (Y 0) nid (Z 0);rw[e1,e2,e3];exact hstep
    |succ i=>exact hst i o' Ω9
   ·cases j with
    |zero=>
     show hs'[k0+0]? = some hp;rw[xb1,hpr k0 Ω,hpre k0 (xa5 _),hh]
    |succ j=>
     show hs'[_]? = some (Y j);rw[qcA,←xb2,←hk1];exact hsg j Ω3
   ·rw[hpr k Ω,hpre k hk]
  split at h
  ·rename_i hgd
   cases q:gm o.op with
   |false=>
    rw[q]at h;have h:gt E o fr (G1 (zF fr o.op) hp) (fun s=>putD o.dst s fr fun fr=>gy E run n ds ops fr hp nid hs g)=.ok ρ:=h;obtain⟨s,hx,h⟩:=JE h;obtain⟨fr',hfr,h⟩:=VN h;refine glue false s fr' hp nid k0 hs ⟨hfr,hgd,fun e=>(by cases e),fun _=>⟨rfl,rfl⟩,fun _ _=>⟨fun H hH=>?_,fun hr H=>?_⟩,fun _ e=>by rw[q]at e;cases e⟩ h hl hh (by simp[q]) (fun _ _=>rfl)
    ·refine QY hE (LM:=LM) (hp:=G1 (zF fr o.op) hp) ?_ hx
     cases zF fr o.op
     ·exact qcz
     ·exact hH
    ·rw[hr]at hx
     exact QY hE (LM:=LM) (hp:=.nil) qcz hx
   |true=>
    rw[q]at h;have h:qk (nid+n) (fun id=>ZK E run id o fr hp fun s hp' nid'=>qk (Nat.succ nid') fun nid'=>putD o.dst s fr fun fr=>gy E run n ds ops fr hp' nid' (hs++[hp']) g)=.ok ρ:=h;rw[qi]at h;unfold ZK at h;split at h
    ·rename_i s hp' nid' hx
     dsimp only at h;rw[qi]at h;obtain⟨fr',hfr,h⟩:=VN h;refine glue false s fr' hp' (nid'+1) (k0+1) (hs++[hp']) ⟨hfr,hgd,fun e=>(by cases e),fun e=>(by rw[q]at e;cases e),fun _ e=>(by rw[q]at e;cases e),fun _ _ O st1 hops hH hn K' hk=>?_⟩ h (by simp[hl]) ?_ (by simp[q]) fun k hk=>?_
     ·have e:stepR P (look st1.fr) st1.hp o.op=stepR P (qu fr) st1.hp o.op:=Jx fun t ht=>hops t (Qd ht)
      rw[e,hn];obtain⟨xr,h1,h2⟩:=qaH hE (F:=qu fr) (fun _=>rfl) hH hx;refine qjD hm hE hf hrun (id:=nid+n) hH hn h1 h2 fun s1 hp1 nid1 st' hf' hH' hn' hq=>?_;unfold okQ at hq;cases hq;exact hk st' hf' hH' Ω
     ·rw[xd0 Ω,hl,xb8];rfl
     ·exact xc9 Ω
    ·cases h
  ·rename_i hgd
   obtain⟨fr',hfr,h⟩:=VN h;cases q:gm o.op with
   |false=>
    rw[q]at h;exact glue true undefSV fr' hp nid k0 hs ⟨hfr,hgd,fun _=>⟨rfl,rfl,fun e=>(by rw[q]at e;cases e)⟩,fun _=>⟨rfl,rfl⟩,fun e=>(by cases e),fun e=>(by cases e)⟩ h hl hh (by simp[q]) (fun _ _=>rfl)
   |true=>
    rw[q]at h;have h:(qk (nid+n) fun nid=>gy E run n ds ops fr' hp nid (hs++[hp]) g)=.ok ρ:=h;rw[qi]at h;refine glue true undefSV fr' hp (nid+n) (k0+1) (hs++[hp]) ⟨hfr,hgd,fun _=>⟨rfl,rfl,fun _=>xa5 _⟩,fun e=>(by rw[q]at e;cases e),fun e=>(by cases e),fun e=>(by cases e)⟩ h (by simp[hl]) ?_ (by simp[q]) fun k hk=>?_
    ·rw[xd0 Ω,hl,xb8];rfl
    ·exact xc9 Ω
  ·cases h
def qhe(P:Program)(LM:Nat→Option Loop)(fr:Tr 3 SV)(o:Oper)(hp:Tr 6 XB):Prop:=∀H,HRel LM hp H→∃s,PureAt P (qu fr) H o.op s∧∀d,o.dst=some d→s=qu fr d
theorem qes(hE:XOk P E){fr:Tr 3 SV}{o:Oper}{hp:Tr 6 XB}{r:R}(h:VM E fr o hp r=.ok ρ):qhe P LM fr o hp∧r=.ok ρ:=by
 obtain⟨s,hx,h⟩:=JE h;cases e:o.dst with
 |none=>
  rw[e]at h;exact⟨fun H hH=>⟨s,QY hE hH hx,fun d hd=>by rw[e]at hd;cases hd⟩,h⟩
 |some d=>
  rw[e]at h;obtain⟨h1,h⟩:=qjf h;exact⟨fun H hH=>⟨s,QY hE hH hx,fun d' hd=>by rw[e]at hd;cases hd;exact qcx _ _ _ h1⟩,h⟩
theorem qcB(hE:XOk P E){fr:Tr 3 SV}{o:Oper}{lo hi tx:Nat}{r:R}:∀{hs:List (Tr 6 XB)}{k:Nat},Qc E fr o lo hi tx r hs k=.ok ρ→r=.ok ρ∧∀j y,hs[j]? = some y→lo≤k+j→k+j≤hi→k+j≠tx→qhe P LM fr o y
 |[],k,h=>⟨h,fun j y hj=>by simp at hj⟩
 |hp :: hs,k,h=>by
  have h:(Bool.rec (qk (Nat.succ k) fun k=>Qc E fr o lo hi tx r hs k) (VM E fr o hp (qk (Nat.succ k) fun k=>Qc E fr o lo hi tx r hs k)) (Nat.ble lo k&&(Nat.ble k hi&&!(Nat.beq k tx))):R)=.ok ρ:=h;have key:(qk (Nat.succ k) fun k=>Qc E fr o lo hi tx r hs k)=.ok ρ∧(lo≤k→k≤hi→k≠tx→qhe P LM fr o hp):=by
   cases q:(Nat.ble lo k&&(Nat.ble k hi&&!(Nat.beq k tx)))with
   |false=>
    rw[q]at h;refine⟨h,fun h1 h2 h3=>?_⟩;have:(Nat.ble lo k&&(Nat.ble k hi&&!(Nat.beq k tx)))=true:=by
     simp only[xe6,Bool.not_eq_true',Nat.ble_eq];exact⟨h1,h2,by cases c:Nat.beq k tx with
      |false=>rfl
      |true=>exact absurd (xa6 c) h3⟩
    rw[q]at this;cases this
   |true=>
    rw[q]at h;obtain⟨h1,h2⟩:=qes (LM:=LM) hE h;exact⟨h2,fun _ _ _=>h1⟩
  obtain⟨h1,h2⟩:=key;rw[qi]at h1;obtain⟨h3,h4⟩:=qcB hE h1;refine⟨h3,fun j y hj a b c=>?_⟩;cases j with
  |zero=>simp at hj;subst hj;exact h2 a b c
  |succ j=>exact h4 j y Ω3 Ω Ω Ω
theorem qcC(hE:XOk P E){l:List Oper}{fr:Tr 3 SV}{hs:List (Tr 6 XB)}{r:R}:∀{ops:List Oper}{i:Nat},Gt E l fr hs r ops i=.ok ρ→r=.ok ρ∧∀j o,ops[j]? = some o→(zF fr o.op&&ZU (dsts l) o fr)=true→∀k y,hs[k]? = some y→loC l (i+j)≤k→k≤hiC l (i+j)→k≠kc (efL l) (i+j)→qhe P LM fr o y
 |[],i,h=>⟨h,fun j o hj=>by simp at hj⟩
 |o :: ops,i,h=>by
  have h:(Bool.rec (qk (Nat.succ i) fun i=>Gt E l fr hs r ops i) (qk (loC l i) fun lo=>qk (hiC l i) fun hi=>qk (kc (efL l) i) fun tx=>Qc E fr o lo hi tx (qk (Nat.succ i) fun i=>Gt E l fr hs r ops i) hs 0) (zF fr o.op&&ZU (dsts l) o fr):R)=.ok ρ:=h;have key:(qk (Nat.succ i) fun i=>Gt E l fr hs r ops i)=.ok ρ∧((zF fr o.op&&ZU (dsts l) o fr)=true→∀k y,hs[k]? = some y→loC l i≤k→k≤hiC l i→k≠kc (efL l) i→qhe P LM fr o y):=by
   cases q:(zF fr o.op&&ZU (dsts l) o fr)with
   |false=>rw[q]at h;exact⟨h,fun e=>by cases e⟩
   |true=>
    rw[q]at h;have h:(qk (loC l i) fun lo=>qk (hiC l i) fun hi=>qk (kc (efL l) i) fun tx=>Qc E fr o lo hi tx (qk (Nat.succ i) fun i=>Gt E l fr hs r ops i) hs 0)=.ok ρ:=h;rw[qi,qi,qi]at h;obtain⟨h1,h2⟩:=qcB (LM:=LM) hE h;exact⟨h1,fun _ k y hk a b c=>h2 k y hk Ω Ω Ω⟩
  obtain⟨h1,h2⟩:=key;rw[qi]at h1;obtain⟨h3,h4⟩:=qcC hE h1;refine⟨h3,fun j o' hj hr k y hk a b c=>?_⟩;cases j with
  |zero=>simp at hj;subst hj;exact h2 hr k y hk a b c
  |succ j=>
   have e:i+(j+1)=i+1+j:=by omega
   rw[e]at a b c;exact h4 j o' Ω3 hr k y hk a b c
theorem qjE(hm:P.follows .mixedOrders=true)(hE:XOk P E)(hf:vT P E){run:XC}(hrun:jP P run){O:Ctx}{id:Nat}{l:List Oper}{fr:Tr 3 SV}{hp:Tr 6 XB}{nid:Nat}{f:XK}{st:St}{K:Ex→St→Prop}{g:Tag K}(hs:StR LM fr hp nid st)(h:qjC E run l fr hp nid f=.ok ρ)
  (hk:∀e fr' hp' nid' st',StR LM fr' hp' nid' st'→f e fr' hp' nid'=.ok ρ→K e st'):j5 P O id l true st K g:=by
 obtain⟨q,h⟩:=qe h;rw[qi]at h;have hc:=Jz q;obtain⟨res,sk,X,Y,Z,hs',e1,e2,e3,hg,hst,hsg,hpr⟩:=Gu (LM:=LM) hm hE hf hrun h (k0:=0) rfl rfl;obtain⟨hfin,hck⟩:=qcC (LM:=LM) hE hg;rw[qi]at hfin;have hsi:∀i,i<l.length→∃o,l[i]? = some o:=fun i hi=>⟨l[i],by simp[hi]⟩;have hX:∀j,j≤l.length→∀t,qu (X j) t=FS (nth (dsts l)) res (fun _=>true) (look st.fr) j t:=by
  intro j
  induction j with
  |zero=>intro _ t;rw[e1];exact(hs.1 t).symm
  |succ j ih=>
   intro hj t;obtain⟨o,ho⟩:=hsi j Ω;have hd:nth (dsts l) j=o.dst:=by rw[za,ho];rfl
   rw[(hst j o ho).1 t,ih Ω t];simp only[FS,hd,true_and]
 have hopd:∀i o,l[i]? = some o→∀t,t∈zI o→qu (X l.length) t=qu (X i) t:=by
  intro i o ho t ht;have hi:i<l.length:=(List.getElem?_eq_some_iff.1 ho).1;rw[hX _ (xa5 _),hX i Ω];refine VG Ω fun x hx hxl hd=>?_;have:=hc.lt i x hi (hc.ops i o t x ho ht hxl hd);omega
 have hef:∀i o,l[i]? = some o→efL l i=gm o.op:=fun i o ho=>by simp[efL,ho]
 have hY:∀j,j<l.length→efL l j=false→Y (j+1)=Y j∧Z (j+1)=Z j:=by
  intro j hj he;obtain⟨o,ho⟩:=hsi j hj;exact(hst j o ho).2.2.2.1 (by rw[←hef j o ho];exact he)
 have hgt:∀i o g want t,l[i]? = some o→o.guard=some (g,want)→nth (dsts l) g=some t→qu (X l.length) t=qu (X i) t:=by
  intro i o g want t ho hgd ht;have hi:i<l.length:=(List.getElem?_eq_some_iff.1 ho).1;have hgl:=hc.lt i g hi (hc.grd i o g want ho hgd).1;rw[hX _ (xa5 _),hX i Ω];refine VG Ω fun x hx hxl hd=>?_;exact hc.dist x g t Ω hxl hd ht
 have hgX:∀i o,l[i]? = some o→gdX (dsts l) o.guard (X l.length)=gdX (dsts l) o.guard (X i):=by
  intro i o ho;unfold gdX;cases hgd:o.guard with
  |none=>rfl
  |some p=>
   obtain⟨g,want⟩:=p;dsimp only;cases ht:nth (dsts l) g with
   |none=>rfl
   |some t=>dsimp only;rw[hgt i o g want t ho hgd ht]
 refine Ya hm hc res Y Z (qu (X l.length)) sk (fun i o ho=>?_) hY (fun t=>hX _ (xa5 _) t) (by rw[e2];exact hs.2.1) (by rw[e3];exact hs.2.2) ?_ ?_ ?_
 ·obtain⟨_,s2,s3,s4,_,_⟩:=hst i o ho
  rw[←hgX i o ho]at s2;refine⟨?_,fun hs=>⟨(s3 hs).2.1,fun he=>(s3 hs).2.2 (by rw[←hef i o ho];exact he),fun d hd=>(s3 hs).1⟩⟩;unfold gdX at s2;unfold Grd;cases hgd:o.guard with
  |none=>rw[hgd]at s2;exact(Option.some.inj s2).symm
  |some p=>
   obtain⟨g,want⟩:=p;rw[hgd]at s2;dsimp only at s2;split at s2
   ·cases s2
   ·rename_i t ht
    refine⟨t,ht,?_⟩;split at s2
    ·rename_i b hb
     exact .inl ⟨b,hb,(Option.some.inj s2).symm⟩
    ·rename_i vs hb
     exact .inr ⟨⟨vs,hb⟩,(Option.some.inj s2).symm⟩
    ·cases s2
 ·intro i o ho hsk he j hj hlo hhi F H hF hH
  have hi:i<l.length:=(List.getElem?_eq_some_iff.1 ho).1;obtain⟨p1,p2⟩:=(hst i o ho).2.2.2.2.1 hsk (by rw[←hef i o ho];exact he);have hFi:∀t,t∈zI o→F t=qu (X i) t:=fun t ht=>by rw[hF t ht,hopd i o ho t ht]
  by_cases c:kc (efL l) j=kc (efL l) i
  ·have hst2:Y j=Y i:=by
    by_cases d:j≤i
    ·exact(vb hY d Ω c).1
    ·exact(vb hY (Ω:i≤j) hj c.symm).1.symm
   exact⟨_,(p1 H (by rw[←hst2];exact hH)).congr hFi,fun _ _=>rfl⟩
  ·have hsee:zF (X l.length) o.op=zF (X i) o.op:=by
    unfold zF
    congr 2
    unfold qlg;split
    ·rename_i t x hop
     have:qY (X l.length) x=qY (X i) x:=by
      cases x<;>first|rfl|skip
      rename_i t;exact hopd i o ho t (Qd (by rw[hop];simp[Op.operands]))
     rw[this]
    ·rfl
   cases d:zF (X i) o.op with
   |false=>
    exact⟨_,(p2 d H).congr hFi,fun _ _=>rfl⟩
   |true=>
    have h1:=hsg j hj;rw[xb0]at h1;have:=hck i o ho (by rw[hsee,d,xf0];unfold ZU;rw[hgX i o ho,(hst i o ho).2.1,hsk]) _ _ h1 (by rw[xb0];exact hlo) (by rw[xb0];exact hhi) (by rw[xb0];exact c) H hH;obtain⟨s,hs1,hs2⟩:=this;refine⟨s,?_,fun d hd=>?_⟩
    ·exact hs1.congr hF
    ·rw[hs2 d hd,hX _ (xa5 _)]
     have hdi:nth (dsts l) i=some d:=by rw[za,ho];exact hd
     refine VB hdi rfl hi fun x hx hxd=>?_;refine xf9 fun hne=>?_;by_cases hlt:x<i
     ·exact hc.dist i x d hlt hi hdi hxd
     ·exact hc.dist x i d Ω hx hxd hdi
 ·intro i o ho hsk he st1 hops hH hn K' hk'
  exact(hst i o ho).2.2.2.2.2 hsk (by rw[←hef i o ho];exact he) O st1 (fun t ht=>by rw[hops t ht,hopd i o ho t ht]) hH hn K' hk'
 ·intro st' hf' hH' hn'
  exact hk _ _ _ _ _ ⟨hf',hH',hn'⟩ hfin
def qet(P:Program)(O:Ctx)(ds:List (Option Tmp)):List Oper→St→(St→Prop)→Prop
 |[],st,K=>∃st1,Weak O st st1∧K st1
 |o :: rest,st,K=>∃st1,Weak O st st1∧opH P O ds o st1 fun st'=>qet P O ds rest st' K
theorem qcD{O:Ctx}{base:World}{okc:Nat→Prop}{ns:Nat}{outs:gD}{ro:Option Nat}{allops:Array Oper}{Q:Exit→Act→World→Prop}{K:St→Prop}:∀(ops:List Oper)(st:St)(a:Act)(w:World),Inv O base okc ns st.nid outs st a w→ops.all (kL ns)=true→
  qet P O (dsts allops.toList) ops st K→(∀st' a' w',K st'→Inv O base okc ns st'.nid outs st' a' w'→Q .normal a' w')→wpListIn (FR ro) 0 P allops Q ops a w
 |[],st,a,w,h,hd,⟨st1,hw,hk⟩,hK=>hK st1 a w hk (hw _ _ _ _ _ _ h)
 |o :: rest,st,a,w,h,hd,⟨st1,hw,hk⟩,hK=>by
  simp only[List.all_cons,xe6]at hd;unfold wpListIn;exact Vm (hw _ _ _ _ _ _ h) hd.1 hk fun st' a' w' hk' hi'=>qcD rest st' a' w' hi' hd.2 hk' hK
theorem qjF{O:Ctx}{st:St}{K:Ex→St→Prop}{id:Nat}{ops:List Oper}{g:Tag K}(h:qet P O (dsts ops) ops st (fun st'=>K .normal st')):j5 P O id ops false st K g:=by
 intro base okc ns outs a w ro Q hro hc hi hK;simp only[qD,xe6]at hc;obtain⟨hd,-⟩:=hc;have hd:ops.all (kL ns)=true:=by simpa using hd
 refine wpIn_region_list ?_;have:=qcD (ro:=ro) (allops:=ops.toArray) (Q:=Q) (K:=fun st'=>K .normal st') ops st a w hi hd Ω5 fun st' a' w' hk hi'=>hK .normal st' a' w' hk hi';simpa using this
theorem qhf{O:Ctx}{n:Nat}{all:List Oper}{K:St→Prop}:∀{l:List Oper}{res:Nat→SV}{sk:Nat→Bool}{X:Nat→Tr 3 SV}{Y:Nat→Tr 6 XB}{Z:Nat→Nat}{st:St}{d:Nat},(∀i o,l[i]? = some o→Yj P LM n (dsts all) o (sk i) (res i) (X i) (X (i+1)) (Y i) (Y (i+1)) (Z i) (Z (i+1)))→FRel (X 0) st.fr→HRel LM (Y 0) st.hp→st.nid≤Z 0+d→d+l.length≤n→
  (∀st',FRel (X l.length) st'.fr→HRel LM (Y l.length) st'.hp→st'.nid=Z l.length+n→K st')→qet P O (dsts all) l st K
 |[],res,sk,X,Y,Z,st,d,h,hF,hH,hn,hd,hk=>by
  have hd:d≤n:=by simpa using hd
  have hk:∀st',FRel (X 0) st'.fr→HRel LM (Y 0) st'.hp→st'.nid=Z 0+n→K st':=hk;exact⟨{ st with nid:=Z 0+n },yW _ _ _ Ω,hk _ hF hH rfl⟩
 |o :: l,res,sk,X,Y,Z,st,d,h,hF,hH,hn,hd,hk=>by
  have hst:=h 0 o rfl;have hd:d+(l.length+1)≤n:=by simpa using hd
  have next:∀st',FRel (X 1) st'.fr→HRel LM (Y 1) st'.hp→st'.nid≤Z 1+(d+1)→qet P O (dsts all) l st' K:=fun st' hf' hs' hn'=>
   qhf (l:=l) (res:=fun i=>res (i+1)) (sk:=fun i=>sk (i+1)) (X:=fun i=>X (i+1)) (Y:=fun i=>Y (i+1)) (Z:=fun i=>Z (i+1)) (d:=d+1) (fun i o' ho=>h (i+1) o' Ω9) hf' hs' hn' Ω hk
  obtain⟨s1,s2,s3,s4,s5,s6⟩:=hst;have s1:∀t,qu (X 1) t=if o.dst=some t then res 0 else qu (X 0) t:=s1
  have s4:gm o.op=false→Y 1=Y 0∧Z 1=Z 0:=s4;have s3:sk 0=true→res 0=undefSV∧Y 1=Y 0∧(gm o.op=true→Z 0+n≤Z 1):=s3;have hgrd:Grd all (look st.fr) o (sk 0):=by
   unfold gdX at s2;unfold Grd;cases hgd:o.guard with
   |none=>rw[hgd]at s2;exact(Option.some.inj s2).symm
   |some p=>
    obtain⟨g,want⟩:=p;rw[hgd]at s2;dsimp only at s2;split at s2
    ·cases s2
    ·rename_i t ht
     refine⟨t,ht,?_⟩;rw[hF t];split at s2
     ·rename_i b hb
      exact .inl ⟨b,hb,(Option.some.inj s2).symm⟩
     ·rename_i vs hb
      exact .inr ⟨⟨vs,hb⟩,(Option.some.inj s2).symm⟩
     ·cases s2
  have frs:∀(st2:St)(fr:List (Nat×SV)),(∀t,look st2.fr t=look st.fr t)→(∀t,look fr t=look (st2.put o.dst (res 0)).fr t)→FRel (X 1) fr:=fun st2 fr h2 h3 t=>by
   rw[h3,gn,s1 t,h2,hF t]
  cases q:gm o.op with
  |false=>
   obtain⟨y1,z1⟩:=s4 q;refine⟨st,Weak.refl _ _,Gl hgrd (fun hsk st2 h2 h2h h2n=>?_) (fun hsk st2 h2 h2h h2n=>?_)⟩
   ·obtain⟨p1,_⟩:=s5 hsk q
    have h1:=(p1 st2.hp (by rw[h2h];exact hH)).congr (F':=look st2.fr) fun t _=>by rw[h2,hF t]
    have f2:qet P O (dsts all) l ⟨inD o.dst (st2.put o.dst (res 0)).fr,(st2.put o.dst (res 0)).hp,(st2.put o.dst (res 0)).nid+1⟩ K:=next _ (frs st2 _ h2 fun t=>ge _ _ _) (by show HRel LM (Y 1) (st2.put o.dst (res 0)).hp;rw[zk,h2h,y1];exact hH) (by show(st2.put o.dst (res 0)).nid+1≤_;rw[qr,z1];omega);rcases h1 with(⟨obl,e,h⟩|⟨obl,e,h⟩)|⟨hnd,h⟩
    ·rw[e];exact .inl ⟨h,f2⟩
    ·rw[e];exact .inl ⟨_,h,f2⟩
    ·refine .inr ⟨hnd,(h O st2 (fun t _=>rfl) rfl).mono ?_⟩
     rintro st' res' ⟨rfl,rfl⟩;exact next _ (frs st' _ h2 fun t=>vH _ _ _ _) (by rw[vI,h2h,y1];exact hH) (by rw[ko,z1];omega)
   ·obtain⟨k1,k2,_⟩:=s3 hsk
    exact next _ (frs st2 _ h2 fun t=>by rw[vH,k1]) (by rw[vI,h2h,y1];exact hH) (by rw[ko,z1];omega)
  |true=>
   refine⟨{ st with nid:=Z 0+n },yW _ _ _ Ω,Gl (st:={ st with nid:=Z 0+n }) hgrd (fun hsk st2 h2 h2h h2n=>?_) (fun hsk st2 h2 h2h h2n=>?_)⟩
   ·refine .inl (s6 hsk q O st2 (fun t _=>by rw[h2];exact hF t) (by rw[h2h];exact hH) h2n _ fun st' hf' hH' hn'=>?_)
    exact next _ (frs st2 _ h2 fun t=>by rw[ge,hf']) hH' (by show st'.nid+1≤_;exact xc1 hn' (Nat.le_add_right _ _))
   ·obtain⟨k1,k2,k3⟩:=s3 hsk
    exact next _ (frs st2 _ h2 fun t=>by rw[vH,k1]) (by rw[vI,h2h,k2];exact hH) (by rw[ko,h2n];exact xc1 (k3 q) (Nat.le_add_right _ _))
def qlV(E:XE)(run:XC)(ops:List Oper)(fr:Tr 3 SV)(hp:Tr 6 XB)(nid:Nat)(f:XK):R:=
 qk ops.length fun n=>gy E run n (dsts ops) ops fr hp nid [hp] fun fr hp nid hs=>qk (nid+n) fun nid=>f .normal fr hp nid
theorem qjG(hm:P.follows .mixedOrders=true)(hE:XOk P E)(hf:vT P E){run:XC}(hrun:jP P run){O:Ctx}{id:Nat}{l:List Oper}{fr:Tr 3 SV}{hp:Tr 6 XB}{nid:Nat}{f:XK}{st:St}{K:Ex→St→Prop}{g:Tag K}(hs:StR LM fr hp nid st)(h:qlV E run l fr hp nid f=.ok ρ)
  (hk:∀e fr' hp' nid' st',StR LM fr' hp' nid' st'→f e fr' hp' nid'=.ok ρ→K e st'):j5 P O id l false st K g:=by
 unfold qlV at h;rw[qi]at h;obtain⟨res,sk,X,Y,Z,hs',e1,e2,e3,hg,hst,hsg,hpr⟩:=Gu (LM:=LM) hm hE hf hrun h (k0:=0) rfl rfl;rw[qi]at hg;refine qjF (qhf (d:=0) hst (by rw[e1];exact hs.1) (by rw[e2];exact hs.2.1) (by rw[e3,hs.2.2];omega) Ω fun st' hf' hH' hn'=>?_);exact hk _ _ _ _ st' ⟨hf',hH',hn'⟩ hg
end
end
end Go.Sx
end
section
namespace Go.Sx
open Go.RowKit
noncomputable section
variable{ρ:Q}
def qeu(run:XC)(L:FL)(cx:CX)(b:Code)(f:XK):XK
 |.normal,fr,hp,nid=>run L cx b fr hp nid f
 |.exit i,fr,hp,nid=>f (.exit i) fr hp nid
 |.ret,fr,hp,nid=>f .ret fr hp nid
def qhg(id:Nat)(f:XK):XK
 |.normal,fr,hp,nid=>f .normal fr hp nid
 |.exit i,fr,hp,nid=>Bool.rec (f (.exit i) fr hp nid) (f .normal fr hp nid) (Nat.beq i id)
 |.ret,fr,hp,nid=>f .ret fr hp nid
def qhh(v:SV)(a b:R):R:=
 match v with
 |.val (.bool c)=>Bool.rec b a c
 |_=>.bad 320 0
def qhi(bk:SV→Option Nat)(fr:Tr 3 SV)(l:List (Nat×Nat))(k:R):R:=
 List.rec (motive:=fun _=>R) k (fun p _ ih=>match bk (qu fr p.1),bk (qu fr p.2)with
  |some i,some j=>qj 360 (!(Nat.beq i j)) ih
  |_,_=>ih) l
def Gv(ops:List Oper)(f:XK)(fr:Tr 3 SV)(hp:Tr 6 XB)(nid:Nat):R:=qk (nid+ops.length) fun nid=>f .normal fr hp nid
def qoz(mid:Nat)(fr:Tr 3 SV)(l:List Tmp):Bool:=l.all fun a=>match qO (qu fr a)with
 |some i=>!(Nat.beq i mid)
 |none=>true
def qhj(q:EI)(ops:List Oper)(fr:Tr 3 SV)(hp:Tr 6 XB)(k:R):R:=match qu fr q.mm with
 |.mp mid=>(match hp.find mid with
  |some (.map _ _ _)=>qj 365 (qoz mid fr (QM ops)) k
  |_=>.bad 366 0)
 |_=>.bad 367 0
def qnx(te tx:Tmp)(fr:Tr 3 SV)(g:Tr 3 SV→R):R:=qW (some .top) 22 fr te fun fr=>qW (some .top) 22 fr tx g
def qlW(E:XE)(run:XC)(cx:CX)(ops:List Oper)(l:List (Nat×Nat))(fr:Tr 3 SV)(hp:Tr 6 XB)(nid:Nat)(f:XK):R:=
 match entI ops with
 |some q=>qj 363 (qgI q l ops) (QW E run cx false (dsts ops) (QL q.e q.x q.s q.upd 0 ops) 0 fr hp nid fun fr hp nid=>qhi qO fr l (qhj q ops fr hp (qnx q.te q.tx fr fun fr=>Gv ops f fr hp nid)))
 |none=>.bad 368 0
def qaV(E:XE)(run:XC)(L:FL)(cx:CX)(id:Nat)(d:Bool)(ops:List Oper)(fr:Tr 3 SV)(hp:Tr 6 XB)(nid:Nat)(f:XK):R:=
 match zJ L id with
 |[]=>QW E run cx (kD d ops) (dsts ops) ops 0 fr hp nid (Gv ops f)
 |(a,b) :: l=>Bool.rec (QW E run cx (kD d ops) (dsts ops) ops 0 fr hp nid fun fr hp nid=>qhi qO fr ((a,b) :: l) (Gv ops f fr hp nid))
  (Bool.rec (qj 361 d (Bool.rec (Bool.rec (.bad 362 0) (qjC E run ops fr hp nid f) (Nat.beq a 2)) (qlW E run cx ops l fr hp nid f) (Nat.beq a 1))) (qj 364 (!d) (qlV E run ops fr hp nid f)) (Nat.beq a 3)) (Nat.beq a b)
def VP(id:Nat)(fr:Tr 3 SV)(f:XK)(hp:Tr 6 XB)(nid:Nat):R:=
 match hp.find id with
 |some (.loop s)=>qW none 22 hp id fun hp=>(match s with
  |.ready=>f .normal fr hp nid
  |.retd=>f .ret fr hp nid
  |.left i=>f (.exit i) fr hp nid
  |_=>.bad 350 0)
 |_=>.bad 351 0
def VQ(E:XE)(run:XC)(L:FL)(v:SV)(ps:List Tmp)(a b:Code)(fr:Tr 3 SV)(hp:Tr 6 XB)(nid:Nat)(f:XK):R:=
 match v with
 |.fn (.func g) [] caps=>(match E.fns g with
  |some (fn,[])=>(match fn.body,fn.results.toList with
   |some c,[]=>qj 352 (Nat.ble (caps.length+1) fn.ntmps) (qW (some (.loop .ready)) 22 hp nid fun hp1=>VL (.yld nid :: caps) 0 .nil fun fr1=>qk (Nat.succ nid) fun n1=>run [] (.gen nid L fr ps a b) c fr1 hp1 n1 fun e _ hp3 nid3=>(match e with
    |.exit _=>.bad 353 0
    |.normal=>VP nid fr f hp3 nid3
    |.ret=>VP nid fr f hp3 nid3))
   |_,_=>.bad 354 0)
  |_=>.bad 355 g)
 |_=>.bad 356 0
def JF(E:XE)(run:XC)(L:FL)(cx:CX)(c:Code)(fr:Tr 3 SV)(hp:Tr 6 XB)(nid:Nat)(f:XK):R:=
 match c with
 |.skip=>f .normal fr hp nid
 |.label _=>f .normal fr hp nid
 |.seq a b=>run L cx a fr hp nid (qeu run L cx b f)
 |.cond x a b=>qhh (qY fr x) (run L cx a fr hp nid f) (run L cx b fr hp nid f)
 |.block id c=>run L cx c fr hp nid (qhg id f)
 |.exit id=>f (.exit id) fr hp nid
 |.ret=>f .ret fr hp nid
 |.scope c=>run L cx c fr hp nid f
 |.loop c=>run L cx c fr hp nid (qeu run L cx (.loop c) f)
 |.region id ops d=>qaV E run L cx id d ops.toList fr hp nid f
 |.rangeFunc x ps a b=>(match cx with
  |.rnd=>.bad 357 0
  |_=>VQ E run L (qY fr x) ps.toList a b fr hp nid f)
 |_=>.bad 321 0
section
variable{P:Program}{E:XE}
theorem HRel.lm{LM LM':Nat→Option Loop}{hp:Tr 6 XB}{H:List (Nat×Blk)}(h:HRel LM hp H)(e:∀id b,hp.find id=some b→LM' id=LM id):HRel LM' hp H:=fun id b hb=>by
 rw[e id b hb];exact h id b hb
theorem qev(hm:P.follows .mixedOrders=true)(hf:vT P E){run:XC}(hrun:jP P run){LM:Nat→Option Loop}{fs:List Fr}{lo:Nat}{L:FL}{x:Operand}{ps:List Tmp}{a b:Code}{st:St}{fr:Tr 3 SV}{hp:Tr 6 XB}{n0:Nat}{f:XK}{K:Ex→St→Prop}(hs:StR LM fr hp n0 st)(h:VQ E run L (qY fr x) ps a b fr hp n0 f=.ok ρ)
  (hk:∀e fr' hp' nid' st',StR LM fr' hp' nid' st'→f e fr' hp' nid'=.ok ρ→K e st'):ws P ⟨fs,lo,false,zJ L⟩ (.rangeFunc x ps.toArray a b) st K:=by
 obtain⟨F,H,nid⟩:=st;obtain⟨s1,s2,s3⟩:=hs;have s3:nid=n0:=s3;subst s3;have s1:FRel fr F:=s1;have s2:HRel LM hp H:=s2;unfold VQ at h;split at h
 ·rename_i g caps hv
  split at h
  ·rename_i fn hfn
   obtain⟨c,hc⟩:=hf _ _ _ hfn;split at h
   ·rename_i c' hb hr
    have:c'=c:=by rw[hc.body]at hb;cases hb;rfl
    subst this;obtain⟨q,h⟩:=qe h;obtain⟨hp1,p1,h⟩:=qz _ _ _ _ h;obtain⟨fr1,f1,h⟩:=yg h;rw[qi]at h;refine Jr hm rfl (by rw[s1.fn.env];exact hv) hc.at_ hc.body hc.name hc.ok hr (xa7 q) fun out Lr hL=>?_;generalize hLM:(fun i=>if i=nid then some Lr else LM i)=LM';have eL:LM' nid=some Lr:=by rw[←hLM];show(if nid=nid then some Lr else LM nid)=_;rw[if_pos rfl]
    have eO:∀i,i≠nid→LM' i=LM i:=fun i hi=>by rw[←hLM];show(if i=nid then some Lr else LM i)=_;rw[if_neg hi]
    have r1:HRel LM' hp1 ((nid,.loop Lr .ready) :: H):=fun i y hy=>by
     rw[p1 i]at hy;by_cases c:i=nid
     ·rw[if_pos c]at hy;cases hy
      exact⟨.loop Lr .ready,by simp only[blk];rw[if_pos c],rfl,by rw[c];exact eL⟩
     ·rw[if_neg c]at hy;simp only[blk];rw[if_neg c,eO i c];exact s2 i y hy
    have fin:∀(hp3:Tr 6 XB)(nid3:Nat)(fr3:Tr 3 SV)(st3:St),StR LM' fr3 hp3 nid3 st3→VP nid fr f hp3 nid3=.ok ρ→j4 Lr F K st3.hp st3.nid nid (blk st3.hp nid):=by
     intro hp3 nid3 fr3 st3 h3 hr;unfold VP at hr;split at hr
     ·rename_i s hb3
      rw[h3.2.1.loop hb3 eL];obtain⟨hp4,p4,hr⟩:=qz _ _ _ _ hr;have r4:StR LM fr hp4 nid3 ⟨F,dropBlk st3.hp nid,st3.nid⟩:=by
       refine⟨s1,(h3.2.1.drop p4).lm fun i y hy=>?_,h3.2.2⟩;rw[p4 i]at hy;by_cases c:i=nid
       ·rw[if_pos c]at hy;cases hy
       ·exact(eO i c).symm
      refine⟨rfl,?_⟩;cases s<;>first|exact hk _ _ _ _ _ r4 hr|cases hr
     ·cases hr
    refine hrun ρ LM' _ _ _ [] (.gen nid L fr ps a b) c' ⟨_,_,_⟩ fr1 hp1 (nid+1) _ _ ⟨rfl,Lr,F,eL,s1,hL⟩ ⟨f1,r1,rfl⟩ h fun e fr3 hp3 nid3 st3 h3 h=>?_;cases e with
    |exit i=>cases h
    |normal=>exact fin _ _ _ _ h3 h
    |ret=>exact fin _ _ _ _ h3 h
   ·cases h
  ·cases h
 ·cases h
theorem QZ{fr:Tr 3 SV}{st:St}(hF:FRel fr st.fr){X:Prop}{k:R}(hX:k=.ok ρ→X):∀{l:List (Nat×Nat)},qhi qO fr l k=.ok ρ→FarVC l st X
 |[],h=>hX h
 |(a,b) :: l,h=>by
  have h:(match qO (qu fr a),qO (qu fr b)with
   |some i,some j=>qj 360 (!(Nat.beq i j)) (qhi qO fr l k)
   |_,_=>qhi qO fr l k)=.ok ρ:=h
  show jX (look st.fr a) (look st.fr b)∧FarVC l st X;rw[hF a,hF b];unfold jX;split at h
  ·rename_i i j h1 h2
   rw[h1,h2];obtain⟨q,h⟩:=qe h;exact⟨fun e=>(by rw[e,Nat.beq_refl]at q;cases q),QZ hF hX h⟩
  ·rename_i hn
   refine⟨?_,QZ hF hX h⟩;split
   ·rename_i i j h1 h2;exact absurd h2 (hn i j h1)
   ·trivial
theorem qhk{q:EI}{ops:List Oper}{fr:Tr 3 SV}{hp:Tr 6 XB}{st:St}{LM:Nat→Option Loop}(hF:FRel fr st.fr)(hH:HRel LM hp st.hp){k:R}(h:qhj q ops fr hp k=.ok ρ):qnm q ops st∧k=.ok ρ:=by
 unfold qhj at h;split at h
 ·rename_i mid e1
  split at h
  ·rename_i e2
   obtain⟨h1,h2⟩:=qe h;refine⟨fun mid' hmid=>?_,h2⟩;rw[hF,e1]at hmid;injection hmid with hmid;subst hmid;refine⟨?_,fun a ha=>?_⟩
   ·obtain⟨b',hb,hr⟩:=hH _ _ e2
    cases b'<;>simp only[BRel]at hr
    exact⟨_,_,_,hb⟩
   ·rw[hF]
    have:=List.all_eq_true.1 h1 a ha;intro c;rw[c]at this;simp at this
  ·cases h
 ·cases h
theorem qjH{te tx:Tmp}{fr:Tr 3 SV}{g:Tr 3 SV→R}(h:qnx te tx fr g=.ok ρ):∃fr',(∀t,qu fr' t=if t=te∨t=tx then .top else qu fr t)∧g fr'=.ok ρ:=by
 obtain⟨f1,h1,h⟩:=qz _ _ _ _ h;obtain⟨f2,h2,h⟩:=qz _ _ _ _ h;refine⟨f2,fun t=>?_,h⟩;unfold qu;rw[h2,h1];by_cases c1:t=tx
 ·rw[if_pos c1,if_pos (.inr c1)]
 ·by_cases c2:t=te
  ·rw[if_neg c1,if_pos c2,if_pos (.inl c2)]
  ·rw[if_neg c1,if_neg c2,if_neg (by rintro(c|c)<;>contradiction)]
theorem qhl(hm:P.follows .mixedOrders=true)(hE:XOk P E)(hf:vT P E){run:XC}(hrun:jP P run)(hloop:∀(ρ:Q)(LM:Nat→Option Loop)(fs:List Fr)(lo:Nat)(rnd:Bool)(L:FL)(cx:CX)(c:Code)(st:St)(fr:Tr 3 SV)(hp:Tr 6 XB)(nid:Nat)(f:XK)(K:Ex→St→Prop),qeq LM fs rnd cx→StR LM fr hp nid st→run L cx c fr hp nid (qeu run L cx (.loop c) f)=.ok ρ→
  (∀e fr' hp' nid' st',StR LM fr' hp' nid' st'→f e fr' hp' nid'=.ok ρ→K e st')→vc P ⟨fs,lo,rnd,zJ L⟩ (.loop c) st K):jP P (JF E run):=by
 intro ρ LM fs lo rnd L cx c st fr hp nid f K hcx hs h hk;cases c<;>simp only[JF,reduceCtorEq]at h
 case skip=>exact hk _ _ _ _ _ hs h
 case label=>exact hk _ _ _ _ _ hs h
 case exit=>exact hk _ _ _ _ _ hs h
 case ret=>exact hk _ _ _ _ _ hs h
 case scope c=>exact hrun ρ LM _ _ _ _ _ c _ _ _ _ _ _ hcx hs h hk
 case seq a b=>
  refine hrun ρ LM _ _ _ _ _ a _ _ _ _ _ _ hcx hs h fun e fr' hp' nid' st' hs' h'=>?_;cases e with
  |normal=>exact hrun ρ LM _ _ _ _ _ b _ _ _ _ _ _ hcx hs' h' hk
  |exit i=>exact hk _ _ _ _ _ hs' h'
  |ret=>exact hk _ _ _ _ _ hs' h'
 case loop c=>exact hloop ρ LM _ _ _ _ _ c _ _ _ _ _ _ hcx hs h hk
 case block id c=>
  refine hrun ρ LM _ _ _ _ _ c _ _ _ _ _ _ hcx hs h fun e fr' hp' nid' st' hs' h'=>?_;cases e with
  |normal=>exact hk _ _ _ _ _ hs' h'
  |ret=>exact hk _ _ _ _ _ hs' h'
  |exit i=>
   have h':(Bool.rec (f (.exit i) fr' hp' nid') (f .normal fr' hp' nid') (Nat.beq i id):R)=.ok ρ:=h';show if i=id then K .normal st' else K (.exit i) st'
   cases e:Nat.beq i id with
   |true=>rw[e]at h';rw[if_pos (xa6 e)];exact hk _ _ _ _ _ hs' h'
   |false=>
    rw[e]at h';rw[if_neg (fun q=>by rw[q,Nat.beq_refl]at e;cases e)];exact hk _ _ _ _ _ hs' h'
 case rangeFunc x ps a b=>
  have key:rnd=false∧VQ E run L (qY fr x) ps.toList a b fr hp nid f=.ok ρ:=by
   cases cx with
   |top=>exact⟨hcx,h⟩
   |rnd=>cases h
   |gen y L0 fr0 ps0 a0 b0=>exact⟨hcx.1,h⟩
  obtain⟨rfl,h⟩:=key;have:=qev (fs:=fs) (lo:=lo) (x:=x) (ps:=ps.toList) hm hf hrun hs h hk;exact this
 case cond x a b=>
  show KS P (env (look st.fr) x) _ _;rw[hs.1.fn.env];unfold qhh at h;split at h
  ·rename_i b0 hb
   rw[hb];cases b0 with
   |true=>exact⟨fun _=>hrun ρ LM _ _ _ _ _ a _ _ _ _ _ _ hcx hs h hk,fun e=>by cases e⟩
   |false=>exact⟨fun e=>(by cases e),fun _=>hrun ρ LM _ _ _ _ _ b _ _ _ _ _ _ hcx hs h hk⟩
  ·cases h
 case region id ops d=>
  have done:∀fr' hp' nid' st',StR LM fr' hp' nid' st'→Gv ops.toList f fr' hp' nid'=.ok ρ→K .normal ⟨st'.fr,st'.hp,st'.nid+ops.toList.length⟩:=by
   intro fr' hp' nid' st' hs' h';unfold Gv at h';rw[qi]at h';exact hk _ _ _ _ ⟨st'.fr,st'.hp,st'.nid+ops.toList.length⟩ ⟨hs'.1,hs'.2.1,by rw[hs'.2.2]⟩ h'
  show(if g8 (zJ L id)=true then ws P _ (.region id ops d) st K else qZ P _ (kD d ops.toList=true) (dsts ops.toList) ops.toList 0 st (fun st'=>FarVC (zJ L id) st' (K .normal { st' with nid:=st'.nid+ops.toList.length })));unfold qaV at h;split at h
  ·rename_i hl
   rw[hl,if_neg (by simp[g8])];exact Kb hm hE hf hrun hcx (fun e=>e) hs h done
  ·rename_i a b l hl
   rw[hl];cases e:Nat.beq a b with
   |false=>
    rw[e]at h;have hab:a≠b:=fun q=>by rw[q,Nat.beq_refl]at e;cases e
    rw[if_neg (by simp[g8,hab])];refine Kb hm hE hf hrun hcx (fun e=>e) hs h fun fr' hp' nid' st' hs' h'=>?_;exact QZ hs'.1 (fun h'=>done _ _ _ _ hs' h') h'
   |true=>
    rw[e]at h;have hab:a=b:=xa6 e;rw[if_pos (by simp[g8,hab])];cases e3:Nat.beq a 3 with
    |true=>
     rw[e3]at h;obtain⟨q1,p1⟩:=qe h;have q1:d=false:=by cases d<;>first|rfl|cases q1
     subst q1;have:=qjG (P:=P) (O:=⟨fs,lo,rnd,zJ L⟩) (id:=id) (K:=K) (g:=.mk) hm hE hf hrun hs p1 hk;exact this
    |false=>
    rw[e3]at h;obtain⟨q1,p1⟩:=qe h;subst q1;cases e1:Nat.beq a 1 with
    |true=>
     rw[e1]at p1
     replace p1:qlW E run cx ops.toList l fr hp nid f=.ok ρ:=p1
     unfold qlW at p1;split at p1
     ·rename_i q hq
      obtain⟨q2,p2⟩:=qe p1;exact wE (P:=P) (O:=⟨fs,lo,rnd,zJ L⟩) (id:=id) (K:=K) (g:=.mk) (far:=l) hm (qju hq) q2 (Kb hm hE hf hrun hcx (J:=False) (fun e=>by cases e) hs p2 fun fr' hp' nid' st' hs' h'=>QZ hs'.1 (fun h'=>by
       obtain⟨h1,h2⟩:=qhk hs'.1 hs'.2.1 h';refine⟨h1,fun st2 hf2 hh2 hn2=>?_⟩;obtain⟨fr2,hfr2,h3⟩:=qjH h2;unfold Gv at h3;rw[qi]at h3;refine hk _ _ _ _ st2 ⟨fun t=>?_,fun i b hb=>?_,?_⟩ h3
       ·rw[hf2,hfr2,hs'.1]
       ·rw[hh2];exact hs'.2.1 i b hb
       ·rw[hn2,hs'.2.2]) h')
     ·cases p1
    |false=>
    rw[e1]at p1;cases e2:Nat.beq a 2 with
    |true=>
     rw[e2]at p1;have:=qjE (P:=P) (O:=⟨fs,lo,rnd,zJ L⟩) (id:=id) (K:=K) (g:=.mk) hm hE hf hrun hs p1 hk;exact this
    |false=>
    rw[e2]at p1;cases p1
end
end
end Go.Sx
end
section
namespace Go.Sx
open Go.RowKit
noncomputable section
def svF(s:SV):(Value→R)→R→R:=SV.rec (motive_1:=fun _=>(Value→R)→R→R) (motive_2:=fun _=>PUnit) (fun  f d=>d) (fun v f d=>f v) (fun _ _ f d=>d) (fun _ _ f d=>d) (fun _ _ _ _ _ f d=>d) (fun _ _ f d=>d) (fun _ _ _ _ f d=>d) (fun _ _ _ _ f d=>d) (fun _ _ _ _ _ _ f d=>d) (fun _ _ _ f d=>d) (fun _ f d=>d) (fun _ _ _ _ f d=>d) (fun _ _ _ _ f d=>d) (fun _ _ _ f d=>d) (fun _ _ _ _ _ f d=>d) (fun _ f d=>d) PUnit.unit (fun _ _ _ _=>PUnit.unit) s
def qoA(v:Value):(IntKind→Int→R)→R→R:=Value.rec (motive_1:=fun _=>(IntKind→Int→R)→R→R) (motive_2:=fun _=>PUnit) (motive_3:=fun _=>PUnit) (fun _ f d=>d) (fun k n f d=>f k n) (fun _ _ f d=>d) (fun _ _ _ f d=>d) (fun _ f d=>d) (fun _ f d=>d) (fun _ _ _ f d=>d) (fun _ f d=>d) (fun _ f d=>d) (fun _ _ _ _ _ f d=>d) (fun  f d=>d) (fun _ _ _ f d=>d) (fun  f d=>d) (fun _ _ f d=>d) (fun _ _ f d=>d) (fun _ _=>PUnit.unit) PUnit.unit (fun _ _ _ _=>PUnit.unit) v
def qny(v:Value):(Bool→R)→R→R:=Value.rec (motive_1:=fun _=>(Bool→R)→R→R) (motive_2:=fun _=>PUnit) (motive_3:=fun _=>PUnit) (fun b f d=>f b) (fun _ _ f d=>d) (fun _ _ f d=>d) (fun _ _ _ f d=>d) (fun _ f d=>d) (fun _ f d=>d) (fun _ _ _ f d=>d) (fun _ f d=>d) (fun _ f d=>d) (fun _ _ _ _ _ f d=>d) (fun  f d=>d) (fun _ _ _ f d=>d) (fun  f d=>d) (fun _ _ f d=>d) (fun _ _ f d=>d) (fun _ _=>PUnit.unit) PUnit.unit (fun _ _ _ _=>PUnit.unit) v
def qcE(s:SV)(f:IntKind→Int→R)(d:R):R:=svF s (fun v=>qoA v f d) d
def qlX(s:SV)(f:Bool→R)(d:R):R:=svF s (fun v=>qny v f d) d
def kA(k:IntKind):Nat:=IntKind.rec 100 101 2 3 4 5 6 7 k
def kB(k:IntKind):Nat:=IntKind.rec 102 103 2 3 4 5 6 7 k
def qlY(k k':IntKind):Bool:=Nat.beq (kA k) (kB k')
theorem qjI(k k':IntKind):qlY k k'=eqKind k k':=by cases k<;>cases k'<;>rfl
def qlZ(a b:Int):IntKind→(XR→R)→R:=Int.rec (fun x=>Int.rec (fun y k f=>qk (Nat.add x y) fun n=>Bool.rec (.bad 19 0) (f (.pure (.val (.int k (.ofNat n))))) (Nat.ble n (hiK k))) (fun y k f=>jm 19 k (Int.add (.ofNat x) (.negSucc y)) f) b) (fun x k f=>jm 19 k (Int.add (.negSucc x) b) f) a
theorem qjJ(a b:Int)(k:IntKind)(f:XR→R):qlZ a b k f=jm 19 k (Int.add a b) f:=by
 cases a with
 |negSucc x=>rfl
 |ofNat x=>cases b with
  |negSucc y=>rfl
  |ofNat y=>
   have e:qlZ (.ofNat x) (.ofNat y) k f=qk (Nat.add x y) fun n=>Bool.rec (.bad 19 0) (f (.pure (.val (.int k (.ofNat n))))) (Nat.ble n (hiK k)):=rfl;rw[e,qi];unfold jm;rw[jl];rfl
def qnz(a b:Int):IntKind→(XR→R)→R:=Int.rec (fun x=>Int.rec (fun y k f=>Bool.rec (jm 20 k (Int.sub (.ofNat x) (.ofNat y)) f) (qk (Nat.sub x y) fun n=>Bool.rec (.bad 20 0) (f (.pure (.val (.int k (.ofNat n))))) (Nat.ble n (hiK k))) (Nat.ble y x)) (fun y k f=>jm 20 k (Int.sub (.ofNat x) (.negSucc y)) f) b) (fun x k f=>jm 20 k (Int.sub (.negSucc x) b) f) a
theorem qjK(a b:Int)(k:IntKind)(f:XR→R):qnz a b k f=jm 20 k (Int.sub a b) f:=by
 cases a with
 |negSucc x=>rfl
 |ofNat x=>cases b with
  |negSucc y=>rfl
  |ofNat y=>
   show(Bool.rec _ _ (Nat.ble y x):R)=_;cases h:Nat.ble y x with
   |false=>rfl
   |true=>
    have e:Int.sub (.ofNat x) (.ofNat y)=.ofNat (x - y):=by
     have:=xa7 h;show(Int.ofNat x - Int.ofNat y)=_;simp only[Int.ofNat_eq_natCast];omega
    rw[e];show qk (Nat.sub x y) _=jm 20 k (Int.ofNat (x - y)) f;unfold jm;rw[qi,jl];rfl
def qma(a b:Int):IntKind→(XR→R)→R:=Int.rec (fun x=>Int.rec (fun y k f=>qk (Nat.mul x y) fun n=>Bool.rec (.bad 21 0) (f (.pure (.val (.int k (.ofNat n))))) (Nat.ble n (hiK k))) (fun y k f=>jm 21 k (Int.mul (.ofNat x) (.negSucc y)) f) b) (fun x k f=>jm 21 k (Int.mul (.negSucc x) b) f) a
theorem qjL(a b:Int)(k:IntKind)(f:XR→R):qma a b k f=jm 21 k (Int.mul a b) f:=by
 cases a with
 |negSucc x=>rfl
 |ofNat x=>cases b with
  |negSucc y=>rfl
  |ofNat y=>
   have e:qma (.ofNat x) (.ofNat y) k f=qk (Nat.mul x y) fun n=>Bool.rec (.bad 21 0) (f (.pure (.val (.int k (.ofNat n))))) (Nat.ble n (hiK k)):=rfl;rw[e,qi];unfold jm;rw[jl];rfl
def qhm(op:BinOp):Bx (IntKind→Int→Int→(XR→R)→R):=
 match op with
 |.add=>.mk fun k a b f=>qlZ a b k f
 |.sub=>.mk fun k a b f=>qnz a b k f
 |.mul=>.mk fun k a b f=>qma a b k f
 |.eql=>.mk fun k a b f=>ZJ (GW a b) fun b=>f (.pure (.val (.bool b)))
 |.neq=>.mk fun k a b f=>Bool.rec (f (.pure (.val (.bool true)))) (f (.pure (.val (.bool false)))) (GW a b)
 |.lss=>.mk fun k a b f=>ZJ (ZT a b) fun b=>f (.pure (.val (.bool b)))
 |.leq=>.mk fun k a b f=>Bool.rec (f (.pure (.val (.bool true)))) (f (.pure (.val (.bool false)))) (ZT b a)
 |.gtr=>.mk fun k a b f=>ZJ (ZT b a) fun b=>f (.pure (.val (.bool b)))
 |.geq=>.mk fun k a b f=>Bool.rec (f (.pure (.val (.bool true)))) (f (.pure (.val (.bool false)))) (ZT a b)
 |op=>.mk fun k a b f=>qed op k a b f
theorem qhn(b:Bool)(f:XR→R):(Bool.rec (f (.pure (.val (.bool true)))) (f (.pure (.val (.bool false)))) b:R)=yU (!b) f:=by
 rw[jn];cases b<;>rfl
theorem qjM(op:BinOp)(k:IntKind)(a b:Int)(f:XR→R):(qhm op).get k a b f=qed op k a b f:=by
 cases op<;>first
  |rfl
  |exact qjJ _ _ _ _
  |exact qjK _ _ _ _
  |exact qjL _ _ _ _
  |exact qhn _ _
def qho(l:List SV):Nat→(SV→R)→R→R:=List.rec (fun _ _ d=>d) (fun a _ ih i=>Nat.rec (fun f _=>f a) (fun j _=>ih j) i) l
theorem qcF:∀(l:List SV)(i:Nat)(f:SV→R)(d:R),qho l i f d=(match l[i]? with|some s=>f s|none=>d)
 |[],i,f,d=>by cases i<;>rfl
 |a :: l,0,f,d=>rfl
 |a :: l,i+1,f,d=>by
  rw[xd7,←qcF l i f d];rfl
def qcG(l:List SV):Nat→(List SV→R)→R:=List.rec (fun i g=>Nat.rec (g []) (fun _ _=>.bad 65 0) i) (fun a _ ih i=>Nat.rec (fun g=>g []) (fun j _ g=>ih j fun m=>g (a :: m)) i) l
def qcH(l:List SV):Nat→Nat→(List SV→R)→R:=List.rec (fun o sz g=>Nat.rec (Nat.rec (g []) (fun _ _=>.bad 65 0) sz) (fun _ _=>.bad 65 0) o) (fun a tl ih o=>Nat.rec (fun sz g=>qcG (a :: tl) sz g) (fun j _ sz g=>ih j sz g) o) l
theorem Yk:∀(l:List SV)(n:Nat)(g:List SV→R),qcG l n g=qj 65 (Nat.ble n l.length) (g (l.take n))
 |[],0,g=>rfl
 |[],n+1,g=>rfl
 |a :: l,0,g=>rfl
 |a :: l,n+1,g=>by
  show qcG l n (fun m=>g (a :: m))=_;rw[Yk l n];rfl
theorem Yl:∀(l:List SV)(o n:Nat)(g:List SV→R),qcH l o n g=qj 65 (Nat.ble (o+n) l.length) (g ((l.drop o).take n))
 |[],0,0,g=>rfl
 |[],0,n+1,g=>by rw[xb0];rfl
 |[],o+1,n,g=>by rw[show o+1+n=(o+n)+1 by omega];rfl
 |a :: l,0,n,g=>by
  show qcG (a :: l) n g=_;rw[Yk,xb0];rfl
 |a :: l,o+1,n,g=>by
  show qcH l o n g=_;rw[Yl l o n,show o+1+n=(o+n)+1 by omega];rfl
def qhp(l:List SV):Nat→SV→(List SV→R)→R:=List.rec (fun _ _ _=>.bad 78 0) (fun a tl ih o=>Nat.rec (fun s g=>g (s :: tl)) (fun j _ s g=>ih j s fun m=>g (a :: m)) o) l
theorem VR:∀(l:List SV)(o:Nat)(s:SV)(g:List SV→R),qhp l o s g=WV s l o g
 |[],o,s,g=>by unfold WV;cases o<;>rfl
 |a :: l,0,s,g=>by unfold WV;rw[qQ];rfl
 |a :: l,o+1,s,g=>by
  show qhp l o s (fun m=>g (a :: m))=_;rw[VR l o s];unfold WV;rw[qQ,qQ];rfl
def ldC(b:Option XB)(off:Nat)(f:XR→R):R:=Option.rec (motive:=fun _=>Nat→(XR→R)→R) (fun _ _=>.bad 69 0) (fun b=>XB.rec (motive:=fun _=>Nat→(XR→R)→R) (fun _ l off f=>qho l off (fun s=>f (.pure s)) (.bad 64 0)) (fun _ _ _ _ _ _=>.bad 69 0) (fun _ _ _=>.bad 69 0) (fun _ _ _ _ _=>.bad 69 0) b) b off f
def ldR(b:Option XB)(k i j:Nat)(f:XR→R):R:=Option.rec (motive:=fun _=>Nat→Nat→Nat→(XR→R)→R) (fun _ _ _ _=>.bad 70 0) (fun b=>XB.rec (motive:=fun _=>Nat→Nat→Nat→(XR→R)→R) (fun _ _ _ _ _ _=>.bad 70 0) (fun _ k' n l k i j f=>yB k k' n i j 1 fun o=>qho l o (fun s=>f (.pure s)) (.bad 64 0)) (fun _ _ _ _ _=>.bad 70 0) (fun _ _ _ _ _ _ _=>.bad 70 0) b) b k i j f
def qlh(a:SV):Tr 6 XB→(XR→R)→R:=SV.rec (motive_1:=fun _=>Tr 6 XB→(XR→R)→R) (motive_2:=fun _=>PUnit) (fun  hp f=>.bad 72 0) (fun _ hp f=>.bad 72 0) (fun _ _ hp f=>.bad 72 0) (fun _ _ hp f=>.bad 72 0) (fun _ _ _ _ _ hp f=>.bad 72 0) (fun id off hp f=>ldC (hp.find id) off f) (fun id k i j hp f=>ldR (hp.find id) k i j f) (fun o n row ih hp f=>Zm hp (.ref o n row) f) (fun _ _ _ _ _ _ hp f=>.bad 72 0) (fun _ _ _ hp f=>.bad 72 0) (fun _ hp f=>.bad 72 0) (fun _ _ _ _ hp f=>.bad 72 0) (fun _ _ _ _ hp f=>.bad 72 0) (fun _ _ _ hp f=>.bad 72 0) (fun _ _ _ _ _ hp f=>.bad 72 0) (fun _ hp f=>.bad 72 0) PUnit.unit (fun _ _ _ _=>PUnit.unit) a
theorem Gw(l:List SV)(o:Nat)(f:XR→R):qho l o (fun s=>f (.pure s)) (.bad 64 0)=wz l o f:=by rw[qcF];rfl
theorem qhq(a:SV)(hp:Tr 6 XB)(f:XR→R):qlh a hp f=Zm hp a f:=by
 cases a<;>first|rfl|skip
 case ptr id off=>
  show ldC (hp.find id) off f=_;unfold Zm ldC;dsimp only;cases hp.find id with
  |none=>rfl
  |some b=>cases b<;>first|rfl|exact Gw _ _ _
 case elt id k i j=>
  show ldR (hp.find id) k i j f=_;unfold Zm ldR;dsimp only;cases hp.find id with
  |none=>rfl
  |some b=>
   cases b<;>first|rfl|skip
   rename_i t k' n l;show yB k k' n i j 1 (fun o=>qho l o (fun s=>f (.pure s)) (.bad 64 0))=_
   congr 1
   funext o;exact Gw _ _ _
theorem Ym(l:List SV)(o n:Nat)(f:XR→R):qcH l o n (fun l=>f (.pure (.agg l)))=wA l o n f:=by
 rw[Yl];unfold wA;rw[qQ]
def qmb(b:Option XB)(off sz:Nat)(f:XR→R):R:=Option.rec (motive:=fun _=>Nat→Nat→(XR→R)→R) (fun _ _ _=>.bad 73 0) (fun b=>XB.rec (motive:=fun _=>Nat→Nat→(XR→R)→R) (fun _ l off sz f=>qcH l off sz (fun l=>f (.pure (.agg l)))) (fun _ _ _ _ _ _ _=>.bad 73 0) (fun _ _ _ _=>.bad 73 0) (fun _ _ _ _ _ _=>.bad 73 0) b) b off sz f
def qli(a:SV):Nat→Tr 6 XB→(XR→R)→R:=SV.rec (motive_1:=fun _=>Nat→Tr 6 XB→(XR→R)→R) (motive_2:=fun _=>PUnit) (fun  sz hp f=>.bad 76 0) (fun _ sz hp f=>.bad 76 0) (fun _ _ sz hp f=>.bad 76 0) (fun _ _ sz hp f=>.bad 76 0) (fun _ _ _ _ _ sz hp f=>.bad 76 0) (fun id off sz hp f=>qmb (hp.find id) off sz f) (fun id k i j sz hp f=>Zn hp sz (.elt id k i j) f) (fun o n row ih sz hp f=>Zn hp sz (.ref o n row) f) (fun _ _ _ _ _ _ sz hp f=>.bad 76 0) (fun _ _ _ sz hp f=>.bad 76 0) (fun _ sz hp f=>.bad 76 0) (fun _ _ _ _ sz hp f=>.bad 76 0) (fun _ _ _ _ sz hp f=>.bad 76 0) (fun _ _ _ sz hp f=>.bad 76 0) (fun _ _ _ _ _ sz hp f=>.bad 76 0) (fun _ sz hp f=>.bad 76 0) PUnit.unit (fun _ _ _ _=>PUnit.unit) a
theorem qhr(a:SV)(sz:Nat)(hp:Tr 6 XB)(f:XR→R):qli a sz hp f=Zn hp sz a f:=by
 cases a<;>first|rfl|skip
 case ptr id off=>
  show qmb (hp.find id) off sz f=_;unfold Zn qmb;dsimp only;cases hp.find id with
  |none=>rfl
  |some b=>cases b<;>first|rfl|exact Ym _ _ _ _
abbrev OpR:=Tr 3 SV→Tr 6 XB→Nat→(XR→R)→R
def G3(x:Operand):Bx (Tr 3 SV→SV):=Operand.rec (fun t=>qk t fun t=>Bx.rec (fun q=>.mk fun fr=>Option.rec .top (fun s=>s) (q fr)) (yo SV 3 t)) (fun v=>.mk fun _=>.val v) (fun _=>.mk fun _=>.top) (fun f=>.mk fun _=>.fn (.func f) [] []) x
theorem Kc(x:Operand)(fr:Tr 3 SV):(G3 x).get fr=qY fr x:=by
 cases x<;>first|rfl|skip
 rename_i t;have e:G3 (.tmp t)=qk t fun t=>Bx.rec (fun q=>.mk fun fr=>Option.rec .top (fun s=>s) (q fr)) (yo SV 3 t):=rfl;rw[e,qi];show(Option.rec .top (fun s=>s) ((yo SV 3 t).get fr):SV)=qu fr t;unfold qu;rw[Z0]
def qcI(l:List Operand):Bx (Tr 3 SV→List SV):=List.rec (.mk fun _=>[]) (fun x _ ih=>Bx.rec (fun a=>Bx.rec (fun m=>.mk fun fr=>a fr :: m fr) ih) (G3 x)) l
theorem Yn(fr:Tr 3 SV):∀l,(qcI l).get fr=vS fr l
 |[]=>rfl
 |x :: l=>by
  show(G3 x).get fr ::(qcI l).get fr=_;rw[Kc,Yn];rfl
def eB(x:Operand)(k:(Tr 3 SV→SV)→Bx OpR):Bx OpR:=Bx.rec k (G3 x)
theorem zG(x:Operand)(k:(Tr 3 SV→SV)→Bx OpR):eB x k=k (fun fr=>qY fr x):=by
 show k (G3 x).get=_;congr 1;funext fr;exact Kc x fr
def qlj(E:XE)(t:TypeId)(x:Operand):Bx OpR:=
 match E.tys t with
 |some ⟨false,_,_,_⟩=>eB x fun a=>.mk fun fr hp _ f=>qlh (a fr) hp f
 |some ⟨true,sz,_,_⟩=>eB x fun a=>.mk fun fr hp _ f=>qli (a fr) sz hp f
 |none=>.mk fun _ _ _ _=>.bad 77 0
def stC(b:Option XB)(id off:Nat)(v:SV)(f:XR→R):R:=Option.rec (motive:=fun _=>Nat→Nat→SV→(XR→R)→R) (fun _ _ _ _=>.bad 80 0) (fun b=>XB.rec (motive:=fun _=>Nat→Nat→SV→(XR→R)→R) (fun t l id off v f=>qhp l off v fun l=>f (.upd id (.cells t l) undefSV)) (fun _ _ _ _ _ _ _ _=>.bad 80 0) (fun _ _ _ _ _=>.bad 80 0) (fun _ _ _ _ _ _ _=>.bad 80 0) b) b id off v f
def stR(b:Option XB)(id k i j:Nat)(v:SV)(f:XR→R):R:=Option.rec (motive:=fun _=>Nat→Nat→Nat→Nat→SV→(XR→R)→R) (fun _ _ _ _ _ _=>.bad 81 0) (fun b=>XB.rec (motive:=fun _=>Nat→Nat→Nat→Nat→SV→(XR→R)→R) (fun _ _ _ _ _ _ _ _=>.bad 81 0) (fun t k' n l id k i j v f=>yB k k' n i j 1 fun o=>qhp l o v fun l=>f (.upd id (.rows t k' n l) undefSV)) (fun _ _ _ _ _ _ _=>.bad 81 0) (fun _ _ _ _ _ _ _ _ _=>.bad 81 0) b) b id k i j v f
def qaW(a:SV):Tr 6 XB→SV→(XR→R)→R:=SV.rec (motive_1:=fun _=>Tr 6 XB→SV→(XR→R)→R) (motive_2:=fun _=>PUnit) (fun  hp v f=>.bad 82 0) (fun _ hp v f=>.bad 82 0) (fun _ _ hp v f=>.bad 82 0) (fun _ _ hp v f=>.bad 82 0) (fun _ _ _ _ _ hp v f=>.bad 82 0) (fun id off hp v f=>stC (hp.find id) id off v f) (fun id k i j hp v f=>stR (hp.find id) id k i j v f) (fun _ _ _ _ hp v f=>.bad 82 0) (fun _ _ _ _ _ _ hp v f=>.bad 82 0) (fun _ _ _ hp v f=>.bad 82 0) (fun _ hp v f=>.bad 82 0) (fun _ _ _ _ hp v f=>.bad 82 0) (fun _ _ _ _ hp v f=>.bad 82 0) (fun _ _ _ hp v f=>.bad 82 0) (fun _ _ _ _ _ hp v f=>.bad 82 0) (fun _ hp v f=>.bad 82 0) PUnit.unit (fun _ _ _ _=>PUnit.unit) a
theorem qew(a:SV)(hp:Tr 6 XB)(v:SV)(f:XR→R):qaW a hp v f=QB hp a v f:=by
 cases a<;>first|rfl|skip
 case ptr id off=>
  show stC (hp.find id) id off v f=_;unfold QB stC;dsimp only;cases hp.find id with
  |none=>rfl
  |some b=>cases b<;>first|rfl|exact VR _ _ _ _
 case elt id k i j=>
  show stR (hp.find id) id k i j v f=_;unfold QB stR;dsimp only;cases hp.find id with
  |none=>rfl
  |some b=>
   cases b<;>first|rfl|skip
   rename_i t k' n l;show yB k k' n i j 1 (fun o=>qhp l o v fun l=>f (.upd id (.rows t k' n l) undefSV))=_
   congr 1
   funext o;exact VR _ _ _ _
def qhs(E:XE)(t:TypeId)(a x:Operand):Bx OpR:=
 match E.tys t with
 |some ⟨false,sz,_,_⟩=>eB a fun a=>eB x fun x=>.mk fun fr hp _ f=>qj 86 (oneCell (x fr)) (qj 87 (Nat.beq sz 1) (qaW (a fr) hp (x fr) f))
 |_=>eB a fun a=>eB x fun x=>.mk fun fr hp _ f=>Ge E hp t (a fr) (x fr) f
def qjN(x y:SV)(h:IntKind→Int→Int→R)(sl:R):R:=qcE x (fun k a=>qcE y (fun k' b=>Bool.rec (.bad 40 0) (h k a b) (qlY k k')) sl) sl
theorem Yo{s:SV}{f:IntKind→Int→R}{d:R}(h:∀k n,s≠.val (.int k n)):qcE s f d=d:=by
 cases s<;>first|rfl|skip
 rename_i v;cases v<;>first|rfl|skip
 exact absurd rfl (h _ _)
theorem qht(s:SV):(∃k n,s=.val (.int k n))∨∀k n,s≠.val (.int k n):=by
 by_cases h:∃k n,s=.val (.int k n)
 ·exact .inl h
 ·exact .inr fun k n e=>h ⟨k,n,e⟩
theorem qjO(E:XE)(op:BinOp)(t:TypeId)(x y:SV)(f:XR→R):qjN x y (fun k a b=>(qhm op).get k a b f) (qaA E op t x y f)=qaA E op t x y f:=by
 unfold qjN;rcases qht x with⟨k,a,rfl⟩|hx
 ·rcases qht y with⟨k',b,rfl⟩|hy
  ·show(Bool.rec (.bad 40 0) ((qhm op).get k a b f) (qlY k k'):R)=qj 40 (eqKind k k') (qed op k a b f)
   rw[qjI,qjM];rfl
  ·show qcE y _ _=_
   exact Yo hy
 ·exact Yo hx
def qnA(E:XE)(op:BinOp)(t:TypeId)(x y:Operand):Bx OpR:=Bx.rec (fun h=>eB x fun a=>eB y fun b=>.mk fun fr _ _ f=>qjN (a fr) (b fr) (fun k m n=>h k m n f) (qaA E op t (a fr) (b fr) f)) (qhm op)
def qnB(x:SV):Nat→(XR→R)→R:=SV.rec (motive_1:=fun _=>Nat→(XR→R)→R) (motive_2:=fun _=>PUnit) (fun  o f=>.bad 102 0) (fun _ o f=>.bad 102 0) (fun _ _ o f=>.bad 102 0) (fun _ _ o f=>.bad 102 0) (fun _ _ _ _ _ o f=>.bad 102 0) (fun id off o f=>qk (Nat.add off o) fun n=>f (.pure (.ptr id n))) (fun id k i j o f=>QC (.elt id k i j) o f) (fun b n row ih o f=>QC (.ref b n row) o f) (fun _ _ _ _ _ _ o f=>.bad 102 0) (fun _ _ _ o f=>.bad 102 0) (fun _ o f=>.bad 102 0) (fun _ _ _ _ o f=>.bad 102 0) (fun _ _ _ _ o f=>.bad 102 0) (fun _ _ _ o f=>.bad 102 0) (fun _ _ _ _ _ o f=>.bad 102 0) (fun _ o f=>.bad 102 0) PUnit.unit (fun _ _ _ _=>PUnit.unit) x
theorem qjP(x:SV)(o:Nat)(f:XR→R):qnB x o f=QC x o f:=by
 cases x<;>rfl
def qaX(E:XE)(t:TypeId)(x:Operand)(i:Nat):Bx OpR:=
 match E.tys t with
 |some ⟨_,_,_,.struct fs⟩=>(match fs[i]? with
  |some (o,s,_)=>(match Nat.ble 1 s with
   |true=>eB x fun a=>qk o fun o=>.mk fun fr _ _ f=>qnB (a fr) o f
   |false=>.mk fun _ _ _ _=>.bad 103 0)
  |none=>.mk fun _ _ _ _=>.bad 104 0)
 |_=>.mk fun _ _ _ _=>.bad 105 0
def qnC(x:SV):(XR→R)→R:=SV.rec (motive_1:=fun _=>(XR→R)→R) (motive_2:=fun _=>PUnit) (fun  f=>.bad 100 0) (fun _ f=>.bad 100 0) (fun _ _ f=>.bad 100 0) (fun _ _ f=>.bad 100 0) (fun g a b iha ihb f=>qgr (.fn g a b) f) (fun id off f=>f (.pure (.ptr id off))) (fun id k i j f=>f (.pure (.elt id k i j))) (fun o n row ih f=>f (.pure (.ref o n row))) (fun _ _ _ _ _ _ f=>.bad 100 0) (fun _ _ _ f=>.bad 100 0) (fun _ f=>.bad 100 0) (fun _ _ _ _ f=>.bad 100 0) (fun _ _ _ _ f=>.bad 100 0) (fun _ _ _ f=>.bad 100 0) (fun _ _ _ _ _ f=>.bad 100 0) (fun _ f=>.bad 100 0) PUnit.unit (fun _ _ _ _=>PUnit.unit) x
theorem qjQ(x:SV)(f:XR→R):qnC x f=qgr x f:=by cases x<;>rfl
def qhu(E:XE)(c:Call):Bx OpR:=
 match c.callee with
 |.value (.func g)=>Bx.rec (fun m=>.mk fun fr _ _ f=>gk (m fr) fun l=>f (.call g l)) (qcI c.args.toList)
 |.builtin .len=>(match c.args.toList,c.argTypes.toList with
  |[x],[t]=>(match E.tys t with
   |some ⟨_,_,_,.slice _ _⟩=>eB x fun a=>.mk fun fr _ _ f=>qgs (a fr) f
   |some ⟨_,_,_,.array n _ _⟩=>.mk fun _ _ _ f=>f (.pure (.val (.int .i64 (.ofNat n))))
   |_=>.mk fun fr hp id f=>j9 E fr hp c id f)
  |_,_=>.mk fun fr hp id f=>j9 E fr hp c id f)
 |.builtin .append=>(match c.args.toList,c.argTypes.toList with
  |[s,x],[t,t']=>(match Nat.beq t t' with
   |true=>eB s fun a=>eB x fun b=>.mk fun fr hp id f=>QF E hp t (a fr) (b fr) id f
   |false=>.mk fun _ _ _ _=>.bad 231 0)
  |_,_=>.mk fun fr hp id f=>j9 E fr hp c id f)
 |_=>.mk fun fr hp id f=>j9 E fr hp c id f
def cOp(E:XE)(op:Op):Bx OpR:=
 match op with
 |.move x=>eB x fun a=>.mk fun fr _ _ f=>f (.pure (a fr))
 |.assign x=>eB x fun a=>.mk fun fr _ _ f=>f (.pure (a fr))
 |.pick c a b=>eB c fun c=>eB a fun a=>eB b fun b=>.mk fun fr _ _ f=>qbR (c fr) (a fr) (b fr) f
 |.alloc t=>.mk fun _ _ id f=>Vt E t id f
 |.box t x=>eB x fun a=>.mk fun fr _ id f=>qjl E t (a fr) id f
 |.load t x=>qlj E t x
 |.store t a x=>qhs E t a x
 |.nilCheck x=>eB x fun a=>.mk fun fr _ _ f=>qnC (a fr) f
 |.binOp op t x y _=>qnA E op t x y
 |.unOp op _ x=>eB x fun a=>.mk fun fr _ _ f=>xUn op (a fr) f
 |.convert s t x=>eB x fun a=>.mk fun fr _ _ f=>qbQ E s t (a fr) f
 |.fieldAddr t x i=>qaX E t x i
 |.field t x i=>eB x fun a=>.mk fun fr _ _ f=>Vu E t (a fr) i f
 |.indexAddr t x i=>eB x fun a=>eB i fun b=>.mk fun fr _ _ f=>vE E t (a fr) (b fr) f
 |.extract x i=>eB x fun a=>.mk fun fr _ _ f=>QD (a fr) i f
 |.call c=>qhu E c
 |.index t x i=>eB x fun a=>eB i fun b=>.mk fun fr _ _ f=>Vv E t (a fr) (b fr) f
 |.makeMap t rs=>.mk fun _ _ id f=>QH E t rs.isSome id f
 |.lookup t x k ok=>eB x fun a=>eB k fun b=>.mk fun fr hp _ f=>Z8 E hp t (a fr) (b fr) ok f
 |op=>.mk fun fr hp id f=>xOp E fr hp id op f
theorem qex(E:XE)(t:TypeId)(x:Operand)(i:Nat)(fr:Tr 3 SV)(hp:Tr 6 XB)(id:Nat)(f:XR→R):(qaX E t x i).get fr hp id f=jD E t (qY fr x) i f:=by
 unfold qaX jD;cases E.tys t with
 |none=>rfl
 |some ti=>
  obtain⟨a,b,c,d⟩:=ti;cases d<;>first|rfl|skip
  rename_i fs;dsimp only;cases fs[i]? with
  |none=>rfl
  |some y=>
   obtain⟨o,s,ag⟩:=y;dsimp only;cases Nat.ble 1 s with
   |false=>rfl
   |true=>
    dsimp only;rw[zG,qi];exact qjP _ _ _
theorem qhv(E:XE)(c:Call)(fr:Tr 3 SV)(hp:Tr 6 XB)(id:Nat)(f:XR→R):(qhu E c).get fr hp id f=j9 E fr hp c id f:=by
 unfold qhu;split
 ·rename_i g hc
  show gk ((qcI c.args.toList).get fr) (fun l=>f (.call g l))=_;rw[qQ,Yn];unfold j9;rw[hc];show _=yp ([]++(vS fr c.args.toList++[])) fun l=>f (.call g l);rw[kd,List.nil_append,xd3]
 ·rename_i hc
  split
  ·rename_i x t ha ht
   have e:j9 E fr hp c id f=qei E t (qY fr x) f:=by
    unfold j9;rw[hc];show QK E hp .len c.argTypes.toList (vS fr c.args.toList) id f=_;rw[ha,ht];rfl
   split
   ·rename_i hT
    rw[zG,e];unfold qei;rw[hT];rfl
   ·rename_i hT
    rw[e];unfold qei;rw[hT];rfl
   ·rfl
  ·rfl
 ·rename_i hc
  split
  ·rename_i s x t t' ha ht
   have e:j9 E fr hp c id f=qj 231 (Nat.beq t t') (QF E hp t (qY fr s) (qY fr x) id f):=by
    unfold j9;rw[hc];show QK E hp .append c.argTypes.toList (vS fr c.args.toList) id f=_;rw[ha,ht];rfl
   rw[e];cases Nat.beq t t' with
   |true=>dsimp only;rw[zG,zG];rfl
   |false=>rfl
  ·rfl
 ·rfl
theorem qaY(E:XE)(op:Op)(fr:Tr 3 SV)(hp:Tr 6 XB)(id:Nat)(f:XR→R):(cOp E op).get fr hp id f=xOp E fr hp id op f:=by
 cases op<;>first|rfl|(unfold cOp xOp;dsimp only)
 case move x=>rw[zG,kP];rfl
 case assign x=>rw[zG,kP];rfl
 case pick=>rw[zG,zG,zG];rfl
 case box=>rw[zG];rfl
 case load t x=>
  unfold qlj WT;cases E.tys t with
  |none=>rfl
  |some ti=>
   obtain⟨a,b,c,d⟩:=ti;cases a
   ·dsimp only;rw[zG];exact qhq _ _ _
   ·dsimp only;rw[zG];exact qhr _ _ _ _
 case store t a x=>
  unfold qhs;split
  ·rename_i hT
   rw[zG,zG];unfold Ge;rw[hT];show qj 86 _ (qj 87 _ (qaW (qY fr a) hp (qY fr x) f))=_;rw[qew]
  ·rw[zG,zG];rfl
 case nilCheck=>rw[zG];exact qjQ _ _
 case binOp op t x y t'=>
  unfold qnA;show(eB x fun a=>eB y fun b=>.mk fun fr _ _ f=>qjN (a fr) (b fr) (fun k m n=>(qhm op).get k m n f) (qaA E op t (a fr) (b fr) f)).get fr hp id f=_;rw[zG,zG];exact qjO E op t _ _ f
 case unOp=>rw[zG];rfl
 case convert=>rw[zG];rfl
 case fieldAddr t x i=>exact qex _ _ _ _ _ _ _ _
 case field=>rw[zG];rfl
 case indexAddr=>rw[zG,zG];rfl
 case extract=>rw[zG];rfl
 case call c=>exact qhv _ _ _ _ _ _
 case index=>rw[zG,zG];rfl
 case lookup=>rw[zG,zG];rfl
abbrev GK:=Tr 3 SV→Tr 6 XB→Nat→R
abbrev qoB:=XC→CX→Nat→XR→Tr 3 SV→Tr 6 XB→Nat→GK→R
def qey(E:XE)(j:Bool)(d:Option Tmp):Bx qoB:=
 match d with
 |none=>.mk fun run cx id xr fr hp nid g=>XR.rec (motive:=fun _=>XC→CX→Nat→Tr 3 SV→Tr 6 XB→Nat→GK→R) (fun _ _ _ _ fr hp nid g=>g fr hp nid) (fun b _ _ _ id fr hp nid g=>qW (some b) 22 hp id fun hp=>g fr hp nid)
  (fun i b s run cx id fr hp nid g=>Option.rec (.bad 304 0) (fun _=>qW (some b) 22 hp i fun hp=>g fr hp nid) (hp.find i)) (fun i b s run cx id fr hp nid g=>QU E run cx j none id (.grow i b s) fr hp nid g) (fun h l run cx id fr hp nid g=>QU E run cx j none id (.call h l) fr hp nid g) (fun h l run cx id fr hp nid g=>QU E run cx j none id (.yield h l) fr hp nid g) xr run cx id fr hp nid g
 |some d=>qk d fun d=>Bx.rec (fun p=>.mk fun run cx id xr fr hp nid g=>XR.rec (motive:=fun _=>XC→CX→Nat→Tr 3 SV→Tr 6 XB→Nat→GK→R) (fun s _ _ _ fr hp nid g=>p fr (some s) fun fr=>g fr hp nid) (fun b s _ _ id fr hp nid g=>qW (some b) 22 hp id fun hp=>p fr (some s) fun fr=>g fr hp nid)
  (fun i b s run cx id fr hp nid g=>Option.rec (.bad 304 0) (fun _=>qW (some b) 22 hp i fun hp=>p fr (some s) fun fr=>g fr hp nid) (hp.find i)) (fun i b s run cx id fr hp nid g=>QU E run cx j (some d) id (.grow i b s) fr hp nid g) (fun h l run cx id fr hp nid g=>QU E run cx j (some d) id (.call h l) fr hp nid g) (fun h l run cx id fr hp nid g=>QU E run cx j (some d) id (.yield h l) fr hp nid g) xr run cx id fr hp nid g) (yR SV 3 d)
theorem qjR(E:XE)(j:Bool)(d:Option Tmp)(run:XC)(cx:CX)(id:Nat)(xr:XR)(fr:Tr 3 SV)(hp:Tr 6 XB)(nid:Nat)(g:GK):(qey E j d).get run cx id xr fr hp nid g=QU E run cx j d id xr fr hp nid g:=by
 cases d with
 |none=>
  cases xr<;>first|rfl|skip
  rename_i i b s;show(Option.rec (.bad 304 0) (fun _=>qW (some b) 22 hp i fun hp=>g fr hp nid) (hp.find i):R)=_;unfold QU;dsimp only;cases hp.find i<;>rfl
 |some d=>
  unfold qey;dsimp only;rw[qi];have e:∀(s:SV)(fr:Tr 3 SV)(k:Tr 3 SV→R),(yR SV 3 d).get fr (some s) k=putD (some d) s fr k:=fun s fr k=>by
   show _=qW (some s) 12 fr d k;rw[Vq]
  cases xr<;>first|rfl|exact e _ _ _|skip
  ·rename_i b s
   show qW (some b) 22 hp id (fun hp=>(yR SV 3 d).get fr (some s) fun fr=>g fr hp nid)=_;unfold QU;dsimp only
   congr 1
   funext hp;exact e _ _ _
  ·rename_i i b s
   show(Option.rec (.bad 304 0) (fun _=>qW (some b) 22 hp i fun hp=>(yR SV 3 d).get fr (some s) fun fr=>g fr hp nid) (hp.find i):R)=_;unfold QU;dsimp only;cases hp.find i with
   |none=>rfl
   |some y=>
    show qW (some b) 22 hp i (fun hp=>(yR SV 3 d).get fr (some s) fun fr=>g fr hp nid)=qW (some b) 22 hp i (fun hp=>putD (some d) s fr fun fr=>g fr hp nid)
    congr 1
    funext hp;exact e _ _ _
abbrev qhw:=XC→CX→Tr 3 SV→Tr 6 XB→Nat→GK→R
def cGo(E:XE)(j:Bool)(o:Oper)(i:Nat)(k:(XC→CX→Tr 3 SV→Tr 6 XB→Nat→GK→R)→Bx qhw):Bx qhw:=
 Bx.rec (fun q=>Bx.rec (fun r=>(match gm o.op with
  |true=>k fun run cx fr hp nid g=>qk (Nat.add nid i) fun id=>q fr hp id fun xr=>r run cx id xr fr hp nid g
  |false=>k fun run cx fr hp nid g=>q fr hp (Nat.add nid i) fun xr=>r run cx (Nat.add nid i) xr fr hp nid g)) (qey E j o.dst)) (cOp E o.op)
def Zt(E:XE)(j:Bool)(ds:List (Option Tmp))(l:List Oper):Nat→Bx qhw:=
 List.rec (motive:=fun _=>Nat→Bx qhw) (fun _=>.mk fun _ _ fr hp nid g=>g fr hp nid) (fun o _ ih i=>qk (Nat.succ i) fun i1=>Bx.rec (fun rest=>cGo E j o i fun go=>(match o.guard with
  |none=>.mk fun run cx fr hp nid g=>go run cx fr hp nid fun fr hp nid=>rest run cx fr hp nid g
  |some p=>.mk fun run cx fr hp nid g=>wK ds (some p) o.dst fr hp nid (go run cx fr hp nid fun fr hp nid=>rest run cx fr hp nid g) (fun fr hp nid=>rest run cx fr hp nid g))) (ih i1)) l
theorem qmc(E:XE)(j:Bool)(o:Oper)(i:Nat)(k:(XC→CX→Tr 3 SV→Tr 6 XB→Nat→GK→R)→Bx qhw):cGo E j o i k=k fun run cx fr hp nid g=>xGo E run cx j o fr hp nid i g:=by
 show(match gm o.op with
  |true=>k fun run cx fr hp nid g=>qk (Nat.add nid i) fun id=>(cOp E o.op).get fr hp id fun xr=>(qey E j o.dst).get run cx id xr fr hp nid g
  |false=>k fun run cx fr hp nid g=>(cOp E o.op).get fr hp (Nat.add nid i) fun xr=>(qey E j o.dst).get run cx (Nat.add nid i) xr fr hp nid g)=_
 have e:∀run cx fr hp nid g id,(cOp E o.op).get fr hp id (fun xr=>(qey E j o.dst).get run cx id xr fr hp nid g)=xOp E fr hp id o.op fun xr=>QU E run cx j o.dst id xr fr hp nid g:=fun run cx fr hp nid g id=>by
  rw[qaY]
  congr 1
  funext xr;exact qjR _ _ _ _ _ _ _ _ _ _ _
 cases gm o.op with
 |true=>
  dsimp only
  congr 1
  funext run cx fr hp nid g;rw[qi,e];unfold xGo;rw[qi];rfl
 |false=>
  dsimp only
  congr 1
  funext run cx fr hp nid g;rw[e];unfold xGo;rw[qi];rfl
theorem qcJ(E:XE)(j:Bool)(ds:List (Option Tmp))(run:XC)(cx:CX):∀(l:List Oper)(i:Nat)(fr:Tr 3 SV)(hp:Tr 6 XB)(nid:Nat)(g:GK),(Zt E j ds l i).get run cx fr hp nid g=QW E run cx j ds l i fr hp nid g
 |[],i,fr,hp,nid,g=>rfl
 |o :: l,i,fr,hp,nid,g=>by
  have ih:=qcJ E j ds run cx l (Nat.succ i);show Bx.get (qk (Nat.succ i) fun i1=>Bx.rec (fun rest=>cGo E j o i fun go=>(match o.guard with
   |none=>.mk fun run cx fr hp nid g=>go run cx fr hp nid fun fr hp nid=>rest run cx fr hp nid g
   |some p=>.mk fun run cx fr hp nid g=>wK ds (some p) o.dst fr hp nid (go run cx fr hp nid fun fr hp nid=>rest run cx fr hp nid g) (fun fr hp nid=>rest run cx fr hp nid g))) (Zt E j ds l i1)) run cx fr hp nid g=wK ds o.guard o.dst fr hp nid (xGo E run cx j o fr hp nid i fun fr hp nid=>qk (Nat.succ i) fun i=>QW E run cx j ds l i fr hp nid g) (fun fr hp nid=>qk (Nat.succ i) fun i=>QW E run cx j ds l i fr hp nid g)
  rw[qi];show(cGo E j o i fun go=>(match o.guard with
   |none=>.mk fun run cx fr hp nid g=>go run cx fr hp nid fun fr hp nid=>(Zt E j ds l (Nat.succ i)).get run cx fr hp nid g
   |some p=>.mk fun run cx fr hp nid g=>wK ds (some p) o.dst fr hp nid (go run cx fr hp nid fun fr hp nid=>(Zt E j ds l (Nat.succ i)).get run cx fr hp nid g) (fun fr hp nid=>(Zt E j ds l (Nat.succ i)).get run cx fr hp nid g))).get run cx fr hp nid g=_
  rw[qmc];have e:(fun fr hp nid=>(Zt E j ds l (Nat.succ i)).get run cx fr hp nid g)=fun fr hp nid=>qk (Nat.succ i) fun i=>QW E run cx j ds l i fr hp nid g:=by
   funext fr hp nid;rw[qi,ih]
  cases o.guard with
  |none=>
   show xGo E run cx j o fr hp nid i (fun fr hp nid=>(Zt E j ds l (Nat.succ i)).get run cx fr hp nid g)=_;rw[e];rfl
  |some p=>
   show wK ds (some p) o.dst fr hp nid (xGo E run cx j o fr hp nid i (fun fr hp nid=>(Zt E j ds l (Nat.succ i)).get run cx fr hp nid g)) (fun fr hp nid=>(Zt E j ds l (Nat.succ i)).get run cx fr hp nid g)=_;rw[e]
abbrev ChR:=XC→Tr 3 SV→Tr 6 XB→Nat→List (Tr 6 XB)→CK→R
def okK(r:R)(g:SV→Tr 6 XB→Nat→R):R:=R.rec (fun q=>Q.rec (fun s hp nid=>g s hp nid) q) (fun c i=>.bad c i) r
theorem qhx(E:XE)(run:XC)(id:Nat)(o:Oper)(fr:Tr 3 SV)(hp:Tr 6 XB)(g:SV→Tr 6 XB→Nat→R):okK ((cOp E o.op).get fr hp id fun xr=>Yh E run id xr hp okQ) g=ZK E run id o fr hp g:=by
 rw[qaY];unfold okK ZK;cases (xOp E fr hp id o.op fun xr=>Yh E run id xr hp okQ)with
 |ok q=>cases q;rfl
 |bad c i=>rfl
def qhy(xr:XR):R:=XR.rec (fun s=>.ok (.mk s .nil 0)) (fun _ _=>.bad 382 0) (fun _ _ _=>.bad 382 0) (fun _ _ _=>.bad 382 0) (fun _ _=>.bad 382 0) (fun _ _=>.bad 382 0) xr
theorem qhz:qhy=qcy:=by funext xr;cases xr<;>rfl
def cPu(E:XE)(op:Op):Bx (Tr 3 SV→Tr 6 XB→R):=
 match Yi E op with
 |some x=>Bx.rec (fun q=>.mk fun fr hp=>Gr (q fr) hp) (G3 x)
 |none=>Bx.rec (fun q=>.mk fun fr hp=>q fr hp 0 qhy) (cOp E op)
theorem qmd(E:XE)(op:Op)(fr:Tr 3 SV)(hp:Tr 6 XB):(cPu E op).get fr hp=Gs E fr hp op:=by
 unfold cPu Gs;cases Yi E op with
 |some x=>
  show Gr ((G3 x).get fr) hp=Gr (qY fr x) hp;rw[Kc]
 |none=>
  show(cOp E op).get fr hp 0 qhy=xOp E fr hp 0 op qcy;rw[qaY,qhz]
theorem JG(E:XE)(o:Oper)(fr:Tr 3 SV)(hp:Tr 6 XB)(g:SV→R):okK ((cPu E o.op).get fr hp) (fun s _ _=>g s)=gt E o fr hp g:=by
 rw[qmd];unfold okK gt;cases Gs E fr hp o.op with
 |ok q=>cases q;rfl
 |bad c i=>rfl
def G4(d:Option Tmp):Bx (Tr 3 SV→SV→(Tr 3 SV→R)→R):=
 match d with
 |none=>.mk fun fr _ g=>g fr
 |some d=>qk d fun d=>Bx.rec (fun p=>.mk fun fr s g=>p fr (some s) g) (yR SV 3 d)
theorem qjS(d:Option Tmp)(fr:Tr 3 SV)(s:SV)(g:Tr 3 SV→R):(G4 d).get fr s g=putD d s fr g:=by
 cases d with
 |none=>rfl
 |some d=>
  unfold G4;dsimp only;rw[qi];show(yR SV 3 d).get fr (some s) g=qW (some s) 12 fr d g;rw[Vq]
def qaZ(E:XE)(n:Nat)(o:Oper)(rest:ChR):Bx ChR:=
 Bx.rec (fun u=>Bx.rec (fun q=>Bx.rec (fun p=>(match gm o.op with
  |true=>.mk fun run fr hp nid hs g=>qk (Nat.add nid n) fun id=>okK (q fr hp id fun xr=>Yh E run id xr hp okQ) fun s hp' nid'=>qk (Nat.succ nid') fun nid'=>p fr s fun fr=>rest run fr hp' nid' (hs++[hp']) g
  |false=>(match Gj o.op with
   |true=>.mk fun run fr hp nid hs g=>okK (u fr (G1 (zF fr o.op) hp)) fun s _ _=>p fr s fun fr=>rest run fr hp nid hs g
   |false=>.mk fun run fr hp nid hs g=>okK (u fr .nil) fun s _ _=>p fr s fun fr=>rest run fr hp nid hs g))) (G4 o.dst)) (cOp E o.op)) (cPu E o.op)
def cCh(E:XE)(n:Nat)(ds:List (Option Tmp))(l:List Oper):Bx ChR:=
 List.rec (.mk fun _ fr hp nid hs g=>g fr hp nid hs) (fun o _ ih=>Bx.rec (fun rest=>Bx.rec (fun go=>(match o.guard with
  |none=>.mk go
  |some p=>.mk fun run fr hp nid hs g=>Option.rec (.bad 386 0) (fun sk=>Bool.rec (go run fr hp nid hs g) (putD o.dst undefSV fr fun fr=>Bool.rec (rest run fr hp nid hs g) (qk (Nat.add nid n) fun nid=>rest run fr hp nid (hs++[hp]) g) (gm o.op)) sk) (gdX ds (some p) fr))) (qaZ E n o rest)) ih) l
theorem qjT(E:XE)(n:Nat)(o:Oper)(rest:ChR)(run:XC)(fr:Tr 3 SV)(hp:Tr 6 XB)(nid:Nat)(hs:List (Tr 6 XB))(g:CK):(qaZ E n o rest).get run fr hp nid hs g=(Bool.rec (gt E o fr (G1 (zF fr o.op) hp) fun s=>putD o.dst s fr fun fr=>rest run fr hp nid hs g)
        (qk (nid+n) fun id=>ZK E run id o fr hp fun s hp' nid'=>qk (Nat.succ nid') fun nid'=>putD o.dst s fr fun fr=>rest run fr hp' nid' (hs++[hp']) g) (gm o.op):R):=by
 have e1:∀(s:SV)(k:Tr 3 SV→R),(G4 o.dst).get fr s k=putD o.dst s fr k:=fun s k=>qjS _ _ _ _;show Bx.get (match gm o.op with
  |true=>.mk fun run fr hp nid hs g=>qk (Nat.add nid n) fun id=>okK ((cOp E o.op).get fr hp id fun xr=>Yh E run id xr hp okQ) fun s hp' nid'=>qk (Nat.succ nid') fun nid'=>(G4 o.dst).get fr s fun fr=>rest run fr hp' nid' (hs++[hp']) g
  |false=>(match Gj o.op with
   |true=>.mk fun run fr hp nid hs g=>okK ((cPu E o.op).get fr (G1 (zF fr o.op) hp)) fun s _ _=>(G4 o.dst).get fr s fun fr=>rest run fr hp nid hs g
   |false=>.mk fun run fr hp nid hs g=>okK ((cPu E o.op).get fr .nil) fun s _ _=>(G4 o.dst).get fr s fun fr=>rest run fr hp nid hs g)) run fr hp nid hs g=_
 cases gm o.op with
 |true=>
  show qk (Nat.add nid n) (fun id=>okK ((cOp E o.op).get fr hp id fun xr=>Yh E run id xr hp okQ) fun s hp' nid'=>qk (Nat.succ nid') fun nid'=>(G4 o.dst).get fr s fun fr=>rest run fr hp' nid' (hs++[hp']) g)=qk (nid+n) _;rw[qi,qi,qhx]
  congr 1
  funext s hp' nid';rw[qi,qi,e1]
 |false=>
  cases hr:Gj o.op with
  |true=>
   show okK ((cPu E o.op).get fr (G1 (zF fr o.op) hp)) (fun s _ _=>(G4 o.dst).get fr s fun fr=>rest run fr hp nid hs g)=_;rw[JG];show gt _ _ _ _ _=gt _ _ _ _ _
   congr 1
   funext s;exact e1 _ _
  |false=>
   show okK ((cPu E o.op).get fr .nil) (fun s _ _=>(G4 o.dst).get fr s fun fr=>rest run fr hp nid hs g)=_;rw[JG];have:G1 (zF fr o.op) hp=.nil:=by unfold zF;rw[hr];rfl
   show gt _ _ _ _ _=gt _ _ _ _ _;rw[this]
   congr 1
   funext s;exact e1 _ _
theorem qhA(E:XE)(n:Nat)(ds:List (Option Tmp))(run:XC):∀(l:List Oper)(fr:Tr 3 SV)(hp:Tr 6 XB)(nid:Nat)(hs:List (Tr 6 XB))(g:CK),(cCh E n ds l).get run fr hp nid hs g=gy E run n ds l fr hp nid hs g
 |[],fr,hp,nid,hs,g=>rfl
 |o :: l,fr,hp,nid,hs,g=>by
  have ih:=qhA E n ds run l;have ihf:(cCh E n ds l).get run=gy E run n ds l:=by funext fr hp nid hs g;exact ih fr hp nid hs g
  have go:=qjT E n o (cCh E n ds l).get run;show Bx.get (match o.guard with
   |none=>.mk (qaZ E n o (cCh E n ds l).get).get
   |some p=>.mk fun run fr hp nid hs g=>Option.rec (.bad 386 0) (fun sk=>Bool.rec ((qaZ E n o (cCh E n ds l).get).get run fr hp nid hs g) (putD o.dst undefSV fr fun fr=>Bool.rec ((cCh E n ds l).get run fr hp nid hs g) (qk (Nat.add nid n) fun nid=>(cCh E n ds l).get run fr hp nid (hs++[hp]) g) (gm o.op)) sk) (gdX ds (some p) fr)) run fr hp nid hs g=(match gdX ds o.guard fr with
   |some false=>Bool.rec (gt E o fr (G1 (zF fr o.op) hp) fun s=>putD o.dst s fr fun fr=>gy E run n ds l fr hp nid hs g)
    (qk (nid+n) fun id=>ZK E run id o fr hp fun s hp' nid'=>qk (Nat.succ nid') fun nid'=>putD o.dst s fr fun fr=>gy E run n ds l fr hp' nid' (hs++[hp']) g) (gm o.op)
   |some true=>putD o.dst undefSV fr fun fr=>Bool.rec (gy E run n ds l fr hp nid hs g) (qk (nid+n) fun nid=>gy E run n ds l fr hp nid (hs++[hp]) g) (gm o.op)
   |none=>.bad 386 0)
  cases hg:o.guard with
  |none=>
   show(qaZ E n o (cCh E n ds l).get).get run fr hp nid hs g=_;rw[go,ihf];rfl
  |some p=>
   show(Option.rec (.bad 386 0) (fun sk=>Bool.rec ((qaZ E n o (cCh E n ds l).get).get run fr hp nid hs g) (putD o.dst undefSV fr fun fr=>Bool.rec ((cCh E n ds l).get run fr hp nid hs g) (qk (Nat.add nid n) fun nid=>(cCh E n ds l).get run fr hp nid (hs++[hp]) g) (gm o.op)) sk) (gdX ds (some p) fr):R)=_;cases gdX ds (some p) fr with
   |none=>rfl
   |some sk=>
    cases sk with
    |false=>
     show(qaZ E n o (cCh E n ds l).get).get run fr hp nid hs g=_;rw[go,ihf]
    |true=>
     rw[ihf];rfl
def cCk(l:List Oper)(E:XE)(ops:List Oper):Nat→Bx (Tr 3 SV→List (Tr 6 XB)→R→R):=
 List.rec (motive:=fun _=>Nat→Bx (Tr 3 SV→List (Tr 6 XB)→R→R)) (fun _=>.mk fun _ _ r=>r) (fun o _ ih i=>qk (Nat.succ i) fun i1=>Bx.rec (fun rest=>(match Gj o.op with
  |true=>qk (loC l i) fun lo=>qk (hiC l i) fun hi=>qk (kc (efL l) i) fun tx=>(match Nat.beq lo tx&&Nat.beq hi tx with
   |true=>.mk rest
   |false=>.mk fun fr hs r=>Bool.rec (rest fr hs r) (Qc E fr o lo hi tx (rest fr hs r) hs 0) (zF fr o.op&&ZU (dsts l) o fr))
  |false=>.mk rest)) (ih i1)) ops
theorem JH(E:XE)(fr:Tr 3 SV)(o:Oper)(t:Nat)(r:R):∀(hs:List (Tr 6 XB))(k:Nat),Qc E fr o t t t r hs k=r
 |[],k=>rfl
 |hp :: hs,k=>by
  show(Bool.rec (qk (Nat.succ k) fun k=>Qc E fr o t t t r hs k) (VM E fr o hp (qk (Nat.succ k) fun k=>Qc E fr o t t t r hs k)) (Nat.ble t k&&(Nat.ble k t&&!(Nat.beq k t))):R)=r;have:(Nat.ble t k&&(Nat.ble k t&&!(Nat.beq k t)))=false:=by
   cases h1:Nat.ble t k with
   |false=>rfl
   |true=>
    cases h2:Nat.ble k t with
    |false=>rfl
    |true=>
     have:=xa7 h1;have:=xa7 h2;have:k=t:=by omega
     rw[this,Nat.beq_refl];rfl
  rw[this];show(qk (Nat.succ k) fun k=>Qc E fr o t t t r hs k)=r;rw[qi];exact JH E fr o t r hs _
theorem qhB(E:XE)(l:List Oper)(fr:Tr 3 SV)(hs:List (Tr 6 XB))(r:R):∀(ops:List Oper)(i:Nat),(cCk l E ops i).get fr hs r=Gt E l fr hs r ops i
 |[],i=>rfl
 |o :: ops,i=>by
  have ih:=qhB E l fr hs r ops (Nat.succ i);show Bx.get (qk (Nat.succ i) fun i1=>Bx.rec (fun rest=>(match Gj o.op with
   |true=>qk (loC l i) fun lo=>qk (hiC l i) fun hi=>qk (kc (efL l) i) fun tx=>(match Nat.beq lo tx&&Nat.beq hi tx with
    |true=>.mk rest
    |false=>.mk fun fr hs r=>Bool.rec (rest fr hs r) (Qc E fr o lo hi tx (rest fr hs r) hs 0) (zF fr o.op&&ZU (dsts l) o fr))
   |false=>.mk rest)) (cCk l E ops i1)) fr hs r=(Bool.rec (qk (Nat.succ i) fun i=>Gt E l fr hs r ops i) (qk (loC l i) fun lo=>qk (hiC l i) fun hi=>qk (kc (efL l) i) fun tx=>Qc E fr o lo hi tx (qk (Nat.succ i) fun i=>Gt E l fr hs r ops i) hs 0) (zF fr o.op&&ZU (dsts l) o fr):R)
  rw[qi];have e:(qk (Nat.succ i) fun i=>Gt E l fr hs r ops i)=(cCk l E ops (Nat.succ i)).get fr hs r:=by rw[qi,ih]
  rw[e];cases hr:Gj o.op with
  |false=>
   have:(zF fr o.op&&ZU (dsts l) o fr)=false:=by unfold zF;rw[hr];rfl
   rw[this]
  |true=>
   show Bx.get (qk (loC l i) fun lo=>qk (hiC l i) fun hi=>qk (kc (efL l) i) fun tx=>(match Nat.beq lo tx&&Nat.beq hi tx with
    |true=>.mk (cCk l E ops (Nat.succ i)).get
    |false=>.mk fun fr hs r=>Bool.rec ((cCk l E ops (Nat.succ i)).get fr hs r) (Qc E fr o lo hi tx ((cCk l E ops (Nat.succ i)).get fr hs r) hs 0) (zF fr o.op&&ZU (dsts l) o fr))) fr hs r=_
   rw[qi,qi,qi,qi,qi,qi];cases h:(Nat.beq (loC l i) (kc (efL l) i)&&Nat.beq (hiC l i) (kc (efL l) i))with
   |false=>rfl
   |true=>
    rw[xe6]at h;rw[xa6 h.1,xa6 h.2,JH];cases (zF fr o.op&&ZU (dsts l) o fr)<;>rfl
abbrev qhC:=XC→CX→Tr 3 SV→Tr 6 XB→Nat→XK→R
def qme(E:XE)(L:FL)(id:Nat)(d:Bool)(ops:List Oper):Bx qhC:=
 match zJ L id with
 |[]=>ZJ (kD d ops) fun j=>Bx.rec (fun q=>qk ops.length fun n=>.mk fun run cx fr hp nid f=>q run cx fr hp nid fun fr hp nid=>qk (Nat.add nid n) fun nid=>f .normal fr hp nid) (Zt E j (dsts ops) ops 0)
 |(2,2) :: _=>(match d,Gk ops with
  |true,true=>qk ops.length fun n=>Bx.rec (fun q=>Bx.rec (fun ck=>.mk fun run cx fr hp nid f=>q run fr hp nid [hp] fun fr hp nid hs=>ck fr hs (qk (Nat.add nid n) fun nid=>f .normal fr hp nid)) (cCk ops E ops 0)) (cCh E n (dsts ops) ops)
  |_,_=>.mk fun run cx fr hp nid f=>qaV E run L cx id d ops fr hp nid f)
 |_=>.mk fun run cx fr hp nid f=>qaV E run L cx id d ops fr hp nid f
theorem qjU(E:XE)(L:FL)(id:Nat)(d:Bool)(ops:List Oper)(run:XC)(cx:CX)(fr:Tr 3 SV)(hp:Tr 6 XB)(nid:Nat)(f:XK):(qme E L id d ops).get run cx fr hp nid f=qaV E run L cx id d ops fr hp nid f:=by
 unfold qme;split
 ·rename_i h
  unfold qaV;rw[h,Qv];have e:(Bx.rec (fun q=>qk ops.length fun n=>.mk fun run cx fr hp nid f=>q run cx fr hp nid fun fr hp nid=>qk (Nat.add nid n) fun nid=>f .normal fr hp nid) (Zt E (kD d ops) (dsts ops) ops 0):Bx qhC)=.mk fun run cx fr hp nid f=>(Zt E (kD d ops) (dsts ops) ops 0).get run cx fr hp nid fun fr hp nid=>qk (Nat.add nid ops.length) fun nid=>f .normal fr hp nid:=by
   show(qk ops.length fun n=>_)=_;rw[qi];rfl
  rw[e];show(Zt E (kD d ops) (dsts ops) ops 0).get run cx fr hp nid (fun fr hp nid=>qk (Nat.add nid ops.length) fun nid=>f .normal fr hp nid)=QW E run cx (kD d ops) (dsts ops) ops 0 fr hp nid (Gv ops f);rw[qcJ];rfl
 ·rename_i l h
  split
  ·rename_i hd hch
   unfold qaV;rw[h];show _=qj 361 true (qjC E run ops fr hp nid f);unfold qjC;rw[hch];show _=qk ops.length fun n=>gy E run n (dsts ops) ops fr hp nid [hp] fun fr hp nid hs=>Gt E ops fr hs (qk (nid+n) fun nid=>f .normal fr hp nid) ops 0;rw[qi,qi];show(cCh E ops.length (dsts ops) ops).get run fr hp nid [hp] (fun fr hp nid hs=>(cCk ops E ops 0).get fr hs (qk (Nat.add nid ops.length) fun nid=>f .normal fr hp nid))=_;rw[qhA]
   congr 1
   funext fr hp nid hs;exact qhB _ _ _ _ _ _ _
  ·rfl
 ·rfl
def qhD(run:XC)(L:FL)(cx:CX)(b:Code)(f:XK)(e:Ex)(fr:Tr 3 SV)(hp:Tr 6 XB)(nid:Nat):R:=Ex.rec (run L cx b fr hp nid f) (fun i=>f (.exit i) fr hp nid) (f .ret fr hp nid) e
theorem qcK(run:XC)(L:FL)(cx:CX)(b:Code)(f:XK):qhD run L cx b f=qeu run L cx b f:=by
 funext e fr hp nid;cases e<;>rfl
def qba(id:Nat)(f:XK)(e:Ex)(fr:Tr 3 SV)(hp:Tr 6 XB)(nid:Nat):R:=Ex.rec (f .normal fr hp nid) (fun i=>Bool.rec (f (.exit i) fr hp nid) (f .normal fr hp nid) (Nat.beq i id)) (f .ret fr hp nid) e
theorem qez(id:Nat)(f:XK):qba id f=qhg id f:=by
 funext e fr hp nid;cases e<;>rfl
def qhE(v:SV)(a b:R):R:=qlX v (fun c=>Bool.rec b a c) (.bad 320 0)
theorem qhF(v:SV)(a b:R):qhE v a b=qhh v a b:=by
 cases v<;>first|rfl|skip
 rename_i v;cases v<;>rfl
def qhG(E:XE)(L:FL)(c:Code):Bx qhC:=
 match c with
 |.skip=>.mk fun _ _ fr hp nid f=>f .normal fr hp nid
 |.seq a b=>.mk fun run cx fr hp nid f=>run L cx a fr hp nid (qhD run L cx b f)
 |.cond x a b=>Bx.rec (fun q=>.mk fun run cx fr hp nid f=>qhE (q fr) (run L cx a fr hp nid f) (run L cx b fr hp nid f)) (G3 x)
 |.block id c=>.mk fun run cx fr hp nid f=>run L cx c fr hp nid (qba id f)
 |.exit id=>.mk fun _ _ fr hp nid f=>f (.exit id) fr hp nid
 |.ret=>.mk fun _ _ fr hp nid f=>f .ret fr hp nid
 |.scope c=>.mk fun run cx fr hp nid f=>run L cx c fr hp nid f
 |.loop c=>.mk fun run cx fr hp nid f=>run L cx c fr hp nid (qhD run L cx (.loop c) f)
 |.region id ops d=>qme E L id d ops.toList
 |c=>.mk fun run cx fr hp nid f=>JF E run L cx c fr hp nid f
theorem qhH(E:XE)(run:XC)(L:FL)(cx:CX)(c:Code)(fr:Tr 3 SV)(hp:Tr 6 XB)(nid:Nat)(f:XK):(qhG E L c).get run cx fr hp nid f=JF E run L cx c fr hp nid f:=by
 cases c<;>first|rfl|(unfold qhG JF;dsimp only)
 case seq a b=>show run L cx a fr hp nid (qhD run L cx b f)=_;rw[qcK]
 case cond x a b=>
  show qhE ((G3 x).get fr) _ _=_;rw[qhF,Kc]
 case block id c=>show run L cx c fr hp nid (qba id f)=_;rw[qez]
 case loop c=>show run L cx c fr hp nid (qhD run L cx (.loop c) f)=_;rw[qcK]
 case region id ops d=>exact qjU _ _ _ _ _ _ _ _ _ _ _
end
end Go.Sx
end
section
namespace Go.Sx
open Go.RowKit
noncomputable section
variable{ρ:Q}
def ZV(E:XE)(n:Nat):XC:=Nat.rec (motive:=fun _=>XC) (fun _ _ _ _ _ _ _=>.bad 322 0) (fun _ ih L cx c fr hp nid f=>Bx.rec (fun q=>q ih cx fr hp nid f) (qhG E L c)) n
theorem JI(E:XE)(n:Nat):ZV E (n+1)=JF E (ZV E n):=by
 funext L cx c fr hp nid f;exact qhH E (ZV E n) L cx c fr hp nid f
section
variable{P:Program}{E:XE}
theorem qhI{n:Nat}(ih:∀m,m≤n→jP P (ZV E m)){LM:Nat→Option Loop}{fs:List Fr}{lo:Nat}{rnd:Bool}{L:FL}{cx:CX}(hcx:qeq LM fs rnd cx){c:Code}{st:St}{fr:Tr 3 SV}{hp:Tr 6 XB}{nid:Nat}{f:XK}{K:Ex→St→Prop}(hs:StR LM fr hp nid st)(h:ZV E n L cx c fr hp nid (qeu (ZV E n) L cx (.loop c) f)=.ok ρ)
  (hk:∀e fr' hp' nid' st',StR LM fr' hp' nid' st'→f e fr' hp' nid'=.ok ρ→K e st'):vc P ⟨fs,lo,rnd,zJ L⟩ (.loop c) st K:=by
 refine .inl ⟨{p:Nat×St // p.1≤n∧∃fr hp nid,StR LM fr hp nid p.2∧ZV E p.1 L cx c fr hp nid (qeu (ZV E p.1) L cx (.loop c) f)=.ok ρ},fun x=>x.1.2,fun x=>x.1.1,⟨(n,st),xa5 n,fr,hp,nid,hs,h⟩,fun _ _ _ _ _ _ hi=>hi,?_⟩;rintro⟨⟨m,s⟩,hmn,fr,hp,nid,hs,h⟩;refine ih m hmn ρ LM _ _ _ _ _ c _ _ _ _ _ _ hcx hs h fun e fr' hp' nid' st' hs' h'=>?_;cases e with
 |exit i=>exact hk _ _ _ _ _ hs' h'
 |ret=>exact hk _ _ _ _ _ hs' h'
 |normal=>
  cases m with
  |zero=>cases h'
  |succ m=>
   have h':ZV E (m+1) L cx (.loop c) fr' hp' nid' f=.ok ρ:=h';rw[JI]at h';exact⟨⟨(m,st'),Nat.le_of_succ_le hmn,fr',hp',nid',hs',h'⟩,xb5 m,fun _ _ _ _ _ _ hi=>hi⟩
theorem qcL(hm:P.follows .mixedOrders=true)(hE:XOk P E)(hf:vT P E)(n:Nat):jP P (ZV E n):=by
 induction n using Nat.strongRecOn with
 |_ n ih=>
  cases n with
  |zero=>exact fun _ _ _ _ _ _ _ _ _ _ _ _ _ _ _ _ h _=>by cases h
  |succ n=>
   rw[JI];exact qhl hm hE hf (ih n (xb5 n)) fun ρ LM fs lo rnd L cx c st fr hp nid f K hcx hs h hk=>qhI (fun m hmn=>ih m (Nat.lt_succ_of_le hmn)) hcx hs h hk
def qoC(E:XE)(rs:List ResultVar)(ok:Tr 6 XB→SV→R):XK
 |.exit _,_,_,_=>.bad 330 0
 |.normal,fr,hp,_=>wJ E fr hp rs fun m=>ok hp (oneSV m)
 |.ret,fr,hp,_=>wJ E fr hp rs fun m=>ok hp (oneSV m)
def wL(_:Tr 6 XB)(s:SV):R:=
 match s with
 |.val (.bool b)=>Bool.rec (.bad 331 0) (.ok (.mk .top .nil 0)) b
 |_=>.bad 332 0
def g6(res:SV)(hp:Tr 6 XB)(s:SV):R:=Bool.rec (.bad 334 0) (.ok (.mk .top .nil 0)) (mtX hp 6 res s)
theorem qeA{s:SV}{hp:Tr 6 XB}(h:wL hp s=.ok ρ):s=.val (.bool true):=by
 unfold wL at h;split at h
 ·rename_i b
  cases b with
  |true=>rfl
  |false=>cases h
 ·cases h
def jH(E:XE)(n:Nat)(fn:Func)(L:FL)(args:List SV)(ok:Tr 6 XB→SV→R):R:=
 match fn.body with
 |some c=>VL args 0 .nil fun fr=>ZV E n L .top c fr .nil 0 (qoC E fn.results.toList ok)
 |none=>.bad 333 0
def kE:R→Bool
 |.ok _=>true
 |_=>false
theorem vU(hm:P.follows .mixedOrders=true)(hE:XOk P E)(hf:vT P E){g:Nat}{fn:Func}{L:FL}{c:Code}(hc:qgV P g fn L c){args:List SV}(hl:args.length≤fn.ntmps)(ho:OldL args){res:SV}{ok:Tr 6 XB→SV→R}(hok:∀hp s H,HRel (fun _=>none) hp H→ok hp s=.ok ρ→Sub H res s)(n:Nat)(h:jH E n fn L args ok=.ok ρ):qf P g args res:=by
 refine ji (zJ L) hc.at_ hc.body hc.name hm hc.ok args res hl ho ?_;unfold jH at h;rw[hc.body]at h;obtain⟨fr,h1,h2⟩:=yg h;have key:∀(fr3:Tr 3 SV)(hp3:Tr 6 XB)(nid3:Nat)(st3:St),StR (fun _=>none) fr3 hp3 nid3 st3→wJ E fr3 hp3 fn.results.toList (fun m=>ok hp3 (oneSV m))=.ok ρ→retVC P fn.results.toList st3 res:=fun fr3 hp3 nid3 st3 h3 h=>by
  rw[KW];exact yh hE h3 h fun m h=>hok _ _ _ h3.2.1 h
 refine qcL hm hE hf n ρ (fun _=>none) _ _ _ L .top c _ fr .nil 0 _ _ rfl ⟨h1,fun id b hb=>(by rw[Qw]at hb;cases hb),rfl⟩ h2 fun e fr3 hp3 nid3 st3 h3 h=>?_;cases e with
 |exit i=>cases h
 |normal=>exact key _ _ _ _ h3 h
 |ret=>exact key _ _ _ _ h3 h
theorem qbb(hp:Tr 6 XB)(s:SV)(H:List (Nat×Blk))(_:HRel (fun _=>none) hp H)(h:wL hp s=.ok ρ):Sub H (.val (.bool true)) s:=by
 rw[qeA h];rfl
theorem qeB{res:SV}(hp:Tr 6 XB)(s:SV)(H:List (Nat×Blk))(hH:HRel (fun _=>none) hp H)(h:g6 res hp s=.ok ρ):Sub H res s:=by
 unfold g6 at h;cases q:mtX hp 6 res s with
 |false=>rw[q]at h;cases h
 |true=>exact qaR hH 6 _ _ q
theorem Yp{r:R}(h:kE r=true):∃q,r=.ok q:=by
 unfold kE at h;split at h
 ·exact⟨_,rfl⟩
 ·cases h
end
end
end Go.Sx
end
section
namespace Go.Sx
open Go.RowKit
noncomputable section
variable{ρ:Q}
def okB (L : FL) (fn : Func) : Bool := !(fn.name == "runtime.NumGoroutine") && (match fn.body with | some c => qD (zJ L) fn.ntmps c | none => false)
theorem fnX{P:Program}{g:Nat}{fn:Func}{L:FL}(h:P.funcs[g]? = some fn)(ho:okB L fn=true):∃c,qgV P g fn L c:=by
 unfold okB at ho;simp only[xe6,Bool.not_eq_true']at ho;obtain⟨h1,h2⟩:=ho;cases hb:fn.body with
 |none=>rw[hb]at h2;cases h2
 |some c=>rw[hb]at h2;exact⟨c,⟨h,hb,h1,h2⟩⟩
abbrev FT:=List (Option FL)
def zL{α:Type}(l:List (Option α)):Nat→Option α:=List.rec (fun _=>none) (fun a _ ih i=>Nat.rec a (fun j _=>ih j) i) l
def qnD(fn:Option Func)(L:FL):Option (Func×FL):=Option.rec none (fun fn=>some (fn,L)) fn
def okT(P:Program)(l:FT):Nat→Bool:=List.rec (fun _=>true) (fun a _ ih i=>Bool.rec false (qk (Nat.succ i) fun i=>ih i) (Option.rec true (fun L=>Option.rec false (fun fn=>okB L fn) (P.funcs[i]?)) a)) l
theorem Gx{P:Program}:∀{l:FT}{i j:Nat}{L:FL}{fn:Func},okT P l i=true→zL l j=some L→P.funcs[i+j]? = some fn→okB L fn=true
 |[],i,j,L,fn,h,hj,hf=>by cases hj
 |a :: l,i,j,L,fn,h,hj,hf=>by
  have h:(Bool.rec false (qk (Nat.succ i) fun i=>okT P l i) (Option.rec true (fun L=>Option.rec false (fun fn=>okB L fn) (P.funcs[i]?)) a):Bool)=true:=h;rw[qi]at h;cases q:(Option.rec true (fun L=>Option.rec false (fun fn=>okB L fn) (P.funcs[i]?)) a:Bool)with
  |false=>rw[q]at h;cases h
  |true=>
   rw[q]at h;cases j with
   |zero=>
    have hj:a=some L:=hj;subst hj;rw[xb1]at hf;rw[hf]at q;exact q
   |succ j=>exact Gx (l:=l) (i:=i+1) (j:=j) h hj (by rw[show i+1+j=i+(j+1) by omega];exact hf)
def qmf(P:Program)(t:TypeId):Option (TypeId×Nat×List Value):=
 match qn P t with
 |some ⟨_,_,_,.slice e k⟩=>(match qn P e with
  |some ⟨_,_,some z,_⟩=>Bool.rec none (some (e,k,z)) (Nat.ble 1 k&&(Nat.beq z.length k&&Nat.ble (qF P e) 100000000))
  |_=>none)
 |_=>none
def qcM:List (Nat×Nat×Sh)→Nat→Option (Nat×Sh)
 |[],_=>none
 |(h,x) :: l,g=>Bool.rec (qcM l g) (some x) (Nat.beq g h)
def qhJ(P:Program):List (Nat×Nat×Sh)→Prop
 |[]=>True
 |(h,n,i) :: l=>Zz P h n i∧qhJ P l
theorem Yq{P:Program}:∀{pl:List (Nat×Nat×Sh)},qhJ P pl→∀g n i,qcM pl g=some (n,i)→Zz P g n i
 |[],_,g,n,i,h=>by cases h
 |(h0,n0,i0) :: l,hp,g,n,i,h=>by
  have h:(Bool.rec (qcM l g) (some (n0,i0)) (Nat.beq g h0):Option (Nat×Sh))=some (n,i):=h;cases e:Nat.beq g h0 with
  |true=>rw[e]at h;have h:=Option.some.inj h;cases h;rw[xa6 e];exact hp.1
  |false=>rw[e]at h;exact Yq hp.2 g n i h
theorem Kd{P:Program}{g:Nat}(h:∀v:Value,qf P g [.val v] (.val v)):Zz P g 1 (.one 0):=by
 refine⟨(h undef).1,fun w vs hv _=>?_⟩;refine((h (vs.getD 0 undef)).2 (fun _=>True) w vs hv fun i sv hi=>?_).mono fun e w'=>?_
 ·cases i with
  |zero=>simp only[xd6,Option.some.injEq]at hi;subst hi;exact .val _
  |succ i=>simp at hi
 ·rintro⟨v,rfl,hb,hr⟩
  cases hr;exact⟨rfl,hb⟩
theorem qjV {P : Program} {g n : Nat} {l : List Nat} (hf : ∃ fn, P.funcs[g]? = some fn ∧ (fn.name == "runtime.NumGoroutine") = false ∧ fn.body.isSome = true) (h : ∀ vs : Array Value, n = vs.size → (∀ i, i ∈ l → (vs.getD i undef).oneCell' = true) → qf P g (vs.toList.map .val) (.agg (l.map fun i => .val (vs.getD i undef)))) : Zz P g n (.ag l) := by
 refine⟨hf,fun w vs hv ho=>?_⟩;refine((h vs hv ho).2 (fun _=>True) w vs Ωg fun i sv hi=>?_).mono fun e w'=>?_
 ·rw[List.getElem?_map,xf6]at hi
  cases e:vs[i]? with
  |none=>rw[e]at hi;cases hi
  |some v=>
   rw[e]at hi;cases hi;rw[xf5,e];exact .val _
 ·rintro⟨v,rfl,hb,hr⟩
  cases hr with
  |agg _ cs hl hr=>
  refine⟨?_,hb⟩
  congr 1
  unfold Sh.val
  congr 1
  refine Array.ext (by simpa using hl.symm) fun i h1 h2=>?_;have h3:i<l.length:=by simpa using h2
  have hi:=hr i (.val (vs.getD l[i] undef)) (by rw[List.getElem?_map,xc7 h3];rfl);have e:cs.getD i undef=cs[i]:=by rw[xf5,Array.getElem?_eq_getElem h1];rfl
  rw[e]at hi;have e2:(l.map fun i=>vs.getD i undef).toArray[i]=vs.getD l[i] undef:=by simp
  rw[e2];generalize cs[i]=z at hi;cases hi;rfl
structure XP:Type where
 fl:FT
 pl:List (Nat×Nat×Sh)
 ol:List (Nat×(List SV→Tr 6 XB→Nat→(SV→Tr 6 XB→Nat→R)→R))
 cl:List (Nat×List SV×SV)
 nl:List (Nat×List SV×(TypeId×Nat×Nat×List SV×SV))
def qcN:List (Nat×(List SV→Tr 6 XB→Nat→(SV→Tr 6 XB→Nat→R)→R))→Nat→Option (List SV→Tr 6 XB→Nat→(SV→Tr 6 XB→Nat→R)→R)
 |[],_=>none
 |(h,f) :: l,g=>Bool.rec (qcN l g) (some f) (Nat.beq g h)
def JJ:List (Nat×List SV×SV)→Nat→List (List SV×SV)
 |[],_=>[]
 |(h,x) :: l,g=>Bool.rec (JJ l g) (x :: JJ l g) (Nat.beq g h)
def JK:List (Nat×List SV×(TypeId×Nat×Nat×List SV×SV))→Nat→List (List SV×(TypeId×Nat×Nat×List SV×SV))
 |[],_=>[]
 |(h,x) :: l,g=>Bool.rec (JK l g) (x :: JK l g) (Nat.beq g h)
def qbc(P:Program):List (Nat×List SV×(TypeId×Nat×Nat×List SV×SV))→Prop
 |[]=>True
 |(h,qq_,t,k,n,m,s) :: l=>qgo P h qq_ t k n m s∧qbc P l
def qbd(P:Program):List (Nat×(List SV→Tr 6 XB→Nat→(SV→Tr 6 XB→Nat→R)→R))→Prop
 |[]=>True
 |(h,f) :: l=>yA P h f∧qbd P l
def qbe(P:Program):List (Nat×List SV×SV)→Prop
 |[]=>True
 |(h,qq_,s) :: l=>qf P h qq_ s∧qbe P l
theorem Yr{P:Program}:∀{l:List (Nat×(List SV→Tr 6 XB→Nat→(SV→Tr 6 XB→Nat→R)→R))},qbd P l→∀g f,qcN l g=some f→yA P g f
 |[],_,g,f,h=>by cases h
 |(h0,f0) :: l,hp,g,f,h=>by
  have h:(Bool.rec (qcN l g) (some f0) (Nat.beq g h0):Option _)=some f:=h;cases e:Nat.beq g h0 with
  |true=>rw[e]at h;have h:=Option.some.inj h;cases h;rw[xa6 e];exact hp.1
  |false=>rw[e]at h;exact Yr hp.2 g f h
theorem Gy{P:Program}:∀{l:List (Nat×List SV×SV)},qbe P l→∀g qq_ s,(qq_,s)∈JJ l g→qf P g qq_ s
 |[],_,g,qq_,s,h=>by cases h
 |(h0,as0,s0) :: l,hp,g,qq_,s,h=>by
  have h:(qq_,s)∈(Bool.rec (JJ l g) ((as0,s0) :: JJ l g) (Nat.beq g h0):List (List SV×SV)):=h;cases e:Nat.beq g h0 with
  |true=>
   rw[e]at h;rcases List.mem_cons.1 h with h|h
   ·cases h;rw[xa6 e];exact hp.1
   ·exact Gy hp.2 g qq_ s h
  |false=>rw[e]at h;exact Gy hp.2 g qq_ s h
theorem Gz{P:Program}:∀{l:List (Nat×List SV×(TypeId×Nat×Nat×List SV×SV))},qbc P l→∀g qq_ t k n m s,(qq_,(t,k,n,m,s))∈JK l g→qgo P g qq_ t k n m s
 |[],_,g,qq_,t,k,n,m,s,h=>by cases h
 |(h0,as0,t0,k0,n0,m0,s0) :: l,hp,g,qq_,t,k,n,m,s,h=>by
  have h:(qq_,(t,k,n,m,s))∈(Bool.rec (JK l g) ((as0,(t0,k0,n0,m0,s0)) :: JK l g) (Nat.beq g h0):List (List SV×(TypeId×Nat×Nat×List SV×SV))):=h;cases e:Nat.beq g h0 with
  |true=>
   rw[e]at h;rcases List.mem_cons.1 h with h|h
   ·cases h;rw[xa6 e];exact hp.1
   ·exact Gz hp.2 g qq_ t k n m s h
  |false=>rw[e]at h;exact Gz hp.2 g qq_ t k n m s h
def qhK(P:Program)(t:TypeId):Bool:=
 match P.underlying t with
 |some .string=>true
 |_=>false
theorem qhL(P:Program)(t:TypeId)(h:qhK P t=true):P.underlying t=some .string:=by
 unfold qhK at h;split at h
 ·rename_i e;exact e
 ·cases h
def jF(P:Program)(X:XP):XE:=⟨fun g=>Option.rec none (fun L=>qnD P.funcs[g]? L) (zL X.fl g),qn P,qB P,z9 P,qmf P,qy P,qcM X.pl,qhK P,qcN X.ol,JJ X.cl,JK X.nl⟩
structure qeC(P:Program)(X:XP):Prop where
 fl:okT P X.fl 0=true
 pl:qhJ P X.pl
 ol:qbd P X.ol
 cl:qbe P X.cl
 nl:qbc P X.nl
theorem GA(P:Program)(X:XP)(hk:okT P X.fl 0=true):vT P (jF P X):=fun g fn L h=>by
 have h:(Option.rec none (fun L=>qnD P.funcs[g]? L) (zL X.fl g):Option (Func×FL))=some (fn,L):=h;cases e:zL X.fl g with
 |none=>rw[e]at h;cases h
 |some L0=>
  rw[e]at h;cases hf:P.funcs[g]? with
  |none=>rw[hf]at h;cases h
  |some f=>
   rw[hf]at h;have h:some (f,L0)=some (fn,L):=h;cases h;exact fnX hf (Gx hk e (by rw[xb0];exact hf))
theorem VS(P:Program)(X:XP)(hX:qeC P X):XOk P (jF P X):=⟨fun _ _ h=>h,fun _ _ h=>h,fun _ _ h=>h,Yq hX.pl,qhL P,Yr hX.ol,Gy hX.cl,Gz hX.nl,fun _ _ h=>h,fun t e k z h=>by
 have h:qmf P t=some (e,k,z):=h;unfold qmf at h;split at h
 ·rename_i h1
  split at h
  ·rename_i h2
   generalize hb:(Nat.ble 1 _&&(Nat.beq _ _&&Nat.ble _ 100000000))=b at h;cases b with
   |false=>cases h
   |true=>
    have h:=Option.some.inj h;simp only[Prod.mk.injEq]at h;obtain⟨rfl,rfl,rfl⟩:=h;simp only[xe6]at hb;exact⟨⟨_,_,_,h1⟩,⟨_,_,_,h2⟩,xa7 hb.1,xa6 hb.2.1,xa7 hb.2.2⟩
  ·cases h
 ·cases h⟩
theorem jQ{P:Program}(hm:P.follows .mixedOrders=true){X:XP}(hX:qeC P X){g:Nat}{fn:Func}{L:FL}(hg:P.funcs[g]? = some fn)(hL:zL X.fl g=some L)(n:Nat)(h:kE (jH (jF P X) n fn L [] wL)=true):qf P g [] (.val (.bool true)):=by
 obtain⟨c,hc⟩:=fnX hg (Gx hX.fl hL (by rw[xb0];exact hg));obtain⟨q,h⟩:=Yp h;exact vU hm (VS P X hX) (GA P X hX.fl) hc (xb6 _) (args:=[]) trivial qbb n h
theorem qP{P:Program}(hm:P.follows .mixedOrders=true){X:XP}(hX:qeC P X){g:Nat}{fn:Func}{L:FL}(hg:P.funcs[g]? = some fn)(hL:zL X.fl g=some L)(n:Nat){args:List SV}(hl:args.length≤fn.ntmps)(ho:OldL args){res:SV}(h:kE (jH (jF P X) n fn L args (g6 res))=true):qf P g args res:=by
 obtain⟨c,hc⟩:=fnX hg (Gx hX.fl hL (by rw[xb0];exact hg));obtain⟨q,h⟩:=Yp h;exact vU hm (VS P X hX) (GA P X hX.fl) hc hl ho qeB n h
end
end Go.Sx
end
section
namespace Go.Sx
open Go.RowKit
noncomputable section
def Q0(t:Tr 4 Nat)(l:List Nat):Nat:=List.rec (motive:=fun _=>Nat→Nat) (fun m=>m) (fun a _ ih m=>Option.rec 0 (fun x=>Nat.rec 0 (fun y _=>qk (Nat.max m (Nat.succ x)) fun m=>ih m) x) (t.find a)) l 1
def VT(l:List (List Nat)):Nat→Tr 4 Nat→(Tr 4 Nat→Nat→R)→Nat→R:=List.rec (motive:=fun _=>Nat→Tr 4 Nat→(Tr 4 Nat→Nat→R)→Nat→R) (fun _ t f c=>f t c) (fun a _ ih i t f c=>qk (Nat.succ i) fun i1=>Option.rec (.bad 452 0) (fun x=>Nat.rec (qk (Q0 t a) fun m=>Nat.rec (ih i1 t f c) (fun _ _=>qk (Nat.succ c) fun c=>qW (some m) 22 t i fun t=>ih i1 t f c) m) (fun _ _=>ih i1 t f c) x) (t.find i)) l
def qmg(l:List (List Nat))(n:Nat):Tr 4 Nat→(Tr 4 Nat→R)→R:=Nat.rec (motive:=fun _=>Tr 4 Nat→(Tr 4 Nat→R)→R) (fun _ _=>.bad 453 0) (fun _ ih t f=>VT l 0 t (fun t c=>Nat.rec (f t) (fun _ _=>ih t f) c) 0) n
def qbf(l:List (List Nat)):Nat→Tr 4 Nat→(Tr 4 Nat→R)→R:=List.rec (motive:=fun _=>Nat→Tr 4 Nat→(Tr 4 Nat→R)→R) (fun _ t f=>f t) (fun _ _ ih i t f=>qW (some 0) 22 t i fun t=>qk (Nat.succ i) fun i=>ih i t f) l
def qeD(x:Nat):SV:=Nat.rec (.val (.int .i64 (.negSucc 0))) (fun y _=>.val (.int .i64 (.ofNat y))) x
def qcO(t:Tr 4 Nat)(l:List (List Nat)):Nat→(List SV→R)→R:=List.rec (motive:=fun _=>Nat→(List SV→R)→R) (fun _ f=>f []) (fun _ _ ih i f=>qk (Nat.succ i) fun i1=>Option.rec (.bad 454 0) (fun x=>qk x fun x=>ih i1 fun m=>f (qeD x :: m)) (t.find i)) l
def qeE(k:Value):Nat:=match k with
 |.agg c=>(match c.toList with
  |[_,_,_,_,_,.int _ (.ofNat n)]=>n
  |_=>0)
 |_=>0
def qcP(t:Tr 4 Nat)(es:List (Value×Option SV))(f:List (Value×Option SV)→R):R:=(List.rec (motive:=fun _=>(List (Value×Option SV)→R)→R) (fun f=>f []) (fun p _ ih f=>qk (qeE p.1) fun i=>Option.rec (.bad 455 0) (fun x=>Nat.rec (ih fun l=>f (p :: l)) (fun _ _=>ih f) x) (t.find i)) es) f
end
end Go.Sx
end
section
namespace Go.Sx
theorem Zu{hp:List (Nat×Blk)}{m:Nat→Option Nat}{nn:Nat}{sl:Nat→Bool}:∀{l:List SV},(∀(i:Nat) sv,l[i]? = some sv→Wk hp m nn sl sv sv)→WkL hp m nn sl l l
 |[],_=>by simp[WkL]
 |a :: l,h=>by
  unfold WkL;exact⟨h 0 a rfl,Zu fun i sv e=>h (i+1) sv e⟩
theorem vf{hp:List (Nat×Blk)}{m:Nat→Option Nat}{nn n0:Nat}{sl:Nat→Bool}(hm:∀i,i<n0→m i=some i)(hn:n0≤nn){r:Nat→Option Nat}{G:Bool→Nat→Prop}{w:World}{sv:SV}{v:Value}(h:Rep r (· < n0) G w sv v):Wk hp m nn sl sv sv:=by
 have key:∀id,id<n0→id<nn∧m id=some id:=fun id h=>⟨xa9 h hn,hm id h⟩
 induction h with
 |top v=>simp[Wk]
 |val v=>simp[Wk]
 |agg l cs hl h ih=>unfold Wk;exact Zu ih
 |tup l cs hl h ih=>unfold Wk;exact Zu ih
 |fn f l k cs ds hl hm' h h' ih ih'=>unfold Wk;exact⟨rfl,Zu ih,Zu ih'⟩
 |ptr id off b hN hr=>unfold Wk;exact⟨(key id hN).1,(key id hN).2,rfl⟩
 |elt id k i j b hN hr=>unfold Wk;exact⟨(key id hN).1,(key id hN).2,rfl,rfl,rfl⟩
 |ref o n row b off f hG hc h ih=>unfold Wk;exact⟨fun h=>h,xa5 _,ih⟩
 |arrNil o full k row a cap hf=>unfold Wk;exact⟨fun h=>h,fun h=>h,rfl,rfl,fun i j hi=>by omega⟩
 |arr o full n k row b off cap f hG hf hcap hc h ih=>unfold Wk;exact⟨fun h=>h,fun h=>h,rfl,rfl,ih⟩
 |vecNil id k hN hr=>unfold Wk;exact⟨(key id hN).1,(key id hN).2,rfl,rfl⟩
 |vec id n k b cap cs t hN hr=>unfold Wk;exact⟨(key id hN).1,(key id hN).2,rfl,rfl⟩
 |mp id b hN hr=>unfold Wk;exact key id hN
 |asl id off n k b cap hN hr hcap=>unfold Wk;exact⟨(key id hN).1,(key id hN).2,rfl,rfl,rfl⟩
 |queNil id off k a hN=>unfold Wk;exact⟨(key id hN).1,(key id hN).2,rfl,rfl,rfl⟩
 |que id off n k b cap cs t hN hr=>unfold Wk;exact⟨(key id hN).1,(key id hN).2,rfl,rfl,rfl⟩
 |cutNil id k hN hr=>unfold Wk;exact⟨(key id hN).1,(key id hN).2,rfl,rfl⟩
 |cut id n k b hN hr=>unfold Wk;exact⟨(key id hN).1,(key id hN).2,rfl,rfl⟩
 |cmp o fit dom get b es clock hG hb hmo h ih=>
  unfold Wk;refine⟨fun h=>h,rfl,rfl,fun k hk=>?_⟩;obtain⟨e,he,rfl⟩:=hmo.has k hk;exact ih e he
 |yld id b hN hr=>unfold Wk;exact key id hN
theorem qbg{hp:List (Nat×Blk)}{m:Nat→Option Nat}{nn n0:Nat}{sl:Nat→Bool}(hm:∀i,i<n0→m i=some i)(hn:n0≤nn){r:Nat→Option Nat}{G:Bool→Nat→Prop}{w:World}{ob:Option Nat}{x:Blk}(h:BlkRep r (· < n0) G w ob x):WkB hp m nn sl x x:=by
 cases h with
 |cells t l b cs hb hl h=>exact⟨rfl,Zu fun i sv e=>vf hm hn (h i sv e)⟩
 |none t k row=>exact⟨rfl,rfl,xa5 _,fun i j hi=>by omega⟩
 |rows t k n row b cs hb hl h=>exact⟨rfl,rfl,xa5 _,fun i j hi hj=>vf hm hn (h i j hi hj)⟩
 |map fit dom get b es clock hb hmo ht h=>
  refine⟨rfl,rfl,fun k hk=>?_⟩;obtain⟨e,he,rfl⟩:=hmo.has k hk;exact vf hm hn (h e he)
 |mapS fit dom get stamp b es clock hb hmo ht hst h=>
  refine⟨rfl,rfl,rfl,rfl,fun k hk=>?_⟩;obtain⟨e,he,rfl⟩:=hmo.has k hk;exact vf hm hn (h e he)
 |iter mid since seen last b m' hN hr hb=>exact⟨xa9 hN hn,hm _ hN,rfl,rfl,rfl⟩
 |loop L s b hb=>exact⟨rfl,rfl⟩
theorem GB{P:Program}{O:Ctx}{f:FuncId}{args:List SV}{st:St}{K0 K:St→SV→Prop}(h:kK P O f args st K0)
  (hk:∀st' sv,(∀hp bid n,st.nid≤n→∀id y,blk st.hp id=some y→WkB hp (ren [(st.nid,some bid)]) n (fun _=>false) y y)→K0 st' sv→
   ∃bid hp2 sv2 n,st'.fr=st.fr∧st.nid≤bid∧(∀id x,blk hp2 id=some x→((id<st.nid∧blk st'.hp id=some x)∨(id=st.nid∧blk st'.hp bid=some x∧st.nid+1≤n))∧WkB st'.hp (ren [(st.nid,some bid)]) n (fun _=>false) x x)∧
    Wk st'.hp (ren [(st.nid,some bid)]) n (fun _=>false) sv2 sv∧st.nid≤n∧K ⟨st.fr,hp2,n⟩ sv2):kK P O f args st K:=fun base okc ns r outs a w vs h1 h2 h3=>by
 obtain⟨e1,e2⟩:=h base okc ns r outs a w vs h1 h2 h3;have rn:∀(bid i:Nat),i<st.nid→ren [(st.nid,some bid)] i=some i:=fun bid i hi=>by simp only[ren];rw[if_neg Ω]
 refine⟨e1,e2.mono fun e w' ⟨v,st',r',res,g1,g2,g3,g4,g5⟩=>?_⟩;obtain⟨bid,hp2,sv2,n,k1,k2,k3,k6,k7,k8⟩:=hk _ _ (fun hp bid n hn id y hy=>qbg (rn bid) hn (h1.sat.rep id y hy (h1.keys id y hy))) g2;have rn:=rn bid;have rn0:ren [(st.nid,some bid)] st.nid=some bid:=by simp[ren]
 have W:=WJ (st':=⟨st.fr,hp2,n⟩) (ren [(st.nid,some bid)]) (fun _=>false) (fun i=>by rw[k1];exact vf rn k7 (h1.fr i)) (fun id x hx=>by
  obtain⟨⟨hlt,hx⟩|⟨rfl,hx,hn⟩,hw⟩:=k3 id x hx
  ·rw[rn id hlt]
   refine⟨(by show id<n;omega),rfl,?_⟩;rw[hx];exact hw
  ·rw[rn0]
   refine⟨(by show st.nid<n;omega),rfl,?_⟩;rw[hx];exact hw) (fun id x id' x' y hx hx' hy hy'=>by
  obtain⟨⟨hlt,hx⟩|⟨rfl,hx,hn⟩,hw⟩:=k3 id x hx<;>obtain⟨⟨hlt',hx'⟩|⟨rfl,hx',hn'⟩,hw'⟩:=k3 id' x' hx'
  ·rw[rn id hlt]at hy;rw[rn id' hlt']at hy';cases hy;cases hy';rfl
  ·rw[rn0]at hy';rw[rn id hlt]at hy;cases hy;cases hy';omega
  ·rw[rn0]at hy;rw[rn id' hlt']at hy';cases hy;cases hy';omega
  ·rfl) (xc1 h1.lo k7) (fun id hid=>rn id (xa9 hid h1.lo)) g4
 exact⟨v,_,_,sv2,g1,k8,k7,W.1,W.2 _ _ _ k6 g5⟩
end Go.Sx
end
section
namespace Go.Sx
open Go.Proofs
open Go.RowKit Go.Tn
noncomputable section
variable{ρ:Q}
theorem JL:∀(l:List (List Nat))(i:Nat)(t:Tr 4 Nat)(f:Tr 4 Nat→R),qbf l i t f=.ok ρ→∃t',f t'=.ok ρ
 |[],i,t,f,h=>⟨t,h⟩
 |a :: l,i,t,f,h=>by
  have h:qW (some 0) 22 t i (fun t=>qk (Nat.succ i) fun i=>qbf l i t f)=.ok ρ:=h;obtain⟨t1,_,h⟩:=qz _ _ _ _ h;rw[qi]at h;exact JL l _ _ f h
theorem Ke:∀(l:List (List Nat))(i:Nat)(t:Tr 4 Nat)(f:Tr 4 Nat→Nat→R)(c:Nat),VT l i t f c=.ok ρ→∃t' c',f t' c'=.ok ρ
 |[],i,t,f,c,h=>⟨t,c,h⟩
 |a :: l,i,t,f,c,h=>by
  have h:qk (Nat.succ i) (fun i1=>Option.rec (.bad 452 0) (fun x=>Nat.rec (qk (Q0 t a) fun m=>Nat.rec (VT l i1 t f c) (fun _ _=>qk (Nat.succ c) fun c=>qW (some m) 22 t i fun t=>VT l i1 t f c) m) (fun _ _=>VT l i1 t f c) x) (t.find i))=(.ok ρ:R):=h;rw[qi]at h;generalize t.find i=o at h;cases o with
  |none=>cases h
  |some x=>
   cases x with
   |succ y=>exact Ke l _ _ f _ h
   |zero=>
    have h:qk (Q0 t a) (fun m=>Nat.rec (VT l (Nat.succ i) t f c) (fun _ _=>qk (Nat.succ c) fun c=>qW (some m) 22 t i fun t=>VT l (Nat.succ i) t f c) m)=(.ok ρ:R):=h;rw[qi]at h;generalize Q0 t a=m at h;cases m with
    |zero=>exact Ke l _ _ f _ h
    |succ m=>
     have h:qk (Nat.succ c) (fun c=>qW (some (m+1)) 22 t i fun t=>VT l (Nat.succ i) t f c)=(.ok ρ:R):=h;rw[qi]at h;obtain⟨t1,_,h⟩:=qz _ _ _ _ h;exact Ke l _ _ f _ h
theorem qcQ(l:List (List Nat)):∀(n:Nat)(t:Tr 4 Nat)(f:Tr 4 Nat→R),qmg l n t f=.ok ρ→∃t',f t'=.ok ρ
 |0,t,f,h=>by cases h
 |n+1,t,f,h=>by
  have h:VT l 0 t (fun t c=>Nat.rec (f t) (fun _ _=>qmg l n t f) c) 0=(.ok ρ:R):=h;obtain⟨t',c',h⟩:=Ke _ _ _ _ _ h;cases c' with
  |zero=>exact⟨t',h⟩
  |succ c=>exact qcQ l n _ f h
def G5(x:Nat):Int:=(x:Int) - 1
theorem qjW(x:Nat):qeD x=.val (.int .i64 (G5 x)):=by
 cases x with
 |zero=>rfl
 |succ y=>
  show SV.val (.int .i64 (Int.ofNat y))=_;have e:G5 (y+1)=Int.ofNat y:=by unfold G5;show((y+1:Nat):Int) - 1=(y:Int);omega
  rw[e]
def FF(t:Tr 4 Nat)(i:Nat):Int:=G5 ((t.find i).getD 0)
def VU(t:Tr 4 Nat)(l:List Nat)(m:Nat):Nat:=List.rec (motive:=fun _=>Nat→Nat) (fun m=>m) (fun a _ ih m=>Option.rec 0 (fun x=>Nat.rec 0 (fun y _=>qk (Nat.max m (Nat.succ x)) fun m=>ih m) x) (t.find a)) l m
theorem qmh(t:Tr 4 Nat)(l:List Nat):Q0 t l=VU t l 1:=rfl
theorem JM(t:Tr 4 Nat)(a:Nat)(l:List Nat)(m:Nat):VU t (a :: l) m=if 0≤FF t a then VU t l (max m ((FF t a).toNat+2))else 0:=by
 show(Option.rec 0 (fun x=>Nat.rec 0 (fun y _=>qk (Nat.max m (Nat.succ x)) fun m=>VU t l m) x) (t.find a):Nat)=_;unfold FF G5;generalize t.find a=o;cases o with
 |none=>rw[if_neg Ωu]
 |some x=>
  cases x with
  |zero=>rw[if_neg Ωu];rfl
  |succ y=>
   rw[if_pos (by show(0:Int)≤((y+1:Nat):Int) - 1;omega)];show qk (Nat.max m (y+1+1)) (fun m=>VU t l m)=_;rw[qi];have e:(((some (y+1)).getD 0:Nat) - 1:Int).toNat=y:=by
    show(((y+1:Nat):Int) - 1).toNat=y;omega
   rw[e]
theorem JN(t:Tr 4 Nat):∀(l:List Nat)(m:Nat),(∃a,a∈l∧FF t a<0)→VU t l m=0
 |[],m,⟨a,h,_⟩=>by cases h
 |b :: l,m,⟨a,h,hn⟩=>by
  rw[JM];split
  ·rename_i h0
   rcases List.mem_cons.1 h with rfl|h
   ·omega
   ·exact JN t l _ ⟨a,h,hn⟩
  ·rfl
theorem JO(t:Tr 4 Nat):∀(l:List Nat)(m:Nat),(∀a,a∈l→0≤FF t a)→m≤VU t l m∧(∀a,a∈l→FF t a+2≤VU t l m)∧∀X:Nat,m≤X→(∀a,a∈l→FF t a+2≤X)→VU t l m≤X
 |[],m,_=>⟨xa5 _,fun a h=>(by cases h),fun X h _=>h⟩
 |b :: l,m,h=>by
  have h0:=h b xd5;rw[JM,if_pos h0];have⟨h1,h2,h3⟩:=JO t l (max m ((FF t b).toNat+2)) fun a ha=>h a (List.mem_cons_of_mem _ ha);refine⟨Ω,fun a ha=>?_,fun X hX hA=>h3 X ?_ fun a ha=>hA a (List.mem_cons_of_mem _ ha)⟩
  ·rcases List.mem_cons.1 ha with rfl|ha
   ·omega
   ·exact h2 a ha
  ·have:=hA b xd5;omega
theorem VV{F:Nat→Int}{to:Nat→Nat}{X:Int}(hX:0≤X):∀{m:Nat},(∀j,j<m→F (to j)+1≤X)→mxF F to m≤X
 |0,_=>hX
 |m+1,h=>by
  have h1:=VV hX (m:=m) fun j hj=>h j Ω;have h2:=h m Ω;rw[QP];omega
theorem qcR{F:Nat→Int}{to:Nat→Nat}:∀{m:Nat},0≤mxF F to m
 |0=>Int.le_refl _
 |m+1=>by have:=qcR (F:=F) (to:=to) (m:=m);rw[QP];omega
theorem Ys{t:Tr 4 Nat}{l:List Nat}{i:Nat}(h:(t.find i).getD 0=Q0 t l):(0≤FF t i↔∀j,j<l.length→0≤FF t (l.getD j 0))∧(0≤FF t i→FF t i=mxF (FF t) (fun j=>l.getD j 0) l.length):=by
 have hF:FF t i=(Q0 t l:Int) - 1:=by unfold FF G5;rw[h]
 rw[qmh]at hF;have mem:∀j,j<l.length→l.getD j 0∈l:=fun j hj=>by
  rw[xc6,xc7 hj];exact List.getElem_mem _
 have idx:∀a,a∈l→∃j,j<l.length∧l.getD j 0=a:=fun a ha=>by
  obtain⟨j,hj,e⟩:=List.getElem_of_mem ha;exact⟨j,hj,by rw[xc6,xc7 hj];exact e⟩
 by_cases hA:∀a,a∈l→0≤FF t a
 ·have⟨h1,h2,h3⟩:=JO t l 1 hA
  refine⟨⟨fun _ j hj=>hA _ (mem j hj),fun _=>by omega⟩,fun _=>?_⟩;have le1:mxF (FF t) (fun j=>l.getD j 0) l.length≤FF t i:=VV Ω fun j hj=>by
   have:=h2 _ (mem j hj);omega
  have hm0:=qcR (F:=FF t) (to:=fun j=>l.getD j 0) (m:=l.length);have le2:=h3 (mxF (FF t) (fun j=>l.getD j 0) l.length+1).toNat Ω fun a ha=>by
   obtain⟨j,hj,e⟩:=idx a ha;have:=qgK (F:=FF t) (to:=fun j=>l.getD j 0) hj;simp only[e]at this;omega
  omega
 ·have hn:∃a,a∈l∧FF t a<0:=by
   refine xf9 fun hc=>hA fun a ha=>?_;refine xf9 fun h0=>hc ⟨a,ha,Ω⟩
  have e:=JN t l 1 hn;rw[e]at hF;obtain⟨a,ha,hneg⟩:=hn;obtain⟨j,hj,e2⟩:=idx a ha;refine⟨⟨fun h0=>by omega,fun h0=>?_⟩,fun h0=>by omega⟩;have:=h0 j hj;rw[e2]at this;omega
def ltK(N:Nat)(l:List Nat)(r:R):R:=List.rec r (fun a _ ih=>qj 480 (Nat.ble (Nat.succ a) N) ih) l
theorem VW{N:Nat}{r:R}:∀{l:List Nat},ltK N l r=.ok ρ→r=.ok ρ∧∀a,a∈l→a<N
 |[],h=>⟨h,fun a ha=>by cases ha⟩
 |a :: l,h=>by
  have h:qj 480 (Nat.ble (Nat.succ a) N) (ltK N l r)=.ok ρ:=h;obtain⟨h1,h⟩:=qe h;obtain⟨h2,h3⟩:=VW h;exact⟨h2,fun b hb=>by
   rcases List.mem_cons.1 hb with rfl|hb
   ·exact xa7 h1
   ·exact h3 b hb⟩
def qjX(t:Tr 4 Nat)(N:Nat)(L:List (List Nat))(i:Nat)(r:R):R:=List.rec (motive:=fun _=>Nat→R) (fun _=>r) (fun a _ ih i=>qk (Q0 t a) fun m=>qj 481 (Nat.ble m 1000000) (Option.rec (.bad 482 0) (fun x=>qj 483 (Nat.beq x m) (ltK N a (qk (Nat.succ i) fun i=>ih i))) (t.find i))) L i
theorem qcS{t:Tr 4 Nat}{N:Nat}{r:R}:∀{L:List (List Nat)}{i:Nat},qjX t N L i r=.ok ρ→r=.ok ρ∧∀j,j<L.length→(t.find (i+j)).getD 0=Q0 t (L.getD j [])∧Q0 t (L.getD j [])≤1000000∧∀a,a∈L.getD j []→a<N
 |[],i,h=>⟨h,fun j hj=>by cases hj⟩
 |a :: L,i,h=>by
  have h:qk (Q0 t a) (fun m=>qj 481 (Nat.ble m 1000000) (Option.rec (.bad 482 0) (fun x=>qj 483 (Nat.beq x m) (ltK N a (qk (Nat.succ i) fun i=>qjX t N L i r))) (t.find i)))=(.ok ρ:R):=h;rw[qi]at h;obtain⟨h1,h⟩:=qe h;cases hf:t.find i with
  |none=>rw[hf]at h;cases h
  |some x=>
   rw[hf]at h;have h:qj 483 (Nat.beq x (Q0 t a)) (ltK N a (qk (Nat.succ i) fun i=>qjX t N L i r))=.ok ρ:=h;obtain⟨h2,h⟩:=qe h;obtain⟨h,h3⟩:=VW h;rw[qi]at h;obtain⟨h,h4⟩:=qcS h;refine⟨h,fun j hj=>?_⟩;cases j with
   |zero=>exact⟨by rw[xb1,hf];exact xa6 h2,xa7 h1,h3⟩
   |succ j=>
    have:=h4 j (Nat.lt_of_succ_lt_succ hj);rw[show i+(j+1)=Nat.succ i+j by omega];exact this
theorem Yt{t:Tr 4 Nat}:∀{L:List (List Nat)}{i:Nat}{f:List SV→R},qcO t L i f=.ok ρ→∃m,f m=.ok ρ∧m.length=L.length∧∀j,j<L.length→m.getD j .top=.val (.int .i64 (FF t (i+j)))
 |[],i,f,h=>⟨[],h,rfl,fun j hj=>by cases hj⟩
 |a :: L,i,f,h=>by
  have h:qk (Nat.succ i) (fun i1=>Option.rec (.bad 454 0) (fun x=>qk x fun x=>qcO t L i1 fun m=>f (qeD x :: m)) (t.find i))=(.ok ρ:R):=h;rw[qi]at h;cases hf:t.find i with
  |none=>rw[hf]at h;cases h
  |some x=>
   rw[hf]at h;have h:qk x (fun x=>qcO t L (Nat.succ i) fun m=>f (qeD x :: m))=(.ok ρ:R):=h;rw[qi]at h;obtain⟨m,h1,h2,h3⟩:=Yt h;refine⟨qeD x :: m,h1,by simp[h2],fun j hj=>?_⟩;cases j with
   |zero=>
    show qeD x=_;rw[qjW,xb1];unfold FF;rw[hf];rfl
   |succ j=>
    show m.getD j .top=_;rw[h3 j (Nat.lt_of_succ_lt_succ hj),show i+(j+1)=Nat.succ i+j by omega]
theorem GC{t:Tr 4 Nat}:∀{es:List (Value×Option SV)}{f:List (Value×Option SV)→R},qcP t es f=.ok ρ→f (es.filter fun p=>decide ((t.find (qeE p.1)).getD 0=0))=.ok ρ
 |[],f,h=>h
 |p :: es,f,h=>by
  have h:qk (qeE p.1) (fun i=>Option.rec (.bad 455 0) (fun x=>Nat.rec (qcP t es fun l=>f (p :: l)) (fun _ _=>qcP t es f) x) (t.find i))=(.ok ρ:R):=h;rw[qi]at h;cases hf:t.find (qeE p.1)with
  |none=>rw[hf]at h;cases h
  |some x=>
   rw[hf]at h;cases x with
   |zero=>
    have h:=GC (f:=fun l=>f (p :: l)) h;rw[List.filter_cons_of_pos (by rw[hf];rfl)];exact h
   |succ y=>
    have h:=GC (f:=f) h;rw[List.filter_cons_of_neg (by rw[hf];simp)];exact h
def Yu(l:List SV)(f:List Nat→R):R:=(List.rec (motive:=fun _=>(List Nat→R)→R) (fun f=>f []) (fun a _ ih f=>match a with
 |.val (.int .i64 (.ofNat n))=>ih fun l=>f (n :: l)
 |_=>.bad 484 0) l) f
theorem Q1:∀{l:List SV}{f:List Nat→R},Yu l f=.ok ρ→∃m,f m=.ok ρ∧m.length=l.length∧∀j,j<l.length→l.getD j .top=.val (.int .i64 (m.getD j 0:Nat))
 |[],f,h=>⟨[],h,rfl,fun j hj=>by cases hj⟩
 |a :: l,f,h=>by
  have h:(match (generalizing:=false) a with
   |.val (.int .i64 (.ofNat n))=>Yu l fun l=>f (n :: l)
   |_=>.bad 484 0)=(.ok ρ:R):=h
  split at h
  ·rename_i n _
   obtain⟨m,h1,h2,h3⟩:=Q1 h;refine⟨n :: m,h1,by simp[h2],fun j hj=>?_⟩;cases j with
   |zero=>rfl
   |succ j=>exact h3 j (Nat.lt_of_succ_lt_succ hj)
  ·cases h
def qcT(hp:Tr 6 XB)(rid:Nat)(a:SV)(g:List Nat→R):R:=match a with
 |.val (.slice none 0 0)=>g []
 |.vec xi n 1=>(match hp.find xi with
  |some (.rows 3 1 n' l)=>qj 485 (Nat.beq n n') (qj 486 (Nat.ble n 5) (qj 487 (Bool.not (Nat.beq xi rid)) (Yu l g)))
  |_=>.bad 488 0)
 |_=>.bad 489 0
theorem qhM{hp:Tr 6 XB}{rid:Nat}{a:SV}{g:List Nat→R}(h:qcT hp rid a g=.ok ρ):∃m,g m=.ok ρ∧((a=.val (.slice none 0 0)∧m=[])∨∃xi n l,a=.vec xi n 1∧n≤5∧xi≠rid∧hp.find xi=some (.rows 3 1 n l)∧m.length=l.length∧∀j,j<l.length→l.getD j .top=.val (.int .i64 (m.getD j 0:Nat))):=by
 unfold qcT at h;split at h
 ·exact⟨[],h,.inl ⟨rfl,rfl⟩⟩
 ·rename_i xi n
  split at h
  ·rename_i n' l hf
   obtain⟨h1,h⟩:=qe h;obtain⟨h2,h⟩:=qe h;obtain⟨h3,h⟩:=qe h;obtain⟨m,h4,h5,h6⟩:=Q1 h;have e:=xa6 h1;subst e;refine⟨m,h4,.inr ⟨xi,n,l,rfl,xa7 h2,fun e=>?_,hf,h5,h6⟩⟩;rw[e]at h3;have:Nat.beq rid rid=true:=Nat.beq_refl _;rw[this]at h3;cases h3
  ·cases h
 ·cases h
def GD(hp:Tr 6 XB)(rid:Nat)(xs:List SV)(f:List (List Nat)→R):R:=(List.rec (motive:=fun _=>(List (List Nat)→R)→R) (fun f=>f []) (fun a _ ih f=>qcT hp rid a fun x=>ih fun l=>f (x :: l)) xs) f
theorem yi{hp:Tr 6 XB}{rid:Nat}:∀{xs:List SV}{f:List (List Nat)→R},GD hp rid xs f=.ok ρ→∃L,f L=.ok ρ∧L.length=xs.length∧∀i,i<xs.length→((xs.getD i .top=.val (.slice none 0 0)∧L.getD i []=[])∨∃xi n l,xs.getD i .top=.vec xi n 1∧n≤5∧xi≠rid∧hp.find xi=some (.rows 3 1 n l)∧(L.getD i []).length=l.length∧∀j,j<l.length→l.getD j .top=.val (.int .i64 ((L.getD i []).getD j 0:Nat)))
 |[],f,h=>⟨[],h,rfl,fun j hj=>by cases hj⟩
 |a :: xs,f,h=>by
  have h:qcT hp rid a (fun x=>GD hp rid xs fun l=>f (x :: l))=.ok ρ:=h;obtain⟨m,h,h1⟩:=qhM h;obtain⟨L,h,h2,h3⟩:=yi h;refine⟨m :: L,h,by simp[h2],fun i hi=>?_⟩;cases i with
  |zero=>exact h1
  |succ i=>exact h3 i (Nat.lt_of_succ_lt_succ hi)
def qhN(l:List SV)(r:R):R:=List.rec r (fun a _ ih=>match a with
 |.val (.int .i64 (.negSucc 0))=>ih
 |_=>.bad 490 0) l
theorem Yv{r:R}:∀{l:List SV},qhN l r=.ok ρ→r=.ok ρ∧∀j,j<l.length→l.getD j .top=.val (.int .i64 (-1))
 |[],h=>⟨h,fun j hj=>by cases hj⟩
 |a :: l,h=>by
  have h:(match (generalizing:=false) a with
   |.val (.int .i64 (.negSucc 0))=>qhN l r
   |_=>.bad 490 0)=(.ok ρ:R):=h
  split at h
  ·obtain⟨h1,h2⟩:=Yv h
   refine⟨h1,fun j hj=>?_⟩;cases j with
   |zero=>rfl
   |succ j=>exact h2 j (Nat.lt_of_succ_lt_succ hj)
  ·cases h
def qjY(p:Value×Option SV)(i:Nat)(r:R):R:=match p with
 |(.agg c,some _)=>(match c.toList with
  |[.int .i64 _,.int .i64 _,.int .i64 _,.int .i64 _,.int .i64 _,.int .i64 (.ofNat n)]=>qj 491 (Nat.beq (Nat.succ n) i) r
  |_=>.bad 492 0)
 |_=>.bad 493 0
theorem qjZ{p:Value×Option SV}{i:Nat}{r:R}(h:qjY p i r=.ok ρ):r=.ok ρ∧0<i∧∃f s,p=(kp f (i - 1),some s):=by
 unfold qjY at h;split at h
 ·rename_i c s
  split at h
  ·rename_i a b c' d e n hc
   obtain⟨h1,h9⟩:=qe h;have e1:=xa6 h1;subst e1;refine⟨h9,Nat.succ_pos _,fun j=>if j=0 then a else if j=1 then b else if j=2 then c' else if j=3 then d else e,s,?_⟩;have:c = #[.int .i64 a,.int .i64 b,.int .i64 c',.int .i64 d,.int .i64 e,.int .i64 (.ofNat n)]:=by
    apply Array.toList_inj.1;rw[hc]
   rw[this];rfl
  ·cases h
 ·cases h
def qhO(es:List (Value×Option SV))(i:Nat)(r:R):R:=List.rec (motive:=fun _=>Nat→R) (fun _=>r) (fun p _ ih i=>qjY p i (qk (Nat.pred i) fun i=>ih i)) es i
theorem Yw{r:R}:∀{es:List (Value×Option SV)}{i:Nat},qhO es i r=.ok ρ→r=.ok ρ∧∀j,j<es.length→j<i∧∃f s,es[j]? = some (kp f (i - 1 - j),some s)
 |[],i,h=>⟨h,fun j hj=>by cases hj⟩
 |p :: es,i,h=>by
  have h:qjY p i (qk (Nat.pred i) fun i=>qhO es i r)=.ok ρ:=h;obtain⟨h,h0,f,s,h1⟩:=qjZ h;rw[qi]at h;obtain⟨h,h2⟩:=Yw h;refine⟨h,fun j hj=>?_⟩;cases j with
  |zero=>exact⟨h0,f,s,by rw[h1];rfl⟩
  |succ j=>
   obtain⟨h4,f,s,h3⟩:=h2 j (Nat.lt_of_succ_lt_succ hj);have h4:j<i - 1:=h4;exact⟨Ω,f,s,by rw[xd7,h3,show i - 1 -(j+1)=Nat.pred i - 1 - j by show i - 1 -(j+1)=i - 1 - 1 - j;omega]⟩
structure Uq(es:List (Value×Option SV)):Prop where
 key:∀p,p∈es→∃f n s,p=(kp f n,some s)
 pw:es.Pairwise fun p q=>zK p.1≠zK q.1
theorem wM:∀{es:List (Value×Option SV)}(h:Uq es){v:Value}{s:SV},kY es v=some s↔(v,some s)∈es
 |[],_,v,s=>⟨fun h=>(by cases h),fun h=>(by cases h)⟩
 |p :: es,h,v,s=>by
  obtain⟨f,n,s',rfl⟩:=h.key p xd5;have h2:=List.pairwise_cons.1 h.pw;have ih:=wM (es:=es) ⟨fun q hq=>h.key q (List.mem_cons_of_mem _ hq),h2.2⟩ (v:=v) (s:=s);rw[zY];split
  ·rename_i he
   have e:=eqK_kp.1 he;subst e;constructor
   ·intro e
    have e:some s'=some s:=e;rw[e];exact xd5
   ·intro hm
    rcases List.mem_cons.1 hm with e|hm
    ·exact(congrArg Prod.snd e).symm
    ·exact(h2.1 _ hm rfl).elim
  ·rename_i he
   rw[ih,List.mem_cons];constructor
   ·exact .inr
   ·rintro(e|e)
    ·exact absurd (eqK_kp.2 (congrArg Prod.fst e)) he
    ·exact e
theorem Uq.isSome{es:List (Value×Option SV)}(h:Uq es){v:Value}:(kY es v).isSome=true↔∃s,(v,some s)∈es:=by
 constructor
 ·intro hs
  obtain⟨s,e⟩:=Option.isSome_iff_exists.1 hs;exact⟨s,(wM h).1 e⟩
 ·rintro⟨s,e⟩
  rw[(wM h).2 e];rfl
theorem Uq.of{es:List (Value×Option SV)}(h:∀j,j<es.length→∃f s,es[j]? = some (kp f (es.length - 1 - j),some s)):Uq es:=by
 refine⟨fun p hp=>?_,?_⟩
 ·obtain⟨j,hj,e⟩:=List.getElem_of_mem hp
  obtain⟨f,s,e2⟩:=h j hj;rw[xc7 hj,e]at e2;exact⟨f,_,s,Option.some.inj e2⟩
 ·rw[List.pairwise_iff_getElem]
  intro i j hi hj hij;obtain⟨f,s,e⟩:=h i hi;obtain⟨g,u,e2⟩:=h j hj;rw[xc7 hi]at e;rw[xc7 hj]at e2;rw[Option.some.inj e,Option.some.inj e2,vJ,vJ];omega
def qhP(args:List SV)(hp:Tr 6 XB)(nid:Nat)(k:SV→Tr 6 XB→Nat→R):R:=
 match args with
 |[.ptr tb 0]=>(match hp.find tb with
  |some (.cells 253 [_,_,.vec xid n 1,.vec rid n' 1,.mp mid])=>(match hp.find xid,hp.find rid,hp.find mid with
   |some (.rows 22 1 n1 xs),some (.rows 3 1 n2 rs),some (.map true [.i .i64,.i .i64,.i .i64,.i .i64,.i .i64,.i .i64] es)=>
    qj 494 (Nat.beq n' n) (qj 495 (Nat.beq n1 n) (qj 496 (Nat.beq n2 n) (qj 497 (Nat.ble n 100000) (qj 498 (Nat.beq es.length n) (qhN rs (GD hp rid xs fun L=>qbf L 0 .nil fun t=>qmg L (L.length+2) t fun t=>qjX t n L 0 (qhO es n (qcO t L 0 fun rs=>qcP t es fun es=>
     qW (some (.rows 3 1 n rs)) 22 hp rid fun hp=>qW (some (.map true [.i .i64,.i .i64,.i .i64,.i .i64,.i .i64,.i .i64] es)) 22 hp mid fun hp=>k (.tup []) hp nid))))))))
   |_,_,_=>.bad 456 0)
  |_=>.bad 457 0)
 |_=>.bad 458 0
theorem qhQ:yA Tryz.prog 163 qhP:=by
 intro ρ LM O args hp k st K hH h hk;unfold qhP at h;split at h
 ·rename_i tb
  split at h
  ·rename_i A Z xid N rid n' mid hft
   split at h
   ·rename_i n1 xs n2 rs es hfx hfr hfm
    obtain⟨a1,h⟩:=qe h;obtain⟨a2,h⟩:=qe h;obtain⟨a3,h⟩:=qe h;obtain⟨a4,h⟩:=qe h;obtain⟨a5,h⟩:=qe h;have e1:=xa6 a1;have e2:=xa6 a2;have e3:=xa6 a3;have hN:=xa7 a4;have hL:=xa6 a5;subst e1 e2 e3;obtain⟨h,b1⟩:=Yv h;obtain⟨L,h,b2,b3⟩:=yi h;obtain⟨t0,h⟩:=JL _ _ _ _ h;obtain⟨t,h⟩:=qcQ _ _ _ _ h;obtain⟨h,b4⟩:=qcS h;obtain⟨h,b5⟩:=Yw h;obtain⟨rs',h,b6,b7⟩:=Yt h;have h:=GC h;obtain⟨hp1,p1,h⟩:=qz _ _ _ _ h;obtain⟨hp2,p2,h⟩:=qz _ _ _ _ h;obtain⟨rowx,hbx,lx,gx⟩:=hH.rows hfx;obtain⟨rowr,hbr,lr,gr⟩:=hH.rows hfr;obtain⟨dom,get,hbm,hd⟩:=hH.map hfm;have hbt:=hH.cells hft;have uq:Uq es:=Uq.of fun j hj=>by rw[hL];exact(b5 j hj).2
    have hdm:∀v,dom v=true↔∃s,(v,some s)∈es:=fun v=>by rw[(hd v).1];exact uq.isSome
    have hidx:∀v,dom v=true→zK v<n2∧∃f,v=kp f (zK v)∧∃s,es[n2 - 1 - zK v]? = some (v,some s):=fun v hv=>by
     obtain⟨s,hm⟩:=(hdm v).1 hv;obtain⟨j,hj,e⟩:=List.getElem_of_mem hm;obtain⟨_,f,s2,e2⟩:=b5 j hj;rw[xc7 hj,e]at e2;have e3:=congrArg Prod.fst (Option.some.inj e2);have e3:v=kp f (n2 - 1 - j):=e3;subst e3;rw[vJ];exact⟨Ω,f,rfl,s,by rw[show n2 - 1 -(n2 - 1 - j)=j by omega,xc7 hj,e]⟩
    intro base okc ns r outs a w vs hI hlen hv;have keys:=hI.keys;have b3':∀i,i<n2→((L.getD i []).length=0∧rowx i 0=.val (.slice none 0 0))∨∃xi r,rowx i 0=.vec xi (L.getD i []).length 1∧(L.getD i []).length≤5∧blk st.hp xi=some (.rows 3 1 (L.getD i []).length r)∧(xi≠tb∧xi≠xid∧xi≠rid∧xi≠mid∧xi<st.nid)∧∀j,j<(L.getD i []).length→r j 0=.val (.int .i64 ((L.getD i []).getD j 0:Nat)):=fun i hi=>by
     have gxi:=gx i 0 hi Ω;rw[Nat.mul_one,xb1]at gxi;rcases b3 i Ω with⟨c1,c2⟩|⟨xi,n,l,c1,c2,c3,c4,c5,c6⟩
     ·exact .inl ⟨by rw[c2];rfl,by rw[gxi,c1]⟩
     ·obtain⟨r,d1,d2,d3⟩:=hH.rows c4
      have el:(L.getD i []).length=n:=by omega
      refine .inr ⟨xi,r,by rw[gxi,c1,el],Ω,by rw[d1,el],⟨fun e=>?_,fun e=>?_,c3,fun e=>?_,keys _ _ d1⟩,fun j hj=>?_⟩
      ·rw[e,hbt]at d1;cases d1
      ·rw[e,hbx]at d1;cases d1
      ·rw[e,hbm]at d1;cases d1
      ·rw[d3 j 0 Ω Ω,Nat.mul_one,xb1]
       exact c6 j Ω
    have b4':∀i,i<n2→(t.find i).getD 0=Q0 t (L.getD i [])∧Q0 t (L.getD i [])≤1000000∧∀a,a∈L.getD i []→a<n2:=fun i hi=>by
     have:=b4 i Ω
     rwa [xb0]at this
    have hl:Hl n2 (fun i=>(L.getD i []).length) (fun i j=>(L.getD i []).getD j 0) (FF t) dom rowx st.hp st.nid tb xid rid mid:=by
     refine⟨⟨fun i hi=>?_,fun i hi=>?_,fun i j hi hj=>?_,fun i hi=>(Ys (b4' i hi).1).1,fun i hi=>(Ys (b4' i hi).1).2⟩,hN,fun i hi=>?_,fun v hv=>?_,fun v v' h1 h2 h3=>?_,fun i hi=>?_,fun i hi=>?_,keys _ _ hbt,keys _ _ hbx,keys _ _ hbr,keys _ _ hbm,?_,?_,?_,?_,?_,?_,fun k x hx=>keys k x hx⟩
     ·unfold FF G5;omega
     ·have⟨c1,c2,_⟩:=b4' i hi
      unfold FF G5;rw[c1];omega
     ·refine(b4' i hi).2.2 _ ?_
      have hj:j<(L.getD i []).length:=hj;show(L.getD i []).getD j 0∈L.getD i [];rw[xc6 (l:=L.getD i []),xc7 hj];exact List.getElem_mem _
     ·rcases b3' i hi with⟨c1,_⟩|⟨_,_,_,c1,_⟩
      ·show(L.getD i []).length≤5
       omega
      ·exact c1
     ·obtain⟨c1,f,c2,_⟩:=hidx v hv
      exact⟨f,zK v,c1,c2⟩
     ·obtain⟨_,_,_,s,c1⟩:=hidx v h1
      obtain⟨_,_,_,s',c2⟩:=hidx v' h2;rw[h3,c2]at c1;exact(congrArg Prod.fst (Option.some.inj c1)).symm
     ·obtain⟨_,f,s,c1⟩:=b5 (n2 - 1 - i) Ω
      rw[show n2 - 1 -(n2 - 1 - i)=i by omega]at c1;exact⟨kp f i,(hdm _).2 ⟨s,List.mem_of_getElem? c1⟩,vJ f i⟩
     ·rcases b3' i hi with c|⟨xi,r,c1,c2,c3,c4,c5⟩
      ·exact .inl c
      ·exact .inr ⟨xi,r,c1,c3,c4,c5⟩
     ·rintro rfl;rw[hbt]at hbx;cases hbx
     ·rintro rfl;rw[hbt]at hbr;cases hbr
     ·rintro rfl;rw[hbt]at hbm;cases hbm
     ·rintro rfl;rw[hbx]at hbr;cases hbr
     ·rintro rfl;rw[hbx]at hbm;cases hbm
     ·rintro rfl;rw[hbr]at hbm;cases hbm
    have E:=qow n2 _ _ (FF t) dom get A Z rowx rowr st.hp st.nid tb xid rid mid hl (fun i hi=>by
     rw[gr i 0 hi Ω,Nat.mul_one,xb1];exact b1 i Ω)
    have E2:=EffVC.sub (hp:=st.hp) (fun id x hx=>by
     simp only[blk]at hx;split at hx
     ·rename_i e;subst e;cases hx;exact hbr
     ·split at hx
      ·rename_i e;subst e;cases hx;exact hbm
      ·split at hx
       ·rename_i e;subst e;cases hx;exact hbt
       ·split at hx
        ·rename_i e;subst e;cases hx;exact hbx
        ·exact hx) E
    refine GB (E2 O st.fr) (fun st' sv hself hq=>?_) base okc ns r outs a w vs hI hlen hv;obtain⟨fr',hp',nid'⟩:=st';obtain⟨q0,q1,q2,row,q3,q4⟩:=hq;simp only[]at q0 q1 q2 q4;subst q0 q2 q4;have hrow:∀i j,i<n2→j<1→Wk ((rid,.rows 3 1 n2 row) ::(mid,.map kfP (fun v=>dom v&&decide (FF t (zK v)<0)) get) ::(tb,.cells 253 [A,Z,.vec xid n2 1,.vec rid n2 1,.mp mid]) ::(xid,.rows 22 1 n2 rowx) :: st.hp) (ren [(st.nid,some st.nid)]) st.nid (fun _=>false) (row i j) (row i j):=fun i j hi hj=>by
     obtain rfl:j=0:=by omega
     rw[q3 i hi];simp[Wk]
    refine⟨st.nid,_,.tup [],st.nid,rfl,xa5 _,fun id x hx=>⟨.inl ⟨?_,hx⟩,?_⟩,by simp[Wk,WkL],xa5 _,hk _ hp2 _ _ (fun id b hb=>?_) h⟩
    ·simp only[blk]at hx
     split at hx
     ·rename_i e;rw[e];exact keys _ _ hbr
     ·split at hx
      ·rename_i e;rw[e];exact keys _ _ hbm
      ·split at hx
       ·rename_i e;rw[e];exact keys _ _ hbt
       ·split at hx
        ·rename_i e;rw[e];exact keys _ _ hbx
        ·exact keys _ _ hx
    ·simp only[blk]at hx
     split at hx
     ·cases hx
      exact⟨rfl,rfl,xa5 _,hrow⟩
     ·split at hx
      ·cases hx
       have hm0:=hself ((rid,.rows 3 1 n2 row) ::(mid,.map kfP (fun v=>dom v&&decide (FF t (zK v)<0)) get) ::(tb,.cells 253 [A,Z,.vec xid n2 1,.vec rid n2 1,.mp mid]) ::(xid,.rows 22 1 n2 rowx) :: st.hp) st.nid st.nid (xa5 _) _ _ hbm;exact⟨rfl,rfl,fun k hk=>hm0.2.2 k (xe6 _ _▸hk).1⟩
      ·split at hx
       ·rename_i e;cases hx;exact hself _ _ _ (xa5 _) _ _ hbt
       ·split at hx
        ·rename_i e;cases hx;exact hself _ _ _ (xa5 _) _ _ hbx
        ·exact hself _ _ _ (xa5 _) _ _ hx
    rw[p2 id]at hb;simp only[blk];by_cases e1:id=rid
    ·subst e1
     rw[if_neg hl.d6,p1,if_pos rfl]at hb;rw[if_pos rfl];cases hb;refine⟨_,rfl,rfl,rfl,rfl,Ω,fun i j hi hj=>?_⟩;obtain rfl:j=0:=by omega
     have:=b7 i Ω;rw[xb0]at this;rw[q3 i hi,Nat.mul_one,xb1,this]
    ·rw[if_neg e1]
     by_cases e2:id=mid
     ·subst e2
      rw[if_pos rfl]at hb;rw[if_pos rfl];cases hb;have uq2:Uq (es.filter fun p=>decide ((t.find (qeE p.1)).getD 0=0)):=⟨fun p hp=>uq.key p (List.mem_filter.1 hp).1,uq.pw.filter _⟩;have hmm:∀v s,(v,some s)∈(es.filter fun p=>decide ((t.find (qeE p.1)).getD 0=0))↔(v,some s)∈es∧FF t (zK v)<0:=fun v s=>by
       rw[List.mem_filter];constructor
       ·rintro⟨c1,c2⟩
        obtain⟨f,n,s2,c3⟩:=uq.key _ c1;have c3:v=kp f n:=congrArg Prod.fst c3;subst c3;have c2:=of_decide_eq_true c2;refine⟨c1,?_⟩;rw[vJ];have c2:(t.find n).getD 0=0:=c2;unfold FF G5;rw[c2];decide
       ·rintro⟨c1,c2⟩
        obtain⟨f,n,s2,c3⟩:=uq.key _ c1;have c3:v=kp f n:=congrArg Prod.fst c3;subst c3;refine⟨c1,decide_eq_true ?_⟩;rw[vJ]at c2;unfold FF G5 at c2;show(t.find n).getD 0=0;omega
      refine⟨_,rfl,rfl,fun v=>⟨?_,fun s hs=>(hd v).2 s ((wM uq).2 ((hmm v s).1 ((wM uq2).1 hs)).1)⟩⟩;rw[Bool.eq_iff_iff,uq2.isSome,xe6,decide_eq_true_eq,hdm];constructor
      ·rintro⟨⟨s,c1⟩,c2⟩;exact⟨s,(hmm v s).2 ⟨c1,c2⟩⟩
      ·rintro⟨s,c1⟩;exact⟨⟨s,((hmm v s).1 c1).1⟩,((hmm v s).1 c1).2⟩
     ·rw[if_neg e2,p1,if_neg e1]at hb
      rw[if_neg e2];obtain⟨b',c1,c2⟩:=hH id b hb;refine⟨b',?_,c2⟩;by_cases e3:id=tb
      ·subst e3;rw[if_pos rfl,←c1,hbt]
      ·rw[if_neg e3]
       by_cases e4:id=xid
       ·subst e4;rw[if_pos rfl,←c1,hbx]
       ·rw[if_neg e4];exact c1
   ·cases h
  ·cases h
 ·cases h
end
end Go.Sx
end
section
namespace Go.Sx
open Go.Proofs
open Go.RowKit Go.Tn
noncomputable section
variable{ρ:Q}
def qka(l:List Nat)(f:List Nat→R):R:=(List.rec (motive:=fun _=>(List Nat→R)→R) (fun f=>f []) (fun a _ ih f=>qk a fun a=>ih fun l=>f (a :: l)) l) f
theorem VX:∀(l:List Nat)(f:List Nat→R),qka l f=f l
 |[],f=>rfl
 |a :: l,f=>by
  show qk a (fun a=>qka l fun l=>f (a :: l))=_;rw[qi,VX]
def qkb(N:Nat)(L:List (List Nat))(r:R):R:=List.rec r (fun a _ ih=>qj 500 (Nat.ble a.length 5) (ltK N a ih)) L
theorem VY{N:Nat}{r:R}:∀{L:List (List Nat)},qkb N L r=.ok ρ→r=.ok ρ∧∀l,l∈L→l.length≤5∧∀a,a∈l→a<N
 |[],h=>⟨h,fun l hl=>by cases hl⟩
 |a :: L,h=>by
  have h:qj 500 (Nat.ble a.length 5) (ltK N a (qkb N L r))=.ok ρ:=h;obtain⟨h1,h⟩:=qe h;obtain⟨h,h2⟩:=VW h;obtain⟨h,h3⟩:=VY h;refine⟨h,fun l hl=>?_⟩;rcases List.mem_cons.1 hl with rfl|hl
  ·exact⟨xa7 h1,h2⟩
  ·exact h3 l hl
def svN(l:List Nat):List SV:=l.map fun(n:Nat)=>.val (.int .i64 (.ofNat n))
def qhR(args:List SV)(hp:Tr 6 XB)(nid:Nat)(k:SV→Tr 6 XB→Nat→R):R:=
 match args with
 |[.ptr tb 0]=>(match hp.find tb with
  |some (.cells 253 [_,.vec sid n' 5,.vec xid n 1,_,_])=>(match hp.find xid with
   |some (.rows 22 1 n1 xs)=>qj 501 (Nat.beq n' n) (qj 502 (Nat.beq n1 n) (qj 503 (Nat.ble n 1000) (GD hp tb xs fun L=>qkb n L
    (match Gm (fun i=>L.getD i []) n (n+1) (n+1) n 0 []with
     |none=>.bad 504 0
     |some l=>qka l fun l=>qk (Nat.succ nid) fun n2=>qk nid fun nid=>qk l.length fun m=>
      (match m with
       |0=>k (.val (.slice none 0 0)) hp nid
       |_=>qW (some (.rows 3 1 m (svN l))) 22 hp nid fun hp=>k (.vec nid m 1) hp n2)))))
   |_=>.bad 505 0)
  |_=>.bad 506 0)
 |_=>.bad 507 0
theorem qkc{l:List Nat}{i:Nat}(h:i<l.length):(svN l).getD i .top=.val (.int .i64 (l.getD i 0:Nat)):=by
 unfold svN;rw[xc6,xc6,List.getElem?_map,xc7 h];rfl
theorem qhS:yA Tryz.prog 73 qhR:=by
 intro ρ LM O args hp k st K hH h hk;unfold qhR at h;split at h
 ·rename_i tb
  split at h
  ·rename_i A sid n' xid n Rr M hft
   split at h
   ·rename_i n1 xs hfx
    obtain⟨a1,h⟩:=qe h;obtain⟨a2,h⟩:=qe h;obtain⟨a3,h⟩:=qe h;obtain⟨L,h,b2,b3⟩:=yi h;obtain⟨h,b4⟩:=VY h;have e1:=xa6 a1;have e2:=xa6 a2;have hN:=xa7 a3;subst e1 e2;split at h
    ·cases h
    ·rename_i l hF
     rw[VX,qi,qi,qi]at h;obtain⟨rowx,hbx,lx,gx⟩:=hH.rows hfx;have hbt:=hH.cells hft;intro base okc ns r outs a w vs hI hlen hv;have keys:=hI.keys;have hmem:∀i,i<n1→L.getD i []∈L:=fun i hi=>by
      rw[xc6,xc7 Ω];exact List.getElem_mem _
     have hC:Go.Tn.Cl n1 (fun i=>L.getD i []) rowx st.hp st.nid tb xid A Rr M sid:=by
      refine⟨Ω,fun i hi=>(b4 _ (hmem i hi)).1,fun i hi=>(b4 _ (hmem i hi)).2,hbt,hbx,fun i hi=>?_,fun k x hx=>keys k x hx⟩;have gxi:=gx i 0 hi Ω;rw[Nat.mul_one,xb1]at gxi;rcases b3 i Ω with⟨c1,c2⟩|⟨xi,n,l,c1,c2,c3,c4,c5,c6⟩
      ·exact .inl ⟨c2,by rw[gxi,c1]⟩
      ·obtain⟨r,d1,d2,d3⟩:=hH.rows c4
       have el:(L.getD i []).length=n:=by omega
       refine .inr ⟨xi,r,by rw[gxi,c1,el],by rw[d1,el],fun j hj=>?_⟩;have hj:j<(L.getD i []).length:=hj;rw[d3 j 0 Ω Ω,Nat.mul_one,xb1];exact c6 j Ω
     have E:=e73 n1 _ rowx st.hp st.nid tb xid A Rr M sid (n1+1) (n1+1) l hC Ω Ω hF (600*(n1+1)+2000) Ω;cases l with
     |nil=>
      refine GB (E O st.fr) (fun st' sv hself hq=>?_) base okc ns r outs a w vs hI hlen hv;obtain⟨fr',hp',nid'⟩:=st';obtain⟨q0,q1,bid,rr,q2,q3,q4,q5⟩:=hq;simp only[]at q0 q1 q2 q4;subst q0 q4 q5;exact⟨st.nid,_,_,st.nid,rfl,xa5 _,fun id x hx=>⟨.inl ⟨keys id x hx,hx⟩,hself _ _ _ (xa5 _) _ _ hx⟩,by simp[Go.Tn.bSV,Wk],xa5 _,hk _ hp _ _ hH h⟩
     |cons x l=>
      have h:qW (some (.rows 3 1 (l.length+1) (svN (x :: l)))) 22 hp st.nid (fun hp=>k (.vec st.nid (l.length+1) 1) hp (st.nid+1))=.ok ρ:=h;obtain⟨hp1,p1,h⟩:=qz _ _ _ _ h;refine GB (E O st.fr) (fun st' sv hself hq=>?_) base okc ns r outs a w vs hI hlen hv;obtain⟨fr',hp',nid'⟩:=st';obtain⟨q0,q1,bid,rr,q2,q3,q4,q5⟩:=hq;simp only[]at q0 q1 q2 q4;subst q0 q4 q5;have⟨z1,z2⟩:=q2 Ωg;refine⟨bid,(st.nid,.rows 3 1 (l.length+1) rr) :: st.hp,.vec st.nid (l.length+1) 1,st.nid+1,rfl,z1,fun id y hy=>?_,?_,xc4 _,hk _ hp1 _ _ (fun id b hb=>?_) h⟩
      ·simp only[blk]at hy
       split at hy
       ·rename_i e
        cases hy;refine⟨.inr ⟨e,by simp[Go.Tn.bH,blk],xa5 _⟩,rfl,rfl,xa5 _,fun i j hi hj=>?_⟩;obtain rfl:j=0:=by omega
        rw[q3 i hi];simp[Wk]
       ·have hlt:=keys id y hy
        refine⟨.inl ⟨hlt,?_⟩,hself _ _ _ (xc4 _) _ _ hy⟩;simp only[Go.Tn.bH,blk];rw[if_neg Ω];exact hy
      ·unfold Go.Tn.bSV Wk
       refine⟨Ω,?_,rfl,rfl⟩;simp[ren]
      ·rw[p1 id]at hb
       simp only[blk];by_cases e:id=st.nid
       ·rw[if_pos e]at hb ⊢
        cases hb;refine⟨_,rfl,rfl,rfl,rfl,by simp[svN],fun i j hi hj=>?_⟩;obtain rfl:j=0:=by omega
        rw[Nat.mul_one,xb1,qkc hi];exact q3 i hi
       ·rw[if_neg e]at hb ⊢
        exact hH id b hb
   ·cases h
  ·cases h
 ·cases h
end
end Go.Sx
end
