/- A part of the proof. -/
import Derived.Test.YtacejomniokahaaGreatProg
import Derived.Test.YtacejomniokahaaGreatPK
import Derived.Test.YtacejomniokahaaGreatPF
import Derived.Test.YtacejomniokahaaGreatPE
import Derived.Test.YtacejomniokahaaGreatPC
open Nat renaming reduceAdd→xa1,reduceEqDiff→xa2,le_refl→xa5,le_of_ble_eq_true→xa7,zero_add→xb0,add_zero→xb1,add_assoc→xb2,lt_irrefl→xb4,lt_succ_self→xb5,zero_le→xb6,add_sub_cancel_left→xb7,sub_self→xb8,le_of_lt→xb9,le_trans→xc1,le_succ→xc4
open List renaming getD_eq_getElem?_getD→xc6,getElem?_eq_getElem→xc7,length_append→xc8,getElem?_append_left→xc9,getElem?_append_right→xd0,length_singleton→xd1,mem_cons_self→xd5,getElem?_cons_zero→xd6,length_take→xd9,length_map→xe1,getElem?_range→xe3,length_cons→xe4,length_set→xe5
open Bool renaming and_eq_true→xe6,false_eq_true→xe7,true_and→xf0,and_true→xf1,or_false→xf3
open Classical renaming byContradiction→xf9
open Option renaming map_some→xg1
set_option linter.unusedVariables false
set_option linter.unusedSimpArgs false
set_option linter.defProp false
set_option maxRecDepth 1000000
set_option maxHeartbeats 16000000
section
namespace Go.Sx
open Go.RowKit
theorem qkr{O:Ctx}{fr:List (Nat×SV)}{hp:List (Nat×Blk)}{nid b i k:Nat}{t te:TypeId}{l:List SV}(row:Nat→Nat→SV)(hb:blk hp b=some (.cells t l))(hi:l[i]? = some (.val (.slice none 0 0))):Weak O ⟨fr,hp,nid⟩ ⟨fr,(b,.cells t (l.set i (.vec nid 0 k))) ::(nid,.rows te k 0 row) :: hp,nid+1⟩:=λbase okc ns outs a w ⟨r,h'⟩=>by
 have hbn:b<nid:=h'.keys b _ hb;obtain⟨r',hst,hrep⟩:=wR h'.sat nid (xb4 _) none (hp':=(nid,.rows te k 0 row) :: hp) (e:=te) (k:=k) (row:=row) ΩT (λj hj _=>by simp only[blk];rw[if_neg (Nat.ne_of_lt hj)]) (λo ho=>by cases ho);rw[gz]at hst hrep;have hb1:blk ((nid,.rows te k 0 row) :: hp) b=some (.cells t l):=by simp only[blk];rw[if_neg (Nat.ne_of_lt hbn)];exact hb
 have dom:∀id x,blk ((b,.cells t (l.set i (.vec nid 0 k))) ::(nid,.rows te k 0 row) :: hp) id=some x→∃y,blk ((nid,.rows te k 0 row) :: hp) id=some y:=λid x hx=>by
  by_cases e:id=b
  ·rw[e];exact⟨_,hb1⟩
  ·rw[show blk ((b,.cells t (l.set i (.vec nid 0 k))) ::(nid,.rows te k 0 row) :: hp) id=blk ((nid,.rows te k 0 row) :: hp) id by simp only[blk];rw[if_neg e]]at hx
   exact⟨x,hx⟩
 have gd:∀o c,Gd base okc r' (· < nid+1) ((nid,.rows te k 0 row) :: hp) w o c→Gd base okc r' (· < nid+1) ((b,.cells t (l.set i (.vec nid 0 k))) ::(nid,.rows te k 0 row) :: hp) w o c∧w.heap[c]? = w.heap[c]?:=λo c hc=>⟨⟨hc.1,λid x hx hid hr=>by obtain⟨y,hy⟩:=dom id x hx;exact hc.2.1 id y hy hid hr,hc.2.2⟩,rfl⟩;have sat:Sat base okc r' (· < nid+1) ((b,.cells t (l.set i (.vec nid 0 k))) ::(nid,.rows te k 0 row) :: hp) w:=by
  refine⟨hst.sat.below,λid x hx hid=>?_,λid x c hx hid hc=>?_,λid x id' x' c hx hid hx' hid' hc hc'=>?_⟩
  ·by_cases e:id=b
   ·have hr:=hst.sat.rep b _ hb1 (Ω:b<nid+1)
    rw[e]at hx ⊢;simp only[blk,if_true,Option.some.injEq]at hx;rw[←hx];generalize r' b=ob at hr ⊢;cases hr with
    |cells _ _ c cs hc hl h=>
     refine .cells t _ c cs hc (by rw[xe5];exact hl) λj sv hj=>?_;rw[List.getElem?_set]at hj;split at hj
     ·rename_i eij
      split at hj
      ·injection hj with hj
       rw[←hj,←eij];have h0:=h i _ hi;generalize cs.getD i undef=v at h0 ⊢;cases h0;exact hrep.mono (λ_ _=>rfl) (λ_ h=>h) gd (Shapes.refl w)
      ·cases hj
     ·exact(h j sv hj).mono (λ_ _=>rfl) (λ_ h=>h) gd (Shapes.refl w)
   ·rw[show blk ((b,.cells t (l.set i (.vec nid 0 k))) ::(nid,.rows te k 0 row) :: hp) id=blk ((nid,.rows te k 0 row) :: hp) id by simp only[blk];rw[if_neg e]]at hx
    exact(hst.sat.rep id x hx hid).mono (λ_ _=>rfl) (λ_ h=>h) gd (Shapes.refl w) (λ_ _=>rfl)
  ·obtain⟨y,hy⟩:=dom id x hx;exact hst.sat.own id y c hy hid hc
  ·obtain⟨y,hy⟩:=dom id x hx
   obtain⟨y',hy'⟩:=dom id' x' hx';exact hst.sat.inj id y id' y' c hy hid hy' hid' hc hc'
 have hst2:Step base okc r (· < nid) hp w r' (· < nid+1) ((b,.cells t (l.set i (.vec nid 0 k))) ::(nid,.rows te k 0 row) :: hp) w:=hst.trans ⟨sat,λ_ _=>rfl,λ_ h=>h,gd,Shapes.refl w⟩;exact⟨r',(h'.step hst2 (λj x hx=>by
  obtain⟨y,hy⟩:=dom j x hx;simp only[blk]at hy;split at hy
  ·rename_i e;rw[e];exact xb5 _
  ·exact Nat.lt_succ_of_lt (h'.keys j y hy)) (xc4 _) (d:=none) (λt ht=>by cases ht) (.val undef)).nid (nid+1)⟩
section
variable{P:Program}
end
end Go.Sx
end
section
namespace Go.Tn
def cM(by':Nat→Nat):Nat→Nat
 |0=>0
 |n+1=>cM by' n+(if 0<by' n then 1 else 0)
theorem qaQ{a b:Nat→Nat}:∀n,(∀x,x<n→a x=b x)→cM a n=cM b n
 |0,_=>rfl
 |n+1,h=>by simp only[cM];rw[qaQ n λx hx=>h x Ω,h n Ω]
theorem qcI{by':Nat→Nat}{x v:Nat}(h0:by' x=0)(hv:0<v):∀n,x<n→cM (setN by' x v) n=cM by' n+1
 |0,h=>by omega
 |n+1,h=>by
  simp only[cM];by_cases e:x=n
  ·subst e
   rw[qaQ (b:=by') x λy hy=>by unfold setN;rw[if_neg Ω]];have:setN by' x v x=v:=by unfold setN;rw[if_pos rfl]
   rw[this,h0,if_pos hv,if_neg Ω]
  ·rw[qcI h0 hv n Ω]
   have:setN by' x v n=by' n:=by unfold setN;rw[if_neg Ω]
   rw[this];omega
structure Mk(L:Nat→List Nat)(N start:Nat)(by' d:Nat→Nat):Prop where
 one:∀x,x≠start→0<by' x→x<N∧(L ((by' x - 1) / 5))[(by' x - 1) % 5]? = some x∧((by' x - 1) / 5=start∨(0<by' ((by' x - 1) / 5)∧d ((by' x - 1) / 5)<d x))
 up:∀x,x≠start→0<by' x→1≤d x∧d x≤cM by' N
theorem dm5(i w:Nat)(h:w<5):(1+i*5+w - 1) / 5=i∧(1+i*5+w - 1) % 5=w:=by omega
theorem Mk.push{L:Nat→List Nat}{N start i w to:Nat}{by' d:Nat→Nat}(h:Mk L N start by' d)(hw:w<5)(hget:(L i)[w]? = some to)(hto:to<N)(hne:to≠start)(h0:by' to=0)(hr:i=start∨0<by' i):Mk L N start (setN by' to (1+i*5+w)) (setN d to (cM by' N+1)):=by
 obtain⟨m1,m2⟩:=dm5 i w hw;have hc:=qcI (v:=1+i*5+w) h0 Ω N hto;have hs:∀x,x≠to→setN by' to (1+i*5+w) x=by' x:=λx hx=>by unfold setN;rw[if_neg hx]
 have hd:∀x,x≠to→setN d to (cM by' N+1) x=d x:=λx hx=>by unfold setN;rw[if_neg hx]
 have hst:setN by' to (1+i*5+w) to=1+i*5+w:=by unfold setN;rw[if_pos rfl]
 have hdt:setN d to (cM by' N+1) to=cM by' N+1:=by unfold setN;rw[if_pos rfl]
 refine⟨λx hx hp=>?_,λx hx hp=>?_⟩
 ·by_cases e:x=to
  ·subst e
   rw[hst,m1,m2,hdt];refine⟨hto,hget,?_⟩;by_cases ei:i=start
   ·exact .inl ei
   ·right
    have hi:=hr.resolve_left ei;have:i≠x:=λq=>by rw[q,h0]at hi;cases hi
    rw[hs i this,hd i this];have:=h.up i ei hi;exact⟨hi,Ω⟩
  ·rw[hs x e]at hp ⊢
   obtain⟨g1,g2,g3⟩:=h.one x hx hp;refine⟨g1,g2,?_⟩;rcases g3 with g3|⟨g3,g4⟩
   ·exact .inl g3
   ·right
    have:(by' x - 1) / 5≠to:=λq=>by rw[q,h0]at g3;cases g3
    rw[hs _ this,hd _ this,hd x e];exact⟨g3,g4⟩
 ·rw[hc]
  by_cases e:x=to
  ·subst e;rw[hdt];exact⟨Ω,xa5 _⟩
  ·rw[hs x e]at hp
   rw[hd x e];have:=h.up x hx hp;omega
theorem vl{L:Nat→List Nat}{N start i:Nat}(hL:∀x,x∈L i→x<N)(h5:(L i).length≤5):∀(l:List Nat)(w:Nat)(by' d:Nat→Nat)(wait:List Nat),L i=(L i).take w++l→w+l.length=(L i).length→
  Mk L N start by' d→(i=start∨0<by' i)→by' start=0→
  ((ko start i l w by' wait).1=true∧∃b d' w',(ko start i l w by' wait).2.1=setN b start (1+i*5+w')∧w'<5∧(L i)[w']? = some start∧Mk L N start b d'∧(i=start∨0<b i)∧b start=0)∨
  ((ko start i l w by' wait).1=false∧(ko start i l w by' wait).2.1 start=0∧(∃d',Mk L N start (ko start i l w by' wait).2.1 d')∧(∀x,x∈l→x≠start∧0<(ko start i l w by' wait).2.1 x)∧(∀x,0<by' x→0<(ko start i l w by' wait).2.1 x)∧
    ∃new,(ko start i l w by' wait).2.2=wait++new∧(∀x,x∈new→x<N∧0<(ko start i l w by' wait).2.1 x)∧(∀x,0<(ko start i l w by' wait).2.1 x→0<by' x∨x∈new)∧cM (ko start i l w by' wait).2.1 N=cM by' N+new.length)
 |[],w,by',d,wait,_,_,hM,_,h0=>.inr ⟨rfl,h0,⟨d,hM⟩,λx hx=>(by cases hx),λx hx=>hx,[],by simp[ko],λx hx=>(by cases hx),λx hx=>.inl hx,rfl⟩
 |to :: l,w,by',d,wait,hl,hw,hM,hr,h0=>by
  have hlen:((L i).take w).length=w:=by rw[xd9];simp only[xe4]at hw;omega
  have hget:(L i)[w]? = some to:=by
   rw[hl,xd0 (by rw[hlen];exact xa5 _),hlen,xb8];rfl
  have hto:to<N:=hL to (List.mem_of_getElem? hget);have hw5:w<5:=by simp only[xe4]at hw;omega
  have hl':L i=(L i).take (w+1)++l:=by
   rw[List.take_add_one,hget,List.append_assoc];exact hl
  have hw':w+1+l.length=(L i).length:=by simp only[xe4]at hw;omega
  simp only[ko];by_cases hb:0<by' to
  ·rw[if_pos hb]
   rcases vl hL h5 l (w+1) by' d wait hl' hw' hM hr h0 with q|⟨q1,q2,q3,q4,q5,q6⟩
   ·exact .inl q
   ·refine .inr ⟨q1,q2,q3,λx hx=>?_,q5,q6⟩
    rcases List.mem_cons.1 hx with rfl|hx
    ·exact⟨λe2=>(by rw[e2,h0]at hb;cases hb),q5 _ hb⟩
    ·exact q4 x hx
  ·rw[if_neg hb]
   by_cases e:to=start
   ·rw[if_pos e]
    exact .inl ⟨rfl,by',d,w,by rw[e],hw5,by rw[hget,e],hM,hr,h0⟩
   ·rw[if_neg e]
    have hz:by' to=0:=by omega
    have hM2:=hM.push hw5 hget hto e hz hr;have hs:∀x,x≠to→setN by' to (1+i*5+w) x=by' x:=λx hx=>by unfold setN;rw[if_neg hx]
    have hst:setN by' to (1+i*5+w) to=1+i*5+w:=by unfold setN;rw[if_pos rfl]
    have hup:∀x,0<by' x→0<setN by' to (1+i*5+w) x:=λx hx=>by
     by_cases c:x=to
     ·rw[c,hst];omega
     ·rw[hs x c];exact hx
    rcases vl hL h5 l (w+1) (setN by' to (1+i*5+w)) _ (wait++[to]) hl' hw' hM2 (hr.imp id (hup i)) (by rw[hs start (Ne.symm e)];exact h0)with q|⟨q1,q2,q3,q4,q5,new,q6,q7,q8,q9⟩
    ·exact .inl q
    ·refine .inr ⟨q1,q2,q3,λx hx=>?_,λx hx=>q5 x (hup x hx),to :: new,by rw[q6,List.append_assoc];rfl,λx hx=>?_,λx hx=>?_,?_⟩
     ·rcases List.mem_cons.1 hx with rfl|hx
      ·exact⟨e,q5 _ (by rw[hst];omega)⟩
      ·exact q4 x hx
     ·rcases List.mem_cons.1 hx with rfl|hx
      ·exact⟨hto,q5 _ (by rw[hst];omega)⟩
      ·exact q7 x hx
     ·rcases q8 x hx with h|h
      ·by_cases c:x=to
       ·exact .inr (by rw[c];exact xd5)
       ·rw[hs x c]at h;exact .inl h
      ·exact .inr (List.mem_cons_of_mem _ h)
     ·rw[q9,qcI hz Ω N hto,xe4];omega
end Go.Tn
end
section
namespace Go.Tn
open Go.Proofs
open Go.Sx
end Go.Tn
end
section
namespace Go.Tn
open Go.Proofs
open Go.Sx
def snB(c:Nat→Nat)(k:Nat)(w:Nat):Nat→Bool
 |0=>false
 |i+1=>decide (c (i % k)=w) || snB c k w i
theorem qnO(c:Nat→Nat)(k w i:Nat):snB c k w (i+1)=(decide (c (i % k)=w) || snB c k w i):=rfl
structure Wk4(m:Nat)(u:Nat→Int)(k:Nat)(c:Nat→Nat)(S:Nat→Nat→Int):Prop where
 k1:1≤k
 k2:k≤1000
 win:∀i,i<k→c i<m
 fit:∀t w,w<m→0≤S t w∧S t w+1≤u w
 step:∀t w,w<m→S (t+1) w=if c (t % k)=w then 0 else S t w+1
 back:∀w,w<m→S k w=S 0 w
theorem Wk4.seen{m:Nat}{u:Nat→Int}{k:Nat}{c:Nat→Nat}{S:Nat→Nat→Int}(h:Wk4 m u k c S){w:Nat}(hw:w<m):snB c k w (2*k)=true:=by
 cases hs:snB c k w (2*k)with
 |true=>rfl
 |false=>
  exfalso
  have key:∀i,i≤2*k→snB c k w i=false:=by
   have down:∀d i,i+d=2*k→snB c k w i=false:=λd=>by
    induction d with
    |zero=>intro i hi;rw[show i=2*k by omega];exact hs
    |succ d ih=>
     intro i hi;have h1:=ih (i+1) Ω;rw[qnO,Bool.or_eq_false_iff]at h1;exact h1.2
   exact λi hi=>down (2*k - i) i Ω
  have up:∀i,i≤k→S i w=S 0 w+i:=λi=>by
   induction i with
   |zero=>intro _;omega
   |succ i ih=>
    intro hi;have h1:=key (i+1) Ω;rw[qnO,Bool.or_eq_false_iff]at h1;rw[h.step i w hw,if_neg (of_decide_eq_false h1.1),ih Ω];omega
  have h1:=up k (xa5 _);have h2:=h.back w hw;have h3:=h.k1;omega
end Go.Tn
end
section
namespace Go.Tn
open Go.Sx
open Go.He (lst)
end Go.Tn
end
section
namespace Go.Tn
open Go.Proofs
open Go.Sx
end Go.Tn
end
section
namespace Go.Tn
def hF(len:Nat→Nat)(to:Nat→Nat→Nat):Nat→Nat→Int
 |0,_=>-1
 |k+1,i=>if ∀j,j<len i→0≤hF len to k (to i j)then mxF (hF len to k) (to i) (len i)else -1
theorem qez(F:Nat→Int)(to:Nat→Nat):∀m,0≤mxF F to m
 |0=>Int.le_refl _
 |m+1=>by have:=qez F to m;rw[Zq];omega
theorem WQ{F:Nat→Int}{to:Nat→Nat}{X:Int}(hX:0≤X):∀m,(∀j,j<m→F (to j)<X)→mxF F to m≤X
 |0,_=>hX
 |m+1,h=>by
  have h1:=WQ hX m λj hj=>h j Ω;have h2:=h m Ω;rw[Zq];omega
end Go.Tn
end
section
namespace Go.Tn
open Go.Proofs
open Go.Sx
end Go.Tn
end
section
namespace Go.Tn
open Go.Proofs
open Go.RowKit
open Go.Sx
end Go.Tn
end
section
namespace Go.Tn
open Go.Proofs
open Go.Sx
theorem SubHp.ent{hp l:List (Nat×Blk)}{k:Nat}{x:Blk}(h:blk hp k=some x)(hl:SubHp hp l):SubHp hp ((k,x) :: l):=λq v hv=>by
 simp only[blk]at hv;split at hv
 ·rename_i e;cases hv;rw[e];exact h
 ·exact hl q v hv
end Go.Tn
end
section
namespace Go.Tn
open Go.Proofs
open Go.Sx
theorem qeN{hp:List (Nat×Blk)}{nb:Nat}{f g q:Nat→Int}:∀i j,i<nb→j<3→Go.Sx.Sub hp ([SV.val (.int .i64 (f i)),SV.val (.int .i64 (g i)),SV.val (.int .i64 (q i))].getD j .top) ([SV.val (.int .i64 (f i)),SV.val (.int .i64 (g i)),SV.val (.int .i64 (q i))].getD j .top):=by
 intro i j hi hj;rcases(Ω:j=0∨j=1∨j=2)with rfl|rfl|rfl<;>simp[Go.Sx.Sub]
theorem qaR{hp:List (Nat×Blk)}{id n:Nat}{f:Nat→Int}{r:Nat→Nat→SV}(hb:blk hp id=some (.rows 3 1 n r))(h:∀i,i<n→r i 0=.val (.int .i64 (f i))):Go.Sx.Sub hp (.arr true false n 1 (λi _=>.val (.int .i64 (f i)))) (.vec id n 1):=by
 simp only[Go.Sx.Sub,hb];refine⟨trivial,trivial,trivial,xa5 _,trivial,λi j hi hj=>?_⟩;obtain rfl:j=0:=by omega
 rw[h i hi]
end Go.Tn
end
section
namespace Go.Tn
open Go.Proofs
open Go.Sx
variable{n r:Nat}
theorem qqx(q:Nat→Int)(D:Int)(nb:Nat):zl q (D*10) nb=sQ q nb*D:=by
 unfold zl;have e:100*sQ q nb*(D*10)=1000*(sQ q nb*D):=by grind
 rw[e,Int.mul_tdiv_cancel_left _ Ω]
theorem qsh(f q:Nat→Int)(D:Int)(nb r:Nat):pnF f q 0 (D*10) 1 nb 1 r=Int.tdiv (sQ q nb*(100 - D)) (cF f q nb (r:Nat)):=by
 unfold pnF;rw[qqx];have e:(0:Int)+100*sQ q nb - sQ q nb*D=sQ q nb*(100 - D):=by grind
 rw[e,show((1:Nat):Int)=1 from rfl,Int.tdiv_one,Int.mul_one,Int.mul_one]
def oth(n r:Nat):List Nat:=(List.range (n - 1)).map λj=>if j<r then j else j+1
theorem ZA(n r:Nat):(oth n r).length=n - 1:=by simp[oth]
theorem qmO(n r j:Nat)(hj:j<n - 1):(oth n r).getD j 0=if j<r then j else j+1:=by
 rw[xc6,xc7 (by rw[ZA];exact hj)];simp[oth]
theorem qks(n r:Nat):(oth n r).Pairwise (· < ·):=by
 unfold oth;rw[List.pairwise_map];exact List.Pairwise.imp (λ{a b} h=>by split<;>split<;>omega) List.pairwise_lt_range
theorem qeO(hr:r<n)(x:Nat):x∈oth n r↔x<n∧x≠r:=by
 unfold oth;simp only[List.mem_map,List.mem_range];constructor
 ·rintro⟨j,hj,rfl⟩;split<;>omega
 ·rintro⟨h1,h2⟩
  by_cases e:x<r
  ·exact⟨x,Ω,by rw[if_pos e]⟩
  ·exact⟨x - 1,Ω,by rw[if_neg Ω];omega⟩
def jP(n r:Nat):List (List Nat):=[[r],oth n r]
theorem qnP(n r:Nat)(hn1:2≤n):∀g,g∈jP n r→g≠[]∧g.Pairwise (· < ·):=by
 intro g hg;rcases List.mem_cons.1 hg with rfl|hg
 ·exact⟨Ωg,Ωg⟩
 ·obtain rfl:=List.mem_singleton.1 hg
  exact⟨λe=>by have:=ZA n r;rw[e]at this;simp at this;omega,qks n r⟩
theorem qnQ(n r:Nat)(hn:n≤8):∀g,g∈jP n r→g.length≤8:=by
 intro g hg;rcases List.mem_cons.1 hg with rfl|hg
 ·simp
 ·obtain rfl:=List.mem_singleton.1 hg
  rw[ZA];omega
theorem qnR(n r:Nat):(jP n r).flatten=r :: oth n r:=by simp[jP]
theorem qkt(n r:Nat)(hr:r<n):(jP n r).flatten.Nodup:=by
 rw[qnR,List.nodup_cons];exact⟨λh=>((qeO hr r).1 h).2 rfl,(qks n r).imp (λ{a b} h=>by omega)⟩
theorem qeP(n r:Nat)(hr:r<n)(x:Nat):x∈(jP n r).flatten↔x<n:=by
 rw[qnR,List.mem_cons,qeO hr];omega
theorem qmP{hp:List (Nat×Blk)}:Go.Sx.Sub hp (.arr false false (jP n r).length 1 (λi _=>.arr false false ((jP n r).getD i []).length 1 (λj _=>.val (.int .i64 (((jP n r).getD i []).getD j 0:Nat))))) (.arr true false 2 1 (λi _=>if i=0 then .arr true false 1 1 (λ_ _=>.val (.int .i64 r))else .arr true false (n - 1) 1 (λj _=>.val (.int .i64 (if j<r then j else j+1:Nat))))):=by
 simp only[Go.Sx.Sub];refine⟨λh=>Ω0,λh=>h,rfl,trivial,λi j hi hj=>?_⟩;have hi:i<2:=hi;rcases(Ω:i=0∨i=1)with rfl|rfl
 ·rw[if_pos rfl]
  simp only[Go.Sx.Sub];refine⟨λh=>Ω0,λh=>h,rfl,trivial,λi j hi hj=>?_⟩;obtain rfl:i=0:=by have:i<1:=hi;omega
  rfl
 ·rw[if_neg Ω]
  simp only[Go.Sx.Sub];refine⟨λh=>Ω0,λh=>h,ZA n r,trivial,λi j hi hj=>?_⟩;have h1:=qmO n r i (by rw[←ZA n r];exact hi);show SV.val _=SV.val (.int .i64 (((oth n r).getD i 0:Nat)));rw[h1]
theorem qqy{nb:Nat}{f q:Nat→Int}(h0:cF f q nb (r:Nat)=0):[]=dvl f q nb (λi=>((jP n r).getD 0 []).getD i 0) ((jP n r).getD 0 []).length:=by
 show []=dvl f q nb _ (0+1);rw[QM (by exact h0)];rfl
theorem qqz{nb:Nat}{f q:Nat→Int}(h0:¬cF f q nb (r:Nat)=0):[r]=dvl f q nb (λi=>((jP n r).getD 0 []).getD i 0) ((jP n r).getD 0 []).length:=by
 show [r]=dvl f q nb _ (0+1);rw[yV (by exact h0)];rfl
end Go.Tn
end
section
namespace Go.Tn
variable{C:Nat→Nat→Int}{a n:Nat}
def NW:Int:=1099511627776
def rlx(C:Nat→Nat→Int)(S:Nat→Int)(p q:Nat):Nat→Int:=λx=>if x=q∧C p q≠NW∧S p≠NW∧S p+C p q<S q then S p+C p q else S x
def jQ(C:Nat→Nat→Int)(S:Nat→Int)(p:Nat):Nat→Nat→Int
 |0=>S
 |q+1=>rlx C (jQ C S p q) p q
def rnd(C:Nat→Nat→Int)(n:Nat)(S:Nat→Int):Nat→Nat→Int
 |0=>S
 |p+1=>jQ C (rnd C n S p) p n
def itR(C:Nat→Nat→Int)(n:Nat)(S:Nat→Int):Nat→Nat→Int
 |0=>S
 |k+1=>rnd C n (itR C n S k) n
def S0(a:Nat):Nat→Int:=λx=>if x=a then 0 else NW
def Fea(C:Nat→Nat→Int)(n:Nat)(D:Nat→Int):Prop:=∀p q,p<n→q<n→C p q≠NW→D q≤D p+C p q
def Lst(C:Nat→Nat→Int)(n a:Nat)(D:Nat→Int):Prop:=D a=0∧Fea C n D∧∀F,Fea C n F→∀q,q<n→F q - F a≤D q
def Cb(C:Nat→Nat→Int):Prop:=∀p q,C p q≠NW→-10000000≤C p q∧C p q≤10000000
def Adj(C:Nat→Nat→Int)(n:Nat):Prop:=∀i,i+1<n→C i (i+1)≠NW∧C (i+1) i≠NW
theorem ZB:∀{n:Nat}{l:List Nat},l.Nodup→(∀x∈l,x<n)→l.length≤n
 |0,l,h,hl=>by
  cases l with
  |nil=>simp
  |cons x l=>exact absurd (hl x Ωg) Ω
 |n+1,l,h,hl=>by
  have h1:=ZB (n:=n) (l:=l.erase n) (h.erase n) (λx hx=>by
   have hm:=(List.Nodup.mem_erase_iff h).1 hx;have:=hl x hm.2;have h2:=hm.1;omega)
  rw[List.length_erase]at h1;split at h1<;>omega
theorem qku{α:Type}(f:α→Int):∀{l:List α},l≠[]→∃a,a∈l∧∀b,b∈l→f a≤f b
 |[],h=>absurd rfl h
 |[x],_=>⟨x,Ωg,λb hb=>by simp at hb;subst hb;exact Int.le_refl _⟩
 |x :: y :: l,_=>by
  obtain⟨a,ha,h⟩:=qku f (l:=y :: l) Ωg;by_cases c:f x≤f a
  ·exact⟨x,Ωg,λb hb=>by
    rcases List.mem_cons.1 hb with rfl|hb
    ·exact Int.le_refl _
    ·have:=h b hb;omega⟩
  ·exact⟨a,List.mem_cons_of_mem _ ha,λb hb=>by
    rcases List.mem_cons.1 hb with rfl|hb
    ·omega
    ·exact h b hb⟩
theorem cross(hA:Adj C n){U:List Nat}{y:Nat}(ha:a∈U)(han:a<n)(hy:y∉U)(hyn:y<n):∃p q,p∈U∧q∉U∧q<n∧C p q≠NW:=by
 by_cases c:a<y
 ·obtain⟨d,rfl⟩:∃d,y=a+d:=⟨y - a,Ω⟩
  clear c
  induction d with
  |zero=>exact absurd ha hy
  |succ d ih=>
   by_cases c:a+d∈U
   ·exact⟨a+d,a+(d+1),c,hy,hyn,(hA (a+d) hyn).1⟩
   ·exact ih c Ω
 ·obtain⟨d,rfl⟩:∃d,a=y+d:=⟨a - y,Ω⟩
  clear c
  induction d generalizing y with
  |zero=>exact absurd ha hy
  |succ d ih=>
   by_cases c:y+1∈U
   ·exact⟨y+1,y,c,hy,hyn,(hA y Ω).2⟩
   ·exact ih c Ω (by rw[Nat.add_right_comm];exact ha) Ω
structure Tre(C:Nat→Nat→Int)(n a:Nat)(F:Nat→Int)(i:Nat)(U:List Nat)(D:Nat→Int)(R:Nat→Nat):Prop where
 len:U.length=i+1
 nd:U.Nodup
 lt:∀x,x∈U→x<n
 ma:a∈U
 da:D a=0
 rk:∀x,x∈U→R x≤i
 fe:∀p q,p∈U→q∈U→C p q≠NW→D q≤D p+C p q
 ti:∀q,q∈U→q≠a→∃p,p∈U∧C p q≠NW∧D q=D p+C p q∧R p<R q
 ou:∃M,(∀x,x∈U→D x - F x≤M)∧∀p q,p∈U→q<n→q∉U→C p q≠NW→M≤D p+C p q - F q
theorem qqA{C:Nat→Nat→Int}{n a:Nat}{F:Nat→Int}(hA:Adj C n)(hF:Fea C n F)(ha:a<n):∀i,i<n→∃U D R,Tre C n a F i U D R
 |0,_=>⟨[a],λ_=>0,λ_=>0,Ωg,Ωg,(by simpa using ha),Ωg,rfl,Ωg,λp q hp hq hc=>by
   simp at hp hq;subst hp;subst hq;have:=hF _ _ ha ha hc;show(0:Int)≤0+_;omega,λq hq hn=>by simp at hq;exact absurd hq hn,- F a,Ωg,λp q hp hq _ hc=>by
   simp at hp;subst hp;have:=hF _ _ ha hq hc;show _≤(0:Int)+_ - _;omega⟩
 |i+1,hi=>by
  obtain⟨U,D,R,h⟩:=qqA hA hF ha i Ω;obtain⟨y,hyn,hy⟩:∃y,y<n∧y∉U:=by
   refine xf9 λhc=>?_;have h1:∀y,y<n→y∈U:=λy hy=>xf9 λh2=>hc ⟨y,hy,h2⟩;have h2:=ZB (n:=U.length) (l:=List.range n) List.nodup_range;have h3:n≤U.length:=by
    have:∀(m:Nat)(V:List Nat),V.Nodup→(∀y,y<m→y∈V)→m≤V.length:=λm=>by
     induction m with
     |zero=>intro V _ _;omega
     |succ m ih=>
      intro V hV hm;have h4:=ih (V.erase m) (hV.erase m) (λy hy=>(List.Nodup.mem_erase_iff hV).2 ⟨Ω,hm y Ω⟩);have h5:=hm m Ω;rw[List.length_erase,if_pos (by simpa using h5)]at h4;have:=List.length_pos_of_mem h5;omega
    exact this n U h.nd h1
   have:=h.len;omega
  obtain⟨p0,q0,hp0,hq0,hqn0,hc0⟩:=cross hA h.ma (h.lt a h.ma) hy hyn;obtain⟨⟨p,x⟩,hm,hmin⟩:=qku (λe:Nat×Nat=>D e.1+C e.1 e.2 - F e.2) (l:=(U.flatMap λp=>((List.range n).filter λq=>decide (q∉U∧C p q≠NW)).map λq=>(p,q))) (by
   intro e;have:(p0,q0)∈(U.flatMap λp=>((List.range n).filter λq=>decide (q∉U∧C p q≠NW)).map λq=>(p,q)):=by
    simp only[List.mem_flatMap,List.mem_map,List.mem_filter,List.mem_range,decide_eq_true_eq];exact⟨p0,hp0,q0,⟨hqn0,hq0,hc0⟩,rfl⟩
   rw[e]at this;simp at this)
  have hmem:∀p' x',(p',x')∈(U.flatMap λp=>((List.range n).filter λq=>decide (q∉U∧C p q≠NW)).map λq=>(p,q))↔p'∈U∧x'<n∧x'∉U∧C p' x'≠NW:=λp' x'=>by
   simp only[List.mem_flatMap,List.mem_map,List.mem_filter,List.mem_range,decide_eq_true_eq,Prod.mk.injEq];constructor
   ·rintro⟨a,b,c,⟨d,e,f⟩,rfl,rfl⟩;exact⟨b,d,e,f⟩
   ·rintro⟨b,d,e,f⟩;exact⟨p',b,x',⟨d,e,f⟩,rfl,rfl⟩
  obtain⟨hp,hxn,hx,hc⟩:=(hmem p x).1 hm;have hmi:∀p' x',p'∈U→x'<n→x'∉U→C p' x'≠NW→D p+C p x - F x≤D p'+C p' x' - F x':=λp' x' h1 h2 h3 h4=>hmin (p',x') ((hmem p' x').2 ⟨h1,h2,h3,h4⟩);obtain⟨M,hM1,hM2⟩:=h.ou;have hne:∀z,z∈U→z≠x:=λz hz e=>hx (e▸hz);have hDz:∀z,z∈U→(if z=x then D p+C p x else D z)=D z:=λz hz=>if_neg (hne z hz);have hMx:=hM2 p x hp hxn hx hc;refine⟨x :: U,λz=>if z=x then D p+C p x else D z,λz=>if z=x then i+1 else R z,by simp[h.len],List.nodup_cons.2 ⟨hx,h.nd⟩,?_,List.mem_cons_of_mem _ h.ma,by rw[hDz a h.ma];exact h.da,?_,?_,?_,D p+C p x - F x,?_,?_⟩
  ·intro z hz
   rcases List.mem_cons.1 hz with rfl|hz
   ·exact hxn
   ·exact h.lt z hz
  ·intro z hz
   rcases List.mem_cons.1 hz with rfl|hz
   ·rw[if_pos rfl];exact xa5 _
   ·rw[if_neg (hne z hz)];have:=h.rk z hz;omega
  ·intro u v gu gv huv
   rcases List.mem_cons.1 gu with e1|hu<;>rcases List.mem_cons.1 gv with e2|hv
   ·subst e1;subst e2
    have:=hF _ _ hxn hxn huv;omega
   ·subst e1
    rw[if_pos rfl,hDz v hv];have h1:=hM1 v hv;have h2:=hF _ _ hxn (h.lt v hv) huv;omega
   ·subst e2
    rw[if_pos rfl,hDz u hu];have:=hmi u v hu hxn hx huv;omega
   ·rw[hDz u hu,hDz v hv];exact h.fe u v hu hv huv
  ·intro q hq hqa
   rcases List.mem_cons.1 hq with e|hq
   ·subst e
    refine⟨p,List.mem_cons_of_mem _ hp,hc,by rw[if_pos rfl,hDz p hp],?_⟩;rw[if_pos rfl,if_neg (hne p hp)];have:=h.rk p hp;omega
   ·obtain⟨u,h1,h2,h3,h4⟩:=h.ti q hq hqa
    exact⟨u,List.mem_cons_of_mem _ h1,h2,by rw[hDz u h1,hDz q hq];exact h3,by rw[if_neg (hne u h1),if_neg (hne q hq)];exact h4⟩
  ·intro z hz
   rcases List.mem_cons.1 hz with rfl|hz
   ·rw[if_pos rfl];exact Int.le_refl _
   ·rw[hDz z hz];have:=hM1 z hz;omega
  ·intro u v hu hvn hv huv
   have hv2:v∉U:=λe=>hv (List.mem_cons_of_mem _ e);rcases List.mem_cons.1 hu with e|hu
   ·subst e
    rw[if_pos rfl];have:=hF _ _ hxn hvn huv;omega
   ·rw[hDz u hu];exact hmi u v hu hvn hv2 huv
structure Spt(C:Nat→Nat→Int)(n a:Nat)(D:Nat→Int)(R:Nat→Nat):Prop where
 da:D a=0
 rk:∀x,x<n→R x+1≤n
 fe:Fea C n D
 ti:∀q,q<n→q≠a→∃p,p<n∧C p q≠NW∧D q=D p+C p q∧R p<R q
theorem spt{F:Nat→Int}(hA:Adj C n)(hF:Fea C n F)(ha:a<n):∃D R,Spt C n a D R:=by
 obtain⟨U,D,R,h⟩:=qqA hA hF ha (n - 1) Ω;have hall:∀y,y<n→y∈U:=λy hy=>xf9 λc=>by
  have h1:=ZB (n:=n) (l:=y :: U) (List.nodup_cons.2 ⟨c,h.nd⟩) (λz hz=>by
   rcases List.mem_cons.1 hz with rfl|hz
   ·exact hy
   ·exact h.lt z hz)
  have:=h.len;simp at h1;omega
 exact⟨D,R,h.da,λx hx=>by have:=h.rk x (hall x hx);omega,λp q hp hq=>h.fe p q (hall p hp) (hall q hq),λq hq hqa=>by
  obtain⟨p,h1,h2⟩:=h.ti q (hall q hq) hqa;exact⟨p,h.lt p h1,h2⟩⟩
theorem Spt.lst{D:Nat→Int}{R:Nat→Nat}(h:Spt C n a D R):Lst C n a D:=by
 refine⟨h.da,h.fe,λF hF q=>?_⟩;have:∀k q,R q≤k→q<n→F q - F a≤D q:=λk=>by
  induction k with
  |zero=>
   intro q hk hq;by_cases e:q=a
   ·subst e;have:=h.da;omega
   ·obtain⟨p,h1,h2,h3,h4⟩:=h.ti q hq e
    omega
  |succ k ih=>
   intro q hk hq;by_cases e:q=a
   ·subst e;have:=h.da;omega
   ·obtain⟨p,h1,h2,h3,h4⟩:=h.ti q hq e
    have h5:=ih p Ω h1;have h6:=hF p q h1 hq h2;omega
 exact this (R q) q (xa5 _)
theorem qoZ(C:Nat→Nat→Int)(S:Nat→Int)(p q x:Nat):rlx C S p q x≤S x:=by
 unfold rlx;split
 ·rename_i h;obtain⟨rfl,_,_,h⟩:=h;omega
 ·exact Int.le_refl _
theorem yX(C:Nat→Nat→Int)(S:Nat→Int)(p x:Nat):∀{i j},i≤j→jQ C S p j x≤jQ C S p i x
 |i,0,h=>by rw[Nat.le_zero.1 h];exact Int.le_refl _
 |i,j+1,h=>by
  by_cases e:i=j+1
  ·subst e;exact Int.le_refl _
  ·exact Int.le_trans (qoZ C _ p j x) (yX C S p x (i:=i) (j:=j) Ω)
theorem QO(C:Nat→Nat→Int)(n:Nat)(S:Nat→Int)(x:Nat):∀{i j},i≤j→rnd C n S j x≤rnd C n S i x
 |i,0,h=>by rw[Nat.le_zero.1 h];exact Int.le_refl _
 |i,j+1,h=>by
  by_cases e:i=j+1
  ·subst e;exact Int.le_refl _
  ·exact Int.le_trans (yX C (rnd C n S j) j x (xb6 n)) (QO C n S x (i:=i) (j:=j) Ω)
theorem qeQ{Q:(Nat→Int)→Prop}(hq:∀S p q,p<n→q<n→Q S→Q (rlx C S p q)){S:Nat→Int}(h:Q S){p q:Nat}(hp:p<n)(hqn:q≤n):Q (jQ C (rnd C n S p) p q):=by
 induction p generalizing q with
 |zero=>
  induction q with
  |zero=>exact h
  |succ q ih=>exact hq _ _ _ hp Ω (ih Ω)
 |succ p ihp=>
  induction q with
  |zero=>exact ihp Ω (xa5 _)
  |succ q ih=>exact hq _ _ _ hp Ω (ih Ω)
theorem qaS{Q:(Nat→Int)→Prop}(hq:∀S p q,p<n→q<n→Q S→Q (rlx C S p q)){S:Nat→Int}(h:Q S){p:Nat}(hp:p≤n):Q (rnd C n S p):=by
 cases p with
 |zero=>exact h
 |succ p=>exact qeQ hq h (q:=n) hp (xa5 _)
theorem qcJ{C:Nat→Nat→Int}{n:Nat}{Q:(Nat→Int)→Prop}(hq:∀S p q,p<n→q<n→Q S→Q (rlx C S p q)){S:Nat→Int}(h:Q S):∀k,Q (itR C n S k)
 |0=>h
 |k+1=>qaS hq (qcJ hq h k) (xa5 _)
def Abv(D:Nat→Int)(n:Nat)(S:Nat→Int):Prop:=∀x,x<n→D x≤S x
theorem WX{D:Nat→Int}(hD:Fea C n D)(S:Nat→Int)(p q:Nat)(hp:p<n)(hq:q<n)(h:Abv D n S):Abv D n (rlx C S p q):=λx hx=>by
 unfold rlx;split
 ·rename_i c;obtain⟨rfl,h1,_,_⟩:=c
  have h2:=hD p x hp hx h1;have h3:=h p hp;omega
 ·exact h x hx
theorem qpa{D:Nat→Int}(hD:Fea C n D)(hb:∀x,x<n→D x<NW){S:Nat→Int}(h:Abv D n S){p q:Nat}(hp:p<n)(hq:q<n)(hc:C p q≠NW)(he:D q=D p+C p q)(hs:S p=D p):rnd C n S n q=D q:=by
 have hab:∀{i j},i<n→j≤n→Abv D n (jQ C (rnd C n S i) i j):=λhi hj=>qeQ (WX hD) h hi hj;have h1:jQ C (rnd C n S p) p q p=D p:=by
  have h2:=hab hp (xb9 hq) p hp;have h3:=yX C (rnd C n S p) p p (xb6 q);have h4:=QO C n S p (xb6 p);simp only[jQ,rnd]at h3 h4;omega
 have h5:jQ C (rnd C n S p) p (q+1) q≤D q:=by
  simp only[jQ];unfold rlx;rw[h1];by_cases c:D p+C p q<jQ C (rnd C n S p) p q q
  ·rw[if_pos ⟨rfl,hc,(by have:=hb p hp;omega),c⟩];omega
  ·rw[if_neg (λe=>c e.2.2.2)];omega
 have h6:=yX C (rnd C n S p) p q (Ω:q+1≤n);have h7:=QO C n S q (Ω:p+1≤n);simp only[rnd]at h7;have h8:=qaS (WX hD) h (xa5 n) q hq;omega
theorem qmQ{D:Nat→Int}{R:Nat→Nat}(h:Spt C n a D R)(hb:∀x,x<n→D x<NW)(ha:a<n):∀k q,q<n→R q≤k→itR C n (S0 a) k q=D q:=by
 have h0:Abv D n (S0 a):=λx hx=>by
  unfold S0;split
  ·rename_i e;subst e;have:=h.da;omega
  ·exact Int.le_of_lt (hb x hx)
 have hab:=qcJ (WX h.fe) h0;have hst:∀k q,q<n→itR C n (S0 a) k q=D q→itR C n (S0 a) (k+1) q=D q:=λk q hq e=>by
  have h1:=hab (k+1) q hq;have h2:=QO C n (itR C n (S0 a) k) q (xb6 n);simp only[rnd]at h2;show rnd C n (itR C n (S0 a) k) n q=D q;have h3:D q≤rnd C n (itR C n (S0 a) k) n q:=h1;omega
 have hA:∀k,itR C n (S0 a) k a=D a:=λk=>by
  induction k with
  |zero=>simp[itR,S0,h.da]
  |succ k ih=>exact hst k a ha ih
 intro k
 induction k with
 |zero=>
  intro q hq hr;by_cases e:q=a
  ·subst e;exact hA 0
  ·obtain⟨p,h1,h2,h3,h4⟩:=h.ti q hq e;omega
 |succ k ih=>
  intro q hq hr;by_cases e:q=a
  ·subst e;exact hA _
  ·obtain⟨p,h1,h2,h3,h4⟩:=h.ti q hq e
   exact qpa h.fe hb (hab k) h1 hq h2 h3 (ih p h1 Ω)
theorem qkv{F:Nat→Int}(hA:Adj C n)(hF:Fea C n F)(ha:a<n)(hC:Cb C)(hn:n≤11):∃D,Lst C n a D∧(∀k,n≤k+1→∀x,x<n→itR C n (S0 a) k x=D x)∧(∀k,(∀x,x<n→itR C n (S0 a) (k+1) x=itR C n (S0 a) k x)→∀x,x<n→itR C n (S0 a) (k+1) x=D x):=by
 obtain⟨D,R,h⟩:=spt hA hF ha;have hb:∀x,x<n→D x<NW:=λx hx=>by
  have:∀k x,R x≤k→x<n→D x≤10000000*k:=λk=>by
   induction k with
   |zero=>
    intro q hk hq;by_cases e:q=a
    ·subst e;have:=h.da;omega
    ·obtain⟨p,h1,h2,h3,h4⟩:=h.ti q hq e;omega
   |succ k ih=>
    intro q hk hq;by_cases e:q=a
    ·subst e;have:=h.da;omega
    ·obtain⟨p,h1,h2,h3,h4⟩:=h.ti q hq e
     have h5:=ih p Ω h1;have h6:=(hC p q h2).2;omega
  have h1:=this (R x) x (xa5 _) hx;have h2:=h.rk x hx;unfold NW;omega
 have h1:∀k,n≤k+1→∀x,x<n→itR C n (S0 a) k x=D x:=λk hk x hx=>qmQ h hb ha k x hx (by have:=h.rk x hx;omega);refine⟨D,h.lst,h1,λk hk x hx=>?_⟩;have h2:∀j x,x<n→itR C n (S0 a) (k+j) x=itR C n (S0 a) k x:=λj=>by
  induction j with
  |zero=>intro x _;rfl
  |succ j ih=>
   intro x hx;have h3:∀(S T:Nat→Int),(∀x,x<n→S x=T x)→∀i,i≤n→∀x,x<n→rnd C n S i x=rnd C n T i x:=λS T hST i=>by
    have h4:∀(S T:Nat→Int),(∀x,x<n→S x=T x)→∀i,i<n→∀j,j≤n→∀x,x<n→jQ C S i j x=jQ C T i j x:=λS T hST i hi j=>by
     induction j with
     |zero=>intro _ x hx;exact hST x hx
     |succ j ih=>
      intro hj x hx;simp only[jQ,rlx];rw[ih Ω x hx,ih Ω i hi,ih Ω j Ω]
    induction i with
    |zero=>intro _ x hx;exact hST x hx
    |succ i ih=>intro hi x hx;exact h4 _ _ (ih Ω) i Ω n (xa5 _) x hx
   have h5:=h3 _ _ (λx hx=>ih x hx) n (xa5 _) x hx;have h6:=hk x hx;simp only[itR]at h6;show rnd C n (itR C n (S0 a) (k+j)) n x=_;rw[h5,h6]
 have h3:=h2 n x hx;rw[hk x hx,←h3];exact h1 (k+n) Ω x hx
def Bd(n:Nat)(B:Int)(S:Nat→Int):Prop:=∀x,x<n→S x=NW∨(-B≤S x∧S x≤B)
theorem qpb(hC:Cb C){B:Int}{S:Nat→Int}{p q:Nat}(hp:p<n)(h:Bd n B S):Bd n (B+10000000) (rlx C S p q):=λx hx=>by
 unfold rlx;split
 ·rename_i c;obtain⟨rfl,h1,h2,_⟩:=c
  have h3:=hC _ _ h1;rcases h p hp with h4|h4
  ·exact absurd h4 h2
  ·right;omega
 ·rcases h x hx with h4|h4
  ·exact .inl h4
  ·right;omega
theorem qcK{C:Nat→Nat→Int}{n:Nat}(hC:Cb C){B:Int}{S:Nat→Int}{p:Nat}(hp:p<n)(h:Bd n B S):∀q:Nat,Bd n (B+10000000*q) (jQ C S p q)
 |0=>by simpa[jQ]using h
 |q+1=>by
  have:=qpb (q:=q) hC hp (qcK hC hp h q);intro x hx;rcases this x hx with h4|h4
  ·exact .inl h4
  ·right;simp only[jQ];omega
theorem qcL{C:Nat→Nat→Int}{n:Nat}(hC:Cb C)(hn:n≤11){B:Int}{S:Nat→Int}(h:Bd n B S):∀p:Nat,p≤n→Bd n (B+110000000*p) (rnd C n S p)
 |0,_=>by simpa[rnd]using h
 |p+1,hp=>by
  have:=qcK hC (p:=p) hp (qcL hC hn h p Ω) n;intro x hx;rcases this x hx with h4|h4
  ·exact .inl h4
  ·right;simp only[rnd];omega
theorem qkw{C:Nat→Nat→Int}{n:Nat}(hC:Cb C)(hn:n≤11)(a:Nat):∀k:Nat,Bd n (1210000000*k) (itR C n (S0 a) k)
 |0=>λx hx=>by
  show S0 a x=NW∨_≤S0 a x∧S0 a x≤_;unfold S0;split
  ·right;omega
  ·left;rfl
 |k+1=>by
  have:=qcL hC hn (qkw hC hn a k) n (xa5 n);intro x hx;rcases this x hx with h4|h4
  ·exact .inl h4
  ·right;simp only[itR];omega
theorem qmR(hA:Adj C n)(hC:Cb C)(hn:n≤11)(ha:a<n){k:Nat}(hk12:k≤20)(hk:∀x,x<n→itR C n (S0 a) (k+1) x=itR C n (S0 a) k x):Fea C n (itR C n (S0 a) (k+1)):=by
 have hst:∀i j x,i<n→j≤n→x<n→jQ C (rnd C n (itR C n (S0 a) k) i) i j x=itR C n (S0 a) k x:=λi j x hi hj hx=>by
  have h1:=yX C (rnd C n (itR C n (S0 a) k) i) i x hj;have h2:=QO C n (itR C n (S0 a) k) x (Ω:i+1≤n);have h3:=yX C (rnd C n (itR C n (S0 a) k) i) i x (xb6 j);have h4:=QO C n (itR C n (S0 a) k) x (xb6 i);have h5:=hk x hx;simp only[itR,jQ,rnd]at *;omega
 have hcl:∀p q,p<n→q<n→C p q≠NW→itR C n (S0 a) k p≠NW→itR C n (S0 a) k q≤itR C n (S0 a) k p+C p q:=λp q hp hq hc hf=>by
  have h1:=hst p (q+1) q hp Ω hq;simp only[jQ]at h1;unfold rlx at h1;rw[hst p q p hp Ω hp,hst p q q hp Ω hq]at h1;by_cases c:itR C n (S0 a) k p+C p q<itR C n (S0 a) k q
  ·rw[if_pos ⟨rfl,hc,hf,c⟩]at h1;omega
  ·omega
 have hb:=qkw hC hn a k;have hnx:∀p q,p<n→q<n→C p q≠NW→itR C n (S0 a) k p≠NW→itR C n (S0 a) k q≠NW:=λp q hp hq hc hf e=>by
  have h1:=hcl p q hp hq hc hf;have h2:=hC p q hc;rcases hb p hp with h3|h3
  ·exact hf h3
  ·rw[e]at h1;unfold NW at h1;omega
 have hfa:itR C n (S0 a) k a≠NW:=by
  have h1:∀k,itR C n (S0 a) k a≤0:=λk=>by
   induction k with
   |zero=>simp[itR,S0]
   |succ k ih=>exact Int.le_trans (QO C n (itR C n (S0 a) k) a (xb6 n)) ih
  have:=h1 k;unfold NW;omega
 have hup:∀d,a+d<n→itR C n (S0 a) k (a+d)≠NW:=λd=>by
  induction d with
  |zero=>intro _;exact hfa
  |succ d ih=>intro h;exact hnx (a+d) (a+(d+1)) Ω h (hA (a+d) h).1 (ih Ω)
 have hdn:∀d,d≤a→itR C n (S0 a) k (a - d)≠NW:=λd=>by
  induction d with
  |zero=>intro _;exact hfa
  |succ d ih=>
   intro h;have h1:=(hA (a -(d+1)) Ω).2;rw[show a -(d+1)+1=a - d by omega]at h1;exact hnx (a - d) (a -(d+1)) Ω Ω h1 (ih Ω)
 have hfin:∀x,x<n→itR C n (S0 a) k x≠NW:=λx hx=>by
  by_cases c:a≤x
  ·have:=hup (x - a) Ω;rwa [show a+(x - a)=x by omega]at this
  ·have:=hdn (a - x) Ω;rwa [show a -(a - x)=x by omega]at this
 intro p q hp hq hc;rw[hk p hp,hk q hq];exact hcl p q hp hq hc (hfin p hp)
end Go.Tn
end
section
namespace Go.Tn
structure Ha where
 w:Nat
 m:Int
 k:Nat
 f:Nat→Nat
 t:Nat→Nat
 lo:Nat→Int
 hi:Nat→Int
structure Ha.Ok(h:Ha):Prop where
 w1:1≤h.w
 w2:h.w≤10
 k:h.k≤10
 m:0≤h.m∧h.m≤1000000
 ft:∀j,j<h.k→h.f j≤h.t j∧h.t j<h.w
 lh:∀j,j<h.k→0≤h.lo j∧h.lo j≤h.hi j∧h.hi j≤10000000
def KD:List (Nat×Nat×Int)→Nat→Nat→Int
 |[]=>λ_ _=>NW
 |e :: l=>λx y=>if x=e.1∧y=e.2.1∧e.2.2<KD l x y then e.2.2 else KD l x y
def Ha.fw(h:Ha)(i:Nat):Nat×Nat×Int:=if i<h.w then(i,i+1,h.m)else(h.f (i - h.w),h.t (i - h.w)+1,h.hi (i - h.w))
def Ha.bk(h:Ha)(i:Nat):Nat×Nat×Int:=if i<h.w then(i+1,i,0)else(h.t (i - h.w)+1,h.f (i - h.w),- h.lo (i - h.w))
def Ha.st(h:Ha):Nat→List (Nat×Nat×Int)
 |0=>[]
 |i+1=>h.bk i :: h.fw i :: h.st i
def Ha.C(h:Ha):Nat→Nat→Int:=KD (h.st (h.w+h.k))
def Ha.Tru(h:Ha)(F:Nat→Int):Prop:=(∀i,i<h.w→0≤F (i+1) - F i∧F (i+1) - F i≤h.m)∧∀j,j<h.k→h.lo j≤F (h.t j+1) - F (h.f j)∧F (h.t j+1) - F (h.f j)≤h.hi j
theorem KW:∀{l:List (Nat×Nat×Int)}{p q:Nat}{c:Int},(p,q,c)∈l→KD l p q≤c
 |e :: l,p,q,c,h=>by
  rcases List.mem_cons.1 h with rfl|h
  ·simp only[KD,true_and];split<;>omega
  ·have:=KW h
   simp only[KD];split<;>omega
theorem Jw:∀{l:List (Nat×Nat×Int)}{p q:Nat},KD l p q≠NW→(p,q,KD l p q)∈l
 |[],p,q,h=>absurd rfl h
 |(a,b,c) :: l,p,q,h=>by
  simp only[KD]at h ⊢;split
  ·rename_i c;obtain⟨rfl,rfl,_⟩:=c;simp
  ·rename_i c;rw[if_neg c]at h;exact List.mem_cons_of_mem _ (Jw h)
theorem Ha.st_mem(h:Ha):∀{n:Nat}{e:Nat×Nat×Int},e∈h.st n↔∃i,i<n∧(e=h.fw i∨e=h.bk i)
 |0,e=>by simp[Ha.st]
 |n+1,e=>by
  simp only[Ha.st,List.mem_cons,Ha.st_mem h (n:=n)];constructor
  ·rintro(h1|h1|⟨i,h1,h2⟩)
   ·exact⟨n,Ω,.inr h1⟩
   ·exact⟨n,Ω,.inl h1⟩
   ·exact⟨i,Ω,h2⟩
  ·rintro⟨i,h1,h2⟩
   by_cases c:i=n
   ·subst c;rcases h2 with h2|h2
    ·exact .inr (.inl h2)
    ·exact .inl h2
   ·exact .inr (.inr ⟨i,Ω,h2⟩)
variable{h:Ha}
theorem Ha.Ok.step(o:h.Ok){n:Nat}(hn:n≤h.w+h.k){p q:Nat}{c:Int}(hm:(p,q,c)∈h.st n):p≤h.w∧q≤h.w∧-10000000≤c∧c≤10000000:=by
 obtain⟨i,h1,h2⟩:=h.st_mem.1 hm;have hm2:=o.m;rcases h2 with h2|h2
 ·unfold Ha.fw at h2
  split at h2
  ·cases h2;exact⟨Ω,Ω,Ω,Ω⟩
  ·have h3:=o.ft (i - h.w) Ω
   have h4:=o.lh (i - h.w) Ω;cases h2;exact⟨Ω,Ω,Ω,Ω⟩
 ·unfold Ha.bk at h2
  split at h2
  ·cases h2;exact⟨Ω,Ω,Ω,Ω⟩
  ·have h3:=o.ft (i - h.w) Ω
   have h4:=o.lh (i - h.w) Ω;cases h2;exact⟨Ω,Ω,Ω,Ω⟩
theorem Ha.Ok.cb(o:h.Ok):Cb h.C:=λp q hc=>(o.step (xa5 _) (Jw hc)).2.2
theorem Ha.Ok.adj(o:h.Ok):Adj h.C (h.w+1):=λi hi=>by
 have h1:=KW (l:=h.st (h.w+h.k)) (p:=i) (q:=i+1) (c:=h.m) (h.st_mem.2 ⟨i,Ω,.inl (by unfold Ha.fw;rw[if_pos Ω])⟩);have h2:=KW (l:=h.st (h.w+h.k)) (p:=i+1) (q:=i) (c:=0) (h.st_mem.2 ⟨i,Ω,.inr (by unfold Ha.bk;rw[if_pos Ω])⟩);have:=o.m;unfold Ha.C NW;omega
theorem Ha.Ok.fea(o:h.Ok){F:Nat→Int}:Fea h.C (h.w+1) F↔h.Tru F:=by
 constructor
 ·intro hF
  have key:∀{p q:Nat}{c:Int},(p,q,c)∈h.st (h.w+h.k)→F q≤F p+c:=λ{p q c} hm=>by
   have h1:=o.step (xa5 _) hm;have h2:=KW hm;have h3:=hF p q Ω Ω (by unfold Ha.C NW;omega);unfold Ha.C at h3;omega
  constructor
  ·intro i hi
   have h1:=key (h.st_mem.2 ⟨i,Ω,.inl (by unfold Ha.fw;rw[if_pos hi])⟩);have h2:=key (h.st_mem.2 ⟨i,Ω,.inr (by unfold Ha.bk;rw[if_pos hi])⟩);omega
  ·intro j hj
   have h1:=key (h.st_mem.2 ⟨h.w+j,Ω,.inl (by unfold Ha.fw;rw[if_neg Ω])⟩);have h2:=key (h.st_mem.2 ⟨h.w+j,Ω,.inr (by unfold Ha.bk;rw[if_neg Ω])⟩);simp only[xb7]at h1 h2;omega
 ·rintro⟨h1,h2⟩ p q hp hq hc
  obtain⟨i,h3,h4⟩:=h.st_mem.1 (Jw hc);unfold Ha.C;generalize KD (h.st (h.w+h.k)) p q=c at *;rcases h4 with h4|h4
  ·unfold Ha.fw at h4
   split at h4
   ·cases h4;have:=h1 p (by assumption);omega
   ·cases h4;have:=h2 (i - h.w) Ω;omega
  ·unfold Ha.bk at h4
   split at h4
   ·cases h4;have:=h1 q (by assumption);omega
   ·cases h4;have:=h2 (i - h.w) Ω;omega
theorem Ha.Ok.least(o:h.Ok){a:Nat}(ha:a≤h.w):(∃D,Lst h.C (h.w+1) a D∧(∃k,k≤h.w∧∀x,x≤h.w→itR h.C (h.w+1) (S0 a) (k+1) x=itR h.C (h.w+1) (S0 a) k x)∧∀k,(∀x,x≤h.w→itR h.C (h.w+1) (S0 a) (k+1) x=itR h.C (h.w+1) (S0 a) k x)→∀x,x≤h.w→itR h.C (h.w+1) (S0 a) (k+1) x=D x)∨((∀F,¬h.Tru F)∧∀k,k≤20→¬∀x,x≤h.w→itR h.C (h.w+1) (S0 a) (k+1) x=itR h.C (h.w+1) (S0 a) k x):=by
 have hw:=o.w2;by_cases hF:∃F,h.Tru F
 ·obtain⟨F,hF⟩:=hF
  obtain⟨D,h1,h2,h3⟩:=qkv o.adj (o.fea.2 hF) (a:=a) Ω o.cb Ω;refine .inl ⟨D,h1,⟨h.w,xa5 _,λx hx=>?_⟩,λk hk x hx=>h3 k (λy hy=>hk y Ω) x Ω⟩;rw[h2 (h.w+1) Ω x Ω,h2 h.w Ω x Ω]
 ·refine .inr ⟨λF h=>hF ⟨F,h⟩,λk hk hs=>hF ⟨_,o.fea.1 (qmR o.adj o.cb Ω (a:=a) Ω hk λx hx=>hs x Ω)⟩⟩
end Go.Tn
end
section
namespace Go.Tn
open Go.Proofs
open Go.Sx
variable{X:SV}
theorem TYc:True∧qn Tryz.prog 2=some ⟨false,1,some [.int .i64 0],.int .i64⟩∧qn Tryz.prog 3=some ⟨false,1,some [.int .i64 0],.int .i64⟩∧qn Tryz.prog 4=some ⟨false,1,some [.bool false],.bool⟩∧qn Tryz.prog 28=some ⟨false,1,some [.int .i64 0],.int .i64⟩∧qn Tryz.prog 32=some ⟨false,1,some [.slice none 0 0],.slice 2 1⟩∧qn Tryz.prog 95=some ⟨false,1,some [.slice none 0 0],.slice 101 4⟩∧qn Tryz.prog 97=some ⟨true,3,some [.int .i64 0,.int .i64 0,.slice none 0 0],.struct [(0,1,some false),(1,1,some false),(2,1,some false)]⟩∧qr Tryz.prog 97=some [(0,1),(1,1),(2,1)]∧qn Tryz.prog 99=some ⟨true,2,some [.int .i64 0,.int .i64 0],.struct [(0,1,some false),(1,1,some false)]⟩∧qr Tryz.prog 99=some [(0,1),(1,1)]∧qY Tryz.prog 99=some [.i .i64,.i .i64]∧qn Tryz.prog 101=some ⟨true,4,some [.int .i64 0,.int .i64 0,.int .i64 0,.int .i64 0],.struct [(0,1,some false),(1,1,some false),(2,2,some true)]⟩∧qr Tryz.prog 101=some [(0,1),(1,1),(2,2)]∧qY Tryz.prog 101=some [.i .i64,.i .i64,.i .i64,.i .i64]∧qn Tryz.prog 184=some ⟨false,1,some [.pointer none],.other⟩∧qn Tryz.prog 193=some ⟨true,3,some [.bool false,.int .i64 0,.bool false],.struct [(0,1,some false),(1,1,some false),(2,1,some false)]⟩∧qr Tryz.prog 193=some [(0,1),(1,1),(2,1)]∧qY Tryz.prog 193=some [.b,.i .i64,.b]∧qn Tryz.prog 336=some ⟨false,1,some [.map none],.map 343 340⟩∧qC Tryz.prog 336=some ⟨true,[.i .i64,.i .i64],.agg [.val (.bool false),.val (.int .i64 0),.val (.bool false),.val (.int .i64 0)]⟩∧qn Tryz.prog 338=some ⟨true,4,some [.int .i64 0,.int .i64 0,.slice none 0 0,.map none],.struct [(0,3,some true),(3,1,some false)]⟩∧qr Tryz.prog 338=some [(0,3),(3,1)]∧qn Tryz.prog 340=some ⟨true,4,some [.bool false,.int .i64 0,.bool false,.int .i64 0],.struct [(0,3,some true),(3,1,some false)]⟩∧qr Tryz.prog 340=some [(0,3),(3,1)]∧qY Tryz.prog 340=some [.b,.i .i64,.b,.i .i64]∧qn Tryz.prog 343=some ⟨true,2,some [.int .i64 0,.int .i64 0],.struct [(0,1,some false),(1,1,some false)]⟩∧qr Tryz.prog 343=some [(0,1),(1,1)]∧qY Tryz.prog 343=some [.i .i64,.i .i64]∧qG Tryz.prog 101=32:=⟨trivial,Ωc,Ωc,Ωc,Ωc,Ωc,Ωc,Ωc,Ωc,Ωc,Ωc,Ωc,Ωc,Ωc,Ωc,Ωc,Ωc,Ωc,Ωc,Ωc,Ωc,Ωc,Ωc,Ωc,Ωc,Ωc,Ωc,Ωc,Ωc,Ωc⟩
def ctL(h:Ha)(i:Nat):List SV:=[.val (.int .i64 (h.f i)),.val (.int .i64 (h.t i)),.val (.int .i64 (h.lo i)),.val (.int .i64 (h.hi i))]
def ctR(h:Ha):SV:=.arr false false h.k 4 (λi j=>(ctL h i).getD j .top)
def haS(h:Ha):SV:=.agg [.val (.int .i64 h.w),.val (.int .i64 h.m),ctR h]
def shL(h:Ha)(X:SV):List SV:=[.val (.int .i64 h.w),.val (.int .i64 h.m),ctR h,X]
def shR(h:Ha)(X:SV):SV:=.ref false 4 (λj=>(shL h X).getD j .top)
theorem qgH{P:SV→Prop}{a b c d:SV}(ha:P a)(hb:P b)(hc:P c)(hd:P d):∀j,j<4→P ([a,b,c,d].getD j .top):=λj hj=>by
 rcases(Ω:j=0∨j=1∨j=2∨j=3)with rfl|rfl|rfl|rfl<;>assumption
theorem kP(h:Ha):Old (ctR h):=⟨rfl,λi j hi hj=>by
 unfold ctL;exact qgH (P:=Old) Ωu Ωu Ωu Ωu j hj⟩
theorem jg(h:Ha):Old (haS h):=by simp[haS,Old,OldL,kP]
theorem WY(h:Ha)(hX:Old X):Old (shR h X):=⟨rfl,λj hj=>qgH (P:=Old) Ωu Ωu (kP h) hX j hj⟩
theorem qqB(h:Ha)(hX:Old X)(i:Nat)(hi:i<h.w)(hw:h.w≤10)(b:Bool):qf Tryz.prog 329 [shR h X,.agg [.val (.bool true),.val (.int .i64 (i:Nat)),.val (.bool b)]] (.tup [I (if b then h.bk i else h.fw i).1,I (if b then h.bk i else h.fw i).2.1,I (if b then h.bk i else h.fw i).2.2]):=by
 refine qg Tryz.func329 rfl Ωc follows Ωc _ _ (by rw[Tryz.ntmps329];simp) (by simp only[OldL,WY h hX,true_and];simp[Old,OldL]) ?_;have NB:True:=trivial;cases b
 all_goals (conv=>arg 4;unfold shR shL)
 all_goals repeat' first|refine sD ?_ ?_<;>intro _|refine aAh ?_|simp -dsimp only[↓RP,RQ,seval,TYc,NB,QR,QT,QN]
 all_goals all_goals try exact Ωa
 all_goals simp[Ha.fw,Ha.bk,hi,I]
theorem qqC(h:Ha)(o:h.Ok)(hX:Old X)(i:Nat)(hi:i<h.k)(b:Bool):qf Tryz.prog 329 [shR h X,.agg [.val (.bool false),.val (.int .i64 (i:Nat)),.val (.bool b)]] (.tup [I (if b then h.bk (h.w+i)else h.fw (h.w+i)).1,I (if b then h.bk (h.w+i)else h.fw (h.w+i)).2.1,I (if b then h.bk (h.w+i)else h.fw (h.w+i)).2.2]):=by
 have h1:=o.ft i hi;have h2:=o.lh i hi;have h3:=o.w2;refine qg Tryz.func329 rfl Ωc follows Ωc _ _ (by rw[Tryz.ntmps329];simp) (by simp only[OldL,WY h hX,true_and];simp[Old,OldL]) ?_;have NB:True:=trivial;cases b
 all_goals (conv=>arg 4;unfold shR shL ctR ctL)
 all_goals repeat' first|refine sD ?_ ?_<;>intro _|refine aAh ?_|simp -dsimp only[↓RP,RQ,seval,TYc,NB,QR,QT,QN]
 all_goals all_goals try exact Ωa
 all_goals simp[Ha.fw,Ha.bk,I,show ¬h.w+i<h.w by omega]
end Go.Tn
end
section
namespace Go.Sx
open Go.RowKit
noncomputable section
variable{ρ:Q}
def QP(M post:Code):List Code→Code
 |[]=>M.seq post
 |c :: l=>c.seq (QP M post l)
abbrev MX:=Tr 3 SV→Tr 6 XB→Nat→XK→R
def qkx(run:XC)(L:FL)(mh:MX)(post:Code)(l:List Code)(fr:Tr 3 SV)(hp:Tr 6 XB)(nid:Nat)(f:XK):R:=
 List.rec (motive:=λ_=>Tr 3 SV→Tr 6 XB→Nat→R) (λfr hp nid=>mh fr hp nid λe fr hp nid=>match e with
  |.normal=>run L .top post fr hp nid f
  |.exit i=>f (.exit i) fr hp nid
  |.ret=>f .ret fr hp nid) (λc _ ih fr hp nid=>run L .top c fr hp nid λe fr hp nid=>match e with
  |.normal=>ih fr hp nid
  |.exit i=>f (.exit i) fr hp nid
  |.ret=>f .ret fr hp nid) l fr hp nid
def qsi(E:XE)(rs:List ResultVar)(k:SV→Tr 6 XB→Nat→R):XK
 |.exit _,_,_,_=>.bad 330 0
 |.normal,fr,hp,nid=>yo E fr hp rs λm=>svK (oneSV m) λs=>k s hp nid
 |.ret,fr,hp,nid=>yo E fr hp rs λm=>svK (oneSV m) λs=>k s hp nid
def qmS(E:XE)(n:Nat)(fn:Func)(L:FL)(mh:MX)(pre:List Code)(post:Code)(args:List SV)(hp:Tr 6 XB)(nid:Nat)(k:SV→Tr 6 XB→Nat→R):R:=
 ql 302 (Nat.ble args.length fn.ntmps) (WH args 0 .nil λfr=>qkx (KC E n) L mh post pre fr hp nid (qsi E fn.results.toList k))
def qeR(P:Program)(L:FL)(M:Code)(mh:MX):Prop:=∀(ρ:Q)(LM:Nat→Option Loop)(fs:List Fr)(lo:Nat)(st:St)(fr:Tr 3 SV)(hp:Tr 6 XB)(nid:Nat)(f:XK)(K:Ex→St→Prop),StR LM fr hp nid st→mh fr hp nid f=.ok ρ→
 (∀e fr' hp' nid' st',StR LM fr' hp' nid' st'→f e fr' hp' nid'=.ok ρ→K e st')→vc P ⟨fs,lo,false,qR L⟩ M st K
section
variable{P:Program}{E:XE}
theorem VM{run:XC}(hrun:vq P run){L:FL}{mh:MX}{M post:Code}(hM:qeR P L M mh){LM:Nat→Option Loop}{fs:List Fr}{lo:Nat}{f:XK}{K:Ex→St→Prop}(hk:∀e fr' hp' nid' st',StR LM fr' hp' nid' st'→f e fr' hp' nid'=.ok ρ→K e st'):∀(l:List Code)(st:St)(fr:Tr 3 SV)(hp:Tr 6 XB)(nid:Nat),StR LM fr hp nid st→qkx run L mh post l fr hp nid f=.ok ρ→vc P ⟨fs,lo,false,qR L⟩ (QP M post l) st K
 |[],st,fr,hp,nid,hs,h=>by
  refine hM ρ LM fs lo st fr hp nid _ _ hs h λe fr' hp' nid' st' hs' h'=>?_;cases e with
  |normal=>exact hrun ρ LM fs lo false L .top post st' fr' hp' nid' f K rfl hs' h' hk
  |exit i=>exact hk _ _ _ _ _ hs' h'
  |ret=>exact hk _ _ _ _ _ hs' h'
 |c :: l,st,fr,hp,nid,hs,h=>by
  refine hrun ρ LM fs lo false L .top c st fr hp nid _ _ rfl hs h λe fr' hp' nid' st' hs' h'=>?_;cases e with
  |normal=>exact VM hrun hM hk l st' fr' hp' nid' hs' h'
  |exit i=>exact hk _ _ _ _ _ hs' h'
  |ret=>exact hk _ _ _ _ _ hs' h'
theorem qeS(hm:P.follows .mixedOrders=true)(hE:XOk P E)(hf:wK P E){g:Nat}{fn:Func}{L:FL}{mh:MX}{M post:Code}{pre:List Code}(hc:qjc P g fn L (QP M post pre))(hM:qeR P L M mh)(n:Nat):yc P g (qmS E n fn L mh pre post):=by
 intro ρ LM O args hp k st K hH h hk;unfold qmS at h;obtain⟨q,h⟩:=qe h;obtain⟨fr,h1,h2⟩:=yR h;refine QG (qR L) hm hc.at_ hc.body hc.name hc.ok (xa7 q) λout=>?_;have key:∀(fr3:Tr 3 SV)(hp3:Tr 6 XB)(nid3:Nat)(st3:St),StR LM fr3 hp3 nid3 st3→(yo E fr3 hp3 fn.results.toList λm=>svK (oneSV m) λs=>k s hp3 nid3)=.ok ρ→resultsVC P fn.results.toList st3 (λm=>K ⟨st.fr,st3.hp,st3.nid⟩ (oneSV m)):=λfr3 hp3 nid3 st3 h3 h=>by
  refine yS hE h3 h λm h=>?_;rw[Qz]at h;obtain⟨a,b,c⟩:=h3;rw[c];exact hk _ _ _ _ b h
 refine VM (qet hm hE hf n) hM (λe fr3 hp3 nid3 st3 h3 h=>?_) pre ⟨argFr 0 args,st.hp,st.nid⟩ fr hp st.nid ⟨h1,hH,rfl⟩ h2;cases e with
 |exit i=>cases h
 |normal=>exact key _ _ _ _ h3 h
 |ret=>exact key _ _ _ _ h3 h
end
end
end Go.Sx
end
section
namespace Go.Sx
open Go.Proofs
open Go.RowKit
noncomputable section
def sqL:Code→Code
 |.seq a _=>a
 |c=>c
def sqR:Code→Code
 |.seq _ b=>b
 |c=>c
def sqN:Nat→Code→List Code
 |0,_=>[]
 |n+1,c=>sqL c :: sqN n (sqR c)
def sqB:Nat→Code→Code
 |0,c=>c
 |n+1,c=>sqB n (sqR c)
def gQ(f:Func):Code:=f.body.getD .skip
def qeT(l:List Nat)(fr:Tr 3 SV)(g:Tr 3 SV→R):R:=List.rec (motive:=λ_=>Tr 3 SV→R) g (λt _ ih fr=>za (some .top) 22 fr t ih) l fr
def qaT(p:Value→SV→Bool)(es:List (Value×Option SV)):List (Value×Option SV):=List.rec [] (λa _ ih=>match a with
 |(k,some s)=>(k,Bool.rec none (some s) (p k s)) :: ih
 |(k,none)=>(k,none) :: ih) es
def jv(lay:Bool)(k:Value)(_:SV):Bool:=match k with
 |.agg a=>(match a.toList with
  |[_,.bool b]=>b == lay
  |_=>false)
 |_=>false
def qpc:Code:=sqL (sqB 7 (gQ Tryz.f104))
def vi:List Nat:=[10,73,74,75,76,77,78,79,80,81,82,83,84,85,86,87,88,89,90]
def qky:MX:=λfr hp nid f=>match qw fr 1,qw fr 9 with
 |.ptr b 0,.val (.bool lay)=>(match hp.find b with
  |some (.cells 175 [.ptr d 0])=>(match hp.find d with
   |some (.cells 313 [a0,a1,a2,a3,a4,a5,a6,a7,a8,a9,a10,a11,a12,a13,a14,a15,a16,a17,a18,a19,a20,a21,.mp mid])=>(match hp.find mid with
    |some (.map true [.i .i64,.b] es)=>qeT vi fr λfr=>za (some (.tup [.val (.bool false)])) 22 fr 78 λfr=>za (some (.val (.bool false))) 22 fr 79 λfr=>za (some (.map true [.i .i64,.b] (qaT (jv lay) es))) 22 hp mid λhp=>qm (nid+(20*es.length+100)) λnid=>f .normal fr hp nid
    |_=>.bad 600 0)
   |_=>.bad 601 0)
  |_=>.bad 602 0)
 |_,_=>.bad 603 0
end
end Go.Sx
end
section
namespace Go.Tn
open Go.Proofs
open Go.Sx Go.RowKit
variable{fr:List (Nat×SV)}{hp:List (Nat×Blk)}{dom:Value→Bool}{stamp:Value→Nat}{p:Value→SV→Bool}{k:Value}
theorem TYs:True∧qn Tryz.prog 309=some ⟨false,1,some [.map none],.map 315 3⟩∧qC Tryz.prog 309=some ⟨true,[.i .i64,.b],.val (.int .i64 0)⟩∧qn Tryz.prog 313=some ⟨true,23,some [.int .i64 0,.slice none 0 0,.int .i64 0,.int .i64 0,.int .i64 0,.int .i64 0,.int .i64 0,.int .i64 0,.int .i64 0,.int .i64 0,.int .i64 0,.int .i64 0,.int .i64 0,.int .i64 0,.int .i64 0,.int .i64 0,.int .i64 0,.int .i64 0,.int .i64 0,.int .i64 0,.int .i64 0,.int .i64 0,.map none],.struct [(0,2,some true),(2,10,some true),(12,10,some true),(22,1,some false)]⟩∧qr Tryz.prog 313=some [(0,2),(2,10),(12,10),(22,1)]∧qn Tryz.prog 315=some ⟨true,2,some [.int .i64 0,.bool false],.struct [(0,1,some false),(1,1,some false)]⟩∧qr Tryz.prog 315=some [(0,1),(1,1)]∧qY Tryz.prog 315=some [.i .i64,.b]∧qn Tryz.prog 175=some ⟨false,1,some [.pointer none],.other⟩:=⟨trivial,Ωc,Ωc,Ωc,Ωc,Ωc,Ωc,Ωc,Ωc⟩
section
variable{P:Program}{O:Ctx}
theorem qcM{op:Op}{st:St}{K:St→SV→Prop}(h:Under st.hp st.nid→OpVC P O op st K):OpVC P O op st K:=λbase okc ns r outs a w o ho hi=>h hi.keys base okc ns r outs a w o ho hi
theorem qeU{J:Prop}{j:Tag J}{d:Option Tmp}{id:Nat}{K:St→Prop}{g:Tag K}{t:TypeId}{x:Operand}{o:Tag (Op.range t x)}{mid:Nat}{fit:Value→Bool}{get:Value→SV}{mi:jZ}(hJ:J)(hx:env (Go.Sx.look fr) x=.mp mid)(ht:qC P t=some mi)(hb:blk hp mid=some (.map fit dom get))
  (h:Under hp id→∀(stamp:Value→Nat)(clk:Nat),(∀k,dom k=true→stamp k<clk)→(∀k k',dom k=true→dom k'=true→stamp k=stamp k'→k=k')→
   K (St.put ⟨fr,(id,.iter mid clk [] clk) :: setBlk hp mid (.mapS fit dom get stamp clk),id+1⟩ d (.ptr id 0))):qfD P O j o d id fr hp K g:=⟨hJ,qcM λhU=>Ve hx ht hb (h hU)⟩
theorem Jx{ρ:Q}:∀{l:List Nat}{fr:Tr 3 SV}{g:Tr 3 SV→R},qeT l fr g=.ok ρ→∃fr',(∀t,qw fr' t=if t∈l then .top else qw fr t)∧g fr'=.ok ρ
 |[],fr,g,h=>⟨fr,λt=>by simp,h⟩
 |a :: l,fr,g,h=>by
  have h:za (some .top) 22 fr a (λfr=>qeT l fr g)=.ok ρ:=h;obtain⟨f1,h1,h⟩:=qB _ _ _ _ h;obtain⟨f2,h2,h⟩:=Jx (l:=l) h;refine⟨f2,λt=>?_,h⟩;rw[h2];have e:qw f1 t=if t=a then .top else qw fr t:=by
   unfold qw;rw[h1 t];by_cases c:t=a
   ·rw[if_pos c,if_pos c]
   ·rw[if_neg c,if_neg c]
  by_cases c:t∈l
  ·rw[if_pos c,if_pos (List.mem_cons_of_mem _ c)]
  ·rw[if_neg c,e]
   by_cases c2:t=a
   ·rw[if_pos c2,if_pos (by rw[c2];exact xd5)]
   ·rw[if_neg c2,if_neg (λh=>(List.mem_cons.1 h).elim c2 c)]
def JW(l:List Nat)(F:List (Nat×SV)):List (Nat×SV):=l.map (λt=>(t,SV.top))++F
theorem qM{F:List (Nat×SV)}{t:Nat}:∀{l:List Nat},Go.Sx.look (JW l F) t=if t∈l then .top else Go.Sx.look F t
 |[]=>by simp[JW]
 |a :: l=>by
  show Go.Sx.look ((a,SV.top) :: JW l F) t=_;have ih:=qM (F:=F) (t:=t) (l:=l);simp only[Go.Sx.look];by_cases c:t=a
  ·rw[if_pos c,if_pos (by rw[c];exact xd5)]
  ·rw[if_neg c,ih]
   by_cases d:t∈l
   ·rw[if_pos d,if_pos (List.mem_cons_of_mem _ d)]
   ·rw[if_neg d,if_neg (λh=>(List.mem_cons.1 h).elim c d)]
theorem qkz{r r2:Nat→Option Nat}{N N2:Nat→Prop}{G G2:Bool→Nat→Prop}{w w2:World}{b:Value}{v:Value}(h:Rep r N G w (.tup [.val b]) v):Rep r2 N2 G2 w2 (.tup [.val b]) v:=by
 cases h with
 |tup _ cs hl hr=>
  refine .tup _ cs hl λi sv hi=>?_;have h:=hr i sv hi;rcases i with _|i
  ·simp only[xd6,Option.some.injEq]at hi
   subst hi;generalize cs.getD 0 undef=x at h;cases h;exact .val _
  ·simp at hi
theorem qcN{P:Program}{O:Ctx}{J:Prop}{j:Tag J}{d:Option Tmp}{id:Nat}{K:St→Prop}{g:Tag K}{x:Operand}{o:Tag (Op.next x false)}{iid mid clk:Nat}{seen:List Nat}{fit:Value→Bool}{get:Value→SV}(hJ:J)(hx:env (Go.Sx.look fr) x=.ptr iid 0)(hbi:blk hp iid=some (.iter mid clk seen clk))(hbm:blk hp mid=some (.mapS fit dom get stamp clk))
  (h1:∀k,fit k=true→dom k=true→stamp k∉seen→K (St.put ⟨fr,setBlk hp iid (.iter mid clk (seen++[stamp k]) clk),id⟩ d (.tup [.val (.bool true),.val k,get k])))
  (h2:(∀k,dom k=true→stamp k∈seen)→∃st2,Weak O ⟨fr,hp,id⟩ st2∧id≤st2.nid∧K (St.put st2 d (.tup [.val (.bool false)]))):qfD P O j o d id fr hp K g:=by
 refine⟨hJ,λbase okc ns r outs a w oo ho hi=>?_⟩;obtain⟨v,w',e1,st',r',res,e2,e3,e4,e5⟩:=YB (P:=P) (O:=O) (st:=⟨fr,hp,id⟩) (K:=λst' res=>(res≠.tup [.val (.bool false)]∧K (st'.put d res))∨(res=.tup [.val (.bool false)]∧∃st2,Weak O st' st2∧st'.nid≤st2.nid∧K (st2.put d (.tup [.val (.bool false)])))) hx hbi hbm (λk a b c=>.inl ⟨Ωg,h1 k a b c⟩) (λhh=>.inr ⟨rfl,h2 hh⟩) base okc ns r outs a w oo ho hi;rcases e2 with⟨_,e2⟩|⟨rfl,st2,hw,hn,hk⟩
 ·exact⟨v,w',e1,st',r',res,e2,e3,e4,e5⟩
 ·obtain⟨r2,hi2⟩:=hw _ _ _ _ _ _ ⟨r',e4⟩
  exact⟨v,w',e1,st2,r2,_,hk,xc1 e3 hn,hi2,qkz e5⟩
end
theorem yr{O:Ctx}{fr':List (Nat×SV)}{hp':List (Nat×Blk)}{nid nid':Nat}(hn:nid≤nid')(hf:∀t,Go.Sx.look fr' t=.top∨Go.Sx.look fr' t=Go.Sx.look fr t)(hh:SubHp hp hp'):Weak O ⟨fr,hp,nid⟩ ⟨fr',hp',nid'⟩:=by
 refine Weak.trans (QC O ⟨fr,hp,nid⟩ nid' hn) ?_;rintro base okc ns outs a w ⟨r,h⟩;have hs:=h.sat.sub hh;have h2:InvR O base okc ns nid' r outs (St.put {({ fr:=fr,hp:=hp,nid:=nid' }:St)with hp:=hp' } none undefSV) (a.put none undef) w:=h.step hs (λid x hx=>h.keys id x (hh id x hx)) (xa5 _) (d:=none) (λt ht=>by cases ht) (.val undef);refine⟨r,h2.sat,h2.keys,λi=>?_,h2.size,h2.lo,h2.out,h2.rfix,h2.defers⟩;rcases hf i with e|e
 ·show Rep _ _ _ _ (Go.Sx.look fr' i) _
  rw[e];exact .top _
 ·show Rep _ _ _ _ (Go.Sx.look fr' i) _
  rw[e];exact h2.fr i
theorem wA{p:Value→SV→Bool}{v:Value}:∀{es:List (Value×Option SV)},kD (qaT p es) v=(kD es v).bind λs=>if p v s=true then some s else none
 |[]=>rfl
 |(k,some s) :: es=>by
  show kD ((k,Bool.rec none (some s) (p k s)) :: qaT p es) v=_;rw[zO,zO];by_cases c:eqK k v=true
  ·rw[if_pos c,if_pos c,←zx c]
   show(Bool.rec none (some s) (p k s):Option SV)=if p k s=true then some s else none
   cases p k s<;>rfl
  ·rw[if_neg c,if_neg c];exact wA
 |(k,none) :: es=>by
  show kD ((k,none) :: qaT p es) v=_;rw[zO,zO];by_cases c:eqK k v=true
  ·rw[if_pos c,if_pos c];rfl
  ·rw[if_neg c,if_neg c];exact wA
def dAt(dom:Value→Bool)(get:Value→SV)(p:Value→SV→Bool)(ks:List Value):Value→Bool:=λv=>dom v&&!(ks.any λk=>eqK k v&&!p k (get k))
theorem WZ(dom:Value→Bool)(get:Value→SV)(p:Value→SV→Bool):dAt dom get p []=dom:=by funext v;simp[dAt]
theorem W0{get:Value→SV}{ks:List Value}(h:p k (get k)=true):dAt dom get p (ks++[k])=dAt dom get p ks:=by
 funext v;simp[dAt,List.any_append,h]
theorem qcO{get:Value→SV}{ks:List Value}(h:p k (get k)=false):dAt dom get p (ks++[k])=kg (dAt dom get p ks) k:=by
 funext v;simp only[dAt,List.any_append,List.any_cons,List.any_nil,h,kg,Bool.not_false,xf1,xf3,Bool.not_or];cases dom v<;>cases eqK k v<;>simp
theorem W2{get:Value→SV}{ks:List Value}{v:Value}(h:dAt dom get p ks v=true):dom v=true:=by
 unfold dAt at h;rw[xe6]at h;exact h.1
theorem W3{get:Value→SV}{ks:List Value}(hin:∀v,v∈ks→dom v=true∧eqK v v=true)(hinj:∀k k',dom k=true→dom k'=true→stamp k=stamp k'→k=k')(hall:∀v,dAt dom get p ks v=true→stamp v∈ks.map stamp)(v:Value):(dom v&&p v (get v))=dAt dom get p ks v:=by
 cases hd:dom v with
 |false=>unfold dAt;rw[hd];rfl
 |true=>
  cases hp:p v (get v)with
  |true=>
   unfold dAt;rw[hd,xf0,xf0]
   symm
   rw[Bool.not_eq_true',List.any_eq_false];intro k hk hc;rw[xe6]at hc;rw[zx hc.1,hp]at hc;exact absurd hc.2 Ωr
  |false=>
   cases hq:dAt dom get p ks v with
   |false=>rfl
   |true=>
    exfalso
    obtain⟨u,hu,e⟩:=List.mem_map.1 (hall v hq);have e:=hinj u v (hin u hu).1 hd e;subst e;unfold dAt at hq;rw[xe6,Bool.not_eq_true',List.any_eq_false]at hq;exact hq.2 u hu (by rw[(hin u hu).2,hp];rfl)
theorem qaU{v:Value}:∀{es:List (Value×Option SV)},(kD es v).isSome=true→∃q,q∈es.map Prod.fst∧eqK q v=true
 |[],h=>by cases h
 |(k,o) :: es,h=>by
  rw[zO]at h;by_cases c:eqK k v=true
  ·exact⟨k,xd5,c⟩
  ·rw[if_neg c]at h
   obtain⟨q,h1,h2⟩:=qaU h;exact⟨q,List.mem_cons_of_mem _ h1,h2⟩
theorem W4{es:List (Value×Option SV)}{ks:List Value}(hn:ks.Nodup)(h:∀v,v∈ks→(kD es v).isSome=true):ks.length≤es.length:=by
 have hlt:∀v,v∈ks→(es.map Prod.fst).findIdx (λq=>eqK q v)<(es.map Prod.fst).length:=λv hv=>by
  obtain⟨q,h1,h2⟩:=qaU (h v hv);exact List.findIdx_lt_length_of_exists ⟨q,h1,h2⟩
 have:=vM es.length (ks.map λv=>(es.map Prod.fst).findIdx (λq=>eqK q v)) (yN hn λa b ha hb e=>by
  have h1:=List.findIdx_getElem (w:=hlt a ha);have h2:=List.findIdx_getElem (w:=hlt b hb);have h1:=zx h1;have h2:=zx h2;rw[←h1,←h2]
  congr 1) λx hx=>by
  obtain⟨v,hv,rfl⟩:=List.mem_map.1 hx;have:=hlt v hv
  rwa [xe1]at this
 rwa [xe1]at this
theorem qqD:qC Tryz.prog 309=some ⟨true,[.i .i64,.b],.val (.int .i64 0)⟩:=by kernel_rfl
theorem qmT(h:qi true [.i .i64,.b] k=true):∃r b,k=.agg #[.int .i64 r,.bool b]:=by
 cases k<;>simp only[qi,xe7]at h
 rename_i a;obtain⟨l⟩:=a;have h:qU [.i .i64,.b] l=true:=h;rcases l with _|⟨x,_|⟨y,_|⟨z,l⟩⟩⟩<;>simp only[qU,xe6,xe7,and_false]at h
 obtain⟨h1,h2,_⟩:=h;cases x<;>simp only[lfOk,xe7,decide_eq_true_eq]at h1
 cases y<;>simp only[lfOk,xe7]at h2
 rename_i k r b;exact⟨r,b,by rw[h1]⟩
theorem qmU:qeR Tryz.prog [(11,[(2,2)]),(12,[(2,2)])] qpc qky:=by
 intro ρ LM fs lo st fr hp nid f K hs h hk;obtain⟨F,H,n⟩:=st;obtain⟨hF,hH,hn⟩:=hs
 replace hF:FRel fr F:=hF
 replace hH:HRel LM hp H:=hH
 replace hn:n=nid:=hn
 unfold qky at h;split at h
 rotate_left
 ·cases h
 rename_i b lay e1 e9;split at h
 rotate_left
 ·cases h
 rename_i d hb;split at h
 rotate_left
 ·cases h
 rename_i a0 a1 a2 a3 a4 a5 a6 a7 a8 a9 a10 a11 a12 a13 a14 a15 a16 a17 a18 a19 a20 a21 mid hd;split at h
 rotate_left
 ·cases h
 rename_i es hm;obtain⟨fr0,hfr0,h⟩:=Jx h;obtain⟨fr1,hfr1,h⟩:=qB _ _ _ _ h;obtain⟨fr',hfr',h⟩:=qB _ _ _ _ h;obtain⟨hp1,p1,h⟩:=qB _ _ _ _ h;rw[qj]at h;have f1:Go.Sx.look F 1=.ptr b 0:=(hF 1).trans e1;have f9:Go.Sx.look F 9=.val (.bool lay):=(hF 9).trans e9;have b1:blk H b=some (.cells 175 [.ptr d 0]):=hH.cells hb;have b2:=hH.cells hd;obtain⟨dom,get,b3,hdg⟩:=hH.map hm;have NB:True:=trivial
 conv=>arg 3;whnf
 repeat' first|refine sD ?_ ?_<;>intro _|refine aAh ?_|simp -dsimp only[↓RP,RQ,seval,↓RY,TYs,f1,f9,b1,b2,b3,NB,QR,QT,QN]
 all_goals try exact Ωa
 obtain⟨iid,hiid⟩:∃iid,iid=n+4:=⟨_,rfl⟩;rw[←hiid];refine qeU (mid:=mid) (fit:=qi true [.i .i64,.b]) (dom:=dom) (get:=get) Ωs Ωs qqD b3 λhU stamp clk hst hinj=>?_;have u1:=hU b _ b1;have u2:=hU d _ b2;have u3:=hU mid _ b3;have n1:b≠mid:=λe=>by rw[e,b3]at b1;cases b1
 have n2:d≠mid:=λe=>by rw[e,b3]at b2;cases b2
 have NB:=(⟨nmA u1,nmA u2,nmA u3,nmE n1,nmE n2⟩:_∧_∧_∧_∧_);repeat' first|refine sD ?_ ?_<;>intro _|refine aAh ?_|simp -dsimp only[↓RP,RQ,seval,↓RY,TYs,f1,f9,b1,b2,b3,NB,QR,QT,QN]
 all_goals try exact Ωa
 refine qo (λ(z:List Value)=>z.Nodup∧(∀v,v∈z→dom v=true∧eqK v v=true)) (λz=>⟨(77,.ptr iid 0) :: JW vi F,(iid,.iter mid clk (z.map stamp) clk) ::(mid,.mapS (qi true [.i .i64,.b]) (dAt dom get (jv lay) z) get stamp clk) :: dropBlk H mid,iid+6+20*z.length⟩) (λz=>es.length - z.length) [] ⟨List.nodup_nil,λv hv=>Ωt⟩ (yr (xa5 _) (λt=>by
  by_cases e:t=77
  ·subst e;right;simp[Go.Sx.look]
  ·by_cases c:t∈vi
   ·left;simp[Go.Sx.look,qM,e,c]
   ·right
    rw[vi]at c;simp only[List.mem_cons,List.not_mem_nil,or_false,not_or]at c;simp[Go.Sx.look,qM,vi,c]) ?hA) λks hz=>?_
 case hA=>
  rw[WZ];(repeat' (refine SubHp.ent (by simp only[blk,qp,b3,NB,List.map_nil,xg1,if_false,if_true]) ?_));intro q v hv;rw[qu]at hv;by_cases c:q=mid
  ·rw[if_pos c]at hv;cases hv
  ·rw[if_neg c]at hv
   have hq:=hU q v hv;simp only[blk,qp];rw[if_neg Ω,if_neg c];exact hv
 obtain⟨z1,z2⟩:=hz;have hD:∀q v,blk (dropBlk H mid) q=some v→q<iid∧q≠mid:=λq v hv=>by
  rw[qu]at hv;by_cases c:q=mid
  ·rw[if_pos c]at hv;cases hv
  ·rw[if_neg c]at hv;exact⟨hU q v hv,c⟩
 have hc1:blk (dropBlk H mid) b=some (.cells 175 [.ptr d 0]):=by rw[qu,if_neg n1];exact b1
 have hc2:blk (dropBlk H mid) d=some (.cells 313 [a0,a1,a2,a3,a4,a5,a6,a7,a8,a9,a10,a11,a12,a13,a14,a15,a16,a17,a18,a19,a20,a21,.mp mid]):=by rw[qu,if_neg n2];exact b2
 have g1:Go.Sx.look (JW vi F) 1=.ptr b 0:=by rw[qM,if_neg Ωr];exact f1
 have g9:Go.Sx.look (JW vi F) 9=.val (.bool lay):=by rw[qM,if_neg Ωr];exact f9
 have hkl:=W4 (es:=es) z1 (λv hv=>by rw[←(hdg v).1];exact(z2 v hv).1);have NB1:=NB;clear NB;obtain⟨nn,hnn⟩:∃nn,nn=iid+6+20*ks.length:=⟨_,rfl⟩;rw[←hnn];have z3:iid<nn:=by omega
 have NB:=(⟨nmA (Ω:b<nn),nmA (Ω:d<nn),nmA (Ω:mid<nn),nmA z3,NB1⟩:_∧_∧_∧_∧_);repeat' first|refine sD ?_ ?_<;>intro _|refine aAh ?_|simp -dsimp only[↓RP,RQ,seval,hc1,hc2,g1,g9,↓RY,TYs,f1,f9,b1,b2,b3,NB,QR,QT,QN]
 all_goals try exact Ωa
 refine qcN (iid:=iid) (mid:=mid) (clk:=clk) (seen:=ks.map stamp) (fit:=qi true [.i .i64,.b]) (dom:=dAt dom get (jv lay) ks) (get:=get) (stamp:=stamp) Ωs Ωs Ωw Ωw (λk hk1 hk2 hk3=>?_) (λhall=>?_)
 ·obtain⟨r,bb,rfl⟩:=qmT hk1
  have hkd:=W2 hk2;have hkn:(.agg #[.int .i64 r,.bool bb]:Value)∉ks:=λhm=>hk3 (List.mem_map.2 ⟨_,hm,rfl⟩);have w1:=jc z1 hkn;have w2:∀v,v∈ks++[(.agg #[.int .i64 r,.bool bb]:Value)]→dom v=true∧eqK v v=true:=λv hv=>by
   rcases List.mem_append.1 hv with h|h
   ·exact z2 v h
   ·rw[List.mem_singleton.1 h];exact⟨hkd,by simp[eqK,jz,vW]⟩
  have w3:es.length -(ks++[(.agg #[.int .i64 r,.bool bb]:Value)]).length<es.length - ks.length:=by
   have:=W4 (es:=es) w1 (λv hv=>by rw[←(hdg v).1];exact(w2 v hv).1);rw[xc8,xd1]at this ⊢;omega
  repeat' first|refine sD ?_ ?_<;>intro _|refine aAh ?_|simp -dsimp only[↓RP,RQ,seval,hc1,hc2,g1,g9,↓RY,TYs,f1,f9,b1,b2,b3,NB,QR,QT,QN]
  all_goals try exact Ωa
  refine Q5 (s:=.agg [.val (.int .i64 r),.val (.bool bb)]) (iid:=iid) (mid:=mid) (clk:=clk) (seen:=ks.map stamp) (fit:=qi true [.i .i64,.b]) (dom:=dAt dom get (jv lay) ks) (get:=get) (stamp:=stamp) (k:=.agg #[.int .i64 r,.bool bb]) Ωs Ωs Ωw Ωw hk2 (vG [.int .i64 r,.bool bb]) ?_;have dbl:decide (bb=lay)=decide (bb=lay):=rfl;by_cases hbl:bb=lay
  ·conv at dbl=>rhs;rw[decide_eq_true hbl]
   have hkp:jv lay (.agg #[.int .i64 r,.bool bb]) (get (.agg #[.int .i64 r,.bool bb]))=true:=by
    subst hbl;simp[jv]
   repeat' first|refine sD ?_ ?_<;>intro _|refine aAh ?_|simp -dsimp only[↓RP,RQ,seval,hc1,hc2,g1,g9,dbl,↓RY,TYs,f1,f9,b1,b2,b3,NB,QR,QT,QN]
   all_goals try exact Ωa
   refine⟨ks++[.agg #[.int .i64 r,.bool bb]],⟨w1,w2⟩,w3,yr ?hn1 (λt=>by
    by_cases e:t=77
    ·subst e;right;simp[Go.Sx.look]
    ·by_cases c:t∈vi
     ·left;simp[Go.Sx.look,qM,e,c]
     ·right
      rw[vi]at c;simp only[List.mem_cons,List.not_mem_nil,or_false,not_or]at c;simp[Go.Sx.look,qM,vi,c]) ?hh1⟩
   case hn1=>rw[xc8,xd1];omega
   case hh1=>
    rw[List.map_append,List.map_cons,List.map_nil,W0 hkp]
    ((repeat' (refine SubHp.ent Ωn ?_)))
    intro q v hv;have hq:=hD q v hv;simp only[blk];rw[if_neg Ω,if_neg Ω,if_neg hq.2];exact hv
  ·conv at dbl=>rhs;rw[decide_eq_false hbl]
   have hkp:jv lay (.agg #[.int .i64 r,.bool bb]) (get (.agg #[.int .i64 r,.bool bb]))=false:=by
    simp[jv,hbl]
   repeat' first|refine sD ?_ ?_<;>intro _|refine aAh ?_|simp -dsimp only[↓RP,RQ,seval,hc1,hc2,g1,g9,dbl,↓RY,TYs,f1,f9,b1,b2,b3,NB,QR,QT,QN]
   all_goals try exact Ωa
   refine⟨ks++[.agg #[.int .i64 r,.bool bb]],⟨w1,w2⟩,w3,yr ?hn0 (λt=>by
    by_cases e:t=77
    ·subst e;right;simp[Go.Sx.look]
    ·by_cases c:t∈vi
     ·left;simp[Go.Sx.look,qM,e,c]
     ·right
      rw[vi]at c;simp only[List.mem_cons,List.not_mem_nil,or_false,not_or]at c;simp[Go.Sx.look,qM,vi,c]) ?hh0⟩
   case hn0=>rw[xc8,xd1];omega
   case hh0=>
    rw[List.map_append,List.map_cons,List.map_nil,qcO hkp]
    ((repeat' (refine SubHp.ent Ωn ?_)))
    intro q v hv;have hq:=hD q v hv;simp only[blk];rw[if_neg Ω,if_neg Ω,if_neg hq.2];exact hv
 ·have hend:=W3 (p:=jv lay) z2 hinj hall
  have hR:HRel LM hp1 ((mid,.map (qi true [.i .i64,.b]) (λv=>dom v&&jv lay v (get v)) get) :: dropBlk H mid):=by
   intro q x hx;rw[p1 q]at hx;by_cases c:q=mid
   ·rw[if_pos c]at hx
    cases hx;refine⟨.map (qi true [.i .i64,.b]) (λv=>dom v&&jv lay v (get v)) get,by simp only[blk];rw[if_pos c],rfl,λk=>?_⟩;have h1:=hdg k;rw[wA];cases e:kD es k with
    |none=>rw[e]at h1;exact⟨by show(dom k&&jv lay k (get k))=_;rw[h1.1];rfl,λs hs=>(by cases hs)⟩
    |some s=>
     rw[e]at h1;have h2:=h1.2 s rfl;show(dom k&&jv lay k (get k))=_∧_;rw[h1.1,h2];dsimp only[Option.bind_some,Option.isSome_some];cases jv lay k s with
     |true=>exact⟨rfl,λs' hs=>(by cases hs;rfl)⟩
     |false=>exact⟨rfl,λs' hs=>(by cases hs)⟩
   ·rw[if_neg c]at hx
    obtain⟨b',h1,h2⟩:=hH q x hx;exact⟨b',by simp only[blk];rw[if_neg c,qu,if_neg c];exact h1,h2⟩
  refine⟨⟨JW vi F,(mid,.map (qi true [.i .i64,.b]) (λv=>dom v&&jv lay v (get v)) get) :: dropBlk H mid,n+(20*es.length+98)⟩,Weak.trans (WE (mid:=mid) (fit:=qi true [.i .i64,.b]) (dom:=dAt dom get (jv lay) ks) (dom':=λv=>dom v&&jv lay v (get v)) (get:=get) (st:=stamp) (c:=clk) Ωw hend) (yr Ω (λt=>?_) ?_),Ωe,?_⟩
  ·by_cases c:t∈vi
   ·left;rw[qM,if_pos c]
   ·right
    have e:t≠77:=λe=>c (by rw[e];decide);simp[Go.Sx.look,e]
  ·simp only[setBlk,NB,if_false,if_true]
   (repeat' (refine SubHp.ent (by simp only[blk,NB,if_false,if_true]) ?_));intro q v hv;have hq:=hD q v hv;simp only[blk];rw[if_neg Ω,if_neg hq.2];exact hv
  repeat' first|refine sD ?_ ?_<;>intro _|refine aAh ?_|simp -dsimp only[↓RP,RQ,seval,↓RY,TYs,f1,f9,b1,b2,b3,NB,QR,QT,QN]
  all_goals try exact Ωa
  refine hk .normal fr' hp1 (nid+(20*es.length+100)) _ ⟨λt=>?_,hR,by dsimp only;rw[hn]⟩ h;dsimp only;rw[show qw fr' t=if t=79 then .val (.bool false)else qw fr1 t by
   unfold qw;rw[hfr' t];by_cases c:t=79
   ·rw[if_pos c,if_pos c]
   ·rw[if_neg c,if_neg c],show qw fr1 t=if t=78 then .tup [.val (.bool false)]else qw fr0 t by
   unfold qw;rw[hfr1 t];by_cases c:t=78
   ·rw[if_pos c,if_pos c]
   ·rw[if_neg c,if_neg c],hfr0,←hF t]
  simp only[Go.Sx.look,qM]
end Go.Tn
end
section
namespace Go.Tn
open Go.Proofs
open Go.Sx
variable{n:Nat}{v:Value}{dom:Value→Bool}
abbrev Lab:=Bool×Int×Bool
def aL:List ((Nat×Nat×Int)×Lab)→Nat→Nat→Int×Lab
 |[]=>λ_ _=>(NW,(false,0,false))
 |e :: l=>λx y=>if x=e.1.1∧y=e.1.2.1∧e.1.2.2<(aL l x y).1 then(e.1.2.2,e.2)else aL l x y
theorem W5{x y:Nat}:∀{l:List ((Nat×Nat×Int)×Lab)},(aL l x y).1=KD (l.map Prod.fst) x y
 |[]=>rfl
 |e :: l=>by
  simp only[aL,List.map_cons,KD,W5 (l:=l)];split<;>simp[W5]
def Ha.lb(h:Ha)(i:Nat)(b:Bool):Lab:=(decide (i<h.w),(if i<h.w then((i:Nat):Int)else((i - h.w:Nat):Int)),b)
def Ha.sl(h:Ha):Nat→List ((Nat×Nat×Int)×Lab)
 |0=>[]
 |i+1=>(h.bk i,h.lb i true) ::(h.fw i,h.lb i false) :: h.sl i
theorem Ha.sl_st(h:Ha):∀n,(h.sl n).map Prod.fst=h.st n
 |0=>rfl
 |n+1=>by simp[Ha.sl,Ha.st,Ha.sl_st h n]
def k2(x y:Nat):Value:=.agg #[.int .i64 (x:Nat),.int .i64 (y:Nat)]
def kf2:Value→Bool:=qi true [.i .i64,.i .i64]
def aS(e:Int×Lab):SV:=.agg [.val (.bool e.2.1),.val (.int .i64 e.2.2.1),.val (.bool e.2.2.2),.val (.int .i64 e.1)]
def of2{α:Type}(z:α)(f:Int→Int→α)(v:Value):α:=match v with
 |.agg a=>(match a.toList with
  |[.int .i64 p,.int .i64 q]=>f p q
  |_=>z)
 |_=>z
def gA(l:List ((Nat×Nat×Int)×Lab)):Value→SV:=of2 .top λp q=>aS (aL l p.toNat q.toNat)
def dF(n:Nat):Value→Bool:=of2 false λp q=>decide (0≤p∧p<n∧0≤q∧q<n)
def dA(n:Nat)(l:List ((Nat×Nat×Int)×Lab)):Value→Bool:=of2 false λp q=>decide (0≤p∧p<n∧0≤q∧q<n)&&decide ((aL l p.toNat q.toNat).1≠NW)
theorem dF_iff:dF n v=true↔∃x y,x<n∧y<n∧v=k2 x y:=by
 constructor
 ·intro h
  unfold dF of2 at h;split at h
  ·rename_i a
   split at h
   ·rename_i p q e
    obtain⟨h1,h2,h3,h4⟩:=of_decide_eq_true h;refine⟨p.toNat,q.toNat,Ω,Ω,?_⟩;unfold k2;rw[Int.toNat_of_nonneg h1,Int.toNat_of_nonneg h3];obtain⟨l⟩:=a;simp only at e;rw[e]
   ·cases h
  ·cases h
 ·rintro⟨x,y,hx,hy,rfl⟩
  exact decide_eq_true Ω
theorem qpd{x y x' y':Nat}(h:k2 x y=k2 x' y'):x=x'∧y=y':=by
 unfold k2 at h;injection h with h;have h1:=congrArg Array.toList h;simp at h1;omega
theorem eqK_k2{x y:Nat}:eqK (k2 x y) v=true↔v=k2 x y:=by
 constructor
 ·intro h;exact(zx h).symm
 ·rintro rfl;simp[eqK,k2,jz,vW]
def D1(n p q:Nat)(dom:Value→Bool)(get:Value→SV):Prop:=(∀v,dom v=true→∃x y,x<n∧y<n∧v=k2 x y)∧(∀x y,y<n→(x<p∨x=p∧y<q)→dom (k2 x y)=true)∧∀v,dom v=true→get v=aS (NW,(false,0,false))
theorem D1.put{p q:Nat}{get:Value→SV}(h:D1 n p q dom get)(hp:p<n)(hq:q<n):D1 n p (q+1) (qy dom (k2 p q)) (qz get (k2 p q) (aS (NW,(false,0,false)))):=by
 obtain⟨h1,h2,h3⟩:=h;refine⟨λv hv=>?_,λx y hy hxy=>?_,λv hv=>?_⟩
 ·unfold qy at hv
  cases e:eqK (k2 p q) v with
  |true=>exact⟨p,q,hp,hq,eqK_k2.1 e⟩
  |false=>rw[e]at hv;exact h1 v hv
 ·unfold qy
  cases e:eqK (k2 p q) (k2 x y)with
  |true=>rfl
  |false=>
   refine h2 x y hy ?_;by_cases c:x=p∧y=q
   ·obtain⟨rfl,rfl⟩:=c;rw[eqK_k2.2 rfl]at e;cases e
   ·omega
 ·unfold qz
  unfold qy at hv;cases e:eqK (k2 p q) v with
  |true=>rfl
  |false=>rw[e]at hv;exact h3 v hv
theorem D1.next{p:Nat}{get:Value→SV}(h:D1 n p n dom get):D1 n (p+1) 0 dom get:=⟨h.1,λx y hy hxy=>h.2.1 x y hy Ω,h.2.2⟩
theorem qkA{hp:List (Nat×Blk)}{id:Nat}{h:Ha}{t:TypeId}{X Y:SV}(hb:blk hp id=some (.cells t (shL h Y)))(hX:Go.Sx.Sub hp X Y):Go.Sx.Sub hp (shR h X) (.ptr id 0):=by
 unfold shR;simp only[Go.Sx.Sub,hb];intro j hj;rw[xb0];refine⟨?_,by simpa[shL]using hj⟩;rcases(Ω:j=0∨j=1∨j=2∨j=3)with rfl|rfl|rfl|rfl
 ·exact qq _ (by simp[Old,shL])
 ·exact qq _ (by simp[Old,shL])
 ·exact qq _ (kP h)
 ·exact hX
def D2(n:Nat)(l:List ((Nat×Nat×Int)×Lab))(dom:Value→Bool)(get:Value→SV):Prop:=(∀v,dom v=dF n v)∧∀x y,x<n→y<n→get (k2 x y)=aS (aL l x y)
variable{l:List ((Nat×Nat×Int)×Lab)}
theorem D2.skip{get:Value→SV}(h:D2 n l dom get){f t:Nat}{c:Int}{b:Lab}(hc:¬c<(aL l f t).1):D2 n (((f,t,c),b) :: l) dom get:=⟨h.1,λx y hx hy=>by
 rw[h.2 x y hx hy];simp only[aL];rw[if_neg];rintro⟨rfl,rfl,h3⟩;exact hc h3⟩
theorem D2.put{get:Value→SV}(h:D2 n l dom get){f t:Nat}{c:Int}{b:Lab}(hf:f<n)(ht:t<n)(hc:c<(aL l f t).1):D2 n (((f,t,c),b) :: l) (qy dom (k2 f t)) (qz get (k2 f t) (aS (c,b))):=by
 refine⟨λv=>?_,λx y hx hy=>?_⟩
 ·unfold qy
  rw[←h.1 v];cases e:eqK (k2 f t) v with
  |true=>rw[eqK_k2.1 e,h.1,dF_iff.2 ⟨f,t,hf,ht,rfl⟩];rfl
  |false=>rfl
 ·unfold qz
  simp only[aL];cases e:eqK (k2 f t) (k2 x y)with
  |true=>
   obtain⟨rfl,rfl⟩:=qpd (eqK_k2.1 e);rw[if_pos ⟨rfl,rfl,hc⟩];rfl
  |false=>
   rw[if_neg (by rintro⟨rfl,rfl,_⟩;rw[eqK_k2.2 rfl]at e;cases e)];exact h.2 x y hx hy
theorem qnS:qC Tryz.prog 336=some ⟨true,[.i .i64,.i .i64],.agg [.val (.bool false),.val (.int .i64 0),.val (.bool false),.val (.int .i64 0)]⟩:=by kernel_rfl
def vj(_:Value)(s:SV):Bool:=match s with
 |.agg [_,_,_,.val (.int .i64 c)]=>decide (c≠NW)
 |_=>true
theorem qcP(e:Int×Lab):Old (aS e):=by simp[aS,Old,OldL]
theorem qeV:dA n l v=(dF n v&&of2 false (λp q=>decide ((aL l p.toNat q.toNat).1≠NW)) v):=by
 unfold dA dF of2;split
 ·split<;>rfl
 ·rfl
theorem qpe{get:Value→SV}(h:D2 n l dom get)(v:Value):dA n l v=(dom v&&vj v (get v)):=by
 rw[h.1 v];cases e:dF n v with
 |true=>
  obtain⟨x,y,hx,hy,rfl⟩:=dF_iff.1 e;rw[h.2 x y hx hy];show(decide _&&decide _)=(true&&decide _);rw[decide_eq_true (by omega:0≤(x:Int)∧(x:Int)<n∧0≤(y:Int)∧(y:Int)<n)];rfl
 |false=>rw[qeV,e];rfl
theorem qkB(hn:n≤11)(hd:∀v,dom v=dF n v){ks:List Value}(h1:ks.Nodup)(h2:∀v,v∈ks→dom v=true):ks.length≤121:=by
 have:=ZB (n:=121) (l:=ks.map (of2 0 λp q=>p.toNat*11+q.toNat)) (yN h1 λa b ha hb e=>by
  obtain⟨x,y,hx,hy,rfl⟩:=dF_iff.1 ((hd a).symm.trans (h2 a ha));obtain⟨x',y',hx',hy',rfl⟩:=dF_iff.1 ((hd b).symm.trans (h2 b hb));have e:x*11+y=x'*11+y':=e;obtain⟨rfl,rfl⟩:x=x'∧y=y':=by omega
  rfl) (λz hz=>by
  obtain⟨v,hv,rfl⟩:=List.mem_map.1 hz;obtain⟨x,y,hx,hy,rfl⟩:=dF_iff.1 ((hd v).symm.trans (h2 v hv));show x*11+y<121;omega)
 rwa [xe1]at this
def Ha.hl(h:Ha)(i:Nat):Nat→List ((Nat×Nat×Int)×Lab)
 |0=>h.sl i
 |1=>(h.fw i,h.lb i false) :: h.sl i
 |_=>h.sl (i+1)
theorem qsj(h:Ha)(o:h.Ok):qf Tryz.prog 232 [haS h] (.ref true 4 (λj=>(shL h (.cmp true kf2 (dA (h.w+1) (h.sl (h.w+h.k))) (gA (h.sl (h.w+h.k))))).getD j .top)):=by
 refine qg Tryz.func232 rfl Ωc follows Ωc _ _ (by rw[Tryz.ntmps232];simp) (by simp only[OldL,jg h,and_true]) ?_;have NB:True:=trivial;have hw:=o.w2
 conv=>arg 4;unfold haS
 repeat' first|refine sD ?_ ?_<;>intro _|refine aAh ?_|simp -dsimp only[↓RP,RQ,seval,TYc,NB,QR,QT,QN]
 all_goals try exact Ωa
 refine qo (λ(z:Nat×Nat×(Value→Bool)×(Value→SV))=>z.1≤h.w+1∧12≤z.2.1∧D1 (h.w+1) z.1 0 z.2.2.1 z.2.2.2) (λz=>⟨[(1,.ptr 0 0),(3,.ptr 6 0),(19,.val (.int .i64 ((h.w:Nat)+1))),(20,.val (.int .i64 (z.1:Nat)))],[(6,.cells 184 [.ptr 5 0]),(5,.cells 338 [.val (.int .i64 h.w),.val (.int .i64 h.m),ctR h,.mp 3]),(3,.map (qi true [.i .i64,.i .i64]) z.2.2.1 z.2.2.2),(0,.cells 97 [.val (.int .i64 h.w),.val (.int .i64 h.m),ctR h])],z.2.1⟩) (λz=>h.w+1 - z.1) (0,12,λ_=>false,λ_=>.top) ⟨xb6 _,xa5 _,⟨λv hv=>Ωt,λx y hy hxy=>Ω,λv hv=>Ωt⟩⟩ (weakSU (xa5 _) Ωd ?hA) λz hz=>?_
 case hA=>((repeat' (refine SubHp.ent ΩT ?_));exact λq v hv=>Ωt)
 obtain⟨p,n1,dom,get⟩:=z;obtain⟨hp,hn1,hD⟩:=hz;dsimp only at hp hn1 hD;dsimp only;clear NB;have NB:=(⟨nmA (Ω:0<n1),nmA (Ω:3<n1),nmA (Ω:5<n1),nmA (Ω:6<n1)⟩:_∧_∧_∧_);by_cases hpw:p<h.w+1
 ·have hlt:=decide_eq_true (Ω:((p:Nat):Int)<(h.w:Nat)+1)
  repeat' first|refine sD ?_ ?_<;>intro _|refine aAh ?_|simp -dsimp only[↓RP,RQ,seval,hlt,TYc,NB,QR,QT,QN]
  all_goals try exact Ωa
  refine qo (λ(z:Nat×Nat×(Value→Bool)×(Value→SV))=>z.1≤h.w+1∧12≤z.2.1∧D1 (h.w+1) p z.1 z.2.2.1 z.2.2.2) (λz=>⟨[(1,.ptr 0 0),(3,.ptr 6 0),(4,.val (.int .i64 (p:Nat))),(19,.val (.int .i64 ((h.w:Nat)+1))),(20,.val (.int .i64 (p:Nat))),(25,.val (.int .i64 ((h.w:Nat)+1))),(26,.val (.int .i64 (z.1:Nat)))],[(6,.cells 184 [.ptr 5 0]),(5,.cells 338 [.val (.int .i64 h.w),.val (.int .i64 h.m),ctR h,.mp 3]),(3,.map (qi true [.i .i64,.i .i64]) z.2.2.1 z.2.2.2),(0,.cells 97 [.val (.int .i64 h.w),.val (.int .i64 h.m),ctR h])],z.2.1⟩) (λz=>h.w+1 - z.1) (0,_,dom,get) ⟨xb6 _,?hB,hD⟩ (weakSU (xa5 _) Ωd ?hC) λz hz=>?_
  case hC=>((repeat' (refine SubHp.ent ΩT ?_));exact λq v hv=>Ωt)
  case hB=>dsimp only;omega
  obtain⟨q,n2,dom2,get2⟩:=z;obtain⟨hq,hn2,hD2⟩:=hz;dsimp only at hq hn2 hD2;dsimp only;clear NB;have NB:=(⟨nmA (Ω:0<n2),nmA (Ω:3<n2),nmA (Ω:5<n2),nmA (Ω:6<n2)⟩:_∧_∧_∧_);by_cases hqw:q<h.w+1
  ·have hlt2:=decide_eq_true (Ω:((q:Nat):Int)<(h.w:Nat)+1)
   repeat' first|refine sD ?_ ?_<;>intro _|refine aAh ?_|simp -dsimp only[↓RP,RQ,seval,hlt2,TYc,NB,QR,QT,QN]
   all_goals try exact Ωa
   refine⟨(q+1,n2+14,qy dom2 (k2 p q),qz get2 (k2 p q) (aS (NW,(false,0,false)))),⟨Ωe,Ωe,hD2.put hpw hqw⟩,Ωe,weakSU (xa5 _) Ωd ?hD⟩
   case hD=>((repeat' (refine SubHp.ent Ωs ?_));exact λq v hv=>Ωt)
  ·obtain rfl:q=h.w+1:=by omega
   have hlt2:=decide_eq_false (Ω:¬((h.w+1:Nat):Int)<(h.w:Nat)+1);repeat' first|refine sD ?_ ?_<;>intro _|refine aAh ?_|simp -dsimp only[↓RP,RQ,seval,hlt2,TYc,NB,QR,QT,QN]
   all_goals try exact Ωa
   refine⟨(p+1,n2+3,dom2,get2),⟨Ωe,Ωe,hD2.next⟩,Ωe,weakSU (xa5 _) Ωd ?hE⟩
   case hE=>((repeat' (refine SubHp.ent Ωs ?_));exact λq v hv=>Ωt)
 ·have hlt:=decide_eq_false (Ω:¬((p:Nat):Int)<(h.w:Nat)+1)
  obtain rfl:p=h.w+1:=by omega
  repeat' first|refine sD ?_ ?_<;>intro _|refine aAh ?_|simp -dsimp only[↓RP,RQ,seval,hlt,TYc,NB,QR,QT,QN]
  all_goals try exact Ωa
  refine qpK follows Ωs Tryz.func328 rfl Ωc Ωc (by rw[Tryz.ntmps328];simp) λout=>?_;repeat' first|refine sD ?_ ?_<;>intro _|refine aAh ?_|simp -dsimp only[↓RP,RQ,seval,TYc,NB,QR,QT,QN]
  all_goals try exact Ωa
  obtain⟨cid,hcid⟩:∃c,c=n1+2:=⟨_,rfl⟩;obtain⟨lid,hlid⟩:∃c,c=n1+8:=⟨_,rfl⟩;refine qof follows (gf:=372) Ωs Tryz.func372 rfl Ωc Ωc Ωs (by rw[Tryz.ntmps372];simp) λout2 L R=>?_;have hk:=o.k;repeat' first|refine sD ?_ ?_<;>intro _|refine aAh ?_|simp -dsimp only[↓RP,RQ,seval,ctR,TYc,NB,QR,QT,QN]
  all_goals try exact Ωa
  refine qo (λ(z:Nat×Nat×(Value→Bool)×(Value→SV))=>z.1≤h.w+h.k∧lid<z.2.1∧D2 (h.w+1) (h.sl z.1) z.2.2.1 z.2.2.2) (λz=>⟨[(0,.yld lid),(1,.ptr cid 0),(19,.val (.int .i64 ((h.w:Nat)+(h.k:Nat)))),(20,.val (.int .i64 (z.1:Nat)))],[(lid,.loop L .ready),(cid,.cells 184 [.ptr 5 0]),(6,.cells 184 [.ptr 5 0]),(5,.cells 338 (shL h (.mp 3))),(3,.map (qi true [.i .i64,.i .i64]) z.2.2.1 z.2.2.2),(0,.cells 97 [.val (.int .i64 h.w),.val (.int .i64 h.m),ctR h])],z.2.1⟩) (λz=>h.w+h.k - z.1) (0,_,dom,get) ⟨xb6 _,?hF,?hG⟩ (weakSU (xa5 _) (by simp[zk,Go.Sx.look,hlid,hcid]) ?hH) λz hz=>?_
  case hF=>dsimp only;omega
  case hG=>
   refine⟨λv=>?_,λx y hx hy=>?_⟩
   ·dsimp only
    rw[Bool.eq_iff_iff,dF_iff];constructor
    ·intro hv;exact hD.1 v hv
    ·rintro⟨x,y,hx,hy,rfl⟩;exact hD.2.1 x y hy (.inl hx)
   ·exact hD.2.2 _ (hD.2.1 x y hy (.inl hx))
  case hH=>rw[hlid,hcid];((repeat' (refine SubHp.ent (by simp[blk,shL,ctR,NB]) ?_));exact λq v hv=>Ωt)
  obtain⟨i,n2,dom2,get2⟩:=z;obtain⟨hi,hn2,hD2⟩:=hz;dsimp only at hi hn2 hD2;dsimp only;have NB1:=(⟨nmE (Ω:cid≠0),nmE (Ω:cid≠3),nmE (Ω:cid≠5),nmE (Ω:cid≠6),nmE (Ω:lid≠0),nmE (Ω:lid≠3),nmE (Ω:lid≠5),nmE (Ω:lid≠6),nmE (Ω:lid≠cid)⟩:_∧_∧_∧_∧_∧_∧_∧_∧_);clear NB;have NB:=(⟨NB1,nmA (Ω:0<n2),nmA (Ω:3<n2),nmA (Ω:5<n2),nmA (Ω:6<n2),nmA (Ω:cid<n2),nmA hn2⟩:_∧_∧_∧_∧_∧_∧_);by_cases hil:i<h.w+h.k
  ·have hlt2:=decide_eq_true (Ω:((i:Nat):Int)<(h.w:Nat)+(h.k:Nat))
   obtain⟨wn,hwn⟩:∃wn,wn=decide (i<h.w):=⟨_,rfl⟩;obtain⟨ix,hix⟩:∃ix:Int,ix=if i<h.w then((i:Nat):Int)else((i - h.w:Nat):Int):=⟨_,rfl⟩
   have hcx:∀b,qf Tryz.prog 329 [shR h .top,.agg [.val (.bool wn),.val (.int .i64 ix),.val (.bool b)]] (.tup [I (if b then h.bk i else h.fw i).1,I (if b then h.bk i else h.fw i).2.1,I (if b then h.bk i else h.fw i).2.2]):=λb=>by
    by_cases c:i<h.w
    ·have:=qqB h (X:=.top) Ωu i c hw b
     rw[hwn,hix,if_pos c,decide_eq_true c];exact this
    ·have:=qqC h o (X:=.top) Ωu (i - h.w) Ω b
     rw[show h.w+(i - h.w)=i by omega]at this;rw[hwn,hix,if_neg c,decide_eq_false c];exact this
   have hd1:decide (((i:Nat):Int)<(h.w:Nat))=wn:=by rw[hwn];exact decide_eq_decide.2 Ω
   apply qfT (P:=Tryz.prog) (O:=⟨out2,n1+9,false,zz⟩) (λ(x:Nat)=>n2+12<x) (λx=>⟨[(0,.yld lid),(1,.ptr cid 0),(4,.ptr (n2+12) 0),(19,.val (.int .i64 ((h.w:Nat)+(h.k:Nat)))),(20,.val (.int .i64 (i:Nat))),(44,.val (.int .i64 0))],[(n2+12,.cells 193 [.val (.bool wn),.val (.int .i64 ix),.val (.bool false)]),(lid,.loop L .ready),(cid,.cells 184 [.ptr 5 0]),(6,.cells 184 [.ptr 5 0]),(5,.cells 338 (shL h (.mp 3))),(3,.map (qi true [.i .i64,.i .i64]) dom2 get2),(0,.cells 97 [.val (.int .i64 h.w),.val (.int .i64 h.m),ctR h])],x⟩)
   case main=>
    intro key;repeat' first|refine sD ?_ ?_<;>intro _|refine aAh ?_|simp -dsimp only[↓RP,RQ,seval,hlt2,hd1,shL,TYc,NB,QR,QT,QN]
    all_goals try exact Ωa
    ·have e:ix=(i:Nat):=by
      have hf:wn=true:=‹wn=true›;rw[hwn,decide_eq_true_eq]at hf;rw[hix,if_pos hf]
     refine(key (n2+18) Ω).weak (weakSU (xa5 _) Ωd ?hJ)
     case hJ=>rw[e];((repeat' (refine SubHp.ent (by simp[blk,shL,NB]) ?_));exact λq v hv=>Ωt)
    ·have e:ix=(i:Nat) -(h.w:Nat):=by
      have hf:wn=false:=‹wn=false›;rw[hwn,decide_eq_false_iff_not]at hf;rw[hix,if_neg hf];omega
     refine(key (n2+28) Ω).weak (weakSU (xa5 _) Ωd ?hI)
     case hI=>rw[e];((repeat' (refine SubHp.ent (by simp[blk,shL,NB]) ?_));exact λq v hv=>Ωt)
   case key=>
    intro n3 hn3;obtain⟨xid,hxid⟩:∃c,c=n2+12:=⟨_,rfl⟩;rw[←hxid]at hn3 ⊢;refine qo (λ(z:Nat×Nat×(Value→Bool)×(Value→SV))=>z.1≤2∧xid<z.2.1∧D2 (h.w+1) (h.hl i z.1) z.2.2.1 z.2.2.2) (λz=>⟨[(0,.yld lid),(1,.ptr cid 0),(4,.ptr xid 0),(19,.val (.int .i64 ((h.w:Nat)+(h.k:Nat)))),(20,.val (.int .i64 (i:Nat))),(44,.val (.int .i64 (z.1:Nat)))],[(xid,.cells 193 [.val (.bool wn),.val (.int .i64 ix),.val (.bool (decide (1≤z.1)))]),(lid,.loop L .ready),(cid,.cells 184 [.ptr 5 0]),(6,.cells 184 [.ptr 5 0]),(5,.cells 338 (shL h (.mp 3))),(3,.map (qi true [.i .i64,.i .i64]) z.2.2.1 z.2.2.2),(0,.cells 97 [.val (.int .i64 h.w),.val (.int .i64 h.m),ctR h])],z.2.1⟩) (λz=>2 - z.1) (0,_,dom2,get2) ⟨xb6 _,hn3,hD2⟩ (weakSU (xa5 _) Ωd ?hK) λz hz=>?_
    case hK=>exact λq v hv=>hv
    obtain⟨j,n4,dom3,get3⟩:=z;obtain⟨hj,hn4,hD3⟩:=hz;dsimp only at hj hn4 hD3;dsimp only;have NBx:=(⟨nmE (Ω:xid≠0),nmE (Ω:xid≠3),nmE (Ω:xid≠5),nmE (Ω:xid≠6),nmE (Ω:xid≠cid),nmE (Ω:xid≠lid)⟩:_∧_∧_∧_∧_∧_);clear NB;have NB:=(⟨NB1,NBx,nmA (Ω:0<n4),nmA (Ω:3<n4),nmA (Ω:5<n4),nmA (Ω:6<n4),nmA (Ω:cid<n4),nmA (Ω:lid<n4),nmA hn4⟩:_∧_∧_∧_∧_∧_∧_∧_∧_);by_cases hj2:j<2
    ·have hlt3:=decide_eq_true (Ω:((j:Nat):Int)<2)
     obtain⟨b,hb⟩:∃b,b=decide (1≤j):=⟨_,rfl⟩;rw[←hb];have hc:=hcx b;obtain⟨e,he⟩:∃e,e=if b then h.bk i else h.fw i:=⟨_,rfl⟩
     rw[←he]at hc;obtain⟨f,t,c⟩:=e;dsimp only at hc;have hst:(f,t,c)∈h.st (h.w+h.k):=h.st_mem.2 ⟨i,hil,by rw[he];cases b<;>simp⟩;obtain⟨hf,ht,hc1,hc2⟩:=o.step (xa5 _) hst;have hdk:dom3 (.agg #[.int .i64 (f:Nat),.int .i64 (t:Nat)])=true:=by rw[hD3.1];exact dF_iff.2 ⟨f,t,Ω,Ω,rfl⟩
     have hgk:get3 (.agg #[.int .i64 (f:Nat),.int .i64 (t:Nat)])=aS (aL (h.hl i j) f t):=hD3.2 f t Ω Ω;have hnx:∀(l:List ((Nat×Nat×Int)×Lab)),l=((f,t,c),(wn,ix,b)) :: h.hl i j→l=h.hl i (j+1):=λl hl=>by
      rw[hl,he,hwn,hix,hb];rcases(Ω:j=0∨j=1)with rfl|rfl<;>rfl
     repeat' first|refine sD ?_ ?_<;>intro _|refine aAh ?_|simp -dsimp only[↓RP,RQ,seval,hlt3,shL,TYc,NB,QR,QT,QN]
     all_goals try exact Ωa
     refine qk hc (by simp only[SubL,and_true];exact⟨qkA (t:=338) (Y:=.mp 3) (by simp[blk,shL,NB]) (by simp[Go.Sx.Sub]),by simp[Go.Sx.Sub,SubL]⟩) ΩC ?_;repeat' first|refine sD ?_ ?_<;>intro _|refine aAh ?_|simp -dsimp only[↓RP,RQ,seval,QT,shL,TYc,NB,QR,QN]
     all_goals try exact Ωa
     refine qoe follows Ωs R Ωw Ωs λout3=>?_;repeat' first|refine sD ?_ ?_<;>intro _|refine aAh ?_|simp -dsimp only[↓RP,RQ,seval,QT,shL,TYc,NB,QR,QN]
     all_goals try exact Ωa
     obtain⟨A,hA⟩:∃A,A=aL (h.hl i j) f t:=⟨_,rfl⟩;rw[←hA]at hgk;unfold aS at hgk;refine qk hc (by simp only[SubL,and_true];exact⟨qkA (t:=338) (Y:=.mp 3) (by simp[blk,shL,NB]) (by simp[Go.Sx.Sub]),by simp[Go.Sx.Sub,SubL]⟩) ΩC ?_;by_cases hcA:c<A.1
     ·have d1:=decide_eq_true hcA
      repeat' first|refine sD ?_ ?_<;>intro _|refine aAh ?_|simp -dsimp only[↓RP,RQ,seval,QT,shL,hdk,hgk,d1,TYc,NB,QR,QN]
      all_goals try exact Ωa
      refine⟨(j+1,_,qy dom3 (k2 f t),qz get3 (k2 f t) (aS (c,(wn,ix,b)))),⟨hj2,?a1,(hnx _ rfl)▸hD3.put Ω Ω (by rw[←hA];exact hcA)⟩,Ωe,weakSU (xa5 _) Ωd ?a2⟩
      case a1=>dsimp only;omega
      case a2=>rw[show decide (1≤j+1)=true from decide_eq_true Ω];((repeat' (refine SubHp.ent Ωq ?_));exact λq v hv=>Ωt)
     ·have d1:=decide_eq_false hcA
      repeat' first|refine sD ?_ ?_<;>intro _|refine aAh ?_|simp -dsimp only[↓RP,RQ,seval,QT,shL,hdk,hgk,d1,TYc,NB,QR,QN]
      all_goals try exact Ωa
      refine⟨(j+1,_,dom3,get3),⟨hj2,?b1,(hnx _ rfl)▸hD3.skip (by rw[←hA];exact hcA)⟩,Ωe,weakSU (xa5 _) Ωd ?b2⟩
      case b1=>dsimp only;omega
      case b2=>rw[show decide (1≤j+1)=true from decide_eq_true Ω];((repeat' (refine SubHp.ent Ωq ?_));exact λq v hv=>Ωt)
    ·obtain rfl:j=2:=by omega
     have hlt3:=decide_eq_false (Ω:¬((2:Nat):Int)<2);repeat' first|refine sD ?_ ?_<;>intro _|refine aAh ?_|simp -dsimp only[↓RP,RQ,seval,hlt3,shL,TYc,NB,QR,QT,QN]
     all_goals try exact Ωa
     refine⟨(i+1,_,dom3,get3),⟨hil,?e1,hD3⟩,Ωe,weakSU (xa5 _) Ωd ?e2⟩
     case e1=>dsimp only;omega
     case e2=>((repeat' (refine SubHp.ent Ωq ?_));exact λq v hv=>Ωt)
  ·obtain rfl:i=h.w+h.k:=by omega
   have hlt2:=decide_eq_false (Ω:¬((h.w+h.k:Nat):Int)<(h.w:Nat)+(h.k:Nat));repeat' first|refine sD ?_ ?_<;>intro _|refine aAh ?_|simp -dsimp only[↓RP,RQ,seval,hlt2,shL,TYc,NB,QR,QT,QN]
   all_goals try exact Ωa
   rw[←hlid];repeat' first|refine sD ?_ ?_<;>intro _|refine aAh ?_|simp -dsimp only[↓RP,RQ,seval,shL,TYc,NB,QR,QT,QN]
   all_goals try exact Ωa
   obtain⟨iid,hiid⟩:∃iid,iid=n2+5:=⟨_,rfl⟩;rw[←hiid];refine qdi (mid:=3) (fit:=qi true [.i .i64,.i .i64]) (dom:=dom2) (get:=get2) Ωs Ωs qnS Ωw λstamp clk hst hinj=>?_;clear NB;have NB:=(⟨NB1,nmA (Ω:0<iid),nmA (Ω:3<iid),nmA (Ω:5<iid),nmA (Ω:6<iid),nmA (Ω:cid<iid)⟩:_∧_∧_∧_∧_∧_);repeat' first|refine sD ?_ ?_<;>intro _|refine aAh ?_|simp -dsimp only[↓RP,RQ,seval,shL,TYc,NB,QR,QT,QN]
   all_goals try exact Ωa
   refine qo (λ(z:List Value×Nat)=>z.1.Nodup∧(∀v,v∈z.1→dom2 v=true∧eqK v v=true)∧iid<z.2) (λz=>⟨[(1,.ptr 0 0),(3,.ptr 6 0),(78,.ptr iid 0)],[(iid,.iter 3 clk (z.1.map stamp) clk),(6,.cells 184 [.ptr 5 0]),(5,.cells 338 (shL h (.mp 3))),(3,.mapS (qi true [.i .i64,.i .i64]) (dAt dom2 get2 vj z.1) get2 stamp clk)],z.2⟩) (λz=>121 - z.1.length) ([],_) ⟨List.nodup_nil,λv hv=>Ωt,?k1⟩ (weakSU (xa5 _) Ωd ?k2) λz hz=>?_
   case k1=>dsimp only;omega
   case k2=>dsimp only;rw[WZ];((repeat' (refine SubHp.ent Ωq ?_));exact λq v hv=>Ωt)
   obtain⟨ks,n3⟩:=z;obtain⟨z1,z2,hn3⟩:=hz;dsimp only at z1 z2 hn3;dsimp only;clear NB;have NB:=(⟨nmE (Ω:iid≠0),nmE (Ω:iid≠3),nmE (Ω:iid≠5),nmE (Ω:iid≠6),nmA (Ω:0<n3),nmA (Ω:3<n3),nmA (Ω:5<n3),nmA (Ω:6<n3),nmA hn3⟩:_∧_∧_∧_∧_∧_∧_∧_∧_);repeat' first|refine sD ?_ ?_<;>intro _|refine aAh ?_|simp -dsimp only[↓RP,RQ,seval,shL,TYc,NB,QR,QT,QN]
   all_goals try exact Ωa
   refine qcN (iid:=iid) (mid:=3) (clk:=clk) (seen:=ks.map stamp) (fit:=qi true [.i .i64,.i .i64]) (dom:=dAt dom2 get2 vj ks) (get:=get2) (stamp:=stamp) Ωs Ωs Ωw Ωw (λk hk1 hk2 hk3=>?_) (λhall=>?_)
   ·have hkd:=W2 hk2
    obtain⟨x,y,hx,hy,rfl⟩:=dF_iff.1 ((hD2.1 k).symm.trans hkd);have hkn:k2 x y∉ks:=λhm=>hk3 (List.mem_map.2 ⟨_,hm,rfl⟩);have w1:=jc z1 hkn;have w2:∀v,v∈ks++[k2 x y]→dom2 v=true∧eqK v v=true:=λv hv=>by
     rcases List.mem_append.1 hv with h|h
     ·exact z2 v h
     ·rw[List.mem_singleton.1 h];exact⟨hkd,eqK_k2.2 rfl⟩
    have w3:121 -(ks++[k2 x y]).length<121 - ks.length:=by
     have:=qkB Ω hD2.1 w1 (λv hv=>(w2 v hv).1);rw[xc8,xd1]at this ⊢;omega
    have hgk:=hD2.2 x y hx hy;obtain⟨A,hA⟩:∃A,A=aL (h.sl (h.w+h.k)) x y:=⟨_,rfl⟩;rw[←hA]at hgk;have hgk2:=hgk;unfold aS k2 at hgk;unfold k2;repeat' first|refine sD ?_ ?_<;>intro _|refine aAh ?_|simp -dsimp only[↓RP,RQ,seval,hgk,shL,TYc,NB,QR,QT,QN]
    all_goals try exact Ωa
    refine Q5 (s:=.agg [.val (.int .i64 (x:Nat)),.val (.int .i64 (y:Nat))]) (iid:=iid) (mid:=3) (clk:=clk) (seen:=ks.map stamp) (fit:=qi true [.i .i64,.i .i64]) (dom:=dAt dom2 get2 vj ks) (get:=get2) (stamp:=stamp) (k:=.agg #[.int .i64 (x:Nat),.int .i64 (y:Nat)]) Ωs Ωs Ωw Ωw hk2 (vG [.int .i64 (x:Nat),.int .i64 (y:Nat)]) ?_;by_cases hc:A.1=1099511627776
    ·have d1:=decide_eq_true hc
     have hkp:vj (k2 x y) (get2 (k2 x y))=false:=by rw[hgk2];exact decide_eq_false (λe=>e hc)
     repeat' first|refine sD ?_ ?_<;>intro _|refine aAh ?_|simp -dsimp only[↓RP,RQ,seval,hgk,d1,shL,TYc,NB,QR,QT,QN]
     all_goals try exact Ωa
     refine⟨(ks++[k2 x y],_),⟨w1,w2,?m1⟩,w3,weakSU (xa5 _) Ωd ?m2⟩
     case m1=>dsimp only;omega
     case m2=>
      dsimp only;rw[List.map_append,List.map_cons,List.map_nil,qcO hkp]
      ((repeat' (refine SubHp.ent Ωq ?_));exact λq v hv=>Ωt)
    ·have d1:=decide_eq_false hc
     have hkp:vj (k2 x y) (get2 (k2 x y))=true:=by rw[hgk2];exact decide_eq_true hc
     repeat' first|refine sD ?_ ?_<;>intro _|refine aAh ?_|simp -dsimp only[↓RP,RQ,seval,hgk,d1,shL,TYc,NB,QR,QT,QN]
     all_goals try exact Ωa
     refine⟨(ks++[k2 x y],_),⟨w1,w2,?o1⟩,w3,weakSU (xa5 _) Ωd ?o2⟩
     case o1=>dsimp only;omega
     case o2=>
      dsimp only;rw[List.map_append,List.map_cons,List.map_nil,W0 hkp]
      ((repeat' (refine SubHp.ent Ωq ?_));exact λq v hv=>Ωt)
   ·have hend:=W3 (p:=vj) z2 hinj hall
    refine⟨⟨[(1,.ptr 0 0),(3,.ptr 6 0),(78,.ptr iid 0)],[(6,.cells 184 [.ptr 5 0]),(5,.cells 338 (shL h (.mp 3))),(3,.map (qi true [.i .i64,.i .i64]) (dA (h.w+1) (h.sl (h.w+h.k))) get2)],n3⟩,Weak.trans (WE (mid:=3) (fit:=qi true [.i .i64,.i .i64]) (dom:=dAt dom2 get2 vj ks) (dom':=dA (h.w+1) (h.sl (h.w+h.k))) (get:=get2) (st:=stamp) (c:=clk) Ωw (λv=>(qpe hD2 v).trans (hend v))) (weakSU (xa5 _) Ωd ?p1),?p2,?_⟩
    case p1=>((repeat' (refine SubHp.ent (by simp only[blk,setBlk,NB,jJ,jK,xa2,shL,if_false,if_true];try rfl) ?_));exact λq v hv=>Ωt)
    case p2=>dsimp only;omega
    repeat' first|refine sD ?_ ?_<;>intro _|refine aAh ?_|simp -dsimp only[↓RP,RQ,seval,shL,TYc,NB,QR,QT,QN]
    all_goals try exact Ωa
    intro j hj;refine⟨?_,hj⟩;rcases(Ω:j=0∨j=1∨j=2∨j=3)with rfl|rfl|rfl|rfl
    ·exact qq _ Ωu
    ·exact qq _ Ωu
    ·exact qq _ (kP h)
    ·refine⟨rfl,rfl,λkey hk=>?_⟩
     obtain⟨x,y,hx,hy,rfl⟩:=dF_iff.1 (by
      rw[qeV,xe6]at hk;exact hk.1)
     rw[hD2.2 x y hx hy];exact qq _ (qcP _)
end Go.Tn
end
section
namespace Go.Tn
open Go.Proofs
open Go.Sx
variable{S:Nat→Int}{X:List SV}{p:Nat}
theorem TYd:True∧qn Tryz.prog 191=some ⟨true,11,some [.int .i64 0,.int .i64 0,.int .i64 0,.int .i64 0,.int .i64 0,.int .i64 0,.int .i64 0,.int .i64 0,.int .i64 0,.int .i64 0,.int .i64 0],.array 11 2 1⟩∧qr Tryz.prog 191=some [(0,1),(1,1),(2,1),(3,1),(4,1),(5,1),(6,1),(7,1),(8,1),(9,1),(10,1)]∧qY Tryz.prog 191=some [.i .i64,.i .i64,.i .i64,.i .i64,.i .i64,.i .i64,.i .i64,.i .i64,.i .i64,.i .i64,.i .i64]∧qn Tryz.prog 194=some ⟨true,33,some [.bool false,.int .i64 0,.bool false,.bool false,.int .i64 0,.bool false,.bool false,.int .i64 0,.bool false,.bool false,.int .i64 0,.bool false,.bool false,.int .i64 0,.bool false,.bool false,.int .i64 0,.bool false,.bool false,.int .i64 0,.bool false,.bool false,.int .i64 0,.bool false,.bool false,.int .i64 0,.bool false,.bool false,.int .i64 0,.bool false,.bool false,.int .i64 0,.bool false],.array 11 193 3⟩∧qr Tryz.prog 194=some [(0,3),(3,3),(6,3),(9,3),(12,3),(15,3),(18,3),(21,3),(24,3),(27,3),(30,3)]∧qY Tryz.prog 194=some [.b,.i .i64,.b,.b,.i .i64,.b,.b,.i .i64,.b,.b,.i .i64,.b,.b,.i .i64,.b,.b,.i .i64,.b,.b,.i .i64,.b,.b,.i .i64,.b,.b,.i .i64,.b,.b,.i .i64,.b,.b,.i .i64,.b]∧qn Tryz.prog 196=some ⟨true,56,some [.int .i64 0,.int .i64 0,.int .i64 0,.int .i64 0,.int .i64 0,.int .i64 0,.int .i64 0,.int .i64 0,.int .i64 0,.int .i64 0,.int .i64 0,.int .i64 0,.int .i64 0,.int .i64 0,.int .i64 0,.int .i64 0,.int .i64 0,.int .i64 0,.int .i64 0,.int .i64 0,.int .i64 0,.int .i64 0,.bool false,.int .i64 0,.bool false,.bool false,.int .i64 0,.bool false,.bool false,.int .i64 0,.bool false,.bool false,.int .i64 0,.bool false,.bool false,.int .i64 0,.bool false,.bool false,.int .i64 0,.bool false,.bool false,.int .i64 0,.bool false,.bool false,.int .i64 0,.bool false,.bool false,.int .i64 0,.bool false,.bool false,.int .i64 0,.bool false,.bool false,.int .i64 0,.bool false,.int .i64 0],.struct [(0,11,some true),(11,11,some true),(22,33,some true),(55,1,some false)]⟩∧qr Tryz.prog 196=some [(0,11),(11,11),(22,33),(55,1)]∧qY Tryz.prog 196=some [.i .i64,.i .i64,.i .i64,.i .i64,.i .i64,.i .i64,.i .i64,.i .i64,.i .i64,.i .i64,.i .i64,.i .i64,.i .i64,.i .i64,.i .i64,.i .i64,.i .i64,.i .i64,.i .i64,.i .i64,.i .i64,.i .i64,.b,.i .i64,.b,.b,.i .i64,.b,.b,.i .i64,.b,.b,.i .i64,.b,.b,.i .i64,.b,.b,.i .i64,.b,.b,.i .i64,.b,.b,.i .i64,.b,.b,.i .i64,.b,.b,.i .i64,.b,.b,.i .i64,.b,.i .i64]:=⟨trivial,Ωc,Ωc,Ωc,Ωc,Ωc,Ωc,Ωc,Ωc,Ωc⟩
def wc(S:Nat→Int)(X:List SV):List SV:=(List.range 11).map (λi=>SV.val (.int .i64 (S i)))++X
theorem yt:(wc S X).length=11+X.length:=by simp[wc]
theorem qcQ(h:p<11):(wc S X)[p]? = some (.val (.int .i64 (S p))):=by
 unfold wc;rw[xc9 ΩN,List.getElem?_map,xe3 h];rfl
theorem qaV{T:Nat→Int}(h:∀i,i<11→S i=T i):wc S X=wc T X:=by
 unfold wc
 congr 1
 exact List.map_congr_left λi hi=>by rw[h i (List.mem_range.1 hi)]
theorem qcR{v:Int}(h:p<11):(wc S X).set p (.val (.int .i64 v))=wc (λi=>if i=p then v else S i) X:=by
 unfold wc;rw[List.set_append_left _ _ ΩN]
 congr 1
 refine List.ext_getElem? λi=>?_;rw[List.getElem?_set,List.getElem?_map,List.getElem?_map];by_cases c:i<11
 ·rw[xe3 c]
  by_cases e:p=i
  ·subst e;rw[if_pos rfl,if_pos ΩN];simp
  ·rw[if_neg e];simp[Ne.symm e]
 ·rw[List.getElem?_eq_none (by simpa using c),if_neg Ω];rfl
theorem qeW{v:SV}(h:11≤p):(wc S X).set p v=wc S (X.set (p - 11) v):=by
 unfold wc;rw[List.set_append_right _ _ ΩN];simp
theorem qpf{vs:List SV}(h:11≤p):(wc S X).take p++vs++(wc S X).drop (p+vs.length)=wc S (X.take (p - 11)++vs++X.drop (p - 11+vs.length)):=by
 unfold wc;rw[List.take_append,List.drop_append,List.take_of_length_le ΩN,List.drop_of_length_le Ωk];simp only[xe1,List.length_range,List.nil_append,List.append_assoc];rw[show p+vs.length - 11=p - 11+vs.length by omega]
def NWL:List SV:=(List.replicate 11 (SV.val (.int .i64 0)))++(List.replicate 11 [SV.val (.bool false),.val (.int .i64 0),.val (.bool false)]).flatten++[.val (.int .i64 0)]
def shC(h:Ha):SV:=.cmp false kf2 (dA (h.w+1) (h.sl (h.w+h.k))) (gA (h.sl (h.w+h.k)))
theorem qmV(h:Ha):Old (shC h):=by
 refine⟨rfl,λkey hk=>?_⟩;obtain⟨x,y,hx,hy,rfl⟩:=dF_iff.1 (by rw[qeV,xe6]at hk;exact hk.1);exact qcP _
def w11(S:Nat→Int):List SV:=(List.range 11).map λi=>SV.val (.int .i64 (S i))
theorem qeX:(w11 S).length=11:=by simp[w11]
theorem qkC:(w11 S).take 11=w11 S:=by rw[List.take_of_length_le (by rw[qeX];omega)]
theorem qeY:(wc S X).take 11=w11 S:=by
 unfold wc w11;rw[List.take_left' Ωg]
theorem qmW:allOne (w11 S)=true:=rfl
theorem w11_eq{T:Nat→Int}:eqSVs (w11 S) (w11 T)=true↔∀i,i<11→S i=T i:=by
 have:∀l:List Nat,eqSVs (l.map λi=>SV.val (.int .i64 (S i))) (l.map λi=>SV.val (.int .i64 (T i)))=true↔∀i,i∈l→S i=T i:=λl=>by
  induction l with
  |nil=>simp[eqSVs]
  |cons x l ih=>simp only[List.map_cons,eqSVs,xe6,ih,List.mem_cons,forall_eq_or_imp];simp[eqV]
 rw[w11,w11,this];simp
theorem qpg{C:Nat→Nat→Int}{n a:Nat}(ha:a<n)(k x:Nat)(hx:n≤x):itR C n (S0 a) k x=NW:=by
 refine qcJ (Q:=λS=>S x=NW) (λS p q hp hq h=>?_) ?_ k
 ·unfold rlx;rw[if_neg Ω];exact h
 ·unfold S0;rw[if_neg Ω]
theorem qqE(h:Ha)(o:h.Ok)(a:Nat)(ha:a≤h.w)(res:SV)(hy:∀k,k<h.w+2→(∀x,x≤h.w→itR h.C (h.w+1) (S0 a) (k+1) x=itR h.C (h.w+1) (S0 a) k x)→∃D:Nat→Int,res=.tup [.ref true (h.w+1) (λi=>I (D i)),B true]∧∀x,x≤h.w→itR h.C (h.w+1) (S0 a) (k+1) x=D x)(hn:(∀k,k<h.w+2→¬∀x,x≤h.w→itR h.C (h.w+1) (S0 a) (k+1) x=itR h.C (h.w+1) (S0 a) k x)→res=.tup [.top,B false]):qf Tryz.prog 117 [shR h (shC h),I a] res:=by
 have hw:=o.w2;have hbd:=qkw o.cb (by omega:h.w+1≤11) a;obtain⟨T,hT⟩:∃T,T=itR h.C (h.w+1) (S0 a):=⟨_,rfl⟩;rw[←hT]at hy hn hbd;refine kM (j6 19 [(116,121),(116,124)]) Tryz.func117 rfl Ωc follows Ωc _ _ (by rw[Tryz.ntmps117];simp) (by simp only[OldL,WY h (qmV h),true_and];simp[Old,I]) ?_;have NB:True:=trivial;unfold I
 conv=>arg 4;unfold shR shL
 repeat' first|refine sD ?_ ?_<;>intro _|refine aAh ?_|simp -dsimp only[↓RP,RQ,seval,TYc,TYd,NB,QR,QT,QN]
 all_goals try exact Ωa
 obtain⟨R,hR⟩:∃R:SV,R=.ref false 4 (λj=>[SV.val (.int .i64 (h.w:Nat)),.val (.int .i64 h.m),ctR h,shC h].getD j SV.top):=⟨_,rfl⟩;rw[←hR];refine qo (λ(p:Nat)=>p≤11) (λp=>⟨[(0,R),(1,.val (.int .i64 (a:Nat))),(6,.ptr 3 0),(15,.val (.int .i64 (p:Nat)))],[(3,.cells 196 (wc (λi=>if i<p then NW else 0) NWL))],7+20*p⟩) (λp=>11 - p) 0 (xb6 _) (weakSU Ω Ωd (λq v hv=>hv)) λp hp=>?_;by_cases hp2:p<11
 ·have hlt:=decide_eq_true (Ω:((p:Nat):Int)<11)
  have hset:=qcR (S:=λi=>if i<p then NW else 0) (X:=NWL) (v:=1099511627776) hp2;clear NB;have NB:=(⟨nmA (Ω:3<7+20*p),yt⟩:_∧∀{S X},(wc S X).length=_);repeat' first|refine sD ?_ ?_<;>intro _|refine aAh ?_|simp -dsimp only[↓RP,RQ,seval,hlt,hset,TYc,TYd,NB,QR,QT,QN]
  all_goals try exact Ωa
  refine⟨p+1,hp2,Ω,weakSU Ω Ωd ?hA⟩
  case hA=>
   rw[qaV (S:=λi=>if i<p+1 then NW else 0) (T:=λi=>if i=p then 1099511627776 else if i<p then NW else 0) λi hi=>by
    by_cases c:i=p
    ·rw[if_pos Ω,if_pos c];rfl
    ·rw[if_neg c];by_cases d:i<p
     ·rw[if_pos Ω,if_pos d]
     ·rw[if_neg Ω,if_neg d]]
   exact λq v hv=>hv
 obtain rfl:p=11:=by omega
 have hlt:=decide_eq_false (Ω:¬((11:Nat):Int)<11);have hset:=qcR (S:=λi=>if i<11 then NW else 0) (X:=NWL) (p:=a) (v:=0) Ω;have hl:=yt (S:=λi=>if i<11 then NW else 0) (X:=NWL);repeat' first|refine sD ?_ ?_<;>intro _|refine aAh ?_|simp -dsimp only[↓RP,RQ,seval,hlt,hset,hR,TYc,TYd,NB,QR,QT,QN]
 all_goals try exact Ωa
 have hT0:wc (λi=>if i=a then 0 else if i<11 then NW else 0) NWL=wc (T 0) NWL:=qaV λi hi=>by
  rw[hT];show _=S0 a i;unfold S0;rw[if_pos hi]
 rw[hT0];refine qo (λ(z:Nat×List SV×Nat)=>z.1≤h.w+2∧z.2.1.length=45∧3<z.2.2∧∀k,k<z.1→¬∀x,x≤h.w→T (k+1) x=T k x) (λz=>⟨[(0,R),(1,.val (.int .i64 (a:Nat))),(6,.ptr 3 0),(34,.val (.int .i64 ((h.w:Nat)+2))),(35,.val (.int .i64 (z.1:Nat)))],[(3,.cells 196 (wc (T z.1) z.2.1))],z.2.2⟩) (λz=>h.w+2 - z.1) (0,NWL,_) ⟨xb6 _,rfl,?hB,λk hk=>absurd hk (Nat.not_lt_zero k)⟩ (weakSU (xa5 _) Ω7 (λq v hv=>hv)) λz hz=>?_
 case hB=>dsimp only;omega
 obtain⟨k,X,n1⟩:=z;obtain⟨hk,hX,hn1,hnk⟩:=hz;dsimp only at hk hX hn1 hnk;dsimp only;clear NB;have NB:=nmA hn1;by_cases hkw:k<h.w+2
 ·have hlt:=decide_eq_true (Ω:((k:Nat):Int)<(h.w:Nat)+2)
  have wl:=yt (S:=T k) (X:=X);rw[hX]at wl;have wt:=qeY (S:=T k) (X:=X);have w1:=qeX (S:=T k);have w2:=qmW (S:=T k);repeat' first|refine sD ?_ ?_<;>intro _|refine aAh ?_|simp -dsimp only[↓RP,RQ,seval,hlt,hR,wl,wt,w1,w2,TYc,TYd,NB,QR,QT,QN]
  all_goals try exact Ωa
  obtain⟨sid,hsid⟩:∃c,c=n1+5:=⟨_,rfl⟩;rw[←hsid];obtain⟨V,hV⟩:∃V,V=rnd h.C (h.w+1) (T k):=⟨_,rfl⟩;have hVn:V (h.w+1)=T (k+1):=by rw[hV,hT];rfl
  have hVb:=qcL o.cb (by omega:h.w+1≤11) (hbd k);rw[←hV]at hVb;refine qo (λ(z:Nat×List SV×Nat)=>z.1≤h.w+1∧z.2.1.length=45∧sid<z.2.2) (λz=>⟨[(0,R),(1,.val (.int .i64 (a:Nat))),(6,.ptr 3 0),(8,.ptr sid 0),(34,.val (.int .i64 ((h.w:Nat)+2))),(35,.val (.int .i64 (k:Nat))),(46,.val (.int .i64 ((h.w:Nat)+1))),(47,.val (.int .i64 (z.1:Nat)))],[(sid,.cells 191 (w11 (T k))),(3,.cells 196 (wc (V z.1) z.2.1))],z.2.2⟩) (λz=>h.w+1 - z.1) (0,X,_) ⟨xb6 _,hX,?hC⟩ (weakSU (xa5 _) Ω7 ?hD) λz hz=>?_
  case hC=>dsimp only;omega
  case hD=>rw[hV];exact λq v hv=>hv
  obtain⟨p,X2,n2⟩:=z;obtain⟨hp,hX2,hn2⟩:=hz;dsimp only at hp hX2 hn2;dsimp only;clear NB;have NB:=(⟨nmA (Ω:3<n2),nmA hn2,nmE (Ω:sid≠3)⟩:_∧_∧_);by_cases hpw:p<h.w+1
  ·have hlt2:=decide_eq_true (Ω:((p:Nat):Int)<(h.w:Nat)+1)
   repeat' first|refine sD ?_ ?_<;>intro _|refine aAh ?_|simp -dsimp only[↓RP,RQ,seval,hlt2,hR,TYc,TYd,NB,QR,QT,QN]
   all_goals try exact Ωa
   refine qo (λ(z:Nat×List SV×Nat)=>z.1≤h.w+1∧z.2.1.length=45∧sid<z.2.2) (λz=>⟨[(0,R),(1,.val (.int .i64 (a:Nat))),(6,.ptr 3 0),(8,.ptr sid 0),(9,.val (.int .i64 (p:Nat))),(34,.val (.int .i64 ((h.w:Nat)+2))),(35,.val (.int .i64 (k:Nat))),(46,.val (.int .i64 ((h.w:Nat)+1))),(47,.val (.int .i64 (p:Nat))),(55,.val (.int .i64 ((h.w:Nat)+1))),(56,.val (.int .i64 (z.1:Nat)))],[(sid,.cells 191 (w11 (T k))),(3,.cells 196 (wc (jQ h.C (V p) p z.1) z.2.1))],z.2.2⟩) (λz=>h.w+1 - z.1) (0,X2,_) ⟨xb6 _,hX2,?hE⟩ (weakSU (xa5 _) Ω7 (λq v hv=>hv)) λz hz=>?_
   case hE=>dsimp only;omega
   obtain⟨q,X3,n3⟩:=z;obtain⟨hq,hX3,hn3⟩:=hz;dsimp only at hq hX3 hn3;dsimp only;clear NB;have NB:=(⟨nmA (Ω:3<n3),nmA hn3,nmE (Ω:sid≠3)⟩:_∧_∧_);by_cases hqw:q<h.w+1
   ·have hlt3:=decide_eq_true (Ω:((q:Nat):Int)<(h.w:Nat)+1)
    have hsb:=qcK (p:=p) o.cb hpw (hVb p Ω) q;obtain⟨S,hS⟩:∃S,S=jQ h.C (V p) p q:=⟨_,rfl⟩;have hSn:jQ h.C (V p) p (q+1)=rlx h.C S p q:=by rw[hS];rfl
    rw[←hS]at hsb ⊢;have hda:dA (h.w+1) (h.sl (h.w+h.k)) (.agg #[.int .i64 (p:Nat),.int .i64 (q:Nat)])=decide (h.C p q≠NW):=by
     show(decide _&&decide _)=_;rw[decide_eq_true (by omega:0≤(p:Int)∧(p:Int)<(h.w+1:Nat)∧0≤(q:Int)∧(q:Int)<(h.w+1:Nat)),xf0,W5,h.sl_st];rfl
    have hga:gA (h.sl (h.w+h.k)) (.agg #[.int .i64 (p:Nat),.int .i64 (q:Nat)])=aS (aL (h.sl (h.w+h.k)) p q):=rfl;obtain⟨A,hA⟩:∃A,A=aL (h.sl (h.w+h.k)) p q:=⟨_,rfl⟩;have hA1:A.1=h.C p q:=by rw[hA,W5,h.sl_st];rfl
    rw[←hA]at hga;unfold aS at hga;by_cases hc:h.C p q=NW
    ·rw[decide_eq_false (λe=>e hc)]at hda
     repeat' first|refine sD ?_ ?_<;>intro _|refine aAh ?_|simp -dsimp only[↓RP,RQ,seval,hlt3,hR,shC,kf2,hda,hga,TYc,TYd,NB,QR,QT,QN]
     all_goals try exact Ωa
     refine⟨(q+1,X3,_),⟨hqw,hX3,?g1⟩,Ωe,weakSU (xa5 _) Ω5 ?g2⟩
     case g1=>dsimp only;omega
     case g2=>
      dsimp only;rw[hSn,show rlx h.C S p q=S by funext x;unfold rlx;rw[if_neg (λe=>e.2.1 hc)]]
      ((repeat' (refine SubHp.ent Ωy ?_));exact λq v hv=>Ωt)
    ·rw[decide_eq_true hc]at hda
     have g1:=qcQ (S:=S) (X:=X3) (p:=p) Ω;have g2:=qcQ (S:=S) (X:=X3) (p:=q) Ω;by_cases hs:S p=1099511627776
     ·have d1:=decide_eq_true hs
      repeat' first|refine sD ?_ ?_<;>intro _|refine aAh ?_|simp -dsimp only[↓RP,RQ,seval,hlt3,hR,shC,kf2,hda,hga,g1,g2,d1,TYc,TYd,NB,QR,QT,QN]
      all_goals try exact Ωa
      refine⟨(q+1,X3,_),⟨hqw,hX3,?h1⟩,Ωe,weakSU (xa5 _) Ω5 ?h2⟩
      case h1=>dsimp only;omega
      case h2=>
       dsimp only;rw[hSn,show rlx h.C S p q=S by funext x;unfold rlx;rw[if_neg (λe=>e.2.2.1 hs)]]
       ((repeat' (refine SubHp.ent Ωy ?_));exact λq v hv=>Ωt)
     ·have d1:=decide_eq_false hs
      have b1:=o.cb p q hc;have b2:=(hsb p Ω).resolve_left hs;rw[hA1]at hga;by_cases hl:S p+h.C p q<S q
      ·have d2:=decide_eq_false (Ω:¬S q≤S p+h.C p q)
       have wl:=yt (S:=S) (X:=X3);rw[hX3]at wl;have hq11:q<11:=by omega
       obtain⟨S1,hS1⟩:∃S1,S1=λi=>if i=q then S p+h.C p q else S i:=⟨_,rfl⟩
       have e1:=qcR (S:=S) (X:=X3) (v:=S p+h.C p q) hq11;rw[←hS1]at e1;have e3:∀X4:List SV,(wc S1 X4).take (22+q*3)++[SV.val (.bool A.2.1),.val (.int .i64 A.2.2.1),.val (.bool A.2.2.2)]++(wc S1 X4).drop (22+(q*3+3))=wc S1 (X4.take (22+q*3 - 11)++[SV.val (.bool A.2.1),.val (.int .i64 A.2.2.1),.val (.bool A.2.2.2)]++X4.drop (22+q*3 - 11+3)):=λX4=>by
        have h11:11≤22+q*3:=by omega
        rw[show 22+(q*3+3)=22+q*3+3 from by omega];exact qpf (vs:=[SV.val (.bool A.2.1),.val (.int .i64 A.2.2.1),.val (.bool A.2.2.2)]) h11
       have e2:∀X4 v,(wc S1 X4).set (11+q) v=_:=λX4 v=>qeW (Nat.le_add_right 11 q);have e4:∀X4 v,(wc S1 X4).set 55 v=_:=λX4 v=>qeW (show 11≤55 by decide);repeat' first|refine sD ?_ ?_<;>intro _|refine aAh ?_|simp -dsimp only[↓RP,RQ,seval,hlt3,hR,shC,kf2,hda,hga,g1,g2,d1,d2,wl,TYc,TYd,NB,QR,QT,QN]
       all_goals try exact Ωa
       rw[e1,e2,e3,e4,yt,yt,yt];simp only[xc8,xd9,List.length_drop,xe5,xe4,List.length_nil,hX3];refine⟨Ω,Ω,Ω,Ω,by simp only[InK];omega,(q+1,(((X3.set (11+q - 11) (.val (.int .i64 (p:Nat)))).take (22+q*3 - 11)++[SV.val (.bool A.2.1),.val (.int .i64 A.2.2.1),.val (.bool A.2.2.2)]++(X3.set (11+q - 11) (.val (.int .i64 (p:Nat)))).drop (22+q*3 - 11+3)).set (55 - 11) (.val (.int .i64 (q:Nat)))),_),⟨hqw,?l0,?l1⟩,Ωe,weakSU (xa5 _) Ω5 ?l2⟩
       case l1=>dsimp only;omega
       case l2=>
        dsimp only;rw[hSn,hS1,show rlx h.C S p q=λi=>if i=q then S p+h.C p q else S i by
         funext x;unfold rlx;by_cases c:x=q
         ·rw[if_pos ⟨c,hc,hs,hl⟩,if_pos c]
         ·rw[if_neg (λe=>c e.1),if_neg c]]
        ((repeat' (refine SubHp.ent Ωy ?_));exact λq v hv=>Ωt)
       case l0=>simp only[xc8,xd9,List.length_drop,xe5,xe4,List.length_nil,hX3];omega
      ·have d2:=decide_eq_true (Ω:S q≤S p+h.C p q)
       repeat' first|refine sD ?_ ?_<;>intro _|refine aAh ?_|simp -dsimp only[↓RP,RQ,seval,hlt3,hR,shC,kf2,hda,hga,g1,g2,d1,d2,TYc,TYd,NB,QR,QT,QN]
       all_goals try exact Ωa
       refine⟨(q+1,X3,_),⟨hqw,hX3,?i1⟩,Ωe,weakSU (xa5 _) Ω5 ?i2⟩
       case i1=>dsimp only;omega
       case i2=>
        dsimp only;rw[hSn,show rlx h.C S p q=S by funext x;unfold rlx;rw[if_neg (λe=>hl e.2.2.2)]]
        ((repeat' (refine SubHp.ent Ωy ?_));exact λq v hv=>Ωt)
   ·obtain rfl:q=h.w+1:=by omega
    have hlt3:=decide_eq_false (Ω:¬((h.w+1:Nat):Int)<(h.w:Nat)+1);have hVs:jQ h.C (V p) p (h.w+1)=V (p+1):=by rw[hV];rfl
    rw[hVs];repeat' first|refine sD ?_ ?_<;>intro _|refine aAh ?_|simp -dsimp only[↓RP,RQ,seval,hlt3,hR,TYc,TYd,NB,QR,QT,QN]
    all_goals try exact Ωa
    refine⟨(p+1,X3,_),⟨hpw,hX3,?j1⟩,Ωe,weakSU (xa5 _) Ω7 ?j2⟩
    case j1=>dsimp only;omega
    case j2=>((repeat' (refine SubHp.ent Ωy ?_));exact λq v hv=>Ωt)
  ·obtain rfl:p=h.w+1:=by omega
   have hlt2:=decide_eq_false (Ω:¬((h.w+1:Nat):Int)<(h.w:Nat)+1);rw[hVn];have wt3:=qkC (S:=T k);have wt4:=qeY (S:=T (k+1)) (X:=X2);have wl4:=yt (S:=T (k+1)) (X:=X2);rw[hX2]at wl4;have hout:∀j x,h.w<x→T j x=NW:=λj x hx=>by rw[hT];exact qpg Ω j x hx
   by_cases hfx:∀x,x≤h.w→T (k+1) x=T k x
   ·have d1:eqSVs (w11 (T k)) (w11 (T (k+1)))=true:=w11_eq.2 λi hi=>by
     by_cases c:i≤h.w
     ·exact(hfx i c).symm
     ·rw[hout _ _ Ω,hout _ _ Ω]
    obtain⟨D,hr,hD⟩:=hy k hkw hfx;rw[hr];repeat' first|refine sD ?_ ?_<;>intro _|refine aAh ?_|simp -dsimp only[↓RP,RQ,seval,hlt2,hR,w1,wt3,wt4,wl4,d1,QT,TYc,TYd,NB,QR,QN]
    all_goals try exact Ωa
    intro j hj;refine⟨?_,Ω⟩;rw[xc6,qcQ Ω,←hD j Ω];rfl
   ·have d1:eqSVs (w11 (T k)) (w11 (T (k+1)))=false:=by
     cases e:eqSVs (w11 (T k)) (w11 (T (k+1)))with
     |false=>rfl
     |true=>exact absurd (λx hx=>((w11_eq.1 e) x Ω).symm) hfx
    repeat' first|refine sD ?_ ?_<;>intro _|refine aAh ?_|simp -dsimp only[↓RP,RQ,seval,hlt2,hR,w1,wt3,wt4,wl4,d1,TYc,TYd,NB,QR,QT,QN]
    all_goals try exact Ωa
    refine⟨(k+1,X2,_),⟨hkw,hX2,?f1,λj hj=>?f2⟩,Ωe,weakSU (xa5 _) Ω7 ?f3⟩
    case f1=>dsimp only;omega
    case f2=>
     by_cases c:j=k
     ·rw[c];exact hfx
     ·exact hnk j (by dsimp only at hj;omega)
    case f3=>((repeat' (refine SubHp.ent Ωy ?_));exact λq v hv=>Ωt)
 ·obtain rfl:k=h.w+2:=by omega
  have hlt:=decide_eq_false (Ω:¬((h.w+2:Nat):Int)<(h.w:Nat)+2);rw[hn hnk];unfold B;repeat' first|refine sD ?_ ?_<;>intro _|refine aAh ?_|simp -dsimp only[↓RP,RQ,seval,hlt,hR,TYc,TYd,NB,QR,QT,QN]
  all_goals try exact Ωa
theorem qph(h:Ha)(o:h.Ok)(a:Nat)(ha:a≤h.w):(∃D,Lst h.C (h.w+1) a D∧qf Tryz.prog 117 [shR h (shC h),I a] (.tup [.ref true (h.w+1) (λi=>I (D i)),B true]))∨((∀F,¬h.Tru F)∧qf Tryz.prog 117 [shR h (shC h),I a] (.tup [.top,B false])):=by
 have hw:=o.w2;rcases o.least ha with⟨D,hD,⟨k0,hk0,hfix⟩,hall⟩|⟨hno,hnf⟩
 ·exact .inl ⟨D,hD,qqE h o a ha _ (λk hk hf=>⟨D,rfl,hall k hf⟩) λhn=>absurd hfix (hn k0 Ω)⟩
 ·exact .inr ⟨hno,qqE h o a ha _ (λk hk hf=>absurd hf (hnf k Ω)) λ_=>rfl⟩
end Go.Tn
end
section
namespace Go.Tn
open Go.Proofs
open Go.Sx
variable{hp:List (Nat×Blk)}{h:Ha}
theorem qsk(n lo hi:Int):qf Tryz.prog 233 (.val (.int .i64 n) :: jn lo hi) (B (decide (n<lo) || decide (hi<n))):=by
 refine qg Tryz.func233 rfl Ωc follows Ωc _ _ (by rw[Tryz.ntmps233];simp[jn]) (by simp[OldL,Old,jn]) ?_;unfold jn B;(repeat' (first|refine sD ?_ ?_<;>intro _|refine aA ?_|simp -dsimp only[↓RP,RQ,seval,TYQ,TY,Tryz.results233]))
 all_goals (refine yb ?_;rw[Bool.eq_iff_iff];simp;omega)
theorem qsl(m:Nat)(u:Nat→Int)(lo hi:Int)(hm:m≤1000000):qf Tryz.prog 115 [I lo,I hi,qA m u] (B (decide (ve u m lo hi))):=by
 refine qg Tryz.func115 rfl Ωc follows Ωc _ _ (by rw[Tryz.ntmps115];simp) (by simp[OldL,Old,qA,I]) ?_;unfold I B;(simp -dsimp only[↓RP,RQ,seval,TYQ,TY,Tryz.results115]);refine qk (qot m u 233 (jn lo hi) (YS lo hi) (λi=>decide (u i<lo) || decide (hi<u i)) hm λi _=>qsk (u i) lo hi) (by(simp -dsimp only[↓RP,RQ,seval,QV,qA,jn,I]);all_goals (try simp[jn,qA])) Ωj ?_;(repeat' (first|refine sD ?_ ?_<;>intro _|refine aA ?_|simp -dsimp only[↓RP,RQ,seval,B,TYQ,TY,Tryz.results115]));refine yb ?_;rw[Bool.eq_iff_iff];have:=yI u m lo hi;by_cases h:ve u m lo hi
 ·have h':¬ZU (λi=>decide (u i<lo) || decide (hi<u i)) m:=λy=>this.1 y h
  rw[decide_eq_true h,decide_eq_false h'];simp
 ·rw[decide_eq_false h,decide_eq_true (this.2 h)];simp
theorem qeZ{m:Nat}{u:Nat→Int}{lo hi:Int}(hm:m≤1000000)(h:∀i,i<m→lo≤u i∧u i≤hi):qf Tryz.prog 115 [I lo,I hi,qA m u] (B true):=by
 have:=qsl m u lo hi hm
 rwa [decide_eq_true (show ve u m lo hi from h)]at this
theorem qsm(h:Ha)(g:Nat)(caps:List SV)(ho:OldL caps)(b:Nat→Bool)(hm:h.k≤1000000)(hg:∀i,i<h.k→qf Tryz.prog g (.agg (ctL h i) :: caps) (B (b i))):qf Tryz.prog 371 [ctR h,.fn (.func g) [] caps] (I (zH b 0 h.k)):=by
 have hct:∀i,[SV.val (.int .i64 (h.f i)),.val (.int .i64 (h.t i)),.val (.int .i64 (h.lo i)),.val (.int .i64 (h.hi i))]=ctL h i:=λ_=>rfl;refine qg Tryz.func371 rfl Ωc follows Ωc _ _ (by rw[Tryz.ntmps371];simp) (by simp only[OldL,kP,Old,ho,and_self]) ?_
 conv=>arg 4;unfold ctR
 (simp -dsimp only[↓RP,RQ,seval,TYQ,TYP,TYc,TY,Tryz.results371]);refine qo (λi=>i≤h.k∧zH b 0 h.k=zH b i (h.k - i)) (λi=>⟨[(0,.arr false false h.k 4 (λi j=>(ctL h i).getD j .top)),(1,.fn (.func g) [] caps),(6,.arr false false h.k 4 (λi j=>(ctL h i).getD j .top)),(7,.val (.int .i64 h.k)),(8,.val (.int .i64 i))],[],4+20*i⟩) (λi=>h.k - i) 0 ⟨xb6 _,rfl⟩ (weakSU Ω Ωd (λq v hv=>hv)) λi hi=>?_;obtain⟨hi,he⟩:=hi;have e1:∀k,h.k - i=k+1→zH b i (h.k - i)=if b i=true then(i:Int)else zH b (i+1) k:=λk hk=>by rw[hk];rfl
 repeat' first|refine sD ?_ ?_<;>intro _|refine aAh ?_|simp -dsimp only[↓RP,RQ,seval,ctL,TYQ,TYP,TYc,QT,QN]
 ·rename_i hlt
  have hlt:i<h.k:=by omega
  have e2:=e1 (h.k -(i+1)) Ω;refine qk (hg i hlt) (by simp only[SubL,and_true,subL_refl caps ho];simp[ctL,Go.Sx.Sub,SubL]) Ωj ?_;repeat' first|refine sD ?_ ?_<;>intro _|refine aAh ?_|simp -dsimp only[↓RP,RQ,seval,ctL,TYQ,TYP,TYc,QT,QN]
  ·rename_i h
   refine ZT ?_;rw[he,e2,if_pos h]
  ·rename_i h1
   refine⟨i+1,⟨Ω,?_⟩,Ω,weakSU Ω (by simp[zk,Go.Sx.look,ctL]) (λq v hv=>Ωt)⟩;rw[he,e2,if_neg (by simp[h1])]
 ·rename_i hlt
  refine ZT ?_;have:h.k - i=0:=by omega
  rw[he,this];rfl
theorem qqF(h:Ha)(g:Nat)(caps:List SV)(ho:OldL caps)(hm:h.k≤1000000)(hg:∀i,i<h.k→qf Tryz.prog g (.agg (ctL h i) :: caps) (B false)):qf Tryz.prog 327 [ctR h,.fn (.func g) [] caps] (B false):=by
 refine qg Tryz.func327 rfl Ωc follows Ωc _ _ (by rw[Tryz.ntmps327];simp) (by simp only[OldL,kP,Old,ho,and_self]) ?_;(simp -dsimp only[↓RP,RQ,seval,TY,QV,QN]);refine qk (qsm h g caps ho (λ_=>false) hm hg) (by simp only[SubL,and_true];exact⟨qq _ (kP h),by simp[Go.Sx.Sub,SubL,subL_refl caps ho]⟩) Ωl ?_;(repeat' (first|refine sD ?_ ?_<;>intro _|refine aA ?_|simp -dsimp only[↓RP,RQ,seval,I,B,QV,TYQ,TYP,TY,QN]));refine yb ?_;rw[Bool.eq_iff_iff];simp[Q9,ZU]
def W6(h:Ha):List SV:=[.ref false 3 (λj=>[SV.val (.int .i64 h.w),.val (.int .i64 h.m),ctR h].getD j .top)]
theorem Jy(h:Ha):OldL (W6 h):=by
 simp only[W6,OldL,Old,and_true];refine⟨trivial,λj hj=>?_⟩;have:=kP h;rcases(Ω:j=0∨j=1∨j=2)with rfl|rfl|rfl<;>simp_all [Old]
theorem KX{m id:Nat}{u:Nat→Int}{row:Nat→Nat→SV}(hb:blk hp id=some (.rows 2 1 m row))(h:∀i,i<m→row i 0=.val (.int .i64 (u i))):Go.Sx.Sub hp (qA m u) (.vec id m 1):=by
 simp only[qA,Go.Sx.Sub,hb];refine⟨trivial,trivial,trivial,xa5 _,trivial,λi j hi hj=>?_⟩;obtain rfl:j=0:=by omega
 rw[h i hi]
theorem zt{x:Int}:Go.Sx.Sub hp (I x) (.val (.int .i64 x)):=by simp[I,Go.Sx.Sub]
theorem qsn(h:Ha)(o:h.Ok)(i:Nat)(hi:i<h.k):qf Tryz.prog 325 (.agg (ctL h i) :: W6 h) (B false):=by
 have h1:=o.ft i hi;have hw:=o.w2;have h2:=qeZ (m:=2) (u:=λj=>if j=0 then((h.f i:Nat):Int)else(h.t i:Nat)) (lo:=0) (hi:=(h.w:Nat) - 1) Ω (λj hj=>by split<;>omega);have d1:=decide_eq_false (Ω:¬((h.t i:Nat):Int)<(h.f i:Nat));refine qg Tryz.func325 rfl Ωc follows Ωc _ _ (by rw[Tryz.ntmps325];simp[W6]) (by simp only[OldL,Jy,and_true];simp[Old,OldL,ctL]) ?_;unfold W6 ctL B;repeat' first|refine sD ?_ ?_<;>intro _|refine aAh ?_|simp -dsimp only[↓RP,RQ,seval,d1,TYQ,TYP,TYc,QT,QN]
 all_goals try exact Ωa
 refine qk h2 (by simp only[SubL,and_true];exact⟨zt,zt,KX rfl λi hi=>(by rcases(Ω:i=0∨i=1)with rfl|rfl<;>rfl)⟩) Ωz ?_;repeat' first|refine sD ?_ ?_<;>intro _|refine aAh ?_|simp -dsimp only[↓RP,RQ,seval,QT,TYQ,TYP,TYc,QN]
 all_goals try exact Ωa
theorem qso(h:Ha)(o:h.Ok)(i:Nat)(hi:i<h.k):qf Tryz.prog 326 [.agg (ctL h i)] (B false):=by
 have h1:=o.lh i hi;have h2:=qeZ (m:=2) (u:=λj=>if j=0 then h.lo i else h.hi i) (lo:=0) (hi:=10000000) Ω (λj hj=>by split<;>omega);have d1:=decide_eq_false (Ω:¬h.hi i<h.lo i);refine qg Tryz.func326 rfl Ωc follows Ωc _ _ (by rw[Tryz.ntmps326];simp) (by simp[Old,OldL,ctL]) ?_;unfold ctL B;repeat' first|refine sD ?_ ?_<;>intro _|refine aAh ?_|simp -dsimp only[↓RP,RQ,seval,d1,TYQ,TYP,TYc,QT,QN]
 all_goals try exact Ωa
 refine qk h2 (by simp only[SubL,and_true];exact⟨zt,zt,KX rfl λi hi=>(by rcases(Ω:i=0∨i=1)with rfl|rfl<;>rfl)⟩) Ωz ?_;repeat' first|refine sD ?_ ?_<;>intro _|refine aAh ?_|simp -dsimp only[↓RP,RQ,seval,QT,TYQ,TYP,TYc,QN]
 all_goals try exact Ωa
theorem qaW{id:Nat}(hb:blk hp id=some (.cells 97 [.val (.int .i64 h.w),.val (.int .i64 h.m),ctR h])):SubL hp (W6 h) [.ptr id 0]:=by
 simp only[W6,SubL,Go.Sx.Sub,hb,and_true];intro j hj;rw[xb0];refine⟨?_,hj⟩;rcases(Ω:j=0∨j=1∨j=2)with rfl|rfl|rfl
 ·exact qq _ Ωu
 ·exact qq _ Ωu
 ·exact qq _ (kP h)
theorem qsp(h:Ha)(o:h.Ok):qf Tryz.prog 230 [haS h] (I 0):=by
 have hw:=o.w2;have hw1:=o.w1;have hk:=o.k;have hm:=o.m;have h1:=qeZ (m:=1) (u:=λ_=>((h.w:Nat):Int)) (lo:=1) (hi:=10) Ω (λj hj=>by omega);have h2:=qeZ (m:=1) (u:=λ_=>h.m) (lo:=0) (hi:=1000000) Ω (λj hj=>by omega);have h3:=qqF h 325 (W6 h) (Jy h) Ω λi hi=>qsn h o i hi;have h4:=qqF h 326 [] trivial Ω λi hi=>qso h o i hi;have d1:=decide_eq_false (Ω:¬(10:Int)<(h.k:Nat));refine qg Tryz.func230 rfl Ωc follows Ωc _ _ (by rw[Tryz.ntmps230];simp) (by simp only[OldL,jg h,and_true]) ?_;unfold haS;repeat' first|refine sD ?_ ?_<;>intro _|refine aAh ?_|simp -dsimp only[↓RP,RQ,seval,d1,TYQ,TYP,TYc,QT,QN]
 all_goals try exact Ωa
 refine qk h1 (by simp only[SubL,and_true];exact⟨zt,zt,KX rfl λi hi=>(by rw[show i=0 by omega];rfl)⟩) Ωz ?_;repeat' first|refine sD ?_ ?_<;>intro _|refine aAh ?_|simp -dsimp only[↓RP,RQ,seval,QT,ctR,TYQ,TYP,TYc,QN]
 all_goals try exact Ωa
 refine qk h3 (by simp only[SubL,and_true];exact⟨qq _ (kP h),rfl,rfl,qaW rfl⟩) Ωz ?_;repeat' first|refine sD ?_ ?_<;>intro _|refine aAh ?_|simp -dsimp only[↓RP,RQ,seval,QT,ctR,TYQ,TYP,TYc,QN]
 all_goals try exact Ωa
 refine qk h2 (by simp only[SubL,and_true];exact⟨zt,zt,KX rfl λi hi=>(by rw[show i=0 by omega];rfl)⟩) Ωz ?_;repeat' first|refine sD ?_ ?_<;>intro _|refine aAh ?_|simp -dsimp only[↓RP,RQ,seval,QT,ctR,TYQ,TYP,TYc,QN]
 all_goals try exact Ωa
 refine qk h4 (by simp only[SubL,and_true];exact⟨qq _ (kP h),rfl,rfl,rfl⟩) Ωz ?_;repeat' first|refine sD ?_ ?_<;>intro _|refine aAh ?_|simp -dsimp only[↓RP,RQ,seval,QT,ctR,TYQ,TYP,TYc,QN]
 all_goals try exact Ωa
def shN(h:Ha):SV:=.ref true 4 (λj=>(shL h (.cmp true kf2 (dA (h.w+1) (h.sl (h.w+h.k))) (gA (h.sl (h.w+h.k))))).getD j .top)
theorem qkD{key:Value}(hk:dA (h.w+1) (h.sl (h.w+h.k)) key=true):Old (gA (h.sl (h.w+h.k)) key):=by
 obtain⟨x,y,hx,hy,rfl⟩:=dF_iff.1 (by rw[qeV,xe6]at hk;exact hk.1);exact qcP _
theorem qfa:∀j,j<4→Go.Sx.Sub hp ((shL h (.cmp true kf2 (dA (h.w+1) (h.sl (h.w+h.k))) (gA (h.sl (h.w+h.k))))).getD j .top) ((shL h (.cmp true kf2 (dA (h.w+1) (h.sl (h.w+h.k))) (gA (h.sl (h.w+h.k))))).getD j .top)∧Go.Sx.Sub hp ((shL h (shC h)).getD j .top) ((shL h (.cmp true kf2 (dA (h.w+1) (h.sl (h.w+h.k))) (gA (h.sl (h.w+h.k))))).getD j .top):=λj hj=>by
 rcases(Ω:j=0∨j=1∨j=2∨j=3)with rfl|rfl|rfl|rfl
 ·exact⟨qq _ (by simp[Old,shL]),qq _ (by simp[Old,shL])⟩
 ·exact⟨qq _ (by simp[Old,shL]),qq _ (by simp[Old,shL])⟩
 ·exact⟨qq _ (kP h),qq _ (kP h)⟩
 ·exact⟨⟨id,rfl,rfl,λkey hk=>qq _ (qkD hk)⟩,λe=>(by cases e),rfl,rfl,λkey hk=>qq _ (qkD hk)⟩
theorem qmX:Go.Sx.Sub hp (shR h (shC h)) (shN h):=⟨λe=>(by cases e),xa5 _,λj hj=>(qfa j hj).2⟩
theorem qqG(h:Ha)(o:h.Ok):qf Tryz.prog 114 [haS h,.val (.slice none 0 0)] (.tup [shN h,I 0]):=by
 have h1:=qsp h o;have h2:=qsj h o;have h3:=qnv 231 (W6 h) (Jy h);refine qg Tryz.func114 rfl Ωc follows Ωc _ _ (by rw[Tryz.ntmps114];simp) (by simp only[OldL,jg h,and_true,true_and];simp[Old]) ?_;unfold haS;repeat' first|refine sD ?_ ?_<;>intro _|refine aAh ?_|simp -dsimp only[↓RP,RQ,seval,TYQ,TYP,TYc,QT,QN]
 all_goals try exact Ωa
 refine kb h1 Ω4 ?_;repeat' first|refine sD ?_ ?_<;>intro _|refine aAh ?_|simp -dsimp only[↓RP,RQ,seval,QT,TYQ,TYP,TYc,QN]
 all_goals try exact Ωa
 refine qk h3 (by simp only[SubL,and_true];exact⟨by simp[Go.Sx.Sub],rfl,rfl,qaW rfl⟩) Ωz ?_;repeat' first|refine sD ?_ ?_<;>intro _|refine aAh ?_|simp -dsimp only[↓RP,RQ,seval,QT,TYQ,TYP,TYc,QN]
 all_goals try exact Ωa
 refine kb h2 Ω4 ?_;repeat' first|refine sD ?_ ?_<;>intro _|refine aAh ?_|simp -dsimp only[↓RP,RQ,seval,QT,shN,TYQ,TYP,TYc,QN]
 all_goals try exact Ωa
 exact λj hj=>(qfa j hj).1
end Go.Tn
end
section
namespace Go.Tn
open Go.Proofs
open Go.Sx
def pfx(u:Nat→Int):Nat→Int
 |0=>0
 |n+1=>pfx u n+u n
theorem qcS{u:Nat→Int}{M:Int}{m:Nat}(h:∀i,i<m→0≤u i∧u i≤M){a:Nat}:∀{d:Nat},a+d≤m→0≤pfx u (a+d) - pfx u a∧pfx u (a+d) - pfx u a≤M*d
 |0,_=>by simp
 |d+1,hd=>by
  have h1:=qcS h (a:=a) (d:=d) Ω;have h2:=h (a+d) Ω;have e:M*((d+1:Nat):Int)=M*(d:Int)+M:=by rw[show((d+1:Nat):Int)=(d:Int)+1 by omega,Int.mul_add,Int.mul_one]
  rw[e];show 0≤pfx u (a+d)+u (a+d) - _∧pfx u (a+d)+u (a+d) - _≤_;omega
def Ha.sum(h:Ha)(u:Nat→Int)(j:Nat):Int:=pfx u (h.t j+1) - pfx u (h.f j)
def Ha.sOk(h:Ha)(u:Nat→Int)(n:Nat):Prop:=∀j,j<n→h.lo j≤h.sum u j∧h.sum u j≤h.hi j
instance(h:Ha)(u:Nat→Int)(n:Nat):Decidable (h.sOk u n):=by unfold Ha.sOk;infer_instance
def ckT(h:Ha)(m:Nat)(u:Nat→Int):Int:=if m≠h.w then 15 else if ¬ve u m 0 h.m then 3 else if h.sOk u h.k then 0 else 14
theorem ckT_ok{h:Ha}{u:Nat→Int}:ckT h h.w u=0↔h.Tru (pfx u):=by
 unfold ckT Ha.Tru ve;rw[if_neg Ωg];have e:∀i,pfx u (i+1) - pfx u i=u i:=λi=>by show pfx u i+u i - _=_;omega
 constructor
 ·intro hc
  split at hc
  ·omega
  ·rename_i h1
   split at hc
   ·rename_i h2
    exact⟨λi hi=>by rw[e];exact xf9 λc=>h1 λhh=>c (hh i hi),h2⟩
   ·omega
 ·rintro⟨h1,h2⟩
  rw[if_neg (λc=>c λi hi=>by have:=h1 i hi;rwa [e]at this),if_pos (show h.sOk u h.k from h2)]
theorem qsq(lo hi M:Int):qf Tryz.prog 118 [.agg [.val (.int .i64 lo),.val (.int .i64 hi)],I M] (B (decide (0≤lo∧lo≤hi∧hi≤M))):=by
 refine qg Tryz.func118 rfl Ωc follows Ωc _ _ (by rw[Tryz.ntmps118];simp) (by simp[OldL,Old,I]) ?_;unfold I B;repeat' first|refine sD ?_ ?_<;>intro _|refine aAh ?_|simp -dsimp only[↓RP,RQ,seval,TYQ,TYP,TYc,QT,QN]
 all_goals (refine yb ?_;rw[Bool.eq_iff_iff];simp;omega)
theorem c45(a b lo hi:Int):qf Tryz.prog 45 [I a,I b,I lo,I hi] (.agg [I a,I b,I lo,I hi]):=by
 refine qg Tryz.func45 rfl Ωc follows Ωc _ _ (by rw[Tryz.ntmps45];simp) (by simp[OldL,Old,I]) ?_;unfold I;repeat' first|refine sD ?_ ?_<;>intro _|refine aAh ?_|simp -dsimp only[↓RP,RQ,seval,TYQ,TYP,TYc,QT,QN]
 all_goals try exact Ωa
theorem c51(m:Nat)(u:Nat→Int)(f t:Nat)(hft:f≤t+1)(ht:t<m)(hm:m≤1000)(hu:∀i,i<m→0≤u i∧u i≤1000000000):qf Tryz.prog 51 [qA m u,I f,I t] (I (pfx u (t+1) - pfx u f)):=by
 refine qg Tryz.func51 rfl Ωc follows Ωc _ _ (by rw[Tryz.ntmps51];simp) (by simp[OldL,Old,I,qA]) ?_;have NB:True:=trivial
 conv=>arg 4;unfold qA I
 repeat' first|refine sD ?_ ?_<;>intro _|refine aAh ?_|simp -dsimp only[↓RP,RQ,seval,TYQ,TYP,TYc,QT,QN]
 all_goals try exact Ωa
 refine qo (λ(i:Nat)=>f≤i∧i≤t+1) (λi=>⟨[(0,.arr false false m 1 (λi _=>.val (.int .i64 (u i)))),(1,.val (.int .i64 (f:Nat))),(2,.val (.int .i64 (t:Nat))),(7,.val (.int .i64 (pfx u i - pfx u f))),(8,.val (.int .i64 (i:Nat)))],[],20*i+20⟩) (λi=>t+1 - i) f ⟨xa5 _,hft⟩ (weakSU Ω Ωd (λq v hv=>hv)) λi hi=>?_;obtain⟨h1,h2⟩:=hi;have b:=qcS hu (a:=f) (d:=i - f) Ω;rw[show f+(i - f)=i by omega]at b;by_cases hit:i≤t
 ·have hlt:=decide_eq_true (Ω:((i:Nat):Int)≤(t:Nat))
  have b2:=hu i Ω;repeat' first|refine sD ?_ ?_<;>intro _|refine aAh ?_|simp -dsimp only[↓RP,RQ,seval,hlt,TYQ,TYP,TYc,QT,QN]
  all_goals try exact Ωa
  refine⟨i+1,⟨Ω,Ω⟩,Ω,weakSU Ω ?a1 (λq v hv=>hv)⟩
  case a1=>rw[show pfx u (i+1) - pfx u f=pfx u i - pfx u f+u i by show pfx u i+u i - _=_;omega];simp[zk,Go.Sx.look]
 ·obtain rfl:i=t+1:=by omega
  have hlt:=decide_eq_false (Ω:¬((t+1:Nat):Int)≤(t:Nat));repeat' first|refine sD ?_ ?_<;>intro _|refine aAh ?_|simp -dsimp only[↓RP,RQ,seval,hlt,QT,TYQ,TYP,TYc,QN]
  all_goals try exact Ωa
def gL(f t lo hi:Nat→Int)(i:Nat):List SV:=[.val (.int .i64 (f i)),.val (.int .i64 (t i)),.val (.int .i64 (lo i)),.val (.int .i64 (hi i))]
def gC(k:Nat)(f t lo hi:Nat→Int):SV:=.arr false false k 4 (λi j=>(gL f t lo hi i).getD j .top)
def gH(w m:Int)(k:Nat)(f t lo hi:Nat→Int):SV:=.agg [.val (.int .i64 w),.val (.int .i64 m),gC k f t lo hi]
def gF(w:Int)(f t:Nat→Int)(n:Nat):Prop:=∀j,j<n→0≤f j∧f j≤t j∧t j<w
def gR(lo hi:Nat→Int)(n:Nat):Prop:=∀j,j<n→0≤lo j∧lo j≤hi j∧hi j≤10000000
instance(w:Int)(f t:Nat→Int)(n:Nat):Decidable (gF w f t n):=by unfold gF;infer_instance
instance(lo hi:Nat→Int)(n:Nat):Decidable (gR lo hi n):=by unfold gR;infer_instance
def jR(w m:Int)(k:Nat)(f t lo hi:Nat→Int):Int:=if w<1∨10<w∨10<k then 6 else if ¬gF w f t k then 2 else if m<0∨1000000<m then 3 else if gR lo hi k then 0 else 3
theorem qpi(k:Nat)(f t lo hi:Nat→Int):Old (gC k f t lo hi):=⟨rfl,λi j hi hj=>by
 unfold gL;exact qgH (P:=Old) Ωu Ωu Ωu Ωu j hj⟩
theorem qcT(w m:Int)(k:Nat)(f t lo hi:Nat→Int):Old (gH w m k f t lo hi):=by simp[gH,Old,OldL,qpi]
theorem qqH(w m:Int)(k:Nat)(f t lo hi:Nat→Int):qf Tryz.prog 55 [gH w m k f t lo hi] (I (jR w m k f t lo hi)):=by
 refine qg Tryz.func55 rfl Ωc follows Ωc _ _ (by rw[Tryz.ntmps55];simp) (by simp only[OldL,qcT,and_true]) ?_;have NB:True:=trivial
 conv=>arg 4;unfold gH gC
 by_cases c1:w<1
 ·have d1:=decide_eq_true c1
  rw[show jR w m k f t lo hi=6 by unfold jR;rw[if_pos (.inl c1)]];repeat' first|refine sD ?_ ?_<;>intro _|refine aAh ?_|simp -dsimp only[↓RP,RQ,seval,QT,d1,TYQ,TYP,TYc,QN]
  all_goals try exact Ωa
 have d1:=decide_eq_false c1;by_cases c2:10<w
 ·have d2:=decide_eq_true c2
  rw[show jR w m k f t lo hi=6 by unfold jR;rw[if_pos (.inr (.inl c2))]];repeat' first|refine sD ?_ ?_<;>intro _|refine aAh ?_|simp -dsimp only[↓RP,RQ,seval,QT,d1,d2,TYQ,TYP,TYc,QN]
  all_goals try exact Ωa
 have d2:=decide_eq_false c2;by_cases c3:10<k
 ·have d3:=decide_eq_true (Ω:(10:Int)<(k:Nat))
  rw[show jR w m k f t lo hi=6 by unfold jR;rw[if_pos (.inr (.inr c3))]];repeat' first|refine sD ?_ ?_<;>intro _|refine aAh ?_|simp -dsimp only[↓RP,RQ,seval,QT,d1,d2,d3,TYQ,TYP,TYc,QN]
  all_goals try exact Ωa
 have d3:=decide_eq_false (Ω:¬(10:Int)<(k:Nat));have n1:¬(w<1∨10<w∨10<k):=λc=>c.elim c1 λc=>c.elim c2 c3;repeat' first|refine sD ?_ ?_<;>intro _|refine aAh ?_|simp -dsimp only[↓RP,RQ,seval,QT,d1,d2,d3,TYQ,TYP,TYc,QN]
 all_goals try exact Ωa
 refine qo (λ(z:Nat×Nat)=>z.1≤k∧0<z.2∧gF w f t z.1) (λz=>⟨[(1,.ptr 0 0),(3,.val (.int .i64 (z.1:Nat)))],[(0,.cells 97 [.val (.int .i64 w),.val (.int .i64 m),.arr false false k 4 (λi j=>(gL f t lo hi i).getD j .top)])],z.2⟩) (λz=>k - z.1) (0,_) ⟨xb6 _,?a1,λj hj=>absurd hj (Nat.not_lt_zero j)⟩ (weakSU (xa5 _) Ωd (λq v hv=>hv)) λz hz=>?_
 case a1=>dsimp only;omega
 obtain⟨j,q1⟩:=z;obtain⟨hj,hq1,hG⟩:=hz;dsimp only at hj hq1 hG;dsimp only;clear NB;have NB:=nmA hq1;by_cases hjk:j<k
 ·have hlt:=decide_eq_true (Ω:((j:Nat):Int)<(k:Nat))
  by_cases hb:0≤f j∧f j≤t j∧t j<w
  ·have e1:=decide_eq_false (Ω:¬f j<0)
   have e2:=decide_eq_false (Ω:¬t j<f j);have e3:=decide_eq_false (Ω:¬w≤t j);repeat' first|refine sD ?_ ?_<;>intro _|refine aAh ?_|simp -dsimp only[↓RP,RQ,seval,QT,hlt,gL,e1,e2,e3,TYQ,TYP,TYc,QN]
   all_goals try exact Ωa
   refine⟨(j+1,_),⟨hjk,?b1,λx hx=>?b2⟩,Ωe,weakSU (xa5 _) (by simp[zk,Go.Sx.look,gL]) ?b3⟩
   case b1=>dsimp only;omega
   case b2=>
    by_cases c:x=j
    ·rw[c];exact hb
    ·exact hG x (by dsimp only at hx;omega)
   case b3=>try unfold gL
            ((repeat' (refine SubHp.ent Ωx ?_));exact λq v hv=>Ωt)
  ·have e:jR w m k f t lo hi=2:=by unfold jR;rw[if_neg n1,if_pos (λc=>hb (c j hjk))]
   rw[e];have hjZ:((j:Nat):Int)<(k:Nat):=by omega
   clear e hG;by_cases x1:f j<0
   ·have e1:=decide_eq_true x1
    clear hb;repeat' first|refine sD ?_ ?_<;>intro _|refine aAh ?_|simp -dsimp only[↓RP,RQ,seval,QT,hlt,gL,e1,TYQ,TYP,TYc,QN]
    all_goals first|exact hjZ|skip
   ·have e1:=decide_eq_false x1
    by_cases x2:t j<f j
    ·have e2:=decide_eq_true x2
     clear hb;repeat' first|refine sD ?_ ?_<;>intro _|refine aAh ?_|simp -dsimp only[↓RP,RQ,seval,QT,hlt,gL,e1,e2,TYQ,TYP,TYc,QN]
     all_goals first|exact hjZ|skip
    ·have e2:=decide_eq_false x2
     have e3:=decide_eq_true (Ω:w≤t j);clear hb;repeat' first|refine sD ?_ ?_<;>intro _|refine aAh ?_|simp -dsimp only[↓RP,RQ,seval,QT,hlt,gL,e1,e2,e3,TYQ,TYP,TYc,QN]
     all_goals first|exact hjZ|skip
 obtain rfl:j=k:=by omega
 have hlt:=decide_eq_false (Ω:¬((j:Nat):Int)<(j:Nat));by_cases c4:m<0
 ·have d4:=decide_eq_true c4
  rw[show jR w m j f t lo hi=3 by unfold jR;rw[if_neg n1,if_neg (λc=>c hG),if_pos (.inl c4)]];repeat' first|refine sD ?_ ?_<;>intro _|refine aAh ?_|simp -dsimp only[↓RP,RQ,seval,QT,hlt,d4,TYQ,TYP,TYc,QN]
  all_goals try exact Ωa
 have d4:=decide_eq_false c4;by_cases c5:1000000<m
 ·have d5:=decide_eq_true c5
  rw[show jR w m j f t lo hi=3 by unfold jR;rw[if_neg n1,if_neg (λc=>c hG),if_pos (.inr c5)]];repeat' first|refine sD ?_ ?_<;>intro _|refine aAh ?_|simp -dsimp only[↓RP,RQ,seval,QT,hlt,d4,d5,TYQ,TYP,TYc,QN]
  all_goals try exact Ωa
 have d5:=decide_eq_false c5;have n2:¬(m<0∨1000000<m):=λc=>c.elim c4 c5;repeat' first|refine sD ?_ ?_<;>intro _|refine aAh ?_|simp -dsimp only[↓RP,RQ,seval,QT,hlt,d4,d5,TYQ,TYP,TYc,QN]
 all_goals try exact Ωa
 refine qo (λ(z:Nat×Nat)=>z.1≤j∧0<z.2∧gR lo hi z.1) (λz=>⟨[(1,.ptr 0 0),(5,.val (.int .i64 (z.1:Nat)))],[(0,.cells 97 [.val (.int .i64 w),.val (.int .i64 m),.arr false false j 4 (λi j=>(gL f t lo hi i).getD j .top)])],z.2⟩) (λz=>j - z.1) (0,_) ⟨xb6 _,?f1,λj hj=>absurd hj (Nat.not_lt_zero j)⟩ (weakSU (xa5 _) Ωd (λq v hv=>hv)) λz hz=>?_
 case f1=>dsimp only;omega
 obtain⟨i,q2⟩:=z;obtain⟨hi2,hq2,hR⟩:=hz;dsimp only at hi2 hq2 hR;dsimp only;clear NB;have NB:=nmA hq2;by_cases hij:i<j
 ·have hlt2:=decide_eq_true (Ω:((i:Nat):Int)<(j:Nat))
  have h118:=qsq (lo i) (hi i) 10000000;have hiZ:((i:Nat):Int)<(j:Nat):=by omega
  by_cases hb:0≤lo i∧lo i≤hi i∧hi i≤10000000
  ·rw[decide_eq_true hb]at h118
   repeat' first|refine sD ?_ ?_<;>intro _|refine aAh ?_|simp -dsimp only[↓RP,RQ,seval,QT,hlt2,gL,TYQ,TYP,TYc,QN]
   all_goals try exact Ωa
   refine qk h118 (by simp only[SubL,and_true];exact⟨by simp[Go.Sx.Sub,SubL],zt⟩) Ωz ?_;repeat' first|refine sD ?_ ?_<;>intro _|refine aAh ?_|simp -dsimp only[↓RP,RQ,seval,QT,hlt2,TYQ,TYP,TYc,QN]
   all_goals try exact Ωa
   refine⟨(i+1,_),⟨hij,?g1,λx hx=>?g2⟩,Ωe,weakSU (xa5 _) (by simp[zk,Go.Sx.look,gL]) ?g3⟩
   case g1=>dsimp only;omega
   case g2=>
    by_cases c:x=i
    ·rw[c];exact hb
    ·exact hR x (by dsimp only at hx;omega)
   case g3=>try unfold gL
            ((repeat' (refine SubHp.ent Ωx ?_));exact λq v hv=>Ωt)
  ·rw[decide_eq_false hb]at h118
   rw[show jR w m j f t lo hi=3 by unfold jR;rw[if_neg n1,if_neg (λc=>c hG),if_neg n2,if_neg (λc=>hb (c i hij))]];clear hb hG hR;repeat' first|refine sD ?_ ?_<;>intro _|refine aAh ?_|simp -dsimp only[↓RP,RQ,seval,QT,hlt2,gL,TYQ,TYP,TYc,QN]
   all_goals try exact Ωa
   refine qk h118 (by simp only[SubL,and_true];exact⟨by simp[Go.Sx.Sub,SubL],zt⟩) Ωz ?_;repeat' first|refine sD ?_ ?_<;>intro _|refine aAh ?_|simp -dsimp only[↓RP,RQ,seval,QT,hlt2,TYQ,TYP,TYc,QN]
   all_goals try exact Ωa
 obtain rfl:i=j:=by omega
 have hlt2:=decide_eq_false (Ω:¬((i:Nat):Int)<(i:Nat));rw[show jR w m i f t lo hi=0 by unfold jR;rw[if_neg n1,if_neg (λc=>c hG),if_neg n2,if_pos hR]];repeat' first|refine sD ?_ ?_<;>intro _|refine aAh ?_|simp -dsimp only[↓RP,RQ,seval,QT,hlt2,TYQ,TYP,TYc,QN]
 all_goals try exact Ωa
theorem c55(h:Ha)(o:h.Ok):qf Tryz.prog 55 [haS h] (I 0):=by
 have:=qqH h.w h.m h.k (λi=>h.f i) (λi=>h.t i) h.lo h.hi;have h1:=o.w1;have h2:=o.w2;have h3:=o.k;have h4:=o.m;rw[show jR h.w h.m h.k (λi=>h.f i) (λi=>h.t i) h.lo h.hi=0 by
  unfold jR;rw[if_neg Ω,if_neg (λc=>c λj hj=>by have:=o.ft j hj;dsimp only;omega),if_neg Ω,if_pos (show gR h.lo h.hi h.k from o.lh)]]at this
 exact this
theorem c49(h:Ha)(o:h.Ok)(m:Nat)(u:Nat→Int)(hm:m≤1000000):qf Tryz.prog 49 [haS h,qA m u] (I (ckT h m u)):=by
 have h1:=c55 h o;have hw:=o.w2;have hk:=o.k;have hM:=o.m;refine qg Tryz.func49 rfl Ωc follows Ωc _ _ (by rw[Tryz.ntmps49];simp) (by simp only[OldL,jg h,and_true,true_and];simp[Old,qA]) ?_;have NB:True:=trivial
 conv=>arg 4;unfold qA haS
 repeat' first|refine sD ?_ ?_<;>intro _|refine aAh ?_|simp -dsimp only[↓RP,RQ,seval,TYQ,TYP,TYc,QT,QN]
 all_goals try exact Ωa
 refine kb h1 Ω4 ?_;by_cases hmw:m=h.w
 case neg=>
  have d1:=decide_eq_false (Ω:¬((m:Nat):Int)=(h.w:Nat));have e:ckT h m u=15:=by unfold ckT;rw[if_pos hmw]
  rw[e];repeat' first|refine sD ?_ ?_<;>intro _|refine aAh ?_|simp -dsimp only[↓RP,RQ,seval,QT,d1,TYQ,TYP,TYc,QN]
  all_goals try exact Ωa
 subst hmw;repeat' first|refine sD ?_ ?_<;>intro _|refine aAh ?_|simp -dsimp only[↓RP,RQ,seval,QT,TYQ,TYP,TYc,QN]
 all_goals try exact Ωa
 refine qo (λ(i:Nat)=>i≤h.w∧∀j,j<i→0≤u j∧u j≤h.m) (λi=>⟨[(1,.arr false false h.w 1 (λi _=>.val (.int .i64 (u i)))),(2,.ptr 0 0),(5,.val (.int .i64 (i:Nat)))],[(0,.cells 97 [.val (.int .i64 h.w),.val (.int .i64 h.m),ctR h])],50+40*i⟩) (λi=>h.w - i) 0 ⟨xb6 _,λj hj=>absurd hj (Nat.not_lt_zero j)⟩ (weakSU Ω Ωd (λq v hv=>hv)) λi hi=>?_;obtain⟨hi,hall⟩:=hi;clear NB;have NB:=nmA (Ω:0<50+40*i);by_cases hiw:i<h.w
 ·have hlt:=decide_eq_true (Ω:((i:Nat):Int)<(h.w:Nat))
  by_cases hui:0≤u i∧u i≤h.m
  ·have d1:=decide_eq_false (Ω:¬u i<0)
   have d2:=decide_eq_false (Ω:¬h.m<u i);repeat' first|refine sD ?_ ?_<;>intro _|refine aAh ?_|simp -dsimp only[↓RP,RQ,seval,QT,hlt,d1,d2,TYQ,TYP,TYc,QN]
   all_goals try exact Ωa
   refine⟨i+1,⟨hiw,λj hj=>?b1⟩,Ω,weakSU Ω Ωd (λq v hv=>hv)⟩
   case b1=>
    by_cases c:j=i
    ·rw[c];exact hui
    ·exact hall j Ω
  ·have e:ckT h h.w u=3:=by
    unfold ckT;rw[if_neg Ωg,if_pos (λc=>hui (c i hiw))]
   rw[e];clear e hall;have hiZ:((i:Nat):Int)<(h.w:Nat):=by omega
   by_cases c:u i<0
   ·have d1:=decide_eq_true c
    clear hui;repeat' first|refine sD ?_ ?_<;>intro _|refine aAh ?_|simp -dsimp only[↓RP,RQ,seval,QT,hlt,d1,TYQ,TYP,TYc,QN]
    all_goals exact hiZ
   ·have d1:=decide_eq_false c
    have d2:=decide_eq_true (Ω:h.m<u i);clear hui;repeat' first|refine sD ?_ ?_<;>intro _|refine aAh ?_|simp -dsimp only[↓RP,RQ,seval,QT,hlt,d1,d2,TYQ,TYP,TYc,QN]
    all_goals exact hiZ
 obtain rfl:i=h.w:=by omega
 have hlt:=decide_eq_false (Ω:¬((h.w:Nat):Int)<(h.w:Nat));repeat' first|refine sD ?_ ?_<;>intro _|refine aAh ?_|simp -dsimp only[↓RP,RQ,seval,QT,hlt,TYQ,TYP,TYc,QN]
 all_goals try exact Ωa
 refine qo (λ(z:Nat×Nat)=>z.1≤h.k∧0<z.2∧h.sOk u z.1) (λz=>⟨[(1,.arr false false h.w 1 (λi _=>.val (.int .i64 (u i)))),(2,.ptr 0 0),(6,.val (.int .i64 (z.1:Nat)))],[(0,.cells 97 [.val (.int .i64 h.w),.val (.int .i64 h.m),ctR h])],z.2⟩) (λz=>h.k - z.1) (0,_) ⟨xb6 _,?c1,λj hj=>absurd hj (Nat.not_lt_zero j)⟩ (weakSU (xa5 _) Ωd (λq v hv=>hv)) λz hz=>?_
 case c1=>dsimp only;omega
 obtain⟨j,n1⟩:=z;obtain⟨hj,hn1,hS⟩:=hz;dsimp only at hj hn1 hS;dsimp only;clear NB;have NB:=nmA hn1;have hu2:∀i,i<h.w→0≤u i∧u i≤1000000000:=λi hi=>by have:=hall i hi;omega
 have ea:¬¬ve u h.w 0 h.m:=λc=>c hall;by_cases hjk:j<h.k
 ·have hlt2:=decide_eq_true (Ω:((j:Nat):Int)<(h.k:Nat))
  have ft:=o.ft j hjk;have h51:=c51 h.w u (h.f j) (h.t j) Ω Ω Ω hu2;have hsb:=qcS hu2 (a:=h.f j) (d:=h.t j+1 - h.f j) Ω;rw[show h.f j+(h.t j+1 - h.f j)=h.t j+1 by omega]at hsb;repeat' first|refine sD ?_ ?_<;>intro _|refine aAh ?_|simp -dsimp only[↓RP,RQ,seval,QT,hlt2,ctR,ctL,TYQ,TYP,TYc,QN]
  all_goals try exact Ωa
  refine qk h51 (by simp only[SubL,and_true];exact⟨by simp[qA,Go.Sx.Sub],zt,zt⟩) (by simp[Fresh,I]) ?_;obtain⟨X,hX⟩:∃X,X=pfx u (h.t j+1) - pfx u (h.f j):=⟨_,rfl⟩;have hX2:h.sum u j=X:=hX.symm;rw[←hX];by_cases hs:h.lo j≤X∧X≤h.hi j
  ·have d1:=decide_eq_false (Ω:¬X<h.lo j)
   have d2:=decide_eq_false (Ω:¬h.hi j<X);repeat' first|refine sD ?_ ?_<;>intro _|refine aAh ?_|simp -dsimp only[↓RP,RQ,seval,QT,hlt2,d1,d2,TYQ,TYP,TYc,QN]
   all_goals try exact Ωa
   refine⟨(j+1,_),⟨hjk,?d3,λx hx=>?d4⟩,Ωe,weakSU (xa5 _) Ωd ?d5⟩
   case d3=>dsimp only;omega
   case d4=>
    by_cases c:x=j
    ·rw[c,hX2];exact hs
    ·exact hS x (by dsimp only at hx;omega)
   case d5=>((repeat' (refine SubHp.ent Ωx ?_));exact λq v hv=>Ωt)
  ·have e:ckT h h.w u=14:=by
    unfold ckT;rw[if_neg Ωg,if_neg ea,if_neg (λc=>hs (by have:=c j hjk;rwa [hX2]at this))]
   rw[e];clear e hall;by_cases c:X<h.lo j
   ·have d1:=decide_eq_true c
    clear hs;repeat' first|refine sD ?_ ?_<;>intro _|refine aAh ?_|simp -dsimp only[↓RP,RQ,seval,QT,hlt2,d1,TYQ,TYP,TYc,QN]
    all_goals try exact Ωa
   ·have d1:=decide_eq_false c
    have d2:=decide_eq_true (Ω:h.hi j<X);clear hs;repeat' first|refine sD ?_ ?_<;>intro _|refine aAh ?_|simp -dsimp only[↓RP,RQ,seval,QT,hlt2,d1,d2,TYQ,TYP,TYc,QN]
    all_goals try exact Ωa
 ·obtain rfl:j=h.k:=by omega
  have hlt2:=decide_eq_false (Ω:¬((h.k:Nat):Int)<(h.k:Nat));have e:ckT h h.w u=0:=by
   unfold ckT;rw[if_neg Ωg,if_neg ea,if_pos hS]
  rw[e];repeat' first|refine sD ?_ ?_<;>intro _|refine aAh ?_|simp -dsimp only[↓RP,RQ,seval,QT,hlt2,ctR,TYQ,TYP,TYc,QN]
  all_goals try exact Ωa
end Go.Tn
end
section
namespace Go.Tn
open Go.Proofs
open Go.Sx
end Go.Tn
end
section
namespace Go.Tn
open Go.Proofs
open Go.Sx
theorem TYt:True∧qn Tryz.prog 32=some ⟨false,1,some [.slice none 0 0],.slice 2 1⟩∧qn Tryz.prog 2=some ⟨false,1,some [.int .i64 0],.int .i64⟩:=⟨trivial,Ωc,Ωc⟩
theorem c57(n r:Nat)(hr:r<n)(hn1:2≤n)(hn:n≤8):qf Tryz.prog 57 [I n,I r] (.arr true false 2 1 (λi _=>if i=0 then .arr true false 1 1 (λ_ _=>.val (.int .i64 r))else .arr true false (n - 1) 1 (λj _=>.val (.int .i64 (if j<r then j else j+1:Nat))))):=by
 refine qg Tryz.func57 rfl Ωc follows Ωc _ _ (by rw[Tryz.ntmps57];simp) (by simp[OldL,Old,I]) ?_;have NB:True:=trivial;unfold I;repeat' first|refine sD ?_ ?_<;>intro _|refine aAh ?_|simp -dsimp only[↓RP,RQ,seval,TYP,NB,QR,QT,QN]
 all_goals try exact Ωa
 refine qo (λ(z:Nat×Nat×Nat×Nat×(Nat→Nat→SV))=>z.1≤n∧2<z.2.2.1∧z.2.2.1<z.2.1∧z.2.2.2.1=(if r<z.1 then z.1 - 1 else z.1)∧∀j,j<z.2.2.2.1→z.2.2.2.2 j 0=.val (.int .i64 (if j<r then j else j+1:Nat))) (λz=>⟨[(0,.val (.int .i64 n)),(1,.val (.int .i64 r)),(5,.vec z.2.2.1 z.2.2.2.1 1),(6,.val (.int .i64 (z.1:Nat)))],[(z.2.2.1,.rows 3 1 z.2.2.2.1 z.2.2.2.2)],z.2.1⟩) (λz=>n - z.1) (0,4,3,0,λ_ _=>.top) ⟨xb6 _,Ωe,Ωe,Ωg,λj hj=>(by cases hj)⟩ (Weak.trans (KT (t:=3) (k:=1) (d:=5) (λ_ _=>.top) Ωs) (weakSU (xa5 _) Ωad ?hA)) λz hz=>?_
 case hA=>((repeat' (refine SubHp.ent ΩT ?_));exact λq v hv=>Ωt)
 obtain⟨w,nid,vid,L,row⟩:=z;obtain⟨hw,n1,n2,hL,hrow⟩:=hz;dsimp only at hw n1 n2 hrow hL;dsimp only;have hL2:L≤w:=by rw[hL];split<;>omega
 clear NB;have NB:=nmA (Ω:vid<nid);by_cases hwn:w<n
 ·have hlt:=decide_eq_true (Ω:((w:Nat):Int)<(n:Nat))
  by_cases e:w=r
  ·subst e
   have e3:decide (((w:Nat):Int)=(w:Nat))=true:=decide_eq_true rfl;repeat' first|refine sD ?_ ?_<;>intro _|refine aAh ?_|simp -dsimp only[↓RP,RQ,seval,hlt,e3,TYP,NB,QR,QT,QN]
   all_goals try exact Ωa
   refine⟨(w+1,_,vid,L,row),⟨Ωe,Ωe,?n,by dsimp only;rw[hL];simp,hrow⟩,Ωe,weakSU (xa5 _) Ωd ?hs⟩
   case n=>dsimp only;omega
   case hs=>((repeat' (refine SubHp.ent Ωn ?_));exact λq v hv=>Ωt)
  ·have e3:=decide_eq_false (Ω:¬((w:Nat):Int)=(r:Nat))
   repeat' first|refine sD ?_ ?_<;>intro _|refine aAh ?_|simp -dsimp only[↓RP,RQ,seval,hlt,e3,TYP,NB,QR,QT,QN]
   all_goals try exact Ωa
   refine⟨(w+1,_,nid+9,L+1,λi j=>if i<L then row i j else [.val (.int .i64 (w:Nat))].getD (i - L+j) .top),⟨Ωe,Ωe,?n,?l,?ar⟩,Ωe,weakSU (xa5 _) Ωd ?hs⟩
   case n=>dsimp only;omega
   case l=>dsimp only;rw[hL];by_cases e4:r<w;(rw[if_pos e4,if_pos Ω];omega);rw[if_neg e4,if_neg Ω]
   case ar=>
    intro j hj;dsimp only at hj ⊢;by_cases e5:j<L
    ·rw[if_pos e5];exact hrow j e5
    ·obtain rfl:j=L:=by omega
     rw[if_neg e5,xb8];have:(if j<r then j else j+1)=w:=by
      rw[hL];by_cases e4:r<w
      ·rw[if_pos e4,if_neg Ω];omega
      ·rw[if_neg e4,if_pos Ω]
     rw[this];rfl
   case hs=>((repeat' (refine SubHp.ent Ωn ?_));exact λq v hv=>Ωt)
 ·have hlt:=decide_eq_false (Ω:¬((w:Nat):Int)<(n:Nat))
  obtain rfl:w=n:=by omega
  have hLn:L=w - 1:=by rw[hL,if_pos hr]
  subst hLn;have NB2:=(⟨nmE (Ω:nid+4≠vid),nmE (Ω:nid+6≠vid),nmE (Ω:nid+6≠nid+4)⟩:_∧_∧_);repeat' first|refine sD ?_ ?_<;>intro _|refine aAh ?_|simp -dsimp only[↓RP,RQ,seval,hlt,TYP,NB,QR,QT,QN]
  all_goals try exact Ωa
  intro i j hi hj;obtain rfl:j=0:=by omega
  rcases(Ω:i=0∨i=1)with rfl|rfl
  ·rw[if_pos rfl]
   refine qaR (r:=λi j=>[.val (.int .i64 (r:Nat))].getD (i+j) .top) (by simp[blk,NB,NB2]) λi hi=>?_;obtain rfl:i=0:=by omega
   rfl
  ·rw[if_neg Ω]
   exact qaR (r:=row) (by simp[blk,NB,NB2]) hrow
def psL(u:Nat→Int):Nat→List Nat
 |0=>[]
 |r+1=>if 0<u r then psL u r++[r]else psL u r
theorem c56(n:Nat)(u:Nat→Int)(d st:Int)(hn:n≤8)(hu:∀i,i<n→0≤u i∧u i≤1000)(hd:0≤d∧d≤100)(hst:InK .i64 st):qf Tryz.prog 56 [qA n u,I d,I st] (.agg [I 0,I n,.arr true false (psL u n).length 3 (λi j=>[SV.val (.int .i64 ((psL u n).getD i 0:Nat)),SV.val (.int .i64 (-1)),SV.val (.int .i64 (u ((psL u n).getD i 0)))].getD j .top),.val (.slice none 0 0),B false,I 0,I (10*d),I st]):=by
 refine qg Tryz.func56 rfl Ωc follows Ωc _ _ (by rw[Tryz.ntmps56];simp) (by simp[OldL,Old,I,qA]) ?_;have NB:True:=trivial
 conv=>arg 4;unfold qA I
 unfold I B;repeat' first|refine sD ?_ ?_<;>intro _|refine aAh ?_|simp -dsimp only[↓RP,RQ,seval,TYP,TYt,NB,QR,QT,QN]
 all_goals try exact Ωa
 have hpl:∀r,(psL u r).length≤r:=λr=>by
  induction r with
  |zero=>exact xa5 _
  |succ r ih=>unfold psL;split<;>(try rw[xc8,xd1])<;>omega
 have by51:qG Tryz.prog 51=24:=by kernel_rfl
 refine qo (λ(z:Nat×Nat×Nat×(Nat→Nat→SV))=>z.1≤n∧(7<z.2.2.1∧z.2.2.1<z.2.1)∧∀i,i<(psL u z.1).length→∀j,j<3→z.2.2.2 i j=[SV.val (.int .i64 ((psL u z.1).getD i 0:Nat)),SV.val (.int .i64 (-1)),SV.val (.int .i64 (u ((psL u z.1).getD i 0)))].getD j .top) (λz=>⟨[(0,.arr false false n 1 (λi _=>.val (.int .i64 (u i)))),(6,.ptr 0 0),(7,.ptr 7 0),(8,.val (.int .i64 (z.1:Nat)))],[(7,.cells 48 [.val (.int .i64 0),.val (.int .i64 n),.vec z.2.2.1 (psL u z.1).length 3,.val (.slice none 0 0),.val (.bool false),.val (.int .i64 0),.val (.int .i64 (10*d)),.val (.int .i64 st)]),(z.2.2.1,.rows 51 3 (psL u z.1).length z.2.2.2),(0,.cells 48 [.val (.int .i64 0),.val (.int .i64 0),.val (.slice none 0 0),.val (.slice none 0 0),.val (.bool false),.val (.int .i64 0),.val (.int .i64 0),.val (.int .i64 0)])],z.2.1⟩) (λz=>n - z.1) (0,11,10,λ_ _=>.top) ⟨xb6 _,?a1,λi hi=>absurd hi (Nat.not_lt_zero i)⟩ (Weak.trans (qkr (b:=7) (i:=2) (k:=3) (te:=51) (λ_ _=>.top) Ωs Ωs) (weakSU (xa5 _) Ωd ?a2)) λz hz=>?_
 case a1=>dsimp only;omega
 case a2=>((repeat' (refine SubHp.ent (by simp[blk,psL]) ?_));exact λq v hv=>Ωt)
 obtain⟨r,n1,sid,row⟩:=z;obtain⟨hr,⟨hs1,hs2⟩,hrow⟩:=hz;dsimp only at hr hs1 hs2 hrow;dsimp only;clear NB;have NB:=(⟨nmA (Ω:7<n1),nmA hs2,nmE (Ω:sid≠7),nmE (Ω:sid≠0),nmA (Ω:0<n1)⟩:_∧_∧_∧_∧_);have hlr:=hpl r;by_cases hrn:r<n
 ·have hlt:=decide_eq_true (Ω:((r:Nat):Int)<(n:Nat))
  have hur:=hu r hrn;by_cases hp:0<u r
  ·have d1:=decide_eq_true hp
   have e1:psL u (r+1)=psL u r++[r]:=by rw[psL,if_pos hp]
   repeat' first|refine sD ?_ ?_<;>intro _|refine aAh ?_|simp -dsimp only[↓RP,RQ,seval,hlt,d1,TYP,TYt,NB,QR,QT,QN]
   all_goals try exact Ωa
   refine qk (c24 r (-1) (u r)) (by simp only[SubL,and_true];exact⟨zt,zt,zt⟩) (by simp[Fresh,FreshL,I,Qd]) ?_;repeat' first|refine sD ?_ ?_<;>intro _|refine aAh ?_|simp -dsimp only[↓RP,RQ,seval,Qd,QT,TYP,TYt,NB,QR,QN]
   all_goals try exact Ωa
   have e2:(psL u (r+1)).length=(psL u r).length+1:=by rw[e1,xc8,xd1]
   have e3:∀i,i<(psL u r).length→(psL u (r+1)).getD i 0=(psL u r).getD i 0:=λi hi=>by rw[e1,xc6,xc9 hi,←xc6]
   have e4:(psL u (r+1)).getD (psL u r).length 0=r:=by rw[e1,xc6,xd0 (xa5 _),xb8];rfl
   refine⟨⟨.inr trivial,xa5 _,λi j hi hj=>?o1,?o2⟩,by simp only[InK];omega,(r+1,_,n1+18,λi j=>if i<(psL u r).length then row i j else [SV.val (.int .i64 (r:Nat)),SV.val (.int .i64 (-1)),SV.val (.int .i64 (u r))].getD ((i -(psL u r).length)*3+j) .top),⟨hrn,⟨Ωe,?p2⟩,?p3⟩,Ωe,weakSU (xa5 _) Ωd ?p4⟩
   case o1=>
    obtain rfl:i=0:=by omega
    rcases(Ω:j=0∨j=1∨j=2)with rfl|rfl|rfl<;>rfl
   case o2=>omega
   case p2=>dsimp only;omega
   case p3=>
    intro i hi;dsimp only at hi ⊢;rw[e2]at hi;by_cases h:i<(psL u r).length
    ·simp only[if_pos h,e3 i h];exact⟨hrow i h 0 Ω,hrow i h 1 Ω,hrow i h 2 Ω⟩
    ·obtain rfl:i=(psL u r).length:=by omega
     simp only[if_neg h,e4,xb8];exact⟨rfl,rfl,rfl⟩
   case p4=>dsimp only;rw[e2];((repeat' (refine SubHp.ent Ωx ?_));exact λq v hv=>Ωt)
  ·have d1:=decide_eq_false hp
   have e1:psL u (r+1)=psL u r:=by rw[psL,if_neg hp]
   repeat' first|refine sD ?_ ?_<;>intro _|refine aAh ?_|simp -dsimp only[↓RP,RQ,seval,hlt,d1,TYP,TYt,NB,QR,QT,QN]
   all_goals try exact Ωa
   refine⟨(r+1,_,sid,row),⟨hrn,⟨hs1,?b1⟩,?b2⟩,Ωe,weakSU (xa5 _) Ωd (by dsimp only;rw[e1];exact λq v hv=>hv)⟩
   case b1=>dsimp only;omega
   case b2=>intro i hi;dsimp only at hi ⊢;rw[e1]at hi ⊢;exact⟨hrow i hi 0 Ω,hrow i hi 1 Ω,hrow i hi 2 Ω⟩
 ·obtain rfl:r=n:=by omega
  have hlt:=decide_eq_false (Ω:¬((r:Nat):Int)<(r:Nat));repeat' first|refine sD ?_ ?_<;>intro _|refine aAh ?_|simp -dsimp only[↓RP,RQ,seval,hlt,TYP,TYt,NB,QR,QT,QN]
  all_goals try exact Ωa
  intro i j hi hj;rw[hrow i hi j hj];exact qeN (nb:=(psL u r).length) (f:=λi=>((psL u r).getD i 0:Nat)) (g:=λ_=>-1) (q:=λi=>u ((psL u r).getD i 0)) i j hi hj
end Go.Tn
end
section
namespace Go.Tn
open Go.Proofs
open Go.Sx
theorem Ha.Tru.mono{h:Ha}{F:Nat→Int}(hF:h.Tru F)(hm:h.m≤1000000){i:Nat}:∀{d:Nat},i+d≤h.w→0≤F (i+d) - F i∧F (i+d) - F i≤1000000*d
 |0,_=>by simp
 |d+1,hd=>by
  have h1:=Ha.Tru.mono hF hm (i:=i) (d:=d) Ω;have h2:=hF.1 (i+d) Ω;rw[←xb2];omega
theorem Lst.tru{h:Ha}(o:h.Ok){a:Nat}{D:Nat→Int}(hD:Lst h.C (h.w+1) a D):h.Tru D:=o.fea.1 hD.2.1
theorem Ha.Tru.bd{h:Ha}(o:h.Ok){F:Nat→Int}(hF:h.Tru F){i j:Nat}(hi:i≤h.w)(hj:j≤h.w) : -10000000≤F i - F j∧F i - F j≤10000000:=by
 have hw:=o.w2;by_cases c:i≤j
 ·have:=hF.mono o.m.2 (i:=i) (d:=j - i) Ω
  rw[show i+(j - i)=j by omega]at this;omega
 ·have:=hF.mono o.m.2 (i:=j) (d:=i - j) Ω
  rw[show j+(i - j)=i by omega]at this;omega
theorem c50(h:Ha)(o:h.Ok)(a b:Nat)(hab:a≤b)(hb:b<h.w):(∃D E,Lst h.C (h.w+1) a D∧Lst h.C (h.w+1) (b+1) E∧qf Tryz.prog 50 [haS h,I a,I b] (.tup [.agg [I (- E a),I (D (b+1))],I 0]))∨((∀F,¬h.Tru F)∧qf Tryz.prog 50 [haS h,I a,I b] (.tup [.agg [I 0,I 0],I 5])):=by
 have hw:=o.w2;have h1:=qqG h o;have d1:=decide_eq_false (Ω:¬((a:Nat):Int)<0);have d2:=decide_eq_false (Ω:¬((b:Nat):Int)<(a:Nat));have d3:=decide_eq_false (Ω:¬((h.w:Nat):Int)≤(b:Nat));rcases qph h o a Ω with⟨D,hD,h2⟩|⟨hno,h2⟩
 ·rcases qph h o (b+1) Ω with⟨E,hE,h3⟩|⟨hno,h3⟩
  ·refine .inl ⟨D,E,hD,hE,?_⟩
   have e1:=(hE.tru o).bd o (i:=a) (j:=b+1) Ω Ω;rw[hE.1]at e1;refine qg Tryz.func50 rfl Ωc follows Ωc _ _ (by rw[Tryz.ntmps50];simp) (by simp only[OldL,jg h,and_true,true_and];simp[Old,I]) ?_;unfold haS;repeat' first|refine sD ?_ ?_<;>intro _|refine aAh ?_|simp -dsimp only[↓RP,RQ,seval,TYQ,TYP,TYc,TYd,QT,QN]
   all_goals try exact Ωa
   refine kb h1 ΩD ?_;repeat' first|refine sD ?_ ?_<;>intro _|refine aAh ?_|simp -dsimp only[↓RP,RQ,seval,QT,shN,d1,d2,d3,TYQ,TYP,TYc,TYd,QN]
   all_goals try exact Ωa
   refine qk h2 ΩI Ωaa ?_;repeat' first|refine sD ?_ ?_<;>intro _|refine aAh ?_|simp -dsimp only[↓RP,RQ,seval,QT,d1,d2,d3,TYQ,TYP,TYc,TYd,QN]
   all_goals try exact Ωa
   rw[show((b+1:Nat):Int)=(b:Int)+1 from by omega]at h3;refine qk h3 ΩI Ωaa ?_;repeat' first|refine sD ?_ ?_<;>intro _|refine aAh ?_|simp -dsimp only[↓RP,RQ,seval,QT,d1,d2,d3,TYQ,TYP,TYc,TYd,QN]
   all_goals try exact Ωa
   rw[show((b:Nat)+1:Int).toNat=b+1 by omega,show 0 - E a = - E a by omega];exact⟨rfl,rfl⟩
  ·exact absurd (hD.tru o) (hno D)
 ·refine .inr ⟨hno,?_⟩
  refine qg Tryz.func50 rfl Ωc follows Ωc _ _ (by rw[Tryz.ntmps50];simp) (by simp only[OldL,jg h,and_true,true_and];simp[Old,I]) ?_;unfold haS;repeat' first|refine sD ?_ ?_<;>intro _|refine aAh ?_|simp -dsimp only[↓RP,RQ,seval,TYQ,TYP,TYc,TYd,QT,QN]
  all_goals try exact Ωa
  refine kb h1 ΩD ?_;repeat' first|refine sD ?_ ?_<;>intro _|refine aAh ?_|simp -dsimp only[↓RP,RQ,seval,QT,shN,d1,d2,d3,TYQ,TYP,TYc,TYd,QN]
  all_goals try exact Ωa
  refine qk h2 ΩI Ωaa ?_;repeat' first|refine sD ?_ ?_<;>intro _|refine aAh ?_|simp -dsimp only[↓RP,RQ,seval,QT,d1,d2,d3,TYQ,TYP,TYc,TYd,QN]
  all_goals try exact Ωa
theorem qaX:qG Tryz.prog 2=8:=by kernel_rfl
theorem c53(h:Ha)(o:h.Ok):(∃D,Lst h.C (h.w+1) 0 D∧qf Tryz.prog 53 [haS h] (.tup [.arr true false h.w 1 (λi _=>.val (.int .i64 (D (i+1) - D i))),I 0]))∨((∀F,¬h.Tru F)∧qf Tryz.prog 53 [haS h] (.tup [.val (.slice none 0 0),I 5])):=by
 have hw:=o.w2;have h1:=qqG h o;rcases qph h o 0 Ω with⟨D,hD,h2⟩|⟨hno,h2⟩
 ·refine .inl ⟨D,hD,?_⟩
  refine qg Tryz.func53 rfl Ωc follows Ωc _ _ (by rw[Tryz.ntmps53];simp) (by simp only[OldL,jg h,and_true,true_and]) ?_;unfold haS;repeat' first|refine sD ?_ ?_<;>intro _|refine aAh ?_|simp -dsimp only[↓RP,RQ,seval,TYQ,TYP,TYc,TYd,qaX,QR,QT,QN]
  all_goals try exact Ωa
  refine kb h1 ΩD ?_;repeat' first|refine sD ?_ ?_<;>intro _|refine aAh ?_|simp -dsimp only[↓RP,RQ,seval,QT,shN,TYQ,TYP,TYc,TYd,qaX,QR,QN]
  all_goals try exact Ωa
  refine qk h2 ΩI Ωaa ?_;repeat' first|refine sD ?_ ?_<;>intro _|refine aAh ?_|simp -dsimp only[↓RP,RQ,seval,QT,TYQ,TYP,TYc,TYd,qaX,QR,QN]
  all_goals try exact Ωa
  refine qo (λ(z:Nat×Nat×Nat×(Nat→Nat→SV))=>z.1≤h.w∧(0<z.2.2.1∧z.2.2.1<z.2.1)∧∀j,j<z.1→z.2.2.2 j 0=.val (.int .i64 (D (j+1) - D j))) (λz=>⟨[(1,.ptr 0 0),(6,.ref true (h.w+1) (λi=>.val (.int .i64 (D i)))),(8,.vec z.2.2.1 z.1 1),(27,.val (.int .i64 (h.w:Nat))),(28,.val (.int .i64 (z.1:Nat)))],[(z.2.2.1,.rows 2 1 z.1 z.2.2.2),(0,.cells 97 [.val (.int .i64 h.w),.val (.int .i64 h.m),ctR h])],z.2.1⟩) (λz=>h.w - z.1) (0,26,25,λ_ _=>.top) ⟨xb6 _,?hB,λj hj=>absurd hj (Nat.not_lt_zero j)⟩ (Weak.trans (KT (t:=2) (k:=1) (d:=8) (λ_ _=>.top) Ωs) (weakSU (xa5 _) Ωad ?hA)) λz hz=>?_
  case hA=>((repeat' (refine SubHp.ent ΩT ?_));exact λq v hv=>Ωt)
  case hB=>dsimp only;omega
  obtain⟨i,n1,sid,row⟩:=z;obtain⟨hi,⟨hs1,hs2⟩,hrow⟩:=hz;dsimp only at hi hs1 hs2 hrow;dsimp only;have NB:=(⟨nmA (Ω:0<n1),nmA hs2,nmE (Ω:sid≠0)⟩:_∧_∧_);by_cases hiw:i<h.w
  ·have hlt:=decide_eq_true (Ω:((i:Nat):Int)<(h.w:Nat))
   have b1:=(hD.tru o).bd o (i:=i+1) (j:=i) Ω Ω;have b2:=(hD.tru o).bd o (i:=i+1) (j:=0) Ω Ω;have b3:=(hD.tru o).bd o (i:=i) (j:=0) Ω Ω;have hn1:((i:Nat)+1:Int).toNat=i+1:=by omega
   repeat' first|refine sD ?_ ?_<;>intro _|refine aAh ?_|simp -dsimp only[↓RP,RQ,seval,hlt,hn1,NB,TYQ,TYP,TYc,TYd,qaX,QR,QT,QN]
   all_goals try exact Ωa
   refine⟨(i+1,_,n1+19,λa b=>if a<i then row a b else [SV.val (.int .i64 (D (i+1) - D i))].getD (a - i+b) .top),⟨hiw,?a1,?a2⟩,Ωe,weakSU (xa5 _) Ωd ?a3⟩
   case a1=>dsimp only;omega
   case a2=>
    intro j hj;dsimp only at hj ⊢;by_cases e:j<i
    ·rw[if_pos e];exact hrow j e
    ·obtain rfl:j=i:=by omega
     rw[if_neg e,xb8];rfl
   case a3=>((repeat' (refine SubHp.ent Ωx ?_));exact λq v hv=>Ωt)
  ·obtain rfl:i=h.w:=by omega
   have hlt:=decide_eq_false (Ω:¬((h.w:Nat):Int)<(h.w:Nat));repeat' first|refine sD ?_ ?_<;>intro _|refine aAh ?_|simp -dsimp only[↓RP,RQ,seval,hlt,NB,TYQ,TYP,TYc,TYd,qaX,QR,QT,QN]
   all_goals try exact Ωa
   refine⟨⟨xa5 _,.inr trivial,xa5 _,λx j hx hj=>?_⟩,xa5 _,λx j hx hj=>?_⟩
   ·obtain rfl:j=0:=by omega
    rw[hrow x hx];rfl
   ·obtain rfl:j=0:=by omega
    rw[if_pos Ω,hrow x hx]
 ·refine .inr ⟨hno,?_⟩
  refine qg Tryz.func53 rfl Ωc follows Ωc _ _ (by rw[Tryz.ntmps53];simp) (by simp only[OldL,jg h,and_true,true_and]) ?_;unfold haS;repeat' first|refine sD ?_ ?_<;>intro _|refine aAh ?_|simp -dsimp only[↓RP,RQ,seval,TYQ,TYP,TYc,TYd,qaX,QR,QT,QN]
  all_goals try exact Ωa
  refine kb h1 ΩD ?_;repeat' first|refine sD ?_ ?_<;>intro _|refine aAh ?_|simp -dsimp only[↓RP,RQ,seval,QT,shN,TYQ,TYP,TYc,TYd,qaX,QR,QN]
  all_goals try exact Ωa
  refine qk h2 ΩI Ωaa ?_;repeat' first|refine sD ?_ ?_<;>intro _|refine aAh ?_|simp -dsimp only[↓RP,RQ,seval,QT,TYQ,TYP,TYc,TYd,qaX,QR,QN]
  all_goals try exact Ωa
end Go.Tn
end
section
namespace Go.Tn
open Go.Proofs
open Go.Sx
variable{n r:Nat}{h:Ha}
theorem VN{f q f' q':Nat→Int}{r:Int}:∀{w:Nat},(∀i,i<w→f i=f' i∧q i=q' i)→cF f q w r=cF f' q' w r
 |0,_=>rfl
 |w+1,h=>by rw[JV,JV,VN λi hi=>h i Ω,(h w Ω).1,(h w Ω).2]
theorem qnT{f q:Nat→Int}{r:Int}:∀{w:Nat},(∀i,i<w→1≤q i)→cF f q w r≤sQ q w
 |0,_=>by simp[cF,sQ]
 |w+1,h=>by
  have:=qnT (f:=f) (q:=q) (r:=r) (w:=w) λi hi=>h i (Ω:i<w+1);have:=h w Ω;rw[JV,qgF];split<;>omega
def psF(u:Nat→Int)(n:Nat):Nat→Int:=λi=>((psL u n).getD i 0:Nat)
def psQ(u:Nat→Int)(n:Nat):Nat→Int:=λi=>u ((psL u n).getD i 0)
theorem qfb{l:List Nat}{i:Nat}(h:i<l.length):(l++[r]).getD i 0=l.getD i 0:=by rw[xc6,xc9 h,←xc6]
theorem W7{l:List Nat}:(l++[r]).getD l.length 0=r:=by rw[xc6,xd0 (xa5 _),xb8];rfl
theorem qmY(u:Nat→Int)(n:Nat):(psL u n).length≤n:=by
 induction n with
 |zero=>exact xa5 _
 |succ r ih=>unfold psL;split<;>(try rw[xc8,xd1])<;>omega
theorem KY(u:Nat→Int):∀n i,i<(psL u n).length→(psL u n).getD i 0<n∧0<u ((psL u n).getD i 0)
 |0,i,h=>absurd h (Nat.not_lt_zero _)
 |n+1,i,h=>by
  by_cases c:0<u n
  ·have e:psL u (n+1)=psL u n++[n]:=by rw[psL,if_pos c]
   rw[e,xc8,xd1]at h;rw[e];by_cases h2:i<(psL u n).length
   ·rw[qfb h2];have:=KY u n i h2;exact⟨Ω,this.2⟩
   ·obtain rfl:i=(psL u n).length:=by omega
    rw[W7];exact⟨Ω,c⟩
  ·have e:psL u (n+1)=psL u n:=by rw[psL,if_neg c]
   rw[e]at h ⊢;have:=KY u n i h;exact⟨Ω,this.2⟩
theorem qnU(u:Nat→Int)(r:Nat):∀n,(∀i,i<n→0≤u i)→cF (psF u n) (psQ u n) (psL u n).length (r:Nat)=if r<n then u r else 0
 |0,_=>by simp[psL,cF]
 |n+1,hu=>by
  have ih:=qnU u r n λi hi=>hu i Ω;by_cases c:0<u n
  ·have e:psL u (n+1)=psL u n++[n]:=by rw[psL,if_pos c]
   have e2:(psL u (n+1)).length=(psL u n).length+1:=by rw[e,xc8,xd1]
   rw[e2,JV,VN (f':=psF u n) (q':=psQ u n) λi hi=>by unfold psF psQ;rw[e,qfb hi];exact⟨rfl,rfl⟩,ih];have e3:psF u (n+1) (psL u n).length=(n:Nat):=by unfold psF;rw[e,W7]
   have e4:psQ u (n+1) (psL u n).length=u n:=by unfold psQ;rw[e,W7]
   rw[e3,e4];by_cases h:r=n
   ·subst h;simp
   ·by_cases h2:r<n
    ·rw[if_pos h2,if_neg Ω,if_pos Ω];omega
    ·rw[if_neg h2,if_neg Ω,if_neg Ω];omega
  ·have e:psL u (n+1)=psL u n:=by rw[psL,if_neg c]
   have:=hu n Ω;have e3:cF (psF u (n+1)) (psQ u (n+1)) (psL u (n+1)).length (r:Nat)=cF (psF u n) (psQ u n) (psL u n).length (r:Nat):=by
    unfold psF psQ;rw[e]
   rw[e3,ih];by_cases h:r=n
   ·subst h;rw[if_neg Ω,if_pos Ω];omega
   ·by_cases h2:r<n
    ·rw[if_pos h2,if_pos Ω]
    ·rw[if_neg h2,if_neg Ω]
def Ha.one(h:Ha)(r:Nat)(v:Int):Ha:=⟨h.w,h.m,h.k+1,λj=>if j<h.k then h.f j else r,λj=>if j<h.k then h.t j else r,λj=>if j<h.k then h.lo j else v,λj=>if j<h.k then h.hi j else v⟩
theorem Ha.one_ok(o:h.Ok)(hk:h.k<10)(hr:r<h.w){v:Int}(hv:0≤v∧v≤10000000):(h.one r v).Ok:=by
 refine⟨o.w1,o.w2,(by show h.k+1≤10;omega),o.m,λj hj=>?_,λj hj=>?_⟩
 ·show(if j<h.k then h.f j else r)≤(if j<h.k then h.t j else r)∧(if j<h.k then h.t j else r)<h.w
  by_cases c:j<h.k
  ·rw[if_pos c,if_pos c];exact o.ft j c
  ·rw[if_neg c,if_neg c];exact⟨xa5 _,hr⟩
 ·show 0≤(if j<h.k then h.lo j else v)∧(if j<h.k then h.lo j else v)≤(if j<h.k then h.hi j else v)∧(if j<h.k then h.hi j else v)≤10000000
  by_cases c:j<h.k
  ·rw[if_pos c,if_pos c];exact o.lh j c
  ·rw[if_neg c,if_neg c];omega
theorem Ha.one_tru{v:Int}{F:Nat→Int}:(h.one r v).Tru F↔h.Tru F∧F (r+1) - F r=v:=by
 constructor
 ·rintro⟨h1,h2⟩
  refine⟨⟨h1,λj hj=>?_⟩,?_⟩
  ·have:=h2 j (Ω:j<h.k+1)
   have e1:(h.one r v).t j=h.t j:=if_pos hj;have e2:(h.one r v).f j=h.f j:=if_pos hj;have e3:(h.one r v).lo j=h.lo j:=if_pos hj;have e4:(h.one r v).hi j=h.hi j:=if_pos hj
   rwa [e1,e2,e3,e4]at this
  ·have:=h2 h.k (Ω:h.k<h.k+1)
   have e1:(h.one r v).t h.k=r:=if_neg (xb4 _);have e2:(h.one r v).f h.k=r:=if_neg (xb4 _);have e3:(h.one r v).lo h.k=v:=if_neg (xb4 _);have e4:(h.one r v).hi h.k=v:=if_neg (xb4 _);rw[e1,e2,e3,e4]at this;omega
 ·rintro⟨⟨h1,h2⟩,h3⟩
  refine⟨h1,λj hj=>?_⟩;have hj:j<h.k+1:=hj;by_cases c:j<h.k
  ·have e1:(h.one r v).t j=h.t j:=if_pos c
   have e2:(h.one r v).f j=h.f j:=if_pos c;have e3:(h.one r v).lo j=h.lo j:=if_pos c;have e4:(h.one r v).hi j=h.hi j:=if_pos c;rw[e1,e2,e3,e4];exact h2 j c
  ·have e1:(h.one r v).t j=r:=if_neg c
   have e2:(h.one r v).f j=r:=if_neg c;have e3:(h.one r v).lo j=v:=if_neg c;have e4:(h.one r v).hi j=v:=if_neg c;rw[e1,e2,e3,e4];omega
def dfT(D:Nat→Int):Nat→Int:=λi=>D (i+1) - D i
theorem Jz(D:Nat→Int):∀k,pfx (dfT D) k=D k - D 0
 |0=>by show(0:Int)=_;omega
 |k+1=>by show pfx (dfT D) k+(D (k+1) - D k)=_;rw[Jz D k];omega
theorem qkE{D:Nat→Int}(hD:h.Tru D):ckT h h.w (dfT D)=0:=by
 refine ckT_ok.2 ⟨λi hi=>?_,λj hj=>?_⟩
 ·rw[Jz,Jz];have:=hD.1 i hi;omega
 ·rw[Jz,Jz];have:=hD.2 j hj;omega
theorem qpj(o:h.Ok)(hr:r<h.w){D E F:Nat→Int}(hD:Lst h.C (h.w+1) r D)(hE:Lst h.C (h.w+1) (r+1) E)(hF:h.Tru F) : -E r≤F (r+1) - F r∧F (r+1) - F r≤D (r+1)∧0≤-E r∧-E r≤1000000∧(h.Tru E∧E (r+1) - E r = -E r):=by
 have b1:=hD.2.2 _ (o.fea.2 hF) (r+1) Ω;have b2:=hE.2.2 _ (o.fea.2 hF) r Ω;have tE:=Lst.tru o hE;have b3:=tE.1 r hr;have b4:=hE.1;have b5:=o.m;rw[b4]at b3;refine⟨Ω,Ω,Ω,Ω,tE,Ω⟩
theorem qmZ{f q:Nat→Int}{nb:Nat}(hq:∀i,i<nb→1≤q i∧q i≤1000)(h0:¬cF f q nb (r:Nat)=0):100≤pnF f q 0 0 1 nb 1 r:=by
 have e:=qsh f q 0 nb r;rw[Int.zero_mul]at e;rw[e];have h1:=qnT (f:=f) (q:=q) (r:=(r:Nat)) (w:=nb) λi hi=>(hq i hi).1;have h2:=Jq f q (r:Nat) nb hq;generalize cF f q nb (r:Nat)=U at *;generalize sQ q nb=S at *;rw[Int.tdiv_eq_ediv_of_nonneg Ω];exact Int.le_ediv_of_mul_le Ω Ω
theorem KZ{hp:List (Nat×Blk)}{u:Nat→Int}:Go.Sx.Sub hp (qA n u) (.arr true false n 1 (λi _=>.val (.int .i64 (u i)))):=by
 simp only[qA,Go.Sx.Sub];exact⟨λh=>Ω0,λh=>h,trivial,trivial,λi j hi hj=>trivial⟩
theorem qqI{hp:List (Nat×Blk)}{u:Nat→Int}:Go.Sx.Sub hp (bkS n (psL u n).length (psF u n) (λ_=>-1) (psQ u n) false 0 0 1) (.agg [.val (.int .i64 0),.val (.int .i64 n),.arr true false (psL u n).length 3 (λi j=>[SV.val (.int .i64 ((psL u n).getD i 0:Nat)),SV.val (.int .i64 (-1)),SV.val (.int .i64 (u ((psL u n).getD i 0)))].getD j .top),.val (.slice none 0 0),.val (.bool false),.val (.int .i64 0),.val (.int .i64 0),.val (.int .i64 1)]):=by
 unfold bkS kX;simp only[Go.Sx.Sub,Go.Sx.SubL,and_true,true_and];refine⟨λh=>Ω0,λh=>h,λi j hi hj=>?_⟩;exact qeN (nb:=(psL u n).length) (f:=psF u n) (g:=λ_=>-1) (q:=psQ u n) i j hi hj
theorem qpk(n:Nat)(u:Nat→Int)(hn1:2≤n)(hn:n≤8)(hu:∀i,i<n→0≤u i∧u i≤1000)(r:Nat)(hr:r<n):(u r=0∧qf Tryz.prog 34 [bkS n (psL u n).length (psF u n) (λ_=>-1) (psQ u n) false 0 0 1,.arr false false (jP n r).length 1 (λi _=>.arr false false ((jP n r).getD i []).length 1 (λj _=>.val (.int .i64 (((jP n r).getD i []).getD j 0:Nat))))] (.tup [.val (.slice none 0 0),I 19]))∨(0<u r∧∃p:Int,100≤p∧qf Tryz.prog 34 [bkS n (psL u n).length (psF u n) (λ_=>-1) (psQ u n) false 0 0 1,.arr false false (jP n r).length 1 (λi _=>.arr false false ((jP n r).getD i []).length 1 (λj _=>.val (.int .i64 (((jP n r).getD i []).getD j 0:Nat))))] (.tup [.arr true false 1 3 (λi j=>[SV.val (.int .i64 (([r]:List Nat).getD i 0:Nat)),.val (.int .i64 (-1)),.val (.int .i64 (pnF (psF u n) (psQ u n) 0 0 1 (psL u n).length 1 (([r]:List Nat).getD i 0)))].getD j .top),I 0])∧p=pnF (psF u n) (psQ u n) 0 0 1 (psL u n).length 1 r):=by
 have hf:∀i,i<(psL u n).length→0≤psF u n i∧psF u n i<n:=λi hi=>by
  have:=(KY u n i hi).1;unfold psF;omega
 have hq:∀i,i<(psL u n).length→1≤psQ u n i∧psQ u n i≤1000:=λi hi=>by
  obtain⟨h1,h2⟩:=KY u n i hi;have:=hu _ h1;unfold psQ;omega
 have hl:=qmY u n;have hc:=qnU u r n λi hi=>(hu i hi).1;rw[if_pos hr]at hc;have h0:=hu r hr;by_cases c:u r=0
 ·exact .inl ⟨c,qse n _ _ _ false 0 0 1 hn1 hn Ω hf hq Ω Ω Ω (jP n r) (by show 2≤8;omega) (qnQ n r hn) (qnP n r hn1) (qkt n r hr) (qeP n r hr) [] (qqy (by rw[hc,c])) rfl⟩
 ·have hn0:¬cF (psF u n) (psQ u n) (psL u n).length (r:Nat)=0:=by rw[hc];exact c
  exact .inr ⟨Ω,_,qmZ hq hn0,qsf n _ _ _ false 0 0 1 hn1 hn Ω hf hq Ω Ω Ω (jP n r) (by show 2≤8;omega) (qnQ n r hn) (qnP n r hn1) (qkt n r hr) (qeP n r hr) [r] (qqz hn0) Ωg,rfl⟩
theorem JA{N:Nat}{x:Nat→Value}{y:Nat→Value}:Fresh (.agg [I 0,I n,.arr true false N 3 (λi j=>[SV.val (x i),SV.val (.int .i64 (-1)),SV.val (y i)].getD j .top),.val (.slice none 0 0),B false,I 0,I 0,I 1]):=by
 simp only[Fresh,FreshL,I,B,and_true,true_and];intro i j hi hj;rcases(Ω:j=0∨j=1∨j=2)with rfl|rfl|rfl<;>trivial
theorem QQ:Fresh (.arr true false 2 1 (λi _=>if i=0 then .arr true false 1 1 (λ_ _=>.val (.int .i64 r))else .arr true false (n - 1) 1 (λj _=>.val (.int .i64 (if j<r then j else j+1:Nat))))):=by
 simp only[Fresh];refine⟨trivial,λi j hi hj=>?_⟩;split<;>exact⟨rfl,λ_ _ _ _=>trivial⟩
theorem Kb{K:Nat}{a b c:Nat→Value}{v:Value}:Fresh (.tup [.arr true false K 3 (λi j=>[SV.val (a i),SV.val (b i),SV.val (c i)].getD j .top),.val v]):=by
 simp only[Fresh,FreshL,and_true];refine⟨trivial,λi j hi hj=>?_⟩;rcases(Ω:j=0∨j=1∨j=2)with rfl|rfl|rfl<;>trivial
end Go.Tn
end
