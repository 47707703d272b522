/- A part of the proof. -/
import Derived.Test.YtacejomniokahaaGreatProg
import Derived.Test.YtacejomniokahaaGreatPK
import Derived.Test.YtacejomniokahaaGreatPF
import Derived.Test.YtacejomniokahaaGreatPE
import Derived.Test.YtacejomniokahaaGreatPC
import Derived.Test.YtacejomniokahaaGreatPG
open Nat renaming reduceAdd→xa1,reduceEqDiff→xa2,le_refl→xa5,le_of_ble_eq_true→xa7,zero_add→xb0,add_zero→xb1,add_assoc→xb2,lt_irrefl→xb4,lt_succ_self→xb5,zero_le→xb6,sub_self→xb8,le_of_lt→xb9,le_trans→xc1,le_succ→xc4
open List renaming getD_eq_getElem?_getD→xc6,getElem?_eq_getElem→xc7,length_append→xc8,getElem?_append_left→xc9,getElem?_append_right→xd0,length_singleton→xd1,append_nil→xd3,mem_cons_self→xd5,getElem?_cons_zero→xd6,length_take→xd9,length_map→xe1,getElem?_range→xe3,length_cons→xe4,length_set→xe5
open Bool renaming and_eq_true→xe6,false_eq_true→xe7,true_and→xf0,and_true→xf1,or_false→xf3
open Classical renaming byContradiction→xf9
open Option renaming map_some→xg1
open Go.Sx.SV renaming val→Ψ
open Go.Value renaming int→Φ
open Go.IntKind renaming i64→Γ
set_option linter.unusedVariables false
set_option linter.unusedSimpArgs false
set_option linter.defProp false
set_option maxRecDepth 1000000
set_option maxHeartbeats 16000000
section
namespace Go.Sx
open Go.RowKit
theorem Jr{O:Ctx}{fr:List (Nat×SV)}{hp:List (Nat×Blk)}{nid b i k:Nat}{t te:TypeId}{l:List SV}(row:Nat→Nat→SV)(hb:blk hp b=some (.cells t l))(hi:l[i]? = some (.val (.slice none 0 0))):Weak O ⟨fr,hp,nid⟩ ⟨fr,(b,.cells t (l.set i (.vec nid 0 k))) ::(nid,.rows te k 0 row) :: hp,nid+1⟩:=λbase okc ns outs a w ⟨r,h'⟩=>by
 have hbn:b<nid:=h'.keys b _ hb;obtain⟨r',hst,hrep⟩:=wR h'.sat nid (xb4 _) none (hp':=(nid,.rows te k 0 row) :: hp) (e:=te) (k:=k) (row:=row) ΩS (λj hj _=>by simp only[blk];rw[if_neg (Nat.ne_of_lt hj)]) (λo ho=>by cases ho);rw[gD]at hst hrep;have hb1:blk ((nid,.rows te k 0 row) :: hp) b=some (.cells t l):=by simp only[blk];rw[if_neg (Nat.ne_of_lt hbn)];exact hb
 have dom:∀id x,blk ((b,.cells t (l.set i (.vec nid 0 k))) ::(nid,.rows te k 0 row) :: hp) id=some x→∃y,blk ((nid,.rows te k 0 row) :: hp) id=some y:=λid x hx=>by
  by_cases e:id=b
  ·rw[e];exact⟨_,hb1⟩
  ·rw[show blk ((b,.cells t (l.set i (.vec nid 0 k))) ::(nid,.rows te k 0 row) :: hp) id=blk ((nid,.rows te k 0 row) :: hp) id by simp only[blk];rw[if_neg e]]at hx
   exact⟨x,hx⟩
 have gd:∀o c,Gd base okc r' (· < nid+1) ((nid,.rows te k 0 row) :: hp) w o c→Gd base okc r' (· < nid+1) ((b,.cells t (l.set i (.vec nid 0 k))) ::(nid,.rows te k 0 row) :: hp) w o c∧w.heap[c]? = w.heap[c]?:=λo c hc=>⟨⟨hc.1,λid x hx hid hr=>by obtain⟨y,hy⟩:=dom id x hx;exact hc.2.1 id y hy hid hr,hc.2.2⟩,rfl⟩;have sat:Sat base okc r' (· < nid+1) ((b,.cells t (l.set i (.vec nid 0 k))) ::(nid,.rows te k 0 row) :: hp) w:=by
  refine⟨hst.sat.below,λid x hx hid=>?_,λid x c hx hid hc=>?_,λid x id' x' c hx hid hx' hid' hc hc'=>?_⟩
  ·by_cases e:id=b
   ·have hr:=hst.sat.rep b _ hb1 (Ω:b<nid+1)
    rw[e]at hx ⊢;simp only[blk,if_true,Option.some.injEq]at hx;rw[←hx];generalize r' b=ob at hr ⊢;cases hr with
    |cells _ _ c cs hc hl h=>
     refine .cells t _ c cs hc (by rw[xe5];exact hl) λj sv hj=>?_;rw[List.getElem?_set]at hj;split at hj
     ·rename_i eij
      split at hj
      ·injection hj with hj
       rw[←hj,←eij];have h0:=h i _ hi;generalize cs.getD i undef=v at h0 ⊢;cases h0;exact hrep.mono (λ_ _=>rfl) (λ_ h=>h) gd (Shapes.refl w)
      ·cases hj
     ·exact(h j sv hj).mono (λ_ _=>rfl) (λ_ h=>h) gd (Shapes.refl w)
   ·rw[show blk ((b,.cells t (l.set i (.vec nid 0 k))) ::(nid,.rows te k 0 row) :: hp) id=blk ((nid,.rows te k 0 row) :: hp) id by simp only[blk];rw[if_neg e]]at hx
    exact(hst.sat.rep id x hx hid).mono (λ_ _=>rfl) (λ_ h=>h) gd (Shapes.refl w) (λ_ _=>rfl)
  ·obtain⟨y,hy⟩:=dom id x hx;exact hst.sat.own id y c hy hid hc
  ·obtain⟨y,hy⟩:=dom id x hx
   obtain⟨y',hy'⟩:=dom id' x' hx';exact hst.sat.inj id y id' y' c hy hid hy' hid' hc hc'
 have hst2:Step base okc r (· < nid) hp w r' (· < nid+1) ((b,.cells t (l.set i (.vec nid 0 k))) ::(nid,.rows te k 0 row) :: hp) w:=hst.trans ⟨sat,λ_ _=>rfl,λ_ h=>h,gd,Shapes.refl w⟩;exact⟨r',(h'.step hst2 (λj x hx=>by
  obtain⟨y,hy⟩:=dom j x hx;simp only[blk]at hy;split at hy
  ·rename_i e;rw[e];exact xb5 _
  ·exact Nat.lt_succ_of_lt (h'.keys j y hy)) (xc4 _) (d:=none) (λt ht=>by cases ht) (.val undef)).nid (nid+1)⟩
section
variable{P:Program}
end
end Go.Sx
end
section
namespace Go.Tn
def cM(by':Nat→Nat):Nat→Nat
 |0=>0
 |n+1=>cM by' n+(if 0<by' n then 1 else 0)
theorem qaQ{a b:Nat→Nat}:∀n,(∀x,x<n→a x=b x)→cM a n=cM b n
 |0,_=>rfl
 |n+1,h=>by simp only[cM];rw[qaQ n λx hx=>h x Ω,h n Ω]
theorem qcF{by':Nat→Nat}{x v:Nat}(h0:by' x=0)(hv:0<v):∀n,x<n→cM (setN by' x v) n=cM by' n+1
 |0,h=>by omega
 |n+1,h=>by
  simp only[cM];by_cases e:x=n
  ·subst e
   rw[qaQ (b:=by') x λy hy=>by unfold setN;rw[if_neg Ω]];have:setN by' x v x=v:=by unfold setN;rw[if_pos rfl]
   simp_all
  ·rw[qcF h0 hv n Ω]
   have:setN by' x v n=by' n:=by unfold setN;rw[if_neg Ω]
   rw[this];omega
structure Mk(L:Nat→List Nat)(N start:Nat)(by' d:Nat→Nat):Prop where
 one:∀x,x≠start→0<by' x→x<N∧(L ((by' x - 1) / 5))[(by' x - 1) % 5]? = some x∧((by' x - 1) / 5=start∨(0<by' ((by' x - 1) / 5)∧d ((by' x - 1) / 5)<d x))
 up:∀x,x≠start→0<by' x→1≤d x∧d x≤cM by' N
theorem dm5(i w:Nat)(h:w<5):(1+i*5+w - 1) / 5=i∧(1+i*5+w - 1) % 5=w:=by omega
theorem Mk.push{L:Nat→List Nat}{N start i w to:Nat}{by' d:Nat→Nat}(h:Mk L N start by' d)(hw:w<5)(hget:(L i)[w]? = some to)(hto:to<N)(hne:to≠start)(h0:by' to=0)(hr:i=start∨0<by' i):Mk L N start (setN by' to (1+i*5+w)) (setN d to (cM by' N+1)):=by
 obtain⟨m1,m2⟩:=dm5 i w hw;have hc:=qcF (v:=1+i*5+w) h0 Ω N hto;have hs:∀x,x≠to→setN by' to (1+i*5+w) x=by' x:=λx hx=>by unfold setN;rw[if_neg hx]
 have hd:∀x,x≠to→setN d to (cM by' N+1) x=d x:=λx hx=>by unfold setN;rw[if_neg hx]
 have hst:setN by' to (1+i*5+w) to=1+i*5+w:=by unfold setN;rw[if_pos rfl]
 have hdt:setN d to (cM by' N+1) to=cM by' N+1:=by unfold setN;rw[if_pos rfl]
 refine⟨λx hx hp=>?_,λx hx hp=>?_⟩
 ·by_cases e:x=to
  ·subst e
   rw[hst,m1,m2,hdt];refine⟨hto,hget,?_⟩;by_cases ei:i=start
   ·exact .inl ei
   ·right
    have hi:=hr.resolve_left ei;have:i≠x:=λq=>by rw[q,h0]at hi;cases hi
    rw[hs i this,hd i this];have:=h.up i ei hi;omega
  ·rw[hs x e]at hp ⊢
   obtain⟨g1,g2,g3⟩:=h.one x hx hp;refine⟨g1,g2,?_⟩;rcases g3 with g3|⟨g3,g4⟩
   ·exact .inl g3
   ·grind
 ·rw[hc]
  by_cases e:x=to
  ·simp_all
  ·rw[hs x e]at hp
   rw[hd x e];have:=h.up x hx hp;omega
theorem vh{L:Nat→List Nat}{N start i:Nat}(hL:∀x,x∈L i→x<N)(h5:(L i).length≤5):∀(l:List Nat)(w:Nat)(by' d:Nat→Nat)(wait:List Nat),L i=(L i).take w++l→w+l.length=(L i).length→
  Mk L N start by' d→(i=start∨0<by' i)→by' start=0→
  ((kv start i l w by' wait).1=true∧∃b d' w',(kv start i l w by' wait).2.1=setN b start (1+i*5+w')∧w'<5∧(L i)[w']? = some start∧Mk L N start b d'∧(i=start∨0<b i)∧b start=0)∨
  ((kv start i l w by' wait).1=false∧(kv start i l w by' wait).2.1 start=0∧(∃d',Mk L N start (kv start i l w by' wait).2.1 d')∧(∀x,x∈l→x≠start∧0<(kv start i l w by' wait).2.1 x)∧(∀x,0<by' x→0<(kv start i l w by' wait).2.1 x)∧
    ∃new,(kv start i l w by' wait).2.2=wait++new∧(∀x,x∈new→x<N∧0<(kv start i l w by' wait).2.1 x)∧(∀x,0<(kv start i l w by' wait).2.1 x→0<by' x∨x∈new)∧cM (kv start i l w by' wait).2.1 N=cM by' N+new.length)
 |[],w,by',d,wait,_,_,hM,_,h0=>.inr ⟨rfl,h0,⟨d,hM⟩,λx hx=>(by cases hx),λx hx=>hx,[],by simp[kv],λx hx=>(by cases hx),λx hx=>.inl hx,rfl⟩
 |to :: l,w,by',d,wait,hl,hw,hM,hr,h0=>by
  have hlen:((L i).take w).length=w:=by rw[xd9];simp only[xe4]at hw;omega
  have hget:(L i)[w]? = some to:=by
   rw[hl,xd0 (by rw[hlen];exact xa5 _),hlen,xb8];rfl
  have hto:to<N:=hL to (List.mem_of_getElem? hget);have hw5:w<5:=by simp only[xe4]at hw;omega
  have hl':L i=(L i).take (w+1)++l:=by
   rw[List.take_add_one,hget,List.append_assoc];exact hl
  have hw':w+1+l.length=(L i).length:=by simp only[xe4]at hw;omega
  simp only[kv];by_cases hb:0<by' to
  ·rw[if_pos hb]
   rcases vh hL h5 l (w+1) by' d wait hl' hw' hM hr h0 with q|⟨q1,q2,q3,q4,q5,q6⟩
   ·exact .inl q
   ·refine .inr ⟨q1,q2,q3,λx hx=>?_,q5,q6⟩
    rcases List.mem_cons.1 hx with rfl|hx
    ·exact⟨λe2=>(by rw[e2,h0]at hb;cases hb),q5 _ hb⟩
    ·exact q4 x hx
  ·rw[if_neg hb]
   by_cases e:to=start
   ·rw[if_pos e]
    exact .inl ⟨rfl,by',d,w,by rw[e],hw5,by rw[hget,e],hM,hr,h0⟩
   ·rw[if_neg e]
    have hz:by' to=0:=by omega
    have hM2:=hM.push hw5 hget hto e hz hr;have hs:∀x,x≠to→setN by' to (1+i*5+w) x=by' x:=λx hx=>by unfold setN;rw[if_neg hx]
    have hst:setN by' to (1+i*5+w) to=1+i*5+w:=by unfold setN;rw[if_pos rfl]
    have hup:∀x,0<by' x→0<setN by' to (1+i*5+w) x:=λx hx=>by
     by_cases c:x=to
     ·rw[c,hst];omega
     ·rw[hs x c];exact hx
    rcases vh hL h5 l (w+1) (setN by' to (1+i*5+w)) _ (wait++[to]) hl' hw' hM2 (hr.imp id (hup i)) (by rw[hs start (Ne.symm e)];exact h0)with q|⟨q1,q2,q3,q4,q5,new,q6,q7,q8,q9⟩
    ·exact .inl q
    ·refine .inr ⟨q1,q2,q3,λx hx=>?_,λx hx=>q5 x (hup x hx),to :: new,by rw[q6,List.append_assoc];rfl,λx hx=>?_,λx hx=>?_,?_⟩
     ·rcases List.mem_cons.1 hx with rfl|hx
      ·exact⟨e,q5 _ (by rw[hst];omega)⟩
      ·exact q4 x hx
     ·rcases List.mem_cons.1 hx with rfl|hx
      ·exact⟨hto,q5 _ (by rw[hst];omega)⟩
      ·exact q7 x hx
     ·rcases q8 x hx with h|h
      ·by_cases c:x=to
       ·exact .inr (by rw[c];exact xd5)
       ·rw[hs x c]at h;exact .inl h
      ·exact .inr (List.mem_cons_of_mem _ h)
     ·rw[q9,qcF hz Ω N hto,xe4];omega
end Go.Tn
end
section
namespace Go.Tn
open Go.Proofs
open Go.Sx
end Go.Tn
end
section
namespace Go.Tn
open Go.Proofs
open Go.Sx
def snB(c:Nat→Nat)(k:Nat)(w:Nat):Nat→Bool
 |0=>false
 |i+1=>decide (c (i % k)=w) || snB c k w i
theorem qof(c:Nat→Nat)(k w i:Nat):snB c k w (i+1)=(decide (c (i % k)=w) || snB c k w i):=rfl
structure Wk4(m:Nat)(u:Nat→Int)(k:Nat)(c:Nat→Nat)(S:Nat→Nat→Int):Prop where
 k1:1≤k
 k2:k≤1000
 win:∀i,i<k→c i<m
 fit:∀t w,w<m→0≤S t w∧S t w+1≤u w
 step:∀t w,w<m→S (t+1) w=if c (t % k)=w then 0 else S t w+1
 back:∀w,w<m→S k w=S 0 w
theorem Wk4.seen{m:Nat}{u:Nat→Int}{k:Nat}{c:Nat→Nat}{S:Nat→Nat→Int}(h:Wk4 m u k c S){w:Nat}(hw:w<m):snB c k w (2*k)=true:=by
 cases hs:snB c k w (2*k)with
 |true=>rfl
 |false=>
  exfalso
  have key:∀i,i≤2*k→snB c k w i=false:=by
   have down:∀d i,i+d=2*k→snB c k w i=false:=λd=>by
    induction d with
    |zero=>intro i hi;rw[show i=2*k by omega];exact hs
    |succ d ih=>
     intro i hi;have h1:=ih (i+1) Ω;rw[qof,Bool.or_eq_false_iff]at h1;exact h1.2
   exact λi hi=>down (2*k - i) i Ω
  have up:∀i,i≤k→S i w=S 0 w+i:=λi=>by
   induction i with
   |zero=>intro _;omega
   |succ i ih=>
    intro hi;have h1:=key (i+1) Ω;rw[qof,Bool.or_eq_false_iff]at h1;rw[h.step i w hw,if_neg (of_decide_eq_false h1.1),ih Ω];omega
  have h1:=up k (xa5 _);have h2:=h.back w hw;have h3:=h.k1;omega
end Go.Tn
end
section
namespace Go.Tn
open Go.Sx
open Go.He (lst)
end Go.Tn
end
section
namespace Go.Tn
open Go.Proofs
open Go.Sx
end Go.Tn
end
section
namespace Go.Tn
def hF(len:Nat→Nat)(to:Nat→Nat→Nat):Nat→Nat→Int
 |0,_=>-1
 |k+1,i=>if ∀j,j<len i→0≤hF len to k (to i j)then mxF (hF len to k) (to i) (len i)else -1
theorem qew(F:Nat→Int)(to:Nat→Nat):∀m,0≤mxF F to m
 |0=>Int.le_refl _
 |m+1=>by have:=qew F to m;rw[Zo];omega
theorem WM{F:Nat→Int}{to:Nat→Nat}{X:Int}(hX:0≤X):∀m,(∀j,j<m→F (to j)<X)→mxF F to m≤X
 |0,_=>hX
 |m+1,h=>by
  have h1:=WM hX m λj hj=>h j Ω;have h2:=h m Ω;rw[Zo];omega
end Go.Tn
end
section
namespace Go.Tn
open Go.Proofs
open Go.Sx
end Go.Tn
end
section
namespace Go.Tn
open Go.Proofs
open Go.RowKit
open Go.Sx
end Go.Tn
end
section
namespace Go.Tn
open Go.Proofs
open Go.Sx
theorem SubHp.ent{hp l:List (Nat×Blk)}{k:Nat}{x:Blk}(h:blk hp k=some x)(hl:SubHp hp l):SubHp hp ((k,x) :: l):=λq v hv=>by
 simp only[blk]at hv;split at hv
 ·rename_i e;cases hv;rw[e];exact h
 ·exact hl q v hv
end Go.Tn
end
section
namespace Go.Tn
open Go.Proofs
open Go.Sx
def gbk(k n:Int)(nb:Nat)(f g q:Nat→Int)(ns:Nat)(s:Nat→Int)(fav:Bool)(c d st:Int):SV:=.agg [Ψ (Φ Γ k),Ψ (Φ Γ n),za nb f g q,.arr false false ns 1 (λi _=>Ψ (Φ Γ (s i))),.val (.bool fav),Ψ (Φ Γ c),Ψ (Φ Γ d),Ψ (Φ Γ st)]
theorem qmZ(k n:Int)(nb:Nat)(f g q:Nat→Int)(ns:Nat)(s:Nat→Int)(fav:Bool)(c d st:Int):Old (gbk k n nb f g q ns s fav c d st):=by
 simp only[gbk,Old,OldL];exact⟨trivial,trivial,zy _ _ _ _,⟨trivial,λ_ _ _ _=>trivial⟩,trivial,trivial,trivial,trivial,trivial⟩
theorem qpk{hp:List (Nat×Blk)}{n:Int}{nb:Nat}{f g q:Nat→Int}{fav:Bool}{c d st:Int}(hg:∀i,i<nb→g i = -1):Go.Sx.Sub hp (bkS n nb f (λ_=>-1) q fav c d st) (bkS n nb f g q fav c d st):=by
 simp only[bkS,Go.Sx.Sub,Go.Sx.SubL,za,true_and,and_true,and_self];refine⟨λh=>h,λh=>h,λi j hi hj=>?_⟩;rcases(Ω:j=0∨j=1∨j=2)with rfl|rfl|rfl
 ·simp[Go.Sx.Sub]
 ·simp[Go.Sx.Sub,hg i hi]
 ·simp[Go.Sx.Sub]
theorem qna{hp:List (Nat×Blk)}{nb:Nat}{f g q:Nat→Int}:∀i j,i<nb→j<3→Go.Sx.Sub hp ([Ψ (Φ Γ (f i)),Ψ (Φ Γ (g i)),Ψ (Φ Γ (q i))].getD j .top) ([Ψ (Φ Γ (f i)),Ψ (Φ Γ (g i)),Ψ (Φ Γ (q i))].getD j .top):=by
 intro i j hi hj;rcases(Ω:j=0∨j=1∨j=2)with rfl|rfl|rfl<;>simp[Go.Sx.Sub]
end Go.Tn
end
section
namespace Go.Tn
open Go.Proofs
open Go.Sx
def oth(n r:Nat):List Nat:=(List.range (n - 1)).map λj=>if j<r then j else j+1
end Go.Tn
end
section
namespace Go.Tn
variable{C:Nat→Nat→Int}{a n:Nat}
def NW:Int:=1099511627776
def rlx(C:Nat→Nat→Int)(S:Nat→Int)(p q:Nat):Nat→Int:=λx=>if x=q∧C p q≠NW∧S p≠NW∧S p+C p q<S q then S p+C p q else S x
def jP(C:Nat→Nat→Int)(S:Nat→Int)(p:Nat):Nat→Nat→Int
 |0=>S
 |q+1=>rlx C (jP C S p q) p q
def rnd(C:Nat→Nat→Int)(n:Nat)(S:Nat→Int):Nat→Nat→Int
 |0=>S
 |p+1=>jP C (rnd C n S p) p n
def itR(C:Nat→Nat→Int)(n:Nat)(S:Nat→Int):Nat→Nat→Int
 |0=>S
 |k+1=>rnd C n (itR C n S k) n
def S0(a:Nat):Nat→Int:=λx=>if x=a then 0 else NW
def Fea(C:Nat→Nat→Int)(n:Nat)(D:Nat→Int):Prop:=∀p q,p<n→q<n→C p q≠NW→D q≤D p+C p q
def Lst(C:Nat→Nat→Int)(n a:Nat)(D:Nat→Int):Prop:=D a=0∧Fea C n D∧∀F,Fea C n F→∀q,q<n→F q - F a≤D q
def Cb(C:Nat→Nat→Int):Prop:=∀p q,C p q≠NW→-10000000≤C p q∧C p q≤10000000
def Adj(C:Nat→Nat→Int)(n:Nat):Prop:=∀i,i+1<n→C i (i+1)≠NW∧C (i+1) i≠NW
theorem ZA:∀{n:Nat}{l:List Nat},l.Nodup→(∀x∈l,x<n)→l.length≤n
 |0,l,h,hl=>by
  cases l with
  |nil=>simp
  |cons x l=>exact absurd (hl x Ωg) Ω
 |n+1,l,h,hl=>by
  have h1:=ZA (n:=n) (l:=l.erase n) (h.erase n) (λx hx=>by
   have hm:=(List.Nodup.mem_erase_iff h).1 hx;have:=hl x hm.2;have h2:=hm.1;omega)
  rw[List.length_erase]at h1;split at h1<;>omega
theorem qks{α:Type}(f:α→Int):∀{l:List α},l≠[]→∃a,a∈l∧∀b,b∈l→f a≤f b
 |[],h=>absurd rfl h
 |[x],_=>⟨x,Ωg,λb hb=>by simp at hb;subst hb;exact Int.le_refl _⟩
 |x :: y :: l,_=>by
  obtain⟨a,ha,h⟩:=qks f (l:=y :: l) Ωg;by_cases c:f x≤f a
  ·exact⟨x,Ωg,λb hb=>by
    rcases List.mem_cons.1 hb with rfl|hb
    ·exact Int.le_refl _
    ·have:=h b hb;omega⟩
  ·exact⟨a,List.mem_cons_of_mem _ ha,λb hb=>by
    rcases List.mem_cons.1 hb with rfl|hb
    ·omega
    ·exact h b hb⟩
theorem cross(hA:Adj C n){U:List Nat}{y:Nat}(ha:a∈U)(han:a<n)(hy:y∉U)(hyn:y<n):∃p q,p∈U∧q∉U∧q<n∧C p q≠NW:=by
 by_cases c:a<y
 ·obtain⟨d,rfl⟩:∃d,y=a+d:=⟨y - a,Ω⟩
  clear c
  induction d with
  |zero=>exact absurd ha hy
  |succ d ih=>
   by_cases c:a+d∈U
   ·exact⟨a+d,a+(d+1),c,hy,hyn,(hA (a+d) hyn).1⟩
   ·exact ih c Ω
 ·obtain⟨d,rfl⟩:∃d,a=y+d:=⟨a - y,Ω⟩
  clear c
  induction d generalizing y with
  |zero=>exact absurd ha hy
  |succ d ih=>
   by_cases c:y+1∈U
   ·exact⟨y+1,y,c,hy,hyn,(hA y Ω).2⟩
   ·exact ih c Ω (by rw[Nat.add_right_comm];exact ha) Ω
structure Tre(C:Nat→Nat→Int)(n a:Nat)(F:Nat→Int)(i:Nat)(U:List Nat)(D:Nat→Int)(R:Nat→Nat):Prop where
 len:U.length=i+1
 nd:U.Nodup
 lt:∀x,x∈U→x<n
 ma:a∈U
 da:D a=0
 rk:∀x,x∈U→R x≤i
 fe:∀p q,p∈U→q∈U→C p q≠NW→D q≤D p+C p q
 ti:∀q,q∈U→q≠a→∃p,p∈U∧C p q≠NW∧D q=D p+C p q∧R p<R q
 ou:∃M,(∀x,x∈U→D x - F x≤M)∧∀p q,p∈U→q<n→q∉U→C p q≠NW→M≤D p+C p q - F q
theorem qqQ{C:Nat→Nat→Int}{n a:Nat}{F:Nat→Int}(hA:Adj C n)(hF:Fea C n F)(ha:a<n):∀i,i<n→∃U D R,Tre C n a F i U D R
 |0,_=>⟨[a],λ_=>0,λ_=>0,Ωg,Ωg,(by simpa using ha),Ωg,rfl,Ωg,λp q hp hq hc=>by
   simp at hp hq;subst hp;subst hq;have:=hF _ _ ha ha hc;show(0:Int)≤0+_;omega,λq hq hn=>by simp at hq;exact absurd hq hn,- F a,Ωg,λp q hp hq _ hc=>by
   simp at hp;subst hp;have:=hF _ _ ha hq hc;show _≤(0:Int)+_ - _;omega⟩
 |i+1,hi=>by
  obtain⟨U,D,R,h⟩:=qqQ hA hF ha i Ω;obtain⟨y,hyn,hy⟩:∃y,y<n∧y∉U:=by
   refine xf9 λhc=>?_;have h1:∀y,y<n→y∈U:=λy hy=>xf9 λh2=>hc ⟨y,hy,h2⟩;have h2:=ZA (n:=U.length) (l:=List.range n) List.nodup_range;have h3:n≤U.length:=by
    have:∀(m:Nat)(V:List Nat),V.Nodup→(∀y,y<m→y∈V)→m≤V.length:=λm=>by
     induction m with
     |zero=>intro V _ _;omega
     |succ m ih=>
      intro V hV hm;have h4:=ih (V.erase m) (hV.erase m) (λy hy=>(List.Nodup.mem_erase_iff hV).2 ⟨Ω,hm y Ω⟩);have h5:=hm m Ω;rw[List.length_erase,if_pos (by simpa using h5)]at h4;have:=List.length_pos_of_mem h5;omega
    exact this n U h.nd h1
   have:=h.len;omega
  obtain⟨p0,q0,hp0,hq0,hqn0,hc0⟩:=cross hA h.ma (h.lt a h.ma) hy hyn;obtain⟨⟨p,x⟩,hm,hmin⟩:=qks (λe:Nat×Nat=>D e.1+C e.1 e.2 - F e.2) (l:=(U.flatMap λp=>((List.range n).filter λq=>decide (q∉U∧C p q≠NW)).map λq=>(p,q))) (by
   intro e;have:(p0,q0)∈(U.flatMap λp=>((List.range n).filter λq=>decide (q∉U∧C p q≠NW)).map λq=>(p,q)):=by
    simp only[List.mem_flatMap,List.mem_map,List.mem_filter,List.mem_range,decide_eq_true_eq];exact⟨p0,hp0,q0,⟨hqn0,hq0,hc0⟩,rfl⟩
   rw[e]at this;simp at this)
  have hmem:∀p' x',(p',x')∈(U.flatMap λp=>((List.range n).filter λq=>decide (q∉U∧C p q≠NW)).map λq=>(p,q))↔p'∈U∧x'<n∧x'∉U∧C p' x'≠NW:=λp' x'=>by
   simp only[List.mem_flatMap,List.mem_map,List.mem_filter,List.mem_range,decide_eq_true_eq,Prod.mk.injEq];constructor
   ·rintro⟨a,b,c,⟨d,e,f⟩,rfl,rfl⟩;exact⟨b,d,e,f⟩
   ·rintro⟨b,d,e,f⟩;exact⟨p',b,x',⟨d,e,f⟩,rfl,rfl⟩
  obtain⟨hp,hxn,hx,hc⟩:=(hmem p x).1 hm;have hmi:∀p' x',p'∈U→x'<n→x'∉U→C p' x'≠NW→D p+C p x - F x≤D p'+C p' x' - F x':=λp' x' h1 h2 h3 h4=>hmin (p',x') ((hmem p' x').2 ⟨h1,h2,h3,h4⟩);obtain⟨M,hM1,hM2⟩:=h.ou;have hne:∀z,z∈U→z≠x:=λz hz e=>hx (e▸hz);have hDz:∀z,z∈U→(if z=x then D p+C p x else D z)=D z:=λz hz=>if_neg (hne z hz);have hMx:=hM2 p x hp hxn hx hc;refine⟨x :: U,λz=>if z=x then D p+C p x else D z,λz=>if z=x then i+1 else R z,by simp[h.len],List.nodup_cons.2 ⟨hx,h.nd⟩,?_,List.mem_cons_of_mem _ h.ma,by rw[hDz a h.ma];exact h.da,?_,?_,?_,D p+C p x - F x,?_,?_⟩
  ·intro z hz
   rcases List.mem_cons.1 hz with rfl|hz
   ·exact hxn
   ·exact h.lt z hz
  ·intro z hz
   rcases List.mem_cons.1 hz with rfl|hz
   ·rw[if_pos rfl];exact xa5 _
   ·rw[if_neg (hne z hz)];have:=h.rk z hz;omega
  ·intro u v gu gv huv
   rcases List.mem_cons.1 gu with e1|hu<;>rcases List.mem_cons.1 gv with e2|hv
   ·subst e1;subst e2
    have:=hF _ _ hxn hxn huv;omega
   ·subst e1
    rw[if_pos rfl,hDz v hv];have h1:=hM1 v hv;have h2:=hF _ _ hxn (h.lt v hv) huv;omega
   ·subst e2
    rw[if_pos rfl,hDz u hu];have:=hmi u v hu hxn hx huv;omega
   ·rw[hDz u hu,hDz v hv];exact h.fe u v hu hv huv
  ·intro q hq hqa
   rcases List.mem_cons.1 hq with e|hq
   ·subst e
    refine⟨p,List.mem_cons_of_mem _ hp,hc,by rw[if_pos rfl,hDz p hp],?_⟩;rw[if_pos rfl,if_neg (hne p hp)];have:=h.rk p hp;omega
   ·obtain⟨u,h1,h2,h3,h4⟩:=h.ti q hq hqa
    exact⟨u,List.mem_cons_of_mem _ h1,h2,by rw[hDz u h1,hDz q hq];exact h3,by rw[if_neg (hne u h1),if_neg (hne q hq)];exact h4⟩
  ·intro z hz
   rcases List.mem_cons.1 hz with rfl|hz
   ·rw[if_pos rfl];exact Int.le_refl _
   ·rw[hDz z hz];have:=hM1 z hz;omega
  ·intro u v hu hvn hv huv
   have hv2:v∉U:=λe=>hv (List.mem_cons_of_mem _ e);rcases List.mem_cons.1 hu with e|hu
   ·subst e
    rw[if_pos rfl];have:=hF _ _ hxn hvn huv;omega
   ·rw[hDz u hu];exact hmi u v hu hvn hv2 huv
structure Spt(C:Nat→Nat→Int)(n a:Nat)(D:Nat→Int)(R:Nat→Nat):Prop where
 da:D a=0
 rk:∀x,x<n→R x+1≤n
 fe:Fea C n D
 ti:∀q,q<n→q≠a→∃p,p<n∧C p q≠NW∧D q=D p+C p q∧R p<R q
theorem spt{F:Nat→Int}(hA:Adj C n)(hF:Fea C n F)(ha:a<n):∃D R,Spt C n a D R:=by
 obtain⟨U,D,R,h⟩:=qqQ hA hF ha (n - 1) Ω;have hall:∀y,y<n→y∈U:=λy hy=>xf9 λc=>by
  have h1:=ZA (n:=n) (l:=y :: U) (List.nodup_cons.2 ⟨c,h.nd⟩) (λz hz=>by
   rcases List.mem_cons.1 hz with rfl|hz
   ·exact hy
   ·exact h.lt z hz)
  have:=h.len;simp at h1;omega
 exact⟨D,R,h.da,λx hx=>by have:=h.rk x (hall x hx);omega,λp q hp hq=>h.fe p q (hall p hp) (hall q hq),λq hq hqa=>by
  obtain⟨p,h1,h2⟩:=h.ti q (hall q hq) hqa;exact⟨p,h.lt p h1,h2⟩⟩
theorem Spt.lst{D:Nat→Int}{R:Nat→Nat}(h:Spt C n a D R):Lst C n a D:=by
 refine⟨h.da,h.fe,λF hF q=>?_⟩;have:∀k q,R q≤k→q<n→F q - F a≤D q:=λk=>by
  induction k with
  |zero=>
   intro q hk hq;by_cases e:q=a
   ·subst e;have:=h.da;omega
   ·obtain⟨p,h1,h2,h3,h4⟩:=h.ti q hq e
    omega
  |succ k ih=>
   intro q hk hq;by_cases e:q=a
   ·subst e;have:=h.da;omega
   ·obtain⟨p,h1,h2,h3,h4⟩:=h.ti q hq e
    have h5:=ih p Ω h1;have h6:=hF p q h1 hq h2;omega
 exact this (R q) q (xa5 _)
theorem qpl(C:Nat→Nat→Int)(S:Nat→Int)(p q x:Nat):rlx C S p q x≤S x:=by
 unfold rlx;split
 ·rename_i h;obtain⟨rfl,_,_,h⟩:=h;omega
 ·exact Int.le_refl _
theorem yX(C:Nat→Nat→Int)(S:Nat→Int)(p x:Nat):∀{i j},i≤j→jP C S p j x≤jP C S p i x
 |i,0,h=>by rw[Nat.le_zero.1 h];exact Int.le_refl _
 |i,j+1,h=>by
  by_cases e:i=j+1
  ·subst e;exact Int.le_refl _
  ·exact Int.le_trans (qpl C _ p j x) (yX C S p x (i:=i) (j:=j) Ω)
theorem QK(C:Nat→Nat→Int)(n:Nat)(S:Nat→Int)(x:Nat):∀{i j},i≤j→rnd C n S j x≤rnd C n S i x
 |i,0,h=>by rw[Nat.le_zero.1 h];exact Int.le_refl _
 |i,j+1,h=>by
  by_cases e:i=j+1
  ·subst e;exact Int.le_refl _
  ·exact Int.le_trans (yX C (rnd C n S j) j x (xb6 n)) (QK C n S x (i:=i) (j:=j) Ω)
theorem qeL{Q:(Nat→Int)→Prop}(hq:∀S p q,p<n→q<n→Q S→Q (rlx C S p q)){S:Nat→Int}(h:Q S){p q:Nat}(hp:p<n)(hqn:q≤n):Q (jP C (rnd C n S p) p q):=by
 induction p generalizing q with
 |zero=>
  induction q with
  |zero=>exact h
  |succ q ih=>exact hq _ _ _ hp Ω (ih Ω)
 |succ p ihp=>
  induction q with
  |zero=>exact ihp Ω (xa5 _)
  |succ q ih=>exact hq _ _ _ hp Ω (ih Ω)
theorem qaR{Q:(Nat→Int)→Prop}(hq:∀S p q,p<n→q<n→Q S→Q (rlx C S p q)){S:Nat→Int}(h:Q S){p:Nat}(hp:p≤n):Q (rnd C n S p):=by
 cases p with
 |zero=>exact h
 |succ p=>exact qeL hq h (q:=n) hp (xa5 _)
theorem qcG{C:Nat→Nat→Int}{n:Nat}{Q:(Nat→Int)→Prop}(hq:∀S p q,p<n→q<n→Q S→Q (rlx C S p q)){S:Nat→Int}(h:Q S):∀k,Q (itR C n S k)
 |0=>h
 |k+1=>qaR hq (qcG hq h k) (xa5 _)
def Abv(D:Nat→Int)(n:Nat)(S:Nat→Int):Prop:=∀x,x<n→D x≤S x
theorem WU{D:Nat→Int}(hD:Fea C n D)(S:Nat→Int)(p q:Nat)(hp:p<n)(hq:q<n)(h:Abv D n S):Abv D n (rlx C S p q):=λx hx=>by
 unfold rlx;split
 ·rename_i c;obtain⟨rfl,h1,_,_⟩:=c
  have h2:=hD p x hp hx h1;have h3:=h p hp;omega
 ·exact h x hx
theorem qpm{D:Nat→Int}(hD:Fea C n D)(hb:∀x,x<n→D x<NW){S:Nat→Int}(h:Abv D n S){p q:Nat}(hp:p<n)(hq:q<n)(hc:C p q≠NW)(he:D q=D p+C p q)(hs:S p=D p):rnd C n S n q=D q:=by
 have hab:∀{i j},i<n→j≤n→Abv D n (jP C (rnd C n S i) i j):=λhi hj=>qeL (WU hD) h hi hj;have h1:jP C (rnd C n S p) p q p=D p:=by
  have h2:=hab hp (xb9 hq) p hp;have h3:=yX C (rnd C n S p) p p (xb6 q);have h4:=QK C n S p (xb6 p);simp only[jP,rnd]at h3 h4;omega
 have h5:jP C (rnd C n S p) p (q+1) q≤D q:=by
  simp only[jP];unfold rlx;rw[h1];by_cases c:D p+C p q<jP C (rnd C n S p) p q q
  ·rw[if_pos ⟨rfl,hc,(by have:=hb p hp;omega),c⟩];omega
  ·rw[if_neg (λe=>c e.2.2.2)];omega
 have h6:=yX C (rnd C n S p) p q (Ω:q+1≤n);have h7:=QK C n S q (Ω:p+1≤n);simp only[rnd]at h7;have h8:=qaR (WU hD) h (xa5 n) q hq;omega
theorem qnb{D:Nat→Int}{R:Nat→Nat}(h:Spt C n a D R)(hb:∀x,x<n→D x<NW)(ha:a<n):∀k q,q<n→R q≤k→itR C n (S0 a) k q=D q:=by
 have h0:Abv D n (S0 a):=λx hx=>by
  unfold S0;split
  ·rename_i e;subst e;have:=h.da;omega
  ·exact Int.le_of_lt (hb x hx)
 have hab:=qcG (WU h.fe) h0;have hst:∀k q,q<n→itR C n (S0 a) k q=D q→itR C n (S0 a) (k+1) q=D q:=λk q hq e=>by
  have h1:=hab (k+1) q hq;have h2:=QK C n (itR C n (S0 a) k) q (xb6 n);simp only[rnd]at h2;show rnd C n (itR C n (S0 a) k) n q=D q;have h3:D q≤rnd C n (itR C n (S0 a) k) n q:=h1;omega
 have hA:∀k,itR C n (S0 a) k a=D a:=λk=>by
  induction k with
  |zero=>simp[itR,S0,h.da]
  |succ k ih=>exact hst k a ha ih
 intro k
 induction k with
 |zero=>
  intro q hq hr;by_cases e:q=a
  ·subst e;exact hA 0
  ·obtain⟨p,h1,h2,h3,h4⟩:=h.ti q hq e;omega
 |succ k ih=>
  intro q hq hr;by_cases e:q=a
  ·subst e;exact hA _
  ·obtain⟨p,h1,h2,h3,h4⟩:=h.ti q hq e
   exact qpm h.fe hb (hab k) h1 hq h2 h3 (ih p h1 Ω)
theorem qkt{F:Nat→Int}(hA:Adj C n)(hF:Fea C n F)(ha:a<n)(hC:Cb C)(hn:n≤11):∃D,Lst C n a D∧(∀k,n≤k+1→∀x,x<n→itR C n (S0 a) k x=D x)∧(∀k,(∀x,x<n→itR C n (S0 a) (k+1) x=itR C n (S0 a) k x)→∀x,x<n→itR C n (S0 a) (k+1) x=D x):=by
 obtain⟨D,R,h⟩:=spt hA hF ha;have hb:∀x,x<n→D x<NW:=λx hx=>by
  have:∀k x,R x≤k→x<n→D x≤10000000*k:=λk=>by
   induction k with
   |zero=>
    intro q hk hq;by_cases e:q=a
    ·subst e;have:=h.da;omega
    ·obtain⟨p,h1,h2,h3,h4⟩:=h.ti q hq e;omega
   |succ k ih=>
    intro q hk hq;by_cases e:q=a
    ·subst e;have:=h.da;omega
    ·obtain⟨p,h1,h2,h3,h4⟩:=h.ti q hq e
     have h5:=ih p Ω h1;have h6:=(hC p q h2).2;omega
  have h1:=this (R x) x (xa5 _) hx;have h2:=h.rk x hx;unfold NW;omega
 have h1:∀k,n≤k+1→∀x,x<n→itR C n (S0 a) k x=D x:=λk hk x hx=>qnb h hb ha k x hx (by have:=h.rk x hx;omega);refine⟨D,h.lst,h1,λk hk x hx=>?_⟩;have h2:∀j x,x<n→itR C n (S0 a) (k+j) x=itR C n (S0 a) k x:=λj=>by
  induction j with
  |zero=>intro x _;rfl
  |succ j ih=>
   intro x hx;have h3:∀(S T:Nat→Int),(∀x,x<n→S x=T x)→∀i,i≤n→∀x,x<n→rnd C n S i x=rnd C n T i x:=λS T hST i=>by
    have h4:∀(S T:Nat→Int),(∀x,x<n→S x=T x)→∀i,i<n→∀j,j≤n→∀x,x<n→jP C S i j x=jP C T i j x:=λS T hST i hi j=>by
     induction j with
     |zero=>intro _ x hx;exact hST x hx
     |succ j ih=>
      intro hj x hx;simp only[jP,rlx];rw[ih Ω x hx,ih Ω i hi,ih Ω j Ω]
    induction i with
    |zero=>intro _ x hx;exact hST x hx
    |succ i ih=>intro hi x hx;exact h4 _ _ (ih Ω) i Ω n (xa5 _) x hx
   have h5:=h3 _ _ (λx hx=>ih x hx) n (xa5 _) x hx;have h6:=hk x hx;simp only[itR]at h6;show rnd C n (itR C n (S0 a) (k+j)) n x=_;rw[h5,h6]
 have h3:=h2 n x hx;rw[hk x hx,←h3];exact h1 (k+n) Ω x hx
def Bd(n:Nat)(B:Int)(S:Nat→Int):Prop:=∀x,x<n→S x=NW∨(-B≤S x∧S x≤B)
theorem qpn(hC:Cb C){B:Int}{S:Nat→Int}{p q:Nat}(hp:p<n)(h:Bd n B S):Bd n (B+10000000) (rlx C S p q):=λx hx=>by
 unfold rlx;split
 ·rename_i c;obtain⟨rfl,h1,h2,_⟩:=c
  have h3:=hC _ _ h1;rcases h p hp with h4|h4
  ·exact absurd h4 h2
  ·right;omega
 ·rcases h x hx with h4|h4
  ·exact .inl h4
  ·right;omega
theorem qcH{C:Nat→Nat→Int}{n:Nat}(hC:Cb C){B:Int}{S:Nat→Int}{p:Nat}(hp:p<n)(h:Bd n B S):∀q:Nat,Bd n (B+10000000*q) (jP C S p q)
 |0=>by simpa[jP]using h
 |q+1=>by
  have:=qpn (q:=q) hC hp (qcH hC hp h q);intro x hx;rcases this x hx with h4|h4
  ·exact .inl h4
  ·right;simp only[jP];omega
theorem qcI{C:Nat→Nat→Int}{n:Nat}(hC:Cb C)(hn:n≤11){B:Int}{S:Nat→Int}(h:Bd n B S):∀p:Nat,p≤n→Bd n (B+110000000*p) (rnd C n S p)
 |0,_=>by simpa[rnd]using h
 |p+1,hp=>by
  have:=qcH hC (p:=p) hp (qcI hC hn h p Ω) n;intro x hx;rcases this x hx with h4|h4
  ·exact .inl h4
  ·right;simp only[rnd];omega
theorem qku{C:Nat→Nat→Int}{n:Nat}(hC:Cb C)(hn:n≤11)(a:Nat):∀k:Nat,Bd n (1210000000*k) (itR C n (S0 a) k)
 |0=>λx hx=>by
  show S0 a x=NW∨_≤S0 a x∧S0 a x≤_;unfold S0;split
  ·right;omega
  ·left;rfl
 |k+1=>by
  have:=qcI hC hn (qku hC hn a k) n (xa5 n);intro x hx;rcases this x hx with h4|h4
  ·exact .inl h4
  ·right;simp only[itR];omega
theorem qnc(hA:Adj C n)(hC:Cb C)(hn:n≤11)(ha:a<n){k:Nat}(hk12:k≤20)(hk:∀x,x<n→itR C n (S0 a) (k+1) x=itR C n (S0 a) k x):Fea C n (itR C n (S0 a) (k+1)):=by
 have hst:∀i j x,i<n→j≤n→x<n→jP C (rnd C n (itR C n (S0 a) k) i) i j x=itR C n (S0 a) k x:=λi j x hi hj hx=>by
  have h1:=yX C (rnd C n (itR C n (S0 a) k) i) i x hj;have h2:=QK C n (itR C n (S0 a) k) x (Ω:i+1≤n);have h3:=yX C (rnd C n (itR C n (S0 a) k) i) i x (xb6 j);have h4:=QK C n (itR C n (S0 a) k) x (xb6 i);have h5:=hk x hx;simp only[itR,jP,rnd]at *;omega
 have hcl:∀p q,p<n→q<n→C p q≠NW→itR C n (S0 a) k p≠NW→itR C n (S0 a) k q≤itR C n (S0 a) k p+C p q:=λp q hp hq hc hf=>by
  have h1:=hst p (q+1) q hp Ω hq;simp only[jP]at h1;unfold rlx at h1;rw[hst p q p hp Ω hp,hst p q q hp Ω hq]at h1;by_cases c:itR C n (S0 a) k p+C p q<itR C n (S0 a) k q
  ·rw[if_pos ⟨rfl,hc,hf,c⟩]at h1;omega
  ·omega
 have hb:=qku hC hn a k;have hnx:∀p q,p<n→q<n→C p q≠NW→itR C n (S0 a) k p≠NW→itR C n (S0 a) k q≠NW:=λp q hp hq hc hf e=>by
  have h1:=hcl p q hp hq hc hf;have h2:=hC p q hc;rcases hb p hp with h3|h3
  ·exact hf h3
  ·rw[e]at h1;unfold NW at h1;omega
 have hfa:itR C n (S0 a) k a≠NW:=by
  have h1:∀k,itR C n (S0 a) k a≤0:=λk=>by
   induction k with
   |zero=>simp[itR,S0]
   |succ k ih=>exact Int.le_trans (QK C n (itR C n (S0 a) k) a (xb6 n)) ih
  have:=h1 k;unfold NW;omega
 have hup:∀d,a+d<n→itR C n (S0 a) k (a+d)≠NW:=λd=>by
  induction d with
  |zero=>intro _;exact hfa
  |succ d ih=>intro h;exact hnx (a+d) (a+(d+1)) Ω h (hA (a+d) h).1 (ih Ω)
 have hdn:∀d,d≤a→itR C n (S0 a) k (a - d)≠NW:=λd=>by
  induction d with
  |zero=>intro _;exact hfa
  |succ d ih=>
   intro h;have h1:=(hA (a -(d+1)) Ω).2;rw[show a -(d+1)+1=a - d by omega]at h1;exact hnx (a - d) (a -(d+1)) Ω Ω h1 (ih Ω)
 have hfin:∀x,x<n→itR C n (S0 a) k x≠NW:=λx hx=>by
  by_cases c:a≤x
  ·have:=hup (x - a) Ω;rwa [show a+(x - a)=x by omega]at this
  ·have:=hdn (a - x) Ω;rwa [show a -(a - x)=x by omega]at this
 intro p q hp hq hc;rw[hk p hp,hk q hq];exact hcl p q hp hq hc (hfin p hp)
end Go.Tn
end
section
namespace Go.Tn
structure Ha where
 w:Nat
 m:Int
 k:Nat
 f:Nat→Nat
 t:Nat→Nat
 lo:Nat→Int
 hi:Nat→Int
structure Ha.Ok(h:Ha):Prop where
 w1:1≤h.w
 w2:h.w≤10
 k:h.k≤10
 m:0≤h.m∧h.m≤1000000
 ft:∀j,j<h.k→h.f j≤h.t j∧h.t j<h.w
 lh:∀j,j<h.k→0≤h.lo j∧h.lo j≤h.hi j∧h.hi j≤10000000
def KD:List (Nat×Nat×Int)→Nat→Nat→Int
 |[]=>λ_ _=>NW
 |e :: l=>λx y=>if x=e.1∧y=e.2.1∧e.2.2<KD l x y then e.2.2 else KD l x y
def Ha.fw(h:Ha)(i:Nat):Nat×Nat×Int:=if i<h.w then(i,i+1,h.m)else(h.f (i - h.w),h.t (i - h.w)+1,h.hi (i - h.w))
def Ha.bk(h:Ha)(i:Nat):Nat×Nat×Int:=if i<h.w then(i+1,i,0)else(h.t (i - h.w)+1,h.f (i - h.w),- h.lo (i - h.w))
def Ha.st(h:Ha):Nat→List (Nat×Nat×Int)
 |0=>[]
 |i+1=>h.bk i :: h.fw i :: h.st i
def Ha.C(h:Ha):Nat→Nat→Int:=KD (h.st (h.w+h.k))
def Ha.Tru(h:Ha)(F:Nat→Int):Prop:=(∀i,i<h.w→0≤F (i+1) - F i∧F (i+1) - F i≤h.m)∧∀j,j<h.k→h.lo j≤F (h.t j+1) - F (h.f j)∧F (h.t j+1) - F (h.f j)≤h.hi j
theorem KU:∀{l:List (Nat×Nat×Int)}{p q:Nat}{c:Int},(p,q,c)∈l→KD l p q≤c
 |e :: l,p,q,c,h=>by
  rcases List.mem_cons.1 h with rfl|h
  ·simp only[KD,true_and];split<;>omega
  ·have:=KU h
   simp only[KD];split<;>omega
theorem Js:∀{l:List (Nat×Nat×Int)}{p q:Nat},KD l p q≠NW→(p,q,KD l p q)∈l
 |[],p,q,h=>absurd rfl h
 |(a,b,c) :: l,p,q,h=>by
  simp only[KD]at h ⊢;split
  ·simp_all
  ·rename_i c;rw[if_neg c]at h;exact List.mem_cons_of_mem _ (Js h)
theorem Ha.st_mem(h:Ha):∀{n:Nat}{e:Nat×Nat×Int},e∈h.st n↔∃i,i<n∧(e=h.fw i∨e=h.bk i)
 |0,e=>by simp[Ha.st]
 |n+1,e=>by
  simp only[Ha.st,List.mem_cons,Ha.st_mem h (n:=n)];constructor
  ·grind
  ·grind
variable{h:Ha}
theorem Ha.Ok.step(o:h.Ok){n:Nat}(hn:n≤h.w+h.k){p q:Nat}{c:Int}(hm:(p,q,c)∈h.st n):p≤h.w∧q≤h.w∧-10000000≤c∧c≤10000000:=by
 obtain⟨i,h1,h2⟩:=h.st_mem.1 hm;have hm2:=o.m;rcases h2 with h2|h2
 ·unfold Ha.fw at h2
  split at h2
  ·grind
  ·have h3:=o.ft (i - h.w) Ω
   have h4:=o.lh (i - h.w) Ω
   grind
 ·unfold Ha.bk at h2
  split at h2
  ·grind
  ·have h3:=o.ft (i - h.w) Ω
   have h4:=o.lh (i - h.w) Ω
   grind
theorem Ha.Ok.cb(o:h.Ok):Cb h.C:=λp q hc=>(o.step (xa5 _) (Js hc)).2.2
theorem Ha.Ok.adj(o:h.Ok):Adj h.C (h.w+1):=λi hi=>by
 have h1:=KU (l:=h.st (h.w+h.k)) (p:=i) (q:=i+1) (c:=h.m) (h.st_mem.2 ⟨i,Ω,.inl (by unfold Ha.fw;rw[if_pos Ω])⟩);have h2:=KU (l:=h.st (h.w+h.k)) (p:=i+1) (q:=i) (c:=0) (h.st_mem.2 ⟨i,Ω,.inr (by unfold Ha.bk;rw[if_pos Ω])⟩);have:=o.m;unfold Ha.C NW;omega
theorem Ha.Ok.fea(o:h.Ok){F:Nat→Int}:Fea h.C (h.w+1) F↔h.Tru F:=by
 constructor
 ·intro hF
  have key:∀{p q:Nat}{c:Int},(p,q,c)∈h.st (h.w+h.k)→F q≤F p+c:=λ{p q c} hm=>by
   have h1:=o.step (xa5 _) hm;have h2:=KU hm;have h3:=hF p q Ω Ω (by unfold Ha.C NW;omega);unfold Ha.C at h3;omega
  constructor
  ·intro i hi
   have h1:=key (h.st_mem.2 ⟨i,Ω,.inl (by unfold Ha.fw;rw[if_pos hi])⟩);have h2:=key (h.st_mem.2 ⟨i,Ω,.inr (by unfold Ha.bk;rw[if_pos hi])⟩);omega
  ·intro j hj
   have h1:=key (h.st_mem.2 ⟨h.w+j,Ω,.inl (by unfold Ha.fw;rw[if_neg Ω])⟩);have h2:=key (h.st_mem.2 ⟨h.w+j,Ω,.inr (by unfold Ha.bk;rw[if_neg Ω])⟩)
   grind
 ·rintro⟨h1,h2⟩ p q hp hq hc
  obtain⟨i,h3,h4⟩:=h.st_mem.1 (Js hc);unfold Ha.C;generalize KD (h.st (h.w+h.k)) p q=c at *;rcases h4 with h4|h4
  ·unfold Ha.fw at h4
   split at h4
   ·grind
   ·grind
  ·unfold Ha.bk at h4
   split at h4
   ·simp_all
   ·grind
theorem Ha.Ok.least(o:h.Ok){a:Nat}(ha:a≤h.w):(∃D,Lst h.C (h.w+1) a D∧(∃k,k≤h.w∧∀x,x≤h.w→itR h.C (h.w+1) (S0 a) (k+1) x=itR h.C (h.w+1) (S0 a) k x)∧∀k,(∀x,x≤h.w→itR h.C (h.w+1) (S0 a) (k+1) x=itR h.C (h.w+1) (S0 a) k x)→∀x,x≤h.w→itR h.C (h.w+1) (S0 a) (k+1) x=D x)∨((∀F,¬h.Tru F)∧∀k,k≤20→¬∀x,x≤h.w→itR h.C (h.w+1) (S0 a) (k+1) x=itR h.C (h.w+1) (S0 a) k x):=by
 have hw:=o.w2;by_cases hF:∃F,h.Tru F
 ·obtain⟨F,hF⟩:=hF
  obtain⟨D,h1,h2,h3⟩:=qkt o.adj (o.fea.2 hF) (a:=a) Ω o.cb Ω;refine .inl ⟨D,h1,⟨h.w,xa5 _,λx hx=>?_⟩,λk hk x hx=>h3 k (λy hy=>hk y Ω) x Ω⟩
  grind
 ·refine .inr ⟨λF h=>hF ⟨F,h⟩,λk hk hs=>hF ⟨_,o.fea.1 (qnc o.adj o.cb Ω (a:=a) Ω hk λx hx=>hs x Ω)⟩⟩
end Go.Tn
end
section
namespace Go.Tn
open Go.Proofs
open Go.Sx
variable{X:SV}
theorem TYc:True∧qn Tryz.prog 2=some ⟨false,1,some [Φ Γ 0],.int .i64⟩∧qn Tryz.prog 3=some ⟨false,1,some [Φ Γ 0],.int .i64⟩∧qn Tryz.prog 4=some ⟨false,1,some [.bool false],.bool⟩∧qn Tryz.prog 28=some ⟨false,1,some [Φ Γ 0],.int .i64⟩∧qn Tryz.prog 32=some ⟨false,1,some [.slice none 0 0],.slice 2 1⟩∧qn Tryz.prog 95=some ⟨false,1,some [.slice none 0 0],.slice 101 4⟩∧qn Tryz.prog 97=some ⟨true,3,some [Φ Γ 0,Φ Γ 0,.slice none 0 0],.struct [(0,1,some false),(1,1,some false),(2,1,some false)]⟩∧qt Tryz.prog 97=some [(0,1),(1,1),(2,1)]∧qn Tryz.prog 99=some ⟨true,2,some [Φ Γ 0,Φ Γ 0],.struct [(0,1,some false),(1,1,some false)]⟩∧qt Tryz.prog 99=some [(0,1),(1,1)]∧qW Tryz.prog 99=some [.i .i64,.i .i64]∧qn Tryz.prog 101=some ⟨true,4,some [Φ Γ 0,Φ Γ 0,Φ Γ 0,Φ Γ 0],.struct [(0,1,some false),(1,1,some false),(2,2,some true)]⟩∧qt Tryz.prog 101=some [(0,1),(1,1),(2,2)]∧qW Tryz.prog 101=some [.i .i64,.i .i64,.i .i64,.i .i64]∧qn Tryz.prog 184=some ⟨false,1,some [.pointer none],.other⟩∧qn Tryz.prog 193=some ⟨true,3,some [.bool false,Φ Γ 0,.bool false],.struct [(0,1,some false),(1,1,some false),(2,1,some false)]⟩∧qt Tryz.prog 193=some [(0,1),(1,1),(2,1)]∧qW Tryz.prog 193=some [.b,.i .i64,.b]∧qn Tryz.prog 336=some ⟨false,1,some [.map none],.map 343 340⟩∧qD Tryz.prog 336=some ⟨true,[.i .i64,.i .i64],.agg [.val (.bool false),Ψ (Φ Γ 0),.val (.bool false),Ψ (Φ Γ 0)]⟩∧qn Tryz.prog 338=some ⟨true,4,some [Φ Γ 0,Φ Γ 0,.slice none 0 0,.map none],.struct [(0,3,some true),(3,1,some false)]⟩∧qt Tryz.prog 338=some [(0,3),(3,1)]∧qn Tryz.prog 340=some ⟨true,4,some [.bool false,Φ Γ 0,.bool false,Φ Γ 0],.struct [(0,3,some true),(3,1,some false)]⟩∧qt Tryz.prog 340=some [(0,3),(3,1)]∧qW Tryz.prog 340=some [.b,.i .i64,.b,.i .i64]∧qn Tryz.prog 343=some ⟨true,2,some [Φ Γ 0,Φ Γ 0],.struct [(0,1,some false),(1,1,some false)]⟩∧qt Tryz.prog 343=some [(0,1),(1,1)]∧qW Tryz.prog 343=some [.i .i64,.i .i64]∧qF Tryz.prog 101=32:=⟨trivial,Ωb,Ωb,Ωb,Ωb,Ωb,Ωb,Ωb,Ωb,Ωb,Ωb,Ωb,Ωb,Ωb,Ωb,Ωb,Ωb,Ωb,Ωb,Ωb,Ωb,Ωb,Ωb,Ωb,Ωb,Ωb,Ωb,Ωb,Ωb,Ωb⟩
def ctL(h:Ha)(i:Nat):List SV:=[Ψ (Φ Γ (h.f i)),Ψ (Φ Γ (h.t i)),Ψ (Φ Γ (h.lo i)),Ψ (Φ Γ (h.hi i))]
def ctR(h:Ha):SV:=.arr false false h.k 4 (λi j=>(ctL h i).getD j .top)
def haS(h:Ha):SV:=.agg [Ψ (Φ Γ h.w),Ψ (Φ Γ h.m),ctR h]
def shL(h:Ha)(X:SV):List SV:=[Ψ (Φ Γ h.w),Ψ (Φ Γ h.m),ctR h,X]
def shR(h:Ha)(X:SV):SV:=.ref false 4 (λj=>(shL h X).getD j .top)
theorem qpo{P:SV→Prop}{a b c d:SV}(ha:P a)(hb:P b)(hc:P c)(hd:P d):∀j,j<4→P ([a,b,c,d].getD j .top):=λj hj=>by
 grind
theorem kR(h:Ha):Old (ctR h):=⟨rfl,λi j hi hj=>by
 unfold ctL;exact qpo (P:=Old) ΩE ΩE ΩE ΩE j hj⟩
theorem gP(h:Ha):Old (haS h):=by simp[haS,Old,OldL,kR]
theorem WV(h:Ha)(hX:Old X):Old (shR h X):=⟨rfl,λj hj=>qpo (P:=Old) ΩE ΩE (kR h) hX j hj⟩
theorem qqR(h:Ha)(hX:Old X)(i:Nat)(hi:i<h.w)(hw:h.w≤10)(b:Bool):qf Tryz.prog 329 [shR h X,.agg [.val (.bool true),Ψ (Φ Γ (i:Nat)),.val (.bool b)]] (.tup [I (if b then h.bk i else h.fw i).1,I (if b then h.bk i else h.fw i).2.1,I (if b then h.bk i else h.fw i).2.2]):=by
 refine qg Tryz.func329 rfl Ωb follows Ωb _ _ (by rw[Tryz.ntmps329];simp) (by simp only[OldL,WV h hX,true_and];simp[Old,OldL]) ?_;have NB:True:=trivial;cases b
 all_goals (conv=>arg 4;unfold shR shL)
 all_goals repeat' first|refine sD ?_ ?_<;>intro _|refine aAh ?_|simp -dsimp only[↓RP,RQ,seval,TYc,NB,QÁ]
 all_goals all_goals try exact ΩB
 all_goals simp[Ha.fw,Ha.bk,hi,I]
theorem qqS(h:Ha)(o:h.Ok)(hX:Old X)(i:Nat)(hi:i<h.k)(b:Bool):qf Tryz.prog 329 [shR h X,.agg [.val (.bool false),Ψ (Φ Γ (i:Nat)),.val (.bool b)]] (.tup [I (if b then h.bk (h.w+i)else h.fw (h.w+i)).1,I (if b then h.bk (h.w+i)else h.fw (h.w+i)).2.1,I (if b then h.bk (h.w+i)else h.fw (h.w+i)).2.2]):=by
 have h1:=o.ft i hi;have h2:=o.lh i hi;have h3:=o.w2;refine qg Tryz.func329 rfl Ωb follows Ωb _ _ (by rw[Tryz.ntmps329];simp) (by simp only[OldL,WV h hX,true_and];simp[Old,OldL]) ?_;have NB:True:=trivial;cases b
 all_goals (conv=>arg 4;unfold shR shL ctR ctL)
 all_goals repeat' first|refine sD ?_ ?_<;>intro _|refine aAh ?_|simp -dsimp only[↓RP,RQ,seval,TYc,NB,QÁ]
 all_goals all_goals try exact ΩB
 all_goals simp[Ha.fw,Ha.bk,I,show ¬h.w+i<h.w by omega]
end Go.Tn
end
section
namespace Go.Sx
open Go.RowKit
noncomputable section
variable{ρ:Q}
def QL(M post:Code):List Code→Code
 |[]=>M.seq post
 |c :: l=>c.seq (QL M post l)
abbrev MX:=Tr 3 SV→Tr 6 XB→Nat→XK→R
def qkv(run:XC)(L:FL)(mh:MX)(post:Code)(l:List Code)(fr:Tr 3 SV)(hp:Tr 6 XB)(nid:Nat)(f:XK):R:=
 List.rec (motive:=λ_=>Tr 3 SV→Tr 6 XB→Nat→R) (λfr hp nid=>mh fr hp nid λe fr hp nid=>match e with
  |.normal=>run L .top post fr hp nid f
  |.exit i=>f (.exit i) fr hp nid
  |.ret=>f .ret fr hp nid) (λc _ ih fr hp nid=>run L .top c fr hp nid λe fr hp nid=>match e with
  |.normal=>ih fr hp nid
  |.exit i=>f (.exit i) fr hp nid
  |.ret=>f .ret fr hp nid) l fr hp nid
def qsv(E:XE)(rs:List ResultVar)(k:SV→Tr 6 XB→Nat→R):XK
 |.exit _,_,_,_=>.bad 330 0
 |.normal,fr,hp,nid=>yn E fr hp rs λm=>svK (oneSV m) λs=>k s hp nid
 |.ret,fr,hp,nid=>yn E fr hp rs λm=>svK (oneSV m) λs=>k s hp nid
def qnd(E:XE)(n:Nat)(fn:Func)(L:FL)(mh:MX)(pre:List Code)(post:Code)(args:List SV)(hp:Tr 6 XB)(nid:Nat)(k:SV→Tr 6 XB→Nat→R):R:=
 ql 302 (Nat.ble args.length fn.ntmps) (WD args 0 .nil λfr=>qkv (KC E n) L mh post pre fr hp nid (qsv E fn.results.toList k))
def qeM(P:Program)(L:FL)(M:Code)(mh:MX):Prop:=∀(ρ:Q)(LM:Nat→Option Loop)(fs:List Fr)(lo:Nat)(st:St)(fr:Tr 3 SV)(hp:Tr 6 XB)(nid:Nat)(f:XK)(K:Ex→St→Prop),StR LM fr hp nid st→mh fr hp nid f=.ok ρ→
 (∀e fr' hp' nid' st',StR LM fr' hp' nid' st'→f e fr' hp' nid'=.ok ρ→K e st')→vc P ⟨fs,lo,false,qV L⟩ M st K
section
variable{P:Program}{E:XE}
theorem VI{run:XC}(hrun:vo P run){L:FL}{mh:MX}{M post:Code}(hM:qeM P L M mh){LM:Nat→Option Loop}{fs:List Fr}{lo:Nat}{f:XK}{K:Ex→St→Prop}(hk:∀e fr' hp' nid' st',StR LM fr' hp' nid' st'→f e fr' hp' nid'=.ok ρ→K e st'):∀(l:List Code)(st:St)(fr:Tr 3 SV)(hp:Tr 6 XB)(nid:Nat),StR LM fr hp nid st→qkv run L mh post l fr hp nid f=.ok ρ→vc P ⟨fs,lo,false,qV L⟩ (QL M post l) st K
 |[],st,fr,hp,nid,hs,h=>by
  refine hM ρ LM fs lo st fr hp nid _ _ hs h λe fr' hp' nid' st' hs' h'=>?_;cases e with
  |normal=>exact hrun ρ LM fs lo false L .top post st' fr' hp' nid' f K rfl hs' h' hk
  |exit i=>exact hk _ _ _ _ _ hs' h'
  |ret=>exact hk _ _ _ _ _ hs' h'
 |c :: l,st,fr,hp,nid,hs,h=>by
  refine hrun ρ LM fs lo false L .top c st fr hp nid _ _ rfl hs h λe fr' hp' nid' st' hs' h'=>?_;cases e with
  |normal=>exact VI hrun hM hk l st' fr' hp' nid' hs' h'
  |exit i=>exact hk _ _ _ _ _ hs' h'
  |ret=>exact hk _ _ _ _ _ hs' h'
theorem qeN(hm:P.follows .mixedOrders=true)(hE:XOk P E)(hf:wJ P E){g:Nat}{fn:Func}{L:FL}{mh:MX}{M post:Code}{pre:List Code}(hc:qjb P g fn L (QL M post pre))(hM:qeM P L M mh)(n:Nat):yb P g (qnd E n fn L mh pre post):=by
 intro ρ LM O args hp k st K hH h hk;unfold qnd at h;obtain⟨q,h⟩:=qe h;obtain⟨fr,h1,h2⟩:=yR h;refine QE (qV L) hm hc.at_ hc.body hc.name hc.ok (xa7 q) λout=>?_;have key:∀(fr3:Tr 3 SV)(hp3:Tr 6 XB)(nid3:Nat)(st3:St),StR LM fr3 hp3 nid3 st3→(yn E fr3 hp3 fn.results.toList λm=>svK (oneSV m) λs=>k s hp3 nid3)=.ok ρ→resultsVC P fn.results.toList st3 (λm=>K ⟨st.fr,st3.hp,st3.nid⟩ (oneSV m)):=λfr3 hp3 nid3 st3 h3 h=>by
  refine yS hE h3 h λm h=>?_;rw[Qx]at h;obtain⟨a,b,c⟩:=h3;rw[c];exact hk _ _ _ _ b h
 refine VI (qeq hm hE hf n) hM (λe fr3 hp3 nid3 st3 h3 h=>?_) pre ⟨argFr 0 args,st.hp,st.nid⟩ fr hp st.nid ⟨h1,hH,rfl⟩ h2;cases e with
 |exit i=>cases h
 |normal=>exact key _ _ _ _ h3 h
 |ret=>exact key _ _ _ _ h3 h
end
end
end Go.Sx
end
section
namespace Go.Sx
open Go.Proofs
open Go.RowKit
noncomputable section
def sqL:Code→Code
 |.seq a _=>a
 |c=>c
def sqR:Code→Code
 |.seq _ b=>b
 |c=>c
def sqN:Nat→Code→List Code
 |0,_=>[]
 |n+1,c=>sqL c :: sqN n (sqR c)
def sqB:Nat→Code→Code
 |0,c=>c
 |n+1,c=>sqB n (sqR c)
def gQ(f:Func):Code:=f.body.getD .skip
def qeO(l:List Nat)(fr:Tr 3 SV)(g:Tr 3 SV→R):R:=List.rec (motive:=λ_=>Tr 3 SV→R) g (λt _ ih fr=>zf (some .top) 22 fr t ih) l fr
def qaS(p:Value→SV→Bool)(es:List (Value×Option SV)):List (Value×Option SV):=List.rec [] (λa _ ih=>match a with
 |(k,some s)=>(k,Bool.rec none (some s) (p k s)) :: ih
 |(k,none)=>(k,none) :: ih) es
def jx(lay:Bool)(k:Value)(_:SV):Bool:=match k with
 |.agg a=>(match a.toList with
  |[_,.bool b]=>b == lay
  |_=>false)
 |_=>false
def qpp:Code:=sqL (sqB 7 (gQ Tryz.f104))
def ve:List Nat:=[10,73,74,75,76,77,78,79,80,81,82,83,84,85,86,87,88,89,90]
def qkw:MX:=λfr hp nid f=>match qy fr 1,qy fr 9 with
 |.ptr b 0,.val (.bool lay)=>(match hp.find b with
  |some (.cells 175 [.ptr d 0])=>(match hp.find d with
   |some (.cells 313 [a0,a1,a2,a3,a4,a5,a6,a7,a8,a9,a10,a11,a12,a13,a14,a15,a16,a17,a18,a19,a20,a21,.mp mid])=>(match hp.find mid with
    |some (.map true [.i .i64,.b] es)=>qeO ve fr λfr=>zf (some (.tup [.val (.bool false)])) 22 fr 78 λfr=>zf (some (.val (.bool false))) 22 fr 79 λfr=>zf (some (.map true [.i .i64,.b] (qaS (jx lay) es))) 22 hp mid λhp=>qm (nid+(20*es.length+100)) λnid=>f .normal fr hp nid
    |_=>.bad 600 0)
   |_=>.bad 601 0)
  |_=>.bad 602 0)
 |_,_=>.bad 603 0
end
end Go.Sx
end
section
namespace Go.Tn
open Go.Proofs
open Go.Sx Go.RowKit
variable{fr:List (Nat×SV)}{hp:List (Nat×Blk)}{dom:Value→Bool}{stamp:Value→Nat}{p:Value→SV→Bool}{k:Value}
theorem TYs:True∧qn Tryz.prog 309=some ⟨false,1,some [.map none],.map 315 3⟩∧qD Tryz.prog 309=some ⟨true,[.i .i64,.b],Ψ (Φ Γ 0)⟩∧qn Tryz.prog 313=some ⟨true,23,some [Φ Γ 0,.slice none 0 0,Φ Γ 0,Φ Γ 0,Φ Γ 0,Φ Γ 0,Φ Γ 0,Φ Γ 0,Φ Γ 0,Φ Γ 0,Φ Γ 0,Φ Γ 0,Φ Γ 0,Φ Γ 0,Φ Γ 0,Φ Γ 0,Φ Γ 0,Φ Γ 0,Φ Γ 0,Φ Γ 0,Φ Γ 0,Φ Γ 0,.map none],.struct [(0,2,some true),(2,10,some true),(12,10,some true),(22,1,some false)]⟩∧qt Tryz.prog 313=some [(0,2),(2,10),(12,10),(22,1)]∧qn Tryz.prog 315=some ⟨true,2,some [Φ Γ 0,.bool false],.struct [(0,1,some false),(1,1,some false)]⟩∧qt Tryz.prog 315=some [(0,1),(1,1)]∧qW Tryz.prog 315=some [.i .i64,.b]∧qn Tryz.prog 175=some ⟨false,1,some [.pointer none],.other⟩:=⟨trivial,Ωb,Ωb,Ωb,Ωb,Ωb,Ωb,Ωb,Ωb⟩
section
variable{P:Program}{O:Ctx}
theorem qcJ{op:Op}{st:St}{K:St→SV→Prop}(h:Under st.hp st.nid→OpVC P O op st K):OpVC P O op st K:=λbase okc ns r outs a w o ho hi=>h hi.keys base okc ns r outs a w o ho hi
theorem qeP{J:Prop}{j:Tag J}{d:Option Tmp}{id:Nat}{K:St→Prop}{g:Tag K}{t:TypeId}{x:Operand}{o:Tag (Op.range t x)}{mid:Nat}{fit:Value→Bool}{get:Value→SV}{mi:jX}(hJ:J)(hx:env (Go.Sx.look fr) x=.mp mid)(ht:qD P t=some mi)(hb:blk hp mid=some (.map fit dom get))
  (h:Under hp id→∀(stamp:Value→Nat)(clk:Nat),(∀k,dom k=true→stamp k<clk)→(∀k k',dom k=true→dom k'=true→stamp k=stamp k'→k=k')→
   K (St.put ⟨fr,(id,.iter mid clk [] clk) :: setBlk hp mid (.mapS fit dom get stamp clk),id+1⟩ d (.ptr id 0))):qfE P O j o d id fr hp K g:=⟨hJ,qcJ λhU=>Va hx ht hb (h hU)⟩
theorem Jt{ρ:Q}:∀{l:List Nat}{fr:Tr 3 SV}{g:Tr 3 SV→R},qeO l fr g=.ok ρ→∃fr',(∀t,qy fr' t=if t∈l then .top else qy fr t)∧g fr'=.ok ρ
 |[],fr,g,h=>⟨fr,λt=>by simp,h⟩
 |a :: l,fr,g,h=>by
  have h:zf (some .top) 22 fr a (λfr=>qeO l fr g)=.ok ρ:=h;obtain⟨f1,h1,h⟩:=qC _ _ _ _ h;obtain⟨f2,h2,h⟩:=Jt (l:=l) h;refine⟨f2,λt=>?_,h⟩;rw[h2];have e:qy f1 t=if t=a then .top else qy fr t:=by
   unfold qy;rw[h1 t];by_cases c:t=a
   ·rw[if_pos c,if_pos c]
   ·rw[if_neg c,if_neg c]
  by_cases c:t∈l
  ·rw[if_pos c,if_pos (List.mem_cons_of_mem _ c)]
  ·rw[if_neg c,e]
   by_cases c2:t=a
   ·rw[if_pos c2,if_pos (by rw[c2];exact xd5)]
   ·rw[if_neg c2,if_neg (λh=>(List.mem_cons.1 h).elim c2 c)]
def JS(l:List Nat)(F:List (Nat×SV)):List (Nat×SV):=l.map (λt=>(t,SV.top))++F
theorem qP{F:List (Nat×SV)}{t:Nat}:∀{l:List Nat},Go.Sx.look (JS l F) t=if t∈l then .top else Go.Sx.look F t
 |[]=>by simp[JS]
 |a :: l=>by
  show Go.Sx.look ((a,SV.top) :: JS l F) t=_;have ih:=qP (F:=F) (t:=t) (l:=l);simp only[Go.Sx.look];by_cases c:t=a
  ·rw[if_pos c,if_pos (by rw[c];exact xd5)]
  ·rw[if_neg c,ih]
   by_cases d:t∈l
   ·rw[if_pos d,if_pos (List.mem_cons_of_mem _ d)]
   ·rw[if_neg d,if_neg (λh=>(List.mem_cons.1 h).elim c d)]
theorem qkx{r r2:Nat→Option Nat}{N N2:Nat→Prop}{G G2:Bool→Nat→Prop}{w w2:World}{b:Value}{v:Value}(h:Rep r N G w (.tup [.val b]) v):Rep r2 N2 G2 w2 (.tup [.val b]) v:=by
 cases h with
 |tup _ cs hl hr=>
  refine .tup _ cs hl λi sv hi=>?_;have h:=hr i sv hi;rcases i with _|i
  ·simp only[xd6,Option.some.injEq]at hi
   subst hi;generalize cs.getD 0 undef=x at h;cases h;exact .val _
  ·simp at hi
theorem qcK{P:Program}{O:Ctx}{J:Prop}{j:Tag J}{d:Option Tmp}{id:Nat}{K:St→Prop}{g:Tag K}{x:Operand}{o:Tag (Op.next x false)}{iid mid clk:Nat}{seen:List Nat}{fit:Value→Bool}{get:Value→SV}(hJ:J)(hx:env (Go.Sx.look fr) x=.ptr iid 0)(hbi:blk hp iid=some (.iter mid clk seen clk))(hbm:blk hp mid=some (.mapS fit dom get stamp clk))
  (h1:∀k,fit k=true→dom k=true→stamp k∉seen→K (St.put ⟨fr,setBlk hp iid (.iter mid clk (seen++[stamp k]) clk),id⟩ d (.tup [.val (.bool true),.val k,get k])))
  (h2:(∀k,dom k=true→stamp k∈seen)→∃st2,Weak O ⟨fr,hp,id⟩ st2∧id≤st2.nid∧K (St.put st2 d (.tup [.val (.bool false)]))):qfE P O j o d id fr hp K g:=by
 refine⟨hJ,λbase okc ns r outs a w oo ho hi=>?_⟩;obtain⟨v,w',e1,st',r',res,e2,e3,e4,e5⟩:=YB (P:=P) (O:=O) (st:=⟨fr,hp,id⟩) (K:=λst' res=>(res≠.tup [.val (.bool false)]∧K (st'.put d res))∨(res=.tup [.val (.bool false)]∧∃st2,Weak O st' st2∧st'.nid≤st2.nid∧K (st2.put d (.tup [.val (.bool false)])))) hx hbi hbm (λk a b c=>.inl ⟨Ωg,h1 k a b c⟩) (λhh=>.inr ⟨rfl,h2 hh⟩) base okc ns r outs a w oo ho hi;rcases e2 with⟨_,e2⟩|⟨rfl,st2,hw,hn,hk⟩
 ·exact⟨v,w',e1,st',r',res,e2,e3,e4,e5⟩
 ·obtain⟨r2,hi2⟩:=hw _ _ _ _ _ _ ⟨r',e4⟩
  exact⟨v,w',e1,st2,r2,_,hk,xc1 e3 hn,hi2,qkx e5⟩
end
theorem yr{O:Ctx}{fr':List (Nat×SV)}{hp':List (Nat×Blk)}{nid nid':Nat}(hn:nid≤nid')(hf:∀t,Go.Sx.look fr' t=.top∨Go.Sx.look fr' t=Go.Sx.look fr t)(hh:SubHp hp hp'):Weak O ⟨fr,hp,nid⟩ ⟨fr',hp',nid'⟩:=by
 refine Weak.trans (QA O ⟨fr,hp,nid⟩ nid' hn) ?_;rintro base okc ns outs a w ⟨r,h⟩;have hs:=h.sat.sub hh;have h2:InvR O base okc ns nid' r outs (St.put {({ fr:=fr,hp:=hp,nid:=nid' }:St)with hp:=hp' } none undefSV) (a.put none undef) w:=h.step hs (λid x hx=>h.keys id x (hh id x hx)) (xa5 _) (d:=none) (λt ht=>by cases ht) (.val undef);refine⟨r,h2.sat,h2.keys,λi=>?_,h2.size,h2.lo,h2.out,h2.rfix,h2.defers⟩;rcases hf i with e|e
 ·show Rep _ _ _ _ (Go.Sx.look fr' i) _
  rw[e];exact .top _
 ·show Rep _ _ _ _ (Go.Sx.look fr' i) _
  rw[e];exact h2.fr i
theorem wA{p:Value→SV→Bool}{v:Value}:∀{es:List (Value×Option SV)},kG (qaS p es) v=(kG es v).bind λs=>if p v s=true then some s else none
 |[]=>rfl
 |(k,some s) :: es=>by
  show kG ((k,Bool.rec none (some s) (p k s)) :: qaS p es) v=_;rw[zR,zR];by_cases c:eqK k v=true
  ·rw[if_pos c,if_pos c,←zz c]
   show(Bool.rec none (some s) (p k s):Option SV)=if p k s=true then some s else none
   cases p k s<;>rfl
  ·rw[if_neg c,if_neg c];exact wA
 |(k,none) :: es=>by
  show kG ((k,none) :: qaS p es) v=_;rw[zR,zR];by_cases c:eqK k v=true
  ·rw[if_pos c,if_pos c];rfl
  ·rw[if_neg c,if_neg c];exact wA
def dAt(dom:Value→Bool)(get:Value→SV)(p:Value→SV→Bool)(ks:List Value):Value→Bool:=λv=>dom v&&!(ks.any λk=>eqK k v&&!p k (get k))
theorem WW(dom:Value→Bool)(get:Value→SV)(p:Value→SV→Bool):dAt dom get p []=dom:=by funext v;simp[dAt]
theorem WX{get:Value→SV}{ks:List Value}(h:p k (get k)=true):dAt dom get p (ks++[k])=dAt dom get p ks:=by
 funext v;simp[dAt,List.any_append,h]
theorem qcL{get:Value→SV}{ks:List Value}(h:p k (get k)=false):dAt dom get p (ks++[k])=ko (dAt dom get p ks) k:=by
 funext v;simp only[dAt,List.any_append,List.any_cons,List.any_nil,h,ko,Bool.not_false,xf1,xf3,Bool.not_or];cases dom v<;>cases eqK k v<;>simp
theorem WY{get:Value→SV}{ks:List Value}{v:Value}(h:dAt dom get p ks v=true):dom v=true:=by
 unfold dAt at h;rw[xe6]at h;exact h.1
theorem WZ{get:Value→SV}{ks:List Value}(hin:∀v,v∈ks→dom v=true∧eqK v v=true)(hinj:∀k k',dom k=true→dom k'=true→stamp k=stamp k'→k=k')(hall:∀v,dAt dom get p ks v=true→stamp v∈ks.map stamp)(v:Value):(dom v&&p v (get v))=dAt dom get p ks v:=by
 cases hd:dom v with
 |false=>unfold dAt;rw[hd];rfl
 |true=>
  cases hp:p v (get v)with
  |true=>
   unfold dAt;rw[hd,xf0,xf0]
   symm
   rw[Bool.not_eq_true',List.any_eq_false];intro k hk hc;rw[xe6]at hc;rw[zz hc.1,hp]at hc;exact absurd hc.2 Ωq
  |false=>
   cases hq:dAt dom get p ks v with
   |false=>rfl
   |true=>
    exfalso
    obtain⟨u,hu,e⟩:=List.mem_map.1 (hall v hq);have e:=hinj u v (hin u hu).1 hd e;subst e;unfold dAt at hq;rw[xe6,Bool.not_eq_true',List.any_eq_false]at hq;exact hq.2 u hu (by rw[(hin u hu).2,hp];rfl)
theorem qaT{v:Value}:∀{es:List (Value×Option SV)},(kG es v).isSome=true→∃q,q∈es.map Prod.fst∧eqK q v=true
 |[],h=>by cases h
 |(k,o) :: es,h=>by
  rw[zR]at h;by_cases c:eqK k v=true
  ·exact⟨k,xd5,c⟩
  ·rw[if_neg c]at h
   obtain⟨q,h1,h2⟩:=qaT h;exact⟨q,List.mem_cons_of_mem _ h1,h2⟩
theorem W0{es:List (Value×Option SV)}{ks:List Value}(hn:ks.Nodup)(h:∀v,v∈ks→(kG es v).isSome=true):ks.length≤es.length:=by
 have hlt:∀v,v∈ks→(es.map Prod.fst).findIdx (λq=>eqK q v)<(es.map Prod.fst).length:=λv hv=>by
  obtain⟨q,h1,h2⟩:=qaT (h v hv);exact List.findIdx_lt_length_of_exists ⟨q,h1,h2⟩
 have:=vL es.length (ks.map λv=>(es.map Prod.fst).findIdx (λq=>eqK q v)) (yO hn λa b ha hb e=>by
  have h1:=List.findIdx_getElem (w:=hlt a ha);have h2:=List.findIdx_getElem (w:=hlt b hb);have h1:=zz h1;have h2:=zz h2;rw[←h1,←h2]
  congr 1) λx hx=>by
  obtain⟨v,hv,rfl⟩:=List.mem_map.1 hx;have:=hlt v hv
  rwa [xe1]at this
 rwa [xe1]at this
theorem qqT:qD Tryz.prog 309=some ⟨true,[.i .i64,.b],Ψ (Φ Γ 0)⟩:=by kernel_rfl
theorem qne(h:qh true [.i .i64,.b] k=true):∃r b,k=.agg #[Φ Γ r,.bool b]:=by
 cases k<;>simp only[qh,xe7]at h
 rename_i a;obtain⟨l⟩:=a;have h:qY [.i .i64,.b] l=true:=h;rcases l with _|⟨x,_|⟨y,_|⟨z,l⟩⟩⟩<;>simp only[qY,xe6,xe7,and_false]at h
 obtain⟨h1,h2,_⟩:=h;cases x<;>simp only[lfOk,xe7,decide_eq_true_eq]at h1
 cases y<;>simp only[lfOk,xe7]at h2
 rename_i k r b;exact⟨r,b,by rw[h1]⟩
theorem qnf:qeM Tryz.prog [(11,[(2,2)]),(12,[(2,2)])] qpp qkw:=by
 intro ρ LM fs lo st fr hp nid f K hs h hk;obtain⟨F,H,n⟩:=st;obtain⟨hF,hH,hn⟩:=hs
 replace hF:FRel fr F:=hF
 replace hH:HRel LM hp H:=hH
 replace hn:n=nid:=hn
 unfold qkw at h;split at h
 rotate_left
 ·cases h
 rename_i b lay e1 e9;split at h
 rotate_left
 ·cases h
 rename_i d hb;split at h
 rotate_left
 ·cases h
 rename_i a0 a1 a2 a3 a4 a5 a6 a7 a8 a9 a10 a11 a12 a13 a14 a15 a16 a17 a18 a19 a20 a21 mid hd;split at h
 rotate_left
 ·cases h
 rename_i es hm;obtain⟨fr0,hfr0,h⟩:=Jt h;obtain⟨fr1,hfr1,h⟩:=qC _ _ _ _ h;obtain⟨fr',hfr',h⟩:=qC _ _ _ _ h;obtain⟨hp1,p1,h⟩:=qC _ _ _ _ h;rw[qj]at h;have f1:Go.Sx.look F 1=.ptr b 0:=(hF 1).trans e1;have f9:Go.Sx.look F 9=.val (.bool lay):=(hF 9).trans e9;have b1:blk H b=some (.cells 175 [.ptr d 0]):=hH.cells hb;have b2:=hH.cells hd;obtain⟨dom,get,b3,hdg⟩:=hH.map hm;have NB:True:=trivial
 conv=>arg 3;whnf
 (repeat' first|refine sD ?_ ?_<;>intro _|refine aAh ?_|simp -dsimp only[↓RP,RQ,seval,↓RY,TYs,f1,f9,b1,b2,b3,NB,QÁ]);obtain⟨iid,hiid⟩:∃iid,iid=n+4:=⟨_,rfl⟩;rw[←hiid];refine qeP (mid:=mid) (fit:=qh true [.i .i64,.b]) (dom:=dom) (get:=get) Ωr Ωr qqT b3 λhU stamp clk hst hinj=>?_;have u1:=hU b _ b1;have u2:=hU d _ b2;have u3:=hU mid _ b3;have n1:b≠mid:=λe=>by rw[e,b3]at b1;cases b1
 have n2:d≠mid:=λe=>by rw[e,b3]at b2;cases b2
 have NB:=(⟨nmA u1,nmA u2,nmA u3,nmE n1,nmE n2⟩:_∧_∧_∧_∧_);(repeat' first|refine sD ?_ ?_<;>intro _|refine aAh ?_|simp -dsimp only[↓RP,RQ,seval,↓RY,TYs,f1,f9,b1,b2,b3,NB,QÁ]);refine qp (λ(z:List Value)=>z.Nodup∧(∀v,v∈z→dom v=true∧eqK v v=true)) (λz=>⟨(77,.ptr iid 0) :: JS ve F,(iid,.iter mid clk (z.map stamp) clk) ::(mid,.mapS (qh true [.i .i64,.b]) (dAt dom get (jx lay) z) get stamp clk) :: dropBlk H mid,iid+6+20*z.length⟩) (λz=>es.length - z.length) [] ⟨List.nodup_nil,λv hv=>Ωs⟩ (yr (xa5 _) (λt=>by
  by_cases e:t=77
  ·subst e;right;simp[Go.Sx.look]
  ·by_cases c:t∈ve
   ·left;simp[Go.Sx.look,qP,e,c]
   ·right
    rw[ve]at c;simp only[List.mem_cons,List.not_mem_nil,or_false,not_or]at c;simp[Go.Sx.look,qP,ve,c]) ?hA) λks hz=>?_
 case hA=>
  rw[WW];(repeat' (refine SubHp.ent (by simp only[blk,qq,b3,NB,List.map_nil,xg1,if_false,if_true]) ?_));intro q v hv;rw[qv]at hv;by_cases c:q=mid
  ·rw[if_pos c]at hv;cases hv
  ·rw[if_neg c]at hv
   have hq:=hU q v hv;simp only[blk,qq];rw[if_neg Ω,if_neg c];exact hv
 obtain⟨z1,z2⟩:=hz;have hD:∀q v,blk (dropBlk H mid) q=some v→q<iid∧q≠mid:=λq v hv=>by
  rw[qv]at hv;by_cases c:q=mid
  ·rw[if_pos c]at hv;cases hv
  ·rw[if_neg c]at hv;exact⟨hU q v hv,c⟩
 have hc1:blk (dropBlk H mid) b=some (.cells 175 [.ptr d 0]):=by rw[qv,if_neg n1];exact b1
 have hc2:blk (dropBlk H mid) d=some (.cells 313 [a0,a1,a2,a3,a4,a5,a6,a7,a8,a9,a10,a11,a12,a13,a14,a15,a16,a17,a18,a19,a20,a21,.mp mid]):=by rw[qv,if_neg n2];exact b2
 have g1:Go.Sx.look (JS ve F) 1=.ptr b 0:=by rw[qP,if_neg Ωq];exact f1
 have g9:Go.Sx.look (JS ve F) 9=.val (.bool lay):=by rw[qP,if_neg Ωq];exact f9
 have hkl:=W0 (es:=es) z1 (λv hv=>by rw[←(hdg v).1];exact(z2 v hv).1);have NB1:=NB;clear NB;obtain⟨nn,hnn⟩:∃nn,nn=iid+6+20*ks.length:=⟨_,rfl⟩;rw[←hnn];have z3:iid<nn:=by omega
 have NB:=(⟨nmA (Ω:b<nn),nmA (Ω:d<nn),nmA (Ω:mid<nn),nmA z3,NB1⟩:_∧_∧_∧_∧_);(repeat' first|refine sD ?_ ?_<;>intro _|refine aAh ?_|simp -dsimp only[↓RP,RQ,seval,hc1,hc2,g1,g9,↓RY,TYs,f1,f9,b1,b2,b3,NB,QÁ]);refine qcK (iid:=iid) (mid:=mid) (clk:=clk) (seen:=ks.map stamp) (fit:=qh true [.i .i64,.b]) (dom:=dAt dom get (jx lay) ks) (get:=get) (stamp:=stamp) Ωr Ωr Ωp Ωp (λk hk1 hk2 hk3=>?_) (λhall=>?_)
 ·obtain⟨r,bb,rfl⟩:=qne hk1
  have hkd:=WY hk2;have hkn:(.agg #[Φ Γ r,.bool bb]:Value)∉ks:=λhm=>hk3 (List.mem_map.2 ⟨_,hm,rfl⟩);have w1:=gi z1 hkn;have w2:∀v,v∈ks++[(.agg #[Φ Γ r,.bool bb]:Value)]→dom v=true∧eqK v v=true:=λv hv=>by
   rcases List.mem_append.1 hv with h|h
   ·exact z2 v h
   ·rw[List.mem_singleton.1 h];exact⟨hkd,by simp[eqK,jB,vX]⟩
  have w3:es.length -(ks++[(.agg #[Φ Γ r,.bool bb]:Value)]).length<es.length - ks.length:=by
   have:=W0 (es:=es) w1 (λv hv=>by rw[←(hdg v).1];exact(w2 v hv).1);rw[xc8,xd1]at this ⊢;omega
  (repeat' first|refine sD ?_ ?_<;>intro _|refine aAh ?_|simp -dsimp only[↓RP,RQ,seval,hc1,hc2,g1,g9,↓RY,TYs,f1,f9,b1,b2,b3,NB,QÁ]);refine Q3 (s:=.agg [Ψ (Φ Γ r),.val (.bool bb)]) (iid:=iid) (mid:=mid) (clk:=clk) (seen:=ks.map stamp) (fit:=qh true [.i .i64,.b]) (dom:=dAt dom get (jx lay) ks) (get:=get) (stamp:=stamp) (k:=.agg #[Φ Γ r,.bool bb]) Ωr Ωr Ωp Ωp hk2 (vF [Φ Γ r,.bool bb]) ?_;have dbl:decide (bb=lay)=decide (bb=lay):=rfl;by_cases hbl:bb=lay
  ·conv at dbl=>rhs;rw[decide_eq_true hbl]
   have hkp:jx lay (.agg #[Φ Γ r,.bool bb]) (get (.agg #[Φ Γ r,.bool bb]))=true:=by
    subst hbl;simp[jx]
   (repeat' first|refine sD ?_ ?_<;>intro _|refine aAh ?_|simp -dsimp only[↓RP,RQ,seval,hc1,hc2,g1,g9,dbl,↓RY,TYs,f1,f9,b1,b2,b3,NB,QÁ]);refine⟨ks++[.agg #[Φ Γ r,.bool bb]],⟨w1,w2⟩,w3,yr ?hn1 (λt=>by
    by_cases e:t=77
    ·subst e;right;simp[Go.Sx.look]
    ·by_cases c:t∈ve
     ·left;simp[Go.Sx.look,qP,e,c]
     ·right
      rw[ve]at c;simp only[List.mem_cons,List.not_mem_nil,or_false,not_or]at c;simp[Go.Sx.look,qP,ve,c]) ?hh1⟩
   case hn1=>rw[xc8,xd1];omega
   case hh1=>
    rw[List.map_append,List.map_cons,List.map_nil,WX hkp]
    ((repeat' (refine SubHp.ent Ωu ?_)))
    intro q v hv;have hq:=hD q v hv;simp only[blk];rw[if_neg Ω,if_neg Ω,if_neg hq.2];exact hv
  ·conv at dbl=>rhs;rw[decide_eq_false hbl]
   have hkp:jx lay (.agg #[Φ Γ r,.bool bb]) (get (.agg #[Φ Γ r,.bool bb]))=false:=by
    simp[jx,hbl]
   (repeat' first|refine sD ?_ ?_<;>intro _|refine aAh ?_|simp -dsimp only[↓RP,RQ,seval,hc1,hc2,g1,g9,dbl,↓RY,TYs,f1,f9,b1,b2,b3,NB,QÁ]);refine⟨ks++[.agg #[Φ Γ r,.bool bb]],⟨w1,w2⟩,w3,yr ?hn0 (λt=>by
    by_cases e:t=77
    ·subst e;right;simp[Go.Sx.look]
    ·by_cases c:t∈ve
     ·left;simp[Go.Sx.look,qP,e,c]
     ·right
      rw[ve]at c;simp only[List.mem_cons,List.not_mem_nil,or_false,not_or]at c;simp[Go.Sx.look,qP,ve,c]) ?hh0⟩
   case hn0=>rw[xc8,xd1];omega
   case hh0=>
    rw[List.map_append,List.map_cons,List.map_nil,qcL hkp]
    ((repeat' (refine SubHp.ent Ωu ?_)))
    intro q v hv;have hq:=hD q v hv;simp only[blk];rw[if_neg Ω,if_neg Ω,if_neg hq.2];exact hv
 ·have hend:=WZ (p:=jx lay) z2 hinj hall
  have hR:HRel LM hp1 ((mid,.map (qh true [.i .i64,.b]) (λv=>dom v&&jx lay v (get v)) get) :: dropBlk H mid):=by
   intro q x hx;rw[p1 q]at hx;by_cases c:q=mid
   ·rw[if_pos c]at hx
    cases hx;refine⟨.map (qh true [.i .i64,.b]) (λv=>dom v&&jx lay v (get v)) get,by simp only[blk];rw[if_pos c],rfl,λk=>?_⟩;have h1:=hdg k;rw[wA];cases e:kG es k with
    |none=>rw[e]at h1;exact⟨by show(dom k&&jx lay k (get k))=_;rw[h1.1];rfl,λs hs=>(by cases hs)⟩
    |some s=>
     rw[e]at h1;have h2:=h1.2 s rfl;show(dom k&&jx lay k (get k))=_∧_;rw[h1.1,h2];dsimp only[Option.bind_some,Option.isSome_some];cases jx lay k s with
     |true=>exact⟨rfl,λs' hs=>(by cases hs;rfl)⟩
     |false=>exact⟨rfl,λs' hs=>(by cases hs)⟩
   ·rw[if_neg c]at hx
    obtain⟨b',h1,h2⟩:=hH q x hx;exact⟨b',by simp only[blk];rw[if_neg c,qv,if_neg c];exact h1,h2⟩
  refine⟨⟨JS ve F,(mid,.map (qh true [.i .i64,.b]) (λv=>dom v&&jx lay v (get v)) get) :: dropBlk H mid,n+(20*es.length+98)⟩,Weak.trans (WA (mid:=mid) (fit:=qh true [.i .i64,.b]) (dom:=dAt dom get (jx lay) ks) (dom':=λv=>dom v&&jx lay v (get v)) (get:=get) (st:=stamp) (c:=clk) Ωp hend) (yr Ω (λt=>?_) ?_),Ωc,?_⟩
  ·by_cases c:t∈ve
   ·left;rw[qP,if_pos c]
   ·right
    have e:t≠77:=λe=>c (by rw[e];decide);simp[Go.Sx.look,e]
  ·simp only[setBlk,NB,if_false,if_true]
   (repeat' (refine SubHp.ent (by simp only[blk,NB,if_false,if_true]) ?_));intro q v hv;have hq:=hD q v hv;simp only[blk];rw[if_neg Ω,if_neg hq.2];exact hv
  (repeat' first|refine sD ?_ ?_<;>intro _|refine aAh ?_|simp -dsimp only[↓RP,RQ,seval,↓RY,TYs,f1,f9,b1,b2,b3,NB,QÁ]);refine hk .normal fr' hp1 (nid+(20*es.length+100)) _ ⟨λt=>?_,hR,by dsimp only;rw[hn]⟩ h;dsimp only;rw[show qy fr' t=if t=79 then .val (.bool false)else qy fr1 t by
   unfold qy;rw[hfr' t];by_cases c:t=79
   ·rw[if_pos c,if_pos c]
   ·rw[if_neg c,if_neg c],show qy fr1 t=if t=78 then .tup [.val (.bool false)]else qy fr0 t by
   unfold qy;rw[hfr1 t];by_cases c:t=78
   ·rw[if_pos c,if_pos c]
   ·rw[if_neg c,if_neg c],hfr0,←hF t]
  simp only[Go.Sx.look,qP]
end Go.Tn
end
section
namespace Go.Tn
open Go.Proofs
open Go.Sx
variable{n:Nat}{v:Value}{dom:Value→Bool}
abbrev Lab:=Bool×Int×Bool
def aL:List ((Nat×Nat×Int)×Lab)→Nat→Nat→Int×Lab
 |[]=>λ_ _=>(NW,(false,0,false))
 |e :: l=>λx y=>if x=e.1.1∧y=e.1.2.1∧e.1.2.2<(aL l x y).1 then(e.1.2.2,e.2)else aL l x y
theorem W2{x y:Nat}:∀{l:List ((Nat×Nat×Int)×Lab)},(aL l x y).1=KD (l.map Prod.fst) x y
 |[]=>rfl
 |e :: l=>by
  simp only[aL,List.map_cons,KD,W2 (l:=l)];split<;>simp[W2]
def Ha.lb(h:Ha)(i:Nat)(b:Bool):Lab:=(decide (i<h.w),(if i<h.w then((i:Nat):Int)else((i - h.w:Nat):Int)),b)
def Ha.sl(h:Ha):Nat→List ((Nat×Nat×Int)×Lab)
 |0=>[]
 |i+1=>(h.bk i,h.lb i true) ::(h.fw i,h.lb i false) :: h.sl i
theorem Ha.sl_st(h:Ha):∀n,(h.sl n).map Prod.fst=h.st n
 |0=>rfl
 |n+1=>by simp[Ha.sl,Ha.st,Ha.sl_st h n]
def k2(x y:Nat):Value:=.agg #[Φ Γ (x:Nat),Φ Γ (y:Nat)]
def kf2:Value→Bool:=qh true [.i .i64,.i .i64]
def aS(e:Int×Lab):SV:=.agg [.val (.bool e.2.1),Ψ (Φ Γ e.2.2.1),.val (.bool e.2.2.2),Ψ (Φ Γ e.1)]
def of2{α:Type}(z:α)(f:Int→Int→α)(v:Value):α:=match v with
 |.agg a=>(match a.toList with
  |[Φ Γ p,Φ Γ q]=>f p q
  |_=>z)
 |_=>z
def gA(l:List ((Nat×Nat×Int)×Lab)):Value→SV:=of2 .top λp q=>aS (aL l p.toNat q.toNat)
def dF(n:Nat):Value→Bool:=of2 false λp q=>decide (0≤p∧p<n∧0≤q∧q<n)
def dA(n:Nat)(l:List ((Nat×Nat×Int)×Lab)):Value→Bool:=of2 false λp q=>decide (0≤p∧p<n∧0≤q∧q<n)&&decide ((aL l p.toNat q.toNat).1≠NW)
theorem dF_iff:dF n v=true↔∃x y,x<n∧y<n∧v=k2 x y:=by
 constructor
 ·intro h
  unfold dF of2 at h;split at h
  ·rename_i a
   split at h
   ·rename_i p q e
    obtain⟨h1,h2,h3,h4⟩:=of_decide_eq_true h;refine⟨p.toNat,q.toNat,Ω,Ω,?_⟩;unfold k2;rw[Int.toNat_of_nonneg h1,Int.toNat_of_nonneg h3];obtain⟨l⟩:=a;simp only at e;rw[e]
   ·cases h
  ·cases h
 ·rintro⟨x,y,hx,hy,rfl⟩
  exact decide_eq_true Ω
theorem qpq{x y x' y':Nat}(h:k2 x y=k2 x' y'):x=x'∧y=y':=by
 unfold k2 at h;injection h with h;have h1:=congrArg Array.toList h;simp at h1;omega
theorem eqK_k2{x y:Nat}:eqK (k2 x y) v=true↔v=k2 x y:=by
 constructor
 ·intro h;exact(zz h).symm
 ·rintro rfl;simp[eqK,k2,jB,vX]
def D1(n p q:Nat)(dom:Value→Bool)(get:Value→SV):Prop:=(∀v,dom v=true→∃x y,x<n∧y<n∧v=k2 x y)∧(∀x y,y<n→(x<p∨x=p∧y<q)→dom (k2 x y)=true)∧∀v,dom v=true→get v=aS (NW,(false,0,false))
theorem D1.put{p q:Nat}{get:Value→SV}(h:D1 n p q dom get)(hp:p<n)(hq:q<n):D1 n p (q+1) (qA dom (k2 p q)) (qB get (k2 p q) (aS (NW,(false,0,false)))):=by
 obtain⟨h1,h2,h3⟩:=h;refine⟨λv hv=>?_,λx y hy hxy=>?_,λv hv=>?_⟩
 ·unfold qA at hv
  cases e:eqK (k2 p q) v with
  |true=>exact⟨p,q,hp,hq,eqK_k2.1 e⟩
  |false=>rw[e]at hv;exact h1 v hv
 ·unfold qA
  cases e:eqK (k2 p q) (k2 x y)with
  |true=>rfl
  |false=>
   refine h2 x y hy ?_;by_cases c:x=p∧y=q
   ·obtain⟨rfl,rfl⟩:=c;rw[eqK_k2.2 rfl]at e;cases e
   ·omega
 ·unfold qB
  unfold qA at hv;cases e:eqK (k2 p q) v with
  |true=>rfl
  |false=>rw[e]at hv;exact h3 v hv
theorem D1.next{p:Nat}{get:Value→SV}(h:D1 n p n dom get):D1 n (p+1) 0 dom get:=⟨h.1,λx y hy hxy=>h.2.1 x y hy Ω,h.2.2⟩
theorem qky{hp:List (Nat×Blk)}{id:Nat}{h:Ha}{t:TypeId}{X Y:SV}(hb:blk hp id=some (.cells t (shL h Y)))(hX:Go.Sx.Sub hp X Y):Go.Sx.Sub hp (shR h X) (.ptr id 0):=by
 unfold shR;simp only[Go.Sx.Sub,hb];intro j hj;rw[xb0];refine⟨?_,by simpa[shL]using hj⟩;rcases(Ω:j=0∨j=1∨j=2∨j=3)with rfl|rfl|rfl|rfl
 ·exact qr _ (by simp[Old,shL])
 ·exact qr _ (by simp[Old,shL])
 ·exact qr _ (kR h)
 ·exact hX
def D2(n:Nat)(l:List ((Nat×Nat×Int)×Lab))(dom:Value→Bool)(get:Value→SV):Prop:=(∀v,dom v=dF n v)∧∀x y,x<n→y<n→get (k2 x y)=aS (aL l x y)
variable{l:List ((Nat×Nat×Int)×Lab)}
theorem D2.skip{get:Value→SV}(h:D2 n l dom get){f t:Nat}{c:Int}{b:Lab}(hc:¬c<(aL l f t).1):D2 n (((f,t,c),b) :: l) dom get:=⟨h.1,λx y hx hy=>by
 rw[h.2 x y hx hy];simp only[aL];rw[if_neg];rintro⟨rfl,rfl,h3⟩;exact hc h3⟩
theorem D2.put{get:Value→SV}(h:D2 n l dom get){f t:Nat}{c:Int}{b:Lab}(hf:f<n)(ht:t<n)(hc:c<(aL l f t).1):D2 n (((f,t,c),b) :: l) (qA dom (k2 f t)) (qB get (k2 f t) (aS (c,b))):=by
 refine⟨λv=>?_,λx y hx hy=>?_⟩
 ·unfold qA
  rw[←h.1 v];cases e:eqK (k2 f t) v with
  |true=>rw[eqK_k2.1 e,h.1,dF_iff.2 ⟨f,t,hf,ht,rfl⟩];rfl
  |false=>rfl
 ·unfold qB
  simp only[aL];cases e:eqK (k2 f t) (k2 x y)with
  |true=>
   obtain⟨rfl,rfl⟩:=qpq (eqK_k2.1 e);rw[if_pos ⟨rfl,rfl,hc⟩];rfl
  |false=>
   rw[if_neg (by rintro⟨rfl,rfl,_⟩;rw[eqK_k2.2 rfl]at e;cases e)];exact h.2 x y hx hy
theorem qog:qD Tryz.prog 336=some ⟨true,[.i .i64,.i .i64],.agg [.val (.bool false),Ψ (Φ Γ 0),.val (.bool false),Ψ (Φ Γ 0)]⟩:=by kernel_rfl
def vf(_:Value)(s:SV):Bool:=match s with
 |.agg [_,_,_,Ψ (Φ Γ c)]=>decide (c≠NW)
 |_=>true
theorem qcM(e:Int×Lab):Old (aS e):=by simp[aS,Old,OldL]
theorem qeQ:dA n l v=(dF n v&&of2 false (λp q=>decide ((aL l p.toNat q.toNat).1≠NW)) v):=by
 unfold dA dF of2;split
 ·split<;>rfl
 ·rfl
theorem qpr{get:Value→SV}(h:D2 n l dom get)(v:Value):dA n l v=(dom v&&vf v (get v)):=by
 rw[h.1 v];cases e:dF n v with
 |true=>
  obtain⟨x,y,hx,hy,rfl⟩:=dF_iff.1 e;rw[h.2 x y hx hy];show(decide _&&decide _)=(true&&decide _);rw[decide_eq_true (by omega:0≤(x:Int)∧(x:Int)<n∧0≤(y:Int)∧(y:Int)<n)];rfl
 |false=>rw[qeQ,e];rfl
theorem qkz(hn:n≤11)(hd:∀v,dom v=dF n v){ks:List Value}(h1:ks.Nodup)(h2:∀v,v∈ks→dom v=true):ks.length≤121:=by
 have:=ZA (n:=121) (l:=ks.map (of2 0 λp q=>p.toNat*11+q.toNat)) (yO h1 λa b ha hb e=>by
  obtain⟨x,y,hx,hy,rfl⟩:=dF_iff.1 ((hd a).symm.trans (h2 a ha));obtain⟨x',y',hx',hy',rfl⟩:=dF_iff.1 ((hd b).symm.trans (h2 b hb));have e:x*11+y=x'*11+y':=e;obtain⟨rfl,rfl⟩:x=x'∧y=y':=by omega
  rfl) (λz hz=>by
  obtain⟨v,hv,rfl⟩:=List.mem_map.1 hz;obtain⟨x,y,hx,hy,rfl⟩:=dF_iff.1 ((hd v).symm.trans (h2 v hv));show x*11+y<121;omega)
 rwa [xe1]at this
def Ha.hl(h:Ha)(i:Nat):Nat→List ((Nat×Nat×Int)×Lab)
 |0=>h.sl i
 |1=>(h.fw i,h.lb i false) :: h.sl i
 |_=>h.sl (i+1)
theorem qsw(h:Ha)(o:h.Ok):qf Tryz.prog 232 [haS h] (.ref true 4 (λj=>(shL h (.cmp true kf2 (dA (h.w+1) (h.sl (h.w+h.k))) (gA (h.sl (h.w+h.k))))).getD j .top)):=by
 refine qg Tryz.func232 rfl Ωb follows Ωb _ _ (by rw[Tryz.ntmps232];simp) (by simp only[OldL,gP h,and_true]) ?_;have NB:True:=trivial;have hw:=o.w2
 conv=>arg 4;unfold haS
 (repeat' first|refine sD ?_ ?_<;>intro _|refine aAh ?_|simp -dsimp only[↓RP,RQ,seval,TYc,NB,QÁ]);refine qp (λ(z:Nat×Nat×(Value→Bool)×(Value→SV))=>z.1≤h.w+1∧12≤z.2.1∧D1 (h.w+1) z.1 0 z.2.2.1 z.2.2.2) (λz=>⟨[(1,.ptr 0 0),(3,.ptr 6 0),(19,Ψ (Φ Γ ((h.w:Nat)+1))),(20,Ψ (Φ Γ (z.1:Nat)))],[(6,.cells 184 [.ptr 5 0]),(5,.cells 338 [Ψ (Φ Γ h.w),Ψ (Φ Γ h.m),ctR h,.mp 3]),(3,.map (qh true [.i .i64,.i .i64]) z.2.2.1 z.2.2.2),(0,.cells 97 [Ψ (Φ Γ h.w),Ψ (Φ Γ h.m),ctR h])],z.2.1⟩) (λz=>h.w+1 - z.1) (0,12,λ_=>false,λ_=>.top) ⟨xb6 _,xa5 _,⟨λv hv=>Ωs,λx y hy hxy=>Ω,λv hv=>Ωs⟩⟩ (weakSU (xa5 _) Ωd ?hA) λz hz=>?_
 case hA=>((repeat' (refine SubHp.ent ΩS ?_));exact λq v hv=>Ωs)
 obtain⟨p,n1,dom,get⟩:=z;obtain⟨hp,hn1,hD⟩:=hz;dsimp only at hp hn1 hD;dsimp only;clear NB;have NB:=(⟨nmA (Ω:0<n1),nmA (Ω:3<n1),nmA (Ω:5<n1),nmA (Ω:6<n1)⟩:_∧_∧_∧_);by_cases hpw:p<h.w+1
 ·have hlt:=decide_eq_true (Ω:((p:Nat):Int)<(h.w:Nat)+1)
  (repeat' first|refine sD ?_ ?_<;>intro _|refine aAh ?_|simp -dsimp only[↓RP,RQ,seval,hlt,TYc,NB,QÁ]);refine qp (λ(z:Nat×Nat×(Value→Bool)×(Value→SV))=>z.1≤h.w+1∧12≤z.2.1∧D1 (h.w+1) p z.1 z.2.2.1 z.2.2.2) (λz=>⟨[(1,.ptr 0 0),(3,.ptr 6 0),(4,Ψ (Φ Γ (p:Nat))),(19,Ψ (Φ Γ ((h.w:Nat)+1))),(20,Ψ (Φ Γ (p:Nat))),(25,Ψ (Φ Γ ((h.w:Nat)+1))),(26,Ψ (Φ Γ (z.1:Nat)))],[(6,.cells 184 [.ptr 5 0]),(5,.cells 338 [Ψ (Φ Γ h.w),Ψ (Φ Γ h.m),ctR h,.mp 3]),(3,.map (qh true [.i .i64,.i .i64]) z.2.2.1 z.2.2.2),(0,.cells 97 [Ψ (Φ Γ h.w),Ψ (Φ Γ h.m),ctR h])],z.2.1⟩) (λz=>h.w+1 - z.1) (0,_,dom,get) ⟨xb6 _,?hB,hD⟩ (weakSU (xa5 _) Ωd ?hC) λz hz=>?_
  case hC=>((repeat' (refine SubHp.ent ΩS ?_));exact λq v hv=>Ωs)
  case hB=>dsimp only;omega
  obtain⟨q,n2,dom2,get2⟩:=z;obtain⟨hq,hn2,hD2⟩:=hz;dsimp only at hq hn2 hD2;dsimp only;clear NB;have NB:=(⟨nmA (Ω:0<n2),nmA (Ω:3<n2),nmA (Ω:5<n2),nmA (Ω:6<n2)⟩:_∧_∧_∧_);by_cases hqw:q<h.w+1
  ·have hlt2:=decide_eq_true (Ω:((q:Nat):Int)<(h.w:Nat)+1)
   (repeat' first|refine sD ?_ ?_<;>intro _|refine aAh ?_|simp -dsimp only[↓RP,RQ,seval,hlt2,TYc,NB,QÁ]);refine⟨(q+1,n2+14,qA dom2 (k2 p q),qB get2 (k2 p q) (aS (NW,(false,0,false)))),⟨Ωc,Ωc,hD2.put hpw hqw⟩,Ωc,weakSU (xa5 _) Ωd ?hD⟩
   case hD=>((repeat' (refine SubHp.ent Ωr ?_));exact λq v hv=>Ωs)
  ·obtain rfl:q=h.w+1:=by omega
   have hlt2:=decide_eq_false (Ω:¬((h.w+1:Nat):Int)<(h.w:Nat)+1);(repeat' first|refine sD ?_ ?_<;>intro _|refine aAh ?_|simp -dsimp only[↓RP,RQ,seval,hlt2,TYc,NB,QÁ]);refine⟨(p+1,n2+3,dom2,get2),⟨Ωc,Ωc,hD2.next⟩,Ωc,weakSU (xa5 _) Ωd ?hE⟩
   case hE=>((repeat' (refine SubHp.ent Ωr ?_));exact λq v hv=>Ωs)
 ·have hlt:=decide_eq_false (Ω:¬((p:Nat):Int)<(h.w:Nat)+1)
  obtain rfl:p=h.w+1:=by omega
  (repeat' first|refine sD ?_ ?_<;>intro _|refine aAh ?_|simp -dsimp only[↓RP,RQ,seval,hlt,TYc,NB,QÁ]);refine qqa follows Ωr Tryz.func328 rfl Ωb Ωb (by rw[Tryz.ntmps328];simp) λout=>?_;(repeat' first|refine sD ?_ ?_<;>intro _|refine aAh ?_|simp -dsimp only[↓RP,RQ,seval,TYc,NB,QÁ]);obtain⟨cid,hcid⟩:∃c,c=n1+2:=⟨_,rfl⟩;obtain⟨lid,hlid⟩:∃c,c=n1+8:=⟨_,rfl⟩;refine qos follows (gf:=372) Ωr Tryz.func372 rfl Ωb Ωb Ωr (by rw[Tryz.ntmps372];simp) λout2 L R=>?_;have hk:=o.k;(repeat' first|refine sD ?_ ?_<;>intro _|refine aAh ?_|simp -dsimp only[↓RP,RQ,seval,ctR,TYc,NB,QÁ]);refine qp (λ(z:Nat×Nat×(Value→Bool)×(Value→SV))=>z.1≤h.w+h.k∧lid<z.2.1∧D2 (h.w+1) (h.sl z.1) z.2.2.1 z.2.2.2) (λz=>⟨[(0,.yld lid),(1,.ptr cid 0),(19,Ψ (Φ Γ ((h.w:Nat)+(h.k:Nat)))),(20,Ψ (Φ Γ (z.1:Nat)))],[(lid,.loop L .ready),(cid,.cells 184 [.ptr 5 0]),(6,.cells 184 [.ptr 5 0]),(5,.cells 338 (shL h (.mp 3))),(3,.map (qh true [.i .i64,.i .i64]) z.2.2.1 z.2.2.2),(0,.cells 97 [Ψ (Φ Γ h.w),Ψ (Φ Γ h.m),ctR h])],z.2.1⟩) (λz=>h.w+h.k - z.1) (0,_,dom,get) ⟨xb6 _,?hF,?hG⟩ (weakSU (xa5 _) (by simp[qQ,Go.Sx.look,hlid,hcid]) ?hH) λz hz=>?_
  case hF=>dsimp only;omega
  case hG=>
   refine⟨λv=>?_,λx y hx hy=>?_⟩
   ·dsimp only
    rw[Bool.eq_iff_iff,dF_iff];constructor
    ·intro hv;exact hD.1 v hv
    ·rintro⟨x,y,hx,hy,rfl⟩;exact hD.2.1 x y hy (.inl hx)
   ·exact hD.2.2 _ (hD.2.1 x y hy (.inl hx))
  case hH=>rw[hlid,hcid];((repeat' (refine SubHp.ent (by simp[blk,shL,ctR,NB]) ?_));exact λq v hv=>Ωs)
  obtain⟨i,n2,dom2,get2⟩:=z;obtain⟨hi,hn2,hD2⟩:=hz;dsimp only at hi hn2 hD2;dsimp only;have NB1:=(⟨nmE (Ω:cid≠0),nmE (Ω:cid≠3),nmE (Ω:cid≠5),nmE (Ω:cid≠6),nmE (Ω:lid≠0),nmE (Ω:lid≠3),nmE (Ω:lid≠5),nmE (Ω:lid≠6),nmE (Ω:lid≠cid)⟩:_∧_∧_∧_∧_∧_∧_∧_∧_);clear NB;have NB:=(⟨NB1,nmA (Ω:0<n2),nmA (Ω:3<n2),nmA (Ω:5<n2),nmA (Ω:6<n2),nmA (Ω:cid<n2),nmA hn2⟩:_∧_∧_∧_∧_∧_∧_);by_cases hil:i<h.w+h.k
  ·have hlt2:=decide_eq_true (Ω:((i:Nat):Int)<(h.w:Nat)+(h.k:Nat))
   obtain⟨wn,hwn⟩:∃wn,wn=decide (i<h.w):=⟨_,rfl⟩;obtain⟨ix,hix⟩:∃ix:Int,ix=if i<h.w then((i:Nat):Int)else((i - h.w:Nat):Int):=⟨_,rfl⟩
   have hcx:∀b,qf Tryz.prog 329 [shR h .top,.agg [.val (.bool wn),Ψ (Φ Γ ix),.val (.bool b)]] (.tup [I (if b then h.bk i else h.fw i).1,I (if b then h.bk i else h.fw i).2.1,I (if b then h.bk i else h.fw i).2.2]):=λb=>by
    by_cases c:i<h.w
    ·have:=qqR h (X:=.top) ΩE i c hw b
     rw[hwn,hix,if_pos c,decide_eq_true c];exact this
    ·have:=qqS h o (X:=.top) ΩE (i - h.w) Ω b
     rw[show h.w+(i - h.w)=i by omega]at this;rw[hwn,hix,if_neg c,decide_eq_false c];exact this
   have hd1:decide (((i:Nat):Int)<(h.w:Nat))=wn:=by rw[hwn];exact decide_eq_decide.2 Ω
   apply qfU (P:=Tryz.prog) (O:=⟨out2,n1+9,false,zC⟩) (λ(x:Nat)=>n2+12<x) (λx=>⟨[(0,.yld lid),(1,.ptr cid 0),(4,.ptr (n2+12) 0),(19,Ψ (Φ Γ ((h.w:Nat)+(h.k:Nat)))),(20,Ψ (Φ Γ (i:Nat))),(44,Ψ (Φ Γ 0))],[(n2+12,.cells 193 [.val (.bool wn),Ψ (Φ Γ ix),.val (.bool false)]),(lid,.loop L .ready),(cid,.cells 184 [.ptr 5 0]),(6,.cells 184 [.ptr 5 0]),(5,.cells 338 (shL h (.mp 3))),(3,.map (qh true [.i .i64,.i .i64]) dom2 get2),(0,.cells 97 [Ψ (Φ Γ h.w),Ψ (Φ Γ h.m),ctR h])],x⟩)
   case main=>
    intro key;repeat' first|refine sD ?_ ?_<;>intro _|refine aAh ?_|simp -dsimp only[↓RP,RQ,seval,hlt2,hd1,shL,TYc,NB,QÁ]
    ·have e:ix=(i:Nat):=by
      have hf:wn=true:=‹wn=true›;rw[hwn,decide_eq_true_eq]at hf;rw[hix,if_pos hf]
     refine(key (n2+18) Ω).weak (weakSU (xa5 _) Ωd ?hJ)
     case hJ=>rw[e];((repeat' (refine SubHp.ent (by simp[blk,shL,NB]) ?_));exact λq v hv=>Ωs)
    ·have e:ix=(i:Nat) -(h.w:Nat):=by
      have hf:wn=false:=‹wn=false›;rw[hwn,decide_eq_false_iff_not]at hf;rw[hix,if_neg hf];omega
     refine(key (n2+28) Ω).weak (weakSU (xa5 _) Ωd ?hI)
     case hI=>rw[e];((repeat' (refine SubHp.ent (by simp[blk,shL,NB]) ?_));exact λq v hv=>Ωs)
   case key=>
    intro n3 hn3;obtain⟨xid,hxid⟩:∃c,c=n2+12:=⟨_,rfl⟩;rw[←hxid]at hn3 ⊢;refine qp (λ(z:Nat×Nat×(Value→Bool)×(Value→SV))=>z.1≤2∧xid<z.2.1∧D2 (h.w+1) (h.hl i z.1) z.2.2.1 z.2.2.2) (λz=>⟨[(0,.yld lid),(1,.ptr cid 0),(4,.ptr xid 0),(19,Ψ (Φ Γ ((h.w:Nat)+(h.k:Nat)))),(20,Ψ (Φ Γ (i:Nat))),(44,Ψ (Φ Γ (z.1:Nat)))],[(xid,.cells 193 [.val (.bool wn),Ψ (Φ Γ ix),.val (.bool (decide (1≤z.1)))]),(lid,.loop L .ready),(cid,.cells 184 [.ptr 5 0]),(6,.cells 184 [.ptr 5 0]),(5,.cells 338 (shL h (.mp 3))),(3,.map (qh true [.i .i64,.i .i64]) z.2.2.1 z.2.2.2),(0,.cells 97 [Ψ (Φ Γ h.w),Ψ (Φ Γ h.m),ctR h])],z.2.1⟩) (λz=>2 - z.1) (0,_,dom2,get2) ⟨xb6 _,hn3,hD2⟩ (weakSU (xa5 _) Ωd ?hK) λz hz=>?_
    case hK=>exact λq v hv=>hv
    obtain⟨j,n4,dom3,get3⟩:=z;obtain⟨hj,hn4,hD3⟩:=hz;dsimp only at hj hn4 hD3;dsimp only;have NBx:=(⟨nmE (Ω:xid≠0),nmE (Ω:xid≠3),nmE (Ω:xid≠5),nmE (Ω:xid≠6),nmE (Ω:xid≠cid),nmE (Ω:xid≠lid)⟩:_∧_∧_∧_∧_∧_);clear NB;have NB:=(⟨NB1,NBx,nmA (Ω:0<n4),nmA (Ω:3<n4),nmA (Ω:5<n4),nmA (Ω:6<n4),nmA (Ω:cid<n4),nmA (Ω:lid<n4),nmA hn4⟩:_∧_∧_∧_∧_∧_∧_∧_∧_);by_cases hj2:j<2
    ·have hlt3:=decide_eq_true (Ω:((j:Nat):Int)<2)
     obtain⟨b,hb⟩:∃b,b=decide (1≤j):=⟨_,rfl⟩;rw[←hb];have hc:=hcx b;obtain⟨e,he⟩:∃e,e=if b then h.bk i else h.fw i:=⟨_,rfl⟩
     rw[←he]at hc;obtain⟨f,t,c⟩:=e;dsimp only at hc;have hst:(f,t,c)∈h.st (h.w+h.k):=h.st_mem.2 ⟨i,hil,by rw[he];cases b<;>simp⟩;obtain⟨hf,ht,hc1,hc2⟩:=o.step (xa5 _) hst;have hdk:dom3 (.agg #[Φ Γ (f:Nat),Φ Γ (t:Nat)])=true:=by rw[hD3.1];exact dF_iff.2 ⟨f,t,Ω,Ω,rfl⟩
     have hgk:get3 (.agg #[Φ Γ (f:Nat),Φ Γ (t:Nat)])=aS (aL (h.hl i j) f t):=hD3.2 f t Ω Ω;have hnx:∀(l:List ((Nat×Nat×Int)×Lab)),l=((f,t,c),(wn,ix,b)) :: h.hl i j→l=h.hl i (j+1):=λl hl=>by
      rw[hl,he,hwn,hix,hb];rcases(Ω:j=0∨j=1)with rfl|rfl<;>rfl
     (repeat' first|refine sD ?_ ?_<;>intro _|refine aAh ?_|simp -dsimp only[↓RP,RQ,seval,hlt3,shL,TYc,NB,QÁ]);refine qk hc (by simp only[SubL,and_true];exact⟨qky (t:=338) (Y:=.mp 3) (by simp[blk,shL,NB]) (by simp[Go.Sx.Sub]),by simp[Go.Sx.Sub,SubL]⟩) ΩT ?_;(repeat' first|refine sD ?_ ?_<;>intro _|refine aAh ?_|simp -dsimp only[↓RP,RQ,seval,QÁ,shL,TYc,NB]);refine qor follows Ωr R Ωp Ωr λout3=>?_;(repeat' first|refine sD ?_ ?_<;>intro _|refine aAh ?_|simp -dsimp only[↓RP,RQ,seval,QÁ,shL,TYc,NB]);obtain⟨A,hA⟩:∃A,A=aL (h.hl i j) f t:=⟨_,rfl⟩;rw[←hA]at hgk;unfold aS at hgk;refine qk hc (by simp only[SubL,and_true];exact⟨qky (t:=338) (Y:=.mp 3) (by simp[blk,shL,NB]) (by simp[Go.Sx.Sub]),by simp[Go.Sx.Sub,SubL]⟩) ΩT ?_;by_cases hcA:c<A.1
     ·have d1:=decide_eq_true hcA
      (repeat' first|refine sD ?_ ?_<;>intro _|refine aAh ?_|simp -dsimp only[↓RP,RQ,seval,QÁ,shL,hdk,hgk,d1,TYc,NB]);refine⟨(j+1,_,qA dom3 (k2 f t),qB get3 (k2 f t) (aS (c,(wn,ix,b)))),⟨hj2,?a1,(hnx _ rfl)▸hD3.put Ω Ω (by rw[←hA];exact hcA)⟩,Ωc,weakSU (xa5 _) Ωd ?a2⟩
      case a1=>dsimp only;omega
      case a2=>rw[show decide (1≤j+1)=true from decide_eq_true Ω];((repeat' (refine SubHp.ent Ωt ?_));exact λq v hv=>Ωs)
     ·have d1:=decide_eq_false hcA
      (repeat' first|refine sD ?_ ?_<;>intro _|refine aAh ?_|simp -dsimp only[↓RP,RQ,seval,QÁ,shL,hdk,hgk,d1,TYc,NB]);refine⟨(j+1,_,dom3,get3),⟨hj2,?b1,(hnx _ rfl)▸hD3.skip (by rw[←hA];exact hcA)⟩,Ωc,weakSU (xa5 _) Ωd ?b2⟩
      case b1=>dsimp only;omega
      case b2=>rw[show decide (1≤j+1)=true from decide_eq_true Ω];((repeat' (refine SubHp.ent Ωt ?_));exact λq v hv=>Ωs)
    ·obtain rfl:j=2:=by omega
     have hlt3:=decide_eq_false (Ω:¬((2:Nat):Int)<2);(repeat' first|refine sD ?_ ?_<;>intro _|refine aAh ?_|simp -dsimp only[↓RP,RQ,seval,hlt3,shL,TYc,NB,QÁ]);refine⟨(i+1,_,dom3,get3),⟨hil,?e1,hD3⟩,Ωc,weakSU (xa5 _) Ωd ?e2⟩
     case e1=>dsimp only;omega
     case e2=>((repeat' (refine SubHp.ent Ωt ?_));exact λq v hv=>Ωs)
  ·obtain rfl:i=h.w+h.k:=by omega
   have hlt2:=decide_eq_false (Ω:¬((h.w+h.k:Nat):Int)<(h.w:Nat)+(h.k:Nat));(repeat' first|refine sD ?_ ?_<;>intro _|refine aAh ?_|simp -dsimp only[↓RP,RQ,seval,hlt2,shL,TYc,NB,QÁ]);rw[←hlid];(repeat' first|refine sD ?_ ?_<;>intro _|refine aAh ?_|simp -dsimp only[↓RP,RQ,seval,shL,TYc,NB,QÁ]);obtain⟨iid,hiid⟩:∃iid,iid=n2+5:=⟨_,rfl⟩;rw[←hiid];refine qdf (mid:=3) (fit:=qh true [.i .i64,.i .i64]) (dom:=dom2) (get:=get2) Ωr Ωr qog Ωp λstamp clk hst hinj=>?_;clear NB;have NB:=(⟨NB1,nmA (Ω:0<iid),nmA (Ω:3<iid),nmA (Ω:5<iid),nmA (Ω:6<iid),nmA (Ω:cid<iid)⟩:_∧_∧_∧_∧_∧_);(repeat' first|refine sD ?_ ?_<;>intro _|refine aAh ?_|simp -dsimp only[↓RP,RQ,seval,shL,TYc,NB,QÁ]);refine qp (λ(z:List Value×Nat)=>z.1.Nodup∧(∀v,v∈z.1→dom2 v=true∧eqK v v=true)∧iid<z.2) (λz=>⟨[(1,.ptr 0 0),(3,.ptr 6 0),(78,.ptr iid 0)],[(iid,.iter 3 clk (z.1.map stamp) clk),(6,.cells 184 [.ptr 5 0]),(5,.cells 338 (shL h (.mp 3))),(3,.mapS (qh true [.i .i64,.i .i64]) (dAt dom2 get2 vf z.1) get2 stamp clk)],z.2⟩) (λz=>121 - z.1.length) ([],_) ⟨List.nodup_nil,λv hv=>Ωs,?k1⟩ (weakSU (xa5 _) Ωd ?k2) λz hz=>?_
   case k1=>dsimp only;omega
   case k2=>dsimp only;rw[WW];((repeat' (refine SubHp.ent Ωt ?_));exact λq v hv=>Ωs)
   obtain⟨ks,n3⟩:=z;obtain⟨z1,z2,hn3⟩:=hz;dsimp only at z1 z2 hn3;dsimp only;clear NB;have NB:=(⟨nmE (Ω:iid≠0),nmE (Ω:iid≠3),nmE (Ω:iid≠5),nmE (Ω:iid≠6),nmA (Ω:0<n3),nmA (Ω:3<n3),nmA (Ω:5<n3),nmA (Ω:6<n3),nmA hn3⟩:_∧_∧_∧_∧_∧_∧_∧_∧_);(repeat' first|refine sD ?_ ?_<;>intro _|refine aAh ?_|simp -dsimp only[↓RP,RQ,seval,shL,TYc,NB,QÁ]);refine qcK (iid:=iid) (mid:=3) (clk:=clk) (seen:=ks.map stamp) (fit:=qh true [.i .i64,.i .i64]) (dom:=dAt dom2 get2 vf ks) (get:=get2) (stamp:=stamp) Ωr Ωr Ωp Ωp (λk hk1 hk2 hk3=>?_) (λhall=>?_)
   ·have hkd:=WY hk2
    obtain⟨x,y,hx,hy,rfl⟩:=dF_iff.1 ((hD2.1 k).symm.trans hkd);have hkn:k2 x y∉ks:=λhm=>hk3 (List.mem_map.2 ⟨_,hm,rfl⟩);have w1:=gi z1 hkn;have w2:∀v,v∈ks++[k2 x y]→dom2 v=true∧eqK v v=true:=λv hv=>by
     rcases List.mem_append.1 hv with h|h
     ·exact z2 v h
     ·rw[List.mem_singleton.1 h];exact⟨hkd,eqK_k2.2 rfl⟩
    have w3:121 -(ks++[k2 x y]).length<121 - ks.length:=by
     have:=qkz Ω hD2.1 w1 (λv hv=>(w2 v hv).1);rw[xc8,xd1]at this ⊢;omega
    have hgk:=hD2.2 x y hx hy;obtain⟨A,hA⟩:∃A,A=aL (h.sl (h.w+h.k)) x y:=⟨_,rfl⟩;rw[←hA]at hgk;have hgk2:=hgk;unfold aS k2 at hgk;unfold k2;(repeat' first|refine sD ?_ ?_<;>intro _|refine aAh ?_|simp -dsimp only[↓RP,RQ,seval,hgk,shL,TYc,NB,QÁ]);refine Q3 (s:=.agg [Ψ (Φ Γ (x:Nat)),Ψ (Φ Γ (y:Nat))]) (iid:=iid) (mid:=3) (clk:=clk) (seen:=ks.map stamp) (fit:=qh true [.i .i64,.i .i64]) (dom:=dAt dom2 get2 vf ks) (get:=get2) (stamp:=stamp) (k:=.agg #[Φ Γ (x:Nat),Φ Γ (y:Nat)]) Ωr Ωr Ωp Ωp hk2 (vF [Φ Γ (x:Nat),Φ Γ (y:Nat)]) ?_;by_cases hc:A.1=1099511627776
    ·have d1:=decide_eq_true hc
     have hkp:vf (k2 x y) (get2 (k2 x y))=false:=by rw[hgk2];exact decide_eq_false (λe=>e hc)
     (repeat' first|refine sD ?_ ?_<;>intro _|refine aAh ?_|simp -dsimp only[↓RP,RQ,seval,hgk,d1,shL,TYc,NB,QÁ]);refine⟨(ks++[k2 x y],_),⟨w1,w2,?m1⟩,w3,weakSU (xa5 _) Ωd ?m2⟩
     case m1=>dsimp only;omega
     case m2=>
      dsimp only;rw[List.map_append,List.map_cons,List.map_nil,qcL hkp]
      ((repeat' (refine SubHp.ent Ωt ?_));exact λq v hv=>Ωs)
    ·have d1:=decide_eq_false hc
     have hkp:vf (k2 x y) (get2 (k2 x y))=true:=by rw[hgk2];exact decide_eq_true hc
     (repeat' first|refine sD ?_ ?_<;>intro _|refine aAh ?_|simp -dsimp only[↓RP,RQ,seval,hgk,d1,shL,TYc,NB,QÁ]);refine⟨(ks++[k2 x y],_),⟨w1,w2,?o1⟩,w3,weakSU (xa5 _) Ωd ?o2⟩
     case o1=>dsimp only;omega
     case o2=>
      dsimp only;rw[List.map_append,List.map_cons,List.map_nil,WX hkp]
      ((repeat' (refine SubHp.ent Ωt ?_));exact λq v hv=>Ωs)
   ·have hend:=WZ (p:=vf) z2 hinj hall
    refine⟨⟨[(1,.ptr 0 0),(3,.ptr 6 0),(78,.ptr iid 0)],[(6,.cells 184 [.ptr 5 0]),(5,.cells 338 (shL h (.mp 3))),(3,.map (qh true [.i .i64,.i .i64]) (dA (h.w+1) (h.sl (h.w+h.k))) get2)],n3⟩,Weak.trans (WA (mid:=3) (fit:=qh true [.i .i64,.i .i64]) (dom:=dAt dom2 get2 vf ks) (dom':=dA (h.w+1) (h.sl (h.w+h.k))) (get:=get2) (st:=stamp) (c:=clk) Ωp (λv=>(qpr hD2 v).trans (hend v))) (weakSU (xa5 _) Ωd ?p1),?p2,?_⟩
    case p1=>((repeat' (refine SubHp.ent (by simp only[blk,setBlk,NB,jd,je,xa2,shL,if_false,if_true];try rfl) ?_));exact λq v hv=>Ωs)
    case p2=>dsimp only;omega
    (repeat' first|refine sD ?_ ?_<;>intro _|refine aAh ?_|simp -dsimp only[↓RP,RQ,seval,shL,TYc,NB,QÁ]);intro j hj;refine⟨?_,hj⟩;rcases(Ω:j=0∨j=1∨j=2∨j=3)with rfl|rfl|rfl|rfl
    ·exact qr _ ΩE
    ·exact qr _ ΩE
    ·exact qr _ (kR h)
    ·refine⟨rfl,rfl,λkey hk=>?_⟩
     obtain⟨x,y,hx,hy,rfl⟩:=dF_iff.1 (by
      rw[qeQ,xe6]at hk;exact hk.1)
     rw[hD2.2 x y hx hy];exact qr _ (qcM _)
end Go.Tn
end
section
namespace Go.Tn
open Go.Proofs
open Go.Sx
variable{S:Nat→Int}{X:List SV}{p:Nat}
theorem TYd:True∧qn Tryz.prog 191=some ⟨true,11,some [Φ Γ 0,Φ Γ 0,Φ Γ 0,Φ Γ 0,Φ Γ 0,Φ Γ 0,Φ Γ 0,Φ Γ 0,Φ Γ 0,Φ Γ 0,Φ Γ 0],.array 11 2 1⟩∧qt Tryz.prog 191=some [(0,1),(1,1),(2,1),(3,1),(4,1),(5,1),(6,1),(7,1),(8,1),(9,1),(10,1)]∧qW Tryz.prog 191=some [.i .i64,.i .i64,.i .i64,.i .i64,.i .i64,.i .i64,.i .i64,.i .i64,.i .i64,.i .i64,.i .i64]∧qn Tryz.prog 194=some ⟨true,33,some [.bool false,Φ Γ 0,.bool false,.bool false,Φ Γ 0,.bool false,.bool false,Φ Γ 0,.bool false,.bool false,Φ Γ 0,.bool false,.bool false,Φ Γ 0,.bool false,.bool false,Φ Γ 0,.bool false,.bool false,Φ Γ 0,.bool false,.bool false,Φ Γ 0,.bool false,.bool false,Φ Γ 0,.bool false,.bool false,Φ Γ 0,.bool false,.bool false,Φ Γ 0,.bool false],.array 11 193 3⟩∧qt Tryz.prog 194=some [(0,3),(3,3),(6,3),(9,3),(12,3),(15,3),(18,3),(21,3),(24,3),(27,3),(30,3)]∧qW Tryz.prog 194=some [.b,.i .i64,.b,.b,.i .i64,.b,.b,.i .i64,.b,.b,.i .i64,.b,.b,.i .i64,.b,.b,.i .i64,.b,.b,.i .i64,.b,.b,.i .i64,.b,.b,.i .i64,.b,.b,.i .i64,.b,.b,.i .i64,.b]∧qn Tryz.prog 196=some ⟨true,56,some [Φ Γ 0,Φ Γ 0,Φ Γ 0,Φ Γ 0,Φ Γ 0,Φ Γ 0,Φ Γ 0,Φ Γ 0,Φ Γ 0,Φ Γ 0,Φ Γ 0,Φ Γ 0,Φ Γ 0,Φ Γ 0,Φ Γ 0,Φ Γ 0,Φ Γ 0,Φ Γ 0,Φ Γ 0,Φ Γ 0,Φ Γ 0,Φ Γ 0,.bool false,Φ Γ 0,.bool false,.bool false,Φ Γ 0,.bool false,.bool false,Φ Γ 0,.bool false,.bool false,Φ Γ 0,.bool false,.bool false,Φ Γ 0,.bool false,.bool false,Φ Γ 0,.bool false,.bool false,Φ Γ 0,.bool false,.bool false,Φ Γ 0,.bool false,.bool false,Φ Γ 0,.bool false,.bool false,Φ Γ 0,.bool false,.bool false,Φ Γ 0,.bool false,Φ Γ 0],.struct [(0,11,some true),(11,11,some true),(22,33,some true),(55,1,some false)]⟩∧qt Tryz.prog 196=some [(0,11),(11,11),(22,33),(55,1)]∧qW Tryz.prog 196=some [.i .i64,.i .i64,.i .i64,.i .i64,.i .i64,.i .i64,.i .i64,.i .i64,.i .i64,.i .i64,.i .i64,.i .i64,.i .i64,.i .i64,.i .i64,.i .i64,.i .i64,.i .i64,.i .i64,.i .i64,.i .i64,.i .i64,.b,.i .i64,.b,.b,.i .i64,.b,.b,.i .i64,.b,.b,.i .i64,.b,.b,.i .i64,.b,.b,.i .i64,.b,.b,.i .i64,.b,.b,.i .i64,.b,.b,.i .i64,.b,.b,.i .i64,.b,.b,.i .i64,.b,.i .i64]:=⟨trivial,Ωb,Ωb,Ωb,Ωb,Ωb,Ωb,Ωb,Ωb,Ωb⟩
def wc(S:Nat→Int)(X:List SV):List SV:=(List.range 11).map (λi=>Ψ (Φ Γ (S i)))++X
theorem yt:(wc S X).length=11+X.length:=by simp[wc]
theorem qcN(h:p<11):(wc S X)[p]? = some (Ψ (Φ Γ (S p))):=by
 unfold wc;rw[xc9 ΩN,List.getElem?_map,xe3 h];rfl
theorem qaU{T:Nat→Int}(h:∀i,i<11→S i=T i):wc S X=wc T X:=by
 unfold wc
 congr 1
 exact List.map_congr_left λi hi=>by rw[h i (List.mem_range.1 hi)]
theorem qcO{v:Int}(h:p<11):(wc S X).set p (Ψ (Φ Γ v))=wc (λi=>if i=p then v else S i) X:=by
 unfold wc;rw[List.set_append_left _ _ ΩN]
 congr 1
 refine List.ext_getElem? λi=>?_;rw[List.getElem?_set,List.getElem?_map,List.getElem?_map];by_cases c:i<11
 ·rw[xe3 c]
  by_cases e:p=i
  ·subst e;rw[if_pos rfl,if_pos ΩN];simp
  ·rw[if_neg e];simp[Ne.symm e]
 ·rw[List.getElem?_eq_none (by simpa using c),if_neg Ω];rfl
theorem qeR{v:SV}(h:11≤p):(wc S X).set p v=wc S (X.set (p - 11) v):=by
 unfold wc;rw[List.set_append_right _ _ ΩN];simp
theorem qps{vs:List SV}(h:11≤p):(wc S X).take p++vs++(wc S X).drop (p+vs.length)=wc S (X.take (p - 11)++vs++X.drop (p - 11+vs.length)):=by
 unfold wc;rw[List.take_append,List.drop_append,List.take_of_length_le ΩN,List.drop_of_length_le Ωj];simp only[xe1,List.length_range,List.nil_append,List.append_assoc];rw[show p+vs.length - 11=p - 11+vs.length by omega]
def NWL:List SV:=(List.replicate 11 (Ψ (Φ Γ 0)))++(List.replicate 11 [SV.val (.bool false),Ψ (Φ Γ 0),.val (.bool false)]).flatten++[Ψ (Φ Γ 0)]
def shC(h:Ha):SV:=.cmp false kf2 (dA (h.w+1) (h.sl (h.w+h.k))) (gA (h.sl (h.w+h.k)))
theorem qng(h:Ha):Old (shC h):=by
 refine⟨rfl,λkey hk=>?_⟩;obtain⟨x,y,hx,hy,rfl⟩:=dF_iff.1 (by rw[qeQ,xe6]at hk;exact hk.1);exact qcM _
def w11(S:Nat→Int):List SV:=(List.range 11).map λi=>Ψ (Φ Γ (S i))
theorem qeS:(w11 S).length=11:=by simp[w11]
theorem qkA:(w11 S).take 11=w11 S:=by rw[List.take_of_length_le (by rw[qeS];omega)]
theorem qeT:(wc S X).take 11=w11 S:=by
 unfold wc w11;rw[List.take_left' Ωg]
theorem qnh:allOne (w11 S)=true:=rfl
theorem w11_eq{T:Nat→Int}:eqSVs (w11 S) (w11 T)=true↔∀i,i<11→S i=T i:=by
 have:∀l:List Nat,eqSVs (l.map λi=>Ψ (Φ Γ (S i))) (l.map λi=>Ψ (Φ Γ (T i)))=true↔∀i,i∈l→S i=T i:=λl=>by
  induction l with
  |nil=>simp[eqSVs]
  |cons x l ih=>simp only[List.map_cons,eqSVs,xe6,ih,List.mem_cons,forall_eq_or_imp];simp[eqV]
 rw[w11,w11,this];simp
theorem qpt{C:Nat→Nat→Int}{n a:Nat}(ha:a<n)(k x:Nat)(hx:n≤x):itR C n (S0 a) k x=NW:=by
 refine qcG (Q:=λS=>S x=NW) (λS p q hp hq h=>?_) ?_ k
 ·unfold rlx;rw[if_neg Ω];exact h
 ·unfold S0;rw[if_neg Ω]
theorem qqU(h:Ha)(o:h.Ok)(a:Nat)(ha:a≤h.w)(res:SV)(hy:∀k,k<h.w+2→(∀x,x≤h.w→itR h.C (h.w+1) (S0 a) (k+1) x=itR h.C (h.w+1) (S0 a) k x)→∃D:Nat→Int,res=.tup [.ref true (h.w+1) (λi=>I (D i)),B true]∧∀x,x≤h.w→itR h.C (h.w+1) (S0 a) (k+1) x=D x)(hn:(∀k,k<h.w+2→¬∀x,x≤h.w→itR h.C (h.w+1) (S0 a) (k+1) x=itR h.C (h.w+1) (S0 a) k x)→res=.tup [.top,B false]):qf Tryz.prog 117 [shR h (shC h),I a] res:=by
 have hw:=o.w2;have hbd:=qku o.cb (by omega:h.w+1≤11) a;obtain⟨T,hT⟩:∃T,T=itR h.C (h.w+1) (S0 a):=⟨_,rfl⟩;rw[←hT]at hy hn hbd;refine kP (j4 19 [(116,121),(116,124)]) Tryz.func117 rfl Ωb follows Ωb _ _ (by rw[Tryz.ntmps117];simp) (by simp only[OldL,WV h (qng h),true_and];simp[Old,I]) ?_;have NB:True:=trivial;unfold I
 conv=>arg 4;unfold shR shL
 (repeat' first|refine sD ?_ ?_<;>intro _|refine aAh ?_|simp -dsimp only[↓RP,RQ,seval,TYc,TYd,NB,QÁ]);obtain⟨R,hR⟩:∃R:SV,R=.ref false 4 (λj=>[Ψ (Φ Γ (h.w:Nat)),Ψ (Φ Γ h.m),ctR h,shC h].getD j SV.top):=⟨_,rfl⟩;rw[←hR];refine qp (λ(p:Nat)=>p≤11) (λp=>⟨[(0,R),(1,Ψ (Φ Γ (a:Nat))),(6,.ptr 3 0),(15,Ψ (Φ Γ (p:Nat)))],[(3,.cells 196 (wc (λi=>if i<p then NW else 0) NWL))],7+20*p⟩) (λp=>11 - p) 0 (xb6 _) (weakSU Ω Ωd (λq v hv=>hv)) λp hp=>?_;by_cases hp2:p<11
 ·have hlt:=decide_eq_true (Ω:((p:Nat):Int)<11)
  have hset:=qcO (S:=λi=>if i<p then NW else 0) (X:=NWL) (v:=1099511627776) hp2;clear NB;have NB:=(⟨nmA (Ω:3<7+20*p),yt⟩:_∧∀{S X},(wc S X).length=_);(repeat' first|refine sD ?_ ?_<;>intro _|refine aAh ?_|simp -dsimp only[↓RP,RQ,seval,hlt,hset,TYc,TYd,NB,QÁ]);refine⟨p+1,hp2,Ω,weakSU Ω Ωd ?hA⟩
  case hA=>
   rw[qaU (S:=λi=>if i<p+1 then NW else 0) (T:=λi=>if i=p then 1099511627776 else if i<p then NW else 0) λi hi=>by
    by_cases c:i=p
    ·rw[if_pos Ω,if_pos c];rfl
    ·rw[if_neg c];by_cases d:i<p
     ·rw[if_pos Ω,if_pos d]
     ·rw[if_neg Ω,if_neg d]]
   exact λq v hv=>hv
 obtain rfl:p=11:=by omega
 have hlt:=decide_eq_false (Ω:¬((11:Nat):Int)<11);have hset:=qcO (S:=λi=>if i<11 then NW else 0) (X:=NWL) (p:=a) (v:=0) Ω;have hl:=yt (S:=λi=>if i<11 then NW else 0) (X:=NWL);(repeat' first|refine sD ?_ ?_<;>intro _|refine aAh ?_|simp -dsimp only[↓RP,RQ,seval,hlt,hset,hR,TYc,TYd,NB,QÁ]);have hT0:wc (λi=>if i=a then 0 else if i<11 then NW else 0) NWL=wc (T 0) NWL:=qaU λi hi=>by
  rw[hT];show _=S0 a i;unfold S0;rw[if_pos hi]
 rw[hT0];refine qp (λ(z:Nat×List SV×Nat)=>z.1≤h.w+2∧z.2.1.length=45∧3<z.2.2∧∀k,k<z.1→¬∀x,x≤h.w→T (k+1) x=T k x) (λz=>⟨[(0,R),(1,Ψ (Φ Γ (a:Nat))),(6,.ptr 3 0),(34,Ψ (Φ Γ ((h.w:Nat)+2))),(35,Ψ (Φ Γ (z.1:Nat)))],[(3,.cells 196 (wc (T z.1) z.2.1))],z.2.2⟩) (λz=>h.w+2 - z.1) (0,NWL,_) ⟨xb6 _,rfl,?hB,λk hk=>absurd hk (Nat.not_lt_zero k)⟩ (weakSU (xa5 _) Ω6 (λq v hv=>hv)) λz hz=>?_
 case hB=>dsimp only;omega
 obtain⟨k,X,n1⟩:=z;obtain⟨hk,hX,hn1,hnk⟩:=hz;dsimp only at hk hX hn1 hnk;dsimp only;clear NB;have NB:=nmA hn1;by_cases hkw:k<h.w+2
 ·have hlt:=decide_eq_true (Ω:((k:Nat):Int)<(h.w:Nat)+2)
  have wl:=yt (S:=T k) (X:=X);rw[hX]at wl;have wt:=qeT (S:=T k) (X:=X);have w1:=qeS (S:=T k);have w2:=qnh (S:=T k);(repeat' first|refine sD ?_ ?_<;>intro _|refine aAh ?_|simp -dsimp only[↓RP,RQ,seval,hlt,hR,wl,wt,w1,w2,TYc,TYd,NB,QÁ]);obtain⟨sid,hsid⟩:∃c,c=n1+5:=⟨_,rfl⟩;rw[←hsid];obtain⟨V,hV⟩:∃V,V=rnd h.C (h.w+1) (T k):=⟨_,rfl⟩;have hVn:V (h.w+1)=T (k+1):=by rw[hV,hT];rfl
  have hVb:=qcI o.cb (by omega:h.w+1≤11) (hbd k);rw[←hV]at hVb;refine qp (λ(z:Nat×List SV×Nat)=>z.1≤h.w+1∧z.2.1.length=45∧sid<z.2.2) (λz=>⟨[(0,R),(1,Ψ (Φ Γ (a:Nat))),(6,.ptr 3 0),(8,.ptr sid 0),(34,Ψ (Φ Γ ((h.w:Nat)+2))),(35,Ψ (Φ Γ (k:Nat))),(46,Ψ (Φ Γ ((h.w:Nat)+1))),(47,Ψ (Φ Γ (z.1:Nat)))],[(sid,.cells 191 (w11 (T k))),(3,.cells 196 (wc (V z.1) z.2.1))],z.2.2⟩) (λz=>h.w+1 - z.1) (0,X,_) ⟨xb6 _,hX,?hC⟩ (weakSU (xa5 _) Ω6 ?hD) λz hz=>?_
  case hC=>dsimp only;omega
  case hD=>rw[hV];exact λq v hv=>hv
  obtain⟨p,X2,n2⟩:=z;obtain⟨hp,hX2,hn2⟩:=hz;dsimp only at hp hX2 hn2;dsimp only;clear NB;have NB:=(⟨nmA (Ω:3<n2),nmA hn2,nmE (Ω:sid≠3)⟩:_∧_∧_);by_cases hpw:p<h.w+1
  ·have hlt2:=decide_eq_true (Ω:((p:Nat):Int)<(h.w:Nat)+1)
   (repeat' first|refine sD ?_ ?_<;>intro _|refine aAh ?_|simp -dsimp only[↓RP,RQ,seval,hlt2,hR,TYc,TYd,NB,QÁ]);refine qp (λ(z:Nat×List SV×Nat)=>z.1≤h.w+1∧z.2.1.length=45∧sid<z.2.2) (λz=>⟨[(0,R),(1,Ψ (Φ Γ (a:Nat))),(6,.ptr 3 0),(8,.ptr sid 0),(9,Ψ (Φ Γ (p:Nat))),(34,Ψ (Φ Γ ((h.w:Nat)+2))),(35,Ψ (Φ Γ (k:Nat))),(46,Ψ (Φ Γ ((h.w:Nat)+1))),(47,Ψ (Φ Γ (p:Nat))),(55,Ψ (Φ Γ ((h.w:Nat)+1))),(56,Ψ (Φ Γ (z.1:Nat)))],[(sid,.cells 191 (w11 (T k))),(3,.cells 196 (wc (jP h.C (V p) p z.1) z.2.1))],z.2.2⟩) (λz=>h.w+1 - z.1) (0,X2,_) ⟨xb6 _,hX2,?hE⟩ (weakSU (xa5 _) Ω6 (λq v hv=>hv)) λz hz=>?_
   case hE=>dsimp only;omega
   obtain⟨q,X3,n3⟩:=z;obtain⟨hq,hX3,hn3⟩:=hz;dsimp only at hq hX3 hn3;dsimp only;clear NB;have NB:=(⟨nmA (Ω:3<n3),nmA hn3,nmE (Ω:sid≠3)⟩:_∧_∧_);by_cases hqw:q<h.w+1
   ·have hlt3:=decide_eq_true (Ω:((q:Nat):Int)<(h.w:Nat)+1)
    have hsb:=qcH (p:=p) o.cb hpw (hVb p Ω) q;obtain⟨S,hS⟩:∃S,S=jP h.C (V p) p q:=⟨_,rfl⟩;have hSn:jP h.C (V p) p (q+1)=rlx h.C S p q:=by rw[hS];rfl
    rw[←hS]at hsb ⊢;have hda:dA (h.w+1) (h.sl (h.w+h.k)) (.agg #[Φ Γ (p:Nat),Φ Γ (q:Nat)])=decide (h.C p q≠NW):=by
     show(decide _&&decide _)=_;rw[decide_eq_true (by omega:0≤(p:Int)∧(p:Int)<(h.w+1:Nat)∧0≤(q:Int)∧(q:Int)<(h.w+1:Nat)),xf0,W2,h.sl_st];rfl
    have hga:gA (h.sl (h.w+h.k)) (.agg #[Φ Γ (p:Nat),Φ Γ (q:Nat)])=aS (aL (h.sl (h.w+h.k)) p q):=rfl;obtain⟨A,hA⟩:∃A,A=aL (h.sl (h.w+h.k)) p q:=⟨_,rfl⟩;have hA1:A.1=h.C p q:=by rw[hA,W2,h.sl_st];rfl
    rw[←hA]at hga;unfold aS at hga;by_cases hc:h.C p q=NW
    ·rw[decide_eq_false (λe=>e hc)]at hda
     (repeat' first|refine sD ?_ ?_<;>intro _|refine aAh ?_|simp -dsimp only[↓RP,RQ,seval,hlt3,hR,shC,kf2,hda,hga,TYc,TYd,NB,QÁ]);refine⟨(q+1,X3,_),⟨hqw,hX3,?g1⟩,Ωc,weakSU (xa5 _) Ω4 ?g2⟩
     case g1=>dsimp only;omega
     case g2=>
      dsimp only;rw[hSn,show rlx h.C S p q=S by funext x;unfold rlx;rw[if_neg (λe=>e.2.1 hc)]]
      ((repeat' (refine SubHp.ent Ωw ?_));exact λq v hv=>Ωs)
    ·rw[decide_eq_true hc]at hda
     have g1:=qcN (S:=S) (X:=X3) (p:=p) Ω;have g2:=qcN (S:=S) (X:=X3) (p:=q) Ω;by_cases hs:S p=1099511627776
     ·have d1:=decide_eq_true hs
      (repeat' first|refine sD ?_ ?_<;>intro _|refine aAh ?_|simp -dsimp only[↓RP,RQ,seval,hlt3,hR,shC,kf2,hda,hga,g1,g2,d1,TYc,TYd,NB,QÁ]);refine⟨(q+1,X3,_),⟨hqw,hX3,?h1⟩,Ωc,weakSU (xa5 _) Ω4 ?h2⟩
      case h1=>dsimp only;omega
      case h2=>
       dsimp only;rw[hSn,show rlx h.C S p q=S by funext x;unfold rlx;rw[if_neg (λe=>e.2.2.1 hs)]]
       ((repeat' (refine SubHp.ent Ωw ?_));exact λq v hv=>Ωs)
     ·have d1:=decide_eq_false hs
      have b1:=o.cb p q hc;have b2:=(hsb p Ω).resolve_left hs;rw[hA1]at hga;by_cases hl:S p+h.C p q<S q
      ·have d2:=decide_eq_false (Ω:¬S q≤S p+h.C p q)
       have wl:=yt (S:=S) (X:=X3);rw[hX3]at wl;have hq11:q<11:=by omega
       obtain⟨S1,hS1⟩:∃S1,S1=λi=>if i=q then S p+h.C p q else S i:=⟨_,rfl⟩
       have e1:=qcO (S:=S) (X:=X3) (v:=S p+h.C p q) hq11;rw[←hS1]at e1;have e3:∀X4:List SV,(wc S1 X4).take (22+q*3)++[SV.val (.bool A.2.1),Ψ (Φ Γ A.2.2.1),.val (.bool A.2.2.2)]++(wc S1 X4).drop (22+(q*3+3))=wc S1 (X4.take (22+q*3 - 11)++[SV.val (.bool A.2.1),Ψ (Φ Γ A.2.2.1),.val (.bool A.2.2.2)]++X4.drop (22+q*3 - 11+3)):=λX4=>by
        have h11:11≤22+q*3:=by omega
        rw[show 22+(q*3+3)=22+q*3+3 from by omega];exact qps (vs:=[SV.val (.bool A.2.1),Ψ (Φ Γ A.2.2.1),.val (.bool A.2.2.2)]) h11
       have e2:∀X4 v,(wc S1 X4).set (11+q) v=_:=λX4 v=>qeR (Nat.le_add_right 11 q);have e4:∀X4 v,(wc S1 X4).set 55 v=_:=λX4 v=>qeR (show 11≤55 by decide);(repeat' first|refine sD ?_ ?_<;>intro _|refine aAh ?_|simp -dsimp only[↓RP,RQ,seval,hlt3,hR,shC,kf2,hda,hga,g1,g2,d1,d2,wl,TYc,TYd,NB,QÁ]);rw[e1,e2,e3,e4,yt,yt,yt];simp only[xc8,xd9,List.length_drop,xe5,xe4,List.length_nil,hX3];refine⟨Ω,Ω,Ω,Ω,by simp only[InK];omega,(q+1,(((X3.set (11+q - 11) (Ψ (Φ Γ (p:Nat)))).take (22+q*3 - 11)++[SV.val (.bool A.2.1),Ψ (Φ Γ A.2.2.1),.val (.bool A.2.2.2)]++(X3.set (11+q - 11) (Ψ (Φ Γ (p:Nat)))).drop (22+q*3 - 11+3)).set (55 - 11) (Ψ (Φ Γ (q:Nat)))),_),⟨hqw,?l0,?l1⟩,Ωc,weakSU (xa5 _) Ω4 ?l2⟩
       case l1=>dsimp only;omega
       case l2=>
        dsimp only;rw[hSn,hS1,show rlx h.C S p q=λi=>if i=q then S p+h.C p q else S i by
         funext x;unfold rlx;by_cases c:x=q
         ·rw[if_pos ⟨c,hc,hs,hl⟩,if_pos c]
         ·rw[if_neg (λe=>c e.1),if_neg c]]
        ((repeat' (refine SubHp.ent Ωw ?_));exact λq v hv=>Ωs)
       case l0=>simp only[xc8,xd9,List.length_drop,xe5,xe4,List.length_nil,hX3];omega
      ·have d2:=decide_eq_true (Ω:S q≤S p+h.C p q)
       (repeat' first|refine sD ?_ ?_<;>intro _|refine aAh ?_|simp -dsimp only[↓RP,RQ,seval,hlt3,hR,shC,kf2,hda,hga,g1,g2,d1,d2,TYc,TYd,NB,QÁ]);refine⟨(q+1,X3,_),⟨hqw,hX3,?i1⟩,Ωc,weakSU (xa5 _) Ω4 ?i2⟩
       case i1=>dsimp only;omega
       case i2=>
        dsimp only;rw[hSn,show rlx h.C S p q=S by funext x;unfold rlx;rw[if_neg (λe=>hl e.2.2.2)]]
        ((repeat' (refine SubHp.ent Ωw ?_));exact λq v hv=>Ωs)
   ·obtain rfl:q=h.w+1:=by omega
    have hlt3:=decide_eq_false (Ω:¬((h.w+1:Nat):Int)<(h.w:Nat)+1);have hVs:jP h.C (V p) p (h.w+1)=V (p+1):=by rw[hV];rfl
    rw[hVs];(repeat' first|refine sD ?_ ?_<;>intro _|refine aAh ?_|simp -dsimp only[↓RP,RQ,seval,hlt3,hR,TYc,TYd,NB,QÁ]);refine⟨(p+1,X3,_),⟨hpw,hX3,?j1⟩,Ωc,weakSU (xa5 _) Ω6 ?j2⟩
    case j1=>dsimp only;omega
    case j2=>((repeat' (refine SubHp.ent Ωw ?_));exact λq v hv=>Ωs)
  ·obtain rfl:p=h.w+1:=by omega
   have hlt2:=decide_eq_false (Ω:¬((h.w+1:Nat):Int)<(h.w:Nat)+1);rw[hVn];have wt3:=qkA (S:=T k);have wt4:=qeT (S:=T (k+1)) (X:=X2);have wl4:=yt (S:=T (k+1)) (X:=X2);rw[hX2]at wl4;have hout:∀j x,h.w<x→T j x=NW:=λj x hx=>by rw[hT];exact qpt Ω j x hx
   by_cases hfx:∀x,x≤h.w→T (k+1) x=T k x
   ·have d1:eqSVs (w11 (T k)) (w11 (T (k+1)))=true:=w11_eq.2 λi hi=>by
     by_cases c:i≤h.w
     ·exact(hfx i c).symm
     ·rw[hout _ _ Ω,hout _ _ Ω]
    obtain⟨D,hr,hD⟩:=hy k hkw hfx;rw[hr];(repeat' first|refine sD ?_ ?_<;>intro _|refine aAh ?_|simp -dsimp only[↓RP,RQ,seval,hlt2,hR,w1,wt3,wt4,wl4,d1,QÁ,TYc,TYd,NB]);intro j hj;refine⟨?_,Ω⟩;rw[xc6,qcN Ω,←hD j Ω];rfl
   ·have d1:eqSVs (w11 (T k)) (w11 (T (k+1)))=false:=by
     cases e:eqSVs (w11 (T k)) (w11 (T (k+1)))with
     |false=>rfl
     |true=>exact absurd (λx hx=>((w11_eq.1 e) x Ω).symm) hfx
    (repeat' first|refine sD ?_ ?_<;>intro _|refine aAh ?_|simp -dsimp only[↓RP,RQ,seval,hlt2,hR,w1,wt3,wt4,wl4,d1,TYc,TYd,NB,QÁ]);refine⟨(k+1,X2,_),⟨hkw,hX2,?f1,λj hj=>?f2⟩,Ωc,weakSU (xa5 _) Ω6 ?f3⟩
    case f1=>dsimp only;omega
    case f2=>
     by_cases c:j=k
     ·rw[c];exact hfx
     ·exact hnk j (by dsimp only at hj;omega)
    case f3=>((repeat' (refine SubHp.ent Ωw ?_));exact λq v hv=>Ωs)
 ·obtain rfl:k=h.w+2:=by omega
  have hlt:=decide_eq_false (Ω:¬((h.w+2:Nat):Int)<(h.w:Nat)+2);rw[hn hnk];unfold B;repeat' first|refine sD ?_ ?_<;>intro _|refine aAh ?_|simp -dsimp only[↓RP,RQ,seval,hlt,hR,TYc,TYd,NB,QÁ]
theorem qpu(h:Ha)(o:h.Ok)(a:Nat)(ha:a≤h.w):(∃D,Lst h.C (h.w+1) a D∧qf Tryz.prog 117 [shR h (shC h),I a] (.tup [.ref true (h.w+1) (λi=>I (D i)),B true]))∨((∀F,¬h.Tru F)∧qf Tryz.prog 117 [shR h (shC h),I a] (.tup [.top,B false])):=by
 have hw:=o.w2;rcases o.least ha with⟨D,hD,⟨k0,hk0,hfix⟩,hall⟩|⟨hno,hnf⟩
 ·exact .inl ⟨D,hD,qqU h o a ha _ (λk hk hf=>⟨D,rfl,hall k hf⟩) λhn=>absurd hfix (hn k0 Ω)⟩
 ·exact .inr ⟨hno,qqU h o a ha _ (λk hk hf=>absurd hf (hnf k Ω)) λ_=>rfl⟩
end Go.Tn
end
section
namespace Go.Tn
open Go.Proofs
open Go.Sx
variable{hp:List (Nat×Blk)}{h:Ha}
theorem qsx(n lo hi:Int):qf Tryz.prog 233 (Ψ (Φ Γ n) :: jp lo hi) (B (decide (n<lo) || decide (hi<n))):=by
 refine qg Tryz.func233 rfl Ωb follows Ωb _ _ (by rw[Tryz.ntmps233];simp[jp]) (by simp[OldL,Old,jp]) ?_;unfold jp B;(repeat' (first|refine sD ?_ ?_<;>intro _|refine aA ?_|simp -dsimp only[↓RP,RQ,seval,TYQ,TY,Tryz.results233]))
 all_goals (refine wL ?_;rw[Bool.eq_iff_iff];simp;omega)
theorem qpv(m:Nat)(u:Nat→Int)(lo hi:Int)(hm:m≤1000000):qf Tryz.prog 115 [I lo,I hi,qE m u] (B (decide (gT u m lo hi))):=by
 refine qg Tryz.func115 rfl Ωb follows Ωb _ _ (by rw[Tryz.ntmps115];simp) (by simp[OldL,Old,qE,I]) ?_;unfold I B;(simp -dsimp only[↓RP,RQ,seval,TYQ,TY,Tryz.results115]);refine qk (qoF m u 233 (jp lo hi) (YS lo hi) (λi=>decide (u i<lo) || decide (hi<u i)) hm λi _=>qsx (u i) lo hi) (by(simp -dsimp only[↓RP,RQ,seval,QV,qE,jp,I]);all_goals (try simp[jp,qE])) Ωi ?_;(repeat' (first|refine sD ?_ ?_<;>intro _|refine aA ?_|simp -dsimp only[↓RP,RQ,seval,B,TYQ,TY,Tryz.results115]));refine wL ?_;rw[Bool.eq_iff_iff];have:=yJ u m lo hi;by_cases h:gT u m lo hi
 ·have h':¬ZT (λi=>decide (u i<lo) || decide (hi<u i)) m:=λy=>this.1 y h
  rw[decide_eq_true h,decide_eq_false h'];simp
 ·rw[decide_eq_false h,decide_eq_true (this.2 h)];simp
theorem qeU{m:Nat}{u:Nat→Int}{lo hi:Int}(hm:m≤1000000)(h:∀i,i<m→lo≤u i∧u i≤hi):qf Tryz.prog 115 [I lo,I hi,qE m u] (B true):=by
 have:=qpv m u lo hi hm
 rwa [decide_eq_true (show gT u m lo hi from h)]at this
theorem qsy(h:Ha)(g:Nat)(caps:List SV)(ho:OldL caps)(b:Nat→Bool)(hm:h.k≤1000000)(hg:∀i,i<h.k→qf Tryz.prog g (.agg (ctL h i) :: caps) (B (b i))):qf Tryz.prog 371 [ctR h,.fn (.func g) [] caps] (I (zK b 0 h.k)):=by
 have hct:∀i,[Ψ (Φ Γ (h.f i)),Ψ (Φ Γ (h.t i)),Ψ (Φ Γ (h.lo i)),Ψ (Φ Γ (h.hi i))]=ctL h i:=λ_=>rfl;refine qg Tryz.func371 rfl Ωb follows Ωb _ _ (by rw[Tryz.ntmps371];simp) (by simp only[OldL,kR,Old,ho,and_self]) ?_
 conv=>arg 4;unfold ctR
 (simp -dsimp only[↓RP,RQ,seval,TYz,TYc,TY,Tryz.results371]);refine qp (λi=>i≤h.k∧zK b 0 h.k=zK b i (h.k - i)) (λi=>⟨[(0,.arr false false h.k 4 (λi j=>(ctL h i).getD j .top)),(1,.fn (.func g) [] caps),(6,.arr false false h.k 4 (λi j=>(ctL h i).getD j .top)),(7,Ψ (Φ Γ h.k)),(8,Ψ (Φ Γ i))],[],4+20*i⟩) (λi=>h.k - i) 0 ⟨xb6 _,rfl⟩ (weakSU Ω Ωd (λq v hv=>hv)) λi hi=>?_;obtain⟨hi,he⟩:=hi;have e1:∀k,h.k - i=k+1→zK b i (h.k - i)=if b i=true then(i:Int)else zK b (i+1) k:=λk hk=>by rw[hk];rfl
 repeat' first|refine sD ?_ ?_<;>intro _|refine aAh ?_|simp -dsimp only[↓RP,RQ,seval,ctL,TYz,TYc,QU]
 ·rename_i hlt
  have hlt:i<h.k:=by omega
  have e2:=e1 (h.k -(i+1)) Ω;refine qk (hg i hlt) (by simp only[SubL,and_true,subL_refl caps ho];simp[ctL,Go.Sx.Sub,SubL]) Ωi ?_;repeat' first|refine sD ?_ ?_<;>intro _|refine aAh ?_|simp -dsimp only[↓RP,RQ,seval,ctL,TYz,TYc,QU]
  ·rename_i h
   refine ya ?_;rw[he,e2,if_pos h]
  ·rename_i h1
   refine⟨i+1,⟨Ω,?_⟩,Ω,weakSU Ω (by simp[qQ,Go.Sx.look,ctL]) (λq v hv=>Ωs)⟩;rw[he,e2,if_neg (by simp[h1])]
 ·rename_i hlt
  refine ya ?_;have:h.k - i=0:=by omega
  rw[he,this];rfl
theorem qqV(h:Ha)(g:Nat)(caps:List SV)(ho:OldL caps)(hm:h.k≤1000000)(hg:∀i,i<h.k→qf Tryz.prog g (.agg (ctL h i) :: caps) (B false)):qf Tryz.prog 327 [ctR h,.fn (.func g) [] caps] (B false):=by
 refine qg Tryz.func327 rfl Ωb follows Ωb _ _ (by rw[Tryz.ntmps327];simp) (by simp only[OldL,kR,Old,ho,and_self]) ?_;(simp -dsimp only[↓RP,RQ,seval,TY,QV,QN]);refine qk (qsy h g caps ho (λ_=>false) hm hg) (by simp only[SubL,and_true];exact⟨qr _ (kR h),by simp[Go.Sx.Sub,SubL,subL_refl caps ho]⟩) Ωk ?_;(repeat' (first|refine sD ?_ ?_<;>intro _|refine aA ?_|simp -dsimp only[↓RP,RQ,seval,I,B,QV,TYz,TY,QN]));refine wL ?_;rw[Bool.eq_iff_iff];simp[Q6,ZT]
def W3(h:Ha):List SV:=[.ref false 3 (λj=>[Ψ (Φ Γ h.w),Ψ (Φ Γ h.m),ctR h].getD j .top)]
theorem Ju(h:Ha):OldL (W3 h):=by
 simp only[W3,OldL,Old,and_true];refine⟨trivial,λj hj=>?_⟩;have:=kR h;rcases(Ω:j=0∨j=1∨j=2)with rfl|rfl|rfl<;>simp_all [Old]
theorem ZB{m id:Nat}{u:Nat→Int}{row:Nat→Nat→SV}(hb:blk hp id=some (.rows 2 1 m row))(h:∀i,i<m→row i 0=Ψ (Φ Γ (u i))):Go.Sx.Sub hp (qE m u) (.vec id m 1):=by
 simp only[qE,Go.Sx.Sub,hb];refine⟨trivial,trivial,trivial,xa5 _,trivial,λi j hi hj=>?_⟩;obtain rfl:j=0:=by omega
 rw[h i hi]
theorem zw{x:Int}:Go.Sx.Sub hp (I x) (Ψ (Φ Γ x)):=by simp[I,Go.Sx.Sub]
theorem qsz(h:Ha)(o:h.Ok)(i:Nat)(hi:i<h.k):qf Tryz.prog 325 (.agg (ctL h i) :: W3 h) (B false):=by
 have h1:=o.ft i hi;have hw:=o.w2;have h2:=qeU (m:=2) (u:=λj=>if j=0 then((h.f i:Nat):Int)else(h.t i:Nat)) (lo:=0) (hi:=(h.w:Nat) - 1) Ω (λj hj=>by split<;>omega);have d1:=decide_eq_false (Ω:¬((h.t i:Nat):Int)<(h.f i:Nat));refine qg Tryz.func325 rfl Ωb follows Ωb _ _ (by rw[Tryz.ntmps325];simp[W3]) (by simp only[OldL,Ju,and_true];simp[Old,OldL,ctL]) ?_;unfold W3 ctL B;(repeat' first|refine sD ?_ ?_<;>intro _|refine aAh ?_|simp -dsimp only[↓RP,RQ,seval,d1,TYz,TYc,QU]);refine qk h2 (by simp only[SubL,and_true];exact⟨zw,zw,ZB rfl λi hi=>(by rcases(Ω:i=0∨i=1)with rfl|rfl<;>rfl)⟩) ΩC ?_;repeat' first|refine sD ?_ ?_<;>intro _|refine aAh ?_|simp -dsimp only[↓RP,RQ,seval,QU,TYz,TYc]
theorem qsA(h:Ha)(o:h.Ok)(i:Nat)(hi:i<h.k):qf Tryz.prog 326 [.agg (ctL h i)] (B false):=by
 have h1:=o.lh i hi;have h2:=qeU (m:=2) (u:=λj=>if j=0 then h.lo i else h.hi i) (lo:=0) (hi:=10000000) Ω (λj hj=>by split<;>omega);have d1:=decide_eq_false (Ω:¬h.hi i<h.lo i);refine qg Tryz.func326 rfl Ωb follows Ωb _ _ (by rw[Tryz.ntmps326];simp) (by simp[Old,OldL,ctL]) ?_;unfold ctL B;(repeat' first|refine sD ?_ ?_<;>intro _|refine aAh ?_|simp -dsimp only[↓RP,RQ,seval,d1,TYz,TYc,QU]);refine qk h2 (by simp only[SubL,and_true];exact⟨zw,zw,ZB rfl λi hi=>(by rcases(Ω:i=0∨i=1)with rfl|rfl<;>rfl)⟩) ΩC ?_;repeat' first|refine sD ?_ ?_<;>intro _|refine aAh ?_|simp -dsimp only[↓RP,RQ,seval,QU,TYz,TYc]
theorem qaV{id:Nat}(hb:blk hp id=some (.cells 97 [Ψ (Φ Γ h.w),Ψ (Φ Γ h.m),ctR h])):SubL hp (W3 h) [.ptr id 0]:=by
 simp only[W3,SubL,Go.Sx.Sub,hb,and_true];intro j hj;rw[xb0];refine⟨?_,hj⟩;rcases(Ω:j=0∨j=1∨j=2)with rfl|rfl|rfl
 ·exact qr _ ΩE
 ·exact qr _ ΩE
 ·exact qr _ (kR h)
theorem qsB(h:Ha)(o:h.Ok):qf Tryz.prog 230 [haS h] (I 0):=by
 have hw:=o.w2;have hw1:=o.w1;have hk:=o.k;have hm:=o.m;have h1:=qeU (m:=1) (u:=λ_=>((h.w:Nat):Int)) (lo:=1) (hi:=10) Ω (λj hj=>by omega);have h2:=qeU (m:=1) (u:=λ_=>h.m) (lo:=0) (hi:=1000000) Ω (λj hj=>by omega);have h3:=qqV h 325 (W3 h) (Ju h) Ω λi hi=>qsz h o i hi;have h4:=qqV h 326 [] trivial Ω λi hi=>qsA h o i hi;have d1:=decide_eq_false (Ω:¬(10:Int)<(h.k:Nat));refine qg Tryz.func230 rfl Ωb follows Ωb _ _ (by rw[Tryz.ntmps230];simp) (by simp only[OldL,gP h,and_true]) ?_;unfold haS;(repeat' first|refine sD ?_ ?_<;>intro _|refine aAh ?_|simp -dsimp only[↓RP,RQ,seval,d1,TYz,TYc,QU]);refine qk h1 (by simp only[SubL,and_true];exact⟨zw,zw,ZB rfl λi hi=>(by rw[show i=0 by omega];rfl)⟩) ΩC ?_;repeat' first|refine sD ?_ ?_<;>intro _|refine aAh ?_|simp -dsimp only[↓RP,RQ,seval,QU,ctR,TYz,TYc]
 all_goals try exact ΩB
 refine qk h3 (by simp only[SubL,and_true];exact⟨qr _ (kR h),rfl,rfl,qaV rfl⟩) ΩC ?_;(repeat' first|refine sD ?_ ?_<;>intro _|refine aAh ?_|simp -dsimp only[↓RP,RQ,seval,QU,ctR,TYz,TYc]);refine qk h2 (by simp only[SubL,and_true];exact⟨zw,zw,ZB rfl λi hi=>(by rw[show i=0 by omega];rfl)⟩) ΩC ?_;(repeat' first|refine sD ?_ ?_<;>intro _|refine aAh ?_|simp -dsimp only[↓RP,RQ,seval,QU,ctR,TYz,TYc]);refine qk h4 (by simp only[SubL,and_true];exact⟨qr _ (kR h),rfl,rfl,rfl⟩) ΩC ?_;repeat' first|refine sD ?_ ?_<;>intro _|refine aAh ?_|simp -dsimp only[↓RP,RQ,seval,QU,ctR,TYz,TYc]
def shN(h:Ha):SV:=.ref true 4 (λj=>(shL h (.cmp true kf2 (dA (h.w+1) (h.sl (h.w+h.k))) (gA (h.sl (h.w+h.k))))).getD j .top)
theorem qkB{key:Value}(hk:dA (h.w+1) (h.sl (h.w+h.k)) key=true):Old (gA (h.sl (h.w+h.k)) key):=by
 obtain⟨x,y,hx,hy,rfl⟩:=dF_iff.1 (by rw[qeQ,xe6]at hk;exact hk.1);exact qcM _
theorem qeV:∀j,j<4→Go.Sx.Sub hp ((shL h (.cmp true kf2 (dA (h.w+1) (h.sl (h.w+h.k))) (gA (h.sl (h.w+h.k))))).getD j .top) ((shL h (.cmp true kf2 (dA (h.w+1) (h.sl (h.w+h.k))) (gA (h.sl (h.w+h.k))))).getD j .top)∧Go.Sx.Sub hp ((shL h (shC h)).getD j .top) ((shL h (.cmp true kf2 (dA (h.w+1) (h.sl (h.w+h.k))) (gA (h.sl (h.w+h.k))))).getD j .top):=λj hj=>by
 rcases(Ω:j=0∨j=1∨j=2∨j=3)with rfl|rfl|rfl|rfl
 ·exact⟨qr _ (by simp[Old,shL]),qr _ (by simp[Old,shL])⟩
 ·exact⟨qr _ (by simp[Old,shL]),qr _ (by simp[Old,shL])⟩
 ·exact⟨qr _ (kR h),qr _ (kR h)⟩
 ·exact⟨⟨id,rfl,rfl,λkey hk=>qr _ (qkB hk)⟩,λe=>(by cases e),rfl,rfl,λkey hk=>qr _ (qkB hk)⟩
theorem qni:Go.Sx.Sub hp (shR h (shC h)) (shN h):=⟨λe=>(by cases e),xa5 _,λj hj=>(qeV j hj).2⟩
theorem qpw(h:Ha)(o:h.Ok):qf Tryz.prog 114 [haS h,.val (.slice none 0 0)] (.tup [shN h,I 0]):=by
 have h1:=qsB h o;have h2:=qsw h o;have h3:=qnN 231 (W3 h) (Ju h);refine qg Tryz.func114 rfl Ωb follows Ωb _ _ (by rw[Tryz.ntmps114];simp) (by simp only[OldL,gP h,and_true,true_and];simp[Old]) ?_;unfold haS;(repeat' first|refine sD ?_ ?_<;>intro _|refine aAh ?_|simp -dsimp only[↓RP,RQ,seval,TYz,TYc,QU]);refine kf h1 (by simp only[SubL,and_true];exact qr _ (gP h)) ?_;(repeat' first|refine sD ?_ ?_<;>intro _|refine aAh ?_|simp -dsimp only[↓RP,RQ,seval,QU,TYz,TYc]);refine qk h3 (by simp only[SubL,and_true];exact⟨by simp[Go.Sx.Sub],rfl,rfl,qaV rfl⟩) ΩC ?_;(repeat' first|refine sD ?_ ?_<;>intro _|refine aAh ?_|simp -dsimp only[↓RP,RQ,seval,QU,TYz,TYc]);refine kf h2 (by simp only[SubL,and_true];exact qr _ (gP h)) ?_;(repeat' first|refine sD ?_ ?_<;>intro _|refine aAh ?_|simp -dsimp only[↓RP,RQ,seval,QU,shN,TYz,TYc]);exact λj hj=>(qeV j hj).1
end Go.Tn
end
section
namespace Go.Tn
open Go.Proofs
open Go.Sx
def pfx(u:Nat→Int):Nat→Int
 |0=>0
 |n+1=>pfx u n+u n
theorem qcP{u:Nat→Int}{M:Int}{m:Nat}(h:∀i,i<m→0≤u i∧u i≤M){a:Nat}:∀{d:Nat},a+d≤m→0≤pfx u (a+d) - pfx u a∧pfx u (a+d) - pfx u a≤M*d
 |0,_=>by simp
 |d+1,hd=>by
  have h1:=qcP h (a:=a) (d:=d) Ω;have h2:=h (a+d) Ω;have e:M*((d+1:Nat):Int)=M*(d:Int)+M:=by rw[show((d+1:Nat):Int)=(d:Int)+1 by omega,Int.mul_add,Int.mul_one]
  rw[e];show 0≤pfx u (a+d)+u (a+d) - _∧pfx u (a+d)+u (a+d) - _≤_;omega
def Ha.sum(h:Ha)(u:Nat→Int)(j:Nat):Int:=pfx u (h.t j+1) - pfx u (h.f j)
def Ha.sOk(h:Ha)(u:Nat→Int)(n:Nat):Prop:=∀j,j<n→h.lo j≤h.sum u j∧h.sum u j≤h.hi j
instance(h:Ha)(u:Nat→Int)(n:Nat):Decidable (h.sOk u n):=by unfold Ha.sOk;infer_instance
def ckT(h:Ha)(m:Nat)(u:Nat→Int):Int:=if m≠h.w then 15 else if ¬gT u m 0 h.m then 3 else if h.sOk u h.k then 0 else 14
theorem ckT_ok{h:Ha}{u:Nat→Int}:ckT h h.w u=0↔h.Tru (pfx u):=by
 unfold ckT Ha.Tru gT;rw[if_neg Ωg];have e:∀i,pfx u (i+1) - pfx u i=u i:=λi=>by show pfx u i+u i - _=_;omega
 constructor
 ·intro hc
  split at hc
  ·omega
  ·rename_i h1
   split at hc
   ·rename_i h2
    exact⟨λi hi=>by rw[e];exact xf9 λc=>h1 λhh=>c (hh i hi),h2⟩
   ·omega
 ·rintro⟨h1,h2⟩
  rw[if_neg (λc=>c λi hi=>by have:=h1 i hi;rwa [e]at this),if_pos (show h.sOk u h.k from h2)]
theorem c45(a b lo hi:Int):qf Tryz.prog 45 [I a,I b,I lo,I hi] (.agg [I a,I b,I lo,I hi]):=by
 refine qg Tryz.func45 rfl Ωb follows Ωb _ _ (by rw[Tryz.ntmps45];simp) (by simp[OldL,Old,I]) ?_;unfold I;repeat' first|refine sD ?_ ?_<;>intro _|refine aAh ?_|simp -dsimp only[↓RP,RQ,seval,TYz,TYc,QU]
theorem c51(m:Nat)(u:Nat→Int)(f t:Nat)(hft:f≤t+1)(ht:t<m)(hm:m≤1000)(hu:∀i,i<m→0≤u i∧u i≤1000000000):qf Tryz.prog 51 [qE m u,I f,I t] (I (pfx u (t+1) - pfx u f)):=by
 refine qg Tryz.func51 rfl Ωb follows Ωb _ _ (by rw[Tryz.ntmps51];simp) (by simp[OldL,Old,I,qE]) ?_;have NB:True:=trivial
 conv=>arg 4;unfold qE I
 (repeat' first|refine sD ?_ ?_<;>intro _|refine aAh ?_|simp -dsimp only[↓RP,RQ,seval,TYz,TYc,QU]);refine qp (λ(i:Nat)=>f≤i∧i≤t+1) (λi=>⟨[(0,.arr false false m 1 (λi _=>Ψ (Φ Γ (u i)))),(1,Ψ (Φ Γ (f:Nat))),(2,Ψ (Φ Γ (t:Nat))),(7,Ψ (Φ Γ (pfx u i - pfx u f))),(8,Ψ (Φ Γ (i:Nat)))],[],20*i+20⟩) (λi=>t+1 - i) f ⟨xa5 _,hft⟩ (weakSU Ω Ωd (λq v hv=>hv)) λi hi=>?_;obtain⟨h1,h2⟩:=hi;have b:=qcP hu (a:=f) (d:=i - f) Ω;rw[show f+(i - f)=i by omega]at b;by_cases hit:i≤t
 ·have hlt:=decide_eq_true (Ω:((i:Nat):Int)≤(t:Nat))
  have b2:=hu i Ω;(repeat' first|refine sD ?_ ?_<;>intro _|refine aAh ?_|simp -dsimp only[↓RP,RQ,seval,hlt,TYz,TYc,QU]);refine⟨i+1,⟨Ω,Ω⟩,Ω,weakSU Ω ?a1 (λq v hv=>hv)⟩
  case a1=>rw[show pfx u (i+1) - pfx u f=pfx u i - pfx u f+u i by show pfx u i+u i - _=_;omega];simp[qQ,Go.Sx.look]
 ·obtain rfl:i=t+1:=by omega
  have hlt:=decide_eq_false (Ω:¬((t+1:Nat):Int)≤(t:Nat));repeat' first|refine sD ?_ ?_<;>intro _|refine aAh ?_|simp -dsimp only[↓RP,RQ,seval,hlt,QU,TYz,TYc]
end Go.Tn
end
section
namespace Go.Tn
open Go.Proofs
open Go.Sx
theorem c47(h:Ha)(o:h.Ok)(m:Nat)(u:Nat→Int)(hm:m≤1000000):qf Tryz.prog 47 [haS h,qE m u] (I (ckT h m u)):=by
 have h1:=qpw h o;have hw:=o.w2;have hk:=o.k;have hM:=o.m;have h115:=qpv m u 0 h.m hm;refine qg Tryz.func47 rfl Ωb follows Ωb _ _ (by rw[Tryz.ntmps47];simp) (by simp only[OldL,gP h,and_true,true_and];simp[Old,qE]) ?_;have NB:True:=trivial
 conv=>arg 4;unfold qE haS
 (repeat' first|refine sD ?_ ?_<;>intro _|refine aAh ?_|simp -dsimp only[↓RP,RQ,seval,TYz,TYc,QÁ]);refine kf h1 Ωx ?_;by_cases hmw:m=h.w
 case neg=>
  have d1:=decide_eq_false (Ω:¬((m:Nat):Int)=(h.w:Nat));have e:ckT h m u=15:=by unfold ckT;rw[if_pos hmw]
  rw[e];repeat' first|refine sD ?_ ?_<;>intro _|refine aAh ?_|simp -dsimp only[↓RP,RQ,seval,QÁ,shN,d1,TYz,TYc]
 subst hmw;by_cases hall:gT u h.w 0 h.m
 case neg=>
  rw[decide_eq_false hall]at h115;have e:ckT h h.w u=3:=by unfold ckT;rw[if_neg Ωg,if_pos hall]
  rw[e];(repeat' first|refine sD ?_ ?_<;>intro _|refine aAh ?_|simp -dsimp only[↓RP,RQ,seval,QÁ,shN,TYz,TYc]);refine qk h115 (by simp only[SubL,and_true];exact⟨zw,zw,by simp[qE,Go.Sx.Sub]⟩) ΩC ?_;repeat' first|refine sD ?_ ?_<;>intro _|refine aAh ?_|simp -dsimp only[↓RP,RQ,seval,QÁ,shN,TYz,TYc]
 rw[decide_eq_true hall]at h115;(repeat' first|refine sD ?_ ?_<;>intro _|refine aAh ?_|simp -dsimp only[↓RP,RQ,seval,QÁ,shN,TYz,TYc]);refine qk h115 (by simp only[SubL,and_true];exact⟨zw,zw,by simp[qE,Go.Sx.Sub]⟩) ΩC ?_;(repeat' first|refine sD ?_ ?_<;>intro _|refine aAh ?_|simp -dsimp only[↓RP,RQ,seval,QÁ,shN,ctR,TYz,TYc]);refine qp (λ(z:Nat×Nat)=>z.1≤h.k∧0<z.2∧h.sOk u z.1) (λz=>⟨[(1,.arr false false h.w 1 (λi _=>Ψ (Φ Γ (u i)))),(34,.arr false false h.k 4 (λi j=>(ctL h i).getD j .top)),(35,Ψ (Φ Γ (h.k:Nat))),(36,Ψ (Φ Γ (z.1:Nat)))],[],z.2⟩) (λz=>h.k - z.1) (0,_) ⟨xb6 _,?c1,λj hj=>absurd hj (Nat.not_lt_zero j)⟩ (weakSU (xa5 _) (by simp[qQ,Go.Sx.look,ctR]) (λq v hv=>Ωs)) λz hz=>?_
 case c1=>dsimp only;omega
 obtain⟨j,n1⟩:=z;obtain⟨hj,hn1,hS⟩:=hz;dsimp only at hj hn1 hS;dsimp only;have hu2:∀i,i<h.w→0≤u i∧u i≤1000000000:=λi hi=>by have:=hall i hi;omega
 have ea:¬¬gT u h.w 0 h.m:=λc=>c hall;by_cases hjk:j<h.k
 ·have hlt2:=decide_eq_true (Ω:((j:Nat):Int)<(h.k:Nat))
  have ft:=o.ft j hjk;have hlen:(((h.t j:Nat):Int)+1 -(h.f j:Nat)).toNat=h.t j+1 - h.f j:=by omega
  (repeat' first|refine sD ?_ ?_<;>intro _|refine aAh ?_|simp -dsimp only[↓RP,RQ,seval,QÁ,hlt2,ctL,TYz,TYc]);rw[hlen];obtain⟨L,hL⟩:∃L,L=h.t j+1 - h.f j:=⟨_,rfl⟩;rw[←hL];obtain⟨xid,hxid⟩:∃c,c=n1+3:=⟨_,rfl⟩;rw[←hxid];have NB1:=True.intro;refine qp (λ(z:Nat×Nat)=>z.1≤L∧xid<z.2) (λz=>⟨[(1,.arr false false h.w 1 (λi _=>Ψ (Φ Γ (u i)))),(8,.ptr xid 0),(9,Ψ (Φ Γ (pfx u (h.f j+z.1) - pfx u (h.f j)))),(34,.arr false false h.k 4 (λi j=>(ctL h i).getD j .top)),(35,Ψ (Φ Γ (h.k:Nat))),(36,Ψ (Φ Γ (j:Nat))),(46,.arr false false L 1 (λi _=>Ψ (Φ Γ (u (h.f j+i))))),(47,Ψ (Φ Γ (L:Nat))),(48,Ψ (Φ Γ (z.1:Nat)))],[(xid,.cells 101 (ctL h j))],z.2⟩) (λz=>L - z.1) (0,_) ⟨xb6 _,?d1⟩ (weakSU (xa5 _) (by simp[qQ,Go.Sx.look,ctL]) (λq v hv=>hv)) λz hz=>?_
  case d1=>dsimp only;omega
  obtain⟨i,n2⟩:=z;obtain⟨hi,hn2⟩:=hz;dsimp only at hi hn2;dsimp only;clear NB;have NB:=nmA hn2;have b:=qcP hu2 (a:=h.f j) (d:=i) Ω;by_cases hiL:i<L
  ·have hlt3:=decide_eq_true (Ω:((i:Nat):Int)<(L:Nat))
   have b2:=hu2 (h.f j+i) Ω;(repeat' first|refine sD ?_ ?_<;>intro _|refine aAh ?_|simp -dsimp only[↓RP,RQ,seval,QÁ,hlt3,ctL,TYz,TYc]);refine⟨(i+1,_),⟨hiL,?e1⟩,Ωc,weakSU (xa5 _) ?e2 (λq v hv=>hv)⟩
   case e1=>dsimp only;omega
   case e2=>dsimp only;rw[show pfx u (h.f j+(i+1)) - pfx u (h.f j)=pfx u (h.f j+i) - pfx u (h.f j)+u (h.f j+i) by show pfx u (h.f j+i)+u (h.f j+i) - _=_;omega];simp[qQ,Go.Sx.look,ctL]
  ·obtain rfl:i=L:=by omega
   have hlt3:=decide_eq_false (Ω:¬((i:Nat):Int)<(i:Nat));obtain⟨X,hX⟩:∃X,X=pfx u (h.f j+i) - pfx u (h.f j):=⟨_,rfl⟩;have hX2:h.sum u j=X:=by unfold Ha.sum;rw[hX,hL,show h.f j+(h.t j+1 - h.f j)=h.t j+1 by omega]
   have hc:=qpv 1 (λ_=>X) (h.lo j) (h.hi j) Ω;rw[←hX];(repeat' first|refine sD ?_ ?_<;>intro _|refine aAh ?_|simp -dsimp only[↓RP,RQ,seval,QÁ,hlt3,ctL,TYz,TYc]);refine qk hc (by simp only[SubL,and_true];exact⟨zw,zw,ZB (row:=λi j=>[Ψ (Φ Γ X)].getD (i+j) .top) Ωp λi hi=>(by rw[show i=0 by omega];rfl)⟩) ΩC ?_;by_cases hs:h.lo j≤X∧X≤h.hi j
   ·rw[decide_eq_true (show gT (λ_=>X) 1 (h.lo j) (h.hi j)from λ_ _=>hs)]
    (repeat' first|refine sD ?_ ?_<;>intro _|refine aAh ?_|simp -dsimp only[↓RP,RQ,seval,QÁ,ctL,TYz,TYc]);refine⟨(j+1,_),⟨hjk,?g1,λx hx=>?g2⟩,Ωc,weakSU (xa5 _) (by simp[qQ,Go.Sx.look,ctL]) (λq v hv=>Ωs)⟩
    case g1=>dsimp only;omega
    case g2=>
     by_cases c:x=j
     ·rw[c,hX2];exact hs
     ·exact hS x (by dsimp only at hx;omega)
   ·rw[decide_eq_false (show ¬gT (λ_=>X) 1 (h.lo j) (h.hi j)from λc=>hs (c 0 Ω))]
    have e:ckT h h.w u=14:=by
     unfold ckT;rw[if_neg Ωg,if_neg ea,if_neg (λc=>hs (by have:=c j hjk;rwa [hX2]at this))]
    rw[e];repeat' first|refine sD ?_ ?_<;>intro _|refine aAh ?_|simp -dsimp only[↓RP,RQ,seval,QÁ,ctL,TYz,TYc]
 ·obtain rfl:j=h.k:=by omega
  have hlt2:=decide_eq_false (Ω:¬((h.k:Nat):Int)<(h.k:Nat));have e:ckT h h.w u=0:=by
   unfold ckT;rw[if_neg Ωg,if_neg ea,if_pos hS]
  rw[e];repeat' first|refine sD ?_ ?_<;>intro _|refine aAh ?_|simp -dsimp only[↓RP,RQ,seval,QÁ,hlt2,TYz,TYc]
end Go.Tn
end
section
namespace Go.Tn
open Go.Proofs
open Go.Sx
end Go.Tn
end
section
namespace Go.Tn
open Go.Proofs
open Go.Sx
theorem Ha.Tru.mono{h:Ha}{F:Nat→Int}(hF:h.Tru F)(hm:h.m≤1000000){i:Nat}:∀{d:Nat},i+d≤h.w→0≤F (i+d) - F i∧F (i+d) - F i≤1000000*d
 |0,_=>by simp
 |d+1,hd=>by
  have h1:=Ha.Tru.mono hF hm (i:=i) (d:=d) Ω;have h2:=hF.1 (i+d) Ω;rw[←xb2];omega
theorem Lst.tru{h:Ha}(o:h.Ok){a:Nat}{D:Nat→Int}(hD:Lst h.C (h.w+1) a D):h.Tru D:=o.fea.1 hD.2.1
theorem Ha.Tru.bd{h:Ha}(o:h.Ok){F:Nat→Int}(hF:h.Tru F){i j:Nat}(hi:i≤h.w)(hj:j≤h.w) : -10000000≤F i - F j∧F i - F j≤10000000:=by
 have hw:=o.w2;by_cases c:i≤j
 ·have:=hF.mono o.m.2 (i:=i) (d:=j - i) Ω
  rw[show i+(j - i)=j by omega]at this;omega
 ·have:=hF.mono o.m.2 (i:=j) (d:=i - j) Ω
  rw[show j+(i - j)=i by omega]at this;omega
theorem c50(h:Ha)(o:h.Ok)(a b:Nat)(hab:a≤b)(hb:b<h.w):(∃D E,Lst h.C (h.w+1) a D∧Lst h.C (h.w+1) (b+1) E∧qf Tryz.prog 50 [haS h,I a,I b] (.tup [.agg [I (- E a),I (D (b+1))],I 0]))∨((∀F,¬h.Tru F)∧qf Tryz.prog 50 [haS h,I a,I b] (.tup [.agg [I 0,I 0],I 5])):=by
 have hw:=o.w2;have h1:=qpw h o;have d1:=decide_eq_false (Ω:¬((a:Nat):Int)<0);have d2:=decide_eq_false (Ω:¬((b:Nat):Int)<(a:Nat));have d3:=decide_eq_false (Ω:¬((h.w:Nat):Int)≤(b:Nat));rcases qpu h o a Ω with⟨D,hD,h2⟩|⟨hno,h2⟩
 ·rcases qpu h o (b+1) Ω with⟨E,hE,h3⟩|⟨hno,h3⟩
  ·refine .inl ⟨D,E,hD,hE,?_⟩
   have e1:=(hE.tru o).bd o (i:=a) (j:=b+1) Ω Ω;rw[hE.1]at e1;refine qg Tryz.func50 rfl Ωb follows Ωb _ _ (by rw[Tryz.ntmps50];simp) (by simp only[OldL,gP h,and_true,true_and];simp[Old,I]) ?_;unfold haS;(repeat' first|refine sD ?_ ?_<;>intro _|refine aAh ?_|simp -dsimp only[↓RP,RQ,seval,TYz,TYc,TYd,QU]);refine kf h1 Ωx ?_;(repeat' first|refine sD ?_ ?_<;>intro _|refine aAh ?_|simp -dsimp only[↓RP,RQ,seval,QU,shN,d1,d2,d3,TYz,TYc,TYd]);refine qk h2 ΩJ Ω8 ?_;(repeat' first|refine sD ?_ ?_<;>intro _|refine aAh ?_|simp -dsimp only[↓RP,RQ,seval,QU,d1,d2,d3,TYz,TYc,TYd]);rw[show((b+1:Nat):Int)=(b:Int)+1 from by omega]at h3;refine qk h3 ΩJ Ω8 ?_;(repeat' first|refine sD ?_ ?_<;>intro _|refine aAh ?_|simp -dsimp only[↓RP,RQ,seval,QU,d1,d2,d3,TYz,TYc,TYd]);rw[show((b:Nat)+1:Int).toNat=b+1 by omega,show 0 - E a = - E a by omega];exact⟨rfl,rfl⟩
  ·exact absurd (hD.tru o) (hno D)
 ·refine .inr ⟨hno,?_⟩
  refine qg Tryz.func50 rfl Ωb follows Ωb _ _ (by rw[Tryz.ntmps50];simp) (by simp only[OldL,gP h,and_true,true_and];simp[Old,I]) ?_;unfold haS;(repeat' first|refine sD ?_ ?_<;>intro _|refine aAh ?_|simp -dsimp only[↓RP,RQ,seval,TYz,TYc,TYd,QU]);refine kf h1 Ωx ?_;(repeat' first|refine sD ?_ ?_<;>intro _|refine aAh ?_|simp -dsimp only[↓RP,RQ,seval,QU,shN,d1,d2,d3,TYz,TYc,TYd]);refine qk h2 ΩJ Ω8 ?_;repeat' first|refine sD ?_ ?_<;>intro _|refine aAh ?_|simp -dsimp only[↓RP,RQ,seval,QU,d1,d2,d3,TYz,TYc,TYd]
theorem qaW:qF Tryz.prog 2=8:=by kernel_rfl
theorem c53(h:Ha)(o:h.Ok):(∃D,Lst h.C (h.w+1) 0 D∧qf Tryz.prog 53 [haS h] (.tup [.arr true false h.w 1 (λi _=>Ψ (Φ Γ (D (i+1) - D i))),I 0]))∨((∀F,¬h.Tru F)∧qf Tryz.prog 53 [haS h] (.tup [.val (.slice none 0 0),I 5])):=by
 have hw:=o.w2;have h1:=qpw h o;rcases qpu h o 0 Ω with⟨D,hD,h2⟩|⟨hno,h2⟩
 ·refine .inl ⟨D,hD,?_⟩
  refine qg Tryz.func53 rfl Ωb follows Ωb _ _ (by rw[Tryz.ntmps53];simp) (by simp only[OldL,gP h,and_true,true_and]) ?_;unfold haS;(repeat' first|refine sD ?_ ?_<;>intro _|refine aAh ?_|simp -dsimp only[↓RP,RQ,seval,TYz,TYc,TYd,qaW,QÁ]);refine kf h1 Ωx ?_;(repeat' first|refine sD ?_ ?_<;>intro _|refine aAh ?_|simp -dsimp only[↓RP,RQ,seval,QÁ,shN,TYz,TYc,TYd,qaW]);refine qk h2 ΩJ Ω8 ?_;(repeat' first|refine sD ?_ ?_<;>intro _|refine aAh ?_|simp -dsimp only[↓RP,RQ,seval,QÁ,TYz,TYc,TYd,qaW]);refine qp (λ(z:Nat×Nat×Nat×(Nat→Nat→SV))=>z.1≤h.w∧(0<z.2.2.1∧z.2.2.1<z.2.1)∧∀j,j<z.1→z.2.2.2 j 0=Ψ (Φ Γ (D (j+1) - D j))) (λz=>⟨[(1,.ptr 0 0),(6,.ref true (h.w+1) (λi=>Ψ (Φ Γ (D i)))),(8,.vec z.2.2.1 z.1 1),(27,Ψ (Φ Γ (h.w:Nat))),(28,Ψ (Φ Γ (z.1:Nat)))],[(z.2.2.1,.rows 2 1 z.1 z.2.2.2),(0,.cells 97 [Ψ (Φ Γ h.w),Ψ (Φ Γ h.m),ctR h])],z.2.1⟩) (λz=>h.w - z.1) (0,26,25,λ_ _=>.top) ⟨xb6 _,?hB,λj hj=>absurd hj (Nat.not_lt_zero j)⟩ (Weak.trans (yU (t:=2) (k:=1) (d:=8) (λ_ _=>.top) Ωr) (weakSU (xa5 _) Ω2 ?hA)) λz hz=>?_
  case hA=>((repeat' (refine SubHp.ent ΩS ?_));exact λq v hv=>Ωs)
  case hB=>dsimp only;omega
  obtain⟨i,n1,sid,row⟩:=z;obtain⟨hi,⟨hs1,hs2⟩,hrow⟩:=hz;dsimp only at hi hs1 hs2 hrow;dsimp only;have NB:=(⟨nmA (Ω:0<n1),nmA hs2,nmE (Ω:sid≠0)⟩:_∧_∧_);by_cases hiw:i<h.w
  ·have hlt:=decide_eq_true (Ω:((i:Nat):Int)<(h.w:Nat))
   have b1:=(hD.tru o).bd o (i:=i+1) (j:=i) Ω Ω;have b2:=(hD.tru o).bd o (i:=i+1) (j:=0) Ω Ω;have b3:=(hD.tru o).bd o (i:=i) (j:=0) Ω Ω;have hn1:((i:Nat)+1:Int).toNat=i+1:=by omega
   (repeat' first|refine sD ?_ ?_<;>intro _|refine aAh ?_|simp -dsimp only[↓RP,RQ,seval,hlt,hn1,NB,TYz,TYc,TYd,qaW,QÁ]);refine⟨(i+1,_,n1+19,λa b=>if a<i then row a b else [Ψ (Φ Γ (D (i+1) - D i))].getD (a - i+b) .top),⟨hiw,?a1,?a2⟩,Ωc,weakSU (xa5 _) Ωd ?a3⟩
   case a1=>dsimp only;omega
   case a2=>
    intro j hj;dsimp only at hj ⊢;by_cases e:j<i
    ·rw[if_pos e];exact hrow j e
    ·obtain rfl:j=i:=by omega
     rw[if_neg e,xb8];rfl
   case a3=>((repeat' (refine SubHp.ent ΩA ?_));exact λq v hv=>Ωs)
  ·obtain rfl:i=h.w:=by omega
   have hlt:=decide_eq_false (Ω:¬((h.w:Nat):Int)<(h.w:Nat));(repeat' first|refine sD ?_ ?_<;>intro _|refine aAh ?_|simp -dsimp only[↓RP,RQ,seval,hlt,NB,TYz,TYc,TYd,qaW,QÁ]);refine⟨⟨xa5 _,.inr trivial,xa5 _,λx j hx hj=>?_⟩,xa5 _,λx j hx hj=>?_⟩
   ·obtain rfl:j=0:=by omega
    rw[hrow x hx];rfl
   ·obtain rfl:j=0:=by omega
    rw[if_pos Ω,hrow x hx]
 ·refine .inr ⟨hno,?_⟩
  refine qg Tryz.func53 rfl Ωb follows Ωb _ _ (by rw[Tryz.ntmps53];simp) (by simp only[OldL,gP h,and_true,true_and]) ?_;unfold haS;(repeat' first|refine sD ?_ ?_<;>intro _|refine aAh ?_|simp -dsimp only[↓RP,RQ,seval,TYz,TYc,TYd,qaW,QÁ]);refine kf h1 Ωx ?_;(repeat' first|refine sD ?_ ?_<;>intro _|refine aAh ?_|simp -dsimp only[↓RP,RQ,seval,QÁ,shN,TYz,TYc,TYd,qaW]);refine qk h2 ΩJ Ω8 ?_;repeat' first|refine sD ?_ ?_<;>intro _|refine aAh ?_|simp -dsimp only[↓RP,RQ,seval,QÁ,TYz,TYc,TYd,qaW]
end Go.Tn
end
section
namespace Go.Tn
open Go.Proofs
open Go.Sx
theorem VJ{f q f' q':Nat→Int}{r:Int}:∀{w:Nat},(∀i,i<w→f i=f' i∧q i=q' i)→cF f q w r=cF f' q' w r
 |0,_=>rfl
 |w+1,h=>by rw[JR,JR,VJ λi hi=>h i Ω,(h w Ω).1,(h w Ω).2]
def Ha.one(h:Ha)(r:Nat)(v:Int):Ha:=⟨h.w,h.m,h.k+1,λj=>if j<h.k then h.f j else r,λj=>if j<h.k then h.t j else r,λj=>if j<h.k then h.lo j else v,λj=>if j<h.k then h.hi j else v⟩
theorem qeW{hp:List (Nat×Blk)}{n:Nat}{u:Nat→Int}:Go.Sx.Sub hp (qE n u) (.arr true false n 1 (λi _=>Ψ (Φ Γ (u i)))):=by
 simp only[qE,Go.Sx.Sub]
 simp_all
theorem qgI{K:Nat}{a b c:Nat→Value}{v:Value}:Fresh (.tup [.arr true false K 3 (λi j=>[SV.val (a i),SV.val (b i),SV.val (c i)].getD j .top),.val v]):=by
 simp only[Fresh,FreshL,and_true];refine⟨trivial,λi j hi hj=>?_⟩;rcases(Ω:j=0∨j=1∨j=2)with rfl|rfl|rfl<;>trivial
end Go.Tn
end
section
namespace Go.Tn
open Go.Proofs
open Go.Sx
def fky(v:Nat×(Nat→Nat))(r:Nat):Nat:=if v.1=0 then r else v.2 (r % v.1) % 8
def fgp(v:Nat×(Nat→Nat))(k:Nat):Nat→List Nat
 |0=>[]
 |m+1=>fgp v k m++(if fky v m=k then [m]else [])
theorem Jv(v:Nat×(Nat→Nat))(k m:Nat):fgp v k (m+1)=fgp v k m++(if fky v m=k then [m]else []):=rfl
def fgs(v:Nat×(Nat→Nat))(n:Nat):Nat→List (List Nat)
 |0=>[]
 |k+1=>fgs v n k++(if fgp v k n=[]then []else [fgp v k n])
theorem VK(v:Nat×(Nat→Nat))(n k:Nat):fgs v n (k+1)=fgs v n k++(if fgp v k n=[]then []else [fgp v k n]):=rfl
theorem qeX(v:Nat×(Nat→Nat))(k m:Nat):(fgp v k m).length≤m:=by
 induction m with
 |zero=>simp[fgp]
 |succ m ih=>rw[Jv,xc8];split<;>simp<;>omega
theorem qeY(v:Nat×(Nat→Nat))(n k:Nat):(fgs v n k).length≤k:=by
 induction k with
 |zero=>simp[fgs]
 |succ m ih=>rw[VK,xc8];split<;>simp<;>omega
abbrev GE:=Nat×List Nat×(Nat→Nat→SV)
def GB(gl:List GE):List (Nat×Blk):=gl.map (λg=>(g.1,Blk.rows 3 1 g.2.1.length g.2.2))
theorem KV:∀{gl:List GE}{i:Nat},(∀g,g∈gl→g.1≠i)→blk (GB gl) i=none
 |[],i,_=>rfl
 |g :: gl,i,h=>by
  simp only[GB,List.map_cons,blk];rw[if_neg (λe=>h g Ωg e.symm)];exact KV (gl:=gl) (λg hg=>h g (by simp[hg]))
theorem qkC:∀{gl:List GE}{i:Nat},(gl.map (·.1)).Nodup→(hi:i<gl.length)→blk (GB gl) gl[i].1=some (.rows 3 1 gl[i].2.1.length gl[i].2.2)
 |[],i,_,hi=>by simp at hi
 |g :: gl,0,_,hi=>by simp[GB,blk]
 |g :: gl,i+1,h,hi=>by
  simp only[List.map_cons,List.nodup_cons]at h;have hi':i<gl.length:=by simpa using hi
  have hne:g.1≠gl[i].1:=λe=>h.1 (by rw[e];exact List.mem_map.2 ⟨gl[i],List.getElem_mem _,rfl⟩);simp only[GB,List.map_cons,blk,List.getElem_cons_succ];rw[if_neg (λe=>hne e.symm)];exact qkC (gl:=gl) h.2 hi'
theorem qpx(gl:List GE)(g:GE):∀q,blk (GB (gl++[g])) q=match blk (GB gl) q with|some x=>some x|none=>if q=g.1 then some (.rows 3 1 g.2.1.length g.2.2)else none:=by
 intro q
 induction gl with
 |nil=>simp[GB,blk]
 |cons a gl ih=>
  simp only[GB,List.map_cons,List.cons_append,blk];split
  ·rfl
  ·exact ih
theorem qpy(r k:Nat):Int.tmod (r:Int) ((k:Nat):Int)=((r % k:Nat):Int):=by rw[Int.tmod_eq_emod_of_nonneg Ω];rfl
theorem qsC(v:Nat):Int.tmod (v:Int) 8=((v % 8:Nat):Int):=by rw[Int.tmod_eq_emod_of_nonneg Ω];rfl
theorem c28(n nb:Nat)(v:Nat×(Nat→Nat))(f q:Nat→Int)(fav:Bool)(c d st:Int)(hn:n≤8)(hv1:v.1≤20)(hv:∀i,i<v.1→v.2 i<256):qf Tryz.prog 28 [bkS n nb f (λ_=>-1) q fav c d st,.arr false false v.1 1 (λi _=>.val (.int .u8 (v.2 i:Nat)))] (.arr true false (fgs v n 8).length 1 (λi _=>.arr true false ((fgs v n 8).getD i []).length 1 (λj _=>Ψ (Φ Γ (((fgs v n 8).getD i []).getD j 0:Nat))))):=by
 refine qg Tryz.func28 rfl Ωb follows Ωb _ _ (by rw[Tryz.ntmps28];simp) (by simp only[OldL,and_true];refine⟨jf _ _ _ _ _ _ _ _ _,?_⟩;simp[Old]) ?_;have NB:True:=trivial;have hr0:True:=trivial;unfold bkS za;(repeat' first|refine sD ?_ ?_<;>intro _|refine aAc ?_|simp -dsimp only[↓RP,RQ,seval,TYz,NB,QÀ,hr0,TYR]);refine qp (λ(z:Nat×List GE×Nat×(Nat→Nat→SV)×Nat)=>z.1≤8∧z.2.1.map (·.2.1)=fgs v n z.1∧(z.2.1.map (·.1)).Nodup∧(∀g,g∈z.2.1→0<g.1∧g.1<z.2.2.2.2∧g.1≠z.2.2.1)∧(0<z.2.2.1∧z.2.2.1<z.2.2.2.2)∧(∀i (hi:i<z.2.1.length),z.2.2.2.1 i 0=.vec z.2.1[i].1 z.2.1[i].2.1.length 1)∧∀g,g∈z.2.1→∀j,j<g.2.1.length→g.2.2 j 0=Ψ (Φ Γ (g.2.1.getD j 0:Nat))) (λz=>⟨[(1,.arr false false v.1 1 (λi _=>.val (.int .u8 (v.2 i:Nat)))),(2,.ptr 0 0),(5,.vec z.2.2.1 z.2.1.length 1),(6,Ψ (Φ Γ (z.1:Nat)))],(0,.cells 48 [Ψ (Φ Γ 0),Ψ (Φ Γ n),.arr false false nb 3 (λi j=>[Ψ (Φ Γ (f i)),Ψ (Φ Γ (-1)),Ψ (Φ Γ (q i))].getD j .top),.val (.slice none 0 0),.val (.bool fav),Ψ (Φ Γ c),Ψ (Φ Γ d),Ψ (Φ Γ st)]) ::(z.2.2.1,.rows 22 1 z.2.1.length z.2.2.2.1) :: GB z.2.1,z.2.2.2.2⟩) (λz=>8 - z.1) (0,[],4,λ_ _=>.top,5) ⟨Ωq,rfl,List.nodup_nil,λg hg=>(by cases hg),⟨Ωq,Ωq⟩,λi hi=>(by simp at hi),λg hg=>(by cases hg)⟩ ((yU (d:=5) (k:=1) (t:=22) (λ_ _=>.top) ΩG).trans (weakSU (xa5 _) Ω2 (SubHp.swap Ω))) λz hz=>?_;obtain⟨k,gl,oid,R,nid⟩:=z;obtain⟨hk,hg1,hg2,hg3,⟨ho1,ho2⟩,hR,hrow⟩:=hz;dsimp only at hk hg1 hg2 hg3 ho1 ho2 hR hrow ⊢;obtain⟨d0,d1,d2⟩:(0=oid)=False∧(oid=0)=False∧True:=⟨by rw[eq_iff_iff,iff_false];omega,by rw[eq_iff_iff,iff_false];omega,trivial⟩;have NB:=(⟨nmA (Ω:0<nid),nmA (Ω:oid<nid),d0,d1⟩:_∧_∧_∧_);have hund:∀q x,blk (GB gl) q=some x→q<nid:=λq x hq=>by
  refine xf9 λhn'=>?_;rw[KV (λg hg e=>hn' (by have:=hg3 g hg;omega))]at hq;cases hq
 have hgl:gl.length≤k:=by
  have:=qeY v n k;rw[←hg1,xe1]at this;exact this
 by_cases hk8:k<8
 ·have hlt:=decide_eq_true (Ω:((k:Nat):Int)<8)
  (repeat' first|refine sD ?_ ?_<;>intro _|refine aAc ?_|simp -dsimp only[↓RP,RQ,seval,hlt,TYz,NB,QÀ,hr0,TYR]);refine qp (λ(z:Nat×Nat×Nat×(Nat→Nat→SV))=>z.1≤n∧nid≤z.2.1∧z.2.1<z.2.2.1∧∀j,j<(fgp v k z.1).length→z.2.2.2 j 0=Ψ (Φ Γ ((fgp v k z.1).getD j 0:Nat))) (λz=>⟨[(1,.arr false false v.1 1 (λi _=>.val (.int .u8 (v.2 i:Nat)))),(2,.ptr 0 0),(5,.vec oid gl.length 1),(6,Ψ (Φ Γ (k:Nat))),(7,.vec z.2.1 (fgp v k z.1).length 1),(8,Ψ (Φ Γ (z.1:Nat)))],(0,.cells 48 [Ψ (Φ Γ 0),Ψ (Φ Γ n),.arr false false nb 3 (λi j=>[Ψ (Φ Γ (f i)),Ψ (Φ Γ (-1)),Ψ (Φ Γ (q i))].getD j .top),.val (.slice none 0 0),.val (.bool fav),Ψ (Φ Γ c),Ψ (Φ Γ d),Ψ (Φ Γ st)]) ::(z.2.1,.rows 3 1 (fgp v k z.1).length z.2.2.2) ::(oid,.rows 22 1 gl.length R) :: GB gl,z.2.2.1⟩) (λz=>n - z.1) (0,nid+4,nid+5,λ_ _=>.top) ⟨xb6 _,Ωc,Ωc,λj hj=>(by simp[fgp]at hj)⟩ ((yU (d:=7) (k:=1) (t:=3) (λ_ _=>.top) ΩG).trans (weakSU (xa5 _) (by simp[qQ,Go.Sx.look,putFr,fgp]) (SubHp.swap Ω))) λz hz=>?_;obtain⟨m,gid,n2,r⟩:=z;obtain⟨hm,hgi1,hgi2,hr⟩:=hz;dsimp only at hm hgi1 hgi2 hr ⊢;have hfl:=qeX v k m;have NB:=(⟨nmA (Ω:0<n2),nmA (Ω:oid<n2),nmA (Ω:gid<n2),nmE (Ω:gid≠0),nmE (Ω:gid≠oid),d0,d1⟩:_∧_∧_∧_∧_∧_∧_);have hdg:dropBlk (GB gl) gid=GB gl:=zg (KV (λg hg e=>by have:=hg3 g hg;omega));by_cases hmn:m<n
  ·have hlt2:=decide_eq_true (Ω:((m:Nat):Int)<(n:Nat))
   by_cases hz:v.1=0
   ·have hky:fky v m=m:=by unfold fky;rw[if_pos hz]
    have dz:=decide_eq_false (Ω:¬(0:Int)<((v.1:Nat):Int));by_cases hkk:m=k
    ·have hS:fgp v k (m+1)=fgp v k m++[m]:=by rw[Jv,hky,if_pos hkk]
     have dk:decide ((((m:Nat):Int))=((k:Nat):Int))=true:=decide_eq_true Ω;have h94:=qlU (m:Nat);(repeat' first|refine sD ?_ ?_<;>intro _|refine aAc ?_|simp -dsimp only[↓RP,RQ,seval,hlt2,dz,dk,TYz,NB,QÀ,hr0,TYR]);refine qk (h94) Ω3 Ωa ?_;(repeat' first|refine sD ?_ ?_<;>intro _|refine aAc ?_|simp -dsimp only[↓RP,RQ,seval,QÀ,hdg,TYz,NB,hr0,TYR]);refine⟨(m+1,n2+22,n2+27,λi j=>if i<(fgp v k m).length then r i j else [Ψ (Φ Γ (m:Nat))].getD (i -(fgp v k m).length+j) .top),⟨hmn,Ωc,Ωc,?hp0⟩,Ωc,weakSU (xa5 _) (by dsimp only;rw[hS,xc8];simp[qQ,Go.Sx.look]) ?hq0⟩
     case hp0=>
      dsimp only;intro i hi;rw[hS,xc8,xd1]at hi;rw[hS];by_cases e:i<(fgp v k m).length
      ·rw[if_pos e,hr i e,xc6,xc6,xc9 e]
      ·obtain rfl:i=(fgp v k m).length:=by omega
       rw[if_neg e];simp
     case hq0=>
      dsimp only;rw[hS,xc8,xd1]
      (intro q x hx;simp only[blk]at hx ⊢;((repeat' split at hx)<;>(repeat' split)<;>first|exact hx|(exfalso;omega)|(exfalso;have:=hund _ _ hx;omega)))
    ·have hS:fgp v k (m+1)=fgp v k m:=by rw[Jv,hky,if_neg hkk,xd3]
     have dk:decide ((((m:Nat):Int))=((k:Nat):Int))=false:=decide_eq_false Ω;(repeat' first|refine sD ?_ ?_<;>intro _|refine aAc ?_|simp -dsimp only[↓RP,RQ,seval,hlt2,dz,dk,TYz,NB,QÀ,hr0,TYR]);refine⟨(m+1,gid,_,r),⟨hmn,hgi1,?hn0,by dsimp only;rw[hS];exact hr⟩,Ωc,weakSU (xa5 _) (by dsimp only;rw[hS];simp[qQ,Go.Sx.look]) (by dsimp only;rw[hS];exact SubHp.refl _)⟩;dsimp only;omega
   ·have hky:fky v m=v.2 (m % v.1) % 8:=by unfold fky;rw[if_neg hz]
    have dz:=decide_eq_true (Ω:(0:Int)<((v.1:Nat):Int));have m3:=qpy m v.1;have tn:Int.toNat ((m % v.1:Nat):Int)=m % v.1:=rfl;have hlt3:m % v.1<v.1:=Nat.mod_lt _ Ω;have hc3:=qsC (v.2 (m % v.1));have hv3:=hv (m % v.1) hlt3;by_cases hkk:v.2 (m % v.1) % 8=k
    ·have hS:fgp v k (m+1)=fgp v k m++[m]:=by rw[Jv,hky,if_pos hkk]
     have dk:decide ((((v.2 (m % v.1) % 8:Nat):Int))=((k:Nat):Int))=true:=decide_eq_true Ω;have h94:=qlU (m:Nat);(repeat' first|refine sD ?_ ?_<;>intro _|refine aAc ?_|simp -dsimp only[↓RP,RQ,seval,hlt2,dz,m3,tn,hc3,dk,TYz,NB,QÀ,hr0,TYR]);refine qk (h94) Ω3 Ωa ?_;(repeat' first|refine sD ?_ ?_<;>intro _|refine aAc ?_|simp -dsimp only[↓RP,RQ,seval,QÀ,hdg,TYz,NB,hr0,TYR]);refine⟨(m+1,n2+32,n2+37,λi j=>if i<(fgp v k m).length then r i j else [Ψ (Φ Γ (m:Nat))].getD (i -(fgp v k m).length+j) .top),⟨hmn,Ωc,Ωc,?hp1⟩,Ωc,weakSU (xa5 _) (by dsimp only;rw[hS,xc8];simp[qQ,Go.Sx.look]) ?hq1⟩
     case hp1=>
      dsimp only;intro i hi;rw[hS,xc8,xd1]at hi;rw[hS];by_cases e:i<(fgp v k m).length
      ·rw[if_pos e,hr i e,xc6,xc6,xc9 e]
      ·obtain rfl:i=(fgp v k m).length:=by omega
       rw[if_neg e];simp
     case hq1=>
      dsimp only;rw[hS,xc8,xd1]
      (intro q x hx;simp only[blk]at hx ⊢;((repeat' split at hx)<;>(repeat' split)<;>first|exact hx|(exfalso;omega)|(exfalso;have:=hund _ _ hx;omega)))
    ·have hS:fgp v k (m+1)=fgp v k m:=by rw[Jv,hky,if_neg hkk,xd3]
     have dk:decide ((((v.2 (m % v.1) % 8:Nat):Int))=((k:Nat):Int))=false:=decide_eq_false Ω;(repeat' first|refine sD ?_ ?_<;>intro _|refine aAc ?_|simp -dsimp only[↓RP,RQ,seval,hlt2,dz,m3,tn,hc3,dk,TYz,NB,QÀ,hr0,TYR]);refine⟨(m+1,gid,_,r),⟨hmn,hgi1,?hn1,by dsimp only;rw[hS];exact hr⟩,Ωc,weakSU (xa5 _) (by dsimp only;rw[hS];simp[qQ,Go.Sx.look]) (by dsimp only;rw[hS];exact SubHp.refl _)⟩;dsimp only;omega
  ·obtain rfl:m=n:=by omega
   have hlt2:=decide_eq_false (Ω:¬((m:Nat):Int)<(m:Nat));by_cases he:fgp v k m=[]
   ·have hS:fgs v m (k+1)=fgs v m k:=by rw[VK,if_pos he,xd3]
    have dl:=decide_eq_false (show ¬(0:Int)<(((fgp v k m).length:Nat):Int) by rw[he];simp);(repeat' first|refine sD ?_ ?_<;>intro _|refine aAc ?_|simp -dsimp only[↓RP,RQ,seval,hlt2,dl,TYz,NB,QÀ,hr0,TYR]);refine⟨(k+1,gl,oid,R,_),⟨Ωc,by rw[hS];exact hg1,hg2,?ha1,⟨ho1,?ha2⟩,hR,hrow⟩,Ωc,weakSU (xa5 _) Ωd ?ha3⟩
    case ha1=>intro g hg;have:=hg3 g hg;dsimp only;omega
    case ha2=>dsimp only;omega
    case ha3=>dsimp only;(intro q x hx;simp only[blk]at hx ⊢;((repeat' split at hx)<;>(repeat' split)<;>first|exact hx|(exfalso;omega)|(exfalso;have:=hund _ _ hx;omega)))
   ·have hS:fgs v m (k+1)=fgs v m k++[fgp v k m]:=by rw[VK,if_neg he]
    have hpos:0<(fgp v k m).length:=List.length_pos_iff.2 he;have dl:=decide_eq_true (show(0:Int)<(((fgp v k m).length:Nat):Int) by omega);have hdo:dropBlk (GB gl) oid=GB gl:=zg (KV (λg hg e=>(hg3 g hg).2.2 e));(repeat' first|refine sD ?_ ?_<;>intro _|refine aAc ?_|simp -dsimp only[↓RP,RQ,seval,hlt2,dl,hdo,TYz,NB,QÀ,hr0,TYR]);refine⟨⟨.inr trivial,xa5 _,λi j hi hj=>?hb0,Ω,by rw[qR];omega⟩,by simp only[InK];omega,(k+1,gl++[(gid,fgp v k m,r)],n2+10,λi j=>if i<gl.length then R i j else [SV.vec gid (fgp v k m).length 1].getD (i - gl.length+j) .top,n2+15),⟨Ωc,?hb1,?hb2,?hb3,⟨Ωc,Ωc⟩,?hb4,?hb5⟩,Ωc,weakSU (xa5 _) (by dsimp only;rw[xc8];simp[qQ,Go.Sx.look]) ?hb6⟩
    case hb0=>
     obtain rfl:i=0:=by omega
     obtain rfl:j=0:=by omega
     rfl
    case hb1=>dsimp only;rw[List.map_append,hg1,hS];rfl
    case hb2=>
     dsimp only;rw[List.map_append];refine gi hg2 (λhm=>?_);obtain⟨g,hg,e⟩:=List.mem_map.1 hm;have:=hg3 g hg;dsimp only at e;omega
    case hb3=>
     dsimp only;intro g hg;rcases List.mem_append.1 hg with h|h
     ·have:=hg3 g h;omega
     ·rw[List.mem_singleton.1 h];dsimp only;omega
    case hb4=>
     dsimp only;intro i hi;rw[xc8,xd1]at hi;by_cases e:i<gl.length
     ·rw[if_pos e,List.getElem_append_left e];exact hR i e
     ·obtain rfl:i=gl.length:=by omega
      rw[if_neg e,List.getElem_concat_length Ωr];simp
    case hb5=>
     dsimp only;intro g hg j hj;rcases List.mem_append.1 hg with h|h
     ·exact hrow g h j hj
     ·rw[List.mem_singleton.1 h]at hj ⊢;exact hr j hj
    case hb6=>
     dsimp only;rw[xc8,xd1];intro q x hx;have hA:=qpx gl (gid,fgp v k m,r) q;simp only[blk]at hx ⊢;rw[hA]at hx;cases hB:blk (GB gl) q with
     |some y=>
      have:=hund q y hB;rw[hB]at hx;dsimp only at hx;(repeat' split at hx)<;>(repeat' split)<;>first|exact hx|(exfalso;omega)|cases hx
     |none=>
      rw[hB]at hx;dsimp only at hx;(repeat' split at hx)<;>(repeat' split)<;>first|exact hx|(exfalso;omega)|cases hx
 ·have hk8':k=8:=by omega
  subst hk8';have hlt:=decide_eq_false (Ω:¬((8:Nat):Int)<8);(repeat' first|refine sD ?_ ?_<;>intro _|refine aAc ?_|simp -dsimp only[↓RP,RQ,seval,hlt,TYz,NB,QÀ,hr0,TYR]);have hlen:(fgs v n 8).length=gl.length:=by rw[←hg1,xe1]
  refine⟨hlen,Nat.le_of_eq hlen,λi j hi hj=>?_⟩;obtain rfl:j=0:=by omega
  have hi':i<gl.length:=by omega
  rw[hR i hi'];have hget:=qkC hg2 hi';have hcon:(fgs v n 8).getD i []=gl[i].2.1:=by rw[←hg1,xc6,List.getElem?_map,xc7 hi'];rfl
  rw[hcon];have hgi:=hg3 gl[i] (List.getElem_mem _);have hb:∀A B:Blk,blk ((0,A) ::(oid,B) :: GB gl) gl[i].1=some (.rows 3 1 gl[i].2.1.length gl[i].2.2):=λA B=>by
   simp only[blk];rw[if_neg Ω,if_neg hgi.2.2];exact hget
  simp only[Go.Sx.Sub,hb,true_and,xa5];intro a b ha hb';obtain rfl:b=0:=by omega
  exact hrow gl[i] (List.getElem_mem _) a ha
end Go.Tn
end
section
namespace Go.Tn
open Go.Proofs
open Go.Sx
def pdS(f q:Nat→Int)(c d st:Int)(nb:Nat)(K:Nat)(D:List Nat):Nat→Int
 |0=>0
 |w+1=>pdS f q c d st nb K D w+pnF f q c d st nb K (D.getD w 0)*cF f q nb (D.getD w 0:Nat)
theorem qoh(f q:Nat→Int)(c d st:Int)(nb:Nat)(K:Nat)(D:List Nat)(w:Nat):pdS f q c d st nb K D (w+1)=pdS f q c d st nb K D w+pnF f q c d st nb K (D.getD w 0)*cF f q nb (D.getD w 0:Nat):=rfl
theorem qkD{f q:Nat→Int}{c d st:Int}{nb:Nat}(K r:Nat)(hnb:nb≤100)(hq:∀i,i<nb→1≤q i∧q i≤1000)(hc:0≤c∧c≤1000000)(hd:0≤d∧d≤500)(hst:1≤st∧st≤100):(0≤pnF f q c d st nb K r∧pnF f q c d st nb K r≤1100000000)∧0≤pnF f q c d st nb K r*cF f q nb (r:Nat)∧pnF f q c d st nb K r*cF f q nb (r:Nat)≤110000000000000:=by
 have h2:=yq f q (r:Nat) nb hq;have h1:=(qkq (n:=cF f q nb (r:Nat)) (qko (c:=c) (d:=d) K hnb hq hc hd) Ω hst).2.2;exact⟨h1,Int.mul_nonneg h1.1 h2.1,Int.le_trans (Int.mul_le_mul h1.2 (Ω:cF f q nb (r:Nat)≤100000) h2.1 Ω) Ωq⟩
theorem qkE{f q:Nat→Int}{c d st:Int}{nb:Nat}(K:Nat)(D:List Nat)(hnb:nb≤100)(hq:∀i,i<nb→1≤q i∧q i≤1000)(hc:0≤c∧c≤1000000)(hd:0≤d∧d≤500)(hst:1≤st∧st≤100):∀w:Nat,0≤pdS f q c d st nb K D w∧pdS f q c d st nb K D w≤110000000000000*w
 |0=>by simp[pdS]
 |w+1=>by
  have ih:=qkE K D hnb hq hc hd hst w (f:=f);have h1:=(qkD (f:=f) K (D.getD w 0) hnb hq hc hd hst).2;rw[qoh,Int.natCast_add];omega
def acP(f q:Nat→Int)(c d st:Int)(nb:Nat)(D:List Nat):Int:=pdS f q c d st nb D.length D D.length
def acK(f q:Nat→Int)(c d st:Int)(nb:Nat)(D:List Nat):Int:=if D.length=0 then 0 else c+100*sQ q nb - qM q d nb - acP f q c d st nb D
def acO(f q:Nat→Int)(c d st:Int)(nb:Nat)(D:List Nat):Int:=if D.length=0 then c+100*sQ q nb - qM q d nb else 0
theorem e93(n nb:Nat)(f q:Nat→Int)(fav:Bool)(c d st:Int)(hn1:2≤n)(hn:n≤8)(hnb:nb≤100)(hf:∀i,i<nb→0≤f i∧f i<n)(hq:∀i,i<nb→1≤q i∧q i≤1000)(hc:0≤c∧c≤1000000)(hd:0≤d∧d≤500)(hst:1≤st∧st≤100)(G:List (List Nat))(gr:List Nat)(hgr:G.getD 0 []=gr)(hG:1≤G.length)(hG8:G.length≤8)(h1:1≤gr.length)(h8:gr.length≤8)(hs:gr.Pairwise (· < ·))(D:List Nat)(hD:D=dvl f q nb (λi=>gr.getD i 0) gr.length)(tid mid id:Nat)(rest:List (Nat×Blk))(hr:Under rest id)(ht:tid<id)(hm:mid<tid):EffVC Tryz.prog 93 [.ptr tid 0,.arr false false G.length 1 (λi _=>.arr false false (G.getD i []).length 1 (λj _=>Ψ (Φ Γ ((G.getD i []).getD j 0:Nat))))] ((tid,.cells 167 (tlL n nb f q fav c d st (amx (cV f q nb) n:Nat) (.mp mid) (c+100*sQ q nb) 0 (qM q d nb) 0 0 (c+100*sQ q nb - qM q d nb))) ::(mid,.map (qh true [.i .i64,.i .i64]) (uD f nb) (uG f q nb)) :: rest) id (λhp' nid' res=>id≤nid'∧hp'=((tid,.cells 167 (tlL n nb f q fav c d st (amx (cV f q nb) n:Nat) (.mp mid) (c+100*sQ q nb) 0 (qM q d nb) 0 0 (c+100*sQ q nb - qM q d nb))) ::(mid,.map (qh true [.i .i64,.i .i64]) (uD f nb) (uG f q nb)) :: rest)∧res=(.agg [Ψ (Φ Γ (c+100*sQ q nb)),Ψ (Φ Γ 0),Ψ (Φ Γ (qM q d nb)),Ψ (Φ Γ (acP f q c d st nb D)),Ψ (Φ Γ (acK f q c d st nb D)),Ψ (Φ Γ (acO f q c d st nb D))])):=by
 refine vu follows Tryz.func93 rfl Ωb Ωb (by rw[Tryz.ntmps93];simp) λout=>?_;have hr0:blk rest id=none:=hr.none (xa5 _);have hov:=qeK hnb hq hc hd;have hsq:=Zx q nb hq;have hdu:=Jm hnb hq hd;have hD8:D.length≤8:=by
  have:=yW f q nb (λi=>gr.getD i 0) gr.length;rw[←hD]at this;omega
 have NB:=(⟨nmA (Ω:tid<id),nmA (Ω:mid<id),nmE (Ω:tid≠mid)⟩:_∧_∧_);(repeat' first|refine sD ?_ ?_<;>intro _|refine aAg ?_|simp -dsimp only[↓RP,RQ,seval,tlL,TYz,NB,QÀ,hr0,TYR,TYS,TYU]);refine gG Ωr (EffVC.sub (hp2:=(tid,.cells 167 (tlL n nb f q fav c d st (amx (cV f q nb) n:Nat) (.mp mid) (c+100*sQ q nb) 0 (qM q d nb) 0 0 (c+100*sQ q nb - qM q d nb))) ::(mid,.map (qh true [.i .i64,.i .i64]) (uD f nb) (uG f q nb)) ::(id+5,(.cells 57 [Ψ (Φ Γ (c+100*sQ q nb)),Ψ (Φ Γ 0),Ψ (Φ Γ (qM q d nb)),Ψ (Φ Γ 0),Ψ (Φ Γ 0),Ψ (Φ Γ (c+100*sQ q nb - qM q d nb))])) ::(id,(.cells 57 [Ψ (Φ Γ 0),Ψ (Φ Γ 0),Ψ (Φ Γ 0),Ψ (Φ Γ 0),Ψ (Φ Γ 0),Ψ (Φ Γ 0)])) :: rest) ?hsub (e99 n nb f q fav c d st hn1 hn hnb hf hq hc hd hst G gr hgr hG hG8 h1 h8 hs tid mid _ ((id+5,(.cells 57 [Ψ (Φ Γ (c+100*sQ q nb)),Ψ (Φ Γ 0),Ψ (Φ Γ (qM q d nb)),Ψ (Φ Γ 0),Ψ (Φ Γ 0),Ψ (Φ Γ (c+100*sQ q nb - qM q d nb))])) ::(id,(.cells 57 [Ψ (Φ Γ 0),Ψ (Φ Γ 0),Ψ (Φ Γ 0),Ψ (Φ Γ 0),Ψ (Φ Γ 0),Ψ (Φ Γ 0)])) :: rest) ?hu ?ht ?hm)) λhp' nid' res ⟨q1,ov,qo,q4,q5⟩=>?_
 case hsub=>(intro q v hv;simp only[blk]at hv ⊢;((repeat' split at hv)<;>(repeat' split)<;>first|exact hv|(exfalso;omega)|(exfalso;have:=hr _ _ hv;omega)))
 case hu=>(intro q v hv;simp only[blk]at hv;((repeat' split at hv)<;>first|omega|(have:=hr _ _ hv;omega)))
 case ht=>omega
 case hm=>exact hm
 rw[←hD]at qo q4 q5;subst q4 q5;rcases ov with _|⟨did,row⟩
 ·have hD0:D=[]:=qo
  have e1:acP f q c d st nb D=0:=by rw[hD0];rfl
  have e2:acK f q c d st nb D=0:=by rw[hD0];rfl
  have e3:acO f q c d st nb D=c+100*sQ q nb - qM q d nb:=by rw[hD0];rfl
  rw[e1,e2,e3];dsimp only[dvX,dvS];clear NB;have NB:=(⟨nmA (Ω:tid<nid'),nmA (Ω:mid<nid'),nmA (Ω:id<nid'),nmA (Ω:id+5<nid'),nmE (Ω:tid≠mid),nmE (Ω:tid≠id),nmE (Ω:tid≠id+5),nmE (Ω:mid≠id),nmE (Ω:mid≠id+5)⟩:_∧_∧_∧_∧_∧_∧_∧_∧_);(repeat' first|refine sD ?_ ?_<;>intro _|refine aAg ?_|simp -dsimp only[↓RP,RQ,seval,tlL,TYz,NB,QÀ,hr0,TYR,TYS,TYU]);refine⟨(tid,.cells 167 (tlL n nb f q fav c d st (amx (cV f q nb) n:Nat) (.mp mid) (c+100*sQ q nb) 0 (qM q d nb) 0 0 (c+100*sQ q nb - qM q d nb))) ::(mid,.map (qh true [.i .i64,.i .i64]) (uD f nb) (uG f q nb)) :: rest,_,_,vm (fr':=[(0,_)]) ⟨.inr rfl,trivial⟩ ?hsE,?hqE,rfl,rfl⟩
  case hsE=>(intro q v hv;simp only[blk]at hv ⊢;((repeat' split at hv)<;>(repeat' split)<;>first|exact hv|(exfalso;omega)|(exfalso;have:=hr _ _ hv;omega)))
  case hqE=>omega
 ·obtain⟨ho1,ho2,ho3,ho4⟩:=qo
  have hk1:1≤D.length:=List.length_pos_iff.2 ho1;have dl:=decide_eq_false (Ω:¬((D.length:Nat):Int)=0);dsimp only[dvX,dvS];clear NB;have NB:=(⟨nmA (Ω:tid<nid'),nmA (Ω:mid<nid'),nmA (Ω:id<nid'),nmA (Ω:id+5<nid'),nmA (Ω:did<nid'),nmE (Ω:tid≠mid),nmE (Ω:tid≠id),nmE (Ω:tid≠id+5),nmE (Ω:tid≠did),nmE (Ω:mid≠id),nmE (Ω:mid≠id+5),nmE (Ω:mid≠did),nmE (Ω:id≠did),nmE (Ω:id+5≠did)⟩:_∧_∧_∧_∧_∧_∧_∧_∧_∧_∧_∧_∧_∧_);(repeat' first|refine sD ?_ ?_<;>intro _|refine aAg ?_|simp -dsimp only[↓RP,RQ,seval,tlL,dl,TYz,NB,QÀ,hr0,TYR,TYS,TYU]);refine qp (λ(z:Nat×Nat)=>z.1≤D.length∧nid'≤z.2) (λz=>⟨[(0,.ptr tid 0),(4,.ptr id 0),(5,.ptr (id+5) 0),(20,.vec did D.length 3),(21,Ψ (Φ Γ (D.length:Nat))),(22,Ψ (Φ Γ (z.1:Nat)))],(did,.rows 80 3 D.length row) ::(id+5,(.cells 57 [Ψ (Φ Γ (c+100*sQ q nb)),Ψ (Φ Γ 0),Ψ (Φ Γ (qM q d nb)),Ψ (Φ Γ (pdS f q c d st nb D.length D z.1)),Ψ (Φ Γ 0),Ψ (Φ Γ (c+100*sQ q nb - qM q d nb))])) ::(id,(.cells 57 [Ψ (Φ Γ 0),Ψ (Φ Γ 0),Ψ (Φ Γ 0),Ψ (Φ Γ 0),Ψ (Φ Γ 0),Ψ (Φ Γ 0)])) ::(tid,.cells 167 (tlL n nb f q fav c d st (amx (cV f q nb) n:Nat) (.mp mid) (c+100*sQ q nb) 0 (qM q d nb) 0 0 (c+100*sQ q nb - qM q d nb))) ::(mid,.map (qh true [.i .i64,.i .i64]) (uD f nb) (uG f q nb)) :: rest,z.2⟩) (λz=>D.length - z.1) (0,nid'+100) ⟨xb6 _,Ωc⟩ (weakSU Ωc Ωd ?hs1) λz hz=>?_
  case hs1=>(intro q v hv;simp only[blk]at hv ⊢;((repeat' split at hv)<;>(repeat' split)<;>first|exact hv|(exfalso;omega)|(exfalso;have:=hr _ _ hv;omega)))
  obtain⟨w,m1⟩:=z;obtain⟨hw,hm1⟩:=hz;dsimp only at hw hm1 ⊢;clear NB;have NB:=(⟨nmA (Ω:tid<m1),nmA (Ω:mid<m1),nmA (Ω:id<m1),nmA (Ω:id+5<m1),nmA (Ω:did<m1),nmE (Ω:tid≠mid),nmE (Ω:tid≠id),nmE (Ω:tid≠id+5),nmE (Ω:tid≠did),nmE (Ω:mid≠id),nmE (Ω:mid≠id+5),nmE (Ω:mid≠did),nmE (Ω:id≠did),nmE (Ω:id+5≠did)⟩:_∧_∧_∧_∧_∧_∧_∧_∧_∧_∧_∧_∧_∧_);have hpd:=qkE (f:=f) D.length D hnb hq hc hd hst w;by_cases hwl:w<D.length
  ·have hlt:=decide_eq_true (Ω:((w:Nat):Int)<(D.length:Nat))
   obtain⟨r0,r1,r2⟩:=ho4 w hwl;have hl:(if uD f nb (Value.agg #[Value.int IntKind.i64 (D.getD w 0:Nat),Value.int IntKind.i64 (-1)])=true then uG f q nb (Value.agg #[Value.int IntKind.i64 (D.getD w 0:Nat),Value.int IntKind.i64 (-1)])else SV.val (Value.int IntKind.i64 0))=Ψ (Φ Γ (cF f q nb (D.getD w 0:Nat))):=WS f q nb _;obtain⟨hb,hm3,hm4⟩:=qkD (f:=f) D.length (D.getD w 0) hnb hq hc hd hst;have hc0:=yq f q (D.getD w 0:Nat) nb hq;(repeat' first|refine sD ?_ ?_<;>intro _|refine aAg ?_|simp -dsimp only[↓RP,RQ,seval,hlt,r0,r1,r2,hl,tlL,TYz,NB,QÀ,hr0,TYR,TYS,TYU]);refine⟨(w+1,m1+27),⟨hwl,Ωc⟩,Ωc,weakSU Ωc Ωd ?hs2⟩
   case hs2=>
    dsimp only;rw[qoh]
    (intro q v hv;simp only[blk]at hv ⊢;((repeat' split at hv)<;>(repeat' split)<;>first|exact hv|(exfalso;omega)|(exfalso;have:=hr _ _ hv;omega)))
  ·obtain rfl:w=D.length:=by omega
   have hlt:=decide_eq_false (Ω:¬((D.length:Nat):Int)<(D.length:Nat));have e2:acK f q c d st nb D=c+100*sQ q nb - qM q d nb - pdS f q c d st nb D.length D D.length:=by unfold acK acP;rw[if_neg Ω]
   have e3:acO f q c d st nb D=0:=by unfold acO;rw[if_neg Ω]
   rw[e2,e3];(repeat' first|refine sD ?_ ?_<;>intro _|refine aAg ?_|simp -dsimp only[↓RP,RQ,seval,hlt,tlL,TYz,NB,QÀ,hr0,TYR,TYS,TYU]);refine⟨(tid,.cells 167 (tlL n nb f q fav c d st (amx (cV f q nb) n:Nat) (.mp mid) (c+100*sQ q nb) 0 (qM q d nb) 0 0 (c+100*sQ q nb - qM q d nb))) ::(mid,.map (qh true [.i .i64,.i .i64]) (uD f nb) (uG f q nb)) :: rest,_,_,vm (fr':=[(0,_)]) ⟨.inr rfl,trivial⟩ ?hsF,?hqF,rfl,rfl⟩
   case hsF=>(intro q v hv;simp only[blk]at hv ⊢;((repeat' split at hv)<;>(repeat' split)<;>first|exact hv|(exfalso;omega)|(exfalso;have:=hr _ _ hv;omega)))
   case hqF=>omega
theorem c27(n nb:Nat)(f q:Nat→Int)(fav:Bool)(c d st:Int)(hn1:2≤n)(hn:n≤8)(hnb:nb≤100)(hf:∀i,i<nb→0≤f i∧f i<n)(hq:∀i,i<nb→1≤q i∧q i≤1000)(hc:0≤c∧c≤1000000)(hd:0≤d∧d≤500)(hst:1≤st∧st≤100)(G:List (List Nat))(hG:G.length≤8)(hG0:∀g,g∈G→g.length≤8)(hG1:∀g,g∈G→g≠[]∧g.Pairwise (· < ·))(hG2:G.flatten.Nodup)(hG3:∀x,x∈G.flatten↔x<n)(D:List Nat)(hD:D=dvl f q nb (λi=>(G.getD 0 []).getD i 0) (G.getD 0 []).length):qf Tryz.prog 27 [bkS n nb f (λ_=>-1) q fav c d st,.arr false false G.length 1 (λi _=>.arr false false (G.getD i []).length 1 (λj _=>Ψ (Φ Γ ((G.getD i []).getD j 0:Nat))))] (.tup [(.agg [Ψ (Φ Γ (c+100*sQ q nb)),Ψ (Φ Γ 0),Ψ (Φ Γ (qM q d nb)),Ψ (Φ Γ (acP f q c d st nb D)),Ψ (Φ Γ (acK f q c d st nb D)),Ψ (Φ Γ (acO f q c d st nb D))]),I 0]):=by
 refine qg Tryz.func27 rfl Ωb follows Ωb _ _ (by rw[Tryz.ntmps27];simp) Ωac ?_;have NB:True:=trivial;have hr0:True:=trivial;have hne:1≤G.length:=by
  cases hg:G with
  |nil=>have:=(hG3 0).2 Ω;rw[hg]at this;cases this
  |cons a l=>simp
 have hgm:G.getD 0 []∈G:=by
  rw[xc6,xc7 hne];exact List.getElem_mem _
 have hg1:=hG1 _ hgm;have hg8:=hG0 _ hgm;have hgp:1≤(G.getD 0 []).length:=List.length_pos_iff.2 hg1.1;unfold bkS I;(repeat' first|refine sD ?_ ?_<;>intro _|refine aAg ?_|simp -dsimp only[↓RP,RQ,seval,TYz,NB,QÀ,hr0,TYR,TYS,TYU]);refine gG Ωr (e92 n nb f q fav c d st hn1 hn hnb hf hq hc hd hst G hG hG0 hG1 hG2 hG3 _ _ ?hu) λhp' nid' res ⟨tid,mid,q1,q2,q3,q4,q5⟩=>?_
 case hu=>
  intro q v hv;simp only[blk]at hv;(repeat' split at hv)<;>first|omega|cases hv
 subst q4 q5;(repeat' first|refine sD ?_ ?_<;>intro _|refine aAg ?_|simp -dsimp only[↓RP,RQ,seval,TYz,NB,QÀ,hr0,TYR,TYS,TYU]);refine gG Ωr (e93 n nb f q fav c d st hn1 hn hnb hf hq hc hd hst G (G.getD 0 []) rfl hne hG hgp hg8 hg1.2 D hD tid mid _ _ ?hu2 ?ht ?hm) λhp2 nid2 res ⟨p1,p2,p3⟩=>?_
 case hu2=>
  intro q v hv;simp only[blk]at hv;(repeat' split at hv)<;>first|omega|cases hv
 case ht=>omega
 case hm=>omega
 subst p2 p3;clear NB;have NB:=(⟨nmA (Ω:tid<nid2),nmA (Ω:mid<nid2),nmE (Ω:tid≠mid),nmE (Ω:tid≠0),nmE (Ω:tid≠1),nmE (Ω:mid≠0),nmE (Ω:mid≠1)⟩:_∧_∧_∧_∧_∧_∧_);repeat' first|refine sD ?_ ?_<;>intro _|refine aAg ?_|simp -dsimp only[↓RP,RQ,seval,QÀ,tlL,TYz,NB,hr0,TYR,TYS,TYU]
end Go.Tn
end
