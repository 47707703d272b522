/- A part of the proof. -/
import Derived.Test.YtacejomniokahaaGreatPG
import Derived.Test.YtacejomniokahaaGreatPF
import Derived.Test.YtacejomniokahaaGreatPE
import Derived.Test.YtacejomniokahaaGreatPC
open Nat renaming reduceMul→xa0,reduceAdd→xa1,reduceEqDiff→xa2,reduceLT→xa3,reduceLeDiff→xa4,le_refl→xa5,eq_of_beq_eq_true→xa6,le_of_ble_eq_true→xa7,mul_le_mul_right→xa8,lt_of_lt_of_le→xa9,zero_add→xb0,add_zero→xb1,add_assoc→xb2,lt_irrefl→xb4,lt_succ_self→xb5,zero_le→xb6,sub_self→xb8,le_trans→xc1,le_succ→xc4
open List renaming getD_eq_getElem?_getD→xc6,getElem?_eq_getElem→xc7,length_append→xc8,getElem?_append_left→xc9,getElem?_append_right→xd0,length_singleton→xd1,mem_cons_self→xd5,getElem?_cons_zero→xd6,getElem?_cons_succ→xd7,length_replicate→xd8,length_take→xd9,mem_singleton→xe0,length_map→xe1,getElem?_toArray→xe2,getElem?_range→xe3,length_cons→xe4,length_set→xe5
open Bool renaming and_eq_true→xe6,false_eq_true→xe7,true_and→xf0,and_true→xf1,or_false→xf3
open Array renaming getD_eq_getD_getElem?→xf5,length_toList→xf7
open Classical renaming byContradiction→xf9
open Option renaming map_some→xg1
set_option linter.unusedVariables false
set_option linter.unusedSimpArgs false
set_option linter.defProp false
set_option maxRecDepth 1000000
set_option maxHeartbeats 16000000
section
namespace Go.Sx
open Go.RowKit
theorem qjk{O:Ctx}{fr:List (Nat×SV)}{hp:List (Nat×Blk)}{nid b i k:Nat}{t te:TypeId}{l:List SV}(row:Nat→Nat→SV)(hb:blk hp b=some (.cells t l))(hi:l[i]? = some (.val (.slice none 0 0))):Weak O ⟨fr,hp,nid⟩ ⟨fr,(b,.cells t (l.set i (.vec nid 0 k))) ::(nid,.rows te k 0 row) :: hp,nid+1⟩:=λbase okc ns outs a w ⟨r,h'⟩=>by
 have hbn:b<nid:=h'.keys b _ hb;obtain⟨r',hst,hrep⟩:=wP h'.sat nid (xb4 _) none (hp':=(nid,.rows te k 0 row) :: hp) (e:=te) (k:=k) (row:=row) ΩW (λj hj _=>by simp only[blk];rw[if_neg (Nat.ne_of_lt hj)]) (λo ho=>by cases ho);rw[gt]at hst hrep;have hb1:blk ((nid,.rows te k 0 row) :: hp) b=some (.cells t l):=by simp only[blk];rw[if_neg (Nat.ne_of_lt hbn)];exact hb
 have dom:∀id x,blk ((b,.cells t (l.set i (.vec nid 0 k))) ::(nid,.rows te k 0 row) :: hp) id=some x→∃y,blk ((nid,.rows te k 0 row) :: hp) id=some y:=λid x hx=>by
  by_cases e:id=b
  ·rw[e];exact⟨_,hb1⟩
  ·rw[show blk ((b,.cells t (l.set i (.vec nid 0 k))) ::(nid,.rows te k 0 row) :: hp) id=blk ((nid,.rows te k 0 row) :: hp) id by simp only[blk];rw[if_neg e]]at hx
   exact⟨x,hx⟩
 have gd:∀o c,Gd base okc r' (· < nid+1) ((nid,.rows te k 0 row) :: hp) w o c→Gd base okc r' (· < nid+1) ((b,.cells t (l.set i (.vec nid 0 k))) ::(nid,.rows te k 0 row) :: hp) w o c∧w.heap[c]? = w.heap[c]?:=λo c hc=>⟨⟨hc.1,λid x hx hid hr=>by obtain⟨y,hy⟩:=dom id x hx;exact hc.2.1 id y hy hid hr,hc.2.2⟩,rfl⟩;have sat:Sat base okc r' (· < nid+1) ((b,.cells t (l.set i (.vec nid 0 k))) ::(nid,.rows te k 0 row) :: hp) w:=by
  refine⟨hst.sat.below,λid x hx hid=>?_,λid x c hx hid hc=>?_,λid x id' x' c hx hid hx' hid' hc hc'=>?_⟩
  ·by_cases e:id=b
   ·have hr:=hst.sat.rep b _ hb1 (Ω:b<nid+1)
    rw[e]at hx ⊢;simp only[blk,if_true,Option.some.injEq]at hx;rw[←hx];generalize r' b=ob at hr ⊢;cases hr with
    |cells _ _ c cs hc hl h=>
     refine .cells t _ c cs hc (by rw[xe5];exact hl) λj sv hj=>?_;rw[List.getElem?_set]at hj;split at hj
     ·rename_i eij
      split at hj
      ·injection hj with hj
       rw[←hj,←eij];have h0:=h i _ hi;generalize cs.getD i undef=v at h0 ⊢;cases h0;exact hrep.mono (λ_ _=>rfl) (λ_ h=>h) gd (Shapes.refl w)
      ·cases hj
     ·exact(h j sv hj).mono (λ_ _=>rfl) (λ_ h=>h) gd (Shapes.refl w)
   ·rw[show blk ((b,.cells t (l.set i (.vec nid 0 k))) ::(nid,.rows te k 0 row) :: hp) id=blk ((nid,.rows te k 0 row) :: hp) id by simp only[blk];rw[if_neg e]]at hx
    exact(hst.sat.rep id x hx hid).mono (λ_ _=>rfl) (λ_ h=>h) gd (Shapes.refl w) (λ_ _=>rfl)
  ·obtain⟨y,hy⟩:=dom id x hx;exact hst.sat.own id y c hy hid hc
  ·obtain⟨y,hy⟩:=dom id x hx
   obtain⟨y',hy'⟩:=dom id' x' hx';exact hst.sat.inj id y id' y' c hy hid hy' hid' hc hc'
 have hst2:Step base okc r (· < nid) hp w r' (· < nid+1) ((b,.cells t (l.set i (.vec nid 0 k))) ::(nid,.rows te k 0 row) :: hp) w:=hst.trans ⟨sat,λ_ _=>rfl,λ_ h=>h,gd,Shapes.refl w⟩;exact⟨r',(h'.step hst2 (λj x hx=>by
  obtain⟨y,hy⟩:=dom j x hx;simp only[blk]at hy;split at hy
  ·rename_i e;rw[e];exact xb5 _
  ·exact Nat.lt_succ_of_lt (h'.keys j y hy)) (xc4 _) (d:=none) (λt ht=>by cases ht) (.val undef)).nid (nid+1)⟩
section
variable{P:Program}
end
end Go.Sx
end
section
namespace Go.Tn
variable{L:Nat→List Nat}{start:Nat}
def Pth(L:Nat→List Nat):Nat→List Nat→Nat→Prop
 |a,[],b=>a=b
 |a,w :: l,b=>∃x,(L a)[w]? = some x∧Pth L x l b
theorem Pth.app:∀{l k:List Nat}{a b c:Nat},Pth L a l b→Pth L b k c→Pth L a (l++k) c
 |[],_,_,_,_,h,h2=>by cases h;exact h2
 |_ :: _,_,_,_,_,⟨x,h1,h2⟩,h3=>⟨x,h1,h2.app h3⟩
def cM(by':Nat→Nat):Nat→Nat
 |0=>0
 |n+1=>cM by' n+(if 0<by' n then 1 else 0)
theorem Y8{a b:Nat→Nat}:∀n,(∀x,x<n→a x=b x)→cM a n=cM b n
 |0,_=>rfl
 |n+1,h=>by simp only[cM];rw[Y8 n λx hx=>h x Ω,h n Ω]
theorem qbW{by':Nat→Nat}{x v:Nat}(h0:by' x=0)(hv:0<v):∀n,x<n→cM (setN by' x v) n=cM by' n+1
 |0,h=>by omega
 |n+1,h=>by
  simp only[cM];by_cases e:x=n
  ·subst e
   rw[Y8 (b:=by') x λy hy=>by unfold setN;rw[if_neg Ω]];have:setN by' x v x=v:=by unfold setN;rw[if_pos rfl]
   rw[this,h0,if_pos hv,if_neg Ω]
  ·rw[qbW h0 hv n Ω]
   have:setN by' x v n=by' n:=by unfold setN;rw[if_neg Ω]
   rw[this];omega
structure Mk(L:Nat→List Nat)(N start:Nat)(by' d:Nat→Nat):Prop where
 one:∀x,x≠start→0<by' x→x<N∧(L ((by' x - 1) / 5))[(by' x - 1) % 5]? = some x∧((by' x - 1) / 5=start∨(0<by' ((by' x - 1) / 5)∧d ((by' x - 1) / 5)<d x))
 up:∀x,x≠start→0<by' x→1≤d x∧d x≤cM by' N
theorem dm5(i w:Nat)(h:w<5):(1+i*5+w - 1) / 5=i∧(1+i*5+w - 1) % 5=w:=by omega
theorem Mk.push{N i w to:Nat}{by' d:Nat→Nat}(h:Mk L N start by' d)(hw:w<5)(hget:(L i)[w]? = some to)(hto:to<N)(hne:to≠start)(h0:by' to=0)(hr:i=start∨0<by' i):Mk L N start (setN by' to (1+i*5+w)) (setN d to (cM by' N+1)):=by
 obtain⟨m1,m2⟩:=dm5 i w hw;have hc:=qbW (v:=1+i*5+w) h0 Ω N hto;have hs:∀x,x≠to→setN by' to (1+i*5+w) x=by' x:=λx hx=>by unfold setN;rw[if_neg hx]
 have hd:∀x,x≠to→setN d to (cM by' N+1) x=d x:=λx hx=>by unfold setN;rw[if_neg hx]
 have hst:setN by' to (1+i*5+w) to=1+i*5+w:=by unfold setN;rw[if_pos rfl]
 have hdt:setN d to (cM by' N+1) to=cM by' N+1:=by unfold setN;rw[if_pos rfl]
 refine⟨λx hx hp=>?_,λx hx hp=>?_⟩
 ·by_cases e:x=to
  ·subst e
   rw[hst,m1,m2,hdt];refine⟨hto,hget,?_⟩;by_cases ei:i=start
   ·exact .inl ei
   ·right
    have hi:=hr.resolve_left ei;have:i≠x:=λq=>by rw[q,h0]at hi;cases hi
    rw[hs i this,hd i this];have:=h.up i ei hi;exact⟨hi,Ω⟩
  ·rw[hs x e]at hp ⊢
   obtain⟨g1,g2,g3⟩:=h.one x hx hp;refine⟨g1,g2,?_⟩;rcases g3 with g3|⟨g3,g4⟩
   ·exact .inl g3
   ·right
    have:(by' x - 1) / 5≠to:=λq=>by rw[q,h0]at g3;cases g3
    rw[hs _ this,hd _ this,hd x e];exact⟨g3,g4⟩
 ·rw[hc]
  by_cases e:x=to
  ·subst e;rw[hdt];exact⟨Ω,xa5 _⟩
  ·rw[hs x e]at hp
   rw[hd x e];have:=h.up x hx hp;omega
theorem wa{L:Nat→List Nat}{N start i:Nat}(hL:∀x,x∈L i→x<N)(h5:(L i).length≤5):∀(l:List Nat)(w:Nat)(by' d:Nat→Nat)(wait:List Nat),L i=(L i).take w++l→w+l.length=(L i).length→
  Mk L N start by' d→(i=start∨0<by' i)→by' start=0→
  ((ke start i l w by' wait).1=true∧∃b d' w',(ke start i l w by' wait).2.1=setN b start (1+i*5+w')∧w'<5∧(L i)[w']? = some start∧Mk L N start b d'∧(i=start∨0<b i)∧b start=0)∨
  ((ke start i l w by' wait).1=false∧(ke start i l w by' wait).2.1 start=0∧(∃d',Mk L N start (ke start i l w by' wait).2.1 d')∧(∀x,x∈l→x≠start∧0<(ke start i l w by' wait).2.1 x)∧(∀x,0<by' x→0<(ke start i l w by' wait).2.1 x)∧
    ∃new,(ke start i l w by' wait).2.2=wait++new∧(∀x,x∈new→x<N∧0<(ke start i l w by' wait).2.1 x)∧(∀x,0<(ke start i l w by' wait).2.1 x→0<by' x∨x∈new)∧cM (ke start i l w by' wait).2.1 N=cM by' N+new.length)
 |[],w,by',d,wait,_,_,hM,_,h0=>.inr ⟨rfl,h0,⟨d,hM⟩,λx hx=>(by cases hx),λx hx=>hx,[],by simp[ke],λx hx=>(by cases hx),λx hx=>.inl hx,rfl⟩
 |to :: l,w,by',d,wait,hl,hw,hM,hr,h0=>by
  have hlen:((L i).take w).length=w:=by rw[xd9];simp only[xe4]at hw;omega
  have hget:(L i)[w]? = some to:=by
   rw[hl,xd0 (by rw[hlen];exact xa5 _),hlen,xb8];rfl
  have hto:to<N:=hL to (List.mem_of_getElem? hget);have hw5:w<5:=by simp only[xe4]at hw;omega
  have hl':L i=(L i).take (w+1)++l:=by
   rw[List.take_add_one,hget,List.append_assoc];exact hl
  have hw':w+1+l.length=(L i).length:=by simp only[xe4]at hw;omega
  simp only[ke];by_cases hb:0<by' to
  ·rw[if_pos hb]
   rcases wa hL h5 l (w+1) by' d wait hl' hw' hM hr h0 with q|⟨q1,q2,q3,q4,q5,q6⟩
   ·exact .inl q
   ·refine .inr ⟨q1,q2,q3,λx hx=>?_,q5,q6⟩
    rcases List.mem_cons.1 hx with rfl|hx
    ·exact⟨λe2=>(by rw[e2,h0]at hb;cases hb),q5 _ hb⟩
    ·exact q4 x hx
  ·rw[if_neg hb]
   by_cases e:to=start
   ·rw[if_pos e]
    exact .inl ⟨rfl,by',d,w,by rw[e],hw5,by rw[hget,e],hM,hr,h0⟩
   ·rw[if_neg e]
    have hz:by' to=0:=by omega
    have hM2:=hM.push hw5 hget hto e hz hr;have hs:∀x,x≠to→setN by' to (1+i*5+w) x=by' x:=λx hx=>by unfold setN;rw[if_neg hx]
    have hst:setN by' to (1+i*5+w) to=1+i*5+w:=by unfold setN;rw[if_pos rfl]
    have hup:∀x,0<by' x→0<setN by' to (1+i*5+w) x:=λx hx=>by
     by_cases c:x=to
     ·rw[c,hst];omega
     ·rw[hs x c];exact hx
    rcases wa hL h5 l (w+1) (setN by' to (1+i*5+w)) _ (wait++[to]) hl' hw' hM2 (hr.imp id (hup i)) (by rw[hs start (Ne.symm e)];exact h0)with q|⟨q1,q2,q3,q4,q5,new,q6,q7,q8,q9⟩
    ·exact .inl q
    ·refine .inr ⟨q1,q2,q3,λx hx=>?_,λx hx=>q5 x (hup x hx),to :: new,by rw[q6,List.append_assoc];rfl,λx hx=>?_,λx hx=>?_,?_⟩
     ·rcases List.mem_cons.1 hx with rfl|hx
      ·exact⟨e,q5 _ (by rw[hst];omega)⟩
      ·exact q4 x hx
     ·rcases List.mem_cons.1 hx with rfl|hx
      ·exact⟨hto,q5 _ (by rw[hst];omega)⟩
      ·exact q7 x hx
     ·rcases q8 x hx with h|h
      ·by_cases c:x=to
       ·exact .inr (by rw[c];exact xd5)
       ·rw[hs x c]at h;exact .inl h
      ·exact .inr (List.mem_cons_of_mem _ h)
     ·rw[q9,qbW hz Ω N hto,xe4];omega
structure Bf(L:Nat→List Nat)(N start:Nat)(by':Nat→Nat)(wait:List Nat)(dn:Nat→Prop):Prop where
 mks:∃d,Mk L N start by' d
 st:by' start=0
 wt:∀x,x∈wait→x<N∧(x=start∨0<by' x)
 don:∀x,dn x→∀y,y∈L x→y≠start∧0<by' y
 all:∀x,x=start∨0<by' x→dn x∨x∈wait
theorem Bf.first{N:Nat}(hs:start<N):Bf L N start (λ_=>0) [start] (λ_=>False):=
 ⟨⟨λ_=>0,λx hx hp=>(by cases hp),λx hx hp=>(by cases hp)⟩,rfl,λx hx=>(by rw[xe0]at hx;subst hx;exact⟨hs,.inl rfl⟩),λx hx=>hx.elim,λx hx=>.inr (by
   rcases hx with rfl|hx
   ·exact List.mem_singleton.2 rfl
   ·cases hx)⟩
def Rnd(L:Nat→List Nat)(N:Nat)(best:List Nat):Prop:=best≠[]∧best.length≤N∧∃s,s<N∧Pth L s best s
end Go.Tn
end
section
namespace Go.Tn
open Go.Proofs
open Go.Sx
theorem TYQ:True∧qn Tryz.prog 32=some ⟨false,1,some [.slice none 0 0],.slice 2 1⟩:=⟨trivial,Ωa⟩
theorem qmK(m:Nat)(u:Nat→Int)(g:Nat)(caps:List SV)(ho:OldL caps)(b:Nat→Bool)(hm:m≤1000000)(hg:∀i,i<m→qc Tryz.prog g (.val (.int .i64 (u i)) :: caps) (B (b i))):qc Tryz.prog 304 [ints m u,.fn (.func g) [] caps] (I (g6 b 0 m)):=by
 refine qh Tryz.func304 rfl Ωa follows Ωa _ _ (by rw[Tryz.ntmps304];simp) Ω4 ?_
 conv=>arg 4;unfold ints
 (simp -dsimp only[↓RP,RQ,seval,TYQ,TYP,TY,Tryz.results304]);refine qo (λi=>i≤m∧g6 b 0 m=g6 b i (m - i)) (λi=>⟨[(0,.arr false false m 1 (λi _=>.val (.int .i64 (u i)))),(1,.fn (.func g) [] caps),(7,.val (.int .i64 m)),(8,.val (.int .i64 i))],[],0⟩) (λi=>m - i) 0 ⟨xb6 _,rfl⟩ (weak [] [] ?_ ?_ ?_) λi hi=>?_
 ·(simp -dsimp only[↓RP,RQ,seval,QV]);all_goals (try simp[wkL_refl caps ho,QV])
 iterate 2 focus(simp -dsimp only[↓RP,RQ,seval,QV])
 obtain⟨hi,he⟩:=hi;have e1:∀k,m - i=k+1→g6 b i (m - i)=if b i=true then(i:Int)else g6 b (i+1) k:=λk hk=>by rw[hk];rfl
 repeat' first|refine sD ?_ ?_<;>intro _|refine aA ?_|simp -dsimp only[↓RP,RQ,seval,QT,TYQ,TYP,QN]
 ·rename_i hlt
  have hlt:i<m:=by omega
  have e2:=e1 (m -(i+1)) Ω;refine qq (hg i hlt) (by(simp -dsimp only[↓RP,RQ,seval,QV,I]);all_goals (try simp[subL_refl caps ho,QV])) Ωw ?_;repeat' first|refine sD ?_ ?_<;>intro _|refine aA ?_|simp -dsimp only[↓RP,RQ,seval,QT,TYQ,TYP,QN]
  ·rename_i h
   refine vC ?_;rw[he,e2,if_pos h]
  ·rename_i h1
   refine⟨i+1,⟨Ω,?_⟩,Ω,weak [] [] ?_ ?_ ?_⟩
   ·rw[he,e2,if_neg (by simp[h1])]
   ·(simp -dsimp only[↓RP,RQ,seval,QV]);all_goals (try simp[wkL_refl caps ho,QV])
   iterate 2 focus(simp -dsimp only[↓RP,RQ,seval,QV])
 ·rename_i hlt
  refine vC ?_;have:m - i=0:=by omega
  rw[he,this];rfl
theorem qmL(m:Nat)(u:Nat→Int)(g:Nat)(caps:List SV)(ho:OldL caps)(b:Nat→Bool)(hm:m≤1000000)(hg:∀i,i<m→qc Tryz.prog g (.val (.int .i64 (u i)) :: caps) (B (b i))):qc Tryz.prog 202 [ints m u,.fn (.func g) [] caps] (B (decide (qbi b m))):=by
 refine qh Tryz.func202 rfl Ωa follows Ωa _ _ (by rw[Tryz.ntmps202];simp) Ω4 ?_;(simp -dsimp only[↓RP,RQ,seval,TY,QV,QN]);refine qq (qmK m u g caps ho b hm hg) (by(simp -dsimp only[↓RP,RQ,seval,QV,ints]);all_goals (try simp[subL_refl caps ho,QV])) (by(simp -dsimp only[↓RP,RQ,seval,I])) ?_;(repeat' (first|refine sD ?_ ?_<;>intro _|refine aA ?_|simp -dsimp only[↓RP,RQ,seval,I,B,QV,TYQ,TYP,TY,QN]));refine GE ?_;rw[Bool.eq_iff_iff];simp[←Yl]
end Go.Tn
end
section
namespace Go.Tn
open Go.Proofs
open Go.Sx
theorem qoL(g:Nat)(caps:List SV)(ho:OldL caps):qc Tryz.prog 280 [(.val (.slice none 0 0)),.fn (.func g) [] caps] (I (-1)):=by
 refine qh Tryz.func280 rfl Ωa follows Ωa _ _ (by rw[Tryz.ntmps280];simp) Ω4 ?_;have NB:True:=trivial;unfold I;repeat' first|refine sD ?_ ?_<;>intro _|refine aAb ?_|simp -dsimp only[↓RP,RQ,seval,TYQ,TYP,NB,QR,QT,QN]|exact Ωb|fail
 refine qo (λ(_:Unit)=>True) (λ_=>⟨[(0,(.val (.slice none 0 0))),(8,.val (.int .i64 0)),(7,.val (.int .i64 0))],[],10⟩) (λ_=>0) () trivial (qj Ω Ωc (SubHp.refl _)) λz hz=>?_;repeat' first|refine sD ?_ ?_<;>intro _|refine aAb ?_|simp -dsimp only[↓RP,RQ,seval,TYQ,TYP,NB,QR,QT,QN]|exact Ωb|fail
theorem qoM(g:Nat)(caps:List SV)(ho:OldL caps):qc Tryz.prog 167 [(.val (.slice none 0 0)),.fn (.func g) [] caps] (B false):=by
 refine qh Tryz.func167 rfl Ωa follows Ωa _ _ (by rw[Tryz.ntmps167];simp) Ω4 ?_;have NB:True:=trivial;have h1:=qoL g caps ho;unfold B;repeat' first|refine sD ?_ ?_<;>intro _|refine aAb ?_|simp -dsimp only[↓RP,RQ,seval,TYQ,TYP,NB,QR,QT,QN]|exact Ωb|fail
 refine qq (h1) (by(simp -dsimp only[↓RP,RQ,seval,QV,ints,I,B]);all_goals (try simp[QV,Go.Sx.Sub,Go.Sx.SubL,subL_refl caps ho])) (by(simp -dsimp only[↓RP,RQ,seval,QV,I,B]);all_goals (try simp[QV])) ?_;repeat' first|refine sD ?_ ?_<;>intro _|refine aAb ?_|simp -dsimp only[↓RP,RQ,seval,QT,TYQ,TYP,NB,QR,QN]|exact Ωb|fail
 all_goals (refine GE ?_;simp)
end Go.Tn
end
section
namespace Go.Tn
open Go.Proofs
open Go.Sx
end Go.Tn
end
section
namespace Go.Tn
open Go.Proofs
open Go.Sx
def snB(c:Nat→Nat)(k:Nat)(w:Nat):Nat→Bool
 |0=>false
 |i+1=>decide (c (i % k)=w) || snB c k w i
theorem qmq(c:Nat→Nat)(k w i:Nat):snB c k w (i+1)=(decide (c (i % k)=w) || snB c k w i):=rfl
structure Wk4(m:Nat)(u:Nat→Int)(k:Nat)(c:Nat→Nat)(S:Nat→Nat→Int):Prop where
 k1:1≤k
 k2:k≤1000
 win:∀i,i<k→c i<m
 fit:∀t w,w<m→0≤S t w∧S t w+1≤u w
 step:∀t w,w<m→S (t+1) w=if c (t % k)=w then 0 else S t w+1
 back:∀w,w<m→S k w=S 0 w
theorem Wk4.seen{m:Nat}{u:Nat→Int}{k:Nat}{c:Nat→Nat}{S:Nat→Nat→Int}(h:Wk4 m u k c S){w:Nat}(hw:w<m):snB c k w (2*k)=true:=by
 cases hs:snB c k w (2*k)with
 |true=>rfl
 |false=>
  exfalso
  have key:∀i,i≤2*k→snB c k w i=false:=by
   have down:∀d i,i+d=2*k→snB c k w i=false:=λd=>by
    induction d with
    |zero=>intro i hi;rw[show i=2*k by omega];exact hs
    |succ d ih=>
     intro i hi;have h1:=ih (i+1) Ω;rw[qmq,Bool.or_eq_false_iff]at h1;exact h1.2
   exact λi hi=>down (2*k - i) i Ω
  have up:∀i,i≤k→S i w=S 0 w+i:=λi=>by
   induction i with
   |zero=>intro _;omega
   |succ i ih=>
    intro hi;have h1:=key (i+1) Ω;rw[qmq,Bool.or_eq_false_iff]at h1;rw[h.step i w hw,if_neg (of_decide_eq_false h1.1),ih Ω];omega
  have h1:=up k (xa5 _);have h2:=h.back w hw;have h3:=h.k1;omega
end Go.Tn
end
section
namespace Go.Tn
open Go.Sx
open Go.He (lst)
variable{u:Nat→Int}{m n:Nat}
def dgF(u:Nat→Int):Nat→Int→Nat→Int
 |0,_=>λ_=>0
 |k+1,n=>upN (dgF u k (n /(u k+1))) k (n %(u k+1))
theorem Vd{u s t:Nat→Int}:∀k,(∀i,i<k→s i=t i)→ixF u s k=ixF u t k
 |0,_=>rfl
 |k+1,h=>by rw[Zn,Zn,Vd k λi hi=>h i Ω,h k Ω]
theorem qjl{u:Nat→Int}:∀k,(∀i,i<k→1≤u i)→∀n,0≤n→n<prd u k→ixF u (dgF u k n) k=n∧∀i,i<k→0≤dgF u k n i∧dgF u k n i≤u i
 |0,_,n,h0,h1=>⟨by simp only[prd]at h1;simp only[ixF];omega,λi hi=>by omega⟩
 |k+1,hu,n,h0,h1=>by
  have huk:=hu k Ω;have hq0:0≤n /(u k+1):=Int.ediv_nonneg h0 Ω;have hq1:n /(u k+1)<prd u k:=by
   refine Int.ediv_lt_of_lt_mul Ω ?_;simp only[prd]at h1;exact h1
  have hr0:=Int.emod_nonneg n (Ω:u k+1≠0);have hr1:=Int.emod_lt_of_pos n (Ω:0<u k+1);obtain⟨g1,g2⟩:=qjl k (λi hi=>hu i Ω) (n /(u k+1)) hq0 hq1;have ha:∀i,i<k→dgF u (k+1) n i=dgF u k (n /(u k+1)) i:=λi hi=>by
   simp only[dgF,upN];rw[if_neg Ω]
  have hb:dgF u (k+1) n k=n %(u k+1):=by simp only[dgF,upN];rw[if_pos trivial]
  refine⟨?_,λi hi=>?_⟩
  ·rw[Zn,Vd k ha,g1,hb]
   have:=Int.mul_ediv_add_emod n (u k+1);rw[Int.mul_comm]at this;exact this
  ·by_cases e:i=k
   ·subst e;rw[hb];omega
   ·rw[ha i Ω];exact g2 i Ω
theorem qmr{u s:Nat→Int}:∀k,(∀i,i<k→0≤s i∧s i≤u i)→∀i,i<k→dgF u k (ixF u s k) i=s i
 |0,_,i,hi=>by omega
 |k+1,h,i,hi=>by
  have hk:=h k Ω;rw[Zn];have e1:(ixF u s k*(u k+1)+s k) /(u k+1)=ixF u s k:=by
   rw[Int.add_comm,Int.add_mul_ediv_right _ _ Ω,Int.ediv_eq_zero_of_lt hk.1 Ω];omega
  have e2:(ixF u s k*(u k+1)+s k) %(u k+1)=s k:=by
   rw[Int.add_comm,Int.add_mul_emod_self_right,Int.emod_eq_of_lt hk.1 Ω]
  simp only[dgF,upN];by_cases e:i=k
  ·subst e;rw[if_pos rfl,e2]
  ·rw[if_neg e,e1];exact qmr k (λi hi=>h i Ω) i Ω
def qbX(u:Nat→Int)(m:Nat)(s:Nat→Int):Prop:=∀w,w<m→s w+1≤u w
instance(u:Nat→Int)(m:Nat)(s:Nat→Int):Decidable (qbX u m s):=by unfold qbX;infer_instance
def nxL(u:Nat→Int)(m n:Nat):List Nat:=if qbX u m (dgF u m n)then(List.range m).map (λv=>(ixF u (upN (λw=>dgF u m n w+1) v 0) m).toNat)else []
theorem qlq{w x:Nat}(h:(nxL u m n)[w]? = some x):qbX u m (dgF u m n)∧w<m∧x=(ixF u (upN (λw=>dgF u m n w+1) w 0) m).toNat:=by
 unfold nxL at h;split at h
 ·rename_i hc
  rw[List.getElem?_map]at h;by_cases hw:w<m
  ·rw[xe3 hw]at h
   simp only[xg1,Option.some.injEq]at h;exact⟨hc,hw,h.symm⟩
  ·rw[List.getElem?_eq_none (by rw[List.length_range];omega)]at h
   cases h
 ·cases h
theorem qnq{v:Nat}(hu:∀i,i<m→1≤u i)(hn:(n:Int)<prd u m)(hc:qbX u m (dgF u m n)):∀i,i<m→0≤upN (λw=>dgF u m n w+1) v 0 i∧upN (λw=>dgF u m n w+1) v 0 i≤u i:=λi hi=>by
 have h1:=(qjl m hu n Ω hn).2 i hi;have h2:=hc i hi;have h3:=hu i hi;unfold upN;dsimp only;split<;>omega
theorem qms{w x:Nat}(hu:∀i,i<m→1≤u i)(hn:(n:Int)<prd u m)(h:(nxL u m n)[w]? = some x):w<m∧(x:Int)<prd u m∧qbX u m (dgF u m n)∧∀i,i<m→dgF u m x i=if w=i then 0 else dgF u m n i+1:=by
 obtain⟨h1,h2,h3⟩:=qlq h;have hf:=qnq (v:=w) hu hn h1;have hb:=QA hf (xa5 m);have hx:(x:Int)=ixF u (upN (λw=>dgF u m n w+1) w 0) m:=by rw[h3];omega
 refine⟨h2,Ω,h1,λi hi=>?_⟩;rw[hx,qmr m hf i hi];unfold upN;by_cases e:i=w
 ·rw[if_pos e,if_pos e.symm]
 ·rw[if_neg e,if_neg (Ne.symm e)]
theorem Pth.seq{L:Nat→List Nat}:∀{l:List Nat}{a b:Nat},Pth L a l b→∃x:Nat→Nat,x 0=a∧x l.length=b∧∀t,t<l.length→(L (x t))[l.getD t 0]? = some (x (t+1))
 |[],a,b,h=>⟨λ_=>a,rfl,h,λt ht=>by cases ht⟩
 |w :: l,a,b,⟨y,h1,h2⟩=>by
  obtain⟨x,g1,g2,g3⟩:=h2.seq;refine⟨λt=>match t with|0=>a|t+1=>x t,rfl,g2,λt ht=>?_⟩;cases t with
  |zero=>show(L a)[w]? = some (x 0);rw[g1];exact h1
  |succ t=>exact g3 t (by simpa using ht)
theorem Y9{t k:Nat}(hk:1≤k):(t+1) % k=if t % k+1=k then 0 else t % k+1:=by
 have h1:t % k<k:=Nat.mod_lt _ Ω;have h2:=Nat.div_add_mod t k;split
 ·rename_i e
  have:t+1=k*(t / k+1):=by rw[Nat.mul_add,Nat.mul_one];omega
  rw[this,Nat.mul_mod_right]
 ·rename_i e
  have:t+1=(t % k+1)+k*(t / k):=by omega
  rw[this,Nat.add_mul_mod_self_left,Nat.mod_eq_of_lt Ω]
theorem Rnd.walk{N:Nat}{best:List Nat}(hu:∀i,i<m→1≤u i∧u i≤12)(hN:prd u m=(N:Nat))(hN2:N≤1000)(h:Rnd (nxL u m) N best):∃S,Wk4 m u best.length (λt=>best.getD t 0) S:=by
 obtain⟨h1,h2,s,hs,hp⟩:=h;obtain⟨x,g1,g2,g3⟩:=hp.seq;have hu1:∀i,i<m→1≤u i:=λi hi=>(hu i hi).1;have hk:1≤best.length:=List.length_pos_iff.2 h1;have hx:∀t,t≤best.length→((x t:Nat):Int)<prd u m:=λt=>by
  induction t with
  |zero=>intro _;rw[g1];omega
  |succ t ih=>exact λht=>(qms hu1 (ih Ω) (g3 t Ω)).2.1
 have hper:dgF u m (x best.length)=dgF u m (x 0):=by rw[g1,g2]
 have hst:∀t,t<best.length→best.getD t 0<m∧qbX u m (dgF u m (x t))∧∀i,i<m→dgF u m (x (t+1)) i=if best.getD t 0=i then 0 else dgF u m (x t) i+1:=λt ht=>by
  obtain⟨a,_,b,c⟩:=qms hu1 (hx t Ω) (g3 t ht);exact⟨a,b,c⟩
 refine⟨λt w=>dgF u m (x (t % best.length)) w,hk,Ω,λi hi=>(hst i hi).1,λt w hw=>?_,λt w hw=>?_,λw hw=>?_⟩
 ·have ht:t % best.length<best.length:=Nat.mod_lt _ Ω
  have q1:=((qjl m hu1 (x (t % best.length)) Ω (hx _ Ω)).2 w hw).1;have q2:=(hst _ ht).2.1 w hw;exact⟨q1,q2⟩
 ·have ht:t % best.length<best.length:=Nat.mod_lt _ Ω
  have q:=(hst _ ht).2.2 w hw;rw[←q];rw[Y9 hk];by_cases e:t % best.length+1=best.length
  ·rw[if_pos e,e,hper]
  ·rw[if_neg e]
 ·rw[Nat.mod_self,Nat.zero_mod]
end Go.Tn
end
section
namespace Go.Tn
open Go.Proofs
open Go.Sx
end Go.Tn
end
section
namespace Go.Tn
def hF(len:Nat→Nat)(to:Nat→Nat→Nat):Nat→Nat→Int
 |0,_=>-1
 |k+1,i=>if ∀j,j<len i→0≤hF len to k (to i j)then mxF (hF len to k) (to i) (len i)else -1
theorem qdR(F:Nat→Int)(to:Nat→Nat):∀m,0≤mxF F to m
 |0=>Int.le_refl _
 |m+1=>by have:=qdR F to m;rw[Zm];omega
theorem Wn{F:Nat→Int}{to:Nat→Nat}{X:Int}(hX:0≤X):∀m,(∀j,j<m→F (to j)<X)→mxF F to m≤X
 |0,_=>hX
 |m+1,h=>by
  have h1:=Wn hX m λj hj=>h j Ω;have h2:=h m Ω;rw[Zm];omega
end Go.Tn
end
section
namespace Go.Tn
open Go.Proofs
open Go.Sx
end Go.Tn
end
section
namespace Go.Tn
open Go.Proofs
open Go.RowKit
open Go.Sx
end Go.Tn
end
section
namespace Go.Tn
open Go.Proofs
open Go.Sx
theorem SubHp.ent{hp l:List (Nat×Blk)}{k:Nat}{x:Blk}(h:blk hp k=some x)(hl:SubHp hp l):SubHp hp ((k,x) :: l):=λq v hv=>by
 simp only[blk]at hv;split at hv
 ·rename_i e;cases hv;rw[e];exact h
 ·exact hl q v hv
end Go.Tn
end
section
namespace Go.Tn
open Go.Proofs
open Go.Sx Go.RowKit
variable{fr:List (Nat×SV)}{hp:List (Nat×Blk)}{dom:Value→Bool}{stamp:Value→Nat}{p:Value→SV→Bool}{ks:List Value}{k:Value}
theorem TYs:True∧qn Tryz.prog 309=some ⟨false,1,some [.map none],.map 315 3⟩∧qz Tryz.prog 309=some ⟨true,[.i .i64,.b],.val (.int .i64 0)⟩∧qn Tryz.prog 313=some ⟨true,23,some [.int .i64 0,.slice none 0 0,.int .i64 0,.int .i64 0,.int .i64 0,.int .i64 0,.int .i64 0,.int .i64 0,.int .i64 0,.int .i64 0,.int .i64 0,.int .i64 0,.int .i64 0,.int .i64 0,.int .i64 0,.int .i64 0,.int .i64 0,.int .i64 0,.int .i64 0,.int .i64 0,.int .i64 0,.int .i64 0,.map none],.struct [(0,2,some true),(2,10,some true),(12,10,some true),(22,1,some false)]⟩∧qw Tryz.prog 313=some [(0,2),(2,10),(12,10),(22,1)]∧qn Tryz.prog 315=some ⟨true,2,some [.int .i64 0,.bool false],.struct [(0,1,some false),(1,1,some false)]⟩∧qw Tryz.prog 315=some [(0,1),(1,1)]∧zk Tryz.prog 315=some [.i .i64,.b]∧qn Tryz.prog 175=some ⟨false,1,some [.pointer none],.other⟩:=⟨trivial,Ωa,Ωa,Ωa,Ωa,Ωa,Ωa,Ωa,Ωa⟩
section
variable{P:Program}{O:Ctx}
theorem qbY{op:Op}{st:St}{K:St→SV→Prop}(h:Under st.hp st.nid→OpVC P O op st K):OpVC P O op st K:=λbase okc ns r outs a w o ho hi=>h hi.keys base okc ns r outs a w o ho hi
theorem qdS{J:Prop}{j:Tag J}{d:Option Tmp}{id:Nat}{K:St→Prop}{g:Tag K}{t:TypeId}{x:Operand}{o:Tag (Op.range t x)}{mid:Nat}{fit:Value→Bool}{get:Value→SV}{mi:jV}(hJ:J)(hx:env (Go.Sx.look fr) x=.mp mid)(ht:qz P t=some mi)(hb:blk hp mid=some (.map fit dom get))
  (h:Under hp id→∀(stamp:Value→Nat)(clk:Nat),(∀k,dom k=true→stamp k<clk)→(∀k k',dom k=true→dom k'=true→stamp k=stamp k'→k=k')→
   K (St.put ⟨fr,(id,.iter mid clk [] clk) :: setBlk hp mid (.mapS fit dom get stamp clk),id+1⟩ d (.ptr id 0))):qeJ P O j o d id fr hp K g:=⟨hJ,qbY λhU=>JP hx ht hb (h hU)⟩
theorem G7{ρ:Q}:∀{l:List Nat}{fr:Tr 3 SV}{g:Tr 3 SV→R},qdO l fr g=.ok ρ→∃fr',(∀t,qx fr' t=if t∈l then .top else qx fr t)∧g fr'=.ok ρ
 |[],fr,g,h=>⟨fr,λt=>by simp,h⟩
 |a :: l,fr,g,h=>by
  have h:qY (some .top) 22 fr a (λfr=>qdO l fr g)=.ok ρ:=h;obtain⟨f1,h1,h⟩:=qB _ _ _ _ h;obtain⟨f2,h2,h⟩:=G7 (l:=l) h;refine⟨f2,λt=>?_,h⟩;rw[h2];have e:qx f1 t=if t=a then .top else qx fr t:=by
   unfold qx;rw[h1 t];by_cases c:t=a
   ·rw[if_pos c,if_pos c]
   ·rw[if_neg c,if_neg c]
  by_cases c:t∈l
  ·rw[if_pos c,if_pos (List.mem_cons_of_mem _ c)]
  ·rw[if_neg c,e]
   by_cases c2:t=a
   ·rw[if_pos c2,if_pos (by rw[c2];exact xd5)]
   ·rw[if_neg c2,if_neg (λh=>(List.mem_cons.1 h).elim c2 c)]
def Jx(l:List Nat)(F:List (Nat×SV)):List (Nat×SV):=l.map (λt=>(t,SV.top))++F
theorem qO{F:List (Nat×SV)}{t:Nat}:∀{l:List Nat},Go.Sx.look (Jx l F) t=if t∈l then .top else Go.Sx.look F t
 |[]=>by simp[Jx]
 |a :: l=>by
  show Go.Sx.look ((a,SV.top) :: Jx l F) t=_;have ih:=qO (F:=F) (t:=t) (l:=l);simp only[Go.Sx.look];by_cases c:t=a
  ·rw[if_pos c,if_pos (by rw[c];exact xd5)]
  ·rw[if_neg c,ih]
   by_cases d:t∈l
   ·rw[if_pos d,if_pos (List.mem_cons_of_mem _ d)]
   ·rw[if_neg d,if_neg (λh=>(List.mem_cons.1 h).elim c d)]
theorem qjm{r r2:Nat→Option Nat}{N N2:Nat→Prop}{G G2:Bool→Nat→Prop}{w w2:World}{b:Value}{v:Value}(h:Rep r N G w (.tup [.val b]) v):Rep r2 N2 G2 w2 (.tup [.val b]) v:=by
 cases h with
 |tup _ cs hl hr=>
  refine .tup _ cs hl λi sv hi=>?_;have h:=hr i sv hi;rcases i with _|i
  ·simp only[xd6,Option.some.injEq]at hi
   subst hi;generalize cs.getD 0 undef=x at h;cases h;exact .val _
  ·simp at hi
theorem qbZ{P:Program}{O:Ctx}{J:Prop}{j:Tag J}{d:Option Tmp}{id:Nat}{K:St→Prop}{g:Tag K}{x:Operand}{o:Tag (Op.next x false)}{iid mid clk:Nat}{seen:List Nat}{fit:Value→Bool}{get:Value→SV}(hJ:J)(hx:env (Go.Sx.look fr) x=.ptr iid 0)(hbi:blk hp iid=some (.iter mid clk seen clk))(hbm:blk hp mid=some (.mapS fit dom get stamp clk))
  (h1:∀k,fit k=true→dom k=true→stamp k∉seen→K (St.put ⟨fr,setBlk hp iid (.iter mid clk (seen++[stamp k]) clk),id⟩ d (.tup [.val (.bool true),.val k,get k])))
  (h2:(∀k,dom k=true→stamp k∈seen)→∃st2,Weak O ⟨fr,hp,id⟩ st2∧id≤st2.nid∧K (St.put st2 d (.tup [.val (.bool false)]))):qeJ P O j o d id fr hp K g:=by
 refine⟨hJ,λbase okc ns r outs a w oo ho hi=>?_⟩;obtain⟨v,w',e1,st',r',res,e2,e3,e4,e5⟩:=W5 (P:=P) (O:=O) (st:=⟨fr,hp,id⟩) (K:=λst' res=>(res≠.tup [.val (.bool false)]∧K (st'.put d res))∨(res=.tup [.val (.bool false)]∧∃st2,Weak O st' st2∧st'.nid≤st2.nid∧K (st2.put d (.tup [.val (.bool false)])))) hx hbi hbm (λk a b c=>.inl ⟨Ωi,h1 k a b c⟩) (λhh=>.inr ⟨rfl,h2 hh⟩) base okc ns r outs a w oo ho hi;rcases e2 with⟨_,e2⟩|⟨rfl,st2,hw,hn,hk⟩
 ·exact⟨v,w',e1,st',r',res,e2,e3,e4,e5⟩
 ·obtain⟨r2,hi2⟩:=hw _ _ _ _ _ _ ⟨r',e4⟩
  exact⟨v,w',e1,st2,r2,_,hk,xc1 e3 hn,hi2,qjm e5⟩
end
theorem yn{O:Ctx}{fr':List (Nat×SV)}{hp':List (Nat×Blk)}{nid nid':Nat}(hn:nid≤nid')(hf:∀t,Go.Sx.look fr' t=.top∨Go.Sx.look fr' t=Go.Sx.look fr t)(hh:SubHp hp hp'):Weak O ⟨fr,hp,nid⟩ ⟨fr',hp',nid'⟩:=by
 refine Weak.trans (Qy O ⟨fr,hp,nid⟩ nid' hn) ?_;rintro base okc ns outs a w ⟨r,h⟩;have hs:=h.sat.sub hh;have h2:InvR O base okc ns nid' r outs (St.put {({ fr:=fr,hp:=hp,nid:=nid' }:St)with hp:=hp' } none undefSV) (a.put none undef) w:=h.step hs (λid x hx=>h.keys id x (hh id x hx)) (xa5 _) (d:=none) (λt ht=>by cases ht) (.val undef);refine⟨r,h2.sat,h2.keys,λi=>?_,h2.size,h2.lo,h2.out,h2.rfix,h2.defers⟩;rcases hf i with e|e
 ·show Rep _ _ _ _ (Go.Sx.look fr' i) _
  rw[e];exact .top _
 ·show Rep _ _ _ _ (Go.Sx.look fr' i) _
  rw[e];exact h2.fr i
theorem wv{p:Value→SV→Bool}{v:Value}:∀{es:List (Value×Option SV)},kw (Y6 p es) v=(kw es v).bind λs=>if p v s=true then some s else none
 |[]=>rfl
 |(k,some s) :: es=>by
  show kw ((k,Bool.rec none (some s) (p k s)) :: Y6 p es) v=_;rw[zK,zK];by_cases c:eqK k v=true
  ·rw[if_pos c,if_pos c,←zq c]
   show(Bool.rec none (some s) (p k s):Option SV)=if p k s=true then some s else none
   cases p k s<;>rfl
  ·rw[if_neg c,if_neg c];exact wv
 |(k,none) :: es=>by
  show kw ((k,none) :: Y6 p es) v=_;rw[zK,zK];by_cases c:eqK k v=true
  ·rw[if_pos c,if_pos c];rfl
  ·rw[if_neg c,if_neg c];exact wv
def dAt(dom:Value→Bool)(get:Value→SV)(p:Value→SV→Bool)(ks:List Value):Value→Bool:=λv=>dom v&&!(ks.any λk=>eqK k v&&!p k (get k))
theorem Wo(dom:Value→Bool)(get:Value→SV)(p:Value→SV→Bool):dAt dom get p []=dom:=by funext v;simp[dAt]
theorem Wp{get:Value→SV}(h:p k (get k)=true):dAt dom get p (ks++[k])=dAt dom get p ks:=by
 funext v;simp[dAt,List.any_append,h]
theorem qca{get:Value→SV}(h:p k (get k)=false):dAt dom get p (ks++[k])=ki (dAt dom get p ks) k:=by
 funext v;simp only[dAt,List.any_append,List.any_cons,List.any_nil,h,ki,Bool.not_false,xf1,xf3,Bool.not_or];cases dom v<;>cases eqK k v<;>simp
theorem Wq{get:Value→SV}{v:Value}(h:dAt dom get p ks v=true):dom v=true:=by
 unfold dAt at h;rw[xe6]at h;exact h.1
theorem Wr{get:Value→SV}(hin:∀v,v∈ks→dom v=true∧eqK v v=true)(hinj:∀k k',dom k=true→dom k'=true→stamp k=stamp k'→k=k')(hall:∀v,dAt dom get p ks v=true→stamp v∈ks.map stamp)(v:Value):(dom v&&p v (get v))=dAt dom get p ks v:=by
 cases hd:dom v with
 |false=>unfold dAt;rw[hd];rfl
 |true=>
  cases hp:p v (get v)with
  |true=>
   unfold dAt;rw[hd,xf0,xf0]
   symm
   rw[Bool.not_eq_true',List.any_eq_false];intro k hk hc;rw[xe6]at hc;rw[zq hc.1,hp]at hc;exact absurd hc.2 Ωd
  |false=>
   cases hq:dAt dom get p ks v with
   |false=>rfl
   |true=>
    exfalso
    obtain⟨u,hu,e⟩:=List.mem_map.1 (hall v hq);have e:=hinj u v (hin u hu).1 hd e;subst e;unfold dAt at hq;rw[xe6,Bool.not_eq_true',List.any_eq_false]at hq;exact hq.2 u hu (by rw[(hin u hu).2,hp];rfl)
theorem qaa{v:Value}:∀{es:List (Value×Option SV)},(kw es v).isSome=true→∃q,q∈es.map Prod.fst∧eqK q v=true
 |[],h=>by cases h
 |(k,o) :: es,h=>by
  rw[zK]at h;by_cases c:eqK k v=true
  ·exact⟨k,xd5,c⟩
  ·rw[if_neg c]at h
   obtain⟨q,h1,h2⟩:=qaa h;exact⟨q,List.mem_cons_of_mem _ h1,h2⟩
theorem Ws{es:List (Value×Option SV)}(hn:ks.Nodup)(h:∀v,v∈ks→(kw es v).isSome=true):ks.length≤es.length:=by
 have hlt:∀v,v∈ks→(es.map Prod.fst).findIdx (λq=>eqK q v)<(es.map Prod.fst).length:=λv hv=>by
  obtain⟨q,h1,h2⟩:=qaa (h v hv);exact List.findIdx_lt_length_of_exists ⟨q,h1,h2⟩
 have:=vK es.length (ks.map λv=>(es.map Prod.fst).findIdx (λq=>eqK q v)) (yO hn λa b ha hb e=>by
  have h1:=List.findIdx_getElem (w:=hlt a ha);have h2:=List.findIdx_getElem (w:=hlt b hb);have h1:=zq h1;have h2:=zq h2;rw[←h1,←h2]
  congr 1) λx hx=>by
  obtain⟨v,hv,rfl⟩:=List.mem_map.1 hx;have:=hlt v hv
  rwa [xe1]at this
 rwa [xe1]at this
theorem qoN:qz Tryz.prog 309=some ⟨true,[.i .i64,.b],.val (.int .i64 0)⟩:=by kernel_rfl
theorem qlr(h:qk true [.i .i64,.b] k=true):∃r b,k=.agg #[.int .i64 r,.bool b]:=by
 cases k<;>simp only[qk,xe7]at h
 rename_i a;obtain⟨l⟩:=a;have h:qQ [.i .i64,.b] l=true:=h;rcases l with _|⟨x,_|⟨y,_|⟨z,l⟩⟩⟩<;>simp only[qQ,xe6,xe7,and_false]at h
 obtain⟨h1,h2,_⟩:=h;cases x<;>simp only[lfOk,xe7,decide_eq_true_eq]at h1
 cases y<;>simp only[lfOk,xe7]at h2
 rename_i k r b;exact⟨r,b,by rw[h1]⟩
theorem qls:qdM Tryz.prog [(11,[(2,2)]),(12,[(2,2)])] qnn qje:=by
 intro ρ LM fs lo st fr hp nid f K hs h hk;obtain⟨F,H,n⟩:=st;obtain⟨hF,hH,hn⟩:=hs
 replace hF:FRel fr F:=hF
 replace hH:HRel LM hp H:=hH
 replace hn:n=nid:=hn
 unfold qje at h;split at h
 rotate_left
 ·cases h
 rename_i b lay e1 e9;split at h
 rotate_left
 ·cases h
 rename_i d hb;split at h
 rotate_left
 ·cases h
 rename_i a0 a1 a2 a3 a4 a5 a6 a7 a8 a9 a10 a11 a12 a13 a14 a15 a16 a17 a18 a19 a20 a21 mid hd;split at h
 rotate_left
 ·cases h
 rename_i es hm;obtain⟨fr0,hfr0,h⟩:=G7 h;obtain⟨fr1,hfr1,h⟩:=qB _ _ _ _ h;obtain⟨fr',hfr',h⟩:=qB _ _ _ _ h;obtain⟨hp1,p1,h⟩:=qB _ _ _ _ h;rw[qg]at h;have f1:Go.Sx.look F 1=.ptr b 0:=(hF 1).trans e1;have f9:Go.Sx.look F 9=.val (.bool lay):=(hF 9).trans e9;have b1:blk H b=some (.cells 175 [.ptr d 0]):=hH.cells hb;have b2:=hH.cells hd;obtain⟨dom,get,b3,hdg⟩:=hH.map hm;have NB:True:=trivial
 conv=>arg 3;whnf
 repeat' first|refine sD ?_ ?_<;>intro _|refine aAc ?_|simp -dsimp only[↓RP,RQ,seval,↓RY,TYs,f1,f9,b1,b2,b3,NB,QR,QT,QN]|exact Ωb|fail
 obtain⟨iid,hiid⟩:∃iid,iid=n+4:=⟨_,rfl⟩;rw[←hiid];refine qdS (mid:=mid) (fit:=qk true [.i .i64,.b]) (dom:=dom) (get:=get) Ωq Ωq qoN b3 λhU stamp clk hst hinj=>?_;have u1:=hU b _ b1;have u2:=hU d _ b2;have u3:=hU mid _ b3;have n1:b≠mid:=λe=>by rw[e,b3]at b1;cases b1
 have n2:d≠mid:=λe=>by rw[e,b3]at b2;cases b2
 have NB:=(⟨nmA u1,nmA u2,nmA u3,nmE n1,nmE n2⟩:_∧_∧_∧_∧_);repeat' first|refine sD ?_ ?_<;>intro _|refine aAc ?_|simp -dsimp only[↓RP,RQ,seval,↓RY,TYs,f1,f9,b1,b2,b3,NB,QR,QT,QN]|exact Ωb|fail
 refine qo (λ(z:List Value)=>z.Nodup∧(∀v,v∈z→dom v=true∧eqK v v=true)) (λz=>⟨(77,.ptr iid 0) :: Jx va F,(iid,.iter mid clk (z.map stamp) clk) ::(mid,.mapS (qk true [.i .i64,.b]) (dAt dom get (js lay) z) get stamp clk) :: dropBlk H mid,iid+6+20*z.length⟩) (λz=>es.length - z.length) [] ⟨List.nodup_nil,λv hv=>Ωt⟩ (yn (xa5 _) (λt=>by
  by_cases e:t=77
  ·subst e;right;simp[Go.Sx.look]
  ·by_cases c:t∈va
   ·left;simp[Go.Sx.look,qO,e,c]
   ·right
    rw[va]at c;simp only[List.mem_cons,List.not_mem_nil,or_false,not_or]at c;simp[Go.Sx.look,qO,va,c]) ?hA) λks hz=>?_
 case hA=>
  rw[Wo];(repeat' (refine SubHp.ent (by simp only[blk,qp,b3,NB,List.map_nil,xg1,if_false,if_true]) ?_));intro q v hv;rw[qv]at hv;by_cases c:q=mid
  ·rw[if_pos c]at hv;cases hv
  ·rw[if_neg c]at hv
   have hq:=hU q v hv;simp only[blk,qp];rw[if_neg Ω,if_neg c];exact hv
 obtain⟨z1,z2⟩:=hz;have hD:∀q v,blk (dropBlk H mid) q=some v→q<iid∧q≠mid:=λq v hv=>by
  rw[qv]at hv;by_cases c:q=mid
  ·rw[if_pos c]at hv;cases hv
  ·rw[if_neg c]at hv;exact⟨hU q v hv,c⟩
 have hc1:blk (dropBlk H mid) b=some (.cells 175 [.ptr d 0]):=by rw[qv,if_neg n1];exact b1
 have hc2:blk (dropBlk H mid) d=some (.cells 313 [a0,a1,a2,a3,a4,a5,a6,a7,a8,a9,a10,a11,a12,a13,a14,a15,a16,a17,a18,a19,a20,a21,.mp mid]):=by rw[qv,if_neg n2];exact b2
 have g1:Go.Sx.look (Jx va F) 1=.ptr b 0:=by rw[qO,if_neg Ωd];exact f1
 have g9:Go.Sx.look (Jx va F) 9=.val (.bool lay):=by rw[qO,if_neg Ωd];exact f9
 have hkl:=Ws (es:=es) z1 (λv hv=>by rw[←(hdg v).1];exact(z2 v hv).1);have NB1:=NB;clear NB;obtain⟨nn,hnn⟩:∃nn,nn=iid+6+20*ks.length:=⟨_,rfl⟩;rw[←hnn];have z3:iid<nn:=by omega
 have NB:=(⟨nmA (Ω:b<nn),nmA (Ω:d<nn),nmA (Ω:mid<nn),nmA z3,NB1⟩:_∧_∧_∧_∧_);repeat' first|refine sD ?_ ?_<;>intro _|refine aAc ?_|simp -dsimp only[↓RP,RQ,seval,hc1,hc2,g1,g9,↓RY,TYs,f1,f9,b1,b2,b3,NB,QR,QT,QN]|exact Ωb|fail
 refine qbZ (iid:=iid) (mid:=mid) (clk:=clk) (seen:=ks.map stamp) (fit:=qk true [.i .i64,.b]) (dom:=dAt dom get (js lay) ks) (get:=get) (stamp:=stamp) Ωq Ωq Ωs Ωs (λk hk1 hk2 hk3=>?_) (λhall=>?_)
 ·obtain⟨r,bb,rfl⟩:=qlr hk1
  have hkd:=Wq hk2;have hkn:(.agg #[.int .i64 r,.bool bb]:Value)∉ks:=λhm=>hk3 (List.mem_map.2 ⟨_,hm,rfl⟩);have w1:=g8 z1 hkn;have w2:∀v,v∈ks++[(.agg #[.int .i64 r,.bool bb]:Value)]→dom v=true∧eqK v v=true:=λv hv=>by
   rcases List.mem_append.1 hv with h|h
   ·exact z2 v h
   ·rw[List.mem_singleton.1 h];exact⟨hkd,by simp[eqK,jU,wH]⟩
  have w3:es.length -(ks++[(.agg #[.int .i64 r,.bool bb]:Value)]).length<es.length - ks.length:=by
   have:=Ws (es:=es) w1 (λv hv=>by rw[←(hdg v).1];exact(w2 v hv).1);rw[xc8,xd1]at this ⊢;omega
  repeat' first|refine sD ?_ ?_<;>intro _|refine aAc ?_|simp -dsimp only[↓RP,RQ,seval,hc1,hc2,g1,g9,↓RY,TYs,f1,f9,b1,b2,b3,NB,QR,QT,QN]|exact Ωb|fail
  refine QZ (s:=.agg [.val (.int .i64 r),.val (.bool bb)]) (iid:=iid) (mid:=mid) (clk:=clk) (seen:=ks.map stamp) (fit:=qk true [.i .i64,.b]) (dom:=dAt dom get (js lay) ks) (get:=get) (stamp:=stamp) (k:=.agg #[.int .i64 r,.bool bb]) Ωq Ωq Ωs Ωs hk2 (vB [.int .i64 r,.bool bb]) ?_;have dbl:decide (bb=lay)=decide (bb=lay):=rfl;by_cases hbl:bb=lay
  ·conv at dbl=>rhs;rw[decide_eq_true hbl]
   have hkp:js lay (.agg #[.int .i64 r,.bool bb]) (get (.agg #[.int .i64 r,.bool bb]))=true:=by
    subst hbl;simp[js]
   repeat' first|refine sD ?_ ?_<;>intro _|refine aAc ?_|simp -dsimp only[↓RP,RQ,seval,hc1,hc2,g1,g9,dbl,↓RY,TYs,f1,f9,b1,b2,b3,NB,QR,QT,QN]|exact Ωb|fail
   refine⟨ks++[.agg #[.int .i64 r,.bool bb]],⟨w1,w2⟩,w3,yn ?hn1 (λt=>by
    by_cases e:t=77
    ·subst e;right;simp[Go.Sx.look]
    ·by_cases c:t∈va
     ·left;simp[Go.Sx.look,qO,e,c]
     ·right
      rw[va]at c;simp only[List.mem_cons,List.not_mem_nil,or_false,not_or]at c;simp[Go.Sx.look,qO,va,c]) ?hh1⟩
   case hn1=>rw[xc8,xd1];omega
   case hh1=>
    rw[List.map_append,List.map_cons,List.map_nil,Wp hkp]
    ((repeat' (refine SubHp.ent Ωu ?_)))
    intro q v hv;have hq:=hD q v hv;simp only[blk];rw[if_neg Ω,if_neg Ω,if_neg hq.2];exact hv
  ·conv at dbl=>rhs;rw[decide_eq_false hbl]
   have hkp:js lay (.agg #[.int .i64 r,.bool bb]) (get (.agg #[.int .i64 r,.bool bb]))=false:=by
    simp[js,hbl]
   repeat' first|refine sD ?_ ?_<;>intro _|refine aAc ?_|simp -dsimp only[↓RP,RQ,seval,hc1,hc2,g1,g9,dbl,↓RY,TYs,f1,f9,b1,b2,b3,NB,QR,QT,QN]|exact Ωb|fail
   refine⟨ks++[.agg #[.int .i64 r,.bool bb]],⟨w1,w2⟩,w3,yn ?hn0 (λt=>by
    by_cases e:t=77
    ·subst e;right;simp[Go.Sx.look]
    ·by_cases c:t∈va
     ·left;simp[Go.Sx.look,qO,e,c]
     ·right
      rw[va]at c;simp only[List.mem_cons,List.not_mem_nil,or_false,not_or]at c;simp[Go.Sx.look,qO,va,c]) ?hh0⟩
   case hn0=>rw[xc8,xd1];omega
   case hh0=>
    rw[List.map_append,List.map_cons,List.map_nil,qca hkp]
    ((repeat' (refine SubHp.ent Ωu ?_)))
    intro q v hv;have hq:=hD q v hv;simp only[blk];rw[if_neg Ω,if_neg Ω,if_neg hq.2];exact hv
 ·have hend:=Wr (p:=js lay) z2 hinj hall
  have hR:HRel LM hp1 ((mid,.map (qk true [.i .i64,.b]) (λv=>dom v&&js lay v (get v)) get) :: dropBlk H mid):=by
   intro q x hx;rw[p1 q]at hx;by_cases c:q=mid
   ·rw[if_pos c]at hx
    cases hx;refine⟨.map (qk true [.i .i64,.b]) (λv=>dom v&&js lay v (get v)) get,by simp only[blk];rw[if_pos c],rfl,λk=>?_⟩;have h1:=hdg k;rw[wv];cases e:kw es k with
    |none=>rw[e]at h1;exact⟨by show(dom k&&js lay k (get k))=_;rw[h1.1];rfl,λs hs=>(by cases hs)⟩
    |some s=>
     rw[e]at h1;have h2:=h1.2 s rfl;show(dom k&&js lay k (get k))=_∧_;rw[h1.1,h2];dsimp only[Option.bind_some,Option.isSome_some];cases js lay k s with
     |true=>exact⟨rfl,λs' hs=>(by cases hs;rfl)⟩
     |false=>exact⟨rfl,λs' hs=>(by cases hs)⟩
   ·rw[if_neg c]at hx
    obtain⟨b',h1,h2⟩:=hH q x hx;exact⟨b',by simp only[blk];rw[if_neg c,qv,if_neg c];exact h1,h2⟩
  refine⟨⟨Jx va F,(mid,.map (qk true [.i .i64,.b]) (λv=>dom v&&js lay v (get v)) get) :: dropBlk H mid,n+(20*es.length+98)⟩,Weak.trans (V7 (mid:=mid) (fit:=qk true [.i .i64,.b]) (dom:=dAt dom get (js lay) ks) (dom':=λv=>dom v&&js lay v (get v)) (get:=get) (st:=stamp) (c:=clk) Ωs hend) (yn Ω (λt=>?_) ?_),Ωg,?_⟩
  ·by_cases c:t∈va
   ·left;rw[qO,if_pos c]
   ·right
    have e:t≠77:=λe=>c (by rw[e];decide);simp[Go.Sx.look,e]
  ·simp only[setBlk,NB,if_false,if_true]
   (repeat' (refine SubHp.ent (by simp only[blk,NB,if_false,if_true]) ?_));intro q v hv;have hq:=hD q v hv;simp only[blk];rw[if_neg Ω,if_neg hq.2];exact hv
  repeat' first|refine sD ?_ ?_<;>intro _|refine aAc ?_|simp -dsimp only[↓RP,RQ,seval,↓RY,TYs,f1,f9,b1,b2,b3,NB,QR,QT,QN]|exact Ωb|fail
  refine hk .normal fr' hp1 (nid+(20*es.length+100)) _ ⟨λt=>?_,hR,by dsimp only;rw[hn]⟩ h;dsimp only;rw[show qx fr' t=if t=79 then .val (.bool false)else qx fr1 t by
   unfold qx;rw[hfr' t];by_cases c:t=79
   ·rw[if_pos c,if_pos c]
   ·rw[if_neg c,if_neg c],show qx fr1 t=if t=78 then .tup [.val (.bool false)]else qx fr0 t by
   unfold qx;rw[hfr1 t];by_cases c:t=78
   ·rw[if_pos c,if_pos c]
   ·rw[if_neg c,if_neg c],hfr0,←hF t]
  simp only[Go.Sx.look,qO]
end Go.Tn
end
section
namespace Go.Tn
open Go.Proofs
open Go.Sx
variable{n:Nat}{v:Value}{dom:Value→Bool}
abbrev Lab:=Bool×Int×Bool
def aL:List ((Nat×Nat×Int)×Lab)→Nat→Nat→Int×Lab
 |[]=>λ_ _=>(NW,(false,0,false))
 |e :: l=>λx y=>if x=e.1.1∧y=e.1.2.1∧e.1.2.2<(aL l x y).1 then(e.1.2.2,e.2)else aL l x y
theorem Wt{x y:Nat}:∀{l:List ((Nat×Nat×Int)×Lab)},(aL l x y).1=Ks (l.map Prod.fst) x y
 |[]=>rfl
 |e :: l=>by
  simp only[aL,List.map_cons,Ks,Wt (l:=l)];split<;>simp[Wt]
def Ha.lb(h:Ha)(i:Nat)(b:Bool):Lab:=(decide (i<h.w),(if i<h.w then((i:Nat):Int)else((i - h.w:Nat):Int)),b)
def Ha.sl(h:Ha):Nat→List ((Nat×Nat×Int)×Lab)
 |0=>[]
 |i+1=>(h.bk i,h.lb i true) ::(h.fw i,h.lb i false) :: h.sl i
theorem Ha.sl_st(h:Ha):∀n,(h.sl n).map Prod.fst=h.st n
 |0=>rfl
 |n+1=>by simp[Ha.sl,Ha.st,Ha.sl_st h n]
def k2(x y:Nat):Value:=.agg #[.int .i64 (x:Nat),.int .i64 (y:Nat)]
def kf2:Value→Bool:=qk true [.i .i64,.i .i64]
def aS(e:Int×Lab):SV:=.agg [.val (.bool e.2.1),.val (.int .i64 e.2.2.1),.val (.bool e.2.2.2),.val (.int .i64 e.1)]
def of2{α:Type}(z:α)(f:Int→Int→α)(v:Value):α:=match v with
 |.agg a=>(match a.toList with
  |[.int .i64 p,.int .i64 q]=>f p q
  |_=>z)
 |_=>z
def gA(l:List ((Nat×Nat×Int)×Lab)):Value→SV:=of2 .top λp q=>aS (aL l p.toNat q.toNat)
def dF(n:Nat):Value→Bool:=of2 false λp q=>decide (0≤p∧p<n∧0≤q∧q<n)
def dA(n:Nat)(l:List ((Nat×Nat×Int)×Lab)):Value→Bool:=of2 false λp q=>decide (0≤p∧p<n∧0≤q∧q<n)&&decide ((aL l p.toNat q.toNat).1≠NW)
theorem dF_iff:dF n v=true↔∃x y,x<n∧y<n∧v=k2 x y:=by
 constructor
 ·intro h
  unfold dF of2 at h;split at h
  ·rename_i a
   split at h
   ·rename_i p q e
    obtain⟨h1,h2,h3,h4⟩:=of_decide_eq_true h;refine⟨p.toNat,q.toNat,Ω,Ω,?_⟩;unfold k2;rw[Int.toNat_of_nonneg h1,Int.toNat_of_nonneg h3];obtain⟨l⟩:=a;simp only at e;rw[e]
   ·cases h
  ·cases h
 ·rintro⟨x,y,hx,hy,rfl⟩
  exact decide_eq_true Ω
theorem qnr{x y x' y':Nat}(h:k2 x y=k2 x' y'):x=x'∧y=y':=by
 unfold k2 at h;injection h with h;have h1:=congrArg Array.toList h;simp at h1;omega
theorem eqK_k2{x y:Nat}:eqK (k2 x y) v=true↔v=k2 x y:=by
 constructor
 ·intro h;exact(zq h).symm
 ·rintro rfl;simp[eqK,k2,jU,wH]
def D1(n p q:Nat)(dom:Value→Bool)(get:Value→SV):Prop:=(∀v,dom v=true→∃x y,x<n∧y<n∧v=k2 x y)∧(∀x y,y<n→(x<p∨x=p∧y<q)→dom (k2 x y)=true)∧∀v,dom v=true→get v=aS (NW,(false,0,false))
theorem D1.put{p q:Nat}{get:Value→SV}(h:D1 n p q dom get)(hp:p<n)(hq:q<n):D1 n p (q+1) (qD dom (k2 p q)) (qC get (k2 p q) (aS (NW,(false,0,false)))):=by
 obtain⟨h1,h2,h3⟩:=h;refine⟨λv hv=>?_,λx y hy hxy=>?_,λv hv=>?_⟩
 ·unfold qD at hv
  cases e:eqK (k2 p q) v with
  |true=>exact⟨p,q,hp,hq,eqK_k2.1 e⟩
  |false=>rw[e]at hv;exact h1 v hv
 ·unfold qD
  cases e:eqK (k2 p q) (k2 x y)with
  |true=>rfl
  |false=>
   refine h2 x y hy ?_;by_cases c:x=p∧y=q
   ·obtain⟨rfl,rfl⟩:=c;rw[eqK_k2.2 rfl]at e;cases e
   ·omega
 ·unfold qC
  unfold qD at hv;cases e:eqK (k2 p q) v with
  |true=>rfl
  |false=>rw[e]at hv;exact h3 v hv
theorem D1.next{p:Nat}{get:Value→SV}(h:D1 n p n dom get):D1 n (p+1) 0 dom get:=⟨h.1,λx y hy hxy=>h.2.1 x y hy Ω,h.2.2⟩
theorem qjn{hp:List (Nat×Blk)}{id:Nat}{h:Ha}{t:TypeId}{X Y:SV}(hb:blk hp id=some (.cells t (shL h Y)))(hX:Go.Sx.Sub hp X Y):Go.Sx.Sub hp (shR h X) (.ptr id 0):=by
 unfold shR;simp only[Go.Sx.Sub,hb];intro j hj;rw[xb0];refine⟨?_,by simpa[shL]using hj⟩;rcases(Ω:j=0∨j=1∨j=2∨j=3)with rfl|rfl|rfl|rfl
 ·exact qA _ (by simp[Old,shL])
 ·exact qA _ (by simp[Old,shL])
 ·exact qA _ (kJ h)
 ·exact hX
def D2(n:Nat)(l:List ((Nat×Nat×Int)×Lab))(dom:Value→Bool)(get:Value→SV):Prop:=(∀v,dom v=dF n v)∧∀x y,x<n→y<n→get (k2 x y)=aS (aL l x y)
variable{l:List ((Nat×Nat×Int)×Lab)}
theorem D2.skip{get:Value→SV}(h:D2 n l dom get){f t:Nat}{c:Int}{b:Lab}(hc:¬c<(aL l f t).1):D2 n (((f,t,c),b) :: l) dom get:=⟨h.1,λx y hx hy=>by
 rw[h.2 x y hx hy];simp only[aL];rw[if_neg];rintro⟨rfl,rfl,h3⟩;exact hc h3⟩
theorem D2.put{get:Value→SV}(h:D2 n l dom get){f t:Nat}{c:Int}{b:Lab}(hf:f<n)(ht:t<n)(hc:c<(aL l f t).1):D2 n (((f,t,c),b) :: l) (qD dom (k2 f t)) (qC get (k2 f t) (aS (c,b))):=by
 refine⟨λv=>?_,λx y hx hy=>?_⟩
 ·unfold qD
  rw[←h.1 v];cases e:eqK (k2 f t) v with
  |true=>rw[eqK_k2.1 e,h.1,dF_iff.2 ⟨f,t,hf,ht,rfl⟩];rfl
  |false=>rfl
 ·unfold qC
  simp only[aL];cases e:eqK (k2 f t) (k2 x y)with
  |true=>
   obtain⟨rfl,rfl⟩:=qnr (eqK_k2.1 e);rw[if_pos ⟨rfl,rfl,hc⟩];rfl
  |false=>
   rw[if_neg (by rintro⟨rfl,rfl,_⟩;rw[eqK_k2.2 rfl]at e;cases e)];exact h.2 x y hx hy
theorem qmt:qz Tryz.prog 336=some ⟨true,[.i .i64,.i .i64],.agg [.val (.bool false),.val (.int .i64 0),.val (.bool false),.val (.int .i64 0)]⟩:=by kernel_rfl
def vb(_:Value)(s:SV):Bool:=match s with
 |.agg [_,_,_,.val (.int .i64 c)]=>decide (c≠NW)
 |_=>true
theorem qcb(e:Int×Lab):Old (aS e):=by simp[aS,Old,OldL]
theorem qdT:dA n l v=(dF n v&&of2 false (λp q=>decide ((aL l p.toNat q.toNat).1≠NW)) v):=by
 unfold dA dF of2;split
 ·split<;>rfl
 ·rfl
theorem qns{get:Value→SV}(h:D2 n l dom get)(v:Value):dA n l v=(dom v&&vb v (get v)):=by
 rw[h.1 v];cases e:dF n v with
 |true=>
  obtain⟨x,y,hx,hy,rfl⟩:=dF_iff.1 e;rw[h.2 x y hx hy];show(decide _&&decide _)=(true&&decide _);rw[decide_eq_true (by omega:0≤(x:Int)∧(x:Int)<n∧0≤(y:Int)∧(y:Int)<n)];rfl
 |false=>rw[qdT,e];rfl
theorem qjo(hn:n≤11)(hd:∀v,dom v=dF n v){ks:List Value}(h1:ks.Nodup)(h2:∀v,v∈ks→dom v=true):ks.length≤121:=by
 have:=Q4 (n:=121) (l:=ks.map (of2 0 λp q=>p.toNat*11+q.toNat)) (yO h1 λa b ha hb e=>by
  obtain⟨x,y,hx,hy,rfl⟩:=dF_iff.1 ((hd a).symm.trans (h2 a ha));obtain⟨x',y',hx',hy',rfl⟩:=dF_iff.1 ((hd b).symm.trans (h2 b hb));have e:x*11+y=x'*11+y':=e;obtain⟨rfl,rfl⟩:x=x'∧y=y':=by omega
  rfl) (λz hz=>by
  obtain⟨v,hv,rfl⟩:=List.mem_map.1 hz;obtain⟨x,y,hx,hy,rfl⟩:=dF_iff.1 ((hd v).symm.trans (h2 v hv));show x*11+y<121;omega)
 rwa [xe1]at this
def Ha.hl(h:Ha)(i:Nat):Nat→List ((Nat×Nat×Int)×Lab)
 |0=>h.sl i
 |1=>(h.fw i,h.lb i false) :: h.sl i
 |_=>h.sl (i+1)
theorem qpF(h:Ha)(o:h.Ok):qc Tryz.prog 232 [haS h] (.ref true 4 (λj=>(shL h (.cmp true kf2 (dA (h.w+1) (h.sl (h.w+h.k))) (gA (h.sl (h.w+h.k))))).getD j .top)):=by
 refine qh Tryz.func232 rfl Ωa follows Ωa _ _ (by rw[Tryz.ntmps232];simp) (by simp only[OldL,jK h,and_true]) ?_;have NB:True:=trivial;have hw:=o.w2
 conv=>arg 4;unfold haS
 repeat' first|refine sD ?_ ?_<;>intro _|refine aAc ?_|simp -dsimp only[↓RP,RQ,seval,TYc,NB,QR,QT,QN]|exact Ωb|fail
 refine qo (λ(z:Nat×Nat×(Value→Bool)×(Value→SV))=>z.1≤h.w+1∧12≤z.2.1∧D1 (h.w+1) z.1 0 z.2.2.1 z.2.2.2) (λz=>⟨[(1,.ptr 0 0),(3,.ptr 6 0),(19,.val (.int .i64 ((h.w:Nat)+1))),(20,.val (.int .i64 (z.1:Nat)))],[(6,.cells 184 [.ptr 5 0]),(5,.cells 338 [.val (.int .i64 h.w),.val (.int .i64 h.m),ctR h,.mp 3]),(3,.map (qk true [.i .i64,.i .i64]) z.2.2.1 z.2.2.2),(0,.cells 97 [.val (.int .i64 h.w),.val (.int .i64 h.m),ctR h])],z.2.1⟩) (λz=>h.w+1 - z.1) (0,12,λ_=>false,λ_=>.top) ⟨xb6 _,xa5 _,⟨λv hv=>Ωt,λx y hy hxy=>Ω,λv hv=>Ωt⟩⟩ (qj (xa5 _) Ωc ?hA) λz hz=>?_
 case hA=>((repeat' (refine SubHp.ent ΩW ?_));exact λq v hv=>Ωt)
 obtain⟨p,n1,dom,get⟩:=z;obtain⟨hp,hn1,hD⟩:=hz;dsimp only at hp hn1 hD;dsimp only;clear NB;have NB:=(⟨nmA (Ω:0<n1),nmA (Ω:3<n1),nmA (Ω:5<n1),nmA (Ω:6<n1)⟩:_∧_∧_∧_);by_cases hpw:p<h.w+1
 ·have hlt:=decide_eq_true (Ω:((p:Nat):Int)<(h.w:Nat)+1)
  repeat' first|refine sD ?_ ?_<;>intro _|refine aAc ?_|simp -dsimp only[↓RP,RQ,seval,hlt,TYc,NB,QR,QT,QN]|exact Ωb|fail
  refine qo (λ(z:Nat×Nat×(Value→Bool)×(Value→SV))=>z.1≤h.w+1∧12≤z.2.1∧D1 (h.w+1) p z.1 z.2.2.1 z.2.2.2) (λz=>⟨[(1,.ptr 0 0),(3,.ptr 6 0),(4,.val (.int .i64 (p:Nat))),(19,.val (.int .i64 ((h.w:Nat)+1))),(20,.val (.int .i64 (p:Nat))),(25,.val (.int .i64 ((h.w:Nat)+1))),(26,.val (.int .i64 (z.1:Nat)))],[(6,.cells 184 [.ptr 5 0]),(5,.cells 338 [.val (.int .i64 h.w),.val (.int .i64 h.m),ctR h,.mp 3]),(3,.map (qk true [.i .i64,.i .i64]) z.2.2.1 z.2.2.2),(0,.cells 97 [.val (.int .i64 h.w),.val (.int .i64 h.m),ctR h])],z.2.1⟩) (λz=>h.w+1 - z.1) (0,_,dom,get) ⟨xb6 _,?hB,hD⟩ (qj (xa5 _) Ωc ?hC) λz hz=>?_
  case hC=>((repeat' (refine SubHp.ent ΩW ?_));exact λq v hv=>Ωt)
  case hB=>dsimp only;omega
  obtain⟨q,n2,dom2,get2⟩:=z;obtain⟨hq,hn2,hD2⟩:=hz;dsimp only at hq hn2 hD2;dsimp only;clear NB;have NB:=(⟨nmA (Ω:0<n2),nmA (Ω:3<n2),nmA (Ω:5<n2),nmA (Ω:6<n2)⟩:_∧_∧_∧_);by_cases hqw:q<h.w+1
  ·have hlt2:=decide_eq_true (Ω:((q:Nat):Int)<(h.w:Nat)+1)
   repeat' first|refine sD ?_ ?_<;>intro _|refine aAc ?_|simp -dsimp only[↓RP,RQ,seval,hlt2,TYc,NB,QR,QT,QN]|exact Ωb|fail
   refine⟨(q+1,n2+14,qD dom2 (k2 p q),qC get2 (k2 p q) (aS (NW,(false,0,false)))),⟨Ωg,Ωg,hD2.put hpw hqw⟩,Ωg,qj (xa5 _) Ωc ?hD⟩
   case hD=>((repeat' (refine SubHp.ent Ωq ?_));exact λq v hv=>Ωt)
  ·obtain rfl:q=h.w+1:=by omega
   have hlt2:=decide_eq_false (Ω:¬((h.w+1:Nat):Int)<(h.w:Nat)+1);repeat' first|refine sD ?_ ?_<;>intro _|refine aAc ?_|simp -dsimp only[↓RP,RQ,seval,hlt2,TYc,NB,QR,QT,QN]|exact Ωb|fail
   refine⟨(p+1,n2+3,dom2,get2),⟨Ωg,Ωg,hD2.next⟩,Ωg,qj (xa5 _) Ωc ?hE⟩
   case hE=>((repeat' (refine SubHp.ent Ωq ?_));exact λq v hv=>Ωt)
 ·have hlt:=decide_eq_false (Ω:¬((p:Nat):Int)<(h.w:Nat)+1)
  obtain rfl:p=h.w+1:=by omega
  repeat' first|refine sD ?_ ?_<;>intro _|refine aAc ?_|simp -dsimp only[↓RP,RQ,seval,hlt,TYc,NB,QR,QT,QN]|exact Ωb|fail
  refine qog follows Ωq Tryz.func328 rfl Ωa Ωa (by rw[Tryz.ntmps328];simp) λout=>?_;repeat' first|refine sD ?_ ?_<;>intro _|refine aAc ?_|simp -dsimp only[↓RP,RQ,seval,TYc,NB,QR,QT,QN]|exact Ωb|fail
  obtain⟨cid,hcid⟩:∃c,c=n1+2:=⟨_,rfl⟩;obtain⟨lid,hlid⟩:∃c,c=n1+8:=⟨_,rfl⟩;refine qmE follows (gf:=372) Ωq Tryz.func372 rfl Ωa Ωa Ωq (by rw[Tryz.ntmps372];simp) λout2 L R=>?_;have hk:=o.k;repeat' first|refine sD ?_ ?_<;>intro _|refine aAc ?_|simp -dsimp only[↓RP,RQ,seval,ctR,TYc,NB,QR,QT,QN]|exact Ωb|fail
  refine qo (λ(z:Nat×Nat×(Value→Bool)×(Value→SV))=>z.1≤h.w+h.k∧lid<z.2.1∧D2 (h.w+1) (h.sl z.1) z.2.2.1 z.2.2.2) (λz=>⟨[(0,.yld lid),(1,.ptr cid 0),(19,.val (.int .i64 ((h.w:Nat)+(h.k:Nat)))),(20,.val (.int .i64 (z.1:Nat)))],[(lid,.loop L .ready),(cid,.cells 184 [.ptr 5 0]),(6,.cells 184 [.ptr 5 0]),(5,.cells 338 (shL h (.mp 3))),(3,.map (qk true [.i .i64,.i .i64]) z.2.2.1 z.2.2.2),(0,.cells 97 [.val (.int .i64 h.w),.val (.int .i64 h.m),ctR h])],z.2.1⟩) (λz=>h.w+h.k - z.1) (0,_,dom,get) ⟨xb6 _,?hF,?hG⟩ (qj (xa5 _) (by simp[qI,Go.Sx.look,hlid,hcid]) ?hH) λz hz=>?_
  case hF=>dsimp only;omega
  case hG=>
   refine⟨λv=>?_,λx y hx hy=>?_⟩
   ·dsimp only
    rw[Bool.eq_iff_iff,dF_iff];constructor
    ·intro hv;exact hD.1 v hv
    ·rintro⟨x,y,hx,hy,rfl⟩;exact hD.2.1 x y hy (.inl hx)
   ·exact hD.2.2 _ (hD.2.1 x y hy (.inl hx))
  case hH=>rw[hlid,hcid];((repeat' (refine SubHp.ent (by simp[blk,shL,ctR,NB]) ?_));exact λq v hv=>Ωt)
  obtain⟨i,n2,dom2,get2⟩:=z;obtain⟨hi,hn2,hD2⟩:=hz;dsimp only at hi hn2 hD2;dsimp only;have NB1:=(⟨nmE (Ω:cid≠0),nmE (Ω:cid≠3),nmE (Ω:cid≠5),nmE (Ω:cid≠6),nmE (Ω:lid≠0),nmE (Ω:lid≠3),nmE (Ω:lid≠5),nmE (Ω:lid≠6),nmE (Ω:lid≠cid)⟩:_∧_∧_∧_∧_∧_∧_∧_∧_);clear NB;have NB:=(⟨NB1,nmA (Ω:0<n2),nmA (Ω:3<n2),nmA (Ω:5<n2),nmA (Ω:6<n2),nmA (Ω:cid<n2),nmA hn2⟩:_∧_∧_∧_∧_∧_∧_);by_cases hil:i<h.w+h.k
  ·have hlt2:=decide_eq_true (Ω:((i:Nat):Int)<(h.w:Nat)+(h.k:Nat))
   obtain⟨wn,hwn⟩:∃wn,wn=decide (i<h.w):=⟨_,rfl⟩;obtain⟨ix,hix⟩:∃ix:Int,ix=if i<h.w then((i:Nat):Int)else((i - h.w:Nat):Int):=⟨_,rfl⟩
   have hcx:∀b,qc Tryz.prog 329 [shR h .top,.agg [.val (.bool wn),.val (.int .i64 ix),.val (.bool b)]] (.tup [I (if b then h.bk i else h.fw i).1,I (if b then h.bk i else h.fw i).2.1,I (if b then h.bk i else h.fw i).2.2]):=λb=>by
    by_cases c:i<h.w
    ·have:=qoB h (X:=.top) ΩC i c hw b
     rw[hwn,hix,if_pos c,decide_eq_true c];exact this
    ·have:=qoC h o (X:=.top) ΩC (i - h.w) Ω b
     rw[show h.w+(i - h.w)=i by omega]at this;rw[hwn,hix,if_neg c,decide_eq_false c];exact this
   have hd1:decide (((i:Nat):Int)<(h.w:Nat))=wn:=by rw[hwn];exact decide_eq_decide.2 Ω
   apply ZJ (P:=Tryz.prog) (O:=⟨out2,n1+9,false,zr⟩) (λ(x:Nat)=>n2+12<x) (λx=>⟨[(0,.yld lid),(1,.ptr cid 0),(4,.ptr (n2+12) 0),(19,.val (.int .i64 ((h.w:Nat)+(h.k:Nat)))),(20,.val (.int .i64 (i:Nat))),(44,.val (.int .i64 0))],[(n2+12,.cells 193 [.val (.bool wn),.val (.int .i64 ix),.val (.bool false)]),(lid,.loop L .ready),(cid,.cells 184 [.ptr 5 0]),(6,.cells 184 [.ptr 5 0]),(5,.cells 338 (shL h (.mp 3))),(3,.map (qk true [.i .i64,.i .i64]) dom2 get2),(0,.cells 97 [.val (.int .i64 h.w),.val (.int .i64 h.m),ctR h])],x⟩)
   case main=>
    intro key;repeat' first|refine sD ?_ ?_<;>intro _|refine aAc ?_|simp -dsimp only[↓RP,RQ,seval,hlt2,hd1,shL,TYc,NB,QR,QT,QN]|exact Ωb|fail
    ·have e:ix=(i:Nat):=by
      have hf:wn=true:=‹wn=true›;rw[hwn,decide_eq_true_eq]at hf;rw[hix,if_pos hf]
     refine(key (n2+18) Ω).weak (qj (xa5 _) Ωc ?hJ)
     case hJ=>rw[e];((repeat' (refine SubHp.ent (by simp[blk,shL,NB]) ?_));exact λq v hv=>Ωt)
    ·have e:ix=(i:Nat) -(h.w:Nat):=by
      have hf:wn=false:=‹wn=false›;rw[hwn,decide_eq_false_iff_not]at hf;rw[hix,if_neg hf];omega
     refine(key (n2+28) Ω).weak (qj (xa5 _) Ωc ?hI)
     case hI=>rw[e];((repeat' (refine SubHp.ent (by simp[blk,shL,NB]) ?_));exact λq v hv=>Ωt)
   case key=>
    intro n3 hn3;obtain⟨xid,hxid⟩:∃c,c=n2+12:=⟨_,rfl⟩;rw[←hxid]at hn3 ⊢;refine qo (λ(z:Nat×Nat×(Value→Bool)×(Value→SV))=>z.1≤2∧xid<z.2.1∧D2 (h.w+1) (h.hl i z.1) z.2.2.1 z.2.2.2) (λz=>⟨[(0,.yld lid),(1,.ptr cid 0),(4,.ptr xid 0),(19,.val (.int .i64 ((h.w:Nat)+(h.k:Nat)))),(20,.val (.int .i64 (i:Nat))),(44,.val (.int .i64 (z.1:Nat)))],[(xid,.cells 193 [.val (.bool wn),.val (.int .i64 ix),.val (.bool (decide (1≤z.1)))]),(lid,.loop L .ready),(cid,.cells 184 [.ptr 5 0]),(6,.cells 184 [.ptr 5 0]),(5,.cells 338 (shL h (.mp 3))),(3,.map (qk true [.i .i64,.i .i64]) z.2.2.1 z.2.2.2),(0,.cells 97 [.val (.int .i64 h.w),.val (.int .i64 h.m),ctR h])],z.2.1⟩) (λz=>2 - z.1) (0,_,dom2,get2) ⟨xb6 _,hn3,hD2⟩ (qj (xa5 _) Ωc ?hK) λz hz=>?_
    case hK=>exact λq v hv=>hv
    obtain⟨j,n4,dom3,get3⟩:=z;obtain⟨hj,hn4,hD3⟩:=hz;dsimp only at hj hn4 hD3;dsimp only;have NBx:=(⟨nmE (Ω:xid≠0),nmE (Ω:xid≠3),nmE (Ω:xid≠5),nmE (Ω:xid≠6),nmE (Ω:xid≠cid),nmE (Ω:xid≠lid)⟩:_∧_∧_∧_∧_∧_);clear NB;have NB:=(⟨NB1,NBx,nmA (Ω:0<n4),nmA (Ω:3<n4),nmA (Ω:5<n4),nmA (Ω:6<n4),nmA (Ω:cid<n4),nmA (Ω:lid<n4),nmA hn4⟩:_∧_∧_∧_∧_∧_∧_∧_∧_);by_cases hj2:j<2
    ·have hlt3:=decide_eq_true (Ω:((j:Nat):Int)<2)
     obtain⟨b,hb⟩:∃b,b=decide (1≤j):=⟨_,rfl⟩;rw[←hb];have hc:=hcx b;obtain⟨e,he⟩:∃e,e=if b then h.bk i else h.fw i:=⟨_,rfl⟩
     rw[←he]at hc;obtain⟨f,t,c⟩:=e;dsimp only at hc;have hst:(f,t,c)∈h.st (h.w+h.k):=h.st_mem.2 ⟨i,hil,by rw[he];cases b<;>simp⟩;obtain⟨hf,ht,hc1,hc2⟩:=o.step (xa5 _) hst;have hdk:dom3 (.agg #[.int .i64 (f:Nat),.int .i64 (t:Nat)])=true:=by rw[hD3.1];exact dF_iff.2 ⟨f,t,Ω,Ω,rfl⟩
     have hgk:get3 (.agg #[.int .i64 (f:Nat),.int .i64 (t:Nat)])=aS (aL (h.hl i j) f t):=hD3.2 f t Ω Ω;have hnx:∀(l:List ((Nat×Nat×Int)×Lab)),l=((f,t,c),(wn,ix,b)) :: h.hl i j→l=h.hl i (j+1):=λl hl=>by
      rw[hl,he,hwn,hix,hb];rcases(Ω:j=0∨j=1)with rfl|rfl<;>rfl
     repeat' first|refine sD ?_ ?_<;>intro _|refine aAc ?_|simp -dsimp only[↓RP,RQ,seval,hlt3,shL,TYc,NB,QR,QT,QN]|exact Ωb|fail
     refine qq hc (by simp only[SubL,and_true];exact⟨qjn (t:=338) (Y:=.mp 3) (by simp[blk,shL,NB]) (by simp[Go.Sx.Sub]),by simp[Go.Sx.Sub,SubL]⟩) Ω7 ?_;repeat' first|refine sD ?_ ?_<;>intro _|refine aAc ?_|simp -dsimp only[↓RP,RQ,seval,QT,shL,TYc,NB,QR,QN]|exact Ωb|fail
     refine qgH follows Ωq R Ωs Ωq λout3=>?_;repeat' first|refine sD ?_ ?_<;>intro _|refine aAc ?_|simp -dsimp only[↓RP,RQ,seval,QT,shL,TYc,NB,QR,QN]|exact Ωb|fail
     obtain⟨A,hA⟩:∃A,A=aL (h.hl i j) f t:=⟨_,rfl⟩;rw[←hA]at hgk;unfold aS at hgk;refine qq hc (by simp only[SubL,and_true];exact⟨qjn (t:=338) (Y:=.mp 3) (by simp[blk,shL,NB]) (by simp[Go.Sx.Sub]),by simp[Go.Sx.Sub,SubL]⟩) Ω7 ?_;by_cases hcA:c<A.1
     ·have d1:=decide_eq_true hcA
      repeat' first|refine sD ?_ ?_<;>intro _|refine aAc ?_|simp -dsimp only[↓RP,RQ,seval,QT,shL,hdk,hgk,d1,TYc,NB,QR,QN]|exact Ωb|fail
      refine⟨(j+1,_,qD dom3 (k2 f t),qC get3 (k2 f t) (aS (c,(wn,ix,b)))),⟨hj2,?a1,(hnx _ rfl)▸hD3.put Ω Ω (by rw[←hA];exact hcA)⟩,Ωg,qj (xa5 _) Ωc ?a2⟩
      case a1=>dsimp only;omega
      case a2=>rw[show decide (1≤j+1)=true from decide_eq_true Ω];((repeat' (refine SubHp.ent Ωr ?_));exact λq v hv=>Ωt)
     ·have d1:=decide_eq_false hcA
      repeat' first|refine sD ?_ ?_<;>intro _|refine aAc ?_|simp -dsimp only[↓RP,RQ,seval,QT,shL,hdk,hgk,d1,TYc,NB,QR,QN]|exact Ωb|fail
      refine⟨(j+1,_,dom3,get3),⟨hj2,?b1,(hnx _ rfl)▸hD3.skip (by rw[←hA];exact hcA)⟩,Ωg,qj (xa5 _) Ωc ?b2⟩
      case b1=>dsimp only;omega
      case b2=>rw[show decide (1≤j+1)=true from decide_eq_true Ω];((repeat' (refine SubHp.ent Ωr ?_));exact λq v hv=>Ωt)
    ·obtain rfl:j=2:=by omega
     have hlt3:=decide_eq_false (Ω:¬((2:Nat):Int)<2);repeat' first|refine sD ?_ ?_<;>intro _|refine aAc ?_|simp -dsimp only[↓RP,RQ,seval,hlt3,shL,TYc,NB,QR,QT,QN]|exact Ωb|fail
     refine⟨(i+1,_,dom3,get3),⟨hil,?e1,hD3⟩,Ωg,qj (xa5 _) Ωc ?e2⟩
     case e1=>dsimp only;omega
     case e2=>((repeat' (refine SubHp.ent Ωr ?_));exact λq v hv=>Ωt)
  ·obtain rfl:i=h.w+h.k:=by omega
   have hlt2:=decide_eq_false (Ω:¬((h.w+h.k:Nat):Int)<(h.w:Nat)+(h.k:Nat));repeat' first|refine sD ?_ ?_<;>intro _|refine aAc ?_|simp -dsimp only[↓RP,RQ,seval,hlt2,shL,TYc,NB,QR,QT,QN]|exact Ωb|fail
   rw[←hlid];repeat' first|refine sD ?_ ?_<;>intro _|refine aAc ?_|simp -dsimp only[↓RP,RQ,seval,shL,TYc,NB,QR,QT,QN]|exact Ωb|fail
   obtain⟨iid,hiid⟩:∃iid,iid=n2+5:=⟨_,rfl⟩;rw[←hiid];refine qcu (mid:=3) (fit:=qk true [.i .i64,.i .i64]) (dom:=dom2) (get:=get2) Ωq Ωq qmt Ωs λstamp clk hst hinj=>?_;clear NB;have NB:=(⟨NB1,nmA (Ω:0<iid),nmA (Ω:3<iid),nmA (Ω:5<iid),nmA (Ω:6<iid),nmA (Ω:cid<iid)⟩:_∧_∧_∧_∧_∧_);repeat' first|refine sD ?_ ?_<;>intro _|refine aAc ?_|simp -dsimp only[↓RP,RQ,seval,shL,TYc,NB,QR,QT,QN]|exact Ωb|fail
   refine qo (λ(z:List Value×Nat)=>z.1.Nodup∧(∀v,v∈z.1→dom2 v=true∧eqK v v=true)∧iid<z.2) (λz=>⟨[(1,.ptr 0 0),(3,.ptr 6 0),(78,.ptr iid 0)],[(iid,.iter 3 clk (z.1.map stamp) clk),(6,.cells 184 [.ptr 5 0]),(5,.cells 338 (shL h (.mp 3))),(3,.mapS (qk true [.i .i64,.i .i64]) (dAt dom2 get2 vb z.1) get2 stamp clk)],z.2⟩) (λz=>121 - z.1.length) ([],_) ⟨List.nodup_nil,λv hv=>Ωt,?k1⟩ (qj (xa5 _) Ωc ?k2) λz hz=>?_
   case k1=>dsimp only;omega
   case k2=>dsimp only;rw[Wo];((repeat' (refine SubHp.ent Ωr ?_));exact λq v hv=>Ωt)
   obtain⟨ks,n3⟩:=z;obtain⟨z1,z2,hn3⟩:=hz;dsimp only at z1 z2 hn3;dsimp only;clear NB;have NB:=(⟨nmE (Ω:iid≠0),nmE (Ω:iid≠3),nmE (Ω:iid≠5),nmE (Ω:iid≠6),nmA (Ω:0<n3),nmA (Ω:3<n3),nmA (Ω:5<n3),nmA (Ω:6<n3),nmA hn3⟩:_∧_∧_∧_∧_∧_∧_∧_∧_);repeat' first|refine sD ?_ ?_<;>intro _|refine aAc ?_|simp -dsimp only[↓RP,RQ,seval,shL,TYc,NB,QR,QT,QN]|exact Ωb|fail
   refine qbZ (iid:=iid) (mid:=3) (clk:=clk) (seen:=ks.map stamp) (fit:=qk true [.i .i64,.i .i64]) (dom:=dAt dom2 get2 vb ks) (get:=get2) (stamp:=stamp) Ωq Ωq Ωs Ωs (λk hk1 hk2 hk3=>?_) (λhall=>?_)
   ·have hkd:=Wq hk2
    obtain⟨x,y,hx,hy,rfl⟩:=dF_iff.1 ((hD2.1 k).symm.trans hkd);have hkn:k2 x y∉ks:=λhm=>hk3 (List.mem_map.2 ⟨_,hm,rfl⟩);have w1:=g8 z1 hkn;have w2:∀v,v∈ks++[k2 x y]→dom2 v=true∧eqK v v=true:=λv hv=>by
     rcases List.mem_append.1 hv with h|h
     ·exact z2 v h
     ·rw[List.mem_singleton.1 h];exact⟨hkd,eqK_k2.2 rfl⟩
    have w3:121 -(ks++[k2 x y]).length<121 - ks.length:=by
     have:=qjo Ω hD2.1 w1 (λv hv=>(w2 v hv).1);rw[xc8,xd1]at this ⊢;omega
    have hgk:=hD2.2 x y hx hy;obtain⟨A,hA⟩:∃A,A=aL (h.sl (h.w+h.k)) x y:=⟨_,rfl⟩;rw[←hA]at hgk;have hgk2:=hgk;unfold aS k2 at hgk;unfold k2;repeat' first|refine sD ?_ ?_<;>intro _|refine aAc ?_|simp -dsimp only[↓RP,RQ,seval,hgk,shL,TYc,NB,QR,QT,QN]|exact Ωb|fail
    refine QZ (s:=.agg [.val (.int .i64 (x:Nat)),.val (.int .i64 (y:Nat))]) (iid:=iid) (mid:=3) (clk:=clk) (seen:=ks.map stamp) (fit:=qk true [.i .i64,.i .i64]) (dom:=dAt dom2 get2 vb ks) (get:=get2) (stamp:=stamp) (k:=.agg #[.int .i64 (x:Nat),.int .i64 (y:Nat)]) Ωq Ωq Ωs Ωs hk2 (vB [.int .i64 (x:Nat),.int .i64 (y:Nat)]) ?_;by_cases hc:A.1=1099511627776
    ·have d1:=decide_eq_true hc
     have hkp:vb (k2 x y) (get2 (k2 x y))=false:=by rw[hgk2];exact decide_eq_false (λe=>e hc)
     repeat' first|refine sD ?_ ?_<;>intro _|refine aAc ?_|simp -dsimp only[↓RP,RQ,seval,hgk,d1,shL,TYc,NB,QR,QT,QN]|exact Ωb|fail
     refine⟨(ks++[k2 x y],_),⟨w1,w2,?m1⟩,w3,qj (xa5 _) Ωc ?m2⟩
     case m1=>dsimp only;omega
     case m2=>
      dsimp only;rw[List.map_append,List.map_cons,List.map_nil,qca hkp]
      ((repeat' (refine SubHp.ent Ωr ?_));exact λq v hv=>Ωt)
    ·have d1:=decide_eq_false hc
     have hkp:vb (k2 x y) (get2 (k2 x y))=true:=by rw[hgk2];exact decide_eq_true hc
     repeat' first|refine sD ?_ ?_<;>intro _|refine aAc ?_|simp -dsimp only[↓RP,RQ,seval,hgk,d1,shL,TYc,NB,QR,QT,QN]|exact Ωb|fail
     refine⟨(ks++[k2 x y],_),⟨w1,w2,?o1⟩,w3,qj (xa5 _) Ωc ?o2⟩
     case o1=>dsimp only;omega
     case o2=>
      dsimp only;rw[List.map_append,List.map_cons,List.map_nil,Wp hkp]
      ((repeat' (refine SubHp.ent Ωr ?_));exact λq v hv=>Ωt)
   ·have hend:=Wr (p:=vb) z2 hinj hall
    refine⟨⟨[(1,.ptr 0 0),(3,.ptr 6 0),(78,.ptr iid 0)],[(6,.cells 184 [.ptr 5 0]),(5,.cells 338 (shL h (.mp 3))),(3,.map (qk true [.i .i64,.i .i64]) (dA (h.w+1) (h.sl (h.w+h.k))) get2)],n3⟩,Weak.trans (V7 (mid:=3) (fit:=qk true [.i .i64,.i .i64]) (dom:=dAt dom2 get2 vb ks) (dom':=dA (h.w+1) (h.sl (h.w+h.k))) (get:=get2) (st:=stamp) (c:=clk) Ωs (λv=>(qns hD2 v).trans (hend v))) (qj (xa5 _) Ωc ?p1),?p2,?_⟩
    case p1=>((repeat' (refine SubHp.ent (by simp only[blk,setBlk,NB,jg,jh,xa2,shL,if_false,if_true];try rfl) ?_));exact λq v hv=>Ωt)
    case p2=>dsimp only;omega
    repeat' first|refine sD ?_ ?_<;>intro _|refine aAc ?_|simp -dsimp only[↓RP,RQ,seval,shL,TYc,NB,QR,QT,QN]|exact Ωb|fail
    intro j hj;refine⟨?_,hj⟩;rcases(Ω:j=0∨j=1∨j=2∨j=3)with rfl|rfl|rfl|rfl
    ·exact qA _ ΩC
    ·exact qA _ ΩC
    ·exact qA _ (kJ h)
    ·refine⟨rfl,rfl,λkey hk=>?_⟩
     obtain⟨x,y,hx,hy,rfl⟩:=dF_iff.1 (by
      rw[qdT,xe6]at hk;exact hk.1)
     rw[hD2.2 x y hx hy];exact qA _ (qcb _)
end Go.Tn
end
section
namespace Go.Tn
open Go.Proofs
open Go.Sx
variable{S:Nat→Int}{X:List SV}{p:Nat}
theorem TYd:True∧qn Tryz.prog 191=some ⟨true,11,some [.int .i64 0,.int .i64 0,.int .i64 0,.int .i64 0,.int .i64 0,.int .i64 0,.int .i64 0,.int .i64 0,.int .i64 0,.int .i64 0,.int .i64 0],.array 11 2 1⟩∧qw Tryz.prog 191=some [(0,1),(1,1),(2,1),(3,1),(4,1),(5,1),(6,1),(7,1),(8,1),(9,1),(10,1)]∧zk Tryz.prog 191=some [.i .i64,.i .i64,.i .i64,.i .i64,.i .i64,.i .i64,.i .i64,.i .i64,.i .i64,.i .i64,.i .i64]∧qn Tryz.prog 194=some ⟨true,33,some [.bool false,.int .i64 0,.bool false,.bool false,.int .i64 0,.bool false,.bool false,.int .i64 0,.bool false,.bool false,.int .i64 0,.bool false,.bool false,.int .i64 0,.bool false,.bool false,.int .i64 0,.bool false,.bool false,.int .i64 0,.bool false,.bool false,.int .i64 0,.bool false,.bool false,.int .i64 0,.bool false,.bool false,.int .i64 0,.bool false,.bool false,.int .i64 0,.bool false],.array 11 193 3⟩∧qw Tryz.prog 194=some [(0,3),(3,3),(6,3),(9,3),(12,3),(15,3),(18,3),(21,3),(24,3),(27,3),(30,3)]∧zk Tryz.prog 194=some [.b,.i .i64,.b,.b,.i .i64,.b,.b,.i .i64,.b,.b,.i .i64,.b,.b,.i .i64,.b,.b,.i .i64,.b,.b,.i .i64,.b,.b,.i .i64,.b,.b,.i .i64,.b,.b,.i .i64,.b,.b,.i .i64,.b]∧qn Tryz.prog 196=some ⟨true,56,some [.int .i64 0,.int .i64 0,.int .i64 0,.int .i64 0,.int .i64 0,.int .i64 0,.int .i64 0,.int .i64 0,.int .i64 0,.int .i64 0,.int .i64 0,.int .i64 0,.int .i64 0,.int .i64 0,.int .i64 0,.int .i64 0,.int .i64 0,.int .i64 0,.int .i64 0,.int .i64 0,.int .i64 0,.int .i64 0,.bool false,.int .i64 0,.bool false,.bool false,.int .i64 0,.bool false,.bool false,.int .i64 0,.bool false,.bool false,.int .i64 0,.bool false,.bool false,.int .i64 0,.bool false,.bool false,.int .i64 0,.bool false,.bool false,.int .i64 0,.bool false,.bool false,.int .i64 0,.bool false,.bool false,.int .i64 0,.bool false,.bool false,.int .i64 0,.bool false,.bool false,.int .i64 0,.bool false,.int .i64 0],.struct [(0,11,some true),(11,11,some true),(22,33,some true),(55,1,some false)]⟩∧qw Tryz.prog 196=some [(0,11),(11,11),(22,33),(55,1)]∧zk Tryz.prog 196=some [.i .i64,.i .i64,.i .i64,.i .i64,.i .i64,.i .i64,.i .i64,.i .i64,.i .i64,.i .i64,.i .i64,.i .i64,.i .i64,.i .i64,.i .i64,.i .i64,.i .i64,.i .i64,.i .i64,.i .i64,.i .i64,.i .i64,.b,.i .i64,.b,.b,.i .i64,.b,.b,.i .i64,.b,.b,.i .i64,.b,.b,.i .i64,.b,.b,.i .i64,.b,.b,.i .i64,.b,.b,.i .i64,.b,.b,.i .i64,.b,.b,.i .i64,.b,.b,.i .i64,.b,.i .i64]:=⟨trivial,Ωa,Ωa,Ωa,Ωa,Ωa,Ωa,Ωa,Ωa,Ωa⟩
def wc(S:Nat→Int)(X:List SV):List SV:=(List.range 11).map (λi=>SV.val (.int .i64 (S i)))++X
theorem yo:(wc S X).length=11+X.length:=by simp[wc]
theorem qcc(h:p<11):(wc S X)[p]? = some (.val (.int .i64 (S p))):=by
 unfold wc;rw[xc9 ΩG,List.getElem?_map,xe3 h];rfl
theorem qab{T:Nat→Int}(h:∀i,i<11→S i=T i):wc S X=wc T X:=by
 unfold wc
 congr 1
 exact List.map_congr_left λi hi=>by rw[h i (List.mem_range.1 hi)]
theorem qcd{v:Int}(h:p<11):(wc S X).set p (.val (.int .i64 v))=wc (λi=>if i=p then v else S i) X:=by
 unfold wc;rw[List.set_append_left _ _ ΩG]
 congr 1
 refine List.ext_getElem? λi=>?_;rw[List.getElem?_set,List.getElem?_map,List.getElem?_map];by_cases c:i<11
 ·rw[xe3 c]
  by_cases e:p=i
  ·subst e;rw[if_pos rfl,if_pos ΩG];simp
  ·rw[if_neg e];simp[Ne.symm e]
 ·rw[List.getElem?_eq_none (by simpa using c),if_neg Ω];rfl
theorem qdU{v:SV}(h:11≤p):(wc S X).set p v=wc S (X.set (p - 11) v):=by
 unfold wc;rw[List.set_append_right _ _ ΩG];simp
theorem qnt{vs:List SV}(h:11≤p):(wc S X).take p++vs++(wc S X).drop (p+vs.length)=wc S (X.take (p - 11)++vs++X.drop (p - 11+vs.length)):=by
 unfold wc;rw[List.take_append,List.drop_append,List.take_of_length_le ΩG,List.drop_of_length_le Ωl];simp only[xe1,List.length_range,List.nil_append,List.append_assoc];rw[show p+vs.length - 11=p - 11+vs.length by omega]
def NWL:List SV:=(List.replicate 11 (SV.val (.int .i64 0)))++(List.replicate 11 [SV.val (.bool false),.val (.int .i64 0),.val (.bool false)]).flatten++[.val (.int .i64 0)]
def shC(h:Ha):SV:=.cmp false kf2 (dA (h.w+1) (h.sl (h.w+h.k))) (gA (h.sl (h.w+h.k)))
theorem qlt(h:Ha):Old (shC h):=by
 refine⟨rfl,λkey hk=>?_⟩;obtain⟨x,y,hx,hy,rfl⟩:=dF_iff.1 (by rw[qdT,xe6]at hk;exact hk.1);exact qcb _
def w11(S:Nat→Int):List SV:=(List.range 11).map λi=>SV.val (.int .i64 (S i))
theorem qdV:(w11 S).length=11:=by simp[w11]
theorem qjp:(w11 S).take 11=w11 S:=by rw[List.take_of_length_le (by rw[qdV];omega)]
theorem qdW:(wc S X).take 11=w11 S:=by
 unfold wc w11;rw[List.take_left' Ωi]
theorem qlu:allOne (w11 S)=true:=rfl
theorem w11_eq{T:Nat→Int}:eqSVs (w11 S) (w11 T)=true↔∀i,i<11→S i=T i:=by
 have:∀l:List Nat,eqSVs (l.map λi=>SV.val (.int .i64 (S i))) (l.map λi=>SV.val (.int .i64 (T i)))=true↔∀i,i∈l→S i=T i:=λl=>by
  induction l with
  |nil=>simp[eqSVs]
  |cons x l ih=>simp only[List.map_cons,eqSVs,xe6,ih,List.mem_cons,forall_eq_or_imp];simp[eqV]
 rw[w11,w11,this];simp
theorem qnu{C:Nat→Nat→Int}{n a:Nat}(ha:a<n)(k x:Nat)(hx:n≤x):itR C n (S0 a) k x=NW:=by
 refine qbn (Q:=λS=>S x=NW) (λS p q hp hq h=>?_) ?_ k
 ·unfold rlx;rw[if_neg Ω];exact h
 ·unfold S0;rw[if_neg Ω]
theorem qoO(h:Ha)(o:h.Ok)(a:Nat)(ha:a≤h.w)(res:SV)(hy:∀k,k<h.w+2→(∀x,x≤h.w→itR h.C (h.w+1) (S0 a) (k+1) x=itR h.C (h.w+1) (S0 a) k x)→∃D:Nat→Int,res=.tup [.ref true (h.w+1) (λi=>I (D i)),B true]∧∀x,x≤h.w→itR h.C (h.w+1) (S0 a) (k+1) x=D x)(hn:(∀k,k<h.w+2→¬∀x,x≤h.w→itR h.C (h.w+1) (S0 a) (k+1) x=itR h.C (h.w+1) (S0 a) k x)→res=.tup [.top,B false]):qc Tryz.prog 117 [shR h (shC h),I a] res:=by
 have hw:=o.w2;have hbd:=qhA o.cb (by omega:h.w+1≤11) a;obtain⟨T,hT⟩:∃T,T=itR h.C (h.w+1) (S0 a):=⟨_,rfl⟩;rw[←hT]at hy hn hbd;refine kG (jZ 19 [(116,121),(116,124)]) Tryz.func117 rfl Ωa follows Ωa _ _ (by rw[Tryz.ntmps117];simp) (by simp only[OldL,V9 h (qlt h),true_and];simp[Old,I]) ?_;have NB:True:=trivial;unfold I
 conv=>arg 4;unfold shR shL
 repeat' first|refine sD ?_ ?_<;>intro _|refine aAc ?_|simp -dsimp only[↓RP,RQ,seval,TYc,TYd,NB,QR,QT,QN]|exact Ωb|fail
 obtain⟨R,hR⟩:∃R:SV,R=.ref false 4 (λj=>[SV.val (.int .i64 (h.w:Nat)),.val (.int .i64 h.m),ctR h,shC h].getD j SV.top):=⟨_,rfl⟩;rw[←hR];refine qo (λ(p:Nat)=>p≤11) (λp=>⟨[(0,R),(1,.val (.int .i64 (a:Nat))),(6,.ptr 3 0),(15,.val (.int .i64 (p:Nat)))],[(3,.cells 196 (wc (λi=>if i<p then NW else 0) NWL))],7+20*p⟩) (λp=>11 - p) 0 (xb6 _) (qj Ω Ωc (λq v hv=>hv)) λp hp=>?_;by_cases hp2:p<11
 ·have hlt:=decide_eq_true (Ω:((p:Nat):Int)<11)
  have hset:=qcd (S:=λi=>if i<p then NW else 0) (X:=NWL) (v:=1099511627776) hp2;clear NB;have NB:=(⟨nmA (Ω:3<7+20*p),yo⟩:_∧∀{S X},(wc S X).length=_);repeat' first|refine sD ?_ ?_<;>intro _|refine aAc ?_|simp -dsimp only[↓RP,RQ,seval,hlt,hset,TYc,TYd,NB,QR,QT,QN]|exact Ωb|fail
  refine⟨p+1,hp2,Ω,qj Ω Ωc ?hA⟩
  case hA=>
   rw[qab (S:=λi=>if i<p+1 then NW else 0) (T:=λi=>if i=p then 1099511627776 else if i<p then NW else 0) λi hi=>by
    by_cases c:i=p
    ·rw[if_pos Ω,if_pos c];rfl
    ·rw[if_neg c];by_cases d:i<p
     ·rw[if_pos Ω,if_pos d]
     ·rw[if_neg Ω,if_neg d]]
   exact λq v hv=>hv
 obtain rfl:p=11:=by omega
 have hlt:=decide_eq_false (Ω:¬((11:Nat):Int)<11);have hset:=qcd (S:=λi=>if i<11 then NW else 0) (X:=NWL) (p:=a) (v:=0) Ω;have hl:=yo (S:=λi=>if i<11 then NW else 0) (X:=NWL);repeat' first|refine sD ?_ ?_<;>intro _|refine aAc ?_|simp -dsimp only[↓RP,RQ,seval,hlt,hset,hR,TYc,TYd,NB,QR,QT,QN]|exact Ωb|fail
 have hT0:wc (λi=>if i=a then 0 else if i<11 then NW else 0) NWL=wc (T 0) NWL:=qab λi hi=>by
  rw[hT];show _=S0 a i;unfold S0;rw[if_pos hi]
 rw[hT0];refine qo (λ(z:Nat×List SV×Nat)=>z.1≤h.w+2∧z.2.1.length=45∧3<z.2.2∧∀k,k<z.1→¬∀x,x≤h.w→T (k+1) x=T k x) (λz=>⟨[(0,R),(1,.val (.int .i64 (a:Nat))),(6,.ptr 3 0),(34,.val (.int .i64 ((h.w:Nat)+2))),(35,.val (.int .i64 (z.1:Nat)))],[(3,.cells 196 (wc (T z.1) z.2.1))],z.2.2⟩) (λz=>h.w+2 - z.1) (0,NWL,_) ⟨xb6 _,rfl,?hB,λk hk=>absurd hk (Nat.not_lt_zero k)⟩ (qj (xa5 _) ΩX (λq v hv=>hv)) λz hz=>?_
 case hB=>dsimp only;omega
 obtain⟨k,X,n1⟩:=z;obtain⟨hk,hX,hn1,hnk⟩:=hz;dsimp only at hk hX hn1 hnk;dsimp only;clear NB;have NB:=nmA hn1;by_cases hkw:k<h.w+2
 ·have hlt:=decide_eq_true (Ω:((k:Nat):Int)<(h.w:Nat)+2)
  have wl:=yo (S:=T k) (X:=X);rw[hX]at wl;have wt:=qdW (S:=T k) (X:=X);have w1:=qdV (S:=T k);have w2:=qlu (S:=T k);repeat' first|refine sD ?_ ?_<;>intro _|refine aAc ?_|simp -dsimp only[↓RP,RQ,seval,hlt,hR,wl,wt,w1,w2,TYc,TYd,NB,QR,QT,QN]|exact Ωb|fail
  obtain⟨sid,hsid⟩:∃c,c=n1+5:=⟨_,rfl⟩;rw[←hsid];obtain⟨V,hV⟩:∃V,V=rnd h.C (h.w+1) (T k):=⟨_,rfl⟩;have hVn:V (h.w+1)=T (k+1):=by rw[hV,hT];rfl
  have hVb:=qbp o.cb (by omega:h.w+1≤11) (hbd k);rw[←hV]at hVb;refine qo (λ(z:Nat×List SV×Nat)=>z.1≤h.w+1∧z.2.1.length=45∧sid<z.2.2) (λz=>⟨[(0,R),(1,.val (.int .i64 (a:Nat))),(6,.ptr 3 0),(8,.ptr sid 0),(34,.val (.int .i64 ((h.w:Nat)+2))),(35,.val (.int .i64 (k:Nat))),(46,.val (.int .i64 ((h.w:Nat)+1))),(47,.val (.int .i64 (z.1:Nat)))],[(sid,.cells 191 (w11 (T k))),(3,.cells 196 (wc (V z.1) z.2.1))],z.2.2⟩) (λz=>h.w+1 - z.1) (0,X,_) ⟨xb6 _,hX,?hC⟩ (qj (xa5 _) ΩX ?hD) λz hz=>?_
  case hC=>dsimp only;omega
  case hD=>rw[hV];exact λq v hv=>hv
  obtain⟨p,X2,n2⟩:=z;obtain⟨hp,hX2,hn2⟩:=hz;dsimp only at hp hX2 hn2;dsimp only;clear NB;have NB:=(⟨nmA (Ω:3<n2),nmA hn2,nmE (Ω:sid≠3)⟩:_∧_∧_);by_cases hpw:p<h.w+1
  ·have hlt2:=decide_eq_true (Ω:((p:Nat):Int)<(h.w:Nat)+1)
   repeat' first|refine sD ?_ ?_<;>intro _|refine aAc ?_|simp -dsimp only[↓RP,RQ,seval,hlt2,hR,TYc,TYd,NB,QR,QT,QN]|exact Ωb|fail
   refine qo (λ(z:Nat×List SV×Nat)=>z.1≤h.w+1∧z.2.1.length=45∧sid<z.2.2) (λz=>⟨[(0,R),(1,.val (.int .i64 (a:Nat))),(6,.ptr 3 0),(8,.ptr sid 0),(9,.val (.int .i64 (p:Nat))),(34,.val (.int .i64 ((h.w:Nat)+2))),(35,.val (.int .i64 (k:Nat))),(46,.val (.int .i64 ((h.w:Nat)+1))),(47,.val (.int .i64 (p:Nat))),(55,.val (.int .i64 ((h.w:Nat)+1))),(56,.val (.int .i64 (z.1:Nat)))],[(sid,.cells 191 (w11 (T k))),(3,.cells 196 (wc (jF h.C (V p) p z.1) z.2.1))],z.2.2⟩) (λz=>h.w+1 - z.1) (0,X2,_) ⟨xb6 _,hX2,?hE⟩ (qj (xa5 _) ΩX (λq v hv=>hv)) λz hz=>?_
   case hE=>dsimp only;omega
   obtain⟨q,X3,n3⟩:=z;obtain⟨hq,hX3,hn3⟩:=hz;dsimp only at hq hX3 hn3;dsimp only;clear NB;have NB:=(⟨nmA (Ω:3<n3),nmA hn3,nmE (Ω:sid≠3)⟩:_∧_∧_);by_cases hqw:q<h.w+1
   ·have hlt3:=decide_eq_true (Ω:((q:Nat):Int)<(h.w:Nat)+1)
    have hsb:=qbo (p:=p) o.cb hpw (hVb p Ω) q;obtain⟨S,hS⟩:∃S,S=jF h.C (V p) p q:=⟨_,rfl⟩;have hSn:jF h.C (V p) p (q+1)=rlx h.C S p q:=by rw[hS];rfl
    rw[←hS]at hsb ⊢;have hda:dA (h.w+1) (h.sl (h.w+h.k)) (.agg #[.int .i64 (p:Nat),.int .i64 (q:Nat)])=decide (h.C p q≠NW):=by
     show(decide _&&decide _)=_;rw[decide_eq_true (by omega:0≤(p:Int)∧(p:Int)<(h.w+1:Nat)∧0≤(q:Int)∧(q:Int)<(h.w+1:Nat)),xf0,Wt,h.sl_st];rfl
    have hga:gA (h.sl (h.w+h.k)) (.agg #[.int .i64 (p:Nat),.int .i64 (q:Nat)])=aS (aL (h.sl (h.w+h.k)) p q):=rfl;obtain⟨A,hA⟩:∃A,A=aL (h.sl (h.w+h.k)) p q:=⟨_,rfl⟩;have hA1:A.1=h.C p q:=by rw[hA,Wt,h.sl_st];rfl
    rw[←hA]at hga;unfold aS at hga;by_cases hc:h.C p q=NW
    ·rw[decide_eq_false (λe=>e hc)]at hda
     repeat' first|refine sD ?_ ?_<;>intro _|refine aAc ?_|simp -dsimp only[↓RP,RQ,seval,hlt3,hR,shC,kf2,hda,hga,TYc,TYd,NB,QR,QT,QN]|exact Ωb|fail
     refine⟨(q+1,X3,_),⟨hqw,hX3,?g1⟩,Ωg,qj (xa5 _) ΩT ?g2⟩
     case g1=>dsimp only;omega
     case g2=>
      dsimp only;rw[hSn,show rlx h.C S p q=S by funext x;unfold rlx;rw[if_neg (λe=>e.2.1 hc)]]
      ((repeat' (refine SubHp.ent Ωx ?_));exact λq v hv=>Ωt)
    ·rw[decide_eq_true hc]at hda
     have g1:=qcc (S:=S) (X:=X3) (p:=p) Ω;have g2:=qcc (S:=S) (X:=X3) (p:=q) Ω;by_cases hs:S p=1099511627776
     ·have d1:=decide_eq_true hs
      repeat' first|refine sD ?_ ?_<;>intro _|refine aAc ?_|simp -dsimp only[↓RP,RQ,seval,hlt3,hR,shC,kf2,hda,hga,g1,g2,d1,TYc,TYd,NB,QR,QT,QN]|exact Ωb|fail
      refine⟨(q+1,X3,_),⟨hqw,hX3,?h1⟩,Ωg,qj (xa5 _) ΩT ?h2⟩
      case h1=>dsimp only;omega
      case h2=>
       dsimp only;rw[hSn,show rlx h.C S p q=S by funext x;unfold rlx;rw[if_neg (λe=>e.2.2.1 hs)]]
       ((repeat' (refine SubHp.ent Ωx ?_));exact λq v hv=>Ωt)
     ·have d1:=decide_eq_false hs
      have b1:=o.cb p q hc;have b2:=(hsb p Ω).resolve_left hs;rw[hA1]at hga;by_cases hl:S p+h.C p q<S q
      ·have d2:=decide_eq_false (Ω:¬S q≤S p+h.C p q)
       have wl:=yo (S:=S) (X:=X3);rw[hX3]at wl;have hq11:q<11:=by omega
       obtain⟨S1,hS1⟩:∃S1,S1=λi=>if i=q then S p+h.C p q else S i:=⟨_,rfl⟩
       have e1:=qcd (S:=S) (X:=X3) (v:=S p+h.C p q) hq11;rw[←hS1]at e1;have e3:∀X4:List SV,(wc S1 X4).take (22+q*3)++[SV.val (.bool A.2.1),.val (.int .i64 A.2.2.1),.val (.bool A.2.2.2)]++(wc S1 X4).drop (22+(q*3+3))=wc S1 (X4.take (22+q*3 - 11)++[SV.val (.bool A.2.1),.val (.int .i64 A.2.2.1),.val (.bool A.2.2.2)]++X4.drop (22+q*3 - 11+3)):=λX4=>by
        have h11:11≤22+q*3:=by omega
        rw[show 22+(q*3+3)=22+q*3+3 from by omega];exact qnt (vs:=[SV.val (.bool A.2.1),.val (.int .i64 A.2.2.1),.val (.bool A.2.2.2)]) h11
       have e2:∀X4 v,(wc S1 X4).set (11+q) v=_:=λX4 v=>qdU (Nat.le_add_right 11 q);have e4:∀X4 v,(wc S1 X4).set 55 v=_:=λX4 v=>qdU (show 11≤55 by decide);repeat' first|refine sD ?_ ?_<;>intro _|refine aAc ?_|simp -dsimp only[↓RP,RQ,seval,hlt3,hR,shC,kf2,hda,hga,g1,g2,d1,d2,wl,TYc,TYd,NB,QR,QT,QN]|exact Ωb|fail
       rw[e1,e2,e3,e4,yo,yo,yo];simp only[xc8,xd9,List.length_drop,xe5,xe4,List.length_nil,hX3];refine⟨Ω,Ω,Ω,Ω,by simp only[InK];omega,(q+1,(((X3.set (11+q - 11) (.val (.int .i64 (p:Nat)))).take (22+q*3 - 11)++[SV.val (.bool A.2.1),.val (.int .i64 A.2.2.1),.val (.bool A.2.2.2)]++(X3.set (11+q - 11) (.val (.int .i64 (p:Nat)))).drop (22+q*3 - 11+3)).set (55 - 11) (.val (.int .i64 (q:Nat)))),_),⟨hqw,?l0,?l1⟩,Ωg,qj (xa5 _) ΩT ?l2⟩
       case l1=>dsimp only;omega
       case l2=>
        dsimp only;rw[hSn,hS1,show rlx h.C S p q=λi=>if i=q then S p+h.C p q else S i by
         funext x;unfold rlx;by_cases c:x=q
         ·rw[if_pos ⟨c,hc,hs,hl⟩,if_pos c]
         ·rw[if_neg (λe=>c e.1),if_neg c]]
        ((repeat' (refine SubHp.ent Ωx ?_));exact λq v hv=>Ωt)
       case l0=>simp only[xc8,xd9,List.length_drop,xe5,xe4,List.length_nil,hX3];omega
      ·have d2:=decide_eq_true (Ω:S q≤S p+h.C p q)
       repeat' first|refine sD ?_ ?_<;>intro _|refine aAc ?_|simp -dsimp only[↓RP,RQ,seval,hlt3,hR,shC,kf2,hda,hga,g1,g2,d1,d2,TYc,TYd,NB,QR,QT,QN]|exact Ωb|fail
       refine⟨(q+1,X3,_),⟨hqw,hX3,?i1⟩,Ωg,qj (xa5 _) ΩT ?i2⟩
       case i1=>dsimp only;omega
       case i2=>
        dsimp only;rw[hSn,show rlx h.C S p q=S by funext x;unfold rlx;rw[if_neg (λe=>hl e.2.2.2)]]
        ((repeat' (refine SubHp.ent Ωx ?_));exact λq v hv=>Ωt)
   ·obtain rfl:q=h.w+1:=by omega
    have hlt3:=decide_eq_false (Ω:¬((h.w+1:Nat):Int)<(h.w:Nat)+1);have hVs:jF h.C (V p) p (h.w+1)=V (p+1):=by rw[hV];rfl
    rw[hVs];repeat' first|refine sD ?_ ?_<;>intro _|refine aAc ?_|simp -dsimp only[↓RP,RQ,seval,hlt3,hR,TYc,TYd,NB,QR,QT,QN]|exact Ωb|fail
    refine⟨(p+1,X3,_),⟨hpw,hX3,?j1⟩,Ωg,qj (xa5 _) ΩX ?j2⟩
    case j1=>dsimp only;omega
    case j2=>((repeat' (refine SubHp.ent Ωx ?_));exact λq v hv=>Ωt)
  ·obtain rfl:p=h.w+1:=by omega
   have hlt2:=decide_eq_false (Ω:¬((h.w+1:Nat):Int)<(h.w:Nat)+1);rw[hVn];have wt3:=qjp (S:=T k);have wt4:=qdW (S:=T (k+1)) (X:=X2);have wl4:=yo (S:=T (k+1)) (X:=X2);rw[hX2]at wl4;have hout:∀j x,h.w<x→T j x=NW:=λj x hx=>by rw[hT];exact qnu Ω j x hx
   by_cases hfx:∀x,x≤h.w→T (k+1) x=T k x
   ·have d1:eqSVs (w11 (T k)) (w11 (T (k+1)))=true:=w11_eq.2 λi hi=>by
     by_cases c:i≤h.w
     ·exact(hfx i c).symm
     ·rw[hout _ _ Ω,hout _ _ Ω]
    obtain⟨D,hr,hD⟩:=hy k hkw hfx;rw[hr];repeat' first|refine sD ?_ ?_<;>intro _|refine aAc ?_|simp -dsimp only[↓RP,RQ,seval,hlt2,hR,w1,wt3,wt4,wl4,d1,QT,TYc,TYd,NB,QR,QN]|exact Ωb|fail
    intro j hj;refine⟨?_,Ω⟩;rw[xc6,qcc Ω,←hD j Ω];rfl
   ·have d1:eqSVs (w11 (T k)) (w11 (T (k+1)))=false:=by
     cases e:eqSVs (w11 (T k)) (w11 (T (k+1)))with
     |false=>rfl
     |true=>exact absurd (λx hx=>((w11_eq.1 e) x Ω).symm) hfx
    repeat' first|refine sD ?_ ?_<;>intro _|refine aAc ?_|simp -dsimp only[↓RP,RQ,seval,hlt2,hR,w1,wt3,wt4,wl4,d1,TYc,TYd,NB,QR,QT,QN]|exact Ωb|fail
    refine⟨(k+1,X2,_),⟨hkw,hX2,?f1,λj hj=>?f2⟩,Ωg,qj (xa5 _) ΩX ?f3⟩
    case f1=>dsimp only;omega
    case f2=>
     by_cases c:j=k
     ·rw[c];exact hfx
     ·exact hnk j (by dsimp only at hj;omega)
    case f3=>((repeat' (refine SubHp.ent Ωx ?_));exact λq v hv=>Ωt)
 ·obtain rfl:k=h.w+2:=by omega
  have hlt:=decide_eq_false (Ω:¬((h.w+2:Nat):Int)<(h.w:Nat)+2);rw[hn hnk];unfold B;repeat' first|refine sD ?_ ?_<;>intro _|refine aAc ?_|simp -dsimp only[↓RP,RQ,seval,hlt,hR,TYc,TYd,NB,QR,QT,QN]|exact Ωb|fail
theorem qoP(h:Ha)(o:h.Ok)(a:Nat)(ha:a≤h.w):(∃D,Lst h.C (h.w+1) a D∧qc Tryz.prog 117 [shR h (shC h),I a] (.tup [.ref true (h.w+1) (λi=>I (D i)),B true]))∨((∀F,¬h.Tru F)∧qc Tryz.prog 117 [shR h (shC h),I a] (.tup [.top,B false])):=by
 have hw:=o.w2;rcases o.least ha with⟨D,hD,⟨k0,hk0,hfix⟩,hall⟩|⟨hno,hnf⟩
 ·exact .inl ⟨D,hD,qoO h o a ha _ (λk hk hf=>⟨D,rfl,hall k hf⟩) λhn=>absurd hfix (hn k0 Ω)⟩
 ·exact .inr ⟨hno,qoO h o a ha _ (λk hk hf=>absurd hf (hnf k Ω)) λ_=>rfl⟩
end Go.Tn
end
section
namespace Go.Tn
open Go.Proofs
open Go.Sx
variable{hp:List (Nat×Blk)}{h:Ha}
theorem qpG(n lo hi:Int):qc Tryz.prog 233 (.val (.int .i64 n) :: vD lo hi) (B (decide (n<lo) || decide (hi<n))):=by
 refine qh Tryz.func233 rfl Ωa follows Ωa _ _ (by rw[Tryz.ntmps233];simp[vD]) (by simp[OldL,Old,vD]) ?_;unfold vD B;(repeat' (first|refine sD ?_ ?_<;>intro _|refine aA ?_|simp -dsimp only[↓RP,RQ,seval,TYQ,TY,Tryz.results233]))
 all_goals (refine GE ?_;rw[Bool.eq_iff_iff];simp;omega)
theorem qnv(m:Nat)(u:Nat→Int)(lo hi:Int)(hm:m≤1000000):qc Tryz.prog 115 [I lo,I hi,ints m u] (B (decide (gk u m lo hi))):=by
 refine qh Tryz.func115 rfl Ωa follows Ωa _ _ (by rw[Tryz.ntmps115];simp) (by simp[OldL,Old,ints,I]) ?_;unfold I B;(simp -dsimp only[↓RP,RQ,seval,TYQ,TY,Tryz.results115]);refine qq (qmL m u 233 (vD lo hi) (qhn lo hi) (λi=>decide (u i<lo) || decide (hi<u i)) hm λi _=>qpG (u i) lo hi) (by(simp -dsimp only[↓RP,RQ,seval,QV,ints,vD,I]);all_goals (try simp[vD,ints])) Ωw ?_;(repeat' (first|refine sD ?_ ?_<;>intro _|refine aA ?_|simp -dsimp only[↓RP,RQ,seval,B,TYQ,TY,Tryz.results115]));refine GE ?_;rw[Bool.eq_iff_iff];have:=ZN u m lo hi;by_cases h:gk u m lo hi
 ·have h':¬qbi (λi=>decide (u i<lo) || decide (hi<u i)) m:=λy=>this.1 y h
  rw[decide_eq_true h,decide_eq_false h'];simp
 ·rw[decide_eq_false h,decide_eq_true (this.2 h)];simp
theorem qdX{m:Nat}{u:Nat→Int}{lo hi:Int}(hm:m≤1000000)(h:∀i,i<m→lo≤u i∧u i≤hi):qc Tryz.prog 115 [I lo,I hi,ints m u] (B true):=by
 have:=qnv m u lo hi hm
 rwa [decide_eq_true (show gk u m lo hi from h)]at this
theorem qpH(h:Ha)(g:Nat)(caps:List SV)(ho:OldL caps)(b:Nat→Bool)(hm:h.k≤1000000)(hg:∀i,i<h.k→qc Tryz.prog g (.agg (ctL h i) :: caps) (B (b i))):qc Tryz.prog 371 [ctR h,.fn (.func g) [] caps] (I (g6 b 0 h.k)):=by
 have hct:∀i,[SV.val (.int .i64 (h.f i)),.val (.int .i64 (h.t i)),.val (.int .i64 (h.lo i)),.val (.int .i64 (h.hi i))]=ctL h i:=λ_=>rfl;refine qh Tryz.func371 rfl Ωa follows Ωa _ _ (by rw[Tryz.ntmps371];simp) (by simp only[OldL,kJ,Old,ho,and_self]) ?_
 conv=>arg 4;unfold ctR
 (simp -dsimp only[↓RP,RQ,seval,TYQ,TYP,TYc,TY,Tryz.results371]);refine qo (λi=>i≤h.k∧g6 b 0 h.k=g6 b i (h.k - i)) (λi=>⟨[(0,.arr false false h.k 4 (λi j=>(ctL h i).getD j .top)),(1,.fn (.func g) [] caps),(6,.arr false false h.k 4 (λi j=>(ctL h i).getD j .top)),(7,.val (.int .i64 h.k)),(8,.val (.int .i64 i))],[],4+20*i⟩) (λi=>h.k - i) 0 ⟨xb6 _,rfl⟩ (qj Ω Ωc (λq v hv=>hv)) λi hi=>?_;obtain⟨hi,he⟩:=hi;have e1:∀k,h.k - i=k+1→g6 b i (h.k - i)=if b i=true then(i:Int)else g6 b (i+1) k:=λk hk=>by rw[hk];rfl
 repeat' first|refine sD ?_ ?_<;>intro _|refine aAc ?_|simp -dsimp only[↓RP,RQ,seval,ctL,TYQ,TYP,TYc,QT,QN]
 ·rename_i hlt
  have hlt:i<h.k:=by omega
  have e2:=e1 (h.k -(i+1)) Ω;refine qq (hg i hlt) (by simp only[SubL,and_true,subL_refl caps ho];simp[ctL,Go.Sx.Sub,SubL]) Ωw ?_;repeat' first|refine sD ?_ ?_<;>intro _|refine aAc ?_|simp -dsimp only[↓RP,RQ,seval,ctL,TYQ,TYP,TYc,QT,QN]
  ·rename_i h
   refine vC ?_;rw[he,e2,if_pos h]
  ·rename_i h1
   refine⟨i+1,⟨Ω,?_⟩,Ω,qj Ω (by simp[qI,Go.Sx.look,ctL]) (λq v hv=>Ωt)⟩;rw[he,e2,if_neg (by simp[h1])]
 ·rename_i hlt
  refine vC ?_;have:h.k - i=0:=by omega
  rw[he,this];rfl
theorem qoQ(h:Ha)(g:Nat)(caps:List SV)(ho:OldL caps)(hm:h.k≤1000000)(hg:∀i,i<h.k→qc Tryz.prog g (.agg (ctL h i) :: caps) (B false)):qc Tryz.prog 327 [ctR h,.fn (.func g) [] caps] (B false):=by
 refine qh Tryz.func327 rfl Ωa follows Ωa _ _ (by rw[Tryz.ntmps327];simp) (by simp only[OldL,kJ,Old,ho,and_self]) ?_;(simp -dsimp only[↓RP,RQ,seval,TY,QV,QN]);refine qq (qpH h g caps ho (λ_=>false) hm hg) (by simp only[SubL,and_true];exact⟨qA _ (kJ h),by simp[Go.Sx.Sub,SubL,subL_refl caps ho]⟩) (by(simp -dsimp only[↓RP,RQ,seval,I])) ?_;(repeat' (first|refine sD ?_ ?_<;>intro _|refine aA ?_|simp -dsimp only[↓RP,RQ,seval,I,B,QV,TYQ,TYP,TY,QN]));refine GE ?_;rw[Bool.eq_iff_iff];simp[Yl,qbi]
def Wu(h:Ha):List SV:=[.ref false 3 (λj=>[SV.val (.int .i64 h.w),.val (.int .i64 h.m),ctR h].getD j .top)]
theorem G8(h:Ha):OldL (Wu h):=by
 simp only[Wu,OldL,Old,and_true];refine⟨trivial,λj hj=>?_⟩;have:=kJ h;rcases(Ω:j=0∨j=1∨j=2)with rfl|rfl|rfl<;>simp_all [Old]
theorem vk{m id:Nat}{u:Nat→Int}{row:Nat→Nat→SV}(hb:blk hp id=some (.rows 2 1 m row))(h:∀i,i<m→row i 0=.val (.int .i64 (u i))):Go.Sx.Sub hp (ints m u) (.vec id m 1):=by
 simp only[ints,Go.Sx.Sub,hb];refine⟨trivial,trivial,trivial,xa5 _,trivial,λi j hi hj=>?_⟩;obtain rfl:j=0:=by omega
 rw[h i hi]
theorem zQ{x:Int}:Go.Sx.Sub hp (I x) (.val (.int .i64 x)):=by simp[I,Go.Sx.Sub]
theorem qpI(h:Ha)(o:h.Ok)(i:Nat)(hi:i<h.k):qc Tryz.prog 325 (.agg (ctL h i) :: Wu h) (B false):=by
 have h1:=o.ft i hi;have hw:=o.w2;have h2:=qdX (m:=2) (u:=λj=>if j=0 then((h.f i:Nat):Int)else(h.t i:Nat)) (lo:=0) (hi:=(h.w:Nat) - 1) Ω (λj hj=>by split<;>omega);have d1:=decide_eq_false (Ω:¬((h.t i:Nat):Int)<(h.f i:Nat));refine qh Tryz.func325 rfl Ωa follows Ωa _ _ (by rw[Tryz.ntmps325];simp[Wu]) (by simp only[OldL,G8,and_true];simp[Old,OldL,ctL]) ?_;unfold Wu ctL B;repeat' first|refine sD ?_ ?_<;>intro _|refine aAc ?_|simp -dsimp only[↓RP,RQ,seval,d1,TYQ,TYP,TYc,QT,QN]|exact Ωb|fail
 refine qq h2 (by simp only[SubL,and_true];exact⟨zQ,zQ,vk rfl λi hi=>(by rcases(Ω:i=0∨i=1)with rfl|rfl<;>rfl)⟩) ΩD ?_;repeat' first|refine sD ?_ ?_<;>intro _|refine aAc ?_|simp -dsimp only[↓RP,RQ,seval,QT,TYQ,TYP,TYc,QN]|exact Ωb|fail
theorem qpJ(h:Ha)(o:h.Ok)(i:Nat)(hi:i<h.k):qc Tryz.prog 326 [.agg (ctL h i)] (B false):=by
 have h1:=o.lh i hi;have h2:=qdX (m:=2) (u:=λj=>if j=0 then h.lo i else h.hi i) (lo:=0) (hi:=10000000) Ω (λj hj=>by split<;>omega);have d1:=decide_eq_false (Ω:¬h.hi i<h.lo i);refine qh Tryz.func326 rfl Ωa follows Ωa _ _ (by rw[Tryz.ntmps326];simp) (by simp[Old,OldL,ctL]) ?_;unfold ctL B;repeat' first|refine sD ?_ ?_<;>intro _|refine aAc ?_|simp -dsimp only[↓RP,RQ,seval,d1,TYQ,TYP,TYc,QT,QN]|exact Ωb|fail
 refine qq h2 (by simp only[SubL,and_true];exact⟨zQ,zQ,vk rfl λi hi=>(by rcases(Ω:i=0∨i=1)with rfl|rfl<;>rfl)⟩) ΩD ?_;repeat' first|refine sD ?_ ?_<;>intro _|refine aAc ?_|simp -dsimp only[↓RP,RQ,seval,QT,TYQ,TYP,TYc,QN]|exact Ωb|fail
theorem qac{id:Nat}(hb:blk hp id=some (.cells 97 [.val (.int .i64 h.w),.val (.int .i64 h.m),ctR h])):SubL hp (Wu h) [.ptr id 0]:=by
 simp only[Wu,SubL,Go.Sx.Sub,hb,and_true];intro j hj;rw[xb0];refine⟨?_,hj⟩;rcases(Ω:j=0∨j=1∨j=2)with rfl|rfl|rfl
 ·exact qA _ ΩC
 ·exact qA _ ΩC
 ·exact qA _ (kJ h)
theorem qpK(h:Ha)(o:h.Ok):qc Tryz.prog 230 [haS h] (I 0):=by
 have hw:=o.w2;have hw1:=o.w1;have hk:=o.k;have hm:=o.m;have h1:=qdX (m:=1) (u:=λ_=>((h.w:Nat):Int)) (lo:=1) (hi:=10) Ω (λj hj=>by omega);have h2:=qdX (m:=1) (u:=λ_=>h.m) (lo:=0) (hi:=1000000) Ω (λj hj=>by omega);have h3:=qoQ h 325 (Wu h) (G8 h) Ω λi hi=>qpI h o i hi;have h4:=qoQ h 326 [] trivial Ω λi hi=>qpJ h o i hi;have d1:=decide_eq_false (Ω:¬(10:Int)<(h.k:Nat));refine qh Tryz.func230 rfl Ωa follows Ωa _ _ (by rw[Tryz.ntmps230];simp) (by simp only[OldL,jK h,and_true]) ?_;unfold haS;repeat' first|refine sD ?_ ?_<;>intro _|refine aAc ?_|simp -dsimp only[↓RP,RQ,seval,d1,TYQ,TYP,TYc,QT,QN]|exact Ωb|fail
 refine qq h1 (by simp only[SubL,and_true];exact⟨zQ,zQ,vk rfl λi hi=>(by rw[show i=0 by omega];rfl)⟩) ΩD ?_;repeat' first|refine sD ?_ ?_<;>intro _|refine aAc ?_|simp -dsimp only[↓RP,RQ,seval,QT,ctR,TYQ,TYP,TYc,QN]|exact Ωb|fail
 refine qq h3 (by simp only[SubL,and_true];exact⟨qA _ (kJ h),rfl,rfl,qac rfl⟩) ΩD ?_;repeat' first|refine sD ?_ ?_<;>intro _|refine aAc ?_|simp -dsimp only[↓RP,RQ,seval,QT,ctR,TYQ,TYP,TYc,QN]|exact Ωb|fail
 refine qq h2 (by simp only[SubL,and_true];exact⟨zQ,zQ,vk rfl λi hi=>(by rw[show i=0 by omega];rfl)⟩) ΩD ?_;repeat' first|refine sD ?_ ?_<;>intro _|refine aAc ?_|simp -dsimp only[↓RP,RQ,seval,QT,ctR,TYQ,TYP,TYc,QN]|exact Ωb|fail
 refine qq h4 (by simp only[SubL,and_true];exact⟨qA _ (kJ h),rfl,rfl,rfl⟩) ΩD ?_;repeat' first|refine sD ?_ ?_<;>intro _|refine aAc ?_|simp -dsimp only[↓RP,RQ,seval,QT,ctR,TYQ,TYP,TYc,QN]|exact Ωb|fail
def shN(h:Ha):SV:=.ref true 4 (λj=>(shL h (.cmp true kf2 (dA (h.w+1) (h.sl (h.w+h.k))) (gA (h.sl (h.w+h.k))))).getD j .top)
theorem qjq{key:Value}(hk:dA (h.w+1) (h.sl (h.w+h.k)) key=true):Old (gA (h.sl (h.w+h.k)) key):=by
 obtain⟨x,y,hx,hy,rfl⟩:=dF_iff.1 (by rw[qdT,xe6]at hk;exact hk.1);exact qcb _
theorem qdY:∀j,j<4→Go.Sx.Sub hp ((shL h (.cmp true kf2 (dA (h.w+1) (h.sl (h.w+h.k))) (gA (h.sl (h.w+h.k))))).getD j .top) ((shL h (.cmp true kf2 (dA (h.w+1) (h.sl (h.w+h.k))) (gA (h.sl (h.w+h.k))))).getD j .top)∧Go.Sx.Sub hp ((shL h (shC h)).getD j .top) ((shL h (.cmp true kf2 (dA (h.w+1) (h.sl (h.w+h.k))) (gA (h.sl (h.w+h.k))))).getD j .top):=λj hj=>by
 rcases(Ω:j=0∨j=1∨j=2∨j=3)with rfl|rfl|rfl|rfl
 ·exact⟨qA _ (by simp[Old,shL]),qA _ (by simp[Old,shL])⟩
 ·exact⟨qA _ (by simp[Old,shL]),qA _ (by simp[Old,shL])⟩
 ·exact⟨qA _ (kJ h),qA _ (kJ h)⟩
 ·exact⟨⟨id,rfl,rfl,λkey hk=>qA _ (qjq hk)⟩,λe=>(by cases e),rfl,rfl,λkey hk=>qA _ (qjq hk)⟩
theorem qlv:Go.Sx.Sub hp (shR h (shC h)) (shN h):=⟨λe=>(by cases e),xa5 _,λj hj=>(qdY j hj).2⟩
theorem qoR(h:Ha)(o:h.Ok):qc Tryz.prog 114 [haS h,.val (.slice none 0 0)] (.tup [shN h,I 0]):=by
 have h1:=qpK h o;have h2:=qpF h o;have h3:=qoM 231 (Wu h) (G8 h);refine qh Tryz.func114 rfl Ωa follows Ωa _ _ (by rw[Tryz.ntmps114];simp) (by simp only[OldL,jK h,and_true,true_and];simp[Old]) ?_;unfold haS;repeat' first|refine sD ?_ ?_<;>intro _|refine aAc ?_|simp -dsimp only[↓RP,RQ,seval,TYQ,TYP,TYc,QT,QN]|exact Ωb|fail
 refine zY h1 ΩQ ?_;repeat' first|refine sD ?_ ?_<;>intro _|refine aAc ?_|simp -dsimp only[↓RP,RQ,seval,QT,TYQ,TYP,TYc,QN]|exact Ωb|fail
 refine qq h3 (by simp only[SubL,and_true];exact⟨by simp[Go.Sx.Sub],rfl,rfl,qac rfl⟩) ΩD ?_;repeat' first|refine sD ?_ ?_<;>intro _|refine aAc ?_|simp -dsimp only[↓RP,RQ,seval,QT,TYQ,TYP,TYc,QN]|exact Ωb|fail
 refine zY h2 ΩQ ?_;repeat' first|refine sD ?_ ?_<;>intro _|refine aAc ?_|simp -dsimp only[↓RP,RQ,seval,QT,shN,TYQ,TYP,TYc,QN]|exact Ωb|fail
 exact λj hj=>(qdY j hj).1
end Go.Tn
end
section
namespace Go.Tn
open Go.Proofs
open Go.Sx
def pfx(u:Nat→Int):Nat→Int
 |0=>0
 |n+1=>pfx u n+u n
theorem Wv{u:Nat→Int}{M:Int}{m:Nat}(h:∀i,i<m→0≤u i∧u i≤M){a:Nat}:∀{d:Nat},a+d≤m→0≤pfx u (a+d) - pfx u a∧pfx u (a+d) - pfx u a≤M*d
 |0,_=>by simp
 |d+1,hd=>by
  have h1:=Wv h (a:=a) (d:=d) Ω;have h2:=h (a+d) Ω;have e:M*((d+1:Nat):Int)=M*(d:Int)+M:=by rw[show((d+1:Nat):Int)=(d:Int)+1 by omega,Int.mul_add,Int.mul_one]
  rw[e];show 0≤pfx u (a+d)+u (a+d) - _∧pfx u (a+d)+u (a+d) - _≤_;omega
def Ha.sum(h:Ha)(u:Nat→Int)(j:Nat):Int:=pfx u (h.t j+1) - pfx u (h.f j)
def Ha.sOk(h:Ha)(u:Nat→Int)(n:Nat):Prop:=∀j,j<n→h.lo j≤h.sum u j∧h.sum u j≤h.hi j
instance(h:Ha)(u:Nat→Int)(n:Nat):Decidable (h.sOk u n):=by unfold Ha.sOk;infer_instance
def ckT(h:Ha)(m:Nat)(u:Nat→Int):Int:=if m≠h.w then 15 else if ¬gk u m 0 h.m then 3 else if h.sOk u h.k then 0 else 14
theorem Ww{h:Ha}{u:Nat→Int}:ckT h h.w u=0↔h.Tru (pfx u):=by
 unfold ckT Ha.Tru gk;rw[if_neg Ωi];have e:∀i,pfx u (i+1) - pfx u i=u i:=λi=>by show pfx u i+u i - _=_;omega
 constructor
 ·intro hc
  split at hc
  ·omega
  ·rename_i h1
   split at hc
   ·rename_i h2
    exact⟨λi hi=>by rw[e];exact xf9 λc=>h1 λhh=>c (hh i hi),h2⟩
   ·omega
 ·rintro⟨h1,h2⟩
  rw[if_neg (λc=>c λi hi=>by have:=h1 i hi;rwa [e]at this),if_pos (show h.sOk u h.k from h2)]
theorem qpL(lo hi M:Int):qc Tryz.prog 118 [.agg [.val (.int .i64 lo),.val (.int .i64 hi)],I M] (B (decide (0≤lo∧lo≤hi∧hi≤M))):=by
 refine qh Tryz.func118 rfl Ωa follows Ωa _ _ (by rw[Tryz.ntmps118];simp) (by simp[OldL,Old,I]) ?_;unfold I B;repeat' first|refine sD ?_ ?_<;>intro _|refine aAc ?_|simp -dsimp only[↓RP,RQ,seval,TYQ,TYP,TYc,QT,QN]
 all_goals (refine GE ?_;rw[Bool.eq_iff_iff];simp;omega)
theorem c45(a b lo hi:Int):qc Tryz.prog 45 [I a,I b,I lo,I hi] (.agg [I a,I b,I lo,I hi]):=by
 refine qh Tryz.func45 rfl Ωa follows Ωa _ _ (by rw[Tryz.ntmps45];simp) (by simp[OldL,Old,I]) ?_;unfold I;repeat' first|refine sD ?_ ?_<;>intro _|refine aAc ?_|simp -dsimp only[↓RP,RQ,seval,TYQ,TYP,TYc,QT,QN]|exact Ωb|fail
theorem c51(m:Nat)(u:Nat→Int)(f t:Nat)(hft:f≤t+1)(ht:t<m)(hm:m≤1000)(hu:∀i,i<m→0≤u i∧u i≤1000000000):qc Tryz.prog 51 [ints m u,I f,I t] (I (pfx u (t+1) - pfx u f)):=by
 refine qh Tryz.func51 rfl Ωa follows Ωa _ _ (by rw[Tryz.ntmps51];simp) (by simp[OldL,Old,I,ints]) ?_;have NB:True:=trivial
 conv=>arg 4;unfold ints I
 repeat' first|refine sD ?_ ?_<;>intro _|refine aAc ?_|simp -dsimp only[↓RP,RQ,seval,TYQ,TYP,TYc,QT,QN]|exact Ωb|fail
 refine qo (λ(i:Nat)=>f≤i∧i≤t+1) (λi=>⟨[(0,.arr false false m 1 (λi _=>.val (.int .i64 (u i)))),(1,.val (.int .i64 (f:Nat))),(2,.val (.int .i64 (t:Nat))),(7,.val (.int .i64 (pfx u i - pfx u f))),(8,.val (.int .i64 (i:Nat)))],[],20*i+20⟩) (λi=>t+1 - i) f ⟨xa5 _,hft⟩ (qj Ω Ωc (λq v hv=>hv)) λi hi=>?_;obtain⟨h1,h2⟩:=hi;have b:=Wv hu (a:=f) (d:=i - f) Ω;rw[show f+(i - f)=i by omega]at b;by_cases hit:i≤t
 ·have hlt:=decide_eq_true (Ω:((i:Nat):Int)≤(t:Nat))
  have b2:=hu i Ω;repeat' first|refine sD ?_ ?_<;>intro _|refine aAc ?_|simp -dsimp only[↓RP,RQ,seval,hlt,TYQ,TYP,TYc,QT,QN]|exact Ωb|fail
  refine⟨i+1,⟨Ω,Ω⟩,Ω,qj Ω ?a1 (λq v hv=>hv)⟩
  case a1=>rw[show pfx u (i+1) - pfx u f=pfx u i - pfx u f+u i by show pfx u i+u i - _=_;omega];simp[qI,Go.Sx.look]
 ·obtain rfl:i=t+1:=by omega
  have hlt:=decide_eq_false (Ω:¬((t+1:Nat):Int)≤(t:Nat));repeat' first|refine sD ?_ ?_<;>intro _|refine aAc ?_|simp -dsimp only[↓RP,RQ,seval,hlt,QT,TYQ,TYP,TYc,QN]|exact Ωb|fail
def gL(f t lo hi:Nat→Int)(i:Nat):List SV:=[.val (.int .i64 (f i)),.val (.int .i64 (t i)),.val (.int .i64 (lo i)),.val (.int .i64 (hi i))]
def gC(k:Nat)(f t lo hi:Nat→Int):SV:=.arr false false k 4 (λi j=>(gL f t lo hi i).getD j .top)
def gH(w m:Int)(k:Nat)(f t lo hi:Nat→Int):SV:=.agg [.val (.int .i64 w),.val (.int .i64 m),gC k f t lo hi]
def gF(w:Int)(f t:Nat→Int)(n:Nat):Prop:=∀j,j<n→0≤f j∧f j≤t j∧t j<w
def gR(lo hi:Nat→Int)(n:Nat):Prop:=∀j,j<n→0≤lo j∧lo j≤hi j∧hi j≤10000000
instance(w:Int)(f t:Nat→Int)(n:Nat):Decidable (gF w f t n):=by unfold gF;infer_instance
instance(lo hi:Nat→Int)(n:Nat):Decidable (gR lo hi n):=by unfold gR;infer_instance
def ww(w m:Int)(k:Nat)(f t lo hi:Nat→Int):Int:=if w<1∨10<w∨10<k then 6 else if ¬gF w f t k then 2 else if m<0∨1000000<m then 3 else if gR lo hi k then 0 else 3
theorem qnw(k:Nat)(f t lo hi:Nat→Int):Old (gC k f t lo hi):=⟨rfl,λi j hi hj=>by
 unfold gL;exact qkO (P:=Old) ΩC ΩC ΩC ΩC j hj⟩
theorem qnx(w m:Int)(k:Nat)(f t lo hi:Nat→Int):Old (gH w m k f t lo hi):=by simp[gH,Old,OldL,qnw]
theorem qpM(w m:Int)(k:Nat)(f t lo hi:Nat→Int):qc Tryz.prog 55 [gH w m k f t lo hi] (I (ww w m k f t lo hi)):=by
 refine qh Tryz.func55 rfl Ωa follows Ωa _ _ (by rw[Tryz.ntmps55];simp) (by simp only[OldL,qnx,and_true]) ?_;have NB:True:=trivial
 conv=>arg 4;unfold gH gC
 by_cases c1:w<1
 ·have d1:=decide_eq_true c1
  rw[show ww w m k f t lo hi=6 by unfold ww;rw[if_pos (.inl c1)]];repeat' first|refine sD ?_ ?_<;>intro _|refine aAc ?_|simp -dsimp only[↓RP,RQ,seval,QT,d1,TYQ,TYP,TYc,QN]|exact Ωb|fail
 have d1:=decide_eq_false c1;by_cases c2:10<w
 ·have d2:=decide_eq_true c2
  rw[show ww w m k f t lo hi=6 by unfold ww;rw[if_pos (.inr (.inl c2))]];repeat' first|refine sD ?_ ?_<;>intro _|refine aAc ?_|simp -dsimp only[↓RP,RQ,seval,QT,d1,d2,TYQ,TYP,TYc,QN]|exact Ωb|fail
 have d2:=decide_eq_false c2;by_cases c3:10<k
 ·have d3:=decide_eq_true (Ω:(10:Int)<(k:Nat))
  rw[show ww w m k f t lo hi=6 by unfold ww;rw[if_pos (.inr (.inr c3))]];repeat' first|refine sD ?_ ?_<;>intro _|refine aAc ?_|simp -dsimp only[↓RP,RQ,seval,QT,d1,d2,d3,TYQ,TYP,TYc,QN]|exact Ωb|fail
 have d3:=decide_eq_false (Ω:¬(10:Int)<(k:Nat));have n1:¬(w<1∨10<w∨10<k):=λc=>c.elim c1 λc=>c.elim c2 c3;repeat' first|refine sD ?_ ?_<;>intro _|refine aAc ?_|simp -dsimp only[↓RP,RQ,seval,QT,d1,d2,d3,TYQ,TYP,TYc,QN]|exact Ωb|fail
 refine qo (λ(z:Nat×Nat)=>z.1≤k∧0<z.2∧gF w f t z.1) (λz=>⟨[(1,.ptr 0 0),(3,.val (.int .i64 (z.1:Nat)))],[(0,.cells 97 [.val (.int .i64 w),.val (.int .i64 m),.arr false false k 4 (λi j=>(gL f t lo hi i).getD j .top)])],z.2⟩) (λz=>k - z.1) (0,_) ⟨xb6 _,?a1,λj hj=>absurd hj (Nat.not_lt_zero j)⟩ (qj (xa5 _) Ωc (λq v hv=>hv)) λz hz=>?_
 case a1=>dsimp only;omega
 obtain⟨j,q1⟩:=z;obtain⟨hj,hq1,hG⟩:=hz;dsimp only at hj hq1 hG;dsimp only;clear NB;have NB:=nmA hq1;by_cases hjk:j<k
 ·have hlt:=decide_eq_true (Ω:((j:Nat):Int)<(k:Nat))
  by_cases hb:0≤f j∧f j≤t j∧t j<w
  ·have e1:=decide_eq_false (Ω:¬f j<0)
   have e2:=decide_eq_false (Ω:¬t j<f j);have e3:=decide_eq_false (Ω:¬w≤t j);repeat' first|refine sD ?_ ?_<;>intro _|refine aAc ?_|simp -dsimp only[↓RP,RQ,seval,QT,hlt,gL,e1,e2,e3,TYQ,TYP,TYc,QN]|exact Ωb|fail
   refine⟨(j+1,_),⟨hjk,?b1,λx hx=>?b2⟩,Ωg,qj (xa5 _) (by simp[qI,Go.Sx.look,gL]) ?b3⟩
   case b1=>dsimp only;omega
   case b2=>
    by_cases c:x=j
    ·rw[c];exact hb
    ·exact hG x (by dsimp only at hx;omega)
   case b3=>try unfold gL
            ((repeat' (refine SubHp.ent Ωo ?_));exact λq v hv=>Ωt)
  ·have e:ww w m k f t lo hi=2:=by unfold ww;rw[if_neg n1,if_pos (λc=>hb (c j hjk))]
   rw[e];have hjZ:((j:Nat):Int)<(k:Nat):=by omega
   clear e hG;by_cases x1:f j<0
   ·have e1:=decide_eq_true x1
    clear hb;repeat' first|refine sD ?_ ?_<;>intro _|refine aAc ?_|simp -dsimp only[↓RP,RQ,seval,QT,hlt,gL,e1,TYQ,TYP,TYc,QN]
    all_goals first|exact hjZ|skip
   ·have e1:=decide_eq_false x1
    by_cases x2:t j<f j
    ·have e2:=decide_eq_true x2
     clear hb;repeat' first|refine sD ?_ ?_<;>intro _|refine aAc ?_|simp -dsimp only[↓RP,RQ,seval,QT,hlt,gL,e1,e2,TYQ,TYP,TYc,QN]
     all_goals first|exact hjZ|skip
    ·have e2:=decide_eq_false x2
     have e3:=decide_eq_true (Ω:w≤t j);clear hb;repeat' first|refine sD ?_ ?_<;>intro _|refine aAc ?_|simp -dsimp only[↓RP,RQ,seval,QT,hlt,gL,e1,e2,e3,TYQ,TYP,TYc,QN]
     all_goals first|exact hjZ|skip
 obtain rfl:j=k:=by omega
 have hlt:=decide_eq_false (Ω:¬((j:Nat):Int)<(j:Nat));by_cases c4:m<0
 ·have d4:=decide_eq_true c4
  rw[show ww w m j f t lo hi=3 by unfold ww;rw[if_neg n1,if_neg (λc=>c hG),if_pos (.inl c4)]];repeat' first|refine sD ?_ ?_<;>intro _|refine aAc ?_|simp -dsimp only[↓RP,RQ,seval,QT,hlt,d4,TYQ,TYP,TYc,QN]|exact Ωb|fail
 have d4:=decide_eq_false c4;by_cases c5:1000000<m
 ·have d5:=decide_eq_true c5
  rw[show ww w m j f t lo hi=3 by unfold ww;rw[if_neg n1,if_neg (λc=>c hG),if_pos (.inr c5)]];repeat' first|refine sD ?_ ?_<;>intro _|refine aAc ?_|simp -dsimp only[↓RP,RQ,seval,QT,hlt,d4,d5,TYQ,TYP,TYc,QN]|exact Ωb|fail
 have d5:=decide_eq_false c5;have n2:¬(m<0∨1000000<m):=λc=>c.elim c4 c5;repeat' first|refine sD ?_ ?_<;>intro _|refine aAc ?_|simp -dsimp only[↓RP,RQ,seval,QT,hlt,d4,d5,TYQ,TYP,TYc,QN]|exact Ωb|fail
 refine qo (λ(z:Nat×Nat)=>z.1≤j∧0<z.2∧gR lo hi z.1) (λz=>⟨[(1,.ptr 0 0),(5,.val (.int .i64 (z.1:Nat)))],[(0,.cells 97 [.val (.int .i64 w),.val (.int .i64 m),.arr false false j 4 (λi j=>(gL f t lo hi i).getD j .top)])],z.2⟩) (λz=>j - z.1) (0,_) ⟨xb6 _,?f1,λj hj=>absurd hj (Nat.not_lt_zero j)⟩ (qj (xa5 _) Ωc (λq v hv=>hv)) λz hz=>?_
 case f1=>dsimp only;omega
 obtain⟨i,q2⟩:=z;obtain⟨hi2,hq2,hR⟩:=hz;dsimp only at hi2 hq2 hR;dsimp only;clear NB;have NB:=nmA hq2;by_cases hij:i<j
 ·have hlt2:=decide_eq_true (Ω:((i:Nat):Int)<(j:Nat))
  have h118:=qpL (lo i) (hi i) 10000000;have hiZ:((i:Nat):Int)<(j:Nat):=by omega
  by_cases hb:0≤lo i∧lo i≤hi i∧hi i≤10000000
  ·rw[decide_eq_true hb]at h118
   repeat' first|refine sD ?_ ?_<;>intro _|refine aAc ?_|simp -dsimp only[↓RP,RQ,seval,QT,hlt2,gL,TYQ,TYP,TYc,QN]|exact Ωb|fail
   refine qq h118 (by simp only[SubL,and_true];exact⟨by simp[Go.Sx.Sub,SubL],zQ⟩) ΩD ?_;repeat' first|refine sD ?_ ?_<;>intro _|refine aAc ?_|simp -dsimp only[↓RP,RQ,seval,QT,hlt2,TYQ,TYP,TYc,QN]|exact Ωb|fail
   refine⟨(i+1,_),⟨hij,?g1,λx hx=>?g2⟩,Ωg,qj (xa5 _) (by simp[qI,Go.Sx.look,gL]) ?g3⟩
   case g1=>dsimp only;omega
   case g2=>
    by_cases c:x=i
    ·rw[c];exact hb
    ·exact hR x (by dsimp only at hx;omega)
   case g3=>try unfold gL
            ((repeat' (refine SubHp.ent Ωo ?_));exact λq v hv=>Ωt)
  ·rw[decide_eq_false hb]at h118
   rw[show ww w m j f t lo hi=3 by unfold ww;rw[if_neg n1,if_neg (λc=>c hG),if_neg n2,if_neg (λc=>hb (c i hij))]];clear hb hG hR;repeat' first|refine sD ?_ ?_<;>intro _|refine aAc ?_|simp -dsimp only[↓RP,RQ,seval,QT,hlt2,gL,TYQ,TYP,TYc,QN]|exact Ωb|fail
   refine qq h118 (by simp only[SubL,and_true];exact⟨by simp[Go.Sx.Sub,SubL],zQ⟩) ΩD ?_;repeat' first|refine sD ?_ ?_<;>intro _|refine aAc ?_|simp -dsimp only[↓RP,RQ,seval,QT,hlt2,TYQ,TYP,TYc,QN]|exact Ωb|fail
 obtain rfl:i=j:=by omega
 have hlt2:=decide_eq_false (Ω:¬((i:Nat):Int)<(i:Nat));rw[show ww w m i f t lo hi=0 by unfold ww;rw[if_neg n1,if_neg (λc=>c hG),if_neg n2,if_pos hR]];repeat' first|refine sD ?_ ?_<;>intro _|refine aAc ?_|simp -dsimp only[↓RP,RQ,seval,QT,hlt2,TYQ,TYP,TYc,QN]|exact Ωb|fail
theorem c55(h:Ha)(o:h.Ok):qc Tryz.prog 55 [haS h] (I 0):=by
 have:=qpM h.w h.m h.k (λi=>h.f i) (λi=>h.t i) h.lo h.hi;have h1:=o.w1;have h2:=o.w2;have h3:=o.k;have h4:=o.m;rw[show ww h.w h.m h.k (λi=>h.f i) (λi=>h.t i) h.lo h.hi=0 by
  unfold ww;rw[if_neg Ω,if_neg (λc=>c λj hj=>by have:=o.ft j hj;dsimp only;omega),if_neg Ω,if_pos (show gR h.lo h.hi h.k from o.lh)]]at this
 exact this
theorem c49(h:Ha)(o:h.Ok)(m:Nat)(u:Nat→Int)(hm:m≤1000000):qc Tryz.prog 49 [haS h,ints m u] (I (ckT h m u)):=by
 have h1:=c55 h o;have hw:=o.w2;have hk:=o.k;have hM:=o.m;refine qh Tryz.func49 rfl Ωa follows Ωa _ _ (by rw[Tryz.ntmps49];simp) (by simp only[OldL,jK h,and_true,true_and];simp[Old,ints]) ?_;have NB:True:=trivial
 conv=>arg 4;unfold ints haS
 repeat' first|refine sD ?_ ?_<;>intro _|refine aAc ?_|simp -dsimp only[↓RP,RQ,seval,TYQ,TYP,TYc,QT,QN]|exact Ωb|fail
 refine zY h1 ΩQ ?_;by_cases hmw:m=h.w
 case neg=>
  have d1:=decide_eq_false (Ω:¬((m:Nat):Int)=(h.w:Nat));have e:ckT h m u=15:=by unfold ckT;rw[if_pos hmw]
  rw[e];repeat' first|refine sD ?_ ?_<;>intro _|refine aAc ?_|simp -dsimp only[↓RP,RQ,seval,QT,d1,TYQ,TYP,TYc,QN]|exact Ωb|fail
 subst hmw;repeat' first|refine sD ?_ ?_<;>intro _|refine aAc ?_|simp -dsimp only[↓RP,RQ,seval,QT,TYQ,TYP,TYc,QN]|exact Ωb|fail
 refine qo (λ(i:Nat)=>i≤h.w∧∀j,j<i→0≤u j∧u j≤h.m) (λi=>⟨[(1,.arr false false h.w 1 (λi _=>.val (.int .i64 (u i)))),(2,.ptr 0 0),(5,.val (.int .i64 (i:Nat)))],[(0,.cells 97 [.val (.int .i64 h.w),.val (.int .i64 h.m),ctR h])],50+40*i⟩) (λi=>h.w - i) 0 ⟨xb6 _,λj hj=>absurd hj (Nat.not_lt_zero j)⟩ (qj Ω Ωc (λq v hv=>hv)) λi hi=>?_;obtain⟨hi,hall⟩:=hi;clear NB;have NB:=nmA (Ω:0<50+40*i);by_cases hiw:i<h.w
 ·have hlt:=decide_eq_true (Ω:((i:Nat):Int)<(h.w:Nat))
  by_cases hui:0≤u i∧u i≤h.m
  ·have d1:=decide_eq_false (Ω:¬u i<0)
   have d2:=decide_eq_false (Ω:¬h.m<u i);repeat' first|refine sD ?_ ?_<;>intro _|refine aAc ?_|simp -dsimp only[↓RP,RQ,seval,QT,hlt,d1,d2,TYQ,TYP,TYc,QN]|exact Ωb|fail
   refine⟨i+1,⟨hiw,λj hj=>?b1⟩,Ω,qj Ω Ωc (λq v hv=>hv)⟩
   case b1=>
    by_cases c:j=i
    ·rw[c];exact hui
    ·exact hall j Ω
  ·have e:ckT h h.w u=3:=by
    unfold ckT;rw[if_neg Ωi,if_pos (λc=>hui (c i hiw))]
   rw[e];clear e hall;have hiZ:((i:Nat):Int)<(h.w:Nat):=by omega
   by_cases c:u i<0
   ·have d1:=decide_eq_true c
    clear hui;repeat' first|refine sD ?_ ?_<;>intro _|refine aAc ?_|simp -dsimp only[↓RP,RQ,seval,QT,hlt,d1,TYQ,TYP,TYc,QN]
    all_goals exact hiZ
   ·have d1:=decide_eq_false c
    have d2:=decide_eq_true (Ω:h.m<u i);clear hui;repeat' first|refine sD ?_ ?_<;>intro _|refine aAc ?_|simp -dsimp only[↓RP,RQ,seval,QT,hlt,d1,d2,TYQ,TYP,TYc,QN]
    all_goals exact hiZ
 obtain rfl:i=h.w:=by omega
 have hlt:=decide_eq_false (Ω:¬((h.w:Nat):Int)<(h.w:Nat));repeat' first|refine sD ?_ ?_<;>intro _|refine aAc ?_|simp -dsimp only[↓RP,RQ,seval,QT,hlt,TYQ,TYP,TYc,QN]|exact Ωb|fail
 refine qo (λ(z:Nat×Nat)=>z.1≤h.k∧0<z.2∧h.sOk u z.1) (λz=>⟨[(1,.arr false false h.w 1 (λi _=>.val (.int .i64 (u i)))),(2,.ptr 0 0),(6,.val (.int .i64 (z.1:Nat)))],[(0,.cells 97 [.val (.int .i64 h.w),.val (.int .i64 h.m),ctR h])],z.2⟩) (λz=>h.k - z.1) (0,_) ⟨xb6 _,?c1,λj hj=>absurd hj (Nat.not_lt_zero j)⟩ (qj (xa5 _) Ωc (λq v hv=>hv)) λz hz=>?_
 case c1=>dsimp only;omega
 obtain⟨j,n1⟩:=z;obtain⟨hj,hn1,hS⟩:=hz;dsimp only at hj hn1 hS;dsimp only;clear NB;have NB:=nmA hn1;have hu2:∀i,i<h.w→0≤u i∧u i≤1000000000:=λi hi=>by have:=hall i hi;omega
 have ea:¬¬gk u h.w 0 h.m:=λc=>c hall;by_cases hjk:j<h.k
 ·have hlt2:=decide_eq_true (Ω:((j:Nat):Int)<(h.k:Nat))
  have ft:=o.ft j hjk;have h51:=c51 h.w u (h.f j) (h.t j) Ω Ω Ω hu2;have hsb:=Wv hu2 (a:=h.f j) (d:=h.t j+1 - h.f j) Ω;rw[show h.f j+(h.t j+1 - h.f j)=h.t j+1 by omega]at hsb;repeat' first|refine sD ?_ ?_<;>intro _|refine aAc ?_|simp -dsimp only[↓RP,RQ,seval,QT,hlt2,ctR,ctL,TYQ,TYP,TYc,QN]|exact Ωb|fail
  refine qq h51 (by simp only[SubL,and_true];exact⟨by simp[ints,Go.Sx.Sub],zQ,zQ⟩) (by simp[Fresh,I]) ?_;obtain⟨X,hX⟩:∃X,X=pfx u (h.t j+1) - pfx u (h.f j):=⟨_,rfl⟩;have hX2:h.sum u j=X:=hX.symm;rw[←hX];by_cases hs:h.lo j≤X∧X≤h.hi j
  ·have d1:=decide_eq_false (Ω:¬X<h.lo j)
   have d2:=decide_eq_false (Ω:¬h.hi j<X);repeat' first|refine sD ?_ ?_<;>intro _|refine aAc ?_|simp -dsimp only[↓RP,RQ,seval,QT,hlt2,d1,d2,TYQ,TYP,TYc,QN]|exact Ωb|fail
   refine⟨(j+1,_),⟨hjk,?d3,λx hx=>?d4⟩,Ωg,qj (xa5 _) Ωc ?d5⟩
   case d3=>dsimp only;omega
   case d4=>
    by_cases c:x=j
    ·rw[c,hX2];exact hs
    ·exact hS x (by dsimp only at hx;omega)
   case d5=>((repeat' (refine SubHp.ent Ωo ?_));exact λq v hv=>Ωt)
  ·have e:ckT h h.w u=14:=by
    unfold ckT;rw[if_neg Ωi,if_neg ea,if_neg (λc=>hs (by have:=c j hjk;rwa [hX2]at this))]
   rw[e];clear e hall;by_cases c:X<h.lo j
   ·have d1:=decide_eq_true c
    clear hs;repeat' first|refine sD ?_ ?_<;>intro _|refine aAc ?_|simp -dsimp only[↓RP,RQ,seval,QT,hlt2,d1,TYQ,TYP,TYc,QN]|exact Ωb|fail
   ·have d1:=decide_eq_false c
    have d2:=decide_eq_true (Ω:h.hi j<X);clear hs;repeat' first|refine sD ?_ ?_<;>intro _|refine aAc ?_|simp -dsimp only[↓RP,RQ,seval,QT,hlt2,d1,d2,TYQ,TYP,TYc,QN]|exact Ωb|fail
 ·obtain rfl:j=h.k:=by omega
  have hlt2:=decide_eq_false (Ω:¬((h.k:Nat):Int)<(h.k:Nat));have e:ckT h h.w u=0:=by
   unfold ckT;rw[if_neg Ωi,if_neg ea,if_pos hS]
  rw[e];repeat' first|refine sD ?_ ?_<;>intro _|refine aAc ?_|simp -dsimp only[↓RP,RQ,seval,QT,hlt2,ctR,TYQ,TYP,TYc,QN]|exact Ωb|fail
end Go.Tn
end
section
namespace Go.Tn
open Go.Proofs
open Go.Sx
theorem c47(h:Ha)(o:h.Ok)(m:Nat)(u:Nat→Int)(hm:m≤1000000):qc Tryz.prog 47 [haS h,ints m u] (I (ckT h m u)):=by
 have h1:=qoR h o;have hw:=o.w2;have hk:=o.k;have hM:=o.m;have h115:=qnv m u 0 h.m hm;refine qh Tryz.func47 rfl Ωa follows Ωa _ _ (by rw[Tryz.ntmps47];simp) (by simp only[OldL,jK h,and_true,true_and];simp[Old,ints]) ?_;have NB:True:=trivial
 conv=>arg 4;unfold ints haS
 repeat' first|refine sD ?_ ?_<;>intro _|refine aAc ?_|simp -dsimp only[↓RP,RQ,seval,TYQ,TYP,TYc,QR,QT,QN]|exact Ωb|fail
 refine zY h1 ΩI ?_;by_cases hmw:m=h.w
 case neg=>
  have d1:=decide_eq_false (Ω:¬((m:Nat):Int)=(h.w:Nat));have e:ckT h m u=15:=by unfold ckT;rw[if_pos hmw]
  rw[e];repeat' first|refine sD ?_ ?_<;>intro _|refine aAc ?_|simp -dsimp only[↓RP,RQ,seval,QT,shN,d1,TYQ,TYP,TYc,QR,QN]|exact Ωb|fail
 subst hmw;by_cases hall:gk u h.w 0 h.m
 case neg=>
  rw[decide_eq_false hall]at h115;have e:ckT h h.w u=3:=by unfold ckT;rw[if_neg Ωi,if_pos hall]
  rw[e];repeat' first|refine sD ?_ ?_<;>intro _|refine aAc ?_|simp -dsimp only[↓RP,RQ,seval,QT,shN,TYQ,TYP,TYc,QR,QN]|exact Ωb|fail
  refine qq h115 (by simp only[SubL,and_true];exact⟨zQ,zQ,by simp[ints,Go.Sx.Sub]⟩) ΩD ?_;repeat' first|refine sD ?_ ?_<;>intro _|refine aAc ?_|simp -dsimp only[↓RP,RQ,seval,QT,shN,TYQ,TYP,TYc,QR,QN]|exact Ωb|fail
 rw[decide_eq_true hall]at h115;repeat' first|refine sD ?_ ?_<;>intro _|refine aAc ?_|simp -dsimp only[↓RP,RQ,seval,QT,shN,TYQ,TYP,TYc,QR,QN]|exact Ωb|fail
 refine qq h115 (by simp only[SubL,and_true];exact⟨zQ,zQ,by simp[ints,Go.Sx.Sub]⟩) ΩD ?_;repeat' first|refine sD ?_ ?_<;>intro _|refine aAc ?_|simp -dsimp only[↓RP,RQ,seval,QT,shN,ctR,TYQ,TYP,TYc,QR,QN]|exact Ωb|fail
 refine qo (λ(z:Nat×Nat)=>z.1≤h.k∧0<z.2∧h.sOk u z.1) (λz=>⟨[(1,.arr false false h.w 1 (λi _=>.val (.int .i64 (u i)))),(34,.arr false false h.k 4 (λi j=>(ctL h i).getD j .top)),(35,.val (.int .i64 (h.k:Nat))),(36,.val (.int .i64 (z.1:Nat)))],[],z.2⟩) (λz=>h.k - z.1) (0,_) ⟨xb6 _,?c1,λj hj=>absurd hj (Nat.not_lt_zero j)⟩ (qj (xa5 _) (by simp[qI,Go.Sx.look,ctR]) (λq v hv=>Ωt)) λz hz=>?_
 case c1=>dsimp only;omega
 obtain⟨j,n1⟩:=z;obtain⟨hj,hn1,hS⟩:=hz;dsimp only at hj hn1 hS;dsimp only;have hu2:∀i,i<h.w→0≤u i∧u i≤1000000000:=λi hi=>by have:=hall i hi;omega
 have ea:¬¬gk u h.w 0 h.m:=λc=>c hall;by_cases hjk:j<h.k
 ·have hlt2:=decide_eq_true (Ω:((j:Nat):Int)<(h.k:Nat))
  have ft:=o.ft j hjk;have hlen:(((h.t j:Nat):Int)+1 -(h.f j:Nat)).toNat=h.t j+1 - h.f j:=by omega
  repeat' first|refine sD ?_ ?_<;>intro _|refine aAc ?_|simp -dsimp only[↓RP,RQ,seval,QT,hlt2,ctL,TYQ,TYP,TYc,QR,QN]|exact Ωb|fail
  rw[hlen];obtain⟨L,hL⟩:∃L,L=h.t j+1 - h.f j:=⟨_,rfl⟩;rw[←hL];obtain⟨xid,hxid⟩:∃c,c=n1+3:=⟨_,rfl⟩;rw[←hxid];have NB1:=True.intro;refine qo (λ(z:Nat×Nat)=>z.1≤L∧xid<z.2) (λz=>⟨[(1,.arr false false h.w 1 (λi _=>.val (.int .i64 (u i)))),(8,.ptr xid 0),(9,.val (.int .i64 (pfx u (h.f j+z.1) - pfx u (h.f j)))),(34,.arr false false h.k 4 (λi j=>(ctL h i).getD j .top)),(35,.val (.int .i64 (h.k:Nat))),(36,.val (.int .i64 (j:Nat))),(46,.arr false false L 1 (λi _=>.val (.int .i64 (u (h.f j+i))))),(47,.val (.int .i64 (L:Nat))),(48,.val (.int .i64 (z.1:Nat)))],[(xid,.cells 101 (ctL h j))],z.2⟩) (λz=>L - z.1) (0,_) ⟨xb6 _,?d1⟩ (qj (xa5 _) (by simp[qI,Go.Sx.look,ctL]) (λq v hv=>hv)) λz hz=>?_
  case d1=>dsimp only;omega
  obtain⟨i,n2⟩:=z;obtain⟨hi,hn2⟩:=hz;dsimp only at hi hn2;dsimp only;clear NB;have NB:=nmA hn2;have b:=Wv hu2 (a:=h.f j) (d:=i) Ω;by_cases hiL:i<L
  ·have hlt3:=decide_eq_true (Ω:((i:Nat):Int)<(L:Nat))
   have b2:=hu2 (h.f j+i) Ω;repeat' first|refine sD ?_ ?_<;>intro _|refine aAc ?_|simp -dsimp only[↓RP,RQ,seval,QT,hlt3,ctL,TYQ,TYP,TYc,QR,QN]|exact Ωb|fail
   refine⟨(i+1,_),⟨hiL,?e1⟩,Ωg,qj (xa5 _) ?e2 (λq v hv=>hv)⟩
   case e1=>dsimp only;omega
   case e2=>dsimp only;rw[show pfx u (h.f j+(i+1)) - pfx u (h.f j)=pfx u (h.f j+i) - pfx u (h.f j)+u (h.f j+i) by show pfx u (h.f j+i)+u (h.f j+i) - _=_;omega];simp[qI,Go.Sx.look,ctL]
  ·obtain rfl:i=L:=by omega
   have hlt3:=decide_eq_false (Ω:¬((i:Nat):Int)<(i:Nat));obtain⟨X,hX⟩:∃X,X=pfx u (h.f j+i) - pfx u (h.f j):=⟨_,rfl⟩;have hX2:h.sum u j=X:=by unfold Ha.sum;rw[hX,hL,show h.f j+(h.t j+1 - h.f j)=h.t j+1 by omega]
   have hc:=qnv 1 (λ_=>X) (h.lo j) (h.hi j) Ω;rw[←hX];repeat' first|refine sD ?_ ?_<;>intro _|refine aAc ?_|simp -dsimp only[↓RP,RQ,seval,QT,hlt3,ctL,TYQ,TYP,TYc,QR,QN]|exact Ωb|fail
   refine qq hc (by simp only[SubL,and_true];exact⟨zQ,zQ,vk (row:=λi j=>[SV.val (.int .i64 X)].getD (i+j) .top) Ωs λi hi=>(by rw[show i=0 by omega];rfl)⟩) ΩD ?_;by_cases hs:h.lo j≤X∧X≤h.hi j
   ·rw[decide_eq_true (show gk (λ_=>X) 1 (h.lo j) (h.hi j)from λ_ _=>hs)]
    repeat' first|refine sD ?_ ?_<;>intro _|refine aAc ?_|simp -dsimp only[↓RP,RQ,seval,QT,ctL,TYQ,TYP,TYc,QR,QN]|exact Ωb|fail
    refine⟨(j+1,_),⟨hjk,?g1,λx hx=>?g2⟩,Ωg,qj (xa5 _) (by simp[qI,Go.Sx.look,ctL]) (λq v hv=>Ωt)⟩
    case g1=>dsimp only;omega
    case g2=>
     by_cases c:x=j
     ·rw[c,hX2];exact hs
     ·exact hS x (by dsimp only at hx;omega)
   ·rw[decide_eq_false (show ¬gk (λ_=>X) 1 (h.lo j) (h.hi j)from λc=>hs (c 0 Ω))]
    have e:ckT h h.w u=14:=by
     unfold ckT;rw[if_neg Ωi,if_neg ea,if_neg (λc=>hs (by have:=c j hjk;rwa [hX2]at this))]
    rw[e];repeat' first|refine sD ?_ ?_<;>intro _|refine aAc ?_|simp -dsimp only[↓RP,RQ,seval,QT,ctL,TYQ,TYP,TYc,QR,QN]|exact Ωb|fail
 ·obtain rfl:j=h.k:=by omega
  have hlt2:=decide_eq_false (Ω:¬((h.k:Nat):Int)<(h.k:Nat));have e:ckT h h.w u=0:=by
   unfold ckT;rw[if_neg Ωi,if_neg ea,if_pos hS]
  rw[e];repeat' first|refine sD ?_ ?_<;>intro _|refine aAc ?_|simp -dsimp only[↓RP,RQ,seval,QT,hlt2,TYQ,TYP,TYc,QR,QN]|exact Ωb|fail
end Go.Tn
end
section
namespace Go.Tn
open Go.Proofs
open Go.Sx
theorem Ha.Tru.mono{h:Ha}{F:Nat→Int}(hF:h.Tru F)(hm:h.m≤1000000){i:Nat}:∀{d:Nat},i+d≤h.w→0≤F (i+d) - F i∧F (i+d) - F i≤1000000*d
 |0,_=>by simp
 |d+1,hd=>by
  have h1:=Ha.Tru.mono hF hm (i:=i) (d:=d) Ω;have h2:=hF.1 (i+d) Ω;rw[←xb2];omega
theorem Lst.tru{h:Ha}(o:h.Ok){a:Nat}{D:Nat→Int}(hD:Lst h.C (h.w+1) a D):h.Tru D:=o.fea.1 hD.2.1
theorem Ha.Tru.bd{h:Ha}(o:h.Ok){F:Nat→Int}(hF:h.Tru F){i j:Nat}(hi:i≤h.w)(hj:j≤h.w) : -10000000≤F i - F j∧F i - F j≤10000000:=by
 have hw:=o.w2;by_cases c:i≤j
 ·have:=hF.mono o.m.2 (i:=i) (d:=j - i) Ω
  rw[show i+(j - i)=j by omega]at this;omega
 ·have:=hF.mono o.m.2 (i:=j) (d:=i - j) Ω
  rw[show j+(i - j)=i by omega]at this;omega
theorem c50(h:Ha)(o:h.Ok)(a b:Nat)(hab:a≤b)(hb:b<h.w):(∃D E,Lst h.C (h.w+1) a D∧Lst h.C (h.w+1) (b+1) E∧qc Tryz.prog 50 [haS h,I a,I b] (.tup [.agg [I (- E a),I (D (b+1))],I 0]))∨((∀F,¬h.Tru F)∧qc Tryz.prog 50 [haS h,I a,I b] (.tup [.agg [I 0,I 0],I 5])):=by
 have hw:=o.w2;have h1:=qoR h o;have d1:=decide_eq_false (Ω:¬((a:Nat):Int)<0);have d2:=decide_eq_false (Ω:¬((b:Nat):Int)<(a:Nat));have d3:=decide_eq_false (Ω:¬((h.w:Nat):Int)≤(b:Nat));rcases qoP h o a Ω with⟨D,hD,h2⟩|⟨hno,h2⟩
 ·rcases qoP h o (b+1) Ω with⟨E,hE,h3⟩|⟨hno,h3⟩
  ·refine .inl ⟨D,E,hD,hE,?_⟩
   have e1:=(hE.tru o).bd o (i:=a) (j:=b+1) Ω Ω;rw[hE.1]at e1;refine qh Tryz.func50 rfl Ωa follows Ωa _ _ (by rw[Tryz.ntmps50];simp) (by simp only[OldL,jK h,and_true,true_and];simp[Old,I]) ?_;unfold haS;repeat' first|refine sD ?_ ?_<;>intro _|refine aAc ?_|simp -dsimp only[↓RP,RQ,seval,TYQ,TYP,TYc,TYd,QT,QN]|exact Ωb|fail
   refine zY h1 ΩI ?_;repeat' first|refine sD ?_ ?_<;>intro _|refine aAc ?_|simp -dsimp only[↓RP,RQ,seval,QT,shN,d1,d2,d3,TYQ,TYP,TYc,TYd,QN]|exact Ωb|fail
   refine qq h2 ΩY (by simp[Fresh,FreshL,I,B]) ?_;repeat' first|refine sD ?_ ?_<;>intro _|refine aAc ?_|simp -dsimp only[↓RP,RQ,seval,QT,d1,d2,d3,TYQ,TYP,TYc,TYd,QN]|exact Ωb|fail
   rw[show((b+1:Nat):Int)=(b:Int)+1 from by omega]at h3;refine qq h3 ΩY (by simp[Fresh,FreshL,I,B]) ?_;repeat' first|refine sD ?_ ?_<;>intro _|refine aAc ?_|simp -dsimp only[↓RP,RQ,seval,QT,d1,d2,d3,TYQ,TYP,TYc,TYd,QN]|exact Ωb|fail
   rw[show((b:Nat)+1:Int).toNat=b+1 by omega,show 0 - E a = - E a by omega];exact⟨rfl,rfl⟩
  ·exact absurd (hD.tru o) (hno D)
 ·refine .inr ⟨hno,?_⟩
  refine qh Tryz.func50 rfl Ωa follows Ωa _ _ (by rw[Tryz.ntmps50];simp) (by simp only[OldL,jK h,and_true,true_and];simp[Old,I]) ?_;unfold haS;repeat' first|refine sD ?_ ?_<;>intro _|refine aAc ?_|simp -dsimp only[↓RP,RQ,seval,TYQ,TYP,TYc,TYd,QT,QN]|exact Ωb|fail
  refine zY h1 ΩI ?_;repeat' first|refine sD ?_ ?_<;>intro _|refine aAc ?_|simp -dsimp only[↓RP,RQ,seval,QT,shN,d1,d2,d3,TYQ,TYP,TYc,TYd,QN]|exact Ωb|fail
  refine qq h2 ΩY (by simp[Fresh,FreshL,I,B]) ?_;repeat' first|refine sD ?_ ?_<;>intro _|refine aAc ?_|simp -dsimp only[↓RP,RQ,seval,QT,d1,d2,d3,TYQ,TYP,TYc,TYd,QN]|exact Ωb|fail
end Go.Tn
end
section
namespace Go.Tn
open Go.Sx
variable{c:Go.Tl.Curve}
def kf:Nat→Nat:=λj=>[0,0,0,1,1,2].getD j 0
def kt:Nat→Nat:=λj=>[1,2,3,2,3,3].getD j 0
theorem kft{j:Nat}(hj:j<6):kf j<kt j∧kt j<4:=by
 rcases(Ω:j=0∨j=1∨j=2∨j=3∨j=4∨j=5)with rfl|rfl|rfl|rfl|rfl|rfl<;>decide
theorem qpN{a b:Nat}(h:a<b)(hb:b<4):∃j,j<6∧kf j=a∧kt j=b:=by
 have:∀a b,a<b→b<4→∃j,j<6∧kf j=a∧kt j=b:=λa b h hb=>by
  rcases(Ω:a=0∧b=1∨a=0∧b=2∨a=0∧b=3∨a=1∧b=2∨a=1∧b=3∨a=2∧b=3)with⟨rfl,rfl⟩|⟨rfl,rfl⟩|⟨rfl,rfl⟩|⟨rfl,rfl⟩|⟨rfl,rfl⟩|⟨rfl,rfl⟩
  ·exact⟨0,Ωd⟩
  ·exact⟨1,Ωd⟩
  ·exact⟨2,Ωd⟩
  ·exact⟨3,Ωd⟩
  ·exact⟨4,Ωd⟩
  ·exact⟨5,Ωd⟩
 exact this a b h hb
def kH(c:Go.Tl.Curve):Ha:=⟨4,c.M 1,6,kf,kt,λ_=>0,λj=>c.M (kt j - kf j+1)⟩
theorem qmu(h:c.Fine):(kH c).Ok:=by
 have hM:=Go.Tl.M_bound h;have h1:=hM 1;refine⟨(by show 1≤4;omega),(by show 4≤10;omega),(by show 6≤10;omega),(by show 0≤c.M 1∧c.M 1≤1000000;omega),λj hj=>?_,λj hj=>?_⟩
 ·have:=kft hj
  show kf j≤kt j∧kt j<4;omega
 ·have:=kft hj
  have:=hM (kt j - kf j+1);show(0:Int)≤0∧0≤c.M (kt j - kf j+1)∧c.M (kt j - kf j+1)≤10000000;omega
theorem kTru{F:Nat→Int}:(kH c).Tru F↔(∀i,i<4→0≤F (i+1) - F i)∧∀t k,1≤k→t+k≤4→F (t+k) - F t≤c.M k:=by
 constructor
 ·rintro⟨h1,h2⟩
  refine⟨λi hi=>(h1 i hi).1,λt k hk htk=>?_⟩;by_cases c1:k=1
  ·subst c1;exact(h1 t (by show t<4;omega)).2
  ·obtain⟨j,hj,e1,e2⟩:=qpN (a:=t) (b:=t+k - 1) Ω Ω
   have:=(h2 j hj).2;have this:F (kt j+1) - F (kf j)≤c.M (kt j - kf j+1):=this;rw[e1,e2,show t+k - 1+1=t+k by omega,show t+k - 1 - t+1=k by omega]at this;exact this
 ·rintro⟨h1,h2⟩
  have mono:∀i d,i+d≤4→F i≤F (i+d):=λi d=>by
   induction d with
   |zero=>intro _;exact Int.le_refl _
   |succ d ih=>
    intro hd;have:=ih Ω;have:=h1 (i+d) Ω;rw[←xb2];omega
  refine⟨λi hi=>⟨h1 i hi,h2 i 1 (xa5 _) hi⟩,λj hj=>?_⟩;have e:=kft hj;have m1:=mono (kf j) (kt j+1 - kf j) Ω;have m2:=h2 (kf j) (kt j+1 - kf j) Ω Ω;rw[show kf j+(kt j+1 - kf j)=kt j+1 by omega]at m1 m2;rw[show kt j+1 - kf j=kt j - kf j+1 by omega]at m2;exact⟨by show(0:Int)≤F (kt j+1) - F (kf j);omega,m2⟩
theorem Zu(u:Nat→Int):∀n,pfx u n=Go.Tl.sumTo u n
 |0=>rfl
 |n+1=>by show pfx u n+u n=_;rw[Zu u n];rfl
theorem qlw(h:c.Fine)(he:c.err=0)(u:Nat→Int)(hu:∀i,i<4→0≤u i∧u i≤255):(Go.Tl.breakV c ⟨4,u⟩).2.2=5∧ckT (kH c) 4 u=0∨(Go.Tl.breakV c ⟨4,u⟩).2.2=0∧ckT (kH c) 4 u≠0:=by
 have hr:Go.Tl.Curve.rErr ⟨4,u⟩=0:=by
  unfold Go.Tl.Curve.rErr;rw[if_neg (by show ¬(60<4);omega),if_pos (λi hi=>by have:=hu i hi;show 0≤u i∧u i≤10000;omega)]
 have hv:Go.Tl.breakV c ⟨4,u⟩=Go.Tl.brkV (Go.Tl.brkF c ⟨4,u⟩ 0 4):=by unfold Go.Tl.breakV;rw[if_pos he,if_pos hr]
 have hck:ckT (kH c) 4 u=0↔_:=Ww (h:=kH c) (u:=u);rcases Go.Tl.brkF_spec c ⟨4,u⟩ 4 0 rfl with⟨e,hall⟩|hx
 ·left
  refine⟨by rw[hv,e];rfl,hck.2 (kTru.2 ⟨λi hi=>by have:=hu i hi;show 0≤pfx u i+u i - pfx u i;omega,λt k hk htk=>?_⟩)⟩;have:=hall t (xb6 _) k hk htk;unfold Go.Tl.brkP at this;rw[decide_eq_false_iff_not]at this;rw[Zu,Zu];have this:¬c.M k<Go.Tl.sumTo u (t+k) - Go.Tl.sumTo u t:=this;omega
 ·obtain⟨_,x1,x2,x3,_⟩:=hx
  generalize Go.Tl.brkF c ⟨4,u⟩ 0 4=q at hv x1 x2 x3
  right
  refine⟨by rw[hv];unfold Go.Tl.brkV;rw[if_neg Ω],λe=>?_⟩;have:=(kTru.1 (hck.1 e)).2 q.1 q.2 x1 x2;unfold Go.Tl.brkP at x3;have x3:c.M q.2<Go.Tl.sumTo u (q.1+q.2) - Go.Tl.sumTo u q.1:=of_decide_eq_true x3;rw[Zu,Zu]at this;omega
theorem qce(h:c.Fine):ckT (kH c) 4 (λj=>c.M (j+1) - c.M j)=0∧∀k,k≤4→pfx (λj=>c.M (j+1) - c.M j) k=c.M k:=by
 have hp:∀k,pfx (λj=>c.M (j+1) - c.M j) k=c.M k:=λk=>by
  induction k with
  |zero=>exact(Go.Tl.M_zero c).symm
  |succ k ih=>show pfx _ k+(c.M (k+1) - c.M k)=_;rw[ih];omega
 refine⟨(Ww (h:=kH c)).2 (kTru.2 ⟨λi _=>?_,λt k _ _=>?_⟩),λk _=>hp k⟩
 ·rw[hp,hp]
  have:=Go.Tl.M_mono h (i+1) i Ω;omega
 ·rw[hp,hp]
  have:=Go.Tl.M_sub h t k;omega
theorem qny(h:c.Fine){k:Nat}(hk:k<4){D E:Nat→Int}(hD:Lst (kH c).C 5 0 D)(hE:Lst (kH c).C 5 (k+1) E):D (k+1)=c.M (k+1)∧E 0=0:=by
 have o:=qmu h;have tD:=kTru.1 (Lst.tru o hD);have tE:=kTru.1 (Lst.tru o hE);have hc:=(Ww (h:=kH c)).1 (qce h).1;have hp:=(qce h).2;have b1:=hD.2.2 _ (o.fea.2 hc) (k+1) Ω;rw[hp (k+1) Ω,hp 0 Ω,Go.Tl.M_zero]at b1;have b2:=tD.2 0 (k+1) Ω Ω;rw[xb0,hD.1]at b2;have b3:=hE.2.2 (λ_=>0) (o.fea.2 (kTru.2 ⟨λi _=>by omega,λt k _ _=>by have:=Go.Tl.M_bound h k;omega⟩)) 0 Ω;have mono:∀d,d≤4→E 0≤E d:=λd=>by
  induction d with
  |zero=>intro _;exact Int.le_refl _
  |succ d ih=>
   intro hd;have:=ih Ω;have:=tE.1 d Ω;omega
 have b4:=mono (k+1) Ω;rw[hE.1]at b4;omega
end Go.Tn
end
section
namespace Go.Sx
open Go.RowKit
noncomputable section
def Zv(t:Tr 4 Nat)(l:List Nat):Nat:=List.rec (motive:=λ_=>Nat→Nat) (λm=>m) (λa _ ih m=>Option.rec 0 (λx=>Nat.rec 0 (λy _=>qm (Nat.max m (Nat.succ x)) λm=>ih m) x) (t.find a)) l 1
def Wx(l:List (List Nat)):Nat→Tr 4 Nat→(Tr 4 Nat→Nat→R)→Nat→R:=List.rec (motive:=λ_=>Nat→Tr 4 Nat→(Tr 4 Nat→Nat→R)→Nat→R) (λ_ t f c=>f t c) (λa _ ih i t f c=>qm (Nat.succ i) λi1=>Option.rec (.bad 452 0) (λx=>Nat.rec (qm (Zv t a) λm=>Nat.rec (ih i1 t f c) (λ_ _=>qm (Nat.succ c) λc=>qY (some m) 22 t i λt=>ih i1 t f c) m) (λ_ _=>ih i1 t f c) x) (t.find i)) l
def qnz(l:List (List Nat))(n:Nat):Tr 4 Nat→(Tr 4 Nat→R)→R:=Nat.rec (motive:=λ_=>Tr 4 Nat→(Tr 4 Nat→R)→R) (λ_ _=>.bad 453 0) (λ_ ih t f=>Wx l 0 t (λt c=>Nat.rec (f t) (λ_ _=>ih t f) c) 0) n
def qcf(l:List (List Nat)):Nat→Tr 4 Nat→(Tr 4 Nat→R)→R:=List.rec (motive:=λ_=>Nat→Tr 4 Nat→(Tr 4 Nat→R)→R) (λ_ t f=>f t) (λ_ _ ih i t f=>qY (some 0) 22 t i λt=>qm (Nat.succ i) λi=>ih i t f) l
def qfL(x:Nat):SV:=Nat.rec (.val (.int .i64 (.negSucc 0))) (λy _=>.val (.int .i64 (.ofNat y))) x
def qdZ(t:Tr 4 Nat)(l:List (List Nat)):Nat→(List SV→R)→R:=List.rec (motive:=λ_=>Nat→(List SV→R)→R) (λ_ f=>f []) (λ_ _ ih i f=>qm (Nat.succ i) λi1=>Option.rec (.bad 454 0) (λx=>qm x λx=>ih i1 λm=>f (qfL x :: m)) (t.find i)) l
def qfM(k:Value):Nat:=match k with
 |.agg c=>(match c.toList with
  |[_,_,_,_,_,.int _ (.ofNat n)]=>n
  |_=>0)
 |_=>0
def qea(t:Tr 4 Nat)(es:List (Value×Option SV))(f:List (Value×Option SV)→R):R:=(List.rec (motive:=λ_=>(List (Value×Option SV)→R)→R) (λf=>f []) (λp _ ih f=>qm (qfM p.1) λi=>Option.rec (.bad 455 0) (λx=>Nat.rec (ih λl=>f (p :: l)) (λ_ _=>ih f) x) (t.find i)) es) f
end
end Go.Sx
end
section
namespace Go.Sx
open Go.Proofs
noncomputable section
def cvU(i:Nat):Int:=Nat.rec 0 (λj _=>Nat.rec 2 (λ_ _=>4) j) i
def cvB:Go.Tl.Curve:=⟨3,cvU⟩
theorem qad:cvB.Fine:=⟨Ωd,Ωd,λi hi=>by
 have hi:i<3:=hi
 match i,hi with
 |0,_=>decide
 |1,_=>decide
 |2,_=>decide,λi hi=>by
 have hi:i<2:=hi
 match i,hi with
 |0,_=>decide
 |1,_=>decide⟩
def gB(k:Nat):Nat:=4*(k / 3) - Bool.rec 0 2 (Nat.beq (k % 3) 0)
theorem G9(k:Nat):cvB.L1 k=((4*(k / 3)+(if k % 3=2 then 2 else 0):Nat):Int):=by
 unfold Go.Tl.Curve.L1;show((k / 3:Nat):Int)*4+(if 0<k % 3 then cvU (k % 3 - 1)else 0)=_;have:k % 3=0∨k % 3=1∨k % 3=2:=by omega
 rcases this with h|h|h
 ·rw[h];simp;omega
 ·have e:cvU 0=0:=rfl
  rw[h];simp[e];omega
 ·have e:cvU 1=2:=rfl
  rw[h];simp[e];omega
theorem qmv(k:Nat):gB k=if k % 3=0 then 4*(k / 3) - 2 else 4*(k / 3):=by
 unfold gB;by_cases h:k % 3=0
 ·rw[if_pos h,h];rfl
 ·rw[if_neg h]
  have:Nat.beq (k % 3) 0=false:=by cases e:Nat.beq (k % 3) 0 with
   |false=>rfl
   |true=>exact absurd (xa6 e) h
  rw[this];rfl
theorem qoS(k:Nat):Go.Tl.Ls (λ_=>cvB) 1 k=(gB k:Int):=by
 have h1:∀p,p≤k→(gB k:Int)≤cvB.L1 (k - p)+cvB.L1 p:=λp hp=>by
  rw[G9,G9,qmv];split<;>split<;>split<;>omega
 have h2:Go.Tl.Ls (λ_=>cvB) 1 k≤(gB k:Int):=by
  cases k with
  |zero=>decide
  |succ k=>
   have:=Go.Tl.Ls_le (λ_=>cvB) 0 (k+1) 1 Ω;refine Int.le_trans this ?_;show cvB.L1 (k+1 - 1)+cvB.L1 1≤_;rw[G9,G9,qmv];split<;>split<;>split<;>omega
 obtain⟨p,hp,e⟩:=Go.Tl.Ls_at (λ_=>cvB) 0 k;have h3:=h1 p hp;have e:Go.Tl.Ls (λ_=>cvB) 1 k=cvB.L1 (k - p)+cvB.L1 p:=e;omega
def qae(j _:Nat):SV:=.val (.int .i64 (.ofNat (gB j)))
def lsN:Nat×List SV×(TypeId×Nat×Nat×List SV×SV):=(178,[Go.Tl.chn 2 (λ_=>cvB),Go.Tl.I 360],(2,1,361,wJ qae 1 361,.vec 0 361 1))
theorem qnA:qhJ Tryz.prog 178 [Go.Tl.chn 2 (λ_=>cvB),Go.Tl.I 360] 2 1 361 (wJ qae 1 361) (.vec 0 361 1):=by
 refine⟨qae,?_,jo _ _ _,by simp[FreshO],by simp[FreshB,Fresh,qae]⟩;have h:=Go.Tl.c178 2 (λ_=>cvB) Ω Ω (λ_ _=>qad) 360 Ω;have e:(λj (_:Nat)=>Go.Tl.I (Go.Tl.Ls (λ_=>cvB) (2 - 1) j))=qae:=by
  funext j _;show SV.val (.int .i64 (Go.Tl.Ls (λ_=>cvB) 1 j))=_;rw[qoS];rfl
 rw[e]at h;exact h
def g1B(k:Nat):Nat:=Nat.add (4*(k / 3)) (Bool.rec 0 2 (Nat.beq (k % 3) 2))
theorem qnB(k:Nat):cvB.L1 k=(g1B k:Int):=by
 rw[G9];unfold g1B
 congr 1
 show _=4*(k / 3)+_
 congr 1
 by_cases h:k % 3=2
 ·rw[if_pos h,h];rfl
 ·rw[if_neg h]
  have:Nat.beq (k % 3) 2=false:=by cases e:Nat.beq (k % 3) 2 with
   |false=>rfl
   |true=>exact absurd (xa6 e) h
  rw[this]
def qaf(j _:Nat):SV:=.val (.int .i64 (.ofNat (g1B j)))
def l1N:Nat×List SV×(TypeId×Nat×Nat×List SV×SV):=(178,[Go.Tl.chn 1 (λ_=>cvB),Go.Tl.I 360],(2,1,361,wJ qaf 1 361,.vec 0 361 1))
theorem qnC:qhJ Tryz.prog 178 [Go.Tl.chn 1 (λ_=>cvB),Go.Tl.I 360] 2 1 361 (wJ qaf 1 361) (.vec 0 361 1):=by
 refine⟨qaf,?_,jo _ _ _,by simp[FreshO],by simp[FreshB,Fresh,qaf]⟩;have h:=Go.Tl.c178 1 (λ_=>cvB) Ω Ω (λ_ _=>qad) 360 Ω;have e:(λj (_:Nat)=>Go.Tl.I (Go.Tl.Ls (λ_=>cvB) (1 - 1) j))=qaf:=by
  funext j _;show SV.val (.int .i64 (cvB.L1 j))=_;rw[qnB];rfl
 rw[e]at h;exact h
end
end Go.Sx
end
section
namespace Go.Sx
noncomputable section
def wI(n:Int):SV:=.val (.int .i64 n)
def qnD(l:List Int):Nat→Int:=List.rec (λ_=>0) (λa _ ih i=>Nat.rec a (λj _=>ih j) i) l
def liN(o:Bool)(n:Nat)(l:List Int):SV:=.arr o false n 1 (λi _=>.val (.int .i64 (qnD l i)))
def liA:SV:=liN false 3 [3,4,4]
def liB:SV:=liN false 3 [0,2,4]
def ch1:SV:=.arr false false 1 1 (λ_ _=>liB)
def ch2:SV:=.arr false false 2 1 (λ_ _=>liB)
def cW:Nat×List SV×SV:=(22,[liA,ch2],.tup [wI 4,wI 0])
def cL:Nat×List SV×SV:=(23,[liA,ch1],.tup [wI 2,wI 0])
def cB:Nat×List SV×SV:=(147,[liA,ch1],.tup [liN true 3 [4,5,7],wI 0])
end
end Go.Sx
end
section
namespace Go.Sx
noncomputable section
def hJ:SV:=.agg [liN false 3 [2,3,6]]
def z3:SV:=liN false 3 [0,0,0]
def qpO(l:List (List Int)):Nat→List Int:=List.rec (λ_=>[]) (λa _ ih i=>Nat.rec a (λj _=>ih j) i) l
def dSt:List (List Int):=[[0,0,0],[0,1,1],[1,0,1],[1,1,0],[0,2,2],[1,0,2],[1,2,0],[0,1,2],[2,0,2],[2,1,0],[0,2,1],[2,0,1],[2,2,0],[0,3,3],[1,0,3],[1,3,0],[0,1,3],[2,0,3],[0,3,1],[2,3,0],[0,2,3],[0,3,2],[0,1,4],[2,0,4],[0,2,4],[1,0,4],[0,3,4],[0,2,5],[1,0,5],[0,3,5],[0,1,5],[2,0,5],[0,3,6],[1,0,6],[0,1,6],[2,0,6],[0,2,6]]
def dLf:List Int:=[9,7,7,8,5,6,2,6,1,1,7,1,1,1,4,1,5,1,1,1,5,1,3,1,3,4,1,2,2,1,3,1,1,1,1,1,1]
def dJ:SV:=.arr true false 37 2 (λi j=>Nat.rec (liN true 3 (qpO dSt i)) (λ_ _=>wI (qnD dLf i)) j)
def c13J:Nat×List SV×SV:=(13,[hJ],.tup [.val (.slice none 0 0),wI 17])
def c135J:Nat×List SV×SV:=(135,[hJ,z3],.tup [dJ,wI 0])
def c138J:Nat×List SV×SV:=(138,[hJ,z3],.tup [liN true 8 [2,0,1,0,1,0,2,0],wI 0])
def qag:Nat×List SV×SV:=(170,[liN false 0 []],liN true 0 [])
end
end Go.Sx
end
section
namespace Go.Sx
theorem ZY{hp:List (Nat×Blk)}{m:Nat→Option Nat}{nn:Nat}{sl:Nat→Bool}:∀{l:List SV},(∀(i:Nat) sv,l[i]? = some sv→Wk hp m nn sl sv sv)→WkL hp m nn sl l l
 |[],_=>by simp[WkL]
 |a :: l,h=>by
  unfold WkL;exact⟨h 0 a rfl,ZY λi sv e=>h (i+1) sv e⟩
theorem vO{hp:List (Nat×Blk)}{m:Nat→Option Nat}{nn n0:Nat}{sl:Nat→Bool}(hm:∀i,i<n0→m i=some i)(hn:n0≤nn){r:Nat→Option Nat}{G:Bool→Nat→Prop}{w:World}{sv:SV}{v:Value}(h:Rep r (· < n0) G w sv v):Wk hp m nn sl sv sv:=by
 have key:∀id,id<n0→id<nn∧m id=some id:=λid h=>⟨xa9 h hn,hm id h⟩
 induction h with
 |top v=>simp[Wk]
 |val v=>simp[Wk]
 |agg l cs hl h ih=>unfold Wk;exact ZY ih
 |tup l cs hl h ih=>unfold Wk;exact ZY ih
 |fn f l k cs ds hl hm' h h' ih ih'=>unfold Wk;exact⟨rfl,ZY ih,ZY ih'⟩
 |ptr id off b hN hr=>unfold Wk;exact⟨(key id hN).1,(key id hN).2,rfl⟩
 |elt id k i j b hN hr=>unfold Wk;exact⟨(key id hN).1,(key id hN).2,rfl,rfl,rfl⟩
 |ref o n row b off f hG hc h ih=>unfold Wk;exact⟨λh=>h,xa5 _,ih⟩
 |arrNil o full k row a cap hf=>unfold Wk;exact⟨λh=>h,λh=>h,rfl,rfl,λi j hi=>by omega⟩
 |arr o full n k row b off cap f hG hf hcap hc h ih=>unfold Wk;exact⟨λh=>h,λh=>h,rfl,rfl,ih⟩
 |vecNil id k hN hr=>unfold Wk;exact⟨(key id hN).1,(key id hN).2,rfl,rfl⟩
 |vec id n k b cap cs t hN hr=>unfold Wk;exact⟨(key id hN).1,(key id hN).2,rfl,rfl⟩
 |mp id b hN hr=>unfold Wk;exact key id hN
 |asl id off n k b cap hN hr hcap=>unfold Wk;exact⟨(key id hN).1,(key id hN).2,rfl,rfl,rfl⟩
 |queNil id off k a hN=>unfold Wk;exact⟨(key id hN).1,(key id hN).2,rfl,rfl,rfl⟩
 |que id off n k b cap cs t hN hr=>unfold Wk;exact⟨(key id hN).1,(key id hN).2,rfl,rfl,rfl⟩
 |cutNil id k hN hr=>unfold Wk;exact⟨(key id hN).1,(key id hN).2,rfl,rfl⟩
 |cut id n k b hN hr=>unfold Wk;exact⟨(key id hN).1,(key id hN).2,rfl,rfl⟩
 |cmp o fit dom get b es clock hG hb hmo h ih=>
  unfold Wk;refine⟨λh=>h,rfl,rfl,λk hk=>?_⟩;obtain⟨e,he,rfl⟩:=hmo.has k hk;exact ih e he
 |yld id b hN hr=>unfold Wk;exact key id hN
theorem qcg{hp:List (Nat×Blk)}{m:Nat→Option Nat}{nn n0:Nat}{sl:Nat→Bool}(hm:∀i,i<n0→m i=some i)(hn:n0≤nn){r:Nat→Option Nat}{G:Bool→Nat→Prop}{w:World}{ob:Option Nat}{x:Blk}(h:BlkRep r (· < n0) G w ob x):WkB hp m nn sl x x:=by
 cases h with
 |cells t l b cs hb hl h=>exact⟨rfl,ZY λi sv e=>vO hm hn (h i sv e)⟩
 |none t k row=>exact⟨rfl,rfl,xa5 _,λi j hi=>by omega⟩
 |rows t k n row b cs hb hl h=>exact⟨rfl,rfl,xa5 _,λi j hi hj=>vO hm hn (h i j hi hj)⟩
 |map fit dom get b es clock hb hmo ht h=>
  refine⟨rfl,rfl,λk hk=>?_⟩;obtain⟨e,he,rfl⟩:=hmo.has k hk;exact vO hm hn (h e he)
 |mapS fit dom get stamp b es clock hb hmo ht hst h=>
  refine⟨rfl,rfl,rfl,rfl,λk hk=>?_⟩;obtain⟨e,he,rfl⟩:=hmo.has k hk;exact vO hm hn (h e he)
 |iter mid since seen last b m' hN hr hb=>exact⟨xa9 hN hn,hm _ hN,rfl,rfl,rfl⟩
 |loop L s b hb=>exact⟨rfl,rfl⟩
theorem Ja{P:Program}{O:Ctx}{f:FuncId}{args:List SV}{st:St}{K0 K:St→SV→Prop}(h:ko P O f args st K0)
  (hk:∀st' sv,(∀hp bid n,st.nid≤n→∀id y,blk st.hp id=some y→WkB hp (ren [(st.nid,some bid)]) n (λ_=>false) y y)→K0 st' sv→
   ∃bid hp2 sv2 n,st'.fr=st.fr∧st.nid≤bid∧(∀id x,blk hp2 id=some x→((id<st.nid∧blk st'.hp id=some x)∨(id=st.nid∧blk st'.hp bid=some x∧st.nid+1≤n))∧WkB st'.hp (ren [(st.nid,some bid)]) n (λ_=>false) x x)∧
    Wk st'.hp (ren [(st.nid,some bid)]) n (λ_=>false) sv2 sv∧st.nid≤n∧K ⟨st.fr,hp2,n⟩ sv2):ko P O f args st K:=λbase okc ns r outs a w vs h1 h2 h3=>by
 obtain⟨e1,e2⟩:=h base okc ns r outs a w vs h1 h2 h3;have rn:∀(bid i:Nat),i<st.nid→ren [(st.nid,some bid)] i=some i:=λbid i hi=>by simp only[ren];rw[if_neg Ω]
 refine⟨e1,e2.mono λe w' ⟨v,st',r',res,g1,g2,g3,g4,g5⟩=>?_⟩;obtain⟨bid,hp2,sv2,n,k1,k2,k3,k6,k7,k8⟩:=hk _ _ (λhp bid n hn id y hy=>qcg (rn bid) hn (h1.sat.rep id y hy (h1.keys id y hy))) g2;have rn:=rn bid;have rn0:ren [(st.nid,some bid)] st.nid=some bid:=by simp[ren]
 have W:=Yh (st':=⟨st.fr,hp2,n⟩) (ren [(st.nid,some bid)]) (λ_=>false) (λi=>by rw[k1];exact vO rn k7 (h1.fr i)) (λid x hx=>by
  obtain⟨⟨hlt,hx⟩|⟨rfl,hx,hn⟩,hw⟩:=k3 id x hx
  ·rw[rn id hlt]
   refine⟨(by show id<n;omega),rfl,?_⟩;rw[hx];exact hw
  ·rw[rn0]
   refine⟨(by show st.nid<n;omega),rfl,?_⟩;rw[hx];exact hw) (λid x id' x' y hx hx' hy hy'=>by
  obtain⟨⟨hlt,hx⟩|⟨rfl,hx,hn⟩,hw⟩:=k3 id x hx<;>obtain⟨⟨hlt',hx'⟩|⟨rfl,hx',hn'⟩,hw'⟩:=k3 id' x' hx'
  ·rw[rn id hlt]at hy;rw[rn id' hlt']at hy';cases hy;cases hy';rfl
  ·rw[rn0]at hy';rw[rn id hlt]at hy;cases hy;cases hy';omega
  ·rw[rn0]at hy;rw[rn id' hlt']at hy';cases hy;cases hy';omega
  ·rfl) (xc1 h1.lo k7) (λid hid=>rn id (xa9 hid h1.lo)) g4
 exact⟨v,_,_,sv2,g1,k8,k7,W.1,W.2 _ _ _ k6 g5⟩
end Go.Sx
end
section
namespace Go.Sx
open Go.Proofs
open Go.RowKit Go.Tn
noncomputable section
variable{ρ:Q}
theorem Ve:∀(l:List (List Nat))(i:Nat)(t:Tr 4 Nat)(f:Tr 4 Nat→R),qcf l i t f=.ok ρ→∃t',f t'=.ok ρ
 |[],i,t,f,h=>⟨t,h⟩
 |a :: l,i,t,f,h=>by
  have h:qY (some 0) 22 t i (λt=>qm (Nat.succ i) λi=>qcf l i t f)=.ok ρ:=h;obtain⟨t1,_,h⟩:=qB _ _ _ _ h;rw[qg]at h;exact Ve l _ _ f h
theorem KO:∀(l:List (List Nat))(i:Nat)(t:Tr 4 Nat)(f:Tr 4 Nat→Nat→R)(c:Nat),Wx l i t f c=.ok ρ→∃t' c',f t' c'=.ok ρ
 |[],i,t,f,c,h=>⟨t,c,h⟩
 |a :: l,i,t,f,c,h=>by
  have h:qm (Nat.succ i) (λi1=>Option.rec (.bad 452 0) (λx=>Nat.rec (qm (Zv t a) λm=>Nat.rec (Wx l i1 t f c) (λ_ _=>qm (Nat.succ c) λc=>qY (some m) 22 t i λt=>Wx l i1 t f c) m) (λ_ _=>Wx l i1 t f c) x) (t.find i))=(.ok ρ:R):=h;rw[qg]at h;generalize t.find i=o at h;cases o with
  |none=>cases h
  |some x=>
   cases x with
   |succ y=>exact KO l _ _ f _ h
   |zero=>
    have h:qm (Zv t a) (λm=>Nat.rec (Wx l (Nat.succ i) t f c) (λ_ _=>qm (Nat.succ c) λc=>qY (some m) 22 t i λt=>Wx l (Nat.succ i) t f c) m)=(.ok ρ:R):=h;rw[qg]at h;generalize Zv t a=m at h;cases m with
    |zero=>exact KO l _ _ f _ h
    |succ m=>
     have h:qm (Nat.succ c) (λc=>qY (some (m+1)) 22 t i λt=>Wx l (Nat.succ i) t f c)=(.ok ρ:R):=h;rw[qg]at h;obtain⟨t1,_,h⟩:=qB _ _ _ _ h;exact KO l _ _ f _ h
theorem qeb(l:List (List Nat)):∀(n:Nat)(t:Tr 4 Nat)(f:Tr 4 Nat→R),qnz l n t f=.ok ρ→∃t',f t'=.ok ρ
 |0,t,f,h=>by cases h
 |n+1,t,f,h=>by
  have h:Wx l 0 t (λt c=>Nat.rec (f t) (λ_ _=>qnz l n t f) c) 0=(.ok ρ:R):=h;obtain⟨t',c',h⟩:=KO _ _ _ _ _ h;cases c' with
  |zero=>exact⟨t',h⟩
  |succ c=>exact qeb l n _ f h
def Jy(x:Nat):Int:=(x:Int) - 1
theorem qlx(x:Nat):qfL x=.val (.int .i64 (Jy x)):=by
 cases x with
 |zero=>rfl
 |succ y=>
  show SV.val (.int .i64 (Int.ofNat y))=_;have e:Jy (y+1)=Int.ofNat y:=by unfold Jy;show((y+1:Nat):Int) - 1=(y:Int);omega
  rw[e]
def FF(t:Tr 4 Nat)(i:Nat):Int:=Jy ((t.find i).getD 0)
def Wz(t:Tr 4 Nat)(l:List Nat)(m:Nat):Nat:=List.rec (motive:=λ_=>Nat→Nat) (λm=>m) (λa _ ih m=>Option.rec 0 (λx=>Nat.rec 0 (λy _=>qm (Nat.max m (Nat.succ x)) λm=>ih m) x) (t.find a)) l m
theorem qnE(t:Tr 4 Nat)(l:List Nat):Zv t l=Wz t l 1:=rfl
theorem Vf(t:Tr 4 Nat)(a:Nat)(l:List Nat)(m:Nat):Wz t (a :: l) m=if 0≤FF t a then Wz t l (max m ((FF t a).toNat+2))else 0:=by
 show(Option.rec 0 (λx=>Nat.rec 0 (λy _=>qm (Nat.max m (Nat.succ x)) λm=>Wz t l m) x) (t.find a):Nat)=_;unfold FF Jy;generalize t.find a=o;cases o with
 |none=>rw[if_neg Ωd]
 |some x=>
  cases x with
  |zero=>rw[if_neg Ωd];rfl
  |succ y=>
   rw[if_pos (by show(0:Int)≤((y+1:Nat):Int) - 1;omega)];show qm (Nat.max m (y+1+1)) (λm=>Wz t l m)=_;rw[qg];have e:(((some (y+1)).getD 0:Nat) - 1:Int).toNat=y:=by
    show(((y+1:Nat):Int) - 1).toNat=y;omega
   rw[e]
theorem Vg(t:Tr 4 Nat):∀(l:List Nat)(m:Nat),(∃a,a∈l∧FF t a<0)→Wz t l m=0
 |[],m,⟨a,h,_⟩=>by cases h
 |b :: l,m,⟨a,h,hn⟩=>by
  rw[Vf];split
  ·rename_i h0
   rcases List.mem_cons.1 h with rfl|h
   ·omega
   ·exact Vg t l _ ⟨a,h,hn⟩
  ·rfl
theorem Vh(t:Tr 4 Nat):∀(l:List Nat)(m:Nat),(∀a,a∈l→0≤FF t a)→m≤Wz t l m∧(∀a,a∈l→FF t a+2≤Wz t l m)∧∀X:Nat,m≤X→(∀a,a∈l→FF t a+2≤X)→Wz t l m≤X
 |[],m,_=>⟨xa5 _,λa h=>(by cases h),λX h _=>h⟩
 |b :: l,m,h=>by
  have h0:=h b xd5;rw[Vf,if_pos h0];have⟨h1,h2,h3⟩:=Vh t l (max m ((FF t b).toNat+2)) λa ha=>h a (List.mem_cons_of_mem _ ha);refine⟨Ω,λa ha=>?_,λX hX hA=>h3 X ?_ λa ha=>hA a (List.mem_cons_of_mem _ ha)⟩
  ·rcases List.mem_cons.1 ha with rfl|ha
   ·omega
   ·exact h2 a ha
  ·have:=hA b xd5;omega
theorem Wn{F:Nat→Int}{to:Nat→Nat}{X:Int}(hX:0≤X):∀{m:Nat},(∀j,j<m→F (to j)+1≤X)→mxF F to m≤X
 |0,_=>hX
 |m+1,h=>by
  have h1:=Wn hX (m:=m) λj hj=>h j Ω;have h2:=h m Ω;rw[Zm];omega
theorem qdR{F:Nat→Int}{to:Nat→Nat}:∀{m:Nat},0≤mxF F to m
 |0=>Int.le_refl _
 |m+1=>by have:=qdR (F:=F) (to:=to) (m:=m);rw[Zm];omega
theorem qah{t:Tr 4 Nat}{l:List Nat}{i:Nat}(h:(t.find i).getD 0=Zv t l):(0≤FF t i↔∀j,j<l.length→0≤FF t (l.getD j 0))∧(0≤FF t i→FF t i=mxF (FF t) (λj=>l.getD j 0) l.length):=by
 have hF:FF t i=(Zv t l:Int) - 1:=by unfold FF Jy;rw[h]
 rw[qnE]at hF;have mem:∀j,j<l.length→l.getD j 0∈l:=λj hj=>by
  rw[xc6,xc7 hj];exact List.getElem_mem _
 have idx:∀a,a∈l→∃j,j<l.length∧l.getD j 0=a:=λa ha=>by
  obtain⟨j,hj,e⟩:=List.getElem_of_mem ha;exact⟨j,hj,by rw[xc6,xc7 hj];exact e⟩
 by_cases hA:∀a,a∈l→0≤FF t a
 ·have⟨h1,h2,h3⟩:=Vh t l 1 hA
  refine⟨⟨λ_ j hj=>hA _ (mem j hj),λ_=>by omega⟩,λ_=>?_⟩;have le1:mxF (FF t) (λj=>l.getD j 0) l.length≤FF t i:=Wn Ω λj hj=>by
   have:=h2 _ (mem j hj);omega
  have hm0:=qdR (F:=FF t) (to:=λj=>l.getD j 0) (m:=l.length);have le2:=h3 (mxF (FF t) (λj=>l.getD j 0) l.length+1).toNat Ω λa ha=>by
   obtain⟨j,hj,e⟩:=idx a ha;have:=qii (F:=FF t) (to:=λj=>l.getD j 0) hj;simp only[e]at this;omega
  omega
 ·have hn:∃a,a∈l∧FF t a<0:=by
   refine xf9 λhc=>hA λa ha=>?_;refine xf9 λh0=>hc ⟨a,ha,Ω⟩
  have e:=Vg t l 1 hn;rw[e]at hF;obtain⟨a,ha,hneg⟩:=hn;obtain⟨j,hj,e2⟩:=idx a ha;refine⟨⟨λh0=>by omega,λh0=>?_⟩,λh0=>by omega⟩;have:=h0 j hj;rw[e2]at this;omega
def ltK(N:Nat)(l:List Nat)(r:R):R:=List.rec r (λa _ ih=>ql 480 (Nat.ble (Nat.succ a) N) ih) l
theorem WA{N:Nat}{r:R}:∀{l:List Nat},ltK N l r=.ok ρ→r=.ok ρ∧∀a,a∈l→a<N
 |[],h=>⟨h,λa ha=>by cases ha⟩
 |a :: l,h=>by
  have h:ql 480 (Nat.ble (Nat.succ a) N) (ltK N l r)=.ok ρ:=h;obtain⟨h1,h⟩:=qa h;obtain⟨h2,h3⟩:=WA h;exact⟨h2,λb hb=>by
   rcases List.mem_cons.1 hb with rfl|hb
   ·exact xa7 h1
   ·exact h3 b hb⟩
def qly(t:Tr 4 Nat)(N:Nat)(L:List (List Nat))(i:Nat)(r:R):R:=List.rec (motive:=λ_=>Nat→R) (λ_=>r) (λa _ ih i=>qm (Zv t a) λm=>ql 481 (Nat.ble m 1000000) (Option.rec (.bad 482 0) (λx=>ql 483 (Nat.beq x m) (ltK N a (qm (Nat.succ i) λi=>ih i))) (t.find i))) L i
theorem qec{t:Tr 4 Nat}{N:Nat}{r:R}:∀{L:List (List Nat)}{i:Nat},qly t N L i r=.ok ρ→r=.ok ρ∧∀j,j<L.length→(t.find (i+j)).getD 0=Zv t (L.getD j [])∧Zv t (L.getD j [])≤1000000∧∀a,a∈L.getD j []→a<N
 |[],i,h=>⟨h,λj hj=>by cases hj⟩
 |a :: L,i,h=>by
  have h:qm (Zv t a) (λm=>ql 481 (Nat.ble m 1000000) (Option.rec (.bad 482 0) (λx=>ql 483 (Nat.beq x m) (ltK N a (qm (Nat.succ i) λi=>qly t N L i r))) (t.find i)))=(.ok ρ:R):=h;rw[qg]at h;obtain⟨h1,h⟩:=qa h;cases hf:t.find i with
  |none=>rw[hf]at h;cases h
  |some x=>
   rw[hf]at h;have h:ql 483 (Nat.beq x (Zv t a)) (ltK N a (qm (Nat.succ i) λi=>qly t N L i r))=.ok ρ:=h;obtain⟨h2,h⟩:=qa h;obtain⟨h,h3⟩:=WA h;rw[qg]at h;obtain⟨h,h4⟩:=qec h;refine⟨h,λj hj=>?_⟩;cases j with
   |zero=>exact⟨by rw[xb1,hf];exact xa6 h2,xa7 h1,h3⟩
   |succ j=>
    have:=h4 j (Nat.lt_of_succ_lt_succ hj);rw[show i+(j+1)=Nat.succ i+j by omega];exact this
theorem qai{t:Tr 4 Nat}:∀{L:List (List Nat)}{i:Nat}{f:List SV→R},qdZ t L i f=.ok ρ→∃m,f m=.ok ρ∧m.length=L.length∧∀j,j<L.length→m.getD j .top=.val (.int .i64 (FF t (i+j)))
 |[],i,f,h=>⟨[],h,rfl,λj hj=>by cases hj⟩
 |a :: L,i,f,h=>by
  have h:qm (Nat.succ i) (λi1=>Option.rec (.bad 454 0) (λx=>qm x λx=>qdZ t L i1 λm=>f (qfL x :: m)) (t.find i))=(.ok ρ:R):=h;rw[qg]at h;cases hf:t.find i with
  |none=>rw[hf]at h;cases h
  |some x=>
   rw[hf]at h;have h:qm x (λx=>qdZ t L (Nat.succ i) λm=>f (qfL x :: m))=(.ok ρ:R):=h;rw[qg]at h;obtain⟨m,h1,h2,h3⟩:=qai h;refine⟨qfL x :: m,h1,by simp[h2],λj hj=>?_⟩;cases j with
   |zero=>
    show qfL x=_;rw[qlx,xb1];unfold FF;rw[hf];rfl
   |succ j=>
    show m.getD j .top=_;rw[h3 j (Nat.lt_of_succ_lt_succ hj),show i+(j+1)=Nat.succ i+j by omega]
theorem Jb{t:Tr 4 Nat}:∀{es:List (Value×Option SV)}{f:List (Value×Option SV)→R},qea t es f=.ok ρ→f (es.filter λp=>decide ((t.find (qfM p.1)).getD 0=0))=.ok ρ
 |[],f,h=>h
 |p :: es,f,h=>by
  have h:qm (qfM p.1) (λi=>Option.rec (.bad 455 0) (λx=>Nat.rec (qea t es λl=>f (p :: l)) (λ_ _=>qea t es f) x) (t.find i))=(.ok ρ:R):=h;rw[qg]at h;cases hf:t.find (qfM p.1)with
  |none=>rw[hf]at h;cases h
  |some x=>
   rw[hf]at h;cases x with
   |zero=>
    have h:=Jb (f:=λl=>f (p :: l)) h;rw[List.filter_cons_of_pos (by rw[hf];rfl)];exact h
   |succ y=>
    have h:=Jb (f:=f) h;rw[List.filter_cons_of_neg (by rw[hf];simp)];exact h
def qaj(l:List SV)(f:List Nat→R):R:=(List.rec (motive:=λ_=>(List Nat→R)→R) (λf=>f []) (λa _ ih f=>match a with
 |.val (.int .i64 (.ofNat n))=>ih λl=>f (n :: l)
 |_=>.bad 484 0) l) f
theorem Zw:∀{l:List SV}{f:List Nat→R},qaj l f=.ok ρ→∃m,f m=.ok ρ∧m.length=l.length∧∀j,j<l.length→l.getD j .top=.val (.int .i64 (m.getD j 0:Nat))
 |[],f,h=>⟨[],h,rfl,λj hj=>by cases hj⟩
 |a :: l,f,h=>by
  have h:(match (generalizing:=false) a with
   |.val (.int .i64 (.ofNat n))=>qaj l λl=>f (n :: l)
   |_=>.bad 484 0)=(.ok ρ:R):=h
  split at h
  ·rename_i n _
   obtain⟨m,h1,h2,h3⟩:=Zw h;refine⟨n :: m,h1,by simp[h2],λj hj=>?_⟩;cases j with
   |zero=>rfl
   |succ j=>exact h3 j (Nat.lt_of_succ_lt_succ hj)
  ·cases h
def qed(hp:Tr 6 XB)(rid:Nat)(a:SV)(g:List Nat→R):R:=match a with
 |.val (.slice none 0 0)=>g []
 |.vec xi n 1=>(match hp.find xi with
  |some (.rows 3 1 n' l)=>ql 485 (Nat.beq n n') (ql 486 (Nat.ble n 5) (ql 487 (Bool.not (Nat.beq xi rid)) (qaj l g)))
  |_=>.bad 488 0)
 |_=>.bad 489 0
theorem qjr{hp:Tr 6 XB}{rid:Nat}{a:SV}{g:List Nat→R}(h:qed hp rid a g=.ok ρ):∃m,g m=.ok ρ∧((a=.val (.slice none 0 0)∧m=[])∨∃xi n l,a=.vec xi n 1∧n≤5∧xi≠rid∧hp.find xi=some (.rows 3 1 n l)∧m.length=l.length∧∀j,j<l.length→l.getD j .top=.val (.int .i64 (m.getD j 0:Nat))):=by
 unfold qed at h;split at h
 ·exact⟨[],h,.inl ⟨rfl,rfl⟩⟩
 ·rename_i xi n
  split at h
  ·rename_i n' l hf
   obtain⟨h1,h⟩:=qa h;obtain⟨h2,h⟩:=qa h;obtain⟨h3,h⟩:=qa h;obtain⟨m,h4,h5,h6⟩:=Zw h;have e:=xa6 h1;subst e;refine⟨m,h4,.inr ⟨xi,n,l,rfl,xa7 h2,λe=>?_,hf,h5,h6⟩⟩;rw[e]at h3;have:Nat.beq rid rid=true:=Nat.beq_refl _;rw[this]at h3;cases h3
  ·cases h
 ·cases h
def Jc(hp:Tr 6 XB)(rid:Nat)(xs:List SV)(f:List (List Nat)→R):R:=(List.rec (motive:=λ_=>(List (List Nat)→R)→R) (λf=>f []) (λa _ ih f=>qed hp rid a λx=>ih λl=>f (x :: l)) xs) f
theorem yS{hp:Tr 6 XB}{rid:Nat}:∀{xs:List SV}{f:List (List Nat)→R},Jc hp rid xs f=.ok ρ→∃L,f L=.ok ρ∧L.length=xs.length∧∀i,i<xs.length→((xs.getD i .top=.val (.slice none 0 0)∧L.getD i []=[])∨∃xi n l,xs.getD i .top=.vec xi n 1∧n≤5∧xi≠rid∧hp.find xi=some (.rows 3 1 n l)∧(L.getD i []).length=l.length∧∀j,j<l.length→l.getD j .top=.val (.int .i64 ((L.getD i []).getD j 0:Nat)))
 |[],f,h=>⟨[],h,rfl,λj hj=>by cases hj⟩
 |a :: xs,f,h=>by
  have h:qed hp rid a (λx=>Jc hp rid xs λl=>f (x :: l))=.ok ρ:=h;obtain⟨m,h,h1⟩:=qjr h;obtain⟨L,h,h2,h3⟩:=yS h;refine⟨m :: L,h,by simp[h2],λi hi=>?_⟩;cases i with
  |zero=>exact h1
  |succ i=>exact h3 i (Nat.lt_of_succ_lt_succ hi)
def qjs(l:List SV)(r:R):R:=List.rec r (λa _ ih=>match a with
 |.val (.int .i64 (.negSucc 0))=>ih
 |_=>.bad 490 0) l
theorem qak{r:R}:∀{l:List SV},qjs l r=.ok ρ→r=.ok ρ∧∀j,j<l.length→l.getD j .top=.val (.int .i64 (-1))
 |[],h=>⟨h,λj hj=>by cases hj⟩
 |a :: l,h=>by
  have h:(match (generalizing:=false) a with
   |.val (.int .i64 (.negSucc 0))=>qjs l r
   |_=>.bad 490 0)=(.ok ρ:R):=h
  split at h
  ·obtain⟨h1,h2⟩:=qak h
   refine⟨h1,λj hj=>?_⟩;cases j with
   |zero=>rfl
   |succ j=>exact h2 j (Nat.lt_of_succ_lt_succ hj)
  ·cases h
def qlz(p:Value×Option SV)(i:Nat)(r:R):R:=match p with
 |(.agg c,some _)=>(match c.toList with
  |[.int .i64 _,.int .i64 _,.int .i64 _,.int .i64 _,.int .i64 _,.int .i64 (.ofNat n)]=>ql 491 (Nat.beq (Nat.succ n) i) r
  |_=>.bad 492 0)
 |_=>.bad 493 0
theorem qlA{p:Value×Option SV}{i:Nat}{r:R}(h:qlz p i r=.ok ρ):r=.ok ρ∧0<i∧∃f s,p=(kp f (i - 1),some s):=by
 unfold qlz at h;split at h
 ·rename_i c s
  split at h
  ·rename_i a b c' d e n hc
   obtain⟨h1,h9⟩:=qa h;have e1:=xa6 h1;subst e1;refine⟨h9,Nat.succ_pos _,λj=>if j=0 then a else if j=1 then b else if j=2 then c' else if j=3 then d else e,s,?_⟩;have:c = #[.int .i64 a,.int .i64 b,.int .i64 c',.int .i64 d,.int .i64 e,.int .i64 (.ofNat n)]:=by
    apply Array.toList_inj.1;rw[hc]
   rw[this];rfl
  ·cases h
 ·cases h
def qjt(es:List (Value×Option SV))(i:Nat)(r:R):R:=List.rec (motive:=λ_=>Nat→R) (λ_=>r) (λp _ ih i=>qlz p i (qm (Nat.pred i) λi=>ih i)) es i
theorem qal{r:R}:∀{es:List (Value×Option SV)}{i:Nat},qjt es i r=.ok ρ→r=.ok ρ∧∀j,j<es.length→j<i∧∃f s,es[j]? = some (kp f (i - 1 - j),some s)
 |[],i,h=>⟨h,λj hj=>by cases hj⟩
 |p :: es,i,h=>by
  have h:qlz p i (qm (Nat.pred i) λi=>qjt es i r)=.ok ρ:=h;obtain⟨h,h0,f,s,h1⟩:=qlA h;rw[qg]at h;obtain⟨h,h2⟩:=qal h;refine⟨h,λj hj=>?_⟩;cases j with
  |zero=>exact⟨h0,f,s,by rw[h1];rfl⟩
  |succ j=>
   obtain⟨h4,f,s,h3⟩:=h2 j (Nat.lt_of_succ_lt_succ hj);have h4:j<i - 1:=h4;exact⟨Ω,f,s,by rw[xd7,h3,show i - 1 -(j+1)=Nat.pred i - 1 - j by show i - 1 -(j+1)=i - 1 - 1 - j;omega]⟩
structure Uq(es:List (Value×Option SV)):Prop where
 key:∀p,p∈es→∃f n s,p=(kp f n,some s)
 pw:es.Pairwise λp q=>zL p.1≠zL q.1
theorem yp:∀{es:List (Value×Option SV)}(h:Uq es){v:Value}{s:SV},kw es v=some s↔(v,some s)∈es
 |[],_,v,s=>⟨λh=>(by cases h),λh=>(by cases h)⟩
 |p :: es,h,v,s=>by
  obtain⟨f,n,s',rfl⟩:=h.key p xd5;have h2:=List.pairwise_cons.1 h.pw;have ih:=yp (es:=es) ⟨λq hq=>h.key q (List.mem_cons_of_mem _ hq),h2.2⟩ (v:=v) (s:=s);rw[zK];split
  ·rename_i he
   have e:=eqK_kp.1 he;subst e;constructor
   ·intro e
    have e:some s'=some s:=e;rw[e];exact xd5
   ·intro hm
    rcases List.mem_cons.1 hm with e|hm
    ·exact(congrArg Prod.snd e).symm
    ·exact(h2.1 _ hm rfl).elim
  ·rename_i he
   rw[ih,List.mem_cons];constructor
   ·exact .inr
   ·rintro(e|e)
    ·exact absurd (eqK_kp.2 (congrArg Prod.fst e)) he
    ·exact e
theorem Uq.isSome{es:List (Value×Option SV)}(h:Uq es){v:Value}:(kw es v).isSome=true↔∃s,(v,some s)∈es:=by
 constructor
 ·intro hs
  obtain⟨s,e⟩:=Option.isSome_iff_exists.1 hs;exact⟨s,(yp h).1 e⟩
 ·rintro⟨s,e⟩
  rw[(yp h).2 e];rfl
theorem Uq.of{es:List (Value×Option SV)}(h:∀j,j<es.length→∃f s,es[j]? = some (kp f (es.length - 1 - j),some s)):Uq es:=by
 refine⟨λp hp=>?_,?_⟩
 ·obtain⟨j,hj,e⟩:=List.getElem_of_mem hp
  obtain⟨f,s,e2⟩:=h j hj;rw[xc7 hj,e]at e2;exact⟨f,_,s,Option.some.inj e2⟩
 ·rw[List.pairwise_iff_getElem]
  intro i j hi hj hij;obtain⟨f,s,e⟩:=h i hi;obtain⟨g,u,e2⟩:=h j hj;rw[xc7 hi]at e;rw[xc7 hj]at e2;rw[Option.some.inj e,Option.some.inj e2,ws,ws];omega
def qju(args:List SV)(hp:Tr 6 XB)(nid:Nat)(k:SV→Tr 6 XB→Nat→R):R:=
 match args with
 |[.ptr tb 0]=>(match hp.find tb with
  |some (.cells 253 [_,_,.vec xid n 1,.vec rid n' 1,.mp mid])=>(match hp.find xid,hp.find rid,hp.find mid with
   |some (.rows 22 1 n1 xs),some (.rows 3 1 n2 rs),some (.map true [.i .i64,.i .i64,.i .i64,.i .i64,.i .i64,.i .i64] es)=>
    ql 494 (Nat.beq n' n) (ql 495 (Nat.beq n1 n) (ql 496 (Nat.beq n2 n) (ql 497 (Nat.ble n 100000) (ql 498 (Nat.beq es.length n) (qjs rs (Jc hp rid xs λL=>qcf L 0 .nil λt=>qnz L (L.length+2) t λt=>qly t n L 0 (qjt es n (qdZ t L 0 λrs=>qea t es λes=>
     qY (some (.rows 3 1 n rs)) 22 hp rid λhp=>qY (some (.map true [.i .i64,.i .i64,.i .i64,.i .i64,.i .i64,.i .i64] es)) 22 hp mid λhp=>k (.tup []) hp nid))))))))
   |_,_,_=>.bad 456 0)
  |_=>.bad 457 0)
 |_=>.bad 458 0
theorem qjv:yc Tryz.prog 163 qju:=by
 intro ρ LM O args hp k st K hH h hk;unfold qju at h;split at h
 ·rename_i tb
  split at h
  ·rename_i A Z xid N rid n' mid hft
   split at h
   ·rename_i n1 xs n2 rs es hfx hfr hfm
    obtain⟨a1,h⟩:=qa h;obtain⟨a2,h⟩:=qa h;obtain⟨a3,h⟩:=qa h;obtain⟨a4,h⟩:=qa h;obtain⟨a5,h⟩:=qa h;have e1:=xa6 a1;have e2:=xa6 a2;have e3:=xa6 a3;have hN:=xa7 a4;have hL:=xa6 a5;subst e1 e2 e3;obtain⟨h,b1⟩:=qak h;obtain⟨L,h,b2,b3⟩:=yS h;obtain⟨t0,h⟩:=Ve _ _ _ _ h;obtain⟨t,h⟩:=qeb _ _ _ _ h;obtain⟨h,b4⟩:=qec h;obtain⟨h,b5⟩:=qal h;obtain⟨rs',h,b6,b7⟩:=qai h;have h:=Jb h;obtain⟨hp1,p1,h⟩:=qB _ _ _ _ h;obtain⟨hp2,p2,h⟩:=qB _ _ _ _ h;obtain⟨rowx,hbx,lx,gx⟩:=hH.rows hfx;obtain⟨rowr,hbr,lr,gr⟩:=hH.rows hfr;obtain⟨dom,get,hbm,hd⟩:=hH.map hfm;have hbt:=hH.cells hft;have uq:Uq es:=Uq.of λj hj=>by rw[hL];exact(b5 j hj).2
    have hdm:∀v,dom v=true↔∃s,(v,some s)∈es:=λv=>by rw[(hd v).1];exact uq.isSome
    have hidx:∀v,dom v=true→zL v<n2∧∃f,v=kp f (zL v)∧∃s,es[n2 - 1 - zL v]? = some (v,some s):=λv hv=>by
     obtain⟨s,hm⟩:=(hdm v).1 hv;obtain⟨j,hj,e⟩:=List.getElem_of_mem hm;obtain⟨_,f,s2,e2⟩:=b5 j hj;rw[xc7 hj,e]at e2;have e3:=congrArg Prod.fst (Option.some.inj e2);have e3:v=kp f (n2 - 1 - j):=e3;subst e3;rw[ws];exact⟨Ω,f,rfl,s,by rw[show n2 - 1 -(n2 - 1 - j)=j by omega,xc7 hj,e]⟩
    intro base okc ns r outs a w vs hI hlen hv;have keys:=hI.keys;have b3':∀i,i<n2→((L.getD i []).length=0∧rowx i 0=.val (.slice none 0 0))∨∃xi r,rowx i 0=.vec xi (L.getD i []).length 1∧(L.getD i []).length≤5∧blk st.hp xi=some (.rows 3 1 (L.getD i []).length r)∧(xi≠tb∧xi≠xid∧xi≠rid∧xi≠mid∧xi<st.nid)∧∀j,j<(L.getD i []).length→r j 0=.val (.int .i64 ((L.getD i []).getD j 0:Nat)):=λi hi=>by
     have gxi:=gx i 0 hi Ω;rw[Nat.mul_one,xb1]at gxi;rcases b3 i Ω with⟨c1,c2⟩|⟨xi,n,l,c1,c2,c3,c4,c5,c6⟩
     ·exact .inl ⟨by rw[c2];rfl,by rw[gxi,c1]⟩
     ·obtain⟨r,d1,d2,d3⟩:=hH.rows c4
      have el:(L.getD i []).length=n:=by omega
      refine .inr ⟨xi,r,by rw[gxi,c1,el],Ω,by rw[d1,el],⟨λe=>?_,λe=>?_,c3,λe=>?_,keys _ _ d1⟩,λj hj=>?_⟩
      ·rw[e,hbt]at d1;cases d1
      ·rw[e,hbx]at d1;cases d1
      ·rw[e,hbm]at d1;cases d1
      ·rw[d3 j 0 Ω Ω,Nat.mul_one,xb1]
       exact c6 j Ω
    have b4':∀i,i<n2→(t.find i).getD 0=Zv t (L.getD i [])∧Zv t (L.getD i [])≤1000000∧∀a,a∈L.getD i []→a<n2:=λi hi=>by
     have:=b4 i Ω
     rwa [xb0]at this
    have hl:Hl n2 (λi=>(L.getD i []).length) (λi j=>(L.getD i []).getD j 0) (FF t) dom rowx st.hp st.nid tb xid rid mid:=by
     refine⟨⟨λi hi=>?_,λi hi=>?_,λi j hi hj=>?_,λi hi=>(qah (b4' i hi).1).1,λi hi=>(qah (b4' i hi).1).2⟩,hN,λi hi=>?_,λv hv=>?_,λv v' h1 h2 h3=>?_,λi hi=>?_,λi hi=>?_,keys _ _ hbt,keys _ _ hbx,keys _ _ hbr,keys _ _ hbm,?_,?_,?_,?_,?_,?_,λk x hx=>keys k x hx⟩
     ·unfold FF Jy;omega
     ·have⟨c1,c2,_⟩:=b4' i hi
      unfold FF Jy;rw[c1];omega
     ·refine(b4' i hi).2.2 _ ?_
      have hj:j<(L.getD i []).length:=hj;show(L.getD i []).getD j 0∈L.getD i [];rw[xc6 (l:=L.getD i []),xc7 hj];exact List.getElem_mem _
     ·rcases b3' i hi with⟨c1,_⟩|⟨_,_,_,c1,_⟩
      ·show(L.getD i []).length≤5
       omega
      ·exact c1
     ·obtain⟨c1,f,c2,_⟩:=hidx v hv
      exact⟨f,zL v,c1,c2⟩
     ·obtain⟨_,_,_,s,c1⟩:=hidx v h1
      obtain⟨_,_,_,s',c2⟩:=hidx v' h2;rw[h3,c2]at c1;exact(congrArg Prod.fst (Option.some.inj c1)).symm
     ·obtain⟨_,f,s,c1⟩:=b5 (n2 - 1 - i) Ω
      rw[show n2 - 1 -(n2 - 1 - i)=i by omega]at c1;exact⟨kp f i,(hdm _).2 ⟨s,List.mem_of_getElem? c1⟩,ws f i⟩
     ·rcases b3' i hi with c|⟨xi,r,c1,c2,c3,c4,c5⟩
      ·exact .inl c
      ·exact .inr ⟨xi,r,c1,c3,c4,c5⟩
     ·rintro rfl;rw[hbt]at hbx;cases hbx
     ·rintro rfl;rw[hbt]at hbr;cases hbr
     ·rintro rfl;rw[hbt]at hbm;cases hbm
     ·rintro rfl;rw[hbx]at hbr;cases hbr
     ·rintro rfl;rw[hbx]at hbm;cases hbm
     ·rintro rfl;rw[hbr]at hbm;cases hbm
    have E:=qpB n2 _ _ (FF t) dom get A Z rowx rowr st.hp st.nid tb xid rid mid hl (λi hi=>by
     rw[gr i 0 hi Ω,Nat.mul_one,xb1];exact b1 i Ω)
    have E2:=EffVC.sub (hp:=st.hp) (λid x hx=>by
     simp only[blk]at hx;split at hx
     ·rename_i e;subst e;cases hx;exact hbr
     ·split at hx
      ·rename_i e;subst e;cases hx;exact hbm
      ·split at hx
       ·rename_i e;subst e;cases hx;exact hbt
       ·split at hx
        ·rename_i e;subst e;cases hx;exact hbx
        ·exact hx) E
    refine Ja (E2 O st.fr) (λst' sv hself hq=>?_) base okc ns r outs a w vs hI hlen hv;obtain⟨fr',hp',nid'⟩:=st';obtain⟨q0,q1,q2,row,q3,q4⟩:=hq;simp only[]at q0 q1 q2 q4;subst q0 q2 q4;have hrow:∀i j,i<n2→j<1→Wk ((rid,.rows 3 1 n2 row) ::(mid,.map kfP (λv=>dom v&&decide (FF t (zL v)<0)) get) ::(tb,.cells 253 [A,Z,.vec xid n2 1,.vec rid n2 1,.mp mid]) ::(xid,.rows 22 1 n2 rowx) :: st.hp) (ren [(st.nid,some st.nid)]) st.nid (λ_=>false) (row i j) (row i j):=λi j hi hj=>by
     obtain rfl:j=0:=by omega
     rw[q3 i hi];simp[Wk]
    refine⟨st.nid,_,.tup [],st.nid,rfl,xa5 _,λid x hx=>⟨.inl ⟨?_,hx⟩,?_⟩,by simp[Wk,WkL],xa5 _,hk _ hp2 _ _ (λid b hb=>?_) h⟩
    ·simp only[blk]at hx
     split at hx
     ·rename_i e;rw[e];exact keys _ _ hbr
     ·split at hx
      ·rename_i e;rw[e];exact keys _ _ hbm
      ·split at hx
       ·rename_i e;rw[e];exact keys _ _ hbt
       ·split at hx
        ·rename_i e;rw[e];exact keys _ _ hbx
        ·exact keys _ _ hx
    ·simp only[blk]at hx
     split at hx
     ·cases hx
      exact⟨rfl,rfl,xa5 _,hrow⟩
     ·split at hx
      ·cases hx
       have hm0:=hself ((rid,.rows 3 1 n2 row) ::(mid,.map kfP (λv=>dom v&&decide (FF t (zL v)<0)) get) ::(tb,.cells 253 [A,Z,.vec xid n2 1,.vec rid n2 1,.mp mid]) ::(xid,.rows 22 1 n2 rowx) :: st.hp) st.nid st.nid (xa5 _) _ _ hbm;exact⟨rfl,rfl,λk hk=>hm0.2.2 k (xe6 _ _▸hk).1⟩
      ·split at hx
       ·rename_i e;cases hx;exact hself _ _ _ (xa5 _) _ _ hbt
       ·split at hx
        ·rename_i e;cases hx;exact hself _ _ _ (xa5 _) _ _ hbx
        ·exact hself _ _ _ (xa5 _) _ _ hx
    rw[p2 id]at hb;simp only[blk];by_cases e1:id=rid
    ·subst e1
     rw[if_neg hl.d6,p1,if_pos rfl]at hb;rw[if_pos rfl];cases hb;refine⟨_,rfl,rfl,rfl,rfl,Ω,λi j hi hj=>?_⟩;obtain rfl:j=0:=by omega
     have:=b7 i Ω;rw[xb0]at this;rw[q3 i hi,Nat.mul_one,xb1,this]
    ·rw[if_neg e1]
     by_cases e2:id=mid
     ·subst e2
      rw[if_pos rfl]at hb;rw[if_pos rfl];cases hb;have uq2:Uq (es.filter λp=>decide ((t.find (qfM p.1)).getD 0=0)):=⟨λp hp=>uq.key p (List.mem_filter.1 hp).1,uq.pw.filter _⟩;have hmm:∀v s,(v,some s)∈(es.filter λp=>decide ((t.find (qfM p.1)).getD 0=0))↔(v,some s)∈es∧FF t (zL v)<0:=λv s=>by
       rw[List.mem_filter];constructor
       ·rintro⟨c1,c2⟩
        obtain⟨f,n,s2,c3⟩:=uq.key _ c1;have c3:v=kp f n:=congrArg Prod.fst c3;subst c3;have c2:=of_decide_eq_true c2;refine⟨c1,?_⟩;rw[ws];have c2:(t.find n).getD 0=0:=c2;unfold FF Jy;rw[c2];decide
       ·rintro⟨c1,c2⟩
        obtain⟨f,n,s2,c3⟩:=uq.key _ c1;have c3:v=kp f n:=congrArg Prod.fst c3;subst c3;refine⟨c1,decide_eq_true ?_⟩;rw[ws]at c2;unfold FF Jy at c2;show(t.find n).getD 0=0;omega
      refine⟨_,rfl,rfl,λv=>⟨?_,λs hs=>(hd v).2 s ((yp uq).2 ((hmm v s).1 ((yp uq2).1 hs)).1)⟩⟩;rw[Bool.eq_iff_iff,uq2.isSome,xe6,decide_eq_true_eq,hdm];constructor
      ·rintro⟨⟨s,c1⟩,c2⟩;exact⟨s,(hmm v s).2 ⟨c1,c2⟩⟩
      ·rintro⟨s,c1⟩;exact⟨⟨s,((hmm v s).1 c1).1⟩,((hmm v s).1 c1).2⟩
     ·rw[if_neg e2,p1,if_neg e1]at hb
      rw[if_neg e2];obtain⟨b',c1,c2⟩:=hH id b hb;refine⟨b',?_,c2⟩;by_cases e3:id=tb
      ·subst e3;rw[if_pos rfl,←c1,hbt]
      ·rw[if_neg e3]
       by_cases e4:id=xid
       ·subst e4;rw[if_pos rfl,←c1,hbx]
       ·rw[if_neg e4];exact c1
   ·cases h
  ·cases h
 ·cases h
end
end Go.Sx
end
section
namespace Go.Sx
open Go.Proofs
open Go.RowKit Go.Tn
noncomputable section
variable{ρ:Q}
def qlB(l:List Nat)(f:List Nat→R):R:=(List.rec (motive:=λ_=>(List Nat→R)→R) (λf=>f []) (λa _ ih f=>qm a λa=>ih λl=>f (a :: l)) l) f
theorem WB:∀(l:List Nat)(f:List Nat→R),qlB l f=f l
 |[],f=>rfl
 |a :: l,f=>by
  show qm a (λa=>qlB l λl=>f (a :: l))=_;rw[qg,WB]
def qlC(N:Nat)(L:List (List Nat))(r:R):R:=List.rec r (λa _ ih=>ql 500 (Nat.ble a.length 5) (ltK N a ih)) L
theorem WC{N:Nat}{r:R}:∀{L:List (List Nat)},qlC N L r=.ok ρ→r=.ok ρ∧∀l,l∈L→l.length≤5∧∀a,a∈l→a<N
 |[],h=>⟨h,λl hl=>by cases hl⟩
 |a :: L,h=>by
  have h:ql 500 (Nat.ble a.length 5) (ltK N a (qlC N L r))=.ok ρ:=h;obtain⟨h1,h⟩:=qa h;obtain⟨h,h2⟩:=WA h;obtain⟨h,h3⟩:=WC h;refine⟨h,λl hl=>?_⟩;rcases List.mem_cons.1 hl with rfl|hl
  ·exact⟨xa7 h1,h2⟩
  ·exact h3 l hl
def svN(l:List Nat):List SV:=l.map λ(n:Nat)=>.val (.int .i64 (.ofNat n))
def qjw(args:List SV)(hp:Tr 6 XB)(nid:Nat)(k:SV→Tr 6 XB→Nat→R):R:=
 match args with
 |[.ptr tb 0]=>(match hp.find tb with
  |some (.cells 253 [_,.vec sid n' 5,.vec xid n 1,_,_])=>(match hp.find xid with
   |some (.rows 22 1 n1 xs)=>ql 501 (Nat.beq n' n) (ql 502 (Nat.beq n1 n) (ql 503 (Nat.ble n 1000) (Jc hp tb xs λL=>qlC n L
    (match G6 (λi=>L.getD i []) n (n+1) (n+1) n 0 []with
     |none=>.bad 504 0
     |some l=>qlB l λl=>qm (Nat.succ nid) λn2=>qm nid λnid=>qm l.length λm=>
      (match m with
       |0=>k (.val (.slice none 0 0)) hp nid
       |_=>qY (some (.rows 3 1 m (svN l))) 22 hp nid λhp=>k (.vec nid m 1) hp n2)))))
   |_=>.bad 505 0)
  |_=>.bad 506 0)
 |_=>.bad 507 0
theorem qlD{l:List Nat}{i:Nat}(h:i<l.length):(svN l).getD i .top=.val (.int .i64 (l.getD i 0:Nat)):=by
 unfold svN;rw[xc6,xc6,List.getElem?_map,xc7 h];rfl
theorem qjx:yc Tryz.prog 73 qjw:=by
 intro ρ LM O args hp k st K hH h hk;unfold qjw at h;split at h
 ·rename_i tb
  split at h
  ·rename_i A sid n' xid n Rr M hft
   split at h
   ·rename_i n1 xs hfx
    obtain⟨a1,h⟩:=qa h;obtain⟨a2,h⟩:=qa h;obtain⟨a3,h⟩:=qa h;obtain⟨L,h,b2,b3⟩:=yS h;obtain⟨h,b4⟩:=WC h;have e1:=xa6 a1;have e2:=xa6 a2;have hN:=xa7 a3;subst e1 e2;split at h
    ·cases h
    ·rename_i l hF
     rw[WB,qg,qg,qg]at h;obtain⟨rowx,hbx,lx,gx⟩:=hH.rows hfx;have hbt:=hH.cells hft;intro base okc ns r outs a w vs hI hlen hv;have keys:=hI.keys;have hmem:∀i,i<n1→L.getD i []∈L:=λi hi=>by
      rw[xc6,xc7 Ω];exact List.getElem_mem _
     have hC:Go.Tn.Cl n1 (λi=>L.getD i []) rowx st.hp st.nid tb xid A Rr M sid:=by
      refine⟨Ω,λi hi=>(b4 _ (hmem i hi)).1,λi hi=>(b4 _ (hmem i hi)).2,hbt,hbx,λi hi=>?_,λk x hx=>keys k x hx⟩;have gxi:=gx i 0 hi Ω;rw[Nat.mul_one,xb1]at gxi;rcases b3 i Ω with⟨c1,c2⟩|⟨xi,n,l,c1,c2,c3,c4,c5,c6⟩
      ·exact .inl ⟨c2,by rw[gxi,c1]⟩
      ·obtain⟨r,d1,d2,d3⟩:=hH.rows c4
       have el:(L.getD i []).length=n:=by omega
       refine .inr ⟨xi,r,by rw[gxi,c1,el],by rw[d1,el],λj hj=>?_⟩;have hj:j<(L.getD i []).length:=hj;rw[d3 j 0 Ω Ω,Nat.mul_one,xb1];exact c6 j Ω
     have E:=e73 n1 _ rowx st.hp st.nid tb xid A Rr M sid (n1+1) (n1+1) l hC Ω Ω hF (600*(n1+1)+2000) Ω;cases l with
     |nil=>
      refine Ja (E O st.fr) (λst' sv hself hq=>?_) base okc ns r outs a w vs hI hlen hv;obtain⟨fr',hp',nid'⟩:=st';obtain⟨q0,q1,bid,rr,q2,q3,q4,q5⟩:=hq;simp only[]at q0 q1 q2 q4;subst q0 q4 q5;exact⟨st.nid,_,_,st.nid,rfl,xa5 _,λid x hx=>⟨.inl ⟨keys id x hx,hx⟩,hself _ _ _ (xa5 _) _ _ hx⟩,by simp[Go.Tn.bSV,Wk],xa5 _,hk _ hp _ _ hH h⟩
     |cons x l=>
      have h:qY (some (.rows 3 1 (l.length+1) (svN (x :: l)))) 22 hp st.nid (λhp=>k (.vec st.nid (l.length+1) 1) hp (st.nid+1))=.ok ρ:=h;obtain⟨hp1,p1,h⟩:=qB _ _ _ _ h;refine Ja (E O st.fr) (λst' sv hself hq=>?_) base okc ns r outs a w vs hI hlen hv;obtain⟨fr',hp',nid'⟩:=st';obtain⟨q0,q1,bid,rr,q2,q3,q4,q5⟩:=hq;simp only[]at q0 q1 q2 q4;subst q0 q4 q5;have⟨z1,z2⟩:=q2 Ωi;refine⟨bid,(st.nid,.rows 3 1 (l.length+1) rr) :: st.hp,.vec st.nid (l.length+1) 1,st.nid+1,rfl,z1,λid y hy=>?_,?_,xc4 _,hk _ hp1 _ _ (λid b hb=>?_) h⟩
      ·simp only[blk]at hy
       split at hy
       ·rename_i e
        cases hy;refine⟨.inr ⟨e,by simp[Go.Tn.bH,blk],xa5 _⟩,rfl,rfl,xa5 _,λi j hi hj=>?_⟩;obtain rfl:j=0:=by omega
        rw[q3 i hi];simp[Wk]
       ·have hlt:=keys id y hy
        refine⟨.inl ⟨hlt,?_⟩,hself _ _ _ (xc4 _) _ _ hy⟩;simp only[Go.Tn.bH,blk];rw[if_neg Ω];exact hy
      ·unfold Go.Tn.bSV Wk
       refine⟨Ω,?_,rfl,rfl⟩;simp[ren]
      ·rw[p1 id]at hb
       simp only[blk];by_cases e:id=st.nid
       ·rw[if_pos e]at hb ⊢
        cases hb;refine⟨_,rfl,rfl,rfl,rfl,by simp[svN],λi j hi hj=>?_⟩;obtain rfl:j=0:=by omega
        rw[Nat.mul_one,xb1,qlD hi];exact q3 i hi
       ·rw[if_neg e]at hb ⊢
        exact hH id b hb
   ·cases h
  ·cases h
 ·cases h
end
end Go.Sx
end
section
namespace Go.Sx
open Go.Proofs
open Go.RowKit Go.Tn
noncomputable section
variable{ρ:Q}
def WD(s:SV):Bool:=match s with
 |.val (.int .i64 _)=>true
 |_=>false
theorem qfN{s:SV}(h:WD s=true):∃x:Int,s=.val (.int .i64 x):=by
 unfold WD at h;split at h
 ·exact⟨_,rfl⟩
 ·cases h
def qee(l:List SV)(r:R):R:=List.rec r (λa _ ih=>ql 520 (WD a) ih) l
theorem Jd{r:R}:∀{l:List SV},qee l r=.ok ρ→r=.ok ρ∧∀i,i<l.length→∃x:Int,l.getD i .top=.val (.int .i64 x)
 |[],h=>⟨h,λi hi=>by cases hi⟩
 |a :: l,h=>by
  have h:ql 520 (WD a) (qee l r)=.ok ρ:=h;obtain⟨h1,h⟩:=qa h;obtain⟨h,h2⟩:=Jd h;refine⟨h,λi hi=>?_⟩;cases i with
  |zero=>exact qfN h1
  |succ i=>exact h2 i (Nat.lt_of_succ_lt_succ hi)
def stK(us sl:List Nat)(m:Nat)(r:R):R:=Nat.rec (motive:=λ_=>Nat→R) (λ_=>r) (λ_ ih i=>ql 521 (Nat.ble 1 (us.getD i 0)) (ql 522 (Nat.ble (us.getD i 0) 12) (ql 523 (Nat.ble (sl.getD i 0) (us.getD i 0)) (qm (Nat.succ i) λi=>ih i)))) m 0
theorem qef{us sl:List Nat}{r:R}:∀(m i:Nat),(Nat.rec (motive:=λ_=>Nat→R) (λ_=>r) (λ_ ih i=>ql 521 (Nat.ble 1 (us.getD i 0)) (ql 522 (Nat.ble (us.getD i 0) 12) (ql 523 (Nat.ble (sl.getD i 0) (us.getD i 0)) (qm (Nat.succ i) λi=>ih i)))) m i:R)=.ok ρ→r=.ok ρ∧∀j,i≤j→j<i+m→1≤us.getD j 0∧us.getD j 0≤12∧sl.getD j 0≤us.getD j 0
 |0,i,h=>⟨h,λj h1 h2=>by omega⟩
 |m+1,i,h=>by
  obtain⟨h1,h⟩:=qa h;obtain⟨h2,h⟩:=qa h;obtain⟨h3,h⟩:=qa h;rw[qg]at h;obtain⟨h,h4⟩:=qef m (i+1) h;refine⟨h,λj hj1 hj2=>?_⟩;by_cases e:j=i
  ·subst e;exact⟨xa7 h1,xa7 h2,xa7 h3⟩
  ·exact h4 j Ω Ω
theorem qnF{us sl:List Nat}{m:Nat}{r:R}(h:stK us sl m r=.ok ρ):r=.ok ρ∧∀j,j<m→1≤us.getD j 0∧us.getD j 0≤12∧sl.getD j 0≤us.getD j 0:=by
 obtain⟨h1,h2⟩:=qef m 0 h;exact⟨h1,λj hj=>h2 j (xb6 _) Ω⟩
def qam(ss:List SV)(l:List Nat):List SV:=List.rec [] (λi _ ih=>(ss.drop (i*5)).take 5++ih) l
theorem qan{ss:List SV}{N:Nat}(hs:ss.length=N*5):∀{l:List Nat},(∀i,i∈l→i<N)→(qam ss l).length=l.length*5∧∀k j,k<l.length→j<5→(qam ss l).getD (k*5+j) .top=ss.getD (l.getD k 0*5+j) .top
 |[],_=>⟨rfl,λk j hk=>by cases hk⟩
 |a :: l,h=>by
  have⟨h1,h2⟩:=qan hs (l:=l) λi hi=>h i (List.mem_cons_of_mem _ hi);have ha:=h a xd5;have e:qam ss (a :: l)=(ss.drop (a*5)).take 5++qam ss l:=rfl;have l5:((ss.drop (a*5)).take 5).length=5:=by rw[xd9,List.length_drop,hs];omega
  rw[e];refine⟨by rw[xc8,l5,h1,xe4];omega,λk j hk hj=>?_⟩;rw[xc6,xc6];cases k with
  |zero=>
   rw[xc9 (by rw[l5];omega),List.getElem?_take_of_lt Ω,List.getElem?_drop];show(ss[a*5+(0*5+j)]?).getD .top=(ss[a*5+j]?).getD .top;rw[Nat.zero_mul,xb0]
  |succ k=>
   rw[xd0 (by rw[l5];omega),l5,←xc6,show(k+1)*5+j - 5=k*5+j by omega,h2 k j (Nat.lt_of_succ_lt_succ hk) hj,xc6];rfl
def qnG(hp:Tr 6 XB)(A:SV)(f:Nat→List SV→R):R:=
 match A with
 |.vec tix m 1=>(match hp.find tix with
  |some (.rows 3 1 m2 ts)=>ql 533 (Nat.beq m2 m) (f m ts)
  |_=>.bad 542 0)
 |.arr _ _ m 1 row=>f m (List.ofFn λ(i:Fin m)=>row i.1 0)
 |_=>.bad 543 0
theorem qlE{hp:Tr 6 XB}{LM:Nat→Option Loop}{H:List (Nat×Blk)}(hH:HRel LM hp H){A:SV}{f:Nat→List SV→R}(h:qnG hp A f=.ok ρ):∃m ts,f m ts=.ok ρ∧ts.length=m∧((∃tix tr,A=.vec tix m 1∧blk H tix=some (.rows 3 1 m tr)∧∀i,i<m→tr i 0=ts.getD i .top)∨∃o full row,A=.arr o full m 1 row∧∀i,i<m→row i 0=ts.getD i .top):=by
 unfold qnG at h;split at h
 ·split at h
  ·rename_i m2 ts hf
   obtain⟨a,h⟩:=qa h;have a:=xa6 a;subst a;obtain⟨row,hb,l,g⟩:=hH.rows hf;exact⟨_,ts,h,Ω,.inl ⟨_,row,rfl,hb,λi hi=>by rw[g i 0 hi Ω,Nat.mul_one,xb1]⟩⟩
  ·cases h
 ·rename_i o full m row
  exact⟨_,_,h,Ωi,.inr ⟨o,full,row,rfl,λi hi=>by rw[xc6,List.getElem?_ofFn];simp[hi]⟩⟩
 ·cases h
def qjy(args:List SV)(hp:Tr 6 XB)(nid:Nat)(k:SV→Tr 6 XB→Nat→R):R:=
 match args with
 |[.ptr tb 0,.agg st]=>(match hp.find tb with
  |some (.cells 253 [A,.vec sid n' 5,.vec xid n 1,_,_])=>(match hp.find xid,hp.find sid with
   |some (.rows 22 1 n1 xs),some (.rows 140 5 n2 ss)=>qnG hp A λm ts=>
    ql 530 (Nat.beq n' n) (ql 531 (Nat.beq n1 n) (ql 532 (Nat.beq n2 n) (ql 534 (Nat.ble n 1000) (ql 535 (Nat.ble m 5) (ql 536 (Nat.beq st.length 5)
     (qaj ts λus=>qaj st λsl=>stK us sl m (qee ss (Jc hp tb xs λL=>qlC n L (qm (ixF (λi=>((us.getD i 0:Nat):Int)) (λi=>((sl.getD i 0:Nat):Int)) m).toNat λi0=>ql 537 (Nat.ble (Nat.succ i0) n)
      (match Vc (λi=>L.getD i []) (n+1) (Go.Tn.setN (λ_=>0) i0 1) [i0] []with
       |none=>.bad 538 0
       |some l=>qlB l λl=>ltK n l (qm nid λnid=>qm l.length λc=>gI (qam ss l) λo=>qY (some (.rows 140 5 c o)) 22 hp nid λhp=>qm (Nat.succ nid) λn2=>k (.vec nid c 5) hp n2)))))))))))
   |_,_=>.bad 539 0)
  |_=>.bad 540 0)
 |_=>.bad 541 0
theorem qjz:yc Tryz.prog 262 qjy:=by
 intro ρ LM O args hp k st K hH h hk;unfold qjy at h;split at h
 ·rename_i tb sv
  split at h
  ·rename_i A sid n' xid n Rr M hft
   split at h
   ·rename_i n1 xs n2 ss hfx hfs
    obtain⟨m2,ts,h,tl,hthr⟩:=qlE hH h;obtain⟨a1,h⟩:=qa h;obtain⟨a2,h⟩:=qa h;obtain⟨a3,h⟩:=qa h;obtain⟨a5,h⟩:=qa h;obtain⟨a6,h⟩:=qa h;obtain⟨a7,h⟩:=qa h;obtain⟨us,h,u1,u2⟩:=Zw h;obtain⟨sl,h,s1,s2⟩:=Zw h;obtain⟨h,b1⟩:=qnF h;obtain⟨h,b5⟩:=Jd h;obtain⟨L,h,b2,b3⟩:=yS h;obtain⟨h,b4⟩:=WC h;rw[qg]at h;obtain⟨a8,h⟩:=qa h;have e1:=xa6 a1;have e2:=xa6 a2;have e3:=xa6 a3;have hN:=xa7 a5;have hm:=xa7 a6;have h5:=xa6 a7;have hi0:=xa7 a8;subst e1 e2 e3;split at h
    ·cases h
    ·rename_i l hF
     rw[WB]at h;obtain⟨h,c1⟩:=WA h;rw[qg,qg,qT]at h;obtain⟨hp1,p1,h⟩:=qB _ _ _ _ h;rw[qg]at h;obtain⟨rowx,hbx,lx,gx⟩:=hH.rows hfx;obtain⟨rows,hbs,ls,gs⟩:=hH.rows hfs;have hbt:=hH.cells hft;intro base okc ns r outs a w vs hI hlen hv;have keys:=hI.keys;have hmem:∀i,i<n2→L.getD i []∈L:=λi hi=>by
      rw[xc6,xc7 Ω];exact List.getElem_mem _
     have hC:Go.Tn.Cl n2 (λi=>L.getD i []) rowx st.hp st.nid tb xid A Rr M sid:=by
      refine⟨Ω,λi hi=>(b4 _ (hmem i hi)).1,λi hi=>(b4 _ (hmem i hi)).2,hbt,hbx,λi hi=>?_,λk x hx=>keys k x hx⟩;have gxi:=gx i 0 hi Ω;rw[Nat.mul_one,xb1]at gxi;rcases b3 i Ω with⟨c1,c2⟩|⟨xi,n,l,c1,c2,c3,c4,c5,c6⟩
      ·exact .inl ⟨c2,by rw[gxi,c1]⟩
      ·obtain⟨r,d1,d2,d3⟩:=hH.rows c4
       have el:(L.getD i []).length=n:=by omega
       refine .inr ⟨xi,r,by rw[gxi,c1,el],by rw[d1,el],λj hj=>?_⟩;have hj:j<(L.getD i []).length:=hj;rw[d3 j 0 Ω Ω,Nat.mul_one,xb1];exact c6 j Ω
     have hst:sv=stL (λi=>((sl.getD i 0:Nat):Int)):=by
      refine List.ext_getElem (by rw[h5];rfl) λj h1 h2=>?_;have:=s2 j h1;rw[xc6,xc7 h1]at this;have h3:j<5:=by omega
      have h4:=V8 (s:=λi=>((sl.getD i 0:Nat):Int)) h3;rw[xc7 h2]at h4;rw[Option.some.inj h4];exact this
     have hbb:=QA (u:=λi=>((us.getD i 0:Nat):Int)) (s:=λi=>((sl.getD i 0:Nat):Int)) (m:=m2) (λi hi=>by have:=b1 i hi;omega) (xa5 m2);have hU:Under st.hp st.nid:=λk x hx=>keys k x hx;have hu1:∀i,i<m2→(1:Int)≤((us.getD i 0:Nat):Int)∧((us.getD i 0:Nat):Int)≤12:=λi hi=>by have:=b1 i hi;omega
     have hs1:∀i,i<m2→(0:Int)≤((sl.getD i 0:Nat):Int)∧((sl.getD i 0:Nat):Int)≤((us.getD i 0:Nat):Int):=λi hi=>by have:=b1 i hi;omega
     have E:=qpC n2 _ rowx st.hp st.nid tb xid sid A Rr M (λi=>((sl.getD i 0:Nat):Int)) rows (ixF (λi=>((us.getD i 0:Nat):Int)) (λi=>((sl.getD i 0:Nat):Int)) m2).toNat (n2+1) l hC Ω hbs
      (λi hi j hj=>by
       rw[gs i j hi hj];exact b5 _ (by rw[ls];have:i*5+5≤n2*5:=Ω;omega)) (by
      rcases hthr with⟨tix,tr,rfl,t1,t2⟩|⟨o,full,row,rfl,t2⟩
      ·exact qpD hU hbt t1 (λi hi=>(t2 i hi).trans (u2 i Ω)) hm hu1 hs1 (by rw[Int.toNat_of_nonneg hbb.1])
      ·exact qpE hU hbt (λi hi=>(t2 i hi).trans (u2 i Ω)) hm hu1 hs1 (by rw[Int.toNat_of_nonneg hbb.1])) Ω hF
     rw[←hst]at E;refine Ja (E O st.fr) (λst' sv hself hq=>?_) base okc ns r outs a w vs hI hlen hv;obtain⟨fr',hp',nid'⟩:=st';obtain⟨q0,q1,oid,rr,z1,z2,q3,q4,q5⟩:=hq;simp only[]at q0 q1 q4;subst q0 q4 q5;have hl5:=qan (N:=n2) (by rw[ls]) (l:=l) c1;refine⟨oid,(st.nid,.rows 140 5 l.length rr) :: st.hp,.vec st.nid l.length 5,st.nid+1,rfl,z1,λid y hy=>?_,?_,xc4 _,hk _ hp1 _ _ (λid b hb=>?_) h⟩
     ·simp only[blk]at hy
      split at hy
      ·rename_i e
       cases hy;refine⟨.inr ⟨e,by simp[blk],xa5 _⟩,rfl,rfl,xa5 _,λi j hi hj=>?_⟩;have hli:l.getD i 0<n2:=c1 _ (by rw[xc6,xc7 hi];exact List.getElem_mem _);rw[q3 i hi j hj,gs _ j hli hj];obtain⟨x,hx⟩:=b5 (l.getD i 0*5+j) (by rw[ls];omega);rw[hx];simp[Wk]
      ·have hlt:=keys id y hy
       refine⟨.inl ⟨hlt,?_⟩,hself _ _ _ (xc4 _) _ _ hy⟩;simp only[blk];rw[if_neg Ω];exact hy
     ·unfold Wk
      refine⟨Ω,?_,rfl,rfl⟩;simp[ren]
     ·rw[p1 id]at hb
      simp only[blk];by_cases e:id=st.nid
      ·rw[if_pos e]at hb ⊢
       cases hb;refine⟨_,rfl,rfl,rfl,rfl,hl5.1,λi j hi hj=>?_⟩;have hli:l.getD i 0<n2:=c1 _ (by rw[xc6,xc7 hi];exact List.getElem_mem _);rw[hl5.2 i j hi hj,q3 i hi j hj,gs _ j hli hj]
      ·rw[if_neg e]at hb ⊢
       exact hH id b hb
   ·cases h
  ·cases h
 ·cases h
end
end Go.Sx
end
section
namespace Go.Sx
open Go.RowKit
variable{e t:TypeId}{k n':Nat}{row:Nat→Nat→SV}
section
variable{P:Program}
def jA(row:Nat→Nat→SV)(i0 j0 m:Nat):Nat→Nat→SV:=λx j=>if i0≤x∧x<i0+m then row (j0+(x - i0)) j else row x j
theorem qfO{base:World}{okc:Nat→Prop}{r:Nat→Option Nat}{N:Nat→Prop}{hp:List (Nat×Blk)}{w:World}(h:Sat base okc r N hp w){ty:TypeId}{i:TypeInfo}(ht:P.underlying t=some (.slice e))(hi:P.info? e=some i)(hk:i.size=k)(hpos:0<k)
  {id i0 j0 m:Nat}  {u v:Value} (hu:Rep r N (Gd base okc r N hp w) w (.vec id i0 k) u) (hv:Rep r N (Gd base okc r N hp w) w (.que id j0 m k) v) (hblk:blk hp id=some (.rows e k n' row)) (hi0:i0+m≤n') (hj0:j0+m≤n') (h9:oneRows m k λx j=>row (j0+x) j) :
  ∃z w',(Builtin.append_ #[t,t] ty #[u,v]).run P w=.ok z w'∧Step base okc r N hp w r N (setBlk hp id (.rows e k n' (jA row i0 j0 m))) w'∧Rep r N (Gd base okc r N (setBlk hp id (.rows e k n' (jA row i0 j0 m))) w') w' (.vec id (i0+m) k) z:=by
 have hN:N id:=by cases hu<;>assumption
 have hrep:=h.rep _ _ hblk hN;obtain⟨a2,c2,hv2⟩:∃a2 c2,v=.slice a2 m c2:=by cases hv<;>exact⟨_,_,rfl⟩
 by_cases hm0:m=0
 ·subst hm0
  have hst:Step base okc r N hp w r N (setBlk hp id (.rows e k n' (jA row i0 j0 0))) w:=h.same hblk λG' hG' _=>by
   cases hr:r id with
   |none=>
    rw[hr]at hrep;cases hrep with
    |none _ _ _=>exact .none _ _ _
   |some b=>
    rw[hr]at hrep;cases hrep with
    |rows _ _ _ _ _ cs hb' hl hes=>
     refine .rows _ _ _ _ b cs hb' hl λx j hx hj=>?_;have e:jA row i0 j0 0 x j=row x j:=by unfold jA;rw[if_neg Ω]
     rw[e];exact(hes x j hx hj).mono (λ_ _=>rfl) (λ_ h=>h) (λo c hc=>⟨hG' o c hc,rfl⟩) (Shapes.refl w)
  obtain⟨a1,c1,hu1,hle⟩:∃a1 c1,u=.slice a1 i0 c1∧i0≤c1:=by cases hu<;>exact⟨_,_,rfl,Ω⟩
  have hrun:=kZ (P:=P) (w:=w) t ty e i ht hi a1 a2 i0 c1 c2 hle;rw[←hu1,←hv2]at hrun;exact⟨_,_,hrun,hst,hst.rep hu⟩
 ·cases hu with
  |vecNil _ _ _ hrn=>
   rw[hrn]at hrep;cases hrep with
   |none _ _ _=>omega
  |vec _ _ _ b cap cs tt _ hrn hb hcs hcap hmx=>
   rw[hrn]at hrep;cases hrep with
   |rows _ _ _ _ _ cs' hb' hl hes=>
    rw[hb]at hb';simp only[Option.some.injEq,Obj.cells.injEq,and_true]at hb';obtain⟨rfl,rfl⟩:=hb';have hnc:n'≤cap:=by
     rw[hcs]at hl;exact Nat.le_of_mul_le_mul_right hl hpos
    cases hv with
    |queNil _ _ _ a hN'=>exact absurd rfl hm0
    |que _ _ _ _ b2 vD cs2 t2 _ hr2 hb2 _ hcap2 _=>
    rw[hrn]at hr2;cases hr2;obtain⟨f2,hf2⟩:∃f2:Nat→Nat→Value,f2=λx j=>cs.getD ((j0+x)*k+j) undef:=⟨_,rfl⟩;have hc2:∀x j,x<m→j<k→w.cell? ⟨b,j0*k+(x*k+j),none⟩=some (f2 x j):=λx j hx hj=>by
     have:=zx (Ω:j0+x<n') hj;rw[←xb2,←Nat.add_mul,hf2];exact zC hb _ Ω
    have hrp2:∀x j,x<m→j<k→Rep r N (Gd base okc r N hp w) w (row (j0+x) j) (f2 x j):=λx j hx hj=>by
     rw[hf2];exact hes _ _ Ω hj
    have hfit:i0*i.size+(qG f2 m k).length≤cs.size:=by rw[qr,hk,hcs,←Nat.add_mul];exact xa8 _ Ω
    have hrun:=run_append_room (P:=P) w t ty tt i ht hi b i0 cap cs hb ⟨b,j0*k,none⟩ m vD (qG f2 m k) (by rw[qr,hk]) (gS hc2 hpos) (wO hrp2 h9 hpos) Ω hfit;have hsz:(cs.toList.take (i0*i.size)++qG f2 m k++cs.toList.drop (i0*i.size+(qG f2 m k).length)).toArray.size=cs.size:=by
     simp only[List.size_toArray,xc8,xd9,List.length_drop,xf7];omega
    have hsh:=kP (w:=w) hb hsz;have hb3:=setRow_heap w b cs (cs.toList.take (i0*i.size)++qG f2 m k++cs.toList.drop (i0*i.size+(qG f2 m k).length)).toArray tt _ hb;have hst:Step base okc r N hp w r N (setBlk hp id (.rows tt k n' (jA row i0 j0 m))) (w.setRow b (cs.toList.take (i0*i.size)++qG f2 m k++cs.toList.drop (i0*i.size+(qG f2 m k).length)).toArray):=
     h.upd hblk hN hrn (.rows tt k n' (jA row i0 j0 m)) (gm h.below (h.own _ _ _ hblk hN hrn) _) hsh ΩK (λc hc=>za w b _ hc) λG' hG'=>by
      refine .rows _ _ _ _ b _ hb3 (by rw[hsz];exact hl) λx j hx hj=>?_;have hcell:((cs.toList.take (i0*i.size)++qG f2 m k++cs.toList.drop (i0*i.size+(qG f2 m k).length)).toArray).getD (x*k+j) undef=if i0≤x∧x<i0+m then f2 (x - i0) j else cs.getD (x*k+j) undef:=by
       have hnl:i0*k≤cs.size:=by rw[hcs];exact xa8 _ Ω
       have hxs:x*k+j<cs.size:=by have:=zx hx hj;omega
       simp only[xf5,xe2,hk];have hmin:min (i0*k) cs.toList.length=i0*k:=by simp;omega
       by_cases hxn:x<i0
       ·have:=zx hxn hj
        rw[if_neg Ω,List.append_assoc,xc9 Ωl,List.getElem?_take_of_lt this];simp
       ·have hle:i0*k≤x*k:=xa8 _ Ω
        by_cases hxm:x<i0+m
        ·have hlt:=zx (Ω:x - i0<m) hj
         rw[Nat.sub_mul]at hlt;rw[if_pos Ω,xc9 Ωz,xd0 Ω0,xd9,hmin];have e:x*k+j - i0*k=(x - i0)*k+j:=by rw[Nat.sub_mul];omega
         rw[e,kQ _ _ _ _ _ Ω hj];rfl
        ·have hle2:(i0+m)*k≤x*k:=xa8 _ Ω
         rw[Nat.add_mul]at hle2;rw[if_neg Ω,xd0 Ωz,xc8,xd9,qr,hmin,List.getElem?_drop];rw[show i0*k+m*k+(x*k+j -(i0*k+m*k))=x*k+j by omega];simp
      rw[hcell];unfold jA;by_cases hxn:i0≤x∧x<i0+m
      ·rw[if_pos hxn,if_pos hxn];exact(hrp2 _ j Ω hj).mono (λ_ _=>rfl) (λ_ h=>h) (λo c hc=>⟨hG' o c hc,za w b _ λe=>hc.2.1 id _ hblk hN (by rw[e];exact hrn)⟩) hsh
      ·rw[if_neg hxn,if_neg hxn];exact(hes x j Ω hj).mono (λ_ _=>rfl) (λ_ h=>h) (λo c hc=>⟨hG' o c hc,za w b _ λe=>hc.2.1 id _ hblk hN (by rw[e];exact hrn)⟩) hsh
    exact⟨_,_,hrun,hst,.vec _ _ _ b cap _ tt hN hrn hb3 (hsz.trans hcs) Ω hmx⟩
theorem qlF{O:Ctx}{x y:Operand}{id i0 j0 m:Nat}{st:St}{K:St→SV→Prop}{ag:Bool}{sz:Nat}{z0:Option (List Value)}
  (ht:qn P t=some ⟨ag,sz,z0,.slice e k⟩) (hpos:0<k)
  (hx:env (look st.fr) x=.vec id i0 k) (hy:env (look st.fr) y=.que id j0 m k) (hb:blk st.hp id=some (.rows e k n' row)) (hi0:i0+m≤n') (hj0:j0+m≤n') (h9:oneRows m k λx j=>row (j0+x) j)
  (hA:K ⟨st.fr,setBlk st.hp id (.rows e k n' (jA row i0 j0 m)),st.nid⟩ (.vec id (i0+m) k)):OpVC P O (.call ⟨.builtin .append,#[x,y],#[t,t]⟩) st K:=by
 intro base okc ns r outs a w o ho hi;obtain⟨hts,i,hi',hk⟩:=zA ht;have hu:=hi.env x;rw[hx]at hu;have hv:=hi.env y;rw[hy]at hv;generalize hex:a.eval x=u at hu;generalize hey:a.eval y=v at hv;obtain⟨v',w',hrun,hst,hrep⟩:=qfO (ty:=o.type) hi.sat hts hi' hk hpos hu hv hb hi0 hj0 h9;have e0:execOp a.eval o=(do pure (.value (←Builtin.append_ #[t,t] o.type #[u,v]))):=by
  obtain⟨dst,op,type,pos,aft,guard⟩:=o;simp only[]at ho;subst ho;simp[execOp,Go.resolve,Go.invoke,Go.builtin,hex,hey]
 have erun:(execOp a.eval o).run P w=.ok (.value v') w':=by
  rw[e0];simp only[Sem.run_bind,hrun,Result.andThen_ok,Sem.run_pure]
 refine⟨v',w',erun,_,r,_,hA,xa5 _,?_,hrep⟩;have hkey:∀(j:Nat)(z:Blk),blk (setBlk st.hp id (.rows e k n' (jA row i0 j0 m))) j=some z→j<st.nid:=λj z hz=>by
  rw[qp]at hz;split at hz
  ·rename_i e;subst e;exact hi.keys _ _ hb
  ·exact hi.keys j z hz
 have:=hi.step hst hkey (xa5 _) (d:=none) (λt ht=>by cases ht) (.val undef);exact this
theorem qch{O:Ctx}{x lo hi:Operand}{id n l h:Nat}{kl kh:IntKind}{st:St}{K:St→SV→Prop}{ag:Bool}{sz:Nat}{z0:Option (List Value)}
  (ht:qn P t=some ⟨ag,sz,z0,.slice e k⟩) (hpos:0<k)
  (hx:env (look st.fr) x=.vec id n k) (hlo:env (look st.fr) lo=.val (.int kl (l:Nat))) (hhi:env (look st.fr) hi=.val (.int kh (h:Nat))) (hb:blk st.hp id=some (.rows e k n' row)) (hlh:l≤h) (hh:h≤n')
  (hA:K st (.que id l (h - l) k)):OpVC P O (.slice t x (some lo) (some hi) none) st K:=by
 intro base okc ns r outs a w o ho hI;obtain⟨hts,i,hi',hk⟩:=zA ht;have hu:=hI.env x;rw[hx]at hu;have hv:=hI.env lo;rw[hlo]at hv;have hv2:=hI.env hi;rw[hhi]at hv2;generalize hex:a.eval x=u at hu;generalize hey:a.eval lo=v at hv;generalize hez:a.eval hi=v2 at hv2;cases hv;cases hv2;have e0:execOp a.eval o=(do pure (.value (←Instr.sliceAt t u (some (.int kl (l:Nat))) (some (.int kh (h:Nat))) none))):=by
  obtain⟨dst,op,type,pos,aft,guard⟩:=o;simp only[]at ho;subst ho;simp[execOp,hex,hey,hez]
 have hN:id<st.nid:=by cases hu<;>assumption
 have hrep:=hI.sat.rep _ _ hb hN;have fin:∀v',(Instr.sliceAt t u (some (.int kl (l:Nat))) (some (.int kh (h:Nat))) none).run P w=.ok v' w→Rep r (· < st.nid) (Gd base okc r (· < st.nid) st.hp w) w (.que id l (h - l) k) v'→_:=λv' hrun hr=>
  (⟨v',w,by rw[e0];simp only[Sem.run_bind,hrun,Result.andThen_ok,Sem.run_pure],st,r,_,hA,xa5 _,hI,hr⟩:∃v w',(execOp a.eval o).run P w=.ok (.value v) w'∧∃st' r' res,K st' res∧st.nid≤st'.nid∧InvR O base okc ns st'.nid r' outs st' a w'∧Rep r' (· < st'.nid) (Gd base okc r' (· < st'.nid) st'.hp w') w' res v)
 cases hu with
 |vecNil _ _ _ hrn=>
  rw[hrn]at hrep;cases hrep with
  |none _ _ _=>
   obtain rfl:h=0:=by omega
   obtain rfl:l=0:=by omega
   refine fin _ (zl hts hi' (qX true 0 0 0 0 0 (.inr ⟨kl,rfl⟩) (.inr ⟨kh,rfl⟩) (.inl ⟨rfl,rfl⟩) (xa5 _) (xa5 _) (xa5 _))) ?_;exact .queNil _ _ _ _ hN
 |vec _ _ _ b cap cs tt _ hrn hbb hcs hcap hmx=>
  rw[hrn]at hrep;cases hrep with
  |rows _ _ _ _ _ cs' hb' hl hes=>
   rw[hbb]at hb';simp only[Option.some.injEq,Obj.cells.injEq,and_true]at hb';obtain⟨rfl,rfl⟩:=hb';have hnc:n'≤cap:=by
    rw[hcs]at hl;exact Nat.le_of_mul_le_mul_right hl hpos
   refine fin _ (zl hts hi' (qX true n cap l h cap (.inr ⟨kl,rfl⟩) (.inr ⟨kh,rfl⟩) (.inl ⟨rfl,rfl⟩) hlh Ω (xa5 _))) ?_;by_cases e:cap=l
   ·rw[if_pos e]
    rw[show h - l=0 by omega,show cap - l=0 by omega];exact .queNil _ _ _ _ hN
   ·rw[if_neg e]
    simp only[xg1,qR,xb0];rw[hk];exact .que _ _ _ _ b (cap - l) cs tt hN hrn hbb (by rw[hcs];congr 1;omega) Ω Ω
end
end Go.Sx
end
section
namespace Go.Tn
open Go.Proofs
open Go.Sx
def pc(m:Nat):Nat:=(m.testBit 0).toNat+(m.testBit 1).toNat+(m.testBit 2).toNat+(m.testBit 3).toNat+(m.testBit 4).toNat+(m.testBit 5).toNat+(m.testBit 6).toNat+(m.testBit 7).toNat
theorem qpP(H:List (Nat×Blk))(id oid n nn i j:Nat)(row:Nat→Nat→SV)(hn:n≤100000)(hnn:n≤nn)(hij:i<j)(hj:j≤n)(hb:blk H oid=some (.rows 3 1 nn row))(hid:oid<id)(hone:∀x,x<n→∃v:Int,row x 0=.val (.int .i64 v)) :
  EffVC Tryz.prog 186 [.vec oid n 1,.val (.int .i64 (i:Nat)),.val (.int .i64 (j:Nat))] H id (λhp' nid' res=>nid'=id+60∧res=.vec oid (n -(j - i)) 1∧∃r,(∀x,x<nn→r x 0=if n -(j - i)≤x∧x<n then .val (.int .i64 0)else jA row i j (n - j) x 0)∧hp'=setBlk H oid (.rows 3 1 nn r)):=by
 refine yD (zO [(5,[(0,0)]),(6,[(0,0)])]) follows Tryz.func186 rfl Ωa Ωa (by rw[Tryz.ntmps186];simp) λout=>?_;have NB:=(nmA hid:_∧_);have hne:=decide_eq_false (Ω:¬((i:Nat):Int)=(j:Nat));repeat' first|refine sD ?_ ?_<;>intro _|refine aAf ?_|simp -dsimp only[↓RP,RQ,xa0,reduceIte,reduceCtorEq,xa1,xa2,xa3,xa4,hne,hb,↓RY,NB,QS,QT,qP,QN]|exact Ωb|fail
 have hvf:zU ((j:Nat):Int) ((n:Nat):Int) oid 1=.que oid j (n - j) 1:=by
  unfold zU;rw[if_neg Ω,show(((n:Nat):Int) -(j:Nat)).toNat=n - j by omega];rfl
 have hvt:zU 0 ((i:Nat):Int) oid 1=.vec oid i 1:=by unfold zU;rw[if_pos rfl];rfl
 have hd1:n -(j - i)=i+(n - j):=by omega
 have hone2:oneRows (n - j) 1 λx y=>row (j+x) y:=λx y hx hy=>by
  obtain rfl:y=0:=by omega
  obtain⟨v,hv⟩:=hone (j+x) Ω;show oneCell (row (j+x) 0)=true;rw[hv];rfl
 refine GQ follows (λm st=>∃s0 hp,(m.testBit 6=false→hp=H)∧(m.testBit 6=true→hp=setBlk H oid (.rows 3 1 nn (jA row i j (n - j))))∧(m.testBit 7=false→s0=.vec oid n 1)∧(m.testBit 7=true→s0=.vec oid (i+(n - j)) 1)∧
  st=⟨[(0,s0),(1,.val (.int .i64 (i:Nat))),(2,.val (.int .i64 (j:Nat))),(7,.val (.int .i64 (n:Nat))),(20,up (m.testBit 0) (.vec oid n 1)),(21,up (m.testBit 1) (.val (.int .i64 (i:Nat)))),(22,up (m.testBit 2) (.vec oid i 1)),(23,up (m.testBit 3) (.vec oid n 1)),(24,up (m.testBit 4) (.val (.int .i64 (j:Nat)))),(25,up (m.testBit 5) (.que oid j (n - j) 1)),(26,up (m.testBit 6) (.vec oid (i+(n - j)) 1))],hp,id+13+pc m⟩) (ms:=[0,0,3,0,0,24,63,127]) Ωa Ωa (zw (fr':=[(0,.vec oid n 1),(1,.val (.int .i64 (i:Nat))),(2,.val (.int .i64 (j:Nat))),(7,.val (.int .i64 (n:Nat))),(20,.top),(21,.top),(22,.top),(23,.top),(24,.top),(25,.top),(26,.top)]) Ωc (SubHp.refl H)) ⟨_,_,λ_=>rfl,λh=>(by simp at h),λ_=>rfl,λh=>(by simp at h),by simp[pc,Go.Sx.up]⟩ (qi ?_<|qi ?_<|qi ?_<|qi ?_<|qi ?_<|qi ?_<|qi ?_<|qi ?_<|wo) ?_
 ·rintro m st ⟨s0,hp,g1,g2,g3,g4,rfl⟩ hcl hbit hd
  refine⟨_,Weak.refl _ _,?_⟩;unfold opH;rw[qe];simp only[hbit,qd,qb];have h7:m.testBit 7=false:=by
   cases h:m.testBit 7 with
   |false=>rfl
   |true=>have:=hcl 7 0 Ωd h;rw[hbit]at this;cases this
  rw[g3 h7];refine .inl ?_;repeat' first|refine sD ?_ ?_<;>intro _|refine aAf ?_|simp -dsimp only[↓RP,RQ,xa0,reduceIte,reduceCtorEq,xa1,xa2,xa3,xa4,hvf,hvt,↓RY,NB,QS,QT,qP,QN]|exact Ωb|fail
  refine⟨_,Weak.refl _ _,.vec oid n 1,hp,λh=>g1 Ωm,λh=>g2 Ωm,λh=>rfl,λh=>(by rw[tb,h7]at h;simp at h),?_⟩;have hpc:pc (m ||| 2^0)=pc m+1:=by unfold pc;simp only[Qqq,xa2,qd,qb,reduceCtorEq,hbit,Bool.toNat_true,Bool.toNat_false]<;>omega
  rw[hpc];simp only[Qqq,xa2,qd,qb,reduceCtorEq,hbit,xb2]
 ·rintro m st ⟨s0,hp,g1,g2,g3,g4,rfl⟩ hcl hbit hd
  refine⟨_,Weak.refl _ _,?_⟩;unfold opH;rw[qe];simp only[hbit,qd,qb];refine .inl ?_;repeat' first|refine sD ?_ ?_<;>intro _|refine aAf ?_|simp -dsimp only[↓RP,RQ,xa0,reduceIte,reduceCtorEq,xa1,xa2,xa3,xa4,hvf,hvt,↓RY,NB,QS,QT,qP,QN]|exact Ωb|fail
  refine⟨_,Weak.refl _ _,s0,hp,λh=>g1 Ωm,λh=>g2 Ωm,λh=>g3 Ωm,λh=>g4 Ωm,?_⟩;have hpc:pc (m ||| 2^1)=pc m+1:=by unfold pc;simp only[Qqq,xa2,qd,qb,reduceCtorEq,hbit,Bool.toNat_true,Bool.toNat_false]<;>omega
  rw[hpc];simp only[Qqq,xa2,qd,qb,reduceCtorEq,hbit,xb2]
 ·rintro m st ⟨s0,hp,g1,g2,g3,g4,rfl⟩ hcl hbit hd
  have q0:=hd 0 Ωd Ωd;have q1:=hd 1 Ωd Ωd;refine⟨_,Weak.refl _ _,?_⟩;unfold opH;rw[qe];simp only[q0,q1,hbit,qd,qb];refine .inl ?_;repeat' first|refine sD ?_ ?_<;>intro _|refine aAf ?_|simp -dsimp only[↓RP,RQ,xa0,reduceIte,reduceCtorEq,xa1,xa2,xa3,xa4,hvf,hvt,↓RY,NB,QS,QT,qP,QN]|exact Ωb|fail
  refine⟨_,Weak.refl _ _,s0,hp,λh=>g1 Ωm,λh=>g2 Ωm,λh=>g3 Ωm,λh=>g4 Ωm,?_⟩;have hpc:pc (m ||| 2^2)=pc m+1:=by unfold pc;simp only[Qqq,xa2,qd,qb,reduceCtorEq,q0,q1,hbit,Bool.toNat_true,Bool.toNat_false]<;>omega
  rw[hpc];simp only[Qqq,xa2,qd,qb,reduceCtorEq,q0,q1,hbit,xb2]
 ·rintro m st ⟨s0,hp,g1,g2,g3,g4,rfl⟩ hcl hbit hd
  refine⟨_,Weak.refl _ _,?_⟩;unfold opH;rw[qe];simp only[hbit,qd,qb];have h7:m.testBit 7=false:=by
   cases h:m.testBit 7 with
   |false=>rfl
   |true=>have:=hcl 7 3 Ωd h;rw[hbit]at this;cases this
  rw[g3 h7];refine .inl ?_;repeat' first|refine sD ?_ ?_<;>intro _|refine aAf ?_|simp -dsimp only[↓RP,RQ,xa0,reduceIte,reduceCtorEq,xa1,xa2,xa3,xa4,hvf,hvt,↓RY,NB,QS,QT,qP,QN]|exact Ωb|fail
  refine⟨_,Weak.refl _ _,.vec oid n 1,hp,λh=>g1 Ωm,λh=>g2 Ωm,λh=>rfl,λh=>(by rw[tb,h7]at h;simp at h),?_⟩;have hpc:pc (m ||| 2^3)=pc m+1:=by unfold pc;simp only[Qqq,xa2,qd,qb,reduceCtorEq,hbit,Bool.toNat_true,Bool.toNat_false]<;>omega
  rw[hpc];simp only[Qqq,xa2,qd,qb,reduceCtorEq,hbit,xb2]
 ·rintro m st ⟨s0,hp,g1,g2,g3,g4,rfl⟩ hcl hbit hd
  refine⟨_,Weak.refl _ _,?_⟩;unfold opH;rw[qe];simp only[hbit,qd,qb];refine .inl ?_;repeat' first|refine sD ?_ ?_<;>intro _|refine aAf ?_|simp -dsimp only[↓RP,RQ,xa0,reduceIte,reduceCtorEq,xa1,xa2,xa3,xa4,hvf,hvt,↓RY,NB,QS,QT,qP,QN]|exact Ωb|fail
  refine⟨_,Weak.refl _ _,s0,hp,λh=>g1 Ωm,λh=>g2 Ωm,λh=>g3 Ωm,λh=>g4 Ωm,?_⟩;have hpc:pc (m ||| 2^4)=pc m+1:=by unfold pc;simp only[Qqq,xa2,qd,qb,reduceCtorEq,hbit,Bool.toNat_true,Bool.toNat_false]<;>omega
  rw[hpc];simp only[Qqq,xa2,qd,qb,reduceCtorEq,hbit,xb2]
 ·rintro m st ⟨s0,hp,g1,g2,g3,g4,rfl⟩ hcl hbit hd
  have q3:=hd 3 Ωd Ωd;have q4:=hd 4 Ωd Ωd;refine⟨_,Weak.refl _ _,?_⟩;unfold opH;rw[qe];simp only[q3,q4,hbit,qd,qb];refine .inl ?_;repeat' first|refine sD ?_ ?_<;>intro _|refine aAf ?_|simp -dsimp only[↓RP,RQ,xa0,reduceIte,reduceCtorEq,xa1,xa2,xa3,xa4,hvf,hvt,↓RY,NB,QS,QT,qP,QN]|exact Ωb|fail
  refine⟨_,Weak.refl _ _,s0,hp,λh=>g1 Ωm,λh=>g2 Ωm,λh=>g3 Ωm,λh=>g4 Ωm,?_⟩;have hpc:pc (m ||| 2^5)=pc m+1:=by unfold pc;simp only[Qqq,xa2,qd,qb,reduceCtorEq,q3,q4,hbit,Bool.toNat_true,Bool.toNat_false]<;>omega
  rw[hpc];simp only[Qqq,xa2,qd,qb,reduceCtorEq,q3,q4,hbit,xb2]
 ·rintro m st ⟨s0,hp,g1,g2,g3,g4,rfl⟩ hcl hbit hd
  have q2:=hd 2 Ωd Ωd;have q5:=hd 5 Ωd Ωd;refine⟨_,Weak.refl _ _,?_⟩;unfold opH;rw[qe];simp only[q2,q5,hbit,qd,qb];rw[g1 hbit];refine .inr ⟨rfl,.inl (qlF (id:=oid) (i0:=i) (j0:=j) (n':=nn) (m:=n - j) (k:=1) (e:=3) (row:=row) Y7 Ω rfl rfl hb Ω Ω hone2 ?_)⟩;refine⟨_,Qy _ _ (id+13+(pc m+1)) (by simp only[St.putI];omega),s0,setBlk H oid (.rows 3 1 nn (jA row i j (n - j))),λh=>(by rw[tb]at h;simp at h),λh=>rfl,λh=>g3 Ωm,λh=>g4 Ωm,?_⟩;have hpc:pc (m ||| 2^6)=pc m+1:=by unfold pc;simp only[Qqq,xa2,qd,qb,reduceCtorEq,q2,q5,hbit,Bool.toNat_true,Bool.toNat_false]<;>omega
  rw[show pc (m ||| 2^(0+1+1+1+1+1+1))=pc m+1 from hpc];simp only[xa1,Qqq,xa2,qd,qb,reduceCtorEq,q2,q5,hbit,xb2];simp[St.putI,putIn]
 ·rintro m st ⟨s0,hp,g1,g2,g3,g4,rfl⟩ hcl hbit hd
  have q6:=hd 6 Ωd Ωd;refine⟨_,Weak.refl _ _,?_⟩;unfold opH;rw[qe];simp only[q6,hbit,qd,qb];refine .inl ?_;repeat' first|refine sD ?_ ?_<;>intro _|refine aAf ?_|simp -dsimp only[↓RP,RQ,xa0,reduceIte,reduceCtorEq,xa1,xa2,xa3,xa4,hvf,hvt,↓RY,NB,QS,QT,qP,QN]|exact Ωb|fail
  refine⟨_,Weak.refl _ _,.vec oid (i+(n - j)) 1,hp,λh=>g1 Ωm,λh=>g2 Ωm,λh=>(by rw[tb]at h;simp at h),λh=>rfl,?_⟩;have hpc:pc (m ||| 2^7)=pc m+1:=by unfold pc;simp only[Qqq,xa2,qd,qb,reduceCtorEq,q6,hbit,Bool.toNat_true,Bool.toNat_false]<;>omega
  rw[hpc];simp only[Qqq,xa2,qd,qb,reduceCtorEq,q6,hbit,xb2]
 ·rintro m st' ⟨s0,hp,g1,g2,g3,g4,rfl⟩ hall
  have h7:=hall 7 Ωd;have h6:=hall 6 Ωd;rw[g2 h6,g4 h7];refine⟨_,Weak.refl _ _,?_⟩;have hpc:pc m=8:=by unfold pc;simp only[hall 0 Ωd,hall 1 Ωd,hall 2 Ωd,hall 3 Ωd,hall 4 Ωd,hall 5 Ωd,h6,h7];rfl
  rw[hpc];simp only[hall 0 Ωd,hall 1 Ωd,hall 2 Ωd,hall 3 Ωd,hall 4 Ωd,hall 5 Ωd,h6,h7,qd];have eH:∀b,blk (setBlk H oid b) oid=some b:=λb=>qdq hb;repeat' first|refine sD ?_ ?_<;>intro _|refine aAf ?_|simp -dsimp only[↓RP,RQ,xa0,reduceIte,reduceCtorEq,xa1,xa2,xa3,xa4,eH,↓RY,NB,QS,QT,qP,QN]|exact Ωb|fail
  refine ZM (qJ ?_);(repeat' first|refine sD ?_ ?_<;>intro _|refine aAf ?_|simp -dsimp only[↓RP,RQ,xa0,reduceIte,reduceCtorEq,xa1,xa2,xa3,xa4,eH,↓RY,NB,QS,QT,qP,QN]);refine qJ ?_;(repeat' first|refine sD ?_ ?_<;>intro _|refine aAf ?_|simp -dsimp only[↓RP,RQ,xa0,reduceIte,reduceCtorEq,xa1,xa2,xa3,xa4,eH,↓RY,NB,QS,QT,qP,QN]);refine qJ ?_;(repeat' first|refine sD ?_ ?_<;>intro _|refine aAf ?_|simp -dsimp only[↓RP,RQ,xa0,reduceIte,reduceCtorEq,xa1,xa2,xa3,xa4,eH,↓RY,NB,QS,QT,qP,QN]);refine qJ ?_;(repeat' first|refine sD ?_ ?_<;>intro _|refine aAf ?_|simp -dsimp only[↓RP,RQ,xa0,reduceIte,reduceCtorEq,xa1,xa2,xa3,xa4,eH,↓RY,NB,QS,QT,qP,QN]);refine gZ rfl (qch (id:=oid) (n:=i+(n - j)) (n':=nn) (l:=i+(n - j)) (h:=n) (k:=1) (e:=3) (row:=jA row i j (n - j)) (kl:=.i64) (kh:=.i64) Y7 Ω rfl Ω9 Ω9 (eH _) Ω hnn ?_);refine qJ ?_;repeat' first|refine sD ?_ ?_<;>intro _|refine aAf ?_|simp -dsimp only[↓RP,RQ,xa0,reduceIte,reduceCtorEq,xa1,xa2,xa3,xa4,gG,eH,KJ,↓RY,NB,QS,QT,qP,QN]|exact Ωb|fail
  refine⟨⟨Ω,rfl⟩,?_⟩;refine⟨_,_,_,qj (nid':=id+60) Ω (fr':=[(0,_)]) ⟨.inr rfl,trivial⟩ (SubHp.refl _),rfl,by rw[hd1];rfl,_,λx hx=>?_,rfl⟩;rw[hd1];have e2:i+(n - j)+(n -(i+(n - j)))=n:=by omega
  have e3:(i+(n - j+(n -(i+(n - j)))))=n:=by omega
  simp only[e2,e3]
end Go.Tn
end
section
namespace Go.Tn
open Go.Proofs
open Go.Sx
theorem qfP{P:Program}{O:Ctx}{op:Op}{st st2:St}{K:St→SV→Prop}(hw:Weak O st st2)(hn:st.nid≤st2.nid)(h:OpVC P O op st2 K):OpVC P O op st K:=by
 intro base okc ns r outs a w o ho hi;obtain⟨r',hi'⟩:=hw _ _ _ _ _ _ ⟨r,hi⟩;obtain⟨v,w',h1,st',r2,res,h2,h3,h4⟩:=h base okc ns r' outs a w o ho hi';exact⟨v,w',h1,st',r2,res,h2,xc1 hn h3,h4⟩
theorem u3:Tryz.prog.underlying 3=some (.int .i64):=by kernel_rfl
theorem qeg{P:Program}{O:Ctx}{t:TypeId}{x:Operand}{e:TypeId}{st:St}{K:St→SV→Prop}(ht:P.underlying t=some (.slice e))(hx:env (Go.Sx.look st.fr) x=.val (.slice none 0 0))(h:K st (.val (.int .i64 0))):OpVC P O (.call ⟨.builtin .cap,#[x],#[t]⟩) st K:=by
 intro base okc ns r outs a w o ho hi;have hu:=hi.env x;rw[hx]at hu;generalize hex:a.eval x=u at hu;cases hu;refine⟨.int .i64 0,w,?_,st,r,_,h,xa5 _,hi,.val _⟩;obtain⟨dst,op,type,pos,aft,guard⟩:=o;simp only[]at ho;subst ho;simp[execOp,Go.resolve,Go.invoke,Go.builtin,hex,Builtin.cap_,run_underlying ht,goInt]
theorem qpQ(H:List (Nat×Blk))(id m:Nat)(hm:1≤m)(hm2:m≤100000)(hU:Under H id) :
  EffVC Tryz.prog 394 [.val (.slice none 0 0),.val (.int .i64 (m:Nat))] H id (λhp' nid' res=>nid'=id+60∧∃oid r,id≤oid∧oid<nid'∧hp'=(oid,.rows 3 1 m r) :: H∧res=.vec oid 0 1):=by
 refine yD (zO [(3,[(0,0)]),(5,[(0,0)])]) follows Tryz.func394 rfl Ωa Ωa (by rw[Tryz.ntmps394];simp) λout=>?_;have NB:True:=trivial;have h0:=decide_eq_false (Ω:¬((m:Nat):Int)<0);have h1:=decide_eq_true (Ω:(0:Int)<((m:Nat):Int));repeat' first|refine sD ?_ ?_<;>intro _|refine aAg ?_|simp -dsimp only[↓RP,RQ,xa0,reduceIte,reduceCtorEq,xa1,xa2,xa3,xa4,h0,↓RY,NB,QS,QT,qP,QN]|exact Ωb|fail
 refine ZM (qJ ?_);(repeat' first|refine sD ?_ ?_<;>intro _|refine aAg ?_|simp -dsimp only[↓RP,RQ,xa0,reduceIte,reduceCtorEq,xa1,xa2,xa3,xa4,↓RY,NB,QS,QT,qP,QN]);refine qJ ?_;(repeat' first|refine sD ?_ ?_<;>intro _|refine aAg ?_|simp -dsimp only[↓RP,RQ,xa0,reduceIte,reduceCtorEq,xa1,xa2,xa3,xa4,↓RY,NB,QS,QT,qP,QN]);refine gZ rfl (qeg (zA Y7).1 Ω9 ?_);refine qJ ?_;(repeat' first|refine sD ?_ ?_<;>intro _|refine aAg ?_|simp -dsimp only[↓RP,RQ,xa0,reduceIte,reduceCtorEq,xa1,xa2,xa3,xa4,↓RY,NB,QS,QT,qP,QN]);refine qJ ?_;(repeat' first|refine sD ?_ ?_<;>intro _|refine aAg ?_|simp -dsimp only[↓RP,RQ,xa0,reduceIte,reduceCtorEq,xa1,xa2,xa3,xa4,↓RY,NB,QS,QT,qP,QN]);refine qJ ?_;(repeat' first|refine sD ?_ ?_<;>intro _|refine aAg ?_|simp -dsimp only[↓RP,RQ,xa0,reduceIte,reduceCtorEq,xa1,xa2,xa3,xa4,↓RY,NB,QS,QT,qP,QN]);refine qJ ?_;(repeat' first|refine sD ?_ ?_<;>intro _|refine aAg ?_|simp -dsimp only[↓RP,RQ,xa0,reduceIte,reduceCtorEq,xa1,xa2,xa3,xa4,↓RY,NB,QS,QT,qP,QN]);refine qJ ?_;repeat' first|refine sD ?_ ?_<;>intro _|refine aAg ?_|simp -dsimp only[↓RP,RQ,xa0,reduceIte,reduceCtorEq,xa1,xa2,xa3,xa4,gG,h1,↓RY,NB,QS,QT,qP,QN]|exact Ωb|fail
 refine ZM (qJ ?_);(repeat' first|refine sD ?_ ?_<;>intro _|refine aAg ?_|simp -dsimp only[↓RP,RQ,xa0,reduceIte,reduceCtorEq,xa1,xa2,xa3,xa4,↓RY,NB,QS,QT,qP,QN]);refine qJ ?_;(repeat' first|refine sD ?_ ?_<;>intro _|refine aAg ?_|simp -dsimp only[↓RP,RQ,xa0,reduceIte,reduceCtorEq,xa1,xa2,xa3,xa4,↓RY,NB,QS,QT,qP,QN]);refine gZ rfl (qeg (zA Y7).1 Ω9 ?_);refine qJ ?_;(repeat' first|refine sD ?_ ?_<;>intro _|refine aAg ?_|simp -dsimp only[↓RP,RQ,xa0,reduceIte,reduceCtorEq,xa1,xa2,xa3,xa4,↓RY,NB,QS,QT,qP,QN]);refine qJ ?_;(repeat' first|refine sD ?_ ?_<;>intro _|refine aAg ?_|simp -dsimp only[↓RP,RQ,xa0,reduceIte,reduceCtorEq,xa1,xa2,xa3,xa4,↓RY,NB,QS,QT,qP,QN]);refine gZ rfl (qfP (Wm (t:=3) (k:=1) (d:=20) (λ_ _=>.top) (by simp[Go.Sx.look,putIn])) (xc4 _) (qhj (id:=id+16) (row:=λ_ _=>.top) (n':=0) (n:=0) (m:=m) (kn:=.i64) (kq:=.i64) Y7 ty3 ?hu3 ?hx ?hy ?hb (xa5 _) Ω (by rw[by3];omega) ?hid ?_))
 case hu3=>exact u3
 case hx=>simp[env,Go.Sx.look,putFr]
 case hy=>simp[env,Go.Sx.look,putFr,putIn]
 case hb=>simp[blk]
 case hid=>simp
 have hdr:dropBlk H (id+16)=H:=kI (hU.none Ω);have hvt:∀k,zU 0 0 k 1=.vec k 0 1:=λk=>by unfold zU;rw[if_pos rfl];rfl
 have hlt:(id+16:Nat)<id+17:=by omega
 simp only[dropBlk,if_true,hdr];refine qJ ?_;(repeat' first|refine sD ?_ ?_<;>intro _|refine aAg ?_|simp -dsimp only[↓RP,RQ,xa0,reduceIte,reduceCtorEq,xa1,xa2,xa3,xa4,hvt,↓RY,NB,QS,QT,qP,QN]);refine qJ ?_;(repeat' first|refine sD ?_ ?_<;>intro _|refine aAg ?_|simp -dsimp only[↓RP,RQ,xa0,reduceIte,reduceCtorEq,xa1,xa2,xa3,xa4,hvt,↓RY,NB,QS,QT,qP,QN]);refine qJ ?_;(repeat' first|refine sD ?_ ?_<;>intro _|refine aAg ?_|simp -dsimp only[↓RP,RQ,xa0,reduceIte,reduceCtorEq,xa1,xa2,xa3,xa4,hvt,↓RY,NB,QS,QT,qP,QN]);refine qJ ?_;repeat' first|refine sD ?_ ?_<;>intro _|refine aAg ?_|simp -dsimp only[↓RP,RQ,xa0,reduceIte,reduceCtorEq,xa1,xa2,xa3,xa4,gG,hvt,↓RY,NB,QS,QT,qP,QN]|exact Ωb|fail
 exact⟨_,_,_,qj (nid':=id+60) Ω (fr':=[(0,_)]) ⟨.inr rfl,trivial⟩ (SubHp.refl _),rfl,id+17,_,Ω,Ω,rfl,rfl⟩
def ju(L:Nat→List Int):Nat→List Int
 |0=>[]
 |k+1=>ju L k++L k
theorem gh(L:Nat→List Int)(k:Nat):ju L (k+1)=ju L k++L k:=rfl
theorem qeh(L:Nat→List Int){k n:Nat}(h:k≤n):(ju L k).length≤(ju L n).length:=by
 induction n with
 |zero=>obtain rfl:k=0:=by omega
        exact xa5 _
 |succ n ih=>
  by_cases e:k=n+1
  ·subst e;exact xa5 _
  ·have:=ih Ω;rw[gh,xc8];omega
def lls(n:Nat)(L:Nat→List Int):SV:=.arr false false n 1 (λi _=>.arr false false (L i).length 1 (λj _=>.val (.int .i64 ((L i).getD j 0))))
theorem qpR(n:Nat)(L:Nat→List Int)(hn:n≤10000)(h1:1≤(ju L n).length)(h2:(ju L n).length≤100000):qZ Tryz.prog 359 [lls n L] (.rows 3 1 (ju L n).length (λx _=>.val (.int .i64 ((ju L n).getD x 0)))) (.vec 0 (ju L n).length 1):=by
 refine gD Tryz.func359 rfl Ωa follows Ωa _ _ _ (by rw[Tryz.ntmps359];simp) (by simp[OldL,Old,lls]) ?_;unfold lls;repeat' first|refine sD ?_ ?_<;>intro _|refine aA ?_|simp -dsimp only[↓RP,RQ,xa0,reduceIte,reduceCtorEq,xa1,xa2,xa3,xa4,gh,QT,QN]|exact Ωb|fail
 refine qo (λ(k:Nat)=>k≤n) (λk=>⟨[(0,.arr false false n 1 (λi _=>.arr false false (L i).length 1 (λj _=>.val (.int .i64 ((L i).getD j 0))))),(3,.val (.int .i64 ((ju L k).length:Nat))),(9,.arr false false n 1 (λi _=>.arr false false (L i).length 1 (λj _=>.val (.int .i64 ((L i).getD j 0))))),(10,.val (.int .i64 (n:Nat))),(11,.val (.int .i64 (k:Nat)))],[],10+20*k⟩) (λk=>n - k) 0 (xb6 _) (qj Ωi (by simp[qI,Go.Sx.look,ju]) (SubHp.refl _)) λk hk=>?_;by_cases hkn:k<n
 ·have hlt:=decide_eq_true (Ω:((k:Nat):Int)<(n:Nat))
  have hle:=qeh L (k:=k+1) hkn;rw[gh,xc8]at hle;have hnn:=decide_eq_false (show ¬(((ju L k).length:Nat):Int)+((L k).length:Nat)<0 by omega);repeat' first|refine sD ?_ ?_<;>intro _|refine aA ?_|simp -dsimp only[↓RP,RQ,xa0,reduceIte,reduceCtorEq,xa1,xa2,xa3,xa4,hlt,hnn,gh,QT,QN]|exact Ωb|fail
  refine⟨k+1,hkn,Ω,qj Ω (by simp[qI,Go.Sx.look,gh]) (SubHp.refl _)⟩
 ·obtain rfl:n=k:=by omega
  have hlt:=decide_eq_false (Ω:¬((n:Nat):Int)<(n:Nat));repeat' first|refine sD ?_ ?_<;>intro _|refine aA ?_|simp -dsimp only[↓RP,RQ,xa0,reduceIte,reduceCtorEq,xa1,xa2,xa3,xa4,hlt,gh,QT,QN]|exact Ωb|fail
  refine j5 Ωq (qpQ [] _ (ju L n).length h1 h2 Under.nil) λhp' nid' res hQ=>?_;obtain⟨rfl,oid,r0,q1,q2,rfl,rfl⟩:=hQ;repeat' first|refine sD ?_ ?_<;>intro _|refine aA ?_|simp -dsimp only[↓RP,RQ,xa0,reduceIte,reduceCtorEq,xa1,xa2,xa3,xa4,gh,QT,QN]|exact Ωb|fail
  refine qo (λ(z:Nat×Nat×(Nat→Nat→SV))=>z.1≤n∧z.2.1<100+20*n+20*z.1∧∀x,x<(ju L z.1).length→z.2.2 x 0=.val (.int .i64 ((ju L z.1).getD x 0))) (λz=>⟨[(0,.arr false false n 1 (λi _=>.arr false false (L i).length 1 (λj _=>.val (.int .i64 ((L i).getD j 0))))),(6,.vec z.2.1 (ju L z.1).length 1),(25,.arr false false n 1 (λi _=>.arr false false (L i).length 1 (λj _=>.val (.int .i64 ((L i).getD j 0))))),(26,.val (.int .i64 (n:Nat))),(27,.val (.int .i64 (z.1:Nat)))],[(z.2.1,.rows 3 1 (ju L z.1).length z.2.2)],100+20*n+20*z.1⟩) (λz=>n - z.1) (0,oid,r0) ⟨xb6 _,Ωg,λx hx=>(by simp[ju]at hx)⟩ (weak [] [] ?hw1 ?hw2 ?hw3 rfl) λz hz=>?_
  case hw1=>(simp -dsimp only[↓RP,RQ,xa0,reduceIte,reduceCtorEq,xa1,xa2,xa3,xa4,ju]);all_goals (try simp[ju]);omega
  case hw2=>(simp -dsimp only[↓RP,RQ,xa0,reduceIte,reduceCtorEq,xa1,xa2,xa3,xa4,ju]);all_goals (try simp[ju]);omega
  case hw3=>(simp -dsimp only[↓RP,RQ,xa0,reduceIte,reduceCtorEq,xa1,xa2,xa3,xa4]);all_goals (try simp)
  obtain⟨k,oid1,r⟩:=z;obtain⟨z1,z2,z3⟩:=hz;dsimp only at z1 z2 z3;dsimp only;by_cases hkn:k<n
  ·have hlt:=decide_eq_true (Ω:((k:Nat):Int)<(n:Nat))
   have hle:=qeh L (k:=k+1) hkn;rw[gh,xc8]at hle;repeat' first|refine sD ?_ ?_<;>intro _|refine aA ?_|simp -dsimp only[↓RP,RQ,xa0,reduceIte,reduceCtorEq,xa1,xa2,xa3,xa4,hlt,gh,QT,QN]|exact Ωb|fail
   refine⟨⟨⟨.inr trivial,xa5 _,Ω⟩,Ω⟩,by simp only[InK];omega,(k+1,100+20*n+20*k+1+3+2,_),⟨Ωg,Ωg,λx hx=>?_⟩,Ωg,qj Ωg (by simp[qI,Go.Sx.look,gh]) (by dsimp only;rw[gh,xc8];exact SubHp.refl _)⟩;dsimp only at hx ⊢;rw[gh,xc8]at hx;rw[gh];by_cases e:x<(ju L k).length
   ·rw[if_pos e,z3 x e,xc6,xc6,xc9 e]
   ·rw[if_neg e,xc6,xc6,xd0 Ω]
  ·obtain rfl:n=k:=by omega
   have hlt:=decide_eq_false (Ω:¬((n:Nat):Int)<(n:Nat));repeat' first|refine sD ?_ ?_<;>intro _|refine aA ?_|simp -dsimp only[↓RP,RQ,xa0,reduceIte,reduceCtorEq,xa1,xa2,xa3,xa4,hlt,gh,QT,QN]|exact Ωb|fail
   refine⟨oid1,_,by simp[blk];rfl,?_,?_⟩
   ·simp only[SubB,true_and]
    exact⟨xa5 _,λi j hi hj=>by
      obtain rfl:j=0:=by omega
      rw[z3 i hi];simp[Go.Sx.Sub]⟩
   ·simp[SubO]
end Go.Tn
end
section
namespace Go.Sx
open Go.Proofs
open Go.RowKit Go.Tn
noncomputable section
variable{ρ:Q}
theorem qjA{P:Program}{O:Ctx}{g:FuncId}{args pats:List SV}{b:Blk}{res:SV}{st:St}{K:St→SV→Prop}(hc:qZ P g pats b res)(hs:NewOk st.hp pats args b res)(hk:K ⟨st.fr,(st.nid,b) :: st.hp,st.nid+1⟩ (setId st.nid res)):ko P O g args st K:=by
 intro base okc ns r outs a w vs hI hl ha;have hrun:(callFunc g vs).run P w=.ok (.enter g vs) w:=by
  obtain⟨⟨fn,hf,hname,hbody⟩,_⟩:=hc;have:fn.body.isNone=false:=by cases hb:fn.body<;>simp_all
  simp only[callFunc,Sem.run_bind,run_program,Result.andThen_ok,hf,hname,xe7,if_false,this,Sem.run_pure]
 refine⟨hrun,?_⟩;have := JK (o := ⟨some 0, .move (.const undef), 0, "", #[], none⟩) (a := { a with tmps := #[undef] }) (Q := λ_ _ _ => False) hI.sat hl ha hc hs (id := st.nid) (xb4 _) (hp2 := (st.nid, b) :: st.hp) ΩW (λj hj => by simp only [blk]; rw [if_neg (Nat.ne_of_lt hj)])
  (K:=λa' w'=>∃st' r' res,K st' res∧st.nid≤st'.nid∧InvR O base okc ns st'.nid r' outs st' a w'∧Rep r' (· < st'.nid) (Gd base okc r' (· < st'.nid) st'.hp w') w' res (a'.tmps.getD 0 undef)) (λv w' r' hst hrep=>by
   rw[gt]at hst hrep;have h2:=(hI.step hst (λi x hx=>by
    simp only[blk]at hx;split at hx
    ·rename_i e;rw[e];exact xb5 _
    ·exact Nat.lt_succ_of_lt (hI.keys i x hx)) (xc4 _) (d:=none) (λt ht=>by cases ht) (.val undef)).nid (st.nid+1)
   exact⟨⟨st.fr,(st.nid,b) :: st.hp,st.nid+1⟩,r',_,hk,xc4 _,h2,by simpa[Act.put]using hrep⟩)
 rw[hrun,Oper.upon_enter]at this;refine this.mono λe w' h=>?_;cases e with
 |returned v=>
  obtain⟨st',r',res',h1,h2,h3,h4⟩:=h;exact⟨v,st',r',res',rfl,h1,h2,h3,by simpa[Act.put]using h4⟩
 |panicked c=>exact h.elim
 |outgrown=>obtain⟨_,_,h⟩:=h;exact h.elim
theorem qao{H:List (Nat×Blk)}{x:SV}{obl:Prop}{n k:Nat}{row p:Nat→Nat→SV}(h:rowsOf H x=some (obl,n,k,row))(ho:obl)(hs:∀i j,i<n→j<k→Go.Sx.Sub H (p i j) (row i j)):Go.Sx.Sub H (.arr false false n k p) x:=by
 unfold rowsOf at h;split at h
 ·cases h
  unfold Go.Sx.Sub;refine⟨λh=>absurd h Ωi,λh=>absurd h Ωi,rfl,rfl,hs⟩
 ·split at h
  ·rename_i hb
   cases h;obtain⟨h1,rfl⟩:=ho;simp only[Go.Sx.Sub,hb];exact⟨trivial,trivial,trivial,h1,trivial,hs⟩
  ·cases h
 ·split at h
  ·rename_i hb
   cases h;obtain⟨h1,rfl⟩:=ho;simp only[Go.Sx.Sub,hb];exact⟨trivial,trivial,h1,trivial,hs⟩
  ·cases h
 ·split at h
  ·rename_i hb
   cases h;simp only[Go.Sx.Sub,hb];exact⟨trivial,trivial,trivial,ho,hs⟩
  ·cases h
 ·split at h
  ·rename_i hn
   cases h;simp only[Go.Sx.Sub];exact⟨hn,trivial⟩
  ·cases h
 ·cases h
def qnH(args:List SV)(hp:Tr 6 XB)(nid:Nat)(k:SV→Tr 6 XB→Nat→R):R:=
 match args with
 |[.vec id n 1,.val (.int .i64 (.ofNat i)),.val (.int .i64 (.ofNat j))]=>(match hp.find id with
  |some (.rows 3 1 nn l)=>ql 560 (Nat.ble (Nat.succ i) j) (ql 561 (Nat.ble j n) (ql 562 (Nat.ble n nn) (ql 563 (Nat.ble n 1000) (qee l (qm (n -(j - i)) λm=>gI (l.take i++(l.take n).drop j++List.replicate (j - i) (SV.val (.int .i64 (.ofNat 0)))++l.drop n) λl=>qY (some (.rows 3 1 nn l)) 22 hp id λhp=>k (.vec id m 1) hp nid)))))
  |_=>.bad 564 0)
 |_=>.bad 565 0
theorem qlG{l:List SV}{i j n nn x:Nat}(hl:l.length=nn)(hij:i<j)(hj:j≤n)(hn:n≤nn)(hx:x<nn):(l.take i++(l.take n).drop j++List.replicate (j - i) (SV.val (.int .i64 (.ofNat 0)))++l.drop n).getD x .top=if n -(j - i)≤x∧x<n then .val (.int .i64 0)else if i≤x∧x<i+(n - j)then l.getD (j+(x - i)) .top else l.getD x .top:=by
 have l1:(l.take i).length=i:=by rw[xd9];omega
 have l2:((l.take n).drop j).length=n - j:=by rw[List.length_drop,xd9];omega
 have l3:(l.take i++(l.take n).drop j).length=n -(j - i):=by rw[xc8,l1,l2];omega
 have l4:(l.take i++(l.take n).drop j++List.replicate (j - i) (SV.val (.int .i64 (.ofNat 0)))).length=n:=by rw[xc8,l3,xd8];omega
 simp only[xc6];by_cases c1:n≤x
 ·rw[xd0 Ω,l4,List.getElem?_drop,if_neg Ω,if_neg Ω,show n+(x - n)=x by omega]
 ·rw[xc9 Ω]
  by_cases c2:n -(j - i)≤x
  ·rw[if_pos ⟨c2,Ω⟩,xd0 Ω,l3,List.getElem?_replicate,if_pos Ω];rfl
  ·rw[if_neg Ω,xc9 Ω]
   by_cases c3:i≤x
   ·rw[if_pos ⟨c3,Ω⟩,xd0 Ω,l1,List.getElem?_drop,List.getElem?_take_of_lt Ω]
   ·rw[if_neg Ω,xc9 Ω,List.getElem?_take_of_lt Ω]
theorem qlH:yc Tryz.prog 186 qnH:=by
 intro ρ LM O args hp k st K hH h hk;unfold qnH at h;split at h
 ·rename_i oid n i j
  split at h
  ·rename_i nn l hf
   obtain⟨a1,h⟩:=qa h;obtain⟨a2,h⟩:=qa h;obtain⟨a3,h⟩:=qa h;obtain⟨a4,h⟩:=qa h;obtain⟨h,b1⟩:=Jd h;rw[qg,qT]at h;obtain⟨hp1,p1,h⟩:=qB _ _ _ _ h;have hij:i<j:=xa7 a1;have hj:=xa7 a2;have hn:=xa7 a3;have hN:=xa7 a4;obtain⟨row,hb,lr,gr⟩:=hH.rows hf;rw[Nat.mul_one]at lr;intro base okc ns r outs a w vs hI hlen hv;have keys:=hI.keys;have hrow:∀x,x<nn→row x 0=l.getD x .top:=λx hx=>by
    have:=gr x 0 hx Ω
    rwa [Nat.mul_one,xb1]at this
   have E:=qpP st.hp st.nid oid n nn i j row Ω hn hij hj hb (keys _ _ hb) (λx hx=>by rw[hrow x Ω];exact b1 x Ω);refine Ja (E O st.fr) (λst' sv hself hq=>?_) base okc ns r outs a w vs hI hlen hv;obtain⟨fr',hp',nid'⟩:=st';obtain⟨q0,q1,q2,rr,q3,q4⟩:=hq;simp only[]at q0 q1 q2 q4;subst q0 q1 q2 q4;have hval:∀x,x<nn→rr x 0=(l.take i++(l.take n).drop j++List.replicate (j - i) (SV.val (.int .i64 (.ofNat 0)))++l.drop n).getD x .top:=λx hx=>by
    rw[q3 x hx,qlG lr hij hj hn hx];by_cases c:n -(j - i)≤x∧x<n
    ·rw[if_pos c,if_pos c]
    ·rw[if_neg c,if_neg c]
     unfold jA;by_cases c2:i≤x∧x<i+(n - j)
     ·rw[if_pos c2,if_pos c2,hrow _ Ω]
     ·rw[if_neg c2,if_neg c2,hrow _ hx]
   refine⟨st.nid,setBlk st.hp oid (.rows 3 1 nn rr),.vec oid (n -(j - i)) 1,st.nid,rfl,xa5 _,λid x hx=>?_,?_,xa5 _,hk _ hp1 _ _ (λid b hbb=>?_) h⟩
   ·have hx':=hx
    rw[qp]at hx;split at hx
    ·rename_i e
     subst e;rw[hb]at hx;cases hx;refine⟨.inl ⟨keys _ _ hb,hx'⟩,rfl,rfl,xa5 _,λy z hy hz=>?_⟩;obtain rfl:z=0:=by omega
     rw[q3 y hy];split
     ·simp[Wk]
     ·unfold jA
      split
      ·rw[hrow _ Ω]
       obtain⟨v,hv⟩:=b1 (j+(y - i)) Ω;rw[hv];simp[Wk]
      ·rw[hrow _ hy]
       obtain⟨v,hv⟩:=b1 y Ω;rw[hv];simp[Wk]
    ·exact⟨.inl ⟨keys _ _ hx,hx'⟩,hself _ _ _ (xa5 _) _ _ hx⟩
   ·unfold Wk
    have:=keys _ _ hb;refine⟨this,?_,rfl,rfl⟩;simp only[ren];rw[if_neg Ω]
   ·rw[p1 id]at hbb
    rw[qp];by_cases e:id=oid
    ·rw[if_pos e]at hbb ⊢
     cases hbb;rw[hb];refine⟨_,rfl,rfl,rfl,rfl,?_,λy z hy hz=>?_⟩
     ·rw[xc8,xc8,xc8,xd9,List.length_drop,xd9,xd8,List.length_drop];omega
     ·obtain rfl:z=0:=by omega
      rw[Nat.mul_one,xb1];exact hval y hy
    ·rw[if_neg e]at hbb ⊢
     exact hH id b hbb
  ·cases h
 ·cases h
def qei(l:List SV)(f:List Int→R):R:=(List.rec (motive:=λ_=>(List Int→R)→R) (λf=>f []) (λa _ ih f=>match a with
 |.val (.int .i64 x)=>Yt x λx=>ih λl=>f (x :: l)
 |_=>.bad 570 0) l) f
theorem qap:∀{l:List SV}{f:List Int→R},qei l f=.ok ρ→∃m,f m=.ok ρ∧m.length=l.length∧∀j,j<l.length→l.getD j .top=.val (.int .i64 (m.getD j 0))
 |[],f,h=>⟨[],h,rfl,λj hj=>by cases hj⟩
 |a :: l,f,h=>by
  have h:(match (generalizing:=false) a with
   |.val (.int .i64 x)=>Yt x λx=>qei l λl=>f (x :: l)
   |_=>.bad 570 0)=(.ok ρ:R):=h
  split at h
  ·rename_i x _
   rw[jG]at h;obtain⟨m,h1,h2,h3⟩:=qap h;refine⟨x :: m,h1,by simp[h2],λj hj=>?_⟩;cases j with
   |zero=>rfl
   |succ j=>exact h3 j (Nat.lt_of_succ_lt_succ hj)
  ·cases h
def qci(hp:Tr 6 XB)(l:List SV)(f:List (List Int)→R):R:=(List.rec (motive:=λ_=>(List (List Int)→R)→R) (λf=>f []) (λa _ ih f=>Zf hp a λ_ k m=>ql 571 (Nat.beq k 1) (qei m λx=>ih λl=>f (x :: l))) l) f
theorem Vi{hp:Tr 6 XB}{LM:Nat→Option Loop}{H:List (Nat×Blk)}(hH:HRel LM hp H):∀{l:List SV}{f:List (List Int)→R},qci hp l f=.ok ρ→∃L,f L=.ok ρ∧L.length=l.length∧∀i,i<l.length→Go.Sx.Sub H (.arr false false (L.getD i []).length 1 (λj _=>.val (.int .i64 ((L.getD i []).getD j 0)))) (l.getD i .top)
 |[],f,h=>⟨[],h,rfl,λj hj=>by cases hj⟩
 |a :: l,f,h=>by
  have h:Zf hp a (λ_ k m=>ql 571 (Nat.beq k 1) (qei m λx=>qci hp l λl=>f (x :: l)))=.ok ρ:=h;obtain⟨obl,n,k,row,m,h1,h2,h3,g1⟩:=vG hH h;obtain⟨e0,g2⟩:=qa g1;have e:=xa6 e0;clear h g1 e0;subst e;obtain⟨x,h,h4,h5⟩:=qap g2;clear g2;obtain⟨L,h,h6,h7⟩:=Vi hH h;refine⟨x :: L,h,by simp[h6],λi hi=>?_⟩;cases i with
  |zero=>
   show Go.Sx.Sub H (.arr false false x.length 1 (λj _=>.val (.int .i64 (x.getD j 0)))) a;have hx:x.length=n:=by rw[h4,h3.1,Nat.mul_one]
   rw[hx];refine qao h1 h2 λy z hy hz=>?_;obtain rfl:z=0:=by omega
   have:=h3.2 y 0 hy Ω;rw[Nat.mul_one,xb1,h5 y Ω]at this;rw[this];simp[Go.Sx.Sub]
  |succ i=>exact h7 i (Nat.lt_of_succ_lt_succ hi)
theorem Vj(L:List (List Int)):∀k,k≤L.length→ju (λi=>L.getD i []) k=(L.take k).flatten
 |0,_=>rfl
 |k+1,h=>by
  rw[gh,Vj L k Ω,List.take_succ_eq_append_getElem Ω,List.flatten_append,xc6,xc7 Ω];simp
def svI(l:List Int):List SV:=l.map λn=>.val (.int .i64 n)
theorem qlI{l:List Int}{i:Nat}(h:i<l.length):(svI l).getD i .top=.val (.int .i64 (l.getD i 0)):=by
 unfold svI;rw[xc6,xc6,List.getElem?_map,xc7 h];rfl
def qnI(args:List SV)(hp:Tr 6 XB)(nid:Nat)(k:SV→Tr 6 XB→Nat→R):R:=
 match args with
 |[x]=>Zf hp x λn k1 l=>ql 572 (Nat.beq k1 1) (ql 573 (Nat.ble n 10000) (qci hp l λL=>yW (svI L.flatten) λo=>qm o.length λm=>ql 574 (Nat.ble 1 m) (ql 575 (Nat.ble m 100000) (qm nid λnid=>qY (some (.rows 3 1 m o)) 22 hp nid λhp=>qm (Nat.succ nid) λn2=>k (.vec nid m 1) hp n2))))
 |_=>.bad 576 0
theorem qlJ:yc Tryz.prog 359 qnI:=by
 intro ρ LM O args hp k st K hH h hk;unfold qnI at h;split at h
 ·rename_i x
  obtain⟨obl,n,k1,row,l,h1,h2,h3,g1⟩:=vG hH h;obtain⟨e0,g2⟩:=qa g1;obtain⟨a1,g3⟩:=qa g2;have e:=xa6 e0;clear h g1 g2 e0;subst e;obtain⟨L,h,h6,h7⟩:=Vi hH g3;clear g3;rw[kd,qg]at h;obtain⟨a2,h⟩:=qa h;obtain⟨a3,h⟩:=qa h;rw[qg]at h;obtain⟨hp1,p1,h⟩:=qB _ _ _ _ h;rw[qg]at h;have hn:=xa7 a1;have hm1:=xa7 a2;have hm2:=xa7 a3;have hLn:L.length=n:=by rw[h6,h3.1,Nat.mul_one]
  have hcat:ju (λi=>L.getD i []) n=L.flatten:=by
   rw[Vj L n Ω,←hLn,List.take_length]
  have hsl:(svI L.flatten).length=L.flatten.length:=by unfold svI;rw[xe1]
  have C:=qpR n (λi=>L.getD i []) hn (by rw[hcat];omega) (by rw[hcat];omega);rw[hcat]at C;refine qjA C (.inl ⟨?_,by simp[FreshO],by simp[FreshB,Fresh]⟩) ?_
  ·simp only[SubL,and_true]
   exact qao h1 h2 λi j hi hj=>by
    obtain rfl:j=0:=by omega
    have:=h3.2 i 0 hi Ω;rw[Nat.mul_one,xb1]at this;rw[this];exact h7 i Ω
  ·rw[show setId st.nid (.vec 0 L.flatten.length 1)=.vec st.nid (svI L.flatten).length 1 by simp[setId,hsl]]
   refine hk _ hp1 _ _ (λid b hb=>?_) h;rw[p1 id]at hb;simp only[blk];by_cases e:id=st.nid
   ·rw[if_pos e]at hb ⊢
    cases hb;refine⟨_,rfl,rfl,rfl,by rw[hsl],Ωi,λi j hi hj=>?_⟩;obtain rfl:j=0:=by omega
    rw[Nat.mul_one,xb1,qlI Ω]
   ·rw[if_neg e]at hb ⊢
    exact hH id b hb
 ·cases h
end
end Go.Sx
end
