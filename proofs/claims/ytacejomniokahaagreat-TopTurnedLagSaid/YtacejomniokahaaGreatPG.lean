/- A part of the proof. -/
import Derived.Test.YtacejomniokahaaGreatPF
import Derived.Test.YtacejomniokahaaGreatPE
open Nat renaming reduceMul→xa0,reduceAdd→xa1,reduceEqDiff→xa2,reduceLT→xa3,reduceLeDiff→xa4,le_refl→xa5,zero_add→xb0,add_zero→xb1,zero_le→xb6,sub_self→xb8
open List renaming getD_eq_getElem?_getD→xc6,getElem?_eq_getElem→xc7,length_append→xc8,getElem?_append_left→xc9,getElem?_append_right→xd0,length_singleton→xd1,append_nil→xd3,mem_append→xd4,mem_cons_self→xd5,getElem?_cons_zero→xd6,getElem?_cons_succ→xd7,length_take→xd9,mem_singleton→xe0,length_map→xe1,getElem?_range→xe3,length_cons→xe4
open Bool renaming and_eq_true→xe6,true_and→xf0,false_or→xf4
open Classical renaming byContradiction→xf9
open Option renaming map_some→xg1
set_option linter.unusedVariables false
set_option linter.unusedSimpArgs false
set_option linter.defProp false
set_option maxRecDepth 1000000
set_option maxHeartbeats 16000000
section
namespace Go.Tn
def Pth(L:Nat→List Nat):Nat→List Nat→Nat→Prop
 |a,[],b=>a=b
 |a,w :: l,b=>∃x,(L a)[w]? = some x∧Pth L x l b
theorem Pth.app{L:Nat→List Nat}:∀{l k:List Nat}{a b c:Nat},Pth L a l b→Pth L b k c→Pth L a (l++k) c
 |[],_,_,_,_,h,h2=>by cases h;exact h2
 |_ :: _,_,_,_,_,⟨x,h1,h2⟩,h3=>⟨x,h1,h2.app h3⟩
def cM(by':Nat→Nat):Nat→Nat
 |0=>0
 |n+1=>cM by' n+(if 0<by' n then 1 else 0)
theorem qcQ(by':Nat→Nat):∀n,cM by' n≤n
 |0=>xa5 _
 |n+1=>by have:=qcQ by' n;simp only[cM];split<;>omega
theorem YG{a b:Nat→Nat}:∀n,(∀x,x<n→a x=b x)→cM a n=cM b n
 |0,_=>rfl
 |n+1,h=>by simp only[cM];rw[YG n fun x hx=>h x Ω,h n Ω]
theorem Wb{by':Nat→Nat}{x v:Nat}(h0:by' x=0)(hv:0<v):∀n,x<n→cM (setN by' x v) n=cM by' n+1
 |0,h=>by omega
 |n+1,h=>by
  simp only[cM];by_cases e:x=n
  ·subst e
   rw[YG (b:=by') x fun y hy=>by unfold setN;rw[if_neg Ω]];have:setN by' x v x=v:=by unfold setN;rw[if_pos rfl]
   rw[this,h0,if_pos hv,if_neg Ω]
  ·rw[Wb h0 hv n Ω]
   have:setN by' x v n=by' n:=by unfold setN;rw[if_neg Ω]
   rw[this];omega
structure Mk(L:Nat→List Nat)(N start:Nat)(by' d:Nat→Nat):Prop where
 one:∀x,x≠start→0<by' x→x<N∧(L ((by' x - 1) / 5))[(by' x - 1) % 5]? = some x∧((by' x - 1) / 5=start∨(0<by' ((by' x - 1) / 5)∧d ((by' x - 1) / 5)<d x))
 up:∀x,x≠start→0<by' x→1≤d x∧d x≤cM by' N
theorem dm5(i w:Nat)(h:w<5):(1+i*5+w - 1) / 5=i∧(1+i*5+w - 1) % 5=w:=by omega
theorem J3{L:Nat→List Nat}{N start:Nat}{b by' d:Nat→Nat}(h:Mk L N start b d)(hb:∀x,x≠start→by' x=b x):∀f at' acc,at'≠start→0<b at'→d at'<f→∃l,wX by' N start f at' acc=some (acc++l)∧l≠[]∧Pth L start l.reverse at'∧l.length≤d at'
 |0,at',acc,h0,h1,h2=>by omega
 |f+1,at',acc,h0,h1,h2=>by
  obtain⟨g1,g4,g5⟩:=h.one at' h0 h1;simp only[wX];rw[hb at' h0,if_pos ⟨h1,g1⟩];by_cases e:(b at' - 1) / 5=start
  ·rw[if_pos e]
   refine⟨[(b at' - 1) % 5],rfl,Ωi,?_,(h.up at' h0 h1).1⟩;rw[e]at g4;exact⟨at',g4,rfl⟩
  ·rw[if_neg e]
   rcases g5 with g5|⟨g5,g6⟩
   ·exact absurd g5 e
   ·obtain⟨l,q1,q2,q3,q4⟩:=J3 h hb f ((b at' - 1) / 5) (acc++[(b at' - 1) % 5]) e g5 Ω
    refine⟨(b at' - 1) % 5 :: l,by rw[q1,List.append_assoc];rfl,Ωi,?_,by rw[xe4];omega⟩;rw[List.reverse_cons];exact q3.app ⟨at',g4,rfl⟩
theorem Mk.push{L:Nat→List Nat}{N start i w to:Nat}{by' d:Nat→Nat}(h:Mk L N start by' d)(hw:w<5)(hget:(L i)[w]? = some to)(hto:to<N)(hne:to≠start)(h0:by' to=0)(hr:i=start∨0<by' i):Mk L N start (setN by' to (1+i*5+w)) (setN d to (cM by' N+1)):=by
 obtain⟨m1,m2⟩:=dm5 i w hw;have hc:=Wb (v:=1+i*5+w) h0 Ω N hto;have hs:∀x,x≠to→setN by' to (1+i*5+w) x=by' x:=fun x hx=>by unfold setN;rw[if_neg hx]
 have hd:∀x,x≠to→setN d to (cM by' N+1) x=d x:=fun x hx=>by unfold setN;rw[if_neg hx]
 have hst:setN by' to (1+i*5+w) to=1+i*5+w:=by unfold setN;rw[if_pos rfl]
 have hdt:setN d to (cM by' N+1) to=cM by' N+1:=by unfold setN;rw[if_pos rfl]
 refine⟨fun x hx hp=>?_,fun x hx hp=>?_⟩
 ·by_cases e:x=to
  ·subst e
   rw[hst,m1,m2,hdt];refine⟨hto,hget,?_⟩;by_cases ei:i=start
   ·exact .inl ei
   ·right
    have hi:=hr.resolve_left ei;have:i≠x:=fun q=>by rw[q,h0]at hi;cases hi
    rw[hs i this,hd i this];have:=h.up i ei hi;exact⟨hi,Ω⟩
  ·rw[hs x e]at hp ⊢
   obtain⟨g1,g2,g3⟩:=h.one x hx hp;refine⟨g1,g2,?_⟩;rcases g3 with g3|⟨g3,g4⟩
   ·exact .inl g3
   ·right
    have:(by' x - 1) / 5≠to:=fun q=>by rw[q,h0]at g3;cases g3
    rw[hs _ this,hd _ this,hd x e];exact⟨g3,g4⟩
 ·rw[hc]
  by_cases e:x=to
  ·subst e;rw[hdt];exact⟨Ω,xa5 _⟩
  ·rw[hs x e]at hp
   rw[hd x e];have:=h.up x hx hp;omega
theorem jY{L:Nat→List Nat}{N start i:Nat}(hL:∀x,x∈L i→x<N)(h5:(L i).length≤5):∀(l:List Nat)(w:Nat)(by' d:Nat→Nat)(wait:List Nat),L i=(L i).take w++l→w+l.length=(L i).length→
  Mk L N start by' d→(i=start∨0<by' i)→by' start=0→
  ((zQ start i l w by' wait).1=true∧∃b d' w',(zQ start i l w by' wait).2.1=setN b start (1+i*5+w')∧w'<5∧(L i)[w']? = some start∧Mk L N start b d'∧(i=start∨0<b i)∧b start=0)∨
  ((zQ start i l w by' wait).1=false∧(zQ start i l w by' wait).2.1 start=0∧(∃d',Mk L N start (zQ start i l w by' wait).2.1 d')∧(∀x,x∈l→x≠start∧0<(zQ start i l w by' wait).2.1 x)∧(∀x,0<by' x→0<(zQ start i l w by' wait).2.1 x)∧
    ∃new,(zQ start i l w by' wait).2.2=wait++new∧(∀x,x∈new→x<N∧0<(zQ start i l w by' wait).2.1 x)∧(∀x,0<(zQ start i l w by' wait).2.1 x→0<by' x∨x∈new)∧cM (zQ start i l w by' wait).2.1 N=cM by' N+new.length)
 |[],w,by',d,wait,_,_,hM,_,h0=>.inr ⟨rfl,h0,⟨d,hM⟩,fun x hx=>(by cases hx),fun x hx=>hx,[],by simp[zQ],fun x hx=>(by cases hx),fun x hx=>.inl hx,rfl⟩
 |to :: l,w,by',d,wait,hl,hw,hM,hr,h0=>by
  have hlen:((L i).take w).length=w:=by rw[xd9];simp only[xe4]at hw;omega
  have hget:(L i)[w]? = some to:=by
   rw[hl,xd0 (by rw[hlen];exact xa5 _),hlen,xb8];rfl
  have hto:to<N:=hL to (List.mem_of_getElem? hget);have hw5:w<5:=by simp only[xe4]at hw;omega
  have hl':L i=(L i).take (w+1)++l:=by
   rw[List.take_add_one,hget,List.append_assoc];exact hl
  have hw':w+1+l.length=(L i).length:=by simp only[xe4]at hw;omega
  simp only[zQ];by_cases hb:0<by' to
  ·rw[if_pos hb]
   rcases jY hL h5 l (w+1) by' d wait hl' hw' hM hr h0 with q|⟨q1,q2,q3,q4,q5,q6⟩
   ·exact .inl q
   ·refine .inr ⟨q1,q2,q3,fun x hx=>?_,q5,q6⟩
    rcases List.mem_cons.1 hx with rfl|hx
    ·exact⟨fun e2=>(by rw[e2,h0]at hb;cases hb),q5 _ hb⟩
    ·exact q4 x hx
  ·rw[if_neg hb]
   by_cases e:to=start
   ·rw[if_pos e]
    exact .inl ⟨rfl,by',d,w,by rw[e],hw5,by rw[hget,e],hM,hr,h0⟩
   ·rw[if_neg e]
    have hz:by' to=0:=by omega
    have hM2:=hM.push hw5 hget hto e hz hr;have hs:∀x,x≠to→setN by' to (1+i*5+w) x=by' x:=fun x hx=>by unfold setN;rw[if_neg hx]
    have hst:setN by' to (1+i*5+w) to=1+i*5+w:=by unfold setN;rw[if_pos rfl]
    have hup:∀x,0<by' x→0<setN by' to (1+i*5+w) x:=fun x hx=>by
     by_cases c:x=to
     ·rw[c,hst];omega
     ·rw[hs x c];exact hx
    rcases jY hL h5 l (w+1) (setN by' to (1+i*5+w)) _ (wait++[to]) hl' hw' hM2 (hr.imp id (hup i)) (by rw[hs start (Ne.symm e)];exact h0)with q|⟨q1,q2,q3,q4,q5,new,q6,q7,q8,q9⟩
    ·exact .inl q
    ·refine .inr ⟨q1,q2,q3,fun x hx=>?_,fun x hx=>q5 x (hup x hx),to :: new,by rw[q6,List.append_assoc];rfl,fun x hx=>?_,fun x hx=>?_,?_⟩
     ·rcases List.mem_cons.1 hx with rfl|hx
      ·exact⟨e,q5 _ (by rw[hst];omega)⟩
      ·exact q4 x hx
     ·rcases List.mem_cons.1 hx with rfl|hx
      ·exact⟨hto,q5 _ (by rw[hst];omega)⟩
      ·exact q7 x hx
     ·rcases q8 x hx with h|h
      ·by_cases c:x=to
       ·exact .inr (by rw[c];exact xd5)
       ·rw[hs x c]at h;exact .inl h
      ·exact .inr (List.mem_cons_of_mem _ h)
     ·rw[q9,Wb hz Ω N hto,xe4];omega
structure Bf(L:Nat→List Nat)(N start:Nat)(by':Nat→Nat)(wait:List Nat)(dn:Nat→Prop):Prop where
 mks:∃d,Mk L N start by' d
 st:by' start=0
 wt:∀x,x∈wait→x<N∧(x=start∨0<by' x)
 don:∀x,dn x→∀y,y∈L x→y≠start∧0<by' y
 all:∀x,x=start∨0<by' x→dn x∨x∈wait
theorem Bf.no{L:Nat→List Nat}{N start:Nat}{by':Nat→Nat}{dn:Nat→Prop}(h:Bf L N start by' [] dn):∀(l:List Nat)(a b:Nat),(a=start∨0<by' a)→Pth L a l b→l≠[]→b≠start∧0<by' b
 |[],_,_,_,_,h2=>absurd rfl h2
 |w :: l,a,b,ha,⟨x,h1,h2⟩,_=>by
  have hd:dn a:=by
   rcases h.all a ha with q|q
   ·exact q
   ·cases q
  have hx:=h.don a hd x (List.mem_of_getElem? h1);cases l with
  |nil=>cases h2;exact hx
  |cons w2 l=>exact h.no (w2 :: l) x b (.inr hx.2) h2 Ωi
theorem V8{L:Nat→List Nat}{N start:Nat}(hL:∀i x,i<N→x∈L i→x<N)(h5:∀i,i<N→(L i).length≤5):∀(f:Nat)(by':Nat→Nat)(wait:List Nat)(dn:Nat→Prop),Bf L N start by' wait dn→wait.length+(N - cM by' N)<f→
  (∃i b d w',V9 L start f by' wait=some (true,setN b start (1+i*5+w'))∧i<N∧w'<5∧(L i)[w']? = some start∧Mk L N start b d∧(i=start∨0<b i)∧b start=0)∨
  (∃b dn',V9 L start f by' wait=some (false,b)∧Bf L N start b [] dn')
 |0,by',wait,dn,h,hf=>by omega
 |f+1,by',[],dn,h,hf=>.inr ⟨by',dn,rfl,h⟩
 |f+1,by',i :: wait,dn,h,hf=>by
  obtain⟨d,hd⟩:=h.mks;obtain⟨hi,hr⟩:=h.wt i xd5;simp only[V9];rcases jY (start:=start) (hL i · hi) (h5 i hi) (L i) 0 by' d wait Ωi Ωi hd hr h.st with⟨q1,b,d',w',q2,q3,q4,q5,q6,q7⟩|⟨q1,q2,q3,q4,q5,new,q6,q7,q8,q9⟩
  ·rw[if_pos q1,q2]
   exact .inl ⟨i,b,d',w',rfl,hi,q3,q4,q5,q6,q7⟩
  ·rw[if_neg (by rw[q1];decide)]
   refine V8 hL h5 f _ _ (fun x=>dn x∨x=i) ⟨q3,q2,fun x hx=>?_,fun x hx y hy=>?_,fun x hx=>?_⟩ ?_
   ·rw[q6]at hx
    rcases List.mem_append.1 hx with hx|hx
    ·obtain⟨a1,a2⟩:=h.wt x (List.mem_cons_of_mem _ hx)
     exact⟨a1,a2.imp id (q5 x)⟩
    ·exact⟨(q7 x hx).1,.inr (q7 x hx).2⟩
   ·rcases hx with hx|rfl
    ·have:=h.don x hx y hy
     exact⟨this.1,q5 y this.2⟩
    ·exact q4 y hy
   ·have old:x=start∨0<by' x→(dn x∨x=i)∨x∈(zQ start i (L i) 0 by' wait).2.2:=fun ho=>by
     rcases h.all x ho with q|q
     ·exact .inl (.inl q)
     ·rcases List.mem_cons.1 q with rfl|q
      ·exact .inl (.inr rfl)
      ·rw[q6];exact .inr (List.mem_append.2 (.inl q))
    rcases hx with hx|hx
    ·exact old (.inl hx)
    ·rcases q8 x hx with hx|hx
     ·exact old (.inr hx)
     ·rw[q6];exact .inr (List.mem_append.2 (.inr hx))
   ·rw[q6,q9,xc8]
    have:=qcQ (zQ start i (L i) 0 by' wait).2.1 N;rw[q9]at this;simp only[xe4]at hf;omega
theorem Bf.first{L:Nat→List Nat}{N start:Nat}(hs:start<N):Bf L N start (fun _=>0) [start] (fun _=>False):=
 ⟨⟨fun _=>0,fun x hx hp=>(by cases hp),fun x hx hp=>(by cases hp)⟩,rfl,fun x hx=>(by rw[xe0]at hx;subst hx;exact⟨hs,.inl rfl⟩),fun x hx=>hx.elim,fun x hx=>.inr (by
   rcases hx with rfl|hx
   ·exact List.mem_singleton.2 rfl
   ·cases hx)⟩
def Rnd(L:Nat→List Nat)(N:Nat)(best:List Nat):Prop:=best≠[]∧best.length≤N∧∃s,s<N∧Pth L s best s
theorem qbo{L:Nat→List Nat}{N start i w':Nat}{b d:Nat→Nat}(hs:start<N)(hi:i<N)(hw:w'<5)(hg:(L i)[w']? = some start)(hM:Mk L N start b d)(hr:i=start∨0<b i)(h00:b start=0):∃l,wX (setN b start (1+i*5+w')) N start (N+2) start []=some l∧l≠[]∧l.length≤N∧Pth L start l.reverse start:=by
 obtain⟨m1,m2⟩:=dm5 i w' hw;have h0:setN b start (1+i*5+w') start=1+i*5+w':=by unfold setN;rw[if_pos rfl]
 show ∃l,wX _ N start (N+1+1) start []=some l∧_;simp only[wX];rw[h0,m1,m2,if_pos ⟨Ω,hs⟩];by_cases e:i=start
 ·rw[if_pos e]
  subst e;exact⟨_,rfl,Ωi,Ωr,i,hg,rfl⟩
 ·rw[if_neg e]
  have hb:=hr.resolve_left e;have hd:=hM.up i e hb;have hc:=qcQ (setN b start 1) N;rw[Wb h00 Ω N hs]at hc;obtain⟨l,q1,q2,q3,q4⟩:=J3 hM (by':=setN b start (1+i*5+w')) (fun x hx=>by unfold setN;rw[if_neg hx]) (N+1) i ([]++[w']) e hb Ω;refine⟨_,q1,Ωi,Ωr,?_⟩;rw[List.reverse_append];exact q3.app ⟨start,hg,rfl⟩
theorem Wc{L:Nat→List Nat}{N:Nat}(hL:∀i x,i<N→x∈L i→x<N)(h5:∀i,i<N→(L i).length≤5):∀(k start:Nat)(best:List Nat),start+k=N→(best=[]∨Rnd L N best)→
  ∃res,yO L N (N+2) (N+2) k start best=some res∧(res=[]∨Rnd L N res)∧((∃s l,start≤s∧s<N∧l≠[]∧Pth L s l s)∨best≠[]→res≠[])
 |0,start,best,hk,hb=>⟨best,rfl,hb,fun h=>by
  rcases h with⟨s,l,h1,h2,_⟩|h
  ·omega
  ·exact h⟩
 |k+1,start,best,hk,hb=>by
  have hs:start<N:=by omega
  have hc:=qcQ (fun _=>0) N;simp only[yO];rcases V8 hL h5 (N+2) (fun _=>0) [start] _ (Bf.first hs) (by simp only[xd1];omega)with⟨i,b,d,w',q1,q2,q3,q4,q5,q6,q7⟩|⟨b,dn',q1,q2⟩
  ·obtain⟨l,r1,r2,r4,r3⟩:=qbo hs q2 q3 q4 q5 q6 q7
   rw[q1];dsimp only;rw[r1];dsimp only;have hne:(if best.length=0∨l.length<best.length then l.reverse else best)≠[]:=by
    split
    ·simp[r2]
    ·rename_i hn
     intro e;rw[e]at hn;exact hn (.inl rfl)
   obtain⟨res,g1,g2,g3⟩:=Wc hL h5 k (start+1) (if best.length=0∨l.length<best.length then l.reverse else best) Ω (by
    split
    ·exact .inr ⟨by simp[r2],(by simp;exact r4),start,hs,r3⟩
    ·exact hb)
   exact⟨res,g1,g2,fun _=>g3 (.inr hne)⟩
  ·rw[q1]
   dsimp only;obtain⟨res,g1,g2,g3⟩:=Wc hL h5 k (start+1) best Ω hb;refine⟨res,g1,g2,fun h=>?_⟩;rcases h with⟨s,l,h1,h2,h3,h4⟩|h
   ·by_cases e:s=start
    ·subst e
     exact absurd rfl (q2.no l s s (.inl rfl) h4 h3).1
    ·exact g3 (.inl ⟨s,l,Ω,h2,h3,h4⟩)
   ·exact g3 (.inr h)
end Go.Tn
end
section
namespace Go.Tn
open Go.Proofs
open Go.Sx
def stS(s:Nat→Int):SV:=.agg (stL s)
theorem Ku{s:Nat→Int}{k:Nat}(h:k<5)(x:Int):(stL s).set k (.val (.int .i64 x))=stL (upN s k x):=by
 have:k=0∨k=1∨k=2∨k=3∨k=4:=by omega
 rcases this with rfl|rfl|rfl|rfl|rfl<;>rfl
theorem qcR{s t:Nat→Int}(h:∀i,i<5→s i=t i):stL s=stL t:=by
 unfold stL;rw[h 0 Ω,h 1 Ω,h 2 Ω,h 3 Ω,h 4 Ω]
theorem qt(s:Nat→Int):List.drop 5 (stL s)=[]:=rfl
theorem yw(H:List (Nat×Blk))(s:Nat→Int):SubL H (stL s) (stL s):=by simp[stL,SubL,Go.Sx.Sub]
def yF(k:Nat)(p:Nat→Int)(w:Int):Bool:=decide (Ji (vAt p w) k)
theorem c78(k:Nat)(p:Nat→Int)(w:Int)(hk:k≤1000000):qb Tryz.prog 78 [I w,.ref false 1 (fun _=>.arr false false k 1 (fun i _=>.val (.int .i64 (p i))))] (B (yF k p w)):=by
 refine qc Tryz.func78 rfl Ωb follows Ωb _ _ (by rw[Tryz.ntmps78];simp) ΩA ?_;unfold I;have h1:=c79 k p w hk;(repeat' (first|refine sD ?_ ?_<;>intro _|refine aAa ?_|(simp -dsimp only[↓RP,RQ,xa0,reduceIte,reduceCtorEq,xa1,xa2,xa3,xa4,QT,QN])))
 all_goals try exact Ωa
 refine qi (h1) Ωd Ωc ?_;(repeat' (first|refine sD ?_ ?_<;>intro _|refine aAa ?_|(simp -dsimp only[↓RP,RQ,xa0,reduceIte,reduceCtorEq,xa1,xa2,xa3,xa4,QT,QN])))
 all_goals try exact Ωa
 rfl
theorem c80(s:Nat→Int)(v:Nat)(hv:v<5):qb Tryz.prog 80 [stS s,I v] (stS (upN s v 0)):=by
 refine qc Tryz.func80 rfl Ωb follows Ωb _ _ (by rw[Tryz.ntmps80];simp) ΩA ?_;unfold I stS;have hset:=Ku (s:=s) hv 0;(repeat' (first|refine sD ?_ ?_<;>intro _|refine aAa ?_|(simp -dsimp only[↓RP,RQ,xa0,reduceIte,reduceCtorEq,xa1,xa2,xa3,xa4,hset,qp,qo,QT,QN])))
 all_goals try exact Ωa
 exact yw _ _
theorem c81(m:Nat)(u s:Nat→Int)(h1:1≤m)(h5:m≤5):qb Tryz.prog 81 [stS s,hsv m u] (.arr true false m 1 (fun i _=>.val (.int .i64 (s i)))):=by
 refine qc Tryz.func81 rfl Ωb follows Ωb _ _ (by rw[Tryz.ntmps81];simp) ΩA ?_;unfold stS hsv;have hc:=qoB m h1 Ω s;(repeat' (first|refine sD ?_ ?_<;>intro _|refine aAf ?_|(simp -dsimp only[↓RP,RQ,xa0,reduceIte,reduceCtorEq,xa1,xa2,xa3,xa4,qp,qo,QT,QN])))
 all_goals try exact Ωa
 refine qi hc (by(simp -dsimp only[↓RP,RQ,xa0,reduceIte,reduceCtorEq,xa1,xa2,xa3,xa4,QV,hsv,ints,I,B]);all_goals (try simp[QV,Go.Sx.Sub,Go.Sx.SubL]);all_goals (try exact⟨h5,fun i hi=>by rw[gX Ω];rfl⟩)) Ωc ?_;(repeat' (first|refine sD ?_ ?_<;>intro _|refine aAf ?_|(simp -dsimp only[↓RP,RQ,xa0,reduceIte,reduceCtorEq,xa1,xa2,xa3,xa4,qp,qo,QT,QN])))
 all_goals try exact Ωa
 all_goals first|exact fun h=>h|skip
def plW(b:Nat→Bool)(s:Nat→Int)(w i:Nat):Int:=if i<w∧b i=true then s i+1 else s i
theorem qlB(b:Nat→Bool)(s:Nat→Int):plW b s 0=s:=by funext i;unfold plW;rw[if_neg Ω]
theorem qhF(b:Nat→Bool)(s:Nat→Int)(w:Nat):plW b s w w=s w:=by unfold plW;rw[if_neg Ω]
theorem qcS{b:Nat→Bool}{s:Nat→Int}{w:Nat}(h:b w=true):upN (plW b s w) w (s w+1)=plW b s (w+1):=by
 funext i;unfold upN;by_cases e:i=w
 ·subst e;rw[if_pos rfl];unfold plW;rw[if_pos ⟨Ω,h⟩]
 ·rw[if_neg e]
  unfold plW;by_cases c:i<w∧b i=true
  ·rw[if_pos c,if_pos ⟨Ω,c.2⟩]
  ·rw[if_neg c,if_neg (fun q=>c ⟨Ω,q.2⟩)]
theorem qhG{b:Nat→Bool}{s:Nat→Int}{w:Nat}(h:b w=false):plW b s w=plW b s (w+1):=by
 funext i;unfold plW;by_cases c:i<w∧b i=true
 ·rw[if_pos c,if_pos ⟨Ω,c.2⟩]
 ·rw[if_neg c,if_neg]
  rintro⟨q1,q2⟩;by_cases e:i=w
  ·subst e;rw[h]at q2;cases q2
  ·exact c ⟨Ω,q2⟩
def okP(b:Nat→Bool)(s u:Nat→Int)(m:Nat):Prop:=∀i,i<m→b i=true→s i+1≤u i
def zS:Nat→Int:=fun _=>0
theorem qnS(m:Nat)(u s:Nat→Int)(g:Nat)(caps:List SV)(b:Nat→Bool)(h5:m≤5)(hs:∀i,i<m→0≤s i∧s i≤u i)(hu:∀i,i<m→u i≤12)(ho:OldL caps)(hg:∀i,i<m→qb Tryz.prog g (.val (.int .i64 (i:Nat)) :: caps) (B (b i)))(hp:okP b s u m):qb Tryz.prog 77 [stS s,hsv m u,.fn (.func g) [] caps] (.tup [stS (plW b s m),B true]):=by
 refine qc Tryz.func77 rfl Ωb follows Ωb _ _ (by rw[Tryz.ntmps77];simp) (by simp[OldL,Old,QV,hsv,ints,I,B,stS,stL,ho]) ?_;unfold stS hsv B;(repeat' (first|refine sD ?_ ?_<;>intro _|refine aAa ?_|(simp -dsimp only[↓RP,RQ,xa0,reduceIte,reduceCtorEq,xa1,xa2,xa3,xa4,qp,qo,qt,xd3,QT,QN])))
 all_goals try exact Ωa
 refine qj (fun(w:Nat)=>w≤m∧okP b s u w) (fun w=>⟨[(2,.fn (.func g) [] caps),(3,.ptr 0 0),(6,.ptr 2 0),(11,.arr false false m 1 (fun i _=>.val (.int .i64 (u i)))),(12,.val (.int .i64 (m:Nat))),(13,.val (.int .i64 (w:Nat)))],[(2,.cells 140 (stL zS)),(0,.cells 140 (stL (plW b s w)))],50+40*w⟩) (fun w=>m - w) 0 ⟨xb6 _,fun i hi=>by omega⟩ (qf Ω Ωg ?hw1) fun w hw=>?_
 case hw1=>rw[qlB];exact SubHp.cons (SubHp.skip ΩN (SubHp.refl _))
 obtain⟨hw,hk⟩:=hw;by_cases hwm:w<m
 ·have hlt:=decide_eq_true (Ω:((w:Nat):Int)<(m:Nat))
  have⟨b1,b2⟩:=hs w hwm;have b3:=hu w hwm;(repeat' (first|refine sD ?_ ?_<;>intro _|refine aAa ?_|(simp -dsimp only[↓RP,RQ,xa0,reduceIte,reduceCtorEq,xa1,xa2,xa3,xa4,hlt,qp,qo,qt,xd3,QT,QN])))
  all_goals try exact Ωa
  refine vV (hg w hwm) (subL_refl _ (by simp[OldL,Old,ho])) ?_;cases hb:b w with
  |true=>
   have hset:(stL (plW b s w)).set w (.val (.int .i64 (s w+1)))=stL (plW b s (w+1)):=by rw[Ku Ω,qcS hb]
   have hat:plW b s (w+1) w=s w+1:=by unfold plW;rw[if_pos ⟨Ω,hb⟩]
   (repeat' (first|refine sD ?_ ?_<;>intro _|refine aAa ?_|(simp -dsimp only[↓RP,RQ,xa0,reduceIte,reduceCtorEq,xa1,xa2,xa3,xa4,QT,qp,qo,qt,xd3,QN])))
   all_goals try exact Ωa
   refine⟨_,gX Ω,?_⟩;(repeat' (first|refine sD ?_ ?_<;>intro _|refine aAa ?_|(simp -dsimp only[↓RP,RQ,xa0,reduceIte,reduceCtorEq,xa1,xa2,xa3,xa4,qhF,hset,qp,qo,qt,xd3,QT,QN])))
   all_goals try exact Ωa
   refine⟨_,gX Ω,?_⟩;(repeat' (first|refine sD ?_ ?_<;>intro _|refine aAa ?_|(simp -dsimp only[↓RP,RQ,xa0,reduceIte,reduceCtorEq,xa1,xa2,xa3,xa4,hat,qp,qo,qt,xd3,QT,QN])))
   all_goals try exact Ωa
   ·exact absurd (hp w hwm hb) Ω
   ·refine⟨w+1,⟨hwm,fun i hi hbi=>?_⟩,Ω,qf Ω Ωg (SubHp.refl _)⟩
    by_cases e:i=w
    ·subst e;omega
    ·exact hk i Ω hbi
  |false=>
   (repeat' (first|refine sD ?_ ?_<;>intro _|refine aAa ?_|(simp -dsimp only[↓RP,RQ,xa0,reduceIte,reduceCtorEq,xa1,xa2,xa3,xa4,QT,qp,qo,qt,xd3,QN])))
   all_goals try exact Ωa
   refine⟨w+1,⟨hwm,fun i hi hbi=>?_⟩,Ω,qf Ω Ωg (by rw[←qhG hb];exact SubHp.refl _)⟩;by_cases e:i=w
   ·subst e;rw[hb]at hbi;cases hbi
   ·exact hk i Ω hbi
 ·obtain rfl:m=w:=by omega
  have hlt:=decide_eq_false (Ω:¬((m:Nat):Int)<(m:Nat))
  skip
  (repeat' (first|refine sD ?_ ?_<;>intro _|refine aAa ?_|(simp -dsimp only[↓RP,RQ,xa0,reduceIte,reduceCtorEq,xa1,xa2,xa3,xa4,hlt,qp,qo,qt,xd3,QT,QN])))
  all_goals try exact Ωa
  exact yw _ _
theorem qoG(m:Nat)(u s:Nat→Int)(g:Nat)(caps:List SV)(b:Nat→Bool)(h5:m≤5)(hs:∀i,i<m→0≤s i∧s i≤u i)(hu:∀i,i<m→u i≤12)(ho:OldL caps)(hg:∀i,i<m→qb Tryz.prog g (.val (.int .i64 (i:Nat)) :: caps) (B (b i)))(hp:¬okP b s u m):qb Tryz.prog 77 [stS s,hsv m u,.fn (.func g) [] caps] (.tup [stS zS,B false]):=by
 refine qc Tryz.func77 rfl Ωb follows Ωb _ _ (by rw[Tryz.ntmps77];simp) (by simp[OldL,Old,QV,hsv,ints,I,B,stS,stL,ho]) ?_;unfold stS hsv B;(repeat' (first|refine sD ?_ ?_<;>intro _|refine aAa ?_|(simp -dsimp only[↓RP,RQ,xa0,reduceIte,reduceCtorEq,xa1,xa2,xa3,xa4,qp,qo,qt,xd3,QT,QN])))
 all_goals try exact Ωa
 refine qj (fun(w:Nat)=>w≤m∧okP b s u w) (fun w=>⟨[(2,.fn (.func g) [] caps),(3,.ptr 0 0),(6,.ptr 2 0),(11,.arr false false m 1 (fun i _=>.val (.int .i64 (u i)))),(12,.val (.int .i64 (m:Nat))),(13,.val (.int .i64 (w:Nat)))],[(2,.cells 140 (stL zS)),(0,.cells 140 (stL (plW b s w)))],50+40*w⟩) (fun w=>m - w) 0 ⟨xb6 _,fun i hi=>by omega⟩ (qf Ω Ωg ?hw1) fun w hw=>?_
 case hw1=>rw[qlB];exact SubHp.cons (SubHp.skip ΩN (SubHp.refl _))
 obtain⟨hw,hk⟩:=hw;by_cases hwm:w<m
 ·have hlt:=decide_eq_true (Ω:((w:Nat):Int)<(m:Nat))
  have⟨b1,b2⟩:=hs w hwm;have b3:=hu w hwm;(repeat' (first|refine sD ?_ ?_<;>intro _|refine aAa ?_|(simp -dsimp only[↓RP,RQ,xa0,reduceIte,reduceCtorEq,xa1,xa2,xa3,xa4,hlt,qp,qo,qt,xd3,QT,QN])))
  all_goals try exact Ωa
  refine vV (hg w hwm) (subL_refl _ (by simp[OldL,Old,ho])) ?_;cases hb:b w with
  |true=>
   have hset:(stL (plW b s w)).set w (.val (.int .i64 (s w+1)))=stL (plW b s (w+1)):=by rw[Ku Ω,qcS hb]
   have hat:plW b s (w+1) w=s w+1:=by unfold plW;rw[if_pos ⟨Ω,hb⟩]
   (repeat' (first|refine sD ?_ ?_<;>intro _|refine aAa ?_|(simp -dsimp only[↓RP,RQ,xa0,reduceIte,reduceCtorEq,xa1,xa2,xa3,xa4,QT,qp,qo,qt,xd3,QN])))
   all_goals try exact Ωa
   refine⟨_,gX Ω,?_⟩;(repeat' (first|refine sD ?_ ?_<;>intro _|refine aAa ?_|(simp -dsimp only[↓RP,RQ,xa0,reduceIte,reduceCtorEq,xa1,xa2,xa3,xa4,qhF,hset,qp,qo,qt,xd3,QT,QN])))
   all_goals try exact Ωa
   refine⟨_,gX Ω,?_⟩;(repeat' (first|refine sD ?_ ?_<;>intro _|refine aAa ?_|(simp -dsimp only[↓RP,RQ,xa0,reduceIte,reduceCtorEq,xa1,xa2,xa3,xa4,hat,qp,qo,qt,xd3,QT,QN])))
   all_goals try exact Ωa
   ·simp[stL,zS,SubL,Go.Sx.Sub]
   ·refine⟨w+1,⟨hwm,fun i hi hbi=>?_⟩,Ω,qf Ω Ωg (SubHp.refl _)⟩
    by_cases e:i=w
    ·subst e;omega
    ·exact hk i Ω hbi
  |false=>
   (repeat' (first|refine sD ?_ ?_<;>intro _|refine aAa ?_|(simp -dsimp only[↓RP,RQ,xa0,reduceIte,reduceCtorEq,xa1,xa2,xa3,xa4,QT,qp,qo,qt,xd3,QN])))
   all_goals try exact Ωa
   refine⟨w+1,⟨hwm,fun i hi hbi=>?_⟩,Ω,qf Ω Ωg (by rw[←qhG hb];exact SubHp.refl _)⟩;by_cases e:i=w
   ·subst e;rw[hb]at hbi;cases hbi
   ·exact hk i Ω hbi
 ·obtain rfl:m=w:=by omega
  have hlt:=decide_eq_false (Ω:¬((m:Nat):Int)<(m:Nat));exact absurd hk hp
  skip
def wj(m:Nat)(s:Nat→Int):Nat→Int:=fun i=>if i<m then s i else 0
theorem qmo{m:Nat}(h1:1≤m)(h5:m≤5):m=1∨m=2∨m=3∨m=4∨m=5:=by omega
theorem qkq(s:Nat→Int){m:Nat}(h1:1≤m)(h5:m≤5):List.map (fun i=>SV.val (Value.int IntKind.i64 (s i))) (List.range (min m 5))++List.drop (min m 5) (List.replicate 5 (SV.val (Value.int IntKind.i64 0)))=stL (wj m s):=by
 rcases qmo h1 h5 with rfl|rfl|rfl|rfl|rfl<;>rfl
theorem zC(s:Nat→Int):allOne (stL s)=true:=rfl
theorem qoH(m:Nat)(s:Nat→Int)(h1:1≤m)(h5:m≤5):qb Tryz.prog 166 [ints m s] (stS (wj m s)):=by
 refine qc Tryz.func166 rfl Ωb follows Ωb _ _ (by rw[Tryz.ntmps166];simp) ΩA ?_;unfold stS ints;have hc:=qkq s h1 h5;(repeat' (first|refine sD ?_ ?_<;>intro _|refine aAg ?_|(simp -dsimp only[↓RP,RQ,xa0,reduceIte,reduceCtorEq,xa1,xa2,xa3,xa4,hc,qp,qo,qt,zC,xd3,QT,QN])))
 all_goals try exact Ωa
 exact yw _ _
theorem c75(m:Nat)(u s:Nat→Int)(hk:ckH m u=0)(hs:∀i,i<m→0≤s i∧s i≤u i):qb Tryz.prog 75 [hsv m u,ints m s] (.tup [stS (wj m s),I 0]):=by
 refine qc Tryz.func75 rfl Ωb follows Ωb _ _ (by rw[Tryz.ntmps75];simp) ΩA ?_;obtain⟨h1,h5,hu,_⟩:=vb hk;have hc:=c70 m u Ω;rw[hk]at hc;have hn:=qoH m s h1 h5;have ckk:True:=trivial;unfold stS hsv I ints;(repeat' (first|refine sD ?_ ?_<;>intro _|refine aAa ?_|(simp -dsimp only[↓RP,RQ,xa0,reduceIte,reduceCtorEq,xa1,xa2,xa3,xa4,ckk,qp,qo,qt,zC,xd3,QT,QN])))
 all_goals try exact Ωa
 refine qi (hc) Ωd Ωc ?_;(repeat' (first|refine sD ?_ ?_<;>intro _|refine aAa ?_|(simp -dsimp only[↓RP,RQ,xa0,reduceIte,reduceCtorEq,xa1,xa2,xa3,xa4,QT,ckk,qp,qo,qt,zC,xd3,QN])))
 all_goals try exact Ωa
 refine qj (fun(w:Nat)=>w≤m) (fun w=>⟨[(1,.arr false false m 1 (fun i _=>.val (.int .i64 (s i)))),(2,.ptr 0 0),(4,.ptr 1 0),(24,.arr false false m 1 (fun i _=>.val (.int .i64 (s i)))),(25,.val (.int .i64 (m:Nat))),(26,.val (.int .i64 (w:Nat)))],[(1,.cells 140 (stL zS)),(0,.cells 24 [.arr false false m 1 (fun i _=>.val (.int .i64 (u i)))])],50+40*w⟩) (fun w=>m - w) 0 (xb6 _) (qf Ω Ωg ?hw1) fun w hw=>?_
 case hw1=>exact SubHp.refl _
 by_cases hwm:w<m
 ·have hlt:=decide_eq_true (Ω:((w:Nat):Int)<(m:Nat))
  have h76:=qch (s w) 0 (u w);rw[decide_eq_true (hs w hwm)]at h76;(repeat' (first|refine sD ?_ ?_<;>intro _|refine aAa ?_|(simp -dsimp only[↓RP,RQ,xa0,reduceIte,reduceCtorEq,xa1,xa2,xa3,xa4,hlt,ckk,qp,qo,qt,zC,xd3,QT,QN])))
  all_goals try exact Ωa
  refine qi (h76) Ωd Ωc ?_;(repeat' (first|refine sD ?_ ?_<;>intro _|refine aAa ?_|(simp -dsimp only[↓RP,RQ,xa0,reduceIte,reduceCtorEq,xa1,xa2,xa3,xa4,QT,ckk,qp,qo,qt,zC,xd3,QN])))
  all_goals try exact Ωa
  exact⟨w+1,hwm,Ω,qf Ω Ωg (by refine SubHp.skip ?_ (SubHp.refl _);simp only[blk];rw[if_neg Ω,if_neg Ω])⟩
 ·obtain rfl:m=w:=by omega
  have hlt:=decide_eq_false (Ω:¬((m:Nat):Int)<(m:Nat));(repeat' (first|refine sD ?_ ?_<;>intro _|refine aAa ?_|(simp -dsimp only[↓RP,RQ,xa0,reduceIte,reduceCtorEq,xa1,xa2,xa3,xa4,hlt,ckk,qp,qo,qt,zC,xd3,QT,QN])))
  all_goals try exact Ωa
  refine qi hn Ωd (by simp[Fresh,FreshL,stS,stL]) ?_;(repeat' (first|refine sD ?_ ?_<;>intro _|refine aAa ?_|(simp -dsimp only[↓RP,RQ,xa0,reduceIte,reduceCtorEq,xa1,xa2,xa3,xa4,stS,ckk,qp,qo,qt,zC,xd3,QT,QN])))
  all_goals try exact Ωa
  exact yw _ _
end Go.Tn
end
section
namespace Go.Tn
open Go.Proofs
open Go.Sx
def nxP(p:Nat→Int):Nat→Int
 |0=>0
 |i+1=>p i+1
theorem qhH(p:Nat→Int)(i:Nat):nxP p (i+1)=p i+1:=rfl
theorem Q1{m:Nat}{s:Nat→Int}{i:Nat}(h:i<m):wj m s i=s i:=by unfold wj;rw[if_pos h]
theorem qoI(m k v:Nat)(u s p:Nat→Int)(hk:ckH m u=0)(hs:∀i,i<m→0≤s i∧s i≤u i)(hkk:k≤1000)(hp:∀i,i<k→nxP p i≤p i∧p i<m)(hv:v<m)(ho:okP (fun i=>yF k p (i:Nat)) (wj m s) u m):qb Tryz.prog 17 [hsv m u,ints m s,ints k p,I v] (.tup [.arr true false m 1 (fun i _=>.val (.int .i64 (upN (plW (fun i=>yF k p (i:Nat)) (wj m s) m) v 0 i))),I (plW (fun i=>yF k p (i:Nat)) (wj m s) m v),I 0]):=by
 refine qc Tryz.func17 rfl Ωb follows Ωb _ _ (by rw[Tryz.ntmps17];simp) ΩA ?_;obtain⟨h1,h5,hu,_⟩:=vb hk;have hc:=c75 m u s hk hs;have hpl:=qnS m u (wj m s) 78 [.ref false 1 (fun _=>.arr false false k 1 (fun i _=>.val (.int .i64 (p i))))] (fun i=>yF k p (i:Nat)) h5 (fun i hi=>by rw[Q1 hi];exact hs i hi) (fun i hi=>(hu i hi).2) (by simp[OldL,Old]) (fun i hi=>c78 k p (i:Nat) Ω) ho;have hp0:∀i,i≤k→0≤nxP p i∧nxP p i≤5:=fun i=>by
  induction i with
  |zero=>intro _;exact⟨Int.le_refl _,by show(0:Int)≤5;omega⟩
  |succ i ih=>intro hi;have:=ih Ω;have:=hp i Ω;rw[qhH];omega
 unfold hsv I ints;(repeat' (first|refine sD ?_ ?_<;>intro _|refine aAa ?_|(simp -dsimp only[↓RP,RQ,xa0,reduceIte,reduceCtorEq,xa1,xa2,xa3,xa4,qp,qo,qt,zC,xd3,QT,QN])))
 all_goals try exact Ωa
 refine qi hc Ωd (by simp[Fresh,FreshL,stS,stL,B,I]) ?_;(repeat' (first|refine sD ?_ ?_<;>intro _|refine aAa ?_|(simp -dsimp only[↓RP,RQ,xa0,reduceIte,reduceCtorEq,xa1,xa2,xa3,xa4,stS,QT,qp,qo,qt,zC,xd3,QN])))
 all_goals try exact Ωa
 refine qj (fun(w:Nat)=>w≤k) (fun w=>⟨[(3,.val (.int .i64 (v:Nat))),(4,.ptr 0 0),(6,.ptr 1 0),(11,.ptr 11 0),(13,.val (.int .i64 (nxP p w))),(26,.arr false false k 1 (fun i _=>.val (.int .i64 (p i)))),(27,.val (.int .i64 (k:Nat))),(28,.val (.int .i64 (w:Nat)))],[(11,.cells 140 (stL (wj m s))),(1,.cells 22 [.arr false false k 1 (fun i _=>.val (.int .i64 (p i)))]),(0,.cells 24 [.arr false false m 1 (fun i _=>.val (.int .i64 (u i)))])],50+60*w⟩) (fun w=>k - w) 0 (xb6 _) (qf Ω (by simp[qM,Go.Sx.look,nxP]) ?hw1) fun w hw=>?_
 case hw1=>exact SubHp.refl _
 by_cases hwk:w<k
 ·have hlt:=decide_eq_true (Ω:((w:Nat):Int)<(k:Nat))
  have h76:=qch (p w) (nxP p w) ((m:Int) - 1);have hpw:=hp w hwk;have hpn:=hp0 w Ω;rw[decide_eq_true (Ω:nxP p w≤p w∧p w≤(m:Int) - 1)]at h76;(repeat' (first|refine sD ?_ ?_<;>intro _|refine aAa ?_|(simp -dsimp only[↓RP,RQ,xa0,reduceIte,reduceCtorEq,xa1,xa2,xa3,xa4,hlt,qp,qo,qt,zC,xd3,QT,QN])))
  all_goals try exact Ωa
  refine qi (h76) Ωd Ωc ?_;(repeat' (first|refine sD ?_ ?_<;>intro _|refine aAa ?_|(simp -dsimp only[↓RP,RQ,xa0,reduceIte,reduceCtorEq,xa1,xa2,xa3,xa4,QT,qp,qo,qt,zC,xd3,QN])))
  all_goals try exact Ωa
  exact⟨w+1,hwk,Ω,qf Ω (by simp[qM,Go.Sx.look,qhH]) (by refine SubHp.skip ?_ (SubHp.refl _);simp only[blk];rw[if_neg Ω,if_neg Ω,if_neg Ω])⟩
 ·obtain rfl:k=w:=by omega
  have hlt:=decide_eq_false (Ω:¬((k:Nat):Int)<(k:Nat));have h76:=qch (v:Nat) 0 ((m:Int) - 1);obtain⟨n1,hn1⟩:∃n1,n1=50+60*k:=⟨_,rfl⟩;rw[←hn1];have NB:=(⟨nmA (Ω:11<n1),nmA (Ω:1<n1),nmA (Ω:0<n1)⟩:_∧_∧_);rw[decide_eq_true (Ω:(0:Int)≤(v:Nat)∧((v:Nat):Int)≤(m:Int) - 1)]at h76;(repeat' (first|refine sD ?_ ?_<;>intro _|refine aAa ?_|(simp -dsimp only[↓RP,RQ,xa0,reduceIte,reduceCtorEq,xa1,xa2,xa3,xa4,hlt,NB,QR,qp,qo,qt,zC,xd3,QT,QN])))
  all_goals try exact Ωa
  refine qi (h76) Ωd Ωc ?_;(repeat' (first|refine sD ?_ ?_<;>intro _|refine aAa ?_|(simp -dsimp only[↓RP,RQ,xa0,reduceIte,reduceCtorEq,xa1,xa2,xa3,xa4,QT,NB,QR,qp,qo,qt,zC,xd3,QN])))
  all_goals try exact Ωa
  refine qi hpl Ωt (by simp[Fresh,FreshL,stS,stL,B,I]) ?_;(repeat' (first|refine sD ?_ ?_<;>intro _|refine aAa ?_|(simp -dsimp only[↓RP,RQ,xa0,reduceIte,reduceCtorEq,xa1,xa2,xa3,xa4,stS,QT,NB,QR,qp,qo,qt,zC,xd3,QN])))
  all_goals try exact Ωa
  refine qi (c80 (plW (fun i=>yF k p (i:Nat)) (wj m s) m) v Ω) Ωt (by simp[Fresh,FreshL,stS,stL,B,I]) ?_;(repeat' (first|refine sD ?_ ?_<;>intro _|refine aAa ?_|(simp -dsimp only[↓RP,RQ,xa0,reduceIte,reduceCtorEq,xa1,xa2,xa3,xa4,stS,QT,NB,QR,qp,qo,qt,zC,xd3,QN])))
  all_goals try exact Ωa
  refine qi (c81 m u (upN (plW (fun i=>yF k p (i:Nat)) (wj m s) m) v 0) h1 h5) Ωt ΩK ?_;(repeat' (first|refine sD ?_ ?_<;>intro _|refine aAa ?_|(simp -dsimp only[↓RP,RQ,xa0,reduceIte,reduceCtorEq,xa1,xa2,xa3,xa4,stS,QT,NB,QR,qp,qo,qt,zC,xd3,QN])))
  all_goals try exact Ωa
  refine⟨_,gX Ω,?_⟩;(repeat' (first|refine sD ?_ ?_<;>intro _|refine aAa ?_|(simp -dsimp only[↓RP,RQ,xa0,reduceIte,reduceCtorEq,xa1,xa2,xa3,xa4,stS,QT,NB,QR,qp,qo,qt,zC,xd3,QN])))
  all_goals try exact Ωa
  all_goals first|exact fun h=>h|skip
theorem c18(m:Nat)(u s:Nat→Int)(hk:ckH m u=0)(hs:∀i,i<m→0≤s i∧s i≤u i):qb Tryz.prog 18 [hsv m u,ints m s] (I 0):=by
 refine qc Tryz.func18 rfl Ωb follows Ωb _ _ (by rw[Tryz.ntmps18];simp) ΩA ?_;obtain⟨h1,h5,hu,_⟩:=vb hk;have hc:=c66 m u Ω;rw[hk]at hc;unfold hsv I ints;(repeat' (first|refine sD ?_ ?_<;>intro _|refine aAa ?_|(simp -dsimp only[↓RP,RQ,xa0,reduceIte,reduceCtorEq,xa1,xa2,xa3,xa4,qp,QT,QN])))
 all_goals try exact Ωa
 refine qi (hc) Ωd Ωc ?_;(repeat' (first|refine sD ?_ ?_<;>intro _|refine aAa ?_|(simp -dsimp only[↓RP,RQ,xa0,reduceIte,reduceCtorEq,xa1,xa2,xa3,xa4,QT,qp,QN])))
 all_goals try exact Ωa
 refine qj (fun(w:Nat)=>w≤m) (fun w=>⟨[(1,.arr false false m 1 (fun i _=>.val (.int .i64 (s i)))),(2,.ptr 0 0),(5,.val (.int .i64 (w:Nat)))],[(0,.cells 24 [.arr false false m 1 (fun i _=>.val (.int .i64 (u i)))])],50+40*w⟩) (fun w=>m - w) 0 (xb6 _) (qf Ω Ωg (SubHp.refl _)) fun w hw=>?_;by_cases hwm:w<m
 ·have hlt:=decide_eq_true (Ω:((w:Nat):Int)<(m:Nat))
  have⟨b1,b2⟩:=hs w hwm;have d1:=decide_eq_false (Ω:¬s w<0);have d2:=decide_eq_false (Ω:¬u w<s w);(repeat' (first|refine sD ?_ ?_<;>intro _|refine aAa ?_|(simp -dsimp only[↓RP,RQ,xa0,reduceIte,reduceCtorEq,xa1,xa2,xa3,xa4,hlt,d1,d2,qp,QT,QN])))
  all_goals try exact Ωa
  exact⟨w+1,hwm,Ω,qf Ω Ωg (SubHp.refl _)⟩
 ·obtain rfl:m=w:=by omega
  have hlt:=decide_eq_false (Ω:¬((m:Nat):Int)<(m:Nat));(repeat' (first|refine sD ?_ ?_<;>intro _|refine aAa ?_|(simp -dsimp only[↓RP,RQ,xa0,reduceIte,reduceCtorEq,xa1,xa2,xa3,xa4,hlt,qp,QT,QN])))
  all_goals try exact Ωa
theorem c11(m:Nat)(u:Nat→Int)(hm:m≤1000000):qb Tryz.prog 11 [hsv m u] (B (decide (m≤10∧ckH m u=0))):=by
 refine qc Tryz.func11 rfl Ωb follows Ωb _ _ (by rw[Tryz.ntmps11];simp) ΩA ?_;have hc:=c66 m u hm;unfold hsv B;by_cases h10:m≤10
 ·have d1:=decide_eq_true (Ω:((m:Nat):Int)≤10)
  (repeat' (first|refine sD ?_ ?_<;>intro _|refine aAa ?_|(simp -dsimp only[↓RP,RQ,xa0,reduceIte,reduceCtorEq,xa1,xa2,xa3,xa4,d1,QT,QN])))
  all_goals try exact Ωa
  refine qi (hc) Ωd Ωc ?_;have hx:decide (ckH m u=0)=decide (m≤10∧ckH m u=0):=by simp[h10]
  (repeat' (first|refine sD ?_ ?_<;>intro _|refine aAa ?_|(simp -dsimp only[↓RP,RQ,xa0,reduceIte,reduceCtorEq,xa1,xa2,xa3,xa4,d1,QT,QN])))
  all_goals try exact Ωa
  exact Qd hx
 ·have d1:=decide_eq_false (Ω:¬((m:Nat):Int)≤10)
  (repeat' (first|refine sD ?_ ?_<;>intro _|refine aAa ?_|(simp -dsimp only[↓RP,RQ,xa0,reduceIte,reduceCtorEq,xa1,xa2,xa3,xa4,d1,QT,QN])))
  all_goals try exact Ωa
  exact Qd (by simp[h10])
end Go.Tn
end
section
namespace Go.Tn
open Go.Proofs
open Go.Sx
theorem TYP:True∧qk Tryz.prog 2=some ⟨false,1,some [.int .i64 0],.int .i64⟩∧qk Tryz.prog 3=some ⟨false,1,some [.int .i64 0],.int .i64⟩∧qk Tryz.prog 4=some ⟨false,1,some [.bool false],.bool⟩∧qk Tryz.prog 5=some ⟨false,1,some [.int .u8 0],.int .u8⟩∧qk Tryz.prog 22=some ⟨false,1,some [.slice none 0 0],.slice 3 1⟩∧qk Tryz.prog 25=some ⟨false,1,some [.slice none 0 0],.slice 5 1⟩∧qk Tryz.prog 28=some ⟨false,1,some [.int .i64 0],.int .i64⟩∧qk Tryz.prog 45=some ⟨false,1,some [.slice none 0 0],.slice 49 2⟩∧qk Tryz.prog 46=some ⟨false,1,some [.slice none 0 0],.slice 51 3⟩∧qk Tryz.prog 48=some ⟨true,8,some [.int .i64 0,.int .i64 0,.slice none 0 0,.slice none 0 0,.bool false,.int .i64 0,.int .i64 0,.int .i64 0],.struct [(0,1,some false),(1,1,some false),(2,1,some false),(3,1,some false),(4,1,some false),(5,1,some false),(6,1,some false),(7,1,some false)]⟩∧qX Tryz.prog 48=some [(0,1),(1,1),(2,1),(3,1),(4,1),(5,1),(6,1),(7,1)]∧qk Tryz.prog 49=some ⟨true,2,some [.int .u8 0,.int .u8 0],.array 2 5 1⟩∧qX Tryz.prog 49=some [(0,1),(1,1)]∧jh Tryz.prog 49=some [.i .u8,.i .u8]∧qk Tryz.prog 51=some ⟨true,3,some [.int .i64 0,.int .i64 0,.int .i64 0],.struct [(0,1,some false),(1,1,some false),(2,1,some false)]⟩∧qX Tryz.prog 51=some [(0,1),(1,1),(2,1)]∧jh Tryz.prog 51=some [.i .i64,.i .i64,.i .i64]∧qk Tryz.prog 55=some ⟨true,2,some [.int .i64 0,.int .i64 0],.array 2 3 1⟩∧qX Tryz.prog 55=some [(0,1),(1,1)]∧jh Tryz.prog 55=some [.i .i64,.i .i64]∧qk Tryz.prog 57=some ⟨true,6,some [.int .i64 0,.int .i64 0,.int .i64 0,.int .i64 0,.int .i64 0,.int .i64 0],.struct [(0,1,some false),(1,1,some false),(2,1,some false),(3,1,some false),(4,1,some false),(5,1,some false)]⟩∧qX Tryz.prog 57=some [(0,1),(1,1),(2,1),(3,1),(4,1),(5,1)]∧jh Tryz.prog 57=some [.i .i64,.i .i64,.i .i64,.i .i64,.i .i64,.i .i64]∧qk Tryz.prog 60=some ⟨false,1,some [.slice none 0 0],.slice 22 1⟩∧qD Tryz.prog 46=24∧qD Tryz.prog 48=96∧qD Tryz.prog 51=24∧qD Tryz.prog 55=16:=⟨trivial,Ωb,Ωb,Ωb,Ωb,Ωb,Ωb,Ωb,Ωb,Ωb,Ωb,Ωb,Ωb,Ωb,Ωb,Ωb,Ωb,Ωb,Ωb,Ωb,Ωb,Ωb,Ωb,Ωb,Ωb,Ωb,Ωb,Ωb,Ωb⟩
def okB(n a b c:Int):Prop:=(1≤c∧c≤1000)∧(0≤a∧a<n)∧b = -1
instance(n a b c:Int):Decidable (okB n a b c):=inferInstanceAs (Decidable (_∧_∧_))
end Go.Tn
end
section
namespace Go.Tn
open Go.Proofs
open Go.Sx
theorem TYQ:True∧qk Tryz.prog 32=some ⟨false,1,some [.slice none 0 0],.slice 2 1⟩:=⟨trivial,Ωb⟩
theorem qmp(m:Nat)(u:Nat→Int)(g:Nat)(caps:List SV)(ho:OldL caps)(b:Nat→Bool)(hm:m≤1000000)(hg:∀i,i<m→qb Tryz.prog g (.val (.int .i64 (u i)) :: caps) (B (b i))):qb Tryz.prog 304 [ints m u,.fn (.func g) [] caps] (I (kQ b 0 m)):=by
 refine qc Tryz.func304 rfl Ωb follows Ωb _ _ (by rw[Tryz.ntmps304];simp) Ω8 ?_
 conv=>arg 4;unfold ints
 (simp -dsimp only[↓RP,RQ,xa0,reduceIte,reduceCtorEq,xa1,xa2,xa3,xa4,TYQ,TYP,TY,Tryz.results304]);refine qj (fun i=>i≤m∧kQ b 0 m=kQ b i (m - i)) (fun i=>⟨[(0,.arr false false m 1 (fun i _=>.val (.int .i64 (u i)))),(1,.fn (.func g) [] caps),(7,.val (.int .i64 m)),(8,.val (.int .i64 i))],[],0⟩) (fun i=>m - i) 0 ⟨xb6 _,rfl⟩ (weak [] [] ?_ ?_ ?_) fun i hi=>?_
 ·(simp -dsimp only[↓RP,RQ,xa0,reduceIte,reduceCtorEq,xa1,xa2,xa3,xa4,QV]);all_goals (try simp[wkL_refl caps ho,QV])
 iterate 2 focus(simp -dsimp only[↓RP,RQ,xa0,reduceIte,reduceCtorEq,xa1,xa2,xa3,xa4,QV])
 obtain⟨hi,he⟩:=hi;have e1:∀k,m - i=k+1→kQ b i (m - i)=if b i=true then(i:Int)else kQ b (i+1) k:=fun k hk=>by rw[hk];rfl
 (repeat' (first|refine sD ?_ ?_<;>intro _|refine aA ?_|(simp -dsimp only[↓RP,RQ,xa0,reduceIte,reduceCtorEq,xa1,xa2,xa3,xa4,QT,TYQ,TYP,QN])))
 ·rename_i hlt
  have hlt:i<m:=by omega
  have e2:=e1 (m -(i+1)) Ω;refine qi (hg i hlt) (by(simp -dsimp only[↓RP,RQ,xa0,reduceIte,reduceCtorEq,xa1,xa2,xa3,xa4,QV,I]);all_goals (try simp[subL_refl caps ho,QV])) ΩC ?_;(repeat' (first|refine sD ?_ ?_<;>intro _|refine aA ?_|(simp -dsimp only[↓RP,RQ,xa0,reduceIte,reduceCtorEq,xa1,xa2,xa3,xa4,QT,TYQ,TYP,QN])))
  ·rename_i h
   refine gv ?_;rw[he,e2,if_pos h]
  ·rename_i h1
   refine⟨i+1,⟨Ω,?_⟩,Ω,weak [] [] ?_ ?_ ?_⟩
   ·rw[he,e2,if_neg (by simp[h1])]
   ·(simp -dsimp only[↓RP,RQ,xa0,reduceIte,reduceCtorEq,xa1,xa2,xa3,xa4,QV]);all_goals (try simp[wkL_refl caps ho,QV])
   iterate 2 focus(simp -dsimp only[↓RP,RQ,xa0,reduceIte,reduceCtorEq,xa1,xa2,xa3,xa4,QV])
 ·rename_i hlt
  refine gv ?_;have:m - i=0:=by omega
  rw[he,this];rfl
theorem qnT(m:Nat)(u:Nat→Int)(g:Nat)(caps:List SV)(ho:OldL caps)(b:Nat→Bool)(hm:m≤1000000)(hg:∀i,i<m→qb Tryz.prog g (.val (.int .i64 (u i)) :: caps) (B (b i))):qb Tryz.prog 202 [ints m u,.fn (.func g) [] caps] (B (decide (Ji b m))):=by
 refine qc Tryz.func202 rfl Ωb follows Ωb _ _ (by rw[Tryz.ntmps202];simp) Ω8 ?_;(simp -dsimp only[↓RP,RQ,xa0,reduceIte,reduceCtorEq,xa1,xa2,xa3,xa4,TY,QV,QN]);refine qi (qmp m u g caps ho b hm hg) (by(simp -dsimp only[↓RP,RQ,xa0,reduceIte,reduceCtorEq,xa1,xa2,xa3,xa4,QV,ints]);all_goals (try simp[subL_refl caps ho,QV])) (by(simp -dsimp only[↓RP,RQ,xa0,reduceIte,reduceCtorEq,xa1,xa2,xa3,xa4,I])) ?_;(repeat' (first|refine sD ?_ ?_<;>intro _|refine aA ?_|simp -dsimp only[↓RP,RQ,xa0,reduceIte,reduceCtorEq,xa1,xa2,xa3,xa4,I,B,QV,TYQ,TYP,TY,QN]));refine Qd ?_;rw[Bool.eq_iff_iff];simp[←Gq]
end Go.Tn
end
section
namespace Go.Tn
open Go.Proofs
open Go.Sx
end Go.Tn
end
section
namespace Go.Tn
open Go.Proofs
open Go.Sx
theorem c19(k:Nat)(p:Nat→Int)(v:Int)(hk:k≤1000000):qb Tryz.prog 19 [ints k p,I v] (B (decide (Ji (vAt p v) k))):=by
 refine qc Tryz.func19 rfl Ωb follows Ωb _ _ (by rw[Tryz.ntmps19];simp) Ωy ?_;have NB:True:=trivial;have hr0:True:=trivial;unfold ints I;(repeat' (first|refine sD ?_ ?_<;>intro _|refine aAa ?_|(simp -dsimp only[↓RP,RQ,xa0,reduceIte,reduceCtorEq,xa1,xa2,xa3,xa4,TYQ,TYP,NB,QS,hr0,QT,QN])))
 all_goals try exact Ωa
 refine qj (fun(z:Nat×Nat)=>z.1≤k∧∀j,j<z.1→¬p j=v) (fun z=>⟨[(0,.arr false false k 1 (fun i _=>.val (.int .i64 (p i)))),(1,.val (.int .i64 v)),(5,.val (.int .i64 (z.1:Nat)))],[],z.2⟩) (fun z=>k - z.1) (0,20) ⟨xb6 _,fun j hj=>by omega⟩ (qf Ωf Ωg (SubHp.refl _)) fun z hz=>?_;obtain⟨i,nid⟩:=z;obtain⟨hi,hn⟩:=hz;dsimp only at hi hn ⊢;by_cases hik:i<k
 ·have hlt:=decide_eq_true (Ω:((i:Nat):Int)<(k:Nat))
  by_cases e:p i=v
  ·have de:=decide_eq_true e
   (repeat' (first|refine sD ?_ ?_<;>intro _|refine aAa ?_|(simp -dsimp only[↓RP,RQ,xa0,reduceIte,reduceCtorEq,xa1,xa2,xa3,xa4,hlt,de,TYQ,TYP,NB,QS,hr0,QT,QN])))
   all_goals try exact Ωa
   refine Qd ?_;rw[eq_comm,decide_eq_true_eq];exact⟨i,hik,by simp[vAt,e]⟩
  ·have de:=decide_eq_false e
   (repeat' (first|refine sD ?_ ?_<;>intro _|refine aAa ?_|(simp -dsimp only[↓RP,RQ,xa0,reduceIte,reduceCtorEq,xa1,xa2,xa3,xa4,hlt,de,TYQ,TYP,NB,QS,hr0,QT,QN])))
   all_goals try exact Ωa
   refine⟨(i+1,_),⟨hik,fun j hj=>?hq⟩,Ωf,qf (xa5 _) Ωg (SubHp.refl _)⟩
   case hq=>
    by_cases e2:j=i
    ·rw[e2];exact e
    ·exact hn j Ω
 ·obtain rfl:i=k:=by omega
  have hlt:=decide_eq_false (Ω:¬((i:Nat):Int)<(i:Nat));(repeat' (first|refine sD ?_ ?_<;>intro _|refine aAa ?_|(simp -dsimp only[↓RP,RQ,xa0,reduceIte,reduceCtorEq,xa1,xa2,xa3,xa4,hlt,TYQ,TYP,NB,QS,hr0,QT,QN])))
  all_goals try exact Ωa
  refine Qd ?_;rw[eq_comm,decide_eq_false_iff_not];rintro⟨j,h1,h2⟩;exact hn j h1 (by have:=of_decide_eq_true h2;omega)
theorem qoJ(m:Nat)(u:Nat→Int)(v:Nat)(hv:v<m):qb Tryz.prog 165 [hsv m u,I v] (B true):=by
 refine qc Tryz.func165 rfl Ωb follows Ωb _ _ (by rw[Tryz.ntmps165];simp) Ωy ?_;have NB:True:=trivial;have hr0:True:=trivial;have d0:=decide_eq_true (Ω:(0:Int)≤(v:Nat));have d1:=decide_eq_true (Ω:((v:Nat):Int)<(m:Nat));unfold hsv I;(repeat' (first|refine sD ?_ ?_<;>intro _|refine aAa ?_|(simp -dsimp only[↓RP,RQ,xa0,reduceIte,reduceCtorEq,xa1,xa2,xa3,xa4,d0,d1,TYQ,TYP,NB,QS,hr0,QT,QN])))
 all_goals try exact Ωa
theorem c74(m:Nat)(u:Nat→Int)(k:Nat)(c:Nat→Nat)(hk:k≤1000)(hc:∀i,i<k→c i<m):qb Tryz.prog 74 [hsv m u,ints k (fun i=>(c i:Nat))] (I 0):=by
 refine qc Tryz.func74 rfl Ωb follows Ωb _ _ (by rw[Tryz.ntmps74];simp) Ωy ?_;have NB:True:=trivial;have hr0:True:=trivial;have d0:=decide_eq_false (Ω:¬(1000:Int)<(k:Nat));unfold hsv ints I;(repeat' (first|refine sD ?_ ?_<;>intro _|refine aAa ?_|(simp -dsimp only[↓RP,RQ,xa0,reduceIte,reduceCtorEq,xa1,xa2,xa3,xa4,d0,TYQ,TYP,NB,QS,hr0,QT,QN])))
 all_goals try exact Ωa
 refine qj (fun(z:Nat×Nat)=>z.1≤k∧0<z.2) (fun z=>⟨[(2,.ptr 0 0),(1,.arr false false k 1 (fun i _=>.val (.int .i64 (c i:Nat)))),(5,.val (.int .i64 (z.1:Nat)))],[(0,.cells 24 [.arr false false m 1 (fun i _=>.val (.int .i64 (u i)))])],z.2⟩) (fun z=>k - z.1) (0,20) ⟨xb6 _,Ωf⟩ (qf Ωf Ωg (SubHp.refl _)) fun z hz=>?_;obtain⟨i,nid⟩:=z;obtain⟨hi,hn⟩:=hz;dsimp only at hi hn ⊢;clear NB;have NB:=nmA hn;by_cases hik:i<k
 ·have hlt:=decide_eq_true (Ω:((i:Nat):Int)<(k:Nat))
  have h165:=qoJ m u (c i) (hc i hik);(repeat' (first|refine sD ?_ ?_<;>intro _|refine aAa ?_|(simp -dsimp only[↓RP,RQ,xa0,reduceIte,reduceCtorEq,xa1,xa2,xa3,xa4,hlt,TYQ,TYP,NB,QS,hr0,QT,QN])))
  all_goals try exact Ωa
  refine qi (h165) Ωm Ωc ?_;(repeat' (first|refine sD ?_ ?_<;>intro _|refine aAa ?_|(simp -dsimp only[↓RP,RQ,xa0,reduceIte,reduceCtorEq,xa1,xa2,xa3,xa4,QT,TYQ,TYP,NB,QS,hr0,QN])))
  all_goals try exact Ωa
  refine⟨(i+1,_),⟨hik,?hq⟩,Ωf,qf (xa5 _) Ωg (SubHp.refl _)⟩
  case hq=>dsimp only;omega
 ·obtain rfl:i=k:=by omega
  have hlt:=decide_eq_false (Ω:¬((i:Nat):Int)<(i:Nat));(repeat' (first|refine sD ?_ ?_<;>intro _|refine aAa ?_|(simp -dsimp only[↓RP,RQ,xa0,reduceIte,reduceCtorEq,xa1,xa2,xa3,xa4,hlt,TYQ,TYP,NB,QS,hr0,QT,QN])))
  all_goals try exact Ωa
end Go.Tn
end
section
namespace Go.Tn
open Go.Proofs
open Go.Sx
def snB(c:Nat→Nat)(k:Nat)(w:Nat):Nat→Bool
 |0=>false
 |i+1=>decide (c (i % k)=w) || snB c k w i
theorem J4(c:Nat→Nat)(k w i:Nat):snB c k w (i+1)=(decide (c (i % k)=w) || snB c k w i):=rfl
structure Wk4(m:Nat)(u:Nat→Int)(k:Nat)(c:Nat→Nat)(S:Nat→Nat→Int):Prop where
 k1:1≤k
 k2:k≤1000
 win:∀i,i<k→c i<m
 fit:∀t w,w<m→0≤S t w∧S t w+1≤u w
 step:∀t w,w<m→S (t+1) w=if c (t % k)=w then 0 else S t w+1
 back:∀w,w<m→S k w=S 0 w
def tuF(c:Nat→Nat)(k:Nat)(S:Nat→Nat→Int)(w i:Nat):Int:=if snB c k w i=true then S i w else i
theorem Wk4.seen{m:Nat}{u:Nat→Int}{k:Nat}{c:Nat→Nat}{S:Nat→Nat→Int}(h:Wk4 m u k c S){w:Nat}(hw:w<m):snB c k w (2*k)=true:=by
 cases hs:snB c k w (2*k)with
 |true=>rfl
 |false=>
  exfalso
  have key:∀i,i≤2*k→snB c k w i=false:=by
   have down:∀d i,i+d=2*k→snB c k w i=false:=fun d=>by
    induction d with
    |zero=>intro i hi;rw[show i=2*k by omega];exact hs
    |succ d ih=>
     intro i hi;have h1:=ih (i+1) Ω;rw[J4,Bool.or_eq_false_iff]at h1;exact h1.2
   exact fun i hi=>down (2*k - i) i Ω
  have up:∀i,i≤k→S i w=S 0 w+i:=fun i=>by
   induction i with
   |zero=>intro _;omega
   |succ i ih=>
    intro hi;have h1:=key (i+1) Ω;rw[J4,Bool.or_eq_false_iff]at h1;rw[h.step i w hw,if_neg (of_decide_eq_false h1.1),ih Ω];omega
  have h1:=up k (xa5 _);have h2:=h.back w hw;have h3:=h.k1;omega
theorem c14(m:Nat)(u:Nat→Int)(hk:ckH m u=0)(k:Nat)(c:Nat→Nat)(S:Nat→Nat→Int)(hw:Wk4 m u k c S):qb Tryz.prog 14 [hsv m u,ints k (fun i=>(c i:Nat))] (I 0):=by
 refine qc Tryz.func14 rfl Ωb follows Ωb _ _ (by rw[Tryz.ntmps14];simp) Ωy ?_;have NB:True:=trivial;have hr0:True:=trivial;obtain⟨hm1,hm5,hu,_⟩:=vb hk;have hk1:=hw.k1;have hk2:=hw.k2;have h66:=c66 m u Ω;rw[hk]at h66;have h74:=c74 m u k c hk2 hw.win;have d0:=decide_eq_false (Ω:¬((k:Nat):Int)<1);unfold hsv ints I at *;(repeat' (first|refine sD ?_ ?_<;>intro _|refine aAa ?_|(simp -dsimp only[↓RP,RQ,xa0,reduceIte,reduceCtorEq,xa1,xa2,xa3,xa4,d0,TYQ,TYP,NB,QS,hr0,QT,QN])))
 all_goals try exact Ωa
 refine qi (h66) Ωm Ωc ?_;(repeat' (first|refine sD ?_ ?_<;>intro _|refine aAa ?_|(simp -dsimp only[↓RP,RQ,xa0,reduceIte,reduceCtorEq,xa1,xa2,xa3,xa4,d0,TYQ,TYP,NB,QS,hr0,QT,QN])))
 all_goals try exact Ωa
 refine qi (h74) Ωm Ωc ?_;(repeat' (first|refine sD ?_ ?_<;>intro _|refine aAa ?_|(simp -dsimp only[↓RP,RQ,xa0,reduceIte,reduceCtorEq,xa1,xa2,xa3,xa4,d0,TYQ,TYP,NB,QS,hr0,QT,QN])))
 all_goals try exact Ωa
 refine qj (fun(z:Nat×Nat)=>z.1≤m∧0<z.2) (fun z=>⟨[(2,.ptr 0 0),(1,.arr false false k 1 (fun i _=>.val (.int .i64 (c i:Nat)))),(5,.val (.int .i64 (z.1:Nat)))],[(0,.cells 24 [.arr false false m 1 (fun i _=>.val (.int .i64 (u i)))])],z.2⟩) (fun z=>m - z.1) (0,100) ⟨xb6 _,Ωf⟩ (qf Ωf Ωg (SubHp.refl _)) fun z hz=>?_;obtain⟨w,nid⟩:=z;obtain⟨hwm,hn⟩:=hz;dsimp only at hwm hn ⊢;clear NB;have NB:=nmA hn;by_cases hlw:w<m
 ·have hlt:=decide_eq_true (Ω:((w:Nat):Int)<(m:Nat))
  (repeat' (first|refine sD ?_ ?_<;>intro _|refine aAa ?_|(simp -dsimp only[↓RP,RQ,xa0,reduceIte,reduceCtorEq,xa1,xa2,xa3,xa4,hlt,TYQ,TYP,NB,QS,hr0,QT,QN])))
  all_goals try exact Ωa
  refine qj (fun(z:Nat×Nat)=>z.1≤2*k∧0<z.2) (fun z=>⟨[(2,.ptr 0 0),(1,.arr false false k 1 (fun i _=>.val (.int .i64 (c i:Nat)))),(5,.val (.int .i64 (w:Nat))),(6,.val (.int .i64 (tuF c k S w z.1))),(7,.val (.bool (snB c k w z.1))),(8,.val (.int .i64 (z.1:Nat)))],[(0,.cells 24 [.arr false false m 1 (fun i _=>.val (.int .i64 (u i)))])],z.2⟩) (fun z=>2*k - z.1) (0,nid+100) ⟨xb6 _,Ωf⟩ (qf Ωf (by simp[qM,Go.Sx.look,tuF,snB]) (SubHp.refl _)) fun z hz=>?_;obtain⟨i,nid2⟩:=z;obtain⟨hi,hn2⟩:=hz;dsimp only at hi hn2 ⊢;clear NB;have NB:=nmA hn2;have hmul:(2:Int)*(k:Nat)=((2*k:Nat):Int):=by omega
  by_cases hik:i<2*k
  ·have hlt2:=decide_eq_true (Ω:((i:Nat):Int)<((2*k:Nat):Int))
   have hmod:Int.tmod (i:Nat) (k:Nat)=((i % k:Nat):Int):=by rw[Int.tmod_eq_emod_of_nonneg Ω];rfl
   have hmk:i % k<k:=Nat.mod_lt _ Ω;have hfit:=hw.fit i w hlw;have hfit2:=hw.fit (i+1) w hlw;have hst:=hw.step i w hlw;have huw:=hu w hlw;have htb:0≤tuF c k S w i∧tuF c k S w i≤100000:=by unfold tuF;split<;>omega
   by_cases e:c (i % k)=w
   ·have de:=decide_eq_true (show((c (i % k):Nat):Int)=(w:Nat) by omega)
    have e1:tuF c k S w (i+1)=0:=by unfold tuF;rw[J4,decide_eq_true e,Bool.true_or,if_pos rfl,hst,if_pos e]
    have e2:snB c k w (i+1)=true:=by rw[J4,decide_eq_true e,Bool.true_or]
    cases hsn:snB c k w i with
    |false=>
     (repeat' (first|refine sD ?_ ?_<;>intro _|refine aAa ?_|(simp -dsimp only[↓RP,RQ,xa0,reduceIte,reduceCtorEq,xa1,xa2,xa3,xa4,hlt2,hmul,hmod,de,TYQ,TYP,NB,QS,hr0,QT,QN])))
     all_goals try exact Ωa
     refine⟨(i+1,_),⟨hik,?hq1⟩,Ωf,qf (xa5 _) (by simp[qM,Go.Sx.look,e1,e2]) (SubHp.refl _)⟩
     case hq1=>dsimp only;omega
    |true=>
     have e3:tuF c k S w i=S i w:=by unfold tuF;rw[hsn,if_pos rfl]
     have dg:=decide_eq_false (Ω:¬u w<S i w+1);(repeat' (first|refine sD ?_ ?_<;>intro _|refine aAa ?_|(simp -dsimp only[↓RP,RQ,xa0,reduceIte,reduceCtorEq,xa1,xa2,xa3,xa4,hlt2,hmul,hmod,de,e3,dg,TYQ,TYP,NB,QS,hr0,QT,QN])))
     all_goals try exact Ωa
     refine⟨(i+1,_),⟨hik,?hq2⟩,Ωf,qf (xa5 _) (by simp[qM,Go.Sx.look,e1,e2]) (SubHp.refl _)⟩
     case hq2=>dsimp only;omega
   ·have de:=decide_eq_false (show ¬((c (i % k):Nat):Int)=(w:Nat) by omega)
    have e1:tuF c k S w (i+1)=tuF c k S w i+1:=by
     unfold tuF;rw[J4,decide_eq_false e,xf4,hst,if_neg e];split<;>omega
    have e2:snB c k w (i+1)=snB c k w i:=by rw[J4,decide_eq_false e,xf4]
    (repeat' (first|refine sD ?_ ?_<;>intro _|refine aAa ?_|(simp -dsimp only[↓RP,RQ,xa0,reduceIte,reduceCtorEq,xa1,xa2,xa3,xa4,hlt2,hmul,hmod,de,TYQ,TYP,NB,QS,hr0,QT,QN])))
    all_goals try exact Ωa
    refine⟨(i+1,_),⟨hik,?hq3⟩,Ωf,qf (xa5 _) (by simp[qM,Go.Sx.look,e1,e2]) (SubHp.refl _)⟩
    case hq3=>dsimp only;omega
  ·obtain rfl:i=2*k:=by omega
   have hlt2:=decide_eq_false (Ω:¬((2*k:Nat):Int)<((2*k:Nat):Int));rw[hw.seen hlw];(repeat' (first|refine sD ?_ ?_<;>intro _|refine aAa ?_|(simp -dsimp only[↓RP,RQ,xa0,reduceIte,reduceCtorEq,xa1,xa2,xa3,xa4,hmul,hlt2,TYQ,TYP,NB,QS,hr0,QT,QN])))
   all_goals try exact Ωa
   refine⟨(w+1,_),⟨hlw,?hq4⟩,Ωf,qf (xa5 _) Ωg (SubHp.refl _)⟩
   case hq4=>dsimp only;omega
 ·obtain rfl:w=m:=by omega
  have hlt:=decide_eq_false (Ω:¬((w:Nat):Int)<(w:Nat));(repeat' (first|refine sD ?_ ?_<;>intro _|refine aAa ?_|(simp -dsimp only[↓RP,RQ,xa0,reduceIte,reduceCtorEq,xa1,xa2,xa3,xa4,hlt,TYQ,TYP,NB,QS,hr0,QT,QN])))
  all_goals try exact Ωa
end Go.Tn
end
section
namespace Go.Tn
open Go.Sx
open Go.He (lst qhu)
def dgF(u:Nat→Int):Nat→Int→Nat→Int
 |0,_=>fun _=>0
 |k+1,n=>upN (dgF u k (n /(u k+1))) k (n %(u k+1))
theorem ZG{u s t:Nat→Int}:∀k,(∀i,i<k→s i=t i)→ixF u s k=ixF u t k
 |0,_=>rfl
 |k+1,h=>by rw[wg,wg,ZG k fun i hi=>h i Ω,h k Ω]
theorem qcT{u:Nat→Int}:∀k,(∀i,i<k→1≤u i)→∀n,0≤n→n<prd u k→ixF u (dgF u k n) k=n∧∀i,i<k→0≤dgF u k n i∧dgF u k n i≤u i
 |0,_,n,h0,h1=>⟨by simp only[prd]at h1;simp only[ixF];omega,fun i hi=>by omega⟩
 |k+1,hu,n,h0,h1=>by
  have huk:=hu k Ω;have hq0:0≤n /(u k+1):=Int.ediv_nonneg h0 Ω;have hq1:n /(u k+1)<prd u k:=by
   refine Int.ediv_lt_of_lt_mul Ω ?_;simp only[prd]at h1;exact h1
  have hr0:=Int.emod_nonneg n (Ω:u k+1≠0);have hr1:=Int.emod_lt_of_pos n (Ω:0<u k+1);obtain⟨g1,g2⟩:=qcT k (fun i hi=>hu i Ω) (n /(u k+1)) hq0 hq1;have ha:∀i,i<k→dgF u (k+1) n i=dgF u k (n /(u k+1)) i:=fun i hi=>by
   simp only[dgF,upN];rw[if_neg Ω]
  have hb:dgF u (k+1) n k=n %(u k+1):=by simp only[dgF,upN];rw[if_pos trivial]
  refine⟨?_,fun i hi=>?_⟩
  ·rw[wg,ZG k ha,g1,hb]
   have:=Int.mul_ediv_add_emod n (u k+1);rw[Int.mul_comm]at this;exact this
  ·by_cases e:i=k
   ·subst e;rw[hb];omega
   ·rw[ha i Ω];exact g2 i Ω
theorem qhI{u s:Nat→Int}:∀k,(∀i,i<k→0≤s i∧s i≤u i)→∀i,i<k→dgF u k (ixF u s k) i=s i
 |0,_,i,hi=>by omega
 |k+1,h,i,hi=>by
  have hk:=h k Ω;rw[wg];have e1:(ixF u s k*(u k+1)+s k) /(u k+1)=ixF u s k:=by
   rw[Int.add_comm,Int.add_mul_ediv_right _ _ Ω,Int.ediv_eq_zero_of_lt hk.1 Ω];omega
  have e2:(ixF u s k*(u k+1)+s k) %(u k+1)=s k:=by
   rw[Int.add_comm,Int.add_mul_emod_self_right,Int.emod_eq_of_lt hk.1 Ω]
  simp only[dgF,upN];by_cases e:i=k
  ·subst e;rw[if_pos rfl,e2]
  ·rw[if_neg e,e1];exact qhI k (fun i hi=>h i Ω) i Ω
def qbp(u:Nat→Int)(m:Nat)(s:Nat→Int):Prop:=∀w,w<m→s w+1≤u w
instance(u:Nat→Int)(m:Nat)(s:Nat→Int):Decidable (qbp u m s):=by unfold qbp;infer_instance
def nxL(u:Nat→Int)(m n:Nat):List Nat:=if qbp u m (dgF u m n)then(List.range m).map (fun v=>(ixF u (upN (fun w=>dgF u m n w+1) v 0) m).toNat)else []
theorem qkr{u:Nat→Int}{m n w x:Nat}(h:(nxL u m n)[w]? = some x):qbp u m (dgF u m n)∧w<m∧x=(ixF u (upN (fun w=>dgF u m n w+1) w 0) m).toNat:=by
 unfold nxL at h;split at h
 ·rename_i hc
  rw[List.getElem?_map]at h;by_cases hw:w<m
  ·rw[xe3 hw]at h
   simp only[xg1,Option.some.injEq]at h;exact⟨hc,hw,h.symm⟩
  ·rw[List.getElem?_eq_none (by rw[List.length_range];omega)]at h
   cases h
 ·cases h
theorem We(u:Nat→Int)(m n:Nat):(nxL u m n).length≤m:=by
 unfold nxL;split
 ·rw[xe1,List.length_range];exact xa5 _
 ·exact xb6 _
theorem qmq{u:Nat→Int}{m n v:Nat}(hu:∀i,i<m→1≤u i)(hn:(n:Int)<prd u m)(hc:qbp u m (dgF u m n)):∀i,i<m→0≤upN (fun w=>dgF u m n w+1) v 0 i∧upN (fun w=>dgF u m n w+1) v 0 i≤u i:=fun i hi=>by
 have h1:=(qcT m hu n Ω hn).2 i hi;have h2:=hc i hi;have h3:=hu i hi;unfold upN;dsimp only;split<;>omega
theorem qhJ{u:Nat→Int}{m n w x:Nat}(hu:∀i,i<m→1≤u i)(hn:(n:Int)<prd u m)(h:(nxL u m n)[w]? = some x):w<m∧(x:Int)<prd u m∧qbp u m (dgF u m n)∧∀i,i<m→dgF u m x i=if w=i then 0 else dgF u m n i+1:=by
 obtain⟨h1,h2,h3⟩:=qkr h;have hf:=qmq (v:=w) hu hn h1;have hb:=vd hf (xa5 m);have hx:(x:Int)=ixF u (upN (fun w=>dgF u m n w+1) w 0) m:=by rw[h3];omega
 refine⟨h2,Ω,h1,fun i hi=>?_⟩;rw[hx,qhI m hf i hi];unfold upN;by_cases e:i=w
 ·rw[if_pos e,if_pos e.symm]
 ·rw[if_neg e,if_neg (Ne.symm e)]
theorem Pth.seq{L:Nat→List Nat}:∀{l:List Nat}{a b:Nat},Pth L a l b→∃x:Nat→Nat,x 0=a∧x l.length=b∧∀t,t<l.length→(L (x t))[l.getD t 0]? = some (x (t+1))
 |[],a,b,h=>⟨fun _=>a,rfl,h,fun t ht=>by cases ht⟩
 |w :: l,a,b,⟨y,h1,h2⟩=>by
  obtain⟨x,g1,g2,g3⟩:=h2.seq;refine⟨fun t=>match t with|0=>a|t+1=>x t,rfl,g2,fun t ht=>?_⟩;cases t with
  |zero=>show(L a)[w]? = some (x 0);rw[g1];exact h1
  |succ t=>exact g3 t (by simpa using ht)
theorem YH{t k:Nat}(hk:1≤k):(t+1) % k=if t % k+1=k then 0 else t % k+1:=by
 have h1:t % k<k:=Nat.mod_lt _ Ω;have h2:=Nat.div_add_mod t k;split
 ·rename_i e
  have:t+1=k*(t / k+1):=by rw[Nat.mul_add,Nat.mul_one];omega
  rw[this,Nat.mul_mod_right]
 ·rename_i e
  have:t+1=(t % k+1)+k*(t / k):=by omega
  rw[this,Nat.add_mul_mod_self_left,Nat.mod_eq_of_lt Ω]
theorem Rnd.walk{u:Nat→Int}{m N:Nat}{best:List Nat}(hu:∀i,i<m→1≤u i∧u i≤12)(hN:prd u m=(N:Nat))(hN2:N≤1000)(h:Rnd (nxL u m) N best):∃S,Wk4 m u best.length (fun t=>best.getD t 0) S:=by
 obtain⟨h1,h2,s,hs,hp⟩:=h;obtain⟨x,g1,g2,g3⟩:=hp.seq;have hu1:∀i,i<m→1≤u i:=fun i hi=>(hu i hi).1;have hk:1≤best.length:=List.length_pos_iff.2 h1;have hx:∀t,t≤best.length→((x t:Nat):Int)<prd u m:=fun t=>by
  induction t with
  |zero=>intro _;rw[g1];omega
  |succ t ih=>exact fun ht=>(qhJ hu1 (ih Ω) (g3 t Ω)).2.1
 have hper:dgF u m (x best.length)=dgF u m (x 0):=by rw[g1,g2]
 have hst:∀t,t<best.length→best.getD t 0<m∧qbp u m (dgF u m (x t))∧∀i,i<m→dgF u m (x (t+1)) i=if best.getD t 0=i then 0 else dgF u m (x t) i+1:=fun t ht=>by
  obtain⟨a,_,b,c⟩:=qhJ hu1 (hx t Ω) (g3 t ht);exact⟨a,b,c⟩
 refine⟨fun t w=>dgF u m (x (t % best.length)) w,hk,Ω,fun i hi=>(hst i hi).1,fun t w hw=>?_,fun t w hw=>?_,fun w hw=>?_⟩
 ·have ht:t % best.length<best.length:=Nat.mod_lt _ Ω
  have q1:=((qcT m hu1 (x (t % best.length)) Ω (hx _ Ω)).2 w hw).1;have q2:=(hst _ ht).2.1 w hw;exact⟨q1,q2⟩
 ·have ht:t % best.length<best.length:=Nat.mod_lt _ Ω
  have q:=(hst _ ht).2.2 w hw;rw[←q];rw[YH hk];by_cases e:t % best.length+1=best.length
  ·rw[if_pos e,e,hper]
  ·rw[if_neg e]
 ·rw[Nat.mod_self,Nat.zero_mod]
theorem GD:∀n,(lst (fun _=>true) n).length=n
 |0=>rfl
 |n+1=>by simp only[lst,if_true];rw[xc8,GD n];rfl
theorem YI{L:Nat→List Nat}{N:Nat}{G:Nat→Prop}(hL:∀i x,i<N→x∈L i→x<N)(hG:∀i,i<N→G i→∃x,x∈L i∧G x){a:Nat}(ha:a<N)(h0:G a):∃s l,0≤s∧s<N∧l≠[]∧Pth L s l s:=by
 have hch:∀i,∃w x,i<N→G i→(L i)[w]? = some x∧G x∧x<N:=fun i=>by
  by_cases hi:i<N∧G i
  ·obtain⟨x,h1,h2⟩:=hG i hi.1 hi.2
   obtain⟨w,hw,hx⟩:=List.getElem_of_mem h1;exact⟨w,x,fun _ _=>⟨by rw[xc7 hw,hx],h2,hL i x hi.1 h1⟩⟩
  ·exact⟨0,0,fun h1 h2=>absurd ⟨h1,h2⟩ hi⟩
 let wf:Nat→Nat:=fun i=>(hch i).choose
 let gf:Nat→Nat:=fun i=>(hch i).choose_spec.choose
 have hgf:∀i,i<N→G i→(L i)[wf i]? = some (gf i)∧G (gf i)∧gf i<N:=fun i=>(hch i).choose_spec.choose_spec
 let it:Nat→Nat:=fun t=>Nat.rec a (fun _ y=>gf y) t
 have hit:∀t,it t<N∧G (it t):=fun t=>by
  induction t with
  |zero=>exact⟨ha,h0⟩
  |succ t ih=>have:=hgf _ ih.1 ih.2;exact⟨this.2.2,this.2.1⟩
 have hpt:∀t d,∃l,l.length=d∧Pth L (it t) l (it (t+d)):=fun t d=>by
  induction d with
  |zero=>exact⟨[],rfl,rfl⟩
  |succ d ih=>
   obtain⟨l,q1,q2⟩:=ih;have:=hit (t+d);refine⟨l++[wf (it (t+d))],by simp[q1],q2.app ⟨it (t+d+1),(hgf _ this.1 this.2).1,rfl⟩⟩
 by_cases hinj:∀i j,i<N+1→j<N+1→it i=it j→i=j
 ·exfalso
  have:=qhu (p:=fun _=>true) (q:=fun _=>true) (T:=N+1) (U:=N) (φ:=it) (fun t ht _=>⟨(hit t).1,rfl⟩) (fun i j hi hj _ _ e=>hinj i j hi hj e);rw[GD,GD]at this;omega
 ·have:∃i j,i<j∧it i=it j:=by
   refine xf9 fun hno=>hinj fun i j hi hj e=>?_;refine xf9 fun hne=>?_;rcases Nat.lt_or_gt_of_ne hne with h|h
   ·exact hno ⟨i,j,h,e⟩
   ·exact hno ⟨j,i,h,e.symm⟩
  obtain⟨i,j,hij,e⟩:=this;obtain⟨l,q1,q2⟩:=hpt i (j - i);rw[show i+(j - i)=j by omega,←e]at q2;refine⟨it i,l,xb6 _,(hit i).1,fun hn=>?_,q2⟩;rw[hn]at q1;simp at q1;omega
end Go.Tn
end
section
namespace Go.Tn
open Go.Proofs
open Go.Sx
theorem qoK(x:Int):qb Tryz.prog 160 [I x] (B true):=by
 refine qc Tryz.func160 rfl Ωb follows Ωb _ _ (by rw[Tryz.ntmps160];simp) ΩA ?_;have NB:True:=trivial;have hr0:True:=trivial;unfold I;(repeat' (first|refine sD ?_ ?_<;>intro _|refine aAh ?_|(simp -dsimp only[↓RP,RQ,xa0,reduceIte,reduceCtorEq,xa1,xa2,xa3,xa4,TYQ,TYP,NB,QS,hr0,QT,QN])))
 all_goals try exact Ωa
def qH(u:Nat→Int)(m:Nat)(n:Int)(k:Nat):Nat→Int:=fun i=>if i<k∨m≤i then 0 else dgF u m n i
theorem qoL(m:Nat)(u:Nat→Int)(hk:ckH m u=0)(n:Nat)(hn:n≤1000000):qb Tryz.prog 159 [.ref false 1 (fun _=>.arr false false m 1 (fun i _=>.val (.int .i64 (u i)))),I n] (stS (qH u m n 0)):=by
 refine qc Tryz.func159 rfl Ωb follows Ωb _ _ (by rw[Tryz.ntmps159];simp) ΩA ?_;have NB:True:=trivial;have hr0:True:=trivial;obtain⟨hm1,hm5,hu,_⟩:=vb hk;unfold I stS;(repeat' (first|refine sD ?_ ?_<;>intro _|refine aAh ?_|(simp -dsimp only[↓RP,RQ,xa0,reduceIte,reduceCtorEq,xa1,xa2,xa3,xa4,stL,TYQ,TYP,NB,QS,hr0,qp,qo,qt,QT,QN])))
 all_goals try exact Ωa
 have e0:stL (qH u m n m)=stL (fun _=>0):=qcR fun i hi=>by unfold qH;rw[if_pos Ω]
 refine qj (fun(z:Nat×Int×Nat)=>z.1≤m∧0≤z.2.1∧z.2.1≤1000000∧∀i,i<z.1→dgF u z.1 z.2.1 i=dgF u m n i) (fun z=>⟨[(0,.ref false 1 (fun _=>.arr false false m 1 (fun i _=>.val (.int .i64 (u i))))),(1,.val (.int .i64 z.2.1)),(4,.ptr 0 0),(5,.ptr 1 0),(6,.val (.int .i64 (((z.1:Nat):Int) - 1)))],[(1,.cells 140 (stL (qH u m n z.1))),(0,.cells 140 (stL (fun _=>0)))],z.2.2⟩) (fun z=>z.1) (m,n,10) ⟨xa5 _,Ωf,Ωf,fun i hi=>rfl⟩ (qf Ωf Ωg (by dsimp only;rw[e0];exact SubHp.refl _)) fun z hz=>?_;obtain⟨k,n2,nid⟩:=z;obtain⟨hk1,h0,h1,hd⟩:=hz;dsimp only at hk1 h0 h1 hd ⊢;cases k with
 |zero=>
  have ec:((0:Nat):Int) - 1 = -1:=by omega
  have dl:=decide_eq_false (Ω:¬(0:Int)≤-1);(repeat' (first|refine sD ?_ ?_<;>intro _|refine aAh ?_|(simp -dsimp only[↓RP,RQ,xa0,reduceIte,reduceCtorEq,xa1,xa2,xa3,xa4,ec,dl,TYQ,TYP,NB,QS,hr0,qp,qo,qt,QT,QN])))
  all_goals try exact Ωa
  exact yw _ _
 |succ k=>
  have ec:((k+1:Nat):Int) - 1=(k:Nat):=by omega
  have dl:=decide_eq_true (Ω:(0:Int)≤(k:Nat));have huk:=hu k Ω;have em:Int.tmod n2 (u k+1)=n2 %(u k+1):=Int.tmod_eq_emod_of_nonneg h0;have eq:Int.tdiv n2 (u k+1)=n2 /(u k+1):=Int.tdiv_eq_ediv_of_nonneg h0;have hr0:0≤n2 %(u k+1):=Int.emod_nonneg _ Ω;have hr1:n2 %(u k+1)<u k+1:=Int.emod_lt_of_pos _ Ω;have hq0:0≤n2 /(u k+1):=Int.ediv_nonneg h0 Ω;have hq1:n2 /(u k+1)≤n2:=Int.ediv_le_self _ h0;have hset:=Ku (s:=qH u m n (k+1)) (Ω:k<5) (n2 %(u k+1));have hk5:k<5:=by omega
  have hnew:stL (upN (qH u m n (k+1)) k (n2 %(u k+1)))=stL (qH u m n k):=qcR fun i hi=>by
   unfold upN qH;by_cases e:i=k
   ·subst e
    rw[if_pos rfl,if_neg Ω,←hd i Ω];simp only[dgF,upN];rw[if_pos trivial]
   ·rw[if_neg e]
    by_cases c:i<k∨m≤i
    ·rw[if_pos Ω,if_pos c]
    ·rw[if_neg Ω,if_neg c]
  (repeat' (first|refine sD ?_ ?_<;>intro _|refine aAh ?_|(simp -dsimp only[↓RP,RQ,xa0,reduceIte,reduceCtorEq,xa1,xa2,xa3,xa4,ec,dl,em,eq,hset,hnew,TYQ,TYP,NB,QS,hr0,qp,qo,qt,QT,QN])))
  all_goals try exact Ωa
  refine⟨(k,n2 /(u k+1),_),⟨Ωf,Ωf,Ωf,fun i hi=>?hd2⟩,Ωf,qf (xa5 _) Ωg (SubHp.refl _)⟩
  case hd2=>
   dsimp only;rw[←hd i Ω];simp only[dgF,upN];rw[if_neg Ω]
end Go.Tn
end
section
namespace Go.Tn
def hF(len:Nat→Nat)(to:Nat→Nat→Nat):Nat→Nat→Int
 |0,_=>-1
 |k+1,i=>if ∀j,j<len i→0≤hF len to k (to i j)then mxF (hF len to k) (to i) (len i)else -1
theorem qbq(len:Nat→Nat)(to:Nat→Nat→Nat)(k i:Nat):hF len to (k+1) i=if ∀j,j<len i→0≤hF len to k (to i j)then mxF (hF len to k) (to i) (len i)else -1:=rfl
theorem J5(F:Nat→Int)(to:Nat→Nat):∀m,0≤mxF F to m
 |0=>Int.le_refl _
 |m+1=>by have:=J5 F to m;rw[Q0];omega
theorem qnU(len:Nat→Nat)(to:Nat→Nat→Nat):∀k i,-1≤hF len to k i
 |0,_=>Int.le_refl _
 |k+1,i=>by
  rw[qbq];split
  ·have:=J5 (hF len to k) (to i) (len i);omega
  ·exact Int.le_refl _
theorem GE{F:Nat→Int}{to:Nat→Nat}{X:Int}(hX:0≤X):∀m,(∀j,j<m→F (to j)<X)→mxF F to m≤X
 |0,_=>hX
 |m+1,h=>by
  have h1:=GE hX m fun j hj=>h j Ω;have h2:=h m Ω;rw[Q0];omega
theorem qlC(len:Nat→Nat)(to:Nat→Nat→Nat):∀k i,hF len to k i<k
 |0,_=>by show(-1:Int)<0;omega
 |k+1,i=>by
  rw[qbq];split
  ·have:=GE (F:=hF len to k) (to:=to i) (X:=k) Ω (len i) fun j hj=>qlC len to k (to i j)
   omega
  ·omega
theorem J6(len:Nat→Nat)(to:Nat→Nat→Nat):∀k i,0≤hF len to k i→hF len to (k+1) i=hF len to k i
 |0,_,h=>by simp[hF]at h
 |k+1,i,h=>by
  rw[qbq]at h;by_cases c:∀j,j<len i→0≤hF len to k (to i j)
  ·rw[qbq,qbq len to k i,if_pos c,if_pos fun j hj=>by rw[J6 len to k (to i j) (c j hj)];exact c j hj]
   exact JX fun j hj=>J6 len to k (to i j) (c j hj)
  ·rw[if_neg c]at h;omega
theorem hF_ok{len:Nat→Nat}{to:Nat→Nat→Nat}{k i:Nat}:0≤hF len to (k+1) i↔∀j,j<len i→0≤hF len to k (to i j):=by
 rw[qbq];constructor
 ·intro h
  split at h
  ·assumption
  ·omega
 ·intro h
  rw[if_pos h];exact J5 _ _ _
theorem wW{a b:Nat→Int}:∀n,(∀i,i<n→0≤a i→0≤b i)→cnt b n≤cnt a n
 |0,_=>xa5 _
 |n+1,h=>by
  have h1:=wW n fun i hi=>h i Ω;have h2:=h n Ω;simp only[cnt];split<;>split<;>omega
theorem qhK{a b:Nat→Int}:∀n,(∀i,i<n→0≤a i→0≤b i)→cnt b n=cnt a n→∀i,i<n→0≤b i→0≤a i
 |0,_,_,i,hi,_=>by omega
 |n+1,h,e,i,hi,hb=>by
  have h1:=wW n fun i hi=>h i Ω;have h2:=h n Ω;simp only[cnt]at e;by_cases c:i=n
  ·subst c
   refine xf9 fun hn=>?_;rw[if_neg Ω,if_pos Ω]at e;omega
  ·refine qhK n (fun i hi=>h i Ω) ?_ i Ω hb
   split at e<;>split at e<;>omega
theorem qhL{len:Nat→Nat}{to:Nat→Nat→Nat}{N:Nat}:∃k,k≤N∧∀i,i<N→0≤hF len to (k+1) i→0≤hF len to k i:=by
 refine xf9 fun hno=>?_;have hlt:∀k,k≤N→cnt (hF len to (k+1)) N<cnt (hF len to k) N:=fun k hk=>by
  have h1:=wW (a:=hF len to k) (b:=hF len to (k+1)) N fun i _ h=>by rw[J6 len to k i h];exact h
  refine Nat.lt_of_le_of_ne h1 fun e=>hno ⟨k,hk,qhK N (fun i _ h=>by rw[J6 len to k i h];exact h) e⟩
 have hdown:∀k,k≤N+1→cnt (hF len to k) N+k≤N:=fun k=>by
  induction k with
  |zero=>intro _;have:=wV (hF len to 0) N;omega
  |succ k ih=>
   intro hk;have h1:=ih Ω;have h2:=hlt k Ω;omega
 have:=hdown (N+1) (xa5 _);omega
theorem qeN{N:Nat}{len:Nat→Nat}{to:Nat→Nat→Nat}(hN:N≤100000)(inn:∀i j,i<N→j<len i→to i j<N):∃F,Fx N len to F:=by
 obtain⟨k,hk,hs⟩:=qhL (len:=len) (to:=to) (N:=N);refine⟨hF len to k,fun i _=>qnU len to k i,fun i _=>by have:=qlC len to k i;omega,inn,fun i hi=>?_,fun i hi h=>?_⟩
 ·rw[←hF_ok]
  exact⟨fun h=>by rw[J6 len to k i h];exact h,hs i hi⟩
 ·have h1:hF len to (k+1) i=hF len to k i:=J6 len to k i h
  have h2:0≤hF len to (k+1) i:=by rw[h1];exact h
  rw[←h1,qbq,if_pos (hF_ok.1 h2)]
end Go.Tn
end
section
namespace Go.Tn
open Go.Proofs
open Go.Sx
theorem je:qk Tryz.prog 393=some ⟨false,1,some [.slice none 0 0],.slice 255 6⟩:=by kernel_rfl
theorem qoM(a b c d e g:Int):∀i j,i<1→j<6→oneCell ([SV.val (.int .i64 a),SV.val (.int .i64 b),SV.val (.int .i64 c),SV.val (.int .i64 d),SV.val (.int .i64 e),SV.val (.int .i64 g)].getD (i*6+j) SV.top)=true:=by
 intro i j hi hj;obtain rfl:i=0:=by omega
 rw[Nat.zero_mul,xb0];rcases(Ω:j=0∨j=1∨j=2∨j=3∨j=4∨j=5)with rfl|rfl|rfl|rfl|rfl|rfl<;>rfl
theorem qcU{O:Ctx}{fr fr':List (Nat×SV)}{hp hp':List (Nat×Blk)}{nid nid' mid:Nat}{fit dom dom':Value→Bool}{get:Value→SV}{st:Value→Nat}{c:Nat}(hb:blk hp mid=some (.mapS fit dom get st c))(hd:∀v,dom' v=dom v)(hn:nid≤nid')(hf:qM fr fr')(hh:SubHp (setBlk hp mid (.map fit dom' get)) hp'):Weak O ⟨fr,hp,nid⟩ ⟨fr',hp',nid'⟩:=
 Weak.trans (qml hb hd) (qf hn hf hh)
theorem qhM:qD Tryz.prog 255=48:=by kernel_rfl
theorem qlD:qE Tryz.prog 250=some ⟨true,[Lf.i .i64,Lf.i .i64,Lf.i .i64,Lf.i .i64,Lf.i .i64,Lf.i .i64],.int .i64 0⟩:=by kernel_rfl
structure Hl(N:Nat)(len:Nat→Nat)(to:Nat→Nat→Nat)(F:Nat→Int)(dom0:Value→Bool)(nx:Nat→Nat→SV)(rest:List (Nat×Blk))(id tb xid rid mid:Nat):Prop where
 fx:Fx N len to F
 N5:N≤100000
 l5:∀i,i<N→len i≤5
 keys:∀v,dom0 v=true→∃(f:Nat→Int)(n:Nat),n<N∧v=kp f n
 one:∀v v',dom0 v=true→dom0 v'=true→zG v=zG v'→v=v'
 all:∀i,i<N→∃v,dom0 v=true∧zG v=i
 nx:∀i,i<N→(len i=0∧nx i 0=.val (.slice none 0 0))∨∃xi r,nx i 0=.vec xi (len i) 1∧blk rest xi=some (.rows 3 1 (len i) r)∧(xi≠tb∧xi≠xid∧xi≠rid∧xi≠mid∧xi<id)∧∀j,j<len i→r j 0=.val (.int .i64 (to i j:Nat))
 itb:tb<id
 ixid:xid<id
 irid:rid<id
 imid:mid<id
 d1:tb≠xid
 d2:tb≠rid
 d3:tb≠mid
 d4:xid≠rid
 d5:xid≠mid
 d6:rid≠mid
 und:Under rest id
structure Fnd(N:Nat)(len:Nat→Nat)(to:Nat→Nat→Nat)(F rw0 rw:Nat→Int)(dom:Value→Bool)(ks fl:List Value):Prop where
 nd:ks.Nodup
 inD:∀v,v∈ks→dom v=true
 sub:∀v,v∈fl→v∈ks
 rwF:Rw N F rw
 mem:∀v,dom v=true→(0≤rw (zG v)↔v∈fl)
 nil:fl=[]→rw=rw0∧∀v,v∈ks→∃j,j<len (zG v)∧rw0 (to (zG v) j)<0
 cn:cnt rw N+fl.length=cnt rw0 N
 up:∀i,0≤rw0 i→0≤rw i
theorem Fnd.stop{N:Nat}{len:Nat→Nat}{to:Nat→Nat→Nat}{F rw0 rw:Nat→Int}{dom:Value→Bool}{ks fl:List Value}(h:Fnd N len to F rw0 rw dom ks fl){v:Value}(hv:dom v=true)(hn:v∉ks)(hj:∃j,j<len (zG v)∧rw (to (zG v) j)<0):Fnd N len to F rw0 rw dom (ks++[v]) fl:=
 ⟨Qj h.nd hn,fun x hx=>by
  rcases List.mem_append.1 hx with h1|h1
  ·exact h.inD x h1
  ·rw[List.mem_singleton.1 h1];exact hv,fun x hx=>List.mem_append.2 (.inl (h.sub x hx)),h.rwF,h.mem,fun e=>⟨(h.nil e).1,fun x hx=>by
  rcases List.mem_append.1 hx with h1|h1
  ·exact(h.nil e).2 x h1
  ·rw[List.mem_singleton.1 h1,←(h.nil e).1];exact hj⟩,h.cn,h.up⟩
theorem Fnd.hit{N:Nat}{len:Nat→Nat}{to:Nat→Nat→Nat}{F rw0 rw:Nat→Int}{dom:Value→Bool}{ks fl:List Value}(h:Fnd N len to F rw0 rw dom ks fl)(hone:∀v v',dom v=true→dom v'=true→zG v=zG v'→v=v'){v:Value}(hv:dom v=true)(hN:zG v<N)(hn:v∉ks){x:Int}(hx:x=F (zG v))(h0:0≤x):Fnd N len to F rw0 (yE rw (zG v) x) dom (ks++[v]) (fl++[v]):=by
 have hneg:rw (zG v)<0:=by
  have:=(h.mem v hv).1;have:=mt this (fun hm=>hn (h.sub v hm));omega
 refine⟨Qj h.nd hn,fun x hx=>?_,fun x hx=>?_,fun i hi=>?_,fun u hu=>?_,fun e=>?_,?_,fun i hi=>?_⟩
 ·rcases List.mem_append.1 hx with h1|h1
  ·exact h.inD x h1
  ·rw[List.mem_singleton.1 h1];exact hv
 ·rcases List.mem_append.1 hx with h1|h1
  ·exact List.mem_append.2 (.inl (h.sub x h1))
  ·exact List.mem_append.2 (.inr h1)
 ·unfold yE
  split
  ·rename_i e;subst e;exact .inl hx
  ·exact h.rwF i hi
 ·unfold yE
  split
  ·rename_i e
   have:=hone u v hu hv e;subst this;exact⟨fun _=>List.mem_append.2 (.inr xd5),fun _=>h0⟩
  ·rename_i e
   rw[h.mem u hu,xd4,xe0];exact⟨.inl,fun h1=>h1.resolve_right fun e2=>e (by rw[e2])⟩
 ·simp at e
 ·have:=gU hneg h0 hN
  have:=h.cn;rw[xc8,xd1];omega
 ·unfold yE
  split
  ·exact h0
  ·exact h.up i hi
open Classical in
noncomputable def domC(dom:Value→Bool)(fl:List Value):Value→Bool:=fun v=>dom v&&!decide (v∈fl)
theorem qhN(dom:Value→Bool):domC dom []=dom:=by funext v;simp[domC]
open Classical in
theorem qmr{dom:Value→Bool}{fl:List Value}{f:Nat→Int}{n:Nat}:ji (domC dom fl) (kp f n)=domC dom (fl++[kp f n]):=by
 funext v;unfold ji domC;have e:eqK (kp f n) v=decide (v=kp f n):=by rw[Bool.eq_iff_iff,eqK_kp,decide_eq_true_eq]
 rw[e,Bool.eq_iff_iff];simp only[xe6,Bool.not_eq_true',decide_eq_false_iff_not,xd4,xe0];constructor
 ·rintro⟨h1,h2,h3⟩;exact⟨h2,fun h=>h.elim h3 h1⟩
 ·rintro⟨h1,h2⟩;exact⟨fun h=>h2 (.inr h),h1,fun h=>h2 (.inl h)⟩
open Classical in
theorem Fnd.dom{N:Nat}{len:Nat→Nat}{to:Nat→Nat→Nat}{F rw0 rw:Nat→Int}{dom0:Value→Bool}{ks fl:List Value}(h:Fnd N len to F rw0 rw (fun v=>dom0 v&&decide (rw0 (zG v)<0)) ks fl):domC (fun v=>dom0 v&&decide (rw0 (zG v)<0)) fl=fun v=>dom0 v&&decide (rw (zG v)<0):=by
 funext v;unfold domC;rw[Bool.eq_iff_iff];simp only[xe6,Bool.not_eq_true',decide_eq_false_iff_not,decide_eq_true_eq];constructor
 ·rintro⟨⟨h1,h2⟩,h3⟩
  have:=mt (h.mem v (by rw[h1,decide_eq_true h2];rfl)).1 h3;exact⟨h1,Ω⟩
 ·rintro⟨h1,h2⟩
  have h3:rw0 (zG v)<0:=by
   have:=mt (h.up (zG v));omega
  exact⟨⟨h1,h3⟩,mt (h.mem v (by rw[h1,decide_eq_true h3];rfl)).2 Ω⟩
def qoN(fl:List Value)(row:Nat→Nat→SV):Prop:=∀i j,i<fl.length→j<6→row i j=kc (fl.getD i undef) j
def st0(N:Nat)(get:Value→SV)(A Z:SV)(nx:Nat→Nat→SV)(dom0:Value→Bool)(rest:List (Nat×Blk))(id tb xid rid mid:Nat)(z:(Nat→Int)×(Nat→Nat→SV)×Nat):St:=
 ⟨[(0,.ptr tb 0)],(rid,.rows 3 1 N z.2.1) ::(mid,.map kfP (fun v=>dom0 v&&decide (z.1 (zG v)<0)) get) ::(tb,.cells 253 [A,Z,.vec xid N 1,.vec rid N 1,.mp mid]) ::(xid,.rows 22 1 N nx) :: rest,id+(960*N+400)*z.2.2⟩
def st1(N:Nat)(get:Value→SV)(A Z:SV)(nx:Nat→Nat→SV)(dom:Value→Bool)(rest:List (Nat×Blk))(n1 tb xid rid mid clk:Nat)(stamp:Value→Nat)(z:List Value×List Value×(Nat→Int)×(Nat→Nat→SV)×Nat×(Nat→Nat→SV)):St:=
 match z with
 |(ks,[],_,row,_,_)=>⟨[(0,.ptr tb 0),(2,.val (.slice none 0 0)),(12,.ptr (n1+5) 0)],(n1+5,.iter mid clk (ks.map stamp) clk) ::(rid,.rows 3 1 N row) ::(mid,.mapS kfP dom get stamp clk) ::(tb,.cells 253 [A,Z,.vec xid N 1,.vec rid N 1,.mp mid]) ::(xid,.rows 22 1 N nx) :: rest,n1+20+900*ks.length⟩
 |(ks,_ :: l,_,row,oid,frow)=>⟨[(0,.ptr tb 0),(2,.vec oid (l.length+1) 6),(12,.ptr (n1+5) 0)],(oid,.rows 255 6 (l.length+1) frow) ::(n1+5,.iter mid clk (ks.map stamp) clk) ::(rid,.rows 3 1 N row) ::(mid,.mapS kfP dom get stamp clk) ::(tb,.cells 253 [A,Z,.vec xid N 1,.vec rid N 1,.mp mid]) ::(xid,.rows 22 1 N nx) :: rest,n1+20+900*ks.length⟩
theorem qhO(N:Nat)(get:Value→SV)(A Z:SV)(nx:Nat→Nat→SV)(dom:Value→Bool)(rest:List (Nat×Blk))(n1 tb xid rid mid clk:Nat)(stamp:Value→Nat)(ks:List Value)(rw:Nat→Int)(row:Nat→Nat→SV)(oid:Nat)(frow:Nat→Nat→SV):st1 N get A Z nx dom rest n1 tb xid rid mid clk stamp (ks,[],rw,row,oid,frow)=⟨[(0,.ptr tb 0),(2,.val (.slice none 0 0)),(12,.ptr (n1+5) 0)],(n1+5,.iter mid clk (ks.map stamp) clk) ::(rid,.rows 3 1 N row) ::(mid,.mapS kfP dom get stamp clk) ::(tb,.cells 253 [A,Z,.vec xid N 1,.vec rid N 1,.mp mid]) ::(xid,.rows 22 1 N nx) :: rest,n1+20+900*ks.length⟩:=rfl
theorem qcV(N:Nat)(get:Value→SV)(A Z:SV)(nx:Nat→Nat→SV)(dom:Value→Bool)(rest:List (Nat×Blk))(n1 tb xid rid mid clk:Nat)(stamp:Value→Nat)(ks:List Value)(x:Value)(l:List Value)(rw:Nat→Int)(row:Nat→Nat→SV)(oid:Nat)(frow:Nat→Nat→SV):st1 N get A Z nx dom rest n1 tb xid rid mid clk stamp (ks,x :: l,rw,row,oid,frow)=⟨[(0,.ptr tb 0),(2,.vec oid (l.length+1) 6),(12,.ptr (n1+5) 0)],(oid,.rows 255 6 (l.length+1) frow) ::(n1+5,.iter mid clk (ks.map stamp) clk) ::(rid,.rows 3 1 N row) ::(mid,.mapS kfP dom get stamp clk) ::(tb,.cells 253 [A,Z,.vec xid N 1,.vec rid N 1,.mp mid]) ::(xid,.rows 22 1 N nx) :: rest,n1+20+900*ks.length⟩:=rfl
theorem qnV(N:Nat)(len:Nat→Nat)(to:Nat→Nat→Nat)(F:Nat→Int)(dom0:Value→Bool)(get:Value→SV)(A Z:SV)(nx row0:Nat→Nat→SV)(rest:List (Nat×Blk))(id tb xid rid mid:Nat)
  (h:Hl N len to F dom0 nx rest id tb xid rid mid) (hr0:∀i,i<N→row0 i 0=.val (.int .i64 (-1))) :
  EffVC Tryz.prog 163 [.ptr tb 0] ((rid,.rows 3 1 N row0) ::(mid,.map kfP dom0 get) ::(tb,.cells 253 [A,Z,.vec xid N 1,.vec rid N 1,.mp mid]) ::(xid,.rows 22 1 N nx) :: rest) id (fun hp' nid' res=>nid'≤id+1000*(N+2)*(N+2)∧res=.tup []∧∃row,(∀i,i<N→row i 0=.val (.int .i64 (F i)))∧hp'=(rid,.rows 3 1 N row) ::(mid,.map kfP (fun v=>dom0 v&&decide (F (zG v)<0)) get) ::(tb,.cells 253 [A,Z,.vec xid N 1,.vec rid N 1,.mp mid]) ::(xid,.rows 22 1 N nx) :: rest):=by
 refine wK follows Tryz.func163 rfl Ωb Ωb (by rw[Tryz.ntmps163];simp) fun out=>?_;have htb:=h.itb;have hxid:=h.ixid;have hrid:=h.irid;have hmid:=h.imid;have ND:=(⟨nmE h.d1,nmE h.d2,nmE h.d3,nmE h.d4,nmE h.d5,nmE h.d6⟩:_∧_∧_∧_∧_∧_);have NB:True:=trivial;have NB1:True:=trivial;have hN5:=h.N5;have e0:(fun v=>dom0 v&&decide ((-1:Int)<0))=dom0:=by funext v;simp
 (repeat' (first|refine sD ?_ ?_<;>intro _|refine aAc ?_|(simp -dsimp only[↓RP,RQ,xa0,reduceIte,reduceCtorEq,xa1,xa2,xa3,xa4,NB,NB1,ND,je,QS,QT,QN])));refine qj (fun(z:(Nat→Int)×(Nat→Nat→SV)×Nat)=>Rw N F z.1∧(∀i,i<N→z.2.1 i 0=.val (.int .i64 (z.1 i)))∧z.2.2+cnt z.1 N≤N) (st0 N get A Z nx dom0 rest id tb xid rid mid) (fun z=>cnt z.1 N) (fun _=>-1,row0,0) ⟨fun i hi=>.inr rfl,hr0,by have:=wV (fun _=>-1) N;simp only[];omega⟩ (by unfold st0;simp only[Nat.mul_zero,xb1,e0];exact qf (xa5 _) Ωg (SubHp.refl _)) fun z hz=>?_;obtain⟨rw0,row,c⟩:=z;obtain⟨z1,z2,z3⟩:=hz;simp only[]at z1 z2 z3;unfold st0;simp only[];obtain⟨n1,hn1⟩:∃n1,n1=id+(960*N+400)*c:=⟨_,rfl⟩;have hid1:id≤n1:=by rw[hn1];exact Nat.le_add_right _ _
 rw[←hn1];have NB:=(⟨nmA (Ω:tb<n1),nmA (Ω:xid<n1),nmA (Ω:rid<n1),nmA (Ω:mid<n1)⟩:_∧_∧_∧_);(repeat' (first|refine sD ?_ ?_<;>intro _|refine aAc ?_|(simp -dsimp only[↓RP,RQ,xa0,reduceIte,reduceCtorEq,xa1,xa2,xa3,xa4,NB,NB1,ND,je,QS,QT,QN])));refine qjM (mid:=mid) (fit:=kfP) (dom:=(fun v=>dom0 v&&decide (rw0 (zG v)<0))) (get:=get) (by rfl) (by rfl) qlD ΩL fun stamp clk hst hinj=>?_;(repeat' (first|refine sD ?_ ?_<;>intro _|refine aAc ?_|(simp -dsimp only[↓RP,RQ,xa0,reduceIte,reduceCtorEq,xa1,xa2,xa3,xa4,NB,NB1,ND,je,QS,QT,QN])));obtain⟨dom,hdom⟩:∃dom,dom=fun v=>dom0 v&&decide (rw0 (zG v)<0):=⟨_,rfl⟩;have hst:∀k,dom k=true→stamp k<clk:=by rw[hdom];exact hst
 have hinj:∀k k',dom k=true→dom k'=true→stamp k=stamp k'→k=k':=by rw[hdom];exact hinj
 have hd0:∀k,dom k=true→dom0 k=true:=fun k hk=>by rw[hdom]at hk;simp only[xe6]at hk;exact hk.1
 rw[←hdom];have hone:∀v v',dom v=true→dom v'=true→zG v=zG v'→v=v':=fun v v' h1 h2=>h.one v v' (hd0 v h1) (hd0 v' h2);have hbx0:∀{Y Z':Blk} x,n1≤x→blk ((rid,Y) ::(mid,Z') ::(tb,.cells 253 [A,Z,.vec xid N 1,.vec rid N 1,.mp mid]) ::(xid,.rows 22 1 N nx) :: rest) x=none:=fun x hx=>by
  simp only[blk];rw[if_neg Ω,if_neg Ω,if_neg Ω,if_neg Ω];exact h.und.none Ω
 have hbx:∀{X Y Z':Blk} x,n1+6≤x→blk ((n1+5,X) ::(rid,Y) ::(mid,Z') ::(tb,.cells 253 [A,Z,.vec xid N 1,.vec rid N 1,.mp mid]) ::(xid,.rows 22 1 N nx) :: rest) x=none:=fun x hx=>by
  simp only[blk];rw[if_neg Ω,if_neg Ω,if_neg Ω,if_neg Ω,if_neg Ω];exact h.und.none Ω
 refine qj (fun(z:List Value×List Value×(Nat→Int)×(Nat→Nat→SV)×Nat×(Nat→Nat→SV))=>Fnd N len to F rw0 z.2.2.1 dom z.1 z.2.1∧(∀i,i<N→z.2.2.2.1 i 0=.val (.int .i64 (z.2.2.1 i)))∧qoN z.2.1 z.2.2.2.2.2∧(z.2.1≠[]→n1+6≤z.2.2.2.2.1∧z.2.2.2.2.1<n1+20+900*z.1.length)) (st1 N get A Z nx dom rest n1 tb xid rid mid clk stamp) (fun z=>N - z.1.length) ([],[],rw0,row,0,fun _ _=>.top) ⟨⟨List.nodup_nil,fun v hv=>Ω2,fun v hv=>Ω2,z1,fun v hv=>?_,fun _=>⟨rfl,fun v hv=>Ω2⟩,rfl,fun i hi=>hi⟩,z2,fun i j hi=>(by cases hi),fun hh=>absurd rfl hh⟩ (by rw[qhO];exact qf Ωi Ωg (SubHp.refl _)) fun z hz=>?_
 ·rw[hdom]at hv
  simp only[xe6,decide_eq_true_eq]at hv;exact⟨fun h1=>by have h1:0≤rw0 (zG v):=h1;omega,fun h1=>(by cases h1)⟩
 obtain⟨ks,fl,rw1,row1,oid,frow⟩:=z;obtain⟨y1,y2,y3,y4⟩:=hz;simp only[]at y1 y2 y3 y4;have hks:ks.length≤N:=by
  have:=jL N (ks.map zG) (JY y1.nd fun a b ha hb=>hone a b (y1.inD a ha) (y1.inD b hb)) fun x hx=>by
   obtain⟨v,hv,rfl⟩:=List.mem_map.1 hx;obtain⟨f,n,hn,rfl⟩:=h.keys v (hd0 v (y1.inD v hv));exact hn
  rwa [xe1]at this
 have hkl:∀v,dom v=true→v∉ks→ks.length<N:=fun v hv hm=>by
  have:=jL N ((ks++[v]).map zG) (JY (Qj y1.nd hm) fun a b ha hb=>hone a b ?_ ?_) fun x hx=>?_
  ·rw[xe1,xc8,xd1]at this;omega
  ·rcases List.mem_append.1 ha with h1|h1
   ·exact y1.inD a h1
   ·rw[List.mem_singleton.1 h1];exact hv
  ·rcases List.mem_append.1 hb with h1|h1
   ·exact y1.inD b h1
   ·rw[List.mem_singleton.1 h1];exact hv
  ·obtain⟨u,hu,rfl⟩:=List.mem_map.1 hx
   have hu2:dom u=true:=by
    rcases List.mem_append.1 hu with h1|h1
    ·exact y1.inD u h1
    ·rw[List.mem_singleton.1 h1];exact hv
   obtain⟨f,n,hn,rfl⟩:=h.keys u (hd0 u hu2);exact hn
 clear NB;obtain⟨nn,hnn⟩:∃nn,nn=n1+20+900*ks.length:=⟨_,rfl⟩;have hn2:n1+20≤nn:=by omega
 have NB:=(⟨nmA (Ω:tb<nn),nmA (Ω:xid<nn),nmA (Ω:rid<nn),nmA (Ω:mid<nn),nmA (Ω:tb<n1),nmA (Ω:xid<n1),nmA (Ω:rid<n1),nmA (Ω:mid<n1),nmA (Ω:n1+5<nn)⟩:_∧_∧_∧_∧_∧_∧_∧_∧_);cases fl with
 |nil=>
  ·rw[qhO,←hnn]
   (repeat' (first|refine sD ?_ ?_<;>intro _|refine aAc ?_|(simp -dsimp only[↓RP,RQ,xa0,reduceIte,reduceCtorEq,xa1,xa2,xa3,xa4,NB,NB1,ND,je,QS,QT,QN])));refine qgg (iid:=n1+5) (mid:=mid) (clk:=clk) (seen:=ks.map stamp) (fit:=kfP) (dom:=dom) (get:=get) (stamp:=stamp) (by rfl) (by rfl) ΩL ΩL (fun k hk1 hk2 hk3=>?_) (fun hall=>?_)
   ·obtain⟨f,n,hn,rfl⟩:=h.keys k (hd0 k hk2)
    have hk4:kp f n∉ks:=fun hm=>hk3 (List.mem_map.2 ⟨_,hm,rfl⟩);(repeat' (first|refine sD ?_ ?_<;>intro _|refine aAc ?_|(simp -dsimp only[↓RP,RQ,xa0,reduceIte,reduceCtorEq,xa1,xa2,xa3,xa4,NB,NB1,ND,je,QS,QT,QN])));refine qbZ (s:=.agg (kpL f n)) (iid:=n1+5) (mid:=mid) (clk:=clk) (seen:=ks.map stamp) (fit:=kfP) (dom:=dom) (get:=get) (stamp:=stamp) (k:=kp f n) (by rfl) (by rfl) ΩL ΩL hk2 (JI [.int .i64 (f 0),.int .i64 (f 1),.int .i64 (f 2),.int .i64 (f 3),.int .i64 (f 4),.int .i64 (n:Nat)]) ?_;unfold kpL;(repeat' (first|refine sD ?_ ?_<;>intro _|refine aAc ?_|(simp -dsimp only[↓RP,RQ,xa0,reduceIte,reduceCtorEq,xa1,xa2,xa3,xa4,NB,NB1,ND,je,QS,QT,QN])));refine jS (by rfl) (qnO _ _ tb xid rid mid N n (len n) A Z nx row1 rw1 (to n) hN5 hn (by have:=h.l5 n hn;omega) ΩL ΩL ΩL y2 (fun i hi=>by have:=h.fx.lo i hi;have:=h.fx.hi i hi;rcases y1.rwF i hi with e|e<;>omega) (fun j hj=>h.fx.inn n j hn hj) ?hNX) fun hp' n3 res hQ=>?_
    case hNX=>
     rcases h.nx n hn with⟨a,b⟩|⟨xi,r,a,b,⟨x1,x2,x3,x4,x5⟩,x6⟩
     ·exact .inl ⟨a,b⟩
     ·have NX:=(⟨nmE x1,nmE x2,nmE x3,nmE x4,nmA (Ω:xi<nn),nmA (Ω:xi<n1)⟩:_∧_∧_∧_∧_∧_)
      exact .inr ⟨xi,r,a,by simp[blk,NB,NB1,ND,NX,b],x6⟩
    obtain⟨rfl,q1,q2,hQ⟩:=hQ;have hl5:=h.l5 n hn;have NB3:=(⟨nmA (Ω:tb<n3),nmA (Ω:xid<n3),nmA (Ω:rid<n3),nmA (Ω:mid<n3),nmA (Ω:nn+4<n3),nmA (Ω:n1+5<n3)⟩:_∧_∧_∧_∧_∧_);rcases hQ with⟨hk,rfl⟩|⟨hk,rfl⟩
    ·obtain⟨w0,w1⟩:=h.fx.set y1.rwF hn hk
     have w2:=h.fx.hi n hn;have w3:=y1.cn;have w4:=wV rw0 N;have w5:=hN5
     skip
     rw[w1];unfold I B;(repeat' (first|refine sD ?_ ?_<;>intro _|refine aAc ?_|(simp -dsimp only[↓RP,RQ,xa0,reduceIte,reduceCtorEq,xa1,xa2,xa3,xa4,NB3,qhM,NB,NB1,ND,je,QS,QT,QN])))
     skip
     refine⟨(ks++[kp f n],[kp f n],yE rw1 n (F n),(fun a b=>if a=n∧b=0 then SV.val (.int .i64 (F n))else row1 a b),n3+13,(fun i j=>[SV.val (.int .i64 (f 0)),SV.val (.int .i64 (f 1)),SV.val (.int .i64 (f 2)),SV.val (.int .i64 (f 3)),SV.val (.int .i64 (f 4)),SV.val (.int .i64 (n:Nat))].getD (i*6+j) SV.top)),⟨y1.hit hone hk2 hn hk4 rfl w0,fun i hi=>?_,?_,fun _=>?_⟩,?_,?_⟩
     ·simp only[yE]
      by_cases e:i=n
      ·rw[if_pos ⟨e,trivial⟩,if_pos e]
      ·rw[if_neg (fun e2=>e e2.1),if_neg e];exact y2 i hi
     ·intro i j hi hj
      have e:i=0:=by have hi:i<1:=hi;omega
      subst e;have k:=qhB f n;show [SV.val (.int .i64 (f 0)),SV.val (.int .i64 (f 1)),SV.val (.int .i64 (f 2)),SV.val (.int .i64 (f 3)),SV.val (.int .i64 (f 4)),SV.val (.int .i64 (n:Nat))].getD (0*6+j) SV.top=kc (kp f n) j;rw[Nat.zero_mul,xb0];rcases(Ω:j=0∨j=1∨j=2∨j=3∨j=4∨j=5)with rfl|rfl|rfl|rfl|rfl|rfl
      ·exact k.1.symm
      ·exact k.2.1.symm
      ·exact k.2.2.1.symm
      ·exact k.2.2.2.1.symm
      ·exact k.2.2.2.2.1.symm
      ·exact k.2.2.2.2.2.symm
     ·simp only[xc8,xd1];omega
     ·have hk5:=hkl _ hk2 hk4
      simp only[xc8,xd1];omega
     ·rw[qcV,List.map_append,List.map_cons,List.map_nil,xc8,xd1]
      exact qf Ω Ωg (SubHp.cons (SubHp.skip (hbx _ Ω) (SubHp.skip (hbx _ Ω) (SubHp.refl _))))
    ·unfold I B
     (repeat' (first|refine sD ?_ ?_<;>intro _|refine aAc ?_|(simp -dsimp only[↓RP,RQ,xa0,reduceIte,reduceCtorEq,xa1,xa2,xa3,xa4,NB3,NB,NB1,ND,je,QS,QT,QN])));refine⟨(ks++[kp f n],[],rw1,row1,oid,frow),⟨y1.stop hk2 hk4 hk,y2,y3,fun hh=>?_⟩,?_,?_⟩
     ·exact absurd hh Ωi
     ·have hk5:=hkl _ hk2 hk4
      simp only[xc8,xd1];omega
     ·rw[qhO,List.map_append,List.map_cons,List.map_nil,xc8,xd1]
      exact qf Ω Ωg (SubHp.skip (hbx _ Ω) (SubHp.refl _))
   ·skip
    have hkk:∀v,dom v=true→v∈ks:=fun v hv=>by
     obtain⟨u,hu,e⟩:=List.mem_map.1 (hall v hv);rw[←hinj u v (y1.inD u hu) hv e];exact hu
    have⟨hrw,hno⟩:=y1.nil rfl;subst hrw;have hF:∀i,i<N→rw1 i=F i:=fun i hi=>h.fx.fin y1.rwF (fun i hi hneg=>by
     obtain⟨v,hv,rfl⟩:=h.all i hi;refine hno v (hkk v ?_);rw[hdom];simp only[hv,xf0,decide_eq_true_eq];exact hneg) 1000000 i hi (h.fx.hi i hi)
    (repeat' (first|refine sD ?_ ?_<;>intro _|refine aAc ?_|(simp -dsimp only[↓RP,RQ,xa0,reduceIte,reduceCtorEq,xa1,xa2,xa3,xa4,NB,NB1,ND,je,QS,QT,QN])))
    all_goals try exact Ωa
    refine⟨_,_,_,qcU (mid:=mid) (fit:=kfP) (dom:=dom) (dom':=fun v=>dom0 v&&decide (F (zG v)<0)) (get:=get) (st:=stamp) (c:=clk) ΩL (fun v=>?_) (xa5 _) (fr':=[(0,_)]) ⟨.inr rfl,trivial⟩ (by simp only[setBlk,NB,NB1,ND,reduceIte];exact SubHp.skip (hbx0 _ Ω) (SubHp.refl _)),?_,rfl,row1,fun i hi=>by rw[y2 i hi,hF i hi],rfl⟩
    ·rw[hdom]
     show(dom0 v&&decide (F (zG v)<0))=(dom0 v&&decide (rw1 (zG v)<0));cases hv:dom0 v with
     |false=>rfl
     |true=>
      obtain⟨f,n,hn,rfl⟩:=h.keys v hv;rw[gW,hF n hn]
    ·have hc:=Nat.mul_le_mul_left (960*N+400) (Ω:c≤N)
     have e3:(960*N+400)*N=960*(N*N)+400*N:=by rw[Nat.add_mul,Nat.mul_assoc]
     rw[e3]at hc;have e1:1000*(N+2)*(N+2)=1000*(N*N)+4000*N+4000:=by
      rw[Nat.mul_assoc,Nat.add_mul,Nat.mul_add,Nat.mul_add];omega
     rw[e1,hnn,hn1];omega
 |cons x l=>
  have⟨y5,y6⟩:=y4 Ωi;rw[←hnn]at y6;have NO:=(⟨nmE (Ω:oid≠tb),nmE (Ω:oid≠xid),nmE (Ω:oid≠rid),nmE (Ω:oid≠mid),nmE (Ω:oid≠n1+5),nmA y6⟩:_∧_∧_∧_∧_∧_);have hdr:dropBlk rest oid=rest:=qU (h.und.none Ω);have hbx2:∀{X Y Z' V:Blk} x,n1+6≤x→x≠oid→blk ((oid,V) ::(n1+5,X) ::(rid,Y) ::(mid,Z') ::(tb,.cells 253 [A,Z,.vec xid N 1,.vec rid N 1,.mp mid]) ::(xid,.rows 22 1 N nx) :: rest) x=none:=fun x hx hx2=>by
   simp only[blk];rw[if_neg hx2];exact hbx x hx
  ·rw[qcV,←hnn]
   (repeat' (first|refine sD ?_ ?_<;>intro _|refine aAc ?_|(simp -dsimp only[↓RP,RQ,xa0,reduceIte,reduceCtorEq,xa1,xa2,xa3,xa4,NO,hdr,NB,NB1,ND,je,QS,QT,QN])));refine qgg (iid:=n1+5) (mid:=mid) (clk:=clk) (seen:=ks.map stamp) (fit:=kfP) (dom:=dom) (get:=get) (stamp:=stamp) (by rfl) (by rfl) ΩJ ΩJ (fun k hk1 hk2 hk3=>?_) (fun hall=>?_)
   ·obtain⟨f,n,hn,rfl⟩:=h.keys k (hd0 k hk2)
    have hk4:kp f n∉ks:=fun hm=>hk3 (List.mem_map.2 ⟨_,hm,rfl⟩);(repeat' (first|refine sD ?_ ?_<;>intro _|refine aAc ?_|(simp -dsimp only[↓RP,RQ,xa0,reduceIte,reduceCtorEq,xa1,xa2,xa3,xa4,NO,hdr,NB,NB1,ND,je,QS,QT,QN])));refine qbZ (s:=.agg (kpL f n)) (iid:=n1+5) (mid:=mid) (clk:=clk) (seen:=ks.map stamp) (fit:=kfP) (dom:=dom) (get:=get) (stamp:=stamp) (k:=kp f n) (by rfl) (by rfl) ΩJ ΩJ hk2 (JI [.int .i64 (f 0),.int .i64 (f 1),.int .i64 (f 2),.int .i64 (f 3),.int .i64 (f 4),.int .i64 (n:Nat)]) ?_;unfold kpL;(repeat' (first|refine sD ?_ ?_<;>intro _|refine aAc ?_|(simp -dsimp only[↓RP,RQ,xa0,reduceIte,reduceCtorEq,xa1,xa2,xa3,xa4,NO,hdr,NB,NB1,ND,je,QS,QT,QN])));refine jS (by rfl) (qnO _ _ tb xid rid mid N n (len n) A Z nx row1 rw1 (to n) hN5 hn (by have:=h.l5 n hn;omega) ΩJ ΩJ ΩJ y2 (fun i hi=>by have:=h.fx.lo i hi;have:=h.fx.hi i hi;rcases y1.rwF i hi with e|e<;>omega) (fun j hj=>h.fx.inn n j hn hj) ?hNX) fun hp' n3 res hQ=>?_
    case hNX=>
     rcases h.nx n hn with⟨a,b⟩|⟨xi,r,a,b,⟨x1,x2,x3,x4,x5⟩,x6⟩
     ·exact .inl ⟨a,b⟩
     ·have NX:=(⟨nmE x1,nmE x2,nmE x3,nmE x4,nmA (Ω:xi<nn),nmA (Ω:xi<n1),nmE (Ω:xi≠oid)⟩:_∧_∧_∧_∧_∧_∧_)
      exact .inr ⟨xi,r,a,by simp[blk,NB,NB1,ND,NX,NO,b],x6⟩
    obtain⟨rfl,q1,q2,hQ⟩:=hQ;have hl5:=h.l5 n hn;have NB3:=(⟨nmA (Ω:tb<n3),nmA (Ω:xid<n3),nmA (Ω:rid<n3),nmA (Ω:mid<n3),nmA (Ω:nn+4<n3),nmA (Ω:n1+5<n3),nmA (Ω:oid<n3)⟩:_∧_∧_∧_∧_∧_∧_);rcases hQ with⟨hk,rfl⟩|⟨hk,rfl⟩
    ·obtain⟨w0,w1⟩:=h.fx.set y1.rwF hn hk
     have w2:=h.fx.hi n hn;have w3:=y1.cn;have w4:=wV rw0 N;have w5:=hN5;rw[xe4]at w3;rw[w1];unfold I B;(repeat' (first|refine sD ?_ ?_<;>intro _|refine aAc ?_|(simp -dsimp only[↓RP,RQ,xa0,reduceIte,reduceCtorEq,xa1,xa2,xa3,xa4,NB3,qhM,NO,hdr,NB,NB1,ND,je,QS,QT,QN])));refine⟨⟨.inr trivial,xa5 _,qoM _ _ _ _ _ _,Ω⟩,Ω,Ω,?_⟩;refine⟨(ks++[kp f n],x ::(l++[kp f n]),yE rw1 n (F n),(fun a b=>if a=n∧b=0 then SV.val (.int .i64 (F n))else row1 a b),n3+13,(fun i j=>if i<l.length+1 then frow i j else [SV.val (.int .i64 (f 0)),SV.val (.int .i64 (f 1)),SV.val (.int .i64 (f 2)),SV.val (.int .i64 (f 3)),SV.val (.int .i64 (f 4)),SV.val (.int .i64 (n:Nat))].getD ((i -(l.length+1))*6+j) SV.top)),⟨y1.hit hone hk2 hn hk4 rfl w0,fun i hi=>?_,?_,fun _=>?_⟩,?_,?_⟩
     ·simp only[yE]
      by_cases e:i=n
      ·rw[if_pos ⟨e,trivial⟩,if_pos e]
      ·rw[if_neg (fun e2=>e e2.1),if_neg e];exact y2 i hi
     ·intro i j hi hj
      have hi:i<(x ::(l++[kp f n])).length:=hi;rw[xe4,xc8,xd1]at hi;by_cases hc:i<l.length+1
      ·show(if i<l.length+1 then frow i j else _)=_
       rw[if_pos hc,y3 i j hc hj];have eG:(x ::(l++[kp f n])).getD i undef=(x :: l).getD i undef:=by
        rw[←List.cons_append,xc6,xc6,xc9 hc]
       show _=kc ((x ::(l++[kp f n])).getD i undef) j;rw[eG]
      ·have e:i=l.length+1:=by omega
       subst e;have k:=qhB f n;have eG:(x ::(l++[kp f n])).getD (l.length+1) undef=kp f n:=by simp[xc6]
       show(if l.length+1<l.length+1 then frow (l.length+1) j else [SV.val (.int .i64 (f 0)),SV.val (.int .i64 (f 1)),SV.val (.int .i64 (f 2)),SV.val (.int .i64 (f 3)),SV.val (.int .i64 (f 4)),SV.val (.int .i64 (n:Nat))].getD ((l.length+1 -(l.length+1))*6+j) SV.top)=kc ((x ::(l++[kp f n])).getD (l.length+1) undef) j;rw[if_neg Ω,eG,xb8,Nat.zero_mul,xb0];rcases(Ω:j=0∨j=1∨j=2∨j=3∨j=4∨j=5)with rfl|rfl|rfl|rfl|rfl|rfl
       ·exact k.1.symm
       ·exact k.2.1.symm
       ·exact k.2.2.1.symm
       ·exact k.2.2.2.1.symm
       ·exact k.2.2.2.2.1.symm
       ·exact k.2.2.2.2.2.symm
     ·simp only[xc8,xd1];omega
     ·have hk5:=hkl _ hk2 hk4
      simp only[xc8,xd1];omega
     ·rw[qcV,List.map_append,List.map_cons,List.map_nil,xc8,xd1,xc8,xd1]
      exact qf Ω Ωg (SubHp.cons (SubHp.skip (hbx _ Ω) (SubHp.skip (hbx _ Ω) (SubHp.refl _))))
    ·unfold I B
     (repeat' (first|refine sD ?_ ?_<;>intro _|refine aAc ?_|(simp -dsimp only[↓RP,RQ,xa0,reduceIte,reduceCtorEq,xa1,xa2,xa3,xa4,NB3,NO,hdr,NB,NB1,ND,je,QS,QT,QN])));refine⟨(ks++[kp f n],x :: l,rw1,row1,oid,frow),⟨y1.stop hk2 hk4 hk,y2,y3,fun hh=>?_⟩,?_,?_⟩
     ·have:=y4 hh
      simp only[xc8,xd1];omega
     ·have hk5:=hkl _ hk2 hk4
      simp only[xc8,xd1];omega
     ·rw[qcV,List.map_append,List.map_cons,List.map_nil,xc8,xd1]
      exact qf Ω Ωg (SubHp.skip (hbx2 _ Ω Ω) (SubHp.refl _))
   ·skip
    have hkk:ks.length≤N:=hks;have hfl:=y1.cn;have hcl:=wV rw0 N;rw[xe4]at hfl;have hl0:=decide_eq_false (show ¬(((l.length+1:Nat):Nat):Int)=0 by omega);obtain⟨fl,hfe⟩:∃fl,fl=x :: l:=⟨_,rfl⟩;obtain⟨m,hm⟩:∃m,m=l.length+1:=⟨_,rfl⟩;have hml:m=fl.length:=by rw[hfe,hm];rfl
    rw[←hm]at hfl hl0;rw[←hfe]at y1 y3;rw[←hm];(repeat' (first|refine sD ?_ ?_<;>intro _|refine aAc ?_|(simp -dsimp only[↓RP,RQ,xa0,reduceIte,reduceCtorEq,xa1,xa2,xa3,xa4,NO,hdr,hl0,NB,NB1,ND,je,QS,QT,QN])))
    all_goals try exact Ωa
    refine qj (fun(i:Nat)=>i≤m) (fun i=>⟨[(0,.ptr tb 0),(40,.vec oid m 6),(41,.val (.int .i64 (m:Nat))),(42,.val (.int .i64 (i:Nat)))],(oid,.rows 255 6 m frow) ::(rid,.rows 3 1 N row1) ::(mid,.mapS kfP (domC dom (fl.take i)) get stamp clk) ::(tb,.cells 253 [A,Z,.vec xid N 1,.vec rid N 1,.mp mid]) ::(xid,.rows 22 1 N nx) :: rest,nn+40+60*i⟩) (fun i=>m - i) 0 (xb6 _) (by rw[List.take_zero,qhN];exact qf Ω Ωg (SubHp.cons (SubHp.skip (hbx0 _ Ω) (SubHp.refl _)))) fun i hi=>?_;obtain⟨n4,hn4⟩:∃n4,n4=nn+40+60*i:=⟨_,rfl⟩;rw[←hn4];clear NB;have NB:=(⟨nmA (Ω:tb<n4),nmA (Ω:xid<n4),nmA (Ω:rid<n4),nmA (Ω:mid<n4),nmA (Ω:oid<n4)⟩:_∧_∧_∧_∧_);have hbx4:∀{X Y Z':Blk} x,n4≤x→blk ((oid,X) ::(rid,Y) ::(mid,Z') ::(tb,.cells 253 [A,Z,.vec xid N 1,.vec rid N 1,.mp mid]) ::(xid,.rows 22 1 N nx) :: rest) x=none:=fun x hx=>by
     simp only[blk];rw[if_neg Ω,if_neg Ω,if_neg Ω,if_neg Ω,if_neg Ω];exact h.und.none Ω
    by_cases him:i<m
    ·have hlt:=decide_eq_true (Ω:((i:Nat):Int)<(m:Nat))
     have hmem:fl.getD i undef∈fl:=by
      rw[xc6,xc7 (Ω:i<fl.length)];exact List.getElem_mem _
     obtain⟨f,n,hn,hfn⟩:=h.keys _ (hd0 _ (y1.inD _ (y1.sub _ hmem)));have k:=qhB f n;have f0:=y3 i 0 Ω Ω;have f1:=y3 i 1 Ω Ω;have f2:=y3 i 2 Ω Ω;have f3:=y3 i 3 Ω Ω;have f4:=y3 i 4 Ω Ω;have f5:=y3 i 5 Ω Ω;rw[hfn,k.1]at f0;rw[hfn,k.2.1]at f1;rw[hfn,k.2.2.1]at f2;rw[hfn,k.2.2.2.1]at f3;rw[hfn,k.2.2.2.2.1]at f4;rw[hfn,k.2.2.2.2.2]at f5;(repeat' (first|refine sD ?_ ?_<;>intro _|refine aAc ?_|(simp -dsimp only[↓RP,RQ,xa0,reduceIte,reduceCtorEq,xa1,xa2,xa3,xa4,NO,hlt,f0,f1,f2,f3,f4,f5,qlD,qhM,NB,NB1,ND,je,QS,QT,QN])))
     all_goals try exact Ωa
     have hgi:fl[i]? = some (kp f n):=by
      rw[←hfn,xc6,xc7 (Ω:i<fl.length)];rfl
     have hcut:ji (domC dom (List.take i fl)) (Value.agg #[Value.int .i64 (f 0),Value.int .i64 (f 1),Value.int .i64 (f 2),Value.int .i64 (f 3),Value.int .i64 (f 4),Value.int .i64 (n:Nat)])=domC dom (List.take (i+1) fl):=by
      show ji _ (kp f n)=_;rw[qmr,List.take_add_one,hgi];rfl
     rw[hcut];exact⟨i+1,Ω,Ω,qf Ω Ωg (SubHp.skip (hbx4 _ Ω) (SubHp.refl _))⟩
    ·obtain rfl:i=m:=by omega
     have hlt:=decide_eq_false (Ω:¬((i:Nat):Int)<(i:Nat));(repeat' (first|refine sD ?_ ?_<;>intro _|refine aAc ?_|(simp -dsimp only[↓RP,RQ,xa0,reduceIte,reduceCtorEq,xa1,xa2,xa3,xa4,NO,hlt,NB,NB1,ND,je,QS,QT,QN])))
     all_goals try exact Ωa
     have yd:=y1;rw[hdom]at yd;have ed:=yd.dom;have hX:id+(960*N+400)*(c+1)=n1+(960*N+400):=by rw[hn1,Nat.mul_add,Nat.mul_one];omega
     refine⟨(rw1,row1,c+1),⟨y1.rwF,y2,by simp only[];omega⟩,by simp only[];omega,qcU (mid:=mid) (fit:=kfP) (dom:=domC dom (List.take i fl)) (dom':=fun v=>dom0 v&&decide (rw1 (zG v)<0)) (get:=get) (st:=stamp) (c:=clk) ΩJ (fun v=>?_) (by simp only[];rw[hX];omega) Ωg (by simp only[setBlk,NB,NB1,ND,NO,reduceIte];exact SubHp.skip (hbx0 _ Ω) (SubHp.refl _))⟩;rw[hdom,List.take_of_length_le Ω,ed]
end Go.Tn
end
section
namespace Go.Tn
open Go.Proofs
open Go.Sx
theorem TYX:True∧qk Tryz.prog 250=some ⟨false,1,some [.map none],.map 255 3⟩∧qE Tryz.prog 250=some ⟨true,[.i .i64,.i .i64,.i .i64,.i .i64,.i .i64,.i .i64],.int .i64 0⟩∧qk Tryz.prog 255=some ⟨true,6,some [.int .i64 0,.int .i64 0,.int .i64 0,.int .i64 0,.int .i64 0,.int .i64 0],.struct [(0,5,some true),(5,1,some false)]⟩∧qX Tryz.prog 255=some [(0,5),(5,1)]∧jh Tryz.prog 255=some [.i .i64,.i .i64,.i .i64,.i .i64,.i .i64,.i .i64]:=⟨trivial,Ωb,Ωb,Ωb,Ωb,Ωb⟩
theorem qnW(m:Nat)(u s:Nat→Int)(hm:m≤5)(hu:∀i,i<m→1≤u i∧u i≤12)(hs:∀i,i<m→0≤s i∧s i≤u i):qb Tryz.prog 162 [.ref false 1 (fun _=>.arr false false m 1 (fun i _=>.val (.int .i64 (u i)))),.agg (stL s)] (I (ixF u s m)):=by
 refine qc Tryz.func162 rfl Ωb follows Ωb _ _ (by rw[Tryz.ntmps162];simp) (by simp[OldL,Old,QV,stL]) ?_;have hlen:(stL s).length=5:=rfl;(repeat' (first|refine sD ?_ ?_<;>intro _|refine aAa ?_|(simp -dsimp only[↓RP,RQ,xa0,reduceIte,reduceCtorEq,xa1,xa2,xa3,xa4,hlen,QS,QT,QN])))
 all_goals try exact Ωa
 refine qj (fun(k:Nat)=>k≤m) (fun k=>⟨[(0,.ref false 1 (fun _=>.arr false false m 1 (fun i _=>.val (.int .i64 (u i))))),(3,.ptr 0 0),(5,.val (.int .i64 (ixF u s k))),(12,.arr false false m 1 (fun i _=>.val (.int .i64 (u i)))),(13,.val (.int .i64 (m:Nat))),(14,.val (.int .i64 (k:Nat)))],[(0,.cells 140 (stL s))],20+30*k⟩) (fun k=>m - k) 0 (xb6 _) (qf Ω (by simp[qM,Go.Sx.look,ixF]) (SubHp.refl _)) fun k hk=>?_;by_cases hkm:k<m
 ·have hlt:=decide_eq_true (Ω:((k:Nat):Int)<(m:Nat))
  have hsk:=gX (s:=s) (k:=k) Ω;have⟨b1,b2⟩:=vd hs hk;have⟨b3,b4⟩:=vd hs (k:=k+1) hkm;have b5:=wN hu hm hk;have b6:=wN hu hm (k:=k+1) hkm;have b7:=hu k hkm;have b8:=hs k hkm;have b9:0≤ixF u s k*(u k+1):=Int.mul_nonneg b1 Ω;rw[wg]at b3 b4;(repeat' (first|refine sD ?_ ?_<;>intro _|refine aAa ?_|(simp -dsimp only[↓RP,RQ,xa0,reduceIte,reduceCtorEq,xa1,xa2,xa3,xa4,hlt,hlen,QS,QT,QN])))
  all_goals try exact Ωa
  refine⟨_,hsk,?_⟩;(repeat' (first|refine sD ?_ ?_<;>intro _|refine aAa ?_|(simp -dsimp only[↓RP,RQ,xa0,reduceIte,reduceCtorEq,xa1,xa2,xa3,xa4,hlt,hlen,QS,QT,QN])))
  all_goals try exact Ωa
  refine⟨k+1,hkm,Ω,qf Ω (by simp[qM,Go.Sx.look,wg]) (SubHp.refl _)⟩
 ·obtain rfl:k=m:=by omega
  have hlt:=decide_eq_false (Ω:¬((k:Nat):Int)<(k:Nat));(repeat' (first|refine sD ?_ ?_<;>intro _|refine aAa ?_|(simp -dsimp only[↓RP,RQ,xa0,reduceIte,reduceCtorEq,xa1,xa2,xa3,xa4,hlt,hlen,QS,QT,QN])))
  all_goals try exact Ωa
theorem e72(H:List (Nat×Blk))(id tb mid m n:Nat)(u s:Nat→Int)(o full:Bool)(row:Nat→Nat→SV)(hU:Under H id)(htu:∀i,i<m→row i 0=.val (.int .i64 (u i)))(Z1 Z2 Z3:SV)(hm:m≤5)(hu:∀i,i<m→1≤u i∧u i≤12)(hs:∀i,i<m→0≤s i∧s i≤u i)(hn:ixF u s m=(n:Nat))
  (hid:tb<id) (hb:blk H tb=some (.cells 253 [.arr o full m 1 row,Z1,Z2,Z3,.mp mid])) (dom:Value→Bool) (get:Value→SV) (hmid:blk H mid=some (.map kfP dom get)) (hg:∀v,dom v=true→∃x:Int,get v=.val (.int .i64 x)) :
  EffVC Tryz.prog 72 [.ptr tb 0,.agg (stL s)] H id (fun hp' nid' res=>hp'=H∧id≤nid'∧res=B (dom (kp s n))):=by
 refine wK follows Tryz.func72 rfl Ωb Ωb (by rw[Tryz.ntmps72];simp) fun out=>?_;have hN0:blk H id=none:=hU.none (xa5 _);have hmi:=hU mid _ hmid;have NB:=(⟨nmA hid,nmA hmi,nmE (Ω:tb≠id),nmE (Ω:mid≠id)⟩:_∧_∧_∧_);unfold stL;(repeat' (first|refine sD ?_ ?_<;>intro _|refine aAa ?_|(simp -dsimp only[↓RP,RQ,xa0,reduceIte,reduceCtorEq,xa1,xa2,xa3,xa4,hb,hmid,TYX,NB,QS,QT,QN])))
 all_goals try exact Ωa
 have h162:=qnW m u s hm hu hs;rw[hn]at h162;unfold stL at h162;have hsub:Go.Sx.Sub ((id,.cells 140 [.val (.int .i64 (s 0)),.val (.int .i64 (s 1)),.val (.int .i64 (s 2)),.val (.int .i64 (s 3)),.val (.int .i64 (s 4))]) :: H) (.ref false 1 (fun _=>.arr false false m 1 (fun i _=>.val (.int .i64 (u i))))) (.ptr tb 0):=by
  simp only[Go.Sx.Sub,blk];rw[if_neg Ω,hb];intro j hj;obtain rfl:j=0:=by omega
  refine⟨?_,Ωi⟩;simp only[List.getD_cons_zero,xb1,Go.Sx.Sub];refine⟨Ωi,Ωi,trivial,trivial,fun i j hi hj=>?_⟩;obtain rfl:j=0:=by omega
  rw[htu i hi]
 refine qi h162 (by simp only[SubL,and_true];refine⟨hsub,by simp[Go.Sx.Sub,SubL]⟩) (by simp[Fresh,I]) ?_;(repeat' (first|refine sD ?_ ?_<;>intro _|refine aAa ?_|(simp -dsimp only[↓RP,RQ,xa0,reduceIte,reduceCtorEq,xa1,xa2,xa3,xa4,QT,hb,hmid,TYX,NB,QS,QN])))
 all_goals try exact Ωa
 refine⟨H,_,_,gt (fr':=[(0,_)]) ⟨.inr rfl,trivial⟩ (SubHp.skip hN0 (SubHp.refl _)),rfl,?hq,rfl⟩
 case hq=>omega
end Go.Tn
end
section
namespace Go.Tn
open Go.Proofs
open Go.RowKit
open Go.Sx
theorem TYZ:True∧qk Tryz.prog 251=some ⟨false,1,some [.slice none 0 0],.slice 140 5⟩∧qk Tryz.prog 253=some ⟨true,5,some [.slice none 0 0,.slice none 0 0,.slice none 0 0,.slice none 0 0,.map none],.struct [(0,1,some true),(1,1,some false),(2,1,some false),(3,1,some false),(4,1,some false)]⟩∧qX Tryz.prog 253=some [(0,1),(1,1),(2,1),(3,1),(4,1)]∧qk Tryz.prog 140=some ⟨true,5,some [.int .i64 0,.int .i64 0,.int .i64 0,.int .i64 0,.int .i64 0],.array 5 3 1⟩∧qX Tryz.prog 140=some [(0,1),(1,1),(2,1),(3,1),(4,1)]∧jh Tryz.prog 140=some [.i .i64,.i .i64,.i .i64,.i .i64,.i .i64]∧qk Tryz.prog 136=some ⟨false,1,some [.pointer none],.other⟩∧qk Tryz.prog 60=some ⟨false,1,some [.slice none 0 0],.slice 22 1⟩∧qk Tryz.prog 22=some ⟨false,1,some [.slice none 0 0],.slice 3 1⟩∧qk Tryz.prog 3=some ⟨false,1,some [.int .i64 0],.int .i64⟩∧qD Tryz.prog 140=40∧qD Tryz.prog 22=24∧qD Tryz.prog 3=8:=⟨trivial,Ωb,Ωb,Ωb,Ωb,Ωb,Ωb,Ωb,Ωb,Ωb,Ωb,Ωb,Ωb,Ωb⟩
def Ke(p:String):List Oper:=[{ dst:=some 27,op:=Op.load 136 (Operand.tmp 3),type:=136,pos:=p,after:=#[],guard:=none },{ dst:=some 28,op:=Op.load 136 (Operand.tmp 3),type:=136,pos:=p,after:=#[],guard:=none },{ dst:=some 29,op:=Op.nilCheck (Operand.tmp 28),type:=0,pos:=p,after:=#[{ on:=1,ground:=Ground.data }],guard:=none },{ dst:=some 30,op:=Op.fieldAddr 253 (Operand.tmp 29) 1,type:=0,pos:=p,after:=#[{ on:=2,ground:=Ground.data }],guard:=none },{ dst:=some 31,op:=Op.load 251 (Operand.tmp 30),type:=251,pos:=p,after:=#[{ on:=3,ground:=Ground.data }],guard:=none },{ dst:=some 32,op:=Op.load 140 (Operand.tmp 6),type:=140,pos:=p,after:=#[],guard:=none },{ dst:=some 33,op:=Op.buildSlice 251 1 #[(0,Operand.tmp 32)],type:=251,pos:=p,after:=#[{ on:=5,ground:=Ground.data }],guard:=none },{ dst:=some 34,op:=Op.call { callee:=Callee.builtin Builtin.append,args:=#[Operand.tmp 31,Operand.tmp 33],argTypes:=#[251,251] },type:=251,pos:=p,after:=#[{ on:=4,ground:=Ground.data },{ on:=6,ground:=Ground.data }],guard:=none },{ dst:=some 35,op:=Op.nilCheck (Operand.tmp 27),type:=0,pos:=p,after:=#[{ on:=0,ground:=Ground.data },{ on:=0,ground:=Ground.phase },{ on:=1,ground:=Ground.phase },{ on:=2,ground:=Ground.phase },{ on:=3,ground:=Ground.phase },{ on:=4,ground:=Ground.phase },{ on:=5,ground:=Ground.phase },{ on:=6,ground:=Ground.phase },{ on:=7,ground:=Ground.phase }],guard:=none },{ dst:=some 36,op:=Op.fieldAddr 253 (Operand.tmp 35) 1,type:=0,pos:=p,after:=#[{ on:=8,ground:=Ground.data },{ on:=0,ground:=Ground.phase },{ on:=1,ground:=Ground.phase },{ on:=2,ground:=Ground.phase },{ on:=3,ground:=Ground.phase },{ on:=4,ground:=Ground.phase },{ on:=5,ground:=Ground.phase },{ on:=6,ground:=Ground.phase },{ on:=7,ground:=Ground.phase }],guard:=none },{ dst:=none,op:=Op.store 251 (Operand.tmp 36) (Operand.tmp 34),type:=0,pos:=p,after:=#[{ on:=9,ground:=Ground.data },{ on:=7,ground:=Ground.data },{ on:=7,ground:=Ground.chain },{ on:=0,ground:=Ground.phase },{ on:=1,ground:=Ground.phase },{ on:=2,ground:=Ground.phase },{ on:=3,ground:=Ground.phase },{ on:=4,ground:=Ground.phase },{ on:=5,ground:=Ground.phase },{ on:=6,ground:=Ground.phase },{ on:=7,ground:=Ground.phase }],guard:=none }]
theorem ck7(p:String):ef3 (Ke p) 6 7 10=true:=by kernel_rfl
theorem qoO{O:Ctx}{p:String}{fr:List (Nat×SV)}{hp:List (Nat×Blk)}{nid id0 tp tb sid n:Nat}{K:Ex→St→Prop}{g:Tag K}{row:Nat→Nat→SV}{a0:SV}{a2:SV}{a3:SV}{a4:SV}{sp:Nat}{b0:SV}{b1:SV}{b2:SV}{b3:SV}{b4:SV}
  (h3:Go.Sx.look fr 3=.ptr tp 0) (hb:blk hp tp=some (.cells 136 [.ptr tb 0])) (hbt:blk hp tb=some (.cells 253 [a0,.vec sid n 5,a2,a3,a4])) (hbs:blk hp sid=some (.rows 140 5 n row)) (hne:tp<nid∧tb<nid∧sid<nid∧tp≠sid∧tb≠sid) (hn:n<100000) (hone:oneRows 1 5 (fun i j=>[b0,b1,b2,b3,b4].getD (i*5+j) .top)) (he:Go.Sx.look fr 6=.ptr sp 0) (hbe:blk hp sp=some (.cells 140 [b0,b1,b2,b3,b4])) (hsp:sp<nid∧sp≠sid)
  (hK:∀fr',(∀t,Go.Sx.look fr' t=FS (nth (dsts (Ke p))) (fun i=>([.ptr tb 0,.ptr tb 0,.ptr tb 0,.ptr tb 1,.vec sid n 5,.agg [b0,b1,b2,b3,b4],.vec (nid+11) 1 5,.vec (nid+40) (n+1) 5,.ptr tb 0,.ptr tb 1]:List SV).getD i .top) (fun _=>true) (Go.Sx.look fr) 11 t)→∃st2,Weak O ⟨fr',setBlk ((nid+40,.rows 140 5 (n+1) (fun i j=>if i<n then row i j else(fun i j=>[b0,b1,b2,b3,b4].getD (i*5+j) .top) (i - n) j)) :: dropBlk ((nid+11,.rows 140 5 1 (fun i j=>[b0,b1,b2,b3,b4].getD (i*5+j) .top)) :: hp) sid) tb (.cells 253 [a0,.vec (nid+40) (n+1) 5,a2,a3,a4]),nid+80+11⟩ st2∧K .normal st2) :
  gC Tryz.prog O id0 (Ke p) true ⟨fr,hp,nid⟩ K g:=by
 refine GC follows 6 7 10 (ck7 p) (fun i=>([.ptr tb 0,.ptr tb 0,.ptr tb 0,.ptr tb 1,.vec sid n 5,.agg [b0,b1,b2,b3,b4],.vec (nid+11) 1 5,.vec (nid+40) (n+1) 5,.ptr tb 0,.ptr tb 1]:List SV).getD i .top) ((nid+11,.rows 140 5 1 (fun i j=>[b0,b1,b2,b3,b4].getD (i*5+j) .top)) :: hp) ((nid+40,.rows 140 5 (n+1) (fun i j=>if i<n then row i j else(fun i j=>[b0,b1,b2,b3,b4].getD (i*5+j) .top) (i - n) j)) :: dropBlk ((nid+11,.rows 140 5 1 (fun i j=>[b0,b1,b2,b3,b4].getD (i*5+j) .top)) :: hp) sid) (setBlk ((nid+40,.rows 140 5 (n+1) (fun i j=>if i<n then row i j else(fun i j=>[b0,b1,b2,b3,b4].getD (i*5+j) .top) (i - n) j)) :: dropBlk ((nid+11,.rows 140 5 1 (fun i j=>[b0,b1,b2,b3,b4].getD (i*5+j) .top)) :: hp) sid) tb (.cells 253 [a0,.vec (nid+40) (n+1) 5,a2,a3,a4])) (nid+29) (nid+60) (nid+80) (fun H=>blk H tp=some (.cells 136 [.ptr tb 0])∧blk H tb=some (.cells 253 [a0,.vec sid n 5,a2,a3,a4])∧blk H sp=some (.cells 140 [b0,b1,b2,b3,b4])) ?_ _ (fun t=>rfl) ?_ ?_ ?_ ?_ ?_
 ·dsimp only
  have q1:∀x,x<nid→blk ((nid+11,.rows 140 5 1 (fun i j=>[b0,b1,b2,b3,b4].getD (i*5+j) .top)) :: hp) x=blk hp x:=fun x hx=>by simp only[blk];rw[if_neg Ω]
  have q2:∀x,x<nid→x≠sid→blk ((nid+40,.rows 140 5 (n+1) (fun i j=>if i<n then row i j else(fun i j=>[b0,b1,b2,b3,b4].getD (i*5+j) .top) (i - n) j)) :: dropBlk ((nid+11,.rows 140 5 1 (fun i j=>[b0,b1,b2,b3,b4].getD (i*5+j) .top)) :: hp) sid) x=blk hp x:=fun x hx hx2=>by
   simp only[blk];rw[if_neg Ω];rw[qq,if_neg hx2];exact q1 x hx
  obtain⟨n1,n2,n3,n4,n5⟩:=hne;obtain⟨m1,m2⟩:=hsp;simp only[q1 _ n1,q1 _ n2,q2 _ n1 n4,q2 _ n2 n5,hb,hbt,q1 _ m1,q2 _ m1 m2,hbe,and_self]
 ·unfold Ke at *
  simp only[J0];refine⟨?_,?_,?_,?_,?_,?_,?_,?_,?_,?_,?_,trivial⟩
  ·refine .inr fun F H hF hq=>?_
   have e:=hF 3 Ωu;simp[FS,nth,dsts,h3,he]at e;(simp -dsimp only[↓RP,RQ,xa0,reduceIte,reduceCtorEq,xa1,xa2,xa3,xa4,e,hq.1,hq.2.1,QV,TY,TYX,TYZ])
   first|exact .inl ⟨_,rfl,trivial⟩|exact .inr ⟨_,rfl,rfl⟩|exact .inl ⟨_,rfl,Ωi⟩
  ·refine .inr fun F H hF hq=>?_
   have e:=hF 3 Ωu;simp[FS,nth,dsts,h3,he]at e;(simp -dsimp only[↓RP,RQ,xa0,reduceIte,reduceCtorEq,xa1,xa2,xa3,xa4,e,hq.1,hq.2.1,QV,TY,TYX,TYZ])
   first|exact .inl ⟨_,rfl,trivial⟩|exact .inr ⟨_,rfl,rfl⟩|exact .inl ⟨_,rfl,Ωi⟩
  ·refine .inr fun F H hF hq=>?_
   have e:=hF 28 Ωu;simp[FS,nth,dsts,h3,he]at e;(simp -dsimp only[↓RP,RQ,xa0,reduceIte,reduceCtorEq,xa1,xa2,xa3,xa4,e,hq.1,hq.2.1,QV,TY,TYX,TYZ])
   first|exact .inl ⟨_,rfl,trivial⟩|exact .inr ⟨_,rfl,rfl⟩|exact .inl ⟨_,rfl,Ωi⟩
  ·refine .inr fun F H hF hq=>?_
   have e:=hF 29 Ωu;simp[FS,nth,dsts,h3,he]at e;(simp -dsimp only[↓RP,RQ,xa0,reduceIte,reduceCtorEq,xa1,xa2,xa3,xa4,e,hq.1,hq.2.1,QV,TY,TYX,TYZ])
   first|exact .inl ⟨_,rfl,trivial⟩|exact .inr ⟨_,rfl,rfl⟩|exact .inl ⟨_,rfl,Ωi⟩
  ·refine .inr fun F H hF hq=>?_
   have e:=hF 30 Ωu;simp[FS,nth,dsts,h3,he]at e;(simp -dsimp only[↓RP,RQ,xa0,reduceIte,reduceCtorEq,xa1,xa2,xa3,xa4,e,hq.1,hq.2.1,QV,TY,TYX,TYZ])
   first|exact .inl ⟨_,rfl,trivial⟩|exact .inr ⟨_,rfl,rfl⟩|exact .inl ⟨_,rfl,Ωi⟩
  ·refine .inr fun F H hF hq=>?_
   have e:=hF 6 Ωu;simp[FS,nth,dsts,h3,he]at e;(simp -dsimp only[↓RP,RQ,xa0,reduceIte,reduceCtorEq,xa1,xa2,xa3,xa4,e,hq.1,hq.2.1,hq.2.2,QV,TY,TYX,TYZ])
   first|exact .inl ⟨_,rfl,trivial⟩|exact .inr ⟨_,rfl,rfl⟩|exact .inl ⟨_,rfl,Ωi⟩
  ·exact .inl rfl
  ·exact .inl rfl
  ·refine .inr fun F H hF hq=>?_
   have e:=hF 27 Ωu;simp[FS,nth,dsts,h3,he]at e;(simp -dsimp only[↓RP,RQ,xa0,reduceIte,reduceCtorEq,xa1,xa2,xa3,xa4,e,hq.1,hq.2.1,QV,TY,TYX,TYZ])
   first|exact .inl ⟨_,rfl,trivial⟩|exact .inr ⟨_,rfl,rfl⟩|exact .inl ⟨_,rfl,Ωi⟩
  ·refine .inr fun F H hF hq=>?_
   have e:=hF 35 Ωu;simp[FS,nth,dsts,h3,he]at e;(simp -dsimp only[↓RP,RQ,xa0,reduceIte,reduceCtorEq,xa1,xa2,xa3,xa4,e,hq.1,hq.2.1,QV,TY,TYX,TYZ])
   first|exact .inl ⟨_,rfl,trivial⟩|exact .inr ⟨_,rfl,rfl⟩|exact .inl ⟨_,rfl,Ωi⟩
  ·exact .inl rfl
 ·intro o ho st1 hf hH hn1 K' hk
  simp only[Ke,xd7,xd6,Option.some.injEq]at ho;subst ho;have e:=hf 32 Ωu;simp[FS,nth,dsts,Ke]at e;have hk:=hk ⟨(st1.put (some 33) (.vec (nid+11) 1 5)).fr,(nid+11,.rows 140 5 1 (fun i j=>[b0,b1,b2,b3,b4].getD (i*5+j) .top)) :: hp,st1.nid⟩ (fun t=>rfl) rfl (by rw[hn1];show nid+11+1≤nid+29;omega);rw[show(⟨fr,hp,nid⟩:St).hp=hp from rfl]at hH;rw[hH];(simp -dsimp only[↓RP,RQ,xa0,reduceIte,reduceCtorEq,xa1,xa2,xa3,xa4,e,QV,TY,TYX,TYZ]);simp only[kj,St.put,true_and];rw[show(st1.hp:List (Nat×Blk))=hp from hH];rw[hn1]at hk ⊢;exact hk
 ·intro o ho st1 hf hH hn1 K' hk
  simp only[Ke,xd7,xd6,Option.some.injEq]at ho;subst ho;have e1:=hf 31 Ωz;have e2:=hf 33 Ωz;simp[FS,nth,dsts,Ke]at e1 e2;have hk:=hk ⟨(st1.put (some 34) (.vec (nid+40) (n+1) 5)).fr,(nid+40,.rows 140 5 (n+1) (fun i j=>if i<n then row i j else(fun i j=>[b0,b1,b2,b3,b4].getD (i*5+j) .top) (i - n) j)) :: dropBlk ((nid+11,.rows 140 5 1 (fun i j=>[b0,b1,b2,b3,b4].getD (i*5+j) .top)) :: hp) sid,st1.nid⟩ (fun t=>rfl) rfl (by rw[hn1];show nid+29+11+1≤nid+60;omega);rw[hn1]at hk ⊢;rw[show nid+29+(Ke p).length=nid+40 by show nid+29+11=nid+40;omega]at hk ⊢;have bs:blk ((nid+11,.rows 140 5 1 (fun i j=>[b0,b1,b2,b3,b4].getD (i*5+j) .top)) :: hp) sid=some (.rows 140 5 n row):=by simp only[blk];rw[if_neg Ω];exact hbs
  have bn:blk ((nid+11,.rows 140 5 1 (fun i j=>[b0,b1,b2,b3,b4].getD (i*5+j) .top)) :: hp) (nid+11)=some (.rows 140 5 1 (fun i j=>[b0,b1,b2,b3,b4].getD (i*5+j) .top)):=by simp only[blk,if_true]
  rw[hH];(simp -dsimp only[↓RP,RQ,xa0,reduceIte,reduceCtorEq,xa1,xa2,xa3,xa4,e1,e2,bs,bn,QV,TY,TYX,TYZ]);simp only[kj,St.put];rw[hH,show st1.nid=nid+40 by rw[hn1];show nid+29+11=nid+40;omega];exact⟨⟨⟨.inr trivial,xa5 _,hone,Ω⟩,Ω⟩,hk⟩
 ·intro o ho st1 hf hH hn1 K' hk
  simp only[Ke,xd7,xd6,Option.some.injEq]at ho;subst ho;have e1:=hf 36 Ωz;have e2:=hf 34 Ωz;simp[FS,nth,dsts,Ke]at e1 e2;have bt:blk ((nid+40,.rows 140 5 (n+1) (fun i j=>if i<n then row i j else(fun i j=>[b0,b1,b2,b3,b4].getD (i*5+j) .top) (i - n) j)) :: dropBlk ((nid+11,.rows 140 5 1 (fun i j=>[b0,b1,b2,b3,b4].getD (i*5+j) .top)) :: hp) sid) tb=some (.cells 253 [a0,.vec sid n 5,a2,a3,a4]):=by simp only[blk];rw[if_neg Ω,qq,if_neg Ω];simp only[blk];rw[if_neg Ω];exact hbt
  have hk:=hk ⟨st1.fr,setBlk ((nid+40,.rows 140 5 (n+1) (fun i j=>if i<n then row i j else(fun i j=>[b0,b1,b2,b3,b4].getD (i*5+j) .top) (i - n) j)) :: dropBlk ((nid+11,.rows 140 5 1 (fun i j=>[b0,b1,b2,b3,b4].getD (i*5+j) .top)) :: hp) sid) tb (.cells 253 [a0,.vec (nid+40) (n+1) 5,a2,a3,a4]),st1.nid⟩ (fun t=>rfl) rfl (by rw[hn1];show nid+60+11+1≤nid+80;omega);rw[hH];have g1:=eq_false (Ω:¬tb=nid+40);have g2:=eq_false (Ω:¬sid=nid+11);have g3:=eq_false (Ω:¬tb=nid+11);have g4:=eq_false (Ω:¬tb=sid);(simp -dsimp only[↓RP,RQ,xa0,reduceIte,reduceCtorEq,xa1,xa2,xa3,xa4,e1,e2,g1,g2,g3,g4,if_false,qq,hbt,QV,TY,TYX,TYZ]);simp only[kj,St.put];rw[hH];exact⟨(by first|exact trivial|simp),hk⟩
 ·intro st' hf hH hn1
  obtain⟨f1,f2,f3⟩:=st';dsimp only at hf hH hn1;subst hH hn1;exact hK f1 hf
def GF(p:String):List Oper:=[{ dst:=some 37,op:=Op.load 136 (Operand.tmp 3),type:=136,pos:=p,after:=#[],guard:=none },{ dst:=some 38,op:=Op.load 136 (Operand.tmp 3),type:=136,pos:=p,after:=#[],guard:=none },{ dst:=some 39,op:=Op.nilCheck (Operand.tmp 38),type:=0,pos:=p,after:=#[{ on:=1,ground:=Ground.data }],guard:=none },{ dst:=some 40,op:=Op.fieldAddr 253 (Operand.tmp 39) 3,type:=0,pos:=p,after:=#[{ on:=2,ground:=Ground.data }],guard:=none },{ dst:=some 41,op:=Op.load 22 (Operand.tmp 40),type:=22,pos:=p,after:=#[{ on:=3,ground:=Ground.data }],guard:=none },{ dst:=some 42,op:=Op.buildSlice 22 1 #[(0,Operand.const (Value.int IntKind.i64 (-1)))],type:=22,pos:=p,after:=#[],guard:=none },{ dst:=some 43,op:=Op.call { callee:=Callee.builtin Builtin.append,args:=#[Operand.tmp 41,Operand.tmp 42],argTypes:=#[22,22] },type:=22,pos:=p,after:=#[{ on:=4,ground:=Ground.data },{ on:=5,ground:=Ground.data }],guard:=none },{ dst:=some 44,op:=Op.nilCheck (Operand.tmp 37),type:=0,pos:=p,after:=#[{ on:=0,ground:=Ground.data },{ on:=0,ground:=Ground.phase },{ on:=1,ground:=Ground.phase },{ on:=2,ground:=Ground.phase },{ on:=3,ground:=Ground.phase },{ on:=4,ground:=Ground.phase },{ on:=5,ground:=Ground.phase },{ on:=6,ground:=Ground.phase }],guard:=none },{ dst:=some 45,op:=Op.fieldAddr 253 (Operand.tmp 44) 3,type:=0,pos:=p,after:=#[{ on:=7,ground:=Ground.data },{ on:=0,ground:=Ground.phase },{ on:=1,ground:=Ground.phase },{ on:=2,ground:=Ground.phase },{ on:=3,ground:=Ground.phase },{ on:=4,ground:=Ground.phase },{ on:=5,ground:=Ground.phase },{ on:=6,ground:=Ground.phase }],guard:=none },{ dst:=none,op:=Op.store 22 (Operand.tmp 45) (Operand.tmp 43),type:=0,pos:=p,after:=#[{ on:=8,ground:=Ground.data },{ on:=6,ground:=Ground.data },{ on:=6,ground:=Ground.chain },{ on:=0,ground:=Ground.phase },{ on:=1,ground:=Ground.phase },{ on:=2,ground:=Ground.phase },{ on:=3,ground:=Ground.phase },{ on:=4,ground:=Ground.phase },{ on:=5,ground:=Ground.phase },{ on:=6,ground:=Ground.phase }],guard:=none }]
theorem ck8(p:String):ef3 (GF p) 5 6 9=true:=by kernel_rfl
theorem qoP{O:Ctx}{p:String}{fr:List (Nat×SV)}{hp:List (Nat×Blk)}{nid id0 tp tb sid n:Nat}{K:Ex→St→Prop}{g:Tag K}{row:Nat→Nat→SV}{a0:SV}{a1:SV}{a2:SV}{a4:SV} 
  (h3:Go.Sx.look fr 3=.ptr tp 0) (hb:blk hp tp=some (.cells 136 [.ptr tb 0])) (hbt:blk hp tb=some (.cells 253 [a0,a1,a2,.vec sid n 1,a4])) (hbs:blk hp sid=some (.rows 3 1 n row)) (hne:tp<nid∧tb<nid∧sid<nid∧tp≠sid∧tb≠sid) (hn:n<100000) (hone:oneRows 1 1 (fun i j=>[.val (.int .i64 (-1))].getD (i+j) .top))
  (hK:∀fr',(∀t,Go.Sx.look fr' t=FS (nth (dsts (GF p))) (fun i=>([.ptr tb 0,.ptr tb 0,.ptr tb 0,.ptr tb 3,.vec sid n 1,.vec (nid+10) 1 1,.vec (nid+40) (n+1) 1,.ptr tb 0,.ptr tb 3]:List SV).getD i .top) (fun _=>true) (Go.Sx.look fr) 10 t)→∃st2,Weak O ⟨fr',setBlk ((nid+40,.rows 3 1 (n+1) (fun i j=>if i<n then row i j else(fun i j=>[.val (.int .i64 (-1))].getD (i+j) .top) (i - n) j)) :: dropBlk ((nid+10,.rows 3 1 1 (fun i j=>[.val (.int .i64 (-1))].getD (i+j) .top)) :: hp) sid) tb (.cells 253 [a0,a1,a2,.vec (nid+40) (n+1) 1,a4]),nid+80+10⟩ st2∧K .normal st2) :
  gC Tryz.prog O id0 (GF p) true ⟨fr,hp,nid⟩ K g:=by
 refine GC follows 5 6 9 (ck8 p) (fun i=>([.ptr tb 0,.ptr tb 0,.ptr tb 0,.ptr tb 3,.vec sid n 1,.vec (nid+10) 1 1,.vec (nid+40) (n+1) 1,.ptr tb 0,.ptr tb 3]:List SV).getD i .top) ((nid+10,.rows 3 1 1 (fun i j=>[.val (.int .i64 (-1))].getD (i+j) .top)) :: hp) ((nid+40,.rows 3 1 (n+1) (fun i j=>if i<n then row i j else(fun i j=>[.val (.int .i64 (-1))].getD (i+j) .top) (i - n) j)) :: dropBlk ((nid+10,.rows 3 1 1 (fun i j=>[.val (.int .i64 (-1))].getD (i+j) .top)) :: hp) sid) (setBlk ((nid+40,.rows 3 1 (n+1) (fun i j=>if i<n then row i j else(fun i j=>[.val (.int .i64 (-1))].getD (i+j) .top) (i - n) j)) :: dropBlk ((nid+10,.rows 3 1 1 (fun i j=>[.val (.int .i64 (-1))].getD (i+j) .top)) :: hp) sid) tb (.cells 253 [a0,a1,a2,.vec (nid+40) (n+1) 1,a4])) (nid+30) (nid+60) (nid+80) (fun H=>blk H tp=some (.cells 136 [.ptr tb 0])∧blk H tb=some (.cells 253 [a0,a1,a2,.vec sid n 1,a4])) ?_ _ (fun t=>rfl) ?_ ?_ ?_ ?_ ?_
 ·dsimp only
  have q1:∀x,x<nid→blk ((nid+10,.rows 3 1 1 (fun i j=>[.val (.int .i64 (-1))].getD (i+j) .top)) :: hp) x=blk hp x:=fun x hx=>by simp only[blk];rw[if_neg Ω]
  have q2:∀x,x<nid→x≠sid→blk ((nid+40,.rows 3 1 (n+1) (fun i j=>if i<n then row i j else(fun i j=>[.val (.int .i64 (-1))].getD (i+j) .top) (i - n) j)) :: dropBlk ((nid+10,.rows 3 1 1 (fun i j=>[.val (.int .i64 (-1))].getD (i+j) .top)) :: hp) sid) x=blk hp x:=fun x hx hx2=>by
   simp only[blk];rw[if_neg Ω];rw[qq,if_neg hx2];exact q1 x hx
  obtain⟨n1,n2,n3,n4,n5⟩:=hne;simp only[q1 _ n1,q1 _ n2,q2 _ n1 n4,q2 _ n2 n5,hb,hbt,and_self]
 ·unfold GF at *
  simp only[J0];refine⟨?_,?_,?_,?_,?_,?_,?_,?_,?_,?_,trivial⟩
  ·refine .inr fun F H hF hq=>?_
   have e:=hF 3 Ωu;simp[FS,nth,dsts,h3]at e;(simp -dsimp only[↓RP,RQ,xa0,reduceIte,reduceCtorEq,xa1,xa2,xa3,xa4,e,hq.1,hq.2,QV,TY,TYX,TYZ])
   first|exact .inl ⟨_,rfl,trivial⟩|exact .inr ⟨_,rfl,rfl⟩|exact .inl ⟨_,rfl,Ωi⟩
  ·refine .inr fun F H hF hq=>?_
   have e:=hF 3 Ωu;simp[FS,nth,dsts,h3]at e;(simp -dsimp only[↓RP,RQ,xa0,reduceIte,reduceCtorEq,xa1,xa2,xa3,xa4,e,hq.1,hq.2,QV,TY,TYX,TYZ])
   first|exact .inl ⟨_,rfl,trivial⟩|exact .inr ⟨_,rfl,rfl⟩|exact .inl ⟨_,rfl,Ωi⟩
  ·refine .inr fun F H hF hq=>?_
   have e:=hF 38 Ωu;simp[FS,nth,dsts,h3]at e;(simp -dsimp only[↓RP,RQ,xa0,reduceIte,reduceCtorEq,xa1,xa2,xa3,xa4,e,hq.1,hq.2,QV,TY,TYX,TYZ])
   first|exact .inl ⟨_,rfl,trivial⟩|exact .inr ⟨_,rfl,rfl⟩|exact .inl ⟨_,rfl,Ωi⟩
  ·refine .inr fun F H hF hq=>?_
   have e:=hF 39 Ωu;simp[FS,nth,dsts,h3]at e;(simp -dsimp only[↓RP,RQ,xa0,reduceIte,reduceCtorEq,xa1,xa2,xa3,xa4,e,hq.1,hq.2,QV,TY,TYX,TYZ])
   first|exact .inl ⟨_,rfl,trivial⟩|exact .inr ⟨_,rfl,rfl⟩|exact .inl ⟨_,rfl,Ωi⟩
  ·refine .inr fun F H hF hq=>?_
   have e:=hF 40 Ωu;simp[FS,nth,dsts,h3]at e;(simp -dsimp only[↓RP,RQ,xa0,reduceIte,reduceCtorEq,xa1,xa2,xa3,xa4,e,hq.1,hq.2,QV,TY,TYX,TYZ])
   first|exact .inl ⟨_,rfl,trivial⟩|exact .inr ⟨_,rfl,rfl⟩|exact .inl ⟨_,rfl,Ωi⟩
  ·exact .inl rfl
  ·exact .inl rfl
  ·refine .inr fun F H hF hq=>?_
   have e:=hF 37 Ωu;simp[FS,nth,dsts,h3]at e;(simp -dsimp only[↓RP,RQ,xa0,reduceIte,reduceCtorEq,xa1,xa2,xa3,xa4,e,hq.1,hq.2,QV,TY,TYX,TYZ])
   first|exact .inl ⟨_,rfl,trivial⟩|exact .inr ⟨_,rfl,rfl⟩|exact .inl ⟨_,rfl,Ωi⟩
  ·refine .inr fun F H hF hq=>?_
   have e:=hF 44 Ωu;simp[FS,nth,dsts,h3]at e;(simp -dsimp only[↓RP,RQ,xa0,reduceIte,reduceCtorEq,xa1,xa2,xa3,xa4,e,hq.1,hq.2,QV,TY,TYX,TYZ])
   first|exact .inl ⟨_,rfl,trivial⟩|exact .inr ⟨_,rfl,rfl⟩|exact .inl ⟨_,rfl,Ωi⟩
  ·exact .inl rfl
 ·intro o ho st1 hf hH hn1 K' hk
  simp only[GF,xd7,xd6,Option.some.injEq]at ho;subst ho;have hk:=hk ⟨(st1.put (some 42) (.vec (nid+10) 1 1)).fr,(nid+10,.rows 3 1 1 (fun i j=>[.val (.int .i64 (-1))].getD (i+j) .top)) :: hp,st1.nid⟩ (fun t=>rfl) rfl (by rw[hn1];show nid+10+1≤nid+30;omega);rw[show(⟨fr,hp,nid⟩:St).hp=hp from rfl]at hH;rw[hH];(simp -dsimp only[↓RP,RQ,xa0,reduceIte,reduceCtorEq,xa1,xa2,xa3,xa4,QV,TY,TYX,TYZ]);simp only[kj,St.put,true_and];rw[show(st1.hp:List (Nat×Blk))=hp from hH];rw[hn1]at hk ⊢;exact hk
 ·intro o ho st1 hf hH hn1 K' hk
  simp only[GF,xd7,xd6,Option.some.injEq]at ho;subst ho;have e1:=hf 41 Ωz;have e2:=hf 42 Ωz;simp[FS,nth,dsts,GF]at e1 e2;have hk:=hk ⟨(st1.put (some 43) (.vec (nid+40) (n+1) 1)).fr,(nid+40,.rows 3 1 (n+1) (fun i j=>if i<n then row i j else(fun i j=>[.val (.int .i64 (-1))].getD (i+j) .top) (i - n) j)) :: dropBlk ((nid+10,.rows 3 1 1 (fun i j=>[.val (.int .i64 (-1))].getD (i+j) .top)) :: hp) sid,st1.nid⟩ (fun t=>rfl) rfl (by rw[hn1];show nid+30+10+1≤nid+60;omega);rw[hn1]at hk ⊢;rw[show nid+30+(GF p).length=nid+40 by show nid+30+10=nid+40;omega]at hk ⊢;have bs:blk ((nid+10,.rows 3 1 1 (fun i j=>[.val (.int .i64 (-1))].getD (i+j) .top)) :: hp) sid=some (.rows 3 1 n row):=by simp only[blk];rw[if_neg Ω];exact hbs
  have bn:blk ((nid+10,.rows 3 1 1 (fun i j=>[.val (.int .i64 (-1))].getD (i+j) .top)) :: hp) (nid+10)=some (.rows 3 1 1 (fun i j=>[.val (.int .i64 (-1))].getD (i+j) .top)):=by simp only[blk,if_true]
  rw[hH];(simp -dsimp only[↓RP,RQ,xa0,reduceIte,reduceCtorEq,xa1,xa2,xa3,xa4,e1,e2,bs,bn,QV,TY,TYX,TYZ]);simp only[kj,St.put];rw[hH,show st1.nid=nid+40 by rw[hn1];show nid+30+10=nid+40;omega];exact⟨⟨⟨.inr trivial,xa5 _,hone,Ω⟩,Ω⟩,hk⟩
 ·intro o ho st1 hf hH hn1 K' hk
  simp only[GF,xd7,xd6,Option.some.injEq]at ho;subst ho;have e1:=hf 45 Ωz;have e2:=hf 43 Ωz;simp[FS,nth,dsts,GF]at e1 e2;have bt:blk ((nid+40,.rows 3 1 (n+1) (fun i j=>if i<n then row i j else(fun i j=>[.val (.int .i64 (-1))].getD (i+j) .top) (i - n) j)) :: dropBlk ((nid+10,.rows 3 1 1 (fun i j=>[.val (.int .i64 (-1))].getD (i+j) .top)) :: hp) sid) tb=some (.cells 253 [a0,a1,a2,.vec sid n 1,a4]):=by simp only[blk];rw[if_neg Ω,qq,if_neg Ω];simp only[blk];rw[if_neg Ω];exact hbt
  have hk:=hk ⟨st1.fr,setBlk ((nid+40,.rows 3 1 (n+1) (fun i j=>if i<n then row i j else(fun i j=>[.val (.int .i64 (-1))].getD (i+j) .top) (i - n) j)) :: dropBlk ((nid+10,.rows 3 1 1 (fun i j=>[.val (.int .i64 (-1))].getD (i+j) .top)) :: hp) sid) tb (.cells 253 [a0,a1,a2,.vec (nid+40) (n+1) 1,a4]),st1.nid⟩ (fun t=>rfl) rfl (by rw[hn1];show nid+60+10+1≤nid+80;omega);rw[hH];have g1:=eq_false (Ω:¬tb=nid+40);have g2:=eq_false (Ω:¬sid=nid+10);have g3:=eq_false (Ω:¬tb=nid+10);have g4:=eq_false (Ω:¬tb=sid);(simp -dsimp only[↓RP,RQ,xa0,reduceIte,reduceCtorEq,xa1,xa2,xa3,xa4,e1,e2,g1,g2,g3,g4,if_false,qq,hbt,QV,TY,TYX,TYZ]);simp only[kj,St.put];rw[hH];exact⟨(by first|exact trivial|simp),hk⟩
 ·intro st' hf hH hn1
  obtain⟨f1,f2,f3⟩:=st';dsimp only at hf hH hn1;subst hH hn1;exact hK f1 hf
def vy(p:String):List Oper:=[{ dst:=some 86,op:=Op.load 136 (Operand.tmp 3),type:=136,pos:=p,after:=#[],guard:=none },{ dst:=some 87,op:=Op.load 136 (Operand.tmp 3),type:=136,pos:=p,after:=#[],guard:=none },{ dst:=some 88,op:=Op.nilCheck (Operand.tmp 87),type:=0,pos:=p,after:=#[{ on:=1,ground:=Ground.data }],guard:=none },{ dst:=some 89,op:=Op.fieldAddr 253 (Operand.tmp 88) 2,type:=0,pos:=p,after:=#[{ on:=2,ground:=Ground.data }],guard:=none },{ dst:=some 90,op:=Op.load 60 (Operand.tmp 89),type:=60,pos:=p,after:=#[{ on:=3,ground:=Ground.data }],guard:=none },{ dst:=some 91,op:=Op.load 22 (Operand.tmp 9),type:=22,pos:=p,after:=#[],guard:=none },{ dst:=some 92,op:=Op.buildSlice 60 1 #[(0,Operand.tmp 91)],type:=60,pos:=p,after:=#[{ on:=5,ground:=Ground.data }],guard:=none },{ dst:=some 93,op:=Op.call { callee:=Callee.builtin Builtin.append,args:=#[Operand.tmp 90,Operand.tmp 92],argTypes:=#[60,60] },type:=60,pos:=p,after:=#[{ on:=4,ground:=Ground.data },{ on:=6,ground:=Ground.data }],guard:=none },{ dst:=some 94,op:=Op.nilCheck (Operand.tmp 86),type:=0,pos:=p,after:=#[{ on:=0,ground:=Ground.data },{ on:=0,ground:=Ground.phase },{ on:=1,ground:=Ground.phase },{ on:=2,ground:=Ground.phase },{ on:=3,ground:=Ground.phase },{ on:=4,ground:=Ground.phase },{ on:=5,ground:=Ground.phase },{ on:=6,ground:=Ground.phase },{ on:=7,ground:=Ground.phase }],guard:=none },{ dst:=some 95,op:=Op.fieldAddr 253 (Operand.tmp 94) 2,type:=0,pos:=p,after:=#[{ on:=8,ground:=Ground.data },{ on:=0,ground:=Ground.phase },{ on:=1,ground:=Ground.phase },{ on:=2,ground:=Ground.phase },{ on:=3,ground:=Ground.phase },{ on:=4,ground:=Ground.phase },{ on:=5,ground:=Ground.phase },{ on:=6,ground:=Ground.phase },{ on:=7,ground:=Ground.phase }],guard:=none },{ dst:=none,op:=Op.store 60 (Operand.tmp 95) (Operand.tmp 93),type:=0,pos:=p,after:=#[{ on:=9,ground:=Ground.data },{ on:=7,ground:=Ground.data },{ on:=7,ground:=Ground.chain },{ on:=0,ground:=Ground.phase },{ on:=1,ground:=Ground.phase },{ on:=2,ground:=Ground.phase },{ on:=3,ground:=Ground.phase },{ on:=4,ground:=Ground.phase },{ on:=5,ground:=Ground.phase },{ on:=6,ground:=Ground.phase },{ on:=7,ground:=Ground.phase }],guard:=none }]
theorem qoQ(p:String):ef3 (vy p) 6 7 10=true:=by kernel_rfl
theorem qlE{O:Ctx}{p:String}{fr:List (Nat×SV)}{hp:List (Nat×Blk)}{nid id0 tp tb sid n:Nat}{K:Ex→St→Prop}{g:Tag K}{row:Nat→Nat→SV}{a0:SV}{a1:SV}{a3:SV}{a4:SV}{sp:Nat}{xi xn:Nat}
  (h3:Go.Sx.look fr 3=.ptr tp 0) (hb:blk hp tp=some (.cells 136 [.ptr tb 0])) (hbt:blk hp tb=some (.cells 253 [a0,a1,.vec sid n 1,a3,a4])) (hbs:blk hp sid=some (.rows 22 1 n row)) (hne:tp<nid∧tb<nid∧sid<nid∧tp≠sid∧tb≠sid) (hn:n<100000) (hone:oneRows 1 1 (fun i j=>[.vec xi xn 1].getD (i+j) .top)) (he:Go.Sx.look fr 9=.ptr sp 0) (hbe:blk hp sp=some (.cells 22 [.vec xi xn 1])) (hsp:sp<nid∧sp≠sid)
  (hK:∀fr',(∀t,Go.Sx.look fr' t=FS (nth (dsts (vy p))) (fun i=>([.ptr tb 0,.ptr tb 0,.ptr tb 0,.ptr tb 2,.vec sid n 1,.vec xi xn 1,.vec (nid+11) 1 1,.vec (nid+40) (n+1) 1,.ptr tb 0,.ptr tb 2]:List SV).getD i .top) (fun _=>true) (Go.Sx.look fr) 11 t)→∃st2,Weak O ⟨fr',setBlk ((nid+40,.rows 22 1 (n+1) (fun i j=>if i<n then row i j else(fun i j=>[.vec xi xn 1].getD (i+j) .top) (i - n) j)) :: dropBlk ((nid+11,.rows 22 1 1 (fun i j=>[.vec xi xn 1].getD (i+j) .top)) :: hp) sid) tb (.cells 253 [a0,a1,.vec (nid+40) (n+1) 1,a3,a4]),nid+80+11⟩ st2∧K .normal st2) :
  gC Tryz.prog O id0 (vy p) true ⟨fr,hp,nid⟩ K g:=by
 refine GC follows 6 7 10 (qoQ p) (fun i=>([.ptr tb 0,.ptr tb 0,.ptr tb 0,.ptr tb 2,.vec sid n 1,.vec xi xn 1,.vec (nid+11) 1 1,.vec (nid+40) (n+1) 1,.ptr tb 0,.ptr tb 2]:List SV).getD i .top) ((nid+11,.rows 22 1 1 (fun i j=>[.vec xi xn 1].getD (i+j) .top)) :: hp) ((nid+40,.rows 22 1 (n+1) (fun i j=>if i<n then row i j else(fun i j=>[.vec xi xn 1].getD (i+j) .top) (i - n) j)) :: dropBlk ((nid+11,.rows 22 1 1 (fun i j=>[.vec xi xn 1].getD (i+j) .top)) :: hp) sid) (setBlk ((nid+40,.rows 22 1 (n+1) (fun i j=>if i<n then row i j else(fun i j=>[.vec xi xn 1].getD (i+j) .top) (i - n) j)) :: dropBlk ((nid+11,.rows 22 1 1 (fun i j=>[.vec xi xn 1].getD (i+j) .top)) :: hp) sid) tb (.cells 253 [a0,a1,.vec (nid+40) (n+1) 1,a3,a4])) (nid+29) (nid+60) (nid+80) (fun H=>blk H tp=some (.cells 136 [.ptr tb 0])∧blk H tb=some (.cells 253 [a0,a1,.vec sid n 1,a3,a4])∧blk H sp=some (.cells 22 [.vec xi xn 1])) ?_ _ (fun t=>rfl) ?_ ?_ ?_ ?_ ?_
 ·dsimp only
  have q1:∀x,x<nid→blk ((nid+11,.rows 22 1 1 (fun i j=>[.vec xi xn 1].getD (i+j) .top)) :: hp) x=blk hp x:=fun x hx=>by simp only[blk];rw[if_neg Ω]
  have q2:∀x,x<nid→x≠sid→blk ((nid+40,.rows 22 1 (n+1) (fun i j=>if i<n then row i j else(fun i j=>[.vec xi xn 1].getD (i+j) .top) (i - n) j)) :: dropBlk ((nid+11,.rows 22 1 1 (fun i j=>[.vec xi xn 1].getD (i+j) .top)) :: hp) sid) x=blk hp x:=fun x hx hx2=>by
   simp only[blk];rw[if_neg Ω];rw[qq,if_neg hx2];exact q1 x hx
  obtain⟨n1,n2,n3,n4,n5⟩:=hne;obtain⟨m1,m2⟩:=hsp;simp only[q1 _ n1,q1 _ n2,q2 _ n1 n4,q2 _ n2 n5,hb,hbt,q1 _ m1,q2 _ m1 m2,hbe,and_self]
 ·unfold vy at *
  simp only[J0];refine⟨?_,?_,?_,?_,?_,?_,?_,?_,?_,?_,?_,trivial⟩
  ·refine .inr fun F H hF hq=>?_
   have e:=hF 3 Ωu;simp[FS,nth,dsts,h3,he]at e;(simp -dsimp only[↓RP,RQ,xa0,reduceIte,reduceCtorEq,xa1,xa2,xa3,xa4,e,hq.1,hq.2.1,QV,TY,TYX,TYZ])
   first|exact .inl ⟨_,rfl,trivial⟩|exact .inr ⟨_,rfl,rfl⟩|exact .inl ⟨_,rfl,Ωi⟩
  ·refine .inr fun F H hF hq=>?_
   have e:=hF 3 Ωu;simp[FS,nth,dsts,h3,he]at e;(simp -dsimp only[↓RP,RQ,xa0,reduceIte,reduceCtorEq,xa1,xa2,xa3,xa4,e,hq.1,hq.2.1,QV,TY,TYX,TYZ])
   first|exact .inl ⟨_,rfl,trivial⟩|exact .inr ⟨_,rfl,rfl⟩|exact .inl ⟨_,rfl,Ωi⟩
  ·refine .inr fun F H hF hq=>?_
   have e:=hF 87 Ωu;simp[FS,nth,dsts,h3,he]at e;(simp -dsimp only[↓RP,RQ,xa0,reduceIte,reduceCtorEq,xa1,xa2,xa3,xa4,e,hq.1,hq.2.1,QV,TY,TYX,TYZ])
   first|exact .inl ⟨_,rfl,trivial⟩|exact .inr ⟨_,rfl,rfl⟩|exact .inl ⟨_,rfl,Ωi⟩
  ·refine .inr fun F H hF hq=>?_
   have e:=hF 88 Ωu;simp[FS,nth,dsts,h3,he]at e;(simp -dsimp only[↓RP,RQ,xa0,reduceIte,reduceCtorEq,xa1,xa2,xa3,xa4,e,hq.1,hq.2.1,QV,TY,TYX,TYZ])
   first|exact .inl ⟨_,rfl,trivial⟩|exact .inr ⟨_,rfl,rfl⟩|exact .inl ⟨_,rfl,Ωi⟩
  ·refine .inr fun F H hF hq=>?_
   have e:=hF 89 Ωu;simp[FS,nth,dsts,h3,he]at e;(simp -dsimp only[↓RP,RQ,xa0,reduceIte,reduceCtorEq,xa1,xa2,xa3,xa4,e,hq.1,hq.2.1,QV,TY,TYX,TYZ])
   first|exact .inl ⟨_,rfl,trivial⟩|exact .inr ⟨_,rfl,rfl⟩|exact .inl ⟨_,rfl,Ωi⟩
  ·refine .inr fun F H hF hq=>?_
   have e:=hF 9 Ωu;simp[FS,nth,dsts,h3,he]at e;(simp -dsimp only[↓RP,RQ,xa0,reduceIte,reduceCtorEq,xa1,xa2,xa3,xa4,e,hq.1,hq.2.1,hq.2.2,QV,TY,TYX,TYZ])
   first|exact .inl ⟨_,rfl,trivial⟩|exact .inr ⟨_,rfl,rfl⟩|exact .inl ⟨_,rfl,Ωi⟩
  ·exact .inl rfl
  ·exact .inl rfl
  ·refine .inr fun F H hF hq=>?_
   have e:=hF 86 Ωu;simp[FS,nth,dsts,h3,he]at e;(simp -dsimp only[↓RP,RQ,xa0,reduceIte,reduceCtorEq,xa1,xa2,xa3,xa4,e,hq.1,hq.2.1,QV,TY,TYX,TYZ])
   first|exact .inl ⟨_,rfl,trivial⟩|exact .inr ⟨_,rfl,rfl⟩|exact .inl ⟨_,rfl,Ωi⟩
  ·refine .inr fun F H hF hq=>?_
   have e:=hF 94 Ωu;simp[FS,nth,dsts,h3,he]at e;(simp -dsimp only[↓RP,RQ,xa0,reduceIte,reduceCtorEq,xa1,xa2,xa3,xa4,e,hq.1,hq.2.1,QV,TY,TYX,TYZ])
   first|exact .inl ⟨_,rfl,trivial⟩|exact .inr ⟨_,rfl,rfl⟩|exact .inl ⟨_,rfl,Ωi⟩
  ·exact .inl rfl
 ·intro o ho st1 hf hH hn1 K' hk
  simp only[vy,xd7,xd6,Option.some.injEq]at ho;subst ho;have e:=hf 91 Ωu;simp[FS,nth,dsts,vy]at e;have hk:=hk ⟨(st1.put (some 92) (.vec (nid+11) 1 1)).fr,(nid+11,.rows 22 1 1 (fun i j=>[.vec xi xn 1].getD (i+j) .top)) :: hp,st1.nid⟩ (fun t=>rfl) rfl (by rw[hn1];show nid+11+1≤nid+29;omega);rw[show(⟨fr,hp,nid⟩:St).hp=hp from rfl]at hH;rw[hH];(simp -dsimp only[↓RP,RQ,xa0,reduceIte,reduceCtorEq,xa1,xa2,xa3,xa4,e,QV,TY,TYX,TYZ]);simp only[kj,St.put,true_and];rw[show(st1.hp:List (Nat×Blk))=hp from hH];rw[hn1]at hk ⊢;exact hk
 ·intro o ho st1 hf hH hn1 K' hk
  simp only[vy,xd7,xd6,Option.some.injEq]at ho;subst ho;have e1:=hf 90 Ωz;have e2:=hf 92 Ωz;simp[FS,nth,dsts,vy]at e1 e2;have hk:=hk ⟨(st1.put (some 93) (.vec (nid+40) (n+1) 1)).fr,(nid+40,.rows 22 1 (n+1) (fun i j=>if i<n then row i j else(fun i j=>[.vec xi xn 1].getD (i+j) .top) (i - n) j)) :: dropBlk ((nid+11,.rows 22 1 1 (fun i j=>[.vec xi xn 1].getD (i+j) .top)) :: hp) sid,st1.nid⟩ (fun t=>rfl) rfl (by rw[hn1];show nid+29+11+1≤nid+60;omega);rw[hn1]at hk ⊢;rw[show nid+29+(vy p).length=nid+40 by show nid+29+11=nid+40;omega]at hk ⊢;have bs:blk ((nid+11,.rows 22 1 1 (fun i j=>[.vec xi xn 1].getD (i+j) .top)) :: hp) sid=some (.rows 22 1 n row):=by simp only[blk];rw[if_neg Ω];exact hbs
  have bn:blk ((nid+11,.rows 22 1 1 (fun i j=>[.vec xi xn 1].getD (i+j) .top)) :: hp) (nid+11)=some (.rows 22 1 1 (fun i j=>[.vec xi xn 1].getD (i+j) .top)):=by simp only[blk,if_true]
  rw[hH];(simp -dsimp only[↓RP,RQ,xa0,reduceIte,reduceCtorEq,xa1,xa2,xa3,xa4,e1,e2,bs,bn,QV,TY,TYX,TYZ]);simp only[kj,St.put];rw[hH,show st1.nid=nid+40 by rw[hn1];show nid+29+11=nid+40;omega];exact⟨⟨⟨.inr trivial,xa5 _,hone,Ω⟩,Ω⟩,hk⟩
 ·intro o ho st1 hf hH hn1 K' hk
  simp only[vy,xd7,xd6,Option.some.injEq]at ho;subst ho;have e1:=hf 95 Ωz;have e2:=hf 93 Ωz;simp[FS,nth,dsts,vy]at e1 e2;have bt:blk ((nid+40,.rows 22 1 (n+1) (fun i j=>if i<n then row i j else(fun i j=>[.vec xi xn 1].getD (i+j) .top) (i - n) j)) :: dropBlk ((nid+11,.rows 22 1 1 (fun i j=>[.vec xi xn 1].getD (i+j) .top)) :: hp) sid) tb=some (.cells 253 [a0,a1,.vec sid n 1,a3,a4]):=by simp only[blk];rw[if_neg Ω,qq,if_neg Ω];simp only[blk];rw[if_neg Ω];exact hbt
  have hk:=hk ⟨st1.fr,setBlk ((nid+40,.rows 22 1 (n+1) (fun i j=>if i<n then row i j else(fun i j=>[.vec xi xn 1].getD (i+j) .top) (i - n) j)) :: dropBlk ((nid+11,.rows 22 1 1 (fun i j=>[.vec xi xn 1].getD (i+j) .top)) :: hp) sid) tb (.cells 253 [a0,a1,.vec (nid+40) (n+1) 1,a3,a4]),st1.nid⟩ (fun t=>rfl) rfl (by rw[hn1];show nid+60+11+1≤nid+80;omega);rw[hH];have g1:=eq_false (Ω:¬tb=nid+40);have g2:=eq_false (Ω:¬sid=nid+11);have g3:=eq_false (Ω:¬tb=nid+11);have g4:=eq_false (Ω:¬tb=sid);(simp -dsimp only[↓RP,RQ,xa0,reduceIte,reduceCtorEq,xa1,xa2,xa3,xa4,e1,e2,g1,g2,g3,g4,if_false,qq,hbt,QV,TY,TYX,TYZ]);simp only[kj,St.put];rw[hH];exact⟨(by first|exact trivial|simp),hk⟩
 ·intro st' hf hH hn1
  obtain⟨f1,f2,f3⟩:=st';dsimp only at hf hH hn1;subst hH hn1;exact hK f1 hf
end Go.Tn
end
