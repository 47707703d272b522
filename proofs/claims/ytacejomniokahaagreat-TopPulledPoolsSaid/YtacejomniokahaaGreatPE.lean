/- A part of the proof. -/
import Derived.Test.YtacejomniokahaaGreatPC
open Nat renaming reduceMul→xa0,reduceAdd→xa1,reduceEqDiff→xa2,reduceLT→xa3,reduceLeDiff→xa4,le_refl→xa5,eq_of_beq_eq_true→xa6,le_of_ble_eq_true→xa7,mul_le_mul_right→xa8,lt_of_lt_of_le→xa9,zero_add→xb0,add_zero→xb1,zero_testBit→xb3,lt_succ_self→xb5,zero_le→xb6,sub_self→xb8,le_succ→xc4,add_comm→xc5
open List renaming getD_eq_getElem?_getD→xc6,getElem?_eq_getElem→xc7,length_append→xc8,getElem?_append_left→xc9,getElem?_append_right→xd0,length_singleton→xd1,append_nil→xd3,mem_append→xd4,mem_cons_self→xd5,getElem?_cons_succ→xd7,length_replicate→xd8,length_take→xd9,mem_singleton→xe0,length_map→xe1,getElem?_range→xe3,length_cons→xe4,length_set→xe5
open Bool renaming and_eq_true→xe6,false_eq_true→xe7,or_eq_true→xe8,true_and→xf0,and_true→xf1,or_false→xf3,false_or→xf4
open Array renaming getD_eq_getD_getElem?→xf5,getElem?_toList→xf6,length_toList→xf7
open Classical renaming byContradiction→xf9
set_option linter.unusedVariables false
set_option linter.unusedSimpArgs false
set_option linter.defProp false
set_option linter.constructorNameAsVariable false
set_option maxRecDepth 1000000
set_option maxHeartbeats 16000000
section
namespace Go.Tn
open Go.Proofs
open Go.Sx
theorem c70(m:Nat)(u:Nat→Int)(hm:m≤1000000):qf Tryz.prog 70 [hsv m u] (I (ckH m u)):=by
 refine qg Tryz.func70 rfl Ωd follows Ωd _ _ (by rw[Tryz.ntmps70];simp) Ωy ?_;unfold hsv I;have h1:=J6 (m:Nat) 1 5;have h2:=c76 m u 1 12 hm;(repeat' (first|refine sD ?_ ?_<;>intro _|refine aAa ?_|(simp -dsimp only[↓RP,RQ,xa0,reduceIte,reduceCtorEq,xa1,xa2,xa3,xa4,QT,QN])))
 all_goals try exact Ωb
 refine qj (h1) Ωc Ωa ?_;by_cases g1:1≤m∧m≤5
 ·have f1:=decide_eq_true (Ω:(1:Int)≤(m:Nat)∧((m:Nat):Int)≤5)
  (repeat' (first|refine sD ?_ ?_<;>intro _|refine aAa ?_|(simp -dsimp only[↓RP,RQ,xa0,reduceIte,reduceCtorEq,xa1,xa2,xa3,xa4,f1,QT,QN])))
  all_goals try exact Ωb
  refine qj (h2) Ωc Ωa ?_;by_cases g2:wR u m 1 12
  ·have f2:=decide_eq_true g2
   have h3:=qoy m u g1.2 g2;(repeat' (first|refine sD ?_ ?_<;>intro _|refine aAa ?_|(simp -dsimp only[↓RP,RQ,xa0,reduceIte,reduceCtorEq,xa1,xa2,xa3,xa4,f2,QT,QN])))
   all_goals try exact Ωb
   refine qj (h3) Ωc Ωa ?_;have hb:=QY g2 g1.2 (xa5 m);(repeat' (first|refine sD ?_ ?_<;>intro _|refine aAa ?_|(simp -dsimp only[↓RP,RQ,xa0,reduceIte,reduceCtorEq,xa1,xa2,xa3,xa4,QT,QN])))
   all_goals try exact Ωb
   ·refine jQ ?_
    unfold ckH;rw[if_neg (fun e=>e g1),if_neg (fun e=>e g2),if_pos Ω]
   ·refine jQ ?_
    unfold ckH;rw[if_neg (fun e=>e g1),if_neg (fun e=>e g2),if_neg Ω]
  ·have f2:=decide_eq_false g2
   (repeat' (first|refine sD ?_ ?_<;>intro _|refine aAa ?_|(simp -dsimp only[↓RP,RQ,xa0,reduceIte,reduceCtorEq,xa1,xa2,xa3,xa4,f2,QT,QN])))
   all_goals try exact Ωb
   refine jQ ?_;unfold ckH;rw[if_neg (fun e=>e g1),if_pos g2]
 ·have f1:=decide_eq_false (show ¬((1:Int)≤(m:Nat)∧((m:Nat):Int)≤5) by omega)
  (repeat' (first|refine sD ?_ ?_<;>intro _|refine aAa ?_|(simp -dsimp only[↓RP,RQ,xa0,reduceIte,reduceCtorEq,xa1,xa2,xa3,xa4,f1,QT,QN])))
  all_goals try exact Ωb
  refine jQ ?_;unfold ckH;rw[if_pos g1]
theorem c66(m:Nat)(u:Nat→Int)(hm:m≤1000000):qf Tryz.prog 66 [hsv m u] (I (ckH m u)):=by
 refine qg Tryz.func66 rfl Ωd follows Ωd _ _ (by rw[Tryz.ntmps66];simp) Ωy ?_;unfold hsv I;by_cases g1:1≤m∧m≤5
 rotate_left
 ·(repeat' (first|refine sD ?_ ?_<;>intro _|refine aA ?_|(simp -dsimp only[↓RP,RQ,xa0,reduceIte,reduceCtorEq,xa1,xa2,xa3,xa4,jL,QT,QN])))
  all_goals try exact Ωb
  all_goals (refine jQ ?_;unfold ckH;rw[if_pos g1])
 (repeat' (first|refine sD ?_ ?_<;>intro _|refine aA ?_|(simp -dsimp only[↓RP,RQ,xa0,reduceIte,reduceCtorEq,xa1,xa2,xa3,xa4,jL,QT,QN])))
 all_goals try exact Ωb
 refine qn (fun(k:Nat)=>k≤m∧∀i,i<k→1≤u i∧u i≤12) (fun k=>⟨[(1,.ptr 0 0),(3,.val (.int .i64 1)),(4,.val (.int .i64 (k:Nat)))],[(0,.cells 24 [.arr false false m 1 (fun i _=>.val (.int .i64 (u i)))])],20⟩) (fun k=>m - k) 0 ⟨xb6 _,fun i hi=>by omega⟩ (gR [] [] ?_ ?_ ?_) fun k hk=>?_
 iterate 3 focus((simp -dsimp only[↓RP,RQ,xa0,reduceIte,reduceCtorEq,xa1,xa2,xa3,xa4,QV]);all_goals (try simp[QV]))
 obtain⟨hk,ha⟩:=hk;by_cases hlt:k<m
 ·by_cases g2:1≤u k∧u k≤12
  ·(repeat' (first|refine sD ?_ ?_<;>intro _|refine aA ?_|(simp -dsimp only[↓RP,RQ,xa0,reduceIte,reduceCtorEq,xa1,xa2,xa3,xa4,jL,QT,QN])))
   all_goals try exact Ωb
   refine⟨k+1,⟨Ω,fun i hi=>?_⟩,Ω,gR [] [] ?_ ?_ ?_⟩
   ·by_cases e:i=k
    ·subst e;exact g2
    ·exact ha i Ω
   iterate 3 focus((simp -dsimp only[↓RP,RQ,xa0,reduceIte,reduceCtorEq,xa1,xa2,xa3,xa4,QV]);all_goals (try simp[QV]))
  ·(repeat' (first|refine sD ?_ ?_<;>intro _|refine aA ?_|(simp -dsimp only[↓RP,RQ,xa0,reduceIte,reduceCtorEq,xa1,xa2,xa3,xa4,jL,QT,QN])))
   all_goals try exact Ωb
   all_goals (refine jQ ?_;unfold ckH;rw[if_neg (fun e=>e g1),if_pos (fun e:wR u m 1 12=>g2 (e k hlt))])
 have hkm:m=k:=by omega
 subst hkm;have g2:wR u m 1 12:=ha;(repeat' (first|refine sD ?_ ?_<;>intro _|refine aA ?_|(simp -dsimp only[↓RP,RQ,xa0,reduceIte,reduceCtorEq,xa1,xa2,xa3,xa4,jL,QT,QN])))
 all_goals try exact Ωb
 refine qn (fun(k:Nat)=>k≤m) (fun k=>⟨[(1,.ptr 0 0),(3,.val (.int .i64 (prd u k))),(5,.val (.int .i64 (k:Nat)))],[(0,.cells 24 [.arr false false m 1 (fun i _=>.val (.int .i64 (u i)))])],60⟩) (fun k=>m - k) 0 (xb6 _) (gR [] [] ?_ ?_ ?_) fun k hk=>?_
 iterate 3 focus((simp -dsimp only[↓RP,RQ,xa0,reduceIte,reduceCtorEq,xa1,xa2,xa3,xa4,QV,prd]);all_goals (try simp[QV]))
 have b0:=QY g2 g1.2 hk;by_cases hlt:k<m
 ·have b1:=QY g2 g1.2 (show k+1≤m from hlt)
  rw[jL]at b1;have hk2:=ha k hlt;(repeat' (first|refine sD ?_ ?_<;>intro _|refine aA ?_|(simp -dsimp only[↓RP,RQ,xa0,reduceIte,reduceCtorEq,xa1,xa2,xa3,xa4,jL,QT,QN])))
  all_goals try exact Ωb
  refine⟨k+1,Ω,Ω,gR [] [] ?_ ?_ ?_⟩
  iterate 3 focus((simp -dsimp only[↓RP,RQ,xa0,reduceIte,reduceCtorEq,xa1,xa2,xa3,xa4,QV,jL]);all_goals (try simp[QV]))
 have hkm:m=k:=by omega
 subst hkm;(repeat' (first|refine sD ?_ ?_<;>intro _|refine aA ?_|(simp -dsimp only[↓RP,RQ,xa0,reduceIte,reduceCtorEq,xa1,xa2,xa3,xa4,jL,QT,QN])))
 all_goals try exact Ωb
 ·refine jQ ?_
  unfold ckH;rw[if_neg (fun e=>e g1),if_neg (fun e=>e g2),if_pos Ω]
 ·refine jQ ?_
  unfold ckH;rw[if_neg (fun e=>e g1),if_neg (fun e=>e g2),if_neg Ω]
end Go.Tn
end
section
namespace Go.He
structure Wd where
 a:Int
 b:Int
 k:Int
def Lk(w:Wd)(x y:Int):Prop:=(w.a=x∧w.b=y)∨(w.k=1∧w.b=x∧w.a=y)
inductive Go(w:Nat→Wd)(m:Nat)(x:Int):Nat→Int→Prop
 |nil:Go w m x 0 x
 |snoc {d:Nat} {y z:Int} (i:Nat) (h:Go w m x d y) (hi:i<m) (hl:Lk (w i) y z):Go w m x (d+1) z
structure Fit(w:Nat→Wd)(m:Nat)(n:Int):Prop where
 a:∀i,i<m→0≤(w i).a∧(w i).a<n
 b:∀i,i<m→0≤(w i).b∧(w i).b<n
 ne:∀i,i<m→(w i).a≠(w i).b
 k:∀i,i<m→0≤(w i).k∧(w i).k≤2
open Classical in
noncomputable def cnt(P:Int→Prop):Nat→Nat
 |0=>0
 |n+1=>cnt P n+(if P n then 1 else 0)
def Wi(w:Nat→Wd)(m:Nat)(x:Int)(d:Nat)(y:Int):Prop:=∃e,e≤d∧Go w m x e y
def Bef(w:Nat→Wd)(m:Nat)(x y:Int):Prop:=∃i d e,i<m∧(w i).k=0∧Go w m x d (w i).a∧Go w m (w i).b e y
def Loop(w:Nat→Wd)(m:Nat):Prop:=∃i d,i<m∧(w i).k=0∧Go w m (w i).b d (w i).a
noncomputable def key(w:Nat→Wd)(m n:Nat)(x:Int):Nat:=cnt (fun y=>Bef w m y x) n
end Go.He
end
section
namespace Go.He
def rkN(g:Nat→Int)(i:Nat):Nat→Int
 |0=>1
 |k+1=>if g k<g i then rkN g i k+1 else rkN g i k
def rk(g:Nat→Int)(n i:Nat):Int:=rkN g i n
def Fin(g:Nat→Int)(n:Nat):Prop:=∀i,i<n→g i=rk g n i
instance(g:Nat→Int)(n:Nat):Decidable (Fin g n):=by unfold Fin;infer_instance
def dg(n j t i:Nat):Nat:=t / n^(j - 1 - i) % n
def enc(n:Nat)(f:Nat→Nat):Nat→Nat
 |0=>0
 |j+1=>enc n f j*n+f j
end Go.He
end
section
namespace Go.He
end Go.He
end
section
namespace Go.He
def lst(p:Nat→Bool):Nat→List Nat
 |0=>[]
 |T+1=>if p T=true then lst p T++[T]else lst p T
theorem mem_lst{p:Nat→Bool}{t:Nat}:∀{T:Nat},t∈lst p T↔t<T∧p t=true
 |0=>by simp[lst]
 |T+1=>by
  simp only[lst];split
  ·rename_i h
   rw[xd4,mem_lst (T:=T),xe0];constructor
   ·rintro(⟨a,b⟩|rfl)
    ·exact⟨Ω,b⟩
    ·exact⟨Ω,h⟩
   ·rintro⟨a,b⟩
    by_cases e:t=T
    ·exact .inr e
    ·exact .inl ⟨Ω,b⟩
  ·rename_i h
   rw[mem_lst (T:=T)];constructor
   ·rintro⟨a,b⟩;exact⟨Ω,b⟩
   ·rintro⟨a,b⟩
    by_cases e:t=T
    ·subst e;exact absurd b h
    ·exact⟨Ω,b⟩
theorem yu(p:Nat→Bool):∀T:Nat,(lst p T).Nodup
 |0=>List.nodup_nil
 |T+1=>by
  simp only[lst];split
  ·refine List.nodup_append.2 ⟨yu p T,Ωh,fun a ha b hb=>?_⟩
   rw[xe0]at hb;have:=(mem_lst.1 ha).1;omega
  ·exact yu p T
theorem qcy(p:Nat→Bool):∀T:Nat,(lst p T).length≤T
 |0=>xa5 0
 |T+1=>by
  simp only[lst];have:=qcy p T;split
  ·rw[xc8];simp;omega
  ·omega
theorem qjV{φ:Nat→Nat}:∀{l m:List Nat},l.Nodup→(∀a,a∈l→φ a∈m)→(∀a b,a∈l→b∈l→φ a=φ b→a=b)→l.length≤m.length
 |[],_,_,_,_=>xb6 _
 |a :: l,m,hn,hm,hi=>by
  rw[List.nodup_cons]at hn;have h1:=hm a Ωh;have:=qjV (φ:=φ) (l:=l) (m:=m.erase (φ a)) hn.2 (fun b hb=>by
   refine(List.mem_erase_of_ne fun e=>?_).2 (hm b (by simp[hb]));have:=hi b a (by simp[hb]) Ωh e;exact hn.1 (this▸hb)) fun b c hb hc=>hi b c (by simp[hb]) (by simp[hc])
  rw[List.length_erase_of_mem h1]at this;have h2:=List.length_pos_of_mem h1;simp only[xe4];omega
end Go.He
end
section
namespace Go.He
structure Mi(S:Nat→Prop)(N:Nat):Prop where
 none:N=0→∀L,¬S L
 some:N≠0→S N
 le:∀L,S L→N≤L
end Go.He
end
section
namespace Go.He
def stI(w:Nat→Wd)(a b:Int):Nat→Option Nat
 |0=>none
 |i+1=>if (w i).k=0∧(w i).a=a∧(w i).b=b then some i else stI w a b i
def wkI(w:Nat→Wd)(a b:Int):Nat→Option Nat
 |0=>none
 |i+1=>if (w i).k≠0∧(((w i).a=a∧(w i).b=b)∨((w i).k=1∧(w i).b=a∧(w i).a=b))then some i else wkI w a b i
def lkI(w:Nat→Wd)(m:Nat)(a b:Int):Option Nat:=match stI w a b m with|some i=>some i|none=>wkI w a b m
structure Bs where
 wait:List Nat
 ways:Nat→List Nat
 seen:Nat→Bool
def upN{α:Type}(f:Nat→α)(k:Nat)(x:α)(j:Nat):α:=if j=k then x else f j
def stp(w:Nat→Wd)(m a:Nat)(s:Bs)(b:Nat):Bs:=
 match lkI w m a b with
 |some i=>if s.seen b=false then⟨s.wait++[b],upN s.ways b (s.ways a++[i]),upN s.seen b true⟩else s
 |none=>s
def inn(w:Nat→Wd)(m a:Nat)(s:Bs):Nat→Bs
 |0=>s
 |b+1=>stp w m a (inn w m a s b) b
def pop(s:Bs):Bs:=⟨s.wait.tail,s.ways,s.seen⟩
inductive Wy(w:Nat→Wd)(m:Nat)(x:Int):List Nat→Int→Prop
 |nil:Wy w m x [] x
 |snoc {l:List Nat} {y z:Int} (i:Nat) (h:Wy w m x l y) (hi:i<m) (hl:Lk (w i) y z):Wy w m x (l++[i]) z
end Go.He
end
section
namespace Go.He
def cF(l:List Nat)(j:Nat):Int:=(l.getD j 0:Nat)
structure Cc(w:Nat→Wd)(m n:Nat)(c:List Nat):Prop where
 ex:∃i l,c=i :: l∧i<m∧(w i).k=0∧Wy w m (w i).b l (w i).a
def Pz(w:Nat→Wd)(m:Nat)(S:Nat→Nat→Prop)(L:Nat):Prop:=∃one two i d:Nat,S one two∧i<m∧(w i).k=0∧(w i).a=one∧(w i).b=two∧Go w m (w i).b d (w i).a∧L=d+1
structure Bt(w:Nat→Wd)(m n:Nat)(S:Nat→Nat→Prop)(best:List Nat):Prop where
 mi:Mi (Pz w m S) best.length
 ok:best≠[]→Cc w m n best
end Go.He
end
section
namespace Go.He
structure Inc(l:List Nat)(f b:Nat):Prop where
 p:l.Pairwise (· < ·)
 m:∀x,x∈l→f≤x∧x<b
theorem V4(p:Nat→Bool):∀T:Nat,Inc (lst p T) 0 T
 |0=>⟨List.Pairwise.nil,fun x hx=>by cases hx⟩
 |T+1=>by
  have ih:=V4 p T;refine⟨?_,fun x hx=>⟨xb6 _,(mem_lst.1 hx).1⟩⟩;simp only[lst];split
  ·refine List.pairwise_append.2 ⟨ih.p,Ωh,fun x hx y hy=>?_⟩
   rw[xe0]at hy;have:=(ih.m x hx).2;omega
  ·exact ih.p
end Go.He
end
section
namespace Go.He
def zR(s m:Nat):List Nat:=lst (fun i=>s.testBit i) m
end Go.He
end
section
namespace Go.Tn
open Go.Proofs
open Go.Sx
open Go.He
theorem g7(l:List Nat)(x i:Nat):(l++[x]).getD i 0=if i<l.length then l.getD i 0 else if i=l.length then x else 0:=by
 rw[xc6,xc6];by_cases h:i<l.length
 ·rw[if_pos h,xc9 h]
 ·rw[if_neg h,xd0 Ω]
  by_cases e:i=l.length
  ·rw[if_pos e,e];simp
  ·rw[if_neg e,List.getElem?_eq_none Ωj];rfl
theorem j6(l:List Nat)(x:Nat):(l++[x]).length=l.length+1:=by simp
theorem one1(a:Int):∀(i j:Nat),i<1→j<1→oneCell ([.val (.int .i64 a)].getD (i+j) SV.top)=true:=by
 intro i j hi hj;obtain rfl:i=0:=by omega
 obtain rfl:j=0:=by omega
 rfl
def nsv(l:List Nat):SV:=.arr true false l.length 1 (fun i _=>.val (.int .i64 (l.getD i 0:Nat)))
theorem qnC(L:List Nat)(k:Nat):∀(i:Nat),i<L.length+1→(if i<L.length then SV.val (.int .i64 (L[i]?.getD 0:Nat))else [SV.val (.int .i64 (k:Nat))][i - L.length]?.getD SV.top)=SV.val (.int .i64 ((if i<L.length then L[i]?.getD 0 else if i=L.length then k else 0:Nat):Nat)):=by
 intro i hi;by_cases h:i<L.length
 ·rw[if_pos h,if_pos h]
 ·obtain rfl:i=L.length:=by omega
  rw[if_neg h,if_neg h,if_pos rfl,xb8];rfl
def vAt(u:Nat→Int)(v:Int)(i:Nat):Bool:=decide (v=u i)
theorem qnD(m:Nat)(u:Nat→Int)(v:Int)(hm:m≤1000000):qf Tryz.prog 169 [qA m u,I v] (I (gK (vAt u v) 0 m)):=by
 refine qg Tryz.func169 rfl Ωd follows Ωd _ _ (by rw[Tryz.ntmps169];simp) Ωy ?_;unfold qA I;(repeat' (first|refine sD ?_ ?_<;>intro _|refine aA ?_|(simp -dsimp only[↓RP,RQ,xa0,reduceIte,reduceCtorEq,xa1,xa2,xa3,xa4,QT,QN])));refine qn (fun i=>i≤m∧gK (vAt u v) 0 m=gK (vAt u v) i (m - i)) (fun i=>⟨[(0,.arr false false m 1 (fun i _=>.val (.int .i64 (u i)))),(1,.val (.int .i64 v)),(7,.val (.int .i64 m)),(8,.val (.int .i64 i))],[],0⟩) (fun i=>m - i) 0 ⟨xb6 _,rfl⟩ (gR [] [] ?_ ?_ ?_) fun i hi=>?_
 iterate 3 focus((simp -dsimp only[↓RP,RQ,xa0,reduceIte,reduceCtorEq,xa1,xa2,xa3,xa4,QV]);all_goals (try simp[QV]))
 obtain⟨hi,he⟩:=hi;have e1:∀k,m - i=k+1→gK (vAt u v) i (m - i)=if vAt u v i=true then(i:Int)else gK (vAt u v) (i+1) k:=fun k hk=>by rw[hk];rfl
 by_cases hlt:i<m
 ·have e2:=e1 (m -(i+1)) Ω
  (repeat' (first|refine sD ?_ ?_<;>intro _|refine aA ?_|(simp -dsimp only[↓RP,RQ,xa0,reduceIte,reduceCtorEq,xa1,xa2,xa3,xa4,QT,QN])))
  all_goals try exact Ωb
  ·rename_i h
   refine jQ ?_;rw[he,e2,if_pos (by simpa[vAt]using h)]
  ·rename_i h
   refine⟨i+1,⟨Ω,?_⟩,Ω,gR [] [] ?_ ?_ ?_⟩
   ·rw[he,e2,if_neg (by simpa[vAt]using h)]
   iterate 3 focus((simp -dsimp only[↓RP,RQ,xa0,reduceIte,reduceCtorEq,xa1,xa2,xa3,xa4,QV]);all_goals (try simp[QV]))
 ·(repeat' (first|refine sD ?_ ?_<;>intro _|refine aA ?_|(simp -dsimp only[↓RP,RQ,xa0,reduceIte,reduceCtorEq,xa1,xa2,xa3,xa4,QT,QN])))
  all_goals try exact Ωb
  refine jQ ?_;have:m - i=0:=by omega
  rw[he,this];rfl
theorem c79(m:Nat)(u:Nat→Int)(v:Int)(hm:m≤1000000):qf Tryz.prog 79 [qA m u,I v] (B (decide (QW (vAt u v) m))):=by
 refine qg Tryz.func79 rfl Ωd follows Ωd _ _ (by rw[Tryz.ntmps79];simp) Ωy ?_;unfold qA I B;(repeat' (first|refine sD ?_ ?_<;>intro _|refine aA ?_|(with_reducible refine qj (qnD m u v hm) ?_ ?_ ?_;iterate 2 focus((simp -dsimp only[↓RP,RQ,xa0,reduceIte,reduceCtorEq,xa1,xa2,xa3,xa4,QV,hsv,qA,I,B]);all_goals (try simp[QV,Go.Sx.Sub,Go.Sx.SubL]);all_goals (try exact qov _ _)))|(simp -dsimp only[↓RP,RQ,xa0,reduceIte,reduceCtorEq,xa1,xa2,xa3,xa4,QT,QN])))
 all_goals (refine wu ?_;rw[Bool.eq_iff_iff];simp[←QX])
theorem qeT{s K:Nat}(h:s / 2^K=0):∀m,K≤m→zR s m=zR s K:=by
 intro m hm;obtain⟨d,rfl⟩:∃d,m=K+d:=⟨m - K,Ω⟩;clear hm
 induction d with
 |zero=>rfl
 |succ d ih=>
  have hb:s.testBit (K+d)=false:=by
   refine Nat.testBit_lt_two_pow ?_;have h1:s<2^K:=by
    rcases Nat.div_eq_zero_iff.1 h with h|h
    ·exact absurd h (by have:=Nat.two_pow_pos K;omega)
    ·exact h
   exact xa9 h1 (Nat.pow_le_pow_right Ωr Ω)
  show lst _ (K+d+1)=_;simp only[lst];rw[if_neg (by simp[hb])];exact ih
theorem qcz(s k:Nat):zR s (k+1)=if s.testBit k=true then zR s k++[k]else zR s k:=rfl
theorem qcA(s:Nat):zR s 0=[]:=rfl
theorem J7(s m:Nat):(zR s m).length≤m:=qcy _ _
theorem qcB(s i:Nat):((s:Nat):Int).fdiv (2^i)=((s / 2^i:Nat):Int):=by
 rw[Int.fdiv_eq_ediv_of_nonneg _ (Int.le_of_lt (Int.pow_pos Ωr))];have e:((2:Int)^i)=((2^i:Nat):Int):=by simp
 rw[e,←Int.natCast_ediv]
theorem qhe(s i:Nat):decide (((s / 2^i &&& 1:Nat):Int)=1)=s.testBit i:=by
 rw[Nat.testBit_eq_decide_div_mod_eq,Nat.and_one_is_mod,Bool.eq_iff_iff,decide_eq_true_eq,decide_eq_true_eq];omega
theorem c16(s m:Nat)(hm:m≤12)(hs:s<2^m):qf Tryz.prog 16 [I s] (nsv (zR s m)):=by
 refine qg Tryz.func16 rfl Ωd follows Ωd _ _ (by rw[Tryz.ntmps16];simp) (by simp[OldL,Old,QV,I]) ?_;have h4:s<4096:=xa9 hs (Nat.pow_le_pow_right (n:=2) Ωr hm);unfold I;(repeat' (first|refine sD ?_ ?_<;>intro _|refine aAb ?_|(simp -dsimp only[↓RP,RQ,xa0,reduceIte,reduceCtorEq,xa1,xa2,xa3,xa4,g7,j6,nsv,qcB,qhe,QT,QN])))
 all_goals try exact Ωb
 refine qn (fun(i:Nat)=>i≤m) (fun i=>⟨[(0,.val (.int .i64 (s:Nat))),(3,.vec 60 (zR s i).length 1),(4,.val (.int .i64 (i:Nat)))],[(60,.rows 3 1 (zR s i).length (fun y _=>.val (.int .i64 ((zR s i).getD y 0:Nat))))],80⟩) (fun i=>m - i) 0 (xb6 _) (gR [(60,none)] [] ?_ ?_ ?_) fun i hi=>?_
 iterate 3 focus((simp -dsimp only[↓RP,RQ,xa0,reduceIte,reduceCtorEq,xa1,xa2,xa3,xa4,QV,qcA]);all_goals (try simp[QV,qcA]))
 have hbl:=J7 s i;have hd:=Nat.div_le_self s (2^i);have hb6:i≤IntKind.i64.bits:=by show i≤64;omega
 obtain⟨D,hD⟩:∃D,s / 2^i=D:=⟨_,rfl⟩;have hA:D &&& 1≤1:=Nat.and_le_right;by_cases hz:D=0
 ·have e:=qeT (hD.trans hz) m hi
  rw[e];have f0:=decide_eq_false (Ω:¬(0:Int)<((D:Nat):Int));rw[hD]at hd;(repeat' (first|refine sD ?_ ?_<;>intro _|refine aAb ?_|(simp -dsimp only[↓RP,RQ,xa0,reduceIte,reduceCtorEq,xa1,xa2,xa3,xa4,hD,f0,g7,j6,nsv,qcB,qhe,QT,QN])))
  all_goals try exact Ωb
  exact xa5 _
 ·have f0:=decide_eq_true (Ω:(0:Int)<((D:Nat):Int))
  have him:i<m:=by
   refine xf9 fun hc=>hz ?_;have:i=m:=by omega
   subst this;rw[←hD];exact Nat.div_eq_of_lt hs
  have ha1:=qhe s i;rw[hD]at hd ha1;cases ht:s.testBit i with
  |true=>
   have e:=qcz s i;rw[if_pos ht]at e;rw[ht]at ha1;(repeat' (first|refine sD ?_ ?_<;>intro _|refine aAb ?_|(simp -dsimp only[↓RP,RQ,xa0,reduceIte,reduceCtorEq,xa1,xa2,xa3,xa4,hD,f0,ha1,g7,j6,nsv,qcB,qhe,QT,QN])))
   all_goals try exact Ωb
   refine⟨i+1,Ω,Ω,gR [(60,some 92)] [] ?_ ?_ ?_⟩
   ·(simp -dsimp only[↓RP,RQ,xa0,reduceIte,reduceCtorEq,xa1,xa2,xa3,xa4,QV,e,j6,g7]);all_goals (try simp[QV,e,j6,g7])
   ·(simp -dsimp only[↓RP,RQ,xa0,reduceIte,reduceCtorEq,xa1,xa2,xa3,xa4,QV,e,j6,g7]);all_goals (try simp[QV,e,j6,g7]);all_goals first|exact qnC _ _|skip
   ·(simp -dsimp only[↓RP,RQ,xa0,reduceIte,reduceCtorEq,xa1,xa2,xa3,xa4,QV]);all_goals (try simp[QV])
  |false=>
   have e:=qcz s i;rw[if_neg (by simp[ht])]at e;rw[ht]at ha1;(repeat' (first|refine sD ?_ ?_<;>intro _|refine aAb ?_|(simp -dsimp only[↓RP,RQ,xa0,reduceIte,reduceCtorEq,xa1,xa2,xa3,xa4,hD,f0,ha1,g7,j6,nsv,qcB,qhe,QT,QN])))
   all_goals try exact Ωb
   refine⟨i+1,Ω,Ω,gR [] [] ?_ ?_ ?_⟩
   iterate 2 focus((simp -dsimp only[↓RP,RQ,xa0,reduceIte,reduceCtorEq,xa1,xa2,xa3,xa4,QV,e]);all_goals (try simp[QV,e]))
   ·(simp -dsimp only[↓RP,RQ,xa0,reduceIte,reduceCtorEq,xa1,xa2,xa3,xa4,QV]);all_goals (try simp[QV])
theorem qoA(a:Nat)(h1:1≤a)(h2:a≤100000)(u:Nat→Int):qf Tryz.prog 170 [qA a u] (.arr true false a 1 (fun i _=>.val (.int .i64 (u i)))):=by
 refine qg Tryz.func170 rfl Ωd follows Ωd _ _ (by rw[Tryz.ntmps170];simp) Ωy ?_;unfold qA;(repeat' (first|refine sD ?_ ?_<;>intro _|refine aAa ?_|(simp -dsimp only[↓RP,RQ,xa0,reduceIte,reduceCtorEq,xa1,xa2,xa3,xa4,QT,QN])))
 all_goals (intro i j hi hj;simp)
theorem c15(m:Nat)(u:Nat→Int)(hm:m≤100000):qf Tryz.prog 15 [hsv m u] (.arr true false m 1 (fun _ _=>.val (.int .i64 0))):=by
 refine qg Tryz.func15 rfl Ωd follows Ωd _ _ (by rw[Tryz.ntmps15];simp) Ωy ?_;unfold hsv;(repeat' (first|refine sD ?_ ?_<;>intro _|refine aAa ?_|(simp -dsimp only[↓RP,RQ,xa0,reduceIte,reduceCtorEq,xa1,xa2,xa3,xa4,QT,QN])))
 all_goals try exact Ωb
 all_goals (try simp[QV])
end Go.Tn
end
section
namespace Go.Sx
open Go.RowKit
noncomputable section
inductive Q8(β:Type):Type
 |mk (a b c d e f g h:β)
def T8(α:Type):Nat→Type
 |0=>Option α
 |n+1=>Q8 (T8 α n)
def Tr(n:Nat)(α:Type):Type:=T8 α n
inductive XB:Type
 |cells (t:TypeId) (l:List SV)
 |rows (t:TypeId) (k n:Nat) (l:List SV)
 |loop (s:RSt)
 |map (ag:Bool) (ls:List Lf) (es:List (Value×Option SV))
inductive Q:Type
 |mk (s:SV) (hp:Tr 6 XB) (nid:Nat)
inductive R:Type
 |ok (q:Q)
 |bad (c id:Nat)
variable{ρ:Q}
section
variable{α β:Type}
def ql(n:Nat)(f:Nat→β):β:=Nat.rec (f 0) (fun m _=>f (Nat.succ m)) n
theorem qi(n:Nat)(f:Nat→β):ql n f=f n:=by cases n<;>rfl
def Yv(n:Int)(f:Int→β):β:=Int.rec (fun a=>ql a fun a=>f (.ofNat a)) (fun a=>ql a fun a=>f (.negSucc a)) n
theorem jr(n:Int)(f:Int→β):Yv n f=f n:=by cases n<;>exact qi _ (fun a=>f _)
def Kj(b:Bool)(f:Bool→β):β:=Bool.rec (f false) (f true) b
theorem QZ(b:Bool)(f:Bool→β):Kj b f=f b:=by cases b<;>rfl
def gC(l:List α)(f:List α→β):β:=(List.rec (motive:=fun _=>(List α→β)→β) (fun f=>f []) (fun a _ ih f=>ih fun l=>f (a :: l)) l) f
theorem qU(l:List α):∀(f:List α→β),gC l f=f l:=by
 induction l with
 |nil=>intro f;rfl
 |cons a l ih=>intro f;exact ih fun l=>f (a :: l)
inductive Bx(α:Type):Type
 |mk (a:α)
def Bx.get(b:Bx α):α:=Bx.rec (fun a=>a) b
def em8(α:Type):(n:Nat)→T8 α n
 |0=>none
 |n+1=>.mk (em8 α n) (em8 α n) (em8 α n) (em8 α n) (em8 α n) (em8 α n) (em8 α n) (em8 α n)
def Tr.nil{n:Nat}{α:Type}:Tr n α:=em8 α n
def J8(k:Nat)(x0 x1 x2 x3 x4 x5 x6 x7:β):β:=Nat.rec x0 (fun k _=>Nat.rec x1 (fun k _=>Nat.rec x2 (fun k _=>Nat.rec x3 (fun k _=>Nat.rec x4 (fun k _=>Nat.rec x5 (fun k _=>Nat.rec x6 (fun _ _=>x7) k) k) k) k) k) k) k
def Yw(k:Nat)(t:Q8 β):β:=Q8.rec (fun a b c d e f g h=>J8 k a b c d e f g h) t
def qmp(k:Nat)(t:Q8 β)(y:β):Q8 β:=Q8.rec (fun a b c d e f g h=>J8 k (.mk y b c d e f g h) (.mk a y c d e f g h) (.mk a b y d e f g h) (.mk a b c y e f g h) (.mk a b c d y f g h) (.mk a b c d e y g h) (.mk a b c d e f y h) (.mk a b c d e f g y)) t
theorem Yx{k:Nat}(h:k<8):k=0∨k=1∨k=2∨k=3∨k=4∨k=5∨k=6∨k=7:=by omega
theorem qhf{k j:Nat}(hk:k<8)(hj:j<8)(t:Q8 β)(y:β):Yw j (qmp k t y)=if j=k then y else Yw j t:=by
 cases t;rcases Yx hk with rfl|rfl|rfl|rfl|rfl|rfl|rfl|rfl<;>rcases Yx hj with rfl|rfl|rfl|rfl|rfl|rfl|rfl|rfl<;>rfl
def yK(α:Type)(n:Nat):Nat→Bx (T8 α n→Option α):=Nat.rec (motive:=fun n=>Nat→Bx (T8 α n→Option α)) (fun i=>Nat.rec (.mk fun t=>t) (fun _ _=>.mk fun _=>none) i)
 (fun n ih i=>ql (i / 8) fun k=>Bx.rec (fun q=>J8 (i % 8) (.mk fun t=>Q8.rec (motive:=fun _=>Option α) (fun a _ _ _ _ _ _ _=>q a) t) (.mk fun t=>Q8.rec (motive:=fun _=>Option α) (fun _ a _ _ _ _ _ _=>q a) t) (.mk fun t=>Q8.rec (motive:=fun _=>Option α) (fun _ _ a _ _ _ _ _=>q a) t) (.mk fun t=>Q8.rec (motive:=fun _=>Option α) (fun _ _ _ a _ _ _ _=>q a) t) (.mk fun t=>Q8.rec (motive:=fun _=>Option α) (fun _ _ _ _ a _ _ _=>q a) t) (.mk fun t=>Q8.rec (motive:=fun _=>Option α) (fun _ _ _ _ _ a _ _=>q a) t) (.mk fun t=>Q8.rec (motive:=fun _=>Option α) (fun _ _ _ _ _ _ a _=>q a) t) (.mk fun t=>Q8.rec (motive:=fun _=>Option α) (fun _ _ _ _ _ _ _ a=>q a) t)) (ih k)) n
theorem ZM(n i:Nat)(t:T8 α (n+1)):(yK α (n+1) i).get t=(yK α n (i / 8)).get (Yw (i % 8) t):=by
 have e:yK α (n+1) i=ql (i / 8) fun k=>Bx.rec (fun q=>J8 (i % 8) (.mk fun t=>Q8.rec (motive:=fun _=>Option α) (fun a _ _ _ _ _ _ _=>q a) t) (.mk fun t=>Q8.rec (motive:=fun _=>Option α) (fun _ a _ _ _ _ _ _=>q a) t) (.mk fun t=>Q8.rec (motive:=fun _=>Option α) (fun _ _ a _ _ _ _ _=>q a) t) (.mk fun t=>Q8.rec (motive:=fun _=>Option α) (fun _ _ _ a _ _ _ _=>q a) t) (.mk fun t=>Q8.rec (motive:=fun _=>Option α) (fun _ _ _ _ a _ _ _=>q a) t) (.mk fun t=>Q8.rec (motive:=fun _=>Option α) (fun _ _ _ _ _ a _ _=>q a) t) (.mk fun t=>Q8.rec (motive:=fun _=>Option α) (fun _ _ _ _ _ _ a _=>q a) t) (.mk fun t=>Q8.rec (motive:=fun _=>Option α) (fun _ _ _ _ _ _ _ a=>q a) t)) (yK α n k):=rfl;rw[e,qi];cases yK α n (i / 8)with
 |mk q=>
 cases t;rcases Yx (Nat.mod_lt i (show 0<8 by decide))with h|h|h|h|h|h|h|h<;>rw[h]<;>rfl
def Tr.find{n:Nat}(t:Tr n α)(i:Nat):Option α:=ql i fun i=>Bx.rec (fun q=>q t) (yK α n i)
theorem KA{n:Nat}(t:Tr n α)(i:Nat):t.find i=(yK α n i).get t:=by
 unfold Tr.find;rw[qi];rfl
theorem qhg:∀(n i:Nat),(yK α n i).get (em8 α n)=none
 |0,0=>rfl
 |0,_+1=>rfl
 |n+1,i=>by
  rw[ZM];have:Yw (i % 8) (em8 α (n+1))=em8 α n:=by
   rcases Yx (Nat.mod_lt i (show 0<8 by decide))with h|h|h|h|h|h|h|h<;>rw[h]<;>rfl
  rw[this];exact qhg n _
theorem Q0{n:Nat}(i:Nat):(Tr.nil:Tr n α).find i=none:=by rw[KA];exact qhg n i
def Qj(α:Type)(n:Nat):Nat→Bx (T8 α n→Option α→(T8 α n→R)→R):=Nat.rec (motive:=fun n=>Nat→Bx (T8 α n→Option α→(T8 α n→R)→R)) (fun i=>Nat.rec (.mk fun _ a f=>f a) (fun _ _=>.mk fun _ _ _=>.bad 2 0) i)
 (fun n ih i=>ql (i / 8) fun k=>Bx.rec (fun q=>J8 (i % 8) (.mk fun t s z=>Q8.rec (motive:=fun _=>R) (fun a b c d e f g h=>q a s fun a=>z (.mk a b c d e f g h)) t) (.mk fun t s z=>Q8.rec (motive:=fun _=>R) (fun a b c d e f g h=>q b s fun b=>z (.mk a b c d e f g h)) t) (.mk fun t s z=>Q8.rec (motive:=fun _=>R) (fun a b c d e f g h=>q c s fun c=>z (.mk a b c d e f g h)) t) (.mk fun t s z=>Q8.rec (motive:=fun _=>R) (fun a b c d e f g h=>q d s fun d=>z (.mk a b c d e f g h)) t)
  (.mk fun t s z=>Q8.rec (motive:=fun _=>R) (fun a b c d e f g h=>q e s fun e=>z (.mk a b c d e f g h)) t) (.mk fun t s z=>Q8.rec (motive:=fun _=>R) (fun a b c d e f g h=>q f s fun f=>z (.mk a b c d e f g h)) t) (.mk fun t s z=>Q8.rec (motive:=fun _=>R) (fun a b c d e f g h=>q g s fun g=>z (.mk a b c d e f g h)) t) (.mk fun t s z=>Q8.rec (motive:=fun _=>R) (fun a b c d e f g h=>q h s fun h=>z (.mk a b c d e f g h)) t)) (ih k)) n
theorem qeU(n i:Nat)(t:T8 α (n+1))(s:Option α)(z:T8 α (n+1)→R):(Qj α (n+1) i).get t s z=(Qj α n (i / 8)).get (Yw (i % 8) t) s fun y=>z (qmp (i % 8) t y):=by
 have e:Qj α (n+1) i=ql (i / 8) fun k=>Bx.rec (fun q=>J8 (i % 8) (.mk fun t s z=>Q8.rec (motive:=fun _=>R) (fun a b c d e f g h=>q a s fun a=>z (.mk a b c d e f g h)) t) (.mk fun t s z=>Q8.rec (motive:=fun _=>R) (fun a b c d e f g h=>q b s fun b=>z (.mk a b c d e f g h)) t) (.mk fun t s z=>Q8.rec (motive:=fun _=>R) (fun a b c d e f g h=>q c s fun c=>z (.mk a b c d e f g h)) t) (.mk fun t s z=>Q8.rec (motive:=fun _=>R) (fun a b c d e f g h=>q d s fun d=>z (.mk a b c d e f g h)) t)
  (.mk fun t s z=>Q8.rec (motive:=fun _=>R) (fun a b c d e f g h=>q e s fun e=>z (.mk a b c d e f g h)) t) (.mk fun t s z=>Q8.rec (motive:=fun _=>R) (fun a b c d e f g h=>q f s fun f=>z (.mk a b c d e f g h)) t) (.mk fun t s z=>Q8.rec (motive:=fun _=>R) (fun a b c d e f g h=>q g s fun g=>z (.mk a b c d e f g h)) t) (.mk fun t s z=>Q8.rec (motive:=fun _=>R) (fun a b c d e f g h=>q h s fun h=>z (.mk a b c d e f g h)) t)) (Qj α n k):=rfl
 rw[e,qi];cases Qj α n (i / 8)with
 |mk q=>
 cases t;rcases Yx (Nat.mod_lt i (show 0<8 by decide))with h|h|h|h|h|h|h|h<;>rw[h]<;>rfl
def zs{n:Nat}(a:Option α)(_:Nat)(t:Tr n α)(i:Nat)(f:Tr n α→R):R:=ql i fun i=>Bx.rec (fun q=>q t a f) (Qj α n i)
theorem V5{n:Nat}(a:Option α)(m:Nat)(t:Tr n α)(i:Nat)(f:Tr n α→R):zs a m t i f=(Qj α n i).get t a f:=by
 unfold zs;rw[qi];rfl
def qhh{n:Nat}(t t':Tr n α)(i:Nat)(a:Option α):Prop:=∀j,t'.find j=if j=i then a else t.find j
theorem qcC{a:Option α}:∀(n:Nat)(t:T8 α n)(i:Nat)(f:T8 α n→R),(Qj α n i).get t a f=.ok ρ→∃t',(∀j,(yK α n j).get t'=if j=i then a else(yK α n j).get t)∧f t'=.ok ρ
 |0,t,i,f,h=>by
  cases i with
  |zero=>
   refine⟨a,fun j=>?_,h⟩;cases j with
   |zero=>rw[if_pos rfl];rfl
   |succ j=>rw[if_neg (Nat.succ_ne_zero j)];rfl
  |succ i=>cases h
 |n+1,t,i,f,h=>by
  rw[qeU]at h;obtain⟨t',h1,h2⟩:=qcC n _ _ _ h;refine⟨_,fun j=>?_,h2⟩;refine(ZM n j _).trans ?_;have e1:(if j=i then a else(yK α (n+1) j).get t)=if j=i then a else(yK α n (j / 8)).get (Yw (j % 8) t):=by
   by_cases c:j=i
   ·rw[if_pos c,if_pos c]
   ·rw[if_neg c,if_neg c];exact ZM n j t
  refine Eq.trans ?_ e1.symm;have e2:Yw (j % 8) (qmp (i % 8) t t')=if j % 8=i % 8 then t' else Yw (j % 8) t:=qhf (Nat.mod_lt _ Ωr) (Nat.mod_lt _ Ωr) t t'
  refine(congrArg (yK α n (j / 8)).get e2).trans ?_;by_cases c:j % 8=i % 8
  ·rw[if_pos c,h1,c]
   by_cases d:j / 8=i / 8
   ·rw[if_pos d,if_pos Ω]
   ·rw[if_neg d,if_neg (by intro e;rw[e]at d;exact d rfl)]
  ·rw[if_neg c,if_neg (by intro e;rw[e]at c;exact c rfl)]
theorem qM{n:Nat}{a:Option α}(m:Nat)(t:Tr n α)(i:Nat)(f:Tr n α→R)(h:zs a m t i f=.ok ρ):∃t',qhh t t' i a∧f t'=.ok ρ:=by
 rw[V5]at h;obtain⟨t',h1,h2⟩:=qcC n t i f h;refine⟨t',fun j=>(KA (n:=n) t' j).trans ((h1 j).trans ?_),h2⟩;by_cases c:j=i
 ·rw[if_pos c,if_pos c]
 ·rw[if_neg c,if_neg c];exact(KA (n:=n) t j).symm
end
def qk(c:Nat)(a:Bool)(b:R):R:=Bool.rec (.bad c 0) b a
theorem qe{c:Nat}{a:Bool}{b:R}(h:qk c a b=.ok ρ):a=true∧b=.ok ρ:=by
 cases a
 ·cases h
 ·exact⟨rfl,h⟩
def qnE(c i:Nat)(a:Bool)(b:R):R:=Bool.rec (.bad c i) b a
theorem qjW{c i:Nat}{a:Bool}{b:R}(h:qnE c i a b=.ok ρ):a=true∧b=.ok ρ:=by
 cases a
 ·cases h
 ·exact⟨rfl,h⟩
def hiK(k:IntKind):Nat:=IntKind.rec 127 32767 2147483647 9223372036854775807 255 65535 4294967295 18446744073709551615 k
def loK(k:IntKind):Nat:=IntKind.rec 128 32768 2147483648 9223372036854775808 0 0 0 0 k
def qjX(k:IntKind)(n:Int):Bool:=Int.rec (fun a=>Nat.ble a (hiK k)) (fun a=>Nat.ble (Nat.succ a) (loK k)) n
theorem Q1{k:IntKind}{n:Int}(h:qjX k n=true):InK k n:=by
 cases n with
 |ofNat a=>
  have h:Nat.ble a (hiK k)=true:=h;have h:=xa7 h;cases k<;>simp only[hiK]at h<;>simp only[InK,Int.ofNat_eq_natCast]<;>omega
 |negSucc a=>
  have h:Nat.ble (Nat.succ a) (loK k)=true:=h;have h:=xa7 h;cases k<;>simp only[loK]at h<;>simp only[InK]<;>omega
def Kt(a b:Int):Bool:=Int.rec (fun a=>Int.rec (fun b=>Nat.ble (Nat.succ a) b) (fun _=>false) b) (fun a=>Int.rec (fun _=>true) (fun b=>Nat.ble (Nat.succ b) a) b) a
theorem KB(a b:Int):Kt a b=decide (a<b):=by
 rw[Bool.eq_iff_iff,decide_eq_true_eq];cases a with
 |ofNat a=>cases b with
  |ofNat b=>show Nat.ble (Nat.succ a) b=true↔_;rw[Nat.ble_eq,Int.ofNat_eq_natCast,Int.ofNat_eq_natCast];omega
  |negSucc b=>show false=true↔_;simp only[xe7,false_iff,Int.ofNat_eq_natCast];omega
 |negSucc a=>cases b with
  |ofNat b=>show true=true↔_;simp only[true_iff,Int.ofNat_eq_natCast];omega
  |negSucc b=>show Nat.ble (Nat.succ b) a=true↔_;rw[Nat.ble_eq];omega
def Jz(a b:Int):Bool:=Int.rec (fun a=>Int.rec (fun b=>Nat.beq a b) (fun _=>false) b) (fun a=>Int.rec (fun _=>false) (fun b=>Nat.beq a b) b) a
theorem yv(a b:Int):Jz a b=decide (a=b):=by
 rw[Bool.eq_iff_iff,decide_eq_true_eq];cases a with
 |ofNat a=>cases b with
  |ofNat b=>show Nat.beq a b=true↔_;rw[Nat.beq_eq,Int.ofNat_eq_natCast,Int.ofNat_eq_natCast];omega
  |negSucc b=>show false=true↔_;simp only[xe7,false_iff,Int.ofNat_eq_natCast];omega
 |negSucc a=>cases b with
  |ofNat b=>show false=true↔_;simp only[xe7,false_iff,Int.ofNat_eq_natCast];omega
  |negSucc b=>show Nat.beq a b=true↔_;rw[Nat.beq_eq];omega
def qmq(v:Value)(f:SV→R):R:=
 match v with
 |.int k n=>Yv n fun n=>f (.val (.int k n))
 |.bool b=>Kj b fun b=>f (.val (.bool b))
 |v=>f (.val v)
theorem qjY(v:Value)(f:SV→R):qmq v f=f (.val v):=by
 unfold qmq;split
 ·exact jr _ (fun n=>f (.val (.int _ n)))
 ·exact QZ _ (fun n=>f (.val (.bool n)))
 ·rfl
def svK(s:SV)(f:SV→R):R:=
 match s with
 |.val v=>qmq v f
 |.agg l=>gC l fun l=>f (.agg l)
 |.ptr id off=>ql off fun off=>f (.ptr id off)
 |.elt id k i j=>ql i fun i=>ql j fun j=>f (.elt id k i j)
 |.vec id n k=>ql n fun n=>f (.vec id n k)
 |.cut id n k=>ql n fun n=>f (.cut id n k)
 |.asl id off n k=>ql off fun off=>ql n fun n=>f (.asl id off n k)
 |.que id off n k=>ql off fun off=>ql n fun n=>f (.que id off n k)
 |s=>f s
theorem ZN(s:SV)(f:SV→R):svK s f=f s:=by
 unfold svK;split<;>simp only[qjY,qU,qi]
def yL(l:List SV)(f:List SV→R):R:=(List.rec (motive:=fun _=>(List SV→R)→R) (fun f=>f []) (fun a _ ih f=>svK a fun a=>ih fun l=>f (a :: l)) l) f
theorem ko(l:List SV):∀(f:List SV→R),yL l f=f l:=by
 induction l with
 |nil=>intro f;rfl
 |cons a l ih=>
  intro f;show svK a (fun a=>yL l fun l=>f (a :: l))=_;rw[ZN,ih]
def kN(k:IntKind):Nat:=IntKind.rec 0 1 2 3 4 5 6 7 k
theorem qhi(k k':IntKind):Nat.beq (kN k) (kN k')=decide (k=k'):=by cases k<;>cases k'<;>rfl
def lfB(a b:Lf):Bool:=Lf.rec (fun k=>Lf.rec (fun k'=>Nat.beq (kN k) (kN k')) false b) (Lf.rec (fun _=>false) true b) a
theorem qmr{a b:Lf}(h:lfB a b=true):a=b:=by
 cases a with
 |i k=>cases b with
  |i k'=>
   have h:Nat.beq (kN k) (kN k')=true:=h;rw[qhi,decide_eq_true_eq]at h;rw[h]
  |b=>cases h
 |b=>cases b with
  |i k'=>cases h
  |b=>rfl
def qms(l:List Lf):List Lf→Bool:=List.rec (motive:=fun _=>List Lf→Bool) (fun m=>List.rec true (fun _ _ _=>false) m) (fun a _ ih m=>List.rec false (fun c m _=>Bool.rec false (ih m) (lfB a c)) m) l
theorem qcD:∀{l m:List Lf},qms l m=true→l=m
 |[],[],_=>rfl
 |[],_ :: _,h=>by cases h
 |_ :: _,[],h=>by cases h
 |a :: l,b :: m,h=>by
  have h:(Bool.rec false (qms l m) (lfB a b):Bool)=true:=h;cases q:lfB a b with
  |false=>rw[q]at h;cases h
  |true=>rw[q]at h;rw[qmr q,qcD h]
def qhj(v:Value):(IntKind→Int→Bool)→Bool→Bool:=Value.rec (motive_1:=fun _=>(IntKind→Int→Bool)→Bool→Bool) (motive_2:=fun _=>PUnit) (motive_3:=fun _=>PUnit) (fun _ f d=>d) (fun k n f d=>f k n) (fun _ _ f d=>d) (fun _ _ _ f d=>d) (fun _ f d=>d) (fun _ f d=>d) (fun _ _ _ f d=>d) (fun _ f d=>d) (fun _ f d=>d) (fun _ _ _ _ _ f d=>d) (fun  f d=>d) (fun _ _ _ f d=>d) (fun  f d=>d) (fun _ _ f d=>d) (fun _ _ f d=>d) (fun _ _=>PUnit.unit) PUnit.unit (fun _ _ _ _=>PUnit.unit) v
def qbp(v:Value):(Bool→Bool)→Bool→Bool:=Value.rec (motive_1:=fun _=>(Bool→Bool)→Bool→Bool) (motive_2:=fun _=>PUnit) (motive_3:=fun _=>PUnit) (fun b f d=>f b) (fun _ _ f d=>d) (fun _ _ f d=>d) (fun _ _ _ f d=>d) (fun _ f d=>d) (fun _ f d=>d) (fun _ _ _ f d=>d) (fun _ f d=>d) (fun _ f d=>d) (fun _ _ _ _ _ f d=>d) (fun  f d=>d) (fun _ _ _ f d=>d) (fun  f d=>d) (fun _ _ f d=>d) (fun _ _ f d=>d) (fun _ _=>PUnit.unit) PUnit.unit (fun _ _ _ _=>PUnit.unit) v
def qcE(v:Value):(List Value→Bool)→Bool→Bool:=Value.rec (motive_1:=fun _=>(List Value→Bool)→Bool→Bool) (motive_2:=fun _=>PUnit) (motive_3:=fun _=>PUnit) (fun _ f d=>d) (fun _ _ f d=>d) (fun _ _ f d=>d) (fun _ _ _ f d=>d) (fun _ f d=>d) (fun _ f d=>d) (fun _ _ _ f d=>d) (fun _ f d=>d) (fun _ f d=>d) (fun _ _ _ _ _ f d=>d) (fun  f d=>d) (fun _ _ _ f d=>d) (fun  f d=>d) (fun c ih f d=>f c.toList) (fun _ _ f d=>d) (fun _ _=>PUnit.unit) PUnit.unit (fun _ _ _ _=>PUnit.unit) v
def qcF(v u:Value):Bool:=qhj v (fun k a=>qhj u (fun k' b=>Bool.rec false (Jz a b) (Nat.beq (kN k) (kN k'))) false) (qbp v (fun a=>qbp u (fun b=>Bool.rec (Bool.rec true false b) b a) false) false)
theorem Yy(v u:Value):qcF v u=yH v u:=by
 cases v<;>first|rfl|skip
 case bool a=>cases u<;>first|rfl|(rename_i b;cases a<;>cases b<;>rfl)
 case int k a=>
  cases u<;>first|rfl|skip
  rename_i k' b;show(Bool.rec false (Jz a b) (Nat.beq (kN k) (kN k')):Bool)=(decide (k=k')&&decide (a=b));rw[qhi,yv];cases decide (k=k')<;>rfl
def qhk(l:List Value):List Value→Bool:=List.rec (motive:=fun _=>List Value→Bool) (fun m=>List.rec true (fun _ _ _=>false) m) (fun a _ ih m=>List.rec false (fun b m _=>Bool.rec false (ih m) (qcF a b)) m) l
theorem Yz:∀(l m:List Value),qhk l m=vk l m
 |[],[]=>rfl
 |[],_ :: _=>rfl
 |_ :: _,[]=>rfl
 |a :: l,b :: m=>by
  show(Bool.rec false (qhk l m) (qcF a b):Bool)=(yH a b&&vk l m);rw[Yy,Yz l m];cases yH a b<;>rfl
def GM(v u:Value):Bool:=qcE v (fun a=>qcE u (fun b=>qhk a b) false) (qcE u (fun _=>false) (qcF v u))
theorem V6(v u:Value):GM v u=eqK v u:=by
 have h:=Yy v u;cases v<;>cases u<;>first|exact h|rfl|exact Yz _ _
def qhl(f:Lf)(v:Value):Bool:=Lf.rec (fun k=>qhj v (fun k' _=>Nat.beq (kN k) (kN k')) false) (qbp v (fun _=>true) false) f
theorem qhm(f:Lf)(v:Value):qhl f v=lfOk f v:=by
 cases f<;>cases v<;>first|rfl|exact qhi _ _
def qjZ(l:List Lf):List Value→Bool:=List.rec (motive:=fun _=>List Value→Bool) (fun m=>List.rec true (fun _ _ _=>false) m) (fun a _ ih m=>List.rec false (fun b m _=>Bool.rec false (ih m) (qhl a b)) m) l
theorem V7:∀(l:List Lf)(m:List Value),qjZ l m=q8 l m
 |[],[]=>rfl
 |[],_ :: _=>rfl
 |_ :: _,[]=>rfl
 |a :: l,b :: m=>by
  show(Bool.rec false (qjZ l m) (qhl a b):Bool)=(lfOk a b&&q8 l m);rw[qhm,V7 l m];cases lfOk a b<;>rfl
def KC(ag:Bool)(ls:List Lf)(v:Value):Bool:=Bool.rec (qjZ ls [v]) (qcE v (fun c=>qjZ ls c) false) ag
theorem Qk(ag:Bool)(ls:List Lf)(v:Value):KC ag ls v=qm ag ls v:=by
 cases ag with
 |false=>exact V7 _ _
 |true=>cases v<;>first|rfl|exact V7 _ _
def vv(es:List (Value×Option SV))(k:Value):Option SV:=List.rec (motive:=fun _=>Option SV) none (fun p _ ih=>Bool.rec ih p.2 (GM p.1 k)) es
theorem wc(p:Value×Option SV)(es:List (Value×Option SV))(k:Value):vv (p :: es) k=if eqK p.1 k=true then p.2 else vv es k:=by
 show(Bool.rec (vv es k) p.2 (GM p.1 k):Option SV)=_;rw[V6];cases eqK p.1 k<;>rfl
def RowL(n k:Nat)(l:List SV)(row:Nat→Nat→SV):Prop:=l.length=n*k∧∀i j,i<n→j<k→row i j=l.getD (i*k+j) .top
def BRel(lm:Option Loop):XB→Blk→Prop
 |.cells t l,.cells t' l'=>t=t'∧l=l'
 |.rows t k n l,.rows t' k' n' row=>t=t'∧k=k'∧n=n'∧RowL n k l row
 |.loop s,.loop L s'=>s=s'∧lm=some L
 |.map ag ls es,.map fit dom get=>fit=qm ag ls∧∀k,dom k=(vv es k).isSome∧∀s,vv es k=some s→get k=s
 |_,_=>False
def HRel(LM:Nat→Option Loop)(hp:Tr 6 XB)(H:List (Nat×Blk)):Prop:=∀id b,hp.find id=some b→∃b',blk H id=some b'∧BRel (LM id) b b'
theorem BRel.any{lm:Option Loop}{b:XB}{b':Blk}(h:BRel none b b'):BRel lm b b':=by
 cases b<;>cases b'<;>simp only[BRel,reduceCtorEq,and_false]at h ⊢<;>exact h
theorem HRel.cells{LM:Nat→Option Loop}{hp:Tr 6 XB}{H:List (Nat×Blk)}(h:HRel LM hp H){id:Nat}{t:TypeId}{l:List SV}(e:hp.find id=some (.cells t l)):blk H id=some (.cells t l):=by
 obtain⟨b',h1,h2⟩:=h _ _ e;cases b'<;>simp only[BRel]at h2
 obtain⟨rfl,rfl⟩:=h2;exact h1
theorem HRel.rows{LM:Nat→Option Loop}{hp:Tr 6 XB}{H:List (Nat×Blk)}(h:HRel LM hp H){id:Nat}{t:TypeId}{k n:Nat}{l:List SV}(e:hp.find id=some (.rows t k n l)):∃row,blk H id=some (.rows t k n row)∧RowL n k l row:=by
 obtain⟨b',h1,h2⟩:=h _ _ e;cases b'<;>simp only[BRel]at h2
 obtain⟨rfl,rfl,rfl,h3⟩:=h2;exact⟨_,h1,h3⟩
theorem HRel.map{LM:Nat→Option Loop}{hp:Tr 6 XB}{H:List (Nat×Blk)}(h:HRel LM hp H){id:Nat}{ag:Bool}{ls:List Lf}{es:List (Value×Option SV)}(e:hp.find id=some (.map ag ls es)):∃dom get,blk H id=some (.map (qm ag ls) dom get)∧∀k,dom k=(vv es k).isSome∧∀s,vv es k=some s→get k=s:=by
 obtain⟨b',h1,h2⟩:=h _ _ e;cases b'<;>simp only[BRel]at h2
 obtain⟨rfl,h3⟩:=h2;exact⟨_,_,h1,h3⟩
inductive XR:Type
 |pure (s:SV)
 |new (b:XB) (s:SV)
 |upd (id:Nat) (b:XB) (s:SV)
 |grow (old:Nat) (b:XB) (s:SV)
 |call (f:Nat) (args:List SV)
 |yield (id:Nat) (args:List SV)
def qnF(s:SV)(r:Res):Prop:=(∃obl,r=.pure obl s∧obl)∨∃obl,r=.ex obl∧obl s
def Hit(x:XR)(id:Nat)(r:Res):Prop:=
 match x with
 |.pure s=>qnF s r
 |.new b s=>∃obl b' mk,r=.new obl b' mk∧obl∧BRel none b b'∧mk id=s
 |.upd j b s=>(∃obl b',r=.upd obl j b'∧obl∧BRel none b b'∧s=undefSV)∨∃obl b',r=.updv obl j b' s∧obl∧BRel none b b'
 |.grow j b s=>∃obl b' mk,r=.grow obl j b' mk∧obl∧BRel none b b'∧mk id=s
 |.call g args=>r=.call g args
 |.yield y args=>r=.yield y args
def zU(ρ:Q)(f:XR→R)(id:Nat)(r:Res):Prop:=∃x,Hit x id r∧f x=.ok ρ
theorem qh{f:XR→R}{id:Nat}{r:Res}{s:SV}{obl:Prop}(e:r=.pure obl s)(ho:obl)(h:f (.pure s)=.ok ρ):zU ρ f id r:=⟨.pure s,.inl ⟨obl,e,ho⟩,h⟩
theorem Q2{f:XR→R}{id:Nat}{r:Res}{s:SV}{obl:SV→Prop}(e:r=.ex obl)(ho:obl s)(h:f (.pure s)=.ok ρ):zU ρ f id r:=⟨.pure s,.inr ⟨obl,e,ho⟩,h⟩
theorem g8{f:XR→R}{id:Nat}{r:Res}{b:XB}{s:SV}{obl:Prop}{b':Blk}{mk:Nat→SV}(h:f (.new b s)=.ok ρ)(e:r=.new obl b' mk)(ho:obl)(hb:BRel none b b')(hs:mk id=s):zU ρ f id r:=⟨.new b s,⟨obl,b',mk,e,ho,hb,hs⟩,h⟩
theorem kV{f:XR→R}{id j:Nat}{r:Res}{b:XB}{obl:Prop}{b':Blk}(h:f (.upd j b undefSV)=.ok ρ)(e:r=.upd obl j b')(ho:obl)(hb:BRel none b b'):zU ρ f id r:=⟨.upd j b undefSV,.inl ⟨obl,b',e,ho,hb,rfl⟩,h⟩
theorem J9{f:XR→R}{id j:Nat}{r:Res}{b:XB}{s:SV}{obl:Prop}{b':Blk}(h:f (.upd j b s)=.ok ρ)(e:r=.updv obl j b' s)(ho:obl)(hb:BRel none b b'):zU ρ f id r:=⟨.upd j b s,.inr ⟨obl,b',e,ho,hb⟩,h⟩
theorem qeV{f:XR→R}{id j:Nat}{r:Res}{b:XB}{s:SV}{obl:Prop}{b':Blk}{mk:Nat→SV}(h:f (.grow j b s)=.ok ρ)(e:r=.grow obl j b' mk)(ho:obl)(hb:BRel none b b')(hs:mk id=s):zU ρ f id r:=⟨.grow j b s,⟨obl,b',mk,e,ho,hb,hs⟩,h⟩
theorem qeW{f:XR→R}{id g:Nat}{r:Res}{args:List SV}(e:r=.call g args)(h:f (.call g args)=.ok ρ):zU ρ f id r:=⟨.call g args,e,h⟩
theorem qbq{f:XR→R}{id g:Nat}{r:Res}{args:List SV}(e:r=.yield g args)(h:f (.yield g args)=.ok ρ):zU ρ f id r:=⟨.yield g args,e,h⟩
structure XE:Type where
 fns:Nat→Option (Func×List (Nat×List (Nat×Nat)))
 tys:TypeId→Option TyI
 pls:TypeId→Option (List (Nat×Nat))
 eqs:TypeId→Option (List Lf)
 sls:TypeId→Option (TypeId×Nat×List Value)
 mps:TypeId→Option jP
 prj:Nat→Option (Nat×Sh)
 str:TypeId→Bool
 orc:Nat→Option (List SV→Tr 6 XB→Nat→(SV→Tr 6 XB→Nat→R)→R)
 ctr:Nat→List (List SV×SV)
 ctn:Nat→List (List SV×(TypeId×Nat×Nat×List SV×SV))
def qhn(P:Program)(g:Nat)(qq_:List SV)(t:TypeId)(k n:Nat)(l:List SV)(s:SV):Prop:=∃row,zx P g qq_ (.rows t k n row) s∧RowL n k l row∧FreshO s∧FreshB (.rows t k n row)
def Kk(P:Program)(g:Nat)(f:List SV→Tr 6 XB→Nat→(SV→Tr 6 XB→Nat→R)→R):Prop:=
 ∀(ρ:Q)(LM:Nat→Option Loop)(O:Ctx)(args:List SV)(hp:Tr 6 XB)(k:SV→Tr 6 XB→Nat→R)(st:St)(K:St→SV→Prop),HRel LM hp st.hp→f args hp st.nid k=.ok ρ→
  (∀s hp' nid' H',HRel LM hp' H'→k s hp' nid'=.ok ρ→K ⟨st.fr,H',nid'⟩ s)→kT P O g args st K
structure XOk(P:Program)(E:XE):Prop where
 tys:∀t ti,E.tys t=some ti→qq P t=some ti
 pls:∀t pl,E.pls t=some pl→za P t=some pl
 eqs:∀t ls,E.eqs t=some ls→gm P t=some ls
 prj:∀g n i,E.prj g=some (n,i)→Z8 P g n i
 str:∀t,E.str t=true→P.underlying t=some .string
 orc:∀g f,E.orc g=some f→Kk P g f
 ctr:∀g qq_ s,(qq_,s)∈E.ctr g→qf P g qq_ s
 ctn:∀g qq_ t k n l s,(qq_,(t,k,n,l,s))∈E.ctn g→qhn P g qq_ t k n l s
 mps:∀t x,E.mps t=some x→qI P t=some x
 sls:∀t e k z,E.sls t=some (e,k,z)→(∃a b c,qq P t=some ⟨a,b,c,.slice e k⟩)∧(∃a b d,qq P e=some ⟨a,b,some z,d⟩)∧0<k∧z.length=k∧qP P e≤100000000
end
end Go.Sx
end
section
namespace Go.Sx
open Go.RowKit
noncomputable section
variable{ρ:Q}
section
variable{P:Program}{E:XE}{f:XR→R}{id:Nat}{hp:Tr 6 XB}{H:List (Nat×Blk)}{LM:Nat→Option Loop}
def js(c:Nat)(k:IntKind)(n:Int)(f:XR→R):R:=Yv n fun n=>qk c (qjX k n) (f (.pure (.val (.int k n))))
theorem kb{c:Nat}{k:IntKind}{n:Int}(h:js c k n f=.ok ρ):InK k n∧f (.pure (.val (.int k n)))=.ok ρ:=by
 unfold js at h;rw[jr]at h;have h:=qe h;exact⟨Q1 h.1,h.2⟩
def Ql(b:Bool)(f:XR→R):R:=Kj b fun b=>f (.pure (.val (.bool b)))
theorem jt(b:Bool):Ql b f=f (.pure (.val (.bool b))):=QZ _ _
def Q3(s:SV)(f:XR→R):R:=svK s fun s=>f (.pure s)
theorem kW(s:SV):Q3 s f=f (.pure s):=ZN _ _
def qcG(op:BinOp)(k:IntKind)(a b:Int)(f:XR→R):R:=
 match a,b with
 |.ofNat a,.ofNat b=>qk 10 (qjX k (.ofNat a)) (qk 11 (qjX k (.ofNat b)) (match op with
  |.and=>ql (Nat.land a b) fun n=>f (.pure (.val (.int k (.ofNat n))))
  |.or=>ql (Nat.lor a b) fun n=>f (.pure (.val (.int k (.ofNat n))))
  |_=>.bad 12 0))
 |_,_=>.bad 13 0
def qnG(k:IntKind)(a b:Int)(f:XR→R):R:=
 match b with
 |.ofNat b=>qk 14 (Nat.ble b k.bits) (js 15 k (Int.mul a (.ofNat (Nat.pow 2 b))) f)
 |_=>.bad 16 0
def qnH(k:IntKind)(a b:Int)(f:XR→R):R:=
 match b with
 |.ofNat b=>qk 17 (Nat.ble b k.bits) (Yv (Int.fdiv a (.ofNat (Nat.pow 2 b))) fun n=>f (.pure (.val (.int k n))))
 |_=>.bad 18 0
def qeX(op:BinOp)(k:IntKind)(a b:Int)(f:XR→R):R:=
 match op with
 |.add=>js 19 k (Int.add a b) f
 |.sub=>js 20 k (Int.sub a b) f
 |.mul=>js 21 k (Int.mul a b) f
 |.quo=>qk 22 (!Jz b 0) (js 23 k (Int.tdiv a b) f)
 |.rem=>qk 24 (!Jz b 0) (js 25 k (Int.tmod a b) f)
 |.eql=>Ql (Jz a b) f
 |.neq=>Ql (!Jz a b) f
 |.lss=>Ql (Kt a b) f
 |.leq=>Ql (!Kt b a) f
 |.gtr=>Ql (Kt b a) f
 |.geq=>Ql (!Kt a b) f
 |.shl=>qnG k a b f
 |.shr=>qnH k a b f
 |.and=>qcG .and k a b f
 |.or=>qcG .or k a b f
 |_=>.bad 26 0
theorem nlt(a b:Int):(!Kt b a)=decide (a≤b):=by
 rw[KB,Bool.eq_iff_iff,Bool.not_eq_true',decide_eq_false_iff_not,decide_eq_true_eq];omega
theorem qnI(b:Nat):Int.ofNat (Nat.pow 2 b)=(2:Int)^(Int.ofNat b).toNat:=by
 show((2^b:Nat):Int)=_;rw[Int.natCast_pow];rfl
theorem qK(a:Nat):0≤Int.ofNat a:=Int.natCast_nonneg a
theorem qka{op:BinOp}{k:IntKind}{a b:Int}(h:qeX op k a b f=.ok ρ):zU ρ f id (rInt op k a b):=by
 cases op<;>simp only[qeX,jt,reduceCtorEq]at h
 ·exact qh rfl (kb h).1 (kb h).2
 ·exact qh rfl (kb h).1 (kb h).2
 ·exact qh rfl (kb h).1 (kb h).2
 ·obtain⟨h0,h⟩:=qe h
  rw[yv,Bool.not_eq_true',decide_eq_false_iff_not]at h0;exact qh rfl ⟨h0,(kb h).1⟩ (kb h).2
 ·obtain⟨h0,h⟩:=qe h
  rw[yv,Bool.not_eq_true',decide_eq_false_iff_not]at h0;exact qh rfl h0 (kb h).2
 ·unfold qcG at h
  split at h
  ·obtain⟨h1,h⟩:=qe h
   obtain⟨h2,h⟩:=qe h;simp only[qi]at h;exact qh rfl ⟨qK _,Q1 h1,qK _,Q1 h2⟩ h
  ·cases h
 ·unfold qcG at h
  split at h
  ·obtain⟨h1,h⟩:=qe h
   obtain⟨h2,h⟩:=qe h;simp only[qi]at h;exact qh rfl ⟨qK _,Q1 h1,qK _,Q1 h2⟩ h
  ·cases h
 ·unfold qnG at h
  split at h
  ·obtain⟨h1,h⟩:=qe h
   rw[qnI]at h;exact qh rfl ⟨qK _,xa7 h1,(kb h).1⟩ (kb h).2
  ·cases h
 ·unfold qnH at h
  split at h
  ·obtain⟨h1,h⟩:=qe h
   rw[qnI,jr]at h;exact qh rfl ⟨qK _,xa7 h1⟩ h
  ·cases h
 ·rw[yv]at h;exact qh rfl trivial h
 ·rw[yv]at h;exact qh rfl trivial h
 ·rw[KB]at h;exact qh rfl trivial h
 ·rw[nlt]at h;exact qh rfl trivial h
 ·rw[KB]at h;exact qh rfl trivial h
 ·rw[nlt]at h;exact qh rfl trivial h
def GN(E:XE)(op:BinOp)(t:TypeId)(isnil:Bool)(y:SV)(f:XR→R):R:=
 match y with
 |.val v=>qk 30 (nilSlice v) (match E.tys t with
  |some ⟨_,_,_,.slice _ _⟩=>(match op with
   |.eql=>Ql isnil f
   |.neq=>Ql (!isnil) f
   |_=>.bad 31 0)
  |_=>.bad 32 0)
 |_=>.bad 33 0
theorem wS(hE:XOk P E){op:BinOp}{t:TypeId}{isnil:Bool}{y:SV}(h:GN E op t isnil y f=.ok ρ):∃v s,y=.val v∧f (.pure s)=.ok ρ∧∀obl,rNilS P op t obl isnil v=.pure obl s:=by
 unfold GN at h;split at h
 ·rename_i v
  obtain⟨h1,h⟩:=qe h;split at h
  ·rename_i a b c e k ht
   have ht:=hE.tys _ _ ht;split at h
   ·rw[jt]at h;exact⟨v,_,rfl,h,fun obl=>by simp only[rNilS,h1,ht]⟩
   ·rw[jt]at h;exact⟨v,_,rfl,h,fun obl=>by simp only[rNilS,h1,ht]⟩
   ·cases h
  ·cases h
 ·cases h
def xEq(E:XE)(op:BinOp)(t:TypeId)(l m:List SV)(f:XR→R):R:=
 match E.eqs t with
 |some ls=>qk 34 (fitS ls l) (qk 35 (fitS ls m) (match op with
  |.eql=>Ql (eqSVs l m) f
  |.neq=>Ql (!eqSVs l m) f
  |_=>.bad 36 0))
 |none=>.bad 37 0
theorem qmt(hE:XOk P E){op:BinOp}{t:TypeId}{l m:List SV}(h:xEq E op t l m f=.ok ρ):zU ρ f id (rEq P op t l m):=by
 unfold xEq at h;split at h
 ·rename_i ls hl
  have hl:=hE.eqs _ _ hl;obtain⟨h1,h⟩:=qe h;obtain⟨h2,h⟩:=qe h;split at h
  ·rw[jt]at h;exact qh (obl:=fitS ls l=true∧fitS ls m=true) (by simp only[rEq,hl]) ⟨h1,h2⟩ h
  ·rw[jt]at h;exact qh (obl:=fitS ls l=true∧fitS ls m=true) (by simp only[rEq,hl]) ⟨h1,h2⟩ h
  ·cases h
 ·cases h
def qlE(E:XE)(op:BinOp)(t:TypeId)(a b:Bool)(f:XR→R):R:=
 match E.tys t with
 |some ⟨_,_,_,.bool⟩=>(match op with
  |.eql=>Ql (a == b) f
  |.neq=>Ql (!(a == b)) f
  |_=>.bad 38 0)
 |_=>.bad 39 0
def qlF(E:XE)(op:BinOp)(t:TypeId)(u:Value)(y:SV)(f:XR→R):R:=
 match u with
 |.int k a=>(match y with|.val (.int k' b)=>qk 40 (eqKind k k') (qeX op k a b f)|_=>.bad 41 0)
 |.slice a n c=>GN E op t a.isNone y f
 |.bool a=>(match y with|.val (.bool b)=>qlE E op t a b f|_=>.bad 42 0)
 |_=>.bad 43 0
def qbr(E:XE)(op:BinOp)(t:TypeId)(x y:SV)(f:XR→R):R:=
 match x with
 |.val u=>qlF E op t u y f
 |.agg l=>(match y with|.agg m=>xEq E op t l m f|_=>.bad 44 0)
 |.vec _ n _=>qk 45 (Nat.ble 1 n) (GN E op t false y f)
 |.cut _ n _=>qk 46 (Nat.ble 1 n) (GN E op t false y f)
 |.arr _ _ n _ _=>qk 47 (Nat.ble 1 n) (GN E op t false y f)
 |.asl _ _ _ _=>GN E op t false y f
 |_=>.bad 48 0
theorem qcH(a b:Bool):(a == b)=decide (a=b):=by cases a<;>cases b<;>rfl
theorem qkb(hE:XOk P E){op:BinOp}{t:TypeId}{x y:SV}(h:qbr E op t x y f=.ok ρ):zU ρ f id (rBin P op t x y):=by
 unfold qbr at h;split at h
 ·rename_i u
  unfold qlF at h;split at h
  ·split at h
   ·obtain⟨h1,h2⟩:=qe h
    have e:=vi h1;subst e;have:∀(a b:Int)(k:IntKind),eqKind k k=true→rBin P op t (.val (.int k a)) (.val (.int k b))=rInt op k a b:=fun a b k hk=>by simp only[rBin,hk,if_true]
    rw[this _ _ _ h1];exact qka h2
   ·cases h
  ·obtain⟨v,s,rfl,h1,h2⟩:=wS hE h
   exact qh (h2 True) trivial h1
  ·split at h
   ·unfold qlE at h
    split at h
    ·rename_i ht
     have ht:=hE.tys _ _ ht;split at h
     ·rw[jt,qcH]at h;exact qh (by simp only[rBin,ht]) trivial h
     ·rw[jt,qcH]at h;exact qh (by simp only[rBin,ht]) trivial h
     ·cases h
    ·cases h
   ·cases h
  ·cases h
 ·split at h
  ·exact qmt hE h
  ·cases h
 ·obtain⟨h0,h⟩:=qe h
  obtain⟨v,s,rfl,h1,h2⟩:=wS hE h;exact qh (h2 _) (xa7 h0) h1
 ·obtain⟨h0,h⟩:=qe h
  obtain⟨v,s,rfl,h1,h2⟩:=wS hE h;exact qh (h2 _) (xa7 h0) h1
 ·obtain⟨h0,h⟩:=qe h
  obtain⟨v,s,rfl,h1,h2⟩:=wS hE h;exact qh (h2 _) (xa7 h0) h1
 ·obtain⟨v,s,rfl,h1,h2⟩:=wS hE h
  exact qh (h2 _) trivial h1
 ·cases h
def xUn(op:UnOp)(x:SV)(f:XR→R):R:=
 match x with
 |.val (.int k a)=>(match op with|.neg=>js 50 k (Int.sub 0 a) f|_=>.bad 51 0)
 |.val (.bool b)=>(match op with|.not=>Ql (!b) f|_=>.bad 52 0)
 |_=>.bad 53 0
theorem qmu{op:UnOp}{x:SV}(h:xUn op x f=.ok ρ):zU ρ f id (rUn op x):=by
 unfold xUn at h;split at h
 ·split at h
  ·exact qh rfl (kb h).1 (kb h).2
  ·cases h
 ·split at h
  ·rw[jt]at h;exact qh rfl trivial h
  ·cases h
 ·cases h
def qcI(E:XE)(s t:TypeId)(x:SV)(f:XR→R):R:=
 match E.tys s,E.tys t with
 |some _,some ⟨_,_,_,.int k⟩=>(match x with|.val (.int _ n)=>js 54 k n f|_=>.bad 55 0)
 |_,_=>.bad 56 0
theorem qho(hE:XOk P E){s t:TypeId}{x:SV}(h:qcI E s t x f=.ok ρ):zU ρ f id (rConv (qq P s) (qq P t) x):=by
 unfold qcI at h;split at h
 ·rename_i hs ht
  rw[hE.tys _ _ hs,hE.tys _ _ ht];split at h
  ·exact qh rfl (kb h).1 (kb h).2
  ·cases h
 ·cases h
def qcJ(c a b:SV)(f:XR→R):R:=
 match c with
 |.val (.bool c)=>(match c with|true=>f (.pure a)|false=>f (.pure b))
 |_=>.bad 57 0
theorem qhp{c a b:SV}(h:qcJ c a b f=.ok ρ):zU ρ f id (rPick c a b):=by
 unfold qcJ at h;split at h
 ·split at h
  ·exact qh rfl trivial h
  ·exact qh rfl trivial h
 ·cases h
def V8(E:XE)(t:TypeId)(id:Nat)(f:XR→R):R:=
 match E.tys t with
 |some ⟨_,_,some z,_⟩=>yL (vals z) fun z=>f (.new (.cells t z) (.ptr id 0))
 |_=>.bad 60 0
theorem qeY(hE:XOk P E){t:TypeId}(h:V8 E t id f=.ok ρ):zU ρ f id (rAlloc (qq P t) t):=by
 unfold V8 at h;split at h
 ·rename_i ht
  rw[ko]at h;rw[hE.tys _ _ ht];exact g8 h rfl trivial ⟨rfl,rfl⟩ rfl
 ·cases h
def qkc(E:XE)(t:TypeId)(x:SV)(id:Nat)(f:XR→R):R:=
 match E.tys t with
 |some ⟨true,_,_,_⟩=>(match x with
  |.agg l=>f (.new (.cells t l) (.ptr id 0))
  |_=>.bad 61 0)
 |some ⟨false,_,_,_⟩=>qk 62 (oneCell x) (f (.new (.cells t [x]) (.ptr id 0)))
 |none=>.bad 63 0
theorem qkd(hE:XOk P E){t:TypeId}{x:SV}(h:qkc E t x id f=.ok ρ):zU ρ f id (rBox (qq P t) t x):=by
 unfold qkc at h;split at h
 ·rename_i ht
  rw[hE.tys _ _ ht];split at h
  ·exact g8 h rfl trivial ⟨rfl,rfl⟩ rfl
  ·cases h
 ·rename_i ht
  rw[hE.tys _ _ ht];obtain⟨h1,h⟩:=qe h;exact g8 h rfl h1 ⟨rfl,rfl⟩ rfl
 ·cases h
def wT(l:List SV)(o:Nat)(f:XR→R):R:=match l[o]? with|some s=>f (.pure s)|none=>.bad 64 0
def wU(l:List SV)(o sz:Nat)(f:XR→R):R:=qk 65 (Nat.ble (o+sz) l.length) (gC ((l.drop o).take sz) fun l=>f (.pure (.agg l)))
theorem vw{l:List SV}{o:Nat}(h:wT l o f=.ok ρ):∃s,l[o]? = some s∧f (.pure s)=.ok ρ:=by
 unfold wT at h;split at h
 ·rename_i s hs;exact⟨s,hs,h⟩
 ·cases h
theorem yw{l:List SV}{o sz:Nat}(h:wU l o sz f=.ok ρ):o+sz≤l.length∧f (.pure (.agg ((l.drop o).take sz)))=.ok ρ:=by
 unfold wU at h;obtain⟨h1,h⟩:=qe h;rw[qU]at h;exact⟨xa7 h1,h⟩
def yU(k k' n i j sz:Nat)(g:Nat→R):R:=qk 66 (Nat.beq k k') (qk 67 (Nat.ble (Nat.succ i) n) (qk 68 (Nat.ble (j+sz) k) (ql (i*k+j) g)))
theorem Q4{k k' n i j sz:Nat}{g:Nat→R}(h:yU k k' n i j sz g=.ok ρ):k=k'∧i<n∧j+sz≤k∧g (i*k+j)=.ok ρ:=by
 unfold yU at h;obtain⟨h1,h⟩:=qe h;obtain⟨h2,h⟩:=qe h;obtain⟨h3,h⟩:=qe h;rw[qi]at h;exact⟨xa6 h1,xa7 h2,xa7 h3,h⟩
def ZO(hp:Tr 6 XB)(a:SV)(f:XR→R):R:=
 match a with
 |.ptr id off=>(match hp.find id with
  |some (.cells _ l)=>wT l off f
  |_=>.bad 69 0)
 |.elt id k i j=>(match hp.find id with
  |some (.rows _ k' n l)=>yU k k' n i j 1 fun o=>wT l o f
  |_=>.bad 70 0)
 |.ref _ n row=>qk 71 (Nat.ble 1 n) (Q3 (row 0) f)
 |_=>.bad 72 0
def ZP(hp:Tr 6 XB)(sz:Nat)(a:SV)(f:XR→R):R:=
 match a with
 |.ptr id off=>(match hp.find id with
  |some (.cells _ l)=>wU l off sz f
  |_=>.bad 73 0)
 |.elt id k i j=>(match hp.find id with
  |some (.rows _ k' n l)=>yU k k' n i j sz fun o=>wU l o sz f
  |_=>.bad 74 0)
 |.ref _ n row=>qk 75 (Nat.ble sz n) (yL (sel row 0 sz) fun l=>f (.pure (.agg l)))
 |_=>.bad 76 0
def YA(E:XE)(hp:Tr 6 XB)(t:TypeId)(a:SV)(f:XR→R):R:=
 match E.tys t with
 |some ⟨false,_,_,_⟩=>ZO hp a f
 |some ⟨true,sz,_,_⟩=>ZP hp sz a f
 |none=>.bad 77 0
theorem kX{n k i j:Nat}(hi:i<n)(hj:j<k):i*k+j<n*k:=by
 have:=xa8 k (show i+1≤n from hi);rw[Nat.add_mul,Nat.one_mul]at this;omega
theorem RowL.get{n k:Nat}{l:List SV}{row:Nat→Nat→SV}(h:RowL n k l row){i j:Nat}(hi:i<n)(hj:j<k){s:SV}(hs:l[i*k+j]? = some s):row i j=s:=by
 rw[h.2 i j hi hj,xc6,hs];rfl
theorem RowL.sel{n k:Nat}{l:List SV}{row:Nat→Nat→SV}(h:RowL n k l row){i j sz:Nat}(hi:i<n)(hj:j+sz≤k):sel (row i) j sz=(l.drop (i*k+j)).take sz:=by
 refine List.ext_getElem? fun q=>?_;rw[yg,List.getElem?_take];by_cases c:q<sz
 ·rw[if_pos c,if_pos c,List.getElem?_drop,h.2 i (j+q) hi Ω,xc6]
  have:i*k+j+q<l.length:=by rw[h.1];have:=kX (k:=k) hi (Ω:j+q<k);omega
  rw[show i*k+(j+q)=i*k+j+q by omega,xc7 this];rfl
 ·rw[if_neg c,if_neg c]
theorem YB(hE:XOk P E)(hH:HRel LM hp H){t:TypeId}{a:SV}(h:YA E hp t a f=.ok ρ):zU ρ f id (rLoad (qq P t) H a):=by
 unfold YA at h;split at h
 ·rename_i ht
  rw[hE.tys _ _ ht];unfold ZO at h;split at h
  ·split at h
   ·rename_i hb
    obtain⟨s,h1,h2⟩:=vw h;simp only[rLoad,hH.cells hb];exact Q2 rfl h1 h2
   ·cases h
  ·split at h
   ·rename_i hb
    obtain⟨row,hb,hr⟩:=hH.rows hb;obtain⟨rfl,h1,h2,h⟩:=Q4 h;obtain⟨s,h3,h4⟩:=vw h;have:=hr.get h1 h2 h3;subst this;simp only[rLoad,hb];exact qh rfl ⟨trivial,h1,h2⟩ h4
   ·cases h
  ·obtain⟨h1,h⟩:=qe h
   rw[kW]at h;exact qh rfl (xa7 h1) h
  ·cases h
 ·rename_i sz _ _ ht
  rw[hE.tys _ _ ht];unfold ZP at h;split at h
  ·split at h
   ·rename_i hb
    obtain⟨h1,h2⟩:=yw h;simp only[rLoad,hH.cells hb];exact qh rfl h1 h2
   ·cases h
  ·split at h
   ·rename_i hb
    obtain⟨row,hb,hr⟩:=hH.rows hb;obtain⟨rfl,h1,h2,h⟩:=Q4 h;obtain⟨h3,h4⟩:=yw h;rw[←hr.sel h1 h2]at h4;simp only[rLoad,hb];exact qh rfl ⟨trivial,h1,h2⟩ h4
   ·cases h
  ·obtain⟨h1,h⟩:=qe h
   rw[ko]at h;exact qh rfl (xa7 h1) h
  ·cases h
 ·cases h
def YC(s:SV)(l:List SV)(o:Nat)(g:List SV→R):R:=qk 78 (Nat.ble (Nat.succ o) l.length) (gC (l.set o s) g)
def setN(vs:List SV)(l:List SV)(o:Nat)(g:List SV→R):R:=qk 79 (Nat.ble (o+vs.length) l.length) (gC (l.take o++vs++l.drop (o+vs.length)) g)
def Q5(hp:Tr 6 XB)(a v:SV)(f:XR→R):R:=
 match a with
 |.ptr id off=>(match hp.find id with
  |some (.cells t l)=>YC v l off fun l=>f (.upd id (.cells t l) undefSV)
  |_=>.bad 80 0)
 |.elt id k i j=>(match hp.find id with
  |some (.rows t k' n l)=>yU k k' n i j 1 fun o=>YC v l o fun l=>f (.upd id (.rows t k' n l) undefSV)
  |_=>.bad 81 0)
 |_=>.bad 82 0
def qcK(hp:Tr 6 XB)(a:SV)(vs:List SV)(f:XR→R):R:=
 match a with
 |.ptr id off=>(match hp.find id with
  |some (.cells t l)=>setN vs l off fun l=>f (.upd id (.cells t l) undefSV)
  |_=>.bad 83 0)
 |.elt id k i j=>(match hp.find id with
  |some (.rows t k' n l)=>yU k k' n i j vs.length fun o=>setN vs l o fun l=>f (.upd id (.rows t k' n l) undefSV)
  |_=>.bad 84 0)
 |_=>.bad 85 0
def GO(E:XE)(hp:Tr 6 XB)(t:TypeId)(a v:SV)(f:XR→R):R:=
 match E.tys t with
 |some ⟨false,sz,_,_⟩=>qk 86 (oneCell v) (qk 87 (Nat.beq sz 1) (Q5 hp a v f))
 |some ⟨true,sz,_,_⟩=>(match v with
  |.agg vs=>qk 88 (allOne vs) (qk 89 (Nat.beq vs.length sz) (qcK hp a vs f))
  |_=>.bad 90 0)
 |none=>.bad 91 0
theorem qcL{s:SV}{l:List SV}{o:Nat}{g:List SV→R}(h:YC s l o g=.ok ρ):o<l.length∧g (l.set o s)=.ok ρ:=by
 unfold YC at h;obtain⟨h1,h⟩:=qe h;rw[qU]at h;exact⟨xa7 h1,h⟩
theorem qcM{vs l:List SV}{o:Nat}{g:List SV→R}(h:setN vs l o g=.ok ρ):o+vs.length≤l.length∧g (l.take o++vs++l.drop (o+vs.length))=.ok ρ:=by
 unfold setN at h;obtain⟨h1,h⟩:=qe h;rw[qU]at h;exact⟨xa7 h1,h⟩
theorem qcN{k i j a b:Nat}(hj:j<k)(hb:b<k):a*k+b=i*k+j↔a=i∧b=j:=by
 constructor
 ·intro h
  have h1:(a*k+b) / k=a:=by rw[Nat.mul_comm,Nat.mul_add_div Ω,Nat.div_eq_of_lt hb,xb1]
  have h2:(i*k+j) / k=i:=by rw[Nat.mul_comm,Nat.mul_add_div Ω,Nat.div_eq_of_lt hj,xb1]
  have:a=i:=by rw[←h1,h,h2]
  subst this;exact⟨rfl,Ω⟩
 ·rintro⟨rfl,rfl⟩;rfl
theorem RowL.set{n k:Nat}{l:List SV}{row:Nat→Nat→SV}(h:RowL n k l row){i j:Nat}(hi:i<n)(hj:j<k)(v:SV):RowL n k (l.set (i*k+j) v) (fun a b=>if a=i∧b=j then v else row a b):=by
 refine⟨by rw[xe5];exact h.1,fun a b ha hb=>?_⟩;have hlt:i*k+j<l.length:=by rw[h.1];exact kX hi hj
 show(if a=i∧b=j then v else row a b)=_;rw[xc6,List.getElem?_set];by_cases c:a=i∧b=j
 ·rw[if_pos c,if_pos ((qcN hj hb).2 c).symm,if_pos hlt];rfl
 ·rw[if_neg c,if_neg (fun e=>c ((qcN hj hb).1 e.symm)),h.2 a b ha hb,xc6]
theorem RowL.setN{n k:Nat}{l vs:List SV}{row:Nat→Nat→SV}(h:RowL n k l row){i j:Nat}(hi:i<n)(hj:j+vs.length≤k):RowL n k (l.take (i*k+j)++vs++l.drop (i*k+j+vs.length)) (fun a b=>if a=i∧j≤b∧b<j+vs.length then vs.getD (b - j) .top else row a b):=by
 by_cases hk:k=0
 ·subst hk
  have hv:vs.length=0:=by omega
  have hv:vs=[]:=List.length_eq_zero_iff.1 hv;subst hv;have e0:=h.1;rw[Nat.mul_zero]at e0;have e0:=List.length_eq_zero_iff.1 e0;subst e0;refine⟨Ωh,fun a b _ hb=>by omega⟩
 have hend:i*k+j+vs.length≤l.length:=by
  rw[h.1];have:=xa8 k (show i+1≤n from hi);rw[Nat.add_mul,Nat.one_mul]at this;omega
 refine⟨by rw[xc8,xc8,xd9,List.length_drop,←h.1];omega,fun a b ha hb=>?_⟩;have ht:(l.take (i*k+j)).length=i*k+j:=by rw[xd9];omega
 show(if a=i∧j≤b∧b<j+vs.length then vs.getD (b - j) .top else row a b)=_;rw[xc6,h.2 a b ha hb,xc6,xc6];by_cases c:a=i∧j≤b∧b<j+vs.length
 ·obtain⟨rfl,c1,c2⟩:=c
  rw[if_pos ⟨rfl,c1,c2⟩,xc9 (by rw[xc8,ht];omega),xd0 Ω,ht]
  congr 2;omega
 ·rw[if_neg c]
  by_cases d:a*k+b<i*k+j
  ·rw[xc9 (by rw[xc8,ht];omega),xc9 Ω,List.getElem?_take,if_pos d]
  ·have hge:i*k+j+vs.length≤a*k+b:=by
    by_cases e:a=i
    ·subst e
     have:¬(j≤b∧b<j+vs.length):=fun x=>c ⟨rfl,x⟩;omega
    ·have:i+1≤a:=by
      refine xf9 fun x=>?_;have:=xa8 k (Ω:a+1≤i);rw[Nat.add_mul,Nat.one_mul]at this;omega
     have:=xa8 k this;rw[Nat.add_mul,Nat.one_mul]at this;omega
   rw[xd0 (by rw[xc8,ht];omega),xc8,ht,List.getElem?_drop]
   congr 2;omega
theorem qeZ(hE:XOk P E)(hH:HRel LM hp H){t:TypeId}{a v:SV}(h:GO E hp t a v f=.ok ρ):zU ρ f id (rStore (qq P t) H a v):=by
 unfold GO at h;split at h
 ·rename_i ht
  rw[hE.tys _ _ ht];obtain⟨h1,h⟩:=qe h;obtain⟨h2,h⟩:=qe h;have h2:=xa6 h2;unfold Q5 at h;split at h
  ·split at h
   ·rename_i hb
    obtain⟨h3,h⟩:=qcL h;simp only[rStore,hH.cells hb];exact kV h rfl ⟨h3,h1,h2⟩ ⟨rfl,rfl⟩
   ·cases h
  ·split at h
   ·rename_i hb
    obtain⟨row,hb,hr⟩:=hH.rows hb;obtain⟨rfl,h3,h4,h⟩:=Q4 h;obtain⟨h5,h⟩:=qcL h;simp only[rStore,hb];exact kV h rfl ⟨trivial,h3,h4,h1,h2⟩ ⟨rfl,rfl,rfl,hr.set h3 h4 v⟩
   ·cases h
  ·cases h
 ·rename_i sz _ _ ht
  rw[hE.tys _ _ ht];split at h
  ·rename_i vs
   obtain⟨h1,q1⟩:=qe h;obtain⟨h2,q⟩:=qe q1;have h2:=xa6 h2;subst h2;unfold qcK at q;split at q
   ·split at q
    ·rename_i hb
     obtain⟨h3,q⟩:=qcM q;simp only[rStore,hH.cells hb];exact kV q rfl ⟨h3,trivial,h1⟩ ⟨rfl,rfl⟩
    ·cases q
   ·split at q
    ·rename_i hb
     obtain⟨row,hb,hr⟩:=hH.rows hb;obtain⟨rfl,h3,h4,q⟩:=Q4 q;obtain⟨h5,q⟩:=qcM q;simp only[rStore,hb];exact kV q rfl ⟨trivial,h3,h4,trivial,h1⟩ ⟨rfl,rfl,rfl,hr.setN h3 h4⟩
    ·cases q
   ·cases q
  ·cases h
 ·cases h
end
end
end Go.Sx
end
section
namespace Go.Sx
open Go.RowKit
noncomputable section
variable{ρ:Q}
section
variable{P:Program}{E:XE}{f:XR→R}{id:Nat}{hp:Tr 6 XB}{H:List (Nat×Blk)}{LM:Nat→Option Loop}
def qhq(x:SV)(f:XR→R):R:=
 match x with
 |.ptr id off=>f (.pure (.ptr id off))
 |.elt id k i j=>f (.pure (.elt id k i j))
 |.ref o n row=>f (.pure (.ref o n row))
 |.fn (.func g) a b=>f (.pure (.fn (.func g) a b))
 |_=>.bad 100 0
theorem qke{x:SV}(h:qhq x f=.ok ρ):zU ρ f id (rNil x):=by
 unfold qhq at h;split at h<;>first|exact qh rfl trivial h|cases h
def Q6(x:SV)(o:Nat)(f:XR→R):R:=
 match x with
 |.ptr id off=>Q3 (.ptr id (off+o)) f
 |.elt id k i j=>Q3 (.elt id k i (j+o)) f
 |.ref b n row=>qk 101 (Nat.ble o n) (f (.pure (.ref b (n - o) (fun j=>row (o+j)))))
 |_=>.bad 102 0
def jM(E:XE)(t:TypeId)(x:SV)(i:Nat)(f:XR→R):R:=
 match E.tys t with
 |some ⟨_,_,_,.struct fs⟩=>(match fs[i]? with
  |some (o,s,_)=>qk 103 (Nat.ble 1 s) (Q6 x o f)
  |none=>.bad 104 0)
 |_=>.bad 105 0
theorem JA(hE:XOk P E){t:TypeId}{x:SV}{i:Nat}(h:jM E t x i f=.ok ρ):zU ρ f id (rFieldAddr (qq P t) x i):=by
 unfold jM at h;split at h
 ·rename_i ht
  rw[hE.tys _ _ ht];split at h
  ·rename_i o s ag hf
   obtain⟨h1,q⟩:=qe h;have h1:s≠0:=by have:=xa7 h1;omega
   unfold Q6 at q;simp only[rFieldAddr,hf];split at q
   ·rw[kW]at q;exact qh rfl h1 q
   ·rw[kW]at q;exact qh rfl h1 q
   ·obtain⟨h2,q⟩:=qe q
    exact qh rfl ⟨h1,xa7 h2⟩ q
   ·cases q
  ·cases h
 ·cases h
def V9(E:XE)(t:TypeId)(x:SV)(i:Nat)(f:XR→R):R:=
 match E.tys t with
 |some ⟨_,_,_,.struct fs⟩=>(match fs[i]? with
  |some (o,s,ag)=>(match x with
   |.agg l=>(match ag with
    |some true=>wU l o s f
    |some false=>wT l o f
    |none=>.bad 106 0)
   |_=>.bad 107 0)
  |none=>.bad 108 0)
 |_=>.bad 109 0
theorem qfa(hE:XOk P E){t:TypeId}{x:SV}{i:Nat}(h:V9 E t x i f=.ok ρ):zU ρ f id (rField (qq P t) x i):=by
 unfold V9 at h;split at h
 ·rename_i ht
  rw[hE.tys _ _ ht];split at h
  ·rename_i o s ag hf
   split at h
   ·simp only[rField,hf]
    split at h
    ·obtain⟨h1,h2⟩:=yw h;exact qh rfl h1 h2
    ·obtain⟨s,h1,h2⟩:=vw h;exact Q2 rfl h1 h2
    ·cases h
   ·cases h
  ·cases h
 ·cases h
def JB(i:SV)(n:Nat)(g:Nat→R):R:=
 match i with
 |.val (.int _ (.ofNat i))=>qk 110 (Nat.ble (Nat.succ i) n) (g i)
 |_=>.bad 111 0
theorem j7{i:SV}{n:Nat}{g:Nat→R}(h:JB i n g=.ok ρ):∃k a,i=.val (.int k (.ofNat a))∧0≤Int.ofNat a∧Int.ofNat a<(n:Int)∧g a=.ok ρ:=by
 unfold JB at h;split at h
 ·obtain⟨h1,h⟩:=qe h
  exact⟨_,_,rfl,qK _,by have:=xa7 h1;simp only[Int.ofNat_eq_natCast];omega,h⟩
 ·cases h
def qcO(k:Nat)(x i:SV)(f:XR→R):R:=
 match x with
 |.arr o _ n k' row=>qk 112 (Nat.beq k' k) (JB i n fun i=>f (.pure (.ref o k (row i))))
 |.vec id n k'=>qk 113 (Nat.beq k' k) (JB i n fun i=>f (.pure (.elt id k i 0)))
 |.asl id off n k'=>qk 114 (Nat.beq k' k) (JB i n fun i=>Q3 (.ptr id (off+i*k)) f)
 |.que id off n k'=>qk 115 (Nat.beq k' k) (JB i n fun i=>Q3 (.elt id k (off+i) 0) f)
 |_=>.bad 116 0
def qcP(n k:Nat)(x i:SV)(f:XR→R):R:=
 match x with
 |.ptr id off=>JB i n fun i=>Q3 (.ptr id (off+i*k)) f
 |.ref o m row=>JB i n fun i=>qk 117 (Nat.ble (i*k) m) (f (.pure (.ref o (m - i*k) (fun j=>row (i*k+j)))))
 |_=>.bad 118 0
def wd(E:XE)(t:TypeId)(x i:SV)(f:XR→R):R:=
 match E.tys t with
 |some ⟨_,_,_,.slice _ k⟩=>qcO k x i f
 |some ⟨_,_,_,.array n _ k⟩=>qcP n k x i f
 |_=>.bad 119 0
theorem JC(hE:XOk P E){t:TypeId}{x i:SV}(h:wd E t x i f=.ok ρ):zU ρ f id (rIndexAddr (qq P t) x i):=by
 unfold wd at h;split at h
 ·rename_i ht
  rw[hE.tys _ _ ht];unfold qcO at h;split at h
  ·obtain⟨h1,h⟩:=qe h
   obtain⟨_,a,rfl,h2,h3,h⟩:=j7 h;exact qh rfl ⟨h2,h3,xa6 h1⟩ h
  ·obtain⟨h1,h⟩:=qe h
   obtain⟨_,a,rfl,h2,h3,h⟩:=j7 h;exact qh rfl ⟨h2,h3,xa6 h1⟩ h
  ·obtain⟨h1,h⟩:=qe h
   obtain⟨_,a,rfl,h2,h3,h⟩:=j7 h;rw[kW]at h;exact qh rfl ⟨h2,h3,xa6 h1⟩ h
  ·obtain⟨h1,h⟩:=qe h
   obtain⟨_,a,rfl,h2,h3,h⟩:=j7 h;rw[kW]at h;exact qh rfl ⟨h2,h3,xa6 h1⟩ h
  ·cases h
 ·rename_i ht
  rw[hE.tys _ _ ht];unfold qcP at h;split at h
  ·obtain⟨_,a,rfl,h2,h3,h⟩:=j7 h
   rw[kW]at h;exact qh rfl ⟨h2,h3⟩ h
  ·obtain⟨_,a,rfl,h2,h3,h⟩:=j7 h
   obtain⟨h1,h⟩:=qe h;exact qh rfl ⟨h2,h3,xa7 h1⟩ h
  ·cases h
 ·cases h
def qcQ(E:XE)(e:TypeId)(n k:Nat)(l:List SV)(i:SV)(f:XR→R):R:=
 match E.tys e with
 |some ⟨true,_,_,_⟩=>JB i n fun i=>wU l (i*k) k f
 |some ⟨false,_,_,_⟩=>qk 120 (Nat.beq k 1) (JB i n fun i=>wT l i f)
 |none=>.bad 121 0
def qcR(s:ByteArray)(i:SV)(f:XR→R):R:=
 match i with
 |.val (.int _ (.ofNat a))=>(match s[a]? with
  |some b=>ql b.toNat fun n=>f (.pure (.val (.int .u8 (.ofNat n))))
  |none=>.bad 159 0)
 |_=>.bad 159 1
def Wa(E:XE)(t:TypeId)(x i:SV)(f:XR→R):R:=
 match E.tys t with
 |some ⟨_,_,_,.array n e k⟩=>(match x with
  |.agg l=>qcQ E e n k l i f
  |_=>.bad 122 0)
 |some ⟨_,_,_,.other⟩=>(match x with
  |.val (.string s)=>qk 158 (E.str t) (qcR s i f)
  |_=>.bad 123 t)
 |_=>.bad 123 0
theorem qfb(hE:XOk P E){t:TypeId}{x i:SV}(h:Wa E t x i f=.ok ρ):zU ρ f id (rIndex P t x i):=by
 unfold Wa at h;split at h
 ·rename_i ht
  have ht:=hE.tys _ _ ht;split at h
  ·unfold qcQ at h
   split at h
   ·rename_i he
    have he:=hE.tys _ _ he;obtain⟨_,a,rfl,h2,h3,h⟩:=j7 h;obtain⟨h4,h5⟩:=yw h;simp only[rIndex,ht,he];exact qh rfl ⟨h2,h3,h4⟩ h5
   ·rename_i he
    have he:=hE.tys _ _ he;obtain⟨h1,h⟩:=qe h;obtain⟨_,a,rfl,h2,h3,h⟩:=j7 h;obtain⟨s,h4,h5⟩:=vw h;simp only[rIndex,ht,he];exact Q2 rfl ⟨h2,h3,xa6 h1,h4⟩ h5
   ·cases h
  ·cases h
 ·rename_i ht
  have ht:=hE.tys _ _ ht;split at h
  ·obtain⟨h1,h⟩:=qe h
   have hu:=hE.str _ h1;unfold qcR at h;split at h
   ·split at h
    ·rename_i b hb
     rw[qi]at h;simp only[rIndex,ht,hu];exact Q2 rfl ⟨qK _,b,hb,rfl⟩ h
    ·cases h
   ·cases h
  ·cases h
 ·cases h
def Q7(x:SV)(i:Nat)(f:XR→R):R:=
 match x with
 |.tup l=>wT l i f
 |_=>.bad 124 0
theorem YD{x:SV}{i:Nat}(h:Q7 x i f=.ok ρ):zU ρ f id (rExtract x i):=by
 unfold Q7 at h;split at h
 ·obtain⟨s,h1,h2⟩:=vw h;exact Q2 rfl h1 h2
 ·cases h
def qhr(x:SV)(f:XR→R):R:=
 match x with
 |.arr _ _ n _ _=>f (.pure (.val (.int .i64 (.ofNat n))))
 |.vec _ n _=>f (.pure (.val (.int .i64 (.ofNat n))))
 |.asl _ _ n _=>f (.pure (.val (.int .i64 (.ofNat n))))
 |.que _ _ n _=>f (.pure (.val (.int .i64 (.ofNat n))))
 |.cut _ n _=>f (.pure (.val (.int .i64 (.ofNat n))))
 |.val (.slice none 0 0)=>f (.pure (.val (.int .i64 0)))
 |_=>.bad 125 0
def qfc(E:XE)(t:TypeId)(x:SV)(f:XR→R):R:=
 match E.tys t with
 |some ⟨_,_,_,.slice _ _⟩=>qhr x f
 |some ⟨_,_,_,.array n _ _⟩=>f (.pure (.val (.int .i64 (.ofNat n))))
 |_=>.bad 126 0
theorem qkf(hE:XOk P E){t:TypeId}{x:SV}(h:qfc E t x f=.ok ρ):zU ρ f id (rLen (qq P t) x):=by
 unfold qfc at h;split at h
 ·rename_i ht
  rw[hE.tys _ _ ht];unfold qhr at h;split at h<;>first|exact qh rfl trivial h|cases h
 ·rename_i ht
  rw[hE.tys _ _ ht];exact qh rfl trivial h
 ·cases h
def qhs(mx:Bool)(a b:Int):Int:=Bool.rec (Bool.rec b a (Kt a b)) (Bool.rec a b (Kt a b)) mx
theorem Wb(mx:Bool)(a b:Int):qhs mx a b=if mx=true then max a b else min a b:=by
 unfold qhs;rw[KB];by_cases c:a<b
 ·rw[decide_eq_true c];cases mx<;>simp<;>omega
 ·rw[decide_eq_false c];cases mx<;>simp<;>omega
def qkg(mx:Bool)(l:List SV)(f:XR→R):R:=
 match l with
 |[.val (.int k a),.val (.int k' b)]=>qk 127 (eqKind k k') (Yv (qhs mx a b) fun n=>f (.pure (.val (.int k n))))
 |[.val (.int k a),.val (.int k' b),.val (.int k'' c)]=>qk 128 (eqKind k k') (qk 129 (eqKind k k'') (Yv (qhs mx (qhs mx a b) c) fun n=>f (.pure (.val (.int k n)))))
 |_=>.bad 130 0
theorem qcS{mx:Bool}{l:List SV}(h:qkg mx l f=.ok ρ):zU ρ f id (rMin mx l):=by
 unfold qkg at h;split at h
 ·obtain⟨h1,h⟩:=qe h
  rw[jr,Wb]at h;simp only[rMin,rMin2,h1,if_true];exact qh rfl trivial h
 ·obtain⟨h1,h⟩:=qe h
  obtain⟨h2,h⟩:=qe h;rw[jr,Wb,Wb]at h;simp only[rMin,rMin2,h1,h2,if_true];exact qh rfl trivial h
 ·cases h
theorem RowL.take{n m k:Nat}{l:List SV}{row:Nat→Nat→SV}(h:RowL n k l row)(hm:m≤n):RowL m k (l.take (m*k)) row:=by
 have hmk:m*k≤n*k:=xa8 k hm;refine⟨by rw[xd9,h.1];omega,fun i j hi hj=>?_⟩;rw[h.2 i j Ω hj,xc6,xc6,List.getElem?_take,if_pos (kX hi hj)]
theorem RowL.app{n m k:Nat}{l l2:List SV}{row row2:Nat→Nat→SV}(h:RowL n k l row)(h2:RowL m k l2 row2):RowL (n+m) k (l++l2) (fun i j=>if i<n then row i j else row2 (i - n) j):=by
 refine⟨by rw[xc8,h.1,h2.1,Nat.add_mul],fun i j hi hj=>?_⟩;show(if i<n then row i j else row2 (i - n) j)=_;rw[xc6];by_cases c:i<n
 ·rw[if_pos c,h.2 i j c hj,xc6,xc9 (by rw[h.1];exact kX c hj)]
 ·have hge:n*k≤i*k:=xa8 k Ω
  rw[if_neg c,h2.2 (i - n) j Ω hj,xc6,xd0 (by rw[h.1];omega),h.1,Nat.sub_mul]
  congr 2;omega
theorem RowL.nil{k:Nat}(row:Nat→Nat→SV):RowL 0 k [] row:=⟨Ωh,fun i j hi=>by omega⟩
def ww(row:Nat→Nat→SV)(k:Nat):Nat→List SV
 |0=>[]
 |n+1=>ww row k n++sel (row n) 0 k
theorem g9(row:Nat→Nat→SV)(k:Nat):∀n,RowL n k (ww row k n) row
 |0=>RowL.nil row
 |n+1=>by
  have h1:=g9 row k n;have h2:RowL 1 k (sel (row n) 0 k) (fun i j=>row (n+i) j):=by
   refine⟨by rw[gN,Nat.one_mul],fun i j hi hj=>?_⟩;obtain rfl:i=0:=by omega
   rw[xc6,yg,Nat.zero_mul,xb0,xb0,if_pos hj];rfl
  have h3:=h1.app h2;refine⟨h3.1,fun i j hi hj=>?_⟩;rw[show(ww row k (n+1))=ww row k n++sel (row n) 0 k from rfl,←h3.2 i j hi hj];show _=if i<n then row i j else row (n+(i - n)) j
  by_cases c:i<n
  ·rw[if_pos c]
  ·rw[if_neg c,show n+(i - n)=i by omega]
def Q9(hp:Tr 6 XB)(x:SV)(g:Nat→Nat→List SV→R):R:=
 match x with
 |.vec id n k=>(match hp.find id with
  |some (.rows _ k' n' l)=>qk 131 (Nat.ble n n') (qk 132 (Nat.beq k k') (gC (l.take (n*k)) fun l=>g n k l))
  |_=>.bad 133 0)
 |.cut id n k=>(match hp.find id with
  |some (.rows _ k' n' l)=>qk 134 (Nat.ble n n') (qk 135 (Nat.beq k k') (gC (l.take (n*k)) fun l=>g n k l))
  |_=>.bad 136 0)
 |.asl id off n k=>(match hp.find id with
  |some (.cells _ l)=>qk 137 (Nat.ble (off+n*k) l.length) (gC ((l.drop off).take (n*k)) fun l=>g n k l)
  |_=>.bad 138 0)
 |.arr _ _ n k row=>yL (ww row k n) fun l=>g n k l
 |.val u=>qk 139 (nilSlice u) (g 0 1 [])
 |_=>.bad 140 0
theorem vx(hH:HRel LM hp H){x:SV}{g:Nat→Nat→List SV→R}(h:Q9 hp x g=.ok ρ):∃obl m k row l,rowsOf H x=some (obl,m,k,row)∧obl∧RowL m k l row∧g m k l=.ok ρ:=by
 unfold Q9 at h;split at h
 ·split at h
  ·rename_i i n k _ _ k' n' l hb
   obtain⟨row,hb,hr⟩:=hH.rows hb;obtain⟨h1,q1⟩:=qe h;obtain⟨h2,q⟩:=qe q1;have h1:=xa7 h1;have h2:=xa6 h2;rw[qU]at q;have e:rowsOf H (.vec i n k)=some (n≤n'∧k=k',n,k,row):=by simp only[rowsOf,hb]
   refine⟨_,_,_,row,_,e,⟨h1,h2⟩,?_,q⟩;rw[h2];exact hr.take h1
  ·cases h
 ·split at h
  ·rename_i i n k _ _ k' n' l hb
   obtain⟨row,hb,hr⟩:=hH.rows hb;obtain⟨h1,q1⟩:=qe h;obtain⟨h2,q⟩:=qe q1;have h1:=xa7 h1;have h2:=xa6 h2;rw[qU]at q;have e:rowsOf H (.cut i n k)=some (n≤n'∧k=k',n,k,row):=by simp only[rowsOf,hb]
   refine⟨_,_,_,row,_,e,⟨h1,h2⟩,?_,q⟩;rw[h2];exact hr.take h1
  ·cases h
 ·split at h
  ·rename_i off n k _ _ l hb
   obtain⟨h1,h⟩:=qe h;have h1:=xa7 h1;rw[qU]at h;refine⟨_,_,_,_,_,by simp only[rowsOf,hH.cells hb];rfl,h1,⟨by rw[xd9,List.length_drop];omega,fun i j hi hj=>?_⟩,h⟩;rw[xc6,xc6,List.getElem?_take,if_pos (kX hi hj),List.getElem?_drop]
  ·cases h
 ·rw[ko]at h
  exact⟨_,_,_,_,_,rfl,trivial,g9 _ _ _,h⟩
 ·obtain⟨h1,h⟩:=qe h
  exact⟨_,_,_,_,_,by simp only[rowsOf,h1,if_true];rfl,trivial,RowL.nil _,h⟩
 ·cases h
theorem GP:∀{l:List SV}{i:Nat}{s:SV},allOne l=true→l[i]? = some s→oneCell s=true
 |[],i,s,h,e=>by simp at e
 |a :: l,i,s,h,e=>by
  simp only[allOne,xe6]at h;cases i with
  |zero=>simp at e;subst e;exact h.1
  |succ i=>exact GP h.2 (by simpa using e)
theorem RowL.one{n k:Nat}{l:List SV}{row:Nat→Nat→SV}(h:RowL n k l row)(h1:allOne l=true):oneRows n k row:=fun i j hi hj=>by
 have hlt:i*k+j<l.length:=by rw[h.1];exact kX hi hj
 rw[h.2 i j hi hj,xc6,xc7 hlt];exact GP h1 (xc7 hlt)
def orK(a b:Bool):Bool:=Bool.rec b true a
theorem Wc{a b:Bool}(h:orK a b=true):a=true∨b=true:=by cases a<;>first|exact .inr h|exact .inl rfl
def qcT(e k:Nat)(m k2:Nat)(l2:List SV)(n k1:Nat)(l1:List SV)(id:Nat)(f:XR→R):R:=
 qk 141 (Nat.ble 1 m) (qk 142 (orK (Nat.beq n 0) (Nat.beq k1 k)) (qk 143 (Nat.beq k2 k) (ql (n+m) fun q=>qk 144 (Nat.ble q 1000000) (gC (l1++l2) fun l=>f (.new (.rows e k q l) (.vec id q k))))))
def qlG(hp:Tr 6 XB)(e k id0 n k' m k2:Nat)(l2:List SV)(id:Nat)(f:XR→R):R:=
 match hp.find id0 with
 |some (.rows t' k'' n' l1)=>qk 145 (orK (Nat.beq m 0) (Nat.beq k2 k)) (qk 146 (Nat.beq k' k) (qk 147 (Nat.beq k'' k) (qk 148 (Nat.beq t' e) (qk 149 (Nat.ble n n') (qk 150 (allOne l2) (ql (n+m) fun q=>qk 151 (Nat.ble q 1000000) (gC (l1.take (n*k)++l2) fun l=>f (.grow id0 (.rows e k q l) (.vec id q k)))))))))
 |_=>.bad 152 0
def qlH(hp:Tr 6 XB)(e k:Nat)(s:SV)(m k2:Nat)(l2:List SV)(id:Nat)(f:XR→R):R:=
 match s with
 |.vec id0 n k'=>qlG hp e k id0 n k' m k2 l2 id f
 |.val u=>qk 153 (nilSlice u) (qk 154 (orK (Nat.beq m 0) (Nat.beq k2 k)) (qk 155 (Nat.ble m 1000000) (f (.new (.rows e k m l2) (.vec id m k)))))
 |.cut i n kk=>Q9 hp (.cut i n kk) fun n k1 l1=>qcT e k m k2 l2 n k1 l1 id f
 |.arr o true n kk row=>Q9 hp (.arr o true n kk row) fun n k1 l1=>qcT e k m k2 l2 n k1 l1 id f
 |_=>.bad 156 0
def Za(E:XE)(hp:Tr 6 XB)(t:TypeId)(s x:SV)(id:Nat)(f:XR→R):R:=
 match E.sls t with
 |some (e,k,_)=>Q9 hp x fun m k2 l2=>qlH hp e k s m k2 l2 id f
 |none=>.bad 157 0
theorem RowL.of0{m k k2:Nat}{l:List SV}{row:Nat→Nat→SV}(h:RowL m k2 l row)(h0:m=0∨k2=k):RowL m k l row:=by
 rcases h0 with rfl|rfl
 ·have:=h.1
  rw[Nat.zero_mul]at this;rw[List.length_eq_zero_iff.1 this];exact RowL.nil row
 ·exact h
theorem qbs(hE:XOk P E)(hH:HRel LM hp H){t:TypeId}{s x:SV}(h:Za E hp t s x id f=.ok ρ):zU ρ f id (rAppend P t H s x):=by
 unfold Za at h;split at h
 ·rename_i e k z ht
  obtain⟨⟨_,_,_,h1⟩,⟨_,_,_,h2⟩,h3,h4,h5⟩:=hE.sls _ _ _ _ ht;obtain⟨obl,m,k2,row2,l2,hx,ho,hr,h⟩:=vx hH h;simp only[rAppend,h1,h2,hx];have new:∀{n k1:Nat}{l1:List SV}{row1:Nat→Nat→SV}{obl1:Prop},qcT e k m k2 l2 n k1 l1 id f=.ok ρ→obl1→RowL n k1 l1 row1→zU ρ f id (.new (obl1∧obl∧0<m∧(n=0∨k1=k)∧k2=k∧0<k∧z.length=k∧n+m≤1000000∧qP P e≤100000000) (.rows e k (n+m) (fun i j=>if i<n then row1 i j else row2 (i - n) j)) (fun id=>.vec id (n+m) k)):=by
   intro n k1 l1 row1 obl1 h ho1 hr1;unfold qcT at h;obtain⟨q1,h⟩:=qe h;obtain⟨q2,h⟩:=qe h;obtain⟨q3,h⟩:=qe h;rw[qi]at h;obtain⟨q4,h⟩:=qe h;rw[qU]at h;have q1:=xa7 q1;have q2:n=0∨k1=k:=(Wc q2).imp xa6 xa6;have q3:=xa6 q3;have q4:=xa7 q4;exact g8 h rfl ⟨ho1,ho,q1,q2,q3,h3,h4,q4,h5⟩ ⟨rfl,rfl,rfl,(hr1.of0 q2).app (hr.of0 (.inr q3))⟩ rfl
  unfold qlH at h;split at h
  ·unfold qlG at h
   split at h
   ·rename_i hb
    obtain⟨row,hb,hr1⟩:=hH.rows hb;obtain⟨q1,h⟩:=qe h;obtain⟨q2,h⟩:=qe h;obtain⟨q3,h⟩:=qe h;obtain⟨q4,h⟩:=qe h;obtain⟨q5,h⟩:=qe h;obtain⟨q6,h⟩:=qe h;rw[qi]at h;obtain⟨q7,h⟩:=qe h;rw[qU]at h;have q1:m=0∨k2=k:=(Wc q1).imp xa6 xa6;have q2:=xa6 q2;have q3:=xa6 q3;have q4:=xa6 q4;have q5:=xa7 q5;have q7:=xa7 q7;simp only[hb];rw[q3]at hr1;exact qeV h rfl ⟨ho,q1,q2,q3,q4,q5,h3,h4,(hr.of0 q1).one q6,q7,h5⟩ ⟨rfl,rfl,rfl,(hr1.take q5).app (hr.of0 q1)⟩ rfl
   ·cases h
  ·obtain⟨q1,h⟩:=qe h
   obtain⟨q2,h⟩:=qe h;obtain⟨q3,h⟩:=qe h;have q2:m=0∨k2=k:=(Wc q2).imp xa6 xa6;simp only[q1];exact g8 h rfl ⟨ho,q2,h3,h4,xa7 q3,h5⟩ ⟨rfl,rfl,rfl,hr.of0 q2⟩ rfl
  ·obtain⟨obl1,n,k1,row1,l1,hx1,ho1,hr1,h⟩:=vx hH h
   simp only[hx1];exact new h ho1 hr1
  ·obtain⟨obl1,n,k1,row1,l1,hx1,ho1,hr1,h⟩:=vx hH h
   simp only[hx1];exact new h ho1 hr1
  ·cases h
 ·cases h
end
end
end Go.Sx
end
section
namespace Go.Sx
open Go.RowKit
noncomputable section
variable{ρ:Q}
section
variable{P:Program}{E:XE}{f:XR→R}{id:Nat}{hp:Tr 6 XB}{H:List (Nat×Blk)}{LM:Nat→Option Loop}
def ZQ(d:Nat)(o:Option SV)(g:Nat→R):R:=
 match o with
 |none=>g d
 |some (.val (.int _ (.ofNat i)))=>g i
 |_=>.bad 160 0
theorem Zb{d:Nat}{o:Option SV}{g:Nat→R}(h:ZQ d o g=.ok ρ):∃a,bnd (d:Int) o=some (Int.ofNat a)∧g a=.ok ρ:=by
 unfold ZQ at h;split at h
 ·exact⟨d,rfl,h⟩
 ·exact⟨_,rfl,h⟩
 ·cases h
theorem ja{o:Option SV}{g:Nat→R}(h:ZQ 0 o g=.ok ρ):∃a,bnd 0 o=some (Int.ofNat a)∧g a=.ok ρ:=Zb (d:=0) h
theorem zT{a b:Nat}(h:a≤b):Int.ofNat a≤Int.ofNat b:=by simp only[Int.ofNat_eq_natCast];omega
theorem yx{a b:Nat}:(Int.ofNat b - Int.ofNat a).toNat=b - a:=by simp only[Int.ofNat_eq_natCast];omega
def qcU(k:Nat)(id n k':Nat)(lo hi mx:Option SV)(f:XR→R):R:=
 ZQ 0 lo fun l=>ZQ n hi fun h=>qk 162 (Nat.ble h n) (qk 163 (Nat.beq k' k) (qk 161 (Nat.ble l h) (match mx with
  |none=>Bool.rec (qk 182 (Nat.beq h n) (ql (h - l) fun q=>f (.pure (.que id l q k)))) (f (.pure (.vec id h k))) (Nat.beq l 0)
  |some m=>ZQ 0 (some m) fun m=>qk 164 (Nat.ble h m) (qk 165 hi.isSome (qk 183 (Nat.ble m n) (Bool.rec (f (.pure .top)) (f (.pure (.cut id h k))) (Nat.beq l 0&&Nat.beq h m)))))))
def qcV(u:Value)(lo hi mx:Option SV)(f:XR→R):R:=
 ZQ 0 lo fun l=>ZQ 0 hi fun h=>qk 166 (nilSlice u) (qk 167 (Nat.beq l 0) (qk 168 (Nat.beq h 0) (match mx with
  |none=>f (.pure (.val (.slice none 0 0)))
  |some m=>ZQ 0 (some m) fun m=>qk 169 (Nat.beq m 0) (qk 170 hi.isSome (f (.pure (.val (.slice none 0 0))))))))
def qht(l h n:Nat):Bool:=Bool.rec false (Bool.rec false (orK (Nat.beq l 0) (Nat.ble (Nat.succ l) h)) (Nat.ble h n)) (Nat.ble l h)
theorem YE{l h n:Nat}(e:qht l h n=true):0≤Int.ofNat l∧(Int.ofNat l=0∨Int.ofNat l<Int.ofNat h)∧Int.ofNat l≤Int.ofNat h∧Int.ofNat h≤(n:Int):=by
 unfold qht at e;cases h1:Nat.ble l h with
 |false=>rw[h1]at e;cases e
 |true=>
  rw[h1]at e;cases h2:Nat.ble h n with
  |false=>rw[h2]at e;cases e
  |true=>
   rw[h2]at e;have e:orK (Nat.beq l 0) (Nat.ble (Nat.succ l) h)=true:=e;have h1:=xa7 h1;have h2:=xa7 h2;have e:=(Wc e).imp xa6 xa7;simp only[Int.ofNat_eq_natCast];omega
def KD(n k:Nat)(id off:Nat)(lo hi:Option SV)(f:XR→R):R:=
 ZQ 0 lo fun l=>ZQ n hi fun h=>qk 171 (qht l h n) (ql (off+l*k) fun o=>ql (h - l) fun q=>f (.pure (.asl id o q k)))
def qcW(k:Nat)(x:SV)(lo hi mx:Option SV)(f:XR→R):R:=
 match x with
 |.vec id n k'=>qcU k id n k' lo hi mx f
 |.val u=>qcV u lo hi mx f
 |.asl id off n k'=>(match mx with|none=>qk 172 (Nat.beq k' k) (KD n k id off lo hi f)|some _=>.bad 173 0)
 |.arr o full n k' row=>(match mx with|none=>ZQ 0 lo fun l=>ZQ n hi fun h=>qk 174 (Nat.ble l h) (qk 175 (Nat.ble h n) (qk 176 (Nat.beq k' k) (Kj (full&&hi.isNone) fun fl=>ql (h - l) fun q=>f (.pure (.arr o fl q k (fun i j=>row (l+i) j))))))|some _=>.bad 177 0)
 |_=>.bad 178 0
def qbt(E:XE)(t:TypeId)(x:SV)(lo hi mx:Option SV)(f:XR→R):R:=
 match E.tys t with
 |some ⟨_,_,_,.slice _ k⟩=>qcW k x lo hi mx f
 |some ⟨_,_,_,.array n _ k⟩=>(match x with
  |.ptr id off=>(match mx with|none=>KD n k id off lo hi f|some _=>.bad 179 0)
  |_=>.bad 180 0)
 |_=>.bad 181 0
theorem YF{m:SV}{a:Nat}(h:bnd 0 (some m)=some (Int.ofNat a)):∃k,m=.val (.int k (Int.ofNat a)):=by
 unfold bnd at h;split at h
 ·rename_i e;cases e
 ·rename_i e;cases e;cases h;exact⟨_,rfl⟩
 ·cases h
theorem qfd(hE:XOk P E){t:TypeId}{x:SV}{lo hi mx:Option SV}(h:qbt E t x lo hi mx f=.ok ρ):zU ρ f id (rSlice (qq P t) x lo hi mx):=by
 unfold qbt at h;split at h
 ·rename_i ht
  rw[hE.tys _ _ ht];unfold qcW at h;split at h
  ·unfold qcU at h
   obtain⟨a,ea,h⟩:=ja h;obtain⟨b,eb,h⟩:=Zb h;obtain⟨q2,h⟩:=qe h;obtain⟨q3,h⟩:=qe h;obtain⟨q1,h⟩:=qe h;have q1:=xa7 q1;have q2:=xa7 q2;have q3:=xa6 q3;split at h
   ·simp only[rSlice,ea,eb]
    cases z:Nat.beq a 0 with
    |true=>
     rw[z]at h;have z:=xa6 z;subst z;exact qh rfl ⟨Int.le_refl _,qK _,zT q2,.inl rfl,q3⟩ h
    |false=>
     rw[z]at h;obtain⟨q4,h⟩:=qe h;have q4:=xa6 q4;rw[qi]at h;have hz:¬(Int.ofNat a=0):=fun c=>by
      simp only[Int.ofNat_eq_natCast]at c;have:a=0:=by omega
      rw[this]at z;cases z
     have ee:∀i k,zZ (Int.ofNat a) (Int.ofNat b) i k=.que i a (b - a) k:=fun i k=>by
      unfold zZ;rw[if_neg hz,yx];rfl
     rw[ee];exact qh rfl ⟨qK _,zT q1,zT q2,.inr (by rw[q4];rfl),q3⟩ h
   ·obtain⟨c,ec,p⟩:=ja h
    obtain⟨q4,p1⟩:=qe p;obtain⟨q5,p2⟩:=qe p1;obtain⟨q6,p3⟩:=qe p2;obtain⟨kk,em⟩:=YF ec;have q4:=xa7 q4;have q6:=xa7 q6;rw[em];simp only[rSlice,ea,eb];cases z:(Nat.beq a 0&&Nat.beq b c)with
    |true=>
     rw[z]at p3;simp only[xe6]at z;have z1:=xa6 z.1;have z2:=xa6 z.2;have ee:∀i k,jD (Int.ofNat a) (Int.ofNat b) (Int.ofNat c) i k=.cut i b k:=fun i k=>by
      unfold jD;rw[if_pos ⟨by rw[z1];rfl,by rw[z2]⟩];rfl
     rw[ee];exact qh rfl ⟨qK _,zT q1,zT q4,zT q6,q5,q3⟩ p3
    |false=>
     rw[z]at p3;have ee:∀i k,jD (Int.ofNat a) (Int.ofNat b) (Int.ofNat c) i k=.top:=fun i k=>by
      unfold jD;rw[if_neg];rintro⟨z1,z2⟩;simp only[Int.ofNat_eq_natCast]at z1 z2;have z1:a=0:=by omega
      have z2:b=c:=by omega
      rw[z1,z2,Nat.beq_refl,Nat.beq_refl]at z;cases z
     rw[ee];exact qh rfl ⟨qK _,zT q1,zT q4,zT q6,q5,q3⟩ p3
  ·unfold qcV at h
   obtain⟨a,ea,h⟩:=ja h;obtain⟨b,eb,h⟩:=ja h;obtain⟨q1,h⟩:=qe h;obtain⟨q2,h⟩:=qe h;obtain⟨q3,h⟩:=qe h;have z2:Int.ofNat a=0:=by rw[xa6 q2];rfl
   have z3:Int.ofNat b=0:=by rw[xa6 q3];rfl
   split at h
   ·simp only[rSlice,ea,eb]
    exact qh rfl ⟨q1,z2,z3⟩ h
   ·obtain⟨c,ec,p⟩:=ja h
    obtain⟨q4,p1⟩:=qe p;obtain⟨q5,p2⟩:=qe p1;obtain⟨kk,em⟩:=YF ec;have z4:Int.ofNat c=0:=by rw[xa6 q4];rfl
    rw[em];simp only[rSlice,ea,eb];exact qh rfl ⟨q1,z2,z3,z4,q5⟩ p2
  ·split at h
   ·obtain⟨q1,h⟩:=qe h
    unfold KD at h;obtain⟨a,ea,h⟩:=ja h;obtain⟨b,eb,h⟩:=Zb h;obtain⟨q2,h⟩:=qe h;rw[qi,qi]at h;obtain⟨r1,r2,r3,r4⟩:=YE q2;simp only[rSlice,ea,eb];rw[←yx]at h;exact qh rfl ⟨r1,r2,r3,r4,xa6 q1⟩ h
   ·cases h
  ·split at h
   ·obtain⟨a,ea,h⟩:=ja h
    obtain⟨b,eb,h⟩:=Zb h;obtain⟨q1,h⟩:=qe h;obtain⟨q2,h⟩:=qe h;obtain⟨q3,h⟩:=qe h;rw[QZ,qi,←yx]at h;simp only[rSlice,ea,eb];exact qh rfl ⟨qK _,zT (xa7 q1),zT (xa7 q2),xa6 q3⟩ h
   ·cases h
  ·cases h
 ·rename_i ht
  rw[hE.tys _ _ ht];split at h
  ·split at h
   ·unfold KD at h
    obtain⟨a,ea,h⟩:=ja h;obtain⟨b,eb,h⟩:=Zb h;obtain⟨q2,h⟩:=qe h;rw[qi,qi]at h;simp only[rSlice,ea,eb];rw[←yx]at h;exact qh rfl (YE q2) h
   ·cases h
  ·cases h
 ·cases h
theorem YG:∀l:List Value,(vals l).length=l.length
 |[]=>rfl
 |a :: l=>by rw[vals,xe4,xe4,YG l]
theorem qcX:∀(l:List Value)(i:Nat),i<l.length→(vals l)[i]? = some (.val (l.getD i undef))
 |[],i,h=>by simp at h
 |a :: l,0,h=>rfl
 |a :: l,i+1,h=>by
  rw[vals,xd7,qcX l i Ω8];rfl
theorem YH(z:List Value):∀n,RowL n z.length (zrep z n) (fun _ j=>.val (z.getD j undef))
 |0=>RowL.nil _
 |n+1=>by
  have h1:RowL 1 z.length (vals z) (fun _ j=>.val (z.getD j undef)):=by
   refine⟨by rw[YG,Nat.one_mul],fun i j hi hj=>?_⟩;obtain rfl:i=0:=by omega
   rw[xc6,Nat.zero_mul,xb0,qcX z j hj];rfl
  have h2:=h1.app (YH z n);refine⟨by have:=h2.1;rw[xc5 1 n]at this;exact this,fun i j hi hj=>?_⟩;rw[show zrep z (n+1)=vals z++zrep z n from rfl,←h2.2 i j Ω hj];show _=if i<1 then SV.val (z.getD j undef)else SV.val (z.getD j undef)
  rw[ite_self]
def qkh(s:SV)(g:Nat→R):R:=
 match s with
 |.val (.int _ (.ofNat n))=>g n
 |_=>.bad 190 0
theorem qcY{s:SV}{g:Nat→R}(h:qkh s g=.ok ρ):∃k n,s=.val (.int k (Int.ofNat n))∧g n=.ok ρ:=by
 unfold qkh at h;split at h
 ·exact⟨_,_,rfl,h⟩
 ·cases h
def qhu(E:XE)(t:TypeId)(l c:SV)(id:Nat)(f:XR→R):R:=
 match E.sls t with
 |some (e,k,z)=>qkh l fun l=>qkh c fun c=>qk 191 (Nat.ble l c) (qk 192 (Nat.ble c 1000000) (yL (zrep z c) fun L=>f (.new (.rows e k c L) (.vec id l k))))
 |none=>.bad 193 0
theorem qhv(hE:XOk P E){t:TypeId}{l c:SV}(h:qhu E t l c id f=.ok ρ):zU ρ f id (rMakeSlice P t l c):=by
 unfold qhu at h;split at h
 ·rename_i e k z ht
  obtain⟨⟨_,_,_,h1⟩,⟨_,_,_,h2⟩,h3,h4,h5⟩:=hE.sls _ _ _ _ ht;obtain⟨_,a,e1,p1⟩:=qcY h;obtain⟨_,b,e2,p2⟩:=qcY p1;obtain⟨q1,p3⟩:=qe p2;obtain⟨q2,p4⟩:=qe p3;rw[ko]at p4;rw[e1,e2];simp only[rMakeSlice,h1,h2];subst h4;have q2:=zT (xa7 q2);exact g8 p4 rfl ⟨qK _,zT (xa7 q1),q2,h5,rfl,h3⟩ ⟨rfl,rfl,rfl,YH z b⟩ rfl
 ·cases h
def qcZ(l:Option (List SV))(f:XR→R):R:=
 match l with
 |some l=>yL l fun l=>f (.pure (.agg l))
 |none=>.bad 194 0
def qbu(E:XE)(t:TypeId)(ps:List (Nat×SV))(f:XR→R):R:=
 match E.tys t,E.pls t with
 |some ⟨true,_,some z,_⟩,some pl=>qcZ (fillS (fun i=>pl[i]?) (vals z) ps) f
 |_,_=>.bad 195 0
theorem qfe(hE:XOk P E){t:TypeId}{ps:List (Nat×SV)}(h:qbu E t ps f=.ok ρ):zU ρ f id (rBuild P t ps):=by
 unfold qbu at h;split at h
 ·rename_i z _ pl ht hp
  have ht:=hE.tys _ _ ht;have hp:=hE.pls _ _ hp;unfold qcZ at h;simp only[rBuild,ht,hp];split at h
  ·rename_i l hl
   rw[ko]at h;rw[hl];exact qh rfl trivial h
  ·cases h
 ·cases h
def qda(e k len:Nat)(id:Nat)(l:Option (List SV))(f:XR→R):R:=
 match l with
 |some l=>yL l fun l=>qk 196 (Nat.beq l.length (len*k)) (qk 197 (Nat.ble (len*k) 16777216) (f (.new (.rows e k len l) (.vec id len k))))
 |none=>.bad 198 0
def wV(E:XE)(t:TypeId)(len:Nat)(ps:List (Nat×SV))(id:Nat)(f:XR→R):R:=
 match E.sls t with
 |some (e,k,z)=>qda e k len id (fillS (fun i=>some (i*k,k)) (zrep z len) ps) f
 |none=>.bad 199 0
theorem GQ(hE:XOk P E){t:TypeId}{len:Nat}{ps:List (Nat×SV)}(h:wV E t len ps id f=.ok ρ):zU ρ f id (rBuildSlice P t len ps):=by
 unfold wV at h;split at h
 ·rename_i e k z ht
  obtain⟨⟨_,_,_,h1⟩,⟨_,_,_,h2⟩,h3,h4,h5⟩:=hE.sls _ _ _ _ ht;unfold qda at h;simp only[rBuildSlice,h1,h2];split at h
  ·rename_i l hl
   rw[ko]at h;obtain⟨q1,h⟩:=qe h;obtain⟨q2,h⟩:=qe h;rw[hl];exact g8 h rfl ⟨h4,h3,xa7 q2⟩ ⟨rfl,rfl,rfl,xa6 q1,fun i j _ _=>rfl⟩ rfl
  ·cases h
 ·cases h
def qhw(hp:Tr 6 XB)(k:Nat)(id n k' m k2:Nat)(l2:List SV)(f:XR→R):R:=
 match hp.find id with
 |some (.rows t k'' n' l)=>qk 200 (Nat.beq k2 k) (qk 201 (Nat.beq k' k) (qk 202 (Nat.beq k'' k) (qk 203 (Nat.ble n n') (qk 204 (Nat.ble 1 k) (qk 205 (allOne l2) (ql (min m n) fun q=>gC (l2.take (q*k)++l.drop (q*k)) fun l=>f (.upd id (.rows t k n' l) (.val (.int .i64 (q:Nat))))))))))
 |_=>.bad 206 0
def qhx(hp:Tr 6 XB)(k:Nat)(id off n k' m k2:Nat)(l2:List SV)(f:XR→R):R:=
 match hp.find id with
 |some (.cells t l)=>qk 207 (Nat.beq k2 1) (qk 208 (Nat.beq k' 1) (qk 209 (Nat.beq k 1) (qk 210 (Nat.ble (off+n) l.length) (qk 211 (Nat.ble 1 m) (qk 212 (Nat.ble 1 n) (qk 213 (allOne l2) (ql (min m n) fun q=>gC (l.take off++l2.take q++l.drop (off+q)) fun l=>f (.upd id (.cells t l) (.val (.int .i64 (q:Nat)))))))))))
 |_=>.bad 214 0
def qhy(hp:Tr 6 XB)(k:Nat)(d:SV)(m k2:Nat)(l2:List SV)(f:XR→R):R:=
 match d with
 |.vec id n k'=>qhw hp k id n k' m k2 l2 f
 |.asl id off n k'=>qhx hp k id off n k' m k2 l2 f
 |_=>.bad 215 0
def qhz(E:XE)(hp:Tr 6 XB)(t:TypeId)(d x:SV)(f:XR→R):R:=
 match E.tys t with
 |some ⟨_,_,_,.slice _ k⟩=>Q9 hp x fun m k2 l2=>qhy hp k d m k2 l2 f
 |_=>.bad 216 0
theorem RowL.cpy{n m k q:Nat}{l l2:List SV}{row row2:Nat→Nat→SV}(h:RowL n k l row)(h2:RowL m k l2 row2)(hq:q≤m)(hn:q≤n):RowL n k (l2.take (q*k)++l.drop (q*k)) (fun i j=>if i<q then row2 i j else row i j):=by
 have a1:q*k≤m*k:=xa8 k hq;have a2:q*k≤n*k:=xa8 k hn;have e1:(l2.take (q*k)).length=q*k:=by rw[xd9,h2.1];omega
 refine⟨by rw[xc8,e1,List.length_drop,h.1];omega,fun i j hi hj=>?_⟩;show(if i<q then row2 i j else row i j)=_;rw[xc6];by_cases c:i<q
 ·rw[if_pos c,h2.2 i j Ω hj,xc6,xc9 (by rw[e1];exact kX c hj),List.getElem?_take,if_pos (kX c hj)]
 ·have hge:q*k≤i*k:=xa8 k Ω
  rw[if_neg c,h.2 i j hi hj,xc6,xd0 (by rw[e1];omega),e1,List.getElem?_drop]
  congr 2;omega
theorem qhA{m q:Nat}{l:List SV}{row:Nat→Nat→SV}(h:RowL m 1 l row)(hq:q≤m):(List.range q).map (fun i=>row i 0)=l.take q:=by
 refine List.ext_getElem? fun i=>?_;rw[List.getElem?_take];by_cases c:i<q
 ·have hl:i<l.length:=by rw[h.1];omega
  rw[if_pos c,List.getElem?_map,xe3 c,xc7 hl];show some (row i 0)=_;rw[h.2 i 0 Ω Ω,xc6,Nat.mul_one,xb1,xc7 hl];rfl
 ·rw[if_neg c,List.getElem?_eq_none Ωj]
theorem qhB(hE:XOk P E)(hH:HRel LM hp H){t:TypeId}{d x:SV}(h:qhz E hp t d x f=.ok ρ):zU ρ f id (rCopy P t H d x):=by
 unfold qhz at h;split at h
 ·rename_i k ht
  have ht:=hE.tys _ _ ht;obtain⟨obl,m,k2,row2,l2,hx,ho,hr,h⟩:=vx hH h;unfold qhy at h;simp only[rCopy,ht,hx];split at h
  ·unfold qhw at h
   split at h
   ·rename_i hb
    obtain⟨row,hb,hr1⟩:=hH.rows hb;obtain⟨q1,h⟩:=qe h;obtain⟨q2,h⟩:=qe h;obtain⟨q3,h⟩:=qe h;obtain⟨q4,h⟩:=qe h;obtain⟨q5,h⟩:=qe h;obtain⟨q6,h⟩:=qe h;rw[qi,qU]at h;have q1:=xa6 q1;have q2:=xa6 q2;have q3:=xa6 q3;have q4:=xa7 q4;have q5:=xa7 q5;simp only[hb];rw[q3]at hr1;have hr2:=hr.of0 (.inr q1);exact J9 h rfl ⟨ho,.inr q1,q2,q3,q4,q5,hr2.one q6⟩ ⟨rfl,rfl,rfl,hr1.cpy hr2 (Nat.min_le_left _ _) Ω⟩
   ·cases h
  ·unfold qhx at h
   split at h
   ·rename_i hb
    obtain⟨q1,h⟩:=qe h;obtain⟨q2,h⟩:=qe h;obtain⟨q3,h⟩:=qe h;obtain⟨q4,h⟩:=qe h;obtain⟨q5,h⟩:=qe h;obtain⟨q6,h⟩:=qe h;obtain⟨q7,h⟩:=qe h;rw[qi,qU]at h;have q1:=xa6 q1;have q2:=xa6 q2;have q3:=xa6 q3;have q4:=xa7 q4;have q5:=xa7 q5;have q6:=xa7 q6;simp only[hH.cells hb];have hr2:=hr.of0 (.inr q1);exact J9 h rfl ⟨ho,q1,q2,q3,q4,q5,q6,hr2.one q7⟩ ⟨rfl,by rw[qhA hr2 (Nat.min_le_left _ _)]⟩
   ·cases h
  ·cases h
 ·cases h
def qdb(hp:Tr 6 XB)(v:Value)(k:Nat)(d:SV)(f:XR→R):R:=
 match d with
 |.asl id off n k'=>(match hp.find id with
  |some (.cells t l)=>qk 220 (Nat.ble (off+n) l.length) (qk 221 (Nat.beq k' 1) (qk 222 (Nat.beq k 1) (qk 223 v.oneCell' (qk 224 (Nat.ble 1 n) (gC (l.take off++List.replicate n (.val v)++l.drop (off+n)) fun l=>f (.upd id (.cells t l) undefSV))))))
  |_=>.bad 225 0)
 |.vec id n k'=>(match hp.find id with
  |some (.rows t kk m l)=>qk 228 (Nat.beq k' 1) (qk 229 (Nat.beq kk 1) (qk 241 (Nat.beq k 1) (qk 242 (Nat.ble n m) (qk 243 v.oneCell' (gC (List.replicate n (.val v)++l.drop n) fun l=>f (.upd id (.rows t 1 m l) undefSV))))))
  |_=>.bad 244 0)
 |.que id off n k'=>(match hp.find id with
  |some (.rows t kk m l)=>qk 248 (Nat.beq k' 1) (qk 249 (Nat.beq kk 1) (qk 250 (Nat.beq k 1) (qk 251 (Nat.ble (off+n) m) (qk 252 v.oneCell' (gC (l.take off++(List.replicate n (.val v)++l.drop (off+n))) fun l=>f (.upd id (.rows t 1 m l) undefSV))))))
  |_=>.bad 253 0)
 |_=>.bad 226 0
theorem RowL.clrq{off n m:Nat}{l:List SV}{row:Nat→Nat→SV}{v:SV}(h:RowL m 1 l row)(hn:off+n≤m):RowL m 1 (l.take off++(List.replicate n v++l.drop (off+n))) (fun i j=>if off≤i∧i<off+n then v else row i j):=by
 obtain⟨h1,h2⟩:=h;have ht:(l.take off).length=off:=by rw[xd9];omega
 refine⟨by simp[h1];omega,fun i j hi hj=>?_⟩;have hj0:j=0:=by omega
 subst hj0;simp only[Nat.mul_one,xb1,xc6];by_cases c:i<off
 ·rw[if_neg Ω,xc9 Ω,List.getElem?_take,if_pos c,h2 i 0 hi Ω]
  simp only[Nat.mul_one,xb1,xc6]
 ·rw[xd0 Ω,ht]
  by_cases d:i<off+n
  ·rw[if_pos Ω,xc9 Ωj,List.getElem?_replicate,if_pos Ω];rfl
  ·rw[if_neg Ω,xd0 Ωj,h2 i 0 hi Ω]
   simp only[xd8,List.getElem?_drop,Nat.mul_one,xb1,xc6];rw[show off+n+(i - off - n)=i by omega]
theorem RowL.clr{n m:Nat}{l:List SV}{row:Nat→Nat→SV}{v:SV}(h:RowL m 1 l row)(hn:n≤m):RowL m 1 (List.replicate n v++l.drop n) (fun i j=>if i<n then v else row i j):=by
 obtain⟨h1,h2⟩:=h;refine⟨by simp[h1];omega,fun i j hi hj=>?_⟩;have hj0:j=0:=by omega
 subst hj0;simp only[Nat.mul_one,xb1,xc6];by_cases c:i<n
 ·rw[if_pos c,xc9 (by simpa using c)]
  simp[c]
 ·rw[if_neg c,xd0 (by simpa using c),h2 i 0 hi Ω]
  simp only[xd8,List.getElem?_drop,Nat.mul_one,xb1,xc6];rw[show n+(i - n)=i by omega]
def qbv(E:XE)(hp:Tr 6 XB)(t:TypeId)(d:SV)(f:XR→R):R:=
 match E.sls t with
 |some (_,k,[v])=>qdb hp v k d f
 |some _=>.bad 227 0
 |none=>(match d with
  |.mp id=>(match E.mps t with
   |some mi=>(match hp.find id with
    |some (.map ag ls es)=>f (.upd id (.map ag ls []) undefSV)
    |_=>.bad 245 0)
   |none=>.bad 246 0)
  |_=>.bad 247 0)
theorem qff(hE:XOk P E)(hH:HRel LM hp H){t:TypeId}{d:SV}:qbv E hp t d f=.ok ρ→zU ρ f id (match d with
   |.mp id=>rClearMap (qI P t) H (.mp id)
   |x=>rClear P t H x):=by
 intro h;unfold qbv at h;split at h
 ·rename_i ht
  obtain⟨⟨_,_,_,h1⟩,⟨_,_,_,h2⟩,h3,h4,h5⟩:=hE.sls _ _ _ _ ht;unfold qdb at h;split at h
  ·split at h
   ·rename_i hb
    obtain⟨q1,h⟩:=qe h;obtain⟨q2,h⟩:=qe h;obtain⟨q3,h⟩:=qe h;obtain⟨q4,h⟩:=qe h;obtain⟨q5,h⟩:=qe h;rw[qU]at h;simp only[rClear,h1,h2,hH.cells hb];exact kV h rfl ⟨xa7 q1,xa6 q2,xa6 q3,q4,xa7 q5⟩ ⟨rfl,rfl⟩
   ·cases h
  ·split at h
   ·rename_i hb
    obtain⟨q1,p1⟩:=qe h;obtain⟨q2,p2⟩:=qe p1;obtain⟨q3,p3⟩:=qe p2;obtain⟨q4,p4⟩:=qe p3;obtain⟨q5,p5⟩:=qe p4;rw[qU]at p5;obtain⟨row,hb',hr⟩:=hH.rows hb;have q2:=xa6 q2;rw[q2]at hb' hr;simp only[rClear,h1,h2,hb'];exact kV p5 rfl ⟨xa6 q1,trivial,xa6 q3,xa7 q4,q5⟩ ⟨rfl,rfl,rfl,hr.clr (xa7 q4)⟩
   ·cases h
  ·split at h
   ·rename_i hb
    obtain⟨q1,p1⟩:=qe h;obtain⟨q2,p2⟩:=qe p1;obtain⟨q3,p3⟩:=qe p2;obtain⟨q4,p4⟩:=qe p3;obtain⟨q5,p5⟩:=qe p4;rw[qU]at p5;obtain⟨row,hb',hr⟩:=hH.rows hb;have q2:=xa6 q2;rw[q2]at hb' hr;simp only[rClear,h1,h2,hb'];exact kV p5 rfl ⟨xa6 q1,trivial,xa6 q3,xa7 q4,q5⟩ ⟨rfl,rfl,rfl,hr.clrq (xa7 q4)⟩
   ·cases h
  ·cases h
 ·cases h
 ·split at h
  ·split at h
   ·rename_i mi hm
    split at h
    ·rename_i ag ls es hb
     obtain⟨dom,get,g1,g2⟩:=hH.map hb;simp only[rClearMap,hE.mps _ _ hm,g1];exact kV h rfl trivial ⟨rfl,fun u=>⟨rfl,fun s hs=>by cases hs⟩⟩
    ·cases h
   ·cases h
  ·cases h
def qhC(s:SV)(g:Value→R):R:=
 match keyV s with
 |some v=>g v
 |none=>.bad 400 0
theorem We{s:SV}{g:Value→R}(h:qhC s g=.ok ρ):∃v,keyV s=some v∧g v=.ok ρ:=by
 unfold qhC at h;split at h
 ·rename_i v hv;exact⟨v,hv,h⟩
 ·cases h
def qhD(hp:Tr 6 XB)(x:SV)(mi:jP)(g:Nat→List (Value×Option SV)→R):R:=
 match x with
 |.mp id=>(match hp.find id with
  |some (.map ag ls es)=>qk 401 (decide (mi.ag=ag)) (qk 402 (qms mi.ls ls) (g id es))
  |_=>.bad 403 0)
 |_=>.bad 404 0
theorem Wf(hH:HRel LM hp H){x:SV}{mi:jP}{g:Nat→List (Value×Option SV)→R}(h:qhD hp x mi g=.ok ρ):∃id es dom get,x=.mp id∧blk H id=some (.map (qm mi.ag mi.ls) dom get)∧(∀k,dom k=(vv es k).isSome∧∀s,vv es k=some s→get k=s)∧g id es=.ok ρ:=by
 unfold qhD at h;split at h
 ·split at h
  ·rename_i ag ls es hb
   obtain⟨q1,p1⟩:=qe h;obtain⟨q2,p2⟩:=qe p1;obtain⟨dom,get,h1,h2⟩:=hH.map hb;rw[←of_decide_eq_true q1,←qcD q2]at h1;exact⟨_,_,_,_,rfl,h1,h2,p2⟩
  ·cases h
 ·cases h
def qhE(z:Value)(o:Option SV)(ok:Bool)(f:XR→R):R:=
 match o with
 |some s=>Bool.rec (f (.pure s)) (f (.pure (.tup [s,.val (.bool true)]))) ok
 |none=>Bool.rec (f (.pure (.val z))) (f (.pure (.tup [.val z,.val (.bool false)]))) ok
def KE(E:XE)(hp:Tr 6 XB)(t:TypeId)(x k:SV)(ok:Bool)(f:XR→R):R:=
 match E.mps t with
 |some mi=>qhD hp x mi fun _ es=>qhC k fun v=>qk 405 (KC mi.ag mi.ls v) (qhE mi.zero (vv es v) ok f)
 |none=>.bad 406 0
theorem qbw(hE:XOk P E)(hH:HRel LM hp H){t:TypeId}{x k:SV}{ok:Bool}(h:KE E hp t x k ok f=.ok ρ):zU ρ f id (rLookup (qI P t) H x k ok):=by
 unfold KE at h;split at h
 ·rename_i mi hm
  rw[hE.mps _ _ hm];obtain⟨i,es,dom,get,rfl,hb,hd,h⟩:=Wf hH h;obtain⟨v,hv,h⟩:=We h;obtain⟨q,h⟩:=qe h;rw[Qk]at q;obtain⟨ag,ls,z⟩:=mi;simp only[rLookup,mapOf,hb,hv];have hdv:=hd v;unfold qhE at h;split at h
  ·rename_i s hs
   rw[hs]at hdv;have e1:dom v=true:=hdv.1;have e2:get v=s:=hdv.2 s rfl;rw[e1,e2];cases ok
   ·exact qh rfl ⟨trivial,q⟩ h
   ·exact qh rfl ⟨trivial,q⟩ h
  ·rename_i hs
   rw[hs]at hdv;have e1:dom v=false:=hdv.1;rw[e1];cases ok
   ·exact qh rfl ⟨trivial,q⟩ h
   ·exact qh rfl ⟨trivial,q⟩ h
 ·cases h
def KF(E:XE)(hp:Tr 6 XB)(t:TypeId)(m k x:SV)(f:XR→R):R:=
 match E.mps t with
 |some mi=>qhD hp m mi fun i es=>qhC k fun v=>qk 407 (KC mi.ag mi.ls v) (qk 408 (oneCell x) (f (.upd i (.map mi.ag mi.ls ((v,some x) :: es)) undefSV)))
 |none=>.bad 409 0
theorem GR(hE:XOk P E)(hH:HRel LM hp H){t:TypeId}{m k x:SV}(h:KF E hp t m k x f=.ok ρ):zU ρ f id (rUpdate (qI P t) H m k x):=by
 unfold KF at h;split at h
 ·rename_i mi hm
  rw[hE.mps _ _ hm];obtain⟨i,es,dom,get,rfl,hb,hd,h⟩:=Wf hH h;obtain⟨v,hv,h⟩:=We h;obtain⟨q,h⟩:=qe h;rw[Qk]at q;obtain⟨q2,h⟩:=qe h;obtain⟨ag,ls,z⟩:=mi;simp only[rUpdate,hb,hv];refine kV h rfl ⟨trivial,q,q2⟩ ⟨rfl,fun u=>?_⟩;rw[wc];unfold qL qG;cases e:eqK v u with
  |true=>exact⟨rfl,fun s hs=>by rw[if_pos rfl]at hs;cases hs;rfl⟩
  |false=>
   rw[if_neg Ωr,xf4];exact⟨(hd u).1,fun s hs=>(hd u).2 s hs⟩
 ·cases h
def Wg(E:XE)(hp:Tr 6 XB)(t:TypeId)(m k:SV)(f:XR→R):R:=
 match E.mps t with
 |some mi=>qhD hp m mi fun i es=>qhC k fun v=>qk 410 (KC mi.ag mi.ls v) (f (.upd i (.map mi.ag mi.ls ((v,none) :: es)) undefSV))
 |none=>.bad 411 0
theorem qbx(hE:XOk P E)(hH:HRel LM hp H){t:TypeId}{m k:SV}(h:Wg E hp t m k f=.ok ρ):zU ρ f id (rDelete (qI P t) H m k):=by
 unfold Wg at h;split at h
 ·rename_i mi hm
  rw[hE.mps _ _ hm];obtain⟨i,es,dom,get,rfl,hb,hd,h⟩:=Wf hH h;obtain⟨v,hv,h⟩:=We h;obtain⟨q,h⟩:=qe h;rw[Qk]at q;obtain⟨ag,ls,z⟩:=mi;simp only[rDelete,hb,hv];refine kV h rfl ⟨trivial,q⟩ ⟨rfl,fun u=>?_⟩;rw[wc];unfold kM;cases e:eqK v u with
  |true=>exact⟨rfl,fun s hs=>by rw[if_pos rfl]at hs;cases hs⟩
  |false=>
   rw[if_neg Ωr,Bool.not_false,xf0];exact⟨(hd u).1,fun s hs=>(hd u).2 s hs⟩
 ·cases h
def Zc(E:XE)(t:TypeId)(rs:Bool)(id:Nat)(f:XR→R):R:=
 match E.mps t with
 |some mi=>qk 412 (!rs) (f (.new (.map mi.ag mi.ls []) (.mp id)))
 |none=>.bad 413 0
theorem YI(hE:XOk P E){t:TypeId}{rs:Bool}(h:Zc E t rs id f=.ok ρ):zU ρ f id (rMakeMap (qI P t) rs):=by
 unfold Zc at h;split at h
 ·rename_i mi hm
  rw[hE.mps _ _ hm];obtain⟨q,h⟩:=qe h;obtain⟨ag,ls,z⟩:=mi;cases rs
  ·exact g8 h rfl trivial ⟨rfl,fun k=>⟨rfl,fun s hs=>by cases hs⟩⟩ rfl
  ·cases q
 ·cases h
def qD(F:Tr 3 SV)(t:Nat):SV:=Option.rec .top (fun s=>s) (F.find t)
def FRel(fr:Tr 3 SV)(F:List (Nat×SV)):Prop:=∀t,look F t=qD fr t
def FRelF(fr:Tr 3 SV)(F:Nat→SV):Prop:=∀t,F t=qD fr t
theorem FRel.fn{fr:Tr 3 SV}{F:List (Nat×SV)}(h:FRel fr F):FRelF fr (look F):=h
def zk(F:Tr 3 SV)(x:Operand):SV:=Operand.rec (fun t=>qD F t) (fun v=>.val v) (fun _=>.top) (fun f=>.fn (.func f) [] []) x
theorem FRelF.env{fr:Tr 3 SV}{F:Nat→SV}(h:FRelF fr F)(x:Operand):env F x=zk fr x:=by cases x<;>first|exact h _|rfl
def wr(F:Tr 3 SV):List Operand→List SV
 |[]=>[]
 |x :: l=>zk F x :: wr F l
theorem FRelF.envs{fr:Tr 3 SV}{F:Nat→SV}(h:FRelF fr F):∀l:List Operand,envs F l=wr fr l
 |[]=>rfl
 |x :: l=>by rw[Sx.envs,wr,h.env,FRelF.envs h l]
def YJ(F:Tr 3 SV):List (Nat×Operand)→List (Nat×SV)
 |[]=>[]
 |x :: l=>(x.1,zk F x.2) :: YJ F l
theorem FRelF.envp{fr:Tr 3 SV}{F:Nat→SV}(h:FRelF fr F):∀l:List (Nat×Operand),envp F l=YJ fr l
 |[]=>rfl
 |x :: l=>by rw[Sx.envp,YJ,h.env,FRelF.envp h l]
def Zd(E:XE)(hp:Tr 6 XB)(b:Builtin)(ts:List TypeId)(args:List SV)(id:Nat)(f:XR→R):R:=
 match b with
 |.len=>(match args,ts with|[x],[t]=>qfc E t x f|_,_=>.bad 230 0)
 |.append=>(match args,ts with|[s,x],[t,t']=>qk 231 (Nat.beq t t') (Za E hp t s x id f)|_,_=>.bad 232 0)
 |.min=>qkg false args f
 |.max=>qkg true args f
 |.copy=>(match args,ts with|[d,x],[t,t']=>qhz E hp t d x f|_,_=>.bad 233 0)
 |.clear=>(match args,ts with|[d],[t]=>qbv E hp t d f|_,_=>.bad 234 0)
 |.delete=>(match args,ts with|[m,k],[t,t']=>Wg E hp t m k f|_,_=>.bad 238 0)
 |_=>.bad 235 0
def vy(E:XE)(fr:Tr 3 SV)(hp:Tr 6 XB)(c:Call)(id:Nat)(f:XR→R):R:=
 match c.callee with
 |.value x=>(match zk fr x with
  |.fn (.func g) first caps=>yL (first++(wr fr c.args.toList++caps)) fun l=>f (.call g l)
  |.yld y=>yL (wr fr c.args.toList) fun l=>f (.yield y l)
  |_=>.bad 236 0)
 |.builtin b=>Zd E hp b c.argTypes.toList (wr fr c.args.toList) id f
 |_=>.bad 237 0
theorem GS{F:Nat→SV}{l:List Operand}{s x:SV}(h:Sx.envs F l=[s,x]):∃a b,l=[a,b]∧s=Sx.env F a∧x=Sx.env F b:=by
 match l,h with
 |[a,b],h=>simp only[Sx.envs,List.cons.injEq,and_true]at h;exact⟨a,b,rfl,h.1.symm,h.2.symm⟩
 |[],h=>cases h
 |[a],h=>simp[Sx.envs]at h
 |a :: b :: c :: l,h=>simp[Sx.envs]at h
theorem YK{F:Nat→SV}{l:List Operand}{s:SV}(h:Sx.envs F l=[s]):∃a,l=[a]∧s=Sx.env F a:=by
 match l,h with
 |[a],h=>simp only[Sx.envs,List.cons.injEq,and_true]at h;exact⟨a,rfl,h.symm⟩
 |[],h=>cases h
 |a :: b :: l,h=>simp[Sx.envs]at h
theorem qhF(hE:XOk P E){fr:Tr 3 SV}{F:Nat→SV}(hF:FRelF fr F)(hH:HRel LM hp H){c:Call}(h:vy E fr hp c id f=.ok ρ):zU ρ f id (rCall P F H c):=by
 unfold vy at h;split at h
 ·rename_i x hc
  simp only[rCall,hc,hF.env,hF.envs];split at h
  ·rename_i hx
   rw[ko]at h;rw[hx];exact qeW rfl h
  ·rename_i hx
   rw[ko]at h;rw[hx];exact qbq rfl h
  ·cases h
 ·rename_i b hc
  rw[←hF.envs]at h;unfold Zd at h;split at h
  ·split at h
   ·rename_i ha ht
    obtain⟨a,e,rfl⟩:=YK ha;simp only[rCall,hc,e,ht];exact qkf hE h
   ·cases h
  ·split at h
   ·rename_i ha ht
    obtain⟨a,b,e,rfl,rfl⟩:=GS ha;obtain⟨q,h⟩:=qe h;have q:=xa6 q;simp only[rCall,hc,e,ht,if_pos q];exact qbs hE hH h
   ·cases h
  ·simp only[rCall,hc]
   exact qcS h
  ·simp only[rCall,hc]
   exact qcS h
  ·split at h
   ·rename_i ha ht
    obtain⟨a,b,e,rfl,rfl⟩:=GS ha;simp only[rCall,hc,e,ht];exact qhB hE hH h
   ·cases h
  ·split at h
   ·rename_i ha ht
    obtain⟨a,e,rfl⟩:=YK ha;simp only[rCall,hc,e,ht];exact qff hE hH h
   ·cases h
  ·split at h
   ·rename_i ha ht
    obtain⟨a,b,e,rfl,rfl⟩:=GS ha;simp only[rCall,hc,e,ht];exact qbx hE hH h
   ·cases h
  ·cases h
 ·cases h
def qki(fr:Tr 3 SV):Option Operand→Option SV
 |none=>none
 |some x=>some (zk fr x)
theorem FRelF.opt{fr:Tr 3 SV}{F:Nat→SV}(h:FRelF fr F)(o:Option Operand):o.map (Sx.env F)=qki fr o:=by
 cases o
 ·rfl
 ·show some _=some _;rw[h.env]
def xOp(E:XE)(fr:Tr 3 SV)(hp:Tr 6 XB)(id:Nat)(op:Op)(f:XR→R):R:=
 match op with
 |.move x=>Q3 (zk fr x) f
 |.assign x=>Q3 (zk fr x) f
 |.pick c a b=>qcJ (zk fr c) (zk fr a) (zk fr b) f
 |.alloc t=>V8 E t id f
 |.box t x=>qkc E t (zk fr x) id f
 |.load t x=>YA E hp t (zk fr x) f
 |.store t a x=>GO E hp t (zk fr a) (zk fr x) f
 |.nilCheck x=>qhq (zk fr x) f
 |.binOp op t x y _=>qbr E op t (zk fr x) (zk fr y) f
 |.unOp op _ x=>xUn op (zk fr x) f
 |.convert s t x=>qcI E s t (zk fr x) f
 |.makeFunc g fs cs=>yL (wr fr fs.toList) fun a=>yL (wr fr cs.toList) fun b=>f (.pure (.fn g a b))
 |.fieldAddr t x i=>jM E t (zk fr x) i f
 |.field t x i=>V9 E t (zk fr x) i f
 |.indexAddr t x i=>wd E t (zk fr x) (zk fr i) f
 |.extract x i=>Q7 (zk fr x) i f
 |.call c=>vy E fr hp c id f
 |.build t ps=>qbu E t (YJ fr ps.toList) f
 |.buildSlice t len ps=>wV E t len (YJ fr ps.toList) id f
 |.makeSlice t l c=>qhu E t (zk fr l) (zk fr c) id f
 |.slice t x lo hi mx=>qbt E t (zk fr x) (qki fr lo) (qki fr hi) (qki fr mx) f
 |.index t x i=>Wa E t (zk fr x) (zk fr i) f
 |.makeMap t rs=>Zc E t rs.isSome id f
 |.lookup t x k ok=>KE E hp t (zk fr x) (zk fr k) ok f
 |.mapUpdate t m k x=>KF E hp t (zk fr m) (zk fr k) (zk fr x) f
 |.insert t m k x=>KF E hp t (zk fr m) (zk fr k) (zk fr x) f
 |.mapEntry _ _ _=>.bad 241 0
 |.entryStore _ _ _ _=>.bad 242 0
 |.range _ _=>.bad 243 0
 |.next _ _=>.bad 244 0
 |.entry _=>.bad 245 0
 |_=>.bad 240 0
theorem qby(hE:XOk P E){fr:Tr 3 SV}{F:Nat→SV}(hF:FRelF fr F)(hH:HRel LM hp H){op:Op}(h:xOp E fr hp id op f=.ok ρ):zU ρ f id (stepR P F H op):=by
 cases op<;>simp only[xOp,reduceCtorEq]at h<;>simp only[stepR,hF.env,hF.envs,hF.envp,hF.opt]
 case move x=>rw[kW]at h;exact qh rfl trivial h
 case assign x=>rw[kW]at h;exact qh rfl trivial h
 case pick=>exact qhp h
 case alloc=>exact qeY hE h
 case box=>exact qkd hE h
 case load=>exact YB hE hH h
 case store=>exact qeZ hE hH h
 case nilCheck=>exact qke h
 case binOp=>exact qkb hE h
 case unOp=>exact qmu h
 case convert=>exact qho hE h
 case makeFunc=>rw[ko,ko]at h;exact qh rfl trivial h
 case fieldAddr=>exact JA hE h
 case field=>exact qfa hE h
 case indexAddr=>exact JC hE h
 case extract=>exact YD h
 case call=>exact qhF hE hF hH h
 case build=>exact qfe hE h
 case buildSlice=>exact GQ hE h
 case makeSlice=>exact qhv hE h
 case slice=>exact qfd hE h
 case index=>exact qfb hE h
 case makeMap=>exact YI hE h
 case lookup=>exact qbw hE hH h
 case mapUpdate=>exact GR hE hH h
 case insert=>exact GR hE hH h
end
end
end Go.Sx
end
section
namespace Go.Sx
open Go.RowKit
def jf:Op→Bool
 |.move _|.load _ (.tmp _)|.nilCheck _|.fieldAddr _ _ _|.indexAddr _ _ _|.binOp _ _ _ _ _|.build _ _=>true
 |_=>false
def yV(t:Tmp)(o:Oper):Bool:=(zM o).all (fun u=>!(Nat.beq u t))&&(match o.dst with|some d=>!(Nat.beq d t)|none=>true)
def yz(ds:List (Option Tmp))(ms:List Nat)(t e s i:Nat)(o:Oper):Bool:=
 match o.op with
 |.lookup t' _ _ false=>Nat.beq t t'&&Nat.blt i e&&(ms.getD s 0).testBit i
 |.store _ (.tmp b) _=>zd ds i b&&o.dst.isNone
 |.load _ (.tmp a)=>zd ds i a
 |op=>jf op
def gD(o:Oper):Oper:={ o with op:=.move (.const undef) }
def qfg(e x s:Nat):Nat→List Oper→List Oper
 |_,[]=>[]
 |i,o :: r=>(if i=e∨i=x∨i=s then gD o else o) :: qfg e x s (i+1) r
def Ze(e x s:Nat)(u:Op):Nat→List Oper→List Oper
 |_,[]=>[]
 |i,o :: r=>(if i=e∨i=x then gD o else if i=s then { o with op:=u }else o) :: Ze e x s u (i+1) r
def vz(ds:List (Option Tmp))(ms:List Nat)(t te tx e x s:Nat):Nat→List Oper→Bool
 |_,[]=>true
 |i,o :: r=>(Nat.beq i e || Nat.beq i x || Nat.beq i s ||(yz ds ms t e s i o&&yV te o&&yV tx o))&&o.guard.isNone&&vz ds ms t te tx e x s (i+1) r
def Zf:List Oper→List Tmp
 |[]=>[]
 |o :: r=>(match o.op with|.load _ (.tmp a)=>[a]|.store _ (.tmp b) _=>[b]|_=>[])++Zf r
structure EI where
 e:Nat
 x:Nat
 s:Nat
 te:Tmp
 tx:Tmp
 t:TypeId
 mm:Tmp
 k:Operand
 y:Operand
def qkj(ds:List (Option Tmp))(e:Nat):Operand→Bool
 |.tmp k=>zd ds e k
 |_=>true
def qhG(te tx:Tmp):Operand→Bool
 |.tmp u=>!(Nat.beq u te)&&!(Nat.beq u tx)
 |_=>true
def EI.upd(q:EI):Op:=.mapUpdate q.t (.tmp q.mm) q.k q.y
def qhH(q:EI)(far:List (Nat×Nat))(l:List Oper):Bool:=
 let ms:=zp [] l
 let ds:=dsts l
 gu 0 l&&(yo ds ms l&&(Gh far ds ms (qfg q.e q.x q.s 0 l)&&(vz ds ms q.t q.te q.tx q.e q.x q.s 0 l&&(zd ds q.e q.mm&&(qkj ds q.e q.k&&((ms.getD q.x 0).testBit q.e&&((ms.getD q.s 0).testBit q.x&&((ms.getD q.s 0).testBit q.e&&qhG q.te q.tx q.y))))))))
structure Ent(q:EI)(l:List Oper):Prop where
 ex:q.e<q.x
 xs:q.x<q.s
 ne:q.te≠q.tx
 oe:∃o,l[q.e]? = some o∧o.op=.mapEntry q.t (.tmp q.mm) q.k∧o.dst=some q.te
 ox:∃o,l[q.x]? = some o∧o.op=.extract (.tmp q.te) 1∧o.dst=some q.tx
 os:∃o,l[q.s]? = some o∧o.op=.entryStore q.t (.tmp q.mm) (.tmp q.tx) q.y∧o.dst=none
theorem YL{e x s:Nat}:∀{l:List Oper}{i j:Nat}{o:Oper},l[j]? = some o→(qfg e x s i l)[j]? = some (if i+j=e∨i+j=x∨i+j=s then gD o else o)
 |[],i,j,o,h=>by simp at h
 |p :: l,i,0,o,h=>by simp at h;subst h;simp[qfg]
 |p :: l,i,j+1,o,h=>by
  have:=YL (e:=e) (x:=x) (s:=s) (i:=i+1) (show l[j]? = some o by simpa using h);simp only[qfg,xd7,this];rw[show i+1+j=i+(j+1) by omega]
theorem YM{e x s:Nat}{u:Op}:∀{l:List Oper}{i j:Nat}{o:Oper},l[j]? = some o→(Ze e x s u i l)[j]? = some (if i+j=e∨i+j=x then gD o else if i+j=s then { o with op:=u }else o)
 |[],i,j,o,h=>by simp at h
 |p :: l,i,0,o,h=>by simp at h;subst h;simp[Ze]
 |p :: l,i,j+1,o,h=>by
  have:=YM (e:=e) (x:=x) (s:=s) (u:=u) (i:=i+1) (show l[j]? = some o by simpa using h);simp only[Ze,xd7,this];rw[show i+1+j=i+(j+1) by omega]
theorem YN{e x s:Nat}{u:Op}:∀{l:List Oper}{i:Nat},(Ze e x s u i l).length=l.length
 |[],i=>rfl
 |o :: l,i=>by simp[Ze,YN]
theorem Va{e x s:Nat}{u:Op}:∀{l:List Oper}{i:Nat},dsts (Ze e x s u i l)=dsts l
 |[],i=>rfl
 |o :: l,i=>by
  have:∀o:Oper,(if i=e∨i=x then gD o else if i=s then { o with op:=u }else o).dst=o.dst:=fun o=>by
   split
   ·rfl
   ·split<;>rfl
  simp only[Ze,dsts,Va,this]
theorem wW{ds:List (Option Tmp)}{ms:List Nat}{t te tx e x s:Nat}:∀{l:List Oper}{i j:Nat}{o:Oper},vz ds ms t te tx e x s i l=true→l[j]? = some o→o.guard=none∧(i+j=e∨i+j=x∨i+j=s∨(yz ds ms t e s (i+j) o=true∧yV te o=true∧yV tx o=true))
 |[],i,j,o,h,ho=>by simp at ho
 |p :: l,i,0,o,h,ho=>by
  simp at ho;subst ho;simp only[vz,xe6,xe8,Option.isNone_iff_eq_none]at h;obtain⟨⟨h1,h2⟩,-⟩:=h;refine⟨h2,?_⟩;rw[xb1];rcases h1 with((h1|h1)|h1)|h1
  ·exact .inl (xa6 h1)
  ·exact .inr (.inl (xa6 h1))
  ·exact .inr (.inr (.inl (xa6 h1)))
  ·exact .inr (.inr (.inr ⟨h1.1.1,h1.1.2,h1.2⟩))
 |p :: l,i,j+1,o,h,ho=>by
  simp only[vz,xe6]at h;have:=wW (i:=i+1) (j:=j) h.2 (show l[j]? = some o by simpa using ho);rw[show i+1+j=i+(j+1) by omega]at this;exact this
theorem gU{t:Tmp}{o:Oper}(h:yV t o=true):t∉zM o∧o.dst≠some t:=by
 simp only[yV,xe6,List.all_eq_true,Bool.not_eq_true']at h;obtain⟨h1,h2⟩:=h;refine⟨fun hm=>?_,fun e=>?_⟩
 ·have:=h1 t hm
  simp at this
 ·rw[e]at h2
  simp at h2
theorem yA:∀{l:List Oper}{i:Nat}{o:Oper},l[i]? = some o→(∀t a,o.op=.load t (.tmp a)→a∈Zf l)∧(∀t b v,o.op=.store t (.tmp b) v→b∈Zf l)
 |[],i,o,h=>by simp at h
 |p :: l,0,o,h=>by
  simp at h;subst h;exact⟨fun t a e=>by simp[Zf,e],fun t b v e=>by simp[Zf,e]⟩
 |p :: l,i+1,o,h=>by
  obtain⟨h1,h2⟩:=yA (show l[i]? = some o by simpa using h);exact⟨fun t a e=>List.mem_append_right _ (h1 t a e),fun t b v e=>List.mem_append_right _ (h2 t b v e)⟩
section
variable{P:Program}
theorem wX{F F':Nat→SV}{hp:List (Nat×Blk)}{op:Op}(hc:jf op=true∨(∃t x k ok,op=.lookup t x k ok)∨(∃t a v,op=.store t a v))(h:∀t,.tmp t∈op.operands.toList→F t=F' t):stepR P F hp op=stepR P F' hp op:=by
 have he:∀x,x∈op.operands.toList→env F x=env F' x:=fun x hx=>by
  cases x<;>first|exact h _ hx|rfl
 rcases hc with hc|⟨t,x,k,ok,rfl⟩|⟨t,a,v,rfl⟩
 ·cases op<;>first|(simp[jf]at hc;done)|skip
  all_goals first
   |(simp only[stepR];rw[he _ Ωq];done)
   |(simp only[stepR];rw[he _ Ωq,he _ Ωq];done)
   |skip
  case build t ps=>
   simp only[stepR];have:∀qs:List (Nat×Operand),(∀p∈qs,p.2∈(Op.build t ps).operands.toList)→envp F qs=envp F' qs:=by
    intro qs
    induction qs with
    |nil=>intro _;rfl
    |cons p qs ih=>
     intro hq;simp only[envp];rw[he _ (hq p xd5),ih fun p hp=>hq p (List.mem_cons_of_mem _ hp)]
   rw[this _ fun p hp=>by simp only[Op.operands];exact List.mem_map_of_mem hp]
 ·simp only[stepR]
  rw[he x Ωq,he k Ωq]
 ·simp only[stepR]
  rw[he a Ωq,he v Ωq]
theorem qbz{hp hp':List (Nat×Blk)}{ti:Option TyI}{a v:SV}(h:∀id x,qH a=some id→blk hp id=some x→blk hp' id=some x)(hne:rStore ti hp a v≠.bad):rStore ti hp' a v=rStore ti hp a v:=by
 match ti with
 |none=>rfl
 |some ⟨false,sz,z,d⟩=>
  cases a<;>first|rfl|skip
  case ptr id off=>
   simp only[rStore]at hne ⊢;cases hb:blk hp id with
   |none=>rw[hb]at hne;exact absurd rfl hne
   |some y=>rw[h _ _ rfl hb]
  case elt id k i j=>
   simp only[rStore]at hne ⊢;cases hb:blk hp id with
   |none=>rw[hb]at hne;exact absurd rfl hne
   |some y=>rw[h _ _ rfl hb]
 |some ⟨true,sz,z,d⟩=>
  cases v<;>first|rfl|skip
  cases a<;>first|rfl|skip
  case ptr id off=>
   simp only[rStore]at hne ⊢;cases hb:blk hp id with
   |none=>rw[hb]at hne;exact absurd rfl hne
   |some y=>rw[h _ _ rfl hb]
  case elt id k i j=>
   simp only[rStore]at hne ⊢;cases hb:blk hp id with
   |none=>rw[hb]at hne;exact absurd rfl hne
   |some y=>rw[h _ _ rfl hb]
theorem kd{F:Nat→SV}{hp:List (Nat×Blk)}{op:Op}(hc:jf op=true∨(∃t x k ok,op=.lookup t x k ok)):(∃obl sv,stepR P F hp op=.pure obl sv)∨(∃obl,stepR P F hp op=.ex obl)∨stepR P F hp op=.bad:=by
 have key:∀x:Res,jS x=true→(∃obl sv,x=.pure obl sv)∨(∃obl,x=.ex obl)∨x=.bad:=fun x hx=>by
  cases x<;>first|(cases hx;done)|(exact .inl ⟨_,_,rfl⟩)|(exact .inr (.inl ⟨_,rfl⟩))|(exact .inr (.inr rfl))
 refine key _ ?_;rcases hc with hc|⟨t,x,k,ok,rfl⟩
 ·cases op<;>first|(simp[jf]at hc;done)|(simp only[stepR])
  case move=>rfl
  case load=>unfold rLoad;(repeat' split)<;>rfl
  case nilCheck=>unfold rNil;split<;>rfl
  case binOp=>unfold rBin;(repeat' split)<;>first|rfl|(unfold rInt;split<;>rfl)|(unfold rEq;(repeat' split)<;>rfl)|(unfold rNilS;(repeat' split)<;>rfl)
  case fieldAddr=>unfold rFieldAddr;(repeat' split)<;>rfl
  case indexAddr=>unfold rIndexAddr;(repeat' split)<;>rfl
  case build=>exact gq _ _
 ·exact kS _ _ _ _ _
theorem qdc(O:Ctx)(st:St):Weak O st { st with nid:=st.nid+1 }:=fun base okc ns outs a w h=>by
 obtain⟨r,h⟩:=h;have s:=h.sat.more (N':=(· < st.nid+1)) (fun x hx=>Nat.lt_succ_of_lt hx) (fun x y hy _=>h.keys x y hy);exact⟨r,(h.step s (fun id x hx=>Nat.lt_succ_of_lt (h.keys id x hx)) (xc4 _) (d:=none) (fun t ht=>by cases ht) (.top undef)).nid (st.nid+1)⟩
theorem qkk(O:Ctx)(st:St)(a b:Tmp):Weak O st ⟨putFr (putFr st.fr a .top) b .top,st.hp,st.nid⟩:=fun base okc ns outs x w ⟨r,h⟩=>⟨r,h.sat,h.keys,fun i=>by
 show Rep _ _ _ _ (look (putFr (putFr st.fr a .top) b .top) i) _;rw[zl,zl];split
 ·exact .top _
 ·split
  ·exact .top _
  ·exact h.fr i,h.size,h.lo,h.out,h.rfix,h.defers⟩
theorem qbA{dst:Nat→Option Tmp}{res res':Nat→SV}{S:Nat→Bool}{F:Nat→SV}{t:Nat}:∀{n:Nat},(∀j,j<n→S j=true→dst j=some t→res j=res' j)→FS dst res S F n t=FS dst res' S F n t
 |0,h=>rfl
 |n+1,h=>by
  have ih:=qbA (F:=F) (n:=n) fun j hj=>h j Ω;simp only[FS];by_cases c:S n=true∧dst n=some t
  ·rw[if_pos c,if_pos c];exact h n Ω c.1 c.2
  ·rw[if_neg c,if_neg c];exact ih
theorem Wh{dst:Nat→Option Tmp}{res:Nat→SV}{S:Nat→Bool}{F:Nat→SV}{t i:Nat}(hi:dst i=some t)(hS:S i=true):∀{n:Nat},i<n→(∀j,j<n→dst j=some t→j=i)→FS dst res S F n t=res i
 |n+1,h,hu=>by
  simp only[FS];by_cases c:S n=true∧dst n=some t
  ·rw[if_pos c,hu n Ω c.2]
  ·rw[if_neg c]
   have:i≠n:=fun e=>c (e▸⟨hS,hi⟩);exact Wh hi hS Ω fun j hj=>hu j Ω
theorem qnJ{k:Nat}{nb:Nat→Option Blk}{up:Nat→Option (Nat×Blk)}{hp:List (Nat×Blk)}:∀{i:Nat},(∀j,j<i→nb j=none)→TH k nb up hp i=UH up (fun _=>true) hp i
 |0,h=>rfl
 |i+1,h=>by
  have ih:=qnJ (k:=k) (up:=up) (hp:=hp) (i:=i) fun j hj=>h j Ω;simp only[TH,UH,if_true,ih,h i Ω];split<;>rfl
def but(up:Nat→Option (Nat×Blk))(s:Nat):Nat→Option (Nat×Blk):=fun j=>if j=s then none else up j
theorem qbB{up:Nat→Option (Nat×Blk)}{S:Nat→Bool}{H:List (Nat×Blk)}{s X:Nat}(h:∀t b,up s=some (t,b)→t≠X):∀{n:Nat},blk (UH up S H n) X=blk (UH (but up s) S H n) X
 |0=>rfl
 |n+1=>by
  have ih:=qbB (S:=S) (H:=H) h (n:=n);simp only[UH];by_cases hS:S n=true
  ·rw[if_pos hS,if_pos hS]
   by_cases e:n=s
   ·subst e
    have:but up n n=none:=by simp[but]
    rw[this];cases hu:up n with
    |none=>exact ih
    |some p=>
     obtain⟨t,b⟩:=p;dsimp only;rw[qp,if_neg (fun e=>h t b hu e.symm)];exact ih
   ·have:but up s n=up n:=by simp[but,e]
    rw[this];cases hu:up n with
    |none=>exact ih
    |some p=>
     obtain⟨t,b⟩:=p;dsimp only;rw[qp,qp];by_cases c:X=t
     ·subst c;rw[if_pos rfl,if_pos rfl,ih]
     ·rw[if_neg c,if_neg c];exact ih
  ·rw[if_neg hS,if_neg hS];exact ih
theorem ju{ds:List (Option Tmp)}{ms:List Nat}{t e s i:Nat}{o:Oper}(h:yz ds ms t e s i o=true) :
  (jf o.op=true∧∀t' a,o.op=.load t' (.tmp a)→zd ds i a=true)∨(∃x k,o.op=.lookup t x k false∧i<e∧(ms.getD s 0).testBit i=true)∨(∃t' b v,o.op=.store t' (.tmp b) v∧zd ds i b=true∧o.dst=none):=by
 unfold yz at h;split at h
 ·rename_i t' x k e1
  simp only[xe6,Nat.blt_eq,Nat.beq_eq]at h;obtain⟨⟨h1,h2⟩,h3⟩:=h;subst h1;exact .inr (.inl ⟨x,k,e1,h2,h3⟩)
 ·rename_i t' b v e1
  simp only[xe6,Option.isNone_iff_eq_none]at h;exact .inr (.inr ⟨t',b,v,e1,h.1,h.2⟩)
 ·rename_i t' a e1
  exact .inl ⟨by rw[e1];rfl,fun t2 a2 e2=>by rw[e1]at e2;cases e2;exact h⟩
 ·rename_i h1 h2 h3
  exact .inl ⟨h,fun t' a e1=>absurd e1 (h3 t' a)⟩
def Wj(dom:Value→Bool)(v:Value):Value→Bool:=if dom v=true then dom else qL dom v
def YO(dom:Value→Bool)(get:Value→SV)(v z:Value):Value→SV:=if dom v=true then get else qG get v (.val z)
theorem Wl{dom:Value→Bool}{get:Value→SV}{v z:Value}{xv:SV}:Wj dom v=qL dom v∧qG (YO dom get v z) v xv=qG get v xv:=by
 refine⟨?_,?_⟩
 ·unfold Wj
  split
  ·rename_i h
   funext u;unfold qL;cases e:eqK v u with
   |true=>rw[←ke e,h];rfl
   |false=>rfl
  ·rfl
 ·unfold YO
  split
  ·rfl
  ·funext u
   unfold qG;cases e:eqK v u<;>simp[svIte]
theorem qhI{dom:Value→Bool}{get:Value→SV}{v z u:Value}:svIte (Wj dom v u) (YO dom get v z u) (.val z)=svIte (dom u) (get u) (.val z):=by
 unfold Wj YO;split
 ·rfl
 ·rename_i h
  unfold qL qG;cases e:eqK v u with
  |true=>
   have:=ke e;subst this;simp[svIte,h]
  |false=>simp[svIte]
theorem we{f:Nat→Oper→Prop}:∀{ops:List Oper}{i:Nat},(∀j o,ops[j]? = some o→f (i+j) o)→wP f i ops
 |[],i,h=>trivial
 |o :: ops,i,h=>⟨h 0 o rfl,we fun j o' ho=>by
  have:=h (j+1) o' Ω5
  rwa [show i+(j+1)=i+1+j by omega]at this⟩
theorem YP{S:Nat→Bool}:∀{n:Nat},(∀j,j<n→S j=false)→cnt S n=n
 |0,h=>rfl
 |n+1,h=>by
  have ih:=YP (n:=n) fun j hj=>h j Ω;simp only[cnt,ih];rw[h n Ω];rfl
theorem qdd{S:Nat→Bool}:∀{n:Nat},(∀j,j<n→S j=true)→cnt S n=0
 |0,h=>rfl
 |n+1,h=>by
  have ih:=qdd (n:=n) fun j hj=>h j Ω;simp only[cnt,ih];rw[h n Ω];rfl
def qnK(q:EI)(l:List Oper)(st:St):Prop:=∀mid,look st.fr q.mm=.mp mid→(∃fit dom get,blk st.hp mid=some (.map fit dom get))∧∀a∈Zf l,qH (look st.fr a)≠some mid
theorem wY(hm:P.follows .mixedOrders=true){O:Ctx}{st:St}{K:Ex→St→Prop}{id:Nat}{l:List Oper}{q:EI}{far:List (Nat×Nat)}{g:Tag K}(hq:Ent q l)(hok:qhH q far l=true)
  (hk:zb P O False (dsts l) (Ze q.e q.x q.s q.upd 0 l) 0 st fun st1=>FarVC far st1 (qnK q l st1∧∀st2,(∀t,look st2.fr t=if t=q.te∨t=q.tx then .top else look st1.fr t)→(∀j,blk st2.hp j=blk st1.hp j)→st2.nid=st1.nid+l.length→K .normal st2)):j4 P O id l true st K g:=by
 obtain⟨e,x,s,te,tx,t,mm,k,y⟩:=q;obtain⟨hex,hxs,hne,⟨oe,hoe,hope,hdse⟩,⟨ox,hox,hopx,hdsx⟩,⟨os,hos,hops_,hdss⟩⟩:=hq;simp only[EI.upd]at *;simp only[qhH,xe6]at hok;obtain⟨hedge,hapart,hpair,hcls,hmm,hkf,hxe,hsx,hse,hyn⟩:=hok;have hlen:=YN (e:=e) (x:=x) (s:=s) (u:=Op.mapUpdate t (.tmp mm) k y) (l:=l) (i:=0);have hds:=Va (e:=e) (x:=x) (s:=s) (u:=Op.mapUpdate t (.tmp mm) k y) (l:=l) (i:=0);have hsl:s<l.length:=(List.getElem?_eq_some_iff.1 hos).1;have hcl:∀j o,l[j]? = some o→o.guard=none∧(j=e∨j=x∨j=s∨(yz (dsts l) (zp [] l) t e s j o=true∧yV te o=true∧yV tx o=true)):=fun j o ho=>by
  have:=wW hcls ho
  rwa [xb0]at this
 have hfix:∀j o,l[j]? = some o→(Ze e x s (Op.mapUpdate t (.tmp mm) k y) 0 l)[j]? = some (if j=e∨j=x then gD o else if j=s then { o with op:=Op.mapUpdate t (.tmp mm) k y }else o):=fun j o ho=>by
  have:=YM (e:=e) (x:=x) (s:=s) (u:=Op.mapUpdate t (.tmp mm) k y) (i:=0) ho;simpa only[xb0]using this
 have hall:∀o∈Ze e x s (Op.mapUpdate t (.tmp mm) k y) 0 l,(kf o.op || qC o.op)=true:=by
  intro o ho;obtain⟨j,hj⟩:=List.mem_iff_getElem?.1 ho;have hjl:j<l.length:=by rw[←hlen];exact(List.getElem?_eq_some_iff.1 hj).1
  have h0:l[j]? = some l[j]:=by simp[hjl]
  rw[hfix j _ h0]at hj;simp only[Option.some.injEq]at hj;subst hj;by_cases c1:j=e∨j=x
  ·rw[if_pos c1];rfl
  ·rw[if_neg c1]
   by_cases c2:j=s
   ·rw[if_pos c2];rfl
   ·rw[if_neg c2]
    rcases(hcl j _ h0).2 with c|c|c|⟨c,-,-⟩
    ·exact absurd (.inl c) c1
    ·exact absurd (.inr c) c1
    ·exact absurd c c2
    ·rcases ju c with⟨c,-⟩|⟨a,b,c,-⟩|⟨a,b,d,c,-⟩
     ·generalize (l[j]).op=op at c
      cases op<;>first|(simp[jf]at c;done)|rfl
     ·rw[c];rfl
     ·rw[c];rfl
 obtain⟨res,nb,up,st1,hops,hF1,hh1,hn1,hk1⟩:=Gk Ωh _ 0 st hall hk;rw[xb1]at hops hh1;rw[hds]at hops hF1;rw[hlen]at hF1 hh1;obtain⟨⟨hendm,hk1⟩,hfar⟩:=jH hk1;have hat:∀j o,l[j]? = some o→j≠e→j≠x→j≠s→QD P (dsts l) (FS (nth (dsts l)) res (fun _=>true) (look st.fr) j) (TH st.nid nb up st.hp j) (st.nid+j) o (res j) (nb j) (up j):=fun j o ho h1 h2 h3=>by
  have:=hops j _ (hfix j o ho)
  rwa [if_neg (by simp[h1,h2]),if_neg h3]at this
 have hmmx:∀i,e≤i→i≤l.length→FS (nth (dsts l)) res (fun _=>true) (look st.fr) i mm=look st1.fr mm:=fun i h1 h2=>by
  rw[hF1];have hdl:(dsts l).length=l.length:=by
   have:∀l:List Oper,(dsts l).length=l.length:=fun l=>by induction l<;>simp[dsts, *]
   exact this l
  exact(kj h2 fun k hk hik=>qz hmm Ω Ω).symm
 have hdl:(dsts l).length=l.length:=by
  have:∀l:List Oper,(dsts l).length=l.length:=fun l=>by induction l<;>simp[dsts, *]
  exact this l
 have hquiet:∀j o,l[j]? = some o→(j=e∨j=x)→res j=undefSV∧nb j=none∧up j=none:=fun j o ho hj=>by
  have:=hops j _ (hfix j o ho);rw[if_pos hj]at this;generalize res j=a1 at this ⊢;generalize nb j=a2 at this ⊢;generalize up j=a3 at this ⊢;cases this with
  |skip hg=>exact⟨rfl,rfl,rfl⟩
  |run sv nb hg hc hr=>
   cases hr with
   |pure obl sv h ho=>simp only[gD,stepR,env,Res.pure.injEq]at h;exact⟨h.2.symm,rfl,rfl⟩
   |ex obl sv h ho=>simp[gD,stepR]at h
   |new obl b mk h ho=>simp[gD,stepR]at h
   |call f args res h hc=>simp[gD,stepR]at h
   |callN f args pats b res h hc hs=>simp[gD,stepR]at h
  |upd obl t b hg h ho=>simp[gD,stepR]at h
 have hord:∀j o,l[j]? = some o→j≠e→j≠x→j≠s→nb j=none∧(∀t' b',up j=some (t',b')→∃ty b v,o.op=.store ty (.tmp b) v∧zd (dsts l) j b=true∧o.dst=none∧qH (look st1.fr b)=some t'):=fun j o ho h1 h2 h3=>by
  have h:=hat j o ho h1 h2 h3;have hc:=(hcl j o ho).2;rcases hc with c|c|c|⟨c,-,-⟩
  ·exact absurd c h1
  ·exact absurd c h2
  ·exact absurd c h3
  have hjl:j<l.length:=(List.getElem?_eq_some_iff.1 ho).1;generalize res j=a1 at h ⊢;generalize nb j=a2 at h ⊢;generalize up j=a3 at h ⊢;have hnotU:(jf o.op=true∨∃t x k ok,o.op=.lookup t x k ok)→∀F hp obl t b,stepR P F hp o.op≠.upd obl t b:=fun hp F hp' obl t b hh=>by
   rcases kd (P:=P) (F:=F) (hp:=hp') hp with⟨_,_,e1⟩|⟨_,e1⟩|e1<;>rw[e1]at hh<;>cases hh
  cases h with
  |skip hg=>exact⟨rfl,fun _ _ h=>by cases h⟩
  |run sv nb hg hca hr=>
   refine⟨?_,fun _ _ h=>by cases h⟩;have hpl:jf o.op=true∨∃t x k ok,o.op=.lookup t x k ok:=by
    rcases ju c with⟨c,-⟩|⟨a,b,c,-⟩|⟨a,b,d,c,-⟩
    ·exact .inl c
    ·exact .inr ⟨_,_,_,_,c⟩
    ·rw[c]at hca;cases hca
   cases hr with
   |pure obl sv h ho=>rfl
   |ex obl sv h ho=>rfl
   |call f args res h hc=>rfl
   |new obl b mk h ho=>rcases kd (P:=P) hpl with⟨_,_,e1⟩|⟨_,e1⟩|e1<;>rw[e1]at h<;>cases h
   |callN f args pats b res h hc hs=>rcases kd (P:=P) hpl with⟨_,_,e1⟩|⟨_,e1⟩|e1<;>rw[e1]at h<;>cases h
  |upd obl t2 b2 hg h hobl=>
   refine⟨rfl,fun t' b' hh=>?_⟩;injection hh with hh;injection hh with hh1 hh2;subst hh1;subst hh2;rcases ju c with⟨c,-⟩|⟨a,b,c,-⟩|⟨a,b,d,c,c2,c3⟩
   ·exact absurd h (hnotU (.inl c) _ _ _ _ _)
   ·exact absurd h (hnotU (.inr ⟨_,_,_,_,c⟩) _ _ _ _ _)
   ·refine⟨a,b,d,c,c2,c3,?_⟩
    rw[c]at h;have h4:=k9 h;rw[hF1,kj (i:=j) Ω (fun k hk hik=>qz c2 Ω hik)];exact h4
 have hatS:=hops s _ (hfix s os hos);rw[if_neg Ω,if_pos rfl]at hatS;have hgs:os.guard=none:=(hcl s os hos).1;obtain⟨ag,ls,z,mid,hmi,hmp⟩:∃ag ls z mid,qI P t=some ⟨ag,ls,z⟩∧look st1.fr mm=.mp mid:=by
  generalize res s=a1 at hatS;generalize nb s=a2 at hatS;generalize up s=a3 at hatS;cases hatS with
  |skip hg=>simp[kx,hgs]at hg
  |run sv nb hg hca hr=>cases hca
  |upd obl t2 b2 hg h ho=>
   simp only[stepR,env]at h;rw[hmmx s Ω Ω]at h;unfold rUpdate at h;split at h
   ·rename_i e1 e2
    exact⟨_,_,_,_,e1,e2⟩
   ·cases h
 obtain⟨⟨fit1,dom1,get1,hmap1⟩,hadr⟩:=hendm mid hmp;have hup:∀j b,j<l.length→up j=some (mid,b)→j=s:=fun j b hj hu=>by
  refine xf9 fun hjs=>?_;have ho:l[j]? = some l[j]:=by simp[hj]
  by_cases c:j=e∨j=x
  ·have:=(hquiet j _ ho c).2.2
   rw[hu]at this;cases this
  ·obtain⟨ty,b',v',h1,h2,h3,h4⟩:=(hord j _ ho (fun e=>c (.inl e)) (fun e=>c (.inr e)) hjs).2 _ _ hu
   exact hadr b' ((yA ho).2 _ _ _ h1) h4
 have hnbs:nb s=none:=by
  generalize res s=a1 at hatS;generalize nb s=a2 at hatS ⊢;generalize up s=a3 at hatS;cases hatS with
  |skip hg=>rfl
  |run sv nb hg hca hr=>cases hca
  |upd obl t2 b2 hg h ho=>rfl
 have hnb:∀j,j<l.length→nb j=none:=fun j hj=>by
  have ho:l[j]? = some l[j]:=by simp[hj]
  by_cases c:j=e∨j=x
  ·exact(hquiet j _ ho c).2.1
  ·by_cases c2:j=s
   ·subst c2;exact hnbs
   ·exact(hord j _ ho (fun e=>c (.inl e)) (fun e=>c (.inr e)) c2).1
 have hTH:∀i,i≤l.length→TH st.nid nb up st.hp i=UH up (fun _=>true) st.hp i:=fun i hi=>qnJ fun j hj=>hnb j Ω;have hH0:blk (TH st.nid nb up st.hp s) mid=blk st.hp mid:=by
  rw[hTH s Ω];exact gy fun j hj _ t' b hu e=>by
   subst e;have:=hup j b Ω hu;omega
 have hus:∀b,up s=some (mid,b)→∀y0,blk st.hp mid=some y0→blk st1.hp mid=some b:=fun b hb y0 hy0=>by
  rw[hh1,hTH _ (xa5 _),Gj (i:=s+1) Ω (fun j hj b' hu=>by
   have:=hup j b' hj hu;simp;omega)]
  have:UH up (fun _=>true) st.hp (s+1)=setBlk (UH up (fun _=>true) st.hp s) mid b:=by simp[UH,hb]
  rw[this,qp,if_pos rfl,←hTH s Ω,hH0,hy0];rfl
 obtain⟨fit,dom,get,v,hmap,hkey,hfit,hkv,hups⟩:∃fit dom get v,blk st.hp mid=some (.map fit dom get)∧keyV (env (FS (nth (dsts l)) res (fun _=>true) (look st.fr) s) k)=some v∧fit=qm ag ls∧qm ag ls v=true∧up s=some (mid,.map fit (qL dom v) (qG get v (env (FS (nth (dsts l)) res (fun _=>true) (look st.fr) s) y))):=by
  generalize res s=a1 at hatS;generalize nb s=a2 at hatS;generalize hu3:up s=a3 at hatS;cases hatS with
  |skip hg=>simp[kx,hgs]at hg
  |run sv nb hg hca hr=>cases hca
  |upd obl t2 b2 hg h ho=>
   simp only[stepR,env]at h;rw[hmmx s Ω Ω,hmi,hmp]at h;simp only[rUpdate,hH0]at h;split at h
   ·rename_i f d g1 v1 e1 e2
    injection h with h1 h2 h3;subst h1;subst h2;subst h3;exact⟨f,d,g1,v1,e1,e2,ho.1,ho.2.1,rfl⟩
   ·rename_i f d g1 st0 c0 v1 e1 e2
    injection h with h1 h2 h3;subst h1;subst h2;subst h3;have:=hus _ hu3 _ e1;rw[hmap1]at this;cases this
   ·cases h
 have hfin:=hus _ hups _ hmap;generalize hxv:env (FS (nth (dsts l)) res (fun _=>true) (look st.fr) s) y=xv at hups hfin
 let rs:(Value→Nat)→Nat→SV:=fun σ i=>if i=e then .tup [if dom v=true then get v else .val z,.val (.int .i64 (σ v))]else if i=x then .val (.int .i64 (σ v))else res i
 let M:(Nat→Bool)→(Value→Nat)→Nat→Blk:=fun S σ clk=>if S s=true then .map fit (qL dom v) (qG get v xv)else if S e=true then .mapS fit (Wj dom v) (YO dom get v z) σ clk else .map fit dom get
 have hde:nth (dsts l) e=some te:=by rw[zc,hoe];exact hdse
 have hdx:nth (dsts l) x=some tx:=by rw[zc,hox];exact hdsx
 have hdS:nth (dsts l) s=none:=by rw[zc,hos];exact hdss
 have hte:∀j,j<l.length→nth (dsts l) j=some te→j=e:=fun j hj hd=>by
  have ho:l[j]? = some l[j]:=by simp[hj]
  rw[zc,ho]at hd;rcases(hcl j _ ho).2 with c|c|c|⟨-,c,-⟩
  ·exact c
  ·subst c;rw[hox]at ho;injection ho with ho;rw[←ho]at hd;simp only[Option.bind_some,hdsx,Option.some.injEq]at hd;exact absurd hd.symm hne
  ·subst c;rw[hos]at ho;injection ho with ho;rw[←ho]at hd;simp[hdss]at hd
  ·exact absurd hd (gU c).2
 have htx:∀j,j<l.length→nth (dsts l) j=some tx→j=x:=fun j hj hd=>by
  have ho:l[j]? = some l[j]:=by simp[hj]
  rw[zc,ho]at hd;rcases(hcl j _ ho).2 with c|c|c|⟨-,-,c⟩
  ·subst c;rw[hoe]at ho;injection ho with ho;rw[←ho]at hd;simp only[Option.bind_some,hdse,Option.some.injEq]at hd;exact absurd hd hne
  ·exact c
  ·subst c;rw[hos]at ho;injection ho with ho;rw[←ho]at hd;simp[hdss]at hd
  ·exact absurd hd (gU c).2
 have hrs:∀σ S n u,n≤l.length→u≠te→u≠tx→FS (nth (dsts l)) (rs σ) S (look st.fr) n u=FS (nth (dsts l)) res S (look st.fr) n u:=fun σ S n u hn h1 h2=>qbA fun j hj _ hd=>by
  have c1:j≠e:=fun c=>by subst c;rw[hde]at hd;injection hd with hd;exact h1 hd.symm
  have c2:j≠x:=fun c=>by subst c;rw[hdx]at hd;injection hd with hd;exact h2 hd.symm
  simp only[rs,if_neg c1,if_neg c2]
 refine qeP hm (fun m st2=>∃σ clk,((∀u,(u≠te∧u≠tx)∨m.testBit s=false→look st2.fr u=FS (nth (dsts l)) (rs σ) m.testBit (look st.fr) l.length u)∧(m.testBit s=true→look st2.fr te=.top∧look st2.fr tx=.top))∧(∀j,blk st2.hp j=if j=mid then some (M m.testBit σ clk)else blk (UH (but up s) m.testBit st.hp l.length) j)∧st2.nid+cnt m.testBit l.length=st.nid+l.length) rfl hedge (Weak.refl O st) ?_ ?_ ?_
 ·refine⟨fun _=>0,0,⟨fun u _=>?_,fun h=>by rw[xb3]at h;cases h⟩,fun j=>?_,?_⟩
  ·exact(jY (i:=0) (xb6 _) fun j hj _=>by simp).symm
  ·split
   ·rename_i c
    subst c;simp only[M,xb3,xe7,if_false];exact hmap
   ·rw[QC (i:=0) (xb6 _) fun j _ _ _=>xb3 j]
    rfl
  ·rw[YP fun j _=>xb3 j]
 ·refine we fun j o ho=>?_
  rw[xb0];rintro m st2 ⟨σ,clk,⟨hfr,htop⟩,hhp,hnid⟩ hclm hbit hpre;have hjl:j<l.length:=(List.getElem?_eq_some_iff.1 ho).1;have hS:∀i,(m ||| 2^j).testBit i=(m.testBit i || decide (i=j)):=fun i=>by rw[tb];simp[eq_comm]
  have hgd:o.guard=none:=(hcl j o ho).1;have hdsj:nth (dsts l) j=o.dst:=by rw[zc,ho];rfl
  have hlook:∀r u,u∈seen (dsts l) o→FS (nth (dsts l)) r m.testBit (look st.fr) l.length u=FS (nth (dsts l)) r (fun _=>true) (look st.fr) j u:=fun r u hu=>by
   refine jY Ω fun i hi hdi=>?_;obtain⟨oi,hoi⟩:∃oi,l[i]? = some oi:=⟨l[i],by simp[hi]⟩;constructor
   ·intro hs
    refine xf9 fun hge=>?_;by_cases c:i=j
    ·subst c;rw[hbit]at hs;cases hs
    ·rcases qV hapart ho hoi Ω with hb|⟨_,hb⟩
     ·have:=hclm _ _ hb hs
      rw[hbit]at this;cases this
     ·exact hb u hdi hu
   ·intro hlt
    rcases qV hapart hoi ho hlt with hb|⟨hb,_⟩
    ·exact hpre i hb Ω
    ·exact(hb u hdi hu).elim
  have hlater:∀u,nth (dsts l) j=some u→∀i,i<l.length→j<i→nth (dsts l) i=some u→m.testBit i=false:=by
   intro u hdu i hi hij hdi;obtain⟨oi,hoi⟩:∃oi,l[i]? = some oi:=⟨l[i],by simp[hi]⟩;cases hv:m.testBit i with
   |false=>rfl
   |true=>
    rcases qV hapart ho hoi hij with hb|⟨_,hb⟩
    ·have:=hclm _ _ hb hv
     rw[hbit]at this;cases this
    ·refine(hb u hdi ?_).elim
     simp only[seen,xd4];rw[hdsj]at hdu;simp[hdu]
  have next:j≠s→∀σ' clk' (st3:St),(∀i,m.testBit i=true→rs σ i=rs σ' i)→(∀u,look st3.fr u=if o.dst=some u then rs σ' j else look st2.fr u)→(∀i,blk st3.hp i=if i=mid then some (M (m ||| 2^j).testBit σ' clk')else blk (UH (but up s) (m ||| 2^j).testBit st.hp l.length) i)→st3.nid=st2.nid+1→
    ∃σ clk,((∀u,(u≠te∧u≠tx)∨(m ||| 2^j).testBit s=false→look st3.fr u=FS (nth (dsts l)) (rs σ) (m ||| 2^j).testBit (look st.fr) l.length u)∧((m ||| 2^j).testBit s=true→look st3.fr te=.top∧look st3.fr tx=.top))∧(∀i,blk st3.hp i=if i=mid then some (M (m ||| 2^j).testBit σ clk)else blk (UH (but up s) (m ||| 2^j).testBit st.hp l.length) i)∧st3.nid+cnt (m ||| 2^j).testBit l.length=st.nid+l.length:=by
   intro hjs σ' clk' st3 h1 h2 h3 h4;have hSs:(m ||| 2^j).testBit s=m.testBit s:=by rw[hS];simp[Ne.symm hjs]
   rw[hSs];refine⟨σ',clk',⟨fun u hu=>?_,fun hs=>?_⟩,h3,?_⟩
   ·rw[ZG hS hjl (hlater u),h2 u,hdsj,hfr u hu]
    split
    ·rfl
    ·exact qbA fun i _ hi _=>h1 i hi
   ·have n1:o.dst≠some te:=fun c=>by
     have:=hte j hjl (hdsj.trans c);subst this;have:=hclm _ _ hse hs;rw[hbit]at this;cases this
    have n2:o.dst≠some tx:=fun c=>by
     have:=htx j hjl (hdsj.trans c);subst this;have:=hclm _ _ hsx hs;rw[hbit]at this;cases this
    rw[h2,if_neg n1,h2,if_neg n2];exact htop hs
   ·have:=(gv (S:=m.testBit) (S':=(m ||| 2^j).testBit) hS hbit (n:=l.length)).2 hjl
    omega
  have hmem:∀X,X≠mid→(∀i,i<l.length→∀b,up i=some (X,b)→(m.testBit i=true↔i<j))→blk st2.hp X=blk (TH st.nid nb up st.hp j) X:=fun X hX h=>by
   rw[hhp,if_neg hX,←qbB (up:=up) (s:=s) (fun t' b hu=>by rw[hups]at hu;injection hu with hu;injection hu with hu;rw[←hu];exact fun e=>hX e.symm),Gj (i:=j) Ω h,hTH _ Ω]
  have hmte:mm≠te:=fun c=>qz hmm (k:=e) Ω (xa5 _) (c▸hde);have hmtx:mm≠tx:=fun c=>qz hmm (k:=x) Ω Ω (c▸hdx);have hmp2:e≤j→mm∈seen (dsts l) o→look st2.fr mm=.mp mid:=fun hej hu=>by
   rw[hfr _ (.inl ⟨hmte,hmtx⟩),hrs _ _ _ _ (xa5 _) hmte hmtx,hlook _ _ hu,hmmx j hej Ω,hmp]
  by_cases cj:j=e∨j=x∨j=s
  ·rcases cj with cj|cj|cj
   ·subst cj
    have hoo:o=oe:=by rw[hoe]at ho;exact(Option.some.inj ho).symm
    subst hoo;have hseen:∀u,.tmp u∈o.op.operands.toList→u∈seen (dsts l) o:=fun u hu=>by
     simp only[seen,xd4];exact .inl (List.mem_filterMap.2 ⟨.tmp u,hu,rfl⟩)
    have hsf:m.testBit s=false:=by
     cases hv:m.testBit s with
     |false=>rfl
     |true=>have:=hclm _ _ hse hv;rw[hbit]at this;cases this
    have hxf:m.testBit x=false:=by
     cases hv:m.testBit x with
     |false=>rfl
     |true=>have:=hclm _ _ hxe hv;rw[hbit]at this;cases this
    have hb:=hhp mid;rw[if_pos rfl]at hb;simp only[M,hsf,hbit,xe7,if_false,hfit]at hb;have hkk:keyV (env (look st2.fr) k)=some v:=by
     rw[←hkey]
     congr 1
     cases k with
     |tmp kk=>
      have hkn:zd (dsts l) j kk=true:=hkf;have n1:kk≠te:=fun c=>qz hkn (k:=j) Ω (xa5 _) (c▸hde);have n2:kk≠tx:=fun c=>qz hkn (k:=x) Ω Ω (c▸hdx);show look st2.fr kk=FS (nth (dsts l)) res (fun _=>true) (look st.fr) s kk;rw[hfr _ (.inl ⟨n1,n2⟩),hrs _ _ _ _ (xa5 _) n1 n2,hlook _ _ (hseen kk (by rw[hope];simp[Op.operands])),←kj (i:=j) (n:=l.length) Ω (fun k hk hik=>qz hkn Ω hik),←kj (i:=s) (n:=l.length) Ω (fun k hk hik=>qz hkn Ω Ω)]
     |const c=>rfl
     |global c=>rfl
     |func c=>rfl
    have hx2:env (look st2.fr) (.tmp mm)=.mp mid:=hmp2 (xa5 _) (hseen mm (by rw[hope];simp[Op.operands]));have fin:∀(D:Value→Bool)(G:Value→SV)(w:SV),D=Wj dom v→G=YO dom get v z→w=(if dom v=true then get v else .val z)→∀(stamp:Value→Nat)(c:Nat),∃st4,Weak O ((⟨st2.fr,setBlk st2.hp mid (.mapS (qm ag ls) D G stamp c),st2.nid⟩:St).putI o.dst (.tup [w,.val (.int .i64 (stamp v))])) st4∧∃σ clk,((∀u,(u≠te∧u≠tx)∨(m ||| 2^j).testBit s=false→look st4.fr u=FS (nth (dsts l)) (rs σ) (m ||| 2^j).testBit (look st.fr) l.length u)∧((m ||| 2^j).testBit s=true→look st4.fr te=.top∧look st4.fr tx=.top))∧(∀i,blk st4.hp i=if i=mid then some (M (m ||| 2^j).testBit σ clk)else blk (UH (but up s) (m ||| 2^j).testBit st.hp l.length) i)∧st4.nid+cnt (m ||| 2^j).testBit l.length=st.nid+l.length:=by
     intro D G w hD hG hw stamp c;subst hD;subst hG;subst hw;refine⟨_,qdc O _,next Ω stamp c _ (fun i hi=>?_) (fun u=>?_) (fun i=>?_) (by rw[kC])⟩
     ·have n1:i≠j:=fun e=>by subst e;rw[hbit]at hi;cases hi
      have n2:i≠x:=fun e=>by subst e;rw[hxf]at hi;cases hi
      simp only[rs,if_neg n1,if_neg n2]
     ·rw[hdse]
      show look (putIn st2.fr te _) u=_;rw[vP];by_cases cu:u=te
      ·subst cu;simp[rs]
      ·rw[if_neg cu,if_neg (fun e=>cu (Option.some.inj e).symm)]
     ·have e1:(m ||| 2^j).testBit s=false:=by rw[hS,hsf];simp;omega
      have e2:(m ||| 2^j).testBit j=true:=by rw[hS];simp
      have hub:but up s j=none:=by
       have:up j=none:=(hquiet j o ho (.inl rfl)).2.2;simp only[but,this,ite_self]
      rw[vT hS hub];have e3:∀(st5:St) d w,(st5.putI d w).hp=st5.hp:=fun st5 d w=>by cases d<;>rfl
      simp only[e3];rw[qp];by_cases ci:i=mid
      ·subst ci
       rw[if_pos rfl,if_pos rfl,hb];simp only[M,e1,e2,xe7,if_false,if_true,hfit];rfl
      ·rw[if_neg ci,if_neg ci,hhp,if_neg ci]
    unfold opH zo;rw[hgd];refine .inr ⟨by rw[hope];rfl,.inl ?_⟩;rw[hope];cases hd:dom v with
    |true=>exact V3 hx2 hkk hmi hb hkv hd fun stamp c=>fin _ _ _ (by simp[Wj,hd]) (by simp[YO,hd]) (by simp[hd]) stamp c
    |false=>exact qeQ hx2 hkk hmi hb hkv hd fun stamp c=>fin _ _ _ (by simp[Wj,hd]) (by simp[YO,hd]) (by simp[hd]) stamp c
   ·subst cj
    have hoo:o=ox:=by rw[hox]at ho;exact(Option.some.inj ho).symm
    subst hoo;have hsf:m.testBit s=false:=by
     cases hv:m.testBit s with
     |false=>rfl
     |true=>have:=hclm _ _ hsx hv;rw[hbit]at this;cases this
    have hte2:look st2.fr te=rs σ e:=by
     rw[hfr _ (.inr hsf)];exact Wh hde (hpre e hxe Ω) Ω hte
    have hre:rs σ e=.tup [if dom v=true then get v else .val z,.val (.int .i64 (σ v))]:=by simp[rs]
    have hrx:rs σ j=.val (.int .i64 (σ v)):=by simp only[rs,if_neg (Ω:j≠e),if_true]
    unfold opH zo;rw[hgd];refine .inl ?_;rw[hopx];simp only[stepR,env,hte2,hre,rExtract];refine⟨.val (.int .i64 (σ v)),rfl,_,Weak.refl _ _,next Ω σ clk _ (fun _ _=>rfl) (fun u=>?_) (fun i=>?_) (by rw[qx])⟩
    ·rw[gt,hrx]
     have:=congrFun (gQ st2.fr st2.hp st2.nid o.dst (.val (.int .i64 (σ v)))) u;exact this
    ·have e1:(m ||| 2^j).testBit s=m.testBit s:=by rw[hS];simp;omega
     have e2:(m ||| 2^j).testBit e=m.testBit e:=by rw[hS];simp;omega
     have hub:but up s j=none:=by
      have:up j=none:=(hquiet j o ho (.inr rfl)).2.2;simp only[but,this,ite_self]
     have hMS:M (m ||| 2^j).testBit σ clk=M m.testBit σ clk:=by simp only[M,e1,e2]
     show blk (st2.put o.dst _).hp i=_;rw[zm,hhp,hMS,vT hS hub]
   ·subst cj
    have hoo:o=os:=by rw[hos]at ho;exact(Option.some.inj ho).symm
    subst hoo;have hseen:∀u,.tmp u∈o.op.operands.toList→u∈seen (dsts l) o:=fun u hu=>by
     simp only[seen,xd4];exact .inl (List.mem_filterMap.2 ⟨.tmp u,hu,rfl⟩)
    have hx2:env (look st2.fr) (.tmp mm)=.mp mid:=hmp2 Ω (hseen mm (by rw[hops_];simp[Op.operands]));have htx2:env (look st2.fr) (.tmp tx)=.val (.int .i64 (σ v)):=by
     show look st2.fr tx=_;rw[hfr _ (.inr hbit),Wh hdx (hpre x hsx Ω) Ω htx];simp only[rs,if_neg (Ω:x≠e),if_true]
    have hb:=hhp mid;rw[if_pos rfl]at hb;simp only[M,hbit,hpre e hse Ω,xe7,if_false,if_true]at hb;have hyv:env (look st2.fr) y=xv:=by
     rw[←hxv];cases y with
     |tmp yy=>
      simp only[qhG,xe6,Bool.not_eq_true']at hyn;show look st2.fr yy=FS (nth (dsts l)) res (fun _=>true) (look st.fr) j yy;have n1:yy≠te:=fun c=>by rw[c]at hyn;simp at hyn
      have n2:yy≠tx:=fun c=>by rw[c]at hyn;simp at hyn
      rw[hfr _ (.inl ⟨n1,n2⟩),hrs _ _ _ _ (xa5 _) n1 n2];exact hlook _ _ (hseen yy (by rw[hops_];simp[Op.operands]))
     |const c=>rfl
     |global c=>rfl
     |func c=>rfl
    obtain⟨kt,et,ii,hu,hki,hinf,hz,hz1⟩:=zH hmi;have hself:eqK v v=true:=(gV hki hkv hkv).2 rfl;have hdv:Wj dom v v=true:=by
     rw[Wl (get:=get) (z:=z) (xv:=xv) |>.1];simp[qL,hself]
    unfold opH zo;rw[hgd];refine .inr ⟨by rw[hops_];rfl,.inr ?_⟩;rw[hops_];refine qeR hki hfit hx2 htx2 hb hdv ?_;rw[hyv,hdss];have e1:(m ||| 2^j).testBit j=true:=by rw[hS];simp
    refine⟨_,(qdc O _).trans (qkk O _ te tx),σ,clk,⟨fun u hu=>?_,fun _=>⟨?_,?_⟩⟩,fun i=>?_,?_⟩
    ·rw[e1]at hu
     obtain⟨n1,n2⟩:=hu.resolve_right Ωh;show look (putFr (putFr st2.fr te .top) tx .top) u=_;rw[zl,if_neg n2,zl,if_neg n1,hfr u (.inl ⟨n1,n2⟩),ZG hS hjl (hlater u),hdS,if_neg Ωh]
    ·show look (putFr (putFr st2.fr te .top) tx .top) te=_
     rw[zl,if_neg hne,zl,if_pos rfl]
    ·show look (putFr (putFr st2.fr te .top) tx .top) tx=_
     rw[zl,if_pos rfl]
    rotate_left
    ·have:=(gv (S:=m.testBit) (S':=(m ||| 2^j).testBit) hS hbit (n:=l.length)).2 hjl
     show st2.nid+1+_=_;omega
    show blk (setBlk st2.hp mid _) i=_;have hub:but up j j=none:=by simp[but]
    rw[qp,vT hS hub];by_cases ci:i=mid
    ·subst ci
     rw[if_pos rfl,if_pos rfl,hb];simp only[M,e1,if_true];rw[(Wl (get:=get) (z:=z) (xv:=xv)).1,(Wl (dom:=dom) (z:=z)).2];rfl
    ·rw[if_neg ci,if_neg ci,hhp,if_neg ci]
  ·have c1:j≠e:=fun c=>cj (.inl c)
   have c2:j≠x:=fun c=>cj (.inr (.inl c));have c3:j≠s:=fun c=>cj (.inr (.inr c));have hat1:=hat j o ho c1 c2 c3;obtain⟨hcls1,hnte,hntx⟩:yz (dsts l) (zp [] l) t e s j o=true∧yV te o=true∧yV tx o=true:=by
    rcases(hcl j o ho).2 with c|c|c|c
    ·exact absurd c c1
    ·exact absurd c c2
    ·exact absurd c c3
    ·exact c
   have hslot:∀u,.tmp u∈o.op.operands.toList→look st2.fr u=FS (nth (dsts l)) res (fun _=>true) (look st.fr) j u:=fun u hu=>by
    have hm1:u∈zM o:=List.mem_filterMap.2 ⟨.tmp u,hu,rfl⟩;rw[hfr _ (.inl ⟨fun c=>(gU hnte).1 (c▸hm1),fun c=>(gU hntx).1 (c▸hm1)⟩),hrs _ _ _ _ (xa5 _) (fun c=>(gU hnte).1 (c▸hm1)) (fun c=>(gU hntx).1 (c▸hm1))];exact hlook _ _ (by simp only[seen,xd4];exact .inl hm1)
   have hfx0:∀i oi,l[i]? = some oi→i≠e→i≠x→i≠s→(qfg e x s 0 l)[i]? = some oi:=fun i oi hoi h1 h2 h3=>by
    have:=YL (e:=e) (x:=x) (s:=s) (i:=0) hoi;rw[xb0,if_neg (by rintro(h|h|h)<;>contradiction)]at this;exact this
   have hchg:∀i X b,i<l.length→X≠mid→up i=some (X,b)→i≠e∧i≠x∧i≠s∧∃oi ty b' v',l[i]? = some oi∧oi.op=.store ty (.tmp b') v'∧zd (dsts l) i b'=true∧qH (look st1.fr b')=some X:=fun i X b hi hX hu=>by
    have hoi:l[i]? = some l[i]:=by simp[hi]
    have hne:¬(i=e∨i=x):=fun c=>by
     have:=(hquiet i _ hoi c).2.2;rw[hu]at this;cases this
    have hns:i≠s:=fun c=>by
     subst c;rw[hups]at hu;injection hu with hu;injection hu with hu;exact hX hu.symm
    obtain⟨ty,b',v',a1,a2,a3,a4⟩:=(hord i _ hoi (fun c=>hne (.inl c)) (fun c=>hne (.inr c)) hns).2 _ _ hu;exact⟨fun c=>hne (.inl c),fun c=>hne (.inr c),hns,_,ty,b',v',hoi,a1,a2,a4⟩
   have hrd:kU o.op=true→∀X,X≠mid→(∀ty a,o.op=.load ty (.tmp a)→qH (FS (nth (dsts l)) res (fun _=>true) (look st.fr) j a)=some X)→∀i,i<l.length→∀b,up i=some (X,b)→(m.testBit i=true↔i<j):=by
    intro hro X hX hld i hi b hu;obtain⟨n1,n2,n3,oi,ty,b',v',hoi,a1,a2,a3⟩:=hchg i X b hi hX hu;have f1:=hfx0 i oi hoi n1 n2 n3;have f2:=hfx0 j o ho c1 c2 c3;have hui:qC oi.op=true:=by rw[a1];rfl
    constructor
    ·intro hs
     refine xf9 fun hge=>?_;by_cases c:i=j
     ·subst c;rw[hbit]at hs;cases hs
     ·rcases zg hpair f2 f1 Ω with hb|⟨_,hb,_⟩|⟨t4,a4,t5,b5,y5,e1,e2,hmem4,hn1,hn2⟩
      ·have:=hclm _ _ hb hs
       rw[hbit]at this;cases this
      ·exact hb ⟨hro,hui⟩
      ·rw[a1]at e2
       injection e2 with _ e2 _;injection e2 with e2;subst e2;have h1:=hld _ _ e1;have h3:=hfar _ _ hmem4;rw[←kj (i:=j) (n:=l.length) Ω (fun k hk hik=>qz hn1 Ω hik),←hF1]at h1;unfold vl at h3;rw[h1,a3]at h3;exact h3 rfl
    ·intro hlt
     rcases zg hpair f1 f2 hlt with hb|⟨_,_,hb⟩|⟨t4,a4,t5,b5,y5,e1,e2,hmem4,hn1,hn2⟩
     ·exact hpre i hb Ω
     ·exact(hb ⟨hui,hro⟩).elim
     ·rw[e1]at a1;cases a1
   have hrsj:rs σ j=res j:=by simp only[rs,if_neg c1,if_neg c2]
   have hMS:M (m ||| 2^j).testBit σ clk=M m.testBit σ clk:=by
    have e1:(m ||| 2^j).testBit s=m.testBit s:=by rw[hS];simp[Ne.symm c3]
    have e2:(m ||| 2^j).testBit e=m.testBit e:=by rw[hS];simp[Ne.symm c1]
    simp only[M,e1,e2]
   have hlk:∀sv u,look (inD o.dst (st2.put o.dst sv).fr) u=if o.dst=some u then sv else look st2.fr u:=fun sv u=>by
    rw[gt];have:=congrFun (gQ st2.fr st2.hp st2.nid o.dst sv) u;exact this
   have kfin:up j=none→∀sv,sv=res j→∃st4,Weak O ⟨inD o.dst (st2.put o.dst sv).fr,(st2.put o.dst sv).hp,(st2.put o.dst sv).nid+1⟩ st4∧∃σ clk,((∀u,(u≠te∧u≠tx)∨(m ||| 2^j).testBit s=false→look st4.fr u=FS (nth (dsts l)) (rs σ) (m ||| 2^j).testBit (look st.fr) l.length u)∧((m ||| 2^j).testBit s=true→look st4.fr te=.top∧look st4.fr tx=.top))∧(∀i,blk st4.hp i=if i=mid then some (M (m ||| 2^j).testBit σ clk)else blk (UH (but up s) (m ||| 2^j).testBit st.hp l.length) i)∧st4.nid+cnt (m ||| 2^j).testBit l.length=st.nid+l.length:=fun hu sv hsv=>by
    subst hsv;refine⟨_,Weak.refl _ _,next c3 σ clk _ (fun _ _=>rfl) (fun u=>by rw[hrsj];exact hlk _ u) (fun i=>?_) (by rw[qx])⟩;have hub:but up s j=none:=by simp only[but,hu,ite_self]
    show blk (st2.put o.dst (res j)).hp i=_;rw[zm,hhp,hMS,vT hS hub]
   unfold opH zo;rw[hgd];refine .inl ?_;have run:(kf o.op=true)→stepR P (look st2.fr) st2.hp o.op=stepR P (FS (nth (dsts l)) res (fun _=>true) (look st.fr) j) (TH st.nid nb up st.hp j) o.op→qC o.op=false→(jf o.op=true∨∃t x k ok,o.op=.lookup t x k ok)→QH P O (Tag.mk:Tag True) (Tag.mk:Tag o.op) o.dst st2.nid st2 (fun st'=>∃st4,Weak O ⟨inD o.dst st'.fr,st'.hp,st'.nid+1⟩ st4∧∃σ clk,((∀u,(u≠te∧u≠tx)∨(m ||| 2^j).testBit s=false→look st4.fr u=FS (nth (dsts l)) (rs σ) (m ||| 2^j).testBit (look st.fr) l.length u)∧((m ||| 2^j).testBit s=true→look st4.fr te=.top∧look st4.fr tx=.top))∧(∀i,blk st4.hp i=if i=mid then some (M (m ||| 2^j).testBit σ clk)else blk (UH (but up s) (m ||| 2^j).testBit st.hp l.length) i)∧st4.nid+cnt (m ||| 2^j).testBit l.length=st.nid+l.length) .mk (stepR P (look st2.fr) st2.hp o.op):=fun hca hst hnu hpl=>by
    rw[hst];generalize hr1:res j=a1 at hat1 kfin;generalize hr2:nb j=a2 at hat1;generalize hr3:up j=a3 at hat1 kfin;cases hat1 with
    |skip hg=>simp[kx,hgd]at hg
    |upd obl t b hg h ho=>rcases kd (P:=P) hpl with⟨_,_,e1⟩|⟨_,e1⟩|e1<;>rw[e1]at h<;>cases h
    |run sv nb hg hca hr=>
     cases hr with
     |pure obl sv h ho=>rw[h];exact⟨ho,kfin rfl _ rfl⟩
     |ex obl sv h ho=>rw[h];exact⟨_,ho,kfin rfl _ rfl⟩
     |new obl b mk h ho=>rcases kd (P:=P) hpl with⟨_,_,e1⟩|⟨_,e1⟩|e1<;>rw[e1]at h<;>cases h
     |call f args res h hc=>rcases kd (P:=P) hpl with⟨_,_,e1⟩|⟨_,e1⟩|e1<;>rw[e1]at h<;>cases h
     |callN f args pats b res h hc hs=>rcases kd (P:=P) hpl with⟨_,_,e1⟩|⟨_,e1⟩|e1<;>rw[e1]at h<;>cases h
   have hne:stepR P (FS (nth (dsts l)) res (fun _=>true) (look st.fr) j) (TH st.nid nb up st.hp j) o.op≠.bad:=fun hb=>by
    generalize res j=a1 at hat1;generalize nb j=a2 at hat1;generalize up j=a3 at hat1;cases hat1 with
    |skip hg=>simp[kx,hgd]at hg
    |upd obl t b hg h ho=>rw[hb]at h;cases h
    |run sv nb hg hca hr=>
     cases hr with
     |pure obl sv h ho=>rw[hb]at h;cases h
     |ex obl sv h ho=>rw[hb]at h;cases h
     |new obl b mk h ho=>rw[hb]at h;cases h
     |call f args res h hc=>rw[hb]at h;cases h
     |callN f args pats b res h hc hs=>rw[hb]at h;cases h
   rcases ju hcls1 with⟨hpl,hldn⟩|⟨xm,kk,hop,hlt,hbs⟩|⟨ty,b,v',hop,hnf,hdn⟩
   ·have hca:kf o.op=true:=by generalize o.op=op at hpl;cases op<;>first|(simp[jf]at hpl;done)|rfl
    refine run hca ?_ (qaP hca) (.inl hpl);rw[wX (.inl hpl) hslot];cases hro:kU o.op with
    |false=>exact wL _ hca hro
    |true=>
     obtain⟨ty,a,hop⟩:∃ty a,o.op=.load ty (.tmp a):=by
      generalize o.op=op at hpl hro ⊢;unfold jf at hpl;split at hpl<;>first|(cases hro;done)|exact⟨_,_,rfl⟩|(cases hpl;done)
     have hnf:=hldn _ _ hop;rw[hop]at hne ⊢;refine jJ (fun X y hX hy=>?_) hne;have hX':qH (look st1.fr a)=some X:=by
      rw[hF1,kj (i:=j) Ω (fun k hk hik=>qz hnf Ω hik)];exact hX
     have hXm:X≠mid:=fun c=>by
      subst c;exact hadr a ((yA ho).1 _ _ hop) hX'
     rw[hmem X hXm (hrd hro X hXm fun ty' a' e=>by rw[hop]at e;cases e;exact hX)];exact hy
   ·have hsf:m.testBit s=false:=by
     cases hv:m.testBit s with
     |false=>rfl
     |true=>have:=hclm _ _ hbs hv;rw[hbit]at this;cases this
    refine run (by rw[hop];rfl) ?_ (by rw[hop];rfl) (.inr ⟨_,_,_,_,hop⟩);rw[wX (.inr (.inl ⟨_,_,_,_,hop⟩)) hslot,hop];simp only[stepR,hmi];generalize hA:env (FS (nth (dsts l)) res (fun _=>true) (look st.fr) j) xm=A;generalize env (FS (nth (dsts l)) res (fun _=>true) (look st.fr) j) kk=B;by_cases cA:A=.mp mid
    ·subst cA
     have h1:blk (TH st.nid nb up st.hp j) mid=some (.map fit dom get):=by
      rw[hTH j Ω,←hmap];exact gy fun i hi _ t' b hu e=>by
       subst e;have:=hup i b Ω hu;omega
     have h2:=hhp mid;rw[if_pos rfl]at h2;simp only[M,hsf,xe7,if_false]at h2;simp only[rLookup,mapOf,h1,h2];by_cases ce:m.testBit e=true
     ·simp only[ce,if_true]
      cases keyV B with
      |none=>rfl
      |some u=>
       simp only[xe7,if_false];rw[qhI]
     ·simp only[ce,xe7,if_false]
    ·have:mapOf st2.hp A=mapOf (TH st.nid nb up st.hp j) A:=by
      cases A<;>first|rfl|skip
      case mp id'=>
       have hXm:id'≠mid:=fun c=>cA (by rw[c]);simp only[mapOf];rw[hmem id' hXm (hrd (by rw[hop];rfl) id' hXm fun ty a e=>by rw[hop]at e;cases e)]
     simp only[rLookup,this]
   ·have hwr:∀i,i<l.length→but up s i≠none→(m.testBit i=true↔i<j):=fun i hi hu=>by
     have hns:i≠s:=fun c=>hu (by simp[but,c]);have hu':up i≠none:=fun c=>hu (by simp[but,c]);have hoi:l[i]? = some l[i]:=by simp[hi]
     have hne:¬(i=e∨i=x):=fun c=>hu' (hquiet i _ hoi c).2.2;obtain⟨p,hp⟩:=Option.ne_none_iff_exists'.1 hu';obtain⟨X,b2⟩:=p;obtain⟨ty2,b3,v3,a1,-,-,-⟩:=(hord i _ hoi (fun c=>hne (.inl c)) (fun c=>hne (.inr c)) hns).2 _ _ hp;have f1:=hfx0 i _ hoi (fun c=>hne (.inl c)) (fun c=>hne (.inr c)) hns;have f2:=hfx0 j o ho c1 c2 c3;have hui:qC (l[i]).op=true:=by rw[a1];rfl
     have huj:qC o.op=true:=by rw[hop];rfl
     constructor
     ·intro hs
      refine xf9 fun hge=>?_;by_cases c:i=j
      ·subst c;rw[hbit]at hs;cases hs
      ·rcases zg hpair f2 f1 Ω with hb|⟨hb,_,_⟩|⟨t4,a4,t5,b5,y5,e1,e2,hmem4,hn1,hn2⟩
       ·have:=hclm _ _ hb hs
        rw[hbit]at this;cases this
       ·exact hb ⟨huj,hui⟩
       ·rw[hop]at e1;cases e1
     ·intro hlt
      rcases zg hpair f1 f2 hlt with hb|⟨hb,_,_⟩|⟨t4,a4,t5,b5,y5,e1,e2,hmem4,hn1,hn2⟩
      ·exact hpre i hb Ω
      ·exact(hb ⟨hui,huj⟩).elim
      ·rw[a1]at e1;cases e1
    generalize hr1:res j=a1 at hat1 kfin;generalize hr2:nb j=a2 at hat1;generalize hr3:up j=a3 at hat1 kfin;cases hat1 with
    |skip hg=>simp[kx,hgd]at hg
    |run sv nb hg hca hr=>rw[hop]at hca;cases hca
    |upd obl X bb hg h hobl=>
     rw[hop]at h;have hX:=k9 h;have hX':qH (look st1.fr b)=some X:=by
      rw[hF1,kj (i:=j) Ω (fun k hk hik=>qz hnf Ω hik)];exact hX
     have hXm:X≠mid:=fun c=>by
      subst c;exact hadr b ((yA ho).2 _ _ _ hop) hX'
     have hcond:∀i,i<l.length→∀b2,up i=some (X,b2)→(m.testBit i=true↔i<j):=fun i hi b2 hu=>by
      have hns:i≠s:=fun c=>by
       subst c;rw[hups]at hu;injection hu with hu;injection hu with hu;exact hXm hu.symm
      exact hwr i hi (by simp[but,hns,hu])
     have hst:stepR P (look st2.fr) st2.hp o.op=.upd obl X bb:=by
      rw[wX (.inr (.inr ⟨_,_,_,hop⟩)) hslot,hop];have h':=h;simp only[stepR]at h ⊢;rw[qbz (hp:=TH st.nid nb up st.hp j) (fun id y hid hy=>?_) (by rw[h];simp),h];rw[hX]at hid;injection hid with hid;subst hid;rw[hmem X hXm hcond];exact hy
     rw[hst];refine⟨hobl,_,Weak.refl _ _,?_⟩;have hub:but up s j=some (X,bb):=by simp only[but,if_neg c3,hr3]
     refine next c3 σ clk _ (fun _ _=>rfl) (fun u=>?_) (fun i=>?_) (by simp[hdn,St.put])
     ·rw[hdn]
      simp only[reduceCtorEq,if_false];rw[gt];rfl
     ·rw[hdn]
      show blk (setBlk st2.hp X bb) i=_;rw[qp,hMS,VO hS hjl hub hwr,qp];by_cases ci:i=X
      ·subst ci
       rw[if_pos rfl,if_neg hXm,if_pos rfl,hhp,if_neg hXm]
      ·rw[if_neg ci,if_neg ci,hhp]
 ·rintro m st2 ⟨σ,clk,⟨hfr,htop⟩,hhp,hnid⟩ hall
  refine hk1 st2 (fun u=>?_) (fun j=>?_) ?_
  ·by_cases h1:u=te
   ·rw[if_pos (.inl h1),h1];exact(htop (hall s hsl)).1
   by_cases h2:u=tx
   ·rw[if_pos (.inr h2),h2];exact(htop (hall s hsl)).2
   rw[if_neg (by rintro(h|h)<;>contradiction),hfr u (.inl ⟨h1,h2⟩),hrs _ _ _ _ (xa5 _) h1 h2,hF1];exact jY (xa5 _) fun j hj _=>by simp[hall j hj,hj]
  ·rw[hhp]
   split
   ·rename_i c
    subst c;simp only[M,hall s hsl,if_true];exact hfin.symm
   ·rename_i c
    rw[hh1,hTH _ (xa5 _),←qbB (up:=up) (s:=s) (fun t' b hu=>by rw[hups]at hu;injection hu with hu;injection hu with hu;rw[←hu];exact fun e=>c e.symm)];rw[vo fun j hj _=>hall j hj]
  ·rw[qdd hall]at hnid
   omega
end
def qbC:Nat→List Oper→Nat
 |i,[]=>i
 |i,o :: r=>match o.op with
  |.mapEntry _ _ _=>i
  |_=>qbC (i+1) r
noncomputable def entQ(e:Nat)(oe ox os:Oper):Option EI:=
 match oe.op,oe.dst with
 |.mapEntry t (.tmp mm) k,some te=>match ox.op,ox.dst with
  |.extract (.tmp te') 1,some tx=>match os.op,os.dst with
   |.entryStore t' (.tmp mm') (.tmp tx') y,none=>Bool.rec none (some ⟨e,e+1,e+2,te,tx,t,mm,k,y⟩) (Nat.beq te te'&&(Nat.beq t t'&&(Nat.beq mm mm'&&(Nat.beq tx tx'&&!(Nat.beq te tx)))))
   |_,_=>none
  |_,_=>none
 |_,_=>none
noncomputable def entI(l:List Oper):Option EI:=
 let e:=qbC 0 l
 match l[e]?,l[e+1]?,l[e+2]? with
 |some oe,some ox,some os=>entQ e oe ox os
 |_,_,_=>none
theorem qkl{l:List Oper}{q:EI}(h:entI l=some q):Ent q l:=by
 unfold entI at h;dsimp only at h;generalize qbC 0 l=e at h;split at h
 ·rename_i oe ox os h1 h2 h3
  unfold entQ at h;split at h
  ·rename_i t mm k te e1 e2
   split at h
   ·rename_i te' tx e3 e4
    split at h
    ·rename_i t' mm' tx' y e5 e6
     cases hb:(Nat.beq te te'&&(Nat.beq t t'&&(Nat.beq mm mm'&&(Nat.beq tx tx'&&!(Nat.beq te tx)))))with
     |false=>rw[hb]at h;cases h
     |true=>
      rw[hb]at h;injection h with h;subst h;simp only[xe6,Bool.not_eq_true']at hb;obtain⟨b1,b2,b3,b4,b5⟩:=hb;have b1:=xa6 b1;have b2:=xa6 b2;have b3:=xa6 b3;have b4:=xa6 b4;subst b1;subst b2;subst b3;subst b4;exact⟨xb5 e,xb5 (e+1),fun c=>(by rw[show te=tx from c,Nat.beq_refl]at b5;cases b5),⟨oe,h1,e1,e2⟩,⟨ox,h2,e3,e4⟩,⟨os,h3,e5,e6⟩⟩
    ·cases h
   ·cases h
  ·cases h
 ·cases h
end Go.Sx
end
section
namespace Go.Sx
open Go.RowKit
section
variable{P:Program}
def qkm(P:Program)(O:Ctx)(ops:List Oper)(ms:List Nat)(inv:Nat→St→Prop)(i:Nat)(o:Oper):Prop:=
 ∀m st,inv m st→qct ms m→m.testBit i=false→(∀j,(ms.getD i 0).testBit j=true→j≠i→m.testBit j=true)→
  ∃st1,Weak O st st1∧opH P O (dsts ops) o st1 fun st2=>∃st3,Weak O st2 st3∧inv (m ||| 2^i) st3
theorem Qm(hm:P.follows .mixedOrders=true){O:Ctx}{st st0:St}{K:Ex→St→Prop}{id:Nat}{ops:List Oper}(inv:Nat→St→Prop){ms:List Nat}(hms:zp [] ops=ms)(hedge:gu 0 ops=true)(hw0:Weak O st st0)(h0:inv 0 st0)(hs:wP (qkm P O ops ms inv) 0 ops)
  (hend:∀m st',inv m st'→(∀i,i<ops.length→m.testBit i=true)→∃st2,Weak O st' st2∧K .normal st2) {g:Tag K}:j4 P O id ops true st K g:=by
 subst hms;intro base okc ns outs a w ro Q hro hc hi hK
 replace hi:=hw0 _ _ _ _ _ _ hi
 simp only[qE,xe6]at hc;obtain⟨hd,-⟩:=hc;have hd:ops.all (kv ns)=true:=by simpa using hd
 have hn:ops.toArray.size=ops.length:=by simp
 have hget:∀j:Nat,ops.toArray[j]? = ops[j]?:=fun j=>by simp
 have hedge:=kI hedge;have hclosed:∀(S:Nat→Bool)(i:Nat),kg ops S→(∃o,ops[i]? = some o∧∀e∈o.after,Region.binds .any e=true→S e.on=true)→kg ops (fun j=>S j || decide (j=i)):=by
  rintro S i hc ⟨o,ho,he⟩ j oj hoj hS e hm' hb;simp only[xe8,decide_eq_true_eq]at hS ⊢;rcases hS with hS|hS
  ·exact .inl (hc j oj hoj hS e hm' hb)
  ·subst hS
   rw[ho]at hoj;cases hoj;exact .inl (he e hm' hb)
 have hready:∀(listed:Array Bool)(i:Nat),listed.size=ops.length→i∈Region.ready .any ops.toArray listed→i<ops.length∧listed.getD i false=false∧∃o,ops[i]? = some o∧∀e∈o.after,Region.binds .any e=true→listed.getD e.on false=true:=by
  intro listed i hsz hi;obtain⟨h1,o,h2,h3⟩:=mem_ready.1 hi;rw[hget]at h2;have hlt:i<ops.length:=(List.getElem?_eq_some_iff.1 h2).1;refine⟨hlt,?_,o,h2,h3⟩;have:i<listed.size:=by omega
  simpa[this]using h1
 have hleast:∀(listed:Array Bool),listed.size=ops.length→∀i,i<ops.length→listed.getD i false=false→∃j,j≤i∧j∈Region.ready .any ops.toArray listed:=by
  intro listed hsz i
  induction i using Nat.strongRecOn with
  |_ i ih=>
   intro hi hf;obtain⟨o,ho⟩:∃o,ops[i]? = some o:=⟨ops[i],by simp[hi]⟩;by_cases hall:∀e∈o.after,Region.binds .any e=true→listed.getD e.on false=true
   ·refine⟨i,xa5 _,mem_ready.2 ⟨?_,o,by rw[hget];exact ho,hall⟩⟩
    have:i<listed.size:=by omega
    simpa[this]using hf
   ·have:∃e,e∈o.after∧Region.binds .any e=true∧listed.getD e.on false=false:=by
     refine xf9 fun hno=>hall fun e he hb=>?_;cases hv:listed.getD e.on false with
     |true=>rfl
     |false=>exact(hno ⟨e,he,hb,hv⟩).elim
    obtain⟨e,he,hb,hv⟩:=this;have hlt:=hedge i o ho e he hb;rw[xb0]at hlt;obtain⟨j,hj,hr⟩:=ih e.on hlt Ω hv;exact⟨j,Ω,hr⟩
 have main:∀(fuel:Nat)(listed:Array Bool)(m:Nat)(st:St)(a:Act)(w:World),listed.size=ops.length→(∀i,listed.getD i false=m.testBit i)→kg ops (fun i=>listed.getD i false)→cnt (fun i=>listed.getD i false) ops.length=fuel→
   inv m st→Inv O base okc ns st.nid outs st a w→wpAnyIn (FR ro) 0 P .any ops.toArray Q fuel listed a w:=by
  intro fuel
  induction fuel with
  |zero=>
   intro listed m st a w hsz hbit hcl hcnt hin hi;have hall:=vm hcnt;obtain⟨st2,hw2,hk2⟩:=hend m st hin fun i hi=>by rw[←hbit];exact hall i hi
   refine⟨?_,hK .normal st2 a w hk2 (hw2 _ _ _ _ _ _ hi)⟩;cases hr:Region.ready .any ops.toArray listed with
   |nil=>rfl
   |cons x xs=>
    obtain⟨h1,h2,-⟩:=hready listed x hsz Ω2;have:=hall x h1;simp only[h2]at this;cases this
  |succ fuel ih=>
   intro listed m st a w hsz hbit hcl hcnt hin hi;refine⟨fun h=>?_,fun i hir=>?_⟩
   ·exfalso
    have:∃x,x<ops.length∧listed.getD x false=false:=by
     refine xf9 fun hno=>?_;have:∀n,n≤ops.length→cnt (fun i=>listed.getD i false) n=0:=by
      intro n
      induction n with
      |zero=>intro _;rfl
      |succ n ihn=>
       intro hn';simp only[cnt];rw[ihn Ω];have hv:listed.getD n false=true:=by
        refine xf9 fun hv=>hno ⟨n,Ω,(by simpa using hv)⟩
       rw[if_pos hv]
     rw[this _ (xa5 _)]at hcnt;cases hcnt
    obtain⟨x,hx,hxf⟩:=this;obtain⟨y,_,hr⟩:=hleast listed hsz x hx hxf;rw[h]at hr;cases hr
   ·obtain⟨hil,hif,o,ho,hie⟩:=hready listed i hsz hir
    have hcl':=hclosed _ i hcl ⟨o,ho,hie⟩;have hS:∀x,(listed.setIfInBounds i true).getD x false=(listed.getD x false || decide (x=i)):=fun x=>vn Ω;have hop:=Qh hs i o ho;rw[xb0]at hop;have hop:=hop m st hin (fun j x hb hj=>by
     rw[←hbit]at hj ⊢;exact qt (S:=fun i=>listed.getD i false) hcl hb hj) (by rw[←hbit];exact hif) (fun j hb hne=>by
     have:=qt hcl' hb Ωh;simp only[xe8,decide_eq_true_eq]at this;rw[←hbit];exact this.resolve_right hne)
    have hdo:kv ns o=true:=List.all_eq_true.1 hd o (List.mem_of_getElem? ho);unfold wpOpIn;simp only[hget,ho];obtain⟨st1,hw1,hop⟩:=hop;refine VX (ops:=ops.toArray) (hw1 _ _ _ _ _ _ hi) hdo (by simpa using hop) fun st' a' w' hst3 hi'=>?_;obtain⟨st3,hw,hin'⟩:=hst3;refine ih _ (m ||| 2^i) st3 a' w' Ωae (fun x=>?_) ?_ ?_ hin' (hw _ _ _ _ _ _ hi')
    ·rw[hS,hbit,Nat.testBit_or,Nat.testBit_two_pow]
     congr 1
     simp[eq_comm]
    ·have:(fun x=>(listed.setIfInBounds i true).getD x false)=fun x=>listed.getD x false || decide (x=i):=funext hS
     rw[this];exact hcl'
    ·have:=(gv (S:=fun i=>listed.getD i false) (S':=fun x=>(listed.setIfInBounds i true).getD x false) hS hif (n:=ops.length)).2 hil
     omega
 refine wpIn_region_any hm ?_;rw[hn];have hrep0:∀i,(Array.replicate ops.length false).getD i false=false:=fun i=>by simp only[xf5,Array.getElem?_replicate];split<;>rfl
 obtain⟨r0,hr0⟩:=hi;have hdrew:Below w.heap.size w { w with drawn:=w.drawn+1 }:=⟨rfl,rfl,rfl,xa5 _,fun _ _=>rfl⟩;have hi1:InvR O base okc ns st0.nid r0 outs st0 a { w with drawn:=w.drawn+1 }:=hr0.step (hr0.sat.grow hdrew) hr0.keys (xa5 _) (d:=none) (fun t ht=>by cases ht) (.top undef);refine main ops.length (Array.replicate ops.length false) 0 st0 a _ Ωh (fun i=>by rw[hrep0];simp) ?_ ?_ h0 ⟨r0,hi1⟩
 ·intro j o ho hS;simp only[hrep0]at hS;cases hS
 ·have key:∀n,cnt (fun i=>(Array.replicate ops.length false).getD i false) n=n:=by
   intro n
   induction n with
   |zero=>rfl
   |succ n ihn=>
    simp only[cnt,ihn];rw[if_neg (by rw[hrep0];simp)]
  exact key _
theorem ZR(O:Ctx)(st:St):∀n,st.nid≤n→Weak O st { st with nid:=n }:=by
 intro n h;obtain⟨d,rfl⟩:∃d,n=st.nid+d:=⟨n - st.nid,Ω⟩;clear h
 induction d with
 |zero=>exact Weak.refl _ _
 |succ d ih=>exact ih.trans (fun base okc ns outs a w h=>by
   obtain⟨r,h⟩:=h;have s:=h.sat.more (N':=(· < st.nid+d+1)) (fun x hx=>Nat.lt_succ_of_lt hx) (fun x y hy _=>h.keys x y hy);exact⟨r,(h.step s (fun id x hx=>Nat.lt_succ_of_lt (h.keys id x hx)) (xc4 _) (d:=none) (fun t ht=>by cases ht) (.top undef)).nid (st.nid+d+1)⟩)
theorem jN{F F':Nat→SV}:∀{l:List Operand},(∀x∈l,env F x=env F' x)→envs F l=envs F' l
 |[],_=>rfl
 |a :: l,h=>by rw[envs,envs,h a xd5,jN fun x hx=>h x (List.mem_cons_of_mem _ hx)]
theorem Qn{F F':Nat→SV}:∀{l:List (Nat×Operand)},(∀x∈l,env F x.2=env F' x.2)→envp F l=envp F' l
 |[],_=>rfl
 |a :: l,h=>by rw[envp,envp,h a xd5,Qn fun x hx=>h x (List.mem_cons_of_mem _ hx)]
theorem ZS{F F':Nat→SV}{o:Option Operand}(h:∀x∈o.toList,env F x=env F' x):o.map (env F)=o.map (env F'):=by
 cases o with
 |none=>rfl
 |some x=>show some _=some _;rw[h x Ωh]
theorem Vb{F F':Nat→SV}{hp:List (Nat×Blk)}{op:Op}(h:∀t,.tmp t∈op.operands.toList→F t=F' t):stepR P F hp op=stepR P F' hp op:=by
 have he:∀x,x∈op.operands.toList→env F x=env F' x:=fun x hx=>by
  cases x<;>first|exact h _ hx|rfl
 clear h;cases op
 case makeFunc g fs cs=>
  simp only[stepR];rw[jN fun x hx=>he x (by simp[Op.operands];exact .inl ΩQ),jN fun x hx=>he x (by simp[Op.operands];exact .inr ΩQ)]
 case build t ps=>
  simp only[stepR];rw[Qn fun p hp=>he p.2 (by simp only[Op.operands];exact List.mem_map_of_mem hp)]
 case buildSlice t n ps=>
  simp only[stepR];rw[Qn fun p hp=>he p.2 (by simp only[Op.operands];exact List.mem_map_of_mem hp)]
 case slice t x lo hi mx=>
  simp only[stepR];rw[he x Ωq,ZS fun y hy=>he y Ωaf,ZS (o:=hi) fun y hy=>he y Ωaf,ZS (o:=mx) fun y hy=>he y Ωaf]
 case call c=>
  obtain⟨callee,args,ts⟩:=c;have hargs:∀x∈args.toList,env F x=env F' x:=fun x hx=>he x (by cases callee<;>simp[Op.operands,Call.operands]<;>first|exact .inr ΩQ|simpa using hx);simp only[stepR];cases callee
  case value x=>
   simp only[rCall];rw[he x Ωi,jN hargs]
  case builtin b=>
   have e:=jN hargs;cases b<;>simp only[rCall]<;>first|rfl|rw[e]|skip
   all_goals
    (split<;>first|rfl|skip)
    all_goals (rename_i hl _;rw[hl]at hargs)
    all_goals first
     |(rw[hargs _ Ωh];done)
     |(rw[hargs _ Ωh,hargs _ Ωh];done)
     |skip
  all_goals (simp only[rCall])
 all_goals first
  |(simp only[stepR];done)
  |(simp only[stepR];rw[he _ Ωq];done)
  |(simp only[stepR];rw[he _ Ωq,he _ Ωq];done)
  |(simp only[stepR];rw[he _ Ωq,he _ Ωq,he _ Ωq];done)
  |skip
def gE:Op→Bool
 |.move _|.assign _|.pick _ _ _|.load _ _|.nilCheck _|.binOp _ _ _ _ _|.unOp _ _ _|.convert _ _ _|.makeFunc _ _ _|.fieldAddr _ _ _|.field _ _ _|.indexAddr _ _ _|.index _ _ _|.extract _ _|.build _ _|.slice _ _ _ _ _|.lookup _ _ _ _=>false
 |.call ⟨.builtin .len,_,_⟩=>false
 |.call ⟨.builtin .min,_,_⟩=>false
 |.call ⟨.builtin .max,_,_⟩=>false
 |_=>true
def GT:Op→Bool
 |.load _ _|.lookup _ _ _ _=>true
 |.call ⟨.builtin .len,_,_⟩=>true
 |_=>false
def kc(e:Nat→Bool):Nat→Nat
 |0=>0
 |n+1=>kc e n+if e n=true then 1 else 0
theorem Wm{e e':Nat→Bool}:∀{n:Nat},(∀j,j<n→e j=true→e' j=true)→kc e n≤kc e' n
 |0,_=>xa5 _
 |n+1,h=>by
  have ih:=Wm (n:=n) fun j hj=>h j Ω;simp only[kc];by_cases c:e n=true
  ·rw[if_pos c,if_pos (h n Ω c)];omega
  ·rw[if_neg c];omega
theorem Zg{e e':Nat→Bool}:∀{n:Nat},(∀j,j<n→e j=e' j)→kc e n=kc e' n
 |0,_=>rfl
 |n+1,h=>by simp only[kc];rw[Zg (n:=n) fun j hj=>h j Ω,h n Ω]
theorem qde{e:Nat→Bool}:∀{n:Nat},kc e n≤n
 |0=>xa5 _
 |n+1=>by
  have:=qde (e:=e) (n:=n);simp only[kc];split<;>omega
theorem qdf{e:Nat→Bool}:∀{j k:Nat},j≤k→kc e j≤kc e k
 |j,0,h=>by rw[Nat.le_zero.1 h];exact xa5 _
 |j,k+1,h=>by
  by_cases c:j=k+1
  ·rw[c];exact xa5 _
  ·have:=qdf (e:=e) (j:=j) (k:=k) Ω
   simp only[kc];omega
theorem qdg{e:Nat→Bool}:∀{n:Nat},(∀j,j<n→e j=false)→kc e n=0
 |0,_=>rfl
 |n+1,h=>by simp only[kc];rw[qdg (n:=n) fun j hj=>h j Ω,h n Ω];rfl
theorem Wn{e e':Nat→Bool}{i:Nat}(he:∀j,j≠i→e' j=e j)(h0:e i=false):∀{n:Nat},kc e' n=kc e n+if i<n∧e' i=true then 1 else 0
 |0=>by simp[kc]
 |n+1=>by
  have ih:=Wn (n:=n) he h0;simp only[kc];rw[ih];by_cases c:n=i
  ·subst c
   rw[h0];by_cases d:e' n=true
   ·simp[d]
   ·simp[d]
  ·rw[he n c]
   by_cases d:e' i=true
   ·simp only[d,and_true]
    by_cases q:i<n
    ·rw[if_pos q,if_pos (Ω:i<n+1)];omega
    ·rw[if_neg q,if_neg (Ω:¬i<n+1)];omega
   ·simp[d]
theorem Vc{f e:Nat→Bool}{i:Nat}(h1:∀j,j<i→f j=e j):∀{n:Nat},i≤n→(∀j,i≤j→j<n→f j=false)→kc f n=kc e i
 |0,h,_=>by rw[Nat.le_zero.1 h];rfl
 |n+1,h,h2=>by
  by_cases c:i=n+1
  ·subst c;exact Zg h1
  ·simp only[kc]
   rw[Vc h1 (n:=n) Ω fun j hj hn=>h2 j hj Ω,h2 n Ω Ω];rfl
theorem wg{D:Nat→Option Tmp}{res:Nat→SV}{S S':Nat→Bool}{F:Nat→SV}{t:Nat}:∀{n:Nat},(∀j,j<n→D j=some t→S j=S' j)→FS D res S F n t=FS D res S' F n t
 |0,_=>rfl
 |n+1,h=>by
  have ih:=wg (F:=F) (res:=res) (n:=n) fun j hj=>h j Ω;simp only[FS];by_cases c:D n=some t
  ·rw[h n Ω c,ih]
  ·rw[if_neg (fun x=>c x.2),if_neg (fun x=>c x.2),ih]
theorem Wo{D:Nat→Option Tmp}{res:Nat→SV}{S:Nat→Bool}{F:Nat→SV}{t i:Nat}:∀{n:Nat},i≤n→(∀x,i≤x→x<n→D x≠some t)→FS D res S F n t=FS D res S F i t
 |0,h,_=>by rw[Nat.le_zero.1 h]
 |n+1,h,hx=>by
  by_cases c:i=n+1
  ·rw[c]
  ·simp only[FS]
   rw[if_neg (fun q=>hx n Ω Ω q.2)];exact Wo Ω fun x h1 h2=>hx x h1 Ω
theorem Wp{D:Nat→Option Tmp}{res:Nat→SV}{S:Nat→Bool}{F:Nat→SV}{t:Nat}:∀{n:Nat},(∀j,j<n→S j=false)→FS D res S F n t=F t
 |0,_=>rfl
 |n+1,h=>by
  simp only[FS];rw[if_neg (fun x=>by rw[h n Ω]at x;cases x.1)];exact Wp fun j hj=>h j Ω
theorem qbD{D:Nat→Option Tmp}{res:Nat→SV}{S S':Nat→Bool}{F:Nat→SV}{t i:Nat}(hS:∀x,S' x=(S x || decide (i=x))):∀{n:Nat},i<n→(∀x,x<n→x≠i→D i=some t→D x≠some t)→FS D res S' F n t=if D i=some t then res i else FS D res S F n t
 |n+1,hi,hd=>by
  have hne:∀x,x≠i→S' x=S x:=fun x hx=>by rw[hS];simp;intro e;exact absurd e.symm hx
  by_cases c:n=i
  ·subst c
   have e1:S' n=true:=by rw[hS];simp
   have e2:FS D res S' F n t=FS D res S F n t:=wg fun j hj _=>hne j Ω;simp only[FS];by_cases d:D n=some t
   ·rw[if_pos ⟨e1,d⟩,if_pos d]
   ·rw[if_neg (fun x=>d x.2),if_neg d,if_neg (fun x=>d x.2),e2]
  ·have ih:=qbD (F:=F) (res:=res) (t:=t) hS (n:=n) Ω fun x hx=>hd x Ω
   simp only[FS];rw[hne n c];by_cases d:S n=true∧D n=some t
   ·have:D i≠some t:=fun e=>hd n Ω c e d.2
    rw[if_pos d,if_neg this,if_pos d]
   ·rw[if_neg d,ih,if_neg d]
def efL(l:List Oper)(i:Nat):Bool:=match l[i]? with|some o=>gE o.op|none=>false
def GU(l:List Oper):Bool:=
 let ms:=zp [] l
 let ds:=dsts l
 gu 0 l&&(List.range l.length).all fun i=>(match l[i]? with
  |some o=>(match o.guard with|none=>true|some (g,_)=>(ms.getD i 0).testBit g&&(nth ds g).isSome)&&Nat.blt (ms.getD i 0) (2^i)&&(List.range l.length).all (fun j=>(match nth ds j with|some t=>!(zM o).contains t ||(ms.getD i 0).testBit j|none=>true)&&(!(Nat.blt j i) ||((!(efL l i&&efL l j) ||(ms.getD i 0).testBit j)&&(match nth ds j,nth ds i with|some t,some u=>!(Nat.beq t u)|_,_=>true))))
  |none=>true)
structure qbE(l:List Oper):Prop where
 edges:gu 0 l=true
 grd:∀(i:Nat)(o:Oper)(g:Nat)(want:Bool),l[i]? = some o→o.guard=some (g,want)→((zp [] l).getD i 0).testBit g=true∧∃t,nth (dsts l) g=some t
 lt:∀i e,i<l.length→((zp [] l).getD i 0).testBit e=true→e<i
 ops:∀(i:Nat)(o:Oper)(t j:Nat),l[i]? = some o→t∈zM o→j<l.length→nth (dsts l) j=some t→((zp [] l).getD i 0).testBit j=true
 chain:∀i j,j<i→i<l.length→efL l i=true→efL l j=true→((zp [] l).getD i 0).testBit j=true
 dist:∀i j t,j<i→i<l.length→nth (dsts l) i=some t→nth (dsts l) j=some t→False
theorem Vd{l:List Oper}(h:GU l=true):qbE l:=by
 simp only[GU,xe6,List.all_eq_true,List.mem_range]at h;obtain⟨h1,h2⟩:=h;have key:∀(i:Nat)(o:Oper),l[i]? = some o→(∀(g:Nat)(want:Bool),o.guard=some (g,want)→((zp [] l).getD i 0).testBit g=true∧∃t,nth (dsts l) g=some t)∧((zp [] l).getD i 0)<2^i∧∀j,j<l.length→(∀t,nth (dsts l) j=some t→t∈zM o→((zp [] l).getD i 0).testBit j=true)∧(j<i→(efL l i=true→efL l j=true→((zp [] l).getD i 0).testBit j=true)∧∀t u,nth (dsts l) j=some t→nth (dsts l) i=some u→t≠u):=by
  intro i o ho;have hi:i<l.length:=(List.getElem?_eq_some_iff.1 ho).1;have h:=h2 i hi;rw[ho]at h;simp only[xe6,List.all_eq_true,List.mem_range]at h;obtain⟨⟨a,b⟩,c⟩:=h;refine⟨fun g want hg=>(by rw[hg]at a;simp only[xe6]at a;exact⟨a.1,Option.isSome_iff_exists.1 a.2⟩),(by have b:=xa7 b;omega),fun j hj=>?_⟩;obtain⟨d,e⟩:=c j hj;refine⟨fun t ht hm=>?_,fun hji=>?_⟩
  ·rw[ht]at d
   simp only[xe8,Bool.not_eq_true']at d;exact d.resolve_left (by simp[hm])
  ·have hb:Nat.blt j i=true:=by simp[Nat.blt];omega
   simp only[hb,Bool.not_true,xf4,xe6]at e;refine⟨fun x y=>by simpa[x,y]using e.1,fun t u ht hu hc=>?_⟩;have:=e.2;rw[ht,hu]at this;simp[hc]at this
 refine⟨h1,fun i o g want ho hg=>(key i o ho).1 g want hg,fun i e hi hb=>?_,fun i o t j ho ht hj hn=>((key i o ho).2.2 j hj).1 t hn ht,fun i j hji hi=>?_,fun i j t hji hi ha hb=>?_⟩
 ·obtain⟨o,ho⟩:∃o,l[i]? = some o:=⟨l[i],by simp[hi]⟩
  have hlt:=(key i o ho).2.1;refine xf9 fun c=>?_;rw[Nat.testBit_lt_two_pow (xa9 hlt (Nat.pow_le_pow_right Ω Ω))]at hb;cases hb
 ·obtain⟨o,ho⟩:∃o,l[i]? = some o:=⟨l[i],by simp[hi]⟩
  exact(((key i o ho).2.2 j Ω).2 hji).1
 ·obtain⟨o,ho⟩:∃o,l[i]? = some o:=⟨l[i],by simp[hi]⟩
  exact(((key i o ho).2.2 j Ω).2 hji).2 t t hb ha rfl
def loC(l:List Oper)(i:Nat):Nat:=kc (fun e=>efL l e&&((zp [] l).getD i 0).testBit e) l.length
def hiC(l:List Oper)(i:Nat):Nat:=kc (fun e=>efL l e&&!((zp [] l).getD e 0).testBit i) l.length
theorem vA{e:Nat→Bool}{Y:Nat→Tr 6 XB}{Z:Nat→Nat}{n:Nat}(hY:∀j,j<n→e j=false→Y (j+1)=Y j∧Z (j+1)=Z j):∀{j k:Nat},j≤k→k≤n→kc e j=kc e k→Y j=Y k∧Z j=Z k
 |j,0,h,_,_=>by rw[Nat.le_zero.1 h];exact⟨rfl,rfl⟩
 |j,k+1,h,hk,he=>by
  by_cases c:j=k+1
  ·rw[c];exact⟨rfl,rfl⟩
  ·have h1:=qdf (e:=e) (Ω:j≤k)
   simp only[kc]at he;have h2:e k=false:=by
    cases q:e k with
    |false=>rfl
    |true=>rw[q,if_pos rfl]at he;omega
   rw[h2]at he;obtain⟨a,b⟩:=vA hY (Ω:j≤k) Ω ΩY;obtain⟨a',b'⟩:=hY k Ω h2;rw[a',b'];exact⟨a,b⟩
theorem gF(st:St)(d:Option Tmp)(s:SV)(t:Nat):look (st.put d s).fr t=if d=some t then s else look st.fr t:=by
 cases d with
 |none=>rw[if_neg (by intro h;cases h)];rfl
 |some d=>
  show look (putFr st.fr d s) t=_;rw[zl];by_cases c:t=d
  ·rw[if_pos c,if_pos (by rw[c])]
  ·rw[if_neg c,if_neg (by intro h;cases h;exact c rfl)]
def Grd(l:List Oper)(G:Nat→SV)(o:Oper)(sk:Bool):Prop:=
 match o.guard with
 |none=>sk=false
 |some (g,want)=>∃t,nth (dsts l) g=some t∧((∃b,G t=.val (.bool b)∧sk = !(b == want))∨((∃vs,G t=.val (.tuple vs))∧sk=true))
def PureAt(P:Program)(F:Nat→SV)(H:List (Nat×Blk))(op:Op)(s:SV):Prop:=
 qnF s (stepR P F H op)∨(qcs op=true∧∀(O:Ctx)(st:St),(∀t,t∈op.operands.toList.filterMap (fun|.tmp t=>some t|_=>none)→look st.fr t=F t)→st.hp=H→OpVC P O op st fun st' res=>st'=st∧res=s)
theorem OpVC.mono{O:Ctx}{op:Op}{st:St}{K K':St→SV→Prop}(h:OpVC P O op st K)(hk:∀st' res,K st' res→K' st' res):OpVC P O op st K':=fun base okc ns r outs a w o ho hi=>by
 obtain⟨v,w',h1,st',r',res,h2,h3⟩:=h base okc ns r outs a w o ho hi;exact⟨v,w',h1,st',r',res,hk _ _ h2,h3⟩
theorem GV{O:Ctx}{ops:List Oper}{o:Oper}{st:St}{K:St→Prop}{sk:Bool}(hg:Grd ops (look st.fr) o sk)
  (hrun:sk=false→∀st1:St,(∀t,look st1.fr t=look st.fr t)→st1.hp=st.hp→st1.nid=st.nid→wq P O True o.op o.dst st1.nid st1 (fun st'=>K ⟨inD o.dst st'.fr,st'.hp,st'.nid+1⟩) (stepR P (look st1.fr) st1.hp o.op)∨(qcs o.op=true∧OpVC P O o.op st1 fun st' res=>K (st'.putI o.dst res)))
  (hskip:sk=true→∀st1:St,(∀t,look st1.fr t=look st.fr t)→st1.hp=st.hp→st1.nid=st.nid→K (st1.putI o.dst undefSV)):opH P O (dsts ops) o st K:=by
 unfold opH zo;unfold Grd at hg;have same:∀(t:Tmp)(b:Bool),look st.fr t=.val (.bool b)→∀u,look (st.put (some t) (.val (.bool b))).fr u=look st.fr u:=fun t b h u=>by
  rw[gF];by_cases c:some t=some u
  ·cases c;rw[if_pos rfl,h]
  ·rw[if_neg c]
 cases e:o.guard with
 |none=>
  rw[e]at hg;exact(hrun hg st (fun _=>rfl) rfl rfl).imp id fun h=>⟨h.1,.inl h.2⟩
 |some p=>
  obtain⟨g,want⟩:=p;rw[e]at hg;obtain⟨t,ht,hc⟩:=hg;dsimp only;rw[ht];dsimp only;rcases hc with⟨b,hb,hs⟩|⟨⟨vs,hb⟩,hs⟩
  ·rw[hb]
   cases want<;>cases b<;>dsimp only
   ·exact⟨fun x=>(by cases x),fun _=>(hrun hs _ (same t false hb) rfl rfl).imp id fun h=>⟨h.1,.inl h.2⟩⟩
   ·exact⟨fun _=>hskip hs _ (same t true hb) rfl rfl,fun x=>by cases x⟩
   ·exact⟨fun x=>(by cases x),fun _=>hskip hs _ (same t false hb) rfl rfl⟩
   ·exact⟨fun _=>(hrun hs _ (same t true hb) rfl rfl).imp id fun h=>⟨h.1,.inl h.2⟩,fun x=>by cases x⟩
  ·rw[hb]
   exact hskip hs _ (fun _=>rfl) rfl rfl
theorem wh(st:St)(d:Option Tmp)(v:SV)(t:Nat):look (st.putI d v).fr t=look (st.put d v).fr t:=by
 cases d with
 |none=>rfl
 |some d=>show look (putIn st.fr d v) t=_;rw[vP];rfl
theorem wi(st:St)(d:Option Tmp)(v:SV):(st.putI d v).hp=st.hp:=by cases d<;>rfl
theorem YQ(hm:P.follows .mixedOrders=true){O:Ctx}{st:St}{K:Ex→St→Prop}{id:Nat}{l:List Oper}{LM:Nat→Option Loop}(hc:qbE l)(res:Nat→SV)(Y:Nat→Tr 6 XB)(Z:Nat→Nat)(G:Nat→SV)(sk:Nat→Bool)
  (hsk:∀i o,l[i]? = some o→Grd l G o (sk i)∧(sk i=true→Y (i+1)=Y i∧(efL l i=true→Z i+l.length≤Z (i+1))∧∀d,o.dst=some d→res i=undefSV))
  (hY:∀j,j<l.length→efL l j=false→Y (j+1)=Y j∧Z (j+1)=Z j) (hG:∀t,G t=FS (nth (dsts l)) res (fun _=>true) (look st.fr) l.length t) (h0:HRel LM (Y 0) st.hp) (hz:st.nid=Z 0)
  (hp:∀i o,l[i]? = some o→sk i=false→efL l i=false→∀j,j≤l.length→loC l i≤kc (efL l) j→kc (efL l) j≤hiC l i→∀(F:Nat→SV)(H:List (Nat×Blk)),(∀t,t∈zM o→F t=G t)→HRel LM (Y j) H→∃s,PureAt P F H o.op s∧∀d,o.dst=some d→s=res i)
  (he:∀i o,l[i]? = some o→sk i=false→efL l i=true→∀st1:St,(∀t,t∈zM o→look st1.fr t=G t)→HRel LM (Y i) st1.hp→st1.nid=Z i+l.length→∀K':St→Prop,(∀st':St,(∀t,look st'.fr t=look (st1.put o.dst (res i)).fr t)→HRel LM (Y (i+1)) st'.hp→st'.nid+1≤Z (i+1)→K' st')→wq P O True o.op o.dst st1.nid st1 K' (stepR P (look st1.fr) st1.hp o.op))
  (hK:∀st':St,(∀t,look st'.fr t=G t)→HRel LM (Y l.length) st'.hp→st'.nid=Z l.length+l.length→K .normal st') {g:Tag K}:j4 P O id l true st K g:=by
 refine Qm hm (fun m st'=>(∀t,look st'.fr t=FS (nth (dsts l)) res (fun i=>m.testBit i) (look st.fr) l.length t)∧∃j,j≤l.length∧kc (efL l) j=kc (fun e=>efL l e&&m.testBit e) l.length∧HRel LM (Y j) st'.hp∧st'.nid≤Z j+kc (fun i=>m.testBit i) l.length) rfl hc.edges (Weak.refl _ _) ?_ ?_ ?_
 ·refine⟨fun t=>(Wp fun j _=>xb3 j).symm,0,xb6 _,?_,h0,Ω⟩
  rw[qdg (n:=l.length) fun j _=>by rw[xb3,Bool.and_false]];rfl
 ·refine we fun i o ho=>?_
  rw[xb0];rintro m st1 ⟨hf,j,hj,hkj,hH,hnid⟩ hcl hbit hanc;have hi:i<l.length:=(List.getElem?_eq_some_iff.1 ho).1;have anc:∀e,((zp [] l).getD i 0).testBit e=true→m.testBit e=true:=fun e h=>hanc e h (by have:=hc.lt i e hi h;omega);have hops:∀t,t∈zM o→look st1.fr t=G t:=fun t ht=>by
   rw[hf,hG];exact wg fun x hx hxt=>anc x (hc.ops i o t x ho ht hx hxt)
  have hdst:nth (dsts l) i=o.dst:=by rw[zc,ho];rfl
  have frs:∀fr:List (Nat×SV),(∀t,look fr t=look (st1.put o.dst (res i)).fr t)→∀t,look fr t=FS (nth (dsts l)) res (fun x=>(m ||| 2^i).testBit x) (look st.fr) l.length t:=fun fr hfr t=>by
   rw[qbD (S:=fun x=>m.testBit x) (i:=i) (fun x=>tb m i x) hi fun x hx hxi h1 h2=>?_,hdst,←hf,hfr,gF];by_cases c:x<i
   ·exact hc.dist i x t c hi h1 h2
   ·exact hc.dist x i t Ω hx h2 h1
  have done:kc (fun x=>(m ||| 2^i).testBit x) l.length=kc (fun x=>m.testBit x) l.length+1:=by
   rw[Wn (e:=fun x=>m.testBit x) (i:=i) (fun x hx=>by show(m ||| 2^i).testBit x=_;rw[tb];simp;intro e;exact absurd e.symm hx) hbit,if_pos ⟨hi,by show(m ||| 2^i).testBit i=true;rw[tb];simp⟩]
  obtain⟨hgrd,hskip⟩:=hsk i o ho;have hgrd:Grd l (look st1.fr) o (sk i):=by
   unfold Grd at hgrd ⊢;cases e:o.guard with
   |none=>rw[e]at hgrd;exact hgrd
   |some p=>
    obtain⟨g,want⟩:=p;rw[e]at hgrd;obtain⟨t,ht,hcc⟩:=hgrd;refine⟨t,ht,?_⟩;have hb:=(hc.grd i o g want ho e).1;have:look st1.fr t=G t:=by
     rw[hf,hG];refine wg fun x hx hxt=>?_;by_cases c:x=g
     ·rw[c];exact anc g hb
     ·exfalso
      have hgl:=hc.lt i g hi hb;by_cases d:x<g
      ·exact hc.dist g x t d Ω ht hxt
      ·exact hc.dist x g t Ω hx hxt ht
    rw[this];exact hcc
  cases q:efL l i with
  |false=>
   refine⟨st1,Weak.refl _ _,?_⟩;have fin:∀(s0:SV)(st2 st3:St),(∀t,look st2.fr t=look st1.fr t)→(∀d,o.dst=some d→s0=res i)→(∀t,look st3.fr t=look (st2.put o.dst s0).fr t)→HRel LM (Y j) st3.hp→st3.nid≤st1.nid+1→∃st4,Weak O st3 st4∧(∀t,look st4.fr t=FS (nth (dsts l)) res (fun x=>(m ||| 2^i).testBit x) (look st.fr) l.length t)∧∃j,j≤l.length∧kc (efL l) j=kc (fun e=>efL l e&&(m ||| 2^i).testBit e) l.length∧HRel LM (Y j) st4.hp∧st4.nid≤Z j+kc (fun x=>(m ||| 2^i).testBit x) l.length:=by
    intro s0 st2 st3 h2 hs0 h3 hH3 hn3;refine⟨st3,Weak.refl _ _,frs _ fun t=>?_,j,hj,?_,hH3,?_⟩
    ·rw[h3,gF,gF,h2]
     by_cases c:o.dst=some t
     ·rw[if_pos c,if_pos c,hs0 t c]
     ·rw[if_neg c,if_neg c]
    ·rw[hkj]
     refine Zg fun e _=>?_;rw[tb];by_cases c:i=e
     ·subst c;rw[q];rfl
     ·simp[c]
    ·rw[done];omega
   refine GV hgrd (fun hs st2 h2 h2h h2n=>?_) (fun hs st2 h2 h2h h2n=>?_)
   ·obtain⟨s0,h1,hs0⟩:=hp i o ho hs q j hj (by
     rw[hkj];refine Wm fun e _ h=>?_;rw[xe6]at h ⊢;exact⟨h.1,anc e h.2⟩) (by
     rw[hkj];refine Wm fun e _ h=>?_;rw[xe6]at h ⊢;refine⟨h.1,?_⟩;cases c:((zp [] l).getD e 0).testBit i with
     |false=>rfl
     |true=>rw[hcl e i c h.2]at hbit;cases hbit) (look st2.fr) st2.hp (fun t ht=>by rw[h2,hops t ht]) (by rw[h2h];exact hH)
    have f2:=fin s0 st2 ⟨inD o.dst (st2.put o.dst s0).fr,(st2.put o.dst s0).hp,(st2.put o.dst s0).nid+1⟩ h2 hs0 (fun t=>gt _ _ _) (by rw[zm,h2h];exact hH) (by rw[qx];show st2.nid+1≤_;omega);rcases h1 with(⟨obl,e,h⟩|⟨obl,e,h⟩)|⟨hnd,h⟩
    ·rw[e];exact .inl ⟨h,f2⟩
    ·rw[e];exact .inl ⟨_,h,f2⟩
    ·refine .inr ⟨hnd,(h O st2 (fun t _=>rfl) rfl).mono ?_⟩
     rintro st' res' ⟨rfl,rfl⟩;exact fin _ st' _ h2 hs0 (fun t=>wh _ _ _ _) (by rw[wi,h2h];exact hH) (by rw[kC];omega)
   ·exact fin undefSV st2 _ h2 (fun d hd=>((hskip hs).2.2 d hd).symm) (fun t=>wh _ _ _ _) (by rw[wi,h2h];exact hH) (by rw[kC];omega)
  |true=>
   have hks:kc (fun e=>efL l e&&m.testBit e) l.length=kc (efL l) i:=by
    refine Vc (fun e hei=>?_) Ω fun e hie hen=>?_
    ·show(efL l e&&m.testBit e)=efL l e
     cases c:efL l e with
     |false=>rfl
     |true=>rw[anc e (hc.chain i e hei hi q c)];rfl
    ·show(efL l e&&m.testBit e)=false
     cases c:efL l e with
     |false=>rfl
     |true=>
      cases d:m.testBit e with
      |false=>rfl
      |true=>
       by_cases x:e=i
       ·rw[x]at d;rw[d]at hbit;cases hbit
       ·rw[hcl e i (hc.chain e i Ω hen c q) d]at hbit;cases hbit
   have hst:Y j=Y i∧Z j=Z i:=by
    rw[hks]at hkj;by_cases c:j≤i
    ·exact vA hY c Ω hkj
    ·have:=vA hY (Ω:i≤j) hj hkj.symm
     exact⟨this.1.symm,this.2.symm⟩
   have fin:∀st3:St,(∀t,look st3.fr t=look (st1.put o.dst (res i)).fr t)→HRel LM (Y (i+1)) st3.hp→st3.nid≤Z (i+1)→∃st4,Weak O st3 st4∧(∀t,look st4.fr t=FS (nth (dsts l)) res (fun x=>(m ||| 2^i).testBit x) (look st.fr) l.length t)∧∃j,j≤l.length∧kc (efL l) j=kc (fun e=>efL l e&&(m ||| 2^i).testBit e) l.length∧HRel LM (Y j) st4.hp∧st4.nid≤Z j+kc (fun x=>(m ||| 2^i).testBit x) l.length:=by
    intro st3 h3 hH3 hn3;refine⟨st3,Weak.refl _ _,frs _ h3,i+1,hi,?_,hH3,Ω⟩;have k2:=Wn (e:=fun e=>efL l e&&m.testBit e) (e':=fun e=>efL l e&&(m ||| 2^i).testBit e) (i:=i) (fun e hei=>by
     show(efL l e&&(m ||| 2^i).testBit e)=(efL l e&&m.testBit e);rw[tb,decide_eq_false (fun x=>hei x.symm),xf3]) (by show(efL l i&&m.testBit i)=false;rw[hbit,Bool.and_false]) (n:=l.length)
    rw[k2,if_pos ⟨hi,by show(efL l i&&(m ||| 2^i).testBit i)=true;rw[tb];simp[q]⟩,hks];simp[kc,q]
   refine⟨{ st1 with nid:=Z i+l.length },ZR _ _ _ (by have:=qde (e:=fun x=>m.testBit x) (n:=l.length);rw[hst.2]at hnid;omega),?_⟩;refine GV (st:={ st1 with nid:=Z i+l.length }) hgrd (fun hs st2 h2 h2h h2n=>?_) (fun hs st2 h2 h2h h2n=>?_)
   ·refine .inl (he i o ho hs q st2 (fun t ht=>by rw[h2];exact hops t ht) (by rw[h2h,←hst.1];exact hH) h2n _ fun st' hf' hH' hn'=>?_)
    exact fin _ (fun t=>by rw[gt,hf',gF,gF,h2]) hH' hn'
   ·obtain⟨k1,k2,k3⟩:=hskip hs
    refine fin _ (fun t=>?_) (by rw[wi,h2h,k1,←hst.1];exact hH) (by rw[kC,h2n];exact k2 q);rw[wh,gF,gF,h2];by_cases c:o.dst=some t
    ·rw[if_pos c,if_pos c,k3 t c]
    ·rw[if_neg c,if_neg c]
 ·rintro m st1 ⟨hf,j,hj,hkj,hH,hnid⟩ hall
  have hk:kc (efL l) j=kc (efL l) l.length:=by
   rw[hkj];exact Zg fun e he=>by rw[hall e he,xf1]
  obtain⟨h1,h2⟩:=vA hY hj (xa5 _) hk;have:=qde (e:=fun i=>m.testBit i) (n:=l.length);refine⟨{ st1 with nid:=Z l.length+l.length },ZR _ _ _ (by rw[h2]at hnid;omega),hK _ (fun t=>?_) (by rw[←h1];exact hH) rfl⟩;show look st1.fr t=_;rw[hf,hG];exact wg fun x hx _=>hall x hx
theorem Wq{α:Type}:∀{l m:List α},l.Nodup→(∀x,x∈l→x∈m)→l.length≤m.length
 |[],m,_,_=>xb6 _
 |a :: l,m,hn,h=>by
  obtain⟨m1,m2,rfl⟩:=List.append_of_mem (h a xd5);rw[List.nodup_cons]at hn;have:=Wq (m:=m1++m2) hn.2 fun x hx=>by
   have:=h x (List.mem_cons_of_mem _ hx);rw[xd4,List.mem_cons]at this;rw[xd4];rcases this with h1|rfl|h1
   ·exact .inl h1
   ·exact absurd hx hn.1
   ·exact .inr h1
  simp at this ⊢;omega
theorem Ve{O:Ctx}{t:TypeId}{x:Operand}{id:Nat}{fit dom:Value→Bool}{get:Value→SV}{st:St}{mi:jP}(ht:qI P t=some mi)(hx:env (look st.fr) x=.mp id)(hb:blk st.hp id=some (.map fit dom get)){L:List Value}(hn:L.Nodup)(hL:∀k,dom k=true↔k∈L) :
  OpVC P O (.call ⟨.builtin .len,#[x],#[t]⟩) st fun st' res=>st'=st∧res=.val (.int .i64 (.ofNat L.length)):=by
 intro base okc ns r outs a w o ho hi;have hu:=hi.env x;rw[hx]at hu;generalize hex:a.eval x=u at hu;cases hu with
 |mp _ b hN hr=>
  have hrep:=hi.sat.rep _ _ hb hN;rw[hr]at hrep;cases hrep with
  |map _ _ _ _ es clock hw hm hbn hes=>
   have hk:∃kt et,P.underlying t=some (.map kt et):=by
    unfold qI at ht;split at ht
    ·exact⟨_,_,(by assumption)⟩
    ·cases ht
   obtain⟨kt,et,hk⟩:=hk;have hnk:(es.toList.map (·.key)).Nodup:=by
    refine List.pairwise_iff_getElem.2 fun i j hi' hj hij he=>?_;simp only[List.getElem_map]at he;rw[xe1]at hi' hj;have:=hm.once i j es.toList[i] es.toList[j] (by rw[←xf6,xc7]) (by rw[←xf6,xc7]) he;omega
   have hmem:∀k,k∈es.toList.map (·.key)↔k∈L:=fun k=>by
    rw[←hL,List.mem_map];constructor
    ·rintro⟨e,he,rfl⟩;exact hm.doms e (Array.mem_toList_iff.1 he)
    ·intro h
     obtain⟨e,he,hke⟩:=hm.has k h;exact⟨e,Array.mem_toList_iff.2 he,hke⟩
   have hlen:es.size=L.length:=by
    have h1:=Wq hnk fun k hk=>(hmem k).1 hk;have h2:=Wq hn fun k hk=>(hmem k).2 hk;have h3:=xf7 (xs:=es);rw[xe1]at h1 h2;omega
   refine⟨.int .i64 (.ofNat L.length),w,?_,st,r,_,⟨rfl,rfl⟩,xa5 _,hi,.val _⟩;obtain⟨dst,op,type,pos,aft,guard⟩:=o;simp only[]at ho;subst ho;have hobj:(getObj b).run P w=.ok (.map es clock) w:=by simp[getObj,Sem.run,hw]
   simp[execOp,Go.resolve,Go.invoke,Go.builtin,hex,Builtin.len_,run_underlying hk,hobj,goInt,hlen]
end
end Go.Sx
end
section
namespace Go.Tn
open Go.Proofs
open Go.Sx
theorem weakSU{O:Ctx}{fr fr':List (Nat×SV)}{hp hp':List (Nat×Blk)}{nid nid':Nat}(hn:nid≤nid')(hf:qX fr fr')(hh:SubHp hp hp'):Weak O ⟨fr,hp,nid⟩ ⟨fr',hp',nid'⟩:=
 Weak.trans (ZR O ⟨fr,hp,nid⟩ nid' hn) (j5 hf hh)
def mxF(rw:Nat→Int)(to:Nat→Nat):Nat→Int
 |0=>0
 |j+1=>max (mxF rw to j) (rw (to j)+1)
theorem GW(rw:Nat→Int)(to:Nat→Nat)(j:Nat):mxF rw to (j+1)=max (mxF rw to j) (rw (to j)+1):=rfl
theorem qmv{rw:Nat→Int}{to:Nat→Nat}{X:Int}(hX:0≤X){m:Nat}(h:∀j,j<m→-1≤rw (to j)∧rw (to j)<X):0≤mxF rw to m∧mxF rw to m≤X:=by
 induction m with
 |zero=>exact⟨Int.le_refl _,hX⟩
 |succ m ih=>
  have⟨h1,h2⟩:=ih fun j hj=>h j Ω;have⟨h3,h4⟩:=h m Ω;rw[GW];omega
theorem qnL(H:List (Nat×Blk))(id tb xid rid mid N i m:Nat)(A Z:SV)(nx row:Nat→Nat→SV)(rw:Nat→Int)(to:Nat→Nat)
  (hN:N≤100000) (hi:i<N) (hm:m≤100) (hb:blk H tb=some (.cells 253 [A,Z,.vec xid N 1,.vec rid N 1,.mp mid])) (hx:blk H xid=some (.rows 22 1 N nx)) (hr:blk H rid=some (.rows 3 1 N row))
  (hrow:∀i,i<N→row i 0=.val (.int .i64 (rw i))) (hrw:∀i,i<N→-1≤rw i∧rw i<1000000) (hto:∀j,j<m→to j<N)
  (hnx:(m=0∧nx i 0=.val (.slice none 0 0))∨∃xi r,nx i 0=.vec xi m 1∧blk H xi=some (.rows 3 1 m r)∧∀j,j<m→r j 0=.val (.int .i64 (to j:Nat))) :
  EffVC Tryz.prog 278 [.ptr tb 0,.val (.int .i64 (i:Nat))] H id (fun hp' nid' res=>hp'=H∧id≤nid'∧nid'≤id+100*(m+2)∧
   (((∀j,j<m→0≤rw (to j))∧res=.tup [I (mxF rw to m),B true])∨((∃j,j<m∧rw (to j)<0)∧res=.tup [I 0,B false]))):=by
 refine vb follows Tryz.func278 rfl Ωd Ωd (by rw[Tryz.ntmps278];simp) fun out=>?_;rcases hnx with⟨rfl,hNx⟩|⟨xi,r,hNx,hxi,hr1⟩
 ·(repeat' (first|refine sD ?_ ?_<;>intro _|refine aA ?_|(simp -dsimp only[↓RP,RQ,xa0,reduceIte,reduceCtorEq,xa1,xa2,xa3,xa4,hb,hx,hr,hNx,QS,QT,QN])))
  all_goals try exact Ωb
  refine qn (fun(z:Unit)=>True) (fun _=>⟨[(0,.ptr tb 0),(6,.val (.int .i64 0)),(16,.val (.int .i64 0)),(17,.val (.int .i64 0))],H,id+50⟩) (fun _=>0) () trivial (weakSU Ω Ωf (SubHp.refl _)) fun z hz=>?_;(repeat' (first|refine sD ?_ ?_<;>intro _|refine aA ?_|(simp -dsimp only[↓RP,RQ,xa0,reduceIte,reduceCtorEq,xa1,xa2,xa3,xa4,hb,hx,hr,hNx,QS,QT,QN])))
  all_goals try exact Ωb
  refine⟨_,_,_,j5 (fr':=[(0,_)]) ⟨.inr rfl,trivial⟩ (SubHp.refl _),rfl,Ω,Ω,.inl ⟨fun j hj=>by omega,rfl⟩⟩
 ·have hW:True:=trivial
  (repeat' (first|refine sD ?_ ?_<;>intro _|refine aA ?_|(simp -dsimp only[↓RP,RQ,xa0,reduceIte,reduceCtorEq,xa1,xa2,xa3,xa4,hb,hx,hr,hNx,QS,QT,QN])))
  all_goals try exact Ωb
  refine qn (fun(j:Nat)=>j≤m∧∀k,k<j→0≤rw (to k)) (fun j=>⟨[(0,.ptr tb 0),(6,.val (.int .i64 (mxF rw to j))),(15,.vec xi m 1),(16,.val (.int .i64 (m:Nat))),(17,.val (.int .i64 (j:Nat)))],H,id+50+50*j⟩) (fun j=>m - j) 0 ⟨xb6 _,fun k hk=>by omega⟩ (weakSU Ω (by simp[qX,Go.Sx.look,mxF]) (SubHp.refl _)) fun j hj=>?_;obtain⟨hj,hk⟩:=hj;by_cases hjm:j<m
  ·have hrj:=hr1 j hjm
   have htj:=hto j hjm;have hrt:=hrow (to j) htj;have hrb:=hrw (to j) htj;have⟨hM0,hM1⟩:=qmv (rw:=rw) (to:=to) (X:=1000000) Ω (m:=j) fun k hk'=>hrw _ (hto k Ω);have hlt:=decide_eq_true (Ω:((j:Nat):Int)<(m:Nat));by_cases hneg:rw (to j)<0
   ·have hd:=decide_eq_true hneg
    (repeat' (first|refine sD ?_ ?_<;>intro _|refine aA ?_|(simp -dsimp only[↓RP,RQ,xa0,reduceIte,reduceCtorEq,xa1,xa2,xa3,xa4,hlt,hxi,hrj,hrt,hd,hb,hx,hr,hNx,QS,QT,QN])))
    all_goals try exact Ωb
    refine⟨_,_,_,j5 (fr':=[(0,_)]) ⟨.inr rfl,trivial⟩ (SubHp.refl _),rfl,Ω,Ω,.inr ⟨⟨j,hjm,hneg⟩,rfl⟩⟩
   ·have hd:=decide_eq_false hneg
    have hmx:max (mxF rw to j) (rw (to j)+1)=mxF rw to (j+1):=(GW rw to j).symm;(repeat' (first|refine sD ?_ ?_<;>intro _|refine aA ?_|(simp -dsimp only[↓RP,RQ,xa0,reduceIte,reduceCtorEq,xa1,xa2,xa3,xa4,hlt,hxi,hrj,hrt,hd,hmx,hb,hx,hr,hNx,QS,QT,QN])))
    all_goals try exact Ωb
    refine⟨j+1,⟨hjm,fun k hk'=>?_⟩,Ω,weakSU Ω Ωf (SubHp.refl _)⟩;rcases Nat.lt_succ_iff_lt_or_eq.1 hk' with h|rfl
    ·exact hk k h
    ·omega
  ·obtain rfl:j=m:=by omega
   have hlt:=decide_eq_false (Ω:¬((j:Nat):Int)<(j:Nat));(repeat' (first|refine sD ?_ ?_<;>intro _|refine aA ?_|(simp -dsimp only[↓RP,RQ,xa0,reduceIte,reduceCtorEq,xa1,xa2,xa3,xa4,hlt,hb,hx,hr,hNx,QS,QT,QN])))
   all_goals try exact Ωb
   refine⟨_,_,_,j5 (fr':=[(0,_)]) ⟨.inr rfl,trivial⟩ (SubHp.refl _),rfl,Ω,Ω,.inl ⟨hk,rfl⟩⟩
end Go.Tn
end
section
namespace Go.Tn
open Go.Sx
structure Fx(N:Nat)(len:Nat→Nat)(to:Nat→Nat→Nat)(F:Nat→Int):Prop where
 lo:∀i,i<N→-1≤F i
 hi:∀i,i<N→F i<1000000
 inn:∀i j,i<N→j<len i→to i j<N
 ok:∀i,i<N→(0≤F i↔∀j,j<len i→0≤F (to i j))
 eq:∀i,i<N→0≤F i→F i=mxF F (to i) (len i)
theorem qhJ{F:Nat→Int}{to:Nat→Nat}{m j:Nat}(h:j<m):F (to j)+1≤mxF F to m:=by
 induction m with
 |zero=>omega
 |succ m ih=>
  rw[GW];rcases Nat.lt_succ_iff_lt_or_eq.1 h with h|rfl
  ·have:=ih h;omega
  ·omega
theorem qfh{F G:Nat→Int}{to:Nat→Nat}{m:Nat}(h:∀j,j<m→F (to j)=G (to j)):mxF F to m=mxF G to m:=by
 induction m with
 |zero=>rfl
 |succ m ih=>rw[GW,GW,h m Ω,ih fun j hj=>h j Ω]
def Rw(N:Nat)(F rw:Nat→Int):Prop:=∀i,i<N→rw i=F i∨rw i = -1
theorem Fx.set{N:Nat}{len:Nat→Nat}{to:Nat→Nat→Nat}{F rw:Nat→Int}(h:Fx N len to F)(hr:Rw N F rw){i:Nat}(hi:i<N)(hk:∀j,j<len i→0≤rw (to i j)):0≤F i∧mxF rw (to i) (len i)=F i:=by
 have e:∀j,j<len i→rw (to i j)=F (to i j):=fun j hj=>by
  rcases hr _ (h.inn i j hi hj)with e|e
  ·exact e
  ·have:=hk j hj;omega
 have h0:0≤F i:=(h.ok i hi).2 fun j hj=>by rw[←e j hj];exact hk j hj
 exact⟨h0,by rw[qfh e,←h.eq i hi h0]⟩
theorem Fx.fin{N:Nat}{len:Nat→Nat}{to:Nat→Nat→Nat}{F rw:Nat→Int}(h:Fx N len to F)(hr:Rw N F rw)(hk:∀i,i<N→rw i<0→∃j,j<len i∧rw (to i j)<0):∀(n i:Nat),i<N→F i<n→rw i=F i:=by
 intro n
 induction n with
 |zero=>intro i hi hf;have:=h.lo i hi;rcases hr i hi with e|e<;>omega
 |succ n ih=>
  intro i hi hf;rcases hr i hi with e|e
  ·exact e
  ·by_cases h0:0≤F i
   ·obtain⟨j,hj,hn⟩:=hk i hi Ω
    have h1:=(h.ok i hi).1 h0 j hj;have h2:=qhJ (F:=F) (to:=to i) hj;rw[←h.eq i hi h0]at h2;have:=ih (to i j) (h.inn i j hi hj) Ω;omega
   ·have:=h.lo i hi;omega
def yM(rw:Nat→Int)(i:Nat)(x:Int):Nat→Int:=fun k=>if k=i then x else rw k
def cnt(rw:Nat→Int):Nat→Nat
 |0=>0
 |n+1=>cnt rw n+if rw n<0 then 1 else 0
theorem GX(rw:Nat→Int):∀n,cnt rw n≤n
 |0=>xa5 _
 |n+1=>by have:=GX rw n;simp only[cnt];split<;>omega
theorem qdh{rw:Nat→Int}{i:Nat}{x:Int}:∀{n},n≤i→cnt (yM rw i x) n=cnt rw n
 |0,_=>rfl
 |n+1,h=>by
  have:=qdh (rw:=rw) (x:=x) (n:=n) (i:=i) Ω;have e:yM rw i x n=rw n:=by unfold yM;rw[if_neg Ω]
  simp only[cnt,this,e]
theorem gv{rw:Nat→Int}{i:Nat}{x:Int}(h0:rw i<0)(hx:0≤x):∀{n},i<n→cnt (yM rw i x) n+1=cnt rw n
 |0,h=>by omega
 |n+1,h=>by
  rcases Nat.lt_succ_iff_lt_or_eq.1 h with h|rfl
  ·have:=gv h0 hx h
   have e:yM rw i x n=rw n:=by unfold yM;rw[if_neg Ω]
   simp only[cnt,e];omega
  ·have:=qdh (rw:=rw) (x:=x) (xa5 i)
   have e:yM rw i x i=x:=by unfold yM;rw[if_pos rfl]
   simp only[cnt,this,e];rw[if_pos h0,if_neg Ω]
def kp(f:Nat→Int)(n:Nat):Value:=.agg #[.int .i64 (f 0),.int .i64 (f 1),.int .i64 (f 2),.int .i64 (f 3),.int .i64 (f 4),.int .i64 (n:Nat)]
def kpL(f:Nat→Int)(n:Nat):List SV:=[.val (.int .i64 (f 0)),.val (.int .i64 (f 1)),.val (.int .i64 (f 2)),.val (.int .i64 (f 3)),.val (.int .i64 (f 4)),.val (.int .i64 (n:Nat))]
abbrev kfP:Value→Bool:=qm true [Lf.i .i64,Lf.i .i64,Lf.i .i64,Lf.i .i64,Lf.i .i64,Lf.i .i64]
def zN(v:Value):Nat:=match v with
 |.agg c=>(match c.toList with
  |[_,_,_,_,_,.int _ n]=>n.toNat
  |_=>0)
 |_=>0
theorem wj(f:Nat→Int)(n:Nat):zN (kp f n)=n:=rfl
theorem eqK_kp{f:Nat→Int}{n:Nat}{v:Value}:eqK (kp f n) v=true↔v=kp f n:=by
 constructor
 ·intro h;exact(ke h).symm
 ·rintro rfl;simp[eqK,kp,vk,yH]
def kc(v:Value)(j:Nat):SV:=match v with
 |.agg c=>.val (c.toList.getD j undef)
 |_=>.top
theorem qhK(f:Nat→Int)(n:Nat):kc (kp f n) 0=.val (.int .i64 (f 0))∧kc (kp f n) 1=.val (.int .i64 (f 1))∧kc (kp f n) 2=.val (.int .i64 (f 2))∧kc (kp f n) 3=.val (.int .i64 (f 3))∧kc (kp f n) 4=.val (.int .i64 (f 4))∧kc (kp f n) 5=.val (.int .i64 (n:Nat)):=⟨rfl,rfl,rfl,rfl,rfl,rfl⟩
theorem qmw{O:Ctx}{fr:List (Nat×SV)}{hp:List (Nat×Blk)}{nid mid:Nat}{fit dom dom':Value→Bool}{get:Value→SV}{st:Value→Nat}{c:Nat}(hb:blk hp mid=some (.mapS fit dom get st c))(hd:∀v,dom' v=dom v):Weak O ⟨fr,hp,nid⟩ ⟨fr,setBlk hp mid (.map fit dom' get),nid⟩:=by
 obtain rfl:dom'=dom:=funext hd;rintro base okc ns outs a w ⟨r,h⟩;have hs:Step base okc r (· < nid) hp w r (· < nid) (setBlk hp mid (.map fit dom' get)) w:=h.sat.same hb fun G' hG' hN=>by
  have hrep:=h.sat.rep mid _ hb hN;cases hr:r mid with
  |none=>rw[hr]at hrep;cases hrep
  |some b=>
   rw[hr]at hrep;cases hrep with
   |mapS _ _ _ _ _ es clock hb' hmo htm hst hes=>
    exact .map fit dom' get b es _ hb' hmo htm fun e he=>(hes e he).mono (fun _ _=>rfl) (fun _ h=>h) (fun o c hc=>⟨hG' o c hc,rfl⟩) (Shapes.refl w)
 exact⟨r,h.step hs (fun id x hx=>by
  rw[qp]at hx;split at hx
  ·rename_i e;subst e;exact h.keys _ _ hb
  ·exact h.keys id x hx) (xa5 _) (d:=none) (fun t ht=>by cases ht) (.val undef)⟩
theorem nmA{a n:Nat}(h:a<n):(∀k,(a=n+k)=False)∧(∀k,(n+k=a)=False)∧(a=n)=False∧(n=a)=False:=
 ⟨fun k=>by rw[eq_iff_iff,iff_false];omega,fun k=>by rw[eq_iff_iff,iff_false];omega,by rw[eq_iff_iff,iff_false];omega,by rw[eq_iff_iff,iff_false];omega⟩
theorem nmE{a b:Nat}(h:a≠b):(a=b)=False∧(b=a)=False:=⟨by simp[h],by simp[Ne.symm h]⟩
theorem wk{α:Type}{l:List α}{s:α}(h:l.Nodup)(hs:s∉l):(l++[s]).Nodup:=by
 rw[List.nodup_append];exact⟨h,Ωh,fun a ha b hb=>by simp at hb;subst hb;exact fun e=>hs (e▸ha)⟩
theorem yB:∀(n:Nat)(l:List Nat),l.Nodup→(∀s,s∈l→s<n)→l.length≤n
 |0,l,_,h=>by
  cases l with
  |nil=>exact xa5 _
  |cons a l=>have:=h a xd5;omega
 |n+1,l,hn,h=>by
  by_cases hm:n∈l
  ·have h1:=yB n (l.erase n) (hn.erase n) fun s hs=>by
    have h2:=(List.Nodup.mem_erase_iff hn).1 hs;have:=h s h2.2;omega
   rw[List.length_erase_of_mem hm]at h1;omega
  ·have:=yB n l hn fun s hs=>by
    have:=h s hs;have:s≠n:=fun e=>hm (e▸hs);omega
   omega
theorem Vf{l:List Value}(h:l.Nodup){g:Value→Nat}(hi:∀a b,a∈l→b∈l→g a=g b→a=b):(l.map g).Nodup:=by
 induction l with
 |nil=>exact List.nodup_nil
 |cons a l ih=>
  rw[List.nodup_cons]at h;rw[List.map_cons,List.nodup_cons];refine⟨fun hm=>?_,ih h.2 fun x y hx hy=>hi x y (List.mem_cons_of_mem _ hx) (List.mem_cons_of_mem _ hy)⟩;obtain⟨x,hx,e⟩:=List.mem_map.1 hm;have:=hi x a (List.mem_cons_of_mem _ hx) xd5 e;subst this;exact h.1 hx
theorem zf{l:List (Nat×Blk)}{j:Nat}(h:blk l j=none):dropBlk l j=l:=by
 induction l with
 |nil=>rfl
 |cons p l ih=>
  obtain⟨i,b⟩:=p;simp only[blk]at h;split at h
  ·cases h
  ·rename_i hne
   simp only[dropBlk];rw[if_neg hne,ih h]
end Go.Tn
end
section
namespace Go.Tn
open Go.Proofs
open Go.Sx
theorem KG{l:List (Nat×Blk)}{i:Nat}{b c:Blk}:setBlk (setBlk l i b) i c=setBlk l i c:=by
 induction l with
 |nil=>simp[setBlk]
 |cons p l ih=>
  obtain⟨j,x⟩:=p;simp only[setBlk];split
  iterate 2 focus simp[setBlk, *]
theorem qdi{l:List (Nat×Blk)}{i:Nat}{b x:Blk}(h:blk l i=some x):blk (setBlk l i b) i=some b:=by
 rw[qp,if_pos rfl,h];rfl
theorem qhL{l:List (Nat×Blk)}{i:Nat}{x:Blk}(h:blk l i=some x):setBlk l i x=l:=by
 induction l with
 |nil=>cases h
 |cons p l ih=>
  obtain⟨j,y⟩:=p;simp only[blk]at h;simp only[setBlk];split at h
  ·rename_i e
   cases h;simp[e]
  ·rename_i e
   simp[e,ih h]
def ROK(n i m:Nat)(row r:Nat→Nat→SV):Prop:=∀k,k<n→r k 0=if k<i∨m<k then row (n - 1 - k) 0 else row k 0
theorem qnM(H:List (Nat×Blk))(id oid n:Nat)(row:Nat→Nat→SV)(hn:0<n)(hn2:n≤100000)(hb:blk H oid=some (.rows 3 1 n row))(hone:∀i,i<n→∃x:Int,row i 0=.val (.int .i64 x)) :
  EffVC Tryz.prog 279 [.vec oid n 1] H id (fun hp' nid' res=>id≤nid'∧nid'≤id+50*(n+1)∧res=.tup []∧∃r,(∀k,k<n→r k 0=row (n - 1 - k) 0)∧hp'=setBlk H oid (.rows 3 1 n r)):=by
 refine vb follows Tryz.func279 rfl Ωd Ωd (by rw[Tryz.ntmps279];simp) fun out=>?_;have eH:∀b,blk (setBlk H oid b) oid=some b:=fun b=>qdi hb;have hW:True:=trivial;(repeat' (first|refine sD ?_ ?_<;>intro _|refine aA ?_|(simp -dsimp only[↓RP,RQ,xa0,reduceIte,reduceCtorEq,xa1,xa2,xa3,xa4,hb,QS,KG,QT,QN])))
 all_goals try exact Ωb
 refine qn (fun(z:Nat×Nat×(Nat→Nat→SV))=>z.1+z.2.1+1=n∧z.1≤z.2.1+1∧ROK n z.1 z.2.1 row z.2.2) (fun z=>⟨[(0,.vec oid n 1),(2,.val (.int .i64 (z.1:Nat))),(3,.val (.int .i64 (z.2.1:Nat)))],setBlk H oid (.rows 3 1 n z.2.2),id+10+30*z.1⟩) (fun z=>n - z.1) (0,n - 1,row) ⟨by simp only[];omega,by simp only[];omega,fun k hk=>by rw[if_neg (by simp only[];omega)]⟩ (by rw[qhL hb];exact weakSU Ω (by simp[qX,Go.Sx.look];omega) (SubHp.refl _)) fun z hz=>?_;obtain⟨i,m,r⟩:=z;obtain⟨z1,z2,z3⟩:=hz;simp only[]at z1 z2 z3;have one:∀k,k<n→∃x:Int,r k 0=.val (.int .i64 x):=fun k hk=>by
  rw[z3 k hk];split
  ·exact hone _ Ω
  ·exact hone _ hk
 by_cases hlt:i<m
 ·have h1:=decide_eq_true (Ω:((i:Nat):Int)<(m:Nat))
  obtain⟨x,hx⟩:=one i Ω;obtain⟨y,hy⟩:=one m Ω;(repeat' (first|refine sD ?_ ?_<;>intro _|refine aA ?_|(simp -dsimp only[↓RP,RQ,xa0,reduceIte,reduceCtorEq,xa1,xa2,xa3,xa4,h1,eH,hx,hy,QS,KG,QT,QN])))
  all_goals try exact Ωb
  refine⟨(i+1,m - 1,_),⟨?_,?_,?_⟩,?_,weakSU (?_) (by simp[qX,Go.Sx.look];omega) (SubHp.refl _)⟩
  iterate 2 focus(simp only[];omega)
  ·intro k hk
   show(if k=m∧0=0 then SV.val (.int .i64 x)else if k=i∧0=0 then SV.val (.int .i64 y)else r k 0)=if k<i+1∨m - 1<k then row (n - 1 - k) 0 else row k 0
   by_cases e1:k=m
   ·rw[if_pos ⟨e1,rfl⟩,if_pos Ω,e1,←hx,z3 i Ω,if_neg Ω,show n - 1 - m=i by omega]
   ·rw[if_neg (fun e=>e1 e.1)]
    by_cases e2:k=i
    ·rw[if_pos ⟨e2,rfl⟩,if_pos Ω,e2,←hy,z3 m Ω,if_neg Ω,show n - 1 - i=m by omega]
    ·rw[if_neg (fun e=>e2 e.1),z3 k hk]
     by_cases e3:k<i∨m<k
     ·rw[if_pos e3,if_pos Ω]
     ·rw[if_neg e3,if_neg Ω]
  iterate 2 focus(simp only[];omega)
 ·have h1:=decide_eq_false (Ω:¬((i:Nat):Int)<(m:Nat))
  (repeat' (first|refine sD ?_ ?_<;>intro _|refine aA ?_|(simp -dsimp only[↓RP,RQ,xa0,reduceIte,reduceCtorEq,xa1,xa2,xa3,xa4,h1,eH,QS,KG,QT,QN])))
  all_goals try exact Ωb
  refine⟨_,_,_,weakSU (nid':=id+50*(n+1)) Ω (fr':=[(0,_)]) ⟨.inr rfl,trivial⟩ (SubHp.refl _),Ω,Ω,rfl,r,fun k hk=>?_,rfl⟩;rw[z3 k hk];split
  ·rfl
  ·rw[show n - 1 - k=k by omega]
def Vg(by':Nat→Nat)(N start:Nat):Nat→Nat→List Nat→Option (List Nat)
 |0,_,_=>none
 |f+1,at',acc=>if 0<by' at'∧at'<N then(if (by' at' - 1) / 5=start then some (acc++[(by' at' - 1) % 5])else Vg by' N start f ((by' at' - 1) / 5) (acc++[(by' at' - 1) % 5]))else none
def qbF(l:List Nat)(r:Nat→Nat→SV):Prop:=∀i,i<l.length→r i 0=.val (.int .i64 (l.getD i 0:Nat))
def stB(tb oid byid N start:Nat)(H:List (Nat×Blk))(id c at':Nat)(acc:List Nat)(r:Nat→Nat→SV):St:=
 match acc with
 |[]=>⟨[(0,.ptr tb 0),(1,.vec byid N 1),(2,.val (.int .i64 (start:Nat))),(7,.val (.slice none 0 0)),(8,.val (.int .i64 (at':Nat)))],H,id+10+50*c⟩
 |_ :: l=>⟨[(0,.ptr tb 0),(1,.vec byid N 1),(2,.val (.int .i64 (start:Nat))),(7,.vec oid (l.length+1) 1),(8,.val (.int .i64 (at':Nat)))],(oid,.rows 3 1 (l.length+1) r) :: H,id+10+50*c⟩
theorem qoB(H:List (Nat×Blk))(id tb byid N start fuel:Nat)(by':Nat→Nat)(row:Nat→Nat→SV)(res0:List Nat)(hN:N≤100000)(hU:Under H id)(hfu:fuel≤100000)(hs:start<N)(hby:byid<id)
  (hb:blk H byid=some (.rows 3 1 N row)) (hrow:∀i,i<N→row i 0=.val (.int .i64 (by' i:Nat))) (hB:∀i,i<N→by' i≤1000000) (hF:Vg by' N start fuel start []=some res0) :
  EffVC Tryz.prog 164 [.ptr tb 0,.vec byid N 1,.val (.int .i64 (start:Nat))] H id (fun hp' nid' res=>nid'≤id+100*(fuel+2)∧∃rid r,id≤rid∧rid<nid'∧0<res0.length∧qbF res0.reverse r∧hp'=(rid,.rows 3 1 res0.length r) :: H∧res=.vec rid res0.length 1):=by
 refine vb follows Tryz.func164 rfl Ωd Ωd (by rw[Tryz.ntmps164];simp) fun out=>?_;have NB:True:=trivial;(repeat' (first|refine sD ?_ ?_<;>intro _|refine aAc ?_|(simp -dsimp only[↓RP,RQ,xa0,reduceIte,reduceCtorEq,xa1,xa2,xa3,xa4,NB,QS,QT,qN,QN])));refine qn (fun(z:Nat×Nat×Nat×List Nat×Nat×(Nat→Nat→SV))=>z.1+z.2.1=fuel∧Vg by' N start z.1 z.2.2.1 z.2.2.2.1=some res0∧qbF z.2.2.2.1 z.2.2.2.2.2∧z.2.2.2.1.length≤z.2.1∧(z.2.2.2.1≠[]→id≤z.2.2.2.2.1∧z.2.2.2.2.1<id+10+50*z.2.1)) (fun z=>stB tb z.2.2.2.2.1 byid N start H id z.2.1 z.2.2.1 z.2.2.2.1 z.2.2.2.2.2) (fun z=>z.1) (fuel,0,start,[],0,fun _ _=>.top) ⟨by simp only[];omega,hF,fun i hi=>(by cases hi),xa5 _,fun h=>absurd rfl h⟩ (weakSU Ω Ωf (SubHp.refl _)) fun z hz=>?_;obtain⟨f,c,at',acc,oid,r⟩:=z;obtain⟨z1,z2,z3,z4,z5⟩:=hz;simp only[]at z1 z2 z3 z4 z5;cases f with
 |zero=>cases z2
 |succ f=>
 simp only[Vg]at z2;split at z2
 case isFalse=>cases z2
 rename_i hpos;obtain⟨hp1,hp2⟩:=hpos;have hr0:=hrow at' hp2;have hB0:=hB at' hp2;obtain⟨n,hn⟩:∃n,n=id+10+50*c:=⟨_,rfl⟩;obtain⟨b,hbn⟩:∃b,by' at'=b+1:=⟨by' at' - 1,Ω⟩
 rw[hbn]at hr0 z2;rw[Nat.add_sub_cancel]at z2;have m1:((b+1:Nat):Int) - 1=(b:Nat):=by omega
 have m2:((b:Nat):Int).tmod 5=((b % 5:Nat):Int):=rfl;have m3:((b:Nat):Int).tdiv 5=((b / 5:Nat):Int):=rfl;have hq:b / 5≤b:=Nat.div_le_self _ _;have hq5:b % 5<5:=Nat.mod_lt _ Ωr;clear NB;have hbid:=hU _ _ hb;have NB:=(⟨nmA (Ω:byid<n),nmA (Ω:byid<id)⟩:_∧_);cases acc with
 |nil=>
  have hnr:qbF ([b % 5]) (fun i j=>[SV.val (.int .i64 ((b % 5:Nat):Int))].getD (i+j) SV.top):=by
   intro i hi;have e:i=0:=by have hi:i<1:=hi;omega
   subst e;rfl
  skip
  simp only[stB];rw[←hn];by_cases he:b / 5=start
  ·rw[if_pos he]at z2
   have he1:=decide_eq_true (Ω:((b / 5:Nat):Int)=(start:Nat));(repeat' (first|refine sD ?_ ?_<;>intro _|refine aAc ?_|(simp -dsimp only[↓RP,RQ,xa0,reduceIte,reduceCtorEq,xa1,xa2,xa3,xa4,he1,hb,hr0,m1,m2,m3,NB,QS,QT,qN,QN])))
   all_goals try exact Ωb
   skip
   have hl:res0=[b % 5]:=(Option.some.inj z2).symm;have hlen:res0.length=1:=by rw[hl];simp
   refine jh ΩA (qnM _ _ (n+8) 1 (fun i j=>[SV.val (.int .i64 ((b % 5:Nat):Int))].getD (i+j) SV.top) Ω Ω Ω7 (fun i hi=>⟨_,hnr i (by simp<;>omega)⟩)) fun hp' n3 res hQ=>?_;obtain⟨q1,q2,rfl,r3,q3,rfl⟩:=hQ;(repeat' (first|refine sD ?_ ?_<;>intro _|refine aAc ?_|(simp -dsimp only[↓RP,RQ,xa0,reduceIte,reduceCtorEq,xa1,xa2,xa3,xa4,setBlk,hb,hr0,m1,m2,m3,NB,QS,QT,qN,QN])))
   all_goals try exact Ωb
   refine⟨_,_,_,weakSU (nid':=id+100*(fuel+2)) Ω (fr':=[(0,_)]) ⟨.inr rfl,trivial⟩ (SubHp.cons (SubHp.skip (hU.none Ω) (SubHp.refl _))),Ω,n+8,r3,Ω,Ω,by rw[hlen];omega,fun i hi=>?_,by rw[hlen],by rw[hlen];rfl⟩;rw[List.length_reverse]at hi;have hi':i<1:=by omega
   rw[q3 i hi'];have e2:=hnr (1 - 1 - i) (by simp<;>omega);rw[hl];have e3:([b % 5]).reverse.getD i 0=([b % 5]).getD (1 - 1 - i) 0:=by
    rw[xc6,xc6,List.getElem?_reverse (by simp<;>omega)];simp
   rw[e3];exact e2
  ·rw[if_neg he]at z2
   have he1:=decide_eq_false (Ω:¬((b / 5:Nat):Int)=(start:Nat));(repeat' (first|refine sD ?_ ?_<;>intro _|refine aAc ?_|(simp -dsimp only[↓RP,RQ,xa0,reduceIte,reduceCtorEq,xa1,xa2,xa3,xa4,he1,hb,hr0,m1,m2,m3,NB,QS,QT,qN,QN])))
   all_goals try exact Ωb
   skip
   refine⟨(f,c+1,b / 5,[b % 5],n+8,(fun i j=>[SV.val (.int .i64 ((b % 5:Nat):Int))].getD (i+j) SV.top)),⟨by simp only[];omega,z2,hnr,Ωh,fun _=>by simp only[];omega⟩,by simp only[];omega,?_⟩;simp only[stB];exact weakSU Ω Ωf (SubHp.cons (SubHp.skip (hU.none Ω) (SubHp.refl _)))
 |cons x l=>
  have hnr:qbF (x ::(l++[b % 5])) (fun i j=>if i<l.length+1 then r i j else [SV.val (.int .i64 ((b % 5:Nat):Int))].getD (i -(l.length+1)+j) SV.top):=by
   intro i hi;rw[xe4,xc8,xd1]at hi;by_cases hc:i<l.length+1
   ·show(if i<l.length+1 then r i 0 else _)=_
    rw[if_pos hc,z3 i hc];have eG:(x ::(l++[b % 5])).getD i 0=(x :: l).getD i 0:=by
     rw[←List.cons_append,xc6,xc6,xc9 hc]
    rw[eG]
   ·have e:i=l.length+1:=by omega
    subst e;have eG:(x ::(l++[b % 5])).getD (l.length+1) 0=b % 5:=by simp[xc6]
    show(if l.length+1<l.length+1 then r (l.length+1) 0 else [SV.val (.int .i64 ((b % 5:Nat):Int))].getD (l.length+1 -(l.length+1)+0) SV.top)=_;rw[if_neg Ω,eG,xb8];rfl
  have⟨z6,z7⟩:=z5 Ωh;rw[←hn]at z7;rw[xe4]at z4;have NO:=(⟨nmE (Ω:oid≠byid),nmA z7⟩:_∧_);have hdr:dropBlk H oid=H:=zf (hU.none z6);simp only[stB];rw[←hn];by_cases he:b / 5=start
  ·rw[if_pos he]at z2
   have he1:=decide_eq_true (Ω:((b / 5:Nat):Int)=(start:Nat));(repeat' (first|refine sD ?_ ?_<;>intro _|refine aAc ?_|(simp -dsimp only[↓RP,RQ,xa0,reduceIte,reduceCtorEq,xa1,xa2,xa3,xa4,he1,hb,hr0,m1,m2,m3,NO,hdr,NB,QS,QT,qN,QN])))
   all_goals try exact Ωb
   skip
   have hl:res0=x ::(l++[b % 5]):=(Option.some.inj z2).symm;have hlen:res0.length=(l.length+2):=by rw[hl];simp
   refine jh ΩA (qnM _ _ (n+8) (l.length+2) (fun i j=>if i<l.length+1 then r i j else [SV.val (.int .i64 ((b % 5:Nat):Int))].getD (i -(l.length+1)+j) SV.top) Ω Ω Ω7 (fun i hi=>⟨_,hnr i (by simp<;>omega)⟩)) fun hp' n3 res hQ=>?_;obtain⟨q1,q2,rfl,r3,q3,rfl⟩:=hQ;(repeat' (first|refine sD ?_ ?_<;>intro _|refine aAc ?_|(simp -dsimp only[↓RP,RQ,xa0,reduceIte,reduceCtorEq,xa1,xa2,xa3,xa4,setBlk,hb,hr0,m1,m2,m3,NO,hdr,NB,QS,QT,qN,QN])))
   all_goals try exact Ωb
   refine⟨_,_,_,weakSU (nid':=id+100*(fuel+2)) Ω (fr':=[(0,_)]) ⟨.inr rfl,trivial⟩ (SubHp.cons (SubHp.skip (hU.none Ω) (SubHp.refl _))),Ω,n+8,r3,Ω,Ω,by rw[hlen];omega,fun i hi=>?_,by rw[hlen],by rw[hlen];rfl⟩;rw[List.length_reverse]at hi;have hi':i<(l.length+2):=by omega
   rw[q3 i hi'];have e2:=hnr ((l.length+2) - 1 - i) (by simp<;>omega);rw[hl];have e3:(x ::(l++[b % 5])).reverse.getD i 0=(x ::(l++[b % 5])).getD ((l.length+2) - 1 - i) 0:=by
    rw[xc6,xc6,List.getElem?_reverse (by simp<;>omega)];rw[show(x ::(l++[b % 5])).length=l.length+2 by simp]
   rw[e3];exact e2
  ·rw[if_neg he]at z2
   have he1:=decide_eq_false (Ω:¬((b / 5:Nat):Int)=(start:Nat));(repeat' (first|refine sD ?_ ?_<;>intro _|refine aAc ?_|(simp -dsimp only[↓RP,RQ,xa0,reduceIte,reduceCtorEq,xa1,xa2,xa3,xa4,he1,hb,hr0,m1,m2,m3,NO,hdr,NB,QS,QT,qN,QN])))
   all_goals try exact Ωb
   skip
   refine⟨(f,c+1,b / 5,x ::(l++[b % 5]),n+8,(fun i j=>if i<l.length+1 then r i j else [SV.val (.int .i64 ((b % 5:Nat):Int))].getD (i -(l.length+1)+j) SV.top)),⟨by simp only[];omega,z2,hnr,Ωj,fun _=>by simp only[];omega⟩,by simp only[];omega,?_⟩;simp only[stB,xc8,xd1];exact weakSU Ω Ωf (SubHp.cons (SubHp.skip (hU.none Ω) (SubHp.refl _)))
end Go.Tn
end
section
namespace Go.Tn
open Go.Proofs
open Go.Sx
def stL(s:Nat→Int):List SV:=[.val (.int .i64 (s 0)),.val (.int .i64 (s 1)),.val (.int .i64 (s 2)),.val (.int .i64 (s 3)),.val (.int .i64 (s 4))]
theorem jv{s:Nat→Int}{k:Nat}(h:k<5):(stL s)[k]? = some (.val (.int .i64 (s k))):=by
 have:k=0∨k=1∨k=2∨k=3∨k=4:=by omega
 rcases this with rfl|rfl|rfl|rfl|rfl<;>rfl
theorem qv(s:Nat→Int):(stL s).length=5:=rfl
def ixF(u s:Nat→Int):Nat→Int
 |0=>0
 |k+1=>ixF u s k*(u k+1)+s k
theorem YR(u s:Nat→Int)(k:Nat):ixF u s (k+1)=ixF u s k*(u k+1)+s k:=rfl
theorem ZT{u s:Nat→Int}{m:Nat}(h:∀i,i<m→0≤s i∧s i≤u i):∀{k},k≤m→0≤ixF u s k∧ixF u s k<prd u k
 |0,_=>⟨Int.le_refl _,Int.one_pos⟩
 |k+1,hk=>by
  have⟨h1,h2⟩:=ZT h (k:=k) Ω;have⟨h3,h4⟩:=h k Ω;rw[YR,jL];constructor
  ·have:=Int.mul_nonneg h1 (Ω:(0:Int)≤u k+1);omega
  ·have h5:(ixF u s k+1)*(u k+1)≤prd u k*(u k+1):=Int.mul_le_mul_of_nonneg_right Ω Ω
   rw[Int.add_mul]at h5;omega
theorem qnN(H:List (Nat×Blk))(id tb m:Nat)(u s:Nat→Int)(tix:Nat)(tr:Nat→Nat→SV)(hti:tix<id)(hN0:blk H id=none)(ht:blk H tix=some (.rows 3 1 m tr))(htu:∀i,i<m→tr i 0=.val (.int .i64 (u i)))(Z1 Z2 Z3 Z4:SV)(hm:m≤5)(hu:∀i,i<m→1≤u i∧u i≤12)(hs:∀i,i<m→0≤s i∧s i≤u i)
  (hid:tb<id) (hb:blk H tb=some (.cells 253 [.vec tix m 1,Z1,Z2,Z3,Z4])) :
  EffVC Tryz.prog 162 [.ptr tb 0,.agg (stL s)] H id (fun hp' nid' res=>hp'=H∧nid'=id+200∧res=I (ixF u s m)):=by
 refine vb follows Tryz.func162 rfl Ωd Ωd (by rw[Tryz.ntmps162];simp) fun out=>?_;have NB:True:=trivial;have hlen:(stL s).length=5:=rfl;have hT:=ht;have NB:=(⟨nmA hid,nmE (Ω:id≠tb)⟩:_∧_);(repeat' (first|refine sD ?_ ?_<;>intro _|refine aAa ?_|(simp -dsimp only[↓RP,RQ,xa0,reduceIte,reduceCtorEq,xa1,xa2,xa3,xa4,NB,hb,hT,hlen,QS,QT,QN])))
 all_goals try exact Ωb
 refine qn (fun(k:Nat)=>k≤m) (fun k=>⟨[(0,.ptr tb 0),(3,.ptr id 0),(5,.val (.int .i64 (ixF u s k))),(12,.vec tix m 1),(13,.val (.int .i64 (m:Nat))),(14,.val (.int .i64 (k:Nat)))],(id,.cells 140 (stL s)) :: H,id+20+30*k⟩) (fun k=>m - k) 0 (xb6 _) (weakSU Ω (by simp[qX,Go.Sx.look,ixF]) (SubHp.refl _)) fun k hk=>?_;by_cases hkm:k<m
 ·have hlt:=decide_eq_true (Ω:((k:Nat):Int)<(m:Nat))
  have hsk:=jv (s:=s) (k:=k) Ω;have⟨b1,b2⟩:=ZT hs hk;have⟨b3,b4⟩:=ZT hs (k:=k+1) hkm;have b5:=QY hu hm hk;have b6:=QY hu hm (k:=k+1) hkm;have b7:=hu k hkm;have b8:=hs k hkm;have b9:0≤ixF u s k*(u k+1):=Int.mul_nonneg b1 Ω;rw[YR]at b3 b4;have htk:=htu k hkm;have NX:=(⟨nmA hti,nmE (Ω:tix≠id)⟩:_∧_);(repeat' (first|refine sD ?_ ?_<;>intro _|refine aAa ?_|(simp -dsimp only[↓RP,RQ,xa0,reduceIte,reduceCtorEq,xa1,xa2,xa3,xa4,NB,hlt,NX,htk,hb,hT,hlen,QS,QT,QN])))
  all_goals try exact Ωb
  refine⟨_,hsk,?_⟩;(repeat' (first|refine sD ?_ ?_<;>intro _|refine aAa ?_|(simp -dsimp only[↓RP,RQ,xa0,reduceIte,reduceCtorEq,xa1,xa2,xa3,xa4,NB,hlt,NX,htk,hb,hT,hlen,QS,QT,QN])))
  all_goals try exact Ωb
  refine⟨k+1,hkm,Ω,weakSU Ω (by simp[qX,Go.Sx.look,YR]) (SubHp.refl _)⟩
 ·obtain rfl:k=m:=by omega
  have hlt:=decide_eq_false (Ω:¬((k:Nat):Int)<(k:Nat));(repeat' (first|refine sD ?_ ?_<;>intro _|refine aAa ?_|(simp -dsimp only[↓RP,RQ,xa0,reduceIte,reduceCtorEq,xa1,xa2,xa3,xa4,NB,hlt,hb,hT,hlen,QS,QT,QN])))
  all_goals try exact Ωb
  exact⟨_,_,_,weakSU (nid':=id+200) Ω (fr':=[(0,_)]) ⟨.inr rfl,trivial⟩ (SubHp.skip hN0 (SubHp.refl _)),rfl,rfl,rfl⟩
theorem qnO(H:List (Nat×Blk))(id tb m:Nat)(u s:Nat→Int)(o full:Bool)(row:Nat→Nat→SV)(hN0:blk H id=none)(htu:∀i,i<m→row i 0=.val (.int .i64 (u i)))(Z1 Z2 Z3 Z4:SV)(hm:m≤5)(hu:∀i,i<m→1≤u i∧u i≤12)(hs:∀i,i<m→0≤s i∧s i≤u i)
  (hid:tb<id) (hb:blk H tb=some (.cells 253 [.arr o full m 1 row,Z1,Z2,Z3,Z4])) :
  EffVC Tryz.prog 162 [.ptr tb 0,.agg (stL s)] H id (fun hp' nid' res=>hp'=H∧nid'=id+200∧res=I (ixF u s m)):=by
 refine vb follows Tryz.func162 rfl Ωd Ωd (by rw[Tryz.ntmps162];simp) fun out=>?_;have NB:True:=trivial;have hlen:(stL s).length=5:=rfl;have hT:True:=trivial;have NB:=(⟨nmA hid,nmE (Ω:id≠tb)⟩:_∧_);(repeat' (first|refine sD ?_ ?_<;>intro _|refine aAa ?_|(simp -dsimp only[↓RP,RQ,xa0,reduceIte,reduceCtorEq,xa1,xa2,xa3,xa4,NB,hb,hT,hlen,QS,QT,QN])))
 all_goals try exact Ωb
 refine qn (fun(k:Nat)=>k≤m) (fun k=>⟨[(0,.ptr tb 0),(3,.ptr id 0),(5,.val (.int .i64 (ixF u s k))),(12,.arr o full m 1 row),(13,.val (.int .i64 (m:Nat))),(14,.val (.int .i64 (k:Nat)))],(id,.cells 140 (stL s)) :: H,id+20+30*k⟩) (fun k=>m - k) 0 (xb6 _) (weakSU Ω (by simp[qX,Go.Sx.look,ixF]) (SubHp.refl _)) fun k hk=>?_;by_cases hkm:k<m
 ·have hlt:=decide_eq_true (Ω:((k:Nat):Int)<(m:Nat))
  have hsk:=jv (s:=s) (k:=k) Ω;have⟨b1,b2⟩:=ZT hs hk;have⟨b3,b4⟩:=ZT hs (k:=k+1) hkm;have b5:=QY hu hm hk;have b6:=QY hu hm (k:=k+1) hkm;have b7:=hu k hkm;have b8:=hs k hkm;have b9:0≤ixF u s k*(u k+1):=Int.mul_nonneg b1 Ω;rw[YR]at b3 b4;have htk:=htu k hkm;(repeat' (first|refine sD ?_ ?_<;>intro _|refine aAa ?_|(simp -dsimp only[↓RP,RQ,xa0,reduceIte,reduceCtorEq,xa1,xa2,xa3,xa4,NB,hlt,htk,hb,hT,hlen,QS,QT,QN])))
  all_goals try exact Ωb
  refine⟨_,hsk,?_⟩;(repeat' (first|refine sD ?_ ?_<;>intro _|refine aAa ?_|(simp -dsimp only[↓RP,RQ,xa0,reduceIte,reduceCtorEq,xa1,xa2,xa3,xa4,NB,hlt,htk,hb,hT,hlen,QS,QT,QN])))
  all_goals try exact Ωb
  refine⟨k+1,hkm,Ω,weakSU Ω (by simp[qX,Go.Sx.look,YR]) (SubHp.refl _)⟩
 ·obtain rfl:k=m:=by omega
  have hlt:=decide_eq_false (Ω:¬((k:Nat):Int)<(k:Nat));(repeat' (first|refine sD ?_ ?_<;>intro _|refine aAa ?_|(simp -dsimp only[↓RP,RQ,xa0,reduceIte,reduceCtorEq,xa1,xa2,xa3,xa4,NB,hlt,hb,hT,hlen,QS,QT,QN])))
  all_goals try exact Ωb
  exact⟨_,_,_,weakSU (nid':=id+200) Ω (fr':=[(0,_)]) ⟨.inr rfl,trivial⟩ (SubHp.skip hN0 (SubHp.refl _)),rfl,rfl,rfl⟩
end Go.Tn
end
section
namespace Go.Tn
open Go.Proofs
open Go.Sx
def stS(s:Nat→Int):SV:=.agg (stL s)
theorem Wr{s:Nat→Int}{k:Nat}(h:k<5)(x:Int):(stL s).set k (.val (.int .i64 x))=stL (upN s k x):=by
 have:k=0∨k=1∨k=2∨k=3∨k=4:=by omega
 rcases this with rfl|rfl|rfl|rfl|rfl<;>rfl
theorem qw(s:Nat→Int):List.drop 5 (stL s)=[]:=rfl
theorem qr(s:Nat→Int):List.take 5 (stL s)=stL s:=rfl
theorem Zh(H:List (Nat×Blk))(s:Nat→Int):SubL H (stL s) (stL s):=by simp[stL,SubL,Go.Sx.Sub]
def wZ(k:Nat)(p:Nat→Int)(w:Int):Bool:=decide (QW (vAt p w) k)
theorem c78(k:Nat)(p:Nat→Int)(w:Int)(hk:k≤1000000):qf Tryz.prog 78 [I w,.ref false 1 (fun _=>.arr false false k 1 (fun i _=>.val (.int .i64 (p i))))] (B (wZ k p w)):=by
 refine qg Tryz.func78 rfl Ωd follows Ωd _ _ (by rw[Tryz.ntmps78];simp) Ωv ?_;unfold I;have h1:=c79 k p w hk;(repeat' (first|refine sD ?_ ?_<;>intro _|refine aAa ?_|(simp -dsimp only[↓RP,RQ,xa0,reduceIte,reduceCtorEq,xa1,xa2,xa3,xa4,QT,QN])))
 all_goals try exact Ωb
 refine qj (h1) Ωc Ωa ?_;(repeat' (first|refine sD ?_ ?_<;>intro _|refine aAa ?_|(simp -dsimp only[↓RP,RQ,xa0,reduceIte,reduceCtorEq,xa1,xa2,xa3,xa4,QT,QN])))
 all_goals try exact Ωb
 rfl
theorem c80(s:Nat→Int)(v:Nat)(hv:v<5):qf Tryz.prog 80 [stS s,I v] (stS (upN s v 0)):=by
 refine qg Tryz.func80 rfl Ωd follows Ωd _ _ (by rw[Tryz.ntmps80];simp) Ωv ?_;unfold I stS;have hset:=Wr (s:=s) hv 0;(repeat' (first|refine sD ?_ ?_<;>intro _|refine aAa ?_|(simp -dsimp only[↓RP,RQ,xa0,reduceIte,reduceCtorEq,xa1,xa2,xa3,xa4,hset,qv,qr,QT,QN])))
 all_goals try exact Ωb
 exact Zh _ _
theorem c81(m:Nat)(u s:Nat→Int)(h1:1≤m)(h5:m≤5):qf Tryz.prog 81 [stS s,hsv m u] (.arr true false m 1 (fun i _=>.val (.int .i64 (s i)))):=by
 refine qg Tryz.func81 rfl Ωd follows Ωd _ _ (by rw[Tryz.ntmps81];simp) Ωv ?_;unfold stS hsv;have hc:=qoA m h1 Ω s;(repeat' (first|refine sD ?_ ?_<;>intro _|refine aAd ?_|(simp -dsimp only[↓RP,RQ,xa0,reduceIte,reduceCtorEq,xa1,xa2,xa3,xa4,qv,qr,QT,QN])))
 all_goals try exact Ωb
 refine qj hc (by(simp -dsimp only[↓RP,RQ,xa0,reduceIte,reduceCtorEq,xa1,xa2,xa3,xa4,QV,hsv,qA,I,B]);all_goals (try simp[QV,Go.Sx.Sub,Go.Sx.SubL]);all_goals (try exact⟨h5,fun i hi=>by rw[jv Ω];rfl⟩)) Ωa ?_;(repeat' (first|refine sD ?_ ?_<;>intro _|refine aAd ?_|(simp -dsimp only[↓RP,RQ,xa0,reduceIte,reduceCtorEq,xa1,xa2,xa3,xa4,qv,qr,QT,QN])))
 all_goals try exact Ωb
 all_goals first|exact fun h=>h|skip
def plW(b:Nat→Bool)(s:Nat→Int)(w i:Nat):Int:=if i<w∧b i=true then s i+1 else s i
theorem qlI(b:Nat→Bool)(s:Nat→Int):plW b s 0=s:=by funext i;unfold plW;rw[if_neg Ω]
theorem qhM(b:Nat→Bool)(s:Nat→Int)(w:Nat):plW b s w w=s w:=by unfold plW;rw[if_neg Ω]
theorem qdj{b:Nat→Bool}{s:Nat→Int}{w:Nat}(h:b w=true):upN (plW b s w) w (s w+1)=plW b s (w+1):=by
 funext i;unfold upN;by_cases e:i=w
 ·subst e;rw[if_pos rfl];unfold plW;rw[if_pos ⟨Ω,h⟩]
 ·rw[if_neg e]
  unfold plW;by_cases c:i<w∧b i=true
  ·rw[if_pos c,if_pos ⟨Ω,c.2⟩]
  ·rw[if_neg c,if_neg (fun q=>c ⟨Ω,q.2⟩)]
theorem qhN{b:Nat→Bool}{s:Nat→Int}{w:Nat}(h:b w=false):plW b s w=plW b s (w+1):=by
 funext i;unfold plW;by_cases c:i<w∧b i=true
 ·rw[if_pos c,if_pos ⟨Ω,c.2⟩]
 ·rw[if_neg c,if_neg]
  rintro⟨q1,q2⟩;by_cases e:i=w
  ·subst e;rw[h]at q2;cases q2
  ·exact c ⟨Ω,q2⟩
def okP(b:Nat→Bool)(s u:Nat→Int)(m:Nat):Prop:=∀i,i<m→b i=true→s i+1≤u i
def zS:Nat→Int:=fun _=>0
theorem qoC(m:Nat)(u s:Nat→Int)(g:Nat)(caps:List SV)(b:Nat→Bool)(h5:m≤5)(hs:∀i,i<m→0≤s i∧s i≤u i)(hu:∀i,i<m→u i≤12)(ho:OldL caps)(hg:∀i,i<m→qf Tryz.prog g (.val (.int .i64 (i:Nat)) :: caps) (B (b i)))(hp:okP b s u m):qf Tryz.prog 77 [stS s,hsv m u,.fn (.func g) [] caps] (.tup [stS (plW b s m),B true]):=by
 refine qg Tryz.func77 rfl Ωd follows Ωd _ _ (by rw[Tryz.ntmps77];simp) (by simp[OldL,Old,QV,hsv,qA,I,B,stS,stL,ho]) ?_;unfold stS hsv B;(repeat' (first|refine sD ?_ ?_<;>intro _|refine aAa ?_|(simp -dsimp only[↓RP,RQ,xa0,reduceIte,reduceCtorEq,xa1,xa2,xa3,xa4,qv,qr,qw,xd3,QT,QN])))
 all_goals try exact Ωb
 refine qn (fun(w:Nat)=>w≤m∧okP b s u w) (fun w=>⟨[(2,.fn (.func g) [] caps),(3,.ptr 0 0),(6,.ptr 2 0),(11,.arr false false m 1 (fun i _=>.val (.int .i64 (u i)))),(12,.val (.int .i64 (m:Nat))),(13,.val (.int .i64 (w:Nat)))],[(2,.cells 140 (stL zS)),(0,.cells 140 (stL (plW b s w)))],50+40*w⟩) (fun w=>m - w) 0 ⟨xb6 _,fun i hi=>by omega⟩ (weakSU Ω Ωf ?hw1) fun w hw=>?_
 case hw1=>rw[qlI];exact SubHp.cons (SubHp.skip Ω7 (SubHp.refl _))
 obtain⟨hw,hk⟩:=hw;by_cases hwm:w<m
 ·have hlt:=decide_eq_true (Ω:((w:Nat):Int)<(m:Nat))
  have⟨b1,b2⟩:=hs w hwm;have b3:=hu w hwm;(repeat' (first|refine sD ?_ ?_<;>intro _|refine aAa ?_|(simp -dsimp only[↓RP,RQ,xa0,reduceIte,reduceCtorEq,xa1,xa2,xa3,xa4,hlt,qv,qr,qw,xd3,QT,QN])))
  all_goals try exact Ωb
  refine vV (hg w hwm) (subL_refl _ (by simp[OldL,Old,ho])) ?_;cases hb:b w with
  |true=>
   have hset:(stL (plW b s w)).set w (.val (.int .i64 (s w+1)))=stL (plW b s (w+1)):=by rw[Wr Ω,qdj hb]
   have hat:plW b s (w+1) w=s w+1:=by unfold plW;rw[if_pos ⟨Ω,hb⟩]
   (repeat' (first|refine sD ?_ ?_<;>intro _|refine aAa ?_|(simp -dsimp only[↓RP,RQ,xa0,reduceIte,reduceCtorEq,xa1,xa2,xa3,xa4,QT,qv,qr,qw,xd3,QN])))
   all_goals try exact Ωb
   refine⟨_,jv Ω,?_⟩;(repeat' (first|refine sD ?_ ?_<;>intro _|refine aAa ?_|(simp -dsimp only[↓RP,RQ,xa0,reduceIte,reduceCtorEq,xa1,xa2,xa3,xa4,qhM,hset,qv,qr,qw,xd3,QT,QN])))
   all_goals try exact Ωb
   refine⟨_,jv Ω,?_⟩;(repeat' (first|refine sD ?_ ?_<;>intro _|refine aAa ?_|(simp -dsimp only[↓RP,RQ,xa0,reduceIte,reduceCtorEq,xa1,xa2,xa3,xa4,hat,qv,qr,qw,xd3,QT,QN])))
   all_goals try exact Ωb
   ·exact absurd (hp w hwm hb) Ω
   ·refine⟨w+1,⟨hwm,fun i hi hbi=>?_⟩,Ω,weakSU Ω Ωf (SubHp.refl _)⟩
    by_cases e:i=w
    ·subst e;omega
    ·exact hk i Ω hbi
  |false=>
   (repeat' (first|refine sD ?_ ?_<;>intro _|refine aAa ?_|(simp -dsimp only[↓RP,RQ,xa0,reduceIte,reduceCtorEq,xa1,xa2,xa3,xa4,QT,qv,qr,qw,xd3,QN])))
   all_goals try exact Ωb
   refine⟨w+1,⟨hwm,fun i hi hbi=>?_⟩,Ω,weakSU Ω Ωf (by rw[←qhN hb];exact SubHp.refl _)⟩;by_cases e:i=w
   ·subst e;rw[hb]at hbi;cases hbi
   ·exact hk i Ω hbi
 ·obtain rfl:m=w:=by omega
  have hlt:=decide_eq_false (Ω:¬((m:Nat):Int)<(m:Nat))
  skip
  (repeat' (first|refine sD ?_ ?_<;>intro _|refine aAa ?_|(simp -dsimp only[↓RP,RQ,xa0,reduceIte,reduceCtorEq,xa1,xa2,xa3,xa4,hlt,qv,qr,qw,xd3,QT,QN])))
  all_goals try exact Ωb
  exact Zh _ _
theorem qoD(m:Nat)(u s:Nat→Int)(g:Nat)(caps:List SV)(b:Nat→Bool)(h5:m≤5)(hs:∀i,i<m→0≤s i∧s i≤u i)(hu:∀i,i<m→u i≤12)(ho:OldL caps)(hg:∀i,i<m→qf Tryz.prog g (.val (.int .i64 (i:Nat)) :: caps) (B (b i)))(hp:¬okP b s u m):qf Tryz.prog 77 [stS s,hsv m u,.fn (.func g) [] caps] (.tup [stS zS,B false]):=by
 refine qg Tryz.func77 rfl Ωd follows Ωd _ _ (by rw[Tryz.ntmps77];simp) (by simp[OldL,Old,QV,hsv,qA,I,B,stS,stL,ho]) ?_;unfold stS hsv B;(repeat' (first|refine sD ?_ ?_<;>intro _|refine aAa ?_|(simp -dsimp only[↓RP,RQ,xa0,reduceIte,reduceCtorEq,xa1,xa2,xa3,xa4,qv,qr,qw,xd3,QT,QN])))
 all_goals try exact Ωb
 refine qn (fun(w:Nat)=>w≤m∧okP b s u w) (fun w=>⟨[(2,.fn (.func g) [] caps),(3,.ptr 0 0),(6,.ptr 2 0),(11,.arr false false m 1 (fun i _=>.val (.int .i64 (u i)))),(12,.val (.int .i64 (m:Nat))),(13,.val (.int .i64 (w:Nat)))],[(2,.cells 140 (stL zS)),(0,.cells 140 (stL (plW b s w)))],50+40*w⟩) (fun w=>m - w) 0 ⟨xb6 _,fun i hi=>by omega⟩ (weakSU Ω Ωf ?hw1) fun w hw=>?_
 case hw1=>rw[qlI];exact SubHp.cons (SubHp.skip Ω7 (SubHp.refl _))
 obtain⟨hw,hk⟩:=hw;by_cases hwm:w<m
 ·have hlt:=decide_eq_true (Ω:((w:Nat):Int)<(m:Nat))
  have⟨b1,b2⟩:=hs w hwm;have b3:=hu w hwm;(repeat' (first|refine sD ?_ ?_<;>intro _|refine aAa ?_|(simp -dsimp only[↓RP,RQ,xa0,reduceIte,reduceCtorEq,xa1,xa2,xa3,xa4,hlt,qv,qr,qw,xd3,QT,QN])))
  all_goals try exact Ωb
  refine vV (hg w hwm) (subL_refl _ (by simp[OldL,Old,ho])) ?_;cases hb:b w with
  |true=>
   have hset:(stL (plW b s w)).set w (.val (.int .i64 (s w+1)))=stL (plW b s (w+1)):=by rw[Wr Ω,qdj hb]
   have hat:plW b s (w+1) w=s w+1:=by unfold plW;rw[if_pos ⟨Ω,hb⟩]
   (repeat' (first|refine sD ?_ ?_<;>intro _|refine aAa ?_|(simp -dsimp only[↓RP,RQ,xa0,reduceIte,reduceCtorEq,xa1,xa2,xa3,xa4,QT,qv,qr,qw,xd3,QN])))
   all_goals try exact Ωb
   refine⟨_,jv Ω,?_⟩;(repeat' (first|refine sD ?_ ?_<;>intro _|refine aAa ?_|(simp -dsimp only[↓RP,RQ,xa0,reduceIte,reduceCtorEq,xa1,xa2,xa3,xa4,qhM,hset,qv,qr,qw,xd3,QT,QN])))
   all_goals try exact Ωb
   refine⟨_,jv Ω,?_⟩;(repeat' (first|refine sD ?_ ?_<;>intro _|refine aAa ?_|(simp -dsimp only[↓RP,RQ,xa0,reduceIte,reduceCtorEq,xa1,xa2,xa3,xa4,hat,qv,qr,qw,xd3,QT,QN])))
   all_goals try exact Ωb
   ·simp[stL,zS,SubL,Go.Sx.Sub]
   ·refine⟨w+1,⟨hwm,fun i hi hbi=>?_⟩,Ω,weakSU Ω Ωf (SubHp.refl _)⟩
    by_cases e:i=w
    ·subst e;omega
    ·exact hk i Ω hbi
  |false=>
   (repeat' (first|refine sD ?_ ?_<;>intro _|refine aAa ?_|(simp -dsimp only[↓RP,RQ,xa0,reduceIte,reduceCtorEq,xa1,xa2,xa3,xa4,QT,qv,qr,qw,xd3,QN])))
   all_goals try exact Ωb
   refine⟨w+1,⟨hwm,fun i hi hbi=>?_⟩,Ω,weakSU Ω Ωf (by rw[←qhN hb];exact SubHp.refl _)⟩;by_cases e:i=w
   ·subst e;rw[hb]at hbi;cases hbi
   ·exact hk i Ω hbi
 ·obtain rfl:m=w:=by omega
  have hlt:=decide_eq_false (Ω:¬((m:Nat):Int)<(m:Nat));exact absurd hk hp
  skip
def vd(m:Nat)(s:Nat→Int):Nat→Int:=fun i=>if i<m then s i else 0
theorem qmx{m:Nat}(h1:1≤m)(h5:m≤5):m=1∨m=2∨m=3∨m=4∨m=5:=by omega
theorem qkn(s:Nat→Int){m:Nat}(h1:1≤m)(h5:m≤5):List.map (fun i=>SV.val (Value.int IntKind.i64 (s i))) (List.range (min m 5))++List.drop (min m 5) (List.replicate 5 (SV.val (Value.int IntKind.i64 0)))=stL (vd m s):=by
 rcases qmx h1 h5 with rfl|rfl|rfl|rfl|rfl<;>rfl
theorem qZ(s:Nat→Int):allOne (stL s)=true:=rfl
theorem qoE(m:Nat)(s:Nat→Int)(h1:1≤m)(h5:m≤5):qf Tryz.prog 166 [qA m s] (stS (vd m s)):=by
 refine qg Tryz.func166 rfl Ωd follows Ωd _ _ (by rw[Tryz.ntmps166];simp) Ωv ?_;unfold stS qA;have hc:=qkn s h1 h5;(repeat' (first|refine sD ?_ ?_<;>intro _|refine aAe ?_|(simp -dsimp only[↓RP,RQ,xa0,reduceIte,reduceCtorEq,xa1,xa2,xa3,xa4,hc,qv,qr,qw,qZ,xd3,QT,QN])))
 all_goals try exact Ωb
 exact Zh _ _
theorem c75(m:Nat)(u s:Nat→Int)(hk:ckH m u=0)(hs:∀i,i<m→0≤s i∧s i≤u i):qf Tryz.prog 75 [hsv m u,qA m s] (.tup [stS (vd m s),I 0]):=by
 refine qg Tryz.func75 rfl Ωd follows Ωd _ _ (by rw[Tryz.ntmps75];simp) Ωv ?_;obtain⟨h1,h5,hu,_⟩:=GL hk;have hc:=c70 m u Ω;rw[hk]at hc;have hn:=qoE m s h1 h5;have ckk:True:=trivial;unfold stS hsv I qA;(repeat' (first|refine sD ?_ ?_<;>intro _|refine aAa ?_|(simp -dsimp only[↓RP,RQ,xa0,reduceIte,reduceCtorEq,xa1,xa2,xa3,xa4,ckk,qv,qr,qw,qZ,xd3,QT,QN])))
 all_goals try exact Ωb
 refine qj (hc) Ωc Ωa ?_;(repeat' (first|refine sD ?_ ?_<;>intro _|refine aAa ?_|(simp -dsimp only[↓RP,RQ,xa0,reduceIte,reduceCtorEq,xa1,xa2,xa3,xa4,QT,ckk,qv,qr,qw,qZ,xd3,QN])))
 all_goals try exact Ωb
 refine qn (fun(w:Nat)=>w≤m) (fun w=>⟨[(1,.arr false false m 1 (fun i _=>.val (.int .i64 (s i)))),(2,.ptr 0 0),(4,.ptr 1 0),(24,.arr false false m 1 (fun i _=>.val (.int .i64 (s i)))),(25,.val (.int .i64 (m:Nat))),(26,.val (.int .i64 (w:Nat)))],[(1,.cells 140 (stL zS)),(0,.cells 24 [.arr false false m 1 (fun i _=>.val (.int .i64 (u i)))])],50+40*w⟩) (fun w=>m - w) 0 (xb6 _) (weakSU Ω Ωf ?hw1) fun w hw=>?_
 case hw1=>exact SubHp.refl _
 by_cases hwm:w<m
 ·have hlt:=decide_eq_true (Ω:((w:Nat):Int)<(m:Nat))
  have h76:=J6 (s w) 0 (u w);rw[decide_eq_true (hs w hwm)]at h76;(repeat' (first|refine sD ?_ ?_<;>intro _|refine aAa ?_|(simp -dsimp only[↓RP,RQ,xa0,reduceIte,reduceCtorEq,xa1,xa2,xa3,xa4,hlt,ckk,qv,qr,qw,qZ,xd3,QT,QN])))
  all_goals try exact Ωb
  refine qj (h76) Ωc Ωa ?_;(repeat' (first|refine sD ?_ ?_<;>intro _|refine aAa ?_|(simp -dsimp only[↓RP,RQ,xa0,reduceIte,reduceCtorEq,xa1,xa2,xa3,xa4,QT,ckk,qv,qr,qw,qZ,xd3,QN])))
  all_goals try exact Ωb
  exact⟨w+1,hwm,Ω,weakSU Ω Ωf (by refine SubHp.skip ?_ (SubHp.refl _);simp only[blk];rw[if_neg Ω,if_neg Ω])⟩
 ·obtain rfl:m=w:=by omega
  have hlt:=decide_eq_false (Ω:¬((m:Nat):Int)<(m:Nat));(repeat' (first|refine sD ?_ ?_<;>intro _|refine aAa ?_|(simp -dsimp only[↓RP,RQ,xa0,reduceIte,reduceCtorEq,xa1,xa2,xa3,xa4,hlt,ckk,qv,qr,qw,qZ,xd3,QT,QN])))
  all_goals try exact Ωb
  refine qj hn Ωc (by simp[Fresh,FreshL,stS,stL]) ?_;(repeat' (first|refine sD ?_ ?_<;>intro _|refine aAa ?_|(simp -dsimp only[↓RP,RQ,xa0,reduceIte,reduceCtorEq,xa1,xa2,xa3,xa4,stS,ckk,qv,qr,qw,qZ,xd3,QT,QN])))
  all_goals try exact Ωb
  exact Zh _ _
end Go.Tn
end
section
namespace Go.Tn
open Go.Proofs
open Go.Sx
def nxP(p:Nat→Int):Nat→Int
 |0=>0
 |i+1=>p i+1
theorem YS(p:Nat→Int)(i:Nat):nxP p (i+1)=p i+1:=rfl
theorem Zi{m:Nat}{s:Nat→Int}{i:Nat}(h:i<m):vd m s i=s i:=by unfold vd;rw[if_pos h]
theorem qoF(m k v:Nat)(u s p:Nat→Int)(hk:ckH m u=0)(hs:∀i,i<m→0≤s i∧s i≤u i)(hkk:k≤1000)(hp:∀i,i<k→nxP p i≤p i∧p i<m)(hv:v<m)(ho:okP (fun i=>wZ k p (i:Nat)) (vd m s) u m):qf Tryz.prog 17 [hsv m u,qA m s,qA k p,I v] (.tup [.arr true false m 1 (fun i _=>.val (.int .i64 (upN (plW (fun i=>wZ k p (i:Nat)) (vd m s) m) v 0 i))),I (plW (fun i=>wZ k p (i:Nat)) (vd m s) m v),I 0]):=by
 refine qg Tryz.func17 rfl Ωd follows Ωd _ _ (by rw[Tryz.ntmps17];simp) Ωv ?_;obtain⟨h1,h5,hu,_⟩:=GL hk;have hc:=c75 m u s hk hs;have hpl:=qoC m u (vd m s) 78 [.ref false 1 (fun _=>.arr false false k 1 (fun i _=>.val (.int .i64 (p i))))] (fun i=>wZ k p (i:Nat)) h5 (fun i hi=>by rw[Zi hi];exact hs i hi) (fun i hi=>(hu i hi).2) ΩC (fun i hi=>c78 k p (i:Nat) Ω) ho;have hp0:∀i,i≤k→0≤nxP p i∧nxP p i≤5:=fun i=>by
  induction i with
  |zero=>intro _;exact⟨Int.le_refl _,by show(0:Int)≤5;omega⟩
  |succ i ih=>intro hi;have:=ih Ω;have:=hp i Ω;rw[YS];omega
 unfold hsv I qA;(repeat' (first|refine sD ?_ ?_<;>intro _|refine aAa ?_|(simp -dsimp only[↓RP,RQ,xa0,reduceIte,reduceCtorEq,xa1,xa2,xa3,xa4,qv,qr,qw,qZ,xd3,QT,QN])))
 all_goals try exact Ωb
 refine qj hc Ωc ΩZ ?_;(repeat' (first|refine sD ?_ ?_<;>intro _|refine aAa ?_|(simp -dsimp only[↓RP,RQ,xa0,reduceIte,reduceCtorEq,xa1,xa2,xa3,xa4,stS,QT,qv,qr,qw,qZ,xd3,QN])))
 all_goals try exact Ωb
 refine qn (fun(w:Nat)=>w≤k) (fun w=>⟨[(3,.val (.int .i64 (v:Nat))),(4,.ptr 0 0),(6,.ptr 1 0),(11,.ptr 11 0),(13,.val (.int .i64 (nxP p w))),(26,.arr false false k 1 (fun i _=>.val (.int .i64 (p i)))),(27,.val (.int .i64 (k:Nat))),(28,.val (.int .i64 (w:Nat)))],[(11,.cells 140 (stL (vd m s))),(1,.cells 22 [.arr false false k 1 (fun i _=>.val (.int .i64 (p i)))]),(0,.cells 24 [.arr false false m 1 (fun i _=>.val (.int .i64 (u i)))])],50+60*w⟩) (fun w=>k - w) 0 (xb6 _) (weakSU Ω (by simp[qX,Go.Sx.look,nxP]) ?hw1) fun w hw=>?_
 case hw1=>exact SubHp.refl _
 by_cases hwk:w<k
 ·have hlt:=decide_eq_true (Ω:((w:Nat):Int)<(k:Nat))
  have h76:=J6 (p w) (nxP p w) ((m:Int) - 1);have hpw:=hp w hwk;have hpn:=hp0 w Ω;rw[decide_eq_true (Ω:nxP p w≤p w∧p w≤(m:Int) - 1)]at h76;(repeat' (first|refine sD ?_ ?_<;>intro _|refine aAa ?_|(simp -dsimp only[↓RP,RQ,xa0,reduceIte,reduceCtorEq,xa1,xa2,xa3,xa4,hlt,qv,qr,qw,qZ,xd3,QT,QN])))
  all_goals try exact Ωb
  refine qj (h76) Ωc Ωa ?_;(repeat' (first|refine sD ?_ ?_<;>intro _|refine aAa ?_|(simp -dsimp only[↓RP,RQ,xa0,reduceIte,reduceCtorEq,xa1,xa2,xa3,xa4,QT,qv,qr,qw,qZ,xd3,QN])))
  all_goals try exact Ωb
  exact⟨w+1,hwk,Ω,weakSU Ω (by simp[qX,Go.Sx.look,YS]) (by refine SubHp.skip ?_ (SubHp.refl _);simp only[blk];rw[if_neg Ω,if_neg Ω,if_neg Ω])⟩
 ·obtain rfl:k=w:=by omega
  have hlt:=decide_eq_false (Ω:¬((k:Nat):Int)<(k:Nat));have h76:=J6 (v:Nat) 0 ((m:Int) - 1);obtain⟨n1,hn1⟩:∃n1,n1=50+60*k:=⟨_,rfl⟩;rw[←hn1];have NB:=(⟨nmA (Ω:11<n1),nmA (Ω:1<n1),nmA (Ω:0<n1)⟩:_∧_∧_);rw[decide_eq_true (Ω:(0:Int)≤(v:Nat)∧((v:Nat):Int)≤(m:Int) - 1)]at h76;(repeat' (first|refine sD ?_ ?_<;>intro _|refine aAa ?_|(simp -dsimp only[↓RP,RQ,xa0,reduceIte,reduceCtorEq,xa1,xa2,xa3,xa4,hlt,NB,QR,qv,qr,qw,qZ,xd3,QT,QN])))
  all_goals try exact Ωb
  refine qj (h76) Ωc Ωa ?_;(repeat' (first|refine sD ?_ ?_<;>intro _|refine aAa ?_|(simp -dsimp only[↓RP,RQ,xa0,reduceIte,reduceCtorEq,xa1,xa2,xa3,xa4,QT,NB,QR,qv,qr,qw,qZ,xd3,QN])))
  all_goals try exact Ωb
  refine qj hpl Ωk ΩZ ?_;(repeat' (first|refine sD ?_ ?_<;>intro _|refine aAa ?_|(simp -dsimp only[↓RP,RQ,xa0,reduceIte,reduceCtorEq,xa1,xa2,xa3,xa4,stS,QT,NB,QR,qv,qr,qw,qZ,xd3,QN])))
  all_goals try exact Ωb
  refine qj (c80 (plW (fun i=>wZ k p (i:Nat)) (vd m s) m) v Ω) Ωk ΩZ ?_;(repeat' (first|refine sD ?_ ?_<;>intro _|refine aAa ?_|(simp -dsimp only[↓RP,RQ,xa0,reduceIte,reduceCtorEq,xa1,xa2,xa3,xa4,stS,QT,NB,QR,qv,qr,qw,qZ,xd3,QN])))
  all_goals try exact Ωb
  refine qj (c81 m u (upN (plW (fun i=>wZ k p (i:Nat)) (vd m s) m) v 0) h1 h5) Ωk ΩL ?_;(repeat' (first|refine sD ?_ ?_<;>intro _|refine aAa ?_|(simp -dsimp only[↓RP,RQ,xa0,reduceIte,reduceCtorEq,xa1,xa2,xa3,xa4,stS,QT,NB,QR,qv,qr,qw,qZ,xd3,QN])))
  all_goals try exact Ωb
  refine⟨_,jv Ω,?_⟩;(repeat' (first|refine sD ?_ ?_<;>intro _|refine aAa ?_|(simp -dsimp only[↓RP,RQ,xa0,reduceIte,reduceCtorEq,xa1,xa2,xa3,xa4,stS,QT,NB,QR,qv,qr,qw,qZ,xd3,QN])))
  all_goals try exact Ωb
  all_goals first|exact fun h=>h|skip
theorem qoG(m k v:Nat)(u s p:Nat→Int)(hk:ckH m u=0)(hs:∀i,i<m→0≤s i∧s i≤u i)(hkk:k≤1000)(hp:∀i,i<k→nxP p i≤p i∧p i<m)(hv:v<m)(ho:¬okP (fun i=>wZ k p (i:Nat)) (vd m s) u m):qf Tryz.prog 17 [hsv m u,qA m s,qA k p,I v] (.tup [.val (.slice none 0 0),I 0,I 17]):=by
 refine qg Tryz.func17 rfl Ωd follows Ωd _ _ (by rw[Tryz.ntmps17];simp) Ωv ?_;obtain⟨h1,h5,hu,_⟩:=GL hk;have hc:=c75 m u s hk hs;have hpl:=qoD m u (vd m s) 78 [.ref false 1 (fun _=>.arr false false k 1 (fun i _=>.val (.int .i64 (p i))))] (fun i=>wZ k p (i:Nat)) h5 (fun i hi=>by rw[Zi hi];exact hs i hi) (fun i hi=>(hu i hi).2) ΩC (fun i hi=>c78 k p (i:Nat) Ω) ho;have hp0:∀i,i≤k→0≤nxP p i∧nxP p i≤5:=fun i=>by
  induction i with
  |zero=>intro _;exact⟨Int.le_refl _,by show(0:Int)≤5;omega⟩
  |succ i ih=>intro hi;have:=ih Ω;have:=hp i Ω;rw[YS];omega
 unfold hsv I qA;(repeat' (first|refine sD ?_ ?_<;>intro _|refine aAa ?_|(simp -dsimp only[↓RP,RQ,xa0,reduceIte,reduceCtorEq,xa1,xa2,xa3,xa4,qv,qr,qw,qZ,xd3,QT,QN])))
 all_goals try exact Ωb
 refine qj hc Ωc ΩZ ?_;(repeat' (first|refine sD ?_ ?_<;>intro _|refine aAa ?_|(simp -dsimp only[↓RP,RQ,xa0,reduceIte,reduceCtorEq,xa1,xa2,xa3,xa4,stS,QT,qv,qr,qw,qZ,xd3,QN])))
 all_goals try exact Ωb
 refine qn (fun(w:Nat)=>w≤k) (fun w=>⟨[(3,.val (.int .i64 (v:Nat))),(4,.ptr 0 0),(6,.ptr 1 0),(11,.ptr 11 0),(13,.val (.int .i64 (nxP p w))),(26,.arr false false k 1 (fun i _=>.val (.int .i64 (p i)))),(27,.val (.int .i64 (k:Nat))),(28,.val (.int .i64 (w:Nat)))],[(11,.cells 140 (stL (vd m s))),(1,.cells 22 [.arr false false k 1 (fun i _=>.val (.int .i64 (p i)))]),(0,.cells 24 [.arr false false m 1 (fun i _=>.val (.int .i64 (u i)))])],50+60*w⟩) (fun w=>k - w) 0 (xb6 _) (weakSU Ω (by simp[qX,Go.Sx.look,nxP]) ?hw1) fun w hw=>?_
 case hw1=>exact SubHp.refl _
 by_cases hwk:w<k
 ·have hlt:=decide_eq_true (Ω:((w:Nat):Int)<(k:Nat))
  have h76:=J6 (p w) (nxP p w) ((m:Int) - 1);have hpw:=hp w hwk;have hpn:=hp0 w Ω;rw[decide_eq_true (Ω:nxP p w≤p w∧p w≤(m:Int) - 1)]at h76;(repeat' (first|refine sD ?_ ?_<;>intro _|refine aAa ?_|(simp -dsimp only[↓RP,RQ,xa0,reduceIte,reduceCtorEq,xa1,xa2,xa3,xa4,hlt,qv,qr,qw,qZ,xd3,QT,QN])))
  all_goals try exact Ωb
  refine qj (h76) Ωc Ωa ?_;(repeat' (first|refine sD ?_ ?_<;>intro _|refine aAa ?_|(simp -dsimp only[↓RP,RQ,xa0,reduceIte,reduceCtorEq,xa1,xa2,xa3,xa4,QT,qv,qr,qw,qZ,xd3,QN])))
  all_goals try exact Ωb
  exact⟨w+1,hwk,Ω,weakSU Ω (by simp[qX,Go.Sx.look,YS]) (by refine SubHp.skip ?_ (SubHp.refl _);simp only[blk];rw[if_neg Ω,if_neg Ω,if_neg Ω])⟩
 ·obtain rfl:k=w:=by omega
  have hlt:=decide_eq_false (Ω:¬((k:Nat):Int)<(k:Nat));have h76:=J6 (v:Nat) 0 ((m:Int) - 1);obtain⟨n1,hn1⟩:∃n1,n1=50+60*k:=⟨_,rfl⟩;rw[←hn1];have NB:=(⟨nmA (Ω:11<n1),nmA (Ω:1<n1),nmA (Ω:0<n1)⟩:_∧_∧_);rw[decide_eq_true (Ω:(0:Int)≤(v:Nat)∧((v:Nat):Int)≤(m:Int) - 1)]at h76;(repeat' (first|refine sD ?_ ?_<;>intro _|refine aAa ?_|(simp -dsimp only[↓RP,RQ,xa0,reduceIte,reduceCtorEq,xa1,xa2,xa3,xa4,hlt,NB,QR,qv,qr,qw,qZ,xd3,QT,QN])))
  all_goals try exact Ωb
  refine qj (h76) Ωc Ωa ?_;(repeat' (first|refine sD ?_ ?_<;>intro _|refine aAa ?_|(simp -dsimp only[↓RP,RQ,xa0,reduceIte,reduceCtorEq,xa1,xa2,xa3,xa4,QT,NB,QR,qv,qr,qw,qZ,xd3,QN])))
  all_goals try exact Ωb
  refine qj hpl Ωk ΩZ ?_;(repeat' (first|refine sD ?_ ?_<;>intro _|refine aAa ?_|(simp -dsimp only[↓RP,RQ,xa0,reduceIte,reduceCtorEq,xa1,xa2,xa3,xa4,stS,QT,NB,QR,qv,qr,qw,qZ,xd3,QN])))
  all_goals try exact Ωb
  skip
theorem c18(m:Nat)(u s:Nat→Int)(hk:ckH m u=0)(hs:∀i,i<m→0≤s i∧s i≤u i):qf Tryz.prog 18 [hsv m u,qA m s] (I 0):=by
 refine qg Tryz.func18 rfl Ωd follows Ωd _ _ (by rw[Tryz.ntmps18];simp) Ωv ?_;obtain⟨h1,h5,hu,_⟩:=GL hk;have hc:=c66 m u Ω;rw[hk]at hc;unfold hsv I qA;(repeat' (first|refine sD ?_ ?_<;>intro _|refine aAa ?_|(simp -dsimp only[↓RP,RQ,xa0,reduceIte,reduceCtorEq,xa1,xa2,xa3,xa4,qv,QT,QN])))
 all_goals try exact Ωb
 refine qj (hc) Ωc Ωa ?_;(repeat' (first|refine sD ?_ ?_<;>intro _|refine aAa ?_|(simp -dsimp only[↓RP,RQ,xa0,reduceIte,reduceCtorEq,xa1,xa2,xa3,xa4,QT,qv,QN])))
 all_goals try exact Ωb
 refine qn (fun(w:Nat)=>w≤m) (fun w=>⟨[(1,.arr false false m 1 (fun i _=>.val (.int .i64 (s i)))),(2,.ptr 0 0),(5,.val (.int .i64 (w:Nat)))],[(0,.cells 24 [.arr false false m 1 (fun i _=>.val (.int .i64 (u i)))])],50+40*w⟩) (fun w=>m - w) 0 (xb6 _) (weakSU Ω Ωf (SubHp.refl _)) fun w hw=>?_;by_cases hwm:w<m
 ·have hlt:=decide_eq_true (Ω:((w:Nat):Int)<(m:Nat))
  have⟨b1,b2⟩:=hs w hwm;have d1:=decide_eq_false (Ω:¬s w<0);have d2:=decide_eq_false (Ω:¬u w<s w);(repeat' (first|refine sD ?_ ?_<;>intro _|refine aAa ?_|(simp -dsimp only[↓RP,RQ,xa0,reduceIte,reduceCtorEq,xa1,xa2,xa3,xa4,hlt,d1,d2,qv,QT,QN])))
  all_goals try exact Ωb
  exact⟨w+1,hwm,Ω,weakSU Ω Ωf (SubHp.refl _)⟩
 ·obtain rfl:m=w:=by omega
  have hlt:=decide_eq_false (Ω:¬((m:Nat):Int)<(m:Nat));(repeat' (first|refine sD ?_ ?_<;>intro _|refine aAa ?_|(simp -dsimp only[↓RP,RQ,xa0,reduceIte,reduceCtorEq,xa1,xa2,xa3,xa4,hlt,qv,QT,QN])))
  all_goals try exact Ωb
theorem c11(m:Nat)(u:Nat→Int)(hm:m≤1000000):qf Tryz.prog 11 [hsv m u] (B (decide (m≤10∧ckH m u=0))):=by
 refine qg Tryz.func11 rfl Ωd follows Ωd _ _ (by rw[Tryz.ntmps11];simp) Ωv ?_;have hc:=c66 m u hm;unfold hsv B;by_cases h10:m≤10
 ·have d1:=decide_eq_true (Ω:((m:Nat):Int)≤10)
  (repeat' (first|refine sD ?_ ?_<;>intro _|refine aAa ?_|(simp -dsimp only[↓RP,RQ,xa0,reduceIte,reduceCtorEq,xa1,xa2,xa3,xa4,d1,QT,QN])))
  all_goals try exact Ωb
  refine qj (hc) Ωc Ωa ?_;have hx:decide (ckH m u=0)=decide (m≤10∧ckH m u=0):=by simp[h10]
  (repeat' (first|refine sD ?_ ?_<;>intro _|refine aAa ?_|(simp -dsimp only[↓RP,RQ,xa0,reduceIte,reduceCtorEq,xa1,xa2,xa3,xa4,d1,QT,QN])))
  all_goals try exact Ωb
  exact wu hx
 ·have d1:=decide_eq_false (Ω:¬((m:Nat):Int)≤10)
  (repeat' (first|refine sD ?_ ?_<;>intro _|refine aAa ?_|(simp -dsimp only[↓RP,RQ,xa0,reduceIte,reduceCtorEq,xa1,xa2,xa3,xa4,d1,QT,QN])))
  all_goals try exact Ωb
  exact wu (by simp[h10])
end Go.Tn
end
