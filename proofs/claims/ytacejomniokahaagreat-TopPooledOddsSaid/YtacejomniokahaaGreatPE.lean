/- A part of the proof. -/
import Derived.Test.YtacejomniokahaaGreatPC
open Nat renaming reduceMul→xa0,reduceAdd→xa1,reduceEqDiff→xa2,reduceLT→xa3,reduceLeDiff→xa4,le_refl→xa5,eq_of_beq_eq_true→xa6,le_of_ble_eq_true→xa7,mul_le_mul_right→xa8,lt_of_lt_of_le→xa9,zero_add→xb0,add_zero→xb1,zero_testBit→xb3,lt_succ_self→xb5,zero_le→xb6,sub_self→xb8,le_succ→xc4,add_comm→xc5
open List renaming getD_eq_getElem?_getD→xc6,getElem?_eq_getElem→xc7,length_append→xc8,getElem?_append_left→xc9,getElem?_append_right→xd0,length_singleton→xd1,mem_append→xd4,mem_cons_self→xd5,getElem?_cons_succ→xd7,length_replicate→xd8,length_take→xd9,mem_singleton→xe0,length_map→xe1,getElem?_range→xe3,length_cons→xe4,length_set→xe5
open Bool renaming and_eq_true→xe6,false_eq_true→xe7,or_eq_true→xe8,true_and→xf0,and_true→xf1,or_false→xf3,false_or→xf4
open Array renaming getD_eq_getD_getElem?→xf5,getElem?_toList→xf6,length_toList→xf7
open Classical renaming byContradiction→xf9
set_option linter.unusedVariables false
set_option linter.unusedSimpArgs false
set_option linter.defProp false
set_option linter.constructorNameAsVariable false
set_option maxRecDepth 1000000
set_option maxHeartbeats 16000000
section
namespace Go.Tn
open Go.Proofs
open Go.Sx
end Go.Tn
end
section
namespace Go.He
structure Wd where
 a:Int
 b:Int
 k:Int
def Lk(w:Wd)(x y:Int):Prop:=(w.a=x∧w.b=y)∨(w.k=1∧w.b=x∧w.a=y)
structure Pth(w:Nat→Wd)(c:Nat→Int)(j:Nat)(p:Nat→Int):Prop where
 lk:∀i,i<j→Lk (w (c i).toNat) (p i) (p (i+1))
inductive Go(w:Nat→Wd)(m:Nat)(x:Int):Nat→Int→Prop
 |nil:Go w m x 0 x
 |snoc {d:Nat} {y z:Int} (i:Nat) (h:Go w m x d y) (hi:i<m) (hl:Lk (w i) y z):Go w m x (d+1) z
theorem Go.app{w:Nat→Wd}{m:Nat}{x y z:Int}{d e:Nat}(h:Go w m x d y)(h2:Go w m y e z):Go w m x (d+e) z:=by
 induction h2 with
 |nil=>exact h
 |snoc i _ hi hl ih=>exact .snoc i ih hi hl
theorem Go.cons{w:Nat→Wd}{m:Nat}{x y z:Int}{e:Nat}(i:Nat)(hi:i<m)(hl:Lk (w i) x y)(h2:Go w m y e z):Go w m x (e+1) z:=by
 have:=Go.app (.snoc i .nil hi hl) h2
 rwa [xc5]at this
structure Fit(w:Nat→Wd)(m:Nat)(n:Int):Prop where
 a:∀i,i<m→0≤(w i).a∧(w i).a<n
 b:∀i,i<m→0≤(w i).b∧(w i).b<n
 ne:∀i,i<m→(w i).a≠(w i).b
 k:∀i,i<m→0≤(w i).k∧(w i).k≤2
theorem Lk.in{w:Nat→Wd}{m:Nat}{n:Int}(hf:Fit w m n){i:Nat}(hi:i<m){x y:Int}(h:Lk (w i) x y):(0≤x∧x<n)∧0≤y∧y<n:=by
 have a:=hf.a i hi;have b:=hf.b i hi;rcases h with⟨rfl,rfl⟩|⟨_,rfl,rfl⟩
 ·exact⟨a,b⟩
 ·exact⟨b,a⟩
theorem Go.in{w:Nat→Wd}{m:Nat}{n:Int}(hf:Fit w m n){x:Int}(hx:0≤x∧x<n){d:Nat}{y:Int}(h:Go w m x d y):0≤y∧y<n:=by
 cases h with
 |nil=>exact hx
 |snoc i _ hi hl=>exact(hl.in hf hi).2
open Classical in
noncomputable def cnt(P:Int→Prop):Nat→Nat
 |0=>0
 |n+1=>cnt P n+(if P n then 1 else 0)
open Classical in
theorem yQ(P:Int→Prop):∀n,cnt P n≤n
 |0=>xa5 0
 |n+1=>by simp only[cnt];have:=yQ P n;split<;>omega
def Wi(w:Nat→Wd)(m:Nat)(x:Int)(d:Nat)(y:Int):Prop:=∃e,e≤d∧Go w m x e y
theorem Wi.mono{w:Nat→Wd}{m:Nat}{x y:Int}{d e:Nat}(h:d≤e):Wi w m x d y→Wi w m x e y:=fun⟨k,h1,h2⟩=>⟨k,Ω,h2⟩
def Bef(w:Nat→Wd)(m:Nat)(x y:Int):Prop:=∃i d e,i<m∧(w i).k=0∧Go w m x d (w i).a∧Go w m (w i).b e y
theorem Bef.right{w:Nat→Wd}{m:Nat}{x y z:Int}{i:Nat}(h:Bef w m x y)(hi:i<m)(hl:Lk (w i) y z):Bef w m x z:=by
 obtain⟨j,d,e,h1,h2,h3,h4⟩:=h;exact⟨j,d,e+1,h1,h2,h3,.snoc i h4 hi hl⟩
def Loop(w:Nat→Wd)(m:Nat):Prop:=∃i d,i<m∧(w i).k=0∧Go w m (w i).b d (w i).a
noncomputable def key(w:Nat→Wd)(m n:Nat)(x:Int):Nat:=cnt (fun y=>Bef w m y x) n
end Go.He
end
section
namespace Go.He
def rkN(g:Nat→Int)(i:Nat):Nat→Int
 |0=>1
 |k+1=>if g k<g i then rkN g i k+1 else rkN g i k
def rk(g:Nat→Int)(n i:Nat):Int:=rkN g i n
theorem Jt{g h:Nat→Int}{i j:Nat}:∀{k:Nat},(∀x,x<k→(g x<g i↔h x<h j))→rkN g i k=rkN h j k
 |0,_=>rfl
 |k+1,e=>by
  simp only[rkN];rw[Jt (k:=k) fun x hx=>e x Ω];by_cases c:g k<g i
  ·rw[if_pos c,if_pos ((e k Ω).1 c)]
  ·rw[if_neg c,if_neg fun d=>c ((e k Ω).2 d)]
def Fin(g:Nat→Int)(n:Nat):Prop:=∀i,i<n→g i=rk g n i
theorem Fin.congr{g h:Nat→Int}{n:Nat}(e:∀i,i<n→g i=h i)(hf:Fin g n):Fin h n:=fun i hi=>by
 rw[←e i hi,hf i hi];exact Jt fun x hx=>by rw[e x hx,e i hi]
instance(g:Nat→Int)(n:Nat):Decidable (Fin g n):=by unfold Fin;infer_instance
def dg(n j t i:Nat):Nat:=t / n^(j - 1 - i) % n
def enc(n:Nat)(f:Nat→Nat):Nat→Nat
 |0=>0
 |j+1=>enc n f j*n+f j
end Go.He
end
section
namespace Go.He
end Go.He
end
section
namespace Go.He
theorem qbJ{φ:Nat→Nat}:∀{l m:List Nat},l.Nodup→(∀a,a∈l→φ a∈m)→(∀a b,a∈l→b∈l→φ a=φ b→a=b)→l.length≤m.length
 |[],_,_,_,_=>xb6 _
 |a :: l,m,hn,hm,hi=>by
  rw[List.nodup_cons]at hn;have h1:=hm a Ωg;have:=qbJ (φ:=φ) (l:=l) (m:=m.erase (φ a)) hn.2 (fun b hb=>by
   refine(List.mem_erase_of_ne fun e=>?_).2 (hm b (by simp[hb]));have:=hi b a (by simp[hb]) Ωg e;exact hn.1 (this▸hb)) fun b c hb hc=>hi b c (by simp[hb]) (by simp[hc])
  rw[List.length_erase_of_mem h1]at this;have h2:=List.length_pos_of_mem h1;simp only[xe4];omega
end Go.He
end
section
namespace Go.He
structure Mi(S:Nat→Prop)(N:Nat):Prop where
 none:N=0→∀L,¬S L
 some:N≠0→S N
 le:∀L,S L→N≤L
theorem Mi.congr{S T:Nat→Prop}{N:Nat}(h:Mi S N)(e:∀L,S L↔T L):Mi T N:=
 ⟨fun h0 L hL=>h.none h0 L ((e L).2 hL),fun h0=>(e N).1 (h.some h0),fun L hL=>h.le L ((e L).2 hL)⟩
theorem Mi.step{S:Nat→Prop}{N j:Nat}{c:Prop}[Decidable c](h:Mi S N)(hj:j≠0):Mi (fun L=>S L∨(c∧L=j)) (if c∧(N=0∨j<N)then j else N):=by
 split
 ·rename_i h1
  obtain⟨hc,h2⟩:=h1;refine⟨fun e=>absurd e hj,fun _=>.inr ⟨hc,rfl⟩,fun L hL=>?_⟩;rcases hL with hL|⟨_,rfl⟩
  ·rcases h2 with h0|h2
   ·exact absurd hL (h.none h0 L)
   ·have:=h.le L hL;omega
  ·exact xa5 _
 ·rename_i h1
  refine⟨fun e L hL=>?_,fun h0=>.inl (h.some h0),fun L hL=>?_⟩
  ·rcases hL with hL|⟨hc,_⟩
   ·exact h.none e L hL
   ·exact h1 ⟨hc,.inl e⟩
  ·rcases hL with hL|⟨hc,rfl⟩
   ·exact h.le L hL
   ·by_cases hN:N=0
    ·omega
    ·refine Nat.le_of_not_lt fun hlt=>h1 ⟨hc,.inr hlt⟩
end Go.He
end
section
namespace Go.He
def stI(w:Nat→Wd)(a b:Int):Nat→Option Nat
 |0=>none
 |i+1=>if (w i).k=0∧(w i).a=a∧(w i).b=b then some i else stI w a b i
def wkI(w:Nat→Wd)(a b:Int):Nat→Option Nat
 |0=>none
 |i+1=>if (w i).k≠0∧(((w i).a=a∧(w i).b=b)∨((w i).k=1∧(w i).b=a∧(w i).a=b))then some i else wkI w a b i
def lkI(w:Nat→Wd)(m:Nat)(a b:Int):Option Nat:=match stI w a b m with|some i=>some i|none=>wkI w a b m
structure Bs where
 wait:List Nat
 ways:Nat→List Nat
 seen:Nat→Bool
def upN{α:Type}(f:Nat→α)(k:Nat)(x:α)(j:Nat):α:=if j=k then x else f j
def stp(w:Nat→Wd)(m a:Nat)(s:Bs)(b:Nat):Bs:=
 match lkI w m a b with
 |some i=>if s.seen b=false then⟨s.wait++[b],upN s.ways b (s.ways a++[i]),upN s.seen b true⟩else s
 |none=>s
def inn(w:Nat→Wd)(m a:Nat)(s:Bs):Nat→Bs
 |0=>s
 |b+1=>stp w m a (inn w m a s b) b
def pop(s:Bs):Bs:=⟨s.wait.tail,s.ways,s.seen⟩
def nxt(w:Nat→Wd)(m n:Nat)(s:Bs):Bs:=pop (inn w m (s.wait.headD 0) s n)
def ini(x:Nat):Bs:=⟨[x],fun _=>[],fun j=>decide (j=x)⟩
def bfs(w:Nat→Wd)(m n to:Nat):Nat→Bs→Option (List Nat)
 |0,_=>none
 |f+1,s=>match s.wait with
  |[]=>none
  |a :: _=>if a=to then some (s.ways a)else bfs w m n to f (nxt w m n s)
inductive Wy(w:Nat→Wd)(m:Nat)(x:Int):List Nat→Int→Prop
 |nil:Wy w m x [] x
 |snoc {l:List Nat} {y z:Int} (i:Nat) (h:Wy w m x l y) (hi:i<m) (hl:Lk (w i) y z):Wy w m x (l++[i]) z
theorem Wy.go{w:Nat→Wd}{m:Nat}{x y:Int}{l:List Nat}(h:Wy w m x l y):Go w m x l.length y:=by
 induction h with
 |nil=>exact .nil
 |snoc i _ hi hl ih=>rw[xc8];exact .snoc i ih hi hl
theorem jv{n:Nat}:∀{l:List Nat},l.Nodup→(∀x,x∈l→x<n)→l.length≤n:=by
 intro l h1 h2;have:=qbJ (φ:=id) (l:=l) (m:=List.range n) h1 (fun a ha=>List.mem_range.2 (h2 a ha)) fun a b _ _ e=>e
 rwa [List.length_range]at this
structure Bf(w:Nat→Wd)(m n x:Nat)(done:List Nat)(s:Bs):Prop where
 nd:(done++s.wait).Nodup
 lt:∀y,y∈done++s.wait→y<n
 seen:∀y,s.seen y=true↔y∈done++s.wait
 way:∀y,y∈done++s.wait→Wy w m x (s.ways y) y
 src:x∈done++s.wait∧s.ways x=[]
 out:∀a,a∈done→∀b i:Nat,b<n→i<m→Lk (w i) a b→b∈done++s.wait∧(s.ways b).length≤(s.ways a).length+1
 sort:(done++s.wait).Pairwise fun y z=>(s.ways y).length≤(s.ways z).length
 near:∀a r,s.wait=a :: r→∀y,y∈s.wait→(s.ways y).length≤(s.ways a).length+1
def way(w:Nat→Wd)(m n x to:Nat):Option (List Nat):=bfs w m n to (n+1) (ini x)
end Go.He
end
section
namespace Go.He
theorem Wy.cons{w:Nat→Wd}{m:Nat}{x y z:Int}{l:List Nat}{i:Nat}(hi:i<m)(hl:Lk (w i) x y)(h:Wy w m y l z):Wy w m x (i :: l) z:=by
 induction h with
 |nil=>exact .snoc (l:=[]) i .nil hi hl
 |snoc j _ hj hl2 ih=>exact .snoc (l:=i :: _) j ih hj hl2
theorem Wy.lt{w:Nat→Wd}{m:Nat}{x y:Int}{l:List Nat}(h:Wy w m x l y):∀j,j∈l→j<m:=by
 induction h with
 |nil=>intro j hj;cases hj
 |snoc i _ hi _ ih=>
  intro j hj;rw[xd4,xe0]at hj;rcases hj with hj|rfl
  ·exact ih j hj
  ·exact hi
def cF(l:List Nat)(j:Nat):Int:=(l.getD j 0:Nat)
structure Cc(w:Nat→Wd)(m n:Nat)(c:List Nat):Prop where
 ex:∃i l,c=i :: l∧i<m∧(w i).k=0∧Wy w m (w i).b l (w i).a
def Pz(w:Nat→Wd)(m:Nat)(S:Nat→Nat→Prop)(L:Nat):Prop:=∃one two i d:Nat,S one two∧i<m∧(w i).k=0∧(w i).a=one∧(w i).b=two∧Go w m (w i).b d (w i).a∧L=d+1
structure Bt(w:Nat→Wd)(m n:Nat)(S:Nat→Nat→Prop)(best:List Nat):Prop where
 mi:Mi (Pz w m S) best.length
 ok:best≠[]→Cc w m n best
theorem Bt.congr{w:Nat→Wd}{m n:Nat}{S T:Nat→Nat→Prop}{best:List Nat}(h:Bt w m n S best)(e:∀a b,S a b↔T a b):Bt w m n T best:=
 ⟨h.mi.congr fun L=>⟨fun⟨a,b,i,d,hS,p⟩=>⟨a,b,i,d,(e a b).1 hS,p⟩,fun⟨a,b,i,d,hS,p⟩=>⟨a,b,i,d,(e a b).2 hS,p⟩⟩,h.ok⟩
end Go.He
end
section
namespace Go.He
structure Inc(l:List Nat)(f b:Nat):Prop where
 p:l.Pairwise (· < ·)
 m:∀x,x∈l→f≤x∧x<b
theorem Inc.cons{a:Nat}{l:List Nat}{f b:Nat}:Inc (a :: l) f b↔f≤a∧a<b∧Inc l (a+1) b:=by
 constructor
 ·intro h
  have h1:=List.pairwise_cons.1 h.p;have h2:=h.m a Ωg;exact⟨h2.1,h2.2,h1.2,fun x hx=>⟨h1.1 x hx,(h.m x (by simp[hx])).2⟩⟩
 ·rintro⟨h1,h2,h3⟩
  refine⟨List.pairwise_cons.2 ⟨fun x hx=>(h3.m x hx).1,h3.p⟩,fun x hx=>?_⟩;rcases List.mem_cons.1 hx with rfl|hx
  ·exact⟨h1,h2⟩
  ·have:=h3.m x hx;omega
theorem Inc.len{f b:Nat}:∀{l:List Nat},Inc l f b→l≠[]→f+l.length≤b
 |[],_,h=>absurd rfl h
 |[a],h,_=>by
  obtain⟨h1,h2,_⟩:=Inc.cons.1 h;show f+1≤b;omega
 |a :: c :: l,h,_=>by
  obtain⟨h1,h2,h3⟩:=Inc.cons.1 h;have:=Inc.len h3 Ωg;simp only[xe4]at *;omega
end Go.He
end
section
namespace Go.He
end Go.He
end
section
namespace Go.Tn
open Go.Proofs
open Go.Sx
open Go.He
theorem one1(a:Int):∀(i j:Nat),i<1→j<1→oneCell ([.val (.int .i64 a)].getD (i+j) SV.top)=true:=by
 intro i j hi hj;obtain rfl:i=0:=by omega
 obtain rfl:j=0:=by omega
 rfl
def vAt(u:Nat→Int)(v:Int)(i:Nat):Bool:=decide (v=u i)
theorem qoj(m:Nat)(u:Nat→Int)(v:Int)(hm:m≤1000000):qf Tryz.prog 169 [ints m u,I v] (I (zx (vAt u v) 0 m)):=by
 refine qg Tryz.func169 rfl Ωc follows Ωc _ _ (by rw[Tryz.ntmps169];simp) (by simp[OldL,Old,QV,hsv,ints,I,B]) ?_;unfold ints I;(repeat' (first|refine sD ?_ ?_<;>intro _|refine aA ?_|(simp -dsimp only[↓RP,RQ,xa0,reduceIte,reduceCtorEq,xa1,xa2,xa3,xa4,QT,QN])));refine qo (fun i=>i≤m∧zx (vAt u v) 0 m=zx (vAt u v) i (m - i)) (fun i=>⟨[(0,.arr false false m 1 (fun i _=>.val (.int .i64 (u i)))),(1,.val (.int .i64 v)),(7,.val (.int .i64 m)),(8,.val (.int .i64 i))],[],0⟩) (fun i=>m - i) 0 ⟨xb6 _,rfl⟩ (weak [] [] ?_ ?_ ?_) fun i hi=>?_
 iterate 3 focus((simp -dsimp only[↓RP,RQ,xa0,reduceIte,reduceCtorEq,xa1,xa2,xa3,xa4,QV]);all_goals (try simp[QV]))
 obtain⟨hi,he⟩:=hi;have e1:∀k,m - i=k+1→zx (vAt u v) i (m - i)=if vAt u v i=true then(i:Int)else zx (vAt u v) (i+1) k:=fun k hk=>by rw[hk];rfl
 by_cases hlt:i<m
 ·have e2:=e1 (m -(i+1)) Ω
  (repeat' (first|refine sD ?_ ?_<;>intro _|refine aA ?_|(simp -dsimp only[↓RP,RQ,xa0,reduceIte,reduceCtorEq,xa1,xa2,xa3,xa4,QT,QN])))
  all_goals try exact Ωb
  ·rename_i h
   refine gI ?_;rw[he,e2,if_pos (by simpa[vAt]using h)]
  ·rename_i h
   refine⟨i+1,⟨Ω,?_⟩,Ω,weak [] [] ?_ ?_ ?_⟩
   ·rw[he,e2,if_neg (by simpa[vAt]using h)]
   iterate 3 focus((simp -dsimp only[↓RP,RQ,xa0,reduceIte,reduceCtorEq,xa1,xa2,xa3,xa4,QV]);all_goals (try simp[QV]))
 ·(repeat' (first|refine sD ?_ ?_<;>intro _|refine aA ?_|(simp -dsimp only[↓RP,RQ,xa0,reduceIte,reduceCtorEq,xa1,xa2,xa3,xa4,QT,QN])))
  all_goals try exact Ωb
  refine gI ?_;have:m - i=0:=by omega
  rw[he,this];rfl
end Go.Tn
end
section
namespace Go.Sx
open Go.RowKit
noncomputable section
inductive Q8(β:Type):Type
 |mk (a b c d e f g h:β)
def T8(α:Type):Nat→Type
 |0=>Option α
 |n+1=>Q8 (T8 α n)
def Tr(n:Nat)(α:Type):Type:=T8 α n
inductive XB:Type
 |cells (t:TypeId) (l:List SV)
 |rows (t:TypeId) (k n:Nat) (l:List SV)
 |loop (s:RSt)
 |map (ag:Bool) (ls:List Lf) (es:List (Value×Option SV))
inductive Q:Type
 |mk (s:SV) (hp:Tr 6 XB) (nid:Nat)
inductive R:Type
 |ok (q:Q)
 |bad (c id:Nat)
variable{ρ:Q}
section
variable{α β:Type}
def qk(n:Nat)(f:Nat→β):β:=Nat.rec (f 0) (fun m _=>f (Nat.succ m)) n
theorem qi(n:Nat)(f:Nat→β):qk n f=f n:=by cases n<;>rfl
def WO(n:Int)(f:Int→β):β:=Int.rec (fun a=>qk a fun a=>f (.ofNat a)) (fun a=>qk a fun a=>f (.negSucc a)) n
theorem jl(n:Int)(f:Int→β):WO n f=f n:=by cases n<;>exact qi _ (fun a=>f _)
def ZJ(b:Bool)(f:Bool→β):β:=Bool.rec (f false) (f true) b
theorem Qv(b:Bool)(f:Bool→β):ZJ b f=f b:=by cases b<;>rfl
def gk(l:List α)(f:List α→β):β:=(List.rec (motive:=fun _=>(List α→β)→β) (fun f=>f []) (fun a _ ih f=>ih fun l=>f (a :: l)) l) f
theorem qQ(l:List α):∀(f:List α→β),gk l f=f l:=by
 induction l with
 |nil=>intro f;rfl
 |cons a l ih=>intro f;exact ih fun l=>f (a :: l)
inductive Bx(α:Type):Type
 |mk (a:α)
def Bx.get(b:Bx α):α:=Bx.rec (fun a=>a) b
def em8(α:Type):(n:Nat)→T8 α n
 |0=>none
 |n+1=>.mk (em8 α n) (em8 α n) (em8 α n) (em8 α n) (em8 α n) (em8 α n) (em8 α n) (em8 α n)
def Tr.nil{n:Nat}{α:Type}:Tr n α:=em8 α n
def Ju(k:Nat)(x0 x1 x2 x3 x4 x5 x6 x7:β):β:=Nat.rec x0 (fun k _=>Nat.rec x1 (fun k _=>Nat.rec x2 (fun k _=>Nat.rec x3 (fun k _=>Nat.rec x4 (fun k _=>Nat.rec x5 (fun k _=>Nat.rec x6 (fun _ _=>x7) k) k) k) k) k) k) k
def WP(k:Nat)(t:Q8 β):β:=Q8.rec (fun a b c d e f g h=>Ju k a b c d e f g h) t
def qlH(k:Nat)(t:Q8 β)(y:β):Q8 β:=Q8.rec (fun a b c d e f g h=>Ju k (.mk y b c d e f g h) (.mk a y c d e f g h) (.mk a b y d e f g h) (.mk a b c y e f g h) (.mk a b c d y f g h) (.mk a b c d e y g h) (.mk a b c d e f y h) (.mk a b c d e f g y)) t
theorem WQ{k:Nat}(h:k<8):k=0∨k=1∨k=2∨k=3∨k=4∨k=5∨k=6∨k=7:=by omega
theorem qgg{k j:Nat}(hk:k<8)(hj:j<8)(t:Q8 β)(y:β):WP j (qlH k t y)=if j=k then y else WP j t:=by
 cases t;rcases WQ hk with rfl|rfl|rfl|rfl|rfl|rfl|rfl|rfl<;>rcases WQ hj with rfl|rfl|rfl|rfl|rfl|rfl|rfl|rfl<;>rfl
def yo(α:Type)(n:Nat):Nat→Bx (T8 α n→Option α):=Nat.rec (motive:=fun n=>Nat→Bx (T8 α n→Option α)) (fun i=>Nat.rec (.mk fun t=>t) (fun _ _=>.mk fun _=>none) i)
 (fun n ih i=>qk (i / 8) fun k=>Bx.rec (fun q=>Ju (i % 8) (.mk fun t=>Q8.rec (motive:=fun _=>Option α) (fun a _ _ _ _ _ _ _=>q a) t) (.mk fun t=>Q8.rec (motive:=fun _=>Option α) (fun _ a _ _ _ _ _ _=>q a) t) (.mk fun t=>Q8.rec (motive:=fun _=>Option α) (fun _ _ a _ _ _ _ _=>q a) t) (.mk fun t=>Q8.rec (motive:=fun _=>Option α) (fun _ _ _ a _ _ _ _=>q a) t) (.mk fun t=>Q8.rec (motive:=fun _=>Option α) (fun _ _ _ _ a _ _ _=>q a) t) (.mk fun t=>Q8.rec (motive:=fun _=>Option α) (fun _ _ _ _ _ a _ _=>q a) t) (.mk fun t=>Q8.rec (motive:=fun _=>Option α) (fun _ _ _ _ _ _ a _=>q a) t) (.mk fun t=>Q8.rec (motive:=fun _=>Option α) (fun _ _ _ _ _ _ _ a=>q a) t)) (ih k)) n
theorem Zl(n i:Nat)(t:T8 α (n+1)):(yo α (n+1) i).get t=(yo α n (i / 8)).get (WP (i % 8) t):=by
 have e:yo α (n+1) i=qk (i / 8) fun k=>Bx.rec (fun q=>Ju (i % 8) (.mk fun t=>Q8.rec (motive:=fun _=>Option α) (fun a _ _ _ _ _ _ _=>q a) t) (.mk fun t=>Q8.rec (motive:=fun _=>Option α) (fun _ a _ _ _ _ _ _=>q a) t) (.mk fun t=>Q8.rec (motive:=fun _=>Option α) (fun _ _ a _ _ _ _ _=>q a) t) (.mk fun t=>Q8.rec (motive:=fun _=>Option α) (fun _ _ _ a _ _ _ _=>q a) t) (.mk fun t=>Q8.rec (motive:=fun _=>Option α) (fun _ _ _ _ a _ _ _=>q a) t) (.mk fun t=>Q8.rec (motive:=fun _=>Option α) (fun _ _ _ _ _ a _ _=>q a) t) (.mk fun t=>Q8.rec (motive:=fun _=>Option α) (fun _ _ _ _ _ _ a _=>q a) t) (.mk fun t=>Q8.rec (motive:=fun _=>Option α) (fun _ _ _ _ _ _ _ a=>q a) t)) (yo α n k):=rfl;rw[e,qi];cases yo α n (i / 8)with
 |mk q=>
 cases t;rcases WQ (Nat.mod_lt i (show 0<8 by decide))with h|h|h|h|h|h|h|h<;>rw[h]<;>rfl
def Tr.find{n:Nat}(t:Tr n α)(i:Nat):Option α:=qk i fun i=>Bx.rec (fun q=>q t) (yo α n i)
theorem Z0{n:Nat}(t:Tr n α)(i:Nat):t.find i=(yo α n i).get t:=by
 unfold Tr.find;rw[qi];rfl
theorem qgh:∀(n i:Nat),(yo α n i).get (em8 α n)=none
 |0,0=>rfl
 |0,_+1=>rfl
 |n+1,i=>by
  rw[Zl];have:WP (i % 8) (em8 α (n+1))=em8 α n:=by
   rcases WQ (Nat.mod_lt i (show 0<8 by decide))with h|h|h|h|h|h|h|h<;>rw[h]<;>rfl
  rw[this];exact qgh n _
theorem Qw{n:Nat}(i:Nat):(Tr.nil:Tr n α).find i=none:=by rw[Z0];exact qgh n i
def yR(α:Type)(n:Nat):Nat→Bx (T8 α n→Option α→(T8 α n→R)→R):=Nat.rec (motive:=fun n=>Nat→Bx (T8 α n→Option α→(T8 α n→R)→R)) (fun i=>Nat.rec (.mk fun _ a f=>f a) (fun _ _=>.mk fun _ _ _=>.bad 2 0) i)
 (fun n ih i=>qk (i / 8) fun k=>Bx.rec (fun q=>Ju (i % 8) (.mk fun t s z=>Q8.rec (motive:=fun _=>R) (fun a b c d e f g h=>q a s fun a=>z (.mk a b c d e f g h)) t) (.mk fun t s z=>Q8.rec (motive:=fun _=>R) (fun a b c d e f g h=>q b s fun b=>z (.mk a b c d e f g h)) t) (.mk fun t s z=>Q8.rec (motive:=fun _=>R) (fun a b c d e f g h=>q c s fun c=>z (.mk a b c d e f g h)) t) (.mk fun t s z=>Q8.rec (motive:=fun _=>R) (fun a b c d e f g h=>q d s fun d=>z (.mk a b c d e f g h)) t)
  (.mk fun t s z=>Q8.rec (motive:=fun _=>R) (fun a b c d e f g h=>q e s fun e=>z (.mk a b c d e f g h)) t) (.mk fun t s z=>Q8.rec (motive:=fun _=>R) (fun a b c d e f g h=>q f s fun f=>z (.mk a b c d e f g h)) t) (.mk fun t s z=>Q8.rec (motive:=fun _=>R) (fun a b c d e f g h=>q g s fun g=>z (.mk a b c d e f g h)) t) (.mk fun t s z=>Q8.rec (motive:=fun _=>R) (fun a b c d e f g h=>q h s fun h=>z (.mk a b c d e f g h)) t)) (ih k)) n
theorem qea(n i:Nat)(t:T8 α (n+1))(s:Option α)(z:T8 α (n+1)→R):(yR α (n+1) i).get t s z=(yR α n (i / 8)).get (WP (i % 8) t) s fun y=>z (qlH (i % 8) t y):=by
 have e:yR α (n+1) i=qk (i / 8) fun k=>Bx.rec (fun q=>Ju (i % 8) (.mk fun t s z=>Q8.rec (motive:=fun _=>R) (fun a b c d e f g h=>q a s fun a=>z (.mk a b c d e f g h)) t) (.mk fun t s z=>Q8.rec (motive:=fun _=>R) (fun a b c d e f g h=>q b s fun b=>z (.mk a b c d e f g h)) t) (.mk fun t s z=>Q8.rec (motive:=fun _=>R) (fun a b c d e f g h=>q c s fun c=>z (.mk a b c d e f g h)) t) (.mk fun t s z=>Q8.rec (motive:=fun _=>R) (fun a b c d e f g h=>q d s fun d=>z (.mk a b c d e f g h)) t)
  (.mk fun t s z=>Q8.rec (motive:=fun _=>R) (fun a b c d e f g h=>q e s fun e=>z (.mk a b c d e f g h)) t) (.mk fun t s z=>Q8.rec (motive:=fun _=>R) (fun a b c d e f g h=>q f s fun f=>z (.mk a b c d e f g h)) t) (.mk fun t s z=>Q8.rec (motive:=fun _=>R) (fun a b c d e f g h=>q g s fun g=>z (.mk a b c d e f g h)) t) (.mk fun t s z=>Q8.rec (motive:=fun _=>R) (fun a b c d e f g h=>q h s fun h=>z (.mk a b c d e f g h)) t)) (yR α n k):=rfl
 rw[e,qi];cases yR α n (i / 8)with
 |mk q=>
 cases t;rcases WQ (Nat.mod_lt i (show 0<8 by decide))with h|h|h|h|h|h|h|h<;>rw[h]<;>rfl
def qW{n:Nat}(a:Option α)(_:Nat)(t:Tr n α)(i:Nat)(f:Tr n α→R):R:=qk i fun i=>Bx.rec (fun q=>q t a f) (yR α n i)
theorem Vq{n:Nat}(a:Option α)(m:Nat)(t:Tr n α)(i:Nat)(f:Tr n α→R):qW a m t i f=(yR α n i).get t a f:=by
 unfold qW;rw[qi];rfl
def qgi{n:Nat}(t t':Tr n α)(i:Nat)(a:Option α):Prop:=∀j,t'.find j=if j=i then a else t.find j
theorem qbK{a:Option α}:∀(n:Nat)(t:T8 α n)(i:Nat)(f:T8 α n→R),(yR α n i).get t a f=.ok ρ→∃t',(∀j,(yo α n j).get t'=if j=i then a else(yo α n j).get t)∧f t'=.ok ρ
 |0,t,i,f,h=>by
  cases i with
  |zero=>
   refine⟨a,fun j=>?_,h⟩;cases j with
   |zero=>rw[if_pos rfl];rfl
   |succ j=>rw[if_neg (Nat.succ_ne_zero j)];rfl
  |succ i=>cases h
 |n+1,t,i,f,h=>by
  rw[qea]at h;obtain⟨t',h1,h2⟩:=qbK n _ _ _ h;refine⟨_,fun j=>?_,h2⟩;refine(Zl n j _).trans ?_;have e1:(if j=i then a else(yo α (n+1) j).get t)=if j=i then a else(yo α n (j / 8)).get (WP (j % 8) t):=by
   by_cases c:j=i
   ·rw[if_pos c,if_pos c]
   ·rw[if_neg c,if_neg c];exact Zl n j t
  refine Eq.trans ?_ e1.symm;have e2:WP (j % 8) (qlH (i % 8) t t')=if j % 8=i % 8 then t' else WP (j % 8) t:=qgg (Nat.mod_lt _ Ωu) (Nat.mod_lt _ Ωu) t t'
  refine(congrArg (yo α n (j / 8)).get e2).trans ?_;by_cases c:j % 8=i % 8
  ·rw[if_pos c,h1,c]
   by_cases d:j / 8=i / 8
   ·rw[if_pos d,if_pos Ω]
   ·rw[if_neg d,if_neg (by intro e;rw[e]at d;exact d rfl)]
  ·rw[if_neg c,if_neg (by intro e;rw[e]at c;exact c rfl)]
theorem qz{n:Nat}{a:Option α}(m:Nat)(t:Tr n α)(i:Nat)(f:Tr n α→R)(h:qW a m t i f=.ok ρ):∃t',qgi t t' i a∧f t'=.ok ρ:=by
 rw[Vq]at h;obtain⟨t',h1,h2⟩:=qbK n t i f h;refine⟨t',fun j=>(Z0 (n:=n) t' j).trans ((h1 j).trans ?_),h2⟩;by_cases c:j=i
 ·rw[if_pos c,if_pos c]
 ·rw[if_neg c,if_neg c];exact(Z0 (n:=n) t j).symm
end
def qj(c:Nat)(a:Bool)(b:R):R:=Bool.rec (.bad c 0) b a
theorem qe{c:Nat}{a:Bool}{b:R}(h:qj c a b=.ok ρ):a=true∧b=.ok ρ:=by
 cases a
 ·cases h
 ·exact⟨rfl,h⟩
def qng(c i:Nat)(a:Bool)(b:R):R:=Bool.rec (.bad c i) b a
theorem qjf{c i:Nat}{a:Bool}{b:R}(h:qng c i a b=.ok ρ):a=true∧b=.ok ρ:=by
 cases a
 ·cases h
 ·exact⟨rfl,h⟩
def hiK(k:IntKind):Nat:=IntKind.rec 127 32767 2147483647 9223372036854775807 255 65535 4294967295 18446744073709551615 k
def loK(k:IntKind):Nat:=IntKind.rec 128 32768 2147483648 9223372036854775808 0 0 0 0 k
def qjg(k:IntKind)(n:Int):Bool:=Int.rec (fun a=>Nat.ble a (hiK k)) (fun a=>Nat.ble (Nat.succ a) (loK k)) n
theorem Qx{k:IntKind}{n:Int}(h:qjg k n=true):InK k n:=by
 cases n with
 |ofNat a=>
  have h:Nat.ble a (hiK k)=true:=h;have h:=xa7 h;cases k<;>simp only[hiK]at h<;>simp only[InK,Int.ofNat_eq_natCast]<;>omega
 |negSucc a=>
  have h:Nat.ble (Nat.succ a) (loK k)=true:=h;have h:=xa7 h;cases k<;>simp only[loK]at h<;>simp only[InK]<;>omega
def ZT(a b:Int):Bool:=Int.rec (fun a=>Int.rec (fun b=>Nat.ble (Nat.succ a) b) (fun _=>false) b) (fun a=>Int.rec (fun _=>true) (fun b=>Nat.ble (Nat.succ b) a) b) a
theorem Z5(a b:Int):ZT a b=decide (a<b):=by
 rw[Bool.eq_iff_iff,decide_eq_true_eq];cases a with
 |ofNat a=>cases b with
  |ofNat b=>show Nat.ble (Nat.succ a) b=true↔_;rw[Nat.ble_eq,Int.ofNat_eq_natCast,Int.ofNat_eq_natCast];omega
  |negSucc b=>show false=true↔_;simp only[xe7,false_iff,Int.ofNat_eq_natCast];omega
 |negSucc a=>cases b with
  |ofNat b=>show true=true↔_;simp only[true_iff,Int.ofNat_eq_natCast];omega
  |negSucc b=>show Nat.ble (Nat.succ b) a=true↔_;rw[Nat.ble_eq];omega
def GW(a b:Int):Bool:=Int.rec (fun a=>Int.rec (fun b=>Nat.beq a b) (fun _=>false) b) (fun a=>Int.rec (fun _=>false) (fun b=>Nat.beq a b) b) a
theorem w9(a b:Int):GW a b=decide (a=b):=by
 rw[Bool.eq_iff_iff,decide_eq_true_eq];cases a with
 |ofNat a=>cases b with
  |ofNat b=>show Nat.beq a b=true↔_;rw[Nat.beq_eq,Int.ofNat_eq_natCast,Int.ofNat_eq_natCast];omega
  |negSucc b=>show false=true↔_;simp only[xe7,false_iff,Int.ofNat_eq_natCast];omega
 |negSucc a=>cases b with
  |ofNat b=>show false=true↔_;simp only[xe7,false_iff,Int.ofNat_eq_natCast];omega
  |negSucc b=>show Nat.beq a b=true↔_;rw[Nat.beq_eq];omega
def qlI(v:Value)(f:SV→R):R:=
 match v with
 |.int k n=>WO n fun n=>f (.val (.int k n))
 |.bool b=>ZJ b fun b=>f (.val (.bool b))
 |v=>f (.val v)
theorem qjh(v:Value)(f:SV→R):qlI v f=f (.val v):=by
 unfold qlI;split
 ·exact jl _ (fun n=>f (.val (.int _ n)))
 ·exact Qv _ (fun n=>f (.val (.bool n)))
 ·rfl
def svK(s:SV)(f:SV→R):R:=
 match s with
 |.val v=>qlI v f
 |.agg l=>gk l fun l=>f (.agg l)
 |.ptr id off=>qk off fun off=>f (.ptr id off)
 |.elt id k i j=>qk i fun i=>qk j fun j=>f (.elt id k i j)
 |.vec id n k=>qk n fun n=>f (.vec id n k)
 |.cut id n k=>qk n fun n=>f (.cut id n k)
 |.asl id off n k=>qk off fun off=>qk n fun n=>f (.asl id off n k)
 |.que id off n k=>qk off fun off=>qk n fun n=>f (.que id off n k)
 |s=>f s
theorem yS(s:SV)(f:SV→R):svK s f=f s:=by
 unfold svK;split<;>simp only[qjh,qQ,qi]
def yp(l:List SV)(f:List SV→R):R:=(List.rec (motive:=fun _=>(List SV→R)→R) (fun f=>f []) (fun a _ ih f=>svK a fun a=>ih fun l=>f (a :: l)) l) f
theorem kd(l:List SV):∀(f:List SV→R),yp l f=f l:=by
 induction l with
 |nil=>intro f;rfl
 |cons a l ih=>
  intro f;show svK a (fun a=>yp l fun l=>f (a :: l))=_;rw[yS,ih]
def kN(k:IntKind):Nat:=IntKind.rec 0 1 2 3 4 5 6 7 k
theorem qgj(k k':IntKind):Nat.beq (kN k) (kN k')=decide (k=k'):=by cases k<;>cases k'<;>rfl
def lfB(a b:Lf):Bool:=Lf.rec (fun k=>Lf.rec (fun k'=>Nat.beq (kN k) (kN k')) false b) (Lf.rec (fun _=>false) true b) a
theorem qlJ{a b:Lf}(h:lfB a b=true):a=b:=by
 cases a with
 |i k=>cases b with
  |i k'=>
   have h:Nat.beq (kN k) (kN k')=true:=h;rw[qgj,decide_eq_true_eq]at h;rw[h]
  |b=>cases h
 |b=>cases b with
  |i k'=>cases h
  |b=>rfl
def qlK(l:List Lf):List Lf→Bool:=List.rec (motive:=fun _=>List Lf→Bool) (fun m=>List.rec true (fun _ _ _=>false) m) (fun a _ ih m=>List.rec false (fun c m _=>Bool.rec false (ih m) (lfB a c)) m) l
theorem qbL:∀{l m:List Lf},qlK l m=true→l=m
 |[],[],_=>rfl
 |[],_ :: _,h=>by cases h
 |_ :: _,[],h=>by cases h
 |a :: l,b :: m,h=>by
  have h:(Bool.rec false (qlK l m) (lfB a b):Bool)=true:=h;cases q:lfB a b with
  |false=>rw[q]at h;cases h
  |true=>rw[q]at h;rw[qlJ q,qbL h]
def qgk(v:Value):(IntKind→Int→Bool)→Bool→Bool:=Value.rec (motive_1:=fun _=>(IntKind→Int→Bool)→Bool→Bool) (motive_2:=fun _=>PUnit) (motive_3:=fun _=>PUnit) (fun _ f d=>d) (fun k n f d=>f k n) (fun _ _ f d=>d) (fun _ _ _ f d=>d) (fun _ f d=>d) (fun _ f d=>d) (fun _ _ _ f d=>d) (fun _ f d=>d) (fun _ f d=>d) (fun _ _ _ _ _ f d=>d) (fun  f d=>d) (fun _ _ _ f d=>d) (fun  f d=>d) (fun _ _ f d=>d) (fun _ _ f d=>d) (fun _ _=>PUnit.unit) PUnit.unit (fun _ _ _ _=>PUnit.unit) v
def qay(v:Value):(Bool→Bool)→Bool→Bool:=Value.rec (motive_1:=fun _=>(Bool→Bool)→Bool→Bool) (motive_2:=fun _=>PUnit) (motive_3:=fun _=>PUnit) (fun b f d=>f b) (fun _ _ f d=>d) (fun _ _ f d=>d) (fun _ _ _ f d=>d) (fun _ f d=>d) (fun _ f d=>d) (fun _ _ _ f d=>d) (fun _ f d=>d) (fun _ f d=>d) (fun _ _ _ _ _ f d=>d) (fun  f d=>d) (fun _ _ _ f d=>d) (fun  f d=>d) (fun _ _ f d=>d) (fun _ _ f d=>d) (fun _ _=>PUnit.unit) PUnit.unit (fun _ _ _ _=>PUnit.unit) v
def qbM(v:Value):(List Value→Bool)→Bool→Bool:=Value.rec (motive_1:=fun _=>(List Value→Bool)→Bool→Bool) (motive_2:=fun _=>PUnit) (motive_3:=fun _=>PUnit) (fun _ f d=>d) (fun _ _ f d=>d) (fun _ _ f d=>d) (fun _ _ _ f d=>d) (fun _ f d=>d) (fun _ f d=>d) (fun _ _ _ f d=>d) (fun _ f d=>d) (fun _ f d=>d) (fun _ _ _ _ _ f d=>d) (fun  f d=>d) (fun _ _ _ f d=>d) (fun  f d=>d) (fun c ih f d=>f c.toList) (fun _ _ f d=>d) (fun _ _=>PUnit.unit) PUnit.unit (fun _ _ _ _=>PUnit.unit) v
def qbN(v u:Value):Bool:=qgk v (fun k a=>qgk u (fun k' b=>Bool.rec false (GW a b) (Nat.beq (kN k) (kN k'))) false) (qay v (fun a=>qay u (fun b=>Bool.rec (Bool.rec true false b) b a) false) false)
theorem WR(v u:Value):qbN v u=wg v u:=by
 cases v<;>first|rfl|skip
 case bool a=>cases u<;>first|rfl|(rename_i b;cases a<;>cases b<;>rfl)
 case int k a=>
  cases u<;>first|rfl|skip
  rename_i k' b;show(Bool.rec false (GW a b) (Nat.beq (kN k) (kN k')):Bool)=(decide (k=k')&&decide (a=b));rw[qgj,w9];cases decide (k=k')<;>rfl
def qgl(l:List Value):List Value→Bool:=List.rec (motive:=fun _=>List Value→Bool) (fun m=>List.rec true (fun _ _ _=>false) m) (fun a _ ih m=>List.rec false (fun b m _=>Bool.rec false (ih m) (qbN a b)) m) l
theorem WS:∀(l m:List Value),qgl l m=jI l m
 |[],[]=>rfl
 |[],_ :: _=>rfl
 |_ :: _,[]=>rfl
 |a :: l,b :: m=>by
  show(Bool.rec false (qgl l m) (qbN a b):Bool)=(wg a b&&jI l m);rw[WR,WS l m];cases wg a b<;>rfl
def Gb(v u:Value):Bool:=qbM v (fun a=>qbM u (fun b=>qgl a b) false) (qbM u (fun _=>false) (qbN v u))
theorem Vr(v u:Value):Gb v u=eqK v u:=by
 have h:=WR v u;cases v<;>cases u<;>first|exact h|rfl|exact WS _ _
def qgm(f:Lf)(v:Value):Bool:=Lf.rec (fun k=>qgk v (fun k' _=>Nat.beq (kN k) (kN k')) false) (qay v (fun _=>true) false) f
theorem qgn(f:Lf)(v:Value):qgm f v=lfOk f v:=by
 cases f<;>cases v<;>first|rfl|exact qgj _ _
def qji(l:List Lf):List Value→Bool:=List.rec (motive:=fun _=>List Value→Bool) (fun m=>List.rec true (fun _ _ _=>false) m) (fun a _ ih m=>List.rec false (fun b m _=>Bool.rec false (ih m) (qgm a b)) m) l
theorem Vs:∀(l:List Lf)(m:List Value),qji l m=qS l m
 |[],[]=>rfl
 |[],_ :: _=>rfl
 |_ :: _,[]=>rfl
 |a :: l,b :: m=>by
  show(Bool.rec false (qji l m) (qgm a b):Bool)=(lfOk a b&&qS l m);rw[qgn,Vs l m];cases lfOk a b<;>rfl
def Z6(ag:Bool)(ls:List Lf)(v:Value):Bool:=Bool.rec (qji ls [v]) (qbM v (fun c=>qji ls c) false) ag
theorem yT(ag:Bool)(ls:List Lf)(v:Value):Z6 ag ls v=ql ag ls v:=by
 cases ag with
 |false=>exact Vs _ _
 |true=>cases v<;>first|rfl|exact Vs _ _
def kY(es:List (Value×Option SV))(k:Value):Option SV:=List.rec (motive:=fun _=>Option SV) none (fun p _ ih=>Bool.rec ih p.2 (Gb p.1 k)) es
theorem zY(p:Value×Option SV)(es:List (Value×Option SV))(k:Value):kY (p :: es) k=if eqK p.1 k=true then p.2 else kY es k:=by
 show(Bool.rec (kY es k) p.2 (Gb p.1 k):Option SV)=_;rw[Vr];cases eqK p.1 k<;>rfl
def RowL(n k:Nat)(l:List SV)(row:Nat→Nat→SV):Prop:=l.length=n*k∧∀i j,i<n→j<k→row i j=l.getD (i*k+j) .top
def BRel(lm:Option Loop):XB→Blk→Prop
 |.cells t l,.cells t' l'=>t=t'∧l=l'
 |.rows t k n l,.rows t' k' n' row=>t=t'∧k=k'∧n=n'∧RowL n k l row
 |.loop s,.loop L s'=>s=s'∧lm=some L
 |.map ag ls es,.map fit dom get=>fit=ql ag ls∧∀k,dom k=(kY es k).isSome∧∀s,kY es k=some s→get k=s
 |_,_=>False
def HRel(LM:Nat→Option Loop)(hp:Tr 6 XB)(H:List (Nat×Blk)):Prop:=∀id b,hp.find id=some b→∃b',blk H id=some b'∧BRel (LM id) b b'
theorem BRel.any{lm:Option Loop}{b:XB}{b':Blk}(h:BRel none b b'):BRel lm b b':=by
 cases b<;>cases b'<;>simp only[BRel,reduceCtorEq,and_false]at h ⊢<;>exact h
theorem HRel.cells{LM:Nat→Option Loop}{hp:Tr 6 XB}{H:List (Nat×Blk)}(h:HRel LM hp H){id:Nat}{t:TypeId}{l:List SV}(e:hp.find id=some (.cells t l)):blk H id=some (.cells t l):=by
 obtain⟨b',h1,h2⟩:=h _ _ e;cases b'<;>simp only[BRel]at h2
 obtain⟨rfl,rfl⟩:=h2;exact h1
theorem HRel.rows{LM:Nat→Option Loop}{hp:Tr 6 XB}{H:List (Nat×Blk)}(h:HRel LM hp H){id:Nat}{t:TypeId}{k n:Nat}{l:List SV}(e:hp.find id=some (.rows t k n l)):∃row,blk H id=some (.rows t k n row)∧RowL n k l row:=by
 obtain⟨b',h1,h2⟩:=h _ _ e;cases b'<;>simp only[BRel]at h2
 obtain⟨rfl,rfl,rfl,h3⟩:=h2;exact⟨_,h1,h3⟩
theorem HRel.map{LM:Nat→Option Loop}{hp:Tr 6 XB}{H:List (Nat×Blk)}(h:HRel LM hp H){id:Nat}{ag:Bool}{ls:List Lf}{es:List (Value×Option SV)}(e:hp.find id=some (.map ag ls es)):∃dom get,blk H id=some (.map (ql ag ls) dom get)∧∀k,dom k=(kY es k).isSome∧∀s,kY es k=some s→get k=s:=by
 obtain⟨b',h1,h2⟩:=h _ _ e;cases b'<;>simp only[BRel]at h2
 obtain⟨rfl,h3⟩:=h2;exact⟨_,_,h1,h3⟩
inductive XR:Type
 |pure (s:SV)
 |new (b:XB) (s:SV)
 |upd (id:Nat) (b:XB) (s:SV)
 |grow (old:Nat) (b:XB) (s:SV)
 |call (f:Nat) (args:List SV)
 |yield (id:Nat) (args:List SV)
def qnh(s:SV)(r:Res):Prop:=(∃obl,r=.pure obl s∧obl)∨∃obl,r=.ex obl∧obl s
def Hit(x:XR)(id:Nat)(r:Res):Prop:=
 match x with
 |.pure s=>qnh s r
 |.new b s=>∃obl b' mk,r=.new obl b' mk∧obl∧BRel none b b'∧mk id=s
 |.upd j b s=>(∃obl b',r=.upd obl j b'∧obl∧BRel none b b'∧s=undefSV)∨∃obl b',r=.updv obl j b' s∧obl∧BRel none b b'
 |.grow j b s=>∃obl b' mk,r=.grow obl j b' mk∧obl∧BRel none b b'∧mk id=s
 |.call g args=>r=.call g args
 |.yield y args=>r=.yield y args
def zQ(ρ:Q)(f:XR→R)(id:Nat)(r:Res):Prop:=∃x,Hit x id r∧f x=.ok ρ
theorem qh{f:XR→R}{id:Nat}{r:Res}{s:SV}{obl:Prop}(e:r=.pure obl s)(ho:obl)(h:f (.pure s)=.ok ρ):zQ ρ f id r:=⟨.pure s,.inl ⟨obl,e,ho⟩,h⟩
theorem Qy{f:XR→R}{id:Nat}{r:Res}{s:SV}{obl:SV→Prop}(e:r=.ex obl)(ho:obl s)(h:f (.pure s)=.ok ρ):zQ ρ f id r:=⟨.pure s,.inr ⟨obl,e,ho⟩,h⟩
theorem gV{f:XR→R}{id:Nat}{r:Res}{b:XB}{s:SV}{obl:Prop}{b':Blk}{mk:Nat→SV}(h:f (.new b s)=.ok ρ)(e:r=.new obl b' mk)(ho:obl)(hb:BRel none b b')(hs:mk id=s):zQ ρ f id r:=⟨.new b s,⟨obl,b',mk,e,ho,hb,hs⟩,h⟩
theorem kO{f:XR→R}{id j:Nat}{r:Res}{b:XB}{obl:Prop}{b':Blk}(h:f (.upd j b undefSV)=.ok ρ)(e:r=.upd obl j b')(ho:obl)(hb:BRel none b b'):zQ ρ f id r:=⟨.upd j b undefSV,.inl ⟨obl,b',e,ho,hb,rfl⟩,h⟩
theorem Jv{f:XR→R}{id j:Nat}{r:Res}{b:XB}{s:SV}{obl:Prop}{b':Blk}(h:f (.upd j b s)=.ok ρ)(e:r=.updv obl j b' s)(ho:obl)(hb:BRel none b b'):zQ ρ f id r:=⟨.upd j b s,.inr ⟨obl,b',e,ho,hb⟩,h⟩
theorem qeb{f:XR→R}{id j:Nat}{r:Res}{b:XB}{s:SV}{obl:Prop}{b':Blk}{mk:Nat→SV}(h:f (.grow j b s)=.ok ρ)(e:r=.grow obl j b' mk)(ho:obl)(hb:BRel none b b')(hs:mk id=s):zQ ρ f id r:=⟨.grow j b s,⟨obl,b',mk,e,ho,hb,hs⟩,h⟩
theorem qec{f:XR→R}{id g:Nat}{r:Res}{args:List SV}(e:r=.call g args)(h:f (.call g args)=.ok ρ):zQ ρ f id r:=⟨.call g args,e,h⟩
theorem qaz{f:XR→R}{id g:Nat}{r:Res}{args:List SV}(e:r=.yield g args)(h:f (.yield g args)=.ok ρ):zQ ρ f id r:=⟨.yield g args,e,h⟩
structure XE:Type where
 fns:Nat→Option (Func×List (Nat×List (Nat×Nat)))
 tys:TypeId→Option TyI
 pls:TypeId→Option (List (Nat×Nat))
 eqs:TypeId→Option (List Lf)
 sls:TypeId→Option (TypeId×Nat×List Value)
 mps:TypeId→Option jx
 prj:Nat→Option (Nat×Sh)
 str:TypeId→Bool
 orc:Nat→Option (List SV→Tr 6 XB→Nat→(SV→Tr 6 XB→Nat→R)→R)
 ctr:Nat→List (List SV×SV)
 ctn:Nat→List (List SV×(TypeId×Nat×Nat×List SV×SV))
def qgo(P:Program)(g:Nat)(qq_:List SV)(t:TypeId)(k n:Nat)(l:List SV)(s:SV):Prop:=∃row,zp P g qq_ (.rows t k n row) s∧RowL n k l row∧FreshO s∧FreshB (.rows t k n row)
def yA(P:Program)(g:Nat)(f:List SV→Tr 6 XB→Nat→(SV→Tr 6 XB→Nat→R)→R):Prop:=
 ∀(ρ:Q)(LM:Nat→Option Loop)(O:Ctx)(args:List SV)(hp:Tr 6 XB)(k:SV→Tr 6 XB→Nat→R)(st:St)(K:St→SV→Prop),HRel LM hp st.hp→f args hp st.nid k=.ok ρ→
  (∀s hp' nid' H',HRel LM hp' H'→k s hp' nid'=.ok ρ→K ⟨st.fr,H',nid'⟩ s)→kK P O g args st K
structure XOk(P:Program)(E:XE):Prop where
 tys:∀t ti,E.tys t=some ti→qn P t=some ti
 pls:∀t pl,E.pls t=some pl→qB P t=some pl
 eqs:∀t ls,E.eqs t=some ls→z9 P t=some ls
 prj:∀g n i,E.prj g=some (n,i)→Zz P g n i
 str:∀t,E.str t=true→P.underlying t=some .string
 orc:∀g f,E.orc g=some f→yA P g f
 ctr:∀g qq_ s,(qq_,s)∈E.ctr g→qf P g qq_ s
 ctn:∀g qq_ t k n l s,(qq_,(t,k,n,l,s))∈E.ctn g→qgo P g qq_ t k n l s
 mps:∀t x,E.mps t=some x→qy P t=some x
 sls:∀t e k z,E.sls t=some (e,k,z)→(∃a b c,qn P t=some ⟨a,b,c,.slice e k⟩)∧(∃a b d,qn P e=some ⟨a,b,some z,d⟩)∧0<k∧z.length=k∧qF P e≤100000000
end
end Go.Sx
end
section
namespace Go.Sx
open Go.RowKit
noncomputable section
variable{ρ:Q}
section
variable{P:Program}{E:XE}{f:XR→R}{id:Nat}{hp:Tr 6 XB}{H:List (Nat×Blk)}{LM:Nat→Option Loop}
def jm(c:Nat)(k:IntKind)(n:Int)(f:XR→R):R:=WO n fun n=>qj c (qjg k n) (f (.pure (.val (.int k n))))
theorem zZ{c:Nat}{k:IntKind}{n:Int}(h:jm c k n f=.ok ρ):InK k n∧f (.pure (.val (.int k n)))=.ok ρ:=by
 unfold jm at h;rw[jl]at h;have h:=qe h;exact⟨Qx h.1,h.2⟩
def yU(b:Bool)(f:XR→R):R:=ZJ b fun b=>f (.pure (.val (.bool b)))
theorem jn(b:Bool):yU b f=f (.pure (.val (.bool b))):=Qv _ _
def Qz(s:SV)(f:XR→R):R:=svK s fun s=>f (.pure s)
theorem kP(s:SV):Qz s f=f (.pure s):=yS _ _
def qbO(op:BinOp)(k:IntKind)(a b:Int)(f:XR→R):R:=
 match a,b with
 |.ofNat a,.ofNat b=>qj 10 (qjg k (.ofNat a)) (qj 11 (qjg k (.ofNat b)) (match op with
  |.and=>qk (Nat.land a b) fun n=>f (.pure (.val (.int k (.ofNat n))))
  |.or=>qk (Nat.lor a b) fun n=>f (.pure (.val (.int k (.ofNat n))))
  |_=>.bad 12 0))
 |_,_=>.bad 13 0
def qni(k:IntKind)(a b:Int)(f:XR→R):R:=
 match b with
 |.ofNat b=>qj 14 (Nat.ble b k.bits) (jm 15 k (Int.mul a (.ofNat (Nat.pow 2 b))) f)
 |_=>.bad 16 0
def qnj(k:IntKind)(a b:Int)(f:XR→R):R:=
 match b with
 |.ofNat b=>qj 17 (Nat.ble b k.bits) (WO (Int.fdiv a (.ofNat (Nat.pow 2 b))) fun n=>f (.pure (.val (.int k n))))
 |_=>.bad 18 0
def qed(op:BinOp)(k:IntKind)(a b:Int)(f:XR→R):R:=
 match op with
 |.add=>jm 19 k (Int.add a b) f
 |.sub=>jm 20 k (Int.sub a b) f
 |.mul=>jm 21 k (Int.mul a b) f
 |.quo=>qj 22 (!GW b 0) (jm 23 k (Int.tdiv a b) f)
 |.rem=>qj 24 (!GW b 0) (jm 25 k (Int.tmod a b) f)
 |.eql=>yU (GW a b) f
 |.neq=>yU (!GW a b) f
 |.lss=>yU (ZT a b) f
 |.leq=>yU (!ZT b a) f
 |.gtr=>yU (ZT b a) f
 |.geq=>yU (!ZT a b) f
 |.shl=>qni k a b f
 |.shr=>qnj k a b f
 |.and=>qbO .and k a b f
 |.or=>qbO .or k a b f
 |_=>.bad 26 0
theorem nlt(a b:Int):(!ZT b a)=decide (a≤b):=by
 rw[Z5,Bool.eq_iff_iff,Bool.not_eq_true',decide_eq_false_iff_not,decide_eq_true_eq];omega
theorem qnk(b:Nat):Int.ofNat (Nat.pow 2 b)=(2:Int)^(Int.ofNat b).toNat:=by
 show((2^b:Nat):Int)=_;rw[Int.natCast_pow];rfl
theorem qH(a:Nat):0≤Int.ofNat a:=Int.natCast_nonneg a
theorem qjj{op:BinOp}{k:IntKind}{a b:Int}(h:qed op k a b f=.ok ρ):zQ ρ f id (rInt op k a b):=by
 cases op<;>simp only[qed,jn,reduceCtorEq]at h
 ·exact qh rfl (zZ h).1 (zZ h).2
 ·exact qh rfl (zZ h).1 (zZ h).2
 ·exact qh rfl (zZ h).1 (zZ h).2
 ·obtain⟨h0,h⟩:=qe h
  rw[w9,Bool.not_eq_true',decide_eq_false_iff_not]at h0;exact qh rfl ⟨h0,(zZ h).1⟩ (zZ h).2
 ·obtain⟨h0,h⟩:=qe h
  rw[w9,Bool.not_eq_true',decide_eq_false_iff_not]at h0;exact qh rfl h0 (zZ h).2
 ·unfold qbO at h
  split at h
  ·obtain⟨h1,h⟩:=qe h
   obtain⟨h2,h⟩:=qe h;simp only[qi]at h;exact qh rfl ⟨qH _,Qx h1,qH _,Qx h2⟩ h
  ·cases h
 ·unfold qbO at h
  split at h
  ·obtain⟨h1,h⟩:=qe h
   obtain⟨h2,h⟩:=qe h;simp only[qi]at h;exact qh rfl ⟨qH _,Qx h1,qH _,Qx h2⟩ h
  ·cases h
 ·unfold qni at h
  split at h
  ·obtain⟨h1,h⟩:=qe h
   rw[qnk]at h;exact qh rfl ⟨qH _,xa7 h1,(zZ h).1⟩ (zZ h).2
  ·cases h
 ·unfold qnj at h
  split at h
  ·obtain⟨h1,h⟩:=qe h
   rw[qnk,jl]at h;exact qh rfl ⟨qH _,xa7 h1⟩ h
  ·cases h
 ·rw[w9]at h;exact qh rfl trivial h
 ·rw[w9]at h;exact qh rfl trivial h
 ·rw[Z5]at h;exact qh rfl trivial h
 ·rw[nlt]at h;exact qh rfl trivial h
 ·rw[Z5]at h;exact qh rfl trivial h
 ·rw[nlt]at h;exact qh rfl trivial h
def Gc(E:XE)(op:BinOp)(t:TypeId)(isnil:Bool)(y:SV)(f:XR→R):R:=
 match y with
 |.val v=>qj 30 (nilSlice v) (match E.tys t with
  |some ⟨_,_,_,.slice _ _⟩=>(match op with
   |.eql=>yU isnil f
   |.neq=>yU (!isnil) f
   |_=>.bad 31 0)
  |_=>.bad 32 0)
 |_=>.bad 33 0
theorem wy(hE:XOk P E){op:BinOp}{t:TypeId}{isnil:Bool}{y:SV}(h:Gc E op t isnil y f=.ok ρ):∃v s,y=.val v∧f (.pure s)=.ok ρ∧∀obl,rNilS P op t obl isnil v=.pure obl s:=by
 unfold Gc at h;split at h
 ·rename_i v
  obtain⟨h1,h⟩:=qe h;split at h
  ·rename_i a b c e k ht
   have ht:=hE.tys _ _ ht;split at h
   ·rw[jn]at h;exact⟨v,_,rfl,h,fun obl=>by simp only[rNilS,h1,ht]⟩
   ·rw[jn]at h;exact⟨v,_,rfl,h,fun obl=>by simp only[rNilS,h1,ht]⟩
   ·cases h
  ·cases h
 ·cases h
def xEq(E:XE)(op:BinOp)(t:TypeId)(l m:List SV)(f:XR→R):R:=
 match E.eqs t with
 |some ls=>qj 34 (fitS ls l) (qj 35 (fitS ls m) (match op with
  |.eql=>yU (eqSVs l m) f
  |.neq=>yU (!eqSVs l m) f
  |_=>.bad 36 0))
 |none=>.bad 37 0
theorem qlL(hE:XOk P E){op:BinOp}{t:TypeId}{l m:List SV}(h:xEq E op t l m f=.ok ρ):zQ ρ f id (rEq P op t l m):=by
 unfold xEq at h;split at h
 ·rename_i ls hl
  have hl:=hE.eqs _ _ hl;obtain⟨h1,h⟩:=qe h;obtain⟨h2,h⟩:=qe h;split at h
  ·rw[jn]at h;exact qh (obl:=fitS ls l=true∧fitS ls m=true) (by simp only[rEq,hl]) ⟨h1,h2⟩ h
  ·rw[jn]at h;exact qh (obl:=fitS ls l=true∧fitS ls m=true) (by simp only[rEq,hl]) ⟨h1,h2⟩ h
  ·cases h
 ·cases h
def qkV(E:XE)(op:BinOp)(t:TypeId)(a b:Bool)(f:XR→R):R:=
 match E.tys t with
 |some ⟨_,_,_,.bool⟩=>(match op with
  |.eql=>yU (a == b) f
  |.neq=>yU (!(a == b)) f
  |_=>.bad 38 0)
 |_=>.bad 39 0
def qkW(E:XE)(op:BinOp)(t:TypeId)(u:Value)(y:SV)(f:XR→R):R:=
 match u with
 |.int k a=>(match y with|.val (.int k' b)=>qj 40 (eqKind k k') (qed op k a b f)|_=>.bad 41 0)
 |.slice a n c=>Gc E op t a.isNone y f
 |.bool a=>(match y with|.val (.bool b)=>qkV E op t a b f|_=>.bad 42 0)
 |_=>.bad 43 0
def qaA(E:XE)(op:BinOp)(t:TypeId)(x y:SV)(f:XR→R):R:=
 match x with
 |.val u=>qkW E op t u y f
 |.agg l=>(match y with|.agg m=>xEq E op t l m f|_=>.bad 44 0)
 |.vec _ n _=>qj 45 (Nat.ble 1 n) (Gc E op t false y f)
 |.cut _ n _=>qj 46 (Nat.ble 1 n) (Gc E op t false y f)
 |.arr _ _ n _ _=>qj 47 (Nat.ble 1 n) (Gc E op t false y f)
 |.asl _ _ _ _=>Gc E op t false y f
 |_=>.bad 48 0
theorem qbP(a b:Bool):(a == b)=decide (a=b):=by cases a<;>cases b<;>rfl
theorem qjk(hE:XOk P E){op:BinOp}{t:TypeId}{x y:SV}(h:qaA E op t x y f=.ok ρ):zQ ρ f id (rBin P op t x y):=by
 unfold qaA at h;split at h
 ·rename_i u
  unfold qkW at h;split at h
  ·split at h
   ·obtain⟨h1,h2⟩:=qe h
    have e:=jV h1;subst e;have:∀(a b:Int)(k:IntKind),eqKind k k=true→rBin P op t (.val (.int k a)) (.val (.int k b))=rInt op k a b:=fun a b k hk=>by simp only[rBin,hk,if_true]
    rw[this _ _ _ h1];exact qjj h2
   ·cases h
  ·obtain⟨v,s,rfl,h1,h2⟩:=wy hE h
   exact qh (h2 True) trivial h1
  ·split at h
   ·unfold qkV at h
    split at h
    ·rename_i ht
     have ht:=hE.tys _ _ ht;split at h
     ·rw[jn,qbP]at h;exact qh (by simp only[rBin,ht]) trivial h
     ·rw[jn,qbP]at h;exact qh (by simp only[rBin,ht]) trivial h
     ·cases h
    ·cases h
   ·cases h
  ·cases h
 ·split at h
  ·exact qlL hE h
  ·cases h
 ·obtain⟨h0,h⟩:=qe h
  obtain⟨v,s,rfl,h1,h2⟩:=wy hE h;exact qh (h2 _) (xa7 h0) h1
 ·obtain⟨h0,h⟩:=qe h
  obtain⟨v,s,rfl,h1,h2⟩:=wy hE h;exact qh (h2 _) (xa7 h0) h1
 ·obtain⟨h0,h⟩:=qe h
  obtain⟨v,s,rfl,h1,h2⟩:=wy hE h;exact qh (h2 _) (xa7 h0) h1
 ·obtain⟨v,s,rfl,h1,h2⟩:=wy hE h
  exact qh (h2 _) trivial h1
 ·cases h
def xUn(op:UnOp)(x:SV)(f:XR→R):R:=
 match x with
 |.val (.int k a)=>(match op with|.neg=>jm 50 k (Int.sub 0 a) f|_=>.bad 51 0)
 |.val (.bool b)=>(match op with|.not=>yU (!b) f|_=>.bad 52 0)
 |_=>.bad 53 0
theorem qlM{op:UnOp}{x:SV}(h:xUn op x f=.ok ρ):zQ ρ f id (rUn op x):=by
 unfold xUn at h;split at h
 ·split at h
  ·exact qh rfl (zZ h).1 (zZ h).2
  ·cases h
 ·split at h
  ·rw[jn]at h;exact qh rfl trivial h
  ·cases h
 ·cases h
def qbQ(E:XE)(s t:TypeId)(x:SV)(f:XR→R):R:=
 match E.tys s,E.tys t with
 |some _,some ⟨_,_,_,.int k⟩=>(match x with|.val (.int _ n)=>jm 54 k n f|_=>.bad 55 0)
 |_,_=>.bad 56 0
theorem qgp(hE:XOk P E){s t:TypeId}{x:SV}(h:qbQ E s t x f=.ok ρ):zQ ρ f id (rConv (qn P s) (qn P t) x):=by
 unfold qbQ at h;split at h
 ·rename_i hs ht
  rw[hE.tys _ _ hs,hE.tys _ _ ht];split at h
  ·exact qh rfl (zZ h).1 (zZ h).2
  ·cases h
 ·cases h
def qbR(c a b:SV)(f:XR→R):R:=
 match c with
 |.val (.bool c)=>(match c with|true=>f (.pure a)|false=>f (.pure b))
 |_=>.bad 57 0
theorem qgq{c a b:SV}(h:qbR c a b f=.ok ρ):zQ ρ f id (rPick c a b):=by
 unfold qbR at h;split at h
 ·split at h
  ·exact qh rfl trivial h
  ·exact qh rfl trivial h
 ·cases h
def Vt(E:XE)(t:TypeId)(id:Nat)(f:XR→R):R:=
 match E.tys t with
 |some ⟨_,_,some z,_⟩=>yp (vals z) fun z=>f (.new (.cells t z) (.ptr id 0))
 |_=>.bad 60 0
theorem qee(hE:XOk P E){t:TypeId}(h:Vt E t id f=.ok ρ):zQ ρ f id (rAlloc (qn P t) t):=by
 unfold Vt at h;split at h
 ·rename_i ht
  rw[kd]at h;rw[hE.tys _ _ ht];exact gV h rfl trivial ⟨rfl,rfl⟩ rfl
 ·cases h
def qjl(E:XE)(t:TypeId)(x:SV)(id:Nat)(f:XR→R):R:=
 match E.tys t with
 |some ⟨true,_,_,_⟩=>(match x with
  |.agg l=>f (.new (.cells t l) (.ptr id 0))
  |_=>.bad 61 0)
 |some ⟨false,_,_,_⟩=>qj 62 (oneCell x) (f (.new (.cells t [x]) (.ptr id 0)))
 |none=>.bad 63 0
theorem qjm(hE:XOk P E){t:TypeId}{x:SV}(h:qjl E t x id f=.ok ρ):zQ ρ f id (rBox (qn P t) t x):=by
 unfold qjl at h;split at h
 ·rename_i ht
  rw[hE.tys _ _ ht];split at h
  ·exact gV h rfl trivial ⟨rfl,rfl⟩ rfl
  ·cases h
 ·rename_i ht
  rw[hE.tys _ _ ht];obtain⟨h1,h⟩:=qe h;exact gV h rfl h1 ⟨rfl,rfl⟩ rfl
 ·cases h
def wz(l:List SV)(o:Nat)(f:XR→R):R:=match l[o]? with|some s=>f (.pure s)|none=>.bad 64 0
def wA(l:List SV)(o sz:Nat)(f:XR→R):R:=qj 65 (Nat.ble (o+sz) l.length) (gk ((l.drop o).take sz) fun l=>f (.pure (.agg l)))
theorem j7{l:List SV}{o:Nat}(h:wz l o f=.ok ρ):∃s,l[o]? = some s∧f (.pure s)=.ok ρ:=by
 unfold wz at h;split at h
 ·rename_i s hs;exact⟨s,hs,h⟩
 ·cases h
theorem ya{l:List SV}{o sz:Nat}(h:wA l o sz f=.ok ρ):o+sz≤l.length∧f (.pure (.agg ((l.drop o).take sz)))=.ok ρ:=by
 unfold wA at h;obtain⟨h1,h⟩:=qe h;rw[qQ]at h;exact⟨xa7 h1,h⟩
def yB(k k' n i j sz:Nat)(g:Nat→R):R:=qj 66 (Nat.beq k k') (qj 67 (Nat.ble (Nat.succ i) n) (qj 68 (Nat.ble (j+sz) k) (qk (i*k+j) g)))
theorem QA{k k' n i j sz:Nat}{g:Nat→R}(h:yB k k' n i j sz g=.ok ρ):k=k'∧i<n∧j+sz≤k∧g (i*k+j)=.ok ρ:=by
 unfold yB at h;obtain⟨h1,h⟩:=qe h;obtain⟨h2,h⟩:=qe h;obtain⟨h3,h⟩:=qe h;rw[qi]at h;exact⟨xa6 h1,xa7 h2,xa7 h3,h⟩
def Zm(hp:Tr 6 XB)(a:SV)(f:XR→R):R:=
 match a with
 |.ptr id off=>(match hp.find id with
  |some (.cells _ l)=>wz l off f
  |_=>.bad 69 0)
 |.elt id k i j=>(match hp.find id with
  |some (.rows _ k' n l)=>yB k k' n i j 1 fun o=>wz l o f
  |_=>.bad 70 0)
 |.ref _ n row=>qj 71 (Nat.ble 1 n) (Qz (row 0) f)
 |_=>.bad 72 0
def Zn(hp:Tr 6 XB)(sz:Nat)(a:SV)(f:XR→R):R:=
 match a with
 |.ptr id off=>(match hp.find id with
  |some (.cells _ l)=>wA l off sz f
  |_=>.bad 73 0)
 |.elt id k i j=>(match hp.find id with
  |some (.rows _ k' n l)=>yB k k' n i j sz fun o=>wA l o sz f
  |_=>.bad 74 0)
 |.ref _ n row=>qj 75 (Nat.ble sz n) (yp (sel row 0 sz) fun l=>f (.pure (.agg l)))
 |_=>.bad 76 0
def WT(E:XE)(hp:Tr 6 XB)(t:TypeId)(a:SV)(f:XR→R):R:=
 match E.tys t with
 |some ⟨false,_,_,_⟩=>Zm hp a f
 |some ⟨true,sz,_,_⟩=>Zn hp sz a f
 |none=>.bad 77 0
theorem kQ{n k i j:Nat}(hi:i<n)(hj:j<k):i*k+j<n*k:=by
 have:=xa8 k (show i+1≤n from hi);rw[Nat.add_mul,Nat.one_mul]at this;omega
theorem RowL.get{n k:Nat}{l:List SV}{row:Nat→Nat→SV}(h:RowL n k l row){i j:Nat}(hi:i<n)(hj:j<k){s:SV}(hs:l[i*k+j]? = some s):row i j=s:=by
 rw[h.2 i j hi hj,xc6,hs];rfl
theorem RowL.sel{n k:Nat}{l:List SV}{row:Nat→Nat→SV}(h:RowL n k l row){i j sz:Nat}(hi:i<n)(hj:j+sz≤k):sel (row i) j sz=(l.drop (i*k+j)).take sz:=by
 refine List.ext_getElem? fun q=>?_;rw[wN,List.getElem?_take];by_cases c:q<sz
 ·rw[if_pos c,if_pos c,List.getElem?_drop,h.2 i (j+q) hi Ω,xc6]
  have:i*k+j+q<l.length:=by rw[h.1];have:=kQ (k:=k) hi (Ω:j+q<k);omega
  rw[show i*k+(j+q)=i*k+j+q by omega,xc7 this];rfl
 ·rw[if_neg c,if_neg c]
theorem WU(hE:XOk P E)(hH:HRel LM hp H){t:TypeId}{a:SV}(h:WT E hp t a f=.ok ρ):zQ ρ f id (rLoad (qn P t) H a):=by
 unfold WT at h;split at h
 ·rename_i ht
  rw[hE.tys _ _ ht];unfold Zm at h;split at h
  ·split at h
   ·rename_i hb
    obtain⟨s,h1,h2⟩:=j7 h;simp only[rLoad,hH.cells hb];exact Qy rfl h1 h2
   ·cases h
  ·split at h
   ·rename_i hb
    obtain⟨row,hb,hr⟩:=hH.rows hb;obtain⟨rfl,h1,h2,h⟩:=QA h;obtain⟨s,h3,h4⟩:=j7 h;have:=hr.get h1 h2 h3;subst this;simp only[rLoad,hb];exact qh rfl ⟨trivial,h1,h2⟩ h4
   ·cases h
  ·obtain⟨h1,h⟩:=qe h
   rw[kP]at h;exact qh rfl (xa7 h1) h
  ·cases h
 ·rename_i sz _ _ ht
  rw[hE.tys _ _ ht];unfold Zn at h;split at h
  ·split at h
   ·rename_i hb
    obtain⟨h1,h2⟩:=ya h;simp only[rLoad,hH.cells hb];exact qh rfl h1 h2
   ·cases h
  ·split at h
   ·rename_i hb
    obtain⟨row,hb,hr⟩:=hH.rows hb;obtain⟨rfl,h1,h2,h⟩:=QA h;obtain⟨h3,h4⟩:=ya h;rw[←hr.sel h1 h2]at h4;simp only[rLoad,hb];exact qh rfl ⟨trivial,h1,h2⟩ h4
   ·cases h
  ·obtain⟨h1,h⟩:=qe h
   rw[kd]at h;exact qh rfl (xa7 h1) h
  ·cases h
 ·cases h
def WV(s:SV)(l:List SV)(o:Nat)(g:List SV→R):R:=qj 78 (Nat.ble (Nat.succ o) l.length) (gk (l.set o s) g)
def setN(vs:List SV)(l:List SV)(o:Nat)(g:List SV→R):R:=qj 79 (Nat.ble (o+vs.length) l.length) (gk (l.take o++vs++l.drop (o+vs.length)) g)
def QB(hp:Tr 6 XB)(a v:SV)(f:XR→R):R:=
 match a with
 |.ptr id off=>(match hp.find id with
  |some (.cells t l)=>WV v l off fun l=>f (.upd id (.cells t l) undefSV)
  |_=>.bad 80 0)
 |.elt id k i j=>(match hp.find id with
  |some (.rows t k' n l)=>yB k k' n i j 1 fun o=>WV v l o fun l=>f (.upd id (.rows t k' n l) undefSV)
  |_=>.bad 81 0)
 |_=>.bad 82 0
def qbS(hp:Tr 6 XB)(a:SV)(vs:List SV)(f:XR→R):R:=
 match a with
 |.ptr id off=>(match hp.find id with
  |some (.cells t l)=>setN vs l off fun l=>f (.upd id (.cells t l) undefSV)
  |_=>.bad 83 0)
 |.elt id k i j=>(match hp.find id with
  |some (.rows t k' n l)=>yB k k' n i j vs.length fun o=>setN vs l o fun l=>f (.upd id (.rows t k' n l) undefSV)
  |_=>.bad 84 0)
 |_=>.bad 85 0
def Ge(E:XE)(hp:Tr 6 XB)(t:TypeId)(a v:SV)(f:XR→R):R:=
 match E.tys t with
 |some ⟨false,sz,_,_⟩=>qj 86 (oneCell v) (qj 87 (Nat.beq sz 1) (QB hp a v f))
 |some ⟨true,sz,_,_⟩=>(match v with
  |.agg vs=>qj 88 (allOne vs) (qj 89 (Nat.beq vs.length sz) (qbS hp a vs f))
  |_=>.bad 90 0)
 |none=>.bad 91 0
theorem qbT{s:SV}{l:List SV}{o:Nat}{g:List SV→R}(h:WV s l o g=.ok ρ):o<l.length∧g (l.set o s)=.ok ρ:=by
 unfold WV at h;obtain⟨h1,h⟩:=qe h;rw[qQ]at h;exact⟨xa7 h1,h⟩
theorem qbU{vs l:List SV}{o:Nat}{g:List SV→R}(h:setN vs l o g=.ok ρ):o+vs.length≤l.length∧g (l.take o++vs++l.drop (o+vs.length))=.ok ρ:=by
 unfold setN at h;obtain⟨h1,h⟩:=qe h;rw[qQ]at h;exact⟨xa7 h1,h⟩
theorem qbV{k i j a b:Nat}(hj:j<k)(hb:b<k):a*k+b=i*k+j↔a=i∧b=j:=by
 constructor
 ·intro h
  have h1:(a*k+b) / k=a:=by rw[Nat.mul_comm,Nat.mul_add_div Ω,Nat.div_eq_of_lt hb,xb1]
  have h2:(i*k+j) / k=i:=by rw[Nat.mul_comm,Nat.mul_add_div Ω,Nat.div_eq_of_lt hj,xb1]
  have:a=i:=by rw[←h1,h,h2]
  subst this;exact⟨rfl,Ω⟩
 ·rintro⟨rfl,rfl⟩;rfl
theorem RowL.set{n k:Nat}{l:List SV}{row:Nat→Nat→SV}(h:RowL n k l row){i j:Nat}(hi:i<n)(hj:j<k)(v:SV):RowL n k (l.set (i*k+j) v) (fun a b=>if a=i∧b=j then v else row a b):=by
 refine⟨by rw[xe5];exact h.1,fun a b ha hb=>?_⟩;have hlt:i*k+j<l.length:=by rw[h.1];exact kQ hi hj
 show(if a=i∧b=j then v else row a b)=_;rw[xc6,List.getElem?_set];by_cases c:a=i∧b=j
 ·rw[if_pos c,if_pos ((qbV hj hb).2 c).symm,if_pos hlt];rfl
 ·rw[if_neg c,if_neg (fun e=>c ((qbV hj hb).1 e.symm)),h.2 a b ha hb,xc6]
theorem RowL.setN{n k:Nat}{l vs:List SV}{row:Nat→Nat→SV}(h:RowL n k l row){i j:Nat}(hi:i<n)(hj:j+vs.length≤k):RowL n k (l.take (i*k+j)++vs++l.drop (i*k+j+vs.length)) (fun a b=>if a=i∧j≤b∧b<j+vs.length then vs.getD (b - j) .top else row a b):=by
 by_cases hk:k=0
 ·subst hk
  have hv:vs.length=0:=by omega
  have hv:vs=[]:=List.length_eq_zero_iff.1 hv;subst hv;have e0:=h.1;rw[Nat.mul_zero]at e0;have e0:=List.length_eq_zero_iff.1 e0;subst e0;refine⟨Ωg,fun a b _ hb=>by omega⟩
 have hend:i*k+j+vs.length≤l.length:=by
  rw[h.1];have:=xa8 k (show i+1≤n from hi);rw[Nat.add_mul,Nat.one_mul]at this;omega
 refine⟨by rw[xc8,xc8,xd9,List.length_drop,←h.1];omega,fun a b ha hb=>?_⟩;have ht:(l.take (i*k+j)).length=i*k+j:=by rw[xd9];omega
 show(if a=i∧j≤b∧b<j+vs.length then vs.getD (b - j) .top else row a b)=_;rw[xc6,h.2 a b ha hb,xc6,xc6];by_cases c:a=i∧j≤b∧b<j+vs.length
 ·obtain⟨rfl,c1,c2⟩:=c
  rw[if_pos ⟨rfl,c1,c2⟩,xc9 (by rw[xc8,ht];omega),xd0 Ω,ht]
  congr 2;omega
 ·rw[if_neg c]
  by_cases d:a*k+b<i*k+j
  ·rw[xc9 (by rw[xc8,ht];omega),xc9 Ω,List.getElem?_take,if_pos d]
  ·have hge:i*k+j+vs.length≤a*k+b:=by
    by_cases e:a=i
    ·subst e
     have:¬(j≤b∧b<j+vs.length):=fun x=>c ⟨rfl,x⟩;omega
    ·have:i+1≤a:=by
      refine xf9 fun x=>?_;have:=xa8 k (Ω:a+1≤i);rw[Nat.add_mul,Nat.one_mul]at this;omega
     have:=xa8 k this;rw[Nat.add_mul,Nat.one_mul]at this;omega
   rw[xd0 (by rw[xc8,ht];omega),xc8,ht,List.getElem?_drop]
   congr 2;omega
theorem qef(hE:XOk P E)(hH:HRel LM hp H){t:TypeId}{a v:SV}(h:Ge E hp t a v f=.ok ρ):zQ ρ f id (rStore (qn P t) H a v):=by
 unfold Ge at h;split at h
 ·rename_i ht
  rw[hE.tys _ _ ht];obtain⟨h1,h⟩:=qe h;obtain⟨h2,h⟩:=qe h;have h2:=xa6 h2;unfold QB at h;split at h
  ·split at h
   ·rename_i hb
    obtain⟨h3,h⟩:=qbT h;simp only[rStore,hH.cells hb];exact kO h rfl ⟨h3,h1,h2⟩ ⟨rfl,rfl⟩
   ·cases h
  ·split at h
   ·rename_i hb
    obtain⟨row,hb,hr⟩:=hH.rows hb;obtain⟨rfl,h3,h4,h⟩:=QA h;obtain⟨h5,h⟩:=qbT h;simp only[rStore,hb];exact kO h rfl ⟨trivial,h3,h4,h1,h2⟩ ⟨rfl,rfl,rfl,hr.set h3 h4 v⟩
   ·cases h
  ·cases h
 ·rename_i sz _ _ ht
  rw[hE.tys _ _ ht];split at h
  ·rename_i vs
   obtain⟨h1,q1⟩:=qe h;obtain⟨h2,q⟩:=qe q1;have h2:=xa6 h2;subst h2;unfold qbS at q;split at q
   ·split at q
    ·rename_i hb
     obtain⟨h3,q⟩:=qbU q;simp only[rStore,hH.cells hb];exact kO q rfl ⟨h3,trivial,h1⟩ ⟨rfl,rfl⟩
    ·cases q
   ·split at q
    ·rename_i hb
     obtain⟨row,hb,hr⟩:=hH.rows hb;obtain⟨rfl,h3,h4,q⟩:=QA q;obtain⟨h5,q⟩:=qbU q;simp only[rStore,hb];exact kO q rfl ⟨trivial,h3,h4,trivial,h1⟩ ⟨rfl,rfl,rfl,hr.setN h3 h4⟩
    ·cases q
   ·cases q
  ·cases h
 ·cases h
end
end
end Go.Sx
end
section
namespace Go.Sx
open Go.RowKit
noncomputable section
variable{ρ:Q}
section
variable{P:Program}{E:XE}{f:XR→R}{id:Nat}{hp:Tr 6 XB}{H:List (Nat×Blk)}{LM:Nat→Option Loop}
def qgr(x:SV)(f:XR→R):R:=
 match x with
 |.ptr id off=>f (.pure (.ptr id off))
 |.elt id k i j=>f (.pure (.elt id k i j))
 |.ref o n row=>f (.pure (.ref o n row))
 |.fn (.func g) a b=>f (.pure (.fn (.func g) a b))
 |_=>.bad 100 0
theorem qjn{x:SV}(h:qgr x f=.ok ρ):zQ ρ f id (rNil x):=by
 unfold qgr at h;split at h<;>first|exact qh rfl trivial h|cases h
def QC(x:SV)(o:Nat)(f:XR→R):R:=
 match x with
 |.ptr id off=>Qz (.ptr id (off+o)) f
 |.elt id k i j=>Qz (.elt id k i (j+o)) f
 |.ref b n row=>qj 101 (Nat.ble o n) (f (.pure (.ref b (n - o) (fun j=>row (o+j)))))
 |_=>.bad 102 0
def jD(E:XE)(t:TypeId)(x:SV)(i:Nat)(f:XR→R):R:=
 match E.tys t with
 |some ⟨_,_,_,.struct fs⟩=>(match fs[i]? with
  |some (o,s,_)=>qj 103 (Nat.ble 1 s) (QC x o f)
  |none=>.bad 104 0)
 |_=>.bad 105 0
theorem GX(hE:XOk P E){t:TypeId}{x:SV}{i:Nat}(h:jD E t x i f=.ok ρ):zQ ρ f id (rFieldAddr (qn P t) x i):=by
 unfold jD at h;split at h
 ·rename_i ht
  rw[hE.tys _ _ ht];split at h
  ·rename_i o s ag hf
   obtain⟨h1,q⟩:=qe h;have h1:s≠0:=by have:=xa7 h1;omega
   unfold QC at q;simp only[rFieldAddr,hf];split at q
   ·rw[kP]at q;exact qh rfl h1 q
   ·rw[kP]at q;exact qh rfl h1 q
   ·obtain⟨h2,q⟩:=qe q
    exact qh rfl ⟨h1,xa7 h2⟩ q
   ·cases q
  ·cases h
 ·cases h
def Vu(E:XE)(t:TypeId)(x:SV)(i:Nat)(f:XR→R):R:=
 match E.tys t with
 |some ⟨_,_,_,.struct fs⟩=>(match fs[i]? with
  |some (o,s,ag)=>(match x with
   |.agg l=>(match ag with
    |some true=>wA l o s f
    |some false=>wz l o f
    |none=>.bad 106 0)
   |_=>.bad 107 0)
  |none=>.bad 108 0)
 |_=>.bad 109 0
theorem qeg(hE:XOk P E){t:TypeId}{x:SV}{i:Nat}(h:Vu E t x i f=.ok ρ):zQ ρ f id (rField (qn P t) x i):=by
 unfold Vu at h;split at h
 ·rename_i ht
  rw[hE.tys _ _ ht];split at h
  ·rename_i o s ag hf
   split at h
   ·simp only[rField,hf]
    split at h
    ·obtain⟨h1,h2⟩:=ya h;exact qh rfl h1 h2
    ·obtain⟨s,h1,h2⟩:=j7 h;exact Qy rfl h1 h2
    ·cases h
   ·cases h
  ·cases h
 ·cases h
def GY(i:SV)(n:Nat)(g:Nat→R):R:=
 match i with
 |.val (.int _ (.ofNat i))=>qj 110 (Nat.ble (Nat.succ i) n) (g i)
 |_=>.bad 111 0
theorem jO{i:SV}{n:Nat}{g:Nat→R}(h:GY i n g=.ok ρ):∃k a,i=.val (.int k (.ofNat a))∧0≤Int.ofNat a∧Int.ofNat a<(n:Int)∧g a=.ok ρ:=by
 unfold GY at h;split at h
 ·obtain⟨h1,h⟩:=qe h
  exact⟨_,_,rfl,qH _,by have:=xa7 h1;simp only[Int.ofNat_eq_natCast];omega,h⟩
 ·cases h
def qbW(k:Nat)(x i:SV)(f:XR→R):R:=
 match x with
 |.arr o _ n k' row=>qj 112 (Nat.beq k' k) (GY i n fun i=>f (.pure (.ref o k (row i))))
 |.vec id n k'=>qj 113 (Nat.beq k' k) (GY i n fun i=>f (.pure (.elt id k i 0)))
 |.asl id off n k'=>qj 114 (Nat.beq k' k) (GY i n fun i=>Qz (.ptr id (off+i*k)) f)
 |.que id off n k'=>qj 115 (Nat.beq k' k) (GY i n fun i=>Qz (.elt id k (off+i) 0) f)
 |_=>.bad 116 0
def qbX(n k:Nat)(x i:SV)(f:XR→R):R:=
 match x with
 |.ptr id off=>GY i n fun i=>Qz (.ptr id (off+i*k)) f
 |.ref o m row=>GY i n fun i=>qj 117 (Nat.ble (i*k) m) (f (.pure (.ref o (m - i*k) (fun j=>row (i*k+j)))))
 |_=>.bad 118 0
def vE(E:XE)(t:TypeId)(x i:SV)(f:XR→R):R:=
 match E.tys t with
 |some ⟨_,_,_,.slice _ k⟩=>qbW k x i f
 |some ⟨_,_,_,.array n _ k⟩=>qbX n k x i f
 |_=>.bad 119 0
theorem GZ(hE:XOk P E){t:TypeId}{x i:SV}(h:vE E t x i f=.ok ρ):zQ ρ f id (rIndexAddr (qn P t) x i):=by
 unfold vE at h;split at h
 ·rename_i ht
  rw[hE.tys _ _ ht];unfold qbW at h;split at h
  ·obtain⟨h1,h⟩:=qe h
   obtain⟨_,a,rfl,h2,h3,h⟩:=jO h;exact qh rfl ⟨h2,h3,xa6 h1⟩ h
  ·obtain⟨h1,h⟩:=qe h
   obtain⟨_,a,rfl,h2,h3,h⟩:=jO h;exact qh rfl ⟨h2,h3,xa6 h1⟩ h
  ·obtain⟨h1,h⟩:=qe h
   obtain⟨_,a,rfl,h2,h3,h⟩:=jO h;rw[kP]at h;exact qh rfl ⟨h2,h3,xa6 h1⟩ h
  ·obtain⟨h1,h⟩:=qe h
   obtain⟨_,a,rfl,h2,h3,h⟩:=jO h;rw[kP]at h;exact qh rfl ⟨h2,h3,xa6 h1⟩ h
  ·cases h
 ·rename_i ht
  rw[hE.tys _ _ ht];unfold qbX at h;split at h
  ·obtain⟨_,a,rfl,h2,h3,h⟩:=jO h
   rw[kP]at h;exact qh rfl ⟨h2,h3⟩ h
  ·obtain⟨_,a,rfl,h2,h3,h⟩:=jO h
   obtain⟨h1,h⟩:=qe h;exact qh rfl ⟨h2,h3,xa7 h1⟩ h
  ·cases h
 ·cases h
def qbY(E:XE)(e:TypeId)(n k:Nat)(l:List SV)(i:SV)(f:XR→R):R:=
 match E.tys e with
 |some ⟨true,_,_,_⟩=>GY i n fun i=>wA l (i*k) k f
 |some ⟨false,_,_,_⟩=>qj 120 (Nat.beq k 1) (GY i n fun i=>wz l i f)
 |none=>.bad 121 0
def qbZ(s:ByteArray)(i:SV)(f:XR→R):R:=
 match i with
 |.val (.int _ (.ofNat a))=>(match s[a]? with
  |some b=>qk b.toNat fun n=>f (.pure (.val (.int .u8 (.ofNat n))))
  |none=>.bad 159 0)
 |_=>.bad 159 1
def Vv(E:XE)(t:TypeId)(x i:SV)(f:XR→R):R:=
 match E.tys t with
 |some ⟨_,_,_,.array n e k⟩=>(match x with
  |.agg l=>qbY E e n k l i f
  |_=>.bad 122 0)
 |some ⟨_,_,_,.other⟩=>(match x with
  |.val (.string s)=>qj 158 (E.str t) (qbZ s i f)
  |_=>.bad 123 t)
 |_=>.bad 123 0
theorem qeh(hE:XOk P E){t:TypeId}{x i:SV}(h:Vv E t x i f=.ok ρ):zQ ρ f id (rIndex P t x i):=by
 unfold Vv at h;split at h
 ·rename_i ht
  have ht:=hE.tys _ _ ht;split at h
  ·unfold qbY at h
   split at h
   ·rename_i he
    have he:=hE.tys _ _ he;obtain⟨_,a,rfl,h2,h3,h⟩:=jO h;obtain⟨h4,h5⟩:=ya h;simp only[rIndex,ht,he];exact qh rfl ⟨h2,h3,h4⟩ h5
   ·rename_i he
    have he:=hE.tys _ _ he;obtain⟨h1,h⟩:=qe h;obtain⟨_,a,rfl,h2,h3,h⟩:=jO h;obtain⟨s,h4,h5⟩:=j7 h;simp only[rIndex,ht,he];exact Qy rfl ⟨h2,h3,xa6 h1,h4⟩ h5
   ·cases h
  ·cases h
 ·rename_i ht
  have ht:=hE.tys _ _ ht;split at h
  ·obtain⟨h1,h⟩:=qe h
   have hu:=hE.str _ h1;unfold qbZ at h;split at h
   ·split at h
    ·rename_i b hb
     rw[qi]at h;simp only[rIndex,ht,hu];exact Qy rfl ⟨qH _,b,hb,rfl⟩ h
    ·cases h
   ·cases h
  ·cases h
 ·cases h
def QD(x:SV)(i:Nat)(f:XR→R):R:=
 match x with
 |.tup l=>wz l i f
 |_=>.bad 124 0
theorem WW{x:SV}{i:Nat}(h:QD x i f=.ok ρ):zQ ρ f id (rExtract x i):=by
 unfold QD at h;split at h
 ·obtain⟨s,h1,h2⟩:=j7 h;exact Qy rfl h1 h2
 ·cases h
def qgs(x:SV)(f:XR→R):R:=
 match x with
 |.arr _ _ n _ _=>f (.pure (.val (.int .i64 (.ofNat n))))
 |.vec _ n _=>f (.pure (.val (.int .i64 (.ofNat n))))
 |.asl _ _ n _=>f (.pure (.val (.int .i64 (.ofNat n))))
 |.que _ _ n _=>f (.pure (.val (.int .i64 (.ofNat n))))
 |.cut _ n _=>f (.pure (.val (.int .i64 (.ofNat n))))
 |.val (.slice none 0 0)=>f (.pure (.val (.int .i64 0)))
 |_=>.bad 125 0
def qei(E:XE)(t:TypeId)(x:SV)(f:XR→R):R:=
 match E.tys t with
 |some ⟨_,_,_,.slice _ _⟩=>qgs x f
 |some ⟨_,_,_,.array n _ _⟩=>f (.pure (.val (.int .i64 (.ofNat n))))
 |_=>.bad 126 0
theorem qjo(hE:XOk P E){t:TypeId}{x:SV}(h:qei E t x f=.ok ρ):zQ ρ f id (rLen (qn P t) x):=by
 unfold qei at h;split at h
 ·rename_i ht
  rw[hE.tys _ _ ht];unfold qgs at h;split at h<;>first|exact qh rfl trivial h|cases h
 ·rename_i ht
  rw[hE.tys _ _ ht];exact qh rfl trivial h
 ·cases h
def qgt(mx:Bool)(a b:Int):Int:=Bool.rec (Bool.rec b a (ZT a b)) (Bool.rec a b (ZT a b)) mx
theorem Vw(mx:Bool)(a b:Int):qgt mx a b=if mx=true then max a b else min a b:=by
 unfold qgt;rw[Z5];by_cases c:a<b
 ·rw[decide_eq_true c];cases mx<;>simp<;>omega
 ·rw[decide_eq_false c];cases mx<;>simp<;>omega
def qjp(mx:Bool)(l:List SV)(f:XR→R):R:=
 match l with
 |[.val (.int k a),.val (.int k' b)]=>qj 127 (eqKind k k') (WO (qgt mx a b) fun n=>f (.pure (.val (.int k n))))
 |[.val (.int k a),.val (.int k' b),.val (.int k'' c)]=>qj 128 (eqKind k k') (qj 129 (eqKind k k'') (WO (qgt mx (qgt mx a b) c) fun n=>f (.pure (.val (.int k n)))))
 |_=>.bad 130 0
theorem qca{mx:Bool}{l:List SV}(h:qjp mx l f=.ok ρ):zQ ρ f id (rMin mx l):=by
 unfold qjp at h;split at h
 ·obtain⟨h1,h⟩:=qe h
  rw[jl,Vw]at h;simp only[rMin,rMin2,h1,if_true];exact qh rfl trivial h
 ·obtain⟨h1,h⟩:=qe h
  obtain⟨h2,h⟩:=qe h;rw[jl,Vw,Vw]at h;simp only[rMin,rMin2,h1,h2,if_true];exact qh rfl trivial h
 ·cases h
theorem RowL.take{n m k:Nat}{l:List SV}{row:Nat→Nat→SV}(h:RowL n k l row)(hm:m≤n):RowL m k (l.take (m*k)) row:=by
 have hmk:m*k≤n*k:=xa8 k hm;refine⟨by rw[xd9,h.1];omega,fun i j hi hj=>?_⟩;rw[h.2 i j Ω hj,xc6,xc6,List.getElem?_take,if_pos (kQ hi hj)]
theorem RowL.app{n m k:Nat}{l l2:List SV}{row row2:Nat→Nat→SV}(h:RowL n k l row)(h2:RowL m k l2 row2):RowL (n+m) k (l++l2) (fun i j=>if i<n then row i j else row2 (i - n) j):=by
 refine⟨by rw[xc8,h.1,h2.1,Nat.add_mul],fun i j hi hj=>?_⟩;show(if i<n then row i j else row2 (i - n) j)=_;rw[xc6];by_cases c:i<n
 ·rw[if_pos c,h.2 i j c hj,xc6,xc9 (by rw[h.1];exact kQ c hj)]
 ·have hge:n*k≤i*k:=xa8 k Ω
  rw[if_neg c,h2.2 (i - n) j Ω hj,xc6,xd0 (by rw[h.1];omega),h.1,Nat.sub_mul]
  congr 2;omega
theorem RowL.nil{k:Nat}(row:Nat→Nat→SV):RowL 0 k [] row:=⟨Ωg,fun i j hi=>by omega⟩
def vW(row:Nat→Nat→SV)(k:Nat):Nat→List SV
 |0=>[]
 |n+1=>vW row k n++sel (row n) 0 k
theorem gW(row:Nat→Nat→SV)(k:Nat):∀n,RowL n k (vW row k n) row
 |0=>RowL.nil row
 |n+1=>by
  have h1:=gW row k n;have h2:RowL 1 k (sel (row n) 0 k) (fun i j=>row (n+i) j):=by
   refine⟨by rw[gz,Nat.one_mul],fun i j hi hj=>?_⟩;obtain rfl:i=0:=by omega
   rw[xc6,wN,Nat.zero_mul,xb0,xb0,if_pos hj];rfl
  have h3:=h1.app h2;refine⟨h3.1,fun i j hi hj=>?_⟩;rw[show(vW row k (n+1))=vW row k n++sel (row n) 0 k from rfl,←h3.2 i j hi hj];show _=if i<n then row i j else row (n+(i - n)) j
  by_cases c:i<n
  ·rw[if_pos c]
  ·rw[if_neg c,show n+(i - n)=i by omega]
def QE(hp:Tr 6 XB)(x:SV)(g:Nat→Nat→List SV→R):R:=
 match x with
 |.vec id n k=>(match hp.find id with
  |some (.rows _ k' n' l)=>qj 131 (Nat.ble n n') (qj 132 (Nat.beq k k') (gk (l.take (n*k)) fun l=>g n k l))
  |_=>.bad 133 0)
 |.cut id n k=>(match hp.find id with
  |some (.rows _ k' n' l)=>qj 134 (Nat.ble n n') (qj 135 (Nat.beq k k') (gk (l.take (n*k)) fun l=>g n k l))
  |_=>.bad 136 0)
 |.asl id off n k=>(match hp.find id with
  |some (.cells _ l)=>qj 137 (Nat.ble (off+n*k) l.length) (gk ((l.drop off).take (n*k)) fun l=>g n k l)
  |_=>.bad 138 0)
 |.arr _ _ n k row=>yp (vW row k n) fun l=>g n k l
 |.val u=>qj 139 (nilSlice u) (g 0 1 [])
 |_=>.bad 140 0
theorem j8(hH:HRel LM hp H){x:SV}{g:Nat→Nat→List SV→R}(h:QE hp x g=.ok ρ):∃obl m k row l,rowsOf H x=some (obl,m,k,row)∧obl∧RowL m k l row∧g m k l=.ok ρ:=by
 unfold QE at h;split at h
 ·split at h
  ·rename_i i n k _ _ k' n' l hb
   obtain⟨row,hb,hr⟩:=hH.rows hb;obtain⟨h1,q1⟩:=qe h;obtain⟨h2,q⟩:=qe q1;have h1:=xa7 h1;have h2:=xa6 h2;rw[qQ]at q;have e:rowsOf H (.vec i n k)=some (n≤n'∧k=k',n,k,row):=by simp only[rowsOf,hb]
   refine⟨_,_,_,row,_,e,⟨h1,h2⟩,?_,q⟩;rw[h2];exact hr.take h1
  ·cases h
 ·split at h
  ·rename_i i n k _ _ k' n' l hb
   obtain⟨row,hb,hr⟩:=hH.rows hb;obtain⟨h1,q1⟩:=qe h;obtain⟨h2,q⟩:=qe q1;have h1:=xa7 h1;have h2:=xa6 h2;rw[qQ]at q;have e:rowsOf H (.cut i n k)=some (n≤n'∧k=k',n,k,row):=by simp only[rowsOf,hb]
   refine⟨_,_,_,row,_,e,⟨h1,h2⟩,?_,q⟩;rw[h2];exact hr.take h1
  ·cases h
 ·split at h
  ·rename_i off n k _ _ l hb
   obtain⟨h1,h⟩:=qe h;have h1:=xa7 h1;rw[qQ]at h;refine⟨_,_,_,_,_,by simp only[rowsOf,hH.cells hb];rfl,h1,⟨by rw[xd9,List.length_drop];omega,fun i j hi hj=>?_⟩,h⟩;rw[xc6,xc6,List.getElem?_take,if_pos (kQ hi hj),List.getElem?_drop]
  ·cases h
 ·rw[kd]at h
  exact⟨_,_,_,_,_,rfl,trivial,gW _ _ _,h⟩
 ·obtain⟨h1,h⟩:=qe h
  exact⟨_,_,_,_,_,by simp only[rowsOf,h1,if_true];rfl,trivial,RowL.nil _,h⟩
 ·cases h
theorem Gf:∀{l:List SV}{i:Nat}{s:SV},allOne l=true→l[i]? = some s→oneCell s=true
 |[],i,s,h,e=>by simp at e
 |a :: l,i,s,h,e=>by
  simp only[allOne,xe6]at h;cases i with
  |zero=>simp at e;subst e;exact h.1
  |succ i=>exact Gf h.2 (by simpa using e)
theorem RowL.one{n k:Nat}{l:List SV}{row:Nat→Nat→SV}(h:RowL n k l row)(h1:allOne l=true):oneRows n k row:=fun i j hi hj=>by
 have hlt:i*k+j<l.length:=by rw[h.1];exact kQ hi hj
 rw[h.2 i j hi hj,xc6,xc7 hlt];exact Gf h1 (xc7 hlt)
def orK(a b:Bool):Bool:=Bool.rec b true a
theorem Vx{a b:Bool}(h:orK a b=true):a=true∨b=true:=by cases a<;>first|exact .inr h|exact .inl rfl
def qcb(e k:Nat)(m k2:Nat)(l2:List SV)(n k1:Nat)(l1:List SV)(id:Nat)(f:XR→R):R:=
 qj 141 (Nat.ble 1 m) (qj 142 (orK (Nat.beq n 0) (Nat.beq k1 k)) (qj 143 (Nat.beq k2 k) (qk (n+m) fun q=>qj 144 (Nat.ble q 1000000) (gk (l1++l2) fun l=>f (.new (.rows e k q l) (.vec id q k))))))
def qkX(hp:Tr 6 XB)(e k id0 n k' m k2:Nat)(l2:List SV)(id:Nat)(f:XR→R):R:=
 match hp.find id0 with
 |some (.rows t' k'' n' l1)=>qj 145 (orK (Nat.beq m 0) (Nat.beq k2 k)) (qj 146 (Nat.beq k' k) (qj 147 (Nat.beq k'' k) (qj 148 (Nat.beq t' e) (qj 149 (Nat.ble n n') (qj 150 (allOne l2) (qk (n+m) fun q=>qj 151 (Nat.ble q 1000000) (gk (l1.take (n*k)++l2) fun l=>f (.grow id0 (.rows e k q l) (.vec id q k)))))))))
 |_=>.bad 152 0
def qkY(hp:Tr 6 XB)(e k:Nat)(s:SV)(m k2:Nat)(l2:List SV)(id:Nat)(f:XR→R):R:=
 match s with
 |.vec id0 n k'=>qkX hp e k id0 n k' m k2 l2 id f
 |.val u=>qj 153 (nilSlice u) (qj 154 (orK (Nat.beq m 0) (Nat.beq k2 k)) (qj 155 (Nat.ble m 1000000) (f (.new (.rows e k m l2) (.vec id m k)))))
 |.cut i n kk=>QE hp (.cut i n kk) fun n k1 l1=>qcb e k m k2 l2 n k1 l1 id f
 |.arr o true n kk row=>QE hp (.arr o true n kk row) fun n k1 l1=>qcb e k m k2 l2 n k1 l1 id f
 |_=>.bad 156 0
def QF(E:XE)(hp:Tr 6 XB)(t:TypeId)(s x:SV)(id:Nat)(f:XR→R):R:=
 match E.sls t with
 |some (e,k,_)=>QE hp x fun m k2 l2=>qkY hp e k s m k2 l2 id f
 |none=>.bad 157 0
theorem RowL.of0{m k k2:Nat}{l:List SV}{row:Nat→Nat→SV}(h:RowL m k2 l row)(h0:m=0∨k2=k):RowL m k l row:=by
 rcases h0 with rfl|rfl
 ·have:=h.1
  rw[Nat.zero_mul]at this;rw[List.length_eq_zero_iff.1 this];exact RowL.nil row
 ·exact h
theorem qaB(hE:XOk P E)(hH:HRel LM hp H){t:TypeId}{s x:SV}(h:QF E hp t s x id f=.ok ρ):zQ ρ f id (rAppend P t H s x):=by
 unfold QF at h;split at h
 ·rename_i e k z ht
  obtain⟨⟨_,_,_,h1⟩,⟨_,_,_,h2⟩,h3,h4,h5⟩:=hE.sls _ _ _ _ ht;obtain⟨obl,m,k2,row2,l2,hx,ho,hr,h⟩:=j8 hH h;simp only[rAppend,h1,h2,hx];have new:∀{n k1:Nat}{l1:List SV}{row1:Nat→Nat→SV}{obl1:Prop},qcb e k m k2 l2 n k1 l1 id f=.ok ρ→obl1→RowL n k1 l1 row1→zQ ρ f id (.new (obl1∧obl∧0<m∧(n=0∨k1=k)∧k2=k∧0<k∧z.length=k∧n+m≤1000000∧qF P e≤100000000) (.rows e k (n+m) (fun i j=>if i<n then row1 i j else row2 (i - n) j)) (fun id=>.vec id (n+m) k)):=by
   intro n k1 l1 row1 obl1 h ho1 hr1;unfold qcb at h;obtain⟨q1,h⟩:=qe h;obtain⟨q2,h⟩:=qe h;obtain⟨q3,h⟩:=qe h;rw[qi]at h;obtain⟨q4,h⟩:=qe h;rw[qQ]at h;have q1:=xa7 q1;have q2:n=0∨k1=k:=(Vx q2).imp xa6 xa6;have q3:=xa6 q3;have q4:=xa7 q4;exact gV h rfl ⟨ho1,ho,q1,q2,q3,h3,h4,q4,h5⟩ ⟨rfl,rfl,rfl,(hr1.of0 q2).app (hr.of0 (.inr q3))⟩ rfl
  unfold qkY at h;split at h
  ·unfold qkX at h
   split at h
   ·rename_i hb
    obtain⟨row,hb,hr1⟩:=hH.rows hb;obtain⟨q1,h⟩:=qe h;obtain⟨q2,h⟩:=qe h;obtain⟨q3,h⟩:=qe h;obtain⟨q4,h⟩:=qe h;obtain⟨q5,h⟩:=qe h;obtain⟨q6,h⟩:=qe h;rw[qi]at h;obtain⟨q7,h⟩:=qe h;rw[qQ]at h;have q1:m=0∨k2=k:=(Vx q1).imp xa6 xa6;have q2:=xa6 q2;have q3:=xa6 q3;have q4:=xa6 q4;have q5:=xa7 q5;have q7:=xa7 q7;simp only[hb];rw[q3]at hr1;exact qeb h rfl ⟨ho,q1,q2,q3,q4,q5,h3,h4,(hr.of0 q1).one q6,q7,h5⟩ ⟨rfl,rfl,rfl,(hr1.take q5).app (hr.of0 q1)⟩ rfl
   ·cases h
  ·obtain⟨q1,h⟩:=qe h
   obtain⟨q2,h⟩:=qe h;obtain⟨q3,h⟩:=qe h;have q2:m=0∨k2=k:=(Vx q2).imp xa6 xa6;simp only[q1];exact gV h rfl ⟨ho,q2,h3,h4,xa7 q3,h5⟩ ⟨rfl,rfl,rfl,hr.of0 q2⟩ rfl
  ·obtain⟨obl1,n,k1,row1,l1,hx1,ho1,hr1,h⟩:=j8 hH h
   simp only[hx1];exact new h ho1 hr1
  ·obtain⟨obl1,n,k1,row1,l1,hx1,ho1,hr1,h⟩:=j8 hH h
   simp only[hx1];exact new h ho1 hr1
  ·cases h
 ·cases h
end
end
end Go.Sx
end
section
namespace Go.Sx
open Go.RowKit
noncomputable section
variable{ρ:Q}
section
variable{P:Program}{E:XE}{f:XR→R}{id:Nat}{hp:Tr 6 XB}{H:List (Nat×Blk)}{LM:Nat→Option Loop}
def Zo(d:Nat)(o:Option SV)(g:Nat→R):R:=
 match o with
 |none=>g d
 |some (.val (.int _ (.ofNat i)))=>g i
 |_=>.bad 160 0
theorem QG{d:Nat}{o:Option SV}{g:Nat→R}(h:Zo d o g=.ok ρ):∃a,bnd (d:Int) o=some (Int.ofNat a)∧g a=.ok ρ:=by
 unfold Zo at h;split at h
 ·exact⟨d,rfl,h⟩
 ·exact⟨_,rfl,h⟩
 ·cases h
theorem gX{o:Option SV}{g:Nat→R}(h:Zo 0 o g=.ok ρ):∃a,bnd 0 o=some (Int.ofNat a)∧g a=.ok ρ:=QG (d:=0) h
theorem zO{a b:Nat}(h:a≤b):Int.ofNat a≤Int.ofNat b:=by simp only[Int.ofNat_eq_natCast];omega
theorem yb{a b:Nat}:(Int.ofNat b - Int.ofNat a).toNat=b - a:=by simp only[Int.ofNat_eq_natCast];omega
def qcc(k:Nat)(id n k':Nat)(lo hi mx:Option SV)(f:XR→R):R:=
 Zo 0 lo fun l=>Zo n hi fun h=>qj 162 (Nat.ble h n) (qj 163 (Nat.beq k' k) (qj 161 (Nat.ble l h) (match mx with
  |none=>Bool.rec (qj 182 (Nat.beq h n) (qk (h - l) fun q=>f (.pure (.que id l q k)))) (f (.pure (.vec id h k))) (Nat.beq l 0)
  |some m=>Zo 0 (some m) fun m=>qj 164 (Nat.ble h m) (qj 165 hi.isSome (qj 183 (Nat.ble m n) (Bool.rec (f (.pure .top)) (f (.pure (.cut id h k))) (Nat.beq l 0&&Nat.beq h m)))))))
def qcd(u:Value)(lo hi mx:Option SV)(f:XR→R):R:=
 Zo 0 lo fun l=>Zo 0 hi fun h=>qj 166 (nilSlice u) (qj 167 (Nat.beq l 0) (qj 168 (Nat.beq h 0) (match mx with
  |none=>f (.pure (.val (.slice none 0 0)))
  |some m=>Zo 0 (some m) fun m=>qj 169 (Nat.beq m 0) (qj 170 hi.isSome (f (.pure (.val (.slice none 0 0))))))))
def qgu(l h n:Nat):Bool:=Bool.rec false (Bool.rec false (orK (Nat.beq l 0) (Nat.ble (Nat.succ l) h)) (Nat.ble h n)) (Nat.ble l h)
theorem WX{l h n:Nat}(e:qgu l h n=true):0≤Int.ofNat l∧(Int.ofNat l=0∨Int.ofNat l<Int.ofNat h)∧Int.ofNat l≤Int.ofNat h∧Int.ofNat h≤(n:Int):=by
 unfold qgu at e;cases h1:Nat.ble l h with
 |false=>rw[h1]at e;cases e
 |true=>
  rw[h1]at e;cases h2:Nat.ble h n with
  |false=>rw[h2]at e;cases e
  |true=>
   rw[h2]at e;have e:orK (Nat.beq l 0) (Nat.ble (Nat.succ l) h)=true:=e;have h1:=xa7 h1;have h2:=xa7 h2;have e:=(Vx e).imp xa6 xa7;simp only[Int.ofNat_eq_natCast];omega
def Z7(n k:Nat)(id off:Nat)(lo hi:Option SV)(f:XR→R):R:=
 Zo 0 lo fun l=>Zo n hi fun h=>qj 171 (qgu l h n) (qk (off+l*k) fun o=>qk (h - l) fun q=>f (.pure (.asl id o q k)))
def qce(k:Nat)(x:SV)(lo hi mx:Option SV)(f:XR→R):R:=
 match x with
 |.vec id n k'=>qcc k id n k' lo hi mx f
 |.val u=>qcd u lo hi mx f
 |.asl id off n k'=>(match mx with|none=>qj 172 (Nat.beq k' k) (Z7 n k id off lo hi f)|some _=>.bad 173 0)
 |.arr o full n k' row=>(match mx with|none=>Zo 0 lo fun l=>Zo n hi fun h=>qj 174 (Nat.ble l h) (qj 175 (Nat.ble h n) (qj 176 (Nat.beq k' k) (ZJ (full&&hi.isNone) fun fl=>qk (h - l) fun q=>f (.pure (.arr o fl q k (fun i j=>row (l+i) j))))))|some _=>.bad 177 0)
 |_=>.bad 178 0
def qaC(E:XE)(t:TypeId)(x:SV)(lo hi mx:Option SV)(f:XR→R):R:=
 match E.tys t with
 |some ⟨_,_,_,.slice _ k⟩=>qce k x lo hi mx f
 |some ⟨_,_,_,.array n _ k⟩=>(match x with
  |.ptr id off=>(match mx with|none=>Z7 n k id off lo hi f|some _=>.bad 179 0)
  |_=>.bad 180 0)
 |_=>.bad 181 0
theorem WY{m:SV}{a:Nat}(h:bnd 0 (some m)=some (Int.ofNat a)):∃k,m=.val (.int k (Int.ofNat a)):=by
 unfold bnd at h;split at h
 ·rename_i e;cases e
 ·rename_i e;cases e;cases h;exact⟨_,rfl⟩
 ·cases h
theorem qej(hE:XOk P E){t:TypeId}{x:SV}{lo hi mx:Option SV}(h:qaC E t x lo hi mx f=.ok ρ):zQ ρ f id (rSlice (qn P t) x lo hi mx):=by
 unfold qaC at h;split at h
 ·rename_i ht
  rw[hE.tys _ _ ht];unfold qce at h;split at h
  ·unfold qcc at h
   obtain⟨a,ea,h⟩:=gX h;obtain⟨b,eb,h⟩:=QG h;obtain⟨q2,h⟩:=qe h;obtain⟨q3,h⟩:=qe h;obtain⟨q1,h⟩:=qe h;have q1:=xa7 q1;have q2:=xa7 q2;have q3:=xa6 q3;split at h
   ·simp only[rSlice,ea,eb]
    cases z:Nat.beq a 0 with
    |true=>
     rw[z]at h;have z:=xa6 z;subst z;exact qh rfl ⟨Int.le_refl _,qH _,zO q2,.inl rfl,q3⟩ h
    |false=>
     rw[z]at h;obtain⟨q4,h⟩:=qe h;have q4:=xa6 q4;rw[qi]at h;have hz:¬(Int.ofNat a=0):=fun c=>by
      simp only[Int.ofNat_eq_natCast]at c;have:a=0:=by omega
      rw[this]at z;cases z
     have ee:∀i k,zU (Int.ofNat a) (Int.ofNat b) i k=.que i a (b - a) k:=fun i k=>by
      unfold zU;rw[if_neg hz,yb];rfl
     rw[ee];exact qh rfl ⟨qH _,zO q1,zO q2,.inr (by rw[q4];rfl),q3⟩ h
   ·obtain⟨c,ec,p⟩:=gX h
    obtain⟨q4,p1⟩:=qe p;obtain⟨q5,p2⟩:=qe p1;obtain⟨q6,p3⟩:=qe p2;obtain⟨kk,em⟩:=WY ec;have q4:=xa7 q4;have q6:=xa7 q6;rw[em];simp only[rSlice,ea,eb];cases z:(Nat.beq a 0&&Nat.beq b c)with
    |true=>
     rw[z]at p3;simp only[xe6]at z;have z1:=xa6 z.1;have z2:=xa6 z.2;have ee:∀i k,jw (Int.ofNat a) (Int.ofNat b) (Int.ofNat c) i k=.cut i b k:=fun i k=>by
      unfold jw;rw[if_pos ⟨by rw[z1];rfl,by rw[z2]⟩];rfl
     rw[ee];exact qh rfl ⟨qH _,zO q1,zO q4,zO q6,q5,q3⟩ p3
    |false=>
     rw[z]at p3;have ee:∀i k,jw (Int.ofNat a) (Int.ofNat b) (Int.ofNat c) i k=.top:=fun i k=>by
      unfold jw;rw[if_neg];rintro⟨z1,z2⟩;simp only[Int.ofNat_eq_natCast]at z1 z2;have z1:a=0:=by omega
      have z2:b=c:=by omega
      rw[z1,z2,Nat.beq_refl,Nat.beq_refl]at z;cases z
     rw[ee];exact qh rfl ⟨qH _,zO q1,zO q4,zO q6,q5,q3⟩ p3
  ·unfold qcd at h
   obtain⟨a,ea,h⟩:=gX h;obtain⟨b,eb,h⟩:=gX h;obtain⟨q1,h⟩:=qe h;obtain⟨q2,h⟩:=qe h;obtain⟨q3,h⟩:=qe h;have z2:Int.ofNat a=0:=by rw[xa6 q2];rfl
   have z3:Int.ofNat b=0:=by rw[xa6 q3];rfl
   split at h
   ·simp only[rSlice,ea,eb]
    exact qh rfl ⟨q1,z2,z3⟩ h
   ·obtain⟨c,ec,p⟩:=gX h
    obtain⟨q4,p1⟩:=qe p;obtain⟨q5,p2⟩:=qe p1;obtain⟨kk,em⟩:=WY ec;have z4:Int.ofNat c=0:=by rw[xa6 q4];rfl
    rw[em];simp only[rSlice,ea,eb];exact qh rfl ⟨q1,z2,z3,z4,q5⟩ p2
  ·split at h
   ·obtain⟨q1,h⟩:=qe h
    unfold Z7 at h;obtain⟨a,ea,h⟩:=gX h;obtain⟨b,eb,h⟩:=QG h;obtain⟨q2,h⟩:=qe h;rw[qi,qi]at h;obtain⟨r1,r2,r3,r4⟩:=WX q2;simp only[rSlice,ea,eb];rw[←yb]at h;exact qh rfl ⟨r1,r2,r3,r4,xa6 q1⟩ h
   ·cases h
  ·split at h
   ·obtain⟨a,ea,h⟩:=gX h
    obtain⟨b,eb,h⟩:=QG h;obtain⟨q1,h⟩:=qe h;obtain⟨q2,h⟩:=qe h;obtain⟨q3,h⟩:=qe h;rw[Qv,qi,←yb]at h;simp only[rSlice,ea,eb];exact qh rfl ⟨qH _,zO (xa7 q1),zO (xa7 q2),xa6 q3⟩ h
   ·cases h
  ·cases h
 ·rename_i ht
  rw[hE.tys _ _ ht];split at h
  ·split at h
   ·unfold Z7 at h
    obtain⟨a,ea,h⟩:=gX h;obtain⟨b,eb,h⟩:=QG h;obtain⟨q2,h⟩:=qe h;rw[qi,qi]at h;simp only[rSlice,ea,eb];rw[←yb]at h;exact qh rfl (WX q2) h
   ·cases h
  ·cases h
 ·cases h
theorem WZ:∀l:List Value,(vals l).length=l.length
 |[]=>rfl
 |a :: l=>by rw[vals,xe4,xe4,WZ l]
theorem qcf:∀(l:List Value)(i:Nat),i<l.length→(vals l)[i]? = some (.val (l.getD i undef))
 |[],i,h=>by simp at h
 |a :: l,0,h=>rfl
 |a :: l,i+1,h=>by
  rw[vals,xd7,qcf l i Ω5];rfl
theorem W0(z:List Value):∀n,RowL n z.length (zrep z n) (fun _ j=>.val (z.getD j undef))
 |0=>RowL.nil _
 |n+1=>by
  have h1:RowL 1 z.length (vals z) (fun _ j=>.val (z.getD j undef)):=by
   refine⟨by rw[WZ,Nat.one_mul],fun i j hi hj=>?_⟩;obtain rfl:i=0:=by omega
   rw[xc6,Nat.zero_mul,xb0,qcf z j hj];rfl
  have h2:=h1.app (W0 z n);refine⟨by have:=h2.1;rw[xc5 1 n]at this;exact this,fun i j hi hj=>?_⟩;rw[show zrep z (n+1)=vals z++zrep z n from rfl,←h2.2 i j Ω hj];show _=if i<1 then SV.val (z.getD j undef)else SV.val (z.getD j undef)
  rw[ite_self]
def qjq(s:SV)(g:Nat→R):R:=
 match s with
 |.val (.int _ (.ofNat n))=>g n
 |_=>.bad 190 0
theorem qcg{s:SV}{g:Nat→R}(h:qjq s g=.ok ρ):∃k n,s=.val (.int k (Int.ofNat n))∧g n=.ok ρ:=by
 unfold qjq at h;split at h
 ·exact⟨_,_,rfl,h⟩
 ·cases h
def qgv(E:XE)(t:TypeId)(l c:SV)(id:Nat)(f:XR→R):R:=
 match E.sls t with
 |some (e,k,z)=>qjq l fun l=>qjq c fun c=>qj 191 (Nat.ble l c) (qj 192 (Nat.ble c 1000000) (yp (zrep z c) fun L=>f (.new (.rows e k c L) (.vec id l k))))
 |none=>.bad 193 0
theorem qgw(hE:XOk P E){t:TypeId}{l c:SV}(h:qgv E t l c id f=.ok ρ):zQ ρ f id (rMakeSlice P t l c):=by
 unfold qgv at h;split at h
 ·rename_i e k z ht
  obtain⟨⟨_,_,_,h1⟩,⟨_,_,_,h2⟩,h3,h4,h5⟩:=hE.sls _ _ _ _ ht;obtain⟨_,a,e1,p1⟩:=qcg h;obtain⟨_,b,e2,p2⟩:=qcg p1;obtain⟨q1,p3⟩:=qe p2;obtain⟨q2,p4⟩:=qe p3;rw[kd]at p4;rw[e1,e2];simp only[rMakeSlice,h1,h2];subst h4;have q2:=zO (xa7 q2);exact gV p4 rfl ⟨qH _,zO (xa7 q1),q2,h5,rfl,h3⟩ ⟨rfl,rfl,rfl,W0 z b⟩ rfl
 ·cases h
def qch(l:Option (List SV))(f:XR→R):R:=
 match l with
 |some l=>yp l fun l=>f (.pure (.agg l))
 |none=>.bad 194 0
def qaD(E:XE)(t:TypeId)(ps:List (Nat×SV))(f:XR→R):R:=
 match E.tys t,E.pls t with
 |some ⟨true,_,some z,_⟩,some pl=>qch (fillS (fun i=>pl[i]?) (vals z) ps) f
 |_,_=>.bad 195 0
theorem qek(hE:XOk P E){t:TypeId}{ps:List (Nat×SV)}(h:qaD E t ps f=.ok ρ):zQ ρ f id (rBuild P t ps):=by
 unfold qaD at h;split at h
 ·rename_i z _ pl ht hp
  have ht:=hE.tys _ _ ht;have hp:=hE.pls _ _ hp;unfold qch at h;simp only[rBuild,ht,hp];split at h
  ·rename_i l hl
   rw[kd]at h;rw[hl];exact qh rfl trivial h
  ·cases h
 ·cases h
def qci(e k len:Nat)(id:Nat)(l:Option (List SV))(f:XR→R):R:=
 match l with
 |some l=>yp l fun l=>qj 196 (Nat.beq l.length (len*k)) (qj 197 (Nat.ble (len*k) 16777216) (f (.new (.rows e k len l) (.vec id len k))))
 |none=>.bad 198 0
def wB(E:XE)(t:TypeId)(len:Nat)(ps:List (Nat×SV))(id:Nat)(f:XR→R):R:=
 match E.sls t with
 |some (e,k,z)=>qci e k len id (fillS (fun i=>some (i*k,k)) (zrep z len) ps) f
 |none=>.bad 199 0
theorem Gg(hE:XOk P E){t:TypeId}{len:Nat}{ps:List (Nat×SV)}(h:wB E t len ps id f=.ok ρ):zQ ρ f id (rBuildSlice P t len ps):=by
 unfold wB at h;split at h
 ·rename_i e k z ht
  obtain⟨⟨_,_,_,h1⟩,⟨_,_,_,h2⟩,h3,h4,h5⟩:=hE.sls _ _ _ _ ht;unfold qci at h;simp only[rBuildSlice,h1,h2];split at h
  ·rename_i l hl
   rw[kd]at h;obtain⟨q1,h⟩:=qe h;obtain⟨q2,h⟩:=qe h;rw[hl];exact gV h rfl ⟨h4,h3,xa7 q2⟩ ⟨rfl,rfl,rfl,xa6 q1,fun i j _ _=>rfl⟩ rfl
  ·cases h
 ·cases h
def qgx(hp:Tr 6 XB)(k:Nat)(id n k' m k2:Nat)(l2:List SV)(f:XR→R):R:=
 match hp.find id with
 |some (.rows t k'' n' l)=>qj 200 (Nat.beq k2 k) (qj 201 (Nat.beq k' k) (qj 202 (Nat.beq k'' k) (qj 203 (Nat.ble n n') (qj 204 (Nat.ble 1 k) (qj 205 (allOne l2) (qk (min m n) fun q=>gk (l2.take (q*k)++l.drop (q*k)) fun l=>f (.upd id (.rows t k n' l) (.val (.int .i64 (q:Nat))))))))))
 |_=>.bad 206 0
def qgy(hp:Tr 6 XB)(k:Nat)(id off n k' m k2:Nat)(l2:List SV)(f:XR→R):R:=
 match hp.find id with
 |some (.cells t l)=>qj 207 (Nat.beq k2 1) (qj 208 (Nat.beq k' 1) (qj 209 (Nat.beq k 1) (qj 210 (Nat.ble (off+n) l.length) (qj 211 (Nat.ble 1 m) (qj 212 (Nat.ble 1 n) (qj 213 (allOne l2) (qk (min m n) fun q=>gk (l.take off++l2.take q++l.drop (off+q)) fun l=>f (.upd id (.cells t l) (.val (.int .i64 (q:Nat)))))))))))
 |_=>.bad 214 0
def qgz(hp:Tr 6 XB)(k:Nat)(d:SV)(m k2:Nat)(l2:List SV)(f:XR→R):R:=
 match d with
 |.vec id n k'=>qgx hp k id n k' m k2 l2 f
 |.asl id off n k'=>qgy hp k id off n k' m k2 l2 f
 |_=>.bad 215 0
def qgA(E:XE)(hp:Tr 6 XB)(t:TypeId)(d x:SV)(f:XR→R):R:=
 match E.tys t with
 |some ⟨_,_,_,.slice _ k⟩=>QE hp x fun m k2 l2=>qgz hp k d m k2 l2 f
 |_=>.bad 216 0
theorem RowL.cpy{n m k q:Nat}{l l2:List SV}{row row2:Nat→Nat→SV}(h:RowL n k l row)(h2:RowL m k l2 row2)(hq:q≤m)(hn:q≤n):RowL n k (l2.take (q*k)++l.drop (q*k)) (fun i j=>if i<q then row2 i j else row i j):=by
 have a1:q*k≤m*k:=xa8 k hq;have a2:q*k≤n*k:=xa8 k hn;have e1:(l2.take (q*k)).length=q*k:=by rw[xd9,h2.1];omega
 refine⟨by rw[xc8,e1,List.length_drop,h.1];omega,fun i j hi hj=>?_⟩;show(if i<q then row2 i j else row i j)=_;rw[xc6];by_cases c:i<q
 ·rw[if_pos c,h2.2 i j Ω hj,xc6,xc9 (by rw[e1];exact kQ c hj),List.getElem?_take,if_pos (kQ c hj)]
 ·have hge:q*k≤i*k:=xa8 k Ω
  rw[if_neg c,h.2 i j hi hj,xc6,xd0 (by rw[e1];omega),e1,List.getElem?_drop]
  congr 2;omega
theorem qgB{m q:Nat}{l:List SV}{row:Nat→Nat→SV}(h:RowL m 1 l row)(hq:q≤m):(List.range q).map (fun i=>row i 0)=l.take q:=by
 refine List.ext_getElem? fun i=>?_;rw[List.getElem?_take];by_cases c:i<q
 ·have hl:i<l.length:=by rw[h.1];omega
  rw[if_pos c,List.getElem?_map,xe3 c,xc7 hl];show some (row i 0)=_;rw[h.2 i 0 Ω Ω,xc6,Nat.mul_one,xb1,xc7 hl];rfl
 ·rw[if_neg c,List.getElem?_eq_none Ωl]
theorem qgC(hE:XOk P E)(hH:HRel LM hp H){t:TypeId}{d x:SV}(h:qgA E hp t d x f=.ok ρ):zQ ρ f id (rCopy P t H d x):=by
 unfold qgA at h;split at h
 ·rename_i k ht
  have ht:=hE.tys _ _ ht;obtain⟨obl,m,k2,row2,l2,hx,ho,hr,h⟩:=j8 hH h;unfold qgz at h;simp only[rCopy,ht,hx];split at h
  ·unfold qgx at h
   split at h
   ·rename_i hb
    obtain⟨row,hb,hr1⟩:=hH.rows hb;obtain⟨q1,h⟩:=qe h;obtain⟨q2,h⟩:=qe h;obtain⟨q3,h⟩:=qe h;obtain⟨q4,h⟩:=qe h;obtain⟨q5,h⟩:=qe h;obtain⟨q6,h⟩:=qe h;rw[qi,qQ]at h;have q1:=xa6 q1;have q2:=xa6 q2;have q3:=xa6 q3;have q4:=xa7 q4;have q5:=xa7 q5;simp only[hb];rw[q3]at hr1;have hr2:=hr.of0 (.inr q1);exact Jv h rfl ⟨ho,.inr q1,q2,q3,q4,q5,hr2.one q6⟩ ⟨rfl,rfl,rfl,hr1.cpy hr2 (Nat.min_le_left _ _) Ω⟩
   ·cases h
  ·unfold qgy at h
   split at h
   ·rename_i hb
    obtain⟨q1,h⟩:=qe h;obtain⟨q2,h⟩:=qe h;obtain⟨q3,h⟩:=qe h;obtain⟨q4,h⟩:=qe h;obtain⟨q5,h⟩:=qe h;obtain⟨q6,h⟩:=qe h;obtain⟨q7,h⟩:=qe h;rw[qi,qQ]at h;have q1:=xa6 q1;have q2:=xa6 q2;have q3:=xa6 q3;have q4:=xa7 q4;have q5:=xa7 q5;have q6:=xa7 q6;simp only[hH.cells hb];have hr2:=hr.of0 (.inr q1);exact Jv h rfl ⟨ho,q1,q2,q3,q4,q5,q6,hr2.one q7⟩ ⟨rfl,by rw[qgB hr2 (Nat.min_le_left _ _)]⟩
   ·cases h
  ·cases h
 ·cases h
def qcj(hp:Tr 6 XB)(v:Value)(k:Nat)(d:SV)(f:XR→R):R:=
 match d with
 |.asl id off n k'=>(match hp.find id with
  |some (.cells t l)=>qj 220 (Nat.ble (off+n) l.length) (qj 221 (Nat.beq k' 1) (qj 222 (Nat.beq k 1) (qj 223 v.oneCell' (qj 224 (Nat.ble 1 n) (gk (l.take off++List.replicate n (.val v)++l.drop (off+n)) fun l=>f (.upd id (.cells t l) undefSV))))))
  |_=>.bad 225 0)
 |.vec id n k'=>(match hp.find id with
  |some (.rows t kk m l)=>qj 228 (Nat.beq k' 1) (qj 229 (Nat.beq kk 1) (qj 241 (Nat.beq k 1) (qj 242 (Nat.ble n m) (qj 243 v.oneCell' (gk (List.replicate n (.val v)++l.drop n) fun l=>f (.upd id (.rows t 1 m l) undefSV))))))
  |_=>.bad 244 0)
 |.que id off n k'=>(match hp.find id with
  |some (.rows t kk m l)=>qj 248 (Nat.beq k' 1) (qj 249 (Nat.beq kk 1) (qj 250 (Nat.beq k 1) (qj 251 (Nat.ble (off+n) m) (qj 252 v.oneCell' (gk (l.take off++(List.replicate n (.val v)++l.drop (off+n))) fun l=>f (.upd id (.rows t 1 m l) undefSV))))))
  |_=>.bad 253 0)
 |_=>.bad 226 0
theorem RowL.clrq{off n m:Nat}{l:List SV}{row:Nat→Nat→SV}{v:SV}(h:RowL m 1 l row)(hn:off+n≤m):RowL m 1 (l.take off++(List.replicate n v++l.drop (off+n))) (fun i j=>if off≤i∧i<off+n then v else row i j):=by
 obtain⟨h1,h2⟩:=h;have ht:(l.take off).length=off:=by rw[xd9];omega
 refine⟨by simp[h1];omega,fun i j hi hj=>?_⟩;have hj0:j=0:=by omega
 subst hj0;simp only[Nat.mul_one,xb1,xc6];by_cases c:i<off
 ·rw[if_neg Ω,xc9 Ω,List.getElem?_take,if_pos c,h2 i 0 hi Ω]
  simp only[Nat.mul_one,xb1,xc6]
 ·rw[xd0 Ω,ht]
  by_cases d:i<off+n
  ·rw[if_pos Ω,xc9 Ωl,List.getElem?_replicate,if_pos Ω];rfl
  ·rw[if_neg Ω,xd0 Ωl,h2 i 0 hi Ω]
   simp only[xd8,List.getElem?_drop,Nat.mul_one,xb1,xc6];rw[show off+n+(i - off - n)=i by omega]
theorem RowL.clr{n m:Nat}{l:List SV}{row:Nat→Nat→SV}{v:SV}(h:RowL m 1 l row)(hn:n≤m):RowL m 1 (List.replicate n v++l.drop n) (fun i j=>if i<n then v else row i j):=by
 obtain⟨h1,h2⟩:=h;refine⟨by simp[h1];omega,fun i j hi hj=>?_⟩;have hj0:j=0:=by omega
 subst hj0;simp only[Nat.mul_one,xb1,xc6];by_cases c:i<n
 ·rw[if_pos c,xc9 (by simpa using c)]
  simp[c]
 ·rw[if_neg c,xd0 (by simpa using c),h2 i 0 hi Ω]
  simp only[xd8,List.getElem?_drop,Nat.mul_one,xb1,xc6];rw[show n+(i - n)=i by omega]
def qaE(E:XE)(hp:Tr 6 XB)(t:TypeId)(d:SV)(f:XR→R):R:=
 match E.sls t with
 |some (_,k,[v])=>qcj hp v k d f
 |some _=>.bad 227 0
 |none=>(match d with
  |.mp id=>(match E.mps t with
   |some mi=>(match hp.find id with
    |some (.map ag ls es)=>f (.upd id (.map ag ls []) undefSV)
    |_=>.bad 245 0)
   |none=>.bad 246 0)
  |_=>.bad 247 0)
theorem qel(hE:XOk P E)(hH:HRel LM hp H){t:TypeId}{d:SV}:qaE E hp t d f=.ok ρ→zQ ρ f id (match d with
   |.mp id=>rClearMap (qy P t) H (.mp id)
   |x=>rClear P t H x):=by
 intro h;unfold qaE at h;split at h
 ·rename_i ht
  obtain⟨⟨_,_,_,h1⟩,⟨_,_,_,h2⟩,h3,h4,h5⟩:=hE.sls _ _ _ _ ht;unfold qcj at h;split at h
  ·split at h
   ·rename_i hb
    obtain⟨q1,h⟩:=qe h;obtain⟨q2,h⟩:=qe h;obtain⟨q3,h⟩:=qe h;obtain⟨q4,h⟩:=qe h;obtain⟨q5,h⟩:=qe h;rw[qQ]at h;simp only[rClear,h1,h2,hH.cells hb];exact kO h rfl ⟨xa7 q1,xa6 q2,xa6 q3,q4,xa7 q5⟩ ⟨rfl,rfl⟩
   ·cases h
  ·split at h
   ·rename_i hb
    obtain⟨q1,p1⟩:=qe h;obtain⟨q2,p2⟩:=qe p1;obtain⟨q3,p3⟩:=qe p2;obtain⟨q4,p4⟩:=qe p3;obtain⟨q5,p5⟩:=qe p4;rw[qQ]at p5;obtain⟨row,hb',hr⟩:=hH.rows hb;have q2:=xa6 q2;rw[q2]at hb' hr;simp only[rClear,h1,h2,hb'];exact kO p5 rfl ⟨xa6 q1,trivial,xa6 q3,xa7 q4,q5⟩ ⟨rfl,rfl,rfl,hr.clr (xa7 q4)⟩
   ·cases h
  ·split at h
   ·rename_i hb
    obtain⟨q1,p1⟩:=qe h;obtain⟨q2,p2⟩:=qe p1;obtain⟨q3,p3⟩:=qe p2;obtain⟨q4,p4⟩:=qe p3;obtain⟨q5,p5⟩:=qe p4;rw[qQ]at p5;obtain⟨row,hb',hr⟩:=hH.rows hb;have q2:=xa6 q2;rw[q2]at hb' hr;simp only[rClear,h1,h2,hb'];exact kO p5 rfl ⟨xa6 q1,trivial,xa6 q3,xa7 q4,q5⟩ ⟨rfl,rfl,rfl,hr.clrq (xa7 q4)⟩
   ·cases h
  ·cases h
 ·cases h
 ·split at h
  ·split at h
   ·rename_i mi hm
    split at h
    ·rename_i ag ls es hb
     obtain⟨dom,get,g1,g2⟩:=hH.map hb;simp only[rClearMap,hE.mps _ _ hm,g1];exact kO h rfl trivial ⟨rfl,fun u=>⟨rfl,fun s hs=>by cases hs⟩⟩
    ·cases h
   ·cases h
  ·cases h
def qgD(s:SV)(g:Value→R):R:=
 match keyV s with
 |some v=>g v
 |none=>.bad 400 0
theorem Vy{s:SV}{g:Value→R}(h:qgD s g=.ok ρ):∃v,keyV s=some v∧g v=.ok ρ:=by
 unfold qgD at h;split at h
 ·rename_i v hv;exact⟨v,hv,h⟩
 ·cases h
def qgE(hp:Tr 6 XB)(x:SV)(mi:jx)(g:Nat→List (Value×Option SV)→R):R:=
 match x with
 |.mp id=>(match hp.find id with
  |some (.map ag ls es)=>qj 401 (decide (mi.ag=ag)) (qj 402 (qlK mi.ls ls) (g id es))
  |_=>.bad 403 0)
 |_=>.bad 404 0
theorem Vz(hH:HRel LM hp H){x:SV}{mi:jx}{g:Nat→List (Value×Option SV)→R}(h:qgE hp x mi g=.ok ρ):∃id es dom get,x=.mp id∧blk H id=some (.map (ql mi.ag mi.ls) dom get)∧(∀k,dom k=(kY es k).isSome∧∀s,kY es k=some s→get k=s)∧g id es=.ok ρ:=by
 unfold qgE at h;split at h
 ·split at h
  ·rename_i ag ls es hb
   obtain⟨q1,p1⟩:=qe h;obtain⟨q2,p2⟩:=qe p1;obtain⟨dom,get,h1,h2⟩:=hH.map hb;rw[←of_decide_eq_true q1,←qbL q2]at h1;exact⟨_,_,_,_,rfl,h1,h2,p2⟩
  ·cases h
 ·cases h
def qgF(z:Value)(o:Option SV)(ok:Bool)(f:XR→R):R:=
 match o with
 |some s=>Bool.rec (f (.pure s)) (f (.pure (.tup [s,.val (.bool true)]))) ok
 |none=>Bool.rec (f (.pure (.val z))) (f (.pure (.tup [.val z,.val (.bool false)]))) ok
def Z8(E:XE)(hp:Tr 6 XB)(t:TypeId)(x k:SV)(ok:Bool)(f:XR→R):R:=
 match E.mps t with
 |some mi=>qgE hp x mi fun _ es=>qgD k fun v=>qj 405 (Z6 mi.ag mi.ls v) (qgF mi.zero (kY es v) ok f)
 |none=>.bad 406 0
theorem qaF(hE:XOk P E)(hH:HRel LM hp H){t:TypeId}{x k:SV}{ok:Bool}(h:Z8 E hp t x k ok f=.ok ρ):zQ ρ f id (rLookup (qy P t) H x k ok):=by
 unfold Z8 at h;split at h
 ·rename_i mi hm
  rw[hE.mps _ _ hm];obtain⟨i,es,dom,get,rfl,hb,hd,h⟩:=Vz hH h;obtain⟨v,hv,h⟩:=Vy h;obtain⟨q,h⟩:=qe h;rw[yT]at q;obtain⟨ag,ls,z⟩:=mi;simp only[rLookup,mapOf,hb,hv];have hdv:=hd v;unfold qgF at h;split at h
  ·rename_i s hs
   rw[hs]at hdv;have e1:dom v=true:=hdv.1;have e2:get v=s:=hdv.2 s rfl;rw[e1,e2];cases ok
   ·exact qh rfl ⟨trivial,q⟩ h
   ·exact qh rfl ⟨trivial,q⟩ h
  ·rename_i hs
   rw[hs]at hdv;have e1:dom v=false:=hdv.1;rw[e1];cases ok
   ·exact qh rfl ⟨trivial,q⟩ h
   ·exact qh rfl ⟨trivial,q⟩ h
 ·cases h
def Z9(E:XE)(hp:Tr 6 XB)(t:TypeId)(m k x:SV)(f:XR→R):R:=
 match E.mps t with
 |some mi=>qgE hp m mi fun i es=>qgD k fun v=>qj 407 (Z6 mi.ag mi.ls v) (qj 408 (oneCell x) (f (.upd i (.map mi.ag mi.ls ((v,some x) :: es)) undefSV)))
 |none=>.bad 409 0
theorem Gh(hE:XOk P E)(hH:HRel LM hp H){t:TypeId}{m k x:SV}(h:Z9 E hp t m k x f=.ok ρ):zQ ρ f id (rUpdate (qy P t) H m k x):=by
 unfold Z9 at h;split at h
 ·rename_i mi hm
  rw[hE.mps _ _ hm];obtain⟨i,es,dom,get,rfl,hb,hd,h⟩:=Vz hH h;obtain⟨v,hv,h⟩:=Vy h;obtain⟨q,h⟩:=qe h;rw[yT]at q;obtain⟨q2,h⟩:=qe h;obtain⟨ag,ls,z⟩:=mi;simp only[rUpdate,hb,hv];refine kO h rfl ⟨trivial,q,q2⟩ ⟨rfl,fun u=>?_⟩;rw[zY];unfold qI qC;cases e:eqK v u with
  |true=>exact⟨rfl,fun s hs=>by rw[if_pos rfl]at hs;cases hs;rfl⟩
  |false=>
   rw[if_neg Ωu,xf4];exact⟨(hd u).1,fun s hs=>(hd u).2 s hs⟩
 ·cases h
def VA(E:XE)(hp:Tr 6 XB)(t:TypeId)(m k:SV)(f:XR→R):R:=
 match E.mps t with
 |some mi=>qgE hp m mi fun i es=>qgD k fun v=>qj 410 (Z6 mi.ag mi.ls v) (f (.upd i (.map mi.ag mi.ls ((v,none) :: es)) undefSV))
 |none=>.bad 411 0
theorem qaG(hE:XOk P E)(hH:HRel LM hp H){t:TypeId}{m k:SV}(h:VA E hp t m k f=.ok ρ):zQ ρ f id (rDelete (qy P t) H m k):=by
 unfold VA at h;split at h
 ·rename_i mi hm
  rw[hE.mps _ _ hm];obtain⟨i,es,dom,get,rfl,hb,hd,h⟩:=Vz hH h;obtain⟨v,hv,h⟩:=Vy h;obtain⟨q,h⟩:=qe h;rw[yT]at q;obtain⟨ag,ls,z⟩:=mi;simp only[rDelete,hb,hv];refine kO h rfl ⟨trivial,q⟩ ⟨rfl,fun u=>?_⟩;rw[zY];unfold ka;cases e:eqK v u with
  |true=>exact⟨rfl,fun s hs=>by rw[if_pos rfl]at hs;cases hs⟩
  |false=>
   rw[if_neg Ωu,Bool.not_false,xf0];exact⟨(hd u).1,fun s hs=>(hd u).2 s hs⟩
 ·cases h
def QH(E:XE)(t:TypeId)(rs:Bool)(id:Nat)(f:XR→R):R:=
 match E.mps t with
 |some mi=>qj 412 (!rs) (f (.new (.map mi.ag mi.ls []) (.mp id)))
 |none=>.bad 413 0
theorem W2(hE:XOk P E){t:TypeId}{rs:Bool}(h:QH E t rs id f=.ok ρ):zQ ρ f id (rMakeMap (qy P t) rs):=by
 unfold QH at h;split at h
 ·rename_i mi hm
  rw[hE.mps _ _ hm];obtain⟨q,h⟩:=qe h;obtain⟨ag,ls,z⟩:=mi;cases rs
  ·exact gV h rfl trivial ⟨rfl,fun k=>⟨rfl,fun s hs=>by cases hs⟩⟩ rfl
  ·cases q
 ·cases h
def qu(F:Tr 3 SV)(t:Nat):SV:=Option.rec .top (fun s=>s) (F.find t)
def FRel(fr:Tr 3 SV)(F:List (Nat×SV)):Prop:=∀t,look F t=qu fr t
def FRelF(fr:Tr 3 SV)(F:Nat→SV):Prop:=∀t,F t=qu fr t
theorem FRel.fn{fr:Tr 3 SV}{F:List (Nat×SV)}(h:FRel fr F):FRelF fr (look F):=h
def qY(F:Tr 3 SV)(x:Operand):SV:=Operand.rec (fun t=>qu F t) (fun v=>.val v) (fun _=>.top) (fun f=>.fn (.func f) [] []) x
theorem FRelF.env{fr:Tr 3 SV}{F:Nat→SV}(h:FRelF fr F)(x:Operand):env F x=qY fr x:=by cases x<;>first|exact h _|rfl
def vS(F:Tr 3 SV):List Operand→List SV
 |[]=>[]
 |x :: l=>qY F x :: vS F l
theorem FRelF.envs{fr:Tr 3 SV}{F:Nat→SV}(h:FRelF fr F):∀l:List Operand,envs F l=vS fr l
 |[]=>rfl
 |x :: l=>by rw[Sx.envs,vS,h.env,FRelF.envs h l]
def W3(F:Tr 3 SV):List (Nat×Operand)→List (Nat×SV)
 |[]=>[]
 |x :: l=>(x.1,qY F x.2) :: W3 F l
theorem FRelF.envp{fr:Tr 3 SV}{F:Nat→SV}(h:FRelF fr F):∀l:List (Nat×Operand),envp F l=W3 fr l
 |[]=>rfl
 |x :: l=>by rw[Sx.envp,W3,h.env,FRelF.envp h l]
def QK(E:XE)(hp:Tr 6 XB)(b:Builtin)(ts:List TypeId)(args:List SV)(id:Nat)(f:XR→R):R:=
 match b with
 |.len=>(match args,ts with|[x],[t]=>qei E t x f|_,_=>.bad 230 0)
 |.append=>(match args,ts with|[s,x],[t,t']=>qj 231 (Nat.beq t t') (QF E hp t s x id f)|_,_=>.bad 232 0)
 |.min=>qjp false args f
 |.max=>qjp true args f
 |.copy=>(match args,ts with|[d,x],[t,t']=>qgA E hp t d x f|_,_=>.bad 233 0)
 |.clear=>(match args,ts with|[d],[t]=>qaE E hp t d f|_,_=>.bad 234 0)
 |.delete=>(match args,ts with|[m,k],[t,t']=>VA E hp t m k f|_,_=>.bad 238 0)
 |_=>.bad 235 0
def j9(E:XE)(fr:Tr 3 SV)(hp:Tr 6 XB)(c:Call)(id:Nat)(f:XR→R):R:=
 match c.callee with
 |.value x=>(match qY fr x with
  |.fn (.func g) first caps=>yp (first++(vS fr c.args.toList++caps)) fun l=>f (.call g l)
  |.yld y=>yp (vS fr c.args.toList) fun l=>f (.yield y l)
  |_=>.bad 236 0)
 |.builtin b=>QK E hp b c.argTypes.toList (vS fr c.args.toList) id f
 |_=>.bad 237 0
theorem Gi{F:Nat→SV}{l:List Operand}{s x:SV}(h:Sx.envs F l=[s,x]):∃a b,l=[a,b]∧s=Sx.env F a∧x=Sx.env F b:=by
 match l,h with
 |[a,b],h=>simp only[Sx.envs,List.cons.injEq,and_true]at h;exact⟨a,b,rfl,h.1.symm,h.2.symm⟩
 |[],h=>cases h
 |[a],h=>simp[Sx.envs]at h
 |a :: b :: c :: l,h=>simp[Sx.envs]at h
theorem W4{F:Nat→SV}{l:List Operand}{s:SV}(h:Sx.envs F l=[s]):∃a,l=[a]∧s=Sx.env F a:=by
 match l,h with
 |[a],h=>simp only[Sx.envs,List.cons.injEq,and_true]at h;exact⟨a,rfl,h.symm⟩
 |[],h=>cases h
 |a :: b :: l,h=>simp[Sx.envs]at h
theorem qgG(hE:XOk P E){fr:Tr 3 SV}{F:Nat→SV}(hF:FRelF fr F)(hH:HRel LM hp H){c:Call}(h:j9 E fr hp c id f=.ok ρ):zQ ρ f id (rCall P F H c):=by
 unfold j9 at h;split at h
 ·rename_i x hc
  simp only[rCall,hc,hF.env,hF.envs];split at h
  ·rename_i hx
   rw[kd]at h;rw[hx];exact qec rfl h
  ·rename_i hx
   rw[kd]at h;rw[hx];exact qaz rfl h
  ·cases h
 ·rename_i b hc
  rw[←hF.envs]at h;unfold QK at h;split at h
  ·split at h
   ·rename_i ha ht
    obtain⟨a,e,rfl⟩:=W4 ha;simp only[rCall,hc,e,ht];exact qjo hE h
   ·cases h
  ·split at h
   ·rename_i ha ht
    obtain⟨a,b,e,rfl,rfl⟩:=Gi ha;obtain⟨q,h⟩:=qe h;have q:=xa6 q;simp only[rCall,hc,e,ht,if_pos q];exact qaB hE hH h
   ·cases h
  ·simp only[rCall,hc]
   exact qca h
  ·simp only[rCall,hc]
   exact qca h
  ·split at h
   ·rename_i ha ht
    obtain⟨a,b,e,rfl,rfl⟩:=Gi ha;simp only[rCall,hc,e,ht];exact qgC hE hH h
   ·cases h
  ·split at h
   ·rename_i ha ht
    obtain⟨a,e,rfl⟩:=W4 ha;simp only[rCall,hc,e,ht];exact qel hE hH h
   ·cases h
  ·split at h
   ·rename_i ha ht
    obtain⟨a,b,e,rfl,rfl⟩:=Gi ha;simp only[rCall,hc,e,ht];exact qaG hE hH h
   ·cases h
  ·cases h
 ·cases h
def qjr(fr:Tr 3 SV):Option Operand→Option SV
 |none=>none
 |some x=>some (qY fr x)
theorem FRelF.opt{fr:Tr 3 SV}{F:Nat→SV}(h:FRelF fr F)(o:Option Operand):o.map (Sx.env F)=qjr fr o:=by
 cases o
 ·rfl
 ·show some _=some _;rw[h.env]
def xOp(E:XE)(fr:Tr 3 SV)(hp:Tr 6 XB)(id:Nat)(op:Op)(f:XR→R):R:=
 match op with
 |.move x=>Qz (qY fr x) f
 |.assign x=>Qz (qY fr x) f
 |.pick c a b=>qbR (qY fr c) (qY fr a) (qY fr b) f
 |.alloc t=>Vt E t id f
 |.box t x=>qjl E t (qY fr x) id f
 |.load t x=>WT E hp t (qY fr x) f
 |.store t a x=>Ge E hp t (qY fr a) (qY fr x) f
 |.nilCheck x=>qgr (qY fr x) f
 |.binOp op t x y _=>qaA E op t (qY fr x) (qY fr y) f
 |.unOp op _ x=>xUn op (qY fr x) f
 |.convert s t x=>qbQ E s t (qY fr x) f
 |.makeFunc g fs cs=>yp (vS fr fs.toList) fun a=>yp (vS fr cs.toList) fun b=>f (.pure (.fn g a b))
 |.fieldAddr t x i=>jD E t (qY fr x) i f
 |.field t x i=>Vu E t (qY fr x) i f
 |.indexAddr t x i=>vE E t (qY fr x) (qY fr i) f
 |.extract x i=>QD (qY fr x) i f
 |.call c=>j9 E fr hp c id f
 |.build t ps=>qaD E t (W3 fr ps.toList) f
 |.buildSlice t len ps=>wB E t len (W3 fr ps.toList) id f
 |.makeSlice t l c=>qgv E t (qY fr l) (qY fr c) id f
 |.slice t x lo hi mx=>qaC E t (qY fr x) (qjr fr lo) (qjr fr hi) (qjr fr mx) f
 |.index t x i=>Vv E t (qY fr x) (qY fr i) f
 |.makeMap t rs=>QH E t rs.isSome id f
 |.lookup t x k ok=>Z8 E hp t (qY fr x) (qY fr k) ok f
 |.mapUpdate t m k x=>Z9 E hp t (qY fr m) (qY fr k) (qY fr x) f
 |.insert t m k x=>Z9 E hp t (qY fr m) (qY fr k) (qY fr x) f
 |.mapEntry _ _ _=>.bad 241 0
 |.entryStore _ _ _ _=>.bad 242 0
 |.range _ _=>.bad 243 0
 |.next _ _=>.bad 244 0
 |.entry _=>.bad 245 0
 |_=>.bad 240 0
theorem qaH(hE:XOk P E){fr:Tr 3 SV}{F:Nat→SV}(hF:FRelF fr F)(hH:HRel LM hp H){op:Op}(h:xOp E fr hp id op f=.ok ρ):zQ ρ f id (stepR P F H op):=by
 cases op<;>simp only[xOp,reduceCtorEq]at h<;>simp only[stepR,hF.env,hF.envs,hF.envp,hF.opt]
 case move x=>rw[kP]at h;exact qh rfl trivial h
 case assign x=>rw[kP]at h;exact qh rfl trivial h
 case pick=>exact qgq h
 case alloc=>exact qee hE h
 case box=>exact qjm hE h
 case load=>exact WU hE hH h
 case store=>exact qef hE hH h
 case nilCheck=>exact qjn h
 case binOp=>exact qjk hE h
 case unOp=>exact qlM h
 case convert=>exact qgp hE h
 case makeFunc=>rw[kd,kd]at h;exact qh rfl trivial h
 case fieldAddr=>exact GX hE h
 case field=>exact qeg hE h
 case indexAddr=>exact GZ hE h
 case extract=>exact WW h
 case call=>exact qgG hE hF hH h
 case build=>exact qek hE h
 case buildSlice=>exact Gg hE h
 case makeSlice=>exact qgw hE h
 case slice=>exact qej hE h
 case index=>exact qeh hE h
 case makeMap=>exact W2 hE h
 case lookup=>exact qaF hE hH h
 case mapUpdate=>exact Gh hE hH h
 case insert=>exact Gh hE hH h
end
end
end Go.Sx
end
section
namespace Go.Sx
open Go.RowKit
def jb:Op→Bool
 |.move _|.load _ (.tmp _)|.nilCheck _|.fieldAddr _ _ _|.indexAddr _ _ _|.binOp _ _ _ _ _|.build _ _=>true
 |_=>false
def yC(t:Tmp)(o:Oper):Bool:=(zI o).all (fun u=>!(Nat.beq u t))&&(match o.dst with|some d=>!(Nat.beq d t)|none=>true)
def yc(ds:List (Option Tmp))(ms:List Nat)(t e s i:Nat)(o:Oper):Bool:=
 match o.op with
 |.lookup t' _ _ false=>Nat.beq t t'&&Nat.blt i e&&(ms.getD s 0).testBit i
 |.store _ (.tmp b) _=>zs ds i b&&o.dst.isNone
 |.load _ (.tmp a)=>zs ds i a
 |op=>jb op
def gl(o:Oper):Oper:={ o with op:=.move (.const undef) }
def qem(e x s:Nat):Nat→List Oper→List Oper
 |_,[]=>[]
 |i,o :: r=>(if i=e∨i=x∨i=s then gl o else o) :: qem e x s (i+1) r
def QL(e x s:Nat)(u:Op):Nat→List Oper→List Oper
 |_,[]=>[]
 |i,o :: r=>(if i=e∨i=x then gl o else if i=s then { o with op:=u }else o) :: QL e x s u (i+1) r
def va(ds:List (Option Tmp))(ms:List Nat)(t te tx e x s:Nat):Nat→List Oper→Bool
 |_,[]=>true
 |i,o :: r=>(Nat.beq i e || Nat.beq i x || Nat.beq i s ||(yc ds ms t e s i o&&yC te o&&yC tx o))&&o.guard.isNone&&va ds ms t te tx e x s (i+1) r
def QM:List Oper→List Tmp
 |[]=>[]
 |o :: r=>(match o.op with|.load _ (.tmp a)=>[a]|.store _ (.tmp b) _=>[b]|_=>[])++QM r
structure EI where
 e:Nat
 x:Nat
 s:Nat
 te:Tmp
 tx:Tmp
 t:TypeId
 mm:Tmp
 k:Operand
 y:Operand
def qjs(ds:List (Option Tmp))(e:Nat):Operand→Bool
 |.tmp k=>zs ds e k
 |_=>true
def qgH(te tx:Tmp):Operand→Bool
 |.tmp u=>!(Nat.beq u te)&&!(Nat.beq u tx)
 |_=>true
def EI.upd(q:EI):Op:=.mapUpdate q.t (.tmp q.mm) q.k q.y
def qgI(q:EI)(far:List (Nat×Nat))(l:List Oper):Bool:=
 let ms:=zr [] l
 let ds:=dsts l
 gO 0 l&&(Qm ds ms l&&(J8 far ds ms (qem q.e q.x q.s 0 l)&&(va ds ms q.t q.te q.tx q.e q.x q.s 0 l&&(zs ds q.e q.mm&&(qjs ds q.e q.k&&((ms.getD q.x 0).testBit q.e&&((ms.getD q.s 0).testBit q.x&&((ms.getD q.s 0).testBit q.e&&qgH q.te q.tx q.y))))))))
structure Ent(q:EI)(l:List Oper):Prop where
 ex:q.e<q.x
 xs:q.x<q.s
 ne:q.te≠q.tx
 oe:∃o,l[q.e]? = some o∧o.op=.mapEntry q.t (.tmp q.mm) q.k∧o.dst=some q.te
 ox:∃o,l[q.x]? = some o∧o.op=.extract (.tmp q.te) 1∧o.dst=some q.tx
 os:∃o,l[q.s]? = some o∧o.op=.entryStore q.t (.tmp q.mm) (.tmp q.tx) q.y∧o.dst=none
theorem W5{e x s:Nat}:∀{l:List Oper}{i j:Nat}{o:Oper},l[j]? = some o→(qem e x s i l)[j]? = some (if i+j=e∨i+j=x∨i+j=s then gl o else o)
 |[],i,j,o,h=>by simp at h
 |p :: l,i,0,o,h=>by simp at h;subst h;simp[qem]
 |p :: l,i,j+1,o,h=>by
  have:=W5 (e:=e) (x:=x) (s:=s) (i:=i+1) (show l[j]? = some o by simpa using h);simp only[qem,xd7,this];rw[show i+1+j=i+(j+1) by omega]
theorem W6{e x s:Nat}{u:Op}:∀{l:List Oper}{i j:Nat}{o:Oper},l[j]? = some o→(QL e x s u i l)[j]? = some (if i+j=e∨i+j=x then gl o else if i+j=s then { o with op:=u }else o)
 |[],i,j,o,h=>by simp at h
 |p :: l,i,0,o,h=>by simp at h;subst h;simp[QL]
 |p :: l,i,j+1,o,h=>by
  have:=W6 (e:=e) (x:=x) (s:=s) (u:=u) (i:=i+1) (show l[j]? = some o by simpa using h);simp only[QL,xd7,this];rw[show i+1+j=i+(j+1) by omega]
theorem W7{e x s:Nat}{u:Op}:∀{l:List Oper}{i:Nat},(QL e x s u i l).length=l.length
 |[],i=>rfl
 |o :: l,i=>by simp[QL,W7]
theorem Jw{e x s:Nat}{u:Op}:∀{l:List Oper}{i:Nat},dsts (QL e x s u i l)=dsts l
 |[],i=>rfl
 |o :: l,i=>by
  have:∀o:Oper,(if i=e∨i=x then gl o else if i=s then { o with op:=u }else o).dst=o.dst:=fun o=>by
   split
   ·rfl
   ·split<;>rfl
  simp only[QL,dsts,Jw,this]
theorem wC{ds:List (Option Tmp)}{ms:List Nat}{t te tx e x s:Nat}:∀{l:List Oper}{i j:Nat}{o:Oper},va ds ms t te tx e x s i l=true→l[j]? = some o→o.guard=none∧(i+j=e∨i+j=x∨i+j=s∨(yc ds ms t e s (i+j) o=true∧yC te o=true∧yC tx o=true))
 |[],i,j,o,h,ho=>by simp at ho
 |p :: l,i,0,o,h,ho=>by
  simp at ho;subst ho;simp only[va,xe6,xe8,Option.isNone_iff_eq_none]at h;obtain⟨⟨h1,h2⟩,-⟩:=h;refine⟨h2,?_⟩;rw[xb1];rcases h1 with((h1|h1)|h1)|h1
  ·exact .inl (xa6 h1)
  ·exact .inr (.inl (xa6 h1))
  ·exact .inr (.inr (.inl (xa6 h1)))
  ·exact .inr (.inr (.inr ⟨h1.1.1,h1.1.2,h1.2⟩))
 |p :: l,i,j+1,o,h,ho=>by
  simp only[va,xe6]at h;have:=wC (i:=i+1) (j:=j) h.2 (show l[j]? = some o by simpa using ho);rw[show i+1+j=i+(j+1) by omega]at this;exact this
theorem gJ{t:Tmp}{o:Oper}(h:yC t o=true):t∉zI o∧o.dst≠some t:=by
 simp only[yC,xe6,List.all_eq_true,Bool.not_eq_true']at h;obtain⟨h1,h2⟩:=h;refine⟨fun hm=>?_,fun e=>?_⟩
 ·have:=h1 t hm
  simp at this
 ·rw[e]at h2
  simp at h2
theorem ye:∀{l:List Oper}{i:Nat}{o:Oper},l[i]? = some o→(∀t a,o.op=.load t (.tmp a)→a∈QM l)∧(∀t b v,o.op=.store t (.tmp b) v→b∈QM l)
 |[],i,o,h=>by simp at h
 |p :: l,0,o,h=>by
  simp at h;subst h;exact⟨fun t a e=>by simp[QM,e],fun t b v e=>by simp[QM,e]⟩
 |p :: l,i+1,o,h=>by
  obtain⟨h1,h2⟩:=ye (show l[i]? = some o by simpa using h);exact⟨fun t a e=>List.mem_append_right _ (h1 t a e),fun t b v e=>List.mem_append_right _ (h2 t b v e)⟩
section
variable{P:Program}
theorem wD{F F':Nat→SV}{hp:List (Nat×Blk)}{op:Op}(hc:jb op=true∨(∃t x k ok,op=.lookup t x k ok)∨(∃t a v,op=.store t a v))(h:∀t,.tmp t∈op.operands.toList→F t=F' t):stepR P F hp op=stepR P F' hp op:=by
 have he:∀x,x∈op.operands.toList→env F x=env F' x:=fun x hx=>by
  cases x<;>first|exact h _ hx|rfl
 rcases hc with hc|⟨t,x,k,ok,rfl⟩|⟨t,a,v,rfl⟩
 ·cases op<;>first|(simp[jb]at hc;done)|skip
  all_goals first
   |(simp only[stepR];rw[he _ Ωr];done)
   |(simp only[stepR];rw[he _ Ωr,he _ Ωr];done)
   |skip
  case build t ps=>
   simp only[stepR];have:∀qs:List (Nat×Operand),(∀p∈qs,p.2∈(Op.build t ps).operands.toList)→envp F qs=envp F' qs:=by
    intro qs
    induction qs with
    |nil=>intro _;rfl
    |cons p qs ih=>
     intro hq;simp only[envp];rw[he _ (hq p xd5),ih fun p hp=>hq p (List.mem_cons_of_mem _ hp)]
   rw[this _ fun p hp=>by simp only[Op.operands];exact List.mem_map_of_mem hp]
 ·simp only[stepR]
  rw[he x Ωr,he k Ωr]
 ·simp only[stepR]
  rw[he a Ωr,he v Ωr]
theorem qaI{hp hp':List (Nat×Blk)}{ti:Option TyI}{a v:SV}(h:∀id x,qO a=some id→blk hp id=some x→blk hp' id=some x)(hne:rStore ti hp a v≠.bad):rStore ti hp' a v=rStore ti hp a v:=by
 match ti with
 |none=>rfl
 |some ⟨false,sz,z,d⟩=>
  cases a<;>first|rfl|skip
  case ptr id off=>
   simp only[rStore]at hne ⊢;cases hb:blk hp id with
   |none=>rw[hb]at hne;exact absurd rfl hne
   |some y=>rw[h _ _ rfl hb]
  case elt id k i j=>
   simp only[rStore]at hne ⊢;cases hb:blk hp id with
   |none=>rw[hb]at hne;exact absurd rfl hne
   |some y=>rw[h _ _ rfl hb]
 |some ⟨true,sz,z,d⟩=>
  cases v<;>first|rfl|skip
  cases a<;>first|rfl|skip
  case ptr id off=>
   simp only[rStore]at hne ⊢;cases hb:blk hp id with
   |none=>rw[hb]at hne;exact absurd rfl hne
   |some y=>rw[h _ _ rfl hb]
  case elt id k i j=>
   simp only[rStore]at hne ⊢;cases hb:blk hp id with
   |none=>rw[hb]at hne;exact absurd rfl hne
   |some y=>rw[h _ _ rfl hb]
theorem z8{F:Nat→SV}{hp:List (Nat×Blk)}{op:Op}(hc:jb op=true∨(∃t x k ok,op=.lookup t x k ok)):(∃obl sv,stepR P F hp op=.pure obl sv)∨(∃obl,stepR P F hp op=.ex obl)∨stepR P F hp op=.bad:=by
 have key:∀x:Res,jJ x=true→(∃obl sv,x=.pure obl sv)∨(∃obl,x=.ex obl)∨x=.bad:=fun x hx=>by
  cases x<;>first|(cases hx;done)|(exact .inl ⟨_,_,rfl⟩)|(exact .inr (.inl ⟨_,rfl⟩))|(exact .inr (.inr rfl))
 refine key _ ?_;rcases hc with hc|⟨t,x,k,ok,rfl⟩
 ·cases op<;>first|(simp[jb]at hc;done)|(simp only[stepR])
  case move=>rfl
  case load=>unfold rLoad;(repeat' split)<;>rfl
  case nilCheck=>unfold rNil;split<;>rfl
  case binOp=>unfold rBin;(repeat' split)<;>first|rfl|(unfold rInt;split<;>rfl)|(unfold rEq;(repeat' split)<;>rfl)|(unfold rNilS;(repeat' split)<;>rfl)
  case fieldAddr=>unfold rFieldAddr;(repeat' split)<;>rfl
  case indexAddr=>unfold rIndexAddr;(repeat' split)<;>rfl
  case build=>exact gb _ _
 ·exact kJ _ _ _ _ _
theorem qck(O:Ctx)(st:St):Weak O st { st with nid:=st.nid+1 }:=fun base okc ns outs a w h=>by
 obtain⟨r,h⟩:=h;have s:=h.sat.more (N':=(· < st.nid+1)) (fun x hx=>Nat.lt_succ_of_lt hx) (fun x y hy _=>h.keys x y hy);exact⟨r,(h.step s (fun id x hx=>Nat.lt_succ_of_lt (h.keys id x hx)) (xc4 _) (d:=none) (fun t ht=>by cases ht) (.top undef)).nid (st.nid+1)⟩
theorem qjt(O:Ctx)(st:St)(a b:Tmp):Weak O st ⟨putFr (putFr st.fr a .top) b .top,st.hp,st.nid⟩:=fun base okc ns outs x w ⟨r,h⟩=>⟨r,h.sat,h.keys,fun i=>by
 show Rep _ _ _ _ (look (putFr (putFr st.fr a .top) b .top) i) _;rw[zb,zb];split
 ·exact .top _
 ·split
  ·exact .top _
  ·exact h.fr i,h.size,h.lo,h.out,h.rfix,h.defers⟩
theorem qaJ{dst:Nat→Option Tmp}{res res':Nat→SV}{S:Nat→Bool}{F:Nat→SV}{t:Nat}:∀{n:Nat},(∀j,j<n→S j=true→dst j=some t→res j=res' j)→FS dst res S F n t=FS dst res' S F n t
 |0,h=>rfl
 |n+1,h=>by
  have ih:=qaJ (F:=F) (n:=n) fun j hj=>h j Ω;simp only[FS];by_cases c:S n=true∧dst n=some t
  ·rw[if_pos c,if_pos c];exact h n Ω c.1 c.2
  ·rw[if_neg c,if_neg c];exact ih
theorem VB{dst:Nat→Option Tmp}{res:Nat→SV}{S:Nat→Bool}{F:Nat→SV}{t i:Nat}(hi:dst i=some t)(hS:S i=true):∀{n:Nat},i<n→(∀j,j<n→dst j=some t→j=i)→FS dst res S F n t=res i
 |n+1,h,hu=>by
  simp only[FS];by_cases c:S n=true∧dst n=some t
  ·rw[if_pos c,hu n Ω c.2]
  ·rw[if_neg c]
   have:i≠n:=fun e=>c (e▸⟨hS,hi⟩);exact VB hi hS Ω fun j hj=>hu j Ω
theorem qnl{k:Nat}{nb:Nat→Option Blk}{up:Nat→Option (Nat×Blk)}{hp:List (Nat×Blk)}:∀{i:Nat},(∀j,j<i→nb j=none)→TH k nb up hp i=UH up (fun _=>true) hp i
 |0,h=>rfl
 |i+1,h=>by
  have ih:=qnl (k:=k) (up:=up) (hp:=hp) (i:=i) fun j hj=>h j Ω;simp only[TH,UH,if_true,ih,h i Ω];split<;>rfl
def but(up:Nat→Option (Nat×Blk))(s:Nat):Nat→Option (Nat×Blk):=fun j=>if j=s then none else up j
theorem qaK{up:Nat→Option (Nat×Blk)}{S:Nat→Bool}{H:List (Nat×Blk)}{s X:Nat}(h:∀t b,up s=some (t,b)→t≠X):∀{n:Nat},blk (UH up S H n) X=blk (UH (but up s) S H n) X
 |0=>rfl
 |n+1=>by
  have ih:=qaK (S:=S) (H:=H) h (n:=n);simp only[UH];by_cases hS:S n=true
  ·rw[if_pos hS,if_pos hS]
   by_cases e:n=s
   ·subst e
    have:but up n n=none:=by simp[but]
    rw[this];cases hu:up n with
    |none=>exact ih
    |some p=>
     obtain⟨t,b⟩:=p;dsimp only;rw[qp,if_neg (fun e=>h t b hu e.symm)];exact ih
   ·have:but up s n=up n:=by simp[but,e]
    rw[this];cases hu:up n with
    |none=>exact ih
    |some p=>
     obtain⟨t,b⟩:=p;dsimp only;rw[qp,qp];by_cases c:X=t
     ·subst c;rw[if_pos rfl,if_pos rfl,ih]
     ·rw[if_neg c,if_neg c];exact ih
  ·rw[if_neg hS,if_neg hS];exact ih
theorem jo{ds:List (Option Tmp)}{ms:List Nat}{t e s i:Nat}{o:Oper}(h:yc ds ms t e s i o=true) :
  (jb o.op=true∧∀t' a,o.op=.load t' (.tmp a)→zs ds i a=true)∨(∃x k,o.op=.lookup t x k false∧i<e∧(ms.getD s 0).testBit i=true)∨(∃t' b v,o.op=.store t' (.tmp b) v∧zs ds i b=true∧o.dst=none):=by
 unfold yc at h;split at h
 ·rename_i t' x k e1
  simp only[xe6,Nat.blt_eq,Nat.beq_eq]at h;obtain⟨⟨h1,h2⟩,h3⟩:=h;subst h1;exact .inr (.inl ⟨x,k,e1,h2,h3⟩)
 ·rename_i t' b v e1
  simp only[xe6,Option.isNone_iff_eq_none]at h;exact .inr (.inr ⟨t',b,v,e1,h.1,h.2⟩)
 ·rename_i t' a e1
  exact .inl ⟨by rw[e1];rfl,fun t2 a2 e2=>by rw[e1]at e2;cases e2;exact h⟩
 ·rename_i h1 h2 h3
  exact .inl ⟨h,fun t' a e1=>absurd e1 (h3 t' a)⟩
def VC(dom:Value→Bool)(v:Value):Value→Bool:=if dom v=true then dom else qI dom v
def W8(dom:Value→Bool)(get:Value→SV)(v z:Value):Value→SV:=if dom v=true then get else qC get v (.val z)
theorem VD{dom:Value→Bool}{get:Value→SV}{v z:Value}{xv:SV}:VC dom v=qI dom v∧qC (W8 dom get v z) v xv=qC get v xv:=by
 refine⟨?_,?_⟩
 ·unfold VC
  split
  ·rename_i h
   funext u;unfold qI;cases e:eqK v u with
   |true=>rw[←zw e,h];rfl
   |false=>rfl
  ·rfl
 ·unfold W8
  split
  ·rfl
  ·funext u
   unfold qC;cases e:eqK v u<;>simp[svIte]
theorem qgJ{dom:Value→Bool}{get:Value→SV}{v z u:Value}:svIte (VC dom v u) (W8 dom get v z u) (.val z)=svIte (dom u) (get u) (.val z):=by
 unfold VC W8;split
 ·rfl
 ·rename_i h
  unfold qI qC;cases e:eqK v u with
  |true=>
   have:=zw e;subst this;simp[svIte,h]
  |false=>simp[svIte]
theorem vF{f:Nat→Oper→Prop}:∀{ops:List Oper}{i:Nat},(∀j o,ops[j]? = some o→f (i+j) o)→ww f i ops
 |[],i,h=>trivial
 |o :: ops,i,h=>⟨h 0 o rfl,vF fun j o' ho=>by
  have:=h (j+1) o' Ω9
  rwa [show i+(j+1)=i+1+j by omega]at this⟩
theorem W9{S:Nat→Bool}:∀{n:Nat},(∀j,j<n→S j=false)→cnt S n=n
 |0,h=>rfl
 |n+1,h=>by
  have ih:=W9 (n:=n) fun j hj=>h j Ω;simp only[cnt,ih];rw[h n Ω];rfl
theorem qcl{S:Nat→Bool}:∀{n:Nat},(∀j,j<n→S j=true)→cnt S n=0
 |0,h=>rfl
 |n+1,h=>by
  have ih:=qcl (n:=n) fun j hj=>h j Ω;simp only[cnt,ih];rw[h n Ω];rfl
def qnm(q:EI)(l:List Oper)(st:St):Prop:=∀mid,look st.fr q.mm=.mp mid→(∃fit dom get,blk st.hp mid=some (.map fit dom get))∧∀a∈QM l,qO (look st.fr a)≠some mid
theorem wE(hm:P.follows .mixedOrders=true){O:Ctx}{st:St}{K:Ex→St→Prop}{id:Nat}{l:List Oper}{q:EI}{far:List (Nat×Nat)}{g:Tag K}(hq:Ent q l)(hok:qgI q far l=true)
  (hk:qZ P O False (dsts l) (QL q.e q.x q.s q.upd 0 l) 0 st fun st1=>FarVC far st1 (qnm q l st1∧∀st2,(∀t,look st2.fr t=if t=q.te∨t=q.tx then .top else look st1.fr t)→(∀j,blk st2.hp j=blk st1.hp j)→st2.nid=st1.nid+l.length→K .normal st2)):j5 P O id l true st K g:=by
 obtain⟨e,x,s,te,tx,t,mm,k,y⟩:=q;obtain⟨hex,hxs,hne,⟨oe,hoe,hope,hdse⟩,⟨ox,hox,hopx,hdsx⟩,⟨os,hos,hops_,hdss⟩⟩:=hq;simp only[EI.upd]at *;simp only[qgI,xe6]at hok;obtain⟨hedge,hapart,hpair,hcls,hmm,hkf,hxe,hsx,hse,hyn⟩:=hok;have hlen:=W7 (e:=e) (x:=x) (s:=s) (u:=Op.mapUpdate t (.tmp mm) k y) (l:=l) (i:=0);have hds:=Jw (e:=e) (x:=x) (s:=s) (u:=Op.mapUpdate t (.tmp mm) k y) (l:=l) (i:=0);have hsl:s<l.length:=(List.getElem?_eq_some_iff.1 hos).1;have hcl:∀j o,l[j]? = some o→o.guard=none∧(j=e∨j=x∨j=s∨(yc (dsts l) (zr [] l) t e s j o=true∧yC te o=true∧yC tx o=true)):=fun j o ho=>by
  have:=wC hcls ho
  rwa [xb0]at this
 have hfix:∀j o,l[j]? = some o→(QL e x s (Op.mapUpdate t (.tmp mm) k y) 0 l)[j]? = some (if j=e∨j=x then gl o else if j=s then { o with op:=Op.mapUpdate t (.tmp mm) k y }else o):=fun j o ho=>by
  have:=W6 (e:=e) (x:=x) (s:=s) (u:=Op.mapUpdate t (.tmp mm) k y) (i:=0) ho;simpa only[xb0]using this
 have hall:∀o∈QL e x s (Op.mapUpdate t (.tmp mm) k y) 0 l,(kM o.op || qU o.op)=true:=by
  intro o ho;obtain⟨j,hj⟩:=List.mem_iff_getElem?.1 ho;have hjl:j<l.length:=by rw[←hlen];exact(List.getElem?_eq_some_iff.1 hj).1
  have h0:l[j]? = some l[j]:=by simp[hjl]
  rw[hfix j _ h0]at hj;simp only[Option.some.injEq]at hj;subst hj;by_cases c1:j=e∨j=x
  ·rw[if_pos c1];rfl
  ·rw[if_neg c1]
   by_cases c2:j=s
   ·rw[if_pos c2];rfl
   ·rw[if_neg c2]
    rcases(hcl j _ h0).2 with c|c|c|⟨c,-,-⟩
    ·exact absurd (.inl c) c1
    ·exact absurd (.inr c) c1
    ·exact absurd c c2
    ·rcases jo c with⟨c,-⟩|⟨a,b,c,-⟩|⟨a,b,d,c,-⟩
     ·generalize (l[j]).op=op at c
      cases op<;>first|(simp[jb]at c;done)|rfl
     ·rw[c];rfl
     ·rw[c];rfl
 obtain⟨res,nb,up,st1,hops,hF1,hh1,hn1,hk1⟩:=KP Ωg _ 0 st hall hk;rw[xb1]at hops hh1;rw[hds]at hops hF1;rw[hlen]at hF1 hh1;obtain⟨⟨hendm,hk1⟩,hfar⟩:=jB hk1;have hat:∀j o,l[j]? = some o→j≠e→j≠x→j≠s→Qp P (dsts l) (FS (nth (dsts l)) res (fun _=>true) (look st.fr) j) (TH st.nid nb up st.hp j) (st.nid+j) o (res j) (nb j) (up j):=fun j o ho h1 h2 h3=>by
  have:=hops j _ (hfix j o ho)
  rwa [if_neg (by simp[h1,h2]),if_neg h3]at this
 have hmmx:∀i,e≤i→i≤l.length→FS (nth (dsts l)) res (fun _=>true) (look st.fr) i mm=look st1.fr mm:=fun i h1 h2=>by
  rw[hF1];have hdl:(dsts l).length=l.length:=by
   have:∀l:List Oper,(dsts l).length=l.length:=fun l=>by induction l<;>simp[dsts, *]
   exact this l
  exact(gQ h2 fun k hk hik=>qE hmm Ω Ω).symm
 have hdl:(dsts l).length=l.length:=by
  have:∀l:List Oper,(dsts l).length=l.length:=fun l=>by induction l<;>simp[dsts, *]
  exact this l
 have hquiet:∀j o,l[j]? = some o→(j=e∨j=x)→res j=undefSV∧nb j=none∧up j=none:=fun j o ho hj=>by
  have:=hops j _ (hfix j o ho);rw[if_pos hj]at this;generalize res j=a1 at this ⊢;generalize nb j=a2 at this ⊢;generalize up j=a3 at this ⊢;cases this with
  |skip hg=>exact⟨rfl,rfl,rfl⟩
  |run sv nb hg hc hr=>
   cases hr with
   |pure obl sv h ho=>simp only[gl,stepR,env,Res.pure.injEq]at h;exact⟨h.2.symm,rfl,rfl⟩
   |ex obl sv h ho=>simp[gl,stepR]at h
   |new obl b mk h ho=>simp[gl,stepR]at h
   |call f args res h hc=>simp[gl,stepR]at h
   |callN f args pats b res h hc hs=>simp[gl,stepR]at h
  |upd obl t b hg h ho=>simp[gl,stepR]at h
 have hord:∀j o,l[j]? = some o→j≠e→j≠x→j≠s→nb j=none∧(∀t' b',up j=some (t',b')→∃ty b v,o.op=.store ty (.tmp b) v∧zs (dsts l) j b=true∧o.dst=none∧qO (look st1.fr b)=some t'):=fun j o ho h1 h2 h3=>by
  have h:=hat j o ho h1 h2 h3;have hc:=(hcl j o ho).2;rcases hc with c|c|c|⟨c,-,-⟩
  ·exact absurd c h1
  ·exact absurd c h2
  ·exact absurd c h3
  have hjl:j<l.length:=(List.getElem?_eq_some_iff.1 ho).1;generalize res j=a1 at h ⊢;generalize nb j=a2 at h ⊢;generalize up j=a3 at h ⊢;have hnotU:(jb o.op=true∨∃t x k ok,o.op=.lookup t x k ok)→∀F hp obl t b,stepR P F hp o.op≠.upd obl t b:=fun hp F hp' obl t b hh=>by
   rcases z8 (P:=P) (F:=F) (hp:=hp') hp with⟨_,_,e1⟩|⟨_,e1⟩|e1<;>rw[e1]at hh<;>cases hh
  cases h with
  |skip hg=>exact⟨rfl,fun _ _ h=>by cases h⟩
  |run sv nb hg hca hr=>
   refine⟨?_,fun _ _ h=>by cases h⟩;have hpl:jb o.op=true∨∃t x k ok,o.op=.lookup t x k ok:=by
    rcases jo c with⟨c,-⟩|⟨a,b,c,-⟩|⟨a,b,d,c,-⟩
    ·exact .inl c
    ·exact .inr ⟨_,_,_,_,c⟩
    ·rw[c]at hca;cases hca
   cases hr with
   |pure obl sv h ho=>rfl
   |ex obl sv h ho=>rfl
   |call f args res h hc=>rfl
   |new obl b mk h ho=>rcases z8 (P:=P) hpl with⟨_,_,e1⟩|⟨_,e1⟩|e1<;>rw[e1]at h<;>cases h
   |callN f args pats b res h hc hs=>rcases z8 (P:=P) hpl with⟨_,_,e1⟩|⟨_,e1⟩|e1<;>rw[e1]at h<;>cases h
  |upd obl t2 b2 hg h hobl=>
   refine⟨rfl,fun t' b' hh=>?_⟩;injection hh with hh;injection hh with hh1 hh2;subst hh1;subst hh2;rcases jo c with⟨c,-⟩|⟨a,b,c,-⟩|⟨a,b,d,c,c2,c3⟩
   ·exact absurd h (hnotU (.inl c) _ _ _ _ _)
   ·exact absurd h (hnotU (.inr ⟨_,_,_,_,c⟩) _ _ _ _ _)
   ·refine⟨a,b,d,c,c2,c3,?_⟩
    rw[c]at h;have h4:=ja h;rw[hF1,gQ (i:=j) Ω (fun k hk hik=>qE c2 Ω hik)];exact h4
 have hatS:=hops s _ (hfix s os hos);rw[if_neg Ω,if_pos rfl]at hatS;have hgs:os.guard=none:=(hcl s os hos).1;obtain⟨ag,ls,z,mid,hmi,hmp⟩:∃ag ls z mid,qy P t=some ⟨ag,ls,z⟩∧look st1.fr mm=.mp mid:=by
  generalize res s=a1 at hatS;generalize nb s=a2 at hatS;generalize up s=a3 at hatS;cases hatS with
  |skip hg=>simp[gF,hgs]at hg
  |run sv nb hg hca hr=>cases hca
  |upd obl t2 b2 hg h ho=>
   simp only[stepR,env]at h;rw[hmmx s Ω Ω]at h;unfold rUpdate at h;split at h
   ·rename_i e1 e2
    exact⟨_,_,_,_,e1,e2⟩
   ·cases h
 obtain⟨⟨fit1,dom1,get1,hmap1⟩,hadr⟩:=hendm mid hmp;have hup:∀j b,j<l.length→up j=some (mid,b)→j=s:=fun j b hj hu=>by
  refine xf9 fun hjs=>?_;have ho:l[j]? = some l[j]:=by simp[hj]
  by_cases c:j=e∨j=x
  ·have:=(hquiet j _ ho c).2.2
   rw[hu]at this;cases this
  ·obtain⟨ty,b',v',h1,h2,h3,h4⟩:=(hord j _ ho (fun e=>c (.inl e)) (fun e=>c (.inr e)) hjs).2 _ _ hu
   exact hadr b' ((ye ho).2 _ _ _ h1) h4
 have hnbs:nb s=none:=by
  generalize res s=a1 at hatS;generalize nb s=a2 at hatS ⊢;generalize up s=a3 at hatS;cases hatS with
  |skip hg=>rfl
  |run sv nb hg hca hr=>cases hca
  |upd obl t2 b2 hg h ho=>rfl
 have hnb:∀j,j<l.length→nb j=none:=fun j hj=>by
  have ho:l[j]? = some l[j]:=by simp[hj]
  by_cases c:j=e∨j=x
  ·exact(hquiet j _ ho c).2.1
  ·by_cases c2:j=s
   ·subst c2;exact hnbs
   ·exact(hord j _ ho (fun e=>c (.inl e)) (fun e=>c (.inr e)) c2).1
 have hTH:∀i,i≤l.length→TH st.nid nb up st.hp i=UH up (fun _=>true) st.hp i:=fun i hi=>qnl fun j hj=>hnb j Ω;have hH0:blk (TH st.nid nb up st.hp s) mid=blk st.hp mid:=by
  rw[hTH s Ω];exact wq fun j hj _ t' b hu e=>by
   subst e;have:=hup j b Ω hu;omega
 have hus:∀b,up s=some (mid,b)→∀y0,blk st.hp mid=some y0→blk st1.hp mid=some b:=fun b hb y0 hy0=>by
  rw[hh1,hTH _ (xa5 _),Vc (i:=s+1) Ω (fun j hj b' hu=>by
   have:=hup j b' hj hu;simp;omega)]
  have:UH up (fun _=>true) st.hp (s+1)=setBlk (UH up (fun _=>true) st.hp s) mid b:=by simp[UH,hb]
  rw[this,qp,if_pos rfl,←hTH s Ω,hH0,hy0];rfl
 obtain⟨fit,dom,get,v,hmap,hkey,hfit,hkv,hups⟩:∃fit dom get v,blk st.hp mid=some (.map fit dom get)∧keyV (env (FS (nth (dsts l)) res (fun _=>true) (look st.fr) s) k)=some v∧fit=ql ag ls∧ql ag ls v=true∧up s=some (mid,.map fit (qI dom v) (qC get v (env (FS (nth (dsts l)) res (fun _=>true) (look st.fr) s) y))):=by
  generalize res s=a1 at hatS;generalize nb s=a2 at hatS;generalize hu3:up s=a3 at hatS;cases hatS with
  |skip hg=>simp[gF,hgs]at hg
  |run sv nb hg hca hr=>cases hca
  |upd obl t2 b2 hg h ho=>
   simp only[stepR,env]at h;rw[hmmx s Ω Ω,hmi,hmp]at h;simp only[rUpdate,hH0]at h;split at h
   ·rename_i f d g1 v1 e1 e2
    injection h with h1 h2 h3;subst h1;subst h2;subst h3;exact⟨f,d,g1,v1,e1,e2,ho.1,ho.2.1,rfl⟩
   ·rename_i f d g1 st0 c0 v1 e1 e2
    injection h with h1 h2 h3;subst h1;subst h2;subst h3;have:=hus _ hu3 _ e1;rw[hmap1]at this;cases this
   ·cases h
 have hfin:=hus _ hups _ hmap;generalize hxv:env (FS (nth (dsts l)) res (fun _=>true) (look st.fr) s) y=xv at hups hfin
 let rs:(Value→Nat)→Nat→SV:=fun σ i=>if i=e then .tup [if dom v=true then get v else .val z,.val (.int .i64 (σ v))]else if i=x then .val (.int .i64 (σ v))else res i
 let M:(Nat→Bool)→(Value→Nat)→Nat→Blk:=fun S σ clk=>if S s=true then .map fit (qI dom v) (qC get v xv)else if S e=true then .mapS fit (VC dom v) (W8 dom get v z) σ clk else .map fit dom get
 have hde:nth (dsts l) e=some te:=by rw[za,hoe];exact hdse
 have hdx:nth (dsts l) x=some tx:=by rw[za,hox];exact hdsx
 have hdS:nth (dsts l) s=none:=by rw[za,hos];exact hdss
 have hte:∀j,j<l.length→nth (dsts l) j=some te→j=e:=fun j hj hd=>by
  have ho:l[j]? = some l[j]:=by simp[hj]
  rw[za,ho]at hd;rcases(hcl j _ ho).2 with c|c|c|⟨-,c,-⟩
  ·exact c
  ·subst c;rw[hox]at ho;injection ho with ho;rw[←ho]at hd;simp only[Option.bind_some,hdsx,Option.some.injEq]at hd;exact absurd hd.symm hne
  ·subst c;rw[hos]at ho;injection ho with ho;rw[←ho]at hd;simp[hdss]at hd
  ·exact absurd hd (gJ c).2
 have htx:∀j,j<l.length→nth (dsts l) j=some tx→j=x:=fun j hj hd=>by
  have ho:l[j]? = some l[j]:=by simp[hj]
  rw[za,ho]at hd;rcases(hcl j _ ho).2 with c|c|c|⟨-,-,c⟩
  ·subst c;rw[hoe]at ho;injection ho with ho;rw[←ho]at hd;simp only[Option.bind_some,hdse,Option.some.injEq]at hd;exact absurd hd hne
  ·exact c
  ·subst c;rw[hos]at ho;injection ho with ho;rw[←ho]at hd;simp[hdss]at hd
  ·exact absurd hd (gJ c).2
 have hrs:∀σ S n u,n≤l.length→u≠te→u≠tx→FS (nth (dsts l)) (rs σ) S (look st.fr) n u=FS (nth (dsts l)) res S (look st.fr) n u:=fun σ S n u hn h1 h2=>qaJ fun j hj _ hd=>by
  have c1:j≠e:=fun c=>by subst c;rw[hde]at hd;injection hd with hd;exact h1 hd.symm
  have c2:j≠x:=fun c=>by subst c;rw[hdx]at hd;injection hd with hd;exact h2 hd.symm
  simp only[rs,if_neg c1,if_neg c2]
 refine qdX hm (fun m st2=>∃σ clk,((∀u,(u≠te∧u≠tx)∨m.testBit s=false→look st2.fr u=FS (nth (dsts l)) (rs σ) m.testBit (look st.fr) l.length u)∧(m.testBit s=true→look st2.fr te=.top∧look st2.fr tx=.top))∧(∀j,blk st2.hp j=if j=mid then some (M m.testBit σ clk)else blk (UH (but up s) m.testBit st.hp l.length) j)∧st2.nid+cnt m.testBit l.length=st.nid+l.length) rfl hedge (Weak.refl O st) ?_ ?_ ?_
 ·refine⟨fun _=>0,0,⟨fun u _=>?_,fun h=>by rw[xb3]at h;cases h⟩,fun j=>?_,?_⟩
  ·exact(wl (i:=0) (xb6 _) fun j hj _=>by simp).symm
  ·split
   ·rename_i c
    subst c;simp only[M,xb3,xe7,if_false];exact hmap
   ·rw[ZY (i:=0) (xb6 _) fun j _ _ _=>xb3 j]
    rfl
  ·rw[W9 fun j _=>xb3 j]
 ·refine vF fun j o ho=>?_
  rw[xb0];rintro m st2 ⟨σ,clk,⟨hfr,htop⟩,hhp,hnid⟩ hclm hbit hpre;have hjl:j<l.length:=(List.getElem?_eq_some_iff.1 ho).1;have hS:∀i,(m ||| 2^j).testBit i=(m.testBit i || decide (i=j)):=fun i=>by rw[tb];simp[eq_comm]
  have hgd:o.guard=none:=(hcl j o ho).1;have hdsj:nth (dsts l) j=o.dst:=by rw[za,ho];rfl
  have hlook:∀r u,u∈seen (dsts l) o→FS (nth (dsts l)) r m.testBit (look st.fr) l.length u=FS (nth (dsts l)) r (fun _=>true) (look st.fr) j u:=fun r u hu=>by
   refine wl Ω fun i hi hdi=>?_;obtain⟨oi,hoi⟩:∃oi,l[i]? = some oi:=⟨l[i],by simp[hi]⟩;constructor
   ·intro hs
    refine xf9 fun hge=>?_;by_cases c:i=j
    ·subst c;rw[hbit]at hs;cases hs
    ·rcases zl hapart ho hoi Ω with hb|⟨_,hb⟩
     ·have:=hclm _ _ hb hs
      rw[hbit]at this;cases this
     ·exact hb u hdi hu
   ·intro hlt
    rcases zl hapart hoi ho hlt with hb|⟨hb,_⟩
    ·exact hpre i hb Ω
    ·exact(hb u hdi hu).elim
  have hlater:∀u,nth (dsts l) j=some u→∀i,i<l.length→j<i→nth (dsts l) i=some u→m.testBit i=false:=by
   intro u hdu i hi hij hdi;obtain⟨oi,hoi⟩:∃oi,l[i]? = some oi:=⟨l[i],by simp[hi]⟩;cases hv:m.testBit i with
   |false=>rfl
   |true=>
    rcases zl hapart ho hoi hij with hb|⟨_,hb⟩
    ·have:=hclm _ _ hb hv
     rw[hbit]at this;cases this
    ·refine(hb u hdi ?_).elim
     simp only[seen,xd4];rw[hdsj]at hdu;simp[hdu]
  have next:j≠s→∀σ' clk' (st3:St),(∀i,m.testBit i=true→rs σ i=rs σ' i)→(∀u,look st3.fr u=if o.dst=some u then rs σ' j else look st2.fr u)→(∀i,blk st3.hp i=if i=mid then some (M (m ||| 2^j).testBit σ' clk')else blk (UH (but up s) (m ||| 2^j).testBit st.hp l.length) i)→st3.nid=st2.nid+1→
    ∃σ clk,((∀u,(u≠te∧u≠tx)∨(m ||| 2^j).testBit s=false→look st3.fr u=FS (nth (dsts l)) (rs σ) (m ||| 2^j).testBit (look st.fr) l.length u)∧((m ||| 2^j).testBit s=true→look st3.fr te=.top∧look st3.fr tx=.top))∧(∀i,blk st3.hp i=if i=mid then some (M (m ||| 2^j).testBit σ clk)else blk (UH (but up s) (m ||| 2^j).testBit st.hp l.length) i)∧st3.nid+cnt (m ||| 2^j).testBit l.length=st.nid+l.length:=by
   intro hjs σ' clk' st3 h1 h2 h3 h4;have hSs:(m ||| 2^j).testBit s=m.testBit s:=by rw[hS];simp[Ne.symm hjs]
   rw[hSs];refine⟨σ',clk',⟨fun u hu=>?_,fun hs=>?_⟩,h3,?_⟩
   ·rw[KI hS hjl (hlater u),h2 u,hdsj,hfr u hu]
    split
    ·rfl
    ·exact qaJ fun i _ hi _=>h1 i hi
   ·have n1:o.dst≠some te:=fun c=>by
     have:=hte j hjl (hdsj.trans c);subst this;have:=hclm _ _ hse hs;rw[hbit]at this;cases this
    have n2:o.dst≠some tx:=fun c=>by
     have:=htx j hjl (hdsj.trans c);subst this;have:=hclm _ _ hsx hs;rw[hbit]at this;cases this
    rw[h2,if_neg n1,h2,if_neg n2];exact htop hs
   ·have:=(gP (S:=m.testBit) (S':=(m ||| 2^j).testBit) hS hbit (n:=l.length)).2 hjl
    omega
  have hmem:∀X,X≠mid→(∀i,i<l.length→∀b,up i=some (X,b)→(m.testBit i=true↔i<j))→blk st2.hp X=blk (TH st.nid nb up st.hp j) X:=fun X hX h=>by
   rw[hhp,if_neg hX,←qaK (up:=up) (s:=s) (fun t' b hu=>by rw[hups]at hu;injection hu with hu;injection hu with hu;rw[←hu];exact fun e=>hX e.symm),Vc (i:=j) Ω h,hTH _ Ω]
  have hmte:mm≠te:=fun c=>qE hmm (k:=e) Ω (xa5 _) (c▸hde);have hmtx:mm≠tx:=fun c=>qE hmm (k:=x) Ω Ω (c▸hdx);have hmp2:e≤j→mm∈seen (dsts l) o→look st2.fr mm=.mp mid:=fun hej hu=>by
   rw[hfr _ (.inl ⟨hmte,hmtx⟩),hrs _ _ _ _ (xa5 _) hmte hmtx,hlook _ _ hu,hmmx j hej Ω,hmp]
  by_cases cj:j=e∨j=x∨j=s
  ·rcases cj with cj|cj|cj
   ·subst cj
    have hoo:o=oe:=by rw[hoe]at ho;exact(Option.some.inj ho).symm
    subst hoo;have hseen:∀u,.tmp u∈o.op.operands.toList→u∈seen (dsts l) o:=fun u hu=>by
     simp only[seen,xd4];exact .inl (List.mem_filterMap.2 ⟨.tmp u,hu,rfl⟩)
    have hsf:m.testBit s=false:=by
     cases hv:m.testBit s with
     |false=>rfl
     |true=>have:=hclm _ _ hse hv;rw[hbit]at this;cases this
    have hxf:m.testBit x=false:=by
     cases hv:m.testBit x with
     |false=>rfl
     |true=>have:=hclm _ _ hxe hv;rw[hbit]at this;cases this
    have hb:=hhp mid;rw[if_pos rfl]at hb;simp only[M,hsf,hbit,xe7,if_false,hfit]at hb;have hkk:keyV (env (look st2.fr) k)=some v:=by
     rw[←hkey]
     congr 1
     cases k with
     |tmp kk=>
      have hkn:zs (dsts l) j kk=true:=hkf;have n1:kk≠te:=fun c=>qE hkn (k:=j) Ω (xa5 _) (c▸hde);have n2:kk≠tx:=fun c=>qE hkn (k:=x) Ω Ω (c▸hdx);show look st2.fr kk=FS (nth (dsts l)) res (fun _=>true) (look st.fr) s kk;rw[hfr _ (.inl ⟨n1,n2⟩),hrs _ _ _ _ (xa5 _) n1 n2,hlook _ _ (hseen kk (by rw[hope];simp[Op.operands])),←gQ (i:=j) (n:=l.length) Ω (fun k hk hik=>qE hkn Ω hik),←gQ (i:=s) (n:=l.length) Ω (fun k hk hik=>qE hkn Ω Ω)]
     |const c=>rfl
     |global c=>rfl
     |func c=>rfl
    have hx2:env (look st2.fr) (.tmp mm)=.mp mid:=hmp2 (xa5 _) (hseen mm (by rw[hope];simp[Op.operands]));have fin:∀(D:Value→Bool)(G:Value→SV)(w:SV),D=VC dom v→G=W8 dom get v z→w=(if dom v=true then get v else .val z)→∀(stamp:Value→Nat)(c:Nat),∃st4,Weak O ((⟨st2.fr,setBlk st2.hp mid (.mapS (ql ag ls) D G stamp c),st2.nid⟩:St).putI o.dst (.tup [w,.val (.int .i64 (stamp v))])) st4∧∃σ clk,((∀u,(u≠te∧u≠tx)∨(m ||| 2^j).testBit s=false→look st4.fr u=FS (nth (dsts l)) (rs σ) (m ||| 2^j).testBit (look st.fr) l.length u)∧((m ||| 2^j).testBit s=true→look st4.fr te=.top∧look st4.fr tx=.top))∧(∀i,blk st4.hp i=if i=mid then some (M (m ||| 2^j).testBit σ clk)else blk (UH (but up s) (m ||| 2^j).testBit st.hp l.length) i)∧st4.nid+cnt (m ||| 2^j).testBit l.length=st.nid+l.length:=by
     intro D G w hD hG hw stamp c;subst hD;subst hG;subst hw;refine⟨_,qck O _,next Ω stamp c _ (fun i hi=>?_) (fun u=>?_) (fun i=>?_) (by rw[ko])⟩
     ·have n1:i≠j:=fun e=>by subst e;rw[hbit]at hi;cases hi
      have n2:i≠x:=fun e=>by subst e;rw[hxf]at hi;cases hi
      simp only[rs,if_neg n1,if_neg n2]
     ·rw[hdse]
      show look (putIn st2.fr te _) u=_;rw[vt];by_cases cu:u=te
      ·subst cu;simp[rs]
      ·rw[if_neg cu,if_neg (fun e=>cu (Option.some.inj e).symm)]
     ·have e1:(m ||| 2^j).testBit s=false:=by rw[hS,hsf];simp;omega
      have e2:(m ||| 2^j).testBit j=true:=by rw[hS];simp
      have hub:but up s j=none:=by
       have:up j=none:=(hquiet j o ho (.inl rfl)).2.2;simp only[but,this,ite_self]
      rw[Qo hS hub];have e3:∀(st5:St) d w,(st5.putI d w).hp=st5.hp:=fun st5 d w=>by cases d<;>rfl
      simp only[e3];rw[qp];by_cases ci:i=mid
      ·subst ci
       rw[if_pos rfl,if_pos rfl,hb];simp only[M,e1,e2,xe7,if_false,if_true,hfit];rfl
      ·rw[if_neg ci,if_neg ci,hhp,if_neg ci]
    unfold opH zf;rw[hgd];refine .inr ⟨by rw[hope];rfl,.inl ?_⟩;rw[hope];cases hd:dom v with
    |true=>exact Vp hx2 hkk hmi hb hkv hd fun stamp c=>fin _ _ _ (by simp[VC,hd]) (by simp[W8,hd]) (by simp[hd]) stamp c
    |false=>exact qdY hx2 hkk hmi hb hkv hd fun stamp c=>fin _ _ _ (by simp[VC,hd]) (by simp[W8,hd]) (by simp[hd]) stamp c
   ·subst cj
    have hoo:o=ox:=by rw[hox]at ho;exact(Option.some.inj ho).symm
    subst hoo;have hsf:m.testBit s=false:=by
     cases hv:m.testBit s with
     |false=>rfl
     |true=>have:=hclm _ _ hsx hv;rw[hbit]at this;cases this
    have hte2:look st2.fr te=rs σ e:=by
     rw[hfr _ (.inr hsf)];exact VB hde (hpre e hxe Ω) Ω hte
    have hre:rs σ e=.tup [if dom v=true then get v else .val z,.val (.int .i64 (σ v))]:=by simp[rs]
    have hrx:rs σ j=.val (.int .i64 (σ v)):=by simp only[rs,if_neg (Ω:j≠e),if_true]
    unfold opH zf;rw[hgd];refine .inl ?_;rw[hopx];simp only[stepR,env,hte2,hre,rExtract];refine⟨.val (.int .i64 (σ v)),rfl,_,Weak.refl _ _,next Ω σ clk _ (fun _ _=>rfl) (fun u=>?_) (fun i=>?_) (by rw[qr])⟩
    ·rw[ge,hrx]
     have:=congrFun (ky st2.fr st2.hp st2.nid o.dst (.val (.int .i64 (σ v)))) u;exact this
    ·have e1:(m ||| 2^j).testBit s=m.testBit s:=by rw[hS];simp;omega
     have e2:(m ||| 2^j).testBit e=m.testBit e:=by rw[hS];simp;omega
     have hub:but up s j=none:=by
      have:up j=none:=(hquiet j o ho (.inr rfl)).2.2;simp only[but,this,ite_self]
     have hMS:M (m ||| 2^j).testBit σ clk=M m.testBit σ clk:=by simp only[M,e1,e2]
     show blk (st2.put o.dst _).hp i=_;rw[zk,hhp,hMS,Qo hS hub]
   ·subst cj
    have hoo:o=os:=by rw[hos]at ho;exact(Option.some.inj ho).symm
    subst hoo;have hseen:∀u,.tmp u∈o.op.operands.toList→u∈seen (dsts l) o:=fun u hu=>by
     simp only[seen,xd4];exact .inl (List.mem_filterMap.2 ⟨.tmp u,hu,rfl⟩)
    have hx2:env (look st2.fr) (.tmp mm)=.mp mid:=hmp2 Ω (hseen mm (by rw[hops_];simp[Op.operands]));have htx2:env (look st2.fr) (.tmp tx)=.val (.int .i64 (σ v)):=by
     show look st2.fr tx=_;rw[hfr _ (.inr hbit),VB hdx (hpre x hsx Ω) Ω htx];simp only[rs,if_neg (Ω:x≠e),if_true]
    have hb:=hhp mid;rw[if_pos rfl]at hb;simp only[M,hbit,hpre e hse Ω,xe7,if_false,if_true]at hb;have hyv:env (look st2.fr) y=xv:=by
     rw[←hxv];cases y with
     |tmp yy=>
      simp only[qgH,xe6,Bool.not_eq_true']at hyn;show look st2.fr yy=FS (nth (dsts l)) res (fun _=>true) (look st.fr) j yy;have n1:yy≠te:=fun c=>by rw[c]at hyn;simp at hyn
      have n2:yy≠tx:=fun c=>by rw[c]at hyn;simp at hyn
      rw[hfr _ (.inl ⟨n1,n2⟩),hrs _ _ _ _ (xa5 _) n1 n2];exact hlook _ _ (hseen yy (by rw[hops_];simp[Op.operands]))
     |const c=>rfl
     |global c=>rfl
     |func c=>rfl
    obtain⟨kt,et,ii,hu,hki,hinf,hz,hz1⟩:=zE hmi;have hself:eqK v v=true:=(gL hki hkv hkv).2 rfl;have hdv:VC dom v v=true:=by
     rw[VD (get:=get) (z:=z) (xv:=xv) |>.1];simp[qI,hself]
    unfold opH zf;rw[hgd];refine .inr ⟨by rw[hops_];rfl,.inr ?_⟩;rw[hops_];refine qdZ hki hfit hx2 htx2 hb hdv ?_;rw[hyv,hdss];have e1:(m ||| 2^j).testBit j=true:=by rw[hS];simp
    refine⟨_,(qck O _).trans (qjt O _ te tx),σ,clk,⟨fun u hu=>?_,fun _=>⟨?_,?_⟩⟩,fun i=>?_,?_⟩
    ·rw[e1]at hu
     obtain⟨n1,n2⟩:=hu.resolve_right Ωg;show look (putFr (putFr st2.fr te .top) tx .top) u=_;rw[zb,if_neg n2,zb,if_neg n1,hfr u (.inl ⟨n1,n2⟩),KI hS hjl (hlater u),hdS,if_neg Ωg]
    ·show look (putFr (putFr st2.fr te .top) tx .top) te=_
     rw[zb,if_neg hne,zb,if_pos rfl]
    ·show look (putFr (putFr st2.fr te .top) tx .top) tx=_
     rw[zb,if_pos rfl]
    rotate_left
    ·have:=(gP (S:=m.testBit) (S':=(m ||| 2^j).testBit) hS hbit (n:=l.length)).2 hjl
     show st2.nid+1+_=_;omega
    show blk (setBlk st2.hp mid _) i=_;have hub:but up j j=none:=by simp[but]
    rw[qp,Qo hS hub];by_cases ci:i=mid
    ·subst ci
     rw[if_pos rfl,if_pos rfl,hb];simp only[M,e1,if_true];rw[(VD (get:=get) (z:=z) (xv:=xv)).1,(VD (dom:=dom) (z:=z)).2];rfl
    ·rw[if_neg ci,if_neg ci,hhp,if_neg ci]
  ·have c1:j≠e:=fun c=>cj (.inl c)
   have c2:j≠x:=fun c=>cj (.inr (.inl c));have c3:j≠s:=fun c=>cj (.inr (.inr c));have hat1:=hat j o ho c1 c2 c3;obtain⟨hcls1,hnte,hntx⟩:yc (dsts l) (zr [] l) t e s j o=true∧yC te o=true∧yC tx o=true:=by
    rcases(hcl j o ho).2 with c|c|c|c
    ·exact absurd c c1
    ·exact absurd c c2
    ·exact absurd c c3
    ·exact c
   have hslot:∀u,.tmp u∈o.op.operands.toList→look st2.fr u=FS (nth (dsts l)) res (fun _=>true) (look st.fr) j u:=fun u hu=>by
    have hm1:u∈zI o:=List.mem_filterMap.2 ⟨.tmp u,hu,rfl⟩;rw[hfr _ (.inl ⟨fun c=>(gJ hnte).1 (c▸hm1),fun c=>(gJ hntx).1 (c▸hm1)⟩),hrs _ _ _ _ (xa5 _) (fun c=>(gJ hnte).1 (c▸hm1)) (fun c=>(gJ hntx).1 (c▸hm1))];exact hlook _ _ (by simp only[seen,xd4];exact .inl hm1)
   have hfx0:∀i oi,l[i]? = some oi→i≠e→i≠x→i≠s→(qem e x s 0 l)[i]? = some oi:=fun i oi hoi h1 h2 h3=>by
    have:=W5 (e:=e) (x:=x) (s:=s) (i:=0) hoi;rw[xb0,if_neg (by rintro(h|h|h)<;>contradiction)]at this;exact this
   have hchg:∀i X b,i<l.length→X≠mid→up i=some (X,b)→i≠e∧i≠x∧i≠s∧∃oi ty b' v',l[i]? = some oi∧oi.op=.store ty (.tmp b') v'∧zs (dsts l) i b'=true∧qO (look st1.fr b')=some X:=fun i X b hi hX hu=>by
    have hoi:l[i]? = some l[i]:=by simp[hi]
    have hne:¬(i=e∨i=x):=fun c=>by
     have:=(hquiet i _ hoi c).2.2;rw[hu]at this;cases this
    have hns:i≠s:=fun c=>by
     subst c;rw[hups]at hu;injection hu with hu;injection hu with hu;exact hX hu.symm
    obtain⟨ty,b',v',a1,a2,a3,a4⟩:=(hord i _ hoi (fun c=>hne (.inl c)) (fun c=>hne (.inr c)) hns).2 _ _ hu;exact⟨fun c=>hne (.inl c),fun c=>hne (.inr c),hns,_,ty,b',v',hoi,a1,a2,a4⟩
   have hrd:jY o.op=true→∀X,X≠mid→(∀ty a,o.op=.load ty (.tmp a)→qO (FS (nth (dsts l)) res (fun _=>true) (look st.fr) j a)=some X)→∀i,i<l.length→∀b,up i=some (X,b)→(m.testBit i=true↔i<j):=by
    intro hro X hX hld i hi b hu;obtain⟨n1,n2,n3,oi,ty,b',v',hoi,a1,a2,a3⟩:=hchg i X b hi hX hu;have f1:=hfx0 i oi hoi n1 n2 n3;have f2:=hfx0 j o ho c1 c2 c3;have hui:qU oi.op=true:=by rw[a1];rfl
    constructor
    ·intro hs
     refine xf9 fun hge=>?_;by_cases c:i=j
     ·subst c;rw[hbit]at hs;cases hs
     ·rcases zS hpair f2 f1 Ω with hb|⟨_,hb,_⟩|⟨t4,a4,t5,b5,y5,e1,e2,hmem4,hn1,hn2⟩
      ·have:=hclm _ _ hb hs
       rw[hbit]at this;cases this
      ·exact hb ⟨hro,hui⟩
      ·rw[a1]at e2
       injection e2 with _ e2 _;injection e2 with e2;subst e2;have h1:=hld _ _ e1;have h3:=hfar _ _ hmem4;rw[←gQ (i:=j) (n:=l.length) Ω (fun k hk hik=>qE hn1 Ω hik),←hF1]at h1;unfold jX at h3;rw[h1,a3]at h3;exact h3 rfl
    ·intro hlt
     rcases zS hpair f1 f2 hlt with hb|⟨_,_,hb⟩|⟨t4,a4,t5,b5,y5,e1,e2,hmem4,hn1,hn2⟩
     ·exact hpre i hb Ω
     ·exact(hb ⟨hui,hro⟩).elim
     ·rw[e1]at a1;cases a1
   have hrsj:rs σ j=res j:=by simp only[rs,if_neg c1,if_neg c2]
   have hMS:M (m ||| 2^j).testBit σ clk=M m.testBit σ clk:=by
    have e1:(m ||| 2^j).testBit s=m.testBit s:=by rw[hS];simp[Ne.symm c3]
    have e2:(m ||| 2^j).testBit e=m.testBit e:=by rw[hS];simp[Ne.symm c1]
    simp only[M,e1,e2]
   have hlk:∀sv u,look (inD o.dst (st2.put o.dst sv).fr) u=if o.dst=some u then sv else look st2.fr u:=fun sv u=>by
    rw[ge];have:=congrFun (ky st2.fr st2.hp st2.nid o.dst sv) u;exact this
   have kfin:up j=none→∀sv,sv=res j→∃st4,Weak O ⟨inD o.dst (st2.put o.dst sv).fr,(st2.put o.dst sv).hp,(st2.put o.dst sv).nid+1⟩ st4∧∃σ clk,((∀u,(u≠te∧u≠tx)∨(m ||| 2^j).testBit s=false→look st4.fr u=FS (nth (dsts l)) (rs σ) (m ||| 2^j).testBit (look st.fr) l.length u)∧((m ||| 2^j).testBit s=true→look st4.fr te=.top∧look st4.fr tx=.top))∧(∀i,blk st4.hp i=if i=mid then some (M (m ||| 2^j).testBit σ clk)else blk (UH (but up s) (m ||| 2^j).testBit st.hp l.length) i)∧st4.nid+cnt (m ||| 2^j).testBit l.length=st.nid+l.length:=fun hu sv hsv=>by
    subst hsv;refine⟨_,Weak.refl _ _,next c3 σ clk _ (fun _ _=>rfl) (fun u=>by rw[hrsj];exact hlk _ u) (fun i=>?_) (by rw[qr])⟩;have hub:but up s j=none:=by simp only[but,hu,ite_self]
    show blk (st2.put o.dst (res j)).hp i=_;rw[zk,hhp,hMS,Qo hS hub]
   unfold opH zf;rw[hgd];refine .inl ?_;have run:(kM o.op=true)→stepR P (look st2.fr) st2.hp o.op=stepR P (FS (nth (dsts l)) res (fun _=>true) (look st.fr) j) (TH st.nid nb up st.hp j) o.op→qU o.op=false→(jb o.op=true∨∃t x k ok,o.op=.lookup t x k ok)→Qt P O (Tag.mk:Tag True) (Tag.mk:Tag o.op) o.dst st2.nid st2 (fun st'=>∃st4,Weak O ⟨inD o.dst st'.fr,st'.hp,st'.nid+1⟩ st4∧∃σ clk,((∀u,(u≠te∧u≠tx)∨(m ||| 2^j).testBit s=false→look st4.fr u=FS (nth (dsts l)) (rs σ) (m ||| 2^j).testBit (look st.fr) l.length u)∧((m ||| 2^j).testBit s=true→look st4.fr te=.top∧look st4.fr tx=.top))∧(∀i,blk st4.hp i=if i=mid then some (M (m ||| 2^j).testBit σ clk)else blk (UH (but up s) (m ||| 2^j).testBit st.hp l.length) i)∧st4.nid+cnt (m ||| 2^j).testBit l.length=st.nid+l.length) .mk (stepR P (look st2.fr) st2.hp o.op):=fun hca hst hnu hpl=>by
    rw[hst];generalize hr1:res j=a1 at hat1 kfin;generalize hr2:nb j=a2 at hat1;generalize hr3:up j=a3 at hat1 kfin;cases hat1 with
    |skip hg=>simp[gF,hgd]at hg
    |upd obl t b hg h ho=>rcases z8 (P:=P) hpl with⟨_,_,e1⟩|⟨_,e1⟩|e1<;>rw[e1]at h<;>cases h
    |run sv nb hg hca hr=>
     cases hr with
     |pure obl sv h ho=>rw[h];exact⟨ho,kfin rfl _ rfl⟩
     |ex obl sv h ho=>rw[h];exact⟨_,ho,kfin rfl _ rfl⟩
     |new obl b mk h ho=>rcases z8 (P:=P) hpl with⟨_,_,e1⟩|⟨_,e1⟩|e1<;>rw[e1]at h<;>cases h
     |call f args res h hc=>rcases z8 (P:=P) hpl with⟨_,_,e1⟩|⟨_,e1⟩|e1<;>rw[e1]at h<;>cases h
     |callN f args pats b res h hc hs=>rcases z8 (P:=P) hpl with⟨_,_,e1⟩|⟨_,e1⟩|e1<;>rw[e1]at h<;>cases h
   have hne:stepR P (FS (nth (dsts l)) res (fun _=>true) (look st.fr) j) (TH st.nid nb up st.hp j) o.op≠.bad:=fun hb=>by
    generalize res j=a1 at hat1;generalize nb j=a2 at hat1;generalize up j=a3 at hat1;cases hat1 with
    |skip hg=>simp[gF,hgd]at hg
    |upd obl t b hg h ho=>rw[hb]at h;cases h
    |run sv nb hg hca hr=>
     cases hr with
     |pure obl sv h ho=>rw[hb]at h;cases h
     |ex obl sv h ho=>rw[hb]at h;cases h
     |new obl b mk h ho=>rw[hb]at h;cases h
     |call f args res h hc=>rw[hb]at h;cases h
     |callN f args pats b res h hc hs=>rw[hb]at h;cases h
   rcases jo hcls1 with⟨hpl,hldn⟩|⟨xm,kk,hop,hlt,hbs⟩|⟨ty,b,v',hop,hnf,hdn⟩
   ·have hca:kM o.op=true:=by generalize o.op=op at hpl;cases op<;>first|(simp[jb]at hpl;done)|rfl
    refine run hca ?_ (Y8 hca) (.inl hpl);rw[wD (.inl hpl) hslot];cases hro:jY o.op with
    |false=>exact ZE _ hca hro
    |true=>
     obtain⟨ty,a,hop⟩:∃ty a,o.op=.load ty (.tmp a):=by
      generalize o.op=op at hpl hro ⊢;unfold jb at hpl;split at hpl<;>first|(cases hro;done)|exact⟨_,_,rfl⟩|(cases hpl;done)
     have hnf:=hldn _ _ hop;rw[hop]at hne ⊢;refine wo (fun X y hX hy=>?_) hne;have hX':qO (look st1.fr a)=some X:=by
      rw[hF1,gQ (i:=j) Ω (fun k hk hik=>qE hnf Ω hik)];exact hX
     have hXm:X≠mid:=fun c=>by
      subst c;exact hadr a ((ye ho).1 _ _ hop) hX'
     rw[hmem X hXm (hrd hro X hXm fun ty' a' e=>by rw[hop]at e;cases e;exact hX)];exact hy
   ·have hsf:m.testBit s=false:=by
     cases hv:m.testBit s with
     |false=>rfl
     |true=>have:=hclm _ _ hbs hv;rw[hbit]at this;cases this
    refine run (by rw[hop];rfl) ?_ (by rw[hop];rfl) (.inr ⟨_,_,_,_,hop⟩);rw[wD (.inr (.inl ⟨_,_,_,_,hop⟩)) hslot,hop];simp only[stepR,hmi];generalize hA:env (FS (nth (dsts l)) res (fun _=>true) (look st.fr) j) xm=A;generalize env (FS (nth (dsts l)) res (fun _=>true) (look st.fr) j) kk=B;by_cases cA:A=.mp mid
    ·subst cA
     have h1:blk (TH st.nid nb up st.hp j) mid=some (.map fit dom get):=by
      rw[hTH j Ω,←hmap];exact wq fun i hi _ t' b hu e=>by
       subst e;have:=hup i b Ω hu;omega
     have h2:=hhp mid;rw[if_pos rfl]at h2;simp only[M,hsf,xe7,if_false]at h2;simp only[rLookup,mapOf,h1,h2];by_cases ce:m.testBit e=true
     ·simp only[ce,if_true]
      cases keyV B with
      |none=>rfl
      |some u=>
       simp only[xe7,if_false];rw[qgJ]
     ·simp only[ce,xe7,if_false]
    ·have:mapOf st2.hp A=mapOf (TH st.nid nb up st.hp j) A:=by
      cases A<;>first|rfl|skip
      case mp id'=>
       have hXm:id'≠mid:=fun c=>cA (by rw[c]);simp only[mapOf];rw[hmem id' hXm (hrd (by rw[hop];rfl) id' hXm fun ty a e=>by rw[hop]at e;cases e)]
     simp only[rLookup,this]
   ·have hwr:∀i,i<l.length→but up s i≠none→(m.testBit i=true↔i<j):=fun i hi hu=>by
     have hns:i≠s:=fun c=>hu (by simp[but,c]);have hu':up i≠none:=fun c=>hu (by simp[but,c]);have hoi:l[i]? = some l[i]:=by simp[hi]
     have hne:¬(i=e∨i=x):=fun c=>hu' (hquiet i _ hoi c).2.2;obtain⟨p,hp⟩:=Option.ne_none_iff_exists'.1 hu';obtain⟨X,b2⟩:=p;obtain⟨ty2,b3,v3,a1,-,-,-⟩:=(hord i _ hoi (fun c=>hne (.inl c)) (fun c=>hne (.inr c)) hns).2 _ _ hp;have f1:=hfx0 i _ hoi (fun c=>hne (.inl c)) (fun c=>hne (.inr c)) hns;have f2:=hfx0 j o ho c1 c2 c3;have hui:qU (l[i]).op=true:=by rw[a1];rfl
     have huj:qU o.op=true:=by rw[hop];rfl
     constructor
     ·intro hs
      refine xf9 fun hge=>?_;by_cases c:i=j
      ·subst c;rw[hbit]at hs;cases hs
      ·rcases zS hpair f2 f1 Ω with hb|⟨hb,_,_⟩|⟨t4,a4,t5,b5,y5,e1,e2,hmem4,hn1,hn2⟩
       ·have:=hclm _ _ hb hs
        rw[hbit]at this;cases this
       ·exact hb ⟨huj,hui⟩
       ·rw[hop]at e1;cases e1
     ·intro hlt
      rcases zS hpair f1 f2 hlt with hb|⟨hb,_,_⟩|⟨t4,a4,t5,b5,y5,e1,e2,hmem4,hn1,hn2⟩
      ·exact hpre i hb Ω
      ·exact(hb ⟨hui,huj⟩).elim
      ·rw[a1]at e1;cases e1
    generalize hr1:res j=a1 at hat1 kfin;generalize hr2:nb j=a2 at hat1;generalize hr3:up j=a3 at hat1 kfin;cases hat1 with
    |skip hg=>simp[gF,hgd]at hg
    |run sv nb hg hca hr=>rw[hop]at hca;cases hca
    |upd obl X bb hg h hobl=>
     rw[hop]at h;have hX:=ja h;have hX':qO (look st1.fr b)=some X:=by
      rw[hF1,gQ (i:=j) Ω (fun k hk hik=>qE hnf Ω hik)];exact hX
     have hXm:X≠mid:=fun c=>by
      subst c;exact hadr b ((ye ho).2 _ _ _ hop) hX'
     have hcond:∀i,i<l.length→∀b2,up i=some (X,b2)→(m.testBit i=true↔i<j):=fun i hi b2 hu=>by
      have hns:i≠s:=fun c=>by
       subst c;rw[hups]at hu;injection hu with hu;injection hu with hu;exact hXm hu.symm
      exact hwr i hi (by simp[but,hns,hu])
     have hst:stepR P (look st2.fr) st2.hp o.op=.upd obl X bb:=by
      rw[wD (.inr (.inr ⟨_,_,_,hop⟩)) hslot,hop];have h':=h;simp only[stepR]at h ⊢;rw[qaI (hp:=TH st.nid nb up st.hp j) (fun id y hid hy=>?_) (by rw[h];simp),h];rw[hX]at hid;injection hid with hid;subst hid;rw[hmem X hXm hcond];exact hy
     rw[hst];refine⟨hobl,_,Weak.refl _ _,?_⟩;have hub:but up s j=some (X,bb):=by simp only[but,if_neg c3,hr3]
     refine next c3 σ clk _ (fun _ _=>rfl) (fun u=>?_) (fun i=>?_) (by simp[hdn,St.put])
     ·rw[hdn]
      simp only[reduceCtorEq,if_false];rw[ge];rfl
     ·rw[hdn]
      show blk (setBlk st2.hp X bb) i=_;rw[qp,hMS,qaa hS hjl hub hwr,qp];by_cases ci:i=X
      ·subst ci
       rw[if_pos rfl,if_neg hXm,if_pos rfl,hhp,if_neg hXm]
      ·rw[if_neg ci,if_neg ci,hhp]
 ·rintro m st2 ⟨σ,clk,⟨hfr,htop⟩,hhp,hnid⟩ hall
  refine hk1 st2 (fun u=>?_) (fun j=>?_) ?_
  ·by_cases h1:u=te
   ·rw[if_pos (.inl h1),h1];exact(htop (hall s hsl)).1
   by_cases h2:u=tx
   ·rw[if_pos (.inr h2),h2];exact(htop (hall s hsl)).2
   rw[if_neg (by rintro(h|h)<;>contradiction),hfr u (.inl ⟨h1,h2⟩),hrs _ _ _ _ (xa5 _) h1 h2,hF1];exact wl (xa5 _) fun j hj _=>by simp[hall j hj,hj]
  ·rw[hhp]
   split
   ·rename_i c
    subst c;simp only[M,hall s hsl,if_true];exact hfin.symm
   ·rename_i c
    rw[hh1,hTH _ (xa5 _),←qaK (up:=up) (s:=s) (fun t' b hu=>by rw[hups]at hu;injection hu with hu;injection hu with hu;rw[←hu];exact fun e=>c e.symm)];rw[wr fun j hj _=>hall j hj]
  ·rw[qcl hall]at hnid
   omega
end
def qaL:Nat→List Oper→Nat
 |i,[]=>i
 |i,o :: r=>match o.op with
  |.mapEntry _ _ _=>i
  |_=>qaL (i+1) r
noncomputable def entQ(e:Nat)(oe ox os:Oper):Option EI:=
 match oe.op,oe.dst with
 |.mapEntry t (.tmp mm) k,some te=>match ox.op,ox.dst with
  |.extract (.tmp te') 1,some tx=>match os.op,os.dst with
   |.entryStore t' (.tmp mm') (.tmp tx') y,none=>Bool.rec none (some ⟨e,e+1,e+2,te,tx,t,mm,k,y⟩) (Nat.beq te te'&&(Nat.beq t t'&&(Nat.beq mm mm'&&(Nat.beq tx tx'&&!(Nat.beq te tx)))))
   |_,_=>none
  |_,_=>none
 |_,_=>none
noncomputable def entI(l:List Oper):Option EI:=
 let e:=qaL 0 l
 match l[e]?,l[e+1]?,l[e+2]? with
 |some oe,some ox,some os=>entQ e oe ox os
 |_,_,_=>none
theorem qju{l:List Oper}{q:EI}(h:entI l=some q):Ent q l:=by
 unfold entI at h;dsimp only at h;generalize qaL 0 l=e at h;split at h
 ·rename_i oe ox os h1 h2 h3
  unfold entQ at h;split at h
  ·rename_i t mm k te e1 e2
   split at h
   ·rename_i te' tx e3 e4
    split at h
    ·rename_i t' mm' tx' y e5 e6
     cases hb:(Nat.beq te te'&&(Nat.beq t t'&&(Nat.beq mm mm'&&(Nat.beq tx tx'&&!(Nat.beq te tx)))))with
     |false=>rw[hb]at h;cases h
     |true=>
      rw[hb]at h;injection h with h;subst h;simp only[xe6,Bool.not_eq_true']at hb;obtain⟨b1,b2,b3,b4,b5⟩:=hb;have b1:=xa6 b1;have b2:=xa6 b2;have b3:=xa6 b3;have b4:=xa6 b4;subst b1;subst b2;subst b3;subst b4;exact⟨xb5 e,xb5 (e+1),fun c=>(by rw[show te=tx from c,Nat.beq_refl]at b5;cases b5),⟨oe,h1,e1,e2⟩,⟨ox,h2,e3,e4⟩,⟨os,h3,e5,e6⟩⟩
    ·cases h
   ·cases h
  ·cases h
 ·cases h
end Go.Sx
end
section
namespace Go.Sx
open Go.RowKit
section
variable{P:Program}
def qjv(P:Program)(O:Ctx)(ops:List Oper)(ms:List Nat)(inv:Nat→St→Prop)(i:Nat)(o:Oper):Prop:=
 ∀m st,inv m st→qbE ms m→m.testBit i=false→(∀j,(ms.getD i 0).testBit j=true→j≠i→m.testBit j=true)→
  ∃st1,Weak O st st1∧opH P O (dsts ops) o st1 fun st2=>∃st3,Weak O st2 st3∧inv (m ||| 2^i) st3
theorem yV(hm:P.follows .mixedOrders=true){O:Ctx}{st st0:St}{K:Ex→St→Prop}{id:Nat}{ops:List Oper}(inv:Nat→St→Prop){ms:List Nat}(hms:zr [] ops=ms)(hedge:gO 0 ops=true)(hw0:Weak O st st0)(h0:inv 0 st0)(hs:ww (qjv P O ops ms inv) 0 ops)
  (hend:∀m st',inv m st'→(∀i,i<ops.length→m.testBit i=true)→∃st2,Weak O st' st2∧K .normal st2) {g:Tag K}:j5 P O id ops true st K g:=by
 subst hms;intro base okc ns outs a w ro Q hro hc hi hK
 replace hi:=hw0 _ _ _ _ _ _ hi
 simp only[qD,xe6]at hc;obtain⟨hd,-⟩:=hc;have hd:ops.all (kL ns)=true:=by simpa using hd
 have hn:ops.toArray.size=ops.length:=by simp
 have hget:∀j:Nat,ops.toArray[j]? = ops[j]?:=fun j=>by simp
 have hedge:=gh hedge;have hclosed:∀(S:Nat→Bool)(i:Nat),kV ops S→(∃o,ops[i]? = some o∧∀e∈o.after,Region.binds .any e=true→S e.on=true)→kV ops (fun j=>S j || decide (j=i)):=by
  rintro S i hc ⟨o,ho,he⟩ j oj hoj hS e hm' hb;simp only[xe8,decide_eq_true_eq]at hS ⊢;rcases hS with hS|hS
  ·exact .inl (hc j oj hoj hS e hm' hb)
  ·subst hS
   rw[ho]at hoj;cases hoj;exact .inl (he e hm' hb)
 have hready:∀(listed:Array Bool)(i:Nat),listed.size=ops.length→i∈Region.ready .any ops.toArray listed→i<ops.length∧listed.getD i false=false∧∃o,ops[i]? = some o∧∀e∈o.after,Region.binds .any e=true→listed.getD e.on false=true:=by
  intro listed i hsz hi;obtain⟨h1,o,h2,h3⟩:=mem_ready.1 hi;rw[hget]at h2;have hlt:i<ops.length:=(List.getElem?_eq_some_iff.1 h2).1;refine⟨hlt,?_,o,h2,h3⟩;have:i<listed.size:=by omega
  simpa[this]using h1
 have hleast:∀(listed:Array Bool),listed.size=ops.length→∀i,i<ops.length→listed.getD i false=false→∃j,j≤i∧j∈Region.ready .any ops.toArray listed:=by
  intro listed hsz i
  induction i using Nat.strongRecOn with
  |_ i ih=>
   intro hi hf;obtain⟨o,ho⟩:∃o,ops[i]? = some o:=⟨ops[i],by simp[hi]⟩;by_cases hall:∀e∈o.after,Region.binds .any e=true→listed.getD e.on false=true
   ·refine⟨i,xa5 _,mem_ready.2 ⟨?_,o,by rw[hget];exact ho,hall⟩⟩
    have:i<listed.size:=by omega
    simpa[this]using hf
   ·have:∃e,e∈o.after∧Region.binds .any e=true∧listed.getD e.on false=false:=by
     refine xf9 fun hno=>hall fun e he hb=>?_;cases hv:listed.getD e.on false with
     |true=>rfl
     |false=>exact(hno ⟨e,he,hb,hv⟩).elim
    obtain⟨e,he,hb,hv⟩:=this;have hlt:=hedge i o ho e he hb;rw[xb0]at hlt;obtain⟨j,hj,hr⟩:=ih e.on hlt Ω hv;exact⟨j,Ω,hr⟩
 have main:∀(fuel:Nat)(listed:Array Bool)(m:Nat)(st:St)(a:Act)(w:World),listed.size=ops.length→(∀i,listed.getD i false=m.testBit i)→kV ops (fun i=>listed.getD i false)→cnt (fun i=>listed.getD i false) ops.length=fuel→
   inv m st→Inv O base okc ns st.nid outs st a w→wpAnyIn (FR ro) 0 P .any ops.toArray Q fuel listed a w:=by
  intro fuel
  induction fuel with
  |zero=>
   intro listed m st a w hsz hbit hcl hcnt hin hi;have hall:=wm hcnt;obtain⟨st2,hw2,hk2⟩:=hend m st hin fun i hi=>by rw[←hbit];exact hall i hi
   refine⟨?_,hK .normal st2 a w hk2 (hw2 _ _ _ _ _ _ hi)⟩;cases hr:Region.ready .any ops.toArray listed with
   |nil=>rfl
   |cons x xs=>
    obtain⟨h1,h2,-⟩:=hready listed x hsz Ωaa;have:=hall x h1;simp only[h2]at this;cases this
  |succ fuel ih=>
   intro listed m st a w hsz hbit hcl hcnt hin hi;refine⟨fun h=>?_,fun i hir=>?_⟩
   ·exfalso
    have:∃x,x<ops.length∧listed.getD x false=false:=by
     refine xf9 fun hno=>?_;have:∀n,n≤ops.length→cnt (fun i=>listed.getD i false) n=0:=by
      intro n
      induction n with
      |zero=>intro _;rfl
      |succ n ihn=>
       intro hn';simp only[cnt];rw[ihn Ω];have hv:listed.getD n false=true:=by
        refine xf9 fun hv=>hno ⟨n,Ω,(by simpa using hv)⟩
       rw[if_pos hv]
     rw[this _ (xa5 _)]at hcnt;cases hcnt
    obtain⟨x,hx,hxf⟩:=this;obtain⟨y,_,hr⟩:=hleast listed hsz x hx hxf;rw[h]at hr;cases hr
   ·obtain⟨hil,hif,o,ho,hie⟩:=hready listed i hsz hir
    have hcl':=hclosed _ i hcl ⟨o,ho,hie⟩;have hS:∀x,(listed.setIfInBounds i true).getD x false=(listed.getD x false || decide (x=i)):=fun x=>wn Ω;have hop:=yP hs i o ho;rw[xb0]at hop;have hop:=hop m st hin (fun j x hb hj=>by
     rw[←hbit]at hj ⊢;exact qw (S:=fun i=>listed.getD i false) hcl hb hj) (by rw[←hbit];exact hif) (fun j hb hne=>by
     have:=qw hcl' hb Ωg;simp only[xe8,decide_eq_true_eq]at this;rw[←hbit];exact this.resolve_right hne)
    have hdo:kL ns o=true:=List.all_eq_true.1 hd o (List.mem_of_getElem? ho);unfold wpOpIn;simp only[hget,ho];obtain⟨st1,hw1,hop⟩:=hop;refine Vm (ops:=ops.toArray) (hw1 _ _ _ _ _ _ hi) hdo (by simpa using hop) fun st' a' w' hst3 hi'=>?_;obtain⟨st3,hw,hin'⟩:=hst3;refine ih _ (m ||| 2^i) st3 a' w' (by simpa using hsz) (fun x=>?_) ?_ ?_ hin' (hw _ _ _ _ _ _ hi')
    ·rw[hS,hbit,Nat.testBit_or,Nat.testBit_two_pow]
     congr 1
     simp[eq_comm]
    ·have:(fun x=>(listed.setIfInBounds i true).getD x false)=fun x=>listed.getD x false || decide (x=i):=funext hS
     rw[this];exact hcl'
    ·have:=(gP (S:=fun i=>listed.getD i false) (S':=fun x=>(listed.setIfInBounds i true).getD x false) hS hif (n:=ops.length)).2 hil
     omega
 refine wpIn_region_any hm ?_;rw[hn];have hrep0:∀i,(Array.replicate ops.length false).getD i false=false:=fun i=>by simp only[xf5,Array.getElem?_replicate];split<;>rfl
 obtain⟨r0,hr0⟩:=hi;have hdrew:Below w.heap.size w { w with drawn:=w.drawn+1 }:=⟨rfl,rfl,rfl,xa5 _,fun _ _=>rfl⟩;have hi1:InvR O base okc ns st0.nid r0 outs st0 a { w with drawn:=w.drawn+1 }:=hr0.step (hr0.sat.grow hdrew) hr0.keys (xa5 _) (d:=none) (fun t ht=>by cases ht) (.top undef);refine main ops.length (Array.replicate ops.length false) 0 st0 a _ Ωg (fun i=>by rw[hrep0];simp) ?_ ?_ h0 ⟨r0,hi1⟩
 ·intro j o ho hS;simp only[hrep0]at hS;cases hS
 ·have key:∀n,cnt (fun i=>(Array.replicate ops.length false).getD i false) n=n:=by
   intro n
   induction n with
   |zero=>rfl
   |succ n ihn=>
    simp only[cnt,ihn];rw[if_neg (by rw[hrep0];simp)]
  exact key _
theorem yW(O:Ctx)(st:St):∀n,st.nid≤n→Weak O st { st with nid:=n }:=by
 intro n h;obtain⟨d,rfl⟩:∃d,n=st.nid+d:=⟨n - st.nid,Ω⟩;clear h
 induction d with
 |zero=>exact Weak.refl _ _
 |succ d ih=>exact ih.trans (fun base okc ns outs a w h=>by
   obtain⟨r,h⟩:=h;have s:=h.sat.more (N':=(· < st.nid+d+1)) (fun x hx=>Nat.lt_succ_of_lt hx) (fun x y hy _=>h.keys x y hy);exact⟨r,(h.step s (fun id x hx=>Nat.lt_succ_of_lt (h.keys id x hx)) (xc4 _) (d:=none) (fun t ht=>by cases ht) (.top undef)).nid (st.nid+d+1)⟩)
theorem jE{F F':Nat→SV}:∀{l:List Operand},(∀x∈l,env F x=env F' x)→envs F l=envs F' l
 |[],_=>rfl
 |a :: l,h=>by rw[envs,envs,h a xd5,jE fun x hx=>h x (List.mem_cons_of_mem _ hx)]
theorem yX{F F':Nat→SV}:∀{l:List (Nat×Operand)},(∀x∈l,env F x.2=env F' x.2)→envp F l=envp F' l
 |[],_=>rfl
 |a :: l,h=>by rw[envp,envp,h a xd5,yX fun x hx=>h x (List.mem_cons_of_mem _ hx)]
theorem Zp{F F':Nat→SV}{o:Option Operand}(h:∀x∈o.toList,env F x=env F' x):o.map (env F)=o.map (env F'):=by
 cases o with
 |none=>rfl
 |some x=>show some _=some _;rw[h x Ωg]
theorem Jx{F F':Nat→SV}{hp:List (Nat×Blk)}{op:Op}(h:∀t,.tmp t∈op.operands.toList→F t=F' t):stepR P F hp op=stepR P F' hp op:=by
 have he:∀x,x∈op.operands.toList→env F x=env F' x:=fun x hx=>by
  cases x<;>first|exact h _ hx|rfl
 clear h;cases op
 case makeFunc g fs cs=>
  simp only[stepR];rw[jE fun x hx=>he x (by simp[Op.operands];exact .inl ΩS),jE fun x hx=>he x (by simp[Op.operands];exact .inr ΩS)]
 case build t ps=>
  simp only[stepR];rw[yX fun p hp=>he p.2 (by simp only[Op.operands];exact List.mem_map_of_mem hp)]
 case buildSlice t n ps=>
  simp only[stepR];rw[yX fun p hp=>he p.2 (by simp only[Op.operands];exact List.mem_map_of_mem hp)]
 case slice t x lo hi mx=>
  simp only[stepR];rw[he x Ωr,Zp fun y hy=>he y Ωad,Zp (o:=hi) fun y hy=>he y Ωad,Zp (o:=mx) fun y hy=>he y Ωad]
 case call c=>
  obtain⟨callee,args,ts⟩:=c;have hargs:∀x∈args.toList,env F x=env F' x:=fun x hx=>he x (by cases callee<;>simp[Op.operands,Call.operands]<;>first|exact .inr ΩS|simpa using hx);simp only[stepR];cases callee
  case value x=>
   simp only[rCall];rw[he x Ωj,jE hargs]
  case builtin b=>
   have e:=jE hargs;cases b<;>simp only[rCall]<;>first|rfl|rw[e]|skip
   all_goals
    (split<;>first|rfl|skip)
    all_goals (rename_i hl _;rw[hl]at hargs)
    all_goals first
     |(rw[hargs _ Ωg];done)
     |(rw[hargs _ Ωg,hargs _ Ωg];done)
     |skip
  all_goals (simp only[rCall])
 all_goals first
  |(simp only[stepR];done)
  |(simp only[stepR];rw[he _ Ωr];done)
  |(simp only[stepR];rw[he _ Ωr,he _ Ωr];done)
  |(simp only[stepR];rw[he _ Ωr,he _ Ωr,he _ Ωr];done)
  |skip
def gm:Op→Bool
 |.move _|.assign _|.pick _ _ _|.load _ _|.nilCheck _|.binOp _ _ _ _ _|.unOp _ _ _|.convert _ _ _|.makeFunc _ _ _|.fieldAddr _ _ _|.field _ _ _|.indexAddr _ _ _|.index _ _ _|.extract _ _|.build _ _|.slice _ _ _ _ _|.lookup _ _ _ _=>false
 |.call ⟨.builtin .len,_,_⟩=>false
 |.call ⟨.builtin .min,_,_⟩=>false
 |.call ⟨.builtin .max,_,_⟩=>false
 |_=>true
def Gj:Op→Bool
 |.load _ _|.lookup _ _ _ _=>true
 |.call ⟨.builtin .len,_,_⟩=>true
 |_=>false
def kc(e:Nat→Bool):Nat→Nat
 |0=>0
 |n+1=>kc e n+if e n=true then 1 else 0
theorem VE{e e':Nat→Bool}:∀{n:Nat},(∀j,j<n→e j=true→e' j=true)→kc e n≤kc e' n
 |0,_=>xa5 _
 |n+1,h=>by
  have ih:=VE (n:=n) fun j hj=>h j Ω;simp only[kc];by_cases c:e n=true
  ·rw[if_pos c,if_pos (h n Ω c)];omega
  ·rw[if_neg c];omega
theorem QO{e e':Nat→Bool}:∀{n:Nat},(∀j,j<n→e j=e' j)→kc e n=kc e' n
 |0,_=>rfl
 |n+1,h=>by simp only[kc];rw[QO (n:=n) fun j hj=>h j Ω,h n Ω]
theorem qcm{e:Nat→Bool}:∀{n:Nat},kc e n≤n
 |0=>xa5 _
 |n+1=>by
  have:=qcm (e:=e) (n:=n);simp only[kc];split<;>omega
theorem qcn{e:Nat→Bool}:∀{j k:Nat},j≤k→kc e j≤kc e k
 |j,0,h=>by rw[Nat.le_zero.1 h];exact xa5 _
 |j,k+1,h=>by
  by_cases c:j=k+1
  ·rw[c];exact xa5 _
  ·have:=qcn (e:=e) (j:=j) (k:=k) Ω
   simp only[kc];omega
theorem qco{e:Nat→Bool}:∀{n:Nat},(∀j,j<n→e j=false)→kc e n=0
 |0,_=>rfl
 |n+1,h=>by simp only[kc];rw[qco (n:=n) fun j hj=>h j Ω,h n Ω];rfl
theorem VF{e e':Nat→Bool}{i:Nat}(he:∀j,j≠i→e' j=e j)(h0:e i=false):∀{n:Nat},kc e' n=kc e n+if i<n∧e' i=true then 1 else 0
 |0=>by simp[kc]
 |n+1=>by
  have ih:=VF (n:=n) he h0;simp only[kc];rw[ih];by_cases c:n=i
  ·subst c
   rw[h0];by_cases d:e' n=true
   ·simp[d]
   ·simp[d]
  ·rw[he n c]
   by_cases d:e' i=true
   ·simp only[d,and_true]
    by_cases q:i<n
    ·rw[if_pos q,if_pos (Ω:i<n+1)];omega
    ·rw[if_neg q,if_neg (Ω:¬i<n+1)];omega
   ·simp[d]
theorem Jy{f e:Nat→Bool}{i:Nat}(h1:∀j,j<i→f j=e j):∀{n:Nat},i≤n→(∀j,i≤j→j<n→f j=false)→kc f n=kc e i
 |0,h,_=>by rw[Nat.le_zero.1 h];rfl
 |n+1,h,h2=>by
  by_cases c:i=n+1
  ·subst c;exact QO h1
  ·simp only[kc]
   rw[Jy h1 (n:=n) Ω fun j hj hn=>h2 j hj Ω,h2 n Ω Ω];rfl
theorem vG{D:Nat→Option Tmp}{res:Nat→SV}{S S':Nat→Bool}{F:Nat→SV}{t:Nat}:∀{n:Nat},(∀j,j<n→D j=some t→S j=S' j)→FS D res S F n t=FS D res S' F n t
 |0,_=>rfl
 |n+1,h=>by
  have ih:=vG (F:=F) (res:=res) (n:=n) fun j hj=>h j Ω;simp only[FS];by_cases c:D n=some t
  ·rw[h n Ω c,ih]
  ·rw[if_neg (fun x=>c x.2),if_neg (fun x=>c x.2),ih]
theorem VG{D:Nat→Option Tmp}{res:Nat→SV}{S:Nat→Bool}{F:Nat→SV}{t i:Nat}:∀{n:Nat},i≤n→(∀x,i≤x→x<n→D x≠some t)→FS D res S F n t=FS D res S F i t
 |0,h,_=>by rw[Nat.le_zero.1 h]
 |n+1,h,hx=>by
  by_cases c:i=n+1
  ·rw[c]
  ·simp only[FS]
   rw[if_neg (fun q=>hx n Ω Ω q.2)];exact VG Ω fun x h1 h2=>hx x h1 Ω
theorem VH{D:Nat→Option Tmp}{res:Nat→SV}{S:Nat→Bool}{F:Nat→SV}{t:Nat}:∀{n:Nat},(∀j,j<n→S j=false)→FS D res S F n t=F t
 |0,_=>rfl
 |n+1,h=>by
  simp only[FS];rw[if_neg (fun x=>by rw[h n Ω]at x;cases x.1)];exact VH fun j hj=>h j Ω
theorem qaM{D:Nat→Option Tmp}{res:Nat→SV}{S S':Nat→Bool}{F:Nat→SV}{t i:Nat}(hS:∀x,S' x=(S x || decide (i=x))):∀{n:Nat},i<n→(∀x,x<n→x≠i→D i=some t→D x≠some t)→FS D res S' F n t=if D i=some t then res i else FS D res S F n t
 |n+1,hi,hd=>by
  have hne:∀x,x≠i→S' x=S x:=fun x hx=>by rw[hS];simp;intro e;exact absurd e.symm hx
  by_cases c:n=i
  ·subst c
   have e1:S' n=true:=by rw[hS];simp
   have e2:FS D res S' F n t=FS D res S F n t:=vG fun j hj _=>hne j Ω;simp only[FS];by_cases d:D n=some t
   ·rw[if_pos ⟨e1,d⟩,if_pos d]
   ·rw[if_neg (fun x=>d x.2),if_neg d,if_neg (fun x=>d x.2),e2]
  ·have ih:=qaM (F:=F) (res:=res) (t:=t) hS (n:=n) Ω fun x hx=>hd x Ω
   simp only[FS];rw[hne n c];by_cases d:S n=true∧D n=some t
   ·have:D i≠some t:=fun e=>hd n Ω c e d.2
    rw[if_pos d,if_neg this,if_pos d]
   ·rw[if_neg d,ih,if_neg d]
def efL(l:List Oper)(i:Nat):Bool:=match l[i]? with|some o=>gm o.op|none=>false
def Gk(l:List Oper):Bool:=
 let ms:=zr [] l
 let ds:=dsts l
 gO 0 l&&(List.range l.length).all fun i=>(match l[i]? with
  |some o=>(match o.guard with|none=>true|some (g,_)=>(ms.getD i 0).testBit g&&(nth ds g).isSome)&&Nat.blt (ms.getD i 0) (2^i)&&(List.range l.length).all (fun j=>(match nth ds j with|some t=>!(zI o).contains t ||(ms.getD i 0).testBit j|none=>true)&&(!(Nat.blt j i) ||((!(efL l i&&efL l j) ||(ms.getD i 0).testBit j)&&(match nth ds j,nth ds i with|some t,some u=>!(Nat.beq t u)|_,_=>true))))
  |none=>true)
structure qaN(l:List Oper):Prop where
 edges:gO 0 l=true
 grd:∀(i:Nat)(o:Oper)(g:Nat)(want:Bool),l[i]? = some o→o.guard=some (g,want)→((zr [] l).getD i 0).testBit g=true∧∃t,nth (dsts l) g=some t
 lt:∀i e,i<l.length→((zr [] l).getD i 0).testBit e=true→e<i
 ops:∀(i:Nat)(o:Oper)(t j:Nat),l[i]? = some o→t∈zI o→j<l.length→nth (dsts l) j=some t→((zr [] l).getD i 0).testBit j=true
 chain:∀i j,j<i→i<l.length→efL l i=true→efL l j=true→((zr [] l).getD i 0).testBit j=true
 dist:∀i j t,j<i→i<l.length→nth (dsts l) i=some t→nth (dsts l) j=some t→False
theorem Jz{l:List Oper}(h:Gk l=true):qaN l:=by
 simp only[Gk,xe6,List.all_eq_true,List.mem_range]at h;obtain⟨h1,h2⟩:=h;have key:∀(i:Nat)(o:Oper),l[i]? = some o→(∀(g:Nat)(want:Bool),o.guard=some (g,want)→((zr [] l).getD i 0).testBit g=true∧∃t,nth (dsts l) g=some t)∧((zr [] l).getD i 0)<2^i∧∀j,j<l.length→(∀t,nth (dsts l) j=some t→t∈zI o→((zr [] l).getD i 0).testBit j=true)∧(j<i→(efL l i=true→efL l j=true→((zr [] l).getD i 0).testBit j=true)∧∀t u,nth (dsts l) j=some t→nth (dsts l) i=some u→t≠u):=by
  intro i o ho;have hi:i<l.length:=(List.getElem?_eq_some_iff.1 ho).1;have h:=h2 i hi;rw[ho]at h;simp only[xe6,List.all_eq_true,List.mem_range]at h;obtain⟨⟨a,b⟩,c⟩:=h;refine⟨fun g want hg=>(by rw[hg]at a;simp only[xe6]at a;exact⟨a.1,Option.isSome_iff_exists.1 a.2⟩),(by have b:=xa7 b;omega),fun j hj=>?_⟩;obtain⟨d,e⟩:=c j hj;refine⟨fun t ht hm=>?_,fun hji=>?_⟩
  ·rw[ht]at d
   simp only[xe8,Bool.not_eq_true']at d;exact d.resolve_left (by simp[hm])
  ·have hb:Nat.blt j i=true:=by simp[Nat.blt];omega
   simp only[hb,Bool.not_true,xf4,xe6]at e;refine⟨fun x y=>by simpa[x,y]using e.1,fun t u ht hu hc=>?_⟩;have:=e.2;rw[ht,hu]at this;simp[hc]at this
 refine⟨h1,fun i o g want ho hg=>(key i o ho).1 g want hg,fun i e hi hb=>?_,fun i o t j ho ht hj hn=>((key i o ho).2.2 j hj).1 t hn ht,fun i j hji hi=>?_,fun i j t hji hi ha hb=>?_⟩
 ·obtain⟨o,ho⟩:∃o,l[i]? = some o:=⟨l[i],by simp[hi]⟩
  have hlt:=(key i o ho).2.1;refine xf9 fun c=>?_;rw[Nat.testBit_lt_two_pow (xa9 hlt (Nat.pow_le_pow_right Ω Ω))]at hb;cases hb
 ·obtain⟨o,ho⟩:∃o,l[i]? = some o:=⟨l[i],by simp[hi]⟩
  exact(((key i o ho).2.2 j Ω).2 hji).1
 ·obtain⟨o,ho⟩:∃o,l[i]? = some o:=⟨l[i],by simp[hi]⟩
  exact(((key i o ho).2.2 j Ω).2 hji).2 t t hb ha rfl
def loC(l:List Oper)(i:Nat):Nat:=kc (fun e=>efL l e&&((zr [] l).getD i 0).testBit e) l.length
def hiC(l:List Oper)(i:Nat):Nat:=kc (fun e=>efL l e&&!((zr [] l).getD e 0).testBit i) l.length
theorem vb{e:Nat→Bool}{Y:Nat→Tr 6 XB}{Z:Nat→Nat}{n:Nat}(hY:∀j,j<n→e j=false→Y (j+1)=Y j∧Z (j+1)=Z j):∀{j k:Nat},j≤k→k≤n→kc e j=kc e k→Y j=Y k∧Z j=Z k
 |j,0,h,_,_=>by rw[Nat.le_zero.1 h];exact⟨rfl,rfl⟩
 |j,k+1,h,hk,he=>by
  by_cases c:j=k+1
  ·rw[c];exact⟨rfl,rfl⟩
  ·have h1:=qcn (e:=e) (Ω:j≤k)
   simp only[kc]at he;have h2:e k=false:=by
    cases q:e k with
    |false=>rfl
    |true=>rw[q,if_pos rfl]at he;omega
   rw[h2]at he;obtain⟨a,b⟩:=vb hY (Ω:j≤k) Ω ΩT;obtain⟨a',b'⟩:=hY k Ω h2;rw[a',b'];exact⟨a,b⟩
theorem gn(st:St)(d:Option Tmp)(s:SV)(t:Nat):look (st.put d s).fr t=if d=some t then s else look st.fr t:=by
 cases d with
 |none=>rw[if_neg (by intro h;cases h)];rfl
 |some d=>
  show look (putFr st.fr d s) t=_;rw[zb];by_cases c:t=d
  ·rw[if_pos c,if_pos (by rw[c])]
  ·rw[if_neg c,if_neg (by intro h;cases h;exact c rfl)]
def Grd(l:List Oper)(G:Nat→SV)(o:Oper)(sk:Bool):Prop:=
 match o.guard with
 |none=>sk=false
 |some (g,want)=>∃t,nth (dsts l) g=some t∧((∃b,G t=.val (.bool b)∧sk = !(b == want))∨((∃vs,G t=.val (.tuple vs))∧sk=true))
def PureAt(P:Program)(F:Nat→SV)(H:List (Nat×Blk))(op:Op)(s:SV):Prop:=
 qnh s (stepR P F H op)∨(qbD op=true∧∀(O:Ctx)(st:St),(∀t,t∈op.operands.toList.filterMap (fun|.tmp t=>some t|_=>none)→look st.fr t=F t)→st.hp=H→OpVC P O op st fun st' res=>st'=st∧res=s)
theorem OpVC.mono{O:Ctx}{op:Op}{st:St}{K K':St→SV→Prop}(h:OpVC P O op st K)(hk:∀st' res,K st' res→K' st' res):OpVC P O op st K':=fun base okc ns r outs a w o ho hi=>by
 obtain⟨v,w',h1,st',r',res,h2,h3⟩:=h base okc ns r outs a w o ho hi;exact⟨v,w',h1,st',r',res,hk _ _ h2,h3⟩
theorem Gl{O:Ctx}{ops:List Oper}{o:Oper}{st:St}{K:St→Prop}{sk:Bool}(hg:Grd ops (look st.fr) o sk)
  (hrun:sk=false→∀st1:St,(∀t,look st1.fr t=look st.fr t)→st1.hp=st.hp→st1.nid=st.nid→vP P O True o.op o.dst st1.nid st1 (fun st'=>K ⟨inD o.dst st'.fr,st'.hp,st'.nid+1⟩) (stepR P (look st1.fr) st1.hp o.op)∨(qbD o.op=true∧OpVC P O o.op st1 fun st' res=>K (st'.putI o.dst res)))
  (hskip:sk=true→∀st1:St,(∀t,look st1.fr t=look st.fr t)→st1.hp=st.hp→st1.nid=st.nid→K (st1.putI o.dst undefSV)):opH P O (dsts ops) o st K:=by
 unfold opH zf;unfold Grd at hg;have same:∀(t:Tmp)(b:Bool),look st.fr t=.val (.bool b)→∀u,look (st.put (some t) (.val (.bool b))).fr u=look st.fr u:=fun t b h u=>by
  rw[gn];by_cases c:some t=some u
  ·cases c;rw[if_pos rfl,h]
  ·rw[if_neg c]
 cases e:o.guard with
 |none=>
  rw[e]at hg;exact(hrun hg st (fun _=>rfl) rfl rfl).imp id fun h=>⟨h.1,.inl h.2⟩
 |some p=>
  obtain⟨g,want⟩:=p;rw[e]at hg;obtain⟨t,ht,hc⟩:=hg;dsimp only;rw[ht];dsimp only;rcases hc with⟨b,hb,hs⟩|⟨⟨vs,hb⟩,hs⟩
  ·rw[hb]
   cases want<;>cases b<;>dsimp only
   ·exact⟨fun x=>(by cases x),fun _=>(hrun hs _ (same t false hb) rfl rfl).imp id fun h=>⟨h.1,.inl h.2⟩⟩
   ·exact⟨fun _=>hskip hs _ (same t true hb) rfl rfl,fun x=>by cases x⟩
   ·exact⟨fun x=>(by cases x),fun _=>hskip hs _ (same t false hb) rfl rfl⟩
   ·exact⟨fun _=>(hrun hs _ (same t true hb) rfl rfl).imp id fun h=>⟨h.1,.inl h.2⟩,fun x=>by cases x⟩
  ·rw[hb]
   exact hskip hs _ (fun _=>rfl) rfl rfl
theorem vH(st:St)(d:Option Tmp)(v:SV)(t:Nat):look (st.putI d v).fr t=look (st.put d v).fr t:=by
 cases d with
 |none=>rfl
 |some d=>show look (putIn st.fr d v) t=_;rw[vt];rfl
theorem vI(st:St)(d:Option Tmp)(v:SV):(st.putI d v).hp=st.hp:=by cases d<;>rfl
theorem Ya(hm:P.follows .mixedOrders=true){O:Ctx}{st:St}{K:Ex→St→Prop}{id:Nat}{l:List Oper}{LM:Nat→Option Loop}(hc:qaN l)(res:Nat→SV)(Y:Nat→Tr 6 XB)(Z:Nat→Nat)(G:Nat→SV)(sk:Nat→Bool)
  (hsk:∀i o,l[i]? = some o→Grd l G o (sk i)∧(sk i=true→Y (i+1)=Y i∧(efL l i=true→Z i+l.length≤Z (i+1))∧∀d,o.dst=some d→res i=undefSV))
  (hY:∀j,j<l.length→efL l j=false→Y (j+1)=Y j∧Z (j+1)=Z j) (hG:∀t,G t=FS (nth (dsts l)) res (fun _=>true) (look st.fr) l.length t) (h0:HRel LM (Y 0) st.hp) (hz:st.nid=Z 0)
  (hp:∀i o,l[i]? = some o→sk i=false→efL l i=false→∀j,j≤l.length→loC l i≤kc (efL l) j→kc (efL l) j≤hiC l i→∀(F:Nat→SV)(H:List (Nat×Blk)),(∀t,t∈zI o→F t=G t)→HRel LM (Y j) H→∃s,PureAt P F H o.op s∧∀d,o.dst=some d→s=res i)
  (he:∀i o,l[i]? = some o→sk i=false→efL l i=true→∀st1:St,(∀t,t∈zI o→look st1.fr t=G t)→HRel LM (Y i) st1.hp→st1.nid=Z i+l.length→∀K':St→Prop,(∀st':St,(∀t,look st'.fr t=look (st1.put o.dst (res i)).fr t)→HRel LM (Y (i+1)) st'.hp→st'.nid+1≤Z (i+1)→K' st')→vP P O True o.op o.dst st1.nid st1 K' (stepR P (look st1.fr) st1.hp o.op))
  (hK:∀st':St,(∀t,look st'.fr t=G t)→HRel LM (Y l.length) st'.hp→st'.nid=Z l.length+l.length→K .normal st') {g:Tag K}:j5 P O id l true st K g:=by
 refine yV hm (fun m st'=>(∀t,look st'.fr t=FS (nth (dsts l)) res (fun i=>m.testBit i) (look st.fr) l.length t)∧∃j,j≤l.length∧kc (efL l) j=kc (fun e=>efL l e&&m.testBit e) l.length∧HRel LM (Y j) st'.hp∧st'.nid≤Z j+kc (fun i=>m.testBit i) l.length) rfl hc.edges (Weak.refl _ _) ?_ ?_ ?_
 ·refine⟨fun t=>(VH fun j _=>xb3 j).symm,0,xb6 _,?_,h0,Ω⟩
  rw[qco (n:=l.length) fun j _=>by rw[xb3,Bool.and_false]];rfl
 ·refine vF fun i o ho=>?_
  rw[xb0];rintro m st1 ⟨hf,j,hj,hkj,hH,hnid⟩ hcl hbit hanc;have hi:i<l.length:=(List.getElem?_eq_some_iff.1 ho).1;have anc:∀e,((zr [] l).getD i 0).testBit e=true→m.testBit e=true:=fun e h=>hanc e h (by have:=hc.lt i e hi h;omega);have hops:∀t,t∈zI o→look st1.fr t=G t:=fun t ht=>by
   rw[hf,hG];exact vG fun x hx hxt=>anc x (hc.ops i o t x ho ht hx hxt)
  have hdst:nth (dsts l) i=o.dst:=by rw[za,ho];rfl
  have frs:∀fr:List (Nat×SV),(∀t,look fr t=look (st1.put o.dst (res i)).fr t)→∀t,look fr t=FS (nth (dsts l)) res (fun x=>(m ||| 2^i).testBit x) (look st.fr) l.length t:=fun fr hfr t=>by
   rw[qaM (S:=fun x=>m.testBit x) (i:=i) (fun x=>tb m i x) hi fun x hx hxi h1 h2=>?_,hdst,←hf,hfr,gn];by_cases c:x<i
   ·exact hc.dist i x t c hi h1 h2
   ·exact hc.dist x i t Ω hx h2 h1
  have done:kc (fun x=>(m ||| 2^i).testBit x) l.length=kc (fun x=>m.testBit x) l.length+1:=by
   rw[VF (e:=fun x=>m.testBit x) (i:=i) (fun x hx=>by show(m ||| 2^i).testBit x=_;rw[tb];simp;intro e;exact absurd e.symm hx) hbit,if_pos ⟨hi,by show(m ||| 2^i).testBit i=true;rw[tb];simp⟩]
  obtain⟨hgrd,hskip⟩:=hsk i o ho;have hgrd:Grd l (look st1.fr) o (sk i):=by
   unfold Grd at hgrd ⊢;cases e:o.guard with
   |none=>rw[e]at hgrd;exact hgrd
   |some p=>
    obtain⟨g,want⟩:=p;rw[e]at hgrd;obtain⟨t,ht,hcc⟩:=hgrd;refine⟨t,ht,?_⟩;have hb:=(hc.grd i o g want ho e).1;have:look st1.fr t=G t:=by
     rw[hf,hG];refine vG fun x hx hxt=>?_;by_cases c:x=g
     ·rw[c];exact anc g hb
     ·exfalso
      have hgl:=hc.lt i g hi hb;by_cases d:x<g
      ·exact hc.dist g x t d Ω ht hxt
      ·exact hc.dist x g t Ω hx hxt ht
    rw[this];exact hcc
  cases q:efL l i with
  |false=>
   refine⟨st1,Weak.refl _ _,?_⟩;have fin:∀(s0:SV)(st2 st3:St),(∀t,look st2.fr t=look st1.fr t)→(∀d,o.dst=some d→s0=res i)→(∀t,look st3.fr t=look (st2.put o.dst s0).fr t)→HRel LM (Y j) st3.hp→st3.nid≤st1.nid+1→∃st4,Weak O st3 st4∧(∀t,look st4.fr t=FS (nth (dsts l)) res (fun x=>(m ||| 2^i).testBit x) (look st.fr) l.length t)∧∃j,j≤l.length∧kc (efL l) j=kc (fun e=>efL l e&&(m ||| 2^i).testBit e) l.length∧HRel LM (Y j) st4.hp∧st4.nid≤Z j+kc (fun x=>(m ||| 2^i).testBit x) l.length:=by
    intro s0 st2 st3 h2 hs0 h3 hH3 hn3;refine⟨st3,Weak.refl _ _,frs _ fun t=>?_,j,hj,?_,hH3,?_⟩
    ·rw[h3,gn,gn,h2]
     by_cases c:o.dst=some t
     ·rw[if_pos c,if_pos c,hs0 t c]
     ·rw[if_neg c,if_neg c]
    ·rw[hkj]
     refine QO fun e _=>?_;rw[tb];by_cases c:i=e
     ·subst c;rw[q];rfl
     ·simp[c]
    ·rw[done];omega
   refine Gl hgrd (fun hs st2 h2 h2h h2n=>?_) (fun hs st2 h2 h2h h2n=>?_)
   ·obtain⟨s0,h1,hs0⟩:=hp i o ho hs q j hj (by
     rw[hkj];refine VE fun e _ h=>?_;rw[xe6]at h ⊢;exact⟨h.1,anc e h.2⟩) (by
     rw[hkj];refine VE fun e _ h=>?_;rw[xe6]at h ⊢;refine⟨h.1,?_⟩;cases c:((zr [] l).getD e 0).testBit i with
     |false=>rfl
     |true=>rw[hcl e i c h.2]at hbit;cases hbit) (look st2.fr) st2.hp (fun t ht=>by rw[h2,hops t ht]) (by rw[h2h];exact hH)
    have f2:=fin s0 st2 ⟨inD o.dst (st2.put o.dst s0).fr,(st2.put o.dst s0).hp,(st2.put o.dst s0).nid+1⟩ h2 hs0 (fun t=>ge _ _ _) (by rw[zk,h2h];exact hH) (by rw[qr];show st2.nid+1≤_;omega);rcases h1 with(⟨obl,e,h⟩|⟨obl,e,h⟩)|⟨hnd,h⟩
    ·rw[e];exact .inl ⟨h,f2⟩
    ·rw[e];exact .inl ⟨_,h,f2⟩
    ·refine .inr ⟨hnd,(h O st2 (fun t _=>rfl) rfl).mono ?_⟩
     rintro st' res' ⟨rfl,rfl⟩;exact fin _ st' _ h2 hs0 (fun t=>vH _ _ _ _) (by rw[vI,h2h];exact hH) (by rw[ko];omega)
   ·exact fin undefSV st2 _ h2 (fun d hd=>((hskip hs).2.2 d hd).symm) (fun t=>vH _ _ _ _) (by rw[vI,h2h];exact hH) (by rw[ko];omega)
  |true=>
   have hks:kc (fun e=>efL l e&&m.testBit e) l.length=kc (efL l) i:=by
    refine Jy (fun e hei=>?_) Ω fun e hie hen=>?_
    ·show(efL l e&&m.testBit e)=efL l e
     cases c:efL l e with
     |false=>rfl
     |true=>rw[anc e (hc.chain i e hei hi q c)];rfl
    ·show(efL l e&&m.testBit e)=false
     cases c:efL l e with
     |false=>rfl
     |true=>
      cases d:m.testBit e with
      |false=>rfl
      |true=>
       by_cases x:e=i
       ·rw[x]at d;rw[d]at hbit;cases hbit
       ·rw[hcl e i (hc.chain e i Ω hen c q) d]at hbit;cases hbit
   have hst:Y j=Y i∧Z j=Z i:=by
    rw[hks]at hkj;by_cases c:j≤i
    ·exact vb hY c Ω hkj
    ·have:=vb hY (Ω:i≤j) hj hkj.symm
     exact⟨this.1.symm,this.2.symm⟩
   have fin:∀st3:St,(∀t,look st3.fr t=look (st1.put o.dst (res i)).fr t)→HRel LM (Y (i+1)) st3.hp→st3.nid≤Z (i+1)→∃st4,Weak O st3 st4∧(∀t,look st4.fr t=FS (nth (dsts l)) res (fun x=>(m ||| 2^i).testBit x) (look st.fr) l.length t)∧∃j,j≤l.length∧kc (efL l) j=kc (fun e=>efL l e&&(m ||| 2^i).testBit e) l.length∧HRel LM (Y j) st4.hp∧st4.nid≤Z j+kc (fun x=>(m ||| 2^i).testBit x) l.length:=by
    intro st3 h3 hH3 hn3;refine⟨st3,Weak.refl _ _,frs _ h3,i+1,hi,?_,hH3,Ω⟩;have k2:=VF (e:=fun e=>efL l e&&m.testBit e) (e':=fun e=>efL l e&&(m ||| 2^i).testBit e) (i:=i) (fun e hei=>by
     show(efL l e&&(m ||| 2^i).testBit e)=(efL l e&&m.testBit e);rw[tb,decide_eq_false (fun x=>hei x.symm),xf3]) (by show(efL l i&&m.testBit i)=false;rw[hbit,Bool.and_false]) (n:=l.length)
    rw[k2,if_pos ⟨hi,by show(efL l i&&(m ||| 2^i).testBit i)=true;rw[tb];simp[q]⟩,hks];simp[kc,q]
   refine⟨{ st1 with nid:=Z i+l.length },yW _ _ _ (by have:=qcm (e:=fun x=>m.testBit x) (n:=l.length);rw[hst.2]at hnid;omega),?_⟩;refine Gl (st:={ st1 with nid:=Z i+l.length }) hgrd (fun hs st2 h2 h2h h2n=>?_) (fun hs st2 h2 h2h h2n=>?_)
   ·refine .inl (he i o ho hs q st2 (fun t ht=>by rw[h2];exact hops t ht) (by rw[h2h,←hst.1];exact hH) h2n _ fun st' hf' hH' hn'=>?_)
    exact fin _ (fun t=>by rw[ge,hf',gn,gn,h2]) hH' hn'
   ·obtain⟨k1,k2,k3⟩:=hskip hs
    refine fin _ (fun t=>?_) (by rw[vI,h2h,k1,←hst.1];exact hH) (by rw[ko,h2n];exact k2 q);rw[vH,gn,gn,h2];by_cases c:o.dst=some t
    ·rw[if_pos c,if_pos c,k3 t c]
    ·rw[if_neg c,if_neg c]
 ·rintro m st1 ⟨hf,j,hj,hkj,hH,hnid⟩ hall
  have hk:kc (efL l) j=kc (efL l) l.length:=by
   rw[hkj];exact QO fun e he=>by rw[hall e he,xf1]
  obtain⟨h1,h2⟩:=vb hY hj (xa5 _) hk;have:=qcm (e:=fun i=>m.testBit i) (n:=l.length);refine⟨{ st1 with nid:=Z l.length+l.length },yW _ _ _ (by rw[h2]at hnid;omega),hK _ (fun t=>?_) (by rw[←h1];exact hH) rfl⟩;show look st1.fr t=_;rw[hf,hG];exact vG fun x hx _=>hall x hx
theorem VI{α:Type}:∀{l m:List α},l.Nodup→(∀x,x∈l→x∈m)→l.length≤m.length
 |[],m,_,_=>xb6 _
 |a :: l,m,hn,h=>by
  obtain⟨m1,m2,rfl⟩:=List.append_of_mem (h a xd5);rw[List.nodup_cons]at hn;have:=VI (m:=m1++m2) hn.2 fun x hx=>by
   have:=h x (List.mem_cons_of_mem _ hx);rw[xd4,List.mem_cons]at this;rw[xd4];rcases this with h1|rfl|h1
   ·exact .inl h1
   ·exact absurd hx hn.1
   ·exact .inr h1
  simp at this ⊢;omega
theorem JA{O:Ctx}{t:TypeId}{x:Operand}{id:Nat}{fit dom:Value→Bool}{get:Value→SV}{st:St}{mi:jx}(ht:qy P t=some mi)(hx:env (look st.fr) x=.mp id)(hb:blk st.hp id=some (.map fit dom get)){L:List Value}(hn:L.Nodup)(hL:∀k,dom k=true↔k∈L) :
  OpVC P O (.call ⟨.builtin .len,#[x],#[t]⟩) st fun st' res=>st'=st∧res=.val (.int .i64 (.ofNat L.length)):=by
 intro base okc ns r outs a w o ho hi;have hu:=hi.env x;rw[hx]at hu;generalize hex:a.eval x=u at hu;cases hu with
 |mp _ b hN hr=>
  have hrep:=hi.sat.rep _ _ hb hN;rw[hr]at hrep;cases hrep with
  |map _ _ _ _ es clock hw hm hbn hes=>
   have hk:∃kt et,P.underlying t=some (.map kt et):=by
    unfold qy at ht;split at ht
    ·exact⟨_,_,(by assumption)⟩
    ·cases ht
   obtain⟨kt,et,hk⟩:=hk;have hnk:(es.toList.map (·.key)).Nodup:=by
    refine List.pairwise_iff_getElem.2 fun i j hi' hj hij he=>?_;simp only[List.getElem_map]at he;rw[xe1]at hi' hj;have:=hm.once i j es.toList[i] es.toList[j] (by rw[←xf6,xc7]) (by rw[←xf6,xc7]) he;omega
   have hmem:∀k,k∈es.toList.map (·.key)↔k∈L:=fun k=>by
    rw[←hL,List.mem_map];constructor
    ·rintro⟨e,he,rfl⟩;exact hm.doms e (Array.mem_toList_iff.1 he)
    ·intro h
     obtain⟨e,he,hke⟩:=hm.has k h;exact⟨e,Array.mem_toList_iff.2 he,hke⟩
   have hlen:es.size=L.length:=by
    have h1:=VI hnk fun k hk=>(hmem k).1 hk;have h2:=VI hn fun k hk=>(hmem k).2 hk;have h3:=xf7 (xs:=es);rw[xe1]at h1 h2;omega
   refine⟨.int .i64 (.ofNat L.length),w,?_,st,r,_,⟨rfl,rfl⟩,xa5 _,hi,.val _⟩;obtain⟨dst,op,type,pos,aft,guard⟩:=o;simp only[]at ho;subst ho;have hobj:(getObj b).run P w=.ok (.map es clock) w:=by simp[getObj,Sem.run,hw]
   simp[execOp,Go.resolve,Go.invoke,Go.builtin,hex,Builtin.len_,run_underlying hk,hobj,goInt,hlen]
end
end Go.Sx
end
section
namespace Go.Tn
open Go.Proofs
open Go.Sx
theorem weakSU{O:Ctx}{fr fr':List (Nat×SV)}{hp hp':List (Nat×Blk)}{nid nid':Nat}(hn:nid≤nid')(hf:zo fr fr')(hh:SubHp hp hp'):Weak O ⟨fr,hp,nid⟩ ⟨fr',hp',nid'⟩:=
 Weak.trans (yW O ⟨fr,hp,nid⟩ nid' hn) (vQ hf hh)
def mxF(rw:Nat→Int)(to:Nat→Nat):Nat→Int
 |0=>0
 |j+1=>max (mxF rw to j) (rw (to j)+1)
theorem QP(rw:Nat→Int)(to:Nat→Nat)(j:Nat):mxF rw to (j+1)=max (mxF rw to j) (rw (to j)+1):=rfl
theorem qlN{rw:Nat→Int}{to:Nat→Nat}{X:Int}(hX:0≤X){m:Nat}(h:∀j,j<m→-1≤rw (to j)∧rw (to j)<X):0≤mxF rw to m∧mxF rw to m≤X:=by
 induction m with
 |zero=>exact⟨Int.le_refl _,hX⟩
 |succ m ih=>
  have⟨h1,h2⟩:=ih fun j hj=>h j Ω;have⟨h3,h4⟩:=h m Ω;rw[QP];omega
theorem qnn(H:List (Nat×Blk))(id tb xid rid mid N i m:Nat)(A Z:SV)(nx row:Nat→Nat→SV)(rw:Nat→Int)(to:Nat→Nat)
  (hN:N≤100000) (hi:i<N) (hm:m≤100) (hb:blk H tb=some (.cells 253 [A,Z,.vec xid N 1,.vec rid N 1,.mp mid])) (hx:blk H xid=some (.rows 22 1 N nx)) (hr:blk H rid=some (.rows 3 1 N row))
  (hrow:∀i,i<N→row i 0=.val (.int .i64 (rw i))) (hrw:∀i,i<N→-1≤rw i∧rw i<1000000) (hto:∀j,j<m→to j<N)
  (hnx:(m=0∧nx i 0=.val (.slice none 0 0))∨∃xi r,nx i 0=.vec xi m 1∧blk H xi=some (.rows 3 1 m r)∧∀j,j<m→r j 0=.val (.int .i64 (to j:Nat))) :
  EffVC Tryz.prog 278 [.ptr tb 0,.val (.int .i64 (i:Nat))] H id (fun hp' nid' res=>hp'=H∧id≤nid'∧nid'≤id+100*(m+2)∧
   (((∀j,j<m→0≤rw (to j))∧res=.tup [I (mxF rw to m),B true])∨((∃j,j<m∧rw (to j)<0)∧res=.tup [I 0,B false]))):=by
 refine vD follows Tryz.func278 rfl Ωc Ωc (by rw[Tryz.ntmps278];simp) fun out=>?_;rcases hnx with⟨rfl,hNx⟩|⟨xi,r,hNx,hxi,hr1⟩
 ·(repeat' (first|refine sD ?_ ?_<;>intro _|refine aA ?_|(simp -dsimp only[↓RP,RQ,xa0,reduceIte,reduceCtorEq,xa1,xa2,xa3,xa4,hb,hx,hr,hNx,QS,QT,QN])))
  all_goals try exact Ωb
  refine qo (fun(z:Unit)=>True) (fun _=>⟨[(0,.ptr tb 0),(6,.val (.int .i64 0)),(16,.val (.int .i64 0)),(17,.val (.int .i64 0))],H,id+50⟩) (fun _=>0) () trivial (weakSU Ω Ωf (SubHp.refl _)) fun z hz=>?_;(repeat' (first|refine sD ?_ ?_<;>intro _|refine aA ?_|(simp -dsimp only[↓RP,RQ,xa0,reduceIte,reduceCtorEq,xa1,xa2,xa3,xa4,hb,hx,hr,hNx,QS,QT,QN])))
  all_goals try exact Ωb
  refine⟨_,_,_,vQ (fr':=[(0,_)]) ⟨.inr rfl,trivial⟩ (SubHp.refl _),rfl,Ω,Ω,.inl ⟨fun j hj=>by omega,rfl⟩⟩
 ·have hW:True:=trivial
  (repeat' (first|refine sD ?_ ?_<;>intro _|refine aA ?_|(simp -dsimp only[↓RP,RQ,xa0,reduceIte,reduceCtorEq,xa1,xa2,xa3,xa4,hb,hx,hr,hNx,QS,QT,QN])))
  all_goals try exact Ωb
  refine qo (fun(j:Nat)=>j≤m∧∀k,k<j→0≤rw (to k)) (fun j=>⟨[(0,.ptr tb 0),(6,.val (.int .i64 (mxF rw to j))),(15,.vec xi m 1),(16,.val (.int .i64 (m:Nat))),(17,.val (.int .i64 (j:Nat)))],H,id+50+50*j⟩) (fun j=>m - j) 0 ⟨xb6 _,fun k hk=>by omega⟩ (weakSU Ω (by simp[zo,Go.Sx.look,mxF]) (SubHp.refl _)) fun j hj=>?_;obtain⟨hj,hk⟩:=hj;by_cases hjm:j<m
  ·have hrj:=hr1 j hjm
   have htj:=hto j hjm;have hrt:=hrow (to j) htj;have hrb:=hrw (to j) htj;have⟨hM0,hM1⟩:=qlN (rw:=rw) (to:=to) (X:=1000000) Ω (m:=j) fun k hk'=>hrw _ (hto k Ω);have hlt:=decide_eq_true (Ω:((j:Nat):Int)<(m:Nat));by_cases hneg:rw (to j)<0
   ·have hd:=decide_eq_true hneg
    (repeat' (first|refine sD ?_ ?_<;>intro _|refine aA ?_|(simp -dsimp only[↓RP,RQ,xa0,reduceIte,reduceCtorEq,xa1,xa2,xa3,xa4,hlt,hxi,hrj,hrt,hd,hb,hx,hr,hNx,QS,QT,QN])))
    all_goals try exact Ωb
    refine⟨_,_,_,vQ (fr':=[(0,_)]) ⟨.inr rfl,trivial⟩ (SubHp.refl _),rfl,Ω,Ω,.inr ⟨⟨j,hjm,hneg⟩,rfl⟩⟩
   ·have hd:=decide_eq_false hneg
    have hmx:max (mxF rw to j) (rw (to j)+1)=mxF rw to (j+1):=(QP rw to j).symm;(repeat' (first|refine sD ?_ ?_<;>intro _|refine aA ?_|(simp -dsimp only[↓RP,RQ,xa0,reduceIte,reduceCtorEq,xa1,xa2,xa3,xa4,hlt,hxi,hrj,hrt,hd,hmx,hb,hx,hr,hNx,QS,QT,QN])))
    all_goals try exact Ωb
    refine⟨j+1,⟨hjm,fun k hk'=>?_⟩,Ω,weakSU Ω Ωf (SubHp.refl _)⟩;rcases Nat.lt_succ_iff_lt_or_eq.1 hk' with h|rfl
    ·exact hk k h
    ·omega
  ·obtain rfl:j=m:=by omega
   have hlt:=decide_eq_false (Ω:¬((j:Nat):Int)<(j:Nat));(repeat' (first|refine sD ?_ ?_<;>intro _|refine aA ?_|(simp -dsimp only[↓RP,RQ,xa0,reduceIte,reduceCtorEq,xa1,xa2,xa3,xa4,hlt,hb,hx,hr,hNx,QS,QT,QN])))
   all_goals try exact Ωb
   refine⟨_,_,_,vQ (fr':=[(0,_)]) ⟨.inr rfl,trivial⟩ (SubHp.refl _),rfl,Ω,Ω,.inl ⟨hk,rfl⟩⟩
end Go.Tn
end
section
namespace Go.Tn
open Go.Sx
structure Fx(N:Nat)(len:Nat→Nat)(to:Nat→Nat→Nat)(F:Nat→Int):Prop where
 lo:∀i,i<N→-1≤F i
 hi:∀i,i<N→F i<1000000
 inn:∀i j,i<N→j<len i→to i j<N
 ok:∀i,i<N→(0≤F i↔∀j,j<len i→0≤F (to i j))
 eq:∀i,i<N→0≤F i→F i=mxF F (to i) (len i)
theorem qgK{F:Nat→Int}{to:Nat→Nat}{m j:Nat}(h:j<m):F (to j)+1≤mxF F to m:=by
 induction m with
 |zero=>omega
 |succ m ih=>
  rw[QP];rcases Nat.lt_succ_iff_lt_or_eq.1 h with h|rfl
  ·have:=ih h;omega
  ·omega
theorem qen{F G:Nat→Int}{to:Nat→Nat}{m:Nat}(h:∀j,j<m→F (to j)=G (to j)):mxF F to m=mxF G to m:=by
 induction m with
 |zero=>rfl
 |succ m ih=>rw[QP,QP,h m Ω,ih fun j hj=>h j Ω]
def Rw(N:Nat)(F rw:Nat→Int):Prop:=∀i,i<N→rw i=F i∨rw i = -1
theorem Fx.set{N:Nat}{len:Nat→Nat}{to:Nat→Nat→Nat}{F rw:Nat→Int}(h:Fx N len to F)(hr:Rw N F rw){i:Nat}(hi:i<N)(hk:∀j,j<len i→0≤rw (to i j)):0≤F i∧mxF rw (to i) (len i)=F i:=by
 have e:∀j,j<len i→rw (to i j)=F (to i j):=fun j hj=>by
  rcases hr _ (h.inn i j hi hj)with e|e
  ·exact e
  ·have:=hk j hj;omega
 have h0:0≤F i:=(h.ok i hi).2 fun j hj=>by rw[←e j hj];exact hk j hj
 exact⟨h0,by rw[qen e,←h.eq i hi h0]⟩
theorem Fx.fin{N:Nat}{len:Nat→Nat}{to:Nat→Nat→Nat}{F rw:Nat→Int}(h:Fx N len to F)(hr:Rw N F rw)(hk:∀i,i<N→rw i<0→∃j,j<len i∧rw (to i j)<0):∀(n i:Nat),i<N→F i<n→rw i=F i:=by
 intro n
 induction n with
 |zero=>intro i hi hf;have:=h.lo i hi;rcases hr i hi with e|e<;>omega
 |succ n ih=>
  intro i hi hf;rcases hr i hi with e|e
  ·exact e
  ·by_cases h0:0≤F i
   ·obtain⟨j,hj,hn⟩:=hk i hi Ω
    have h1:=(h.ok i hi).1 h0 j hj;have h2:=qgK (F:=F) (to:=to i) hj;rw[←h.eq i hi h0]at h2;have:=ih (to i j) (h.inn i j hi hj) Ω;omega
   ·have:=h.lo i hi;omega
def yq(rw:Nat→Int)(i:Nat)(x:Int):Nat→Int:=fun k=>if k=i then x else rw k
def cnt(rw:Nat→Int):Nat→Nat
 |0=>0
 |n+1=>cnt rw n+if rw n<0 then 1 else 0
theorem yQ(rw:Nat→Int):∀n,cnt rw n≤n
 |0=>xa5 _
 |n+1=>by have:=yQ rw n;simp only[cnt];split<;>omega
theorem qcp{rw:Nat→Int}{i:Nat}{x:Int}:∀{n},n≤i→cnt (yq rw i x) n=cnt rw n
 |0,_=>rfl
 |n+1,h=>by
  have:=qcp (rw:=rw) (x:=x) (n:=n) (i:=i) Ω;have e:yq rw i x n=rw n:=by unfold yq;rw[if_neg Ω]
  simp only[cnt,this,e]
theorem gP{rw:Nat→Int}{i:Nat}{x:Int}(h0:rw i<0)(hx:0≤x):∀{n},i<n→cnt (yq rw i x) n+1=cnt rw n
 |0,h=>by omega
 |n+1,h=>by
  rcases Nat.lt_succ_iff_lt_or_eq.1 h with h|rfl
  ·have:=gP h0 hx h
   have e:yq rw i x n=rw n:=by unfold yq;rw[if_neg Ω]
   simp only[cnt,e];omega
  ·have:=qcp (rw:=rw) (x:=x) (xa5 i)
   have e:yq rw i x i=x:=by unfold yq;rw[if_pos rfl]
   simp only[cnt,this,e];rw[if_pos h0,if_neg Ω]
def kp(f:Nat→Int)(n:Nat):Value:=.agg #[.int .i64 (f 0),.int .i64 (f 1),.int .i64 (f 2),.int .i64 (f 3),.int .i64 (f 4),.int .i64 (n:Nat)]
def kpL(f:Nat→Int)(n:Nat):List SV:=[.val (.int .i64 (f 0)),.val (.int .i64 (f 1)),.val (.int .i64 (f 2)),.val (.int .i64 (f 3)),.val (.int .i64 (f 4)),.val (.int .i64 (n:Nat))]
abbrev kfP:Value→Bool:=ql true [Lf.i .i64,Lf.i .i64,Lf.i .i64,Lf.i .i64,Lf.i .i64,Lf.i .i64]
def zK(v:Value):Nat:=match v with
 |.agg c=>(match c.toList with
  |[_,_,_,_,_,.int _ n]=>n.toNat
  |_=>0)
 |_=>0
theorem vJ(f:Nat→Int)(n:Nat):zK (kp f n)=n:=rfl
theorem eqK_kp{f:Nat→Int}{n:Nat}{v:Value}:eqK (kp f n) v=true↔v=kp f n:=by
 constructor
 ·intro h;exact(zw h).symm
 ·rintro rfl;simp[eqK,kp,jI,wg]
def kc(v:Value)(j:Nat):SV:=match v with
 |.agg c=>.val (c.toList.getD j undef)
 |_=>.top
theorem qgL(f:Nat→Int)(n:Nat):kc (kp f n) 0=.val (.int .i64 (f 0))∧kc (kp f n) 1=.val (.int .i64 (f 1))∧kc (kp f n) 2=.val (.int .i64 (f 2))∧kc (kp f n) 3=.val (.int .i64 (f 3))∧kc (kp f n) 4=.val (.int .i64 (f 4))∧kc (kp f n) 5=.val (.int .i64 (n:Nat)):=⟨rfl,rfl,rfl,rfl,rfl,rfl⟩
theorem qgM{O:Ctx}{fr:List (Nat×SV)}{hp:List (Nat×Blk)}{nid mid:Nat}{fit dom dom':Value→Bool}{get:Value→SV}{st:Value→Nat}{c:Nat}(hb:blk hp mid=some (.mapS fit dom get st c))(hd:∀v,dom' v=dom v):Weak O ⟨fr,hp,nid⟩ ⟨fr,setBlk hp mid (.map fit dom' get),nid⟩:=by
 obtain rfl:dom'=dom:=funext hd;rintro base okc ns outs a w ⟨r,h⟩;have hs:Step base okc r (· < nid) hp w r (· < nid) (setBlk hp mid (.map fit dom' get)) w:=h.sat.same hb fun G' hG' hN=>by
  have hrep:=h.sat.rep mid _ hb hN;cases hr:r mid with
  |none=>rw[hr]at hrep;cases hrep
  |some b=>
   rw[hr]at hrep;cases hrep with
   |mapS _ _ _ _ _ es clock hb' hmo htm hst hes=>
    exact .map fit dom' get b es _ hb' hmo htm fun e he=>(hes e he).mono (fun _ _=>rfl) (fun _ h=>h) (fun o c hc=>⟨hG' o c hc,rfl⟩) (Shapes.refl w)
 exact⟨r,h.step hs (fun id x hx=>by
  rw[qp]at hx;split at hx
  ·rename_i e;subst e;exact h.keys _ _ hb
  ·exact h.keys id x hx) (xa5 _) (d:=none) (fun t ht=>by cases ht) (.val undef)⟩
theorem nmA{a n:Nat}(h:a<n):(∀k,(a=n+k)=False)∧(∀k,(n+k=a)=False)∧(a=n)=False∧(n=a)=False:=
 ⟨fun k=>by rw[eq_iff_iff,iff_false];omega,fun k=>by rw[eq_iff_iff,iff_false];omega,by rw[eq_iff_iff,iff_false];omega,by rw[eq_iff_iff,iff_false];omega⟩
theorem nmE{a b:Nat}(h:a≠b):(a=b)=False∧(b=a)=False:=⟨by simp[h],by simp[Ne.symm h]⟩
theorem vK{α:Type}{l:List α}{s:α}(h:l.Nodup)(hs:s∉l):(l++[s]).Nodup:=by
 rw[List.nodup_append];exact⟨h,Ωg,fun a ha b hb=>by simp at hb;subst hb;exact fun e=>hs (e▸ha)⟩
theorem jv:∀(n:Nat)(l:List Nat),l.Nodup→(∀s,s∈l→s<n)→l.length≤n
 |0,l,_,h=>by
  cases l with
  |nil=>exact xa5 _
  |cons a l=>have:=h a xd5;omega
 |n+1,l,hn,h=>by
  by_cases hm:n∈l
  ·have h1:=jv n (l.erase n) (hn.erase n) fun s hs=>by
    have h2:=(List.Nodup.mem_erase_iff hn).1 hs;have:=h s h2.2;omega
   rw[List.length_erase_of_mem hm]at h1;omega
  ·have:=jv n l hn fun s hs=>by
    have:=h s hs;have:s≠n:=fun e=>hm (e▸hs);omega
   omega
theorem Zq{l:List Value}(h:l.Nodup){g:Value→Nat}(hi:∀a b,a∈l→b∈l→g a=g b→a=b):(l.map g).Nodup:=by
 induction l with
 |nil=>exact List.nodup_nil
 |cons a l ih=>
  rw[List.nodup_cons]at h;rw[List.map_cons,List.nodup_cons];refine⟨fun hm=>?_,ih h.2 fun x y hx hy=>hi x y (List.mem_cons_of_mem _ hx) (List.mem_cons_of_mem _ hy)⟩;obtain⟨x,hx,e⟩:=List.mem_map.1 hm;have:=hi x a (List.mem_cons_of_mem _ hx) xd5 e;subst this;exact h.1 hx
theorem zn{l:List (Nat×Blk)}{j:Nat}(h:blk l j=none):dropBlk l j=l:=by
 induction l with
 |nil=>rfl
 |cons p l ih=>
  obtain⟨i,b⟩:=p;simp only[blk]at h;split at h
  ·cases h
  ·rename_i hne
   simp only[dropBlk];rw[if_neg hne,ih h]
end Go.Tn
end
section
namespace Go.Tn
open Go.Proofs
open Go.Sx
theorem Ka{l:List (Nat×Blk)}{i:Nat}{b c:Blk}:setBlk (setBlk l i b) i c=setBlk l i c:=by
 induction l with
 |nil=>simp[setBlk]
 |cons p l ih=>
  obtain⟨j,x⟩:=p;simp only[setBlk];split
  iterate 2 focus simp[setBlk, *]
theorem qcq{l:List (Nat×Blk)}{i:Nat}{b x:Blk}(h:blk l i=some x):blk (setBlk l i b) i=some b:=by
 rw[qp,if_pos rfl,h];rfl
theorem qgN{l:List (Nat×Blk)}{i:Nat}{x:Blk}(h:blk l i=some x):setBlk l i x=l:=by
 induction l with
 |nil=>cases h
 |cons p l ih=>
  obtain⟨j,y⟩:=p;simp only[blk]at h;simp only[setBlk];split at h
  ·rename_i e
   cases h;simp[e]
  ·rename_i e
   simp[e,ih h]
def ROK(n i m:Nat)(row r:Nat→Nat→SV):Prop:=∀k,k<n→r k 0=if k<i∨m<k then row (n - 1 - k) 0 else row k 0
theorem qno(H:List (Nat×Blk))(id oid n:Nat)(row:Nat→Nat→SV)(hn:0<n)(hn2:n≤100000)(hb:blk H oid=some (.rows 3 1 n row))(hone:∀i,i<n→∃x:Int,row i 0=.val (.int .i64 x)) :
  EffVC Tryz.prog 279 [.vec oid n 1] H id (fun hp' nid' res=>id≤nid'∧nid'≤id+50*(n+1)∧res=.tup []∧∃r,(∀k,k<n→r k 0=row (n - 1 - k) 0)∧hp'=setBlk H oid (.rows 3 1 n r)):=by
 refine vD follows Tryz.func279 rfl Ωc Ωc (by rw[Tryz.ntmps279];simp) fun out=>?_;have eH:∀b,blk (setBlk H oid b) oid=some b:=fun b=>qcq hb;have hW:True:=trivial;(repeat' (first|refine sD ?_ ?_<;>intro _|refine aA ?_|(simp -dsimp only[↓RP,RQ,xa0,reduceIte,reduceCtorEq,xa1,xa2,xa3,xa4,hb,QS,Ka,QT,QN])))
 all_goals try exact Ωb
 refine qo (fun(z:Nat×Nat×(Nat→Nat→SV))=>z.1+z.2.1+1=n∧z.1≤z.2.1+1∧ROK n z.1 z.2.1 row z.2.2) (fun z=>⟨[(0,.vec oid n 1),(2,.val (.int .i64 (z.1:Nat))),(3,.val (.int .i64 (z.2.1:Nat)))],setBlk H oid (.rows 3 1 n z.2.2),id+10+30*z.1⟩) (fun z=>n - z.1) (0,n - 1,row) ⟨by simp only[];omega,by simp only[];omega,fun k hk=>by rw[if_neg (by simp only[];omega)]⟩ (by rw[qgN hb];exact weakSU Ω (by simp[zo,Go.Sx.look];omega) (SubHp.refl _)) fun z hz=>?_;obtain⟨i,m,r⟩:=z;obtain⟨z1,z2,z3⟩:=hz;simp only[]at z1 z2 z3;have one:∀k,k<n→∃x:Int,r k 0=.val (.int .i64 x):=fun k hk=>by
  rw[z3 k hk];split
  ·exact hone _ Ω
  ·exact hone _ hk
 by_cases hlt:i<m
 ·have h1:=decide_eq_true (Ω:((i:Nat):Int)<(m:Nat))
  obtain⟨x,hx⟩:=one i Ω;obtain⟨y,hy⟩:=one m Ω;(repeat' (first|refine sD ?_ ?_<;>intro _|refine aA ?_|(simp -dsimp only[↓RP,RQ,xa0,reduceIte,reduceCtorEq,xa1,xa2,xa3,xa4,h1,eH,hx,hy,QS,Ka,QT,QN])))
  all_goals try exact Ωb
  refine⟨(i+1,m - 1,_),⟨?_,?_,?_⟩,?_,weakSU (?_) (by simp[zo,Go.Sx.look];omega) (SubHp.refl _)⟩
  iterate 2 focus(simp only[];omega)
  ·intro k hk
   show(if k=m∧0=0 then SV.val (.int .i64 x)else if k=i∧0=0 then SV.val (.int .i64 y)else r k 0)=if k<i+1∨m - 1<k then row (n - 1 - k) 0 else row k 0
   by_cases e1:k=m
   ·rw[if_pos ⟨e1,rfl⟩,if_pos Ω,e1,←hx,z3 i Ω,if_neg Ω,show n - 1 - m=i by omega]
   ·rw[if_neg (fun e=>e1 e.1)]
    by_cases e2:k=i
    ·rw[if_pos ⟨e2,rfl⟩,if_pos Ω,e2,←hy,z3 m Ω,if_neg Ω,show n - 1 - i=m by omega]
    ·rw[if_neg (fun e=>e2 e.1),z3 k hk]
     by_cases e3:k<i∨m<k
     ·rw[if_pos e3,if_pos Ω]
     ·rw[if_neg e3,if_neg Ω]
  iterate 2 focus(simp only[];omega)
 ·have h1:=decide_eq_false (Ω:¬((i:Nat):Int)<(m:Nat))
  (repeat' (first|refine sD ?_ ?_<;>intro _|refine aA ?_|(simp -dsimp only[↓RP,RQ,xa0,reduceIte,reduceCtorEq,xa1,xa2,xa3,xa4,h1,eH,QS,Ka,QT,QN])))
  all_goals try exact Ωb
  refine⟨_,_,_,weakSU (nid':=id+50*(n+1)) Ω (fr':=[(0,_)]) ⟨.inr rfl,trivial⟩ (SubHp.refl _),Ω,Ω,rfl,r,fun k hk=>?_,rfl⟩;rw[z3 k hk];split
  ·rfl
  ·rw[show n - 1 - k=k by omega]
def JB(by':Nat→Nat)(N start:Nat):Nat→Nat→List Nat→Option (List Nat)
 |0,_,_=>none
 |f+1,at',acc=>if 0<by' at'∧at'<N then(if (by' at' - 1) / 5=start then some (acc++[(by' at' - 1) % 5])else JB by' N start f ((by' at' - 1) / 5) (acc++[(by' at' - 1) % 5]))else none
def qaO(l:List Nat)(r:Nat→Nat→SV):Prop:=∀i,i<l.length→r i 0=.val (.int .i64 (l.getD i 0:Nat))
def stB(tb oid byid N start:Nat)(H:List (Nat×Blk))(id c at':Nat)(acc:List Nat)(r:Nat→Nat→SV):St:=
 match acc with
 |[]=>⟨[(0,.ptr tb 0),(1,.vec byid N 1),(2,.val (.int .i64 (start:Nat))),(7,.val (.slice none 0 0)),(8,.val (.int .i64 (at':Nat)))],H,id+10+50*c⟩
 |_ :: l=>⟨[(0,.ptr tb 0),(1,.vec byid N 1),(2,.val (.int .i64 (start:Nat))),(7,.vec oid (l.length+1) 1),(8,.val (.int .i64 (at':Nat)))],(oid,.rows 3 1 (l.length+1) r) :: H,id+10+50*c⟩
theorem qok(H:List (Nat×Blk))(id tb byid N start fuel:Nat)(by':Nat→Nat)(row:Nat→Nat→SV)(res0:List Nat)(hN:N≤100000)(hU:Under H id)(hfu:fuel≤100000)(hs:start<N)(hby:byid<id)
  (hb:blk H byid=some (.rows 3 1 N row)) (hrow:∀i,i<N→row i 0=.val (.int .i64 (by' i:Nat))) (hB:∀i,i<N→by' i≤1000000) (hF:JB by' N start fuel start []=some res0) :
  EffVC Tryz.prog 164 [.ptr tb 0,.vec byid N 1,.val (.int .i64 (start:Nat))] H id (fun hp' nid' res=>nid'≤id+100*(fuel+2)∧∃rid r,id≤rid∧rid<nid'∧0<res0.length∧qaO res0.reverse r∧hp'=(rid,.rows 3 1 res0.length r) :: H∧res=.vec rid res0.length 1):=by
 refine vD follows Tryz.func164 rfl Ωc Ωc (by rw[Tryz.ntmps164];simp) fun out=>?_;have NB:True:=trivial;(repeat' (first|refine sD ?_ ?_<;>intro _|refine aAa ?_|(simp -dsimp only[↓RP,RQ,xa0,reduceIte,reduceCtorEq,xa1,xa2,xa3,xa4,NB,QS,QT,qL,QN])));refine qo (fun(z:Nat×Nat×Nat×List Nat×Nat×(Nat→Nat→SV))=>z.1+z.2.1=fuel∧JB by' N start z.1 z.2.2.1 z.2.2.2.1=some res0∧qaO z.2.2.2.1 z.2.2.2.2.2∧z.2.2.2.1.length≤z.2.1∧(z.2.2.2.1≠[]→id≤z.2.2.2.2.1∧z.2.2.2.2.1<id+10+50*z.2.1)) (fun z=>stB tb z.2.2.2.2.1 byid N start H id z.2.1 z.2.2.1 z.2.2.2.1 z.2.2.2.2.2) (fun z=>z.1) (fuel,0,start,[],0,fun _ _=>.top) ⟨by simp only[];omega,hF,fun i hi=>(by cases hi),xa5 _,fun h=>absurd rfl h⟩ (weakSU Ω Ωf (SubHp.refl _)) fun z hz=>?_;obtain⟨f,c,at',acc,oid,r⟩:=z;obtain⟨z1,z2,z3,z4,z5⟩:=hz;simp only[]at z1 z2 z3 z4 z5;cases f with
 |zero=>cases z2
 |succ f=>
 simp only[JB]at z2;split at z2
 case isFalse=>cases z2
 rename_i hpos;obtain⟨hp1,hp2⟩:=hpos;have hr0:=hrow at' hp2;have hB0:=hB at' hp2;obtain⟨n,hn⟩:∃n,n=id+10+50*c:=⟨_,rfl⟩;obtain⟨b,hbn⟩:∃b,by' at'=b+1:=⟨by' at' - 1,Ω⟩
 rw[hbn]at hr0 z2;rw[Nat.add_sub_cancel]at z2;have m1:((b+1:Nat):Int) - 1=(b:Nat):=by omega
 have m2:((b:Nat):Int).tmod 5=((b % 5:Nat):Int):=rfl;have m3:((b:Nat):Int).tdiv 5=((b / 5:Nat):Int):=rfl;have hq:b / 5≤b:=Nat.div_le_self _ _;have hq5:b % 5<5:=Nat.mod_lt _ Ωu;clear NB;have hbid:=hU _ _ hb;have NB:=(⟨nmA (Ω:byid<n),nmA (Ω:byid<id)⟩:_∧_);cases acc with
 |nil=>
  have hnr:qaO ([b % 5]) (fun i j=>[SV.val (.int .i64 ((b % 5:Nat):Int))].getD (i+j) SV.top):=by
   intro i hi;have e:i=0:=by have hi:i<1:=hi;omega
   subst e;rfl
  skip
  simp only[stB];rw[←hn];by_cases he:b / 5=start
  ·rw[if_pos he]at z2
   have he1:=decide_eq_true (Ω:((b / 5:Nat):Int)=(start:Nat));(repeat' (first|refine sD ?_ ?_<;>intro _|refine aAa ?_|(simp -dsimp only[↓RP,RQ,xa0,reduceIte,reduceCtorEq,xa1,xa2,xa3,xa4,he1,hb,hr0,m1,m2,m3,NB,QS,QT,qL,QN])))
   all_goals try exact Ωb
   skip
   have hl:res0=[b % 5]:=(Option.some.inj z2).symm;have hlen:res0.length=1:=by rw[hl];simp
   refine jd Ωx (qno _ _ (n+8) 1 (fun i j=>[SV.val (.int .i64 ((b % 5:Nat):Int))].getD (i+j) SV.top) Ω Ω ΩY (fun i hi=>⟨_,hnr i (by simp<;>omega)⟩)) fun hp' n3 res hQ=>?_;obtain⟨q1,q2,rfl,r3,q3,rfl⟩:=hQ;(repeat' (first|refine sD ?_ ?_<;>intro _|refine aAa ?_|(simp -dsimp only[↓RP,RQ,xa0,reduceIte,reduceCtorEq,xa1,xa2,xa3,xa4,setBlk,hb,hr0,m1,m2,m3,NB,QS,QT,qL,QN])))
   all_goals try exact Ωb
   refine⟨_,_,_,weakSU (nid':=id+100*(fuel+2)) Ω (fr':=[(0,_)]) ⟨.inr rfl,trivial⟩ (SubHp.cons (SubHp.skip (hU.none Ω) (SubHp.refl _))),Ω,n+8,r3,Ω,Ω,by rw[hlen];omega,fun i hi=>?_,by rw[hlen],by rw[hlen];rfl⟩;rw[List.length_reverse]at hi;have hi':i<1:=by omega
   rw[q3 i hi'];have e2:=hnr (1 - 1 - i) (by simp<;>omega);rw[hl];have e3:([b % 5]).reverse.getD i 0=([b % 5]).getD (1 - 1 - i) 0:=by
    rw[xc6,xc6,List.getElem?_reverse (by simp<;>omega)];simp
   rw[e3];exact e2
  ·rw[if_neg he]at z2
   have he1:=decide_eq_false (Ω:¬((b / 5:Nat):Int)=(start:Nat));(repeat' (first|refine sD ?_ ?_<;>intro _|refine aAa ?_|(simp -dsimp only[↓RP,RQ,xa0,reduceIte,reduceCtorEq,xa1,xa2,xa3,xa4,he1,hb,hr0,m1,m2,m3,NB,QS,QT,qL,QN])))
   all_goals try exact Ωb
   skip
   refine⟨(f,c+1,b / 5,[b % 5],n+8,(fun i j=>[SV.val (.int .i64 ((b % 5:Nat):Int))].getD (i+j) SV.top)),⟨by simp only[];omega,z2,hnr,Ωg,fun _=>by simp only[];omega⟩,by simp only[];omega,?_⟩;simp only[stB];exact weakSU Ω Ωf (SubHp.cons (SubHp.skip (hU.none Ω) (SubHp.refl _)))
 |cons x l=>
  have hnr:qaO (x ::(l++[b % 5])) (fun i j=>if i<l.length+1 then r i j else [SV.val (.int .i64 ((b % 5:Nat):Int))].getD (i -(l.length+1)+j) SV.top):=by
   intro i hi;rw[xe4,xc8,xd1]at hi;by_cases hc:i<l.length+1
   ·show(if i<l.length+1 then r i 0 else _)=_
    rw[if_pos hc,z3 i hc];have eG:(x ::(l++[b % 5])).getD i 0=(x :: l).getD i 0:=by
     rw[←List.cons_append,xc6,xc6,xc9 hc]
    rw[eG]
   ·have e:i=l.length+1:=by omega
    subst e;have eG:(x ::(l++[b % 5])).getD (l.length+1) 0=b % 5:=by simp[xc6]
    show(if l.length+1<l.length+1 then r (l.length+1) 0 else [SV.val (.int .i64 ((b % 5:Nat):Int))].getD (l.length+1 -(l.length+1)+0) SV.top)=_;rw[if_neg Ω,eG,xb8];rfl
  have⟨z6,z7⟩:=z5 Ωg;rw[←hn]at z7;rw[xe4]at z4;have NO:=(⟨nmE (Ω:oid≠byid),nmA z7⟩:_∧_);have hdr:dropBlk H oid=H:=zn (hU.none z6);simp only[stB];rw[←hn];by_cases he:b / 5=start
  ·rw[if_pos he]at z2
   have he1:=decide_eq_true (Ω:((b / 5:Nat):Int)=(start:Nat));(repeat' (first|refine sD ?_ ?_<;>intro _|refine aAa ?_|(simp -dsimp only[↓RP,RQ,xa0,reduceIte,reduceCtorEq,xa1,xa2,xa3,xa4,he1,hb,hr0,m1,m2,m3,NO,hdr,NB,QS,QT,qL,QN])))
   all_goals try exact Ωb
   skip
   have hl:res0=x ::(l++[b % 5]):=(Option.some.inj z2).symm;have hlen:res0.length=(l.length+2):=by rw[hl];simp
   refine jd Ωx (qno _ _ (n+8) (l.length+2) (fun i j=>if i<l.length+1 then r i j else [SV.val (.int .i64 ((b % 5:Nat):Int))].getD (i -(l.length+1)+j) SV.top) Ω Ω ΩY (fun i hi=>⟨_,hnr i (by simp<;>omega)⟩)) fun hp' n3 res hQ=>?_;obtain⟨q1,q2,rfl,r3,q3,rfl⟩:=hQ;(repeat' (first|refine sD ?_ ?_<;>intro _|refine aAa ?_|(simp -dsimp only[↓RP,RQ,xa0,reduceIte,reduceCtorEq,xa1,xa2,xa3,xa4,setBlk,hb,hr0,m1,m2,m3,NO,hdr,NB,QS,QT,qL,QN])))
   all_goals try exact Ωb
   refine⟨_,_,_,weakSU (nid':=id+100*(fuel+2)) Ω (fr':=[(0,_)]) ⟨.inr rfl,trivial⟩ (SubHp.cons (SubHp.skip (hU.none Ω) (SubHp.refl _))),Ω,n+8,r3,Ω,Ω,by rw[hlen];omega,fun i hi=>?_,by rw[hlen],by rw[hlen];rfl⟩;rw[List.length_reverse]at hi;have hi':i<(l.length+2):=by omega
   rw[q3 i hi'];have e2:=hnr ((l.length+2) - 1 - i) (by simp<;>omega);rw[hl];have e3:(x ::(l++[b % 5])).reverse.getD i 0=(x ::(l++[b % 5])).getD ((l.length+2) - 1 - i) 0:=by
    rw[xc6,xc6,List.getElem?_reverse (by simp<;>omega)];rw[show(x ::(l++[b % 5])).length=l.length+2 by simp]
   rw[e3];exact e2
  ·rw[if_neg he]at z2
   have he1:=decide_eq_false (Ω:¬((b / 5:Nat):Int)=(start:Nat));(repeat' (first|refine sD ?_ ?_<;>intro _|refine aAa ?_|(simp -dsimp only[↓RP,RQ,xa0,reduceIte,reduceCtorEq,xa1,xa2,xa3,xa4,he1,hb,hr0,m1,m2,m3,NO,hdr,NB,QS,QT,qL,QN])))
   all_goals try exact Ωb
   skip
   refine⟨(f,c+1,b / 5,x ::(l++[b % 5]),n+8,(fun i j=>if i<l.length+1 then r i j else [SV.val (.int .i64 ((b % 5:Nat):Int))].getD (i -(l.length+1)+j) SV.top)),⟨by simp only[];omega,z2,hnr,Ωl,fun _=>by simp only[];omega⟩,by simp only[];omega,?_⟩;simp only[stB,xc8,xd1];exact weakSU Ω Ωf (SubHp.cons (SubHp.skip (hU.none Ω) (SubHp.refl _)))
end Go.Tn
end
section
namespace Go.Tn
open Go.Proofs
open Go.Sx
def stL(s:Nat→Int):List SV:=[.val (.int .i64 (s 0)),.val (.int .i64 (s 1)),.val (.int .i64 (s 2)),.val (.int .i64 (s 3)),.val (.int .i64 (s 4))]
theorem VJ{s:Nat→Int}{k:Nat}(h:k<5):(stL s)[k]? = some (.val (.int .i64 (s k))):=by
 have:k=0∨k=1∨k=2∨k=3∨k=4:=by omega
 rcases this with rfl|rfl|rfl|rfl|rfl<;>rfl
theorem qcr(s:Nat→Int):(stL s).length=5:=rfl
def ixF(u s:Nat→Int):Nat→Int
 |0=>0
 |k+1=>ixF u s k*(u k+1)+s k
theorem QQ(u s:Nat→Int)(k:Nat):ixF u s (k+1)=ixF u s k*(u k+1)+s k:=rfl
theorem yY{u s:Nat→Int}{m:Nat}(h:∀i,i<m→0≤s i∧s i≤u i):∀{k},k≤m→0≤ixF u s k∧ixF u s k<prd u k
 |0,_=>⟨Int.le_refl _,Int.one_pos⟩
 |k+1,hk=>by
  have⟨h1,h2⟩:=yY h (k:=k) Ω;have⟨h3,h4⟩:=h k Ω;rw[QQ,qnd];constructor
  ·have:=Int.mul_nonneg h1 (Ω:(0:Int)≤u k+1);omega
  ·have h5:(ixF u s k+1)*(u k+1)≤prd u k*(u k+1):=Int.mul_le_mul_of_nonneg_right Ω Ω
   rw[Int.add_mul]at h5;omega
theorem qnp(H:List (Nat×Blk))(id tb m:Nat)(u s:Nat→Int)(tix:Nat)(tr:Nat→Nat→SV)(hti:tix<id)(hN0:blk H id=none)(ht:blk H tix=some (.rows 3 1 m tr))(htu:∀i,i<m→tr i 0=.val (.int .i64 (u i)))(Z1 Z2 Z3 Z4:SV)(hm:m≤5)(hu:∀i,i<m→1≤u i∧u i≤12)(hs:∀i,i<m→0≤s i∧s i≤u i)
  (hid:tb<id) (hb:blk H tb=some (.cells 253 [.vec tix m 1,Z1,Z2,Z3,Z4])) :
  EffVC Tryz.prog 162 [.ptr tb 0,.agg (stL s)] H id (fun hp' nid' res=>hp'=H∧nid'=id+200∧res=I (ixF u s m)):=by
 refine vD follows Tryz.func162 rfl Ωc Ωc (by rw[Tryz.ntmps162];simp) fun out=>?_;have NB:True:=trivial;have hlen:(stL s).length=5:=rfl;have hT:=ht;have NB:=(⟨nmA hid,nmE (Ω:id≠tb)⟩:_∧_);(repeat' (first|refine sD ?_ ?_<;>intro _|refine aAb ?_|(simp -dsimp only[↓RP,RQ,xa0,reduceIte,reduceCtorEq,xa1,xa2,xa3,xa4,NB,hb,hT,hlen,QS,QT,QN])))
 all_goals try exact Ωb
 refine qo (fun(k:Nat)=>k≤m) (fun k=>⟨[(0,.ptr tb 0),(3,.ptr id 0),(5,.val (.int .i64 (ixF u s k))),(12,.vec tix m 1),(13,.val (.int .i64 (m:Nat))),(14,.val (.int .i64 (k:Nat)))],(id,.cells 140 (stL s)) :: H,id+20+30*k⟩) (fun k=>m - k) 0 (xb6 _) (weakSU Ω (by simp[zo,Go.Sx.look,ixF]) (SubHp.refl _)) fun k hk=>?_;by_cases hkm:k<m
 ·have hlt:=decide_eq_true (Ω:((k:Nat):Int)<(m:Nat))
  have hsk:=VJ (s:=s) (k:=k) Ω;have⟨b1,b2⟩:=yY hs hk;have⟨b3,b4⟩:=yY hs (k:=k+1) hkm;have b5:=qbI hu hm hk;have b6:=qbI hu hm (k:=k+1) hkm;have b7:=hu k hkm;have b8:=hs k hkm;have b9:0≤ixF u s k*(u k+1):=Int.mul_nonneg b1 Ω;rw[QQ]at b3 b4;have htk:=htu k hkm;have NX:=(⟨nmA hti,nmE (Ω:tix≠id)⟩:_∧_);(repeat' (first|refine sD ?_ ?_<;>intro _|refine aAb ?_|(simp -dsimp only[↓RP,RQ,xa0,reduceIte,reduceCtorEq,xa1,xa2,xa3,xa4,NB,hlt,NX,htk,hb,hT,hlen,QS,QT,QN])))
  all_goals try exact Ωb
  refine⟨_,hsk,?_⟩;(repeat' (first|refine sD ?_ ?_<;>intro _|refine aAb ?_|(simp -dsimp only[↓RP,RQ,xa0,reduceIte,reduceCtorEq,xa1,xa2,xa3,xa4,NB,hlt,NX,htk,hb,hT,hlen,QS,QT,QN])))
  all_goals try exact Ωb
  refine⟨k+1,hkm,Ω,weakSU Ω (by simp[zo,Go.Sx.look,QQ]) (SubHp.refl _)⟩
 ·obtain rfl:k=m:=by omega
  have hlt:=decide_eq_false (Ω:¬((k:Nat):Int)<(k:Nat));(repeat' (first|refine sD ?_ ?_<;>intro _|refine aAb ?_|(simp -dsimp only[↓RP,RQ,xa0,reduceIte,reduceCtorEq,xa1,xa2,xa3,xa4,NB,hlt,hb,hT,hlen,QS,QT,QN])))
  all_goals try exact Ωb
  exact⟨_,_,_,weakSU (nid':=id+200) Ω (fr':=[(0,_)]) ⟨.inr rfl,trivial⟩ (SubHp.skip hN0 (SubHp.refl _)),rfl,rfl,rfl⟩
theorem qnq(H:List (Nat×Blk))(id tb m:Nat)(u s:Nat→Int)(o full:Bool)(row:Nat→Nat→SV)(hN0:blk H id=none)(htu:∀i,i<m→row i 0=.val (.int .i64 (u i)))(Z1 Z2 Z3 Z4:SV)(hm:m≤5)(hu:∀i,i<m→1≤u i∧u i≤12)(hs:∀i,i<m→0≤s i∧s i≤u i)
  (hid:tb<id) (hb:blk H tb=some (.cells 253 [.arr o full m 1 row,Z1,Z2,Z3,Z4])) :
  EffVC Tryz.prog 162 [.ptr tb 0,.agg (stL s)] H id (fun hp' nid' res=>hp'=H∧nid'=id+200∧res=I (ixF u s m)):=by
 refine vD follows Tryz.func162 rfl Ωc Ωc (by rw[Tryz.ntmps162];simp) fun out=>?_;have NB:True:=trivial;have hlen:(stL s).length=5:=rfl;have hT:True:=trivial;have NB:=(⟨nmA hid,nmE (Ω:id≠tb)⟩:_∧_);(repeat' (first|refine sD ?_ ?_<;>intro _|refine aAb ?_|(simp -dsimp only[↓RP,RQ,xa0,reduceIte,reduceCtorEq,xa1,xa2,xa3,xa4,NB,hb,hT,hlen,QS,QT,QN])))
 all_goals try exact Ωb
 refine qo (fun(k:Nat)=>k≤m) (fun k=>⟨[(0,.ptr tb 0),(3,.ptr id 0),(5,.val (.int .i64 (ixF u s k))),(12,.arr o full m 1 row),(13,.val (.int .i64 (m:Nat))),(14,.val (.int .i64 (k:Nat)))],(id,.cells 140 (stL s)) :: H,id+20+30*k⟩) (fun k=>m - k) 0 (xb6 _) (weakSU Ω (by simp[zo,Go.Sx.look,ixF]) (SubHp.refl _)) fun k hk=>?_;by_cases hkm:k<m
 ·have hlt:=decide_eq_true (Ω:((k:Nat):Int)<(m:Nat))
  have hsk:=VJ (s:=s) (k:=k) Ω;have⟨b1,b2⟩:=yY hs hk;have⟨b3,b4⟩:=yY hs (k:=k+1) hkm;have b5:=qbI hu hm hk;have b6:=qbI hu hm (k:=k+1) hkm;have b7:=hu k hkm;have b8:=hs k hkm;have b9:0≤ixF u s k*(u k+1):=Int.mul_nonneg b1 Ω;rw[QQ]at b3 b4;have htk:=htu k hkm;(repeat' (first|refine sD ?_ ?_<;>intro _|refine aAb ?_|(simp -dsimp only[↓RP,RQ,xa0,reduceIte,reduceCtorEq,xa1,xa2,xa3,xa4,NB,hlt,htk,hb,hT,hlen,QS,QT,QN])))
  all_goals try exact Ωb
  refine⟨_,hsk,?_⟩;(repeat' (first|refine sD ?_ ?_<;>intro _|refine aAb ?_|(simp -dsimp only[↓RP,RQ,xa0,reduceIte,reduceCtorEq,xa1,xa2,xa3,xa4,NB,hlt,htk,hb,hT,hlen,QS,QT,QN])))
  all_goals try exact Ωb
  refine⟨k+1,hkm,Ω,weakSU Ω (by simp[zo,Go.Sx.look,QQ]) (SubHp.refl _)⟩
 ·obtain rfl:k=m:=by omega
  have hlt:=decide_eq_false (Ω:¬((k:Nat):Int)<(k:Nat));(repeat' (first|refine sD ?_ ?_<;>intro _|refine aAb ?_|(simp -dsimp only[↓RP,RQ,xa0,reduceIte,reduceCtorEq,xa1,xa2,xa3,xa4,NB,hlt,hb,hT,hlen,QS,QT,QN])))
  all_goals try exact Ωb
  exact⟨_,_,_,weakSU (nid':=id+200) Ω (fr':=[(0,_)]) ⟨.inr rfl,trivial⟩ (SubHp.skip hN0 (SubHp.refl _)),rfl,rfl,rfl⟩
end Go.Tn
end
section
namespace Go.Tn
open Go.Proofs
open Go.Sx
theorem Yb(s:Nat→Int):List.take 5 (stL s)=stL s:=rfl
end Go.Tn
end
section
namespace Go.Tn
open Go.Proofs
open Go.Sx
end Go.Tn
end
section
namespace Go.Tn
open Go.Proofs
open Go.Sx
theorem TYP:True∧qn Tryz.prog 2=some ⟨false,1,some [.int .i64 0],.int .i64⟩∧qn Tryz.prog 3=some ⟨false,1,some [.int .i64 0],.int .i64⟩∧qn Tryz.prog 4=some ⟨false,1,some [.bool false],.bool⟩∧qn Tryz.prog 5=some ⟨false,1,some [.int .u8 0],.int .u8⟩∧qn Tryz.prog 22=some ⟨false,1,some [.slice none 0 0],.slice 3 1⟩∧qn Tryz.prog 25=some ⟨false,1,some [.slice none 0 0],.slice 5 1⟩∧qn Tryz.prog 28=some ⟨false,1,some [.int .i64 0],.int .i64⟩∧qn Tryz.prog 45=some ⟨false,1,some [.slice none 0 0],.slice 49 2⟩∧qn Tryz.prog 46=some ⟨false,1,some [.slice none 0 0],.slice 51 3⟩∧qn Tryz.prog 48=some ⟨true,8,some [.int .i64 0,.int .i64 0,.slice none 0 0,.slice none 0 0,.bool false,.int .i64 0,.int .i64 0,.int .i64 0],.struct [(0,1,some false),(1,1,some false),(2,1,some false),(3,1,some false),(4,1,some false),(5,1,some false),(6,1,some false),(7,1,some false)]⟩∧qB Tryz.prog 48=some [(0,1),(1,1),(2,1),(3,1),(4,1),(5,1),(6,1),(7,1)]∧qn Tryz.prog 49=some ⟨true,2,some [.int .u8 0,.int .u8 0],.array 2 5 1⟩∧qB Tryz.prog 49=some [(0,1),(1,1)]∧z9 Tryz.prog 49=some [.i .u8,.i .u8]∧qn Tryz.prog 51=some ⟨true,3,some [.int .i64 0,.int .i64 0,.int .i64 0],.struct [(0,1,some false),(1,1,some false),(2,1,some false)]⟩∧qB Tryz.prog 51=some [(0,1),(1,1),(2,1)]∧z9 Tryz.prog 51=some [.i .i64,.i .i64,.i .i64]∧qn Tryz.prog 55=some ⟨true,2,some [.int .i64 0,.int .i64 0],.array 2 3 1⟩∧qB Tryz.prog 55=some [(0,1),(1,1)]∧z9 Tryz.prog 55=some [.i .i64,.i .i64]∧qn Tryz.prog 57=some ⟨true,6,some [.int .i64 0,.int .i64 0,.int .i64 0,.int .i64 0,.int .i64 0,.int .i64 0],.struct [(0,1,some false),(1,1,some false),(2,1,some false),(3,1,some false),(4,1,some false),(5,1,some false)]⟩∧qB Tryz.prog 57=some [(0,1),(1,1),(2,1),(3,1),(4,1),(5,1)]∧z9 Tryz.prog 57=some [.i .i64,.i .i64,.i .i64,.i .i64,.i .i64,.i .i64]∧qn Tryz.prog 60=some ⟨false,1,some [.slice none 0 0],.slice 22 1⟩∧qF Tryz.prog 46=24∧qF Tryz.prog 48=96∧qF Tryz.prog 51=24∧qF Tryz.prog 55=16:=⟨trivial,Ωc,Ωc,Ωc,Ωc,Ωc,Ωc,Ωc,Ωc,Ωc,Ωc,Ωc,Ωc,Ωc,Ωc,Ωc,Ωc,Ωc,Ωc,Ωc,Ωc,Ωc,Ωc,Ωc,Ωc,Ωc,Ωc,Ωc,Ωc⟩
def qJ(nb:Nat)(f g q:Nat→Int):SV:=.arr false false nb 3 (fun i j=>[SV.val (.int .i64 (f i)),.val (.int .i64 (g i)),.val (.int .i64 (q i))].getD j .top)
def yr(a b c:Int):SV:=.agg [.val (.int .i64 a),.val (.int .i64 b),.val (.int .i64 c)]
def bkS(n:Int)(nb:Nat)(f g q:Nat→Int)(fav:Bool)(c d st:Int):SV:=.agg [.val (.int .i64 0),.val (.int .i64 n),qJ nb f g q,.val (.slice none 0 0),.val (.bool fav),.val (.int .i64 c),.val (.int .i64 d),.val (.int .i64 st)]
theorem zg(nb:Nat)(f g q:Nat→Int):Old (qJ nb f g q):=by
 simp only[qJ,Old];refine⟨trivial,fun i j hi hj=>?_⟩;have:j=0∨j=1∨j=2:=by omega
 rcases this with rfl|rfl|rfl<;>simp[Old]
theorem vL(n:Int)(nb:Nat)(f g q:Nat→Int)(fav:Bool)(c d st:Int):Old (bkS n nb f g q fav c d st):=by
 simp only[bkS,Old,OldL];exact⟨trivial,trivial,zg _ _ _ _,trivial,trivial,trivial,trivial,trivial,trivial⟩
theorem Yc(a b c:Int):Old (yr a b c):=by simp[yr,Old,OldL]
def okB(n a b c:Int):Prop:=(1≤c∧c≤1000)∧(0≤a∧a<n)∧b = -1
instance(n a b c:Int):Decidable (okB n a b c):=inferInstanceAs (Decidable (_∧_∧_))
def qgO(n c d st:Int):Prop:=(2≤n∧n≤8)∧(0≤c∧c≤1000000)∧(0≤d∧d≤500)∧1≤st∧st≤100
instance(n c d st:Int):Decidable (qgO n c d st):=inferInstanceAs (Decidable (_∧_∧_∧_∧_))
def ckB(n:Int)(nb:Nat)(f g q:Nat→Int)(c d st:Int):Int:=if ¬qgO n c d st then 3 else if 100<nb then 6 else if ¬(∀i,i<nb→okB n (f i) (g i) (q i))then 16 else 0
theorem ckB_ok{n:Int}{nb:Nat}{f g q:Nat→Int}{c d st:Int}:ckB n nb f g q c d st=0↔qgO n c d st∧nb≤100∧∀i,i<nb→okB n (f i) (g i) (q i):=by
 unfold ckB;by_cases h1:qgO n c d st
 ·rw[if_neg (fun h=>h h1)]
  by_cases h2:100<nb
  ·rw[if_pos h2]
   exact⟨fun h=>by omega,fun h=>by omega⟩
  ·rw[if_neg h2]
   by_cases h3:∀i,i<nb→okB n (f i) (g i) (q i)
   ·rw[if_neg (fun h=>h h3)]
    exact⟨fun _=>⟨h1,Ω,h3⟩,fun _=>rfl⟩
   ·rw[if_pos h3]
    exact⟨fun h=>by omega,fun h=>absurd h.2.2 h3⟩
 ·rw[if_pos h1]
  exact⟨fun h=>by omega,fun h=>absurd h.1 h1⟩
theorem qnr(x:Int):qf Tryz.prog 94 [.val (.slice none 0 0),I x] (B false):=by
 refine qg Tryz.func94 rfl Ωc follows Ωc _ _ (by rw[Tryz.ntmps94];simp) Ωh ?_;unfold I B;(repeat' (first|refine sD ?_ ?_<;>intro _|refine aAb ?_|(simp -dsimp only[↓RP,RQ,xa0,reduceIte,reduceCtorEq,xa1,xa2,xa3,xa4,TYP,QT,QN])))
 all_goals try exact Ωb
 refine qo (fun(_:Unit)=>True) (fun _=>⟨[(0,.val (.slice none 0 0)),(5,.val (.int .i64 0))],[],10⟩) (fun _=>0) () trivial (weakSU Ω Ωf (SubHp.refl _)) fun z hz=>?_;(repeat' (first|refine sD ?_ ?_<;>intro _|refine aAb ?_|(simp -dsimp only[↓RP,RQ,xa0,reduceIte,reduceCtorEq,xa1,xa2,xa3,xa4,TYP,QT,QN])))
 all_goals try exact Ωb
theorem qol  : qf Tryz.prog 182 [.val (.int .i64 0)] (B true):=by
 refine qg Tryz.func182 rfl Ωc follows Ωc _ _ (by rw[Tryz.ntmps182];simp) Ωh ?_;unfold B;(repeat' (first|refine sD ?_ ?_<;>intro _|refine aAb ?_|(simp -dsimp only[↓RP,RQ,xa0,reduceIte,reduceCtorEq,xa1,xa2,xa3,xa4,TYP,QT,QN])))
 all_goals try exact Ωb
theorem c90(n:Int)(nb:Nat)(f g q:Nat→Int)(fav:Bool)(c d st:Int)(x y z:Int):qf Tryz.prog 90 [bkS n nb f g q fav c d st,yr x y z] (B (decide (okB n x y z))):=by
 refine qg Tryz.func90 rfl Ωc follows Ωc _ _ (by rw[Tryz.ntmps90];simp) Ωh ?_;have h1:=qol;unfold bkS yr B qJ;by_cases g1:(1≤z∧z≤1000)∧(0≤x∧x<n)
 ·have d1:=decide_eq_false (Ω:¬z<1)
  have d2:=decide_eq_false (Ω:¬1000<z);have d3:=decide_eq_false (Ω:¬x<0);have d4:=decide_eq_false (Ω:¬n≤x);(repeat' (first|refine sD ?_ ?_<;>intro _|refine aAb ?_|(simp -dsimp only[↓RP,RQ,xa0,reduceIte,reduceCtorEq,xa1,xa2,xa3,xa4,d1,d2,d3,d4,TYP,QT,QN])))
  all_goals try exact Ωb
  refine qm (h1) Ωd Ωa ?_;(repeat' (first|refine sD ?_ ?_<;>intro _|refine aAb ?_|(simp -dsimp only[↓RP,RQ,xa0,reduceIte,reduceCtorEq,xa1,xa2,xa3,xa4,QT,TYP,QN])))
  all_goals try exact Ωb
  refine vV ?_;unfold okB;simp[g1]
 ·(repeat' (first|refine sD ?_ ?_<;>intro _|refine aAb ?_|(simp -dsimp only[↓RP,RQ,xa0,reduceIte,reduceCtorEq,xa1,xa2,xa3,xa4,TYP,QT,QN])))
  all_goals try exact Ωb
  all_goals exact vV (by rw[decide_eq_false];exact fun h=>g1 ⟨h.1,h.2.1⟩)
theorem c25(n:Int)(nb:Nat)(f g q:Nat→Int)(fav:Bool)(c d st:Int)(hnb:nb≤1000000):qf Tryz.prog 25 [bkS n nb f g q fav c d st] (I (ckB n nb f g q c d st)):=by
 refine qg Tryz.func25 rfl Ωc follows Ωc _ _ (by rw[Tryz.ntmps25];simp) Ωh ?_;have NB:True:=trivial;unfold bkS I;by_cases g1:qgO n c d st
 ·have⟨⟨a1,a2⟩,⟨a3,a4⟩,⟨a5,a6⟩,a7,a8⟩:=g1
  have d1:=decide_eq_false (Ω:¬n<2);have d2:=decide_eq_false (Ω:¬8<n);have d3:=decide_eq_false (Ω:¬c<0);have d4:=decide_eq_false (Ω:¬1000000<c);have d5:=decide_eq_false (Ω:¬d<0);have d6:=decide_eq_false (Ω:¬500<d);have d7:=decide_eq_false (Ω:¬st<1);have d8:=decide_eq_false (Ω:¬100<st);have z0:=decide_eq_false (Ω:¬(0:Int)<0);have z3:=decide_eq_false (Ω:¬(3:Int)<0);have NB:=(⟨d1,d2,d3,d4,d5,d6,d7,d8,z0,z3⟩:_∧_∧_∧_∧_∧_∧_∧_∧_∧_);by_cases g2:100<nb
  ·have e1:=decide_eq_true (Ω:(100:Int)<(nb:Nat))
   (repeat' (first|refine sD ?_ ?_<;>intro _|refine aAb ?_|(simp -dsimp only[↓RP,RQ,xa0,reduceIte,reduceCtorEq,xa1,xa2,xa3,xa4,qJ,e1,TYP,NB,QR,QT,QN])))
   all_goals try exact Ωb
   refine gI ?_;unfold ckB;rw[if_neg (fun h=>h g1),if_pos g2]
  ·have e1:=decide_eq_false (Ω:¬(100:Int)<(nb:Nat))
   (repeat' (first|refine sD ?_ ?_<;>intro _|refine aAb ?_|(simp -dsimp only[↓RP,RQ,xa0,reduceIte,reduceCtorEq,xa1,xa2,xa3,xa4,qJ,e1,TYP,NB,QR,QT,QN])))
   all_goals try exact Ωb
   refine qo (fun(w:Nat)=>w≤nb∧∀i,i<w→okB n (f i) (g i) (q i)) (fun w=>⟨[(1,.ptr 0 0),(3,.val (.int .i64 (w:Nat)))],[(0,.cells 48 [.val (.int .i64 0),.val (.int .i64 n),qJ nb f g q,.val (.slice none 0 0),.val (.bool fav),.val (.int .i64 c),.val (.int .i64 d),.val (.int .i64 st)])],200+40*w⟩) (fun w=>nb - w) 0 ⟨xb6 _,fun i hi=>by omega⟩ (weakSU Ω Ωf (SubHp.refl _)) fun w hw=>?_;obtain⟨hw,hk⟩:=hw;by_cases hwm:w<nb
   ·have hlt:=decide_eq_true (Ω:((w:Nat):Int)<(nb:Nat))
    have h90:=c90 n nb f g q fav c d st (f w) (g w) (q w);(repeat' (first|refine sD ?_ ?_<;>intro _|refine aAb ?_|(simp -dsimp only[↓RP,RQ,xa0,reduceIte,reduceCtorEq,xa1,xa2,xa3,xa4,qJ,hlt,TYP,NB,QR,QT,QN])))
    all_goals try exact Ωb
    refine qm (h90) ΩA Ωa ?_;by_cases ho:okB n (f w) (g w) (q w)
    ·have e2:=decide_eq_true ho
     (repeat' (first|refine sD ?_ ?_<;>intro _|refine aAb ?_|(simp -dsimp only[↓RP,RQ,xa0,reduceIte,reduceCtorEq,xa1,xa2,xa3,xa4,QT,e2,TYP,NB,QR,QN])))
     all_goals try exact Ωb
     exact⟨w+1,⟨hwm,fun i hi=>(by by_cases e:i=w;(subst e;exact ho);exact hk i Ω)⟩,Ω,weakSU Ω Ωf (SubHp.refl _)⟩
    ·have e2:=decide_eq_false ho
     (repeat' (first|refine sD ?_ ?_<;>intro _|refine aAb ?_|(simp -dsimp only[↓RP,RQ,xa0,reduceIte,reduceCtorEq,xa1,xa2,xa3,xa4,QT,e2,TYP,NB,QR,QN])))
     all_goals try exact Ωb
     refine gI ?_;unfold ckB;rw[if_neg (fun h=>h g1),if_neg g2,if_pos (fun h=>ho (h w hwm))]
   ·obtain rfl:nb=w:=by omega
    have hlt:=decide_eq_false (Ω:¬((nb:Nat):Int)<(nb:Nat));have d9:=decide_eq_false (Ω:¬n - 2<(0:Int));(repeat' (first|refine sD ?_ ?_<;>intro _|refine aAb ?_|(simp -dsimp only[↓RP,RQ,xa0,reduceIte,reduceCtorEq,xa1,xa2,xa3,xa4,qJ,hlt,d9,TYP,NB,QR,QT,QN])))
    all_goals try exact Ωb
    refine qo (fun(_:Unit)=>True) (fun _=>⟨[(1,.ptr 0 0),(4,.val (.int .i64 0))],[(0,.cells 48 [.val (.int .i64 0),.val (.int .i64 n),qJ nb f g q,.val (.slice none 0 0),.val (.bool fav),.val (.int .i64 c),.val (.int .i64 d),.val (.int .i64 st)])],300+40*nb⟩) (fun _=>0) () trivial (weakSU Ω Ωf (SubHp.refl _)) fun z hz=>?_;have d10:=decide_eq_false (Ω:¬(0:Int)<0);(repeat' (first|refine sD ?_ ?_<;>intro _|refine aAb ?_|(simp -dsimp only[↓RP,RQ,xa0,reduceIte,reduceCtorEq,xa1,xa2,xa3,xa4,qJ,d10,TYP,NB,QR,QT,QN])))
    all_goals try exact Ωb
    refine gI (ckB_ok.2 ⟨g1,Ω,hk⟩).symm
 ·have z0:=decide_eq_false (Ω:¬(0:Int)<0)
  have z3:=decide_eq_false (Ω:¬(3:Int)<0);(repeat' (first|refine sD ?_ ?_<;>intro _|refine aAb ?_|(simp -dsimp only[↓RP,RQ,xa0,reduceIte,reduceCtorEq,xa1,xa2,xa3,xa4,qJ,z0,z3,TYP,NB,QR,QT,QN])))
  all_goals try exact Ωb
  all_goals first|(exfalso;exact g1 ⟨⟨Ω,Ω⟩,⟨Ω,Ω⟩,⟨Ω,Ω⟩,Ω,Ω⟩)|skip
  all_goals refine gI ?_
  all_goals (unfold ckB;rw[if_pos g1])
end Go.Tn
end
section
namespace Go.Tn
open Go.Proofs
open Go.Sx
theorem TYQ:True∧qn Tryz.prog 32=some ⟨false,1,some [.slice none 0 0],.slice 2 1⟩:=⟨trivial,Ωc⟩
theorem qlO{P:SV→Prop}{a0 a1 a2 a3 a4 a5 a6 a7:SV}(h0:P a0)(h1:P a1)(h2:P a2)(h3:P a3)(h4:P a4)(h5:P a5)(h6:P a6)(h7:P a7):∀j,j<8→P ([a0,a1,a2,a3,a4,a5,a6,a7].getD j .top):=by
 intro j hj;have:j=0∨j=1∨j=2∨j=3∨j=4∨j=5∨j=6∨j=7:=by omega
 rcases this with rfl|rfl|rfl|rfl|rfl|rfl|rfl|rfl<;>assumption
theorem qlP(m:Nat)(u:Nat→Int)(g:Nat)(caps:List SV)(ho:OldL caps)(b:Nat→Bool)(hm:m≤1000000)(hg:∀i,i<m→qf Tryz.prog g (.val (.int .i64 (u i)) :: caps) (B (b i))):qf Tryz.prog 304 [ints m u,.fn (.func g) [] caps] (I (zx b 0 m)):=by
 refine qg Tryz.func304 rfl Ωc follows Ωc _ _ (by rw[Tryz.ntmps304];simp) ΩM ?_
 conv=>arg 4;unfold ints
 (simp -dsimp only[↓RP,RQ,xa0,reduceIte,reduceCtorEq,xa1,xa2,xa3,xa4,TYQ,TYP,TY,Tryz.results304]);refine qo (fun i=>i≤m∧zx b 0 m=zx b i (m - i)) (fun i=>⟨[(0,.arr false false m 1 (fun i _=>.val (.int .i64 (u i)))),(1,.fn (.func g) [] caps),(7,.val (.int .i64 m)),(8,.val (.int .i64 i))],[],0⟩) (fun i=>m - i) 0 ⟨xb6 _,rfl⟩ (weak [] [] ?_ ?_ ?_) fun i hi=>?_
 ·(simp -dsimp only[↓RP,RQ,xa0,reduceIte,reduceCtorEq,xa1,xa2,xa3,xa4,QV]);all_goals (try simp[wkL_refl caps ho,QV])
 iterate 2 focus(simp -dsimp only[↓RP,RQ,xa0,reduceIte,reduceCtorEq,xa1,xa2,xa3,xa4,QV])
 obtain⟨hi,he⟩:=hi;have e1:∀k,m - i=k+1→zx b i (m - i)=if b i=true then(i:Int)else zx b (i+1) k:=fun k hk=>by rw[hk];rfl
 (repeat' (first|refine sD ?_ ?_<;>intro _|refine aA ?_|(simp -dsimp only[↓RP,RQ,xa0,reduceIte,reduceCtorEq,xa1,xa2,xa3,xa4,QT,TYQ,TYP,QN])))
 ·rename_i hlt
  have hlt:i<m:=by omega
  have e2:=e1 (m -(i+1)) Ω;refine qm (hg i hlt) (by(simp -dsimp only[↓RP,RQ,xa0,reduceIte,reduceCtorEq,xa1,xa2,xa3,xa4,QV,I]);all_goals (try simp[subL_refl caps ho,QV])) Ωp ?_;(repeat' (first|refine sD ?_ ?_<;>intro _|refine aA ?_|(simp -dsimp only[↓RP,RQ,xa0,reduceIte,reduceCtorEq,xa1,xa2,xa3,xa4,QT,TYQ,TYP,QN])))
  ·rename_i h
   refine gI ?_;rw[he,e2,if_pos h]
  ·rename_i h1
   refine⟨i+1,⟨Ω,?_⟩,Ω,weak [] [] ?_ ?_ ?_⟩
   ·rw[he,e2,if_neg (by simp[h1])]
   ·(simp -dsimp only[↓RP,RQ,xa0,reduceIte,reduceCtorEq,xa1,xa2,xa3,xa4,QV]);all_goals (try simp[wkL_refl caps ho,QV])
   iterate 2 focus(simp -dsimp only[↓RP,RQ,xa0,reduceIte,reduceCtorEq,xa1,xa2,xa3,xa4,QV])
 ·rename_i hlt
  refine gI ?_;have:m - i=0:=by omega
  rw[he,this];rfl
theorem qlQ(m:Nat)(u:Nat→Int)(g:Nat)(caps:List SV)(ho:OldL caps)(b:Nat→Bool)(hm:m≤1000000)(hg:∀i,i<m→qf Tryz.prog g (.val (.int .i64 (u i)) :: caps) (B (b i))):qf Tryz.prog 202 [ints m u,.fn (.func g) [] caps] (B (decide (K8 b m))):=by
 refine qg Tryz.func202 rfl Ωc follows Ωc _ _ (by rw[Tryz.ntmps202];simp) ΩM ?_;(simp -dsimp only[↓RP,RQ,xa0,reduceIte,reduceCtorEq,xa1,xa2,xa3,xa4,TY,QV,QN]);refine qm (qlP m u g caps ho b hm hg) (by(simp -dsimp only[↓RP,RQ,xa0,reduceIte,reduceCtorEq,xa1,xa2,xa3,xa4,QV,ints]);all_goals (try simp[subL_refl caps ho,QV])) Ωq ?_;(repeat' (first|refine sD ?_ ?_<;>intro _|refine aA ?_|simp -dsimp only[↓RP,RQ,xa0,reduceIte,reduceCtorEq,xa1,xa2,xa3,xa4,I,B,QV,TYQ,TYP,TY,QN]));refine vV ?_;rw[Bool.eq_iff_iff];simp[←K9]
theorem qom(n lo hi:Int):qf Tryz.prog 356 (.val (.int .i64 n) :: j6 lo hi) (B (decide (n<lo) || decide (hi<n))):=by
 refine qg Tryz.func356 rfl Ωc follows Ωc _ _ (by rw[Tryz.ntmps356];simp[j6]) (by simp[OldL,Old,j6]) ?_;unfold j6 B;(repeat' (first|refine sD ?_ ?_<;>intro _|refine aA ?_|simp -dsimp only[↓RP,RQ,xa0,reduceIte,reduceCtorEq,xa1,xa2,xa3,xa4,TYQ,TY,Tryz.results356]))
 all_goals (refine vV ?_;rw[Bool.eq_iff_iff];simp;omega)
theorem qeo(x lo hi:Int):qf Tryz.prog 286 [I lo,I hi,ints 1 (fun _=>x)] (B (decide (lo≤x∧x≤hi))):=by
 refine qg Tryz.func286 rfl Ωc follows Ωc _ _ (by rw[Tryz.ntmps286];simp) Ωh ?_;unfold I B;(simp -dsimp only[↓RP,RQ,xa0,reduceIte,reduceCtorEq,xa1,xa2,xa3,xa4,TYQ,TY,Tryz.results286]);refine qm (qlQ 1 (fun _=>x) 356 (j6 lo hi) (qge lo hi) (fun i=>decide (x<lo) || decide (hi<x)) Ω fun i _=>qom x lo hi) (by(simp -dsimp only[↓RP,RQ,xa0,reduceIte,reduceCtorEq,xa1,xa2,xa3,xa4,QV,ints,j6,I]);all_goals (try simp[j6,ints])) Ωp ?_;(repeat' (first|refine sD ?_ ?_<;>intro _|refine aA ?_|simp -dsimp only[↓RP,RQ,xa0,reduceIte,reduceCtorEq,xa1,xa2,xa3,xa4,B,TYQ,TY,Tryz.results286]));refine vV ?_;rw[Bool.eq_iff_iff];have:=Zk (fun _=>x) 1 lo hi;rw[qjd]at this;by_cases h:lo≤x∧x≤hi
 ·have h':¬K8 (fun i=>decide (x<lo) || decide (hi<x)) 1:=fun y=>this.1 y h
  rw[decide_eq_true h,decide_eq_false h'];simp
 ·rw[decide_eq_false h,decide_eq_true (this.2 h)];simp
def wF(n:Int)(nb:Nat)(f g q:Nat→Int)(fav:Bool)(c d st:Int):List SV:=[.ref false 8 (fun j=>[SV.val (.int .i64 0),.val (.int .i64 n),qJ nb f g q,.val (.slice none 0 0),.val (.bool fav),.val (.int .i64 c),.val (.int .i64 d),.val (.int .i64 st)].getD j .top)]
theorem wG(n:Int)(nb:Nat)(f g q:Nat→Int)(fav:Bool)(c d st:Int):OldL (wF n nb f g q fav c d st):=by
 simp only[wF,OldL,Old,and_true];refine⟨trivial,fun j hj=>?_⟩;have:=zg nb f g q;have:j=0∨j=1∨j=2∨j=3∨j=4∨j=5∨j=6∨j=7:=by omega
 rcases this with rfl|rfl|rfl|rfl|rfl|rfl|rfl|rfl<;>simp_all [Old]
theorem qon(r:Int)(n:Int)(nb:Nat)(f g q:Nat→Int)(fav:Bool)(c d st:Int):qf Tryz.prog 350 (.val (.int .i64 r) :: wF n nb f g q fav c d st) (B (decide (r<0) || decide (n≤r))):=by
 refine qg Tryz.func350 rfl Ωc follows Ωc _ _ (by rw[Tryz.ntmps350];simp[wF]) (by simp only[OldL,Old,true_and];exact wG _ _ _ _ _ _ _ _ _) ?_;unfold wF B;(repeat' (first|refine sD ?_ ?_<;>intro _|refine aA ?_|simp -dsimp only[↓RP,RQ,xa0,reduceIte,reduceCtorEq,xa1,xa2,xa3,xa4,TYP,TYQ,TY,Tryz.results350]))
 all_goals (refine vV ?_;rw[Bool.eq_iff_iff];simp;omega)
theorem qoo(x:Int)(n:Int)(nb:Nat)(f g q:Nat→Int)(fav:Bool)(c d st:Int):qf Tryz.prog 272 [bkS n nb f g q fav c d st,ints 1 (fun _=>x)] (B (decide (0≤x∧x<n))):=by
 refine qg Tryz.func272 rfl Ωc follows Ωc _ _ (by rw[Tryz.ntmps272];simp) Ωh ?_;unfold bkS B;(simp -dsimp only[↓RP,RQ,xa0,reduceIte,reduceCtorEq,xa1,xa2,xa3,xa4,TYP,TYQ,TY,Tryz.results272]);refine qm (qoi 1 (fun _=>x) 350 (wF n nb f g q fav c d st) (wG _ _ _ _ _ _ _ _ _) (fun i=>decide (x<0) || decide (n≤x)) Ω fun i _=>qon x n nb f g q fav c d st) (by(simp -dsimp only[↓RP,RQ,xa0,reduceIte,reduceCtorEq,xa1,xa2,xa3,xa4,QV,ints,wF,I]);all_goals (try simp[wF,ints,Go.Sx.Sub,Go.Sx.SubL]);all_goals (try (intro j hj;refine⟨qlO (P:=fun z=>Go.Sx.Sub _ z z) ?_ ?_ ?_ ?_ ?_ ?_ ?_ ?_ j hj,hj⟩<;>first|exact qN _ (zg _ _ _ _)|exact qN _ (by simp[Old])))) Ωp ?_;(repeat' (first|refine sD ?_ ?_<;>intro _|refine aA ?_|simp -dsimp only[↓RP,RQ,xa0,reduceIte,reduceCtorEq,xa1,xa2,xa3,xa4,B,TYP,TYQ,TY,Tryz.results272]));refine vV ?_;rw[Bool.eq_iff_iff];have hA:K8 (fun i=>decide (x<0) || decide (n≤x)) 1↔¬(0≤x∧x<n):=by
  unfold K8;constructor
  ·rintro⟨i,hi,h⟩;simp at h;omega
  ·intro h;exact⟨0,Ω,Ωl⟩
 by_cases h:0≤x∧x<n
 ·rw[decide_eq_true h,decide_eq_false (fun y=>hA.1 y h)];simp
 ·rw[decide_eq_false h,decide_eq_true (hA.2 h)];simp
theorem qlR(n:Int)(nb:Nat)(f g q:Nat→Int)(fav:Bool)(c d st:Int):qf Tryz.prog 257 [bkS n nb f g q fav c d st] (B true):=by
 refine qg Tryz.func257 rfl Ωc follows Ωc _ _ (by rw[Tryz.ntmps257];simp) Ωh ?_;have NB:True:=trivial;unfold bkS B;(repeat' (first|refine sD ?_ ?_<;>intro _|refine aAb ?_|(simp -dsimp only[↓RP,RQ,xa0,reduceIte,reduceCtorEq,xa1,xa2,xa3,xa4,TYQ,TYP,NB,QR,QT,QN])))
 all_goals try exact Ωb
theorem qop(n:Int)(nb:Nat)(f g q:Nat→Int)(fav:Bool)(c d st:Int)(x y z:Int)(h:okB n x y z):qf Tryz.prog 289 [bkS n nb f g q fav c d st,yr x y z] (B false):=by
 refine qg Tryz.func289 rfl Ωc follows Ωc _ _ (by rw[Tryz.ntmps289];simp) Ωh ?_;have NB:True:=trivial;obtain⟨⟨b1,b2⟩,⟨b3,b4⟩,rfl⟩:=h;have h1:=qeo z 1 1000;rw[decide_eq_true (Ω:1≤z∧z≤1000)]at h1;have h2:=qoo x n nb f g q fav c d st;rw[decide_eq_true (Ω:0≤x∧x<n)]at h2;have h3:=qlR n nb f g q fav c d st;unfold bkS yr B;(repeat' (first|refine sD ?_ ?_<;>intro _|refine aAb ?_|(simp -dsimp only[↓RP,RQ,xa0,reduceIte,reduceCtorEq,xa1,xa2,xa3,xa4,TYQ,TYP,NB,QR,QT,QN])))
 all_goals try exact Ωb
 refine qm (h1) Ωd Ωa ?_;(repeat' (first|refine sD ?_ ?_<;>intro _|refine aAb ?_|(simp -dsimp only[↓RP,RQ,xa0,reduceIte,reduceCtorEq,xa1,xa2,xa3,xa4,QT,TYQ,TYP,NB,QR,QN])))
 all_goals try exact Ωb
 refine qm (h2) (by simp only[SubL,and_true];refine⟨qN _ (vL _ _ _ _ _ _ _ _ _),?_⟩;(simp -dsimp only[↓RP,RQ,xa0,reduceIte,reduceCtorEq,xa1,xa2,xa3,xa4,QV,ints,I,B]);all_goals (try simp[QV,Go.Sx.Sub,Go.Sx.SubL])) Ωa ?_;(repeat' (first|refine sD ?_ ?_<;>intro _|refine aAb ?_|(simp -dsimp only[↓RP,RQ,xa0,reduceIte,reduceCtorEq,xa1,xa2,xa3,xa4,QT,TYQ,TYP,NB,QR,QN])))
 all_goals try exact Ωb
 refine qm (h3) ΩB Ωa ?_;(repeat' (first|refine sD ?_ ?_<;>intro _|refine aAb ?_|(simp -dsimp only[↓RP,RQ,xa0,reduceIte,reduceCtorEq,xa1,xa2,xa3,xa4,QT,TYQ,TYP,NB,QR,QN])))
 all_goals try exact Ωb
theorem qoq(n:Int)(nb:Nat)(f g q:Nat→Int)(fav:Bool)(c d st:Int)(x y z:Int)(h:okB n x y z):qf Tryz.prog 288 (yr x y z :: wF n nb f g q fav c d st) (B false):=by
 refine qg Tryz.func288 rfl Ωc follows Ωc _ _ (by rw[Tryz.ntmps288];simp[wF]) (by simp only[OldL];exact⟨Yc _ _ _,wG _ _ _ _ _ _ _ _ _⟩) ?_;have NB:True:=trivial;have h1:=qop n nb f g q fav c d st x y z h;unfold wF yr B;(repeat' (first|refine sD ?_ ?_<;>intro _|refine aAb ?_|(simp -dsimp only[↓RP,RQ,xa0,reduceIte,reduceCtorEq,xa1,xa2,xa3,xa4,TYQ,TYP,NB,QR,QT,QN])))
 all_goals try exact Ωb
 refine qm (h1) ΩA Ωa ?_;(repeat' (first|refine sD ?_ ?_<;>intro _|refine aAb ?_|(simp -dsimp only[↓RP,RQ,xa0,reduceIte,reduceCtorEq,xa1,xa2,xa3,xa4,QT,TYQ,TYP,NB,QR,QN])))
 all_goals try exact Ωb
theorem qor(m:Nat)(bf bg bq:Nat→Int)(g:Nat)(caps:List SV)(ho:OldL caps)(b:Nat→Bool)(hm:m≤1000000)(hg:∀i,i<m→qf Tryz.prog g (.agg [.val (.int .i64 (bf i)),.val (.int .i64 (bg i)),.val (.int .i64 (bq i))] :: caps) (B (b i))):qf Tryz.prog 357 [qJ m bf bg bq,.fn (.func g) [] caps] (I (zx b 0 m)):=by
 refine qg Tryz.func357 rfl Ωc follows Ωc _ _ (by rw[Tryz.ntmps357];simp) (by simp[OldL,Old,QV,ints,I,ho,zg]) ?_
 conv=>arg 4;unfold qJ
 (simp -dsimp only[↓RP,RQ,xa0,reduceIte,reduceCtorEq,xa1,xa2,xa3,xa4,TYQ,TYP,TY,Tryz.results357]);refine qo (fun i=>i≤m∧zx b 0 m=zx b i (m - i)) (fun i=>⟨[(0,.arr false false m 3 (fun i j=>[SV.val (.int .i64 (bf i)),.val (.int .i64 (bg i)),.val (.int .i64 (bq i))].getD j .top)),(1,.fn (.func g) [] caps),(7,.val (.int .i64 m)),(8,.val (.int .i64 i))],[],0⟩) (fun i=>m - i) 0 ⟨xb6 _,rfl⟩ (weak [] [] ?_ ?_ ?_) fun i hi=>?_
 ·(simp -dsimp only[↓RP,RQ,xa0,reduceIte,reduceCtorEq,xa1,xa2,xa3,xa4,QV]);all_goals (try simp[wkL_refl caps ho,QV]);all_goals (try (intro i j hi hj;(have hj3:j=0∨j=1∨j=2:=by omega);(rcases hj3 with h|h|h<;>(subst h;simp[QV,Wk,Go.Sx.Sub]))))
 iterate 2 focus(simp -dsimp only[↓RP,RQ,xa0,reduceIte,reduceCtorEq,xa1,xa2,xa3,xa4,QV])
 obtain⟨hi,he⟩:=hi;have e1:∀k,m - i=k+1→zx b i (m - i)=if b i=true then(i:Int)else zx b (i+1) k:=fun k hk=>by rw[hk];rfl
 (repeat' (first|refine sD ?_ ?_<;>intro _|refine aA ?_|(simp -dsimp only[↓RP,RQ,xa0,reduceIte,reduceCtorEq,xa1,xa2,xa3,xa4,QT,TYQ,TYP,QN])))
 ·rename_i hlt
  have hlt:i<m:=by omega
  have e2:=e1 (m -(i+1)) Ω;refine qm (hg i hlt) (by(simp -dsimp only[↓RP,RQ,xa0,reduceIte,reduceCtorEq,xa1,xa2,xa3,xa4,QV,I]);all_goals (try simp[subL_refl caps ho,QV]);all_goals (try (intro i j hi hj;(have hj3:j=0∨j=1∨j=2:=by omega);(rcases hj3 with h|h|h<;>(subst h;simp[QV,Wk,Go.Sx.Sub]))))) Ωp ?_;(repeat' (first|refine sD ?_ ?_<;>intro _|refine aA ?_|(simp -dsimp only[↓RP,RQ,xa0,reduceIte,reduceCtorEq,xa1,xa2,xa3,xa4,QT,TYQ,TYP,QN])))
  ·rename_i h
   refine gI ?_;rw[he,e2,if_pos h]
  ·rename_i h1
   refine⟨i+1,⟨Ω,?_⟩,Ω,weak [] [] ?_ ?_ ?_⟩
   ·rw[he,e2,if_neg (by simp[h1])]
   ·(simp -dsimp only[↓RP,RQ,xa0,reduceIte,reduceCtorEq,xa1,xa2,xa3,xa4,QV]);all_goals (try simp[wkL_refl caps ho,QV]);all_goals (try (intro i j hi hj;(have hj3:j=0∨j=1∨j=2:=by omega);(rcases hj3 with h|h|h<;>(subst h;simp[QV,Wk,Go.Sx.Sub]))))
   iterate 2 focus(simp -dsimp only[↓RP,RQ,xa0,reduceIte,reduceCtorEq,xa1,xa2,xa3,xa4,QV])
 ·rename_i hlt
  refine gI ?_;have:m - i=0:=by omega
  rw[he,this];rfl
theorem qos(m:Nat)(bf bg bq:Nat→Int)(g:Nat)(caps:List SV)(ho:OldL caps)(b:Nat→Bool)(hm:m≤1000000)(hg:∀i,i<m→qf Tryz.prog g (.agg [.val (.int .i64 (bf i)),.val (.int .i64 (bg i)),.val (.int .i64 (bq i))] :: caps) (B (b i))):qf Tryz.prog 287 [qJ m bf bg bq,.fn (.func g) [] caps] (B (decide (K8 b m))):=by
 refine qg Tryz.func287 rfl Ωc follows Ωc _ _ (by rw[Tryz.ntmps287];simp) (by simp[OldL,Old,QV,ints,I,ho,zg]) ?_;(simp -dsimp only[↓RP,RQ,xa0,reduceIte,reduceCtorEq,xa1,xa2,xa3,xa4,TY,QV,QN]);refine qm (qor m bf bg bq g caps ho b hm hg) (by(simp -dsimp only[↓RP,RQ,xa0,reduceIte,reduceCtorEq,xa1,xa2,xa3,xa4,QV,ints,qJ]);all_goals (try simp[subL_refl caps ho,QV]);all_goals (try (intro i j hi hj;(have hj3:j=0∨j=1∨j=2:=by omega);(rcases hj3 with h|h|h<;>(subst h;simp[QV,Wk,Go.Sx.Sub]))))) Ωq ?_;(repeat' (first|refine sD ?_ ?_<;>intro _|refine aA ?_|simp -dsimp only[↓RP,RQ,xa0,reduceIte,reduceCtorEq,xa1,xa2,xa3,xa4,I,B,QV,TYQ,TYP,TY,QN]));refine vV ?_;rw[Bool.eq_iff_iff];simp[←K9]
end Go.Tn
end
section
namespace Go.Tn
open Go.Proofs
open Go.Sx
theorem qns(g:Nat)(caps:List SV)(ho:OldL caps):qf Tryz.prog 280 [(.val (.slice none 0 0)),.fn (.func g) [] caps] (I (-1)):=by
 refine qg Tryz.func280 rfl Ωc follows Ωc _ _ (by rw[Tryz.ntmps280];simp) ΩM ?_;have NB:True:=trivial;unfold I;(repeat' (first|refine sD ?_ ?_<;>intro _|refine aAb ?_|(simp -dsimp only[↓RP,RQ,xa0,reduceIte,reduceCtorEq,xa1,xa2,xa3,xa4,TYQ,TYP,NB,QR,QT,QN])))
 all_goals try exact Ωb
 refine qo (fun(_:Unit)=>True) (fun _=>⟨[(0,(.val (.slice none 0 0))),(8,.val (.int .i64 0)),(7,.val (.int .i64 0))],[],10⟩) (fun _=>0) () trivial (weakSU Ω Ωf (SubHp.refl _)) fun z hz=>?_;(repeat' (first|refine sD ?_ ?_<;>intro _|refine aAb ?_|(simp -dsimp only[↓RP,RQ,xa0,reduceIte,reduceCtorEq,xa1,xa2,xa3,xa4,TYQ,TYP,NB,QR,QT,QN])))
 all_goals try exact Ωb
theorem qnt(g:Nat)(caps:List SV)(ho:OldL caps):qf Tryz.prog 167 [(.val (.slice none 0 0)),.fn (.func g) [] caps] (B false):=by
 refine qg Tryz.func167 rfl Ωc follows Ωc _ _ (by rw[Tryz.ntmps167];simp) ΩM ?_;have NB:True:=trivial;have h1:=qns g caps ho;unfold B;(repeat' (first|refine sD ?_ ?_<;>intro _|refine aAb ?_|(simp -dsimp only[↓RP,RQ,xa0,reduceIte,reduceCtorEq,xa1,xa2,xa3,xa4,TYQ,TYP,NB,QR,QT,QN])))
 all_goals try exact Ωb
 refine qm (h1) (by(simp -dsimp only[↓RP,RQ,xa0,reduceIte,reduceCtorEq,xa1,xa2,xa3,xa4,QV,ints,I,B]);all_goals (try simp[QV,Go.Sx.Sub,Go.Sx.SubL,subL_refl caps ho])) Ωa ?_;(repeat' (first|refine sD ?_ ?_<;>intro _|refine aAb ?_|(simp -dsimp only[↓RP,RQ,xa0,reduceIte,reduceCtorEq,xa1,xa2,xa3,xa4,QT,TYQ,TYP,NB,QR,QN])))
 all_goals try exact Ωb
 all_goals (refine vV ?_;simp)
theorem qnu(n:Int)(nb:Nat)(f g q:Nat→Int)(fav:Bool)(c d st:Int):qf Tryz.prog 272 [bkS n nb f g q fav c d st,(.val (.slice none 0 0))] (B true):=by
 refine qg Tryz.func272 rfl Ωc follows Ωc _ _ (by rw[Tryz.ntmps272];simp) Ωh ?_;have NB:True:=trivial;have h1:=qnt 350 (wF n nb f g q fav c d st) (wG _ _ _ _ _ _ _ _ _);unfold bkS B;(repeat' (first|refine sD ?_ ?_<;>intro _|refine aAb ?_|(simp -dsimp only[↓RP,RQ,xa0,reduceIte,reduceCtorEq,xa1,xa2,xa3,xa4,TYQ,TYP,NB,QR,QT,QN])))
 all_goals try exact Ωb
 refine qm (h1) (by(simp -dsimp only[↓RP,RQ,xa0,reduceIte,reduceCtorEq,xa1,xa2,xa3,xa4,QV,ints,wF,I]);all_goals (try simp[wF,ints,Go.Sx.Sub,Go.Sx.SubL]);all_goals (try (intro j hj;refine⟨qlO (P:=fun z=>Go.Sx.Sub _ z z) ?_ ?_ ?_ ?_ ?_ ?_ ?_ ?_ j hj,hj⟩<;>first|exact qN _ (zg _ _ _ _)|exact qN _ (by simp[Old])))) Ωa ?_;(repeat' (first|refine sD ?_ ?_<;>intro _|refine aAb ?_|(simp -dsimp only[↓RP,RQ,xa0,reduceIte,reduceCtorEq,xa1,xa2,xa3,xa4,QT,TYQ,TYP,NB,QR,QN])))
 all_goals try exact Ωb
theorem qnv  : qf Tryz.prog 185 [(.val (.slice none 0 0))] (B true):=by
 refine qg Tryz.func185 rfl Ωc follows Ωc _ _ (by rw[Tryz.ntmps185];simp) Ωh ?_;have NB:True:=trivial;unfold B;(repeat' (first|refine sD ?_ ?_<;>intro _|refine aAb ?_|(simp -dsimp only[↓RP,RQ,xa0,reduceIte,reduceCtorEq,xa1,xa2,xa3,xa4,TYQ,TYP,NB,QR,QT,QN])))
 all_goals try exact Ωb
 refine qo (fun(_:Unit)=>True) (fun _=>⟨[(0,(.val (.slice none 0 0))),(4,(.val (.slice none 0 0))),(6,.val (.int .i64 0)),(5,.val (.int .i64 0))],[],10⟩) (fun _=>0) () trivial (weakSU Ω Ωf (SubHp.refl _)) fun z hz=>?_;(repeat' (first|refine sD ?_ ?_<;>intro _|refine aAb ?_|(simp -dsimp only[↓RP,RQ,xa0,reduceIte,reduceCtorEq,xa1,xa2,xa3,xa4,TYQ,TYP,NB,QR,QT,QN])))
 all_goals try exact Ωb
theorem qot(n:Int)(nb:Nat)(f g q:Nat→Int)(fav:Bool)(c d st:Int)(h:ckB n nb f g q c d st=0):qf Tryz.prog 187 [bkS n nb f g q fav c d st] (I 0):=by
 refine qg Tryz.func187 rfl Ωc follows Ωc _ _ (by rw[Tryz.ntmps187];simp) Ωh ?_;have NB:True:=trivial;obtain⟨⟨⟨a1,a2⟩,⟨a3,a4⟩,⟨a5,a6⟩,a7,a8⟩,hn,hok⟩:=ckB_ok.1 h;have h1:=qeo 0 0 3;rw[decide_eq_true (Ω:(0:Int)≤0∧(0:Int)≤3)]at h1;have h2:=qeo n 2 8;rw[decide_eq_true (Ω:2≤n∧n≤8)]at h2;have h3:=qeo c 0 1000000;rw[decide_eq_true (Ω:0≤c∧c≤1000000)]at h3;have h4:=qeo d 0 500;rw[decide_eq_true (Ω:0≤d∧d≤500)]at h4;have h5:=qeo st 1 100;rw[decide_eq_true (Ω:1≤st∧st≤100)]at h5;have h6:=qos nb f g q 288 (wF n nb f g q fav c d st) (wG _ _ _ _ _ _ _ _ _) (fun _=>false) Ω (fun i hi=>qoq n nb f g q fav c d st (f i) (g i) (q i) (hok i hi));rw[decide_eq_false (show ¬K8 (fun _=>false) nb by rintro⟨i,_,h⟩;simp at h)]at h6;have h7:=qnu n nb f g q fav c d st;have h8:=qnv;have e1:=decide_eq_false (Ω:¬(100:Int)<(nb:Nat));have e2:=decide_eq_false (Ω:¬n - 2<(0:Int));unfold bkS I;(repeat' (first|refine sD ?_ ?_<;>intro _|refine aAb ?_|(simp -dsimp only[↓RP,RQ,xa0,reduceIte,reduceCtorEq,xa1,xa2,xa3,xa4,qJ,TYQ,TYP,NB,QR,QT,QN])))
 all_goals try exact Ωb
 refine qm (h1) Ωd Ωa ?_;(repeat' (first|refine sD ?_ ?_<;>intro _|refine aAb ?_|(simp -dsimp only[↓RP,RQ,xa0,reduceIte,reduceCtorEq,xa1,xa2,xa3,xa4,QT,TYQ,TYP,NB,QR,QN])))
 all_goals try exact Ωb
 refine qm (h2) Ωd Ωa ?_;(repeat' (first|refine sD ?_ ?_<;>intro _|refine aAb ?_|(simp -dsimp only[↓RP,RQ,xa0,reduceIte,reduceCtorEq,xa1,xa2,xa3,xa4,QT,TYQ,TYP,NB,QR,QN])))
 all_goals try exact Ωb
 refine qm (h3) Ωd Ωa ?_;(repeat' (first|refine sD ?_ ?_<;>intro _|refine aAb ?_|(simp -dsimp only[↓RP,RQ,xa0,reduceIte,reduceCtorEq,xa1,xa2,xa3,xa4,QT,TYQ,TYP,NB,QR,QN])))
 all_goals try exact Ωb
 refine qm (h4) Ωd Ωa ?_;(repeat' (first|refine sD ?_ ?_<;>intro _|refine aAb ?_|(simp -dsimp only[↓RP,RQ,xa0,reduceIte,reduceCtorEq,xa1,xa2,xa3,xa4,QT,TYQ,TYP,NB,QR,QN])))
 all_goals try exact Ωb
 refine qm (h5) Ωd Ωa ?_;(repeat' (first|refine sD ?_ ?_<;>intro _|refine aAb ?_|(simp -dsimp only[↓RP,RQ,xa0,reduceIte,reduceCtorEq,xa1,xa2,xa3,xa4,QT,TYQ,TYP,NB,QR,QN])))
 all_goals try exact Ωb
 (repeat' (first|refine sD ?_ ?_<;>intro _|refine aAb ?_|(simp -dsimp only[↓RP,RQ,xa0,reduceIte,reduceCtorEq,xa1,xa2,xa3,xa4,qJ,e1,TYQ,TYP,NB,QR,QT,QN])))
 all_goals try exact Ωb
 refine qm (h6) (by(simp -dsimp only[↓RP,RQ,xa0,reduceIte,reduceCtorEq,xa1,xa2,xa3,xa4,QV,ints,wF,qJ,I]);all_goals (try simp[wF,qJ,Go.Sx.Sub,Go.Sx.SubL]);all_goals (try (refine⟨?_,?_⟩));all_goals (try all_goals (try (intro i j hi hj;(have hj3:j=0∨j=1∨j=2:=by omega);(rcases hj3 with h|h|h<;>(subst h;simp[QV,Wk,Go.Sx.Sub])))));all_goals (try (intro j hj;refine⟨qlO (P:=fun z=>Go.Sx.Sub _ z z) ?_ ?_ ?_ ?_ ?_ ?_ ?_ ?_ j hj,hj⟩<;>first|exact qN _ (zg _ _ _ _)|exact qN _ (by simp[Old])))) Ωa ?_;(repeat' (first|refine sD ?_ ?_<;>intro _|refine aAb ?_|(simp -dsimp only[↓RP,RQ,xa0,reduceIte,reduceCtorEq,xa1,xa2,xa3,xa4,QT,e2,TYQ,TYP,NB,QR,QN])))
 all_goals try exact Ωb
 refine qm (h7) (by simp only[SubL,and_true];refine⟨qN _ (vL _ _ _ _ _ _ _ _ _),?_⟩;(simp -dsimp only[↓RP,RQ,xa0,reduceIte,reduceCtorEq,xa1,xa2,xa3,xa4,QV,ints,I,B]);all_goals (try simp[QV,Go.Sx.Sub,Go.Sx.SubL])) Ωa ?_;(repeat' (first|refine sD ?_ ?_<;>intro _|refine aAb ?_|(simp -dsimp only[↓RP,RQ,xa0,reduceIte,reduceCtorEq,xa1,xa2,xa3,xa4,QT,e2,TYQ,TYP,NB,QR,QN])))
 all_goals try exact Ωb
 refine qm (h8) Ωd Ωa ?_;(repeat' (first|refine sD ?_ ?_<;>intro _|refine aAb ?_|(simp -dsimp only[↓RP,RQ,xa0,reduceIte,reduceCtorEq,xa1,xa2,xa3,xa4,QT,TYQ,TYP,NB,QR,QN])))
 all_goals try exact Ωb
end Go.Tn
end
