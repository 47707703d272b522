/- A part of the proof. -/
import Derived.Test.YtacejomniokahaaGreatPC
open Nat renaming le_refl→xa5,eq_of_beq_eq_true→xa6,le_of_ble_eq_true→xa7,mul_le_mul_right→xa8,lt_of_lt_of_le→xa9,zero_add→xb0,add_zero→xb1,add_assoc→xb2,zero_testBit→xb3,lt_succ_self→xb5,zero_le→xb6,sub_self→xb8,le_succ→xc4,add_comm→xc5
open List renaming getD_eq_getElem?_getD→xc6,getElem?_eq_getElem→xc7,length_append→xc8,getElem?_append_left→xc9,getElem?_append_right→xd0,length_singleton→xd1,append_nil→xd3,mem_append→xd4,mem_cons_self→xd5,getElem?_cons_succ→xd7,length_take→xd9,length_map→xe1,getElem?_range→xe3,length_cons→xe4,length_set→xe5
open Bool renaming and_eq_true→xe6,false_eq_true→xe7,or_eq_true→xe8,and_true→xf1,or_false→xf3,false_or→xf4
open Array renaming getElem?_toList→xf6
open Classical renaming byContradiction→xf9
open Go.Sx.SV renaming val→Ψ
open Go.Value renaming int→Φ
open Go.IntKind renaming i64→Γ
set_option linter.unusedVariables false
set_option linter.unusedSimpArgs false
set_option linter.defProp false
set_option linter.constructorNameAsVariable false
set_option maxRecDepth 1000000
set_option maxHeartbeats 16000000
section
namespace Go.Tn
open Go.Proofs
open Go.Sx
end Go.Tn
end
section
namespace Go.He
structure Wd where
 a:Int
 b:Int
 k:Int
def Lk(w:Wd)(x y:Int):Prop:=(w.a=x∧w.b=y)∨(w.k=1∧w.b=x∧w.a=y)
def lnk(w:Wd)(l:List Int):List Int:=(if w.a∈l then [w.b]else [])++(if w.k=1∧w.b∈l then [w.a]else [])
inductive Go(w:Nat→Wd)(m:Nat)(x:Int):Nat→Int→Prop
 |nil:Go w m x 0 x
 |snoc {d:Nat} {y z:Int} (i:Nat) (h:Go w m x d y) (hi:i<m) (hl:Lk (w i) y z):Go w m x (d+1) z
open Classical in
noncomputable def cnt(P:Int→Prop):Nat→Nat
 |0=>0
 |n+1=>cnt P n+(if P n then 1 else 0)
def Bef(w:Nat→Wd)(m:Nat)(x y:Int):Prop:=∃i d e,i<m∧(w i).k=0∧Go w m x d (w i).a∧Go w m (w i).b e y
def Loop(w:Nat→Wd)(m:Nat):Prop:=∃i d,i<m∧(w i).k=0∧Go w m (w i).b d (w i).a
noncomputable def key(w:Nat→Wd)(m n:Nat)(x:Int):Nat:=cnt (λy=>Bef w m y x) n
end Go.He
end
section
namespace Go.He
def rkN(g:Nat→Int)(i:Nat):Nat→Int
 |0=>1
 |k+1=>if g k<g i then rkN g i k+1 else rkN g i k
def rk(g:Nat→Int)(n i:Nat):Int:=rkN g i n
def Fin(g:Nat→Int)(n:Nat):Prop:=∀i,i<n→g i=rk g n i
instance(g:Nat→Int)(n:Nat):Decidable (Fin g n):=by unfold Fin;infer_instance
def dg(n j t i:Nat):Nat:=t / n^(j - 1 - i) % n
def enc(n:Nat)(f:Nat→Nat):Nat→Nat
 |0=>0
 |j+1=>enc n f j*n+f j
end Go.He
end
section
namespace Go.He
end Go.He
end
section
namespace Go.He
def lst(p:Nat→Bool):Nat→List Nat
 |0=>[]
 |T+1=>if p T=true then lst p T++[T]else lst p T
theorem qlC{φ:Nat→Nat}:∀{l m:List Nat},l.Nodup→(∀a,a∈l→φ a∈m)→(∀a b,a∈l→b∈l→φ a=φ b→a=b)→l.length≤m.length
 |[],_,_,_,_=>xb6 _
 |a :: l,m,hn,hm,hi=>by
  rw[List.nodup_cons]at hn;have h1:=hm a Ωg;have:=qlC (φ:=φ) (l:=l) (m:=m.erase (φ a)) hn.2 (λb hb=>by
   refine(List.mem_erase_of_ne λe=>?_).2 (hm b (by simp[hb]));have:=hi b a (by simp[hb]) Ωg e;exact hn.1 (this▸hb)) λb c hb hc=>hi b c (by simp[hb]) (by simp[hc])
  rw[List.length_erase_of_mem h1]at this;have h2:=List.length_pos_of_mem h1;simp only[xe4];omega
end Go.He
end
section
namespace Go.He
def cat(w:Nat→Wd)(l:List Int):Nat→List Int
 |0=>[]
 |k+1=>cat w l k++lnk (w k) l
def lev(w:Nat→Wd)(m:Nat)(x:Int):Nat→List Int
 |0=>[x]
 |d+1=>cat w (lev w m x d) m
structure Mi(S:Nat→Prop)(N:Nat):Prop where
 none:N=0→∀L,¬S L
 some:N≠0→S N
 le:∀L,S L→N≤L
def inS(w:Nat→Wd)(m i:Nat)(best:Nat):Nat→Nat
 |0=>best
 |j+1=>if (w i).a∈lev w m (w i).b j∧(inS w m i best j=0∨j+1<inS w m i best j)then j+1 else inS w m i best j
def shN(w:Nat→Wd)(m n:Nat):Nat→Nat
 |0=>0
 |i+1=>if (w i).k=0 then inS w m i (shN w m n i) n else shN w m n i
end Go.He
end
section
namespace Go.He
def stI(w:Nat→Wd)(a b:Int):Nat→Option Nat
 |0=>none
 |i+1=>if (w i).k=0∧(w i).a=a∧(w i).b=b then some i else stI w a b i
def wkI(w:Nat→Wd)(a b:Int):Nat→Option Nat
 |0=>none
 |i+1=>if (w i).k≠0∧(((w i).a=a∧(w i).b=b)∨((w i).k=1∧(w i).b=a∧(w i).a=b))then some i else wkI w a b i
def lkI(w:Nat→Wd)(m:Nat)(a b:Int):Option Nat:=match stI w a b m with|some i=>some i|none=>wkI w a b m
structure Bs where
 wait:List Nat
 ways:Nat→List Nat
 seen:Nat→Bool
def upN{α:Type}(f:Nat→α)(k:Nat)(x:α)(j:Nat):α:=if j=k then x else f j
def stp(w:Nat→Wd)(m a:Nat)(s:Bs)(b:Nat):Bs:=
 match lkI w m a b with
 |some i=>if s.seen b=false then⟨s.wait++[b],upN s.ways b (s.ways a++[i]),upN s.seen b true⟩else s
 |none=>s
def inn(w:Nat→Wd)(m a:Nat)(s:Bs):Nat→Bs
 |0=>s
 |b+1=>stp w m a (inn w m a s b) b
def pop(s:Bs):Bs:=⟨s.wait.tail,s.ways,s.seen⟩
end Go.He
end
section
namespace Go.He
def cF(l:List Nat)(j:Nat):Int:=(l.getD j 0:Nat)
end Go.He
end
section
namespace Go.He
end Go.He
end
section
namespace Go.He
end Go.He
end
section
namespace Go.Tn
open Go.Proofs
open Go.Sx
open Go.He
theorem one1(a:Int):∀(i j:Nat),i<1→j<1→oneCell ([Ψ (Φ Γ a)].getD (i+j) SV.top)=true:=by
 intro i j hi hj;obtain rfl:i=0:=by omega
 obtain rfl:j=0:=by omega
 rfl
def vAt(u:Nat→Int)(v:Int)(i:Nat):Bool:=decide (v=u i)
theorem qrl(m:Nat)(u:Nat→Int)(v:Int)(hm:m≤1000000):qf Tryz.prog 169 [qE m u,I v] (I (zK (vAt u v) 0 m)):=by
 refine qg Tryz.func169 rfl Ωb follows Ωb _ _ (by rw[Tryz.ntmps169];simp) (by simp[OldL,Old,QV,hsv,qE,I,B]) ?_;unfold qE I;(repeat' first|refine sD ?_ ?_<;>intro _|refine aA ?_|simp -dsimp only[↓RP,RQ,seval,QU]);refine qp (λi=>i≤m∧zK (vAt u v) 0 m=zK (vAt u v) i (m - i)) (λi=>⟨[(0,.arr false false m 1 (λi _=>Ψ (Φ Γ (u i)))),(1,Ψ (Φ Γ v)),(7,Ψ (Φ Γ m)),(8,Ψ (Φ Γ i))],[],0⟩) (λi=>m - i) 0 ⟨xb6 _,rfl⟩ (weak [] [] ?_ ?_ ?_) λi hi=>?_
 iterate 3 focus((simp -dsimp only[↓RP,RQ,seval,QV]);all_goals (try simp[QV]))
 obtain⟨hi,he⟩:=hi;have e1:∀k,m - i=k+1→zK (vAt u v) i (m - i)=if vAt u v i=true then(i:Int)else zK (vAt u v) (i+1) k:=λk hk=>by rw[hk];rfl
 by_cases hlt:i<m
 ·have e2:=e1 (m -(i+1)) Ω
  repeat' first|refine sD ?_ ?_<;>intro _|refine aA ?_|simp -dsimp only[↓RP,RQ,seval,QU]
  all_goals try exact ΩB
  ·rename_i h
   refine ya ?_;rw[he,e2,if_pos (by simpa[vAt]using h)]
  ·rename_i h
   refine⟨i+1,⟨Ω,?_⟩,Ω,weak [] [] ?_ ?_ ?_⟩
   ·rw[he,e2,if_neg (by simpa[vAt]using h)]
   iterate 3 focus((simp -dsimp only[↓RP,RQ,seval,QV]);all_goals (try simp[QV]))
 ·repeat' first|refine sD ?_ ?_<;>intro _|refine aA ?_|simp -dsimp only[↓RP,RQ,seval,QU]
  all_goals try exact ΩB
  refine ya ?_;have:m - i=0:=by omega
  rw[he,this];rfl
end Go.Tn
end
section
namespace Go.Sx
open Go.RowKit
noncomputable section
variable{j k n:Nat}{b':Blk}{LM:Nat→Option Loop}{H:List (Nat×Blk)}{r:Res}{s:SV}{obl:Prop}{args:List SV}
inductive Q8(β:Type):Type
 |mk (a b c d e f g h:β)
def T8(α:Type):Nat→Type
 |0=>Option α
 |n+1=>Q8 (T8 α n)
def Tr(n:Nat)(α:Type):Type:=T8 α n
inductive XB:Type
 |cells (t:TypeId) (l:List SV)
 |rows (t:TypeId) (k n:Nat) (l:List SV)
 |loop (s:RSt)
 |map (ag:Bool) (ls:List Lf) (es:List (Value×Option SV))
inductive Q:Type
 |mk (s:SV) (hp:Tr 6 XB) (nid:Nat)
inductive R:Type
 |ok (q:Q)
 |bad (c id:Nat)
variable{ρ:Q}
section
variable{α β:Type}
def qm(n:Nat)(f:Nat→β):β:=Nat.rec (f 0) (λm _=>f (Nat.succ m)) n
theorem qj(n:Nat)(f:Nat→β):qm n f=f n:=by cases n<;>rfl
def YT(n:Int)(f:Int→β):β:=Int.rec (λa=>qm a λa=>f (.ofNat a)) (λa=>qm a λa=>f (.negSucc a)) n
theorem jL(n:Int)(f:Int→β):YT n f=f n:=by cases n<;>exact qj _ (λa=>f _)
def Kq(b:Bool)(f:Bool→β):β:=Bool.rec (f false) (f true) b
theorem Q7(b:Bool)(f:Bool→β):Kq b f=f b:=by cases b<;>rfl
def gI(l:List α)(f:List α→β):β:=(List.rec (motive:=λ_=>(List α→β)→β) (λf=>f []) (λa _ ih f=>ih λl=>f (a :: l)) l) f
theorem qX(l:List α):∀(f:List α→β),gI l f=f l:=by
 induction l with
 |nil=>intro f;rfl
 |cons a l ih=>intro f;exact ih λl=>f (a :: l)
inductive Bx(α:Type):Type
 |mk (a:α)
def Bx.get(b:Bx α):α:=Bx.rec (λa=>a) b
def em8(α:Type):(n:Nat)→T8 α n
 |0=>none
 |n+1=>.mk (em8 α n) (em8 α n) (em8 α n) (em8 α n) (em8 α n) (em8 α n) (em8 α n) (em8 α n)
def Tr.nil{α:Type}:Tr n α:=em8 α n
def Vh(k:Nat)(x0 x1 x2 x3 x4 x5 x6 x7:β):β:=Nat.rec x0 (λk _=>Nat.rec x1 (λk _=>Nat.rec x2 (λk _=>Nat.rec x3 (λk _=>Nat.rec x4 (λk _=>Nat.rec x5 (λk _=>Nat.rec x6 (λ_ _=>x7) k) k) k) k) k) k) k
def YU(k:Nat)(t:Q8 β):β:=Q8.rec (λa b c d e f g h=>Vh k a b c d e f g h) t
def qow(k:Nat)(t:Q8 β)(y:β):Q8 β:=Q8.rec (λa b c d e f g h=>Vh k (.mk y b c d e f g h) (.mk a y c d e f g h) (.mk a b y d e f g h) (.mk a b c y e f g h) (.mk a b c d y f g h) (.mk a b c d e y g h) (.mk a b c d e f y h) (.mk a b c d e f g y)) t
theorem YV(h:k<8):k=0∨k=1∨k=2∨k=3∨k=4∨k=5∨k=6∨k=7:=by omega
theorem qim(hk:k<8)(hj:j<8)(t:Q8 β)(y:β):YU j (qow k t y)=if j=k then y else YU j t:=by
 cases t;rcases YV hk with rfl|rfl|rfl|rfl|rfl|rfl|rfl|rfl<;>rcases YV hj with rfl|rfl|rfl|rfl|rfl|rfl|rfl|rfl<;>rfl
def Qa(α:Type)(n:Nat):Nat→Bx (T8 α n→Option α):=Nat.rec (motive:=λn=>Nat→Bx (T8 α n→Option α)) (λi=>Nat.rec (.mk λt=>t) (λ_ _=>.mk λ_=>none) i)
 (λn ih i=>qm (i / 8) λk=>Bx.rec (λq=>Vh (i % 8) (.mk λt=>Q8.rec (motive:=λ_=>Option α) (λa _ _ _ _ _ _ _=>q a) t) (.mk λt=>Q8.rec (motive:=λ_=>Option α) (λ_ a _ _ _ _ _ _=>q a) t) (.mk λt=>Q8.rec (motive:=λ_=>Option α) (λ_ _ a _ _ _ _ _=>q a) t) (.mk λt=>Q8.rec (motive:=λ_=>Option α) (λ_ _ _ a _ _ _ _=>q a) t) (.mk λt=>Q8.rec (motive:=λ_=>Option α) (λ_ _ _ _ a _ _ _=>q a) t) (.mk λt=>Q8.rec (motive:=λ_=>Option α) (λ_ _ _ _ _ a _ _=>q a) t) (.mk λt=>Q8.rec (motive:=λ_=>Option α) (λ_ _ _ _ _ _ a _=>q a) t) (.mk λt=>Q8.rec (motive:=λ_=>Option α) (λ_ _ _ _ _ _ _ a=>q a) t)) (ih k)) n
theorem ZU(n i:Nat)(t:T8 α (n+1)):(Qa α (n+1) i).get t=(Qa α n (i / 8)).get (YU (i % 8) t):=by
 have e:Qa α (n+1) i=qm (i / 8) λk=>Bx.rec (λq=>Vh (i % 8) (.mk λt=>Q8.rec (motive:=λ_=>Option α) (λa _ _ _ _ _ _ _=>q a) t) (.mk λt=>Q8.rec (motive:=λ_=>Option α) (λ_ a _ _ _ _ _ _=>q a) t) (.mk λt=>Q8.rec (motive:=λ_=>Option α) (λ_ _ a _ _ _ _ _=>q a) t) (.mk λt=>Q8.rec (motive:=λ_=>Option α) (λ_ _ _ a _ _ _ _=>q a) t) (.mk λt=>Q8.rec (motive:=λ_=>Option α) (λ_ _ _ _ a _ _ _=>q a) t) (.mk λt=>Q8.rec (motive:=λ_=>Option α) (λ_ _ _ _ _ a _ _=>q a) t) (.mk λt=>Q8.rec (motive:=λ_=>Option α) (λ_ _ _ _ _ _ a _=>q a) t) (.mk λt=>Q8.rec (motive:=λ_=>Option α) (λ_ _ _ _ _ _ _ a=>q a) t)) (Qa α n k):=rfl;rw[e,qj];cases Qa α n (i / 8)with
 |mk q=>
 cases t;rcases YV (Nat.mod_lt i (show 0<8 by decide))with h|h|h|h|h|h|h|h<;>rw[h]<;>rfl
def Tr.find(t:Tr n α)(i:Nat):Option α:=qm i λi=>Bx.rec (λq=>q t) (Qa α n i)
theorem KH(t:Tr n α)(i:Nat):t.find i=(Qa α n i).get t:=by
 unfold Tr.find;rw[qj];rfl
theorem qin:∀(n i:Nat),(Qa α n i).get (em8 α n)=none
 |0,0=>rfl
 |0,_+1=>rfl
 |n+1,i=>by
  rw[ZU];have:YU (i % 8) (em8 α (n+1))=em8 α n:=by
   rcases YV (Nat.mod_lt i (show 0<8 by decide))with h|h|h|h|h|h|h|h<;>rw[h]<;>rfl
  rw[this];exact qin n _
theorem Q9(i:Nat):(Tr.nil:Tr n α).find i=none:=by rw[KH];exact qin n i
def Qw(α:Type)(n:Nat):Nat→Bx (T8 α n→Option α→(T8 α n→R)→R):=Nat.rec (motive:=λn=>Nat→Bx (T8 α n→Option α→(T8 α n→R)→R)) (λi=>Nat.rec (.mk λ_ a f=>f a) (λ_ _=>.mk λ_ _ _=>.bad 2 0) i)
 (λn ih i=>qm (i / 8) λk=>Bx.rec (λq=>Vh (i % 8) (.mk λt s z=>Q8.rec (motive:=λ_=>R) (λa b c d e f g h=>q a s λa=>z (.mk a b c d e f g h)) t) (.mk λt s z=>Q8.rec (motive:=λ_=>R) (λa b c d e f g h=>q b s λb=>z (.mk a b c d e f g h)) t) (.mk λt s z=>Q8.rec (motive:=λ_=>R) (λa b c d e f g h=>q c s λc=>z (.mk a b c d e f g h)) t) (.mk λt s z=>Q8.rec (motive:=λ_=>R) (λa b c d e f g h=>q d s λd=>z (.mk a b c d e f g h)) t)
  (.mk λt s z=>Q8.rec (motive:=λ_=>R) (λa b c d e f g h=>q e s λe=>z (.mk a b c d e f g h)) t) (.mk λt s z=>Q8.rec (motive:=λ_=>R) (λa b c d e f g h=>q f s λf=>z (.mk a b c d e f g h)) t) (.mk λt s z=>Q8.rec (motive:=λ_=>R) (λa b c d e f g h=>q g s λg=>z (.mk a b c d e f g h)) t) (.mk λt s z=>Q8.rec (motive:=λ_=>R) (λa b c d e f g h=>q h s λh=>z (.mk a b c d e f g h)) t)) (ih k)) n
theorem qfY(n i:Nat)(t:T8 α (n+1))(s:Option α)(z:T8 α (n+1)→R):(Qw α (n+1) i).get t s z=(Qw α n (i / 8)).get (YU (i % 8) t) s λy=>z (qow (i % 8) t y):=by
 have e:Qw α (n+1) i=qm (i / 8) λk=>Bx.rec (λq=>Vh (i % 8) (.mk λt s z=>Q8.rec (motive:=λ_=>R) (λa b c d e f g h=>q a s λa=>z (.mk a b c d e f g h)) t) (.mk λt s z=>Q8.rec (motive:=λ_=>R) (λa b c d e f g h=>q b s λb=>z (.mk a b c d e f g h)) t) (.mk λt s z=>Q8.rec (motive:=λ_=>R) (λa b c d e f g h=>q c s λc=>z (.mk a b c d e f g h)) t) (.mk λt s z=>Q8.rec (motive:=λ_=>R) (λa b c d e f g h=>q d s λd=>z (.mk a b c d e f g h)) t)
  (.mk λt s z=>Q8.rec (motive:=λ_=>R) (λa b c d e f g h=>q e s λe=>z (.mk a b c d e f g h)) t) (.mk λt s z=>Q8.rec (motive:=λ_=>R) (λa b c d e f g h=>q f s λf=>z (.mk a b c d e f g h)) t) (.mk λt s z=>Q8.rec (motive:=λ_=>R) (λa b c d e f g h=>q g s λg=>z (.mk a b c d e f g h)) t) (.mk λt s z=>Q8.rec (motive:=λ_=>R) (λa b c d e f g h=>q h s λh=>z (.mk a b c d e f g h)) t)) (Qw α n k):=rfl
 rw[e,qj];cases Qw α n (i / 8)with
 |mk q=>
 cases t;rcases YV (Nat.mod_lt i (show 0<8 by decide))with h|h|h|h|h|h|h|h<;>rw[h]<;>rfl
def zf(a:Option α)(_:Nat)(t:Tr n α)(i:Nat)(f:Tr n α→R):R:=qm i λi=>Bx.rec (λq=>q t a f) (Qw α n i)
theorem Wg(a:Option α)(m:Nat)(t:Tr n α)(i:Nat)(f:Tr n α→R):zf a m t i f=(Qw α n i).get t a f:=by
 unfold zf;rw[qj];rfl
def qio(t t':Tr n α)(i:Nat)(a:Option α):Prop:=∀j,t'.find j=if j=i then a else t.find j
theorem qdo{a:Option α}:∀(n:Nat)(t:T8 α n)(i:Nat)(f:T8 α n→R),(Qw α n i).get t a f=.ok ρ→∃t',(∀j,(Qa α n j).get t'=if j=i then a else(Qa α n j).get t)∧f t'=.ok ρ
 |0,t,i,f,h=>by
  cases i with
  |zero=>
   refine⟨a,λj=>?_,h⟩;cases j with
   |zero=>rw[if_pos rfl];rfl
   |succ j=>rw[if_neg (Nat.succ_ne_zero j)];rfl
  |succ i=>cases h
 |n+1,t,i,f,h=>by
  rw[qfY]at h;obtain⟨t',h1,h2⟩:=qdo n _ _ _ h;refine⟨_,λj=>?_,h2⟩;refine(ZU n j _).trans ?_;have e1:(if j=i then a else(Qa α (n+1) j).get t)=if j=i then a else(Qa α n (j / 8)).get (YU (j % 8) t):=by
   by_cases c:j=i
   ·simp_all
   ·rw[if_neg c,if_neg c];exact ZU n j t
  refine Eq.trans ?_ e1.symm;have e2:YU (j % 8) (qow (i % 8) t t')=if j % 8=i % 8 then t' else YU (j % 8) t:=qim (Nat.mod_lt _ Ωq) (Nat.mod_lt _ Ωq) t t'
  refine(congrArg (Qa α n (j / 8)).get e2).trans ?_;by_cases c:j % 8=i % 8
  ·grind
  ·grind
theorem qC{a:Option α}(m:Nat)(t:Tr n α)(i:Nat)(f:Tr n α→R)(h:zf a m t i f=.ok ρ):∃t',qio t t' i a∧f t'=.ok ρ:=by
 rw[Wg]at h;obtain⟨t',h1,h2⟩:=qdo n t i f h;refine⟨t',λj=>(KH (n:=n) t' j).trans ((h1 j).trans ?_),h2⟩;by_cases c:j=i
 ·simp_all
 ·rw[if_neg c,if_neg c];exact(KH (n:=n) t j).symm
end
def ql(c:Nat)(a:Bool)(b:R):R:=Bool.rec (.bad c 0) b a
theorem qe{c:Nat}{a:Bool}{b:R}(h:ql c a b=.ok ρ):a=true∧b=.ok ρ:=by
 cases a
 ·cases h
 ·exact⟨rfl,h⟩
def qqg(c i:Nat)(a:Bool)(b:R):R:=Bool.rec (.bad c i) b a
theorem qlD{c i:Nat}{a:Bool}{b:R}(h:qqg c i a b=.ok ρ):a=true∧b=.ok ρ:=by
 cases a
 ·cases h
 ·exact⟨rfl,h⟩
def hiK(k:IntKind):Nat:=IntKind.rec 127 32767 2147483647 9223372036854775807 255 65535 4294967295 18446744073709551615 k
def loK(k:IntKind):Nat:=IntKind.rec 128 32768 2147483648 9223372036854775808 0 0 0 0 k
def qlE(k:IntKind)(n:Int):Bool:=Int.rec (λa=>Nat.ble a (hiK k)) (λa=>Nat.ble (Nat.succ a) (loK k)) n
theorem Za{k:IntKind}{n:Int}(h:qlE k n=true):InK k n:=by
 cases n with
 |ofNat a=>
  have h:Nat.ble a (hiK k)=true:=h;have h:=xa7 h;cases k<;>simp only[hiK]at h<;>simp only[InK,Int.ofNat_eq_natCast]<;>omega
 |negSucc a=>
  have h:Nat.ble (Nat.succ a) (loK k)=true:=h;have h:=xa7 h;cases k<;>simp only[loK]at h<;>simp only[InK]<;>omega
def KA(a b:Int):Bool:=Int.rec (λa=>Int.rec (λb=>Nat.ble (Nat.succ a) b) (λ_=>false) b) (λa=>Int.rec (λ_=>true) (λb=>Nat.ble (Nat.succ b) a) b) a
theorem KI(a b:Int):KA a b=decide (a<b):=by
 rw[Bool.eq_iff_iff,decide_eq_true_eq];cases a with
 |ofNat a=>cases b with
  |ofNat b=>show Nat.ble (Nat.succ a) b=true↔_;rw[Nat.ble_eq,Int.ofNat_eq_natCast,Int.ofNat_eq_natCast];omega
  |negSucc b=>show false=true↔_;simp only[xe7,false_iff,Int.ofNat_eq_natCast];omega
 |negSucc a=>cases b with
  |ofNat b=>show true=true↔_;simp only[true_iff,Int.ofNat_eq_natCast];omega
  |negSucc b=>show Nat.ble (Nat.succ b) a=true↔_;rw[Nat.ble_eq];omega
def JJ(a b:Int):Bool:=Int.rec (λa=>Int.rec (λb=>Nat.beq a b) (λ_=>false) b) (λa=>Int.rec (λ_=>false) (λb=>Nat.beq a b) b) a
theorem yK(a b:Int):JJ a b=decide (a=b):=by
 rw[Bool.eq_iff_iff,decide_eq_true_eq];cases a with
 |ofNat a=>cases b with
  |ofNat b=>show Nat.beq a b=true↔_;rw[Nat.beq_eq,Int.ofNat_eq_natCast,Int.ofNat_eq_natCast];omega
  |negSucc b=>show false=true↔_;simp only[xe7,false_iff,Int.ofNat_eq_natCast];omega
 |negSucc a=>cases b with
  |ofNat b=>show false=true↔_;simp only[xe7,false_iff,Int.ofNat_eq_natCast];omega
  |negSucc b=>show Nat.beq a b=true↔_;rw[Nat.beq_eq];omega
def qox(v:Value)(f:SV→R):R:=
 match v with
 |.int k n=>YT n λn=>f (.val (.int k n))
 |.bool b=>Kq b λb=>f (.val (.bool b))
 |v=>f (.val v)
theorem qlF(v:Value)(f:SV→R):qox v f=f (.val v):=by
 unfold qox;split
 ·exact jL _ (λn=>f (.val (.int _ n)))
 ·exact Q7 _ (λn=>f (.val (.bool n)))
 ·rfl
def svK(s:SV)(f:SV→R):R:=
 match s with
 |.val v=>qox v f
 |.agg l=>gI l λl=>f (.agg l)
 |.ptr id off=>qm off λoff=>f (.ptr id off)
 |.elt id k i j=>qm i λi=>qm j λj=>f (.elt id k i j)
 |.vec id n k=>qm n λn=>f (.vec id n k)
 |.cut id n k=>qm n λn=>f (.cut id n k)
 |.asl id off n k=>qm off λoff=>qm n λn=>f (.asl id off n k)
 |.que id off n k=>qm off λoff=>qm n λn=>f (.que id off n k)
 |s=>f s
theorem Qx(s:SV)(f:SV→R):svK s f=f s:=by
 unfold svK;split<;>simp only[qlF,qX,qj]
def Qb(l:List SV)(f:List SV→R):R:=(List.rec (motive:=λ_=>(List SV→R)→R) (λf=>f []) (λa _ ih f=>svK a λa=>ih λl=>f (a :: l)) l) f
theorem ku(l:List SV):∀(f:List SV→R),Qb l f=f l:=by
 induction l with
 |nil=>intro f;rfl
 |cons a l ih=>
  intro f;show svK a (λa=>Qb l λl=>f (a :: l))=_;rw[Qx,ih]
def kN(k:IntKind):Nat:=IntKind.rec 0 1 2 3 4 5 6 7 k
theorem qip(k k':IntKind):Nat.beq (kN k) (kN k')=decide (k=k'):=by cases k<;>cases k'<;>rfl
def lfB(a b:Lf):Bool:=Lf.rec (λk=>Lf.rec (λk'=>Nat.beq (kN k) (kN k')) false b) (Lf.rec (λ_=>false) true b) a
theorem qoy{a b:Lf}(h:lfB a b=true):a=b:=by
 cases a with
 |i k=>cases b with
  |i k'=>
   have h:Nat.beq (kN k) (kN k')=true:=h;rw[qip,decide_eq_true_eq]at h;rw[h]
  |b=>cases h
 |b=>cases b with
  |i k'=>cases h
  |b=>rfl
def qoz(l:List Lf):List Lf→Bool:=List.rec (motive:=λ_=>List Lf→Bool) (λm=>List.rec true (λ_ _ _=>false) m) (λa _ ih m=>List.rec false (λc m _=>Bool.rec false (ih m) (lfB a c)) m) l
theorem qdp:∀{l m:List Lf},qoz l m=true→l=m
 |[],[],_=>rfl
 |[],_ :: _,h=>by cases h
 |_ :: _,[],h=>by cases h
 |a :: l,b :: m,h=>by
  have h:(Bool.rec false (qoz l m) (lfB a b):Bool)=true:=h;cases q:lfB a b with
  |false=>rw[q]at h;cases h
  |true=>rw[q]at h;rw[qoy q,qdp h]
def qiq(v:Value):(IntKind→Int→Bool)→Bool→Bool:=Value.rec (motive_1:=λ_=>(IntKind→Int→Bool)→Bool→Bool) (motive_2:=λ_=>PUnit) (motive_3:=λ_=>PUnit) (λ_ f d=>d) (λk n f d=>f k n) (λ_ _ f d=>d) (λ_ _ _ f d=>d) (λ_ f d=>d) (λ_ f d=>d) (λ_ _ _ f d=>d) (λ_ f d=>d) (λ_ f d=>d) (λ_ _ _ _ _ f d=>d) (λ f d=>d) (λ_ _ _ f d=>d) (λ f d=>d) (λ_ _ f d=>d) (λ_ _ f d=>d) (λ_ _=>PUnit.unit) PUnit.unit (λ_ _ _ _=>PUnit.unit) v
def qbR(v:Value):(Bool→Bool)→Bool→Bool:=Value.rec (motive_1:=λ_=>(Bool→Bool)→Bool→Bool) (motive_2:=λ_=>PUnit) (motive_3:=λ_=>PUnit) (λb f d=>f b) (λ_ _ f d=>d) (λ_ _ f d=>d) (λ_ _ _ f d=>d) (λ_ f d=>d) (λ_ f d=>d) (λ_ _ _ f d=>d) (λ_ f d=>d) (λ_ f d=>d) (λ_ _ _ _ _ f d=>d) (λ f d=>d) (λ_ _ _ f d=>d) (λ f d=>d) (λ_ _ f d=>d) (λ_ _ f d=>d) (λ_ _=>PUnit.unit) PUnit.unit (λ_ _ _ _=>PUnit.unit) v
def qdq(v:Value):(List Value→Bool)→Bool→Bool:=Value.rec (motive_1:=λ_=>(List Value→Bool)→Bool→Bool) (motive_2:=λ_=>PUnit) (motive_3:=λ_=>PUnit) (λ_ f d=>d) (λ_ _ f d=>d) (λ_ _ f d=>d) (λ_ _ _ f d=>d) (λ_ f d=>d) (λ_ f d=>d) (λ_ _ _ f d=>d) (λ_ f d=>d) (λ_ f d=>d) (λ_ _ _ _ _ f d=>d) (λ f d=>d) (λ_ _ _ f d=>d) (λ f d=>d) (λc ih f d=>f c.toList) (λ_ _ f d=>d) (λ_ _=>PUnit.unit) PUnit.unit (λ_ _ _ _=>PUnit.unit) v
def qdr(v u:Value):Bool:=qiq v (λk a=>qiq u (λk' b=>Bool.rec false (JJ a b) (Nat.beq (kN k) (kN k'))) false) (qbR v (λa=>qbR u (λb=>Bool.rec (Bool.rec true false b) b a) false) false)
theorem YW(v u:Value):qdr v u=vX v u:=by
 cases v<;>first|rfl|skip
 case bool a=>cases u<;>first|rfl|(rename_i b;cases a<;>cases b<;>rfl)
 case int k a=>
  cases u<;>first|rfl|skip
  rename_i k' b;show(Bool.rec false (JJ a b) (Nat.beq (kN k) (kN k')):Bool)=(decide (k=k')&&decide (a=b));rw[qip,yK];cases decide (k=k')<;>rfl
def qir(l:List Value):List Value→Bool:=List.rec (motive:=λ_=>List Value→Bool) (λm=>List.rec true (λ_ _ _=>false) m) (λa _ ih m=>List.rec false (λb m _=>Bool.rec false (ih m) (qdr a b)) m) l
theorem YX:∀(l m:List Value),qir l m=jB l m
 |[],[]=>rfl
 |[],_ :: _=>rfl
 |_ :: _,[]=>rfl
 |a :: l,b :: m=>by
  show(Bool.rec false (qir l m) (qdr a b):Bool)=(vX a b&&jB l m);rw[YW,YX l m];cases vX a b<;>rfl
def GS(v u:Value):Bool:=qdq v (λa=>qdq u (λb=>qir a b) false) (qdq u (λ_=>false) (qdr v u))
theorem Wh(v u:Value):GS v u=eqK v u:=by
 have h:=YW v u;cases v<;>cases u<;>first|exact h|rfl|exact YX _ _
def qis(f:Lf)(v:Value):Bool:=Lf.rec (λk=>qiq v (λk' _=>Nat.beq (kN k) (kN k')) false) (qbR v (λ_=>true) false) f
theorem qit(f:Lf)(v:Value):qis f v=lfOk f v:=by
 cases f<;>cases v<;>first|rfl|exact qip _ _
def qlG(l:List Lf):List Value→Bool:=List.rec (motive:=λ_=>List Value→Bool) (λm=>List.rec true (λ_ _ _=>false) m) (λa _ ih m=>List.rec false (λb m _=>Bool.rec false (ih m) (qis a b)) m) l
theorem Wi:∀(l:List Lf)(m:List Value),qlG l m=qY l m
 |[],[]=>rfl
 |[],_ :: _=>rfl
 |_ :: _,[]=>rfl
 |a :: l,b :: m=>by
  show(Bool.rec false (qlG l m) (qis a b):Bool)=(lfOk a b&&qY l m);rw[qit,Wi l m];cases lfOk a b<;>rfl
def KJ(ag:Bool)(ls:List Lf)(v:Value):Bool:=Bool.rec (qlG ls [v]) (qdq v (λc=>qlG ls c) false) ag
theorem Qy(ag:Bool)(ls:List Lf)(v:Value):KJ ag ls v=qh ag ls v:=by
 cases ag with
 |false=>exact Wi _ _
 |true=>cases v<;>first|rfl|exact Wi _ _
def kG(es:List (Value×Option SV))(k:Value):Option SV:=List.rec (motive:=λ_=>Option SV) none (λp _ ih=>Bool.rec ih p.2 (GS p.1 k)) es
theorem zR(p:Value×Option SV)(es:List (Value×Option SV))(k:Value):kG (p :: es) k=if eqK p.1 k=true then p.2 else kG es k:=by
 show(Bool.rec (kG es k) p.2 (GS p.1 k):Option SV)=_;rw[Wh];cases eqK p.1 k<;>rfl
def RowL(n k:Nat)(l:List SV)(row:Nat→Nat→SV):Prop:=l.length=n*k∧∀i j,i<n→j<k→row i j=l.getD (i*k+j) .top
def BRel(lm:Option Loop):XB→Blk→Prop
 |.cells t l,.cells t' l'=>t=t'∧l=l'
 |.rows t k n l,.rows t' k' n' row=>t=t'∧k=k'∧n=n'∧RowL n k l row
 |.loop s,.loop L s'=>s=s'∧lm=some L
 |.map ag ls es,.map fit dom get=>fit=qh ag ls∧∀k,dom k=(kG es k).isSome∧∀s,kG es k=some s→get k=s
 |_,_=>False
def HRel(LM:Nat→Option Loop)(hp:Tr 6 XB)(H:List (Nat×Blk)):Prop:=∀id b,hp.find id=some b→∃b',blk H id=some b'∧BRel (LM id) b b'
variable{b:XB}
theorem BRel.any{lm:Option Loop}(h:BRel none b b'):BRel lm b b':=by
 cases b<;>cases b'<;>simp only[BRel,reduceCtorEq,and_false]at h ⊢<;>exact h
variable{hp:Tr 6 XB}
theorem HRel.cells(h:HRel LM hp H){id:Nat}{t:TypeId}{l:List SV}(e:hp.find id=some (.cells t l)):blk H id=some (.cells t l):=by
 obtain⟨b',h1,h2⟩:=h _ _ e;cases b'<;>simp only[BRel]at h2
 simp_all
theorem HRel.rows(h:HRel LM hp H){id:Nat}{t:TypeId}{l:List SV}(e:hp.find id=some (.rows t k n l)):∃row,blk H id=some (.rows t k n row)∧RowL n k l row:=by
 obtain⟨b',h1,h2⟩:=h _ _ e;cases b'<;>simp only[BRel]at h2
 grind
theorem HRel.map(h:HRel LM hp H){id:Nat}{ag:Bool}{ls:List Lf}{es:List (Value×Option SV)}(e:hp.find id=some (.map ag ls es)):∃dom get,blk H id=some (.map (qh ag ls) dom get)∧∀k,dom k=(kG es k).isSome∧∀s,kG es k=some s→get k=s:=by
 obtain⟨b',h1,h2⟩:=h _ _ e;cases b'<;>simp only[BRel]at h2
 grind
inductive XR:Type
 |pure (s:SV)
 |new (b:XB) (s:SV)
 |upd (id:Nat) (b:XB) (s:SV)
 |grow (old:Nat) (b:XB) (s:SV)
 |call (f:Nat) (args:List SV)
 |yield (id:Nat) (args:List SV)
def qqh(s:SV)(r:Res):Prop:=(∃obl,r=.pure obl s∧obl)∨∃obl,r=.ex obl∧obl s
def Hit(x:XR)(id:Nat)(r:Res):Prop:=
 match x with
 |.pure s=>qqh s r
 |.new b s=>∃obl b' mk,r=.new obl b' mk∧obl∧BRel none b b'∧mk id=s
 |.upd j b s=>(∃obl b',r=.upd obl j b'∧obl∧BRel none b b'∧s=undefSV)∨∃obl b',r=.updv obl j b' s∧obl∧BRel none b b'
 |.grow j b s=>∃obl b' mk,r=.grow obl j b' mk∧obl∧BRel none b b'∧mk id=s
 |.call g args=>r=.call g args
 |.yield y args=>r=.yield y args
def zX(ρ:Q)(f:XR→R)(id:Nat)(r:Res):Prop:=∃x,Hit x id r∧f x=.ok ρ
variable{f:XR→R}
theorem qi{id:Nat}(e:r=.pure obl s)(ho:obl)(h:f (.pure s)=.ok ρ):zX ρ f id r:=⟨.pure s,.inl ⟨obl,e,ho⟩,h⟩
theorem Zb{id:Nat}{obl:SV→Prop}(e:r=.ex obl)(ho:obl s)(h:f (.pure s)=.ok ρ):zX ρ f id r:=⟨.pure s,.inr ⟨obl,e,ho⟩,h⟩
theorem jq{id:Nat}{mk:Nat→SV}(h:f (.new b s)=.ok ρ)(e:r=.new obl b' mk)(ho:obl)(hb:BRel none b b')(hs:mk id=s):zX ρ f id r:=⟨.new b s,⟨obl,b',mk,e,ho,hb,hs⟩,h⟩
theorem kX{id:Nat}(h:f (.upd j b undefSV)=.ok ρ)(e:r=.upd obl j b')(ho:obl)(hb:BRel none b b'):zX ρ f id r:=⟨.upd j b undefSV,.inl ⟨obl,b',e,ho,hb,rfl⟩,h⟩
theorem Vi{id:Nat}(h:f (.upd j b s)=.ok ρ)(e:r=.updv obl j b' s)(ho:obl)(hb:BRel none b b'):zX ρ f id r:=⟨.upd j b s,.inr ⟨obl,b',e,ho,hb⟩,h⟩
theorem qfZ{id:Nat}{mk:Nat→SV}(h:f (.grow j b s)=.ok ρ)(e:r=.grow obl j b' mk)(ho:obl)(hb:BRel none b b')(hs:mk id=s):zX ρ f id r:=⟨.grow j b s,⟨obl,b',mk,e,ho,hb,hs⟩,h⟩
theorem qga{id g:Nat}(e:r=.call g args)(h:f (.call g args)=.ok ρ):zX ρ f id r:=⟨.call g args,e,h⟩
theorem qbS{id g:Nat}(e:r=.yield g args)(h:f (.yield g args)=.ok ρ):zX ρ f id r:=⟨.yield g args,e,h⟩
structure XE:Type where
 fns:Nat→Option (Func×List (Nat×List (Nat×Nat)))
 tys:TypeId→Option TyI
 pls:TypeId→Option (List (Nat×Nat))
 eqs:TypeId→Option (List Lf)
 sls:TypeId→Option (TypeId×Nat×List Value)
 mps:TypeId→Option jX
 prj:Nat→Option (Nat×Sh)
 str:TypeId→Bool
 orc:Nat→Option (List SV→Tr 6 XB→Nat→(SV→Tr 6 XB→Nat→R)→R)
 ctr:Nat→List (List SV×SV)
 ctn:Nat→List (List SV×(TypeId×Nat×Nat×List SV×SV))
def qiu(P:Program)(g:Nat)(qq_:List SV)(t:TypeId)(k n:Nat)(l:List SV)(s:SV):Prop:=∃row,zx P g qq_ (.rows t k n row) s∧RowL n k l row∧FreshO s∧FreshB (.rows t k n row)
def yb(P:Program)(g:Nat)(f:List SV→Tr 6 XB→Nat→(SV→Tr 6 XB→Nat→R)→R):Prop:=
 ∀(ρ:Q)(LM:Nat→Option Loop)(O:Ctx)(args:List SV)(hp:Tr 6 XB)(k:SV→Tr 6 XB→Nat→R)(st:St)(K:St→SV→Prop),HRel LM hp st.hp→f args hp st.nid k=.ok ρ→
  (∀s hp' nid' H',HRel LM hp' H'→k s hp' nid'=.ok ρ→K ⟨st.fr,H',nid'⟩ s)→ky P O g args st K
structure XOk(P:Program)(E:XE):Prop where
 tys:∀t ti,E.tys t=some ti→qn P t=some ti
 pls:∀t pl,E.pls t=some pl→qt P t=some pl
 eqs:∀t ls,E.eqs t=some ls→qW P t=some ls
 prj:∀g n i,E.prj g=some (n,i)→Ke P g n i
 str:∀t,E.str t=true→P.underlying t=some .string
 orc:∀g f,E.orc g=some f→yb P g f
 ctr:∀g qq_ s,(qq_,s)∈E.ctr g→qf P g qq_ s
 ctn:∀g qq_ t k n l s,(qq_,(t,k,n,l,s))∈E.ctn g→qiu P g qq_ t k n l s
 mps:∀t x,E.mps t=some x→qD P t=some x
 sls:∀t e k z,E.sls t=some (e,k,z)→(∃a b c,qn P t=some ⟨a,b,c,.slice e k⟩)∧(∃a b d,qn P e=some ⟨a,b,some z,d⟩)∧0<k∧z.length=k∧qF P e≤100000000
end
end Go.Sx
end
section
namespace Go.Sx
open Go.RowKit
noncomputable section
variable{i j k n o sz:Nat}{op:BinOp}{a x:SV}{t:TypeId}{l:List SV}{row:Nat→Nat→SV}
variable{ρ:Q}
section
variable{P:Program}{E:XE}{f:XR→R}{id:Nat}{hp:Tr 6 XB}{H:List (Nat×Blk)}{LM:Nat→Option Loop}
def jM(c:Nat)(k:IntKind)(n:Int)(f:XR→R):R:=YT n λn=>ql c (qlE k n) (f (.pure (.val (.int k n))))
theorem kg{c:Nat}{k:IntKind}{n:Int}(h:jM c k n f=.ok ρ):InK k n∧f (.pure (.val (.int k n)))=.ok ρ:=by
 unfold jM at h;rw[jL]at h;have h:=qe h;exact⟨Za h.1,h.2⟩
def Qz(b:Bool)(f:XR→R):R:=Kq b λb=>f (.pure (.val (.bool b)))
theorem jN(b:Bool):Qz b f=f (.pure (.val (.bool b))):=Q7 _ _
def Zc(s:SV)(f:XR→R):R:=svK s λs=>f (.pure s)
theorem kY(s:SV):Zc s f=f (.pure s):=Qx _ _
def qds(op:BinOp)(k:IntKind)(a b:Int)(f:XR→R):R:=
 match a,b with
 |.ofNat a,.ofNat b=>ql 10 (qlE k (.ofNat a)) (ql 11 (qlE k (.ofNat b)) (match op with
  |.and=>qm (Nat.land a b) λn=>f (.pure (.val (.int k (.ofNat n))))
  |.or=>qm (Nat.lor a b) λn=>f (.pure (.val (.int k (.ofNat n))))
  |_=>.bad 12 0))
 |_,_=>.bad 13 0
def qqi(k:IntKind)(a b:Int)(f:XR→R):R:=
 match b with
 |.ofNat b=>ql 14 (Nat.ble b k.bits) (jM 15 k (Int.mul a (.ofNat (Nat.pow 2 b))) f)
 |_=>.bad 16 0
def qqj(k:IntKind)(a b:Int)(f:XR→R):R:=
 match b with
 |.ofNat b=>ql 17 (Nat.ble b k.bits) (YT (Int.fdiv a (.ofNat (Nat.pow 2 b))) λn=>f (.pure (.val (.int k n))))
 |_=>.bad 18 0
def qgb(op:BinOp)(k:IntKind)(a b:Int)(f:XR→R):R:=
 match op with
 |.add=>jM 19 k (Int.add a b) f
 |.sub=>jM 20 k (Int.sub a b) f
 |.mul=>jM 21 k (Int.mul a b) f
 |.quo=>ql 22 (!JJ b 0) (jM 23 k (Int.tdiv a b) f)
 |.rem=>ql 24 (!JJ b 0) (jM 25 k (Int.tmod a b) f)
 |.eql=>Qz (JJ a b) f
 |.neq=>Qz (!JJ a b) f
 |.lss=>Qz (KA a b) f
 |.leq=>Qz (!KA b a) f
 |.gtr=>Qz (KA b a) f
 |.geq=>Qz (!KA a b) f
 |.shl=>qqi k a b f
 |.shr=>qqj k a b f
 |.and=>qds .and k a b f
 |.or=>qds .or k a b f
 |_=>.bad 26 0
theorem nlt(a b:Int):(!KA b a)=decide (a≤b):=by
 rw[KI,Bool.eq_iff_iff,Bool.not_eq_true',decide_eq_false_iff_not,decide_eq_true_eq];omega
theorem qqk(b:Nat):Int.ofNat (Nat.pow 2 b)=(2:Int)^(Int.ofNat b).toNat:=by
 show((2^b:Nat):Int)=_
 simp_all
theorem qO(a:Nat):0≤Int.ofNat a:=Int.natCast_nonneg a
theorem qlH{k:IntKind}{a b:Int}(h:qgb op k a b f=.ok ρ):zX ρ f id (rInt op k a b):=by
 cases op<;>simp only[qgb,jN,reduceCtorEq]at h
 ·exact qi rfl (kg h).1 (kg h).2
 ·exact qi rfl (kg h).1 (kg h).2
 ·exact qi rfl (kg h).1 (kg h).2
 ·obtain⟨h0,h⟩:=qe h
  rw[yK,Bool.not_eq_true',decide_eq_false_iff_not]at h0;exact qi rfl ⟨h0,(kg h).1⟩ (kg h).2
 ·obtain⟨h0,h⟩:=qe h
  rw[yK,Bool.not_eq_true',decide_eq_false_iff_not]at h0;exact qi rfl h0 (kg h).2
 ·unfold qds at h
  split at h
  ·obtain⟨h1,h⟩:=qe h
   obtain⟨h2,h⟩:=qe h;simp only[qj]at h;exact qi rfl ⟨qO _,Za h1,qO _,Za h2⟩ h
  ·cases h
 ·unfold qds at h
  split at h
  ·obtain⟨h1,h⟩:=qe h
   obtain⟨h2,h⟩:=qe h;simp only[qj]at h;exact qi rfl ⟨qO _,Za h1,qO _,Za h2⟩ h
  ·cases h
 ·unfold qqi at h
  split at h
  ·obtain⟨h1,h⟩:=qe h
   rw[qqk]at h;exact qi rfl ⟨qO _,xa7 h1,(kg h).1⟩ (kg h).2
  ·cases h
 ·unfold qqj at h
  split at h
  ·obtain⟨h1,h⟩:=qe h
   rw[qqk,jL]at h;exact qi rfl ⟨qO _,xa7 h1⟩ h
  ·cases h
 ·rw[yK]at h;exact qi rfl trivial h
 ·rw[yK]at h;exact qi rfl trivial h
 ·rw[KI]at h;exact qi rfl trivial h
 ·rw[nlt]at h;exact qi rfl trivial h
 ·rw[KI]at h;exact qi rfl trivial h
 ·rw[nlt]at h;exact qi rfl trivial h
def GT(E:XE)(op:BinOp)(t:TypeId)(isnil:Bool)(y:SV)(f:XR→R):R:=
 match y with
 |.val v=>ql 30 (nilSlice v) (match E.tys t with
  |some ⟨_,_,_,.slice _ _⟩=>(match op with
   |.eql=>Qz isnil f
   |.neq=>Qz (!isnil) f
   |_=>.bad 31 0)
  |_=>.bad 32 0)
 |_=>.bad 33 0
theorem yc(hE:XOk P E){isnil:Bool}{y:SV}(h:GT E op t isnil y f=.ok ρ):∃v s,y=.val v∧f (.pure s)=.ok ρ∧∀obl,rNilS P op t obl isnil v=.pure obl s:=by
 unfold GT at h;split at h
 ·rename_i v
  obtain⟨h1,h⟩:=qe h;split at h
  ·rename_i a b c e k ht
   have ht:=hE.tys _ _ ht;split at h
   ·rw[jN]at h;exact⟨v,_,rfl,h,λobl=>by simp only[rNilS,h1,ht]⟩
   ·rw[jN]at h;exact⟨v,_,rfl,h,λobl=>by simp only[rNilS,h1,ht]⟩
   ·cases h
  ·cases h
 ·cases h
def xEq(E:XE)(op:BinOp)(t:TypeId)(l m:List SV)(f:XR→R):R:=
 match E.eqs t with
 |some ls=>ql 34 (fitS ls l) (ql 35 (fitS ls m) (match op with
  |.eql=>Qz (eqSVs l m) f
  |.neq=>Qz (!eqSVs l m) f
  |_=>.bad 36 0))
 |none=>.bad 37 0
theorem qoA(hE:XOk P E){m:List SV}(h:xEq E op t l m f=.ok ρ):zX ρ f id (rEq P op t l m):=by
 unfold xEq at h;split at h
 ·rename_i ls hl
  have hl:=hE.eqs _ _ hl;obtain⟨h1,h⟩:=qe h;obtain⟨h2,h⟩:=qe h;split at h
  ·rw[jN]at h;exact qi (obl:=fitS ls l=true∧fitS ls m=true) (by simp only[rEq,hl]) ⟨h1,h2⟩ h
  ·rw[jN]at h;exact qi (obl:=fitS ls l=true∧fitS ls m=true) (by simp only[rEq,hl]) ⟨h1,h2⟩ h
  ·cases h
 ·cases h
def qnJ(E:XE)(op:BinOp)(t:TypeId)(a b:Bool)(f:XR→R):R:=
 match E.tys t with
 |some ⟨_,_,_,.bool⟩=>(match op with
  |.eql=>Qz (a == b) f
  |.neq=>Qz (!(a == b)) f
  |_=>.bad 38 0)
 |_=>.bad 39 0
def qnK(E:XE)(op:BinOp)(t:TypeId)(u:Value)(y:SV)(f:XR→R):R:=
 match u with
 |.int k a=>(match y with|.val (.int k' b)=>ql 40 (eqKind k k') (qgb op k a b f)|_=>.bad 41 0)
 |.slice a n c=>GT E op t a.isNone y f
 |.bool a=>(match y with|.val (.bool b)=>qnJ E op t a b f|_=>.bad 42 0)
 |_=>.bad 43 0
def qbT(E:XE)(op:BinOp)(t:TypeId)(x y:SV)(f:XR→R):R:=
 match x with
 |.val u=>qnK E op t u y f
 |.agg l=>(match y with|.agg m=>xEq E op t l m f|_=>.bad 44 0)
 |.vec _ n _=>ql 45 (Nat.ble 1 n) (GT E op t false y f)
 |.cut _ n _=>ql 46 (Nat.ble 1 n) (GT E op t false y f)
 |.arr _ _ n _ _=>ql 47 (Nat.ble 1 n) (GT E op t false y f)
 |.asl _ _ _ _=>GT E op t false y f
 |_=>.bad 48 0
theorem qdt(a b:Bool):(a == b)=decide (a=b):=by cases a<;>cases b<;>rfl
theorem qlI(hE:XOk P E){y:SV}(h:qbT E op t x y f=.ok ρ):zX ρ f id (rBin P op t x y):=by
 unfold qbT at h;split at h
 ·rename_i u
  unfold qnK at h;split at h
  ·split at h
   ·obtain⟨h1,h2⟩:=qe h
    have e:=vw h1;subst e;have:∀(a b:Int)(k:IntKind),eqKind k k=true→rBin P op t (.val (.int k a)) (.val (.int k b))=rInt op k a b:=λa b k hk=>by simp only[rBin,hk,if_true]
    rw[this _ _ _ h1];exact qlH h2
   ·cases h
  ·obtain⟨v,s,rfl,h1,h2⟩:=yc hE h
   exact qi (h2 True) trivial h1
  ·split at h
   ·unfold qnJ at h
    split at h
    ·rename_i ht
     have ht:=hE.tys _ _ ht;split at h
     ·rw[jN,qdt]at h;exact qi (by simp only[rBin,ht]) trivial h
     ·rw[jN,qdt]at h;exact qi (by simp only[rBin,ht]) trivial h
     ·cases h
    ·cases h
   ·cases h
  ·cases h
 ·split at h
  ·exact qoA hE h
  ·cases h
 ·obtain⟨h0,h⟩:=qe h
  obtain⟨v,s,rfl,h1,h2⟩:=yc hE h;exact qi (h2 _) (xa7 h0) h1
 ·obtain⟨h0,h⟩:=qe h
  obtain⟨v,s,rfl,h1,h2⟩:=yc hE h;exact qi (h2 _) (xa7 h0) h1
 ·obtain⟨h0,h⟩:=qe h
  obtain⟨v,s,rfl,h1,h2⟩:=yc hE h;exact qi (h2 _) (xa7 h0) h1
 ·obtain⟨v,s,rfl,h1,h2⟩:=yc hE h
  exact qi (h2 _) trivial h1
 ·cases h
def xUn(op:UnOp)(x:SV)(f:XR→R):R:=
 match x with
 |.val (.int k a)=>(match op with|.neg=>jM 50 k (Int.sub 0 a) f|_=>.bad 51 0)
 |.val (.bool b)=>(match op with|.not=>Qz (!b) f|_=>.bad 52 0)
 |_=>.bad 53 0
theorem qoB{op:UnOp}(h:xUn op x f=.ok ρ):zX ρ f id (rUn op x):=by
 unfold xUn at h;split at h
 ·split at h
  ·exact qi rfl (kg h).1 (kg h).2
  ·cases h
 ·split at h
  ·rw[jN]at h;exact qi rfl trivial h
  ·cases h
 ·cases h
def qdu(E:XE)(s t:TypeId)(x:SV)(f:XR→R):R:=
 match E.tys s,E.tys t with
 |some _,some ⟨_,_,_,.int k⟩=>(match x with|.val (.int _ n)=>jM 54 k n f|_=>.bad 55 0)
 |_,_=>.bad 56 0
theorem qiv(hE:XOk P E){s:TypeId}(h:qdu E s t x f=.ok ρ):zX ρ f id (rConv (qn P s) (qn P t) x):=by
 unfold qdu at h;split at h
 ·rename_i hs ht
  rw[hE.tys _ _ hs,hE.tys _ _ ht];split at h
  ·exact qi rfl (kg h).1 (kg h).2
  ·cases h
 ·cases h
def qdv(c a b:SV)(f:XR→R):R:=
 match c with
 |.val (.bool c)=>(match c with|true=>f (.pure a)|false=>f (.pure b))
 |_=>.bad 57 0
theorem qiw{c b:SV}(h:qdv c a b f=.ok ρ):zX ρ f id (rPick c a b):=by
 unfold qdv at h;split at h
 ·split at h
  ·exact qi rfl trivial h
  ·exact qi rfl trivial h
 ·cases h
def Wj(E:XE)(t:TypeId)(id:Nat)(f:XR→R):R:=
 match E.tys t with
 |some ⟨_,_,some z,_⟩=>Qb (vals z) λz=>f (.new (.cells t z) (.ptr id 0))
 |_=>.bad 60 0
theorem qgc(hE:XOk P E)(h:Wj E t id f=.ok ρ):zX ρ f id (rAlloc (qn P t) t):=by
 unfold Wj at h;split at h
 ·rename_i ht
  rw[ku]at h;rw[hE.tys _ _ ht];exact jq h rfl trivial ⟨rfl,rfl⟩ rfl
 ·cases h
def qlJ(E:XE)(t:TypeId)(x:SV)(id:Nat)(f:XR→R):R:=
 match E.tys t with
 |some ⟨true,_,_,_⟩=>(match x with
  |.agg l=>f (.new (.cells t l) (.ptr id 0))
  |_=>.bad 61 0)
 |some ⟨false,_,_,_⟩=>ql 62 (oneCell x) (f (.new (.cells t [x]) (.ptr id 0)))
 |none=>.bad 63 0
theorem qlK(hE:XOk P E)(h:qlJ E t x id f=.ok ρ):zX ρ f id (rBox (qn P t) t x):=by
 unfold qlJ at h;split at h
 ·rename_i ht
  rw[hE.tys _ _ ht];split at h
  ·exact jq h rfl trivial ⟨rfl,rfl⟩ rfl
  ·cases h
 ·rename_i ht
  rw[hE.tys _ _ ht];obtain⟨h1,h⟩:=qe h;exact jq h rfl h1 ⟨rfl,rfl⟩ rfl
 ·cases h
def ye(l:List SV)(o:Nat)(f:XR→R):R:=match l[o]? with|some s=>f (.pure s)|none=>.bad 64 0
def yf(l:List SV)(o sz:Nat)(f:XR→R):R:=ql 65 (Nat.ble (o+sz) l.length) (gI ((l.drop o).take sz) λl=>f (.pure (.agg l)))
theorem vG(h:ye l o f=.ok ρ):∃s,l[o]? = some s∧f (.pure s)=.ok ρ:=by
 unfold ye at h;split at h
 ·simp_all
 ·cases h
theorem yL(h:yf l o sz f=.ok ρ):o+sz≤l.length∧f (.pure (.agg ((l.drop o).take sz)))=.ok ρ:=by
 unfold yf at h;obtain⟨h1,h⟩:=qe h;rw[qX]at h
 simp_all
def Qh(k k' n i j sz:Nat)(g:Nat→R):R:=ql 66 (Nat.beq k k') (ql 67 (Nat.ble (Nat.succ i) n) (ql 68 (Nat.ble (j+sz) k) (qm (i*k+j) g)))
theorem Zd{k':Nat}{g:Nat→R}(h:Qh k k' n i j sz g=.ok ρ):k=k'∧i<n∧j+sz≤k∧g (i*k+j)=.ok ρ:=by
 unfold Qh at h;obtain⟨h1,h⟩:=qe h;obtain⟨h2,h⟩:=qe h;obtain⟨h3,h⟩:=qe h;rw[qj]at h;(simp_all;omega)
def ZV(hp:Tr 6 XB)(a:SV)(f:XR→R):R:=
 match a with
 |.ptr id off=>(match hp.find id with
  |some (.cells _ l)=>ye l off f
  |_=>.bad 69 0)
 |.elt id k i j=>(match hp.find id with
  |some (.rows _ k' n l)=>Qh k k' n i j 1 λo=>ye l o f
  |_=>.bad 70 0)
 |.ref _ n row=>ql 71 (Nat.ble 1 n) (Zc (row 0) f)
 |_=>.bad 72 0
def ZW(hp:Tr 6 XB)(sz:Nat)(a:SV)(f:XR→R):R:=
 match a with
 |.ptr id off=>(match hp.find id with
  |some (.cells _ l)=>yf l off sz f
  |_=>.bad 73 0)
 |.elt id k i j=>(match hp.find id with
  |some (.rows _ k' n l)=>Qh k k' n i j sz λo=>yf l o sz f
  |_=>.bad 74 0)
 |.ref _ n row=>ql 75 (Nat.ble sz n) (Qb (sel row 0 sz) λl=>f (.pure (.agg l)))
 |_=>.bad 76 0
def YY(E:XE)(hp:Tr 6 XB)(t:TypeId)(a:SV)(f:XR→R):R:=
 match E.tys t with
 |some ⟨false,_,_,_⟩=>ZV hp a f
 |some ⟨true,sz,_,_⟩=>ZW hp sz a f
 |none=>.bad 77 0
theorem gm(hi:i<n)(hj:j<k):i*k+j<n*k:=by
 have:=xa8 k (show i+1≤n from hi)
 grind
theorem RowL.get(h:RowL n k l row)(hi:i<n)(hj:j<k){s:SV}(hs:l[i*k+j]? = some s):row i j=s:=by
 rw[h.2 i j hi hj,xc6,hs];rfl
theorem RowL.sel(h:RowL n k l row)(hi:i<n)(hj:j+sz≤k):sel (row i) j sz=(l.drop (i*k+j)).take sz:=by
 refine List.ext_getElem? λq=>?_;rw[yu,List.getElem?_take];by_cases c:q<sz
 ·rw[if_pos c,if_pos c,List.getElem?_drop,h.2 i (j+q) hi Ω,xc6]
  have:i*k+j+q<l.length:=by rw[h.1];have:=gm (k:=k) hi (Ω:j+q<k);omega
  grind
 ·grind
theorem YZ(hE:XOk P E)(hH:HRel LM hp H)(h:YY E hp t a f=.ok ρ):zX ρ f id (rLoad (qn P t) H a):=by
 unfold YY at h;split at h
 ·rename_i ht
  rw[hE.tys _ _ ht];unfold ZV at h;split at h
  ·split at h
   ·rename_i hb
    obtain⟨s,h1,h2⟩:=vG h;simp only[rLoad,hH.cells hb];exact Zb rfl h1 h2
   ·cases h
  ·split at h
   ·rename_i hb
    obtain⟨row,hb,hr⟩:=hH.rows hb;obtain⟨rfl,h1,h2,h⟩:=Zd h;obtain⟨s,h3,h4⟩:=vG h;have:=hr.get h1 h2 h3;subst this;simp only[rLoad,hb];exact qi rfl ⟨trivial,h1,h2⟩ h4
   ·cases h
  ·obtain⟨h1,h⟩:=qe h
   rw[kY]at h;exact qi rfl (xa7 h1) h
  ·cases h
 ·rename_i sz _ _ ht
  rw[hE.tys _ _ ht];unfold ZW at h;split at h
  ·split at h
   ·rename_i hb
    obtain⟨h1,h2⟩:=yL h;simp only[rLoad,hH.cells hb];exact qi rfl h1 h2
   ·cases h
  ·split at h
   ·rename_i hb
    obtain⟨row,hb,hr⟩:=hH.rows hb;obtain⟨rfl,h1,h2,h⟩:=Zd h;obtain⟨h3,h4⟩:=yL h;rw[←hr.sel h1 h2]at h4;simp only[rLoad,hb];exact qi rfl ⟨trivial,h1,h2⟩ h4
   ·cases h
  ·obtain⟨h1,h⟩:=qe h
   rw[ku]at h;exact qi rfl (xa7 h1) h
  ·cases h
 ·cases h
def Y0(s:SV)(l:List SV)(o:Nat)(g:List SV→R):R:=ql 78 (Nat.ble (Nat.succ o) l.length) (gI (l.set o s) g)
def setN(vs:List SV)(l:List SV)(o:Nat)(g:List SV→R):R:=ql 79 (Nat.ble (o+vs.length) l.length) (gI (l.take o++vs++l.drop (o+vs.length)) g)
def Ze(hp:Tr 6 XB)(a v:SV)(f:XR→R):R:=
 match a with
 |.ptr id off=>(match hp.find id with
  |some (.cells t l)=>Y0 v l off λl=>f (.upd id (.cells t l) undefSV)
  |_=>.bad 80 0)
 |.elt id k i j=>(match hp.find id with
  |some (.rows t k' n l)=>Qh k k' n i j 1 λo=>Y0 v l o λl=>f (.upd id (.rows t k' n l) undefSV)
  |_=>.bad 81 0)
 |_=>.bad 82 0
def qdw(hp:Tr 6 XB)(a:SV)(vs:List SV)(f:XR→R):R:=
 match a with
 |.ptr id off=>(match hp.find id with
  |some (.cells t l)=>setN vs l off λl=>f (.upd id (.cells t l) undefSV)
  |_=>.bad 83 0)
 |.elt id k i j=>(match hp.find id with
  |some (.rows t k' n l)=>Qh k k' n i j vs.length λo=>setN vs l o λl=>f (.upd id (.rows t k' n l) undefSV)
  |_=>.bad 84 0)
 |_=>.bad 85 0
def GU(E:XE)(hp:Tr 6 XB)(t:TypeId)(a v:SV)(f:XR→R):R:=
 match E.tys t with
 |some ⟨false,sz,_,_⟩=>ql 86 (oneCell v) (ql 87 (Nat.beq sz 1) (Ze hp a v f))
 |some ⟨true,sz,_,_⟩=>(match v with
  |.agg vs=>ql 88 (allOne vs) (ql 89 (Nat.beq vs.length sz) (qdw hp a vs f))
  |_=>.bad 90 0)
 |none=>.bad 91 0
theorem qdx{s:SV}{g:List SV→R}(h:Y0 s l o g=.ok ρ):o<l.length∧g (l.set o s)=.ok ρ:=by
 unfold Y0 at h;obtain⟨h1,h⟩:=qe h;rw[qX]at h;(simp_all;omega)
theorem qdy{vs:List SV}{g:List SV→R}(h:setN vs l o g=.ok ρ):o+vs.length≤l.length∧g (l.take o++vs++l.drop (o+vs.length))=.ok ρ:=by
 unfold setN at h;obtain⟨h1,h⟩:=qe h;rw[qX]at h
 simp_all
theorem qlL{a b:Nat}(hj:j<k)(hb:b<k):a*k+b=i*k+j↔a=i∧b=j:=by
 constructor
 ·intro h
  have h1:(a*k+b) / k=a:=by rw[Nat.mul_comm,Nat.mul_add_div Ω,Nat.div_eq_of_lt hb,xb1]
  have h2:(i*k+j) / k=i:=by rw[Nat.mul_comm,Nat.mul_add_div Ω,Nat.div_eq_of_lt hj,xb1]
  simp_all
 ·simp_all
theorem RowL.set(h:RowL n k l row)(hi:i<n)(hj:j<k)(v:SV):RowL n k (l.set (i*k+j) v) (λa b=>if a=i∧b=j then v else row a b):=by
 refine⟨by rw[xe5];exact h.1,λa b ha hb=>?_⟩;have hlt:i*k+j<l.length:=by rw[h.1];exact gm hi hj
 show(if a=i∧b=j then v else row a b)=_;rw[xc6,List.getElem?_set];by_cases c:a=i∧b=j
 ·simp_all
 ·rw[if_neg c,if_neg (λe=>c ((qlL hj hb).1 e.symm)),h.2 a b ha hb,xc6]
theorem RowL.setN{vs:List SV}(h:RowL n k l row)(hi:i<n)(hj:j+vs.length≤k):RowL n k (l.take (i*k+j)++vs++l.drop (i*k+j+vs.length)) (λa b=>if a=i∧j≤b∧b<j+vs.length then vs.getD (b - j) .top else row a b):=by
 by_cases hk:k=0
 ·simp_all
 have hend:i*k+j+vs.length≤l.length:=by
  rw[h.1];have:=xa8 k (show i+1≤n from hi)
  grind
 refine⟨by rw[xc8,xc8,xd9,List.length_drop,←h.1];omega,λa b ha hb=>?_⟩;have ht:(l.take (i*k+j)).length=i*k+j:=by rw[xd9];omega
 show(if a=i∧j≤b∧b<j+vs.length then vs.getD (b - j) .top else row a b)=_;rw[xc6,h.2 a b ha hb,xc6,xc6];by_cases c:a=i∧j≤b∧b<j+vs.length
 ·obtain⟨rfl,c1,c2⟩:=c
  rw[if_pos ⟨rfl,c1,c2⟩,xc9 (by rw[xc8,ht];omega),xd0 Ω,ht]
  congr 2;omega
 ·rw[if_neg c]
  by_cases d:a*k+b<i*k+j
  ·rw[xc9 (by rw[xc8,ht];omega),xc9 Ω,List.getElem?_take,if_pos d]
  ·have hge:i*k+j+vs.length≤a*k+b:=by
    by_cases e:a=i
    ·subst e
     have:¬(j≤b∧b<j+vs.length):=λx=>c ⟨rfl,x⟩;omega
    ·have:i+1≤a:=by
      refine xf9 λx=>?_;have:=xa8 k (Ω:a+1≤i);rw[Nat.add_mul,Nat.one_mul]at this;omega
     have:=xa8 k this;rw[Nat.add_mul,Nat.one_mul]at this;omega
   rw[xd0 (by rw[xc8,ht];omega),xc8,ht,List.getElem?_drop]
   congr 2;omega
theorem qgd(hE:XOk P E)(hH:HRel LM hp H){v:SV}(h:GU E hp t a v f=.ok ρ):zX ρ f id (rStore (qn P t) H a v):=by
 unfold GU at h;split at h
 ·rename_i ht
  rw[hE.tys _ _ ht];obtain⟨h1,h⟩:=qe h;obtain⟨h2,h⟩:=qe h;have h2:=xa6 h2;unfold Ze at h;split at h
  ·split at h
   ·rename_i hb
    obtain⟨h3,h⟩:=qdx h;simp only[rStore,hH.cells hb];exact kX h rfl ⟨h3,h1,h2⟩ ⟨rfl,rfl⟩
   ·cases h
  ·split at h
   ·rename_i hb
    obtain⟨row,hb,hr⟩:=hH.rows hb;obtain⟨rfl,h3,h4,h⟩:=Zd h;obtain⟨h5,h⟩:=qdx h;simp only[rStore,hb];exact kX h rfl ⟨trivial,h3,h4,h1,h2⟩ ⟨rfl,rfl,rfl,hr.set h3 h4 v⟩
   ·cases h
  ·cases h
 ·rename_i sz _ _ ht
  rw[hE.tys _ _ ht];split at h
  ·rename_i vs
   obtain⟨h1,q1⟩:=qe h;obtain⟨h2,q⟩:=qe q1;have h2:=xa6 h2;subst h2;unfold qdw at q;split at q
   ·split at q
    ·rename_i hb
     obtain⟨h3,q⟩:=qdy q;simp only[rStore,hH.cells hb];exact kX q rfl ⟨h3,trivial,h1⟩ ⟨rfl,rfl⟩
    ·cases q
   ·split at q
    ·rename_i hb
     obtain⟨row,hb,hr⟩:=hH.rows hb;obtain⟨rfl,h3,h4,q⟩:=Zd q;obtain⟨h5,q⟩:=qdy q;simp only[rStore,hb];exact kX q rfl ⟨trivial,h3,h4,trivial,h1⟩ ⟨rfl,rfl,rfl,hr.setN h3 h4⟩
    ·cases q
   ·cases q
  ·cases h
 ·cases h
end
end
end Go.Sx
end
section
namespace Go.Sx
open Go.RowKit
noncomputable section
variable{x:SV}{t:TypeId}{i k m n:Nat}{l:List SV}{row:Nat→Nat→SV}
variable{ρ:Q}
section
variable{P:Program}{E:XE}{f:XR→R}{id:Nat}{hp:Tr 6 XB}{H:List (Nat×Blk)}{LM:Nat→Option Loop}
def qix(x:SV)(f:XR→R):R:=
 match x with
 |.ptr id off=>f (.pure (.ptr id off))
 |.elt id k i j=>f (.pure (.elt id k i j))
 |.ref o n row=>f (.pure (.ref o n row))
 |.fn (.func g) a b=>f (.pure (.fn (.func g) a b))
 |_=>.bad 100 0
theorem qlM(h:qix x f=.ok ρ):zX ρ f id (rNil x):=by
 unfold qix at h;split at h<;>first|exact qi rfl trivial h|cases h
def Zf(x:SV)(o:Nat)(f:XR→R):R:=
 match x with
 |.ptr id off=>Zc (.ptr id (off+o)) f
 |.elt id k i j=>Zc (.elt id k i (j+o)) f
 |.ref b n row=>ql 101 (Nat.ble o n) (f (.pure (.ref b (n - o) (λj=>row (o+j)))))
 |_=>.bad 102 0
def va(E:XE)(t:TypeId)(x:SV)(i:Nat)(f:XR→R):R:=
 match E.tys t with
 |some ⟨_,_,_,.struct fs⟩=>(match fs[i]? with
  |some (o,s,_)=>ql 103 (Nat.ble 1 s) (Zf x o f)
  |none=>.bad 104 0)
 |_=>.bad 105 0
theorem JK(hE:XOk P E)(h:va E t x i f=.ok ρ):zX ρ f id (rFieldAddr (qn P t) x i):=by
 unfold va at h;split at h
 ·rename_i ht
  rw[hE.tys _ _ ht];split at h
  ·rename_i o s ag hf
   obtain⟨h1,q⟩:=qe h;have h1:s≠0:=by have:=xa7 h1;omega
   unfold Zf at q;simp only[rFieldAddr,hf];split at q
   ·rw[kY]at q;exact qi rfl h1 q
   ·rw[kY]at q;exact qi rfl h1 q
   ·obtain⟨h2,q⟩:=qe q
    exact qi rfl ⟨h1,xa7 h2⟩ q
   ·cases q
  ·cases h
 ·cases h
def Wl(E:XE)(t:TypeId)(x:SV)(i:Nat)(f:XR→R):R:=
 match E.tys t with
 |some ⟨_,_,_,.struct fs⟩=>(match fs[i]? with
  |some (o,s,ag)=>(match x with
   |.agg l=>(match ag with
    |some true=>yf l o s f
    |some false=>ye l o f
    |none=>.bad 106 0)
   |_=>.bad 107 0)
  |none=>.bad 108 0)
 |_=>.bad 109 0
theorem qge(hE:XOk P E)(h:Wl E t x i f=.ok ρ):zX ρ f id (rField (qn P t) x i):=by
 unfold Wl at h;split at h
 ·rename_i ht
  rw[hE.tys _ _ ht];split at h
  ·rename_i o s ag hf
   split at h
   ·simp only[rField,hf]
    split at h
    ·obtain⟨h1,h2⟩:=yL h;exact qi rfl h1 h2
    ·obtain⟨s,h1,h2⟩:=vG h;exact Zb rfl h1 h2
    ·cases h
   ·cases h
  ·cases h
 ·cases h
def JL(i:SV)(n:Nat)(g:Nat→R):R:=
 match i with
 |.val (.int _ (.ofNat i))=>ql 110 (Nat.ble (Nat.succ i) n) (g i)
 |_=>.bad 111 0
theorem vn{i:SV}{g:Nat→R}(h:JL i n g=.ok ρ):∃k a,i=.val (.int k (.ofNat a))∧0≤Int.ofNat a∧Int.ofNat a<(n:Int)∧g a=.ok ρ:=by
 unfold JL at h;split at h
 ·obtain⟨h1,h⟩:=qe h
  exact⟨_,_,rfl,qO _,by have:=xa7 h1;simp only[Int.ofNat_eq_natCast];omega,h⟩
 ·cases h
def qdz(k:Nat)(x i:SV)(f:XR→R):R:=
 match x with
 |.arr o _ n k' row=>ql 112 (Nat.beq k' k) (JL i n λi=>f (.pure (.ref o k (row i))))
 |.vec id n k'=>ql 113 (Nat.beq k' k) (JL i n λi=>f (.pure (.elt id k i 0)))
 |.asl id off n k'=>ql 114 (Nat.beq k' k) (JL i n λi=>Zc (.ptr id (off+i*k)) f)
 |.que id off n k'=>ql 115 (Nat.beq k' k) (JL i n λi=>Zc (.elt id k (off+i) 0) f)
 |_=>.bad 116 0
def qdA(n k:Nat)(x i:SV)(f:XR→R):R:=
 match x with
 |.ptr id off=>JL i n λi=>Zc (.ptr id (off+i*k)) f
 |.ref o m row=>JL i n λi=>ql 117 (Nat.ble (i*k) m) (f (.pure (.ref o (m - i*k) (λj=>row (i*k+j)))))
 |_=>.bad 118 0
def ws(E:XE)(t:TypeId)(x i:SV)(f:XR→R):R:=
 match E.tys t with
 |some ⟨_,_,_,.slice _ k⟩=>qdz k x i f
 |some ⟨_,_,_,.array n _ k⟩=>qdA n k x i f
 |_=>.bad 119 0
theorem JM(hE:XOk P E){i:SV}(h:ws E t x i f=.ok ρ):zX ρ f id (rIndexAddr (qn P t) x i):=by
 unfold ws at h;split at h
 ·rename_i ht
  rw[hE.tys _ _ ht];unfold qdz at h;split at h
  ·obtain⟨h1,h⟩:=qe h
   obtain⟨_,a,rfl,h2,h3,h⟩:=vn h;exact qi rfl ⟨h2,h3,xa6 h1⟩ h
  ·obtain⟨h1,h⟩:=qe h
   obtain⟨_,a,rfl,h2,h3,h⟩:=vn h;exact qi rfl ⟨h2,h3,xa6 h1⟩ h
  ·obtain⟨h1,h⟩:=qe h
   obtain⟨_,a,rfl,h2,h3,h⟩:=vn h;rw[kY]at h;exact qi rfl ⟨h2,h3,xa6 h1⟩ h
  ·obtain⟨h1,h⟩:=qe h
   obtain⟨_,a,rfl,h2,h3,h⟩:=vn h;rw[kY]at h;exact qi rfl ⟨h2,h3,xa6 h1⟩ h
  ·cases h
 ·rename_i ht
  rw[hE.tys _ _ ht];unfold qdA at h;split at h
  ·obtain⟨_,a,rfl,h2,h3,h⟩:=vn h
   rw[kY]at h;exact qi rfl ⟨h2,h3⟩ h
  ·obtain⟨_,a,rfl,h2,h3,h⟩:=vn h
   obtain⟨h1,h⟩:=qe h;exact qi rfl ⟨h2,h3,xa7 h1⟩ h
  ·cases h
 ·cases h
def qdB(E:XE)(e:TypeId)(n k:Nat)(l:List SV)(i:SV)(f:XR→R):R:=
 match E.tys e with
 |some ⟨true,_,_,_⟩=>JL i n λi=>yf l (i*k) k f
 |some ⟨false,_,_,_⟩=>ql 120 (Nat.beq k 1) (JL i n λi=>ye l i f)
 |none=>.bad 121 0
def qdC(s:ByteArray)(i:SV)(f:XR→R):R:=
 match i with
 |.val (.int _ (.ofNat a))=>(match s[a]? with
  |some b=>qm b.toNat λn=>f (.pure (.val (.int .u8 (.ofNat n))))
  |none=>.bad 159 0)
 |_=>.bad 159 1
def Wm(E:XE)(t:TypeId)(x i:SV)(f:XR→R):R:=
 match E.tys t with
 |some ⟨_,_,_,.array n e k⟩=>(match x with
  |.agg l=>qdB E e n k l i f
  |_=>.bad 122 0)
 |some ⟨_,_,_,.other⟩=>(match x with
  |.val (.string s)=>ql 158 (E.str t) (qdC s i f)
  |_=>.bad 123 t)
 |_=>.bad 123 0
theorem qgf(hE:XOk P E){i:SV}(h:Wm E t x i f=.ok ρ):zX ρ f id (rIndex P t x i):=by
 unfold Wm at h;split at h
 ·rename_i ht
  have ht:=hE.tys _ _ ht;split at h
  ·unfold qdB at h
   split at h
   ·rename_i he
    have he:=hE.tys _ _ he;obtain⟨_,a,rfl,h2,h3,h⟩:=vn h;obtain⟨h4,h5⟩:=yL h;simp only[rIndex,ht,he];exact qi rfl ⟨h2,h3,h4⟩ h5
   ·rename_i he
    have he:=hE.tys _ _ he;obtain⟨h1,h⟩:=qe h;obtain⟨_,a,rfl,h2,h3,h⟩:=vn h;obtain⟨s,h4,h5⟩:=vG h;simp only[rIndex,ht,he];exact Zb rfl ⟨h2,h3,xa6 h1,h4⟩ h5
   ·cases h
  ·cases h
 ·rename_i ht
  have ht:=hE.tys _ _ ht;split at h
  ·obtain⟨h1,h⟩:=qe h
   have hu:=hE.str _ h1;unfold qdC at h;split at h
   ·split at h
    ·rename_i b hb
     rw[qj]at h;simp only[rIndex,ht,hu];exact Zb rfl ⟨qO _,b,hb,rfl⟩ h
    ·cases h
   ·cases h
  ·cases h
 ·cases h
def Zg(x:SV)(i:Nat)(f:XR→R):R:=
 match x with
 |.tup l=>ye l i f
 |_=>.bad 124 0
theorem Y1(h:Zg x i f=.ok ρ):zX ρ f id (rExtract x i):=by
 unfold Zg at h;split at h
 ·obtain⟨s,h1,h2⟩:=vG h;exact Zb rfl h1 h2
 ·cases h
def qiy(x:SV)(f:XR→R):R:=
 match x with
 |.arr _ _ n _ _=>f (.pure (Ψ (Φ Γ (.ofNat n))))
 |.vec _ n _=>f (.pure (Ψ (Φ Γ (.ofNat n))))
 |.asl _ _ n _=>f (.pure (Ψ (Φ Γ (.ofNat n))))
 |.que _ _ n _=>f (.pure (Ψ (Φ Γ (.ofNat n))))
 |.cut _ n _=>f (.pure (Ψ (Φ Γ (.ofNat n))))
 |.val (.slice none 0 0)=>f (.pure (Ψ (Φ Γ 0)))
 |_=>.bad 125 0
def qgg(E:XE)(t:TypeId)(x:SV)(f:XR→R):R:=
 match E.tys t with
 |some ⟨_,_,_,.slice _ _⟩=>qiy x f
 |some ⟨_,_,_,.array n _ _⟩=>f (.pure (Ψ (Φ Γ (.ofNat n))))
 |_=>.bad 126 0
theorem qlN(hE:XOk P E)(h:qgg E t x f=.ok ρ):zX ρ f id (rLen (qn P t) x):=by
 unfold qgg at h;split at h
 ·rename_i ht
  rw[hE.tys _ _ ht];unfold qiy at h;split at h<;>first|exact qi rfl trivial h|cases h
 ·rename_i ht
  rw[hE.tys _ _ ht];exact qi rfl trivial h
 ·cases h
def qiz(mx:Bool)(a b:Int):Int:=Bool.rec (Bool.rec b a (KA a b)) (Bool.rec a b (KA a b)) mx
theorem Wn(mx:Bool)(a b:Int):qiz mx a b=if mx=true then max a b else min a b:=by
 unfold qiz;rw[KI];by_cases c:a<b
 ·rw[decide_eq_true c];cases mx<;>simp<;>omega
 ·rw[decide_eq_false c];cases mx<;>simp<;>omega
def qlO(mx:Bool)(l:List SV)(f:XR→R):R:=
 match l with
 |[.val (.int k a),.val (.int k' b)]=>ql 127 (eqKind k k') (YT (qiz mx a b) λn=>f (.pure (.val (.int k n))))
 |[.val (.int k a),.val (.int k' b),.val (.int k'' c)]=>ql 128 (eqKind k k') (ql 129 (eqKind k k'') (YT (qiz mx (qiz mx a b) c) λn=>f (.pure (.val (.int k n)))))
 |_=>.bad 130 0
theorem qdD{mx:Bool}(h:qlO mx l f=.ok ρ):zX ρ f id (rMin mx l):=by
 unfold qlO at h;split at h
 ·obtain⟨h1,h⟩:=qe h
  rw[jL,Wn]at h;simp only[rMin,rMin2,h1,if_true];exact qi rfl trivial h
 ·obtain⟨h1,h⟩:=qe h
  obtain⟨h2,h⟩:=qe h;rw[jL,Wn,Wn]at h;simp only[rMin,rMin2,h1,h2,if_true];exact qi rfl trivial h
 ·cases h
theorem RowL.take(h:RowL n k l row)(hm:m≤n):RowL m k (l.take (m*k)) row:=by
 have hmk:m*k≤n*k:=xa8 k hm;refine⟨by rw[xd9,h.1];omega,λi j hi hj=>?_⟩;rw[h.2 i j Ω hj,xc6,xc6,List.getElem?_take,if_pos (gm hi hj)]
theorem RowL.app{l2:List SV}{row2:Nat→Nat→SV}(h:RowL n k l row)(h2:RowL m k l2 row2):RowL (n+m) k (l++l2) (λi j=>if i<n then row i j else row2 (i - n) j):=by
 refine⟨by rw[xc8,h.1,h2.1,Nat.add_mul],λi j hi hj=>?_⟩;show(if i<n then row i j else row2 (i - n) j)=_;rw[xc6];by_cases c:i<n
 ·rw[if_pos c,h.2 i j c hj,xc6,xc9 (by rw[h.1];exact gm c hj)]
 ·have hge:n*k≤i*k:=xa8 k Ω
  rw[if_neg c,h2.2 (i - n) j Ω hj,xc6,xd0 (by rw[h.1];omega),h.1,Nat.sub_mul]
  congr 2;omega
theorem RowL.nil(row:Nat→Nat→SV):RowL 0 k [] row:=⟨Ωg,λi j hi=>by omega⟩
def wM(row:Nat→Nat→SV)(k:Nat):Nat→List SV
 |0=>[]
 |n+1=>wM row k n++sel (row n) 0 k
theorem jr(row:Nat→Nat→SV)(k:Nat):∀n,RowL n k (wM row k n) row
 |0=>RowL.nil row
 |n+1=>by
  have h1:=jr row k n;have h2:RowL 1 k (sel (row n) 0 k) (λi j=>row (n+i) j):=by
   refine⟨by rw[gV,Nat.one_mul],λi j hi hj=>?_⟩;obtain rfl:i=0:=by omega
   rw[xc6,yu,Nat.zero_mul,xb0,xb0,if_pos hj];rfl
  have h3:=h1.app h2;refine⟨h3.1,λi j hi hj=>?_⟩;rw[show(wM row k (n+1))=wM row k n++sel (row n) 0 k from rfl,←h3.2 i j hi hj];show _=if i<n then row i j else row (n+(i - n)) j
  by_cases c:i<n
  ·rw[if_pos c]
  ·simp_all
def Zh(hp:Tr 6 XB)(x:SV)(g:Nat→Nat→List SV→R):R:=
 match x with
 |.vec id n k=>(match hp.find id with
  |some (.rows _ k' n' l)=>ql 131 (Nat.ble n n') (ql 132 (Nat.beq k k') (gI (l.take (n*k)) λl=>g n k l))
  |_=>.bad 133 0)
 |.cut id n k=>(match hp.find id with
  |some (.rows _ k' n' l)=>ql 134 (Nat.ble n n') (ql 135 (Nat.beq k k') (gI (l.take (n*k)) λl=>g n k l))
  |_=>.bad 136 0)
 |.asl id off n k=>(match hp.find id with
  |some (.cells _ l)=>ql 137 (Nat.ble (off+n*k) l.length) (gI ((l.drop off).take (n*k)) λl=>g n k l)
  |_=>.bad 138 0)
 |.arr _ _ n k row=>Qb (wM row k n) λl=>g n k l
 |.val u=>ql 139 (nilSlice u) (g 0 1 [])
 |_=>.bad 140 0
theorem vH(hH:HRel LM hp H){g:Nat→Nat→List SV→R}(h:Zh hp x g=.ok ρ):∃obl m k row l,rowsOf H x=some (obl,m,k,row)∧obl∧RowL m k l row∧g m k l=.ok ρ:=by
 unfold Zh at h;split at h
 ·split at h
  ·rename_i i n k _ _ k' n' l hb
   obtain⟨row,hb,hr⟩:=hH.rows hb;obtain⟨h1,q1⟩:=qe h;obtain⟨h2,q⟩:=qe q1;have h1:=xa7 h1;have h2:=xa6 h2;rw[qX]at q;have e:rowsOf H (.vec i n k)=some (n≤n'∧k=k',n,k,row):=by simp only[rowsOf,hb]
   refine⟨_,_,_,row,_,e,⟨h1,h2⟩,?_,q⟩;rw[h2];exact hr.take h1
  ·cases h
 ·split at h
  ·rename_i i n k _ _ k' n' l hb
   obtain⟨row,hb,hr⟩:=hH.rows hb;obtain⟨h1,q1⟩:=qe h;obtain⟨h2,q⟩:=qe q1;have h1:=xa7 h1;have h2:=xa6 h2;rw[qX]at q;have e:rowsOf H (.cut i n k)=some (n≤n'∧k=k',n,k,row):=by simp only[rowsOf,hb]
   refine⟨_,_,_,row,_,e,⟨h1,h2⟩,?_,q⟩;rw[h2];exact hr.take h1
  ·cases h
 ·split at h
  ·rename_i off n k _ _ l hb
   obtain⟨h1,h⟩:=qe h;have h1:=xa7 h1;rw[qX]at h;refine⟨_,_,_,_,_,by simp only[rowsOf,hH.cells hb];rfl,h1,⟨by rw[xd9,List.length_drop];omega,λi j hi hj=>?_⟩,h⟩;rw[xc6,xc6,List.getElem?_take,if_pos (gm hi hj),List.getElem?_drop]
  ·cases h
 ·rw[ku]at h
  exact⟨_,_,_,_,_,rfl,trivial,jr _ _ _,h⟩
 ·obtain⟨h1,h⟩:=qe h
  exact⟨_,_,_,_,_,by simp only[rowsOf,h1,if_true];rfl,trivial,RowL.nil _,h⟩
 ·cases h
theorem GV:∀{l:List SV}{i:Nat}{s:SV},allOne l=true→l[i]? = some s→oneCell s=true
 |[],i,s,h,e=>by simp at e
 |a :: l,i,s,h,e=>by
  simp only[allOne,xe6]at h;cases i with
  |zero=>simp at e;subst e;exact h.1
  |succ i=>exact GV h.2 (by simpa using e)
theorem RowL.one(h:RowL n k l row)(h1:allOne l=true):oneRows n k row:=λi j hi hj=>by
 have hlt:i*k+j<l.length:=by rw[h.1];exact gm hi hj
 rw[h.2 i j hi hj,xc6,xc7 hlt];exact GV h1 (xc7 hlt)
def orK(a b:Bool):Bool:=Bool.rec b true a
theorem Wo{a b:Bool}(h:orK a b=true):a=true∨b=true:=by cases a<;>first|exact .inr h|exact .inl rfl
def qdE(e k:Nat)(m k2:Nat)(l2:List SV)(n k1:Nat)(l1:List SV)(id:Nat)(f:XR→R):R:=
 ql 141 (Nat.ble 1 m) (ql 142 (orK (Nat.beq n 0) (Nat.beq k1 k)) (ql 143 (Nat.beq k2 k) (qm (n+m) λq=>ql 144 (Nat.ble q 1000000) (gI (l1++l2) λl=>f (.new (.rows e k q l) (.vec id q k))))))
def qnL(hp:Tr 6 XB)(e k id0 n k' m k2:Nat)(l2:List SV)(id:Nat)(f:XR→R):R:=
 match hp.find id0 with
 |some (.rows t' k'' n' l1)=>ql 145 (orK (Nat.beq m 0) (Nat.beq k2 k)) (ql 146 (Nat.beq k' k) (ql 147 (Nat.beq k'' k) (ql 148 (Nat.beq t' e) (ql 149 (Nat.ble n n') (ql 150 (allOne l2) (qm (n+m) λq=>ql 151 (Nat.ble q 1000000) (gI (l1.take (n*k)++l2) λl=>f (.grow id0 (.rows e k q l) (.vec id q k)))))))))
 |_=>.bad 152 0
def qnM(hp:Tr 6 XB)(e k:Nat)(s:SV)(m k2:Nat)(l2:List SV)(id:Nat)(f:XR→R):R:=
 match s with
 |.vec id0 n k'=>qnL hp e k id0 n k' m k2 l2 id f
 |.val u=>ql 153 (nilSlice u) (ql 154 (orK (Nat.beq m 0) (Nat.beq k2 k)) (ql 155 (Nat.ble m 1000000) (f (.new (.rows e k m l2) (.vec id m k)))))
 |.cut i n kk=>Zh hp (.cut i n kk) λn k1 l1=>qdE e k m k2 l2 n k1 l1 id f
 |.arr o true n kk row=>Zh hp (.arr o true n kk row) λn k1 l1=>qdE e k m k2 l2 n k1 l1 id f
 |_=>.bad 156 0
def Zi(E:XE)(hp:Tr 6 XB)(t:TypeId)(s x:SV)(id:Nat)(f:XR→R):R:=
 match E.sls t with
 |some (e,k,_)=>Zh hp x λm k2 l2=>qnM hp e k s m k2 l2 id f
 |none=>.bad 157 0
theorem RowL.of0{k2:Nat}(h:RowL m k2 l row)(h0:m=0∨k2=k):RowL m k l row:=by
 rcases h0 with rfl|rfl
 ·have:=h.1
  rw[Nat.zero_mul]at this;rw[List.length_eq_zero_iff.1 this];exact RowL.nil row
 ·exact h
theorem qbU(hE:XOk P E)(hH:HRel LM hp H){s:SV}(h:Zi E hp t s x id f=.ok ρ):zX ρ f id (rAppend P t H s x):=by
 unfold Zi at h;split at h
 ·rename_i e k z ht
  obtain⟨⟨_,_,_,h1⟩,⟨_,_,_,h2⟩,h3,h4,h5⟩:=hE.sls _ _ _ _ ht;obtain⟨obl,m,k2,row2,l2,hx,ho,hr,h⟩:=vH hH h;simp only[rAppend,h1,h2,hx];have new:∀{n k1:Nat}{l1:List SV}{row1:Nat→Nat→SV}{obl1:Prop},qdE e k m k2 l2 n k1 l1 id f=.ok ρ→obl1→RowL n k1 l1 row1→zX ρ f id (.new (obl1∧obl∧0<m∧(n=0∨k1=k)∧k2=k∧0<k∧z.length=k∧n+m≤1000000∧qF P e≤100000000) (.rows e k (n+m) (λi j=>if i<n then row1 i j else row2 (i - n) j)) (λid=>.vec id (n+m) k)):=by
   intro n k1 l1 row1 obl1 h ho1 hr1;unfold qdE at h;obtain⟨q1,h⟩:=qe h;obtain⟨q2,h⟩:=qe h;obtain⟨q3,h⟩:=qe h;rw[qj]at h;obtain⟨q4,h⟩:=qe h;rw[qX]at h;have q1:=xa7 q1;have q2:n=0∨k1=k:=(Wo q2).imp xa6 xa6;have q3:=xa6 q3;have q4:=xa7 q4;exact jq h rfl ⟨ho1,ho,q1,q2,q3,h3,h4,q4,h5⟩ ⟨rfl,rfl,rfl,(hr1.of0 q2).app (hr.of0 (.inr q3))⟩ rfl
  unfold qnM at h;split at h
  ·unfold qnL at h
   split at h
   ·rename_i hb
    obtain⟨row,hb,hr1⟩:=hH.rows hb;obtain⟨q1,h⟩:=qe h;obtain⟨q2,h⟩:=qe h;obtain⟨q3,h⟩:=qe h;obtain⟨q4,h⟩:=qe h;obtain⟨q5,h⟩:=qe h;obtain⟨q6,h⟩:=qe h;rw[qj]at h;obtain⟨q7,h⟩:=qe h;rw[qX]at h;have q1:m=0∨k2=k:=(Wo q1).imp xa6 xa6;have q2:=xa6 q2;have q3:=xa6 q3;have q4:=xa6 q4;have q5:=xa7 q5;have q7:=xa7 q7;simp only[hb];rw[q3]at hr1;exact qfZ h rfl ⟨ho,q1,q2,q3,q4,q5,h3,h4,(hr.of0 q1).one q6,q7,h5⟩ ⟨rfl,rfl,rfl,(hr1.take q5).app (hr.of0 q1)⟩ rfl
   ·cases h
  ·obtain⟨q1,h⟩:=qe h
   obtain⟨q2,h⟩:=qe h;obtain⟨q3,h⟩:=qe h;have q2:m=0∨k2=k:=(Wo q2).imp xa6 xa6;simp only[q1];exact jq h rfl ⟨ho,q2,h3,h4,xa7 q3,h5⟩ ⟨rfl,rfl,rfl,hr.of0 q2⟩ rfl
  ·obtain⟨obl1,n,k1,row1,l1,hx1,ho1,hr1,h⟩:=vH hH h
   simp only[hx1];exact new h ho1 hr1
  ·obtain⟨obl1,n,k1,row1,l1,hx1,ho1,hr1,h⟩:=vH hH h
   simp only[hx1];exact new h ho1 hr1
  ·cases h
 ·cases h
end
end
end Go.Sx
end
section
namespace Go.Sx
open Go.RowKit
noncomputable section
variable{g:Nat→R}{a m n:Nat}{l:List SV}{t:TypeId}{k s x:SV}{row:Nat→Nat→SV}{fr:Tr 3 SV}{F:Nat→SV}
variable{ρ:Q}
section
variable{P:Program}{E:XE}{f:XR→R}{id:Nat}{hp:Tr 6 XB}{H:List (Nat×Blk)}{LM:Nat→Option Loop}
def ZX(d:Nat)(o:Option SV)(g:Nat→R):R:=
 match o with
 |none=>g d
 |some (.val (.int _ (.ofNat i)))=>g i
 |_=>.bad 160 0
theorem Zj{d:Nat}{o:Option SV}(h:ZX d o g=.ok ρ):∃a,bnd (d:Int) o=some (Int.ofNat a)∧g a=.ok ρ:=by
 unfold ZX at h;split at h
 ·exact⟨d,rfl,h⟩
 ·exact⟨_,rfl,h⟩
 ·cases h
theorem js{o:Option SV}(h:ZX 0 o g=.ok ρ):∃a,bnd 0 o=some (Int.ofNat a)∧g a=.ok ρ:=Zj (d:=0) h
theorem zV{b:Nat}(h:a≤b):Int.ofNat a≤Int.ofNat b:=by simp only[Int.ofNat_eq_natCast];omega
theorem ofNat_sub{b:Nat}:(Int.ofNat b - Int.ofNat a).toNat=b - a:=by simp only[Int.ofNat_eq_natCast];omega
def qdF(k:Nat)(id n k':Nat)(lo hi mx:Option SV)(f:XR→R):R:=
 ZX 0 lo λl=>ZX n hi λh=>ql 162 (Nat.ble h n) (ql 163 (Nat.beq k' k) (ql 161 (Nat.ble l h) (match mx with
  |none=>Bool.rec (ql 182 (Nat.beq h n) (qm (h - l) λq=>f (.pure (.que id l q k)))) (f (.pure (.vec id h k))) (Nat.beq l 0)
  |some m=>ZX 0 (some m) λm=>ql 164 (Nat.ble h m) (ql 165 hi.isSome (ql 183 (Nat.ble m n) (Bool.rec (f (.pure .top)) (f (.pure (.cut id h k))) (Nat.beq l 0&&Nat.beq h m)))))))
def qdG(u:Value)(lo hi mx:Option SV)(f:XR→R):R:=
 ZX 0 lo λl=>ZX 0 hi λh=>ql 166 (nilSlice u) (ql 167 (Nat.beq l 0) (ql 168 (Nat.beq h 0) (match mx with
  |none=>f (.pure (.val (.slice none 0 0)))
  |some m=>ZX 0 (some m) λm=>ql 169 (Nat.beq m 0) (ql 170 hi.isSome (f (.pure (.val (.slice none 0 0))))))))
def qiA(l h n:Nat):Bool:=Bool.rec false (Bool.rec false (orK (Nat.beq l 0) (Nat.ble (Nat.succ l) h)) (Nat.ble h n)) (Nat.ble l h)
theorem Y3{l h:Nat}(e:qiA l h n=true):0≤Int.ofNat l∧(Int.ofNat l=0∨Int.ofNat l<Int.ofNat h)∧Int.ofNat l≤Int.ofNat h∧Int.ofNat h≤(n:Int):=by
 unfold qiA at e;cases h1:Nat.ble l h with
 |false=>rw[h1]at e;cases e
 |true=>
  rw[h1]at e;cases h2:Nat.ble h n with
  |false=>rw[h2]at e;cases e
  |true=>
   rw[h2]at e;have e:orK (Nat.beq l 0) (Nat.ble (Nat.succ l) h)=true:=e;have h1:=xa7 h1;have h2:=xa7 h2;have e:=(Wo e).imp xa6 xa7
   grind
def KK(n k:Nat)(id off:Nat)(lo hi:Option SV)(f:XR→R):R:=
 ZX 0 lo λl=>ZX n hi λh=>ql 171 (qiA l h n) (qm (off+l*k) λo=>qm (h - l) λq=>f (.pure (.asl id o q k)))
def qdH(k:Nat)(x:SV)(lo hi mx:Option SV)(f:XR→R):R:=
 match x with
 |.vec id n k'=>qdF k id n k' lo hi mx f
 |.val u=>qdG u lo hi mx f
 |.asl id off n k'=>(match mx with|none=>ql 172 (Nat.beq k' k) (KK n k id off lo hi f)|some _=>.bad 173 0)
 |.arr o full n k' row=>(match mx with|none=>ZX 0 lo λl=>ZX n hi λh=>ql 174 (Nat.ble l h) (ql 175 (Nat.ble h n) (ql 176 (Nat.beq k' k) (Kq (full&&hi.isNone) λfl=>qm (h - l) λq=>f (.pure (.arr o fl q k (λi j=>row (l+i) j))))))|some _=>.bad 177 0)
 |_=>.bad 178 0
def qbV(E:XE)(t:TypeId)(x:SV)(lo hi mx:Option SV)(f:XR→R):R:=
 match E.tys t with
 |some ⟨_,_,_,.slice _ k⟩=>qdH k x lo hi mx f
 |some ⟨_,_,_,.array n _ k⟩=>(match x with
  |.ptr id off=>(match mx with|none=>KK n k id off lo hi f|some _=>.bad 179 0)
  |_=>.bad 180 0)
 |_=>.bad 181 0
theorem Y4{m:SV}(h:bnd 0 (some m)=some (Int.ofNat a)):∃k,m=.val (.int k (Int.ofNat a)):=by
 unfold bnd at h;split at h
 ·rename_i e;cases e
 ·simp_all
 ·cases h
theorem qgh(hE:XOk P E){lo hi mx:Option SV}(h:qbV E t x lo hi mx f=.ok ρ):zX ρ f id (rSlice (qn P t) x lo hi mx):=by
 unfold qbV at h;split at h
 ·rename_i ht
  rw[hE.tys _ _ ht];unfold qdH at h;split at h
  ·unfold qdF at h
   obtain⟨a,ea,h⟩:=js h;obtain⟨b,eb,h⟩:=Zj h;obtain⟨q2,h⟩:=qe h;obtain⟨q3,h⟩:=qe h;obtain⟨q1,h⟩:=qe h;have q1:=xa7 q1;have q2:=xa7 q2;have q3:=xa6 q3;split at h
   ·simp only[rSlice,ea,eb]
    cases z:Nat.beq a 0 with
    |true=>
     rw[z]at h;have z:=xa6 z;subst z;exact qi rfl ⟨Int.le_refl _,qO _,zV q2,.inl rfl,q3⟩ h
    |false=>
     rw[z]at h;obtain⟨q4,h⟩:=qe h;have q4:=xa6 q4;rw[qj]at h;have hz:¬(Int.ofNat a=0):=λc=>by
      simp_all
     have ee:∀i k,z9 (Int.ofNat a) (Int.ofNat b) i k=.que i a (b - a) k:=λi k=>by
      unfold z9
      simp_all
     rw[ee];exact qi rfl ⟨qO _,zV q1,zV q2,.inr (by rw[q4];rfl),q3⟩ h
   ·obtain⟨c,ec,p⟩:=js h
    obtain⟨q4,p1⟩:=qe p;obtain⟨q5,p2⟩:=qe p1;obtain⟨q6,p3⟩:=qe p2;obtain⟨kk,em⟩:=Y4 ec;have q4:=xa7 q4;have q6:=xa7 q6;rw[em];simp only[rSlice,ea,eb];cases z:(Nat.beq a 0&&Nat.beq b c)with
    |true=>
     rw[z]at p3;simp only[xe6]at z;have z1:=xa6 z.1;have z2:=xa6 z.2;have ee:∀i k,jW (Int.ofNat a) (Int.ofNat b) (Int.ofNat c) i k=.cut i b k:=λi k=>by
      unfold jW
      simp_all
     rw[ee];exact qi rfl ⟨qO _,zV q1,zV q4,zV q6,q5,q3⟩ p3
    |false=>
     rw[z]at p3;have ee:∀i k,jW (Int.ofNat a) (Int.ofNat b) (Int.ofNat c) i k=.top:=λi k=>by
      unfold jW;rw[if_neg];rintro⟨z1,z2⟩;simp only[Int.ofNat_eq_natCast]at z1 z2;have z1:a=0:=by omega
      have z2:b=c:=by omega
      simp_all
     rw[ee];exact qi rfl ⟨qO _,zV q1,zV q4,zV q6,q5,q3⟩ p3
  ·unfold qdG at h
   obtain⟨a,ea,h⟩:=js h;obtain⟨b,eb,h⟩:=js h;obtain⟨q1,h⟩:=qe h;obtain⟨q2,h⟩:=qe h;obtain⟨q3,h⟩:=qe h;have z2:Int.ofNat a=0:=by rw[xa6 q2];rfl
   have z3:Int.ofNat b=0:=by rw[xa6 q3];rfl
   split at h
   ·simp only[rSlice,ea,eb]
    exact qi rfl ⟨q1,z2,z3⟩ h
   ·obtain⟨c,ec,p⟩:=js h
    obtain⟨q4,p1⟩:=qe p;obtain⟨q5,p2⟩:=qe p1;obtain⟨kk,em⟩:=Y4 ec;have z4:Int.ofNat c=0:=by rw[xa6 q4];rfl
    rw[em];simp only[rSlice,ea,eb];exact qi rfl ⟨q1,z2,z3,z4,q5⟩ p2
  ·split at h
   ·obtain⟨q1,h⟩:=qe h
    unfold KK at h;obtain⟨a,ea,h⟩:=js h;obtain⟨b,eb,h⟩:=Zj h;obtain⟨q2,h⟩:=qe h;rw[qj,qj]at h;obtain⟨r1,r2,r3,r4⟩:=Y3 q2;simp only[rSlice,ea,eb];rw[←ofNat_sub]at h;exact qi rfl ⟨r1,r2,r3,r4,xa6 q1⟩ h
   ·cases h
  ·split at h
   ·obtain⟨a,ea,h⟩:=js h
    obtain⟨b,eb,h⟩:=Zj h;obtain⟨q1,h⟩:=qe h;obtain⟨q2,h⟩:=qe h;obtain⟨q3,h⟩:=qe h;rw[Q7,qj,←ofNat_sub]at h;simp only[rSlice,ea,eb];exact qi rfl ⟨qO _,zV (xa7 q1),zV (xa7 q2),xa6 q3⟩ h
   ·cases h
  ·cases h
 ·rename_i ht
  rw[hE.tys _ _ ht];split at h
  ·split at h
   ·unfold KK at h
    obtain⟨a,ea,h⟩:=js h;obtain⟨b,eb,h⟩:=Zj h;obtain⟨q2,h⟩:=qe h;rw[qj,qj]at h;simp only[rSlice,ea,eb];rw[←ofNat_sub]at h;exact qi rfl (Y3 q2) h
   ·cases h
  ·cases h
 ·cases h
theorem Y5:∀l:List Value,(vals l).length=l.length
 |[]=>rfl
 |a :: l=>by rw[vals,xe4,xe4,Y5 l]
theorem qdI:∀(l:List Value)(i:Nat),i<l.length→(vals l)[i]? = some (.val (l.getD i undef))
 |[],i,h=>by simp at h
 |a :: l,0,h=>rfl
 |a :: l,i+1,h=>by
  rw[vals,xd7,qdI l i ΩN];rfl
theorem Y6(z:List Value):∀n,RowL n z.length (zrep z n) (λ_ j=>.val (z.getD j undef))
 |0=>RowL.nil _
 |n+1=>by
  have h1:RowL 1 z.length (vals z) (λ_ j=>.val (z.getD j undef)):=by
   refine⟨by rw[Y5,Nat.one_mul],λi j hi hj=>?_⟩;obtain rfl:i=0:=by omega
   rw[xc6,Nat.zero_mul,xb0,qdI z j hj];rfl
  have h2:=h1.app (Y6 z n);refine⟨by have:=h2.1;rw[xc5 1 n]at this;exact this,λi j hi hj=>?_⟩;rw[show zrep z (n+1)=vals z++zrep z n from rfl,←h2.2 i j Ω hj];show _=if i<1 then SV.val (z.getD j undef)else SV.val (z.getD j undef)
  rw[ite_self]
def qlP(s:SV)(g:Nat→R):R:=
 match s with
 |.val (.int _ (.ofNat n))=>g n
 |_=>.bad 190 0
theorem qdJ(h:qlP s g=.ok ρ):∃k n,s=.val (.int k (Int.ofNat n))∧g n=.ok ρ:=by
 unfold qlP at h;split at h
 ·grind
 ·cases h
def qiB(E:XE)(t:TypeId)(l c:SV)(id:Nat)(f:XR→R):R:=
 match E.sls t with
 |some (e,k,z)=>qlP l λl=>qlP c λc=>ql 191 (Nat.ble l c) (ql 192 (Nat.ble c 1000000) (Qb (zrep z c) λL=>f (.new (.rows e k c L) (.vec id l k))))
 |none=>.bad 193 0
theorem qiC(hE:XOk P E){l c:SV}(h:qiB E t l c id f=.ok ρ):zX ρ f id (rMakeSlice P t l c):=by
 unfold qiB at h;split at h
 ·rename_i e k z ht
  obtain⟨⟨_,_,_,h1⟩,⟨_,_,_,h2⟩,h3,h4,h5⟩:=hE.sls _ _ _ _ ht;obtain⟨_,a,e1,p1⟩:=qdJ h;obtain⟨_,b,e2,p2⟩:=qdJ p1;obtain⟨q1,p3⟩:=qe p2;obtain⟨q2,p4⟩:=qe p3;rw[ku]at p4;rw[e1,e2];simp only[rMakeSlice,h1,h2];subst h4;have q2:=zV (xa7 q2);exact jq p4 rfl ⟨qO _,zV (xa7 q1),q2,h5,rfl,h3⟩ ⟨rfl,rfl,rfl,Y6 z b⟩ rfl
 ·cases h
def qdK(l:Option (List SV))(f:XR→R):R:=
 match l with
 |some l=>Qb l λl=>f (.pure (.agg l))
 |none=>.bad 194 0
def qbW(E:XE)(t:TypeId)(ps:List (Nat×SV))(f:XR→R):R:=
 match E.tys t,E.pls t with
 |some ⟨true,_,some z,_⟩,some pl=>qdK (fillS (λi=>pl[i]?) (vals z) ps) f
 |_,_=>.bad 195 0
theorem qgi(hE:XOk P E){ps:List (Nat×SV)}(h:qbW E t ps f=.ok ρ):zX ρ f id (rBuild P t ps):=by
 unfold qbW at h;split at h
 ·rename_i z _ pl ht hp
  have ht:=hE.tys _ _ ht;have hp:=hE.pls _ _ hp;unfold qdK at h;simp only[rBuild,ht,hp];split at h
  ·rename_i l hl
   rw[ku]at h;rw[hl];exact qi rfl trivial h
  ·cases h
 ·cases h
def qdL(e k len:Nat)(id:Nat)(l:Option (List SV))(f:XR→R):R:=
 match l with
 |some l=>Qb l λl=>ql 196 (Nat.beq l.length (len*k)) (ql 197 (Nat.ble (len*k) 16777216) (f (.new (.rows e k len l) (.vec id len k))))
 |none=>.bad 198 0
def yg(E:XE)(t:TypeId)(len:Nat)(ps:List (Nat×SV))(id:Nat)(f:XR→R):R:=
 match E.sls t with
 |some (e,k,z)=>qdL e k len id (fillS (λi=>some (i*k,k)) (zrep z len) ps) f
 |none=>.bad 199 0
theorem GW(hE:XOk P E){len:Nat}{ps:List (Nat×SV)}(h:yg E t len ps id f=.ok ρ):zX ρ f id (rBuildSlice P t len ps):=by
 unfold yg at h;split at h
 ·rename_i e k z ht
  obtain⟨⟨_,_,_,h1⟩,⟨_,_,_,h2⟩,h3,h4,h5⟩:=hE.sls _ _ _ _ ht;unfold qdL at h;simp only[rBuildSlice,h1,h2];split at h
  ·rename_i l hl
   rw[ku]at h;obtain⟨q1,h⟩:=qe h;obtain⟨q2,h⟩:=qe h;rw[hl];exact jq h rfl ⟨h4,h3,xa7 q2⟩ ⟨rfl,rfl,rfl,xa6 q1,λi j _ _=>rfl⟩ rfl
  ·cases h
 ·cases h
def qiD(hp:Tr 6 XB)(k:Nat)(id n k' m k2:Nat)(l2:List SV)(f:XR→R):R:=
 match hp.find id with
 |some (.rows t k'' n' l)=>ql 200 (Nat.beq k2 k) (ql 201 (Nat.beq k' k) (ql 202 (Nat.beq k'' k) (ql 203 (Nat.ble n n') (ql 204 (Nat.ble 1 k) (ql 205 (allOne l2) (qm (min m n) λq=>gI (l2.take (q*k)++l.drop (q*k)) λl=>f (.upd id (.rows t k n' l) (Ψ (Φ Γ (q:Nat))))))))))
 |_=>.bad 206 0
def qiE(hp:Tr 6 XB)(k:Nat)(id off n k' m k2:Nat)(l2:List SV)(f:XR→R):R:=
 match hp.find id with
 |some (.cells t l)=>ql 207 (Nat.beq k2 1) (ql 208 (Nat.beq k' 1) (ql 209 (Nat.beq k 1) (ql 210 (Nat.ble (off+n) l.length) (ql 211 (Nat.ble 1 m) (ql 212 (Nat.ble 1 n) (ql 213 (allOne l2) (qm (min m n) λq=>gI (l.take off++l2.take q++l.drop (off+q)) λl=>f (.upd id (.cells t l) (Ψ (Φ Γ (q:Nat)))))))))))
 |_=>.bad 214 0
def qiF(hp:Tr 6 XB)(k:Nat)(d:SV)(m k2:Nat)(l2:List SV)(f:XR→R):R:=
 match d with
 |.vec id n k'=>qiD hp k id n k' m k2 l2 f
 |.asl id off n k'=>qiE hp k id off n k' m k2 l2 f
 |_=>.bad 215 0
def qiG(E:XE)(hp:Tr 6 XB)(t:TypeId)(d x:SV)(f:XR→R):R:=
 match E.tys t with
 |some ⟨_,_,_,.slice _ k⟩=>Zh hp x λm k2 l2=>qiF hp k d m k2 l2 f
 |_=>.bad 216 0
theorem RowL.cpy{k q:Nat}{l2:List SV}{row2:Nat→Nat→SV}(h:RowL n k l row)(h2:RowL m k l2 row2)(hq:q≤m)(hn:q≤n):RowL n k (l2.take (q*k)++l.drop (q*k)) (λi j=>if i<q then row2 i j else row i j):=by
 have a1:q*k≤m*k:=xa8 k hq;have a2:q*k≤n*k:=xa8 k hn;have e1:(l2.take (q*k)).length=q*k:=by rw[xd9,h2.1];omega
 refine⟨by rw[xc8,e1,List.length_drop,h.1];omega,λi j hi hj=>?_⟩;show(if i<q then row2 i j else row i j)=_;rw[xc6];by_cases c:i<q
 ·rw[if_pos c,h2.2 i j Ω hj,xc6,xc9 (by rw[e1];exact gm c hj),List.getElem?_take,if_pos (gm c hj)]
 ·have hge:q*k≤i*k:=xa8 k Ω
  rw[if_neg c,h.2 i j hi hj,xc6,xd0 (by rw[e1];omega),e1,List.getElem?_drop]
  congr 2;omega
theorem qiH{q:Nat}(h:RowL m 1 l row)(hq:q≤m):(List.range q).map (λi=>row i 0)=l.take q:=by
 refine List.ext_getElem? λi=>?_;rw[List.getElem?_take];by_cases c:i<q
 ·have hl:i<l.length:=by rw[h.1];omega
  rw[if_pos c,List.getElem?_map,xe3 c,xc7 hl];show some (row i 0)=_;rw[h.2 i 0 Ω Ω,xc6,Nat.mul_one,xb1,xc7 hl];rfl
 ·grind
theorem qiI(hE:XOk P E)(hH:HRel LM hp H){d:SV}(h:qiG E hp t d x f=.ok ρ):zX ρ f id (rCopy P t H d x):=by
 unfold qiG at h;split at h
 ·rename_i k ht
  have ht:=hE.tys _ _ ht;obtain⟨obl,m,k2,row2,l2,hx,ho,hr,h⟩:=vH hH h;unfold qiF at h;simp only[rCopy,ht,hx];split at h
  ·unfold qiD at h
   split at h
   ·rename_i hb
    obtain⟨row,hb,hr1⟩:=hH.rows hb;obtain⟨q1,h⟩:=qe h;obtain⟨q2,h⟩:=qe h;obtain⟨q3,h⟩:=qe h;obtain⟨q4,h⟩:=qe h;obtain⟨q5,h⟩:=qe h;obtain⟨q6,h⟩:=qe h;rw[qj,qX]at h;have q1:=xa6 q1;have q2:=xa6 q2;have q3:=xa6 q3;have q4:=xa7 q4;have q5:=xa7 q5;simp only[hb];rw[q3]at hr1;have hr2:=hr.of0 (.inr q1);exact Vi h rfl ⟨ho,.inr q1,q2,q3,q4,q5,hr2.one q6⟩ ⟨rfl,rfl,rfl,hr1.cpy hr2 (Nat.min_le_left _ _) Ω⟩
   ·cases h
  ·unfold qiE at h
   split at h
   ·rename_i hb
    obtain⟨q1,h⟩:=qe h;obtain⟨q2,h⟩:=qe h;obtain⟨q3,h⟩:=qe h;obtain⟨q4,h⟩:=qe h;obtain⟨q5,h⟩:=qe h;obtain⟨q6,h⟩:=qe h;obtain⟨q7,h⟩:=qe h;rw[qj,qX]at h;have q1:=xa6 q1;have q2:=xa6 q2;have q3:=xa6 q3;have q4:=xa7 q4;have q5:=xa7 q5;have q6:=xa7 q6;simp only[hH.cells hb];have hr2:=hr.of0 (.inr q1);exact Vi h rfl ⟨ho,q1,q2,q3,q4,q5,q6,hr2.one q7⟩ ⟨rfl,by rw[qiH hr2 (Nat.min_le_left _ _)]⟩
   ·cases h
  ·cases h
 ·cases h
def qdM(hp:Tr 6 XB)(v:Value)(k:Nat)(d:SV)(f:XR→R):R:=
 match d with
 |.asl id off n k'=>(match hp.find id with
  |some (.cells t l)=>ql 220 (Nat.ble (off+n) l.length) (ql 221 (Nat.beq k' 1) (ql 222 (Nat.beq k 1) (ql 223 v.oneCell' (ql 224 (Nat.ble 1 n) (gI (l.take off++List.replicate n (.val v)++l.drop (off+n)) λl=>f (.upd id (.cells t l) undefSV))))))
  |_=>.bad 225 0)
 |.vec id n k'=>(match hp.find id with
  |some (.rows t kk m l)=>ql 228 (Nat.beq k' 1) (ql 229 (Nat.beq kk 1) (ql 241 (Nat.beq k 1) (ql 242 (Nat.ble n m) (ql 243 v.oneCell' (gI (List.replicate n (.val v)++l.drop n) λl=>f (.upd id (.rows t 1 m l) undefSV))))))
  |_=>.bad 244 0)
 |.que id off n k'=>(match hp.find id with
  |some (.rows t kk m l)=>ql 248 (Nat.beq k' 1) (ql 249 (Nat.beq kk 1) (ql 250 (Nat.beq k 1) (ql 251 (Nat.ble (off+n) m) (ql 252 v.oneCell' (gI (l.take off++(List.replicate n (.val v)++l.drop (off+n))) λl=>f (.upd id (.rows t 1 m l) undefSV))))))
  |_=>.bad 253 0)
 |_=>.bad 226 0
theorem RowL.clrq{off:Nat}{v:SV}(h:RowL m 1 l row)(hn:off+n≤m):RowL m 1 (l.take off++(List.replicate n v++l.drop (off+n))) (λi j=>if off≤i∧i<off+n then v else row i j):=by
 obtain⟨h1,h2⟩:=h;have ht:(l.take off).length=off:=by rw[xd9];omega
 refine⟨by simp[h1];omega,λi j hi hj=>?_⟩;have hj0:j=0:=by omega
 subst hj0;simp only[Nat.mul_one,xb1,xc6];by_cases c:i<off
 ·grind
 ·grind
theorem RowL.clr{v:SV}(h:RowL m 1 l row)(hn:n≤m):RowL m 1 (List.replicate n v++l.drop n) (λi j=>if i<n then v else row i j):=by
 obtain⟨h1,h2⟩:=h;refine⟨by simp[h1];omega,λi j hi hj=>?_⟩;have hj0:j=0:=by omega
 subst hj0;simp only[Nat.mul_one,xb1,xc6];by_cases c:i<n
 ·simp_all
 ·grind
def qbX(E:XE)(hp:Tr 6 XB)(t:TypeId)(d:SV)(f:XR→R):R:=
 match E.sls t with
 |some (_,k,[v])=>qdM hp v k d f
 |some _=>.bad 227 0
 |none=>(match d with
  |.mp id=>(match E.mps t with
   |some mi=>(match hp.find id with
    |some (.map ag ls es)=>f (.upd id (.map ag ls []) undefSV)
    |_=>.bad 245 0)
   |none=>.bad 246 0)
  |_=>.bad 247 0)
theorem qgj(hE:XOk P E)(hH:HRel LM hp H){d:SV}:qbX E hp t d f=.ok ρ→zX ρ f id (match d with
   |.mp id=>rClearMap (qD P t) H (.mp id)
   |x=>rClear P t H x):=by
 intro h;unfold qbX at h;split at h
 ·rename_i ht
  obtain⟨⟨_,_,_,h1⟩,⟨_,_,_,h2⟩,h3,h4,h5⟩:=hE.sls _ _ _ _ ht;unfold qdM at h;split at h
  ·split at h
   ·rename_i hb
    obtain⟨q1,h⟩:=qe h;obtain⟨q2,h⟩:=qe h;obtain⟨q3,h⟩:=qe h;obtain⟨q4,h⟩:=qe h;obtain⟨q5,h⟩:=qe h;rw[qX]at h;simp only[rClear,h1,h2,hH.cells hb];exact kX h rfl ⟨xa7 q1,xa6 q2,xa6 q3,q4,xa7 q5⟩ ⟨rfl,rfl⟩
   ·cases h
  ·split at h
   ·rename_i hb
    obtain⟨q1,p1⟩:=qe h;obtain⟨q2,p2⟩:=qe p1;obtain⟨q3,p3⟩:=qe p2;obtain⟨q4,p4⟩:=qe p3;obtain⟨q5,p5⟩:=qe p4;rw[qX]at p5;obtain⟨row,hb',hr⟩:=hH.rows hb;have q2:=xa6 q2;rw[q2]at hb' hr;simp only[rClear,h1,h2,hb'];exact kX p5 rfl ⟨xa6 q1,trivial,xa6 q3,xa7 q4,q5⟩ ⟨rfl,rfl,rfl,hr.clr (xa7 q4)⟩
   ·cases h
  ·split at h
   ·rename_i hb
    obtain⟨q1,p1⟩:=qe h;obtain⟨q2,p2⟩:=qe p1;obtain⟨q3,p3⟩:=qe p2;obtain⟨q4,p4⟩:=qe p3;obtain⟨q5,p5⟩:=qe p4;rw[qX]at p5;obtain⟨row,hb',hr⟩:=hH.rows hb;have q2:=xa6 q2;rw[q2]at hb' hr;simp only[rClear,h1,h2,hb'];exact kX p5 rfl ⟨xa6 q1,trivial,xa6 q3,xa7 q4,q5⟩ ⟨rfl,rfl,rfl,hr.clrq (xa7 q4)⟩
   ·cases h
  ·cases h
 ·cases h
 ·split at h
  ·split at h
   ·rename_i mi hm
    split at h
    ·rename_i ag ls es hb
     obtain⟨dom,get,g1,g2⟩:=hH.map hb;simp only[rClearMap,hE.mps _ _ hm,g1];exact kX h rfl trivial ⟨rfl,λu=>⟨rfl,λs hs=>by cases hs⟩⟩
    ·cases h
   ·cases h
  ·cases h
def qiJ(s:SV)(g:Value→R):R:=
 match keyV s with
 |some v=>g v
 |none=>.bad 400 0
theorem Wp{g:Value→R}(h:qiJ s g=.ok ρ):∃v,keyV s=some v∧g v=.ok ρ:=by
 unfold qiJ at h;split at h
 ·simp_all
 ·cases h
def qiK(hp:Tr 6 XB)(x:SV)(mi:jX)(g:Nat→List (Value×Option SV)→R):R:=
 match x with
 |.mp id=>(match hp.find id with
  |some (.map ag ls es)=>ql 401 (decide (mi.ag=ag)) (ql 402 (qoz mi.ls ls) (g id es))
  |_=>.bad 403 0)
 |_=>.bad 404 0
theorem Wq(hH:HRel LM hp H){mi:jX}{g:Nat→List (Value×Option SV)→R}(h:qiK hp x mi g=.ok ρ):∃id es dom get,x=.mp id∧blk H id=some (.map (qh mi.ag mi.ls) dom get)∧(∀k,dom k=(kG es k).isSome∧∀s,kG es k=some s→get k=s)∧g id es=.ok ρ:=by
 unfold qiK at h;split at h
 ·split at h
  ·rename_i ag ls es hb
   obtain⟨q1,p1⟩:=qe h;obtain⟨q2,p2⟩:=qe p1;obtain⟨dom,get,h1,h2⟩:=hH.map hb;rw[←of_decide_eq_true q1,←qdp q2]at h1
   grind
  ·cases h
 ·cases h
def qiL(z:SV)(o:Option SV)(ok:Bool)(f:XR→R):R:=
 match o with
 |some s=>Bool.rec (f (.pure s)) (f (.pure (.tup [s,.val (.bool true)]))) ok
 |none=>Bool.rec (f (.pure z)) (f (.pure (.tup [z,.val (.bool false)]))) ok
def KL(E:XE)(hp:Tr 6 XB)(t:TypeId)(x k:SV)(ok:Bool)(f:XR→R):R:=
 match E.mps t with
 |some mi=>qiK hp x mi λ_ es=>qiJ k λv=>ql 405 (KJ mi.ag mi.ls v) (qiL mi.zero (kG es v) ok f)
 |none=>.bad 406 0
theorem qbY(hE:XOk P E)(hH:HRel LM hp H){ok:Bool}(h:KL E hp t x k ok f=.ok ρ):zX ρ f id (rLookup (qD P t) H x k ok):=by
 unfold KL at h;split at h
 ·rename_i mi hm
  rw[hE.mps _ _ hm];obtain⟨i,es,dom,get,rfl,hb,hd,h⟩:=Wq hH h;obtain⟨v,hv,h⟩:=Wp h;obtain⟨q,h⟩:=qe h;rw[Qy]at q;obtain⟨ag,ls,z⟩:=mi;simp only[rLookup,mapOf,hb,hv];have hdv:=hd v;unfold qiL at h;split at h
  ·rename_i s hs
   rw[hs]at hdv;have e1:dom v=true:=hdv.1;have e2:get v=s:=hdv.2 s rfl;rw[e1,e2];cases ok
   ·exact qi rfl ⟨trivial,q⟩ h
   ·exact qi rfl ⟨trivial,q⟩ h
  ·rename_i hs
   rw[hs]at hdv;have e1:dom v=false:=hdv.1;rw[e1];cases ok
   ·exact qi rfl ⟨trivial,q⟩ h
   ·exact qi rfl ⟨trivial,q⟩ h
 ·cases h
def KM(E:XE)(hp:Tr 6 XB)(t:TypeId)(m k x:SV)(f:XR→R):R:=
 match E.mps t with
 |some mi=>qiK hp m mi λi es=>qiJ k λv=>ql 407 (KJ mi.ag mi.ls v) (f (.upd i (.map mi.ag mi.ls ((v,some x) :: es)) undefSV))
 |none=>.bad 409 0
theorem GX(hE:XOk P E)(hH:HRel LM hp H){m:SV}(h:KM E hp t m k x f=.ok ρ):zX ρ f id (rUpdate (qD P t) H m k x):=by
 unfold KM at h;split at h
 ·rename_i mi hm
  rw[hE.mps _ _ hm];obtain⟨i,es,dom,get,rfl,hb,hd,h⟩:=Wq hH h;obtain⟨v,hv,h⟩:=Wp h;obtain⟨q,h⟩:=qe h;rw[Qy]at q;obtain⟨ag,ls,z⟩:=mi;simp only[rUpdate,hb,hv];refine kX h rfl ⟨trivial,q,trivial⟩ ⟨rfl,λu=>?_⟩;rw[zR];unfold qA qB;cases e:eqK v u with
  |true=>exact⟨rfl,λs hs=>by rw[if_pos rfl]at hs;cases hs;rfl⟩
  |false=>
   rw[if_neg Ωq,xf4];exact⟨(hd u).1,λs hs=>(hd u).2 s hs⟩
 ·cases h
def Wr(E:XE)(hp:Tr 6 XB)(t:TypeId)(m k:SV)(f:XR→R):R:=
 match E.mps t with
 |some mi=>qiK hp m mi λi es=>qiJ k λv=>ql 410 (KJ mi.ag mi.ls v) (f (.upd i (.map mi.ag mi.ls ((v,none) :: es)) undefSV))
 |none=>.bad 411 0
theorem qbZ(hE:XOk P E)(hH:HRel LM hp H){m:SV}(h:Wr E hp t m k f=.ok ρ):zX ρ f id (rDelete (qD P t) H m k):=by
 unfold Wr at h;split at h
 ·rename_i mi hm
  rw[hE.mps _ _ hm];obtain⟨i,es,dom,get,rfl,hb,hd,h⟩:=Wq hH h;obtain⟨v,hv,h⟩:=Wp h;obtain⟨q,h⟩:=qe h;rw[Qy]at q;obtain⟨ag,ls,z⟩:=mi;simp only[rDelete,hb,hv];refine kX h rfl ⟨trivial,q⟩ ⟨rfl,λu=>?_⟩;rw[zR];unfold ko;cases e:eqK v u with
  |true=>exact⟨rfl,λs hs=>by rw[if_pos rfl]at hs;cases hs⟩
  |false=>
   simp_all
 ·cases h
def Zk(E:XE)(t:TypeId)(rs:Bool)(id:Nat)(f:XR→R):R:=
 match E.mps t with
 |some mi=>ql 412 (!rs) (f (.new (.map mi.ag mi.ls []) (.mp id)))
 |none=>.bad 413 0
theorem Y7(hE:XOk P E){rs:Bool}(h:Zk E t rs id f=.ok ρ):zX ρ f id (rMakeMap (qD P t) rs):=by
 unfold Zk at h;split at h
 ·rename_i mi hm
  rw[hE.mps _ _ hm];obtain⟨q,h⟩:=qe h;obtain⟨ag,ls,z⟩:=mi;cases rs
  ·exact jq h rfl trivial ⟨rfl,λk=>⟨rfl,λs hs=>by cases hs⟩⟩ rfl
  ·cases q
 ·cases h
def qy(F:Tr 3 SV)(t:Nat):SV:=Option.rec .top (λs=>s) (F.find t)
def FRel(fr:Tr 3 SV)(F:List (Nat×SV)):Prop:=∀t,look F t=qy fr t
def FRelF(fr:Tr 3 SV)(F:Nat→SV):Prop:=∀t,F t=qy fr t
theorem FRel.fn{F:List (Nat×SV)}(h:FRel fr F):FRelF fr (look F):=h
def zk(F:Tr 3 SV)(x:Operand):SV:=Operand.rec (λt=>qy F t) (λv=>.val v) (λ_=>.top) (λf=>.fn (.func f) [] []) x
theorem FRelF.env(h:FRelF fr F)(x:Operand):env F x=zk fr x:=by cases x<;>first|exact h _|rfl
def wH(F:Tr 3 SV):List Operand→List SV
 |[]=>[]
 |x :: l=>zk F x :: wH F l
theorem FRelF.envs{fr:Tr 3 SV}{F:Nat→SV}(h:FRelF fr F):∀l:List Operand,envs F l=wH fr l
 |[]=>rfl
 |x :: l=>by rw[Sx.envs,wH,h.env,FRelF.envs h l]
def Y8(F:Tr 3 SV):List (Nat×Operand)→List (Nat×SV)
 |[]=>[]
 |x :: l=>(x.1,zk F x.2) :: Y8 F l
theorem FRelF.envp{fr:Tr 3 SV}{F:Nat→SV}(h:FRelF fr F):∀l:List (Nat×Operand),envp F l=Y8 fr l
 |[]=>rfl
 |x :: l=>by rw[Sx.envp,Y8,h.env,FRelF.envp h l]
def Zl(E:XE)(hp:Tr 6 XB)(b:Builtin)(ts:List TypeId)(args:List SV)(id:Nat)(f:XR→R):R:=
 match b with
 |.len=>(match args,ts with|[x],[t]=>qgg E t x f|_,_=>.bad 230 0)
 |.append=>(match args,ts with|[s,x],[t,t']=>ql 231 (Nat.beq t t') (Zi E hp t s x id f)|_,_=>.bad 232 0)
 |.min=>qlO false args f
 |.max=>qlO true args f
 |.copy=>(match args,ts with|[d,x],[t,t']=>qiG E hp t d x f|_,_=>.bad 233 0)
 |.clear=>(match args,ts with|[d],[t]=>qbX E hp t d f|_,_=>.bad 234 0)
 |.delete=>(match args,ts with|[m,k],[t,t']=>Wr E hp t m k f|_,_=>.bad 238 0)
 |_=>.bad 235 0
def vI(E:XE)(fr:Tr 3 SV)(hp:Tr 6 XB)(c:Call)(id:Nat)(f:XR→R):R:=
 match c.callee with
 |.value x=>(match zk fr x with
  |.fn (.func g) first caps=>Qb (first++(wH fr c.args.toList++caps)) λl=>f (.call g l)
  |.yld y=>Qb (wH fr c.args.toList) λl=>f (.yield y l)
  |_=>.bad 236 0)
 |.builtin b=>Zl E hp b c.argTypes.toList (wH fr c.args.toList) id f
 |_=>.bad 237 0
theorem GY{l:List Operand}(h:Sx.envs F l=[s,x]):∃a b,l=[a,b]∧s=Sx.env F a∧x=Sx.env F b:=by
 match l,h with
 |[a,b],h=>simp only[Sx.envs,List.cons.injEq,and_true]at h;exact⟨a,b,rfl,h.1.symm,h.2.symm⟩
 |[],h=>cases h
 |[a],h=>simp[Sx.envs]at h
 |a :: b :: c :: l,h=>simp[Sx.envs]at h
theorem Y9{l:List Operand}(h:Sx.envs F l=[s]):∃a,l=[a]∧s=Sx.env F a:=by
 match l,h with
 |[a],h=>simp only[Sx.envs,List.cons.injEq,and_true]at h;exact⟨a,rfl,h.symm⟩
 |[],h=>cases h
 |a :: b :: l,h=>simp[Sx.envs]at h
theorem qiM(hE:XOk P E)(hF:FRelF fr F)(hH:HRel LM hp H){c:Call}(h:vI E fr hp c id f=.ok ρ):zX ρ f id (rCall P F H c):=by
 unfold vI at h;split at h
 ·rename_i x hc
  simp only[rCall,hc,hF.env,hF.envs];split at h
  ·rename_i hx
   rw[ku]at h;rw[hx];exact qga rfl h
  ·rename_i hx
   rw[ku]at h;rw[hx];exact qbS rfl h
  ·cases h
 ·rename_i b hc
  rw[←hF.envs]at h;unfold Zl at h;split at h
  ·split at h
   ·rename_i ha ht
    obtain⟨a,e,rfl⟩:=Y9 ha;simp only[rCall,hc,e,ht];exact qlN hE h
   ·cases h
  ·split at h
   ·rename_i ha ht
    obtain⟨a,b,e,rfl,rfl⟩:=GY ha;obtain⟨q,h⟩:=qe h;have q:=xa6 q;simp only[rCall,hc,e,ht,if_pos q];exact qbU hE hH h
   ·cases h
  ·simp only[rCall,hc]
   exact qdD h
  ·simp only[rCall,hc]
   exact qdD h
  ·split at h
   ·rename_i ha ht
    obtain⟨a,b,e,rfl,rfl⟩:=GY ha;simp only[rCall,hc,e,ht];exact qiI hE hH h
   ·cases h
  ·split at h
   ·rename_i ha ht
    obtain⟨a,e,rfl⟩:=Y9 ha;simp only[rCall,hc,e,ht];exact qgj hE hH h
   ·cases h
  ·split at h
   ·rename_i ha ht
    obtain⟨a,b,e,rfl,rfl⟩:=GY ha;simp only[rCall,hc,e,ht];exact qbZ hE hH h
   ·cases h
  ·cases h
 ·cases h
def qlQ(fr:Tr 3 SV):Option Operand→Option SV
 |none=>none
 |some x=>some (zk fr x)
theorem FRelF.opt(h:FRelF fr F)(o:Option Operand):o.map (Sx.env F)=qlQ fr o:=by
 cases o
 ·rfl
 ·show some _=some _;rw[h.env]
def xOp(E:XE)(fr:Tr 3 SV)(hp:Tr 6 XB)(id:Nat)(op:Op)(f:XR→R):R:=
 match op with
 |.move x=>Zc (zk fr x) f
 |.assign x=>Zc (zk fr x) f
 |.pick c a b=>qdv (zk fr c) (zk fr a) (zk fr b) f
 |.alloc t=>Wj E t id f
 |.box t x=>qlJ E t (zk fr x) id f
 |.load t x=>YY E hp t (zk fr x) f
 |.store t a x=>GU E hp t (zk fr a) (zk fr x) f
 |.nilCheck x=>qix (zk fr x) f
 |.binOp op t x y _=>qbT E op t (zk fr x) (zk fr y) f
 |.unOp op _ x=>xUn op (zk fr x) f
 |.convert s t x=>qdu E s t (zk fr x) f
 |.makeFunc g fs cs=>Qb (wH fr fs.toList) λa=>Qb (wH fr cs.toList) λb=>f (.pure (.fn g a b))
 |.fieldAddr t x i=>va E t (zk fr x) i f
 |.field t x i=>Wl E t (zk fr x) i f
 |.indexAddr t x i=>ws E t (zk fr x) (zk fr i) f
 |.extract x i=>Zg (zk fr x) i f
 |.call c=>vI E fr hp c id f
 |.build t ps=>qbW E t (Y8 fr ps.toList) f
 |.buildSlice t len ps=>yg E t len (Y8 fr ps.toList) id f
 |.makeSlice t l c=>qiB E t (zk fr l) (zk fr c) id f
 |.slice t x lo hi mx=>qbV E t (zk fr x) (qlQ fr lo) (qlQ fr hi) (qlQ fr mx) f
 |.index t x i=>Wm E t (zk fr x) (zk fr i) f
 |.makeMap t rs=>Zk E t rs.isSome id f
 |.lookup t x k ok=>KL E hp t (zk fr x) (zk fr k) ok f
 |.mapUpdate t m k x=>KM E hp t (zk fr m) (zk fr k) (zk fr x) f
 |.insert t m k x=>KM E hp t (zk fr m) (zk fr k) (zk fr x) f
 |.mapEntry _ _ _=>.bad 241 0
 |.entryStore _ _ _ _=>.bad 242 0
 |.range _ _=>.bad 243 0
 |.next _ _=>.bad 244 0
 |.entry _=>.bad 245 0
 |_=>.bad 240 0
theorem qca(hE:XOk P E)(hF:FRelF fr F)(hH:HRel LM hp H){op:Op}(h:xOp E fr hp id op f=.ok ρ):zX ρ f id (stepR P F H op):=by
 cases op<;>simp only[xOp,reduceCtorEq]at h<;>simp only[stepR,hF.env,hF.envs,hF.envp,hF.opt]
 case move x=>rw[kY]at h;exact qi rfl trivial h
 case assign x=>rw[kY]at h;exact qi rfl trivial h
 case pick=>exact qiw h
 case alloc=>exact qgc hE h
 case box=>exact qlK hE h
 case load=>exact YZ hE hH h
 case store=>exact qgd hE hH h
 case nilCheck=>exact qlM h
 case binOp=>exact qlI hE h
 case unOp=>exact qoB h
 case convert=>exact qiv hE h
 case makeFunc=>rw[ku,ku]at h;exact qi rfl trivial h
 case fieldAddr=>exact JK hE h
 case field=>exact qge hE h
 case indexAddr=>exact JM hE h
 case extract=>exact Y1 h
 case call=>exact qiM hE hF hH h
 case build=>exact qgi hE h
 case buildSlice=>exact GW hE h
 case makeSlice=>exact qiC hE h
 case slice=>exact qgh hE h
 case index=>exact qgf hE h
 case makeMap=>exact Y7 hE h
 case lookup=>exact qbY hE hH h
 case mapUpdate=>exact GX hE hH h
 case insert=>exact GX hE hH h
end
end
end Go.Sx
end
section
namespace Go.Sx
open Go.RowKit
variable{o:Oper}{F:Nat→SV}{hp:List (Nat×Blk)}{ds:List (Option Tmp)}
def jA:Op→Bool
 |.move _|.load _ (.tmp _)|.nilCheck _|.fieldAddr _ _ _|.indexAddr _ _ _|.binOp _ _ _ _ _|.build _ _=>true
 |_=>false
def Qi(t:Tmp)(o:Oper):Bool:=(zP o).all (λu=>!(Nat.beq u t))&&(match o.dst with|some d=>!(Nat.beq d t)|none=>true)
def yM(ds:List (Option Tmp))(ms:List Nat)(t e s i:Nat)(o:Oper):Bool:=
 match o.op with
 |.lookup t' _ _ false=>Nat.beq t t'&&Nat.blt i e&&(ms.getD s 0).testBit i
 |.store _ (.tmp b) _=>zi ds i b&&o.dst.isNone
 |.load _ (.tmp a)=>zi ds i a
 |op=>jA op
def gJ(o:Oper):Oper:={ o with op:=.move (.const undef) }
def qgk(e x s:Nat):Nat→List Oper→List Oper
 |_,[]=>[]
 |i,o :: r=>(if i=e∨i=x∨i=s then gJ o else o) :: qgk e x s (i+1) r
def Zm(e x s:Nat)(u:Op):Nat→List Oper→List Oper
 |_,[]=>[]
 |i,o :: r=>(if i=e∨i=x then gJ o else if i=s then { o with op:=u }else o) :: Zm e x s u (i+1) r
def vJ(ds:List (Option Tmp))(ms:List Nat)(t te tx e x s:Nat):Nat→List Oper→Bool
 |_,[]=>true
 |i,o :: r=>(Nat.beq i e || Nat.beq i x || Nat.beq i s ||(yM ds ms t e s i o&&Qi te o&&Qi tx o))&&o.guard.isNone&&vJ ds ms t te tx e x s (i+1) r
def Zn:List Oper→List Tmp
 |[]=>[]
 |o :: r=>(match o.op with|.load _ (.tmp a)=>[a]|.store _ (.tmp b) _=>[b]|_=>[])++Zn r
structure EI where
 e:Nat
 x:Nat
 s:Nat
 te:Tmp
 tx:Tmp
 t:TypeId
 mm:Tmp
 k:Operand
 y:Operand
def qlR(ds:List (Option Tmp))(e:Nat):Operand→Bool
 |.tmp k=>zi ds e k
 |_=>true
def qiN(te tx:Tmp):Operand→Bool
 |.tmp u=>!(Nat.beq u te)&&!(Nat.beq u tx)
 |_=>true
def EI.upd(q:EI):Op:=.mapUpdate q.t (.tmp q.mm) q.k q.y
def qiO(q:EI)(far:List (Nat×Nat))(l:List Oper):Bool:=
 let ms:=zh [] l
 let ds:=dsts l
 k9 0 l&&(yC ds ms l&&(VZ far ds ms (qgk q.e q.x q.s 0 l)&&(vJ ds ms q.t q.te q.tx q.e q.x q.s 0 l&&(zi ds q.e q.mm&&(qlR ds q.e q.k&&((ms.getD q.x 0).testBit q.e&&((ms.getD q.s 0).testBit q.x&&((ms.getD q.s 0).testBit q.e&&qiN q.te q.tx q.y))))))))
structure Ent(q:EI)(l:List Oper):Prop where
 ex:q.e<q.x
 xs:q.x<q.s
 ne:q.te≠q.tx
 oe:∃o,l[q.e]? = some o∧o.op=.mapEntry q.t (.tmp q.mm) q.k∧o.dst=some q.te
 ox:∃o,l[q.x]? = some o∧o.op=.extract (.tmp q.te) 1∧o.dst=some q.tx
 os:∃o,l[q.s]? = some o∧o.op=.entryStore q.t (.tmp q.mm) (.tmp q.tx) q.y∧o.dst=none
theorem qaa{e x s:Nat}:∀{l:List Oper}{i j:Nat}{o:Oper},l[j]? = some o→(qgk e x s i l)[j]? = some (if i+j=e∨i+j=x∨i+j=s then gJ o else o)
 |[],i,j,o,h=>by simp at h
 |p :: l,i,0,o,h=>by simp at h;subst h;simp[qgk]
 |p :: l,i,j+1,o,h=>by
  have:=qaa (e:=e) (x:=x) (s:=s) (i:=i+1) (show l[j]? = some o by simpa using h);simp only[qgk,xd7,this]
  grind
theorem qab{e x s:Nat}{u:Op}:∀{l:List Oper}{i j:Nat}{o:Oper},l[j]? = some o→(Zm e x s u i l)[j]? = some (if i+j=e∨i+j=x then gJ o else if i+j=s then { o with op:=u }else o)
 |[],i,j,o,h=>by simp at h
 |p :: l,i,0,o,h=>by simp at h;subst h;simp[Zm]
 |p :: l,i,j+1,o,h=>by
  have:=qab (e:=e) (x:=x) (s:=s) (u:=u) (i:=i+1) (show l[j]? = some o by simpa using h);simp only[Zm,xd7,this]
  grind
theorem qac{e x s:Nat}{u:Op}:∀{l:List Oper}{i:Nat},(Zm e x s u i l).length=l.length
 |[],i=>rfl
 |o :: l,i=>by simp[Zm,qac]
theorem Vj{e x s:Nat}{u:Op}:∀{l:List Oper}{i:Nat},dsts (Zm e x s u i l)=dsts l
 |[],i=>rfl
 |o :: l,i=>by
  have:∀o:Oper,(if i=e∨i=x then gJ o else if i=s then { o with op:=u }else o).dst=o.dst:=λo=>by
   split
   ·rfl
   ·split<;>rfl
  simp only[Zm,dsts,Vj,this]
theorem yh{ds:List (Option Tmp)}{ms:List Nat}{t te tx e x s:Nat}:∀{l:List Oper}{i j:Nat}{o:Oper},vJ ds ms t te tx e x s i l=true→l[j]? = some o→o.guard=none∧(i+j=e∨i+j=x∨i+j=s∨(yM ds ms t e s (i+j) o=true∧Qi te o=true∧Qi tx o=true))
 |[],i,j,o,h,ho=>by simp at ho
 |p :: l,i,0,o,h,ho=>by
  simp at ho;subst ho;simp only[vJ,xe6,xe8,Option.isNone_iff_eq_none]at h;obtain⟨⟨h1,h2⟩,-⟩:=h;refine⟨h2,?_⟩;rw[xb1];rcases h1 with((h1|h1)|h1)|h1
  ·simp_all
  ·simp_all
  ·simp_all
  ·simp_all
 |p :: l,i,j+1,o,h,ho=>by
  simp only[vJ,xe6]at h;have:=yh (i:=i+1) (j:=j) h.2 (show l[j]? = some o by simpa using ho)
  grind
theorem g8{t:Tmp}(h:Qi t o=true):t∉zP o∧o.dst≠some t:=by
 simp only[Qi,xe6,List.all_eq_true,Bool.not_eq_true']at h;obtain⟨h1,h2⟩:=h;refine⟨λhm=>?_,λe=>?_⟩
 ·have:=h1 t hm
  simp at this
 ·simp_all
theorem yN:∀{l:List Oper}{i:Nat}{o:Oper},l[i]? = some o→(∀t a,o.op=.load t (.tmp a)→a∈Zn l)∧(∀t b v,o.op=.store t (.tmp b) v→b∈Zn l)
 |[],i,o,h=>by simp at h
 |p :: l,0,o,h=>by
  simp at h;subst h;exact⟨λt a e=>by simp[Zn,e],λt b v e=>by simp[Zn,e]⟩
 |p :: l,i+1,o,h=>by
  obtain⟨h1,h2⟩:=yN (show l[i]? = some o by simpa using h);exact⟨λt a e=>List.mem_append_right _ (h1 t a e),λt b v e=>List.mem_append_right _ (h2 t b v e)⟩
section
variable{P:Program}
theorem yi{F':Nat→SV}{op:Op}(hc:jA op=true∨(∃t x k ok,op=.lookup t x k ok)∨(∃t a v,op=.store t a v))(h:∀t,.tmp t∈op.operands.toList→F t=F' t):stepR P F hp op=stepR P F' hp op:=by
 have he:∀x,x∈op.operands.toList→env F x=env F' x:=λx hx=>by
  cases x<;>first|exact h _ hx|rfl
 rcases hc with hc|⟨t,x,k,ok,rfl⟩|⟨t,a,v,rfl⟩
 ·cases op<;>first|(simp[jA]at hc;done)|skip
  all_goals first
   |(simp only[stepR];rw[he _ Ωm];done)
   |(simp only[stepR];rw[he _ Ωm,he _ Ωm];done)
   |skip
  case build t ps=>
   simp only[stepR];have:∀qs:List (Nat×Operand),(∀p∈qs,p.2∈(Op.build t ps).operands.toList)→envp F qs=envp F' qs:=by
    intro qs
    induction qs with
    |nil=>intro _;rfl
    |cons p qs ih=>
     intro hq;simp only[envp]
     simp_all
   rw[this _ λp hp=>by simp only[Op.operands];exact List.mem_map_of_mem hp]
 ·simp only[stepR]
  rw[he x Ωm,he k Ωm]
 ·simp only[stepR]
  rw[he a Ωm,he v Ωm]
theorem qcb{hp':List (Nat×Blk)}{ti:Option TyI}{a v:SV}(h:∀id x,qT a=some id→blk hp id=some x→blk hp' id=some x)(hne:rStore ti hp a v≠.bad):rStore ti hp' a v=rStore ti hp a v:=by
 match ti with
 |none=>rfl
 |some ⟨false,sz,z,d⟩=>
  cases a<;>first|rfl|skip
  case ptr id off=>
   simp only[rStore]at hne ⊢;cases hb:blk hp id with
   |none=>rw[hb]at hne;exact absurd rfl hne
   |some y=>rw[h _ _ rfl hb]
  case elt id k i j=>
   simp only[rStore]at hne ⊢;cases hb:blk hp id with
   |none=>rw[hb]at hne;exact absurd rfl hne
   |some y=>rw[h _ _ rfl hb]
 |some ⟨true,sz,z,d⟩=>
  cases v<;>first|rfl|skip
  cases a<;>first|rfl|skip
  case ptr id off=>
   simp only[rStore]at hne ⊢;cases hb:blk hp id with
   |none=>rw[hb]at hne;exact absurd rfl hne
   |some y=>rw[h _ _ rfl hb]
  case elt id k i j=>
   simp only[rStore]at hne ⊢;cases hb:blk hp id with
   |none=>rw[hb]at hne;exact absurd rfl hne
   |some y=>rw[h _ _ rfl hb]
theorem ki{op:Op}(hc:jA op=true∨(∃t x k ok,op=.lookup t x k ok)):(∃obl sv,stepR P F hp op=.pure obl sv)∨(∃obl,stepR P F hp op=.ex obl)∨stepR P F hp op=.bad:=by
 have key:∀x:Res,vg x=true→(∃obl sv,x=.pure obl sv)∨(∃obl,x=.ex obl)∨x=.bad:=λx hx=>by
  cases x<;>first|(cases hx;done)|(exact .inl ⟨_,_,rfl⟩)|(exact .inr (.inl ⟨_,rfl⟩))|(exact .inr (.inr rfl))
 refine key _ ?_;rcases hc with hc|⟨t,x,k,ok,rfl⟩
 ·cases op<;>first|(simp[jA]at hc;done)|(simp only[stepR])
  case move=>rfl
  case load=>unfold rLoad;(repeat' split)<;>rfl
  case nilCheck=>unfold rNil;split<;>rfl
  case binOp=>unfold rBin;(repeat' split)<;>first|rfl|(unfold rInt;split<;>rfl)|(unfold rEq;(repeat' split)<;>rfl)|(unfold rNilS;(repeat' split)<;>rfl)
  case fieldAddr=>unfold rFieldAddr;(repeat' split)<;>rfl
  case indexAddr=>unfold rIndexAddr;(repeat' split)<;>rfl
  case build=>exact gy _ _
 ·exact kW _ _ _ _ _
theorem qdN(O:Ctx)(st:St):Weak O st { st with nid:=st.nid+1 }:=λbase okc ns outs a w h=>by
 obtain⟨r,h⟩:=h;have s:=h.sat.more (N':=(· < st.nid+1)) (λx hx=>Nat.lt_succ_of_lt hx) (λx y hy _=>h.keys x y hy);exact⟨r,(h.step s (λid x hx=>Nat.lt_succ_of_lt (h.keys id x hx)) (xc4 _) (d:=none) (λt ht=>by cases ht) (.top undef)).nid (st.nid+1)⟩
theorem qlS(O:Ctx)(st:St)(a b:Tmp):Weak O st ⟨putFr (putFr st.fr a .top) b .top,st.hp,st.nid⟩:=λbase okc ns outs x w ⟨r,h⟩=>⟨r,h.sat,h.keys,λi=>by
 show Rep _ _ _ _ (look (putFr (putFr st.fr a .top) b .top) i) _;rw[zn,zn];split
 ·exact .top _
 ·split
  ·exact .top _
  ·exact h.fr i,h.size,h.lo,h.out,h.rfix,h.defers⟩
theorem qcc{dst:Nat→Option Tmp}{res res':Nat→SV}{S:Nat→Bool}{F:Nat→SV}{t:Nat}:∀{n:Nat},(∀j,j<n→S j=true→dst j=some t→res j=res' j)→FS dst res S F n t=FS dst res' S F n t
 |0,h=>rfl
 |n+1,h=>by
  have ih:=qcc (F:=F) (n:=n) λj hj=>h j Ω;simp only[FS];by_cases c:S n=true∧dst n=some t
  ·simp_all
  ·simp_all
theorem Ws{dst:Nat→Option Tmp}{res:Nat→SV}{S:Nat→Bool}{F:Nat→SV}{t i:Nat}(hi:dst i=some t)(hS:S i=true):∀{n:Nat},i<n→(∀j,j<n→dst j=some t→j=i)→FS dst res S F n t=res i
 |n+1,h,hu=>by
  simp only[FS];by_cases c:S n=true∧dst n=some t
  ·simp_all
  ·rw[if_neg c]
   have:i≠n:=λe=>c (e▸⟨hS,hi⟩);exact Ws hi hS Ω λj hj=>hu j Ω
def TH(k:Nat)(nb:Nat→Option Blk)(up:Nat→Option (Nat×Blk))(hp:List (Nat×Blk)):Nat→List (Nat×Blk)
 |0=>hp
 |i+1=>match up i with
  |some (t,b)=>setBlk (TH k nb up hp i) t b
  |none=>vz (nb i) (k+i) (TH k nb up hp i)
theorem qql{k:Nat}{nb:Nat→Option Blk}{up:Nat→Option (Nat×Blk)}{hp:List (Nat×Blk)}:∀{i:Nat},(∀j,j<i→nb j=none)→TH k nb up hp i=UH up (λ_=>true) hp i
 |0,h=>rfl
 |i+1,h=>by
  have ih:=qql (k:=k) (up:=up) (hp:=hp) (i:=i) λj hj=>h j Ω;simp only[TH,UH,if_true,ih,h i Ω];cases up i<;>rfl
def but(up:Nat→Option (Nat×Blk))(s:Nat):Nat→Option (Nat×Blk):=λj=>if j=s then none else up j
theorem qcd{up:Nat→Option (Nat×Blk)}{S:Nat→Bool}{H:List (Nat×Blk)}{s X:Nat}(h:∀t b,up s=some (t,b)→t≠X):∀{n:Nat},blk (UH up S H n) X=blk (UH (but up s) S H n) X
 |0=>rfl
 |n+1=>by
  have ih:=qcd (S:=S) (H:=H) h (n:=n);simp only[UH];by_cases hS:S n=true
  ·rw[if_pos hS,if_pos hS]
   by_cases e:n=s
   ·subst e
    have:but up n n=none:=by simp[but]
    rw[this];cases hu:up n with
    |none=>exact ih
    |some p=>
     obtain⟨t,b⟩:=p;dsimp only;rw[qq,if_neg (λe=>h t b hu e.symm)];exact ih
   ·have:but up s n=up n:=by simp[but,e]
    rw[this];cases hu:up n with
    |none=>exact ih
    |some p=>
     obtain⟨t,b⟩:=p;dsimp only;rw[qq,qq];by_cases c:X=t
     ·simp_all
     ·simp_all
  ·simp_all
theorem jO{ms:List Nat}{t e s i:Nat}(h:yM ds ms t e s i o=true) :
  (jA o.op=true∧∀t' a,o.op=.load t' (.tmp a)→zi ds i a=true)∨(∃x k,o.op=.lookup t x k false∧i<e∧(ms.getD s 0).testBit i=true)∨(∃t' b v,o.op=.store t' (.tmp b) v∧zi ds i b=true∧o.dst=none):=by
 unfold yM at h;split at h
 ·simp_all
 ·rename_i t' b v e1
  simp only[xe6,Option.isNone_iff_eq_none]at h
  grind
 ·rename_i t' a e1
  exact .inl ⟨by rw[e1];rfl,λt2 a2 e2=>by rw[e1]at e2;cases e2;exact h⟩
 ·simp_all
def Wt(dom:Value→Bool)(v:Value):Value→Bool:=if dom v=true then dom else qA dom v
def qad(dom:Value→Bool)(get:Value→SV)(v:Value)(z:SV):Value→SV:=if dom v=true then get else qB get v z
theorem Wu{dom:Value→Bool}{get:Value→SV}{v:Value}{z xv:SV}:Wt dom v=qA dom v∧qB (qad dom get v z) v xv=qB get v xv:=by
 refine⟨?_,?_⟩
 ·unfold Wt
  split
  ·rename_i h
   funext u;unfold qA;cases e:eqK v u with
   |true=>rw[←zz e,h];rfl
   |false=>rfl
  ·rfl
 ·unfold qad
  split
  ·rfl
  ·funext u
   unfold qB;cases e:eqK v u<;>simp[svIte]
theorem qiP{dom:Value→Bool}{get:Value→SV}{v u:Value}{z:SV}:svIte (Wt dom v u) (qad dom get v z u) z=svIte (dom u) (get u) z:=by
 unfold Wt qad;split
 ·rfl
 ·rename_i h
  unfold qA qB;cases e:eqK v u with
  |true=>
   have:=zz e;subst this;simp[svIte,h]
  |false=>simp[svIte]
theorem qae{S:Nat→Bool}:∀{n:Nat},(∀j,j<n→S j=false)→cnt S n=n
 |0,h=>rfl
 |n+1,h=>by
  have ih:=qae (n:=n) λj hj=>h j Ω;simp only[cnt,ih];rw[h n Ω];rfl
theorem qdO{S:Nat→Bool}:∀{n:Nat},(∀j,j<n→S j=true)→cnt S n=0
 |0,h=>rfl
 |n+1,h=>by
  have ih:=qdO (n:=n) λj hj=>h j Ω;simp only[cnt,ih];rw[h n Ω];rfl
inductive Vk(P:Program)(ds:List (Option Tmp))(F:Nat→SV)(hp:List (Nat×Blk))(id:Nat)(o:Oper):SV→Option Blk→Option (Nat×Blk)→Prop
 |skip (hg:j6 ds o.guard F=some false):Vk P ds F hp id o undefSV none none
 |run (sv:SV) (nb:Option Blk) (hg:j6 ds o.guard F=some true) (hc:kz o.op=true) (hr:Gl P F hp id o sv nb):Vk P ds F hp id o sv nb none
 |upd (obl:Prop) (t:Nat) (b:Blk) (hg:j6 ds o.guard F=some true) (h:stepR P F hp o.op=.upd obl t b) (ho:obl):Vk P ds F hp id o undefSV none (some (t,b))
theorem qdP{P:Program}{id:Nat}{sv:SV}{nb:Option Blk}{up:Option (Nat×Blk)}{dr:Option Nat}(hc:(kz o.op || qL o.op)=true)(h:Kw P ds F hp id o sv nb up dr):dr=none∧Vk P ds F hp id o sv nb up:=by
 have no:¬(zB o.op).isSome=true:=λh=>by
  obtain⟨⟨s,x⟩,hs⟩:=Option.isSome_iff_exists.1 h;have:=zQ hs;rw[ZN this,Qp this]at hc;cases hc
 cases h with
 |skip hg=>exact⟨rfl,.skip hg⟩
 |run sv nb hg h1 h2=>exact⟨rfl,.run sv nb hg h1 h2⟩
 |upd obl t b hg h ho=>exact⟨rfl,.upd obl t b hg h ho⟩
 |newA obl b mk hg ha h ho=>exact(no ha).elim
 |grow obl old b mk hg ha h ho=>exact(no ha).elim
theorem qiQ{k:Nat}{nb:Nat→Option Blk}{up:Nat→Option (Nat×Blk)}{dr:Nat→Option Nat}{hp:List (Nat×Blk)}:∀{i:Nat},(∀j,j<i→dr j=none)→TG k nb up dr hp i=TH k nb up hp i
 |0,_=>rfl
 |i+1,h=>by
  simp only[TG,TH];rw[h i (xb5 i),qiQ λj hj=>h j Ω];rfl
theorem qiR{P:Program}{O:Ctx}{J:Prop}(hJ:¬J){K:St→Prop}(ops:List Oper)(i:Nat)(st:St)(hall:∀o∈ops,(kz o.op || qL o.op)=true)(h:zc P O J ds ops i st K) :
  ∃(res:Nat→SV)(nb:Nat→Option Blk)(up:Nat→Option (Nat×Blk))(st':St),
   (∀j o,ops[j]? = some o→Vk P ds (FS (nth (dsts ops)) res (λ_=>true) (look st.fr) j) (TH (st.nid+i) nb up st.hp j) (st.nid+i+j) o (res j) (nb j) (up j))∧
   look st'.fr=FS (nth (dsts ops)) res (λ_=>true) (look st.fr) ops.length∧st'.hp=TH (st.nid+i) nb up st.hp ops.length∧st'.nid=st.nid∧K st':=by
 obtain⟨res,nb,up,dr,st',ha,hf,hh,hn,hk⟩:=Gy (tail:=[]) ops i st (λo ho=>by rw[hall o ho];rfl) (λj=>absurd j hJ) (by rwa [xd3]);have hd:∀j,j<ops.length→dr j=none:=λj hj=>(qdP (hall ops[j] (List.getElem_mem hj)) (ha j _ (by simp[hj]))).1;refine⟨res,nb,up,st',λj o ho=>?_,hf,?_,hn,hk⟩
 ·have hj:=(List.getElem?_eq_some_iff.1 ho).1
  have:=(qdP (hall o (List.mem_of_getElem? ho)) (ha j o ho)).2
  rwa [qiQ λx hx=>hd x Ω]at this
 ·rw[hh,qiQ hd]
def qqm(q:EI)(l:List Oper)(st:St):Prop:=∀mid,look st.fr q.mm=.mp mid→(∃fit dom get,blk st.hp mid=some (.map fit dom get))∧∀a∈Zn l,qT (look st.fr a)≠some mid
theorem yj(hm:P.follows .mixedOrders=true){O:Ctx}{st:St}{K:Ex→St→Prop}{id:Nat}{l:List Oper}{q:EI}{far:List (Nat×Nat)}{g:Tag K}(hq:Ent q l)(hok:qiO q far l=true)
  (hk:zc P O False (dsts l) (Zm q.e q.x q.s q.upd 0 l) 0 st λst1=>FarVC far st1 (qqm q l st1∧∀st2,(∀t,look st2.fr t=if t=q.te∨t=q.tx then .top else look st1.fr t)→(∀j,blk st2.hp j=blk st1.hp j)→st2.nid=st1.nid+l.length→K .normal st2)):jC P O id l true st K g:=by
 obtain⟨e,x,s,te,tx,t,mm,k,y⟩:=q;obtain⟨hex,hxs,hne,⟨oe,hoe,hope,hdse⟩,⟨ox,hox,hopx,hdsx⟩,⟨os,hos,hops_,hdss⟩⟩:=hq;simp only[EI.upd]at *;simp only[qiO,xe6]at hok;obtain⟨hedge,hapart,hpair,hcls,hmm,hkf,hxe,hsx,hse,hyn⟩:=hok;have hlen:=qac (e:=e) (x:=x) (s:=s) (u:=Op.mapUpdate t (.tmp mm) k y) (l:=l) (i:=0);have hds:=Vj (e:=e) (x:=x) (s:=s) (u:=Op.mapUpdate t (.tmp mm) k y) (l:=l) (i:=0);have hsl:s<l.length:=(List.getElem?_eq_some_iff.1 hos).1;have hcl:∀j o,l[j]? = some o→o.guard=none∧(j=e∨j=x∨j=s∨(yM (dsts l) (zh [] l) t e s j o=true∧Qi te o=true∧Qi tx o=true)):=λj o ho=>by
  have:=yh hcls ho
  rwa [xb0]at this
 have hfix:∀j o,l[j]? = some o→(Zm e x s (Op.mapUpdate t (.tmp mm) k y) 0 l)[j]? = some (if j=e∨j=x then gJ o else if j=s then { o with op:=Op.mapUpdate t (.tmp mm) k y }else o):=λj o ho=>by
  have:=qab (e:=e) (x:=x) (s:=s) (u:=Op.mapUpdate t (.tmp mm) k y) (i:=0) ho;simpa only[xb0]using this
 have hall:∀o∈Zm e x s (Op.mapUpdate t (.tmp mm) k y) 0 l,(kz o.op || qL o.op)=true:=by
  intro o ho;obtain⟨j,hj⟩:=List.mem_iff_getElem?.1 ho;have hjl:j<l.length:=by rw[←hlen];exact(List.getElem?_eq_some_iff.1 hj).1
  have h0:l[j]? = some l[j]:=by simp[hjl]
  rw[hfix j _ h0]at hj;simp only[Option.some.injEq]at hj;subst hj;by_cases c1:j=e∨j=x
  ·rw[if_pos c1];rfl
  ·rw[if_neg c1]
   by_cases c2:j=s
   ·rw[if_pos c2];rfl
   ·rw[if_neg c2]
    rcases(hcl j _ h0).2 with c|c|c|⟨c,-,-⟩
    ·exact absurd (.inl c) c1
    ·exact absurd (.inr c) c1
    ·exact absurd c c2
    ·rcases jO c with⟨c,-⟩|⟨a,b,c,-⟩|⟨a,b,d,c,-⟩
     ·generalize (l[j]).op=op at c
      cases op<;>first|(simp[jA]at c;done)|rfl
     ·rw[c];rfl
     ·rw[c];rfl
 obtain⟨res,nb,up,st1,hops,hF1,hh1,hn1,hk1⟩:=qiR Ωg _ 0 st hall hk;rw[xb1]at hops hh1;rw[hds]at hops hF1;rw[hlen]at hF1 hh1;obtain⟨⟨hendm,hk1⟩,hfar⟩:=gY hk1;have hat:∀j o,l[j]? = some o→j≠e→j≠x→j≠s→Vk P (dsts l) (FS (nth (dsts l)) res (λ_=>true) (look st.fr) j) (TH st.nid nb up st.hp j) (st.nid+j) o (res j) (nb j) (up j):=λj o ho h1 h2 h3=>by
  have:=hops j _ (hfix j o ho)
  rwa [if_neg (by simp[h1,h2]),if_neg h3]at this
 have hmmx:∀i,e≤i→i≤l.length→FS (nth (dsts l)) res (λ_=>true) (look st.fr) i mm=look st1.fr mm:=λi h1 h2=>by
  rw[hF1];have hdl:(dsts l).length=l.length:=by
   have:∀l:List Oper,(dsts l).length=l.length:=λl=>by induction l<;>simp[dsts, *]
   exact this l
  exact(jI h2 λk hk hik=>qS hmm Ω Ω).symm
 have hdl:(dsts l).length=l.length:=by
  have:∀l:List Oper,(dsts l).length=l.length:=λl=>by induction l<;>simp[dsts, *]
  exact this l
 have hquiet:∀j o,l[j]? = some o→(j=e∨j=x)→res j=undefSV∧nb j=none∧up j=none:=λj o ho hj=>by
  have:=hops j _ (hfix j o ho);rw[if_pos hj]at this;generalize res j=a1 at this ⊢;generalize nb j=a2 at this ⊢;generalize up j=a3 at this ⊢;cases this with
  |skip hg=>exact⟨rfl,rfl,rfl⟩
  |run sv nb hg hc hr=>
   cases hr with
   |pure obl sv h ho=>simp only[gJ,stepR,env,Res.pure.injEq]at h;exact⟨h.2.symm,rfl,rfl⟩
   |ex obl sv h ho=>simp[gJ,stepR]at h
   |new obl b mk h ho=>simp[gJ,stepR]at h
   |call f args res h hc=>simp[gJ,stepR]at h
   |callN f args pats b res h hc hs=>simp[gJ,stepR]at h
  |upd obl t b hg h ho=>simp[gJ,stepR]at h
 have hord:∀j o,l[j]? = some o→j≠e→j≠x→j≠s→nb j=none∧(∀t' b',up j=some (t',b')→∃ty b v,o.op=.store ty (.tmp b) v∧zi (dsts l) j b=true∧o.dst=none∧qT (look st1.fr b)=some t'):=λj o ho h1 h2 h3=>by
  have h:=hat j o ho h1 h2 h3;have hc:=(hcl j o ho).2;rcases hc with c|c|c|⟨c,-,-⟩
  ·exact absurd c h1
  ·exact absurd c h2
  ·exact absurd c h3
  have hjl:j<l.length:=(List.getElem?_eq_some_iff.1 ho).1;generalize res j=a1 at h ⊢;generalize nb j=a2 at h ⊢;generalize up j=a3 at h ⊢;have hnotU:(jA o.op=true∨∃t x k ok,o.op=.lookup t x k ok)→∀F hp obl t b,stepR P F hp o.op≠.upd obl t b:=λhp F hp' obl t b hh=>by
   rcases ki (P:=P) (F:=F) (hp:=hp') hp with⟨_,_,e1⟩|⟨_,e1⟩|e1<;>rw[e1]at hh<;>cases hh
  cases h with
  |skip hg=>exact⟨rfl,λ_ _ h=>by cases h⟩
  |run sv nb hg hca hr=>
   refine⟨?_,λ_ _ h=>by cases h⟩;have hpl:jA o.op=true∨∃t x k ok,o.op=.lookup t x k ok:=by
    rcases jO c with⟨c,-⟩|⟨a,b,c,-⟩|⟨a,b,d,c,-⟩
    ·exact .inl c
    ·exact .inr ⟨_,_,_,_,c⟩
    ·rw[c]at hca;cases hca
   cases hr with
   |pure obl sv h ho=>rfl
   |ex obl sv h ho=>rfl
   |call f args res h hc=>rfl
   |new obl b mk h ho=>rcases ki (P:=P) hpl with⟨_,_,e1⟩|⟨_,e1⟩|e1<;>rw[e1]at h<;>cases h
   |callN f args pats b res h hc hs=>rcases ki (P:=P) hpl with⟨_,_,e1⟩|⟨_,e1⟩|e1<;>rw[e1]at h<;>cases h
  |upd obl t2 b2 hg h hobl=>
   refine⟨rfl,λt' b' hh=>?_⟩;injection hh with hh;injection hh with hh1 hh2;subst hh1;subst hh2;rcases jO c with⟨c,-⟩|⟨a,b,c,-⟩|⟨a,b,d,c,c2,c3⟩
   ·exact absurd h (hnotU (.inl c) _ _ _ _ _)
   ·exact absurd h (hnotU (.inr ⟨_,_,_,_,c⟩) _ _ _ _ _)
   ·refine⟨a,b,d,c,c2,c3,?_⟩
    rw[c]at h;have h4:=jy h;rw[hF1,jI (i:=j) Ω (λk hk hik=>qS c2 Ω hik)];exact h4
 have hatS:=hops s _ (hfix s os hos);rw[if_neg Ω,if_pos rfl]at hatS;have hgs:os.guard=none:=(hcl s os hos).1;obtain⟨ag,ls,z,mid,hmi,hmp⟩:∃ag ls z mid,qD P t=some ⟨ag,ls,z⟩∧look st1.fr mm=.mp mid:=by
  generalize res s=a1 at hatS;generalize nb s=a2 at hatS;generalize up s=a3 at hatS;cases hatS with
  |skip hg=>simp[j6,hgs]at hg
  |run sv nb hg hca hr=>cases hca
  |upd obl t2 b2 hg h ho=>
   simp only[stepR,env]at h;rw[hmmx s Ω Ω]at h;unfold rUpdate at h;split at h
   ·rename_i e1 e2
    exact⟨_,_,_,_,e1,e2⟩
   ·cases h
 obtain⟨⟨fit1,dom1,get1,hmap1⟩,hadr⟩:=hendm mid hmp;have hup:∀j b,j<l.length→up j=some (mid,b)→j=s:=λj b hj hu=>by
  refine xf9 λhjs=>?_;have ho:l[j]? = some l[j]:=by simp[hj]
  by_cases c:j=e∨j=x
  ·have:=(hquiet j _ ho c).2.2
   rw[hu]at this;cases this
  ·obtain⟨ty,b',v',h1,h2,h3,h4⟩:=(hord j _ ho (λe=>c (.inl e)) (λe=>c (.inr e)) hjs).2 _ _ hu
   exact hadr b' ((yN ho).2 _ _ _ h1) h4
 have hnbs:nb s=none:=by
  generalize res s=a1 at hatS;generalize nb s=a2 at hatS ⊢;generalize up s=a3 at hatS;cases hatS with
  |skip hg=>rfl
  |run sv nb hg hca hr=>cases hca
  |upd obl t2 b2 hg h ho=>rfl
 have hnb:∀j,j<l.length→nb j=none:=λj hj=>by
  have ho:l[j]? = some l[j]:=by simp[hj]
  by_cases c:j=e∨j=x
  ·exact(hquiet j _ ho c).2.1
  ·by_cases c2:j=s
   ·subst c2;exact hnbs
   ·exact(hord j _ ho (λe=>c (.inl e)) (λe=>c (.inr e)) c2).1
 have hTH:∀i,i≤l.length→TH st.nid nb up st.hp i=UH up (λ_=>true) st.hp i:=λi hi=>qql λj hj=>hnb j Ω;have hH0:blk (TH st.nid nb up st.hp s) mid=blk st.hp mid:=by
  rw[hTH s Ω];exact j7 λj hj _ t' b hu e=>by
   subst e;have:=hup j b Ω hu;omega
 have hus:∀b,up s=some (mid,b)→∀y0,blk st.hp mid=some y0→blk st1.hp mid=some b:=λb hb y0 hy0=>by
  rw[hh1,hTH _ (xa5 _),V2 (i:=s+1) Ω (λj hj b' hu=>by
   have:=hup j b' hj hu;simp;omega)]
  have:UH up (λ_=>true) st.hp (s+1)=setBlk (UH up (λ_=>true) st.hp s) mid b:=by simp[UH,hb]
  rw[this,qq,if_pos rfl,←hTH s Ω,hH0,hy0];rfl
 obtain⟨fit,dom,get,v,hmap,hkey,hfit,hkv,hups⟩:∃fit dom get v,blk st.hp mid=some (.map fit dom get)∧keyV (env (FS (nth (dsts l)) res (λ_=>true) (look st.fr) s) k)=some v∧fit=qh ag ls∧qh ag ls v=true∧up s=some (mid,.map fit (qA dom v) (qB get v (env (FS (nth (dsts l)) res (λ_=>true) (look st.fr) s) y))):=by
  generalize res s=a1 at hatS;generalize nb s=a2 at hatS;generalize hu3:up s=a3 at hatS;cases hatS with
  |skip hg=>simp[j6,hgs]at hg
  |run sv nb hg hca hr=>cases hca
  |upd obl t2 b2 hg h ho=>
   simp only[stepR,env]at h;rw[hmmx s Ω Ω,hmi,hmp]at h;simp only[rUpdate,hH0]at h;split at h
   ·rename_i f d g1 v1 e1 e2
    injection h with h1 h2 h3;subst h1;subst h2;subst h3;exact⟨f,d,g1,v1,e1,e2,ho.1,ho.2.1,rfl⟩
   ·rename_i f d g1 st0 c0 v1 e1 e2
    injection h with h1 h2 h3;subst h1;subst h2;subst h3;have:=hus _ hu3 _ e1;rw[hmap1]at this;cases this
   ·cases h
 have hfin:=hus _ hups _ hmap;generalize hxv:env (FS (nth (dsts l)) res (λ_=>true) (look st.fr) s) y=xv at hups hfin
 let rs:(Value→Nat)→Nat→SV:=λσ i=>if i=e then .tup [if dom v=true then get v else z,Ψ (Φ Γ (σ v))]else if i=x then Ψ (Φ Γ (σ v))else res i
 let M:(Nat→Bool)→(Value→Nat)→Nat→Blk:=λS σ clk=>if S s=true then .map fit (qA dom v) (qB get v xv)else if S e=true then .mapS fit (Wt dom v) (qad dom get v z) σ clk else .map fit dom get
 have hde:nth (dsts l) e=some te:=by rw[zA,hoe];exact hdse
 have hdx:nth (dsts l) x=some tx:=by rw[zA,hox];exact hdsx
 have hdS:nth (dsts l) s=none:=by rw[zA,hos];exact hdss
 have hte:∀j,j<l.length→nth (dsts l) j=some te→j=e:=λj hj hd=>by
  have ho:l[j]? = some l[j]:=by simp[hj]
  rw[zA,ho]at hd;rcases(hcl j _ ho).2 with c|c|c|⟨-,c,-⟩
  ·exact c
  ·subst c;rw[hox]at ho;injection ho with ho;rw[←ho]at hd;simp only[Option.bind_some,hdsx,Option.some.injEq]at hd;exact absurd hd.symm hne
  ·subst c;rw[hos]at ho;injection ho with ho;rw[←ho]at hd;simp[hdss]at hd
  ·exact absurd hd (g8 c).2
 have htx:∀j,j<l.length→nth (dsts l) j=some tx→j=x:=λj hj hd=>by
  have ho:l[j]? = some l[j]:=by simp[hj]
  rw[zA,ho]at hd;rcases(hcl j _ ho).2 with c|c|c|⟨-,-,c⟩
  ·subst c;rw[hoe]at ho;injection ho with ho;rw[←ho]at hd;simp only[Option.bind_some,hdse,Option.some.injEq]at hd;exact absurd hd hne
  ·exact c
  ·subst c;rw[hos]at ho;injection ho with ho;rw[←ho]at hd;simp[hdss]at hd
  ·exact absurd hd (g8 c).2
 have hrs:∀σ S n u,n≤l.length→u≠te→u≠tx→FS (nth (dsts l)) (rs σ) S (look st.fr) n u=FS (nth (dsts l)) res S (look st.fr) n u:=λσ S n u hn h1 h2=>qcc λj hj _ hd=>by
  have c1:j≠e:=λc=>by subst c;rw[hde]at hd;injection hd with hd;exact h1 hd.symm
  have c2:j≠x:=λc=>by subst c;rw[hdx]at hd;injection hd with hd;exact h2 hd.symm
  simp only[rs,if_neg c1,if_neg c2]
 refine qfV hm (λm st2=>∃σ clk,((∀u,(u≠te∧u≠tx)∨m.testBit s=false→look st2.fr u=FS (nth (dsts l)) (rs σ) m.testBit (look st.fr) l.length u)∧(m.testBit s=true→look st2.fr te=.top∧look st2.fr tx=.top))∧(∀j,blk st2.hp j=if j=mid then some (M m.testBit σ clk)else blk (UH (but up s) m.testBit st.hp l.length) j)∧st2.nid+cnt m.testBit l.length=st.nid+l.length) rfl hedge (Weak.refl O st) ?_ ?_ ?_
 ·refine⟨λ_=>0,0,⟨λu _=>?_,λh=>by rw[xb3]at h;cases h⟩,λj=>?_,?_⟩
  ·exact(Gn (i:=0) (xb6 _) λj hj _=>by simp).symm
  ·split
   ·rename_i c
    subst c;simp only[M,xb3,xe7,if_false];exact hmap
   ·rw[KG (i:=0) (xb6 _) λj _ _ _=>xb3 j]
    rfl
  ·rw[qae λj _=>xb3 j]
 ·refine j9 λj o ho=>?_
  rw[xb0];rintro m st2 ⟨σ,clk,⟨hfr,htop⟩,hhp,hnid⟩ hclm hbit hpre;have hjl:j<l.length:=(List.getElem?_eq_some_iff.1 ho).1;have hS:∀i,(m ||| 2^j).testBit i=(m.testBit i || decide (i=j)):=λi=>by rw[tb];simp[eq_comm]
  have hgd:o.guard=none:=(hcl j o ho).1;have hdsj:nth (dsts l) j=o.dst:=by rw[zA,ho];rfl
  have hlook:∀r u,u∈seen (dsts l) o→FS (nth (dsts l)) r m.testBit (look st.fr) l.length u=FS (nth (dsts l)) r (λ_=>true) (look st.fr) j u:=λr u hu=>by
   refine Gn Ω λi hi hdi=>?_;obtain⟨oi,hoi⟩:∃oi,l[i]? = some oi:=⟨l[i],by simp[hi]⟩;constructor
   ·intro hs
    refine xf9 λhge=>?_;by_cases c:i=j
    ·subst c;rw[hbit]at hs;cases hs
    ·rcases kM hapart ho hoi Ω with hb|⟨_,hb⟩
     ·have:=hclm _ _ hb hs
      rw[hbit]at this;cases this
     ·exact hb u hdi hu
   ·intro hlt
    rcases kM hapart hoi ho hlt with hb|⟨hb,_⟩
    ·exact hpre i hb Ω
    ·exact(hb u hdi hu).elim
  have hlater:∀u,nth (dsts l) j=some u→∀i,i<l.length→j<i→nth (dsts l) i=some u→m.testBit i=false:=by
   intro u hdu i hi hij hdi;obtain⟨oi,hoi⟩:∃oi,l[i]? = some oi:=⟨l[i],by simp[hi]⟩;cases hv:m.testBit i with
   |false=>rfl
   |true=>
    rcases kM hapart ho hoi hij with hb|⟨_,hb⟩
    ·have:=hclm _ _ hb hv
     rw[hbit]at this;cases this
    ·refine(hb u hdi ?_).elim
     simp only[seen,xd4];rw[hdsj]at hdu;simp[hdu]
  have next:j≠s→∀σ' clk' (st3:St),(∀i,m.testBit i=true→rs σ i=rs σ' i)→(∀u,look st3.fr u=if o.dst=some u then rs σ' j else look st2.fr u)→(∀i,blk st3.hp i=if i=mid then some (M (m ||| 2^j).testBit σ' clk')else blk (UH (but up s) (m ||| 2^j).testBit st.hp l.length) i)→st3.nid=st2.nid+1→
    ∃σ clk,((∀u,(u≠te∧u≠tx)∨(m ||| 2^j).testBit s=false→look st3.fr u=FS (nth (dsts l)) (rs σ) (m ||| 2^j).testBit (look st.fr) l.length u)∧((m ||| 2^j).testBit s=true→look st3.fr te=.top∧look st3.fr tx=.top))∧(∀i,blk st3.hp i=if i=mid then some (M (m ||| 2^j).testBit σ clk)else blk (UH (but up s) (m ||| 2^j).testBit st.hp l.length) i)∧st3.nid+cnt (m ||| 2^j).testBit l.length=st.nid+l.length:=by
   intro hjs σ' clk' st3 h1 h2 h3 h4;have hSs:(m ||| 2^j).testBit s=m.testBit s:=by rw[hS];simp[Ne.symm hjs]
   rw[hSs];refine⟨σ',clk',⟨λu hu=>?_,λhs=>?_⟩,h3,?_⟩
   ·rw[VY hS hjl (hlater u),h2 u,hdsj,hfr u hu]
    split
    ·rfl
    ·exact qcc λi _ hi _=>h1 i hi
   ·have n1:o.dst≠some te:=λc=>by
     have:=hte j hjl (hdsj.trans c);subst this;have:=hclm _ _ hse hs;rw[hbit]at this;cases this
    have n2:o.dst≠some tx:=λc=>by
     have:=htx j hjl (hdsj.trans c);subst this;have:=hclm _ _ hsx hs;rw[hbit]at this;cases this
    rw[h2,if_neg n1,h2,if_neg n2];exact htop hs
   ·have:=(wi (S:=m.testBit) (S':=(m ||| 2^j).testBit) hS hbit (n:=l.length)).2 hjl
    omega
  have hmem:∀X,X≠mid→(∀i,i<l.length→∀b,up i=some (X,b)→(m.testBit i=true↔i<j))→blk st2.hp X=blk (TH st.nid nb up st.hp j) X:=λX hX h=>by
   rw[hhp,if_neg hX,←qcd (up:=up) (s:=s) (λt' b hu=>by rw[hups]at hu;injection hu with hu;injection hu with hu;rw[←hu];exact λe=>hX e.symm),V2 (i:=j) Ω h,hTH _ Ω]
  have hmte:mm≠te:=λc=>qS hmm (k:=e) Ω (xa5 _) (c▸hde);have hmtx:mm≠tx:=λc=>qS hmm (k:=x) Ω Ω (c▸hdx);have hmp2:e≤j→mm∈seen (dsts l) o→look st2.fr mm=.mp mid:=λhej hu=>by
   rw[hfr _ (.inl ⟨hmte,hmtx⟩),hrs _ _ _ _ (xa5 _) hmte hmtx,hlook _ _ hu,hmmx j hej Ω,hmp]
  by_cases cj:j=e∨j=x∨j=s
  ·rcases cj with cj|cj|cj
   ·subst cj
    have hoo:o=oe:=by rw[hoe]at ho;exact(Option.some.inj ho).symm
    subst hoo;have hseen:∀u,.tmp u∈o.op.operands.toList→u∈seen (dsts l) o:=λu hu=>by
     simp only[seen,xd4];exact .inl (List.mem_filterMap.2 ⟨.tmp u,hu,rfl⟩)
    have hsf:m.testBit s=false:=by
     cases hv:m.testBit s with
     |false=>rfl
     |true=>have:=hclm _ _ hse hv;rw[hbit]at this;cases this
    have hxf:m.testBit x=false:=by
     cases hv:m.testBit x with
     |false=>rfl
     |true=>have:=hclm _ _ hxe hv;rw[hbit]at this;cases this
    have hb:=hhp mid;rw[if_pos rfl]at hb;simp only[M,hsf,hbit,xe7,if_false,hfit]at hb;have hkk:keyV (env (look st2.fr) k)=some v:=by
     rw[←hkey]
     congr 1
     cases k with
     |tmp kk=>
      have hkn:zi (dsts l) j kk=true:=hkf;have n1:kk≠te:=λc=>qS hkn (k:=j) Ω (xa5 _) (c▸hde);have n2:kk≠tx:=λc=>qS hkn (k:=x) Ω Ω (c▸hdx);show look st2.fr kk=FS (nth (dsts l)) res (λ_=>true) (look st.fr) s kk;rw[hfr _ (.inl ⟨n1,n2⟩),hrs _ _ _ _ (xa5 _) n1 n2,hlook _ _ (hseen kk (by rw[hope];simp[Op.operands])),←jI (i:=j) (n:=l.length) Ω (λk hk hik=>qS hkn Ω hik),←jI (i:=s) (n:=l.length) Ω (λk hk hik=>qS hkn Ω Ω)]
     |const c=>rfl
     |global c=>rfl
     |func c=>rfl
    have hx2:env (look st2.fr) (.tmp mm)=.mp mid:=hmp2 (xa5 _) (hseen mm (by rw[hope];simp[Op.operands]));have fin:∀(D:Value→Bool)(G:Value→SV)(w:SV),D=Wt dom v→G=qad dom get v z→w=(if dom v=true then get v else z)→∀(stamp:Value→Nat)(c:Nat),∃st4,Weak O ((⟨st2.fr,setBlk st2.hp mid (.mapS (qh ag ls) D G stamp c),st2.nid⟩:St).putI o.dst (.tup [w,Ψ (Φ Γ (stamp v))])) st4∧∃σ clk,((∀u,(u≠te∧u≠tx)∨(m ||| 2^j).testBit s=false→look st4.fr u=FS (nth (dsts l)) (rs σ) (m ||| 2^j).testBit (look st.fr) l.length u)∧((m ||| 2^j).testBit s=true→look st4.fr te=.top∧look st4.fr tx=.top))∧(∀i,blk st4.hp i=if i=mid then some (M (m ||| 2^j).testBit σ clk)else blk (UH (but up s) (m ||| 2^j).testBit st.hp l.length) i)∧st4.nid+cnt (m ||| 2^j).testBit l.length=st.nid+l.length:=by
     intro D G w hD hG hw stamp c;subst hD;subst hG;subst hw;refine⟨_,qdN O _,next Ω stamp c _ (λi hi=>?_) (λu=>?_) (λi=>?_) (by rw[kF])⟩
     ·have n1:i≠j:=λe=>by subst e;rw[hbit]at hi;cases hi
      have n2:i≠x:=λe=>by subst e;rw[hxf]at hi;cases hi
      simp only[rs,if_neg n1,if_neg n2]
     ·rw[hdse]
      show look (putIn st2.fr te _) u=_;rw[we];by_cases cu:u=te
      ·subst cu;simp[rs]
      ·rw[if_neg cu,if_neg (λe=>cu (Option.some.inj e).symm)]
     ·have e1:(m ||| 2^j).testBit s=false:=by rw[hS,hsf];simp;omega
      have e2:(m ||| 2^j).testBit j=true:=by rw[hS];simp
      have hub:but up s j=none:=by
       have:up j=none:=(hquiet j o ho (.inl rfl)).2.2;simp only[but,this,ite_self]
      rw[yF hS hub];have e3:∀(st5:St) d w,(st5.putI d w).hp=st5.hp:=λst5 d w=>by cases d<;>rfl
      simp only[e3];rw[qq];by_cases ci:i=mid
      ·subst ci
       rw[if_pos rfl,if_pos rfl,hb];simp only[M,e1,e2,xe7,if_false,if_true,hfit];rfl
      ·rw[if_neg ci,if_neg ci,hhp,if_neg ci]
    unfold opH zp;rw[hgd];refine .inr ⟨by rw[hope];rfl,.inl ?_⟩;rw[hope];cases hd:dom v with
    |true=>exact Wf hx2 hkk hmi hb hkv hd λstamp c=>fin _ _ _ (by simp[Wt,hd]) (by simp[qad,hd]) (by simp[hd]) stamp c
    |false=>exact qfW hx2 hkk hmi hb hkv hd λstamp c=>fin _ _ _ (by simp[Wt,hd]) (by simp[qad,hd]) (by simp[hd]) stamp c
   ·subst cj
    have hoo:o=ox:=by rw[hox]at ho;exact(Option.some.inj ho).symm
    subst hoo;have hsf:m.testBit s=false:=by
     cases hv:m.testBit s with
     |false=>rfl
     |true=>have:=hclm _ _ hsx hv;rw[hbit]at this;cases this
    have hte2:look st2.fr te=rs σ e:=by
     rw[hfr _ (.inr hsf)];exact Ws hde (hpre e hxe Ω) Ω hte
    have hre:rs σ e=.tup [if dom v=true then get v else z,Ψ (Φ Γ (σ v))]:=by simp[rs]
    have hrx:rs σ j=Ψ (Φ Γ (σ v)):=by simp only[rs,if_neg (Ω:j≠e),if_true]
    unfold opH zp;rw[hgd];refine .inl ?_;rw[hopx];simp only[stepR,env,hte2,hre,rExtract];refine⟨Ψ (Φ Γ (σ v)),rfl,_,Weak.refl _ _,next Ω σ clk _ (λ_ _=>rfl) (λu=>?_) (λi=>?_) (by rw[qz])⟩
    ·rw[gC,hrx]
     have:=congrFun (zU st2.fr st2.hp st2.nid o.dst (Ψ (Φ Γ (σ v)))) u;exact this
    ·have e1:(m ||| 2^j).testBit s=m.testBit s:=by rw[hS];simp;omega
     have e2:(m ||| 2^j).testBit e=m.testBit e:=by rw[hS];simp;omega
     have hub:but up s j=none:=by
      have:up j=none:=(hquiet j o ho (.inr rfl)).2.2;simp only[but,this,ite_self]
     have hMS:M (m ||| 2^j).testBit σ clk=M m.testBit σ clk:=by simp only[M,e1,e2]
     show blk (st2.put o.dst _).hp i=_;rw[zo,hhp,hMS,yF hS hub]
   ·subst cj
    have hoo:o=os:=by rw[hos]at ho;exact(Option.some.inj ho).symm
    subst hoo;have hseen:∀u,.tmp u∈o.op.operands.toList→u∈seen (dsts l) o:=λu hu=>by
     simp only[seen,xd4];exact .inl (List.mem_filterMap.2 ⟨.tmp u,hu,rfl⟩)
    have hx2:env (look st2.fr) (.tmp mm)=.mp mid:=hmp2 Ω (hseen mm (by rw[hops_];simp[Op.operands]));have htx2:env (look st2.fr) (.tmp tx)=Ψ (Φ Γ (σ v)):=by
     show look st2.fr tx=_;rw[hfr _ (.inr hbit),Ws hdx (hpre x hsx Ω) Ω htx];simp only[rs,if_neg (Ω:x≠e),if_true]
    have hb:=hhp mid;rw[if_pos rfl]at hb;simp only[M,hbit,hpre e hse Ω,xe7,if_false,if_true]at hb;have hyv:env (look st2.fr) y=xv:=by
     rw[←hxv];cases y with
     |tmp yy=>
      simp only[qiN,xe6,Bool.not_eq_true']at hyn;show look st2.fr yy=FS (nth (dsts l)) res (λ_=>true) (look st.fr) j yy;have n1:yy≠te:=λc=>by rw[c]at hyn;simp at hyn
      have n2:yy≠tx:=λc=>by rw[c]at hyn;simp at hyn
      rw[hfr _ (.inl ⟨n1,n2⟩),hrs _ _ _ _ (xa5 _) n1 n2];exact hlook _ _ (hseen yy (by rw[hops_];simp[Op.operands]))
     |const c=>rfl
     |global c=>rfl
     |func c=>rfl
    obtain⟨kt,et,ii,hu,hki,hinf,-⟩:=zJ hmi;have hself:eqK v v=true:=(ja hki hkv hkv).2 rfl;have hdv:Wt dom v v=true:=by
     rw[Wu (get:=get) (z:=z) (xv:=xv) |>.1];simp[qA,hself]
    unfold opH zp;rw[hgd];refine .inr ⟨by rw[hops_];rfl,.inr ?_⟩;rw[hops_];refine qfX hki hfit hx2 htx2 hb hdv ?_;rw[hyv,hdss];have e1:(m ||| 2^j).testBit j=true:=by rw[hS];simp
    refine⟨_,(qdN O _).trans (qlS O _ te tx),σ,clk,⟨λu hu=>?_,λ_=>⟨?_,?_⟩⟩,λi=>?_,?_⟩
    ·rw[e1]at hu
     obtain⟨n1,n2⟩:=hu.resolve_right Ωg;show look (putFr (putFr st2.fr te .top) tx .top) u=_;rw[zn,if_neg n2,zn,if_neg n1,hfr u (.inl ⟨n1,n2⟩),VY hS hjl (hlater u),hdS,if_neg Ωg]
    ·show look (putFr (putFr st2.fr te .top) tx .top) te=_
     rw[zn,if_neg hne,zn,if_pos rfl]
    ·show look (putFr (putFr st2.fr te .top) tx .top) tx=_
     rw[zn,if_pos rfl]
    rotate_left
    ·have:=(wi (S:=m.testBit) (S':=(m ||| 2^j).testBit) hS hbit (n:=l.length)).2 hjl
     show st2.nid+1+_=_;omega
    show blk (setBlk st2.hp mid _) i=_;have hub:but up j j=none:=by simp[but]
    rw[qq,yF hS hub];by_cases ci:i=mid
    ·subst ci
     rw[if_pos rfl,if_pos rfl,hb];simp only[M,e1,if_true];rw[(Wu (get:=get) (z:=z) (xv:=xv)).1,(Wu (dom:=dom) (z:=z)).2];rfl
    ·rw[if_neg ci,if_neg ci,hhp,if_neg ci]
  ·have c1:j≠e:=λc=>cj (.inl c)
   have c2:j≠x:=λc=>cj (.inr (.inl c));have c3:j≠s:=λc=>cj (.inr (.inr c));have hat1:=hat j o ho c1 c2 c3;obtain⟨hcls1,hnte,hntx⟩:yM (dsts l) (zh [] l) t e s j o=true∧Qi te o=true∧Qi tx o=true:=by
    rcases(hcl j o ho).2 with c|c|c|c
    ·exact absurd c c1
    ·exact absurd c c2
    ·exact absurd c c3
    ·exact c
   have hslot:∀u,.tmp u∈o.op.operands.toList→look st2.fr u=FS (nth (dsts l)) res (λ_=>true) (look st.fr) j u:=λu hu=>by
    have hm1:u∈zP o:=List.mem_filterMap.2 ⟨.tmp u,hu,rfl⟩;rw[hfr _ (.inl ⟨λc=>(g8 hnte).1 (c▸hm1),λc=>(g8 hntx).1 (c▸hm1)⟩),hrs _ _ _ _ (xa5 _) (λc=>(g8 hnte).1 (c▸hm1)) (λc=>(g8 hntx).1 (c▸hm1))];exact hlook _ _ (by simp only[seen,xd4];exact .inl hm1)
   have hfx0:∀i oi,l[i]? = some oi→i≠e→i≠x→i≠s→(qgk e x s 0 l)[i]? = some oi:=λi oi hoi h1 h2 h3=>by
    have:=qaa (e:=e) (x:=x) (s:=s) (i:=0) hoi;rw[xb0,if_neg (by rintro(h|h|h)<;>contradiction)]at this;exact this
   have hchg:∀i X b,i<l.length→X≠mid→up i=some (X,b)→i≠e∧i≠x∧i≠s∧∃oi ty b' v',l[i]? = some oi∧oi.op=.store ty (.tmp b') v'∧zi (dsts l) i b'=true∧qT (look st1.fr b')=some X:=λi X b hi hX hu=>by
    have hoi:l[i]? = some l[i]:=by simp[hi]
    have hne:¬(i=e∨i=x):=λc=>by
     have:=(hquiet i _ hoi c).2.2;rw[hu]at this;cases this
    have hns:i≠s:=λc=>by
     subst c;rw[hups]at hu;injection hu with hu;injection hu with hu;exact hX hu.symm
    obtain⟨ty,b',v',a1,a2,a3,a4⟩:=(hord i _ hoi (λc=>hne (.inl c)) (λc=>hne (.inr c)) hns).2 _ _ hu;exact⟨λc=>hne (.inl c),λc=>hne (.inr c),hns,_,ty,b',v',hoi,a1,a2,a4⟩
   have hrd:jl o.op=true→∀X,X≠mid→(∀ty a,o.op=.load ty (.tmp a)→qT (FS (nth (dsts l)) res (λ_=>true) (look st.fr) j a)=some X)→∀i,i<l.length→∀b,up i=some (X,b)→(m.testBit i=true↔i<j):=by
    intro hro X hX hld i hi b hu;obtain⟨n1,n2,n3,oi,ty,b',v',hoi,a1,a2,a3⟩:=hchg i X b hi hX hu;have f1:=hfx0 i oi hoi n1 n2 n3;have f2:=hfx0 j o ho c1 c2 c3;have hui:qL oi.op=true:=by rw[a1];rfl
    constructor
    ·intro hs
     refine xf9 λhge=>?_;by_cases c:i=j
     ·subst c;rw[hbit]at hs;cases hs
     ·rcases jm hpair f2 f1 Ω with hb|⟨_,hb,_⟩|⟨t4,a4,t5,b5,y5,e1,e2,hmem4,hn1,hn2⟩
      ·have:=hclm _ _ hb hs
       rw[hbit]at this;cases this
      ·exact hb ⟨hro,hui⟩
      ·rw[a1]at e2
       injection e2 with _ e2 _;injection e2 with e2;subst e2;have h1:=hld _ _ e1;have h3:=hfar _ _ hmem4;rw[←jI (i:=j) (n:=l.length) Ω (λk hk hik=>qS hn1 Ω hik),←hF1]at h1;unfold vi at h3;rw[h1,a3]at h3;exact h3 rfl
    ·intro hlt
     rcases jm hpair f1 f2 hlt with hb|⟨_,_,hb⟩|⟨t4,a4,t5,b5,y5,e1,e2,hmem4,hn1,hn2⟩
     ·exact hpre i hb Ω
     ·exact(hb ⟨hui,hro⟩).elim
     ·rw[e1]at a1;cases a1
   have hrsj:rs σ j=res j:=by simp only[rs,if_neg c1,if_neg c2]
   have hMS:M (m ||| 2^j).testBit σ clk=M m.testBit σ clk:=by
    have e1:(m ||| 2^j).testBit s=m.testBit s:=by rw[hS];simp[Ne.symm c3]
    have e2:(m ||| 2^j).testBit e=m.testBit e:=by rw[hS];simp[Ne.symm c1]
    simp only[M,e1,e2]
   have hlk:∀sv u,look (inD o.dst (st2.put o.dst sv).fr) u=if o.dst=some u then sv else look st2.fr u:=λsv u=>by
    rw[gC];have:=congrFun (zU st2.fr st2.hp st2.nid o.dst sv) u;exact this
   have kfin:up j=none→∀sv,sv=res j→∃st4,Weak O ⟨inD o.dst (st2.put o.dst sv).fr,(st2.put o.dst sv).hp,(st2.put o.dst sv).nid+1⟩ st4∧∃σ clk,((∀u,(u≠te∧u≠tx)∨(m ||| 2^j).testBit s=false→look st4.fr u=FS (nth (dsts l)) (rs σ) (m ||| 2^j).testBit (look st.fr) l.length u)∧((m ||| 2^j).testBit s=true→look st4.fr te=.top∧look st4.fr tx=.top))∧(∀i,blk st4.hp i=if i=mid then some (M (m ||| 2^j).testBit σ clk)else blk (UH (but up s) (m ||| 2^j).testBit st.hp l.length) i)∧st4.nid+cnt (m ||| 2^j).testBit l.length=st.nid+l.length:=λhu sv hsv=>by
    subst hsv;refine⟨_,Weak.refl _ _,next c3 σ clk _ (λ_ _=>rfl) (λu=>by rw[hrsj];exact hlk _ u) (λi=>?_) (by rw[qz])⟩;have hub:but up s j=none:=by simp only[but,hu,ite_self]
    show blk (st2.put o.dst (res j)).hp i=_;rw[zo,hhp,hMS,yF hS hub]
   unfold opH zp;rw[hgd];refine .inl ?_;have run:(kz o.op=true)→stepR P (look st2.fr) st2.hp o.op=stepR P (FS (nth (dsts l)) res (λ_=>true) (look st.fr) j) (TH st.nid nb up st.hp j) o.op→qL o.op=false→(jA o.op=true∨∃t x k ok,o.op=.lookup t x k ok)→Q2 P O (Tag.mk:Tag True) (Tag.mk:Tag o.op) o.dst st2.nid st2 (λst'=>∃st4,Weak O ⟨inD o.dst st'.fr,st'.hp,st'.nid+1⟩ st4∧∃σ clk,((∀u,(u≠te∧u≠tx)∨(m ||| 2^j).testBit s=false→look st4.fr u=FS (nth (dsts l)) (rs σ) (m ||| 2^j).testBit (look st.fr) l.length u)∧((m ||| 2^j).testBit s=true→look st4.fr te=.top∧look st4.fr tx=.top))∧(∀i,blk st4.hp i=if i=mid then some (M (m ||| 2^j).testBit σ clk)else blk (UH (but up s) (m ||| 2^j).testBit st.hp l.length) i)∧st4.nid+cnt (m ||| 2^j).testBit l.length=st.nid+l.length) .mk (stepR P (look st2.fr) st2.hp o.op):=λhca hst hnu hpl=>by
    rw[hst];generalize hr1:res j=a1 at hat1 kfin;generalize hr2:nb j=a2 at hat1;generalize hr3:up j=a3 at hat1 kfin;cases hat1 with
    |skip hg=>simp[j6,hgd]at hg
    |upd obl t b hg h ho=>rcases ki (P:=P) hpl with⟨_,_,e1⟩|⟨_,e1⟩|e1<;>rw[e1]at h<;>cases h
    |run sv nb hg hca hr=>
     cases hr with
     |pure obl sv h ho=>rw[h];exact⟨ho,kfin rfl _ rfl⟩
     |ex obl sv h ho=>rw[h];exact⟨_,ho,kfin rfl _ rfl⟩
     |new obl b mk h ho=>rcases ki (P:=P) hpl with⟨_,_,e1⟩|⟨_,e1⟩|e1<;>rw[e1]at h<;>cases h
     |call f args res h hc=>rcases ki (P:=P) hpl with⟨_,_,e1⟩|⟨_,e1⟩|e1<;>rw[e1]at h<;>cases h
     |callN f args pats b res h hc hs=>rcases ki (P:=P) hpl with⟨_,_,e1⟩|⟨_,e1⟩|e1<;>rw[e1]at h<;>cases h
   have hne:stepR P (FS (nth (dsts l)) res (λ_=>true) (look st.fr) j) (TH st.nid nb up st.hp j) o.op≠.bad:=λhb=>by
    generalize res j=a1 at hat1;generalize nb j=a2 at hat1;generalize up j=a3 at hat1;cases hat1 with
    |skip hg=>simp[j6,hgd]at hg
    |upd obl t b hg h ho=>rw[hb]at h;cases h
    |run sv nb hg hca hr=>
     cases hr with
     |pure obl sv h ho=>rw[hb]at h;cases h
     |ex obl sv h ho=>rw[hb]at h;cases h
     |new obl b mk h ho=>rw[hb]at h;cases h
     |call f args res h hc=>rw[hb]at h;cases h
     |callN f args pats b res h hc hs=>rw[hb]at h;cases h
   rcases jO hcls1 with⟨hpl,hldn⟩|⟨xm,kk,hop,hlt,hbs⟩|⟨ty,b,v',hop,hnf,hdn⟩
   ·have hca:kz o.op=true:=by generalize o.op=op at hpl;cases op<;>first|(simp[jA]at hpl;done)|rfl
    refine run hca ?_ (Gr hca) (.inl hpl);rw[yi (.inl hpl) hslot];cases hro:jl o.op with
    |false=>exact Kj _ hca hro
    |true=>
     obtain⟨ty,a,hop⟩:∃ty a,o.op=.load ty (.tmp a):=by
      generalize o.op=op at hpl hro ⊢;unfold jA at hpl;split at hpl<;>first|(cases hro;done)|exact⟨_,_,rfl⟩|(cases hpl;done)
     have hnf:=hldn _ _ hop;rw[hop]at hne ⊢;refine wZ (λX y hX hy=>?_) hne;have hX':qT (look st1.fr a)=some X:=by
      rw[hF1,jI (i:=j) Ω (λk hk hik=>qS hnf Ω hik)];exact hX
     have hXm:X≠mid:=λc=>by
      subst c;exact hadr a ((yN ho).1 _ _ hop) hX'
     rw[hmem X hXm (hrd hro X hXm λty' a' e=>by rw[hop]at e;cases e;exact hX)];exact hy
   ·have hsf:m.testBit s=false:=by
     cases hv:m.testBit s with
     |false=>rfl
     |true=>have:=hclm _ _ hbs hv;rw[hbit]at this;cases this
    refine run (by rw[hop];rfl) ?_ (by rw[hop];rfl) (.inr ⟨_,_,_,_,hop⟩);rw[yi (.inr (.inl ⟨_,_,_,_,hop⟩)) hslot,hop];simp only[stepR,hmi];generalize hA:env (FS (nth (dsts l)) res (λ_=>true) (look st.fr) j) xm=A;generalize env (FS (nth (dsts l)) res (λ_=>true) (look st.fr) j) kk=B;by_cases cA:A=.mp mid
    ·subst cA
     have h1:blk (TH st.nid nb up st.hp j) mid=some (.map fit dom get):=by
      rw[hTH j Ω,←hmap];exact j7 λi hi _ t' b hu e=>by
       subst e;have:=hup i b Ω hu;omega
     have h2:=hhp mid;rw[if_pos rfl]at h2;simp only[M,hsf,xe7,if_false]at h2;simp only[rLookup,mapOf,h1,h2];by_cases ce:m.testBit e=true
     ·simp only[ce,if_true]
      cases keyV B with
      |none=>rfl
      |some u=>
       simp only[xe7,if_false];rw[qiP]
     ·simp only[ce,xe7,if_false]
    ·have:mapOf st2.hp A=mapOf (TH st.nid nb up st.hp j) A:=by
      cases A<;>first|rfl|skip
      case mp id'=>
       have hXm:id'≠mid:=λc=>cA (by rw[c]);simp only[mapOf];rw[hmem id' hXm (hrd (by rw[hop];rfl) id' hXm λty a e=>by rw[hop]at e;cases e)]
     simp only[rLookup,this]
   ·have hwr:∀i,i<l.length→but up s i≠none→(m.testBit i=true↔i<j):=λi hi hu=>by
     have hns:i≠s:=λc=>hu (by simp[but,c]);have hu':up i≠none:=λc=>hu (by simp[but,c]);have hoi:l[i]? = some l[i]:=by simp[hi]
     have hne:¬(i=e∨i=x):=λc=>hu' (hquiet i _ hoi c).2.2;obtain⟨p,hp⟩:=Option.ne_none_iff_exists'.1 hu';obtain⟨X,b2⟩:=p;obtain⟨ty2,b3,v3,a1,-,-,-⟩:=(hord i _ hoi (λc=>hne (.inl c)) (λc=>hne (.inr c)) hns).2 _ _ hp;have f1:=hfx0 i _ hoi (λc=>hne (.inl c)) (λc=>hne (.inr c)) hns;have f2:=hfx0 j o ho c1 c2 c3;have hui:qL (l[i]).op=true:=by rw[a1];rfl
     have huj:qL o.op=true:=by rw[hop];rfl
     constructor
     ·intro hs
      refine xf9 λhge=>?_;by_cases c:i=j
      ·subst c;rw[hbit]at hs;cases hs
      ·rcases jm hpair f2 f1 Ω with hb|⟨hb,_,_⟩|⟨t4,a4,t5,b5,y5,e1,e2,hmem4,hn1,hn2⟩
       ·have:=hclm _ _ hb hs
        rw[hbit]at this;cases this
       ·exact hb ⟨huj,hui⟩
       ·rw[hop]at e1;cases e1
     ·intro hlt
      rcases jm hpair f1 f2 hlt with hb|⟨hb,_,_⟩|⟨t4,a4,t5,b5,y5,e1,e2,hmem4,hn1,hn2⟩
      ·exact hpre i hb Ω
      ·exact(hb ⟨hui,huj⟩).elim
      ·rw[a1]at e1;cases e1
    generalize hr1:res j=a1 at hat1 kfin;generalize hr2:nb j=a2 at hat1;generalize hr3:up j=a3 at hat1 kfin;cases hat1 with
    |skip hg=>simp[j6,hgd]at hg
    |run sv nb hg hca hr=>rw[hop]at hca;cases hca
    |upd obl X bb hg h hobl=>
     rw[hop]at h;have hX:=jy h;have hX':qT (look st1.fr b)=some X:=by
      rw[hF1,jI (i:=j) Ω (λk hk hik=>qS hnf Ω hik)];exact hX
     have hXm:X≠mid:=λc=>by
      subst c;exact hadr b ((yN ho).2 _ _ _ hop) hX'
     have hcond:∀i,i<l.length→∀b2,up i=some (X,b2)→(m.testBit i=true↔i<j):=λi hi b2 hu=>by
      have hns:i≠s:=λc=>by
       subst c;rw[hups]at hu;injection hu with hu;injection hu with hu;exact hXm hu.symm
      exact hwr i hi (by simp[but,hns,hu])
     have hst:stepR P (look st2.fr) st2.hp o.op=.upd obl X bb:=by
      rw[yi (.inr (.inr ⟨_,_,_,hop⟩)) hslot,hop];have h':=h;simp only[stepR]at h ⊢;rw[qcb (hp:=TH st.nid nb up st.hp j) (λid y hid hy=>?_) (by rw[h];simp),h];rw[hX]at hid;injection hid with hid;subst hid;rw[hmem X hXm hcond];exact hy
     rw[hst];refine⟨hobl,_,Weak.refl _ _,?_⟩;have hub:but up s j=some (X,bb):=by simp only[but,if_neg c3,hr3]
     refine next c3 σ clk _ (λ_ _=>rfl) (λu=>?_) (λi=>?_) (by simp[hdn,St.put])
     ·rw[hdn]
      simp only[reduceCtorEq,if_false];rw[gC];rfl
     ·rw[hdn]
      show blk (setBlk st2.hp X bb) i=_;rw[qq,hMS,qhh hS hjl hub hwr,qq];by_cases ci:i=X
      ·subst ci
       rw[if_pos rfl,if_neg hXm,if_pos rfl,hhp,if_neg hXm]
      ·rw[if_neg ci,if_neg ci,hhp]
 ·rintro m st2 ⟨σ,clk,⟨hfr,htop⟩,hhp,hnid⟩ hall
  refine hk1 st2 (λu=>?_) (λj=>?_) ?_
  ·by_cases h1:u=te
   ·rw[if_pos (.inl h1),h1];exact(htop (hall s hsl)).1
   by_cases h2:u=tx
   ·rw[if_pos (.inr h2),h2];exact(htop (hall s hsl)).2
   rw[if_neg (by rintro(h|h)<;>contradiction),hfr u (.inl ⟨h1,h2⟩),hrs _ _ _ _ (xa5 _) h1 h2,hF1];exact Gn (xa5 _) λj hj _=>by simp[hall j hj,hj]
  ·rw[hhp]
   split
   ·rename_i c
    subst c;simp only[M,hall s hsl,if_true];exact hfin.symm
   ·rename_i c
    rw[hh1,hTH _ (xa5 _),←qcd (up:=up) (s:=s) (λt' b hu=>by rw[hups]at hu;injection hu with hu;injection hu with hu;rw[←hu];exact λe=>c e.symm)];rw[w6 λj hj _=>hall j hj]
  ·rw[qdO hall]at hnid
   omega
end
def qce:Nat→List Oper→Nat
 |i,[]=>i
 |i,o :: r=>match o.op with
  |.mapEntry _ _ _=>i
  |_=>qce (i+1) r
noncomputable def entQ(e:Nat)(oe ox os:Oper):Option EI:=
 match oe.op,oe.dst with
 |.mapEntry t (.tmp mm) k,some te=>match ox.op,ox.dst with
  |.extract (.tmp te') 1,some tx=>match os.op,os.dst with
   |.entryStore t' (.tmp mm') (.tmp tx') y,none=>Bool.rec none (some ⟨e,e+1,e+2,te,tx,t,mm,k,y⟩) (Nat.beq te te'&&(Nat.beq t t'&&(Nat.beq mm mm'&&(Nat.beq tx tx'&&!(Nat.beq te tx)))))
   |_,_=>none
  |_,_=>none
 |_,_=>none
noncomputable def entI(l:List Oper):Option EI:=
 let e:=qce 0 l
 match l[e]?,l[e+1]?,l[e+2]? with
 |some oe,some ox,some os=>entQ e oe ox os
 |_,_,_=>none
theorem qlT{l:List Oper}{q:EI}(h:entI l=some q):Ent q l:=by
 unfold entI at h;dsimp only at h;generalize qce 0 l=e at h;split at h
 ·rename_i oe ox os h1 h2 h3
  unfold entQ at h;split at h
  ·rename_i t mm k te e1 e2
   split at h
   ·rename_i te' tx e3 e4
    split at h
    ·rename_i t' mm' tx' y e5 e6
     cases hb:(Nat.beq te te'&&(Nat.beq t t'&&(Nat.beq mm mm'&&(Nat.beq tx tx'&&!(Nat.beq te tx)))))with
     |false=>rw[hb]at h;cases h
     |true=>
      rw[hb]at h;injection h with h;subst h;simp only[xe6,Bool.not_eq_true']at hb;obtain⟨b1,b2,b3,b4,b5⟩:=hb;have b1:=xa6 b1;have b2:=xa6 b2;have b3:=xa6 b3;have b4:=xa6 b4;subst b1;subst b2;subst b3;subst b4;exact⟨xb5 e,xb5 (e+1),λc=>(by rw[show te=tx from c,Nat.beq_refl]at b5;cases b5),⟨oe,h1,e1,e2⟩,⟨ox,h2,e3,e4⟩,⟨os,h3,e5,e6⟩⟩
    ·cases h
   ·cases h
  ·cases h
 ·cases h
end Go.Sx
end
section
namespace Go.Sx
open Go.RowKit
variable{O:Ctx}{st:St}
section
variable{P:Program}
theorem QA(O:Ctx)(st:St):∀n,st.nid≤n→Weak O st { st with nid:=n }:=by
 intro n h;obtain⟨d,rfl⟩:∃d,n=st.nid+d:=⟨n - st.nid,Ω⟩;clear h
 induction d with
 |zero=>exact Weak.refl _ _
 |succ d ih=>exact ih.trans (λbase okc ns outs a w h=>by
   obtain⟨r,h⟩:=h;have s:=h.sat.more (N':=(· < st.nid+d+1)) (λx hx=>Nat.lt_succ_of_lt hx) (λx y hy _=>h.keys x y hy);exact⟨r,(h.step s (λid x hx=>Nat.lt_succ_of_lt (h.keys id x hx)) (xc4 _) (d:=none) (λt ht=>by cases ht) (.top undef)).nid (st.nid+d+1)⟩)
theorem vb{F F':Nat→SV}:∀{l:List Operand},(∀x∈l,env F x=env F' x)→envs F l=envs F' l
 |[],_=>rfl
 |a :: l,h=>by rw[envs,envs,h a xd5,vb λx hx=>h x (List.mem_cons_of_mem _ hx)]
theorem QB{F F':Nat→SV}:∀{l:List (Nat×Operand)},(∀x∈l,env F x.2=env F' x.2)→envp F l=envp F' l
 |[],_=>rfl
 |a :: l,h=>by rw[envp,envp,h a xd5,QB λx hx=>h x (List.mem_cons_of_mem _ hx)]
theorem ZY{F F':Nat→SV}{o:Option Operand}(h:∀x∈o.toList,env F x=env F' x):o.map (env F)=o.map (env F'):=by
 cases o with
 |none=>rfl
 |some x=>show some _=some _;rw[h x Ωg]
theorem Vl{F F':Nat→SV}{hp:List (Nat×Blk)}{op:Op}(h:∀t,.tmp t∈op.operands.toList→F t=F' t):stepR P F hp op=stepR P F' hp op:=by
 have he:∀x,x∈op.operands.toList→env F x=env F' x:=λx hx=>by
  cases x<;>first|exact h _ hx|rfl
 clear h;cases op
 case makeFunc g fs cs=>
  simp only[stepR];rw[vb λx hx=>he x (by simp[Op.operands];exact .inl Ω0),vb λx hx=>he x (by simp[Op.operands];exact .inr Ω0)]
 case build t ps=>
  simp only[stepR];rw[QB λp hp=>he p.2 (by simp only[Op.operands];exact List.mem_map_of_mem hp)]
 case buildSlice t n ps=>
  simp only[stepR];rw[QB λp hp=>he p.2 (by simp only[Op.operands];exact List.mem_map_of_mem hp)]
 case slice t x lo hi mx=>
  simp only[stepR];rw[he x Ωm,ZY λy hy=>he y Ωaf,ZY (o:=hi) λy hy=>he y Ωaf,ZY (o:=mx) λy hy=>he y Ωaf]
 case call c=>
  obtain⟨callee,args,ts⟩:=c;have hargs:∀x∈args.toList,env F x=env F' x:=λx hx=>he x (by cases callee<;>simp[Op.operands,Call.operands]<;>first|exact .inr Ω0|simpa using hx);simp only[stepR];cases callee
  case value x=>
   simp only[rCall];rw[he x Ωh,vb hargs]
  case builtin b=>
   have e:=vb hargs;cases b<;>simp only[rCall]<;>first|rfl|rw[e]|skip
   all_goals
    (split<;>first|rfl|skip)
    simp_all
  all_goals (simp only[rCall])
 all_goals first
  |(simp only[stepR];done)
  |(simp only[stepR];rw[he _ Ωm];done)
  |(simp only[stepR];rw[he _ Ωm,he _ Ωm];done)
  |(simp only[stepR];rw[he _ Ωm,he _ Ωm,he _ Ωm];done)
  |skip
def gK:Op→Bool
 |.move _|.assign _|.pick _ _ _|.load _ _|.nilCheck _|.binOp _ _ _ _ _|.unOp _ _ _|.convert _ _ _|.makeFunc _ _ _|.fieldAddr _ _ _|.field _ _ _|.indexAddr _ _ _|.index _ _ _|.extract _ _|.build _ _|.slice _ _ _ _ _|.lookup _ _ _ _=>false
 |.call ⟨.builtin .len,_,_⟩=>false
 |.call ⟨.builtin .min,_,_⟩=>false
 |.call ⟨.builtin .max,_,_⟩=>false
 |_=>true
def GZ:Op→Bool
 |.load _ _|.lookup _ _ _ _=>true
 |.call ⟨.builtin .len,_,_⟩=>true
 |_=>false
def kc(e:Nat→Bool):Nat→Nat
 |0=>0
 |n+1=>kc e n+if e n=true then 1 else 0
theorem Wv{e e':Nat→Bool}:∀{n:Nat},(∀j,j<n→e j=true→e' j=true)→kc e n≤kc e' n
 |0,_=>xa5 _
 |n+1,h=>by
  have ih:=Wv (n:=n) λj hj=>h j Ω;simp only[kc];by_cases c:e n=true
  ·simp_all
  ·grind
theorem G1{e e':Nat→Bool}:∀{n:Nat},(∀j,j<n→e j=e' j)→kc e n=kc e' n
 |0,_=>rfl
 |n+1,h=>by simp only[kc];rw[G1 (n:=n) λj hj=>h j Ω,h n Ω]
theorem qdQ{e:Nat→Bool}:∀{n:Nat},kc e n≤n
 |0=>xa5 _
 |n+1=>by
  have:=qdQ (e:=e) (n:=n);simp only[kc];split<;>omega
theorem qdR{e:Nat→Bool}:∀{j k:Nat},j≤k→kc e j≤kc e k
 |j,0,h=>by rw[Nat.le_zero.1 h];exact xa5 _
 |j,k+1,h=>by
  by_cases c:j=k+1
  ·simp_all
  ·have:=qdR (e:=e) (j:=j) (k:=k) Ω
   simp only[kc];omega
theorem qdS{e:Nat→Bool}:∀{n:Nat},(∀j,j<n→e j=false)→kc e n=0
 |0,_=>rfl
 |n+1,h=>by simp only[kc];rw[qdS (n:=n) λj hj=>h j Ω,h n Ω];rfl
theorem Ww{e e':Nat→Bool}{i:Nat}(he:∀j,j≠i→e' j=e j)(h0:e i=false):∀{n:Nat},kc e' n=kc e n+if i<n∧e' i=true then 1 else 0
 |0=>by simp[kc]
 |n+1=>by
  have ih:=Ww (n:=n) he h0;simp only[kc];rw[ih];by_cases c:n=i
  ·simp_all
  ·grind
theorem Vm{f e:Nat→Bool}{i:Nat}(h1:∀j,j<i→f j=e j):∀{n:Nat},i≤n→(∀j,i≤j→j<n→f j=false)→kc f n=kc e i
 |0,h,_=>by rw[Nat.le_zero.1 h];rfl
 |n+1,h,h2=>by
  by_cases c:i=n+1
  ·subst c;exact G1 h1
  ·simp only[kc]
   rw[Vm h1 (n:=n) Ω λj hj hn=>h2 j hj Ω,h2 n Ω Ω];rfl
theorem wu{D:Nat→Option Tmp}{res:Nat→SV}{S S':Nat→Bool}{F:Nat→SV}{t:Nat}:∀{n:Nat},(∀j,j<n→D j=some t→S j=S' j)→FS D res S F n t=FS D res S' F n t
 |0,_=>rfl
 |n+1,h=>by
  have ih:=wu (F:=F) (res:=res) (n:=n) λj hj=>h j Ω;simp only[FS];by_cases c:D n=some t
  ·simp_all
  ·simp_all
theorem Wx{D:Nat→Option Tmp}{res:Nat→SV}{S:Nat→Bool}{F:Nat→SV}{t i:Nat}:∀{n:Nat},i≤n→(∀x,i≤x→x<n→D x≠some t)→FS D res S F n t=FS D res S F i t
 |0,h,_=>by rw[Nat.le_zero.1 h]
 |n+1,h,hx=>by
  by_cases c:i=n+1
  ·rw[c]
  ·simp only[FS]
   rw[if_neg (λq=>hx n Ω Ω q.2)];exact Wx Ω λx h1 h2=>hx x h1 Ω
theorem Wy{D:Nat→Option Tmp}{res:Nat→SV}{S:Nat→Bool}{F:Nat→SV}{t:Nat}:∀{n:Nat},(∀j,j<n→S j=false)→FS D res S F n t=F t
 |0,_=>rfl
 |n+1,h=>by
  simp only[FS];rw[if_neg (λx=>by rw[h n Ω]at x;cases x.1)];exact Wy λj hj=>h j Ω
theorem qcf{D:Nat→Option Tmp}{res:Nat→SV}{S S':Nat→Bool}{F:Nat→SV}{t i:Nat}(hS:∀x,S' x=(S x || decide (i=x))):∀{n:Nat},i<n→(∀x,x<n→x≠i→D i=some t→D x≠some t)→FS D res S' F n t=if D i=some t then res i else FS D res S F n t
 |n+1,hi,hd=>by
  have hne:∀x,x≠i→S' x=S x:=λx hx=>by rw[hS];simp;intro e;exact absurd e.symm hx
  by_cases c:n=i
  ·subst c
   have e1:S' n=true:=by rw[hS];simp
   have e2:FS D res S' F n t=FS D res S F n t:=wu λj hj _=>hne j Ω;simp only[FS];by_cases d:D n=some t
   ·simp_all
   ·simp_all
  ·have ih:=qcf (F:=F) (res:=res) (t:=t) hS (n:=n) Ω λx hx=>hd x Ω
   simp only[FS];rw[hne n c];by_cases d:S n=true∧D n=some t
   ·grind
   ·grind
def efL(l:List Oper)(i:Nat):Bool:=match l[i]? with|some o=>gK o.op|none=>false
def G3(l:List Oper):Bool:=
 let ms:=zh [] l
 let ds:=dsts l
 k9 0 l&&(List.range l.length).all λi=>(match l[i]? with
  |some o=>(match o.guard with|none=>true|some (g,_)=>(ms.getD i 0).testBit g&&(nth ds g).isSome)&&Nat.blt (ms.getD i 0) (2^i)&&(List.range l.length).all (λj=>(match nth ds j with|some t=>!(zP o).contains t ||(ms.getD i 0).testBit j|none=>true)&&(!(Nat.blt j i) ||((!(efL l i&&efL l j) ||(ms.getD i 0).testBit j)&&(match nth ds j,nth ds i with|some t,some u=>!(Nat.beq t u)|_,_=>true))))
  |none=>true)
structure qcg(l:List Oper):Prop where
 edges:k9 0 l=true
 grd:∀(i:Nat)(o:Oper)(g:Nat)(want:Bool),l[i]? = some o→o.guard=some (g,want)→((zh [] l).getD i 0).testBit g=true∧∃t,nth (dsts l) g=some t
 lt:∀i e,i<l.length→((zh [] l).getD i 0).testBit e=true→e<i
 ops:∀(i:Nat)(o:Oper)(t j:Nat),l[i]? = some o→t∈zP o→j<l.length→nth (dsts l) j=some t→((zh [] l).getD i 0).testBit j=true
 chain:∀i j,j<i→i<l.length→efL l i=true→efL l j=true→((zh [] l).getD i 0).testBit j=true
 dist:∀i j t,j<i→i<l.length→nth (dsts l) i=some t→nth (dsts l) j=some t→False
theorem Vn{l:List Oper}(h:G3 l=true):qcg l:=by
 simp only[G3,xe6,List.all_eq_true,List.mem_range]at h;obtain⟨h1,h2⟩:=h;have key:∀(i:Nat)(o:Oper),l[i]? = some o→(∀(g:Nat)(want:Bool),o.guard=some (g,want)→((zh [] l).getD i 0).testBit g=true∧∃t,nth (dsts l) g=some t)∧((zh [] l).getD i 0)<2^i∧∀j,j<l.length→(∀t,nth (dsts l) j=some t→t∈zP o→((zh [] l).getD i 0).testBit j=true)∧(j<i→(efL l i=true→efL l j=true→((zh [] l).getD i 0).testBit j=true)∧∀t u,nth (dsts l) j=some t→nth (dsts l) i=some u→t≠u):=by
  intro i o ho;have hi:i<l.length:=(List.getElem?_eq_some_iff.1 ho).1;have h:=h2 i hi;rw[ho]at h;simp only[xe6,List.all_eq_true,List.mem_range]at h;obtain⟨⟨a,b⟩,c⟩:=h;refine⟨λg want hg=>(by rw[hg]at a;simp only[xe6]at a;exact⟨a.1,Option.isSome_iff_exists.1 a.2⟩),(by have b:=xa7 b;omega),λj hj=>?_⟩;obtain⟨d,e⟩:=c j hj;refine⟨λt ht hm=>?_,λhji=>?_⟩
  ·rw[ht]at d
   simp only[xe8,Bool.not_eq_true']at d;exact d.resolve_left (by simp[hm])
  ·have hb:Nat.blt j i=true:=by simp[Nat.blt];omega
   simp only[hb,Bool.not_true,xf4,xe6]at e;refine⟨λx y=>by simpa[x,y]using e.1,λt u ht hu hc=>?_⟩;have:=e.2;rw[ht,hu]at this;simp[hc]at this
 refine⟨h1,λi o g want ho hg=>(key i o ho).1 g want hg,λi e hi hb=>?_,λi o t j ho ht hj hn=>((key i o ho).2.2 j hj).1 t hn ht,λi j hji hi=>?_,λi j t hji hi ha hb=>?_⟩
 ·obtain⟨o,ho⟩:∃o,l[i]? = some o:=⟨l[i],by simp[hi]⟩
  have hlt:=(key i o ho).2.1;refine xf9 λc=>?_;rw[Nat.testBit_lt_two_pow (xa9 hlt (Nat.pow_le_pow_right Ω Ω))]at hb;cases hb
 ·obtain⟨o,ho⟩:∃o,l[i]? = some o:=⟨l[i],by simp[hi]⟩
  exact(((key i o ho).2.2 j Ω).2 hji).1
 ·obtain⟨o,ho⟩:∃o,l[i]? = some o:=⟨l[i],by simp[hi]⟩
  exact(((key i o ho).2.2 j Ω).2 hji).2 t t hb ha rfl
def loC(l:List Oper)(i:Nat):Nat:=kc (λe=>efL l e&&((zh [] l).getD i 0).testBit e) l.length
def hiC(l:List Oper)(i:Nat):Nat:=kc (λe=>efL l e&&!((zh [] l).getD e 0).testBit i) l.length
theorem vK{e:Nat→Bool}{Y:Nat→Tr 6 XB}{Z:Nat→Nat}{n:Nat}(hY:∀j,j<n→e j=false→Y (j+1)=Y j∧Z (j+1)=Z j):∀{j k:Nat},j≤k→k≤n→kc e j=kc e k→Y j=Y k∧Z j=Z k
 |j,0,h,_,_=>by rw[Nat.le_zero.1 h];exact⟨rfl,rfl⟩
 |j,k+1,h,hk,he=>by
  by_cases c:j=k+1
  ·simp_all
  ·have h1:=qdR (e:=e) (Ω:j≤k)
   simp only[kc]at he;have h2:e k=false:=by
    cases q:e k with
    |false=>rfl
    |true=>rw[q,if_pos rfl]at he;omega
   rw[h2]at he;obtain⟨a,b⟩:=vK hY (Ω:j≤k) Ω Ω1
   grind
theorem gL(st:St)(d:Option Tmp)(s:SV)(t:Nat):look (st.put d s).fr t=if d=some t then s else look st.fr t:=by
 cases d with
 |none=>rw[if_neg (by intro h;cases h)];rfl
 |some d=>
  show look (putFr st.fr d s) t=_;rw[zn];by_cases c:t=d
  ·simp_all
  ·grind
def Grd(l:List Oper)(G:Nat→SV)(o:Oper)(sk:Bool):Prop:=
 match o.guard with
 |none=>sk=false
 |some (g,want)=>∃t,nth (dsts l) g=some t∧((∃b,G t=.val (.bool b)∧sk = !(b == want))∨((∃vs,G t=.val (.tuple vs))∧sk=true))
def PureAt(P:Program)(F:Nat→SV)(H:List (Nat×Blk))(op:Op)(s:SV):Prop:=
 qqh s (stepR P F H op)∨(qdj op=true∧∀(O:Ctx)(st:St),(∀t,t∈op.operands.toList.filterMap (fun|.tmp t=>some t|_=>none)→look st.fr t=F t)→st.hp=H→OpVC P O op st λst' res=>st'=st∧res=s)
theorem OpVC.mono{op:Op}{K K':St→SV→Prop}(h:OpVC P O op st K)(hk:∀st' res,K st' res→K' st' res):OpVC P O op st K':=λbase okc ns r outs a w o ho hi=>by
 obtain⟨v,w',h1,st',r',res,h2,h3⟩:=h base okc ns r outs a w o ho hi
 grind
theorem G4{ops:List Oper}{o:Oper}{K:St→Prop}{sk:Bool}(hg:Grd ops (look st.fr) o sk)
  (hrun:sk=false→∀st1:St,(∀t,look st1.fr t=look st.fr t)→st1.hp=st.hp→st1.nid=st.nid→wE P O True o.op o.dst st1.nid st1 (λst'=>K ⟨inD o.dst st'.fr,st'.hp,st'.nid+1⟩) (stepR P (look st1.fr) st1.hp o.op)∨(qdj o.op=true∧OpVC P O o.op st1 λst' res=>K (st'.putI o.dst res)))
  (hskip:sk=true→∀st1:St,(∀t,look st1.fr t=look st.fr t)→st1.hp=st.hp→st1.nid=st.nid→K (st1.putI o.dst undefSV)):opH P O (dsts ops) o st K:=by
 unfold opH zp;unfold Grd at hg;have same:∀(t:Tmp)(b:Bool),look st.fr t=.val (.bool b)→∀u,look (st.put (some t) (.val (.bool b))).fr u=look st.fr u:=λt b h u=>by
  rw[gL];by_cases c:some t=some u
  ·simp_all
  ·rw[if_neg c]
 cases e:o.guard with
 |none=>
  rw[e]at hg;exact(hrun hg st (λ_=>rfl) rfl rfl).imp id λh=>⟨h.1,.inl h.2⟩
 |some p=>
  obtain⟨g,want⟩:=p;rw[e]at hg;obtain⟨t,ht,hc⟩:=hg;dsimp only;rw[ht];dsimp only;rcases hc with⟨b,hb,hs⟩|⟨⟨vs,hb⟩,hs⟩
  ·rw[hb]
   cases want<;>cases b<;>dsimp only
   ·exact⟨λx=>(by cases x),λ_=>(hrun hs _ (same t false hb) rfl rfl).imp id λh=>⟨h.1,.inl h.2⟩⟩
   ·exact⟨λ_=>hskip hs _ (same t true hb) rfl rfl,λx=>by cases x⟩
   ·exact⟨λx=>(by cases x),λ_=>hskip hs _ (same t false hb) rfl rfl⟩
   ·exact⟨λ_=>(hrun hs _ (same t true hb) rfl rfl).imp id λh=>⟨h.1,.inl h.2⟩,λx=>by cases x⟩
  ·simp_all
theorem wv(st:St)(d:Option Tmp)(v:SV)(t:Nat):look (st.putI d v).fr t=look (st.put d v).fr t:=by
 cases d with
 |none=>rfl
 |some d=>show look (putIn st.fr d v) t=_;rw[we];rfl
theorem ww(st:St)(d:Option Tmp)(v:SV):(st.putI d v).hp=st.hp:=by cases d<;>rfl
theorem qaf(hm:P.follows .mixedOrders=true){K:Ex→St→Prop}{id:Nat}{l:List Oper}{LM:Nat→Option Loop}(hc:qcg l)(res:Nat→SV)(Y:Nat→Tr 6 XB)(Z:Nat→Nat)(G:Nat→SV)(sk:Nat→Bool)
  (hsk:∀i o,l[i]? = some o→Grd l G o (sk i)∧(sk i=true→Y (i+1)=Y i∧(efL l i=true→Z i+l.length≤Z (i+1))∧∀d,o.dst=some d→res i=undefSV))
  (hY:∀j,j<l.length→efL l j=false→Y (j+1)=Y j∧Z (j+1)=Z j) (hG:∀t,G t=FS (nth (dsts l)) res (λ_=>true) (look st.fr) l.length t) (h0:HRel LM (Y 0) st.hp) (hz:st.nid=Z 0)
  (hp:∀i o,l[i]? = some o→sk i=false→efL l i=false→∀j,j≤l.length→loC l i≤kc (efL l) j→kc (efL l) j≤hiC l i→∀(F:Nat→SV)(H:List (Nat×Blk)),(∀t,t∈zP o→F t=G t)→HRel LM (Y j) H→∃s,PureAt P F H o.op s∧∀d,o.dst=some d→s=res i)
  (he:∀i o,l[i]? = some o→sk i=false→efL l i=true→∀st1:St,(∀t,t∈zP o→look st1.fr t=G t)→HRel LM (Y i) st1.hp→st1.nid=Z i+l.length→∀K':St→Prop,(∀st':St,(∀t,look st'.fr t=look (st1.put o.dst (res i)).fr t)→HRel LM (Y (i+1)) st'.hp→st'.nid+1≤Z (i+1)→K' st')→wE P O True o.op o.dst st1.nid st1 K' (stepR P (look st1.fr) st1.hp o.op))
  (hK:∀st':St,(∀t,look st'.fr t=G t)→HRel LM (Y l.length) st'.hp→st'.nid=Z l.length+l.length→K .normal st') {g:Tag K}:jC P O id l true st K g:=by
 refine wq hm (λm st'=>(∀t,look st'.fr t=FS (nth (dsts l)) res (λi=>m.testBit i) (look st.fr) l.length t)∧∃j,j≤l.length∧kc (efL l) j=kc (λe=>efL l e&&m.testBit e) l.length∧HRel LM (Y j) st'.hp∧st'.nid≤Z j+kc (λi=>m.testBit i) l.length) rfl hc.edges (Weak.refl _ _) ?_ ?_ ?_
 ·refine⟨λt=>(Wy λj _=>xb3 j).symm,0,xb6 _,?_,h0,Ω⟩
  rw[qdS (n:=l.length) λj _=>by rw[xb3,Bool.and_false]];rfl
 ·refine j9 λi o ho=>?_
  rw[xb0];rintro m st1 ⟨hf,j,hj,hkj,hH,hnid⟩ hcl hbit hanc;have hi:i<l.length:=(List.getElem?_eq_some_iff.1 ho).1;have anc:∀e,((zh [] l).getD i 0).testBit e=true→m.testBit e=true:=λe h=>hanc e h (by have:=hc.lt i e hi h;omega);have hops:∀t,t∈zP o→look st1.fr t=G t:=λt ht=>by
   rw[hf,hG];exact wu λx hx hxt=>anc x (hc.ops i o t x ho ht hx hxt)
  have hdst:nth (dsts l) i=o.dst:=by rw[zA,ho];rfl
  have frs:∀fr:List (Nat×SV),(∀t,look fr t=look (st1.put o.dst (res i)).fr t)→∀t,look fr t=FS (nth (dsts l)) res (λx=>(m ||| 2^i).testBit x) (look st.fr) l.length t:=λfr hfr t=>by
   rw[qcf (S:=λx=>m.testBit x) (i:=i) (λx=>tb m i x) hi λx hx hxi h1 h2=>?_,hdst,←hf,hfr,gL];by_cases c:x<i
   ·exact hc.dist i x t c hi h1 h2
   ·exact hc.dist x i t Ω hx h2 h1
  have done:kc (λx=>(m ||| 2^i).testBit x) l.length=kc (λx=>m.testBit x) l.length+1:=by
   rw[Ww (e:=λx=>m.testBit x) (i:=i) (λx hx=>by show(m ||| 2^i).testBit x=_;rw[tb];simp;intro e;exact absurd e.symm hx) hbit,if_pos ⟨hi,by show(m ||| 2^i).testBit i=true;rw[tb];simp⟩]
  obtain⟨hgrd,hskip⟩:=hsk i o ho;have hgrd:Grd l (look st1.fr) o (sk i):=by
   unfold Grd at hgrd ⊢;cases e:o.guard with
   |none=>rw[e]at hgrd;exact hgrd
   |some p=>
    obtain⟨g,want⟩:=p;rw[e]at hgrd;obtain⟨t,ht,hcc⟩:=hgrd;refine⟨t,ht,?_⟩;have hb:=(hc.grd i o g want ho e).1;have:look st1.fr t=G t:=by
     rw[hf,hG];refine wu λx hx hxt=>?_;by_cases c:x=g
     ·simp_all
     ·exfalso
      have hgl:=hc.lt i g hi hb;by_cases d:x<g
      ·exact hc.dist g x t d Ω ht hxt
      ·exact hc.dist x g t Ω hx hxt ht
    rw[this];exact hcc
  cases q:efL l i with
  |false=>
   refine⟨st1,Weak.refl _ _,?_⟩;have fin:∀(s0:SV)(st2 st3:St),(∀t,look st2.fr t=look st1.fr t)→(∀d,o.dst=some d→s0=res i)→(∀t,look st3.fr t=look (st2.put o.dst s0).fr t)→HRel LM (Y j) st3.hp→st3.nid≤st1.nid+1→∃st4,Weak O st3 st4∧(∀t,look st4.fr t=FS (nth (dsts l)) res (λx=>(m ||| 2^i).testBit x) (look st.fr) l.length t)∧∃j,j≤l.length∧kc (efL l) j=kc (λe=>efL l e&&(m ||| 2^i).testBit e) l.length∧HRel LM (Y j) st4.hp∧st4.nid≤Z j+kc (λx=>(m ||| 2^i).testBit x) l.length:=by
    intro s0 st2 st3 h2 hs0 h3 hH3 hn3;refine⟨st3,Weak.refl _ _,frs _ λt=>?_,j,hj,?_,hH3,?_⟩
    ·rw[h3,gL,gL,h2]
     by_cases c:o.dst=some t
     ·simp_all
     ·simp_all
    ·grind
    ·rw[done];omega
   refine G4 hgrd (λhs st2 h2 h2h h2n=>?_) (λhs st2 h2 h2h h2n=>?_)
   ·obtain⟨s0,h1,hs0⟩:=hp i o ho hs q j hj (by
     rw[hkj];refine Wv λe _ h=>?_;rw[xe6]at h ⊢;exact⟨h.1,anc e h.2⟩) (by
     rw[hkj];refine Wv λe _ h=>?_;rw[xe6]at h ⊢;refine⟨h.1,?_⟩;cases c:((zh [] l).getD e 0).testBit i with
     |false=>rfl
     |true=>rw[hcl e i c h.2]at hbit;cases hbit) (look st2.fr) st2.hp (λt ht=>by rw[h2,hops t ht]) (by rw[h2h];exact hH)
    have f2:=fin s0 st2 ⟨inD o.dst (st2.put o.dst s0).fr,(st2.put o.dst s0).hp,(st2.put o.dst s0).nid+1⟩ h2 hs0 (λt=>gC _ _ _) (by rw[zo,h2h];exact hH) (by rw[qz];show st2.nid+1≤_;omega);rcases h1 with(⟨obl,e,h⟩|⟨obl,e,h⟩)|⟨hnd,h⟩
    ·rw[e];exact .inl ⟨h,f2⟩
    ·rw[e];exact .inl ⟨_,h,f2⟩
    ·refine .inr ⟨hnd,(h O st2 (λt _=>rfl) rfl).mono ?_⟩
     rintro st' res' ⟨rfl,rfl⟩;exact fin _ st' _ h2 hs0 (λt=>wv _ _ _ _) (by rw[ww,h2h];exact hH) (by rw[kF];omega)
   ·exact fin undefSV st2 _ h2 (λd hd=>((hskip hs).2.2 d hd).symm) (λt=>wv _ _ _ _) (by rw[ww,h2h];exact hH) (by rw[kF];omega)
  |true=>
   have hks:kc (λe=>efL l e&&m.testBit e) l.length=kc (efL l) i:=by
    refine Vm (λe hei=>?_) Ω λe hie hen=>?_
    ·show(efL l e&&m.testBit e)=efL l e
     cases c:efL l e with
     |false=>rfl
     |true=>rw[anc e (hc.chain i e hei hi q c)];rfl
    ·show(efL l e&&m.testBit e)=false
     cases c:efL l e with
     |false=>rfl
     |true=>
      cases d:m.testBit e with
      |false=>rfl
      |true=>
       by_cases x:e=i
       ·simp_all
       ·rw[hcl e i (hc.chain e i Ω hen c q) d]at hbit;cases hbit
   have hst:Y j=Y i∧Z j=Z i:=by
    rw[hks]at hkj;by_cases c:j≤i
    ·exact vK hY c Ω hkj
    ·have:=vK hY (Ω:i≤j) hj hkj.symm
     simp_all
   have fin:∀st3:St,(∀t,look st3.fr t=look (st1.put o.dst (res i)).fr t)→HRel LM (Y (i+1)) st3.hp→st3.nid≤Z (i+1)→∃st4,Weak O st3 st4∧(∀t,look st4.fr t=FS (nth (dsts l)) res (λx=>(m ||| 2^i).testBit x) (look st.fr) l.length t)∧∃j,j≤l.length∧kc (efL l) j=kc (λe=>efL l e&&(m ||| 2^i).testBit e) l.length∧HRel LM (Y j) st4.hp∧st4.nid≤Z j+kc (λx=>(m ||| 2^i).testBit x) l.length:=by
    intro st3 h3 hH3 hn3;refine⟨st3,Weak.refl _ _,frs _ h3,i+1,hi,?_,hH3,Ω⟩;have k2:=Ww (e:=λe=>efL l e&&m.testBit e) (e':=λe=>efL l e&&(m ||| 2^i).testBit e) (i:=i) (λe hei=>by
     show(efL l e&&(m ||| 2^i).testBit e)=(efL l e&&m.testBit e);rw[tb,decide_eq_false (λx=>hei x.symm),xf3]) (by show(efL l i&&m.testBit i)=false;rw[hbit,Bool.and_false]) (n:=l.length)
    rw[k2,if_pos ⟨hi,by show(efL l i&&(m ||| 2^i).testBit i)=true;rw[tb];simp[q]⟩,hks];simp[kc,q]
   refine⟨{ st1 with nid:=Z i+l.length },QA _ _ _ (by have:=qdQ (e:=λx=>m.testBit x) (n:=l.length);rw[hst.2]at hnid;omega),?_⟩;refine G4 (st:={ st1 with nid:=Z i+l.length }) hgrd (λhs st2 h2 h2h h2n=>?_) (λhs st2 h2 h2h h2n=>?_)
   ·refine .inl (he i o ho hs q st2 (λt ht=>by rw[h2];exact hops t ht) (by rw[h2h,←hst.1];exact hH) h2n _ λst' hf' hH' hn'=>?_)
    exact fin _ (λt=>by rw[gC,hf',gL,gL,h2]) hH' hn'
   ·obtain⟨k1,k2,k3⟩:=hskip hs
    refine fin _ (λt=>?_) (by rw[ww,h2h,k1,←hst.1];exact hH) (by rw[kF,h2n];exact k2 q);rw[wv,gL,gL,h2];by_cases c:o.dst=some t
    ·rw[if_pos c,if_pos c,k3 t c]
    ·rw[if_neg c,if_neg c]
 ·rintro m st1 ⟨hf,j,hj,hkj,hH,hnid⟩ hall
  have hk:kc (efL l) j=kc (efL l) l.length:=by
   rw[hkj];exact G1 λe he=>by rw[hall e he,xf1]
  obtain⟨h1,h2⟩:=vK hY hj (xa5 _) hk;have:=qdQ (e:=λi=>m.testBit i) (n:=l.length);refine⟨{ st1 with nid:=Z l.length+l.length },QA _ _ _ (by rw[h2]at hnid;omega),hK _ (λt=>?_) (by rw[←h1];exact hH) rfl⟩;show look st1.fr t=_;rw[hf,hG];exact wu λx hx _=>hall x hx
theorem Wz{α:Type}:∀{l m:List α},l.Nodup→(∀x,x∈l→x∈m)→l.length≤m.length
 |[],m,_,_=>xb6 _
 |a :: l,m,hn,h=>by
  obtain⟨m1,m2,rfl⟩:=List.append_of_mem (h a xd5);rw[List.nodup_cons]at hn;have:=Wz (m:=m1++m2) hn.2 λx hx=>by
   have:=h x (List.mem_cons_of_mem _ hx);rw[xd4,List.mem_cons]at this;rw[xd4];rcases this with h1|rfl|h1
   ·exact .inl h1
   ·simp_all
   ·exact .inr h1
  grind
theorem Vo{t:TypeId}{x:Operand}{id:Nat}{fit dom:Value→Bool}{get:Value→SV}{mi:jX}(ht:qD P t=some mi)(hx:env (look st.fr) x=.mp id)(hb:blk st.hp id=some (.map fit dom get)){L:List Value}(hn:L.Nodup)(hL:∀k,dom k=true↔k∈L) :
  OpVC P O (.call ⟨.builtin .len,#[x],#[t]⟩) st λst' res=>st'=st∧res=Ψ (Φ Γ (.ofNat L.length)):=by
 intro base okc ns r outs a w o ho hi;have hu:=hi.env x;rw[hx]at hu;generalize hex:a.eval x=u at hu;cases hu with
 |mp _ b hN hr=>
  have hrep:=hi.sat.rep _ _ hb hN;rw[hr]at hrep;cases hrep with
  |map _ _ _ _ es clock hw hm hbn hes=>
   have hk:∃kt et,P.underlying t=some (.map kt et):=by
    unfold qD at ht;split at ht
    ·simp_all
    ·cases ht
   obtain⟨kt,et,hk⟩:=hk;have hnk:(es.toList.map (·.key)).Nodup:=by
    refine List.pairwise_iff_getElem.2 λi j hi' hj hij he=>?_;simp only[List.getElem_map]at he;rw[xe1]at hi' hj;have:=hm.once i j es.toList[i] es.toList[j] (by rw[←xf6,xc7]) (by rw[←xf6,xc7]) he;omega
   have hmem:∀k,k∈es.toList.map (·.key)↔k∈L:=λk=>by
    rw[←hL,List.mem_map];constructor
    ·rintro⟨e,he,rfl⟩;exact hm.doms e (Array.mem_toList_iff.1 he)
    ·intro h
     obtain⟨e,he,hke⟩:=hm.has k h
     grind
   have hlen:es.size=L.length:=by
    have h1:=Wz hnk λk hk=>(hmem k).1 hk;have h2:=Wz hn λk hk=>(hmem k).2 hk
    grind
   refine⟨Φ Γ (.ofNat L.length),w,?_,st,r,_,⟨rfl,rfl⟩,xa5 _,hi,.val _⟩;obtain⟨dst,op,type,pos,aft,guard⟩:=o;simp only[]at ho;subst ho;have hobj:(getObj b).run P w=.ok (.map es clock) w:=by simp[getObj,Sem.run,hw]
   simp[execOp,Go.resolve,Go.invoke,Go.builtin,hex,Builtin.len_,run_underlying hk,hobj,goInt,hlen]
end
end Go.Sx
end
section
namespace Go.Tn
open Go.Proofs
open Go.Sx
theorem weakSU{O:Ctx}{fr fr':List (Nat×SV)}{hp hp':List (Nat×Blk)}{nid nid':Nat}(hn:nid≤nid')(hf:qQ fr fr')(hh:SubHp hp hp'):Weak O ⟨fr,hp,nid⟩ ⟨fr',hp',nid'⟩:=
 Weak.trans (QA O ⟨fr,hp,nid⟩ nid' hn) (vm hf hh)
def mxF(rw:Nat→Int)(to:Nat→Nat):Nat→Int
 |0=>0
 |j+1=>max (mxF rw to j) (rw (to j)+1)
theorem Zo(rw:Nat→Int)(to:Nat→Nat)(j:Nat):mxF rw to (j+1)=max (mxF rw to j) (rw (to j)+1):=rfl
theorem qoC{rw:Nat→Int}{to:Nat→Nat}{X:Int}(hX:0≤X){m:Nat}(h:∀j,j<m→-1≤rw (to j)∧rw (to j)<X):0≤mxF rw to m∧mxF rw to m≤X:=by
 induction m with
 |zero=>exact⟨Int.le_refl _,hX⟩
 |succ m ih=>
  have⟨h1,h2⟩:=ih λj hj=>h j Ω;have⟨h3,h4⟩:=h m Ω;rw[Zo];omega
theorem qqn(H:List (Nat×Blk))(id tb xid rid mid N i m:Nat)(A Z:SV)(nx row:Nat→Nat→SV)(rw:Nat→Int)(to:Nat→Nat)
  (hN:N≤100000) (hi:i<N) (hm:m≤100) (hb:blk H tb=some (.cells 253 [A,Z,.vec xid N 1,.vec rid N 1,.mp mid])) (hx:blk H xid=some (.rows 22 1 N nx)) (hr:blk H rid=some (.rows 3 1 N row))
  (hrow:∀i,i<N→row i 0=Ψ (Φ Γ (rw i))) (hrw:∀i,i<N→-1≤rw i∧rw i<1000000) (hto:∀j,j<m→to j<N)
  (hnx:(m=0∧nx i 0=.val (.slice none 0 0))∨∃xi r,nx i 0=.vec xi m 1∧blk H xi=some (.rows 3 1 m r)∧∀j,j<m→r j 0=Ψ (Φ Γ (to j:Nat))) :
  EffVC Tryz.prog 278 [.ptr tb 0,Ψ (Φ Γ (i:Nat))] H id (λhp' nid' res=>hp'=H∧id≤nid'∧nid'≤id+100*(m+2)∧
   (((∀j,j<m→0≤rw (to j))∧res=.tup [I (mxF rw to m),B true])∨((∃j,j<m∧rw (to j)<0)∧res=.tup [I 0,B false]))):=by
 refine vu follows Tryz.func278 rfl Ωb Ωb (by rw[Tryz.ntmps278];simp) λout=>?_;rcases hnx with⟨rfl,hNx⟩|⟨xi,r,hNx,hxi,hr1⟩
 ·repeat' first|refine sD ?_ ?_<;>intro _|refine aA ?_|simp -dsimp only[↓RP,RQ,seval,hb,hx,hr,hNx,QÀ]
  refine qp (λ(z:Unit)=>True) (λ_=>⟨[(0,.ptr tb 0),(6,Ψ (Φ Γ 0)),(16,Ψ (Φ Γ 0)),(17,Ψ (Φ Γ 0))],H,id+50⟩) (λ_=>0) () trivial (weakSU Ω Ωd (SubHp.refl _)) λz hz=>?_;repeat' first|refine sD ?_ ?_<;>intro _|refine aA ?_|simp -dsimp only[↓RP,RQ,seval,hb,hx,hr,hNx,QÀ]
  all_goals try exact ΩB
  refine⟨_,_,_,vm (fr':=[(0,_)]) ⟨.inr rfl,trivial⟩ (SubHp.refl _),rfl,Ω,Ω,.inl ⟨λj hj=>by omega,rfl⟩⟩
 ·have hW:True:=trivial
  (repeat' first|refine sD ?_ ?_<;>intro _|refine aA ?_|simp -dsimp only[↓RP,RQ,seval,hb,hx,hr,hNx,QÀ]);refine qp (λ(j:Nat)=>j≤m∧∀k,k<j→0≤rw (to k)) (λj=>⟨[(0,.ptr tb 0),(6,Ψ (Φ Γ (mxF rw to j))),(15,.vec xi m 1),(16,Ψ (Φ Γ (m:Nat))),(17,Ψ (Φ Γ (j:Nat)))],H,id+50+50*j⟩) (λj=>m - j) 0 ⟨xb6 _,λk hk=>by omega⟩ (weakSU Ω (by simp[qQ,Go.Sx.look,mxF]) (SubHp.refl _)) λj hj=>?_;obtain⟨hj,hk⟩:=hj;by_cases hjm:j<m
  ·have hrj:=hr1 j hjm
   have htj:=hto j hjm;have hrt:=hrow (to j) htj;have hrb:=hrw (to j) htj;have⟨hM0,hM1⟩:=qoC (rw:=rw) (to:=to) (X:=1000000) Ω (m:=j) λk hk'=>hrw _ (hto k Ω);have hlt:=decide_eq_true (Ω:((j:Nat):Int)<(m:Nat));by_cases hneg:rw (to j)<0
   ·have hd:=decide_eq_true hneg
    (repeat' first|refine sD ?_ ?_<;>intro _|refine aA ?_|simp -dsimp only[↓RP,RQ,seval,hlt,hxi,hrj,hrt,hd,hb,hx,hr,hNx,QÀ]);refine⟨_,_,_,vm (fr':=[(0,_)]) ⟨.inr rfl,trivial⟩ (SubHp.refl _),rfl,Ω,Ω,.inr ⟨⟨j,hjm,hneg⟩,rfl⟩⟩
   ·have hd:=decide_eq_false hneg
    have hmx:max (mxF rw to j) (rw (to j)+1)=mxF rw to (j+1):=(Zo rw to j).symm;(repeat' first|refine sD ?_ ?_<;>intro _|refine aA ?_|simp -dsimp only[↓RP,RQ,seval,hlt,hxi,hrj,hrt,hd,hmx,hb,hx,hr,hNx,QÀ]);refine⟨j+1,⟨hjm,λk hk'=>?_⟩,Ω,weakSU Ω Ωd (SubHp.refl _)⟩;rcases Nat.lt_succ_iff_lt_or_eq.1 hk' with h|rfl
    ·exact hk k h
    ·omega
  ·obtain rfl:j=m:=by omega
   have hlt:=decide_eq_false (Ω:¬((j:Nat):Int)<(j:Nat));(repeat' first|refine sD ?_ ?_<;>intro _|refine aA ?_|simp -dsimp only[↓RP,RQ,seval,hlt,hb,hx,hr,hNx,QÀ]);refine⟨_,_,_,vm (fr':=[(0,_)]) ⟨.inr rfl,trivial⟩ (SubHp.refl _),rfl,Ω,Ω,.inl ⟨hk,rfl⟩⟩
end Go.Tn
end
section
namespace Go.Tn
open Go.Sx
variable{F:Nat→Int}
structure Fx(N:Nat)(len:Nat→Nat)(to:Nat→Nat→Nat)(F:Nat→Int):Prop where
 lo:∀i,i<N→-1≤F i
 hi:∀i,i<N→F i<1000000
 inn:∀i j,i<N→j<len i→to i j<N
 ok:∀i,i<N→(0≤F i↔∀j,j<len i→0≤F (to i j))
 eq:∀i,i<N→0≤F i→F i=mxF F (to i) (len i)
theorem qiS{to:Nat→Nat}{m j:Nat}(h:j<m):F (to j)+1≤mxF F to m:=by
 induction m with
 |zero=>omega
 |succ m ih=>
  rw[Zo];rcases Nat.lt_succ_iff_lt_or_eq.1 h with h|rfl
  ·omega
  ·omega
theorem qgl{G:Nat→Int}{to:Nat→Nat}{m:Nat}(h:∀j,j<m→F (to j)=G (to j)):mxF F to m=mxF G to m:=by
 induction m with
 |zero=>rfl
 |succ m ih=>rw[Zo,Zo,h m Ω,ih λj hj=>h j Ω]
def Rw(N:Nat)(F rw:Nat→Int):Prop:=∀i,i<N→rw i=F i∨rw i = -1
theorem Fx.set{N:Nat}{len:Nat→Nat}{to:Nat→Nat→Nat}{rw:Nat→Int}(h:Fx N len to F)(hr:Rw N F rw){i:Nat}(hi:i<N)(hk:∀j,j<len i→0≤rw (to i j)):0≤F i∧mxF rw (to i) (len i)=F i:=by
 have e:∀j,j<len i→rw (to i j)=F (to i j):=λj hj=>by
  rcases hr _ (h.inn i j hi hj)with e|e
  ·exact e
  ·grind
 have h0:0≤F i:=(h.ok i hi).2 λj hj=>by rw[←e j hj];exact hk j hj
 exact⟨h0,by rw[qgl e,←h.eq i hi h0]⟩
theorem Fx.fin{N:Nat}{len:Nat→Nat}{to:Nat→Nat→Nat}{rw:Nat→Int}(h:Fx N len to F)(hr:Rw N F rw)(hk:∀i,i<N→rw i<0→∃j,j<len i∧rw (to i j)<0):∀(n i:Nat),i<N→F i<n→rw i=F i:=by
 intro n
 induction n with
 |zero=>intro i hi hf;have:=h.lo i hi;rcases hr i hi with e|e<;>omega
 |succ n ih=>
  intro i hi hf;rcases hr i hi with e|e
  ·exact e
  ·by_cases h0:0≤F i
   ·obtain⟨j,hj,hn⟩:=hk i hi Ω
    have h1:=(h.ok i hi).1 h0 j hj;have h2:=qiS (F:=F) (to:=to i) hj;rw[←h.eq i hi h0]at h2;have:=ih (to i j) (h.inn i j hi hj) Ω;omega
   ·grind
def Qc(rw:Nat→Int)(i:Nat)(x:Int):Nat→Int:=λk=>if k=i then x else rw k
def cnt(rw:Nat→Int):Nat→Nat
 |0=>0
 |n+1=>cnt rw n+if rw n<0 then 1 else 0
theorem G5(rw:Nat→Int):∀n,cnt rw n≤n
 |0=>xa5 _
 |n+1=>by have:=G5 rw n;simp only[cnt];split<;>omega
theorem qdT{rw:Nat→Int}{i:Nat}{x:Int}:∀{n},n≤i→cnt (Qc rw i x) n=cnt rw n
 |0,_=>rfl
 |n+1,h=>by
  have:=qdT (rw:=rw) (x:=x) (n:=n) (i:=i) Ω;have e:Qc rw i x n=rw n:=by unfold Qc;rw[if_neg Ω]
  simp only[cnt,this,e]
theorem wi{rw:Nat→Int}{i:Nat}{x:Int}(h0:rw i<0)(hx:0≤x):∀{n},i<n→cnt (Qc rw i x) n+1=cnt rw n
 |0,h=>by omega
 |n+1,h=>by
  rcases Nat.lt_succ_iff_lt_or_eq.1 h with h|rfl
  ·have:=wi h0 hx h
   have e:Qc rw i x n=rw n:=by unfold Qc;rw[if_neg Ω]
   simp only[cnt,e];omega
  ·have:=qdT (rw:=rw) (x:=x) (xa5 i)
   have e:Qc rw i x i=x:=by unfold Qc;rw[if_pos rfl]
   simp only[cnt,this,e]
   simp_all
def kp(f:Nat→Int)(n:Nat):Value:=.agg #[Φ Γ (f 0),Φ Γ (f 1),Φ Γ (f 2),Φ Γ (f 3),Φ Γ (f 4),Φ Γ (n:Nat)]
def kpL(f:Nat→Int)(n:Nat):List SV:=[Ψ (Φ Γ (f 0)),Ψ (Φ Γ (f 1)),Ψ (Φ Γ (f 2)),Ψ (Φ Γ (f 3)),Ψ (Φ Γ (f 4)),Ψ (Φ Γ (n:Nat))]
abbrev kfP:Value→Bool:=qh true [Lf.i .i64,Lf.i .i64,Lf.i .i64,Lf.i .i64,Lf.i .i64,Lf.i .i64]
def zW(v:Value):Nat:=match v with
 |.agg c=>(match c.toList with
  |[_,_,_,_,_,.int _ n]=>n.toNat
  |_=>0)
 |_=>0
theorem wx(f:Nat→Int)(n:Nat):zW (kp f n)=n:=rfl
theorem eqK_kp{f:Nat→Int}{n:Nat}{v:Value}:eqK (kp f n) v=true↔v=kp f n:=by
 constructor
 ·intro h;exact(zz h).symm
 ·rintro rfl;simp[eqK,kp,jB,vX]
def kc(v:Value)(j:Nat):SV:=match v with
 |.agg c=>.val (c.toList.getD j undef)
 |_=>.top
theorem qiT(f:Nat→Int)(n:Nat):kc (kp f n) 0=Ψ (Φ Γ (f 0))∧kc (kp f n) 1=Ψ (Φ Γ (f 1))∧kc (kp f n) 2=Ψ (Φ Γ (f 2))∧kc (kp f n) 3=Ψ (Φ Γ (f 3))∧kc (kp f n) 4=Ψ (Φ Γ (f 4))∧kc (kp f n) 5=Ψ (Φ Γ (n:Nat)):=⟨rfl,rfl,rfl,rfl,rfl,rfl⟩
theorem WA{O:Ctx}{fr:List (Nat×SV)}{hp:List (Nat×Blk)}{nid mid:Nat}{fit dom dom':Value→Bool}{get:Value→SV}{st:Value→Nat}{c:Nat}(hb:blk hp mid=some (.mapS fit dom get st c))(hd:∀v,dom' v=dom v):Weak O ⟨fr,hp,nid⟩ ⟨fr,setBlk hp mid (.map fit dom' get),nid⟩:=by
 obtain rfl:dom'=dom:=funext hd;rintro base okc ns outs a w ⟨r,h⟩;have hs:Step base okc r (· < nid) hp w r (· < nid) (setBlk hp mid (.map fit dom' get)) w:=h.sat.same hb λG' hG' hN=>by
  have hrep:=h.sat.rep mid _ hb hN;cases hr:r mid with
  |none=>rw[hr]at hrep;cases hrep
  |some b=>
   rw[hr]at hrep;cases hrep with
   |mapS _ _ _ _ _ es clock hb' hmo htm hst hes=>
    exact .map fit dom' get b es _ hb' hmo htm λe he=>(hes e he).mono (λ_ _=>rfl) (λ_ h=>h) (λo c hc=>⟨hG' o c hc,rfl⟩) (Shapes.refl w)
 exact⟨r,h.step hs (λid x hx=>by
  rw[qq]at hx;split at hx
  ·rename_i e;subst e;exact h.keys _ _ hb
  ·exact h.keys id x hx) (xa5 _) (d:=none) (λt ht=>by cases ht) (.val undef)⟩
theorem nmA{a n:Nat}(h:a<n):(∀k,(a=n+k)=False)∧(∀k,(n+k=a)=False)∧(a=n)=False∧(n=a)=False:=
 ⟨λk=>by rw[eq_iff_iff,iff_false];omega,λk=>by rw[eq_iff_iff,iff_false];omega,by rw[eq_iff_iff,iff_false];omega,by rw[eq_iff_iff,iff_false];omega⟩
theorem nmE{a b:Nat}(h:a≠b):(a=b)=False∧(b=a)=False:=⟨by simp[h],by simp[Ne.symm h]⟩
theorem gi{α:Type}{l:List α}{s:α}(h:l.Nodup)(hs:s∉l):(l++[s]).Nodup:=by
 grind
theorem vL:∀(n:Nat)(l:List Nat),l.Nodup→(∀s,s∈l→s<n)→l.length≤n
 |0,l,_,h=>by
  cases l with
  |nil=>exact xa5 _
  |cons a l=>have:=h a xd5;omega
 |n+1,l,hn,h=>by
  by_cases hm:n∈l
  ·have h1:=vL n (l.erase n) (hn.erase n) λs hs=>by
    grind
   simp_all
  ·have:=vL n l hn λs hs=>by
    grind
   omega
theorem yO{l:List Value}(h:l.Nodup){g:Value→Nat}(hi:∀a b,a∈l→b∈l→g a=g b→a=b):(l.map g).Nodup:=by
 induction l with
 |nil=>exact List.nodup_nil
 |cons a l ih=>
  grind
theorem zg{l:List (Nat×Blk)}{j:Nat}(h:blk l j=none):dropBlk l j=l:=by
 induction l with
 |nil=>rfl
 |cons p l ih=>
  obtain⟨i,b⟩:=p;simp only[blk]at h;split at h
  ·cases h
  ·rename_i hne
   simp only[dropBlk]
   simp_all
end Go.Tn
end
section
namespace Go.Tn
open Go.Proofs
open Go.Sx
variable{l:List (Nat×Blk)}{i:Nat}
theorem KN{b c:Blk}:setBlk (setBlk l i b) i c=setBlk l i c:=by
 induction l with
 |nil=>simp[setBlk]
 |cons p l ih=>
  obtain⟨j,x⟩:=p;simp only[setBlk];split
  iterate 2 focus simp[setBlk, *]
theorem qdU{b x:Blk}(h:blk l i=some x):blk (setBlk l i b) i=some b:=by
 rw[qq,if_pos rfl,h];rfl
theorem qiU{x:Blk}(h:blk l i=some x):setBlk l i x=l:=by
 induction l with
 |nil=>cases h
 |cons p l ih=>
  obtain⟨j,y⟩:=p;simp only[blk]at h;simp only[setBlk];split at h
  iterate 2 focus simp_all
def ROK(n i m:Nat)(row r:Nat→Nat→SV):Prop:=∀k,k<n→r k 0=if k<i∨m<k then row (n - 1 - k) 0 else row k 0
theorem qqo(H:List (Nat×Blk))(id oid n:Nat)(row:Nat→Nat→SV)(hn:0<n)(hn2:n≤100000)(hb:blk H oid=some (.rows 3 1 n row))(hone:∀i,i<n→∃x:Int,row i 0=Ψ (Φ Γ x)) :
  EffVC Tryz.prog 279 [.vec oid n 1] H id (λhp' nid' res=>id≤nid'∧nid'≤id+50*(n+1)∧res=.tup []∧∃r,(∀k,k<n→r k 0=row (n - 1 - k) 0)∧hp'=setBlk H oid (.rows 3 1 n r)):=by
 refine vu follows Tryz.func279 rfl Ωb Ωb (by rw[Tryz.ntmps279];simp) λout=>?_;have eH:∀b,blk (setBlk H oid b) oid=some b:=λb=>qdU hb;have hW:True:=trivial;(repeat' first|refine sD ?_ ?_<;>intro _|refine aA ?_|simp -dsimp only[↓RP,RQ,seval,hb,QÀ,KN]);refine qp (λ(z:Nat×Nat×(Nat→Nat→SV))=>z.1+z.2.1+1=n∧z.1≤z.2.1+1∧ROK n z.1 z.2.1 row z.2.2) (λz=>⟨[(0,.vec oid n 1),(2,Ψ (Φ Γ (z.1:Nat))),(3,Ψ (Φ Γ (z.2.1:Nat)))],setBlk H oid (.rows 3 1 n z.2.2),id+10+30*z.1⟩) (λz=>n - z.1) (0,n - 1,row) ⟨by simp only[];omega,by simp only[];omega,λk hk=>by rw[if_neg (by simp only[];omega)]⟩ (by rw[qiU hb];exact weakSU Ω (by simp[qQ,Go.Sx.look];omega) (SubHp.refl _)) λz hz=>?_;obtain⟨i,m,r⟩:=z;obtain⟨z1,z2,z3⟩:=hz;simp only[]at z1 z2 z3;have one:∀k,k<n→∃x:Int,r k 0=Ψ (Φ Γ x):=λk hk=>by
  rw[z3 k hk];split
  ·exact hone _ Ω
  ·exact hone _ hk
 by_cases hlt:i<m
 ·have h1:=decide_eq_true (Ω:((i:Nat):Int)<(m:Nat))
  obtain⟨x,hx⟩:=one i Ω;obtain⟨y,hy⟩:=one m Ω;(repeat' first|refine sD ?_ ?_<;>intro _|refine aA ?_|simp -dsimp only[↓RP,RQ,seval,h1,eH,hx,hy,QÀ,KN]);refine⟨(i+1,m - 1,_),⟨?_,?_,?_⟩,?_,weakSU (?_) (by simp[qQ,Go.Sx.look];omega) (SubHp.refl _)⟩
  ·grind
  ·grind
  ·intro k hk
   show(if k=m∧0=0 then Ψ (Φ Γ x)else if k=i∧0=0 then Ψ (Φ Γ y)else r k 0)=if k<i+1∨m - 1<k then row (n - 1 - k) 0 else row k 0
   by_cases e1:k=m
   ·rw[if_pos ⟨e1,rfl⟩,if_pos Ω,e1,←hx,z3 i Ω,if_neg Ω,show n - 1 - m=i by omega]
   ·rw[if_neg (λe=>e1 e.1)]
    by_cases e2:k=i
    ·rw[if_pos ⟨e2,rfl⟩,if_pos Ω,e2,←hy,z3 m Ω,if_neg Ω,show n - 1 - i=m by omega]
    ·rw[if_neg (λe=>e2 e.1),z3 k hk]
     by_cases e3:k<i∨m<k
     ·grind
     ·grind
  ·omega
  ·omega
 ·have h1:=decide_eq_false (Ω:¬((i:Nat):Int)<(m:Nat))
  (repeat' first|refine sD ?_ ?_<;>intro _|refine aA ?_|simp -dsimp only[↓RP,RQ,seval,h1,eH,QÀ,KN]);refine⟨_,_,_,weakSU (nid':=id+50*(n+1)) Ω (fr':=[(0,_)]) ⟨.inr rfl,trivial⟩ (SubHp.refl _),Ω,Ω,rfl,r,λk hk=>?_,rfl⟩;rw[z3 k hk];split
  ·rfl
  ·grind
def Vp(by':Nat→Nat)(N start:Nat):Nat→Nat→List Nat→Option (List Nat)
 |0,_,_=>none
 |f+1,at',acc=>if 0<by' at'∧at'<N then(if (by' at' - 1) / 5=start then some (acc++[(by' at' - 1) % 5])else Vp by' N start f ((by' at' - 1) / 5) (acc++[(by' at' - 1) % 5]))else none
def qch(l:List Nat)(r:Nat→Nat→SV):Prop:=∀i,i<l.length→r i 0=Ψ (Φ Γ (l.getD i 0:Nat))
def stB(tb oid byid N start:Nat)(H:List (Nat×Blk))(id c at':Nat)(acc:List Nat)(r:Nat→Nat→SV):St:=
 match acc with
 |[]=>⟨[(0,.ptr tb 0),(1,.vec byid N 1),(2,Ψ (Φ Γ (start:Nat))),(7,.val (.slice none 0 0)),(8,Ψ (Φ Γ (at':Nat)))],H,id+10+50*c⟩
 |_ :: l=>⟨[(0,.ptr tb 0),(1,.vec byid N 1),(2,Ψ (Φ Γ (start:Nat))),(7,.vec oid (l.length+1) 1),(8,Ψ (Φ Γ (at':Nat)))],(oid,.rows 3 1 (l.length+1) r) :: H,id+10+50*c⟩
theorem qrm(H:List (Nat×Blk))(id tb byid N start fuel:Nat)(by':Nat→Nat)(row:Nat→Nat→SV)(res0:List Nat)(hN:N≤100000)(hU:Under H id)(hfu:fuel≤100000)(hs:start<N)(hby:byid<id)
  (hb:blk H byid=some (.rows 3 1 N row)) (hrow:∀i,i<N→row i 0=Ψ (Φ Γ (by' i:Nat))) (hB:∀i,i<N→by' i≤1000000) (hF:Vp by' N start fuel start []=some res0) :
  EffVC Tryz.prog 164 [.ptr tb 0,.vec byid N 1,Ψ (Φ Γ (start:Nat))] H id (λhp' nid' res=>nid'≤id+100*(fuel+2)∧∃rid r,id≤rid∧rid<nid'∧0<res0.length∧qch res0.reverse r∧hp'=(rid,.rows 3 1 res0.length r) :: H∧res=.vec rid res0.length 1):=by
 refine vu follows Tryz.func164 rfl Ωb Ωb (by rw[Tryz.ntmps164];simp) λout=>?_;have NB:True:=trivial;(repeat' first|refine sD ?_ ?_<;>intro _|refine aAa ?_|simp -dsimp only[↓RP,RQ,seval,NB,QÀ,qR]);refine qp (λ(z:Nat×Nat×Nat×List Nat×Nat×(Nat→Nat→SV))=>z.1+z.2.1=fuel∧Vp by' N start z.1 z.2.2.1 z.2.2.2.1=some res0∧qch z.2.2.2.1 z.2.2.2.2.2∧z.2.2.2.1.length≤z.2.1∧(z.2.2.2.1≠[]→id≤z.2.2.2.2.1∧z.2.2.2.2.1<id+10+50*z.2.1)) (λz=>stB tb z.2.2.2.2.1 byid N start H id z.2.1 z.2.2.1 z.2.2.2.1 z.2.2.2.2.2) (λz=>z.1) (fuel,0,start,[],0,λ_ _=>.top) ⟨by simp only[];omega,hF,λi hi=>(by cases hi),xa5 _,λh=>absurd rfl h⟩ (weakSU Ω Ωd (SubHp.refl _)) λz hz=>?_;obtain⟨f,c,at',acc,oid,r⟩:=z;obtain⟨z1,z2,z3,z4,z5⟩:=hz;simp only[]at z1 z2 z3 z4 z5;cases f with
 |zero=>cases z2
 |succ f=>
 simp only[Vp]at z2;split at z2
 case isFalse=>cases z2
 rename_i hpos;obtain⟨hp1,hp2⟩:=hpos;have hr0:=hrow at' hp2;have hB0:=hB at' hp2;obtain⟨n,hn⟩:∃n,n=id+10+50*c:=⟨_,rfl⟩;obtain⟨b,hbn⟩:∃b,by' at'=b+1:=⟨by' at' - 1,Ω⟩
 rw[hbn]at hr0 z2;rw[Nat.add_sub_cancel]at z2;have m1:((b+1:Nat):Int) - 1=(b:Nat):=by omega
 have m2:((b:Nat):Int).tmod 5=((b % 5:Nat):Int):=rfl;have m3:((b:Nat):Int).tdiv 5=((b / 5:Nat):Int):=rfl;have hq:b / 5≤b:=Nat.div_le_self _ _;have hq5:b % 5<5:=Nat.mod_lt _ Ωq;clear NB;have hbid:=hU _ _ hb;have NB:=(⟨nmA (Ω:byid<n),nmA (Ω:byid<id)⟩:_∧_);cases acc with
 |nil=>
  have hnr:qch ([b % 5]) (λi j=>[Ψ (Φ Γ ((b % 5:Nat):Int))].getD (i+j) SV.top):=by
   intro i hi
   simp_all
  skip
  simp only[stB];rw[←hn];by_cases he:b / 5=start
  ·rw[if_pos he]at z2
   have he1:=decide_eq_true (Ω:((b / 5:Nat):Int)=(start:Nat));repeat' first|refine sD ?_ ?_<;>intro _|refine aAa ?_|simp -dsimp only[↓RP,RQ,seval,he1,hb,hr0,m1,m2,m3,NB,QÀ,qR]
   skip
   have hl:res0=[b % 5]:=(Option.some.inj z2).symm;have hlen:res0.length=1:=by rw[hl];simp
   refine gG Ωr (qqo _ _ (n+8) 1 (λi j=>[Ψ (Φ Γ ((b % 5:Nat):Int))].getD (i+j) SV.top) Ω Ω ΩS (λi hi=>⟨_,hnr i (by simp<;>omega)⟩)) λhp' n3 res hQ=>?_;obtain⟨q1,q2,rfl,r3,q3,rfl⟩:=hQ;(repeat' first|refine sD ?_ ?_<;>intro _|refine aAa ?_|simp -dsimp only[↓RP,RQ,seval,setBlk,hb,hr0,m1,m2,m3,NB,QÀ,qR]);refine⟨_,_,_,weakSU (nid':=id+100*(fuel+2)) Ω (fr':=[(0,_)]) ⟨.inr rfl,trivial⟩ (SubHp.cons (SubHp.skip (hU.none Ω) (SubHp.refl _))),Ω,n+8,r3,Ω,Ω,by rw[hlen];omega,λi hi=>?_,by rw[hlen],by rw[hlen];rfl⟩
   simp_all
  ·rw[if_neg he]at z2
   have he1:=decide_eq_false (Ω:¬((b / 5:Nat):Int)=(start:Nat));repeat' first|refine sD ?_ ?_<;>intro _|refine aAa ?_|simp -dsimp only[↓RP,RQ,seval,he1,hb,hr0,m1,m2,m3,NB,QÀ,qR]
   skip
   refine⟨(f,c+1,b / 5,[b % 5],n+8,(λi j=>[Ψ (Φ Γ ((b % 5:Nat):Int))].getD (i+j) SV.top)),⟨by simp only[];omega,z2,hnr,Ωg,λ_=>by simp only[];omega⟩,by simp only[];omega,?_⟩;simp only[stB];exact weakSU Ω Ωd (SubHp.cons (SubHp.skip (hU.none Ω) (SubHp.refl _)))
 |cons x l=>
  have hnr:qch (x ::(l++[b % 5])) (λi j=>if i<l.length+1 then r i j else [Ψ (Φ Γ ((b % 5:Nat):Int))].getD (i -(l.length+1)+j) SV.top):=by
   intro i hi;rw[xe4,xc8,xd1]at hi;by_cases hc:i<l.length+1
   ·show(if i<l.length+1 then r i 0 else _)=_
    rw[if_pos hc,z3 i hc]
    grind
   ·grind
  have⟨z6,z7⟩:=z5 Ωg;rw[←hn]at z7;rw[xe4]at z4;have NO:=(⟨nmE (Ω:oid≠byid),nmA z7⟩:_∧_);have hdr:dropBlk H oid=H:=zg (hU.none z6);simp only[stB];rw[←hn];by_cases he:b / 5=start
  ·rw[if_pos he]at z2
   have he1:=decide_eq_true (Ω:((b / 5:Nat):Int)=(start:Nat));repeat' first|refine sD ?_ ?_<;>intro _|refine aAa ?_|simp -dsimp only[↓RP,RQ,seval,he1,hb,hr0,m1,m2,m3,NO,hdr,NB,QÀ,qR]
   skip
   have hl:res0=x ::(l++[b % 5]):=(Option.some.inj z2).symm;have hlen:res0.length=(l.length+2):=by rw[hl];simp
   refine gG Ωr (qqo _ _ (n+8) (l.length+2) (λi j=>if i<l.length+1 then r i j else [Ψ (Φ Γ ((b % 5:Nat):Int))].getD (i -(l.length+1)+j) SV.top) Ω Ω ΩS (λi hi=>⟨_,hnr i (by simp<;>omega)⟩)) λhp' n3 res hQ=>?_;obtain⟨q1,q2,rfl,r3,q3,rfl⟩:=hQ;(repeat' first|refine sD ?_ ?_<;>intro _|refine aAa ?_|simp -dsimp only[↓RP,RQ,seval,setBlk,hb,hr0,m1,m2,m3,NO,hdr,NB,QÀ,qR]);refine⟨_,_,_,weakSU (nid':=id+100*(fuel+2)) Ω (fr':=[(0,_)]) ⟨.inr rfl,trivial⟩ (SubHp.cons (SubHp.skip (hU.none Ω) (SubHp.refl _))),Ω,n+8,r3,Ω,Ω,by rw[hlen];omega,λi hi=>?_,by rw[hlen],by rw[hlen];rfl⟩;rw[List.length_reverse]at hi;have hi':i<(l.length+2):=by omega
   rw[q3 i hi'];have e2:=hnr ((l.length+2) - 1 - i) (by simp<;>omega);rw[hl];have e3:(x ::(l++[b % 5])).reverse.getD i 0=(x ::(l++[b % 5])).getD ((l.length+2) - 1 - i) 0:=by
    rw[xc6,xc6,List.getElem?_reverse (by simp<;>omega)];rw[show(x ::(l++[b % 5])).length=l.length+2 by simp]
   rw[e3];exact e2
  ·rw[if_neg he]at z2
   have he1:=decide_eq_false (Ω:¬((b / 5:Nat):Int)=(start:Nat));repeat' first|refine sD ?_ ?_<;>intro _|refine aAa ?_|simp -dsimp only[↓RP,RQ,seval,he1,hb,hr0,m1,m2,m3,NO,hdr,NB,QÀ,qR]
   skip
   refine⟨(f,c+1,b / 5,x ::(l++[b % 5]),n+8,(λi j=>if i<l.length+1 then r i j else [Ψ (Φ Γ ((b % 5:Nat):Int))].getD (i -(l.length+1)+j) SV.top)),⟨by simp only[];omega,z2,hnr,Ωj,λ_=>by simp only[];omega⟩,by simp only[];omega,?_⟩;simp only[stB,xc8,xd1];exact weakSU Ω Ωd (SubHp.cons (SubHp.skip (hU.none Ω) (SubHp.refl _)))
end Go.Tn
end
section
namespace Go.Tn
open Go.Proofs
open Go.Sx
def stL(s:Nat→Int):List SV:=[Ψ (Φ Γ (s 0)),Ψ (Φ Γ (s 1)),Ψ (Φ Γ (s 2)),Ψ (Φ Γ (s 3)),Ψ (Φ Γ (s 4))]
theorem WB{s:Nat→Int}{k:Nat}(h:k<5):(stL s)[k]? = some (Ψ (Φ Γ (s k))):=by
 have:k=0∨k=1∨k=2∨k=3∨k=4:=by omega
 rcases this with rfl|rfl|rfl|rfl|rfl<;>rfl
theorem qdV(s:Nat→Int):(stL s).length=5:=rfl
def ixF(u s:Nat→Int):Nat→Int
 |0=>0
 |k+1=>ixF u s k*(u k+1)+s k
theorem qag(u s:Nat→Int)(k:Nat):ixF u s (k+1)=ixF u s k*(u k+1)+s k:=rfl
theorem ZZ{u s:Nat→Int}{m:Nat}(h:∀i,i<m→0≤s i∧s i≤u i):∀{k},k≤m→0≤ixF u s k∧ixF u s k<prd u k
 |0,_=>⟨Int.le_refl _,Int.one_pos⟩
 |k+1,hk=>by
  have⟨h1,h2⟩:=ZZ h (k:=k) Ω;have⟨h3,h4⟩:=h k Ω;rw[qag,qqd];constructor
  ·have:=Int.mul_nonneg h1 (Ω:(0:Int)≤u k+1);omega
  ·have h5:(ixF u s k+1)*(u k+1)≤prd u k*(u k+1):=Int.mul_le_mul_of_nonneg_right Ω Ω
   rw[Int.add_mul]at h5;omega
theorem qqp(H:List (Nat×Blk))(id tb m:Nat)(u s:Nat→Int)(tix:Nat)(tr:Nat→Nat→SV)(hti:tix<id)(hN0:blk H id=none)(ht:blk H tix=some (.rows 3 1 m tr))(htu:∀i,i<m→tr i 0=Ψ (Φ Γ (u i)))(Z1 Z2 Z3 Z4:SV)(hm:m≤5)(hu:∀i,i<m→1≤u i∧u i≤12)(hs:∀i,i<m→0≤s i∧s i≤u i)
  (hid:tb<id) (hb:blk H tb=some (.cells 253 [.vec tix m 1,Z1,Z2,Z3,Z4])) :
  EffVC Tryz.prog 162 [.ptr tb 0,.agg (stL s)] H id (λhp' nid' res=>hp'=H∧nid'=id+200∧res=I (ixF u s m)):=by
 refine vu follows Tryz.func162 rfl Ωb Ωb (by rw[Tryz.ntmps162];simp) λout=>?_;have NB:True:=trivial;have hlen:(stL s).length=5:=rfl;have hT:=ht;have NB:=(⟨nmA hid,nmE (Ω:id≠tb)⟩:_∧_);(repeat' first|refine sD ?_ ?_<;>intro _|refine aAb ?_|simp -dsimp only[↓RP,RQ,seval,NB,hb,hT,hlen,QÀ]);refine qp (λ(k:Nat)=>k≤m) (λk=>⟨[(0,.ptr tb 0),(3,.ptr id 0),(5,Ψ (Φ Γ (ixF u s k))),(12,.vec tix m 1),(13,Ψ (Φ Γ (m:Nat))),(14,Ψ (Φ Γ (k:Nat)))],(id,.cells 140 (stL s)) :: H,id+20+30*k⟩) (λk=>m - k) 0 (xb6 _) (weakSU Ω (by simp[qQ,Go.Sx.look,ixF]) (SubHp.refl _)) λk hk=>?_;by_cases hkm:k<m
 ·have hlt:=decide_eq_true (Ω:((k:Nat):Int)<(m:Nat))
  have hsk:=WB (s:=s) (k:=k) Ω;have⟨b1,b2⟩:=ZZ hs hk;have⟨b3,b4⟩:=ZZ hs (k:=k+1) hkm;have b5:=qdn hu hm hk;have b6:=qdn hu hm (k:=k+1) hkm;have b7:=hu k hkm;have b8:=hs k hkm;have b9:0≤ixF u s k*(u k+1):=Int.mul_nonneg b1 Ω;rw[qag]at b3 b4;have htk:=htu k hkm;have NX:=(⟨nmA hti,nmE (Ω:tix≠id)⟩:_∧_);(repeat' first|refine sD ?_ ?_<;>intro _|refine aAb ?_|simp -dsimp only[↓RP,RQ,seval,NB,hlt,NX,htk,hb,hT,hlen,QÀ]);refine⟨_,hsk,?_⟩;(repeat' first|refine sD ?_ ?_<;>intro _|refine aAb ?_|simp -dsimp only[↓RP,RQ,seval,NB,hlt,NX,htk,hb,hT,hlen,QÀ]);refine⟨k+1,hkm,Ω,weakSU Ω (by simp[qQ,Go.Sx.look,qag]) (SubHp.refl _)⟩
 ·obtain rfl:k=m:=by omega
  have hlt:=decide_eq_false (Ω:¬((k:Nat):Int)<(k:Nat));(repeat' first|refine sD ?_ ?_<;>intro _|refine aAb ?_|simp -dsimp only[↓RP,RQ,seval,NB,hlt,hb,hT,hlen,QÀ]);exact⟨_,_,_,weakSU (nid':=id+200) Ω (fr':=[(0,_)]) ⟨.inr rfl,trivial⟩ (SubHp.skip hN0 (SubHp.refl _)),rfl,rfl,rfl⟩
theorem qqq(H:List (Nat×Blk))(id tb m:Nat)(u s:Nat→Int)(o full:Bool)(row:Nat→Nat→SV)(hN0:blk H id=none)(htu:∀i,i<m→row i 0=Ψ (Φ Γ (u i)))(Z1 Z2 Z3 Z4:SV)(hm:m≤5)(hu:∀i,i<m→1≤u i∧u i≤12)(hs:∀i,i<m→0≤s i∧s i≤u i)
  (hid:tb<id) (hb:blk H tb=some (.cells 253 [.arr o full m 1 row,Z1,Z2,Z3,Z4])) :
  EffVC Tryz.prog 162 [.ptr tb 0,.agg (stL s)] H id (λhp' nid' res=>hp'=H∧nid'=id+200∧res=I (ixF u s m)):=by
 refine vu follows Tryz.func162 rfl Ωb Ωb (by rw[Tryz.ntmps162];simp) λout=>?_;have NB:True:=trivial;have hlen:(stL s).length=5:=rfl;have hT:True:=trivial;have NB:=(⟨nmA hid,nmE (Ω:id≠tb)⟩:_∧_);(repeat' first|refine sD ?_ ?_<;>intro _|refine aAb ?_|simp -dsimp only[↓RP,RQ,seval,NB,hb,hT,hlen,QÀ]);refine qp (λ(k:Nat)=>k≤m) (λk=>⟨[(0,.ptr tb 0),(3,.ptr id 0),(5,Ψ (Φ Γ (ixF u s k))),(12,.arr o full m 1 row),(13,Ψ (Φ Γ (m:Nat))),(14,Ψ (Φ Γ (k:Nat)))],(id,.cells 140 (stL s)) :: H,id+20+30*k⟩) (λk=>m - k) 0 (xb6 _) (weakSU Ω (by simp[qQ,Go.Sx.look,ixF]) (SubHp.refl _)) λk hk=>?_;by_cases hkm:k<m
 ·have hlt:=decide_eq_true (Ω:((k:Nat):Int)<(m:Nat))
  have hsk:=WB (s:=s) (k:=k) Ω;have⟨b1,b2⟩:=ZZ hs hk;have⟨b3,b4⟩:=ZZ hs (k:=k+1) hkm;have b5:=qdn hu hm hk;have b6:=qdn hu hm (k:=k+1) hkm;have b7:=hu k hkm;have b8:=hs k hkm;have b9:0≤ixF u s k*(u k+1):=Int.mul_nonneg b1 Ω;rw[qag]at b3 b4;have htk:=htu k hkm;(repeat' first|refine sD ?_ ?_<;>intro _|refine aAb ?_|simp -dsimp only[↓RP,RQ,seval,NB,hlt,htk,hb,hT,hlen,QÀ]);refine⟨_,hsk,?_⟩;(repeat' first|refine sD ?_ ?_<;>intro _|refine aAb ?_|simp -dsimp only[↓RP,RQ,seval,NB,hlt,htk,hb,hT,hlen,QÀ]);refine⟨k+1,hkm,Ω,weakSU Ω (by simp[qQ,Go.Sx.look,qag]) (SubHp.refl _)⟩
 ·obtain rfl:k=m:=by omega
  have hlt:=decide_eq_false (Ω:¬((k:Nat):Int)<(k:Nat));(repeat' first|refine sD ?_ ?_<;>intro _|refine aAb ?_|simp -dsimp only[↓RP,RQ,seval,NB,hlt,hb,hT,hlen,QÀ]);exact⟨_,_,_,weakSU (nid':=id+200) Ω (fr':=[(0,_)]) ⟨.inr rfl,trivial⟩ (SubHp.skip hN0 (SubHp.refl _)),rfl,rfl,rfl⟩
end Go.Tn
end
section
namespace Go.Tn
open Go.Proofs
open Go.Sx
theorem qah(s:Nat→Int):List.take 5 (stL s)=stL s:=rfl
end Go.Tn
end
section
namespace Go.Tn
open Go.Proofs
open Go.Sx
end Go.Tn
end
section
namespace Go.Tn
open Go.Proofs
open Go.Sx
theorem TYP:True∧qn Tryz.prog 2=some ⟨false,1,some [Φ Γ 0],.int .i64⟩∧qn Tryz.prog 3=some ⟨false,1,some [Φ Γ 0],.int .i64⟩∧qn Tryz.prog 4=some ⟨false,1,some [.bool false],.bool⟩∧qn Tryz.prog 5=some ⟨false,1,some [.int .u8 0],.int .u8⟩∧qn Tryz.prog 22=some ⟨false,1,some [.slice none 0 0],.slice 3 1⟩∧qn Tryz.prog 25=some ⟨false,1,some [.slice none 0 0],.slice 5 1⟩∧qn Tryz.prog 28=some ⟨false,1,some [Φ Γ 0],.int .i64⟩∧qn Tryz.prog 45=some ⟨false,1,some [.slice none 0 0],.slice 49 2⟩∧qn Tryz.prog 46=some ⟨false,1,some [.slice none 0 0],.slice 51 3⟩∧qn Tryz.prog 48=some ⟨true,8,some [Φ Γ 0,Φ Γ 0,.slice none 0 0,.slice none 0 0,.bool false,Φ Γ 0,Φ Γ 0,Φ Γ 0],.struct [(0,1,some false),(1,1,some false),(2,1,some false),(3,1,some false),(4,1,some false),(5,1,some false),(6,1,some false),(7,1,some false)]⟩∧qt Tryz.prog 48=some [(0,1),(1,1),(2,1),(3,1),(4,1),(5,1),(6,1),(7,1)]∧qn Tryz.prog 49=some ⟨true,2,some [.int .u8 0,.int .u8 0],.array 2 5 1⟩∧qt Tryz.prog 49=some [(0,1),(1,1)]∧qW Tryz.prog 49=some [.i .u8,.i .u8]∧qn Tryz.prog 51=some ⟨true,3,some [Φ Γ 0,Φ Γ 0,Φ Γ 0],.struct [(0,1,some false),(1,1,some false),(2,1,some false)]⟩∧qt Tryz.prog 51=some [(0,1),(1,1),(2,1)]∧qW Tryz.prog 51=some [.i .i64,.i .i64,.i .i64]∧qn Tryz.prog 55=some ⟨true,2,some [Φ Γ 0,Φ Γ 0],.array 2 3 1⟩∧qt Tryz.prog 55=some [(0,1),(1,1)]∧qW Tryz.prog 55=some [.i .i64,.i .i64]∧qn Tryz.prog 57=some ⟨true,6,some [Φ Γ 0,Φ Γ 0,Φ Γ 0,Φ Γ 0,Φ Γ 0,Φ Γ 0],.struct [(0,1,some false),(1,1,some false),(2,1,some false),(3,1,some false),(4,1,some false),(5,1,some false)]⟩∧qt Tryz.prog 57=some [(0,1),(1,1),(2,1),(3,1),(4,1),(5,1)]∧qW Tryz.prog 57=some [.i .i64,.i .i64,.i .i64,.i .i64,.i .i64,.i .i64]∧qn Tryz.prog 60=some ⟨false,1,some [.slice none 0 0],.slice 22 1⟩∧qF Tryz.prog 46=24∧qF Tryz.prog 48=96∧qF Tryz.prog 51=24∧qF Tryz.prog 55=16:=⟨trivial,Ωb,Ωb,Ωb,Ωb,Ωb,Ωb,Ωb,Ωb,Ωb,Ωb,Ωb,Ωb,Ωb,Ωb,Ωb,Ωb,Ωb,Ωb,Ωb,Ωb,Ωb,Ωb,Ωb,Ωb,Ωb,Ωb,Ωb,Ωb⟩
def za(nb:Nat)(f g q:Nat→Int):SV:=.arr false false nb 3 (λi j=>[Ψ (Φ Γ (f i)),Ψ (Φ Γ (g i)),Ψ (Φ Γ (q i))].getD j .top)
def vM(a b c:Int):SV:=.agg [Ψ (Φ Γ a),Ψ (Φ Γ b),Ψ (Φ Γ c)]
def bkS(n:Int)(nb:Nat)(f g q:Nat→Int)(fav:Bool)(c d st:Int):SV:=.agg [Ψ (Φ Γ 0),Ψ (Φ Γ n),za nb f g q,.val (.slice none 0 0),.val (.bool fav),Ψ (Φ Γ c),Ψ (Φ Γ d),Ψ (Φ Γ st)]
theorem zy(nb:Nat)(f g q:Nat→Int):Old (za nb f g q):=by
 simp only[za,Old];refine⟨trivial,λi j hi hj=>?_⟩;have:j=0∨j=1∨j=2:=by omega
 rcases this with rfl|rfl|rfl<;>simp[Old]
theorem jf(n:Int)(nb:Nat)(f g q:Nat→Int)(fav:Bool)(c d st:Int):Old (bkS n nb f g q fav c d st):=by
 simp only[bkS,Old,OldL];exact⟨trivial,trivial,zy _ _ _ _,trivial,trivial,trivial,trivial,trivial,trivial⟩
theorem qai(a b c:Int):Old (vM a b c):=by simp[vM,Old,OldL]
def okB(n a b c:Int):Prop:=(1≤c∧c≤1000)∧(0≤a∧a<n)∧b = -1
instance(n a b c:Int):Decidable (okB n a b c):=inferInstanceAs (Decidable (_∧_∧_))
def qgm(n c d st:Int):Prop:=(2≤n∧n≤8)∧(0≤c∧c≤1000000)∧(0≤d∧d≤500)∧1≤st∧st≤100
instance(n c d st:Int):Decidable (qgm n c d st):=inferInstanceAs (Decidable (_∧_∧_∧_∧_))
def ckB(n:Int)(nb:Nat)(f g q:Nat→Int)(c d st:Int):Int:=if ¬qgm n c d st then 3 else if 100<nb then 6 else if ¬(∀i,i<nb→okB n (f i) (g i) (q i))then 16 else 0
theorem ckB_ok{n:Int}{nb:Nat}{f g q:Nat→Int}{c d st:Int}:ckB n nb f g q c d st=0↔qgm n c d st∧nb≤100∧∀i,i<nb→okB n (f i) (g i) (q i):=by
 unfold ckB;by_cases h1:qgm n c d st
 ·rw[if_neg (λh=>h h1)]
  by_cases h2:100<nb
  ·rw[if_pos h2]
   exact⟨λh=>by omega,λh=>by omega⟩
  ·rw[if_neg h2]
   by_cases h3:∀i,i<nb→okB n (f i) (g i) (q i)
   ·rw[if_neg (λh=>h h3)]
    exact⟨λ_=>⟨h1,Ω,h3⟩,λ_=>rfl⟩
   ·rw[if_pos h3]
    exact⟨λh=>by omega,λh=>absurd h.2.2 h3⟩
 ·rw[if_pos h1]
  exact⟨λh=>by omega,λh=>absurd h.1 h1⟩
theorem c24(a b c:Int):qf Tryz.prog 24 [I a,I b,I c] (vM a b c):=by
 refine qg Tryz.func24 rfl Ωb follows Ωb _ _ (by rw[Tryz.ntmps24];simp) Ωf ?_;unfold I vM;repeat' first|refine sD ?_ ?_<;>intro _|refine aAb ?_|simp -dsimp only[↓RP,RQ,seval,TYP,QU]
theorem qlU(x:Int):qf Tryz.prog 94 [.val (.slice none 0 0),I x] (B false):=by
 refine qg Tryz.func94 rfl Ωb follows Ωb _ _ (by rw[Tryz.ntmps94];simp) Ωf ?_;unfold I B;(repeat' first|refine sD ?_ ?_<;>intro _|refine aAb ?_|simp -dsimp only[↓RP,RQ,seval,TYP,QU]);refine qp (λ(_:Unit)=>True) (λ_=>⟨[(0,.val (.slice none 0 0)),(5,Ψ (Φ Γ 0))],[],10⟩) (λ_=>0) () trivial (weakSU Ω Ωd (SubHp.refl _)) λz hz=>?_;repeat' first|refine sD ?_ ?_<;>intro _|refine aAb ?_|simp -dsimp only[↓RP,RQ,seval,TYP,QU]
 all_goals try exact ΩB
theorem qrn  : qf Tryz.prog 182 [Ψ (Φ Γ 0)] (B true):=by
 refine qg Tryz.func182 rfl Ωb follows Ωb _ _ (by rw[Tryz.ntmps182];simp) Ωf ?_;unfold B;repeat' first|refine sD ?_ ?_<;>intro _|refine aAb ?_|simp -dsimp only[↓RP,RQ,seval,TYP,QU]
theorem c90(n:Int)(nb:Nat)(f g q:Nat→Int)(fav:Bool)(c d st:Int)(x y z:Int):qf Tryz.prog 90 [bkS n nb f g q fav c d st,vM x y z] (B (decide (okB n x y z))):=by
 refine qg Tryz.func90 rfl Ωb follows Ωb _ _ (by rw[Tryz.ntmps90];simp) Ωf ?_;have h1:=qrn;unfold bkS vM B za;by_cases g1:(1≤z∧z≤1000)∧(0≤x∧x<n)
 ·have d1:=decide_eq_false (Ω:¬z<1)
  have d2:=decide_eq_false (Ω:¬1000<z);have d3:=decide_eq_false (Ω:¬x<0);have d4:=decide_eq_false (Ω:¬n≤x);(repeat' first|refine sD ?_ ?_<;>intro _|refine aAb ?_|simp -dsimp only[↓RP,RQ,seval,d1,d2,d3,d4,TYP,QU]);refine qk (h1) Ωe Ωa ?_;(repeat' first|refine sD ?_ ?_<;>intro _|refine aAb ?_|simp -dsimp only[↓RP,RQ,seval,QU,TYP]);refine wL ?_;unfold okB;simp[g1]
 ·repeat' first|refine sD ?_ ?_<;>intro _|refine aAb ?_|simp -dsimp only[↓RP,RQ,seval,TYP,QU]
  all_goals try exact ΩB
  all_goals exact wL (by rw[decide_eq_false];exact λh=>g1 ⟨h.1,h.2.1⟩)
theorem c25(n:Int)(nb:Nat)(f g q:Nat→Int)(fav:Bool)(c d st:Int)(hnb:nb≤1000000):qf Tryz.prog 25 [bkS n nb f g q fav c d st] (I (ckB n nb f g q c d st)):=by
 refine qg Tryz.func25 rfl Ωb follows Ωb _ _ (by rw[Tryz.ntmps25];simp) Ωf ?_;have NB:True:=trivial;unfold bkS I;by_cases g1:qgm n c d st
 ·have⟨⟨a1,a2⟩,⟨a3,a4⟩,⟨a5,a6⟩,a7,a8⟩:=g1
  have d1:=decide_eq_false (Ω:¬n<2);have d2:=decide_eq_false (Ω:¬8<n);have d3:=decide_eq_false (Ω:¬c<0);have d4:=decide_eq_false (Ω:¬1000000<c);have d5:=decide_eq_false (Ω:¬d<0);have d6:=decide_eq_false (Ω:¬500<d);have d7:=decide_eq_false (Ω:¬st<1);have d8:=decide_eq_false (Ω:¬100<st);have z0:=decide_eq_false (Ω:¬(0:Int)<0);have z3:=decide_eq_false (Ω:¬(3:Int)<0);have NB:=(⟨d1,d2,d3,d4,d5,d6,d7,d8,z0,z3⟩:_∧_∧_∧_∧_∧_∧_∧_∧_∧_);by_cases g2:100<nb
  ·have e1:=decide_eq_true (Ω:(100:Int)<(nb:Nat))
   (repeat' first|refine sD ?_ ?_<;>intro _|refine aAb ?_|simp -dsimp only[↓RP,RQ,seval,za,e1,TYP,NB,QÁ]);refine ya ?_;unfold ckB;rw[if_neg (λh=>h g1),if_pos g2]
  ·have e1:=decide_eq_false (Ω:¬(100:Int)<(nb:Nat))
   (repeat' first|refine sD ?_ ?_<;>intro _|refine aAb ?_|simp -dsimp only[↓RP,RQ,seval,za,e1,TYP,NB,QÁ]);refine qp (λ(w:Nat)=>w≤nb∧∀i,i<w→okB n (f i) (g i) (q i)) (λw=>⟨[(1,.ptr 0 0),(3,Ψ (Φ Γ (w:Nat)))],[(0,.cells 48 [Ψ (Φ Γ 0),Ψ (Φ Γ n),za nb f g q,.val (.slice none 0 0),.val (.bool fav),Ψ (Φ Γ c),Ψ (Φ Γ d),Ψ (Φ Γ st)])],200+40*w⟩) (λw=>nb - w) 0 ⟨xb6 _,λi hi=>by omega⟩ (weakSU Ω Ωd (SubHp.refl _)) λw hw=>?_;obtain⟨hw,hk⟩:=hw;by_cases hwm:w<nb
   ·have hlt:=decide_eq_true (Ω:((w:Nat):Int)<(nb:Nat))
    have h90:=c90 n nb f g q fav c d st (f w) (g w) (q w);(repeat' first|refine sD ?_ ?_<;>intro _|refine aAb ?_|simp -dsimp only[↓RP,RQ,seval,za,hlt,TYP,NB,QÁ]);refine qk (h90) ΩD Ωa ?_;by_cases ho:okB n (f w) (g w) (q w)
    ·have e2:=decide_eq_true ho
     (repeat' first|refine sD ?_ ?_<;>intro _|refine aAb ?_|simp -dsimp only[↓RP,RQ,seval,QÁ,e2,TYP,NB]);exact⟨w+1,⟨hwm,λi hi=>(by by_cases e:i=w;(subst e;exact ho);exact hk i Ω)⟩,Ω,weakSU Ω Ωd (SubHp.refl _)⟩
    ·have e2:=decide_eq_false ho
     (repeat' first|refine sD ?_ ?_<;>intro _|refine aAb ?_|simp -dsimp only[↓RP,RQ,seval,QÁ,e2,TYP,NB]);refine ya ?_;unfold ckB;rw[if_neg (λh=>h g1),if_neg g2,if_pos (λh=>ho (h w hwm))]
   ·obtain rfl:nb=w:=by omega
    have hlt:=decide_eq_false (Ω:¬((nb:Nat):Int)<(nb:Nat));have d9:=decide_eq_false (Ω:¬n - 2<(0:Int));(repeat' first|refine sD ?_ ?_<;>intro _|refine aAb ?_|simp -dsimp only[↓RP,RQ,seval,za,hlt,d9,TYP,NB,QÁ]);refine qp (λ(_:Unit)=>True) (λ_=>⟨[(1,.ptr 0 0),(4,Ψ (Φ Γ 0))],[(0,.cells 48 [Ψ (Φ Γ 0),Ψ (Φ Γ n),za nb f g q,.val (.slice none 0 0),.val (.bool fav),Ψ (Φ Γ c),Ψ (Φ Γ d),Ψ (Φ Γ st)])],300+40*nb⟩) (λ_=>0) () trivial (weakSU Ω Ωd (SubHp.refl _)) λz hz=>?_;have d10:=decide_eq_false (Ω:¬(0:Int)<0);(repeat' first|refine sD ?_ ?_<;>intro _|refine aAb ?_|simp -dsimp only[↓RP,RQ,seval,za,d10,TYP,NB,QÁ]);refine ya (ckB_ok.2 ⟨g1,Ω,hk⟩).symm
 ·have z0:=decide_eq_false (Ω:¬(0:Int)<0)
  have z3:=decide_eq_false (Ω:¬(3:Int)<0);repeat' first|refine sD ?_ ?_<;>intro _|refine aAb ?_|simp -dsimp only[↓RP,RQ,seval,za,z0,z3,TYP,NB,QÁ]
  all_goals first|(exfalso;exact g1 ⟨⟨Ω,Ω⟩,⟨Ω,Ω⟩,⟨Ω,Ω⟩,Ω,Ω⟩)|skip
  all_goals refine ya ?_
  all_goals (unfold ckB;rw[if_pos g1])
end Go.Tn
end
section
namespace Go.Tn
open Go.Proofs
open Go.Sx
theorem TYQ:True∧qn Tryz.prog 32=some ⟨false,1,some [.slice none 0 0],.slice 2 1⟩:=⟨trivial,Ωb⟩
theorem qoD{P:SV→Prop}{a0 a1 a2 a3 a4 a5 a6 a7:SV}(h0:P a0)(h1:P a1)(h2:P a2)(h3:P a3)(h4:P a4)(h5:P a5)(h6:P a6)(h7:P a7):∀j,j<8→P ([a0,a1,a2,a3,a4,a5,a6,a7].getD j .top):=by
 intro j hj;have:j=0∨j=1∨j=2∨j=3∨j=4∨j=5∨j=6∨j=7:=by omega
 rcases this with rfl|rfl|rfl|rfl|rfl|rfl|rfl|rfl<;>assumption
def TYz:=An TYQ TYP
theorem qoE(m:Nat)(u:Nat→Int)(g:Nat)(caps:List SV)(ho:OldL caps)(b:Nat→Bool)(hm:m≤1000000)(hg:∀i,i<m→qf Tryz.prog g (Ψ (Φ Γ (u i)) :: caps) (B (b i))):qf Tryz.prog 304 [qE m u,.fn (.func g) [] caps] (I (zK b 0 m)):=by
 refine qg Tryz.func304 rfl Ωb follows Ωb _ _ (by rw[Tryz.ntmps304];simp) ΩR ?_
 conv=>arg 4;unfold qE
 (simp -dsimp only[↓RP,RQ,seval,TYz,TY,Tryz.results304]);refine qp (λi=>i≤m∧zK b 0 m=zK b i (m - i)) (λi=>⟨[(0,.arr false false m 1 (λi _=>Ψ (Φ Γ (u i)))),(1,.fn (.func g) [] caps),(7,Ψ (Φ Γ m)),(8,Ψ (Φ Γ i))],[],0⟩) (λi=>m - i) 0 ⟨xb6 _,rfl⟩ (weak [] [] ?_ ?_ ?_) λi hi=>?_
 ·(simp -dsimp only[↓RP,RQ,seval,QV]);all_goals (try simp[wkL_refl caps ho,QV])
 iterate 2 focus(simp -dsimp only[↓RP,RQ,seval,QV])
 obtain⟨hi,he⟩:=hi;have e1:∀k,m - i=k+1→zK b i (m - i)=if b i=true then(i:Int)else zK b (i+1) k:=λk hk=>by rw[hk];rfl
 repeat' first|refine sD ?_ ?_<;>intro _|refine aA ?_|simp -dsimp only[↓RP,RQ,seval,QU,TYz]
 ·rename_i hlt
  have hlt:i<m:=by omega
  have e2:=e1 (m -(i+1)) Ω;refine qk (hg i hlt) (by(simp -dsimp only[↓RP,RQ,seval,QV,I]);all_goals (try simp[subL_refl caps ho,QV])) Ωi ?_;repeat' first|refine sD ?_ ?_<;>intro _|refine aA ?_|simp -dsimp only[↓RP,RQ,seval,QU,TYz]
  ·rename_i h
   refine ya ?_;rw[he,e2,if_pos h]
  ·rename_i h1
   refine⟨i+1,⟨Ω,?_⟩,Ω,weak [] [] ?_ ?_ ?_⟩
   ·rw[he,e2,if_neg (by simp[h1])]
   ·(simp -dsimp only[↓RP,RQ,seval,QV]);all_goals (try simp[wkL_refl caps ho,QV])
   iterate 2 focus(simp -dsimp only[↓RP,RQ,seval,QV])
 ·rename_i hlt
  refine ya ?_;have:m - i=0:=by omega
  rw[he,this];rfl
theorem qoF(m:Nat)(u:Nat→Int)(g:Nat)(caps:List SV)(ho:OldL caps)(b:Nat→Bool)(hm:m≤1000000)(hg:∀i,i<m→qf Tryz.prog g (Ψ (Φ Γ (u i)) :: caps) (B (b i))):qf Tryz.prog 202 [qE m u,.fn (.func g) [] caps] (B (decide (ZT b m))):=by
 refine qg Tryz.func202 rfl Ωb follows Ωb _ _ (by rw[Tryz.ntmps202];simp) ΩR ?_;(simp -dsimp only[↓RP,RQ,seval,TY,QV,QN]);refine qk (qoE m u g caps ho b hm hg) (by(simp -dsimp only[↓RP,RQ,seval,QV,qE]);all_goals (try simp[subL_refl caps ho,QV])) Ωk ?_;(repeat' (first|refine sD ?_ ?_<;>intro _|refine aA ?_|simp -dsimp only[↓RP,RQ,seval,I,B,QV,TYz,TY,QN]));refine wL ?_;rw[Bool.eq_iff_iff];simp[←Q6]
theorem qro(n lo hi:Int):qf Tryz.prog 356 (Ψ (Φ Γ n) :: jp lo hi) (B (decide (n<lo) || decide (hi<n))):=by
 refine qg Tryz.func356 rfl Ωb follows Ωb _ _ (by rw[Tryz.ntmps356];simp[jp]) (by simp[OldL,Old,jp]) ?_;unfold jp B;(repeat' (first|refine sD ?_ ?_<;>intro _|refine aA ?_|simp -dsimp only[↓RP,RQ,seval,TYQ,TY,Tryz.results356]))
 all_goals (refine wL ?_;rw[Bool.eq_iff_iff];simp;omega)
theorem qgn(x lo hi:Int):qf Tryz.prog 286 [I lo,I hi,qE 1 (λ_=>x)] (B (decide (lo≤x∧x≤hi))):=by
 refine qg Tryz.func286 rfl Ωb follows Ωb _ _ (by rw[Tryz.ntmps286];simp) Ωf ?_;unfold I B;(simp -dsimp only[↓RP,RQ,seval,TYQ,TY,Tryz.results286]);refine qk (qoF 1 (λ_=>x) 356 (jp lo hi) (YS lo hi) (λi=>decide (x<lo) || decide (hi<x)) Ω λi _=>qro x lo hi) (by(simp -dsimp only[↓RP,RQ,seval,QV,qE,jp,I]);all_goals (try simp[jp,qE])) Ωi ?_;(repeat' (first|refine sD ?_ ?_<;>intro _|refine aA ?_|simp -dsimp only[↓RP,RQ,seval,B,TYQ,TY,Tryz.results286]));refine wL ?_;rw[Bool.eq_iff_iff];have:=yJ (λ_=>x) 1 lo hi;rw[qlA]at this;by_cases h:lo≤x∧x≤hi
 ·have h':¬ZT (λi=>decide (x<lo) || decide (hi<x)) 1:=λy=>this.1 y h
  rw[decide_eq_true h,decide_eq_false h'];simp
 ·rw[decide_eq_false h,decide_eq_true (this.2 h)];simp
def yk(n:Int)(nb:Nat)(f g q:Nat→Int)(fav:Bool)(c d st:Int):List SV:=[.ref false 8 (λj=>[Ψ (Φ Γ 0),Ψ (Φ Γ n),za nb f g q,.val (.slice none 0 0),.val (.bool fav),Ψ (Φ Γ c),Ψ (Φ Γ d),Ψ (Φ Γ st)].getD j .top)]
theorem yl(n:Int)(nb:Nat)(f g q:Nat→Int)(fav:Bool)(c d st:Int):OldL (yk n nb f g q fav c d st):=by
 simp only[yk,OldL,Old,and_true];refine⟨trivial,λj hj=>?_⟩;have:=zy nb f g q;have:j=0∨j=1∨j=2∨j=3∨j=4∨j=5∨j=6∨j=7:=by omega
 rcases this with rfl|rfl|rfl|rfl|rfl|rfl|rfl|rfl<;>simp_all [Old]
theorem qrp(r:Int)(n:Int)(nb:Nat)(f g q:Nat→Int)(fav:Bool)(c d st:Int):qf Tryz.prog 350 (Ψ (Φ Γ r) :: yk n nb f g q fav c d st) (B (decide (r<0) || decide (n≤r))):=by
 refine qg Tryz.func350 rfl Ωb follows Ωb _ _ (by rw[Tryz.ntmps350];simp[yk]) (by simp only[OldL,Old,true_and];exact yl _ _ _ _ _ _ _ _ _) ?_;unfold yk B;(repeat' (first|refine sD ?_ ?_<;>intro _|refine aA ?_|simp -dsimp only[↓RP,RQ,seval,TYz,TY,Tryz.results350]))
 all_goals (refine wL ?_;rw[Bool.eq_iff_iff];simp;omega)
theorem qrq(x:Int)(n:Int)(nb:Nat)(f g q:Nat→Int)(fav:Bool)(c d st:Int):qf Tryz.prog 272 [bkS n nb f g q fav c d st,qE 1 (λ_=>x)] (B (decide (0≤x∧x<n))):=by
 refine qg Tryz.func272 rfl Ωb follows Ωb _ _ (by rw[Tryz.ntmps272];simp) Ωf ?_;unfold bkS B;(simp -dsimp only[↓RP,RQ,seval,TYz,TY,Tryz.results272]);refine qk (qrk 1 (λ_=>x) 350 (yk n nb f g q fav c d st) (yl _ _ _ _ _ _ _ _ _) (λi=>decide (x<0) || decide (n≤x)) Ω λi _=>qrp x n nb f g q fav c d st) (by(simp -dsimp only[↓RP,RQ,seval,QV,qE,yk,I]);all_goals (try simp[yk,qE,Go.Sx.Sub,Go.Sx.SubL]);all_goals (try (intro j hj;refine⟨qoD (P:=λz=>Go.Sx.Sub _ z z) ?_ ?_ ?_ ?_ ?_ ?_ ?_ ?_ j hj,hj⟩<;>first|exact qr _ (zy _ _ _ _)|exact qr _ ΩE))) Ωi ?_;(repeat' (first|refine sD ?_ ?_<;>intro _|refine aA ?_|simp -dsimp only[↓RP,RQ,seval,B,TYz,TY,Tryz.results272]));refine wL ?_;rw[Bool.eq_iff_iff];have hA:ZT (λi=>decide (x<0) || decide (n≤x)) 1↔¬(0≤x∧x<n):=by
  unfold ZT;constructor
  ·rintro⟨i,hi,h⟩;simp at h;omega
  ·intro h;exact⟨0,Ω,Ωj⟩
 by_cases h:0≤x∧x<n
 ·rw[decide_eq_true h,decide_eq_false (λy=>hA.1 y h)];simp
 ·rw[decide_eq_false h,decide_eq_true (hA.2 h)];simp
theorem qoG(n:Int)(nb:Nat)(f g q:Nat→Int)(fav:Bool)(c d st:Int):qf Tryz.prog 257 [bkS n nb f g q fav c d st] (B true):=by
 refine qg Tryz.func257 rfl Ωb follows Ωb _ _ (by rw[Tryz.ntmps257];simp) Ωf ?_;have NB:True:=trivial;unfold bkS B;repeat' first|refine sD ?_ ?_<;>intro _|refine aAb ?_|simp -dsimp only[↓RP,RQ,seval,TYz,NB,QÁ]
theorem qrr(n:Int)(nb:Nat)(f g q:Nat→Int)(fav:Bool)(c d st:Int)(x y z:Int)(h:okB n x y z):qf Tryz.prog 289 [bkS n nb f g q fav c d st,vM x y z] (B false):=by
 refine qg Tryz.func289 rfl Ωb follows Ωb _ _ (by rw[Tryz.ntmps289];simp) Ωf ?_;have NB:True:=trivial;obtain⟨⟨b1,b2⟩,⟨b3,b4⟩,rfl⟩:=h;have h1:=qgn z 1 1000;rw[decide_eq_true (Ω:1≤z∧z≤1000)]at h1;have h2:=qrq x n nb f g q fav c d st;rw[decide_eq_true (Ω:0≤x∧x<n)]at h2;have h3:=qoG n nb f g q fav c d st;unfold bkS vM B;(repeat' first|refine sD ?_ ?_<;>intro _|refine aAb ?_|simp -dsimp only[↓RP,RQ,seval,TYz,NB,QÁ]);refine qk (h1) Ωe Ωa ?_;(repeat' first|refine sD ?_ ?_<;>intro _|refine aAb ?_|simp -dsimp only[↓RP,RQ,seval,QÁ,TYz,NB]);refine qk (h2) (by simp only[SubL,and_true];refine⟨qr _ (jf _ _ _ _ _ _ _ _ _),?_⟩;(simp -dsimp only[↓RP,RQ,seval,QV,qE,I,B]);all_goals (try simp[QV,Go.Sx.Sub,Go.Sx.SubL])) Ωa ?_;(repeat' first|refine sD ?_ ?_<;>intro _|refine aAb ?_|simp -dsimp only[↓RP,RQ,seval,QÁ,TYz,NB]);refine qk (h3) (by simp only[SubL,and_true];exact qr _ (jf _ _ _ _ _ _ _ _ _)) Ωa ?_;repeat' first|refine sD ?_ ?_<;>intro _|refine aAb ?_|simp -dsimp only[↓RP,RQ,seval,QÁ,TYz,NB]
theorem qrs(n:Int)(nb:Nat)(f g q:Nat→Int)(fav:Bool)(c d st:Int)(x y z:Int)(h:okB n x y z):qf Tryz.prog 288 (vM x y z :: yk n nb f g q fav c d st) (B false):=by
 refine qg Tryz.func288 rfl Ωb follows Ωb _ _ (by rw[Tryz.ntmps288];simp[yk]) (by simp only[OldL];exact⟨qai _ _ _,yl _ _ _ _ _ _ _ _ _⟩) ?_;have NB:True:=trivial;have h1:=qrr n nb f g q fav c d st x y z h;unfold yk vM B;(repeat' first|refine sD ?_ ?_<;>intro _|refine aAb ?_|simp -dsimp only[↓RP,RQ,seval,TYz,NB,QÁ]);refine qk (h1) ΩD Ωa ?_;repeat' first|refine sD ?_ ?_<;>intro _|refine aAb ?_|simp -dsimp only[↓RP,RQ,seval,QÁ,TYz,NB]
theorem qrt(m:Nat)(bf bg bq:Nat→Int)(g:Nat)(caps:List SV)(ho:OldL caps)(b:Nat→Bool)(hm:m≤1000000)(hg:∀i,i<m→qf Tryz.prog g (.agg [Ψ (Φ Γ (bf i)),Ψ (Φ Γ (bg i)),Ψ (Φ Γ (bq i))] :: caps) (B (b i))):qf Tryz.prog 357 [za m bf bg bq,.fn (.func g) [] caps] (I (zK b 0 m)):=by
 refine qg Tryz.func357 rfl Ωb follows Ωb _ _ (by rw[Tryz.ntmps357];simp) (by simp[OldL,Old,QV,qE,I,ho,zy]) ?_
 conv=>arg 4;unfold za
 (simp -dsimp only[↓RP,RQ,seval,TYz,TY,Tryz.results357]);refine qp (λi=>i≤m∧zK b 0 m=zK b i (m - i)) (λi=>⟨[(0,.arr false false m 3 (λi j=>[Ψ (Φ Γ (bf i)),Ψ (Φ Γ (bg i)),Ψ (Φ Γ (bq i))].getD j .top)),(1,.fn (.func g) [] caps),(7,Ψ (Φ Γ m)),(8,Ψ (Φ Γ i))],[],0⟩) (λi=>m - i) 0 ⟨xb6 _,rfl⟩ (weak [] [] ?_ ?_ ?_) λi hi=>?_
 ·(simp -dsimp only[↓RP,RQ,seval,QV]);all_goals (try simp[wkL_refl caps ho,QV]);all_goals (try (intro i j hi hj;(have hj3:j=0∨j=1∨j=2:=by omega);(rcases hj3 with h|h|h<;>(subst h;simp[QV,Wk,Go.Sx.Sub]))))
 iterate 2 focus(simp -dsimp only[↓RP,RQ,seval,QV])
 obtain⟨hi,he⟩:=hi;have e1:∀k,m - i=k+1→zK b i (m - i)=if b i=true then(i:Int)else zK b (i+1) k:=λk hk=>by rw[hk];rfl
 repeat' first|refine sD ?_ ?_<;>intro _|refine aA ?_|simp -dsimp only[↓RP,RQ,seval,QU,TYz]
 ·rename_i hlt
  have hlt:i<m:=by omega
  have e2:=e1 (m -(i+1)) Ω;refine qk (hg i hlt) (by(simp -dsimp only[↓RP,RQ,seval,QV,I]);all_goals (try simp[subL_refl caps ho,QV]);all_goals (try (intro i j hi hj;(have hj3:j=0∨j=1∨j=2:=by omega);(rcases hj3 with h|h|h<;>(subst h;simp[QV,Wk,Go.Sx.Sub]))))) Ωi ?_;repeat' first|refine sD ?_ ?_<;>intro _|refine aA ?_|simp -dsimp only[↓RP,RQ,seval,QU,TYz]
  ·rename_i h
   refine ya ?_;rw[he,e2,if_pos h]
  ·rename_i h1
   refine⟨i+1,⟨Ω,?_⟩,Ω,weak [] [] ?_ ?_ ?_⟩
   ·rw[he,e2,if_neg (by simp[h1])]
   ·(simp -dsimp only[↓RP,RQ,seval,QV]);all_goals (try simp[wkL_refl caps ho,QV]);all_goals (try (intro i j hi hj;(have hj3:j=0∨j=1∨j=2:=by omega);(rcases hj3 with h|h|h<;>(subst h;simp[QV,Wk,Go.Sx.Sub]))))
   iterate 2 focus(simp -dsimp only[↓RP,RQ,seval,QV])
 ·rename_i hlt
  refine ya ?_;have:m - i=0:=by omega
  rw[he,this];rfl
theorem qru(m:Nat)(bf bg bq:Nat→Int)(g:Nat)(caps:List SV)(ho:OldL caps)(b:Nat→Bool)(hm:m≤1000000)(hg:∀i,i<m→qf Tryz.prog g (.agg [Ψ (Φ Γ (bf i)),Ψ (Φ Γ (bg i)),Ψ (Φ Γ (bq i))] :: caps) (B (b i))):qf Tryz.prog 287 [za m bf bg bq,.fn (.func g) [] caps] (B (decide (ZT b m))):=by
 refine qg Tryz.func287 rfl Ωb follows Ωb _ _ (by rw[Tryz.ntmps287];simp) (by simp[OldL,Old,QV,qE,I,ho,zy]) ?_;(simp -dsimp only[↓RP,RQ,seval,TY,QV,QN]);refine qk (qrt m bf bg bq g caps ho b hm hg) (by(simp -dsimp only[↓RP,RQ,seval,QV,qE,za]);all_goals (try simp[subL_refl caps ho,QV]);all_goals (try (intro i j hi hj;(have hj3:j=0∨j=1∨j=2:=by omega);(rcases hj3 with h|h|h<;>(subst h;simp[QV,Wk,Go.Sx.Sub]))))) Ωk ?_;(repeat' (first|refine sD ?_ ?_<;>intro _|refine aA ?_|simp -dsimp only[↓RP,RQ,seval,I,B,QV,TYz,TY,QN]));refine wL ?_;rw[Bool.eq_iff_iff];simp[←Q6]
end Go.Tn
end
section
namespace Go.Tn
open Go.Proofs
open Go.Sx
theorem qqr(g:Nat)(caps:List SV)(ho:OldL caps):qf Tryz.prog 280 [(.val (.slice none 0 0)),.fn (.func g) [] caps] (I (-1)):=by
 refine qg Tryz.func280 rfl Ωb follows Ωb _ _ (by rw[Tryz.ntmps280];simp) ΩR ?_;have NB:True:=trivial;unfold I;(repeat' first|refine sD ?_ ?_<;>intro _|refine aAb ?_|simp -dsimp only[↓RP,RQ,seval,TYz,NB,QÁ]);refine qp (λ(_:Unit)=>True) (λ_=>⟨[(0,(.val (.slice none 0 0))),(8,Ψ (Φ Γ 0)),(7,Ψ (Φ Γ 0))],[],10⟩) (λ_=>0) () trivial (weakSU Ω Ωd (SubHp.refl _)) λz hz=>?_;repeat' first|refine sD ?_ ?_<;>intro _|refine aAb ?_|simp -dsimp only[↓RP,RQ,seval,TYz,NB,QÁ]
 all_goals try exact ΩB
theorem qnN(g:Nat)(caps:List SV)(ho:OldL caps):qf Tryz.prog 167 [(.val (.slice none 0 0)),.fn (.func g) [] caps] (B false):=by
 refine qg Tryz.func167 rfl Ωb follows Ωb _ _ (by rw[Tryz.ntmps167];simp) ΩR ?_;have NB:True:=trivial;have h1:=qqr g caps ho;unfold B;(repeat' first|refine sD ?_ ?_<;>intro _|refine aAb ?_|simp -dsimp only[↓RP,RQ,seval,TYz,NB,QÁ]);refine qk (h1) (by(simp -dsimp only[↓RP,RQ,seval,QV,qE,I,B]);all_goals (try simp[QV,Go.Sx.Sub,Go.Sx.SubL,subL_refl caps ho])) Ωa ?_;repeat' first|refine sD ?_ ?_<;>intro _|refine aAb ?_|simp -dsimp only[↓RP,RQ,seval,QÁ,TYz,NB]
 all_goals (refine wL ?_;simp)
theorem qqs(n:Int)(nb:Nat)(f g q:Nat→Int)(fav:Bool)(c d st:Int):qf Tryz.prog 272 [bkS n nb f g q fav c d st,(.val (.slice none 0 0))] (B true):=by
 refine qg Tryz.func272 rfl Ωb follows Ωb _ _ (by rw[Tryz.ntmps272];simp) Ωf ?_;have NB:True:=trivial;have h1:=qnN 350 (yk n nb f g q fav c d st) (yl _ _ _ _ _ _ _ _ _);unfold bkS B;(repeat' first|refine sD ?_ ?_<;>intro _|refine aAb ?_|simp -dsimp only[↓RP,RQ,seval,TYz,NB,QÁ]);refine qk (h1) (by(simp -dsimp only[↓RP,RQ,seval,QV,qE,yk,I]);all_goals (try simp[yk,qE,Go.Sx.Sub,Go.Sx.SubL]);all_goals (try (intro j hj;refine⟨qoD (P:=λz=>Go.Sx.Sub _ z z) ?_ ?_ ?_ ?_ ?_ ?_ ?_ ?_ j hj,hj⟩<;>first|exact qr _ (zy _ _ _ _)|exact qr _ ΩE))) Ωa ?_;repeat' first|refine sD ?_ ?_<;>intro _|refine aAb ?_|simp -dsimp only[↓RP,RQ,seval,QÁ,TYz,NB]
theorem qqt  : qf Tryz.prog 185 [(.val (.slice none 0 0))] (B true):=by
 refine qg Tryz.func185 rfl Ωb follows Ωb _ _ (by rw[Tryz.ntmps185];simp) Ωf ?_;have NB:True:=trivial;unfold B;(repeat' first|refine sD ?_ ?_<;>intro _|refine aAb ?_|simp -dsimp only[↓RP,RQ,seval,TYz,NB,QÁ]);refine qp (λ(_:Unit)=>True) (λ_=>⟨[(0,(.val (.slice none 0 0))),(4,(.val (.slice none 0 0))),(6,Ψ (Φ Γ 0)),(5,Ψ (Φ Γ 0))],[],10⟩) (λ_=>0) () trivial (weakSU Ω Ωd (SubHp.refl _)) λz hz=>?_;repeat' first|refine sD ?_ ?_<;>intro _|refine aAb ?_|simp -dsimp only[↓RP,RQ,seval,TYz,NB,QÁ]
 all_goals try exact ΩB
theorem qrv(n:Int)(nb:Nat)(f g q:Nat→Int)(fav:Bool)(c d st:Int)(h:ckB n nb f g q c d st=0):qf Tryz.prog 187 [bkS n nb f g q fav c d st] (I 0):=by
 refine qg Tryz.func187 rfl Ωb follows Ωb _ _ (by rw[Tryz.ntmps187];simp) Ωf ?_;have NB:True:=trivial;obtain⟨⟨⟨a1,a2⟩,⟨a3,a4⟩,⟨a5,a6⟩,a7,a8⟩,hn,hok⟩:=ckB_ok.1 h;have h1:=qgn 0 0 3;rw[decide_eq_true (Ω:(0:Int)≤0∧(0:Int)≤3)]at h1;have h2:=qgn n 2 8;rw[decide_eq_true (Ω:2≤n∧n≤8)]at h2;have h3:=qgn c 0 1000000;rw[decide_eq_true (Ω:0≤c∧c≤1000000)]at h3;have h4:=qgn d 0 500;rw[decide_eq_true (Ω:0≤d∧d≤500)]at h4;have h5:=qgn st 1 100;rw[decide_eq_true (Ω:1≤st∧st≤100)]at h5;have h6:=qru nb f g q 288 (yk n nb f g q fav c d st) (yl _ _ _ _ _ _ _ _ _) (λ_=>false) Ω (λi hi=>qrs n nb f g q fav c d st (f i) (g i) (q i) (hok i hi));rw[decide_eq_false (show ¬ZT (λ_=>false) nb by rintro⟨i,_,h⟩;simp at h)]at h6;have h7:=qqs n nb f g q fav c d st;have h8:=qqt;have e1:=decide_eq_false (Ω:¬(100:Int)<(nb:Nat));have e2:=decide_eq_false (Ω:¬n - 2<(0:Int));unfold bkS I;(repeat' first|refine sD ?_ ?_<;>intro _|refine aAb ?_|simp -dsimp only[↓RP,RQ,seval,za,TYz,NB,QÁ]);refine qk (h1) Ωe Ωa ?_;(repeat' first|refine sD ?_ ?_<;>intro _|refine aAb ?_|simp -dsimp only[↓RP,RQ,seval,QÁ,TYz,NB]);refine qk (h2) Ωe Ωa ?_;(repeat' first|refine sD ?_ ?_<;>intro _|refine aAb ?_|simp -dsimp only[↓RP,RQ,seval,QÁ,TYz,NB]);refine qk (h3) Ωe Ωa ?_;(repeat' first|refine sD ?_ ?_<;>intro _|refine aAb ?_|simp -dsimp only[↓RP,RQ,seval,QÁ,TYz,NB]);refine qk (h4) Ωe Ωa ?_;(repeat' first|refine sD ?_ ?_<;>intro _|refine aAb ?_|simp -dsimp only[↓RP,RQ,seval,QÁ,TYz,NB]);refine qk (h5) Ωe Ωa ?_;repeat' first|refine sD ?_ ?_<;>intro _|refine aAb ?_|simp -dsimp only[↓RP,RQ,seval,QÁ,TYz,NB]
 all_goals try exact ΩB
 (repeat' first|refine sD ?_ ?_<;>intro _|refine aAb ?_|simp -dsimp only[↓RP,RQ,seval,za,e1,TYz,NB,QÁ]);refine qk (h6) (by(simp -dsimp only[↓RP,RQ,seval,QV,qE,yk,za,I]);all_goals (try simp[yk,za,Go.Sx.Sub,Go.Sx.SubL]);all_goals (try (refine⟨?_,?_⟩));all_goals (try all_goals (try (intro i j hi hj;(have hj3:j=0∨j=1∨j=2:=by omega);(rcases hj3 with h|h|h<;>(subst h;simp[QV,Wk,Go.Sx.Sub])))));all_goals (try (intro j hj;refine⟨qoD (P:=λz=>Go.Sx.Sub _ z z) ?_ ?_ ?_ ?_ ?_ ?_ ?_ ?_ j hj,hj⟩<;>first|exact qr _ (zy _ _ _ _)|exact qr _ ΩE))) Ωa ?_;(repeat' first|refine sD ?_ ?_<;>intro _|refine aAb ?_|simp -dsimp only[↓RP,RQ,seval,QÁ,e2,TYz,NB]);refine qk (h7) (by simp only[SubL,and_true];refine⟨qr _ (jf _ _ _ _ _ _ _ _ _),?_⟩;(simp -dsimp only[↓RP,RQ,seval,QV,qE,I,B]);all_goals (try simp[QV,Go.Sx.Sub,Go.Sx.SubL])) Ωa ?_;(repeat' first|refine sD ?_ ?_<;>intro _|refine aAb ?_|simp -dsimp only[↓RP,RQ,seval,QÁ,e2,TYz,NB]);refine qk (h8) Ωe Ωa ?_;repeat' first|refine sD ?_ ?_<;>intro _|refine aAb ?_|simp -dsimp only[↓RP,RQ,seval,QÁ,TYz,NB]
end Go.Tn
end
section
namespace Go.Tn
open Go.Proofs
open Go.Sx
theorem qaj:qn Tryz.prog 22=some ⟨false,1,some [.slice none 0 0],.slice 3 1⟩:=by kernel_rfl
theorem ty3:qn Tryz.prog 3=some ⟨false,1,some [Φ Γ 0],.int .i64⟩:=by kernel_rfl
theorem qiV{O:Ctx}{fr:List (Nat×SV)}{hp:List (Nat×Blk)}{nid d id n k:Nat}(h:Go.Sx.look fr d=.vec id n k):Weak O ⟨fr,hp,nid⟩ ⟨putFr fr d (.que id 0 n k),hp,nid⟩:=λbase okc ns outs x w ⟨r,h'⟩=>⟨r,h'.sat,h'.keys,λi=>by
 show Rep _ _ _ _ (Go.Sx.look (putFr fr d _) i) _;rw[zn];split
 ·rename_i e
  have hv:=h'.fr d;rw[show(⟨fr,hp,nid⟩:St).fr=fr from rfl,h]at hv;rw[e];generalize x.tmps.getD d undef=v at hv ⊢;cases hv with
  |vecNil _ _ hN hr=>exact Rep.queNil (N:=λx=>x<nid) _ _ _ _ hN
  |vec _ _ _ b cap cs t hN hr hb hcs hcap hmx=>
   have q:=Rep.que (N:=λx=>x<nid) (G:=Gd base okc r (λx=>x<nid) hp w) id 0 n k b cap cs t hN hr hb (by rw[xb0];exact hcs) hcap (by rw[xb0];exact hmx)
   simp_all
 ·exact h'.fr i,h'.size,h'.lo,h'.out,h'.rfix,h'.defers⟩
def setN(f:Nat→Nat)(k x:Nat):Nat→Nat:=λi=>if i=k then x else f i
def kv(start i:Nat):List Nat→Nat→(Nat→Nat)→List Nat→Bool×(Nat→Nat)×List Nat
 |[],_,by',wait=>(false,by',wait)
 |to :: l,w,by',wait=>if 0<by' to then kv start i l (w+1) by' wait else if to=start then(true,setN by' to (1+i*5+w),wait)else kv start i l (w+1) (setN by' to (1+i*5+w)) (wait++[to])
def qgo(L:Nat→List Nat)(start:Nat):Nat→(Nat→Nat)→List Nat→Option (Bool×(Nat→Nat))
 |0,_,_=>none
 |_+1,by',[]=>some (false,by')
 |f+1,by',i :: wait=>if (kv start i (L i) 0 by' wait).1=true then some (true,(kv start i (L i) 0 by' wait).2.1)else qgo L start f (kv start i (L i) 0 by' wait).2.1 (kv start i (L i) 0 by' wait).2.2
def G6(L:Nat→List Nat)(N fb fk:Nat):Nat→Nat→List Nat→Option (List Nat)
 |0,_,best=>some best
 |k+1,start,best=>match qgo L start fb (λ_=>0) [start]with
  |none=>none
  |some (false,_)=>G6 L N fb fk k (start+1) best
  |some (true,by')=>match Vp by' N start fk start []with
   |none=>none
   |some l=>G6 L N fb fk k (start+1) (if best.length=0∨l.length<best.length then l.reverse else best)
structure Cl(N:Nat)(L:Nat→List Nat)(nx:Nat→Nat→SV)(H:List (Nat×Blk))(id tb xid:Nat)(A R M:SV)(sid:Nat):Prop where
 N5:N≤100000
 l5:∀i,i<N→(L i).length≤5
 inn:∀i,i<N→∀a,a∈L i→a<N
 tb:blk H tb=some (.cells 253 [A,.vec sid N 5,.vec xid N 1,R,M])
 xid:blk H xid=some (.rows 22 1 N nx)
 nx:∀i,i<N→(L i=[]∧nx i 0=.val (.slice none 0 0))∨∃xi r,nx i 0=.vec xi (L i).length 1∧blk H xi=some (.rows 3 1 (L i).length r)∧qch (L i) r
 und:Under H id
structure QI(N:Nat)(L:Nat→List Nat)(start fb n1:Nat)(Rb:Bool×(Nat→Nat))(f c:Nat)(by':Nat→Nat)(byr:Nat→Nat→SV)(wait:List Nat)(wid off:Nat)(J:Nat→Nat→SV):Prop where
 fu:f+c=fb
 run:qgo L start f by' wait=some Rb
 row:∀x,x<N→byr x 0=Ψ (Φ Γ (by' x:Nat))
 le:∀x,x<N→by' x≤1000000
 lt:∀x,x∈wait→x<N
 J:∀i,i<wait.length→J (off+i) 0=Ψ (Φ Γ (wait.getD i 0:Nat))
 off:off≤c
 len:wait.length≤1+5*c
 w1:n1+11≤wid
 w2:wid<n1+20+450*c
structure RI(N:Nat)(L:Nat→List Nat)(start i c n1 n2 nr:Nat)(R3:Bool×(Nat→Nat)×List Nat)(k:Nat)(by':Nat→Nat)(byr:Nat→Nat→SV)(wait:List Nat)(wid off:Nat)(J:Nat→Nat→SV):Prop where
 kl:k≤(L i).length
 run:kv start i ((L i).drop k) k by' wait=R3
 row:∀x,x<N→byr x 0=Ψ (Φ Γ (by' x:Nat))
 le:∀x,x<N→by' x≤1000000
 lt:∀x,x∈wait→x<N
 J:∀i,i<wait.length→J (off+i) 0=Ψ (Φ Γ (wait.getD i 0:Nat))
 off:off≤c+1
 len:wait.length≤nr+k
 w1:n1+11≤wid
 w2:wid<n2+40+60*k
def bSV(bid:Nat)(best:List Nat):SV:=match best with
 |[]=>.val (.slice none 0 0)
 |_ :: l=>.vec bid (l.length+1) 1
def bH(bid:Nat)(best:List Nat)(r:Nat→Nat→SV)(H:List (Nat×Blk)):List (Nat×Blk):=match best with
 |[]=>H
 |_ :: l=>(bid,.rows 3 1 (l.length+1) r) :: H
theorem Cl.bH{N:Nat}{L:Nat→List Nat}{nx:Nat→Nat→SV}{H:List (Nat×Blk)}{id tb xid:Nat}{A R M:SV}{sid:Nat}(h:Cl N L nx H id tb xid A R M sid){bid:Nat}{best:List Nat}{r:Nat→Nat→SV}{n:Nat}(hn:id≤n)(hb:best≠[]→id≤bid∧bid<n):Cl N L nx (bH bid best r H) n tb xid A R M sid:=by
 cases best with
 |nil=>exact⟨h.N5,h.l5,h.inn,h.tb,h.xid,h.nx,λk x hx=>xa9 (h.und k x hx) hn⟩
 |cons x l=>
  have⟨h1,h2⟩:=hb Ωg;have key:∀k y,blk H k=some y→blk ((bid,.rows 3 1 (l.length+1) r) :: H) k=some y:=λk y hy=>by
   have:=h.und k y hy;simp only[blk];rw[if_neg Ω];exact hy
  refine⟨h.N5,h.l5,h.inn,key _ _ h.tb,key _ _ h.xid,λi hi=>?_,λk y hy=>?_⟩
  ·rcases h.nx i hi with c|⟨xi,r',c1,c2,c3⟩
   ·exact .inl c
   ·exact .inr ⟨xi,r',c1,key _ _ c2,c3⟩
  ·simp only[Go.Tn.bH,blk]at hy
   split at hy
   ·omega
   ·exact xa9 (h.und k y hy) hn
theorem qiW{b:Nat}{l:List Nat}(h:0<l.length):bSV b l=.vec b l.length 1:=by
 cases l with
 |nil=>cases h
 |cons x l=>rfl
theorem qnO{b:Nat}{l:List Nat}{r:Nat→Nat→SV}{H:List (Nat×Blk)}(h:0<l.length):bH b l r H=(b,.rows 3 1 l.length r) :: H:=by
 cases l with
 |nil=>cases h
 |cons x l=>rfl
theorem e73(N:Nat)(L:Nat→List Nat)(nx:Nat→Nat→SV)(H:List (Nat×Blk))(id tb xid:Nat)(A R M:SV)(sid fb fk:Nat)(res0:List Nat)(h:Cl N L nx H id tb xid A R M sid)(hfb:fb≤100000)(hfk:fk≤100000)(hF:G6 L N fb fk N 0 []=some res0)(C:Nat)(hCC:C=500*fb+100*fk+2000) :
  EffVC Tryz.prog 73 [.ptr tb 0] H id (λhp' nid' res=>nid'≤id+100+C*N∧∃bid r,(res0≠[]→id≤bid∧bid<nid')∧qch res0 r∧hp'=bH bid res0 r H∧res=bSV bid res0):=by
 refine wo (qV [(16,[(0,0)])]) follows Tryz.func73 rfl Ωb Ωb (by rw[Tryz.ntmps73];simp) λout=>?_;have NB:True:=trivial;have hN5:=h.N5;(repeat' first|refine sD ?_ ?_<;>intro _|refine aAc ?_|simp -dsimp only[↓RP,RQ,seval,h.tb,↓RY,NB,QÀ,qR]);refine qp (λ(z:Nat×List Nat×Nat×(Nat→Nat→SV))=>z.1≤N∧G6 L N fb fk (N - z.1) z.1 z.2.1=some res0∧qch z.2.1 z.2.2.2∧(z.2.1≠[]→id≤z.2.2.1∧z.2.2.1<id+20+C*z.1)) (λz=>⟨[(0,.ptr tb 0),(3,bSV z.2.2.1 z.2.1),(15,Ψ (Φ Γ (N:Nat))),(16,Ψ (Φ Γ (z.1:Nat)))],bH z.2.2.1 z.2.1 z.2.2.2 H,id+20+C*z.1⟩) (λz=>N - z.1) (0,[],0,λ_ _=>.top) ⟨xb6 _,hF,λi hi=>(by cases hi),λhh=>absurd rfl hh⟩ (weakSU (by simp only[];omega) (by simp[qQ,Go.Sx.look,bSV]) (SubHp.refl _)) λz hz=>?_;obtain⟨start,best,bid,br⟩:=z;obtain⟨z1,z2,z3,z4⟩:=hz;simp only[]at z1 z2 z3 z4;obtain⟨n1,hn1⟩:∃n1,n1=id+20+C*start:=⟨_,rfl⟩;have hid1:id≤n1:=by rw[hn1,xb2];exact Nat.le_add_right _ _
 rw[←hn1]at z4;simp only[];rw[←hn1];by_cases hlt:start<N
 ·have hlt1:=decide_eq_true (Ω:((start:Nat):Int)<(N:Nat))
  have hC:=h.bH (r:=br) hid1 z4;obtain⟨bv,hbv⟩:∃bv,bv=bSV bid best:=⟨_,rfl⟩;obtain⟨H2,hH2⟩:∃H2,H2=bH bid best br H:=⟨_,rfl⟩;rw[←hbv,←hH2];rw[←hH2]at hC;have htb:=hC.und _ _ hC.tb;have hxid:=hC.und _ _ hC.xid;have NB:=(⟨nmA htb,nmA hxid⟩:_∧_);(repeat' first|refine sD ?_ ?_<;>intro _|refine aAc ?_|simp -dsimp only[↓RP,RQ,seval,hlt1,hC.tb,↓RY,NB,QÀ,qR]);have hk:N - start=(N -(start+1))+1:=by omega
  rw[hk]at z2;simp only[G6]at z2;cases hb0:qgo L start fb (λ_=>0) [start]with
  |none=>rw[hb0]at z2;cases z2
  |some Rb=>
  rw[hb0]at z2;refine qp (λ(z:Nat×Nat×(Nat→Nat)×(Nat→Nat→SV)×List Nat×Nat×Nat×(Nat→Nat→SV))=>QI N L start fb n1 Rb z.1 z.2.1 z.2.2.1 z.2.2.2.1 z.2.2.2.2.1 z.2.2.2.2.2.1 z.2.2.2.2.2.2.1 z.2.2.2.2.2.2.2) (λz=>⟨[(0,.ptr tb 0),(3,bv),(4,Ψ (Φ Γ (start:Nat))),(5,.vec (n1+8) N 1),(6,.que z.2.2.2.2.2.1 (z.2.2.2.2.2.2.1) (z.2.2.2.2.1.length) 1),(15,Ψ (Φ Γ (N:Nat))),(16,Ψ (Φ Γ (start:Nat)))],(z.2.2.2.2.2.1,.rows 3 1 (z.2.2.2.2.2.2.1+z.2.2.2.2.1.length) z.2.2.2.2.2.2.2) ::(n1+8,.rows 3 1 N z.2.2.2.1) :: H2,n1+20+450*z.2.1⟩) (λz=>z.1) (fb,0,λ_=>0,λx j=>SV.val ([Value.int IntKind.i64 0].getD j undef),[start],n1+11,0,λi j=>[Ψ (Φ Γ (start:Nat))].getD (i+j) SV.top) ⟨rfl,hb0,λx hx=>rfl,λx hx=>xb6 _,λx hx=>(by rw[List.mem_singleton.1 hx];exact hlt),λi hi=>(by have hi:i<1:=hi;obtain rfl:i=0:=Ω;rfl),xa5 _,Ωg,xa5 _,(by show n1+11<n1+20+450*0;omega)⟩ (Weak.trans (qiV (d:=6) rfl) (weakSU (by simp only[];omega) Ω2 (SubHp.refl _))) λz hz=>?_;obtain⟨f,c,by',byr,wait,wid,off,J⟩:=z;have hz':QI N L start fb n1 Rb f c by' byr wait wid off J:=hz
  obtain⟨y1,y2,y3,y4,y5,y6,y7,y8,y9,y10⟩:=hz';simp only[];cases f with
  |zero=>cases y2
  |succ f=>
  obtain⟨n2,hn2⟩:∃n2,n2=n1+20+450*c:=⟨_,rfl⟩;rw[←hn2];have hw2:wid<n2:=by omega
  clear NB;have NB:=(⟨nmA (Ω:tb<n2),nmA (Ω:xid<n2),nmA hw2,nmE (Ω:wid≠tb),nmE (Ω:wid≠xid),nmE (Ω:wid≠n1+8),nmA htb,nmA hxid,nmA (Ω:n1+8<n2)⟩:_∧_∧_∧_∧_∧_∧_∧_∧_);cases wait with
  |nil=>
   simp only[qgo]at y2;cases y2;repeat' first|refine sD ?_ ?_<;>intro _|refine aAc ?_|simp -dsimp only[↓RP,RQ,seval,hC.tb,↓RY,NB,QÀ,qR]
   all_goals try exact ΩB
   refine⟨(start+1,best,bid,br),⟨Ω,z2,z3,λhh=>?_⟩,by first|omega|(simp only[];omega)|(dsimp only;omega),?_⟩
   ·grind
   ·have hX:id+(20+C*(start+1))=n1+C:=by rw[hn1,Nat.mul_add,Nat.mul_one];omega
    simp only[];rw[hX,←hbv,←hH2];exact weakSU Ω Ωd (SubHp.skip (hC.und.none Ω) (SubHp.skip (hC.und.none Ω) (SubHp.refl _)))
  |cons i rest=>
   have hi:i<N:=y5 i xd5;have hgt:=decide_eq_true (Ω:(0:Int)<((rest.length+1:Nat):Int));have hJ0:=y6 0 Ωg;rw[xb1]at hJ0;have hJ1:J off 0=Ψ (Φ Γ (i:Nat)):=hJ0;rw[xe4]at y8;have hql:((rest.length+1:Nat):Int) - 1=((rest.length:Nat):Int):=by omega
   obtain⟨R3,hR3⟩:∃R3,R3=kv start i (L i) 0 by' rest:=⟨_,rfl⟩
   simp only[qgo]at y2;rw[←hR3]at y2;have hl5:=hC.l5 i hi;rcases hC.nx i hi with⟨c1,c2⟩|⟨xi,r,c1,c2,c3⟩
   ·rw[c1]at hR3
    simp only[kv]at hR3;subst hR3;simp only[xe7,if_false]at y2;(repeat' first|refine sD ?_ ?_<;>intro _|refine aAc ?_|simp -dsimp only[↓RP,RQ,seval,hgt,hql,hC.tb,hC.xid,hJ1,c2,↓RY,NB,QÀ,qR]);refine qp (λ(z:Unit)=>True) (λ_=>⟨[(0,.ptr tb 0),(3,bv),(4,Ψ (Φ Γ (start:Nat))),(5,.vec (n1+8) N 1),(6,.que wid (off+1) (rest.length) 1),(15,Ψ (Φ Γ (N:Nat))),(16,Ψ (Φ Γ (start:Nat)))]++[(42,Ψ (Φ Γ 0)),(43,Ψ (Φ Γ 0))],(wid,.rows 3 1 (off+1+rest.length) J) ::(n1+8,.rows 3 1 N byr) :: H2,n2+100⟩) (λ_=>0) () trivial (weakSU Ω Ωd (by rw[show off+(rest.length+1)=off+1+rest.length by omega];exact SubHp.refl _)) λz hz=>?_;repeat' first|refine sD ?_ ?_<;>intro _|refine aAc ?_|simp -dsimp only[↓RP,RQ,seval,↓RY,NB,QÀ,qR]
    all_goals try exact ΩB
    have hq:QI N L start fb n1 Rb f (c+1) by' byr rest wid (off+1) J:=⟨Ω,y2,y3,y4,λx hx=>y5 x (List.mem_cons_of_mem _ hx),λi hi=>by
     have:=y6 (i+1) Ωj;rw[show off+1+i=off+(i+1) by omega,this];rfl,Ω,Ω,y9,Ω⟩
    exact⟨(f,c+1,by',byr,rest,wid,off+1,J),hq,Ωc,weakSU Ωc Ωd (by dsimp only;rw[show off+1+rest.length=off+(1+rest.length) by omega];exact SubHp.refl _)⟩
   ·have hxi:=hC.und _ _ c2
    have NX:=(⟨nmA (Ω:xi<n2),nmE (Ω:xi≠wid),nmA (Ω:xi<n1)⟩:_∧_∧_);(repeat' first|refine sD ?_ ?_<;>intro _|refine aAc ?_|simp -dsimp only[↓RP,RQ,seval,hgt,hql,hC.tb,hC.xid,hJ1,c1,↓RY,NB,QÀ,qR]);refine qp (λ(z:Nat×(Nat→Nat)×(Nat→Nat→SV)×List Nat×Nat×Nat×(Nat→Nat→SV))=>RI N L start i c n1 n2 rest.length R3 z.1 z.2.1 z.2.2.1 z.2.2.2.1 z.2.2.2.2.1 z.2.2.2.2.2.1 z.2.2.2.2.2.2) (λz=>⟨[(0,.ptr tb 0),(3,bv),(4,Ψ (Φ Γ (start:Nat))),(5,.vec (n1+8) N 1),(6,.que z.2.2.2.2.1 (z.2.2.2.2.2.1) (z.2.2.2.1.length) 1),(15,Ψ (Φ Γ (N:Nat))),(16,Ψ (Φ Γ (start:Nat)))]++[(7,Ψ (Φ Γ (i:Nat))),(41,.vec xi (L i).length 1),(42,Ψ (Φ Γ ((L i).length:Nat))),(43,Ψ (Φ Γ (z.1:Nat)))],(z.2.2.2.2.1,.rows 3 1 (z.2.2.2.2.2.1+z.2.2.2.1.length) z.2.2.2.2.2.2) ::(n1+8,.rows 3 1 N z.2.2.1) :: H2,n2+40+60*z.1⟩) (λz=>(L i).length - z.1) (0,by',byr,rest,wid,off+1,J) (by
     have:RI N L start i c n1 n2 rest.length R3 0 by' byr rest wid (off+1) J:=⟨xb6 _,hR3.symm,y3,y4,λx hx=>y5 x (List.mem_cons_of_mem _ hx),λi hi=>by
      have:=y6 (i+1) Ωj;rw[show off+1+i=off+(i+1) by omega,this];rfl,Ω,Ω,y9,Ω⟩
     exact this) (weakSU Ωc Ωd (by dsimp only;rw[show off+(rest.length+1)=off+1+rest.length by omega];exact SubHp.refl _)) λz hz=>?_
    obtain⟨k,by1,byr1,wait1,wid1,off1,J1⟩:=z;have hz':RI N L start i c n1 n2 rest.length R3 k by1 byr1 wait1 wid1 off1 J1:=hz;obtain⟨x1,x2,x3,x4,x5,x6,x7,x8,x9,x10⟩:=hz';dsimp only;obtain⟨n3,hn3⟩:∃n3,n3=n2+40+60*k:=⟨_,rfl⟩;rw[←hn3];have hw3:wid1<n3:=by omega
    clear NB NX;have NB:=(⟨nmA (Ω:tb<n3),nmA (Ω:xid<n3),nmA hw3,nmE (Ω:wid1≠tb),nmE (Ω:wid1≠xid),nmE (Ω:wid1≠n1+8),nmA htb,nmA hxid,nmA (Ω:n1+8<n3),nmA (Ω:xi<n3),nmE (Ω:xi≠wid1),nmA (Ω:xi<n1)⟩:_∧_∧_∧_∧_∧_∧_∧_∧_∧_∧_∧_);by_cases hkl:k<(L i).length
    ·have hk1:=decide_eq_true (Ω:((k:Nat):Int)<((L i).length:Nat))
     have hdr2:dropBlk H2 wid1=H2:=zg (hC.und.none Ω);obtain⟨to,hto⟩:∃to,to=(L i).getD k 0:=⟨_,rfl⟩;have hgi:(L i)[k]? = some to:=by rw[hto,xc6,xc7 hkl];rfl
     have htoN:to<N:=hC.inn i hi to (List.mem_of_getElem? hgi);have hdr:(L i).drop k=to ::(L i).drop (k+1):=by
      rw[List.drop_eq_getElem_cons hkl];rw[xc7 hkl]at hgi;rw[Option.some.inj hgi]
     rw[hdr]at x2;simp only[kv]at x2;have hrk:=c3 k hkl;rw[←hto]at hrk;have hrt:=x3 to htoN;by_cases hb1:0<by1 to
     ·rw[if_pos hb1]at x2
      have hb2:=decide_eq_true (Ω:(0:Int)<((by1 to:Nat):Int));(repeat' first|refine sD ?_ ?_<;>intro _|refine aAc ?_|simp -dsimp only[↓RP,RQ,seval,hk1,hrk,hrt,hb2,c2,↓RY,NB,QÀ,qR]);have hRI:RI N L start i c n1 n2 rest.length R3 (k+1) by1 byr1 wait1 wid1 off1 J1:=⟨hkl,x2,x3,x4,x5,x6,x7,Ω,x9,Ω⟩;exact⟨(k+1,by1,byr1,wait1,wid1,off1,J1),hRI,Ωc,weakSU Ωc Ωd (SubHp.refl _)⟩
     ·rw[if_neg hb1]at x2
      have hb2:=decide_eq_false (Ω:¬(0:Int)<((by1 to:Nat):Int));by_cases hs:to=start
      ·rw[if_pos hs]at x2
       have hs2:=decide_eq_true (Ω:((to:Nat):Int)=(start:Nat));subst x2;simp only[if_true]at y2;have y2:=Option.some.inj y2;subst y2;dsimp only at z2;cases hbk:Vp (setN by1 to (1+i*5+k)) N start fk start []with
       |none=>rw[hbk]at z2;cases z2
       |some l=>
       rw[hbk]at z2;dsimp only at z2;(repeat' first|refine sD ?_ ?_<;>intro _|refine aAc ?_|simp -dsimp only[↓RP,RQ,seval,hk1,hrk,hrt,hb2,hs2,c2,↓RY,NB,QÀ,qR]);refine gG Ωr (qrm _ _ tb (n1+8) N start fk (setN by1 to (1+i*5+k)) (λa b=>if a=to∧b=0 then Ψ (Φ Γ (1+(i:Int)*5+(k:Int)))else byr1 a b) l h.N5 (λy x hx=>?hUn) hfk hlt Ω Ωp (λx hx=>?hRo) (λx hx=>?hLe) hbk) λhp' n4 res hQ=>?_
       case hUn=>
        simp only[blk]at hx;split at hx
        ·omega
        ·split at hx
         ·omega
         ·have:=hC.und y x hx;omega
       case hRo=>
        by_cases e:x=to
        ·rw[if_pos ⟨e,rfl⟩];unfold setN;rw[if_pos e];congr 2
        ·rw[if_neg (λe2=>e e2.1)];unfold setN;rw[if_neg e];exact x3 x hx
       case hLe=>
        unfold setN;split
        ·omega
        ·exact x4 x hx
       obtain⟨q1,rid,r',q2,q2',q3,q4,rfl,rfl⟩:=hQ;have q0:n3≤rid:=by omega
       have hX:id+(20+C*(start+1))=n1+C:=by rw[hn1,Nat.mul_add,Nat.mul_one];omega
       rw[hbv,hH2];have hX2:id+20+C*(start+1)=n1+C:=by rw[hn1,Nat.mul_add,Nat.mul_one];omega
       have hlr:0<l.reverse.length:=by rw[List.length_reverse];exact q3
       have hfu:c+1≤fb:=by omega
       cases best with
       |nil=>
        have HN:∀q,n1≤q→blk H q=none:=λq hq=>h.und.none Ω;rw[show bSV bid ([]:List Nat)=SV.val (.slice none 0 0)from rfl,show Go.Tn.bH bid [] br H=H from rfl];rw[if_pos (.inl rfl)]at z2;(repeat' first|refine sD ?_ ?_<;>intro _|refine aAc ?_|simp -dsimp only[↓RP,RQ,seval,↓RY,NB,QÀ,qR]);exact⟨(start+1,l.reverse,rid,r'),⟨Ωc,z2,q4,λ_=>⟨Ωc,by dsimp only;(first|rw[hX2]|rw[hX]);omega⟩⟩,Ωc,by
         dsimp only;rw[qiW hlr,qnO hlr,List.length_reverse]
         first|rw[hX]|rw[hX2]
         exact weakSU Ω Ωd (SubHp.cons (SubHp.skip (HN _ Ω) (SubHp.skip (HN _ Ω) (SubHp.refl _))))⟩
       |cons bx bl=>
        have⟨z5,z6⟩:=z4 Ωg;have HN:∀q,n1≤q→blk ((bid,.rows 3 1 (bl.length+1) br) :: H) q=none:=λq hq=>by
         simp only[blk];rw[if_neg Ω];exact h.und.none Ω
        rw[show bSV bid (bx :: bl)=.vec bid (bl.length+1) 1 from rfl,show Go.Tn.bH bid (bx :: bl) br H=(bid,.rows 3 1 (bl.length+1) br) :: H from rfl];have g0:=decide_eq_false (show ¬(((bl.length+1:Nat):Int)=0) by omega);by_cases hcmp:l.length<bl.length+1
        ·rw[if_pos (.inr hcmp)]at z2
         have g1:=decide_eq_true (Ω:((l.length:Nat):Int)<((bl.length+1:Nat):Int));(repeat' first|refine sD ?_ ?_<;>intro _|refine aAc ?_|simp -dsimp only[↓RP,RQ,seval,g0,g1,↓RY,NB,QÀ,qR]);exact⟨(start+1,l.reverse,rid,r'),⟨Ωc,z2,q4,λ_=>⟨Ωc,by dsimp only;(first|rw[hX2]|rw[hX]);omega⟩⟩,Ωc,by
          dsimp only;rw[qiW hlr,qnO hlr,List.length_reverse]
          first|rw[hX]|rw[hX2]
          exact weakSU Ω Ωd (SubHp.cons (SubHp.skip (h.und.none Ω) (SubHp.skip (h.und.none Ω) (SubHp.skip (h.und.none z5) (SubHp.refl _)))))⟩
        ·rw[if_neg (λe=>e.elim (λe=>by simp at e) hcmp)]at z2
         have g1:=decide_eq_false (Ω:¬((l.length:Nat):Int)<((bl.length+1:Nat):Int));(repeat' first|refine sD ?_ ?_<;>intro _|refine aAc ?_|simp -dsimp only[↓RP,RQ,seval,g0,g1,↓RY,NB,QÀ,qR]);exact⟨(start+1,bx :: bl,bid,br),⟨Ωc,z2,z3,λ_=>⟨z5,by dsimp only;(first|rw[hX2]|rw[hX]);omega⟩⟩,Ωc,by
          dsimp only
          first|rw[hX]|rw[hX2]
          exact weakSU Ω (by simp[qQ,Go.Sx.look,bSV]) (SubHp.skip (HN _ Ω) (SubHp.skip (HN _ Ω) (SubHp.skip (HN _ Ω) (SubHp.refl _))))⟩
      ·rw[if_neg hs]at x2
       have hs2:=decide_eq_false (Ω:¬((to:Nat):Int)=(start:Nat));(repeat' first|refine sD ?_ ?_<;>intro _|refine aAc ?_|simp -dsimp only[↓RP,RQ,seval,hk1,hrk,hrt,hb2,hs2,c2,↓RY,NB,QÀ,qR]);refine ZS (qK ?_);(repeat' first|refine sD ?_ ?_<;>intro _|refine aAc ?_|simp -dsimp only[↓RP,RQ,seval,hdr2,hk1,hrk,hrt,hb2,hs2,c2,↓RY,NB,QÀ,qR]);refine qK ?_;(repeat' first|refine sD ?_ ?_<;>intro _|refine aAc ?_|simp -dsimp only[↓RP,RQ,seval,hdr2,hk1,hrk,hrt,hb2,hs2,c2,↓RY,NB,QÀ,qR]);refine qK ?_;(repeat' first|refine sD ?_ ?_<;>intro _|refine aAc ?_|simp -dsimp only[↓RP,RQ,seval,hdr2,hk1,hrk,hrt,hb2,hs2,c2,↓RY,NB,QÀ,qR]);refine g7 rfl (qik (id:=wid1) (off:=off1) (n:=wait1.length) (n':=off1+wait1.length) (m:=1) (k:=1) (e:=3) (row:=J1) (row2:=λi j=>[Ψ (Φ Γ (to:Nat))].getD (i+j) SV.top) (obl2:=1≤1∧1=1) qaj ty3 rfl Ω rfl rfl (by show rowsOf _ (SV.vec (n3+25) 1 1)=_;simp[rowsOf,blk]) (by exact⟨xa5 _,rfl⟩) (by exact one1 _) Ωp (xa5 _) Ω Ω (by rw[by3];omega) Ωc ?_ ?_)
       ·refine qK ?_
        (repeat' first|refine sD ?_ ?_<;>intro _|refine aAc ?_|simp -dsimp only[↓RP,RQ,seval,gH,hdr2,hk1,hrk,hrt,hb2,hs2,c2,↓RY,NB,QÀ,qR]);have hRI:RI N L start i c n1 n2 rest.length R3 (k+1) (setN by1 to (1+i*5+k)) (λa b=>if a=to∧b=0 then Ψ (Φ Γ (1+(i:Int)*5+(k:Int)))else byr1 a b) (wait1++[to]) (n3+26) off1 (λi j=>if i<off1+wait1.length then J1 i j else [Ψ (Φ Γ (to:Nat))].getD (i -(off1+wait1.length)+j) SV.top):=by
         refine⟨hkl,x2,λx hx=>?_,λx hx=>?_,λx hx=>?_,λy hy=>?_,Ω,by rw[xc8,xd1];omega,Ω,Ω⟩
         ·by_cases e:x=to
          ·rw[if_pos ⟨e,rfl⟩];unfold setN;rw[if_pos e];congr 2
          ·rw[if_neg (λe2=>e e2.1)];unfold setN;rw[if_neg e];exact x3 x hx
         ·unfold setN;split
          ·omega
          ·exact x4 x hx
         ·rcases List.mem_append.1 hx with h1|h1
          ·exact x5 x h1
          ·rw[List.mem_singleton.1 h1];exact htoN
         ·rw[xc8,xd1]at hy
          show(if off1+y<off1+wait1.length then J1 (off1+y) 0 else [Ψ (Φ Γ (to:Nat))].getD (off1+y -(off1+wait1.length)+0) SV.top)=_;by_cases hc:y<wait1.length
          ·rw[if_pos Ω,x6 y hc,xc6,xc6,xc9 hc]
          ·obtain rfl:y=wait1.length:=by omega
           rw[if_neg Ω,xb8,xc6 (l:=wait1++[to]),xd0 (xa5 _),xb8];rfl
        refine⟨(k+1,setN by1 to (1+i*5+k),_,wait1++[to],n3+26,off1,_),hRI,Ωc,weakSU Ωc Ωd ?_⟩;dsimp only;rw[xc8,xd1];exact SubHp.cons (SubHp.skip (show blk ((n1+8,_) :: H2) (n3+25)=none by simp only[blk];rw[if_neg Ω];exact hC.und.none Ω) (SubHp.refl _))
       ·refine qK ?_
        (repeat' first|refine sD ?_ ?_<;>intro _|refine aAc ?_|simp -dsimp only[↓RP,RQ,seval,gH,hdr2,hk1,hrk,hrt,hb2,hs2,c2,↓RY,NB,QÀ,qR]);have hRI:RI N L start i c n1 n2 rest.length R3 (k+1) (setN by1 to (1+i*5+k)) (λa b=>if a=to∧b=0 then Ψ (Φ Γ (1+(i:Int)*5+(k:Int)))else byr1 a b) (wait1++[to]) (n3+26) 0 (λi j=>if i<wait1.length then J1 (off1+i) j else [Ψ (Φ Γ (to:Nat))].getD (i - wait1.length+j) SV.top):=by
         refine⟨hkl,x2,λx hx=>?_,λx hx=>?_,λx hx=>?_,λy hy=>?_,Ω,by rw[xc8,xd1];omega,Ω,Ω⟩
         ·by_cases e:x=to
          ·rw[if_pos ⟨e,rfl⟩];unfold setN;rw[if_pos e];congr 2
          ·rw[if_neg (λe2=>e e2.1)];unfold setN;rw[if_neg e];exact x3 x hx
         ·unfold setN;split
          ·omega
          ·exact x4 x hx
         ·rcases List.mem_append.1 hx with h1|h1
          ·exact x5 x h1
          ·rw[List.mem_singleton.1 h1];exact htoN
         ·rw[xc8,xd1]at hy
          show(if 0+y<wait1.length then J1 (off1+(0+y)) 0 else [Ψ (Φ Γ (to:Nat))].getD (0+y - wait1.length+0) SV.top)=_;rw[xb0];by_cases hc:y<wait1.length
          ·rw[if_pos Ω,x6 y hc,xc6,xc6,xc9 hc]
          ·obtain rfl:y=wait1.length:=by omega
           rw[if_neg Ω,xb8,xc6 (l:=wait1++[to]),xd0 (xa5 _),xb8];rfl
        refine⟨(k+1,setN by1 to (1+i*5+k),_,wait1++[to],n3+26,0,_),hRI,Ωc,weakSU Ωc Ωd ?_⟩;dsimp only;rw[xc8,xd1,xb0];exact SubHp.cons (SubHp.skip (show blk ((n1+8,_) :: H2) (n3+25)=none by simp only[blk];rw[if_neg Ω];exact hC.und.none Ω) (SubHp.refl _))
    ·have hk1:=decide_eq_false (Ω:¬((k:Nat):Int)<((L i).length:Nat))
     rw[List.drop_eq_nil_of_le Ω]at x2;simp only[kv]at x2;subst x2;simp only[xe7,if_false]at y2;(repeat' first|refine sD ?_ ?_<;>intro _|refine aAc ?_|simp -dsimp only[↓RP,RQ,seval,hk1,↓RY,NB,QÀ,qR]);have hQ:QI N L start fb n1 Rb f (c+1) by1 byr1 wait1 wid1 off1 J1:=⟨Ω,y2,x3,x4,x5,x6,x7,Ω,x9,Ω⟩;exact⟨(f,c+1,by1,byr1,wait1,wid1,off1,J1),hQ,Ωc,weakSU Ωc Ωd (SubHp.refl _)⟩
 ·have hlt1:=decide_eq_false (Ω:¬((start:Nat):Int)<(N:Nat))
  have e0:start=N:=by omega
  rw[e0,xb8]at z2;simp only[G6]at z2;have z2:=Option.some.inj z2;subst z2;(repeat' first|refine sD ?_ ?_<;>intro _|refine aAc ?_|simp -dsimp only[↓RP,RQ,seval,hlt1,↓RY,NB,QÀ,qR]);rw[e0]at hn1;exact⟨_,_,_,weakSU (xa5 _) (fr':=[(0,_)]) ⟨.inr rfl,trivial⟩ (SubHp.refl _),Ω,bid,br,λhh=>by have:=z4 hh;omega,z3,rfl,rfl⟩
end Go.Tn
end
