/- A part of the proof. -/
import Derived.Test.YtacejomniokahaaGreatPC
open Nat renaming reduceMul→xa0,reduceAdd→xa1,reduceEqDiff→xa2,reduceLT→xa3,reduceLeDiff→xa4,le_refl→xa5,eq_of_beq_eq_true→xa6,le_of_ble_eq_true→xa7,mul_le_mul_right→xa8,lt_of_lt_of_le→xa9,zero_add→xb0,add_zero→xb1,zero_testBit→xb3,lt_succ_self→xb5,zero_le→xb6,le_succ→xc4,add_comm→xc5
open List renaming getD_eq_getElem?_getD→xc6,getElem?_eq_getElem→xc7,length_append→xc8,getElem?_append_left→xc9,getElem?_append_right→xd0,length_singleton→xd1,mem_append→xd4,mem_cons_self→xd5,getElem?_cons_succ→xd7,length_take→xd9,length_map→xe1,getElem?_range→xe3,length_cons→xe4,length_set→xe5
open Bool renaming and_eq_true→xe6,false_eq_true→xe7,or_eq_true→xe8,and_true→xf1,or_false→xf3,false_or→xf4
open Array renaming getD_eq_getD_getElem?→xf5,getElem?_toList→xf6
open Classical renaming byContradiction→xf9
set_option linter.unusedVariables false
set_option linter.unusedSimpArgs false
set_option linter.defProp false
set_option linter.constructorNameAsVariable false
set_option maxRecDepth 1000000
set_option maxHeartbeats 16000000
section
namespace Go.Tn
open Go.Proofs
open Go.Sx
end Go.Tn
end
section
namespace Go.He
structure Wd where
 a:Int
 b:Int
 k:Int
def Lk(w:Wd)(x y:Int):Prop:=(w.a=x∧w.b=y)∨(w.k=1∧w.b=x∧w.a=y)
inductive Go(w:Nat→Wd)(m:Nat)(x:Int):Nat→Int→Prop
 |nil:Go w m x 0 x
 |snoc {d:Nat} {y z:Int} (i:Nat) (h:Go w m x d y) (hi:i<m) (hl:Lk (w i) y z):Go w m x (d+1) z
open Classical in
noncomputable def cnt(P:Int→Prop):Nat→Nat
 |0=>0
 |n+1=>cnt P n+(if P n then 1 else 0)
def Bef(w:Nat→Wd)(m:Nat)(x y:Int):Prop:=∃i d e,i<m∧(w i).k=0∧Go w m x d (w i).a∧Go w m (w i).b e y
def Loop(w:Nat→Wd)(m:Nat):Prop:=∃i d,i<m∧(w i).k=0∧Go w m (w i).b d (w i).a
noncomputable def key(w:Nat→Wd)(m n:Nat)(x:Int):Nat:=cnt (λy=>Bef w m y x) n
end Go.He
end
section
namespace Go.He
def rkN(g:Nat→Int)(i:Nat):Nat→Int
 |0=>1
 |k+1=>if g k<g i then rkN g i k+1 else rkN g i k
def rk(g:Nat→Int)(n i:Nat):Int:=rkN g i n
def Fin(g:Nat→Int)(n:Nat):Prop:=∀i,i<n→g i=rk g n i
instance(g:Nat→Int)(n:Nat):Decidable (Fin g n):=by unfold Fin;infer_instance
def enc(n:Nat)(f:Nat→Nat):Nat→Nat
 |0=>0
 |j+1=>enc n f j*n+f j
end Go.He
end
section
namespace Go.He
end Go.He
end
section
namespace Go.He
theorem qmc{φ:Nat→Nat}:∀{l m:List Nat},l.Nodup→(∀a,a∈l→φ a∈m)→(∀a b,a∈l→b∈l→φ a=φ b→a=b)→l.length≤m.length
 |[],_,_,_,_=>xb6 _
 |a :: l,m,hn,hm,hi=>by
  rw[List.nodup_cons]at hn;have h1:=hm a Ωj;have:=qmc (φ:=φ) (l:=l) (m:=m.erase (φ a)) hn.2 (λb hb=>by
   refine(List.mem_erase_of_ne λe=>?_).2 (hm b (by simp[hb]));have:=hi b a (by simp[hb]) Ωj e;exact hn.1 (this▸hb)) λb c hb hc=>hi b c (by simp[hb]) (by simp[hc])
  rw[List.length_erase_of_mem h1]at this;have h2:=List.length_pos_of_mem h1;simp only[xe4];omega
end Go.He
end
section
namespace Go.He
end Go.He
end
section
namespace Go.He
def stI(w:Nat→Wd)(a b:Int):Nat→Option Nat
 |0=>none
 |i+1=>if (w i).k=0∧(w i).a=a∧(w i).b=b then some i else stI w a b i
def wkI(w:Nat→Wd)(a b:Int):Nat→Option Nat
 |0=>none
 |i+1=>if (w i).k≠0∧(((w i).a=a∧(w i).b=b)∨((w i).k=1∧(w i).b=a∧(w i).a=b))then some i else wkI w a b i
def lkI(w:Nat→Wd)(m:Nat)(a b:Int):Option Nat:=match stI w a b m with|some i=>some i|none=>wkI w a b m
structure Bs where
 wait:List Nat
 ways:Nat→List Nat
 seen:Nat→Bool
def upN{α:Type}(f:Nat→α)(k:Nat)(x:α)(j:Nat):α:=if j=k then x else f j
def stp(w:Nat→Wd)(m a:Nat)(s:Bs)(b:Nat):Bs:=
 match lkI w m a b with
 |some i=>if s.seen b=false then⟨s.wait++[b],upN s.ways b (s.ways a++[i]),upN s.seen b true⟩else s
 |none=>s
def inn(w:Nat→Wd)(m a:Nat)(s:Bs):Nat→Bs
 |0=>s
 |b+1=>stp w m a (inn w m a s b) b
def pop(s:Bs):Bs:=⟨s.wait.tail,s.ways,s.seen⟩
def ini(x:Nat):Bs:=⟨[x],λ_=>[],λj=>decide (j=x)⟩
end Go.He
end
section
namespace Go.He
def cF(l:List Nat)(j:Nat):Int:=(l.getD j 0:Nat)
end Go.He
end
section
namespace Go.He
end Go.He
end
section
namespace Go.He
end Go.He
end
section
namespace Go.Tn
open Go.Proofs
open Go.Sx
open Go.He
theorem one1(a:Int):∀(i j:Nat),i<1→j<1→oneCell ([.val (.int .i64 a)].getD (i+j) SV.top)=true:=by
 intro i j hi hj;obtain rfl:i=0:=by omega
 obtain rfl:j=0:=by omega
 rfl
end Go.Tn
end
section
namespace Go.Sx
open Go.RowKit
noncomputable section
variable{j k n:Nat}{b':Blk}{LM:Nat→Option Loop}{H:List (Nat×Blk)}{r:Res}{s:SV}{obl:Prop}{args:List SV}
inductive Q8(β:Type):Type
 |mk (a b c d e f g h:β)
def T8(α:Type):Nat→Type
 |0=>Option α
 |n+1=>Q8 (T8 α n)
def Tr(n:Nat)(α:Type):Type:=T8 α n
inductive XB:Type
 |cells (t:TypeId) (l:List SV)
 |rows (t:TypeId) (k n:Nat) (l:List SV)
 |loop (s:RSt)
 |map (ag:Bool) (ls:List Lf) (es:List (Value×Option SV))
inductive Q:Type
 |mk (s:SV) (hp:Tr 6 XB) (nid:Nat)
inductive R:Type
 |ok (q:Q)
 |bad (c id:Nat)
variable{ρ:Q}
section
variable{α β:Type}
def qj(n:Nat)(f:Nat→β):β:=Nat.rec (f 0) (λm _=>f (Nat.succ m)) n
theorem qe(n:Nat)(f:Nat→β):qj n f=f n:=by cases n<;>rfl
def qas(n:Int)(f:Int→β):β:=Int.rec (λa=>qj a λa=>f (.ofNat a)) (λa=>qj a λa=>f (.negSucc a)) n
theorem jW(n:Int)(f:Int→β):qas n f=f n:=by cases n<;>exact qe _ (λa=>f _)
def KU(b:Bool)(f:Bool→β):β:=Bool.rec (f false) (f true) b
theorem Zv(b:Bool)(f:Bool→β):KU b f=f b:=by cases b<;>rfl
def jj(l:List α)(f:List α→β):β:=(List.rec (motive:=λ_=>(List α→β)→β) (λf=>f []) (λa _ ih f=>ih λl=>f (a :: l)) l) f
theorem qW(l:List α):∀(f:List α→β),jj l f=f l:=by
 induction l with
 |nil=>intro f;rfl
 |cons a l ih=>intro f;exact ih λl=>f (a :: l)
inductive Bx(α:Type):Type
 |mk (a:α)
def Bx.get(b:Bx α):α:=Bx.rec (λa=>a) b
def em8(α:Type):(n:Nat)→T8 α n
 |0=>none
 |n+1=>.mk (em8 α n) (em8 α n) (em8 α n) (em8 α n) (em8 α n) (em8 α n) (em8 α n) (em8 α n)
def Tr.nil{α:Type}:Tr n α:=em8 α n
def VS(k:Nat)(x0 x1 x2 x3 x4 x5 x6 x7:β):β:=Nat.rec x0 (λk _=>Nat.rec x1 (λk _=>Nat.rec x2 (λk _=>Nat.rec x3 (λk _=>Nat.rec x4 (λk _=>Nat.rec x5 (λk _=>Nat.rec x6 (λ_ _=>x7) k) k) k) k) k) k) k
def qat(k:Nat)(t:Q8 β):β:=Q8.rec (λa b c d e f g h=>VS k a b c d e f g h) t
def qoB(k:Nat)(t:Q8 β)(y:β):Q8 β:=Q8.rec (λa b c d e f g h=>VS k (.mk y b c d e f g h) (.mk a y c d e f g h) (.mk a b y d e f g h) (.mk a b c y e f g h) (.mk a b c d y f g h) (.mk a b c d e y g h) (.mk a b c d e f y h) (.mk a b c d e f g y)) t
theorem qau(h:k<8):k=0∨k=1∨k=2∨k=3∨k=4∨k=5∨k=6∨k=7:=by omega
theorem qiF(hk:k<8)(hj:j<8)(t:Q8 β)(y:β):qat j (qoB k t y)=if j=k then y else qat j t:=by
 cases t;rcases qau hk with rfl|rfl|rfl|rfl|rfl|rfl|rfl|rfl<;>rcases qau hj with rfl|rfl|rfl|rfl|rfl|rfl|rfl|rfl<;>rfl
def Qj(α:Type)(n:Nat):Nat→Bx (T8 α n→Option α):=Nat.rec (motive:=λn=>Nat→Bx (T8 α n→Option α)) (λi=>Nat.rec (.mk λt=>t) (λ_ _=>.mk λ_=>none) i)
 (λn ih i=>qj (i / 8) λk=>Bx.rec (λq=>VS (i % 8) (.mk λt=>Q8.rec (motive:=λ_=>Option α) (λa _ _ _ _ _ _ _=>q a) t) (.mk λt=>Q8.rec (motive:=λ_=>Option α) (λ_ a _ _ _ _ _ _=>q a) t) (.mk λt=>Q8.rec (motive:=λ_=>Option α) (λ_ _ a _ _ _ _ _=>q a) t) (.mk λt=>Q8.rec (motive:=λ_=>Option α) (λ_ _ _ a _ _ _ _=>q a) t) (.mk λt=>Q8.rec (motive:=λ_=>Option α) (λ_ _ _ _ a _ _ _=>q a) t) (.mk λt=>Q8.rec (motive:=λ_=>Option α) (λ_ _ _ _ _ a _ _=>q a) t) (.mk λt=>Q8.rec (motive:=λ_=>Option α) (λ_ _ _ _ _ _ a _=>q a) t) (.mk λt=>Q8.rec (motive:=λ_=>Option α) (λ_ _ _ _ _ _ _ a=>q a) t)) (ih k)) n
theorem Kr(n i:Nat)(t:T8 α (n+1)):(Qj α (n+1) i).get t=(Qj α n (i / 8)).get (qat (i % 8) t):=by
 have e:Qj α (n+1) i=qj (i / 8) λk=>Bx.rec (λq=>VS (i % 8) (.mk λt=>Q8.rec (motive:=λ_=>Option α) (λa _ _ _ _ _ _ _=>q a) t) (.mk λt=>Q8.rec (motive:=λ_=>Option α) (λ_ a _ _ _ _ _ _=>q a) t) (.mk λt=>Q8.rec (motive:=λ_=>Option α) (λ_ _ a _ _ _ _ _=>q a) t) (.mk λt=>Q8.rec (motive:=λ_=>Option α) (λ_ _ _ a _ _ _ _=>q a) t) (.mk λt=>Q8.rec (motive:=λ_=>Option α) (λ_ _ _ _ a _ _ _=>q a) t) (.mk λt=>Q8.rec (motive:=λ_=>Option α) (λ_ _ _ _ _ a _ _=>q a) t) (.mk λt=>Q8.rec (motive:=λ_=>Option α) (λ_ _ _ _ _ _ a _=>q a) t) (.mk λt=>Q8.rec (motive:=λ_=>Option α) (λ_ _ _ _ _ _ _ a=>q a) t)) (Qj α n k):=rfl;rw[e,qe];cases Qj α n (i / 8)with
 |mk q=>
 cases t;rcases qau (Nat.mod_lt i (show 0<8 by decide))with h|h|h|h|h|h|h|h<;>rw[h]<;>rfl
def Tr.find(t:Tr n α)(i:Nat):Option α:=qj i λi=>Bx.rec (λq=>q t) (Qj α n i)
theorem Gg(t:Tr n α)(i:Nat):t.find i=(Qj α n i).get t:=by
 unfold Tr.find;rw[qe];rfl
theorem qiG:∀(n i:Nat),(Qj α n i).get (em8 α n)=none
 |0,0=>rfl
 |0,_+1=>rfl
 |n+1,i=>by
  rw[Kr];have:qat (i % 8) (em8 α (n+1))=em8 α n:=by
   rcases qau (Nat.mod_lt i (show 0<8 by decide))with h|h|h|h|h|h|h|h<;>rw[h]<;>rfl
  rw[this];exact qiG n _
theorem Zw(i:Nat):(Tr.nil:Tr n α).find i=none:=by rw[Gg];exact qiG n i
def QU(α:Type)(n:Nat):Nat→Bx (T8 α n→Option α→(T8 α n→R)→R):=Nat.rec (motive:=λn=>Nat→Bx (T8 α n→Option α→(T8 α n→R)→R)) (λi=>Nat.rec (.mk λ_ a f=>f a) (λ_ _=>.mk λ_ _ _=>.bad 2 0) i)
 (λn ih i=>qj (i / 8) λk=>Bx.rec (λq=>VS (i % 8) (.mk λt s z=>Q8.rec (motive:=λ_=>R) (λa b c d e f g h=>q a s λa=>z (.mk a b c d e f g h)) t) (.mk λt s z=>Q8.rec (motive:=λ_=>R) (λa b c d e f g h=>q b s λb=>z (.mk a b c d e f g h)) t) (.mk λt s z=>Q8.rec (motive:=λ_=>R) (λa b c d e f g h=>q c s λc=>z (.mk a b c d e f g h)) t) (.mk λt s z=>Q8.rec (motive:=λ_=>R) (λa b c d e f g h=>q d s λd=>z (.mk a b c d e f g h)) t)
  (.mk λt s z=>Q8.rec (motive:=λ_=>R) (λa b c d e f g h=>q e s λe=>z (.mk a b c d e f g h)) t) (.mk λt s z=>Q8.rec (motive:=λ_=>R) (λa b c d e f g h=>q f s λf=>z (.mk a b c d e f g h)) t) (.mk λt s z=>Q8.rec (motive:=λ_=>R) (λa b c d e f g h=>q g s λg=>z (.mk a b c d e f g h)) t) (.mk λt s z=>Q8.rec (motive:=λ_=>R) (λa b c d e f g h=>q h s λh=>z (.mk a b c d e f g h)) t)) (ih k)) n
theorem qgo(n i:Nat)(t:T8 α (n+1))(s:Option α)(z:T8 α (n+1)→R):(QU α (n+1) i).get t s z=(QU α n (i / 8)).get (qat (i % 8) t) s λy=>z (qoB (i % 8) t y):=by
 have e:QU α (n+1) i=qj (i / 8) λk=>Bx.rec (λq=>VS (i % 8) (.mk λt s z=>Q8.rec (motive:=λ_=>R) (λa b c d e f g h=>q a s λa=>z (.mk a b c d e f g h)) t) (.mk λt s z=>Q8.rec (motive:=λ_=>R) (λa b c d e f g h=>q b s λb=>z (.mk a b c d e f g h)) t) (.mk λt s z=>Q8.rec (motive:=λ_=>R) (λa b c d e f g h=>q c s λc=>z (.mk a b c d e f g h)) t) (.mk λt s z=>Q8.rec (motive:=λ_=>R) (λa b c d e f g h=>q d s λd=>z (.mk a b c d e f g h)) t)
  (.mk λt s z=>Q8.rec (motive:=λ_=>R) (λa b c d e f g h=>q e s λe=>z (.mk a b c d e f g h)) t) (.mk λt s z=>Q8.rec (motive:=λ_=>R) (λa b c d e f g h=>q f s λf=>z (.mk a b c d e f g h)) t) (.mk λt s z=>Q8.rec (motive:=λ_=>R) (λa b c d e f g h=>q g s λg=>z (.mk a b c d e f g h)) t) (.mk λt s z=>Q8.rec (motive:=λ_=>R) (λa b c d e f g h=>q h s λh=>z (.mk a b c d e f g h)) t)) (QU α n k):=rfl
 rw[e,qe];cases QU α n (i / 8)with
 |mk q=>
 cases t;rcases qau (Nat.mod_lt i (show 0<8 by decide))with h|h|h|h|h|h|h|h<;>rw[h]<;>rfl
def zl(a:Option α)(_:Nat)(t:Tr n α)(i:Nat)(f:Tr n α→R):R:=qj i λi=>Bx.rec (λq=>q t a f) (QU α n i)
theorem WS(a:Option α)(m:Nat)(t:Tr n α)(i:Nat)(f:Tr n α→R):zl a m t i f=(QU α n i).get t a f:=by
 unfold zl;rw[qe];rfl
def qiH(t t':Tr n α)(i:Nat)(a:Option α):Prop:=∀j,t'.find j=if j=i then a else t.find j
theorem qdN{a:Option α}:∀(n:Nat)(t:T8 α n)(i:Nat)(f:T8 α n→R),(QU α n i).get t a f=.ok ρ→∃t',(∀j,(Qj α n j).get t'=if j=i then a else(Qj α n j).get t)∧f t'=.ok ρ
 |0,t,i,f,h=>by
  cases i with
  |zero=>
   refine⟨a,λj=>?_,h⟩;cases j with
   |zero=>rw[if_pos rfl];rfl
   |succ j=>rw[if_neg (Nat.succ_ne_zero j)];rfl
  |succ i=>cases h
 |n+1,t,i,f,h=>by
  rw[qgo]at h;obtain⟨t',h1,h2⟩:=qdN n _ _ _ h;refine⟨_,λj=>?_,h2⟩;refine(Kr n j _).trans ?_;have e1:(if j=i then a else(Qj α (n+1) j).get t)=if j=i then a else(Qj α n (j / 8)).get (qat (j % 8) t):=by
   by_cases c:j=i
   ·simp_all
   ·rw[if_neg c,if_neg c];exact Kr n j t
  refine Eq.trans ?_ e1.symm;have e2:qat (j % 8) (qoB (i % 8) t t')=if j % 8=i % 8 then t' else qat (j % 8) t:=qiF (Nat.mod_lt _ Ωq) (Nat.mod_lt _ Ωq) t t'
  refine(congrArg (Qj α n (j / 8)).get e2).trans ?_;by_cases c:j % 8=i % 8
  ·grind
  ·grind
theorem qH{a:Option α}(m:Nat)(t:Tr n α)(i:Nat)(f:Tr n α→R)(h:zl a m t i f=.ok ρ):∃t',qiH t t' i a∧f t'=.ok ρ:=by
 rw[WS]at h;obtain⟨t',h1,h2⟩:=qdN n t i f h;refine⟨t',λj=>(Gg (n:=n) t' j).trans ((h1 j).trans ?_),h2⟩;by_cases c:j=i
 ·simp_all
 ·rw[if_neg c,if_neg c];exact(Gg (n:=n) t j).symm
end
def qg(c:Nat)(a:Bool)(b:R):R:=Bool.rec (.bad c 0) b a
theorem qa{c:Nat}{a:Bool}{b:R}(h:qg c a b=.ok ρ):a=true∧b=.ok ρ:=by
 cases a
 ·cases h
 ·exact⟨rfl,h⟩
def qql(c i:Nat)(a:Bool)(b:R):R:=Bool.rec (.bad c i) b a
theorem qmd{c i:Nat}{a:Bool}{b:R}(h:qql c i a b=.ok ρ):a=true∧b=.ok ρ:=by
 cases a
 ·cases h
 ·exact⟨rfl,h⟩
def hiK(k:IntKind):Nat:=IntKind.rec 127 32767 2147483647 9223372036854775807 255 65535 4294967295 18446744073709551615 k
def loK(k:IntKind):Nat:=IntKind.rec 128 32768 2147483648 9223372036854775808 0 0 0 0 k
def qme(k:IntKind)(n:Int):Bool:=Int.rec (λa=>Nat.ble a (hiK k)) (λa=>Nat.ble (Nat.succ a) (loK k)) n
theorem Zx{k:IntKind}{n:Int}(h:qme k n=true):InK k n:=by
 cases n with
 |ofNat a=>
  have h:Nat.ble a (hiK k)=true:=h;have h:=xa7 h;cases k<;>simp only[hiK]at h<;>simp only[InK,Int.ofNat_eq_natCast]<;>omega
 |negSucc a=>
  have h:Nat.ble (Nat.succ a) (loK k)=true:=h;have h:=xa7 h;cases k<;>simp only[loK]at h<;>simp only[InK]<;>omega
def K6(a b:Int):Bool:=Int.rec (λa=>Int.rec (λb=>Nat.ble (Nat.succ a) b) (λ_=>false) b) (λa=>Int.rec (λ_=>true) (λb=>Nat.ble (Nat.succ b) a) b) a
theorem Gh(a b:Int):K6 a b=decide (a<b):=by
 rw[Bool.eq_iff_iff,decide_eq_true_eq];cases a with
 |ofNat a=>cases b with
  |ofNat b=>show Nat.ble (Nat.succ a) b=true↔_;rw[Nat.ble_eq,Int.ofNat_eq_natCast,Int.ofNat_eq_natCast];omega
  |negSucc b=>show false=true↔_;simp only[xe7,false_iff,Int.ofNat_eq_natCast];omega
 |negSucc a=>cases b with
  |ofNat b=>show true=true↔_;simp only[true_iff,Int.ofNat_eq_natCast];omega
  |negSucc b=>show Nat.ble (Nat.succ b) a=true↔_;rw[Nat.ble_eq];omega
def Vk(a b:Int):Bool:=Int.rec (λa=>Int.rec (λb=>Nat.beq a b) (λ_=>false) b) (λa=>Int.rec (λ_=>false) (λb=>Nat.beq a b) b) a
theorem yR(a b:Int):Vk a b=decide (a=b):=by
 rw[Bool.eq_iff_iff,decide_eq_true_eq];cases a with
 |ofNat a=>cases b with
  |ofNat b=>show Nat.beq a b=true↔_;rw[Nat.beq_eq,Int.ofNat_eq_natCast,Int.ofNat_eq_natCast];omega
  |negSucc b=>show false=true↔_;simp only[xe7,false_iff,Int.ofNat_eq_natCast];omega
 |negSucc a=>cases b with
  |ofNat b=>show false=true↔_;simp only[xe7,false_iff,Int.ofNat_eq_natCast];omega
  |negSucc b=>show Nat.beq a b=true↔_;rw[Nat.beq_eq];omega
def qoC(v:Value)(f:SV→R):R:=
 match v with
 |.int k n=>qas n λn=>f (.val (.int k n))
 |.bool b=>KU b λb=>f (.val (.bool b))
 |v=>f (.val v)
theorem qmf(v:Value)(f:SV→R):qoC v f=f (.val v):=by
 unfold qoC;split
 ·exact jW _ (λn=>f (.val (.int _ n)))
 ·exact Zv _ (λn=>f (.val (.bool n)))
 ·rfl
def svK(s:SV)(f:SV→R):R:=
 match s with
 |.val v=>qoC v f
 |.agg l=>jj l λl=>f (.agg l)
 |.ptr id off=>qj off λoff=>f (.ptr id off)
 |.elt id k i j=>qj i λi=>qj j λj=>f (.elt id k i j)
 |.vec id n k=>qj n λn=>f (.vec id n k)
 |.cut id n k=>qj n λn=>f (.cut id n k)
 |.asl id off n k=>qj off λoff=>qj n λn=>f (.asl id off n k)
 |.que id off n k=>qj off λoff=>qj n λn=>f (.que id off n k)
 |s=>f s
theorem QW(s:SV)(f:SV→R):svK s f=f s:=by
 unfold svK;split<;>simp only[qmf,qW,qe]
def Qk(l:List SV)(f:List SV→R):R:=(List.rec (motive:=λ_=>(List SV→R)→R) (λf=>f []) (λa _ ih f=>svK a λa=>ih λl=>f (a :: l)) l) f
theorem kS(l:List SV):∀(f:List SV→R),Qk l f=f l:=by
 induction l with
 |nil=>intro f;rfl
 |cons a l ih=>
  intro f;show svK a (λa=>Qk l λl=>f (a :: l))=_;rw[QW,ih]
def kN(k:IntKind):Nat:=IntKind.rec 0 1 2 3 4 5 6 7 k
theorem qiI(k k':IntKind):Nat.beq (kN k) (kN k')=decide (k=k'):=by cases k<;>cases k'<;>rfl
def lfB(a b:Lf):Bool:=Lf.rec (λk=>Lf.rec (λk'=>Nat.beq (kN k) (kN k')) false b) (Lf.rec (λ_=>false) true b) a
theorem qoD{a b:Lf}(h:lfB a b=true):a=b:=by
 cases a with
 |i k=>cases b with
  |i k'=>
   have h:Nat.beq (kN k) (kN k')=true:=h;rw[qiI,decide_eq_true_eq]at h;rw[h]
  |b=>cases h
 |b=>cases b with
  |i k'=>cases h
  |b=>rfl
def qoE(l:List Lf):List Lf→Bool:=List.rec (motive:=λ_=>List Lf→Bool) (λm=>List.rec true (λ_ _ _=>false) m) (λa _ ih m=>List.rec false (λc m _=>Bool.rec false (ih m) (lfB a c)) m) l
theorem qdO:∀{l m:List Lf},qoE l m=true→l=m
 |[],[],_=>rfl
 |[],_ :: _,h=>by cases h
 |_ :: _,[],h=>by cases h
 |a :: l,b :: m,h=>by
  have h:(Bool.rec false (qoE l m) (lfB a b):Bool)=true:=h;cases q:lfB a b with
  |false=>rw[q]at h;cases h
  |true=>rw[q]at h;rw[qoD q,qdO h]
def qiJ(v:Value):(IntKind→Int→Bool)→Bool→Bool:=Value.rec (motive_1:=λ_=>(IntKind→Int→Bool)→Bool→Bool) (motive_2:=λ_=>PUnit) (motive_3:=λ_=>PUnit) (λ_ f d=>d) (λk n f d=>f k n) (λ_ _ f d=>d) (λ_ _ _ f d=>d) (λ_ f d=>d) (λ_ f d=>d) (λ_ _ _ f d=>d) (λ_ f d=>d) (λ_ f d=>d) (λ_ _ _ _ _ f d=>d) (λ f d=>d) (λ_ _ _ f d=>d) (λ f d=>d) (λ_ _ f d=>d) (λ_ _ f d=>d) (λ_ _=>PUnit.unit) PUnit.unit (λ_ _ _ _=>PUnit.unit) v
def qcC(v:Value):(Bool→Bool)→Bool→Bool:=Value.rec (motive_1:=λ_=>(Bool→Bool)→Bool→Bool) (motive_2:=λ_=>PUnit) (motive_3:=λ_=>PUnit) (λb f d=>f b) (λ_ _ f d=>d) (λ_ _ f d=>d) (λ_ _ _ f d=>d) (λ_ f d=>d) (λ_ f d=>d) (λ_ _ _ f d=>d) (λ_ f d=>d) (λ_ f d=>d) (λ_ _ _ _ _ f d=>d) (λ f d=>d) (λ_ _ _ f d=>d) (λ f d=>d) (λ_ _ f d=>d) (λ_ _ f d=>d) (λ_ _=>PUnit.unit) PUnit.unit (λ_ _ _ _=>PUnit.unit) v
def qdP(v:Value):(List Value→Bool)→Bool→Bool:=Value.rec (motive_1:=λ_=>(List Value→Bool)→Bool→Bool) (motive_2:=λ_=>PUnit) (motive_3:=λ_=>PUnit) (λ_ f d=>d) (λ_ _ f d=>d) (λ_ _ f d=>d) (λ_ _ _ f d=>d) (λ_ f d=>d) (λ_ f d=>d) (λ_ _ _ f d=>d) (λ_ f d=>d) (λ_ f d=>d) (λ_ _ _ _ _ f d=>d) (λ f d=>d) (λ_ _ _ f d=>d) (λ f d=>d) (λc ih f d=>f c.toList) (λ_ _ f d=>d) (λ_ _=>PUnit.unit) PUnit.unit (λ_ _ _ _=>PUnit.unit) v
def qdQ(v u:Value):Bool:=qiJ v (λk a=>qiJ u (λk' b=>Bool.rec false (Vk a b) (Nat.beq (kN k) (kN k'))) false) (qcC v (λa=>qcC u (λb=>Bool.rec (Bool.rec true false b) b a) false) false)
theorem qav(v u:Value):qdQ v u=Qg v u:=by
 cases v<;>first|rfl|skip
 case bool a=>cases u<;>first|rfl|(rename_i b;cases a<;>cases b<;>rfl)
 case int k a=>
  cases u<;>first|rfl|skip
  rename_i k' b;show(Bool.rec false (Vk a b) (Nat.beq (kN k) (kN k')):Bool)=(decide (k=k')&&decide (a=b));rw[qiI,yR];cases decide (k=k')<;>rfl
def qiK(l:List Value):List Value→Bool:=List.rec (motive:=λ_=>List Value→Bool) (λm=>List.rec true (λ_ _ _=>false) m) (λa _ ih m=>List.rec false (λb m _=>Bool.rec false (ih m) (qdQ a b)) m) l
theorem qaw:∀(l m:List Value),qiK l m=vN l m
 |[],[]=>rfl
 |[],_ :: _=>rfl
 |_ :: _,[]=>rfl
 |a :: l,b :: m=>by
  show(Bool.rec false (qiK l m) (qdQ a b):Bool)=(Qg a b&&vN l m);rw[qav,qaw l m];cases Qg a b<;>rfl
def Js(v u:Value):Bool:=qdP v (λa=>qdP u (λb=>qiK a b) false) (qdP u (λ_=>false) (qdQ v u))
theorem WT(v u:Value):Js v u=eqK v u:=by
 have h:=qav v u;cases v<;>cases u<;>first|exact h|rfl|exact qaw _ _
def qiL(f:Lf)(v:Value):Bool:=Lf.rec (λk=>qiJ v (λk' _=>Nat.beq (kN k) (kN k')) false) (qcC v (λ_=>true) false) f
theorem qiM(f:Lf)(v:Value):qiL f v=lfOk f v:=by
 cases f<;>cases v<;>first|rfl|exact qiI _ _
def qmg(l:List Lf):List Value→Bool:=List.rec (motive:=λ_=>List Value→Bool) (λm=>List.rec true (λ_ _ _=>false) m) (λa _ ih m=>List.rec false (λb m _=>Bool.rec false (ih m) (qiL a b)) m) l
theorem WU:∀(l:List Lf)(m:List Value),qmg l m=qY l m
 |[],[]=>rfl
 |[],_ :: _=>rfl
 |_ :: _,[]=>rfl
 |a :: l,b :: m=>by
  show(Bool.rec false (qmg l m) (qiL a b):Bool)=(lfOk a b&&qY l m);rw[qiM,WU l m];cases lfOk a b<;>rfl
def Gi(ag:Bool)(ls:List Lf)(v:Value):Bool:=Bool.rec (qmg ls [v]) (qdP v (λc=>qmg ls c) false) ag
theorem QX(ag:Bool)(ls:List Lf)(v:Value):Gi ag ls v=qm ag ls v:=by
 cases ag with
 |false=>exact WU _ _
 |true=>cases v<;>first|rfl|exact WU _ _
def gU(es:List (Value×Option SV))(k:Value):Option SV:=List.rec (motive:=λ_=>Option SV) none (λp _ ih=>Bool.rec ih p.2 (Js p.1 k)) es
theorem kF(p:Value×Option SV)(es:List (Value×Option SV))(k:Value):gU (p :: es) k=if eqK p.1 k=true then p.2 else gU es k:=by
 show(Bool.rec (gU es k) p.2 (Js p.1 k):Option SV)=_;rw[WT];cases eqK p.1 k<;>rfl
def RowL(n k:Nat)(l:List SV)(row:Nat→Nat→SV):Prop:=l.length=n*k∧∀i j,i<n→j<k→row i j=l.getD (i*k+j) .top
def BRel(lm:Option Loop):XB→Blk→Prop
 |.cells t l,.cells t' l'=>t=t'∧l=l'
 |.rows t k n l,.rows t' k' n' row=>t=t'∧k=k'∧n=n'∧RowL n k l row
 |.loop s,.loop L s'=>s=s'∧lm=some L
 |.map ag ls es,.map fit dom get=>fit=qm ag ls∧∀k,dom k=(gU es k).isSome∧∀s,gU es k=some s→get k=s
 |_,_=>False
def HRel(LM:Nat→Option Loop)(hp:Tr 6 XB)(H:List (Nat×Blk)):Prop:=∀id b,hp.find id=some b→∃b',blk H id=some b'∧BRel (LM id) b b'
variable{b:XB}
theorem BRel.any{lm:Option Loop}(h:BRel none b b'):BRel lm b b':=by
 cases b<;>cases b'<;>simp only[BRel,reduceCtorEq,and_false]at h ⊢<;>exact h
variable{hp:Tr 6 XB}
theorem HRel.cells(h:HRel LM hp H){id:Nat}{t:TypeId}{l:List SV}(e:hp.find id=some (.cells t l)):blk H id=some (.cells t l):=by
 obtain⟨b',h1,h2⟩:=h _ _ e;cases b'<;>simp only[BRel]at h2
 simp_all
theorem HRel.rows(h:HRel LM hp H){id:Nat}{t:TypeId}{l:List SV}(e:hp.find id=some (.rows t k n l)):∃row,blk H id=some (.rows t k n row)∧RowL n k l row:=by
 obtain⟨b',h1,h2⟩:=h _ _ e;cases b'<;>simp only[BRel]at h2
 grind
theorem HRel.map(h:HRel LM hp H){id:Nat}{ag:Bool}{ls:List Lf}{es:List (Value×Option SV)}(e:hp.find id=some (.map ag ls es)):∃dom get,blk H id=some (.map (qm ag ls) dom get)∧∀k,dom k=(gU es k).isSome∧∀s,gU es k=some s→get k=s:=by
 obtain⟨b',h1,h2⟩:=h _ _ e;cases b'<;>simp only[BRel]at h2
 grind
inductive XR:Type
 |pure (s:SV)
 |new (b:XB) (s:SV)
 |upd (id:Nat) (b:XB) (s:SV)
 |grow (old:Nat) (b:XB) (s:SV)
 |call (f:Nat) (args:List SV)
 |yield (id:Nat) (args:List SV)
def qqm(s:SV)(r:Res):Prop:=(∃obl,r=.pure obl s∧obl)∨∃obl,r=.ex obl∧obl s
def Hit(x:XR)(id:Nat)(r:Res):Prop:=
 match x with
 |.pure s=>qqm s r
 |.new b s=>∃obl b' mk,r=.new obl b' mk∧obl∧BRel none b b'∧mk id=s
 |.upd j b s=>(∃obl b',r=.upd obl j b'∧obl∧BRel none b b'∧s=undefSV)∨∃obl b',r=.updv obl j b' s∧obl∧BRel none b b'
 |.grow j b s=>∃obl b' mk,r=.grow obl j b' mk∧obl∧BRel none b b'∧mk id=s
 |.call g args=>r=.call g args
 |.yield y args=>r=.yield y args
def kd(ρ:Q)(f:XR→R)(id:Nat)(r:Res):Prop:=∃x,Hit x id r∧f x=.ok ρ
variable{f:XR→R}
theorem qd{id:Nat}(e:r=.pure obl s)(ho:obl)(h:f (.pure s)=.ok ρ):kd ρ f id r:=⟨.pure s,.inl ⟨obl,e,ho⟩,h⟩
theorem Zy{id:Nat}{obl:SV→Prop}(e:r=.ex obl)(ho:obl s)(h:f (.pure s)=.ok ρ):kd ρ f id r:=⟨.pure s,.inr ⟨obl,e,ho⟩,h⟩
theorem jE{id:Nat}{mk:Nat→SV}(h:f (.new b s)=.ok ρ)(e:r=.new obl b' mk)(ho:obl)(hb:BRel none b b')(hs:mk id=s):kd ρ f id r:=⟨.new b s,⟨obl,b',mk,e,ho,hb,hs⟩,h⟩
theorem gF{id:Nat}(h:f (.upd j b undefSV)=.ok ρ)(e:r=.upd obl j b')(ho:obl)(hb:BRel none b b'):kd ρ f id r:=⟨.upd j b undefSV,.inl ⟨obl,b',e,ho,hb,rfl⟩,h⟩
theorem VT{id:Nat}(h:f (.upd j b s)=.ok ρ)(e:r=.updv obl j b' s)(ho:obl)(hb:BRel none b b'):kd ρ f id r:=⟨.upd j b s,.inr ⟨obl,b',e,ho,hb⟩,h⟩
theorem qgp{id:Nat}{mk:Nat→SV}(h:f (.grow j b s)=.ok ρ)(e:r=.grow obl j b' mk)(ho:obl)(hb:BRel none b b')(hs:mk id=s):kd ρ f id r:=⟨.grow j b s,⟨obl,b',mk,e,ho,hb,hs⟩,h⟩
theorem qgq{id g:Nat}(e:r=.call g args)(h:f (.call g args)=.ok ρ):kd ρ f id r:=⟨.call g args,e,h⟩
theorem qcD{id g:Nat}(e:r=.yield g args)(h:f (.yield g args)=.ok ρ):kd ρ f id r:=⟨.yield g args,e,h⟩
structure XE:Type where
 fns:Nat→Option (Func×List (Nat×List (Nat×Nat)))
 tys:TypeId→Option TyI
 pls:TypeId→Option (List (Nat×Nat))
 eqs:TypeId→Option (List Lf)
 sls:TypeId→Option (TypeId×Nat×List Value)
 mps:TypeId→Option vb
 prj:Nat→Option (Nat×Sh)
 str:TypeId→Bool
 orc:Nat→Option (List SV→Tr 6 XB→Nat→(SV→Tr 6 XB→Nat→R)→R)
 ctr:Nat→List (List SV×SV)
 ctn:Nat→List (List SV×(TypeId×Nat×Nat×List SV×SV))
def qiN(P:Program)(g:Nat)(qq_:List SV)(t:TypeId)(k n:Nat)(l:List SV)(s:SV):Prop:=∃row,zX P g qq_ (.rows t k n row) s∧RowL n k l row∧FreshO s∧FreshB (.rows t k n row)
def Qu(P:Program)(g:Nat)(f:List SV→Tr 6 XB→Nat→(SV→Tr 6 XB→Nat→R)→R):Prop:=
 ∀(ρ:Q)(LM:Nat→Option Loop)(O:Ctx)(args:List SV)(hp:Tr 6 XB)(k:SV→Tr 6 XB→Nat→R)(st:St)(K:St→SV→Prop),HRel LM hp st.hp→f args hp st.nid k=.ok ρ→
  (∀s hp' nid' H',HRel LM hp' H'→k s hp' nid'=.ok ρ→K ⟨st.fr,H',nid'⟩ s)→kW P O g args st K
structure XOk(P:Program)(E:XE):Prop where
 tys:∀t ti,E.tys t=some ti→qk P t=some ti
 pls:∀t pl,E.pls t=some pl→qw P t=some pl
 eqs:∀t ls,E.eqs t=some ls→zE P t=some ls
 prj:∀g n i,E.prj g=some (n,i)→KJ P g n i
 str:∀t,E.str t=true→P.underlying t=some .string
 orc:∀g f,E.orc g=some f→Qu P g f
 ctr:∀g qq_ s,(qq_,s)∈E.ctr g→qb P g qq_ s
 ctn:∀g qq_ t k n l s,(qq_,(t,k,n,l,s))∈E.ctn g→qiN P g qq_ t k n l s
 mps:∀t x,E.mps t=some x→qD P t=some x
 sls:∀t e k z,E.sls t=some (e,k,z)→(∃a b c,qk P t=some ⟨a,b,c,.slice e k⟩)∧(∃a b d,qk P e=some ⟨a,b,some z,d⟩)∧0<k∧z.length=k∧qE P e≤100000000
end
end Go.Sx
end
section
namespace Go.Sx
open Go.RowKit
noncomputable section
variable{i j k n o:Nat}{op:BinOp}{a x:SV}{t:TypeId}{l:List SV}{row:Nat→Nat→SV}
variable{ρ:Q}
section
variable{P:Program}{E:XE}{f:XR→R}{id:Nat}{hp:Tr 6 XB}{H:List (Nat×Blk)}{LM:Nat→Option Loop}
def jX(c:Nat)(k:IntKind)(n:Int)(f:XR→R):R:=qas n λn=>qg c (qme k n) (f (.pure (.val (.int k n))))
theorem kG{c:Nat}{k:IntKind}{n:Int}(h:jX c k n f=.ok ρ):InK k n∧f (.pure (.val (.int k n)))=.ok ρ:=by
 unfold jX at h;rw[jW]at h;have h:=qa h;exact⟨Zx h.1,h.2⟩
def QY(b:Bool)(f:XR→R):R:=KU b λb=>f (.pure (.val (.bool b)))
theorem jY(b:Bool):QY b f=f (.pure (.val (.bool b))):=Zv _ _
def Zz(s:SV)(f:XR→R):R:=svK s λs=>f (.pure s)
theorem gG(s:SV):Zz s f=f (.pure s):=QW _ _
def qdR(op:BinOp)(k:IntKind)(a b:Int)(f:XR→R):R:=
 match a,b with
 |.ofNat a,.ofNat b=>qg 10 (qme k (.ofNat a)) (qg 11 (qme k (.ofNat b)) (match op with
  |.and=>qj (Nat.land a b) λn=>f (.pure (.val (.int k (.ofNat n))))
  |.or=>qj (Nat.lor a b) λn=>f (.pure (.val (.int k (.ofNat n))))
  |_=>.bad 12 0))
 |_,_=>.bad 13 0
def qqn(k:IntKind)(a b:Int)(f:XR→R):R:=
 match b with
 |.ofNat b=>qg 14 (Nat.ble b k.bits) (jX 15 k (Int.mul a (.ofNat (Nat.pow 2 b))) f)
 |_=>.bad 16 0
def qqo(k:IntKind)(a b:Int)(f:XR→R):R:=
 match b with
 |.ofNat b=>qg 17 (Nat.ble b k.bits) (qas (Int.fdiv a (.ofNat (Nat.pow 2 b))) λn=>f (.pure (.val (.int k n))))
 |_=>.bad 18 0
def qgr(op:BinOp)(k:IntKind)(a b:Int)(f:XR→R):R:=
 match op with
 |.add=>jX 19 k (Int.add a b) f
 |.sub=>jX 20 k (Int.sub a b) f
 |.mul=>jX 21 k (Int.mul a b) f
 |.quo=>qg 22 (!Vk b 0) (jX 23 k (Int.tdiv a b) f)
 |.rem=>qg 24 (!Vk b 0) (jX 25 k (Int.tmod a b) f)
 |.eql=>QY (Vk a b) f
 |.neq=>QY (!Vk a b) f
 |.lss=>QY (K6 a b) f
 |.leq=>QY (!K6 b a) f
 |.gtr=>QY (K6 b a) f
 |.geq=>QY (!K6 a b) f
 |.shl=>qqn k a b f
 |.shr=>qqo k a b f
 |.and=>qdR .and k a b f
 |.or=>qdR .or k a b f
 |_=>.bad 26 0
theorem nlt(a b:Int):(!K6 b a)=decide (a≤b):=by
 rw[Gh,Bool.eq_iff_iff,Bool.not_eq_true',decide_eq_false_iff_not,decide_eq_true_eq];omega
theorem qqp(b:Nat):Int.ofNat (Nat.pow 2 b)=(2:Int)^(Int.ofNat b).toNat:=by
 show((2^b:Nat):Int)=_
 simp_all
theorem qM(a:Nat):0≤Int.ofNat a:=Int.natCast_nonneg a
theorem qmh{k:IntKind}{a b:Int}(h:qgr op k a b f=.ok ρ):kd ρ f id (rInt op k a b):=by
 cases op<;>simp only[qgr,jY,reduceCtorEq]at h
 ·exact qd rfl (kG h).1 (kG h).2
 ·exact qd rfl (kG h).1 (kG h).2
 ·exact qd rfl (kG h).1 (kG h).2
 ·obtain⟨h0,h⟩:=qa h
  rw[yR,Bool.not_eq_true',decide_eq_false_iff_not]at h0;exact qd rfl ⟨h0,(kG h).1⟩ (kG h).2
 ·obtain⟨h0,h⟩:=qa h
  rw[yR,Bool.not_eq_true',decide_eq_false_iff_not]at h0;exact qd rfl h0 (kG h).2
 ·unfold qdR at h
  split at h
  ·obtain⟨h1,h⟩:=qa h
   obtain⟨h2,h⟩:=qa h;simp only[qe]at h;exact qd rfl ⟨qM _,Zx h1,qM _,Zx h2⟩ h
  ·cases h
 ·unfold qdR at h
  split at h
  ·obtain⟨h1,h⟩:=qa h
   obtain⟨h2,h⟩:=qa h;simp only[qe]at h;exact qd rfl ⟨qM _,Zx h1,qM _,Zx h2⟩ h
  ·cases h
 ·unfold qqn at h
  split at h
  ·obtain⟨h1,h⟩:=qa h
   rw[qqp]at h;exact qd rfl ⟨qM _,xa7 h1,(kG h).1⟩ (kG h).2
  ·cases h
 ·unfold qqo at h
  split at h
  ·obtain⟨h1,h⟩:=qa h
   rw[qqp,jW]at h;exact qd rfl ⟨qM _,xa7 h1⟩ h
  ·cases h
 ·rw[yR]at h;exact qd rfl trivial h
 ·rw[yR]at h;exact qd rfl trivial h
 ·rw[Gh]at h;exact qd rfl trivial h
 ·rw[nlt]at h;exact qd rfl trivial h
 ·rw[Gh]at h;exact qd rfl trivial h
 ·rw[nlt]at h;exact qd rfl trivial h
def Jt(E:XE)(op:BinOp)(t:TypeId)(isnil:Bool)(y:SV)(f:XR→R):R:=
 match y with
 |.val v=>qg 30 (nilSlice v) (match E.tys t with
  |some ⟨_,_,_,.slice _ _⟩=>(match op with
   |.eql=>QY isnil f
   |.neq=>QY (!isnil) f
   |_=>.bad 31 0)
  |_=>.bad 32 0)
 |_=>.bad 33 0
theorem yn(hE:XOk P E){isnil:Bool}{y:SV}(h:Jt E op t isnil y f=.ok ρ):∃v s,y=.val v∧f (.pure s)=.ok ρ∧∀obl,rNilS P op t obl isnil v=.pure obl s:=by
 unfold Jt at h;split at h
 ·rename_i v
  obtain⟨h1,h⟩:=qa h;split at h
  ·rename_i a b c e k ht
   have ht:=hE.tys _ _ ht;split at h
   ·rw[jY]at h;exact⟨v,_,rfl,h,λobl=>by simp only[rNilS,h1,ht]⟩
   ·rw[jY]at h;exact⟨v,_,rfl,h,λobl=>by simp only[rNilS,h1,ht]⟩
   ·cases h
  ·cases h
 ·cases h
def xEq(E:XE)(op:BinOp)(t:TypeId)(l m:List SV)(f:XR→R):R:=
 match E.eqs t with
 |some ls=>qg 34 (fitS ls l) (qg 35 (fitS ls m) (match op with
  |.eql=>QY (eqSVs l m) f
  |.neq=>QY (!eqSVs l m) f
  |_=>.bad 36 0))
 |none=>.bad 37 0
theorem qoF(hE:XOk P E){m:List SV}(h:xEq E op t l m f=.ok ρ):kd ρ f id (rEq P op t l m):=by
 unfold xEq at h;split at h
 ·rename_i ls hl
  have hl:=hE.eqs _ _ hl;obtain⟨h1,h⟩:=qa h;obtain⟨h2,h⟩:=qa h;split at h
  ·rw[jY]at h;exact qd (obl:=fitS ls l=true∧fitS ls m=true) (by simp only[rEq,hl]) ⟨h1,h2⟩ h
  ·rw[jY]at h;exact qd (obl:=fitS ls l=true∧fitS ls m=true) (by simp only[rEq,hl]) ⟨h1,h2⟩ h
  ·cases h
 ·cases h
def qnP(E:XE)(op:BinOp)(t:TypeId)(a b:Bool)(f:XR→R):R:=
 match E.tys t with
 |some ⟨_,_,_,.bool⟩=>(match op with
  |.eql=>QY (a == b) f
  |.neq=>QY (!(a == b)) f
  |_=>.bad 38 0)
 |_=>.bad 39 0
def qnQ(E:XE)(op:BinOp)(t:TypeId)(u:Value)(y:SV)(f:XR→R):R:=
 match u with
 |.int k a=>(match y with|.val (.int k' b)=>qg 40 (eqKind k k') (qgr op k a b f)|_=>.bad 41 0)
 |.slice a n c=>Jt E op t a.isNone y f
 |.bool a=>(match y with|.val (.bool b)=>qnP E op t a b f|_=>.bad 42 0)
 |_=>.bad 43 0
def qcE(E:XE)(op:BinOp)(t:TypeId)(x y:SV)(f:XR→R):R:=
 match x with
 |.val u=>qnQ E op t u y f
 |.agg l=>(match y with|.agg m=>xEq E op t l m f|_=>.bad 44 0)
 |.vec _ n _=>qg 45 (Nat.ble 1 n) (Jt E op t false y f)
 |.cut _ n _=>qg 46 (Nat.ble 1 n) (Jt E op t false y f)
 |.arr _ _ n _ _=>qg 47 (Nat.ble 1 n) (Jt E op t false y f)
 |.asl _ _ _ _=>Jt E op t false y f
 |_=>.bad 48 0
theorem qdS(a b:Bool):(a == b)=decide (a=b):=by cases a<;>cases b<;>rfl
theorem qmi(hE:XOk P E){y:SV}(h:qcE E op t x y f=.ok ρ):kd ρ f id (rBin P op t x y):=by
 unfold qcE at h;split at h
 ·rename_i u
  unfold qnQ at h;split at h
  ·split at h
   ·obtain⟨h1,h2⟩:=qa h
    have e:=vL h1;subst e;have:∀(a b:Int)(k:IntKind),eqKind k k=true→rBin P op t (.val (.int k a)) (.val (.int k b))=rInt op k a b:=λa b k hk=>by simp only[rBin,hk,if_true]
    rw[this _ _ _ h1];exact qmh h2
   ·cases h
  ·obtain⟨v,s,rfl,h1,h2⟩:=yn hE h
   exact qd (h2 True) trivial h1
  ·split at h
   ·unfold qnP at h
    split at h
    ·rename_i ht
     have ht:=hE.tys _ _ ht;split at h
     ·rw[jY,qdS]at h;exact qd (by simp only[rBin,ht]) trivial h
     ·rw[jY,qdS]at h;exact qd (by simp only[rBin,ht]) trivial h
     ·cases h
    ·cases h
   ·cases h
  ·cases h
 ·split at h
  ·exact qoF hE h
  ·cases h
 ·obtain⟨h0,h⟩:=qa h
  obtain⟨v,s,rfl,h1,h2⟩:=yn hE h;exact qd (h2 _) (xa7 h0) h1
 ·obtain⟨h0,h⟩:=qa h
  obtain⟨v,s,rfl,h1,h2⟩:=yn hE h;exact qd (h2 _) (xa7 h0) h1
 ·obtain⟨h0,h⟩:=qa h
  obtain⟨v,s,rfl,h1,h2⟩:=yn hE h;exact qd (h2 _) (xa7 h0) h1
 ·obtain⟨v,s,rfl,h1,h2⟩:=yn hE h
  exact qd (h2 _) trivial h1
 ·cases h
def xUn(op:UnOp)(x:SV)(f:XR→R):R:=
 match x with
 |.val (.int k a)=>(match op with|.neg=>jX 50 k (Int.sub 0 a) f|_=>.bad 51 0)
 |.val (.bool b)=>(match op with|.not=>QY (!b) f|_=>.bad 52 0)
 |_=>.bad 53 0
theorem qoG{op:UnOp}(h:xUn op x f=.ok ρ):kd ρ f id (rUn op x):=by
 unfold xUn at h;split at h
 ·split at h
  ·exact qd rfl (kG h).1 (kG h).2
  ·cases h
 ·split at h
  ·rw[jY]at h;exact qd rfl trivial h
  ·cases h
 ·cases h
def qdT(E:XE)(s t:TypeId)(x:SV)(f:XR→R):R:=
 match E.tys s,E.tys t with
 |some _,some ⟨_,_,_,.int k⟩=>(match x with|.val (.int _ n)=>jX 54 k n f|_=>.bad 55 0)
 |_,_=>.bad 56 0
theorem qiO(hE:XOk P E){s:TypeId}(h:qdT E s t x f=.ok ρ):kd ρ f id (rConv (qk P s) (qk P t) x):=by
 unfold qdT at h;split at h
 ·rename_i hs ht
  rw[hE.tys _ _ hs,hE.tys _ _ ht];split at h
  ·exact qd rfl (kG h).1 (kG h).2
  ·cases h
 ·cases h
def qdU(c a b:SV)(f:XR→R):R:=
 match c with
 |.val (.bool c)=>(match c with|true=>f (.pure a)|false=>f (.pure b))
 |_=>.bad 57 0
theorem qiP{c b:SV}(h:qdU c a b f=.ok ρ):kd ρ f id (rPick c a b):=by
 unfold qdU at h;split at h
 ·split at h
  ·exact qd rfl trivial h
  ·exact qd rfl trivial h
 ·cases h
def WV(E:XE)(t:TypeId)(id:Nat)(f:XR→R):R:=
 match E.tys t with
 |some ⟨_,_,some z,_⟩=>Qk (vals z) λz=>f (.new (.cells t z) (.ptr id 0))
 |_=>.bad 60 0
theorem qgs(hE:XOk P E)(h:WV E t id f=.ok ρ):kd ρ f id (rAlloc (qk P t) t):=by
 unfold WV at h;split at h
 ·rename_i ht
  rw[kS]at h;rw[hE.tys _ _ ht];exact jE h rfl trivial ⟨rfl,rfl⟩ rfl
 ·cases h
def qmj(E:XE)(t:TypeId)(x:SV)(id:Nat)(f:XR→R):R:=
 match E.tys t with
 |some ⟨true,_,_,_⟩=>(match x with
  |.agg l=>f (.new (.cells t l) (.ptr id 0))
  |_=>.bad 61 0)
 |some ⟨false,_,_,_⟩=>qg 62 (oneCell x) (f (.new (.cells t [x]) (.ptr id 0)))
 |none=>.bad 63 0
theorem qmk(hE:XOk P E)(h:qmj E t x id f=.ok ρ):kd ρ f id (rBox (qk P t) t x):=by
 unfold qmj at h;split at h
 ·rename_i ht
  rw[hE.tys _ _ ht];split at h
  ·exact jE h rfl trivial ⟨rfl,rfl⟩ rfl
  ·cases h
 ·rename_i ht
  rw[hE.tys _ _ ht];obtain⟨h1,h⟩:=qa h;exact jE h rfl h1 ⟨rfl,rfl⟩ rfl
 ·cases h
def yo(l:List SV)(o:Nat)(f:XR→R):R:=match l[o]? with|some s=>f (.pure s)|none=>.bad 64 0
def yp(l:List SV)(o sz:Nat)(f:XR→R):R:=qg 65 (Nat.ble (o+sz) l.length) (jj ((l.drop o).take sz) λl=>f (.pure (.agg l)))
theorem vX(h:yo l o f=.ok ρ):∃s,l[o]? = some s∧f (.pure s)=.ok ρ:=by
 unfold yo at h;split at h
 ·simp_all
 ·cases h
theorem yS{sz:Nat}(h:yp l o sz f=.ok ρ):o+sz≤l.length∧f (.pure (.agg ((l.drop o).take sz)))=.ok ρ:=by
 unfold yp at h;obtain⟨h1,h⟩:=qa h;rw[qW]at h
 simp_all
def Qv(k k' n i j sz:Nat)(g:Nat→R):R:=qg 66 (Nat.beq k k') (qg 67 (Nat.ble (Nat.succ i) n) (qg 68 (Nat.ble (j+sz) k) (qj (i*k+j) g)))
theorem ZA{k' sz:Nat}{g:Nat→R}(h:Qv k k' n i j sz g=.ok ρ):k=k'∧i<n∧j+sz≤k∧g (i*k+j)=.ok ρ:=by
 unfold Qv at h;obtain⟨h1,h⟩:=qa h;obtain⟨h2,h⟩:=qa h;obtain⟨h3,h⟩:=qa h;rw[qe]at h;(simp_all;omega)
def Ks(hp:Tr 6 XB)(a:SV)(f:XR→R):R:=
 match a with
 |.ptr id off=>(match hp.find id with
  |some (.cells _ l)=>yo l off f
  |_=>.bad 69 0)
 |.elt id k i j=>(match hp.find id with
  |some (.rows _ k' n l)=>Qv k k' n i j 1 λo=>yo l o f
  |_=>.bad 70 0)
 |.ref _ n row=>qg 71 (Nat.ble 1 n) (Zz (row 0) f)
 |_=>.bad 72 0
def Kt(hp:Tr 6 XB)(sz:Nat)(a:SV)(f:XR→R):R:=
 match a with
 |.ptr id off=>(match hp.find id with
  |some (.cells _ l)=>yp l off sz f
  |_=>.bad 73 0)
 |.elt id k i j=>(match hp.find id with
  |some (.rows _ k' n l)=>Qv k k' n i j sz λo=>yp l o sz f
  |_=>.bad 74 0)
 |.ref _ n row=>qg 75 (Nat.ble sz n) (Qk (sel row 0 sz) λl=>f (.pure (.agg l)))
 |_=>.bad 76 0
def qax(E:XE)(hp:Tr 6 XB)(t:TypeId)(a:SV)(f:XR→R):R:=
 match E.tys t with
 |some ⟨false,_,_,_⟩=>Ks hp a f
 |some ⟨true,sz,_,_⟩=>Kt hp sz a f
 |none=>.bad 77 0
theorem gV(hi:i<n)(hj:j<k):i*k+j<n*k:=by
 have:=xa8 k (show i+1≤n from hi)
 grind
theorem RowL.get(h:RowL n k l row)(hi:i<n)(hj:j<k){s:SV}(hs:l[i*k+j]? = some s):row i j=s:=by
 rw[h.2 i j hi hj,xc6,hs];rfl
theorem RowL.sel(h:RowL n k l row){sz:Nat}(hi:i<n)(hj:j+sz≤k):sel (row i) j sz=(l.drop (i*k+j)).take sz:=by
 refine List.ext_getElem? λq=>?_;rw[yD,List.getElem?_take];by_cases c:q<sz
 ·rw[if_pos c,if_pos c,List.getElem?_drop,h.2 i (j+q) hi Ω,xc6]
  have:i*k+j+q<l.length:=by rw[h.1];have:=gV (k:=k) hi (Ω:j+q<k);omega
  grind
 ·grind
theorem qay(hE:XOk P E)(hH:HRel LM hp H)(h:qax E hp t a f=.ok ρ):kd ρ f id (rLoad (qk P t) H a):=by
 unfold qax at h;split at h
 ·rename_i ht
  rw[hE.tys _ _ ht];unfold Ks at h;split at h
  ·split at h
   ·rename_i hb
    obtain⟨s,h1,h2⟩:=vX h;simp only[rLoad,hH.cells hb];exact Zy rfl h1 h2
   ·cases h
  ·split at h
   ·rename_i hb
    obtain⟨row,hb,hr⟩:=hH.rows hb;obtain⟨rfl,h1,h2,h⟩:=ZA h;obtain⟨s,h3,h4⟩:=vX h;have:=hr.get h1 h2 h3;subst this;simp only[rLoad,hb];exact qd rfl ⟨trivial,h1,h2⟩ h4
   ·cases h
  ·obtain⟨h1,h⟩:=qa h
   rw[gG]at h;exact qd rfl (xa7 h1) h
  ·cases h
 ·rename_i sz _ _ ht
  rw[hE.tys _ _ ht];unfold Kt at h;split at h
  ·split at h
   ·rename_i hb
    obtain⟨h1,h2⟩:=yS h;simp only[rLoad,hH.cells hb];exact qd rfl h1 h2
   ·cases h
  ·split at h
   ·rename_i hb
    obtain⟨row,hb,hr⟩:=hH.rows hb;obtain⟨rfl,h1,h2,h⟩:=ZA h;obtain⟨h3,h4⟩:=yS h;rw[←hr.sel h1 h2]at h4;simp only[rLoad,hb];exact qd rfl ⟨trivial,h1,h2⟩ h4
   ·cases h
  ·obtain⟨h1,h⟩:=qa h
   rw[kS]at h;exact qd rfl (xa7 h1) h
  ·cases h
 ·cases h
def qaz(s:SV)(l:List SV)(o:Nat)(g:List SV→R):R:=qg 78 (Nat.ble (Nat.succ o) l.length) (jj (l.set o s) g)
def setN(vs:List SV)(l:List SV)(o:Nat)(g:List SV→R):R:=qg 79 (Nat.ble (o+vs.length) l.length) (jj (l.take o++vs++l.drop (o+vs.length)) g)
def ZB(hp:Tr 6 XB)(a v:SV)(f:XR→R):R:=
 match a with
 |.ptr id off=>(match hp.find id with
  |some (.cells t l)=>qaz v l off λl=>f (.upd id (.cells t l) undefSV)
  |_=>.bad 80 0)
 |.elt id k i j=>(match hp.find id with
  |some (.rows t k' n l)=>Qv k k' n i j 1 λo=>qaz v l o λl=>f (.upd id (.rows t k' n l) undefSV)
  |_=>.bad 81 0)
 |_=>.bad 82 0
def qdV(hp:Tr 6 XB)(a:SV)(vs:List SV)(f:XR→R):R:=
 match a with
 |.ptr id off=>(match hp.find id with
  |some (.cells t l)=>setN vs l off λl=>f (.upd id (.cells t l) undefSV)
  |_=>.bad 83 0)
 |.elt id k i j=>(match hp.find id with
  |some (.rows t k' n l)=>Qv k k' n i j vs.length λo=>setN vs l o λl=>f (.upd id (.rows t k' n l) undefSV)
  |_=>.bad 84 0)
 |_=>.bad 85 0
def Ju(E:XE)(hp:Tr 6 XB)(t:TypeId)(a v:SV)(f:XR→R):R:=
 match E.tys t with
 |some ⟨false,sz,_,_⟩=>qg 86 (oneCell v) (qg 87 (Nat.beq sz 1) (ZB hp a v f))
 |some ⟨true,sz,_,_⟩=>(match v with
  |.agg vs=>qg 88 (allOne vs) (qg 89 (Nat.beq vs.length sz) (qdV hp a vs f))
  |_=>.bad 90 0)
 |none=>.bad 91 0
theorem qdW{s:SV}{g:List SV→R}(h:qaz s l o g=.ok ρ):o<l.length∧g (l.set o s)=.ok ρ:=by
 unfold qaz at h;obtain⟨h1,h⟩:=qa h;rw[qW]at h;(simp_all;omega)
theorem qdX{vs:List SV}{g:List SV→R}(h:setN vs l o g=.ok ρ):o+vs.length≤l.length∧g (l.take o++vs++l.drop (o+vs.length))=.ok ρ:=by
 unfold setN at h;obtain⟨h1,h⟩:=qa h;rw[qW]at h
 simp_all
theorem qml{a b:Nat}(hj:j<k)(hb:b<k):a*k+b=i*k+j↔a=i∧b=j:=by
 constructor
 ·intro h
  have h1:(a*k+b) / k=a:=by rw[Nat.mul_comm,Nat.mul_add_div Ω,Nat.div_eq_of_lt hb,xb1]
  have h2:(i*k+j) / k=i:=by rw[Nat.mul_comm,Nat.mul_add_div Ω,Nat.div_eq_of_lt hj,xb1]
  simp_all
 ·simp_all
theorem RowL.set(h:RowL n k l row)(hi:i<n)(hj:j<k)(v:SV):RowL n k (l.set (i*k+j) v) (λa b=>if a=i∧b=j then v else row a b):=by
 refine⟨by rw[xe5];exact h.1,λa b ha hb=>?_⟩;have hlt:i*k+j<l.length:=by rw[h.1];exact gV hi hj
 show(if a=i∧b=j then v else row a b)=_;rw[xc6,List.getElem?_set];by_cases c:a=i∧b=j
 ·simp_all
 ·rw[if_neg c,if_neg (λe=>c ((qml hj hb).1 e.symm)),h.2 a b ha hb,xc6]
theorem RowL.setN{vs:List SV}(h:RowL n k l row)(hi:i<n)(hj:j+vs.length≤k):RowL n k (l.take (i*k+j)++vs++l.drop (i*k+j+vs.length)) (λa b=>if a=i∧j≤b∧b<j+vs.length then vs.getD (b - j) .top else row a b):=by
 by_cases hk:k=0
 ·simp_all
 have hend:i*k+j+vs.length≤l.length:=by
  rw[h.1];have:=xa8 k (show i+1≤n from hi)
  grind
 refine⟨by rw[xc8,xc8,xd9,List.length_drop,←h.1];omega,λa b ha hb=>?_⟩;have ht:(l.take (i*k+j)).length=i*k+j:=by rw[xd9];omega
 show(if a=i∧j≤b∧b<j+vs.length then vs.getD (b - j) .top else row a b)=_;rw[xc6,h.2 a b ha hb,xc6,xc6];by_cases c:a=i∧j≤b∧b<j+vs.length
 ·obtain⟨rfl,c1,c2⟩:=c
  rw[if_pos ⟨rfl,c1,c2⟩,xc9 (by rw[xc8,ht];omega),xd0 Ω,ht]
  congr 2;omega
 ·rw[if_neg c]
  by_cases d:a*k+b<i*k+j
  ·rw[xc9 (by rw[xc8,ht];omega),xc9 Ω,List.getElem?_take,if_pos d]
  ·have hge:i*k+j+vs.length≤a*k+b:=by
    by_cases e:a=i
    ·subst e
     have:¬(j≤b∧b<j+vs.length):=λx=>c ⟨rfl,x⟩;omega
    ·have:i+1≤a:=by
      refine xf9 λx=>?_;have:=xa8 k (Ω:a+1≤i);rw[Nat.add_mul,Nat.one_mul]at this;omega
     have:=xa8 k this;rw[Nat.add_mul,Nat.one_mul]at this;omega
   rw[xd0 (by rw[xc8,ht];omega),xc8,ht,List.getElem?_drop]
   congr 2;omega
theorem qgt(hE:XOk P E)(hH:HRel LM hp H){v:SV}(h:Ju E hp t a v f=.ok ρ):kd ρ f id (rStore (qk P t) H a v):=by
 unfold Ju at h;split at h
 ·rename_i ht
  rw[hE.tys _ _ ht];obtain⟨h1,h⟩:=qa h;obtain⟨h2,h⟩:=qa h;have h2:=xa6 h2;unfold ZB at h;split at h
  ·split at h
   ·rename_i hb
    obtain⟨h3,h⟩:=qdW h;simp only[rStore,hH.cells hb];exact gF h rfl ⟨h3,h1,h2⟩ ⟨rfl,rfl⟩
   ·cases h
  ·split at h
   ·rename_i hb
    obtain⟨row,hb,hr⟩:=hH.rows hb;obtain⟨rfl,h3,h4,h⟩:=ZA h;obtain⟨h5,h⟩:=qdW h;simp only[rStore,hb];exact gF h rfl ⟨trivial,h3,h4,h1,h2⟩ ⟨rfl,rfl,rfl,hr.set h3 h4 v⟩
   ·cases h
  ·cases h
 ·rename_i sz _ _ ht
  rw[hE.tys _ _ ht];split at h
  ·rename_i vs
   obtain⟨h1,q1⟩:=qa h;obtain⟨h2,q⟩:=qa q1;have h2:=xa6 h2;subst h2;unfold qdV at q;split at q
   ·split at q
    ·rename_i hb
     obtain⟨h3,q⟩:=qdX q;simp only[rStore,hH.cells hb];exact gF q rfl ⟨h3,trivial,h1⟩ ⟨rfl,rfl⟩
    ·cases q
   ·split at q
    ·rename_i hb
     obtain⟨row,hb,hr⟩:=hH.rows hb;obtain⟨rfl,h3,h4,q⟩:=ZA q;obtain⟨h5,q⟩:=qdX q;simp only[rStore,hb];exact gF q rfl ⟨trivial,h3,h4,trivial,h1⟩ ⟨rfl,rfl,rfl,hr.setN h3 h4⟩
    ·cases q
   ·cases q
  ·cases h
 ·cases h
end
end
end Go.Sx
end
section
namespace Go.Sx
open Go.RowKit
noncomputable section
variable{x:SV}{t:TypeId}{i k m n:Nat}{l:List SV}{row:Nat→Nat→SV}
variable{ρ:Q}
section
variable{P:Program}{E:XE}{f:XR→R}{id:Nat}{hp:Tr 6 XB}{H:List (Nat×Blk)}{LM:Nat→Option Loop}
def qiQ(x:SV)(f:XR→R):R:=
 match x with
 |.ptr id off=>f (.pure (.ptr id off))
 |.elt id k i j=>f (.pure (.elt id k i j))
 |.ref o n row=>f (.pure (.ref o n row))
 |.fn (.func g) a b=>f (.pure (.fn (.func g) a b))
 |_=>.bad 100 0
theorem qmm(h:qiQ x f=.ok ρ):kd ρ f id (rNil x):=by
 unfold qiQ at h;split at h<;>first|exact qd rfl trivial h|cases h
def ZC(x:SV)(o:Nat)(f:XR→R):R:=
 match x with
 |.ptr id off=>Zz (.ptr id (off+o)) f
 |.elt id k i j=>Zz (.elt id k i (j+o)) f
 |.ref b n row=>qg 101 (Nat.ble o n) (f (.pure (.ref b (n - o) (λj=>row (o+j)))))
 |_=>.bad 102 0
def vk(E:XE)(t:TypeId)(x:SV)(i:Nat)(f:XR→R):R:=
 match E.tys t with
 |some ⟨_,_,_,.struct fs⟩=>(match fs[i]? with
  |some (o,s,_)=>qg 103 (Nat.ble 1 s) (ZC x o f)
  |none=>.bad 104 0)
 |_=>.bad 105 0
theorem Vl(hE:XOk P E)(h:vk E t x i f=.ok ρ):kd ρ f id (rFieldAddr (qk P t) x i):=by
 unfold vk at h;split at h
 ·rename_i ht
  rw[hE.tys _ _ ht];split at h
  ·rename_i o s ag hf
   obtain⟨h1,q⟩:=qa h;have h1:s≠0:=by have:=xa7 h1;omega
   unfold ZC at q;simp only[rFieldAddr,hf];split at q
   ·rw[gG]at q;exact qd rfl h1 q
   ·rw[gG]at q;exact qd rfl h1 q
   ·obtain⟨h2,q⟩:=qa q
    exact qd rfl ⟨h1,xa7 h2⟩ q
   ·cases q
  ·cases h
 ·cases h
def WW(E:XE)(t:TypeId)(x:SV)(i:Nat)(f:XR→R):R:=
 match E.tys t with
 |some ⟨_,_,_,.struct fs⟩=>(match fs[i]? with
  |some (o,s,ag)=>(match x with
   |.agg l=>(match ag with
    |some true=>yp l o s f
    |some false=>yo l o f
    |none=>.bad 106 0)
   |_=>.bad 107 0)
  |none=>.bad 108 0)
 |_=>.bad 109 0
theorem qgu(hE:XOk P E)(h:WW E t x i f=.ok ρ):kd ρ f id (rField (qk P t) x i):=by
 unfold WW at h;split at h
 ·rename_i ht
  rw[hE.tys _ _ ht];split at h
  ·rename_i o s ag hf
   split at h
   ·simp only[rField,hf]
    split at h
    ·obtain⟨h1,h2⟩:=yS h;exact qd rfl h1 h2
    ·obtain⟨s,h1,h2⟩:=vX h;exact Zy rfl h1 h2
    ·cases h
   ·cases h
  ·cases h
 ·cases h
def Vm(i:SV)(n:Nat)(g:Nat→R):R:=
 match i with
 |.val (.int _ (.ofNat i))=>qg 110 (Nat.ble (Nat.succ i) n) (g i)
 |_=>.bad 111 0
theorem vz{i:SV}{g:Nat→R}(h:Vm i n g=.ok ρ):∃k a,i=.val (.int k (.ofNat a))∧0≤Int.ofNat a∧Int.ofNat a<(n:Int)∧g a=.ok ρ:=by
 unfold Vm at h;split at h
 ·obtain⟨h1,h⟩:=qa h
  exact⟨_,_,rfl,qM _,by have:=xa7 h1;simp only[Int.ofNat_eq_natCast];omega,h⟩
 ·cases h
def qdY(k:Nat)(x i:SV)(f:XR→R):R:=
 match x with
 |.arr o _ n k' row=>qg 112 (Nat.beq k' k) (Vm i n λi=>f (.pure (.ref o k (row i))))
 |.vec id n k'=>qg 113 (Nat.beq k' k) (Vm i n λi=>f (.pure (.elt id k i 0)))
 |.asl id off n k'=>qg 114 (Nat.beq k' k) (Vm i n λi=>Zz (.ptr id (off+i*k)) f)
 |.que id off n k'=>qg 115 (Nat.beq k' k) (Vm i n λi=>Zz (.elt id k (off+i) 0) f)
 |_=>.bad 116 0
def qdZ(n k:Nat)(x i:SV)(f:XR→R):R:=
 match x with
 |.ptr id off=>Vm i n λi=>Zz (.ptr id (off+i*k)) f
 |.ref o m row=>Vm i n λi=>qg 117 (Nat.ble (i*k) m) (f (.pure (.ref o (m - i*k) (λj=>row (i*k+j)))))
 |_=>.bad 118 0
def wF(E:XE)(t:TypeId)(x i:SV)(f:XR→R):R:=
 match E.tys t with
 |some ⟨_,_,_,.slice _ k⟩=>qdY k x i f
 |some ⟨_,_,_,.array n _ k⟩=>qdZ n k x i f
 |_=>.bad 119 0
theorem Vn(hE:XOk P E){i:SV}(h:wF E t x i f=.ok ρ):kd ρ f id (rIndexAddr (qk P t) x i):=by
 unfold wF at h;split at h
 ·rename_i ht
  rw[hE.tys _ _ ht];unfold qdY at h;split at h
  ·obtain⟨h1,h⟩:=qa h
   obtain⟨_,a,rfl,h2,h3,h⟩:=vz h;exact qd rfl ⟨h2,h3,xa6 h1⟩ h
  ·obtain⟨h1,h⟩:=qa h
   obtain⟨_,a,rfl,h2,h3,h⟩:=vz h;exact qd rfl ⟨h2,h3,xa6 h1⟩ h
  ·obtain⟨h1,h⟩:=qa h
   obtain⟨_,a,rfl,h2,h3,h⟩:=vz h;rw[gG]at h;exact qd rfl ⟨h2,h3,xa6 h1⟩ h
  ·obtain⟨h1,h⟩:=qa h
   obtain⟨_,a,rfl,h2,h3,h⟩:=vz h;rw[gG]at h;exact qd rfl ⟨h2,h3,xa6 h1⟩ h
  ·cases h
 ·rename_i ht
  rw[hE.tys _ _ ht];unfold qdZ at h;split at h
  ·obtain⟨_,a,rfl,h2,h3,h⟩:=vz h
   rw[gG]at h;exact qd rfl ⟨h2,h3⟩ h
  ·obtain⟨_,a,rfl,h2,h3,h⟩:=vz h
   obtain⟨h1,h⟩:=qa h;exact qd rfl ⟨h2,h3,xa7 h1⟩ h
  ·cases h
 ·cases h
def qea(E:XE)(e:TypeId)(n k:Nat)(l:List SV)(i:SV)(f:XR→R):R:=
 match E.tys e with
 |some ⟨true,_,_,_⟩=>Vm i n λi=>yp l (i*k) k f
 |some ⟨false,_,_,_⟩=>qg 120 (Nat.beq k 1) (Vm i n λi=>yo l i f)
 |none=>.bad 121 0
def qeb(s:ByteArray)(i:SV)(f:XR→R):R:=
 match i with
 |.val (.int _ (.ofNat a))=>(match s[a]? with
  |some b=>qj b.toNat λn=>f (.pure (.val (.int .u8 (.ofNat n))))
  |none=>.bad 159 0)
 |_=>.bad 159 1
def WX(E:XE)(t:TypeId)(x i:SV)(f:XR→R):R:=
 match E.tys t with
 |some ⟨_,_,_,.array n e k⟩=>(match x with
  |.agg l=>qea E e n k l i f
  |_=>.bad 122 0)
 |some ⟨_,_,_,.other⟩=>(match x with
  |.val (.string s)=>qg 158 (E.str t) (qeb s i f)
  |_=>.bad 123 t)
 |_=>.bad 123 0
theorem qgv(hE:XOk P E){i:SV}(h:WX E t x i f=.ok ρ):kd ρ f id (rIndex P t x i):=by
 unfold WX at h;split at h
 ·rename_i ht
  have ht:=hE.tys _ _ ht;split at h
  ·unfold qea at h
   split at h
   ·rename_i he
    have he:=hE.tys _ _ he;obtain⟨_,a,rfl,h2,h3,h⟩:=vz h;obtain⟨h4,h5⟩:=yS h;simp only[rIndex,ht,he];exact qd rfl ⟨h2,h3,h4⟩ h5
   ·rename_i he
    have he:=hE.tys _ _ he;obtain⟨h1,h⟩:=qa h;obtain⟨_,a,rfl,h2,h3,h⟩:=vz h;obtain⟨s,h4,h5⟩:=vX h;simp only[rIndex,ht,he];exact Zy rfl ⟨h2,h3,xa6 h1,h4⟩ h5
   ·cases h
  ·cases h
 ·rename_i ht
  have ht:=hE.tys _ _ ht;split at h
  ·obtain⟨h1,h⟩:=qa h
   have hu:=hE.str _ h1;unfold qeb at h;split at h
   ·split at h
    ·rename_i b hb
     rw[qe]at h;simp only[rIndex,ht,hu];exact Zy rfl ⟨qM _,b,hb,rfl⟩ h
    ·cases h
   ·cases h
  ·cases h
 ·cases h
def ZD(x:SV)(i:Nat)(f:XR→R):R:=
 match x with
 |.tup l=>yo l i f
 |_=>.bad 124 0
theorem qaA(h:ZD x i f=.ok ρ):kd ρ f id (rExtract x i):=by
 unfold ZD at h;split at h
 ·obtain⟨s,h1,h2⟩:=vX h;exact Zy rfl h1 h2
 ·cases h
def qiR(x:SV)(f:XR→R):R:=
 match x with
 |.arr _ _ n _ _=>f (.pure (.val (.int .i64 (.ofNat n))))
 |.vec _ n _=>f (.pure (.val (.int .i64 (.ofNat n))))
 |.asl _ _ n _=>f (.pure (.val (.int .i64 (.ofNat n))))
 |.que _ _ n _=>f (.pure (.val (.int .i64 (.ofNat n))))
 |.cut _ n _=>f (.pure (.val (.int .i64 (.ofNat n))))
 |.val (.slice none 0 0)=>f (.pure (.val (.int .i64 0)))
 |_=>.bad 125 0
def qgw(E:XE)(t:TypeId)(x:SV)(f:XR→R):R:=
 match E.tys t with
 |some ⟨_,_,_,.slice _ _⟩=>qiR x f
 |some ⟨_,_,_,.array n _ _⟩=>f (.pure (.val (.int .i64 (.ofNat n))))
 |_=>.bad 126 0
theorem qmn(hE:XOk P E)(h:qgw E t x f=.ok ρ):kd ρ f id (rLen (qk P t) x):=by
 unfold qgw at h;split at h
 ·rename_i ht
  rw[hE.tys _ _ ht];unfold qiR at h;split at h<;>first|exact qd rfl trivial h|cases h
 ·rename_i ht
  rw[hE.tys _ _ ht];exact qd rfl trivial h
 ·cases h
def qiS(mx:Bool)(a b:Int):Int:=Bool.rec (Bool.rec b a (K6 a b)) (Bool.rec a b (K6 a b)) mx
theorem WY(mx:Bool)(a b:Int):qiS mx a b=if mx=true then max a b else min a b:=by
 unfold qiS;rw[Gh];by_cases c:a<b
 ·rw[decide_eq_true c];cases mx<;>simp<;>omega
 ·rw[decide_eq_false c];cases mx<;>simp<;>omega
def qmo(mx:Bool)(l:List SV)(f:XR→R):R:=
 match l with
 |[.val (.int k a),.val (.int k' b)]=>qg 127 (eqKind k k') (qas (qiS mx a b) λn=>f (.pure (.val (.int k n))))
 |[.val (.int k a),.val (.int k' b),.val (.int k'' c)]=>qg 128 (eqKind k k') (qg 129 (eqKind k k'') (qas (qiS mx (qiS mx a b) c) λn=>f (.pure (.val (.int k n)))))
 |_=>.bad 130 0
theorem qec{mx:Bool}(h:qmo mx l f=.ok ρ):kd ρ f id (rMin mx l):=by
 unfold qmo at h;split at h
 ·obtain⟨h1,h⟩:=qa h
  rw[jW,WY]at h;simp only[rMin,rMin2,h1,if_true];exact qd rfl trivial h
 ·obtain⟨h1,h⟩:=qa h
  obtain⟨h2,h⟩:=qa h;rw[jW,WY,WY]at h;simp only[rMin,rMin2,h1,h2,if_true];exact qd rfl trivial h
 ·cases h
theorem RowL.take(h:RowL n k l row)(hm:m≤n):RowL m k (l.take (m*k)) row:=by
 have hmk:m*k≤n*k:=xa8 k hm;refine⟨by rw[xd9,h.1];omega,λi j hi hj=>?_⟩;rw[h.2 i j Ω hj,xc6,xc6,List.getElem?_take,if_pos (gV hi hj)]
theorem RowL.app{l2:List SV}{row2:Nat→Nat→SV}(h:RowL n k l row)(h2:RowL m k l2 row2):RowL (n+m) k (l++l2) (λi j=>if i<n then row i j else row2 (i - n) j):=by
 refine⟨by rw[xc8,h.1,h2.1,Nat.add_mul],λi j hi hj=>?_⟩;show(if i<n then row i j else row2 (i - n) j)=_;rw[xc6];by_cases c:i<n
 ·rw[if_pos c,h.2 i j c hj,xc6,xc9 (by rw[h.1];exact gV c hj)]
 ·have hge:n*k≤i*k:=xa8 k Ω
  rw[if_neg c,h2.2 (i - n) j Ω hj,xc6,xd0 (by rw[h.1];omega),h.1,Nat.sub_mul]
  congr 2;omega
theorem RowL.nil(row:Nat→Nat→SV):RowL 0 k [] row:=⟨Ωj,λi j hi=>by omega⟩
def wS(row:Nat→Nat→SV)(k:Nat):Nat→List SV
 |0=>[]
 |n+1=>wS row k n++sel (row n) 0 k
theorem jF(row:Nat→Nat→SV)(k:Nat):∀n,RowL n k (wS row k n) row
 |0=>RowL.nil row
 |n+1=>by
  have h1:=jF row k n;have h2:RowL 1 k (sel (row n) 0 k) (λi j=>row (n+i) j):=by
   refine⟨by rw[jq,Nat.one_mul],λi j hi hj=>?_⟩;obtain rfl:i=0:=by omega
   rw[xc6,yD,Nat.zero_mul,xb0,xb0,if_pos hj];rfl
  have h3:=h1.app h2;refine⟨h3.1,λi j hi hj=>?_⟩;rw[show(wS row k (n+1))=wS row k n++sel (row n) 0 k from rfl,←h3.2 i j hi hj];show _=if i<n then row i j else row (n+(i - n)) j
  by_cases c:i<n
  ·rw[if_pos c]
  ·simp_all
def ZE(hp:Tr 6 XB)(x:SV)(g:Nat→Nat→List SV→R):R:=
 match x with
 |.vec id n k=>(match hp.find id with
  |some (.rows _ k' n' l)=>qg 131 (Nat.ble n n') (qg 132 (Nat.beq k k') (jj (l.take (n*k)) λl=>g n k l))
  |_=>.bad 133 0)
 |.cut id n k=>(match hp.find id with
  |some (.rows _ k' n' l)=>qg 134 (Nat.ble n n') (qg 135 (Nat.beq k k') (jj (l.take (n*k)) λl=>g n k l))
  |_=>.bad 136 0)
 |.asl id off n k=>(match hp.find id with
  |some (.cells _ l)=>qg 137 (Nat.ble (off+n*k) l.length) (jj ((l.drop off).take (n*k)) λl=>g n k l)
  |_=>.bad 138 0)
 |.arr _ _ n k row=>Qk (wS row k n) λl=>g n k l
 |.val u=>qg 139 (nilSlice u) (g 0 1 [])
 |_=>.bad 140 0
theorem vY(hH:HRel LM hp H){g:Nat→Nat→List SV→R}(h:ZE hp x g=.ok ρ):∃obl m k row l,rowsOf H x=some (obl,m,k,row)∧obl∧RowL m k l row∧g m k l=.ok ρ:=by
 unfold ZE at h;split at h
 ·split at h
  ·rename_i i n k _ _ k' n' l hb
   obtain⟨row,hb,hr⟩:=hH.rows hb;obtain⟨h1,q1⟩:=qa h;obtain⟨h2,q⟩:=qa q1;have h1:=xa7 h1;have h2:=xa6 h2;rw[qW]at q;have e:rowsOf H (.vec i n k)=some (n≤n'∧k=k',n,k,row):=by simp only[rowsOf,hb]
   refine⟨_,_,_,row,_,e,⟨h1,h2⟩,?_,q⟩;rw[h2];exact hr.take h1
  ·cases h
 ·split at h
  ·rename_i i n k _ _ k' n' l hb
   obtain⟨row,hb,hr⟩:=hH.rows hb;obtain⟨h1,q1⟩:=qa h;obtain⟨h2,q⟩:=qa q1;have h1:=xa7 h1;have h2:=xa6 h2;rw[qW]at q;have e:rowsOf H (.cut i n k)=some (n≤n'∧k=k',n,k,row):=by simp only[rowsOf,hb]
   refine⟨_,_,_,row,_,e,⟨h1,h2⟩,?_,q⟩;rw[h2];exact hr.take h1
  ·cases h
 ·split at h
  ·rename_i off n k _ _ l hb
   obtain⟨h1,h⟩:=qa h;have h1:=xa7 h1;rw[qW]at h;refine⟨_,_,_,_,_,by simp only[rowsOf,hH.cells hb];rfl,h1,⟨by rw[xd9,List.length_drop];omega,λi j hi hj=>?_⟩,h⟩;rw[xc6,xc6,List.getElem?_take,if_pos (gV hi hj),List.getElem?_drop]
  ·cases h
 ·rw[kS]at h
  exact⟨_,_,_,_,_,rfl,trivial,jF _ _ _,h⟩
 ·obtain⟨h1,h⟩:=qa h
  exact⟨_,_,_,_,_,by simp only[rowsOf,h1,if_true];rfl,trivial,RowL.nil _,h⟩
 ·cases h
theorem Jv:∀{l:List SV}{i:Nat}{s:SV},allOne l=true→l[i]? = some s→oneCell s=true
 |[],i,s,h,e=>by simp at e
 |a :: l,i,s,h,e=>by
  simp only[allOne,xe6]at h;cases i with
  |zero=>simp at e;subst e;exact h.1
  |succ i=>exact Jv h.2 (by simpa using e)
theorem RowL.one(h:RowL n k l row)(h1:allOne l=true):oneRows n k row:=λi j hi hj=>by
 have hlt:i*k+j<l.length:=by rw[h.1];exact gV hi hj
 rw[h.2 i j hi hj,xc6,xc7 hlt];exact Jv h1 (xc7 hlt)
def orK(a b:Bool):Bool:=Bool.rec b true a
theorem WZ{a b:Bool}(h:orK a b=true):a=true∨b=true:=by cases a<;>first|exact .inr h|exact .inl rfl
def qed(e k:Nat)(m k2:Nat)(l2:List SV)(n k1:Nat)(l1:List SV)(id:Nat)(f:XR→R):R:=
 qg 141 (Nat.ble 1 m) (qg 142 (orK (Nat.beq n 0) (Nat.beq k1 k)) (qg 143 (Nat.beq k2 k) (qj (n+m) λq=>qg 144 (Nat.ble q 1000000) (jj (l1++l2) λl=>f (.new (.rows e k q l) (.vec id q k))))))
def qnR(hp:Tr 6 XB)(e k id0 n k' m k2:Nat)(l2:List SV)(id:Nat)(f:XR→R):R:=
 match hp.find id0 with
 |some (.rows t' k'' n' l1)=>qg 145 (orK (Nat.beq m 0) (Nat.beq k2 k)) (qg 146 (Nat.beq k' k) (qg 147 (Nat.beq k'' k) (qg 148 (Nat.beq t' e) (qg 149 (Nat.ble n n') (qg 150 (allOne l2) (qj (n+m) λq=>qg 151 (Nat.ble q 1000000) (jj (l1.take (n*k)++l2) λl=>f (.grow id0 (.rows e k q l) (.vec id q k)))))))))
 |_=>.bad 152 0
def qnS(hp:Tr 6 XB)(e k:Nat)(s:SV)(m k2:Nat)(l2:List SV)(id:Nat)(f:XR→R):R:=
 match s with
 |.vec id0 n k'=>qnR hp e k id0 n k' m k2 l2 id f
 |.val u=>qg 153 (nilSlice u) (qg 154 (orK (Nat.beq m 0) (Nat.beq k2 k)) (qg 155 (Nat.ble m 1000000) (f (.new (.rows e k m l2) (.vec id m k)))))
 |.cut i n kk=>ZE hp (.cut i n kk) λn k1 l1=>qed e k m k2 l2 n k1 l1 id f
 |.arr o true n kk row=>ZE hp (.arr o true n kk row) λn k1 l1=>qed e k m k2 l2 n k1 l1 id f
 |_=>.bad 156 0
def ZF(E:XE)(hp:Tr 6 XB)(t:TypeId)(s x:SV)(id:Nat)(f:XR→R):R:=
 match E.sls t with
 |some (e,k,_)=>ZE hp x λm k2 l2=>qnS hp e k s m k2 l2 id f
 |none=>.bad 157 0
theorem RowL.of0{k2:Nat}(h:RowL m k2 l row)(h0:m=0∨k2=k):RowL m k l row:=by
 rcases h0 with rfl|rfl
 ·have:=h.1
  rw[Nat.zero_mul]at this;rw[List.length_eq_zero_iff.1 this];exact RowL.nil row
 ·exact h
theorem qcF(hE:XOk P E)(hH:HRel LM hp H){s:SV}(h:ZF E hp t s x id f=.ok ρ):kd ρ f id (rAppend P t H s x):=by
 unfold ZF at h;split at h
 ·rename_i e k z ht
  obtain⟨⟨_,_,_,h1⟩,⟨_,_,_,h2⟩,h3,h4,h5⟩:=hE.sls _ _ _ _ ht;obtain⟨obl,m,k2,row2,l2,hx,ho,hr,h⟩:=vY hH h;simp only[rAppend,h1,h2,hx];have new:∀{n k1:Nat}{l1:List SV}{row1:Nat→Nat→SV}{obl1:Prop},qed e k m k2 l2 n k1 l1 id f=.ok ρ→obl1→RowL n k1 l1 row1→kd ρ f id (.new (obl1∧obl∧0<m∧(n=0∨k1=k)∧k2=k∧0<k∧z.length=k∧n+m≤1000000∧qE P e≤100000000) (.rows e k (n+m) (λi j=>if i<n then row1 i j else row2 (i - n) j)) (λid=>.vec id (n+m) k)):=by
   intro n k1 l1 row1 obl1 h ho1 hr1;unfold qed at h;obtain⟨q1,h⟩:=qa h;obtain⟨q2,h⟩:=qa h;obtain⟨q3,h⟩:=qa h;rw[qe]at h;obtain⟨q4,h⟩:=qa h;rw[qW]at h;have q1:=xa7 q1;have q2:n=0∨k1=k:=(WZ q2).imp xa6 xa6;have q3:=xa6 q3;have q4:=xa7 q4;exact jE h rfl ⟨ho1,ho,q1,q2,q3,h3,h4,q4,h5⟩ ⟨rfl,rfl,rfl,(hr1.of0 q2).app (hr.of0 (.inr q3))⟩ rfl
  unfold qnS at h;split at h
  ·unfold qnR at h
   split at h
   ·rename_i hb
    obtain⟨row,hb,hr1⟩:=hH.rows hb;obtain⟨q1,h⟩:=qa h;obtain⟨q2,h⟩:=qa h;obtain⟨q3,h⟩:=qa h;obtain⟨q4,h⟩:=qa h;obtain⟨q5,h⟩:=qa h;obtain⟨q6,h⟩:=qa h;rw[qe]at h;obtain⟨q7,h⟩:=qa h;rw[qW]at h;have q1:m=0∨k2=k:=(WZ q1).imp xa6 xa6;have q2:=xa6 q2;have q3:=xa6 q3;have q4:=xa6 q4;have q5:=xa7 q5;have q7:=xa7 q7;simp only[hb];rw[q3]at hr1;exact qgp h rfl ⟨ho,q1,q2,q3,q4,q5,h3,h4,(hr.of0 q1).one q6,q7,h5⟩ ⟨rfl,rfl,rfl,(hr1.take q5).app (hr.of0 q1)⟩ rfl
   ·cases h
  ·obtain⟨q1,h⟩:=qa h
   obtain⟨q2,h⟩:=qa h;obtain⟨q3,h⟩:=qa h;have q2:m=0∨k2=k:=(WZ q2).imp xa6 xa6;simp only[q1];exact jE h rfl ⟨ho,q2,h3,h4,xa7 q3,h5⟩ ⟨rfl,rfl,rfl,hr.of0 q2⟩ rfl
  ·obtain⟨obl1,n,k1,row1,l1,hx1,ho1,hr1,h⟩:=vY hH h
   simp only[hx1];exact new h ho1 hr1
  ·obtain⟨obl1,n,k1,row1,l1,hx1,ho1,hr1,h⟩:=vY hH h
   simp only[hx1];exact new h ho1 hr1
  ·cases h
 ·cases h
end
end
end Go.Sx
end
section
namespace Go.Sx
open Go.RowKit
noncomputable section
variable{g:Nat→R}{a m n:Nat}{l:List SV}{t:TypeId}{k s x:SV}{row:Nat→Nat→SV}{fr:Tr 3 SV}{F:Nat→SV}
variable{ρ:Q}
section
variable{P:Program}{E:XE}{f:XR→R}{id:Nat}{hp:Tr 6 XB}{H:List (Nat×Blk)}{LM:Nat→Option Loop}
def Ku(d:Nat)(o:Option SV)(g:Nat→R):R:=
 match o with
 |none=>g d
 |some (.val (.int _ (.ofNat i)))=>g i
 |_=>.bad 160 0
theorem ZG{d:Nat}{o:Option SV}(h:Ku d o g=.ok ρ):∃a,bnd (d:Int) o=some (Int.ofNat a)∧g a=.ok ρ:=by
 unfold Ku at h;split at h
 ·exact⟨d,rfl,h⟩
 ·exact⟨_,rfl,h⟩
 ·cases h
theorem jG{o:Option SV}(h:Ku 0 o g=.ok ρ):∃a,bnd 0 o=some (Int.ofNat a)∧g a=.ok ρ:=ZG (d:=0) h
theorem ofNat_le{b:Nat}(h:a≤b):Int.ofNat a≤Int.ofNat b:=by simp only[Int.ofNat_eq_natCast];omega
theorem Kv{b:Nat}:(Int.ofNat b - Int.ofNat a).toNat=b - a:=by simp only[Int.ofNat_eq_natCast];omega
def qee(k:Nat)(id n k':Nat)(lo hi mx:Option SV)(f:XR→R):R:=
 Ku 0 lo λl=>Ku n hi λh=>qg 162 (Nat.ble h n) (qg 163 (Nat.beq k' k) (qg 161 (Nat.ble l h) (match mx with
  |none=>Bool.rec (qg 182 (Nat.beq h n) (qj (h - l) λq=>f (.pure (.que id l q k)))) (f (.pure (.vec id h k))) (Nat.beq l 0)
  |some m=>Ku 0 (some m) λm=>qg 164 (Nat.ble h m) (qg 165 hi.isSome (qg 183 (Nat.ble m n) (Bool.rec (f (.pure .top)) (f (.pure (.cut id h k))) (Nat.beq l 0&&Nat.beq h m)))))))
def qef(u:Value)(lo hi mx:Option SV)(f:XR→R):R:=
 Ku 0 lo λl=>Ku 0 hi λh=>qg 166 (nilSlice u) (qg 167 (Nat.beq l 0) (qg 168 (Nat.beq h 0) (match mx with
  |none=>f (.pure (.val (.slice none 0 0)))
  |some m=>Ku 0 (some m) λm=>qg 169 (Nat.beq m 0) (qg 170 hi.isSome (f (.pure (.val (.slice none 0 0))))))))
def qiT(l h n:Nat):Bool:=Bool.rec false (Bool.rec false (orK (Nat.beq l 0) (Nat.ble (Nat.succ l) h)) (Nat.ble h n)) (Nat.ble l h)
theorem qaB{l h:Nat}(e:qiT l h n=true):0≤Int.ofNat l∧(Int.ofNat l=0∨Int.ofNat l<Int.ofNat h)∧Int.ofNat l≤Int.ofNat h∧Int.ofNat h≤(n:Int):=by
 unfold qiT at e;cases h1:Nat.ble l h with
 |false=>rw[h1]at e;cases e
 |true=>
  rw[h1]at e;cases h2:Nat.ble h n with
  |false=>rw[h2]at e;cases e
  |true=>
   rw[h2]at e;have e:orK (Nat.beq l 0) (Nat.ble (Nat.succ l) h)=true:=e;have h1:=xa7 h1;have h2:=xa7 h2;have e:=(WZ e).imp xa6 xa7
   grind
def Gj(n k:Nat)(id off:Nat)(lo hi:Option SV)(f:XR→R):R:=
 Ku 0 lo λl=>Ku n hi λh=>qg 171 (qiT l h n) (qj (off+l*k) λo=>qj (h - l) λq=>f (.pure (.asl id o q k)))
def qeg(k:Nat)(x:SV)(lo hi mx:Option SV)(f:XR→R):R:=
 match x with
 |.vec id n k'=>qee k id n k' lo hi mx f
 |.val u=>qef u lo hi mx f
 |.asl id off n k'=>(match mx with|none=>qg 172 (Nat.beq k' k) (Gj n k id off lo hi f)|some _=>.bad 173 0)
 |.arr o full n k' row=>(match mx with|none=>Ku 0 lo λl=>Ku n hi λh=>qg 174 (Nat.ble l h) (qg 175 (Nat.ble h n) (qg 176 (Nat.beq k' k) (KU (full&&hi.isNone) λfl=>qj (h - l) λq=>f (.pure (.arr o fl q k (λi j=>row (l+i) j))))))|some _=>.bad 177 0)
 |_=>.bad 178 0
def qcG(E:XE)(t:TypeId)(x:SV)(lo hi mx:Option SV)(f:XR→R):R:=
 match E.tys t with
 |some ⟨_,_,_,.slice _ k⟩=>qeg k x lo hi mx f
 |some ⟨_,_,_,.array n _ k⟩=>(match x with
  |.ptr id off=>(match mx with|none=>Gj n k id off lo hi f|some _=>.bad 179 0)
  |_=>.bad 180 0)
 |_=>.bad 181 0
theorem qaC{m:SV}(h:bnd 0 (some m)=some (Int.ofNat a)):∃k,m=.val (.int k (Int.ofNat a)):=by
 unfold bnd at h;split at h
 ·rename_i e;cases e
 ·simp_all
 ·cases h
theorem qgx(hE:XOk P E){lo hi mx:Option SV}(h:qcG E t x lo hi mx f=.ok ρ):kd ρ f id (rSlice (qk P t) x lo hi mx):=by
 unfold qcG at h;split at h
 ·rename_i ht
  rw[hE.tys _ _ ht];unfold qeg at h;split at h
  ·unfold qee at h
   obtain⟨a,ea,h⟩:=jG h;obtain⟨b,eb,h⟩:=ZG h;obtain⟨q2,h⟩:=qa h;obtain⟨q3,h⟩:=qa h;obtain⟨q1,h⟩:=qa h;have q1:=xa7 q1;have q2:=xa7 q2;have q3:=xa6 q3;split at h
   ·simp only[rSlice,ea,eb]
    cases z:Nat.beq a 0 with
    |true=>
     rw[z]at h;have z:=xa6 z;subst z;exact qd rfl ⟨Int.le_refl _,qM _,ofNat_le q2,.inl rfl,q3⟩ h
    |false=>
     rw[z]at h;obtain⟨q4,h⟩:=qa h;have q4:=xa6 q4;rw[qe]at h;have hz:¬(Int.ofNat a=0):=λc=>by
      simp_all
     have ee:∀i k,kr (Int.ofNat a) (Int.ofNat b) i k=.que i a (b - a) k:=λi k=>by
      unfold kr
      simp_all
     rw[ee];exact qd rfl ⟨qM _,ofNat_le q1,ofNat_le q2,.inr (by rw[q4];rfl),q3⟩ h
   ·obtain⟨c,ec,p⟩:=jG h
    obtain⟨q4,p1⟩:=qa p;obtain⟨q5,p2⟩:=qa p1;obtain⟨q6,p3⟩:=qa p2;obtain⟨kk,em⟩:=qaC ec;have q4:=xa7 q4;have q6:=xa7 q6;rw[em];simp only[rSlice,ea,eb];cases z:(Nat.beq a 0&&Nat.beq b c)with
    |true=>
     rw[z]at p3;simp only[xe6]at z;have z1:=xa6 z.1;have z2:=xa6 z.2;have ee:∀i k,va (Int.ofNat a) (Int.ofNat b) (Int.ofNat c) i k=.cut i b k:=λi k=>by
      unfold va
      simp_all
     rw[ee];exact qd rfl ⟨qM _,ofNat_le q1,ofNat_le q4,ofNat_le q6,q5,q3⟩ p3
    |false=>
     rw[z]at p3;have ee:∀i k,va (Int.ofNat a) (Int.ofNat b) (Int.ofNat c) i k=.top:=λi k=>by
      unfold va;rw[if_neg];rintro⟨z1,z2⟩;simp only[Int.ofNat_eq_natCast]at z1 z2;have z1:a=0:=by omega
      have z2:b=c:=by omega
      simp_all
     rw[ee];exact qd rfl ⟨qM _,ofNat_le q1,ofNat_le q4,ofNat_le q6,q5,q3⟩ p3
  ·unfold qef at h
   obtain⟨a,ea,h⟩:=jG h;obtain⟨b,eb,h⟩:=jG h;obtain⟨q1,h⟩:=qa h;obtain⟨q2,h⟩:=qa h;obtain⟨q3,h⟩:=qa h;have z2:Int.ofNat a=0:=by rw[xa6 q2];rfl
   have z3:Int.ofNat b=0:=by rw[xa6 q3];rfl
   split at h
   ·simp only[rSlice,ea,eb]
    exact qd rfl ⟨q1,z2,z3⟩ h
   ·obtain⟨c,ec,p⟩:=jG h
    obtain⟨q4,p1⟩:=qa p;obtain⟨q5,p2⟩:=qa p1;obtain⟨kk,em⟩:=qaC ec;have z4:Int.ofNat c=0:=by rw[xa6 q4];rfl
    rw[em];simp only[rSlice,ea,eb];exact qd rfl ⟨q1,z2,z3,z4,q5⟩ p2
  ·split at h
   ·obtain⟨q1,h⟩:=qa h
    unfold Gj at h;obtain⟨a,ea,h⟩:=jG h;obtain⟨b,eb,h⟩:=ZG h;obtain⟨q2,h⟩:=qa h;rw[qe,qe]at h;obtain⟨r1,r2,r3,r4⟩:=qaB q2;simp only[rSlice,ea,eb];rw[←Kv]at h;exact qd rfl ⟨r1,r2,r3,r4,xa6 q1⟩ h
   ·cases h
  ·split at h
   ·obtain⟨a,ea,h⟩:=jG h
    obtain⟨b,eb,h⟩:=ZG h;obtain⟨q1,h⟩:=qa h;obtain⟨q2,h⟩:=qa h;obtain⟨q3,h⟩:=qa h;rw[Zv,qe,←Kv]at h;simp only[rSlice,ea,eb];exact qd rfl ⟨qM _,ofNat_le (xa7 q1),ofNat_le (xa7 q2),xa6 q3⟩ h
   ·cases h
  ·cases h
 ·rename_i ht
  rw[hE.tys _ _ ht];split at h
  ·split at h
   ·unfold Gj at h
    obtain⟨a,ea,h⟩:=jG h;obtain⟨b,eb,h⟩:=ZG h;obtain⟨q2,h⟩:=qa h;rw[qe,qe]at h;simp only[rSlice,ea,eb];rw[←Kv]at h;exact qd rfl (qaB q2) h
   ·cases h
  ·cases h
 ·cases h
theorem qaD:∀l:List Value,(vals l).length=l.length
 |[]=>rfl
 |a :: l=>by rw[vals,xe4,xe4,qaD l]
theorem qeh:∀(l:List Value)(i:Nat),i<l.length→(vals l)[i]? = some (.val (l.getD i undef))
 |[],i,h=>by simp at h
 |a :: l,0,h=>rfl
 |a :: l,i+1,h=>by
  rw[vals,xd7,qeh l i Ω0];rfl
theorem qaE(z:List Value):∀n,RowL n z.length (zrep z n) (λ_ j=>.val (z.getD j undef))
 |0=>RowL.nil _
 |n+1=>by
  have h1:RowL 1 z.length (vals z) (λ_ j=>.val (z.getD j undef)):=by
   refine⟨by rw[qaD,Nat.one_mul],λi j hi hj=>?_⟩;obtain rfl:i=0:=by omega
   rw[xc6,Nat.zero_mul,xb0,qeh z j hj];rfl
  have h2:=h1.app (qaE z n);refine⟨by have:=h2.1;rw[xc5 1 n]at this;exact this,λi j hi hj=>?_⟩;rw[show zrep z (n+1)=vals z++zrep z n from rfl,←h2.2 i j Ω hj];show _=if i<1 then SV.val (z.getD j undef)else SV.val (z.getD j undef)
  rw[ite_self]
def qmp(s:SV)(g:Nat→R):R:=
 match s with
 |.val (.int _ (.ofNat n))=>g n
 |_=>.bad 190 0
theorem qei(h:qmp s g=.ok ρ):∃k n,s=.val (.int k (Int.ofNat n))∧g n=.ok ρ:=by
 unfold qmp at h;split at h
 ·grind
 ·cases h
def qiU(E:XE)(t:TypeId)(l c:SV)(id:Nat)(f:XR→R):R:=
 match E.sls t with
 |some (e,k,z)=>qmp l λl=>qmp c λc=>qg 191 (Nat.ble l c) (qg 192 (Nat.ble c 1000000) (Qk (zrep z c) λL=>f (.new (.rows e k c L) (.vec id l k))))
 |none=>.bad 193 0
theorem qiV(hE:XOk P E){l c:SV}(h:qiU E t l c id f=.ok ρ):kd ρ f id (rMakeSlice P t l c):=by
 unfold qiU at h;split at h
 ·rename_i e k z ht
  obtain⟨⟨_,_,_,h1⟩,⟨_,_,_,h2⟩,h3,h4,h5⟩:=hE.sls _ _ _ _ ht;obtain⟨_,a,e1,p1⟩:=qei h;obtain⟨_,b,e2,p2⟩:=qei p1;obtain⟨q1,p3⟩:=qa p2;obtain⟨q2,p4⟩:=qa p3;rw[kS]at p4;rw[e1,e2];simp only[rMakeSlice,h1,h2];subst h4;have q2:=ofNat_le (xa7 q2);exact jE p4 rfl ⟨qM _,ofNat_le (xa7 q1),q2,h5,rfl,h3⟩ ⟨rfl,rfl,rfl,qaE z b⟩ rfl
 ·cases h
def qej(l:Option (List SV))(f:XR→R):R:=
 match l with
 |some l=>Qk l λl=>f (.pure (.agg l))
 |none=>.bad 194 0
def qcH(E:XE)(t:TypeId)(ps:List (Nat×SV))(f:XR→R):R:=
 match E.tys t,E.pls t with
 |some ⟨true,_,some z,_⟩,some pl=>qej (fillS (λi=>pl[i]?) (vals z) ps) f
 |_,_=>.bad 195 0
theorem qgy(hE:XOk P E){ps:List (Nat×SV)}(h:qcH E t ps f=.ok ρ):kd ρ f id (rBuild P t ps):=by
 unfold qcH at h;split at h
 ·rename_i z _ pl ht hp
  have ht:=hE.tys _ _ ht;have hp:=hE.pls _ _ hp;unfold qej at h;simp only[rBuild,ht,hp];split at h
  ·rename_i l hl
   rw[kS]at h;rw[hl];exact qd rfl trivial h
  ·cases h
 ·cases h
def qek(e k len:Nat)(id:Nat)(l:Option (List SV))(f:XR→R):R:=
 match l with
 |some l=>Qk l λl=>qg 196 (Nat.beq l.length (len*k)) (qg 197 (Nat.ble (len*k) 16777216) (f (.new (.rows e k len l) (.vec id len k))))
 |none=>.bad 198 0
def yq(E:XE)(t:TypeId)(len:Nat)(ps:List (Nat×SV))(id:Nat)(f:XR→R):R:=
 match E.sls t with
 |some (e,k,z)=>qek e k len id (fillS (λi=>some (i*k,k)) (zrep z len) ps) f
 |none=>.bad 199 0
theorem Jw(hE:XOk P E){len:Nat}{ps:List (Nat×SV)}(h:yq E t len ps id f=.ok ρ):kd ρ f id (rBuildSlice P t len ps):=by
 unfold yq at h;split at h
 ·rename_i e k z ht
  obtain⟨⟨_,_,_,h1⟩,⟨_,_,_,h2⟩,h3,h4,h5⟩:=hE.sls _ _ _ _ ht;unfold qek at h;simp only[rBuildSlice,h1,h2];split at h
  ·rename_i l hl
   rw[kS]at h;obtain⟨q1,h⟩:=qa h;obtain⟨q2,h⟩:=qa h;rw[hl];exact jE h rfl ⟨h4,h3,xa7 q2⟩ ⟨rfl,rfl,rfl,xa6 q1,λi j _ _=>rfl⟩ rfl
  ·cases h
 ·cases h
def qiW(hp:Tr 6 XB)(k:Nat)(id n k' m k2:Nat)(l2:List SV)(f:XR→R):R:=
 match hp.find id with
 |some (.rows t k'' n' l)=>qg 200 (Nat.beq k2 k) (qg 201 (Nat.beq k' k) (qg 202 (Nat.beq k'' k) (qg 203 (Nat.ble n n') (qg 204 (Nat.ble 1 k) (qg 205 (allOne l2) (qj (min m n) λq=>jj (l2.take (q*k)++l.drop (q*k)) λl=>f (.upd id (.rows t k n' l) (.val (.int .i64 (q:Nat))))))))))
 |_=>.bad 206 0
def qiX(hp:Tr 6 XB)(k:Nat)(id off n k' m k2:Nat)(l2:List SV)(f:XR→R):R:=
 match hp.find id with
 |some (.cells t l)=>qg 207 (Nat.beq k2 1) (qg 208 (Nat.beq k' 1) (qg 209 (Nat.beq k 1) (qg 210 (Nat.ble (off+n) l.length) (qg 211 (Nat.ble 1 m) (qg 212 (Nat.ble 1 n) (qg 213 (allOne l2) (qj (min m n) λq=>jj (l.take off++l2.take q++l.drop (off+q)) λl=>f (.upd id (.cells t l) (.val (.int .i64 (q:Nat)))))))))))
 |_=>.bad 214 0
def qiY(hp:Tr 6 XB)(k:Nat)(d:SV)(m k2:Nat)(l2:List SV)(f:XR→R):R:=
 match d with
 |.vec id n k'=>qiW hp k id n k' m k2 l2 f
 |.asl id off n k'=>qiX hp k id off n k' m k2 l2 f
 |_=>.bad 215 0
def qiZ(E:XE)(hp:Tr 6 XB)(t:TypeId)(d x:SV)(f:XR→R):R:=
 match E.tys t with
 |some ⟨_,_,_,.slice _ k⟩=>ZE hp x λm k2 l2=>qiY hp k d m k2 l2 f
 |_=>.bad 216 0
theorem RowL.cpy{k q:Nat}{l2:List SV}{row2:Nat→Nat→SV}(h:RowL n k l row)(h2:RowL m k l2 row2)(hq:q≤m)(hn:q≤n):RowL n k (l2.take (q*k)++l.drop (q*k)) (λi j=>if i<q then row2 i j else row i j):=by
 have a1:q*k≤m*k:=xa8 k hq;have a2:q*k≤n*k:=xa8 k hn;have e1:(l2.take (q*k)).length=q*k:=by rw[xd9,h2.1];omega
 refine⟨by rw[xc8,e1,List.length_drop,h.1];omega,λi j hi hj=>?_⟩;show(if i<q then row2 i j else row i j)=_;rw[xc6];by_cases c:i<q
 ·rw[if_pos c,h2.2 i j Ω hj,xc6,xc9 (by rw[e1];exact gV c hj),List.getElem?_take,if_pos (gV c hj)]
 ·have hge:q*k≤i*k:=xa8 k Ω
  rw[if_neg c,h.2 i j hi hj,xc6,xd0 (by rw[e1];omega),e1,List.getElem?_drop]
  congr 2;omega
theorem qja{q:Nat}(h:RowL m 1 l row)(hq:q≤m):(List.range q).map (λi=>row i 0)=l.take q:=by
 refine List.ext_getElem? λi=>?_;rw[List.getElem?_take];by_cases c:i<q
 ·have hl:i<l.length:=by rw[h.1];omega
  rw[if_pos c,List.getElem?_map,xe3 c,xc7 hl];show some (row i 0)=_;rw[h.2 i 0 Ω Ω,xc6,Nat.mul_one,xb1,xc7 hl];rfl
 ·grind
theorem qjb(hE:XOk P E)(hH:HRel LM hp H){d:SV}(h:qiZ E hp t d x f=.ok ρ):kd ρ f id (rCopy P t H d x):=by
 unfold qiZ at h;split at h
 ·rename_i k ht
  have ht:=hE.tys _ _ ht;obtain⟨obl,m,k2,row2,l2,hx,ho,hr,h⟩:=vY hH h;unfold qiY at h;simp only[rCopy,ht,hx];split at h
  ·unfold qiW at h
   split at h
   ·rename_i hb
    obtain⟨row,hb,hr1⟩:=hH.rows hb;obtain⟨q1,h⟩:=qa h;obtain⟨q2,h⟩:=qa h;obtain⟨q3,h⟩:=qa h;obtain⟨q4,h⟩:=qa h;obtain⟨q5,h⟩:=qa h;obtain⟨q6,h⟩:=qa h;rw[qe,qW]at h;have q1:=xa6 q1;have q2:=xa6 q2;have q3:=xa6 q3;have q4:=xa7 q4;have q5:=xa7 q5;simp only[hb];rw[q3]at hr1;have hr2:=hr.of0 (.inr q1);exact VT h rfl ⟨ho,.inr q1,q2,q3,q4,q5,hr2.one q6⟩ ⟨rfl,rfl,rfl,hr1.cpy hr2 (Nat.min_le_left _ _) Ω⟩
   ·cases h
  ·unfold qiX at h
   split at h
   ·rename_i hb
    obtain⟨q1,h⟩:=qa h;obtain⟨q2,h⟩:=qa h;obtain⟨q3,h⟩:=qa h;obtain⟨q4,h⟩:=qa h;obtain⟨q5,h⟩:=qa h;obtain⟨q6,h⟩:=qa h;obtain⟨q7,h⟩:=qa h;rw[qe,qW]at h;have q1:=xa6 q1;have q2:=xa6 q2;have q3:=xa6 q3;have q4:=xa7 q4;have q5:=xa7 q5;have q6:=xa7 q6;simp only[hH.cells hb];have hr2:=hr.of0 (.inr q1);exact VT h rfl ⟨ho,q1,q2,q3,q4,q5,q6,hr2.one q7⟩ ⟨rfl,by rw[qja hr2 (Nat.min_le_left _ _)]⟩
   ·cases h
  ·cases h
 ·cases h
def qel(hp:Tr 6 XB)(v:Value)(k:Nat)(d:SV)(f:XR→R):R:=
 match d with
 |.asl id off n k'=>(match hp.find id with
  |some (.cells t l)=>qg 220 (Nat.ble (off+n) l.length) (qg 221 (Nat.beq k' 1) (qg 222 (Nat.beq k 1) (qg 223 v.oneCell' (qg 224 (Nat.ble 1 n) (jj (l.take off++List.replicate n (.val v)++l.drop (off+n)) λl=>f (.upd id (.cells t l) undefSV))))))
  |_=>.bad 225 0)
 |.vec id n k'=>(match hp.find id with
  |some (.rows t kk m l)=>qg 228 (Nat.beq k' 1) (qg 229 (Nat.beq kk 1) (qg 241 (Nat.beq k 1) (qg 242 (Nat.ble n m) (qg 243 v.oneCell' (jj (List.replicate n (.val v)++l.drop n) λl=>f (.upd id (.rows t 1 m l) undefSV))))))
  |_=>.bad 244 0)
 |.que id off n k'=>(match hp.find id with
  |some (.rows t kk m l)=>qg 248 (Nat.beq k' 1) (qg 249 (Nat.beq kk 1) (qg 250 (Nat.beq k 1) (qg 251 (Nat.ble (off+n) m) (qg 252 v.oneCell' (jj (l.take off++(List.replicate n (.val v)++l.drop (off+n))) λl=>f (.upd id (.rows t 1 m l) undefSV))))))
  |_=>.bad 253 0)
 |_=>.bad 226 0
theorem RowL.clrq{off:Nat}{v:SV}(h:RowL m 1 l row)(hn:off+n≤m):RowL m 1 (l.take off++(List.replicate n v++l.drop (off+n))) (λi j=>if off≤i∧i<off+n then v else row i j):=by
 obtain⟨h1,h2⟩:=h;have ht:(l.take off).length=off:=by rw[xd9];omega
 refine⟨by simp[h1];omega,λi j hi hj=>?_⟩;have hj0:j=0:=by omega
 subst hj0;simp only[Nat.mul_one,xb1,xc6];by_cases c:i<off
 ·grind
 ·grind
theorem RowL.clr{v:SV}(h:RowL m 1 l row)(hn:n≤m):RowL m 1 (List.replicate n v++l.drop n) (λi j=>if i<n then v else row i j):=by
 obtain⟨h1,h2⟩:=h;refine⟨by simp[h1];omega,λi j hi hj=>?_⟩;have hj0:j=0:=by omega
 subst hj0;simp only[Nat.mul_one,xb1,xc6];by_cases c:i<n
 ·simp_all
 ·grind
def qcI(E:XE)(hp:Tr 6 XB)(t:TypeId)(d:SV)(f:XR→R):R:=
 match E.sls t with
 |some (_,k,[v])=>qel hp v k d f
 |some _=>.bad 227 0
 |none=>(match d with
  |.mp id=>(match E.mps t with
   |some mi=>(match hp.find id with
    |some (.map ag ls es)=>f (.upd id (.map ag ls []) undefSV)
    |_=>.bad 245 0)
   |none=>.bad 246 0)
  |_=>.bad 247 0)
theorem qgz(hE:XOk P E)(hH:HRel LM hp H){d:SV}:qcI E hp t d f=.ok ρ→kd ρ f id (match d with
   |.mp id=>rClearMap (qD P t) H (.mp id)
   |x=>rClear P t H x):=by
 intro h;unfold qcI at h;split at h
 ·rename_i ht
  obtain⟨⟨_,_,_,h1⟩,⟨_,_,_,h2⟩,h3,h4,h5⟩:=hE.sls _ _ _ _ ht;unfold qel at h;split at h
  ·split at h
   ·rename_i hb
    obtain⟨q1,h⟩:=qa h;obtain⟨q2,h⟩:=qa h;obtain⟨q3,h⟩:=qa h;obtain⟨q4,h⟩:=qa h;obtain⟨q5,h⟩:=qa h;rw[qW]at h;simp only[rClear,h1,h2,hH.cells hb];exact gF h rfl ⟨xa7 q1,xa6 q2,xa6 q3,q4,xa7 q5⟩ ⟨rfl,rfl⟩
   ·cases h
  ·split at h
   ·rename_i hb
    obtain⟨q1,p1⟩:=qa h;obtain⟨q2,p2⟩:=qa p1;obtain⟨q3,p3⟩:=qa p2;obtain⟨q4,p4⟩:=qa p3;obtain⟨q5,p5⟩:=qa p4;rw[qW]at p5;obtain⟨row,hb',hr⟩:=hH.rows hb;have q2:=xa6 q2;rw[q2]at hb' hr;simp only[rClear,h1,h2,hb'];exact gF p5 rfl ⟨xa6 q1,trivial,xa6 q3,xa7 q4,q5⟩ ⟨rfl,rfl,rfl,hr.clr (xa7 q4)⟩
   ·cases h
  ·split at h
   ·rename_i hb
    obtain⟨q1,p1⟩:=qa h;obtain⟨q2,p2⟩:=qa p1;obtain⟨q3,p3⟩:=qa p2;obtain⟨q4,p4⟩:=qa p3;obtain⟨q5,p5⟩:=qa p4;rw[qW]at p5;obtain⟨row,hb',hr⟩:=hH.rows hb;have q2:=xa6 q2;rw[q2]at hb' hr;simp only[rClear,h1,h2,hb'];exact gF p5 rfl ⟨xa6 q1,trivial,xa6 q3,xa7 q4,q5⟩ ⟨rfl,rfl,rfl,hr.clrq (xa7 q4)⟩
   ·cases h
  ·cases h
 ·cases h
 ·split at h
  ·split at h
   ·rename_i mi hm
    split at h
    ·rename_i ag ls es hb
     obtain⟨dom,get,g1,g2⟩:=hH.map hb;simp only[rClearMap,hE.mps _ _ hm,g1];exact gF h rfl trivial ⟨rfl,λu=>⟨rfl,λs hs=>by cases hs⟩⟩
    ·cases h
   ·cases h
  ·cases h
def qjc(s:SV)(g:Value→R):R:=
 match keyV s with
 |some v=>g v
 |none=>.bad 400 0
theorem W0{g:Value→R}(h:qjc s g=.ok ρ):∃v,keyV s=some v∧g v=.ok ρ:=by
 unfold qjc at h;split at h
 ·simp_all
 ·cases h
def qjd(hp:Tr 6 XB)(x:SV)(mi:vb)(g:Nat→List (Value×Option SV)→R):R:=
 match x with
 |.mp id=>(match hp.find id with
  |some (.map ag ls es)=>qg 401 (decide (mi.ag=ag)) (qg 402 (qoE mi.ls ls) (g id es))
  |_=>.bad 403 0)
 |_=>.bad 404 0
theorem W2(hH:HRel LM hp H){mi:vb}{g:Nat→List (Value×Option SV)→R}(h:qjd hp x mi g=.ok ρ):∃id es dom get,x=.mp id∧blk H id=some (.map (qm mi.ag mi.ls) dom get)∧(∀k,dom k=(gU es k).isSome∧∀s,gU es k=some s→get k=s)∧g id es=.ok ρ:=by
 unfold qjd at h;split at h
 ·split at h
  ·rename_i ag ls es hb
   obtain⟨q1,p1⟩:=qa h;obtain⟨q2,p2⟩:=qa p1;obtain⟨dom,get,h1,h2⟩:=hH.map hb;rw[←of_decide_eq_true q1,←qdO q2]at h1
   grind
  ·cases h
 ·cases h
def qje(z:SV)(o:Option SV)(ok:Bool)(f:XR→R):R:=
 match o with
 |some s=>Bool.rec (f (.pure s)) (f (.pure (.tup [s,.val (.bool true)]))) ok
 |none=>Bool.rec (f (.pure z)) (f (.pure (.tup [z,.val (.bool false)]))) ok
def Gk(E:XE)(hp:Tr 6 XB)(t:TypeId)(x k:SV)(ok:Bool)(f:XR→R):R:=
 match E.mps t with
 |some mi=>qjd hp x mi λ_ es=>qjc k λv=>qg 405 (Gi mi.ag mi.ls v) (qje mi.zero (gU es v) ok f)
 |none=>.bad 406 0
theorem qcJ(hE:XOk P E)(hH:HRel LM hp H){ok:Bool}(h:Gk E hp t x k ok f=.ok ρ):kd ρ f id (rLookup (qD P t) H x k ok):=by
 unfold Gk at h;split at h
 ·rename_i mi hm
  rw[hE.mps _ _ hm];obtain⟨i,es,dom,get,rfl,hb,hd,h⟩:=W2 hH h;obtain⟨v,hv,h⟩:=W0 h;obtain⟨q,h⟩:=qa h;rw[QX]at q;obtain⟨ag,ls,z⟩:=mi;simp only[rLookup,mapOf,hb,hv];have hdv:=hd v;unfold qje at h;split at h
  ·rename_i s hs
   rw[hs]at hdv;have e1:dom v=true:=hdv.1;have e2:get v=s:=hdv.2 s rfl;rw[e1,e2];cases ok
   ·exact qd rfl ⟨trivial,q⟩ h
   ·exact qd rfl ⟨trivial,q⟩ h
  ·rename_i hs
   rw[hs]at hdv;have e1:dom v=false:=hdv.1;rw[e1];cases ok
   ·exact qd rfl ⟨trivial,q⟩ h
   ·exact qd rfl ⟨trivial,q⟩ h
 ·cases h
def Gl(E:XE)(hp:Tr 6 XB)(t:TypeId)(m k x:SV)(f:XR→R):R:=
 match E.mps t with
 |some mi=>qjd hp m mi λi es=>qjc k λv=>qg 407 (Gi mi.ag mi.ls v) (f (.upd i (.map mi.ag mi.ls ((v,some x) :: es)) undefSV))
 |none=>.bad 409 0
theorem Jx(hE:XOk P E)(hH:HRel LM hp H){m:SV}(h:Gl E hp t m k x f=.ok ρ):kd ρ f id (rUpdate (qD P t) H m k x):=by
 unfold Gl at h;split at h
 ·rename_i mi hm
  rw[hE.mps _ _ hm];obtain⟨i,es,dom,get,rfl,hb,hd,h⟩:=W2 hH h;obtain⟨v,hv,h⟩:=W0 h;obtain⟨q,h⟩:=qa h;rw[QX]at q;obtain⟨ag,ls,z⟩:=mi;simp only[rUpdate,hb,hv];refine gF h rfl ⟨trivial,q,trivial⟩ ⟨rfl,λu=>?_⟩;rw[kF];unfold zy qR;cases e:eqK v u with
  |true=>exact⟨rfl,λs hs=>by rw[if_pos rfl]at hs;cases hs;rfl⟩
  |false=>
   rw[if_neg Ωq,xf4];exact⟨(hd u).1,λs hs=>(hd u).2 s hs⟩
 ·cases h
def W3(E:XE)(hp:Tr 6 XB)(t:TypeId)(m k:SV)(f:XR→R):R:=
 match E.mps t with
 |some mi=>qjd hp m mi λi es=>qjc k λv=>qg 410 (Gi mi.ag mi.ls v) (f (.upd i (.map mi.ag mi.ls ((v,none) :: es)) undefSV))
 |none=>.bad 411 0
theorem qcK(hE:XOk P E)(hH:HRel LM hp H){m:SV}(h:W3 E hp t m k f=.ok ρ):kd ρ f id (rDelete (qD P t) H m k):=by
 unfold W3 at h;split at h
 ·rename_i mi hm
  rw[hE.mps _ _ hm];obtain⟨i,es,dom,get,rfl,hb,hd,h⟩:=W2 hH h;obtain⟨v,hv,h⟩:=W0 h;obtain⟨q,h⟩:=qa h;rw[QX]at q;obtain⟨ag,ls,z⟩:=mi;simp only[rDelete,hb,hv];refine gF h rfl ⟨trivial,q⟩ ⟨rfl,λu=>?_⟩;rw[kF];unfold kz;cases e:eqK v u with
  |true=>exact⟨rfl,λs hs=>by rw[if_pos rfl]at hs;cases hs⟩
  |false=>
   simp_all
 ·cases h
def ZH(E:XE)(t:TypeId)(rs:Bool)(id:Nat)(f:XR→R):R:=
 match E.mps t with
 |some mi=>qg 412 (!rs) (f (.new (.map mi.ag mi.ls []) (.mp id)))
 |none=>.bad 413 0
theorem qaF(hE:XOk P E){rs:Bool}(h:ZH E t rs id f=.ok ρ):kd ρ f id (rMakeMap (qD P t) rs):=by
 unfold ZH at h;split at h
 ·rename_i mi hm
  rw[hE.mps _ _ hm];obtain⟨q,h⟩:=qa h;obtain⟨ag,ls,z⟩:=mi;cases rs
  ·exact jE h rfl trivial ⟨rfl,λk=>⟨rfl,λs hs=>by cases hs⟩⟩ rfl
  ·cases q
 ·cases h
def qA(F:Tr 3 SV)(t:Nat):SV:=Option.rec .top (λs=>s) (F.find t)
def FRel(fr:Tr 3 SV)(F:List (Nat×SV)):Prop:=∀t,look F t=qA fr t
def FRelF(fr:Tr 3 SV)(F:Nat→SV):Prop:=∀t,F t=qA fr t
theorem FRel.fn{F:List (Nat×SV)}(h:FRel fr F):FRelF fr (look F):=h
def zp(F:Tr 3 SV)(x:Operand):SV:=Operand.rec (λt=>qA F t) (λv=>.val v) (λ_=>.top) (λf=>.fn (.func f) [] []) x
theorem FRelF.env(h:FRelF fr F)(x:Operand):env F x=zp fr x:=by cases x<;>first|exact h _|rfl
def wP(F:Tr 3 SV):List Operand→List SV
 |[]=>[]
 |x :: l=>zp F x :: wP F l
theorem FRelF.envs{fr:Tr 3 SV}{F:Nat→SV}(h:FRelF fr F):∀l:List Operand,envs F l=wP fr l
 |[]=>rfl
 |x :: l=>by rw[Sx.envs,wP,h.env,FRelF.envs h l]
def qaG(F:Tr 3 SV):List (Nat×Operand)→List (Nat×SV)
 |[]=>[]
 |x :: l=>(x.1,zp F x.2) :: qaG F l
theorem FRelF.envp{fr:Tr 3 SV}{F:Nat→SV}(h:FRelF fr F):∀l:List (Nat×Operand),envp F l=qaG fr l
 |[]=>rfl
 |x :: l=>by rw[Sx.envp,qaG,h.env,FRelF.envp h l]
def ZI(E:XE)(hp:Tr 6 XB)(b:Builtin)(ts:List TypeId)(args:List SV)(id:Nat)(f:XR→R):R:=
 match b with
 |.len=>(match args,ts with|[x],[t]=>qgw E t x f|_,_=>.bad 230 0)
 |.append=>(match args,ts with|[s,x],[t,t']=>qg 231 (Nat.beq t t') (ZF E hp t s x id f)|_,_=>.bad 232 0)
 |.min=>qmo false args f
 |.max=>qmo true args f
 |.copy=>(match args,ts with|[d,x],[t,t']=>qiZ E hp t d x f|_,_=>.bad 233 0)
 |.clear=>(match args,ts with|[d],[t]=>qcI E hp t d f|_,_=>.bad 234 0)
 |.delete=>(match args,ts with|[m,k],[t,t']=>W3 E hp t m k f|_,_=>.bad 238 0)
 |_=>.bad 235 0
def vZ(E:XE)(fr:Tr 3 SV)(hp:Tr 6 XB)(c:Call)(id:Nat)(f:XR→R):R:=
 match c.callee with
 |.value x=>(match zp fr x with
  |.fn (.func g) first caps=>Qk (first++(wP fr c.args.toList++caps)) λl=>f (.call g l)
  |.yld y=>Qk (wP fr c.args.toList) λl=>f (.yield y l)
  |_=>.bad 236 0)
 |.builtin b=>ZI E hp b c.argTypes.toList (wP fr c.args.toList) id f
 |_=>.bad 237 0
theorem Jy{l:List Operand}(h:Sx.envs F l=[s,x]):∃a b,l=[a,b]∧s=Sx.env F a∧x=Sx.env F b:=by
 match l,h with
 |[a,b],h=>simp only[Sx.envs,List.cons.injEq,and_true]at h;exact⟨a,b,rfl,h.1.symm,h.2.symm⟩
 |[],h=>cases h
 |[a],h=>simp[Sx.envs]at h
 |a :: b :: c :: l,h=>simp[Sx.envs]at h
theorem qaH{l:List Operand}(h:Sx.envs F l=[s]):∃a,l=[a]∧s=Sx.env F a:=by
 match l,h with
 |[a],h=>simp only[Sx.envs,List.cons.injEq,and_true]at h;exact⟨a,rfl,h.symm⟩
 |[],h=>cases h
 |a :: b :: l,h=>simp[Sx.envs]at h
theorem qjf(hE:XOk P E)(hF:FRelF fr F)(hH:HRel LM hp H){c:Call}(h:vZ E fr hp c id f=.ok ρ):kd ρ f id (rCall P F H c):=by
 unfold vZ at h;split at h
 ·rename_i x hc
  simp only[rCall,hc,hF.env,hF.envs];split at h
  ·rename_i hx
   rw[kS]at h;rw[hx];exact qgq rfl h
  ·rename_i hx
   rw[kS]at h;rw[hx];exact qcD rfl h
  ·cases h
 ·rename_i b hc
  rw[←hF.envs]at h;unfold ZI at h;split at h
  ·split at h
   ·rename_i ha ht
    obtain⟨a,e,rfl⟩:=qaH ha;simp only[rCall,hc,e,ht];exact qmn hE h
   ·cases h
  ·split at h
   ·rename_i ha ht
    obtain⟨a,b,e,rfl,rfl⟩:=Jy ha;obtain⟨q,h⟩:=qa h;have q:=xa6 q;simp only[rCall,hc,e,ht,if_pos q];exact qcF hE hH h
   ·cases h
  ·simp only[rCall,hc]
   exact qec h
  ·simp only[rCall,hc]
   exact qec h
  ·split at h
   ·rename_i ha ht
    obtain⟨a,b,e,rfl,rfl⟩:=Jy ha;simp only[rCall,hc,e,ht];exact qjb hE hH h
   ·cases h
  ·split at h
   ·rename_i ha ht
    obtain⟨a,e,rfl⟩:=qaH ha;simp only[rCall,hc,e,ht];exact qgz hE hH h
   ·cases h
  ·split at h
   ·rename_i ha ht
    obtain⟨a,b,e,rfl,rfl⟩:=Jy ha;simp only[rCall,hc,e,ht];exact qcK hE hH h
   ·cases h
  ·cases h
 ·cases h
def qmq(fr:Tr 3 SV):Option Operand→Option SV
 |none=>none
 |some x=>some (zp fr x)
theorem FRelF.opt(h:FRelF fr F)(o:Option Operand):o.map (Sx.env F)=qmq fr o:=by
 cases o
 ·rfl
 ·show some _=some _;rw[h.env]
def xOp(E:XE)(fr:Tr 3 SV)(hp:Tr 6 XB)(id:Nat)(op:Op)(f:XR→R):R:=
 match op with
 |.move x=>Zz (zp fr x) f
 |.assign x=>Zz (zp fr x) f
 |.pick c a b=>qdU (zp fr c) (zp fr a) (zp fr b) f
 |.alloc t=>WV E t id f
 |.box t x=>qmj E t (zp fr x) id f
 |.load t x=>qax E hp t (zp fr x) f
 |.store t a x=>Ju E hp t (zp fr a) (zp fr x) f
 |.nilCheck x=>qiQ (zp fr x) f
 |.binOp op t x y _=>qcE E op t (zp fr x) (zp fr y) f
 |.unOp op _ x=>xUn op (zp fr x) f
 |.convert s t x=>qdT E s t (zp fr x) f
 |.makeFunc g fs cs=>Qk (wP fr fs.toList) λa=>Qk (wP fr cs.toList) λb=>f (.pure (.fn g a b))
 |.fieldAddr t x i=>vk E t (zp fr x) i f
 |.field t x i=>WW E t (zp fr x) i f
 |.indexAddr t x i=>wF E t (zp fr x) (zp fr i) f
 |.extract x i=>ZD (zp fr x) i f
 |.call c=>vZ E fr hp c id f
 |.build t ps=>qcH E t (qaG fr ps.toList) f
 |.buildSlice t len ps=>yq E t len (qaG fr ps.toList) id f
 |.makeSlice t l c=>qiU E t (zp fr l) (zp fr c) id f
 |.slice t x lo hi mx=>qcG E t (zp fr x) (qmq fr lo) (qmq fr hi) (qmq fr mx) f
 |.index t x i=>WX E t (zp fr x) (zp fr i) f
 |.makeMap t rs=>ZH E t rs.isSome id f
 |.lookup t x k ok=>Gk E hp t (zp fr x) (zp fr k) ok f
 |.mapUpdate t m k x=>Gl E hp t (zp fr m) (zp fr k) (zp fr x) f
 |.insert t m k x=>Gl E hp t (zp fr m) (zp fr k) (zp fr x) f
 |.mapEntry _ _ _=>.bad 241 0
 |.entryStore _ _ _ _=>.bad 242 0
 |.range _ _=>.bad 243 0
 |.next _ _=>.bad 244 0
 |.entry _=>.bad 245 0
 |_=>.bad 240 0
theorem qcL(hE:XOk P E)(hF:FRelF fr F)(hH:HRel LM hp H){op:Op}(h:xOp E fr hp id op f=.ok ρ):kd ρ f id (stepR P F H op):=by
 cases op<;>simp only[xOp,reduceCtorEq]at h<;>simp only[stepR,hF.env,hF.envs,hF.envp,hF.opt]
 case move x=>rw[gG]at h;exact qd rfl trivial h
 case assign x=>rw[gG]at h;exact qd rfl trivial h
 case pick=>exact qiP h
 case alloc=>exact qgs hE h
 case box=>exact qmk hE h
 case load=>exact qay hE hH h
 case store=>exact qgt hE hH h
 case nilCheck=>exact qmm h
 case binOp=>exact qmi hE h
 case unOp=>exact qoG h
 case convert=>exact qiO hE h
 case makeFunc=>rw[kS,kS]at h;exact qd rfl trivial h
 case fieldAddr=>exact Vl hE h
 case field=>exact qgu hE h
 case indexAddr=>exact Vn hE h
 case extract=>exact qaA h
 case call=>exact qjf hE hF hH h
 case build=>exact qgy hE h
 case buildSlice=>exact Jw hE h
 case makeSlice=>exact qiV hE h
 case slice=>exact qgx hE h
 case index=>exact qgv hE h
 case makeMap=>exact qaF hE h
 case lookup=>exact qcJ hE hH h
 case mapUpdate=>exact Jx hE hH h
 case insert=>exact Jx hE hH h
end
end
end Go.Sx
end
section
namespace Go.Sx
open Go.RowKit
variable{hp:List (Nat×Blk)}
def jM:Op→Bool
 |.move _|.load _ (.tmp _)|.nilCheck _|.fieldAddr _ _ _|.indexAddr _ _ _|.binOp _ _ _ _ _|.build _ _=>true
 |_=>false
def Qw(t:Tmp)(o:Oper):Bool:=(gu o).all (λu=>!(Nat.beq u t))&&(match o.dst with|some d=>!(Nat.beq d t)|none=>true)
def yT(ds:List (Option Tmp))(ms:List Nat)(t e s i:Nat)(o:Oper):Bool:=
 match o.op with
 |.lookup t' _ _ false=>Nat.beq t t'&&Nat.blt i e&&(ms.getD s 0).testBit i
 |.store _ (.tmp b) _=>zd ds i b&&o.dst.isNone
 |.load _ (.tmp a)=>zd ds i a
 |op=>jM op
def jN(o:Oper):Oper:={ o with op:=.move (.const undef) }
def qgA(e x s:Nat):Nat→List Oper→List Oper
 |_,[]=>[]
 |i,o :: r=>(if i=e∨i=x∨i=s then jN o else o) :: qgA e x s (i+1) r
def K7(e x s:Nat)(u:Op):Nat→List Oper→List Oper
 |_,[]=>[]
 |i,o :: r=>(if i=e∨i=x then jN o else if i=s then { o with op:=u }else o) :: K7 e x s u (i+1) r
def wa(ds:List (Option Tmp))(ms:List Nat)(t te tx e x s:Nat):Nat→List Oper→Bool
 |_,[]=>true
 |i,o :: r=>(Nat.beq i e || Nat.beq i x || Nat.beq i s ||(yT ds ms t e s i o&&Qw te o&&Qw tx o))&&o.guard.isNone&&wa ds ms t te tx e x s (i+1) r
def Jz:List Oper→List Tmp
 |[]=>[]
 |o :: r=>(match o.op with|.load _ (.tmp a)=>[a]|.store _ (.tmp b) _=>[b]|_=>[])++Jz r
structure EI where
 e:Nat
 x:Nat
 s:Nat
 te:Tmp
 tx:Tmp
 t:TypeId
 mm:Tmp
 k:Operand
 y:Operand
def qmr(ds:List (Option Tmp))(e:Nat):Operand→Bool
 |.tmp k=>zd ds e k
 |_=>true
def qjg(te tx:Tmp):Operand→Bool
 |.tmp u=>!(Nat.beq u te)&&!(Nat.beq u tx)
 |_=>true
def EI.upd(q:EI):Op:=.mapUpdate q.t (.tmp q.mm) q.k q.y
def qjh(q:EI)(far:List (Nat×Nat))(l:List Oper):Bool:=
 let ms:=zw [] l
 let ds:=dsts l
 jd 0 l&&(yL ds ms l&&(GY far ds ms (qgA q.e q.x q.s 0 l)&&(wa ds ms q.t q.te q.tx q.e q.x q.s 0 l&&(zd ds q.e q.mm&&(qmr ds q.e q.k&&((ms.getD q.x 0).testBit q.e&&((ms.getD q.s 0).testBit q.x&&((ms.getD q.s 0).testBit q.e&&qjg q.te q.tx q.y))))))))
structure Ent(q:EI)(l:List Oper):Prop where
 ex:q.e<q.x
 xs:q.x<q.s
 ne:q.te≠q.tx
 oe:∃o,l[q.e]? = some o∧o.op=.mapEntry q.t (.tmp q.mm) q.k∧o.dst=some q.te
 ox:∃o,l[q.x]? = some o∧o.op=.extract (.tmp q.te) 1∧o.dst=some q.tx
 os:∃o,l[q.s]? = some o∧o.op=.entryStore q.t (.tmp q.mm) (.tmp q.tx) q.y∧o.dst=none
theorem qaI{e x s:Nat}:∀{l:List Oper}{i j:Nat}{o:Oper},l[j]? = some o→(qgA e x s i l)[j]? = some (if i+j=e∨i+j=x∨i+j=s then jN o else o)
 |[],i,j,o,h=>by simp at h
 |p :: l,i,0,o,h=>by simp at h;subst h;simp[qgA]
 |p :: l,i,j+1,o,h=>by
  have:=qaI (e:=e) (x:=x) (s:=s) (i:=i+1) (show l[j]? = some o by simpa using h);simp only[qgA,xd7,this]
  grind
theorem qaJ{e x s:Nat}{u:Op}:∀{l:List Oper}{i j:Nat}{o:Oper},l[j]? = some o→(K7 e x s u i l)[j]? = some (if i+j=e∨i+j=x then jN o else if i+j=s then { o with op:=u }else o)
 |[],i,j,o,h=>by simp at h
 |p :: l,i,0,o,h=>by simp at h;subst h;simp[K7]
 |p :: l,i,j+1,o,h=>by
  have:=qaJ (e:=e) (x:=x) (s:=s) (u:=u) (i:=i+1) (show l[j]? = some o by simpa using h);simp only[K7,xd7,this]
  grind
theorem qaK{e x s:Nat}{u:Op}:∀{l:List Oper}{i:Nat},(K7 e x s u i l).length=l.length
 |[],i=>rfl
 |o :: l,i=>by simp[K7,qaK]
theorem VU{e x s:Nat}{u:Op}:∀{l:List Oper}{i:Nat},dsts (K7 e x s u i l)=dsts l
 |[],i=>rfl
 |o :: l,i=>by
  have:∀o:Oper,(if i=e∨i=x then jN o else if i=s then { o with op:=u }else o).dst=o.dst:=λo=>by
   split
   ·rfl
   ·split<;>rfl
  simp only[K7,dsts,VU,this]
theorem yr{ds:List (Option Tmp)}{ms:List Nat}{t te tx e x s:Nat}:∀{l:List Oper}{i j:Nat}{o:Oper},wa ds ms t te tx e x s i l=true→l[j]? = some o→o.guard=none∧(i+j=e∨i+j=x∨i+j=s∨(yT ds ms t e s (i+j) o=true∧Qw te o=true∧Qw tx o=true))
 |[],i,j,o,h,ho=>by simp at ho
 |p :: l,i,0,o,h,ho=>by
  simp at ho;subst ho;simp only[wa,xe6,xe8,Option.isNone_iff_eq_none]at h;obtain⟨⟨h1,h2⟩,-⟩:=h;refine⟨h2,?_⟩;rw[xb1];rcases h1 with((h1|h1)|h1)|h1
  ·simp_all
  ·simp_all
  ·simp_all
  ·simp_all
 |p :: l,i,j+1,o,h,ho=>by
  simp only[wa,xe6]at h;have:=yr (i:=i+1) (j:=j) h.2 (show l[j]? = some o by simpa using ho)
  grind
theorem jv{t:Tmp}{o:Oper}(h:Qw t o=true):t∉gu o∧o.dst≠some t:=by
 simp only[Qw,xe6,List.all_eq_true,Bool.not_eq_true']at h;obtain⟨h1,h2⟩:=h;refine⟨λhm=>?_,λe=>?_⟩
 ·have:=h1 t hm
  simp at this
 ·simp_all
theorem yU:∀{l:List Oper}{i:Nat}{o:Oper},l[i]? = some o→(∀t a,o.op=.load t (.tmp a)→a∈Jz l)∧(∀t b v,o.op=.store t (.tmp b) v→b∈Jz l)
 |[],i,o,h=>by simp at h
 |p :: l,0,o,h=>by
  simp at h;subst h;exact⟨λt a e=>by simp[Jz,e],λt b v e=>by simp[Jz,e]⟩
 |p :: l,i+1,o,h=>by
  obtain⟨h1,h2⟩:=yU (show l[i]? = some o by simpa using h);exact⟨λt a e=>List.mem_append_right _ (h1 t a e),λt b v e=>List.mem_append_right _ (h2 t b v e)⟩
section
variable{P:Program}
theorem yt{F F':Nat→SV}{op:Op}(hc:jM op=true∨(∃t x k ok,op=.lookup t x k ok)∨(∃t a v,op=.store t a v))(h:∀t,.tmp t∈op.operands.toList→F t=F' t):stepR P F hp op=stepR P F' hp op:=by
 have he:∀x,x∈op.operands.toList→env F x=env F' x:=λx hx=>by
  cases x<;>first|exact h _ hx|rfl
 rcases hc with hc|⟨t,x,k,ok,rfl⟩|⟨t,a,v,rfl⟩
 ·cases op<;>first|(simp[jM]at hc;done)|skip
  all_goals first
   |(simp only[stepR];rw[he _ Ωx];done)
   |(simp only[stepR];rw[he _ Ωx,he _ Ωx];done)
   |skip
  case build t ps=>
   simp only[stepR];have:∀qs:List (Nat×Operand),(∀p∈qs,p.2∈(Op.build t ps).operands.toList)→envp F qs=envp F' qs:=by
    intro qs
    induction qs with
    |nil=>intro _;rfl
    |cons p qs ih=>
     intro hq;simp only[envp]
     simp_all
   rw[this _ λp hp=>by simp only[Op.operands];exact List.mem_map_of_mem hp]
 ·simp only[stepR]
  rw[he x Ωx,he k Ωx]
 ·simp only[stepR]
  rw[he a Ωx,he v Ωx]
theorem qcM{hp':List (Nat×Blk)}{ti:Option TyI}{a v:SV}(h:∀id x,qQ a=some id→blk hp id=some x→blk hp' id=some x)(hne:rStore ti hp a v≠.bad):rStore ti hp' a v=rStore ti hp a v:=by
 match ti with
 |none=>rfl
 |some ⟨false,sz,z,d⟩=>
  cases a<;>first|rfl|skip
  case ptr id off=>
   simp only[rStore]at hne ⊢;cases hb:blk hp id with
   |none=>rw[hb]at hne;exact absurd rfl hne
   |some y=>rw[h _ _ rfl hb]
  case elt id k i j=>
   simp only[rStore]at hne ⊢;cases hb:blk hp id with
   |none=>rw[hb]at hne;exact absurd rfl hne
   |some y=>rw[h _ _ rfl hb]
 |some ⟨true,sz,z,d⟩=>
  cases v<;>first|rfl|skip
  cases a<;>first|rfl|skip
  case ptr id off=>
   simp only[rStore]at hne ⊢;cases hb:blk hp id with
   |none=>rw[hb]at hne;exact absurd rfl hne
   |some y=>rw[h _ _ rfl hb]
  case elt id k i j=>
   simp only[rStore]at hne ⊢;cases hb:blk hp id with
   |none=>rw[hb]at hne;exact absurd rfl hne
   |some y=>rw[h _ _ rfl hb]
theorem kH{F:Nat→SV}{op:Op}(hc:jM op=true∨(∃t x k ok,op=.lookup t x k ok)):(∃obl sv,stepR P F hp op=.pure obl sv)∨(∃obl,stepR P F hp op=.ex obl)∨stepR P F hp op=.bad:=by
 have key:∀x:Res,vq x=true→(∃obl sv,x=.pure obl sv)∨(∃obl,x=.ex obl)∨x=.bad:=λx hx=>by
  cases x<;>first|(cases hx;done)|(exact .inl ⟨_,_,rfl⟩)|(exact .inr (.inl ⟨_,rfl⟩))|(exact .inr (.inr rfl))
 refine key _ ?_;rcases hc with hc|⟨t,x,k,ok,rfl⟩
 ·cases op<;>first|(simp[jM]at hc;done)|(simp only[stepR])
  case move=>rfl
  case load=>unfold rLoad;(repeat' split)<;>rfl
  case nilCheck=>unfold rNil;split<;>rfl
  case binOp=>unfold rBin;(repeat' split)<;>first|rfl|(unfold rInt;split<;>rfl)|(unfold rEq;(repeat' split)<;>rfl)|(unfold rNilS;(repeat' split)<;>rfl)
  case fieldAddr=>unfold rFieldAddr;(repeat' split)<;>rfl
  case indexAddr=>unfold rIndexAddr;(repeat' split)<;>rfl
  case build=>exact ja _ _
 ·exact gC _ _ _ _ _
theorem qem(O:Ctx)(st:St):Weak O st { st with nid:=st.nid+1 }:=λbase okc ns outs a w h=>by
 obtain⟨r,h⟩:=h;have s:=h.sat.more (N':=(· < st.nid+1)) (λx hx=>Nat.lt_succ_of_lt hx) (λx y hy _=>h.keys x y hy);exact⟨r,(h.step s (λid x hx=>Nat.lt_succ_of_lt (h.keys id x hx)) (xc4 _) (d:=none) (λt ht=>by cases ht) (.top undef)).nid (st.nid+1)⟩
theorem qms(O:Ctx)(st:St)(a b:Tmp):Weak O st ⟨putFr (putFr st.fr a .top) b .top,st.hp,st.nid⟩:=λbase okc ns outs x w ⟨r,h⟩=>⟨r,h.sat,h.keys,λi=>by
 show Rep _ _ _ _ (look (putFr (putFr st.fr a .top) b .top) i) _;rw[zq,zq];split
 ·exact .top _
 ·split
  ·exact .top _
  ·exact h.fr i,h.size,h.lo,h.out,h.rfix,h.defers⟩
theorem qcN{dst:Nat→Option Tmp}{res res':Nat→SV}{S:Nat→Bool}{F:Nat→SV}{t:Nat}:∀{n:Nat},(∀j,j<n→S j=true→dst j=some t→res j=res' j)→FS dst res S F n t=FS dst res' S F n t
 |0,h=>rfl
 |n+1,h=>by
  have ih:=qcN (F:=F) (n:=n) λj hj=>h j Ω;simp only[FS];by_cases c:S n=true∧dst n=some t
  ·simp_all
  ·simp_all
theorem W4{dst:Nat→Option Tmp}{res:Nat→SV}{S:Nat→Bool}{F:Nat→SV}{t i:Nat}(hi:dst i=some t)(hS:S i=true):∀{n:Nat},i<n→(∀j,j<n→dst j=some t→j=i)→FS dst res S F n t=res i
 |n+1,h,hu=>by
  simp only[FS];by_cases c:S n=true∧dst n=some t
  ·simp_all
  ·rw[if_neg c]
   have:i≠n:=λe=>c (e▸⟨hS,hi⟩);exact W4 hi hS Ω λj hj=>hu j Ω
theorem qqq{k:Nat}{nb:Nat→Option Blk}{up:Nat→Option (Nat×Blk)}{hp:List (Nat×Blk)}:∀{i:Nat},(∀j,j<i→nb j=none)→TH k nb up hp i=UH up (λ_=>true) hp i
 |0,h=>rfl
 |i+1,h=>by
  have ih:=qqq (k:=k) (up:=up) (hp:=hp) (i:=i) λj hj=>h j Ω;simp only[TH,UH,if_true,ih,h i Ω];split<;>rfl
def but(up:Nat→Option (Nat×Blk))(s:Nat):Nat→Option (Nat×Blk):=λj=>if j=s then none else up j
theorem qcO{up:Nat→Option (Nat×Blk)}{S:Nat→Bool}{H:List (Nat×Blk)}{s X:Nat}(h:∀t b,up s=some (t,b)→t≠X):∀{n:Nat},blk (UH up S H n) X=blk (UH (but up s) S H n) X
 |0=>rfl
 |n+1=>by
  have ih:=qcO (S:=S) (H:=H) h (n:=n);simp only[UH];by_cases hS:S n=true
  ·rw[if_pos hS,if_pos hS]
   by_cases e:n=s
   ·subst e
    have:but up n n=none:=by simp[but]
    rw[this];cases hu:up n with
    |none=>exact ih
    |some p=>
     obtain⟨t,b⟩:=p;dsimp only;rw[qn,if_neg (λe=>h t b hu e.symm)];exact ih
   ·have:but up s n=up n:=by simp[but,e]
    rw[this];cases hu:up n with
    |none=>exact ih
    |some p=>
     obtain⟨t,b⟩:=p;dsimp only;rw[qn,qn];by_cases c:X=t
     ·simp_all
     ·simp_all
  ·simp_all
theorem jZ{ds:List (Option Tmp)}{ms:List Nat}{t e s i:Nat}{o:Oper}(h:yT ds ms t e s i o=true) :
  (jM o.op=true∧∀t' a,o.op=.load t' (.tmp a)→zd ds i a=true)∨(∃x k,o.op=.lookup t x k false∧i<e∧(ms.getD s 0).testBit i=true)∨(∃t' b v,o.op=.store t' (.tmp b) v∧zd ds i b=true∧o.dst=none):=by
 unfold yT at h;split at h
 ·simp_all
 ·rename_i t' b v e1
  simp only[xe6,Option.isNone_iff_eq_none]at h
  grind
 ·rename_i t' a e1
  exact .inl ⟨by rw[e1];rfl,λt2 a2 e2=>by rw[e1]at e2;cases e2;exact h⟩
 ·simp_all
def W5(dom:Value→Bool)(v:Value):Value→Bool:=if dom v=true then dom else zy dom v
def qaL(dom:Value→Bool)(get:Value→SV)(v:Value)(z:SV):Value→SV:=if dom v=true then get else qR get v z
theorem W6{dom:Value→Bool}{get:Value→SV}{v:Value}{z xv:SV}:W5 dom v=zy dom v∧qR (qaL dom get v z) v xv=qR get v xv:=by
 refine⟨?_,?_⟩
 ·unfold W5
  split
  ·rename_i h
   funext u;unfold zy;cases e:eqK v u with
   |true=>rw[←zF e,h];rfl
   |false=>rfl
  ·rfl
 ·unfold qaL
  split
  ·rfl
  ·funext u
   unfold qR;cases e:eqK v u<;>simp[svIte]
theorem qji{dom:Value→Bool}{get:Value→SV}{v u:Value}{z:SV}:svIte (W5 dom v u) (qaL dom get v z u) z=svIte (dom u) (get u) z:=by
 unfold W5 qaL;split
 ·rfl
 ·rename_i h
  unfold zy qR;cases e:eqK v u with
  |true=>
   have:=zF e;subst this;simp[svIte,h]
  |false=>simp[svIte]
theorem QZ{f:Nat→Oper→Prop}:∀{ops:List Oper}{i:Nat},(∀j o,ops[j]? = some o→f (i+j) o)→yk f i ops
 |[],i,h=>trivial
 |o :: ops,i,h=>⟨h 0 o rfl,QZ λj o' ho=>by
  have:=h (j+1) o' (by simpa using ho)
  rwa [show i+(j+1)=i+1+j by omega]at this⟩
theorem qaM{S:Nat→Bool}:∀{n:Nat},(∀j,j<n→S j=false)→cnt S n=n
 |0,h=>rfl
 |n+1,h=>by
  have ih:=qaM (n:=n) λj hj=>h j Ω;simp only[cnt,ih]
  simp_all
theorem qen{S:Nat→Bool}:∀{n:Nat},(∀j,j<n→S j=true)→cnt S n=0
 |0,h=>rfl
 |n+1,h=>by
  have ih:=qen (n:=n) λj hj=>h j Ω;simp only[cnt,ih]
  simp_all
def qqr(q:EI)(l:List Oper)(st:St):Prop:=∀mid,look st.fr q.mm=.mp mid→(∃fit dom get,blk st.hp mid=some (.map fit dom get))∧∀a∈Jz l,qQ (look st.fr a)≠some mid
theorem qaN(hm:P.follows .mixedOrders=true){O:Ctx}{st:St}{K:Ex→St→Prop}{id:Nat}{l:List Oper}{q:EI}{far:List (Nat×Nat)}{g:Tag K}(hq:Ent q l)(hok:qjh q far l=true)
  (hk:qL P O False (dsts l) (K7 q.e q.x q.s q.upd 0 l) 0 st λst1=>FarVC far st1 (qqr q l st1∧∀st2,(∀t,look st2.fr t=if t=q.te∨t=q.tx then .top else look st1.fr t)→(∀j,blk st2.hp j=blk st1.hp j)→st2.nid=st1.nid+l.length→K .normal st2)):vj P O id l true st K g:=by
 obtain⟨e,x,s,te,tx,t,mm,k,y⟩:=q;obtain⟨hex,hxs,hne,⟨oe,hoe,hope,hdse⟩,⟨ox,hox,hopx,hdsx⟩,⟨os,hos,hops_,hdss⟩⟩:=hq;simp only[EI.upd]at *;simp only[qjh,xe6]at hok;obtain⟨hedge,hapart,hpair,hcls,hmm,hkf,hxe,hsx,hse,hyn⟩:=hok;have hlen:=qaK (e:=e) (x:=x) (s:=s) (u:=Op.mapUpdate t (.tmp mm) k y) (l:=l) (i:=0);have hds:=VU (e:=e) (x:=x) (s:=s) (u:=Op.mapUpdate t (.tmp mm) k y) (l:=l) (i:=0);have hsl:s<l.length:=(List.getElem?_eq_some_iff.1 hos).1;have hcl:∀j o,l[j]? = some o→o.guard=none∧(j=e∨j=x∨j=s∨(yT (dsts l) (zw [] l) t e s j o=true∧Qw te o=true∧Qw tx o=true)):=λj o ho=>by
  have:=yr hcls ho
  rwa [xb0]at this
 have hfix:∀j o,l[j]? = some o→(K7 e x s (Op.mapUpdate t (.tmp mm) k y) 0 l)[j]? = some (if j=e∨j=x then jN o else if j=s then { o with op:=Op.mapUpdate t (.tmp mm) k y }else o):=λj o ho=>by
  have:=qaJ (e:=e) (x:=x) (s:=s) (u:=Op.mapUpdate t (.tmp mm) k y) (i:=0) ho;simpa only[xb0]using this
 have hall:∀o∈K7 e x s (Op.mapUpdate t (.tmp mm) k y) 0 l,(kK o.op || qG o.op)=true:=by
  intro o ho;obtain⟨j,hj⟩:=List.mem_iff_getElem?.1 ho;have hjl:j<l.length:=by rw[←hlen];exact(List.getElem?_eq_some_iff.1 hj).1
  have h0:l[j]? = some l[j]:=by simp[hjl]
  rw[hfix j _ h0]at hj;simp only[Option.some.injEq]at hj;subst hj;by_cases c1:j=e∨j=x
  ·rw[if_pos c1];rfl
  ·rw[if_neg c1]
   by_cases c2:j=s
   ·rw[if_pos c2];rfl
   ·rw[if_neg c2]
    rcases(hcl j _ h0).2 with c|c|c|⟨c,-,-⟩
    ·exact absurd (.inl c) c1
    ·exact absurd (.inr c) c1
    ·exact absurd c c2
    ·rcases jZ c with⟨c,-⟩|⟨a,b,c,-⟩|⟨a,b,d,c,-⟩
     ·generalize (l[j]).op=op at c
      cases op<;>first|(simp[jM]at c;done)|rfl
     ·rw[c];rfl
     ·rw[c];rfl
 obtain⟨res,nb,up,st1,hops,hF1,hh1,hn1,hk1⟩:=G3 Ωj _ 0 st hall hk;rw[xb1]at hops hh1;rw[hds]at hops hF1;rw[hlen]at hF1 hh1;obtain⟨⟨hendm,hk1⟩,hfar⟩:=vf hk1;have hat:∀j o,l[j]? = some o→j≠e→j≠x→j≠s→Zj P (dsts l) (FS (nth (dsts l)) res (λ_=>true) (look st.fr) j) (TH st.nid nb up st.hp j) (st.nid+j) o (res j) (nb j) (up j):=λj o ho h1 h2 h3=>by
  have:=hops j _ (hfix j o ho)
  rwa [if_neg (by simp[h1,h2]),if_neg h3]at this
 have hmmx:∀i,e≤i→i≤l.length→FS (nth (dsts l)) res (λ_=>true) (look st.fr) i mm=look st1.fr mm:=λi h1 h2=>by
  rw[hF1];have hdl:(dsts l).length=l.length:=by
   have:∀l:List Oper,(dsts l).length=l.length:=λl=>by induction l<;>simp[dsts, *]
   exact this l
  exact(kR h2 λk hk hik=>qz hmm Ω Ω).symm
 have hdl:(dsts l).length=l.length:=by
  have:∀l:List Oper,(dsts l).length=l.length:=λl=>by induction l<;>simp[dsts, *]
  exact this l
 have hquiet:∀j o,l[j]? = some o→(j=e∨j=x)→res j=undefSV∧nb j=none∧up j=none:=λj o ho hj=>by
  have:=hops j _ (hfix j o ho);rw[if_pos hj]at this;generalize res j=a1 at this ⊢;generalize nb j=a2 at this ⊢;generalize up j=a3 at this ⊢;cases this with
  |skip hg=>exact⟨rfl,rfl,rfl⟩
  |run sv nb hg hc hr=>
   cases hr with
   |pure obl sv h ho=>simp only[jN,stepR,env,Res.pure.injEq]at h;exact⟨h.2.symm,rfl,rfl⟩
   |ex obl sv h ho=>simp[jN,stepR]at h
   |new obl b mk h ho=>simp[jN,stepR]at h
   |call f args res h hc=>simp[jN,stepR]at h
   |callN f args pats b res h hc hs=>simp[jN,stepR]at h
  |upd obl t b hg h ho=>simp[jN,stepR]at h
 have hord:∀j o,l[j]? = some o→j≠e→j≠x→j≠s→nb j=none∧(∀t' b',up j=some (t',b')→∃ty b v,o.op=.store ty (.tmp b) v∧zd (dsts l) j b=true∧o.dst=none∧qQ (look st1.fr b)=some t'):=λj o ho h1 h2 h3=>by
  have h:=hat j o ho h1 h2 h3;have hc:=(hcl j o ho).2;rcases hc with c|c|c|⟨c,-,-⟩
  ·exact absurd c h1
  ·exact absurd c h2
  ·exact absurd c h3
  have hjl:j<l.length:=(List.getElem?_eq_some_iff.1 ho).1;generalize res j=a1 at h ⊢;generalize nb j=a2 at h ⊢;generalize up j=a3 at h ⊢;have hnotU:(jM o.op=true∨∃t x k ok,o.op=.lookup t x k ok)→∀F hp obl t b,stepR P F hp o.op≠.upd obl t b:=λhp F hp' obl t b hh=>by
   rcases kH (P:=P) (F:=F) (hp:=hp') hp with⟨_,_,e1⟩|⟨_,e1⟩|e1<;>rw[e1]at hh<;>cases hh
  cases h with
  |skip hg=>exact⟨rfl,λ_ _ h=>by cases h⟩
  |run sv nb hg hca hr=>
   refine⟨?_,λ_ _ h=>by cases h⟩;have hpl:jM o.op=true∨∃t x k ok,o.op=.lookup t x k ok:=by
    rcases jZ c with⟨c,-⟩|⟨a,b,c,-⟩|⟨a,b,d,c,-⟩
    ·exact .inl c
    ·exact .inr ⟨_,_,_,_,c⟩
    ·rw[c]at hca;cases hca
   cases hr with
   |pure obl sv h ho=>rfl
   |ex obl sv h ho=>rfl
   |call f args res h hc=>rfl
   |new obl b mk h ho=>rcases kH (P:=P) hpl with⟨_,_,e1⟩|⟨_,e1⟩|e1<;>rw[e1]at h<;>cases h
   |callN f args pats b res h hc hs=>rcases kH (P:=P) hpl with⟨_,_,e1⟩|⟨_,e1⟩|e1<;>rw[e1]at h<;>cases h
  |upd obl t2 b2 hg h hobl=>
   refine⟨rfl,λt' b' hh=>?_⟩;injection hh with hh;injection hh with hh1 hh2;subst hh1;subst hh2;rcases jZ c with⟨c,-⟩|⟨a,b,c,-⟩|⟨a,b,d,c,c2,c3⟩
   ·exact absurd h (hnotU (.inl c) _ _ _ _ _)
   ·exact absurd h (hnotU (.inr ⟨_,_,_,_,c⟩) _ _ _ _ _)
   ·refine⟨a,b,d,c,c2,c3,?_⟩
    rw[c]at h;have h4:=gK h;rw[hF1,kR (i:=j) Ω (λk hk hik=>qz c2 Ω hik)];exact h4
 have hatS:=hops s _ (hfix s os hos);rw[if_neg Ω,if_pos rfl]at hatS;have hgs:os.guard=none:=(hcl s os hos).1;obtain⟨ag,ls,z,mid,hmi,hmp⟩:∃ag ls z mid,qD P t=some ⟨ag,ls,z⟩∧look st1.fr mm=.mp mid:=by
  generalize res s=a1 at hatS;generalize nb s=a2 at hatS;generalize up s=a3 at hatS;cases hatS with
  |skip hg=>simp[kZ,hgs]at hg
  |run sv nb hg hca hr=>cases hca
  |upd obl t2 b2 hg h ho=>
   simp only[stepR,env]at h;rw[hmmx s Ω Ω]at h;unfold rUpdate at h;split at h
   ·rename_i e1 e2
    exact⟨_,_,_,_,e1,e2⟩
   ·cases h
 obtain⟨⟨fit1,dom1,get1,hmap1⟩,hadr⟩:=hendm mid hmp;have hup:∀j b,j<l.length→up j=some (mid,b)→j=s:=λj b hj hu=>by
  refine xf9 λhjs=>?_;have ho:l[j]? = some l[j]:=by simp[hj]
  by_cases c:j=e∨j=x
  ·have:=(hquiet j _ ho c).2.2
   rw[hu]at this;cases this
  ·obtain⟨ty,b',v',h1,h2,h3,h4⟩:=(hord j _ ho (λe=>c (.inl e)) (λe=>c (.inr e)) hjs).2 _ _ hu
   exact hadr b' ((yU ho).2 _ _ _ h1) h4
 have hnbs:nb s=none:=by
  generalize res s=a1 at hatS;generalize nb s=a2 at hatS ⊢;generalize up s=a3 at hatS;cases hatS with
  |skip hg=>rfl
  |run sv nb hg hca hr=>cases hca
  |upd obl t2 b2 hg h ho=>rfl
 have hnb:∀j,j<l.length→nb j=none:=λj hj=>by
  have ho:l[j]? = some l[j]:=by simp[hj]
  by_cases c:j=e∨j=x
  ·exact(hquiet j _ ho c).2.1
  ·by_cases c2:j=s
   ·subst c2;exact hnbs
   ·exact(hord j _ ho (λe=>c (.inl e)) (λe=>c (.inr e)) c2).1
 have hTH:∀i,i≤l.length→TH st.nid nb up st.hp i=UH up (λ_=>true) st.hp i:=λi hi=>qqq λj hj=>hnb j Ω;have hH0:blk (TH st.nid nb up st.hp s) mid=blk st.hp mid:=by
  rw[hTH s Ω];exact jf λj hj _ t' b hu e=>by
   subst e;have:=hup j b Ω hu;omega
 have hus:∀b,up s=some (mid,b)→∀y0,blk st.hp mid=some y0→blk st1.hp mid=some b:=λb hb y0 hy0=>by
  rw[hh1,hTH _ (xa5 _),G1 (i:=s+1) Ω (λj hj b' hu=>by
   have:=hup j b' hj hu;simp;omega)]
  have:UH up (λ_=>true) st.hp (s+1)=setBlk (UH up (λ_=>true) st.hp s) mid b:=by simp[UH,hb]
  rw[this,qn,if_pos rfl,←hTH s Ω,hH0,hy0];rfl
 obtain⟨fit,dom,get,v,hmap,hkey,hfit,hkv,hups⟩:∃fit dom get v,blk st.hp mid=some (.map fit dom get)∧keyV (env (FS (nth (dsts l)) res (λ_=>true) (look st.fr) s) k)=some v∧fit=qm ag ls∧qm ag ls v=true∧up s=some (mid,.map fit (zy dom v) (qR get v (env (FS (nth (dsts l)) res (λ_=>true) (look st.fr) s) y))):=by
  generalize res s=a1 at hatS;generalize nb s=a2 at hatS;generalize hu3:up s=a3 at hatS;cases hatS with
  |skip hg=>simp[kZ,hgs]at hg
  |run sv nb hg hca hr=>cases hca
  |upd obl t2 b2 hg h ho=>
   simp only[stepR,env]at h;rw[hmmx s Ω Ω,hmi,hmp]at h;simp only[rUpdate,hH0]at h;split at h
   ·rename_i f d g1 v1 e1 e2
    injection h with h1 h2 h3;subst h1;subst h2;subst h3;exact⟨f,d,g1,v1,e1,e2,ho.1,ho.2.1,rfl⟩
   ·rename_i f d g1 st0 c0 v1 e1 e2
    injection h with h1 h2 h3;subst h1;subst h2;subst h3;have:=hus _ hu3 _ e1;rw[hmap1]at this;cases this
   ·cases h
 have hfin:=hus _ hups _ hmap;generalize hxv:env (FS (nth (dsts l)) res (λ_=>true) (look st.fr) s) y=xv at hups hfin
 let rs:(Value→Nat)→Nat→SV:=λσ i=>if i=e then .tup [if dom v=true then get v else z,.val (.int .i64 (σ v))]else if i=x then .val (.int .i64 (σ v))else res i
 let M:(Nat→Bool)→(Value→Nat)→Nat→Blk:=λS σ clk=>if S s=true then .map fit (zy dom v) (qR get v xv)else if S e=true then .mapS fit (W5 dom v) (qaL dom get v z) σ clk else .map fit dom get
 have hde:nth (dsts l) e=some te:=by rw[zk,hoe];exact hdse
 have hdx:nth (dsts l) x=some tx:=by rw[zk,hox];exact hdsx
 have hdS:nth (dsts l) s=none:=by rw[zk,hos];exact hdss
 have hte:∀j,j<l.length→nth (dsts l) j=some te→j=e:=λj hj hd=>by
  have ho:l[j]? = some l[j]:=by simp[hj]
  rw[zk,ho]at hd;rcases(hcl j _ ho).2 with c|c|c|⟨-,c,-⟩
  ·exact c
  ·subst c;rw[hox]at ho;injection ho with ho;rw[←ho]at hd;simp only[Option.bind_some,hdsx,Option.some.injEq]at hd;exact absurd hd.symm hne
  ·subst c;rw[hos]at ho;injection ho with ho;rw[←ho]at hd;simp[hdss]at hd
  ·exact absurd hd (jv c).2
 have htx:∀j,j<l.length→nth (dsts l) j=some tx→j=x:=λj hj hd=>by
  have ho:l[j]? = some l[j]:=by simp[hj]
  rw[zk,ho]at hd;rcases(hcl j _ ho).2 with c|c|c|⟨-,-,c⟩
  ·subst c;rw[hoe]at ho;injection ho with ho;rw[←ho]at hd;simp only[Option.bind_some,hdse,Option.some.injEq]at hd;exact absurd hd hne
  ·exact c
  ·subst c;rw[hos]at ho;injection ho with ho;rw[←ho]at hd;simp[hdss]at hd
  ·exact absurd hd (jv c).2
 have hrs:∀σ S n u,n≤l.length→u≠te→u≠tx→FS (nth (dsts l)) (rs σ) S (look st.fr) n u=FS (nth (dsts l)) res S (look st.fr) n u:=λσ S n u hn h1 h2=>qcN λj hj _ hd=>by
  have c1:j≠e:=λc=>by subst c;rw[hde]at hd;injection hd with hd;exact h1 hd.symm
  have c2:j≠x:=λc=>by subst c;rw[hdx]at hd;injection hd with hd;exact h2 hd.symm
  simp only[rs,if_neg c1,if_neg c2]
 refine Km hm (λm st2=>∃σ clk,((∀u,(u≠te∧u≠tx)∨m.testBit s=false→look st2.fr u=FS (nth (dsts l)) (rs σ) m.testBit (look st.fr) l.length u)∧(m.testBit s=true→look st2.fr te=.top∧look st2.fr tx=.top))∧(∀j,blk st2.hp j=if j=mid then some (M m.testBit σ clk)else blk (UH (but up s) m.testBit st.hp l.length) j)∧st2.nid+cnt m.testBit l.length=st.nid+l.length) rfl hedge (Weak.refl O st) ?_ ?_ ?_
 ·refine⟨λ_=>0,0,⟨λu _=>?_,λh=>by rw[xb3]at h;cases h⟩,λj=>?_,?_⟩
  ·exact(vw (i:=0) (xb6 _) λj hj _=>by simp).symm
  ·split
   ·rename_i c
    subst c;simp only[M,xb3,xe7,if_false];exact hmap
   ·rw[Zi (i:=0) (xb6 _) λj _ _ _=>xb3 j]
    rfl
  ·rw[qaM λj _=>xb3 j]
 ·refine QZ λj o ho=>?_
  rw[xb0];rintro m st2 ⟨σ,clk,⟨hfr,htop⟩,hhp,hnid⟩ hclm hbit hpre;have hjl:j<l.length:=(List.getElem?_eq_some_iff.1 ho).1;have hS:∀i,(m ||| 2^j).testBit i=(m.testBit i || decide (i=j)):=λi=>by rw[tb];simp[eq_comm]
  have hgd:o.guard=none:=(hcl j o ho).1;have hdsj:nth (dsts l) j=o.dst:=by rw[zk,ho];rfl
  have hlook:∀r u,u∈seen (dsts l) o→FS (nth (dsts l)) r m.testBit (look st.fr) l.length u=FS (nth (dsts l)) r (λ_=>true) (look st.fr) j u:=λr u hu=>by
   refine vw Ω λi hi hdi=>?_;obtain⟨oi,hoi⟩:∃oi,l[i]? = some oi:=⟨l[i],by simp[hi]⟩;constructor
   ·intro hs
    refine xf9 λhge=>?_;by_cases c:i=j
    ·subst c;rw[hbit]at hs;cases hs
    ·rcases qX hapart ho hoi Ω with hb|⟨_,hb⟩
     ·have:=hclm _ _ hb hs
      rw[hbit]at this;cases this
     ·exact hb u hdi hu
   ·intro hlt
    rcases qX hapart hoi ho hlt with hb|⟨hb,_⟩
    ·exact hpre i hb Ω
    ·exact(hb u hdi hu).elim
  have hlater:∀u,nth (dsts l) j=some u→∀i,i<l.length→j<i→nth (dsts l) i=some u→m.testBit i=false:=by
   intro u hdu i hi hij hdi;obtain⟨oi,hoi⟩:∃oi,l[i]? = some oi:=⟨l[i],by simp[hi]⟩;cases hv:m.testBit i with
   |false=>rfl
   |true=>
    rcases qX hapart ho hoi hij with hb|⟨_,hb⟩
    ·have:=hclm _ _ hb hv
     rw[hbit]at this;cases this
    ·refine(hb u hdi ?_).elim
     simp only[seen,xd4];rw[hdsj]at hdu;simp[hdu]
  have next:j≠s→∀σ' clk' (st3:St),(∀i,m.testBit i=true→rs σ i=rs σ' i)→(∀u,look st3.fr u=if o.dst=some u then rs σ' j else look st2.fr u)→(∀i,blk st3.hp i=if i=mid then some (M (m ||| 2^j).testBit σ' clk')else blk (UH (but up s) (m ||| 2^j).testBit st.hp l.length) i)→st3.nid=st2.nid+1→
    ∃σ clk,((∀u,(u≠te∧u≠tx)∨(m ||| 2^j).testBit s=false→look st3.fr u=FS (nth (dsts l)) (rs σ) (m ||| 2^j).testBit (look st.fr) l.length u)∧((m ||| 2^j).testBit s=true→look st3.fr te=.top∧look st3.fr tx=.top))∧(∀i,blk st3.hp i=if i=mid then some (M (m ||| 2^j).testBit σ clk)else blk (UH (but up s) (m ||| 2^j).testBit st.hp l.length) i)∧st3.nid+cnt (m ||| 2^j).testBit l.length=st.nid+l.length:=by
   intro hjs σ' clk' st3 h1 h2 h3 h4;have hSs:(m ||| 2^j).testBit s=m.testBit s:=by rw[hS];simp[Ne.symm hjs]
   rw[hSs];refine⟨σ',clk',⟨λu hu=>?_,λhs=>?_⟩,h3,?_⟩
   ·rw[Kh hS hjl (hlater u),h2 u,hdsj,hfr u hu]
    split
    ·rfl
    ·exact qcN λi _ hi _=>h1 i hi
   ·have n1:o.dst≠some te:=λc=>by
     have:=hte j hjl (hdsj.trans c);subst this;have:=hclm _ _ hse hs;rw[hbit]at this;cases this
    have n2:o.dst≠some tx:=λc=>by
     have:=htx j hjl (hdsj.trans c);subst this;have:=hclm _ _ hsx hs;rw[hbit]at this;cases this
    rw[h2,if_neg n1,h2,if_neg n2];exact htop hs
   ·have:=(je (S:=m.testBit) (S':=(m ||| 2^j).testBit) hS hbit (n:=l.length)).2 hjl
    omega
  have hmem:∀X,X≠mid→(∀i,i<l.length→∀b,up i=some (X,b)→(m.testBit i=true↔i<j))→blk st2.hp X=blk (TH st.nid nb up st.hp j) X:=λX hX h=>by
   rw[hhp,if_neg hX,←qcO (up:=up) (s:=s) (λt' b hu=>by rw[hups]at hu;injection hu with hu;injection hu with hu;rw[←hu];exact λe=>hX e.symm),G1 (i:=j) Ω h,hTH _ Ω]
  have hmte:mm≠te:=λc=>qz hmm (k:=e) Ω (xa5 _) (c▸hde);have hmtx:mm≠tx:=λc=>qz hmm (k:=x) Ω Ω (c▸hdx);have hmp2:e≤j→mm∈seen (dsts l) o→look st2.fr mm=.mp mid:=λhej hu=>by
   rw[hfr _ (.inl ⟨hmte,hmtx⟩),hrs _ _ _ _ (xa5 _) hmte hmtx,hlook _ _ hu,hmmx j hej Ω,hmp]
  by_cases cj:j=e∨j=x∨j=s
  ·rcases cj with cj|cj|cj
   ·subst cj
    have hoo:o=oe:=by rw[hoe]at ho;exact(Option.some.inj ho).symm
    subst hoo;have hseen:∀u,.tmp u∈o.op.operands.toList→u∈seen (dsts l) o:=λu hu=>by
     simp only[seen,xd4];exact .inl (List.mem_filterMap.2 ⟨.tmp u,hu,rfl⟩)
    have hsf:m.testBit s=false:=by
     cases hv:m.testBit s with
     |false=>rfl
     |true=>have:=hclm _ _ hse hv;rw[hbit]at this;cases this
    have hxf:m.testBit x=false:=by
     cases hv:m.testBit x with
     |false=>rfl
     |true=>have:=hclm _ _ hxe hv;rw[hbit]at this;cases this
    have hb:=hhp mid;rw[if_pos rfl]at hb;simp only[M,hsf,hbit,xe7,if_false,hfit]at hb;have hkk:keyV (env (look st2.fr) k)=some v:=by
     rw[←hkey]
     congr 1
     cases k with
     |tmp kk=>
      have hkn:zd (dsts l) j kk=true:=hkf;have n1:kk≠te:=λc=>qz hkn (k:=j) Ω (xa5 _) (c▸hde);have n2:kk≠tx:=λc=>qz hkn (k:=x) Ω Ω (c▸hdx);show look st2.fr kk=FS (nth (dsts l)) res (λ_=>true) (look st.fr) s kk;rw[hfr _ (.inl ⟨n1,n2⟩),hrs _ _ _ _ (xa5 _) n1 n2,hlook _ _ (hseen kk (by rw[hope];simp[Op.operands])),←kR (i:=j) (n:=l.length) Ω (λk hk hik=>qz hkn Ω hik),←kR (i:=s) (n:=l.length) Ω (λk hk hik=>qz hkn Ω Ω)]
     |const c=>rfl
     |global c=>rfl
     |func c=>rfl
    have hx2:env (look st2.fr) (.tmp mm)=.mp mid:=hmp2 (xa5 _) (hseen mm (by rw[hope];simp[Op.operands]));have fin:∀(D:Value→Bool)(G:Value→SV)(w:SV),D=W5 dom v→G=qaL dom get v z→w=(if dom v=true then get v else z)→∀(stamp:Value→Nat)(c:Nat),∃st4,Weak O ((⟨st2.fr,setBlk st2.hp mid (.mapS (qm ag ls) D G stamp c),st2.nid⟩:St).putI o.dst (.tup [w,.val (.int .i64 (stamp v))])) st4∧∃σ clk,((∀u,(u≠te∧u≠tx)∨(m ||| 2^j).testBit s=false→look st4.fr u=FS (nth (dsts l)) (rs σ) (m ||| 2^j).testBit (look st.fr) l.length u)∧((m ||| 2^j).testBit s=true→look st4.fr te=.top∧look st4.fr tx=.top))∧(∀i,blk st4.hp i=if i=mid then some (M (m ||| 2^j).testBit σ clk)else blk (UH (but up s) (m ||| 2^j).testBit st.hp l.length) i)∧st4.nid+cnt (m ||| 2^j).testBit l.length=st.nid+l.length:=by
     intro D G w hD hG hw stamp c;subst hD;subst hG;subst hw;refine⟨_,qem O _,next Ω stamp c _ (λi hi=>?_) (λu=>?_) (λi=>?_) (by rw[gE])⟩
     ·have n1:i≠j:=λe=>by subst e;rw[hbit]at hi;cases hi
      have n2:i≠x:=λe=>by subst e;rw[hxf]at hi;cases hi
      simp only[rs,if_neg n1,if_neg n2]
     ·rw[hdse]
      show look (putIn st2.fr te _) u=_;rw[wu];by_cases cu:u=te
      ·subst cu;simp[rs]
      ·rw[if_neg cu,if_neg (λe=>cu (Option.some.inj e).symm)]
     ·have e1:(m ||| 2^j).testBit s=false:=by rw[hS,hsf];simp;omega
      have e2:(m ||| 2^j).testBit j=true:=by rw[hS];simp
      have hub:but up s j=none:=by
       have:up j=none:=(hquiet j o ho (.inl rfl)).2.2;simp only[but,this,ite_self]
      rw[wy hS hub];have e3:∀(st5:St) d w,(st5.putI d w).hp=st5.hp:=λst5 d w=>by cases d<;>rfl
      simp only[e3];rw[qn];by_cases ci:i=mid
      ·subst ci
       rw[if_pos rfl,if_pos rfl,hb];simp only[M,e1,e2,xe7,if_false,if_true,hfit];rfl
      ·rw[if_neg ci,if_neg ci,hhp,if_neg ci]
    unfold opH zr;rw[hgd];refine .inr ⟨by rw[hope];rfl,.inl ?_⟩;rw[hope];cases hd:dom v with
    |true=>exact wE hx2 hkk hmi hb hkv hd λstamp c=>fin _ _ _ (by simp[W5,hd]) (by simp[qaL,hd]) (by simp[hd]) stamp c
    |false=>exact Kn hx2 hkk hmi hb hkv hd λstamp c=>fin _ _ _ (by simp[W5,hd]) (by simp[qaL,hd]) (by simp[hd]) stamp c
   ·subst cj
    have hoo:o=ox:=by rw[hox]at ho;exact(Option.some.inj ho).symm
    subst hoo;have hsf:m.testBit s=false:=by
     cases hv:m.testBit s with
     |false=>rfl
     |true=>have:=hclm _ _ hsx hv;rw[hbit]at this;cases this
    have hte2:look st2.fr te=rs σ e:=by
     rw[hfr _ (.inr hsf)];exact W4 hde (hpre e hxe Ω) Ω hte
    have hre:rs σ e=.tup [if dom v=true then get v else z,.val (.int .i64 (σ v))]:=by simp[rs]
    have hrx:rs σ j=.val (.int .i64 (σ v)):=by simp only[rs,if_neg (Ω:j≠e),if_true]
    unfold opH zr;rw[hgd];refine .inl ?_;rw[hopx];simp only[stepR,env,hte2,hre,rExtract];refine⟨.val (.int .i64 (σ v)),rfl,_,Weak.refl _ _,next Ω σ clk _ (λ_ _=>rfl) (λu=>?_) (λi=>?_) (by rw[qx])⟩
    ·rw[jD,hrx]
     have:=congrFun (jt st2.fr st2.hp st2.nid o.dst (.val (.int .i64 (σ v)))) u;exact this
    ·have e1:(m ||| 2^j).testBit s=m.testBit s:=by rw[hS];simp;omega
     have e2:(m ||| 2^j).testBit e=m.testBit e:=by rw[hS];simp;omega
     have hub:but up s j=none:=by
      have:up j=none:=(hquiet j o ho (.inr rfl)).2.2;simp only[but,this,ite_self]
     have hMS:M (m ||| 2^j).testBit σ clk=M m.testBit σ clk:=by simp only[M,e1,e2]
     show blk (st2.put o.dst _).hp i=_;rw[zu,hhp,hMS,wy hS hub]
   ·subst cj
    have hoo:o=os:=by rw[hos]at ho;exact(Option.some.inj ho).symm
    subst hoo;have hseen:∀u,.tmp u∈o.op.operands.toList→u∈seen (dsts l) o:=λu hu=>by
     simp only[seen,xd4];exact .inl (List.mem_filterMap.2 ⟨.tmp u,hu,rfl⟩)
    have hx2:env (look st2.fr) (.tmp mm)=.mp mid:=hmp2 Ω (hseen mm (by rw[hops_];simp[Op.operands]));have htx2:env (look st2.fr) (.tmp tx)=.val (.int .i64 (σ v)):=by
     show look st2.fr tx=_;rw[hfr _ (.inr hbit),W4 hdx (hpre x hsx Ω) Ω htx];simp only[rs,if_neg (Ω:x≠e),if_true]
    have hb:=hhp mid;rw[if_pos rfl]at hb;simp only[M,hbit,hpre e hse Ω,xe7,if_false,if_true]at hb;have hyv:env (look st2.fr) y=xv:=by
     rw[←hxv];cases y with
     |tmp yy=>
      simp only[qjg,xe6,Bool.not_eq_true']at hyn;show look st2.fr yy=FS (nth (dsts l)) res (λ_=>true) (look st.fr) j yy;have n1:yy≠te:=λc=>by rw[c]at hyn;simp at hyn
      have n2:yy≠tx:=λc=>by rw[c]at hyn;simp at hyn
      rw[hfr _ (.inl ⟨n1,n2⟩),hrs _ _ _ _ (xa5 _) n1 n2];exact hlook _ _ (hseen yy (by rw[hops_];simp[Op.operands]))
     |const c=>rfl
     |global c=>rfl
     |func c=>rfl
    obtain⟨kt,et,ii,hu,hki,hinf,-⟩:=zM hmi;have hself:eqK v v=true:=(jx hki hkv hkv).2 rfl;have hdv:W5 dom v v=true:=by
     rw[W6 (get:=get) (z:=z) (xv:=xv) |>.1];simp[zy,hself]
    unfold opH zr;rw[hgd];refine .inr ⟨by rw[hops_];rfl,.inr ?_⟩;rw[hops_];refine Ko hki hfit hx2 htx2 hb hdv ?_;rw[hyv,hdss];have e1:(m ||| 2^j).testBit j=true:=by rw[hS];simp
    refine⟨_,(qem O _).trans (qms O _ te tx),σ,clk,⟨λu hu=>?_,λ_=>⟨?_,?_⟩⟩,λi=>?_,?_⟩
    ·rw[e1]at hu
     obtain⟨n1,n2⟩:=hu.resolve_right Ωj;show look (putFr (putFr st2.fr te .top) tx .top) u=_;rw[zq,if_neg n2,zq,if_neg n1,hfr u (.inl ⟨n1,n2⟩),Kh hS hjl (hlater u),hdS,if_neg Ωj]
    ·show look (putFr (putFr st2.fr te .top) tx .top) te=_
     rw[zq,if_neg hne,zq,if_pos rfl]
    ·show look (putFr (putFr st2.fr te .top) tx .top) tx=_
     rw[zq,if_pos rfl]
    rotate_left
    ·have:=(je (S:=m.testBit) (S':=(m ||| 2^j).testBit) hS hbit (n:=l.length)).2 hjl
     show st2.nid+1+_=_;omega
    show blk (setBlk st2.hp mid _) i=_;have hub:but up j j=none:=by simp[but]
    rw[qn,wy hS hub];by_cases ci:i=mid
    ·subst ci
     rw[if_pos rfl,if_pos rfl,hb];simp only[M,e1,if_true];rw[(W6 (get:=get) (z:=z) (xv:=xv)).1,(W6 (dom:=dom) (z:=z)).2];rfl
    ·rw[if_neg ci,if_neg ci,hhp,if_neg ci]
  ·have c1:j≠e:=λc=>cj (.inl c)
   have c2:j≠x:=λc=>cj (.inr (.inl c));have c3:j≠s:=λc=>cj (.inr (.inr c));have hat1:=hat j o ho c1 c2 c3;obtain⟨hcls1,hnte,hntx⟩:yT (dsts l) (zw [] l) t e s j o=true∧Qw te o=true∧Qw tx o=true:=by
    rcases(hcl j o ho).2 with c|c|c|c
    ·exact absurd c c1
    ·exact absurd c c2
    ·exact absurd c c3
    ·exact c
   have hslot:∀u,.tmp u∈o.op.operands.toList→look st2.fr u=FS (nth (dsts l)) res (λ_=>true) (look st.fr) j u:=λu hu=>by
    have hm1:u∈gu o:=List.mem_filterMap.2 ⟨.tmp u,hu,rfl⟩;rw[hfr _ (.inl ⟨λc=>(jv hnte).1 (c▸hm1),λc=>(jv hntx).1 (c▸hm1)⟩),hrs _ _ _ _ (xa5 _) (λc=>(jv hnte).1 (c▸hm1)) (λc=>(jv hntx).1 (c▸hm1))];exact hlook _ _ (by simp only[seen,xd4];exact .inl hm1)
   have hfx0:∀i oi,l[i]? = some oi→i≠e→i≠x→i≠s→(qgA e x s 0 l)[i]? = some oi:=λi oi hoi h1 h2 h3=>by
    have:=qaI (e:=e) (x:=x) (s:=s) (i:=0) hoi;rw[xb0,if_neg (by rintro(h|h|h)<;>contradiction)]at this;exact this
   have hchg:∀i X b,i<l.length→X≠mid→up i=some (X,b)→i≠e∧i≠x∧i≠s∧∃oi ty b' v',l[i]? = some oi∧oi.op=.store ty (.tmp b') v'∧zd (dsts l) i b'=true∧qQ (look st1.fr b')=some X:=λi X b hi hX hu=>by
    have hoi:l[i]? = some l[i]:=by simp[hi]
    have hne:¬(i=e∨i=x):=λc=>by
     have:=(hquiet i _ hoi c).2.2;rw[hu]at this;cases this
    have hns:i≠s:=λc=>by
     subst c;rw[hups]at hu;injection hu with hu;injection hu with hu;exact hX hu.symm
    obtain⟨ty,b',v',a1,a2,a3,a4⟩:=(hord i _ hoi (λc=>hne (.inl c)) (λc=>hne (.inr c)) hns).2 _ _ hu;exact⟨λc=>hne (.inl c),λc=>hne (.inr c),hns,_,ty,b',v',hoi,a1,a2,a4⟩
   have hrd:gD o.op=true→∀X,X≠mid→(∀ty a,o.op=.load ty (.tmp a)→qQ (FS (nth (dsts l)) res (λ_=>true) (look st.fr) j a)=some X)→∀i,i<l.length→∀b,up i=some (X,b)→(m.testBit i=true↔i<j):=by
    intro hro X hX hld i hi b hu;obtain⟨n1,n2,n3,oi,ty,b',v',hoi,a1,a2,a3⟩:=hchg i X b hi hX hu;have f1:=hfx0 i oi hoi n1 n2 n3;have f2:=hfx0 j o ho c1 c2 c3;have hui:qG oi.op=true:=by rw[a1];rfl
    constructor
    ·intro hs
     refine xf9 λhge=>?_;by_cases c:i=j
     ·subst c;rw[hbit]at hs;cases hs
     ·rcases zh hpair f2 f1 Ω with hb|⟨_,hb,_⟩|⟨t4,a4,t5,b5,y5,e1,e2,hmem4,hn1,hn2⟩
      ·have:=hclm _ _ hb hs
       rw[hbit]at this;cases this
      ·exact hb ⟨hro,hui⟩
      ·rw[a1]at e2
       injection e2 with _ e2 _;injection e2 with e2;subst e2;have h1:=hld _ _ e1;have h3:=hfar _ _ hmem4;rw[←kR (i:=j) (n:=l.length) Ω (λk hk hik=>qz hn1 Ω hik),←hF1]at h1;unfold vO at h3;rw[h1,a3]at h3;exact h3 rfl
    ·intro hlt
     rcases zh hpair f1 f2 hlt with hb|⟨_,_,hb⟩|⟨t4,a4,t5,b5,y5,e1,e2,hmem4,hn1,hn2⟩
     ·exact hpre i hb Ω
     ·exact(hb ⟨hui,hro⟩).elim
     ·rw[e1]at a1;cases a1
   have hrsj:rs σ j=res j:=by simp only[rs,if_neg c1,if_neg c2]
   have hMS:M (m ||| 2^j).testBit σ clk=M m.testBit σ clk:=by
    have e1:(m ||| 2^j).testBit s=m.testBit s:=by rw[hS];simp[Ne.symm c3]
    have e2:(m ||| 2^j).testBit e=m.testBit e:=by rw[hS];simp[Ne.symm c1]
    simp only[M,e1,e2]
   have hlk:∀sv u,look (inD o.dst (st2.put o.dst sv).fr) u=if o.dst=some u then sv else look st2.fr u:=λsv u=>by
    rw[jD];have:=congrFun (jt st2.fr st2.hp st2.nid o.dst sv) u;exact this
   have kfin:up j=none→∀sv,sv=res j→∃st4,Weak O ⟨inD o.dst (st2.put o.dst sv).fr,(st2.put o.dst sv).hp,(st2.put o.dst sv).nid+1⟩ st4∧∃σ clk,((∀u,(u≠te∧u≠tx)∨(m ||| 2^j).testBit s=false→look st4.fr u=FS (nth (dsts l)) (rs σ) (m ||| 2^j).testBit (look st.fr) l.length u)∧((m ||| 2^j).testBit s=true→look st4.fr te=.top∧look st4.fr tx=.top))∧(∀i,blk st4.hp i=if i=mid then some (M (m ||| 2^j).testBit σ clk)else blk (UH (but up s) (m ||| 2^j).testBit st.hp l.length) i)∧st4.nid+cnt (m ||| 2^j).testBit l.length=st.nid+l.length:=λhu sv hsv=>by
    subst hsv;refine⟨_,Weak.refl _ _,next c3 σ clk _ (λ_ _=>rfl) (λu=>by rw[hrsj];exact hlk _ u) (λi=>?_) (by rw[qx])⟩;have hub:but up s j=none:=by simp only[but,hu,ite_self]
    show blk (st2.put o.dst (res j)).hp i=_;rw[zu,hhp,hMS,wy hS hub]
   unfold opH zr;rw[hgd];refine .inl ?_;have run:(kK o.op=true)→stepR P (look st2.fr) st2.hp o.op=stepR P (FS (nth (dsts l)) res (λ_=>true) (look st.fr) j) (TH st.nid nb up st.hp j) o.op→qG o.op=false→(jM o.op=true∨∃t x k ok,o.op=.lookup t x k ok)→Zp P O (Tag.mk:Tag True) (Tag.mk:Tag o.op) o.dst st2.nid st2 (λst'=>∃st4,Weak O ⟨inD o.dst st'.fr,st'.hp,st'.nid+1⟩ st4∧∃σ clk,((∀u,(u≠te∧u≠tx)∨(m ||| 2^j).testBit s=false→look st4.fr u=FS (nth (dsts l)) (rs σ) (m ||| 2^j).testBit (look st.fr) l.length u)∧((m ||| 2^j).testBit s=true→look st4.fr te=.top∧look st4.fr tx=.top))∧(∀i,blk st4.hp i=if i=mid then some (M (m ||| 2^j).testBit σ clk)else blk (UH (but up s) (m ||| 2^j).testBit st.hp l.length) i)∧st4.nid+cnt (m ||| 2^j).testBit l.length=st.nid+l.length) .mk (stepR P (look st2.fr) st2.hp o.op):=λhca hst hnu hpl=>by
    rw[hst];generalize hr1:res j=a1 at hat1 kfin;generalize hr2:nb j=a2 at hat1;generalize hr3:up j=a3 at hat1 kfin;cases hat1 with
    |skip hg=>simp[kZ,hgd]at hg
    |upd obl t b hg h ho=>rcases kH (P:=P) hpl with⟨_,_,e1⟩|⟨_,e1⟩|e1<;>rw[e1]at h<;>cases h
    |run sv nb hg hca hr=>
     cases hr with
     |pure obl sv h ho=>rw[h];exact⟨ho,kfin rfl _ rfl⟩
     |ex obl sv h ho=>rw[h];exact⟨_,ho,kfin rfl _ rfl⟩
     |new obl b mk h ho=>rcases kH (P:=P) hpl with⟨_,_,e1⟩|⟨_,e1⟩|e1<;>rw[e1]at h<;>cases h
     |call f args res h hc=>rcases kH (P:=P) hpl with⟨_,_,e1⟩|⟨_,e1⟩|e1<;>rw[e1]at h<;>cases h
     |callN f args pats b res h hc hs=>rcases kH (P:=P) hpl with⟨_,_,e1⟩|⟨_,e1⟩|e1<;>rw[e1]at h<;>cases h
   have hne:stepR P (FS (nth (dsts l)) res (λ_=>true) (look st.fr) j) (TH st.nid nb up st.hp j) o.op≠.bad:=λhb=>by
    generalize res j=a1 at hat1;generalize nb j=a2 at hat1;generalize up j=a3 at hat1;cases hat1 with
    |skip hg=>simp[kZ,hgd]at hg
    |upd obl t b hg h ho=>rw[hb]at h;cases h
    |run sv nb hg hca hr=>
     cases hr with
     |pure obl sv h ho=>rw[hb]at h;cases h
     |ex obl sv h ho=>rw[hb]at h;cases h
     |new obl b mk h ho=>rw[hb]at h;cases h
     |call f args res h hc=>rw[hb]at h;cases h
     |callN f args pats b res h hc hs=>rw[hb]at h;cases h
   rcases jZ hcls1 with⟨hpl,hldn⟩|⟨xm,kk,hop,hlt,hbs⟩|⟨ty,b,v',hop,hnf,hdn⟩
   ·have hca:kK o.op=true:=by generalize o.op=op at hpl;cases op<;>first|(simp[jM]at hpl;done)|rfl
    refine run hca ?_ (qcd hca) (.inl hpl);rw[yt (.inl hpl) hslot];cases hro:gD o.op with
    |false=>exact yf _ hca hro
    |true=>
     obtain⟨ty,a,hop⟩:∃ty a,o.op=.load ty (.tmp a):=by
      generalize o.op=op at hpl hro ⊢;unfold jM at hpl;split at hpl<;>first|(cases hro;done)|exact⟨_,_,rfl⟩|(cases hpl;done)
     have hnf:=hldn _ _ hop;rw[hop]at hne ⊢;refine vh (λX y hX hy=>?_) hne;have hX':qQ (look st1.fr a)=some X:=by
      rw[hF1,kR (i:=j) Ω (λk hk hik=>qz hnf Ω hik)];exact hX
     have hXm:X≠mid:=λc=>by
      subst c;exact hadr a ((yU ho).1 _ _ hop) hX'
     rw[hmem X hXm (hrd hro X hXm λty' a' e=>by rw[hop]at e;cases e;exact hX)];exact hy
   ·have hsf:m.testBit s=false:=by
     cases hv:m.testBit s with
     |false=>rfl
     |true=>have:=hclm _ _ hbs hv;rw[hbit]at this;cases this
    refine run (by rw[hop];rfl) ?_ (by rw[hop];rfl) (.inr ⟨_,_,_,_,hop⟩);rw[yt (.inr (.inl ⟨_,_,_,_,hop⟩)) hslot,hop];simp only[stepR,hmi];generalize hA:env (FS (nth (dsts l)) res (λ_=>true) (look st.fr) j) xm=A;generalize env (FS (nth (dsts l)) res (λ_=>true) (look st.fr) j) kk=B;by_cases cA:A=.mp mid
    ·subst cA
     have h1:blk (TH st.nid nb up st.hp j) mid=some (.map fit dom get):=by
      rw[hTH j Ω,←hmap];exact jf λi hi _ t' b hu e=>by
       subst e;have:=hup i b Ω hu;omega
     have h2:=hhp mid;rw[if_pos rfl]at h2;simp only[M,hsf,xe7,if_false]at h2;simp only[rLookup,mapOf,h1,h2];by_cases ce:m.testBit e=true
     ·simp only[ce,if_true]
      cases keyV B with
      |none=>rfl
      |some u=>
       simp only[xe7,if_false];rw[qji]
     ·simp only[ce,xe7,if_false]
    ·have:mapOf st2.hp A=mapOf (TH st.nid nb up st.hp j) A:=by
      cases A<;>first|rfl|skip
      case mp id'=>
       have hXm:id'≠mid:=λc=>cA (by rw[c]);simp only[mapOf];rw[hmem id' hXm (hrd (by rw[hop];rfl) id' hXm λty a e=>by rw[hop]at e;cases e)]
     simp only[rLookup,this]
   ·have hwr:∀i,i<l.length→but up s i≠none→(m.testBit i=true↔i<j):=λi hi hu=>by
     have hns:i≠s:=λc=>hu (by simp[but,c]);have hu':up i≠none:=λc=>hu (by simp[but,c]);have hoi:l[i]? = some l[i]:=by simp[hi]
     have hne:¬(i=e∨i=x):=λc=>hu' (hquiet i _ hoi c).2.2;obtain⟨p,hp⟩:=Option.ne_none_iff_exists'.1 hu';obtain⟨X,b2⟩:=p;obtain⟨ty2,b3,v3,a1,-,-,-⟩:=(hord i _ hoi (λc=>hne (.inl c)) (λc=>hne (.inr c)) hns).2 _ _ hp;have f1:=hfx0 i _ hoi (λc=>hne (.inl c)) (λc=>hne (.inr c)) hns;have f2:=hfx0 j o ho c1 c2 c3;have hui:qG (l[i]).op=true:=by rw[a1];rfl
     have huj:qG o.op=true:=by rw[hop];rfl
     constructor
     ·intro hs
      refine xf9 λhge=>?_;by_cases c:i=j
      ·subst c;rw[hbit]at hs;cases hs
      ·rcases zh hpair f2 f1 Ω with hb|⟨hb,_,_⟩|⟨t4,a4,t5,b5,y5,e1,e2,hmem4,hn1,hn2⟩
       ·have:=hclm _ _ hb hs
        rw[hbit]at this;cases this
       ·exact hb ⟨huj,hui⟩
       ·rw[hop]at e1;cases e1
     ·intro hlt
      rcases zh hpair f1 f2 hlt with hb|⟨hb,_,_⟩|⟨t4,a4,t5,b5,y5,e1,e2,hmem4,hn1,hn2⟩
      ·exact hpre i hb Ω
      ·exact(hb ⟨hui,huj⟩).elim
      ·rw[a1]at e1;cases e1
    generalize hr1:res j=a1 at hat1 kfin;generalize hr2:nb j=a2 at hat1;generalize hr3:up j=a3 at hat1 kfin;cases hat1 with
    |skip hg=>simp[kZ,hgd]at hg
    |run sv nb hg hca hr=>rw[hop]at hca;cases hca
    |upd obl X bb hg h hobl=>
     rw[hop]at h;have hX:=gK h;have hX':qQ (look st1.fr b)=some X:=by
      rw[hF1,kR (i:=j) Ω (λk hk hik=>qz hnf Ω hik)];exact hX
     have hXm:X≠mid:=λc=>by
      subst c;exact hadr b ((yU ho).2 _ _ _ hop) hX'
     have hcond:∀i,i<l.length→∀b2,up i=some (X,b2)→(m.testBit i=true↔i<j):=λi hi b2 hu=>by
      have hns:i≠s:=λc=>by
       subst c;rw[hups]at hu;injection hu with hu;injection hu with hu;exact hXm hu.symm
      exact hwr i hi (by simp[but,hns,hu])
     have hst:stepR P (look st2.fr) st2.hp o.op=.upd obl X bb:=by
      rw[yt (.inr (.inr ⟨_,_,_,hop⟩)) hslot,hop];have h':=h;simp only[stepR]at h ⊢;rw[qcM (hp:=TH st.nid nb up st.hp j) (λid y hid hy=>?_) (by rw[h];simp),h];rw[hX]at hid;injection hid with hid;subst hid;rw[hmem X hXm hcond];exact hy
     rw[hst];refine⟨hobl,_,Weak.refl _ _,?_⟩;have hub:but up s j=some (X,bb):=by simp only[but,if_neg c3,hr3]
     refine next c3 σ clk _ (λ_ _=>rfl) (λu=>?_) (λi=>?_) (by simp[hdn,St.put])
     ·rw[hdn]
      simp only[reduceCtorEq,if_false];rw[jD];rfl
     ·rw[hdn]
      show blk (setBlk st2.hp X bb) i=_;rw[qn,hMS,WA hS hjl hub hwr,qn];by_cases ci:i=X
      ·subst ci
       rw[if_pos rfl,if_neg hXm,if_pos rfl,hhp,if_neg hXm]
      ·rw[if_neg ci,if_neg ci,hhp]
 ·rintro m st2 ⟨σ,clk,⟨hfr,htop⟩,hhp,hnid⟩ hall
  refine hk1 st2 (λu=>?_) (λj=>?_) ?_
  ·by_cases h1:u=te
   ·rw[if_pos (.inl h1),h1];exact(htop (hall s hsl)).1
   by_cases h2:u=tx
   ·rw[if_pos (.inr h2),h2];exact(htop (hall s hsl)).2
   rw[if_neg (by rintro(h|h)<;>contradiction),hfr u (.inl ⟨h1,h2⟩),hrs _ _ _ _ (xa5 _) h1 h2,hF1];exact vw (xa5 _) λj hj _=>by simp[hall j hj,hj]
  ·rw[hhp]
   split
   ·rename_i c
    subst c;simp only[M,hall s hsl,if_true];exact hfin.symm
   ·rename_i c
    rw[hh1,hTH _ (xa5 _),←qcO (up:=up) (s:=s) (λt' b hu=>by rw[hups]at hu;injection hu with hu;injection hu with hu;rw[←hu];exact λe=>c e.symm)];rw[vR λj hj _=>hall j hj]
  ·rw[qen hall]at hnid
   omega
end
def qcP:Nat→List Oper→Nat
 |i,[]=>i
 |i,o :: r=>match o.op with
  |.mapEntry _ _ _=>i
  |_=>qcP (i+1) r
noncomputable def entQ(e:Nat)(oe ox os:Oper):Option EI:=
 match oe.op,oe.dst with
 |.mapEntry t (.tmp mm) k,some te=>match ox.op,ox.dst with
  |.extract (.tmp te') 1,some tx=>match os.op,os.dst with
   |.entryStore t' (.tmp mm') (.tmp tx') y,none=>Bool.rec none (some ⟨e,e+1,e+2,te,tx,t,mm,k,y⟩) (Nat.beq te te'&&(Nat.beq t t'&&(Nat.beq mm mm'&&(Nat.beq tx tx'&&!(Nat.beq te tx)))))
   |_,_=>none
  |_,_=>none
 |_,_=>none
noncomputable def entI(l:List Oper):Option EI:=
 let e:=qcP 0 l
 match l[e]?,l[e+1]?,l[e+2]? with
 |some oe,some ox,some os=>entQ e oe ox os
 |_,_,_=>none
theorem qmt{l:List Oper}{q:EI}(h:entI l=some q):Ent q l:=by
 unfold entI at h;dsimp only at h;generalize qcP 0 l=e at h;split at h
 ·rename_i oe ox os h1 h2 h3
  unfold entQ at h;split at h
  ·rename_i t mm k te e1 e2
   split at h
   ·rename_i te' tx e3 e4
    split at h
    ·rename_i t' mm' tx' y e5 e6
     cases hb:(Nat.beq te te'&&(Nat.beq t t'&&(Nat.beq mm mm'&&(Nat.beq tx tx'&&!(Nat.beq te tx)))))with
     |false=>rw[hb]at h;cases h
     |true=>
      rw[hb]at h;injection h with h;subst h;simp only[xe6,Bool.not_eq_true']at hb;obtain⟨b1,b2,b3,b4,b5⟩:=hb;have b1:=xa6 b1;have b2:=xa6 b2;have b3:=xa6 b3;have b4:=xa6 b4;subst b1;subst b2;subst b3;subst b4;exact⟨xb5 e,xb5 (e+1),λc=>(by rw[show te=tx from c,Nat.beq_refl]at b5;cases b5),⟨oe,h1,e1,e2⟩,⟨ox,h2,e3,e4⟩,⟨os,h3,e5,e6⟩⟩
    ·cases h
   ·cases h
  ·cases h
 ·cases h
end Go.Sx
end
section
namespace Go.Sx
open Go.RowKit
variable{O:Ctx}{st:St}
section
variable{P:Program}
def qmu(P:Program)(O:Ctx)(ops:List Oper)(ms:List Nat)(inv:Nat→St→Prop)(i:Nat)(o:Oper):Prop:=
 ∀m st,inv m st→qdJ ms m→m.testBit i=false→(∀j,(ms.getD i 0).testBit j=true→j≠i→m.testBit j=true)→
  ∃st1,Weak O st st1∧opH P O (dsts ops) o st1 λst2=>∃st3,Weak O st2 st3∧inv (m ||| 2^i) st3
theorem JA(hm:P.follows .mixedOrders=true){st0:St}{K:Ex→St→Prop}{id:Nat}{ops:List Oper}(inv:Nat→St→Prop){ms:List Nat}(hms:zw [] ops=ms)(hedge:jd 0 ops=true)(hw0:Weak O st st0)(h0:inv 0 st0)(hs:yk (qmu P O ops ms inv) 0 ops)
  (hend:∀m st',inv m st'→(∀i,i<ops.length→m.testBit i=true)→∃st2,Weak O st' st2∧K .normal st2) {g:Tag K}:vj P O id ops true st K g:=by
 subst hms;intro base okc ns outs a w ro Q hro hc hi hK
 replace hi:=hw0 _ _ _ _ _ _ hi
 simp only[qJ,xe6]at hc;obtain⟨hd,-⟩:=hc;have hd:ops.all (kX ns)=true:=by simpa using hd
 have hn:ops.toArray.size=ops.length:=by simp
 have hget:∀j:Nat,ops.toArray[j]? = ops[j]?:=λj=>by simp
 have hedge:=gm hedge;have hclosed:∀(S:Nat→Bool)(i:Nat),kL ops S→(∃o,ops[i]? = some o∧∀e∈o.after,Region.binds .any e=true→S e.on=true)→kL ops (λj=>S j || decide (j=i)):=by
  rintro S i hc ⟨o,ho,he⟩ j oj hoj hS e hm' hb;simp only[xe8,decide_eq_true_eq]at hS ⊢;rcases hS with hS|hS
  ·exact .inl (hc j oj hoj hS e hm' hb)
  ·simp_all
 have hready:∀(listed:Array Bool)(i:Nat),listed.size=ops.length→i∈Region.ready .any ops.toArray listed→i<ops.length∧listed.getD i false=false∧∃o,ops[i]? = some o∧∀e∈o.after,Region.binds .any e=true→listed.getD e.on false=true:=by
  intro listed i hsz hi;obtain⟨h1,o,h2,h3⟩:=mem_ready.1 hi
  grind
 have hleast:∀(listed:Array Bool),listed.size=ops.length→∀i,i<ops.length→listed.getD i false=false→∃j,j≤i∧j∈Region.ready .any ops.toArray listed:=by
  intro listed hsz i
  induction i using Nat.strongRecOn with
  |_ i ih=>
   intro hi hf;obtain⟨o,ho⟩:∃o,ops[i]? = some o:=⟨ops[i],by simp[hi]⟩;by_cases hall:∀e∈o.after,Region.binds .any e=true→listed.getD e.on false=true
   ·refine⟨i,xa5 _,mem_ready.2 ⟨?_,o,by rw[hget];exact ho,hall⟩⟩
    simp_all
   ·grind
 have main:∀(fuel:Nat)(listed:Array Bool)(m:Nat)(st:St)(a:Act)(w:World),listed.size=ops.length→(∀i,listed.getD i false=m.testBit i)→kL ops (λi=>listed.getD i false)→cnt (λi=>listed.getD i false) ops.length=fuel→
   inv m st→Inv O base okc ns st.nid outs st a w→wpAnyIn (FR ro) 0 P .any ops.toArray Q fuel listed a w:=by
  intro fuel
  induction fuel with
  |zero=>
   intro listed m st a w hsz hbit hcl hcnt hin hi;have hall:=vP hcnt;obtain⟨st2,hw2,hk2⟩:=hend m st hin λi hi=>by rw[←hbit];exact hall i hi
   refine⟨?_,hK .normal st2 a w hk2 (hw2 _ _ _ _ _ _ hi)⟩;cases hr:Region.ready .any ops.toArray listed with
   |nil=>rfl
   |cons x xs=>
    obtain⟨h1,h2,-⟩:=hready listed x hsz ΩV
    simp_all
  |succ fuel ih=>
   intro listed m st a w hsz hbit hcl hcnt hin hi;refine⟨λh=>?_,λi hir=>?_⟩
   ·exfalso
    have:∃x,x<ops.length∧listed.getD x false=false:=by
     refine xf9 λhno=>?_;have:∀n,n≤ops.length→cnt (λi=>listed.getD i false) n=0:=by
      intro n
      induction n with
      |zero=>intro _;rfl
      |succ n ihn=>
       intro hn';simp only[cnt]
       grind
     simp_all
    grind
   ·obtain⟨hil,hif,o,ho,hie⟩:=hready listed i hsz hir
    have hcl':=hclosed _ i hcl ⟨o,ho,hie⟩;have hS:∀x,(listed.setIfInBounds i true).getD x false=(listed.getD x false || decide (x=i)):=λx=>vQ Ω;have hop:=QM hs i o ho;rw[xb0]at hop;have hop:=hop m st hin (λj x hb hj=>by
     rw[←hbit]at hj ⊢;exact qt (S:=λi=>listed.getD i false) hcl hb hj) (by rw[←hbit];exact hif) (λj hb hne=>by
     have:=qt hcl' hb Ωj;simp only[xe8,decide_eq_true_eq]at this;rw[←hbit];exact this.resolve_right hne)
    have hdo:kX ns o=true:=List.all_eq_true.1 hd o (List.mem_of_getElem? ho);unfold wpOpIn;simp only[hget,ho];obtain⟨st1,hw1,hop⟩:=hop;refine WK (ops:=ops.toArray) (hw1 _ _ _ _ _ _ hi) hdo (by simpa using hop) λst' a' w' hst3 hi'=>?_;obtain⟨st3,hw,hin'⟩:=hst3;refine ih _ (m ||| 2^i) st3 a' w' Ω7 (λx=>?_) ?_ ?_ hin' (hw _ _ _ _ _ _ hi')
    ·rw[hS,hbit,Nat.testBit_or,Nat.testBit_two_pow]
     congr 1
     simp[eq_comm]
    ·have:(λx=>(listed.setIfInBounds i true).getD x false)=λx=>listed.getD x false || decide (x=i):=funext hS
     rw[this];exact hcl'
    ·have:=(je (S:=λi=>listed.getD i false) (S':=λx=>(listed.setIfInBounds i true).getD x false) hS hif (n:=ops.length)).2 hil
     omega
 refine wpIn_region_any hm ?_;rw[hn];have hrep0:∀i,(Array.replicate ops.length false).getD i false=false:=λi=>by simp only[xf5,Array.getElem?_replicate];split<;>rfl
 obtain⟨r0,hr0⟩:=hi;have hdrew:Below w.heap.size w { w with drawn:=w.drawn+1 }:=⟨rfl,rfl,rfl,xa5 _,λ_ _=>rfl⟩;have hi1:InvR O base okc ns st0.nid r0 outs st0 a { w with drawn:=w.drawn+1 }:=hr0.step (hr0.sat.grow hdrew) hr0.keys (xa5 _) (d:=none) (λt ht=>by cases ht) (.top undef);refine main ops.length (Array.replicate ops.length false) 0 st0 a _ Ωj (λi=>by rw[hrep0];simp) ?_ ?_ h0 ⟨r0,hi1⟩
 ·intro j o ho hS;simp only[hrep0]at hS;cases hS
 ·have key:∀n,cnt (λi=>(Array.replicate ops.length false).getD i false) n=n:=by
   intro n
   induction n with
   |zero=>rfl
   |succ n ihn=>
    simp only[cnt,ihn]
    simp_all
  exact key _
theorem Q0(O:Ctx)(st:St):∀n,st.nid≤n→Weak O st { st with nid:=n }:=by
 intro n h;obtain⟨d,rfl⟩:∃d,n=st.nid+d:=⟨n - st.nid,Ω⟩;clear h
 induction d with
 |zero=>exact Weak.refl _ _
 |succ d ih=>exact ih.trans (λbase okc ns outs a w h=>by
   obtain⟨r,h⟩:=h;have s:=h.sat.more (N':=(· < st.nid+d+1)) (λx hx=>Nat.lt_succ_of_lt hx) (λx y hy _=>h.keys x y hy);exact⟨r,(h.step s (λid x hx=>Nat.lt_succ_of_lt (h.keys id x hx)) (xc4 _) (d:=none) (λt ht=>by cases ht) (.top undef)).nid (st.nid+d+1)⟩)
theorem vl{F F':Nat→SV}:∀{l:List Operand},(∀x∈l,env F x=env F' x)→envs F l=envs F' l
 |[],_=>rfl
 |a :: l,h=>by rw[envs,envs,h a xd5,vl λx hx=>h x (List.mem_cons_of_mem _ hx)]
theorem Q1{F F':Nat→SV}:∀{l:List (Nat×Operand)},(∀x∈l,env F x.2=env F' x.2)→envp F l=envp F' l
 |[],_=>rfl
 |a :: l,h=>by rw[envp,envp,h a xd5,Q1 λx hx=>h x (List.mem_cons_of_mem _ hx)]
theorem Kw{F F':Nat→SV}{o:Option Operand}(h:∀x∈o.toList,env F x=env F' x):o.map (env F)=o.map (env F'):=by
 cases o with
 |none=>rfl
 |some x=>show some _=some _;rw[h x Ωj]
theorem VV{F F':Nat→SV}{hp:List (Nat×Blk)}{op:Op}(h:∀t,.tmp t∈op.operands.toList→F t=F' t):stepR P F hp op=stepR P F' hp op:=by
 have he:∀x,x∈op.operands.toList→env F x=env F' x:=λx hx=>by
  cases x<;>first|exact h _ hx|rfl
 clear h;cases op
 case makeFunc g fs cs=>
  simp only[stepR];rw[vl λx hx=>he x (by simp[Op.operands];exact .inl ΩM),vl λx hx=>he x (by simp[Op.operands];exact .inr ΩM)]
 case build t ps=>
  simp only[stepR];rw[Q1 λp hp=>he p.2 (by simp only[Op.operands];exact List.mem_map_of_mem hp)]
 case buildSlice t n ps=>
  simp only[stepR];rw[Q1 λp hp=>he p.2 (by simp only[Op.operands];exact List.mem_map_of_mem hp)]
 case slice t x lo hi mx=>
  simp only[stepR];rw[he x Ωx,Kw λy hy=>he y Ω9,Kw (o:=hi) λy hy=>he y Ω9,Kw (o:=mx) λy hy=>he y Ω9]
 case call c=>
  obtain⟨callee,args,ts⟩:=c;have hargs:∀x∈args.toList,env F x=env F' x:=λx hx=>he x (by cases callee<;>simp[Op.operands,Call.operands]<;>first|exact .inr ΩM|simpa using hx);simp only[stepR];cases callee
  case value x=>
   simp only[rCall];rw[he x Ωn,vl hargs]
  case builtin b=>
   have e:=vl hargs;cases b<;>simp only[rCall]<;>first|rfl|rw[e]|skip
   all_goals
    (split<;>first|rfl|skip)
    simp_all
  all_goals (simp only[rCall])
 all_goals first
  |(simp only[stepR];done)
  |(simp only[stepR];rw[he _ Ωx];done)
  |(simp only[stepR];rw[he _ Ωx,he _ Ωx];done)
  |(simp only[stepR];rw[he _ Ωx,he _ Ωx,he _ Ωx];done)
  |skip
def jk:Op→Bool
 |.move _|.assign _|.pick _ _ _|.load _ _|.nilCheck _|.binOp _ _ _ _ _|.unOp _ _ _|.convert _ _ _|.makeFunc _ _ _|.fieldAddr _ _ _|.field _ _ _|.indexAddr _ _ _|.index _ _ _|.extract _ _|.build _ _|.slice _ _ _ _ _|.lookup _ _ _ _=>false
 |.call ⟨.builtin .len,_,_⟩=>false
 |.call ⟨.builtin .min,_,_⟩=>false
 |.call ⟨.builtin .max,_,_⟩=>false
 |_=>true
def JB:Op→Bool
 |.load _ _|.lookup _ _ _ _=>true
 |.call ⟨.builtin .len,_,_⟩=>true
 |_=>false
def kc(e:Nat→Bool):Nat→Nat
 |0=>0
 |n+1=>kc e n+if e n=true then 1 else 0
theorem W7{e e':Nat→Bool}:∀{n:Nat},(∀j,j<n→e j=true→e' j=true)→kc e n≤kc e' n
 |0,_=>xa5 _
 |n+1,h=>by
  have ih:=W7 (n:=n) λj hj=>h j Ω;simp only[kc];by_cases c:e n=true
  ·simp_all
  ·grind
theorem JC{e e':Nat→Bool}:∀{n:Nat},(∀j,j<n→e j=e' j)→kc e n=kc e' n
 |0,_=>rfl
 |n+1,h=>by simp only[kc];rw[JC (n:=n) λj hj=>h j Ω,h n Ω]
theorem qjj{e:Nat→Bool}:∀{n:Nat},kc e n≤n
 |0=>xa5 _
 |n+1=>by
  have:=qjj (e:=e) (n:=n);simp only[kc];split<;>omega
theorem qeo{e:Nat→Bool}:∀{j k:Nat},j≤k→kc e j≤kc e k
 |j,0,h=>by rw[Nat.le_zero.1 h];exact xa5 _
 |j,k+1,h=>by
  by_cases c:j=k+1
  ·simp_all
  ·have:=qeo (e:=e) (j:=j) (k:=k) Ω
   simp only[kc];omega
theorem qep{e:Nat→Bool}:∀{n:Nat},(∀j,j<n→e j=false)→kc e n=0
 |0,_=>rfl
 |n+1,h=>by simp only[kc];rw[qep (n:=n) λj hj=>h j Ω,h n Ω];rfl
theorem qcQ{e e':Nat→Bool}{i:Nat}(he:∀j,j≠i→e' j=e j)(h0:e i=false):∀{n:Nat},kc e' n=kc e n+if i<n∧e' i=true then 1 else 0
 |0=>by simp[kc]
 |n+1=>by
  have ih:=qcQ (n:=n) he h0;simp only[kc];rw[ih];by_cases c:n=i
  ·simp_all
  ·grind
theorem VW{f e:Nat→Bool}{i:Nat}(h1:∀j,j<i→f j=e j):∀{n:Nat},i≤n→(∀j,i≤j→j<n→f j=false)→kc f n=kc e i
 |0,h,_=>by rw[Nat.le_zero.1 h];rfl
 |n+1,h,h2=>by
  by_cases c:i=n+1
  ·subst c;exact JC h1
  ·simp only[kc]
   rw[VW h1 (n:=n) Ω λj hj hn=>h2 j hj Ω,h2 n Ω Ω];rfl
theorem ZJ{D:Nat→Option Tmp}{res:Nat→SV}{S S':Nat→Bool}{F:Nat→SV}{t:Nat}:∀{n:Nat},(∀j,j<n→D j=some t→S j=S' j)→FS D res S F n t=FS D res S' F n t
 |0,_=>rfl
 |n+1,h=>by
  have ih:=ZJ (F:=F) (res:=res) (n:=n) λj hj=>h j Ω;simp only[FS];by_cases c:D n=some t
  ·simp_all
  ·simp_all
theorem W8{D:Nat→Option Tmp}{res:Nat→SV}{S:Nat→Bool}{F:Nat→SV}{t i:Nat}:∀{n:Nat},i≤n→(∀x,i≤x→x<n→D x≠some t)→FS D res S F n t=FS D res S F i t
 |0,h,_=>by rw[Nat.le_zero.1 h]
 |n+1,h,hx=>by
  by_cases c:i=n+1
  ·rw[c]
  ·simp only[FS]
   rw[if_neg (λq=>hx n Ω Ω q.2)];exact W8 Ω λx h1 h2=>hx x h1 Ω
theorem qeq{D:Nat→Option Tmp}{res:Nat→SV}{S:Nat→Bool}{F:Nat→SV}{t:Nat}:∀{n:Nat},(∀j,j<n→S j=false)→FS D res S F n t=F t
 |0,_=>rfl
 |n+1,h=>by
  simp only[FS];rw[if_neg (λx=>by rw[h n Ω]at x;cases x.1)];exact qeq λj hj=>h j Ω
theorem qjk{D:Nat→Option Tmp}{res:Nat→SV}{S S':Nat→Bool}{F:Nat→SV}{t i:Nat}(hS:∀x,S' x=(S x || decide (i=x))):∀{n:Nat},i<n→(∀x,x<n→x≠i→D i=some t→D x≠some t)→FS D res S' F n t=if D i=some t then res i else FS D res S F n t
 |n+1,hi,hd=>by
  have hne:∀x,x≠i→S' x=S x:=λx hx=>by rw[hS];simp;intro e;exact absurd e.symm hx
  by_cases c:n=i
  ·subst c
   have e1:S' n=true:=by rw[hS];simp
   have e2:FS D res S' F n t=FS D res S F n t:=ZJ λj hj _=>hne j Ω;simp only[FS];by_cases d:D n=some t
   ·simp_all
   ·simp_all
  ·have ih:=qjk (F:=F) (res:=res) (t:=t) hS (n:=n) Ω λx hx=>hd x Ω
   simp only[FS];rw[hne n c];by_cases d:S n=true∧D n=some t
   ·grind
   ·grind
def efL(l:List Oper)(i:Nat):Bool:=match l[i]? with|some o=>jk o.op|none=>false
def W9(l:List Oper):Bool:=
 let ms:=zw [] l
 let ds:=dsts l
 jd 0 l&&(List.range l.length).all λi=>(match l[i]? with
  |some o=>(match o.guard with|none=>true|some (g,_)=>(ms.getD i 0).testBit g&&(nth ds g).isSome)&&Nat.blt (ms.getD i 0) (2^i)&&(List.range l.length).all (λj=>(match nth ds j with|some t=>!(gu o).contains t ||(ms.getD i 0).testBit j|none=>true)&&(!(Nat.blt j i) ||((!(efL l i&&efL l j) ||(ms.getD i 0).testBit j)&&(match nth ds j,nth ds i with|some t,some u=>!(Nat.beq t u)|_,_=>true))))
  |none=>true)
structure qjl(l:List Oper):Prop where
 edges:jd 0 l=true
 grd:∀(i:Nat)(o:Oper)(g:Nat)(want:Bool),l[i]? = some o→o.guard=some (g,want)→((zw [] l).getD i 0).testBit g=true∧∃t,nth (dsts l) g=some t
 lt:∀i e,i<l.length→((zw [] l).getD i 0).testBit e=true→e<i
 ops:∀(i:Nat)(o:Oper)(t j:Nat),l[i]? = some o→t∈gu o→j<l.length→nth (dsts l) j=some t→((zw [] l).getD i 0).testBit j=true
 chain:∀i j,j<i→i<l.length→efL l i=true→efL l j=true→((zw [] l).getD i 0).testBit j=true
 dist:∀i j t,j<i→i<l.length→nth (dsts l) i=some t→nth (dsts l) j=some t→False
theorem qgB{l:List Oper}(h:W9 l=true):qjl l:=by
 simp only[W9,xe6,List.all_eq_true,List.mem_range]at h;obtain⟨h1,h2⟩:=h;have key:∀(i:Nat)(o:Oper),l[i]? = some o→(∀(g:Nat)(want:Bool),o.guard=some (g,want)→((zw [] l).getD i 0).testBit g=true∧∃t,nth (dsts l) g=some t)∧((zw [] l).getD i 0)<2^i∧∀j,j<l.length→(∀t,nth (dsts l) j=some t→t∈gu o→((zw [] l).getD i 0).testBit j=true)∧(j<i→(efL l i=true→efL l j=true→((zw [] l).getD i 0).testBit j=true)∧∀t u,nth (dsts l) j=some t→nth (dsts l) i=some u→t≠u):=by
  intro i o ho;have hi:i<l.length:=(List.getElem?_eq_some_iff.1 ho).1;have h:=h2 i hi;rw[ho]at h;simp only[xe6,List.all_eq_true,List.mem_range]at h;obtain⟨⟨a,b⟩,c⟩:=h;refine⟨λg want hg=>(by rw[hg]at a;simp only[xe6]at a;exact⟨a.1,Option.isSome_iff_exists.1 a.2⟩),(by have b:=xa7 b;omega),λj hj=>?_⟩;obtain⟨d,e⟩:=c j hj;refine⟨λt ht hm=>?_,λhji=>?_⟩
  ·rw[ht]at d
   simp only[xe8,Bool.not_eq_true']at d;exact d.resolve_left (by simp[hm])
  ·have hb:Nat.blt j i=true:=by simp[Nat.blt];omega
   simp only[hb,Bool.not_true,xf4,xe6]at e;refine⟨λx y=>by simpa[x,y]using e.1,λt u ht hu hc=>?_⟩;have:=e.2;rw[ht,hu]at this;simp[hc]at this
 refine⟨h1,λi o g want ho hg=>(key i o ho).1 g want hg,λi e hi hb=>?_,λi o t j ho ht hj hn=>((key i o ho).2.2 j hj).1 t hn ht,λi j hji hi=>?_,λi j t hji hi ha hb=>?_⟩
 ·obtain⟨o,ho⟩:∃o,l[i]? = some o:=⟨l[i],by simp[hi]⟩
  have hlt:=(key i o ho).2.1;refine xf9 λc=>?_;rw[Nat.testBit_lt_two_pow (xa9 hlt (Nat.pow_le_pow_right Ω Ω))]at hb;cases hb
 ·obtain⟨o,ho⟩:∃o,l[i]? = some o:=⟨l[i],by simp[hi]⟩
  exact(((key i o ho).2.2 j Ω).2 hji).1
 ·obtain⟨o,ho⟩:∃o,l[i]? = some o:=⟨l[i],by simp[hi]⟩
  exact(((key i o ho).2.2 j Ω).2 hji).2 t t hb ha rfl
def loC(l:List Oper)(i:Nat):Nat:=kc (λe=>efL l e&&((zw [] l).getD i 0).testBit e) l.length
def hiC(l:List Oper)(i:Nat):Nat:=kc (λe=>efL l e&&!((zw [] l).getD e 0).testBit i) l.length
theorem wb{e:Nat→Bool}{Y:Nat→Tr 6 XB}{Z:Nat→Nat}{n:Nat}(hY:∀j,j<n→e j=false→Y (j+1)=Y j∧Z (j+1)=Z j):∀{j k:Nat},j≤k→k≤n→kc e j=kc e k→Y j=Y k∧Z j=Z k
 |j,0,h,_,_=>by rw[Nat.le_zero.1 h];exact⟨rfl,rfl⟩
 |j,k+1,h,hk,he=>by
  by_cases c:j=k+1
  ·simp_all
  ·have h1:=qeo (e:=e) (Ω:j≤k)
   simp only[kc]at he;have h2:e k=false:=by
    cases q:e k with
    |false=>rfl
    |true=>rw[q,if_pos rfl]at he;omega
   rw[h2]at he;obtain⟨a,b⟩:=wb hY (Ω:j≤k) Ω ΩU
   grind
theorem vm(st:St)(d:Option Tmp)(s:SV)(t:Nat):look (st.put d s).fr t=if d=some t then s else look st.fr t:=by
 cases d with
 |none=>rw[if_neg (by intro h;cases h)];rfl
 |some d=>
  show look (putFr st.fr d s) t=_;rw[zq];by_cases c:t=d
  ·simp_all
  ·grind
def Grd(l:List Oper)(G:Nat→SV)(o:Oper)(sk:Bool):Prop:=
 match o.guard with
 |none=>sk=false
 |some (g,want)=>∃t,nth (dsts l) g=some t∧((∃b,G t=.val (.bool b)∧sk = !(b == want))∨((∃vs,G t=.val (.tuple vs))∧sk=true))
def PureAt(P:Program)(F:Nat→SV)(H:List (Nat×Blk))(op:Op)(s:SV):Prop:=
 qqm s (stepR P F H op)∨(qdI op=true∧∀(O:Ctx)(st:St),(∀t,t∈op.operands.toList.filterMap (fun|.tmp t=>some t|_=>none)→look st.fr t=F t)→st.hp=H→OpVC P O op st λst' res=>st'=st∧res=s)
theorem OpVC.mono{op:Op}{K K':St→SV→Prop}(h:OpVC P O op st K)(hk:∀st' res,K st' res→K' st' res):OpVC P O op st K':=λbase okc ns r outs a w o ho hi=>by
 obtain⟨v,w',h1,st',r',res,h2,h3⟩:=h base okc ns r outs a w o ho hi
 grind
theorem Ya{ops:List Oper}{o:Oper}{K:St→Prop}{sk:Bool}(hg:Grd ops (look st.fr) o sk)
  (hrun:sk=false→∀st1:St,(∀t,look st1.fr t=look st.fr t)→st1.hp=st.hp→st1.nid=st.nid→wN P O True o.op o.dst st1.nid st1 (λst'=>K ⟨inD o.dst st'.fr,st'.hp,st'.nid+1⟩) (stepR P (look st1.fr) st1.hp o.op)∨(qdI o.op=true∧OpVC P O o.op st1 λst' res=>K (st'.putI o.dst res)))
  (hskip:sk=true→∀st1:St,(∀t,look st1.fr t=look st.fr t)→st1.hp=st.hp→st1.nid=st.nid→K (st1.putI o.dst undefSV)):opH P O (dsts ops) o st K:=by
 unfold opH zr;unfold Grd at hg;have same:∀(t:Tmp)(b:Bool),look st.fr t=.val (.bool b)→∀u,look (st.put (some t) (.val (.bool b))).fr u=look st.fr u:=λt b h u=>by
  rw[vm];by_cases c:some t=some u
  ·simp_all
  ·rw[if_neg c]
 cases e:o.guard with
 |none=>
  rw[e]at hg;exact(hrun hg st (λ_=>rfl) rfl rfl).imp id λh=>⟨h.1,.inl h.2⟩
 |some p=>
  obtain⟨g,want⟩:=p;rw[e]at hg;obtain⟨t,ht,hc⟩:=hg;dsimp only;rw[ht];dsimp only;rcases hc with⟨b,hb,hs⟩|⟨⟨vs,hb⟩,hs⟩
  ·rw[hb]
   cases want<;>cases b<;>dsimp only
   ·exact⟨λx=>(by cases x),λ_=>(hrun hs _ (same t false hb) rfl rfl).imp id λh=>⟨h.1,.inl h.2⟩⟩
   ·exact⟨λ_=>hskip hs _ (same t true hb) rfl rfl,λx=>by cases x⟩
   ·exact⟨λx=>(by cases x),λ_=>hskip hs _ (same t false hb) rfl rfl⟩
   ·exact⟨λ_=>(hrun hs _ (same t true hb) rfl rfl).imp id λh=>⟨h.1,.inl h.2⟩,λx=>by cases x⟩
  ·simp_all
theorem yV(st:St)(d:Option Tmp)(v:SV)(t:Nat):look (st.putI d v).fr t=look (st.put d v).fr t:=by
 cases d with
 |none=>rfl
 |some d=>show look (putIn st.fr d v) t=_;rw[wu];rfl
theorem yW(st:St)(d:Option Tmp)(v:SV):(st.putI d v).hp=st.hp:=by cases d<;>rfl
theorem qaO(hm:P.follows .mixedOrders=true){K:Ex→St→Prop}{id:Nat}{l:List Oper}{LM:Nat→Option Loop}(hc:qjl l)(res:Nat→SV)(Y:Nat→Tr 6 XB)(Z:Nat→Nat)(G:Nat→SV)(sk:Nat→Bool)
  (hsk:∀i o,l[i]? = some o→Grd l G o (sk i)∧(sk i=true→Y (i+1)=Y i∧(efL l i=true→Z i+l.length≤Z (i+1))∧∀d,o.dst=some d→res i=undefSV))
  (hY:∀j,j<l.length→efL l j=false→Y (j+1)=Y j∧Z (j+1)=Z j) (hG:∀t,G t=FS (nth (dsts l)) res (λ_=>true) (look st.fr) l.length t) (h0:HRel LM (Y 0) st.hp) (hz:st.nid=Z 0)
  (hp:∀i o,l[i]? = some o→sk i=false→efL l i=false→∀j,j≤l.length→loC l i≤kc (efL l) j→kc (efL l) j≤hiC l i→∀(F:Nat→SV)(H:List (Nat×Blk)),(∀t,t∈gu o→F t=G t)→HRel LM (Y j) H→∃s,PureAt P F H o.op s∧∀d,o.dst=some d→s=res i)
  (he:∀i o,l[i]? = some o→sk i=false→efL l i=true→∀st1:St,(∀t,t∈gu o→look st1.fr t=G t)→HRel LM (Y i) st1.hp→st1.nid=Z i+l.length→∀K':St→Prop,(∀st':St,(∀t,look st'.fr t=look (st1.put o.dst (res i)).fr t)→HRel LM (Y (i+1)) st'.hp→st'.nid+1≤Z (i+1)→K' st')→wN P O True o.op o.dst st1.nid st1 K' (stepR P (look st1.fr) st1.hp o.op))
  (hK:∀st':St,(∀t,look st'.fr t=G t)→HRel LM (Y l.length) st'.hp→st'.nid=Z l.length+l.length→K .normal st') {g:Tag K}:vj P O id l true st K g:=by
 refine JA hm (λm st'=>(∀t,look st'.fr t=FS (nth (dsts l)) res (λi=>m.testBit i) (look st.fr) l.length t)∧∃j,j≤l.length∧kc (efL l) j=kc (λe=>efL l e&&m.testBit e) l.length∧HRel LM (Y j) st'.hp∧st'.nid≤Z j+kc (λi=>m.testBit i) l.length) rfl hc.edges (Weak.refl _ _) ?_ ?_ ?_
 ·refine⟨λt=>(qeq λj _=>xb3 j).symm,0,xb6 _,?_,h0,Ω⟩
  rw[qep (n:=l.length) λj _=>by rw[xb3,Bool.and_false]];rfl
 ·refine QZ λi o ho=>?_
  rw[xb0];rintro m st1 ⟨hf,j,hj,hkj,hH,hnid⟩ hcl hbit hanc;have hi:i<l.length:=(List.getElem?_eq_some_iff.1 ho).1;have anc:∀e,((zw [] l).getD i 0).testBit e=true→m.testBit e=true:=λe h=>hanc e h (by have:=hc.lt i e hi h;omega);have hops:∀t,t∈gu o→look st1.fr t=G t:=λt ht=>by
   rw[hf,hG];exact ZJ λx hx hxt=>anc x (hc.ops i o t x ho ht hx hxt)
  have hdst:nth (dsts l) i=o.dst:=by rw[zk,ho];rfl
  have frs:∀fr:List (Nat×SV),(∀t,look fr t=look (st1.put o.dst (res i)).fr t)→∀t,look fr t=FS (nth (dsts l)) res (λx=>(m ||| 2^i).testBit x) (look st.fr) l.length t:=λfr hfr t=>by
   rw[qjk (S:=λx=>m.testBit x) (i:=i) (λx=>tb m i x) hi λx hx hxi h1 h2=>?_,hdst,←hf,hfr,vm];by_cases c:x<i
   ·exact hc.dist i x t c hi h1 h2
   ·exact hc.dist x i t Ω hx h2 h1
  have done:kc (λx=>(m ||| 2^i).testBit x) l.length=kc (λx=>m.testBit x) l.length+1:=by
   rw[qcQ (e:=λx=>m.testBit x) (i:=i) (λx hx=>by show(m ||| 2^i).testBit x=_;rw[tb];simp;intro e;exact absurd e.symm hx) hbit,if_pos ⟨hi,by show(m ||| 2^i).testBit i=true;rw[tb];simp⟩]
  obtain⟨hgrd,hskip⟩:=hsk i o ho;have hgrd:Grd l (look st1.fr) o (sk i):=by
   unfold Grd at hgrd ⊢;cases e:o.guard with
   |none=>rw[e]at hgrd;exact hgrd
   |some p=>
    obtain⟨g,want⟩:=p;rw[e]at hgrd;obtain⟨t,ht,hcc⟩:=hgrd;refine⟨t,ht,?_⟩;have hb:=(hc.grd i o g want ho e).1;have:look st1.fr t=G t:=by
     rw[hf,hG];refine ZJ λx hx hxt=>?_;by_cases c:x=g
     ·simp_all
     ·exfalso
      have hgl:=hc.lt i g hi hb;by_cases d:x<g
      ·exact hc.dist g x t d Ω ht hxt
      ·exact hc.dist x g t Ω hx hxt ht
    rw[this];exact hcc
  cases q:efL l i with
  |false=>
   refine⟨st1,Weak.refl _ _,?_⟩;have fin:∀(s0:SV)(st2 st3:St),(∀t,look st2.fr t=look st1.fr t)→(∀d,o.dst=some d→s0=res i)→(∀t,look st3.fr t=look (st2.put o.dst s0).fr t)→HRel LM (Y j) st3.hp→st3.nid≤st1.nid+1→∃st4,Weak O st3 st4∧(∀t,look st4.fr t=FS (nth (dsts l)) res (λx=>(m ||| 2^i).testBit x) (look st.fr) l.length t)∧∃j,j≤l.length∧kc (efL l) j=kc (λe=>efL l e&&(m ||| 2^i).testBit e) l.length∧HRel LM (Y j) st4.hp∧st4.nid≤Z j+kc (λx=>(m ||| 2^i).testBit x) l.length:=by
    intro s0 st2 st3 h2 hs0 h3 hH3 hn3;refine⟨st3,Weak.refl _ _,frs _ λt=>?_,j,hj,?_,hH3,?_⟩
    ·rw[h3,vm,vm,h2]
     by_cases c:o.dst=some t
     ·simp_all
     ·simp_all
    ·grind
    ·rw[done];omega
   refine Ya hgrd (λhs st2 h2 h2h h2n=>?_) (λhs st2 h2 h2h h2n=>?_)
   ·obtain⟨s0,h1,hs0⟩:=hp i o ho hs q j hj (by
     rw[hkj];refine W7 λe _ h=>?_;rw[xe6]at h ⊢;exact⟨h.1,anc e h.2⟩) (by
     rw[hkj];refine W7 λe _ h=>?_;rw[xe6]at h ⊢;refine⟨h.1,?_⟩;cases c:((zw [] l).getD e 0).testBit i with
     |false=>rfl
     |true=>rw[hcl e i c h.2]at hbit;cases hbit) (look st2.fr) st2.hp (λt ht=>by rw[h2,hops t ht]) (by rw[h2h];exact hH)
    have f2:=fin s0 st2 ⟨inD o.dst (st2.put o.dst s0).fr,(st2.put o.dst s0).hp,(st2.put o.dst s0).nid+1⟩ h2 hs0 (λt=>jD _ _ _) (by rw[zu,h2h];exact hH) (by rw[qx];show st2.nid+1≤_;omega);rcases h1 with(⟨obl,e,h⟩|⟨obl,e,h⟩)|⟨hnd,h⟩
    ·rw[e];exact .inl ⟨h,f2⟩
    ·rw[e];exact .inl ⟨_,h,f2⟩
    ·refine .inr ⟨hnd,(h O st2 (λt _=>rfl) rfl).mono ?_⟩
     rintro st' res' ⟨rfl,rfl⟩;exact fin _ st' _ h2 hs0 (λt=>yV _ _ _ _) (by rw[yW,h2h];exact hH) (by rw[gE];omega)
   ·exact fin undefSV st2 _ h2 (λd hd=>((hskip hs).2.2 d hd).symm) (λt=>yV _ _ _ _) (by rw[yW,h2h];exact hH) (by rw[gE];omega)
  |true=>
   have hks:kc (λe=>efL l e&&m.testBit e) l.length=kc (efL l) i:=by
    refine VW (λe hei=>?_) Ω λe hie hen=>?_
    ·show(efL l e&&m.testBit e)=efL l e
     cases c:efL l e with
     |false=>rfl
     |true=>rw[anc e (hc.chain i e hei hi q c)];rfl
    ·show(efL l e&&m.testBit e)=false
     cases c:efL l e with
     |false=>rfl
     |true=>
      cases d:m.testBit e with
      |false=>rfl
      |true=>
       by_cases x:e=i
       ·simp_all
       ·rw[hcl e i (hc.chain e i Ω hen c q) d]at hbit;cases hbit
   have hst:Y j=Y i∧Z j=Z i:=by
    rw[hks]at hkj;by_cases c:j≤i
    ·exact wb hY c Ω hkj
    ·have:=wb hY (Ω:i≤j) hj hkj.symm
     simp_all
   have fin:∀st3:St,(∀t,look st3.fr t=look (st1.put o.dst (res i)).fr t)→HRel LM (Y (i+1)) st3.hp→st3.nid≤Z (i+1)→∃st4,Weak O st3 st4∧(∀t,look st4.fr t=FS (nth (dsts l)) res (λx=>(m ||| 2^i).testBit x) (look st.fr) l.length t)∧∃j,j≤l.length∧kc (efL l) j=kc (λe=>efL l e&&(m ||| 2^i).testBit e) l.length∧HRel LM (Y j) st4.hp∧st4.nid≤Z j+kc (λx=>(m ||| 2^i).testBit x) l.length:=by
    intro st3 h3 hH3 hn3;refine⟨st3,Weak.refl _ _,frs _ h3,i+1,hi,?_,hH3,Ω⟩;have k2:=qcQ (e:=λe=>efL l e&&m.testBit e) (e':=λe=>efL l e&&(m ||| 2^i).testBit e) (i:=i) (λe hei=>by
     show(efL l e&&(m ||| 2^i).testBit e)=(efL l e&&m.testBit e);rw[tb,decide_eq_false (λx=>hei x.symm),xf3]) (by show(efL l i&&m.testBit i)=false;rw[hbit,Bool.and_false]) (n:=l.length)
    rw[k2,if_pos ⟨hi,by show(efL l i&&(m ||| 2^i).testBit i)=true;rw[tb];simp[q]⟩,hks];simp[kc,q]
   refine⟨{ st1 with nid:=Z i+l.length },Q0 _ _ _ (by have:=qjj (e:=λx=>m.testBit x) (n:=l.length);rw[hst.2]at hnid;omega),?_⟩;refine Ya (st:={ st1 with nid:=Z i+l.length }) hgrd (λhs st2 h2 h2h h2n=>?_) (λhs st2 h2 h2h h2n=>?_)
   ·refine .inl (he i o ho hs q st2 (λt ht=>by rw[h2];exact hops t ht) (by rw[h2h,←hst.1];exact hH) h2n _ λst' hf' hH' hn'=>?_)
    exact fin _ (λt=>by rw[jD,hf',vm,vm,h2]) hH' hn'
   ·obtain⟨k1,k2,k3⟩:=hskip hs
    refine fin _ (λt=>?_) (by rw[yW,h2h,k1,←hst.1];exact hH) (by rw[gE,h2n];exact k2 q);rw[yV,vm,vm,h2];by_cases c:o.dst=some t
    ·rw[if_pos c,if_pos c,k3 t c]
    ·rw[if_neg c,if_neg c]
 ·rintro m st1 ⟨hf,j,hj,hkj,hH,hnid⟩ hall
  have hk:kc (efL l) j=kc (efL l) l.length:=by
   rw[hkj];exact JC λe he=>by rw[hall e he,xf1]
  obtain⟨h1,h2⟩:=wb hY hj (xa5 _) hk;have:=qjj (e:=λi=>m.testBit i) (n:=l.length);refine⟨{ st1 with nid:=Z l.length+l.length },Q0 _ _ _ (by rw[h2]at hnid;omega),hK _ (λt=>?_) (by rw[←h1];exact hH) rfl⟩;show look st1.fr t=_;rw[hf,hG];exact ZJ λx hx _=>hall x hx
theorem Yb{α:Type}:∀{l m:List α},l.Nodup→(∀x,x∈l→x∈m)→l.length≤m.length
 |[],m,_,_=>xb6 _
 |a :: l,m,hn,h=>by
  obtain⟨m1,m2,rfl⟩:=List.append_of_mem (h a xd5);rw[List.nodup_cons]at hn;have:=Yb (m:=m1++m2) hn.2 λx hx=>by
   have:=h x (List.mem_cons_of_mem _ hx);rw[xd4,List.mem_cons]at this;rw[xd4];rcases this with h1|rfl|h1
   ·exact .inl h1
   ·simp_all
   ·exact .inr h1
  grind
theorem qgC{t:TypeId}{x:Operand}{id:Nat}{fit dom:Value→Bool}{get:Value→SV}{mi:vb}(ht:qD P t=some mi)(hx:env (look st.fr) x=.mp id)(hb:blk st.hp id=some (.map fit dom get)){L:List Value}(hn:L.Nodup)(hL:∀k,dom k=true↔k∈L) :
  OpVC P O (.call ⟨.builtin .len,#[x],#[t]⟩) st λst' res=>st'=st∧res=.val (.int .i64 (.ofNat L.length)):=by
 intro base okc ns r outs a w o ho hi;have hu:=hi.env x;rw[hx]at hu;generalize hex:a.eval x=u at hu;cases hu with
 |mp _ b hN hr=>
  have hrep:=hi.sat.rep _ _ hb hN;rw[hr]at hrep;cases hrep with
  |map _ _ _ _ es clock hw hm hbn hes=>
   have hk:∃kt et,P.underlying t=some (.map kt et):=by
    unfold qD at ht;split at ht
    ·simp_all
    ·cases ht
   obtain⟨kt,et,hk⟩:=hk;have hnk:(es.toList.map (·.key)).Nodup:=by
    refine List.pairwise_iff_getElem.2 λi j hi' hj hij he=>?_;simp only[List.getElem_map]at he;rw[xe1]at hi' hj;have:=hm.once i j es.toList[i] es.toList[j] (by rw[←xf6,xc7]) (by rw[←xf6,xc7]) he;omega
   have hmem:∀k,k∈es.toList.map (·.key)↔k∈L:=λk=>by
    rw[←hL,List.mem_map];constructor
    ·rintro⟨e,he,rfl⟩;exact hm.doms e (Array.mem_toList_iff.1 he)
    ·intro h
     obtain⟨e,he,hke⟩:=hm.has k h
     grind
   have hlen:es.size=L.length:=by
    have h1:=Yb hnk λk hk=>(hmem k).1 hk;have h2:=Yb hn λk hk=>(hmem k).2 hk
    grind
   refine⟨.int .i64 (.ofNat L.length),w,?_,st,r,_,⟨rfl,rfl⟩,xa5 _,hi,.val _⟩;obtain⟨dst,op,type,pos,aft,guard⟩:=o;simp only[]at ho;subst ho;have hobj:(getObj b).run P w=.ok (.map es clock) w:=by simp[getObj,Sem.run,hw]
   simp[execOp,Go.resolve,Go.invoke,Go.builtin,hex,Builtin.len_,run_underlying hk,hobj,goInt,hlen]
end
end Go.Sx
end
section
namespace Go.Tn
open Go.Proofs
open Go.Sx
theorem qp{O:Ctx}{fr fr':List (Nat×SV)}{hp hp':List (Nat×Blk)}{nid nid':Nat}(hn:nid≤nid')(hf:zj fr fr')(hh:SubHp hp hp'):Weak O ⟨fr,hp,nid⟩ ⟨fr',hp',nid'⟩:=
 Weak.trans (Q0 O ⟨fr,hp,nid⟩ nid' hn) (za hf hh)
def mxF(rw:Nat→Int)(to:Nat→Nat):Nat→Int
 |0=>0
 |j+1=>max (mxF rw to j) (rw (to j)+1)
theorem ZK(rw:Nat→Int)(to:Nat→Nat)(j:Nat):mxF rw to (j+1)=max (mxF rw to j) (rw (to j)+1):=rfl
theorem qoH{rw:Nat→Int}{to:Nat→Nat}{X:Int}(hX:0≤X){m:Nat}(h:∀j,j<m→-1≤rw (to j)∧rw (to j)<X):0≤mxF rw to m∧mxF rw to m≤X:=by
 induction m with
 |zero=>exact⟨Int.le_refl _,hX⟩
 |succ m ih=>
  have⟨h1,h2⟩:=ih λj hj=>h j Ω;have⟨h3,h4⟩:=h m Ω;rw[ZK];omega
theorem qqs(H:List (Nat×Blk))(id tb xid rid mid N i m:Nat)(A Z:SV)(nx row:Nat→Nat→SV)(rw:Nat→Int)(to:Nat→Nat)
  (hN:N≤100000) (hi:i<N) (hm:m≤100) (hb:blk H tb=some (.cells 253 [A,Z,.vec xid N 1,.vec rid N 1,.mp mid])) (hx:blk H xid=some (.rows 22 1 N nx)) (hr:blk H rid=some (.rows 3 1 N row))
  (hrow:∀i,i<N→row i 0=.val (.int .i64 (rw i))) (hrw:∀i,i<N→-1≤rw i∧rw i<1000000) (hto:∀j,j<m→to j<N)
  (hnx:(m=0∧nx i 0=.val (.slice none 0 0))∨∃xi r,nx i 0=.vec xi m 1∧blk H xi=some (.rows 3 1 m r)∧∀j,j<m→r j 0=.val (.int .i64 (to j:Nat))) :
  EffVC Tryz.prog 278 [.ptr tb 0,.val (.int .i64 (i:Nat))] H id (λhp' nid' res=>hp'=H∧id≤nid'∧nid'≤id+100*(m+2)∧
   (((∀j,j<m→0≤rw (to j))∧res=.tup [I (mxF rw to m),B true])∨((∃j,j<m∧rw (to j)<0)∧res=.tup [I 0,B false]))):=by
 refine yj follows Tryz.func278 rfl Ωb Ωb (by rw[Tryz.ntmps278];simp) λout=>?_;rcases hnx with⟨rfl,hNx⟩|⟨xi,r,hNx,hxi,hr1⟩
 ·repeat' first|refine sD ?_ ?_<;>intro _|refine aA ?_|simp -dsimp only[↓RP,RQ,seval,hb,hx,hr,hNx,QS,QT,QN]
  all_goals try exact Ωe
  refine qo (λ(z:Unit)=>True) (λ_=>⟨[(0,.ptr tb 0),(6,.val (.int .i64 0)),(16,.val (.int .i64 0)),(17,.val (.int .i64 0))],H,id+50⟩) (λ_=>0) () trivial (qp Ω Ωh (SubHp.refl _)) λz hz=>?_;repeat' first|refine sD ?_ ?_<;>intro _|refine aA ?_|simp -dsimp only[↓RP,RQ,seval,hb,hx,hr,hNx,QS,QT,QN]
  all_goals try exact Ωe
  refine⟨_,_,_,za (fr':=[(0,_)]) ⟨.inr rfl,trivial⟩ (SubHp.refl _),rfl,Ω,Ω,.inl ⟨λj hj=>by omega,rfl⟩⟩
 ·have hW:True:=trivial
  repeat' first|refine sD ?_ ?_<;>intro _|refine aA ?_|simp -dsimp only[↓RP,RQ,seval,hb,hx,hr,hNx,QS,QT,QN]
  all_goals try exact Ωe
  refine qo (λ(j:Nat)=>j≤m∧∀k,k<j→0≤rw (to k)) (λj=>⟨[(0,.ptr tb 0),(6,.val (.int .i64 (mxF rw to j))),(15,.vec xi m 1),(16,.val (.int .i64 (m:Nat))),(17,.val (.int .i64 (j:Nat)))],H,id+50+50*j⟩) (λj=>m - j) 0 ⟨xb6 _,λk hk=>by omega⟩ (qp Ω (by simp[zj,Go.Sx.look,mxF]) (SubHp.refl _)) λj hj=>?_;obtain⟨hj,hk⟩:=hj;by_cases hjm:j<m
  ·have hrj:=hr1 j hjm
   have htj:=hto j hjm;have hrt:=hrow (to j) htj;have hrb:=hrw (to j) htj;have⟨hM0,hM1⟩:=qoH (rw:=rw) (to:=to) (X:=1000000) Ω (m:=j) λk hk'=>hrw _ (hto k Ω);have hlt:=decide_eq_true (Ω:((j:Nat):Int)<(m:Nat));by_cases hneg:rw (to j)<0
   ·have hd:=decide_eq_true hneg
    repeat' first|refine sD ?_ ?_<;>intro _|refine aA ?_|simp -dsimp only[↓RP,RQ,seval,hlt,hxi,hrj,hrt,hd,hb,hx,hr,hNx,QS,QT,QN]
    all_goals try exact Ωe
    refine⟨_,_,_,za (fr':=[(0,_)]) ⟨.inr rfl,trivial⟩ (SubHp.refl _),rfl,Ω,Ω,.inr ⟨⟨j,hjm,hneg⟩,rfl⟩⟩
   ·have hd:=decide_eq_false hneg
    have hmx:max (mxF rw to j) (rw (to j)+1)=mxF rw to (j+1):=(ZK rw to j).symm;repeat' first|refine sD ?_ ?_<;>intro _|refine aA ?_|simp -dsimp only[↓RP,RQ,seval,hlt,hxi,hrj,hrt,hd,hmx,hb,hx,hr,hNx,QS,QT,QN]
    all_goals try exact Ωe
    refine⟨j+1,⟨hjm,λk hk'=>?_⟩,Ω,qp Ω Ωh (SubHp.refl _)⟩;rcases Nat.lt_succ_iff_lt_or_eq.1 hk' with h|rfl
    ·exact hk k h
    ·omega
  ·obtain rfl:j=m:=by omega
   have hlt:=decide_eq_false (Ω:¬((j:Nat):Int)<(j:Nat));repeat' first|refine sD ?_ ?_<;>intro _|refine aA ?_|simp -dsimp only[↓RP,RQ,seval,hlt,hb,hx,hr,hNx,QS,QT,QN]
   all_goals try exact Ωe
   refine⟨_,_,_,za (fr':=[(0,_)]) ⟨.inr rfl,trivial⟩ (SubHp.refl _),rfl,Ω,Ω,.inl ⟨hk,rfl⟩⟩
end Go.Tn
end
section
namespace Go.Tn
open Go.Sx
variable{F:Nat→Int}
structure Fx(N:Nat)(len:Nat→Nat)(to:Nat→Nat→Nat)(F:Nat→Int):Prop where
 lo:∀i,i<N→-1≤F i
 hi:∀i,i<N→F i<1000000
 inn:∀i j,i<N→j<len i→to i j<N
 ok:∀i,i<N→(0≤F i↔∀j,j<len i→0≤F (to i j))
 eq:∀i,i<N→0≤F i→F i=mxF F (to i) (len i)
theorem qjm{to:Nat→Nat}{m j:Nat}(h:j<m):F (to j)+1≤mxF F to m:=by
 induction m with
 |zero=>omega
 |succ m ih=>
  rw[ZK];rcases Nat.lt_succ_iff_lt_or_eq.1 h with h|rfl
  ·omega
  ·omega
theorem qgD{G:Nat→Int}{to:Nat→Nat}{m:Nat}(h:∀j,j<m→F (to j)=G (to j)):mxF F to m=mxF G to m:=by
 induction m with
 |zero=>rfl
 |succ m ih=>rw[ZK,ZK,h m Ω,ih λj hj=>h j Ω]
def Rw(N:Nat)(F rw:Nat→Int):Prop:=∀i,i<N→rw i=F i∨rw i = -1
theorem Fx.set{N:Nat}{len:Nat→Nat}{to:Nat→Nat→Nat}{rw:Nat→Int}(h:Fx N len to F)(hr:Rw N F rw){i:Nat}(hi:i<N)(hk:∀j,j<len i→0≤rw (to i j)):0≤F i∧mxF rw (to i) (len i)=F i:=by
 have e:∀j,j<len i→rw (to i j)=F (to i j):=λj hj=>by
  rcases hr _ (h.inn i j hi hj)with e|e
  ·exact e
  ·grind
 have h0:0≤F i:=(h.ok i hi).2 λj hj=>by rw[←e j hj];exact hk j hj
 exact⟨h0,by rw[qgD e,←h.eq i hi h0]⟩
theorem Fx.fin{N:Nat}{len:Nat→Nat}{to:Nat→Nat→Nat}{rw:Nat→Int}(h:Fx N len to F)(hr:Rw N F rw)(hk:∀i,i<N→rw i<0→∃j,j<len i∧rw (to i j)<0):∀(n i:Nat),i<N→F i<n→rw i=F i:=by
 intro n
 induction n with
 |zero=>intro i hi hf;have:=h.lo i hi;rcases hr i hi with e|e<;>omega
 |succ n ih=>
  intro i hi hf;rcases hr i hi with e|e
  ·exact e
  ·by_cases h0:0≤F i
   ·obtain⟨j,hj,hn⟩:=hk i hi Ω
    have h1:=(h.ok i hi).1 h0 j hj;have h2:=qjm (F:=F) (to:=to i) hj;rw[←h.eq i hi h0]at h2;have:=ih (to i j) (h.inn i j hi hj) Ω;omega
   ·grind
def Ql(rw:Nat→Int)(i:Nat)(x:Int):Nat→Int:=λk=>if k=i then x else rw k
def cnt(rw:Nat→Int):Nat→Nat
 |0=>0
 |n+1=>cnt rw n+if rw n<0 then 1 else 0
theorem JD(rw:Nat→Int):∀n,cnt rw n≤n
 |0=>xa5 _
 |n+1=>by have:=JD rw n;simp only[cnt];split<;>omega
theorem qer{rw:Nat→Int}{i:Nat}{x:Int}:∀{n},n≤i→cnt (Ql rw i x) n=cnt rw n
 |0,_=>rfl
 |n+1,h=>by
  have:=qer (rw:=rw) (x:=x) (n:=n) (i:=i) Ω;have e:Ql rw i x n=rw n:=by unfold Ql;rw[if_neg Ω]
  simp only[cnt,this,e]
theorem je{rw:Nat→Int}{i:Nat}{x:Int}(h0:rw i<0)(hx:0≤x):∀{n},i<n→cnt (Ql rw i x) n+1=cnt rw n
 |0,h=>by omega
 |n+1,h=>by
  rcases Nat.lt_succ_iff_lt_or_eq.1 h with h|rfl
  ·have:=je h0 hx h
   have e:Ql rw i x n=rw n:=by unfold Ql;rw[if_neg Ω]
   simp only[cnt,e];omega
  ·have:=qer (rw:=rw) (x:=x) (xa5 i)
   have e:Ql rw i x i=x:=by unfold Ql;rw[if_pos rfl]
   simp only[cnt,this,e]
   simp_all
def kp(f:Nat→Int)(n:Nat):Value:=.agg #[.int .i64 (f 0),.int .i64 (f 1),.int .i64 (f 2),.int .i64 (f 3),.int .i64 (f 4),.int .i64 (n:Nat)]
def kpL(f:Nat→Int)(n:Nat):List SV:=[.val (.int .i64 (f 0)),.val (.int .i64 (f 1)),.val (.int .i64 (f 2)),.val (.int .i64 (f 3)),.val (.int .i64 (f 4)),.val (.int .i64 (n:Nat))]
abbrev kfP:Value→Bool:=qm true [Lf.i .i64,Lf.i .i64,Lf.i .i64,Lf.i .i64,Lf.i .i64,Lf.i .i64]
def zY(v:Value):Nat:=match v with
 |.agg c=>(match c.toList with
  |[_,_,_,_,_,.int _ n]=>n.toNat
  |_=>0)
 |_=>0
theorem wG(f:Nat→Int)(n:Nat):zY (kp f n)=n:=rfl
theorem eqK_kp{f:Nat→Int}{n:Nat}{v:Value}:eqK (kp f n) v=true↔v=kp f n:=by
 constructor
 ·intro h;exact(zF h).symm
 ·rintro rfl;simp[eqK,kp,vN,Qg]
def kc(v:Value)(j:Nat):SV:=match v with
 |.agg c=>.val (c.toList.getD j undef)
 |_=>.top
theorem qjn(f:Nat→Int)(n:Nat):kc (kp f n) 0=.val (.int .i64 (f 0))∧kc (kp f n) 1=.val (.int .i64 (f 1))∧kc (kp f n) 2=.val (.int .i64 (f 2))∧kc (kp f n) 3=.val (.int .i64 (f 3))∧kc (kp f n) 4=.val (.int .i64 (f 4))∧kc (kp f n) 5=.val (.int .i64 (n:Nat)):=⟨rfl,rfl,rfl,rfl,rfl,rfl⟩
theorem qjo{O:Ctx}{fr:List (Nat×SV)}{hp:List (Nat×Blk)}{nid mid:Nat}{fit dom dom':Value→Bool}{get:Value→SV}{st:Value→Nat}{c:Nat}(hb:blk hp mid=some (.mapS fit dom get st c))(hd:∀v,dom' v=dom v):Weak O ⟨fr,hp,nid⟩ ⟨fr,setBlk hp mid (.map fit dom' get),nid⟩:=by
 obtain rfl:dom'=dom:=funext hd;rintro base okc ns outs a w ⟨r,h⟩;have hs:Step base okc r (· < nid) hp w r (· < nid) (setBlk hp mid (.map fit dom' get)) w:=h.sat.same hb λG' hG' hN=>by
  have hrep:=h.sat.rep mid _ hb hN;cases hr:r mid with
  |none=>rw[hr]at hrep;cases hrep
  |some b=>
   rw[hr]at hrep;cases hrep with
   |mapS _ _ _ _ _ es clock hb' hmo htm hst hes=>
    exact .map fit dom' get b es _ hb' hmo htm λe he=>(hes e he).mono (λ_ _=>rfl) (λ_ h=>h) (λo c hc=>⟨hG' o c hc,rfl⟩) (Shapes.refl w)
 exact⟨r,h.step hs (λid x hx=>by
  rw[qn]at hx;split at hx
  ·rename_i e;subst e;exact h.keys _ _ hb
  ·exact h.keys id x hx) (xa5 _) (d:=none) (λt ht=>by cases ht) (.val undef)⟩
theorem nmA{a n:Nat}(h:a<n):(∀k,(a=n+k)=False)∧(∀k,(n+k=a)=False)∧(a=n)=False∧(n=a)=False:=
 ⟨λk=>by rw[eq_iff_iff,iff_false];omega,λk=>by rw[eq_iff_iff,iff_false];omega,by rw[eq_iff_iff,iff_false];omega,by rw[eq_iff_iff,iff_false];omega⟩
theorem nmE{a b:Nat}(h:a≠b):(a=b)=False∧(b=a)=False:=⟨by simp[h],by simp[Ne.symm h]⟩
theorem jw{α:Type}{l:List α}{s:α}(h:l.Nodup)(hs:s∉l):(l++[s]).Nodup:=by
 grind
theorem gq:∀(n:Nat)(l:List Nat),l.Nodup→(∀s,s∈l→s<n)→l.length≤n
 |0,l,_,h=>by
  cases l with
  |nil=>exact xa5 _
  |cons a l=>have:=h a xd5;omega
 |n+1,l,hn,h=>by
  by_cases hm:n∈l
  ·have h1:=gq n (l.erase n) (hn.erase n) λs hs=>by
    grind
   simp_all
  ·have:=gq n l hn λs hs=>by
    grind
   omega
theorem Kx{l:List Value}(h:l.Nodup){g:Value→Nat}(hi:∀a b,a∈l→b∈l→g a=g b→a=b):(l.map g).Nodup:=by
 induction l with
 |nil=>exact List.nodup_nil
 |cons a l ih=>
  grind
theorem zf{l:List (Nat×Blk)}{j:Nat}(h:blk l j=none):dropBlk l j=l:=by
 induction l with
 |nil=>rfl
 |cons p l ih=>
  obtain⟨i,b⟩:=p;simp only[blk]at h;split at h
  ·cases h
  ·rename_i hne
   simp only[dropBlk]
   simp_all
end Go.Tn
end
section
namespace Go.Tn
open Go.Proofs
open Go.Sx
variable{l:List (Nat×Blk)}{i:Nat}
theorem Gm{b c:Blk}:setBlk (setBlk l i b) i c=setBlk l i c:=by
 induction l with
 |nil=>simp[setBlk]
 |cons p l ih=>
  obtain⟨j,x⟩:=p;simp only[setBlk];split
  iterate 2 focus simp[setBlk, *]
theorem qes{b x:Blk}(h:blk l i=some x):blk (setBlk l i b) i=some b:=by
 rw[qn,if_pos rfl,h];rfl
theorem qjp{x:Blk}(h:blk l i=some x):setBlk l i x=l:=by
 induction l with
 |nil=>cases h
 |cons p l ih=>
  obtain⟨j,y⟩:=p;simp only[blk]at h;simp only[setBlk];split at h
  iterate 2 focus simp_all
def ROK(n i m:Nat)(row r:Nat→Nat→SV):Prop:=∀k,k<n→r k 0=if k<i∨m<k then row (n - 1 - k) 0 else row k 0
theorem qqt(H:List (Nat×Blk))(id oid n:Nat)(row:Nat→Nat→SV)(hn:0<n)(hn2:n≤100000)(hb:blk H oid=some (.rows 3 1 n row))(hone:∀i,i<n→∃x:Int,row i 0=.val (.int .i64 x)) :
  EffVC Tryz.prog 279 [.vec oid n 1] H id (λhp' nid' res=>id≤nid'∧nid'≤id+50*(n+1)∧res=.tup []∧∃r,(∀k,k<n→r k 0=row (n - 1 - k) 0)∧hp'=setBlk H oid (.rows 3 1 n r)):=by
 refine yj follows Tryz.func279 rfl Ωb Ωb (by rw[Tryz.ntmps279];simp) λout=>?_;have eH:∀b,blk (setBlk H oid b) oid=some b:=λb=>qes hb;have hW:True:=trivial;repeat' first|refine sD ?_ ?_<;>intro _|refine aA ?_|simp -dsimp only[↓RP,RQ,seval,hb,QS,Gm,QT,QN]
 all_goals try exact Ωe
 refine qo (λ(z:Nat×Nat×(Nat→Nat→SV))=>z.1+z.2.1+1=n∧z.1≤z.2.1+1∧ROK n z.1 z.2.1 row z.2.2) (λz=>⟨[(0,.vec oid n 1),(2,.val (.int .i64 (z.1:Nat))),(3,.val (.int .i64 (z.2.1:Nat)))],setBlk H oid (.rows 3 1 n z.2.2),id+10+30*z.1⟩) (λz=>n - z.1) (0,n - 1,row) ⟨by simp only[];omega,by simp only[];omega,λk hk=>by rw[if_neg (by simp only[];omega)]⟩ (by rw[qjp hb];exact qp Ω (by simp[zj,Go.Sx.look];omega) (SubHp.refl _)) λz hz=>?_;obtain⟨i,m,r⟩:=z;obtain⟨z1,z2,z3⟩:=hz;simp only[]at z1 z2 z3;have one:∀k,k<n→∃x:Int,r k 0=.val (.int .i64 x):=λk hk=>by
  rw[z3 k hk];split
  ·exact hone _ Ω
  ·exact hone _ hk
 by_cases hlt:i<m
 ·have h1:=decide_eq_true (Ω:((i:Nat):Int)<(m:Nat))
  obtain⟨x,hx⟩:=one i Ω;obtain⟨y,hy⟩:=one m Ω;repeat' first|refine sD ?_ ?_<;>intro _|refine aA ?_|simp -dsimp only[↓RP,RQ,seval,h1,eH,hx,hy,QS,Gm,QT,QN]
  all_goals try exact Ωe
  refine⟨(i+1,m - 1,_),⟨?_,?_,?_⟩,?_,qp (?_) (by simp[zj,Go.Sx.look];omega) (SubHp.refl _)⟩
  ·grind
  ·grind
  ·intro k hk
   show(if k=m∧0=0 then SV.val (.int .i64 x)else if k=i∧0=0 then SV.val (.int .i64 y)else r k 0)=if k<i+1∨m - 1<k then row (n - 1 - k) 0 else row k 0
   by_cases e1:k=m
   ·rw[if_pos ⟨e1,rfl⟩,if_pos Ω,e1,←hx,z3 i Ω,if_neg Ω,show n - 1 - m=i by omega]
   ·rw[if_neg (λe=>e1 e.1)]
    by_cases e2:k=i
    ·rw[if_pos ⟨e2,rfl⟩,if_pos Ω,e2,←hy,z3 m Ω,if_neg Ω,show n - 1 - i=m by omega]
    ·rw[if_neg (λe=>e2 e.1),z3 k hk]
     by_cases e3:k<i∨m<k
     ·grind
     ·grind
  ·omega
  ·omega
 ·have h1:=decide_eq_false (Ω:¬((i:Nat):Int)<(m:Nat))
  repeat' first|refine sD ?_ ?_<;>intro _|refine aA ?_|simp -dsimp only[↓RP,RQ,seval,h1,eH,QS,Gm,QT,QN]
  all_goals try exact Ωe
  refine⟨_,_,_,qp (nid':=id+50*(n+1)) Ω (fr':=[(0,_)]) ⟨.inr rfl,trivial⟩ (SubHp.refl _),Ω,Ω,rfl,r,λk hk=>?_,rfl⟩;rw[z3 k hk];split
  ·rfl
  ·grind
def VX(by':Nat→Nat)(N start:Nat):Nat→Nat→List Nat→Option (List Nat)
 |0,_,_=>none
 |f+1,at',acc=>if 0<by' at'∧at'<N then(if (by' at' - 1) / 5=start then some (acc++[(by' at' - 1) % 5])else VX by' N start f ((by' at' - 1) / 5) (acc++[(by' at' - 1) % 5]))else none
def qcR(l:List Nat)(r:Nat→Nat→SV):Prop:=∀i,i<l.length→r i 0=.val (.int .i64 (l.getD i 0:Nat))
def stB(tb oid byid N start:Nat)(H:List (Nat×Blk))(id c at':Nat)(acc:List Nat)(r:Nat→Nat→SV):St:=
 match acc with
 |[]=>⟨[(0,.ptr tb 0),(1,.vec byid N 1),(2,.val (.int .i64 (start:Nat))),(7,.val (.slice none 0 0)),(8,.val (.int .i64 (at':Nat)))],H,id+10+50*c⟩
 |_ :: l=>⟨[(0,.ptr tb 0),(1,.vec byid N 1),(2,.val (.int .i64 (start:Nat))),(7,.vec oid (l.length+1) 1),(8,.val (.int .i64 (at':Nat)))],(oid,.rows 3 1 (l.length+1) r) :: H,id+10+50*c⟩
theorem qrn(H:List (Nat×Blk))(id tb byid N start fuel:Nat)(by':Nat→Nat)(row:Nat→Nat→SV)(res0:List Nat)(hN:N≤100000)(hU:Under H id)(hfu:fuel≤100000)(hs:start<N)(hby:byid<id)
  (hb:blk H byid=some (.rows 3 1 N row)) (hrow:∀i,i<N→row i 0=.val (.int .i64 (by' i:Nat))) (hB:∀i,i<N→by' i≤1000000) (hF:VX by' N start fuel start []=some res0) :
  EffVC Tryz.prog 164 [.ptr tb 0,.vec byid N 1,.val (.int .i64 (start:Nat))] H id (λhp' nid' res=>nid'≤id+100*(fuel+2)∧∃rid r,id≤rid∧rid<nid'∧0<res0.length∧qcR res0.reverse r∧hp'=(rid,.rows 3 1 res0.length r) :: H∧res=.vec rid res0.length 1):=by
 refine yj follows Tryz.func164 rfl Ωb Ωb (by rw[Tryz.ntmps164];simp) λout=>?_;have NB:True:=trivial;(repeat' first|refine sD ?_ ?_<;>intro _|refine aAa ?_|simp -dsimp only[↓RP,RQ,seval,NB,QS,QT,qT,QN]);refine qo (λ(z:Nat×Nat×Nat×List Nat×Nat×(Nat→Nat→SV))=>z.1+z.2.1=fuel∧VX by' N start z.1 z.2.2.1 z.2.2.2.1=some res0∧qcR z.2.2.2.1 z.2.2.2.2.2∧z.2.2.2.1.length≤z.2.1∧(z.2.2.2.1≠[]→id≤z.2.2.2.2.1∧z.2.2.2.2.1<id+10+50*z.2.1)) (λz=>stB tb z.2.2.2.2.1 byid N start H id z.2.1 z.2.2.1 z.2.2.2.1 z.2.2.2.2.2) (λz=>z.1) (fuel,0,start,[],0,λ_ _=>.top) ⟨by simp only[];omega,hF,λi hi=>(by cases hi),xa5 _,λh=>absurd rfl h⟩ (qp Ω Ωh (SubHp.refl _)) λz hz=>?_;obtain⟨f,c,at',acc,oid,r⟩:=z;obtain⟨z1,z2,z3,z4,z5⟩:=hz;simp only[]at z1 z2 z3 z4 z5;cases f with
 |zero=>cases z2
 |succ f=>
 simp only[VX]at z2;split at z2
 case isFalse=>cases z2
 rename_i hpos;obtain⟨hp1,hp2⟩:=hpos;have hr0:=hrow at' hp2;have hB0:=hB at' hp2;obtain⟨n,hn⟩:∃n,n=id+10+50*c:=⟨_,rfl⟩;obtain⟨b,hbn⟩:∃b,by' at'=b+1:=⟨by' at' - 1,Ω⟩
 rw[hbn]at hr0 z2;rw[Nat.add_sub_cancel]at z2;have m1:((b+1:Nat):Int) - 1=(b:Nat):=by omega
 have m2:((b:Nat):Int).tmod 5=((b % 5:Nat):Int):=rfl;have m3:((b:Nat):Int).tdiv 5=((b / 5:Nat):Int):=rfl;have hq:b / 5≤b:=Nat.div_le_self _ _;have hq5:b % 5<5:=Nat.mod_lt _ Ωq;clear NB;have hbid:=hU _ _ hb;have NB:=(⟨nmA (Ω:byid<n),nmA (Ω:byid<id)⟩:_∧_);cases acc with
 |nil=>
  have hnr:qcR ([b % 5]) (λi j=>[SV.val (.int .i64 ((b % 5:Nat):Int))].getD (i+j) SV.top):=by
   intro i hi
   simp_all
  skip
  simp only[stB];rw[←hn];by_cases he:b / 5=start
  ·rw[if_pos he]at z2
   have he1:=decide_eq_true (Ω:((b / 5:Nat):Int)=(start:Nat));repeat' first|refine sD ?_ ?_<;>intro _|refine aAa ?_|simp -dsimp only[↓RP,RQ,seval,he1,hb,hr0,m1,m2,m3,NB,QS,QT,qT,QN]
   all_goals try exact Ωe
   skip
   have hl:res0=[b % 5]:=(Option.some.inj z2).symm;have hlen:res0.length=1:=by rw[hl];simp
   refine wO ΩC (qqt _ _ (n+8) 1 (λi j=>[SV.val (.int .i64 ((b % 5:Nat):Int))].getD (i+j) SV.top) Ω Ω ΩN (λi hi=>⟨_,hnr i (by simp<;>omega)⟩)) λhp' n3 res hQ=>?_;obtain⟨q1,q2,rfl,r3,q3,rfl⟩:=hQ;repeat' first|refine sD ?_ ?_<;>intro _|refine aAa ?_|simp -dsimp only[↓RP,RQ,seval,setBlk,hb,hr0,m1,m2,m3,NB,QS,QT,qT,QN]
   all_goals try exact Ωe
   refine⟨_,_,_,qp (nid':=id+100*(fuel+2)) Ω (fr':=[(0,_)]) ⟨.inr rfl,trivial⟩ (SubHp.cons (SubHp.skip (hU.none Ω) (SubHp.refl _))),Ω,n+8,r3,Ω,Ω,by rw[hlen];omega,λi hi=>?_,by rw[hlen],by rw[hlen];rfl⟩
   simp_all
  ·rw[if_neg he]at z2
   have he1:=decide_eq_false (Ω:¬((b / 5:Nat):Int)=(start:Nat));repeat' first|refine sD ?_ ?_<;>intro _|refine aAa ?_|simp -dsimp only[↓RP,RQ,seval,he1,hb,hr0,m1,m2,m3,NB,QS,QT,qT,QN]
   all_goals try exact Ωe
   skip
   refine⟨(f,c+1,b / 5,[b % 5],n+8,(λi j=>[SV.val (.int .i64 ((b % 5:Nat):Int))].getD (i+j) SV.top)),⟨by simp only[];omega,z2,hnr,Ωj,λ_=>by simp only[];omega⟩,by simp only[];omega,?_⟩;simp only[stB];exact qp Ω Ωh (SubHp.cons (SubHp.skip (hU.none Ω) (SubHp.refl _)))
 |cons x l=>
  have hnr:qcR (x ::(l++[b % 5])) (λi j=>if i<l.length+1 then r i j else [SV.val (.int .i64 ((b % 5:Nat):Int))].getD (i -(l.length+1)+j) SV.top):=by
   intro i hi;rw[xe4,xc8,xd1]at hi;by_cases hc:i<l.length+1
   ·show(if i<l.length+1 then r i 0 else _)=_
    rw[if_pos hc,z3 i hc]
    grind
   ·grind
  have⟨z6,z7⟩:=z5 Ωj;rw[←hn]at z7;rw[xe4]at z4;have NO:=(⟨nmE (Ω:oid≠byid),nmA z7⟩:_∧_);have hdr:dropBlk H oid=H:=zf (hU.none z6);simp only[stB];rw[←hn];by_cases he:b / 5=start
  ·rw[if_pos he]at z2
   have he1:=decide_eq_true (Ω:((b / 5:Nat):Int)=(start:Nat));repeat' first|refine sD ?_ ?_<;>intro _|refine aAa ?_|simp -dsimp only[↓RP,RQ,seval,he1,hb,hr0,m1,m2,m3,NO,hdr,NB,QS,QT,qT,QN]
   all_goals try exact Ωe
   skip
   have hl:res0=x ::(l++[b % 5]):=(Option.some.inj z2).symm;have hlen:res0.length=(l.length+2):=by rw[hl];simp
   refine wO ΩC (qqt _ _ (n+8) (l.length+2) (λi j=>if i<l.length+1 then r i j else [SV.val (.int .i64 ((b % 5:Nat):Int))].getD (i -(l.length+1)+j) SV.top) Ω Ω ΩN (λi hi=>⟨_,hnr i (by simp<;>omega)⟩)) λhp' n3 res hQ=>?_;obtain⟨q1,q2,rfl,r3,q3,rfl⟩:=hQ;repeat' first|refine sD ?_ ?_<;>intro _|refine aAa ?_|simp -dsimp only[↓RP,RQ,seval,setBlk,hb,hr0,m1,m2,m3,NO,hdr,NB,QS,QT,qT,QN]
   all_goals try exact Ωe
   refine⟨_,_,_,qp (nid':=id+100*(fuel+2)) Ω (fr':=[(0,_)]) ⟨.inr rfl,trivial⟩ (SubHp.cons (SubHp.skip (hU.none Ω) (SubHp.refl _))),Ω,n+8,r3,Ω,Ω,by rw[hlen];omega,λi hi=>?_,by rw[hlen],by rw[hlen];rfl⟩;rw[List.length_reverse]at hi;have hi':i<(l.length+2):=by omega
   rw[q3 i hi'];have e2:=hnr ((l.length+2) - 1 - i) (by simp<;>omega);rw[hl];have e3:(x ::(l++[b % 5])).reverse.getD i 0=(x ::(l++[b % 5])).getD ((l.length+2) - 1 - i) 0:=by
    rw[xc6,xc6,List.getElem?_reverse (by simp<;>omega)];rw[show(x ::(l++[b % 5])).length=l.length+2 by simp]
   rw[e3];exact e2
  ·rw[if_neg he]at z2
   have he1:=decide_eq_false (Ω:¬((b / 5:Nat):Int)=(start:Nat));repeat' first|refine sD ?_ ?_<;>intro _|refine aAa ?_|simp -dsimp only[↓RP,RQ,seval,he1,hb,hr0,m1,m2,m3,NO,hdr,NB,QS,QT,qT,QN]
   all_goals try exact Ωe
   skip
   refine⟨(f,c+1,b / 5,x ::(l++[b % 5]),n+8,(λi j=>if i<l.length+1 then r i j else [SV.val (.int .i64 ((b % 5:Nat):Int))].getD (i -(l.length+1)+j) SV.top)),⟨by simp only[];omega,z2,hnr,Ωu,λ_=>by simp only[];omega⟩,by simp only[];omega,?_⟩;simp only[stB,xc8,xd1];exact qp Ω Ωh (SubHp.cons (SubHp.skip (hU.none Ω) (SubHp.refl _)))
end Go.Tn
end
section
namespace Go.Tn
open Go.Proofs
open Go.Sx
def stL(s:Nat→Int):List SV:=[.val (.int .i64 (s 0)),.val (.int .i64 (s 1)),.val (.int .i64 (s 2)),.val (.int .i64 (s 3)),.val (.int .i64 (s 4))]
theorem Yc{s:Nat→Int}{k:Nat}(h:k<5):(stL s)[k]? = some (.val (.int .i64 (s k))):=by
 have:k=0∨k=1∨k=2∨k=3∨k=4:=by omega
 rcases this with rfl|rfl|rfl|rfl|rfl<;>rfl
theorem qet(s:Nat→Int):(stL s).length=5:=rfl
def ixF(u s:Nat→Int):Nat→Int
 |0=>0
 |k+1=>ixF u s k*(u k+1)+s k
theorem qaP(u s:Nat→Int)(k:Nat):ixF u s (k+1)=ixF u s k*(u k+1)+s k:=rfl
theorem Ky{u s:Nat→Int}{m:Nat}(h:∀i,i<m→0≤s i∧s i≤u i):∀{k},k≤m→0≤ixF u s k∧ixF u s k<prd u k
 |0,_=>⟨Int.le_refl _,Int.one_pos⟩
 |k+1,hk=>by
  have⟨h1,h2⟩:=Ky h (k:=k) Ω;have⟨h3,h4⟩:=h k Ω;rw[qaP,qqi];constructor
  ·have:=Int.mul_nonneg h1 (Ω:(0:Int)≤u k+1);omega
  ·have h5:(ixF u s k+1)*(u k+1)≤prd u k*(u k+1):=Int.mul_le_mul_of_nonneg_right Ω Ω
   rw[Int.add_mul]at h5;omega
theorem qqu(H:List (Nat×Blk))(id tb m:Nat)(u s:Nat→Int)(tix:Nat)(tr:Nat→Nat→SV)(hti:tix<id)(hN0:blk H id=none)(ht:blk H tix=some (.rows 3 1 m tr))(htu:∀i,i<m→tr i 0=.val (.int .i64 (u i)))(Z1 Z2 Z3 Z4:SV)(hm:m≤5)(hu:∀i,i<m→1≤u i∧u i≤12)(hs:∀i,i<m→0≤s i∧s i≤u i)
  (hid:tb<id) (hb:blk H tb=some (.cells 253 [.vec tix m 1,Z1,Z2,Z3,Z4])) :
  EffVC Tryz.prog 162 [.ptr tb 0,.agg (stL s)] H id (λhp' nid' res=>hp'=H∧nid'=id+200∧res=I (ixF u s m)):=by
 refine yj follows Tryz.func162 rfl Ωb Ωb (by rw[Tryz.ntmps162];simp) λout=>?_;have NB:True:=trivial;have hlen:(stL s).length=5:=rfl;have hT:=ht;have NB:=(⟨nmA hid,nmE (Ω:id≠tb)⟩:_∧_);repeat' first|refine sD ?_ ?_<;>intro _|refine aAb ?_|simp -dsimp only[↓RP,RQ,seval,NB,hb,hT,hlen,QS,QT,QN]
 all_goals try exact Ωe
 refine qo (λ(k:Nat)=>k≤m) (λk=>⟨[(0,.ptr tb 0),(3,.ptr id 0),(5,.val (.int .i64 (ixF u s k))),(12,.vec tix m 1),(13,.val (.int .i64 (m:Nat))),(14,.val (.int .i64 (k:Nat)))],(id,.cells 140 (stL s)) :: H,id+20+30*k⟩) (λk=>m - k) 0 (xb6 _) (qp Ω (by simp[zj,Go.Sx.look,ixF]) (SubHp.refl _)) λk hk=>?_;by_cases hkm:k<m
 ·have hlt:=decide_eq_true (Ω:((k:Nat):Int)<(m:Nat))
  have hsk:=Yc (s:=s) (k:=k) Ω;have⟨b1,b2⟩:=Ky hs hk;have⟨b3,b4⟩:=Ky hs (k:=k+1) hkm;have b5:=qdM hu hm hk;have b6:=qdM hu hm (k:=k+1) hkm;have b7:=hu k hkm;have b8:=hs k hkm;have b9:0≤ixF u s k*(u k+1):=Int.mul_nonneg b1 Ω;rw[qaP]at b3 b4;have htk:=htu k hkm;have NX:=(⟨nmA hti,nmE (Ω:tix≠id)⟩:_∧_);repeat' first|refine sD ?_ ?_<;>intro _|refine aAb ?_|simp -dsimp only[↓RP,RQ,seval,NB,hlt,NX,htk,hb,hT,hlen,QS,QT,QN]
  all_goals try exact Ωe
  refine⟨_,hsk,?_⟩;repeat' first|refine sD ?_ ?_<;>intro _|refine aAb ?_|simp -dsimp only[↓RP,RQ,seval,NB,hlt,NX,htk,hb,hT,hlen,QS,QT,QN]
  all_goals try exact Ωe
  refine⟨k+1,hkm,Ω,qp Ω (by simp[zj,Go.Sx.look,qaP]) (SubHp.refl _)⟩
 ·obtain rfl:k=m:=by omega
  have hlt:=decide_eq_false (Ω:¬((k:Nat):Int)<(k:Nat));repeat' first|refine sD ?_ ?_<;>intro _|refine aAb ?_|simp -dsimp only[↓RP,RQ,seval,NB,hlt,hb,hT,hlen,QS,QT,QN]
  all_goals try exact Ωe
  exact⟨_,_,_,qp (nid':=id+200) Ω (fr':=[(0,_)]) ⟨.inr rfl,trivial⟩ (SubHp.skip hN0 (SubHp.refl _)),rfl,rfl,rfl⟩
theorem qqv(H:List (Nat×Blk))(id tb m:Nat)(u s:Nat→Int)(o full:Bool)(row:Nat→Nat→SV)(hN0:blk H id=none)(htu:∀i,i<m→row i 0=.val (.int .i64 (u i)))(Z1 Z2 Z3 Z4:SV)(hm:m≤5)(hu:∀i,i<m→1≤u i∧u i≤12)(hs:∀i,i<m→0≤s i∧s i≤u i)
  (hid:tb<id) (hb:blk H tb=some (.cells 253 [.arr o full m 1 row,Z1,Z2,Z3,Z4])) :
  EffVC Tryz.prog 162 [.ptr tb 0,.agg (stL s)] H id (λhp' nid' res=>hp'=H∧nid'=id+200∧res=I (ixF u s m)):=by
 refine yj follows Tryz.func162 rfl Ωb Ωb (by rw[Tryz.ntmps162];simp) λout=>?_;have NB:True:=trivial;have hlen:(stL s).length=5:=rfl;have hT:True:=trivial;have NB:=(⟨nmA hid,nmE (Ω:id≠tb)⟩:_∧_);repeat' first|refine sD ?_ ?_<;>intro _|refine aAb ?_|simp -dsimp only[↓RP,RQ,seval,NB,hb,hT,hlen,QS,QT,QN]
 all_goals try exact Ωe
 refine qo (λ(k:Nat)=>k≤m) (λk=>⟨[(0,.ptr tb 0),(3,.ptr id 0),(5,.val (.int .i64 (ixF u s k))),(12,.arr o full m 1 row),(13,.val (.int .i64 (m:Nat))),(14,.val (.int .i64 (k:Nat)))],(id,.cells 140 (stL s)) :: H,id+20+30*k⟩) (λk=>m - k) 0 (xb6 _) (qp Ω (by simp[zj,Go.Sx.look,ixF]) (SubHp.refl _)) λk hk=>?_;by_cases hkm:k<m
 ·have hlt:=decide_eq_true (Ω:((k:Nat):Int)<(m:Nat))
  have hsk:=Yc (s:=s) (k:=k) Ω;have⟨b1,b2⟩:=Ky hs hk;have⟨b3,b4⟩:=Ky hs (k:=k+1) hkm;have b5:=qdM hu hm hk;have b6:=qdM hu hm (k:=k+1) hkm;have b7:=hu k hkm;have b8:=hs k hkm;have b9:0≤ixF u s k*(u k+1):=Int.mul_nonneg b1 Ω;rw[qaP]at b3 b4;have htk:=htu k hkm;repeat' first|refine sD ?_ ?_<;>intro _|refine aAb ?_|simp -dsimp only[↓RP,RQ,seval,NB,hlt,htk,hb,hT,hlen,QS,QT,QN]
  all_goals try exact Ωe
  refine⟨_,hsk,?_⟩;repeat' first|refine sD ?_ ?_<;>intro _|refine aAb ?_|simp -dsimp only[↓RP,RQ,seval,NB,hlt,htk,hb,hT,hlen,QS,QT,QN]
  all_goals try exact Ωe
  refine⟨k+1,hkm,Ω,qp Ω (by simp[zj,Go.Sx.look,qaP]) (SubHp.refl _)⟩
 ·obtain rfl:k=m:=by omega
  have hlt:=decide_eq_false (Ω:¬((k:Nat):Int)<(k:Nat));repeat' first|refine sD ?_ ?_<;>intro _|refine aAb ?_|simp -dsimp only[↓RP,RQ,seval,NB,hlt,hb,hT,hlen,QS,QT,QN]
  all_goals try exact Ωe
  exact⟨_,_,_,qp (nid':=id+200) Ω (fr':=[(0,_)]) ⟨.inr rfl,trivial⟩ (SubHp.skip hN0 (SubHp.refl _)),rfl,rfl,rfl⟩
end Go.Tn
end
section
namespace Go.Tn
open Go.Proofs
open Go.Sx
theorem qaQ(s:Nat→Int):List.take 5 (stL s)=stL s:=rfl
end Go.Tn
end
section
namespace Go.Tn
open Go.Proofs
open Go.Sx
end Go.Tn
end
section
namespace Go.Tv
open Go.Proofs
open Go.Sx
variable{k:Nat}
theorem follows:Tryz.prog.follows .mixedOrders=true:=by kernel_rfl
theorem TYv:True∧qk Tryz.prog 2=some ⟨false,1,some [.int .i64 0],.int .i64⟩∧qk Tryz.prog 3=some ⟨false,1,some [.int .i64 0],.int .i64⟩∧qk Tryz.prog 4=some ⟨false,1,some [.bool false],.bool⟩∧qk Tryz.prog 28=some ⟨false,1,some [.int .i64 0],.int .i64⟩∧qk Tryz.prog 32=some ⟨false,1,some [.slice none 0 0],.slice 2 1⟩∧qk Tryz.prog 68=some ⟨true,2,some [.int .i64 0,.int .i64 0],.struct [(0,1,some false),(1,1,some false)]⟩∧qw Tryz.prog 68=some [(0,1),(1,1)]∧zE Tryz.prog 68=some [.i .i64,.i .i64]∧qk Tryz.prog 71=some ⟨false,1,some [.slice none 0 0],.slice 99 2⟩∧qk Tryz.prog 73=some ⟨true,2,some [.slice none 0 0,.int .i64 0],.struct [(0,1,some false),(1,1,some false)]⟩∧qw Tryz.prog 73=some [(0,1),(1,1)]∧qk Tryz.prog 99=some ⟨true,2,some [.int .i64 0,.int .i64 0],.struct [(0,1,some false),(1,1,some false)]⟩∧qw Tryz.prog 99=some [(0,1),(1,1)]∧zE Tryz.prog 99=some [.i .i64,.i .i64]∧qE Tryz.prog 2=8:=⟨trivial,Ωb,Ωb,Ωb,Ωb,Ωb,Ωb,Ωb,Ωb,Ωb,Ωb,Ωb,Ωb,Ωb,Ωb,Ωb⟩
structure Fr where
 n:Int
 d:Int
theorem qcS{k a b:Int}(hk:0<k)(h:k*a<k*b):a<b:=Int.lt_of_mul_lt_mul_left h Ω
def red(a:Fr):Fr:=⟨a.n.tdiv (Int.gcd a.n a.d),a.d.tdiv (Int.gcd a.n a.d)⟩
theorem red_spec{a:Fr}(h:0<a.d):0<(red a).d∧Int.gcd (red a).n (red a).d=1∧(red a).n*a.d=a.n*(red a).d∧(red a).d≤a.d:=by
 have hg:0<Int.gcd a.n a.d:=Int.gcd_pos_of_ne_zero_right _ Ω;obtain⟨x,hx⟩:=Int.gcd_dvd_left (a:=a.n) (b:=a.d);obtain⟨y,hy⟩:=Int.gcd_dvd_right (a:=a.n) (b:=a.d);unfold red;generalize hG:Int.gcd a.n a.d=g at *;have hg':(g:Int)≠0:=by omega
 have e1:a.n.tdiv g=x:=by rw[hx];exact Int.mul_tdiv_cancel_left _ hg'
 have e2:a.d.tdiv g=y:=by rw[hy];exact Int.mul_tdiv_cancel_left _ hg'
 simp only[e1,e2];have hy0:0<y:=by
  refine qcS (k:=(g:Int)) Ω ?_;rw[←hy];omega
 refine⟨hy0,?_,?_,?_⟩
 ·rw[hx,hy,Int.gcd_mul_left]at hG
  have h3:g*Int.gcd x y=g*1:=by simpa using hG
  exact Nat.eq_of_mul_eq_mul_left hg h3
 ·rw[hx,hy];grind
 ·rw[hy]
  have:1*y≤(g:Int)*y:=Int.mul_le_mul_of_nonneg_right Ω Ω;omega
def I(n:Int):SV:=.val (.int .i64 n)
def B(b:Bool):SV:=.val (.bool b)
def ints(n:Nat)(u:Nat→Int):SV:=.arr false false n 1 (λi _=>.val (.int .i64 (u i)))
theorem zO{a b:Int}(h:a=b):SV.val (Value.int IntKind.i64 a)=SV.val (Value.int IntKind.i64 b):=by rw[h]
theorem Zu{a b:Bool}(h:a=b):SV.val (Value.bool a)=SV.val (Value.bool b):=by rw[h]
def fsv(a:Fr):SV:=.agg [I a.n,I a.d]
def zb(b:Nat→Bool)(i:Nat):Nat→Int
 |0=>-1
 |k+1=>if b i=true then i else zb b (i+1) k
theorem vy(b:Nat→Bool):∀(k i:Nat),zb b i k<0↔∀j,i≤j→j<i+k→b j=false
 |0,i=>by simp[zb];intro j h1 h2;omega
 |k+1,i=>by
  simp only[zb];split
  ·grind
  ·rename_i h
   rw[vy b k (i+1)];constructor
   ·grind
   ·grind
def Jq(lo hi:Int):SV:=.fn (.func 203) [] [.ref false 1 (λ_=>I lo),.ref false 1 (λ_=>I hi)]
theorem qro(n lo hi:Int):qb Tryz.prog 203 [I n,.ref false 1 (λ_=>I lo),.ref false 1 (λ_=>I hi)] (B (decide (n<lo) || decide (hi<n))):=by
 refine qc Tryz.func203 rfl Ωb follows Ωb _ _ (by rw[Tryz.ntmps203];simp) Ω5 ?_;unfold I B;(repeat' (first|refine sD ?_ ?_<;>intro _|refine aA ?_|simp -dsimp only[↓RP,RQ,xa0,reduceIte,reduceCtorEq,xa1,xa2,xa3,xa4,TYv,Tryz.results203]))
 all_goals (refine Zu ?_;rw[Bool.eq_iff_iff];simp;omega)
theorem qoI(m:Nat)(u:Nat→Int)(lo hi':Int)(hm:m≤1000000):qb Tryz.prog 304 [ints m u,Jq lo hi'] (I (zb (λi=>decide (u i<lo) || decide (hi'<u i)) 0 m)):=by
 refine qc Tryz.func304 rfl Ωb follows Ωb _ _ (by rw[Tryz.ntmps304];simp) (by simp[OldL,Old,ints,Jq,I]) ?_;unfold ints Jq I;(simp -dsimp only[↓RP,RQ,xa0,reduceIte,reduceCtorEq,xa1,xa2,xa3,xa4,TYv,Tryz.results304]);refine qo (λi=>i≤m∧zb (λi=>decide (u i<lo) || decide (hi'<u i)) 0 m=zb (λi=>decide (u i<lo) || decide (hi'<u i)) i (m - i)) (λi=>⟨[(0,.arr false false m 1 (λi _=>.val (.int .i64 (u i)))),(1,.fn (.func 203) [] [.ref false 1 (λ_=>.val (.int .i64 lo)),.ref false 1 (λ_=>.val (.int .i64 hi'))]),(7,.val (.int .i64 m)),(8,.val (.int .i64 i))],[],0⟩) (λi=>m - i) 0 ⟨xb6 _,rfl⟩ (weak [] [] ?_ ?_ ?_) λi hi=>?_
 ·(simp -dsimp only[↓RP,RQ,xa0,reduceIte,reduceCtorEq,xa1,xa2,xa3,xa4]);simp
 ·(simp -dsimp only[↓RP,RQ,xa0,reduceIte,reduceCtorEq,xa1,xa2,xa3,xa4])
 ·(simp -dsimp only[↓RP,RQ,xa0,reduceIte,reduceCtorEq,xa1,xa2,xa3,xa4])
 obtain⟨hi,he⟩:=hi;have e1:∀k,m - i=k+1→zb (λi=>decide (u i<lo) || decide (hi'<u i)) i (m - i)=if (decide (u i<lo) || decide (hi'<u i))=true then(i:Int)else zb (λi=>decide (u i<lo) || decide (hi'<u i)) (i+1) k:=λk hk=>by rw[hk];rfl
 (repeat' (first|refine sD ?_ ?_<;>intro _|refine aA ?_|simp -dsimp only[↓RP,RQ,xa0,reduceIte,reduceCtorEq,xa1,xa2,xa3,xa4,TYv,Tryz.results304]))
 ·rename_i hlt
  have e2:=e1 (m -(i+1)) Ω;refine qh (qro (u i) lo hi') (by(simp -dsimp only[↓RP,RQ,xa0,reduceIte,reduceCtorEq,xa1,xa2,xa3,xa4,I]);simp) Ωc ?_;(repeat' (first|refine sD ?_ ?_<;>intro _|refine aA ?_|simp -dsimp only[↓RP,RQ,xa0,reduceIte,reduceCtorEq,xa1,xa2,xa3,xa4,B,TYv,Tryz.results304]))
  ·simp_all
  ·simp_all
  ·rename_i h1 h2
   refine⟨i+1,⟨Ω,?_⟩,Ω,weak [] [] ?_ ?_ ?_⟩
   ·rw[he,e2,if_neg Ωu]
   ·(simp -dsimp only[↓RP,RQ,xa0,reduceIte,reduceCtorEq,xa1,xa2,xa3,xa4]);simp
   ·(simp -dsimp only[↓RP,RQ,xa0,reduceIte,reduceCtorEq,xa1,xa2,xa3,xa4])
   ·(simp -dsimp only[↓RP,RQ,xa0,reduceIte,reduceCtorEq,xa1,xa2,xa3,xa4])
 ·rename_i hlt
  refine zO ?_;have:m - i=0:=by omega
  rw[he,this];rfl
def ym(u:Nat→Int)(m:Nat)(lo hi:Int):Prop:=∀i,i<m→lo≤u i∧u i≤hi
instance(u:Nat→Int)(m:Nat)(lo hi:Int):Decidable (ym u m lo hi):=by unfold ym;infer_instance
theorem VR(u:Nat→Int)(m:Nat)(lo hi:Int):zb (λi=>decide (u i<lo) || decide (hi<u i)) 0 m<0↔ym u m lo hi:=by
 rw[vy];constructor
 ·intro h i hi'
  simp_all
 ·intro h j _ hj
  have:=h j Ω;simp;omega
theorem qqw(m:Nat)(u:Nat→Int)(lo hi:Int)(hm:m≤1000000):qb Tryz.prog 202 [ints m u,Jq lo hi] (B (!decide (ym u m lo hi))):=by
 refine qc Tryz.func202 rfl Ωb follows Ωb _ _ (by rw[Tryz.ntmps202];simp) (by simp[OldL,Old,ints,Jq,I]) ?_;unfold ints Jq I B;(simp -dsimp only[↓RP,RQ,xa0,reduceIte,reduceCtorEq,xa1,xa2,xa3,xa4,TYv,Tryz.results202]);refine qh (qoI m u lo hi hm) (by(simp -dsimp only[↓RP,RQ,xa0,reduceIte,reduceCtorEq,xa1,xa2,xa3,xa4,ints,Jq,I]);simp) Ωi ?_;(repeat' (first|refine sD ?_ ?_<;>intro _|refine aA ?_|simp -dsimp only[↓RP,RQ,xa0,reduceIte,reduceCtorEq,xa1,xa2,xa3,xa4,I,TYv,Tryz.results202]));refine Zu ?_;rw[Bool.eq_iff_iff];simp[←VR]
theorem qoJ(m:Nat)(u:Nat→Int)(lo hi:Int)(hm:m≤1000000):qb Tryz.prog 100 [I lo,I hi,ints m u] (B (decide (ym u m lo hi))):=by
 refine qc Tryz.func100 rfl Ωb follows Ωb _ _ (by rw[Tryz.ntmps100];simp) (by simp[OldL,Old,ints,I]) ?_;unfold ints I B;(simp -dsimp only[↓RP,RQ,xa0,reduceIte,reduceCtorEq,xa1,xa2,xa3,xa4,TYv,Tryz.results100]);refine qh (qqw m u lo hi hm) (by(simp -dsimp only[↓RP,RQ,xa0,reduceIte,reduceCtorEq,xa1,xa2,xa3,xa4,ints,Jq,I]);simp) Ωc ?_;(repeat' (first|refine sD ?_ ?_<;>intro _|refine aA ?_|simp -dsimp only[↓RP,RQ,xa0,reduceIte,reduceCtorEq,xa1,xa2,xa3,xa4,B,TYv,Tryz.results100]));simp
theorem wH(x lo hi:Int):qb Tryz.prog 100 [I lo,I hi,ints 1 (λ_=>x)] (B (decide (lo≤x∧x≤hi))):=by
 have:=qoJ 1 (λ_=>x) lo hi Ω;have e:ym (λ_=>x) 1 lo hi↔(lo≤x∧x≤hi):=⟨λh=>h 0 Ω,λh i _=>h⟩
 simp_all
theorem qoK(x y lo hi:Int):qb Tryz.prog 100 [I lo,I hi,ints 2 (λi=>if i=0 then x else y)] (B (decide ((lo≤x∧x≤hi)∧(lo≤y∧y≤hi)))):=by
 have:=qoJ 2 (λi=>if i=0 then x else y) lo hi Ω;have e:ym (λi=>if i=0 then x else y) 2 lo hi↔((lo≤x∧x≤hi)∧(lo≤y∧y≤hi)):=⟨λh=>⟨by have:=h 0 Ω;simpa using this,by have:=h 1 Ω;simpa using this⟩,λh i hi=>by
  by_cases e:i=0
  ·simp_all
  ·simpa[e]using h.2⟩
 simp_all
theorem qqh(x y:Int):∀(i:Nat),i<2→[SV.val (.int .i64 x),SV.val (.int .i64 y)][i]?.getD SV.top=SV.val (.int .i64 (if i=0 then x else y))
 |0,_=>rfl
 |1,_=>rfl
theorem tmN(k m:Nat):(k:Int).tmod (m:Int)=((k % m:Nat):Int):=rfl
theorem qrp(a b:Nat)(ha:a≤4611686018427387904)(hb:b≤4611686018427387904):qb Tryz.prog 105 [I a,I b] (I (Nat.gcd a b)):=by
 refine qc Tryz.func105 rfl Ωb follows Ωb _ _ (by rw[Tryz.ntmps105];simp) Ω5 ?_;unfold I;(repeat' first|refine sD ?_ ?_<;>intro _|refine aA ?_|simp -dsimp only[↓RP,RQ,xa0,reduceIte,reduceCtorEq,xa1,xa2,xa3,xa4,fsv,B,I,TYv,RZ,eq_self,Tryz.results105]);refine qo (λ(q:Nat×Nat)=>Nat.gcd q.1 q.2=Nat.gcd a b∧q.1≤4611686018427387904∧q.2≤4611686018427387904) (λq=>⟨[(0,.val (.int .i64 q.1)),(1,.val (.int .i64 q.2))],[],0⟩) (λq=>q.2) (a,b) ⟨rfl,ha,hb⟩ (weak [] [] ?_ ?_ ?_) λq hq=>?_
 ·(simp -dsimp only[↓RP,RQ,xa0,reduceIte,reduceCtorEq,xa1,xa2,xa3,xa4]);all_goals simp
 ·(simp -dsimp only[↓RP,RQ,xa0,reduceIte,reduceCtorEq,xa1,xa2,xa3,xa4])
 ·(simp -dsimp only[↓RP,RQ,xa0,reduceIte,reduceCtorEq,xa1,xa2,xa3,xa4])
 obtain⟨x,y⟩:=q;obtain⟨hg,hx,hy⟩:=hq;have hg:Nat.gcd x y=Nat.gcd a b:=hg;have hx:x≤4611686018427387904:=hx;have hy:y≤4611686018427387904:=hy;by_cases h0:0<y
 ·have hm:=tmN x y
  have hlt:=Nat.mod_lt x h0;have hg2:Nat.gcd y (x % y)=Nat.gcd a b:=by rw[Nat.gcd_comm,←Nat.gcd_rec,Nat.gcd_comm,hg]
  generalize x % y=z at hm hlt hg2;repeat' first|refine sD ?_ ?_<;>intro _|refine aA ?_|simp -dsimp only[↓RP,RQ,xa0,reduceIte,reduceCtorEq,xa1,xa2,xa3,xa4,hm,fsv,B,I,TYv,RZ,eq_self,Tryz.results105]
  all_goals try(exfalso;omega)
  refine⟨(y,z),⟨hg2,hy,(by show z≤4611686018427387904;omega)⟩,hlt,weak [] [] ?_ ?_ ?_⟩
  ·(simp -dsimp only[↓RP,RQ,xa0,reduceIte,reduceCtorEq,xa1,xa2,xa3,xa4]);all_goals simp
  ·(simp -dsimp only[↓RP,RQ,xa0,reduceIte,reduceCtorEq,xa1,xa2,xa3,xa4])
  ·(simp -dsimp only[↓RP,RQ,xa0,reduceIte,reduceCtorEq,xa1,xa2,xa3,xa4])
 ·have hy0:y=0:=by omega
  subst hy0;rw[Nat.gcd_zero_right]at hg;rw[←hg];(repeat' first|refine sD ?_ ?_<;>intro _|refine aA ?_|simp -dsimp only[↓RP,RQ,xa0,reduceIte,reduceCtorEq,xa1,xa2,xa3,xa4,fsv,B,I,TYv,RZ,eq_self,Tryz.results105]);omega
theorem qoL(a:Fr)(hd:0<a.d)(hd2:a.d≤4611686018427387904)(h1 : -4611686018427387904≤a.n)(h2:a.n≤4611686018427387904):qb Tryz.prog 200 [I a.n,I a.d] (fsv (red a)):=by
 refine qc Tryz.func200 rfl Ωb follows Ωb _ _ (by rw[Tryz.ntmps200];simp) Ω5 ?_;have hg:=Int.gcd_pos_of_ne_zero_right a.n (Ω:a.d≠0);have eg:Int.gcd a.n a.d=Nat.gcd a.n.natAbs a.d.natAbs:=Int.gcd_eq_natAbs_gcd_natAbs _ _;have e1:max a.n (-a.n)=((a.n.natAbs:Nat):Int):=by omega
 have e2:a.d=((a.d.natAbs:Nat):Int):=by omega
 have⟨r1,r2,r3,r4⟩:=red_spec hd;have rn : -4611686018427387904≤(red a).n∧(red a).n≤4611686018427387904:=by
  have h5:(red a).n=a.n.tdiv (Int.gcd a.n a.d):=rfl;have h6:=Int.natAbs_tdiv_le_natAbs a.n (Int.gcd a.n a.d);rw[←h5]at h6;omega
 have k:=qrp a.n.natAbs a.d.natAbs Ω Ω;rw[←e2,←eg,←e1]at k;have q1:a.n.tdiv (Int.gcd a.n a.d)=(red a).n:=rfl;have q2:a.d.tdiv (Int.gcd a.n a.d)=(red a).d:=rfl;generalize Int.gcd a.n a.d=g at *;unfold fsv I;repeat' first|refine sD ?_ ?_<;>intro _|refine aA ?_|simp -dsimp only[↓RP,RQ,xa0,reduceIte,reduceCtorEq,xa1,xa2,xa3,xa4,fsv,B,I,TYv,RZ,eq_self,Tryz.results200]
 all_goals try(exfalso;omega)
 refine qh k (by(simp -dsimp only[↓RP,RQ,xa0,reduceIte,reduceCtorEq,xa1,xa2,xa3,xa4,I]);all_goals (try simp)) Ωa ?_;repeat' first|refine sD ?_ ?_<;>intro _|refine aA ?_|simp -dsimp only[↓RP,RQ,xa0,reduceIte,reduceCtorEq,xa1,xa2,xa3,xa4,q1,q2,fsv,B,I,TYv,RZ,eq_self,Tryz.results200]
 all_goals try(exfalso;omega)
 all_goals (simp only[InK];omega)
theorem gv(a b A B:Int)(a0:0≤a)(b0:0≤b)(hA:a≤A)(hB:b≤B):0≤a*b∧a*b≤A*B:=⟨Int.mul_nonneg a0 b0,Int.mul_le_mul hA hB b0 Ω⟩
structure Pl where
 n:Nat
 lo:Nat→Int
 hi:Nat→Int
 cut:Int
def rngs(n:Nat)(lo hi:Nat→Int):SV:=.arr false false n 2 (λi j=>.val (.int .i64 (if j=0 then lo i else hi i)))
def Pl.sv(p:Pl):SV:=.agg [rngs p.n p.lo p.hi,I p.cut]
theorem Pl.old(p:Pl):Old p.sv:=by simp[Old,OldL,Pl.sv,rngs,I]
def qgE(lo hi:Nat→Int)(m:Nat):Prop:=∀i,i<m→0≤lo i∧lo i≤hi i∧hi i≤1000000
instance(lo hi:Nat→Int)(m:Nat):Decidable (qgE lo hi m):=by unfold qgE;infer_instance
def Pl.err(p:Pl):Int:=if p.n<1∨8<p.n then 6 else if qgE p.lo p.hi p.n∧(0≤p.cut∧p.cut≤500)then 0 else 3
structure Pl.Fine(p:Pl):Prop where
 n1:1≤p.n
 n8:p.n≤8
 rg:qgE p.lo p.hi p.n
 c0:0≤p.cut
 c1:p.cut≤500
variable{p:Pl}
theorem Pl.fine(h:p.err=0):p.Fine:=by
 unfold Pl.err at h;split at h
 ·cases h
 ·rename_i h1
  split at h
  ·rename_i h2;exact⟨Ω,Ω,h2.1,h2.2.1,h2.2.2⟩
  ·cases h
theorem Pl.Fine.err(h:p.Fine):p.err=0:=by
 have:=h.n1;have:=h.n8;unfold Pl.err;rw[if_neg Ω,if_pos ⟨h.rg,h.c0,h.c1⟩]
def Kz(lo hi:Int):Prop:=hi<lo∨¬((0≤lo∧lo≤1000000)∧(0≤hi∧hi≤1000000))
instance(lo hi:Int):Decidable (Kz lo hi):=by unfold Kz;infer_instance
theorem qrq(lo hi:Int):qb Tryz.prog 299 [.agg [I lo,I hi]] (B (decide (Kz lo hi))):=by
 refine qc Tryz.func299 rfl Ωb follows Ωb _ _ (by rw[Tryz.ntmps299];simp) Ω5 ?_;unfold I B;repeat' first|refine sD ?_ ?_<;>intro _|refine aA ?_|simp -dsimp only[↓RP,RQ,xa0,reduceIte,reduceCtorEq,xa1,xa2,xa3,xa4,TYv,fsv,B,I,RZ,eq_self,Tryz.results299]
 ·rename_i h
  refine Zu ?_;symm;exact decide_eq_true (.inl h)
 ·refine qh (qoK lo hi 0 1000000) (by(simp -dsimp only[↓RP,RQ,xa0,reduceIte,reduceCtorEq,xa1,xa2,xa3,xa4,Go.Tv.ints,I]);all_goals (try simp);all_goals (try exact qqh _ _)) Ωc ?_
  repeat' first|refine sD ?_ ?_<;>intro _|refine aA ?_|simp -dsimp only[↓RP,RQ,xa0,reduceIte,reduceCtorEq,xa1,xa2,xa3,xa4,TYv,fsv,B,I,RZ,eq_self,Tryz.results299]
  all_goals (refine Zu ?_;rw[Bool.eq_iff_iff];simp[Kz];omega)
theorem qrr(m:Nat)(lo hi:Nat→Int)(hm:m≤1000000):qb Tryz.prog 358 [rngs m lo hi,.fn (.func 299) [] []] (I (zb (λi=>decide (Kz (lo i) (hi i))) 0 m)):=by
 refine qc Tryz.func358 rfl Ωb follows Ωb _ _ (by rw[Tryz.ntmps358];simp) (by simp[OldL,Old,rngs]) ?_;unfold rngs I;(repeat' first|refine sD ?_ ?_<;>intro _|refine aA ?_|simp -dsimp only[↓RP,RQ,xa0,reduceIte,reduceCtorEq,xa1,xa2,xa3,xa4,TYv,fsv,B,I,RZ,eq_self,Tryz.results358]);refine qo (λi=>i≤m∧zb (λi=>decide (Kz (lo i) (hi i))) 0 m=zb (λi=>decide (Kz (lo i) (hi i))) i (m - i)) (λi=>⟨[(0,.arr false false m 2 (λi j=>.val (.int .i64 (if j=0 then lo i else hi i)))),(1,.fn (.func 299) [] []),(7,.val (.int .i64 m)),(8,.val (.int .i64 i))],[],0⟩) (λi=>m - i) 0 ⟨xb6 _,rfl⟩ (weak [] [] ?_ ?_ ?_) λi hi=>?_
 ·(simp -dsimp only[↓RP,RQ,xa0,reduceIte,reduceCtorEq,xa1,xa2,xa3,xa4]);all_goals (try simp)
 ·(simp -dsimp only[↓RP,RQ,xa0,reduceIte,reduceCtorEq,xa1,xa2,xa3,xa4])
 ·(simp -dsimp only[↓RP,RQ,xa0,reduceIte,reduceCtorEq,xa1,xa2,xa3,xa4])
 obtain⟨hi,he⟩:=hi;rename_i hi';have e1:∀k,m - i=k+1→zb (λi=>decide (Kz (lo i) (hi' i))) i (m - i)=if decide (Kz (lo i) (hi' i))=true then(i:Int)else zb (λi=>decide (Kz (lo i) (hi' i))) (i+1) k:=λk hk=>by rw[hk];rfl
 repeat' first|refine sD ?_ ?_<;>intro _|refine aA ?_|simp -dsimp only[↓RP,RQ,xa0,reduceIte,reduceCtorEq,xa1,xa2,xa3,xa4,TYv,fsv,B,I,RZ,eq_self,Tryz.results358]
 ·rename_i hlt
  have e2:=e1 (m -(i+1)) Ω;refine qh (qrq (lo i) (hi' i)) (by(simp -dsimp only[↓RP,RQ,xa0,reduceIte,reduceCtorEq,xa1,xa2,xa3,xa4,I]);all_goals (try simp)) Ωc ?_;repeat' first|refine sD ?_ ?_<;>intro _|refine aA ?_|simp -dsimp only[↓RP,RQ,xa0,reduceIte,reduceCtorEq,xa1,xa2,xa3,xa4,TYv,fsv,B,I,RZ,eq_self,Tryz.results358]
  ·simp_all
  ·rename_i h1
   refine⟨i+1,⟨Ω,?_⟩,Ω,weak [] [] ?_ ?_ ?_⟩
   ·rw[he,e2,if_neg (by simp[h1])]
   ·(simp -dsimp only[↓RP,RQ,xa0,reduceIte,reduceCtorEq,xa1,xa2,xa3,xa4]);all_goals (try simp)
   ·(simp -dsimp only[↓RP,RQ,xa0,reduceIte,reduceCtorEq,xa1,xa2,xa3,xa4])
   ·(simp -dsimp only[↓RP,RQ,xa0,reduceIte,reduceCtorEq,xa1,xa2,xa3,xa4])
 ·rename_i hlt
  refine zO ?_;have:m - i=0:=by omega
  rw[he,this];rfl
theorem qjq(lo hi:Nat→Int)(m:Nat):zb (λi=>decide (Kz (lo i) (hi i))) 0 m<0↔qgE lo hi m:=by
 rw[vy];constructor
 ·intro h i hi'
  have:=h i Ω Ω;simp[Kz]at this;omega
 ·intro h j _ hj
  have:=h j Ω;simp[Kz];omega
theorem qrs(m:Nat)(lo hi:Nat→Int)(hm:m≤1000000):qb Tryz.prog 300 [rngs m lo hi,.fn (.func 299) [] []] (B (!decide (qgE lo hi m))):=by
 refine qc Tryz.func300 rfl Ωb follows Ωb _ _ (by rw[Tryz.ntmps300];simp) (by simp[OldL,Old,rngs]) ?_;unfold rngs B;(repeat' first|refine sD ?_ ?_<;>intro _|refine aA ?_|simp -dsimp only[↓RP,RQ,xa0,reduceIte,reduceCtorEq,xa1,xa2,xa3,xa4,TYv,fsv,B,I,RZ,eq_self,Tryz.results300]);refine qh (qrr m lo hi hm) (by(simp -dsimp only[↓RP,RQ,xa0,reduceIte,reduceCtorEq,xa1,xa2,xa3,xa4,rngs,I]);all_goals (try simp)) Ωi ?_;repeat' first|refine sD ?_ ?_<;>intro _|refine aA ?_|simp -dsimp only[↓RP,RQ,xa0,reduceIte,reduceCtorEq,xa1,xa2,xa3,xa4,TYv,fsv,B,I,RZ,eq_self,Tryz.results300]
 all_goals (refine Zu ?_;rw[Bool.eq_iff_iff];simp[←qjq])
theorem qrt(p:Pl):qb Tryz.prog 199 [p.sv] (I p.err):=by
 refine qc Tryz.func199 rfl Ωb follows Ωb _ _ (by rw[Tryz.ntmps199];simp) (by simp[OldL,p.old]) ?_;unfold I
 conv=>arg 4;unfold Pl.sv rngs I
 (repeat' first|refine sD ?_ ?_<;>intro _|refine aA ?_|simp -dsimp only[↓RP,RQ,xa0,reduceIte,reduceCtorEq,xa1,xa2,xa3,xa4,TYv,fsv,B,I,RZ,eq_self,Tryz.results199]);refine qh (wH p.n 1 8) Ωd Ωc ?_;repeat' first|refine sD ?_ ?_<;>intro _|refine aA ?_|simp -dsimp only[↓RP,RQ,xa0,reduceIte,reduceCtorEq,xa1,xa2,xa3,xa4,TYv,fsv,B,I,RZ,eq_self,Tryz.results199]
 rotate_left
 ·refine zO ?_;unfold Pl.err;rw[if_pos Ω]
 rename_i h1;refine qh (qrs p.n p.lo p.hi Ω) (by(simp -dsimp only[↓RP,RQ,xa0,reduceIte,reduceCtorEq,xa1,xa2,xa3,xa4,rngs]);all_goals (try simp)) Ωc ?_;repeat' first|refine sD ?_ ?_<;>intro _|refine aA ?_|simp -dsimp only[↓RP,RQ,xa0,reduceIte,reduceCtorEq,xa1,xa2,xa3,xa4,TYv,fsv,B,I,RZ,eq_self,Tryz.results199]
 ·rename_i h6
  refine qh (wH p.cut 0 500) Ωd Ωc ?_;repeat' first|refine sD ?_ ?_<;>intro _|refine aA ?_|simp -dsimp only[↓RP,RQ,xa0,reduceIte,reduceCtorEq,xa1,xa2,xa3,xa4,TYv,fsv,B,I,RZ,eq_self,Tryz.results199]
  all_goals first
   |(refine zO ?_;unfold Pl.err;rw[if_neg Ω,if_pos ⟨(by assumption),(by assumption)⟩])
   |(refine zO ?_;unfold Pl.err;rw[if_neg Ω,if_neg (λh=>by have:=h.2;omega)])
 ·rename_i h6
  refine zO ?_;unfold Pl.err;rw[if_neg Ω,if_neg (λh=>h6 h.1)]
def Pl.ask(p:Pl)(r:Int):Int:=if p.err=0 then(if r<0∨p.n≤r then 2 else 0)else p.err
theorem Pl.ask_iff{r:Int}:p.ask r=0↔p.err=0∧0≤r∧r<p.n:=by
 unfold Pl.ask;split
 ·omega
 ·omega
theorem c97(p:Pl)(r:Int):qb Tryz.prog 97 [p.sv,I r] (I (p.ask r)):=by
 refine qc Tryz.func97 rfl Ωb follows Ωb _ _ (by rw[Tryz.ntmps97];simp) (by simp[OldL,p.old];simp[Old,I]) ?_;unfold I
 conv=>arg 4;unfold Pl.sv rngs I
 (repeat' first|refine sD ?_ ?_<;>intro _|refine aA ?_|simp -dsimp only[↓RP,RQ,xa0,reduceIte,reduceCtorEq,xa1,xa2,xa3,xa4,TYv,fsv,B,I,RZ,eq_self,Tryz.results97]);refine qh (qrt p) Ωg Ωi ?_;by_cases h0:p.err=0
 ·rw[h0]
  repeat' first|refine sD ?_ ?_<;>intro _|refine aA ?_|simp -dsimp only[↓RP,RQ,xa0,reduceIte,reduceCtorEq,xa1,xa2,xa3,xa4,TYv,fsv,B,I,RZ,eq_self,Tryz.results97]
  all_goals first
   |(refine zO ?_;unfold Pl.ask;rw[if_pos h0,if_pos Ω];done)
   |(refine zO ?_;unfold Pl.ask;rw[if_pos h0,if_neg Ω];done)
   |(exfalso;omega)
 ·repeat' first|refine sD ?_ ?_<;>intro _|refine aA ?_|simp -dsimp only[↓RP,RQ,xa0,reduceIte,reduceCtorEq,xa1,xa2,xa3,xa4,TYv,fsv,B,I,RZ,eq_self,Tryz.results97]
  all_goals try(exfalso;omega)
  all_goals (refine zO ?_;unfold Pl.ask;rw[if_neg h0])
def oddV(own sum cut:Int):Fr:=red ⟨max 0 ((1000 - cut)*sum - 1000*own),1000*own⟩
def sumTo(u:Nat→Int):Nat→Int
 |0=>0
 |n+1=>sumTo u n+u n
theorem wc{u:Nat→Int}{A:Int}:∀{n:Nat},(∀i,i<n→0≤u i∧u i≤A)→0≤sumTo u n∧sumTo u n≤A*n
 |0,_=>by simp[sumTo]
 |n+1,h=>by
  have ih:=wc (n:=n) λi hi=>h i Ω;have:=h n Ω;have e:A*((n+1:Nat):Int)=A*n+A:=by grind
  simp only[sumTo];omega
theorem qjr{own sum cut:Int}(h1:1≤own)(h2:own≤1000000)(h3:0≤sum)(h4:sum≤20000000)(h5:0≤cut)(h6:cut≤500):0≤(1000 - cut)*sum∧(1000 - cut)*sum≤20000000000:=by
 have:=gv (1000 - cut) sum 1000 20000000 Ω h3 Ω h4;omega
theorem c98(own others cut:Int)(h1:1≤own)(h2:own≤1000000)(h3:0≤others)(h4:others≤19000000)(h5:0≤cut)(h6:cut≤500):qb Tryz.prog 98 [I own,I others,I cut] (fsv (oddV own (own+others) cut)):=by
 refine qc Tryz.func98 rfl Ωb follows Ωb _ _ (by rw[Tryz.ntmps98];simp) Ω5 ?_;have m1:=qjr (own:=own) (sum:=own+others) (cut:=cut) h1 h2 Ω Ω h5 h6
 conv=>arg 4;unfold I
 repeat' first|refine sD ?_ ?_<;>intro _|refine aA ?_|simp -dsimp only[↓RP,RQ,xa0,reduceIte,reduceCtorEq,xa1,xa2,xa3,xa4,TYv,fsv,B,I,RZ,eq_self,Tryz.results98]
 all_goals try(exfalso;omega)
 all_goals (refine qh (qoL ⟨max 0 ((1000 - cut)*(own+others) - 1000*own),1000*own⟩ (by show 0<1000*own;omega) (by show 1000*own≤_;omega) (by show _≤max 0 ((1000 - cut)*(own+others) - 1000*own);omega) (by show max 0 ((1000 - cut)*(own+others) - 1000*own)≤_;omega)) Ωd Ωa ?_)
 all_goals repeat' first|refine sD ?_ ?_<;>intro _|refine aA ?_|simp -dsimp only[↓RP,RQ,xa0,reduceIte,reduceCtorEq,xa1,xa2,xa3,xa4,oddV,TYv,fsv,B,I,RZ,eq_self,Tryz.results98]
 all_goals first|exact⟨rfl,rfl⟩|skip
theorem sumTo_one{u v:Nat→Int}{k:Nat}(h:∀i,i≠k→v i=u i):∀{n:Nat},sumTo v n=sumTo (λj=>if j=k then 0 else u j) n+(if k<n then v k else 0)
 |0=>by simp[sumTo]
 |n+1=>by
  simp only[sumTo];rw[sumTo_one (n:=n) h];by_cases e:n=k
  ·subst e
   simp
  ·grind
def Pl.few(p:Pl)(k i:Nat):Int:=if i=k then p.hi i else p.lo i
def Pl.many(p:Pl)(k i:Nat):Int:=if i=k then p.lo i else p.hi i
theorem Pl.few_sum(p:Pl)(hk:k<p.n):sumTo (p.few k) p.n=p.hi k+sumTo (λj=>if j=k then 0 else p.lo j) p.n:=by
 rw[sumTo_one (u:=p.lo) (v:=p.few k) (k:=k) λi hi=>by unfold Pl.few;rw[if_neg hi],if_pos hk];unfold Pl.few;rw[if_pos rfl];omega
theorem Pl.many_sum(p:Pl)(hk:k<p.n):sumTo (p.many k) p.n=p.lo k+sumTo (λj=>if j=k then 0 else p.hi j) p.n:=by
 rw[sumTo_one (u:=p.hi) (v:=p.many k) (k:=k) λi hi=>by unfold Pl.many;rw[if_neg hi],if_pos hk];unfold Pl.many;rw[if_pos rfl];omega
def Pl.spanOk(p:Pl)(k:Nat):Fr×Fr:=(oddV (p.hi k) (sumTo (p.few k) p.n) p.cut,oddV (p.lo k) (sumTo (p.many k) p.n) p.cut)
def Pl.span(p:Pl)(r:Int):(Fr×Fr)×Int:=
 if p.ask r=0 then(if p.lo r.toNat=0 then((⟨0,0⟩,⟨0,0⟩),20)else(p.spanOk r.toNat,0))else((⟨0,0⟩,⟨0,0⟩),p.ask r)
theorem Pl.span_no{r:Int}(h:¬p.ask r=0):p.span r=((⟨0,0⟩,⟨0,0⟩),p.ask r):=by unfold Pl.span;rw[if_neg h]
theorem Pl.span_20(h:p.ask k=0)(h2:p.lo k=0):p.span k=((⟨0,0⟩,⟨0,0⟩),20):=by unfold Pl.span;rw[if_pos h,Int.toNat_natCast,if_pos h2]
theorem Pl.span_0(h:p.ask k=0)(h2:¬p.lo k=0):p.span k=(p.spanOk k,0):=by unfold Pl.span;rw[if_pos h,Int.toNat_natCast,if_neg h2]
theorem qjs{u:Nat→Int}{n:Nat}(h:∀i,i<n→0≤u i∧u i≤1000000):0≤sumTo (λj=>if j=k then 0 else u j) n∧sumTo (λj=>if j=k then 0 else u j) n≤1000000*n:=
 wc λi hi=>by have:=h i hi;by_cases e:i=k<;>simp only[e,if_true,if_false]<;>first|omega|(have:=h k Ω;omega)|exact this
theorem c32(p:Pl)(r:Int):qb Tryz.prog 32 [p.sv,I r] (.tup [fsv (p.span r).1.1,fsv (p.span r).1.2,I (p.span r).2]):=by
 refine qc Tryz.func32 rfl Ωb follows Ωb _ _ (by rw[Tryz.ntmps32];simp) (by simp[OldL,p.old];simp[Old,I]) ?_;by_cases ha:p.ask r=0
 rotate_left
 ·rw[Pl.span_no ha]
  conv=>arg 4;unfold Pl.sv rngs I
  (repeat' first|refine sD ?_ ?_<;>intro _|refine aA ?_|simp -dsimp only[↓RP,RQ,xa0,reduceIte,reduceCtorEq,xa1,xa2,xa3,xa4,TYv,fsv,B,I,RZ,eq_self,Tryz.results32]);refine qh (c97 p r) Ωg Ωa ?_;repeat' first|refine sD ?_ ?_<;>intro _|refine aA ?_|simp -dsimp only[↓RP,RQ,xa0,reduceIte,reduceCtorEq,xa1,xa2,xa3,xa4,TYv,fsv,B,I,RZ,eq_self,Tryz.results32]
  all_goals try(exfalso;omega)
 have⟨he,hr0,hr1⟩:=Pl.ask_iff.1 ha;obtain⟨k,rfl⟩:∃k:Nat,r=k:=⟨r.toNat,Ω⟩;have hf:=Pl.fine he;have hk:k<p.n:=by omega
 have⟨hk0,hk1,hk2⟩:=hf.rg k hk;have hn8:=hf.n8
 conv=>arg 4;unfold Pl.sv rngs I
 (repeat' first|refine sD ?_ ?_<;>intro _|refine aA ?_|simp -dsimp only[↓RP,RQ,xa0,reduceIte,reduceCtorEq,xa1,xa2,xa3,xa4,TYv,fsv,B,I,RZ,eq_self,Tryz.results32]);refine qh (c97 p k) Ωg Ωa ?_;rw[ha];repeat' first|refine sD ?_ ?_<;>intro _|refine aA ?_|simp -dsimp only[↓RP,RQ,xa0,reduceIte,reduceCtorEq,xa1,xa2,xa3,xa4,TYv,fsv,B,I,RZ,eq_self,Tryz.results32]
 all_goals try(exfalso;omega)
 ·rename_i h0
  rw[Pl.span_20 ha h0]
  simp_all
 ·rename_i h0
  rw[Pl.span_0 ha h0];have hs1:=p.few_sum hk;have hs2:=p.many_sum hk;unfold Pl.spanOk;rw[hs1,hs2];refine qo (λi=>i≤p.n) (λi=>⟨[(1,.val (.int .i64 k)),(2,.ptr 0 0),(4,.ptr 1 0),(5,.ptr 2 0),(6,.val (.int .i64 0)),(8,.ptr 15 0),(9,.ptr 20 0),(31,.arr false false p.n 2 (λi j=>.val (.int .i64 (if j=0 then p.lo i else p.hi i)))),(32,.val (.int .i64 p.n)),(33,.val (.int .i64 i))],[(20,.cells 99 [.val (.int .i64 (sumTo (λj=>if j=k then 0 else p.lo j) i)),.val (.int .i64 (sumTo (λj=>if j=k then 0 else p.hi j) i))]),(15,.cells 99 [.val (.int .i64 (p.lo k)),.val (.int .i64 (p.hi k))]),(2,.cells 68 [.val (.int .i64 0),.val (.int .i64 0)]),(1,.cells 68 [.val (.int .i64 0),.val (.int .i64 0)]),(0,.cells 73 [.arr false false p.n 2 (λi j=>.val (.int .i64 (if j=0 then p.lo i else p.hi i))),.val (.int .i64 p.cut)])],25⟩) (λi=>p.n - i) 0 (xb6 _) (weak [] [] ?_ ?_ ?_) λi hi=>?_
  ·(simp -dsimp only[↓RP,RQ,xa0,reduceIte,reduceCtorEq,xa1,xa2,xa3,xa4]);all_goals (try simp)
  ·(simp -dsimp only[↓RP,RQ,xa0,reduceIte,reduceCtorEq,xa1,xa2,xa3,xa4,sumTo]);all_goals (try simp[sumTo])
  ·(simp -dsimp only[↓RP,RQ,xa0,reduceIte,reduceCtorEq,xa1,xa2,xa3,xa4]);all_goals (try simp)
  have b1:=qjs (u:=p.lo) (k:=k) (n:=i) λj hj=>by have:=hf.rg j Ω;omega
  have b2:=qjs (u:=p.hi) (k:=k) (n:=i) λj hj=>by have:=hf.rg j Ω;omega
  by_cases hlt:i<p.n
  ·have hui:=hf.rg i hlt
   repeat' first|refine sD ?_ ?_<;>intro _|refine aA ?_|simp -dsimp only[↓RP,RQ,xa0,reduceIte,reduceCtorEq,xa1,xa2,xa3,xa4,TYv,fsv,B,I,RZ,eq_self,Tryz.results32]
   all_goals try(exfalso;omega)
   all_goals (refine⟨i+1,Ω,Ω,weak [] [] ?_ ?_ ?_⟩)
   all_goals ((simp -dsimp only[↓RP,RQ,xa0,reduceIte,reduceCtorEq,xa1,xa2,xa3,xa4,sumTo]);all_goals (try simp[sumTo]))
   all_goals (try omega)
   all_goals (try (have:i=k:=by omega);simp[this])
  ·have e:i=p.n:=by omega
   subst e;repeat' first|refine sD ?_ ?_<;>intro _|refine aA ?_|simp -dsimp only[↓RP,RQ,xa0,reduceIte,reduceCtorEq,xa1,xa2,xa3,xa4,TYv,fsv,B,I,RZ,eq_self,Tryz.results32]
   all_goals try(exfalso;omega)
   refine qh (c98 (p.hi k) (sumTo (λj=>if j=k then 0 else p.lo j) p.n) p.cut Ω Ω b1.1 Ω hf.c0 hf.c1) Ωd Ωa ?_;repeat' first|refine sD ?_ ?_<;>intro _|refine aA ?_|simp -dsimp only[↓RP,RQ,xa0,reduceIte,reduceCtorEq,xa1,xa2,xa3,xa4,TYv,fsv,B,I,RZ,eq_self,Tryz.results32]
   all_goals try(exfalso;omega)
   refine qh (c98 (p.lo k) (sumTo (λj=>if j=k then 0 else p.hi j) p.n) p.cut Ω Ω b2.1 Ω hf.c0 hf.c1) Ωd Ωa ?_;repeat' first|refine sD ?_ ?_<;>intro _|refine aA ?_|simp -dsimp only[↓RP,RQ,xa0,reduceIte,reduceCtorEq,xa1,xa2,xa3,xa4,TYv,fsv,B,I,RZ,eq_self,Tryz.results32]
   all_goals first|exact⟨rfl,rfl⟩|exact⟨⟨rfl,rfl⟩,⟨rfl,rfl⟩⟩|exact⟨⟨rfl,rfl⟩,⟨rfl,rfl⟩,rfl⟩|skip
end Go.Tv
end
