/- A part of the proof. -/
import Derived.Test.YtacejomniokahaaGreatPI
import Derived.Test.YtacejomniokahaaGreatPF
import Derived.Test.YtacejomniokahaaGreatPC
import Derived.Test.YtacejomniokahaaGreatPE
open Nat renaming reduceMul→xa0,reduceAdd→xa1,reduceEqDiff→xa2,reduceLT→xa3,reduceLeDiff→xa4,le_refl→xa5,eq_of_beq_eq_true→xa6,le_of_ble_eq_true→xa7,mul_le_mul_right→xa8,zero_add→xb0,add_zero→xb1,add_assoc→xb2,lt_irrefl→xb4,lt_succ_self→xb5,zero_le→xb6,le_trans→xc1,le_succ→xc4
open List renaming getD_eq_getElem?_getD→xc6,getElem?_eq_getElem→xc7,length_append→xc8,getElem?_append_left→xc9,getElem?_append_right→xd0,mem_cons_self→xd5,getElem?_cons_succ→xd7,length_replicate→xd8,length_take→xd9,length_map→xe1,getElem?_toArray→xe2,length_cons→xe4
open Bool renaming and_eq_true→xe6,false_eq_true→xe7,or_false→xf3,false_or→xf4
open Array renaming getD_eq_getD_getElem?→xf5,length_toList→xf7
open Classical renaming byContradiction→xf9
open Option renaming map_some→xg1
set_option linter.unusedVariables false
set_option linter.unusedSimpArgs false
set_option linter.defProp false
set_option maxRecDepth 1000000
set_option maxHeartbeats 16000000
section
namespace Go.Sx
open Go.Proofs
open Go.RowKit Go.Tn
noncomputable section
variable{ρ:Q}
theorem Vh:∀(l:List (List Nat))(i:Nat)(t:Tr 4 Nat)(f:Tr 4 Nat→R),qbM l i t f=.ok ρ→∃t',f t'=.ok ρ
 |[],i,t,f,h=>⟨t,h⟩
 |a :: l,i,t,f,h=>by
  have h:zi (some 0) 22 t i (fun t=>qh (Nat.succ i) fun i=>qbM l i t f)=.ok ρ:=h;obtain⟨t1,_,h⟩:=qI _ _ _ _ h;rw[qe]at h;exact Vh l _ _ f h
theorem Kz:∀(l:List (List Nat))(i:Nat)(t:Tr 4 Nat)(f:Tr 4 Nat→Nat→R)(c:Nat),Wr l i t f c=.ok ρ→∃t' c',f t' c'=.ok ρ
 |[],i,t,f,c,h=>⟨t,c,h⟩
 |a :: l,i,t,f,c,h=>by
  have h:qh (Nat.succ i) (fun i1=>Option.rec (.bad 452 0) (fun x=>Nat.rec (qh (Zi t a) fun m=>Nat.rec (Wr l i1 t f c) (fun _ _=>qh (Nat.succ c) fun c=>zi (some m) 22 t i fun t=>Wr l i1 t f c) m) (fun _ _=>Wr l i1 t f c) x) (t.find i))=(.ok ρ:R):=h;rw[qe]at h;generalize t.find i=o at h;cases o with
  |none=>cases h
  |some x=>
   cases x with
   |succ y=>exact Kz l _ _ f _ h
   |zero=>
    have h:qh (Zi t a) (fun m=>Nat.rec (Wr l (Nat.succ i) t f c) (fun _ _=>qh (Nat.succ c) fun c=>zi (some m) 22 t i fun t=>Wr l (Nat.succ i) t f c) m)=(.ok ρ:R):=h;rw[qe]at h;generalize Zi t a=m at h;cases m with
    |zero=>exact Kz l _ _ f _ h
    |succ m=>
     have h:qh (Nat.succ c) (fun c=>zi (some (m+1)) 22 t i fun t=>Wr l (Nat.succ i) t f c)=(.ok ρ:R):=h;rw[qe]at h;obtain⟨t1,_,h⟩:=qI _ _ _ _ h;exact Kz l _ _ f _ h
theorem qdx(l:List (List Nat)):∀(n:Nat)(t:Tr 4 Nat)(f:Tr 4 Nat→R),qmP l n t f=.ok ρ→∃t',f t'=.ok ρ
 |0,t,f,h=>by cases h
 |n+1,t,f,h=>by
  have h:Wr l 0 t (fun t c=>Nat.rec (f t) (fun _ _=>qmP l n t f) c) 0=(.ok ρ:R):=h;obtain⟨t',c',h⟩:=Kz _ _ _ _ _ h;cases c' with
  |zero=>exact⟨t',h⟩
  |succ c=>exact qdx l n _ f h
def Jr(x:Nat):Int:=(x:Int) - 1
theorem qlb(x:Nat):qfb x=.val (.int .i64 (Jr x)):=by
 cases x with
 |zero=>rfl
 |succ y=>
  show SV.val (.int .i64 (Int.ofNat y))=_;have e:Jr (y+1)=Int.ofNat y:=by unfold Jr;show((y+1:Nat):Int) - 1=(y:Int);omega
  rw[e]
def FF(t:Tr 4 Nat)(i:Nat):Int:=Jr ((t.find i).getD 0)
def Ws(t:Tr 4 Nat)(l:List Nat)(m:Nat):Nat:=List.rec (motive:=fun _=>Nat→Nat) (fun m=>m) (fun a _ ih m=>Option.rec 0 (fun x=>Nat.rec 0 (fun y _=>qh (Nat.max m (Nat.succ x)) fun m=>ih m) x) (t.find a)) l m
theorem qmT(t:Tr 4 Nat)(l:List Nat):Zi t l=Ws t l 1:=rfl
theorem Vi(t:Tr 4 Nat)(a:Nat)(l:List Nat)(m:Nat):Ws t (a :: l) m=if 0≤FF t a then Ws t l (max m ((FF t a).toNat+2))else 0:=by
 show(Option.rec 0 (fun x=>Nat.rec 0 (fun y _=>qh (Nat.max m (Nat.succ x)) fun m=>Ws t l m) x) (t.find a):Nat)=_;unfold FF Jr;generalize t.find a=o;cases o with
 |none=>rw[if_neg ΩB]
 |some x=>
  cases x with
  |zero=>rw[if_neg ΩB];rfl
  |succ y=>
   rw[if_pos (by show(0:Int)≤((y+1:Nat):Int) - 1;omega)];show qh (Nat.max m (y+1+1)) (fun m=>Ws t l m)=_;rw[qe];have e:(((some (y+1)).getD 0:Nat) - 1:Int).toNat=y:=by
    show(((y+1:Nat):Int) - 1).toNat=y;omega
   rw[e]
theorem Vj(t:Tr 4 Nat):∀(l:List Nat)(m:Nat),(∃a,a∈l∧FF t a<0)→Ws t l m=0
 |[],m,⟨a,h,_⟩=>by cases h
 |b :: l,m,⟨a,h,hn⟩=>by
  rw[Vi];split
  ·rename_i h0
   rcases List.mem_cons.1 h with rfl|h
   ·omega
   ·exact Vj t l _ ⟨a,h,hn⟩
  ·rfl
theorem Vk(t:Tr 4 Nat):∀(l:List Nat)(m:Nat),(∀a,a∈l→0≤FF t a)→m≤Ws t l m∧(∀a,a∈l→FF t a+2≤Ws t l m)∧∀X:Nat,m≤X→(∀a,a∈l→FF t a+2≤X)→Ws t l m≤X
 |[],m,_=>⟨xa5 _,fun a h=>(by cases h),fun X h _=>h⟩
 |b :: l,m,h=>by
  have h0:=h b xd5;rw[Vi,if_pos h0];have⟨h1,h2,h3⟩:=Vk t l (max m ((FF t b).toNat+2)) fun a ha=>h a (List.mem_cons_of_mem _ ha);refine⟨Ω,fun a ha=>?_,fun X hX hA=>h3 X ?_ fun a ha=>hA a (List.mem_cons_of_mem _ ha)⟩
  ·rcases List.mem_cons.1 ha with rfl|ha
   ·omega
   ·exact h2 a ha
  ·have:=hA b xd5;omega
theorem GE{F:Nat→Int}{to:Nat→Nat}{X:Int}(hX:0≤X):∀{m:Nat},(∀j,j<m→F (to j)+1≤X)→mxF F to m≤X
 |0,_=>hX
 |m+1,h=>by
  have h1:=GE hX (m:=m) fun j hj=>h j Ω;have h2:=h m Ω;rw[Q0];omega
theorem J5{F:Nat→Int}{to:Nat→Nat}:∀{m:Nat},0≤mxF F to m
 |0=>Int.le_refl _
 |m+1=>by have:=J5 (F:=F) (to:=to) (m:=m);rw[Q0];omega
theorem Y5{t:Tr 4 Nat}{l:List Nat}{i:Nat}(h:(t.find i).getD 0=Zi t l):(0≤FF t i↔∀j,j<l.length→0≤FF t (l.getD j 0))∧(0≤FF t i→FF t i=mxF (FF t) (fun j=>l.getD j 0) l.length):=by
 have hF:FF t i=(Zi t l:Int) - 1:=by unfold FF Jr;rw[h]
 rw[qmT]at hF;have mem:∀j,j<l.length→l.getD j 0∈l:=fun j hj=>by
  rw[xc6,xc7 hj];exact List.getElem_mem _
 have idx:∀a,a∈l→∃j,j<l.length∧l.getD j 0=a:=fun a ha=>by
  obtain⟨j,hj,e⟩:=List.getElem_of_mem ha;exact⟨j,hj,by rw[xc6,xc7 hj];exact e⟩
 by_cases hA:∀a,a∈l→0≤FF t a
 ·have⟨h1,h2,h3⟩:=Vk t l 1 hA
  refine⟨⟨fun _ j hj=>hA _ (mem j hj),fun _=>by omega⟩,fun _=>?_⟩;have le1:mxF (FF t) (fun j=>l.getD j 0) l.length≤FF t i:=GE Ω fun j hj=>by
   have:=h2 _ (mem j hj);omega
  have hm0:=J5 (F:=FF t) (to:=fun j=>l.getD j 0) (m:=l.length);have le2:=h3 (mxF (FF t) (fun j=>l.getD j 0) l.length+1).toNat Ω fun a ha=>by
   obtain⟨j,hj,e⟩:=idx a ha;have:=qhA (F:=FF t) (to:=fun j=>l.getD j 0) hj;simp only[e]at this;omega
  omega
 ·have hn:∃a,a∈l∧FF t a<0:=by
   refine xf9 fun hc=>hA fun a ha=>?_;refine xf9 fun h0=>hc ⟨a,ha,Ω⟩
  have e:=Vj t l 1 hn;rw[e]at hF;obtain⟨a,ha,hneg⟩:=hn;obtain⟨j,hj,e2⟩:=idx a ha;refine⟨⟨fun h0=>by omega,fun h0=>?_⟩,fun h0=>by omega⟩;have:=h0 j hj;rw[e2]at this;omega
def ltK(N:Nat)(l:List Nat)(r:R):R:=List.rec r (fun a _ ih=>qg 480 (Nat.ble (Nat.succ a) N) ih) l
theorem Wt{N:Nat}{r:R}:∀{l:List Nat},ltK N l r=.ok ρ→r=.ok ρ∧∀a,a∈l→a<N
 |[],h=>⟨h,fun a ha=>by cases ha⟩
 |a :: l,h=>by
  have h:qg 480 (Nat.ble (Nat.succ a) N) (ltK N l r)=.ok ρ:=h;obtain⟨h1,h⟩:=qa h;obtain⟨h2,h3⟩:=Wt h;exact⟨h2,fun b hb=>by
   rcases List.mem_cons.1 hb with rfl|hb
   ·exact xa7 h1
   ·exact h3 b hb⟩
def qlc(t:Tr 4 Nat)(N:Nat)(L:List (List Nat))(i:Nat)(r:R):R:=List.rec (motive:=fun _=>Nat→R) (fun _=>r) (fun a _ ih i=>qh (Zi t a) fun m=>qg 481 (Nat.ble m 1000000) (Option.rec (.bad 482 0) (fun x=>qg 483 (Nat.beq x m) (ltK N a (qh (Nat.succ i) fun i=>ih i))) (t.find i))) L i
theorem qdy{t:Tr 4 Nat}{N:Nat}{r:R}:∀{L:List (List Nat)}{i:Nat},qlc t N L i r=.ok ρ→r=.ok ρ∧∀j,j<L.length→(t.find (i+j)).getD 0=Zi t (L.getD j [])∧Zi t (L.getD j [])≤1000000∧∀a,a∈L.getD j []→a<N
 |[],i,h=>⟨h,fun j hj=>by cases hj⟩
 |a :: L,i,h=>by
  have h:qh (Zi t a) (fun m=>qg 481 (Nat.ble m 1000000) (Option.rec (.bad 482 0) (fun x=>qg 483 (Nat.beq x m) (ltK N a (qh (Nat.succ i) fun i=>qlc t N L i r))) (t.find i)))=(.ok ρ:R):=h;rw[qe]at h;obtain⟨h1,h⟩:=qa h;cases hf:t.find i with
  |none=>rw[hf]at h;cases h
  |some x=>
   rw[hf]at h;have h:qg 483 (Nat.beq x (Zi t a)) (ltK N a (qh (Nat.succ i) fun i=>qlc t N L i r))=.ok ρ:=h;obtain⟨h2,h⟩:=qa h;obtain⟨h,h3⟩:=Wt h;rw[qe]at h;obtain⟨h,h4⟩:=qdy h;refine⟨h,fun j hj=>?_⟩;cases j with
   |zero=>exact⟨by rw[xb1,hf];exact xa6 h2,xa7 h1,h3⟩
   |succ j=>
    have:=h4 j (Nat.lt_of_succ_lt_succ hj);rw[show i+(j+1)=Nat.succ i+j by omega];exact this
theorem Y6{t:Tr 4 Nat}:∀{L:List (List Nat)}{i:Nat}{f:List SV→R},qdv t L i f=.ok ρ→∃m,f m=.ok ρ∧m.length=L.length∧∀j,j<L.length→m.getD j .top=.val (.int .i64 (FF t (i+j)))
 |[],i,f,h=>⟨[],h,rfl,fun j hj=>by cases hj⟩
 |a :: L,i,f,h=>by
  have h:qh (Nat.succ i) (fun i1=>Option.rec (.bad 454 0) (fun x=>qh x fun x=>qdv t L i1 fun m=>f (qfb x :: m)) (t.find i))=(.ok ρ:R):=h;rw[qe]at h;cases hf:t.find i with
  |none=>rw[hf]at h;cases h
  |some x=>
   rw[hf]at h;have h:qh x (fun x=>qdv t L (Nat.succ i) fun m=>f (qfb x :: m))=(.ok ρ:R):=h;rw[qe]at h;obtain⟨m,h1,h2,h3⟩:=Y6 h;refine⟨qfb x :: m,h1,by simp[h2],fun j hj=>?_⟩;cases j with
   |zero=>
    show qfb x=_;rw[qlb,xb1];unfold FF;rw[hf];rfl
   |succ j=>
    show m.getD j .top=_;rw[h3 j (Nat.lt_of_succ_lt_succ hj),show i+(j+1)=Nat.succ i+j by omega]
theorem G4{t:Tr 4 Nat}:∀{es:List (Value×Option SV)}{f:List (Value×Option SV)→R},qdw t es f=.ok ρ→f (es.filter fun p=>decide ((t.find (qfc p.1)).getD 0=0))=.ok ρ
 |[],f,h=>h
 |p :: es,f,h=>by
  have h:qh (qfc p.1) (fun i=>Option.rec (.bad 455 0) (fun x=>Nat.rec (qdw t es fun l=>f (p :: l)) (fun _ _=>qdw t es f) x) (t.find i))=(.ok ρ:R):=h;rw[qe]at h;cases hf:t.find (qfc p.1)with
  |none=>rw[hf]at h;cases h
  |some x=>
   rw[hf]at h;cases x with
   |zero=>
    have h:=G4 (f:=fun l=>f (p :: l)) h;rw[List.filter_cons_of_pos (by rw[hf];rfl)];exact h
   |succ y=>
    have h:=G4 (f:=f) h;rw[List.filter_cons_of_neg (by rw[hf];simp)];exact h
def Y7(l:List SV)(f:List Nat→R):R:=(List.rec (motive:=fun _=>(List Nat→R)→R) (fun f=>f []) (fun a _ ih f=>match a with
 |.val (.int .i64 (.ofNat n))=>ih fun l=>f (n :: l)
 |_=>.bad 484 0) l) f
theorem Zj:∀{l:List SV}{f:List Nat→R},Y7 l f=.ok ρ→∃m,f m=.ok ρ∧m.length=l.length∧∀j,j<l.length→l.getD j .top=.val (.int .i64 (m.getD j 0:Nat))
 |[],f,h=>⟨[],h,rfl,fun j hj=>by cases hj⟩
 |a :: l,f,h=>by
  have h:(match (generalizing:=false) a with
   |.val (.int .i64 (.ofNat n))=>Y7 l fun l=>f (n :: l)
   |_=>.bad 484 0)=(.ok ρ:R):=h
  split at h
  ·rename_i n _
   obtain⟨m,h1,h2,h3⟩:=Zj h;refine⟨n :: m,h1,by simp[h2],fun j hj=>?_⟩;cases j with
   |zero=>rfl
   |succ j=>exact h3 j (Nat.lt_of_succ_lt_succ hj)
  ·cases h
def qdz(hp:Tr 6 XB)(rid:Nat)(a:SV)(g:List Nat→R):R:=match a with
 |.val (.slice none 0 0)=>g []
 |.vec xi n 1=>(match hp.find xi with
  |some (.rows 3 1 n' l)=>qg 485 (Nat.beq n n') (qg 486 (Nat.ble n 5) (qg 487 (Bool.not (Nat.beq xi rid)) (Y7 l g)))
  |_=>.bad 488 0)
 |_=>.bad 489 0
theorem qiS{hp:Tr 6 XB}{rid:Nat}{a:SV}{g:List Nat→R}(h:qdz hp rid a g=.ok ρ):∃m,g m=.ok ρ∧((a=.val (.slice none 0 0)∧m=[])∨∃xi n l,a=.vec xi n 1∧n≤5∧xi≠rid∧hp.find xi=some (.rows 3 1 n l)∧m.length=l.length∧∀j,j<l.length→l.getD j .top=.val (.int .i64 (m.getD j 0:Nat))):=by
 unfold qdz at h;split at h
 ·exact⟨[],h,.inl ⟨rfl,rfl⟩⟩
 ·rename_i xi n
  split at h
  ·rename_i n' l hf
   obtain⟨h1,h⟩:=qa h;obtain⟨h2,h⟩:=qa h;obtain⟨h3,h⟩:=qa h;obtain⟨m,h4,h5,h6⟩:=Zj h;have e:=xa6 h1;subst e;refine⟨m,h4,.inr ⟨xi,n,l,rfl,xa7 h2,fun e=>?_,hf,h5,h6⟩⟩;rw[e]at h3;have:Nat.beq rid rid=true:=Nat.beq_refl _;rw[this]at h3;cases h3
  ·cases h
 ·cases h
def G5(hp:Tr 6 XB)(rid:Nat)(xs:List SV)(f:List (List Nat)→R):R:=(List.rec (motive:=fun _=>(List (List Nat)→R)→R) (fun f=>f []) (fun a _ ih f=>qdz hp rid a fun x=>ih fun l=>f (x :: l)) xs) f
theorem yz{hp:Tr 6 XB}{rid:Nat}:∀{xs:List SV}{f:List (List Nat)→R},G5 hp rid xs f=.ok ρ→∃L,f L=.ok ρ∧L.length=xs.length∧∀i,i<xs.length→((xs.getD i .top=.val (.slice none 0 0)∧L.getD i []=[])∨∃xi n l,xs.getD i .top=.vec xi n 1∧n≤5∧xi≠rid∧hp.find xi=some (.rows 3 1 n l)∧(L.getD i []).length=l.length∧∀j,j<l.length→l.getD j .top=.val (.int .i64 ((L.getD i []).getD j 0:Nat)))
 |[],f,h=>⟨[],h,rfl,fun j hj=>by cases hj⟩
 |a :: xs,f,h=>by
  have h:qdz hp rid a (fun x=>G5 hp rid xs fun l=>f (x :: l))=.ok ρ:=h;obtain⟨m,h,h1⟩:=qiS h;obtain⟨L,h,h2,h3⟩:=yz h;refine⟨m :: L,h,by simp[h2],fun i hi=>?_⟩;cases i with
  |zero=>exact h1
  |succ i=>exact h3 i (Nat.lt_of_succ_lt_succ hi)
def qiT(l:List SV)(r:R):R:=List.rec r (fun a _ ih=>match a with
 |.val (.int .i64 (.negSucc 0))=>ih
 |_=>.bad 490 0) l
theorem Y8{r:R}:∀{l:List SV},qiT l r=.ok ρ→r=.ok ρ∧∀j,j<l.length→l.getD j .top=.val (.int .i64 (-1))
 |[],h=>⟨h,fun j hj=>by cases hj⟩
 |a :: l,h=>by
  have h:(match (generalizing:=false) a with
   |.val (.int .i64 (.negSucc 0))=>qiT l r
   |_=>.bad 490 0)=(.ok ρ:R):=h
  split at h
  ·obtain⟨h1,h2⟩:=Y8 h
   refine⟨h1,fun j hj=>?_⟩;cases j with
   |zero=>rfl
   |succ j=>exact h2 j (Nat.lt_of_succ_lt_succ hj)
  ·cases h
def qld(p:Value×Option SV)(i:Nat)(r:R):R:=match p with
 |(.agg c,some _)=>(match c.toList with
  |[.int .i64 _,.int .i64 _,.int .i64 _,.int .i64 _,.int .i64 _,.int .i64 (.ofNat n)]=>qg 491 (Nat.beq (Nat.succ n) i) r
  |_=>.bad 492 0)
 |_=>.bad 493 0
theorem qle{p:Value×Option SV}{i:Nat}{r:R}(h:qld p i r=.ok ρ):r=.ok ρ∧0<i∧∃f s,p=(kp f (i - 1),some s):=by
 unfold qld at h;split at h
 ·rename_i c s
  split at h
  ·rename_i a b c' d e n hc
   obtain⟨h1,h9⟩:=qa h;have e1:=xa6 h1;subst e1;refine⟨h9,Nat.succ_pos _,fun j=>if j=0 then a else if j=1 then b else if j=2 then c' else if j=3 then d else e,s,?_⟩;have:c = #[.int .i64 a,.int .i64 b,.int .i64 c',.int .i64 d,.int .i64 e,.int .i64 (.ofNat n)]:=by
    apply Array.toList_inj.1;rw[hc]
   rw[this];rfl
  ·cases h
 ·cases h
def qiU(es:List (Value×Option SV))(i:Nat)(r:R):R:=List.rec (motive:=fun _=>Nat→R) (fun _=>r) (fun p _ ih i=>qld p i (qh (Nat.pred i) fun i=>ih i)) es i
theorem Y9{r:R}:∀{es:List (Value×Option SV)}{i:Nat},qiU es i r=.ok ρ→r=.ok ρ∧∀j,j<es.length→j<i∧∃f s,es[j]? = some (kp f (i - 1 - j),some s)
 |[],i,h=>⟨h,fun j hj=>by cases hj⟩
 |p :: es,i,h=>by
  have h:qld p i (qh (Nat.pred i) fun i=>qiU es i r)=.ok ρ:=h;obtain⟨h,h0,f,s,h1⟩:=qle h;rw[qe]at h;obtain⟨h,h2⟩:=Y9 h;refine⟨h,fun j hj=>?_⟩;cases j with
  |zero=>exact⟨h0,f,s,by rw[h1];rfl⟩
  |succ j=>
   obtain⟨h4,f,s,h3⟩:=h2 j (Nat.lt_of_succ_lt_succ hj);have h4:j<i - 1:=h4;exact⟨Ω,f,s,by rw[xd7,h3,show i - 1 -(j+1)=Nat.pred i - 1 - j by show i - 1 -(j+1)=i - 1 - 1 - j;omega]⟩
structure Uq(es:List (Value×Option SV)):Prop where
 key:∀p,p∈es→∃f n s,p=(kp f n,some s)
 pw:es.Pairwise fun p q=>zG p.1≠zG q.1
theorem ya:∀{es:List (Value×Option SV)}(h:Uq es){v:Value}{s:SV},vp es v=some s↔(v,some s)∈es
 |[],_,v,s=>⟨fun h=>(by cases h),fun h=>(by cases h)⟩
 |p :: es,h,v,s=>by
  obtain⟨f,n,s',rfl⟩:=h.key p xd5;have h2:=List.pairwise_cons.1 h.pw;have ih:=ya (es:=es) ⟨fun q hq=>h.key q (List.mem_cons_of_mem _ hq),h2.2⟩ (v:=v) (s:=s);rw[vY];split
  ·rename_i he
   have e:=eqK_kp.1 he;subst e;constructor
   ·intro e
    have e:some s'=some s:=e;rw[e];exact xd5
   ·intro hm
    rcases List.mem_cons.1 hm with e|hm
    ·exact(congrArg Prod.snd e).symm
    ·exact(h2.1 _ hm rfl).elim
  ·rename_i he
   rw[ih,List.mem_cons];constructor
   ·exact .inr
   ·rintro(e|e)
    ·exact absurd (eqK_kp.2 (congrArg Prod.fst e)) he
    ·exact e
theorem Uq.isSome{es:List (Value×Option SV)}(h:Uq es){v:Value}:(vp es v).isSome=true↔∃s,(v,some s)∈es:=by
 constructor
 ·intro hs
  obtain⟨s,e⟩:=Option.isSome_iff_exists.1 hs;exact⟨s,(ya h).1 e⟩
 ·rintro⟨s,e⟩
  rw[(ya h).2 e];rfl
theorem Uq.of{es:List (Value×Option SV)}(h:∀j,j<es.length→∃f s,es[j]? = some (kp f (es.length - 1 - j),some s)):Uq es:=by
 refine⟨fun p hp=>?_,?_⟩
 ·obtain⟨j,hj,e⟩:=List.getElem_of_mem hp
  obtain⟨f,s,e2⟩:=h j hj;rw[xc7 hj,e]at e2;exact⟨f,_,s,Option.some.inj e2⟩
 ·rw[List.pairwise_iff_getElem]
  intro i j hi hj hij;obtain⟨f,s,e⟩:=h i hi;obtain⟨g,u,e2⟩:=h j hj;rw[xc7 hi]at e;rw[xc7 hj]at e2;rw[Option.some.inj e,Option.some.inj e2,gW,gW];omega
def qiV(args:List SV)(hp:Tr 6 XB)(nid:Nat)(k:SV→Tr 6 XB→Nat→R):R:=
 match args with
 |[.ptr tb 0]=>(match hp.find tb with
  |some (.cells 253 [_,_,.vec xid n 1,.vec rid n' 1,.mp mid])=>(match hp.find xid,hp.find rid,hp.find mid with
   |some (.rows 22 1 n1 xs),some (.rows 3 1 n2 rs),some (.map true [.i .i64,.i .i64,.i .i64,.i .i64,.i .i64,.i .i64] es)=>
    qg 494 (Nat.beq n' n) (qg 495 (Nat.beq n1 n) (qg 496 (Nat.beq n2 n) (qg 497 (Nat.ble n 100000) (qg 498 (Nat.beq es.length n) (qiT rs (G5 hp rid xs fun L=>qbM L 0 .nil fun t=>qmP L (L.length+2) t fun t=>qlc t n L 0 (qiU es n (qdv t L 0 fun rs=>qdw t es fun es=>
     zi (some (.rows 3 1 n rs)) 22 hp rid fun hp=>zi (some (.map true [.i .i64,.i .i64,.i .i64,.i .i64,.i .i64,.i .i64] es)) 22 hp mid fun hp=>k (.tup []) hp nid))))))))
   |_,_,_=>.bad 456 0)
  |_=>.bad 457 0)
 |_=>.bad 458 0
theorem qiW:ZZ Tryz.prog 163 qiV:=by
 intro ρ LM O args hp k st K hH h hk;unfold qiV at h;split at h
 ·rename_i tb
  split at h
  ·rename_i A Z xid N rid n' mid hft
   split at h
   ·rename_i n1 xs n2 rs es hfx hfr hfm
    obtain⟨a1,h⟩:=qa h;obtain⟨a2,h⟩:=qa h;obtain⟨a3,h⟩:=qa h;obtain⟨a4,h⟩:=qa h;obtain⟨a5,h⟩:=qa h;have e1:=xa6 a1;have e2:=xa6 a2;have e3:=xa6 a3;have hN:=xa7 a4;have hL:=xa6 a5;subst e1 e2 e3;obtain⟨h,b1⟩:=Y8 h;obtain⟨L,h,b2,b3⟩:=yz h;obtain⟨t0,h⟩:=Vh _ _ _ _ h;obtain⟨t,h⟩:=qdx _ _ _ _ h;obtain⟨h,b4⟩:=qdy h;obtain⟨h,b5⟩:=Y9 h;obtain⟨rs',h,b6,b7⟩:=Y6 h;have h:=G4 h;obtain⟨hp1,p1,h⟩:=qI _ _ _ _ h;obtain⟨hp2,p2,h⟩:=qI _ _ _ _ h;obtain⟨rowx,hbx,lx,gx⟩:=hH.rows hfx;obtain⟨rowr,hbr,lr,gr⟩:=hH.rows hfr;obtain⟨dom,get,hbm,hd⟩:=hH.map hfm;have hbt:=hH.cells hft;have uq:Uq es:=Uq.of fun j hj=>by rw[hL];exact(b5 j hj).2
    have hdm:∀v,dom v=true↔∃s,(v,some s)∈es:=fun v=>by rw[(hd v).1];exact uq.isSome
    have hidx:∀v,dom v=true→zG v<n2∧∃f,v=kp f (zG v)∧∃s,es[n2 - 1 - zG v]? = some (v,some s):=fun v hv=>by
     obtain⟨s,hm⟩:=(hdm v).1 hv;obtain⟨j,hj,e⟩:=List.getElem_of_mem hm;obtain⟨_,f,s2,e2⟩:=b5 j hj;rw[xc7 hj,e]at e2;have e3:=congrArg Prod.fst (Option.some.inj e2);have e3:v=kp f (n2 - 1 - j):=e3;subst e3;rw[gW];exact⟨Ω,f,rfl,s,by rw[show n2 - 1 -(n2 - 1 - j)=j by omega,xc7 hj,e]⟩
    intro base okc ns r outs a w vs hI hlen hv;have keys:=hI.keys;have b3':∀i,i<n2→((L.getD i []).length=0∧rowx i 0=.val (.slice none 0 0))∨∃xi r,rowx i 0=.vec xi (L.getD i []).length 1∧(L.getD i []).length≤5∧blk st.hp xi=some (.rows 3 1 (L.getD i []).length r)∧(xi≠tb∧xi≠xid∧xi≠rid∧xi≠mid∧xi<st.nid)∧∀j,j<(L.getD i []).length→r j 0=.val (.int .i64 ((L.getD i []).getD j 0:Nat)):=fun i hi=>by
     have gxi:=gx i 0 hi Ω;rw[Nat.mul_one,xb1]at gxi;rcases b3 i Ω with⟨c1,c2⟩|⟨xi,n,l,c1,c2,c3,c4,c5,c6⟩
     ·exact .inl ⟨by rw[c2];rfl,by rw[gxi,c1]⟩
     ·obtain⟨r,d1,d2,d3⟩:=hH.rows c4
      have el:(L.getD i []).length=n:=by omega
      refine .inr ⟨xi,r,by rw[gxi,c1,el],Ω,by rw[d1,el],⟨fun e=>?_,fun e=>?_,c3,fun e=>?_,keys _ _ d1⟩,fun j hj=>?_⟩
      ·rw[e,hbt]at d1;cases d1
      ·rw[e,hbx]at d1;cases d1
      ·rw[e,hbm]at d1;cases d1
      ·rw[d3 j 0 Ω Ω,Nat.mul_one,xb1]
       exact c6 j Ω
    have b4':∀i,i<n2→(t.find i).getD 0=Zi t (L.getD i [])∧Zi t (L.getD i [])≤1000000∧∀a,a∈L.getD i []→a<n2:=fun i hi=>by
     have:=b4 i Ω
     rwa [xb0]at this
    have hl:Hl n2 (fun i=>(L.getD i []).length) (fun i j=>(L.getD i []).getD j 0) (FF t) dom rowx st.hp st.nid tb xid rid mid:=by
     refine⟨⟨fun i hi=>?_,fun i hi=>?_,fun i j hi hj=>?_,fun i hi=>(Y5 (b4' i hi).1).1,fun i hi=>(Y5 (b4' i hi).1).2⟩,hN,fun i hi=>?_,fun v hv=>?_,fun v v' h1 h2 h3=>?_,fun i hi=>?_,fun i hi=>?_,keys _ _ hbt,keys _ _ hbx,keys _ _ hbr,keys _ _ hbm,?_,?_,?_,?_,?_,?_,fun k x hx=>keys k x hx⟩
     ·unfold FF Jr;omega
     ·have⟨c1,c2,_⟩:=b4' i hi
      unfold FF Jr;rw[c1];omega
     ·refine(b4' i hi).2.2 _ ?_
      have hj:j<(L.getD i []).length:=hj;show(L.getD i []).getD j 0∈L.getD i [];rw[xc6 (l:=L.getD i []),xc7 hj];exact List.getElem_mem _
     ·rcases b3' i hi with⟨c1,_⟩|⟨_,_,_,c1,_⟩
      ·show(L.getD i []).length≤5
       omega
      ·exact c1
     ·obtain⟨c1,f,c2,_⟩:=hidx v hv
      exact⟨f,zG v,c1,c2⟩
     ·obtain⟨_,_,_,s,c1⟩:=hidx v h1
      obtain⟨_,_,_,s',c2⟩:=hidx v' h2;rw[h3,c2]at c1;exact(congrArg Prod.fst (Option.some.inj c1)).symm
     ·obtain⟨_,f,s,c1⟩:=b5 (n2 - 1 - i) Ω
      rw[show n2 - 1 -(n2 - 1 - i)=i by omega]at c1;exact⟨kp f i,(hdm _).2 ⟨s,List.mem_of_getElem? c1⟩,gW f i⟩
     ·rcases b3' i hi with c|⟨xi,r,c1,c2,c3,c4,c5⟩
      ·exact .inl c
      ·exact .inr ⟨xi,r,c1,c3,c4,c5⟩
     ·rintro rfl;rw[hbt]at hbx;cases hbx
     ·rintro rfl;rw[hbt]at hbr;cases hbr
     ·rintro rfl;rw[hbt]at hbm;cases hbm
     ·rintro rfl;rw[hbx]at hbr;cases hbr
     ·rintro rfl;rw[hbx]at hbm;cases hbm
     ·rintro rfl;rw[hbr]at hbm;cases hbm
    have E:=qnV n2 _ _ (FF t) dom get A Z rowx rowr st.hp st.nid tb xid rid mid hl (fun i hi=>by
     rw[gr i 0 hi Ω,Nat.mul_one,xb1];exact b1 i Ω)
    have E2:=EffVC.sub (hp:=st.hp) (fun id x hx=>by
     simp only[blk]at hx;split at hx
     ·rename_i e;subst e;cases hx;exact hbr
     ·split at hx
      ·rename_i e;subst e;cases hx;exact hbm
      ·split at hx
       ·rename_i e;subst e;cases hx;exact hbt
       ·split at hx
        ·rename_i e;subst e;cases hx;exact hbx
        ·exact hx) E
    refine G3 (E2 O st.fr) (fun st' sv hself hq=>?_) base okc ns r outs a w vs hI hlen hv;obtain⟨fr',hp',nid'⟩:=st';obtain⟨q0,q1,q2,row,q3,q4⟩:=hq;simp only[]at q0 q1 q2 q4;subst q0 q2 q4;have hrow:∀i j,i<n2→j<1→Wk ((rid,.rows 3 1 n2 row) ::(mid,.map kfP (fun v=>dom v&&decide (FF t (zG v)<0)) get) ::(tb,.cells 253 [A,Z,.vec xid n2 1,.vec rid n2 1,.mp mid]) ::(xid,.rows 22 1 n2 rowx) :: st.hp) (ren [(st.nid,some st.nid)]) st.nid (fun _=>false) (row i j) (row i j):=fun i j hi hj=>by
     obtain rfl:j=0:=by omega
     rw[q3 i hi];simp[Wk]
    refine⟨st.nid,_,.tup [],st.nid,rfl,xa5 _,fun id x hx=>⟨.inl ⟨?_,hx⟩,?_⟩,by simp[Wk,WkL],xa5 _,hk _ hp2 _ _ (fun id b hb=>?_) h⟩
    ·simp only[blk]at hx
     split at hx
     ·rename_i e;rw[e];exact keys _ _ hbr
     ·split at hx
      ·rename_i e;rw[e];exact keys _ _ hbm
      ·split at hx
       ·rename_i e;rw[e];exact keys _ _ hbt
       ·split at hx
        ·rename_i e;rw[e];exact keys _ _ hbx
        ·exact keys _ _ hx
    ·simp only[blk]at hx
     split at hx
     ·cases hx
      exact⟨rfl,rfl,xa5 _,hrow⟩
     ·split at hx
      ·cases hx
       have hm0:=hself ((rid,.rows 3 1 n2 row) ::(mid,.map kfP (fun v=>dom v&&decide (FF t (zG v)<0)) get) ::(tb,.cells 253 [A,Z,.vec xid n2 1,.vec rid n2 1,.mp mid]) ::(xid,.rows 22 1 n2 rowx) :: st.hp) st.nid st.nid (xa5 _) _ _ hbm;exact⟨rfl,rfl,fun k hk=>hm0.2.2 k (xe6 _ _▸hk).1⟩
      ·split at hx
       ·rename_i e;cases hx;exact hself _ _ _ (xa5 _) _ _ hbt
       ·split at hx
        ·rename_i e;cases hx;exact hself _ _ _ (xa5 _) _ _ hbx
        ·exact hself _ _ _ (xa5 _) _ _ hx
    rw[p2 id]at hb;simp only[blk];by_cases e1:id=rid
    ·subst e1
     rw[if_neg hl.d6,p1,if_pos rfl]at hb;rw[if_pos rfl];cases hb;refine⟨_,rfl,rfl,rfl,rfl,Ω,fun i j hi hj=>?_⟩;obtain rfl:j=0:=by omega
     have:=b7 i Ω;rw[xb0]at this;rw[q3 i hi,Nat.mul_one,xb1,this]
    ·rw[if_neg e1]
     by_cases e2:id=mid
     ·subst e2
      rw[if_pos rfl]at hb;rw[if_pos rfl];cases hb;have uq2:Uq (es.filter fun p=>decide ((t.find (qfc p.1)).getD 0=0)):=⟨fun p hp=>uq.key p (List.mem_filter.1 hp).1,uq.pw.filter _⟩;have hmm:∀v s,(v,some s)∈(es.filter fun p=>decide ((t.find (qfc p.1)).getD 0=0))↔(v,some s)∈es∧FF t (zG v)<0:=fun v s=>by
       rw[List.mem_filter];constructor
       ·rintro⟨c1,c2⟩
        obtain⟨f,n,s2,c3⟩:=uq.key _ c1;have c3:v=kp f n:=congrArg Prod.fst c3;subst c3;have c2:=of_decide_eq_true c2;refine⟨c1,?_⟩;rw[gW];have c2:(t.find n).getD 0=0:=c2;unfold FF Jr;rw[c2];decide
       ·rintro⟨c1,c2⟩
        obtain⟨f,n,s2,c3⟩:=uq.key _ c1;have c3:v=kp f n:=congrArg Prod.fst c3;subst c3;refine⟨c1,decide_eq_true ?_⟩;rw[gW]at c2;unfold FF Jr at c2;show(t.find n).getD 0=0;omega
      refine⟨_,rfl,rfl,fun v=>⟨?_,fun s hs=>(hd v).2 s ((ya uq).2 ((hmm v s).1 ((ya uq2).1 hs)).1)⟩⟩;rw[Bool.eq_iff_iff,uq2.isSome,xe6,decide_eq_true_eq,hdm];constructor
      ·rintro⟨⟨s,c1⟩,c2⟩;exact⟨s,(hmm v s).2 ⟨c1,c2⟩⟩
      ·rintro⟨s,c1⟩;exact⟨⟨s,((hmm v s).1 c1).1⟩,((hmm v s).1 c1).2⟩
     ·rw[if_neg e2,p1,if_neg e1]at hb
      rw[if_neg e2];obtain⟨b',c1,c2⟩:=hH id b hb;refine⟨b',?_,c2⟩;by_cases e3:id=tb
      ·subst e3;rw[if_pos rfl,←c1,hbt]
      ·rw[if_neg e3]
       by_cases e4:id=xid
       ·subst e4;rw[if_pos rfl,←c1,hbx]
       ·rw[if_neg e4];exact c1
   ·cases h
  ·cases h
 ·cases h
end
end Go.Sx
end
section
namespace Go.Sx
open Go.Proofs
open Go.RowKit Go.Tn
noncomputable section
variable{ρ:Q}
def qlf(l:List Nat)(f:List Nat→R):R:=(List.rec (motive:=fun _=>(List Nat→R)→R) (fun f=>f []) (fun a _ ih f=>qh a fun a=>ih fun l=>f (a :: l)) l) f
theorem Wu:∀(l:List Nat)(f:List Nat→R),qlf l f=f l
 |[],f=>rfl
 |a :: l,f=>by
  show qh a (fun a=>qlf l fun l=>f (a :: l))=_;rw[qe,Wu]
def qlg(N:Nat)(L:List (List Nat))(r:R):R:=List.rec r (fun a _ ih=>qg 500 (Nat.ble a.length 5) (ltK N a ih)) L
theorem Wv{N:Nat}{r:R}:∀{L:List (List Nat)},qlg N L r=.ok ρ→r=.ok ρ∧∀l,l∈L→l.length≤5∧∀a,a∈l→a<N
 |[],h=>⟨h,fun l hl=>by cases hl⟩
 |a :: L,h=>by
  have h:qg 500 (Nat.ble a.length 5) (ltK N a (qlg N L r))=.ok ρ:=h;obtain⟨h1,h⟩:=qa h;obtain⟨h,h2⟩:=Wt h;obtain⟨h,h3⟩:=Wv h;refine⟨h,fun l hl=>?_⟩;rcases List.mem_cons.1 hl with rfl|hl
  ·exact⟨xa7 h1,h2⟩
  ·exact h3 l hl
def svN(l:List Nat):List SV:=l.map fun(n:Nat)=>.val (.int .i64 (.ofNat n))
def qiX(args:List SV)(hp:Tr 6 XB)(nid:Nat)(k:SV→Tr 6 XB→Nat→R):R:=
 match args with
 |[.ptr tb 0]=>(match hp.find tb with
  |some (.cells 253 [_,.vec sid n' 5,.vec xid n 1,_,_])=>(match hp.find xid with
   |some (.rows 22 1 n1 xs)=>qg 501 (Nat.beq n' n) (qg 502 (Nat.beq n1 n) (qg 503 (Nat.ble n 1000) (G5 hp tb xs fun L=>qlg n L
    (match yO (fun i=>L.getD i []) n (n+1) (n+1) n 0 []with
     |none=>.bad 504 0
     |some l=>qlf l fun l=>qh (Nat.succ nid) fun n2=>qh nid fun nid=>qh l.length fun m=>
      (match m with
       |0=>k (.val (.slice none 0 0)) hp nid
       |_=>zi (some (.rows 3 1 m (svN l))) 22 hp nid fun hp=>k (.vec nid m 1) hp n2)))))
   |_=>.bad 505 0)
  |_=>.bad 506 0)
 |_=>.bad 507 0
theorem qlh{l:List Nat}{i:Nat}(h:i<l.length):(svN l).getD i .top=.val (.int .i64 (l.getD i 0:Nat)):=by
 unfold svN;rw[xc6,xc6,List.getElem?_map,xc7 h];rfl
theorem qiY:ZZ Tryz.prog 73 qiX:=by
 intro ρ LM O args hp k st K hH h hk;unfold qiX at h;split at h
 ·rename_i tb
  split at h
  ·rename_i A sid n' xid n Rr M hft
   split at h
   ·rename_i n1 xs hfx
    obtain⟨a1,h⟩:=qa h;obtain⟨a2,h⟩:=qa h;obtain⟨a3,h⟩:=qa h;obtain⟨L,h,b2,b3⟩:=yz h;obtain⟨h,b4⟩:=Wv h;have e1:=xa6 a1;have e2:=xa6 a2;have hN:=xa7 a3;subst e1 e2;split at h
    ·cases h
    ·rename_i l hF
     rw[Wu,qe,qe,qe]at h;obtain⟨rowx,hbx,lx,gx⟩:=hH.rows hfx;have hbt:=hH.cells hft;intro base okc ns r outs a w vs hI hlen hv;have keys:=hI.keys;have hmem:∀i,i<n1→L.getD i []∈L:=fun i hi=>by
      rw[xc6,xc7 Ω];exact List.getElem_mem _
     have hC:Go.Tn.Cl n1 (fun i=>L.getD i []) rowx st.hp st.nid tb xid A Rr M sid:=by
      refine⟨Ω,fun i hi=>(b4 _ (hmem i hi)).1,fun i hi=>(b4 _ (hmem i hi)).2,hbt,hbx,fun i hi=>?_,fun k x hx=>keys k x hx⟩;have gxi:=gx i 0 hi Ω;rw[Nat.mul_one,xb1]at gxi;rcases b3 i Ω with⟨c1,c2⟩|⟨xi,n,l,c1,c2,c3,c4,c5,c6⟩
      ·exact .inl ⟨c2,by rw[gxi,c1]⟩
      ·obtain⟨r,d1,d2,d3⟩:=hH.rows c4
       have el:(L.getD i []).length=n:=by omega
       refine .inr ⟨xi,r,by rw[gxi,c1,el],by rw[d1,el],fun j hj=>?_⟩;have hj:j<(L.getD i []).length:=hj;rw[d3 j 0 Ω Ω,Nat.mul_one,xb1];exact c6 j Ω
     have E:=e73 n1 _ rowx st.hp st.nid tb xid A Rr M sid (n1+1) (n1+1) l hC Ω Ω hF (600*(n1+1)+2000) Ω;cases l with
     |nil=>
      refine G3 (E O st.fr) (fun st' sv hself hq=>?_) base okc ns r outs a w vs hI hlen hv;obtain⟨fr',hp',nid'⟩:=st';obtain⟨q0,q1,bid,rr,q2,q3,q4,q5⟩:=hq;simp only[]at q0 q1 q2 q4;subst q0 q4 q5;exact⟨st.nid,_,_,st.nid,rfl,xa5 _,fun id x hx=>⟨.inl ⟨keys id x hx,hx⟩,hself _ _ _ (xa5 _) _ _ hx⟩,by simp[Go.Tn.bSV,Wk],xa5 _,hk _ hp _ _ hH h⟩
     |cons x l=>
      have h:zi (some (.rows 3 1 (l.length+1) (svN (x :: l)))) 22 hp st.nid (fun hp=>k (.vec st.nid (l.length+1) 1) hp (st.nid+1))=.ok ρ:=h;obtain⟨hp1,p1,h⟩:=qI _ _ _ _ h;refine G3 (E O st.fr) (fun st' sv hself hq=>?_) base okc ns r outs a w vs hI hlen hv;obtain⟨fr',hp',nid'⟩:=st';obtain⟨q0,q1,bid,rr,q2,q3,q4,q5⟩:=hq;simp only[]at q0 q1 q2 q4;subst q0 q4 q5;have⟨z1,z2⟩:=q2 Ωi;refine⟨bid,(st.nid,.rows 3 1 (l.length+1) rr) :: st.hp,.vec st.nid (l.length+1) 1,st.nid+1,rfl,z1,fun id y hy=>?_,?_,xc4 _,hk _ hp1 _ _ (fun id b hb=>?_) h⟩
      ·simp only[blk]at hy
       split at hy
       ·rename_i e
        cases hy;refine⟨.inr ⟨e,by simp[Go.Tn.bH,blk],xa5 _⟩,rfl,rfl,xa5 _,fun i j hi hj=>?_⟩;obtain rfl:j=0:=by omega
        rw[q3 i hi];simp[Wk]
       ·have hlt:=keys id y hy
        refine⟨.inl ⟨hlt,?_⟩,hself _ _ _ (xc4 _) _ _ hy⟩;simp only[Go.Tn.bH,blk];rw[if_neg Ω];exact hy
      ·unfold Go.Tn.bSV Wk
       refine⟨Ω,?_,rfl,rfl⟩;simp[ren]
      ·rw[p1 id]at hb
       simp only[blk];by_cases e:id=st.nid
       ·rw[if_pos e]at hb ⊢
        cases hb;refine⟨_,rfl,rfl,rfl,rfl,by simp[svN],fun i j hi hj=>?_⟩;obtain rfl:j=0:=by omega
        rw[Nat.mul_one,xb1,qlh hi];exact q3 i hi
       ·rw[if_neg e]at hb ⊢
        exact hH id b hb
   ·cases h
  ·cases h
 ·cases h
end
end Go.Sx
end
section
namespace Go.Sx
open Go.Proofs
open Go.RowKit Go.Tn
noncomputable section
variable{ρ:Q}
def Ww(s:SV):Bool:=match s with
 |.val (.int .i64 _)=>true
 |_=>false
theorem qfd{s:SV}(h:Ww s=true):∃x:Int,s=.val (.int .i64 x):=by
 unfold Ww at h;split at h
 ·exact⟨_,rfl⟩
 ·cases h
def qdA(l:List SV)(r:R):R:=List.rec r (fun a _ ih=>qg 520 (Ww a) ih) l
theorem G6{r:R}:∀{l:List SV},qdA l r=.ok ρ→r=.ok ρ∧∀i,i<l.length→∃x:Int,l.getD i .top=.val (.int .i64 x)
 |[],h=>⟨h,fun i hi=>by cases hi⟩
 |a :: l,h=>by
  have h:qg 520 (Ww a) (qdA l r)=.ok ρ:=h;obtain⟨h1,h⟩:=qa h;obtain⟨h,h2⟩:=G6 h;refine⟨h,fun i hi=>?_⟩;cases i with
  |zero=>exact qfd h1
  |succ i=>exact h2 i (Nat.lt_of_succ_lt_succ hi)
def stK(us sl:List Nat)(m:Nat)(r:R):R:=Nat.rec (motive:=fun _=>Nat→R) (fun _=>r) (fun _ ih i=>qg 521 (Nat.ble 1 (us.getD i 0)) (qg 522 (Nat.ble (us.getD i 0) 12) (qg 523 (Nat.ble (sl.getD i 0) (us.getD i 0)) (qh (Nat.succ i) fun i=>ih i)))) m 0
theorem qdB{us sl:List Nat}{r:R}:∀(m i:Nat),(Nat.rec (motive:=fun _=>Nat→R) (fun _=>r) (fun _ ih i=>qg 521 (Nat.ble 1 (us.getD i 0)) (qg 522 (Nat.ble (us.getD i 0) 12) (qg 523 (Nat.ble (sl.getD i 0) (us.getD i 0)) (qh (Nat.succ i) fun i=>ih i)))) m i:R)=.ok ρ→r=.ok ρ∧∀j,i≤j→j<i+m→1≤us.getD j 0∧us.getD j 0≤12∧sl.getD j 0≤us.getD j 0
 |0,i,h=>⟨h,fun j h1 h2=>by omega⟩
 |m+1,i,h=>by
  obtain⟨h1,h⟩:=qa h;obtain⟨h2,h⟩:=qa h;obtain⟨h3,h⟩:=qa h;rw[qe]at h;obtain⟨h,h4⟩:=qdB m (i+1) h;refine⟨h,fun j hj1 hj2=>?_⟩;by_cases e:j=i
  ·subst e;exact⟨xa7 h1,xa7 h2,xa7 h3⟩
  ·exact h4 j Ω Ω
theorem qmU{us sl:List Nat}{m:Nat}{r:R}(h:stK us sl m r=.ok ρ):r=.ok ρ∧∀j,j<m→1≤us.getD j 0∧us.getD j 0≤12∧sl.getD j 0≤us.getD j 0:=by
 obtain⟨h1,h2⟩:=qdB m 0 h;exact⟨h1,fun j hj=>h2 j (xb6 _) Ω⟩
def qaa(ss:List SV)(l:List Nat):List SV:=List.rec [] (fun i _ ih=>(ss.drop (i*5)).take 5++ih) l
theorem qab{ss:List SV}{N:Nat}(hs:ss.length=N*5):∀{l:List Nat},(∀i,i∈l→i<N)→(qaa ss l).length=l.length*5∧∀k j,k<l.length→j<5→(qaa ss l).getD (k*5+j) .top=ss.getD (l.getD k 0*5+j) .top
 |[],_=>⟨rfl,fun k j hk=>by cases hk⟩
 |a :: l,h=>by
  have⟨h1,h2⟩:=qab hs (l:=l) fun i hi=>h i (List.mem_cons_of_mem _ hi);have ha:=h a xd5;have e:qaa ss (a :: l)=(ss.drop (a*5)).take 5++qaa ss l:=rfl;have l5:((ss.drop (a*5)).take 5).length=5:=by rw[xd9,List.length_drop,hs];omega
  rw[e];refine⟨by rw[xc8,l5,h1,xe4];omega,fun k j hk hj=>?_⟩;rw[xc6,xc6];cases k with
  |zero=>
   rw[xc9 (by rw[l5];omega),List.getElem?_take_of_lt Ω,List.getElem?_drop];show(ss[a*5+(0*5+j)]?).getD .top=(ss[a*5+j]?).getD .top;rw[Nat.zero_mul,xb0]
  |succ k=>
   rw[xd0 (by rw[l5];omega),l5,←xc6,show(k+1)*5+j - 5=k*5+j by omega,h2 k j (Nat.lt_of_succ_lt_succ hk) hj,xc6];rfl
def qmV(hp:Tr 6 XB)(A:SV)(f:Nat→List SV→R):R:=
 match A with
 |.vec tix m 1=>(match hp.find tix with
  |some (.rows 3 1 m2 ts)=>qg 533 (Nat.beq m2 m) (f m ts)
  |_=>.bad 542 0)
 |.arr _ _ m 1 row=>f m (List.ofFn fun(i:Fin m)=>row i.1 0)
 |_=>.bad 543 0
theorem qli{hp:Tr 6 XB}{LM:Nat→Option Loop}{H:List (Nat×Blk)}(hH:HRel LM hp H){A:SV}{f:Nat→List SV→R}(h:qmV hp A f=.ok ρ):∃m ts,f m ts=.ok ρ∧ts.length=m∧((∃tix tr,A=.vec tix m 1∧blk H tix=some (.rows 3 1 m tr)∧∀i,i<m→tr i 0=ts.getD i .top)∨∃o full row,A=.arr o full m 1 row∧∀i,i<m→row i 0=ts.getD i .top):=by
 unfold qmV at h;split at h
 ·split at h
  ·rename_i m2 ts hf
   obtain⟨a,h⟩:=qa h;have a:=xa6 a;subst a;obtain⟨row,hb,l,g⟩:=hH.rows hf;exact⟨_,ts,h,Ω,.inl ⟨_,row,rfl,hb,fun i hi=>by rw[g i 0 hi Ω,Nat.mul_one,xb1]⟩⟩
  ·cases h
 ·rename_i o full m row
  exact⟨_,_,h,Ωi,.inr ⟨o,full,row,rfl,fun i hi=>by rw[xc6,List.getElem?_ofFn];simp[hi]⟩⟩
 ·cases h
def qiZ(args:List SV)(hp:Tr 6 XB)(nid:Nat)(k:SV→Tr 6 XB→Nat→R):R:=
 match args with
 |[.ptr tb 0,.agg st]=>(match hp.find tb with
  |some (.cells 253 [A,.vec sid n' 5,.vec xid n 1,_,_])=>(match hp.find xid,hp.find sid with
   |some (.rows 22 1 n1 xs),some (.rows 140 5 n2 ss)=>qmV hp A fun m ts=>
    qg 530 (Nat.beq n' n) (qg 531 (Nat.beq n1 n) (qg 532 (Nat.beq n2 n) (qg 534 (Nat.ble n 1000) (qg 535 (Nat.ble m 5) (qg 536 (Nat.beq st.length 5)
     (Y7 ts fun us=>Y7 st fun sl=>stK us sl m (qdA ss (G5 hp tb xs fun L=>qlg n L (qh (ixF (fun i=>((us.getD i 0:Nat):Int)) (fun i=>((sl.getD i 0:Nat):Int)) m).toNat fun i0=>qg 537 (Nat.ble (Nat.succ i0) n)
      (match JZ (fun i=>L.getD i []) (n+1) (Go.Tn.setN (fun _=>0) i0 1) [i0] []with
       |none=>.bad 538 0
       |some l=>qlf l fun l=>ltK n l (qh nid fun nid=>qh l.length fun c=>gy (qaa ss l) fun o=>zi (some (.rows 140 5 c o)) 22 hp nid fun hp=>qh (Nat.succ nid) fun n2=>k (.vec nid c 5) hp n2)))))))))))
   |_,_=>.bad 539 0)
  |_=>.bad 540 0)
 |_=>.bad 541 0
theorem qja:ZZ Tryz.prog 262 qiZ:=by
 intro ρ LM O args hp k st K hH h hk;unfold qiZ at h;split at h
 ·rename_i tb sv
  split at h
  ·rename_i A sid n' xid n Rr M hft
   split at h
   ·rename_i n1 xs n2 ss hfx hfs
    obtain⟨m2,ts,h,tl,hthr⟩:=qli hH h;obtain⟨a1,h⟩:=qa h;obtain⟨a2,h⟩:=qa h;obtain⟨a3,h⟩:=qa h;obtain⟨a5,h⟩:=qa h;obtain⟨a6,h⟩:=qa h;obtain⟨a7,h⟩:=qa h;obtain⟨us,h,u1,u2⟩:=Zj h;obtain⟨sl,h,s1,s2⟩:=Zj h;obtain⟨h,b1⟩:=qmU h;obtain⟨h,b5⟩:=G6 h;obtain⟨L,h,b2,b3⟩:=yz h;obtain⟨h,b4⟩:=Wv h;rw[qe]at h;obtain⟨a8,h⟩:=qa h;have e1:=xa6 a1;have e2:=xa6 a2;have e3:=xa6 a3;have hN:=xa7 a5;have hm:=xa7 a6;have h5:=xa6 a7;have hi0:=xa7 a8;subst e1 e2 e3;split at h
    ·cases h
    ·rename_i l hF
     rw[Wu]at h;obtain⟨h,c1⟩:=Wt h;rw[qe,qe,qN]at h;obtain⟨hp1,p1,h⟩:=qI _ _ _ _ h;rw[qe]at h;obtain⟨rowx,hbx,lx,gx⟩:=hH.rows hfx;obtain⟨rows,hbs,ls,gs⟩:=hH.rows hfs;have hbt:=hH.cells hft;intro base okc ns r outs a w vs hI hlen hv;have keys:=hI.keys;have hmem:∀i,i<n2→L.getD i []∈L:=fun i hi=>by
      rw[xc6,xc7 Ω];exact List.getElem_mem _
     have hC:Go.Tn.Cl n2 (fun i=>L.getD i []) rowx st.hp st.nid tb xid A Rr M sid:=by
      refine⟨Ω,fun i hi=>(b4 _ (hmem i hi)).1,fun i hi=>(b4 _ (hmem i hi)).2,hbt,hbx,fun i hi=>?_,fun k x hx=>keys k x hx⟩;have gxi:=gx i 0 hi Ω;rw[Nat.mul_one,xb1]at gxi;rcases b3 i Ω with⟨c1,c2⟩|⟨xi,n,l,c1,c2,c3,c4,c5,c6⟩
      ·exact .inl ⟨c2,by rw[gxi,c1]⟩
      ·obtain⟨r,d1,d2,d3⟩:=hH.rows c4
       have el:(L.getD i []).length=n:=by omega
       refine .inr ⟨xi,r,by rw[gxi,c1,el],by rw[d1,el],fun j hj=>?_⟩;have hj:j<(L.getD i []).length:=hj;rw[d3 j 0 Ω Ω,Nat.mul_one,xb1];exact c6 j Ω
     have hst:sv=stL (fun i=>((sl.getD i 0:Nat):Int)):=by
      refine List.ext_getElem (by rw[h5];rfl) fun j h1 h2=>?_;have:=s2 j h1;rw[xc6,xc7 h1]at this;have h3:j<5:=by omega
      have h4:=gX (s:=fun i=>((sl.getD i 0:Nat):Int)) h3;rw[xc7 h2]at h4;rw[Option.some.inj h4];exact this
     have hbb:=vd (u:=fun i=>((us.getD i 0:Nat):Int)) (s:=fun i=>((sl.getD i 0:Nat):Int)) (m:=m2) (fun i hi=>by have:=b1 i hi;omega) (xa5 m2);have hU:Under st.hp st.nid:=fun k x hx=>keys k x hx;have hu1:∀i,i<m2→(1:Int)≤((us.getD i 0:Nat):Int)∧((us.getD i 0:Nat):Int)≤12:=fun i hi=>by have:=b1 i hi;omega
     have hs1:∀i,i<m2→(0:Int)≤((sl.getD i 0:Nat):Int)∧((sl.getD i 0:Nat):Int)≤((us.getD i 0:Nat):Int):=fun i hi=>by have:=b1 i hi;omega
     have E:=qoD n2 _ rowx st.hp st.nid tb xid sid A Rr M (fun i=>((sl.getD i 0:Nat):Int)) rows (ixF (fun i=>((us.getD i 0:Nat):Int)) (fun i=>((sl.getD i 0:Nat):Int)) m2).toNat (n2+1) l hC Ω hbs
      (fun i hi j hj=>by
       rw[gs i j hi hj];exact b5 _ (by rw[ls];have:i*5+5≤n2*5:=Ω;omega)) (by
      rcases hthr with⟨tix,tr,rfl,t1,t2⟩|⟨o,full,row,rfl,t2⟩
      ·exact qoE hU hbt t1 (fun i hi=>(t2 i hi).trans (u2 i Ω)) hm hu1 hs1 (by rw[Int.toNat_of_nonneg hbb.1])
      ·exact qoF hU hbt (fun i hi=>(t2 i hi).trans (u2 i Ω)) hm hu1 hs1 (by rw[Int.toNat_of_nonneg hbb.1])) Ω hF
     rw[←hst]at E;refine G3 (E O st.fr) (fun st' sv hself hq=>?_) base okc ns r outs a w vs hI hlen hv;obtain⟨fr',hp',nid'⟩:=st';obtain⟨q0,q1,oid,rr,z1,z2,q3,q4,q5⟩:=hq;simp only[]at q0 q1 q4;subst q0 q4 q5;have hl5:=qab (N:=n2) (by rw[ls]) (l:=l) c1;refine⟨oid,(st.nid,.rows 140 5 l.length rr) :: st.hp,.vec st.nid l.length 5,st.nid+1,rfl,z1,fun id y hy=>?_,?_,xc4 _,hk _ hp1 _ _ (fun id b hb=>?_) h⟩
     ·simp only[blk]at hy
      split at hy
      ·rename_i e
       cases hy;refine⟨.inr ⟨e,by simp[blk],xa5 _⟩,rfl,rfl,xa5 _,fun i j hi hj=>?_⟩;have hli:l.getD i 0<n2:=c1 _ (by rw[xc6,xc7 hi];exact List.getElem_mem _);rw[q3 i hi j hj,gs _ j hli hj];obtain⟨x,hx⟩:=b5 (l.getD i 0*5+j) (by rw[ls];omega);rw[hx];simp[Wk]
      ·have hlt:=keys id y hy
       refine⟨.inl ⟨hlt,?_⟩,hself _ _ _ (xc4 _) _ _ hy⟩;simp only[blk];rw[if_neg Ω];exact hy
     ·unfold Wk
      refine⟨Ω,?_,rfl,rfl⟩;simp[ren]
     ·rw[p1 id]at hb
      simp only[blk];by_cases e:id=st.nid
      ·rw[if_pos e]at hb ⊢
       cases hb;refine⟨_,rfl,rfl,rfl,rfl,hl5.1,fun i j hi hj=>?_⟩;have hli:l.getD i 0<n2:=c1 _ (by rw[xc6,xc7 hi];exact List.getElem_mem _);rw[hl5.2 i j hi hj,q3 i hi j hj,gs _ j hli hj]
      ·rw[if_neg e]at hb ⊢
       exact hH id b hb
   ·cases h
  ·cases h
 ·cases h
end
end Go.Sx
end
section
namespace Go.Sx
open Go.RowKit
section
variable{P:Program}
def jq(row:Nat→Nat→SV)(i0 j0 m:Nat):Nat→Nat→SV:=fun x j=>if i0≤x∧x<i0+m then row (j0+(x - i0)) j else row x j
theorem qfe{base:World}{okc:Nat→Prop}{r:Nat→Option Nat}{N:Nat→Prop}{hp:List (Nat×Blk)}{w:World}(h:Sat base okc r N hp w){t ty e:TypeId}{i:TypeInfo}(ht:P.underlying t=some (.slice e))(hi:P.info? e=some i){k:Nat}(hk:i.size=k)(hpos:0<k)
  {id i0 j0 m n':Nat} {row:Nat→Nat→SV} {u v:Value} (hu:Rep r N (Gd base okc r N hp w) w (.vec id i0 k) u) (hv:Rep r N (Gd base okc r N hp w) w (.que id j0 m k) v) (hblk:blk hp id=some (.rows e k n' row)) (hi0:i0+m≤n') (hj0:j0+m≤n') (h9:oneRows m k fun x j=>row (j0+x) j) :
  ∃z w',(Builtin.append_ #[t,t] ty #[u,v]).run P w=.ok z w'∧Step base okc r N hp w r N (setBlk hp id (.rows e k n' (jq row i0 j0 m))) w'∧Rep r N (Gd base okc r N (setBlk hp id (.rows e k n' (jq row i0 j0 m))) w') w' (.vec id (i0+m) k) z:=by
 have hN:N id:=by cases hu<;>assumption
 have hrep:=h.rep _ _ hblk hN;obtain⟨a2,c2,hv2⟩:∃a2 c2,v=.slice a2 m c2:=by cases hv<;>exact⟨_,_,rfl⟩
 by_cases hm0:m=0
 ·subst hm0
  have hst:Step base okc r N hp w r N (setBlk hp id (.rows e k n' (jq row i0 j0 0))) w:=h.same hblk fun G' hG' _=>by
   cases hr:r id with
   |none=>
    rw[hr]at hrep;cases hrep with
    |none _ _ _=>exact .none _ _ _
   |some b=>
    rw[hr]at hrep;cases hrep with
    |rows _ _ _ _ _ cs hb' hl hes=>
     refine .rows _ _ _ _ b cs hb' hl fun x j hx hj=>?_;have e:jq row i0 j0 0 x j=row x j:=by unfold jq;rw[if_neg Ω]
     rw[e];exact(hes x j hx hj).mono (fun _ _=>rfl) (fun _ h=>h) (fun o c hc=>⟨hG' o c hc,rfl⟩) (Shapes.refl w)
  obtain⟨a1,c1,hu1,hle⟩:∃a1 c1,u=.slice a1 i0 c1∧i0≤c1:=by cases hu<;>exact⟨_,_,rfl,Ω⟩
  have hrun:=kW (P:=P) (w:=w) t ty e i ht hi a1 a2 i0 c1 c2 hle;rw[←hu1,←hv2]at hrun;exact⟨_,_,hrun,hst,hst.rep hu⟩
 ·cases hu with
  |vecNil _ _ _ hrn=>
   rw[hrn]at hrep;cases hrep with
   |none _ _ _=>omega
  |vec _ _ _ b cap cs tt _ hrn hb hcs hcap hmx=>
   rw[hrn]at hrep;cases hrep with
   |rows _ _ _ _ _ cs' hb' hl hes=>
    rw[hb]at hb';simp only[Option.some.injEq,Obj.cells.injEq,and_true]at hb';obtain⟨rfl,rfl⟩:=hb';have hnc:n'≤cap:=by
     rw[hcs]at hl;exact Nat.le_of_mul_le_mul_right hl hpos
    cases hv with
    |queNil _ _ _ a hN'=>exact absurd rfl hm0
    |que _ _ _ _ b2 vo cs2 t2 _ hr2 hb2 _ hcap2 _=>
    rw[hrn]at hr2;cases hr2;obtain⟨f2,hf2⟩:∃f2:Nat→Nat→Value,f2=fun x j=>cs.getD ((j0+x)*k+j) undef:=⟨_,rfl⟩;have hc2:∀x j,x<m→j<k→w.cell? ⟨b,j0*k+(x*k+j),none⟩=some (f2 x j):=fun x j hx hj=>by
     have:=zs (Ω:j0+x<n') hj;rw[←xb2,←Nat.add_mul,hf2];exact zz hb _ Ω
    have hrp2:∀x j,x<m→j<k→Rep r N (Gd base okc r N hp w) w (row (j0+x) j) (f2 x j):=fun x j hx hj=>by
     rw[hf2];exact hes _ _ Ω hj
    have hfit:i0*i.size+(qy f2 m k).length≤cs.size:=by rw[qm,hk,hcs,←Nat.add_mul];exact xa8 _ Ω
    have hrun:=run_append_room (P:=P) w t ty tt i ht hi b i0 cap cs hb ⟨b,j0*k,none⟩ m vo (qy f2 m k) (by rw[qm,hk]) (gH hc2 hpos) (wn hrp2 h9 hpos) Ω hfit;have hsz:(cs.toList.take (i0*i.size)++qy f2 m k++cs.toList.drop (i0*i.size+(qy f2 m k).length)).toArray.size=cs.size:=by
     simp only[List.size_toArray,xc8,xd9,List.length_drop,xf7];omega
    have hsh:=kI (w:=w) hb hsz;have hb3:=setRow_heap w b cs (cs.toList.take (i0*i.size)++qy f2 m k++cs.toList.drop (i0*i.size+(qy f2 m k).length)).toArray tt _ hb;have hst:Step base okc r N hp w r N (setBlk hp id (.rows tt k n' (jq row i0 j0 m))) (w.setRow b (cs.toList.take (i0*i.size)++qy f2 m k++cs.toList.drop (i0*i.size+(qy f2 m k).length)).toArray):=
     h.upd hblk hN hrn (.rows tt k n' (jq row i0 j0 m)) (gj h.below (h.own _ _ _ hblk hN hrn) _) hsh ΩP (fun c hc=>qV w b _ hc) fun G' hG'=>by
      refine .rows _ _ _ _ b _ hb3 (by rw[hsz];exact hl) fun x j hx hj=>?_;have hcell:((cs.toList.take (i0*i.size)++qy f2 m k++cs.toList.drop (i0*i.size+(qy f2 m k).length)).toArray).getD (x*k+j) undef=if i0≤x∧x<i0+m then f2 (x - i0) j else cs.getD (x*k+j) undef:=by
       have hnl:i0*k≤cs.size:=by rw[hcs];exact xa8 _ Ω
       have hxs:x*k+j<cs.size:=by have:=zs hx hj;omega
       simp only[xf5,xe2,hk];have hmin:min (i0*k) cs.toList.length=i0*k:=by simp;omega
       by_cases hxn:x<i0
       ·have:=zs hxn hj
        rw[if_neg Ω,List.append_assoc,xc9 Ωr,List.getElem?_take_of_lt this];simp
       ·have hle:i0*k≤x*k:=xa8 _ Ω
        by_cases hxm:x<i0+m
        ·have hlt:=zs (Ω:x - i0<m) hj
         rw[Nat.sub_mul]at hlt;rw[if_pos Ω,xc9 ΩF,xd0 Ω1,xd9,hmin];have e:x*k+j - i0*k=(x - i0)*k+j:=by rw[Nat.sub_mul];omega
         rw[e,kJ _ _ _ _ _ Ω hj];rfl
        ·have hle2:(i0+m)*k≤x*k:=xa8 _ Ω
         rw[Nat.add_mul]at hle2;rw[if_neg Ω,xd0 ΩF,xc8,xd9,qm,hmin,List.getElem?_drop];rw[show i0*k+m*k+(x*k+j -(i0*k+m*k))=x*k+j by omega];simp
      rw[hcell];unfold jq;by_cases hxn:i0≤x∧x<i0+m
      ·rw[if_pos hxn,if_pos hxn];exact(hrp2 _ j Ω hj).mono (fun _ _=>rfl) (fun _ h=>h) (fun o c hc=>⟨hG' o c hc,qV w b _ fun e=>hc.2.1 id _ hblk hN (by rw[e];exact hrn)⟩) hsh
      ·rw[if_neg hxn,if_neg hxn];exact(hes x j Ω hj).mono (fun _ _=>rfl) (fun _ h=>h) (fun o c hc=>⟨hG' o c hc,qV w b _ fun e=>hc.2.1 id _ hblk hN (by rw[e];exact hrn)⟩) hsh
    exact⟨_,_,hrun,hst,.vec _ _ _ b cap _ tt hN hrn hb3 (hsz.trans hcs) Ω hmx⟩
theorem qlj{O:Ctx}{t:TypeId}{x y:Operand}{id i0 j0 n' m k:Nat}{e:TypeId}{row:Nat→Nat→SV}{st:St}{K:St→SV→Prop}{ag:Bool}{sz:Nat}{z0:Option (List Value)}
  (ht:qk P t=some ⟨ag,sz,z0,.slice e k⟩) (hpos:0<k)
  (hx:env (look st.fr) x=.vec id i0 k) (hy:env (look st.fr) y=.que id j0 m k) (hb:blk st.hp id=some (.rows e k n' row)) (hi0:i0+m≤n') (hj0:j0+m≤n') (h9:oneRows m k fun x j=>row (j0+x) j)
  (hA:K ⟨st.fr,setBlk st.hp id (.rows e k n' (jq row i0 j0 m)),st.nid⟩ (.vec id (i0+m) k)):OpVC P O (.call ⟨.builtin .append,#[x,y],#[t,t]⟩) st K:=by
 intro base okc ns r outs a w o ho hi;obtain⟨hts,i,hi',hk⟩:=zx ht;have hu:=hi.env x;rw[hx]at hu;have hv:=hi.env y;rw[hy]at hv;generalize hex:a.eval x=u at hu;generalize hey:a.eval y=v at hv;obtain⟨v',w',hrun,hst,hrep⟩:=qfe (ty:=o.type) hi.sat hts hi' hk hpos hu hv hb hi0 hj0 h9;have e0:execOp a.eval o=(do pure (.value (←Builtin.append_ #[t,t] o.type #[u,v]))):=by
  obtain⟨dst,op,type,pos,aft,guard⟩:=o;simp only[]at ho;subst ho;simp[execOp,Go.resolve,Go.invoke,Go.builtin,hex,hey]
 have erun:(execOp a.eval o).run P w=.ok (.value v') w':=by
  rw[e0];simp only[Sem.run_bind,hrun,Result.andThen_ok,Sem.run_pure]
 refine⟨v',w',erun,_,r,_,hA,xa5 _,?_,hrep⟩;have hkey:∀(j:Nat)(z:Blk),blk (setBlk st.hp id (.rows e k n' (jq row i0 j0 m))) j=some z→j<st.nid:=fun j z hz=>by
  rw[qn]at hz;split at hz
  ·rename_i e;subst e;exact hi.keys _ _ hb
  ·exact hi.keys j z hz
 have:=hi.step hst hkey (xa5 _) (d:=none) (fun t ht=>by cases ht) (.val undef);exact this
theorem qbP{O:Ctx}{t:TypeId}{x lo hi:Operand}{id n n' l h k:Nat}{kl kh:IntKind}{e:TypeId}{row:Nat→Nat→SV}{st:St}{K:St→SV→Prop}{ag:Bool}{sz:Nat}{z0:Option (List Value)}
  (ht:qk P t=some ⟨ag,sz,z0,.slice e k⟩) (hpos:0<k)
  (hx:env (look st.fr) x=.vec id n k) (hlo:env (look st.fr) lo=.val (.int kl (l:Nat))) (hhi:env (look st.fr) hi=.val (.int kh (h:Nat))) (hb:blk st.hp id=some (.rows e k n' row)) (hlh:l≤h) (hh:h≤n')
  (hA:K st (.que id l (h - l) k)):OpVC P O (.slice t x (some lo) (some hi) none) st K:=by
 intro base okc ns r outs a w o ho hI;obtain⟨hts,i,hi',hk⟩:=zx ht;have hu:=hI.env x;rw[hx]at hu;have hv:=hI.env lo;rw[hlo]at hv;have hv2:=hI.env hi;rw[hhi]at hv2;generalize hex:a.eval x=u at hu;generalize hey:a.eval lo=v at hv;generalize hez:a.eval hi=v2 at hv2;cases hv;cases hv2;have e0:execOp a.eval o=(do pure (.value (←Instr.sliceAt t u (some (.int kl (l:Nat))) (some (.int kh (h:Nat))) none))):=by
  obtain⟨dst,op,type,pos,aft,guard⟩:=o;simp only[]at ho;subst ho;simp[execOp,hex,hey,hez]
 have hN:id<st.nid:=by cases hu<;>assumption
 have hrep:=hI.sat.rep _ _ hb hN;have fin:∀v',(Instr.sliceAt t u (some (.int kl (l:Nat))) (some (.int kh (h:Nat))) none).run P w=.ok v' w→Rep r (· < st.nid) (Gd base okc r (· < st.nid) st.hp w) w (.que id l (h - l) k) v'→_:=fun v' hrun hr=>
  (⟨v',w,by rw[e0];simp only[Sem.run_bind,hrun,Result.andThen_ok,Sem.run_pure],st,r,_,hA,xa5 _,hI,hr⟩:∃v w',(execOp a.eval o).run P w=.ok (.value v) w'∧∃st' r' res,K st' res∧st.nid≤st'.nid∧InvR O base okc ns st'.nid r' outs st' a w'∧Rep r' (· < st'.nid) (Gd base okc r' (· < st'.nid) st'.hp w') w' res v)
 cases hu with
 |vecNil _ _ _ hrn=>
  rw[hrn]at hrep;cases hrep with
  |none _ _ _=>
   obtain rfl:h=0:=by omega
   obtain rfl:l=0:=by omega
   refine fin _ (zh hts hi' (qT true 0 0 0 0 0 (.inr ⟨kl,rfl⟩) (.inr ⟨kh,rfl⟩) (.inl ⟨rfl,rfl⟩) (xa5 _) (xa5 _) (xa5 _))) ?_;exact .queNil _ _ _ _ hN
 |vec _ _ _ b cap cs tt _ hrn hbb hcs hcap hmx=>
  rw[hrn]at hrep;cases hrep with
  |rows _ _ _ _ _ cs' hb' hl hes=>
   rw[hbb]at hb';simp only[Option.some.injEq,Obj.cells.injEq,and_true]at hb';obtain⟨rfl,rfl⟩:=hb';have hnc:n'≤cap:=by
    rw[hcs]at hl;exact Nat.le_of_mul_le_mul_right hl hpos
   refine fin _ (zh hts hi' (qT true n cap l h cap (.inr ⟨kl,rfl⟩) (.inr ⟨kh,rfl⟩) (.inl ⟨rfl,rfl⟩) hlh Ω (xa5 _))) ?_;by_cases e:cap=l
   ·rw[if_pos e]
    rw[show h - l=0 by omega,show cap - l=0 by omega];exact .queNil _ _ _ _ hN
   ·rw[if_neg e]
    simp only[xg1,qL,xb0];rw[hk];exact .que _ _ _ _ b (cap - l) cs tt hN hrn hbb (by rw[hcs];congr 1;omega) Ω Ω
end
end Go.Sx
end
section
namespace Go.Tn
open Go.Proofs
open Go.Sx
def pc(m:Nat):Nat:=(m.testBit 0).toNat+(m.testBit 1).toNat+(m.testBit 2).toNat+(m.testBit 3).toNat+(m.testBit 4).toNat+(m.testBit 5).toNat+(m.testBit 6).toNat+(m.testBit 7).toNat
theorem qpj(H:List (Nat×Blk))(id oid n nn i j:Nat)(row:Nat→Nat→SV)(hn:n≤100000)(hnn:n≤nn)(hij:i<j)(hj:j≤n)(hb:blk H oid=some (.rows 3 1 nn row))(hid:oid<id)(hone:∀x,x<n→∃v:Int,row x 0=.val (.int .i64 v)) :
  EffVC Tryz.prog 186 [.vec oid n 1,.val (.int .i64 (i:Nat)),.val (.int .i64 (j:Nat))] H id (fun hp' nid' res=>nid'=id+60∧res=.vec oid (n -(j - i)) 1∧∃r,(∀x,x<nn→r x 0=if n -(j - i)≤x∧x<n then .val (.int .i64 0)else jq row i j (n - j) x 0)∧hp'=setBlk H oid (.rows 3 1 nn r)):=by
 refine yn (zW [(5,[(0,0)]),(6,[(0,0)])]) follows Tryz.func186 rfl Ωb Ωb (by rw[Tryz.ntmps186];simp) fun out=>?_;have NB:=(nmA hid:_∧_);have hne:=decide_eq_false (Ω:¬((i:Nat):Int)=(j:Nat));(repeat' (first|refine sD ?_ ?_<;>intro _|refine aAk ?_|(simp -dsimp only[↓RP,RQ,xa0,reduceIte,reduceCtorEq,xa1,xa2,xa3,xa4,hne,hb,↓RY,NB,QS,QT,qK,QN])))
 all_goals try exact Ωa
 have hvf:zR ((j:Nat):Int) ((n:Nat):Int) oid 1=.que oid j (n - j) 1:=by
  unfold zR;rw[if_neg Ω,show(((n:Nat):Int) -(j:Nat)).toNat=n - j by omega];rfl
 have hvt:zR 0 ((i:Nat):Int) oid 1=.vec oid i 1:=by unfold zR;rw[if_pos rfl];rfl
 have hd1:n -(j - i)=i+(n - j):=by omega
 have hone2:oneRows (n - j) 1 fun x y=>row (j+x) y:=fun x y hx hy=>by
  obtain rfl:y=0:=by omega
  obtain⟨v,hv⟩:=hone (j+x) Ω;show oneCell (row (j+x) 0)=true;rw[hv];rfl
 refine Qh follows (fun m st=>∃s0 hp,(m.testBit 6=false→hp=H)∧(m.testBit 6=true→hp=setBlk H oid (.rows 3 1 nn (jq row i j (n - j))))∧(m.testBit 7=false→s0=.vec oid n 1)∧(m.testBit 7=true→s0=.vec oid (i+(n - j)) 1)∧
  st=⟨[(0,s0),(1,.val (.int .i64 (i:Nat))),(2,.val (.int .i64 (j:Nat))),(7,.val (.int .i64 (n:Nat))),(20,up (m.testBit 0) (.vec oid n 1)),(21,up (m.testBit 1) (.val (.int .i64 (i:Nat)))),(22,up (m.testBit 2) (.vec oid i 1)),(23,up (m.testBit 3) (.vec oid n 1)),(24,up (m.testBit 4) (.val (.int .i64 (j:Nat)))),(25,up (m.testBit 5) (.que oid j (n - j) 1)),(26,up (m.testBit 6) (.vec oid (i+(n - j)) 1))],hp,id+13+pc m⟩) (ms:=[0,0,3,0,0,24,63,127]) Ωb Ωb (gt (fr':=[(0,.vec oid n 1),(1,.val (.int .i64 (i:Nat))),(2,.val (.int .i64 (j:Nat))),(7,.val (.int .i64 (n:Nat))),(20,.top),(21,.top),(22,.top),(23,.top),(24,.top),(25,.top),(26,.top)]) Ωg (SubHp.refl H)) ⟨_,_,fun _=>rfl,fun h=>(by simp at h),fun _=>rfl,fun h=>(by simp at h),by simp[pc,Go.Sx.up]⟩ (zO ?_<|zO ?_<|zO ?_<|zO ?_<|zO ?_<|zO ?_<|zO ?_<|zO ?_<|qaT) ?_
 ·rintro m st ⟨s0,hp,g1,g2,g3,g4,rfl⟩ hcl hbit hd
  refine⟨_,Weak.refl _ _,?_⟩;unfold opH;rw[zn];simp only[hbit,qO,qF];have h7:m.testBit 7=false:=by
   cases h:m.testBit 7 with
   |false=>rfl
   |true=>have:=hcl 7 0 ΩB h;rw[hbit]at this;cases this
  rw[g3 h7];refine .inl ?_;(repeat' (first|refine sD ?_ ?_<;>intro _|refine aAk ?_|(simp -dsimp only[↓RP,RQ,xa0,reduceIte,reduceCtorEq,xa1,xa2,xa3,xa4,hvf,hvt,↓RY,NB,QS,QT,qK,QN])))
  all_goals try exact Ωa
  refine⟨_,Weak.refl _ _,.vec oid n 1,hp,fun h=>g1 Ωv,fun h=>g2 Ωv,fun h=>rfl,fun h=>(by rw[tb,h7]at h;simp at h),?_⟩;have hpc:pc (m ||| 2^0)=pc m+1:=by unfold pc;simp only[tb,xa2,Nat.succ_ne_self,Nat.zero_ne_one,Nat.one_ne_zero,decide_false,decide_true,xf3,Bool.or_true,xf4,qO,qF,reduceCtorEq,hbit,Bool.toNat_true,Bool.toNat_false]<;>omega
  rw[hpc];simp only[tb,xa2,Nat.succ_ne_self,Nat.zero_ne_one,Nat.one_ne_zero,decide_false,decide_true,xf3,Bool.or_true,xf4,qO,qF,reduceCtorEq,hbit,xb2]
 ·rintro m st ⟨s0,hp,g1,g2,g3,g4,rfl⟩ hcl hbit hd
  refine⟨_,Weak.refl _ _,?_⟩;unfold opH;rw[zn];simp only[hbit,qO,qF];refine .inl ?_;(repeat' (first|refine sD ?_ ?_<;>intro _|refine aAk ?_|(simp -dsimp only[↓RP,RQ,xa0,reduceIte,reduceCtorEq,xa1,xa2,xa3,xa4,hvf,hvt,↓RY,NB,QS,QT,qK,QN])))
  all_goals try exact Ωa
  refine⟨_,Weak.refl _ _,s0,hp,fun h=>g1 Ωv,fun h=>g2 Ωv,fun h=>g3 Ωv,fun h=>g4 Ωv,?_⟩;have hpc:pc (m ||| 2^1)=pc m+1:=by unfold pc;simp only[tb,xa2,Nat.succ_ne_self,Nat.zero_ne_one,Nat.one_ne_zero,decide_false,decide_true,xf3,Bool.or_true,xf4,qO,qF,reduceCtorEq,hbit,Bool.toNat_true,Bool.toNat_false]<;>omega
  rw[hpc];simp only[tb,xa2,Nat.succ_ne_self,Nat.zero_ne_one,Nat.one_ne_zero,decide_false,decide_true,xf3,Bool.or_true,xf4,qO,qF,reduceCtorEq,hbit,xb2]
 ·rintro m st ⟨s0,hp,g1,g2,g3,g4,rfl⟩ hcl hbit hd
  have q0:=hd 0 ΩB ΩB;have q1:=hd 1 ΩB ΩB;refine⟨_,Weak.refl _ _,?_⟩;unfold opH;rw[zn];simp only[q0,q1,hbit,qO,qF];refine .inl ?_;(repeat' (first|refine sD ?_ ?_<;>intro _|refine aAk ?_|(simp -dsimp only[↓RP,RQ,xa0,reduceIte,reduceCtorEq,xa1,xa2,xa3,xa4,hvf,hvt,↓RY,NB,QS,QT,qK,QN])))
  all_goals try exact Ωa
  refine⟨_,Weak.refl _ _,s0,hp,fun h=>g1 Ωv,fun h=>g2 Ωv,fun h=>g3 Ωv,fun h=>g4 Ωv,?_⟩;have hpc:pc (m ||| 2^2)=pc m+1:=by unfold pc;simp only[tb,xa2,Nat.succ_ne_self,Nat.zero_ne_one,Nat.one_ne_zero,decide_false,decide_true,xf3,Bool.or_true,xf4,qO,qF,reduceCtorEq,q0,q1,hbit,Bool.toNat_true,Bool.toNat_false]<;>omega
  rw[hpc];simp only[tb,xa2,Nat.succ_ne_self,Nat.zero_ne_one,Nat.one_ne_zero,decide_false,decide_true,xf3,Bool.or_true,xf4,qO,qF,reduceCtorEq,q0,q1,hbit,xb2]
 ·rintro m st ⟨s0,hp,g1,g2,g3,g4,rfl⟩ hcl hbit hd
  refine⟨_,Weak.refl _ _,?_⟩;unfold opH;rw[zn];simp only[hbit,qO,qF];have h7:m.testBit 7=false:=by
   cases h:m.testBit 7 with
   |false=>rfl
   |true=>have:=hcl 7 3 ΩB h;rw[hbit]at this;cases this
  rw[g3 h7];refine .inl ?_;(repeat' (first|refine sD ?_ ?_<;>intro _|refine aAk ?_|(simp -dsimp only[↓RP,RQ,xa0,reduceIte,reduceCtorEq,xa1,xa2,xa3,xa4,hvf,hvt,↓RY,NB,QS,QT,qK,QN])))
  all_goals try exact Ωa
  refine⟨_,Weak.refl _ _,.vec oid n 1,hp,fun h=>g1 Ωv,fun h=>g2 Ωv,fun h=>rfl,fun h=>(by rw[tb,h7]at h;simp at h),?_⟩;have hpc:pc (m ||| 2^3)=pc m+1:=by unfold pc;simp only[tb,xa2,Nat.succ_ne_self,Nat.zero_ne_one,Nat.one_ne_zero,decide_false,decide_true,xf3,Bool.or_true,xf4,qO,qF,reduceCtorEq,hbit,Bool.toNat_true,Bool.toNat_false]<;>omega
  rw[hpc];simp only[tb,xa2,Nat.succ_ne_self,Nat.zero_ne_one,Nat.one_ne_zero,decide_false,decide_true,xf3,Bool.or_true,xf4,qO,qF,reduceCtorEq,hbit,xb2]
 ·rintro m st ⟨s0,hp,g1,g2,g3,g4,rfl⟩ hcl hbit hd
  refine⟨_,Weak.refl _ _,?_⟩;unfold opH;rw[zn];simp only[hbit,qO,qF];refine .inl ?_;(repeat' (first|refine sD ?_ ?_<;>intro _|refine aAk ?_|(simp -dsimp only[↓RP,RQ,xa0,reduceIte,reduceCtorEq,xa1,xa2,xa3,xa4,hvf,hvt,↓RY,NB,QS,QT,qK,QN])))
  all_goals try exact Ωa
  refine⟨_,Weak.refl _ _,s0,hp,fun h=>g1 Ωv,fun h=>g2 Ωv,fun h=>g3 Ωv,fun h=>g4 Ωv,?_⟩;have hpc:pc (m ||| 2^4)=pc m+1:=by unfold pc;simp only[tb,xa2,Nat.succ_ne_self,Nat.zero_ne_one,Nat.one_ne_zero,decide_false,decide_true,xf3,Bool.or_true,xf4,qO,qF,reduceCtorEq,hbit,Bool.toNat_true,Bool.toNat_false]<;>omega
  rw[hpc];simp only[tb,xa2,Nat.succ_ne_self,Nat.zero_ne_one,Nat.one_ne_zero,decide_false,decide_true,xf3,Bool.or_true,xf4,qO,qF,reduceCtorEq,hbit,xb2]
 ·rintro m st ⟨s0,hp,g1,g2,g3,g4,rfl⟩ hcl hbit hd
  have q3:=hd 3 ΩB ΩB;have q4:=hd 4 ΩB ΩB;refine⟨_,Weak.refl _ _,?_⟩;unfold opH;rw[zn];simp only[q3,q4,hbit,qO,qF];refine .inl ?_;(repeat' (first|refine sD ?_ ?_<;>intro _|refine aAk ?_|(simp -dsimp only[↓RP,RQ,xa0,reduceIte,reduceCtorEq,xa1,xa2,xa3,xa4,hvf,hvt,↓RY,NB,QS,QT,qK,QN])))
  all_goals try exact Ωa
  refine⟨_,Weak.refl _ _,s0,hp,fun h=>g1 Ωv,fun h=>g2 Ωv,fun h=>g3 Ωv,fun h=>g4 Ωv,?_⟩;have hpc:pc (m ||| 2^5)=pc m+1:=by unfold pc;simp only[tb,xa2,Nat.succ_ne_self,Nat.zero_ne_one,Nat.one_ne_zero,decide_false,decide_true,xf3,Bool.or_true,xf4,qO,qF,reduceCtorEq,q3,q4,hbit,Bool.toNat_true,Bool.toNat_false]<;>omega
  rw[hpc];simp only[tb,xa2,Nat.succ_ne_self,Nat.zero_ne_one,Nat.one_ne_zero,decide_false,decide_true,xf3,Bool.or_true,xf4,qO,qF,reduceCtorEq,q3,q4,hbit,xb2]
 ·rintro m st ⟨s0,hp,g1,g2,g3,g4,rfl⟩ hcl hbit hd
  have q2:=hd 2 ΩB ΩB;have q5:=hd 5 ΩB ΩB;refine⟨_,Weak.refl _ _,?_⟩;unfold opH;rw[zn];simp only[q2,q5,hbit,qO,qF];rw[g1 hbit];refine .inr ⟨rfl,.inl (qlj (id:=oid) (i0:=i) (j0:=j) (n':=nn) (m:=n - j) (k:=1) (e:=3) (row:=row) YF Ω rfl rfl hb Ω Ω hone2 ?_)⟩;refine⟨_,wU _ _ (id+13+(pc m+1)) (by simp only[St.putI];omega),s0,setBlk H oid (.rows 3 1 nn (jq row i j (n - j))),fun h=>(by rw[tb]at h;simp at h),fun h=>rfl,fun h=>g3 Ωv,fun h=>g4 Ωv,?_⟩;have hpc:pc (m ||| 2^6)=pc m+1:=by unfold pc;simp only[tb,xa2,Nat.succ_ne_self,Nat.zero_ne_one,Nat.one_ne_zero,decide_false,decide_true,xf3,Bool.or_true,xf4,qO,qF,reduceCtorEq,q2,q5,hbit,Bool.toNat_true,Bool.toNat_false]<;>omega
  rw[show pc (m ||| 2^(0+1+1+1+1+1+1))=pc m+1 from hpc];simp only[xa1,tb,xa2,Nat.succ_ne_self,Nat.zero_ne_one,Nat.one_ne_zero,decide_false,decide_true,xf3,Bool.or_true,xf4,qO,qF,reduceCtorEq,q2,q5,hbit,xb2];simp[St.putI,putIn]
 ·rintro m st ⟨s0,hp,g1,g2,g3,g4,rfl⟩ hcl hbit hd
  have q6:=hd 6 ΩB ΩB;refine⟨_,Weak.refl _ _,?_⟩;unfold opH;rw[zn];simp only[q6,hbit,qO,qF];refine .inl ?_;(repeat' (first|refine sD ?_ ?_<;>intro _|refine aAk ?_|(simp -dsimp only[↓RP,RQ,xa0,reduceIte,reduceCtorEq,xa1,xa2,xa3,xa4,hvf,hvt,↓RY,NB,QS,QT,qK,QN])))
  all_goals try exact Ωa
  refine⟨_,Weak.refl _ _,.vec oid (i+(n - j)) 1,hp,fun h=>g1 Ωv,fun h=>g2 Ωv,fun h=>(by rw[tb]at h;simp at h),fun h=>rfl,?_⟩;have hpc:pc (m ||| 2^7)=pc m+1:=by unfold pc;simp only[tb,xa2,Nat.succ_ne_self,Nat.zero_ne_one,Nat.one_ne_zero,decide_false,decide_true,xf3,Bool.or_true,xf4,qO,qF,reduceCtorEq,q6,hbit,Bool.toNat_true,Bool.toNat_false]<;>omega
  rw[hpc];simp only[tb,xa2,Nat.succ_ne_self,Nat.zero_ne_one,Nat.one_ne_zero,decide_false,decide_true,xf3,Bool.or_true,xf4,qO,qF,reduceCtorEq,q6,hbit,xb2]
 ·rintro m st' ⟨s0,hp,g1,g2,g3,g4,rfl⟩ hall
  have h7:=hall 7 ΩB;have h6:=hall 6 ΩB;rw[g2 h6,g4 h7];refine⟨_,Weak.refl _ _,?_⟩;have hpc:pc m=8:=by unfold pc;simp only[hall 0 ΩB,hall 1 ΩB,hall 2 ΩB,hall 3 ΩB,hall 4 ΩB,hall 5 ΩB,h6,h7];rfl
  rw[hpc];simp only[hall 0 ΩB,hall 1 ΩB,hall 2 ΩB,hall 3 ΩB,hall 4 ΩB,hall 5 ΩB,h6,h7,qO];have eH:∀b,blk (setBlk H oid b) oid=some b:=fun b=>qcP hb;(repeat' (first|refine sD ?_ ?_<;>intro _|refine aAk ?_|(simp -dsimp only[↓RP,RQ,xa0,reduceIte,reduceCtorEq,xa1,xa2,xa3,xa4,eH,↓RY,NB,QS,QT,qK,QN])))
  all_goals try exact Ωa
  refine Zv (qz ?_);(repeat' (first|refine sD ?_ ?_<;>intro _|refine aAk ?_|(simp -dsimp only[↓RP,RQ,xa0,reduceIte,reduceCtorEq,xa1,xa2,xa3,xa4,eH,↓RY,NB,QS,QT,qK,QN])));refine qz ?_;(repeat' (first|refine sD ?_ ?_<;>intro _|refine aAk ?_|(simp -dsimp only[↓RP,RQ,xa0,reduceIte,reduceCtorEq,xa1,xa2,xa3,xa4,eH,↓RY,NB,QS,QT,qK,QN])));refine qz ?_;(repeat' (first|refine sD ?_ ?_<;>intro _|refine aAk ?_|(simp -dsimp only[↓RP,RQ,xa0,reduceIte,reduceCtorEq,xa1,xa2,xa3,xa4,eH,↓RY,NB,QS,QT,qK,QN])));refine qz ?_;(repeat' (first|refine sD ?_ ?_<;>intro _|refine aAk ?_|(simp -dsimp only[↓RP,RQ,xa0,reduceIte,reduceCtorEq,xa1,xa2,xa3,xa4,eH,↓RY,NB,QS,QT,qK,QN])));refine gO rfl (qbP (id:=oid) (n:=i+(n - j)) (n':=nn) (l:=i+(n - j)) (h:=n) (k:=1) (e:=3) (row:=jq row i j (n - j)) (kl:=.i64) (kh:=.i64) YF Ω rfl Ωad Ωad (eH _) Ω hnn ?_);refine qz ?_;(repeat' (first|refine sD ?_ ?_<;>intro _|refine aAk ?_|(simp -dsimp only[↓RP,RQ,xa0,reduceIte,reduceCtorEq,xa1,xa2,xa3,xa4,gu,eH,Ks,↓RY,NB,QS,QT,qK,QN])))
  all_goals try exact Ωa
  refine⟨⟨Ω,rfl⟩,?_⟩;refine⟨_,_,_,qf (nid':=id+60) Ω (fr':=[(0,_)]) ⟨.inr rfl,trivial⟩ (SubHp.refl _),rfl,by rw[hd1];rfl,_,fun x hx=>?_,rfl⟩;rw[hd1];have e2:i+(n - j)+(n -(i+(n - j)))=n:=by omega
  have e3:(i+(n - j+(n -(i+(n - j)))))=n:=by omega
  simp only[e2,e3]
end Go.Tn
end
section
namespace Go.Tn
open Go.Proofs
open Go.Sx
theorem qff{P:Program}{O:Ctx}{op:Op}{st st2:St}{K:St→SV→Prop}(hw:Weak O st st2)(hn:st.nid≤st2.nid)(h:OpVC P O op st2 K):OpVC P O op st K:=by
 intro base okc ns r outs a w o ho hi;obtain⟨r',hi'⟩:=hw _ _ _ _ _ _ ⟨r,hi⟩;obtain⟨v,w',h1,st',r2,res,h2,h3,h4⟩:=h base okc ns r' outs a w o ho hi';exact⟨v,w',h1,st',r2,res,h2,xc1 hn h3,h4⟩
theorem u3:Tryz.prog.underlying 3=some (.int .i64):=by kernel_rfl
theorem qdC{P:Program}{O:Ctx}{t:TypeId}{x:Operand}{e:TypeId}{st:St}{K:St→SV→Prop}(ht:P.underlying t=some (.slice e))(hx:env (Go.Sx.look st.fr) x=.val (.slice none 0 0))(h:K st (.val (.int .i64 0))):OpVC P O (.call ⟨.builtin .cap,#[x],#[t]⟩) st K:=by
 intro base okc ns r outs a w o ho hi;have hu:=hi.env x;rw[hx]at hu;generalize hex:a.eval x=u at hu;cases hu;refine⟨.int .i64 0,w,?_,st,r,_,h,xa5 _,hi,.val _⟩;obtain⟨dst,op,type,pos,aft,guard⟩:=o;simp only[]at ho;subst ho;simp[execOp,Go.resolve,Go.invoke,Go.builtin,hex,Builtin.cap_,run_underlying ht,goInt]
theorem qpk(H:List (Nat×Blk))(id m:Nat)(hm:1≤m)(hm2:m≤100000)(hU:Under H id) :
  EffVC Tryz.prog 394 [.val (.slice none 0 0),.val (.int .i64 (m:Nat))] H id (fun hp' nid' res=>nid'=id+60∧∃oid r,id≤oid∧oid<nid'∧hp'=(oid,.rows 3 1 m r) :: H∧res=.vec oid 0 1):=by
 refine yn (zW [(3,[(0,0)]),(5,[(0,0)])]) follows Tryz.func394 rfl Ωb Ωb (by rw[Tryz.ntmps394];simp) fun out=>?_;have NB:True:=trivial;have h0:=decide_eq_false (Ω:¬((m:Nat):Int)<0);have h1:=decide_eq_true (Ω:(0:Int)<((m:Nat):Int));(repeat' (first|refine sD ?_ ?_<;>intro _|refine aAl ?_|(simp -dsimp only[↓RP,RQ,xa0,reduceIte,reduceCtorEq,xa1,xa2,xa3,xa4,h0,↓RY,NB,QS,QT,qK,QN])))
 all_goals try exact Ωa
 refine Zv (qz ?_);(repeat' (first|refine sD ?_ ?_<;>intro _|refine aAl ?_|(simp -dsimp only[↓RP,RQ,xa0,reduceIte,reduceCtorEq,xa1,xa2,xa3,xa4,↓RY,NB,QS,QT,qK,QN])));refine qz ?_;(repeat' (first|refine sD ?_ ?_<;>intro _|refine aAl ?_|(simp -dsimp only[↓RP,RQ,xa0,reduceIte,reduceCtorEq,xa1,xa2,xa3,xa4,↓RY,NB,QS,QT,qK,QN])));refine gO rfl (qdC (zx YF).1 Ωad ?_);refine qz ?_;(repeat' (first|refine sD ?_ ?_<;>intro _|refine aAl ?_|(simp -dsimp only[↓RP,RQ,xa0,reduceIte,reduceCtorEq,xa1,xa2,xa3,xa4,↓RY,NB,QS,QT,qK,QN])));refine qz ?_;(repeat' (first|refine sD ?_ ?_<;>intro _|refine aAl ?_|(simp -dsimp only[↓RP,RQ,xa0,reduceIte,reduceCtorEq,xa1,xa2,xa3,xa4,↓RY,NB,QS,QT,qK,QN])));refine qz ?_;(repeat' (first|refine sD ?_ ?_<;>intro _|refine aAl ?_|(simp -dsimp only[↓RP,RQ,xa0,reduceIte,reduceCtorEq,xa1,xa2,xa3,xa4,↓RY,NB,QS,QT,qK,QN])));refine qz ?_;(repeat' (first|refine sD ?_ ?_<;>intro _|refine aAl ?_|(simp -dsimp only[↓RP,RQ,xa0,reduceIte,reduceCtorEq,xa1,xa2,xa3,xa4,↓RY,NB,QS,QT,qK,QN])));refine qz ?_;(repeat' (first|refine sD ?_ ?_<;>intro _|refine aAl ?_|(simp -dsimp only[↓RP,RQ,xa0,reduceIte,reduceCtorEq,xa1,xa2,xa3,xa4,gu,h1,↓RY,NB,QS,QT,qK,QN])))
 all_goals try exact Ωa
 refine Zv (qz ?_);(repeat' (first|refine sD ?_ ?_<;>intro _|refine aAl ?_|(simp -dsimp only[↓RP,RQ,xa0,reduceIte,reduceCtorEq,xa1,xa2,xa3,xa4,↓RY,NB,QS,QT,qK,QN])));refine qz ?_;(repeat' (first|refine sD ?_ ?_<;>intro _|refine aAl ?_|(simp -dsimp only[↓RP,RQ,xa0,reduceIte,reduceCtorEq,xa1,xa2,xa3,xa4,↓RY,NB,QS,QT,qK,QN])));refine gO rfl (qdC (zx YF).1 Ωad ?_);refine qz ?_;(repeat' (first|refine sD ?_ ?_<;>intro _|refine aAl ?_|(simp -dsimp only[↓RP,RQ,xa0,reduceIte,reduceCtorEq,xa1,xa2,xa3,xa4,↓RY,NB,QS,QT,qK,QN])));refine qz ?_;(repeat' (first|refine sD ?_ ?_<;>intro _|refine aAl ?_|(simp -dsimp only[↓RP,RQ,xa0,reduceIte,reduceCtorEq,xa1,xa2,xa3,xa4,↓RY,NB,QS,QT,qK,QN])));refine gO rfl (qff (Kt (t:=3) (k:=1) (d:=20) (fun _ _=>.top) (by simp[Go.Sx.look,putIn])) (xc4 _) (qgK (id:=id+16) (row:=fun _ _=>.top) (n':=0) (n:=0) (m:=m) (kn:=.i64) (kq:=.i64) YF ty3 ?hu3 ?hx ?hy ?hb (xa5 _) Ω (by rw[by3];omega) ?hid ?_))
 case hu3=>exact u3
 case hx=>simp[env,Go.Sx.look,putFr]
 case hy=>simp[env,Go.Sx.look,putFr,putIn]
 case hb=>simp[blk]
 case hid=>simp
 have hdr:dropBlk H (id+16)=H:=qU (hU.none Ω);have hvt:∀k,zR 0 0 k 1=.vec k 0 1:=fun k=>by unfold zR;rw[if_pos rfl];rfl
 have hlt:(id+16:Nat)<id+17:=by omega
 simp only[dropBlk,if_true,hdr];refine qz ?_;(repeat' (first|refine sD ?_ ?_<;>intro _|refine aAl ?_|(simp -dsimp only[↓RP,RQ,xa0,reduceIte,reduceCtorEq,xa1,xa2,xa3,xa4,hvt,↓RY,NB,QS,QT,qK,QN])));refine qz ?_;(repeat' (first|refine sD ?_ ?_<;>intro _|refine aAl ?_|(simp -dsimp only[↓RP,RQ,xa0,reduceIte,reduceCtorEq,xa1,xa2,xa3,xa4,hvt,↓RY,NB,QS,QT,qK,QN])));refine qz ?_;(repeat' (first|refine sD ?_ ?_<;>intro _|refine aAl ?_|(simp -dsimp only[↓RP,RQ,xa0,reduceIte,reduceCtorEq,xa1,xa2,xa3,xa4,hvt,↓RY,NB,QS,QT,qK,QN])));refine qz ?_;(repeat' (first|refine sD ?_ ?_<;>intro _|refine aAl ?_|(simp -dsimp only[↓RP,RQ,xa0,reduceIte,reduceCtorEq,xa1,xa2,xa3,xa4,gu,hvt,↓RY,NB,QS,QT,qK,QN])))
 all_goals try exact Ωa
 exact⟨_,_,_,qf (nid':=id+60) Ω (fr':=[(0,_)]) ⟨.inr rfl,trivial⟩ (SubHp.refl _),rfl,id+17,_,Ω,Ω,rfl,rfl⟩
def jg(L:Nat→List Int):Nat→List Int
 |0=>[]
 |k+1=>jg L k++L k
theorem k9(L:Nat→List Int)(k:Nat):jg L (k+1)=jg L k++L k:=rfl
theorem qdD(L:Nat→List Int){k n:Nat}(h:k≤n):(jg L k).length≤(jg L n).length:=by
 induction n with
 |zero=>obtain rfl:k=0:=by omega
        exact xa5 _
 |succ n ih=>
  by_cases e:k=n+1
  ·subst e;exact xa5 _
  ·have:=ih Ω;rw[k9,xc8];omega
def lls(n:Nat)(L:Nat→List Int):SV:=.arr false false n 1 (fun i _=>.arr false false (L i).length 1 (fun j _=>.val (.int .i64 ((L i).getD j 0))))
theorem qpl(n:Nat)(L:Nat→List Int)(hn:n≤10000)(h1:1≤(jg L n).length)(h2:(jg L n).length≤100000):zd Tryz.prog 359 [lls n L] (.rows 3 1 (jg L n).length (fun x _=>.val (.int .i64 ((jg L n).getD x 0)))) (.vec 0 (jg L n).length 1):=by
 refine jv Tryz.func359 rfl Ωb follows Ωb _ _ _ (by rw[Tryz.ntmps359];simp) (by simp[OldL,Old,lls]) ?_;unfold lls;(repeat' (first|refine sD ?_ ?_<;>intro _|refine aA ?_|(simp -dsimp only[↓RP,RQ,xa0,reduceIte,reduceCtorEq,xa1,xa2,xa3,xa4,k9,QT,QN])))
 all_goals try exact Ωa
 refine qj (fun(k:Nat)=>k≤n) (fun k=>⟨[(0,.arr false false n 1 (fun i _=>.arr false false (L i).length 1 (fun j _=>.val (.int .i64 ((L i).getD j 0))))),(3,.val (.int .i64 ((jg L k).length:Nat))),(9,.arr false false n 1 (fun i _=>.arr false false (L i).length 1 (fun j _=>.val (.int .i64 ((L i).getD j 0))))),(10,.val (.int .i64 (n:Nat))),(11,.val (.int .i64 (k:Nat)))],[],10+20*k⟩) (fun k=>n - k) 0 (xb6 _) (qf Ωi (by simp[qM,Go.Sx.look,jg]) (SubHp.refl _)) fun k hk=>?_;by_cases hkn:k<n
 ·have hlt:=decide_eq_true (Ω:((k:Nat):Int)<(n:Nat))
  have hle:=qdD L (k:=k+1) hkn;rw[k9,xc8]at hle;have hnn:=decide_eq_false (show ¬(((jg L k).length:Nat):Int)+((L k).length:Nat)<0 by omega);(repeat' (first|refine sD ?_ ?_<;>intro _|refine aA ?_|(simp -dsimp only[↓RP,RQ,xa0,reduceIte,reduceCtorEq,xa1,xa2,xa3,xa4,hlt,hnn,k9,QT,QN])))
  all_goals try exact Ωa
  refine⟨k+1,hkn,Ω,qf Ω (by simp[qM,Go.Sx.look,k9]) (SubHp.refl _)⟩
 ·obtain rfl:n=k:=by omega
  have hlt:=decide_eq_false (Ω:¬((n:Nat):Int)<(n:Nat));(repeat' (first|refine sD ?_ ?_<;>intro _|refine aA ?_|(simp -dsimp only[↓RP,RQ,xa0,reduceIte,reduceCtorEq,xa1,xa2,xa3,xa4,hlt,k9,QT,QN])))
  all_goals try exact Ωa
  refine jS (by rfl) (qpk [] _ (jg L n).length h1 h2 Under.nil) fun hp' nid' res hQ=>?_;obtain⟨rfl,oid,r0,q1,q2,rfl,rfl⟩:=hQ;(repeat' (first|refine sD ?_ ?_<;>intro _|refine aA ?_|(simp -dsimp only[↓RP,RQ,xa0,reduceIte,reduceCtorEq,xa1,xa2,xa3,xa4,k9,QT,QN])))
  all_goals try exact Ωa
  refine qj (fun(z:Nat×Nat×(Nat→Nat→SV))=>z.1≤n∧z.2.1<100+20*n+20*z.1∧∀x,x<(jg L z.1).length→z.2.2 x 0=.val (.int .i64 ((jg L z.1).getD x 0))) (fun z=>⟨[(0,.arr false false n 1 (fun i _=>.arr false false (L i).length 1 (fun j _=>.val (.int .i64 ((L i).getD j 0))))),(6,.vec z.2.1 (jg L z.1).length 1),(25,.arr false false n 1 (fun i _=>.arr false false (L i).length 1 (fun j _=>.val (.int .i64 ((L i).getD j 0))))),(26,.val (.int .i64 (n:Nat))),(27,.val (.int .i64 (z.1:Nat)))],[(z.2.1,.rows 3 1 (jg L z.1).length z.2.2)],100+20*n+20*z.1⟩) (fun z=>n - z.1) (0,oid,r0) ⟨xb6 _,Ωf,fun x hx=>(by simp[jg]at hx)⟩ (weak [] [] ?hw1 ?hw2 ?hw3 rfl) fun z hz=>?_
  case hw1=>(simp -dsimp only[↓RP,RQ,xa0,reduceIte,reduceCtorEq,xa1,xa2,xa3,xa4,jg]);all_goals (try simp[jg]);omega
  case hw2=>(simp -dsimp only[↓RP,RQ,xa0,reduceIte,reduceCtorEq,xa1,xa2,xa3,xa4,jg]);all_goals (try simp[jg]);omega
  case hw3=>(simp -dsimp only[↓RP,RQ,xa0,reduceIte,reduceCtorEq,xa1,xa2,xa3,xa4]);all_goals (try simp)
  obtain⟨k,oid1,r⟩:=z;obtain⟨z1,z2,z3⟩:=hz;dsimp only at z1 z2 z3;dsimp only;by_cases hkn:k<n
  ·have hlt:=decide_eq_true (Ω:((k:Nat):Int)<(n:Nat))
   have hle:=qdD L (k:=k+1) hkn;rw[k9,xc8]at hle;(repeat' (first|refine sD ?_ ?_<;>intro _|refine aA ?_|(simp -dsimp only[↓RP,RQ,xa0,reduceIte,reduceCtorEq,xa1,xa2,xa3,xa4,hlt,k9,QT,QN])))
   all_goals try exact Ωa
   refine⟨⟨⟨.inr trivial,xa5 _,Ω⟩,Ω⟩,by simp only[InK];omega,(k+1,100+20*n+20*k+1+3+2,_),⟨Ωf,Ωf,fun x hx=>?_⟩,Ωf,qf Ωf (by simp[qM,Go.Sx.look,k9]) (by dsimp only;rw[k9,xc8];exact SubHp.refl _)⟩;dsimp only at hx ⊢;rw[k9,xc8]at hx;rw[k9];by_cases e:x<(jg L k).length
   ·rw[if_pos e,z3 x e,xc6,xc6,xc9 e]
   ·rw[if_neg e,xc6,xc6,xd0 Ω]
  ·obtain rfl:n=k:=by omega
   have hlt:=decide_eq_false (Ω:¬((n:Nat):Int)<(n:Nat));(repeat' (first|refine sD ?_ ?_<;>intro _|refine aA ?_|(simp -dsimp only[↓RP,RQ,xa0,reduceIte,reduceCtorEq,xa1,xa2,xa3,xa4,hlt,k9,QT,QN])))
   all_goals try exact Ωa
   refine⟨oid1,_,by simp[blk];rfl,?_,?_⟩
   ·simp only[SubB,true_and]
    exact⟨xa5 _,fun i j hi hj=>by
      obtain rfl:j=0:=by omega
      rw[z3 i hi];simp[Go.Sx.Sub]⟩
   ·simp[SubO]
end Go.Tn
end
section
namespace Go.Sx
open Go.Proofs
open Go.RowKit Go.Tn
noncomputable section
variable{ρ:Q}
theorem qjb{P:Program}{O:Ctx}{g:FuncId}{args pats:List SV}{b:Blk}{res:SV}{st:St}{K:St→SV→Prop}(hc:zd P g pats b res)(hs:NewOk st.hp pats args b res)(hk:K ⟨st.fr,(st.nid,b) :: st.hp,st.nid+1⟩ (setId st.nid res)):ki P O g args st K:=by
 intro base okc ns r outs a w vs hI hl ha;have hrun:(callFunc g vs).run P w=.ok (.enter g vs) w:=by
  obtain⟨⟨fn,hf,hname,hbody⟩,_⟩:=hc;have:fn.body.isNone=false:=by cases hb:fn.body<;>simp_all
  simp only[callFunc,Sem.run_bind,run_program,Result.andThen_ok,hf,hname,xe7,if_false,this,Sem.run_pure]
 refine⟨hrun,?_⟩;have := JD (o := ⟨some 0, .move (.const undef), 0, "", #[], none⟩) (a := { a with tmps := #[undef] }) (Q := fun _ _ _ => False) hI.sat hl ha hc hs (id := st.nid) (xb4 _) (hp2 := (st.nid, b) :: st.hp) ΩN (fun j hj => by simp only [blk]; rw [if_neg (Nat.ne_of_lt hj)])
  (K:=fun a' w'=>∃st' r' res,K st' res∧st.nid≤st'.nid∧InvR O base okc ns st'.nid r' outs st' a w'∧Rep r' (· < st'.nid) (Gd base okc r' (· < st'.nid) st'.hp w') w' res (a'.tmps.getD 0 undef)) (fun v w' r' hst hrep=>by
   rw[gS]at hst hrep;have h2:=(hI.step hst (fun i x hx=>by
    simp only[blk]at hx;split at hx
    ·rename_i e;rw[e];exact xb5 _
    ·exact Nat.lt_succ_of_lt (hI.keys i x hx)) (xc4 _) (d:=none) (fun t ht=>by cases ht) (.val undef)).nid (st.nid+1)
   exact⟨⟨st.fr,(st.nid,b) :: st.hp,st.nid+1⟩,r',_,hk,xc4 _,h2,by simpa[Act.put]using hrep⟩)
 rw[hrun,Oper.upon_enter]at this;refine this.mono fun e w' h=>?_;cases e with
 |returned v=>
  obtain⟨st',r',res',h1,h2,h3,h4⟩:=h;exact⟨v,st',r',res',rfl,h1,h2,h3,by simpa[Act.put]using h4⟩
 |panicked c=>exact h.elim
 |outgrown=>obtain⟨_,_,h⟩:=h;exact h.elim
theorem qac{H:List (Nat×Blk)}{x:SV}{obl:Prop}{n k:Nat}{row p:Nat→Nat→SV}(h:rowsOf H x=some (obl,n,k,row))(ho:obl)(hs:∀i j,i<n→j<k→Go.Sx.Sub H (p i j) (row i j)):Go.Sx.Sub H (.arr false false n k p) x:=by
 unfold rowsOf at h;split at h
 ·cases h
  unfold Go.Sx.Sub;refine⟨fun h=>absurd h Ωi,fun h=>absurd h Ωi,rfl,rfl,hs⟩
 ·split at h
  ·rename_i hb
   cases h;obtain⟨h1,rfl⟩:=ho;simp only[Go.Sx.Sub,hb];exact⟨trivial,trivial,trivial,h1,trivial,hs⟩
  ·cases h
 ·split at h
  ·rename_i hb
   cases h;obtain⟨h1,rfl⟩:=ho;simp only[Go.Sx.Sub,hb];exact⟨trivial,trivial,h1,trivial,hs⟩
  ·cases h
 ·split at h
  ·rename_i hb
   cases h;simp only[Go.Sx.Sub,hb];exact⟨trivial,trivial,trivial,ho,hs⟩
  ·cases h
 ·split at h
  ·rename_i hn
   cases h;simp only[Go.Sx.Sub];exact⟨hn,trivial⟩
  ·cases h
 ·cases h
def qmW(args:List SV)(hp:Tr 6 XB)(nid:Nat)(k:SV→Tr 6 XB→Nat→R):R:=
 match args with
 |[.vec id n 1,.val (.int .i64 (.ofNat i)),.val (.int .i64 (.ofNat j))]=>(match hp.find id with
  |some (.rows 3 1 nn l)=>qg 560 (Nat.ble (Nat.succ i) j) (qg 561 (Nat.ble j n) (qg 562 (Nat.ble n nn) (qg 563 (Nat.ble n 1000) (qdA l (qh (n -(j - i)) fun m=>gy (l.take i++(l.take n).drop j++List.replicate (j - i) (SV.val (.int .i64 (.ofNat 0)))++l.drop n) fun l=>zi (some (.rows 3 1 nn l)) 22 hp id fun hp=>k (.vec id m 1) hp nid)))))
  |_=>.bad 564 0)
 |_=>.bad 565 0
theorem qlk{l:List SV}{i j n nn x:Nat}(hl:l.length=nn)(hij:i<j)(hj:j≤n)(hn:n≤nn)(hx:x<nn):(l.take i++(l.take n).drop j++List.replicate (j - i) (SV.val (.int .i64 (.ofNat 0)))++l.drop n).getD x .top=if n -(j - i)≤x∧x<n then .val (.int .i64 0)else if i≤x∧x<i+(n - j)then l.getD (j+(x - i)) .top else l.getD x .top:=by
 have l1:(l.take i).length=i:=by rw[xd9];omega
 have l2:((l.take n).drop j).length=n - j:=by rw[List.length_drop,xd9];omega
 have l3:(l.take i++(l.take n).drop j).length=n -(j - i):=by rw[xc8,l1,l2];omega
 have l4:(l.take i++(l.take n).drop j++List.replicate (j - i) (SV.val (.int .i64 (.ofNat 0)))).length=n:=by rw[xc8,l3,xd8];omega
 simp only[xc6];by_cases c1:n≤x
 ·rw[xd0 Ω,l4,List.getElem?_drop,if_neg Ω,if_neg Ω,show n+(x - n)=x by omega]
 ·rw[xc9 Ω]
  by_cases c2:n -(j - i)≤x
  ·rw[if_pos ⟨c2,Ω⟩,xd0 Ω,l3,List.getElem?_replicate,if_pos Ω];rfl
  ·rw[if_neg Ω,xc9 Ω]
   by_cases c3:i≤x
   ·rw[if_pos ⟨c3,Ω⟩,xd0 Ω,l1,List.getElem?_drop,List.getElem?_take_of_lt Ω]
   ·rw[if_neg Ω,xc9 Ω,List.getElem?_take_of_lt Ω]
theorem qll:ZZ Tryz.prog 186 qmW:=by
 intro ρ LM O args hp k st K hH h hk;unfold qmW at h;split at h
 ·rename_i oid n i j
  split at h
  ·rename_i nn l hf
   obtain⟨a1,h⟩:=qa h;obtain⟨a2,h⟩:=qa h;obtain⟨a3,h⟩:=qa h;obtain⟨a4,h⟩:=qa h;obtain⟨h,b1⟩:=G6 h;rw[qe,qN]at h;obtain⟨hp1,p1,h⟩:=qI _ _ _ _ h;have hij:i<j:=xa7 a1;have hj:=xa7 a2;have hn:=xa7 a3;have hN:=xa7 a4;obtain⟨row,hb,lr,gr⟩:=hH.rows hf;rw[Nat.mul_one]at lr;intro base okc ns r outs a w vs hI hlen hv;have keys:=hI.keys;have hrow:∀x,x<nn→row x 0=l.getD x .top:=fun x hx=>by
    have:=gr x 0 hx Ω
    rwa [Nat.mul_one,xb1]at this
   have E:=qpj st.hp st.nid oid n nn i j row Ω hn hij hj hb (keys _ _ hb) (fun x hx=>by rw[hrow x Ω];exact b1 x Ω);refine G3 (E O st.fr) (fun st' sv hself hq=>?_) base okc ns r outs a w vs hI hlen hv;obtain⟨fr',hp',nid'⟩:=st';obtain⟨q0,q1,q2,rr,q3,q4⟩:=hq;simp only[]at q0 q1 q2 q4;subst q0 q1 q2 q4;have hval:∀x,x<nn→rr x 0=(l.take i++(l.take n).drop j++List.replicate (j - i) (SV.val (.int .i64 (.ofNat 0)))++l.drop n).getD x .top:=fun x hx=>by
    rw[q3 x hx,qlk lr hij hj hn hx];by_cases c:n -(j - i)≤x∧x<n
    ·rw[if_pos c,if_pos c]
    ·rw[if_neg c,if_neg c]
     unfold jq;by_cases c2:i≤x∧x<i+(n - j)
     ·rw[if_pos c2,if_pos c2,hrow _ Ω]
     ·rw[if_neg c2,if_neg c2,hrow _ hx]
   refine⟨st.nid,setBlk st.hp oid (.rows 3 1 nn rr),.vec oid (n -(j - i)) 1,st.nid,rfl,xa5 _,fun id x hx=>?_,?_,xa5 _,hk _ hp1 _ _ (fun id b hbb=>?_) h⟩
   ·have hx':=hx
    rw[qn]at hx;split at hx
    ·rename_i e
     subst e;rw[hb]at hx;cases hx;refine⟨.inl ⟨keys _ _ hb,hx'⟩,rfl,rfl,xa5 _,fun y z hy hz=>?_⟩;obtain rfl:z=0:=by omega
     rw[q3 y hy];split
     ·simp[Wk]
     ·unfold jq
      split
      ·rw[hrow _ Ω]
       obtain⟨v,hv⟩:=b1 (j+(y - i)) Ω;rw[hv];simp[Wk]
      ·rw[hrow _ hy]
       obtain⟨v,hv⟩:=b1 y Ω;rw[hv];simp[Wk]
    ·exact⟨.inl ⟨keys _ _ hx,hx'⟩,hself _ _ _ (xa5 _) _ _ hx⟩
   ·unfold Wk
    have:=keys _ _ hb;refine⟨this,?_,rfl,rfl⟩;simp only[ren];rw[if_neg Ω]
   ·rw[p1 id]at hbb
    rw[qn];by_cases e:id=oid
    ·rw[if_pos e]at hbb ⊢
     cases hbb;rw[hb];refine⟨_,rfl,rfl,rfl,rfl,?_,fun y z hy hz=>?_⟩
     ·rw[xc8,xc8,xc8,xd9,List.length_drop,xd9,xd8,List.length_drop];omega
     ·obtain rfl:z=0:=by omega
      rw[Nat.mul_one,xb1];exact hval y hy
    ·rw[if_neg e]at hbb ⊢
     exact hH id b hbb
  ·cases h
 ·cases h
def qdE(l:List SV)(f:List Int→R):R:=(List.rec (motive:=fun _=>(List Int→R)→R) (fun f=>f []) (fun a _ ih f=>match a with
 |.val (.int .i64 x)=>Yc x fun x=>ih fun l=>f (x :: l)
 |_=>.bad 570 0) l) f
theorem qad:∀{l:List SV}{f:List Int→R},qdE l f=.ok ρ→∃m,f m=.ok ρ∧m.length=l.length∧∀j,j<l.length→l.getD j .top=.val (.int .i64 (m.getD j 0))
 |[],f,h=>⟨[],h,rfl,fun j hj=>by cases hj⟩
 |a :: l,f,h=>by
  have h:(match (generalizing:=false) a with
   |.val (.int .i64 x)=>Yc x fun x=>qdE l fun l=>f (x :: l)
   |_=>.bad 570 0)=(.ok ρ:R):=h
  split at h
  ·rename_i x _
   rw[jy]at h;obtain⟨m,h1,h2,h3⟩:=qad h;refine⟨x :: m,h1,by simp[h2],fun j hj=>?_⟩;cases j with
   |zero=>rfl
   |succ j=>exact h3 j (Nat.lt_of_succ_lt_succ hj)
  ·cases h
def qbQ(hp:Tr 6 XB)(l:List SV)(f:List (List Int)→R):R:=(List.rec (motive:=fun _=>(List (List Int)→R)→R) (fun f=>f []) (fun a _ ih f=>QQ hp a fun _ k m=>qg 571 (Nat.beq k 1) (qdE m fun x=>ih fun l=>f (x :: l))) l) f
theorem Vl{hp:Tr 6 XB}{LM:Nat→Option Loop}{H:List (Nat×Blk)}(hH:HRel LM hp H):∀{l:List SV}{f:List (List Int)→R},qbQ hp l f=.ok ρ→∃L,f L=.ok ρ∧L.length=l.length∧∀i,i<l.length→Go.Sx.Sub H (.arr false false (L.getD i []).length 1 (fun j _=>.val (.int .i64 ((L.getD i []).getD j 0)))) (l.getD i .top)
 |[],f,h=>⟨[],h,rfl,fun j hj=>by cases hj⟩
 |a :: l,f,h=>by
  have h:QQ hp a (fun _ k m=>qg 571 (Nat.beq k 1) (qdE m fun x=>qbQ hp l fun l=>f (x :: l)))=.ok ρ:=h;obtain⟨obl,n,k,row,m,h1,h2,h3,g1⟩:=vr hH h;obtain⟨e0,g2⟩:=qa g1;have e:=xa6 e0;clear h g1 e0;subst e;obtain⟨x,h,h4,h5⟩:=qad g2;clear g2;obtain⟨L,h,h6,h7⟩:=Vl hH h;refine⟨x :: L,h,by simp[h6],fun i hi=>?_⟩;cases i with
  |zero=>
   show Go.Sx.Sub H (.arr false false x.length 1 (fun j _=>.val (.int .i64 (x.getD j 0)))) a;have hx:x.length=n:=by rw[h4,h3.1,Nat.mul_one]
   rw[hx];refine qac h1 h2 fun y z hy hz=>?_;obtain rfl:z=0:=by omega
   have:=h3.2 y 0 hy Ω;rw[Nat.mul_one,xb1,h5 y Ω]at this;rw[this];simp[Go.Sx.Sub]
  |succ i=>exact h7 i (Nat.lt_of_succ_lt_succ hi)
theorem Vm(L:List (List Int)):∀k,k≤L.length→jg (fun i=>L.getD i []) k=(L.take k).flatten
 |0,_=>rfl
 |k+1,h=>by
  rw[k9,Vm L k Ω,List.take_succ_eq_append_getElem Ω,List.flatten_append,xc6,xc7 Ω];simp
def svI(l:List Int):List SV:=l.map fun n=>.val (.int .i64 n)
theorem qlm{l:List Int}{i:Nat}(h:i<l.length):(svI l).getD i .top=.val (.int .i64 (l.getD i 0)):=by
 unfold svI;rw[xc6,xc6,List.getElem?_map,xc7 h];rfl
def qmX(args:List SV)(hp:Tr 6 XB)(nid:Nat)(k:SV→Tr 6 XB→Nat→R):R:=
 match args with
 |[x]=>QQ hp x fun n k1 l=>qg 572 (Nat.beq k1 1) (qg 573 (Nat.ble n 10000) (qbQ hp l fun L=>yD (svI L.flatten) fun o=>qh o.length fun m=>qg 574 (Nat.ble 1 m) (qg 575 (Nat.ble m 100000) (qh nid fun nid=>zi (some (.rows 3 1 m o)) 22 hp nid fun hp=>qh (Nat.succ nid) fun n2=>k (.vec nid m 1) hp n2))))
 |_=>.bad 576 0
theorem qln:ZZ Tryz.prog 359 qmX:=by
 intro ρ LM O args hp k st K hH h hk;unfold qmX at h;split at h
 ·rename_i x
  obtain⟨obl,n,k1,row,l,h1,h2,h3,g1⟩:=vr hH h;obtain⟨e0,g2⟩:=qa g1;obtain⟨a1,g3⟩:=qa g2;have e:=xa6 e0;clear h g1 g2 e0;subst e;obtain⟨L,h,h6,h7⟩:=Vl hH g3;clear g3;rw[kd,qe]at h;obtain⟨a2,h⟩:=qa h;obtain⟨a3,h⟩:=qa h;rw[qe]at h;obtain⟨hp1,p1,h⟩:=qI _ _ _ _ h;rw[qe]at h;have hn:=xa7 a1;have hm1:=xa7 a2;have hm2:=xa7 a3;have hLn:L.length=n:=by rw[h6,h3.1,Nat.mul_one]
  have hcat:jg (fun i=>L.getD i []) n=L.flatten:=by
   rw[Vm L n Ω,←hLn,List.take_length]
  have hsl:(svI L.flatten).length=L.flatten.length:=by unfold svI;rw[xe1]
  have C:=qpl n (fun i=>L.getD i []) hn (by rw[hcat];omega) (by rw[hcat];omega);rw[hcat]at C;refine qjb C (.inl ⟨?_,by simp[FreshO],by simp[FreshB,Fresh]⟩) ?_
  ·simp only[SubL,and_true]
   exact qac h1 h2 fun i j hi hj=>by
    obtain rfl:j=0:=by omega
    have:=h3.2 i 0 hi Ω;rw[Nat.mul_one,xb1]at this;rw[this];exact h7 i Ω
  ·rw[show setId st.nid (.vec 0 L.flatten.length 1)=.vec st.nid (svI L.flatten).length 1 by simp[setId,hsl]]
   refine hk _ hp1 _ _ (fun id b hb=>?_) h;rw[p1 id]at hb;simp only[blk];by_cases e:id=st.nid
   ·rw[if_pos e]at hb ⊢
    cases hb;refine⟨_,rfl,rfl,rfl,by rw[hsl],Ωi,fun i j hi hj=>?_⟩;obtain rfl:j=0:=by omega
    rw[Nat.mul_one,xb1,qlm Ω]
   ·rw[if_neg e]at hb ⊢
    exact hH id b hb
 ·cases h
end
end Go.Sx
end
