/- A part of the proof. -/
import Derived.Test.YtacejomniokahaaGreatProg
import Derived.Test.YtacejomniokahaaGreatPF
import Derived.Test.YtacejomniokahaaGreatPE
import Derived.Test.YtacejomniokahaaGreatPC
open Nat renaming reduceMul→xa0,reduceAdd→xa1,reduceEqDiff→xa2,reduceLT→xa3,reduceLeDiff→xa4,le_refl→xa5,eq_of_beq_eq_true→xa6,le_of_ble_eq_true→xa7,mul_le_mul_right→xa8,zero_add→xb0,add_zero→xb1,add_assoc→xb2,lt_irrefl→xb4,lt_succ_self→xb5,zero_le→xb6,sub_self→xb8,le_trans→xc1,le_succ→xc4
open List renaming getD_eq_getElem?_getD→xc6,getElem?_eq_getElem→xc7,length_append→xc8,getElem?_append_left→xc9,getElem?_append_right→xd0,length_singleton→xd1,append_nil→xd3,mem_append→xd4,mem_cons_self→xd5,getElem?_cons_succ→xd7,length_replicate→xd8,length_take→xd9,mem_singleton→xe0,length_map→xe1,getElem?_toArray→xe2,length_cons→xe4
open Bool renaming and_eq_true→xe6,false_eq_true→xe7,and_true→xf1,or_false→xf3,false_or→xf4
open Array renaming getD_eq_getD_getElem?→xf5,length_toList→xf7
open Classical renaming byContradiction→xf9
open Option renaming map_some→xg1
set_option linter.unusedVariables false
set_option linter.unusedSimpArgs false
set_option linter.defProp false
set_option maxRecDepth 1000000
set_option maxHeartbeats 16000000
section
namespace Go.Sx
open Go.Proofs
open Go.RowKit Go.Tn
noncomputable section
variable{ρ:Q}
theorem Vq:∀(l:List (List Nat))(i:Nat)(t:Tr 4 Nat)(f:Tr 4 Nat→R),qbW l i t f=.ok ρ→∃t',f t'=.ok ρ
 |[],i,t,f,h=>⟨t,h⟩
 |a :: l,i,t,f,h=>by
  have h:zs (some 0) 22 t i (fun t=>ql (Nat.succ i) fun i=>qbW l i t f)=.ok ρ:=h;obtain⟨t1,_,h⟩:=qM _ _ _ _ h;rw[qi]at h;exact Vq l _ _ f h
theorem KJ:∀(l:List (List Nat))(i:Nat)(t:Tr 4 Nat)(f:Tr 4 Nat→Nat→R)(c:Nat),WC l i t f c=.ok ρ→∃t' c',f t' c'=.ok ρ
 |[],i,t,f,c,h=>⟨t,c,h⟩
 |a :: l,i,t,f,c,h=>by
  have h:ql (Nat.succ i) (fun i1=>Option.rec (.bad 452 0) (fun x=>Nat.rec (ql (Zr t a) fun m=>Nat.rec (WC l i1 t f c) (fun _ _=>ql (Nat.succ c) fun c=>zs (some m) 22 t i fun t=>WC l i1 t f c) m) (fun _ _=>WC l i1 t f c) x) (t.find i))=(.ok ρ:R):=h;rw[qi]at h;generalize t.find i=o at h;cases o with
  |none=>cases h
  |some x=>
   cases x with
   |succ y=>exact KJ l _ _ f _ h
   |zero=>
    have h:ql (Zr t a) (fun m=>Nat.rec (WC l (Nat.succ i) t f c) (fun _ _=>ql (Nat.succ c) fun c=>zs (some m) 22 t i fun t=>WC l (Nat.succ i) t f c) m)=(.ok ρ:R):=h;rw[qi]at h;generalize Zr t a=m at h;cases m with
    |zero=>exact KJ l _ _ f _ h
    |succ m=>
     have h:ql (Nat.succ c) (fun c=>zs (some (m+1)) 22 t i fun t=>WC l (Nat.succ i) t f c)=(.ok ρ:R):=h;rw[qi]at h;obtain⟨t1,_,h⟩:=qM _ _ _ _ h;exact KJ l _ _ f _ h
theorem qdI(l:List (List Nat)):∀(n:Nat)(t:Tr 4 Nat)(f:Tr 4 Nat→R),qmO l n t f=.ok ρ→∃t',f t'=.ok ρ
 |0,t,f,h=>by cases h
 |n+1,t,f,h=>by
  have h:WC l 0 t (fun t c=>Nat.rec (f t) (fun _ _=>qmO l n t f) c) 0=(.ok ρ:R):=h;obtain⟨t',c',h⟩:=KJ _ _ _ _ _ h;cases c' with
  |zero=>exact⟨t',h⟩
  |succ c=>exact qdI l n _ f h
def JG(x:Nat):Int:=(x:Int) - 1
theorem qkQ(x:Nat):qfw x=.val (.int .i64 (JG x)):=by
 cases x with
 |zero=>rfl
 |succ y=>
  show SV.val (.int .i64 (Int.ofNat y))=_;have e:JG (y+1)=Int.ofNat y:=by unfold JG;show((y+1:Nat):Int) - 1=(y:Int);omega
  rw[e]
def FF(t:Tr 4 Nat)(i:Nat):Int:=JG ((t.find i).getD 0)
def WD(t:Tr 4 Nat)(l:List Nat)(m:Nat):Nat:=List.rec (motive:=fun _=>Nat→Nat) (fun m=>m) (fun a _ ih m=>Option.rec 0 (fun x=>Nat.rec 0 (fun y _=>ql (Nat.max m (Nat.succ x)) fun m=>ih m) x) (t.find a)) l m
theorem qmP(t:Tr 4 Nat)(l:List Nat):Zr t l=WD t l 1:=rfl
theorem Vr(t:Tr 4 Nat)(a:Nat)(l:List Nat)(m:Nat):WD t (a :: l) m=if 0≤FF t a then WD t l (max m ((FF t a).toNat+2))else 0:=by
 show(Option.rec 0 (fun x=>Nat.rec 0 (fun y _=>ql (Nat.max m (Nat.succ x)) fun m=>WD t l m) x) (t.find a):Nat)=_;unfold FF JG;generalize t.find a=o;cases o with
 |none=>rw[if_neg Ωr]
 |some x=>
  cases x with
  |zero=>rw[if_neg Ωr];rfl
  |succ y=>
   rw[if_pos (by show(0:Int)≤((y+1:Nat):Int) - 1;omega)];show ql (Nat.max m (y+1+1)) (fun m=>WD t l m)=_;rw[qi];have e:(((some (y+1)).getD 0:Nat) - 1:Int).toNat=y:=by
    show(((y+1:Nat):Int) - 1).toNat=y;omega
   rw[e]
theorem Vs(t:Tr 4 Nat):∀(l:List Nat)(m:Nat),(∃a,a∈l∧FF t a<0)→WD t l m=0
 |[],m,⟨a,h,_⟩=>by cases h
 |b :: l,m,⟨a,h,hn⟩=>by
  rw[Vr];split
  ·rename_i h0
   rcases List.mem_cons.1 h with rfl|h
   ·omega
   ·exact Vs t l _ ⟨a,h,hn⟩
  ·rfl
theorem Vt(t:Tr 4 Nat):∀(l:List Nat)(m:Nat),(∀a,a∈l→0≤FF t a)→m≤WD t l m∧(∀a,a∈l→FF t a+2≤WD t l m)∧∀X:Nat,m≤X→(∀a,a∈l→FF t a+2≤X)→WD t l m≤X
 |[],m,_=>⟨xa5 _,fun a h=>(by cases h),fun X h _=>h⟩
 |b :: l,m,h=>by
  have h0:=h b xd5;rw[Vr,if_pos h0];have⟨h1,h2,h3⟩:=Vt t l (max m ((FF t b).toNat+2)) fun a ha=>h a (List.mem_cons_of_mem _ ha);refine⟨Ω,fun a ha=>?_,fun X hX hA=>h3 X ?_ fun a ha=>hA a (List.mem_cons_of_mem _ ha)⟩
  ·rcases List.mem_cons.1 ha with rfl|ha
   ·omega
   ·exact h2 a ha
  ·have:=hA b xd5;omega
theorem qiM{F:Nat→Int}{to:Nat→Nat}{X:Int}(hX:0≤X):∀{m:Nat},(∀j,j<m→F (to j)+1≤X)→mxF F to m≤X
 |0,_=>hX
 |m+1,h=>by
  have h1:=qiM hX (m:=m) fun j hj=>h j Ω;have h2:=h m Ω;rw[GW];omega
theorem qlU{F:Nat→Int}{to:Nat→Nat}:∀{m:Nat},0≤mxF F to m
 |0=>Int.le_refl _
 |m+1=>by have:=qlU (F:=F) (to:=to) (m:=m);rw[GW];omega
theorem qac{t:Tr 4 Nat}{l:List Nat}{i:Nat}(h:(t.find i).getD 0=Zr t l):(0≤FF t i↔∀j,j<l.length→0≤FF t (l.getD j 0))∧(0≤FF t i→FF t i=mxF (FF t) (fun j=>l.getD j 0) l.length):=by
 have hF:FF t i=(Zr t l:Int) - 1:=by unfold FF JG;rw[h]
 rw[qmP]at hF;have mem:∀j,j<l.length→l.getD j 0∈l:=fun j hj=>by
  rw[xc6,xc7 hj];exact List.getElem_mem _
 have idx:∀a,a∈l→∃j,j<l.length∧l.getD j 0=a:=fun a ha=>by
  obtain⟨j,hj,e⟩:=List.getElem_of_mem ha;exact⟨j,hj,by rw[xc6,xc7 hj];exact e⟩
 by_cases hA:∀a,a∈l→0≤FF t a
 ·have⟨h1,h2,h3⟩:=Vt t l 1 hA
  refine⟨⟨fun _ j hj=>hA _ (mem j hj),fun _=>by omega⟩,fun _=>?_⟩;have le1:mxF (FF t) (fun j=>l.getD j 0) l.length≤FF t i:=qiM Ω fun j hj=>by
   have:=h2 _ (mem j hj);omega
  have hm0:=qlU (F:=FF t) (to:=fun j=>l.getD j 0) (m:=l.length);have le2:=h3 (mxF (FF t) (fun j=>l.getD j 0) l.length+1).toNat Ω fun a ha=>by
   obtain⟨j,hj,e⟩:=idx a ha;have:=qhJ (F:=FF t) (to:=fun j=>l.getD j 0) hj;simp only[e]at this;omega
  omega
 ·have hn:∃a,a∈l∧FF t a<0:=by
   refine xf9 fun hc=>hA fun a ha=>?_;refine xf9 fun h0=>hc ⟨a,ha,Ω⟩
  have e:=Vs t l 1 hn;rw[e]at hF;obtain⟨a,ha,hneg⟩:=hn;obtain⟨j,hj,e2⟩:=idx a ha;refine⟨⟨fun h0=>by omega,fun h0=>?_⟩,fun h0=>by omega⟩;have:=h0 j hj;rw[e2]at this;omega
def ltK(N:Nat)(l:List Nat)(r:R):R:=List.rec r (fun a _ ih=>qk 480 (Nat.ble (Nat.succ a) N) ih) l
theorem WE{N:Nat}{r:R}:∀{l:List Nat},ltK N l r=.ok ρ→r=.ok ρ∧∀a,a∈l→a<N
 |[],h=>⟨h,fun a ha=>by cases ha⟩
 |a :: l,h=>by
  have h:qk 480 (Nat.ble (Nat.succ a) N) (ltK N l r)=.ok ρ:=h;obtain⟨h1,h⟩:=qe h;obtain⟨h2,h3⟩:=WE h;exact⟨h2,fun b hb=>by
   rcases List.mem_cons.1 hb with rfl|hb
   ·exact xa7 h1
   ·exact h3 b hb⟩
def qkR(t:Tr 4 Nat)(N:Nat)(L:List (List Nat))(i:Nat)(r:R):R:=List.rec (motive:=fun _=>Nat→R) (fun _=>r) (fun a _ ih i=>ql (Zr t a) fun m=>qk 481 (Nat.ble m 1000000) (Option.rec (.bad 482 0) (fun x=>qk 483 (Nat.beq x m) (ltK N a (ql (Nat.succ i) fun i=>ih i))) (t.find i))) L i
theorem qdJ{t:Tr 4 Nat}{N:Nat}{r:R}:∀{L:List (List Nat)}{i:Nat},qkR t N L i r=.ok ρ→r=.ok ρ∧∀j,j<L.length→(t.find (i+j)).getD 0=Zr t (L.getD j [])∧Zr t (L.getD j [])≤1000000∧∀a,a∈L.getD j []→a<N
 |[],i,h=>⟨h,fun j hj=>by cases hj⟩
 |a :: L,i,h=>by
  have h:ql (Zr t a) (fun m=>qk 481 (Nat.ble m 1000000) (Option.rec (.bad 482 0) (fun x=>qk 483 (Nat.beq x m) (ltK N a (ql (Nat.succ i) fun i=>qkR t N L i r))) (t.find i)))=(.ok ρ:R):=h;rw[qi]at h;obtain⟨h1,h⟩:=qe h;cases hf:t.find i with
  |none=>rw[hf]at h;cases h
  |some x=>
   rw[hf]at h;have h:qk 483 (Nat.beq x (Zr t a)) (ltK N a (ql (Nat.succ i) fun i=>qkR t N L i r))=.ok ρ:=h;obtain⟨h2,h⟩:=qe h;obtain⟨h,h3⟩:=WE h;rw[qi]at h;obtain⟨h,h4⟩:=qdJ h;refine⟨h,fun j hj=>?_⟩;cases j with
   |zero=>exact⟨by rw[xb1,hf];exact xa6 h2,xa7 h1,h3⟩
   |succ j=>
    have:=h4 j (Nat.lt_of_succ_lt_succ hj);rw[show i+(j+1)=Nat.succ i+j by omega];exact this
theorem qad{t:Tr 4 Nat}:∀{L:List (List Nat)}{i:Nat}{f:List SV→R},qdG t L i f=.ok ρ→∃m,f m=.ok ρ∧m.length=L.length∧∀j,j<L.length→m.getD j .top=.val (.int .i64 (FF t (i+j)))
 |[],i,f,h=>⟨[],h,rfl,fun j hj=>by cases hj⟩
 |a :: L,i,f,h=>by
  have h:ql (Nat.succ i) (fun i1=>Option.rec (.bad 454 0) (fun x=>ql x fun x=>qdG t L i1 fun m=>f (qfw x :: m)) (t.find i))=(.ok ρ:R):=h;rw[qi]at h;cases hf:t.find i with
  |none=>rw[hf]at h;cases h
  |some x=>
   rw[hf]at h;have h:ql x (fun x=>qdG t L (Nat.succ i) fun m=>f (qfw x :: m))=(.ok ρ:R):=h;rw[qi]at h;obtain⟨m,h1,h2,h3⟩:=qad h;refine⟨qfw x :: m,h1,by simp[h2],fun j hj=>?_⟩;cases j with
   |zero=>
    show qfw x=_;rw[qkQ,xb1];unfold FF;rw[hf];rfl
   |succ j=>
    show m.getD j .top=_;rw[h3 j (Nat.lt_of_succ_lt_succ hj),show i+(j+1)=Nat.succ i+j by omega]
theorem Je{t:Tr 4 Nat}:∀{es:List (Value×Option SV)}{f:List (Value×Option SV)→R},qdH t es f=.ok ρ→f (es.filter fun p=>decide ((t.find (qfx p.1)).getD 0=0))=.ok ρ
 |[],f,h=>h
 |p :: es,f,h=>by
  have h:ql (qfx p.1) (fun i=>Option.rec (.bad 455 0) (fun x=>Nat.rec (qdH t es fun l=>f (p :: l)) (fun _ _=>qdH t es f) x) (t.find i))=(.ok ρ:R):=h;rw[qi]at h;cases hf:t.find (qfx p.1)with
  |none=>rw[hf]at h;cases h
  |some x=>
   rw[hf]at h;cases x with
   |zero=>
    have h:=Je (f:=fun l=>f (p :: l)) h;rw[List.filter_cons_of_pos (by rw[hf];rfl)];exact h
   |succ y=>
    have h:=Je (f:=f) h;rw[List.filter_cons_of_neg (by rw[hf];simp)];exact h
def qae(l:List SV)(f:List Nat→R):R:=(List.rec (motive:=fun _=>(List Nat→R)→R) (fun f=>f []) (fun a _ ih f=>match a with
 |.val (.int .i64 (.ofNat n))=>ih fun l=>f (n :: l)
 |_=>.bad 484 0) l) f
theorem Zs:∀{l:List SV}{f:List Nat→R},qae l f=.ok ρ→∃m,f m=.ok ρ∧m.length=l.length∧∀j,j<l.length→l.getD j .top=.val (.int .i64 (m.getD j 0:Nat))
 |[],f,h=>⟨[],h,rfl,fun j hj=>by cases hj⟩
 |a :: l,f,h=>by
  have h:(match (generalizing:=false) a with
   |.val (.int .i64 (.ofNat n))=>qae l fun l=>f (n :: l)
   |_=>.bad 484 0)=(.ok ρ:R):=h
  split at h
  ·rename_i n _
   obtain⟨m,h1,h2,h3⟩:=Zs h;refine⟨n :: m,h1,by simp[h2],fun j hj=>?_⟩;cases j with
   |zero=>rfl
   |succ j=>exact h3 j (Nat.lt_of_succ_lt_succ hj)
  ·cases h
def qdK(hp:Tr 6 XB)(rid:Nat)(a:SV)(g:List Nat→R):R:=match a with
 |.val (.slice none 0 0)=>g []
 |.vec xi n 1=>(match hp.find xi with
  |some (.rows 3 1 n' l)=>qk 485 (Nat.beq n n') (qk 486 (Nat.ble n 5) (qk 487 (Bool.not (Nat.beq xi rid)) (qae l g)))
  |_=>.bad 488 0)
 |_=>.bad 489 0
theorem qiN{hp:Tr 6 XB}{rid:Nat}{a:SV}{g:List Nat→R}(h:qdK hp rid a g=.ok ρ):∃m,g m=.ok ρ∧((a=.val (.slice none 0 0)∧m=[])∨∃xi n l,a=.vec xi n 1∧n≤5∧xi≠rid∧hp.find xi=some (.rows 3 1 n l)∧m.length=l.length∧∀j,j<l.length→l.getD j .top=.val (.int .i64 (m.getD j 0:Nat))):=by
 unfold qdK at h;split at h
 ·exact⟨[],h,.inl ⟨rfl,rfl⟩⟩
 ·rename_i xi n
  split at h
  ·rename_i n' l hf
   obtain⟨h1,h⟩:=qe h;obtain⟨h2,h⟩:=qe h;obtain⟨h3,h⟩:=qe h;obtain⟨m,h4,h5,h6⟩:=Zs h;have e:=xa6 h1;subst e;refine⟨m,h4,.inr ⟨xi,n,l,rfl,xa7 h2,fun e=>?_,hf,h5,h6⟩⟩;rw[e]at h3;have:Nat.beq rid rid=true:=Nat.beq_refl _;rw[this]at h3;cases h3
  ·cases h
 ·cases h
def Jf(hp:Tr 6 XB)(rid:Nat)(xs:List SV)(f:List (List Nat)→R):R:=(List.rec (motive:=fun _=>(List (List Nat)→R)→R) (fun f=>f []) (fun a _ ih f=>qdK hp rid a fun x=>ih fun l=>f (x :: l)) xs) f
theorem yD{hp:Tr 6 XB}{rid:Nat}:∀{xs:List SV}{f:List (List Nat)→R},Jf hp rid xs f=.ok ρ→∃L,f L=.ok ρ∧L.length=xs.length∧∀i,i<xs.length→((xs.getD i .top=.val (.slice none 0 0)∧L.getD i []=[])∨∃xi n l,xs.getD i .top=.vec xi n 1∧n≤5∧xi≠rid∧hp.find xi=some (.rows 3 1 n l)∧(L.getD i []).length=l.length∧∀j,j<l.length→l.getD j .top=.val (.int .i64 ((L.getD i []).getD j 0:Nat)))
 |[],f,h=>⟨[],h,rfl,fun j hj=>by cases hj⟩
 |a :: xs,f,h=>by
  have h:qdK hp rid a (fun x=>Jf hp rid xs fun l=>f (x :: l))=.ok ρ:=h;obtain⟨m,h,h1⟩:=qiN h;obtain⟨L,h,h2,h3⟩:=yD h;refine⟨m :: L,h,by simp[h2],fun i hi=>?_⟩;cases i with
  |zero=>exact h1
  |succ i=>exact h3 i (Nat.lt_of_succ_lt_succ hi)
def qiO(l:List SV)(r:R):R:=List.rec r (fun a _ ih=>match a with
 |.val (.int .i64 (.negSucc 0))=>ih
 |_=>.bad 490 0) l
theorem qaf{r:R}:∀{l:List SV},qiO l r=.ok ρ→r=.ok ρ∧∀j,j<l.length→l.getD j .top=.val (.int .i64 (-1))
 |[],h=>⟨h,fun j hj=>by cases hj⟩
 |a :: l,h=>by
  have h:(match (generalizing:=false) a with
   |.val (.int .i64 (.negSucc 0))=>qiO l r
   |_=>.bad 490 0)=(.ok ρ:R):=h
  split at h
  ·obtain⟨h1,h2⟩:=qaf h
   refine⟨h1,fun j hj=>?_⟩;cases j with
   |zero=>rfl
   |succ j=>exact h2 j (Nat.lt_of_succ_lt_succ hj)
  ·cases h
def qkS(p:Value×Option SV)(i:Nat)(r:R):R:=match p with
 |(.agg c,some _)=>(match c.toList with
  |[.int .i64 _,.int .i64 _,.int .i64 _,.int .i64 _,.int .i64 _,.int .i64 (.ofNat n)]=>qk 491 (Nat.beq (Nat.succ n) i) r
  |_=>.bad 492 0)
 |_=>.bad 493 0
theorem qkT{p:Value×Option SV}{i:Nat}{r:R}(h:qkS p i r=.ok ρ):r=.ok ρ∧0<i∧∃f s,p=(kp f (i - 1),some s):=by
 unfold qkS at h;split at h
 ·rename_i c s
  split at h
  ·rename_i a b c' d e n hc
   obtain⟨h1,h9⟩:=qe h;have e1:=xa6 h1;subst e1;refine⟨h9,Nat.succ_pos _,fun j=>if j=0 then a else if j=1 then b else if j=2 then c' else if j=3 then d else e,s,?_⟩;have:c = #[.int .i64 a,.int .i64 b,.int .i64 c',.int .i64 d,.int .i64 e,.int .i64 (.ofNat n)]:=by
    apply Array.toList_inj.1;rw[hc]
   rw[this];rfl
  ·cases h
 ·cases h
def qiP(es:List (Value×Option SV))(i:Nat)(r:R):R:=List.rec (motive:=fun _=>Nat→R) (fun _=>r) (fun p _ ih i=>qkS p i (ql (Nat.pred i) fun i=>ih i)) es i
theorem qag{r:R}:∀{es:List (Value×Option SV)}{i:Nat},qiP es i r=.ok ρ→r=.ok ρ∧∀j,j<es.length→j<i∧∃f s,es[j]? = some (kp f (i - 1 - j),some s)
 |[],i,h=>⟨h,fun j hj=>by cases hj⟩
 |p :: es,i,h=>by
  have h:qkS p i (ql (Nat.pred i) fun i=>qiP es i r)=.ok ρ:=h;obtain⟨h,h0,f,s,h1⟩:=qkT h;rw[qi]at h;obtain⟨h,h2⟩:=qag h;refine⟨h,fun j hj=>?_⟩;cases j with
  |zero=>exact⟨h0,f,s,by rw[h1];rfl⟩
  |succ j=>
   obtain⟨h4,f,s,h3⟩:=h2 j (Nat.lt_of_succ_lt_succ hj);have h4:j<i - 1:=h4;exact⟨Ω,f,s,by rw[xd7,h3,show i - 1 -(j+1)=Nat.pred i - 1 - j by show i - 1 -(j+1)=i - 1 - 1 - j;omega]⟩
structure Uq(es:List (Value×Option SV)):Prop where
 key:∀p,p∈es→∃f n s,p=(kp f n,some s)
 pw:es.Pairwise fun p q=>zN p.1≠zN q.1
theorem ye:∀{es:List (Value×Option SV)}(h:Uq es){v:Value}{s:SV},vv es v=some s↔(v,some s)∈es
 |[],_,v,s=>⟨fun h=>(by cases h),fun h=>(by cases h)⟩
 |p :: es,h,v,s=>by
  obtain⟨f,n,s',rfl⟩:=h.key p xd5;have h2:=List.pairwise_cons.1 h.pw;have ih:=ye (es:=es) ⟨fun q hq=>h.key q (List.mem_cons_of_mem _ hq),h2.2⟩ (v:=v) (s:=s);rw[wc];split
  ·rename_i he
   have e:=eqK_kp.1 he;subst e;constructor
   ·intro e
    have e:some s'=some s:=e;rw[e];exact xd5
   ·intro hm
    rcases List.mem_cons.1 hm with e|hm
    ·exact(congrArg Prod.snd e).symm
    ·exact(h2.1 _ hm rfl).elim
  ·rename_i he
   rw[ih,List.mem_cons];constructor
   ·exact .inr
   ·rintro(e|e)
    ·exact absurd (eqK_kp.2 (congrArg Prod.fst e)) he
    ·exact e
theorem Uq.isSome{es:List (Value×Option SV)}(h:Uq es){v:Value}:(vv es v).isSome=true↔∃s,(v,some s)∈es:=by
 constructor
 ·intro hs
  obtain⟨s,e⟩:=Option.isSome_iff_exists.1 hs;exact⟨s,(ye h).1 e⟩
 ·rintro⟨s,e⟩
  rw[(ye h).2 e];rfl
theorem Uq.of{es:List (Value×Option SV)}(h:∀j,j<es.length→∃f s,es[j]? = some (kp f (es.length - 1 - j),some s)):Uq es:=by
 refine⟨fun p hp=>?_,?_⟩
 ·obtain⟨j,hj,e⟩:=List.getElem_of_mem hp
  obtain⟨f,s,e2⟩:=h j hj;rw[xc7 hj,e]at e2;exact⟨f,_,s,Option.some.inj e2⟩
 ·rw[List.pairwise_iff_getElem]
  intro i j hi hj hij;obtain⟨f,s,e⟩:=h i hi;obtain⟨g,u,e2⟩:=h j hj;rw[xc7 hi]at e;rw[xc7 hj]at e2;rw[Option.some.inj e,Option.some.inj e2,wj,wj];omega
def qiQ(args:List SV)(hp:Tr 6 XB)(nid:Nat)(k:SV→Tr 6 XB→Nat→R):R:=
 match args with
 |[.ptr tb 0]=>(match hp.find tb with
  |some (.cells 253 [_,_,.vec xid n 1,.vec rid n' 1,.mp mid])=>(match hp.find xid,hp.find rid,hp.find mid with
   |some (.rows 22 1 n1 xs),some (.rows 3 1 n2 rs),some (.map true [.i .i64,.i .i64,.i .i64,.i .i64,.i .i64,.i .i64] es)=>
    qk 494 (Nat.beq n' n) (qk 495 (Nat.beq n1 n) (qk 496 (Nat.beq n2 n) (qk 497 (Nat.ble n 100000) (qk 498 (Nat.beq es.length n) (qiO rs (Jf hp rid xs fun L=>qbW L 0 .nil fun t=>qmO L (L.length+2) t fun t=>qkR t n L 0 (qiP es n (qdG t L 0 fun rs=>qdH t es fun es=>
     zs (some (.rows 3 1 n rs)) 22 hp rid fun hp=>zs (some (.map true [.i .i64,.i .i64,.i .i64,.i .i64,.i .i64,.i .i64] es)) 22 hp mid fun hp=>k (.tup []) hp nid))))))))
   |_,_,_=>.bad 456 0)
  |_=>.bad 457 0)
 |_=>.bad 458 0
theorem qiR:Kk Tryz.prog 163 qiQ:=by
 intro ρ LM O args hp k st K hH h hk;unfold qiQ at h;split at h
 ·rename_i tb
  split at h
  ·rename_i A Z xid N rid n' mid hft
   split at h
   ·rename_i n1 xs n2 rs es hfx hfr hfm
    obtain⟨a1,h⟩:=qe h;obtain⟨a2,h⟩:=qe h;obtain⟨a3,h⟩:=qe h;obtain⟨a4,h⟩:=qe h;obtain⟨a5,h⟩:=qe h;have e1:=xa6 a1;have e2:=xa6 a2;have e3:=xa6 a3;have hN:=xa7 a4;have hL:=xa6 a5;subst e1 e2 e3;obtain⟨h,b1⟩:=qaf h;obtain⟨L,h,b2,b3⟩:=yD h;obtain⟨t0,h⟩:=Vq _ _ _ _ h;obtain⟨t,h⟩:=qdI _ _ _ _ h;obtain⟨h,b4⟩:=qdJ h;obtain⟨h,b5⟩:=qag h;obtain⟨rs',h,b6,b7⟩:=qad h;have h:=Je h;obtain⟨hp1,p1,h⟩:=qM _ _ _ _ h;obtain⟨hp2,p2,h⟩:=qM _ _ _ _ h;obtain⟨rowx,hbx,lx,gx⟩:=hH.rows hfx;obtain⟨rowr,hbr,lr,gr⟩:=hH.rows hfr;obtain⟨dom,get,hbm,hd⟩:=hH.map hfm;have hbt:=hH.cells hft;have uq:Uq es:=Uq.of fun j hj=>by rw[hL];exact(b5 j hj).2
    have hdm:∀v,dom v=true↔∃s,(v,some s)∈es:=fun v=>by rw[(hd v).1];exact uq.isSome
    have hidx:∀v,dom v=true→zN v<n2∧∃f,v=kp f (zN v)∧∃s,es[n2 - 1 - zN v]? = some (v,some s):=fun v hv=>by
     obtain⟨s,hm⟩:=(hdm v).1 hv;obtain⟨j,hj,e⟩:=List.getElem_of_mem hm;obtain⟨_,f,s2,e2⟩:=b5 j hj;rw[xc7 hj,e]at e2;have e3:=congrArg Prod.fst (Option.some.inj e2);have e3:v=kp f (n2 - 1 - j):=e3;subst e3;rw[wj];exact⟨Ω,f,rfl,s,by rw[show n2 - 1 -(n2 - 1 - j)=j by omega,xc7 hj,e]⟩
    intro base okc ns r outs a w vs hI hlen hv;have keys:=hI.keys;have b3':∀i,i<n2→((L.getD i []).length=0∧rowx i 0=.val (.slice none 0 0))∨∃xi r,rowx i 0=.vec xi (L.getD i []).length 1∧(L.getD i []).length≤5∧blk st.hp xi=some (.rows 3 1 (L.getD i []).length r)∧(xi≠tb∧xi≠xid∧xi≠rid∧xi≠mid∧xi<st.nid)∧∀j,j<(L.getD i []).length→r j 0=.val (.int .i64 ((L.getD i []).getD j 0:Nat)):=fun i hi=>by
     have gxi:=gx i 0 hi Ω;rw[Nat.mul_one,xb1]at gxi;rcases b3 i Ω with⟨c1,c2⟩|⟨xi,n,l,c1,c2,c3,c4,c5,c6⟩
     ·exact .inl ⟨by rw[c2];rfl,by rw[gxi,c1]⟩
     ·obtain⟨r,d1,d2,d3⟩:=hH.rows c4
      have el:(L.getD i []).length=n:=by omega
      refine .inr ⟨xi,r,by rw[gxi,c1,el],Ω,by rw[d1,el],⟨fun e=>?_,fun e=>?_,c3,fun e=>?_,keys _ _ d1⟩,fun j hj=>?_⟩
      ·rw[e,hbt]at d1;cases d1
      ·rw[e,hbx]at d1;cases d1
      ·rw[e,hbm]at d1;cases d1
      ·rw[d3 j 0 Ω Ω,Nat.mul_one,xb1]
       exact c6 j Ω
    have b4':∀i,i<n2→(t.find i).getD 0=Zr t (L.getD i [])∧Zr t (L.getD i [])≤1000000∧∀a,a∈L.getD i []→a<n2:=fun i hi=>by
     have:=b4 i Ω
     rwa [xb0]at this
    have hl:Hl n2 (fun i=>(L.getD i []).length) (fun i j=>(L.getD i []).getD j 0) (FF t) dom rowx st.hp st.nid tb xid rid mid:=by
     refine⟨⟨fun i hi=>?_,fun i hi=>?_,fun i j hi hj=>?_,fun i hi=>(qac (b4' i hi).1).1,fun i hi=>(qac (b4' i hi).1).2⟩,hN,fun i hi=>?_,fun v hv=>?_,fun v v' h1 h2 h3=>?_,fun i hi=>?_,fun i hi=>?_,keys _ _ hbt,keys _ _ hbx,keys _ _ hbr,keys _ _ hbm,?_,?_,?_,?_,?_,?_,fun k x hx=>keys k x hx⟩
     ·unfold FF JG;omega
     ·have⟨c1,c2,_⟩:=b4' i hi
      unfold FF JG;rw[c1];omega
     ·refine(b4' i hi).2.2 _ ?_
      have hj:j<(L.getD i []).length:=hj;show(L.getD i []).getD j 0∈L.getD i [];rw[xc6 (l:=L.getD i []),xc7 hj];exact List.getElem_mem _
     ·rcases b3' i hi with⟨c1,_⟩|⟨_,_,_,c1,_⟩
      ·show(L.getD i []).length≤5
       omega
      ·exact c1
     ·obtain⟨c1,f,c2,_⟩:=hidx v hv
      exact⟨f,zN v,c1,c2⟩
     ·obtain⟨_,_,_,s,c1⟩:=hidx v h1
      obtain⟨_,_,_,s',c2⟩:=hidx v' h2;rw[h3,c2]at c1;exact(congrArg Prod.fst (Option.some.inj c1)).symm
     ·obtain⟨_,f,s,c1⟩:=b5 (n2 - 1 - i) Ω
      rw[show n2 - 1 -(n2 - 1 - i)=i by omega]at c1;exact⟨kp f i,(hdm _).2 ⟨s,List.mem_of_getElem? c1⟩,wj f i⟩
     ·rcases b3' i hi with c|⟨xi,r,c1,c2,c3,c4,c5⟩
      ·exact .inl c
      ·exact .inr ⟨xi,r,c1,c3,c4,c5⟩
     ·rintro rfl;rw[hbt]at hbx;cases hbx
     ·rintro rfl;rw[hbt]at hbr;cases hbr
     ·rintro rfl;rw[hbt]at hbm;cases hbm
     ·rintro rfl;rw[hbx]at hbr;cases hbr
     ·rintro rfl;rw[hbx]at hbm;cases hbm
     ·rintro rfl;rw[hbr]at hbm;cases hbm
    have E:=qoU n2 _ _ (FF t) dom get A Z rowx rowr st.hp st.nid tb xid rid mid hl (fun i hi=>by
     rw[gr i 0 hi Ω,Nat.mul_one,xb1];exact b1 i Ω)
    have E2:=EffVC.sub (hp:=st.hp) (fun id x hx=>by
     simp only[blk]at hx;split at hx
     ·rename_i e;subst e;cases hx;exact hbr
     ·split at hx
      ·rename_i e;subst e;cases hx;exact hbm
      ·split at hx
       ·rename_i e;subst e;cases hx;exact hbt
       ·split at hx
        ·rename_i e;subst e;cases hx;exact hbx
        ·exact hx) E
    refine Jd (E2 O st.fr) (fun st' sv hself hq=>?_) base okc ns r outs a w vs hI hlen hv;obtain⟨fr',hp',nid'⟩:=st';obtain⟨q0,q1,q2,row,q3,q4⟩:=hq;simp only[]at q0 q1 q2 q4;subst q0 q2 q4;have hrow:∀i j,i<n2→j<1→Wk ((rid,.rows 3 1 n2 row) ::(mid,.map kfP (fun v=>dom v&&decide (FF t (zN v)<0)) get) ::(tb,.cells 253 [A,Z,.vec xid n2 1,.vec rid n2 1,.mp mid]) ::(xid,.rows 22 1 n2 rowx) :: st.hp) (ren [(st.nid,some st.nid)]) st.nid (fun _=>false) (row i j) (row i j):=fun i j hi hj=>by
     obtain rfl:j=0:=by omega
     rw[q3 i hi];simp[Wk]
    refine⟨st.nid,_,.tup [],st.nid,rfl,xa5 _,fun id x hx=>⟨.inl ⟨?_,hx⟩,?_⟩,by simp[Wk,WkL],xa5 _,hk _ hp2 _ _ (fun id b hb=>?_) h⟩
    ·simp only[blk]at hx
     split at hx
     ·rename_i e;rw[e];exact keys _ _ hbr
     ·split at hx
      ·rename_i e;rw[e];exact keys _ _ hbm
      ·split at hx
       ·rename_i e;rw[e];exact keys _ _ hbt
       ·split at hx
        ·rename_i e;rw[e];exact keys _ _ hbx
        ·exact keys _ _ hx
    ·simp only[blk]at hx
     split at hx
     ·cases hx
      exact⟨rfl,rfl,xa5 _,hrow⟩
     ·split at hx
      ·cases hx
       have hm0:=hself ((rid,.rows 3 1 n2 row) ::(mid,.map kfP (fun v=>dom v&&decide (FF t (zN v)<0)) get) ::(tb,.cells 253 [A,Z,.vec xid n2 1,.vec rid n2 1,.mp mid]) ::(xid,.rows 22 1 n2 rowx) :: st.hp) st.nid st.nid (xa5 _) _ _ hbm;exact⟨rfl,rfl,fun k hk=>hm0.2.2 k (xe6 _ _▸hk).1⟩
      ·split at hx
       ·rename_i e;cases hx;exact hself _ _ _ (xa5 _) _ _ hbt
       ·split at hx
        ·rename_i e;cases hx;exact hself _ _ _ (xa5 _) _ _ hbx
        ·exact hself _ _ _ (xa5 _) _ _ hx
    rw[p2 id]at hb;simp only[blk];by_cases e1:id=rid
    ·subst e1
     rw[if_neg hl.d6,p1,if_pos rfl]at hb;rw[if_pos rfl];cases hb;refine⟨_,rfl,rfl,rfl,rfl,Ω,fun i j hi hj=>?_⟩;obtain rfl:j=0:=by omega
     have:=b7 i Ω;rw[xb0]at this;rw[q3 i hi,Nat.mul_one,xb1,this]
    ·rw[if_neg e1]
     by_cases e2:id=mid
     ·subst e2
      rw[if_pos rfl]at hb;rw[if_pos rfl];cases hb;have uq2:Uq (es.filter fun p=>decide ((t.find (qfx p.1)).getD 0=0)):=⟨fun p hp=>uq.key p (List.mem_filter.1 hp).1,uq.pw.filter _⟩;have hmm:∀v s,(v,some s)∈(es.filter fun p=>decide ((t.find (qfx p.1)).getD 0=0))↔(v,some s)∈es∧FF t (zN v)<0:=fun v s=>by
       rw[List.mem_filter];constructor
       ·rintro⟨c1,c2⟩
        obtain⟨f,n,s2,c3⟩:=uq.key _ c1;have c3:v=kp f n:=congrArg Prod.fst c3;subst c3;have c2:=of_decide_eq_true c2;refine⟨c1,?_⟩;rw[wj];have c2:(t.find n).getD 0=0:=c2;unfold FF JG;rw[c2];decide
       ·rintro⟨c1,c2⟩
        obtain⟨f,n,s2,c3⟩:=uq.key _ c1;have c3:v=kp f n:=congrArg Prod.fst c3;subst c3;refine⟨c1,decide_eq_true ?_⟩;rw[wj]at c2;unfold FF JG at c2;show(t.find n).getD 0=0;omega
      refine⟨_,rfl,rfl,fun v=>⟨?_,fun s hs=>(hd v).2 s ((ye uq).2 ((hmm v s).1 ((ye uq2).1 hs)).1)⟩⟩;rw[Bool.eq_iff_iff,uq2.isSome,xe6,decide_eq_true_eq,hdm];constructor
      ·rintro⟨⟨s,c1⟩,c2⟩;exact⟨s,(hmm v s).2 ⟨c1,c2⟩⟩
      ·rintro⟨s,c1⟩;exact⟨⟨s,((hmm v s).1 c1).1⟩,((hmm v s).1 c1).2⟩
     ·rw[if_neg e2,p1,if_neg e1]at hb
      rw[if_neg e2];obtain⟨b',c1,c2⟩:=hH id b hb;refine⟨b',?_,c2⟩;by_cases e3:id=tb
      ·subst e3;rw[if_pos rfl,←c1,hbt]
      ·rw[if_neg e3]
       by_cases e4:id=xid
       ·subst e4;rw[if_pos rfl,←c1,hbx]
       ·rw[if_neg e4];exact c1
   ·cases h
  ·cases h
 ·cases h
end
end Go.Sx
end
section
namespace Go.Sx
open Go.Proofs
open Go.RowKit Go.Tn
noncomputable section
variable{ρ:Q}
def qkU(l:List Nat)(f:List Nat→R):R:=(List.rec (motive:=fun _=>(List Nat→R)→R) (fun f=>f []) (fun a _ ih f=>ql a fun a=>ih fun l=>f (a :: l)) l) f
theorem WF:∀(l:List Nat)(f:List Nat→R),qkU l f=f l
 |[],f=>rfl
 |a :: l,f=>by
  show ql a (fun a=>qkU l fun l=>f (a :: l))=_;rw[qi,WF]
def qkV(N:Nat)(L:List (List Nat))(r:R):R:=List.rec r (fun a _ ih=>qk 500 (Nat.ble a.length 5) (ltK N a ih)) L
theorem WG{N:Nat}{r:R}:∀{L:List (List Nat)},qkV N L r=.ok ρ→r=.ok ρ∧∀l,l∈L→l.length≤5∧∀a,a∈l→a<N
 |[],h=>⟨h,fun l hl=>by cases hl⟩
 |a :: L,h=>by
  have h:qk 500 (Nat.ble a.length 5) (ltK N a (qkV N L r))=.ok ρ:=h;obtain⟨h1,h⟩:=qe h;obtain⟨h,h2⟩:=WE h;obtain⟨h,h3⟩:=WG h;refine⟨h,fun l hl=>?_⟩;rcases List.mem_cons.1 hl with rfl|hl
  ·exact⟨xa7 h1,h2⟩
  ·exact h3 l hl
def svN(l:List Nat):List SV:=l.map fun(n:Nat)=>.val (.int .i64 (.ofNat n))
def qiS(args:List SV)(hp:Tr 6 XB)(nid:Nat)(k:SV→Tr 6 XB→Nat→R):R:=
 match args with
 |[.ptr tb 0]=>(match hp.find tb with
  |some (.cells 253 [_,.vec sid n' 5,.vec xid n 1,_,_])=>(match hp.find xid with
   |some (.rows 22 1 n1 xs)=>qk 501 (Nat.beq n' n) (qk 502 (Nat.beq n1 n) (qk 503 (Nat.ble n 1000) (Jf hp tb xs fun L=>qkV n L
    (match GY (fun i=>L.getD i []) n (n+1) (n+1) n 0 []with
     |none=>.bad 504 0
     |some l=>qkU l fun l=>ql (Nat.succ nid) fun n2=>ql nid fun nid=>ql l.length fun m=>
      (match m with
       |0=>k (.val (.slice none 0 0)) hp nid
       |_=>zs (some (.rows 3 1 m (svN l))) 22 hp nid fun hp=>k (.vec nid m 1) hp n2)))))
   |_=>.bad 505 0)
  |_=>.bad 506 0)
 |_=>.bad 507 0
theorem qkW{l:List Nat}{i:Nat}(h:i<l.length):(svN l).getD i .top=.val (.int .i64 (l.getD i 0:Nat)):=by
 unfold svN;rw[xc6,xc6,List.getElem?_map,xc7 h];rfl
theorem qiT:Kk Tryz.prog 73 qiS:=by
 intro ρ LM O args hp k st K hH h hk;unfold qiS at h;split at h
 ·rename_i tb
  split at h
  ·rename_i A sid n' xid n Rr M hft
   split at h
   ·rename_i n1 xs hfx
    obtain⟨a1,h⟩:=qe h;obtain⟨a2,h⟩:=qe h;obtain⟨a3,h⟩:=qe h;obtain⟨L,h,b2,b3⟩:=yD h;obtain⟨h,b4⟩:=WG h;have e1:=xa6 a1;have e2:=xa6 a2;have hN:=xa7 a3;subst e1 e2;split at h
    ·cases h
    ·rename_i l hF
     rw[WF,qi,qi,qi]at h;obtain⟨rowx,hbx,lx,gx⟩:=hH.rows hfx;have hbt:=hH.cells hft;intro base okc ns r outs a w vs hI hlen hv;have keys:=hI.keys;have hmem:∀i,i<n1→L.getD i []∈L:=fun i hi=>by
      rw[xc6,xc7 Ω];exact List.getElem_mem _
     have hC:Go.Tn.Cl n1 (fun i=>L.getD i []) rowx st.hp st.nid tb xid A Rr M sid:=by
      refine⟨Ω,fun i hi=>(b4 _ (hmem i hi)).1,fun i hi=>(b4 _ (hmem i hi)).2,hbt,hbx,fun i hi=>?_,fun k x hx=>keys k x hx⟩;have gxi:=gx i 0 hi Ω;rw[Nat.mul_one,xb1]at gxi;rcases b3 i Ω with⟨c1,c2⟩|⟨xi,n,l,c1,c2,c3,c4,c5,c6⟩
      ·exact .inl ⟨c2,by rw[gxi,c1]⟩
      ·obtain⟨r,d1,d2,d3⟩:=hH.rows c4
       have el:(L.getD i []).length=n:=by omega
       refine .inr ⟨xi,r,by rw[gxi,c1,el],by rw[d1,el],fun j hj=>?_⟩;have hj:j<(L.getD i []).length:=hj;rw[d3 j 0 Ω Ω,Nat.mul_one,xb1];exact c6 j Ω
     have E:=e73 n1 _ rowx st.hp st.nid tb xid A Rr M sid (n1+1) (n1+1) l hC Ω Ω hF (600*(n1+1)+2000) Ω;cases l with
     |nil=>
      refine Jd (E O st.fr) (fun st' sv hself hq=>?_) base okc ns r outs a w vs hI hlen hv;obtain⟨fr',hp',nid'⟩:=st';obtain⟨q0,q1,bid,rr,q2,q3,q4,q5⟩:=hq;simp only[]at q0 q1 q2 q4;subst q0 q4 q5;exact⟨st.nid,_,_,st.nid,rfl,xa5 _,fun id x hx=>⟨.inl ⟨keys id x hx,hx⟩,hself _ _ _ (xa5 _) _ _ hx⟩,by simp[Go.Tn.bSV,Wk],xa5 _,hk _ hp _ _ hH h⟩
     |cons x l=>
      have h:zs (some (.rows 3 1 (l.length+1) (svN (x :: l)))) 22 hp st.nid (fun hp=>k (.vec st.nid (l.length+1) 1) hp (st.nid+1))=.ok ρ:=h;obtain⟨hp1,p1,h⟩:=qM _ _ _ _ h;refine Jd (E O st.fr) (fun st' sv hself hq=>?_) base okc ns r outs a w vs hI hlen hv;obtain⟨fr',hp',nid'⟩:=st';obtain⟨q0,q1,bid,rr,q2,q3,q4,q5⟩:=hq;simp only[]at q0 q1 q2 q4;subst q0 q4 q5;have⟨z1,z2⟩:=q2 Ωh;refine⟨bid,(st.nid,.rows 3 1 (l.length+1) rr) :: st.hp,.vec st.nid (l.length+1) 1,st.nid+1,rfl,z1,fun id y hy=>?_,?_,xc4 _,hk _ hp1 _ _ (fun id b hb=>?_) h⟩
      ·simp only[blk]at hy
       split at hy
       ·rename_i e
        cases hy;refine⟨.inr ⟨e,by simp[Go.Tn.bH,blk],xa5 _⟩,rfl,rfl,xa5 _,fun i j hi hj=>?_⟩;obtain rfl:j=0:=by omega
        rw[q3 i hi];simp[Wk]
       ·have hlt:=keys id y hy
        refine⟨.inl ⟨hlt,?_⟩,hself _ _ _ (xc4 _) _ _ hy⟩;simp only[Go.Tn.bH,blk];rw[if_neg Ω];exact hy
      ·unfold Go.Tn.bSV Wk
       refine⟨Ω,?_,rfl,rfl⟩;simp[ren]
      ·rw[p1 id]at hb
       simp only[blk];by_cases e:id=st.nid
       ·rw[if_pos e]at hb ⊢
        cases hb;refine⟨_,rfl,rfl,rfl,rfl,by simp[svN],fun i j hi hj=>?_⟩;obtain rfl:j=0:=by omega
        rw[Nat.mul_one,xb1,qkW hi];exact q3 i hi
       ·rw[if_neg e]at hb ⊢
        exact hH id b hb
   ·cases h
  ·cases h
 ·cases h
end
end Go.Sx
end
section
namespace Go.Tn
open Go.Proofs
open Go.Sx
def WH:List Nat→(Nat→Nat)→List Nat→(Nat→Nat)×List Nat
 |[],seen,wait=>(seen,wait)
 |to :: l,seen,wait=>if seen to=0 then WH l (setN seen to 1) (wait++[to])else WH l seen wait
def Vu(L:Nat→List Nat):Nat→(Nat→Nat)→List Nat→List Nat→Option (List Nat)
 |0,_,_,_=>none
 |_+1,_,[],out=>some out
 |f+1,seen,i :: wait,out=>Vu L f (WH (L i) seen wait).1 (WH (L i) seen wait).2 (out++[i])
theorem KK{O:Ctx}{fr:List (Nat×SV)}{hp:List (Nat×Blk)}{nid d k:Nat}{t:TypeId}(row:Nat→Nat→SV)(h:Go.Sx.look fr d=.val (.slice none 0 0)):Weak O ⟨fr,hp,nid⟩ ⟨putFr fr d (.vec nid 0 k),(nid,.rows t k 0 row) :: hp,nid+1⟩:=fun base okc ns outs a w ⟨r,h'⟩=>by
 obtain⟨r',hst,hrep⟩:=Qy h'.sat nid (xb4 _) none (hp':=(nid,.rows t k 0 row) :: hp) (e:=t) (k:=k) (row:=row) Ω7 (fun j hj _=>by simp only[blk];rw[if_neg (Nat.ne_of_lt hj)]) (fun o ho=>by cases ho);rw[jn]at hst hrep;have h2:=(h'.step hst (fun i x hx=>by
  simp only[blk]at hx;split at hx
  ·rename_i e;rw[e];exact xb5 _
  ·exact Nat.lt_succ_of_lt (h'.keys i x hx)) (xc4 _) (d:=none) (fun t ht=>by cases ht) (.val undef)).nid (nid+1)
 refine⟨r',h2.sat,h2.keys,fun i=>?_,h2.size,h2.lo,h2.out,h2.rfix,h2.defers⟩;show Rep _ _ _ _ (Go.Sx.look (putFr fr d _) i) _;rw[zl];split
 ·rename_i e
  have hv:=h'.fr d;rw[show(⟨fr,hp,nid⟩:St).fr=fr from rfl,h]at hv;rw[e];generalize a.tmps.getD d undef=v at hv ⊢;cases hv;exact hrep
 ·exact h2.fr i
def qmQ(l:List Nat)(srow r:Nat→Nat→SV):Prop:=∀k,k<l.length→∀j,j<5→r k j=srow (l.getD k 0) j
theorem one5(a b c d e:Int):oneRows 1 5 (fun i j=>[SV.val (.int .i64 a),SV.val (.int .i64 b),SV.val (.int .i64 c),SV.val (.int .i64 d),SV.val (.int .i64 e)].getD (i*5+j) SV.top):=fun i j hi hj=>by
 obtain rfl:i=0:=by omega
 have:j=0∨j=1∨j=2∨j=3∨j=4:=by omega
 rcases this with rfl|rfl|rfl|rfl|rfl<;>rfl
structure QJ(N:Nat)(L:Nat→List Nat)(fu n1 lo:Nat)(srow:Nat→Nat→SV)(res0:List Nat)(f c:Nat)(seen:Nat→Nat)(byr:Nat→Nat→SV)(wait:List Nat)(wid off:Nat)(J:Nat→Nat→SV)(outL:List Nat)(oid:Nat)(r:Nat→Nat→SV):Prop where
 fu:f+c=fu
 run:Vu L f seen wait outL=some res0
 row:∀x,x<N→byr x 0=.val (.int .i64 (seen x:Nat))
 le:∀x,x<N→seen x≤1
 lt:∀x,x∈wait→x<N
 J:∀i,i<wait.length→J (off+i) 0=.val (.int .i64 (wait.getD i 0:Nat))
 off:off≤c
 len:wait.length≤1+5*c
 w1:lo≤wid
 w2:wid<n1+450*c
 out:qmQ outL srow r
 ol:outL.length≤c
 o1:lo≤oid
 o2:oid<n1+450*c
 o3:wid≠oid
structure RJ(N:Nat)(L:Nat→List Nat)(i c n1 n2 lo nr:Nat)(R3:(Nat→Nat)×List Nat)(oid k:Nat)(seen:Nat→Nat)(byr:Nat→Nat→SV)(wait:List Nat)(wid off:Nat)(J:Nat→Nat→SV):Prop where
 kl:k≤(L i).length
 run:WH ((L i).drop k) seen wait=R3
 row:∀x,x<N→byr x 0=.val (.int .i64 (seen x:Nat))
 le:∀x,x<N→seen x≤1
 lt:∀x,x∈wait→x<N
 J:∀i,i<wait.length→J (off+i) 0=.val (.int .i64 (wait.getD i 0:Nat))
 off:off≤c+1
 len:wait.length≤nr+k
 w1:lo≤wid
 w2:wid<n2+60*k
 o3:wid≠oid
theorem qpb(N:Nat)(L:Nat→List Nat)(nx:Nat→Nat→SV)(H:List (Nat×Blk))(id tb xid sid:Nat)(A R M:SV)(s:Nat→Int)(srow:Nat→Nat→SV)(i0 fu:Nat)(res0:List Nat)(h:Cl N L nx H id tb xid A R M sid)(hfu:fu≤100000)
  (hsr:blk H sid=some (.rows 140 5 N srow)) (hsi:∀i,i<N→∀j,j<5→∃x:Int,srow i j=.val (.int .i64 x)) (hix:∀sd:Nat→Nat→SV,EffVC Tryz.prog 162 [.ptr tb 0,.agg (stL s)] ((id+7,.rows 3 1 N sd) ::(id,.cells 140 (stL s)) :: H) (id+11) (fun hp' nid' res=>hp'=((id+7,.rows 3 1 N sd) ::(id,.cells 140 (stL s)) :: H)∧nid'=id+11+200∧res=I (i0:Nat)))
  (hi0N:i0<N) (hF:Vu L fu (setN (fun _=>0) i0 1) [i0] []=some res0) :
  EffVC Tryz.prog 262 [.ptr tb 0,.agg (stL s)] H id (fun hp' nid' res=>nid'≤id+400+450*fu∧∃oid r,id≤oid∧oid<nid'∧qmQ res0 srow r∧hp'=(oid,.rows 140 5 res0.length r) :: H∧res=.vec oid res0.length 5):=by
 refine vY (zQ [(14,[(0,0)])]) follows Tryz.func262 rfl Ωd Ωd (by rw[Tryz.ntmps262];simp) fun out=>?_;have hN5:=h.N5;have htb:=h.und _ _ h.tb;have hxid:=h.und _ _ h.xid;have hsid:=h.und _ _ hsr;have NB:=(⟨nmA htb,nmA hxid,nmA hsid⟩:_∧_∧_);(repeat' (first|refine sD ?_ ?_<;>intro _|refine aAg ?_|(simp -dsimp only[↓RP,RQ,xa0,reduceIte,reduceCtorEq,xa1,xa2,xa3,xa4,h.tb,qv,qr,↓RY,NB,QS,QT,qN,QN])))
 all_goals try exact Ωb
 refine jh ΩA (hix _) fun hp' nid' res hQ=>?_;obtain⟨rfl,rfl,rfl⟩:=hQ;(repeat' (first|refine sD ?_ ?_<;>intro _|refine aAg ?_|(simp -dsimp only[↓RP,RQ,xa0,reduceIte,reduceCtorEq,xa1,xa2,xa3,xa4,h.tb,qv,qr,↓RY,NB,QS,QT,qN,QN])))
 all_goals try exact Ωb
 obtain⟨n1,hn1⟩:∃n1,n1=id+300:=⟨_,rfl⟩;have hB:∀x,x<N→(if x=i0∧0=0 then SV.val (.int .i64 1)else SV.val ([Value.int .i64 0].getD 0 undef))=.val (.int .i64 (setN (fun _=>0) i0 1 x:Nat)):=fun x hx=>by
  unfold setN;by_cases e:x=i0
  ·rw[if_pos ⟨e,rfl⟩,if_pos e];rfl
  ·rw[if_neg (fun q=>e q.1),if_neg e];rfl
 refine qn (fun(z:Nat×Nat×(Nat→Nat)×(Nat→Nat→SV)×List Nat×Nat×Nat×(Nat→Nat→SV)×List Nat×Nat×(Nat→Nat→SV))=>QJ N L fu n1 (id+8) srow res0 z.1 z.2.1 z.2.2.1 z.2.2.2.1 z.2.2.2.2.1 z.2.2.2.2.2.1 z.2.2.2.2.2.2.1 z.2.2.2.2.2.2.2.1 z.2.2.2.2.2.2.2.2.1 z.2.2.2.2.2.2.2.2.2.1 z.2.2.2.2.2.2.2.2.2.2) (fun z=>⟨[(0,.ptr tb 0),(5,.vec (id+7) N 1),(6,.que z.2.2.2.2.2.1 (z.2.2.2.2.2.2.1) (z.2.2.2.2.1.length) 1),(7,.vec z.2.2.2.2.2.2.2.2.2.1 (z.2.2.2.2.2.2.2.2.1.length) 5)],(z.2.2.2.2.2.1,.rows 3 1 (z.2.2.2.2.2.2.1+z.2.2.2.2.1.length) z.2.2.2.2.2.2.2.1) ::(id+7,.rows 3 1 N z.2.2.2.1) ::(z.2.2.2.2.2.2.2.2.2.1,.rows 140 5 z.2.2.2.2.2.2.2.2.1.length z.2.2.2.2.2.2.2.2.2.2) :: H,n1+450*z.2.1⟩) (fun z=>z.1) (fu,0,setN (fun _=>0) i0 1,fun a b=>if a=i0∧b=0 then SV.val (.int .i64 1)else SV.val ([Value.int .i64 0].getD b undef),[i0],id+214,0,fun i j=>[SV.val (.int .i64 (i0:Nat))].getD (i+j) SV.top,[],id+223,fun _ _=>.top) ⟨rfl,hF,hB,fun x hx=>(by show(if x=i0 then 1 else 0)≤1;split<;>omega),fun x hx=>(by rw[List.mem_singleton.1 hx];exact hi0N),fun i hi=>(by have hi:i<1:=hi;obtain rfl:i=0:=Ω;rfl),xa5 _,Ωh,Ωe,Ωe,fun k hk=>(by cases hk),xa5 _,Ωe,Ωe,Ωe⟩ (Weak.trans (qhQ (d:=6) rfl) (Weak.trans (KK (t:=140) (k:=5) (d:=7) (fun _ _=>.top) rfl) (weakSU Ωe (by simp[qX,Go.Sx.look,putFr]) ?hA5))) fun z hz=>?_
 case hA5=>(intro q v hv;simp only[blk]at hv ⊢;((repeat' split at hv)<;>(repeat' split)<;>first|exact hv|(exfalso;omega)|(exfalso;have:=h.und _ _ hv;omega)))
 obtain⟨f,c,seen,byr,wait,wid,off,J,outL,oid,orw⟩:=z;have hz':QJ N L fu n1 (id+8) srow res0 f c seen byr wait wid off J outL oid orw:=hz;obtain⟨y1,y2,y3,y4,y5,y6,y7,y8,y9,y10,y11,y12,y13,y14,y15⟩:=hz';dsimp only;cases f with
 |zero=>cases y2
 |succ f=>
 obtain⟨n2,hn2⟩:∃n2,n2=n1+450*c:=⟨_,rfl⟩;rw[←hn2]at y10 y14 ⊢;clear NB;have NB:=(⟨nmA (Ω:tb<n2),nmA (Ω:xid<n2),nmA (Ω:sid<n2),nmA y10,nmA y14,nmE (Ω:wid≠tb),nmE (Ω:wid≠xid),nmE (Ω:wid≠sid),nmE (Ω:wid≠id+7),nmE y15,nmE (Ω:oid≠tb),nmE (Ω:oid≠xid),nmE (Ω:oid≠sid),nmE (Ω:oid≠id+7),nmA htb,nmA hxid,nmA hsid,nmA (Ω:id+7<n2)⟩:_∧_∧_∧_∧_∧_∧_∧_∧_∧_∧_∧_∧_∧_∧_∧_∧_∧_);have hdr0:dropBlk H oid=H:=zf (h.und.none Ω);cases wait with
 |nil=>
  simp only[Vu]at y2;have y2:=Option.some.inj y2;subst y2;(repeat' (first|refine sD ?_ ?_<;>intro _|refine aAg ?_|(simp -dsimp only[↓RP,RQ,xa0,reduceIte,reduceCtorEq,xa1,xa2,xa3,xa4,h.tb,↓RY,NB,QS,QT,qN,QN])))
  all_goals try exact Ωb
  refine⟨_,_,_,weakSU (xa5 _) (fr':=[(0,_)]) ⟨.inr rfl,trivial⟩ ?hSb,Ω,oid,orw,Ω,Ω,y11,rfl,rfl⟩
  case hSb=>(intro q v hv;simp only[blk]at hv ⊢;((repeat' split at hv)<;>(repeat' split)<;>first|exact hv|(exfalso;omega)|(exfalso;have:=h.und _ _ hv;omega)))
 |cons i rest=>
  have hi:i<N:=y5 i xd5;have hgt:=decide_eq_true (Ω:(0:Int)<((rest.length+1:Nat):Int));have hJ0:=y6 0 Ωh;rw[xb1]at hJ0;have hJ1:J off 0=SV.val (.int .i64 (i:Nat)):=hJ0;rw[xe4]at y8;have hql:((rest.length+1:Nat):Int) - 1=((rest.length:Nat):Int):=by omega
  obtain⟨x0,e0⟩:=hsi i hi 0 Ω;obtain⟨x1,e1⟩:=hsi i hi 1 Ω;obtain⟨x2,e2⟩:=hsi i hi 2 Ω;obtain⟨x3,e3⟩:=hsi i hi 3 Ω;obtain⟨x4,e4⟩:=hsi i hi 4 Ω;simp only[Vu]at y2;have hor:qmQ (outL++[i]) srow (fun a b=>if a<outL.length then orw a b else [SV.val (.int .i64 x0),SV.val (.int .i64 x1),SV.val (.int .i64 x2),SV.val (.int .i64 x3),SV.val (.int .i64 x4)].getD ((a - outL.length)*5+b) SV.top):=fun a ha b hb=>by
   rw[xc8,xd1]at ha;by_cases hc:a<outL.length
   ·show(if a<outL.length then orw a b else _)=_
    rw[if_pos hc,y11 a hc b hb,xc6,xc6,xc9 hc]
   ·obtain rfl:a=outL.length:=by omega
    show(if outL.length<outL.length then orw outL.length b else [SV.val (.int .i64 x0),SV.val (.int .i64 x1),SV.val (.int .i64 x2),SV.val (.int .i64 x3),SV.val (.int .i64 x4)].getD ((outL.length - outL.length)*5+b) SV.top)=_;rw[if_neg Ω,xc6 (l:=outL++[i]),xd0 (xa5 _),xb8];have:b=0∨b=1∨b=2∨b=3∨b=4:=by omega
    rcases this with rfl|rfl|rfl|rfl|rfl
    ·exact e0.symm
    ·exact e1.symm
    ·exact e2.symm
    ·exact e3.symm
    ·exact e4.symm
  obtain⟨or2,hor2⟩:∃or2,or2=(fun a b=>if a<outL.length then orw a b else [SV.val (.int .i64 x0),SV.val (.int .i64 x1),SV.val (.int .i64 x2),SV.val (.int .i64 x3),SV.val (.int .i64 x4)].getD ((a - outL.length)*5+b) SV.top):=⟨_,rfl⟩;rw[←hor2]at hor;have hl5:=h.l5 i hi;rcases h.nx i hi with⟨c1,c2⟩|⟨xi,r,c1,c2,c3⟩
  ·rw[c1]at y2
   simp only[WH]at y2;(repeat' (first|refine sD ?_ ?_<;>intro _|refine aAg ?_|(simp -dsimp only[↓RP,RQ,xa0,reduceIte,reduceCtorEq,xa1,xa2,xa3,xa4,c2,hgt,hql,h.tb,h.xid,hsr,hJ1,e0,e1,e2,e3,e4,hdr0,qlC,↓RY,NB,QS,QT,qN,QN])))
   all_goals try exact Ωb
   refine qn (fun(z:Unit)=>True) (fun _=>⟨[(0,.ptr tb 0),(5,.vec (id+7) N 1),(6,.que wid (off+1) (rest.length) 1),(7,.vec (n2+19) (outL.length+1) 5)]++[(51,.val (.int .i64 0)),(52,.val (.int .i64 0))],(wid,.rows 3 1 (off+1+rest.length) J) ::(id+7,.rows 3 1 N byr) ::(n2+19,.rows 140 5 (outL.length+1) or2) :: H,n2+100⟩) (fun _=>0) () trivial (weakSU Ω Ωf ?hSa) fun z hz=>?_
   case hSa=>rw[hor2,show off+1+rest.length=off+(rest.length+1) by omega];(intro q v hv;simp only[blk]at hv ⊢;((repeat' split at hv)<;>(repeat' split)<;>first|exact hv|(exfalso;omega)|(exfalso;have:=h.und _ _ hv;omega)))
   (repeat' (first|refine sD ?_ ?_<;>intro _|refine aAg ?_|(simp -dsimp only[↓RP,RQ,xa0,reduceIte,reduceCtorEq,xa1,xa2,xa3,xa4,↓RY,NB,QS,QT,qN,QN])))
   all_goals try exact Ωb
   have hq:QJ N L fu n1 (id+8) srow res0 f (c+1) seen byr rest wid (off+1) J (outL++[i]) (n2+19) or2:=⟨Ω,y2,y3,y4,fun x hx=>y5 x (List.mem_cons_of_mem _ hx),fun i hi=>by
    have:=y6 (i+1) Ωj;rw[show off+1+i=off+(i+1) by omega,this];rfl,Ω,Ω,y9,Ω,hor,by rw[xc8,xd1];omega,Ω,Ω,Ω⟩
   exact⟨(f,c+1,seen,byr,rest,wid,off+1,J,outL++[i],n2+19,or2),hq,Ωe,weakSU Ωe Ωf (by dsimp only;rw[xc8,xd1,show off+1+rest.length=off+(1+rest.length) by omega];exact SubHp.refl _)⟩
  ·have hxi:=h.und _ _ c2
   have NX:=(⟨nmA (Ω:xi<n2),nmE (Ω:xi≠wid),nmE (Ω:xi≠oid),nmA hxi⟩:_∧_∧_∧_);obtain⟨R3,hR3⟩:∃R3,R3=WH (L i) seen rest:=⟨_,rfl⟩;rw[←hR3]at y2;(repeat' (first|refine sD ?_ ?_<;>intro _|refine aAg ?_|(simp -dsimp only[↓RP,RQ,xa0,reduceIte,reduceCtorEq,xa1,xa2,xa3,xa4,c1,hgt,hql,h.tb,h.xid,hsr,hJ1,e0,e1,e2,e3,e4,hdr0,qlC,↓RY,NB,QS,QT,qN,QN])))
   all_goals try exact Ωb
   refine qn (fun(z:Nat×(Nat→Nat)×(Nat→Nat→SV)×List Nat×Nat×Nat×(Nat→Nat→SV))=>RJ N L i c n1 (n2+40) (id+8) rest.length R3 (n2+19) z.1 z.2.1 z.2.2.1 z.2.2.2.1 z.2.2.2.2.1 z.2.2.2.2.2.1 z.2.2.2.2.2.2) (fun z=>⟨[(0,.ptr tb 0),(5,.vec (id+7) N 1),(6,.que z.2.2.2.2.1 (z.2.2.2.2.2.1) (z.2.2.2.1.length) 1),(7,.vec (n2+19) (outL.length+1) 5)]++[(50,.vec xi (L i).length 1),(51,.val (.int .i64 ((L i).length:Nat))),(52,.val (.int .i64 (z.1:Nat)))],(z.2.2.2.2.1,.rows 3 1 (z.2.2.2.2.2.1+z.2.2.2.1.length) z.2.2.2.2.2.2) ::(id+7,.rows 3 1 N z.2.2.1) ::(n2+19,.rows 140 5 (outL.length+1) or2) :: H,n2+40+60*z.1⟩) (fun z=>(L i).length - z.1) (0,seen,byr,rest,wid,off+1,J) (by
     have:RJ N L i c n1 (n2+40) (id+8) rest.length R3 (n2+19) 0 seen byr rest wid (off+1) J:=⟨xb6 _,hR3.symm,y3,y4,fun x hx=>y5 x (List.mem_cons_of_mem _ hx),fun i hi=>by
      have:=y6 (i+1) Ωj;rw[show off+1+i=off+(i+1) by omega,this];rfl,Ω,Ω,y9,Ω,Ω⟩
     exact this) (weakSU Ωe Ωf ?hSc) fun z hz=>?_
   case hSc=>dsimp only;rw[hor2,show off+1+rest.length=off+(rest.length+1) by omega];(intro q v hv;simp only[blk]at hv ⊢;((repeat' split at hv)<;>(repeat' split)<;>first|exact hv|(exfalso;omega)|(exfalso;have:=h.und _ _ hv;omega)))
   obtain⟨k,seen1,byr1,wait1,wid1,off1,J1⟩:=z;have hz':RJ N L i c n1 (n2+40) (id+8) rest.length R3 (n2+19) k seen1 byr1 wait1 wid1 off1 J1:=hz;obtain⟨v1,v2,v3,v4,v5,v6,v7,v8,v9,v10,v11⟩:=hz';dsimp only;obtain⟨n3,hn3⟩:∃n3,n3=n2+40+60*k:=⟨_,rfl⟩;rw[←hn3]at v10 ⊢;clear NB NX;have NB:=(⟨nmA (Ω:tb<n3),nmA (Ω:xid<n3),nmA v10,nmE (Ω:wid1≠tb),nmE (Ω:wid1≠xid),nmE (Ω:wid1≠id+7),nmE v11,nmA htb,nmA hxid,nmA (Ω:id+7<n3),nmA (Ω:xi<n3),nmE (Ω:xi≠wid1),nmA hxi,nmA (Ω:n2+19<n3),nmA (Ω:xi<n2),nmA (Ω:id+7<n2)⟩:_∧_∧_∧_∧_∧_∧_∧_∧_∧_∧_∧_∧_∧_∧_∧_);by_cases hkl:k<(L i).length
   ·have hk1:=decide_eq_true (Ω:((k:Nat):Int)<((L i).length:Nat))
    have hdr2:dropBlk H wid1=H:=zf (h.und.none Ω);obtain⟨to,hto⟩:∃to,to=(L i).getD k 0:=⟨_,rfl⟩;have hgi:(L i)[k]? = some to:=by rw[hto,xc6,xc7 hkl];rfl
    have htoN:to<N:=h.inn i hi to (List.mem_of_getElem? hgi);have hdr:(L i).drop k=to ::(L i).drop (k+1):=by
     rw[List.drop_eq_getElem_cons hkl];rw[xc7 hkl]at hgi;rw[Option.some.inj hgi]
    rw[hdr]at v2;simp only[WH]at v2;have hrk:=c3 k hkl;rw[←hto]at hrk;have hrt:=v3 to htoN;have hle:=v4 to htoN;by_cases hb1:seen1 to=0
    ·rw[if_pos hb1]at v2
     have hb2:=decide_eq_true (Ω:((seen1 to:Nat):Int)=0);(repeat' (first|refine sD ?_ ?_<;>intro _|refine aAg ?_|(simp -dsimp only[↓RP,RQ,xa0,reduceIte,reduceCtorEq,xa1,xa2,xa3,xa4,hk1,hrk,hrt,hb2,c2,↓RY,NB,QS,QT,qN,QN])))
     all_goals try exact Ωb
     refine ZL (qF ?_);(repeat' (first|refine sD ?_ ?_<;>intro _|refine aAg ?_|(simp -dsimp only[↓RP,RQ,xa0,reduceIte,reduceCtorEq,xa1,xa2,xa3,xa4,hdr0,hdr2,hk1,hrk,hrt,hb2,c2,↓RY,NB,QS,QT,qN,QN])));refine qF ?_;(repeat' (first|refine sD ?_ ?_<;>intro _|refine aAg ?_|(simp -dsimp only[↓RP,RQ,xa0,reduceIte,reduceCtorEq,xa1,xa2,xa3,xa4,hdr0,hdr2,hk1,hrk,hrt,hb2,c2,↓RY,NB,QS,QT,qN,QN])));refine qF ?_;(repeat' (first|refine sD ?_ ?_<;>intro _|refine aAg ?_|(simp -dsimp only[↓RP,RQ,xa0,reduceIte,reduceCtorEq,xa1,xa2,xa3,xa4,hdr0,hdr2,hk1,hrk,hrt,hb2,c2,↓RY,NB,QS,QT,qN,QN])));refine gT rfl (qhb (id:=wid1) (off:=off1) (n:=wait1.length) (n':=off1+wait1.length) (m:=1) (k:=1) (e:=3) (row:=J1) (row2:=fun i j=>[SV.val (.int .i64 (to:Nat))].getD (i+j) SV.top) (obl2:=1≤1∧1=1) YU ty3 rfl Ω rfl rfl (by show rowsOf _ (SV.vec (n3+15) 1 1)=_;simp[rowsOf,blk]) (by exact⟨xa5 _,rfl⟩) (by exact one1 _) Ωah (xa5 _) Ω Ω (by rw[by3];omega) Ωe ?_ ?_)
     ·refine qF ?_
      (repeat' (first|refine sD ?_ ?_<;>intro _|refine aAg ?_|(simp -dsimp only[↓RP,RQ,xa0,reduceIte,reduceCtorEq,xa1,xa2,xa3,xa4,gA,hdr0,hdr2,hk1,hrk,hrt,hb2,c2,↓RY,NB,QS,QT,qN,QN])))
      all_goals try exact Ωb
      have hRI:RJ N L i c n1 (n2+40) (id+8) rest.length R3 (n2+19) (k+1) (setN seen1 to 1) (fun a b=>if a=to∧b=0 then SV.val (.int .i64 1)else byr1 a b) (wait1++[to]) (n3+16) off1 (fun i j=>if i<off1+wait1.length then J1 i j else [SV.val (.int .i64 (to:Nat))].getD (i -(off1+wait1.length)+j) SV.top):=by
       refine⟨hkl,v2,fun x hx=>?_,fun x hx=>?_,fun x hx=>?_,fun y hy=>?_,Ω,by rw[xc8,xd1];omega,Ω,Ω,Ω⟩
       ·by_cases e:x=to
        ·rw[if_pos ⟨e,rfl⟩];unfold setN;rw[if_pos e];rfl
        ·rw[if_neg (fun e2=>e e2.1)];unfold setN;rw[if_neg e];exact v3 x hx
       ·unfold setN;split
        ·omega
        ·exact v4 x hx
       ·rcases List.mem_append.1 hx with h1|h1
        ·exact v5 x h1
        ·rw[List.mem_singleton.1 h1];exact htoN
       ·rw[xc8,xd1]at hy
        show(if off1+y<off1+wait1.length then J1 (off1+y) 0 else [SV.val (.int .i64 (to:Nat))].getD (off1+y -(off1+wait1.length)+0) SV.top)=_
        skip
        by_cases hc:y<wait1.length
        ·rw[if_pos Ω,v6 y hc,xc6,xc6,xc9 hc]
        ·obtain rfl:y=wait1.length:=by omega
         rw[if_neg Ω,xb8,xc6 (l:=wait1++[to]),xd0 (xa5 _),xb8];rfl
      refine⟨(k+1,setN seen1 to 1,_,wait1++[to],n3+16,off1,_),hRI,Ωe,weakSU Ωe Ωf ?_⟩;dsimp only;rw[xc8,xd1];exact SubHp.cons (SubHp.skip (show blk ((id+7,_) ::(n2+19,_) :: H) (n3+15)=none by simp only[blk];rw[if_neg Ω,if_neg Ω];exact h.und.none Ω) (SubHp.refl _))
     ·refine qF ?_
      (repeat' (first|refine sD ?_ ?_<;>intro _|refine aAg ?_|(simp -dsimp only[↓RP,RQ,xa0,reduceIte,reduceCtorEq,xa1,xa2,xa3,xa4,gA,hdr0,hdr2,hk1,hrk,hrt,hb2,c2,↓RY,NB,QS,QT,qN,QN])))
      all_goals try exact Ωb
      have hRI:RJ N L i c n1 (n2+40) (id+8) rest.length R3 (n2+19) (k+1) (setN seen1 to 1) (fun a b=>if a=to∧b=0 then SV.val (.int .i64 1)else byr1 a b) (wait1++[to]) (n3+16) 0 (fun i j=>if i<wait1.length then J1 (off1+i) j else [SV.val (.int .i64 (to:Nat))].getD (i - wait1.length+j) SV.top):=by
       refine⟨hkl,v2,fun x hx=>?_,fun x hx=>?_,fun x hx=>?_,fun y hy=>?_,Ω,by rw[xc8,xd1];omega,Ω,Ω,Ω⟩
       ·by_cases e:x=to
        ·rw[if_pos ⟨e,rfl⟩];unfold setN;rw[if_pos e];rfl
        ·rw[if_neg (fun e2=>e e2.1)];unfold setN;rw[if_neg e];exact v3 x hx
       ·unfold setN;split
        ·omega
        ·exact v4 x hx
       ·rcases List.mem_append.1 hx with h1|h1
        ·exact v5 x h1
        ·rw[List.mem_singleton.1 h1];exact htoN
       ·rw[xc8,xd1]at hy
        show(if 0+y<wait1.length then J1 (off1+(0+y)) 0 else [SV.val (.int .i64 (to:Nat))].getD (0+y - wait1.length+0) SV.top)=_;rw[xb0];by_cases hc:y<wait1.length
        ·rw[if_pos Ω,v6 y hc,xc6,xc6,xc9 hc]
        ·obtain rfl:y=wait1.length:=by omega
         rw[if_neg Ω,xb8,xc6 (l:=wait1++[to]),xd0 (xa5 _),xb8];rfl
      refine⟨(k+1,setN seen1 to 1,_,wait1++[to],n3+16,0,_),hRI,Ωe,weakSU Ωe Ωf ?_⟩;dsimp only;rw[xc8,xd1,xb0];exact SubHp.cons (SubHp.skip (show blk ((id+7,_) ::(n2+19,_) :: H) (n3+15)=none by simp only[blk];rw[if_neg Ω,if_neg Ω];exact h.und.none Ω) (SubHp.refl _))
    ·rw[if_neg hb1]at v2
     have hb2:=decide_eq_false (Ω:¬((seen1 to:Nat):Int)=0);(repeat' (first|refine sD ?_ ?_<;>intro _|refine aAg ?_|(simp -dsimp only[↓RP,RQ,xa0,reduceIte,reduceCtorEq,xa1,xa2,xa3,xa4,hk1,hrk,hrt,hb2,c2,↓RY,NB,QS,QT,qN,QN])))
     all_goals try exact Ωb
     have hRI:RJ N L i c n1 (n2+40) (id+8) rest.length R3 (n2+19) (k+1) seen1 byr1 wait1 wid1 off1 J1:=⟨hkl,v2,v3,v4,v5,v6,v7,Ω,v9,Ω,v11⟩;exact⟨(k+1,seen1,byr1,wait1,wid1,off1,J1),hRI,Ωe,weakSU Ωe Ωf (SubHp.refl _)⟩
   ·have hk1:=decide_eq_false (Ω:¬((k:Nat):Int)<((L i).length:Nat))
    rw[List.drop_eq_nil_of_le Ω]at v2;simp only[WH]at v2;subst v2;(repeat' (first|refine sD ?_ ?_<;>intro _|refine aAg ?_|(simp -dsimp only[↓RP,RQ,xa0,reduceIte,reduceCtorEq,xa1,xa2,xa3,xa4,hk1,↓RY,NB,QS,QT,qN,QN])))
    all_goals try exact Ωb
    have hq:QJ N L fu n1 (id+8) srow res0 f (c+1) seen1 byr1 wait1 wid1 off1 J1 (outL++[i]) (n2+19) or2:=⟨Ω,y2,v3,v4,v5,v6,v7,Ω,v9,Ω,hor,by rw[xc8,xd1];omega,Ω,Ω,v11⟩;exact⟨(f,c+1,seen1,byr1,wait1,wid1,off1,J1,outL++[i],n2+19,or2),hq,Ωe,weakSU Ωe Ωf (by dsimp only;rw[xc8,xd1];exact SubHp.refl _)⟩
theorem qpc{H:List (Nat×Blk)}{id tb tix m N i0:Nat}{u s:Nat→Int}{tr:Nat→Nat→SV}{Z1 Z2 R M:SV}(hU:Under H id)(hb:blk H tb=some (.cells 253 [.vec tix m 1,Z1,Z2,R,M]))(ht:blk H tix=some (.rows 3 1 m tr))(htu:∀i,i<m→tr i 0=.val (.int .i64 (u i)))(hm:m≤5)(hu:∀i,i<m→1≤u i∧u i≤12)(hs:∀i,i<m→0≤s i∧s i≤u i)
  (hi0:ixF u s m=(i0:Nat)) (sd:Nat→Nat→SV):EffVC Tryz.prog 162 [.ptr tb 0,.agg (stL s)] ((id+7,.rows 3 1 N sd) ::(id,.cells 140 (stL s)) :: H) (id+11) (fun hp' nid' res=>hp'=((id+7,.rows 3 1 N sd) ::(id,.cells 140 (stL s)) :: H)∧nid'=id+11+200∧res=I (i0:Nat)):=by
 have htb:=hU _ _ hb;have hti:=hU _ _ ht;have hN:=hU.none (Ω:id≤id+11);rw[←hi0];refine qnN _ _ tb m u s tix tr Ω ?_ ?_ htu Z1 Z2 R M hm hu hs Ω ?_
 ·simp only[blk];rw[if_neg Ω,if_neg Ω];exact hN
 ·simp only[blk];rw[if_neg Ω,if_neg Ω];exact ht
 ·simp only[blk];rw[if_neg Ω,if_neg Ω];exact hb
theorem qpd{H:List (Nat×Blk)}{id tb m N i0:Nat}{o full:Bool}{row:Nat→Nat→SV}{u s:Nat→Int}{Z1 Z2 R M:SV}(hU:Under H id)(hb:blk H tb=some (.cells 253 [.arr o full m 1 row,Z1,Z2,R,M]))(htu:∀i,i<m→row i 0=.val (.int .i64 (u i)))(hm:m≤5)(hu:∀i,i<m→1≤u i∧u i≤12)(hs:∀i,i<m→0≤s i∧s i≤u i)
  (hi0:ixF u s m=(i0:Nat)) (sd:Nat→Nat→SV):EffVC Tryz.prog 162 [.ptr tb 0,.agg (stL s)] ((id+7,.rows 3 1 N sd) ::(id,.cells 140 (stL s)) :: H) (id+11) (fun hp' nid' res=>hp'=((id+7,.rows 3 1 N sd) ::(id,.cells 140 (stL s)) :: H)∧nid'=id+11+200∧res=I (i0:Nat)):=by
 have htb:=hU _ _ hb;have hN:=hU.none (Ω:id≤id+11);rw[←hi0];refine qnO _ _ tb m u s o full row ?_ htu Z1 Z2 R M hm hu hs Ω ?_
 ·simp only[blk];rw[if_neg Ω,if_neg Ω];exact hN
 ·simp only[blk];rw[if_neg Ω,if_neg Ω];exact hb
end Go.Tn
end
section
namespace Go.Sx
open Go.Proofs
open Go.RowKit Go.Tn
noncomputable section
variable{ρ:Q}
def WI(s:SV):Bool:=match s with
 |.val (.int .i64 _)=>true
 |_=>false
theorem qfy{s:SV}(h:WI s=true):∃x:Int,s=.val (.int .i64 x):=by
 unfold WI at h;split at h
 ·exact⟨_,rfl⟩
 ·cases h
def qdL(l:List SV)(r:R):R:=List.rec r (fun a _ ih=>qk 520 (WI a) ih) l
theorem Jg{r:R}:∀{l:List SV},qdL l r=.ok ρ→r=.ok ρ∧∀i,i<l.length→∃x:Int,l.getD i .top=.val (.int .i64 x)
 |[],h=>⟨h,fun i hi=>by cases hi⟩
 |a :: l,h=>by
  have h:qk 520 (WI a) (qdL l r)=.ok ρ:=h;obtain⟨h1,h⟩:=qe h;obtain⟨h,h2⟩:=Jg h;refine⟨h,fun i hi=>?_⟩;cases i with
  |zero=>exact qfy h1
  |succ i=>exact h2 i (Nat.lt_of_succ_lt_succ hi)
def stK(us sl:List Nat)(m:Nat)(r:R):R:=Nat.rec (motive:=fun _=>Nat→R) (fun _=>r) (fun _ ih i=>qk 521 (Nat.ble 1 (us.getD i 0)) (qk 522 (Nat.ble (us.getD i 0) 12) (qk 523 (Nat.ble (sl.getD i 0) (us.getD i 0)) (ql (Nat.succ i) fun i=>ih i)))) m 0
theorem qdM{us sl:List Nat}{r:R}:∀(m i:Nat),(Nat.rec (motive:=fun _=>Nat→R) (fun _=>r) (fun _ ih i=>qk 521 (Nat.ble 1 (us.getD i 0)) (qk 522 (Nat.ble (us.getD i 0) 12) (qk 523 (Nat.ble (sl.getD i 0) (us.getD i 0)) (ql (Nat.succ i) fun i=>ih i)))) m i:R)=.ok ρ→r=.ok ρ∧∀j,i≤j→j<i+m→1≤us.getD j 0∧us.getD j 0≤12∧sl.getD j 0≤us.getD j 0
 |0,i,h=>⟨h,fun j h1 h2=>by omega⟩
 |m+1,i,h=>by
  obtain⟨h1,h⟩:=qe h;obtain⟨h2,h⟩:=qe h;obtain⟨h3,h⟩:=qe h;rw[qi]at h;obtain⟨h,h4⟩:=qdM m (i+1) h;refine⟨h,fun j hj1 hj2=>?_⟩;by_cases e:j=i
  ·subst e;exact⟨xa7 h1,xa7 h2,xa7 h3⟩
  ·exact h4 j Ω Ω
theorem qmR{us sl:List Nat}{m:Nat}{r:R}(h:stK us sl m r=.ok ρ):r=.ok ρ∧∀j,j<m→1≤us.getD j 0∧us.getD j 0≤12∧sl.getD j 0≤us.getD j 0:=by
 obtain⟨h1,h2⟩:=qdM m 0 h;exact⟨h1,fun j hj=>h2 j (xb6 _) Ω⟩
def qah(ss:List SV)(l:List Nat):List SV:=List.rec [] (fun i _ ih=>(ss.drop (i*5)).take 5++ih) l
theorem qai{ss:List SV}{N:Nat}(hs:ss.length=N*5):∀{l:List Nat},(∀i,i∈l→i<N)→(qah ss l).length=l.length*5∧∀k j,k<l.length→j<5→(qah ss l).getD (k*5+j) .top=ss.getD (l.getD k 0*5+j) .top
 |[],_=>⟨rfl,fun k j hk=>by cases hk⟩
 |a :: l,h=>by
  have⟨h1,h2⟩:=qai hs (l:=l) fun i hi=>h i (List.mem_cons_of_mem _ hi);have ha:=h a xd5;have e:qah ss (a :: l)=(ss.drop (a*5)).take 5++qah ss l:=rfl;have l5:((ss.drop (a*5)).take 5).length=5:=by rw[xd9,List.length_drop,hs];omega
  rw[e];refine⟨by rw[xc8,l5,h1,xe4];omega,fun k j hk hj=>?_⟩;rw[xc6,xc6];cases k with
  |zero=>
   rw[xc9 (by rw[l5];omega),List.getElem?_take_of_lt Ω,List.getElem?_drop];show(ss[a*5+(0*5+j)]?).getD .top=(ss[a*5+j]?).getD .top;rw[Nat.zero_mul,xb0]
  |succ k=>
   rw[xd0 (by rw[l5];omega),l5,←xc6,show(k+1)*5+j - 5=k*5+j by omega,h2 k j (Nat.lt_of_succ_lt_succ hk) hj,xc6];rfl
def qmS(hp:Tr 6 XB)(A:SV)(f:Nat→List SV→R):R:=
 match A with
 |.vec tix m 1=>(match hp.find tix with
  |some (.rows 3 1 m2 ts)=>qk 533 (Nat.beq m2 m) (f m ts)
  |_=>.bad 542 0)
 |.arr _ _ m 1 row=>f m (List.ofFn fun(i:Fin m)=>row i.1 0)
 |_=>.bad 543 0
theorem qkX{hp:Tr 6 XB}{LM:Nat→Option Loop}{H:List (Nat×Blk)}(hH:HRel LM hp H){A:SV}{f:Nat→List SV→R}(h:qmS hp A f=.ok ρ):∃m ts,f m ts=.ok ρ∧ts.length=m∧((∃tix tr,A=.vec tix m 1∧blk H tix=some (.rows 3 1 m tr)∧∀i,i<m→tr i 0=ts.getD i .top)∨∃o full row,A=.arr o full m 1 row∧∀i,i<m→row i 0=ts.getD i .top):=by
 unfold qmS at h;split at h
 ·split at h
  ·rename_i m2 ts hf
   obtain⟨a,h⟩:=qe h;have a:=xa6 a;subst a;obtain⟨row,hb,l,g⟩:=hH.rows hf;exact⟨_,ts,h,Ω,.inl ⟨_,row,rfl,hb,fun i hi=>by rw[g i 0 hi Ω,Nat.mul_one,xb1]⟩⟩
  ·cases h
 ·rename_i o full m row
  exact⟨_,_,h,Ωh,.inr ⟨o,full,row,rfl,fun i hi=>by rw[xc6,List.getElem?_ofFn];simp[hi]⟩⟩
 ·cases h
def qiU(args:List SV)(hp:Tr 6 XB)(nid:Nat)(k:SV→Tr 6 XB→Nat→R):R:=
 match args with
 |[.ptr tb 0,.agg st]=>(match hp.find tb with
  |some (.cells 253 [A,.vec sid n' 5,.vec xid n 1,_,_])=>(match hp.find xid,hp.find sid with
   |some (.rows 22 1 n1 xs),some (.rows 140 5 n2 ss)=>qmS hp A fun m ts=>
    qk 530 (Nat.beq n' n) (qk 531 (Nat.beq n1 n) (qk 532 (Nat.beq n2 n) (qk 534 (Nat.ble n 1000) (qk 535 (Nat.ble m 5) (qk 536 (Nat.beq st.length 5)
     (qae ts fun us=>qae st fun sl=>stK us sl m (qdL ss (Jf hp tb xs fun L=>qkV n L (ql (ixF (fun i=>((us.getD i 0:Nat):Int)) (fun i=>((sl.getD i 0:Nat):Int)) m).toNat fun i0=>qk 537 (Nat.ble (Nat.succ i0) n)
      (match Vu (fun i=>L.getD i []) (n+1) (Go.Tn.setN (fun _=>0) i0 1) [i0] []with
       |none=>.bad 538 0
       |some l=>qkU l fun l=>ltK n l (ql nid fun nid=>ql l.length fun c=>gC (qah ss l) fun o=>zs (some (.rows 140 5 c o)) 22 hp nid fun hp=>ql (Nat.succ nid) fun n2=>k (.vec nid c 5) hp n2)))))))))))
   |_,_=>.bad 539 0)
  |_=>.bad 540 0)
 |_=>.bad 541 0
theorem qiV:Kk Tryz.prog 262 qiU:=by
 intro ρ LM O args hp k st K hH h hk;unfold qiU at h;split at h
 ·rename_i tb sv
  split at h
  ·rename_i A sid n' xid n Rr M hft
   split at h
   ·rename_i n1 xs n2 ss hfx hfs
    obtain⟨m2,ts,h,tl,hthr⟩:=qkX hH h;obtain⟨a1,h⟩:=qe h;obtain⟨a2,h⟩:=qe h;obtain⟨a3,h⟩:=qe h;obtain⟨a5,h⟩:=qe h;obtain⟨a6,h⟩:=qe h;obtain⟨a7,h⟩:=qe h;obtain⟨us,h,u1,u2⟩:=Zs h;obtain⟨sl,h,s1,s2⟩:=Zs h;obtain⟨h,b1⟩:=qmR h;obtain⟨h,b5⟩:=Jg h;obtain⟨L,h,b2,b3⟩:=yD h;obtain⟨h,b4⟩:=WG h;rw[qi]at h;obtain⟨a8,h⟩:=qe h;have e1:=xa6 a1;have e2:=xa6 a2;have e3:=xa6 a3;have hN:=xa7 a5;have hm:=xa7 a6;have h5:=xa6 a7;have hi0:=xa7 a8;subst e1 e2 e3;split at h
    ·cases h
    ·rename_i l hF
     rw[WF]at h;obtain⟨h,c1⟩:=WE h;rw[qi,qi,qU]at h;obtain⟨hp1,p1,h⟩:=qM _ _ _ _ h;rw[qi]at h;obtain⟨rowx,hbx,lx,gx⟩:=hH.rows hfx;obtain⟨rows,hbs,ls,gs⟩:=hH.rows hfs;have hbt:=hH.cells hft;intro base okc ns r outs a w vs hI hlen hv;have keys:=hI.keys;have hmem:∀i,i<n2→L.getD i []∈L:=fun i hi=>by
      rw[xc6,xc7 Ω];exact List.getElem_mem _
     have hC:Go.Tn.Cl n2 (fun i=>L.getD i []) rowx st.hp st.nid tb xid A Rr M sid:=by
      refine⟨Ω,fun i hi=>(b4 _ (hmem i hi)).1,fun i hi=>(b4 _ (hmem i hi)).2,hbt,hbx,fun i hi=>?_,fun k x hx=>keys k x hx⟩;have gxi:=gx i 0 hi Ω;rw[Nat.mul_one,xb1]at gxi;rcases b3 i Ω with⟨c1,c2⟩|⟨xi,n,l,c1,c2,c3,c4,c5,c6⟩
      ·exact .inl ⟨c2,by rw[gxi,c1]⟩
      ·obtain⟨r,d1,d2,d3⟩:=hH.rows c4
       have el:(L.getD i []).length=n:=by omega
       refine .inr ⟨xi,r,by rw[gxi,c1,el],by rw[d1,el],fun j hj=>?_⟩;have hj:j<(L.getD i []).length:=hj;rw[d3 j 0 Ω Ω,Nat.mul_one,xb1];exact c6 j Ω
     have hst:sv=stL (fun i=>((sl.getD i 0:Nat):Int)):=by
      refine List.ext_getElem (by rw[h5];rfl) fun j h1 h2=>?_;have:=s2 j h1;rw[xc6,xc7 h1]at this;have h3:j<5:=by omega
      have h4:=jv (s:=fun i=>((sl.getD i 0:Nat):Int)) h3;rw[xc7 h2]at h4;rw[Option.some.inj h4];exact this
     have hbb:=ZT (u:=fun i=>((us.getD i 0:Nat):Int)) (s:=fun i=>((sl.getD i 0:Nat):Int)) (m:=m2) (fun i hi=>by have:=b1 i hi;omega) (xa5 m2);have hU:Under st.hp st.nid:=fun k x hx=>keys k x hx;have hu1:∀i,i<m2→(1:Int)≤((us.getD i 0:Nat):Int)∧((us.getD i 0:Nat):Int)≤12:=fun i hi=>by have:=b1 i hi;omega
     have hs1:∀i,i<m2→(0:Int)≤((sl.getD i 0:Nat):Int)∧((sl.getD i 0:Nat):Int)≤((us.getD i 0:Nat):Int):=fun i hi=>by have:=b1 i hi;omega
     have E:=qpb n2 _ rowx st.hp st.nid tb xid sid A Rr M (fun i=>((sl.getD i 0:Nat):Int)) rows (ixF (fun i=>((us.getD i 0:Nat):Int)) (fun i=>((sl.getD i 0:Nat):Int)) m2).toNat (n2+1) l hC Ω hbs
      (fun i hi j hj=>by
       rw[gs i j hi hj];exact b5 _ (by rw[ls];have:i*5+5≤n2*5:=Ω;omega)) (by
      rcases hthr with⟨tix,tr,rfl,t1,t2⟩|⟨o,full,row,rfl,t2⟩
      ·exact qpc hU hbt t1 (fun i hi=>(t2 i hi).trans (u2 i Ω)) hm hu1 hs1 (by rw[Int.toNat_of_nonneg hbb.1])
      ·exact qpd hU hbt (fun i hi=>(t2 i hi).trans (u2 i Ω)) hm hu1 hs1 (by rw[Int.toNat_of_nonneg hbb.1])) Ω hF
     rw[←hst]at E;refine Jd (E O st.fr) (fun st' sv hself hq=>?_) base okc ns r outs a w vs hI hlen hv;obtain⟨fr',hp',nid'⟩:=st';obtain⟨q0,q1,oid,rr,z1,z2,q3,q4,q5⟩:=hq;simp only[]at q0 q1 q4;subst q0 q4 q5;have hl5:=qai (N:=n2) (by rw[ls]) (l:=l) c1;refine⟨oid,(st.nid,.rows 140 5 l.length rr) :: st.hp,.vec st.nid l.length 5,st.nid+1,rfl,z1,fun id y hy=>?_,?_,xc4 _,hk _ hp1 _ _ (fun id b hb=>?_) h⟩
     ·simp only[blk]at hy
      split at hy
      ·rename_i e
       cases hy;refine⟨.inr ⟨e,by simp[blk],xa5 _⟩,rfl,rfl,xa5 _,fun i j hi hj=>?_⟩;have hli:l.getD i 0<n2:=c1 _ (by rw[xc6,xc7 hi];exact List.getElem_mem _);rw[q3 i hi j hj,gs _ j hli hj];obtain⟨x,hx⟩:=b5 (l.getD i 0*5+j) (by rw[ls];omega);rw[hx];simp[Wk]
      ·have hlt:=keys id y hy
       refine⟨.inl ⟨hlt,?_⟩,hself _ _ _ (xc4 _) _ _ hy⟩;simp only[blk];rw[if_neg Ω];exact hy
     ·unfold Wk
      refine⟨Ω,?_,rfl,rfl⟩;simp[ren]
     ·rw[p1 id]at hb
      simp only[blk];by_cases e:id=st.nid
      ·rw[if_pos e]at hb ⊢
       cases hb;refine⟨_,rfl,rfl,rfl,rfl,hl5.1,fun i j hi hj=>?_⟩;have hli:l.getD i 0<n2:=c1 _ (by rw[xc6,xc7 hi];exact List.getElem_mem _);rw[hl5.2 i j hi hj,q3 i hi j hj,gs _ j hli hj]
      ·rw[if_neg e]at hb ⊢
       exact hH id b hb
   ·cases h
  ·cases h
 ·cases h
end
end Go.Sx
end
section
namespace Go.Sx
open Go.RowKit
section
variable{P:Program}
def gI(row:Nat→Nat→SV)(i0 j0 m:Nat):Nat→Nat→SV:=fun x j=>if i0≤x∧x<i0+m then row (j0+(x - i0)) j else row x j
theorem qfz{base:World}{okc:Nat→Prop}{r:Nat→Option Nat}{N:Nat→Prop}{hp:List (Nat×Blk)}{w:World}(h:Sat base okc r N hp w){t ty e:TypeId}{i:TypeInfo}(ht:P.underlying t=some (.slice e))(hi:P.info? e=some i){k:Nat}(hk:i.size=k)(hpos:0<k)
  {id i0 j0 m n':Nat} {row:Nat→Nat→SV} {u v:Value} (hu:Rep r N (Gd base okc r N hp w) w (.vec id i0 k) u) (hv:Rep r N (Gd base okc r N hp w) w (.que id j0 m k) v) (hblk:blk hp id=some (.rows e k n' row)) (hi0:i0+m≤n') (hj0:j0+m≤n') (h9:oneRows m k fun x j=>row (j0+x) j) :
  ∃z w',(Builtin.append_ #[t,t] ty #[u,v]).run P w=.ok z w'∧Step base okc r N hp w r N (setBlk hp id (.rows e k n' (gI row i0 j0 m))) w'∧Rep r N (Gd base okc r N (setBlk hp id (.rows e k n' (gI row i0 j0 m))) w') w' (.vec id (i0+m) k) z:=by
 have hN:N id:=by cases hu<;>assumption
 have hrep:=h.rep _ _ hblk hN;obtain⟨a2,c2,hv2⟩:∃a2 c2,v=.slice a2 m c2:=by cases hv<;>exact⟨_,_,rfl⟩
 by_cases hm0:m=0
 ·subst hm0
  have hst:Step base okc r N hp w r N (setBlk hp id (.rows e k n' (gI row i0 j0 0))) w:=h.same hblk fun G' hG' _=>by
   cases hr:r id with
   |none=>
    rw[hr]at hrep;cases hrep with
    |none _ _ _=>exact .none _ _ _
   |some b=>
    rw[hr]at hrep;cases hrep with
    |rows _ _ _ _ _ cs hb' hl hes=>
     refine .rows _ _ _ _ b cs hb' hl fun x j hx hj=>?_;have e:gI row i0 j0 0 x j=row x j:=by unfold gI;rw[if_neg Ω]
     rw[e];exact(hes x j hx hj).mono (fun _ _=>rfl) (fun _ h=>h) (fun o c hc=>⟨hG' o c hc,rfl⟩) (Shapes.refl w)
  obtain⟨a1,c1,hu1,hle⟩:∃a1 c1,u=.slice a1 i0 c1∧i0≤c1:=by cases hu<;>exact⟨_,_,rfl,Ω⟩
  have hrun:=kZ (P:=P) (w:=w) t ty e i ht hi a1 a2 i0 c1 c2 hle;rw[←hu1,←hv2]at hrun;exact⟨_,_,hrun,hst,hst.rep hu⟩
 ·cases hu with
  |vecNil _ _ _ hrn=>
   rw[hrn]at hrep;cases hrep with
   |none _ _ _=>omega
  |vec _ _ _ b cap cs tt _ hrn hb hcs hcap hmx=>
   rw[hrn]at hrep;cases hrep with
   |rows _ _ _ _ _ cs' hb' hl hes=>
    rw[hb]at hb';simp only[Option.some.injEq,Obj.cells.injEq,and_true]at hb';obtain⟨rfl,rfl⟩:=hb';have hnc:n'≤cap:=by
     rw[hcs]at hl;exact Nat.le_of_mul_le_mul_right hl hpos
    cases hv with
    |queNil _ _ _ a hN'=>exact absurd rfl hm0
    |que _ _ _ _ b2 wv cs2 t2 _ hr2 hb2 _ hcap2 _=>
    rw[hrn]at hr2;cases hr2;obtain⟨f2,hf2⟩:∃f2:Nat→Nat→Value,f2=fun x j=>cs.getD ((j0+x)*k+j) undef:=⟨_,rfl⟩;have hc2:∀x j,x<m→j<k→w.cell? ⟨b,j0*k+(x*k+j),none⟩=some (f2 x j):=fun x j hx hj=>by
     have:=zz (Ω:j0+x<n') hj;rw[←xb2,←Nat.add_mul,hf2];exact zF hb _ Ω
    have hrp2:∀x j,x<m→j<k→Rep r N (Gd base okc r N hp w) w (row (j0+x) j) (f2 x j):=fun x j hx hj=>by
     rw[hf2];exact hes _ _ Ω hj
    have hfit:i0*i.size+(qB f2 m k).length≤cs.size:=by rw[qu,hk,hcs,←Nat.add_mul];exact xa8 _ Ω
    have hrun:=run_append_room (P:=P) w t ty tt i ht hi b i0 cap cs hb ⟨b,j0*k,none⟩ m wv (qB f2 m k) (by rw[qu,hk]) (gO hc2 hpos) (wA hrp2 h9 hpos) Ω hfit;have hsz:(cs.toList.take (i0*i.size)++qB f2 m k++cs.toList.drop (i0*i.size+(qB f2 m k).length)).toArray.size=cs.size:=by
     simp only[List.size_toArray,xc8,xd9,List.length_drop,xf7];omega
    have hsh:=kP (w:=w) hb hsz;have hb3:=setRow_heap w b cs (cs.toList.take (i0*i.size)++qB f2 m k++cs.toList.drop (i0*i.size+(qB f2 m k).length)).toArray tt _ hb;have hst:Step base okc r N hp w r N (setBlk hp id (.rows tt k n' (gI row i0 j0 m))) (w.setRow b (cs.toList.take (i0*i.size)++qB f2 m k++cs.toList.drop (i0*i.size+(qB f2 m k).length)).toArray):=
     h.upd hblk hN hrn (.rows tt k n' (gI row i0 j0 m)) (gn h.below (h.own _ _ _ hblk hN hrn) _) hsh ΩV (fun c hc=>zi w b _ hc) fun G' hG'=>by
      refine .rows _ _ _ _ b _ hb3 (by rw[hsz];exact hl) fun x j hx hj=>?_;have hcell:((cs.toList.take (i0*i.size)++qB f2 m k++cs.toList.drop (i0*i.size+(qB f2 m k).length)).toArray).getD (x*k+j) undef=if i0≤x∧x<i0+m then f2 (x - i0) j else cs.getD (x*k+j) undef:=by
       have hnl:i0*k≤cs.size:=by rw[hcs];exact xa8 _ Ω
       have hxs:x*k+j<cs.size:=by have:=zz hx hj;omega
       simp only[xf5,xe2,hk];have hmin:min (i0*k) cs.toList.length=i0*k:=by simp;omega
       by_cases hxn:x<i0
       ·have:=zz hxn hj
        rw[if_neg Ω,List.append_assoc,xc9 Ωj,List.getElem?_take_of_lt this];simp
       ·have hle:i0*k≤x*k:=xa8 _ Ω
        by_cases hxm:x<i0+m
        ·have hlt:=zz (Ω:x - i0<m) hj
         rw[Nat.sub_mul]at hlt;rw[if_pos Ω,xc9 Ωx,xd0 Ω9,xd9,hmin];have e:x*k+j - i0*k=(x - i0)*k+j:=by rw[Nat.sub_mul];omega
         rw[e,kQ _ _ _ _ _ Ω hj];rfl
        ·have hle2:(i0+m)*k≤x*k:=xa8 _ Ω
         rw[Nat.add_mul]at hle2;rw[if_neg Ω,xd0 Ωx,xc8,xd9,qu,hmin,List.getElem?_drop];rw[show i0*k+m*k+(x*k+j -(i0*k+m*k))=x*k+j by omega];simp
      rw[hcell];unfold gI;by_cases hxn:i0≤x∧x<i0+m
      ·rw[if_pos hxn,if_pos hxn];exact(hrp2 _ j Ω hj).mono (fun _ _=>rfl) (fun _ h=>h) (fun o c hc=>⟨hG' o c hc,zi w b _ fun e=>hc.2.1 id _ hblk hN (by rw[e];exact hrn)⟩) hsh
      ·rw[if_neg hxn,if_neg hxn];exact(hes x j Ω hj).mono (fun _ _=>rfl) (fun _ h=>h) (fun o c hc=>⟨hG' o c hc,zi w b _ fun e=>hc.2.1 id _ hblk hN (by rw[e];exact hrn)⟩) hsh
    exact⟨_,_,hrun,hst,.vec _ _ _ b cap _ tt hN hrn hb3 (hsz.trans hcs) Ω hmx⟩
theorem qkY{O:Ctx}{t:TypeId}{x y:Operand}{id i0 j0 n' m k:Nat}{e:TypeId}{row:Nat→Nat→SV}{st:St}{K:St→SV→Prop}{ag:Bool}{sz:Nat}{z0:Option (List Value)}
  (ht:qq P t=some ⟨ag,sz,z0,.slice e k⟩) (hpos:0<k)
  (hx:env (look st.fr) x=.vec id i0 k) (hy:env (look st.fr) y=.que id j0 m k) (hb:blk st.hp id=some (.rows e k n' row)) (hi0:i0+m≤n') (hj0:j0+m≤n') (h9:oneRows m k fun x j=>row (j0+x) j)
  (hA:K ⟨st.fr,setBlk st.hp id (.rows e k n' (gI row i0 j0 m)),st.nid⟩ (.vec id (i0+m) k)):OpVC P O (.call ⟨.builtin .append,#[x,y],#[t,t]⟩) st K:=by
 intro base okc ns r outs a w o ho hi;obtain⟨hts,i,hi',hk⟩:=zC ht;have hu:=hi.env x;rw[hx]at hu;have hv:=hi.env y;rw[hy]at hv;generalize hex:a.eval x=u at hu;generalize hey:a.eval y=v at hv;obtain⟨v',w',hrun,hst,hrep⟩:=qfz (ty:=o.type) hi.sat hts hi' hk hpos hu hv hb hi0 hj0 h9;have e0:execOp a.eval o=(do pure (.value (←Builtin.append_ #[t,t] o.type #[u,v]))):=by
  obtain⟨dst,op,type,pos,aft,guard⟩:=o;simp only[]at ho;subst ho;simp[execOp,Go.resolve,Go.invoke,Go.builtin,hex,hey]
 have erun:(execOp a.eval o).run P w=.ok (.value v') w':=by
  rw[e0];simp only[Sem.run_bind,hrun,Result.andThen_ok,Sem.run_pure]
 refine⟨v',w',erun,_,r,_,hA,xa5 _,?_,hrep⟩;have hkey:∀(j:Nat)(z:Blk),blk (setBlk st.hp id (.rows e k n' (gI row i0 j0 m))) j=some z→j<st.nid:=fun j z hz=>by
  rw[qp]at hz;split at hz
  ·rename_i e;subst e;exact hi.keys _ _ hb
  ·exact hi.keys j z hz
 have:=hi.step hst hkey (xa5 _) (d:=none) (fun t ht=>by cases ht) (.val undef);exact this
theorem qbY{O:Ctx}{t:TypeId}{x lo hi:Operand}{id n n' l h k:Nat}{kl kh:IntKind}{e:TypeId}{row:Nat→Nat→SV}{st:St}{K:St→SV→Prop}{ag:Bool}{sz:Nat}{z0:Option (List Value)}
  (ht:qq P t=some ⟨ag,sz,z0,.slice e k⟩) (hpos:0<k)
  (hx:env (look st.fr) x=.vec id n k) (hlo:env (look st.fr) lo=.val (.int kl (l:Nat))) (hhi:env (look st.fr) hi=.val (.int kh (h:Nat))) (hb:blk st.hp id=some (.rows e k n' row)) (hlh:l≤h) (hh:h≤n')
  (hA:K st (.que id l (h - l) k)):OpVC P O (.slice t x (some lo) (some hi) none) st K:=by
 intro base okc ns r outs a w o ho hI;obtain⟨hts,i,hi',hk⟩:=zC ht;have hu:=hI.env x;rw[hx]at hu;have hv:=hI.env lo;rw[hlo]at hv;have hv2:=hI.env hi;rw[hhi]at hv2;generalize hex:a.eval x=u at hu;generalize hey:a.eval lo=v at hv;generalize hez:a.eval hi=v2 at hv2;cases hv;cases hv2;have e0:execOp a.eval o=(do pure (.value (←Instr.sliceAt t u (some (.int kl (l:Nat))) (some (.int kh (h:Nat))) none))):=by
  obtain⟨dst,op,type,pos,aft,guard⟩:=o;simp only[]at ho;subst ho;simp[execOp,hex,hey,hez]
 have hN:id<st.nid:=by cases hu<;>assumption
 have hrep:=hI.sat.rep _ _ hb hN;have fin:∀v',(Instr.sliceAt t u (some (.int kl (l:Nat))) (some (.int kh (h:Nat))) none).run P w=.ok v' w→Rep r (· < st.nid) (Gd base okc r (· < st.nid) st.hp w) w (.que id l (h - l) k) v'→_:=fun v' hrun hr=>
  (⟨v',w,by rw[e0];simp only[Sem.run_bind,hrun,Result.andThen_ok,Sem.run_pure],st,r,_,hA,xa5 _,hI,hr⟩:∃v w',(execOp a.eval o).run P w=.ok (.value v) w'∧∃st' r' res,K st' res∧st.nid≤st'.nid∧InvR O base okc ns st'.nid r' outs st' a w'∧Rep r' (· < st'.nid) (Gd base okc r' (· < st'.nid) st'.hp w') w' res v)
 cases hu with
 |vecNil _ _ _ hrn=>
  rw[hrn]at hrep;cases hrep with
  |none _ _ _=>
   obtain rfl:h=0:=by omega
   obtain rfl:l=0:=by omega
   refine fin _ (zr hts hi' (q9 true 0 0 0 0 0 (.inr ⟨kl,rfl⟩) (.inr ⟨kh,rfl⟩) (.inl ⟨rfl,rfl⟩) (xa5 _) (xa5 _) (xa5 _))) ?_;exact .queNil _ _ _ _ hN
 |vec _ _ _ b cap cs tt _ hrn hbb hcs hcap hmx=>
  rw[hrn]at hrep;cases hrep with
  |rows _ _ _ _ _ cs' hb' hl hes=>
   rw[hbb]at hb';simp only[Option.some.injEq,Obj.cells.injEq,and_true]at hb';obtain⟨rfl,rfl⟩:=hb';have hnc:n'≤cap:=by
    rw[hcs]at hl;exact Nat.le_of_mul_le_mul_right hl hpos
   refine fin _ (zr hts hi' (q9 true n cap l h cap (.inr ⟨kl,rfl⟩) (.inr ⟨kh,rfl⟩) (.inl ⟨rfl,rfl⟩) hlh Ω (xa5 _))) ?_;by_cases e:cap=l
   ·rw[if_pos e]
    rw[show h - l=0 by omega,show cap - l=0 by omega];exact .queNil _ _ _ _ hN
   ·rw[if_neg e]
    simp only[xg1,qQ,xb0];rw[hk];exact .que _ _ _ _ b (cap - l) cs tt hN hrn hbb (by rw[hcs];congr 1;omega) Ω Ω
end
end Go.Sx
end
section
namespace Go.Tn
open Go.Proofs
open Go.Sx
def pc(m:Nat):Nat:=(m.testBit 0).toNat+(m.testBit 1).toNat+(m.testBit 2).toNat+(m.testBit 3).toNat+(m.testBit 4).toNat+(m.testBit 5).toNat+(m.testBit 6).toNat+(m.testBit 7).toNat
theorem qob(H:List (Nat×Blk))(id oid n nn i j:Nat)(row:Nat→Nat→SV)(hn:n≤100000)(hnn:n≤nn)(hij:i<j)(hj:j≤n)(hb:blk H oid=some (.rows 3 1 nn row))(hid:oid<id)(hone:∀x,x<n→∃v:Int,row x 0=.val (.int .i64 v)) :
  EffVC Tryz.prog 186 [.vec oid n 1,.val (.int .i64 (i:Nat)),.val (.int .i64 (j:Nat))] H id (fun hp' nid' res=>nid'=id+60∧res=.vec oid (n -(j - i)) 1∧∃r,(∀x,x<nn→r x 0=if n -(j - i)≤x∧x<n then .val (.int .i64 0)else gI row i j (n - j) x 0)∧hp'=setBlk H oid (.rows 3 1 nn r)):=by
 refine vY (zQ [(5,[(0,0)]),(6,[(0,0)])]) follows Tryz.func186 rfl Ωd Ωd (by rw[Tryz.ntmps186];simp) fun out=>?_;have NB:=(nmA hid:_∧_);have hne:=decide_eq_false (Ω:¬((i:Nat):Int)=(j:Nat));(repeat' (first|refine sD ?_ ?_<;>intro _|refine aAh ?_|(simp -dsimp only[↓RP,RQ,xa0,reduceIte,reduceCtorEq,xa1,xa2,xa3,xa4,hne,hb,↓RY,NB,QS,QT,qN,QN])))
 all_goals try exact Ωb
 have hvf:zZ ((j:Nat):Int) ((n:Nat):Int) oid 1=.que oid j (n - j) 1:=by
  unfold zZ;rw[if_neg Ω,show(((n:Nat):Int) -(j:Nat)).toNat=n - j by omega];rfl
 have hvt:zZ 0 ((i:Nat):Int) oid 1=.vec oid i 1:=by unfold zZ;rw[if_pos rfl];rfl
 have hd1:n -(j - i)=i+(n - j):=by omega
 have hone2:oneRows (n - j) 1 fun x y=>row (j+x) y:=fun x y hx hy=>by
  obtain rfl:y=0:=by omega
  obtain⟨v,hv⟩:=hone (j+x) Ω;show oneCell (row (j+x) 0)=true;rw[hv];rfl
 refine Qm follows (fun m st=>∃s0 hp,(m.testBit 6=false→hp=H)∧(m.testBit 6=true→hp=setBlk H oid (.rows 3 1 nn (gI row i j (n - j))))∧(m.testBit 7=false→s0=.vec oid n 1)∧(m.testBit 7=true→s0=.vec oid (i+(n - j)) 1)∧
  st=⟨[(0,s0),(1,.val (.int .i64 (i:Nat))),(2,.val (.int .i64 (j:Nat))),(7,.val (.int .i64 (n:Nat))),(20,up (m.testBit 0) (.vec oid n 1)),(21,up (m.testBit 1) (.val (.int .i64 (i:Nat)))),(22,up (m.testBit 2) (.vec oid i 1)),(23,up (m.testBit 3) (.vec oid n 1)),(24,up (m.testBit 4) (.val (.int .i64 (j:Nat)))),(25,up (m.testBit 5) (.que oid j (n - j) 1)),(26,up (m.testBit 6) (.vec oid (i+(n - j)) 1))],hp,id+13+pc m⟩) (ms:=[0,0,3,0,0,24,63,127]) Ωd Ωd (j5 (fr':=[(0,.vec oid n 1),(1,.val (.int .i64 (i:Nat))),(2,.val (.int .i64 (j:Nat))),(7,.val (.int .i64 (n:Nat))),(20,.top),(21,.top),(22,.top),(23,.top),(24,.top),(25,.top),(26,.top)]) Ωf (SubHp.refl H)) ⟨_,_,fun _=>rfl,fun h=>(by simp at h),fun _=>rfl,fun h=>(by simp at h),by simp[pc,Go.Sx.up]⟩ (zY ?_<|zY ?_<|zY ?_<|zY ?_<|zY ?_<|zY ?_<|zY ?_<|zY ?_<|qbj) ?_
 ·rintro m st ⟨s0,hp,g1,g2,g3,g4,rfl⟩ hcl hbit hd
  refine⟨_,Weak.refl _ _,?_⟩;unfold opH;rw[zu];simp only[hbit,qW,qJ];have h7:m.testBit 7=false:=by
   cases h:m.testBit 7 with
   |false=>rfl
   |true=>have:=hcl 7 0 Ωr h;rw[hbit]at this;cases this
  rw[g3 h7];refine .inl ?_;(repeat' (first|refine sD ?_ ?_<;>intro _|refine aAh ?_|(simp -dsimp only[↓RP,RQ,xa0,reduceIte,reduceCtorEq,xa1,xa2,xa3,xa4,hvf,hvt,↓RY,NB,QS,QT,qN,QN])))
  all_goals try exact Ωb
  refine⟨_,Weak.refl _ _,.vec oid n 1,hp,fun h=>g1 Ωo,fun h=>g2 Ωo,fun h=>rfl,fun h=>(by rw[tb,h7]at h;simp at h),?_⟩;have hpc:pc (m ||| 2^0)=pc m+1:=by unfold pc;simp only[tb,xa2,Nat.succ_ne_self,Nat.zero_ne_one,Nat.one_ne_zero,decide_false,decide_true,xf3,Bool.or_true,xf4,qW,qJ,reduceCtorEq,hbit,Bool.toNat_true,Bool.toNat_false]<;>omega
  rw[hpc];simp only[tb,xa2,Nat.succ_ne_self,Nat.zero_ne_one,Nat.one_ne_zero,decide_false,decide_true,xf3,Bool.or_true,xf4,qW,qJ,reduceCtorEq,hbit,xb2]
 ·rintro m st ⟨s0,hp,g1,g2,g3,g4,rfl⟩ hcl hbit hd
  refine⟨_,Weak.refl _ _,?_⟩;unfold opH;rw[zu];simp only[hbit,qW,qJ];refine .inl ?_;(repeat' (first|refine sD ?_ ?_<;>intro _|refine aAh ?_|(simp -dsimp only[↓RP,RQ,xa0,reduceIte,reduceCtorEq,xa1,xa2,xa3,xa4,hvf,hvt,↓RY,NB,QS,QT,qN,QN])))
  all_goals try exact Ωb
  refine⟨_,Weak.refl _ _,s0,hp,fun h=>g1 Ωo,fun h=>g2 Ωo,fun h=>g3 Ωo,fun h=>g4 Ωo,?_⟩;have hpc:pc (m ||| 2^1)=pc m+1:=by unfold pc;simp only[tb,xa2,Nat.succ_ne_self,Nat.zero_ne_one,Nat.one_ne_zero,decide_false,decide_true,xf3,Bool.or_true,xf4,qW,qJ,reduceCtorEq,hbit,Bool.toNat_true,Bool.toNat_false]<;>omega
  rw[hpc];simp only[tb,xa2,Nat.succ_ne_self,Nat.zero_ne_one,Nat.one_ne_zero,decide_false,decide_true,xf3,Bool.or_true,xf4,qW,qJ,reduceCtorEq,hbit,xb2]
 ·rintro m st ⟨s0,hp,g1,g2,g3,g4,rfl⟩ hcl hbit hd
  have q0:=hd 0 Ωr Ωr;have q1:=hd 1 Ωr Ωr;refine⟨_,Weak.refl _ _,?_⟩;unfold opH;rw[zu];simp only[q0,q1,hbit,qW,qJ];refine .inl ?_;(repeat' (first|refine sD ?_ ?_<;>intro _|refine aAh ?_|(simp -dsimp only[↓RP,RQ,xa0,reduceIte,reduceCtorEq,xa1,xa2,xa3,xa4,hvf,hvt,↓RY,NB,QS,QT,qN,QN])))
  all_goals try exact Ωb
  refine⟨_,Weak.refl _ _,s0,hp,fun h=>g1 Ωo,fun h=>g2 Ωo,fun h=>g3 Ωo,fun h=>g4 Ωo,?_⟩;have hpc:pc (m ||| 2^2)=pc m+1:=by unfold pc;simp only[tb,xa2,Nat.succ_ne_self,Nat.zero_ne_one,Nat.one_ne_zero,decide_false,decide_true,xf3,Bool.or_true,xf4,qW,qJ,reduceCtorEq,q0,q1,hbit,Bool.toNat_true,Bool.toNat_false]<;>omega
  rw[hpc];simp only[tb,xa2,Nat.succ_ne_self,Nat.zero_ne_one,Nat.one_ne_zero,decide_false,decide_true,xf3,Bool.or_true,xf4,qW,qJ,reduceCtorEq,q0,q1,hbit,xb2]
 ·rintro m st ⟨s0,hp,g1,g2,g3,g4,rfl⟩ hcl hbit hd
  refine⟨_,Weak.refl _ _,?_⟩;unfold opH;rw[zu];simp only[hbit,qW,qJ];have h7:m.testBit 7=false:=by
   cases h:m.testBit 7 with
   |false=>rfl
   |true=>have:=hcl 7 3 Ωr h;rw[hbit]at this;cases this
  rw[g3 h7];refine .inl ?_;(repeat' (first|refine sD ?_ ?_<;>intro _|refine aAh ?_|(simp -dsimp only[↓RP,RQ,xa0,reduceIte,reduceCtorEq,xa1,xa2,xa3,xa4,hvf,hvt,↓RY,NB,QS,QT,qN,QN])))
  all_goals try exact Ωb
  refine⟨_,Weak.refl _ _,.vec oid n 1,hp,fun h=>g1 Ωo,fun h=>g2 Ωo,fun h=>rfl,fun h=>(by rw[tb,h7]at h;simp at h),?_⟩;have hpc:pc (m ||| 2^3)=pc m+1:=by unfold pc;simp only[tb,xa2,Nat.succ_ne_self,Nat.zero_ne_one,Nat.one_ne_zero,decide_false,decide_true,xf3,Bool.or_true,xf4,qW,qJ,reduceCtorEq,hbit,Bool.toNat_true,Bool.toNat_false]<;>omega
  rw[hpc];simp only[tb,xa2,Nat.succ_ne_self,Nat.zero_ne_one,Nat.one_ne_zero,decide_false,decide_true,xf3,Bool.or_true,xf4,qW,qJ,reduceCtorEq,hbit,xb2]
 ·rintro m st ⟨s0,hp,g1,g2,g3,g4,rfl⟩ hcl hbit hd
  refine⟨_,Weak.refl _ _,?_⟩;unfold opH;rw[zu];simp only[hbit,qW,qJ];refine .inl ?_;(repeat' (first|refine sD ?_ ?_<;>intro _|refine aAh ?_|(simp -dsimp only[↓RP,RQ,xa0,reduceIte,reduceCtorEq,xa1,xa2,xa3,xa4,hvf,hvt,↓RY,NB,QS,QT,qN,QN])))
  all_goals try exact Ωb
  refine⟨_,Weak.refl _ _,s0,hp,fun h=>g1 Ωo,fun h=>g2 Ωo,fun h=>g3 Ωo,fun h=>g4 Ωo,?_⟩;have hpc:pc (m ||| 2^4)=pc m+1:=by unfold pc;simp only[tb,xa2,Nat.succ_ne_self,Nat.zero_ne_one,Nat.one_ne_zero,decide_false,decide_true,xf3,Bool.or_true,xf4,qW,qJ,reduceCtorEq,hbit,Bool.toNat_true,Bool.toNat_false]<;>omega
  rw[hpc];simp only[tb,xa2,Nat.succ_ne_self,Nat.zero_ne_one,Nat.one_ne_zero,decide_false,decide_true,xf3,Bool.or_true,xf4,qW,qJ,reduceCtorEq,hbit,xb2]
 ·rintro m st ⟨s0,hp,g1,g2,g3,g4,rfl⟩ hcl hbit hd
  have q3:=hd 3 Ωr Ωr;have q4:=hd 4 Ωr Ωr;refine⟨_,Weak.refl _ _,?_⟩;unfold opH;rw[zu];simp only[q3,q4,hbit,qW,qJ];refine .inl ?_;(repeat' (first|refine sD ?_ ?_<;>intro _|refine aAh ?_|(simp -dsimp only[↓RP,RQ,xa0,reduceIte,reduceCtorEq,xa1,xa2,xa3,xa4,hvf,hvt,↓RY,NB,QS,QT,qN,QN])))
  all_goals try exact Ωb
  refine⟨_,Weak.refl _ _,s0,hp,fun h=>g1 Ωo,fun h=>g2 Ωo,fun h=>g3 Ωo,fun h=>g4 Ωo,?_⟩;have hpc:pc (m ||| 2^5)=pc m+1:=by unfold pc;simp only[tb,xa2,Nat.succ_ne_self,Nat.zero_ne_one,Nat.one_ne_zero,decide_false,decide_true,xf3,Bool.or_true,xf4,qW,qJ,reduceCtorEq,q3,q4,hbit,Bool.toNat_true,Bool.toNat_false]<;>omega
  rw[hpc];simp only[tb,xa2,Nat.succ_ne_self,Nat.zero_ne_one,Nat.one_ne_zero,decide_false,decide_true,xf3,Bool.or_true,xf4,qW,qJ,reduceCtorEq,q3,q4,hbit,xb2]
 ·rintro m st ⟨s0,hp,g1,g2,g3,g4,rfl⟩ hcl hbit hd
  have q2:=hd 2 Ωr Ωr;have q5:=hd 5 Ωr Ωr;refine⟨_,Weak.refl _ _,?_⟩;unfold opH;rw[zu];simp only[q2,q5,hbit,qW,qJ];rw[g1 hbit];refine .inr ⟨rfl,.inl (qkY (id:=oid) (i0:=i) (j0:=j) (n':=nn) (m:=n - j) (k:=1) (e:=3) (row:=row) YU Ω rfl rfl hb Ω Ω hone2 ?_)⟩;refine⟨_,ZR _ _ (id+13+(pc m+1)) (by simp only[St.putI];omega),s0,setBlk H oid (.rows 3 1 nn (gI row i j (n - j))),fun h=>(by rw[tb]at h;simp at h),fun h=>rfl,fun h=>g3 Ωo,fun h=>g4 Ωo,?_⟩;have hpc:pc (m ||| 2^6)=pc m+1:=by unfold pc;simp only[tb,xa2,Nat.succ_ne_self,Nat.zero_ne_one,Nat.one_ne_zero,decide_false,decide_true,xf3,Bool.or_true,xf4,qW,qJ,reduceCtorEq,q2,q5,hbit,Bool.toNat_true,Bool.toNat_false]<;>omega
  rw[show pc (m ||| 2^(0+1+1+1+1+1+1))=pc m+1 from hpc];simp only[xa1,tb,xa2,Nat.succ_ne_self,Nat.zero_ne_one,Nat.one_ne_zero,decide_false,decide_true,xf3,Bool.or_true,xf4,qW,qJ,reduceCtorEq,q2,q5,hbit,xb2];simp[St.putI,putIn]
 ·rintro m st ⟨s0,hp,g1,g2,g3,g4,rfl⟩ hcl hbit hd
  have q6:=hd 6 Ωr Ωr;refine⟨_,Weak.refl _ _,?_⟩;unfold opH;rw[zu];simp only[q6,hbit,qW,qJ];refine .inl ?_;(repeat' (first|refine sD ?_ ?_<;>intro _|refine aAh ?_|(simp -dsimp only[↓RP,RQ,xa0,reduceIte,reduceCtorEq,xa1,xa2,xa3,xa4,hvf,hvt,↓RY,NB,QS,QT,qN,QN])))
  all_goals try exact Ωb
  refine⟨_,Weak.refl _ _,.vec oid (i+(n - j)) 1,hp,fun h=>g1 Ωo,fun h=>g2 Ωo,fun h=>(by rw[tb]at h;simp at h),fun h=>rfl,?_⟩;have hpc:pc (m ||| 2^7)=pc m+1:=by unfold pc;simp only[tb,xa2,Nat.succ_ne_self,Nat.zero_ne_one,Nat.one_ne_zero,decide_false,decide_true,xf3,Bool.or_true,xf4,qW,qJ,reduceCtorEq,q6,hbit,Bool.toNat_true,Bool.toNat_false]<;>omega
  rw[hpc];simp only[tb,xa2,Nat.succ_ne_self,Nat.zero_ne_one,Nat.one_ne_zero,decide_false,decide_true,xf3,Bool.or_true,xf4,qW,qJ,reduceCtorEq,q6,hbit,xb2]
 ·rintro m st' ⟨s0,hp,g1,g2,g3,g4,rfl⟩ hall
  have h7:=hall 7 Ωr;have h6:=hall 6 Ωr;rw[g2 h6,g4 h7];refine⟨_,Weak.refl _ _,?_⟩;have hpc:pc m=8:=by unfold pc;simp only[hall 0 Ωr,hall 1 Ωr,hall 2 Ωr,hall 3 Ωr,hall 4 Ωr,hall 5 Ωr,h6,h7];rfl
  rw[hpc];simp only[hall 0 Ωr,hall 1 Ωr,hall 2 Ωr,hall 3 Ωr,hall 4 Ωr,hall 5 Ωr,h6,h7,qW];have eH:∀b,blk (setBlk H oid b) oid=some b:=fun b=>qdi hb;(repeat' (first|refine sD ?_ ?_<;>intro _|refine aAh ?_|(simp -dsimp only[↓RP,RQ,xa0,reduceIte,reduceCtorEq,xa1,xa2,xa3,xa4,eH,↓RY,NB,QS,QT,qN,QN])))
  all_goals try exact Ωb
  refine ZL (qF ?_);(repeat' (first|refine sD ?_ ?_<;>intro _|refine aAh ?_|(simp -dsimp only[↓RP,RQ,xa0,reduceIte,reduceCtorEq,xa1,xa2,xa3,xa4,eH,↓RY,NB,QS,QT,qN,QN])));refine qF ?_;(repeat' (first|refine sD ?_ ?_<;>intro _|refine aAh ?_|(simp -dsimp only[↓RP,RQ,xa0,reduceIte,reduceCtorEq,xa1,xa2,xa3,xa4,eH,↓RY,NB,QS,QT,qN,QN])));refine qF ?_;(repeat' (first|refine sD ?_ ?_<;>intro _|refine aAh ?_|(simp -dsimp only[↓RP,RQ,xa0,reduceIte,reduceCtorEq,xa1,xa2,xa3,xa4,eH,↓RY,NB,QS,QT,qN,QN])));refine qF ?_;(repeat' (first|refine sD ?_ ?_<;>intro _|refine aAh ?_|(simp -dsimp only[↓RP,RQ,xa0,reduceIte,reduceCtorEq,xa1,xa2,xa3,xa4,eH,↓RY,NB,QS,QT,qN,QN])));refine gT rfl (qbY (id:=oid) (n:=i+(n - j)) (n':=nn) (l:=i+(n - j)) (h:=n) (k:=1) (e:=3) (row:=gI row i j (n - j)) (kl:=.i64) (kh:=.i64) YU Ω rfl Ωag Ωag (eH _) Ω hnn ?_);refine qF ?_;(repeat' (first|refine sD ?_ ?_<;>intro _|refine aAh ?_|(simp -dsimp only[↓RP,RQ,xa0,reduceIte,reduceCtorEq,xa1,xa2,xa3,xa4,gA,eH,KG,↓RY,NB,QS,QT,qN,QN])))
  all_goals try exact Ωb
  refine⟨⟨Ω,rfl⟩,?_⟩;refine⟨_,_,_,weakSU (nid':=id+60) Ω (fr':=[(0,_)]) ⟨.inr rfl,trivial⟩ (SubHp.refl _),rfl,by rw[hd1];rfl,_,fun x hx=>?_,rfl⟩;rw[hd1];have e2:i+(n - j)+(n -(i+(n - j)))=n:=by omega
  have e3:(i+(n - j+(n -(i+(n - j)))))=n:=by omega
  simp only[e2,e3]
end Go.Tn
end
section
namespace Go.Tn
open Go.Proofs
open Go.Sx
theorem qfA{P:Program}{O:Ctx}{op:Op}{st st2:St}{K:St→SV→Prop}(hw:Weak O st st2)(hn:st.nid≤st2.nid)(h:OpVC P O op st2 K):OpVC P O op st K:=by
 intro base okc ns r outs a w o ho hi;obtain⟨r',hi'⟩:=hw _ _ _ _ _ _ ⟨r,hi⟩;obtain⟨v,w',h1,st',r2,res,h2,h3,h4⟩:=h base okc ns r' outs a w o ho hi';exact⟨v,w',h1,st',r2,res,h2,xc1 hn h3,h4⟩
theorem u3:Tryz.prog.underlying 3=some (.int .i64):=by kernel_rfl
theorem qdN{P:Program}{O:Ctx}{t:TypeId}{x:Operand}{e:TypeId}{st:St}{K:St→SV→Prop}(ht:P.underlying t=some (.slice e))(hx:env (Go.Sx.look st.fr) x=.val (.slice none 0 0))(h:K st (.val (.int .i64 0))):OpVC P O (.call ⟨.builtin .cap,#[x],#[t]⟩) st K:=by
 intro base okc ns r outs a w o ho hi;have hu:=hi.env x;rw[hx]at hu;generalize hex:a.eval x=u at hu;cases hu;refine⟨.int .i64 0,w,?_,st,r,_,h,xa5 _,hi,.val _⟩;obtain⟨dst,op,type,pos,aft,guard⟩:=o;simp only[]at ho;subst ho;simp[execOp,Go.resolve,Go.invoke,Go.builtin,hex,Builtin.cap_,run_underlying ht,goInt]
theorem qpe(H:List (Nat×Blk))(id m:Nat)(hm:1≤m)(hm2:m≤100000)(hU:Under H id) :
  EffVC Tryz.prog 394 [.val (.slice none 0 0),.val (.int .i64 (m:Nat))] H id (fun hp' nid' res=>nid'=id+60∧∃oid r,id≤oid∧oid<nid'∧hp'=(oid,.rows 3 1 m r) :: H∧res=.vec oid 0 1):=by
 refine vY (zQ [(3,[(0,0)]),(5,[(0,0)])]) follows Tryz.func394 rfl Ωd Ωd (by rw[Tryz.ntmps394];simp) fun out=>?_;have NB:True:=trivial;have h0:=decide_eq_false (Ω:¬((m:Nat):Int)<0);have h1:=decide_eq_true (Ω:(0:Int)<((m:Nat):Int));(repeat' (first|refine sD ?_ ?_<;>intro _|refine aAi ?_|(simp -dsimp only[↓RP,RQ,xa0,reduceIte,reduceCtorEq,xa1,xa2,xa3,xa4,h0,↓RY,NB,QS,QT,qN,QN])))
 all_goals try exact Ωb
 refine ZL (qF ?_);(repeat' (first|refine sD ?_ ?_<;>intro _|refine aAi ?_|(simp -dsimp only[↓RP,RQ,xa0,reduceIte,reduceCtorEq,xa1,xa2,xa3,xa4,↓RY,NB,QS,QT,qN,QN])));refine qF ?_;(repeat' (first|refine sD ?_ ?_<;>intro _|refine aAi ?_|(simp -dsimp only[↓RP,RQ,xa0,reduceIte,reduceCtorEq,xa1,xa2,xa3,xa4,↓RY,NB,QS,QT,qN,QN])));refine gT rfl (qdN (zC YU).1 Ωag ?_);refine qF ?_;(repeat' (first|refine sD ?_ ?_<;>intro _|refine aAi ?_|(simp -dsimp only[↓RP,RQ,xa0,reduceIte,reduceCtorEq,xa1,xa2,xa3,xa4,↓RY,NB,QS,QT,qN,QN])));refine qF ?_;(repeat' (first|refine sD ?_ ?_<;>intro _|refine aAi ?_|(simp -dsimp only[↓RP,RQ,xa0,reduceIte,reduceCtorEq,xa1,xa2,xa3,xa4,↓RY,NB,QS,QT,qN,QN])));refine qF ?_;(repeat' (first|refine sD ?_ ?_<;>intro _|refine aAi ?_|(simp -dsimp only[↓RP,RQ,xa0,reduceIte,reduceCtorEq,xa1,xa2,xa3,xa4,↓RY,NB,QS,QT,qN,QN])));refine qF ?_;(repeat' (first|refine sD ?_ ?_<;>intro _|refine aAi ?_|(simp -dsimp only[↓RP,RQ,xa0,reduceIte,reduceCtorEq,xa1,xa2,xa3,xa4,↓RY,NB,QS,QT,qN,QN])));refine qF ?_;(repeat' (first|refine sD ?_ ?_<;>intro _|refine aAi ?_|(simp -dsimp only[↓RP,RQ,xa0,reduceIte,reduceCtorEq,xa1,xa2,xa3,xa4,gA,h1,↓RY,NB,QS,QT,qN,QN])))
 all_goals try exact Ωb
 refine ZL (qF ?_);(repeat' (first|refine sD ?_ ?_<;>intro _|refine aAi ?_|(simp -dsimp only[↓RP,RQ,xa0,reduceIte,reduceCtorEq,xa1,xa2,xa3,xa4,↓RY,NB,QS,QT,qN,QN])));refine qF ?_;(repeat' (first|refine sD ?_ ?_<;>intro _|refine aAi ?_|(simp -dsimp only[↓RP,RQ,xa0,reduceIte,reduceCtorEq,xa1,xa2,xa3,xa4,↓RY,NB,QS,QT,qN,QN])));refine gT rfl (qdN (zC YU).1 Ωag ?_);refine qF ?_;(repeat' (first|refine sD ?_ ?_<;>intro _|refine aAi ?_|(simp -dsimp only[↓RP,RQ,xa0,reduceIte,reduceCtorEq,xa1,xa2,xa3,xa4,↓RY,NB,QS,QT,qN,QN])));refine qF ?_;(repeat' (first|refine sD ?_ ?_<;>intro _|refine aAi ?_|(simp -dsimp only[↓RP,RQ,xa0,reduceIte,reduceCtorEq,xa1,xa2,xa3,xa4,↓RY,NB,QS,QT,qN,QN])));refine gT rfl (qfA (KK (t:=3) (k:=1) (d:=20) (fun _ _=>.top) (by simp[Go.Sx.look,putIn])) (xc4 _) (qgY (id:=id+16) (row:=fun _ _=>.top) (n':=0) (n:=0) (m:=m) (kn:=.i64) (kq:=.i64) YU ty3 ?hu3 ?hx ?hy ?hb (xa5 _) Ω (by rw[by3];omega) ?hid ?_))
 case hu3=>exact u3
 case hx=>simp[env,Go.Sx.look,putFr]
 case hy=>simp[env,Go.Sx.look,putFr,putIn]
 case hb=>simp[blk]
 case hid=>simp
 have hdr:dropBlk H (id+16)=H:=zf (hU.none Ω);have hvt:∀k,zZ 0 0 k 1=.vec k 0 1:=fun k=>by unfold zZ;rw[if_pos rfl];rfl
 have hlt:(id+16:Nat)<id+17:=by omega
 simp only[dropBlk,if_true,hdr];refine qF ?_;(repeat' (first|refine sD ?_ ?_<;>intro _|refine aAi ?_|(simp -dsimp only[↓RP,RQ,xa0,reduceIte,reduceCtorEq,xa1,xa2,xa3,xa4,hvt,↓RY,NB,QS,QT,qN,QN])));refine qF ?_;(repeat' (first|refine sD ?_ ?_<;>intro _|refine aAi ?_|(simp -dsimp only[↓RP,RQ,xa0,reduceIte,reduceCtorEq,xa1,xa2,xa3,xa4,hvt,↓RY,NB,QS,QT,qN,QN])));refine qF ?_;(repeat' (first|refine sD ?_ ?_<;>intro _|refine aAi ?_|(simp -dsimp only[↓RP,RQ,xa0,reduceIte,reduceCtorEq,xa1,xa2,xa3,xa4,hvt,↓RY,NB,QS,QT,qN,QN])));refine qF ?_;(repeat' (first|refine sD ?_ ?_<;>intro _|refine aAi ?_|(simp -dsimp only[↓RP,RQ,xa0,reduceIte,reduceCtorEq,xa1,xa2,xa3,xa4,gA,hvt,↓RY,NB,QS,QT,qN,QN])))
 all_goals try exact Ωb
 exact⟨_,_,_,weakSU (nid':=id+60) Ω (fr':=[(0,_)]) ⟨.inr rfl,trivial⟩ (SubHp.refl _),rfl,id+17,_,Ω,Ω,rfl,rfl⟩
def gL(L:Nat→List Int):Nat→List Int
 |0=>[]
 |k+1=>gL L k++L k
theorem kO(L:Nat→List Int)(k:Nat):gL L (k+1)=gL L k++L k:=rfl
theorem qdO(L:Nat→List Int){k n:Nat}(h:k≤n):(gL L k).length≤(gL L n).length:=by
 induction n with
 |zero=>obtain rfl:k=0:=by omega
        exact xa5 _
 |succ n ih=>
  by_cases e:k=n+1
  ·subst e;exact xa5 _
  ·have:=ih Ω;rw[kO,xc8];omega
def lls(n:Nat)(L:Nat→List Int):SV:=.arr false false n 1 (fun i _=>.arr false false (L i).length 1 (fun j _=>.val (.int .i64 ((L i).getD j 0))))
theorem qoc(n:Nat)(L:Nat→List Int)(hn:n≤10000)(h1:1≤(gL L n).length)(h2:(gL L n).length≤100000):zx Tryz.prog 359 [lls n L] (.rows 3 1 (gL L n).length (fun x _=>.val (.int .i64 ((gL L n).getD x 0)))) (.vec 0 (gL L n).length 1):=by
 refine jp Tryz.func359 rfl Ωd follows Ωd _ _ _ (by rw[Tryz.ntmps359];simp) (by simp[OldL,Old,lls]) ?_;unfold lls;(repeat' (first|refine sD ?_ ?_<;>intro _|refine aA ?_|(simp -dsimp only[↓RP,RQ,xa0,reduceIte,reduceCtorEq,xa1,xa2,xa3,xa4,kO,QT,QN])))
 all_goals try exact Ωb
 refine qn (fun(k:Nat)=>k≤n) (fun k=>⟨[(0,.arr false false n 1 (fun i _=>.arr false false (L i).length 1 (fun j _=>.val (.int .i64 ((L i).getD j 0))))),(3,.val (.int .i64 ((gL L k).length:Nat))),(9,.arr false false n 1 (fun i _=>.arr false false (L i).length 1 (fun j _=>.val (.int .i64 ((L i).getD j 0))))),(10,.val (.int .i64 (n:Nat))),(11,.val (.int .i64 (k:Nat)))],[],10+20*k⟩) (fun k=>n - k) 0 (xb6 _) (weakSU Ωh (by simp[qX,Go.Sx.look,gL]) (SubHp.refl _)) fun k hk=>?_;by_cases hkn:k<n
 ·have hlt:=decide_eq_true (Ω:((k:Nat):Int)<(n:Nat))
  have hle:=qdO L (k:=k+1) hkn;rw[kO,xc8]at hle;have hnn:=decide_eq_false (show ¬(((gL L k).length:Nat):Int)+((L k).length:Nat)<0 by omega);(repeat' (first|refine sD ?_ ?_<;>intro _|refine aA ?_|(simp -dsimp only[↓RP,RQ,xa0,reduceIte,reduceCtorEq,xa1,xa2,xa3,xa4,hlt,hnn,kO,QT,QN])))
  all_goals try exact Ωb
  refine⟨k+1,hkn,Ω,weakSU Ω (by simp[qX,Go.Sx.look,kO]) (SubHp.refl _)⟩
 ·obtain rfl:n=k:=by omega
  have hlt:=decide_eq_false (Ω:¬((n:Nat):Int)<(n:Nat));(repeat' (first|refine sD ?_ ?_<;>intro _|refine aA ?_|(simp -dsimp only[↓RP,RQ,xa0,reduceIte,reduceCtorEq,xa1,xa2,xa3,xa4,hlt,kO,QT,QN])))
  all_goals try exact Ωb
  refine jh ΩA (qpe [] _ (gL L n).length h1 h2 Under.nil) fun hp' nid' res hQ=>?_;obtain⟨rfl,oid,r0,q1,q2,rfl,rfl⟩:=hQ;(repeat' (first|refine sD ?_ ?_<;>intro _|refine aA ?_|(simp -dsimp only[↓RP,RQ,xa0,reduceIte,reduceCtorEq,xa1,xa2,xa3,xa4,kO,QT,QN])))
  all_goals try exact Ωb
  refine qn (fun(z:Nat×Nat×(Nat→Nat→SV))=>z.1≤n∧z.2.1<100+20*n+20*z.1∧∀x,x<(gL L z.1).length→z.2.2 x 0=.val (.int .i64 ((gL L z.1).getD x 0))) (fun z=>⟨[(0,.arr false false n 1 (fun i _=>.arr false false (L i).length 1 (fun j _=>.val (.int .i64 ((L i).getD j 0))))),(6,.vec z.2.1 (gL L z.1).length 1),(25,.arr false false n 1 (fun i _=>.arr false false (L i).length 1 (fun j _=>.val (.int .i64 ((L i).getD j 0))))),(26,.val (.int .i64 (n:Nat))),(27,.val (.int .i64 (z.1:Nat)))],[(z.2.1,.rows 3 1 (gL L z.1).length z.2.2)],100+20*n+20*z.1⟩) (fun z=>n - z.1) (0,oid,r0) ⟨xb6 _,Ωe,fun x hx=>(by simp[gL]at hx)⟩ (gR [] [] ?hw1 ?hw2 ?hw3 rfl) fun z hz=>?_
  case hw1=>(simp -dsimp only[↓RP,RQ,xa0,reduceIte,reduceCtorEq,xa1,xa2,xa3,xa4,gL]);all_goals (try simp[gL]);omega
  case hw2=>(simp -dsimp only[↓RP,RQ,xa0,reduceIte,reduceCtorEq,xa1,xa2,xa3,xa4,gL]);all_goals (try simp[gL]);omega
  case hw3=>(simp -dsimp only[↓RP,RQ,xa0,reduceIte,reduceCtorEq,xa1,xa2,xa3,xa4]);all_goals (try simp)
  obtain⟨k,oid1,r⟩:=z;obtain⟨z1,z2,z3⟩:=hz;dsimp only at z1 z2 z3;dsimp only;by_cases hkn:k<n
  ·have hlt:=decide_eq_true (Ω:((k:Nat):Int)<(n:Nat))
   have hle:=qdO L (k:=k+1) hkn;rw[kO,xc8]at hle;(repeat' (first|refine sD ?_ ?_<;>intro _|refine aA ?_|(simp -dsimp only[↓RP,RQ,xa0,reduceIte,reduceCtorEq,xa1,xa2,xa3,xa4,hlt,kO,QT,QN])))
   all_goals try exact Ωb
   refine⟨⟨⟨.inr trivial,xa5 _,Ω⟩,Ω⟩,by simp only[InK];omega,(k+1,100+20*n+20*k+1+3+2,_),⟨Ωe,Ωe,fun x hx=>?_⟩,Ωe,weakSU Ωe (by simp[qX,Go.Sx.look,kO]) (by dsimp only;rw[kO,xc8];exact SubHp.refl _)⟩;dsimp only at hx ⊢;rw[kO,xc8]at hx;rw[kO];by_cases e:x<(gL L k).length
   ·rw[if_pos e,z3 x e,xc6,xc6,xc9 e]
   ·rw[if_neg e,xc6,xc6,xd0 Ω]
  ·obtain rfl:n=k:=by omega
   have hlt:=decide_eq_false (Ω:¬((n:Nat):Int)<(n:Nat));(repeat' (first|refine sD ?_ ?_<;>intro _|refine aA ?_|(simp -dsimp only[↓RP,RQ,xa0,reduceIte,reduceCtorEq,xa1,xa2,xa3,xa4,hlt,kO,QT,QN])))
   all_goals try exact Ωb
   refine⟨oid1,_,by simp[blk];rfl,?_,?_⟩
   ·simp only[SubB,true_and]
    exact⟨xa5 _,fun i j hi hj=>by
      obtain rfl:j=0:=by omega
      rw[z3 i hi];simp[Go.Sx.Sub]⟩
   ·simp[SubO]
end Go.Tn
end
section
namespace Go.Sx
open Go.Proofs
open Go.RowKit Go.Tn
noncomputable section
variable{ρ:Q}
theorem qiW{P:Program}{O:Ctx}{g:FuncId}{args pats:List SV}{b:Blk}{res:SV}{st:St}{K:St→SV→Prop}(hc:zx P g pats b res)(hs:NewOk st.hp pats args b res)(hk:K ⟨st.fr,(st.nid,b) :: st.hp,st.nid+1⟩ (setId st.nid res)):kT P O g args st K:=by
 intro base okc ns r outs a w vs hI hl ha;have hrun:(callFunc g vs).run P w=.ok (.enter g vs) w:=by
  obtain⟨⟨fn,hf,hname,hbody⟩,_⟩:=hc;have:fn.body.isNone=false:=by cases hb:fn.body<;>simp_all
  simp only[callFunc,Sem.run_bind,run_program,Result.andThen_ok,hf,hname,xe7,if_false,this,Sem.run_pure]
 refine⟨hrun,?_⟩;have := JS (o := ⟨some 0, .move (.const undef), 0, "", #[], none⟩) (a := { a with tmps := #[undef] }) (Q := fun _ _ _ => False) hI.sat hl ha hc hs (id := st.nid) (xb4 _) (hp2 := (st.nid, b) :: st.hp) Ω7 (fun j hj => by simp only [blk]; rw [if_neg (Nat.ne_of_lt hj)])
  (K:=fun a' w'=>∃st' r' res,K st' res∧st.nid≤st'.nid∧InvR O base okc ns st'.nid r' outs st' a w'∧Rep r' (· < st'.nid) (Gd base okc r' (· < st'.nid) st'.hp w') w' res (a'.tmps.getD 0 undef)) (fun v w' r' hst hrep=>by
   rw[jn]at hst hrep;have h2:=(hI.step hst (fun i x hx=>by
    simp only[blk]at hx;split at hx
    ·rename_i e;rw[e];exact xb5 _
    ·exact Nat.lt_succ_of_lt (hI.keys i x hx)) (xc4 _) (d:=none) (fun t ht=>by cases ht) (.val undef)).nid (st.nid+1)
   exact⟨⟨st.fr,(st.nid,b) :: st.hp,st.nid+1⟩,r',_,hk,xc4 _,h2,by simpa[Act.put]using hrep⟩)
 rw[hrun,Oper.upon_enter]at this;refine this.mono fun e w' h=>?_;cases e with
 |returned v=>
  obtain⟨st',r',res',h1,h2,h3,h4⟩:=h;exact⟨v,st',r',res',rfl,h1,h2,h3,by simpa[Act.put]using h4⟩
 |panicked c=>exact h.elim
 |outgrown=>obtain⟨_,_,h⟩:=h;exact h.elim
theorem qaj{H:List (Nat×Blk)}{x:SV}{obl:Prop}{n k:Nat}{row p:Nat→Nat→SV}(h:rowsOf H x=some (obl,n,k,row))(ho:obl)(hs:∀i j,i<n→j<k→Go.Sx.Sub H (p i j) (row i j)):Go.Sx.Sub H (.arr false false n k p) x:=by
 unfold rowsOf at h;split at h
 ·cases h
  unfold Go.Sx.Sub;refine⟨fun h=>absurd h Ωh,fun h=>absurd h Ωh,rfl,rfl,hs⟩
 ·split at h
  ·rename_i hb
   cases h;obtain⟨h1,rfl⟩:=ho;simp only[Go.Sx.Sub,hb];exact⟨trivial,trivial,trivial,h1,trivial,hs⟩
  ·cases h
 ·split at h
  ·rename_i hb
   cases h;obtain⟨h1,rfl⟩:=ho;simp only[Go.Sx.Sub,hb];exact⟨trivial,trivial,h1,trivial,hs⟩
  ·cases h
 ·split at h
  ·rename_i hb
   cases h;simp only[Go.Sx.Sub,hb];exact⟨trivial,trivial,trivial,ho,hs⟩
  ·cases h
 ·split at h
  ·rename_i hn
   cases h;simp only[Go.Sx.Sub];exact⟨hn,trivial⟩
  ·cases h
 ·cases h
def qmT(args:List SV)(hp:Tr 6 XB)(nid:Nat)(k:SV→Tr 6 XB→Nat→R):R:=
 match args with
 |[.vec id n 1,.val (.int .i64 (.ofNat i)),.val (.int .i64 (.ofNat j))]=>(match hp.find id with
  |some (.rows 3 1 nn l)=>qk 560 (Nat.ble (Nat.succ i) j) (qk 561 (Nat.ble j n) (qk 562 (Nat.ble n nn) (qk 563 (Nat.ble n 1000) (qdL l (ql (n -(j - i)) fun m=>gC (l.take i++(l.take n).drop j++List.replicate (j - i) (SV.val (.int .i64 (.ofNat 0)))++l.drop n) fun l=>zs (some (.rows 3 1 nn l)) 22 hp id fun hp=>k (.vec id m 1) hp nid)))))
  |_=>.bad 564 0)
 |_=>.bad 565 0
theorem qkZ{l:List SV}{i j n nn x:Nat}(hl:l.length=nn)(hij:i<j)(hj:j≤n)(hn:n≤nn)(hx:x<nn):(l.take i++(l.take n).drop j++List.replicate (j - i) (SV.val (.int .i64 (.ofNat 0)))++l.drop n).getD x .top=if n -(j - i)≤x∧x<n then .val (.int .i64 0)else if i≤x∧x<i+(n - j)then l.getD (j+(x - i)) .top else l.getD x .top:=by
 have l1:(l.take i).length=i:=by rw[xd9];omega
 have l2:((l.take n).drop j).length=n - j:=by rw[List.length_drop,xd9];omega
 have l3:(l.take i++(l.take n).drop j).length=n -(j - i):=by rw[xc8,l1,l2];omega
 have l4:(l.take i++(l.take n).drop j++List.replicate (j - i) (SV.val (.int .i64 (.ofNat 0)))).length=n:=by rw[xc8,l3,xd8];omega
 simp only[xc6];by_cases c1:n≤x
 ·rw[xd0 Ω,l4,List.getElem?_drop,if_neg Ω,if_neg Ω,show n+(x - n)=x by omega]
 ·rw[xc9 Ω]
  by_cases c2:n -(j - i)≤x
  ·rw[if_pos ⟨c2,Ω⟩,xd0 Ω,l3,List.getElem?_replicate,if_pos Ω];rfl
  ·rw[if_neg Ω,xc9 Ω]
   by_cases c3:i≤x
   ·rw[if_pos ⟨c3,Ω⟩,xd0 Ω,l1,List.getElem?_drop,List.getElem?_take_of_lt Ω]
   ·rw[if_neg Ω,xc9 Ω,List.getElem?_take_of_lt Ω]
theorem qla:Kk Tryz.prog 186 qmT:=by
 intro ρ LM O args hp k st K hH h hk;unfold qmT at h;split at h
 ·rename_i oid n i j
  split at h
  ·rename_i nn l hf
   obtain⟨a1,h⟩:=qe h;obtain⟨a2,h⟩:=qe h;obtain⟨a3,h⟩:=qe h;obtain⟨a4,h⟩:=qe h;obtain⟨h,b1⟩:=Jg h;rw[qi,qU]at h;obtain⟨hp1,p1,h⟩:=qM _ _ _ _ h;have hij:i<j:=xa7 a1;have hj:=xa7 a2;have hn:=xa7 a3;have hN:=xa7 a4;obtain⟨row,hb,lr,gr⟩:=hH.rows hf;rw[Nat.mul_one]at lr;intro base okc ns r outs a w vs hI hlen hv;have keys:=hI.keys;have hrow:∀x,x<nn→row x 0=l.getD x .top:=fun x hx=>by
    have:=gr x 0 hx Ω
    rwa [Nat.mul_one,xb1]at this
   have E:=qob st.hp st.nid oid n nn i j row Ω hn hij hj hb (keys _ _ hb) (fun x hx=>by rw[hrow x Ω];exact b1 x Ω);refine Jd (E O st.fr) (fun st' sv hself hq=>?_) base okc ns r outs a w vs hI hlen hv;obtain⟨fr',hp',nid'⟩:=st';obtain⟨q0,q1,q2,rr,q3,q4⟩:=hq;simp only[]at q0 q1 q2 q4;subst q0 q1 q2 q4;have hval:∀x,x<nn→rr x 0=(l.take i++(l.take n).drop j++List.replicate (j - i) (SV.val (.int .i64 (.ofNat 0)))++l.drop n).getD x .top:=fun x hx=>by
    rw[q3 x hx,qkZ lr hij hj hn hx];by_cases c:n -(j - i)≤x∧x<n
    ·rw[if_pos c,if_pos c]
    ·rw[if_neg c,if_neg c]
     unfold gI;by_cases c2:i≤x∧x<i+(n - j)
     ·rw[if_pos c2,if_pos c2,hrow _ Ω]
     ·rw[if_neg c2,if_neg c2,hrow _ hx]
   refine⟨st.nid,setBlk st.hp oid (.rows 3 1 nn rr),.vec oid (n -(j - i)) 1,st.nid,rfl,xa5 _,fun id x hx=>?_,?_,xa5 _,hk _ hp1 _ _ (fun id b hbb=>?_) h⟩
   ·have hx':=hx
    rw[qp]at hx;split at hx
    ·rename_i e
     subst e;rw[hb]at hx;cases hx;refine⟨.inl ⟨keys _ _ hb,hx'⟩,rfl,rfl,xa5 _,fun y z hy hz=>?_⟩;obtain rfl:z=0:=by omega
     rw[q3 y hy];split
     ·simp[Wk]
     ·unfold gI
      split
      ·rw[hrow _ Ω]
       obtain⟨v,hv⟩:=b1 (j+(y - i)) Ω;rw[hv];simp[Wk]
      ·rw[hrow _ hy]
       obtain⟨v,hv⟩:=b1 y Ω;rw[hv];simp[Wk]
    ·exact⟨.inl ⟨keys _ _ hx,hx'⟩,hself _ _ _ (xa5 _) _ _ hx⟩
   ·unfold Wk
    have:=keys _ _ hb;refine⟨this,?_,rfl,rfl⟩;simp only[ren];rw[if_neg Ω]
   ·rw[p1 id]at hbb
    rw[qp];by_cases e:id=oid
    ·rw[if_pos e]at hbb ⊢
     cases hbb;rw[hb];refine⟨_,rfl,rfl,rfl,rfl,?_,fun y z hy hz=>?_⟩
     ·rw[xc8,xc8,xc8,xd9,List.length_drop,xd9,xd8,List.length_drop];omega
     ·obtain rfl:z=0:=by omega
      rw[Nat.mul_one,xb1];exact hval y hy
    ·rw[if_neg e]at hbb ⊢
     exact hH id b hbb
  ·cases h
 ·cases h
def qdP(l:List SV)(f:List Int→R):R:=(List.rec (motive:=fun _=>(List Int→R)→R) (fun f=>f []) (fun a _ ih f=>match a with
 |.val (.int .i64 x)=>Yv x fun x=>ih fun l=>f (x :: l)
 |_=>.bad 570 0) l) f
theorem qak:∀{l:List SV}{f:List Int→R},qdP l f=.ok ρ→∃m,f m=.ok ρ∧m.length=l.length∧∀j,j<l.length→l.getD j .top=.val (.int .i64 (m.getD j 0))
 |[],f,h=>⟨[],h,rfl,fun j hj=>by cases hj⟩
 |a :: l,f,h=>by
  have h:(match (generalizing:=false) a with
   |.val (.int .i64 x)=>Yv x fun x=>qdP l fun l=>f (x :: l)
   |_=>.bad 570 0)=(.ok ρ:R):=h
  split at h
  ·rename_i x _
   rw[jr]at h;obtain⟨m,h1,h2,h3⟩:=qak h;refine⟨x :: m,h1,by simp[h2],fun j hj=>?_⟩;cases j with
   |zero=>rfl
   |succ j=>exact h3 j (Nat.lt_of_succ_lt_succ hj)
  ·cases h
def qbZ(hp:Tr 6 XB)(l:List SV)(f:List (List Int)→R):R:=(List.rec (motive:=fun _=>(List (List Int)→R)→R) (fun f=>f []) (fun a _ ih f=>Q9 hp a fun _ k m=>qk 571 (Nat.beq k 1) (qdP m fun x=>ih fun l=>f (x :: l))) l) f
theorem Vv{hp:Tr 6 XB}{LM:Nat→Option Loop}{H:List (Nat×Blk)}(hH:HRel LM hp H):∀{l:List SV}{f:List (List Int)→R},qbZ hp l f=.ok ρ→∃L,f L=.ok ρ∧L.length=l.length∧∀i,i<l.length→Go.Sx.Sub H (.arr false false (L.getD i []).length 1 (fun j _=>.val (.int .i64 ((L.getD i []).getD j 0)))) (l.getD i .top)
 |[],f,h=>⟨[],h,rfl,fun j hj=>by cases hj⟩
 |a :: l,f,h=>by
  have h:Q9 hp a (fun _ k m=>qk 571 (Nat.beq k 1) (qdP m fun x=>qbZ hp l fun l=>f (x :: l)))=.ok ρ:=h;obtain⟨obl,n,k,row,m,h1,h2,h3,g1⟩:=vx hH h;obtain⟨e0,g2⟩:=qe g1;have e:=xa6 e0;clear h g1 e0;subst e;obtain⟨x,h,h4,h5⟩:=qak g2;clear g2;obtain⟨L,h,h6,h7⟩:=Vv hH h;refine⟨x :: L,h,by simp[h6],fun i hi=>?_⟩;cases i with
  |zero=>
   show Go.Sx.Sub H (.arr false false x.length 1 (fun j _=>.val (.int .i64 (x.getD j 0)))) a;have hx:x.length=n:=by rw[h4,h3.1,Nat.mul_one]
   rw[hx];refine qaj h1 h2 fun y z hy hz=>?_;obtain rfl:z=0:=by omega
   have:=h3.2 y 0 hy Ω;rw[Nat.mul_one,xb1,h5 y Ω]at this;rw[this];simp[Go.Sx.Sub]
  |succ i=>exact h7 i (Nat.lt_of_succ_lt_succ hi)
theorem Vw(L:List (List Int)):∀k,k≤L.length→gL (fun i=>L.getD i []) k=(L.take k).flatten
 |0,_=>rfl
 |k+1,h=>by
  rw[kO,Vw L k Ω,List.take_succ_eq_append_getElem Ω,List.flatten_append,xc6,xc7 Ω];simp
def svI(l:List Int):List SV:=l.map fun n=>.val (.int .i64 n)
theorem qlb{l:List Int}{i:Nat}(h:i<l.length):(svI l).getD i .top=.val (.int .i64 (l.getD i 0)):=by
 unfold svI;rw[xc6,xc6,List.getElem?_map,xc7 h];rfl
def qmU(args:List SV)(hp:Tr 6 XB)(nid:Nat)(k:SV→Tr 6 XB→Nat→R):R:=
 match args with
 |[x]=>Q9 hp x fun n k1 l=>qk 572 (Nat.beq k1 1) (qk 573 (Nat.ble n 10000) (qbZ hp l fun L=>yL (svI L.flatten) fun o=>ql o.length fun m=>qk 574 (Nat.ble 1 m) (qk 575 (Nat.ble m 100000) (ql nid fun nid=>zs (some (.rows 3 1 m o)) 22 hp nid fun hp=>ql (Nat.succ nid) fun n2=>k (.vec nid m 1) hp n2))))
 |_=>.bad 576 0
theorem qlc:Kk Tryz.prog 359 qmU:=by
 intro ρ LM O args hp k st K hH h hk;unfold qmU at h;split at h
 ·rename_i x
  obtain⟨obl,n,k1,row,l,h1,h2,h3,g1⟩:=vx hH h;obtain⟨e0,g2⟩:=qe g1;obtain⟨a1,g3⟩:=qe g2;have e:=xa6 e0;clear h g1 g2 e0;subst e;obtain⟨L,h,h6,h7⟩:=Vv hH g3;clear g3;rw[ko,qi]at h;obtain⟨a2,h⟩:=qe h;obtain⟨a3,h⟩:=qe h;rw[qi]at h;obtain⟨hp1,p1,h⟩:=qM _ _ _ _ h;rw[qi]at h;have hn:=xa7 a1;have hm1:=xa7 a2;have hm2:=xa7 a3;have hLn:L.length=n:=by rw[h6,h3.1,Nat.mul_one]
  have hcat:gL (fun i=>L.getD i []) n=L.flatten:=by
   rw[Vw L n Ω,←hLn,List.take_length]
  have hsl:(svI L.flatten).length=L.flatten.length:=by unfold svI;rw[xe1]
  have C:=qoc n (fun i=>L.getD i []) hn (by rw[hcat];omega) (by rw[hcat];omega);rw[hcat]at C;refine qiW C (.inl ⟨?_,by simp[FreshO],by simp[FreshB,Fresh]⟩) ?_
  ·simp only[SubL,and_true]
   exact qaj h1 h2 fun i j hi hj=>by
    obtain rfl:j=0:=by omega
    have:=h3.2 i 0 hi Ω;rw[Nat.mul_one,xb1]at this;rw[this];exact h7 i Ω
  ·rw[show setId st.nid (.vec 0 L.flatten.length 1)=.vec st.nid (svI L.flatten).length 1 by simp[setId,hsl]]
   refine hk _ hp1 _ _ (fun id b hb=>?_) h;rw[p1 id]at hb;simp only[blk];by_cases e:id=st.nid
   ·rw[if_pos e]at hb ⊢
    cases hb;refine⟨_,rfl,rfl,rfl,by rw[hsl],Ωh,fun i j hi hj=>?_⟩;obtain rfl:j=0:=by omega
    rw[Nat.mul_one,xb1,qlb Ω]
   ·rw[if_neg e]at hb ⊢
    exact hH id b hb
 ·cases h
end
end Go.Sx
end
section
namespace Go.Tn
open Go.Proofs
open Go.Sx
theorem TYR:True∧qq Tryz.prog 165=some ⟨false,1,some [.map none],.map 213 2⟩∧qI Tryz.prog 165=some ⟨true,[.i .i64,.i .i64],.int .i64 0⟩∧qq Tryz.prog 167=some ⟨true,16,some [.int .i64 0,.int .i64 0,.slice none 0 0,.slice none 0 0,.bool false,.int .i64 0,.int .i64 0,.int .i64 0,.int .i64 0,.map none,.int .i64 0,.int .i64 0,.int .i64 0,.int .i64 0,.int .i64 0,.int .i64 0],.struct [(0,8,some true),(8,1,some false),(9,1,some false),(10,6,some true)]⟩∧za Tryz.prog 167=some [(0,8),(8,1),(9,1),(10,6)]∧qq Tryz.prog 213=some ⟨true,2,some [.int .i64 0,.int .i64 0],.struct [(0,1,some false),(1,1,some false)]⟩∧za Tryz.prog 213=some [(0,1),(1,1)]∧gm Tryz.prog 213=some [.i .i64,.i .i64]∧qq Tryz.prog 57=some ⟨true,6,some [.int .i64 0,.int .i64 0,.int .i64 0,.int .i64 0,.int .i64 0,.int .i64 0],.struct [(0,1,some false),(1,1,some false),(2,1,some false),(3,1,some false),(4,1,some false),(5,1,some false)]⟩∧za Tryz.prog 57=some [(0,1),(1,1),(2,1),(3,1),(4,1),(5,1)]∧gm Tryz.prog 57=some [.i .i64,.i .i64,.i .i64,.i .i64,.i .i64,.i .i64]∧qq Tryz.prog 160=some ⟨false,1,some [.pointer none],.other⟩∧qq Tryz.prog 402=some ⟨true,8,some [.int .i64 0,.int .i64 0,.int .i64 0,.int .i64 0,.int .i64 0,.int .i64 0,.int .i64 0,.int .i64 0],.array 8 2 1⟩∧za Tryz.prog 402=some [(0,1),(1,1),(2,1),(3,1),(4,1),(5,1),(6,1),(7,1)]∧gm Tryz.prog 402=some [.i .i64,.i .i64,.i .i64,.i .i64,.i .i64,.i .i64,.i .i64,.i .i64]∧qP Tryz.prog 3=8:=⟨trivial,Ωd,Ωd,Ωd,Ωd,Ωd,Ωd,Ωd,Ωd,Ωd,Ωd,Ωd,Ωd,Ωd,Ωd,Ωd⟩
def tlL(n:Int)(nb:Nat)(f:Nat→Int)(fv:Int)(M:SV)(a0 a1 a2 a3 a4 a5:Int):List SV:=[.val (.int .i64 0),.val (.int .i64 n),zh nb f (fun _=>-1) (fun _=>1),.val (.slice none 0 0),.val (.bool false),.val (.int .i64 0),.val (.int .i64 0),.val (.int .i64 1),.val (.int .i64 fv),M,.val (.int .i64 a0),.val (.int .i64 a1),.val (.int .i64 a2),.val (.int .i64 a3),.val (.int .i64 a4),.val (.int .i64 a5)]
def tlR(n:Int)(nb:Nat)(f:Nat→Int)(fv:Int)(M:SV)(a0 a1 a2 a3 a4 a5:Int):SV:=.ref false 16 (fun j=>(tlL n nb f fv M a0 a1 a2 a3 a4 a5).getD j .top)
theorem s16{j:Nat}(h:j<16):j=0∨j=1∨j=2∨j=3∨j=4∨j=5∨j=6∨j=7∨j=8∨j=9∨j=10∨j=11∨j=12∨j=13∨j=14∨j=15:=by omega
theorem qlV{P:SV→Prop}{n:Int}{nb:Nat}{f:Nat→Int}{fv:Int}{M:SV}{a0 a1 a2 a3 a4 a5:Int}(hv:∀v,P (.val v))(hb:P (zh nb f (fun _=>-1) (fun _=>1)))(hM:P M):∀j,j<16→P ((tlL n nb f fv M a0 a1 a2 a3 a4 a5).getD j .top):=by
 intro j hj;rcases s16 hj with rfl|rfl|rfl|rfl|rfl|rfl|rfl|rfl|rfl|rfl|rfl|rfl|rfl|rfl|rfl|rfl<;>first|exact hb|exact hM|exact hv _
theorem qdQ{n:Int}{nb:Nat}{f:Nat→Int}{fv:Int}{M:SV}{a0 a1 a2 a3 a4 a5:Int}(hM:Old M):Old (tlR n nb f fv M a0 a1 a2 a3 a4 a5):=by
 simp only[tlR,Old];exact⟨trivial,qlV (P:=Old) (fun v=>by simp[Old]) (zD _ _ _ _) hM⟩
theorem qod(x:Int):qf Tryz.prog 169 [(.val (.slice none 0 0)),I x] (I (-1)):=by
 refine qg Tryz.func169 rfl Ωd follows Ωd _ _ (by rw[Tryz.ntmps169];simp) Ωg ?_;have NB:True:=trivial;unfold I;(repeat' (first|refine sD ?_ ?_<;>intro _|refine aAf ?_|(simp -dsimp only[↓RP,RQ,xa0,reduceIte,reduceCtorEq,xa1,xa2,xa3,xa4,TYQ,TYP,NB,QR,TYR,QT,QN])))
 all_goals try exact Ωb
 refine qn (fun(_:Unit)=>True) (fun _=>⟨[(0,(.val (.slice none 0 0))),(1,.val (.int .i64 x)),(7,.val (.int .i64 0)),(8,.val (.int .i64 0))],[],10⟩) (fun _=>0) () trivial (weakSU Ω Ωf (SubHp.refl _)) fun z hz=>?_;(repeat' (first|refine sD ?_ ?_<;>intro _|refine aAf ?_|(simp -dsimp only[↓RP,RQ,xa0,reduceIte,reduceCtorEq,xa1,xa2,xa3,xa4,TYQ,TYP,NB,QR,TYR,QT,QN])))
 all_goals try exact Ωb
theorem qpf(x:Int):qf Tryz.prog 79 [(.val (.slice none 0 0)),I x] (B false):=by
 refine qg Tryz.func79 rfl Ωd follows Ωd _ _ (by rw[Tryz.ntmps79];simp) Ωg ?_;have NB:True:=trivial;have h1:=qod x;unfold I B;(repeat' (first|refine sD ?_ ?_<;>intro _|refine aAf ?_|(simp -dsimp only[↓RP,RQ,xa0,reduceIte,reduceCtorEq,xa1,xa2,xa3,xa4,TYQ,TYP,NB,QR,TYR,QT,QN])))
 all_goals try exact Ωb
 refine qj (h1) Ωc Ωa ?_;(repeat' (first|refine sD ?_ ?_<;>intro _|refine aAf ?_|(simp -dsimp only[↓RP,RQ,xa0,reduceIte,reduceCtorEq,xa1,xa2,xa3,xa4,QT,TYQ,TYP,NB,QR,TYR,QN])))
 all_goals try exact Ωb
 all_goals (refine wu ?_;simp)
theorem qiX(r:Int)(n:Int)(nb:Nat)(f:Nat→Int)(fv:Int)(M:SV)(hM:Old M)(a0 a1 a2 a3 a4 a5:Int):qf Tryz.prog 256 [tlR n nb f fv M a0 a1 a2 a3 a4 a5,I r] (B false):=by
 refine qg Tryz.func256 rfl Ωd follows Ωd _ _ (by rw[Tryz.ntmps256];simp) ΩS ?_;have NB:True:=trivial;have h1:=qpf r;unfold I B
 conv=>arg 4;unfold tlR tlL
 (repeat' (first|refine sD ?_ ?_<;>intro _|refine aAf ?_|(simp -dsimp only[↓RP,RQ,xa0,reduceIte,reduceCtorEq,xa1,xa2,xa3,xa4,TYQ,TYP,NB,QR,TYR,QT,QN])))
 all_goals try exact Ωb
 refine qj (h1) Ωc Ωa ?_;(repeat' (first|refine sD ?_ ?_<;>intro _|refine aAf ?_|(simp -dsimp only[↓RP,RQ,xa0,reduceIte,reduceCtorEq,xa1,xa2,xa3,xa4,QT,TYQ,TYP,NB,QR,TYR,QN])))
 all_goals try exact Ωb
theorem qoe(n:Nat)(nb:Nat)(f:Nat→Int)(fv:Int)(M:SV)(hM:Old M)(a0 a1 a2 a3 a4 a5:Int)(hn1:1≤n)(hn:n≤8):zx Tryz.prog 184 [tlR n nb f fv M a0 a1 a2 a3 a4 a5] (.rows 3 1 n (fun i _=>.val (.int .i64 (i:Nat)))) (.vec 0 n 1):=by
 refine jp Tryz.func184 rfl Ωd follows Ωd _ _ _ (by rw[Tryz.ntmps184];simp) ΩS ?_;have NB:True:=trivial;unfold tlR tlL;(repeat' (first|refine sD ?_ ?_<;>intro _|refine aAf ?_|(simp -dsimp only[↓RP,RQ,xa0,reduceIte,reduceCtorEq,xa1,xa2,xa3,xa4,TYQ,TYP,NB,QR,TYR,QT,QN])))
 all_goals try exact Ωb
 refine qn (fun(z:Nat×(Nat→Nat→SV))=>z.1≤n∧∀x,x<z.1→z.2 x 0=.val (.int .i64 (x:Nat))) (fun z=>⟨[(0,.ref false 16 (fun j=>(tlL n nb f fv M a0 a1 a2 a3 a4 a5).getD j .top)),(3,.vec (60+25*z.1) z.1 1),(9,.val (.int .i64 (n:Nat))),(10,.val (.int .i64 (z.1:Nat)))],[(60+25*z.1,.rows 3 1 z.1 z.2)],60+25*z.1+10⟩) (fun z=>n - z.1) (0,fun _ _=>.top) ⟨xb6 _,fun x hx=>(by simp only[]at hx;omega)⟩ (gR [(60,none)] [] ?hw1 ?hw2 ?hw3) fun z hz=>?_
 case hw1=>(simp -dsimp only[↓RP,RQ,xa0,reduceIte,reduceCtorEq,xa1,xa2,xa3,xa4,QV]);all_goals (try simp[QV]);all_goals exact qlV (P:=fun z=>Wk _ _ _ _ z z) (fun v=>by simp[Wk]) (yt _ (zD _ _ _ _)) (yt _ hM)
 case hw2=>(simp -dsimp only[↓RP,RQ,xa0,reduceIte,reduceCtorEq,xa1,xa2,xa3,xa4,QV]);all_goals (try simp[QV])
 case hw3=>(simp -dsimp only[↓RP,RQ,xa0,reduceIte,reduceCtorEq,xa1,xa2,xa3,xa4,QV]);all_goals (try simp[QV])
 obtain⟨w,r⟩:=z;obtain⟨hw,hr⟩:=hz;dsimp only at hw hr ⊢;by_cases hwm:w<n
 ·have hlt:=decide_eq_true (Ω:((w:Nat):Int)<(n:Nat))
  obtain⟨n1,hn1⟩:∃n1,n1=60+25*w:=⟨_,rfl⟩;rw[←hn1];have h1:=qiX w n nb f fv M hM a0 a1 a2 a3 a4 a5;(repeat' (first|refine sD ?_ ?_<;>intro _|refine aAf ?_|(simp -dsimp only[↓RP,RQ,xa0,reduceIte,reduceCtorEq,xa1,xa2,xa3,xa4,hlt,TYQ,TYP,NB,QR,TYR,QT,QN])))
  all_goals try exact Ωb
  refine qj (h1) ΩI Ωa ?_;(repeat' (first|refine sD ?_ ?_<;>intro _|refine aAf ?_|(simp -dsimp only[↓RP,RQ,xa0,reduceIte,reduceCtorEq,xa1,xa2,xa3,xa4,QT,TYQ,TYP,NB,QR,TYR,QN])))
  all_goals try exact Ωb
  refine⟨⟨xa5 _,.inr trivial,Ω⟩,by simp only[InK];omega,(w+1,fun i j=>if i<w then r i j else [SV.val (.int .i64 (w:Nat))].getD (i - w+j) .top),⟨hwm,fun x hx=>?_⟩,Ωe,weakSU Ωe ?hs1 ?hs2⟩
  case hs1=>dsimp only;rw[show 60+25*(w+1)=n1+25 by omega];simp[qX,Go.Sx.look]
  case hs2=>dsimp only;rw[show 60+25*(w+1)=n1+25 by omega];exact SubHp.cons (fun _ _ h=>by simp[blk]at h)
  dsimp only at hx ⊢;by_cases e:x<w
  ·rw[if_pos e];exact hr x e
  ·obtain rfl:x=w:=by omega
   rw[if_neg e];simp
 ·obtain rfl:n=w:=by omega
  have hlt:=decide_eq_false (Ω:¬((n:Nat):Int)<(n:Nat));(repeat' (first|refine sD ?_ ?_<;>intro _|refine aAf ?_|(simp -dsimp only[↓RP,RQ,xa0,reduceIte,reduceCtorEq,xa1,xa2,xa3,xa4,hlt,TYQ,TYP,NB,QR,TYR,QT,QN])))
  all_goals try exact Ωb
  refine⟨60+25*n,_,by simp[blk];rfl,?_,?_⟩
  ·simp only[SubB,true_and]
   exact⟨xa5 _,fun i j hi hj=>by
     obtain rfl:j=0:=by omega
     rw[hr i hi];simp[Go.Sx.Sub]⟩
  ·simp[SubO]
def qal(V:Nat→Int):List SV:=[.ref false 8 (fun j=>.val (.int .i64 (V j)))]
theorem qam(V:Nat→Int):OldL (qal V):=by simp[qal,OldL,Old]
def amx(V:Nat→Int):Nat→Nat
 |0=>0
 |w+1=>if V (amx V w)<V w then w else amx V w
theorem qdR(V:Nat→Int)(w:Nat):amx V (w+1)=if V (amx V w)<V w then w else amx V w:=rfl
theorem qca(V:Nat→Int):∀w,1≤w→amx V w<w
 |0,h=>by omega
 |w+1,_=>by
  rw[qdR];by_cases e:w=0
  ·subst e;simp[amx]
  ·have:=qca V w Ω
   split<;>omega
theorem qiY(V:Nat→Int):∀w i,i<w→V i≤V (amx V w)
 |0,i,h=>by omega
 |w+1,i,h=>by
  simp only[amx];by_cases e:i=w
  ·subst e;split<;>omega
  ·have:=qiY V w i Ω
   split<;>omega
theorem qpg(r:Nat)(V:Nat→Int)(hr:r<8):qf Tryz.prog 291 (I r :: qal V) (I (V r)):=by
 refine qg Tryz.func291 rfl Ωd follows Ωd _ _ (by rw[Tryz.ntmps291];simp[qal]) (by simp only[OldL,qam,and_true];simp[Old,I]) ?_;have NB:True:=trivial;unfold I qal;(repeat' (first|refine sD ?_ ?_<;>intro _|refine aAf ?_|(simp -dsimp only[↓RP,RQ,xa0,reduceIte,reduceCtorEq,xa1,xa2,xa3,xa4,TYQ,TYP,NB,QR,TYR,QT,QN])))
 all_goals try exact Ωb
 all_goals omega
theorem qph(n:Nat)(V:Nat→Int)(g:Nat)(caps:List SV)(ho:OldL caps)(h1:1≤n)(hn:n≤1000000)(hg:∀i,i<n→qf Tryz.prog g (I (i:Nat) :: caps) (I (V i)))(hV:∀i,i<n→0≤V i∧V i≤1000000):qf Tryz.prog 290 [qA n (fun i=>(i:Nat)),.fn (.func g) [] caps] (I (amx V n)):=by
 refine qg Tryz.func290 rfl Ωd follows Ωd _ _ (by rw[Tryz.ntmps290];simp) (by simp[OldL,Old,qA,ho]) ?_;have NB:True:=trivial;unfold I qA;(repeat' (first|refine sD ?_ ?_<;>intro _|refine aAf ?_|(simp -dsimp only[↓RP,RQ,xa0,reduceIte,reduceCtorEq,xa1,xa2,xa3,xa4,TYQ,TYP,NB,QR,TYR,QT,QN])))
 all_goals try exact Ωb
 refine qn (fun(w:Nat)=>w≤n) (fun w=>⟨[(1,.fn (.func g) [] caps),(5,.val (.int .i64 (amx V w:Nat))),(11,.arr false false n 1 (fun i _=>.val (.int .i64 (i:Nat)))),(12,.val (.int .i64 (n:Nat))),(13,.val (.int .i64 (w:Nat)))],[],100+40*w⟩) (fun w=>n - w) 0 (xb6 _) (weakSU Ω (by simp[qX,Go.Sx.look,amx]) (SubHp.refl _)) fun w hw=>?_;by_cases hwm:w<n
 ·have hlt:=decide_eq_true (Ω:((w:Nat):Int)<(n:Nat))
  have ham:amx V w<n:=by
   by_cases e:w=0
   ·subst e;simp only[amx];omega
   ·have:=qca V w Ω;omega
  (repeat' (first|refine sD ?_ ?_<;>intro _|refine aAf ?_|(simp -dsimp only[↓RP,RQ,xa0,reduceIte,reduceCtorEq,xa1,xa2,xa3,xa4,hlt,TYQ,TYP,NB,QR,TYR,QT,QN])))
  all_goals try exact Ωb
  refine qj (hg w hwm) (by(simp -dsimp only[↓RP,RQ,xa0,reduceIte,reduceCtorEq,xa1,xa2,xa3,xa4,I,Go.Sx.SubL,Go.Sx.Sub]);all_goals (try simp[subL_refl caps ho])) Ωp ?_;(repeat' (first|refine sD ?_ ?_<;>intro _|refine aAf ?_|(simp -dsimp only[↓RP,RQ,xa0,reduceIte,reduceCtorEq,xa1,xa2,xa3,xa4,QT,TYQ,TYP,NB,QR,TYR,QN])))
  all_goals try exact Ωb
  refine qj (hg _ ham) (by(simp -dsimp only[↓RP,RQ,xa0,reduceIte,reduceCtorEq,xa1,xa2,xa3,xa4,I,Go.Sx.SubL,Go.Sx.Sub]);all_goals (try simp[subL_refl caps ho])) Ωp ?_;(repeat' (first|refine sD ?_ ?_<;>intro _|refine aAf ?_|(simp -dsimp only[↓RP,RQ,xa0,reduceIte,reduceCtorEq,xa1,xa2,xa3,xa4,QT,TYQ,TYP,NB,QR,TYR,QN])))
  all_goals try exact Ωb
  ·rename_i hc
   exact⟨w+1,hwm,Ω,weakSU Ω (by rw[qdR,if_pos hc];simp[qX,Go.Sx.look]) (SubHp.refl _)⟩
  ·rename_i hc
   exact⟨w+1,hwm,Ω,weakSU Ω (by rw[qdR,if_neg hc];simp[qX,Go.Sx.look]) (SubHp.refl _)⟩
 ·obtain rfl:n=w:=by omega
  have hlt:=decide_eq_false (Ω:¬((n:Nat):Int)<(n:Nat));(repeat' (first|refine sD ?_ ?_<;>intro _|refine aAf ?_|(simp -dsimp only[↓RP,RQ,xa0,reduceIte,reduceCtorEq,xa1,xa2,xa3,xa4,hlt,TYQ,TYP,NB,QR,TYR,QT,QN])))
  all_goals try exact Ωb
theorem qof(x y:Int)(n:Int)(nb:Nat)(f:Nat→Int)(fv:Int)(M:SV)(hM:Old M)(a0 a1 a2 a3 a4 a5:Int):qf Tryz.prog 129 [tlR n nb f fv M a0 a1 a2 a3 a4 a5,jR x (-1) y] (.tup [.agg [.val (.int .i64 x),.val (.int .i64 (-1))],B true]):=by
 refine qg Tryz.func129 rfl Ωd follows Ωd _ _ (by rw[Tryz.ntmps129];simp) ΩS ?_;have NB:True:=trivial;have h1:=qiX x n nb f fv M hM a0 a1 a2 a3 a4 a5;have h2:=qiX (-1) n nb f fv M hM a0 a1 a2 a3 a4 a5;unfold B jR
 conv=>arg 4;unfold tlR tlL
 (repeat' (first|refine sD ?_ ?_<;>intro _|refine aAf ?_|(simp -dsimp only[↓RP,RQ,xa0,reduceIte,reduceCtorEq,xa1,xa2,xa3,xa4,TYQ,TYP,NB,QR,TYR,QT,QN])))
 all_goals try exact Ωb
 refine qj (h1) ΩI Ωa ?_;(repeat' (first|refine sD ?_ ?_<;>intro _|refine aAf ?_|(simp -dsimp only[↓RP,RQ,xa0,reduceIte,reduceCtorEq,xa1,xa2,xa3,xa4,QT,TYQ,TYP,NB,QR,TYR,QN])))
 all_goals try exact Ωb
 refine qj (h2) ΩI Ωa ?_;(repeat' (first|refine sD ?_ ?_<;>intro _|refine aAf ?_|(simp -dsimp only[↓RP,RQ,xa0,reduceIte,reduceCtorEq,xa1,xa2,xa3,xa4,QT,TYQ,TYP,NB,QR,TYR,QN])))
 all_goals try exact Ωb
end Go.Tn
end
section
namespace Go.Tn
open Go.Proofs
open Go.Sx
def cF(f:Nat→Int):Nat→Int→Int
 |0,_=>0
 |w+1,r=>cF f w r+(if f w=r then 1 else 0)
theorem ZZ(f:Nat→Int)(w:Nat)(r:Int):cF f (w+1) r=cF f w r+(if f w=r then 1 else 0):=rfl
theorem yf(f:Nat→Int)(r:Int):∀w:Nat,0≤cF f w r∧cF f w r≤w
 |0=>by simp[cF]
 |w+1=>by
  have:=yf f r w;rw[ZZ];split<;>omega
def ks(a b:Int):Value:=.agg #[.int .i64 a,.int .i64 b]
theorem eqK_ks{a b c d:Int}:eqK (ks a b) (ks c d)=true↔a=c∧b=d:=by
 simp[eqK,ks,vk,yH]
def uD(f:Nat→Int):Nat→Value→Bool
 |0=>fun _=>false
 |w+1=>qL (uD f w) (ks (f w) (-1))
def uG(f:Nat→Int):Nat→Value→SV
 |0=>fun _=>.top
 |w+1=>qG (uG f w) (ks (f w) (-1)) (.val (.int .i64 (cF f (w+1) (f w))))
theorem qiZ(f:Nat→Int)(r:Int):∀w,uD f w (ks r (-1))=true→uG f w (ks r (-1))=.val (.int .i64 (cF f w r))
 |0,h=>by simp[uD]at h
 |w+1,h=>by
  by_cases e:f w=r
  ·have:eqK (ks (f w) (-1)) (ks r (-1))=true:=eqK_ks.2 ⟨e,rfl⟩
   simp only[uG,qG,this,svIte];rw[if_pos trivial,e]
  ·have:eqK (ks (f w) (-1)) (ks r (-1))=false:=by
    cases hb:eqK (ks (f w) (-1)) (ks r (-1))with
    |false=>rfl
    |true=>exact absurd (eqK_ks.1 hb).1 e
   simp only[uD,qL,this,xf4]at h;simp only[uG,qG,this,svIte];rw[if_neg Ωr,qiZ f r w h,ZZ f w r,if_neg e,Int.add_zero]
theorem qlW(f:Nat→Int)(r:Int):∀w,uD f w (ks r (-1))=false→cF f w r=0
 |0,h=>rfl
 |w+1,h=>by
  by_cases e:f w=r
  ·have:eqK (ks (f w) (-1)) (ks r (-1))=true:=eqK_ks.2 ⟨e,rfl⟩
   simp[uD,qL,this]at h
  ·have:eqK (ks (f w) (-1)) (ks r (-1))=false:=by
    cases hb:eqK (ks (f w) (-1)) (ks r (-1))with
    |false=>rfl
    |true=>exact absurd (eqK_ks.1 hb).1 e
   simp only[uD,qL,this,xf4]at h;rw[ZZ,if_neg e,qlW f r w h];rfl
def on8(V:Nat→Int):List SV:=[.val (.int .i64 (V 0)),.val (.int .i64 (V 1)),.val (.int .i64 (V 2)),.val (.int .i64 (V 3)),.val (.int .i64 (V 4)),.val (.int .i64 (V 5)),.val (.int .i64 (V 6)),.val (.int .i64 (V 7))]
theorem s8{j:Nat}(h:j<8):j=0∨j=1∨j=2∨j=3∨j=4∨j=5∨j=6∨j=7:=by omega
theorem qdS(V:Nat→Int){j:Nat}(h:j<8):(on8 V)[j]? = some (.val (.int .i64 (V j))):=by
 rcases s8 h with rfl|rfl|rfl|rfl|rfl|rfl|rfl|rfl<;>rfl
theorem qld(V:Nat→Int):(on8 V).length=8:=rfl
theorem qle(V:Nat→Int){j:Nat}(h:j<8)(x:Int):(on8 V).set j (.val (.int .i64 x))=on8 (upN V j x):=by
 rcases s8 h with rfl|rfl|rfl|rfl|rfl|rfl|rfl|rfl<;>rfl
def cV(f:Nat→Int)(w:Nat):Nat→Int:=fun j=>cF f w j
theorem qpi(f:Nat→Int)(w k:Nat)(h:f w=k):upN (cV f w) k (cF f w k+1)=cV f (w+1):=by
 funext j;unfold upN cV;rw[ZZ,h];by_cases e:j=k
 ·subst e;rw[if_pos rfl,if_pos rfl]
 ·rw[if_neg e,if_neg Ω];omega
theorem qog(V:Nat→Int)(n:Nat)(h:∀j,j<n→V j=0):amx V n=0:=by
 induction n with
 |zero=>rfl
 |succ n ih=>
  rw[qdR,ih (fun j hj=>h j Ω),if_neg];by_cases e:n=0
  ·subst e;omega
  ·rw[h 0 Ω,h n Ω];omega
theorem Z0{hp:List (Nat×Blk)}{tid:Nat}{n:Int}{nb:Nat}{f:Nat→Int}{fv:Int}{M:SV}{a0 a1 a2 a3 a4 a5:Int}(h:blk hp tid=some (.cells 167 (tlL n nb f fv M a0 a1 a2 a3 a4 a5))):Go.Sx.Sub hp (tlR n nb f fv .top a0 a1 a2 a3 a4 a5) (.ptr tid 0):=by
 simp only[tlR,Go.Sx.Sub,h];intro j hj;refine⟨?_,by simp[tlL];omega⟩;rw[xb0];rcases s16 hj with rfl|rfl|rfl|rfl|rfl|rfl|rfl|rfl|rfl|rfl|rfl|rfl|rfl|rfl|rfl|rfl<;>first|exact trivial|rfl|exact qR _ (zD _ _ _ _)
theorem qlf{hp:List (Nat×Blk)}{i g:Nat}{V:Nat→Int}(h:blk hp i=some (.cells 402 (on8 V))):Go.Sx.Sub hp (.fn (.func g) [] (qal V)) (.fn (.func g) [] [.ptr i 0]):=by
 simp only[Go.Sx.Sub,SubL,qal,and_true,true_and,h];intro j hj;refine⟨?_,by simp[on8];omega⟩;rw[xb0,xc6,qdS _ hj];rfl
theorem WJ(f:Nat→Int)(w:Nat)(r:Int):svIte (uD f w (.agg #[.int .i64 r,.int .i64 (-1)])) (uG f w (.agg #[.int .i64 r,.int .i64 (-1)])) (.val (.int .i64 0))=.val (.int .i64 (cF f w r)):=by
 show svIte (uD f w (ks r (-1))) (uG f w (ks r (-1))) _=_;cases h:uD f w (ks r (-1))with
 |true=>simp only[svIte,if_true];exact qiZ f r w h
 |false=>simp only[svIte];rw[qlW f r w h];rfl
theorem yE:Old .top:=by simp[Old]
theorem qja(V:Nat→Int):List.take 8 (on8 V)=on8 V:=rfl
theorem qlg(V:Nat→Int):fitS [.i .i64,.i .i64,.i .i64,.i .i64,.i .i64,.i .i64,.i .i64,.i .i64] (on8 V)=true:=rfl
theorem qjb(V:Nat→Int):eqSVs (on8 V) [.val (.int .i64 0),.val (.int .i64 0),.val (.int .i64 0),.val (.int .i64 0),.val (.int .i64 0),.val (.int .i64 0),.val (.int .i64 0),.val (.int .i64 0)]=true↔∀j,j<8→V j=0:=by
 simp only[on8,eqSVs,eqV,xe6,decide_eq_true_eq,xf1,beq_iff_eq];constructor
 ·rintro⟨h0,h1,h2,h3,h4,h5,h6,h7⟩ j hj
  rcases s8 hj with rfl|rfl|rfl|rfl|rfl|rfl|rfl|rfl<;>assumption
 ·intro h
  exact⟨h 0 Ω,h 1 Ω,h 2 Ω,h 3 Ω,h 4 Ω,h 5 Ω,h 6 Ω,h 7 Ω⟩
theorem qpj(n nb:Nat)(f:Nat→Int)(hn1:2≤n)(hn:n≤8)(hnb:nb≤100)(hf:∀i,i<nb→0≤f i∧f i<n)(id:Nat)(rest:List (Nat×Blk))(hr:Under rest id):EffVC Tryz.prog 188 [bkS n nb f (fun _=>-1) (fun _=>1) false 0 0 1] rest id (fun hp' nid' res=>
  ∃tid mid,id≤mid∧mid<tid∧tid<nid'∧hp'=(tid,.cells 167 (tlL n nb f (amx (cV f nb) n:Nat) (.mp mid) (100*nb) 0 0 0 0 (100*nb))) ::(mid,.map (qm true [.i .i64,.i .i64]) (uD f nb) (uG f nb)) :: rest∧res=.ptr tid 0):=by
 refine vY (zQ [(21,[(0,0)])]) follows Tryz.func188 rfl Ωd Ωd (by rw[Tryz.ntmps188];simp) fun out=>?_;have hr0:blk rest id=none:=hr.none (xa5 _);have NB:True:=trivial;unfold bkS zh;(repeat' (first|refine sD ?_ ?_<;>intro _|refine aAf ?_|(simp -dsimp only[↓RP,RQ,xa0,reduceIte,reduceCtorEq,xa1,xa2,xa3,xa4,TYQ,TYP,NB,QS,↓RY,hr0,TYR,QT,QN])))
 all_goals try exact Ωb
 refine qn (fun(z:Nat×Nat)=>z.1≤nb∧id+11≤z.2) (fun z=>⟨[(1,.ptr id 0),(2,.val (.pointer none)),(3,.ptr (id+8) 0),(4,.ptr (id+10) 0),(22,.arr false false nb 3 (fun i j=>[SV.val (.int .i64 (f i)),.val (.int .i64 (-1)),.val (.int .i64 1)].getD j .top)),(23,.val (.int .i64 (nb:Nat))),(24,.val (.int .i64 (z.1:Nat)))],(id+10,.cells 402 (on8 (cV f z.1))) ::(id+8,.cells 167 [.val (.int .i64 0),.val (.int .i64 n),.arr false false nb 3 (fun i j=>[SV.val (.int .i64 (f i)),.val (.int .i64 (-1)),.val (.int .i64 1)].getD j .top),.val (.slice none 0 0),.val (.bool false),.val (.int .i64 0),.val (.int .i64 0),.val (.int .i64 1),.val (.int .i64 0),.mp (id+3),.val (.int .i64 0),.val (.int .i64 0),.val (.int .i64 0),.val (.int .i64 0),.val (.int .i64 0),.val (.int .i64 0)]) ::(id+3,.map (qm true [.i .i64,.i .i64]) (fun _=>false) (fun _=>.top)) ::(id,.cells 48 [.val (.int .i64 0),.val (.int .i64 n),.arr false false nb 3 (fun i j=>[SV.val (.int .i64 (f i)),.val (.int .i64 (-1)),.val (.int .i64 1)].getD j .top),.val (.slice none 0 0),.val (.bool false),.val (.int .i64 0),.val (.int .i64 0),.val (.int .i64 1)]) :: rest,z.2⟩) (fun z=>nb - z.1) (0,id+30) ⟨xb6 _,Ωe⟩ (weakSU Ωe Ωf (SubHp.refl _)) fun z hz=>?_;obtain⟨w,nid⟩:=z;obtain⟨hw,hi⟩:=hz;dsimp only at hw hi ⊢;have NB:=(⟨nmA (Ω:id<nid),nmA (Ω:id+3<nid),nmA (Ω:id+8<nid),nmA (Ω:id+10<nid)⟩:_∧_∧_∧_);by_cases hwm:w<nb
 ·have hlt:=decide_eq_true (Ω:((w:Nat):Int)<(nb:Nat))
  obtain⟨b1,b2⟩:=hf w hwm;obtain⟨k,hk⟩:∃k:Nat,f w=k:=⟨(f w).toNat,Ω⟩;have k8:k<8:=by omega
  have h1:=qiX (f w) n nb f 0 .top yE 0 0 0 0 0 0;have h2:=qiX (-1) n nb f 0 .top yE 0 0 0 0 0 0;(repeat' (first|refine sD ?_ ?_<;>intro _|refine aAf ?_|(simp -dsimp only[↓RP,RQ,xa0,reduceIte,reduceCtorEq,xa1,xa2,xa3,xa4,hlt,zh,TYQ,TYP,NB,QS,↓RY,hr0,TYR,QT,QN])))
  all_goals try exact Ωb
  refine qj (h1) (by simp only[SubL,and_true];refine⟨Z0 (M:=.mp (id+3)) (by simp[blk,NB];rfl),?_⟩;simp[I,Go.Sx.Sub]) Ωa ?_;(repeat' (first|refine sD ?_ ?_<;>intro _|refine aAf ?_|(simp -dsimp only[↓RP,RQ,xa0,reduceIte,reduceCtorEq,xa1,xa2,xa3,xa4,QT,TYQ,TYP,NB,QS,↓RY,hr0,TYR,QN])))
  all_goals try exact Ωb
  refine qj (h2) (by simp only[SubL,and_true];refine⟨Z0 (M:=.mp (id+3)) (by simp[blk,NB];rfl),?_⟩;simp[I,Go.Sx.Sub]) Ωa ?_;have hset:=qle (cV f w) k8 (cF f w k+1);rw[qpi f w k hk]at hset;have hb:=yf f k w;have hget:(on8 (cV f w))[k]? = some (.val (.int .i64 (cF f w k))):=qdS (cV f w) k8;(repeat' (first|refine sD ?_ ?_<;>intro _|refine aAf ?_|(simp -dsimp only[↓RP,RQ,xa0,reduceIte,reduceCtorEq,xa1,xa2,xa3,xa4,QT,hk,qld,hget,hset,TYQ,TYP,NB,QS,↓RY,hr0,TYR,QN])))
  all_goals try exact Ωb
  refine⟨(w+1,_),⟨hwm,?_⟩,Ωe,weakSU (xa5 _) Ωf ?_⟩
  ·dsimp only;omega
  ·refine SubHp.skip ?_ (SubHp.refl _)
   simp only[blk];rw[if_neg Ω,if_neg Ω,if_neg Ω,if_neg Ω];exact hr.none Ω
 obtain rfl:nb=w:=by omega
 have hlt:=decide_eq_false (Ω:¬((nb:Nat):Int)<(nb:Nat));have h1:=qoe n nb f 0 .top yE 0 0 0 0 0 0 Ω hn;(repeat' (first|refine sD ?_ ?_<;>intro _|refine aAf ?_|(simp -dsimp only[↓RP,RQ,xa0,reduceIte,reduceCtorEq,xa1,xa2,xa3,xa4,hlt,zh,TYQ,TYP,NB,QS,↓RY,hr0,TYR,QT,QN])))
 all_goals try exact Ωb
 refine callN h1 (by simp only[SubL,and_true];exact Z0 (M:=.mp (id+3)) (by simp[blk,NB];rfl)) (by simp[FreshO]) Ωak ?_;(repeat' (first|refine sD ?_ ?_<;>intro _|refine aAf ?_|(simp -dsimp only[↓RP,RQ,xa0,reduceIte,reduceCtorEq,xa1,xa2,xa3,xa4,hlt,zh,TYQ,TYP,NB,QS,↓RY,hr0,TYR,QT,QN])))
 all_goals try exact Ωb
 refine⟨xa5 _,qlg _,?_⟩;rw[qja];by_cases hz:∀j,j<8→cV f nb j=0
 ·rw[(qjb _).2 hz]
  have hx:=qog (cV f nb) n (fun j hj=>hz j Ω);(repeat' (first|refine sD ?_ ?_<;>intro _|refine aAf ?_|(simp -dsimp only[↓RP,RQ,xa0,reduceIte,reduceCtorEq,xa1,xa2,xa3,xa4,TYQ,TYP,NB,QS,↓RY,hr0,TYR,QT,QN])))
  all_goals first|contradiction|(exfalso;omega)|skip
  refine qn (fun(z:Nat×Nat)=>z.1≤nb∧id+11≤z.2) (fun z=>⟨[(1,.ptr id 0),(2,.val (.pointer none)),(3,.ptr (id+8) 0),(8,.fn (.func 129) [.ptr (id+8) 0] []),(69,.arr false false nb 3 (fun i j=>[SV.val (.int .i64 (f i)),.val (.int .i64 (-1)),.val (.int .i64 1)].getD j .top)),(70,.val (.int .i64 (nb:Nat))),(71,.val (.int .i64 (z.1:Nat)))],(id+8,.cells 167 [.val (.int .i64 0),.val (.int .i64 n),.arr false false nb 3 (fun i j=>[SV.val (.int .i64 (f i)),.val (.int .i64 (-1)),.val (.int .i64 1)].getD j .top),.val (.slice none 0 0),.val (.bool false),.val (.int .i64 0),.val (.int .i64 0),.val (.int .i64 1),.val (.int .i64 (amx (cV f nb) n:Nat)),.mp (id+3),.val (.int .i64 (100*(z.1:Nat))),.val (.int .i64 0),.val (.int .i64 0),.val (.int .i64 0),.val (.int .i64 0),.val (.int .i64 0)]) ::(id+3,.map (qm true [.i .i64,.i .i64]) (uD f z.1) (uG f z.1)) ::(id,.cells 48 [.val (.int .i64 0),.val (.int .i64 n),.arr false false nb 3 (fun i j=>[SV.val (.int .i64 (f i)),.val (.int .i64 (-1)),.val (.int .i64 1)].getD j .top),.val (.slice none 0 0),.val (.bool false),.val (.int .i64 0),.val (.int .i64 0),.val (.int .i64 1)]) :: rest,z.2⟩) (fun z=>nb - z.1) (0,nid+100) ⟨xb6 _,Ωe⟩ (weakSU Ωe Ωf ?hs1) fun z hz2=>?_
  case hs1=>
   dsimp only;refine SubHp.skip ?_ (SubHp.skip ?_ ?_)
   ·simp only[blk]
    rw[if_neg Ω,if_neg Ω,if_neg Ω];exact hr.none Ω
   ·simp only[blk]
    rw[if_neg Ω,if_neg Ω,if_neg Ω];exact hr.none Ω
   ·rw[hx];exact SubHp.refl _
  obtain⟨w,m1⟩:=z;obtain⟨hw2,hm⟩:=hz2;dsimp only at hw2 hm ⊢;clear NB;have NB:=(⟨nmA (Ω:id<m1),nmA (Ω:id+3<m1),nmA (Ω:id+8<m1),nmA (Ω:id+10<m1)⟩:_∧_∧_∧_);by_cases hwm2:w<nb
  ·have hlt2:=decide_eq_true (Ω:((w:Nat):Int)<(nb:Nat))
   have h129:=qof (f w) 1 n nb f (amx (cV f nb) n:Nat) .top yE (100*(w:Nat)+100) 0 0 0 0 0;(repeat' (first|refine sD ?_ ?_<;>intro _|refine aAf ?_|(simp -dsimp only[↓RP,RQ,xa0,reduceIte,reduceCtorEq,xa1,xa2,xa3,xa4,hlt2,zh,TYQ,TYP,NB,QS,↓RY,hr0,TYR,QT,QN])))
   all_goals try exact Ωb
   refine qj (h129) (by simp only[SubL,and_true];refine⟨Z0 (M:=.mp (id+3)) (by simp[blk,NB];rfl),?_⟩;simp[jR,Go.Sx.Sub,SubL]) Ωa ?_;have hl:(if uD f w (Value.agg #[Value.int IntKind.i64 (f w),Value.int IntKind.i64 (-1)])=true then uG f w (Value.agg #[Value.int IntKind.i64 (f w),Value.int IntKind.i64 (-1)])else SV.val (Value.int IntKind.i64 0))=SV.val (.int .i64 (cF f w (f w))):=WJ f w (f w);have hb:=yf f (f w) w;(repeat' (first|refine sD ?_ ?_<;>intro _|refine aAf ?_|(simp -dsimp only[↓RP,RQ,xa0,reduceIte,reduceCtorEq,xa1,xa2,xa3,xa4,QT,TYQ,TYP,NB,QS,↓RY,hr0,TYR,QN])))
   all_goals try exact Ωb
   refine wY (q:=⟨9,10,11,103,104,165,97,.tmp 98,.tmp 102⟩) (far:=[]) follows ⟨Ωr,Ωr,Ωr,⟨_,rfl,rfl,rfl⟩,⟨_,rfl,rfl,rfl⟩,⟨_,rfl,rfl,rfl⟩⟩ Ωd ?_;(repeat' (first|refine sD ?_ ?_<;>intro _|refine aAf ?_|(simp -dsimp only[↓RP,RQ,xa0,reduceIte,reduceCtorEq,xa1,xa2,xa3,xa4,Ze,gD,hl,EI.upd,or_self,or_false,or_true,true_or,false_or,↓reduceIte,TYQ,TYP,NB,QS,↓RY,hr0,TYR,QT,QN])))
   all_goals try exact Ωb
   refine⟨?_,fun st2 hlk hbk hnid=>?_⟩
   ·intro mid hmid
    have hm3:id+3=mid:=by simpa[Go.Sx.look]using hmid
    subst hm3;refine⟨⟨_,_,_,by simp[blk,NB];exact⟨rfl,rfl,rfl⟩⟩,fun a ha=>?_⟩;have ha3:a=96∨a=11∨a=100:=by simpa[Zf]using ha
    rcases ha3 with rfl|rfl|rfl<;>simp[Go.Sx.look,qH,NB]
    all_goals omega
   ·obtain⟨fr2,hp2,nid2⟩:=st2
    dsimp only at hlk hbk hnid ⊢;subst hnid;have l71:Go.Sx.look fr2 71=.val (.int .i64 (w:Nat)):=by rw[hlk];simp
    have l1:Go.Sx.look fr2 1=.ptr id 0:=by rw[hlk];simp
    have l2:Go.Sx.look fr2 2=.val (.pointer none):=by rw[hlk];simp
    have l3:Go.Sx.look fr2 3=.ptr (id+8) 0:=by rw[hlk];simp
    have l8:Go.Sx.look fr2 8=.fn (.func 129) [.ptr (id+8) 0] []:=by rw[hlk];simp
    have l69:Go.Sx.look fr2 69=.arr false false nb 3 (fun i j=>[SV.val (.int .i64 (f i)),.val (.int .i64 (-1)),.val (.int .i64 1)].getD j .top):=by rw[hlk];simp
    have l70:Go.Sx.look fr2 70=.val (.int .i64 (nb:Nat)):=by rw[hlk];simp
    have e1:(100*(w:Int)+100*1)=100*((w+1:Nat):Int):=by omega
    have e2:qG (uG f w) (Value.agg #[Value.int IntKind.i64 (f w),Value.int IntKind.i64 (-1)]) (SV.val (Value.int IntKind.i64 (cF f w (f w)+1)))=uG f (w+1):=by
     show _=qG (uG f w) (ks (f w) (-1)) (.val (.int .i64 (cF f (w+1) (f w))));rw[ZZ,if_pos rfl];rfl
    simp only[e1,e2]at hbk;(repeat' (first|refine sD ?_ ?_<;>intro _|refine aAf ?_|(simp -dsimp only[↓RP,RQ,xa0,reduceIte,reduceCtorEq,xa1,xa2,xa3,xa4,l71,TYQ,TYP,NB,QS,↓RY,hr0,TYR,QT,QN])))
    all_goals try exact Ωb
    refine⟨(w+1,m1+42),⟨hwm2,Ωe⟩,Ωe,weakSU (xa5 _) (by simp[qX,Go.Sx.look,l1,l2,l3,l8,l69,l70]) (fun j x hx=>?_)⟩;show blk hp2 j=some x;rw[hbk];refine SubHp.skip ?_ (SubHp.skip ?_ (SubHp.refl _)) j x hx
    ·simp only[blk]
     rw[if_neg Ω,if_neg Ω,if_neg Ω];exact hr.none Ω
    ·simp only[blk]
     rw[if_neg Ω,if_neg Ω,if_neg Ω];exact hr.none Ω
  obtain rfl:nb=w:=by omega
  have hlt2:=decide_eq_false (Ω:¬((nb:Nat):Int)<(nb:Nat));(repeat' (first|refine sD ?_ ?_<;>intro _|refine aAf ?_|(simp -dsimp only[↓RP,RQ,xa0,reduceIte,reduceCtorEq,xa1,xa2,xa3,xa4,hlt2,Int.sub_zero,Int.mul_zero,Int.zero_tdiv,TYQ,TYP,NB,QS,↓RY,hr0,TYR,QT,QN])))
  all_goals try exact Ωb
  exact⟨_,m1+48,_,j5 (fr':=[(0,_)]) ⟨.inr rfl,trivial⟩ (SubHp.cons (SubHp.cons (SubHp.skip hr0 (SubHp.refl _)))),id+8,id+3,Ω,Ω,Ω,rfl,rfl⟩
 ·rw[show eqSVs (on8 (cV f nb)) _=false from by rw[Bool.eq_false_iff];exact fun h=>hz ((qjb _).1 h)]
  have h2:=qph n (cV f nb) 291 (qal (cV f nb)) (qam _) Ω Ω (fun i hi=>qpg i (cV f nb) Ω) (fun i hi=>by have:=yf f i nb;unfold cV;omega);(repeat' (first|refine sD ?_ ?_<;>intro _|refine aAf ?_|(simp -dsimp only[↓RP,RQ,xa0,reduceIte,reduceCtorEq,xa1,xa2,xa3,xa4,TYQ,TYP,NB,QS,↓RY,hr0,TYR,QT,QN])))
  all_goals first|contradiction|(exfalso;omega)|skip
  refine qj (h2) (by simp only[SubL,and_true];refine⟨(by(simp -dsimp only[↓RP,RQ,xa0,reduceIte,reduceCtorEq,xa1,xa2,xa3,xa4,qA]);all_goals (try simp[Go.Sx.Sub,blk,NB])),?_⟩;exact qlf Ωah) Ωa ?_;(repeat' (first|refine sD ?_ ?_<;>intro _|refine aAf ?_|(simp -dsimp only[↓RP,RQ,xa0,reduceIte,reduceCtorEq,xa1,xa2,xa3,xa4,QT,TYQ,TYP,NB,QS,↓RY,hr0,TYR,QN])))
  all_goals try exact Ωb
  refine qn (fun(z:Nat×Nat)=>z.1≤nb∧id+11≤z.2) (fun z=>⟨[(1,.ptr id 0),(2,.val (.pointer none)),(3,.ptr (id+8) 0),(8,.fn (.func 129) [.ptr (id+8) 0] []),(69,.arr false false nb 3 (fun i j=>[SV.val (.int .i64 (f i)),.val (.int .i64 (-1)),.val (.int .i64 1)].getD j .top)),(70,.val (.int .i64 (nb:Nat))),(71,.val (.int .i64 (z.1:Nat)))],(id+8,.cells 167 [.val (.int .i64 0),.val (.int .i64 n),.arr false false nb 3 (fun i j=>[SV.val (.int .i64 (f i)),.val (.int .i64 (-1)),.val (.int .i64 1)].getD j .top),.val (.slice none 0 0),.val (.bool false),.val (.int .i64 0),.val (.int .i64 0),.val (.int .i64 1),.val (.int .i64 (amx (cV f nb) n:Nat)),.mp (id+3),.val (.int .i64 (100*(z.1:Nat))),.val (.int .i64 0),.val (.int .i64 0),.val (.int .i64 0),.val (.int .i64 0),.val (.int .i64 0)]) ::(id+3,.map (qm true [.i .i64,.i .i64]) (uD f z.1) (uG f z.1)) ::(id,.cells 48 [.val (.int .i64 0),.val (.int .i64 n),.arr false false nb 3 (fun i j=>[SV.val (.int .i64 (f i)),.val (.int .i64 (-1)),.val (.int .i64 1)].getD j .top),.val (.slice none 0 0),.val (.bool false),.val (.int .i64 0),.val (.int .i64 0),.val (.int .i64 1)]) :: rest,z.2⟩) (fun z=>nb - z.1) (0,nid+100) ⟨xb6 _,Ωe⟩ (weakSU Ωe Ωf ?hs1) fun z hz2=>?_
  case hs1=>
   dsimp only;refine SubHp.skip ?_ (SubHp.skip ?_ ?_)
   ·simp only[blk]
    rw[if_neg Ω,if_neg Ω,if_neg Ω];exact hr.none Ω
   ·simp only[blk]
    rw[if_neg Ω,if_neg Ω,if_neg Ω];exact hr.none Ω
   ·exact SubHp.refl _
  obtain⟨w,m1⟩:=z;obtain⟨hw2,hm⟩:=hz2;dsimp only at hw2 hm ⊢;clear NB;have NB:=(⟨nmA (Ω:id<m1),nmA (Ω:id+3<m1),nmA (Ω:id+8<m1),nmA (Ω:id+10<m1)⟩:_∧_∧_∧_);by_cases hwm2:w<nb
  ·have hlt2:=decide_eq_true (Ω:((w:Nat):Int)<(nb:Nat))
   have h129:=qof (f w) 1 n nb f (amx (cV f nb) n:Nat) .top yE (100*(w:Nat)+100) 0 0 0 0 0;(repeat' (first|refine sD ?_ ?_<;>intro _|refine aAf ?_|(simp -dsimp only[↓RP,RQ,xa0,reduceIte,reduceCtorEq,xa1,xa2,xa3,xa4,hlt2,zh,TYQ,TYP,NB,QS,↓RY,hr0,TYR,QT,QN])))
   all_goals try exact Ωb
   refine qj (h129) (by simp only[SubL,and_true];refine⟨Z0 (M:=.mp (id+3)) (by simp[blk,NB];rfl),?_⟩;simp[jR,Go.Sx.Sub,SubL]) Ωa ?_;have hl:(if uD f w (Value.agg #[Value.int IntKind.i64 (f w),Value.int IntKind.i64 (-1)])=true then uG f w (Value.agg #[Value.int IntKind.i64 (f w),Value.int IntKind.i64 (-1)])else SV.val (Value.int IntKind.i64 0))=SV.val (.int .i64 (cF f w (f w))):=WJ f w (f w);have hb:=yf f (f w) w;(repeat' (first|refine sD ?_ ?_<;>intro _|refine aAf ?_|(simp -dsimp only[↓RP,RQ,xa0,reduceIte,reduceCtorEq,xa1,xa2,xa3,xa4,QT,TYQ,TYP,NB,QS,↓RY,hr0,TYR,QN])))
   all_goals try exact Ωb
   refine wY (q:=⟨9,10,11,103,104,165,97,.tmp 98,.tmp 102⟩) (far:=[]) follows ⟨Ωr,Ωr,Ωr,⟨_,rfl,rfl,rfl⟩,⟨_,rfl,rfl,rfl⟩,⟨_,rfl,rfl,rfl⟩⟩ Ωd ?_;(repeat' (first|refine sD ?_ ?_<;>intro _|refine aAf ?_|(simp -dsimp only[↓RP,RQ,xa0,reduceIte,reduceCtorEq,xa1,xa2,xa3,xa4,Ze,gD,hl,EI.upd,or_self,or_false,or_true,true_or,false_or,↓reduceIte,TYQ,TYP,NB,QS,↓RY,hr0,TYR,QT,QN])))
   all_goals try exact Ωb
   refine⟨?_,fun st2 hlk hbk hnid=>?_⟩
   ·intro mid hmid
    have hm3:id+3=mid:=by simpa[Go.Sx.look]using hmid
    subst hm3;refine⟨⟨_,_,_,by simp[blk,NB];exact⟨rfl,rfl,rfl⟩⟩,fun a ha=>?_⟩;have ha3:a=96∨a=11∨a=100:=by simpa[Zf]using ha
    rcases ha3 with rfl|rfl|rfl<;>simp[Go.Sx.look,qH,NB]
    all_goals omega
   ·obtain⟨fr2,hp2,nid2⟩:=st2
    dsimp only at hlk hbk hnid ⊢;subst hnid;have l71:Go.Sx.look fr2 71=.val (.int .i64 (w:Nat)):=by rw[hlk];simp
    have l1:Go.Sx.look fr2 1=.ptr id 0:=by rw[hlk];simp
    have l2:Go.Sx.look fr2 2=.val (.pointer none):=by rw[hlk];simp
    have l3:Go.Sx.look fr2 3=.ptr (id+8) 0:=by rw[hlk];simp
    have l8:Go.Sx.look fr2 8=.fn (.func 129) [.ptr (id+8) 0] []:=by rw[hlk];simp
    have l69:Go.Sx.look fr2 69=.arr false false nb 3 (fun i j=>[SV.val (.int .i64 (f i)),.val (.int .i64 (-1)),.val (.int .i64 1)].getD j .top):=by rw[hlk];simp
    have l70:Go.Sx.look fr2 70=.val (.int .i64 (nb:Nat)):=by rw[hlk];simp
    have e1:(100*(w:Int)+100*1)=100*((w+1:Nat):Int):=by omega
    have e2:qG (uG f w) (Value.agg #[Value.int IntKind.i64 (f w),Value.int IntKind.i64 (-1)]) (SV.val (Value.int IntKind.i64 (cF f w (f w)+1)))=uG f (w+1):=by
     show _=qG (uG f w) (ks (f w) (-1)) (.val (.int .i64 (cF f (w+1) (f w))));rw[ZZ,if_pos rfl];rfl
    simp only[e1,e2]at hbk;(repeat' (first|refine sD ?_ ?_<;>intro _|refine aAf ?_|(simp -dsimp only[↓RP,RQ,xa0,reduceIte,reduceCtorEq,xa1,xa2,xa3,xa4,l71,TYQ,TYP,NB,QS,↓RY,hr0,TYR,QT,QN])))
    all_goals try exact Ωb
    refine⟨(w+1,m1+42),⟨hwm2,Ωe⟩,Ωe,weakSU (xa5 _) (by simp[qX,Go.Sx.look,l1,l2,l3,l8,l69,l70]) (fun j x hx=>?_)⟩;show blk hp2 j=some x;rw[hbk];refine SubHp.skip ?_ (SubHp.skip ?_ (SubHp.refl _)) j x hx
    ·simp only[blk]
     rw[if_neg Ω,if_neg Ω,if_neg Ω];exact hr.none Ω
    ·simp only[blk]
     rw[if_neg Ω,if_neg Ω,if_neg Ω];exact hr.none Ω
  obtain rfl:nb=w:=by omega
  have hlt2:=decide_eq_false (Ω:¬((nb:Nat):Int)<(nb:Nat));(repeat' (first|refine sD ?_ ?_<;>intro _|refine aAf ?_|(simp -dsimp only[↓RP,RQ,xa0,reduceIte,reduceCtorEq,xa1,xa2,xa3,xa4,hlt2,Int.sub_zero,Int.mul_zero,Int.zero_tdiv,TYQ,TYP,NB,QS,↓RY,hr0,TYR,QT,QN])))
  all_goals try exact Ωb
  exact⟨_,m1+48,_,j5 (fr':=[(0,_)]) ⟨.inr rfl,trivial⟩ (SubHp.cons (SubHp.cons (SubHp.skip hr0 (SubHp.refl _)))),id+8,id+3,Ω,Ω,Ω,rfl,rfl⟩
end Go.Tn
end
section
namespace Go.Tn
open Go.Proofs
open Go.Sx
theorem qdT(n nb:Nat)(f:Nat→Int)(hn1:2≤n)(hn:n≤8)(hnb:nb≤100)(hf:∀i,i<nb→0≤f i∧f i<n):ckB n nb f (fun _=>-1) (fun _=>1) 0 0 1=0:=
 ckB_ok.2 ⟨⟨⟨Ω,Ω⟩,⟨Ω,Ω⟩,⟨Ω,Ω⟩,Ω,Ω⟩,hnb,fun i hi=>⟨⟨Ω,Ω⟩,hf i hi,rfl⟩⟩
theorem e95(n nb:Nat)(f:Nat→Int)(hn1:2≤n)(hn:n≤8)(hnb:nb≤100)(hf:∀i,i<nb→0≤f i∧f i<n)(id:Nat)(rest:List (Nat×Blk))(hr:Under rest id):EffVC Tryz.prog 95 [bkS n nb f (fun _=>-1) (fun _=>1) false 0 0 1] rest id (fun hp' nid' res=>
  ∃tid mid,id≤mid∧mid<tid∧tid<nid'∧hp'=(tid,.cells 167 (tlL n nb f (amx (cV f nb) n:Nat) (.mp mid) (100*nb) 0 0 0 0 (100*nb))) ::(mid,.map (qm true [.i .i64,.i .i64]) (uD f nb) (uG f nb)) :: rest∧res=.tup [.ptr tid 0,I 0]):=by
 refine vb follows Tryz.func95 rfl Ωd Ωd (by rw[Tryz.ntmps95];simp) fun out=>?_;have hr0:blk rest id=none:=hr.none (xa5 _);have NB:True:=trivial;have h1:=qoR n nb f (fun _=>-1) (fun _=>1) false 0 0 1 (qdT n nb f hn1 hn hnb hf);unfold bkS;(repeat' (first|refine sD ?_ ?_<;>intro _|refine aAf ?_|(simp -dsimp only[↓RP,RQ,xa0,reduceIte,reduceCtorEq,xa1,xa2,xa3,xa4,TYQ,TYP,NB,QS,hr0,TYR,QT,QN])))
 all_goals try exact Ωb
 refine qj (h1) (by simp only[SubL,and_true];exact qR _ (wl _ _ _ _ _ _ _ _ _)) Ωa ?_;(repeat' (first|refine sD ?_ ?_<;>intro _|refine aAf ?_|(simp -dsimp only[↓RP,RQ,xa0,reduceIte,reduceCtorEq,xa1,xa2,xa3,xa4,QT,TYQ,TYP,NB,QS,hr0,TYR,QN])))
 all_goals try exact Ωb
 refine jh ΩA (qpj n nb f hn1 hn hnb hf _ _ ((hr.mono (Nat.le_add_right id _)).cons Ω)) fun hp' nid' res ⟨tid,mid,q1,q2,q3,q4,q5⟩=>?_;subst q4 q5;(repeat' (first|refine sD ?_ ?_<;>intro _|refine aAf ?_|(simp -dsimp only[↓RP,RQ,xa0,reduceIte,reduceCtorEq,xa1,xa2,xa3,xa4,TYQ,TYP,NB,QS,hr0,TYR,QT,QN])))
 all_goals try exact Ωb
 exact⟨_,_,_,j5 (fr':=[(0,_)]) ⟨.inr rfl,trivial⟩ (SubHp.cons (SubHp.cons (SubHp.skip hr0 (SubHp.refl _)))),tid,mid,Ω,Ω,Ω,rfl,rfl⟩
theorem c29(n nb:Nat)(f:Nat→Int)(hn1:2≤n)(hn:n≤8)(hnb:nb≤100)(hf:∀i,i<nb→0≤f i∧f i<n):qf Tryz.prog 29 [bkS n nb f (fun _=>-1) (fun _=>1) false 0 0 1] (.tup [I (amx (cV f nb) n:Nat),I 0]):=by
 refine qg Tryz.func29 rfl Ωd follows Ωd _ _ (by rw[Tryz.ntmps29];simp) Ωg ?_;have NB:True:=trivial;have hr0:True:=trivial;unfold bkS I;(repeat' (first|refine sD ?_ ?_<;>intro _|refine aAf ?_|(simp -dsimp only[↓RP,RQ,xa0,reduceIte,reduceCtorEq,xa1,xa2,xa3,xa4,TYQ,TYP,NB,QS,hr0,TYR,QT,QN])))
 all_goals try exact Ωb
 refine jh ΩA (e95 n nb f hn1 hn hnb hf _ _ (Under.cons Under.nil Ω)) fun hp' nid' res ⟨tid,mid,q1,q2,q3,q4,q5⟩=>?_;subst q4 q5;(repeat' (first|refine sD ?_ ?_<;>intro _|refine aAf ?_|(simp -dsimp only[↓RP,RQ,xa0,reduceIte,reduceCtorEq,xa1,xa2,xa3,xa4,QT,tlL,TYQ,TYP,NB,QS,hr0,TYR,QN])))
 all_goals try exact Ωb
theorem c91(nb:Nat)(n:Int)(f:Nat→Int)(x y:Int):qf Tryz.prog 91 [bkS n nb f (fun _=>-1) (fun _=>1) false 0 0 1,jR x (-1) y] (.tup [.agg [I x,I (-1)],B true]):=by
 refine qg Tryz.func91 rfl Ωd follows Ωd _ _ (by rw[Tryz.ntmps91];simp) Ωg ?_;have NB:True:=trivial;have hr0:True:=trivial;have h1:=qhP x;have h2:=qhP (-1);unfold bkS jR I B;(repeat' (first|refine sD ?_ ?_<;>intro _|refine aAf ?_|(simp -dsimp only[↓RP,RQ,xa0,reduceIte,reduceCtorEq,xa1,xa2,xa3,xa4,TYQ,TYP,NB,QS,hr0,TYR,QT,QN])))
 all_goals try exact Ωb
 refine qj (h1) ΩW Ωa ?_;(repeat' (first|refine sD ?_ ?_<;>intro _|refine aAf ?_|(simp -dsimp only[↓RP,RQ,xa0,reduceIte,reduceCtorEq,xa1,xa2,xa3,xa4,QT,TYQ,TYP,NB,QS,hr0,TYR,QN])))
 all_goals try exact Ωb
 refine qj (h2) ΩW Ωa ?_;(repeat' (first|refine sD ?_ ?_<;>intro _|refine aAf ?_|(simp -dsimp only[↓RP,RQ,xa0,reduceIte,reduceCtorEq,xa1,xa2,xa3,xa4,QT,TYQ,TYP,NB,QS,hr0,TYR,QN])))
 all_goals try exact Ωb
theorem c26(nb:Nat)(n:Int)(f:Nat→Int)(r:Int)(hnb:nb≤100):qf Tryz.prog 26 [bkS n nb f (fun _=>-1) (fun _=>1) false 0 0 1,.agg [I r,I (-1)]] (I (cF f nb r)):=by
 refine qg Tryz.func26 rfl Ωd follows Ωd _ _ (by rw[Tryz.ntmps26];simp) Ωg ?_;have NB:True:=trivial;have hr0:True:=trivial;unfold bkS I;(repeat' (first|refine sD ?_ ?_<;>intro _|refine aAf ?_|(simp -dsimp only[↓RP,RQ,xa0,reduceIte,reduceCtorEq,xa1,xa2,xa3,xa4,TYQ,TYP,NB,QS,hr0,TYR,QT,QN])))
 all_goals try exact Ωb
 refine qn (fun(w:Nat)=>w≤nb) (fun w=>⟨[(2,.ptr 0 0),(3,.ptr 1 0),(5,.val (.int .i64 (cF f w r))),(6,.val (.int .i64 (w:Nat)))],[(1,.cells 55 [.val (.int .i64 r),.val (.int .i64 (-1))]),(0,.cells 48 [.val (.int .i64 0),.val (.int .i64 n),zh nb f (fun _=>-1) (fun _=>1),.val (.slice none 0 0),.val (.bool false),.val (.int .i64 0),.val (.int .i64 0),.val (.int .i64 1)])],100+60*w⟩) (fun w=>nb - w) 0 (xb6 _) (weakSU Ω (by simp[qX,Go.Sx.look,cF]) (SubHp.refl _)) fun w hw=>?_;by_cases hwm:w<nb
 ·have hlt:=decide_eq_true (Ω:((w:Nat):Int)<(nb:Nat))
  obtain⟨n1,hn1⟩:∃n1,n1=100+60*w:=⟨_,rfl⟩;rw[←hn1];have NB:=(⟨nmA (Ω:0<n1),nmA (Ω:1<n1)⟩:_∧_);have h1:=c91 nb n f (f w) 1;have hb:=yf f r w;(repeat' (first|refine sD ?_ ?_<;>intro _|refine aAf ?_|(simp -dsimp only[↓RP,RQ,xa0,reduceIte,reduceCtorEq,xa1,xa2,xa3,xa4,hlt,zh,TYQ,TYP,NB,QS,hr0,TYR,QT,QN])))
  all_goals try exact Ωb
  refine qj (h1) Ωz Ωa ?_;(repeat' (first|refine sD ?_ ?_<;>intro _|refine aAf ?_|(simp -dsimp only[↓RP,RQ,xa0,reduceIte,reduceCtorEq,xa1,xa2,xa3,xa4,QT,zh,TYQ,TYP,NB,QS,hr0,TYR,QN])))
  all_goals try exact Ωb
  all_goals
   rename_i hc;refine⟨w+1,hwm,Ω,weakSU Ω (by simp[qX,Go.Sx.look,ZZ,hc]) (SubHp.skip ?_ (SubHp.refl _))⟩;simp only[blk];rw[if_neg Ω,if_neg Ω]
 ·obtain rfl:nb=w:=by omega
  have hlt:=decide_eq_false (Ω:¬((nb:Nat):Int)<(nb:Nat));(repeat' (first|refine sD ?_ ?_<;>intro _|refine aAf ?_|(simp -dsimp only[↓RP,RQ,xa0,reduceIte,reduceCtorEq,xa1,xa2,xa3,xa4,hlt,zh,TYQ,TYP,NB,QS,hr0,TYR,QT,QN])))
  all_goals try exact Ωb
end Go.Tn
end
section
namespace Go.Tn
open Go.Proofs
open Go.Sx
def fky(v r:Nat):Nat:=if r % 3=0 then v % 8 else r % 3
def fgp(v k:Nat):Nat→List Nat
 |0=>[]
 |m+1=>fgp v k m++(if fky v m=k then [m]else [])
theorem yW(v k m:Nat):fgp v k (m+1)=fgp v k m++(if fky v m=k then [m]else []):=rfl
def fgs(v n:Nat):Nat→List (List Nat)
 |0=>[]
 |k+1=>fgs v n k++(if fgp v k n=[]then []else [fgp v k n])
theorem Jh(v n k:Nat):fgs v n (k+1)=fgs v n k++(if fgp v k n=[]then []else [fgp v k n]):=rfl
theorem qdU(v k m:Nat):(fgp v k m).length≤m:=by
 induction m with
 |zero=>simp[fgp]
 |succ m ih=>rw[yW,xc8];split<;>simp<;>omega
theorem qdV(v n k:Nat):(fgs v n k).length≤k:=by
 induction k with
 |zero=>simp[fgs]
 |succ m ih=>rw[Jh,xc8];split<;>simp<;>omega
theorem qjc(v k:Nat):∀m x,x∈fgp v k m→x<m
 |0,x,h=>by simp[fgp]at h
 |m+1,x,h=>by
  rw[yW,xd4]at h;rcases h with h|h
  ·have:=qjc v k m x h;omega
  ·split at h
   ·simp at h;omega
   ·simp at h
abbrev GE:=Nat×List Nat×(Nat→Nat→SV)
def GB(gl:List GE):List (Nat×Blk):=gl.map (fun g=>(g.1,Blk.rows 3 1 g.2.1.length g.2.2))
theorem KL:∀{gl:List GE}{i:Nat},(∀g,g∈gl→g.1≠i)→blk (GB gl) i=none
 |[],i,_=>rfl
 |g :: gl,i,h=>by
  simp only[GB,List.map_cons,blk];rw[if_neg (fun e=>h g Ωh e.symm)];exact KL (gl:=gl) (fun g hg=>h g (by simp[hg]))
theorem qjd:∀{gl:List GE}{i:Nat},(gl.map (·.1)).Nodup→(hi:i<gl.length)→blk (GB gl) gl[i].1=some (.rows 3 1 gl[i].2.1.length gl[i].2.2)
 |[],i,_,hi=>by simp at hi
 |g :: gl,0,_,hi=>by simp[GB,blk]
 |g :: gl,i+1,h,hi=>by
  simp only[List.map_cons,List.nodup_cons]at h;have hi':i<gl.length:=by simpa using hi
  have hne:g.1≠gl[i].1:=fun e=>h.1 (by rw[e];exact List.mem_map.2 ⟨gl[i],List.getElem_mem _,rfl⟩);simp only[GB,List.map_cons,blk,List.getElem_cons_succ];rw[if_neg (fun e=>hne e.symm)];exact qjd (gl:=gl) h.2 hi'
theorem qmV(gl:List GE)(g:GE):∀q,blk (GB (gl++[g])) q=match blk (GB gl) q with|some x=>some x|none=>if q=g.1 then some (.rows 3 1 g.2.1.length g.2.2)else none:=by
 intro q
 induction gl with
 |nil=>simp[GB,blk]
 |cons a gl ih=>
  simp only[GB,List.map_cons,List.cons_append,blk];split
  ·rfl
  ·exact ih
theorem qpk(r:Nat):(r % 3=0∧Int.tmod (r:Int) 3=0)∨(r % 3=1∧Int.tmod (r:Int) 3=1)∨(r % 3=2∧Int.tmod (r:Int) 3=2):=by
 have:Int.tmod (r:Int) 3=((r % 3:Nat):Int):=by rw[Int.tmod_eq_emod_of_nonneg Ω];rfl
 omega
theorem qpl(v:Nat):Int.tmod (v:Int) 8=((v % 8:Nat):Int):=by rw[Int.tmod_eq_emod_of_nonneg Ω];rfl
theorem c28(n nb v:Nat)(f:Nat→Int)(hn1:2≤n)(hn:n≤8)(hnb:nb≤100)(hv:v<256):qf Tryz.prog 28 [bkS n nb f (fun _=>-1) (fun _=>1) false 0 0 1,.arr false false 3 1 (fun i _=>[SV.val (.int .u8 v),.val (.int .u8 1),.val (.int .u8 2)].getD i .top)] (.arr true false (fgs v n 8).length 1 (fun i _=>.arr true false ((fgs v n 8).getD i []).length 1 (fun j _=>.val (.int .i64 (((fgs v n 8).getD i []).getD j 0:Nat))))):=by
 refine qg Tryz.func28 rfl Ωd follows Ωd _ _ (by rw[Tryz.ntmps28];simp) (by simp only[OldL,and_true];refine⟨wl _ _ _ _ _ _ _ _ _,?_⟩;simp only[Old,true_and];intro i j hi hj;have h3:i=0∨i=1∨i=2:=Ω;rcases h3 with rfl|rfl|rfl<;>simp[Old]) ?_;have NB:True:=trivial;have hr0:True:=trivial;unfold bkS zh;(repeat' (first|refine sD ?_ ?_<;>intro _|refine aAf ?_|(simp -dsimp only[↓RP,RQ,xa0,reduceIte,reduceCtorEq,xa1,xa2,xa3,xa4,TYQ,TYP,NB,QS,hr0,TYR,QT,QN])))
 all_goals try exact Ωb
 refine qn (fun(z:Nat×List GE×Nat×(Nat→Nat→SV)×Nat)=>z.1≤8∧z.2.1.map (·.2.1)=fgs v n z.1∧(z.2.1.map (·.1)).Nodup∧(∀g,g∈z.2.1→0<g.1∧g.1<z.2.2.2.2∧g.1≠z.2.2.1)∧(0<z.2.2.1∧z.2.2.1<z.2.2.2.2)∧(∀i (hi:i<z.2.1.length),z.2.2.2.1 i 0=.vec z.2.1[i].1 z.2.1[i].2.1.length 1)∧∀g,g∈z.2.1→∀j,j<g.2.1.length→g.2.2 j 0=.val (.int .i64 (g.2.1.getD j 0:Nat))) (fun z=>⟨[(1,.arr false false 3 1 (fun i _=>[SV.val (.int .u8 v),.val (.int .u8 1),.val (.int .u8 2)].getD i .top)),(2,.ptr 0 0),(5,.vec z.2.2.1 z.2.1.length 1),(6,.val (.int .i64 (z.1:Nat)))],(0,.cells 48 [.val (.int .i64 0),.val (.int .i64 n),.arr false false nb 3 (fun i j=>[SV.val (.int .i64 (f i)),.val (.int .i64 (-1)),.val (.int .i64 1)].getD j .top),.val (.slice none 0 0),.val (.bool false),.val (.int .i64 0),.val (.int .i64 0),.val (.int .i64 1)]) ::(z.2.2.1,.rows 22 1 z.2.1.length z.2.2.2.1) :: GB z.2.1,z.2.2.2.2⟩) (fun z=>8 - z.1) (0,[],4,fun _ _=>.top,5) ⟨Ωr,rfl,List.nodup_nil,fun g hg=>(by cases hg),⟨Ωr,Ωr⟩,fun i hi=>(by simp at hi),fun g hg=>(by cases hg)⟩ ((KK (d:=5) (k:=1) (t:=22) (fun _ _=>.top) ΩJ).trans (weakSU (xa5 _) (by simp[qX,Go.Sx.look,putFr]) (SubHp.swap Ω))) fun z hz=>?_;obtain⟨k,gl,oid,R,nid⟩:=z;obtain⟨hk,hg1,hg2,hg3,⟨ho1,ho2⟩,hR,hrow⟩:=hz;dsimp only at hk hg1 hg2 hg3 ho1 ho2 hR hrow ⊢;obtain⟨d0,d1,d2⟩:(0=oid)=False∧(oid=0)=False∧True:=⟨by rw[eq_iff_iff,iff_false];omega,by rw[eq_iff_iff,iff_false];omega,trivial⟩;have NB:=(⟨nmA (Ω:0<nid),nmA (Ω:oid<nid),d0,d1⟩:_∧_∧_∧_);have hund:∀q x,blk (GB gl) q=some x→q<nid:=fun q x hq=>by
  refine xf9 fun hn'=>?_;rw[KL (fun g hg e=>hn' (by have:=hg3 g hg;omega))]at hq;cases hq
 have hgl:gl.length≤k:=by
  have:=qdV v n k;rw[←hg1,xe1]at this;exact this
 by_cases hk8:k<8
 ·have hlt:=decide_eq_true (Ω:((k:Nat):Int)<8)
  (repeat' (first|refine sD ?_ ?_<;>intro _|refine aAf ?_|(simp -dsimp only[↓RP,RQ,xa0,reduceIte,reduceCtorEq,xa1,xa2,xa3,xa4,hlt,TYQ,TYP,NB,QS,hr0,TYR,QT,QN])))
  all_goals try exact Ωb
  refine qn (fun(z:Nat×Nat×Nat×(Nat→Nat→SV))=>z.1≤n∧nid≤z.2.1∧z.2.1<z.2.2.1∧∀j,j<(fgp v k z.1).length→z.2.2.2 j 0=.val (.int .i64 ((fgp v k z.1).getD j 0:Nat))) (fun z=>⟨[(1,.arr false false 3 1 (fun i _=>[SV.val (.int .u8 v),.val (.int .u8 1),.val (.int .u8 2)].getD i .top)),(2,.ptr 0 0),(5,.vec oid gl.length 1),(6,.val (.int .i64 (k:Nat))),(7,.vec z.2.1 (fgp v k z.1).length 1),(8,.val (.int .i64 (z.1:Nat)))],(0,.cells 48 [.val (.int .i64 0),.val (.int .i64 n),.arr false false nb 3 (fun i j=>[SV.val (.int .i64 (f i)),.val (.int .i64 (-1)),.val (.int .i64 1)].getD j .top),.val (.slice none 0 0),.val (.bool false),.val (.int .i64 0),.val (.int .i64 0),.val (.int .i64 1)]) ::(z.2.1,.rows 3 1 (fgp v k z.1).length z.2.2.2) ::(oid,.rows 22 1 gl.length R) :: GB gl,z.2.2.1⟩) (fun z=>n - z.1) (0,nid+4,nid+5,fun _ _=>.top) ⟨xb6 _,Ωe,Ωe,fun j hj=>(by simp[fgp]at hj)⟩ ((KK (d:=7) (k:=1) (t:=3) (fun _ _=>.top) ΩJ).trans (weakSU (xa5 _) (by simp[qX,Go.Sx.look,putFr,fgp]) (SubHp.swap Ω))) fun z hz=>?_;obtain⟨m,gid,n2,r⟩:=z;obtain⟨hm,hgi1,hgi2,hr⟩:=hz;dsimp only at hm hgi1 hgi2 hr ⊢;have hfl:=qdU v k m;have NB:=(⟨nmA (Ω:0<n2),nmA (Ω:oid<n2),nmA (Ω:gid<n2),nmE (Ω:gid≠0),nmE (Ω:gid≠oid),d0,d1⟩:_∧_∧_∧_∧_∧_∧_);have hdg:dropBlk (GB gl) gid=GB gl:=zf (KL (fun g hg e=>by have:=hg3 g hg;omega));by_cases hmn:m<n
  ·have hlt2:=decide_eq_true (Ω:((m:Nat):Int)<(n:Nat))
   have hc3:Int.tmod (v:Int) 8=((v % 8:Nat):Int):=qpl v;rcases qpk m with⟨m1,m2⟩|⟨m1,m2⟩|⟨m1,m2⟩
   ·have hky:fky v m=v % 8:=by unfold fky;rw[if_pos m1]
    have m3:Int.tmod (m:Int) ((3:Nat):Int)=0:=m2;have tn:Int.toNat 0=0:=rfl;have hc4:Int.tmod 1 8=1:=rfl;have hc5:Int.tmod 2 8=2:=rfl;have g0:[SV.val (.int .u8 v),.val (.int .u8 1),.val (.int .u8 2)].getD 0 .top=.val (.int .u8 v):=rfl;by_cases hkk:v % 8=k
    ·have hS:fgp v k (m+1)=fgp v k m++[m]:=by rw[yW,hky,if_pos hkk]
     have dk:decide (((v % 8:Nat):Int)=((k:Nat):Int))=true:=decide_eq_true Ω;have h94:=qhP (m:Nat);(repeat' (first|refine sD ?_ ?_<;>intro _|refine aAf ?_|(simp -dsimp only[↓RP,RQ,xa0,reduceIte,reduceCtorEq,xa1,xa2,xa3,xa4,hlt2,m3,tn,g0,hc3,hc4,hc5,dk,TYQ,TYP,NB,QS,hr0,TYR,QT,QN])))
     all_goals try exact Ωb
     refine qj (h94) ΩW Ωa ?_;(repeat' (first|refine sD ?_ ?_<;>intro _|refine aAf ?_|(simp -dsimp only[↓RP,RQ,xa0,reduceIte,reduceCtorEq,xa1,xa2,xa3,xa4,QT,hdg,TYQ,TYP,NB,QS,hr0,TYR,QN])))
     all_goals try exact Ωb
     refine⟨(m+1,n2+32,n2+37,fun i j=>if i<(fgp v k m).length then r i j else [SV.val (.int .i64 (m:Nat))].getD (i -(fgp v k m).length+j) .top),⟨hmn,Ωe,Ωe,?hp0⟩,Ωe,weakSU (xa5 _) ΩX ?hq0⟩
     case hp0=>
      dsimp only;intro i hi;rw[hS,xc8,xd1]at hi;rw[hS];by_cases e:i<(fgp v k m).length
      ·rw[if_pos e,hr i e,xc6,xc6,xc9 e]
      ·obtain rfl:i=(fgp v k m).length:=by omega
       rw[if_neg e];simp
     case hq0=>
      dsimp only;rw[hS,xc8,xd1]
      (intro q x hx;simp only[blk]at hx ⊢;((repeat' split at hx)<;>(repeat' split)<;>first|exact hx|(exfalso;omega)|(exfalso;have:=hund _ _ hx;omega)))
    ·have hS:fgp v k (m+1)=fgp v k m:=by rw[yW,hky,if_neg hkk,xd3]
     have dk:decide (((v % 8:Nat):Int)=((k:Nat):Int))=false:=decide_eq_false Ω;(repeat' (first|refine sD ?_ ?_<;>intro _|refine aAf ?_|(simp -dsimp only[↓RP,RQ,xa0,reduceIte,reduceCtorEq,xa1,xa2,xa3,xa4,hlt2,m3,tn,g0,hc3,hc4,hc5,dk,TYQ,TYP,NB,QS,hr0,TYR,QT,QN])))
     all_goals try exact Ωb
     refine⟨(m+1,gid,_,r),⟨hmn,hgi1,?hn0,by dsimp only;rw[hS];exact hr⟩,Ωe,weakSU (xa5 _) Ωac Ωai⟩;dsimp only;omega
   ·have hky:fky v m=1:=by unfold fky;rw[if_neg Ω,m1]
    have m3:Int.tmod (m:Int) ((3:Nat):Int)=1:=m2;have tn:Int.toNat 1=1:=rfl;have hc4:Int.tmod 1 8=1:=rfl;have hc5:Int.tmod 2 8=2:=rfl;have g0:[SV.val (.int .u8 v),.val (.int .u8 1),.val (.int .u8 2)].getD 1 .top=.val (.int .u8 1):=rfl;by_cases hkk:1=k
    ·have hS:fgp v k (m+1)=fgp v k m++[m]:=by rw[yW,hky,if_pos hkk]
     have dk:decide ((1:Int)=((k:Nat):Int))=true:=decide_eq_true Ω;have h94:=qhP (m:Nat);(repeat' (first|refine sD ?_ ?_<;>intro _|refine aAf ?_|(simp -dsimp only[↓RP,RQ,xa0,reduceIte,reduceCtorEq,xa1,xa2,xa3,xa4,hlt2,m3,tn,g0,hc3,hc4,hc5,dk,TYQ,TYP,NB,QS,hr0,TYR,QT,QN])))
     all_goals try exact Ωb
     refine qj (h94) ΩW Ωa ?_;(repeat' (first|refine sD ?_ ?_<;>intro _|refine aAf ?_|(simp -dsimp only[↓RP,RQ,xa0,reduceIte,reduceCtorEq,xa1,xa2,xa3,xa4,QT,hdg,TYQ,TYP,NB,QS,hr0,TYR,QN])))
     all_goals try exact Ωb
     refine⟨(m+1,n2+32,n2+37,fun i j=>if i<(fgp v k m).length then r i j else [SV.val (.int .i64 (m:Nat))].getD (i -(fgp v k m).length+j) .top),⟨hmn,Ωe,Ωe,?hp1⟩,Ωe,weakSU (xa5 _) ΩX ?hq1⟩
     case hp1=>
      dsimp only;intro i hi;rw[hS,xc8,xd1]at hi;rw[hS];by_cases e:i<(fgp v k m).length
      ·rw[if_pos e,hr i e,xc6,xc6,xc9 e]
      ·obtain rfl:i=(fgp v k m).length:=by omega
       rw[if_neg e];simp
     case hq1=>
      dsimp only;rw[hS,xc8,xd1]
      (intro q x hx;simp only[blk]at hx ⊢;((repeat' split at hx)<;>(repeat' split)<;>first|exact hx|(exfalso;omega)|(exfalso;have:=hund _ _ hx;omega)))
    ·have hS:fgp v k (m+1)=fgp v k m:=by rw[yW,hky,if_neg hkk,xd3]
     have dk:decide ((1:Int)=((k:Nat):Int))=false:=decide_eq_false Ω;(repeat' (first|refine sD ?_ ?_<;>intro _|refine aAf ?_|(simp -dsimp only[↓RP,RQ,xa0,reduceIte,reduceCtorEq,xa1,xa2,xa3,xa4,hlt2,m3,tn,g0,hc3,hc4,hc5,dk,TYQ,TYP,NB,QS,hr0,TYR,QT,QN])))
     all_goals try exact Ωb
     refine⟨(m+1,gid,_,r),⟨hmn,hgi1,?hn1,by dsimp only;rw[hS];exact hr⟩,Ωe,weakSU (xa5 _) Ωac Ωai⟩;dsimp only;omega
   ·have hky:fky v m=2:=by unfold fky;rw[if_neg Ω,m1]
    have m3:Int.tmod (m:Int) ((3:Nat):Int)=2:=m2;have tn:Int.toNat 2=2:=rfl;have hc4:Int.tmod 1 8=1:=rfl;have hc5:Int.tmod 2 8=2:=rfl;have g0:[SV.val (.int .u8 v),.val (.int .u8 1),.val (.int .u8 2)].getD 2 .top=.val (.int .u8 2):=rfl;by_cases hkk:2=k
    ·have hS:fgp v k (m+1)=fgp v k m++[m]:=by rw[yW,hky,if_pos hkk]
     have dk:decide ((2:Int)=((k:Nat):Int))=true:=decide_eq_true Ω;have h94:=qhP (m:Nat);(repeat' (first|refine sD ?_ ?_<;>intro _|refine aAf ?_|(simp -dsimp only[↓RP,RQ,xa0,reduceIte,reduceCtorEq,xa1,xa2,xa3,xa4,hlt2,m3,tn,g0,hc3,hc4,hc5,dk,TYQ,TYP,NB,QS,hr0,TYR,QT,QN])))
     all_goals try exact Ωb
     refine qj (h94) ΩW Ωa ?_;(repeat' (first|refine sD ?_ ?_<;>intro _|refine aAf ?_|(simp -dsimp only[↓RP,RQ,xa0,reduceIte,reduceCtorEq,xa1,xa2,xa3,xa4,QT,hdg,TYQ,TYP,NB,QS,hr0,TYR,QN])))
     all_goals try exact Ωb
     refine⟨(m+1,n2+32,n2+37,fun i j=>if i<(fgp v k m).length then r i j else [SV.val (.int .i64 (m:Nat))].getD (i -(fgp v k m).length+j) .top),⟨hmn,Ωe,Ωe,?hp2⟩,Ωe,weakSU (xa5 _) ΩX ?hq2⟩
     case hp2=>
      dsimp only;intro i hi;rw[hS,xc8,xd1]at hi;rw[hS];by_cases e:i<(fgp v k m).length
      ·rw[if_pos e,hr i e,xc6,xc6,xc9 e]
      ·obtain rfl:i=(fgp v k m).length:=by omega
       rw[if_neg e];simp
     case hq2=>
      dsimp only;rw[hS,xc8,xd1]
      (intro q x hx;simp only[blk]at hx ⊢;((repeat' split at hx)<;>(repeat' split)<;>first|exact hx|(exfalso;omega)|(exfalso;have:=hund _ _ hx;omega)))
    ·have hS:fgp v k (m+1)=fgp v k m:=by rw[yW,hky,if_neg hkk,xd3]
     have dk:decide ((2:Int)=((k:Nat):Int))=false:=decide_eq_false Ω;(repeat' (first|refine sD ?_ ?_<;>intro _|refine aAf ?_|(simp -dsimp only[↓RP,RQ,xa0,reduceIte,reduceCtorEq,xa1,xa2,xa3,xa4,hlt2,m3,tn,g0,hc3,hc4,hc5,dk,TYQ,TYP,NB,QS,hr0,TYR,QT,QN])))
     all_goals try exact Ωb
     refine⟨(m+1,gid,_,r),⟨hmn,hgi1,?hn2,by dsimp only;rw[hS];exact hr⟩,Ωe,weakSU (xa5 _) Ωac Ωai⟩;dsimp only;omega
  ·obtain rfl:m=n:=by omega
   have hlt2:=decide_eq_false (Ω:¬((m:Nat):Int)<(m:Nat));by_cases he:fgp v k m=[]
   ·have hS:fgs v m (k+1)=fgs v m k:=by rw[Jh,if_pos he,xd3]
    have dl:=decide_eq_false (show ¬(0:Int)<(((fgp v k m).length:Nat):Int) by rw[he];simp);(repeat' (first|refine sD ?_ ?_<;>intro _|refine aAf ?_|(simp -dsimp only[↓RP,RQ,xa0,reduceIte,reduceCtorEq,xa1,xa2,xa3,xa4,hlt2,dl,TYQ,TYP,NB,QS,hr0,TYR,QT,QN])))
    all_goals try exact Ωb
    refine⟨(k+1,gl,oid,R,_),⟨Ωe,by rw[hS];exact hg1,hg2,?ha1,⟨ho1,?ha2⟩,hR,hrow⟩,Ωe,weakSU (xa5 _) Ωf ?ha3⟩
    case ha1=>intro g hg;have:=hg3 g hg;dsimp only;omega
    case ha2=>dsimp only;omega
    case ha3=>dsimp only;(intro q x hx;simp only[blk]at hx ⊢;((repeat' split at hx)<;>(repeat' split)<;>first|exact hx|(exfalso;omega)|(exfalso;have:=hund _ _ hx;omega)))
   ·have hS:fgs v m (k+1)=fgs v m k++[fgp v k m]:=by rw[Jh,if_neg he]
    have hpos:0<(fgp v k m).length:=List.length_pos_iff.2 he;have dl:=decide_eq_true (show(0:Int)<(((fgp v k m).length:Nat):Int) by omega);have hdo:dropBlk (GB gl) oid=GB gl:=zf (KL (fun g hg e=>(hg3 g hg).2.2 e));(repeat' (first|refine sD ?_ ?_<;>intro _|refine aAf ?_|(simp -dsimp only[↓RP,RQ,xa0,reduceIte,reduceCtorEq,xa1,xa2,xa3,xa4,hlt2,dl,hdo,TYQ,TYP,NB,QS,hr0,TYR,QT,QN])))
    all_goals try exact Ωb
    refine⟨⟨.inr trivial,xa5 _,fun i j hi hj=>?hb0,Ω,by rw[qN];omega⟩,by simp only[InK];omega,(k+1,gl++[(gid,fgp v k m,r)],n2+10,fun i j=>if i<gl.length then R i j else [SV.vec gid (fgp v k m).length 1].getD (i - gl.length+j) .top,n2+15),⟨Ωe,?hb1,?hb2,?hb3,⟨Ωe,Ωe⟩,?hb4,?hb5⟩,Ωe,weakSU (xa5 _) (by dsimp only;rw[xc8];simp[qX,Go.Sx.look]) ?hb6⟩
    case hb0=>
     obtain rfl:i=0:=by omega
     obtain rfl:j=0:=by omega
     rfl
    case hb1=>dsimp only;rw[List.map_append,hg1,hS];rfl
    case hb2=>
     dsimp only;rw[List.map_append];refine wk hg2 (fun hm=>?_);obtain⟨g,hg,e⟩:=List.mem_map.1 hm;have:=hg3 g hg;dsimp only at e;omega
    case hb3=>
     dsimp only;intro g hg;rcases List.mem_append.1 hg with h|h
     ·have:=hg3 g h;omega
     ·rw[List.mem_singleton.1 h];dsimp only;omega
    case hb4=>
     dsimp only;intro i hi;rw[xc8,xd1]at hi;by_cases e:i<gl.length
     ·rw[if_pos e,List.getElem_append_left e];exact hR i e
     ·obtain rfl:i=gl.length:=by omega
      rw[if_neg e,List.getElem_concat_length ΩA];simp
    case hb5=>
     dsimp only;intro g hg j hj;rcases List.mem_append.1 hg with h|h
     ·exact hrow g h j hj
     ·rw[List.mem_singleton.1 h]at hj ⊢;exact hr j hj
    case hb6=>
     dsimp only;rw[xc8,xd1];intro q x hx;have hA:=qmV gl (gid,fgp v k m,r) q;simp only[blk]at hx ⊢;rw[hA]at hx;cases hB:blk (GB gl) q with
     |some y=>
      have:=hund q y hB;rw[hB]at hx;dsimp only at hx;(repeat' split at hx)<;>(repeat' split)<;>first|exact hx|(exfalso;omega)|cases hx
     |none=>
      rw[hB]at hx;dsimp only at hx;(repeat' split at hx)<;>(repeat' split)<;>first|exact hx|(exfalso;omega)|cases hx
 ·have hk8':k=8:=by omega
  subst hk8';have hlt:=decide_eq_false (Ω:¬((8:Nat):Int)<8);(repeat' (first|refine sD ?_ ?_<;>intro _|refine aAf ?_|(simp -dsimp only[↓RP,RQ,xa0,reduceIte,reduceCtorEq,xa1,xa2,xa3,xa4,hlt,TYQ,TYP,NB,QS,hr0,TYR,QT,QN])))
  all_goals try exact Ωb
  have hlen:(fgs v n 8).length=gl.length:=by rw[←hg1,xe1]
  refine⟨hlen,Nat.le_of_eq hlen,fun i j hi hj=>?_⟩;obtain rfl:j=0:=by omega
  have hi':i<gl.length:=by omega
  rw[hR i hi'];have hget:=qjd hg2 hi';have hcon:(fgs v n 8).getD i []=gl[i].2.1:=by rw[←hg1,xc6,List.getElem?_map,xc7 hi'];rfl
  rw[hcon];have hgi:=hg3 gl[i] (List.getElem_mem _);have hb:∀A B:Blk,blk ((0,A) ::(oid,B) :: GB gl) gl[i].1=some (.rows 3 1 gl[i].2.1.length gl[i].2.2):=fun A B=>by
   simp only[blk];rw[if_neg Ω,if_neg hgi.2.2];exact hget
  simp only[Go.Sx.Sub,hb,true_and,xa5];intro a b ha hb';obtain rfl:b=0:=by omega
  exact hrow gl[i] (List.getElem_mem _) a ha
end Go.Tn
end
section
namespace Go.Tn
open Go.Proofs
open Go.Sx
theorem qpm(m:Nat)(u:Nat→Int)(hm:m≤1000000)(hu:∀i,i+1<m→u i<u (i+1)):qf Tryz.prog 185 [qA m u] (B true):=by
 refine qg Tryz.func185 rfl Ωd follows Ωd _ _ (by rw[Tryz.ntmps185];simp) Ωg ?_;have NB:True:=trivial;have hr0:True:=trivial;unfold qA B;(repeat' (first|refine sD ?_ ?_<;>intro _|refine aAf ?_|(simp -dsimp only[↓RP,RQ,xa0,reduceIte,reduceCtorEq,xa1,xa2,xa3,xa4,TYQ,TYP,NB,QS,hr0,TYR,QT,QN])))
 all_goals try exact Ωb
 refine qn (fun(w:Nat)=>w≤m) (fun w=>⟨[(0,.arr false false m 1 (fun i _=>.val (.int .i64 (u i)))),(4,.arr false false m 1 (fun i _=>.val (.int .i64 (u i)))),(5,.val (.int .i64 (m:Nat))),(6,.val (.int .i64 (w:Nat)))],[],40+30*w⟩) (fun w=>m - w) 0 (xb6 _) (weakSU Ω Ωf (SubHp.refl _)) fun w hw=>?_;by_cases hwm:w<m
 ·have hlt:=decide_eq_true (Ω:((w:Nat):Int)<(m:Nat))
  by_cases h0:w=0
  ·subst h0
   have dg:=decide_eq_false (Ω:¬(0:Int)<((0:Nat):Int));(repeat' (first|refine sD ?_ ?_<;>intro _|refine aAf ?_|(simp -dsimp only[↓RP,RQ,xa0,reduceIte,reduceCtorEq,xa1,xa2,xa3,xa4,hlt,dg,TYQ,TYP,NB,QS,hr0,TYR,QT,QN])))
   all_goals try exact Ωb
   exact⟨1,hwm,Ω,weakSU Ω Ωf (SubHp.refl _)⟩
  ·have dg:=decide_eq_true (Ω:(0:Int)<((w:Nat):Int))
   have hlt3:=hu (w - 1) Ω;rw[show w - 1+1=w by omega]at hlt3;have tn:Int.toNat ((w:Nat) - 1:Int)=w - 1:=by omega
   have dl:=decide_eq_false (Ω:¬u w≤u (w - 1));(repeat' (first|refine sD ?_ ?_<;>intro _|refine aAf ?_|(simp -dsimp only[↓RP,RQ,xa0,reduceIte,reduceCtorEq,xa1,xa2,xa3,xa4,hlt,dg,tn,dl,TYQ,TYP,NB,QS,hr0,TYR,QT,QN])))
   all_goals try exact Ωb
   refine⟨w+1,hwm,Ω,weakSU Ω Ωf (SubHp.refl _)⟩
 ·obtain rfl:m=w:=by omega
  have hlt:=decide_eq_false (Ω:¬((m:Nat):Int)<(m:Nat));(repeat' (first|refine sD ?_ ?_<;>intro _|refine aAf ?_|(simp -dsimp only[↓RP,RQ,xa0,reduceIte,reduceCtorEq,xa1,xa2,xa3,xa4,hlt,TYQ,TYP,NB,QS,hr0,TYR,QT,QN])))
  all_goals try exact Ωb
theorem WK(v k:Nat):∀m x,x∈fgp v k m↔x<m∧fky v x=k
 |0,x=>by simp[fgp]
 |m+1,x=>by
  rw[yW,xd4,WK v k m x];constructor
  ·rintro(h|h)
   ·exact⟨Ω,h.2⟩
   ·split at h
    ·rename_i e;rw[List.mem_singleton.1 h];exact⟨Ω,e⟩
    ·simp at h
  ·rintro⟨h1,h2⟩
   by_cases e:x=m
   ·subst e;right;rw[if_pos h2];simp
   ·left;exact⟨Ω,h2⟩
theorem Qv(v k:Nat):∀m,(fgp v k m).Pairwise (· < ·)
 |0=>by simp[fgp]
 |m+1=>by
  rw[yW,List.pairwise_append];refine⟨Qv v k m,(by split<;>simp),fun a ha b hb=>?_⟩;have:=qjc v k m a ha;split at hb
  ·rw[List.mem_singleton.1 hb];exact this
  ·simp at hb
theorem qmW(v r:Nat):fky v r<8:=by unfold fky;split<;>omega
theorem WL(v n:Nat):∀k x,x∈(fgs v n k).flatten↔x<n∧fky v x<k
 |0,x=>by simp[fgs]
 |k+1,x=>by
  rw[Jh,List.flatten_append,xd4,WL v n k x];have h2:x∈(if fgp v k n=[]then []else [fgp v k n]).flatten↔x∈fgp v k n:=by
   split
   ·rename_i e;rw[e];simp
   ·simp
  rw[h2,WK];omega
theorem Vx(v n:Nat):∀k,(fgs v n k).flatten.Nodup
 |0=>by simp[fgs]
 |k+1=>by
  rw[Jh,List.flatten_append];refine List.nodup_append.2 ⟨Vx v n k,?_,fun a ha b hb e=>?_⟩
  ·split
   ·simp
   ·simp only[List.flatten_cons,List.flatten_nil,xd3]
    exact(Qv v k n).imp (fun h=>by omega)
  ·subst e
   have h1:=(WL v n k a).1 ha;have h2:a∈fgp v k n:=by
    split at hb
    ·simp at hb
    ·simpa using hb
   rw[WK]at h2;omega
theorem qan(v n:Nat):∀k g,g∈fgs v n k→g≠[]∧g.Pairwise (· < ·)
 |0,g,h=>by simp[fgs]at h
 |k+1,g,h=>by
  rw[Jh,xd4]at h;rcases h with h|h
  ·exact qan v n k g h
  ·split at h
   ·simp at h
   ·rename_i e;rw[List.mem_singleton.1 h];exact⟨e,Qv v k n⟩
end Go.Tn
end
section
namespace Go.Tn
open Go.Sx
theorem qao(b:Nat→Bool):∀(k i:Nat),(∃j,i≤j∧j<i+k∧b j=true)→∃j:Nat,gK b i k=j∧i≤j∧j<i+k∧b j=true
 |0,i,⟨j,h1,h2,_⟩=>by omega
 |k+1,i,⟨j,h1,h2,h3⟩=>by
  show ∃j':Nat,(if b i=true then(i:Int)else gK b (i+1) k)=j'∧_;by_cases e:b i=true
  ·exact⟨i,by rw[if_pos e],xa5 _,Ω,e⟩
  ·have hj:i+1≤j:=by
    refine xf9 fun hn=>e ?_;obtain rfl:j=i:=by omega
    exact h3
   obtain⟨j',q1,q2,q3,q4⟩:=qao b k (i+1) ⟨j,hj,Ω,h3⟩;exact⟨j',by rw[if_neg e];exact q1,Ω,Ω,q4⟩
theorem qmX{l:List Nat}{i:Nat}(h:l.Nodup)(hi:i<l.length)(x:Nat):x∈l.eraseIdx i↔x∈l∧x≠l[i]:=by
 rw[List.mem_eraseIdx_iff_getElem];constructor
 ·rintro⟨j,hj,hne,rfl⟩
  refine⟨List.getElem_mem _,fun e=>hne ?_⟩;exact(List.getElem_inj h).1 e
 ·rintro⟨hm,hne⟩
  obtain⟨j,hj,rfl⟩:=List.getElem_of_mem hm;exact⟨j,hj,fun e=>hne (by subst e;rfl),rfl⟩
theorem qmY{l:List Nat}{i n nn:Nat}{row r:Nat→Nat→SV}(hn:n=l.length)(hi:i<n)(hnn:n≤nn)(h0:∀x (hx:x<l.length),row x 0=.val (.int .i64 (l[x]:Nat)))
  (hr:∀x,x<nn→r x 0=if n -(i+1 - i)≤x∧x<n then .val (.int .i64 0)else gI row i (i+1) (n -(i+1)) x 0) :
  ∀x (hx:x<(l.eraseIdx i).length),r x 0=.val (.int .i64 ((l.eraseIdx i)[x]:Nat)):=by
 intro x hx;have hl:(l.eraseIdx i).length=l.length - 1:=List.length_eraseIdx_of_lt Ω;rw[hr x Ω,if_neg Ω];rw[List.getElem_eraseIdx];unfold gI;by_cases e:x<i
 ·rw[if_neg Ω]
  rw[h0 x Ω];simp[e]
 ·rw[if_pos ⟨Ω,Ω⟩]
  rw[show i+1+(x - i)=x+1 by omega,h0 (x+1) Ω];simp[e]
end Go.Tn
end
section
namespace Go.Tn
open Go.Proofs
open Go.Sx
def lft(n:Nat)(G:List (List Nat))(g w:Nat)(L:List Nat):Prop:=L.Nodup∧∀x,x∈L↔x<n∧x∉(G.take g).flatten++(G.getD g []).take w
def rwL(L:List Nat)(r:Nat→Nat→SV):Prop:=∀x (hx:x<L.length),r x 0=.val (.int .i64 (L[x]:Nat))
theorem qlh{G:List (List Nat)}{g:Nat}(hg:g<G.length):G=G.take g++G.getD g [] :: G.drop (g+1):=by
 rw[xc6,xc7 hg];show G=G.take g++G[g] :: G.drop (g+1);rw[←List.drop_eq_getElem_cons hg,List.take_append_drop]
theorem qmZ{n g w:Nat}{G:List (List Nat)}{L:List Nat}(hG2:G.flatten.Nodup)(hG3:∀x,x∈G.flatten↔x<n)(h:lft n G g w L)(hg:g<G.length)(hw:w<(G.getD g []).length):(G.getD g [])[w]∈L:=by
 have hs:=qlh hg;rw[h.2];have hm:(G.getD g [])[w]∈G.flatten:=List.mem_flatten.2 ⟨G.getD g [],by rw[xc6,xc7 hg];exact List.getElem_mem _,List.getElem_mem _⟩;refine⟨(hG3 _).1 hm,fun hx=>?_⟩;rw[hs,List.flatten_append,List.flatten_cons]at hG2;rw[List.nodup_append]at hG2;obtain⟨_,h2,h3⟩:=hG2;rcases List.mem_append.1 hx with h4|h4
 ·exact h3 _ h4 _ (List.mem_append.2 (.inl (List.getElem_mem _))) rfl
 ·have h5:=(List.nodup_append.1 h2).1
  obtain⟨j,hj,e⟩:=List.getElem_of_mem h4;rw[xd9]at hj;rw[List.getElem_take]at e;have:=(List.getElem_inj h5).1 e;omega
theorem qje{n g w i:Nat}{G:List (List Nat)}{L:List Nat}(h:lft n G g w L)(hw:w<(G.getD g []).length)(hi:i<L.length)(e:L[i]=(G.getD g [])[w]):lft n G g (w+1) (L.eraseIdx i):=by
 refine⟨h.1.sublist (List.eraseIdx_sublist _ _),fun x=>?_⟩;rw[qmX h.1 hi,h.2,e,List.take_add_one,xc7 hw];simp only[xd4,Option.toList_some,xe0,not_or,ne_eq];constructor
 ·rintro⟨⟨h1,h2,h3⟩,h4⟩;exact⟨h1,h2,h3,h4⟩
 ·rintro⟨h1,h2,h3,h4⟩;exact⟨⟨h1,h2,h3⟩,h4⟩
theorem qfB{n g:Nat}{G:List (List Nat)}{L:List Nat}(h:lft n G g (G.getD g []).length L)(hg:g<G.length):lft n G (g+1) 0 L:=by
 refine⟨h.1,fun x=>?_⟩;have e:G.take (g+1)=G.take g++[G.getD g []]:=by
  rw[List.take_add_one,xc7 hg,xc6,xc7 hg];rfl
 rw[h.2,List.take_length,e,List.flatten_append];simp
theorem e92(n nb:Nat)(f:Nat→Int)(hn1:2≤n)(hn:n≤8)(hnb:nb≤100)(hf:∀i,i<nb→0≤f i∧f i<n)(G:List (List Nat))(hG:G.length≤8)(hG0:∀g,g∈G→g.length≤8)(hG1:∀g,g∈G→g≠[]∧g.Pairwise (· < ·))(hG2:G.flatten.Nodup)(hG3:∀x,x∈G.flatten↔x<n)(id:Nat)(rest:List (Nat×Blk))(hr:Under rest id):EffVC Tryz.prog 92 [bkS n nb f (fun _=>-1) (fun _=>1) false 0 0 1,.arr false false G.length 1 (fun i _=>.arr false false (G.getD i []).length 1 (fun j _=>.val (.int .i64 ((G.getD i []).getD j 0:Nat))))] rest id (fun hp' nid' res=>
  ∃tid mid,id≤mid∧mid<tid∧tid<nid'∧hp'=(tid,.cells 167 (tlL n nb f (amx (cV f nb) n:Nat) (.mp mid) (100*nb) 0 0 0 0 (100*nb))) ::(mid,.map (qm true [.i .i64,.i .i64]) (uD f nb) (uG f nb)) :: rest∧res=.tup [.ptr tid 0,I 0]):=by
 refine vb follows Tryz.func92 rfl Ωd Ωd (by rw[Tryz.ntmps92];simp) fun out=>?_;have hr0:blk rest id=none:=hr.none (xa5 _);have NB:True:=trivial;unfold bkS;(repeat' (first|refine sD ?_ ?_<;>intro _|refine aAf ?_|(simp -dsimp only[↓RP,RQ,xa0,reduceIte,reduceCtorEq,xa1,xa2,xa3,xa4,TYQ,TYP,NB,QS,hr0,TYR,QT,QN])))
 all_goals try exact Ωb
 refine jh ΩA (e95 n nb f hn1 hn hnb hf _ _ ((hr.mono (Nat.le_add_right id _)).cons Ω)) fun hp' nid' res ⟨tid,mid,q1,q2,q3,q4,q5⟩=>?_;subst q4 q5;have h184:=qoe n nb f (amx (cV f nb) n:Nat) .top yE (100*nb) 0 0 0 0 (100*nb) Ω hn;(repeat' (first|refine sD ?_ ?_<;>intro _|refine aAf ?_|(simp -dsimp only[↓RP,RQ,xa0,reduceIte,reduceCtorEq,xa1,xa2,xa3,xa4,TYQ,TYP,NB,QS,hr0,TYR,QT,QN])))
 all_goals try exact Ωb
 refine callN h184 (by simp only[SubL,and_true];exact Z0 (M:=.mp mid) Ω7) (by simp[FreshO]) Ωak ?_;(repeat' (first|refine sD ?_ ?_<;>intro _|refine aAf ?_|(simp -dsimp only[↓RP,RQ,xa0,reduceIte,reduceCtorEq,xa1,xa2,xa3,xa4,TYQ,TYP,NB,QS,hr0,TYR,QT,QN])))
 all_goals try exact Ωb
 obtain⟨lid,hlid⟩:∃lid,lid=nid'+10:=⟨_,rfl⟩;rw[←hlid];refine qn (fun(z:Nat×List Nat×(Nat→Nat→SV)×Nat)=>z.1≤G.length∧lft n G z.1 0 z.2.1∧rwL z.2.1 z.2.2.1∧z.2.1.length≤n∧lid<z.2.2.2) (fun z=>⟨[(1,.arr false false G.length 1 (fun i _=>.arr false false (G.getD i []).length 1 (fun j _=>.val (.int .i64 ((G.getD i []).getD j 0:Nat))))),(4,.val (.pointer none)),(5,.val (.int .i64 0)),(6,.ptr tid 0),(8,.vec lid z.2.1.length 1),(24,.arr false false G.length 1 (fun i _=>.arr false false (G.getD i []).length 1 (fun j _=>.val (.int .i64 ((G.getD i []).getD j 0:Nat))))),(25,.val (.int .i64 (G.length:Nat))),(26,.val (.int .i64 (z.1:Nat)))],(lid,.rows 3 1 n z.2.2.1) ::(tid,.cells 167 (tlL n nb f (amx (cV f nb) n:Nat) (.mp mid) (100*nb) 0 0 0 0 (100*nb))) ::(mid,.map (qm true [.i .i64,.i .i64]) (uD f nb) (uG f nb)) :: rest,z.2.2.2⟩) (fun z=>G.length - z.1) (0,List.range n,fun i _=>.val (.int .i64 (i:Nat)),nid'+15) ⟨xb6 _,⟨List.nodup_range,fun x=>Ωh⟩,fun x hx=>Ωh,Ωh,Ωe⟩ (weakSU (xa5 _) Ωf (SubHp.cons (SubHp.cons (SubHp.cons (SubHp.skip hr0 (SubHp.refl _)))))) fun z hz=>?_;obtain⟨g,L,r,n1⟩:=z;obtain⟨hg,hL,hrw,hLn,hn1'⟩:=hz;dsimp only at hg hL hrw hLn hn1' ⊢;have NB:=(⟨nmA (Ω:lid<n1),nmA (Ω:tid<n1),nmA (Ω:mid<n1),nmE (Ω:lid≠tid),nmE (Ω:lid≠mid),nmE (Ω:tid≠mid)⟩:_∧_∧_∧_∧_∧_);by_cases hgl:g<G.length
 ·have hlt:=decide_eq_true (Ω:((g:Nat):Int)<(G.length:Nat))
  obtain⟨gr,hgr⟩:∃gr,gr=G.getD g []:=⟨_,rfl⟩;have hmem:gr∈G:=by rw[hgr,xc6,xc7 hgl];exact List.getElem_mem _
  have⟨hne,hinc⟩:=hG1 gr hmem;have hpos:0<gr.length:=List.length_pos_iff.2 hne;have dl:=decide_eq_false (Ω:¬((gr.length:Nat):Int)=0);have hgrn:gr.length≤1000000:=by have:=hG0 gr hmem;omega
  have h185:=qpm gr.length (fun j=>(gr.getD j 0:Nat)) hgrn (fun i hi=>by
   have:=List.pairwise_iff_getElem.1 hinc i (i+1) Ω hi Ω;rw[xc6,xc6,xc7 Ω,xc7 hi];simpa using this)
  have hgr':=hgr.symm;(repeat' (first|refine sD ?_ ?_<;>intro _|refine aAf ?_|(simp -dsimp only[↓RP,RQ,xa0,reduceIte,reduceCtorEq,xa1,xa2,xa3,xa4,hlt,hgr',dl,TYQ,TYP,NB,QS,hr0,TYR,QT,QN])))
  all_goals try exact Ωb
  refine qj (h185) (by(simp -dsimp only[↓RP,RQ,xa0,reduceIte,reduceCtorEq,xa1,xa2,xa3,xa4,qA]);all_goals (try simp[Go.Sx.Sub])) Ωa ?_;(repeat' (first|refine sD ?_ ?_<;>intro _|refine aAf ?_|(simp -dsimp only[↓RP,RQ,xa0,reduceIte,reduceCtorEq,xa1,xa2,xa3,xa4,QT,hgr',dl,TYQ,TYP,NB,QS,hr0,TYR,QN])))
  all_goals try exact Ωb
  have ARR:True:=trivial;refine qn (fun(z:Nat×List Nat×(Nat→Nat→SV)×Nat)=>z.1≤gr.length∧lft n G g z.1 z.2.1∧rwL z.2.1 z.2.2.1∧z.2.1.length≤n∧lid<z.2.2.2) (fun z=>⟨[(1,.arr false false G.length 1 (fun i _=>.arr false false (G.getD i []).length 1 (fun j _=>.val (.int .i64 ((G.getD i []).getD j 0:Nat))))),(4,.val (.pointer none)),(5,.val (.int .i64 0)),(6,.ptr tid 0),(8,.vec lid z.2.1.length 1),(24,.arr false false G.length 1 (fun i _=>.arr false false (G.getD i []).length 1 (fun j _=>.val (.int .i64 ((G.getD i []).getD j 0:Nat))))),(25,.val (.int .i64 (G.length:Nat))),(26,.val (.int .i64 (g:Nat))),(38,.arr false false gr.length 1 (fun j _=>.val (.int .i64 (gr.getD j 0:Nat)))),(39,.val (.int .i64 (gr.length:Nat))),(40,.val (.int .i64 (z.1:Nat)))],(lid,.rows 3 1 n z.2.2.1) ::(tid,.cells 167 (tlL n nb f (amx (cV f nb) n:Nat) (.mp mid) (100*nb) 0 0 0 0 (100*nb))) ::(mid,.map (qm true [.i .i64,.i .i64]) (uD f nb) (uG f nb)) :: rest,z.2.2.2⟩) (fun z=>gr.length - z.1) (0,L,r,n1+40) ⟨xb6 _,hL,hrw,hLn,Ωe⟩ (weakSU Ωe Ωf (SubHp.refl _)) fun z hz=>?_;clear NB;obtain⟨w,L2,r2,n2⟩:=z;obtain⟨hw,hL2,hrw2,hLn2,hn2⟩:=hz;dsimp only at hw hL2 hrw2 hLn2 hn2 ⊢;have NB:=(⟨nmA (Ω:lid<n2),nmA (Ω:tid<n2),nmA (Ω:mid<n2),nmE (Ω:lid≠tid),nmE (Ω:lid≠mid),nmE (Ω:tid≠mid)⟩:_∧_∧_∧_∧_∧_);by_cases hwl:w<gr.length
  ·have hlt2:=decide_eq_true (Ω:((w:Nat):Int)<(gr.length:Nat))
   have hin:=qmZ hG2 hG3 hL2 hgl (w:=w) (by rw[←hgr];exact hwl);have hgw:(gr.getD w 0)∈L2:=by
    rw[xc6,xc7 hwl];subst hgr;exact hin
   obtain⟨p,hp,hpe⟩:=List.getElem_of_mem hgw;have h169:=qnD L2.length (fun j=>(L2.getD j 0:Nat)) (gr.getD w 0:Nat) Ω;obtain⟨i,e1,_,e3,e4⟩:=qao (vAt (fun j=>(L2.getD j 0:Nat)) (gr.getD w 0:Nat)) L2.length 0 ⟨p,xb6 _,Ω,by simp only[vAt,decide_eq_true_eq];rw[xc6 (l:=L2),xc7 hp,←hpe];rfl⟩;rw[e1]at h169;have hi:i<L2.length:=by omega
   have hie:L2[i]=(G.getD g [])[w]'(by rw[←hgr];exact hwl):=by
    simp only[vAt,decide_eq_true_eq]at e4;rw[xc6 (l:=L2),xc7 hi,xc6 (l:=gr),xc7 hwl]at e4;subst hgr;have e6:(((G.getD g [])[w]:Nat):Int)=(L2[i]:Nat):=e4;omega
   have dneg:=decide_eq_false (Ω:¬((i:Nat):Int)<0);have hle:L2.length -(i+1 - i)=(L2.eraseIdx i).length:=by rw[List.length_eraseIdx_of_lt hi];omega
   have k186:∀id',lid<id'→EffVC Tryz.prog 186 [.vec lid L2.length 1,.val (.int .i64 (i:Nat)),.val (.int .i64 ((i:Nat)+1))] ((lid,.rows 3 1 n r2) ::(tid,.cells 167 (tlL n nb f (amx (cV f nb) n:Nat) (.mp mid) (100*nb) 0 0 0 0 (100*nb))) ::(mid,.map (qm true [.i .i64,.i .i64]) (uD f nb) (uG f nb)) :: rest) id' (fun hp' nid' res=>nid'=id'+60∧res=.vec lid (L2.length -(i+1 - i)) 1∧∃r,(∀x,x<n→r x 0=if L2.length -(i+1 - i)≤x∧x<L2.length then .val (.int .i64 0)else gI r2 i (i+1) (L2.length -(i+1)) x 0)∧hp'=setBlk ((lid,.rows 3 1 n r2) ::(tid,.cells 167 (tlL n nb f (amx (cV f nb) n:Nat) (.mp mid) (100*nb) 0 0 0 0 (100*nb))) ::(mid,.map (qm true [.i .i64,.i .i64]) (uD f nb) (uG f nb)) :: rest) lid (.rows 3 1 n r)):=fun id' h'=>by
    have:=qob ((lid,.rows 3 1 n r2) ::(tid,.cells 167 (tlL n nb f (amx (cV f nb) n:Nat) (.mp mid) (100*nb) 0 0 0 0 (100*nb))) ::(mid,.map (qm true [.i .i64,.i .i64]) (uD f nb) (uG f nb)) :: rest) id' lid L2.length n i (i+1) r2 Ω hLn2 Ω Ω Ω7 h' (fun x hx=>⟨_,hrw2 x hx⟩);rw[show(((i+1:Nat)):Int)=(i:Nat)+1 by omega]at this;exact this
   (repeat' (first|refine sD ?_ ?_<;>intro _|refine aAf ?_|(simp -dsimp only[↓RP,RQ,xa0,reduceIte,reduceCtorEq,xa1,xa2,xa3,xa4,hlt2,TYQ,TYP,NB,QS,hr0,TYR,QT,QN])))
   all_goals try exact Ωb
   refine qj (h169) (by simp only[SubL,qA,I,Go.Sx.Sub,blk,if_true,true_and,and_true];exact⟨hLn2,fun a b ha hb=>by(obtain rfl:b=0:=by omega);rw[hrw2 a ha,xc6,xc7 ha];rfl⟩) Ωa ?_;(repeat' (first|refine sD ?_ ?_<;>intro _|refine aAf ?_|(simp -dsimp only[↓RP,RQ,xa0,reduceIte,reduceCtorEq,xa1,xa2,xa3,xa4,QT,dneg,TYQ,TYP,NB,QS,hr0,TYR,QN])))
   all_goals try exact Ωb
   refine jh ΩA (k186 _ Ω) fun hp' nid2 res ⟨qa,qb,r',qc,qd⟩=>?_;rw[hle]at qb;subst qa qb qd;(repeat' (first|refine sD ?_ ?_<;>intro _|refine aAf ?_|(simp -dsimp only[↓RP,RQ,xa0,reduceIte,reduceCtorEq,xa1,xa2,xa3,xa4,setBlk,TYQ,TYP,NB,QS,hr0,TYR,QT,QN])))
   all_goals try exact Ωb
   refine⟨(w+1,L2.eraseIdx i,r',_),⟨hwl,qje hL2 (by rw[←hgr];exact hwl) hi hie,qmY rfl hi hLn2 hrw2 qc,?hz3,?hz4⟩,Ωe,weakSU (xa5 _) Ωf (SubHp.refl _)⟩
   case hz3=>dsimp only;omega
   case hz4=>dsimp only;omega
  ·obtain rfl:w=gr.length:=by omega
   have hlt2:=decide_eq_false (Ω:¬((gr.length:Nat):Int)<(gr.length:Nat));(repeat' (first|refine sD ?_ ?_<;>intro _|refine aAf ?_|(simp -dsimp only[↓RP,RQ,xa0,reduceIte,reduceCtorEq,xa1,xa2,xa3,xa4,hlt2,TYQ,TYP,NB,QS,hr0,TYR,QT,QN])))
   all_goals try exact Ωb
   refine⟨(g+1,L2,r2,_),⟨hgl,qfB (by rw[←hgr];exact hL2) hgl,hrw2,hLn2,?hz1⟩,Ωe,weakSU (xa5 _) Ωf (SubHp.refl _)⟩;dsimp only;omega
 ·obtain rfl:g=G.length:=by omega
  have hlt:=decide_eq_false (Ω:¬((G.length:Nat):Int)<(G.length:Nat));have hL0:L=[]:=by
   refine List.eq_nil_iff_forall_not_mem.2 fun x hx=>?_;have:=(hL.2 x).1 hx;rw[List.take_length]at this;exact this.2 (List.mem_append.2 (.inl ((hG3 x).2 this.1)))
  subst hL0;(repeat' (first|refine sD ?_ ?_<;>intro _|refine aAf ?_|(simp -dsimp only[↓RP,RQ,xa0,reduceIte,reduceCtorEq,xa1,xa2,xa3,xa4,hlt,TYQ,TYP,NB,QS,hr0,TYR,QT,QN])))
  all_goals try exact Ωb
  exact⟨_,_,_,j5 (fr':=[(0,_)]) ⟨.inr rfl,trivial⟩ (SubHp.skip (by simp only[blk];rw[if_neg Ω,if_neg Ω];exact hr.none Ω) (SubHp.refl _)),tid,mid,Ω,Ω,Ω,rfl,rfl⟩
end Go.Tn
end
section
namespace Go.Tn
open Go.Proofs
open Go.Sx
theorem qpn(a:Int):qf Tryz.prog 405 [I a] (B false):=by
 refine qg Tryz.func405 rfl Ωd follows Ωd _ _ (by rw[Tryz.ntmps405];simp) Ωg ?_;have NB:True:=trivial;have hr0:True:=trivial;unfold I B;(repeat' (first|refine sD ?_ ?_<;>intro _|refine aAf ?_|(simp -dsimp only[↓RP,RQ,xa0,reduceIte,reduceCtorEq,xa1,xa2,xa3,xa4,TYQ,TYP,NB,QS,hr0,TYR,QT,QN])))
 all_goals try exact Ωb
 all_goals (refine wu ?_;simp)
theorem qpo(a b:Int):qf Tryz.prog 389 [I a,I b] (B (decide (a<b))):=by
 refine qg Tryz.func389 rfl Ωd follows Ωd _ _ (by rw[Tryz.ntmps389];simp) Ωg ?_;have NB:True:=trivial;have hr0:True:=trivial;have h1:=qpn a;unfold I B;(repeat' (first|refine sD ?_ ?_<;>intro _|refine aAf ?_|(simp -dsimp only[↓RP,RQ,xa0,reduceIte,reduceCtorEq,xa1,xa2,xa3,xa4,TYQ,TYP,NB,QS,hr0,TYR,QT,QN])))
 all_goals try exact Ωb
 refine qj (h1) ΩW Ωa ?_;(repeat' (first|refine sD ?_ ?_<;>intro _|refine aAf ?_|(simp -dsimp only[↓RP,RQ,xa0,reduceIte,reduceCtorEq,xa1,xa2,xa3,xa4,QT,TYQ,TYP,NB,QS,hr0,TYR,QN])))
 all_goals try exact Ωb
theorem qpp(m:Nat)(u:Nat→Int)(h1:1≤m)(hm:m≤1000000)(hu:∀i,i+1<m→u i<u (i+1)):qf Tryz.prog 383 [qA m u,I 0,I m] (.tup []):=by
 refine qg Tryz.func383 rfl Ωd follows Ωd _ _ (by rw[Tryz.ntmps383];simp) Ωg ?_;have NB:True:=trivial;have hr0:True:=trivial;unfold qA I;(repeat' (first|refine sD ?_ ?_<;>intro _|refine aAf ?_|(simp -dsimp only[↓RP,RQ,xa0,reduceIte,reduceCtorEq,xa1,xa2,xa3,xa4,TYQ,TYP,NB,QS,hr0,TYR,QT,QN])))
 all_goals try exact Ωb
 refine qn (fun(w:Nat)=>1≤w∧w≤m) (fun w=>⟨[(0,.arr false false m 1 (fun i _=>.val (.int .i64 (u i)))),(1,.val (.int .i64 0)),(2,.val (.int .i64 (m:Nat))),(6,.val (.int .i64 (w:Nat)))],[],40+60*w⟩) (fun w=>m - w) 1 ⟨xa5 _,h1⟩ (weakSU Ω Ωf (SubHp.refl _)) fun w hw=>?_;obtain⟨hw1,hw⟩:=hw;by_cases hwm:w<m
 ·have hlt:=decide_eq_true (Ω:((w:Nat):Int)<(m:Nat))
  (repeat' (first|refine sD ?_ ?_<;>intro _|refine aAf ?_|(simp -dsimp only[↓RP,RQ,xa0,reduceIte,reduceCtorEq,xa1,xa2,xa3,xa4,hlt,TYQ,TYP,NB,QS,hr0,TYR,QT,QN])))
  all_goals try exact Ωb
  refine qn (fun(_:Unit)=>True) (fun _=>⟨[(0,.arr false false m 1 (fun i _=>.val (.int .i64 (u i)))),(1,.val (.int .i64 0)),(2,.val (.int .i64 (m:Nat))),(6,.val (.int .i64 (w:Nat))),(7,.val (.int .i64 (w:Nat)))],[],60+60*w⟩) (fun _=>0) () trivial (weakSU Ω Ωf (SubHp.refl _)) fun z hz=>?_;have dg:=decide_eq_true (Ω:(0:Int)<((w:Nat):Int));have hlt3:=hu (w - 1) Ω;rw[show w - 1+1=w by omega]at hlt3;have tn:Int.toNat ((w:Nat) - 1:Int)=w - 1:=by omega
  have dl:=decide_eq_false (Ω:¬u w<u (w - 1));have h389:=qpo (u w) (u (w - 1));rw[dl]at h389;(repeat' (first|refine sD ?_ ?_<;>intro _|refine aAf ?_|(simp -dsimp only[↓RP,RQ,xa0,reduceIte,reduceCtorEq,xa1,xa2,xa3,xa4,hlt,dg,tn,TYQ,TYP,NB,QS,hr0,TYR,QT,QN])))
  all_goals try exact Ωb
  refine qj (h389) ΩW Ωa ?_;(repeat' (first|refine sD ?_ ?_<;>intro _|refine aAf ?_|(simp -dsimp only[↓RP,RQ,xa0,reduceIte,reduceCtorEq,xa1,xa2,xa3,xa4,QT,TYQ,TYP,NB,QS,hr0,TYR,QN])))
  all_goals try exact Ωb
  refine⟨w+1,⟨Ω,hwm⟩,Ω,weakSU Ω Ωf (SubHp.refl _)⟩
 ·obtain rfl:m=w:=by omega
  have hlt:=decide_eq_false (Ω:¬((m:Nat):Int)<(m:Nat));(repeat' (first|refine sD ?_ ?_<;>intro _|refine aAf ?_|(simp -dsimp only[↓RP,RQ,xa0,reduceIte,reduceCtorEq,xa1,xa2,xa3,xa4,hlt,TYQ,TYP,NB,QS,hr0,TYR,QT,QN])))
  all_goals try exact Ωb
end Go.Tn
end
section
namespace Go.Tl
open Go.Proofs
open Go.Sx
theorem follows:Tryz.prog.follows .mixedOrders=true:=by kernel_rfl
theorem TYl:qq Tryz.prog 2=some { agg:=false,size:=1,zero:=some [Value.int IntKind.i64 (0)],d:=D.int IntKind.i64 }∧qq Tryz.prog 3=some { agg:=false,size:=1,zero:=some [Value.int IntKind.i64 (0)],d:=D.int IntKind.i64 }∧qq Tryz.prog 4=some { agg:=false,size:=1,zero:=some [Value.bool false],d:=D.bool }∧qq Tryz.prog 32=some { agg:=false,size:=1,zero:=some [Value.slice none 0 0],d:=D.slice 2 1 }∧qq Tryz.prog 43=some { agg:=false,size:=1,zero:=some [Value.slice none 0 0],d:=D.slice 32 1 }:=⟨Ωd,Ωd,Ωd,Ωd,Ωd⟩
theorem by2:qP Tryz.prog 2=8:=by kernel_rfl
def I(n:Int):SV:=.val (.int .i64 n)
def qA(n:Nat)(u:Nat→Int):SV:=.arr false false n 1 (fun i _=>.val (.int .i64 (u i)))
theorem jQ{a b:Int}(h:a=b):SV.val (Value.int IntKind.i64 a)=SV.val (Value.int IntKind.i64 b):=by rw[h]
def ga(f:Nat→Int):Nat→Int
 |0=>f 0
 |k+1=>min (ga f k) (f (k+1))
theorem Ji(f:Nat→Int):∀m k,k≤m→ga f m≤f k
 |0,k,h=>by
   have:k=0:=by omega
   subst this;exact Int.le_refl _
 |m+1,k,h=>by
  simp only[ga];by_cases e:k=m+1
  ·subst e;omega
  ·have:=Ji f m k Ω;omega
theorem Jj(f:Nat→Int):∀m,∃k,k≤m∧ga f m=f k
 |0=>⟨0,xa5 _,rfl⟩
 |m+1=>by
  obtain⟨k,hk,e⟩:=Jj f m;simp only[ga];by_cases h:f (m+1)≤ga f m
  ·exact⟨m+1,xa5 _,Ω⟩
  ·exact⟨k,Ω,Ω⟩
structure Curve where
 m:Nat
 u:Nat→Int
structure Curve.Fine(c:Curve):Prop where
 m1:1≤c.m
 m6:c.m≤6
 rg:∀i,i<c.m→0≤c.u i∧c.u i≤100
 up:∀i,i<c.m - 1→c.u i≤c.u (i+1)
theorem Curve.Fine.mono{c:Curve}(h:c.Fine):∀j i,i≤j→j<c.m→c.u i≤c.u j
 |0,i,hi,_=>by
   have:i=0:=by omega
   subst this;exact Int.le_refl _
 |j+1,i,hi,hj=>by
  by_cases e:i=j+1
  ·subst e;exact Int.le_refl _
  ·exact Int.le_trans (h.mono j i Ω Ω) (h.up j Ω)
def Curve.L1(c:Curve)(k:Nat):Int:=((k / c.m:Nat):Int)*c.u (c.m - 1)+(if 0<k % c.m then c.u (k % c.m - 1)else 0)
theorem qli(c:Curve):c.L1 0=0:=by unfold Curve.L1;simp
def Ls(C:Nat→Curve):Nat→Nat→Int
 |0=>(C 0).L1
 |i+1=>fun k=>ga (fun p=>Ls C i (k - p)+(C (i+1)).L1 p) k
theorem Ls_le(C:Nat→Curve)(i k p:Nat)(hp:p≤k):Ls C (i+1) k≤Ls C i (k - p)+(C (i+1)).L1 p:=
 Ji (fun p=>Ls C i (k - p)+(C (i+1)).L1 p) k p hp
theorem Ls_at(C:Nat→Curve)(i k:Nat):∃p,p≤k∧Ls C (i+1) k=Ls C i (k - p)+(C (i+1)).L1 p:=
 Jj (fun p=>Ls C i (k - p)+(C (i+1)).L1 p) k
def Curve.sv(c:Curve):SV:=qA c.m c.u
theorem Curve.old(c:Curve):Old c.sv:=by simp[Old,Curve.sv,qA]
theorem tdN(k m:Nat):(k:Int).tdiv (m:Int)=((k / m:Nat):Int):=rfl
theorem tmN(k m:Nat):(k:Int).tmod (m:Int)=((k % m:Nat):Int):=rfl
theorem qlX(c:Curve)(h:c.Fine)(k:Nat)(hk:k≤400):0≤((k / c.m:Nat):Int)*c.u (c.m - 1)∧((k / c.m:Nat):Int)*c.u (c.m - 1)≤40000:=by
 have h1:=h.m1;have h2:=h.rg (c.m - 1) Ω;have h3:k / c.m≤400:=xc1 (Nat.div_le_self _ _) hk;generalize k / c.m=q at h3 ⊢;have h4:((q:Nat):Int)*c.u (c.m - 1)≤((q:Nat):Int)*100:=Int.mul_le_mul_of_nonneg_left h2.2 Ω;have h5:0≤(q:Int)*c.u (c.m - 1):=Int.mul_nonneg Ω h2.1;omega
theorem qoh(c:Curve)(h:c.Fine)(k:Nat)(hk:k≤400):qf Tryz.prog 172 [c.sv,I k] (I (c.L1 k)):=by
 refine qg Tryz.func172 rfl Ωd follows Ωd _ _ (by rw[Tryz.ntmps172];simp) (by simp[OldL,c.old];simp[Old,I]) ?_;have h1:=h.m1;have h6:=h.m6;have hb:=qlX c h k hk;have e1:(c.m:Int) - 1=((c.m - 1:Nat):Int):=by omega
 have hr:=Nat.mod_lt k h1;have hq:k / c.m≤400:=xc1 (Nat.div_le_self _ _) hk;have eL:c.L1 k=((k / c.m:Nat):Int)*c.u (c.m - 1)+(if 0<k % c.m then c.u (k % c.m - 1)else 0):=rfl;rw[eL];have hd:=tdN k c.m;have hm:=tmN k c.m;generalize k / c.m=q at *;generalize k % c.m=r at *;unfold I
 conv=>arg 4;unfold Curve.sv qA
 by_cases h0:0<r
 ·have e2:(r:Int) - 1=((r - 1:Nat):Int):=by omega
  have hu:=h.rg (r - 1) Ω;rw[if_pos h0];(repeat' (first|refine sD ?_ ?_<;>intro _|refine aA ?_|simp -dsimp only[↓RP,RQ,implies_true,forall_const,xa0,reduceIte,reduceCtorEq,xa1,xa2,xa3,xa4,e1,e2,hd,hm,TYl,Int.toNat_natCast,Tryz.results172]))
  all_goals first|(exfalso;omega)|(first|exact True.intro|(simp only[InK];omega)|omega|(simp only[InK,ne_eq,and_true,true_and];omega)|trivial)|skip
 ·rw[if_neg h0]
  (repeat' (first|refine sD ?_ ?_<;>intro _|refine aA ?_|simp -dsimp only[↓RP,RQ,implies_true,forall_const,xa0,reduceIte,reduceCtorEq,xa1,xa2,xa3,xa4,e1,hd,hm,TYl,Int.toNat_natCast,Tryz.results172]))
  all_goals first|(exfalso;omega)|(refine jQ ?_;omega)|(first|exact True.intro|(simp only[InK];omega)|omega|(simp only[InK,ne_eq,and_true,true_and];omega)|trivial)|skip
def chn(n:Nat)(C:Nat→Curve):SV:=.arr false false n 1 (fun i _=>.arr false false (C i).m 1 (fun j _=>.val (.int .i64 ((C i).u j))))
theorem qlj(n:Nat)(C:Nat→Curve):Old (chn n C):=by simp[Old,chn]
theorem Zt(c:Curve)(h:c.Fine)(k:Nat)(hk:k≤400):0≤c.L1 k∧c.L1 k≤50000:=by
 have hb:=qlX c h k hk;have h1:=h.m1;have hr:=Nat.mod_lt k h1;unfold Curve.L1;split
 ·have:=h.rg (k % c.m - 1) Ω;omega
 ·omega
theorem qap(C:Nat→Curve):∀i,(∀j,j≤i→(C j).Fine)→∀k,k≤400→0≤Ls C i k∧Ls C i k≤50000
 |0,h,k,hk=>Zt _ (h 0 Ω) k hk
 |i+1,h,k,hk=>by
  obtain⟨p,hp,e⟩:=Ls_at C i k;have h1:=qap C i (fun j hj=>h j Ω);have h2:=Ls_le C i k 0 (xb6 _);rw[qli,Nat.sub_zero]at h2;have h3:=h1 (k - p) Ω;have h4:=h1 k hk;have h5:=Zt _ (h (i+1) Ω) p Ω;omega
def z1(f:Nat→Int)(k j:Nat):Int:=if j<k then f j else 0
theorem qdW(f:Nat→Int)(j:Nat):z1 f 0 j=0:=by unfold z1;rw[if_neg Ω]
theorem qjf(f:Nat→Int)(k a:Nat):(if a=k then SV.val (.int .i64 (f k))else .val (.int .i64 (z1 f k a)))=.val (.int .i64 (z1 f (k+1) a)):=by
 unfold z1;by_cases e:a=k
 ·subst e;rw[if_pos rfl,if_pos Ω]
 ·rw[if_neg e]
  by_cases h:a<k
  ·rw[if_pos h,if_pos Ω]
  ·rw[if_neg h,if_neg Ω]
theorem qjg(f:Nat→Int)(k a:Nat)(h:a<k):z1 f k a=f a:=by unfold z1;rw[if_pos h]
theorem qpq(last:Nat)(hl:last≤1000000)(f:FuncId)(first caps:List SV)(hf:OldL first)(hc:OldL caps)(g:Nat→Int)(hg:∀k,k≤last→qf Tryz.prog f (first++I k :: caps) (I (g k))) :
  qf Tryz.prog 179 [I last,.fn (.func f) first caps] (I (ga g last)):=by
 refine qg Tryz.func179 rfl Ωd follows Ωd _ _ (by rw[Tryz.ntmps179];simp) (by simp only[OldL,Old,I,hf,hc,and_self]) ?_;unfold I;(repeat' (first|refine sD ?_ ?_<;>intro _|refine aA ?_|simp -dsimp only[↓RP,RQ,implies_true,forall_const,xa0,reduceIte,reduceCtorEq,xa1,xa2,xa3,xa4,TYl,Tryz.results179]));refine vV (hg 0 (xb6 _)) (subL_refl _ (J0 hf hc)) ?_;(repeat' (first|refine sD ?_ ?_<;>intro _|refine aA ?_|simp -dsimp only[↓RP,RQ,implies_true,forall_const,xa0,reduceIte,reduceCtorEq,xa1,xa2,xa3,xa4,I,TYl,Tryz.results179]));refine qn (fun(k:Nat)=>k≤last) (fun k=>⟨[(0,.val (.int .i64 last)),(1,.fn (.func f) first caps),(5,.val (.int .i64 (ga g k))),(6,.val (.int .i64 ((k:Int)+1)))],[],0⟩) (fun k=>last - k) 0 (xb6 _) (gR [] [] ?_ ?_ ?_) fun k hk=>?_
 ·(simp -dsimp only[↓RP,RQ,implies_true,forall_const,xa0,reduceIte,reduceCtorEq,xa1,xa2,xa3,xa4,ga]);all_goals (try simp)
  exact⟨wkL_refl _ hf,wkL_refl _ hc⟩
 ·(simp -dsimp only[↓RP,RQ,implies_true,forall_const,xa0,reduceIte,reduceCtorEq,xa1,xa2,xa3,xa4])
 ·(simp -dsimp only[↓RP,RQ,implies_true,forall_const,xa0,reduceIte,reduceCtorEq,xa1,xa2,xa3,xa4])
 by_cases hlt:k<last
 ·have eP:(k:Int)+1=((k+1:Nat):Int):=by omega
  (repeat' (first|refine sD ?_ ?_<;>intro _|refine aA ?_|simp -dsimp only[↓RP,RQ,implies_true,forall_const,xa0,reduceIte,reduceCtorEq,xa1,xa2,xa3,xa4,eP,TYl,Tryz.results179]))
  all_goals first|(exfalso;omega)|skip
  refine vV (hg (k+1) hlt) (subL_refl _ (J0 hf hc)) ?_;(repeat' (first|refine sD ?_ ?_<;>intro _|refine aA ?_|simp -dsimp only[↓RP,RQ,implies_true,forall_const,xa0,reduceIte,reduceCtorEq,xa1,xa2,xa3,xa4,I,eP,TYl,Tryz.results179]))
  all_goals first|(exfalso;omega)|skip
  refine⟨k+1,hlt,Ω,gR [] [] ?_ ?_ ?_⟩
  ·(simp -dsimp only[↓RP,RQ,implies_true,forall_const,xa0,reduceIte,reduceCtorEq,xa1,xa2,xa3,xa4,ga]);all_goals (try simp)
   exact⟨wkL_refl _ hf,wkL_refl _ hc⟩
  ·(simp -dsimp only[↓RP,RQ,implies_true,forall_const,xa0,reduceIte,reduceCtorEq,xa1,xa2,xa3,xa4])
  ·(simp -dsimp only[↓RP,RQ,implies_true,forall_const,xa0,reduceIte,reduceCtorEq,xa1,xa2,xa3,xa4])
 ·have hke:k=last:=by omega
  subst hke;(repeat' (first|refine sD ?_ ?_<;>intro _|refine aA ?_|simp -dsimp only[↓RP,RQ,implies_true,forall_const,xa0,reduceIte,reduceCtorEq,xa1,xa2,xa3,xa4,TYl,Tryz.results179]))
  all_goals first|(exfalso;omega)|skip
theorem qpr(N:Nat)(f:Nat→Int)(c:Curve)(h:c.Fine)(k p:Nat)(hk:k<N)(hN:N≤401)(hp:p≤k)(hf:∀j,j≤k→0≤f j∧f j≤1000000) :
  qf Tryz.prog 284 [I p,.ref false 1 (fun _=>qA N f),.ref false 1 (fun _=>I k),.ref false 1 (fun _=>c.sv)] (I (f (k - p)+c.L1 p)):=by
 refine qg Tryz.func284 rfl Ωd follows Ωd _ _ (by rw[Tryz.ntmps284];simp) (by simp only[OldL,Old,c.old,I];simp[Old,qA]) ?_;have b1:=Zt c h p Ω;have b2:=hf (k - p) Ω;have er:(k:Int) -(p:Int)=((k - p:Nat):Int):=by omega
 unfold I
 conv=>arg 4;unfold Curve.sv qA
 (repeat' (first|refine sD ?_ ?_<;>intro _|refine aA ?_|simp -dsimp only[↓RP,RQ,implies_true,forall_const,xa0,reduceIte,reduceCtorEq,xa1,xa2,xa3,xa4,er,TYl,Int.toNat_natCast,Tryz.results284]))
 all_goals first|(exfalso;omega)|skip
 refine qj (qoh c h p Ω) (by(simp -dsimp only[↓RP,RQ,implies_true,forall_const,xa0,reduceIte,reduceCtorEq,xa1,xa2,xa3,xa4,Curve.sv,qA,I]);all_goals simp) Ωt ?_;(repeat' (first|refine sD ?_ ?_<;>intro _|refine aA ?_|simp -dsimp only[↓RP,RQ,implies_true,forall_const,xa0,reduceIte,reduceCtorEq,xa1,xa2,xa3,xa4,I,er,TYl,Int.toNat_natCast,Tryz.results284]))
 all_goals (first|exact True.intro|(simp only[InK];omega)|omega|(simp only[InK,ne_eq,and_true,true_and];omega)|trivial)
theorem c178(n:Nat)(C:Nat→Curve)(n1:1≤n)(n3:n≤3)(hC:∀i,i<n→(C i).Fine)(turns:Nat)(ht:turns≤400):zx Tryz.prog 178 [chn n C,I turns] (.rows 2 1 (turns+1) (fun j _=>I (Ls C (n - 1) j))) (.vec 0 (turns+1) 1):=by
 refine jp Tryz.func178 rfl Ωd follows Ωd _ _ _ (by rw[Tryz.ntmps178];simp) (by simp only[OldL,qlj,Old,I,and_self]) ?_;unfold I
 conv=>arg 4;unfold chn Curve.sv qA
 have eT:((turns:Int)+1).toNat=turns+1:=by omega
 (repeat' (first|refine sD ?_ ?_<;>intro _|refine aA ?_|simp -dsimp only[↓RP,RQ,implies_true,forall_const,xa0,reduceIte,reduceCtorEq,xa1,xa2,xa3,xa4,eT,by2,TYl,Int.toNat_natCast,Tryz.results178]));have eN:((n:Int) - 1).toNat=n - 1:=by omega
 refine qn (fun(k:Nat)=>k≤turns+1) (fun k=>⟨[(0,.arr false false n 1 (fun i _=>.arr false false (C i).m 1 (fun j _=>.val (.int .i64 ((C i).u j))))),(1,.val (.int .i64 turns)),(5,.ptr 61 0),(15,.val (.int .i64 ((turns+1:Nat):Int))),(16,.val (.int .i64 k))],[(61,.cells 32 [.vec 60 (turns+1) 1]),(60,.rows 2 1 (turns+1) (fun j _=>.val (.int .i64 (z1 (C 0).L1 k j))))],62⟩) (fun k=>turns+1 - k) 0 (xb6 _) (gR [(61,some 4),(60,some 3)] [] ?_ ?_ ?_) fun k hk=>?_
 ·(simp -dsimp only[↓RP,RQ,implies_true,forall_const,xa0,reduceIte,reduceCtorEq,xa1,xa2,xa3,xa4]);all_goals simp
 ·(simp -dsimp only[↓RP,RQ,implies_true,forall_const,xa0,reduceIte,reduceCtorEq,xa1,xa2,xa3,xa4,qdW]);all_goals (try simp)
 ·(simp -dsimp only[↓RP,RQ,implies_true,forall_const,xa0,reduceIte,reduceCtorEq,xa1,xa2,xa3,xa4]);all_goals simp
 by_cases hlt:k<turns+1
 ·have hL:=Zt (C 0) (hC 0 Ω) k Ω
  (repeat' (first|refine sD ?_ ?_<;>intro _|refine aA ?_|simp -dsimp only[↓RP,RQ,implies_true,forall_const,xa0,reduceIte,reduceCtorEq,xa1,xa2,xa3,xa4,I,eT,eN,by2,TYl,Int.toNat_natCast,Tryz.results178]))
  all_goals first|(exfalso;omega)|skip
  refine qj (qoh (C 0) (hC 0 Ω) k Ω) (by(simp -dsimp only[↓RP,RQ,implies_true,forall_const,xa0,reduceIte,reduceCtorEq,xa1,xa2,xa3,xa4,Curve.sv,qA,I]);all_goals simp) Ωt ?_;(repeat' (first|refine sD ?_ ?_<;>intro _|refine aA ?_|simp -dsimp only[↓RP,RQ,implies_true,forall_const,xa0,reduceIte,reduceCtorEq,xa1,xa2,xa3,xa4,I,eT,eN,by2,TYl,Int.toNat_natCast,Tryz.results178]))
  all_goals first|(exfalso;omega)|skip
  refine⟨k+1,Ω,Ω,gR [] [] ?_ ?_ ?_⟩
  ·(simp -dsimp only[↓RP,RQ,implies_true,forall_const,xa0,reduceIte,reduceCtorEq,xa1,xa2,xa3,xa4]);all_goals simp
  ·(simp -dsimp only[↓RP,RQ,implies_true,forall_const,xa0,reduceIte,reduceCtorEq,xa1,xa2,xa3,xa4]);all_goals (try simp)
   exact fun a ha=>qjf (C 0).L1 k a
  ·(simp -dsimp only[↓RP,RQ,implies_true,forall_const,xa0,reduceIte,reduceCtorEq,xa1,xa2,xa3,xa4]);all_goals simp
 ·have hke:k=turns+1:=by omega
  subst hke;(repeat' (first|refine sD ?_ ?_<;>intro _|refine aA ?_|simp -dsimp only[↓RP,RQ,implies_true,forall_const,xa0,reduceIte,reduceCtorEq,xa1,xa2,xa3,xa4,I,eT,eN,by2,TYl,Int.toNat_natCast,Tryz.results178]))
  all_goals first|(exfalso;omega)|skip
  refine qn (fun(i:Nat)=>i<n) (fun i=>⟨[(0,.arr false false n 1 (fun i _=>.arr false false (C i).m 1 (fun j _=>.val (.int .i64 ((C i).u j))))),(1,.val (.int .i64 turns)),(5,.ptr 61 0),(29,.arr false false (n - 1) 1 (fun i _=>.arr false false (C (1+i)).m 1 (fun j _=>.val (.int .i64 ((C (1+i)).u j))))),(30,.val (.int .i64 ((n - 1:Nat):Int))),(31,.val (.int .i64 i))],[(61,.cells 32 [.vec 60 (turns+1) 1]),(60,.rows 2 1 (turns+1) (fun j _=>.val (.int .i64 (Ls C i j))))],62⟩) (fun i=>n - i) 0 n1 (gR [] [] ?_ ?_ ?_) fun i hi=>?_
  ·(simp -dsimp only[↓RP,RQ,implies_true,forall_const,xa0,reduceIte,reduceCtorEq,xa1,xa2,xa3,xa4]);all_goals simp
  ·(simp -dsimp only[↓RP,RQ,implies_true,forall_const,xa0,reduceIte,reduceCtorEq,xa1,xa2,xa3,xa4]);all_goals (try simp)
   exact fun a ha=>qjg (C 0).L1 (turns+1) a ha
  ·(simp -dsimp only[↓RP,RQ,implies_true,forall_const,xa0,reduceIte,reduceCtorEq,xa1,xa2,xa3,xa4]);all_goals simp
  by_cases hin:i+1<n
  ·have e1i:1+i=i+1:=by omega
   (repeat' (first|refine sD ?_ ?_<;>intro _|refine aA ?_|simp -dsimp only[↓RP,RQ,implies_true,forall_const,xa0,reduceIte,reduceCtorEq,xa1,xa2,xa3,xa4,I,eT,eN,by2,TYl,Int.toNat_natCast,Tryz.results178]))
   all_goals first|(exfalso;omega)|skip
   refine qn (fun(k:Nat)=>k≤turns+1) (fun k=>⟨[(0,.arr false false n 1 (fun i _=>.arr false false (C i).m 1 (fun j _=>.val (.int .i64 ((C i).u j))))),(1,.val (.int .i64 turns)),(5,.ptr 61 0),(29,.arr false false (n - 1) 1 (fun i _=>.arr false false (C (1+i)).m 1 (fun j _=>.val (.int .i64 ((C (1+i)).u j))))),(30,.val (.int .i64 ((n - 1:Nat):Int))),(31,.val (.int .i64 i)),(8,.ptr 62 0),(9,.vec 90 (turns+1) 1),(39,.val (.int .i64 ((turns+1:Nat):Int))),(40,.val (.int .i64 k))],[(90,.rows 2 1 (turns+1) (fun j _=>.val (.int .i64 (z1 (Ls C (i+1)) k j)))),(62,.cells 32 [.arr false false (C (1+i)).m 1 (fun j _=>.val (.int .i64 ((C (1+i)).u j)))]),(61,.cells 32 [.vec 60 (turns+1) 1]),(60,.rows 2 1 (turns+1) (fun j _=>.val (.int .i64 (Ls C i j))))],91⟩) (fun k=>turns+1 - k) 0 (xb6 _) (gR [(90,some 69),(62,some 65)] [] ?_ ?_ ?_) fun k hk=>?_
   ·(simp -dsimp only[↓RP,RQ,implies_true,forall_const,xa0,reduceIte,reduceCtorEq,xa1,xa2,xa3,xa4]);all_goals simp
   ·(simp -dsimp only[↓RP,RQ,implies_true,forall_const,xa0,reduceIte,reduceCtorEq,xa1,xa2,xa3,xa4,qdW]);all_goals (try simp)
   ·(simp -dsimp only[↓RP,RQ,implies_true,forall_const,xa0,reduceIte,reduceCtorEq,xa1,xa2,xa3,xa4]);all_goals simp
   by_cases hlt:k<turns+1
   ·(repeat' (first|refine sD ?_ ?_<;>intro _|refine aA ?_|simp -dsimp only[↓RP,RQ,implies_true,forall_const,xa0,reduceIte,reduceCtorEq,xa1,xa2,xa3,xa4,I,eT,eN,by2,TYl,Int.toNat_natCast,Tryz.results178]))
    all_goals first|(exfalso;omega)|skip
    refine qj (qpq k Ω 284 [] [.ref false 1 (fun _=>qA (turns+1) (Ls C i)),.ref false 1 (fun _=>I k),.ref false 1 (fun _=>(C (1+i)).sv)] trivial (by simp[OldL,Old,Curve.sv,qA,I]) (fun p=>Ls C i (k - p)+(C (1+i)).L1 p) fun p hp=>qpr (turns+1) (Ls C i) (C (1+i)) (hC (1+i) Ω) k p hlt Ω hp fun j hj=>?_) ?_ Ωt ?_
    ·have:=qap C i (fun j hj=>hC j Ω) j Ω;omega
    ·(simp -dsimp only[↓RP,RQ,implies_true,forall_const,xa0,reduceIte,reduceCtorEq,xa1,xa2,xa3,xa4,Curve.sv,qA,I]);all_goals (try simp)
     refine⟨?_,?_⟩
     ·(simp -dsimp only[↓RP,RQ,implies_true,forall_const,xa0,reduceIte,reduceCtorEq,xa1,xa2,xa3,xa4]);all_goals simp
     ·(simp -dsimp only[↓RP,RQ,implies_true,forall_const,xa0,reduceIte,reduceCtorEq,xa1,xa2,xa3,xa4]);all_goals simp
    have eF:ga (fun p=>Ls C i (k - p)+(C (1+i)).L1 p) k=Ls C (i+1) k:=by rw[e1i];rfl
    (repeat' (first|refine sD ?_ ?_<;>intro _|refine aA ?_|simp -dsimp only[↓RP,RQ,implies_true,forall_const,xa0,reduceIte,reduceCtorEq,xa1,xa2,xa3,xa4,eF,I,eT,eN,by2,TYl,Int.toNat_natCast,Tryz.results178]))
    all_goals first|(exfalso;omega)|skip
    refine⟨k+1,Ω,Ω,gR [] [] ?_ ?_ ?_⟩
    ·(simp -dsimp only[↓RP,RQ,implies_true,forall_const,xa0,reduceIte,reduceCtorEq,xa1,xa2,xa3,xa4]);all_goals simp
    ·(simp -dsimp only[↓RP,RQ,implies_true,forall_const,xa0,reduceIte,reduceCtorEq,xa1,xa2,xa3,xa4]);all_goals (try simp)
     exact fun a ha=>qjf (Ls C (i+1)) k a
    ·(simp -dsimp only[↓RP,RQ,implies_true,forall_const,xa0,reduceIte,reduceCtorEq,xa1,xa2,xa3,xa4]);all_goals simp
   ·have hke:k=turns+1:=by omega
    subst hke;(repeat' (first|refine sD ?_ ?_<;>intro _|refine aA ?_|simp -dsimp only[↓RP,RQ,implies_true,forall_const,xa0,reduceIte,reduceCtorEq,xa1,xa2,xa3,xa4,I,eT,eN,by2,TYl,Int.toNat_natCast,Tryz.results178]))
    all_goals first|(exfalso;omega)|skip
    refine⟨i+1,hin,Ω,gR [(60,some 90)] [] ?_ ?_ ?_⟩
    ·(simp -dsimp only[↓RP,RQ,implies_true,forall_const,xa0,reduceIte,reduceCtorEq,xa1,xa2,xa3,xa4]);all_goals simp
    ·(simp -dsimp only[↓RP,RQ,implies_true,forall_const,xa0,reduceIte,reduceCtorEq,xa1,xa2,xa3,xa4]);all_goals (try simp)
     exact fun a ha=>qjg (Ls C (i+1)) (turns+1) a ha
    ·(simp -dsimp only[↓RP,RQ,implies_true,forall_const,xa0,reduceIte,reduceCtorEq,xa1,xa2,xa3,xa4]);all_goals simp
  ·have hie:i=n - 1:=by omega
   (repeat' (first|refine sD ?_ ?_<;>intro _|refine aA ?_|simp -dsimp only[↓RP,RQ,implies_true,forall_const,xa0,reduceIte,reduceCtorEq,xa1,xa2,xa3,xa4,I,eT,eN,by2,TYl,Int.toNat_natCast,Tryz.results178]))
   all_goals first|(exfalso;omega)|skip
   refine⟨60,_,rfl,?_,?_⟩
   ·(simp -dsimp only[↓RP,RQ,implies_true,forall_const,xa0,reduceIte,reduceCtorEq,xa1,xa2,xa3,xa4,I,hie]);all_goals simp
   ·(simp -dsimp only[↓RP,RQ,implies_true,forall_const,xa0,reduceIte,reduceCtorEq,xa1,xa2,xa3,xa4])
end Go.Tl
end
section
namespace Go.Sx
open Go.Proofs
noncomputable section
def cvU(i:Nat):Int:=Nat.rec 0 (fun j _=>Nat.rec 2 (fun _ _=>4) j) i
def cvB:Go.Tl.Curve:=⟨3,cvU⟩
theorem qaq:cvB.Fine:=⟨Ωr,Ωr,fun i hi=>by
 have hi:i<3:=hi
 match i,hi with
 |0,_=>decide
 |1,_=>decide
 |2,_=>decide,fun i hi=>by
 have hi:i<2:=hi
 match i,hi with
 |0,_=>decide
 |1,_=>decide⟩
def gB(k:Nat):Nat:=4*(k / 3) - Bool.rec 0 2 (Nat.beq (k % 3) 0)
theorem Jk(k:Nat):cvB.L1 k=((4*(k / 3)+(if k % 3=2 then 2 else 0):Nat):Int):=by
 unfold Go.Tl.Curve.L1;show((k / 3:Nat):Int)*4+(if 0<k % 3 then cvU (k % 3 - 1)else 0)=_;have:k % 3=0∨k % 3=1∨k % 3=2:=by omega
 rcases this with h|h|h
 ·rw[h];simp;omega
 ·have e:cvU 0=0:=rfl
  rw[h];simp[e];omega
 ·have e:cvU 1=2:=rfl
  rw[h];simp[e];omega
theorem qlY(k:Nat):gB k=if k % 3=0 then 4*(k / 3) - 2 else 4*(k / 3):=by
 unfold gB;by_cases h:k % 3=0
 ·rw[if_pos h,h];rfl
 ·rw[if_neg h]
  have:Nat.beq (k % 3) 0=false:=by cases e:Nat.beq (k % 3) 0 with
   |false=>rfl
   |true=>exact absurd (xa6 e) h
  rw[this];rfl
theorem qoi(k:Nat):Go.Tl.Ls (fun _=>cvB) 1 k=(gB k:Int):=by
 have h1:∀p,p≤k→(gB k:Int)≤cvB.L1 (k - p)+cvB.L1 p:=fun p hp=>by
  rw[Jk,Jk,qlY];split<;>split<;>split<;>omega
 have h2:Go.Tl.Ls (fun _=>cvB) 1 k≤(gB k:Int):=by
  cases k with
  |zero=>decide
  |succ k=>
   have:=Go.Tl.Ls_le (fun _=>cvB) 0 (k+1) 1 Ω;refine Int.le_trans this ?_;show cvB.L1 (k+1 - 1)+cvB.L1 1≤_;rw[Jk,Jk,qlY];split<;>split<;>split<;>omega
 obtain⟨p,hp,e⟩:=Go.Tl.Ls_at (fun _=>cvB) 0 k;have h3:=h1 p hp;have e:Go.Tl.Ls (fun _=>cvB) 1 k=cvB.L1 (k - p)+cvB.L1 p:=e;omega
def qar(j _:Nat):SV:=.val (.int .i64 (.ofNat (gB j)))
def lsN:Nat×List SV×(TypeId×Nat×Nat×List SV×SV):=(178,[Go.Tl.chn 2 (fun _=>cvB),Go.Tl.I 360],(2,1,361,ww qar 1 361,.vec 0 361 1))
theorem qna:qhn Tryz.prog 178 [Go.Tl.chn 2 (fun _=>cvB),Go.Tl.I 360] 2 1 361 (ww qar 1 361) (.vec 0 361 1):=by
 refine⟨qar,?_,g9 _ _ _,by simp[FreshO],by simp[FreshB,Fresh,qar]⟩;have h:=Go.Tl.c178 2 (fun _=>cvB) Ω Ω (fun _ _=>qaq) 360 Ω;have e:(fun j (_:Nat)=>Go.Tl.I (Go.Tl.Ls (fun _=>cvB) (2 - 1) j))=qar:=by
  funext j _;show SV.val (.int .i64 (Go.Tl.Ls (fun _=>cvB) 1 j))=_;rw[qoi];rfl
 rw[e]at h;exact h
def g1B(k:Nat):Nat:=Nat.add (4*(k / 3)) (Bool.rec 0 2 (Nat.beq (k % 3) 2))
theorem qnb(k:Nat):cvB.L1 k=(g1B k:Int):=by
 rw[Jk];unfold g1B
 congr 1
 show _=4*(k / 3)+_
 congr 1
 by_cases h:k % 3=2
 ·rw[if_pos h,h];rfl
 ·rw[if_neg h]
  have:Nat.beq (k % 3) 2=false:=by cases e:Nat.beq (k % 3) 2 with
   |false=>rfl
   |true=>exact absurd (xa6 e) h
  rw[this]
def qas(j _:Nat):SV:=.val (.int .i64 (.ofNat (g1B j)))
def l1N:Nat×List SV×(TypeId×Nat×Nat×List SV×SV):=(178,[Go.Tl.chn 1 (fun _=>cvB),Go.Tl.I 360],(2,1,361,ww qas 1 361,.vec 0 361 1))
theorem qnc:qhn Tryz.prog 178 [Go.Tl.chn 1 (fun _=>cvB),Go.Tl.I 360] 2 1 361 (ww qas 1 361) (.vec 0 361 1):=by
 refine⟨qas,?_,g9 _ _ _,by simp[FreshO],by simp[FreshB,Fresh,qas]⟩;have h:=Go.Tl.c178 1 (fun _=>cvB) Ω Ω (fun _ _=>qaq) 360 Ω;have e:(fun j (_:Nat)=>Go.Tl.I (Go.Tl.Ls (fun _=>cvB) (1 - 1) j))=qas:=by
  funext j _;show SV.val (.int .i64 (cvB.L1 j))=_;rw[qnb];rfl
 rw[e]at h;exact h
end
end Go.Sx
end
section
namespace Go.Sx
noncomputable section
def wI(n:Int):SV:=.val (.int .i64 n)
def qoj(l:List Int):Nat→Int:=List.rec (fun _=>0) (fun a _ ih i=>Nat.rec a (fun j _=>ih j) i) l
def liN(o:Bool)(n:Nat)(l:List Int):SV:=.arr o false n 1 (fun i _=>.val (.int .i64 (qoj l i)))
def liA:SV:=liN false 3 [3,4,4]
def liB:SV:=liN false 3 [0,2,4]
def ch1:SV:=.arr false false 1 1 (fun _ _=>liB)
def ch2:SV:=.arr false false 2 1 (fun _ _=>liB)
def cW:Nat×List SV×SV:=(22,[liA,ch2],.tup [wI 4,wI 0])
def cL:Nat×List SV×SV:=(23,[liA,ch1],.tup [wI 2,wI 0])
def cB:Nat×List SV×SV:=(147,[liA,ch1],.tup [liN true 3 [4,5,7],wI 0])
end
end Go.Sx
end
section
namespace Go.Sx
noncomputable section
def hJ:SV:=.agg [liN false 3 [2,3,6]]
def z3:SV:=liN false 3 [0,0,0]
def qps(l:List (List Int)):Nat→List Int:=List.rec (fun _=>[]) (fun a _ ih i=>Nat.rec a (fun j _=>ih j) i) l
def dSt:List (List Int):=[[0,0,0],[0,1,1],[1,0,1],[1,1,0],[0,2,2],[1,0,2],[1,2,0],[0,1,2],[2,0,2],[2,1,0],[0,2,1],[2,0,1],[2,2,0],[0,3,3],[1,0,3],[1,3,0],[0,1,3],[2,0,3],[0,3,1],[2,3,0],[0,2,3],[0,3,2],[0,1,4],[2,0,4],[0,2,4],[1,0,4],[0,3,4],[0,2,5],[1,0,5],[0,3,5],[0,1,5],[2,0,5],[0,3,6],[1,0,6],[0,1,6],[2,0,6],[0,2,6]]
def dLf:List Int:=[9,7,7,8,5,6,2,6,1,1,7,1,1,1,4,1,5,1,1,1,5,1,3,1,3,4,1,2,2,1,3,1,1,1,1,1,1]
def dJ:SV:=.arr true false 37 2 (fun i j=>Nat.rec (liN true 3 (qps dSt i)) (fun _ _=>wI (qoj dLf i)) j)
def c13J:Nat×List SV×SV:=(13,[hJ],.tup [.val (.slice none 0 0),wI 17])
def c135J:Nat×List SV×SV:=(135,[hJ,z3],.tup [dJ,wI 0])
def c138J:Nat×List SV×SV:=(138,[hJ,z3],.tup [liN true 8 [2,0,1,0,1,0,2,0],wI 0])
def qlZ:Nat×List SV×SV:=(170,[liN false 0 []],liN true 0 [])
end
end Go.Sx
end
