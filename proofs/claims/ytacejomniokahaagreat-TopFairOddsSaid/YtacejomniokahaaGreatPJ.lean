/- A part of the proof. -/
import Derived.Test.YtacejomniokahaaGreatProg
import Derived.Test.YtacejomniokahaaGreatPI
import Derived.Test.YtacejomniokahaaGreatPE
import Derived.Test.YtacejomniokahaaGreatPC
open Nat renaming reduceMul→xa0,reduceAdd→xa1,reduceEqDiff→xa2,reduceLT→xa3,reduceLeDiff→xa4,le_refl→xa5,eq_of_beq_eq_true→xa6,le_of_ble_eq_true→xa7,mul_le_mul_right→xa8,lt_of_lt_of_le→xa9,zero_add→xb0,add_zero→xb1,add_assoc→xb2,lt_irrefl→xb4,zero_le→xb6,sub_self→xb8,le_trans→xc1,le_succ→xc4
open List renaming getD_eq_getElem?_getD→xc6,getElem?_eq_getElem→xc7,length_append→xc8,getElem?_append_left→xc9,getElem?_append_right→xd0,length_singleton→xd1,mem_cons_self→xd5,getElem?_cons_zero→xd6,getElem?_cons_succ→xd7,length_replicate→xd8,length_take→xd9,length_map→xe1,getElem?_toArray→xe2,length_cons→xe4
open Bool renaming and_eq_true→xe6,false_eq_true→xe7
open Array renaming getD_eq_getD_getElem?→xf5,getElem?_toList→xf6
open Option renaming map_some→xg1
set_option linter.unusedVariables false
set_option linter.unusedSimpArgs false
set_option linter.defProp false
set_option maxRecDepth 1000000
set_option maxHeartbeats 16000000
section
namespace Go.Sx
open Go.RowKit
noncomputable section
variable{P:Program}{g:Nat}{fn:Func}{L:FL}
variable{ρ:Q}
def okB (L : FL) (fn : Func) : Bool := !(fn.name == "runtime.NumGoroutine") && (match fn.body with | some c => qJ (qV L) fn.ntmps c | none => false)
theorem fnX(h:P.funcs[g]? = some fn)(ho:okB L fn=true):∃c,qkj P g fn L c:=by
 unfold okB at ho;simp only[xe6,Bool.not_eq_true']at ho;obtain⟨h1,h2⟩:=ho;cases hb:fn.body with
 |none=>rw[hb]at h2;cases h2
 |some c=>rw[hb]at h2;exact⟨c,⟨h,hb,h1,h2⟩⟩
abbrev FT:=List (Option FL)
def jJ{α:Type}(l:List (Option α)):Nat→Option α:=List.rec (λ_=>none) (λa _ ih i=>Nat.rec a (λj _=>ih j) i) l
def qqU(fn:Option Func)(L:FL):Option (Func×FL):=Option.rec none (λfn=>some (fn,L)) fn
def okT(P:Program)(l:FT):Nat→Bool:=List.rec (λ_=>true) (λa _ ih i=>Bool.rec false (qj (Nat.succ i) λi=>ih i) (Option.rec true (λL=>Option.rec false (λfn=>okB L fn) (P.funcs[i]?)) a)) l
theorem JV{P:Program}:∀{l:FT}{i j:Nat}{L:FL}{fn:Func},okT P l i=true→jJ l j=some L→P.funcs[i+j]? = some fn→okB L fn=true
 |[],i,j,L,fn,h,hj,hf=>by cases hj
 |a :: l,i,j,L,fn,h,hj,hf=>by
  have h:(Bool.rec false (qj (Nat.succ i) λi=>okT P l i) (Option.rec true (λL=>Option.rec false (λfn=>okB L fn) (P.funcs[i]?)) a):Bool)=true:=h;rw[qe]at h;cases q:(Option.rec true (λL=>Option.rec false (λfn=>okB L fn) (P.funcs[i]?)) a:Bool)with
  |false=>rw[q]at h;cases h
  |true=>
   rw[q]at h;cases j with
   |zero=>
    have hj:a=some L:=hj
    simp_all
   |succ j=>exact JV (l:=l) (i:=i+1) (j:=j) h hj (by rw[show i+1+j=i+(j+1) by omega];exact hf)
def qpq(P:Program)(t:TypeId):Option (TypeId×Nat×List Value):=
 match qk P t with
 |some ⟨_,_,_,.slice e k⟩=>(match qk P e with
  |some ⟨_,_,some z,_⟩=>Bool.rec none (some (e,k,z)) (Nat.ble 1 k&&(Nat.beq z.length k&&Nat.ble (qE P e) 100000000))
  |_=>none)
 |_=>none
def qfi:List (Nat×Nat×Sh)→Nat→Option (Nat×Sh)
 |[],_=>none
 |(h,x) :: l,g=>Bool.rec (qfi l g) (some x) (Nat.beq g h)
def qkX(P:Program):List (Nat×Nat×Sh)→Prop
 |[]=>True
 |(h,n,i) :: l=>KJ P h n i∧qkX P l
theorem qbs{P:Program}:∀{pl:List (Nat×Nat×Sh)},qkX P pl→∀g n i,qfi pl g=some (n,i)→KJ P g n i
 |[],_,g,n,i,h=>by cases h
 |(h0,n0,i0) :: l,hp,g,n,i,h=>by
  have h:(Bool.rec (qfi l g) (some (n0,i0)) (Nat.beq g h0):Option (Nat×Sh))=some (n,i):=h;cases e:Nat.beq g h0 with
  |true=>rw[e]at h;have h:=Option.some.inj h;cases h;rw[xa6 e];exact hp.1
  |false=>rw[e]at h;exact qbs hp.2 g n i h
theorem Gu(h:∀v:Value,qb P g [.val v] (.val v)):KJ P g 1 (.one 0):=by
 refine⟨(h undef).1,λw vs hv _=>?_⟩;refine((h (vs.getD 0 undef)).2 (λ_=>True) w vs hv λi sv hi=>?_).mono λe w'=>?_
 ·cases i with
  |zero=>simp only[xd6,Option.some.injEq]at hi;subst hi;exact .val _
  |succ i=>simp at hi
 ·rintro⟨v,rfl,hb,hr⟩
  cases hr;exact⟨rfl,hb⟩
theorem qne {P : Program} {g n : Nat} {l : List Nat} (hf : ∃ fn, P.funcs[g]? = some fn ∧ (fn.name == "runtime.NumGoroutine") = false ∧ fn.body.isSome = true) (h : ∀ vs : Array Value, n = vs.size → (∀ i, i ∈ l → (vs.getD i undef).oneCell' = true) → qb P g (vs.toList.map .val) (.agg (l.map λi => .val (vs.getD i undef)))) : KJ P g n (.ag l) := by
 refine⟨hf,λw vs hv ho=>?_⟩;refine((h vs hv ho).2 (λ_=>True) w vs Ωj λi sv hi=>?_).mono λe w'=>?_
 ·rw[List.getElem?_map,xf6]at hi
  cases e:vs[i]? with
  |none=>rw[e]at hi;cases hi
  |some v=>
   rw[e]at hi;cases hi;rw[xf5,e];exact .val _
 ·rintro⟨v,rfl,hb,hr⟩
  cases hr with
  |agg _ cs hl hr=>
  refine⟨?_,hb⟩
  congr 1
  unfold Sh.val
  congr 1
  refine Array.ext (by simpa using hl.symm) λi h1 h2=>?_;have h3:i<l.length:=by simpa using h2
  have hi:=hr i (.val (vs.getD l[i] undef)) (by rw[List.getElem?_map,xc7 h3];rfl);have e:cs.getD i undef=cs[i]:=by rw[xf5,Array.getElem?_eq_getElem h1];rfl
  rw[e]at hi;have e2:(l.map λi=>vs.getD i undef).toArray[i]=vs.getD l[i] undef:=by simp
  rw[e2];generalize cs[i]=z at hi;cases hi;rfl
structure XP:Type where
 fl:FT
 pl:List (Nat×Nat×Sh)
 ol:List (Nat×(List SV→Tr 6 XB→Nat→(SV→Tr 6 XB→Nat→R)→R))
 cl:List (Nat×List SV×SV)
 nl:List (Nat×List SV×(TypeId×Nat×Nat×List SV×SV))
def qfj:List (Nat×(List SV→Tr 6 XB→Nat→(SV→Tr 6 XB→Nat→R)→R))→Nat→Option (List SV→Tr 6 XB→Nat→(SV→Tr 6 XB→Nat→R)→R)
 |[],_=>none
 |(h,f) :: l,g=>Bool.rec (qfj l g) (some f) (Nat.beq g h)
def Wa:List (Nat×List SV×SV)→Nat→List (List SV×SV)
 |[],_=>[]
 |(h,x) :: l,g=>Bool.rec (Wa l g) (x :: Wa l g) (Nat.beq g h)
def Wb:List (Nat×List SV×(TypeId×Nat×Nat×List SV×SV))→Nat→List (List SV×(TypeId×Nat×Nat×List SV×SV))
 |[],_=>[]
 |(h,x) :: l,g=>Bool.rec (Wb l g) (x :: Wb l g) (Nat.beq g h)
def qdl(P:Program):List (Nat×List SV×(TypeId×Nat×Nat×List SV×SV))→Prop
 |[]=>True
 |(h,qq_,t,k,n,m,s) :: l=>qiN P h qq_ t k n m s∧qdl P l
def qdm(P:Program):List (Nat×(List SV→Tr 6 XB→Nat→(SV→Tr 6 XB→Nat→R)→R))→Prop
 |[]=>True
 |(h,f) :: l=>Qu P h f∧qdm P l
def qdn(P:Program):List (Nat×List SV×SV)→Prop
 |[]=>True
 |(h,qq_,s) :: l=>qb P h qq_ s∧qdn P l
theorem qbt{P:Program}:∀{l:List (Nat×(List SV→Tr 6 XB→Nat→(SV→Tr 6 XB→Nat→R)→R))},qdm P l→∀g f,qfj l g=some f→Qu P g f
 |[],_,g,f,h=>by cases h
 |(h0,f0) :: l,hp,g,f,h=>by
  have h:(Bool.rec (qfj l g) (some f0) (Nat.beq g h0):Option _)=some f:=h;cases e:Nat.beq g h0 with
  |true=>rw[e]at h;have h:=Option.some.inj h;cases h;rw[xa6 e];exact hp.1
  |false=>rw[e]at h;exact qbt hp.2 g f h
theorem JW{P:Program}:∀{l:List (Nat×List SV×SV)},qdn P l→∀g qq_ s,(qq_,s)∈Wa l g→qb P g qq_ s
 |[],_,g,qq_,s,h=>by cases h
 |(h0,as0,s0) :: l,hp,g,qq_,s,h=>by
  have h:(qq_,s)∈(Bool.rec (Wa l g) ((as0,s0) :: Wa l g) (Nat.beq g h0):List (List SV×SV)):=h;cases e:Nat.beq g h0 with
  |true=>
   rw[e]at h;rcases List.mem_cons.1 h with h|h
   ·cases h;rw[xa6 e];exact hp.1
   ·exact JW hp.2 g qq_ s h
  |false=>rw[e]at h;exact JW hp.2 g qq_ s h
theorem JX{P:Program}:∀{l:List (Nat×List SV×(TypeId×Nat×Nat×List SV×SV))},qdl P l→∀g qq_ t k n m s,(qq_,(t,k,n,m,s))∈Wb l g→qiN P g qq_ t k n m s
 |[],_,g,qq_,t,k,n,m,s,h=>by cases h
 |(h0,as0,t0,k0,n0,m0,s0) :: l,hp,g,qq_,t,k,n,m,s,h=>by
  have h:(qq_,(t,k,n,m,s))∈(Bool.rec (Wb l g) ((as0,(t0,k0,n0,m0,s0)) :: Wb l g) (Nat.beq g h0):List (List SV×(TypeId×Nat×Nat×List SV×SV))):=h;cases e:Nat.beq g h0 with
  |true=>
   rw[e]at h;rcases List.mem_cons.1 h with h|h
   ·cases h;rw[xa6 e];exact hp.1
   ·exact JX hp.2 g qq_ t k n m s h
  |false=>rw[e]at h;exact JX hp.2 g qq_ t k n m s h
def qkY(P:Program)(t:TypeId):Bool:=
 match P.underlying t with
 |some .string=>true
 |_=>false
theorem qkZ(P:Program)(t:TypeId)(h:qkY P t=true):P.underlying t=some .string:=by
 unfold qkY at h;split at h
 ·omega
 ·cases h
def Za(P:Program)(X:XP):XE:=⟨λg=>Option.rec none (λL=>qqU P.funcs[g]? L) (jJ X.fl g),qk P,qw P,zE P,qpq P,qD P,qfi X.pl,qkY P,qfj X.ol,Wa X.cl,Wb X.nl⟩
structure qgX(P:Program)(X:XP):Prop where
 fl:okT P X.fl 0=true
 pl:qkX P X.pl
 ol:qdm P X.ol
 cl:qdn P X.cl
 nl:qdl P X.nl
theorem JY(P:Program)(X:XP)(hk:okT P X.fl 0=true):wQ P (Za P X):=λg fn L h=>by
 have h:(Option.rec none (λL=>qqU P.funcs[g]? L) (jJ X.fl g):Option (Func×FL))=some (fn,L):=h;cases e:jJ X.fl g with
 |none=>rw[e]at h;cases h
 |some L0=>
  rw[e]at h;cases hf:P.funcs[g]? with
  |none=>rw[hf]at h;cases h
  |some f=>
   rw[hf]at h;have h:some (f,L0)=some (fn,L):=h;cases h;exact fnX hf (JV hk e (by rw[xb0];exact hf))
theorem Yw(P:Program)(X:XP)(hX:qgX P X):XOk P (Za P X):=⟨λ_ _ h=>h,λ_ _ h=>h,λ_ _ h=>h,qbs hX.pl,qkZ P,qbt hX.ol,JW hX.cl,JX hX.nl,λ_ _ h=>h,λt e k z h=>by
 have h:qpq P t=some (e,k,z):=h;unfold qpq at h;split at h
 ·rename_i h1
  split at h
  ·rename_i h2
   generalize hb:(Nat.ble 1 _&&(Nat.beq _ _&&Nat.ble _ 100000000))=b at h;cases b with
   |false=>cases h
   |true=>
    (simp_all;omega)
  ·cases h
 ·cases h⟩
theorem vC(hm:P.follows .mixedOrders=true){X:XP}(hX:qgX P X)(hg:P.funcs[g]? = some fn)(hL:jJ X.fl g=some L)(n:Nat)(h:vB (ZY (Za P X) n fn L [] yB)=true):qb P g [] (.val (.bool true)):=by
 obtain⟨c,hc⟩:=fnX hg (JV hX.fl hL (by rw[xb0];exact hg));obtain⟨q,h⟩:=qbr h;exact wR hm (Yw P X hX) (JY P X hX.fl) hc (xb6 _) (args:=[]) trivial qdk n h
theorem gW(hm:P.follows .mixedOrders=true){X:XP}(hX:qgX P X)(hg:P.funcs[g]? = some fn)(hL:jJ X.fl g=some L)(n:Nat){args:List SV}(hl:args.length≤fn.ntmps)(ho:OldL args){res:SV}(h:vB (ZY (Za P X) n fn L args (ZX res))=true):qb P g args res:=by
 obtain⟨c,hc⟩:=fnX hg (JV hX.fl hL (by rw[xb0];exact hg));obtain⟨q,h⟩:=qbr h;exact wR hm (Yw P X hX) (JY P X hX.fl) hc hl ho qgW n h
end
end Go.Sx
end
section
namespace Go.Sx
open Go.RowKit
noncomputable section
def ZZ(t:Tr 4 Nat)(l:List Nat):Nat:=List.rec (motive:=λ_=>Nat→Nat) (λm=>m) (λa _ ih m=>Option.rec 0 (λx=>Nat.rec 0 (λy _=>qj (Nat.max m (Nat.succ x)) λm=>ih m) x) (t.find a)) l 1
def Yx(l:List (List Nat)):Nat→Tr 4 Nat→(Tr 4 Nat→Nat→R)→Nat→R:=List.rec (motive:=λ_=>Nat→Tr 4 Nat→(Tr 4 Nat→Nat→R)→Nat→R) (λ_ t f c=>f t c) (λa _ ih i t f c=>qj (Nat.succ i) λi1=>Option.rec (.bad 452 0) (λx=>Nat.rec (qj (ZZ t a) λm=>Nat.rec (ih i1 t f c) (λ_ _=>qj (Nat.succ c) λc=>zl (some m) 22 t i λt=>ih i1 t f c) m) (λ_ _=>ih i1 t f c) x) (t.find i)) l
def qpr(l:List (List Nat))(n:Nat):Tr 4 Nat→(Tr 4 Nat→R)→R:=Nat.rec (motive:=λ_=>Tr 4 Nat→(Tr 4 Nat→R)→R) (λ_ _=>.bad 453 0) (λ_ ih t f=>Yx l 0 t (λt c=>Nat.rec (f t) (λ_ _=>ih t f) c) 0) n
def qdo(l:List (List Nat)):Nat→Tr 4 Nat→(Tr 4 Nat→R)→R:=List.rec (motive:=λ_=>Nat→Tr 4 Nat→(Tr 4 Nat→R)→R) (λ_ t f=>f t) (λ_ _ ih i t f=>zl (some 0) 22 t i λt=>qj (Nat.succ i) λi=>ih i t f) l
def qgY(x:Nat):SV:=Nat.rec (.val (.int .i64 (.negSucc 0))) (λy _=>.val (.int .i64 (.ofNat y))) x
def qfk(t:Tr 4 Nat)(l:List (List Nat)):Nat→(List SV→R)→R:=List.rec (motive:=λ_=>Nat→(List SV→R)→R) (λ_ f=>f []) (λ_ _ ih i f=>qj (Nat.succ i) λi1=>Option.rec (.bad 454 0) (λx=>qj x λx=>ih i1 λm=>f (qgY x :: m)) (t.find i)) l
def qgZ(k:Value):Nat:=match k with
 |.agg c=>(match c.toList with
  |[_,_,_,_,_,.int _ (.ofNat n)]=>n
  |_=>0)
 |_=>0
def qfl(t:Tr 4 Nat)(es:List (Value×Option SV))(f:List (Value×Option SV)→R):R:=(List.rec (motive:=λ_=>(List (Value×Option SV)→R)→R) (λf=>f []) (λp _ ih f=>qj (qgZ p.1) λi=>Option.rec (.bad 455 0) (λx=>Nat.rec (ih λl=>f (p :: l)) (λ_ _=>ih f) x) (t.find i)) es) f
end
end Go.Sx
end
section
namespace Go.Sx
theorem KG{hp:List (Nat×Blk)}{m:Nat→Option Nat}{nn:Nat}{sl:Nat→Bool}:∀{l:List SV},(∀(i:Nat) sv,l[i]? = some sv→Wk hp m nn sl sv sv)→WkL hp m nn sl l l
 |[],_=>by simp[WkL]
 |a :: l,h=>by
  unfold WkL;exact⟨h 0 a rfl,KG λi sv e=>h (i+1) sv e⟩
theorem wg{hp:List (Nat×Blk)}{m:Nat→Option Nat}{nn n0:Nat}{sl:Nat→Bool}(hm:∀i,i<n0→m i=some i)(hn:n0≤nn){r:Nat→Option Nat}{G:Bool→Nat→Prop}{w:World}{sv:SV}{v:Value}(h:Rep r (· < n0) G w sv v):Wk hp m nn sl sv sv:=by
 have key:∀id,id<n0→id<nn∧m id=some id:=λid h=>⟨xa9 h hn,hm id h⟩
 induction h with
 |top v=>simp[Wk]
 |val v=>simp[Wk]
 |agg l cs hl h ih=>unfold Wk;exact KG ih
 |tup l cs hl h ih=>unfold Wk;exact KG ih
 |fn f l k cs ds hl hm' h h' ih ih'=>unfold Wk;exact⟨rfl,KG ih,KG ih'⟩
 |ptr id off b hN hr=>unfold Wk;exact⟨(key id hN).1,(key id hN).2,rfl⟩
 |elt id k i j b hN hr=>unfold Wk;exact⟨(key id hN).1,(key id hN).2,rfl,rfl,rfl⟩
 |ref o n row b off f hG hc h ih=>unfold Wk;exact⟨λh=>h,xa5 _,ih⟩
 |arrNil o full k row a cap hf=>unfold Wk;exact⟨λh=>h,λh=>h,rfl,rfl,λi j hi=>by omega⟩
 |arr o full n k row b off cap f hG hf hcap hc h ih=>unfold Wk;exact⟨λh=>h,λh=>h,rfl,rfl,ih⟩
 |vecNil id k hN hr=>unfold Wk;exact⟨(key id hN).1,(key id hN).2,rfl,rfl⟩
 |vec id n k b cap cs t hN hr=>unfold Wk;exact⟨(key id hN).1,(key id hN).2,rfl,rfl⟩
 |mp id b hN hr=>unfold Wk;exact key id hN
 |asl id off n k b cap hN hr hcap=>unfold Wk;exact⟨(key id hN).1,(key id hN).2,rfl,rfl,rfl⟩
 |queNil id off k a hN=>unfold Wk;exact⟨(key id hN).1,(key id hN).2,rfl,rfl,rfl⟩
 |que id off n k b cap cs t hN hr=>unfold Wk;exact⟨(key id hN).1,(key id hN).2,rfl,rfl,rfl⟩
 |cutNil id k hN hr=>unfold Wk;exact⟨(key id hN).1,(key id hN).2,rfl,rfl⟩
 |cut id n k b hN hr=>unfold Wk;exact⟨(key id hN).1,(key id hN).2,rfl,rfl⟩
 |cmp o fit dom get b es clock hG hb hmo h ih=>
  unfold Wk;refine⟨λh=>h,rfl,rfl,λk hk=>?_⟩;obtain⟨e,he,rfl⟩:=hmo.has k hk;exact ih e he
 |yld id b hN hr=>unfold Wk;exact key id hN
theorem qdp{hp:List (Nat×Blk)}{m:Nat→Option Nat}{nn n0:Nat}{sl:Nat→Bool}(hm:∀i,i<n0→m i=some i)(hn:n0≤nn){r:Nat→Option Nat}{G:Bool→Nat→Prop}{w:World}{ob:Option Nat}{x:Blk}(h:BlkRep r (· < n0) G w ob x):WkB hp m nn sl x x:=by
 cases h with
 |cells t l b cs hb hl h=>exact⟨rfl,KG λi sv e=>wg hm hn (h i sv e)⟩
 |none t k row=>exact⟨rfl,rfl,xa5 _,λi j hi=>by omega⟩
 |rows t k n row b cs hb hl h=>exact⟨rfl,rfl,xa5 _,λi j hi hj=>wg hm hn (h i j hi hj)⟩
 |map fit dom get b es clock hb hmo ht h=>
  refine⟨rfl,rfl,λk hk=>?_⟩;obtain⟨e,he,rfl⟩:=hmo.has k hk;exact wg hm hn (h e he)
 |mapS fit dom get stamp b es clock hb hmo ht hst h=>
  refine⟨rfl,rfl,rfl,rfl,λk hk=>?_⟩;obtain⟨e,he,rfl⟩:=hmo.has k hk;exact wg hm hn (h e he)
 |iter mid since seen last b m' hN hr hb=>exact⟨xa9 hN hn,hm _ hN,rfl,rfl,rfl⟩
 |loop L s b hb=>exact⟨rfl,rfl⟩
theorem JZ{P:Program}{O:Ctx}{f:FuncId}{args:List SV}{st:St}{K0 K:St→SV→Prop}(h:kW P O f args st K0)
  (hk:∀st' sv,(∀hp bid n,st.nid≤n→∀id y,blk st.hp id=some y→WkB hp (ren [(st.nid,some bid)]) n (λ_=>false) y y)→K0 st' sv→
   ∃bid hp2 sv2 n,st'.fr=st.fr∧st.nid≤bid∧(∀id x,blk hp2 id=some x→((id<st.nid∧blk st'.hp id=some x)∨(id=st.nid∧blk st'.hp bid=some x∧st.nid+1≤n))∧WkB st'.hp (ren [(st.nid,some bid)]) n (λ_=>false) x x)∧
    Wk st'.hp (ren [(st.nid,some bid)]) n (λ_=>false) sv2 sv∧st.nid≤n∧K ⟨st.fr,hp2,n⟩ sv2):kW P O f args st K:=λbase okc ns r outs a w vs h1 h2 h3=>by
 obtain⟨e1,e2⟩:=h base okc ns r outs a w vs h1 h2 h3;have rn:∀(bid i:Nat),i<st.nid→ren [(st.nid,some bid)] i=some i:=λbid i hi=>by simp only[ren];rw[if_neg Ω]
 refine⟨e1,e2.mono λe w' ⟨v,st',r',res,g1,g2,g3,g4,g5⟩=>?_⟩;obtain⟨bid,hp2,sv2,n,k1,k2,k3,k6,k7,k8⟩:=hk _ _ (λhp bid n hn id y hy=>qdp (rn bid) hn (h1.sat.rep id y hy (h1.keys id y hy))) g2;have rn:=rn bid;have rn0:ren [(st.nid,some bid)] st.nid=some bid:=by simp[ren]
 have W:=qaj (st':=⟨st.fr,hp2,n⟩) (ren [(st.nid,some bid)]) (λ_=>false) (λi=>by rw[k1];exact wg rn k7 (h1.fr i)) (λid x hx=>by
  obtain⟨⟨hlt,hx⟩|⟨rfl,hx,hn⟩,hw⟩:=k3 id x hx
  ·grind
  ·rw[rn0]
   refine⟨(by show st.nid<n;omega),rfl,?_⟩;rw[hx];exact hw) (λid x id' x' y hx hx' hy hy'=>by
  obtain⟨⟨hlt,hx⟩|⟨rfl,hx,hn⟩,hw⟩:=k3 id x hx<;>obtain⟨⟨hlt',hx'⟩|⟨rfl,hx',hn'⟩,hw'⟩:=k3 id' x' hx'
  ·simp_all
  ·grind
  ·grind
  ·rfl) (xc1 h1.lo k7) (λid hid=>rn id (xa9 hid h1.lo)) g4
 exact⟨v,_,_,sv2,g1,k8,k7,W.1,W.2 _ _ _ k6 g5⟩
end Go.Sx
end
section
namespace Go.Sx
open Go.Proofs
open Go.RowKit Go.Tn
noncomputable section
variable{ρ:Q}
theorem Wc:∀(l:List (List Nat))(i:Nat)(t:Tr 4 Nat)(f:Tr 4 Nat→R),qdo l i t f=.ok ρ→∃t',f t'=.ok ρ
 |[],i,t,f,h=>⟨t,h⟩
 |a :: l,i,t,f,h=>by
  have h:zl (some 0) 22 t i (λt=>qj (Nat.succ i) λi=>qdo l i t f)=.ok ρ:=h;obtain⟨t1,_,h⟩:=qH _ _ _ _ h;rw[qe]at h;exact Wc l _ _ f h
theorem Gv:∀(l:List (List Nat))(i:Nat)(t:Tr 4 Nat)(f:Tr 4 Nat→Nat→R)(c:Nat),Yx l i t f c=.ok ρ→∃t' c',f t' c'=.ok ρ
 |[],i,t,f,c,h=>⟨t,c,h⟩
 |a :: l,i,t,f,c,h=>by
  have h:qj (Nat.succ i) (λi1=>Option.rec (.bad 452 0) (λx=>Nat.rec (qj (ZZ t a) λm=>Nat.rec (Yx l i1 t f c) (λ_ _=>qj (Nat.succ c) λc=>zl (some m) 22 t i λt=>Yx l i1 t f c) m) (λ_ _=>Yx l i1 t f c) x) (t.find i))=(.ok ρ:R):=h;rw[qe]at h;generalize t.find i=o at h;cases o with
  |none=>cases h
  |some x=>
   cases x with
   |succ y=>exact Gv l _ _ f _ h
   |zero=>
    have h:qj (ZZ t a) (λm=>Nat.rec (Yx l (Nat.succ i) t f c) (λ_ _=>qj (Nat.succ c) λc=>zl (some m) 22 t i λt=>Yx l (Nat.succ i) t f c) m)=(.ok ρ:R):=h;rw[qe]at h;generalize ZZ t a=m at h;cases m with
    |zero=>exact Gv l _ _ f _ h
    |succ m=>
     have h:qj (Nat.succ c) (λc=>zl (some (m+1)) 22 t i λt=>Yx l (Nat.succ i) t f c)=(.ok ρ:R):=h;rw[qe]at h;obtain⟨t1,_,h⟩:=qH _ _ _ _ h;exact Gv l _ _ f _ h
theorem qfm(l:List (List Nat)):∀(n:Nat)(t:Tr 4 Nat)(f:Tr 4 Nat→R),qpr l n t f=.ok ρ→∃t',f t'=.ok ρ
 |0,t,f,h=>by cases h
 |n+1,t,f,h=>by
  have h:Yx l 0 t (λt c=>Nat.rec (f t) (λ_ _=>qpr l n t f) c) 0=(.ok ρ:R):=h;obtain⟨t',c',h⟩:=Gv _ _ _ _ _ h;cases c' with
  |zero=>exact⟨t',h⟩
  |succ c=>exact qfm l n _ f h
def Vt(x:Nat):Int:=(x:Int) - 1
theorem qnf(x:Nat):qgY x=.val (.int .i64 (Vt x)):=by
 cases x with
 |zero=>rfl
 |succ y=>
  show SV.val (.int .i64 (Int.ofNat y))=_;have e:Vt (y+1)=Int.ofNat y:=by unfold Vt;show((y+1:Nat):Int) - 1=(y:Int);omega
  rw[e]
def FF(t:Tr 4 Nat)(i:Nat):Int:=Vt ((t.find i).getD 0)
def Yy(t:Tr 4 Nat)(l:List Nat)(m:Nat):Nat:=List.rec (motive:=λ_=>Nat→Nat) (λm=>m) (λa _ ih m=>Option.rec 0 (λx=>Nat.rec 0 (λy _=>qj (Nat.max m (Nat.succ x)) λm=>ih m) x) (t.find a)) l m
theorem qps(t:Tr 4 Nat)(l:List Nat):ZZ t l=Yy t l 1:=rfl
theorem We(t:Tr 4 Nat)(a:Nat)(l:List Nat)(m:Nat):Yy t (a :: l) m=if 0≤FF t a then Yy t l (max m ((FF t a).toNat+2))else 0:=by
 show(Option.rec 0 (λx=>Nat.rec 0 (λy _=>qj (Nat.max m (Nat.succ x)) λm=>Yy t l m) x) (t.find a):Nat)=_;unfold FF Vt;generalize t.find a=o;cases o with
 |none=>rw[if_neg Ωq]
 |some x=>
  cases x with
  |zero=>rw[if_neg Ωq];rfl
  |succ y=>
   rw[if_pos (by show(0:Int)≤((y+1:Nat):Int) - 1;omega)];show qj (Nat.max m (y+1+1)) (λm=>Yy t l m)=_;rw[qe]
   simp_all
theorem Wf(t:Tr 4 Nat):∀(l:List Nat)(m:Nat),(∃a,a∈l∧FF t a<0)→Yy t l m=0
 |[],m,⟨a,h,_⟩=>by cases h
 |b :: l,m,⟨a,h,hn⟩=>by
  rw[We];split
  ·rename_i h0
   rcases List.mem_cons.1 h with rfl|h
   ·omega
   ·exact Wf t l _ ⟨a,h,hn⟩
  ·rfl
theorem Wg(t:Tr 4 Nat):∀(l:List Nat)(m:Nat),(∀a,a∈l→0≤FF t a)→m≤Yy t l m∧(∀a,a∈l→FF t a+2≤Yy t l m)∧∀X:Nat,m≤X→(∀a,a∈l→FF t a+2≤X)→Yy t l m≤X
 |[],m,_=>⟨xa5 _,λa h=>ΩZ,λX h _=>h⟩
 |b :: l,m,h=>by
  have h0:=h b xd5;rw[We,if_pos h0];have⟨h1,h2,h3⟩:=Wg t l (max m ((FF t b).toNat+2)) λa ha=>h a (List.mem_cons_of_mem _ ha);refine⟨Ω,λa ha=>?_,λX hX hA=>h3 X ?_ λa ha=>hA a (List.mem_cons_of_mem _ ha)⟩
  ·grind
  ·grind
theorem Yz{F:Nat→Int}{to:Nat→Nat}{X:Int}(hX:0≤X):∀{m:Nat},(∀j,j<m→F (to j)+1≤X)→mxF F to m≤X
 |0,_=>hX
 |m+1,h=>by
  have h1:=Yz hX (m:=m) λj hj=>h j Ω;have h2:=h m Ω;rw[ZK];omega
theorem qfn{F:Nat→Int}{to:Nat→Nat}:∀{m:Nat},0≤mxF F to m
 |0=>Int.le_refl _
 |m+1=>by have:=qfn (F:=F) (to:=to) (m:=m);rw[ZK];omega
theorem qbu{t:Tr 4 Nat}{l:List Nat}{i:Nat}(h:(t.find i).getD 0=ZZ t l):(0≤FF t i↔∀j,j<l.length→0≤FF t (l.getD j 0))∧(0≤FF t i→FF t i=mxF (FF t) (λj=>l.getD j 0) l.length):=by
 have hF:FF t i=(ZZ t l:Int) - 1:=by unfold FF Vt;rw[h]
 rw[qps]at hF;have mem:∀j,j<l.length→l.getD j 0∈l:=λj hj=>by
  simp_all
 have idx:∀a,a∈l→∃j,j<l.length∧l.getD j 0=a:=λa ha=>by
  obtain⟨j,hj,e⟩:=List.getElem_of_mem ha
  grind
 by_cases hA:∀a,a∈l→0≤FF t a
 ·have⟨h1,h2,h3⟩:=Wg t l 1 hA
  refine⟨⟨λ_ j hj=>hA _ (mem j hj),λ_=>by omega⟩,λ_=>?_⟩;have le1:mxF (FF t) (λj=>l.getD j 0) l.length≤FF t i:=Yz Ω λj hj=>by
   grind
  have hm0:=qfn (F:=FF t) (to:=λj=>l.getD j 0) (m:=l.length);have le2:=h3 (mxF (FF t) (λj=>l.getD j 0) l.length+1).toNat Ω λa ha=>by
   obtain⟨j,hj,e⟩:=idx a ha;have:=qjm (F:=FF t) (to:=λj=>l.getD j 0) hj
   grind
  omega
 ·have hn:∃a,a∈l∧FF t a<0:=by
   simp_all
  have e:=Wf t l 1 hn
  grind
def ltK(N:Nat)(l:List Nat)(r:R):R:=List.rec r (λa _ ih=>qg 480 (Nat.ble (Nat.succ a) N) ih) l
theorem YA{N:Nat}{r:R}:∀{l:List Nat},ltK N l r=.ok ρ→r=.ok ρ∧∀a,a∈l→a<N
 |[],h=>⟨h,λa ha=>by cases ha⟩
 |a :: l,h=>by
  have h:qg 480 (Nat.ble (Nat.succ a) N) (ltK N l r)=.ok ρ:=h;obtain⟨h1,h⟩:=qa h;obtain⟨h2,h3⟩:=YA h;(simp_all;omega)
def qng(t:Tr 4 Nat)(N:Nat)(L:List (List Nat))(i:Nat)(r:R):R:=List.rec (motive:=λ_=>Nat→R) (λ_=>r) (λa _ ih i=>qj (ZZ t a) λm=>qg 481 (Nat.ble m 1000000) (Option.rec (.bad 482 0) (λx=>qg 483 (Nat.beq x m) (ltK N a (qj (Nat.succ i) λi=>ih i))) (t.find i))) L i
theorem qfo{t:Tr 4 Nat}{N:Nat}{r:R}:∀{L:List (List Nat)}{i:Nat},qng t N L i r=.ok ρ→r=.ok ρ∧∀j,j<L.length→(t.find (i+j)).getD 0=ZZ t (L.getD j [])∧ZZ t (L.getD j [])≤1000000∧∀a,a∈L.getD j []→a<N
 |[],i,h=>⟨h,λj hj=>by cases hj⟩
 |a :: L,i,h=>by
  have h:qj (ZZ t a) (λm=>qg 481 (Nat.ble m 1000000) (Option.rec (.bad 482 0) (λx=>qg 483 (Nat.beq x m) (ltK N a (qj (Nat.succ i) λi=>qng t N L i r))) (t.find i)))=(.ok ρ:R):=h;rw[qe]at h;obtain⟨h1,h⟩:=qa h;cases hf:t.find i with
  |none=>rw[hf]at h;cases h
  |some x=>
   rw[hf]at h;have h:qg 483 (Nat.beq x (ZZ t a)) (ltK N a (qj (Nat.succ i) λi=>qng t N L i r))=.ok ρ:=h;obtain⟨h2,h⟩:=qa h;obtain⟨h,h3⟩:=YA h;rw[qe]at h;obtain⟨h,h4⟩:=qfo h;refine⟨h,λj hj=>?_⟩;cases j with
   |zero=>exact⟨by rw[xb1,hf];exact xa6 h2,xa7 h1,h3⟩
   |succ j=>
    grind
theorem qbv{t:Tr 4 Nat}:∀{L:List (List Nat)}{i:Nat}{f:List SV→R},qfk t L i f=.ok ρ→∃m,f m=.ok ρ∧m.length=L.length∧∀j,j<L.length→m.getD j .top=.val (.int .i64 (FF t (i+j)))
 |[],i,f,h=>⟨[],h,rfl,λj hj=>by cases hj⟩
 |a :: L,i,f,h=>by
  have h:qj (Nat.succ i) (λi1=>Option.rec (.bad 454 0) (λx=>qj x λx=>qfk t L i1 λm=>f (qgY x :: m)) (t.find i))=(.ok ρ:R):=h;rw[qe]at h;cases hf:t.find i with
  |none=>rw[hf]at h;cases h
  |some x=>
   rw[hf]at h;have h:qj x (λx=>qfk t L (Nat.succ i) λm=>f (qgY x :: m))=(.ok ρ:R):=h;rw[qe]at h;obtain⟨m,h1,h2,h3⟩:=qbv h;refine⟨qgY x :: m,h1,by simp[h2],λj hj=>?_⟩;cases j with
   |zero=>
    show qgY x=_;rw[qnf,xb1];unfold FF;rw[hf];rfl
   |succ j=>
    show m.getD j .top=_
    grind
theorem J0{t:Tr 4 Nat}:∀{es:List (Value×Option SV)}{f:List (Value×Option SV)→R},qfl t es f=.ok ρ→f (es.filter λp=>decide ((t.find (qgZ p.1)).getD 0=0))=.ok ρ
 |[],f,h=>h
 |p :: es,f,h=>by
  have h:qj (qgZ p.1) (λi=>Option.rec (.bad 455 0) (λx=>Nat.rec (qfl t es λl=>f (p :: l)) (λ_ _=>qfl t es f) x) (t.find i))=(.ok ρ:R):=h;rw[qe]at h;cases hf:t.find (qgZ p.1)with
  |none=>rw[hf]at h;cases h
  |some x=>
   rw[hf]at h;cases x with
   |zero=>
    have h:=J0 (f:=λl=>f (p :: l)) h
    simp_all
   |succ y=>
    have h:=J0 (f:=f) h
    simp_all
def qbw(l:List SV)(f:List Nat→R):R:=(List.rec (motive:=λ_=>(List Nat→R)→R) (λf=>f []) (λa _ ih f=>match a with
 |.val (.int .i64 (.ofNat n))=>ih λl=>f (n :: l)
 |_=>.bad 484 0) l) f
theorem Z0:∀{l:List SV}{f:List Nat→R},qbw l f=.ok ρ→∃m,f m=.ok ρ∧m.length=l.length∧∀j,j<l.length→l.getD j .top=.val (.int .i64 (m.getD j 0:Nat))
 |[],f,h=>⟨[],h,rfl,λj hj=>by cases hj⟩
 |a :: l,f,h=>by
  have h:(match (generalizing:=false) a with
   |.val (.int .i64 (.ofNat n))=>qbw l λl=>f (n :: l)
   |_=>.bad 484 0)=(.ok ρ:R):=h
  split at h
  ·rename_i n _
   obtain⟨m,h1,h2,h3⟩:=Z0 h;refine⟨n :: m,h1,by simp[h2],λj hj=>?_⟩;cases j with
   |zero=>rfl
   |succ j=>exact h3 j (Nat.lt_of_succ_lt_succ hj)
  ·cases h
def qfp(hp:Tr 6 XB)(rid:Nat)(a:SV)(g:List Nat→R):R:=match a with
 |.val (.slice none 0 0)=>g []
 |.vec xi n 1=>(match hp.find xi with
  |some (.rows 3 1 n' l)=>qg 485 (Nat.beq n n') (qg 486 (Nat.ble n 5) (qg 487 (Bool.not (Nat.beq xi rid)) (qbw l g)))
  |_=>.bad 488 0)
 |_=>.bad 489 0
theorem qla{hp:Tr 6 XB}{rid:Nat}{a:SV}{g:List Nat→R}(h:qfp hp rid a g=.ok ρ):∃m,g m=.ok ρ∧((a=.val (.slice none 0 0)∧m=[])∨∃xi n l,a=.vec xi n 1∧n≤5∧xi≠rid∧hp.find xi=some (.rows 3 1 n l)∧m.length=l.length∧∀j,j<l.length→l.getD j .top=.val (.int .i64 (m.getD j 0:Nat))):=by
 unfold qfp at h;split at h
 ·simp_all
 ·rename_i xi n
  split at h
  ·rename_i n' l hf
   obtain⟨h1,h⟩:=qa h;obtain⟨h2,h⟩:=qa h;obtain⟨h3,h⟩:=qa h;obtain⟨m,h4,h5,h6⟩:=Z0 h;have e:=xa6 h1;subst e;refine⟨m,h4,.inr ⟨xi,n,l,rfl,xa7 h2,λe=>?_,hf,h5,h6⟩⟩
   simp_all
  ·cases h
 ·cases h
def J2(hp:Tr 6 XB)(rid:Nat)(xs:List SV)(f:List (List Nat)→R):R:=(List.rec (motive:=λ_=>(List (List Nat)→R)→R) (λf=>f []) (λa _ ih f=>qfp hp rid a λx=>ih λl=>f (x :: l)) xs) f
theorem Qf{hp:Tr 6 XB}{rid:Nat}:∀{xs:List SV}{f:List (List Nat)→R},J2 hp rid xs f=.ok ρ→∃L,f L=.ok ρ∧L.length=xs.length∧∀i,i<xs.length→((xs.getD i .top=.val (.slice none 0 0)∧L.getD i []=[])∨∃xi n l,xs.getD i .top=.vec xi n 1∧n≤5∧xi≠rid∧hp.find xi=some (.rows 3 1 n l)∧(L.getD i []).length=l.length∧∀j,j<l.length→l.getD j .top=.val (.int .i64 ((L.getD i []).getD j 0:Nat)))
 |[],f,h=>⟨[],h,rfl,λj hj=>by cases hj⟩
 |a :: xs,f,h=>by
  have h:qfp hp rid a (λx=>J2 hp rid xs λl=>f (x :: l))=.ok ρ:=h;obtain⟨m,h,h1⟩:=qla h;obtain⟨L,h,h2,h3⟩:=Qf h;refine⟨m :: L,h,by simp[h2],λi hi=>?_⟩;cases i with
  |zero=>exact h1
  |succ i=>exact h3 i (Nat.lt_of_succ_lt_succ hi)
def qlb(l:List SV)(r:R):R:=List.rec r (λa _ ih=>match a with
 |.val (.int .i64 (.negSucc 0))=>ih
 |_=>.bad 490 0) l
theorem qbx{r:R}:∀{l:List SV},qlb l r=.ok ρ→r=.ok ρ∧∀j,j<l.length→l.getD j .top=.val (.int .i64 (-1))
 |[],h=>⟨h,λj hj=>by cases hj⟩
 |a :: l,h=>by
  have h:(match (generalizing:=false) a with
   |.val (.int .i64 (.negSucc 0))=>qlb l r
   |_=>.bad 490 0)=(.ok ρ:R):=h
  split at h
  ·obtain⟨h1,h2⟩:=qbx h
   refine⟨h1,λj hj=>?_⟩;cases j with
   |zero=>rfl
   |succ j=>exact h2 j (Nat.lt_of_succ_lt_succ hj)
  ·cases h
def qnh(p:Value×Option SV)(i:Nat)(r:R):R:=match p with
 |(.agg c,some _)=>(match c.toList with
  |[.int .i64 _,.int .i64 _,.int .i64 _,.int .i64 _,.int .i64 _,.int .i64 (.ofNat n)]=>qg 491 (Nat.beq (Nat.succ n) i) r
  |_=>.bad 492 0)
 |_=>.bad 493 0
theorem qni{p:Value×Option SV}{i:Nat}{r:R}(h:qnh p i r=.ok ρ):r=.ok ρ∧0<i∧∃f s,p=(kp f (i - 1),some s):=by
 unfold qnh at h;split at h
 ·rename_i c s
  split at h
  ·rename_i a b c' d e n hc
   obtain⟨h1,h9⟩:=qa h;have e1:=xa6 h1;subst e1;refine⟨h9,Nat.succ_pos _,λj=>if j=0 then a else if j=1 then b else if j=2 then c' else if j=3 then d else e,s,?_⟩;have:c = #[.int .i64 a,.int .i64 b,.int .i64 c',.int .i64 d,.int .i64 e,.int .i64 (.ofNat n)]:=by
    grind
   rw[this];rfl
  ·cases h
 ·cases h
def qlc(es:List (Value×Option SV))(i:Nat)(r:R):R:=List.rec (motive:=λ_=>Nat→R) (λ_=>r) (λp _ ih i=>qnh p i (qj (Nat.pred i) λi=>ih i)) es i
theorem qby{r:R}:∀{es:List (Value×Option SV)}{i:Nat},qlc es i r=.ok ρ→r=.ok ρ∧∀j,j<es.length→j<i∧∃f s,es[j]? = some (kp f (i - 1 - j),some s)
 |[],i,h=>⟨h,λj hj=>by cases hj⟩
 |p :: es,i,h=>by
  have h:qnh p i (qj (Nat.pred i) λi=>qlc es i r)=.ok ρ:=h;obtain⟨h,h0,f,s,h1⟩:=qni h;rw[qe]at h;obtain⟨h,h2⟩:=qby h;refine⟨h,λj hj=>?_⟩;cases j with
  |zero=>exact⟨h0,f,s,by rw[h1];rfl⟩
  |succ j=>
   obtain⟨h4,f,s,h3⟩:=h2 j (Nat.lt_of_succ_lt_succ hj);have h4:j<i - 1:=h4;exact⟨Ω,f,s,by rw[xd7,h3,show i - 1 -(j+1)=Nat.pred i - 1 - j by show i - 1 -(j+1)=i - 1 - 1 - j;omega]⟩
structure Uq(es:List (Value×Option SV)):Prop where
 key:∀p,p∈es→∃f n s,p=(kp f n,some s)
 pw:es.Pairwise λp q=>zY p.1≠zY q.1
theorem yC:∀{es:List (Value×Option SV)}(h:Uq es){v:Value}{s:SV},gU es v=some s↔(v,some s)∈es
 |[],_,v,s=>⟨λh=>ΩZ,λh=>ΩZ⟩
 |p :: es,h,v,s=>by
  obtain⟨f,n,s',rfl⟩:=h.key p xd5;have h2:=List.pairwise_cons.1 h.pw;have ih:=yC (es:=es) ⟨λq hq=>h.key q (List.mem_cons_of_mem _ hq),h2.2⟩ (v:=v) (s:=s);rw[kF];split
  ·rename_i he
   have e:=eqK_kp.1 he;subst e;constructor
   ·simp_all
   ·grind
  ·rename_i he
   rw[ih,List.mem_cons];constructor
   ·exact .inr
   ·rintro(e|e)
    ·exact absurd (eqK_kp.2 (congrArg Prod.fst e)) he
    ·exact e
theorem Uq.isSome{es:List (Value×Option SV)}(h:Uq es){v:Value}:(gU es v).isSome=true↔∃s,(v,some s)∈es:=by
 constructor
 ·intro hs
  obtain⟨s,e⟩:=Option.isSome_iff_exists.1 hs;exact⟨s,(yC h).1 e⟩
 ·rintro⟨s,e⟩
  rw[(yC h).2 e];rfl
theorem Uq.of{es:List (Value×Option SV)}(h:∀j,j<es.length→∃f s,es[j]? = some (kp f (es.length - 1 - j),some s)):Uq es:=by
 refine⟨λp hp=>?_,?_⟩
 ·obtain⟨j,hj,e⟩:=List.getElem_of_mem hp
  grind
 ·rw[List.pairwise_iff_getElem]
  intro i j hi hj hij;obtain⟨f,s,e⟩:=h i hi;obtain⟨g,u,e2⟩:=h j hj;rw[xc7 hi]at e;rw[xc7 hj]at e2;rw[Option.some.inj e,Option.some.inj e2,wG,wG];omega
def qld(args:List SV)(hp:Tr 6 XB)(nid:Nat)(k:SV→Tr 6 XB→Nat→R):R:=
 match args with
 |[.ptr tb 0]=>(match hp.find tb with
  |some (.cells 253 [_,_,.vec xid n 1,.vec rid n' 1,.mp mid])=>(match hp.find xid,hp.find rid,hp.find mid with
   |some (.rows 22 1 n1 xs),some (.rows 3 1 n2 rs),some (.map true [.i .i64,.i .i64,.i .i64,.i .i64,.i .i64,.i .i64] es)=>
    qg 494 (Nat.beq n' n) (qg 495 (Nat.beq n1 n) (qg 496 (Nat.beq n2 n) (qg 497 (Nat.ble n 100000) (qg 498 (Nat.beq es.length n) (qlb rs (J2 hp rid xs λL=>qdo L 0 .nil λt=>qpr L (L.length+2) t λt=>qng t n L 0 (qlc es n (qfk t L 0 λrs=>qfl t es λes=>
     zl (some (.rows 3 1 n rs)) 22 hp rid λhp=>zl (some (.map true [.i .i64,.i .i64,.i .i64,.i .i64,.i .i64,.i .i64] es)) 22 hp mid λhp=>k (.tup []) hp nid))))))))
   |_,_,_=>.bad 456 0)
  |_=>.bad 457 0)
 |_=>.bad 458 0
theorem qle:Qu Tryz.prog 163 qld:=by
 intro ρ LM O args hp k st K hH h hk;unfold qld at h;split at h
 ·rename_i tb
  split at h
  ·rename_i A Z xid N rid n' mid hft
   split at h
   ·rename_i n1 xs n2 rs es hfx hfr hfm
    obtain⟨a1,h⟩:=qa h;obtain⟨a2,h⟩:=qa h;obtain⟨a3,h⟩:=qa h;obtain⟨a4,h⟩:=qa h;obtain⟨a5,h⟩:=qa h;have e1:=xa6 a1;have e2:=xa6 a2;have e3:=xa6 a3;have hN:=xa7 a4;have hL:=xa6 a5;subst e1 e2 e3;obtain⟨h,b1⟩:=qbx h;obtain⟨L,h,b2,b3⟩:=Qf h;obtain⟨t0,h⟩:=Wc _ _ _ _ h;obtain⟨t,h⟩:=qfm _ _ _ _ h;obtain⟨h,b4⟩:=qfo h;obtain⟨h,b5⟩:=qby h;obtain⟨rs',h,b6,b7⟩:=qbv h;have h:=J0 h;obtain⟨hp1,p1,h⟩:=qH _ _ _ _ h;obtain⟨hp2,p2,h⟩:=qH _ _ _ _ h;obtain⟨rowx,hbx,lx,gx⟩:=hH.rows hfx;obtain⟨rowr,hbr,lr,gr⟩:=hH.rows hfr;obtain⟨dom,get,hbm,hd⟩:=hH.map hfm;have hbt:=hH.cells hft;have uq:Uq es:=Uq.of λj hj=>by rw[hL];exact(b5 j hj).2
    have hdm:∀v,dom v=true↔∃s,(v,some s)∈es:=λv=>by rw[(hd v).1];exact uq.isSome
    have hidx:∀v,dom v=true→zY v<n2∧∃f,v=kp f (zY v)∧∃s,es[n2 - 1 - zY v]? = some (v,some s):=λv hv=>by
     obtain⟨s,hm⟩:=(hdm v).1 hv;obtain⟨j,hj,e⟩:=List.getElem_of_mem hm;obtain⟨_,f,s2,e2⟩:=b5 j hj;rw[xc7 hj,e]at e2;have e3:=congrArg Prod.fst (Option.some.inj e2);have e3:v=kp f (n2 - 1 - j):=e3;subst e3;rw[wG]
     grind
    intro base okc ns r outs a w vs hI hlen hv;have keys:=hI.keys;have b3':∀i,i<n2→((L.getD i []).length=0∧rowx i 0=.val (.slice none 0 0))∨∃xi r,rowx i 0=.vec xi (L.getD i []).length 1∧(L.getD i []).length≤5∧blk st.hp xi=some (.rows 3 1 (L.getD i []).length r)∧(xi≠tb∧xi≠xid∧xi≠rid∧xi≠mid∧xi<st.nid)∧∀j,j<(L.getD i []).length→r j 0=.val (.int .i64 ((L.getD i []).getD j 0:Nat)):=λi hi=>by
     have gxi:=gx i 0 hi Ω;rw[Nat.mul_one,xb1]at gxi;rcases b3 i Ω with⟨c1,c2⟩|⟨xi,n,l,c1,c2,c3,c4,c5,c6⟩
     ·simp_all
     ·obtain⟨r,d1,d2,d3⟩:=hH.rows c4
      have el:(L.getD i []).length=n:=by omega
      refine .inr ⟨xi,r,by rw[gxi,c1,el],Ω,by rw[d1,el],⟨λe=>?_,λe=>?_,c3,λe=>?_,keys _ _ d1⟩,λj hj=>?_⟩
      ·rw[e,hbt]at d1;cases d1
      ·rw[e,hbx]at d1;cases d1
      ·rw[e,hbm]at d1;cases d1
      ·grind
    have b4':∀i,i<n2→(t.find i).getD 0=ZZ t (L.getD i [])∧ZZ t (L.getD i [])≤1000000∧∀a,a∈L.getD i []→a<n2:=λi hi=>by
     grind
    have hl:Hl n2 (λi=>(L.getD i []).length) (λi j=>(L.getD i []).getD j 0) (FF t) dom rowx st.hp st.nid tb xid rid mid:=by
     refine⟨⟨λi hi=>?_,λi hi=>?_,λi j hi hj=>?_,λi hi=>(qbu (b4' i hi).1).1,λi hi=>(qbu (b4' i hi).1).2⟩,hN,λi hi=>?_,λv hv=>?_,λv v' h1 h2 h3=>?_,λi hi=>?_,λi hi=>?_,keys _ _ hbt,keys _ _ hbx,keys _ _ hbr,keys _ _ hbm,?_,?_,?_,?_,?_,?_,λk x hx=>keys k x hx⟩
     ·unfold FF Vt;omega
     ·have⟨c1,c2,_⟩:=b4' i hi
      unfold FF Vt;rw[c1];omega
     ·refine(b4' i hi).2.2 _ ?_
      simp_all
     ·grind
     ·grind
     ·grind
     ·obtain⟨_,f,s,c1⟩:=b5 (n2 - 1 - i) Ω
      rw[show n2 - 1 -(n2 - 1 - i)=i by omega]at c1;exact⟨kp f i,(hdm _).2 ⟨s,List.mem_of_getElem? c1⟩,wG f i⟩
     ·grind
     ·grind
     ·grind
     ·rintro rfl;rw[hbt]at hbm;cases hbm
     ·rintro rfl;rw[hbx]at hbr;cases hbr
     ·rintro rfl;rw[hbx]at hbm;cases hbm
     ·rintro rfl;rw[hbr]at hbm;cases hbm
    have E:=qrI n2 _ _ (FF t) dom get A Z rowx rowr st.hp st.nid tb xid rid mid hl (λi hi=>by
     rw[gr i 0 hi Ω,Nat.mul_one,xb1];exact b1 i Ω)
    have E2:=EffVC.sub (hp:=st.hp) (λid x hx=>by
     simp only[blk]at hx;split at hx
     ·rename_i e;subst e;cases hx;exact hbr
     ·split at hx
      ·rename_i e;subst e;cases hx;exact hbm
      ·split at hx
       ·rename_i e;subst e;cases hx;exact hbt
       ·split at hx
        ·rename_i e;subst e;cases hx;exact hbx
        ·exact hx) E
    refine JZ (E2 O st.fr) (λst' sv hself hq=>?_) base okc ns r outs a w vs hI hlen hv;obtain⟨fr',hp',nid'⟩:=st';obtain⟨q0,q1,q2,row,q3,q4⟩:=hq;simp only[]at q0 q1 q2 q4;subst q0 q2 q4;have hrow:∀i j,i<n2→j<1→Wk ((rid,.rows 3 1 n2 row) ::(mid,.map kfP (λv=>dom v&&decide (FF t (zY v)<0)) get) ::(tb,.cells 253 [A,Z,.vec xid n2 1,.vec rid n2 1,.mp mid]) ::(xid,.rows 22 1 n2 rowx) :: st.hp) (ren [(st.nid,some st.nid)]) st.nid (λ_=>false) (row i j) (row i j):=λi j hi hj=>by
     obtain rfl:j=0:=by omega
     rw[q3 i hi];simp[Wk]
    refine⟨st.nid,_,.tup [],st.nid,rfl,xa5 _,λid x hx=>⟨.inl ⟨?_,hx⟩,?_⟩,by simp[Wk,WkL],xa5 _,hk _ hp2 _ _ (λid b hb=>?_) h⟩
    ·simp only[blk]at hx
     split at hx
     ·rename_i e;rw[e];exact keys _ _ hbr
     ·split at hx
      ·rename_i e;rw[e];exact keys _ _ hbm
      ·split at hx
       ·rename_i e;rw[e];exact keys _ _ hbt
       ·split at hx
        ·rename_i e;rw[e];exact keys _ _ hbx
        ·exact keys _ _ hx
    ·simp only[blk]at hx
     split at hx
     ·cases hx
      exact⟨rfl,rfl,xa5 _,hrow⟩
     ·split at hx
      ·cases hx
       have hm0:=hself ((rid,.rows 3 1 n2 row) ::(mid,.map kfP (λv=>dom v&&decide (FF t (zY v)<0)) get) ::(tb,.cells 253 [A,Z,.vec xid n2 1,.vec rid n2 1,.mp mid]) ::(xid,.rows 22 1 n2 rowx) :: st.hp) st.nid st.nid (xa5 _) _ _ hbm;exact⟨rfl,rfl,λk hk=>hm0.2.2 k (xe6 _ _▸hk).1⟩
      ·split at hx
       ·rename_i e;cases hx;exact hself _ _ _ (xa5 _) _ _ hbt
       ·split at hx
        ·rename_i e;cases hx;exact hself _ _ _ (xa5 _) _ _ hbx
        ·exact hself _ _ _ (xa5 _) _ _ hx
    rw[p2 id]at hb;simp only[blk];by_cases e1:id=rid
    ·subst e1
     rw[if_neg hl.d6,p1,if_pos rfl]at hb;rw[if_pos rfl];cases hb;refine⟨_,rfl,rfl,rfl,rfl,Ω,λi j hi hj=>?_⟩;obtain rfl:j=0:=by omega
     have:=b7 i Ω;rw[xb0]at this;rw[q3 i hi,Nat.mul_one,xb1,this]
    ·rw[if_neg e1]
     by_cases e2:id=mid
     ·subst e2
      rw[if_pos rfl]at hb;rw[if_pos rfl];cases hb;have uq2:Uq (es.filter λp=>decide ((t.find (qgZ p.1)).getD 0=0)):=⟨λp hp=>uq.key p (List.mem_filter.1 hp).1,uq.pw.filter _⟩;have hmm:∀v s,(v,some s)∈(es.filter λp=>decide ((t.find (qgZ p.1)).getD 0=0))↔(v,some s)∈es∧FF t (zY v)<0:=λv s=>by
       rw[List.mem_filter];constructor
       ·rintro⟨c1,c2⟩
        obtain⟨f,n,s2,c3⟩:=uq.key _ c1;have c3:v=kp f n:=congrArg Prod.fst c3;subst c3;have c2:=of_decide_eq_true c2;refine⟨c1,?_⟩;rw[wG];have c2:(t.find n).getD 0=0:=c2;unfold FF Vt;rw[c2];decide
       ·rintro⟨c1,c2⟩
        obtain⟨f,n,s2,c3⟩:=uq.key _ c1;have c3:v=kp f n:=congrArg Prod.fst c3;subst c3;refine⟨c1,decide_eq_true ?_⟩;rw[wG]at c2;unfold FF Vt at c2;show(t.find n).getD 0=0;omega
      refine⟨_,rfl,rfl,λv=>⟨?_,λs hs=>(hd v).2 s ((yC uq).2 ((hmm v s).1 ((yC uq2).1 hs)).1)⟩⟩;rw[Bool.eq_iff_iff,uq2.isSome,xe6,decide_eq_true_eq,hdm];constructor
      ·rintro⟨⟨s,c1⟩,c2⟩;exact⟨s,(hmm v s).2 ⟨c1,c2⟩⟩
      ·rintro⟨s,c1⟩;exact⟨⟨s,((hmm v s).1 c1).1⟩,((hmm v s).1 c1).2⟩
     ·rw[if_neg e2,p1,if_neg e1]at hb
      rw[if_neg e2];obtain⟨b',c1,c2⟩:=hH id b hb;refine⟨b',?_,c2⟩;by_cases e3:id=tb
      ·subst e3;rw[if_pos rfl,←c1,hbt]
      ·rw[if_neg e3]
       by_cases e4:id=xid
       ·subst e4;rw[if_pos rfl,←c1,hbx]
       ·rw[if_neg e4];exact c1
   ·cases h
  ·cases h
 ·cases h
end
end Go.Sx
end
section
namespace Go.Sx
open Go.Proofs
open Go.RowKit Go.Tn
noncomputable section
variable{ρ:Q}
def qnj(l:List Nat)(f:List Nat→R):R:=(List.rec (motive:=λ_=>(List Nat→R)→R) (λf=>f []) (λa _ ih f=>qj a λa=>ih λl=>f (a :: l)) l) f
theorem YB:∀(l:List Nat)(f:List Nat→R),qnj l f=f l
 |[],f=>rfl
 |a :: l,f=>by
  show qj a (λa=>qnj l λl=>f (a :: l))=_;rw[qe,YB]
def qnk(N:Nat)(L:List (List Nat))(r:R):R:=List.rec r (λa _ ih=>qg 500 (Nat.ble a.length 5) (ltK N a ih)) L
theorem YC{N:Nat}{r:R}:∀{L:List (List Nat)},qnk N L r=.ok ρ→r=.ok ρ∧∀l,l∈L→l.length≤5∧∀a,a∈l→a<N
 |[],h=>⟨h,λl hl=>by cases hl⟩
 |a :: L,h=>by
  have h:qg 500 (Nat.ble a.length 5) (ltK N a (qnk N L r))=.ok ρ:=h;obtain⟨h1,h⟩:=qa h;obtain⟨h,h2⟩:=YA h;obtain⟨h,h3⟩:=YC h;refine⟨h,λl hl=>?_⟩;rcases List.mem_cons.1 hl with rfl|hl
  ·simp_all
  ·exact h3 l hl
def svN(l:List Nat):List SV:=l.map λ(n:Nat)=>.val (.int .i64 (.ofNat n))
def qlf(args:List SV)(hp:Tr 6 XB)(nid:Nat)(k:SV→Tr 6 XB→Nat→R):R:=
 match args with
 |[.ptr tb 0]=>(match hp.find tb with
  |some (.cells 253 [_,.vec sid n' 5,.vec xid n 1,_,_])=>(match hp.find xid with
   |some (.rows 22 1 n1 xs)=>qg 501 (Nat.beq n' n) (qg 502 (Nat.beq n1 n) (qg 503 (Nat.ble n 1000) (J2 hp tb xs λL=>qnk n L
    (match JL (λi=>L.getD i []) n (n+1) (n+1) n 0 []with
     |none=>.bad 504 0
     |some l=>qnj l λl=>qj (Nat.succ nid) λn2=>qj nid λnid=>qj l.length λm=>
      (match m with
       |0=>k (.val (.slice none 0 0)) hp nid
       |_=>zl (some (.rows 3 1 m (svN l))) 22 hp nid λhp=>k (.vec nid m 1) hp n2)))))
   |_=>.bad 505 0)
  |_=>.bad 506 0)
 |_=>.bad 507 0
theorem qnl{l:List Nat}{i:Nat}(h:i<l.length):(svN l).getD i .top=.val (.int .i64 (l.getD i 0:Nat)):=by
 unfold svN
 simp_all
theorem qlg:Qu Tryz.prog 73 qlf:=by
 intro ρ LM O args hp k st K hH h hk;unfold qlf at h;split at h
 ·rename_i tb
  split at h
  ·rename_i A sid n' xid n Rr M hft
   split at h
   ·rename_i n1 xs hfx
    obtain⟨a1,h⟩:=qa h;obtain⟨a2,h⟩:=qa h;obtain⟨a3,h⟩:=qa h;obtain⟨L,h,b2,b3⟩:=Qf h;obtain⟨h,b4⟩:=YC h;have e1:=xa6 a1;have e2:=xa6 a2;have hN:=xa7 a3;subst e1 e2;split at h
    ·cases h
    ·rename_i l hF
     rw[YB,qe,qe,qe]at h;obtain⟨rowx,hbx,lx,gx⟩:=hH.rows hfx;have hbt:=hH.cells hft;intro base okc ns r outs a w vs hI hlen hv;have keys:=hI.keys;have hmem:∀i,i<n1→L.getD i []∈L:=λi hi=>by
      simp_all
     have hC:Go.Tn.Cl n1 (λi=>L.getD i []) rowx st.hp st.nid tb xid A Rr M sid:=by
      refine⟨Ω,λi hi=>(b4 _ (hmem i hi)).1,λi hi=>(b4 _ (hmem i hi)).2,hbt,hbx,λi hi=>?_,λk x hx=>keys k x hx⟩;have gxi:=gx i 0 hi Ω;rw[Nat.mul_one,xb1]at gxi;rcases b3 i Ω with⟨c1,c2⟩|⟨xi,n,l,c1,c2,c3,c4,c5,c6⟩
      ·simp_all
      ·obtain⟨r,d1,d2,d3⟩:=hH.rows c4
       have el:(L.getD i []).length=n:=by omega
       refine .inr ⟨xi,r,by rw[gxi,c1,el],by rw[d1,el],λj hj=>?_⟩
       grind
     have E:=e73 n1 _ rowx st.hp st.nid tb xid A Rr M sid (n1+1) (n1+1) l hC Ω Ω hF (600*(n1+1)+2000) Ω;cases l with
     |nil=>
      refine JZ (E O st.fr) (λst' sv hself hq=>?_) base okc ns r outs a w vs hI hlen hv;obtain⟨fr',hp',nid'⟩:=st';obtain⟨q0,q1,bid,rr,q2,q3,q4,q5⟩:=hq;simp only[]at q0 q1 q2 q4;subst q0 q4 q5;exact⟨st.nid,_,_,st.nid,rfl,xa5 _,λid x hx=>⟨.inl ⟨keys id x hx,hx⟩,hself _ _ _ (xa5 _) _ _ hx⟩,by simp[Go.Tn.bSV,Wk],xa5 _,hk _ hp _ _ hH h⟩
     |cons x l=>
      have h:zl (some (.rows 3 1 (l.length+1) (svN (x :: l)))) 22 hp st.nid (λhp=>k (.vec st.nid (l.length+1) 1) hp (st.nid+1))=.ok ρ:=h;obtain⟨hp1,p1,h⟩:=qH _ _ _ _ h;refine JZ (E O st.fr) (λst' sv hself hq=>?_) base okc ns r outs a w vs hI hlen hv;obtain⟨fr',hp',nid'⟩:=st';obtain⟨q0,q1,bid,rr,q2,q3,q4,q5⟩:=hq;simp only[]at q0 q1 q2 q4;subst q0 q4 q5;have⟨z1,z2⟩:=q2 Ωj;refine⟨bid,(st.nid,.rows 3 1 (l.length+1) rr) :: st.hp,.vec st.nid (l.length+1) 1,st.nid+1,rfl,z1,λid y hy=>?_,?_,xc4 _,hk _ hp1 _ _ (λid b hb=>?_) h⟩
      ·simp only[blk]at hy
       split at hy
       ·rename_i e
        cases hy;refine⟨.inr ⟨e,by simp[Go.Tn.bH,blk],xa5 _⟩,rfl,rfl,xa5 _,λi j hi hj=>?_⟩;obtain rfl:j=0:=by omega
        rw[q3 i hi];simp[Wk]
       ·have hlt:=keys id y hy
        refine⟨.inl ⟨hlt,?_⟩,hself _ _ _ (xc4 _) _ _ hy⟩;simp only[Go.Tn.bH,blk];rw[if_neg Ω];exact hy
      ·unfold Go.Tn.bSV Wk
       refine⟨Ω,?_,rfl,rfl⟩;simp[ren]
      ·rw[p1 id]at hb
       simp only[blk];by_cases e:id=st.nid
       ·rw[if_pos e]at hb ⊢
        cases hb;refine⟨_,rfl,rfl,rfl,rfl,by simp[svN],λi j hi hj=>?_⟩;obtain rfl:j=0:=by omega
        rw[Nat.mul_one,xb1,qnl hi];exact q3 i hi
       ·rw[if_neg e]at hb ⊢
        exact hH id b hb
   ·cases h
  ·cases h
 ·cases h
end
end Go.Sx
end
section
namespace Go.Tn
open Go.Proofs
open Go.Sx
def YD:List Nat→(Nat→Nat)→List Nat→(Nat→Nat)×List Nat
 |[],seen,wait=>(seen,wait)
 |to :: l,seen,wait=>if seen to=0 then YD l (setN seen to 1) (wait++[to])else YD l seen wait
def Wh(L:Nat→List Nat):Nat→(Nat→Nat)→List Nat→List Nat→Option (List Nat)
 |0,_,_,_=>none
 |_+1,_,[],out=>some out
 |f+1,seen,i :: wait,out=>Wh L f (YD (L i) seen wait).1 (YD (L i) seen wait).2 (out++[i])
theorem YE{O:Ctx}{fr:List (Nat×SV)}{hp:List (Nat×Blk)}{nid d k:Nat}{t:TypeId}(row:Nat→Nat→SV)(h:Go.Sx.look fr d=.val (.slice none 0 0)):Weak O ⟨fr,hp,nid⟩ ⟨putFr fr d (.vec nid 0 k),(nid,.rows t k 0 row) :: hp,nid+1⟩:=λbase okc ns outs a w ⟨r,h'⟩=>by
 obtain⟨r',hst,hrep⟩:=wY h'.sat nid (xb4 _) none (hp':=(nid,.rows t k 0 row) :: hp) (e:=t) (k:=k) (row:=row) ΩN (λj hj _=>by simp only[blk];rw[if_neg (Nat.ne_of_lt hj)]) (λo ho=>by cases ho);rw[jz]at hst hrep;have h2:=(h'.step hst (λi x hx=>by
  simp only[blk]at hx;split at hx
  ·simp_all
  ·exact Nat.lt_succ_of_lt (h'.keys i x hx)) (xc4 _) (d:=none) (λt ht=>by cases ht) (.val undef)).nid (nid+1)
 refine⟨r',h2.sat,h2.keys,λi=>?_,h2.size,h2.lo,h2.out,h2.rfix,h2.defers⟩;show Rep _ _ _ _ (Go.Sx.look (putFr fr d _) i) _;rw[zq];split
 ·rename_i e
  have hv:=h'.fr d;rw[show(⟨fr,hp,nid⟩:St).fr=fr from rfl,h]at hv;rw[e];generalize a.tmps.getD d undef=v at hv ⊢;cases hv;exact hrep
 ·exact h2.fr i
def qpt(l:List Nat)(srow r:Nat→Nat→SV):Prop:=∀k,k<l.length→∀j,j<5→r k j=srow (l.getD k 0) j
theorem one5(a b c d e:Int):oneRows 1 5 (λi j=>[SV.val (.int .i64 a),SV.val (.int .i64 b),SV.val (.int .i64 c),SV.val (.int .i64 d),SV.val (.int .i64 e)].getD (i*5+j) SV.top):=λi j hi hj=>by
 obtain rfl:i=0:=by omega
 have:j=0∨j=1∨j=2∨j=3∨j=4:=by omega
 rcases this with rfl|rfl|rfl|rfl|rfl<;>rfl
structure QJ(N:Nat)(L:Nat→List Nat)(fu n1 lo:Nat)(srow:Nat→Nat→SV)(res0:List Nat)(f c:Nat)(seen:Nat→Nat)(byr:Nat→Nat→SV)(wait:List Nat)(wid off:Nat)(J:Nat→Nat→SV)(outL:List Nat)(oid:Nat)(r:Nat→Nat→SV):Prop where
 fu:f+c=fu
 run:Wh L f seen wait outL=some res0
 row:∀x,x<N→byr x 0=.val (.int .i64 (seen x:Nat))
 le:∀x,x<N→seen x≤1
 lt:∀x,x∈wait→x<N
 J:∀i,i<wait.length→J (off+i) 0=.val (.int .i64 (wait.getD i 0:Nat))
 off:off≤c
 len:wait.length≤1+5*c
 w1:lo≤wid
 w2:wid<n1+450*c
 out:qpt outL srow r
 ol:outL.length≤c
 o1:lo≤oid
 o2:oid<n1+450*c
 o3:wid≠oid
structure RJ(N:Nat)(L:Nat→List Nat)(i c n1 n2 lo nr:Nat)(R3:(Nat→Nat)×List Nat)(oid k:Nat)(seen:Nat→Nat)(byr:Nat→Nat→SV)(wait:List Nat)(wid off:Nat)(J:Nat→Nat→SV):Prop where
 kl:k≤(L i).length
 run:YD ((L i).drop k) seen wait=R3
 row:∀x,x<N→byr x 0=.val (.int .i64 (seen x:Nat))
 le:∀x,x<N→seen x≤1
 lt:∀x,x∈wait→x<N
 J:∀i,i<wait.length→J (off+i) 0=.val (.int .i64 (wait.getD i 0:Nat))
 off:off≤c+1
 len:wait.length≤nr+k
 w1:lo≤wid
 w2:wid<n2+60*k
 o3:wid≠oid
theorem qrP(N:Nat)(L:Nat→List Nat)(nx:Nat→Nat→SV)(H:List (Nat×Blk))(id tb xid sid:Nat)(A R M:SV)(s:Nat→Int)(srow:Nat→Nat→SV)(i0 fu:Nat)(res0:List Nat)(h:Cl N L nx H id tb xid A R M sid)(hfu:fu≤100000)
  (hsr:blk H sid=some (.rows 140 5 N srow)) (hsi:∀i,i<N→∀j,j<5→∃x:Int,srow i j=.val (.int .i64 x)) (hix:∀sd:Nat→Nat→SV,EffVC Tryz.prog 162 [.ptr tb 0,.agg (stL s)] ((id+7,.rows 3 1 N sd) ::(id,.cells 140 (stL s)) :: H) (id+11) (λhp' nid' res=>hp'=((id+7,.rows 3 1 N sd) ::(id,.cells 140 (stL s)) :: H)∧nid'=id+11+200∧res=I (i0:Nat)))
  (hi0N:i0<N) (hF:Wh L fu (setN (λ_=>0) i0 1) [i0] []=some res0) :
  EffVC Tryz.prog 262 [.ptr tb 0,.agg (stL s)] H id (λhp' nid' res=>nid'≤id+400+450*fu∧∃oid r,id≤oid∧oid<nid'∧qpt res0 srow r∧hp'=(oid,.rows 140 5 res0.length r) :: H∧res=.vec oid res0.length 5):=by
 refine yP (qV [(14,[(0,0)])]) follows Tryz.func262 rfl Ωb Ωb (by rw[Tryz.ntmps262];simp) λout=>?_;have hN5:=h.N5;have htb:=h.und _ _ h.tb;have hxid:=h.und _ _ h.xid;have hsid:=h.und _ _ hsr;have NB:=(⟨nmA htb,nmA hxid,nmA hsid⟩:_∧_∧_);repeat' first|refine sD ?_ ?_<;>intro _|refine aAg ?_|simp -dsimp only[↓RP,RQ,seval,h.tb,qet,qaQ,↓RY,NB,QS,QT,qT,QN]
 all_goals try exact Ωe
 refine wO ΩC (hix _) λhp' nid' res hQ=>?_;obtain⟨rfl,rfl,rfl⟩:=hQ;repeat' first|refine sD ?_ ?_<;>intro _|refine aAg ?_|simp -dsimp only[↓RP,RQ,seval,h.tb,qet,qaQ,↓RY,NB,QS,QT,qT,QN]
 all_goals try exact Ωe
 obtain⟨n1,hn1⟩:∃n1,n1=id+300:=⟨_,rfl⟩;have hB:∀x,x<N→(if x=i0∧0=0 then SV.val (.int .i64 1)else SV.val ([Value.int .i64 0].getD 0 undef))=.val (.int .i64 (setN (λ_=>0) i0 1 x:Nat)):=λx hx=>by
  unfold setN;by_cases e:x=i0
  iterate 2 focus simp_all
 refine qo (λ(z:Nat×Nat×(Nat→Nat)×(Nat→Nat→SV)×List Nat×Nat×Nat×(Nat→Nat→SV)×List Nat×Nat×(Nat→Nat→SV))=>QJ N L fu n1 (id+8) srow res0 z.1 z.2.1 z.2.2.1 z.2.2.2.1 z.2.2.2.2.1 z.2.2.2.2.2.1 z.2.2.2.2.2.2.1 z.2.2.2.2.2.2.2.1 z.2.2.2.2.2.2.2.2.1 z.2.2.2.2.2.2.2.2.2.1 z.2.2.2.2.2.2.2.2.2.2) (λz=>⟨[(0,.ptr tb 0),(5,.vec (id+7) N 1),(6,.que z.2.2.2.2.2.1 (z.2.2.2.2.2.2.1) (z.2.2.2.2.1.length) 1),(7,.vec z.2.2.2.2.2.2.2.2.2.1 (z.2.2.2.2.2.2.2.2.1.length) 5)],(z.2.2.2.2.2.1,.rows 3 1 (z.2.2.2.2.2.2.1+z.2.2.2.2.1.length) z.2.2.2.2.2.2.2.1) ::(id+7,.rows 3 1 N z.2.2.2.1) ::(z.2.2.2.2.2.2.2.2.2.1,.rows 140 5 z.2.2.2.2.2.2.2.2.1.length z.2.2.2.2.2.2.2.2.2.2) :: H,n1+450*z.2.1⟩) (λz=>z.1) (fu,0,setN (λ_=>0) i0 1,λa b=>if a=i0∧b=0 then SV.val (.int .i64 1)else SV.val ([Value.int .i64 0].getD b undef),[i0],id+214,0,λi j=>[SV.val (.int .i64 (i0:Nat))].getD (i+j) SV.top,[],id+223,λ_ _=>.top) ⟨rfl,hF,hB,λx hx=>(by show(if x=i0 then 1 else 0)≤1;split<;>omega),λx hx=>(by rw[List.mem_singleton.1 hx];exact hi0N),λi hi=>(by have hi:i<1:=hi;obtain rfl:i=0:=Ω;rfl),xa5 _,Ωj,Ωk,Ωk,λk hk=>(by cases hk),xa5 _,Ωk,Ωk,Ωk⟩ (Weak.trans (qkd (d:=6) rfl) (Weak.trans (YE (t:=140) (k:=5) (d:=7) (λ_ _=>.top) rfl) (qp Ωk (by simp[zj,Go.Sx.look,putFr]) ?hA5))) λz hz=>?_
 case hA5=>(intro q v hv;simp only[blk]at hv ⊢;((repeat' split at hv)<;>(repeat' split)<;>first|exact hv|(exfalso;omega)|(exfalso;have:=h.und _ _ hv;omega)))
 obtain⟨f,c,seen,byr,wait,wid,off,J,outL,oid,orw⟩:=z;have hz':QJ N L fu n1 (id+8) srow res0 f c seen byr wait wid off J outL oid orw:=hz;obtain⟨y1,y2,y3,y4,y5,y6,y7,y8,y9,y10,y11,y12,y13,y14,y15⟩:=hz';dsimp only;cases f with
 |zero=>cases y2
 |succ f=>
 obtain⟨n2,hn2⟩:∃n2,n2=n1+450*c:=⟨_,rfl⟩;rw[←hn2]at y10 y14 ⊢;clear NB;have NB:=(⟨nmA (Ω:tb<n2),nmA (Ω:xid<n2),nmA (Ω:sid<n2),nmA y10,nmA y14,nmE (Ω:wid≠tb),nmE (Ω:wid≠xid),nmE (Ω:wid≠sid),nmE (Ω:wid≠id+7),nmE y15,nmE (Ω:oid≠tb),nmE (Ω:oid≠xid),nmE (Ω:oid≠sid),nmE (Ω:oid≠id+7),nmA htb,nmA hxid,nmA hsid,nmA (Ω:id+7<n2)⟩:_∧_∧_∧_∧_∧_∧_∧_∧_∧_∧_∧_∧_∧_∧_∧_∧_∧_);have hdr0:dropBlk H oid=H:=zf (h.und.none Ω);cases wait with
 |nil=>
  simp only[Wh]at y2;have y2:=Option.some.inj y2;subst y2;repeat' first|refine sD ?_ ?_<;>intro _|refine aAg ?_|simp -dsimp only[↓RP,RQ,seval,h.tb,↓RY,NB,QS,QT,qT,QN]
  all_goals try exact Ωe
  refine⟨_,_,_,qp (xa5 _) (fr':=[(0,_)]) ⟨.inr rfl,trivial⟩ ?hSb,Ω,oid,orw,Ω,Ω,y11,rfl,rfl⟩
  case hSb=>(intro q v hv;simp only[blk]at hv ⊢;((repeat' split at hv)<;>(repeat' split)<;>first|exact hv|(exfalso;omega)|(exfalso;have:=h.und _ _ hv;omega)))
 |cons i rest=>
  have hi:i<N:=y5 i xd5;have hgt:=decide_eq_true (Ω:(0:Int)<((rest.length+1:Nat):Int));have hJ0:=y6 0 Ωj;rw[xb1]at hJ0;have hJ1:J off 0=SV.val (.int .i64 (i:Nat)):=hJ0;rw[xe4]at y8;have hql:((rest.length+1:Nat):Int) - 1=((rest.length:Nat):Int):=by omega
  obtain⟨x0,e0⟩:=hsi i hi 0 Ω;obtain⟨x1,e1⟩:=hsi i hi 1 Ω;obtain⟨x2,e2⟩:=hsi i hi 2 Ω;obtain⟨x3,e3⟩:=hsi i hi 3 Ω;obtain⟨x4,e4⟩:=hsi i hi 4 Ω;simp only[Wh]at y2;have hor:qpt (outL++[i]) srow (λa b=>if a<outL.length then orw a b else [SV.val (.int .i64 x0),SV.val (.int .i64 x1),SV.val (.int .i64 x2),SV.val (.int .i64 x3),SV.val (.int .i64 x4)].getD ((a - outL.length)*5+b) SV.top):=λa ha b hb=>by
   rw[xc8,xd1]at ha;by_cases hc:a<outL.length
   ·show(if a<outL.length then orw a b else _)=_
    rw[if_pos hc,y11 a hc b hb,xc6,xc6,xc9 hc]
   ·grind
  obtain⟨or2,hor2⟩:∃or2,or2=(λa b=>if a<outL.length then orw a b else [SV.val (.int .i64 x0),SV.val (.int .i64 x1),SV.val (.int .i64 x2),SV.val (.int .i64 x3),SV.val (.int .i64 x4)].getD ((a - outL.length)*5+b) SV.top):=⟨_,rfl⟩;rw[←hor2]at hor;have hl5:=h.l5 i hi;rcases h.nx i hi with⟨c1,c2⟩|⟨xi,r,c1,c2,c3⟩
  ·rw[c1]at y2
   simp only[YD]at y2;repeat' first|refine sD ?_ ?_<;>intro _|refine aAg ?_|simp -dsimp only[↓RP,RQ,seval,c2,hgt,hql,h.tb,h.xid,hsr,hJ1,e0,e1,e2,e3,e4,hdr0,qnO,↓RY,NB,QS,QT,qT,QN]
   all_goals try exact Ωe
   refine qo (λ(z:Unit)=>True) (λ_=>⟨[(0,.ptr tb 0),(5,.vec (id+7) N 1),(6,.que wid (off+1) (rest.length) 1),(7,.vec (n2+19) (outL.length+1) 5)]++[(51,.val (.int .i64 0)),(52,.val (.int .i64 0))],(wid,.rows 3 1 (off+1+rest.length) J) ::(id+7,.rows 3 1 N byr) ::(n2+19,.rows 140 5 (outL.length+1) or2) :: H,n2+100⟩) (λ_=>0) () trivial (qp Ω Ωh ?hSa) λz hz=>?_
   case hSa=>rw[hor2,show off+1+rest.length=off+(rest.length+1) by omega];(intro q v hv;simp only[blk]at hv ⊢;((repeat' split at hv)<;>(repeat' split)<;>first|exact hv|(exfalso;omega)|(exfalso;have:=h.und _ _ hv;omega)))
   repeat' first|refine sD ?_ ?_<;>intro _|refine aAg ?_|simp -dsimp only[↓RP,RQ,seval,↓RY,NB,QS,QT,qT,QN]
   all_goals try exact Ωe
   have hq:QJ N L fu n1 (id+8) srow res0 f (c+1) seen byr rest wid (off+1) J (outL++[i]) (n2+19) or2:=⟨Ω,y2,y3,y4,λx hx=>y5 x (List.mem_cons_of_mem _ hx),λi hi=>by
    have:=y6 (i+1) Ωu;rw[show off+1+i=off+(i+1) by omega,this];rfl,Ω,Ω,y9,Ω,hor,by rw[xc8,xd1];omega,Ω,Ω,Ω⟩
   exact⟨(f,c+1,seen,byr,rest,wid,off+1,J,outL++[i],n2+19,or2),hq,Ωk,qp Ωk Ωh (by dsimp only;rw[xc8,xd1,show off+1+rest.length=off+(1+rest.length) by omega];exact SubHp.refl _)⟩
  ·have hxi:=h.und _ _ c2
   have NX:=(⟨nmA (Ω:xi<n2),nmE (Ω:xi≠wid),nmE (Ω:xi≠oid),nmA hxi⟩:_∧_∧_∧_);obtain⟨R3,hR3⟩:∃R3,R3=YD (L i) seen rest:=⟨_,rfl⟩;rw[←hR3]at y2;repeat' first|refine sD ?_ ?_<;>intro _|refine aAg ?_|simp -dsimp only[↓RP,RQ,seval,c1,hgt,hql,h.tb,h.xid,hsr,hJ1,e0,e1,e2,e3,e4,hdr0,qnO,↓RY,NB,QS,QT,qT,QN]
   all_goals try exact Ωe
   refine qo (λ(z:Nat×(Nat→Nat)×(Nat→Nat→SV)×List Nat×Nat×Nat×(Nat→Nat→SV))=>RJ N L i c n1 (n2+40) (id+8) rest.length R3 (n2+19) z.1 z.2.1 z.2.2.1 z.2.2.2.1 z.2.2.2.2.1 z.2.2.2.2.2.1 z.2.2.2.2.2.2) (λz=>⟨[(0,.ptr tb 0),(5,.vec (id+7) N 1),(6,.que z.2.2.2.2.1 (z.2.2.2.2.2.1) (z.2.2.2.1.length) 1),(7,.vec (n2+19) (outL.length+1) 5)]++[(50,.vec xi (L i).length 1),(51,.val (.int .i64 ((L i).length:Nat))),(52,.val (.int .i64 (z.1:Nat)))],(z.2.2.2.2.1,.rows 3 1 (z.2.2.2.2.2.1+z.2.2.2.1.length) z.2.2.2.2.2.2) ::(id+7,.rows 3 1 N z.2.2.1) ::(n2+19,.rows 140 5 (outL.length+1) or2) :: H,n2+40+60*z.1⟩) (λz=>(L i).length - z.1) (0,seen,byr,rest,wid,off+1,J) (by
     have:RJ N L i c n1 (n2+40) (id+8) rest.length R3 (n2+19) 0 seen byr rest wid (off+1) J:=⟨xb6 _,hR3.symm,y3,y4,λx hx=>y5 x (List.mem_cons_of_mem _ hx),λi hi=>by
      have:=y6 (i+1) Ωu;rw[show off+1+i=off+(i+1) by omega,this];rfl,Ω,Ω,y9,Ω,Ω⟩
     exact this) (qp Ωk Ωh ?hSc) λz hz=>?_
   case hSc=>dsimp only;rw[hor2,show off+1+rest.length=off+(rest.length+1) by omega];(intro q v hv;simp only[blk]at hv ⊢;((repeat' split at hv)<;>(repeat' split)<;>first|exact hv|(exfalso;omega)|(exfalso;have:=h.und _ _ hv;omega)))
   obtain⟨k,seen1,byr1,wait1,wid1,off1,J1⟩:=z;have hz':RJ N L i c n1 (n2+40) (id+8) rest.length R3 (n2+19) k seen1 byr1 wait1 wid1 off1 J1:=hz;obtain⟨v1,v2,v3,v4,v5,v6,v7,v8,v9,v10,v11⟩:=hz';dsimp only;obtain⟨n3,hn3⟩:∃n3,n3=n2+40+60*k:=⟨_,rfl⟩;rw[←hn3]at v10 ⊢;clear NB NX;have NB:=(⟨nmA (Ω:tb<n3),nmA (Ω:xid<n3),nmA v10,nmE (Ω:wid1≠tb),nmE (Ω:wid1≠xid),nmE (Ω:wid1≠id+7),nmE v11,nmA htb,nmA hxid,nmA (Ω:id+7<n3),nmA (Ω:xi<n3),nmE (Ω:xi≠wid1),nmA hxi,nmA (Ω:n2+19<n3),nmA (Ω:xi<n2),nmA (Ω:id+7<n2)⟩:_∧_∧_∧_∧_∧_∧_∧_∧_∧_∧_∧_∧_∧_∧_∧_);by_cases hkl:k<(L i).length
   ·have hk1:=decide_eq_true (Ω:((k:Nat):Int)<((L i).length:Nat))
    have hdr2:dropBlk H wid1=H:=zf (h.und.none Ω);obtain⟨to,hto⟩:∃to,to=(L i).getD k 0:=⟨_,rfl⟩;have hgi:(L i)[k]? = some to:=by rw[hto,xc6,xc7 hkl];rfl
    have htoN:to<N:=h.inn i hi to (List.mem_of_getElem? hgi);have hdr:(L i).drop k=to ::(L i).drop (k+1):=by
     simp_all
    rw[hdr]at v2;simp only[YD]at v2;have hrk:=c3 k hkl;rw[←hto]at hrk;have hrt:=v3 to htoN;have hle:=v4 to htoN;by_cases hb1:seen1 to=0
    ·rw[if_pos hb1]at v2
     have hb2:=decide_eq_true (Ω:((seen1 to:Nat):Int)=0);repeat' first|refine sD ?_ ?_<;>intro _|refine aAg ?_|simp -dsimp only[↓RP,RQ,seval,hk1,hrk,hrt,hb2,c2,↓RY,NB,QS,QT,qT,QN]
     all_goals try exact Ωe
     refine Kq (qK ?_);(repeat' first|refine sD ?_ ?_<;>intro _|refine aAg ?_|simp -dsimp only[↓RP,RQ,seval,hdr0,hdr2,hk1,hrk,hrt,hb2,c2,↓RY,NB,QS,QT,qT,QN]);refine qK ?_;(repeat' first|refine sD ?_ ?_<;>intro _|refine aAg ?_|simp -dsimp only[↓RP,RQ,seval,hdr0,hdr2,hk1,hrk,hrt,hb2,c2,↓RY,NB,QS,QT,qT,QN]);refine qK ?_;(repeat' first|refine sD ?_ ?_<;>intro _|refine aAg ?_|simp -dsimp only[↓RP,RQ,seval,hdr0,hdr2,hk1,hrk,hrt,hb2,c2,↓RY,NB,QS,QT,qT,QN]);refine ju rfl (qiB (id:=wid1) (off:=off1) (n:=wait1.length) (n':=off1+wait1.length) (m:=1) (k:=1) (e:=3) (row:=J1) (row2:=λi j=>[SV.val (.int .i64 (to:Nat))].getD (i+j) SV.top) (obl2:=1≤1∧1=1) qbg ty3 rfl Ω rfl rfl (by show rowsOf _ (SV.vec (n3+15) 1 1)=_;simp[rowsOf,blk]) (by exact⟨xa5 _,rfl⟩) (by exact one1 _) Ω4 (xa5 _) Ω Ω (by rw[by3];omega) Ωk ?_ ?_)
     ·refine qK ?_
      repeat' first|refine sD ?_ ?_<;>intro _|refine aAg ?_|simp -dsimp only[↓RP,RQ,seval,ji,hdr0,hdr2,hk1,hrk,hrt,hb2,c2,↓RY,NB,QS,QT,qT,QN]
      all_goals try exact Ωe
      have hRI:RJ N L i c n1 (n2+40) (id+8) rest.length R3 (n2+19) (k+1) (setN seen1 to 1) (λa b=>if a=to∧b=0 then SV.val (.int .i64 1)else byr1 a b) (wait1++[to]) (n3+16) off1 (λi j=>if i<off1+wait1.length then J1 i j else [SV.val (.int .i64 (to:Nat))].getD (i -(off1+wait1.length)+j) SV.top):=by
       refine⟨hkl,v2,λx hx=>?_,λx hx=>?_,λx hx=>?_,λy hy=>?_,Ω,by rw[xc8,xd1];omega,Ω,Ω,Ω⟩
       ·by_cases e:x=to
        ·rw[if_pos ⟨e,rfl⟩];unfold setN;rw[if_pos e];rfl
        ·rw[if_neg (λe2=>e e2.1)];unfold setN;rw[if_neg e];exact v3 x hx
       ·unfold setN;split
        ·omega
        ·exact v4 x hx
       ·rcases List.mem_append.1 hx with h1|h1
        ·exact v5 x h1
        ·rw[List.mem_singleton.1 h1];exact htoN
       ·rw[xc8,xd1]at hy
        show(if off1+y<off1+wait1.length then J1 (off1+y) 0 else [SV.val (.int .i64 (to:Nat))].getD (off1+y -(off1+wait1.length)+0) SV.top)=_
        skip
        by_cases hc:y<wait1.length
        ·rw[if_pos Ω,v6 y hc,xc6,xc6,xc9 hc]
        ·obtain rfl:y=wait1.length:=by omega
         rw[if_neg Ω,xb8,xc6 (l:=wait1++[to]),xd0 (xa5 _),xb8];rfl
      refine⟨(k+1,setN seen1 to 1,_,wait1++[to],n3+16,off1,_),hRI,Ωk,qp Ωk Ωh ?_⟩;dsimp only;rw[xc8,xd1];exact SubHp.cons (SubHp.skip (show blk ((id+7,_) ::(n2+19,_) :: H) (n3+15)=none by simp only[blk];rw[if_neg Ω,if_neg Ω];exact h.und.none Ω) (SubHp.refl _))
     ·refine qK ?_
      repeat' first|refine sD ?_ ?_<;>intro _|refine aAg ?_|simp -dsimp only[↓RP,RQ,seval,ji,hdr0,hdr2,hk1,hrk,hrt,hb2,c2,↓RY,NB,QS,QT,qT,QN]
      all_goals try exact Ωe
      have hRI:RJ N L i c n1 (n2+40) (id+8) rest.length R3 (n2+19) (k+1) (setN seen1 to 1) (λa b=>if a=to∧b=0 then SV.val (.int .i64 1)else byr1 a b) (wait1++[to]) (n3+16) 0 (λi j=>if i<wait1.length then J1 (off1+i) j else [SV.val (.int .i64 (to:Nat))].getD (i - wait1.length+j) SV.top):=by
       refine⟨hkl,v2,λx hx=>?_,λx hx=>?_,λx hx=>?_,λy hy=>?_,Ω,by rw[xc8,xd1];omega,Ω,Ω,Ω⟩
       ·by_cases e:x=to
        ·rw[if_pos ⟨e,rfl⟩];unfold setN;rw[if_pos e];rfl
        ·rw[if_neg (λe2=>e e2.1)];unfold setN;rw[if_neg e];exact v3 x hx
       ·unfold setN;split
        ·omega
        ·exact v4 x hx
       ·rcases List.mem_append.1 hx with h1|h1
        ·exact v5 x h1
        ·rw[List.mem_singleton.1 h1];exact htoN
       ·rw[xc8,xd1]at hy
        show(if 0+y<wait1.length then J1 (off1+(0+y)) 0 else [SV.val (.int .i64 (to:Nat))].getD (0+y - wait1.length+0) SV.top)=_;rw[xb0];by_cases hc:y<wait1.length
        ·rw[if_pos Ω,v6 y hc,xc6,xc6,xc9 hc]
        ·obtain rfl:y=wait1.length:=by omega
         rw[if_neg Ω,xb8,xc6 (l:=wait1++[to]),xd0 (xa5 _),xb8];rfl
      refine⟨(k+1,setN seen1 to 1,_,wait1++[to],n3+16,0,_),hRI,Ωk,qp Ωk Ωh ?_⟩;dsimp only;rw[xc8,xd1,xb0];exact SubHp.cons (SubHp.skip (show blk ((id+7,_) ::(n2+19,_) :: H) (n3+15)=none by simp only[blk];rw[if_neg Ω,if_neg Ω];exact h.und.none Ω) (SubHp.refl _))
    ·rw[if_neg hb1]at v2
     have hb2:=decide_eq_false (Ω:¬((seen1 to:Nat):Int)=0);repeat' first|refine sD ?_ ?_<;>intro _|refine aAg ?_|simp -dsimp only[↓RP,RQ,seval,hk1,hrk,hrt,hb2,c2,↓RY,NB,QS,QT,qT,QN]
     all_goals try exact Ωe
     have hRI:RJ N L i c n1 (n2+40) (id+8) rest.length R3 (n2+19) (k+1) seen1 byr1 wait1 wid1 off1 J1:=⟨hkl,v2,v3,v4,v5,v6,v7,Ω,v9,Ω,v11⟩;exact⟨(k+1,seen1,byr1,wait1,wid1,off1,J1),hRI,Ωk,qp Ωk Ωh (SubHp.refl _)⟩
   ·have hk1:=decide_eq_false (Ω:¬((k:Nat):Int)<((L i).length:Nat))
    rw[List.drop_eq_nil_of_le Ω]at v2;simp only[YD]at v2;subst v2;repeat' first|refine sD ?_ ?_<;>intro _|refine aAg ?_|simp -dsimp only[↓RP,RQ,seval,hk1,↓RY,NB,QS,QT,qT,QN]
    all_goals try exact Ωe
    have hq:QJ N L fu n1 (id+8) srow res0 f (c+1) seen1 byr1 wait1 wid1 off1 J1 (outL++[i]) (n2+19) or2:=⟨Ω,y2,v3,v4,v5,v6,v7,Ω,v9,Ω,hor,by rw[xc8,xd1];omega,Ω,Ω,v11⟩;exact⟨(f,c+1,seen1,byr1,wait1,wid1,off1,J1,outL++[i],n2+19,or2),hq,Ωk,qp Ωk Ωh (by dsimp only;rw[xc8,xd1];exact SubHp.refl _)⟩
theorem qrQ{H:List (Nat×Blk)}{id tb tix m N i0:Nat}{u s:Nat→Int}{tr:Nat→Nat→SV}{Z1 Z2 R M:SV}(hU:Under H id)(hb:blk H tb=some (.cells 253 [.vec tix m 1,Z1,Z2,R,M]))(ht:blk H tix=some (.rows 3 1 m tr))(htu:∀i,i<m→tr i 0=.val (.int .i64 (u i)))(hm:m≤5)(hu:∀i,i<m→1≤u i∧u i≤12)(hs:∀i,i<m→0≤s i∧s i≤u i)
  (hi0:ixF u s m=(i0:Nat)) (sd:Nat→Nat→SV):EffVC Tryz.prog 162 [.ptr tb 0,.agg (stL s)] ((id+7,.rows 3 1 N sd) ::(id,.cells 140 (stL s)) :: H) (id+11) (λhp' nid' res=>hp'=((id+7,.rows 3 1 N sd) ::(id,.cells 140 (stL s)) :: H)∧nid'=id+11+200∧res=I (i0:Nat)):=by
 have htb:=hU _ _ hb;have hti:=hU _ _ ht;have hN:=hU.none (Ω:id≤id+11);rw[←hi0];refine qqu _ _ tb m u s tix tr Ω ?_ ?_ htu Z1 Z2 R M hm hu hs Ω ?_
 ·simp only[blk];rw[if_neg Ω,if_neg Ω];exact hN
 ·simp only[blk];rw[if_neg Ω,if_neg Ω];exact ht
 ·simp only[blk];rw[if_neg Ω,if_neg Ω];exact hb
theorem qrR{H:List (Nat×Blk)}{id tb m N i0:Nat}{o full:Bool}{row:Nat→Nat→SV}{u s:Nat→Int}{Z1 Z2 R M:SV}(hU:Under H id)(hb:blk H tb=some (.cells 253 [.arr o full m 1 row,Z1,Z2,R,M]))(htu:∀i,i<m→row i 0=.val (.int .i64 (u i)))(hm:m≤5)(hu:∀i,i<m→1≤u i∧u i≤12)(hs:∀i,i<m→0≤s i∧s i≤u i)
  (hi0:ixF u s m=(i0:Nat)) (sd:Nat→Nat→SV):EffVC Tryz.prog 162 [.ptr tb 0,.agg (stL s)] ((id+7,.rows 3 1 N sd) ::(id,.cells 140 (stL s)) :: H) (id+11) (λhp' nid' res=>hp'=((id+7,.rows 3 1 N sd) ::(id,.cells 140 (stL s)) :: H)∧nid'=id+11+200∧res=I (i0:Nat)):=by
 have htb:=hU _ _ hb;have hN:=hU.none (Ω:id≤id+11);rw[←hi0];refine qqv _ _ tb m u s o full row ?_ htu Z1 Z2 R M hm hu hs Ω ?_
 ·simp only[blk];rw[if_neg Ω,if_neg Ω];exact hN
 ·simp only[blk];rw[if_neg Ω,if_neg Ω];exact hb
end Go.Tn
end
section
namespace Go.Sx
open Go.Proofs
open Go.RowKit Go.Tn
noncomputable section
variable{ρ:Q}
def YF(s:SV):Bool:=match s with
 |.val (.int .i64 _)=>true
 |_=>false
theorem qha{s:SV}(h:YF s=true):∃x:Int,s=.val (.int .i64 x):=by
 unfold YF at h;split at h
 ·exact⟨_,rfl⟩
 ·cases h
def qfq(l:List SV)(r:R):R:=List.rec r (λa _ ih=>qg 520 (YF a) ih) l
theorem J3{r:R}:∀{l:List SV},qfq l r=.ok ρ→r=.ok ρ∧∀i,i<l.length→∃x:Int,l.getD i .top=.val (.int .i64 x)
 |[],h=>⟨h,λi hi=>by cases hi⟩
 |a :: l,h=>by
  have h:qg 520 (YF a) (qfq l r)=.ok ρ:=h;obtain⟨h1,h⟩:=qa h;obtain⟨h,h2⟩:=J3 h;refine⟨h,λi hi=>?_⟩;cases i with
  |zero=>exact qha h1
  |succ i=>exact h2 i (Nat.lt_of_succ_lt_succ hi)
def stK(us sl:List Nat)(m:Nat)(r:R):R:=Nat.rec (motive:=λ_=>Nat→R) (λ_=>r) (λ_ ih i=>qg 521 (Nat.ble 1 (us.getD i 0)) (qg 522 (Nat.ble (us.getD i 0) 12) (qg 523 (Nat.ble (sl.getD i 0) (us.getD i 0)) (qj (Nat.succ i) λi=>ih i)))) m 0
theorem qfr{us sl:List Nat}{r:R}:∀(m i:Nat),(Nat.rec (motive:=λ_=>Nat→R) (λ_=>r) (λ_ ih i=>qg 521 (Nat.ble 1 (us.getD i 0)) (qg 522 (Nat.ble (us.getD i 0) 12) (qg 523 (Nat.ble (sl.getD i 0) (us.getD i 0)) (qj (Nat.succ i) λi=>ih i)))) m i:R)=.ok ρ→r=.ok ρ∧∀j,i≤j→j<i+m→1≤us.getD j 0∧us.getD j 0≤12∧sl.getD j 0≤us.getD j 0
 |0,i,h=>⟨h,λj h1 h2=>by omega⟩
 |m+1,i,h=>by
  obtain⟨h1,h⟩:=qa h;obtain⟨h2,h⟩:=qa h;obtain⟨h3,h⟩:=qa h;rw[qe]at h;obtain⟨h,h4⟩:=qfr m (i+1) h;refine⟨h,λj hj1 hj2=>?_⟩;by_cases e:j=i
  ·simp_all
  ·grind
theorem qpu{us sl:List Nat}{m:Nat}{r:R}(h:stK us sl m r=.ok ρ):r=.ok ρ∧∀j,j<m→1≤us.getD j 0∧us.getD j 0≤12∧sl.getD j 0≤us.getD j 0:=by
 obtain⟨h1,h2⟩:=qfr m 0 h
 simp_all
def qbz(ss:List SV)(l:List Nat):List SV:=List.rec [] (λi _ ih=>(ss.drop (i*5)).take 5++ih) l
theorem qbA{ss:List SV}{N:Nat}(hs:ss.length=N*5):∀{l:List Nat},(∀i,i∈l→i<N)→(qbz ss l).length=l.length*5∧∀k j,k<l.length→j<5→(qbz ss l).getD (k*5+j) .top=ss.getD (l.getD k 0*5+j) .top
 |[],_=>⟨rfl,λk j hk=>by cases hk⟩
 |a :: l,h=>by
  have⟨h1,h2⟩:=qbA hs (l:=l) λi hi=>h i (List.mem_cons_of_mem _ hi);have ha:=h a xd5;have e:qbz ss (a :: l)=(ss.drop (a*5)).take 5++qbz ss l:=rfl;have l5:((ss.drop (a*5)).take 5).length=5:=by rw[xd9,List.length_drop,hs];omega
  rw[e];refine⟨by rw[xc8,l5,h1,xe4];omega,λk j hk hj=>?_⟩;rw[xc6,xc6];cases k with
  |zero=>
   grind
  |succ k=>
   grind
def qpv(hp:Tr 6 XB)(A:SV)(f:Nat→List SV→R):R:=
 match A with
 |.vec tix m 1=>(match hp.find tix with
  |some (.rows 3 1 m2 ts)=>qg 533 (Nat.beq m2 m) (f m ts)
  |_=>.bad 542 0)
 |.arr _ _ m 1 row=>f m (List.ofFn λ(i:Fin m)=>row i.1 0)
 |_=>.bad 543 0
theorem qnm{hp:Tr 6 XB}{LM:Nat→Option Loop}{H:List (Nat×Blk)}(hH:HRel LM hp H){A:SV}{f:Nat→List SV→R}(h:qpv hp A f=.ok ρ):∃m ts,f m ts=.ok ρ∧ts.length=m∧((∃tix tr,A=.vec tix m 1∧blk H tix=some (.rows 3 1 m tr)∧∀i,i<m→tr i 0=ts.getD i .top)∨∃o full row,A=.arr o full m 1 row∧∀i,i<m→row i 0=ts.getD i .top):=by
 unfold qpv at h;split at h
 ·split at h
  ·rename_i m2 ts hf
   obtain⟨a,h⟩:=qa h;have a:=xa6 a;subst a;obtain⟨row,hb,l,g⟩:=hH.rows hf
   grind
  ·cases h
 ·grind
 ·cases h
def qlh(args:List SV)(hp:Tr 6 XB)(nid:Nat)(k:SV→Tr 6 XB→Nat→R):R:=
 match args with
 |[.ptr tb 0,.agg st]=>(match hp.find tb with
  |some (.cells 253 [A,.vec sid n' 5,.vec xid n 1,_,_])=>(match hp.find xid,hp.find sid with
   |some (.rows 22 1 n1 xs),some (.rows 140 5 n2 ss)=>qpv hp A λm ts=>
    qg 530 (Nat.beq n' n) (qg 531 (Nat.beq n1 n) (qg 532 (Nat.beq n2 n) (qg 534 (Nat.ble n 1000) (qg 535 (Nat.ble m 5) (qg 536 (Nat.beq st.length 5)
     (qbw ts λus=>qbw st λsl=>stK us sl m (qfq ss (J2 hp tb xs λL=>qnk n L (qj (ixF (λi=>((us.getD i 0:Nat):Int)) (λi=>((sl.getD i 0:Nat):Int)) m).toNat λi0=>qg 537 (Nat.ble (Nat.succ i0) n)
      (match Wh (λi=>L.getD i []) (n+1) (Go.Tn.setN (λ_=>0) i0 1) [i0] []with
       |none=>.bad 538 0
       |some l=>qnj l λl=>ltK n l (qj nid λnid=>qj l.length λc=>jj (qbz ss l) λo=>zl (some (.rows 140 5 c o)) 22 hp nid λhp=>qj (Nat.succ nid) λn2=>k (.vec nid c 5) hp n2)))))))))))
   |_,_=>.bad 539 0)
  |_=>.bad 540 0)
 |_=>.bad 541 0
theorem qli:Qu Tryz.prog 262 qlh:=by
 intro ρ LM O args hp k st K hH h hk;unfold qlh at h;split at h
 ·rename_i tb sv
  split at h
  ·rename_i A sid n' xid n Rr M hft
   split at h
   ·rename_i n1 xs n2 ss hfx hfs
    obtain⟨m2,ts,h,tl,hthr⟩:=qnm hH h;obtain⟨a1,h⟩:=qa h;obtain⟨a2,h⟩:=qa h;obtain⟨a3,h⟩:=qa h;obtain⟨a5,h⟩:=qa h;obtain⟨a6,h⟩:=qa h;obtain⟨a7,h⟩:=qa h;obtain⟨us,h,u1,u2⟩:=Z0 h;obtain⟨sl,h,s1,s2⟩:=Z0 h;obtain⟨h,b1⟩:=qpu h;obtain⟨h,b5⟩:=J3 h;obtain⟨L,h,b2,b3⟩:=Qf h;obtain⟨h,b4⟩:=YC h;rw[qe]at h;obtain⟨a8,h⟩:=qa h;have e1:=xa6 a1;have e2:=xa6 a2;have e3:=xa6 a3;have hN:=xa7 a5;have hm:=xa7 a6;have h5:=xa6 a7;have hi0:=xa7 a8;subst e1 e2 e3;split at h
    ·cases h
    ·rename_i l hF
     rw[YB]at h;obtain⟨h,c1⟩:=YA h;rw[qe,qe,qW]at h;obtain⟨hp1,p1,h⟩:=qH _ _ _ _ h;rw[qe]at h;obtain⟨rowx,hbx,lx,gx⟩:=hH.rows hfx;obtain⟨rows,hbs,ls,gs⟩:=hH.rows hfs;have hbt:=hH.cells hft;intro base okc ns r outs a w vs hI hlen hv;have keys:=hI.keys;have hmem:∀i,i<n2→L.getD i []∈L:=λi hi=>by
      rw[xc6,xc7 Ω];exact List.getElem_mem _
     have hC:Go.Tn.Cl n2 (λi=>L.getD i []) rowx st.hp st.nid tb xid A Rr M sid:=by
      refine⟨Ω,λi hi=>(b4 _ (hmem i hi)).1,λi hi=>(b4 _ (hmem i hi)).2,hbt,hbx,λi hi=>?_,λk x hx=>keys k x hx⟩;have gxi:=gx i 0 hi Ω;rw[Nat.mul_one,xb1]at gxi;rcases b3 i Ω with⟨c1,c2⟩|⟨xi,n,l,c1,c2,c3,c4,c5,c6⟩
      ·exact .inl ⟨c2,by rw[gxi,c1]⟩
      ·obtain⟨r,d1,d2,d3⟩:=hH.rows c4
       have el:(L.getD i []).length=n:=by omega
       refine .inr ⟨xi,r,by rw[gxi,c1,el],by rw[d1,el],λj hj=>?_⟩;have hj:j<(L.getD i []).length:=hj;rw[d3 j 0 Ω Ω,Nat.mul_one,xb1];exact c6 j Ω
     have hst:sv=stL (λi=>((sl.getD i 0:Nat):Int)):=by
      refine List.ext_getElem (by rw[h5];rfl) λj h1 h2=>?_;have:=s2 j h1;rw[xc6,xc7 h1]at this;have h3:j<5:=by omega
      have h4:=Yc (s:=λi=>((sl.getD i 0:Nat):Int)) h3;rw[xc7 h2]at h4;rw[Option.some.inj h4];exact this
     have hbb:=Ky (u:=λi=>((us.getD i 0:Nat):Int)) (s:=λi=>((sl.getD i 0:Nat):Int)) (m:=m2) (λi hi=>by have:=b1 i hi;omega) (xa5 m2);have hU:Under st.hp st.nid:=λk x hx=>keys k x hx;have hu1:∀i,i<m2→(1:Int)≤((us.getD i 0:Nat):Int)∧((us.getD i 0:Nat):Int)≤12:=λi hi=>by have:=b1 i hi;omega
     have hs1:∀i,i<m2→(0:Int)≤((sl.getD i 0:Nat):Int)∧((sl.getD i 0:Nat):Int)≤((us.getD i 0:Nat):Int):=λi hi=>by have:=b1 i hi;omega
     have E:=qrP n2 _ rowx st.hp st.nid tb xid sid A Rr M (λi=>((sl.getD i 0:Nat):Int)) rows (ixF (λi=>((us.getD i 0:Nat):Int)) (λi=>((sl.getD i 0:Nat):Int)) m2).toNat (n2+1) l hC Ω hbs
      (λi hi j hj=>by
       rw[gs i j hi hj];exact b5 _ (by rw[ls];have:i*5+5≤n2*5:=Ω;omega)) (by
      rcases hthr with⟨tix,tr,rfl,t1,t2⟩|⟨o,full,row,rfl,t2⟩
      ·exact qrQ hU hbt t1 (λi hi=>(t2 i hi).trans (u2 i Ω)) hm hu1 hs1 (by rw[Int.toNat_of_nonneg hbb.1])
      ·exact qrR hU hbt (λi hi=>(t2 i hi).trans (u2 i Ω)) hm hu1 hs1 (by rw[Int.toNat_of_nonneg hbb.1])) Ω hF
     rw[←hst]at E;refine JZ (E O st.fr) (λst' sv hself hq=>?_) base okc ns r outs a w vs hI hlen hv;obtain⟨fr',hp',nid'⟩:=st';obtain⟨q0,q1,oid,rr,z1,z2,q3,q4,q5⟩:=hq;simp only[]at q0 q1 q4;subst q0 q4 q5;have hl5:=qbA (N:=n2) (by rw[ls]) (l:=l) c1;refine⟨oid,(st.nid,.rows 140 5 l.length rr) :: st.hp,.vec st.nid l.length 5,st.nid+1,rfl,z1,λid y hy=>?_,?_,xc4 _,hk _ hp1 _ _ (λid b hb=>?_) h⟩
     ·simp only[blk]at hy
      split at hy
      ·rename_i e
       cases hy;refine⟨.inr ⟨e,by simp[blk],xa5 _⟩,rfl,rfl,xa5 _,λi j hi hj=>?_⟩;have hli:l.getD i 0<n2:=c1 _ (by rw[xc6,xc7 hi];exact List.getElem_mem _);rw[q3 i hi j hj,gs _ j hli hj];obtain⟨x,hx⟩:=b5 (l.getD i 0*5+j) (by rw[ls];omega);rw[hx];simp[Wk]
      ·have hlt:=keys id y hy
       refine⟨.inl ⟨hlt,?_⟩,hself _ _ _ (xc4 _) _ _ hy⟩;simp only[blk];rw[if_neg Ω];exact hy
     ·unfold Wk
      refine⟨Ω,?_,rfl,rfl⟩;simp[ren]
     ·rw[p1 id]at hb
      simp only[blk];by_cases e:id=st.nid
      ·rw[if_pos e]at hb ⊢
       cases hb;refine⟨_,rfl,rfl,rfl,rfl,hl5.1,λi j hi hj=>?_⟩;have hli:l.getD i 0<n2:=c1 _ (by rw[xc6,xc7 hi];exact List.getElem_mem _);rw[hl5.2 i j hi hj,q3 i hi j hj,gs _ j hli hj]
      ·rw[if_neg e]at hb ⊢
       exact hH id b hb
   ·cases h
  ·cases h
 ·cases h
end
end Go.Sx
end
section
namespace Go.Sx
open Go.RowKit
variable{e t:TypeId}{k n':Nat}{row:Nat→Nat→SV}
section
variable{P:Program}
def jP(row:Nat→Nat→SV)(i0 j0 m:Nat):Nat→Nat→SV:=λx j=>if i0≤x∧x<i0+m then row (j0+(x - i0)) j else row x j
theorem qhb{base:World}{okc:Nat→Prop}{r:Nat→Option Nat}{N:Nat→Prop}{hp:List (Nat×Blk)}{w:World}(h:Sat base okc r N hp w){ty:TypeId}{i:TypeInfo}(ht:P.underlying t=some (.slice e))(hi:P.info? e=some i)(hk:i.size=k)(hpos:0<k)
  {id i0 j0 m:Nat}  {u v:Value} (hu:Rep r N (Gd base okc r N hp w) w (.vec id i0 k) u) (hv:Rep r N (Gd base okc r N hp w) w (.que id j0 m k) v) (hblk:blk hp id=some (.rows e k n' row)) (hi0:i0+m≤n') (hj0:j0+m≤n') (h9:oneRows m k λx j=>row (j0+x) j) :
  ∃z w',(Builtin.append_ #[t,t] ty #[u,v]).run P w=.ok z w'∧Step base okc r N hp w r N (setBlk hp id (.rows e k n' (jP row i0 j0 m))) w'∧Rep r N (Gd base okc r N (setBlk hp id (.rows e k n' (jP row i0 j0 m))) w') w' (.vec id (i0+m) k) z:=by
 have hN:N id:=by cases hu<;>assumption
 have hrep:=h.rep _ _ hblk hN;obtain⟨a2,c2,hv2⟩:∃a2 c2,v=.slice a2 m c2:=by cases hv<;>exact⟨_,_,rfl⟩
 by_cases hm0:m=0
 ·subst hm0
  have hst:Step base okc r N hp w r N (setBlk hp id (.rows e k n' (jP row i0 j0 0))) w:=h.same hblk λG' hG' _=>by
   cases hr:r id with
   |none=>
    rw[hr]at hrep;cases hrep with
    |none _ _ _=>exact .none _ _ _
   |some b=>
    rw[hr]at hrep;cases hrep with
    |rows _ _ _ _ _ cs hb' hl hes=>
     refine .rows _ _ _ _ b cs hb' hl λx j hx hj=>?_;have e:jP row i0 j0 0 x j=row x j:=by unfold jP;rw[if_neg Ω]
     rw[e];exact(hes x j hx hj).mono (λ_ _=>rfl) (λ_ h=>h) (λo c hc=>⟨hG' o c hc,rfl⟩) (Shapes.refl w)
  obtain⟨a1,c1,hu1,hle⟩:∃a1 c1,u=.slice a1 i0 c1∧i0≤c1:=by cases hu<;>exact⟨_,_,rfl,Ω⟩
  have hrun:=gH (P:=P) (w:=w) t ty e i ht hi a1 a2 i0 c1 c2 hle;rw[←hu1,←hv2]at hrun;exact⟨_,_,hrun,hst,hst.rep hu⟩
 ·cases hu with
  |vecNil _ _ _ hrn=>
   rw[hrn]at hrep;cases hrep with
   |none _ _ _=>omega
  |vec _ _ _ b cap cs tt _ hrn hb hcs hcap hmx=>
   rw[hrn]at hrep;cases hrep with
   |rows _ _ _ _ _ cs' hb' hl hes=>
    rw[hb]at hb';simp only[Option.some.injEq,Obj.cells.injEq,and_true]at hb';obtain⟨rfl,rfl⟩:=hb';have hnc:n'≤cap:=by
     rw[hcs]at hl;exact Nat.le_of_mul_le_mul_right hl hpos
    cases hv with
    |queNil _ _ _ a hN'=>exact absurd rfl hm0
    |que _ _ _ _ b2 Jq cs2 t2 _ hr2 hb2 _ hcap2 _=>
    rw[hrn]at hr2;cases hr2;obtain⟨f2,hf2⟩:∃f2:Nat→Nat→Value,f2=λx j=>cs.getD ((j0+x)*k+j) undef:=⟨_,rfl⟩;have hc2:∀x j,x<m→j<k→w.cell? ⟨b,j0*k+(x*k+j),none⟩=some (f2 x j):=λx j hx hj=>by
     have:=zR (Ω:j0+x<n') hj;rw[←xb2,←Nat.add_mul,hf2];exact zK hb _ Ω
    have hrp2:∀x j,x<m→j<k→Rep r N (Gd base okc r N hp w) w (row (j0+x) j) (f2 x j):=λx j hx hj=>by
     grind
    have hfit:i0*i.size+(qF f2 m k).length≤cs.size:=by rw[qu,hk,hcs,←Nat.add_mul];exact xa8 _ Ω
    have hrun:=run_append_room (P:=P) w t ty tt i ht hi b i0 cap cs hb ⟨b,j0*k,none⟩ m Jq (qF f2 m k) (by rw[qu,hk]) (jr hc2 hpos) (wX hrp2 h9 hpos) Ω hfit;have hsz:(cs.toList.take (i0*i.size)++qF f2 m k++cs.toList.drop (i0*i.size+(qF f2 m k).length)).toArray.size=cs.size:=by
     grind
    have hsh:=gy (w:=w) hb hsz;have hb3:=setRow_heap w b cs (cs.toList.take (i0*i.size)++qF f2 m k++cs.toList.drop (i0*i.size+(qF f2 m k).length)).toArray tt _ hb;have hst:Step base okc r N hp w r N (setBlk hp id (.rows tt k n' (jP row i0 j0 m))) (w.setRow b (cs.toList.take (i0*i.size)++qF f2 m k++cs.toList.drop (i0*i.size+(qF f2 m k).length)).toArray):=
     h.upd hblk hN hrn (.rows tt k n' (jP row i0 j0 m)) (gY h.below (h.own _ _ _ hblk hN hrn) _) hsh ΩQ (λc hc=>zn w b _ hc) λG' hG'=>by
      refine .rows _ _ _ _ b _ hb3 (by rw[hsz];exact hl) λx j hx hj=>?_;have hcell:((cs.toList.take (i0*i.size)++qF f2 m k++cs.toList.drop (i0*i.size+(qF f2 m k).length)).toArray).getD (x*k+j) undef=if i0≤x∧x<i0+m then f2 (x - i0) j else cs.getD (x*k+j) undef:=by
       have hnl:i0*k≤cs.size:=by rw[hcs];exact xa8 _ Ω
       have hxs:x*k+j<cs.size:=by have:=zR hx hj;omega
       simp only[xf5,xe2,hk];have hmin:min (i0*k) cs.toList.length=i0*k:=by simp;omega
       by_cases hxn:x<i0
       ·have:=zR hxn hj
        rw[if_neg Ω,List.append_assoc,xc9 Ωu,List.getElem?_take_of_lt this];simp
       ·have hle:i0*k≤x*k:=xa8 _ Ω
        by_cases hxm:x<i0+m
        ·have hlt:=zR (Ω:x - i0<m) hj
         rw[Nat.sub_mul]at hlt;rw[if_pos Ω,xc9 ΩF,xd0 Ω1,xd9,hmin];have e:x*k+j - i0*k=(x - i0)*k+j:=by rw[Nat.sub_mul];omega
         rw[e,gz _ _ _ _ _ Ω hj];rfl
        ·have hle2:(i0+m)*k≤x*k:=xa8 _ Ω
         rw[Nat.add_mul]at hle2;rw[if_neg Ω,xd0 ΩF,xc8,xd9,qu,hmin,List.getElem?_drop];rw[show i0*k+m*k+(x*k+j -(i0*k+m*k))=x*k+j by omega];simp
      rw[hcell];unfold jP;by_cases hxn:i0≤x∧x<i0+m
      ·rw[if_pos hxn,if_pos hxn];exact(hrp2 _ j Ω hj).mono (λ_ _=>rfl) (λ_ h=>h) (λo c hc=>⟨hG' o c hc,zn w b _ λe=>hc.2.1 id _ hblk hN (by rw[e];exact hrn)⟩) hsh
      ·rw[if_neg hxn,if_neg hxn];exact(hes x j Ω hj).mono (λ_ _=>rfl) (λ_ h=>h) (λo c hc=>⟨hG' o c hc,zn w b _ λe=>hc.2.1 id _ hblk hN (by rw[e];exact hrn)⟩) hsh
    exact⟨_,_,hrun,hst,.vec _ _ _ b cap _ tt hN hrn hb3 (hsz.trans hcs) Ω hmx⟩
theorem qnn{O:Ctx}{x y:Operand}{id i0 j0 m:Nat}{st:St}{K:St→SV→Prop}{ag:Bool}{sz:Nat}{z0:Option (List Value)}
  (ht:qk P t=some ⟨ag,sz,z0,.slice e k⟩) (hpos:0<k)
  (hx:env (look st.fr) x=.vec id i0 k) (hy:env (look st.fr) y=.que id j0 m k) (hb:blk st.hp id=some (.rows e k n' row)) (hi0:i0+m≤n') (hj0:j0+m≤n') (h9:oneRows m k λx j=>row (j0+x) j)
  (hA:K ⟨st.fr,setBlk st.hp id (.rows e k n' (jP row i0 j0 m)),st.nid⟩ (.vec id (i0+m) k)):OpVC P O (.call ⟨.builtin .append,#[x,y],#[t,t]⟩) st K:=by
 intro base okc ns r outs a w o ho hi;obtain⟨hts,i,hi',hk⟩:=zI ht;have hu:=hi.env x;rw[hx]at hu;have hv:=hi.env y;rw[hy]at hv;generalize hex:a.eval x=u at hu;generalize hey:a.eval y=v at hv;obtain⟨v',w',hrun,hst,hrep⟩:=qhb (ty:=o.type) hi.sat hts hi' hk hpos hu hv hb hi0 hj0 h9;have e0:execOp a.eval o=(do pure (.value (←Builtin.append_ #[t,t] o.type #[u,v]))):=by
  obtain⟨dst,op,type,pos,aft,guard⟩:=o;simp only[]at ho;subst ho;simp[execOp,Go.resolve,Go.invoke,Go.builtin,hex,hey]
 have erun:(execOp a.eval o).run P w=.ok (.value v') w':=by
  simp_all
 refine⟨v',w',erun,_,r,_,hA,xa5 _,?_,hrep⟩;have hkey:∀(j:Nat)(z:Blk),blk (setBlk st.hp id (.rows e k n' (jP row i0 j0 m))) j=some z→j<st.nid:=λj z hz=>by
  rw[qn]at hz;split at hz
  ·rename_i e;subst e;exact hi.keys _ _ hb
  ·exact hi.keys j z hz
 have:=hi.step hst hkey (xa5 _) (d:=none) (λt ht=>by cases ht) (.val undef);exact this
theorem qdq{O:Ctx}{x lo hi:Operand}{id n l h:Nat}{kl kh:IntKind}{st:St}{K:St→SV→Prop}{ag:Bool}{sz:Nat}{z0:Option (List Value)}
  (ht:qk P t=some ⟨ag,sz,z0,.slice e k⟩) (hpos:0<k)
  (hx:env (look st.fr) x=.vec id n k) (hlo:env (look st.fr) lo=.val (.int kl (l:Nat))) (hhi:env (look st.fr) hi=.val (.int kh (h:Nat))) (hb:blk st.hp id=some (.rows e k n' row)) (hlh:l≤h) (hh:h≤n')
  (hA:K st (.que id l (h - l) k)):OpVC P O (.slice t x (some lo) (some hi) none) st K:=by
 intro base okc ns r outs a w o ho hI;obtain⟨hts,i,hi',hk⟩:=zI ht;have hu:=hI.env x;rw[hx]at hu;have hv:=hI.env lo;rw[hlo]at hv;have hv2:=hI.env hi;rw[hhi]at hv2;generalize hex:a.eval x=u at hu;generalize hey:a.eval lo=v at hv;generalize hez:a.eval hi=v2 at hv2;cases hv;cases hv2;have e0:execOp a.eval o=(do pure (.value (←Instr.sliceAt t u (some (.int kl (l:Nat))) (some (.int kh (h:Nat))) none))):=by
  obtain⟨dst,op,type,pos,aft,guard⟩:=o;simp only[]at ho;subst ho;simp[execOp,hex,hey,hez]
 have hN:id<st.nid:=by cases hu<;>assumption
 have hrep:=hI.sat.rep _ _ hb hN;have fin:∀v',(Instr.sliceAt t u (some (.int kl (l:Nat))) (some (.int kh (h:Nat))) none).run P w=.ok v' w→Rep r (· < st.nid) (Gd base okc r (· < st.nid) st.hp w) w (.que id l (h - l) k) v'→_:=λv' hrun hr=>
  (⟨v',w,by rw[e0];simp only[Sem.run_bind,hrun,Result.andThen_ok,Sem.run_pure],st,r,_,hA,xa5 _,hI,hr⟩:∃v w',(execOp a.eval o).run P w=.ok (.value v) w'∧∃st' r' res,K st' res∧st.nid≤st'.nid∧InvR O base okc ns st'.nid r' outs st' a w'∧Rep r' (· < st'.nid) (Gd base okc r' (· < st'.nid) st'.hp w') w' res v)
 cases hu with
 |vecNil _ _ _ hrn=>
  rw[hrn]at hrep;cases hrep with
  |none _ _ _=>
   obtain rfl:h=0:=by omega
   obtain rfl:l=0:=by omega
   refine fin _ (zt hts hi' (zc true 0 0 0 0 0 (.inr ⟨kl,rfl⟩) (.inr ⟨kh,rfl⟩) (.inl ⟨rfl,rfl⟩) (xa5 _) (xa5 _) (xa5 _))) ?_;exact .queNil _ _ _ _ hN
 |vec _ _ _ b cap cs tt _ hrn hbb hcs hcap hmx=>
  rw[hrn]at hrep;cases hrep with
  |rows _ _ _ _ _ cs' hb' hl hes=>
   rw[hbb]at hb';simp only[Option.some.injEq,Obj.cells.injEq,and_true]at hb';obtain⟨rfl,rfl⟩:=hb';have hnc:n'≤cap:=by
    rw[hcs]at hl;exact Nat.le_of_mul_le_mul_right hl hpos
   refine fin _ (zt hts hi' (zc true n cap l h cap (.inr ⟨kl,rfl⟩) (.inr ⟨kh,rfl⟩) (.inl ⟨rfl,rfl⟩) hlh Ω (xa5 _))) ?_;by_cases e:cap=l
   ·rw[if_pos e]
    rw[show h - l=0 by omega,show cap - l=0 by omega];exact .queNil _ _ _ _ hN
   ·rw[if_neg e]
    simp only[xg1,qU,xb0];rw[hk];exact .que _ _ _ _ b (cap - l) cs tt hN hrn hbb (by rw[hcs];congr 1;omega) Ω Ω
end
end Go.Sx
end
section
namespace Go.Tn
open Go.Proofs
open Go.Sx
def pc(m:Nat):Nat:=(m.testBit 0).toNat+(m.testBit 1).toNat+(m.testBit 2).toNat+(m.testBit 3).toNat+(m.testBit 4).toNat+(m.testBit 5).toNat+(m.testBit 6).toNat+(m.testBit 7).toNat
theorem qrS(H:List (Nat×Blk))(id oid n nn i j:Nat)(row:Nat→Nat→SV)(hn:n≤100000)(hnn:n≤nn)(hij:i<j)(hj:j≤n)(hb:blk H oid=some (.rows 3 1 nn row))(hid:oid<id)(hone:∀x,x<n→∃v:Int,row x 0=.val (.int .i64 v)) :
  EffVC Tryz.prog 186 [.vec oid n 1,.val (.int .i64 (i:Nat)),.val (.int .i64 (j:Nat))] H id (λhp' nid' res=>nid'=id+60∧res=.vec oid (n -(j - i)) 1∧∃r,(∀x,x<nn→r x 0=if n -(j - i)≤x∧x<n then .val (.int .i64 0)else jP row i j (n - j) x 0)∧hp'=setBlk H oid (.rows 3 1 nn r)):=by
 refine yP (qV [(5,[(0,0)]),(6,[(0,0)])]) follows Tryz.func186 rfl Ωb Ωb (by rw[Tryz.ntmps186];simp) λout=>?_;have NB:=(nmA hid:_∧_);have hne:=decide_eq_false (Ω:¬((i:Nat):Int)=(j:Nat));repeat' first|refine sD ?_ ?_<;>intro _|refine aAh ?_|simp -dsimp only[↓RP,RQ,xa0,reduceIte,reduceCtorEq,xa1,xa2,xa3,xa4,hne,hb,↓RY,NB,QS,QT,qT,QN]
 all_goals try exact Ωe
 have hvf:kr ((j:Nat):Int) ((n:Nat):Int) oid 1=.que oid j (n - j) 1:=by
  unfold kr
  grind
 have hvt:kr 0 ((i:Nat):Int) oid 1=.vec oid i 1:=by unfold kr;rw[if_pos rfl];rfl
 have hd1:n -(j - i)=i+(n - j):=by omega
 have hone2:oneRows (n - j) 1 λx y=>row (j+x) y:=λx y hx hy=>by
  obtain rfl:y=0:=by omega
  obtain⟨v,hv⟩:=hone (j+x) Ω;show oneCell (row (j+x) 0)=true;rw[hv];rfl
 refine JA follows (λm st=>∃s0 hp,(m.testBit 6=false→hp=H)∧(m.testBit 6=true→hp=setBlk H oid (.rows 3 1 nn (jP row i j (n - j))))∧(m.testBit 7=false→s0=.vec oid n 1)∧(m.testBit 7=true→s0=.vec oid (i+(n - j)) 1)∧
  st=⟨[(0,s0),(1,.val (.int .i64 (i:Nat))),(2,.val (.int .i64 (j:Nat))),(7,.val (.int .i64 (n:Nat))),(20,up (m.testBit 0) (.vec oid n 1)),(21,up (m.testBit 1) (.val (.int .i64 (i:Nat)))),(22,up (m.testBit 2) (.vec oid i 1)),(23,up (m.testBit 3) (.vec oid n 1)),(24,up (m.testBit 4) (.val (.int .i64 (j:Nat)))),(25,up (m.testBit 5) (.que oid j (n - j) 1)),(26,up (m.testBit 6) (.vec oid (i+(n - j)) 1))],hp,id+13+pc m⟩) (ms:=[0,0,3,0,0,24,63,127]) Ωb Ωb (za (fr':=[(0,.vec oid n 1),(1,.val (.int .i64 (i:Nat))),(2,.val (.int .i64 (j:Nat))),(7,.val (.int .i64 (n:Nat))),(20,.top),(21,.top),(22,.top),(23,.top),(24,.top),(25,.top),(26,.top)]) Ωh (SubHp.refl H)) ⟨_,_,λ_=>rfl,λh=>(by simp at h),λ_=>rfl,λh=>(by simp at h),by simp[pc,Go.Sx.up]⟩ (qi ?_<|qi ?_<|qi ?_<|qi ?_<|qi ?_<|qi ?_<|qi ?_<|qi ?_<|QL) ?_
 ·rintro m st ⟨s0,hp,g1,g2,g3,g4,rfl⟩ hcl hbit hd
  refine⟨_,Weak.refl _ _,?_⟩;unfold opH;rw[qC];simp only[hbit,qv,qq];have h7:m.testBit 7=false:=by
   cases h:m.testBit 7 with
   |false=>rfl
   |true=>have:=hcl 7 0 Ωq h;rw[hbit]at this;cases this
  rw[g3 h7];refine .inl ?_;repeat' first|refine sD ?_ ?_<;>intro _|refine aAh ?_|simp -dsimp only[↓RP,RQ,xa0,reduceIte,reduceCtorEq,xa1,xa2,xa3,xa4,hvf,hvt,↓RY,NB,QS,QT,qT,QN]
  all_goals try exact Ωe
  refine⟨_,Weak.refl _ _,.vec oid n 1,hp,λh=>g1 Ωw,λh=>g2 Ωw,λh=>rfl,λh=>(by rw[tb,h7]at h;simp at h),?_⟩;have hpc:pc (m ||| 2^0)=pc m+1:=by unfold pc;simp only[Qqq,xa2,qv,qq,reduceCtorEq,hbit,Bool.toNat_true,Bool.toNat_false]<;>omega
  rw[hpc];simp only[Qqq,xa2,qv,qq,reduceCtorEq,hbit,xb2]
 ·rintro m st ⟨s0,hp,g1,g2,g3,g4,rfl⟩ hcl hbit hd
  refine⟨_,Weak.refl _ _,?_⟩;unfold opH;rw[qC];simp only[hbit,qv,qq];refine .inl ?_;repeat' first|refine sD ?_ ?_<;>intro _|refine aAh ?_|simp -dsimp only[↓RP,RQ,xa0,reduceIte,reduceCtorEq,xa1,xa2,xa3,xa4,hvf,hvt,↓RY,NB,QS,QT,qT,QN]
  all_goals try exact Ωe
  refine⟨_,Weak.refl _ _,s0,hp,λh=>g1 Ωw,λh=>g2 Ωw,λh=>g3 Ωw,λh=>g4 Ωw,?_⟩;have hpc:pc (m ||| 2^1)=pc m+1:=by unfold pc;simp only[Qqq,xa2,qv,qq,reduceCtorEq,hbit,Bool.toNat_true,Bool.toNat_false]<;>omega
  rw[hpc];simp only[Qqq,xa2,qv,qq,reduceCtorEq,hbit,xb2]
 ·rintro m st ⟨s0,hp,g1,g2,g3,g4,rfl⟩ hcl hbit hd
  have q0:=hd 0 Ωq Ωq;have q1:=hd 1 Ωq Ωq;refine⟨_,Weak.refl _ _,?_⟩;unfold opH;rw[qC];simp only[q0,q1,hbit,qv,qq];refine .inl ?_;repeat' first|refine sD ?_ ?_<;>intro _|refine aAh ?_|simp -dsimp only[↓RP,RQ,xa0,reduceIte,reduceCtorEq,xa1,xa2,xa3,xa4,hvf,hvt,↓RY,NB,QS,QT,qT,QN]
  all_goals try exact Ωe
  refine⟨_,Weak.refl _ _,s0,hp,λh=>g1 Ωw,λh=>g2 Ωw,λh=>g3 Ωw,λh=>g4 Ωw,?_⟩;have hpc:pc (m ||| 2^2)=pc m+1:=by unfold pc;simp only[Qqq,xa2,qv,qq,reduceCtorEq,q0,q1,hbit,Bool.toNat_true,Bool.toNat_false]<;>omega
  rw[hpc];simp only[Qqq,xa2,qv,qq,reduceCtorEq,q0,q1,hbit,xb2]
 ·rintro m st ⟨s0,hp,g1,g2,g3,g4,rfl⟩ hcl hbit hd
  refine⟨_,Weak.refl _ _,?_⟩;unfold opH;rw[qC];simp only[hbit,qv,qq];have h7:m.testBit 7=false:=by
   cases h:m.testBit 7 with
   |false=>rfl
   |true=>have:=hcl 7 3 Ωq h;rw[hbit]at this;cases this
  rw[g3 h7];refine .inl ?_;repeat' first|refine sD ?_ ?_<;>intro _|refine aAh ?_|simp -dsimp only[↓RP,RQ,xa0,reduceIte,reduceCtorEq,xa1,xa2,xa3,xa4,hvf,hvt,↓RY,NB,QS,QT,qT,QN]
  all_goals try exact Ωe
  refine⟨_,Weak.refl _ _,.vec oid n 1,hp,λh=>g1 Ωw,λh=>g2 Ωw,λh=>rfl,λh=>(by rw[tb,h7]at h;simp at h),?_⟩;have hpc:pc (m ||| 2^3)=pc m+1:=by unfold pc;simp only[Qqq,xa2,qv,qq,reduceCtorEq,hbit,Bool.toNat_true,Bool.toNat_false]<;>omega
  rw[hpc];simp only[Qqq,xa2,qv,qq,reduceCtorEq,hbit,xb2]
 ·rintro m st ⟨s0,hp,g1,g2,g3,g4,rfl⟩ hcl hbit hd
  refine⟨_,Weak.refl _ _,?_⟩;unfold opH;rw[qC];simp only[hbit,qv,qq];refine .inl ?_;repeat' first|refine sD ?_ ?_<;>intro _|refine aAh ?_|simp -dsimp only[↓RP,RQ,xa0,reduceIte,reduceCtorEq,xa1,xa2,xa3,xa4,hvf,hvt,↓RY,NB,QS,QT,qT,QN]
  all_goals try exact Ωe
  refine⟨_,Weak.refl _ _,s0,hp,λh=>g1 Ωw,λh=>g2 Ωw,λh=>g3 Ωw,λh=>g4 Ωw,?_⟩;have hpc:pc (m ||| 2^4)=pc m+1:=by unfold pc;simp only[Qqq,xa2,qv,qq,reduceCtorEq,hbit,Bool.toNat_true,Bool.toNat_false]<;>omega
  rw[hpc];simp only[Qqq,xa2,qv,qq,reduceCtorEq,hbit,xb2]
 ·rintro m st ⟨s0,hp,g1,g2,g3,g4,rfl⟩ hcl hbit hd
  have q3:=hd 3 Ωq Ωq;have q4:=hd 4 Ωq Ωq;refine⟨_,Weak.refl _ _,?_⟩;unfold opH;rw[qC];simp only[q3,q4,hbit,qv,qq];refine .inl ?_;repeat' first|refine sD ?_ ?_<;>intro _|refine aAh ?_|simp -dsimp only[↓RP,RQ,xa0,reduceIte,reduceCtorEq,xa1,xa2,xa3,xa4,hvf,hvt,↓RY,NB,QS,QT,qT,QN]
  all_goals try exact Ωe
  refine⟨_,Weak.refl _ _,s0,hp,λh=>g1 Ωw,λh=>g2 Ωw,λh=>g3 Ωw,λh=>g4 Ωw,?_⟩;have hpc:pc (m ||| 2^5)=pc m+1:=by unfold pc;simp only[Qqq,xa2,qv,qq,reduceCtorEq,q3,q4,hbit,Bool.toNat_true,Bool.toNat_false]<;>omega
  rw[hpc];simp only[Qqq,xa2,qv,qq,reduceCtorEq,q3,q4,hbit,xb2]
 ·rintro m st ⟨s0,hp,g1,g2,g3,g4,rfl⟩ hcl hbit hd
  have q2:=hd 2 Ωq Ωq;have q5:=hd 5 Ωq Ωq;refine⟨_,Weak.refl _ _,?_⟩;unfold opH;rw[qC];simp only[q2,q5,hbit,qv,qq];rw[g1 hbit];refine .inr ⟨rfl,.inl (qnn (id:=oid) (i0:=i) (j0:=j) (n':=nn) (m:=n - j) (k:=1) (e:=3) (row:=row) qbg Ω rfl rfl hb Ω Ω hone2 ?_)⟩;refine⟨_,Q0 _ _ (id+13+(pc m+1)) (by simp only[St.putI];omega),s0,setBlk H oid (.rows 3 1 nn (jP row i j (n - j))),λh=>(by rw[tb]at h;simp at h),λh=>rfl,λh=>g3 Ωw,λh=>g4 Ωw,?_⟩;have hpc:pc (m ||| 2^6)=pc m+1:=by unfold pc;simp only[Qqq,xa2,qv,qq,reduceCtorEq,q2,q5,hbit,Bool.toNat_true,Bool.toNat_false]<;>omega
  rw[show pc (m ||| 2^(0+1+1+1+1+1+1))=pc m+1 from hpc];simp only[xa1,Qqq,xa2,qv,qq,reduceCtorEq,q2,q5,hbit,xb2];simp[St.putI,putIn]
 ·rintro m st ⟨s0,hp,g1,g2,g3,g4,rfl⟩ hcl hbit hd
  have q6:=hd 6 Ωq Ωq;refine⟨_,Weak.refl _ _,?_⟩;unfold opH;rw[qC];simp only[q6,hbit,qv,qq];refine .inl ?_;repeat' first|refine sD ?_ ?_<;>intro _|refine aAh ?_|simp -dsimp only[↓RP,RQ,xa0,reduceIte,reduceCtorEq,xa1,xa2,xa3,xa4,hvf,hvt,↓RY,NB,QS,QT,qT,QN]
  all_goals try exact Ωe
  refine⟨_,Weak.refl _ _,.vec oid (i+(n - j)) 1,hp,λh=>g1 Ωw,λh=>g2 Ωw,λh=>(by rw[tb]at h;simp at h),λh=>rfl,?_⟩;have hpc:pc (m ||| 2^7)=pc m+1:=by unfold pc;simp only[Qqq,xa2,qv,qq,reduceCtorEq,q6,hbit,Bool.toNat_true,Bool.toNat_false]<;>omega
  rw[hpc];simp only[Qqq,xa2,qv,qq,reduceCtorEq,q6,hbit,xb2]
 ·rintro m st' ⟨s0,hp,g1,g2,g3,g4,rfl⟩ hall
  have h7:=hall 7 Ωq;have h6:=hall 6 Ωq;rw[g2 h6,g4 h7];refine⟨_,Weak.refl _ _,?_⟩;have hpc:pc m=8:=by unfold pc;simp only[hall 0 Ωq,hall 1 Ωq,hall 2 Ωq,hall 3 Ωq,hall 4 Ωq,hall 5 Ωq,h6,h7];rfl
  rw[hpc];simp only[hall 0 Ωq,hall 1 Ωq,hall 2 Ωq,hall 3 Ωq,hall 4 Ωq,hall 5 Ωq,h6,h7,qv];have eH:∀b,blk (setBlk H oid b) oid=some b:=λb=>qes hb;repeat' first|refine sD ?_ ?_<;>intro _|refine aAh ?_|simp -dsimp only[↓RP,RQ,xa0,reduceIte,reduceCtorEq,xa1,xa2,xa3,xa4,eH,↓RY,NB,QS,QT,qT,QN]
  all_goals try exact Ωe
  refine Kq (qK ?_);(repeat' first|refine sD ?_ ?_<;>intro _|refine aAh ?_|simp -dsimp only[↓RP,RQ,xa0,reduceIte,reduceCtorEq,xa1,xa2,xa3,xa4,eH,↓RY,NB,QS,QT,qT,QN]);refine qK ?_;(repeat' first|refine sD ?_ ?_<;>intro _|refine aAh ?_|simp -dsimp only[↓RP,RQ,xa0,reduceIte,reduceCtorEq,xa1,xa2,xa3,xa4,eH,↓RY,NB,QS,QT,qT,QN]);refine qK ?_;(repeat' first|refine sD ?_ ?_<;>intro _|refine aAh ?_|simp -dsimp only[↓RP,RQ,xa0,reduceIte,reduceCtorEq,xa1,xa2,xa3,xa4,eH,↓RY,NB,QS,QT,qT,QN]);refine qK ?_;(repeat' first|refine sD ?_ ?_<;>intro _|refine aAh ?_|simp -dsimp only[↓RP,RQ,xa0,reduceIte,reduceCtorEq,xa1,xa2,xa3,xa4,eH,↓RY,NB,QS,QT,qT,QN]);refine ju rfl (qdq (id:=oid) (n:=i+(n - j)) (n':=nn) (l:=i+(n - j)) (h:=n) (k:=1) (e:=3) (row:=jP row i j (n - j)) (kl:=.i64) (kh:=.i64) qbg Ω rfl Ωaa Ωaa (eH _) Ω hnn ?_);refine qK ?_;repeat' first|refine sD ?_ ?_<;>intro _|refine aAh ?_|simp -dsimp only[↓RP,RQ,xa0,reduceIte,reduceCtorEq,xa1,xa2,xa3,xa4,ji,eH,Gm,↓RY,NB,QS,QT,qT,QN]
  all_goals try exact Ωe
  refine⟨⟨Ω,rfl⟩,?_⟩;refine⟨_,_,_,qp (nid':=id+60) Ω (fr':=[(0,_)]) ⟨.inr rfl,trivial⟩ (SubHp.refl _),rfl,by rw[hd1];rfl,_,λx hx=>?_,rfl⟩
  grind
end Go.Tn
end
section
namespace Go.Tn
open Go.Proofs
open Go.Sx
theorem qhc{P:Program}{O:Ctx}{op:Op}{st st2:St}{K:St→SV→Prop}(hw:Weak O st st2)(hn:st.nid≤st2.nid)(h:OpVC P O op st2 K):OpVC P O op st K:=by
 intro base okc ns r outs a w o ho hi;obtain⟨r',hi'⟩:=hw _ _ _ _ _ _ ⟨r,hi⟩;obtain⟨v,w',h1,st',r2,res,h2,h3,h4⟩:=h base okc ns r' outs a w o ho hi'
 grind
theorem u3:Tryz.prog.underlying 3=some (.int .i64):=by kernel_rfl
theorem qfs{P:Program}{O:Ctx}{t:TypeId}{x:Operand}{e:TypeId}{st:St}{K:St→SV→Prop}(ht:P.underlying t=some (.slice e))(hx:env (Go.Sx.look st.fr) x=.val (.slice none 0 0))(h:K st (.val (.int .i64 0))):OpVC P O (.call ⟨.builtin .cap,#[x],#[t]⟩) st K:=by
 intro base okc ns r outs a w o ho hi;have hu:=hi.env x;rw[hx]at hu;generalize hex:a.eval x=u at hu;cases hu;refine⟨.int .i64 0,w,?_,st,r,_,h,xa5 _,hi,.val _⟩;obtain⟨dst,op,type,pos,aft,guard⟩:=o;simp only[]at ho;subst ho;simp[execOp,Go.resolve,Go.invoke,Go.builtin,hex,Builtin.cap_,run_underlying ht,goInt]
theorem qrT(H:List (Nat×Blk))(id m:Nat)(hm:1≤m)(hm2:m≤100000)(hU:Under H id) :
  EffVC Tryz.prog 394 [.val (.slice none 0 0),.val (.int .i64 (m:Nat))] H id (λhp' nid' res=>nid'=id+60∧∃oid r,id≤oid∧oid<nid'∧hp'=(oid,.rows 3 1 m r) :: H∧res=.vec oid 0 1):=by
 refine yP (qV [(3,[(0,0)]),(5,[(0,0)])]) follows Tryz.func394 rfl Ωb Ωb (by rw[Tryz.ntmps394];simp) λout=>?_;have NB:True:=trivial;have h0:=decide_eq_false (Ω:¬((m:Nat):Int)<0);have h1:=decide_eq_true (Ω:(0:Int)<((m:Nat):Int));repeat' first|refine sD ?_ ?_<;>intro _|refine aAi ?_|simp -dsimp only[↓RP,RQ,xa0,reduceIte,reduceCtorEq,xa1,xa2,xa3,xa4,h0,↓RY,NB,QS,QT,qT,QN]
 all_goals try exact Ωe
 refine Kq (qK ?_);(repeat' first|refine sD ?_ ?_<;>intro _|refine aAi ?_|simp -dsimp only[↓RP,RQ,xa0,reduceIte,reduceCtorEq,xa1,xa2,xa3,xa4,↓RY,NB,QS,QT,qT,QN]);refine qK ?_;(repeat' first|refine sD ?_ ?_<;>intro _|refine aAi ?_|simp -dsimp only[↓RP,RQ,xa0,reduceIte,reduceCtorEq,xa1,xa2,xa3,xa4,↓RY,NB,QS,QT,qT,QN]);refine ju rfl (qfs (zI qbg).1 Ωaa ?_);refine qK ?_;(repeat' first|refine sD ?_ ?_<;>intro _|refine aAi ?_|simp -dsimp only[↓RP,RQ,xa0,reduceIte,reduceCtorEq,xa1,xa2,xa3,xa4,↓RY,NB,QS,QT,qT,QN]);refine qK ?_;(repeat' first|refine sD ?_ ?_<;>intro _|refine aAi ?_|simp -dsimp only[↓RP,RQ,xa0,reduceIte,reduceCtorEq,xa1,xa2,xa3,xa4,↓RY,NB,QS,QT,qT,QN]);refine qK ?_;(repeat' first|refine sD ?_ ?_<;>intro _|refine aAi ?_|simp -dsimp only[↓RP,RQ,xa0,reduceIte,reduceCtorEq,xa1,xa2,xa3,xa4,↓RY,NB,QS,QT,qT,QN]);refine qK ?_;(repeat' first|refine sD ?_ ?_<;>intro _|refine aAi ?_|simp -dsimp only[↓RP,RQ,xa0,reduceIte,reduceCtorEq,xa1,xa2,xa3,xa4,↓RY,NB,QS,QT,qT,QN]);refine qK ?_;repeat' first|refine sD ?_ ?_<;>intro _|refine aAi ?_|simp -dsimp only[↓RP,RQ,xa0,reduceIte,reduceCtorEq,xa1,xa2,xa3,xa4,ji,h1,↓RY,NB,QS,QT,qT,QN]
 all_goals try exact Ωe
 refine Kq (qK ?_);(repeat' first|refine sD ?_ ?_<;>intro _|refine aAi ?_|simp -dsimp only[↓RP,RQ,xa0,reduceIte,reduceCtorEq,xa1,xa2,xa3,xa4,↓RY,NB,QS,QT,qT,QN]);refine qK ?_;(repeat' first|refine sD ?_ ?_<;>intro _|refine aAi ?_|simp -dsimp only[↓RP,RQ,xa0,reduceIte,reduceCtorEq,xa1,xa2,xa3,xa4,↓RY,NB,QS,QT,qT,QN]);refine ju rfl (qfs (zI qbg).1 Ωaa ?_);refine qK ?_;(repeat' first|refine sD ?_ ?_<;>intro _|refine aAi ?_|simp -dsimp only[↓RP,RQ,xa0,reduceIte,reduceCtorEq,xa1,xa2,xa3,xa4,↓RY,NB,QS,QT,qT,QN]);refine qK ?_;(repeat' first|refine sD ?_ ?_<;>intro _|refine aAi ?_|simp -dsimp only[↓RP,RQ,xa0,reduceIte,reduceCtorEq,xa1,xa2,xa3,xa4,↓RY,NB,QS,QT,qT,QN]);refine ju rfl (qhc (YE (t:=3) (k:=1) (d:=20) (λ_ _=>.top) (by simp[Go.Sx.look,putIn])) (xc4 _) (qiy (id:=id+16) (row:=λ_ _=>.top) (n':=0) (n:=0) (m:=m) (kn:=.i64) (kq:=.i64) qbg ty3 ?hu3 ?hx ?hy ?hb (xa5 _) Ω (by rw[by3];omega) ?hid ?_))
 case hu3=>exact u3
 case hx=>simp[env,Go.Sx.look,putFr]
 case hy=>simp[env,Go.Sx.look,putFr,putIn]
 case hb=>simp[blk]
 case hid=>simp
 have hdr:dropBlk H (id+16)=H:=zf (hU.none Ω);have hvt:∀k,kr 0 0 k 1=.vec k 0 1:=λk=>by unfold kr;rw[if_pos rfl];rfl
 have hlt:(id+16:Nat)<id+17:=by omega
 simp only[dropBlk,if_true,hdr];refine qK ?_;(repeat' first|refine sD ?_ ?_<;>intro _|refine aAi ?_|simp -dsimp only[↓RP,RQ,xa0,reduceIte,reduceCtorEq,xa1,xa2,xa3,xa4,hvt,↓RY,NB,QS,QT,qT,QN]);refine qK ?_;(repeat' first|refine sD ?_ ?_<;>intro _|refine aAi ?_|simp -dsimp only[↓RP,RQ,xa0,reduceIte,reduceCtorEq,xa1,xa2,xa3,xa4,hvt,↓RY,NB,QS,QT,qT,QN]);refine qK ?_;(repeat' first|refine sD ?_ ?_<;>intro _|refine aAi ?_|simp -dsimp only[↓RP,RQ,xa0,reduceIte,reduceCtorEq,xa1,xa2,xa3,xa4,hvt,↓RY,NB,QS,QT,qT,QN]);refine qK ?_;repeat' first|refine sD ?_ ?_<;>intro _|refine aAi ?_|simp -dsimp only[↓RP,RQ,xa0,reduceIte,reduceCtorEq,xa1,xa2,xa3,xa4,ji,hvt,↓RY,NB,QS,QT,qT,QN]
 all_goals try exact Ωe
 exact⟨_,_,_,qp (nid':=id+60) Ω (fr':=[(0,_)]) ⟨.inr rfl,trivial⟩ (SubHp.refl _),rfl,id+17,_,Ω,Ω,rfl,rfl⟩
def jK(L:Nat→List Int):Nat→List Int
 |0=>[]
 |k+1=>jK L k++L k
theorem gP(L:Nat→List Int)(k:Nat):jK L (k+1)=jK L k++L k:=rfl
theorem qft(L:Nat→List Int){k n:Nat}(h:k≤n):(jK L k).length≤(jK L n).length:=by
 induction n with
 |zero=>obtain rfl:k=0:=by omega
        omega
 |succ n ih=>
  by_cases e:k=n+1
  ·simp_all
  ·have:=ih Ω;rw[gP,xc8];omega
def lls(n:Nat)(L:Nat→List Int):SV:=.arr false false n 1 (λi _=>.arr false false (L i).length 1 (λj _=>.val (.int .i64 ((L i).getD j 0))))
theorem qrU(n:Nat)(L:Nat→List Int)(hn:n≤10000)(h1:1≤(jK L n).length)(h2:(jK L n).length≤100000):zX Tryz.prog 359 [lls n L] (.rows 3 1 (jK L n).length (λx _=>.val (.int .i64 ((jK L n).getD x 0)))) (.vec 0 (jK L n).length 1):=by
 refine Zm Tryz.func359 rfl Ωb follows Ωb _ _ _ (by rw[Tryz.ntmps359];simp) (by simp[OldL,Old,lls]) ?_;unfold lls;repeat' first|refine sD ?_ ?_<;>intro _|refine aA ?_|simp -dsimp only[↓RP,RQ,xa0,reduceIte,reduceCtorEq,xa1,xa2,xa3,xa4,gP,QT,QN]
 all_goals try exact Ωe
 refine qo (λ(k:Nat)=>k≤n) (λk=>⟨[(0,.arr false false n 1 (λi _=>.arr false false (L i).length 1 (λj _=>.val (.int .i64 ((L i).getD j 0))))),(3,.val (.int .i64 ((jK L k).length:Nat))),(9,.arr false false n 1 (λi _=>.arr false false (L i).length 1 (λj _=>.val (.int .i64 ((L i).getD j 0))))),(10,.val (.int .i64 (n:Nat))),(11,.val (.int .i64 (k:Nat)))],[],10+20*k⟩) (λk=>n - k) 0 (xb6 _) (qp Ωj (by simp[zj,Go.Sx.look,jK]) (SubHp.refl _)) λk hk=>?_;by_cases hkn:k<n
 ·have hlt:=decide_eq_true (Ω:((k:Nat):Int)<(n:Nat))
  have hle:=qft L (k:=k+1) hkn;rw[gP,xc8]at hle;have hnn:=decide_eq_false (show ¬(((jK L k).length:Nat):Int)+((L k).length:Nat)<0 by omega);repeat' first|refine sD ?_ ?_<;>intro _|refine aA ?_|simp -dsimp only[↓RP,RQ,xa0,reduceIte,reduceCtorEq,xa1,xa2,xa3,xa4,hlt,hnn,gP,QT,QN]
  all_goals try exact Ωe
  refine⟨k+1,hkn,Ω,qp Ω (by simp[zj,Go.Sx.look,gP]) (SubHp.refl _)⟩
 ·obtain rfl:n=k:=by omega
  have hlt:=decide_eq_false (Ω:¬((n:Nat):Int)<(n:Nat));repeat' first|refine sD ?_ ?_<;>intro _|refine aA ?_|simp -dsimp only[↓RP,RQ,xa0,reduceIte,reduceCtorEq,xa1,xa2,xa3,xa4,hlt,gP,QT,QN]
  all_goals try exact Ωe
  refine wO ΩC (qrT [] _ (jK L n).length h1 h2 Under.nil) λhp' nid' res hQ=>?_;obtain⟨rfl,oid,r0,q1,q2,rfl,rfl⟩:=hQ;repeat' first|refine sD ?_ ?_<;>intro _|refine aA ?_|simp -dsimp only[↓RP,RQ,xa0,reduceIte,reduceCtorEq,xa1,xa2,xa3,xa4,gP,QT,QN]
  all_goals try exact Ωe
  refine qo (λ(z:Nat×Nat×(Nat→Nat→SV))=>z.1≤n∧z.2.1<100+20*n+20*z.1∧∀x,x<(jK L z.1).length→z.2.2 x 0=.val (.int .i64 ((jK L z.1).getD x 0))) (λz=>⟨[(0,.arr false false n 1 (λi _=>.arr false false (L i).length 1 (λj _=>.val (.int .i64 ((L i).getD j 0))))),(6,.vec z.2.1 (jK L z.1).length 1),(25,.arr false false n 1 (λi _=>.arr false false (L i).length 1 (λj _=>.val (.int .i64 ((L i).getD j 0))))),(26,.val (.int .i64 (n:Nat))),(27,.val (.int .i64 (z.1:Nat)))],[(z.2.1,.rows 3 1 (jK L z.1).length z.2.2)],100+20*n+20*z.1⟩) (λz=>n - z.1) (0,oid,r0) ⟨xb6 _,Ωk,λx hx=>(by simp[jK]at hx)⟩ (weak [] [] ?hw1 ?hw2 ?hw3 rfl) λz hz=>?_
  case hw1=>(simp -dsimp only[↓RP,RQ,xa0,reduceIte,reduceCtorEq,xa1,xa2,xa3,xa4,jK]);all_goals (try simp[jK]);omega
  case hw2=>(simp -dsimp only[↓RP,RQ,xa0,reduceIte,reduceCtorEq,xa1,xa2,xa3,xa4,jK]);all_goals (try simp[jK]);omega
  case hw3=>(simp -dsimp only[↓RP,RQ,xa0,reduceIte,reduceCtorEq,xa1,xa2,xa3,xa4]);all_goals (try simp)
  obtain⟨k,oid1,r⟩:=z;obtain⟨z1,z2,z3⟩:=hz;dsimp only at z1 z2 z3;dsimp only;by_cases hkn:k<n
  ·have hlt:=decide_eq_true (Ω:((k:Nat):Int)<(n:Nat))
   have hle:=qft L (k:=k+1) hkn;rw[gP,xc8]at hle;repeat' first|refine sD ?_ ?_<;>intro _|refine aA ?_|simp -dsimp only[↓RP,RQ,xa0,reduceIte,reduceCtorEq,xa1,xa2,xa3,xa4,hlt,gP,QT,QN]
   all_goals try exact Ωe
   refine⟨⟨⟨.inr trivial,xa5 _,Ω⟩,Ω⟩,by simp only[InK];omega,(k+1,100+20*n+20*k+1+3+2,_),⟨Ωk,Ωk,λx hx=>?_⟩,Ωk,qp Ωk (by simp[zj,Go.Sx.look,gP]) (by dsimp only;rw[gP,xc8];exact SubHp.refl _)⟩;dsimp only at hx ⊢;rw[gP,xc8]at hx;rw[gP];by_cases e:x<(jK L k).length
   ·simp_all
   ·grind
  ·obtain rfl:n=k:=by omega
   have hlt:=decide_eq_false (Ω:¬((n:Nat):Int)<(n:Nat));repeat' first|refine sD ?_ ?_<;>intro _|refine aA ?_|simp -dsimp only[↓RP,RQ,xa0,reduceIte,reduceCtorEq,xa1,xa2,xa3,xa4,hlt,gP,QT,QN]
   all_goals try exact Ωe
   refine⟨oid1,_,by simp[blk];rfl,?_,?_⟩
   ·simp only[SubB,true_and]
    exact⟨xa5 _,λi j hi hj=>by
      obtain rfl:j=0:=by omega
      rw[z3 i hi];simp[Go.Sx.Sub]⟩
   ·simp[SubO]
end Go.Tn
end
section
namespace Go.Sx
open Go.Proofs
open Go.RowKit Go.Tn
noncomputable section
variable{ρ:Q}
theorem qlj{P:Program}{O:Ctx}{g:FuncId}{args pats:List SV}{b:Blk}{res:SV}{st:St}{K:St→SV→Prop}(hc:zX P g pats b res)(hs:NewOk st.hp pats args b res)(hk:K ⟨st.fr,(st.nid,b) :: st.hp,st.nid+1⟩ (setId st.nid res)):kW P O g args st K:=by
 intro base okc ns r outs a w vs hI hl ha;have hrun:(callFunc g vs).run P w=.ok (.enter g vs) w:=by
  obtain⟨⟨fn,hf,hname,hbody⟩,_⟩:=hc;have:fn.body.isNone=false:=by cases hb:fn.body<;>simp_all
  simp only[callFunc,Sem.run_bind,run_program,Result.andThen_ok,hf,hname,xe7,if_false,this,Sem.run_pure]
 refine⟨hrun,?_⟩;have := VF (o := ⟨some 0, .move (.const undef), 0, "", #[], none⟩) (a := { a with tmps := #[undef] }) (Q := λ_ _ _ => False) hI.sat hl ha hc hs (id := st.nid) (xb4 _) (hp2 := (st.nid, b) :: st.hp) ΩN (λj hj => by simp only [blk]; rw [if_neg (Nat.ne_of_lt hj)])
  (K:=λa' w'=>∃st' r' res,K st' res∧st.nid≤st'.nid∧InvR O base okc ns st'.nid r' outs st' a w'∧Rep r' (· < st'.nid) (Gd base okc r' (· < st'.nid) st'.hp w') w' res (a'.tmps.getD 0 undef)) (λv w' r' hst hrep=>by
   rw[jz]at hst hrep;have h2:=(hI.step hst (λi x hx=>by
    simp only[blk]at hx;split at hx
    ·omega
    ·exact Nat.lt_succ_of_lt (hI.keys i x hx)) (xc4 _) (d:=none) (λt ht=>by cases ht) (.val undef)).nid (st.nid+1)
   exact⟨⟨st.fr,(st.nid,b) :: st.hp,st.nid+1⟩,r',_,hk,xc4 _,h2,by simpa[Act.put]using hrep⟩)
 rw[hrun,Oper.upon_enter]at this;refine this.mono λe w' h=>?_;cases e with
 |returned v=>
  obtain⟨st',r',res',h1,h2,h3,h4⟩:=h;exact⟨v,st',r',res',rfl,h1,h2,h3,by simpa[Act.put]using h4⟩
 |panicked c=>exact h.elim
 |outgrown=>obtain⟨_,_,h⟩:=h;exact h.elim
theorem qbB{H:List (Nat×Blk)}{x:SV}{obl:Prop}{n k:Nat}{row p:Nat→Nat→SV}(h:rowsOf H x=some (obl,n,k,row))(ho:obl)(hs:∀i j,i<n→j<k→Go.Sx.Sub H (p i j) (row i j)):Go.Sx.Sub H (.arr false false n k p) x:=by
 unfold rowsOf at h;split at h
 ·cases h
  unfold Go.Sx.Sub
  simp_all
 ·split at h
  ·rename_i hb
   cases h;obtain⟨h1,rfl⟩:=ho;simp only[Go.Sx.Sub,hb]
   simp_all
  ·cases h
 ·split at h
  ·rename_i hb
   cases h;obtain⟨h1,rfl⟩:=ho;simp only[Go.Sx.Sub,hb]
   simp_all
  ·cases h
 ·split at h
  ·rename_i hb
   cases h;simp only[Go.Sx.Sub,hb]
   simp_all
  ·cases h
 ·split at h
  ·rename_i hn
   cases h;simp only[Go.Sx.Sub]
   simp_all
  ·cases h
 ·cases h
def qpw(args:List SV)(hp:Tr 6 XB)(nid:Nat)(k:SV→Tr 6 XB→Nat→R):R:=
 match args with
 |[.vec id n 1,.val (.int .i64 (.ofNat i)),.val (.int .i64 (.ofNat j))]=>(match hp.find id with
  |some (.rows 3 1 nn l)=>qg 560 (Nat.ble (Nat.succ i) j) (qg 561 (Nat.ble j n) (qg 562 (Nat.ble n nn) (qg 563 (Nat.ble n 1000) (qfq l (qj (n -(j - i)) λm=>jj (l.take i++(l.take n).drop j++List.replicate (j - i) (SV.val (.int .i64 (.ofNat 0)))++l.drop n) λl=>zl (some (.rows 3 1 nn l)) 22 hp id λhp=>k (.vec id m 1) hp nid)))))
  |_=>.bad 564 0)
 |_=>.bad 565 0
theorem qno{l:List SV}{i j n nn x:Nat}(hl:l.length=nn)(hij:i<j)(hj:j≤n)(hn:n≤nn)(hx:x<nn):(l.take i++(l.take n).drop j++List.replicate (j - i) (SV.val (.int .i64 (.ofNat 0)))++l.drop n).getD x .top=if n -(j - i)≤x∧x<n then .val (.int .i64 0)else if i≤x∧x<i+(n - j)then l.getD (j+(x - i)) .top else l.getD x .top:=by
 have l1:(l.take i).length=i:=by rw[xd9];omega
 have l2:((l.take n).drop j).length=n - j:=by rw[List.length_drop,xd9];omega
 have l3:(l.take i++(l.take n).drop j).length=n -(j - i):=by rw[xc8,l1,l2];omega
 have l4:(l.take i++(l.take n).drop j++List.replicate (j - i) (SV.val (.int .i64 (.ofNat 0)))).length=n:=by rw[xc8,l3,xd8];omega
 simp only[xc6];by_cases c1:n≤x
 ·rw[xd0 Ω,l4,List.getElem?_drop,if_neg Ω,if_neg Ω,show n+(x - n)=x by omega]
 ·rw[xc9 Ω]
  by_cases c2:n -(j - i)≤x
  ·rw[if_pos ⟨c2,Ω⟩,xd0 Ω,l3,List.getElem?_replicate,if_pos Ω];rfl
  ·rw[if_neg Ω,xc9 Ω]
   by_cases c3:i≤x
   ·rw[if_pos ⟨c3,Ω⟩,xd0 Ω,l1,List.getElem?_drop,List.getElem?_take_of_lt Ω]
   ·rw[if_neg Ω,xc9 Ω,List.getElem?_take_of_lt Ω]
theorem qnp:Qu Tryz.prog 186 qpw:=by
 intro ρ LM O args hp k st K hH h hk;unfold qpw at h;split at h
 ·rename_i oid n i j
  split at h
  ·rename_i nn l hf
   obtain⟨a1,h⟩:=qa h;obtain⟨a2,h⟩:=qa h;obtain⟨a3,h⟩:=qa h;obtain⟨a4,h⟩:=qa h;obtain⟨h,b1⟩:=J3 h;rw[qe,qW]at h;obtain⟨hp1,p1,h⟩:=qH _ _ _ _ h;have hij:i<j:=xa7 a1;have hj:=xa7 a2;have hn:=xa7 a3;have hN:=xa7 a4;obtain⟨row,hb,lr,gr⟩:=hH.rows hf;rw[Nat.mul_one]at lr;intro base okc ns r outs a w vs hI hlen hv;have keys:=hI.keys;have hrow:∀x,x<nn→row x 0=l.getD x .top:=λx hx=>by
    simp_all
   have E:=qrS st.hp st.nid oid n nn i j row Ω hn hij hj hb (keys _ _ hb) (λx hx=>by rw[hrow x Ω];exact b1 x Ω);refine JZ (E O st.fr) (λst' sv hself hq=>?_) base okc ns r outs a w vs hI hlen hv;obtain⟨fr',hp',nid'⟩:=st';obtain⟨q0,q1,q2,rr,q3,q4⟩:=hq;simp only[]at q0 q1 q2 q4;subst q0 q1 q2 q4;have hval:∀x,x<nn→rr x 0=(l.take i++(l.take n).drop j++List.replicate (j - i) (SV.val (.int .i64 (.ofNat 0)))++l.drop n).getD x .top:=λx hx=>by
    rw[q3 x hx,qno lr hij hj hn hx];by_cases c:n -(j - i)≤x∧x<n
    ·rw[if_pos c,if_pos c]
    ·rw[if_neg c,if_neg c]
     unfold jP;by_cases c2:i≤x∧x<i+(n - j)
     ·rw[if_pos c2,if_pos c2,hrow _ Ω]
     ·rw[if_neg c2,if_neg c2,hrow _ hx]
   refine⟨st.nid,setBlk st.hp oid (.rows 3 1 nn rr),.vec oid (n -(j - i)) 1,st.nid,rfl,xa5 _,λid x hx=>?_,?_,xa5 _,hk _ hp1 _ _ (λid b hbb=>?_) h⟩
   ·have hx':=hx
    rw[qn]at hx;split at hx
    ·rename_i e
     subst e;rw[hb]at hx;cases hx;refine⟨.inl ⟨keys _ _ hb,hx'⟩,rfl,rfl,xa5 _,λy z hy hz=>?_⟩;obtain rfl:z=0:=by omega
     rw[q3 y hy];split
     ·simp[Wk]
     ·unfold jP
      split
      ·rw[hrow _ Ω]
       obtain⟨v,hv⟩:=b1 (j+(y - i)) Ω;rw[hv];simp[Wk]
      ·rw[hrow _ hy]
       obtain⟨v,hv⟩:=b1 y Ω;rw[hv];simp[Wk]
    ·exact⟨.inl ⟨keys _ _ hx,hx'⟩,hself _ _ _ (xa5 _) _ _ hx⟩
   ·unfold Wk
    have:=keys _ _ hb;refine⟨this,?_,rfl,rfl⟩;simp only[ren];rw[if_neg Ω]
   ·rw[p1 id]at hbb
    rw[qn];by_cases e:id=oid
    ·rw[if_pos e]at hbb ⊢
     cases hbb;rw[hb];refine⟨_,rfl,rfl,rfl,rfl,?_,λy z hy hz=>?_⟩
     ·rw[xc8,xc8,xc8,xd9,List.length_drop,xd9,xd8,List.length_drop];omega
     ·obtain rfl:z=0:=by omega
      rw[Nat.mul_one,xb1];exact hval y hy
    ·rw[if_neg e]at hbb ⊢
     exact hH id b hbb
  ·cases h
 ·cases h
def qfu(l:List SV)(f:List Int→R):R:=(List.rec (motive:=λ_=>(List Int→R)→R) (λf=>f []) (λa _ ih f=>match a with
 |.val (.int .i64 x)=>qas x λx=>ih λl=>f (x :: l)
 |_=>.bad 570 0) l) f
theorem qbC:∀{l:List SV}{f:List Int→R},qfu l f=.ok ρ→∃m,f m=.ok ρ∧m.length=l.length∧∀j,j<l.length→l.getD j .top=.val (.int .i64 (m.getD j 0))
 |[],f,h=>⟨[],h,rfl,λj hj=>by cases hj⟩
 |a :: l,f,h=>by
  have h:(match (generalizing:=false) a with
   |.val (.int .i64 x)=>qas x λx=>qfu l λl=>f (x :: l)
   |_=>.bad 570 0)=(.ok ρ:R):=h
  split at h
  ·rename_i x _
   rw[jW]at h;obtain⟨m,h1,h2,h3⟩:=qbC h;refine⟨x :: m,h1,by simp[h2],λj hj=>?_⟩;cases j with
   |zero=>rfl
   |succ j=>exact h3 j (Nat.lt_of_succ_lt_succ hj)
  ·cases h
def qdr(hp:Tr 6 XB)(l:List SV)(f:List (List Int)→R):R:=(List.rec (motive:=λ_=>(List (List Int)→R)→R) (λf=>f []) (λa _ ih f=>ZE hp a λ_ k m=>qg 571 (Nat.beq k 1) (qfu m λx=>ih λl=>f (x :: l))) l) f
theorem Wi{hp:Tr 6 XB}{LM:Nat→Option Loop}{H:List (Nat×Blk)}(hH:HRel LM hp H):∀{l:List SV}{f:List (List Int)→R},qdr hp l f=.ok ρ→∃L,f L=.ok ρ∧L.length=l.length∧∀i,i<l.length→Go.Sx.Sub H (.arr false false (L.getD i []).length 1 (λj _=>.val (.int .i64 ((L.getD i []).getD j 0)))) (l.getD i .top)
 |[],f,h=>⟨[],h,rfl,λj hj=>by cases hj⟩
 |a :: l,f,h=>by
  have h:ZE hp a (λ_ k m=>qg 571 (Nat.beq k 1) (qfu m λx=>qdr hp l λl=>f (x :: l)))=.ok ρ:=h;obtain⟨obl,n,k,row,m,h1,h2,h3,g1⟩:=vY hH h;obtain⟨e0,g2⟩:=qa g1;have e:=xa6 e0;clear h g1 e0;subst e;obtain⟨x,h,h4,h5⟩:=qbC g2;clear g2;obtain⟨L,h,h6,h7⟩:=Wi hH h;refine⟨x :: L,h,by simp[h6],λi hi=>?_⟩;cases i with
  |zero=>
   show Go.Sx.Sub H (.arr false false x.length 1 (λj _=>.val (.int .i64 (x.getD j 0)))) a;have hx:x.length=n:=by rw[h4,h3.1,Nat.mul_one]
   rw[hx];refine qbB h1 h2 λy z hy hz=>?_;obtain rfl:z=0:=by omega
   have:=h3.2 y 0 hy Ω;rw[Nat.mul_one,xb1,h5 y Ω]at this;rw[this];simp[Go.Sx.Sub]
  |succ i=>exact h7 i (Nat.lt_of_succ_lt_succ hi)
theorem Wj(L:List (List Int)):∀k,k≤L.length→jK (λi=>L.getD i []) k=(L.take k).flatten
 |0,_=>rfl
 |k+1,h=>by
  rw[gP,Wj L k Ω,List.take_succ_eq_append_getElem Ω,List.flatten_append,xc6,xc7 Ω];simp
def svI(l:List Int):List SV:=l.map λn=>.val (.int .i64 n)
theorem qnq{l:List Int}{i:Nat}(h:i<l.length):(svI l).getD i .top=.val (.int .i64 (l.getD i 0)):=by
 unfold svI
 simp_all
def qpx(args:List SV)(hp:Tr 6 XB)(nid:Nat)(k:SV→Tr 6 XB→Nat→R):R:=
 match args with
 |[x]=>ZE hp x λn k1 l=>qg 572 (Nat.beq k1 1) (qg 573 (Nat.ble n 10000) (qdr hp l λL=>Qk (svI L.flatten) λo=>qj o.length λm=>qg 574 (Nat.ble 1 m) (qg 575 (Nat.ble m 100000) (qj nid λnid=>zl (some (.rows 3 1 m o)) 22 hp nid λhp=>qj (Nat.succ nid) λn2=>k (.vec nid m 1) hp n2))))
 |_=>.bad 576 0
theorem qnr:Qu Tryz.prog 359 qpx:=by
 intro ρ LM O args hp k st K hH h hk;unfold qpx at h;split at h
 ·rename_i x
  obtain⟨obl,n,k1,row,l,h1,h2,h3,g1⟩:=vY hH h;obtain⟨e0,g2⟩:=qa g1;obtain⟨a1,g3⟩:=qa g2;have e:=xa6 e0;clear h g1 g2 e0;subst e;obtain⟨L,h,h6,h7⟩:=Wi hH g3;clear g3;rw[kS,qe]at h;obtain⟨a2,h⟩:=qa h;obtain⟨a3,h⟩:=qa h;rw[qe]at h;obtain⟨hp1,p1,h⟩:=qH _ _ _ _ h;rw[qe]at h;have hn:=xa7 a1;have hm1:=xa7 a2;have hm2:=xa7 a3;have hLn:L.length=n:=by rw[h6,h3.1,Nat.mul_one]
  have hcat:jK (λi=>L.getD i []) n=L.flatten:=by
   rw[Wj L n Ω,←hLn,List.take_length]
  have hsl:(svI L.flatten).length=L.flatten.length:=by unfold svI;rw[xe1]
  have C:=qrU n (λi=>L.getD i []) hn (by rw[hcat];omega) (by rw[hcat];omega);rw[hcat]at C;refine qlj C (.inl ⟨?_,by simp[FreshO],by simp[FreshB,Fresh]⟩) ?_
  ·simp only[SubL,and_true]
   exact qbB h1 h2 λi j hi hj=>by
    obtain rfl:j=0:=by omega
    have:=h3.2 i 0 hi Ω
    simp_all
  ·rw[show setId st.nid (.vec 0 L.flatten.length 1)=.vec st.nid (svI L.flatten).length 1 by simp[setId,hsl]]
   refine hk _ hp1 _ _ (λid b hb=>?_) h;rw[p1 id]at hb;simp only[blk];by_cases e:id=st.nid
   ·rw[if_pos e]at hb ⊢
    cases hb;refine⟨_,rfl,rfl,rfl,by rw[hsl],Ωj,λi j hi hj=>?_⟩;obtain rfl:j=0:=by omega
    rw[Nat.mul_one,xb1,qnq Ω]
   ·rw[if_neg e]at hb ⊢
    exact hH id b hb
 ·cases h
end
end Go.Sx
end
section
namespace Go.Tn
open Go.Proofs
open Go.Sx
theorem TYR:True∧qk Tryz.prog 165=some ⟨false,1,some [.map none],.map 213 2⟩∧qD Tryz.prog 165=some ⟨true,[.i .i64,.i .i64],.val (.int .i64 0)⟩∧qk Tryz.prog 167=some ⟨true,16,some [.int .i64 0,.int .i64 0,.slice none 0 0,.slice none 0 0,.bool false,.int .i64 0,.int .i64 0,.int .i64 0,.int .i64 0,.map none,.int .i64 0,.int .i64 0,.int .i64 0,.int .i64 0,.int .i64 0,.int .i64 0],.struct [(0,8,some true),(8,1,some false),(9,1,some false),(10,6,some true)]⟩∧qw Tryz.prog 167=some [(0,8),(8,1),(9,1),(10,6)]∧qk Tryz.prog 213=some ⟨true,2,some [.int .i64 0,.int .i64 0],.struct [(0,1,some false),(1,1,some false)]⟩∧qw Tryz.prog 213=some [(0,1),(1,1)]∧zE Tryz.prog 213=some [.i .i64,.i .i64]∧qk Tryz.prog 57=some ⟨true,6,some [.int .i64 0,.int .i64 0,.int .i64 0,.int .i64 0,.int .i64 0,.int .i64 0],.struct [(0,1,some false),(1,1,some false),(2,1,some false),(3,1,some false),(4,1,some false),(5,1,some false)]⟩∧qw Tryz.prog 57=some [(0,1),(1,1),(2,1),(3,1),(4,1),(5,1)]∧zE Tryz.prog 57=some [.i .i64,.i .i64,.i .i64,.i .i64,.i .i64,.i .i64]∧qk Tryz.prog 160=some ⟨false,1,some [.pointer none],.other⟩∧qk Tryz.prog 402=some ⟨true,8,some [.int .i64 0,.int .i64 0,.int .i64 0,.int .i64 0,.int .i64 0,.int .i64 0,.int .i64 0,.int .i64 0],.array 8 2 1⟩∧qw Tryz.prog 402=some [(0,1),(1,1),(2,1),(3,1),(4,1),(5,1),(6,1),(7,1)]∧zE Tryz.prog 402=some [.i .i64,.i .i64,.i .i64,.i .i64,.i .i64,.i .i64,.i .i64,.i .i64]∧qE Tryz.prog 3=8:=⟨trivial,Ωb,Ωb,Ωb,Ωb,Ωb,Ωb,Ωb,Ωb,Ωb,Ωb,Ωb,Ωb,Ωb,Ωb,Ωb⟩
end Go.Tn
end
section
namespace Go.Tn
open Go.Proofs
open Go.Sx
def cF(f q:Nat→Int):Nat→Int→Int
 |0,_=>0
 |w+1,r=>cF f q w r+(if f w=r then q w else 0)
theorem qlk(f q:Nat→Int)(w:Nat)(r:Int):cF f q (w+1) r=cF f q w r+(if f w=r then q w else 0):=rfl
theorem J4(f q:Nat→Int)(r:Int):∀w:Nat,(∀i,i<w→1≤q i∧q i≤1000)→0≤cF f q w r∧cF f q w r≤1000*w
 |0,_=>by simp[cF]
 |w+1,h=>by
  have h1:=J4 f q r w λi hi=>h i Ω;have h2:=h w Ω;rw[qlk];split<;>omega
def sQ(q:Nat→Int):Nat→Int
 |0=>0
 |w+1=>sQ q w+q w
theorem qpy(q:Nat→Int)(w:Nat):sQ q (w+1)=sQ q w+q w:=rfl
theorem qll(q:Nat→Int):∀w:Nat,(∀i,i<w→1≤q i∧q i≤1000)→0≤sQ q w∧sQ q w≤1000*w
 |0,_=>by simp[sQ]
 |w+1,h=>by
  have h1:=qll q w λi hi=>h i Ω;have h2:=h w Ω;rw[qpy];omega
def ks(a b:Int):Value:=.agg #[.int .i64 a,.int .i64 b]
end Go.Tn
end
section
namespace Go.Tn
open Go.Proofs
open Go.Sx
theorem c91(nb:Nat)(n:Int)(f q:Nat→Int)(fav:Bool)(c d st:Int)(x y:Int):qb Tryz.prog 91 [bkS n nb f (λ_=>-1) q fav c d st,qcX x (-1) y] (.tup [.agg [I x,I (-1)],B true]):=by
 refine qc Tryz.func91 rfl Ωb follows Ωb _ _ (by rw[Tryz.ntmps91];simp) ΩD ?_;have NB:True:=trivial;have hr0:True:=trivial;have h1:=qqM x;have h2:=qqM (-1);unfold bkS qcX I B;repeat' first|refine sD ?_ ?_<;>intro _|refine aAf ?_|simp -dsimp only[↓RP,RQ,seval,TYQ,TYP,NB,QS,hr0,TYR,QT,QN]
 all_goals try exact Ωe
 refine qh (h1) (by simp[SubL,Go.Sx.Sub,I]) Ωt ?_;repeat' first|refine sD ?_ ?_<;>intro _|refine aAf ?_|simp -dsimp only[↓RP,RQ,seval,QT,TYQ,TYP,NB,QS,hr0,TYR,QN]
 all_goals try exact Ωe
 refine qh (h2) (by simp[SubL,Go.Sx.Sub,I]) Ωt ?_;repeat' first|refine sD ?_ ?_<;>intro _|refine aAf ?_|simp -dsimp only[↓RP,RQ,seval,QT,TYQ,TYP,NB,QS,hr0,TYR,QN]
 all_goals try exact Ωe
theorem c26(nb:Nat)(n:Int)(f q:Nat→Int)(fav:Bool)(c d st:Int)(r:Int)(hnb:nb≤100)(hq:∀i,i<nb→1≤q i∧q i≤1000):qb Tryz.prog 26 [bkS n nb f (λ_=>-1) q fav c d st,.agg [I r,I (-1)]] (I (cF f q nb r)):=by
 refine qc Tryz.func26 rfl Ωb follows Ωb _ _ (by rw[Tryz.ntmps26];simp) ΩD ?_;have NB:True:=trivial;have hr0:True:=trivial;unfold bkS I;repeat' first|refine sD ?_ ?_<;>intro _|refine aAf ?_|simp -dsimp only[↓RP,RQ,seval,TYQ,TYP,NB,QS,hr0,TYR,QT,QN]
 all_goals try exact Ωe
 refine qo (λ(w:Nat)=>w≤nb) (λw=>⟨[(2,.ptr 0 0),(3,.ptr 1 0),(5,.val (.int .i64 (cF f q w r))),(6,.val (.int .i64 (w:Nat)))],[(1,.cells 55 [.val (.int .i64 r),.val (.int .i64 (-1))]),(0,.cells 48 [.val (.int .i64 0),.val (.int .i64 n),zA nb f (λ_=>-1) q,.val (.slice none 0 0),.val (.bool fav),.val (.int .i64 c),.val (.int .i64 d),.val (.int .i64 st)])],100+60*w⟩) (λw=>nb - w) 0 (xb6 _) (qp Ω (by simp[zj,Go.Sx.look,cF]) (SubHp.refl _)) λw hw=>?_;by_cases hwm:w<nb
 ·have hlt:=decide_eq_true (Ω:((w:Nat):Int)<(nb:Nat))
  obtain⟨n1,hn1⟩:∃n1,n1=100+60*w:=⟨_,rfl⟩;rw[←hn1];have NB:=(⟨nmA (Ω:0<n1),nmA (Ω:1<n1)⟩:_∧_);have h1:=c91 nb n f q fav c d st (f w) (q w);have hb:=J4 f q r w (λi hi=>hq i Ω);have hqw:=hq w hwm;repeat' first|refine sD ?_ ?_<;>intro _|refine aAf ?_|simp -dsimp only[↓RP,RQ,seval,hlt,zA,TYQ,TYP,NB,QS,hr0,TYR,QT,QN]
  all_goals try exact Ωe
  refine qh (h1) (by simp only[SubL,and_true];exact⟨zD _ (Qa _ _ _ _ _ _ _ _ _),zD _ (qbf _ _ _)⟩) Ωt ?_;repeat' first|refine sD ?_ ?_<;>intro _|refine aAf ?_|simp -dsimp only[↓RP,RQ,seval,QT,zA,TYQ,TYP,NB,QS,hr0,TYR,QN]
  all_goals try exact Ωe
  all_goals
   rename_i hc;refine⟨w+1,hwm,Ω,qp Ω (by simp[zj,Go.Sx.look,qlk,hc]) (SubHp.skip ?_ (SubHp.refl _))⟩;simp only[blk];rw[if_neg Ω,if_neg Ω]
 ·obtain rfl:nb=w:=by omega
  have hlt:=decide_eq_false (Ω:¬((nb:Nat):Int)<(nb:Nat));repeat' first|refine sD ?_ ?_<;>intro _|refine aAf ?_|simp -dsimp only[↓RP,RQ,seval,hlt,zA,TYQ,TYP,NB,QS,hr0,TYR,QT,QN]
  all_goals try exact Ωe
end Go.Tn
end
section
namespace Go.Tn
open Go.Proofs
open Go.Sx
end Go.Tn
end
section
namespace Go.Tn
open Go.Sx
end Go.Tn
end
section
namespace Go.Tn
open Go.Proofs
open Go.Sx
end Go.Tn
end
section
namespace Go.Tn
open Go.Proofs
open Go.Sx
end Go.Tn
end
section
namespace Go.Tl
open Go.Proofs
open Go.Sx
theorem follows:Tryz.prog.follows .mixedOrders=true:=by kernel_rfl
theorem TYl:qk Tryz.prog 2=some { agg:=false,size:=1,zero:=some [Value.int IntKind.i64 (0)],d:=D.int IntKind.i64 }∧qk Tryz.prog 3=some { agg:=false,size:=1,zero:=some [Value.int IntKind.i64 (0)],d:=D.int IntKind.i64 }∧qk Tryz.prog 4=some { agg:=false,size:=1,zero:=some [Value.bool false],d:=D.bool }∧qk Tryz.prog 32=some { agg:=false,size:=1,zero:=some [Value.slice none 0 0],d:=D.slice 2 1 }∧qk Tryz.prog 43=some { agg:=false,size:=1,zero:=some [Value.slice none 0 0],d:=D.slice 32 1 }:=⟨Ωb,Ωb,Ωb,Ωb,Ωb⟩
theorem by2:qE Tryz.prog 2=8:=by kernel_rfl
def I(n:Int):SV:=.val (.int .i64 n)
def ints(n:Nat)(u:Nat→Int):SV:=.arr false false n 1 (λi _=>.val (.int .i64 (u i)))
theorem zO{a b:Int}(h:a=b):SV.val (Value.int IntKind.i64 a)=SV.val (Value.int IntKind.i64 b):=by rw[h]
def gL(f:Nat→Int):Nat→Int
 |0=>f 0
 |k+1=>min (gL f k) (f (k+1))
theorem J5(f:Nat→Int):∀m k,k≤m→gL f m≤f k
 |0,k,h=>by
   have:k=0:=by omega
   subst this;exact Int.le_refl _
 |m+1,k,h=>by
  simp only[gL];by_cases e:k=m+1
  ·subst e;omega
  ·have:=J5 f m k Ω;omega
theorem J6(f:Nat→Int):∀m,∃k,k≤m∧gL f m=f k
 |0=>⟨0,xa5 _,rfl⟩
 |m+1=>by
  obtain⟨k,hk,e⟩:=J6 f m;simp only[gL];by_cases h:f (m+1)≤gL f m
  ·exact⟨m+1,xa5 _,Ω⟩
  ·exact⟨k,Ω,Ω⟩
structure Curve where
 m:Nat
 u:Nat→Int
structure Curve.Fine(c:Curve):Prop where
 m1:1≤c.m
 m6:c.m≤6
 rg:∀i,i<c.m→0≤c.u i∧c.u i≤100
 up:∀i,i<c.m - 1→c.u i≤c.u (i+1)
def Curve.L1(c:Curve)(k:Nat):Int:=((k / c.m:Nat):Int)*c.u (c.m - 1)+(if 0<k % c.m then c.u (k % c.m - 1)else 0)
theorem qns(c:Curve):c.L1 0=0:=by unfold Curve.L1;simp
def Ls(C:Nat→Curve):Nat→Nat→Int
 |0=>(C 0).L1
 |i+1=>λk=>gL (λp=>Ls C i (k - p)+(C (i+1)).L1 p) k
theorem Ls_le(C:Nat→Curve)(i k p:Nat)(hp:p≤k):Ls C (i+1) k≤Ls C i (k - p)+(C (i+1)).L1 p:=
 J5 (λp=>Ls C i (k - p)+(C (i+1)).L1 p) k p hp
theorem Ls_at(C:Nat→Curve)(i k:Nat):∃p,p≤k∧Ls C (i+1) k=Ls C i (k - p)+(C (i+1)).L1 p:=
 J6 (λp=>Ls C i (k - p)+(C (i+1)).L1 p) k
def Curve.sv(c:Curve):SV:=ints c.m c.u
theorem Curve.old(c:Curve):Old c.sv:=by simp[Old,Curve.sv,ints]
theorem tdN(k m:Nat):(k:Int).tdiv (m:Int)=((k / m:Nat):Int):=rfl
theorem tmN(k m:Nat):(k:Int).tmod (m:Int)=((k % m:Nat):Int):=rfl
theorem qon(c:Curve)(h:c.Fine)(k:Nat)(hk:k≤400):0≤((k / c.m:Nat):Int)*c.u (c.m - 1)∧((k / c.m:Nat):Int)*c.u (c.m - 1)≤40000:=by
 have h1:=h.m1;have h2:=h.rg (c.m - 1) Ω;have h3:k / c.m≤400:=xc1 (Nat.div_le_self _ _) hk;generalize k / c.m=q at h3 ⊢;have h4:((q:Nat):Int)*c.u (c.m - 1)≤((q:Nat):Int)*100:=Int.mul_le_mul_of_nonneg_left h2.2 Ω;have h5:0≤(q:Int)*c.u (c.m - 1):=Int.mul_nonneg Ω h2.1;omega
theorem qqV(c:Curve)(h:c.Fine)(k:Nat)(hk:k≤400):qb Tryz.prog 172 [c.sv,I k] (I (c.L1 k)):=by
 refine qc Tryz.func172 rfl Ωb follows Ωb _ _ (by rw[Tryz.ntmps172];simp) (by simp[OldL,c.old];simp[Old,I]) ?_;have h1:=h.m1;have h6:=h.m6;have hb:=qon c h k hk;have e1:(c.m:Int) - 1=((c.m - 1:Nat):Int):=by omega
 have hr:=Nat.mod_lt k h1;have hq:k / c.m≤400:=xc1 (Nat.div_le_self _ _) hk;have eL:c.L1 k=((k / c.m:Nat):Int)*c.u (c.m - 1)+(if 0<k % c.m then c.u (k % c.m - 1)else 0):=rfl;rw[eL];have hd:=tdN k c.m;have hm:=tmN k c.m;generalize k / c.m=q at *;generalize k % c.m=r at *;unfold I
 conv=>arg 4;unfold Curve.sv ints
 by_cases h0:0<r
 ·have e2:(r:Int) - 1=((r - 1:Nat):Int):=by omega
  have hu:=h.rg (r - 1) Ω;rw[if_pos h0];(repeat' (first|refine sD ?_ ?_<;>intro _|refine aA ?_|simp -dsimp only[↓RP,RQ,seval,e1,e2,hd,hm,TYl,Int.toNat_natCast,Tryz.results172]))
  all_goals first|(exfalso;omega)|(first|exact True.intro|(simp only[InK];omega)|omega|(simp only[InK,ne_eq,and_true,true_and];omega)|trivial)|skip
 ·rw[if_neg h0]
  (repeat' (first|refine sD ?_ ?_<;>intro _|refine aA ?_|simp -dsimp only[↓RP,RQ,seval,e1,hd,hm,TYl,Int.toNat_natCast,Tryz.results172]))
  all_goals first|(exfalso;omega)|(refine zO ?_;omega)|(first|exact True.intro|(simp only[InK];omega)|omega|(simp only[InK,ne_eq,and_true,true_and];omega)|trivial)|skip
def chn(n:Nat)(C:Nat→Curve):SV:=.arr false false n 1 (λi _=>.arr false false (C i).m 1 (λj _=>.val (.int .i64 ((C i).u j))))
theorem qnt(n:Nat)(C:Nat→Curve):Old (chn n C):=by simp[Old,chn]
theorem Z5(c:Curve)(h:c.Fine)(k:Nat)(hk:k≤400):0≤c.L1 k∧c.L1 k≤50000:=by
 have hb:=qon c h k hk;have h1:=h.m1;have hr:=Nat.mod_lt k h1;unfold Curve.L1;split
 ·have:=h.rg (k % c.m - 1) Ω;omega
 ·omega
theorem qbD(C:Nat→Curve):∀i,(∀j,j≤i→(C j).Fine)→∀k,k≤400→0≤Ls C i k∧Ls C i k≤50000
 |0,h,k,hk=>Z5 _ (h 0 Ω) k hk
 |i+1,h,k,hk=>by
  obtain⟨p,hp,e⟩:=Ls_at C i k;have h1:=qbD C i (λj hj=>h j Ω);have h2:=Ls_le C i k 0 (xb6 _);rw[qns,Nat.sub_zero]at h2;have h3:=h1 (k - p) Ω;have h4:=h1 k hk;have h5:=Z5 _ (h (i+1) Ω) p Ω;omega
def z1(f:Nat→Int)(k j:Nat):Int:=if j<k then f j else 0
theorem qfv(f:Nat→Int)(j:Nat):z1 f 0 j=0:=by unfold z1;rw[if_neg Ω]
theorem qlm(f:Nat→Int)(k a:Nat):(if a=k then SV.val (.int .i64 (f k))else .val (.int .i64 (z1 f k a)))=.val (.int .i64 (z1 f (k+1) a)):=by
 unfold z1;by_cases e:a=k
 ·subst e;rw[if_pos rfl,if_pos Ω]
 ·rw[if_neg e]
  by_cases h:a<k
  ·rw[if_pos h,if_pos Ω]
  ·rw[if_neg h,if_neg Ω]
theorem qln(f:Nat→Int)(k a:Nat)(h:a<k):z1 f k a=f a:=by unfold z1;rw[if_pos h]
theorem qrV(last:Nat)(hl:last≤1000000)(f:FuncId)(first caps:List SV)(hf:OldL first)(hc:OldL caps)(g:Nat→Int)(hg:∀k,k≤last→qb Tryz.prog f (first++I k :: caps) (I (g k))) :
  qb Tryz.prog 179 [I last,.fn (.func f) first caps] (I (gL g last)):=by
 refine qc Tryz.func179 rfl Ωb follows Ωb _ _ (by rw[Tryz.ntmps179];simp) (by simp only[OldL,Old,I,hf,hc,and_self]) ?_;unfold I;(repeat' (first|refine sD ?_ ?_<;>intro _|refine aA ?_|simp -dsimp only[↓RP,RQ,seval,TYl,Tryz.results179]));refine zC (hg 0 (xb6 _)) (subL_refl _ (VN hf hc)) ?_;(repeat' (first|refine sD ?_ ?_<;>intro _|refine aA ?_|simp -dsimp only[↓RP,RQ,seval,I,TYl,Tryz.results179]));refine qo (λ(k:Nat)=>k≤last) (λk=>⟨[(0,.val (.int .i64 last)),(1,.fn (.func f) first caps),(5,.val (.int .i64 (gL g k))),(6,.val (.int .i64 ((k:Int)+1)))],[],0⟩) (λk=>last - k) 0 (xb6 _) (weak [] [] ?_ ?_ ?_) λk hk=>?_
 ·(simp -dsimp only[↓RP,RQ,seval,gL]);all_goals (try simp)
  exact⟨wkL_refl _ hf,wkL_refl _ hc⟩
 ·(simp -dsimp only[↓RP,RQ,seval])
 ·(simp -dsimp only[↓RP,RQ,seval])
 by_cases hlt:k<last
 ·have eP:(k:Int)+1=((k+1:Nat):Int):=by omega
  (repeat' (first|refine sD ?_ ?_<;>intro _|refine aA ?_|simp -dsimp only[↓RP,RQ,seval,eP,TYl,Tryz.results179]))
  all_goals try(exfalso;omega)
  refine zC (hg (k+1) hlt) (subL_refl _ (VN hf hc)) ?_;(repeat' (first|refine sD ?_ ?_<;>intro _|refine aA ?_|simp -dsimp only[↓RP,RQ,seval,I,eP,TYl,Tryz.results179]))
  all_goals try(exfalso;omega)
  refine⟨k+1,hlt,Ω,weak [] [] ?_ ?_ ?_⟩
  ·(simp -dsimp only[↓RP,RQ,seval,gL]);all_goals (try simp)
   exact⟨wkL_refl _ hf,wkL_refl _ hc⟩
  ·(simp -dsimp only[↓RP,RQ,seval])
  ·(simp -dsimp only[↓RP,RQ,seval])
 ·have hke:k=last:=by omega
  subst hke;(repeat' (first|refine sD ?_ ?_<;>intro _|refine aA ?_|simp -dsimp only[↓RP,RQ,seval,TYl,Tryz.results179]))
  all_goals try(exfalso;omega)
theorem qrW(N:Nat)(f:Nat→Int)(c:Curve)(h:c.Fine)(k p:Nat)(hk:k<N)(hN:N≤401)(hp:p≤k)(hf:∀j,j≤k→0≤f j∧f j≤1000000) :
  qb Tryz.prog 284 [I p,.ref false 1 (λ_=>ints N f),.ref false 1 (λ_=>I k),.ref false 1 (λ_=>c.sv)] (I (f (k - p)+c.L1 p)):=by
 refine qc Tryz.func284 rfl Ωb follows Ωb _ _ (by rw[Tryz.ntmps284];simp) (by simp only[OldL,Old,c.old,I];simp[Old,ints]) ?_;have b1:=Z5 c h p Ω;have b2:=hf (k - p) Ω;have er:(k:Int) -(p:Int)=((k - p:Nat):Int):=by omega
 unfold I
 conv=>arg 4;unfold Curve.sv ints
 (repeat' (first|refine sD ?_ ?_<;>intro _|refine aA ?_|simp -dsimp only[↓RP,RQ,seval,er,TYl,Int.toNat_natCast,Tryz.results284]))
 all_goals try(exfalso;omega)
 refine qh (qqV c h p Ω) (by(simp -dsimp only[↓RP,RQ,seval,Curve.sv,ints,I]);all_goals simp) Ωi ?_;(repeat' (first|refine sD ?_ ?_<;>intro _|refine aA ?_|simp -dsimp only[↓RP,RQ,seval,I,er,TYl,Int.toNat_natCast,Tryz.results284]))
 all_goals (first|exact True.intro|(simp only[InK];omega)|omega|(simp only[InK,ne_eq,and_true,true_and];omega)|trivial)
theorem c178(n:Nat)(C:Nat→Curve)(n1:1≤n)(n3:n≤3)(hC:∀i,i<n→(C i).Fine)(turns:Nat)(ht:turns≤400):zX Tryz.prog 178 [chn n C,I turns] (.rows 2 1 (turns+1) (λj _=>I (Ls C (n - 1) j))) (.vec 0 (turns+1) 1):=by
 refine Zm Tryz.func178 rfl Ωb follows Ωb _ _ _ (by rw[Tryz.ntmps178];simp) (by simp only[OldL,qnt,Old,I,and_self]) ?_;unfold I
 conv=>arg 4;unfold chn Curve.sv ints
 have eT:((turns:Int)+1).toNat=turns+1:=by omega
 (repeat' (first|refine sD ?_ ?_<;>intro _|refine aA ?_|simp -dsimp only[↓RP,RQ,seval,eT,by2,TYl,Int.toNat_natCast,Tryz.results178]));have eN:((n:Int) - 1).toNat=n - 1:=by omega
 refine qo (λ(k:Nat)=>k≤turns+1) (λk=>⟨[(0,.arr false false n 1 (λi _=>.arr false false (C i).m 1 (λj _=>.val (.int .i64 ((C i).u j))))),(1,.val (.int .i64 turns)),(5,.ptr 61 0),(15,.val (.int .i64 ((turns+1:Nat):Int))),(16,.val (.int .i64 k))],[(61,.cells 32 [.vec 60 (turns+1) 1]),(60,.rows 2 1 (turns+1) (λj _=>.val (.int .i64 (z1 (C 0).L1 k j))))],62⟩) (λk=>turns+1 - k) 0 (xb6 _) (weak [(61,some 4),(60,some 3)] [] ?_ ?_ ?_) λk hk=>?_
 ·(simp -dsimp only[↓RP,RQ,seval]);all_goals simp
 ·(simp -dsimp only[↓RP,RQ,seval,qfv]);all_goals (try simp)
 ·(simp -dsimp only[↓RP,RQ,seval]);all_goals simp
 by_cases hlt:k<turns+1
 ·have hL:=Z5 (C 0) (hC 0 Ω) k Ω
  (repeat' (first|refine sD ?_ ?_<;>intro _|refine aA ?_|simp -dsimp only[↓RP,RQ,seval,I,eT,eN,by2,TYl,Int.toNat_natCast,Tryz.results178]))
  all_goals try(exfalso;omega)
  refine qh (qqV (C 0) (hC 0 Ω) k Ω) (by(simp -dsimp only[↓RP,RQ,seval,Curve.sv,ints,I]);all_goals simp) Ωi ?_;(repeat' (first|refine sD ?_ ?_<;>intro _|refine aA ?_|simp -dsimp only[↓RP,RQ,seval,I,eT,eN,by2,TYl,Int.toNat_natCast,Tryz.results178]))
  all_goals try(exfalso;omega)
  refine⟨k+1,Ω,Ω,weak [] [] ?_ ?_ ?_⟩
  ·(simp -dsimp only[↓RP,RQ,seval]);all_goals simp
  ·(simp -dsimp only[↓RP,RQ,seval]);all_goals (try simp)
   exact λa ha=>qlm (C 0).L1 k a
  ·(simp -dsimp only[↓RP,RQ,seval]);all_goals simp
 ·have hke:k=turns+1:=by omega
  subst hke;(repeat' (first|refine sD ?_ ?_<;>intro _|refine aA ?_|simp -dsimp only[↓RP,RQ,seval,I,eT,eN,by2,TYl,Int.toNat_natCast,Tryz.results178]))
  all_goals try(exfalso;omega)
  refine qo (λ(i:Nat)=>i<n) (λi=>⟨[(0,.arr false false n 1 (λi _=>.arr false false (C i).m 1 (λj _=>.val (.int .i64 ((C i).u j))))),(1,.val (.int .i64 turns)),(5,.ptr 61 0),(29,.arr false false (n - 1) 1 (λi _=>.arr false false (C (1+i)).m 1 (λj _=>.val (.int .i64 ((C (1+i)).u j))))),(30,.val (.int .i64 ((n - 1:Nat):Int))),(31,.val (.int .i64 i))],[(61,.cells 32 [.vec 60 (turns+1) 1]),(60,.rows 2 1 (turns+1) (λj _=>.val (.int .i64 (Ls C i j))))],62⟩) (λi=>n - i) 0 n1 (weak [] [] ?_ ?_ ?_) λi hi=>?_
  ·(simp -dsimp only[↓RP,RQ,seval]);all_goals simp
  ·(simp -dsimp only[↓RP,RQ,seval]);all_goals (try simp)
   exact λa ha=>qln (C 0).L1 (turns+1) a ha
  ·(simp -dsimp only[↓RP,RQ,seval]);all_goals simp
  by_cases hin:i+1<n
  ·have e1i:1+i=i+1:=by omega
   (repeat' (first|refine sD ?_ ?_<;>intro _|refine aA ?_|simp -dsimp only[↓RP,RQ,seval,I,eT,eN,by2,TYl,Int.toNat_natCast,Tryz.results178]))
   all_goals try(exfalso;omega)
   refine qo (λ(k:Nat)=>k≤turns+1) (λk=>⟨[(0,.arr false false n 1 (λi _=>.arr false false (C i).m 1 (λj _=>.val (.int .i64 ((C i).u j))))),(1,.val (.int .i64 turns)),(5,.ptr 61 0),(29,.arr false false (n - 1) 1 (λi _=>.arr false false (C (1+i)).m 1 (λj _=>.val (.int .i64 ((C (1+i)).u j))))),(30,.val (.int .i64 ((n - 1:Nat):Int))),(31,.val (.int .i64 i)),(8,.ptr 62 0),(9,.vec 90 (turns+1) 1),(39,.val (.int .i64 ((turns+1:Nat):Int))),(40,.val (.int .i64 k))],[(90,.rows 2 1 (turns+1) (λj _=>.val (.int .i64 (z1 (Ls C (i+1)) k j)))),(62,.cells 32 [.arr false false (C (1+i)).m 1 (λj _=>.val (.int .i64 ((C (1+i)).u j)))]),(61,.cells 32 [.vec 60 (turns+1) 1]),(60,.rows 2 1 (turns+1) (λj _=>.val (.int .i64 (Ls C i j))))],91⟩) (λk=>turns+1 - k) 0 (xb6 _) (weak [(90,some 69),(62,some 65)] [] ?_ ?_ ?_) λk hk=>?_
   ·(simp -dsimp only[↓RP,RQ,seval]);all_goals simp
   ·(simp -dsimp only[↓RP,RQ,seval,qfv]);all_goals (try simp)
   ·(simp -dsimp only[↓RP,RQ,seval]);all_goals simp
   by_cases hlt:k<turns+1
   ·(repeat' (first|refine sD ?_ ?_<;>intro _|refine aA ?_|simp -dsimp only[↓RP,RQ,seval,I,eT,eN,by2,TYl,Int.toNat_natCast,Tryz.results178]))
    all_goals try(exfalso;omega)
    refine qh (qrV k Ω 284 [] [.ref false 1 (λ_=>ints (turns+1) (Ls C i)),.ref false 1 (λ_=>I k),.ref false 1 (λ_=>(C (1+i)).sv)] trivial (by simp[OldL,Old,Curve.sv,ints,I]) (λp=>Ls C i (k - p)+(C (1+i)).L1 p) λp hp=>qrW (turns+1) (Ls C i) (C (1+i)) (hC (1+i) Ω) k p hlt Ω hp λj hj=>?_) ?_ Ωi ?_
    ·have:=qbD C i (λj hj=>hC j Ω) j Ω;omega
    ·(simp -dsimp only[↓RP,RQ,seval,Curve.sv,ints,I]);all_goals (try simp)
     refine⟨?_,?_⟩
     ·(simp -dsimp only[↓RP,RQ,seval]);all_goals simp
     ·(simp -dsimp only[↓RP,RQ,seval]);all_goals simp
    have eF:gL (λp=>Ls C i (k - p)+(C (1+i)).L1 p) k=Ls C (i+1) k:=by rw[e1i];rfl
    (repeat' (first|refine sD ?_ ?_<;>intro _|refine aA ?_|simp -dsimp only[↓RP,RQ,seval,eF,I,eT,eN,by2,TYl,Int.toNat_natCast,Tryz.results178]))
    all_goals try(exfalso;omega)
    refine⟨k+1,Ω,Ω,weak [] [] ?_ ?_ ?_⟩
    ·(simp -dsimp only[↓RP,RQ,seval]);all_goals simp
    ·(simp -dsimp only[↓RP,RQ,seval]);all_goals (try simp)
     exact λa ha=>qlm (Ls C (i+1)) k a
    ·(simp -dsimp only[↓RP,RQ,seval]);all_goals simp
   ·have hke:k=turns+1:=by omega
    subst hke;(repeat' (first|refine sD ?_ ?_<;>intro _|refine aA ?_|simp -dsimp only[↓RP,RQ,seval,I,eT,eN,by2,TYl,Int.toNat_natCast,Tryz.results178]))
    all_goals try(exfalso;omega)
    refine⟨i+1,hin,Ω,weak [(60,some 90)] [] ?_ ?_ ?_⟩
    ·(simp -dsimp only[↓RP,RQ,seval]);all_goals simp
    ·(simp -dsimp only[↓RP,RQ,seval]);all_goals (try simp)
     exact λa ha=>qln (Ls C (i+1)) (turns+1) a ha
    ·(simp -dsimp only[↓RP,RQ,seval]);all_goals simp
  ·have hie:i=n - 1:=by omega
   (repeat' (first|refine sD ?_ ?_<;>intro _|refine aA ?_|simp -dsimp only[↓RP,RQ,seval,I,eT,eN,by2,TYl,Int.toNat_natCast,Tryz.results178]))
   all_goals try(exfalso;omega)
   refine⟨60,_,rfl,?_,?_⟩
   ·(simp -dsimp only[↓RP,RQ,seval,I,hie]);all_goals simp
   ·(simp -dsimp only[↓RP,RQ,seval])
end Go.Tl
end
section
namespace Go.Sx
open Go.Proofs
noncomputable section
def cvU(i:Nat):Int:=Nat.rec 0 (λj _=>Nat.rec 2 (λ_ _=>4) j) i
def cvB:Go.Tl.Curve:=⟨3,cvU⟩
theorem qbE:cvB.Fine:=⟨Ωq,Ωq,λi hi=>by
 have hi:i<3:=hi
 match i,hi with
 |0,_=>decide
 |1,_=>decide
 |2,_=>decide,λi hi=>by
 have hi:i<2:=hi
 match i,hi with
 |0,_=>decide
 |1,_=>decide⟩
def gB(k:Nat):Nat:=4*(k / 3) - Bool.rec 0 2 (Nat.beq (k % 3) 0)
theorem J7(k:Nat):cvB.L1 k=((4*(k / 3)+(if k % 3=2 then 2 else 0):Nat):Int):=by
 unfold Go.Tl.Curve.L1;show((k / 3:Nat):Int)*4+(if 0<k % 3 then cvU (k % 3 - 1)else 0)=_;have:k % 3=0∨k % 3=1∨k % 3=2:=by omega
 rcases this with h|h|h
 ·rw[h];simp;omega
 ·have e:cvU 0=0:=rfl
  rw[h];simp[e];omega
 ·have e:cvU 1=2:=rfl
  rw[h];simp[e];omega
theorem qoo(k:Nat):gB k=if k % 3=0 then 4*(k / 3) - 2 else 4*(k / 3):=by
 unfold gB;by_cases h:k % 3=0
 ·rw[if_pos h,h];rfl
 ·rw[if_neg h]
  have:Nat.beq (k % 3) 0=false:=by cases e:Nat.beq (k % 3) 0 with
   |false=>rfl
   |true=>exact absurd (xa6 e) h
  rw[this];rfl
theorem qqW(k:Nat):Go.Tl.Ls (λ_=>cvB) 1 k=(gB k:Int):=by
 have h1:∀p,p≤k→(gB k:Int)≤cvB.L1 (k - p)+cvB.L1 p:=λp hp=>by
  rw[J7,J7,qoo];split<;>split<;>split<;>omega
 have h2:Go.Tl.Ls (λ_=>cvB) 1 k≤(gB k:Int):=by
  cases k with
  |zero=>decide
  |succ k=>
   have:=Go.Tl.Ls_le (λ_=>cvB) 0 (k+1) 1 Ω;refine Int.le_trans this ?_;show cvB.L1 (k+1 - 1)+cvB.L1 1≤_;rw[J7,J7,qoo];split<;>split<;>split<;>omega
 obtain⟨p,hp,e⟩:=Go.Tl.Ls_at (λ_=>cvB) 0 k;have h3:=h1 p hp;have e:Go.Tl.Ls (λ_=>cvB) 1 k=cvB.L1 (k - p)+cvB.L1 p:=e;omega
def qbF(j _:Nat):SV:=.val (.int .i64 (.ofNat (gB j)))
def lsN:Nat×List SV×(TypeId×Nat×Nat×List SV×SV):=(178,[Go.Tl.chn 2 (λ_=>cvB),Go.Tl.I 360],(2,1,361,wS qbF 1 361,.vec 0 361 1))
theorem qpz:qiN Tryz.prog 178 [Go.Tl.chn 2 (λ_=>cvB),Go.Tl.I 360] 2 1 361 (wS qbF 1 361) (.vec 0 361 1):=by
 refine⟨qbF,?_,jF _ _ _,by simp[FreshO],by simp[FreshB,Fresh,qbF]⟩;have h:=Go.Tl.c178 2 (λ_=>cvB) Ω Ω (λ_ _=>qbE) 360 Ω;have e:(λj (_:Nat)=>Go.Tl.I (Go.Tl.Ls (λ_=>cvB) (2 - 1) j))=qbF:=by
  funext j _;show SV.val (.int .i64 (Go.Tl.Ls (λ_=>cvB) 1 j))=_;rw[qqW];rfl
 rw[e]at h;exact h
def g1B(k:Nat):Nat:=Nat.add (4*(k / 3)) (Bool.rec 0 2 (Nat.beq (k % 3) 2))
theorem qpA(k:Nat):cvB.L1 k=(g1B k:Int):=by
 rw[J7];unfold g1B
 congr 1
 show _=4*(k / 3)+_
 congr 1
 by_cases h:k % 3=2
 ·rw[if_pos h,h];rfl
 ·rw[if_neg h]
  have:Nat.beq (k % 3) 2=false:=by cases e:Nat.beq (k % 3) 2 with
   |false=>rfl
   |true=>exact absurd (xa6 e) h
  rw[this]
def qbG(j _:Nat):SV:=.val (.int .i64 (.ofNat (g1B j)))
def l1N:Nat×List SV×(TypeId×Nat×Nat×List SV×SV):=(178,[Go.Tl.chn 1 (λ_=>cvB),Go.Tl.I 360],(2,1,361,wS qbG 1 361,.vec 0 361 1))
theorem qpB:qiN Tryz.prog 178 [Go.Tl.chn 1 (λ_=>cvB),Go.Tl.I 360] 2 1 361 (wS qbG 1 361) (.vec 0 361 1):=by
 refine⟨qbG,?_,jF _ _ _,by simp[FreshO],by simp[FreshB,Fresh,qbG]⟩;have h:=Go.Tl.c178 1 (λ_=>cvB) Ω Ω (λ_ _=>qbE) 360 Ω;have e:(λj (_:Nat)=>Go.Tl.I (Go.Tl.Ls (λ_=>cvB) (1 - 1) j))=qbG:=by
  funext j _;show SV.val (.int .i64 (cvB.L1 j))=_;rw[qpA];rfl
 rw[e]at h;exact h
end
end Go.Sx
end
section
namespace Go.Sx
noncomputable section
def wI(n:Int):SV:=.val (.int .i64 n)
def qqX(l:List Int):Nat→Int:=List.rec (λ_=>0) (λa _ ih i=>Nat.rec a (λj _=>ih j) i) l
def liN(o:Bool)(n:Nat)(l:List Int):SV:=.arr o false n 1 (λi _=>.val (.int .i64 (qqX l i)))
def liA:SV:=liN false 3 [3,4,4]
def liB:SV:=liN false 3 [0,2,4]
def ch1:SV:=.arr false false 1 1 (λ_ _=>liB)
def ch2:SV:=.arr false false 2 1 (λ_ _=>liB)
def cW:Nat×List SV×SV:=(22,[liA,ch2],.tup [wI 4,wI 0])
def cL:Nat×List SV×SV:=(23,[liA,ch1],.tup [wI 2,wI 0])
def cB:Nat×List SV×SV:=(147,[liA,ch1],.tup [liN true 3 [4,5,7],wI 0])
end
end Go.Sx
end
section
namespace Go.Sx
noncomputable section
def hJ:SV:=.agg [liN false 3 [2,3,6]]
def z3:SV:=liN false 3 [0,0,0]
def qrX(l:List (List Int)):Nat→List Int:=List.rec (λ_=>[]) (λa _ ih i=>Nat.rec a (λj _=>ih j) i) l
def dSt:List (List Int):=[[0,0,0],[0,1,1],[1,0,1],[1,1,0],[0,2,2],[1,0,2],[1,2,0],[0,1,2],[2,0,2],[2,1,0],[0,2,1],[2,0,1],[2,2,0],[0,3,3],[1,0,3],[1,3,0],[0,1,3],[2,0,3],[0,3,1],[2,3,0],[0,2,3],[0,3,2],[0,1,4],[2,0,4],[0,2,4],[1,0,4],[0,3,4],[0,2,5],[1,0,5],[0,3,5],[0,1,5],[2,0,5],[0,3,6],[1,0,6],[0,1,6],[2,0,6],[0,2,6]]
def dLf:List Int:=[9,7,7,8,5,6,2,6,1,1,7,1,1,1,4,1,5,1,1,1,5,1,3,1,3,4,1,2,2,1,3,1,1,1,1,1,1]
def dJ:SV:=.arr true false 37 2 (λi j=>Nat.rec (liN true 3 (qrX dSt i)) (λ_ _=>wI (qqX dLf i)) j)
def c13J:Nat×List SV×SV:=(13,[hJ],.tup [.val (.slice none 0 0),wI 17])
def c135J:Nat×List SV×SV:=(135,[hJ,z3],.tup [dJ,wI 0])
def c138J:Nat×List SV×SV:=(138,[hJ,z3],.tup [liN true 8 [2,0,1,0,1,0,2,0],wI 0])
def qlo:Nat×List SV×SV:=(170,[liN false 0 []],liN true 0 [])
end
end Go.Sx
end
