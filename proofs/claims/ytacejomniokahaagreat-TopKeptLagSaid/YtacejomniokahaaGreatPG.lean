/- A part of the proof. -/
import Derived.Test.YtacejomniokahaaGreatProg
import Derived.Test.YtacejomniokahaaGreatPF
import Derived.Test.YtacejomniokahaaGreatPC
open Nat renaming le_refl→xa5,eq_of_beq_eq_true→xa6,le_of_ble_eq_true→xa7,lt_of_lt_of_le→xa9,zero_add→xb0,add_zero→xb1,add_assoc→xb2,lt_irrefl→xb4,lt_succ_self→xb5,zero_le→xb6,sub_self→xb8,le_succ→xc4
open List renaming getD_eq_getElem?_getD→xc6,getElem?_eq_getElem→xc7,length_append→xc8,getElem?_append_left→xc9,getElem?_append_right→xd0,length_singleton→xd1,mem_append→xd4,mem_cons_self→xd5,getElem?_cons_zero→xd6,mem_singleton→xe0,length_map→xe1,length_cons→xe4
open Bool renaming and_eq_true→xe6,false_eq_true→xe7,true_and→xf0
open Array renaming getD_eq_getD_getElem?→xf5,getElem?_toList→xf6
set_option linter.unusedVariables false
set_option linter.unusedSimpArgs false
set_option linter.defProp false
set_option maxRecDepth 1000000
set_option maxHeartbeats 16000000
section
namespace Go.Sx
open Go.RowKit
noncomputable section
variable{ρ:Q}
def Kw(E:XE)(n:Nat):XC:=Nat.rec (motive:=λ_=>XC) (λ_ _ _ _ _ _ _=>.bad 322 0) (λ_ ih L cx c fr hp nid f=>Bx.rec (λq=>q ih cx fr hp nid f) (qiX E L c)) n
theorem J8(E:XE)(n:Nat):Kw E (n+1)=J5 E (Kw E n):=by
 funext L cx c fr hp nid f;exact qiY E (Kw E n) L cx c fr hp nid f
section
variable{P:Program}{E:XE}
theorem qiZ{n:Nat}(ih:∀m,m≤n→vj P (Kw E m)){LM:Nat→Option Loop}{fs:List Fr}{lo:Nat}{rnd:Bool}{L:FL}{cx:CX}(hcx:qfy LM fs rnd cx){c:Code}{st:St}{fr:Tr 3 SV}{hp:Tr 6 XB}{nid:Nat}{f:XK}{K:Ex→St→Prop}(hs:StR LM fr hp nid st)(h:Kw E n L cx c fr hp nid (qfC (Kw E n) L cx (.loop c) f)=.ok ρ)
  (hk:∀e fr' hp' nid' st',StR LM fr' hp' nid' st'→f e fr' hp' nid'=.ok ρ→K e st'):vc P ⟨fs,lo,rnd,zO L⟩ (.loop c) st K:=by
 refine .inl ⟨{p:Nat×St // p.1≤n∧∃fr hp nid,StR LM fr hp nid p.2∧Kw E p.1 L cx c fr hp nid (qfC (Kw E p.1) L cx (.loop c) f)=.ok ρ},λx=>x.1.2,λx=>x.1.1,⟨(n,st),xa5 n,fr,hp,nid,hs,h⟩,λ_ _ _ _ _ _ hi=>hi,?_⟩;rintro⟨⟨m,s⟩,hmn,fr,hp,nid,hs,h⟩;refine ih m hmn ρ LM _ _ _ _ _ c _ _ _ _ _ _ hcx hs h λe fr' hp' nid' st' hs' h'=>?_;cases e with
 |exit i=>exact hk _ _ _ _ _ hs' h'
 |ret=>exact hk _ _ _ _ _ hs' h'
 |normal=>
  cases m with
  |zero=>cases h'
  |succ m=>
   have h':Kw E (m+1) L cx (.loop c) fr' hp' nid' f=.ok ρ:=h';rw[J8]at h';exact⟨⟨(m,st'),Nat.le_of_succ_le hmn,fr',hp',nid',hs',h'⟩,xb5 m,λ_ _ _ _ _ _ hi=>hi⟩
theorem qdJ(hm:P.follows .mixedOrders=true)(hE:XOk P E)(hf:wE P E)(n:Nat):vj P (Kw E n):=by
 induction n using Nat.strongRecOn with
 |_ n ih=>
  cases n with
  |zero=>exact λ_ _ _ _ _ _ _ _ _ _ _ _ _ _ _ _ h _=>by cases h
  |succ n=>
   rw[J8];exact qiC hm hE hf (ih n (xb5 n)) λρ LM fs lo rnd L cx c st fr hp nid f K hcx hs h hk=>qiZ (λm hmn=>ih m (Nat.lt_succ_of_le hmn)) hcx hs h hk
def qpx(E:XE)(rs:List ResultVar)(ok:Tr 6 XB→SV→R):XK
 |.exit _,_,_,_=>.bad 330 0
 |.normal,fr,hp,_=>yl E fr hp rs λm=>ok hp (oneSV m)
 |.ret,fr,hp,_=>yl E fr hp rs λm=>ok hp (oneSV m)
def wu(_:Tr 6 XB)(s:SV):R:=
 match s with
 |.val (.bool b)=>Bool.rec (.bad 331 0) (.ok (.mk .top .nil 0)) b
 |_=>.bad 332 0
def wF(res:SV)(hp:Tr 6 XB)(s:SV):R:=Bool.rec (.bad 334 0) (.ok (.mk .top .nil 0)) (mtX hp 6 res s)
theorem qfI{s:SV}{hp:Tr 6 XB}(h:wu hp s=.ok ρ):s=.val (.bool true):=by
 unfold wu at h;split at h
 ·rename_i b
  cases b with
  |true=>rfl
  |false=>cases h
 ·cases h
def wK(E:XE)(n:Nat)(fn:Func)(L:FL)(args:List SV)(ok:Tr 6 XB→SV→R):R:=
 match fn.body with
 |some c=>Wb args 0 .nil λfr=>Kw E n L .top c fr .nil 0 (qpx E fn.results.toList ok)
 |none=>.bad 333 0
def gP:R→Bool
 |.ok _=>true
 |_=>false
theorem wG(hm:P.follows .mixedOrders=true)(hE:XOk P E)(hf:wE P E){g:Nat}{fn:Func}{L:FL}{c:Code}(hc:qim P g fn L c){args:List SV}(hl:args.length≤fn.ntmps)(ho:OldL args){res:SV}{ok:Tr 6 XB→SV→R}(hok:∀hp s H,HRel (λ_=>none) hp H→ok hp s=.ok ρ→Sub H res s)(n:Nat)(h:wK E n fn L args ok=.ok ρ):qc P g args res:=by
 refine kG (zO L) hc.at_ hc.body hc.name hm hc.ok args res hl ho ?_;unfold wK at h;rw[hc.body]at h;obtain⟨fr,h1,h2⟩:=yQ h;have key:∀(fr3:Tr 3 SV)(hp3:Tr 6 XB)(nid3:Nat)(st3:St),StR (λ_=>none) fr3 hp3 nid3 st3→yl E fr3 hp3 fn.results.toList (λm=>ok hp3 (oneSV m))=.ok ρ→retVC P fn.results.toList st3 res:=λfr3 hp3 nid3 st3 h3 h=>by
  rw[Gv];exact yR hE h3 h λm h=>hok _ _ _ h3.2.1 h
 refine qdJ hm hE hf n ρ (λ_=>none) _ _ _ L .top c _ fr .nil 0 _ _ rfl ⟨h1,λid b hb=>(by rw[Q6]at hb;cases hb),rfl⟩ h2 λe fr3 hp3 nid3 st3 h3 h=>?_;cases e with
 |exit i=>cases h
 |normal=>exact key _ _ _ _ h3 h
 |ret=>exact key _ _ _ _ h3 h
theorem qbS(hp:Tr 6 XB)(s:SV)(H:List (Nat×Blk))(_:HRel (λ_=>none) hp H)(h:wu hp s=.ok ρ):Sub H (.val (.bool true)) s:=by
 rw[qfI h];rfl
theorem qfJ{res:SV}(hp:Tr 6 XB)(s:SV)(H:List (Nat×Blk))(hH:HRel (λ_=>none) hp H)(h:wF res hp s=.ok ρ):Sub H res s:=by
 unfold wF at h;cases q:mtX hp 6 res s with
 |false=>rw[q]at h;cases h
 |true=>exact qbI hH 6 _ _ q
theorem Y2{r:R}(h:gP r=true):∃q,r=.ok q:=by
 unfold gP at h;split at h
 ·exact⟨_,rfl⟩
 ·cases h
end
end
end Go.Sx
end
section
namespace Go.Sx
open Go.RowKit
noncomputable section
variable{P:Program}{g:Nat}{fn:Func}{L:FL}
variable{ρ:Q}
def okB (L : FL) (fn : Func) : Bool := !(fn.name == "runtime.NumGoroutine") && (match fn.body with | some c => qF (zO L) fn.ntmps c | none => false)
theorem fnX(h:P.funcs[g]? = some fn)(ho:okB L fn=true):∃c,qim P g fn L c:=by
 unfold okB at ho;simp only[xe6,Bool.not_eq_true']at ho;obtain⟨h1,h2⟩:=ho;cases hb:fn.body with
 |none=>rw[hb]at h2;cases h2
 |some c=>rw[hb]at h2;exact⟨c,⟨h,hb,h1,h2⟩⟩
abbrev FT:=List (Option FL)
def kL{α:Type}(l:List (Option α)):Nat→Option α:=List.rec (λ_=>none) (λa _ ih i=>Nat.rec a (λj _=>ih j) i) l
def qoK(fn:Option Func)(L:FL):Option (Func×FL):=Option.rec none (λfn=>some (fn,L)) fn
def okT(P:Program)(l:FT):Nat→Bool:=List.rec (λ_=>true) (λa _ ih i=>Bool.rec false (qm (Nat.succ i) λi=>ih i) (Option.rec true (λL=>Option.rec false (λfn=>okB L fn) (P.funcs[i]?)) a)) l
theorem ZX{P:Program}:∀{l:FT}{i j:Nat}{L:FL}{fn:Func},okT P l i=true→kL l j=some L→P.funcs[i+j]? = some fn→okB L fn=true
 |[],i,j,L,fn,h,hj,hf=>by cases hj
 |a :: l,i,j,L,fn,h,hj,hf=>by
  have h:(Bool.rec false (qm (Nat.succ i) λi=>okT P l i) (Option.rec true (λL=>Option.rec false (λfn=>okB L fn) (P.funcs[i]?)) a):Bool)=true:=h;rw[qg]at h;cases q:(Option.rec true (λL=>Option.rec false (λfn=>okB L fn) (P.funcs[i]?)) a:Bool)with
  |false=>rw[q]at h;cases h
  |true=>
   rw[q]at h;cases j with
   |zero=>
    have hj:a=some L:=hj;subst hj;rw[xb1]at hf;rw[hf]at q;exact q
   |succ j=>exact ZX (l:=l) (i:=i+1) (j:=j) h hj (by rw[show i+1+j=i+(j+1) by omega];exact hf)
def qnm(P:Program)(t:TypeId):Option (TypeId×Nat×List Value):=
 match qn P t with
 |some ⟨_,_,_,.slice e k⟩=>(match qn P e with
  |some ⟨_,_,some z,_⟩=>Bool.rec none (some (e,k,z)) (Nat.ble 1 k&&(Nat.beq z.length k&&Nat.ble (qL P e) 100000000))
  |_=>none)
 |_=>none
def qdK:List (Nat×Nat×Sh)→Nat→Option (Nat×Sh)
 |[],_=>none
 |(h,x) :: l,g=>Bool.rec (qdK l g) (some x) (Nat.beq g h)
def qja(P:Program):List (Nat×Nat×Sh)→Prop
 |[]=>True
 |(h,n,i) :: l=>Z5 P h n i∧qja P l
theorem Y3{P:Program}:∀{pl:List (Nat×Nat×Sh)},qja P pl→∀g n i,qdK pl g=some (n,i)→Z5 P g n i
 |[],_,g,n,i,h=>by cases h
 |(h0,n0,i0) :: l,hp,g,n,i,h=>by
  have h:(Bool.rec (qdK l g) (some (n0,i0)) (Nat.beq g h0):Option (Nat×Sh))=some (n,i):=h;cases e:Nat.beq g h0 with
  |true=>rw[e]at h;have h:=Option.some.inj h;cases h;rw[xa6 e];exact hp.1
  |false=>rw[e]at h;exact Y3 hp.2 g n i h
theorem KM(h:∀v:Value,qc P g [.val v] (.val v)):Z5 P g 1 (.one 0):=by
 refine⟨(h undef).1,λw vs hv _=>?_⟩;refine((h (vs.getD 0 undef)).2 (λ_=>True) w vs hv λi sv hi=>?_).mono λe w'=>?_
 ·cases i with
  |zero=>simp only[xd6,Option.some.injEq]at hi;subst hi;exact .val _
  |succ i=>simp at hi
 ·rintro⟨v,rfl,hb,hr⟩
  cases hr;exact⟨rfl,hb⟩
theorem qlo {P : Program} {g n : Nat} {l : List Nat} (hf : ∃ fn, P.funcs[g]? = some fn ∧ (fn.name == "runtime.NumGoroutine") = false ∧ fn.body.isSome = true) (h : ∀ vs : Array Value, n = vs.size → (∀ i, i ∈ l → (vs.getD i undef).oneCell' = true) → qc P g (vs.toList.map .val) (.agg (l.map λi => .val (vs.getD i undef)))) : Z5 P g n (.ag l) := by
 refine⟨hf,λw vs hv ho=>?_⟩;refine((h vs hv ho).2 (λ_=>True) w vs Ωi λi sv hi=>?_).mono λe w'=>?_
 ·rw[List.getElem?_map,xf6]at hi
  cases e:vs[i]? with
  |none=>rw[e]at hi;cases hi
  |some v=>
   rw[e]at hi;cases hi;rw[xf5,e];exact .val _
 ·rintro⟨v,rfl,hb,hr⟩
  cases hr with
  |agg _ cs hl hr=>
  refine⟨?_,hb⟩
  congr 1
  unfold Sh.val
  congr 1
  refine Array.ext (by simpa using hl.symm) λi h1 h2=>?_;have h3:i<l.length:=by simpa using h2
  have hi:=hr i (.val (vs.getD l[i] undef)) (by rw[List.getElem?_map,xc7 h3];rfl);have e:cs.getD i undef=cs[i]:=by rw[xf5,Array.getElem?_eq_getElem h1];rfl
  rw[e]at hi;have e2:(l.map λi=>vs.getD i undef).toArray[i]=vs.getD l[i] undef:=by simp
  rw[e2];generalize cs[i]=z at hi;cases hi;rfl
structure XP:Type where
 fl:FT
 pl:List (Nat×Nat×Sh)
 ol:List (Nat×(List SV→Tr 6 XB→Nat→(SV→Tr 6 XB→Nat→R)→R))
 cl:List (Nat×List SV×SV)
 nl:List (Nat×List SV×(TypeId×Nat×Nat×List SV×SV))
def qdL:List (Nat×(List SV→Tr 6 XB→Nat→(SV→Tr 6 XB→Nat→R)→R))→Nat→Option (List SV→Tr 6 XB→Nat→(SV→Tr 6 XB→Nat→R)→R)
 |[],_=>none
 |(h,f) :: l,g=>Bool.rec (qdL l g) (some f) (Nat.beq g h)
def J9:List (Nat×List SV×SV)→Nat→List (List SV×SV)
 |[],_=>[]
 |(h,x) :: l,g=>Bool.rec (J9 l g) (x :: J9 l g) (Nat.beq g h)
def Va:List (Nat×List SV×(TypeId×Nat×Nat×List SV×SV))→Nat→List (List SV×(TypeId×Nat×Nat×List SV×SV))
 |[],_=>[]
 |(h,x) :: l,g=>Bool.rec (Va l g) (x :: Va l g) (Nat.beq g h)
def qbT(P:Program):List (Nat×List SV×(TypeId×Nat×Nat×List SV×SV))→Prop
 |[]=>True
 |(h,qq_,t,k,n,m,s) :: l=>qhJ P h qq_ t k n m s∧qbT P l
def qbU(P:Program):List (Nat×(List SV→Tr 6 XB→Nat→(SV→Tr 6 XB→Nat→R)→R))→Prop
 |[]=>True
 |(h,f) :: l=>yc P h f∧qbU P l
def qbV(P:Program):List (Nat×List SV×SV)→Prop
 |[]=>True
 |(h,qq_,s) :: l=>qc P h qq_ s∧qbV P l
theorem Y4{P:Program}:∀{l:List (Nat×(List SV→Tr 6 XB→Nat→(SV→Tr 6 XB→Nat→R)→R))},qbU P l→∀g f,qdL l g=some f→yc P g f
 |[],_,g,f,h=>by cases h
 |(h0,f0) :: l,hp,g,f,h=>by
  have h:(Bool.rec (qdL l g) (some f0) (Nat.beq g h0):Option _)=some f:=h;cases e:Nat.beq g h0 with
  |true=>rw[e]at h;have h:=Option.some.inj h;cases h;rw[xa6 e];exact hp.1
  |false=>rw[e]at h;exact Y4 hp.2 g f h
theorem G4{P:Program}:∀{l:List (Nat×List SV×SV)},qbV P l→∀g qq_ s,(qq_,s)∈J9 l g→qc P g qq_ s
 |[],_,g,qq_,s,h=>by cases h
 |(h0,as0,s0) :: l,hp,g,qq_,s,h=>by
  have h:(qq_,s)∈(Bool.rec (J9 l g) ((as0,s0) :: J9 l g) (Nat.beq g h0):List (List SV×SV)):=h;cases e:Nat.beq g h0 with
  |true=>
   rw[e]at h;rcases List.mem_cons.1 h with h|h
   ·cases h;rw[xa6 e];exact hp.1
   ·exact G4 hp.2 g qq_ s h
  |false=>rw[e]at h;exact G4 hp.2 g qq_ s h
theorem G5{P:Program}:∀{l:List (Nat×List SV×(TypeId×Nat×Nat×List SV×SV))},qbT P l→∀g qq_ t k n m s,(qq_,(t,k,n,m,s))∈Va l g→qhJ P g qq_ t k n m s
 |[],_,g,qq_,t,k,n,m,s,h=>by cases h
 |(h0,as0,t0,k0,n0,m0,s0) :: l,hp,g,qq_,t,k,n,m,s,h=>by
  have h:(qq_,(t,k,n,m,s))∈(Bool.rec (Va l g) ((as0,(t0,k0,n0,m0,s0)) :: Va l g) (Nat.beq g h0):List (List SV×(TypeId×Nat×Nat×List SV×SV))):=h;cases e:Nat.beq g h0 with
  |true=>
   rw[e]at h;rcases List.mem_cons.1 h with h|h
   ·cases h;rw[xa6 e];exact hp.1
   ·exact G5 hp.2 g qq_ t k n m s h
  |false=>rw[e]at h;exact G5 hp.2 g qq_ t k n m s h
def qjb(P:Program)(t:TypeId):Bool:=
 match P.underlying t with
 |some .string=>true
 |_=>false
theorem qjc(P:Program)(t:TypeId)(h:qjb P t=true):P.underlying t=some .string:=by
 unfold qjb at h;split at h
 ·rename_i e;exact e
 ·cases h
def vN(P:Program)(X:XP):XE:=⟨λg=>Option.rec none (λL=>qoK P.funcs[g]? L) (kL X.fl g),qn P,qw P,zk P,qnm P,qz P,qdK X.pl,qjb P,qdL X.ol,J9 X.cl,Va X.nl⟩
structure Y5(P:Program)(X:XP):Prop where
 fl:okT P X.fl 0=true
 pl:qja P X.pl
 ol:qbU P X.ol
 cl:qbV P X.cl
 nl:qbT P X.nl
theorem Zt(P:Program)(X:XP)(hk:okT P X.fl 0=true):wE P (vN P X):=λg fn L h=>by
 have h:(Option.rec none (λL=>qoK P.funcs[g]? L) (kL X.fl g):Option (Func×FL))=some (fn,L):=h;cases e:kL X.fl g with
 |none=>rw[e]at h;cases h
 |some L0=>
  rw[e]at h;cases hf:P.funcs[g]? with
  |none=>rw[hf]at h;cases h
  |some f=>
   rw[hf]at h;have h:some (f,L0)=some (fn,L):=h;cases h;exact fnX hf (ZX hk e (by rw[xb0];exact hf))
theorem KN(P:Program)(X:XP)(hX:Y5 P X):XOk P (vN P X):=⟨λ_ _ h=>h,λ_ _ h=>h,λ_ _ h=>h,Y3 hX.pl,qjc P,Y4 hX.ol,G4 hX.cl,G5 hX.nl,λ_ _ h=>h,λt e k z h=>by
 have h:qnm P t=some (e,k,z):=h;unfold qnm at h;split at h
 ·rename_i h1
  split at h
  ·rename_i h2
   generalize hb:(Nat.ble 1 _&&(Nat.beq _ _&&Nat.ble _ 100000000))=b at h;cases b with
   |false=>cases h
   |true=>
    have h:=Option.some.inj h;simp only[Prod.mk.injEq]at h;obtain⟨rfl,rfl,rfl⟩:=h;simp only[xe6]at hb;exact⟨⟨_,_,_,h1⟩,⟨_,_,_,h2⟩,xa7 hb.1,xa6 hb.2.1,xa7 hb.2.2⟩
  ·cases h
 ·cases h⟩
theorem jr(hm:P.follows .mixedOrders=true){X:XP}(hX:Y5 P X)(hg:P.funcs[g]? = some fn)(hL:kL X.fl g=some L)(n:Nat)(h:gP (wK (vN P X) n fn L [] wu)=true):qc P g [] (.val (.bool true)):=by
 obtain⟨c,hc⟩:=fnX hg (ZX hX.fl hL (by rw[xb0];exact hg));obtain⟨q,h⟩:=Y2 h;exact wG hm (KN P X hX) (Zt P X hX.fl) hc (xb6 _) (args:=[]) trivial qbS n h
theorem zI(hm:P.follows .mixedOrders=true){X:XP}(hX:Y5 P X)(hg:P.funcs[g]? = some fn)(hL:kL X.fl g=some L)(n:Nat){args:List SV}(hl:args.length≤fn.ntmps)(ho:OldL args){res:SV}(h:gP (wK (vN P X) n fn L args (wF res))=true):qc P g args res:=by
 obtain⟨c,hc⟩:=fnX hg (ZX hX.fl hL (by rw[xb0];exact hg));obtain⟨q,h⟩:=Y2 h;exact wG hm (KN P X hX) (Zt P X hX.fl) hc hl ho qfJ n h
end
end Go.Sx
end
section
namespace Go.Sx
open Go.RowKit
noncomputable section
variable{ρ:Q}
def QH(M post:Code):List Code→Code
 |[]=>M.seq post
 |c :: l=>c.seq (QH M post l)
abbrev MX:=Tr 3 SV→Tr 6 XB→Nat→XK→R
def qjd(run:XC)(L:FL)(mh:MX)(post:Code)(l:List Code)(fr:Tr 3 SV)(hp:Tr 6 XB)(nid:Nat)(f:XK):R:=
 List.rec (motive:=λ_=>Tr 3 SV→Tr 6 XB→Nat→R) (λfr hp nid=>mh fr hp nid λe fr hp nid=>match e with
  |.normal=>run L .top post fr hp nid f
  |.exit i=>f (.exit i) fr hp nid
  |.ret=>f .ret fr hp nid) (λc _ ih fr hp nid=>run L .top c fr hp nid λe fr hp nid=>match e with
  |.normal=>ih fr hp nid
  |.exit i=>f (.exit i) fr hp nid
  |.ret=>f .ret fr hp nid) l fr hp nid
def qpy(E:XE)(rs:List ResultVar)(k:SV→Tr 6 XB→Nat→R):XK
 |.exit _,_,_,_=>.bad 330 0
 |.normal,fr,hp,nid=>yl E fr hp rs λm=>svK (oneSV m) λs=>k s hp nid
 |.ret,fr,hp,nid=>yl E fr hp rs λm=>svK (oneSV m) λs=>k s hp nid
def qlp(E:XE)(n:Nat)(fn:Func)(L:FL)(mh:MX)(pre:List Code)(post:Code)(args:List SV)(hp:Tr 6 XB)(nid:Nat)(k:SV→Tr 6 XB→Nat→R):R:=
 ql 302 (Nat.ble args.length fn.ntmps) (Wb args 0 .nil λfr=>qjd (Kw E n) L mh post pre fr hp nid (qpy E fn.results.toList k))
def qdM(P:Program)(L:FL)(M:Code)(mh:MX):Prop:=∀(ρ:Q)(LM:Nat→Option Loop)(fs:List Fr)(lo:Nat)(st:St)(fr:Tr 3 SV)(hp:Tr 6 XB)(nid:Nat)(f:XK)(K:Ex→St→Prop),StR LM fr hp nid st→mh fr hp nid f=.ok ρ→
 (∀e fr' hp' nid' st',StR LM fr' hp' nid' st'→f e fr' hp' nid'=.ok ρ→K e st')→vc P ⟨fs,lo,false,zO L⟩ M st K
section
variable{P:Program}{E:XE}
theorem Vb{run:XC}(hrun:vj P run){L:FL}{mh:MX}{M post:Code}(hM:qdM P L M mh){LM:Nat→Option Loop}{fs:List Fr}{lo:Nat}{f:XK}{K:Ex→St→Prop}(hk:∀e fr' hp' nid' st',StR LM fr' hp' nid' st'→f e fr' hp' nid'=.ok ρ→K e st'):∀(l:List Code)(st:St)(fr:Tr 3 SV)(hp:Tr 6 XB)(nid:Nat),StR LM fr hp nid st→qjd run L mh post l fr hp nid f=.ok ρ→vc P ⟨fs,lo,false,zO L⟩ (QH M post l) st K
 |[],st,fr,hp,nid,hs,h=>by
  refine hM ρ LM fs lo st fr hp nid _ _ hs h λe fr' hp' nid' st' hs' h'=>?_;cases e with
  |normal=>exact hrun ρ LM fs lo false L .top post st' fr' hp' nid' f K rfl hs' h' hk
  |exit i=>exact hk _ _ _ _ _ hs' h'
  |ret=>exact hk _ _ _ _ _ hs' h'
 |c :: l,st,fr,hp,nid,hs,h=>by
  refine hrun ρ LM fs lo false L .top c st fr hp nid _ _ rfl hs h λe fr' hp' nid' st' hs' h'=>?_;cases e with
  |normal=>exact Vb hrun hM hk l st' fr' hp' nid' hs' h'
  |exit i=>exact hk _ _ _ _ _ hs' h'
  |ret=>exact hk _ _ _ _ _ hs' h'
theorem qdN(hm:P.follows .mixedOrders=true)(hE:XOk P E)(hf:wE P E){g:Nat}{fn:Func}{L:FL}{mh:MX}{M post:Code}{pre:List Code}(hc:qim P g fn L (QH M post pre))(hM:qdM P L M mh)(n:Nat):yc P g (qlp E n fn L mh pre post):=by
 intro ρ LM O args hp k st K hH h hk;unfold qlp at h;obtain⟨q,h⟩:=qa h;obtain⟨fr,h1,h2⟩:=yQ h;refine QD (zO L) hm hc.at_ hc.body hc.name hc.ok (xa7 q) λout=>?_;have key:∀(fr3:Tr 3 SV)(hp3:Tr 6 XB)(nid3:Nat)(st3:St),StR LM fr3 hp3 nid3 st3→(yl E fr3 hp3 fn.results.toList λm=>svK (oneSV m) λs=>k s hp3 nid3)=.ok ρ→resultsVC P fn.results.toList st3 (λm=>K ⟨st.fr,st3.hp,st3.nid⟩ (oneSV m)):=λfr3 hp3 nid3 st3 h3 h=>by
  refine yR hE h3 h λm h=>?_;rw[Qu]at h;obtain⟨a,b,c⟩:=h3;rw[c];exact hk _ _ _ _ b h
 refine Vb (qdJ hm hE hf n) hM (λe fr3 hp3 nid3 st3 h3 h=>?_) pre ⟨argFr 0 args,st.hp,st.nid⟩ fr hp st.nid ⟨h1,hH,rfl⟩ h2;cases e with
 |exit i=>cases h
 |normal=>exact key _ _ _ _ h3 h
 |ret=>exact key _ _ _ _ h3 h
end
end
end Go.Sx
end
section
namespace Go.Sx
open Go.Proofs
open Go.RowKit
noncomputable section
def sqL:Code→Code
 |.seq a _=>a
 |c=>c
def sqR:Code→Code
 |.seq _ b=>b
 |c=>c
def sqN:Nat→Code→List Code
 |0,_=>[]
 |n+1,c=>sqL c :: sqN n (sqR c)
def sqB:Nat→Code→Code
 |0,c=>c
 |n+1,c=>sqB n (sqR c)
def gN(f:Func):Code:=f.body.getD .skip
def qdO(l:List Nat)(fr:Tr 3 SV)(g:Tr 3 SV→R):R:=List.rec (motive:=λ_=>Tr 3 SV→R) g (λt _ ih fr=>qY (some .top) 22 fr t ih) l fr
def Y6(p:Value→SV→Bool)(es:List (Value×Option SV)):List (Value×Option SV):=List.rec [] (λa _ ih=>match a with
 |(k,some s)=>(k,Bool.rec none (some s) (p k s)) :: ih
 |(k,none)=>(k,none) :: ih) es
def js(lay:Bool)(k:Value)(_:SV):Bool:=match k with
 |.agg a=>(match a.toList with
  |[_,.bool b]=>b == lay
  |_=>false)
 |_=>false
def qnn:Code:=sqL (sqB 7 (gN Tryz.f104))
def va:List Nat:=[10,73,74,75,76,77,78,79,80,81,82,83,84,85,86,87,88,89,90]
def qje:MX:=λfr hp nid f=>match qx fr 1,qx fr 9 with
 |.ptr b 0,.val (.bool lay)=>(match hp.find b with
  |some (.cells 175 [.ptr d 0])=>(match hp.find d with
   |some (.cells 313 [a0,a1,a2,a3,a4,a5,a6,a7,a8,a9,a10,a11,a12,a13,a14,a15,a16,a17,a18,a19,a20,a21,.mp mid])=>(match hp.find mid with
    |some (.map true [.i .i64,.b] es)=>qdO va fr λfr=>qY (some (.tup [.val (.bool false)])) 22 fr 78 λfr=>qY (some (.val (.bool false))) 22 fr 79 λfr=>qY (some (.map true [.i .i64,.b] (Y6 (js lay) es))) 22 hp mid λhp=>qm (nid+(20*es.length+100)) λnid=>f .normal fr hp nid
    |_=>.bad 600 0)
   |_=>.bad 601 0)
  |_=>.bad 602 0)
 |_,_=>.bad 603 0
end
end Go.Sx
end
section
namespace Go.Tn
open Go.Proofs
open Go.Sx
variable{N:Nat}{len:Nat→Nat}{to:Nat→Nat→Nat}{F rw rw0:Nat→Int}{fl ks:List Value}
theorem jt:qn Tryz.prog 393=some ⟨false,1,some [.slice none 0 0],.slice 255 6⟩:=by kernel_rfl
theorem qpz(a b c d e g:Int):∀i j,i<1→j<6→oneCell ([SV.val (.int .i64 a),SV.val (.int .i64 b),SV.val (.int .i64 c),SV.val (.int .i64 d),SV.val (.int .i64 e),SV.val (.int .i64 g)].getD (i*6+j) SV.top)=true:=by
 intro i j hi hj;obtain rfl:i=0:=by omega
 rw[Nat.zero_mul,xb0];rcases(Ω:j=0∨j=1∨j=2∨j=3∨j=4∨j=5)with rfl|rfl|rfl|rfl|rfl|rfl<;>rfl
theorem qdP{O:Ctx}{fr fr':List (Nat×SV)}{hp hp':List (Nat×Blk)}{nid nid' mid:Nat}{fit dom dom':Value→Bool}{get:Value→SV}{st:Value→Nat}{c:Nat}(hb:blk hp mid=some (.mapS fit dom get st c))(hd:∀v,dom' v=dom v)(hn:nid≤nid')(hf:qI fr fr')(hh:SubHp (setBlk hp mid (.map fit dom' get)) hp'):Weak O ⟨fr,hp,nid⟩ ⟨fr',hp',nid'⟩:=
 Weak.trans (V7 hb hd) (qj hn hf hh)
theorem qjf:qL Tryz.prog 255=48:=by kernel_rfl
theorem qmo:qz Tryz.prog 250=some ⟨true,[Lf.i .i64,Lf.i .i64,Lf.i .i64,Lf.i .i64,Lf.i .i64,Lf.i .i64],.val (.int .i64 0)⟩:=by kernel_rfl
structure Hl(N:Nat)(len:Nat→Nat)(to:Nat→Nat→Nat)(F:Nat→Int)(dom0:Value→Bool)(nx:Nat→Nat→SV)(rest:List (Nat×Blk))(id tb xid rid mid:Nat):Prop where
 fx:Fx N len to F
 N5:N≤100000
 l5:∀i,i<N→len i≤5
 keys:∀v,dom0 v=true→∃(f:Nat→Int)(n:Nat),n<N∧v=kp f n
 one:∀v v',dom0 v=true→dom0 v'=true→zL v=zL v'→v=v'
 all:∀i,i<N→∃v,dom0 v=true∧zL v=i
 nx:∀i,i<N→(len i=0∧nx i 0=.val (.slice none 0 0))∨∃xi r,nx i 0=.vec xi (len i) 1∧blk rest xi=some (.rows 3 1 (len i) r)∧(xi≠tb∧xi≠xid∧xi≠rid∧xi≠mid∧xi<id)∧∀j,j<len i→r j 0=.val (.int .i64 (to i j:Nat))
 itb:tb<id
 ixid:xid<id
 irid:rid<id
 imid:mid<id
 d1:tb≠xid
 d2:tb≠rid
 d3:tb≠mid
 d4:xid≠rid
 d5:xid≠mid
 d6:rid≠mid
 und:Under rest id
structure Fnd(N:Nat)(len:Nat→Nat)(to:Nat→Nat→Nat)(F rw0 rw:Nat→Int)(dom:Value→Bool)(ks fl:List Value):Prop where
 nd:ks.Nodup
 inD:∀v,v∈ks→dom v=true
 sub:∀v,v∈fl→v∈ks
 rwF:Rw N F rw
 mem:∀v,dom v=true→(0≤rw (zL v)↔v∈fl)
 nil:fl=[]→rw=rw0∧∀v,v∈ks→∃j,j<len (zL v)∧rw0 (to (zL v) j)<0
 cn:cnt rw N+fl.length=cnt rw0 N
 up:∀i,0≤rw0 i→0≤rw i
theorem Fnd.stop{dom:Value→Bool}(h:Fnd N len to F rw0 rw dom ks fl){v:Value}(hv:dom v=true)(hn:v∉ks)(hj:∃j,j<len (zL v)∧rw (to (zL v) j)<0):Fnd N len to F rw0 rw dom (ks++[v]) fl:=
 ⟨g8 h.nd hn,λx hx=>by
  rcases List.mem_append.1 hx with h1|h1
  ·exact h.inD x h1
  ·rw[List.mem_singleton.1 h1];exact hv,λx hx=>List.mem_append.2 (.inl (h.sub x hx)),h.rwF,h.mem,λe=>⟨(h.nil e).1,λx hx=>by
  rcases List.mem_append.1 hx with h1|h1
  ·exact(h.nil e).2 x h1
  ·rw[List.mem_singleton.1 h1,←(h.nil e).1];exact hj⟩,h.cn,h.up⟩
theorem Fnd.hit{dom:Value→Bool}(h:Fnd N len to F rw0 rw dom ks fl)(hone:∀v v',dom v=true→dom v'=true→zL v=zL v'→v=v'){v:Value}(hv:dom v=true)(hN:zL v<N)(hn:v∉ks){x:Int}(hx:x=F (zL v))(h0:0≤x):Fnd N len to F rw0 (yX rw (zL v) x) dom (ks++[v]) (fl++[v]):=by
 have hneg:rw (zL v)<0:=by
  have:=(h.mem v hv).1;have:=mt this (λhm=>hn (h.sub v hm));omega
 refine⟨g8 h.nd hn,λx hx=>?_,λx hx=>?_,λi hi=>?_,λu hu=>?_,λe=>?_,?_,λi hi=>?_⟩
 ·rcases List.mem_append.1 hx with h1|h1
  ·exact h.inD x h1
  ·rw[List.mem_singleton.1 h1];exact hv
 ·rcases List.mem_append.1 hx with h1|h1
  ·exact List.mem_append.2 (.inl (h.sub x h1))
  ·exact List.mem_append.2 (.inr h1)
 ·unfold yX
  split
  ·rename_i e;subst e;exact .inl hx
  ·exact h.rwF i hi
 ·unfold yX
  split
  ·rename_i e
   have:=hone u v hu hv e;subst this;exact⟨λ_=>List.mem_append.2 (.inr xd5),λ_=>h0⟩
  ·rename_i e
   rw[h.mem u hu,xd4,xe0];exact⟨.inl,λh1=>h1.resolve_right λe2=>e (by rw[e2])⟩
 ·simp at e
 ·have:=jd hneg h0 hN
  have:=h.cn;rw[xc8,xd1];omega
 ·unfold yX
  split
  ·exact h0
  ·exact h.up i hi
open Classical in
noncomputable def domC(dom:Value→Bool)(fl:List Value):Value→Bool:=λv=>dom v&&!decide (v∈fl)
theorem qjg(dom:Value→Bool):domC dom []=dom:=by funext v;simp[domC]
open Classical in
theorem qno{dom:Value→Bool}{f:Nat→Int}{n:Nat}:ki (domC dom fl) (kp f n)=domC dom (fl++[kp f n]):=by
 funext v;unfold ki domC;have e:eqK (kp f n) v=decide (v=kp f n):=by rw[Bool.eq_iff_iff,eqK_kp,decide_eq_true_eq]
 rw[e,Bool.eq_iff_iff];simp only[xe6,Bool.not_eq_true',decide_eq_false_iff_not,xd4,xe0];constructor
 ·rintro⟨h1,h2,h3⟩;exact⟨h2,λh=>h.elim h3 h1⟩
 ·rintro⟨h1,h2⟩;exact⟨λh=>h2 (.inr h),h1,λh=>h2 (.inl h)⟩
open Classical in
theorem Fnd.dom{dom0:Value→Bool}(h:Fnd N len to F rw0 rw (λv=>dom0 v&&decide (rw0 (zL v)<0)) ks fl):domC (λv=>dom0 v&&decide (rw0 (zL v)<0)) fl=λv=>dom0 v&&decide (rw (zL v)<0):=by
 funext v;unfold domC;rw[Bool.eq_iff_iff];simp only[xe6,Bool.not_eq_true',decide_eq_false_iff_not,decide_eq_true_eq];constructor
 ·rintro⟨⟨h1,h2⟩,h3⟩
  have:=mt (h.mem v (by rw[h1,decide_eq_true h2];rfl)).1 h3;exact⟨h1,Ω⟩
 ·rintro⟨h1,h2⟩
  have h3:rw0 (zL v)<0:=by
   have:=mt (h.up (zL v));omega
  exact⟨⟨h1,h3⟩,mt (h.mem v (by rw[h1,decide_eq_true h3];rfl)).2 Ω⟩
def qpA(fl:List Value)(row:Nat→Nat→SV):Prop:=∀i j,i<fl.length→j<6→row i j=kc (fl.getD i undef) j
def st0(N:Nat)(get:Value→SV)(A Z:SV)(nx:Nat→Nat→SV)(dom0:Value→Bool)(rest:List (Nat×Blk))(id tb xid rid mid:Nat)(z:(Nat→Int)×(Nat→Nat→SV)×Nat):St:=
 ⟨[(0,.ptr tb 0)],(rid,.rows 3 1 N z.2.1) ::(mid,.map kfP (λv=>dom0 v&&decide (z.1 (zL v)<0)) get) ::(tb,.cells 253 [A,Z,.vec xid N 1,.vec rid N 1,.mp mid]) ::(xid,.rows 22 1 N nx) :: rest,id+(960*N+400)*z.2.2⟩
def st1(N:Nat)(get:Value→SV)(A Z:SV)(nx:Nat→Nat→SV)(dom:Value→Bool)(rest:List (Nat×Blk))(n1 tb xid rid mid clk:Nat)(stamp:Value→Nat)(z:List Value×List Value×(Nat→Int)×(Nat→Nat→SV)×Nat×(Nat→Nat→SV)):St:=
 match z with
 |(ks,[],_,row,_,_)=>⟨[(0,.ptr tb 0),(2,.val (.slice none 0 0)),(12,.ptr (n1+5) 0)],(n1+5,.iter mid clk (ks.map stamp) clk) ::(rid,.rows 3 1 N row) ::(mid,.mapS kfP dom get stamp clk) ::(tb,.cells 253 [A,Z,.vec xid N 1,.vec rid N 1,.mp mid]) ::(xid,.rows 22 1 N nx) :: rest,n1+20+900*ks.length⟩
 |(ks,_ :: l,_,row,oid,frow)=>⟨[(0,.ptr tb 0),(2,.vec oid (l.length+1) 6),(12,.ptr (n1+5) 0)],(oid,.rows 255 6 (l.length+1) frow) ::(n1+5,.iter mid clk (ks.map stamp) clk) ::(rid,.rows 3 1 N row) ::(mid,.mapS kfP dom get stamp clk) ::(tb,.cells 253 [A,Z,.vec xid N 1,.vec rid N 1,.mp mid]) ::(xid,.rows 22 1 N nx) :: rest,n1+20+900*ks.length⟩
theorem qjh(N:Nat)(get:Value→SV)(A Z:SV)(nx:Nat→Nat→SV)(dom:Value→Bool)(rest:List (Nat×Blk))(n1 tb xid rid mid clk:Nat)(stamp:Value→Nat)(ks:List Value)(rw:Nat→Int)(row:Nat→Nat→SV)(oid:Nat)(frow:Nat→Nat→SV):st1 N get A Z nx dom rest n1 tb xid rid mid clk stamp (ks,[],rw,row,oid,frow)=⟨[(0,.ptr tb 0),(2,.val (.slice none 0 0)),(12,.ptr (n1+5) 0)],(n1+5,.iter mid clk (ks.map stamp) clk) ::(rid,.rows 3 1 N row) ::(mid,.mapS kfP dom get stamp clk) ::(tb,.cells 253 [A,Z,.vec xid N 1,.vec rid N 1,.mp mid]) ::(xid,.rows 22 1 N nx) :: rest,n1+20+900*ks.length⟩:=rfl
theorem qdQ(N:Nat)(get:Value→SV)(A Z:SV)(nx:Nat→Nat→SV)(dom:Value→Bool)(rest:List (Nat×Blk))(n1 tb xid rid mid clk:Nat)(stamp:Value→Nat)(ks:List Value)(x:Value)(l:List Value)(rw:Nat→Int)(row:Nat→Nat→SV)(oid:Nat)(frow:Nat→Nat→SV):st1 N get A Z nx dom rest n1 tb xid rid mid clk stamp (ks,x :: l,rw,row,oid,frow)=⟨[(0,.ptr tb 0),(2,.vec oid (l.length+1) 6),(12,.ptr (n1+5) 0)],(oid,.rows 255 6 (l.length+1) frow) ::(n1+5,.iter mid clk (ks.map stamp) clk) ::(rid,.rows 3 1 N row) ::(mid,.mapS kfP dom get stamp clk) ::(tb,.cells 253 [A,Z,.vec xid N 1,.vec rid N 1,.mp mid]) ::(xid,.rows 22 1 N nx) :: rest,n1+20+900*ks.length⟩:=rfl
theorem qpB(N:Nat)(len:Nat→Nat)(to:Nat→Nat→Nat)(F:Nat→Int)(dom0:Value→Bool)(get:Value→SV)(A Z:SV)(nx row0:Nat→Nat→SV)(rest:List (Nat×Blk))(id tb xid rid mid:Nat)
  (h:Hl N len to F dom0 nx rest id tb xid rid mid) (hr0:∀i,i<N→row0 i 0=.val (.int .i64 (-1))) :
  EffVC Tryz.prog 163 [.ptr tb 0] ((rid,.rows 3 1 N row0) ::(mid,.map kfP dom0 get) ::(tb,.cells 253 [A,Z,.vec xid N 1,.vec rid N 1,.mp mid]) ::(xid,.rows 22 1 N nx) :: rest) id (λhp' nid' res=>nid'≤id+1000*(N+2)*(N+2)∧res=.tup []∧∃row,(∀i,i<N→row i 0=.val (.int .i64 (F i)))∧hp'=(rid,.rows 3 1 N row) ::(mid,.map kfP (λv=>dom0 v&&decide (F (zL v)<0)) get) ::(tb,.cells 253 [A,Z,.vec xid N 1,.vec rid N 1,.mp mid]) ::(xid,.rows 22 1 N nx) :: rest):=by
 refine Qp follows Tryz.func163 rfl Ωa Ωa (by rw[Tryz.ntmps163];simp) λout=>?_;have htb:=h.itb;have hxid:=h.ixid;have hrid:=h.irid;have hmid:=h.imid;have ND:=(⟨nmE h.d1,nmE h.d2,nmE h.d3,nmE h.d4,nmE h.d5,nmE h.d6⟩:_∧_∧_∧_∧_∧_);have NB:True:=trivial;have NB1:True:=trivial;have hN5:=h.N5;have e0:(λv=>dom0 v&&decide ((-1:Int)<0))=dom0:=by funext v;simp
 (repeat' first|refine sD ?_ ?_<;>intro _|refine aAa ?_|simp -dsimp only[↓RP,RQ,seval,NB,NB1,ND,jt,QS,QT,QN]);refine qo (λ(z:(Nat→Int)×(Nat→Nat→SV)×Nat)=>Rw N F z.1∧(∀i,i<N→z.2.1 i 0=.val (.int .i64 (z.1 i)))∧z.2.2+cnt z.1 N≤N) (st0 N get A Z nx dom0 rest id tb xid rid mid) (λz=>cnt z.1 N) (λ_=>-1,row0,0) ⟨λi hi=>.inr rfl,hr0,by have:=GS (λ_=>-1) N;simp only[];omega⟩ (by unfold st0;simp only[Nat.mul_zero,xb1,e0];exact qj (xa5 _) Ωc (SubHp.refl _)) λz hz=>?_;obtain⟨rw0,row,c⟩:=z;obtain⟨z1,z2,z3⟩:=hz;simp only[]at z1 z2 z3;unfold st0;simp only[];obtain⟨n1,hn1⟩:∃n1,n1=id+(960*N+400)*c:=⟨_,rfl⟩;have hid1:id≤n1:=by rw[hn1];exact Nat.le_add_right _ _
 rw[←hn1];have NB:=(⟨nmA (Ω:tb<n1),nmA (Ω:xid<n1),nmA (Ω:rid<n1),nmA (Ω:mid<n1)⟩:_∧_∧_∧_);(repeat' first|refine sD ?_ ?_<;>intro _|refine aAa ?_|simp -dsimp only[↓RP,RQ,seval,NB,NB1,ND,jt,QS,QT,QN]);refine qcu (mid:=mid) (fit:=kfP) (dom:=(λv=>dom0 v&&decide (rw0 (zL v)<0))) (get:=get) Ωq Ωq qmo ΩH λstamp clk hst hinj=>?_;(repeat' first|refine sD ?_ ?_<;>intro _|refine aAa ?_|simp -dsimp only[↓RP,RQ,seval,NB,NB1,ND,jt,QS,QT,QN]);obtain⟨dom,hdom⟩:∃dom,dom=λv=>dom0 v&&decide (rw0 (zL v)<0):=⟨_,rfl⟩;have hst:∀k,dom k=true→stamp k<clk:=by rw[hdom];exact hst
 have hinj:∀k k',dom k=true→dom k'=true→stamp k=stamp k'→k=k':=by rw[hdom];exact hinj
 have hd0:∀k,dom k=true→dom0 k=true:=λk hk=>by rw[hdom]at hk;simp only[xe6]at hk;exact hk.1
 rw[←hdom];have hone:∀v v',dom v=true→dom v'=true→zL v=zL v'→v=v':=λv v' h1 h2=>h.one v v' (hd0 v h1) (hd0 v' h2);have hbx0:∀{Y Z':Blk} x,n1≤x→blk ((rid,Y) ::(mid,Z') ::(tb,.cells 253 [A,Z,.vec xid N 1,.vec rid N 1,.mp mid]) ::(xid,.rows 22 1 N nx) :: rest) x=none:=λx hx=>by
  simp only[blk];rw[if_neg Ω,if_neg Ω,if_neg Ω,if_neg Ω];exact h.und.none Ω
 have hbx:∀{X Y Z':Blk} x,n1+6≤x→blk ((n1+5,X) ::(rid,Y) ::(mid,Z') ::(tb,.cells 253 [A,Z,.vec xid N 1,.vec rid N 1,.mp mid]) ::(xid,.rows 22 1 N nx) :: rest) x=none:=λx hx=>by
  simp only[blk];rw[if_neg Ω,if_neg Ω,if_neg Ω,if_neg Ω,if_neg Ω];exact h.und.none Ω
 refine qo (λ(z:List Value×List Value×(Nat→Int)×(Nat→Nat→SV)×Nat×(Nat→Nat→SV))=>Fnd N len to F rw0 z.2.2.1 dom z.1 z.2.1∧(∀i,i<N→z.2.2.2.1 i 0=.val (.int .i64 (z.2.2.1 i)))∧qpA z.2.1 z.2.2.2.2.2∧(z.2.1≠[]→n1+6≤z.2.2.2.2.1∧z.2.2.2.2.1<n1+20+900*z.1.length)) (st1 N get A Z nx dom rest n1 tb xid rid mid clk stamp) (λz=>N - z.1.length) ([],[],rw0,row,0,λ_ _=>.top) ⟨⟨List.nodup_nil,λv hv=>Ωt,λv hv=>Ωt,z1,λv hv=>?_,λ_=>⟨rfl,λv hv=>Ωt⟩,rfl,λi hi=>hi⟩,z2,λi j hi=>(by cases hi),λhh=>absurd rfl hh⟩ (by rw[qjh];exact qj Ωi Ωc (SubHp.refl _)) λz hz=>?_
 ·rw[hdom]at hv
  simp only[xe6,decide_eq_true_eq]at hv;exact⟨λh1=>by have h1:0≤rw0 (zL v):=h1;omega,λh1=>(by cases h1)⟩
 obtain⟨ks,fl,rw1,row1,oid,frow⟩:=z;obtain⟨y1,y2,y3,y4⟩:=hz;simp only[]at y1 y2 y3 y4;have hks:ks.length≤N:=by
  have:=vK N (ks.map zL) (yO y1.nd λa b ha hb=>hone a b (y1.inD a ha) (y1.inD b hb)) λx hx=>by
   obtain⟨v,hv,rfl⟩:=List.mem_map.1 hx;obtain⟨f,n,hn,rfl⟩:=h.keys v (hd0 v (y1.inD v hv));exact hn
  rwa [xe1]at this
 have hkl:∀v,dom v=true→v∉ks→ks.length<N:=λv hv hm=>by
  have:=vK N ((ks++[v]).map zL) (yO (g8 y1.nd hm) λa b ha hb=>hone a b ?_ ?_) λx hx=>?_
  ·rw[xe1,xc8,xd1]at this;omega
  ·rcases List.mem_append.1 ha with h1|h1
   ·exact y1.inD a h1
   ·rw[List.mem_singleton.1 h1];exact hv
  ·rcases List.mem_append.1 hb with h1|h1
   ·exact y1.inD b h1
   ·rw[List.mem_singleton.1 h1];exact hv
  ·obtain⟨u,hu,rfl⟩:=List.mem_map.1 hx
   have hu2:dom u=true:=by
    rcases List.mem_append.1 hu with h1|h1
    ·exact y1.inD u h1
    ·rw[List.mem_singleton.1 h1];exact hv
   obtain⟨f,n,hn,rfl⟩:=h.keys u (hd0 u hu2);exact hn
 clear NB;obtain⟨nn,hnn⟩:∃nn,nn=n1+20+900*ks.length:=⟨_,rfl⟩;have hn2:n1+20≤nn:=by omega
 have NB:=(⟨nmA (Ω:tb<nn),nmA (Ω:xid<nn),nmA (Ω:rid<nn),nmA (Ω:mid<nn),nmA (Ω:tb<n1),nmA (Ω:xid<n1),nmA (Ω:rid<n1),nmA (Ω:mid<n1),nmA (Ω:n1+5<nn)⟩:_∧_∧_∧_∧_∧_∧_∧_∧_);cases fl with
 |nil=>
  ·rw[qjh,←hnn]
   (repeat' first|refine sD ?_ ?_<;>intro _|refine aAa ?_|simp -dsimp only[↓RP,RQ,seval,NB,NB1,ND,jt,QS,QT,QN]);refine qgI (iid:=n1+5) (mid:=mid) (clk:=clk) (seen:=ks.map stamp) (fit:=kfP) (dom:=dom) (get:=get) (stamp:=stamp) Ωq Ωq ΩH ΩH (λk hk1 hk2 hk3=>?_) (λhall=>?_)
   ·obtain⟨f,n,hn,rfl⟩:=h.keys k (hd0 k hk2)
    have hk4:kp f n∉ks:=λhm=>hk3 (List.mem_map.2 ⟨_,hm,rfl⟩);(repeat' first|refine sD ?_ ?_<;>intro _|refine aAa ?_|simp -dsimp only[↓RP,RQ,seval,NB,NB1,ND,jt,QS,QT,QN]);refine QZ (s:=.agg (kpL f n)) (iid:=n1+5) (mid:=mid) (clk:=clk) (seen:=ks.map stamp) (fit:=kfP) (dom:=dom) (get:=get) (stamp:=stamp) (k:=kp f n) Ωq Ωq ΩH ΩH hk2 (vB [.int .i64 (f 0),.int .i64 (f 1),.int .i64 (f 2),.int .i64 (f 3),.int .i64 (f 4),.int .i64 (n:Nat)]) ?_;unfold kpL;(repeat' first|refine sD ?_ ?_<;>intro _|refine aAa ?_|simp -dsimp only[↓RP,RQ,seval,NB,NB1,ND,jt,QS,QT,QN]);refine j5 Ωq (qox _ _ tb xid rid mid N n (len n) A Z nx row1 rw1 (to n) hN5 hn (by have:=h.l5 n hn;omega) ΩH ΩH ΩH y2 (λi hi=>by have:=h.fx.lo i hi;have:=h.fx.hi i hi;rcases y1.rwF i hi with e|e<;>omega) (λj hj=>h.fx.inn n j hn hj) ?hNX) λhp' n3 res hQ=>?_
    case hNX=>
     rcases h.nx n hn with⟨a,b⟩|⟨xi,r,a,b,⟨x1,x2,x3,x4,x5⟩,x6⟩
     ·exact .inl ⟨a,b⟩
     ·have NX:=(⟨nmE x1,nmE x2,nmE x3,nmE x4,nmA (Ω:xi<nn),nmA (Ω:xi<n1)⟩:_∧_∧_∧_∧_∧_)
      exact .inr ⟨xi,r,a,by simp[blk,NB,NB1,ND,NX,b],x6⟩
    obtain⟨rfl,q1,q2,hQ⟩:=hQ;have hl5:=h.l5 n hn;have NB3:=(⟨nmA (Ω:tb<n3),nmA (Ω:xid<n3),nmA (Ω:rid<n3),nmA (Ω:mid<n3),nmA (Ω:nn+4<n3),nmA (Ω:n1+5<n3)⟩:_∧_∧_∧_∧_∧_);rcases hQ with⟨hk,rfl⟩|⟨hk,rfl⟩
    ·obtain⟨w0,w1⟩:=h.fx.set y1.rwF hn hk
     have w2:=h.fx.hi n hn;have w3:=y1.cn;have w4:=GS rw0 N;have w5:=hN5
     skip
     rw[w1];unfold I B;repeat' first|refine sD ?_ ?_<;>intro _|refine aAa ?_|simp -dsimp only[↓RP,RQ,seval,NB3,qjf,NB,NB1,ND,jt,QS,QT,QN]
     skip
     refine⟨(ks++[kp f n],[kp f n],yX rw1 n (F n),(λa b=>if a=n∧b=0 then SV.val (.int .i64 (F n))else row1 a b),n3+13,(λi j=>[SV.val (.int .i64 (f 0)),SV.val (.int .i64 (f 1)),SV.val (.int .i64 (f 2)),SV.val (.int .i64 (f 3)),SV.val (.int .i64 (f 4)),SV.val (.int .i64 (n:Nat))].getD (i*6+j) SV.top)),⟨y1.hit hone hk2 hn hk4 rfl w0,λi hi=>?_,?_,λ_=>?_⟩,?_,?_⟩
     ·simp only[yX]
      by_cases e:i=n
      ·rw[if_pos ⟨e,trivial⟩,if_pos e]
      ·rw[if_neg (λe2=>e e2.1),if_neg e];exact y2 i hi
     ·intro i j hi hj
      have e:i=0:=by have hi:i<1:=hi;omega
      subst e;have k:=qij f n;show [SV.val (.int .i64 (f 0)),SV.val (.int .i64 (f 1)),SV.val (.int .i64 (f 2)),SV.val (.int .i64 (f 3)),SV.val (.int .i64 (f 4)),SV.val (.int .i64 (n:Nat))].getD (0*6+j) SV.top=kc (kp f n) j;rw[Nat.zero_mul,xb0];rcases(Ω:j=0∨j=1∨j=2∨j=3∨j=4∨j=5)with rfl|rfl|rfl|rfl|rfl|rfl
      ·exact k.1.symm
      ·exact k.2.1.symm
      ·exact k.2.2.1.symm
      ·exact k.2.2.2.1.symm
      ·exact k.2.2.2.2.1.symm
      ·exact k.2.2.2.2.2.symm
     ·simp only[xc8,xd1];omega
     ·have hk5:=hkl _ hk2 hk4
      simp only[xc8,xd1];omega
     ·rw[qdQ,List.map_append,List.map_cons,List.map_nil,xc8,xd1]
      exact qj Ω Ωc (SubHp.cons (SubHp.skip (hbx _ Ω) (SubHp.skip (hbx _ Ω) (SubHp.refl _))))
    ·unfold I B
     (repeat' first|refine sD ?_ ?_<;>intro _|refine aAa ?_|simp -dsimp only[↓RP,RQ,seval,NB3,NB,NB1,ND,jt,QS,QT,QN]);refine⟨(ks++[kp f n],[],rw1,row1,oid,frow),⟨y1.stop hk2 hk4 hk,y2,y3,λhh=>?_⟩,?_,?_⟩
     ·exact absurd hh Ωi
     ·have hk5:=hkl _ hk2 hk4
      simp only[xc8,xd1];omega
     ·rw[qjh,List.map_append,List.map_cons,List.map_nil,xc8,xd1]
      exact qj Ω Ωc (SubHp.skip (hbx _ Ω) (SubHp.refl _))
   ·skip
    have hkk:∀v,dom v=true→v∈ks:=λv hv=>by
     obtain⟨u,hu,e⟩:=List.mem_map.1 (hall v hv);rw[←hinj u v (y1.inD u hu) hv e];exact hu
    have⟨hrw,hno⟩:=y1.nil rfl;subst hrw;have hF:∀i,i<N→rw1 i=F i:=λi hi=>h.fx.fin y1.rwF (λi hi hneg=>by
     obtain⟨v,hv,rfl⟩:=h.all i hi;refine hno v (hkk v ?_);rw[hdom];simp only[hv,xf0,decide_eq_true_eq];exact hneg) 1000000 i hi (h.fx.hi i hi)
    repeat' first|refine sD ?_ ?_<;>intro _|refine aAa ?_|simp -dsimp only[↓RP,RQ,seval,NB,NB1,ND,jt,QS,QT,QN]|exact Ωb|fail
    refine⟨_,_,_,qdP (mid:=mid) (fit:=kfP) (dom:=dom) (dom':=λv=>dom0 v&&decide (F (zL v)<0)) (get:=get) (st:=stamp) (c:=clk) ΩH (λv=>?_) (xa5 _) (fr':=[(0,_)]) ⟨.inr rfl,trivial⟩ (by simp only[setBlk,NB,NB1,ND,reduceIte];exact SubHp.skip (hbx0 _ Ω) (SubHp.refl _)),?_,rfl,row1,λi hi=>by rw[y2 i hi,hF i hi],rfl⟩
    ·rw[hdom]
     show(dom0 v&&decide (F (zL v)<0))=(dom0 v&&decide (rw1 (zL v)<0));cases hv:dom0 v with
     |false=>rfl
     |true=>
      obtain⟨f,n,hn,rfl⟩:=h.keys v hv;rw[ws,hF n hn]
    ·have hc:=Nat.mul_le_mul_left (960*N+400) (Ω:c≤N)
     have e3:(960*N+400)*N=960*(N*N)+400*N:=by rw[Nat.add_mul,Nat.mul_assoc]
     rw[e3]at hc;have e1:1000*(N+2)*(N+2)=1000*(N*N)+4000*N+4000:=by
      rw[Nat.mul_assoc,Nat.add_mul,Nat.mul_add,Nat.mul_add];omega
     rw[e1,hnn,hn1];omega
 |cons x l=>
  have⟨y5,y6⟩:=y4 Ωi;rw[←hnn]at y6;have NO:=(⟨nmE (Ω:oid≠tb),nmE (Ω:oid≠xid),nmE (Ω:oid≠rid),nmE (Ω:oid≠mid),nmE (Ω:oid≠n1+5),nmA y6⟩:_∧_∧_∧_∧_∧_);have hdr:dropBlk rest oid=rest:=kI (h.und.none Ω);have hbx2:∀{X Y Z' V:Blk} x,n1+6≤x→x≠oid→blk ((oid,V) ::(n1+5,X) ::(rid,Y) ::(mid,Z') ::(tb,.cells 253 [A,Z,.vec xid N 1,.vec rid N 1,.mp mid]) ::(xid,.rows 22 1 N nx) :: rest) x=none:=λx hx hx2=>by
   simp only[blk];rw[if_neg hx2];exact hbx x hx
  ·rw[qdQ,←hnn]
   (repeat' first|refine sD ?_ ?_<;>intro _|refine aAa ?_|simp -dsimp only[↓RP,RQ,seval,NO,hdr,NB,NB1,ND,jt,QS,QT,QN]);refine qgI (iid:=n1+5) (mid:=mid) (clk:=clk) (seen:=ks.map stamp) (fit:=kfP) (dom:=dom) (get:=get) (stamp:=stamp) Ωq Ωq ΩF ΩF (λk hk1 hk2 hk3=>?_) (λhall=>?_)
   ·obtain⟨f,n,hn,rfl⟩:=h.keys k (hd0 k hk2)
    have hk4:kp f n∉ks:=λhm=>hk3 (List.mem_map.2 ⟨_,hm,rfl⟩);(repeat' first|refine sD ?_ ?_<;>intro _|refine aAa ?_|simp -dsimp only[↓RP,RQ,seval,NO,hdr,NB,NB1,ND,jt,QS,QT,QN]);refine QZ (s:=.agg (kpL f n)) (iid:=n1+5) (mid:=mid) (clk:=clk) (seen:=ks.map stamp) (fit:=kfP) (dom:=dom) (get:=get) (stamp:=stamp) (k:=kp f n) Ωq Ωq ΩF ΩF hk2 (vB [.int .i64 (f 0),.int .i64 (f 1),.int .i64 (f 2),.int .i64 (f 3),.int .i64 (f 4),.int .i64 (n:Nat)]) ?_;unfold kpL;(repeat' first|refine sD ?_ ?_<;>intro _|refine aAa ?_|simp -dsimp only[↓RP,RQ,seval,NO,hdr,NB,NB1,ND,jt,QS,QT,QN]);refine j5 Ωq (qox _ _ tb xid rid mid N n (len n) A Z nx row1 rw1 (to n) hN5 hn (by have:=h.l5 n hn;omega) ΩF ΩF ΩF y2 (λi hi=>by have:=h.fx.lo i hi;have:=h.fx.hi i hi;rcases y1.rwF i hi with e|e<;>omega) (λj hj=>h.fx.inn n j hn hj) ?hNX) λhp' n3 res hQ=>?_
    case hNX=>
     rcases h.nx n hn with⟨a,b⟩|⟨xi,r,a,b,⟨x1,x2,x3,x4,x5⟩,x6⟩
     ·exact .inl ⟨a,b⟩
     ·have NX:=(⟨nmE x1,nmE x2,nmE x3,nmE x4,nmA (Ω:xi<nn),nmA (Ω:xi<n1),nmE (Ω:xi≠oid)⟩:_∧_∧_∧_∧_∧_∧_)
      exact .inr ⟨xi,r,a,by simp[blk,NB,NB1,ND,NX,NO,b],x6⟩
    obtain⟨rfl,q1,q2,hQ⟩:=hQ;have hl5:=h.l5 n hn;have NB3:=(⟨nmA (Ω:tb<n3),nmA (Ω:xid<n3),nmA (Ω:rid<n3),nmA (Ω:mid<n3),nmA (Ω:nn+4<n3),nmA (Ω:n1+5<n3),nmA (Ω:oid<n3)⟩:_∧_∧_∧_∧_∧_∧_);rcases hQ with⟨hk,rfl⟩|⟨hk,rfl⟩
    ·obtain⟨w0,w1⟩:=h.fx.set y1.rwF hn hk
     have w2:=h.fx.hi n hn;have w3:=y1.cn;have w4:=GS rw0 N;have w5:=hN5;rw[xe4]at w3;rw[w1];unfold I B;(repeat' first|refine sD ?_ ?_<;>intro _|refine aAa ?_|simp -dsimp only[↓RP,RQ,seval,NB3,qjf,NO,hdr,NB,NB1,ND,jt,QS,QT,QN]);refine⟨⟨.inr trivial,xa5 _,qpz _ _ _ _ _ _,Ω⟩,Ω,Ω,?_⟩;refine⟨(ks++[kp f n],x ::(l++[kp f n]),yX rw1 n (F n),(λa b=>if a=n∧b=0 then SV.val (.int .i64 (F n))else row1 a b),n3+13,(λi j=>if i<l.length+1 then frow i j else [SV.val (.int .i64 (f 0)),SV.val (.int .i64 (f 1)),SV.val (.int .i64 (f 2)),SV.val (.int .i64 (f 3)),SV.val (.int .i64 (f 4)),SV.val (.int .i64 (n:Nat))].getD ((i -(l.length+1))*6+j) SV.top)),⟨y1.hit hone hk2 hn hk4 rfl w0,λi hi=>?_,?_,λ_=>?_⟩,?_,?_⟩
     ·simp only[yX]
      by_cases e:i=n
      ·rw[if_pos ⟨e,trivial⟩,if_pos e]
      ·rw[if_neg (λe2=>e e2.1),if_neg e];exact y2 i hi
     ·intro i j hi hj
      have hi:i<(x ::(l++[kp f n])).length:=hi;rw[xe4,xc8,xd1]at hi;by_cases hc:i<l.length+1
      ·show(if i<l.length+1 then frow i j else _)=_
       rw[if_pos hc,y3 i j hc hj];have eG:(x ::(l++[kp f n])).getD i undef=(x :: l).getD i undef:=by
        rw[←List.cons_append,xc6,xc6,xc9 hc]
       show _=kc ((x ::(l++[kp f n])).getD i undef) j;rw[eG]
      ·have e:i=l.length+1:=by omega
       subst e;have k:=qij f n;have eG:(x ::(l++[kp f n])).getD (l.length+1) undef=kp f n:=by simp[xc6]
       show(if l.length+1<l.length+1 then frow (l.length+1) j else [SV.val (.int .i64 (f 0)),SV.val (.int .i64 (f 1)),SV.val (.int .i64 (f 2)),SV.val (.int .i64 (f 3)),SV.val (.int .i64 (f 4)),SV.val (.int .i64 (n:Nat))].getD ((l.length+1 -(l.length+1))*6+j) SV.top)=kc ((x ::(l++[kp f n])).getD (l.length+1) undef) j;rw[if_neg Ω,eG,xb8,Nat.zero_mul,xb0];rcases(Ω:j=0∨j=1∨j=2∨j=3∨j=4∨j=5)with rfl|rfl|rfl|rfl|rfl|rfl
       ·exact k.1.symm
       ·exact k.2.1.symm
       ·exact k.2.2.1.symm
       ·exact k.2.2.2.1.symm
       ·exact k.2.2.2.2.1.symm
       ·exact k.2.2.2.2.2.symm
     ·simp only[xc8,xd1];omega
     ·have hk5:=hkl _ hk2 hk4
      simp only[xc8,xd1];omega
     ·rw[qdQ,List.map_append,List.map_cons,List.map_nil,xc8,xd1,xc8,xd1]
      exact qj Ω Ωc (SubHp.cons (SubHp.skip (hbx _ Ω) (SubHp.skip (hbx _ Ω) (SubHp.refl _))))
    ·unfold I B
     (repeat' first|refine sD ?_ ?_<;>intro _|refine aAa ?_|simp -dsimp only[↓RP,RQ,seval,NB3,NO,hdr,NB,NB1,ND,jt,QS,QT,QN]);refine⟨(ks++[kp f n],x :: l,rw1,row1,oid,frow),⟨y1.stop hk2 hk4 hk,y2,y3,λhh=>?_⟩,?_,?_⟩
     ·have:=y4 hh
      simp only[xc8,xd1];omega
     ·have hk5:=hkl _ hk2 hk4
      simp only[xc8,xd1];omega
     ·rw[qdQ,List.map_append,List.map_cons,List.map_nil,xc8,xd1]
      exact qj Ω Ωc (SubHp.skip (hbx2 _ Ω Ω) (SubHp.refl _))
   ·skip
    have hkk:ks.length≤N:=hks;have hfl:=y1.cn;have hcl:=GS rw0 N;rw[xe4]at hfl;have hl0:=decide_eq_false (show ¬(((l.length+1:Nat):Nat):Int)=0 by omega);obtain⟨fl,hfe⟩:∃fl,fl=x :: l:=⟨_,rfl⟩;obtain⟨m,hm⟩:∃m,m=l.length+1:=⟨_,rfl⟩;have hml:m=fl.length:=by rw[hfe,hm];rfl
    rw[←hm]at hfl hl0;rw[←hfe]at y1 y3;rw[←hm];repeat' first|refine sD ?_ ?_<;>intro _|refine aAa ?_|simp -dsimp only[↓RP,RQ,seval,NO,hdr,hl0,NB,NB1,ND,jt,QS,QT,QN]|exact Ωb|fail
    refine qo (λ(i:Nat)=>i≤m) (λi=>⟨[(0,.ptr tb 0),(40,.vec oid m 6),(41,.val (.int .i64 (m:Nat))),(42,.val (.int .i64 (i:Nat)))],(oid,.rows 255 6 m frow) ::(rid,.rows 3 1 N row1) ::(mid,.mapS kfP (domC dom (fl.take i)) get stamp clk) ::(tb,.cells 253 [A,Z,.vec xid N 1,.vec rid N 1,.mp mid]) ::(xid,.rows 22 1 N nx) :: rest,nn+40+60*i⟩) (λi=>m - i) 0 (xb6 _) (by rw[List.take_zero,qjg];exact qj Ω Ωc (SubHp.cons (SubHp.skip (hbx0 _ Ω) (SubHp.refl _)))) λi hi=>?_;obtain⟨n4,hn4⟩:∃n4,n4=nn+40+60*i:=⟨_,rfl⟩;rw[←hn4];clear NB;have NB:=(⟨nmA (Ω:tb<n4),nmA (Ω:xid<n4),nmA (Ω:rid<n4),nmA (Ω:mid<n4),nmA (Ω:oid<n4)⟩:_∧_∧_∧_∧_);have hbx4:∀{X Y Z':Blk} x,n4≤x→blk ((oid,X) ::(rid,Y) ::(mid,Z') ::(tb,.cells 253 [A,Z,.vec xid N 1,.vec rid N 1,.mp mid]) ::(xid,.rows 22 1 N nx) :: rest) x=none:=λx hx=>by
     simp only[blk];rw[if_neg Ω,if_neg Ω,if_neg Ω,if_neg Ω,if_neg Ω];exact h.und.none Ω
    by_cases him:i<m
    ·have hlt:=decide_eq_true (Ω:((i:Nat):Int)<(m:Nat))
     have hmem:fl.getD i undef∈fl:=by
      rw[xc6,xc7 (Ω:i<fl.length)];exact List.getElem_mem _
     obtain⟨f,n,hn,hfn⟩:=h.keys _ (hd0 _ (y1.inD _ (y1.sub _ hmem)));have k:=qij f n;have f0:=y3 i 0 Ω Ω;have f1:=y3 i 1 Ω Ω;have f2:=y3 i 2 Ω Ω;have f3:=y3 i 3 Ω Ω;have f4:=y3 i 4 Ω Ω;have f5:=y3 i 5 Ω Ω;rw[hfn,k.1]at f0;rw[hfn,k.2.1]at f1;rw[hfn,k.2.2.1]at f2;rw[hfn,k.2.2.2.1]at f3;rw[hfn,k.2.2.2.2.1]at f4;rw[hfn,k.2.2.2.2.2]at f5;repeat' first|refine sD ?_ ?_<;>intro _|refine aAa ?_|simp -dsimp only[↓RP,RQ,seval,NO,hlt,f0,f1,f2,f3,f4,f5,qmo,qjf,NB,NB1,ND,jt,QS,QT,QN]|exact Ωb|fail
     have hgi:fl[i]? = some (kp f n):=by
      rw[←hfn,xc6,xc7 (Ω:i<fl.length)];rfl
     have hcut:ki (domC dom (List.take i fl)) (Value.agg #[Value.int .i64 (f 0),Value.int .i64 (f 1),Value.int .i64 (f 2),Value.int .i64 (f 3),Value.int .i64 (f 4),Value.int .i64 (n:Nat)])=domC dom (List.take (i+1) fl):=by
      show ki _ (kp f n)=_;rw[qno,List.take_add_one,hgi];rfl
     rw[hcut];exact⟨i+1,Ω,Ω,qj Ω Ωc (SubHp.skip (hbx4 _ Ω) (SubHp.refl _))⟩
    ·obtain rfl:i=m:=by omega
     have hlt:=decide_eq_false (Ω:¬((i:Nat):Int)<(i:Nat));repeat' first|refine sD ?_ ?_<;>intro _|refine aAa ?_|simp -dsimp only[↓RP,RQ,seval,NO,hlt,NB,NB1,ND,jt,QS,QT,QN]|exact Ωb|fail
     have yd:=y1;rw[hdom]at yd;have ed:=yd.dom;have hX:id+(960*N+400)*(c+1)=n1+(960*N+400):=by rw[hn1,Nat.mul_add,Nat.mul_one];omega
     refine⟨(rw1,row1,c+1),⟨y1.rwF,y2,by simp only[];omega⟩,by simp only[];omega,qdP (mid:=mid) (fit:=kfP) (dom:=domC dom (List.take i fl)) (dom':=λv=>dom0 v&&decide (rw1 (zL v)<0)) (get:=get) (st:=stamp) (c:=clk) ΩF (λv=>?_) (by simp only[];rw[hX];omega) Ωc (by simp only[setBlk,NB,NB1,ND,NO,reduceIte];exact SubHp.skip (hbx0 _ Ω) (SubHp.refl _))⟩;rw[hdom,List.take_of_length_le Ω,ed]
end Go.Tn
end
section
namespace Go.Sx
open Go.RowKit
section
variable{P:Program}
end
end Go.Sx
end
section
namespace Go.Tn
open Go.Proofs
open Go.Sx
theorem Y7:qn Tryz.prog 22=some ⟨false,1,some [.slice none 0 0],.slice 3 1⟩:=by kernel_rfl
theorem ty3:qn Tryz.prog 3=some ⟨false,1,some [.int .i64 0],.int .i64⟩:=by kernel_rfl
theorem qji{O:Ctx}{fr:List (Nat×SV)}{hp:List (Nat×Blk)}{nid d id n k:Nat}(h:Go.Sx.look fr d=.vec id n k):Weak O ⟨fr,hp,nid⟩ ⟨putFr fr d (.que id 0 n k),hp,nid⟩:=λbase okc ns outs x w ⟨r,h'⟩=>⟨r,h'.sat,h'.keys,λi=>by
 show Rep _ _ _ _ (Go.Sx.look (putFr fr d _) i) _;rw[zh];split
 ·rename_i e
  have hv:=h'.fr d;rw[show(⟨fr,hp,nid⟩:St).fr=fr from rfl,h]at hv;rw[e];generalize x.tmps.getD d undef=v at hv ⊢;cases hv with
  |vecNil _ _ hN hr=>exact Rep.queNil (N:=λx=>x<nid) _ _ _ _ hN
  |vec _ _ _ b cap cs t hN hr hb hcs hcap hmx=>
   have q:=Rep.que (N:=λx=>x<nid) (G:=Gd base okc r (λx=>x<nid) hp w) id 0 n k b cap cs t hN hr hb (by rw[xb0];exact hcs) hcap (by rw[xb0];exact hmx);rw[Nat.zero_mul]at q;exact q
 ·exact h'.fr i,h'.size,h'.lo,h'.out,h'.rfix,h'.defers⟩
def setN(f:Nat→Nat)(k x:Nat):Nat→Nat:=λi=>if i=k then x else f i
def ke(start i:Nat):List Nat→Nat→(Nat→Nat)→List Nat→Bool×(Nat→Nat)×List Nat
 |[],_,by',wait=>(false,by',wait)
 |to :: l,w,by',wait=>if 0<by' to then ke start i l (w+1) by' wait else if to=start then(true,setN by' to (1+i*5+w),wait)else ke start i l (w+1) (setN by' to (1+i*5+w)) (wait++[to])
def qfK(L:Nat→List Nat)(start:Nat):Nat→(Nat→Nat)→List Nat→Option (Bool×(Nat→Nat))
 |0,_,_=>none
 |_+1,by',[]=>some (false,by')
 |f+1,by',i :: wait=>if (ke start i (L i) 0 by' wait).1=true then some (true,(ke start i (L i) 0 by' wait).2.1)else qfK L start f (ke start i (L i) 0 by' wait).2.1 (ke start i (L i) 0 by' wait).2.2
def G6(L:Nat→List Nat)(N fb fk:Nat):Nat→Nat→List Nat→Option (List Nat)
 |0,_,best=>some best
 |k+1,start,best=>match qfK L start fb (λ_=>0) [start]with
  |none=>none
  |some (false,_)=>G6 L N fb fk k (start+1) best
  |some (true,by')=>match J0 by' N start fk start []with
   |none=>none
   |some l=>G6 L N fb fk k (start+1) (if best.length=0∨l.length<best.length then l.reverse else best)
structure Cl(N:Nat)(L:Nat→List Nat)(nx:Nat→Nat→SV)(H:List (Nat×Blk))(id tb xid:Nat)(A R M:SV)(sid:Nat):Prop where
 N5:N≤100000
 l5:∀i,i<N→(L i).length≤5
 inn:∀i,i<N→∀a,a∈L i→a<N
 tb:blk H tb=some (.cells 253 [A,.vec sid N 5,.vec xid N 1,R,M])
 xid:blk H xid=some (.rows 22 1 N nx)
 nx:∀i,i<N→(L i=[]∧nx i 0=.val (.slice none 0 0))∨∃xi r,nx i 0=.vec xi (L i).length 1∧blk H xi=some (.rows 3 1 (L i).length r)∧qbF (L i) r
 und:Under H id
structure QI(N:Nat)(L:Nat→List Nat)(start fb n1:Nat)(Rb:Bool×(Nat→Nat))(f c:Nat)(by':Nat→Nat)(byr:Nat→Nat→SV)(wait:List Nat)(wid off:Nat)(J:Nat→Nat→SV):Prop where
 fu:f+c=fb
 run:qfK L start f by' wait=some Rb
 row:∀x,x<N→byr x 0=.val (.int .i64 (by' x:Nat))
 le:∀x,x<N→by' x≤1000000
 lt:∀x,x∈wait→x<N
 J:∀i,i<wait.length→J (off+i) 0=.val (.int .i64 (wait.getD i 0:Nat))
 off:off≤c
 len:wait.length≤1+5*c
 w1:n1+11≤wid
 w2:wid<n1+20+450*c
structure RI(N:Nat)(L:Nat→List Nat)(start i c n1 n2 nr:Nat)(R3:Bool×(Nat→Nat)×List Nat)(k:Nat)(by':Nat→Nat)(byr:Nat→Nat→SV)(wait:List Nat)(wid off:Nat)(J:Nat→Nat→SV):Prop where
 kl:k≤(L i).length
 run:ke start i ((L i).drop k) k by' wait=R3
 row:∀x,x<N→byr x 0=.val (.int .i64 (by' x:Nat))
 le:∀x,x<N→by' x≤1000000
 lt:∀x,x∈wait→x<N
 J:∀i,i<wait.length→J (off+i) 0=.val (.int .i64 (wait.getD i 0:Nat))
 off:off≤c+1
 len:wait.length≤nr+k
 w1:n1+11≤wid
 w2:wid<n2+40+60*k
def bSV(bid:Nat)(best:List Nat):SV:=match best with
 |[]=>.val (.slice none 0 0)
 |_ :: l=>.vec bid (l.length+1) 1
def bH(bid:Nat)(best:List Nat)(r:Nat→Nat→SV)(H:List (Nat×Blk)):List (Nat×Blk):=match best with
 |[]=>H
 |_ :: l=>(bid,.rows 3 1 (l.length+1) r) :: H
theorem Cl.bH{N:Nat}{L:Nat→List Nat}{nx:Nat→Nat→SV}{H:List (Nat×Blk)}{id tb xid:Nat}{A R M:SV}{sid:Nat}(h:Cl N L nx H id tb xid A R M sid){bid:Nat}{best:List Nat}{r:Nat→Nat→SV}{n:Nat}(hn:id≤n)(hb:best≠[]→id≤bid∧bid<n):Cl N L nx (bH bid best r H) n tb xid A R M sid:=by
 cases best with
 |nil=>exact⟨h.N5,h.l5,h.inn,h.tb,h.xid,h.nx,λk x hx=>xa9 (h.und k x hx) hn⟩
 |cons x l=>
  have⟨h1,h2⟩:=hb Ωi;have key:∀k y,blk H k=some y→blk ((bid,.rows 3 1 (l.length+1) r) :: H) k=some y:=λk y hy=>by
   have:=h.und k y hy;simp only[blk];rw[if_neg Ω];exact hy
  refine⟨h.N5,h.l5,h.inn,key _ _ h.tb,key _ _ h.xid,λi hi=>?_,λk y hy=>?_⟩
  ·rcases h.nx i hi with c|⟨xi,r',c1,c2,c3⟩
   ·exact .inl c
   ·exact .inr ⟨xi,r',c1,key _ _ c2,c3⟩
  ·simp only[Go.Tn.bH,blk]at hy
   split at hy
   ·omega
   ·exact xa9 (h.und k y hy) hn
theorem qjj{b:Nat}{l:List Nat}(h:0<l.length):bSV b l=.vec b l.length 1:=by
 cases l with
 |nil=>cases h
 |cons x l=>rfl
theorem qmp{b:Nat}{l:List Nat}{r:Nat→Nat→SV}{H:List (Nat×Blk)}(h:0<l.length):bH b l r H=(b,.rows 3 1 l.length r) :: H:=by
 cases l with
 |nil=>cases h
 |cons x l=>rfl
theorem e73(N:Nat)(L:Nat→List Nat)(nx:Nat→Nat→SV)(H:List (Nat×Blk))(id tb xid:Nat)(A R M:SV)(sid fb fk:Nat)(res0:List Nat)(h:Cl N L nx H id tb xid A R M sid)(hfb:fb≤100000)(hfk:fk≤100000)(hF:G6 L N fb fk N 0 []=some res0)(C:Nat)(hCC:C=500*fb+100*fk+2000) :
  EffVC Tryz.prog 73 [.ptr tb 0] H id (λhp' nid' res=>nid'≤id+100+C*N∧∃bid r,(res0≠[]→id≤bid∧bid<nid')∧qbF res0 r∧hp'=bH bid res0 r H∧res=bSV bid res0):=by
 refine yD (zO [(16,[(0,0)])]) follows Tryz.func73 rfl Ωa Ωa (by rw[Tryz.ntmps73];simp) λout=>?_;have NB:True:=trivial;have hN5:=h.N5;repeat' first|refine sD ?_ ?_<;>intro _|refine aAd ?_|simp -dsimp only[↓RP,RQ,seval,h.tb,↓RY,NB,QS,QT,qP,QN]|exact Ωb|fail
 refine qo (λ(z:Nat×List Nat×Nat×(Nat→Nat→SV))=>z.1≤N∧G6 L N fb fk (N - z.1) z.1 z.2.1=some res0∧qbF z.2.1 z.2.2.2∧(z.2.1≠[]→id≤z.2.2.1∧z.2.2.1<id+20+C*z.1)) (λz=>⟨[(0,.ptr tb 0),(3,bSV z.2.2.1 z.2.1),(15,.val (.int .i64 (N:Nat))),(16,.val (.int .i64 (z.1:Nat)))],bH z.2.2.1 z.2.1 z.2.2.2 H,id+20+C*z.1⟩) (λz=>N - z.1) (0,[],0,λ_ _=>.top) ⟨xb6 _,hF,λi hi=>(by cases hi),λhh=>absurd rfl hh⟩ (qj (by simp only[];omega) (by simp[qI,Go.Sx.look,bSV]) (SubHp.refl _)) λz hz=>?_;obtain⟨start,best,bid,br⟩:=z;obtain⟨z1,z2,z3,z4⟩:=hz;simp only[]at z1 z2 z3 z4;obtain⟨n1,hn1⟩:∃n1,n1=id+20+C*start:=⟨_,rfl⟩;have hid1:id≤n1:=by rw[hn1,xb2];exact Nat.le_add_right _ _
 rw[←hn1]at z4;simp only[];rw[←hn1];by_cases hlt:start<N
 ·have hlt1:=decide_eq_true (Ω:((start:Nat):Int)<(N:Nat))
  have hC:=h.bH (r:=br) hid1 z4;obtain⟨bv,hbv⟩:∃bv,bv=bSV bid best:=⟨_,rfl⟩;obtain⟨H2,hH2⟩:∃H2,H2=bH bid best br H:=⟨_,rfl⟩;rw[←hbv,←hH2];rw[←hH2]at hC;have htb:=hC.und _ _ hC.tb;have hxid:=hC.und _ _ hC.xid;have NB:=(⟨nmA htb,nmA hxid⟩:_∧_);repeat' first|refine sD ?_ ?_<;>intro _|refine aAd ?_|simp -dsimp only[↓RP,RQ,seval,hlt1,hC.tb,↓RY,NB,QS,QT,qP,QN]|exact Ωb|fail
  have hk:N - start=(N -(start+1))+1:=by omega
  rw[hk]at z2;simp only[G6]at z2;cases hb0:qfK L start fb (λ_=>0) [start]with
  |none=>rw[hb0]at z2;cases z2
  |some Rb=>
  rw[hb0]at z2;refine qo (λ(z:Nat×Nat×(Nat→Nat)×(Nat→Nat→SV)×List Nat×Nat×Nat×(Nat→Nat→SV))=>QI N L start fb n1 Rb z.1 z.2.1 z.2.2.1 z.2.2.2.1 z.2.2.2.2.1 z.2.2.2.2.2.1 z.2.2.2.2.2.2.1 z.2.2.2.2.2.2.2) (λz=>⟨[(0,.ptr tb 0),(3,bv),(4,.val (.int .i64 (start:Nat))),(5,.vec (n1+8) N 1),(6,.que z.2.2.2.2.2.1 (z.2.2.2.2.2.2.1) (z.2.2.2.2.1.length) 1),(15,.val (.int .i64 (N:Nat))),(16,.val (.int .i64 (start:Nat)))],(z.2.2.2.2.2.1,.rows 3 1 (z.2.2.2.2.2.2.1+z.2.2.2.2.1.length) z.2.2.2.2.2.2.2) ::(n1+8,.rows 3 1 N z.2.2.2.1) :: H2,n1+20+450*z.2.1⟩) (λz=>z.1) (fb,0,λ_=>0,λx j=>SV.val ([Value.int IntKind.i64 0].getD j undef),[start],n1+11,0,λi j=>[SV.val (.int .i64 (start:Nat))].getD (i+j) SV.top) ⟨rfl,hb0,λx hx=>rfl,λx hx=>xb6 _,λx hx=>(by rw[List.mem_singleton.1 hx];exact hlt),λi hi=>(by have hi:i<1:=hi;obtain rfl:i=0:=Ω;rfl),xa5 _,Ωi,xa5 _,(by show n1+11<n1+20+450*0;omega)⟩ (Weak.trans (qji (d:=6) rfl) (qj (by simp only[];omega) (by simp[qI,Go.Sx.look,putFr]) (SubHp.refl _))) λz hz=>?_;obtain⟨f,c,by',byr,wait,wid,off,J⟩:=z;have hz':QI N L start fb n1 Rb f c by' byr wait wid off J:=hz
  obtain⟨y1,y2,y3,y4,y5,y6,y7,y8,y9,y10⟩:=hz';simp only[];cases f with
  |zero=>cases y2
  |succ f=>
  obtain⟨n2,hn2⟩:∃n2,n2=n1+20+450*c:=⟨_,rfl⟩;rw[←hn2];have hw2:wid<n2:=by omega
  clear NB;have NB:=(⟨nmA (Ω:tb<n2),nmA (Ω:xid<n2),nmA hw2,nmE (Ω:wid≠tb),nmE (Ω:wid≠xid),nmE (Ω:wid≠n1+8),nmA htb,nmA hxid,nmA (Ω:n1+8<n2)⟩:_∧_∧_∧_∧_∧_∧_∧_∧_);cases wait with
  |nil=>
   simp only[qfK]at y2;cases y2;repeat' first|refine sD ?_ ?_<;>intro _|refine aAd ?_|simp -dsimp only[↓RP,RQ,seval,hC.tb,↓RY,NB,QS,QT,qP,QN]|exact Ωb|fail
   refine⟨(start+1,best,bid,br),⟨Ω,z2,z3,λhh=>?_⟩,by first|omega|(simp only[];omega)|(dsimp only;omega),?_⟩
   ·have:=z4 hh
    have hX:id+(20+C*(start+1))=n1+C:=by rw[hn1,Nat.mul_add,Nat.mul_one];omega
    simp only[];rw[hX];omega
   ·have hX:id+(20+C*(start+1))=n1+C:=by rw[hn1,Nat.mul_add,Nat.mul_one];omega
    simp only[];rw[hX,←hbv,←hH2];exact qj Ω Ωc (SubHp.skip (hC.und.none Ω) (SubHp.skip (hC.und.none Ω) (SubHp.refl _)))
  |cons i rest=>
   have hi:i<N:=y5 i xd5;have hgt:=decide_eq_true (Ω:(0:Int)<((rest.length+1:Nat):Int));have hJ0:=y6 0 Ωi;rw[xb1]at hJ0;have hJ1:J off 0=SV.val (.int .i64 (i:Nat)):=hJ0;rw[xe4]at y8;have hql:((rest.length+1:Nat):Int) - 1=((rest.length:Nat):Int):=by omega
   obtain⟨R3,hR3⟩:∃R3,R3=ke start i (L i) 0 by' rest:=⟨_,rfl⟩
   simp only[qfK]at y2;rw[←hR3]at y2;have hl5:=hC.l5 i hi;rcases hC.nx i hi with⟨c1,c2⟩|⟨xi,r,c1,c2,c3⟩
   ·rw[c1]at hR3
    simp only[ke]at hR3;subst hR3;simp only[xe7,if_false]at y2;repeat' first|refine sD ?_ ?_<;>intro _|refine aAd ?_|simp -dsimp only[↓RP,RQ,seval,hgt,hql,hC.tb,hC.xid,hJ1,c2,↓RY,NB,QS,QT,qP,QN]|exact Ωb|fail
    refine qo (λ(z:Unit)=>True) (λ_=>⟨[(0,.ptr tb 0),(3,bv),(4,.val (.int .i64 (start:Nat))),(5,.vec (n1+8) N 1),(6,.que wid (off+1) (rest.length) 1),(15,.val (.int .i64 (N:Nat))),(16,.val (.int .i64 (start:Nat)))]++[(42,.val (.int .i64 0)),(43,.val (.int .i64 0))],(wid,.rows 3 1 (off+1+rest.length) J) ::(n1+8,.rows 3 1 N byr) :: H2,n2+100⟩) (λ_=>0) () trivial (qj Ω Ωc (by rw[show off+(rest.length+1)=off+1+rest.length by omega];exact SubHp.refl _)) λz hz=>?_;repeat' first|refine sD ?_ ?_<;>intro _|refine aAd ?_|simp -dsimp only[↓RP,RQ,seval,↓RY,NB,QS,QT,qP,QN]|exact Ωb|fail
    have hq:QI N L start fb n1 Rb f (c+1) by' byr rest wid (off+1) J:=⟨Ω,y2,y3,y4,λx hx=>y5 x (List.mem_cons_of_mem _ hx),λi hi=>by
     have:=y6 (i+1) Ωl;rw[show off+1+i=off+(i+1) by omega,this];rfl,Ω,Ω,y9,Ω⟩
    exact⟨(f,c+1,by',byr,rest,wid,off+1,J),hq,Ωg,qj Ωg Ωc (by dsimp only;rw[show off+1+rest.length=off+(1+rest.length) by omega];exact SubHp.refl _)⟩
   ·have hxi:=hC.und _ _ c2
    have NX:=(⟨nmA (Ω:xi<n2),nmE (Ω:xi≠wid),nmA (Ω:xi<n1)⟩:_∧_∧_);repeat' first|refine sD ?_ ?_<;>intro _|refine aAd ?_|simp -dsimp only[↓RP,RQ,seval,hgt,hql,hC.tb,hC.xid,hJ1,c1,↓RY,NB,QS,QT,qP,QN]|exact Ωb|fail
    refine qo (λ(z:Nat×(Nat→Nat)×(Nat→Nat→SV)×List Nat×Nat×Nat×(Nat→Nat→SV))=>RI N L start i c n1 n2 rest.length R3 z.1 z.2.1 z.2.2.1 z.2.2.2.1 z.2.2.2.2.1 z.2.2.2.2.2.1 z.2.2.2.2.2.2) (λz=>⟨[(0,.ptr tb 0),(3,bv),(4,.val (.int .i64 (start:Nat))),(5,.vec (n1+8) N 1),(6,.que z.2.2.2.2.1 (z.2.2.2.2.2.1) (z.2.2.2.1.length) 1),(15,.val (.int .i64 (N:Nat))),(16,.val (.int .i64 (start:Nat)))]++[(7,.val (.int .i64 (i:Nat))),(41,.vec xi (L i).length 1),(42,.val (.int .i64 ((L i).length:Nat))),(43,.val (.int .i64 (z.1:Nat)))],(z.2.2.2.2.1,.rows 3 1 (z.2.2.2.2.2.1+z.2.2.2.1.length) z.2.2.2.2.2.2) ::(n1+8,.rows 3 1 N z.2.2.1) :: H2,n2+40+60*z.1⟩) (λz=>(L i).length - z.1) (0,by',byr,rest,wid,off+1,J) (by
     have:RI N L start i c n1 n2 rest.length R3 0 by' byr rest wid (off+1) J:=⟨xb6 _,hR3.symm,y3,y4,λx hx=>y5 x (List.mem_cons_of_mem _ hx),λi hi=>by
      have:=y6 (i+1) Ωl;rw[show off+1+i=off+(i+1) by omega,this];rfl,Ω,Ω,y9,Ω⟩
     exact this) (qj Ωg Ωc (by dsimp only;rw[show off+(rest.length+1)=off+1+rest.length by omega];exact SubHp.refl _)) λz hz=>?_
    obtain⟨k,by1,byr1,wait1,wid1,off1,J1⟩:=z;have hz':RI N L start i c n1 n2 rest.length R3 k by1 byr1 wait1 wid1 off1 J1:=hz;obtain⟨x1,x2,x3,x4,x5,x6,x7,x8,x9,x10⟩:=hz';dsimp only;obtain⟨n3,hn3⟩:∃n3,n3=n2+40+60*k:=⟨_,rfl⟩;rw[←hn3];have hw3:wid1<n3:=by omega
    clear NB NX;have NB:=(⟨nmA (Ω:tb<n3),nmA (Ω:xid<n3),nmA hw3,nmE (Ω:wid1≠tb),nmE (Ω:wid1≠xid),nmE (Ω:wid1≠n1+8),nmA htb,nmA hxid,nmA (Ω:n1+8<n3),nmA (Ω:xi<n3),nmE (Ω:xi≠wid1),nmA (Ω:xi<n1)⟩:_∧_∧_∧_∧_∧_∧_∧_∧_∧_∧_∧_);by_cases hkl:k<(L i).length
    ·have hk1:=decide_eq_true (Ω:((k:Nat):Int)<((L i).length:Nat))
     have hdr2:dropBlk H2 wid1=H2:=kI (hC.und.none Ω);obtain⟨to,hto⟩:∃to,to=(L i).getD k 0:=⟨_,rfl⟩;have hgi:(L i)[k]? = some to:=by rw[hto,xc6,xc7 hkl];rfl
     have htoN:to<N:=hC.inn i hi to (List.mem_of_getElem? hgi);have hdr:(L i).drop k=to ::(L i).drop (k+1):=by
      rw[List.drop_eq_getElem_cons hkl];rw[xc7 hkl]at hgi;rw[Option.some.inj hgi]
     rw[hdr]at x2;simp only[ke]at x2;have hrk:=c3 k hkl;rw[←hto]at hrk;have hrt:=x3 to htoN;by_cases hb1:0<by1 to
     ·rw[if_pos hb1]at x2
      have hb2:=decide_eq_true (Ω:(0:Int)<((by1 to:Nat):Int));repeat' first|refine sD ?_ ?_<;>intro _|refine aAd ?_|simp -dsimp only[↓RP,RQ,seval,hk1,hrk,hrt,hb2,c2,↓RY,NB,QS,QT,qP,QN]|exact Ωb|fail
      have hRI:RI N L start i c n1 n2 rest.length R3 (k+1) by1 byr1 wait1 wid1 off1 J1:=⟨hkl,x2,x3,x4,x5,x6,x7,Ω,x9,Ω⟩;exact⟨(k+1,by1,byr1,wait1,wid1,off1,J1),hRI,Ωg,qj Ωg Ωc (SubHp.refl _)⟩
     ·rw[if_neg hb1]at x2
      have hb2:=decide_eq_false (Ω:¬(0:Int)<((by1 to:Nat):Int));by_cases hs:to=start
      ·rw[if_pos hs]at x2
       have hs2:=decide_eq_true (Ω:((to:Nat):Int)=(start:Nat));subst x2;simp only[if_true]at y2;have y2:=Option.some.inj y2;subst y2;dsimp only at z2;cases hbk:J0 (setN by1 to (1+i*5+k)) N start fk start []with
       |none=>rw[hbk]at z2;cases z2
       |some l=>
       rw[hbk]at z2;dsimp only at z2;repeat' first|refine sD ?_ ?_<;>intro _|refine aAd ?_|simp -dsimp only[↓RP,RQ,seval,hk1,hrk,hrt,hb2,hs2,c2,↓RY,NB,QS,QT,qP,QN]|exact Ωb|fail
       refine j5 Ωq (qpr _ _ tb (n1+8) N start fk (setN by1 to (1+i*5+k)) (λa b=>if a=to∧b=0 then SV.val (.int .i64 (1+(i:Int)*5+(k:Int)))else byr1 a b) l h.N5 (λy x hx=>?hUn) hfk hlt Ω Ωs (λx hx=>?hRo) (λx hx=>?hLe) hbk) λhp' n4 res hQ=>?_
       case hUn=>
        simp only[blk]at hx;split at hx
        ·omega
        ·split at hx
         ·omega
         ·have:=hC.und y x hx;omega
       case hRo=>
        by_cases e:x=to
        ·rw[if_pos ⟨e,rfl⟩];unfold setN;rw[if_pos e];congr 2
        ·rw[if_neg (λe2=>e e2.1)];unfold setN;rw[if_neg e];exact x3 x hx
       case hLe=>
        unfold setN;split
        ·omega
        ·exact x4 x hx
       obtain⟨q1,rid,r',q2,q2',q3,q4,rfl,rfl⟩:=hQ;have q0:n3≤rid:=by omega
       have hX:id+(20+C*(start+1))=n1+C:=by rw[hn1,Nat.mul_add,Nat.mul_one];omega
       rw[hbv,hH2];have hX2:id+20+C*(start+1)=n1+C:=by rw[hn1,Nat.mul_add,Nat.mul_one];omega
       have hlr:0<l.reverse.length:=by rw[List.length_reverse];exact q3
       have hfu:c+1≤fb:=by omega
       cases best with
       |nil=>
        have HN:∀q,n1≤q→blk H q=none:=λq hq=>h.und.none Ω;rw[show bSV bid ([]:List Nat)=SV.val (.slice none 0 0)from rfl,show Go.Tn.bH bid [] br H=H from rfl];rw[if_pos (.inl rfl)]at z2;repeat' first|refine sD ?_ ?_<;>intro _|refine aAd ?_|simp -dsimp only[↓RP,RQ,seval,↓RY,NB,QS,QT,qP,QN]|exact Ωb|fail
        exact⟨(start+1,l.reverse,rid,r'),⟨Ωg,z2,q4,λ_=>⟨Ωg,by dsimp only;(first|rw[hX2]|rw[hX]);omega⟩⟩,Ωg,by
         dsimp only;rw[qjj hlr,qmp hlr,List.length_reverse]
         first|rw[hX]|rw[hX2]
         exact qj Ω Ωc (SubHp.cons (SubHp.skip (HN _ Ω) (SubHp.skip (HN _ Ω) (SubHp.refl _))))⟩
       |cons bx bl=>
        have⟨z5,z6⟩:=z4 Ωi;have HN:∀q,n1≤q→blk ((bid,.rows 3 1 (bl.length+1) br) :: H) q=none:=λq hq=>by
         simp only[blk];rw[if_neg Ω];exact h.und.none Ω
        rw[show bSV bid (bx :: bl)=.vec bid (bl.length+1) 1 from rfl,show Go.Tn.bH bid (bx :: bl) br H=(bid,.rows 3 1 (bl.length+1) br) :: H from rfl];have g0:=decide_eq_false (show ¬(((bl.length+1:Nat):Int)=0) by omega);by_cases hcmp:l.length<bl.length+1
        ·rw[if_pos (.inr hcmp)]at z2
         have g1:=decide_eq_true (Ω:((l.length:Nat):Int)<((bl.length+1:Nat):Int));repeat' first|refine sD ?_ ?_<;>intro _|refine aAd ?_|simp -dsimp only[↓RP,RQ,seval,g0,g1,↓RY,NB,QS,QT,qP,QN]|exact Ωb|fail
         exact⟨(start+1,l.reverse,rid,r'),⟨Ωg,z2,q4,λ_=>⟨Ωg,by dsimp only;(first|rw[hX2]|rw[hX]);omega⟩⟩,Ωg,by
          dsimp only;rw[qjj hlr,qmp hlr,List.length_reverse]
          first|rw[hX]|rw[hX2]
          exact qj Ω Ωc (SubHp.cons (SubHp.skip (h.und.none Ω) (SubHp.skip (h.und.none Ω) (SubHp.skip (h.und.none z5) (SubHp.refl _)))))⟩
        ·rw[if_neg (λe=>e.elim (λe=>by simp at e) hcmp)]at z2
         have g1:=decide_eq_false (Ω:¬((l.length:Nat):Int)<((bl.length+1:Nat):Int));repeat' first|refine sD ?_ ?_<;>intro _|refine aAd ?_|simp -dsimp only[↓RP,RQ,seval,g0,g1,↓RY,NB,QS,QT,qP,QN]|exact Ωb|fail
         exact⟨(start+1,bx :: bl,bid,br),⟨Ωg,z2,z3,λ_=>⟨z5,by dsimp only;(first|rw[hX2]|rw[hX]);omega⟩⟩,Ωg,by
          dsimp only
          first|rw[hX]|rw[hX2]
          exact qj Ω (by simp[qI,Go.Sx.look,bSV]) (SubHp.skip (HN _ Ω) (SubHp.skip (HN _ Ω) (SubHp.skip (HN _ Ω) (SubHp.refl _))))⟩
      ·rw[if_neg hs]at x2
       have hs2:=decide_eq_false (Ω:¬((to:Nat):Int)=(start:Nat));repeat' first|refine sD ?_ ?_<;>intro _|refine aAd ?_|simp -dsimp only[↓RP,RQ,seval,hk1,hrk,hrt,hb2,hs2,c2,↓RY,NB,QS,QT,qP,QN]|exact Ωb|fail
       refine ZM (qJ ?_);(repeat' first|refine sD ?_ ?_<;>intro _|refine aAd ?_|simp -dsimp only[↓RP,RQ,seval,hdr2,hk1,hrk,hrt,hb2,hs2,c2,↓RY,NB,QS,QT,qP,QN]);refine qJ ?_;(repeat' first|refine sD ?_ ?_<;>intro _|refine aAd ?_|simp -dsimp only[↓RP,RQ,seval,hdr2,hk1,hrk,hrt,hb2,hs2,c2,↓RY,NB,QS,QT,qP,QN]);refine qJ ?_;(repeat' first|refine sD ?_ ?_<;>intro _|refine aAd ?_|simp -dsimp only[↓RP,RQ,seval,hdr2,hk1,hrk,hrt,hb2,hs2,c2,↓RY,NB,QS,QT,qP,QN]);refine gZ rfl (qhm (id:=wid1) (off:=off1) (n:=wait1.length) (n':=off1+wait1.length) (m:=1) (k:=1) (e:=3) (row:=J1) (row2:=λi j=>[SV.val (.int .i64 (to:Nat))].getD (i+j) SV.top) (obl2:=1≤1∧1=1) Y7 ty3 rfl Ω rfl rfl (by show rowsOf _ (SV.vec (n3+25) 1 1)=_;simp[rowsOf,blk]) (by exact⟨xa5 _,rfl⟩) (by exact one1 _) Ωs (xa5 _) Ω Ω (by rw[by3];omega) Ωg ?_ ?_)
       ·refine qJ ?_
        repeat' first|refine sD ?_ ?_<;>intro _|refine aAd ?_|simp -dsimp only[↓RP,RQ,seval,gG,hdr2,hk1,hrk,hrt,hb2,hs2,c2,↓RY,NB,QS,QT,qP,QN]|exact Ωb|fail
        have hRI:RI N L start i c n1 n2 rest.length R3 (k+1) (setN by1 to (1+i*5+k)) (λa b=>if a=to∧b=0 then SV.val (.int .i64 (1+(i:Int)*5+(k:Int)))else byr1 a b) (wait1++[to]) (n3+26) off1 (λi j=>if i<off1+wait1.length then J1 i j else [SV.val (.int .i64 (to:Nat))].getD (i -(off1+wait1.length)+j) SV.top):=by
         refine⟨hkl,x2,λx hx=>?_,λx hx=>?_,λx hx=>?_,λy hy=>?_,Ω,by rw[xc8,xd1];omega,Ω,Ω⟩
         ·by_cases e:x=to
          ·rw[if_pos ⟨e,rfl⟩];unfold setN;rw[if_pos e];congr 2
          ·rw[if_neg (λe2=>e e2.1)];unfold setN;rw[if_neg e];exact x3 x hx
         ·unfold setN;split
          ·omega
          ·exact x4 x hx
         ·rcases List.mem_append.1 hx with h1|h1
          ·exact x5 x h1
          ·rw[List.mem_singleton.1 h1];exact htoN
         ·rw[xc8,xd1]at hy
          show(if off1+y<off1+wait1.length then J1 (off1+y) 0 else [SV.val (.int .i64 (to:Nat))].getD (off1+y -(off1+wait1.length)+0) SV.top)=_;by_cases hc:y<wait1.length
          ·rw[if_pos Ω,x6 y hc,xc6,xc6,xc9 hc]
          ·obtain rfl:y=wait1.length:=by omega
           rw[if_neg Ω,xb8,xc6 (l:=wait1++[to]),xd0 (xa5 _),xb8];rfl
        refine⟨(k+1,setN by1 to (1+i*5+k),_,wait1++[to],n3+26,off1,_),hRI,Ωg,qj Ωg Ωc ?_⟩;dsimp only;rw[xc8,xd1];exact SubHp.cons (SubHp.skip (show blk ((n1+8,_) :: H2) (n3+25)=none by simp only[blk];rw[if_neg Ω];exact hC.und.none Ω) (SubHp.refl _))
       ·refine qJ ?_
        repeat' first|refine sD ?_ ?_<;>intro _|refine aAd ?_|simp -dsimp only[↓RP,RQ,seval,gG,hdr2,hk1,hrk,hrt,hb2,hs2,c2,↓RY,NB,QS,QT,qP,QN]|exact Ωb|fail
        have hRI:RI N L start i c n1 n2 rest.length R3 (k+1) (setN by1 to (1+i*5+k)) (λa b=>if a=to∧b=0 then SV.val (.int .i64 (1+(i:Int)*5+(k:Int)))else byr1 a b) (wait1++[to]) (n3+26) 0 (λi j=>if i<wait1.length then J1 (off1+i) j else [SV.val (.int .i64 (to:Nat))].getD (i - wait1.length+j) SV.top):=by
         refine⟨hkl,x2,λx hx=>?_,λx hx=>?_,λx hx=>?_,λy hy=>?_,Ω,by rw[xc8,xd1];omega,Ω,Ω⟩
         ·by_cases e:x=to
          ·rw[if_pos ⟨e,rfl⟩];unfold setN;rw[if_pos e];congr 2
          ·rw[if_neg (λe2=>e e2.1)];unfold setN;rw[if_neg e];exact x3 x hx
         ·unfold setN;split
          ·omega
          ·exact x4 x hx
         ·rcases List.mem_append.1 hx with h1|h1
          ·exact x5 x h1
          ·rw[List.mem_singleton.1 h1];exact htoN
         ·rw[xc8,xd1]at hy
          show(if 0+y<wait1.length then J1 (off1+(0+y)) 0 else [SV.val (.int .i64 (to:Nat))].getD (0+y - wait1.length+0) SV.top)=_;rw[xb0];by_cases hc:y<wait1.length
          ·rw[if_pos Ω,x6 y hc,xc6,xc6,xc9 hc]
          ·obtain rfl:y=wait1.length:=by omega
           rw[if_neg Ω,xb8,xc6 (l:=wait1++[to]),xd0 (xa5 _),xb8];rfl
        refine⟨(k+1,setN by1 to (1+i*5+k),_,wait1++[to],n3+26,0,_),hRI,Ωg,qj Ωg Ωc ?_⟩;dsimp only;rw[xc8,xd1,xb0];exact SubHp.cons (SubHp.skip (show blk ((n1+8,_) :: H2) (n3+25)=none by simp only[blk];rw[if_neg Ω];exact hC.und.none Ω) (SubHp.refl _))
    ·have hk1:=decide_eq_false (Ω:¬((k:Nat):Int)<((L i).length:Nat))
     rw[List.drop_eq_nil_of_le Ω]at x2;simp only[ke]at x2;subst x2;simp only[xe7,if_false]at y2;repeat' first|refine sD ?_ ?_<;>intro _|refine aAd ?_|simp -dsimp only[↓RP,RQ,seval,hk1,↓RY,NB,QS,QT,qP,QN]|exact Ωb|fail
     have hQ:QI N L start fb n1 Rb f (c+1) by1 byr1 wait1 wid1 off1 J1:=⟨Ω,y2,x3,x4,x5,x6,x7,Ω,x9,Ω⟩;exact⟨(f,c+1,by1,byr1,wait1,wid1,off1,J1),hQ,Ωg,qj Ωg Ωc (SubHp.refl _)⟩
 ·have hlt1:=decide_eq_false (Ω:¬((start:Nat):Int)<(N:Nat))
  have e0:start=N:=by omega
  rw[e0,xb8]at z2;simp only[G6]at z2;have z2:=Option.some.inj z2;subst z2;repeat' first|refine sD ?_ ?_<;>intro _|refine aAd ?_|simp -dsimp only[↓RP,RQ,seval,hlt1,↓RY,NB,QS,QT,qP,QN]|exact Ωb|fail
  rw[e0]at hn1;exact⟨_,_,_,qj (xa5 _) (fr':=[(0,_)]) ⟨.inr rfl,trivial⟩ (SubHp.refl _),Ω,bid,br,λhh=>by have:=z4 hh;omega,z3,rfl,rfl⟩
end Go.Tn
end
section
namespace Go.Tn
open Go.Proofs
open Go.Sx
def Wl:List Nat→(Nat→Nat)→List Nat→(Nat→Nat)×List Nat
 |[],seen,wait=>(seen,wait)
 |to :: l,seen,wait=>if seen to=0 then Wl l (setN seen to 1) (wait++[to])else Wl l seen wait
def Vc(L:Nat→List Nat):Nat→(Nat→Nat)→List Nat→List Nat→Option (List Nat)
 |0,_,_,_=>none
 |_+1,_,[],out=>some out
 |f+1,seen,i :: wait,out=>Vc L f (Wl (L i) seen wait).1 (Wl (L i) seen wait).2 (out++[i])
theorem Wm{O:Ctx}{fr:List (Nat×SV)}{hp:List (Nat×Blk)}{nid d k:Nat}{t:TypeId}(row:Nat→Nat→SV)(h:Go.Sx.look fr d=.val (.slice none 0 0)):Weak O ⟨fr,hp,nid⟩ ⟨putFr fr d (.vec nid 0 k),(nid,.rows t k 0 row) :: hp,nid+1⟩:=λbase okc ns outs a w ⟨r,h'⟩=>by
 obtain⟨r',hst,hrep⟩:=wP h'.sat nid (xb4 _) none (hp':=(nid,.rows t k 0 row) :: hp) (e:=t) (k:=k) (row:=row) ΩW (λj hj _=>by simp only[blk];rw[if_neg (Nat.ne_of_lt hj)]) (λo ho=>by cases ho);rw[gt]at hst hrep;have h2:=(h'.step hst (λi x hx=>by
  simp only[blk]at hx;split at hx
  ·rename_i e;rw[e];exact xb5 _
  ·exact Nat.lt_succ_of_lt (h'.keys i x hx)) (xc4 _) (d:=none) (λt ht=>by cases ht) (.val undef)).nid (nid+1)
 refine⟨r',h2.sat,h2.keys,λi=>?_,h2.size,h2.lo,h2.out,h2.rfix,h2.defers⟩;show Rep _ _ _ _ (Go.Sx.look (putFr fr d _) i) _;rw[zh];split
 ·rename_i e
  have hv:=h'.fr d;rw[show(⟨fr,hp,nid⟩:St).fr=fr from rfl,h]at hv;rw[e];generalize a.tmps.getD d undef=v at hv ⊢;cases hv;exact hrep
 ·exact h2.fr i
def qnp(l:List Nat)(srow r:Nat→Nat→SV):Prop:=∀k,k<l.length→∀j,j<5→r k j=srow (l.getD k 0) j
theorem one5(a b c d e:Int):oneRows 1 5 (λi j=>[SV.val (.int .i64 a),SV.val (.int .i64 b),SV.val (.int .i64 c),SV.val (.int .i64 d),SV.val (.int .i64 e)].getD (i*5+j) SV.top):=λi j hi hj=>by
 obtain rfl:i=0:=by omega
 have:j=0∨j=1∨j=2∨j=3∨j=4:=by omega
 rcases this with rfl|rfl|rfl|rfl|rfl<;>rfl
structure QJ(N:Nat)(L:Nat→List Nat)(fu n1 lo:Nat)(srow:Nat→Nat→SV)(res0:List Nat)(f c:Nat)(seen:Nat→Nat)(byr:Nat→Nat→SV)(wait:List Nat)(wid off:Nat)(J:Nat→Nat→SV)(outL:List Nat)(oid:Nat)(r:Nat→Nat→SV):Prop where
 fu:f+c=fu
 run:Vc L f seen wait outL=some res0
 row:∀x,x<N→byr x 0=.val (.int .i64 (seen x:Nat))
 le:∀x,x<N→seen x≤1
 lt:∀x,x∈wait→x<N
 J:∀i,i<wait.length→J (off+i) 0=.val (.int .i64 (wait.getD i 0:Nat))
 off:off≤c
 len:wait.length≤1+5*c
 w1:lo≤wid
 w2:wid<n1+450*c
 out:qnp outL srow r
 ol:outL.length≤c
 o1:lo≤oid
 o2:oid<n1+450*c
 o3:wid≠oid
structure RJ(N:Nat)(L:Nat→List Nat)(i c n1 n2 lo nr:Nat)(R3:(Nat→Nat)×List Nat)(oid k:Nat)(seen:Nat→Nat)(byr:Nat→Nat→SV)(wait:List Nat)(wid off:Nat)(J:Nat→Nat→SV):Prop where
 kl:k≤(L i).length
 run:Wl ((L i).drop k) seen wait=R3
 row:∀x,x<N→byr x 0=.val (.int .i64 (seen x:Nat))
 le:∀x,x<N→seen x≤1
 lt:∀x,x∈wait→x<N
 J:∀i,i<wait.length→J (off+i) 0=.val (.int .i64 (wait.getD i 0:Nat))
 off:off≤c+1
 len:wait.length≤nr+k
 w1:lo≤wid
 w2:wid<n2+60*k
 o3:wid≠oid
theorem qpC(N:Nat)(L:Nat→List Nat)(nx:Nat→Nat→SV)(H:List (Nat×Blk))(id tb xid sid:Nat)(A R M:SV)(s:Nat→Int)(srow:Nat→Nat→SV)(i0 fu:Nat)(res0:List Nat)(h:Cl N L nx H id tb xid A R M sid)(hfu:fu≤100000)
  (hsr:blk H sid=some (.rows 140 5 N srow)) (hsi:∀i,i<N→∀j,j<5→∃x:Int,srow i j=.val (.int .i64 x)) (hix:∀sd:Nat→Nat→SV,EffVC Tryz.prog 162 [.ptr tb 0,.agg (stL s)] ((id+7,.rows 3 1 N sd) ::(id,.cells 140 (stL s)) :: H) (id+11) (λhp' nid' res=>hp'=((id+7,.rows 3 1 N sd) ::(id,.cells 140 (stL s)) :: H)∧nid'=id+11+200∧res=I (i0:Nat)))
  (hi0N:i0<N) (hF:Vc L fu (setN (λ_=>0) i0 1) [i0] []=some res0) :
  EffVC Tryz.prog 262 [.ptr tb 0,.agg (stL s)] H id (λhp' nid' res=>nid'≤id+400+450*fu∧∃oid r,id≤oid∧oid<nid'∧qnp res0 srow r∧hp'=(oid,.rows 140 5 res0.length r) :: H∧res=.vec oid res0.length 5):=by
 refine yD (zO [(14,[(0,0)])]) follows Tryz.func262 rfl Ωa Ωa (by rw[Tryz.ntmps262];simp) λout=>?_;have hN5:=h.N5;have htb:=h.und _ _ h.tb;have hxid:=h.und _ _ h.xid;have hsid:=h.und _ _ hsr;have NB:=(⟨nmA htb,nmA hxid,nmA hsid⟩:_∧_∧_);repeat' first|refine sD ?_ ?_<;>intro _|refine aAe ?_|simp -dsimp only[↓RP,RQ,seval,h.tb,qdr,YQ,↓RY,NB,QS,QT,qP,QN]|exact Ωb|fail
 refine j5 Ωq (hix _) λhp' nid' res hQ=>?_;obtain⟨rfl,rfl,rfl⟩:=hQ;repeat' first|refine sD ?_ ?_<;>intro _|refine aAe ?_|simp -dsimp only[↓RP,RQ,seval,h.tb,qdr,YQ,↓RY,NB,QS,QT,qP,QN]|exact Ωb|fail
 obtain⟨n1,hn1⟩:∃n1,n1=id+300:=⟨_,rfl⟩;have hB:∀x,x<N→(if x=i0∧0=0 then SV.val (.int .i64 1)else SV.val ([Value.int .i64 0].getD 0 undef))=.val (.int .i64 (setN (λ_=>0) i0 1 x:Nat)):=λx hx=>by
  unfold setN;by_cases e:x=i0
  ·rw[if_pos ⟨e,rfl⟩,if_pos e];rfl
  ·rw[if_neg (λq=>e q.1),if_neg e];rfl
 refine qo (λ(z:Nat×Nat×(Nat→Nat)×(Nat→Nat→SV)×List Nat×Nat×Nat×(Nat→Nat→SV)×List Nat×Nat×(Nat→Nat→SV))=>QJ N L fu n1 (id+8) srow res0 z.1 z.2.1 z.2.2.1 z.2.2.2.1 z.2.2.2.2.1 z.2.2.2.2.2.1 z.2.2.2.2.2.2.1 z.2.2.2.2.2.2.2.1 z.2.2.2.2.2.2.2.2.1 z.2.2.2.2.2.2.2.2.2.1 z.2.2.2.2.2.2.2.2.2.2) (λz=>⟨[(0,.ptr tb 0),(5,.vec (id+7) N 1),(6,.que z.2.2.2.2.2.1 (z.2.2.2.2.2.2.1) (z.2.2.2.2.1.length) 1),(7,.vec z.2.2.2.2.2.2.2.2.2.1 (z.2.2.2.2.2.2.2.2.1.length) 5)],(z.2.2.2.2.2.1,.rows 3 1 (z.2.2.2.2.2.2.1+z.2.2.2.2.1.length) z.2.2.2.2.2.2.2.1) ::(id+7,.rows 3 1 N z.2.2.2.1) ::(z.2.2.2.2.2.2.2.2.2.1,.rows 140 5 z.2.2.2.2.2.2.2.2.1.length z.2.2.2.2.2.2.2.2.2.2) :: H,n1+450*z.2.1⟩) (λz=>z.1) (fu,0,setN (λ_=>0) i0 1,λa b=>if a=i0∧b=0 then SV.val (.int .i64 1)else SV.val ([Value.int .i64 0].getD b undef),[i0],id+214,0,λi j=>[SV.val (.int .i64 (i0:Nat))].getD (i+j) SV.top,[],id+223,λ_ _=>.top) ⟨rfl,hF,hB,λx hx=>(by show(if x=i0 then 1 else 0)≤1;split<;>omega),λx hx=>(by rw[List.mem_singleton.1 hx];exact hi0N),λi hi=>(by have hi:i<1:=hi;obtain rfl:i=0:=Ω;rfl),xa5 _,Ωi,Ωg,Ωg,λk hk=>(by cases hk),xa5 _,Ωg,Ωg,Ωg⟩ (Weak.trans (qji (d:=6) rfl) (Weak.trans (Wm (t:=140) (k:=5) (d:=7) (λ_ _=>.top) rfl) (qj Ωg (by simp[qI,Go.Sx.look,putFr]) ?hA5))) λz hz=>?_
 case hA5=>(intro q v hv;simp only[blk]at hv ⊢;((repeat' split at hv)<;>(repeat' split)<;>first|exact hv|(exfalso;omega)|(exfalso;have:=h.und _ _ hv;omega)))
 obtain⟨f,c,seen,byr,wait,wid,off,J,outL,oid,orw⟩:=z;have hz':QJ N L fu n1 (id+8) srow res0 f c seen byr wait wid off J outL oid orw:=hz;obtain⟨y1,y2,y3,y4,y5,y6,y7,y8,y9,y10,y11,y12,y13,y14,y15⟩:=hz';dsimp only;cases f with
 |zero=>cases y2
 |succ f=>
 obtain⟨n2,hn2⟩:∃n2,n2=n1+450*c:=⟨_,rfl⟩;rw[←hn2]at y10 y14 ⊢;clear NB;have NB:=(⟨nmA (Ω:tb<n2),nmA (Ω:xid<n2),nmA (Ω:sid<n2),nmA y10,nmA y14,nmE (Ω:wid≠tb),nmE (Ω:wid≠xid),nmE (Ω:wid≠sid),nmE (Ω:wid≠id+7),nmE y15,nmE (Ω:oid≠tb),nmE (Ω:oid≠xid),nmE (Ω:oid≠sid),nmE (Ω:oid≠id+7),nmA htb,nmA hxid,nmA hsid,nmA (Ω:id+7<n2)⟩:_∧_∧_∧_∧_∧_∧_∧_∧_∧_∧_∧_∧_∧_∧_∧_∧_∧_);have hdr0:dropBlk H oid=H:=kI (h.und.none Ω);cases wait with
 |nil=>
  simp only[Vc]at y2;have y2:=Option.some.inj y2;subst y2;repeat' first|refine sD ?_ ?_<;>intro _|refine aAe ?_|simp -dsimp only[↓RP,RQ,seval,h.tb,↓RY,NB,QS,QT,qP,QN]|exact Ωb|fail
  refine⟨_,_,_,qj (xa5 _) (fr':=[(0,_)]) ⟨.inr rfl,trivial⟩ ?hSb,Ω,oid,orw,Ω,Ω,y11,rfl,rfl⟩
  case hSb=>(intro q v hv;simp only[blk]at hv ⊢;((repeat' split at hv)<;>(repeat' split)<;>first|exact hv|(exfalso;omega)|(exfalso;have:=h.und _ _ hv;omega)))
 |cons i rest=>
  have hi:i<N:=y5 i xd5;have hgt:=decide_eq_true (Ω:(0:Int)<((rest.length+1:Nat):Int));have hJ0:=y6 0 Ωi;rw[xb1]at hJ0;have hJ1:J off 0=SV.val (.int .i64 (i:Nat)):=hJ0;rw[xe4]at y8;have hql:((rest.length+1:Nat):Int) - 1=((rest.length:Nat):Int):=by omega
  obtain⟨x0,e0⟩:=hsi i hi 0 Ω;obtain⟨x1,e1⟩:=hsi i hi 1 Ω;obtain⟨x2,e2⟩:=hsi i hi 2 Ω;obtain⟨x3,e3⟩:=hsi i hi 3 Ω;obtain⟨x4,e4⟩:=hsi i hi 4 Ω;simp only[Vc]at y2;have hor:qnp (outL++[i]) srow (λa b=>if a<outL.length then orw a b else [SV.val (.int .i64 x0),SV.val (.int .i64 x1),SV.val (.int .i64 x2),SV.val (.int .i64 x3),SV.val (.int .i64 x4)].getD ((a - outL.length)*5+b) SV.top):=λa ha b hb=>by
   rw[xc8,xd1]at ha;by_cases hc:a<outL.length
   ·show(if a<outL.length then orw a b else _)=_
    rw[if_pos hc,y11 a hc b hb,xc6,xc6,xc9 hc]
   ·obtain rfl:a=outL.length:=by omega
    show(if outL.length<outL.length then orw outL.length b else [SV.val (.int .i64 x0),SV.val (.int .i64 x1),SV.val (.int .i64 x2),SV.val (.int .i64 x3),SV.val (.int .i64 x4)].getD ((outL.length - outL.length)*5+b) SV.top)=_;rw[if_neg Ω,xc6 (l:=outL++[i]),xd0 (xa5 _),xb8];have:b=0∨b=1∨b=2∨b=3∨b=4:=by omega
    rcases this with rfl|rfl|rfl|rfl|rfl
    ·exact e0.symm
    ·exact e1.symm
    ·exact e2.symm
    ·exact e3.symm
    ·exact e4.symm
  obtain⟨or2,hor2⟩:∃or2,or2=(λa b=>if a<outL.length then orw a b else [SV.val (.int .i64 x0),SV.val (.int .i64 x1),SV.val (.int .i64 x2),SV.val (.int .i64 x3),SV.val (.int .i64 x4)].getD ((a - outL.length)*5+b) SV.top):=⟨_,rfl⟩;rw[←hor2]at hor;have hl5:=h.l5 i hi;rcases h.nx i hi with⟨c1,c2⟩|⟨xi,r,c1,c2,c3⟩
  ·rw[c1]at y2
   simp only[Wl]at y2;repeat' first|refine sD ?_ ?_<;>intro _|refine aAe ?_|simp -dsimp only[↓RP,RQ,seval,c2,hgt,hql,h.tb,h.xid,hsr,hJ1,e0,e1,e2,e3,e4,hdr0,qlX,↓RY,NB,QS,QT,qP,QN]|exact Ωb|fail
   refine qo (λ(z:Unit)=>True) (λ_=>⟨[(0,.ptr tb 0),(5,.vec (id+7) N 1),(6,.que wid (off+1) (rest.length) 1),(7,.vec (n2+19) (outL.length+1) 5)]++[(51,.val (.int .i64 0)),(52,.val (.int .i64 0))],(wid,.rows 3 1 (off+1+rest.length) J) ::(id+7,.rows 3 1 N byr) ::(n2+19,.rows 140 5 (outL.length+1) or2) :: H,n2+100⟩) (λ_=>0) () trivial (qj Ω Ωc ?hSa) λz hz=>?_
   case hSa=>rw[hor2,show off+1+rest.length=off+(rest.length+1) by omega];(intro q v hv;simp only[blk]at hv ⊢;((repeat' split at hv)<;>(repeat' split)<;>first|exact hv|(exfalso;omega)|(exfalso;have:=h.und _ _ hv;omega)))
   repeat' first|refine sD ?_ ?_<;>intro _|refine aAe ?_|simp -dsimp only[↓RP,RQ,seval,↓RY,NB,QS,QT,qP,QN]|exact Ωb|fail
   have hq:QJ N L fu n1 (id+8) srow res0 f (c+1) seen byr rest wid (off+1) J (outL++[i]) (n2+19) or2:=⟨Ω,y2,y3,y4,λx hx=>y5 x (List.mem_cons_of_mem _ hx),λi hi=>by
    have:=y6 (i+1) Ωl;rw[show off+1+i=off+(i+1) by omega,this];rfl,Ω,Ω,y9,Ω,hor,by rw[xc8,xd1];omega,Ω,Ω,Ω⟩
   exact⟨(f,c+1,seen,byr,rest,wid,off+1,J,outL++[i],n2+19,or2),hq,Ωg,qj Ωg Ωc (by dsimp only;rw[xc8,xd1,show off+1+rest.length=off+(1+rest.length) by omega];exact SubHp.refl _)⟩
  ·have hxi:=h.und _ _ c2
   have NX:=(⟨nmA (Ω:xi<n2),nmE (Ω:xi≠wid),nmE (Ω:xi≠oid),nmA hxi⟩:_∧_∧_∧_);obtain⟨R3,hR3⟩:∃R3,R3=Wl (L i) seen rest:=⟨_,rfl⟩;rw[←hR3]at y2;repeat' first|refine sD ?_ ?_<;>intro _|refine aAe ?_|simp -dsimp only[↓RP,RQ,seval,c1,hgt,hql,h.tb,h.xid,hsr,hJ1,e0,e1,e2,e3,e4,hdr0,qlX,↓RY,NB,QS,QT,qP,QN]|exact Ωb|fail
   refine qo (λ(z:Nat×(Nat→Nat)×(Nat→Nat→SV)×List Nat×Nat×Nat×(Nat→Nat→SV))=>RJ N L i c n1 (n2+40) (id+8) rest.length R3 (n2+19) z.1 z.2.1 z.2.2.1 z.2.2.2.1 z.2.2.2.2.1 z.2.2.2.2.2.1 z.2.2.2.2.2.2) (λz=>⟨[(0,.ptr tb 0),(5,.vec (id+7) N 1),(6,.que z.2.2.2.2.1 (z.2.2.2.2.2.1) (z.2.2.2.1.length) 1),(7,.vec (n2+19) (outL.length+1) 5)]++[(50,.vec xi (L i).length 1),(51,.val (.int .i64 ((L i).length:Nat))),(52,.val (.int .i64 (z.1:Nat)))],(z.2.2.2.2.1,.rows 3 1 (z.2.2.2.2.2.1+z.2.2.2.1.length) z.2.2.2.2.2.2) ::(id+7,.rows 3 1 N z.2.2.1) ::(n2+19,.rows 140 5 (outL.length+1) or2) :: H,n2+40+60*z.1⟩) (λz=>(L i).length - z.1) (0,seen,byr,rest,wid,off+1,J) (by
     have:RJ N L i c n1 (n2+40) (id+8) rest.length R3 (n2+19) 0 seen byr rest wid (off+1) J:=⟨xb6 _,hR3.symm,y3,y4,λx hx=>y5 x (List.mem_cons_of_mem _ hx),λi hi=>by
      have:=y6 (i+1) Ωl;rw[show off+1+i=off+(i+1) by omega,this];rfl,Ω,Ω,y9,Ω,Ω⟩
     exact this) (qj Ωg Ωc ?hSc) λz hz=>?_
   case hSc=>dsimp only;rw[hor2,show off+1+rest.length=off+(rest.length+1) by omega];(intro q v hv;simp only[blk]at hv ⊢;((repeat' split at hv)<;>(repeat' split)<;>first|exact hv|(exfalso;omega)|(exfalso;have:=h.und _ _ hv;omega)))
   obtain⟨k,seen1,byr1,wait1,wid1,off1,J1⟩:=z;have hz':RJ N L i c n1 (n2+40) (id+8) rest.length R3 (n2+19) k seen1 byr1 wait1 wid1 off1 J1:=hz;obtain⟨v1,v2,v3,v4,v5,v6,v7,v8,v9,v10,v11⟩:=hz';dsimp only;obtain⟨n3,hn3⟩:∃n3,n3=n2+40+60*k:=⟨_,rfl⟩;rw[←hn3]at v10 ⊢;clear NB NX;have NB:=(⟨nmA (Ω:tb<n3),nmA (Ω:xid<n3),nmA v10,nmE (Ω:wid1≠tb),nmE (Ω:wid1≠xid),nmE (Ω:wid1≠id+7),nmE v11,nmA htb,nmA hxid,nmA (Ω:id+7<n3),nmA (Ω:xi<n3),nmE (Ω:xi≠wid1),nmA hxi,nmA (Ω:n2+19<n3),nmA (Ω:xi<n2),nmA (Ω:id+7<n2)⟩:_∧_∧_∧_∧_∧_∧_∧_∧_∧_∧_∧_∧_∧_∧_∧_);by_cases hkl:k<(L i).length
   ·have hk1:=decide_eq_true (Ω:((k:Nat):Int)<((L i).length:Nat))
    have hdr2:dropBlk H wid1=H:=kI (h.und.none Ω);obtain⟨to,hto⟩:∃to,to=(L i).getD k 0:=⟨_,rfl⟩;have hgi:(L i)[k]? = some to:=by rw[hto,xc6,xc7 hkl];rfl
    have htoN:to<N:=h.inn i hi to (List.mem_of_getElem? hgi);have hdr:(L i).drop k=to ::(L i).drop (k+1):=by
     rw[List.drop_eq_getElem_cons hkl];rw[xc7 hkl]at hgi;rw[Option.some.inj hgi]
    rw[hdr]at v2;simp only[Wl]at v2;have hrk:=c3 k hkl;rw[←hto]at hrk;have hrt:=v3 to htoN;have hle:=v4 to htoN;by_cases hb1:seen1 to=0
    ·rw[if_pos hb1]at v2
     have hb2:=decide_eq_true (Ω:((seen1 to:Nat):Int)=0);repeat' first|refine sD ?_ ?_<;>intro _|refine aAe ?_|simp -dsimp only[↓RP,RQ,seval,hk1,hrk,hrt,hb2,c2,↓RY,NB,QS,QT,qP,QN]|exact Ωb|fail
     refine ZM (qJ ?_);(repeat' first|refine sD ?_ ?_<;>intro _|refine aAe ?_|simp -dsimp only[↓RP,RQ,seval,hdr0,hdr2,hk1,hrk,hrt,hb2,c2,↓RY,NB,QS,QT,qP,QN]);refine qJ ?_;(repeat' first|refine sD ?_ ?_<;>intro _|refine aAe ?_|simp -dsimp only[↓RP,RQ,seval,hdr0,hdr2,hk1,hrk,hrt,hb2,c2,↓RY,NB,QS,QT,qP,QN]);refine qJ ?_;(repeat' first|refine sD ?_ ?_<;>intro _|refine aAe ?_|simp -dsimp only[↓RP,RQ,seval,hdr0,hdr2,hk1,hrk,hrt,hb2,c2,↓RY,NB,QS,QT,qP,QN]);refine gZ rfl (qhm (id:=wid1) (off:=off1) (n:=wait1.length) (n':=off1+wait1.length) (m:=1) (k:=1) (e:=3) (row:=J1) (row2:=λi j=>[SV.val (.int .i64 (to:Nat))].getD (i+j) SV.top) (obl2:=1≤1∧1=1) Y7 ty3 rfl Ω rfl rfl (by show rowsOf _ (SV.vec (n3+15) 1 1)=_;simp[rowsOf,blk]) (by exact⟨xa5 _,rfl⟩) (by exact one1 _) Ωs (xa5 _) Ω Ω (by rw[by3];omega) Ωg ?_ ?_)
     ·refine qJ ?_
      repeat' first|refine sD ?_ ?_<;>intro _|refine aAe ?_|simp -dsimp only[↓RP,RQ,seval,gG,hdr0,hdr2,hk1,hrk,hrt,hb2,c2,↓RY,NB,QS,QT,qP,QN]|exact Ωb|fail
      have hRI:RJ N L i c n1 (n2+40) (id+8) rest.length R3 (n2+19) (k+1) (setN seen1 to 1) (λa b=>if a=to∧b=0 then SV.val (.int .i64 1)else byr1 a b) (wait1++[to]) (n3+16) off1 (λi j=>if i<off1+wait1.length then J1 i j else [SV.val (.int .i64 (to:Nat))].getD (i -(off1+wait1.length)+j) SV.top):=by
       refine⟨hkl,v2,λx hx=>?_,λx hx=>?_,λx hx=>?_,λy hy=>?_,Ω,by rw[xc8,xd1];omega,Ω,Ω,Ω⟩
       ·by_cases e:x=to
        ·rw[if_pos ⟨e,rfl⟩];unfold setN;rw[if_pos e];rfl
        ·rw[if_neg (λe2=>e e2.1)];unfold setN;rw[if_neg e];exact v3 x hx
       ·unfold setN;split
        ·omega
        ·exact v4 x hx
       ·rcases List.mem_append.1 hx with h1|h1
        ·exact v5 x h1
        ·rw[List.mem_singleton.1 h1];exact htoN
       ·rw[xc8,xd1]at hy
        show(if off1+y<off1+wait1.length then J1 (off1+y) 0 else [SV.val (.int .i64 (to:Nat))].getD (off1+y -(off1+wait1.length)+0) SV.top)=_
        skip
        by_cases hc:y<wait1.length
        ·rw[if_pos Ω,v6 y hc,xc6,xc6,xc9 hc]
        ·obtain rfl:y=wait1.length:=by omega
         rw[if_neg Ω,xb8,xc6 (l:=wait1++[to]),xd0 (xa5 _),xb8];rfl
      refine⟨(k+1,setN seen1 to 1,_,wait1++[to],n3+16,off1,_),hRI,Ωg,qj Ωg Ωc ?_⟩;dsimp only;rw[xc8,xd1];exact SubHp.cons (SubHp.skip (show blk ((id+7,_) ::(n2+19,_) :: H) (n3+15)=none by simp only[blk];rw[if_neg Ω,if_neg Ω];exact h.und.none Ω) (SubHp.refl _))
     ·refine qJ ?_
      repeat' first|refine sD ?_ ?_<;>intro _|refine aAe ?_|simp -dsimp only[↓RP,RQ,seval,gG,hdr0,hdr2,hk1,hrk,hrt,hb2,c2,↓RY,NB,QS,QT,qP,QN]|exact Ωb|fail
      have hRI:RJ N L i c n1 (n2+40) (id+8) rest.length R3 (n2+19) (k+1) (setN seen1 to 1) (λa b=>if a=to∧b=0 then SV.val (.int .i64 1)else byr1 a b) (wait1++[to]) (n3+16) 0 (λi j=>if i<wait1.length then J1 (off1+i) j else [SV.val (.int .i64 (to:Nat))].getD (i - wait1.length+j) SV.top):=by
       refine⟨hkl,v2,λx hx=>?_,λx hx=>?_,λx hx=>?_,λy hy=>?_,Ω,by rw[xc8,xd1];omega,Ω,Ω,Ω⟩
       ·by_cases e:x=to
        ·rw[if_pos ⟨e,rfl⟩];unfold setN;rw[if_pos e];rfl
        ·rw[if_neg (λe2=>e e2.1)];unfold setN;rw[if_neg e];exact v3 x hx
       ·unfold setN;split
        ·omega
        ·exact v4 x hx
       ·rcases List.mem_append.1 hx with h1|h1
        ·exact v5 x h1
        ·rw[List.mem_singleton.1 h1];exact htoN
       ·rw[xc8,xd1]at hy
        show(if 0+y<wait1.length then J1 (off1+(0+y)) 0 else [SV.val (.int .i64 (to:Nat))].getD (0+y - wait1.length+0) SV.top)=_;rw[xb0];by_cases hc:y<wait1.length
        ·rw[if_pos Ω,v6 y hc,xc6,xc6,xc9 hc]
        ·obtain rfl:y=wait1.length:=by omega
         rw[if_neg Ω,xb8,xc6 (l:=wait1++[to]),xd0 (xa5 _),xb8];rfl
      refine⟨(k+1,setN seen1 to 1,_,wait1++[to],n3+16,0,_),hRI,Ωg,qj Ωg Ωc ?_⟩;dsimp only;rw[xc8,xd1,xb0];exact SubHp.cons (SubHp.skip (show blk ((id+7,_) ::(n2+19,_) :: H) (n3+15)=none by simp only[blk];rw[if_neg Ω,if_neg Ω];exact h.und.none Ω) (SubHp.refl _))
    ·rw[if_neg hb1]at v2
     have hb2:=decide_eq_false (Ω:¬((seen1 to:Nat):Int)=0);repeat' first|refine sD ?_ ?_<;>intro _|refine aAe ?_|simp -dsimp only[↓RP,RQ,seval,hk1,hrk,hrt,hb2,c2,↓RY,NB,QS,QT,qP,QN]|exact Ωb|fail
     have hRI:RJ N L i c n1 (n2+40) (id+8) rest.length R3 (n2+19) (k+1) seen1 byr1 wait1 wid1 off1 J1:=⟨hkl,v2,v3,v4,v5,v6,v7,Ω,v9,Ω,v11⟩;exact⟨(k+1,seen1,byr1,wait1,wid1,off1,J1),hRI,Ωg,qj Ωg Ωc (SubHp.refl _)⟩
   ·have hk1:=decide_eq_false (Ω:¬((k:Nat):Int)<((L i).length:Nat))
    rw[List.drop_eq_nil_of_le Ω]at v2;simp only[Wl]at v2;subst v2;repeat' first|refine sD ?_ ?_<;>intro _|refine aAe ?_|simp -dsimp only[↓RP,RQ,seval,hk1,↓RY,NB,QS,QT,qP,QN]|exact Ωb|fail
    have hq:QJ N L fu n1 (id+8) srow res0 f (c+1) seen1 byr1 wait1 wid1 off1 J1 (outL++[i]) (n2+19) or2:=⟨Ω,y2,v3,v4,v5,v6,v7,Ω,v9,Ω,hor,by rw[xc8,xd1];omega,Ω,Ω,v11⟩;exact⟨(f,c+1,seen1,byr1,wait1,wid1,off1,J1,outL++[i],n2+19,or2),hq,Ωg,qj Ωg Ωc (by dsimp only;rw[xc8,xd1];exact SubHp.refl _)⟩
theorem qpD{H:List (Nat×Blk)}{id tb tix m N i0:Nat}{u s:Nat→Int}{tr:Nat→Nat→SV}{Z1 Z2 R M:SV}(hU:Under H id)(hb:blk H tb=some (.cells 253 [.vec tix m 1,Z1,Z2,R,M]))(ht:blk H tix=some (.rows 3 1 m tr))(htu:∀i,i<m→tr i 0=.val (.int .i64 (u i)))(hm:m≤5)(hu:∀i,i<m→1≤u i∧u i≤12)(hs:∀i,i<m→0≤s i∧s i≤u i)
  (hi0:ixF u s m=(i0:Nat)) (sd:Nat→Nat→SV):EffVC Tryz.prog 162 [.ptr tb 0,.agg (stL s)] ((id+7,.rows 3 1 N sd) ::(id,.cells 140 (stL s)) :: H) (id+11) (λhp' nid' res=>hp'=((id+7,.rows 3 1 N sd) ::(id,.cells 140 (stL s)) :: H)∧nid'=id+11+200∧res=I (i0:Nat)):=by
 have htb:=hU _ _ hb;have hti:=hU _ _ ht;have hN:=hU.none (Ω:id≤id+11);rw[←hi0];refine qoz _ _ tb m u s tix tr Ω ?_ ?_ htu Z1 Z2 R M hm hu hs Ω ?_
 ·simp only[blk];rw[if_neg Ω,if_neg Ω];exact hN
 ·simp only[blk];rw[if_neg Ω,if_neg Ω];exact ht
 ·simp only[blk];rw[if_neg Ω,if_neg Ω];exact hb
theorem qpE{H:List (Nat×Blk)}{id tb m N i0:Nat}{o full:Bool}{row:Nat→Nat→SV}{u s:Nat→Int}{Z1 Z2 R M:SV}(hU:Under H id)(hb:blk H tb=some (.cells 253 [.arr o full m 1 row,Z1,Z2,R,M]))(htu:∀i,i<m→row i 0=.val (.int .i64 (u i)))(hm:m≤5)(hu:∀i,i<m→1≤u i∧u i≤12)(hs:∀i,i<m→0≤s i∧s i≤u i)
  (hi0:ixF u s m=(i0:Nat)) (sd:Nat→Nat→SV):EffVC Tryz.prog 162 [.ptr tb 0,.agg (stL s)] ((id+7,.rows 3 1 N sd) ::(id,.cells 140 (stL s)) :: H) (id+11) (λhp' nid' res=>hp'=((id+7,.rows 3 1 N sd) ::(id,.cells 140 (stL s)) :: H)∧nid'=id+11+200∧res=I (i0:Nat)):=by
 have htb:=hU _ _ hb;have hN:=hU.none (Ω:id≤id+11);rw[←hi0];refine qoA _ _ tb m u s o full row ?_ htu Z1 Z2 R M hm hu hs Ω ?_
 ·simp only[blk];rw[if_neg Ω,if_neg Ω];exact hN
 ·simp only[blk];rw[if_neg Ω,if_neg Ω];exact hb
end Go.Tn
end
