/- A part of the proof. -/
import Derived.Test.YtacejomniokahaaGreatPC
import Derived.Test.YtacejomniokahaaGreatPE
open Nat renaming le_refl→xa5,eq_of_beq_eq_true→xa6,le_of_ble_eq_true→xa7,lt_of_lt_of_le→xa9,zero_add→xb0,add_zero→xb1,add_assoc→xb2,zero_testBit→xb3,lt_succ_self→xb5,zero_le→xb6,sub_self→xb8,le_trans→xc1,le_succ→xc4
open List renaming getD_eq_getElem?_getD→xc6,getElem?_eq_getElem→xc7,length_append→xc8,getElem?_append_left→xc9,getElem?_append_right→xd0,length_singleton→xd1,append_nil→xd3,mem_append→xd4,mem_cons_self→xd5,getElem?_cons_succ→xd7,length_take→xd9,length_map→xe1,length_cons→xe4
open Bool renaming and_eq_true→xe6,false_eq_true→xe7,or_eq_true→xe8,true_and→xf0,and_true→xf1,or_false→xf3,false_or→xf4
open Array renaming getD_eq_getD_getElem?→xf5,getElem?_toList→xf6,length_toList→xf7
open Classical renaming byContradiction→xf9
set_option linter.unusedVariables false
set_option linter.unusedSimpArgs false
set_option linter.defProp false
set_option maxRecDepth 1000000
set_option maxHeartbeats 16000000
section
namespace Go.Sx
open Go.RowKit
variable{hp:List (Nat×Blk)}
def jx:Op→Bool
 |.move _|.load _ (.tmp _)|.nilCheck _|.fieldAddr _ _ _|.indexAddr _ _ _|.binOp _ _ _ _ _|.build _ _=>true
 |_=>false
def Qf(t:Tmp)(o:Oper):Bool:=(kO o).all (λu=>!(Nat.beq u t))&&(match o.dst with|some d=>!(Nat.beq d t)|none=>true)
def yK(ds:List (Option Tmp))(ms:List Nat)(t e s i:Nat)(o:Oper):Bool:=
 match o.op with
 |.lookup t' _ _ false=>Nat.beq t t'&&Nat.blt i e&&(ms.getD s 0).testBit i
 |.store _ (.tmp b) _=>zt ds i b&&o.dst.isNone
 |.load _ (.tmp a)=>zt ds i a
 |op=>jx op
def jy(o:Oper):Oper:={ o with op:=.move (.const undef) }
def qfu(e x s:Nat):Nat→List Oper→List Oper
 |_,[]=>[]
 |i,o :: r=>(if i=e∨i=x∨i=s then jy o else o) :: qfu e x s (i+1) r
def Ku(e x s:Nat)(u:Op):Nat→List Oper→List Oper
 |_,[]=>[]
 |i,o :: r=>(if i=e∨i=x then jy o else if i=s then { o with op:=u }else o) :: Ku e x s u (i+1) r
def vI(ds:List (Option Tmp))(ms:List Nat)(t te tx e x s:Nat):Nat→List Oper→Bool
 |_,[]=>true
 |i,o :: r=>(Nat.beq i e || Nat.beq i x || Nat.beq i s ||(yK ds ms t e s i o&&Qf te o&&Qf tx o))&&o.guard.isNone&&vI ds ms t te tx e x s (i+1) r
def GP:List Oper→List Tmp
 |[]=>[]
 |o :: r=>(match o.op with|.load _ (.tmp a)=>[a]|.store _ (.tmp b) _=>[b]|_=>[])++GP r
structure EI where
 e:Nat
 x:Nat
 s:Nat
 te:Tmp
 tx:Tmp
 t:TypeId
 mm:Tmp
 k:Operand
 y:Operand
def qkK(ds:List (Option Tmp))(e:Nat):Operand→Bool
 |.tmp k=>zt ds e k
 |_=>true
def qic(te tx:Tmp):Operand→Bool
 |.tmp u=>!(Nat.beq u te)&&!(Nat.beq u tx)
 |_=>true
def EI.upd(q:EI):Op:=.mapUpdate q.t (.tmp q.mm) q.k q.y
def qid(q:EI)(far:List (Nat×Nat))(l:List Oper):Bool:=
 let ms:=zu [] l
 let ds:=dsts l
 jc 0 l&&(QM ds ms l&&(Vv far ds ms (qfu q.e q.x q.s 0 l)&&(vI ds ms q.t q.te q.tx q.e q.x q.s 0 l&&(zt ds q.e q.mm&&(qkK ds q.e q.k&&((ms.getD q.x 0).testBit q.e&&((ms.getD q.s 0).testBit q.x&&((ms.getD q.s 0).testBit q.e&&qic q.te q.tx q.y))))))))
structure Ent(q:EI)(l:List Oper):Prop where
 ex:q.e<q.x
 xs:q.x<q.s
 ne:q.te≠q.tx
 oe:∃o,l[q.e]? = some o∧o.op=.mapEntry q.t (.tmp q.mm) q.k∧o.dst=some q.te
 ox:∃o,l[q.x]? = some o∧o.op=.extract (.tmp q.te) 1∧o.dst=some q.tx
 os:∃o,l[q.s]? = some o∧o.op=.entryStore q.t (.tmp q.mm) (.tmp q.tx) q.y∧o.dst=none
theorem YJ{e x s:Nat}:∀{l:List Oper}{i j:Nat}{o:Oper},l[j]? = some o→(qfu e x s i l)[j]? = some (if i+j=e∨i+j=x∨i+j=s then jy o else o)
 |[],i,j,o,h=>by simp at h
 |p :: l,i,0,o,h=>by simp at h;subst h;simp[qfu]
 |p :: l,i,j+1,o,h=>by
  have:=YJ (e:=e) (x:=x) (s:=s) (i:=i+1) (show l[j]? = some o by simpa using h);simp only[qfu,xd7,this];rw[show i+1+j=i+(j+1) by omega]
theorem YK{e x s:Nat}{u:Op}:∀{l:List Oper}{i j:Nat}{o:Oper},l[j]? = some o→(Ku e x s u i l)[j]? = some (if i+j=e∨i+j=x then jy o else if i+j=s then { o with op:=u }else o)
 |[],i,j,o,h=>by simp at h
 |p :: l,i,0,o,h=>by simp at h;subst h;simp[Ku]
 |p :: l,i,j+1,o,h=>by
  have:=YK (e:=e) (x:=x) (s:=s) (u:=u) (i:=i+1) (show l[j]? = some o by simpa using h);simp only[Ku,xd7,this];rw[show i+1+j=i+(j+1) by omega]
theorem YL{e x s:Nat}{u:Op}:∀{l:List Oper}{i:Nat},(Ku e x s u i l).length=l.length
 |[],i=>rfl
 |o :: l,i=>by simp[Ku,YL]
theorem JX{e x s:Nat}{u:Op}:∀{l:List Oper}{i:Nat},dsts (Ku e x s u i l)=dsts l
 |[],i=>rfl
 |o :: l,i=>by
  have:∀o:Oper,(if i=e∨i=x then jy o else if i=s then { o with op:=u }else o).dst=o.dst:=λo=>by
   split
   ·rfl
   ·split<;>rfl
  simp only[Ku,dsts,JX,this]
theorem yi{ds:List (Option Tmp)}{ms:List Nat}{t te tx e x s:Nat}:∀{l:List Oper}{i j:Nat}{o:Oper},vI ds ms t te tx e x s i l=true→l[j]? = some o→o.guard=none∧(i+j=e∨i+j=x∨i+j=s∨(yK ds ms t e s (i+j) o=true∧Qf te o=true∧Qf tx o=true))
 |[],i,j,o,h,ho=>by simp at ho
 |p :: l,i,0,o,h,ho=>by
  simp at ho;subst ho;simp only[vI,xe6,xe8,Option.isNone_iff_eq_none]at h;obtain⟨⟨h1,h2⟩,-⟩:=h;refine⟨h2,?_⟩;rw[xb1];rcases h1 with((h1|h1)|h1)|h1
  ·exact .inl (xa6 h1)
  ·exact .inr (.inl (xa6 h1))
  ·exact .inr (.inr (.inl (xa6 h1)))
  ·exact .inr (.inr (.inr ⟨h1.1.1,h1.1.2,h1.2⟩))
 |p :: l,i,j+1,o,h,ho=>by
  simp only[vI,xe6]at h;have:=yi (i:=i+1) (j:=j) h.2 (show l[j]? = some o by simpa using ho);rw[show i+1+j=i+(j+1) by omega]at this;exact this
theorem g7{t:Tmp}{o:Oper}(h:Qf t o=true):t∉kO o∧o.dst≠some t:=by
 simp only[Qf,xe6,List.all_eq_true,Bool.not_eq_true']at h;obtain⟨h1,h2⟩:=h;refine⟨λhm=>?_,λe=>?_⟩
 ·have:=h1 t hm
  simp at this
 ·rw[e]at h2
  simp at h2
theorem yL:∀{l:List Oper}{i:Nat}{o:Oper},l[i]? = some o→(∀t a,o.op=.load t (.tmp a)→a∈GP l)∧(∀t b v,o.op=.store t (.tmp b) v→b∈GP l)
 |[],i,o,h=>by simp at h
 |p :: l,0,o,h=>by
  simp at h;subst h;exact⟨λt a e=>by simp[GP,e],λt b v e=>by simp[GP,e]⟩
 |p :: l,i+1,o,h=>by
  obtain⟨h1,h2⟩:=yL (show l[i]? = some o by simpa using h);exact⟨λt a e=>List.mem_append_right _ (h1 t a e),λt b v e=>List.mem_append_right _ (h2 t b v e)⟩
section
variable{P:Program}
theorem yj{F F':Nat→SV}{op:Op}(hc:jx op=true∨(∃t x k ok,op=.lookup t x k ok)∨(∃t a v,op=.store t a v))(h:∀t,.tmp t∈op.operands.toList→F t=F' t):stepR P F hp op=stepR P F' hp op:=by
 have he:∀x,x∈op.operands.toList→env F x=env F' x:=λx hx=>by
  cases x<;>first|exact h _ hx|rfl
 rcases hc with hc|⟨t,x,k,ok,rfl⟩|⟨t,a,v,rfl⟩
 ·cases op<;>first|(simp[jx]at hc;done)|skip
  all_goals first
   |(simp only[stepR];rw[he _ Ωp];done)
   |(simp only[stepR];rw[he _ Ωp,he _ Ωp];done)
   |skip
  case build t ps=>
   simp only[stepR];have:∀qs:List (Nat×Operand),(∀p∈qs,p.2∈(Op.build t ps).operands.toList)→envp F qs=envp F' qs:=by
    intro qs
    induction qs with
    |nil=>intro _;rfl
    |cons p qs ih=>
     intro hq;simp only[envp];rw[he _ (hq p xd5),ih λp hp=>hq p (List.mem_cons_of_mem _ hp)]
   rw[this _ λp hp=>by simp only[Op.operands];exact List.mem_map_of_mem hp]
 ·simp only[stepR]
  rw[he x Ωp,he k Ωp]
 ·simp only[stepR]
  rw[he a Ωp,he v Ωp]
theorem qbA{hp':List (Nat×Blk)}{ti:Option TyI}{a v:SV}(h:∀id x,qW a=some id→blk hp id=some x→blk hp' id=some x)(hne:rStore ti hp a v≠.bad):rStore ti hp' a v=rStore ti hp a v:=by
 match ti with
 |none=>rfl
 |some ⟨false,sz,z,d⟩=>
  cases a<;>first|rfl|skip
  case ptr id off=>
   simp only[rStore]at hne ⊢;cases hb:blk hp id with
   |none=>rw[hb]at hne;exact absurd rfl hne
   |some y=>rw[h _ _ rfl hb]
  case elt id k i j=>
   simp only[rStore]at hne ⊢;cases hb:blk hp id with
   |none=>rw[hb]at hne;exact absurd rfl hne
   |some y=>rw[h _ _ rfl hb]
 |some ⟨true,sz,z,d⟩=>
  cases v<;>first|rfl|skip
  cases a<;>first|rfl|skip
  case ptr id off=>
   simp only[rStore]at hne ⊢;cases hb:blk hp id with
   |none=>rw[hb]at hne;exact absurd rfl hne
   |some y=>rw[h _ _ rfl hb]
  case elt id k i j=>
   simp only[rStore]at hne ⊢;cases hb:blk hp id with
   |none=>rw[hb]at hne;exact absurd rfl hne
   |some y=>rw[h _ _ rfl hb]
theorem z8{F:Nat→SV}{op:Op}(hc:jx op=true∨(∃t x k ok,op=.lookup t x k ok)):(∃obl sv,stepR P F hp op=.pure obl sv)∨(∃obl,stepR P F hp op=.ex obl)∨stepR P F hp op=.bad:=by
 have key:∀x:Res,ve x=true→(∃obl sv,x=.pure obl sv)∨(∃obl,x=.ex obl)∨x=.bad:=λx hx=>by
  cases x<;>first|(cases hx;done)|(exact .inl ⟨_,_,rfl⟩)|(exact .inr (.inl ⟨_,rfl⟩))|(exact .inr (.inr rfl))
 refine key _ ?_;rcases hc with hc|⟨t,x,k,ok,rfl⟩
 ·cases op<;>first|(simp[jx]at hc;done)|(simp only[stepR])
  case move=>rfl
  case load=>unfold rLoad;(repeat' split)<;>rfl
  case nilCheck=>unfold rNil;split<;>rfl
  case binOp=>unfold rBin;(repeat' split)<;>first|rfl|(unfold rInt;split<;>rfl)|(unfold rEq;(repeat' split)<;>rfl)|(unfold rNilS;(repeat' split)<;>rfl)
  case fieldAddr=>unfold rFieldAddr;(repeat' split)<;>rfl
  case indexAddr=>unfold rIndexAddr;(repeat' split)<;>rfl
  case build=>exact gp _ _
 ·exact kS _ _ _ _ _
theorem qdk(O:Ctx)(st:St):Weak O st { st with nid:=st.nid+1 }:=λbase okc ns outs a w h=>by
 obtain⟨r,h⟩:=h;have s:=h.sat.more (N':=(· < st.nid+1)) (λx hx=>Nat.lt_succ_of_lt hx) (λx y hy _=>h.keys x y hy);exact⟨r,(h.step s (λid x hx=>Nat.lt_succ_of_lt (h.keys id x hx)) (xc4 _) (d:=none) (λt ht=>by cases ht) (.top undef)).nid (st.nid+1)⟩
theorem qkL(O:Ctx)(st:St)(a b:Tmp):Weak O st ⟨putFr (putFr st.fr a .top) b .top,st.hp,st.nid⟩:=λbase okc ns outs x w ⟨r,h⟩=>⟨r,h.sat,h.keys,λi=>by
 show Rep _ _ _ _ (look (putFr (putFr st.fr a .top) b .top) i) _;rw[zh,zh];split
 ·exact .top _
 ·split
  ·exact .top _
  ·exact h.fr i,h.size,h.lo,h.out,h.rfix,h.defers⟩
theorem qbB{dst:Nat→Option Tmp}{res res':Nat→SV}{S:Nat→Bool}{F:Nat→SV}{t:Nat}:∀{n:Nat},(∀j,j<n→S j=true→dst j=some t→res j=res' j)→FS dst res S F n t=FS dst res' S F n t
 |0,h=>rfl
 |n+1,h=>by
  have ih:=qbB (F:=F) (n:=n) λj hj=>h j Ω;simp only[FS];by_cases c:S n=true∧dst n=some t
  ·rw[if_pos c,if_pos c];exact h n Ω c.1 c.2
  ·rw[if_neg c,if_neg c];exact ih
theorem VZ{dst:Nat→Option Tmp}{res:Nat→SV}{S:Nat→Bool}{F:Nat→SV}{t i:Nat}(hi:dst i=some t)(hS:S i=true):∀{n:Nat},i<n→(∀j,j<n→dst j=some t→j=i)→FS dst res S F n t=res i
 |n+1,h,hu=>by
  simp only[FS];by_cases c:S n=true∧dst n=some t
  ·rw[if_pos c,hu n Ω c.2]
  ·rw[if_neg c]
   have:i≠n:=λe=>c (e▸⟨hS,hi⟩);exact VZ hi hS Ω λj hj=>hu j Ω
theorem qov{k:Nat}{nb:Nat→Option Blk}{up:Nat→Option (Nat×Blk)}{hp:List (Nat×Blk)}:∀{i:Nat},(∀j,j<i→nb j=none)→TH k nb up hp i=UH up (λ_=>true) hp i
 |0,h=>rfl
 |i+1,h=>by
  have ih:=qov (k:=k) (up:=up) (hp:=hp) (i:=i) λj hj=>h j Ω;simp only[TH,UH,if_true,ih,h i Ω];split<;>rfl
def but(up:Nat→Option (Nat×Blk))(s:Nat):Nat→Option (Nat×Blk):=λj=>if j=s then none else up j
theorem qbC{up:Nat→Option (Nat×Blk)}{S:Nat→Bool}{H:List (Nat×Blk)}{s X:Nat}(h:∀t b,up s=some (t,b)→t≠X):∀{n:Nat},blk (UH up S H n) X=blk (UH (but up s) S H n) X
 |0=>rfl
 |n+1=>by
  have ih:=qbC (S:=S) (H:=H) h (n:=n);simp only[UH];by_cases hS:S n=true
  ·rw[if_pos hS,if_pos hS]
   by_cases e:n=s
   ·subst e
    have:but up n n=none:=by simp[but]
    rw[this];cases hu:up n with
    |none=>exact ih
    |some p=>
     obtain⟨t,b⟩:=p;dsimp only;rw[qp,if_neg (λe=>h t b hu e.symm)];exact ih
   ·have:but up s n=up n:=by simp[but,e]
    rw[this];cases hu:up n with
    |none=>exact ih
    |some p=>
     obtain⟨t,b⟩:=p;dsimp only;rw[qp,qp];by_cases c:X=t
     ·subst c;rw[if_pos rfl,if_pos rfl,ih]
     ·rw[if_neg c,if_neg c];exact ih
  ·rw[if_neg hS,if_neg hS];exact ih
theorem jJ{ds:List (Option Tmp)}{ms:List Nat}{t e s i:Nat}{o:Oper}(h:yK ds ms t e s i o=true) :
  (jx o.op=true∧∀t' a,o.op=.load t' (.tmp a)→zt ds i a=true)∨(∃x k,o.op=.lookup t x k false∧i<e∧(ms.getD s 0).testBit i=true)∨(∃t' b v,o.op=.store t' (.tmp b) v∧zt ds i b=true∧o.dst=none):=by
 unfold yK at h;split at h
 ·rename_i t' x k e1
  simp only[xe6,Nat.blt_eq,Nat.beq_eq]at h;obtain⟨⟨h1,h2⟩,h3⟩:=h;subst h1;exact .inr (.inl ⟨x,k,e1,h2,h3⟩)
 ·rename_i t' b v e1
  simp only[xe6,Option.isNone_iff_eq_none]at h;exact .inr (.inr ⟨t',b,v,e1,h.1,h.2⟩)
 ·rename_i t' a e1
  exact .inl ⟨by rw[e1];rfl,λt2 a2 e2=>by rw[e1]at e2;cases e2;exact h⟩
 ·rename_i h1 h2 h3
  exact .inl ⟨h,λt' a e1=>absurd e1 (h3 t' a)⟩
def V0(dom:Value→Bool)(v:Value):Value→Bool:=if dom v=true then dom else qD dom v
def YM(dom:Value→Bool)(get:Value→SV)(v:Value)(z:SV):Value→SV:=if dom v=true then get else qC get v z
theorem V1{dom:Value→Bool}{get:Value→SV}{v:Value}{z xv:SV}:V0 dom v=qD dom v∧qC (YM dom get v z) v xv=qC get v xv:=by
 refine⟨?_,?_⟩
 ·unfold V0
  split
  ·rename_i h
   funext u;unfold qD;cases e:eqK v u with
   |true=>rw[←zq e,h];rfl
   |false=>rfl
  ·rfl
 ·unfold YM
  split
  ·rfl
  ·funext u
   unfold qC;cases e:eqK v u<;>simp[svIte]
theorem qie{dom:Value→Bool}{get:Value→SV}{v u:Value}{z:SV}:svIte (V0 dom v u) (YM dom get v z u) z=svIte (dom u) (get u) z:=by
 unfold V0 YM;split
 ·rfl
 ·rename_i h
  unfold qD qC;cases e:eqK v u with
  |true=>
   have:=zq e;subst this;simp[svIte,h]
  |false=>simp[svIte]
theorem Qx{f:Nat→Oper→Prop}:∀{ops:List Oper}{i:Nat},(∀j o,ops[j]? = some o→f (i+j) o)→ya f i ops
 |[],i,h=>trivial
 |o :: ops,i,h=>⟨h 0 o rfl,Qx λj o' ho=>by
  have:=h (j+1) o' Ω2
  rwa [show i+(j+1)=i+1+j by omega]at this⟩
theorem YN{S:Nat→Bool}:∀{n:Nat},(∀j,j<n→S j=false)→cnt S n=n
 |0,h=>rfl
 |n+1,h=>by
  have ih:=YN (n:=n) λj hj=>h j Ω;simp only[cnt,ih];rw[h n Ω];rfl
theorem qdl{S:Nat→Bool}:∀{n:Nat},(∀j,j<n→S j=true)→cnt S n=0
 |0,h=>rfl
 |n+1,h=>by
  have ih:=qdl (n:=n) λj hj=>h j Ω;simp only[cnt,ih];rw[h n Ω];rfl
def qow(q:EI)(l:List Oper)(st:St):Prop:=∀mid,look st.fr q.mm=.mp mid→(∃fit dom get,blk st.hp mid=some (.map fit dom get))∧∀a∈GP l,qW (look st.fr a)≠some mid
theorem YO(hm:P.follows .mixedOrders=true){O:Ctx}{st:St}{K:Ex→St→Prop}{id:Nat}{l:List Oper}{q:EI}{far:List (Nat×Nat)}{g:Tag K}(hq:Ent q l)(hok:qid q far l=true)
  (hk:zg P O False (dsts l) (Ku q.e q.x q.s q.upd 0 l) 0 st λst1=>FarVC far st1 (qow q l st1∧∀st2,(∀t,look st2.fr t=if t=q.te∨t=q.tx then .top else look st1.fr t)→(∀j,blk st2.hp j=blk st1.hp j)→st2.nid=st1.nid+l.length→K .normal st2)):w9 P O id l true st K g:=by
 obtain⟨e,x,s,te,tx,t,mm,k,y⟩:=q;obtain⟨hex,hxs,hne,⟨oe,hoe,hope,hdse⟩,⟨ox,hox,hopx,hdsx⟩,⟨os,hos,hops_,hdss⟩⟩:=hq;simp only[EI.upd]at *;simp only[qid,xe6]at hok;obtain⟨hedge,hapart,hpair,hcls,hmm,hkf,hxe,hsx,hse,hyn⟩:=hok;have hlen:=YL (e:=e) (x:=x) (s:=s) (u:=Op.mapUpdate t (.tmp mm) k y) (l:=l) (i:=0);have hds:=JX (e:=e) (x:=x) (s:=s) (u:=Op.mapUpdate t (.tmp mm) k y) (l:=l) (i:=0);have hsl:s<l.length:=(List.getElem?_eq_some_iff.1 hos).1;have hcl:∀j o,l[j]? = some o→o.guard=none∧(j=e∨j=x∨j=s∨(yK (dsts l) (zu [] l) t e s j o=true∧Qf te o=true∧Qf tx o=true)):=λj o ho=>by
  have:=yi hcls ho
  rwa [xb0]at this
 have hfix:∀j o,l[j]? = some o→(Ku e x s (Op.mapUpdate t (.tmp mm) k y) 0 l)[j]? = some (if j=e∨j=x then jy o else if j=s then { o with op:=Op.mapUpdate t (.tmp mm) k y }else o):=λj o ho=>by
  have:=YK (e:=e) (x:=x) (s:=s) (u:=Op.mapUpdate t (.tmp mm) k y) (i:=0) ho;simpa only[xb0]using this
 have hall:∀o∈Ku e x s (Op.mapUpdate t (.tmp mm) k y) 0 l,(kU o.op || qV o.op)=true:=by
  intro o ho;obtain⟨j,hj⟩:=List.mem_iff_getElem?.1 ho;have hjl:j<l.length:=by rw[←hlen];exact(List.getElem?_eq_some_iff.1 hj).1
  have h0:l[j]? = some l[j]:=by simp[hjl]
  rw[hfix j _ h0]at hj;simp only[Option.some.injEq]at hj;subst hj;by_cases c1:j=e∨j=x
  ·rw[if_pos c1];rfl
  ·rw[if_neg c1]
   by_cases c2:j=s
   ·rw[if_pos c2];rfl
   ·rw[if_neg c2]
    rcases(hcl j _ h0).2 with c|c|c|⟨c,-,-⟩
    ·exact absurd (.inl c) c1
    ·exact absurd (.inr c) c1
    ·exact absurd c c2
    ·rcases jJ c with⟨c,-⟩|⟨a,b,c,-⟩|⟨a,b,d,c,-⟩
     ·generalize (l[j]).op=op at c
      cases op<;>first|(simp[jx]at c;done)|rfl
     ·rw[c];rfl
     ·rw[c];rfl
 obtain⟨res,nb,up,st1,hops,hF1,hh1,hn1,hk1⟩:=Gn Ωi _ 0 st hall hk;rw[xb1]at hops hh1;rw[hds]at hops hF1;rw[hlen]at hF1 hh1;obtain⟨⟨hendm,hk1⟩,hfar⟩:=j4 hk1;have hat:∀j o,l[j]? = some o→j≠e→j≠x→j≠s→QQ P (dsts l) (FS (nth (dsts l)) res (λ_=>true) (look st.fr) j) (TH st.nid nb up st.hp j) (st.nid+j) o (res j) (nb j) (up j):=λj o ho h1 h2 h3=>by
  have:=hops j _ (hfix j o ho)
  rwa [if_neg (by simp[h1,h2]),if_neg h3]at this
 have hmmx:∀i,e≤i→i≤l.length→FS (nth (dsts l)) res (λ_=>true) (look st.fr) i mm=look st1.fr mm:=λi h1 h2=>by
  rw[hF1];have hdl:(dsts l).length=l.length:=by
   have:∀l:List Oper,(dsts l).length=l.length:=λl=>by induction l<;>simp[dsts, *]
   exact this l
  exact(je h2 λk hk hik=>qM hmm Ω Ω).symm
 have hdl:(dsts l).length=l.length:=by
  have:∀l:List Oper,(dsts l).length=l.length:=λl=>by induction l<;>simp[dsts, *]
  exact this l
 have hquiet:∀j o,l[j]? = some o→(j=e∨j=x)→res j=undefSV∧nb j=none∧up j=none:=λj o ho hj=>by
  have:=hops j _ (hfix j o ho);rw[if_pos hj]at this;generalize res j=a1 at this ⊢;generalize nb j=a2 at this ⊢;generalize up j=a3 at this ⊢;cases this with
  |skip hg=>exact⟨rfl,rfl,rfl⟩
  |run sv nb hg hc hr=>
   cases hr with
   |pure obl sv h ho=>simp only[jy,stepR,env,Res.pure.injEq]at h;exact⟨h.2.symm,rfl,rfl⟩
   |ex obl sv h ho=>simp[jy,stepR]at h
   |new obl b mk h ho=>simp[jy,stepR]at h
   |call f args res h hc=>simp[jy,stepR]at h
   |callN f args pats b res h hc hs=>simp[jy,stepR]at h
  |upd obl t b hg h ho=>simp[jy,stepR]at h
 have hord:∀j o,l[j]? = some o→j≠e→j≠x→j≠s→nb j=none∧(∀t' b',up j=some (t',b')→∃ty b v,o.op=.store ty (.tmp b) v∧zt (dsts l) j b=true∧o.dst=none∧qW (look st1.fr b)=some t'):=λj o ho h1 h2 h3=>by
  have h:=hat j o ho h1 h2 h3;have hc:=(hcl j o ho).2;rcases hc with c|c|c|⟨c,-,-⟩
  ·exact absurd c h1
  ·exact absurd c h2
  ·exact absurd c h3
  have hjl:j<l.length:=(List.getElem?_eq_some_iff.1 ho).1;generalize res j=a1 at h ⊢;generalize nb j=a2 at h ⊢;generalize up j=a3 at h ⊢;have hnotU:(jx o.op=true∨∃t x k ok,o.op=.lookup t x k ok)→∀F hp obl t b,stepR P F hp o.op≠.upd obl t b:=λhp F hp' obl t b hh=>by
   rcases z8 (P:=P) (F:=F) (hp:=hp') hp with⟨_,_,e1⟩|⟨_,e1⟩|e1<;>rw[e1]at hh<;>cases hh
  cases h with
  |skip hg=>exact⟨rfl,λ_ _ h=>by cases h⟩
  |run sv nb hg hca hr=>
   refine⟨?_,λ_ _ h=>by cases h⟩;have hpl:jx o.op=true∨∃t x k ok,o.op=.lookup t x k ok:=by
    rcases jJ c with⟨c,-⟩|⟨a,b,c,-⟩|⟨a,b,d,c,-⟩
    ·exact .inl c
    ·exact .inr ⟨_,_,_,_,c⟩
    ·rw[c]at hca;cases hca
   cases hr with
   |pure obl sv h ho=>rfl
   |ex obl sv h ho=>rfl
   |call f args res h hc=>rfl
   |new obl b mk h ho=>rcases z8 (P:=P) hpl with⟨_,_,e1⟩|⟨_,e1⟩|e1<;>rw[e1]at h<;>cases h
   |callN f args pats b res h hc hs=>rcases z8 (P:=P) hpl with⟨_,_,e1⟩|⟨_,e1⟩|e1<;>rw[e1]at h<;>cases h
  |upd obl t2 b2 hg h hobl=>
   refine⟨rfl,λt' b' hh=>?_⟩;injection hh with hh;injection hh with hh1 hh2;subst hh1;subst hh2;rcases jJ c with⟨c,-⟩|⟨a,b,c,-⟩|⟨a,b,d,c,c2,c3⟩
   ·exact absurd h (hnotU (.inl c) _ _ _ _ _)
   ·exact absurd h (hnotU (.inr ⟨_,_,_,_,c⟩) _ _ _ _ _)
   ·refine⟨a,b,d,c,c2,c3,?_⟩
    rw[c]at h;have h4:=jw h;rw[hF1,je (i:=j) Ω (λk hk hik=>qM c2 Ω hik)];exact h4
 have hatS:=hops s _ (hfix s os hos);rw[if_neg Ω,if_pos rfl]at hatS;have hgs:os.guard=none:=(hcl s os hos).1;obtain⟨ag,ls,z,mid,hmi,hmp⟩:∃ag ls z mid,qz P t=some ⟨ag,ls,z⟩∧look st1.fr mm=.mp mid:=by
  generalize res s=a1 at hatS;generalize nb s=a2 at hatS;generalize up s=a3 at hatS;cases hatS with
  |skip hg=>simp[gW,hgs]at hg
  |run sv nb hg hca hr=>cases hca
  |upd obl t2 b2 hg h ho=>
   simp only[stepR,env]at h;rw[hmmx s Ω Ω]at h;unfold rUpdate at h;split at h
   ·rename_i e1 e2
    exact⟨_,_,_,_,e1,e2⟩
   ·cases h
 obtain⟨⟨fit1,dom1,get1,hmap1⟩,hadr⟩:=hendm mid hmp;have hup:∀j b,j<l.length→up j=some (mid,b)→j=s:=λj b hj hu=>by
  refine xf9 λhjs=>?_;have ho:l[j]? = some l[j]:=by simp[hj]
  by_cases c:j=e∨j=x
  ·have:=(hquiet j _ ho c).2.2
   rw[hu]at this;cases this
  ·obtain⟨ty,b',v',h1,h2,h3,h4⟩:=(hord j _ ho (λe=>c (.inl e)) (λe=>c (.inr e)) hjs).2 _ _ hu
   exact hadr b' ((yL ho).2 _ _ _ h1) h4
 have hnbs:nb s=none:=by
  generalize res s=a1 at hatS;generalize nb s=a2 at hatS ⊢;generalize up s=a3 at hatS;cases hatS with
  |skip hg=>rfl
  |run sv nb hg hca hr=>cases hca
  |upd obl t2 b2 hg h ho=>rfl
 have hnb:∀j,j<l.length→nb j=none:=λj hj=>by
  have ho:l[j]? = some l[j]:=by simp[hj]
  by_cases c:j=e∨j=x
  ·exact(hquiet j _ ho c).2.1
  ·by_cases c2:j=s
   ·subst c2;exact hnbs
   ·exact(hord j _ ho (λe=>c (.inl e)) (λe=>c (.inr e)) c2).1
 have hTH:∀i,i≤l.length→TH st.nid nb up st.hp i=UH up (λ_=>true) st.hp i:=λi hi=>qov λj hj=>hnb j Ω;have hH0:blk (TH st.nid nb up st.hp s) mid=blk st.hp mid:=by
  rw[hTH s Ω];exact w7 λj hj _ t' b hu e=>by
   subst e;have:=hup j b Ω hu;omega
 have hus:∀b,up s=some (mid,b)→∀y0,blk st.hp mid=some y0→blk st1.hp mid=some b:=λb hb y0 hy0=>by
  rw[hh1,hTH _ (xa5 _),Vz (i:=s+1) Ω (λj hj b' hu=>by
   have:=hup j b' hj hu;simp;omega)]
  have:UH up (λ_=>true) st.hp (s+1)=setBlk (UH up (λ_=>true) st.hp s) mid b:=by simp[UH,hb]
  rw[this,qp,if_pos rfl,←hTH s Ω,hH0,hy0];rfl
 obtain⟨fit,dom,get,v,hmap,hkey,hfit,hkv,hups⟩:∃fit dom get v,blk st.hp mid=some (.map fit dom get)∧keyV (env (FS (nth (dsts l)) res (λ_=>true) (look st.fr) s) k)=some v∧fit=qk ag ls∧qk ag ls v=true∧up s=some (mid,.map fit (qD dom v) (qC get v (env (FS (nth (dsts l)) res (λ_=>true) (look st.fr) s) y))):=by
  generalize res s=a1 at hatS;generalize nb s=a2 at hatS;generalize hu3:up s=a3 at hatS;cases hatS with
  |skip hg=>simp[gW,hgs]at hg
  |run sv nb hg hca hr=>cases hca
  |upd obl t2 b2 hg h ho=>
   simp only[stepR,env]at h;rw[hmmx s Ω Ω,hmi,hmp]at h;simp only[rUpdate,hH0]at h;split at h
   ·rename_i f d g1 v1 e1 e2
    injection h with h1 h2 h3;subst h1;subst h2;subst h3;exact⟨f,d,g1,v1,e1,e2,ho.1,ho.2.1,rfl⟩
   ·rename_i f d g1 st0 c0 v1 e1 e2
    injection h with h1 h2 h3;subst h1;subst h2;subst h3;have:=hus _ hu3 _ e1;rw[hmap1]at this;cases this
   ·cases h
 have hfin:=hus _ hups _ hmap;generalize hxv:env (FS (nth (dsts l)) res (λ_=>true) (look st.fr) s) y=xv at hups hfin
 let rs:(Value→Nat)→Nat→SV:=λσ i=>if i=e then .tup [if dom v=true then get v else z,.val (.int .i64 (σ v))]else if i=x then .val (.int .i64 (σ v))else res i
 let M:(Nat→Bool)→(Value→Nat)→Nat→Blk:=λS σ clk=>if S s=true then .map fit (qD dom v) (qC get v xv)else if S e=true then .mapS fit (V0 dom v) (YM dom get v z) σ clk else .map fit dom get
 have hde:nth (dsts l) e=some te:=by rw[zm,hoe];exact hdse
 have hdx:nth (dsts l) x=some tx:=by rw[zm,hox];exact hdsx
 have hdS:nth (dsts l) s=none:=by rw[zm,hos];exact hdss
 have hte:∀j,j<l.length→nth (dsts l) j=some te→j=e:=λj hj hd=>by
  have ho:l[j]? = some l[j]:=by simp[hj]
  rw[zm,ho]at hd;rcases(hcl j _ ho).2 with c|c|c|⟨-,c,-⟩
  ·exact c
  ·subst c;rw[hox]at ho;injection ho with ho;rw[←ho]at hd;simp only[Option.bind_some,hdsx,Option.some.injEq]at hd;exact absurd hd.symm hne
  ·subst c;rw[hos]at ho;injection ho with ho;rw[←ho]at hd;simp[hdss]at hd
  ·exact absurd hd (g7 c).2
 have htx:∀j,j<l.length→nth (dsts l) j=some tx→j=x:=λj hj hd=>by
  have ho:l[j]? = some l[j]:=by simp[hj]
  rw[zm,ho]at hd;rcases(hcl j _ ho).2 with c|c|c|⟨-,-,c⟩
  ·subst c;rw[hoe]at ho;injection ho with ho;rw[←ho]at hd;simp only[Option.bind_some,hdse,Option.some.injEq]at hd;exact absurd hd hne
  ·exact c
  ·subst c;rw[hos]at ho;injection ho with ho;rw[←ho]at hd;simp[hdss]at hd
  ·exact absurd hd (g7 c).2
 have hrs:∀σ S n u,n≤l.length→u≠te→u≠tx→FS (nth (dsts l)) (rs σ) S (look st.fr) n u=FS (nth (dsts l)) res S (look st.fr) n u:=λσ S n u hn h1 h2=>qbB λj hj _ hd=>by
  have c1:j≠e:=λc=>by subst c;rw[hde]at hd;injection hd with hd;exact h1 hd.symm
  have c2:j≠x:=λc=>by subst c;rw[hdx]at hd;injection hd with hd;exact h2 hd.symm
  simp only[rs,if_neg c1,if_neg c2]
 refine yE hm (λm st2=>∃σ clk,((∀u,(u≠te∧u≠tx)∨m.testBit s=false→look st2.fr u=FS (nth (dsts l)) (rs σ) m.testBit (look st.fr) l.length u)∧(m.testBit s=true→look st2.fr te=.top∧look st2.fr tx=.top))∧(∀j,blk st2.hp j=if j=mid then some (M m.testBit σ clk)else blk (UH (but up s) m.testBit st.hp l.length) j)∧st2.nid+cnt m.testBit l.length=st.nid+l.length) rfl hedge (Weak.refl O st) ?_ ?_ ?_
 ·refine⟨λ_=>0,0,⟨λu _=>?_,λh=>by rw[xb3]at h;cases h⟩,λj=>?_,?_⟩
  ·exact(wX (i:=0) (xb6 _) λj hj _=>by simp).symm
  ·split
   ·rename_i c
    subst c;simp only[M,xb3,xe7,if_false];exact hmap
   ·rw[Kz (i:=0) (xb6 _) λj _ _ _=>xb3 j]
    rfl
  ·rw[YN λj _=>xb3 j]
 ·refine Qx λj o ho=>?_
  rw[xb0];rintro m st2 ⟨σ,clk,⟨hfr,htop⟩,hhp,hnid⟩ hclm hbit hpre;have hjl:j<l.length:=(List.getElem?_eq_some_iff.1 ho).1;have hS:∀i,(m ||| 2^j).testBit i=(m.testBit i || decide (i=j)):=λi=>by rw[tb];simp[eq_comm]
  have hgd:o.guard=none:=(hcl j o ho).1;have hdsj:nth (dsts l) j=o.dst:=by rw[zm,ho];rfl
  have hlook:∀r u,u∈seen (dsts l) o→FS (nth (dsts l)) r m.testBit (look st.fr) l.length u=FS (nth (dsts l)) r (λ_=>true) (look st.fr) j u:=λr u hu=>by
   refine wX Ω λi hi hdi=>?_;obtain⟨oi,hoi⟩:∃oi,l[i]? = some oi:=⟨l[i],by simp[hi]⟩;constructor
   ·intro hs
    refine xf9 λhge=>?_;by_cases c:i=j
    ·subst c;rw[hbit]at hs;cases hs
    ·rcases zo hapart ho hoi Ω with hb|⟨_,hb⟩
     ·have:=hclm _ _ hb hs
      rw[hbit]at this;cases this
     ·exact hb u hdi hu
   ·intro hlt
    rcases zo hapart hoi ho hlt with hb|⟨hb,_⟩
    ·exact hpre i hb Ω
    ·exact(hb u hdi hu).elim
  have hlater:∀u,nth (dsts l) j=some u→∀i,i<l.length→j<i→nth (dsts l) i=some u→m.testBit i=false:=by
   intro u hdu i hi hij hdi;obtain⟨oi,hoi⟩:∃oi,l[i]? = some oi:=⟨l[i],by simp[hi]⟩;cases hv:m.testBit i with
   |false=>rfl
   |true=>
    rcases zo hapart ho hoi hij with hb|⟨_,hb⟩
    ·have:=hclm _ _ hb hv
     rw[hbit]at this;cases this
    ·refine(hb u hdi ?_).elim
     simp only[seen,xd4];rw[hdsj]at hdu;simp[hdu]
  have next:j≠s→∀σ' clk' (st3:St),(∀i,m.testBit i=true→rs σ i=rs σ' i)→(∀u,look st3.fr u=if o.dst=some u then rs σ' j else look st2.fr u)→(∀i,blk st3.hp i=if i=mid then some (M (m ||| 2^j).testBit σ' clk')else blk (UH (but up s) (m ||| 2^j).testBit st.hp l.length) i)→st3.nid=st2.nid+1→
    ∃σ clk,((∀u,(u≠te∧u≠tx)∨(m ||| 2^j).testBit s=false→look st3.fr u=FS (nth (dsts l)) (rs σ) (m ||| 2^j).testBit (look st.fr) l.length u)∧((m ||| 2^j).testBit s=true→look st3.fr te=.top∧look st3.fr tx=.top))∧(∀i,blk st3.hp i=if i=mid then some (M (m ||| 2^j).testBit σ clk)else blk (UH (but up s) (m ||| 2^j).testBit st.hp l.length) i)∧st3.nid+cnt (m ||| 2^j).testBit l.length=st.nid+l.length:=by
   intro hjs σ' clk' st3 h1 h2 h3 h4;have hSs:(m ||| 2^j).testBit s=m.testBit s:=by rw[hS];simp[Ne.symm hjs]
   rw[hSs];refine⟨σ',clk',⟨λu hu=>?_,λhs=>?_⟩,h3,?_⟩
   ·rw[Gg hS hjl (hlater u),h2 u,hdsj,hfr u hu]
    split
    ·rfl
    ·exact qbB λi _ hi _=>h1 i hi
   ·have n1:o.dst≠some te:=λc=>by
     have:=hte j hjl (hdsj.trans c);subst this;have:=hclm _ _ hse hs;rw[hbit]at this;cases this
    have n2:o.dst≠some tx:=λc=>by
     have:=htx j hjl (hdsj.trans c);subst this;have:=hclm _ _ hsx hs;rw[hbit]at this;cases this
    rw[h2,if_neg n1,h2,if_neg n2];exact htop hs
   ·have:=(jd (S:=m.testBit) (S':=(m ||| 2^j).testBit) hS hbit (n:=l.length)).2 hjl
    omega
  have hmem:∀X,X≠mid→(∀i,i<l.length→∀b,up i=some (X,b)→(m.testBit i=true↔i<j))→blk st2.hp X=blk (TH st.nid nb up st.hp j) X:=λX hX h=>by
   rw[hhp,if_neg hX,←qbC (up:=up) (s:=s) (λt' b hu=>by rw[hups]at hu;injection hu with hu;injection hu with hu;rw[←hu];exact λe=>hX e.symm),Vz (i:=j) Ω h,hTH _ Ω]
  have hmte:mm≠te:=λc=>qM hmm (k:=e) Ω (xa5 _) (c▸hde);have hmtx:mm≠tx:=λc=>qM hmm (k:=x) Ω Ω (c▸hdx);have hmp2:e≤j→mm∈seen (dsts l) o→look st2.fr mm=.mp mid:=λhej hu=>by
   rw[hfr _ (.inl ⟨hmte,hmtx⟩),hrs _ _ _ _ (xa5 _) hmte hmtx,hlook _ _ hu,hmmx j hej Ω,hmp]
  by_cases cj:j=e∨j=x∨j=s
  ·rcases cj with cj|cj|cj
   ·subst cj
    have hoo:o=oe:=by rw[hoe]at ho;exact(Option.some.inj ho).symm
    subst hoo;have hseen:∀u,.tmp u∈o.op.operands.toList→u∈seen (dsts l) o:=λu hu=>by
     simp only[seen,xd4];exact .inl (List.mem_filterMap.2 ⟨.tmp u,hu,rfl⟩)
    have hsf:m.testBit s=false:=by
     cases hv:m.testBit s with
     |false=>rfl
     |true=>have:=hclm _ _ hse hv;rw[hbit]at this;cases this
    have hxf:m.testBit x=false:=by
     cases hv:m.testBit x with
     |false=>rfl
     |true=>have:=hclm _ _ hxe hv;rw[hbit]at this;cases this
    have hb:=hhp mid;rw[if_pos rfl]at hb;simp only[M,hsf,hbit,xe7,if_false,hfit]at hb;have hkk:keyV (env (look st2.fr) k)=some v:=by
     rw[←hkey]
     congr 1
     cases k with
     |tmp kk=>
      have hkn:zt (dsts l) j kk=true:=hkf;have n1:kk≠te:=λc=>qM hkn (k:=j) Ω (xa5 _) (c▸hde);have n2:kk≠tx:=λc=>qM hkn (k:=x) Ω Ω (c▸hdx);show look st2.fr kk=FS (nth (dsts l)) res (λ_=>true) (look st.fr) s kk;rw[hfr _ (.inl ⟨n1,n2⟩),hrs _ _ _ _ (xa5 _) n1 n2,hlook _ _ (hseen kk (by rw[hope];simp[Op.operands])),←je (i:=j) (n:=l.length) Ω (λk hk hik=>qM hkn Ω hik),←je (i:=s) (n:=l.length) Ω (λk hk hik=>qM hkn Ω Ω)]
     |const c=>rfl
     |global c=>rfl
     |func c=>rfl
    have hx2:env (look st2.fr) (.tmp mm)=.mp mid:=hmp2 (xa5 _) (hseen mm (by rw[hope];simp[Op.operands]));have fin:∀(D:Value→Bool)(G:Value→SV)(w:SV),D=V0 dom v→G=YM dom get v z→w=(if dom v=true then get v else z)→∀(stamp:Value→Nat)(c:Nat),∃st4,Weak O ((⟨st2.fr,setBlk st2.hp mid (.mapS (qk ag ls) D G stamp c),st2.nid⟩:St).putI o.dst (.tup [w,.val (.int .i64 (stamp v))])) st4∧∃σ clk,((∀u,(u≠te∧u≠tx)∨(m ||| 2^j).testBit s=false→look st4.fr u=FS (nth (dsts l)) (rs σ) (m ||| 2^j).testBit (look st.fr) l.length u)∧((m ||| 2^j).testBit s=true→look st4.fr te=.top∧look st4.fr tx=.top))∧(∀i,blk st4.hp i=if i=mid then some (M (m ||| 2^j).testBit σ clk)else blk (UH (but up s) (m ||| 2^j).testBit st.hp l.length) i)∧st4.nid+cnt (m ||| 2^j).testBit l.length=st.nid+l.length:=by
     intro D G w hD hG hw stamp c;subst hD;subst hG;subst hw;refine⟨_,qdk O _,next Ω stamp c _ (λi hi=>?_) (λu=>?_) (λi=>?_) (by rw[kV])⟩
     ·have n1:i≠j:=λe=>by subst e;rw[hbit]at hi;cases hi
      have n2:i≠x:=λe=>by subst e;rw[hxf]at hi;cases hi
      simp only[rs,if_neg n1,if_neg n2]
     ·rw[hdse]
      show look (putIn st2.fr te _) u=_;rw[wd];by_cases cu:u=te
      ·subst cu;simp[rs]
      ·rw[if_neg cu,if_neg (λe=>cu (Option.some.inj e).symm)]
     ·have e1:(m ||| 2^j).testBit s=false:=by rw[hS,hsf];simp;omega
      have e2:(m ||| 2^j).testBit j=true:=by rw[hS];simp
      have hub:but up s j=none:=by
       have:up j=none:=(hquiet j o ho (.inl rfl)).2.2;simp only[but,this,ite_self]
      rw[QP hS hub];have e3:∀(st5:St) d w,(st5.putI d w).hp=st5.hp:=λst5 d w=>by cases d<;>rfl
      simp only[e3];rw[qp];by_cases ci:i=mid
      ·subst ci
       rw[if_pos rfl,if_pos rfl,hb];simp only[M,e1,e2,xe7,if_false,if_true,hfit];rfl
      ·rw[if_neg ci,if_neg ci,hhp,if_neg ci]
    unfold opH zi;rw[hgd];refine .inr ⟨by rw[hope];rfl,.inl ?_⟩;rw[hope];cases hd:dom v with
    |true=>exact VJ hx2 hkk hmi hb hkv hd λstamp c=>fin _ _ _ (by simp[V0,hd]) (by simp[YM,hd]) (by simp[hd]) stamp c
    |false=>exact ZK hx2 hkk hmi hb hkv hd λstamp c=>fin _ _ _ (by simp[V0,hd]) (by simp[YM,hd]) (by simp[hd]) stamp c
   ·subst cj
    have hoo:o=ox:=by rw[hox]at ho;exact(Option.some.inj ho).symm
    subst hoo;have hsf:m.testBit s=false:=by
     cases hv:m.testBit s with
     |false=>rfl
     |true=>have:=hclm _ _ hsx hv;rw[hbit]at this;cases this
    have hte2:look st2.fr te=rs σ e:=by
     rw[hfr _ (.inr hsf)];exact VZ hde (hpre e hxe Ω) Ω hte
    have hre:rs σ e=.tup [if dom v=true then get v else z,.val (.int .i64 (σ v))]:=by simp[rs]
    have hrx:rs σ j=.val (.int .i64 (σ v)):=by simp only[rs,if_neg (Ω:j≠e),if_true]
    unfold opH zi;rw[hgd];refine .inl ?_;rw[hopx];simp only[stepR,env,hte2,hre,rExtract];refine⟨.val (.int .i64 (σ v)),rfl,_,Weak.refl _ _,next Ω σ clk _ (λ_ _=>rfl) (λu=>?_) (λi=>?_) (by rw[qy])⟩
    ·rw[jl,hrx]
     have:=congrFun (kE st2.fr st2.hp st2.nid o.dst (.val (.int .i64 (σ v)))) u;exact this
    ·have e1:(m ||| 2^j).testBit s=m.testBit s:=by rw[hS];simp;omega
     have e2:(m ||| 2^j).testBit e=m.testBit e:=by rw[hS];simp;omega
     have hub:but up s j=none:=by
      have:up j=none:=(hquiet j o ho (.inr rfl)).2.2;simp only[but,this,ite_self]
     have hMS:M (m ||| 2^j).testBit σ clk=M m.testBit σ clk:=by simp only[M,e1,e2]
     show blk (st2.put o.dst _).hp i=_;rw[zs,hhp,hMS,QP hS hub]
   ·subst cj
    have hoo:o=os:=by rw[hos]at ho;exact(Option.some.inj ho).symm
    subst hoo;have hseen:∀u,.tmp u∈o.op.operands.toList→u∈seen (dsts l) o:=λu hu=>by
     simp only[seen,xd4];exact .inl (List.mem_filterMap.2 ⟨.tmp u,hu,rfl⟩)
    have hx2:env (look st2.fr) (.tmp mm)=.mp mid:=hmp2 Ω (hseen mm (by rw[hops_];simp[Op.operands]));have htx2:env (look st2.fr) (.tmp tx)=.val (.int .i64 (σ v)):=by
     show look st2.fr tx=_;rw[hfr _ (.inr hbit),VZ hdx (hpre x hsx Ω) Ω htx];simp only[rs,if_neg (Ω:x≠e),if_true]
    have hb:=hhp mid;rw[if_pos rfl]at hb;simp only[M,hbit,hpre e hse Ω,xe7,if_false,if_true]at hb;have hyv:env (look st2.fr) y=xv:=by
     rw[←hxv];cases y with
     |tmp yy=>
      simp only[qic,xe6,Bool.not_eq_true']at hyn;show look st2.fr yy=FS (nth (dsts l)) res (λ_=>true) (look st.fr) j yy;have n1:yy≠te:=λc=>by rw[c]at hyn;simp at hyn
      have n2:yy≠tx:=λc=>by rw[c]at hyn;simp at hyn
      rw[hfr _ (.inl ⟨n1,n2⟩),hrs _ _ _ _ (xa5 _) n1 n2];exact hlook _ _ (hseen yy (by rw[hops_];simp[Op.operands]))
     |const c=>rfl
     |global c=>rfl
     |func c=>rfl
    obtain⟨kt,et,ii,hu,hki,hinf,-⟩:=zE hmi;have hself:eqK v v=true:=(ja hki hkv hkv).2 rfl;have hdv:V0 dom v v=true:=by
     rw[V1 (get:=get) (z:=z) (xv:=xv) |>.1];simp[qD,hself]
    unfold opH zi;rw[hgd];refine .inr ⟨by rw[hops_];rfl,.inr ?_⟩;rw[hops_];refine ZL hki hfit hx2 htx2 hb hdv ?_;rw[hyv,hdss];have e1:(m ||| 2^j).testBit j=true:=by rw[hS];simp
    refine⟨_,(qdk O _).trans (qkL O _ te tx),σ,clk,⟨λu hu=>?_,λ_=>⟨?_,?_⟩⟩,λi=>?_,?_⟩
    ·rw[e1]at hu
     obtain⟨n1,n2⟩:=hu.resolve_right Ωi;show look (putFr (putFr st2.fr te .top) tx .top) u=_;rw[zh,if_neg n2,zh,if_neg n1,hfr u (.inl ⟨n1,n2⟩),Gg hS hjl (hlater u),hdS,if_neg Ωi]
    ·show look (putFr (putFr st2.fr te .top) tx .top) te=_
     rw[zh,if_neg hne,zh,if_pos rfl]
    ·show look (putFr (putFr st2.fr te .top) tx .top) tx=_
     rw[zh,if_pos rfl]
    rotate_left
    ·have:=(jd (S:=m.testBit) (S':=(m ||| 2^j).testBit) hS hbit (n:=l.length)).2 hjl
     show st2.nid+1+_=_;omega
    show blk (setBlk st2.hp mid _) i=_;have hub:but up j j=none:=by simp[but]
    rw[qp,QP hS hub];by_cases ci:i=mid
    ·subst ci
     rw[if_pos rfl,if_pos rfl,hb];simp only[M,e1,if_true];rw[(V1 (get:=get) (z:=z) (xv:=xv)).1,(V1 (dom:=dom) (z:=z)).2];rfl
    ·rw[if_neg ci,if_neg ci,hhp,if_neg ci]
  ·have c1:j≠e:=λc=>cj (.inl c)
   have c2:j≠x:=λc=>cj (.inr (.inl c));have c3:j≠s:=λc=>cj (.inr (.inr c));have hat1:=hat j o ho c1 c2 c3;obtain⟨hcls1,hnte,hntx⟩:yK (dsts l) (zu [] l) t e s j o=true∧Qf te o=true∧Qf tx o=true:=by
    rcases(hcl j o ho).2 with c|c|c|c
    ·exact absurd c c1
    ·exact absurd c c2
    ·exact absurd c c3
    ·exact c
   have hslot:∀u,.tmp u∈o.op.operands.toList→look st2.fr u=FS (nth (dsts l)) res (λ_=>true) (look st.fr) j u:=λu hu=>by
    have hm1:u∈kO o:=List.mem_filterMap.2 ⟨.tmp u,hu,rfl⟩;rw[hfr _ (.inl ⟨λc=>(g7 hnte).1 (c▸hm1),λc=>(g7 hntx).1 (c▸hm1)⟩),hrs _ _ _ _ (xa5 _) (λc=>(g7 hnte).1 (c▸hm1)) (λc=>(g7 hntx).1 (c▸hm1))];exact hlook _ _ (by simp only[seen,xd4];exact .inl hm1)
   have hfx0:∀i oi,l[i]? = some oi→i≠e→i≠x→i≠s→(qfu e x s 0 l)[i]? = some oi:=λi oi hoi h1 h2 h3=>by
    have:=YJ (e:=e) (x:=x) (s:=s) (i:=0) hoi;rw[xb0,if_neg (by rintro(h|h|h)<;>contradiction)]at this;exact this
   have hchg:∀i X b,i<l.length→X≠mid→up i=some (X,b)→i≠e∧i≠x∧i≠s∧∃oi ty b' v',l[i]? = some oi∧oi.op=.store ty (.tmp b') v'∧zt (dsts l) i b'=true∧qW (look st1.fr b')=some X:=λi X b hi hX hu=>by
    have hoi:l[i]? = some l[i]:=by simp[hi]
    have hne:¬(i=e∨i=x):=λc=>by
     have:=(hquiet i _ hoi c).2.2;rw[hu]at this;cases this
    have hns:i≠s:=λc=>by
     subst c;rw[hups]at hu;injection hu with hu;injection hu with hu;exact hX hu.symm
    obtain⟨ty,b',v',a1,a2,a3,a4⟩:=(hord i _ hoi (λc=>hne (.inl c)) (λc=>hne (.inr c)) hns).2 _ _ hu;exact⟨λc=>hne (.inl c),λc=>hne (.inr c),hns,_,ty,b',v',hoi,a1,a2,a4⟩
   have hrd:vv o.op=true→∀X,X≠mid→(∀ty a,o.op=.load ty (.tmp a)→qW (FS (nth (dsts l)) res (λ_=>true) (look st.fr) j a)=some X)→∀i,i<l.length→∀b,up i=some (X,b)→(m.testBit i=true↔i<j):=by
    intro hro X hX hld i hi b hu;obtain⟨n1,n2,n3,oi,ty,b',v',hoi,a1,a2,a3⟩:=hchg i X b hi hX hu;have f1:=hfx0 i oi hoi n1 n2 n3;have f2:=hfx0 j o ho c1 c2 c3;have hui:qV oi.op=true:=by rw[a1];rfl
    constructor
    ·intro hs
     refine xf9 λhge=>?_;by_cases c:i=j
     ·subst c;rw[hbit]at hs;cases hs
     ·rcases zT hpair f2 f1 Ω with hb|⟨_,hb,_⟩|⟨t4,a4,t5,b5,y5,e1,e2,hmem4,hn1,hn2⟩
      ·have:=hclm _ _ hb hs
       rw[hbit]at this;cases this
      ·exact hb ⟨hro,hui⟩
      ·rw[a1]at e2
       injection e2 with _ e2 _;injection e2 with e2;subst e2;have h1:=hld _ _ e1;have h3:=hfar _ _ hmem4;rw[←je (i:=j) (n:=l.length) Ω (λk hk hik=>qM hn1 Ω hik),←hF1]at h1;unfold vt at h3;rw[h1,a3]at h3;exact h3 rfl
    ·intro hlt
     rcases zT hpair f1 f2 hlt with hb|⟨_,_,hb⟩|⟨t4,a4,t5,b5,y5,e1,e2,hmem4,hn1,hn2⟩
     ·exact hpre i hb Ω
     ·exact(hb ⟨hui,hro⟩).elim
     ·rw[e1]at a1;cases a1
   have hrsj:rs σ j=res j:=by simp only[rs,if_neg c1,if_neg c2]
   have hMS:M (m ||| 2^j).testBit σ clk=M m.testBit σ clk:=by
    have e1:(m ||| 2^j).testBit s=m.testBit s:=by rw[hS];simp[Ne.symm c3]
    have e2:(m ||| 2^j).testBit e=m.testBit e:=by rw[hS];simp[Ne.symm c1]
    simp only[M,e1,e2]
   have hlk:∀sv u,look (inD o.dst (st2.put o.dst sv).fr) u=if o.dst=some u then sv else look st2.fr u:=λsv u=>by
    rw[jl];have:=congrFun (kE st2.fr st2.hp st2.nid o.dst sv) u;exact this
   have kfin:up j=none→∀sv,sv=res j→∃st4,Weak O ⟨inD o.dst (st2.put o.dst sv).fr,(st2.put o.dst sv).hp,(st2.put o.dst sv).nid+1⟩ st4∧∃σ clk,((∀u,(u≠te∧u≠tx)∨(m ||| 2^j).testBit s=false→look st4.fr u=FS (nth (dsts l)) (rs σ) (m ||| 2^j).testBit (look st.fr) l.length u)∧((m ||| 2^j).testBit s=true→look st4.fr te=.top∧look st4.fr tx=.top))∧(∀i,blk st4.hp i=if i=mid then some (M (m ||| 2^j).testBit σ clk)else blk (UH (but up s) (m ||| 2^j).testBit st.hp l.length) i)∧st4.nid+cnt (m ||| 2^j).testBit l.length=st.nid+l.length:=λhu sv hsv=>by
    subst hsv;refine⟨_,Weak.refl _ _,next c3 σ clk _ (λ_ _=>rfl) (λu=>by rw[hrsj];exact hlk _ u) (λi=>?_) (by rw[qy])⟩;have hub:but up s j=none:=by simp only[but,hu,ite_self]
    show blk (st2.put o.dst (res j)).hp i=_;rw[zs,hhp,hMS,QP hS hub]
   unfold opH zi;rw[hgd];refine .inl ?_;have run:(kU o.op=true)→stepR P (look st2.fr) st2.hp o.op=stepR P (FS (nth (dsts l)) res (λ_=>true) (look st.fr) j) (TH st.nid nb up st.hp j) o.op→qV o.op=false→(jx o.op=true∨∃t x k ok,o.op=.lookup t x k ok)→QY P O (Tag.mk:Tag True) (Tag.mk:Tag o.op) o.dst st2.nid st2 (λst'=>∃st4,Weak O ⟨inD o.dst st'.fr,st'.hp,st'.nid+1⟩ st4∧∃σ clk,((∀u,(u≠te∧u≠tx)∨(m ||| 2^j).testBit s=false→look st4.fr u=FS (nth (dsts l)) (rs σ) (m ||| 2^j).testBit (look st.fr) l.length u)∧((m ||| 2^j).testBit s=true→look st4.fr te=.top∧look st4.fr tx=.top))∧(∀i,blk st4.hp i=if i=mid then some (M (m ||| 2^j).testBit σ clk)else blk (UH (but up s) (m ||| 2^j).testBit st.hp l.length) i)∧st4.nid+cnt (m ||| 2^j).testBit l.length=st.nid+l.length) .mk (stepR P (look st2.fr) st2.hp o.op):=λhca hst hnu hpl=>by
    rw[hst];generalize hr1:res j=a1 at hat1 kfin;generalize hr2:nb j=a2 at hat1;generalize hr3:up j=a3 at hat1 kfin;cases hat1 with
    |skip hg=>simp[gW,hgd]at hg
    |upd obl t b hg h ho=>rcases z8 (P:=P) hpl with⟨_,_,e1⟩|⟨_,e1⟩|e1<;>rw[e1]at h<;>cases h
    |run sv nb hg hca hr=>
     cases hr with
     |pure obl sv h ho=>rw[h];exact⟨ho,kfin rfl _ rfl⟩
     |ex obl sv h ho=>rw[h];exact⟨_,ho,kfin rfl _ rfl⟩
     |new obl b mk h ho=>rcases z8 (P:=P) hpl with⟨_,_,e1⟩|⟨_,e1⟩|e1<;>rw[e1]at h<;>cases h
     |call f args res h hc=>rcases z8 (P:=P) hpl with⟨_,_,e1⟩|⟨_,e1⟩|e1<;>rw[e1]at h<;>cases h
     |callN f args pats b res h hc hs=>rcases z8 (P:=P) hpl with⟨_,_,e1⟩|⟨_,e1⟩|e1<;>rw[e1]at h<;>cases h
   have hne:stepR P (FS (nth (dsts l)) res (λ_=>true) (look st.fr) j) (TH st.nid nb up st.hp j) o.op≠.bad:=λhb=>by
    generalize res j=a1 at hat1;generalize nb j=a2 at hat1;generalize up j=a3 at hat1;cases hat1 with
    |skip hg=>simp[gW,hgd]at hg
    |upd obl t b hg h ho=>rw[hb]at h;cases h
    |run sv nb hg hca hr=>
     cases hr with
     |pure obl sv h ho=>rw[hb]at h;cases h
     |ex obl sv h ho=>rw[hb]at h;cases h
     |new obl b mk h ho=>rw[hb]at h;cases h
     |call f args res h hc=>rw[hb]at h;cases h
     |callN f args pats b res h hc hs=>rw[hb]at h;cases h
   rcases jJ hcls1 with⟨hpl,hldn⟩|⟨xm,kk,hop,hlt,hbs⟩|⟨ty,b,v',hop,hnf,hdn⟩
   ·have hca:kU o.op=true:=by generalize o.op=op at hpl;cases op<;>first|(simp[jx]at hpl;done)|rfl
    refine run hca ?_ (qaJ hca) (.inl hpl);rw[yj (.inl hpl) hslot];cases hro:vv o.op with
    |false=>exact Ka _ hca hro
    |true=>
     obtain⟨ty,a,hop⟩:∃ty a,o.op=.load ty (.tmp a):=by
      generalize o.op=op at hpl hro ⊢;unfold jx at hpl;split at hpl<;>first|(cases hro;done)|exact⟨_,_,rfl⟩|(cases hpl;done)
     have hnf:=hldn _ _ hop;rw[hop]at hne ⊢;refine w6 (λX y hX hy=>?_) hne;have hX':qW (look st1.fr a)=some X:=by
      rw[hF1,je (i:=j) Ω (λk hk hik=>qM hnf Ω hik)];exact hX
     have hXm:X≠mid:=λc=>by
      subst c;exact hadr a ((yL ho).1 _ _ hop) hX'
     rw[hmem X hXm (hrd hro X hXm λty' a' e=>by rw[hop]at e;cases e;exact hX)];exact hy
   ·have hsf:m.testBit s=false:=by
     cases hv:m.testBit s with
     |false=>rfl
     |true=>have:=hclm _ _ hbs hv;rw[hbit]at this;cases this
    refine run (by rw[hop];rfl) ?_ (by rw[hop];rfl) (.inr ⟨_,_,_,_,hop⟩);rw[yj (.inr (.inl ⟨_,_,_,_,hop⟩)) hslot,hop];simp only[stepR,hmi];generalize hA:env (FS (nth (dsts l)) res (λ_=>true) (look st.fr) j) xm=A;generalize env (FS (nth (dsts l)) res (λ_=>true) (look st.fr) j) kk=B;by_cases cA:A=.mp mid
    ·subst cA
     have h1:blk (TH st.nid nb up st.hp j) mid=some (.map fit dom get):=by
      rw[hTH j Ω,←hmap];exact w7 λi hi _ t' b hu e=>by
       subst e;have:=hup i b Ω hu;omega
     have h2:=hhp mid;rw[if_pos rfl]at h2;simp only[M,hsf,xe7,if_false]at h2;simp only[rLookup,mapOf,h1,h2];by_cases ce:m.testBit e=true
     ·simp only[ce,if_true]
      cases keyV B with
      |none=>rfl
      |some u=>
       simp only[xe7,if_false];rw[qie]
     ·simp only[ce,xe7,if_false]
    ·have:mapOf st2.hp A=mapOf (TH st.nid nb up st.hp j) A:=by
      cases A<;>first|rfl|skip
      case mp id'=>
       have hXm:id'≠mid:=λc=>cA (by rw[c]);simp only[mapOf];rw[hmem id' hXm (hrd (by rw[hop];rfl) id' hXm λty a e=>by rw[hop]at e;cases e)]
     simp only[rLookup,this]
   ·have hwr:∀i,i<l.length→but up s i≠none→(m.testBit i=true↔i<j):=λi hi hu=>by
     have hns:i≠s:=λc=>hu (by simp[but,c]);have hu':up i≠none:=λc=>hu (by simp[but,c]);have hoi:l[i]? = some l[i]:=by simp[hi]
     have hne:¬(i=e∨i=x):=λc=>hu' (hquiet i _ hoi c).2.2;obtain⟨p,hp⟩:=Option.ne_none_iff_exists'.1 hu';obtain⟨X,b2⟩:=p;obtain⟨ty2,b3,v3,a1,-,-,-⟩:=(hord i _ hoi (λc=>hne (.inl c)) (λc=>hne (.inr c)) hns).2 _ _ hp;have f1:=hfx0 i _ hoi (λc=>hne (.inl c)) (λc=>hne (.inr c)) hns;have f2:=hfx0 j o ho c1 c2 c3;have hui:qV (l[i]).op=true:=by rw[a1];rfl
     have huj:qV o.op=true:=by rw[hop];rfl
     constructor
     ·intro hs
      refine xf9 λhge=>?_;by_cases c:i=j
      ·subst c;rw[hbit]at hs;cases hs
      ·rcases zT hpair f2 f1 Ω with hb|⟨hb,_,_⟩|⟨t4,a4,t5,b5,y5,e1,e2,hmem4,hn1,hn2⟩
       ·have:=hclm _ _ hb hs
        rw[hbit]at this;cases this
       ·exact hb ⟨huj,hui⟩
       ·rw[hop]at e1;cases e1
     ·intro hlt
      rcases zT hpair f1 f2 hlt with hb|⟨hb,_,_⟩|⟨t4,a4,t5,b5,y5,e1,e2,hmem4,hn1,hn2⟩
      ·exact hpre i hb Ω
      ·exact(hb ⟨hui,huj⟩).elim
      ·rw[a1]at e1;cases e1
    generalize hr1:res j=a1 at hat1 kfin;generalize hr2:nb j=a2 at hat1;generalize hr3:up j=a3 at hat1 kfin;cases hat1 with
    |skip hg=>simp[gW,hgd]at hg
    |run sv nb hg hca hr=>rw[hop]at hca;cases hca
    |upd obl X bb hg h hobl=>
     rw[hop]at h;have hX:=jw h;have hX':qW (look st1.fr b)=some X:=by
      rw[hF1,je (i:=j) Ω (λk hk hik=>qM hnf Ω hik)];exact hX
     have hXm:X≠mid:=λc=>by
      subst c;exact hadr b ((yL ho).2 _ _ _ hop) hX'
     have hcond:∀i,i<l.length→∀b2,up i=some (X,b2)→(m.testBit i=true↔i<j):=λi hi b2 hu=>by
      have hns:i≠s:=λc=>by
       subst c;rw[hups]at hu;injection hu with hu;injection hu with hu;exact hXm hu.symm
      exact hwr i hi (by simp[but,hns,hu])
     have hst:stepR P (look st2.fr) st2.hp o.op=.upd obl X bb:=by
      rw[yj (.inr (.inr ⟨_,_,_,hop⟩)) hslot,hop];have h':=h;simp only[stepR]at h ⊢;rw[qbA (hp:=TH st.nid nb up st.hp j) (λid y hid hy=>?_) (by rw[h];simp),h];rw[hX]at hid;injection hid with hid;subst hid;rw[hmem X hXm hcond];exact hy
     rw[hst];refine⟨hobl,_,Weak.refl _ _,?_⟩;have hub:but up s j=some (X,bb):=by simp only[but,if_neg c3,hr3]
     refine next c3 σ clk _ (λ_ _=>rfl) (λu=>?_) (λi=>?_) (by simp[hdn,St.put])
     ·rw[hdn]
      simp only[reduceCtorEq,if_false];rw[jl];rfl
     ·rw[hdn]
      show blk (setBlk st2.hp X bb) i=_;rw[qp,hMS,qaL hS hjl hub hwr,qp];by_cases ci:i=X
      ·subst ci
       rw[if_pos rfl,if_neg hXm,if_pos rfl,hhp,if_neg hXm]
      ·rw[if_neg ci,if_neg ci,hhp]
 ·rintro m st2 ⟨σ,clk,⟨hfr,htop⟩,hhp,hnid⟩ hall
  refine hk1 st2 (λu=>?_) (λj=>?_) ?_
  ·by_cases h1:u=te
   ·rw[if_pos (.inl h1),h1];exact(htop (hall s hsl)).1
   by_cases h2:u=tx
   ·rw[if_pos (.inr h2),h2];exact(htop (hall s hsl)).2
   rw[if_neg (by rintro(h|h)<;>contradiction),hfr u (.inl ⟨h1,h2⟩),hrs _ _ _ _ (xa5 _) h1 h2,hF1];exact wX (xa5 _) λj hj _=>by simp[hall j hj,hj]
  ·rw[hhp]
   split
   ·rename_i c
    subst c;simp only[M,hall s hsl,if_true];exact hfin.symm
   ·rename_i c
    rw[hh1,hTH _ (xa5 _),←qbC (up:=up) (s:=s) (λt' b hu=>by rw[hups]at hu;injection hu with hu;injection hu with hu;rw[←hu];exact λe=>c e.symm)];rw[w8 λj hj _=>hall j hj]
  ·rw[qdl hall]at hnid
   omega
end
def qbD:Nat→List Oper→Nat
 |i,[]=>i
 |i,o :: r=>match o.op with
  |.mapEntry _ _ _=>i
  |_=>qbD (i+1) r
noncomputable def entQ(e:Nat)(oe ox os:Oper):Option EI:=
 match oe.op,oe.dst with
 |.mapEntry t (.tmp mm) k,some te=>match ox.op,ox.dst with
  |.extract (.tmp te') 1,some tx=>match os.op,os.dst with
   |.entryStore t' (.tmp mm') (.tmp tx') y,none=>Bool.rec none (some ⟨e,e+1,e+2,te,tx,t,mm,k,y⟩) (Nat.beq te te'&&(Nat.beq t t'&&(Nat.beq mm mm'&&(Nat.beq tx tx'&&!(Nat.beq te tx)))))
   |_,_=>none
  |_,_=>none
 |_,_=>none
noncomputable def entI(l:List Oper):Option EI:=
 let e:=qbD 0 l
 match l[e]?,l[e+1]?,l[e+2]? with
 |some oe,some ox,some os=>entQ e oe ox os
 |_,_,_=>none
theorem qkM{l:List Oper}{q:EI}(h:entI l=some q):Ent q l:=by
 unfold entI at h;dsimp only at h;generalize qbD 0 l=e at h;split at h
 ·rename_i oe ox os h1 h2 h3
  unfold entQ at h;split at h
  ·rename_i t mm k te e1 e2
   split at h
   ·rename_i te' tx e3 e4
    split at h
    ·rename_i t' mm' tx' y e5 e6
     cases hb:(Nat.beq te te'&&(Nat.beq t t'&&(Nat.beq mm mm'&&(Nat.beq tx tx'&&!(Nat.beq te tx)))))with
     |false=>rw[hb]at h;cases h
     |true=>
      rw[hb]at h;injection h with h;subst h;simp only[xe6,Bool.not_eq_true']at hb;obtain⟨b1,b2,b3,b4,b5⟩:=hb;have b1:=xa6 b1;have b2:=xa6 b2;have b3:=xa6 b3;have b4:=xa6 b4;subst b1;subst b2;subst b3;subst b4;exact⟨xb5 e,xb5 (e+1),λc=>(by rw[show te=tx from c,Nat.beq_refl]at b5;cases b5),⟨oe,h1,e1,e2⟩,⟨ox,h2,e3,e4⟩,⟨os,h3,e5,e6⟩⟩
    ·cases h
   ·cases h
  ·cases h
 ·cases h
end Go.Sx
end
section
namespace Go.Sx
open Go.RowKit
variable{O:Ctx}{st:St}
section
variable{P:Program}
def qkN(P:Program)(O:Ctx)(ops:List Oper)(ms:List Nat)(inv:Nat→St→Prop)(i:Nat)(o:Oper):Prop:=
 ∀m st,inv m st→qcz ms m→m.testBit i=false→(∀j,(ms.getD i 0).testBit j=true→j≠i→m.testBit j=true)→
  ∃st1,Weak O st st1∧opH P O (dsts ops) o st1 λst2=>∃st3,Weak O st2 st3∧inv (m ||| 2^i) st3
theorem GQ(hm:P.follows .mixedOrders=true){st0:St}{K:Ex→St→Prop}{id:Nat}{ops:List Oper}(inv:Nat→St→Prop){ms:List Nat}(hms:zu [] ops=ms)(hedge:jc 0 ops=true)(hw0:Weak O st st0)(h0:inv 0 st0)(hs:ya (qkN P O ops ms inv) 0 ops)
  (hend:∀m st',inv m st'→(∀i,i<ops.length→m.testBit i=true)→∃st2,Weak O st' st2∧K .normal st2) {g:Tag K}:w9 P O id ops true st K g:=by
 subst hms;intro base okc ns outs a w ro Q hro hc hi hK
 replace hi:=hw0 _ _ _ _ _ _ hi
 simp only[qF,xe6]at hc;obtain⟨hd,-⟩:=hc;have hd:ops.all (kT ns)=true:=by simpa using hd
 have hn:ops.toArray.size=ops.length:=by simp
 have hget:∀j:Nat,ops.toArray[j]? = ops[j]?:=λj=>by simp
 have hedge:=gy hedge;have hclosed:∀(S:Nat→Bool)(i:Nat),ge ops S→(∃o,ops[i]? = some o∧∀e∈o.after,Region.binds .any e=true→S e.on=true)→ge ops (λj=>S j || decide (j=i)):=by
  rintro S i hc ⟨o,ho,he⟩ j oj hoj hS e hm' hb;simp only[xe8,decide_eq_true_eq]at hS ⊢;rcases hS with hS|hS
  ·exact .inl (hc j oj hoj hS e hm' hb)
  ·subst hS
   rw[ho]at hoj;cases hoj;exact .inl (he e hm' hb)
 have hready:∀(listed:Array Bool)(i:Nat),listed.size=ops.length→i∈Region.ready .any ops.toArray listed→i<ops.length∧listed.getD i false=false∧∃o,ops[i]? = some o∧∀e∈o.after,Region.binds .any e=true→listed.getD e.on false=true:=by
  intro listed i hsz hi;obtain⟨h1,o,h2,h3⟩:=mem_ready.1 hi;rw[hget]at h2;have hlt:i<ops.length:=(List.getElem?_eq_some_iff.1 h2).1;refine⟨hlt,?_,o,h2,h3⟩;have:i<listed.size:=by omega
  simpa[this]using h1
 have hleast:∀(listed:Array Bool),listed.size=ops.length→∀i,i<ops.length→listed.getD i false=false→∃j,j≤i∧j∈Region.ready .any ops.toArray listed:=by
  intro listed hsz i
  induction i using Nat.strongRecOn with
  |_ i ih=>
   intro hi hf;obtain⟨o,ho⟩:∃o,ops[i]? = some o:=⟨ops[i],by simp[hi]⟩;by_cases hall:∀e∈o.after,Region.binds .any e=true→listed.getD e.on false=true
   ·refine⟨i,xa5 _,mem_ready.2 ⟨?_,o,by rw[hget];exact ho,hall⟩⟩
    have:i<listed.size:=by omega
    simpa[this]using hf
   ·have:∃e,e∈o.after∧Region.binds .any e=true∧listed.getD e.on false=false:=by
     refine xf9 λhno=>hall λe he hb=>?_;cases hv:listed.getD e.on false with
     |true=>rfl
     |false=>exact(hno ⟨e,he,hb,hv⟩).elim
    obtain⟨e,he,hb,hv⟩:=this;have hlt:=hedge i o ho e he hb;rw[xb0]at hlt;obtain⟨j,hj,hr⟩:=ih e.on hlt Ω hv;exact⟨j,Ω,hr⟩
 have main:∀(fuel:Nat)(listed:Array Bool)(m:Nat)(st:St)(a:Act)(w:World),listed.size=ops.length→(∀i,listed.getD i false=m.testBit i)→ge ops (λi=>listed.getD i false)→cnt (λi=>listed.getD i false) ops.length=fuel→
   inv m st→Inv O base okc ns st.nid outs st a w→wpAnyIn (FR ro) 0 P .any ops.toArray Q fuel listed a w:=by
  intro fuel
  induction fuel with
  |zero=>
   intro listed m st a w hsz hbit hcl hcnt hin hi;have hall:=wY hcnt;obtain⟨st2,hw2,hk2⟩:=hend m st hin λi hi=>by rw[←hbit];exact hall i hi
   refine⟨?_,hK .normal st2 a w hk2 (hw2 _ _ _ _ _ _ hi)⟩;cases hr:Region.ready .any ops.toArray listed with
   |nil=>rfl
   |cons x xs=>
    obtain⟨h1,h2,-⟩:=hready listed x hsz Ω3;have:=hall x h1;simp only[h2]at this;cases this
  |succ fuel ih=>
   intro listed m st a w hsz hbit hcl hcnt hin hi;refine⟨λh=>?_,λi hir=>?_⟩
   ·exfalso
    have:∃x,x<ops.length∧listed.getD x false=false:=by
     refine xf9 λhno=>?_;have:∀n,n≤ops.length→cnt (λi=>listed.getD i false) n=0:=by
      intro n
      induction n with
      |zero=>intro _;rfl
      |succ n ihn=>
       intro hn';simp only[cnt];rw[ihn Ω];have hv:listed.getD n false=true:=by
        refine xf9 λhv=>hno ⟨n,Ω,(by simpa using hv)⟩
       rw[if_pos hv]
     rw[this _ (xa5 _)]at hcnt;cases hcnt
    obtain⟨x,hx,hxf⟩:=this;obtain⟨y,_,hr⟩:=hleast listed hsz x hx hxf;rw[h]at hr;cases hr
   ·obtain⟨hil,hif,o,ho,hie⟩:=hready listed i hsz hir
    have hcl':=hclosed _ i hcl ⟨o,ho,hie⟩;have hS:∀x,(listed.setIfInBounds i true).getD x false=(listed.getD x false || decide (x=i)):=λx=>wZ Ω;have hop:=Qq hs i o ho;rw[xb0]at hop;have hop:=hop m st hin (λj x hb hj=>by
     rw[←hbit]at hj ⊢;exact qE (S:=λi=>listed.getD i false) hcl hb hj) (by rw[←hbit];exact hif) (λj hb hne=>by
     have:=qE hcl' hb Ωi;simp only[xe8,decide_eq_true_eq]at this;rw[←hbit];exact this.resolve_right hne)
    have hdo:kT ns o=true:=List.all_eq_true.1 hd o (List.mem_of_getElem? ho);unfold wpOpIn;simp only[hget,ho];obtain⟨st1,hw1,hop⟩:=hop;refine VH (ops:=ops.toArray) (hw1 _ _ _ _ _ _ hi) hdo (by simpa using hop) λst' a' w' hst3 hi'=>?_;obtain⟨st3,hw,hin'⟩:=hst3;refine ih _ (m ||| 2^i) st3 a' w' (by simpa using hsz) (λx=>?_) ?_ ?_ hin' (hw _ _ _ _ _ _ hi')
    ·rw[hS,hbit,Nat.testBit_or,Nat.testBit_two_pow]
     congr 1
     simp[eq_comm]
    ·have:(λx=>(listed.setIfInBounds i true).getD x false)=λx=>listed.getD x false || decide (x=i):=funext hS
     rw[this];exact hcl'
    ·have:=(jd (S:=λi=>listed.getD i false) (S':=λx=>(listed.setIfInBounds i true).getD x false) hS hif (n:=ops.length)).2 hil
     omega
 refine wpIn_region_any hm ?_;rw[hn];have hrep0:∀i,(Array.replicate ops.length false).getD i false=false:=λi=>by simp only[xf5,Array.getElem?_replicate];split<;>rfl
 obtain⟨r0,hr0⟩:=hi;have hdrew:Below w.heap.size w { w with drawn:=w.drawn+1 }:=⟨rfl,rfl,rfl,xa5 _,λ_ _=>rfl⟩;have hi1:InvR O base okc ns st0.nid r0 outs st0 a { w with drawn:=w.drawn+1 }:=hr0.step (hr0.sat.grow hdrew) hr0.keys (xa5 _) (d:=none) (λt ht=>by cases ht) (.top undef);refine main ops.length (Array.replicate ops.length false) 0 st0 a _ Ωi (λi=>by rw[hrep0];simp) ?_ ?_ h0 ⟨r0,hi1⟩
 ·intro j o ho hS;simp only[hrep0]at hS;cases hS
 ·have key:∀n,cnt (λi=>(Array.replicate ops.length false).getD i false) n=n:=by
   intro n
   induction n with
   |zero=>rfl
   |succ n ihn=>
    simp only[cnt,ihn];rw[if_neg (by rw[hrep0];simp)]
  exact key _
theorem Qy(O:Ctx)(st:St):∀n,st.nid≤n→Weak O st { st with nid:=n }:=by
 intro n h;obtain⟨d,rfl⟩:∃d,n=st.nid+d:=⟨n - st.nid,Ω⟩;clear h
 induction d with
 |zero=>exact Weak.refl _ _
 |succ d ih=>exact ih.trans (λbase okc ns outs a w h=>by
   obtain⟨r,h⟩:=h;have s:=h.sat.more (N':=(· < st.nid+d+1)) (λx hx=>Nat.lt_succ_of_lt hx) (λx y hy _=>h.keys x y hy);exact⟨r,(h.step s (λid x hx=>Nat.lt_succ_of_lt (h.keys id x hx)) (xc4 _) (d:=none) (λt ht=>by cases ht) (.top undef)).nid (st.nid+d+1)⟩)
theorem j8{F F':Nat→SV}:∀{l:List Operand},(∀x∈l,env F x=env F' x)→envs F l=envs F' l
 |[],_=>rfl
 |a :: l,h=>by rw[envs,envs,h a xd5,j8 λx hx=>h x (List.mem_cons_of_mem _ hx)]
theorem Qz{F F':Nat→SV}:∀{l:List (Nat×Operand)},(∀x∈l,env F x.2=env F' x.2)→envp F l=envp F' l
 |[],_=>rfl
 |a :: l,h=>by rw[envp,envp,h a xd5,Qz λx hx=>h x (List.mem_cons_of_mem _ hx)]
theorem ZT{F F':Nat→SV}{o:Option Operand}(h:∀x∈o.toList,env F x=env F' x):o.map (env F)=o.map (env F'):=by
 cases o with
 |none=>rfl
 |some x=>show some _=some _;rw[h x Ωi]
theorem JY{F F':Nat→SV}{hp:List (Nat×Blk)}{op:Op}(h:∀t,.tmp t∈op.operands.toList→F t=F' t):stepR P F hp op=stepR P F' hp op:=by
 have he:∀x,x∈op.operands.toList→env F x=env F' x:=λx hx=>by
  cases x<;>first|exact h _ hx|rfl
 clear h;cases op
 case makeFunc g fs cs=>
  simp only[stepR];rw[j8 λx hx=>he x (by simp[Op.operands];exact .inl ΩL),j8 λx hx=>he x (by simp[Op.operands];exact .inr ΩL)]
 case build t ps=>
  simp only[stepR];rw[Qz λp hp=>he p.2 (by simp only[Op.operands];exact List.mem_map_of_mem hp)]
 case buildSlice t n ps=>
  simp only[stepR];rw[Qz λp hp=>he p.2 (by simp only[Op.operands];exact List.mem_map_of_mem hp)]
 case slice t x lo hi mx=>
  simp only[stepR];rw[he x Ωp,ZT λy hy=>he y Ω8,ZT (o:=hi) λy hy=>he y Ω8,ZT (o:=mx) λy hy=>he y Ω8]
 case call c=>
  obtain⟨callee,args,ts⟩:=c;have hargs:∀x∈args.toList,env F x=env F' x:=λx hx=>he x (by cases callee<;>simp[Op.operands,Call.operands]<;>first|exact .inr ΩL|simpa using hx);simp only[stepR];cases callee
  case value x=>
   simp only[rCall];rw[he x Ωk,j8 hargs]
  case builtin b=>
   have e:=j8 hargs;cases b<;>simp only[rCall]<;>first|rfl|rw[e]|skip
   all_goals
    (split<;>first|rfl|skip)
    all_goals (rename_i hl _;rw[hl]at hargs)
    all_goals first
     |(rw[hargs _ Ωi];done)
     |(rw[hargs _ Ωi,hargs _ Ωi];done)
     |skip
  all_goals (simp only[rCall])
 all_goals first
  |(simp only[stepR];done)
  |(simp only[stepR];rw[he _ Ωp];done)
  |(simp only[stepR];rw[he _ Ωp,he _ Ωp];done)
  |(simp only[stepR];rw[he _ Ωp,he _ Ωp,he _ Ωp];done)
  |skip
def gJ:Op→Bool
 |.move _|.assign _|.pick _ _ _|.load _ _|.nilCheck _|.binOp _ _ _ _ _|.unOp _ _ _|.convert _ _ _|.makeFunc _ _ _|.fieldAddr _ _ _|.field _ _ _|.indexAddr _ _ _|.index _ _ _|.extract _ _|.build _ _|.slice _ _ _ _ _|.lookup _ _ _ _=>false
 |.call ⟨.builtin .len,_,_⟩=>false
 |.call ⟨.builtin .min,_,_⟩=>false
 |.call ⟨.builtin .max,_,_⟩=>false
 |_=>true
def GR:Op→Bool
 |.load _ _|.lookup _ _ _ _=>true
 |.call ⟨.builtin .len,_,_⟩=>true
 |_=>false
def kc(e:Nat→Bool):Nat→Nat
 |0=>0
 |n+1=>kc e n+if e n=true then 1 else 0
theorem V2{e e':Nat→Bool}:∀{n:Nat},(∀j,j<n→e j=true→e' j=true)→kc e n≤kc e' n
 |0,_=>xa5 _
 |n+1,h=>by
  have ih:=V2 (n:=n) λj hj=>h j Ω;simp only[kc];by_cases c:e n=true
  ·rw[if_pos c,if_pos (h n Ω c)];omega
  ·rw[if_neg c];omega
theorem Zk{e e':Nat→Bool}:∀{n:Nat},(∀j,j<n→e j=e' j)→kc e n=kc e' n
 |0,_=>rfl
 |n+1,h=>by simp only[kc];rw[Zk (n:=n) λj hj=>h j Ω,h n Ω]
theorem qif{e:Nat→Bool}:∀{n:Nat},kc e n≤n
 |0=>xa5 _
 |n+1=>by
  have:=qif (e:=e) (n:=n);simp only[kc];split<;>omega
theorem qdm{e:Nat→Bool}:∀{j k:Nat},j≤k→kc e j≤kc e k
 |j,0,h=>by rw[Nat.le_zero.1 h];exact xa5 _
 |j,k+1,h=>by
  by_cases c:j=k+1
  ·rw[c];exact xa5 _
  ·have:=qdm (e:=e) (j:=j) (k:=k) Ω
   simp only[kc];omega
theorem qdn{e:Nat→Bool}:∀{n:Nat},(∀j,j<n→e j=false)→kc e n=0
 |0,_=>rfl
 |n+1,h=>by simp only[kc];rw[qdn (n:=n) λj hj=>h j Ω,h n Ω];rfl
theorem qbE{e e':Nat→Bool}{i:Nat}(he:∀j,j≠i→e' j=e j)(h0:e i=false):∀{n:Nat},kc e' n=kc e n+if i<n∧e' i=true then 1 else 0
 |0=>by simp[kc]
 |n+1=>by
  have ih:=qbE (n:=n) he h0;simp only[kc];rw[ih];by_cases c:n=i
  ·subst c
   rw[h0];by_cases d:e' n=true
   ·simp[d]
   ·simp[d]
  ·rw[he n c]
   by_cases d:e' i=true
   ·simp only[d,and_true]
    by_cases q:i<n
    ·rw[if_pos q,if_pos (Ω:i<n+1)];omega
    ·rw[if_neg q,if_neg (Ω:¬i<n+1)];omega
   ·simp[d]
theorem JZ{f e:Nat→Bool}{i:Nat}(h1:∀j,j<i→f j=e j):∀{n:Nat},i≤n→(∀j,i≤j→j<n→f j=false)→kc f n=kc e i
 |0,h,_=>by rw[Nat.le_zero.1 h];rfl
 |n+1,h,h2=>by
  by_cases c:i=n+1
  ·subst c;exact Zk h1
  ·simp only[kc]
   rw[JZ h1 (n:=n) Ω λj hj hn=>h2 j hj Ω,h2 n Ω Ω];rfl
theorem Zl{D:Nat→Option Tmp}{res:Nat→SV}{S S':Nat→Bool}{F:Nat→SV}{t:Nat}:∀{n:Nat},(∀j,j<n→D j=some t→S j=S' j)→FS D res S F n t=FS D res S' F n t
 |0,_=>rfl
 |n+1,h=>by
  have ih:=Zl (F:=F) (res:=res) (n:=n) λj hj=>h j Ω;simp only[FS];by_cases c:D n=some t
  ·rw[h n Ω c,ih]
  ·rw[if_neg (λx=>c x.2),if_neg (λx=>c x.2),ih]
theorem V3{D:Nat→Option Tmp}{res:Nat→SV}{S:Nat→Bool}{F:Nat→SV}{t i:Nat}:∀{n:Nat},i≤n→(∀x,i≤x→x<n→D x≠some t)→FS D res S F n t=FS D res S F i t
 |0,h,_=>by rw[Nat.le_zero.1 h]
 |n+1,h,hx=>by
  by_cases c:i=n+1
  ·rw[c]
  ·simp only[FS]
   rw[if_neg (λq=>hx n Ω Ω q.2)];exact V3 Ω λx h1 h2=>hx x h1 Ω
theorem qdo{D:Nat→Option Tmp}{res:Nat→SV}{S:Nat→Bool}{F:Nat→SV}{t:Nat}:∀{n:Nat},(∀j,j<n→S j=false)→FS D res S F n t=F t
 |0,_=>rfl
 |n+1,h=>by
  simp only[FS];rw[if_neg (λx=>by rw[h n Ω]at x;cases x.1)];exact qdo λj hj=>h j Ω
theorem qig{D:Nat→Option Tmp}{res:Nat→SV}{S S':Nat→Bool}{F:Nat→SV}{t i:Nat}(hS:∀x,S' x=(S x || decide (i=x))):∀{n:Nat},i<n→(∀x,x<n→x≠i→D i=some t→D x≠some t)→FS D res S' F n t=if D i=some t then res i else FS D res S F n t
 |n+1,hi,hd=>by
  have hne:∀x,x≠i→S' x=S x:=λx hx=>by rw[hS];simp;intro e;exact absurd e.symm hx
  by_cases c:n=i
  ·subst c
   have e1:S' n=true:=by rw[hS];simp
   have e2:FS D res S' F n t=FS D res S F n t:=Zl λj hj _=>hne j Ω;simp only[FS];by_cases d:D n=some t
   ·rw[if_pos ⟨e1,d⟩,if_pos d]
   ·rw[if_neg (λx=>d x.2),if_neg d,if_neg (λx=>d x.2),e2]
  ·have ih:=qig (F:=F) (res:=res) (t:=t) hS (n:=n) Ω λx hx=>hd x Ω
   simp only[FS];rw[hne n c];by_cases d:S n=true∧D n=some t
   ·have:D i≠some t:=λe=>hd n Ω c e d.2
    rw[if_pos d,if_neg this,if_pos d]
   ·rw[if_neg d,ih,if_neg d]
def efL(l:List Oper)(i:Nat):Bool:=match l[i]? with|some o=>gJ o.op|none=>false
def V4(l:List Oper):Bool:=
 let ms:=zu [] l
 let ds:=dsts l
 jc 0 l&&(List.range l.length).all λi=>(match l[i]? with
  |some o=>(match o.guard with|none=>true|some (g,_)=>(ms.getD i 0).testBit g&&(nth ds g).isSome)&&Nat.blt (ms.getD i 0) (2^i)&&(List.range l.length).all (λj=>(match nth ds j with|some t=>!(kO o).contains t ||(ms.getD i 0).testBit j|none=>true)&&(!(Nat.blt j i) ||((!(efL l i&&efL l j) ||(ms.getD i 0).testBit j)&&(match nth ds j,nth ds i with|some t,some u=>!(Nat.beq t u)|_,_=>true))))
  |none=>true)
structure qih(l:List Oper):Prop where
 edges:jc 0 l=true
 grd:∀(i:Nat)(o:Oper)(g:Nat)(want:Bool),l[i]? = some o→o.guard=some (g,want)→((zu [] l).getD i 0).testBit g=true∧∃t,nth (dsts l) g=some t
 lt:∀i e,i<l.length→((zu [] l).getD i 0).testBit e=true→e<i
 ops:∀(i:Nat)(o:Oper)(t j:Nat),l[i]? = some o→t∈kO o→j<l.length→nth (dsts l) j=some t→((zu [] l).getD i 0).testBit j=true
 chain:∀i j,j<i→i<l.length→efL l i=true→efL l j=true→((zu [] l).getD i 0).testBit j=true
 dist:∀i j t,j<i→i<l.length→nth (dsts l) i=some t→nth (dsts l) j=some t→False
theorem qfv{l:List Oper}(h:V4 l=true):qih l:=by
 simp only[V4,xe6,List.all_eq_true,List.mem_range]at h;obtain⟨h1,h2⟩:=h;have key:∀(i:Nat)(o:Oper),l[i]? = some o→(∀(g:Nat)(want:Bool),o.guard=some (g,want)→((zu [] l).getD i 0).testBit g=true∧∃t,nth (dsts l) g=some t)∧((zu [] l).getD i 0)<2^i∧∀j,j<l.length→(∀t,nth (dsts l) j=some t→t∈kO o→((zu [] l).getD i 0).testBit j=true)∧(j<i→(efL l i=true→efL l j=true→((zu [] l).getD i 0).testBit j=true)∧∀t u,nth (dsts l) j=some t→nth (dsts l) i=some u→t≠u):=by
  intro i o ho;have hi:i<l.length:=(List.getElem?_eq_some_iff.1 ho).1;have h:=h2 i hi;rw[ho]at h;simp only[xe6,List.all_eq_true,List.mem_range]at h;obtain⟨⟨a,b⟩,c⟩:=h;refine⟨λg want hg=>(by rw[hg]at a;simp only[xe6]at a;exact⟨a.1,Option.isSome_iff_exists.1 a.2⟩),(by have b:=xa7 b;omega),λj hj=>?_⟩;obtain⟨d,e⟩:=c j hj;refine⟨λt ht hm=>?_,λhji=>?_⟩
  ·rw[ht]at d
   simp only[xe8,Bool.not_eq_true']at d;exact d.resolve_left (by simp[hm])
  ·have hb:Nat.blt j i=true:=by simp[Nat.blt];omega
   simp only[hb,Bool.not_true,xf4,xe6]at e;refine⟨λx y=>by simpa[x,y]using e.1,λt u ht hu hc=>?_⟩;have:=e.2;rw[ht,hu]at this;simp[hc]at this
 refine⟨h1,λi o g want ho hg=>(key i o ho).1 g want hg,λi e hi hb=>?_,λi o t j ho ht hj hn=>((key i o ho).2.2 j hj).1 t hn ht,λi j hji hi=>?_,λi j t hji hi ha hb=>?_⟩
 ·obtain⟨o,ho⟩:∃o,l[i]? = some o:=⟨l[i],by simp[hi]⟩
  have hlt:=(key i o ho).2.1;refine xf9 λc=>?_;rw[Nat.testBit_lt_two_pow (xa9 hlt (Nat.pow_le_pow_right Ω Ω))]at hb;cases hb
 ·obtain⟨o,ho⟩:∃o,l[i]? = some o:=⟨l[i],by simp[hi]⟩
  exact(((key i o ho).2.2 j Ω).2 hji).1
 ·obtain⟨o,ho⟩:∃o,l[i]? = some o:=⟨l[i],by simp[hi]⟩
  exact(((key i o ho).2.2 j Ω).2 hji).2 t t hb ha rfl
def loC(l:List Oper)(i:Nat):Nat:=kc (λe=>efL l e&&((zu [] l).getD i 0).testBit e) l.length
def hiC(l:List Oper)(i:Nat):Nat:=kc (λe=>efL l e&&!((zu [] l).getD e 0).testBit i) l.length
theorem vJ{e:Nat→Bool}{Y:Nat→Tr 6 XB}{Z:Nat→Nat}{n:Nat}(hY:∀j,j<n→e j=false→Y (j+1)=Y j∧Z (j+1)=Z j):∀{j k:Nat},j≤k→k≤n→kc e j=kc e k→Y j=Y k∧Z j=Z k
 |j,0,h,_,_=>by rw[Nat.le_zero.1 h];exact⟨rfl,rfl⟩
 |j,k+1,h,hk,he=>by
  by_cases c:j=k+1
  ·rw[c];exact⟨rfl,rfl⟩
  ·have h1:=qdm (e:=e) (Ω:j≤k)
   simp only[kc]at he;have h2:e k=false:=by
    cases q:e k with
    |false=>rfl
    |true=>rw[q,if_pos rfl]at he;omega
   rw[h2]at he;obtain⟨a,b⟩:=vJ hY (Ω:j≤k) Ω ΩM;obtain⟨a',b'⟩:=hY k Ω h2;rw[a',b'];exact⟨a,b⟩
theorem j9(st:St)(d:Option Tmp)(s:SV)(t:Nat):look (st.put d s).fr t=if d=some t then s else look st.fr t:=by
 cases d with
 |none=>rw[if_neg (by intro h;cases h)];rfl
 |some d=>
  show look (putFr st.fr d s) t=_;rw[zh];by_cases c:t=d
  ·rw[if_pos c,if_pos (by rw[c])]
  ·rw[if_neg c,if_neg (by intro h;cases h;exact c rfl)]
def Grd(l:List Oper)(G:Nat→SV)(o:Oper)(sk:Bool):Prop:=
 match o.guard with
 |none=>sk=false
 |some (g,want)=>∃t,nth (dsts l) g=some t∧((∃b,G t=.val (.bool b)∧sk = !(b == want))∨((∃vs,G t=.val (.tuple vs))∧sk=true))
def PureAt(P:Program)(F:Nat→SV)(H:List (Nat×Blk))(op:Op)(s:SV):Prop:=
 qor s (stepR P F H op)∨(qcy op=true∧∀(O:Ctx)(st:St),(∀t,t∈op.operands.toList.filterMap (fun|.tmp t=>some t|_=>none)→look st.fr t=F t)→st.hp=H→OpVC P O op st λst' res=>st'=st∧res=s)
theorem OpVC.mono{op:Op}{K K':St→SV→Prop}(h:OpVC P O op st K)(hk:∀st' res,K st' res→K' st' res):OpVC P O op st K':=λbase okc ns r outs a w o ho hi=>by
 obtain⟨v,w',h1,st',r',res,h2,h3⟩:=h base okc ns r outs a w o ho hi;exact⟨v,w',h1,st',r',res,hk _ _ h2,h3⟩
theorem V5{ops:List Oper}{o:Oper}{K:St→Prop}{sk:Bool}(hg:Grd ops (look st.fr) o sk)
  (hrun:sk=false→∀st1:St,(∀t,look st1.fr t=look st.fr t)→st1.hp=st.hp→st1.nid=st.nid→wA P O True o.op o.dst st1.nid st1 (λst'=>K ⟨inD o.dst st'.fr,st'.hp,st'.nid+1⟩) (stepR P (look st1.fr) st1.hp o.op)∨(qcy o.op=true∧OpVC P O o.op st1 λst' res=>K (st'.putI o.dst res)))
  (hskip:sk=true→∀st1:St,(∀t,look st1.fr t=look st.fr t)→st1.hp=st.hp→st1.nid=st.nid→K (st1.putI o.dst undefSV)):opH P O (dsts ops) o st K:=by
 unfold opH zi;unfold Grd at hg;have same:∀(t:Tmp)(b:Bool),look st.fr t=.val (.bool b)→∀u,look (st.put (some t) (.val (.bool b))).fr u=look st.fr u:=λt b h u=>by
  rw[j9];by_cases c:some t=some u
  ·cases c;rw[if_pos rfl,h]
  ·rw[if_neg c]
 cases e:o.guard with
 |none=>
  rw[e]at hg;exact(hrun hg st (λ_=>rfl) rfl rfl).imp id λh=>⟨h.1,.inl h.2⟩
 |some p=>
  obtain⟨g,want⟩:=p;rw[e]at hg;obtain⟨t,ht,hc⟩:=hg;dsimp only;rw[ht];dsimp only;rcases hc with⟨b,hb,hs⟩|⟨⟨vs,hb⟩,hs⟩
  ·rw[hb]
   cases want<;>cases b<;>dsimp only
   ·exact⟨λx=>(by cases x),λ_=>(hrun hs _ (same t false hb) rfl rfl).imp id λh=>⟨h.1,.inl h.2⟩⟩
   ·exact⟨λ_=>hskip hs _ (same t true hb) rfl rfl,λx=>by cases x⟩
   ·exact⟨λx=>(by cases x),λ_=>hskip hs _ (same t false hb) rfl rfl⟩
   ·exact⟨λ_=>(hrun hs _ (same t true hb) rfl rfl).imp id λh=>⟨h.1,.inl h.2⟩,λx=>by cases x⟩
  ·rw[hb]
   exact hskip hs _ (λ_=>rfl) rfl rfl
theorem yM(st:St)(d:Option Tmp)(v:SV)(t:Nat):look (st.putI d v).fr t=look (st.put d v).fr t:=by
 cases d with
 |none=>rfl
 |some d=>show look (putIn st.fr d v) t=_;rw[wd];rfl
theorem yN(st:St)(d:Option Tmp)(v:SV):(st.putI d v).hp=st.hp:=by cases d<;>rfl
theorem YP(hm:P.follows .mixedOrders=true){K:Ex→St→Prop}{id:Nat}{l:List Oper}{LM:Nat→Option Loop}(hc:qih l)(res:Nat→SV)(Y:Nat→Tr 6 XB)(Z:Nat→Nat)(G:Nat→SV)(sk:Nat→Bool)
  (hsk:∀i o,l[i]? = some o→Grd l G o (sk i)∧(sk i=true→Y (i+1)=Y i∧(efL l i=true→Z i+l.length≤Z (i+1))∧∀d,o.dst=some d→res i=undefSV))
  (hY:∀j,j<l.length→efL l j=false→Y (j+1)=Y j∧Z (j+1)=Z j) (hG:∀t,G t=FS (nth (dsts l)) res (λ_=>true) (look st.fr) l.length t) (h0:HRel LM (Y 0) st.hp) (hz:st.nid=Z 0)
  (hp:∀i o,l[i]? = some o→sk i=false→efL l i=false→∀j,j≤l.length→loC l i≤kc (efL l) j→kc (efL l) j≤hiC l i→∀(F:Nat→SV)(H:List (Nat×Blk)),(∀t,t∈kO o→F t=G t)→HRel LM (Y j) H→∃s,PureAt P F H o.op s∧∀d,o.dst=some d→s=res i)
  (he:∀i o,l[i]? = some o→sk i=false→efL l i=true→∀st1:St,(∀t,t∈kO o→look st1.fr t=G t)→HRel LM (Y i) st1.hp→st1.nid=Z i+l.length→∀K':St→Prop,(∀st':St,(∀t,look st'.fr t=look (st1.put o.dst (res i)).fr t)→HRel LM (Y (i+1)) st'.hp→st'.nid+1≤Z (i+1)→K' st')→wA P O True o.op o.dst st1.nid st1 K' (stepR P (look st1.fr) st1.hp o.op))
  (hK:∀st':St,(∀t,look st'.fr t=G t)→HRel LM (Y l.length) st'.hp→st'.nid=Z l.length+l.length→K .normal st') {g:Tag K}:w9 P O id l true st K g:=by
 refine GQ hm (λm st'=>(∀t,look st'.fr t=FS (nth (dsts l)) res (λi=>m.testBit i) (look st.fr) l.length t)∧∃j,j≤l.length∧kc (efL l) j=kc (λe=>efL l e&&m.testBit e) l.length∧HRel LM (Y j) st'.hp∧st'.nid≤Z j+kc (λi=>m.testBit i) l.length) rfl hc.edges (Weak.refl _ _) ?_ ?_ ?_
 ·refine⟨λt=>(qdo λj _=>xb3 j).symm,0,xb6 _,?_,h0,Ω⟩
  rw[qdn (n:=l.length) λj _=>by rw[xb3,Bool.and_false]];rfl
 ·refine Qx λi o ho=>?_
  rw[xb0];rintro m st1 ⟨hf,j,hj,hkj,hH,hnid⟩ hcl hbit hanc;have hi:i<l.length:=(List.getElem?_eq_some_iff.1 ho).1;have anc:∀e,((zu [] l).getD i 0).testBit e=true→m.testBit e=true:=λe h=>hanc e h (by have:=hc.lt i e hi h;omega);have hops:∀t,t∈kO o→look st1.fr t=G t:=λt ht=>by
   rw[hf,hG];exact Zl λx hx hxt=>anc x (hc.ops i o t x ho ht hx hxt)
  have hdst:nth (dsts l) i=o.dst:=by rw[zm,ho];rfl
  have frs:∀fr:List (Nat×SV),(∀t,look fr t=look (st1.put o.dst (res i)).fr t)→∀t,look fr t=FS (nth (dsts l)) res (λx=>(m ||| 2^i).testBit x) (look st.fr) l.length t:=λfr hfr t=>by
   rw[qig (S:=λx=>m.testBit x) (i:=i) (λx=>tb m i x) hi λx hx hxi h1 h2=>?_,hdst,←hf,hfr,j9];by_cases c:x<i
   ·exact hc.dist i x t c hi h1 h2
   ·exact hc.dist x i t Ω hx h2 h1
  have done:kc (λx=>(m ||| 2^i).testBit x) l.length=kc (λx=>m.testBit x) l.length+1:=by
   rw[qbE (e:=λx=>m.testBit x) (i:=i) (λx hx=>by show(m ||| 2^i).testBit x=_;rw[tb];simp;intro e;exact absurd e.symm hx) hbit,if_pos ⟨hi,by show(m ||| 2^i).testBit i=true;rw[tb];simp⟩]
  obtain⟨hgrd,hskip⟩:=hsk i o ho;have hgrd:Grd l (look st1.fr) o (sk i):=by
   unfold Grd at hgrd ⊢;cases e:o.guard with
   |none=>rw[e]at hgrd;exact hgrd
   |some p=>
    obtain⟨g,want⟩:=p;rw[e]at hgrd;obtain⟨t,ht,hcc⟩:=hgrd;refine⟨t,ht,?_⟩;have hb:=(hc.grd i o g want ho e).1;have:look st1.fr t=G t:=by
     rw[hf,hG];refine Zl λx hx hxt=>?_;by_cases c:x=g
     ·rw[c];exact anc g hb
     ·exfalso
      have hgl:=hc.lt i g hi hb;by_cases d:x<g
      ·exact hc.dist g x t d Ω ht hxt
      ·exact hc.dist x g t Ω hx hxt ht
    rw[this];exact hcc
  cases q:efL l i with
  |false=>
   refine⟨st1,Weak.refl _ _,?_⟩;have fin:∀(s0:SV)(st2 st3:St),(∀t,look st2.fr t=look st1.fr t)→(∀d,o.dst=some d→s0=res i)→(∀t,look st3.fr t=look (st2.put o.dst s0).fr t)→HRel LM (Y j) st3.hp→st3.nid≤st1.nid+1→∃st4,Weak O st3 st4∧(∀t,look st4.fr t=FS (nth (dsts l)) res (λx=>(m ||| 2^i).testBit x) (look st.fr) l.length t)∧∃j,j≤l.length∧kc (efL l) j=kc (λe=>efL l e&&(m ||| 2^i).testBit e) l.length∧HRel LM (Y j) st4.hp∧st4.nid≤Z j+kc (λx=>(m ||| 2^i).testBit x) l.length:=by
    intro s0 st2 st3 h2 hs0 h3 hH3 hn3;refine⟨st3,Weak.refl _ _,frs _ λt=>?_,j,hj,?_,hH3,?_⟩
    ·rw[h3,j9,j9,h2]
     by_cases c:o.dst=some t
     ·rw[if_pos c,if_pos c,hs0 t c]
     ·rw[if_neg c,if_neg c]
    ·rw[hkj]
     refine Zk λe _=>?_;rw[tb];by_cases c:i=e
     ·subst c;rw[q];rfl
     ·simp[c]
    ·rw[done];omega
   refine V5 hgrd (λhs st2 h2 h2h h2n=>?_) (λhs st2 h2 h2h h2n=>?_)
   ·obtain⟨s0,h1,hs0⟩:=hp i o ho hs q j hj (by
     rw[hkj];refine V2 λe _ h=>?_;rw[xe6]at h ⊢;exact⟨h.1,anc e h.2⟩) (by
     rw[hkj];refine V2 λe _ h=>?_;rw[xe6]at h ⊢;refine⟨h.1,?_⟩;cases c:((zu [] l).getD e 0).testBit i with
     |false=>rfl
     |true=>rw[hcl e i c h.2]at hbit;cases hbit) (look st2.fr) st2.hp (λt ht=>by rw[h2,hops t ht]) (by rw[h2h];exact hH)
    have f2:=fin s0 st2 ⟨inD o.dst (st2.put o.dst s0).fr,(st2.put o.dst s0).hp,(st2.put o.dst s0).nid+1⟩ h2 hs0 (λt=>jl _ _ _) (by rw[zs,h2h];exact hH) (by rw[qy];show st2.nid+1≤_;omega);rcases h1 with(⟨obl,e,h⟩|⟨obl,e,h⟩)|⟨hnd,h⟩
    ·rw[e];exact .inl ⟨h,f2⟩
    ·rw[e];exact .inl ⟨_,h,f2⟩
    ·refine .inr ⟨hnd,(h O st2 (λt _=>rfl) rfl).mono ?_⟩
     rintro st' res' ⟨rfl,rfl⟩;exact fin _ st' _ h2 hs0 (λt=>yM _ _ _ _) (by rw[yN,h2h];exact hH) (by rw[kV];omega)
   ·exact fin undefSV st2 _ h2 (λd hd=>((hskip hs).2.2 d hd).symm) (λt=>yM _ _ _ _) (by rw[yN,h2h];exact hH) (by rw[kV];omega)
  |true=>
   have hks:kc (λe=>efL l e&&m.testBit e) l.length=kc (efL l) i:=by
    refine JZ (λe hei=>?_) Ω λe hie hen=>?_
    ·show(efL l e&&m.testBit e)=efL l e
     cases c:efL l e with
     |false=>rfl
     |true=>rw[anc e (hc.chain i e hei hi q c)];rfl
    ·show(efL l e&&m.testBit e)=false
     cases c:efL l e with
     |false=>rfl
     |true=>
      cases d:m.testBit e with
      |false=>rfl
      |true=>
       by_cases x:e=i
       ·rw[x]at d;rw[d]at hbit;cases hbit
       ·rw[hcl e i (hc.chain e i Ω hen c q) d]at hbit;cases hbit
   have hst:Y j=Y i∧Z j=Z i:=by
    rw[hks]at hkj;by_cases c:j≤i
    ·exact vJ hY c Ω hkj
    ·have:=vJ hY (Ω:i≤j) hj hkj.symm
     exact⟨this.1.symm,this.2.symm⟩
   have fin:∀st3:St,(∀t,look st3.fr t=look (st1.put o.dst (res i)).fr t)→HRel LM (Y (i+1)) st3.hp→st3.nid≤Z (i+1)→∃st4,Weak O st3 st4∧(∀t,look st4.fr t=FS (nth (dsts l)) res (λx=>(m ||| 2^i).testBit x) (look st.fr) l.length t)∧∃j,j≤l.length∧kc (efL l) j=kc (λe=>efL l e&&(m ||| 2^i).testBit e) l.length∧HRel LM (Y j) st4.hp∧st4.nid≤Z j+kc (λx=>(m ||| 2^i).testBit x) l.length:=by
    intro st3 h3 hH3 hn3;refine⟨st3,Weak.refl _ _,frs _ h3,i+1,hi,?_,hH3,Ω⟩;have k2:=qbE (e:=λe=>efL l e&&m.testBit e) (e':=λe=>efL l e&&(m ||| 2^i).testBit e) (i:=i) (λe hei=>by
     show(efL l e&&(m ||| 2^i).testBit e)=(efL l e&&m.testBit e);rw[tb,decide_eq_false (λx=>hei x.symm),xf3]) (by show(efL l i&&m.testBit i)=false;rw[hbit,Bool.and_false]) (n:=l.length)
    rw[k2,if_pos ⟨hi,by show(efL l i&&(m ||| 2^i).testBit i)=true;rw[tb];simp[q]⟩,hks];simp[kc,q]
   refine⟨{ st1 with nid:=Z i+l.length },Qy _ _ _ (by have:=qif (e:=λx=>m.testBit x) (n:=l.length);rw[hst.2]at hnid;omega),?_⟩;refine V5 (st:={ st1 with nid:=Z i+l.length }) hgrd (λhs st2 h2 h2h h2n=>?_) (λhs st2 h2 h2h h2n=>?_)
   ·refine .inl (he i o ho hs q st2 (λt ht=>by rw[h2];exact hops t ht) (by rw[h2h,←hst.1];exact hH) h2n _ λst' hf' hH' hn'=>?_)
    exact fin _ (λt=>by rw[jl,hf',j9,j9,h2]) hH' hn'
   ·obtain⟨k1,k2,k3⟩:=hskip hs
    refine fin _ (λt=>?_) (by rw[yN,h2h,k1,←hst.1];exact hH) (by rw[kV,h2n];exact k2 q);rw[yM,j9,j9,h2];by_cases c:o.dst=some t
    ·rw[if_pos c,if_pos c,k3 t c]
    ·rw[if_neg c,if_neg c]
 ·rintro m st1 ⟨hf,j,hj,hkj,hH,hnid⟩ hall
  have hk:kc (efL l) j=kc (efL l) l.length:=by
   rw[hkj];exact Zk λe he=>by rw[hall e he,xf1]
  obtain⟨h1,h2⟩:=vJ hY hj (xa5 _) hk;have:=qif (e:=λi=>m.testBit i) (n:=l.length);refine⟨{ st1 with nid:=Z l.length+l.length },Qy _ _ _ (by rw[h2]at hnid;omega),hK _ (λt=>?_) (by rw[←h1];exact hH) rfl⟩;show look st1.fr t=_;rw[hf,hG];exact Zl λx hx _=>hall x hx
theorem V6{α:Type}:∀{l m:List α},l.Nodup→(∀x,x∈l→x∈m)→l.length≤m.length
 |[],m,_,_=>xb6 _
 |a :: l,m,hn,h=>by
  obtain⟨m1,m2,rfl⟩:=List.append_of_mem (h a xd5);rw[List.nodup_cons]at hn;have:=V6 (m:=m1++m2) hn.2 λx hx=>by
   have:=h x (List.mem_cons_of_mem _ hx);rw[xd4,List.mem_cons]at this;rw[xd4];rcases this with h1|rfl|h1
   ·exact .inl h1
   ·exact absurd hx hn.1
   ·exact .inr h1
  simp at this ⊢;omega
theorem qfw{t:TypeId}{x:Operand}{id:Nat}{fit dom:Value→Bool}{get:Value→SV}{mi:jV}(ht:qz P t=some mi)(hx:env (look st.fr) x=.mp id)(hb:blk st.hp id=some (.map fit dom get)){L:List Value}(hn:L.Nodup)(hL:∀k,dom k=true↔k∈L) :
  OpVC P O (.call ⟨.builtin .len,#[x],#[t]⟩) st λst' res=>st'=st∧res=.val (.int .i64 (.ofNat L.length)):=by
 intro base okc ns r outs a w o ho hi;have hu:=hi.env x;rw[hx]at hu;generalize hex:a.eval x=u at hu;cases hu with
 |mp _ b hN hr=>
  have hrep:=hi.sat.rep _ _ hb hN;rw[hr]at hrep;cases hrep with
  |map _ _ _ _ es clock hw hm hbn hes=>
   have hk:∃kt et,P.underlying t=some (.map kt et):=by
    unfold qz at ht;split at ht
    ·exact⟨_,_,(by assumption)⟩
    ·cases ht
   obtain⟨kt,et,hk⟩:=hk;have hnk:(es.toList.map (·.key)).Nodup:=by
    refine List.pairwise_iff_getElem.2 λi j hi' hj hij he=>?_;simp only[List.getElem_map]at he;rw[xe1]at hi' hj;have:=hm.once i j es.toList[i] es.toList[j] (by rw[←xf6,xc7]) (by rw[←xf6,xc7]) he;omega
   have hmem:∀k,k∈es.toList.map (·.key)↔k∈L:=λk=>by
    rw[←hL,List.mem_map];constructor
    ·rintro⟨e,he,rfl⟩;exact hm.doms e (Array.mem_toList_iff.1 he)
    ·intro h
     obtain⟨e,he,hke⟩:=hm.has k h;exact⟨e,Array.mem_toList_iff.2 he,hke⟩
   have hlen:es.size=L.length:=by
    have h1:=V6 hnk λk hk=>(hmem k).1 hk;have h2:=V6 hn λk hk=>(hmem k).2 hk;have h3:=xf7 (xs:=es);rw[xe1]at h1 h2;omega
   refine⟨.int .i64 (.ofNat L.length),w,?_,st,r,_,⟨rfl,rfl⟩,xa5 _,hi,.val _⟩;obtain⟨dst,op,type,pos,aft,guard⟩:=o;simp only[]at ho;subst ho;have hobj:(getObj b).run P w=.ok (.map es clock) w:=by simp[getObj,Sem.run,hw]
   simp[execOp,Go.resolve,Go.invoke,Go.builtin,hex,Builtin.len_,run_underlying hk,hobj,goInt,hlen]
end
end Go.Sx
end
section
namespace Go.Tn
open Go.Proofs
open Go.Sx
theorem qj{O:Ctx}{fr fr':List (Nat×SV)}{hp hp':List (Nat×Blk)}{nid nid':Nat}(hn:nid≤nid')(hf:qI fr fr')(hh:SubHp hp hp'):Weak O ⟨fr,hp,nid⟩ ⟨fr',hp',nid'⟩:=
 Weak.trans (Qy O ⟨fr,hp,nid⟩ nid' hn) (zw hf hh)
def mxF(rw:Nat→Int)(to:Nat→Nat):Nat→Int
 |0=>0
 |j+1=>max (mxF rw to j) (rw (to j)+1)
theorem Zm(rw:Nat→Int)(to:Nat→Nat)(j:Nat):mxF rw to (j+1)=max (mxF rw to j) (rw (to j)+1):=rfl
theorem qmZ{rw:Nat→Int}{to:Nat→Nat}{X:Int}(hX:0≤X){m:Nat}(h:∀j,j<m→-1≤rw (to j)∧rw (to j)<X):0≤mxF rw to m∧mxF rw to m≤X:=by
 induction m with
 |zero=>exact⟨Int.le_refl _,hX⟩
 |succ m ih=>
  have⟨h1,h2⟩:=ih λj hj=>h j Ω;have⟨h3,h4⟩:=h m Ω;rw[Zm];omega
theorem qox(H:List (Nat×Blk))(id tb xid rid mid N i m:Nat)(A Z:SV)(nx row:Nat→Nat→SV)(rw:Nat→Int)(to:Nat→Nat)
  (hN:N≤100000) (hi:i<N) (hm:m≤100) (hb:blk H tb=some (.cells 253 [A,Z,.vec xid N 1,.vec rid N 1,.mp mid])) (hx:blk H xid=some (.rows 22 1 N nx)) (hr:blk H rid=some (.rows 3 1 N row))
  (hrow:∀i,i<N→row i 0=.val (.int .i64 (rw i))) (hrw:∀i,i<N→-1≤rw i∧rw i<1000000) (hto:∀j,j<m→to j<N)
  (hnx:(m=0∧nx i 0=.val (.slice none 0 0))∨∃xi r,nx i 0=.vec xi m 1∧blk H xi=some (.rows 3 1 m r)∧∀j,j<m→r j 0=.val (.int .i64 (to j:Nat))) :
  EffVC Tryz.prog 278 [.ptr tb 0,.val (.int .i64 (i:Nat))] H id (λhp' nid' res=>hp'=H∧id≤nid'∧nid'≤id+100*(m+2)∧
   (((∀j,j<m→0≤rw (to j))∧res=.tup [I (mxF rw to m),B true])∨((∃j,j<m∧rw (to j)<0)∧res=.tup [I 0,B false]))):=by
 refine Qp follows Tryz.func278 rfl Ωa Ωa (by rw[Tryz.ntmps278];simp) λout=>?_;rcases hnx with⟨rfl,hNx⟩|⟨xi,r,hNx,hxi,hr1⟩
 ·repeat' first|refine sD ?_ ?_<;>intro _|refine aA ?_|simp -dsimp only[↓RP,RQ,seval,hb,hx,hr,hNx,QS,QT,QN]|exact Ωb|fail
  refine qo (λ(z:Unit)=>True) (λ_=>⟨[(0,.ptr tb 0),(6,.val (.int .i64 0)),(16,.val (.int .i64 0)),(17,.val (.int .i64 0))],H,id+50⟩) (λ_=>0) () trivial (qj Ω Ωc (SubHp.refl _)) λz hz=>?_;repeat' first|refine sD ?_ ?_<;>intro _|refine aA ?_|simp -dsimp only[↓RP,RQ,seval,hb,hx,hr,hNx,QS,QT,QN]|exact Ωb|fail
  refine⟨_,_,_,zw (fr':=[(0,_)]) ⟨.inr rfl,trivial⟩ (SubHp.refl _),rfl,Ω,Ω,.inl ⟨λj hj=>by omega,rfl⟩⟩
 ·have hW:True:=trivial
  repeat' first|refine sD ?_ ?_<;>intro _|refine aA ?_|simp -dsimp only[↓RP,RQ,seval,hb,hx,hr,hNx,QS,QT,QN]|exact Ωb|fail
  refine qo (λ(j:Nat)=>j≤m∧∀k,k<j→0≤rw (to k)) (λj=>⟨[(0,.ptr tb 0),(6,.val (.int .i64 (mxF rw to j))),(15,.vec xi m 1),(16,.val (.int .i64 (m:Nat))),(17,.val (.int .i64 (j:Nat)))],H,id+50+50*j⟩) (λj=>m - j) 0 ⟨xb6 _,λk hk=>by omega⟩ (qj Ω (by simp[qI,Go.Sx.look,mxF]) (SubHp.refl _)) λj hj=>?_;obtain⟨hj,hk⟩:=hj;by_cases hjm:j<m
  ·have hrj:=hr1 j hjm
   have htj:=hto j hjm;have hrt:=hrow (to j) htj;have hrb:=hrw (to j) htj;have⟨hM0,hM1⟩:=qmZ (rw:=rw) (to:=to) (X:=1000000) Ω (m:=j) λk hk'=>hrw _ (hto k Ω);have hlt:=decide_eq_true (Ω:((j:Nat):Int)<(m:Nat));by_cases hneg:rw (to j)<0
   ·have hd:=decide_eq_true hneg
    repeat' first|refine sD ?_ ?_<;>intro _|refine aA ?_|simp -dsimp only[↓RP,RQ,seval,hlt,hxi,hrj,hrt,hd,hb,hx,hr,hNx,QS,QT,QN]|exact Ωb|fail
    refine⟨_,_,_,zw (fr':=[(0,_)]) ⟨.inr rfl,trivial⟩ (SubHp.refl _),rfl,Ω,Ω,.inr ⟨⟨j,hjm,hneg⟩,rfl⟩⟩
   ·have hd:=decide_eq_false hneg
    have hmx:max (mxF rw to j) (rw (to j)+1)=mxF rw to (j+1):=(Zm rw to j).symm;repeat' first|refine sD ?_ ?_<;>intro _|refine aA ?_|simp -dsimp only[↓RP,RQ,seval,hlt,hxi,hrj,hrt,hd,hmx,hb,hx,hr,hNx,QS,QT,QN]|exact Ωb|fail
    refine⟨j+1,⟨hjm,λk hk'=>?_⟩,Ω,qj Ω Ωc (SubHp.refl _)⟩;rcases Nat.lt_succ_iff_lt_or_eq.1 hk' with h|rfl
    ·exact hk k h
    ·omega
  ·obtain rfl:j=m:=by omega
   have hlt:=decide_eq_false (Ω:¬((j:Nat):Int)<(j:Nat));repeat' first|refine sD ?_ ?_<;>intro _|refine aA ?_|simp -dsimp only[↓RP,RQ,seval,hlt,hb,hx,hr,hNx,QS,QT,QN]|exact Ωb|fail
   refine⟨_,_,_,zw (fr':=[(0,_)]) ⟨.inr rfl,trivial⟩ (SubHp.refl _),rfl,Ω,Ω,.inl ⟨hk,rfl⟩⟩
end Go.Tn
end
section
namespace Go.Tn
open Go.Sx
variable{F:Nat→Int}
structure Fx(N:Nat)(len:Nat→Nat)(to:Nat→Nat→Nat)(F:Nat→Int):Prop where
 lo:∀i,i<N→-1≤F i
 hi:∀i,i<N→F i<1000000
 inn:∀i j,i<N→j<len i→to i j<N
 ok:∀i,i<N→(0≤F i↔∀j,j<len i→0≤F (to i j))
 eq:∀i,i<N→0≤F i→F i=mxF F (to i) (len i)
theorem qii{to:Nat→Nat}{m j:Nat}(h:j<m):F (to j)+1≤mxF F to m:=by
 induction m with
 |zero=>omega
 |succ m ih=>
  rw[Zm];rcases Nat.lt_succ_iff_lt_or_eq.1 h with h|rfl
  ·have:=ih h;omega
  ·omega
theorem qfx{G:Nat→Int}{to:Nat→Nat}{m:Nat}(h:∀j,j<m→F (to j)=G (to j)):mxF F to m=mxF G to m:=by
 induction m with
 |zero=>rfl
 |succ m ih=>rw[Zm,Zm,h m Ω,ih λj hj=>h j Ω]
def Rw(N:Nat)(F rw:Nat→Int):Prop:=∀i,i<N→rw i=F i∨rw i = -1
theorem Fx.set{N:Nat}{len:Nat→Nat}{to:Nat→Nat→Nat}{rw:Nat→Int}(h:Fx N len to F)(hr:Rw N F rw){i:Nat}(hi:i<N)(hk:∀j,j<len i→0≤rw (to i j)):0≤F i∧mxF rw (to i) (len i)=F i:=by
 have e:∀j,j<len i→rw (to i j)=F (to i j):=λj hj=>by
  rcases hr _ (h.inn i j hi hj)with e|e
  ·exact e
  ·have:=hk j hj;omega
 have h0:0≤F i:=(h.ok i hi).2 λj hj=>by rw[←e j hj];exact hk j hj
 exact⟨h0,by rw[qfx e,←h.eq i hi h0]⟩
theorem Fx.fin{N:Nat}{len:Nat→Nat}{to:Nat→Nat→Nat}{rw:Nat→Int}(h:Fx N len to F)(hr:Rw N F rw)(hk:∀i,i<N→rw i<0→∃j,j<len i∧rw (to i j)<0):∀(n i:Nat),i<N→F i<n→rw i=F i:=by
 intro n
 induction n with
 |zero=>intro i hi hf;have:=h.lo i hi;rcases hr i hi with e|e<;>omega
 |succ n ih=>
  intro i hi hf;rcases hr i hi with e|e
  ·exact e
  ·by_cases h0:0≤F i
   ·obtain⟨j,hj,hn⟩:=hk i hi Ω
    have h1:=(h.ok i hi).1 h0 j hj;have h2:=qii (F:=F) (to:=to i) hj;rw[←h.eq i hi h0]at h2;have:=ih (to i j) (h.inn i j hi hj) Ω;omega
   ·have:=h.lo i hi;omega
def yX(rw:Nat→Int)(i:Nat)(x:Int):Nat→Int:=λk=>if k=i then x else rw k
def cnt(rw:Nat→Int):Nat→Nat
 |0=>0
 |n+1=>cnt rw n+if rw n<0 then 1 else 0
theorem GS(rw:Nat→Int):∀n,cnt rw n≤n
 |0=>xa5 _
 |n+1=>by have:=GS rw n;simp only[cnt];split<;>omega
theorem qdp{rw:Nat→Int}{i:Nat}{x:Int}:∀{n},n≤i→cnt (yX rw i x) n=cnt rw n
 |0,_=>rfl
 |n+1,h=>by
  have:=qdp (rw:=rw) (x:=x) (n:=n) (i:=i) Ω;have e:yX rw i x n=rw n:=by unfold yX;rw[if_neg Ω]
  simp only[cnt,this,e]
theorem jd{rw:Nat→Int}{i:Nat}{x:Int}(h0:rw i<0)(hx:0≤x):∀{n},i<n→cnt (yX rw i x) n+1=cnt rw n
 |0,h=>by omega
 |n+1,h=>by
  rcases Nat.lt_succ_iff_lt_or_eq.1 h with h|rfl
  ·have:=jd h0 hx h
   have e:yX rw i x n=rw n:=by unfold yX;rw[if_neg Ω]
   simp only[cnt,e];omega
  ·have:=qdp (rw:=rw) (x:=x) (xa5 i)
   have e:yX rw i x i=x:=by unfold yX;rw[if_pos rfl]
   simp only[cnt,this,e];rw[if_pos h0,if_neg Ω]
def kp(f:Nat→Int)(n:Nat):Value:=.agg #[.int .i64 (f 0),.int .i64 (f 1),.int .i64 (f 2),.int .i64 (f 3),.int .i64 (f 4),.int .i64 (n:Nat)]
def kpL(f:Nat→Int)(n:Nat):List SV:=[.val (.int .i64 (f 0)),.val (.int .i64 (f 1)),.val (.int .i64 (f 2)),.val (.int .i64 (f 3)),.val (.int .i64 (f 4)),.val (.int .i64 (n:Nat))]
abbrev kfP:Value→Bool:=qk true [Lf.i .i64,Lf.i .i64,Lf.i .i64,Lf.i .i64,Lf.i .i64,Lf.i .i64]
def zL(v:Value):Nat:=match v with
 |.agg c=>(match c.toList with
  |[_,_,_,_,_,.int _ n]=>n.toNat
  |_=>0)
 |_=>0
theorem ws(f:Nat→Int)(n:Nat):zL (kp f n)=n:=rfl
theorem eqK_kp{f:Nat→Int}{n:Nat}{v:Value}:eqK (kp f n) v=true↔v=kp f n:=by
 constructor
 ·intro h;exact(zq h).symm
 ·rintro rfl;simp[eqK,kp,jU,wH]
def kc(v:Value)(j:Nat):SV:=match v with
 |.agg c=>.val (c.toList.getD j undef)
 |_=>.top
theorem qij(f:Nat→Int)(n:Nat):kc (kp f n) 0=.val (.int .i64 (f 0))∧kc (kp f n) 1=.val (.int .i64 (f 1))∧kc (kp f n) 2=.val (.int .i64 (f 2))∧kc (kp f n) 3=.val (.int .i64 (f 3))∧kc (kp f n) 4=.val (.int .i64 (f 4))∧kc (kp f n) 5=.val (.int .i64 (n:Nat)):=⟨rfl,rfl,rfl,rfl,rfl,rfl⟩
theorem V7{O:Ctx}{fr:List (Nat×SV)}{hp:List (Nat×Blk)}{nid mid:Nat}{fit dom dom':Value→Bool}{get:Value→SV}{st:Value→Nat}{c:Nat}(hb:blk hp mid=some (.mapS fit dom get st c))(hd:∀v,dom' v=dom v):Weak O ⟨fr,hp,nid⟩ ⟨fr,setBlk hp mid (.map fit dom' get),nid⟩:=by
 obtain rfl:dom'=dom:=funext hd;rintro base okc ns outs a w ⟨r,h⟩;have hs:Step base okc r (· < nid) hp w r (· < nid) (setBlk hp mid (.map fit dom' get)) w:=h.sat.same hb λG' hG' hN=>by
  have hrep:=h.sat.rep mid _ hb hN;cases hr:r mid with
  |none=>rw[hr]at hrep;cases hrep
  |some b=>
   rw[hr]at hrep;cases hrep with
   |mapS _ _ _ _ _ es clock hb' hmo htm hst hes=>
    exact .map fit dom' get b es _ hb' hmo htm λe he=>(hes e he).mono (λ_ _=>rfl) (λ_ h=>h) (λo c hc=>⟨hG' o c hc,rfl⟩) (Shapes.refl w)
 exact⟨r,h.step hs (λid x hx=>by
  rw[qp]at hx;split at hx
  ·rename_i e;subst e;exact h.keys _ _ hb
  ·exact h.keys id x hx) (xa5 _) (d:=none) (λt ht=>by cases ht) (.val undef)⟩
theorem nmA{a n:Nat}(h:a<n):(∀k,(a=n+k)=False)∧(∀k,(n+k=a)=False)∧(a=n)=False∧(n=a)=False:=
 ⟨λk=>by rw[eq_iff_iff,iff_false];omega,λk=>by rw[eq_iff_iff,iff_false];omega,by rw[eq_iff_iff,iff_false];omega,by rw[eq_iff_iff,iff_false];omega⟩
theorem nmE{a b:Nat}(h:a≠b):(a=b)=False∧(b=a)=False:=⟨by simp[h],by simp[Ne.symm h]⟩
theorem g8{α:Type}{l:List α}{s:α}(h:l.Nodup)(hs:s∉l):(l++[s]).Nodup:=by
 rw[List.nodup_append];exact⟨h,Ωi,λa ha b hb=>by simp at hb;subst hb;exact λe=>hs (e▸ha)⟩
theorem vK:∀(n:Nat)(l:List Nat),l.Nodup→(∀s,s∈l→s<n)→l.length≤n
 |0,l,_,h=>by
  cases l with
  |nil=>exact xa5 _
  |cons a l=>have:=h a xd5;omega
 |n+1,l,hn,h=>by
  by_cases hm:n∈l
  ·have h1:=vK n (l.erase n) (hn.erase n) λs hs=>by
    have h2:=(List.Nodup.mem_erase_iff hn).1 hs;have:=h s h2.2;omega
   rw[List.length_erase_of_mem hm]at h1;omega
  ·have:=vK n l hn λs hs=>by
    have:=h s hs;have:s≠n:=λe=>hm (e▸hs);omega
   omega
theorem yO{l:List Value}(h:l.Nodup){g:Value→Nat}(hi:∀a b,a∈l→b∈l→g a=g b→a=b):(l.map g).Nodup:=by
 induction l with
 |nil=>exact List.nodup_nil
 |cons a l ih=>
  rw[List.nodup_cons]at h;rw[List.map_cons,List.nodup_cons];refine⟨λhm=>?_,ih h.2 λx y hx hy=>hi x y (List.mem_cons_of_mem _ hx) (List.mem_cons_of_mem _ hy)⟩;obtain⟨x,hx,e⟩:=List.mem_map.1 hm;have:=hi x a (List.mem_cons_of_mem _ hx) xd5 e;subst this;exact h.1 hx
theorem kI{l:List (Nat×Blk)}{j:Nat}(h:blk l j=none):dropBlk l j=l:=by
 induction l with
 |nil=>rfl
 |cons p l ih=>
  obtain⟨i,b⟩:=p;simp only[blk]at h;split at h
  ·cases h
  ·rename_i hne
   simp only[dropBlk];rw[if_neg hne,ih h]
end Go.Tn
end
section
namespace Go.Tn
open Go.Proofs
open Go.Sx
variable{l:List (Nat×Blk)}{i:Nat}
theorem KJ{b c:Blk}:setBlk (setBlk l i b) i c=setBlk l i c:=by
 induction l with
 |nil=>simp[setBlk]
 |cons p l ih=>
  obtain⟨j,x⟩:=p;simp only[setBlk];split
  iterate 2 focus simp[setBlk, *]
theorem qdq{b x:Blk}(h:blk l i=some x):blk (setBlk l i b) i=some b:=by
 rw[qp,if_pos rfl,h];rfl
theorem qik{x:Blk}(h:blk l i=some x):setBlk l i x=l:=by
 induction l with
 |nil=>cases h
 |cons p l ih=>
  obtain⟨j,y⟩:=p;simp only[blk]at h;simp only[setBlk];split at h
  ·rename_i e
   cases h;simp[e]
  ·rename_i e
   simp[e,ih h]
def ROK(n i m:Nat)(row r:Nat→Nat→SV):Prop:=∀k,k<n→r k 0=if k<i∨m<k then row (n - 1 - k) 0 else row k 0
theorem qoy(H:List (Nat×Blk))(id oid n:Nat)(row:Nat→Nat→SV)(hn:0<n)(hn2:n≤100000)(hb:blk H oid=some (.rows 3 1 n row))(hone:∀i,i<n→∃x:Int,row i 0=.val (.int .i64 x)) :
  EffVC Tryz.prog 279 [.vec oid n 1] H id (λhp' nid' res=>id≤nid'∧nid'≤id+50*(n+1)∧res=.tup []∧∃r,(∀k,k<n→r k 0=row (n - 1 - k) 0)∧hp'=setBlk H oid (.rows 3 1 n r)):=by
 refine Qp follows Tryz.func279 rfl Ωa Ωa (by rw[Tryz.ntmps279];simp) λout=>?_;have eH:∀b,blk (setBlk H oid b) oid=some b:=λb=>qdq hb;have hW:True:=trivial;repeat' first|refine sD ?_ ?_<;>intro _|refine aA ?_|simp -dsimp only[↓RP,RQ,seval,hb,QS,KJ,QT,QN]|exact Ωb|fail
 refine qo (λ(z:Nat×Nat×(Nat→Nat→SV))=>z.1+z.2.1+1=n∧z.1≤z.2.1+1∧ROK n z.1 z.2.1 row z.2.2) (λz=>⟨[(0,.vec oid n 1),(2,.val (.int .i64 (z.1:Nat))),(3,.val (.int .i64 (z.2.1:Nat)))],setBlk H oid (.rows 3 1 n z.2.2),id+10+30*z.1⟩) (λz=>n - z.1) (0,n - 1,row) ⟨by simp only[];omega,by simp only[];omega,λk hk=>by rw[if_neg (by simp only[];omega)]⟩ (by rw[qik hb];exact qj Ω (by simp[qI,Go.Sx.look];omega) (SubHp.refl _)) λz hz=>?_;obtain⟨i,m,r⟩:=z;obtain⟨z1,z2,z3⟩:=hz;simp only[]at z1 z2 z3;have one:∀k,k<n→∃x:Int,r k 0=.val (.int .i64 x):=λk hk=>by
  rw[z3 k hk];split
  ·exact hone _ Ω
  ·exact hone _ hk
 by_cases hlt:i<m
 ·have h1:=decide_eq_true (Ω:((i:Nat):Int)<(m:Nat))
  obtain⟨x,hx⟩:=one i Ω;obtain⟨y,hy⟩:=one m Ω;repeat' first|refine sD ?_ ?_<;>intro _|refine aA ?_|simp -dsimp only[↓RP,RQ,seval,h1,eH,hx,hy,QS,KJ,QT,QN]|exact Ωb|fail
  refine⟨(i+1,m - 1,_),⟨?_,?_,?_⟩,?_,qj (?_) (by simp[qI,Go.Sx.look];omega) (SubHp.refl _)⟩
  iterate 2 focus(simp only[];omega)
  ·intro k hk
   show(if k=m∧0=0 then SV.val (.int .i64 x)else if k=i∧0=0 then SV.val (.int .i64 y)else r k 0)=if k<i+1∨m - 1<k then row (n - 1 - k) 0 else row k 0
   by_cases e1:k=m
   ·rw[if_pos ⟨e1,rfl⟩,if_pos Ω,e1,←hx,z3 i Ω,if_neg Ω,show n - 1 - m=i by omega]
   ·rw[if_neg (λe=>e1 e.1)]
    by_cases e2:k=i
    ·rw[if_pos ⟨e2,rfl⟩,if_pos Ω,e2,←hy,z3 m Ω,if_neg Ω,show n - 1 - i=m by omega]
    ·rw[if_neg (λe=>e2 e.1),z3 k hk]
     by_cases e3:k<i∨m<k
     ·rw[if_pos e3,if_pos Ω]
     ·rw[if_neg e3,if_neg Ω]
  iterate 2 focus(simp only[];omega)
 ·have h1:=decide_eq_false (Ω:¬((i:Nat):Int)<(m:Nat))
  repeat' first|refine sD ?_ ?_<;>intro _|refine aA ?_|simp -dsimp only[↓RP,RQ,seval,h1,eH,QS,KJ,QT,QN]|exact Ωb|fail
  refine⟨_,_,_,qj (nid':=id+50*(n+1)) Ω (fr':=[(0,_)]) ⟨.inr rfl,trivial⟩ (SubHp.refl _),Ω,Ω,rfl,r,λk hk=>?_,rfl⟩;rw[z3 k hk];split
  ·rfl
  ·rw[show n - 1 - k=k by omega]
def J0(by':Nat→Nat)(N start:Nat):Nat→Nat→List Nat→Option (List Nat)
 |0,_,_=>none
 |f+1,at',acc=>if 0<by' at'∧at'<N then(if (by' at' - 1) / 5=start then some (acc++[(by' at' - 1) % 5])else J0 by' N start f ((by' at' - 1) / 5) (acc++[(by' at' - 1) % 5]))else none
def qbF(l:List Nat)(r:Nat→Nat→SV):Prop:=∀i,i<l.length→r i 0=.val (.int .i64 (l.getD i 0:Nat))
def stB(tb oid byid N start:Nat)(H:List (Nat×Blk))(id c at':Nat)(acc:List Nat)(r:Nat→Nat→SV):St:=
 match acc with
 |[]=>⟨[(0,.ptr tb 0),(1,.vec byid N 1),(2,.val (.int .i64 (start:Nat))),(7,.val (.slice none 0 0)),(8,.val (.int .i64 (at':Nat)))],H,id+10+50*c⟩
 |_ :: l=>⟨[(0,.ptr tb 0),(1,.vec byid N 1),(2,.val (.int .i64 (start:Nat))),(7,.vec oid (l.length+1) 1),(8,.val (.int .i64 (at':Nat)))],(oid,.rows 3 1 (l.length+1) r) :: H,id+10+50*c⟩
theorem qpr(H:List (Nat×Blk))(id tb byid N start fuel:Nat)(by':Nat→Nat)(row:Nat→Nat→SV)(res0:List Nat)(hN:N≤100000)(hU:Under H id)(hfu:fuel≤100000)(hs:start<N)(hby:byid<id)
  (hb:blk H byid=some (.rows 3 1 N row)) (hrow:∀i,i<N→row i 0=.val (.int .i64 (by' i:Nat))) (hB:∀i,i<N→by' i≤1000000) (hF:J0 by' N start fuel start []=some res0) :
  EffVC Tryz.prog 164 [.ptr tb 0,.vec byid N 1,.val (.int .i64 (start:Nat))] H id (λhp' nid' res=>nid'≤id+100*(fuel+2)∧∃rid r,id≤rid∧rid<nid'∧0<res0.length∧qbF res0.reverse r∧hp'=(rid,.rows 3 1 res0.length r) :: H∧res=.vec rid res0.length 1):=by
 refine Qp follows Tryz.func164 rfl Ωa Ωa (by rw[Tryz.ntmps164];simp) λout=>?_;have NB:True:=trivial;(repeat' first|refine sD ?_ ?_<;>intro _|refine aAa ?_|simp -dsimp only[↓RP,RQ,seval,NB,QS,QT,qP,QN]);refine qo (λ(z:Nat×Nat×Nat×List Nat×Nat×(Nat→Nat→SV))=>z.1+z.2.1=fuel∧J0 by' N start z.1 z.2.2.1 z.2.2.2.1=some res0∧qbF z.2.2.2.1 z.2.2.2.2.2∧z.2.2.2.1.length≤z.2.1∧(z.2.2.2.1≠[]→id≤z.2.2.2.2.1∧z.2.2.2.2.1<id+10+50*z.2.1)) (λz=>stB tb z.2.2.2.2.1 byid N start H id z.2.1 z.2.2.1 z.2.2.2.1 z.2.2.2.2.2) (λz=>z.1) (fuel,0,start,[],0,λ_ _=>.top) ⟨by simp only[];omega,hF,λi hi=>(by cases hi),xa5 _,λh=>absurd rfl h⟩ (qj Ω Ωc (SubHp.refl _)) λz hz=>?_;obtain⟨f,c,at',acc,oid,r⟩:=z;obtain⟨z1,z2,z3,z4,z5⟩:=hz;simp only[]at z1 z2 z3 z4 z5;cases f with
 |zero=>cases z2
 |succ f=>
 simp only[J0]at z2;split at z2
 case isFalse=>cases z2
 rename_i hpos;obtain⟨hp1,hp2⟩:=hpos;have hr0:=hrow at' hp2;have hB0:=hB at' hp2;obtain⟨n,hn⟩:∃n,n=id+10+50*c:=⟨_,rfl⟩;obtain⟨b,hbn⟩:∃b,by' at'=b+1:=⟨by' at' - 1,Ω⟩
 rw[hbn]at hr0 z2;rw[Nat.add_sub_cancel]at z2;have m1:((b+1:Nat):Int) - 1=(b:Nat):=by omega
 have m2:((b:Nat):Int).tmod 5=((b % 5:Nat):Int):=rfl;have m3:((b:Nat):Int).tdiv 5=((b / 5:Nat):Int):=rfl;have hq:b / 5≤b:=Nat.div_le_self _ _;have hq5:b % 5<5:=Nat.mod_lt _ Ωd;clear NB;have hbid:=hU _ _ hb;have NB:=(⟨nmA (Ω:byid<n),nmA (Ω:byid<id)⟩:_∧_);cases acc with
 |nil=>
  have hnr:qbF ([b % 5]) (λi j=>[SV.val (.int .i64 ((b % 5:Nat):Int))].getD (i+j) SV.top):=by
   intro i hi;have e:i=0:=by have hi:i<1:=hi;omega
   subst e;rfl
  skip
  simp only[stB];rw[←hn];by_cases he:b / 5=start
  ·rw[if_pos he]at z2
   have he1:=decide_eq_true (Ω:((b / 5:Nat):Int)=(start:Nat));repeat' first|refine sD ?_ ?_<;>intro _|refine aAa ?_|simp -dsimp only[↓RP,RQ,seval,he1,hb,hr0,m1,m2,m3,NB,QS,QT,qP,QN]|exact Ωb|fail
   skip
   have hl:res0=[b % 5]:=(Option.some.inj z2).symm;have hlen:res0.length=1:=by rw[hl];simp
   refine j5 Ωq (qoy _ _ (n+8) 1 (λi j=>[SV.val (.int .i64 ((b % 5:Nat):Int))].getD (i+j) SV.top) Ω Ω ΩW (λi hi=>⟨_,hnr i (by simp<;>omega)⟩)) λhp' n3 res hQ=>?_;obtain⟨q1,q2,rfl,r3,q3,rfl⟩:=hQ;repeat' first|refine sD ?_ ?_<;>intro _|refine aAa ?_|simp -dsimp only[↓RP,RQ,seval,setBlk,hb,hr0,m1,m2,m3,NB,QS,QT,qP,QN]|exact Ωb|fail
   refine⟨_,_,_,qj (nid':=id+100*(fuel+2)) Ω (fr':=[(0,_)]) ⟨.inr rfl,trivial⟩ (SubHp.cons (SubHp.skip (hU.none Ω) (SubHp.refl _))),Ω,n+8,r3,Ω,Ω,by rw[hlen];omega,λi hi=>?_,by rw[hlen],by rw[hlen];rfl⟩;rw[List.length_reverse]at hi;have hi':i<1:=by omega
   rw[q3 i hi'];have e2:=hnr (1 - 1 - i) (by simp<;>omega);rw[hl];have e3:([b % 5]).reverse.getD i 0=([b % 5]).getD (1 - 1 - i) 0:=by
    rw[xc6,xc6,List.getElem?_reverse (by simp<;>omega)];simp
   rw[e3];exact e2
  ·rw[if_neg he]at z2
   have he1:=decide_eq_false (Ω:¬((b / 5:Nat):Int)=(start:Nat));repeat' first|refine sD ?_ ?_<;>intro _|refine aAa ?_|simp -dsimp only[↓RP,RQ,seval,he1,hb,hr0,m1,m2,m3,NB,QS,QT,qP,QN]|exact Ωb|fail
   skip
   refine⟨(f,c+1,b / 5,[b % 5],n+8,(λi j=>[SV.val (.int .i64 ((b % 5:Nat):Int))].getD (i+j) SV.top)),⟨by simp only[];omega,z2,hnr,Ωi,λ_=>by simp only[];omega⟩,by simp only[];omega,?_⟩;simp only[stB];exact qj Ω Ωc (SubHp.cons (SubHp.skip (hU.none Ω) (SubHp.refl _)))
 |cons x l=>
  have hnr:qbF (x ::(l++[b % 5])) (λi j=>if i<l.length+1 then r i j else [SV.val (.int .i64 ((b % 5:Nat):Int))].getD (i -(l.length+1)+j) SV.top):=by
   intro i hi;rw[xe4,xc8,xd1]at hi;by_cases hc:i<l.length+1
   ·show(if i<l.length+1 then r i 0 else _)=_
    rw[if_pos hc,z3 i hc];have eG:(x ::(l++[b % 5])).getD i 0=(x :: l).getD i 0:=by
     rw[←List.cons_append,xc6,xc6,xc9 hc]
    rw[eG]
   ·have e:i=l.length+1:=by omega
    subst e;have eG:(x ::(l++[b % 5])).getD (l.length+1) 0=b % 5:=by simp[xc6]
    show(if l.length+1<l.length+1 then r (l.length+1) 0 else [SV.val (.int .i64 ((b % 5:Nat):Int))].getD (l.length+1 -(l.length+1)+0) SV.top)=_;rw[if_neg Ω,eG,xb8];rfl
  have⟨z6,z7⟩:=z5 Ωi;rw[←hn]at z7;rw[xe4]at z4;have NO:=(⟨nmE (Ω:oid≠byid),nmA z7⟩:_∧_);have hdr:dropBlk H oid=H:=kI (hU.none z6);simp only[stB];rw[←hn];by_cases he:b / 5=start
  ·rw[if_pos he]at z2
   have he1:=decide_eq_true (Ω:((b / 5:Nat):Int)=(start:Nat));repeat' first|refine sD ?_ ?_<;>intro _|refine aAa ?_|simp -dsimp only[↓RP,RQ,seval,he1,hb,hr0,m1,m2,m3,NO,hdr,NB,QS,QT,qP,QN]|exact Ωb|fail
   skip
   have hl:res0=x ::(l++[b % 5]):=(Option.some.inj z2).symm;have hlen:res0.length=(l.length+2):=by rw[hl];simp
   refine j5 Ωq (qoy _ _ (n+8) (l.length+2) (λi j=>if i<l.length+1 then r i j else [SV.val (.int .i64 ((b % 5:Nat):Int))].getD (i -(l.length+1)+j) SV.top) Ω Ω ΩW (λi hi=>⟨_,hnr i (by simp<;>omega)⟩)) λhp' n3 res hQ=>?_;obtain⟨q1,q2,rfl,r3,q3,rfl⟩:=hQ;repeat' first|refine sD ?_ ?_<;>intro _|refine aAa ?_|simp -dsimp only[↓RP,RQ,seval,setBlk,hb,hr0,m1,m2,m3,NO,hdr,NB,QS,QT,qP,QN]|exact Ωb|fail
   refine⟨_,_,_,qj (nid':=id+100*(fuel+2)) Ω (fr':=[(0,_)]) ⟨.inr rfl,trivial⟩ (SubHp.cons (SubHp.skip (hU.none Ω) (SubHp.refl _))),Ω,n+8,r3,Ω,Ω,by rw[hlen];omega,λi hi=>?_,by rw[hlen],by rw[hlen];rfl⟩;rw[List.length_reverse]at hi;have hi':i<(l.length+2):=by omega
   rw[q3 i hi'];have e2:=hnr ((l.length+2) - 1 - i) (by simp<;>omega);rw[hl];have e3:(x ::(l++[b % 5])).reverse.getD i 0=(x ::(l++[b % 5])).getD ((l.length+2) - 1 - i) 0:=by
    rw[xc6,xc6,List.getElem?_reverse (by simp<;>omega)];rw[show(x ::(l++[b % 5])).length=l.length+2 by simp]
   rw[e3];exact e2
  ·rw[if_neg he]at z2
   have he1:=decide_eq_false (Ω:¬((b / 5:Nat):Int)=(start:Nat));repeat' first|refine sD ?_ ?_<;>intro _|refine aAa ?_|simp -dsimp only[↓RP,RQ,seval,he1,hb,hr0,m1,m2,m3,NO,hdr,NB,QS,QT,qP,QN]|exact Ωb|fail
   skip
   refine⟨(f,c+1,b / 5,x ::(l++[b % 5]),n+8,(λi j=>if i<l.length+1 then r i j else [SV.val (.int .i64 ((b % 5:Nat):Int))].getD (i -(l.length+1)+j) SV.top)),⟨by simp only[];omega,z2,hnr,Ωl,λ_=>by simp only[];omega⟩,by simp only[];omega,?_⟩;simp only[stB,xc8,xd1];exact qj Ω Ωc (SubHp.cons (SubHp.skip (hU.none Ω) (SubHp.refl _)))
end Go.Tn
end
section
namespace Go.Tn
open Go.Proofs
open Go.Sx
def stL(s:Nat→Int):List SV:=[.val (.int .i64 (s 0)),.val (.int .i64 (s 1)),.val (.int .i64 (s 2)),.val (.int .i64 (s 3)),.val (.int .i64 (s 4))]
theorem V8{s:Nat→Int}{k:Nat}(h:k<5):(stL s)[k]? = some (.val (.int .i64 (s k))):=by
 have:k=0∨k=1∨k=2∨k=3∨k=4:=by omega
 rcases this with rfl|rfl|rfl|rfl|rfl<;>rfl
theorem qdr(s:Nat→Int):(stL s).length=5:=rfl
def ixF(u s:Nat→Int):Nat→Int
 |0=>0
 |k+1=>ixF u s k*(u k+1)+s k
theorem Zn(u s:Nat→Int)(k:Nat):ixF u s (k+1)=ixF u s k*(u k+1)+s k:=rfl
theorem QA{u s:Nat→Int}{m:Nat}(h:∀i,i<m→0≤s i∧s i≤u i):∀{k},k≤m→0≤ixF u s k∧ixF u s k<prd u k
 |0,_=>⟨Int.le_refl _,Int.one_pos⟩
 |k+1,hk=>by
  have⟨h1,h2⟩:=QA h (k:=k) Ω;have⟨h3,h4⟩:=h k Ω;rw[Zn,qok];constructor
  ·have:=Int.mul_nonneg h1 (Ω:(0:Int)≤u k+1);omega
  ·have h5:(ixF u s k+1)*(u k+1)≤prd u k*(u k+1):=Int.mul_le_mul_of_nonneg_right Ω Ω
   rw[Int.add_mul]at h5;omega
theorem qoz(H:List (Nat×Blk))(id tb m:Nat)(u s:Nat→Int)(tix:Nat)(tr:Nat→Nat→SV)(hti:tix<id)(hN0:blk H id=none)(ht:blk H tix=some (.rows 3 1 m tr))(htu:∀i,i<m→tr i 0=.val (.int .i64 (u i)))(Z1 Z2 Z3 Z4:SV)(hm:m≤5)(hu:∀i,i<m→1≤u i∧u i≤12)(hs:∀i,i<m→0≤s i∧s i≤u i)
  (hid:tb<id) (hb:blk H tb=some (.cells 253 [.vec tix m 1,Z1,Z2,Z3,Z4])) :
  EffVC Tryz.prog 162 [.ptr tb 0,.agg (stL s)] H id (λhp' nid' res=>hp'=H∧nid'=id+200∧res=I (ixF u s m)):=by
 refine Qp follows Tryz.func162 rfl Ωa Ωa (by rw[Tryz.ntmps162];simp) λout=>?_;have NB:True:=trivial;have hlen:(stL s).length=5:=rfl;have hT:=ht;have NB:=(⟨nmA hid,nmE (Ω:id≠tb)⟩:_∧_);repeat' first|refine sD ?_ ?_<;>intro _|refine aAb ?_|simp -dsimp only[↓RP,RQ,seval,NB,hb,hT,hlen,QS,QT,QN]|exact Ωb|fail
 refine qo (λ(k:Nat)=>k≤m) (λk=>⟨[(0,.ptr tb 0),(3,.ptr id 0),(5,.val (.int .i64 (ixF u s k))),(12,.vec tix m 1),(13,.val (.int .i64 (m:Nat))),(14,.val (.int .i64 (k:Nat)))],(id,.cells 140 (stL s)) :: H,id+20+30*k⟩) (λk=>m - k) 0 (xb6 _) (qj Ω (by simp[qI,Go.Sx.look,ixF]) (SubHp.refl _)) λk hk=>?_;by_cases hkm:k<m
 ·have hlt:=decide_eq_true (Ω:((k:Nat):Int)<(m:Nat))
  have hsk:=V8 (s:=s) (k:=k) Ω;have⟨b1,b2⟩:=QA hs hk;have⟨b3,b4⟩:=QA hs (k:=k+1) hkm;have b5:=qcC hu hm hk;have b6:=qcC hu hm (k:=k+1) hkm;have b7:=hu k hkm;have b8:=hs k hkm;have b9:0≤ixF u s k*(u k+1):=Int.mul_nonneg b1 Ω;rw[Zn]at b3 b4;have htk:=htu k hkm;have NX:=(⟨nmA hti,nmE (Ω:tix≠id)⟩:_∧_);repeat' first|refine sD ?_ ?_<;>intro _|refine aAb ?_|simp -dsimp only[↓RP,RQ,seval,NB,hlt,NX,htk,hb,hT,hlen,QS,QT,QN]|exact Ωb|fail
  refine⟨_,hsk,?_⟩;repeat' first|refine sD ?_ ?_<;>intro _|refine aAb ?_|simp -dsimp only[↓RP,RQ,seval,NB,hlt,NX,htk,hb,hT,hlen,QS,QT,QN]|exact Ωb|fail
  refine⟨k+1,hkm,Ω,qj Ω (by simp[qI,Go.Sx.look,Zn]) (SubHp.refl _)⟩
 ·obtain rfl:k=m:=by omega
  have hlt:=decide_eq_false (Ω:¬((k:Nat):Int)<(k:Nat));repeat' first|refine sD ?_ ?_<;>intro _|refine aAb ?_|simp -dsimp only[↓RP,RQ,seval,NB,hlt,hb,hT,hlen,QS,QT,QN]|exact Ωb|fail
  exact⟨_,_,_,qj (nid':=id+200) Ω (fr':=[(0,_)]) ⟨.inr rfl,trivial⟩ (SubHp.skip hN0 (SubHp.refl _)),rfl,rfl,rfl⟩
theorem qoA(H:List (Nat×Blk))(id tb m:Nat)(u s:Nat→Int)(o full:Bool)(row:Nat→Nat→SV)(hN0:blk H id=none)(htu:∀i,i<m→row i 0=.val (.int .i64 (u i)))(Z1 Z2 Z3 Z4:SV)(hm:m≤5)(hu:∀i,i<m→1≤u i∧u i≤12)(hs:∀i,i<m→0≤s i∧s i≤u i)
  (hid:tb<id) (hb:blk H tb=some (.cells 253 [.arr o full m 1 row,Z1,Z2,Z3,Z4])) :
  EffVC Tryz.prog 162 [.ptr tb 0,.agg (stL s)] H id (λhp' nid' res=>hp'=H∧nid'=id+200∧res=I (ixF u s m)):=by
 refine Qp follows Tryz.func162 rfl Ωa Ωa (by rw[Tryz.ntmps162];simp) λout=>?_;have NB:True:=trivial;have hlen:(stL s).length=5:=rfl;have hT:True:=trivial;have NB:=(⟨nmA hid,nmE (Ω:id≠tb)⟩:_∧_);repeat' first|refine sD ?_ ?_<;>intro _|refine aAb ?_|simp -dsimp only[↓RP,RQ,seval,NB,hb,hT,hlen,QS,QT,QN]|exact Ωb|fail
 refine qo (λ(k:Nat)=>k≤m) (λk=>⟨[(0,.ptr tb 0),(3,.ptr id 0),(5,.val (.int .i64 (ixF u s k))),(12,.arr o full m 1 row),(13,.val (.int .i64 (m:Nat))),(14,.val (.int .i64 (k:Nat)))],(id,.cells 140 (stL s)) :: H,id+20+30*k⟩) (λk=>m - k) 0 (xb6 _) (qj Ω (by simp[qI,Go.Sx.look,ixF]) (SubHp.refl _)) λk hk=>?_;by_cases hkm:k<m
 ·have hlt:=decide_eq_true (Ω:((k:Nat):Int)<(m:Nat))
  have hsk:=V8 (s:=s) (k:=k) Ω;have⟨b1,b2⟩:=QA hs hk;have⟨b3,b4⟩:=QA hs (k:=k+1) hkm;have b5:=qcC hu hm hk;have b6:=qcC hu hm (k:=k+1) hkm;have b7:=hu k hkm;have b8:=hs k hkm;have b9:0≤ixF u s k*(u k+1):=Int.mul_nonneg b1 Ω;rw[Zn]at b3 b4;have htk:=htu k hkm;repeat' first|refine sD ?_ ?_<;>intro _|refine aAb ?_|simp -dsimp only[↓RP,RQ,seval,NB,hlt,htk,hb,hT,hlen,QS,QT,QN]|exact Ωb|fail
  refine⟨_,hsk,?_⟩;repeat' first|refine sD ?_ ?_<;>intro _|refine aAb ?_|simp -dsimp only[↓RP,RQ,seval,NB,hlt,htk,hb,hT,hlen,QS,QT,QN]|exact Ωb|fail
  refine⟨k+1,hkm,Ω,qj Ω (by simp[qI,Go.Sx.look,Zn]) (SubHp.refl _)⟩
 ·obtain rfl:k=m:=by omega
  have hlt:=decide_eq_false (Ω:¬((k:Nat):Int)<(k:Nat));repeat' first|refine sD ?_ ?_<;>intro _|refine aAb ?_|simp -dsimp only[↓RP,RQ,seval,NB,hlt,hb,hT,hlen,QS,QT,QN]|exact Ωb|fail
  exact⟨_,_,_,qj (nid':=id+200) Ω (fr':=[(0,_)]) ⟨.inr rfl,trivial⟩ (SubHp.skip hN0 (SubHp.refl _)),rfl,rfl,rfl⟩
end Go.Tn
end
section
namespace Go.Tn
open Go.Proofs
open Go.Sx
theorem YQ(s:Nat→Int):List.take 5 (stL s)=stL s:=rfl
end Go.Tn
end
section
namespace Go.Tn
open Go.Proofs
open Go.Sx
end Go.Tn
end
section
namespace Go.Tn
open Go.Proofs
open Go.Sx
theorem TYP:True∧qn Tryz.prog 2=some ⟨false,1,some [.int .i64 0],.int .i64⟩∧qn Tryz.prog 3=some ⟨false,1,some [.int .i64 0],.int .i64⟩∧qn Tryz.prog 4=some ⟨false,1,some [.bool false],.bool⟩∧qn Tryz.prog 5=some ⟨false,1,some [.int .u8 0],.int .u8⟩∧qn Tryz.prog 22=some ⟨false,1,some [.slice none 0 0],.slice 3 1⟩∧qn Tryz.prog 25=some ⟨false,1,some [.slice none 0 0],.slice 5 1⟩∧qn Tryz.prog 28=some ⟨false,1,some [.int .i64 0],.int .i64⟩∧qn Tryz.prog 45=some ⟨false,1,some [.slice none 0 0],.slice 49 2⟩∧qn Tryz.prog 46=some ⟨false,1,some [.slice none 0 0],.slice 51 3⟩∧qn Tryz.prog 48=some ⟨true,8,some [.int .i64 0,.int .i64 0,.slice none 0 0,.slice none 0 0,.bool false,.int .i64 0,.int .i64 0,.int .i64 0],.struct [(0,1,some false),(1,1,some false),(2,1,some false),(3,1,some false),(4,1,some false),(5,1,some false),(6,1,some false),(7,1,some false)]⟩∧qw Tryz.prog 48=some [(0,1),(1,1),(2,1),(3,1),(4,1),(5,1),(6,1),(7,1)]∧qn Tryz.prog 49=some ⟨true,2,some [.int .u8 0,.int .u8 0],.array 2 5 1⟩∧qw Tryz.prog 49=some [(0,1),(1,1)]∧zk Tryz.prog 49=some [.i .u8,.i .u8]∧qn Tryz.prog 51=some ⟨true,3,some [.int .i64 0,.int .i64 0,.int .i64 0],.struct [(0,1,some false),(1,1,some false),(2,1,some false)]⟩∧qw Tryz.prog 51=some [(0,1),(1,1),(2,1)]∧zk Tryz.prog 51=some [.i .i64,.i .i64,.i .i64]∧qn Tryz.prog 55=some ⟨true,2,some [.int .i64 0,.int .i64 0],.array 2 3 1⟩∧qw Tryz.prog 55=some [(0,1),(1,1)]∧zk Tryz.prog 55=some [.i .i64,.i .i64]∧qn Tryz.prog 57=some ⟨true,6,some [.int .i64 0,.int .i64 0,.int .i64 0,.int .i64 0,.int .i64 0,.int .i64 0],.struct [(0,1,some false),(1,1,some false),(2,1,some false),(3,1,some false),(4,1,some false),(5,1,some false)]⟩∧qw Tryz.prog 57=some [(0,1),(1,1),(2,1),(3,1),(4,1),(5,1)]∧zk Tryz.prog 57=some [.i .i64,.i .i64,.i .i64,.i .i64,.i .i64,.i .i64]∧qn Tryz.prog 60=some ⟨false,1,some [.slice none 0 0],.slice 22 1⟩∧qL Tryz.prog 46=24∧qL Tryz.prog 48=96∧qL Tryz.prog 51=24∧qL Tryz.prog 55=16:=⟨trivial,Ωa,Ωa,Ωa,Ωa,Ωa,Ωa,Ωa,Ωa,Ωa,Ωa,Ωa,Ωa,Ωa,Ωa,Ωa,Ωa,Ωa,Ωa,Ωa,Ωa,Ωa,Ωa,Ωa,Ωa,Ωa,Ωa,Ωa,Ωa⟩
def okB(n a b c:Int):Prop:=(1≤c∧c≤1000)∧(0≤a∧a<n)∧b = -1
instance(n a b c:Int):Decidable (okB n a b c):=inferInstanceAs (Decidable (_∧_∧_))
end Go.Tn
end
section
namespace Go.Tn
open Go.Proofs
open Go.Sx
variable{X:SV}
theorem TYc:True∧qn Tryz.prog 2=some ⟨false,1,some [.int .i64 0],.int .i64⟩∧qn Tryz.prog 3=some ⟨false,1,some [.int .i64 0],.int .i64⟩∧qn Tryz.prog 4=some ⟨false,1,some [.bool false],.bool⟩∧qn Tryz.prog 28=some ⟨false,1,some [.int .i64 0],.int .i64⟩∧qn Tryz.prog 32=some ⟨false,1,some [.slice none 0 0],.slice 2 1⟩∧qn Tryz.prog 95=some ⟨false,1,some [.slice none 0 0],.slice 101 4⟩∧qn Tryz.prog 97=some ⟨true,3,some [.int .i64 0,.int .i64 0,.slice none 0 0],.struct [(0,1,some false),(1,1,some false),(2,1,some false)]⟩∧qw Tryz.prog 97=some [(0,1),(1,1),(2,1)]∧qn Tryz.prog 99=some ⟨true,2,some [.int .i64 0,.int .i64 0],.struct [(0,1,some false),(1,1,some false)]⟩∧qw Tryz.prog 99=some [(0,1),(1,1)]∧zk Tryz.prog 99=some [.i .i64,.i .i64]∧qn Tryz.prog 101=some ⟨true,4,some [.int .i64 0,.int .i64 0,.int .i64 0,.int .i64 0],.struct [(0,1,some false),(1,1,some false),(2,2,some true)]⟩∧qw Tryz.prog 101=some [(0,1),(1,1),(2,2)]∧zk Tryz.prog 101=some [.i .i64,.i .i64,.i .i64,.i .i64]∧qn Tryz.prog 184=some ⟨false,1,some [.pointer none],.other⟩∧qn Tryz.prog 193=some ⟨true,3,some [.bool false,.int .i64 0,.bool false],.struct [(0,1,some false),(1,1,some false),(2,1,some false)]⟩∧qw Tryz.prog 193=some [(0,1),(1,1),(2,1)]∧zk Tryz.prog 193=some [.b,.i .i64,.b]∧qn Tryz.prog 336=some ⟨false,1,some [.map none],.map 343 340⟩∧qz Tryz.prog 336=some ⟨true,[.i .i64,.i .i64],.agg [.val (.bool false),.val (.int .i64 0),.val (.bool false),.val (.int .i64 0)]⟩∧qn Tryz.prog 338=some ⟨true,4,some [.int .i64 0,.int .i64 0,.slice none 0 0,.map none],.struct [(0,3,some true),(3,1,some false)]⟩∧qw Tryz.prog 338=some [(0,3),(3,1)]∧qn Tryz.prog 340=some ⟨true,4,some [.bool false,.int .i64 0,.bool false,.int .i64 0],.struct [(0,3,some true),(3,1,some false)]⟩∧qw Tryz.prog 340=some [(0,3),(3,1)]∧zk Tryz.prog 340=some [.b,.i .i64,.b,.i .i64]∧qn Tryz.prog 343=some ⟨true,2,some [.int .i64 0,.int .i64 0],.struct [(0,1,some false),(1,1,some false)]⟩∧qw Tryz.prog 343=some [(0,1),(1,1)]∧zk Tryz.prog 343=some [.i .i64,.i .i64]∧qL Tryz.prog 101=32:=⟨trivial,Ωa,Ωa,Ωa,Ωa,Ωa,Ωa,Ωa,Ωa,Ωa,Ωa,Ωa,Ωa,Ωa,Ωa,Ωa,Ωa,Ωa,Ωa,Ωa,Ωa,Ωa,Ωa,Ωa,Ωa,Ωa,Ωa,Ωa,Ωa,Ωa⟩
def ctL(h:Ha)(i:Nat):List SV:=[.val (.int .i64 (h.f i)),.val (.int .i64 (h.t i)),.val (.int .i64 (h.lo i)),.val (.int .i64 (h.hi i))]
def ctR(h:Ha):SV:=.arr false false h.k 4 (λi j=>(ctL h i).getD j .top)
def haS(h:Ha):SV:=.agg [.val (.int .i64 h.w),.val (.int .i64 h.m),ctR h]
def shL(h:Ha)(X:SV):List SV:=[.val (.int .i64 h.w),.val (.int .i64 h.m),ctR h,X]
def shR(h:Ha)(X:SV):SV:=.ref false 4 (λj=>(shL h X).getD j .top)
theorem qkO{P:SV→Prop}{a b c d:SV}(ha:P a)(hb:P b)(hc:P c)(hd:P d):∀j,j<4→P ([a,b,c,d].getD j .top):=λj hj=>by
 rcases(Ω:j=0∨j=1∨j=2∨j=3)with rfl|rfl|rfl|rfl<;>assumption
theorem kJ(h:Ha):Old (ctR h):=⟨rfl,λi j hi hj=>by
 unfold ctL;exact qkO (P:=Old) ΩC ΩC ΩC ΩC j hj⟩
theorem jK(h:Ha):Old (haS h):=by simp[haS,Old,OldL,kJ]
theorem V9(h:Ha)(hX:Old X):Old (shR h X):=⟨rfl,λj hj=>qkO (P:=Old) ΩC ΩC (kJ h) hX j hj⟩
theorem qoB(h:Ha)(hX:Old X)(i:Nat)(hi:i<h.w)(hw:h.w≤10)(b:Bool):qc Tryz.prog 329 [shR h X,.agg [.val (.bool true),.val (.int .i64 (i:Nat)),.val (.bool b)]] (.tup [I (if b then h.bk i else h.fw i).1,I (if b then h.bk i else h.fw i).2.1,I (if b then h.bk i else h.fw i).2.2]):=by
 refine qh Tryz.func329 rfl Ωa follows Ωa _ _ (by rw[Tryz.ntmps329];simp) (by simp only[OldL,V9 h hX,true_and];simp[Old,OldL]) ?_;have NB:True:=trivial;cases b
 all_goals (conv=>arg 4;unfold shR shL)
 all_goals repeat' first|refine sD ?_ ?_<;>intro _|refine aAc ?_|simp -dsimp only[↓RP,RQ,seval,TYc,NB,QR,QT,QN]
 all_goals all_goals try exact Ωb
 all_goals simp[Ha.fw,Ha.bk,hi,I]
theorem qoC(h:Ha)(o:h.Ok)(hX:Old X)(i:Nat)(hi:i<h.k)(b:Bool):qc Tryz.prog 329 [shR h X,.agg [.val (.bool false),.val (.int .i64 (i:Nat)),.val (.bool b)]] (.tup [I (if b then h.bk (h.w+i)else h.fw (h.w+i)).1,I (if b then h.bk (h.w+i)else h.fw (h.w+i)).2.1,I (if b then h.bk (h.w+i)else h.fw (h.w+i)).2.2]):=by
 have h1:=o.ft i hi;have h2:=o.lh i hi;have h3:=o.w2;refine qh Tryz.func329 rfl Ωa follows Ωa _ _ (by rw[Tryz.ntmps329];simp) (by simp only[OldL,V9 h hX,true_and];simp[Old,OldL]) ?_;have NB:True:=trivial;cases b
 all_goals (conv=>arg 4;unfold shR shL ctR ctL)
 all_goals repeat' first|refine sD ?_ ?_<;>intro _|refine aAc ?_|simp -dsimp only[↓RP,RQ,seval,TYc,NB,QR,QT,QN]
 all_goals all_goals try exact Ωb
 all_goals simp[Ha.fw,Ha.bk,I,show ¬h.w+i<h.w by omega]
end Go.Tn
end
section
namespace Go.Sx
open Go.RowKit
noncomputable section
variable{l:List SV}{α:Type}
def gK(cl:SV→Option SV)(l:List SV):Option (List SV):=
 List.rec (motive:=λ_=>Option (List SV)) (some []) (λa _ ih=>match cl a,ih with
  |some b,some m=>some (b :: m)
  |_,_=>none) l
def qoD(k:Nat)(l:List SV)(i j:Nat):SV:=l.getD (i*k+j) .top
def YR(o full:Bool)(n k:Nat)(l:Option (List SV)):Option SV:=
 match l with
 |some l=>some (.arr o full n k (qoD k l))
 |none=>none
def qkP(f:List SV→SV)(l:Option (List SV)):Option SV:=
 match l with
 |some l=>some (f l)
 |none=>none
def fnO(f:Fn)(a b:Option (List SV)):Option SV:=
 match a,b with
 |some a,some b=>some (.fn f a b)
 |_,_=>none
def qkQ(o:Bool)(n:Nat)(l:Option (List SV)):Option SV:=
 match l with
 |some l=>some (.ref o n (λj=>l.getD j .top))
 |none=>none
def qbG(o:Bool)(hp:Tr 6 XB)(cl:SV→Option SV)(s:SV):Option SV:=
 match s with
 |.val v=>some (.val v)
 |.agg l=>qkP .agg (gK cl l)
 |.tup l=>qkP .tup (gK cl l)
 |.fn f a b=>fnO f (gK cl a) (gK cl b)
 |.vec id n k=>(match hp.find id with
  |some (.rows _ k' n' l)=>Bool.rec none (YR o false n k (gK cl (l.take (n*k)))) (Nat.ble n n'&&Nat.beq k k')
  |_=>none)
 |.cut id n k=>(match hp.find id with
  |some (.rows _ k' n' l)=>Bool.rec none (YR o true n k (gK cl (l.take (n*k)))) (Nat.ble n n'&&Nat.beq k k')
  |_=>none)
 |.asl id off n k=>(match hp.find id with
  |some (.cells _ l)=>Bool.rec none (YR o false n k (gK cl ((l.drop off).take (n*k)))) (Nat.ble (off+n*k) l.length)
  |_=>none)
 |.ptr id off=>(match hp.find id with
  |some (.cells _ l)=>qkQ o (l.length - off) (gK cl (l.drop off))
  |_=>none)
 |.arr o' full n k row=>Bool.rec none (YR o full n k (gK cl (wJ row k n))) (Bool.rec true o' o)
 |.ref o' n row=>Bool.rec none (qkQ o n (gK cl (sel row 0 n))) (Bool.rec true o' o)
 |_=>some .top
def QB(o:Bool)(hp:Tr 6 XB)(n:Nat):SV→Option SV:=Nat.rec (λ_=>some .top) (λ_ ih=>qbG o hp ih) n
section
variable{H:List (Nat×Blk)}{hp:Tr 6 XB}{LM:Nat→Option Loop}
def OF(o:Bool)(s:SV):Prop:=(o=false→Old s)∧(o=true→Fresh s)
def OFL(o:Bool)(s:List SV):Prop:=(o=false→OldL s)∧(o=true→FreshL s)
theorem zB{o:Bool}{cl:SV→Option SV}(hcl:∀s s',cl s=some s'→Sub H s' s∧OF o s'):∀{l l':List SV},gK cl l=some l'→SubL H l' l∧OFL o l'∧l'.length=l.length∧∀i,i<l.length→Sub H (l'.getD i .top) (l.getD i .top)∧OF o (l'.getD i .top)
 |[],l',h=>by
  cases h;exact⟨by simp[SubL],⟨λ_=>by simp[OldL],λ_=>by simp[FreshL]⟩,rfl,λi hi=>by simp at hi⟩
 |a :: l,l',h=>by
  have h:(match cl a,gK cl l with
   |some b,some m=>some (b :: m)
   |_,_=>none)=some l':=h
  split at h
  ·rename_i b m hb hm
   cases h;obtain⟨h1,h2⟩:=hcl _ _ hb;obtain⟨g1,g2,g3,g4⟩:=zB hcl hm;refine⟨by simp only[SubL];exact⟨h1,g1⟩,⟨λe=>by simp only[OldL];exact⟨h2.1 e,g2.1 e⟩,λe=>by simp only[FreshL];exact⟨h2.2 e,g2.2 e⟩⟩,by simp[g3],λi hi=>?_⟩;cases i with
   |zero=>exact⟨h1,h2⟩
   |succ i=>exact g4 i Ω1
  ·cases h
theorem Wa{o full:Bool}{n k:Nat}(h:∀i,i<n*k→OF o (l.getD i .top)):OF o (.arr o full n k (qoD k l)):=
 ⟨λe=>by simp only[Old];exact⟨e,λi j hi hj=>(h _ (kY hi hj)).1 e⟩,λe=>by simp only[Fresh];exact⟨e,λi j hi hj=>(h _ (kY hi hj)).2 e⟩⟩
theorem qil{o:Bool}{n:Nat}(h:∀i,i<n→OF o (l.getD i .top)):OF o (.ref o n (λj=>l.getD j .top)):=
 ⟨λe=>by simp only[Old];exact⟨e,λj hj=>(h _ hj).1 e⟩,λe=>by simp only[Fresh];exact⟨e,λj hj=>(h _ hj).2 e⟩⟩
theorem YS{a b:Bool}{x:Option α}{y:α}(h:(Bool.rec none x (a&&b):Option α)=some y):a=true∧b=true∧x=some y:=by
 cases a<;>cases b<;>first|exact⟨rfl,rfl,h⟩|cases h
theorem GT{a:Bool}{x:Option α}{y:α}(h:(Bool.rec none x a:Option α)=some y):a=true∧x=some y:=by
 cases a<;>first|exact⟨rfl,h⟩|cases h
theorem vL{m i:Nat}(h:i<m):(l.take m).getD i .top=l.getD i .top:=by
 rw[xc6,xc6,List.getElem?_take,if_pos h]
theorem ZU{m i:Nat}:(l.drop m).getD i .top=l.getD (m+i) .top:=by
 rw[xc6,xc6,List.getElem?_drop]
theorem ZV(hH:HRel LM hp H)(o:Bool):∀(n:Nat)(s s':SV),QB o hp n s=some s'→Sub H s' s∧OF o s'
 |0,s,s',h=>by
  have h:some SV.top=some s':=h;cases h;exact⟨by simp[Sub],⟨λ_=>by simp[Old],λ_=>by simp[Fresh]⟩⟩
 |m+1,s,s',h0=>by
  have h:qbG o hp (QB o hp m) s=some s':=h0;clear h0;have ih:=ZV hH o m;unfold qbG at h;split at h
  ·cases h;exact⟨by simp[Sub],⟨λ_=>by simp[Old],λ_=>by simp[Fresh]⟩⟩
  ·unfold qkP at h
   split at h
   ·rename_i l' hl
    cases h;obtain⟨h1,h2,_⟩:=zB ih hl;exact⟨by simp only[Sub];exact h1,⟨λe=>by simp only[Old];exact h2.1 e,λe=>by simp only[Fresh];exact h2.2 e⟩⟩
   ·cases h
  ·unfold qkP at h
   split at h
   ·rename_i l' hl
    cases h;obtain⟨h1,h2,_⟩:=zB ih hl;exact⟨by simp only[Sub];exact h1,⟨λe=>by simp only[Old];exact h2.1 e,λe=>by simp only[Fresh];exact h2.2 e⟩⟩
   ·cases h
  ·unfold fnO at h
   split at h
   ·rename_i a' b' ha hb
    cases h;obtain⟨h1,h2,_⟩:=zB ih ha;obtain⟨g1,g2,_⟩:=zB ih hb;exact⟨by simp only[Sub];exact⟨trivial,h1,g1⟩,⟨λe=>by simp only[Old];exact⟨h2.1 e,g2.1 e⟩,λe=>by simp only[Fresh];exact⟨h2.2 e,g2.2 e⟩⟩⟩
   ·cases h
  ·split at h
   ·rename_i id n k _ _ k' n' l hb
    obtain⟨q1,q2,p⟩:=YS h;clear h;have q1:=xa7 q1;have q2:=xa6 q2;subst q2;unfold YR at p;split at p
    ·rename_i l' hl
     cases p;obtain⟨_,_,h3,h4⟩:=zB ih hl;obtain⟨row,hb,hr⟩:=hH.rows hb;have hlen:(l.take (n*k)).length=n*k:=(hr.take q1).1;refine⟨?_,Wa λi hi=>(h4 i Ω).2⟩;simp only[Sub,hb];refine⟨trivial,trivial,trivial,q1,trivial,λi j hi hj=>?_⟩;have:=(h4 (i*k+j) (by rw[hlen];exact kY hi hj)).1;rw[vL (kY hi hj)]at this;rw[hr.2 i j Ω hj];exact this
    ·cases p
   ·cases h
  ·split at h
   ·rename_i id n k _ _ k' n' l hb
    obtain⟨q1,q2,p⟩:=YS h;clear h;have q1:=xa7 q1;have q2:=xa6 q2;subst q2;unfold YR at p;split at p
    ·rename_i l' hl
     cases p;obtain⟨_,_,h3,h4⟩:=zB ih hl;obtain⟨row,hb,hr⟩:=hH.rows hb;have hlen:(l.take (n*k)).length=n*k:=(hr.take q1).1;refine⟨?_,Wa λi hi=>(h4 i Ω).2⟩;simp only[Sub,hb];refine⟨trivial,trivial,q1,trivial,λi j hi hj=>?_⟩;have:=(h4 (i*k+j) (by rw[hlen];exact kY hi hj)).1;rw[vL (kY hi hj)]at this;rw[hr.2 i j Ω hj];exact this
    ·cases p
   ·cases h
  ·split at h
   ·rename_i id off n k _ _ l hb
    obtain⟨q1,p⟩:=GT h;clear h;have q1:=xa7 q1;unfold YR at p;split at p
    ·rename_i l' hl
     cases p;obtain⟨_,_,h3,h4⟩:=zB ih hl;have hlen:((l.drop off).take (n*k)).length=n*k:=by rw[xd9,List.length_drop];omega
     refine⟨?_,Wa λi hi=>(h4 i Ω).2⟩;simp only[Sub,hH.cells hb];refine⟨trivial,trivial,trivial,q1,λi j hi hj=>?_⟩;have:=(h4 (i*k+j) (by rw[hlen];exact kY hi hj)).1;rw[vL (kY hi hj),ZU]at this;exact this
    ·cases p
   ·cases h
  ·split at h
   ·rename_i id off _ _ l hb
    unfold qkQ at h;split at h
    ·rename_i l' hl
     cases h;obtain⟨_,_,h3,h4⟩:=zB ih hl;have hlen:(l.drop off).length=l.length - off:=List.length_drop;refine⟨?_,qil λi hi=>(h4 i Ω).2⟩;simp only[Sub,hH.cells hb];intro j hj;have:=(h4 j Ω).1;rw[ZU]at this;exact⟨this,Ω⟩
    ·cases h
   ·cases h
  ·rename_i o' full n k row
   obtain⟨q1,p⟩:=GT h;clear h;unfold YR at p;split at p
   ·rename_i l' hl
    cases p;obtain⟨_,_,h3,h4⟩:=zB ih hl;have hr:=jo row k n;refine⟨?_,Wa λi hi=>(h4 i (by rw[hr.1];exact hi)).2⟩;simp only[Sub];refine⟨λe=>by rw[e]at q1;exact q1,id,trivial,trivial,λi j hi hj=>?_⟩;have:=(h4 (i*k+j) (by rw[hr.1];exact kY hi hj)).1;rw[hr.2 i j hi hj];exact this
   ·cases p
  ·rename_i o' n row
   obtain⟨q1,p⟩:=GT h;clear h;unfold qkQ at p;split at p
   ·rename_i l' hl
    cases p;obtain⟨_,_,h3,h4⟩:=zB ih hl;refine⟨?_,qil λi hi=>(h4 i (by rw[gQ];exact hi)).2⟩;simp only[Sub];refine⟨λe=>by rw[e]at q1;exact q1,xa5 _,λj hj=>?_⟩;have:=(h4 j (by rw[gQ];exact hj)).1;have e2:(sel row 0 n).getD j .top=row j:=by rw[xc6,yq,if_pos hj,xb0];rfl
    rw[e2]at this;exact this
   ·cases p
  ·cases h
   exact⟨by simp[Sub],⟨λ_=>by simp[Old],λ_=>by simp[Fresh]⟩⟩
def qbH(fr:SV→Bool)(s:SV):Bool:=
 match s with
 |.val _=>true
 |.agg l=>l.all fr
 |.tup l=>l.all fr
 |.fn _ a b=>a.all fr&&b.all fr
 |.arr true _ n k row=>(wJ row k n).all fr
 |.ref true n row=>(sel row 0 n).all fr
 |_=>false
def GU(n:Nat):SV→Bool:=Nat.rec (λ_=>false) (λ_ ih=>qbH ih) n
theorem vM{fr:SV→Bool}(hfr:∀s,fr s=true→Fresh s):∀{l:List SV},l.all fr=true→FreshL l
 |[],_=>by simp[FreshL]
 |a :: l,h=>by
  rw[List.all_cons,xe6]at h;simp only[FreshL];exact⟨hfr a h.1,vM hfr h.2⟩
theorem yP:∀(n:Nat)(s:SV),GU n s=true→Fresh s
 |0,s,h=>by cases h
 |m+1,s,h0=>by
  have h:qbH (GU m) s=true:=h0;clear h0;have ih:=yP m;unfold qbH at h;split at h
  ·simp[Fresh]
  ·simp only[Fresh];exact vM ih h
  ·simp only[Fresh];exact vM ih h
  ·rw[xe6]at h
   simp only[Fresh];exact⟨vM ih h.1,vM ih h.2⟩
  ·rename_i n k row
   have hr:=jo row k n;simp only[Fresh];refine⟨trivial,λi j hi hj=>ih _ ?_⟩;rw[hr.2 i j hi hj,xc6];have hlt:i*k+j<(wJ row k n).length:=by rw[hr.1];exact kY hi hj
   rw[xc7 hlt];exact List.all_eq_true.1 h _ (List.getElem_mem hlt)
  ·rename_i n row
   simp only[Fresh];refine⟨trivial,λj hj=>ih _ ?_⟩;have hlt:j<(sel row 0 n).length:=by rw[gQ];exact hj
   have e:(sel row 0 n)[j]? = some (row j):=by rw[yq,if_pos hj,xb0]
   exact List.all_eq_true.1 h _ (List.mem_of_getElem? e)
  ·cases h
def qds(u v:Value):Bool:=
 match u with
 |.int k a=>(match v with|.int k' b=>eqKind k k'&&Jq a b|_=>false)
 |.pointer none=>(match v with|.pointer none=>true|_=>false)
 |.slice none 0 0=>(match v with|.slice none 0 0=>true|_=>false)
 |.nilFunc=>(match v with|.nilFunc=>true|_=>false)
 |u=>eqK u v
theorem YT{u v:Value}(h:qds u v=true):u=v:=by
 unfold qds at h;split at h
 ·split at h
  ·rw[xe6,yH,decide_eq_true_eq]at h
   rw[vq h.1,h.2]
  ·cases h
 ·split at h<;>first|rfl|cases h
 ·split at h<;>first|rfl|cases h
 ·split at h<;>first|rfl|cases h
 ·exact zq h
def mtL(m:SV→SV→Bool)(l:List SV):List SV→Bool:=List.rec (motive:=λ_=>List SV→Bool) (λl'=>List.rec true (λ_ _ _=>false) l') (λa _ ih l'=>List.rec false (λb l' _=>Bool.rec false (ih l') (m a b)) l') l
def mtR(m:SV→SV→Bool)(hp:Tr 6 XB)(o:Bool)(n k:Nat)(row:Nat→Nat→SV)(x:SV):Bool:=
 match x with
 |.vec id n1 k1=>(match hp.find id with
  |some (.rows _ k' n' l)=>Nat.beq n n1&&(Nat.beq k k1&&(Nat.beq k1 k'&&(Nat.ble n n'&&mtL m (wJ row k n) (l.take (n*k)))))
  |_=>false)
 |.asl id off n1 k1=>(match hp.find id with
  |some (.cells _ l)=>Nat.beq n n1&&(Nat.beq k k1&&(Nat.ble (off+n*k) l.length&&mtL m (wJ row k n) ((l.drop off).take (n*k))))
  |_=>false)
 |.arr o' _ n1 k1 row1=>Nat.beq n n1&&(Nat.beq k k1&&((Bool.rec true o' o:Bool)&&mtL m (wJ row k n) (wJ row1 k n)))
 |_=>false
def mtS(m:SV→SV→Bool)(hp:Tr 6 XB)(p x:SV):Bool:=
 match p with
 |.top=>true
 |.val u=>(match x with|.val v=>qds u v|_=>false)
 |.agg l=>(match x with|.agg l'=>mtL m l l'|_=>false)
 |.tup l=>(match x with|.tup l'=>mtL m l l'|_=>false)
 |.arr o false n k row=>mtR m hp o n k row x
 |_=>false
def mtX(hp:Tr 6 XB)(n:Nat):SV→SV→Bool:=Nat.rec (λ_ _=>false) (λ_ ih=>mtS ih hp) n
theorem QC{m:SV→SV→Bool}(hm:∀p x,m p x=true→Sub H p x):∀{l l':List SV},mtL m l l'=true→SubL H l l'∧l.length=l'.length∧∀i,i<l.length→Sub H (l.getD i .top) (l'.getD i .top)
 |[],[],_=>⟨by simp[SubL],rfl,λi hi=>by simp at hi⟩
 |[],b :: l',h=>by cases h
 |a :: l,[],h=>by cases h
 |a :: l,b :: l',h=>by
  have h:(Bool.rec false (mtL m l l') (m a b):Bool)=true:=h;cases q:m a b with
  |false=>rw[q]at h;cases h
  |true=>
   rw[q]at h;obtain⟨h1,h2,h3⟩:=QC hm h;refine⟨by simp only[SubL];exact⟨hm _ _ q,h1⟩,by simp[h2],λi hi=>?_⟩;cases i with
   |zero=>exact hm _ _ q
   |succ i=>exact h3 i Ω1
theorem qbI(hH:HRel LM hp H):∀(n:Nat)(p x:SV),mtX hp n p x=true→Sub H p x
 |0,p,x,h=>by cases h
 |n+1,p,x,h0=>by
  have h:mtS (mtX hp n) hp p x=true:=h0;clear h0;have ih:=qbI hH n;unfold mtS at h;split at h
  ·simp[Sub]
  ·split at h
   ·rw[YT h];simp[Sub]
   ·cases h
  ·split at h
   ·simp only[Sub];exact(QC ih h).1
   ·cases h
  ·split at h
   ·simp only[Sub];exact(QC ih h).1
   ·cases h
  ·rename_i o n0 k row
   have hr0:=jo row k n0;have pr:∀i j,i<n0→j<k→(wJ row k n0).getD (i*k+j) .top=row i j:=λi j hi hj=>(hr0.2 i j hi hj).symm;have hln:∀i j,i<n0→j<k→i*k+j<(wJ row k n0).length:=λi j hi hj=>by rw[hr0.1];exact kY hi hj
   unfold mtR at h;split at h
   ·split at h
    ·rename_i id n1 k1 _ _ k' n' l hb
     simp only[xe6,Nat.beq_eq,Nat.ble_eq]at h;obtain⟨rfl,rfl,rfl,h4,h5⟩:=h;obtain⟨row',hb,hr⟩:=hH.rows hb;obtain⟨_,_,h7⟩:=QC ih h5;simp only[Sub,hb];refine⟨trivial,trivial,trivial,h4,trivial,λi j hi hj=>?_⟩;have:=h7 (i*k+j) (hln i j hi hj);rw[pr i j hi hj,vL (kY hi hj)]at this;rw[hr.2 i j Ω hj];exact this
    ·cases h
   ·split at h
    ·rename_i id off n1 k1 _ _ l hb
     simp only[xe6,Nat.beq_eq,Nat.ble_eq]at h;obtain⟨rfl,rfl,h4,h5⟩:=h;obtain⟨_,_,h7⟩:=QC ih h5;simp only[Sub,hH.cells hb];refine⟨trivial,trivial,trivial,h4,λi j hi hj=>?_⟩;have:=h7 (i*k+j) (hln i j hi hj);rw[pr i j hi hj,vL (kY hi hj),ZU]at this;exact this
    ·cases h
   ·rename_i o' full n1 k1 row1
    simp only[xe6,Nat.beq_eq]at h;obtain⟨rfl,rfl,h4,h5⟩:=h;obtain⟨_,_,h7⟩:=QC ih h5;have hr1:=jo row1 k n0;simp only[Sub];refine⟨λe=>(by rw[e]at h4;exact h4),λe=>(by cases e),trivial,trivial,λi j hi hj=>?_⟩;have:=h7 (i*k+j) (hln i j hi hj);rw[pr i j hi hj,←hr1.2 i j hi hj]at this;exact this
   ·cases h
  ·cases h
def J2(hp:Tr 6 XB)(args:List SV)(l:List (List SV×α)):Option α:=List.rec none (λp _ ih=>Bool.rec ih (some p.2) (mtL (mtX hp 5) p.1 args)) l
theorem yk{α:Type}(hH:HRel LM hp H){args:List SV}:∀{l:List (List SV×α)}{s:α},J2 hp args l=some s→∃qq_,(qq_,s)∈l∧SubL H qq_ args
 |[],s,h=>by cases h
 |p :: l,s,h=>by
  have h:(Bool.rec (J2 hp args l) (some p.2) (mtL (mtX hp 5) p.1 args):Option α)=some s:=h;cases q:mtL (mtX hp 5) p.1 args with
  |false=>
   rw[q]at h;obtain⟨qq_,h1,h2⟩:=yk hH h;exact⟨qq_,List.mem_cons_of_mem _ h1,h2⟩
  |true=>
   rw[q]at h;have h:some p.2=some s:=h;cases h;exact⟨p.1,xd5,(QC (qbI hH 5) q).1⟩
end
end
end Go.Sx
end
section
namespace Go.Sx
open Go.RowKit
noncomputable section
variable{fr:Tr 3 SV}{d:Option Tmp}{s:SV}{g:Tr 3 SV→Tr 6 XB→Nat→R}{hp hp':Tr 6 XB}{nid:Nat}{st:St}{H:List (Nat×Blk)}{K:St→Prop}{args:List SV}
variable{ρ:Q}
abbrev XK:=Ex→Tr 3 SV→Tr 6 XB→Nat→R
inductive CX:Type
 |top
 |rnd
 |gen (y:Nat) (L:List (Nat×List (Nat×Nat))) (fr:Tr 3 SV) (ps:List Tmp) (a b:Code)
abbrev FL:=List (Nat×List (Nat×Nat))
abbrev XC:=FL→CX→Code→Tr 3 SV→Tr 6 XB→Nat→XK→R
section
variable{P:Program}{E:XE}{LM:Nat→Option Loop}
def StR(LM:Nat→Option Loop)(fr:Tr 3 SV)(hp:Tr 6 XB)(nid:Nat)(st:St):Prop:=FRel fr st.fr∧HRel LM hp st.hp∧st.nid=nid
def putD(d:Option Tmp)(s:SV)(fr:Tr 3 SV)(g:Tr 3 SV→R):R:=
 match d with
 |none=>g fr
 |some d=>qY (some s) 12 fr d g
theorem FRel.put{fr':Tr 3 SV}{F:List (Nat×SV)}{d:Nat}(h:FRel fr F)(hp:qhD fr fr' d (some s)):FRel fr' (putFr F d s):=λt=>by
 rw[zh];unfold qx;rw[hp t];by_cases c:t=d
 ·rw[if_pos c,if_pos c]
 ·rw[if_neg c,if_neg c];exact h t
theorem kK{g:Tr 3 SV→R}(h:putD d s fr g=.ok ρ)(hs:StR LM fr hp nid st):∃fr',StR LM fr' hp nid (st.put d s)∧g fr'=.ok ρ:=by
 unfold putD at h;cases d with
 |none=>exact⟨fr,hs,h⟩
 |some d=>
  obtain⟨fr',h1,h2⟩:=qB _ _ _ _ h;exact⟨fr',⟨hs.1.put h1,hs.2.1,hs.2.2⟩,h2⟩
theorem HRel.cons(h:HRel LM hp H){id:Nat}{b:XB}{b':Blk}(hb:BRel (LM id) b b')(hp:qhD hp hp' id (some b)):HRel LM hp' ((id,b') :: H):=λj x hj=>by
 rw[hp j]at hj;by_cases c:j=id
 ·rw[if_pos c]at hj;cases hj;exact⟨b',by simp only[blk];rw[if_pos c],c▸hb⟩
 ·rw[if_neg c]at hj;simp only[blk];rw[if_neg c];exact h j x hj
theorem HRel.set(h:HRel LM hp H){id:Nat}{b y:XB}{b':Blk}(hb:BRel (LM id) b b')(hy:hp.find id=some y)(hp:qhD hp hp' id (some b)):HRel LM hp' (setBlk H id b'):=λj x hj=>by
 rw[hp j]at hj;rw[qp];by_cases c:j=id
 ·rw[if_pos c]at hj;cases hj
  obtain⟨z,hz,_⟩:=h id y hy;rw[if_pos c,hz];exact⟨b',rfl,c▸hb⟩
 ·rw[if_neg c]at hj;rw[if_neg c];exact h j x hj
theorem HRel.drop(h:HRel LM hp H){id:Nat}(hp:qhD hp hp' id none):HRel LM hp' (dropBlk H id):=λj x hj=>by
 rw[hp j]at hj;rw[qv];by_cases c:j=id
 ·rw[if_pos c]at hj;cases hj
 ·rw[if_neg c]at hj;rw[if_neg c];exact h j x hj
structure qim(P:Program)(g:Nat)(fn:Func)(L:FL)(c:Code):Prop where
 at_:P.funcs[g]? = some fn
 body:fn.body=some c
 name : (fn.name == "runtime.NumGoroutine") = false
 ok:qF (zO L) fn.ntmps c=true
def Wb(l:List SV):Nat→Tr 3 SV→(Tr 3 SV→R)→R:=
 List.rec (motive:=λ_=>Nat→Tr 3 SV→(Tr 3 SV→R)→R) (λ_ t g=>g t) (λa _ ih i t g=>qY (some a) 12 t i λt=>qm (Nat.succ i) λi=>ih i t g) l
theorem qdt:∀(l:List SV)(i:Nat)(t:Tr 3 SV)(g:Tr 3 SV→R),Wb l i t g=.ok ρ→∃t',(∀j,qx t' j=if j<i then qx t j else if j<i+l.length then l.getD (j - i) .top else qx t j)∧g t'=.ok ρ
 |[],i,t,g,h=>⟨t,λj=>by
   by_cases c:j<i
   ·rw[if_pos c]
   ·rw[if_neg c,if_neg (by simpa using c)],h⟩
 |a :: l,i,t,g,h=>by
  have h:qY (some a) 12 t i (λt=>qm (Nat.succ i) λi=>Wb l i t g)=.ok ρ:=h;obtain⟨t1,h1,h⟩:=qB _ _ _ _ h;rw[qg]at h;obtain⟨t2,h2,h⟩:=qdt l _ _ _ h;refine⟨t2,λj=>?_,h⟩;rw[h2 j];have e1:qx t1 j=if j=i then a else qx t j:=by
   unfold qx;rw[h1 j];by_cases c:j=i
   ·rw[if_pos c,if_pos c]
   ·rw[if_neg c,if_neg c]
  rw[e1];by_cases c:j<i
  ·rw[if_pos Ω,if_neg Ω,if_pos c]
  ·rw[if_neg c]
   by_cases d:j=i
   ·rw[if_pos Ω,if_pos d,if_pos Ωl,d,xb8];rfl
   ·rw[if_neg Ω,if_neg d]
    by_cases e:j<i+(a :: l).length
    ·rw[if_pos e,if_pos (by simp at e ⊢;omega),show j - i=j -(i+1)+1 by omega];rfl
    ·rw[if_neg e,if_neg (by simp at e ⊢;omega)]
theorem yQ{l:List SV}{g:Tr 3 SV→R}(h:Wb l 0 .nil g=.ok ρ):∃t',FRel t' (argFr 0 l)∧g t'=.ok ρ:=by
 obtain⟨t',h1,h2⟩:=qdt l 0 .nil g h;refine⟨t',λj=>?_,h2⟩;rw[h1 j,Gt,if_neg (Nat.not_lt_zero j),if_neg (Nat.not_lt_zero j),Nat.sub_zero];by_cases c:j<0+l.length
 ·rw[if_pos c]
 ·rw[if_neg c,xc6,List.getElem?_eq_none Ω];unfold qx;rw[Q6];rfl
def qkR(E:XE)(fr:Tr 3 SV)(hp:Tr 6 XB)(rv:ResultVar)(g:SV→R):R:=
 match rv with
 |.tmp t=>g (qx fr t)
 |.cell t ty=>Yy E hp ty (qx fr t) λx=>(match x with|.pure s=>g s|_=>.bad 300 0)
def yl(E:XE)(fr:Tr 3 SV)(hp:Tr 6 XB)(l:List ResultVar):(List SV→R)→R:=
 List.rec (motive:=λ_=>(List SV→R)→R) (λg=>g []) (λrv _ ih g=>qkR E fr hp rv λs=>svK s λs=>ih λm=>g (s :: m)) l
theorem qkS(hE:XOk P E)(hs:StR LM fr hp nid st){rv:ResultVar}{g:SV→R}{K:SV→Prop}(h:qkR E fr hp rv g=.ok ρ)(hk:∀s,g s=.ok ρ→K s):resultVC P rv st K:=by
 unfold qkR at h;split at h
 ·show K (look st.fr _)
  rw[hs.1];exact hk _ h
 ·rename_i t ty
  show match rLoad (qn P ty) st.hp (look st.fr t)with
   |.pure obl sv=>obl∧K sv
   |.ex obl=>∃sv,obl sv∧K sv
   |_=>False
  rw[hs.1];obtain⟨x,h1,h2⟩:=Yz (id:=0) hE hs.2.1 h;cases x<;>simp only[reduceCtorEq]at h2
  rename_i s;rcases h1 with⟨obl,e,ho⟩|⟨obl,e,ho⟩
  ·rw[e];exact⟨ho,hk s h2⟩
  ·rw[e];exact⟨s,ho,hk s h2⟩
theorem yR(hE:XOk P E){fr:Tr 3 SV}{hp:Tr 6 XB}{nid:Nat}{st:St}(hs:StR LM fr hp nid st):∀{l:List ResultVar}{g:List SV→R}{K:List SV→Prop},yl E fr hp l g=.ok ρ→(∀m,g m=.ok ρ→K m)→resultsVC P l st K
 |[],g,K,h,hk=>hk [] h
 |rv :: l,g,K,h,hk=>by
  have h:qkR E fr hp rv (λs=>svK s λs=>yl E fr hp l λm=>g (s :: m))=.ok ρ:=h;refine qkS hE hs h λs h=>?_;rw[Qu]at h;exact yR hE hs h λm h=>hk _ h
theorem QD {O : Ctx} (far : Nat → List (Nat × Nat)) (hm : P.follows .mixedOrders = true) {f : FuncId} {fn : Func} {c : Code} (hf : P.funcs[f]? = some fn) (hb : fn.body = some c) (hname : (fn.name == "runtime.NumGoroutine") = false) (hok : qF far fn.ntmps c = true) {args : List SV} (hlen : args.length ≤ fn.ntmps) {st : St} {K : St → SV → Prop}
  (h:∀out:List Fr,vc P ⟨out,st.nid,false,far⟩ c ⟨argFr 0 args,st.hp,st.nid⟩ (λe st'=>match e with|.exit _=>False|_=>resultsVC P fn.results.toList st' (λm=>K ⟨st.fr,st'.hp,st'.nid⟩ (oneSV m)))):ko P O f args st K:=by
 intro base okc ns r outs a w vs h0 hl ha;refine⟨gE hf hb hname vs w,?_⟩;refine ku hm hf hb hok (O:=⟨⟨st.fr,none,ns,st.nid⟩ :: O.fs,st.nid,false,far⟩) (outs:=⟨a :: outs.as,r⟩) (base:=base) (okc:=okc) (st0:=⟨argFr 0 args,st.hp,st.nid⟩) rfl (Post:=λst' m=>K ⟨st.fr,st'.hp,st'.nid⟩ (oneSV m))
  ⟨r,h0.pushF far none (λ_ h=>by cases h) false (yC hl Ω ha) Ωl rfl⟩ (h _) λst' r' a' w' m us hP hi hml hreps=>?_
 exact⟨_,⟨st.fr,st'.hp,st'.nid⟩,r',oneSV m,rfl,hP,hi.lo,hi.popF h0,vx hml hreps⟩
def wE(P:Program)(E:XE):Prop:=∀g fn L,E.fns g=some (fn,L)→∃c,qim P g fn L c
def qfy(LM:Nat→Option Loop)(fs:List Fr)(rnd:Bool):CX→Prop
 |.top=>rnd=false
 |.rnd=>rnd=true
 |.gen y L0 fr ps a b=>rnd=false∧∃L F,LM y=some L∧FRel fr F∧qbe (zO L0) fs L F ps a b
def vj(P:Program)(run:XC):Prop:=∀(ρ:Q)(LM:Nat→Option Loop)(fs:List Fr)(lo:Nat)(rnd:Bool)(L:FL)(cx:CX)(c:Code)(st:St)(fr:Tr 3 SV)(hp:Tr 6 XB)(nid:Nat)(f:XK)(K:Ex→St→Prop),qfy LM fs rnd cx→StR LM fr hp nid st→run L cx c fr hp nid f=.ok ρ→
 (∀e fr' hp' nid' st',StR LM fr' hp' nid' st'→f e fr' hp' nid'=.ok ρ→K e st')→vc P ⟨fs,lo,rnd,zO L⟩ c st K
def qps(E:XE)(rs:List ResultVar)(d:Option Tmp)(fr:Tr 3 SV)(g:Tr 3 SV→Tr 6 XB→Nat→R):XK
 |.exit _,_,_,_=>.bad 301 0
 |.normal,fr3,hp3,nid3=>yl E fr3 hp3 rs λm=>svK (oneSV m) λs=>putD d s fr λfr=>g fr hp3 nid3
 |.ret,fr3,hp3,nid3=>yl E fr3 hp3 rs λm=>svK (oneSV m) λs=>putD d s fr λfr=>g fr hp3 nid3
def qin(E:XE)(run:XC)(fn:Func)(L:FL)(d:Option Tmp)(args:List SV)(fr:Tr 3 SV)(hp:Tr 6 XB)(id:Nat)(g:Tr 3 SV→Tr 6 XB→Nat→R):R:=
 match fn.body with
 |some c=>ql 302 (Nat.ble args.length fn.ntmps) (Wb args 0 .nil λfr2=>run L .top c fr2 hp id (qps E fn.results.toList d fr g))
 |none=>.bad 303 0
def qbJ(ps:List Tmp):List SV→Tr 3 SV→(Tr 3 SV→R)→R:=
 List.rec (motive:=λ_=>List SV→Tr 3 SV→(Tr 3 SV→R)→R) (λ_ t g=>g t) (λp _ ih qq_ t g=>match qq_ with
  |[]=>.bad 340 0
  |a :: qq_=>qY (some a) 12 t p λt=>ih qq_ t g) ps
theorem J3:∀{ps:List Tmp}{qq_:List SV}{t:Tr 3 SV}{F:List (Nat×SV)}{g:Tr 3 SV→R},FRel t F→qbJ ps qq_ t g=.ok ρ→∃t',FRel t' (putPs F ps qq_)∧g t'=.ok ρ
 |[],qq_,t,F,g,hF,h=>⟨t,(by cases qq_<;>exact hF),h⟩
 |p :: ps,[],t,F,g,hF,h=>by cases h
 |p :: ps,a :: qq_,t,F,g,hF,h=>by
  have h:qY (some a) 12 t p (λt=>qbJ ps qq_ t g)=.ok ρ:=h;obtain⟨t1,h1,h⟩:=qB _ _ _ _ h;exact J3 (ps:=ps) (qq_:=qq_) (hF.put h1) h
def qmf(y:Nat)(d:Option Tmp)(fr:Tr 3 SV)(g:Tr 3 SV→Tr 6 XB→Nat→R)(e:Ex)(hp:Tr 6 XB)(nid:Nat):R:=
 match hp.find y with
 |some (.loop .busy)=>(match e with
  |.normal=>qY (some (.loop .ready)) 22 hp y λhp=>putD d (.val (.bool true)) fr λfr=>g fr hp nid
  |.ret=>qY (some (.loop .retd)) 22 hp y λhp=>putD d (.val (.bool false)) fr λfr=>g fr hp nid
  |.exit i=>qY (some (.loop (.left i))) 22 hp y λhp=>putD d (.val (.bool false)) fr λfr=>g fr hp nid)
 |_=>.bad 341 0
def qmg(run:XC)(L:FL)(y:Nat)(b:Code)(d:Option Tmp)(fr:Tr 3 SV)(g:Tr 3 SV→Tr 6 XB→Nat→R):XK
 |.normal,fr1,hp1,nid1=>(match hp1.find y with
  |some (.loop .ready)=>qY (some (.loop .busy)) 22 hp1 y λhp2=>run L .rnd b fr1 hp2 nid1 λe _ hp nid=>qmf y d fr g e hp nid
  |_=>.bad 342 0)
 |_,_,_,_=>.bad 343 0
def qbK(run:XC)(cx:CX)(d:Option Tmp)(y:Nat)(args:List SV)(fr:Tr 3 SV)(hp:Tr 6 XB)(id:Nat)(g:Tr 3 SV→Tr 6 XB→Nat→R):R:=
 match cx with
 |.gen y0 L fr0 ps a b=>ql 344 (Nat.beq y y0) (ql 345 (Nat.beq args.length ps.length) (match hp.find y with
  |some (.loop .ready)=>qbJ ps args fr0 λfr2=>run L .rnd a fr2 hp id (qmg run L y b d fr g)
  |_=>.bad 346 0))
 |_=>.bad 347 0
theorem HRel.loop(h:HRel LM hp H){y:Nat}{s:RSt}{L:Loop}(e:hp.find y=some (.loop s))(hL:LM y=some L):blk H y=some (.loop L s):=by
 obtain⟨b',h1,h2⟩:=h _ _ e;cases b'<;>simp only[BRel]at h2
 obtain⟨rfl,h3⟩:=h2;rw[hL]at h3;cases h3;exact h1
variable{run:XC}
theorem qfz(hm:P.follows .mixedOrders=true)(hrun:vj P run){fs:List Fr}{lo:Nat}{rnd:Bool}{far:Nat→List (Nat×Nat)}{cx:CX}(hcx:qfy LM fs rnd cx){y:Nat}{id:Nat}(hs:StR LM fr hp nid st)(h:qbK run cx d y args fr hp id g=.ok ρ)
  (hk:∀fr' hp' nid' st',StR LM fr' hp' nid' st'→g fr' hp' nid'=.ok ρ→K st'):wb P ⟨fs,lo,rnd,far⟩ y args ⟨st.fr,st.hp,id⟩ λst' res=>K (st'.put d res):=by
 unfold qbK at h;split at h
 ·rename_i y0 L0 fr0 ps a b
  obtain⟨q1,p1⟩:=qa h;obtain⟨q2,p2⟩:=qa p1;have q1:=xa6 q1;have q2:=xa6 q2;subst q1;obtain⟨_,L,F,hL,hF,hR⟩:=hcx;split at p2
  ·rename_i hb
   obtain⟨fr2,h2,h⟩:=J3 hF p2;refine qfa hm hR (hs.2.1.loop hb hL) q2 λout=>?_;refine hrun ρ LM _ _ _ L0 .rnd a ⟨_,_,_⟩ fr2 hp id _ _ rfl ⟨h2,hs.2.1,rfl⟩ h λe fr1 hp1 nid1 st1 hs1 h1=>?_;unfold qmg at h1;split at h1
   ·split at h1
    ·rename_i hb1
     have hb1':=hs1.2.1.loop hb1 hL;obtain⟨hp2,p2,h1⟩:=qB _ _ _ _ h1;refine⟨by rw[hb1'];rfl,?_⟩;refine hrun ρ LM _ _ _ L0 .rnd b ⟨_,_,_⟩ _ hp2 _ _ _ rfl ⟨hs1.1,hs1.2.1.set (b:=.loop .busy) (b':=.loop L .busy) ⟨rfl,hL⟩ hb1 p2,hs1.2.2⟩ h1 λe fr3 hp3 nid3 st3 hs3 h3=>?_;unfold qmf at h3;split at h3
     ·rename_i hb3
      have hb3':=hs3.2.1.loop hb3 hL;refine⟨by rw[hb3'];rfl,?_⟩;have fin:∀(s:RSt)(b:Bool),(qY (some (.loop s)) 22 hp3 y λhp=>putD d (.val (.bool b)) fr λfr=>g fr hp nid3)=.ok ρ→K (St.put ⟨st.fr,setBlk st3.hp y (.loop L s),st3.nid⟩ d (.val (.bool b))):=by
       intro s b h;obtain⟨hp4,p4,h⟩:=qB _ _ _ _ h;obtain⟨fr',g1,g2⟩:=kK (LM:=LM) (st:=⟨st.fr,setBlk st3.hp y (.loop L s),st3.nid⟩) h ⟨hs.1,hs3.2.1.set (b:=.loop s) (b':=.loop L s) ⟨rfl,hL⟩ hb3 p4,hs3.2.2⟩;exact hk _ _ _ _ g1 g2
      cases e with
      |normal=>exact fin _ _ h3
      |ret=>exact fin _ _ h3
      |exit i=>exact fin _ _ h3
     ·cases h3
    ·cases h1
   ·cases h1
  ·cases p2
 ·cases h
def qkT(E:XE)(h0:Nat)(rs:List ResultVar):XK
 |.exit _,_,_,_=>.bad 370 0
 |.normal,fr,hp,_=>yl E fr hp rs λm=>(match QB true hp 5 (oneSV m)with|some s=>.ok (.mk s .nil 0)|none=>.bad 371 h0)
 |.ret,fr,hp,_=>yl E fr hp rs λm=>(match QB true hp 5 (oneSV m)with|some s=>.ok (.mk s .nil 0)|none=>.bad 371 h0)
def qmh(fr:Tr 3 SV)(hp:Tr 6 XB)(nid:Nat)(d:Option Tmp)(g:Tr 3 SV→Tr 6 XB→Nat→R)(r:R):R:=
 match r with
 |.ok (.mk s _ _)=>ql 373 (GU 5 s) (putD d s fr λfr=>g fr hp nid)
 |.bad c i=>.bad c i
def qio(n:Nat)(i:Sh)(args:List SV)(d:Option Tmp)(fr:Tr 3 SV)(hp:Tr 6 XB)(nid:Nat)(g:Tr 3 SV→Tr 6 XB→Nat→R):R:=
 ql 376 (Nat.beq args.length n) (match i.sv args with
  |some s=>putD d s fr λfr=>g fr hp nid
  |none=>.bad 377 0)
theorem qip{h0 n:Nat}{i:Sh}(hp0:Z5 P h0 n i)(hs:StR LM fr hp nid st)(h:qio n i args d fr hp nid g=.ok ρ)
  (hk:∀fr' hp' nid' st',StR LM fr' hp' nid' st'→g fr' hp' nid'=.ok ρ→K st'):Vr P st.hp h0 args (λr=>K (st.put d r)):=by
 unfold qio at h;obtain⟨q,p⟩:=qa h;have q:=xa6 q;split at p
 ·rename_i s ha
  obtain⟨fr',k1,k2⟩:=kK p hs;exact⟨s,.inr ⟨i,by rw[q];exact hp0,ha⟩,hk _ _ _ _ k1 k2⟩
 ·cases p
def qiq(E:XE)(run:XC)(h0:Nat)(fn:Func)(L:FL)(d:Option Tmp)(qq_:Option (List SV))(fr:Tr 3 SV)(hp:Tr 6 XB)(nid:Nat)(g:Tr 3 SV→Tr 6 XB→Nat→R):R:=
 match fn.body,qq_ with
 |some c,some qq_=>ql 374 (Nat.ble qq_.length fn.ntmps) (qmh fr hp nid d g (Wb qq_ 0 .nil λfr2=>run L .top c fr2 .nil 0 (qkT E h0 fn.results.toList)))
 |_,_=>.bad 375 h0
theorem qir(hm:P.follows .mixedOrders=true)(hE:XOk P E)(hrun:vj P run){h0:Nat}{fn:Func}{L:FL}{c:Code}(hc:qim P h0 fn L c)(hs:StR LM fr hp nid st)(h:qiq E run h0 fn L d (gK (QB false hp 5) args) fr hp nid g=.ok ρ)
  (hk:∀fr' hp' nid' st',StR LM fr' hp' nid' st'→g fr' hp' nid'=.ok ρ→K st'):Vr P st.hp h0 args (λr=>K (st.put d r)):=by
 unfold qiq at h;rw[hc.body]at h;split at h
 ·rename_i c' qq_ hb has
  cases hb;obtain⟨q,h⟩:=qa h;obtain⟨g1,g2,_⟩:=zB (ZV hs.2.1 false 5) has;unfold qmh at h;split at h
  ·rename_i s hp0 n0 hr
   obtain⟨q2,h⟩:=qa h;obtain⟨fr',k1,k2⟩:=kK h hs;obtain⟨fr2,f1,f2⟩:=yQ hr;refine⟨s,.inl ⟨qq_,kG (zO L) hc.at_ hc.body hc.name hm hc.ok qq_ s (xa7 q) (g2.1 rfl) ?_,.inl ⟨g1,yP 5 s q2⟩⟩,hk _ _ _ _ k1 k2⟩;have key:∀(fr3:Tr 3 SV)(hp3:Tr 6 XB)(nid3:Nat)(st3:St),StR (λ_=>none) fr3 hp3 nid3 st3→yl E fr3 hp3 fn.results.toList (λm=>(match QB true hp3 5 (oneSV m)with|some s=>.ok (.mk s .nil 0)|none=>.bad 371 h0))=.ok (.mk s hp0 n0)→retVC P fn.results.toList st3 s:=λfr3 hp3 nid3 st3 h3 h=>by
    rw[Gv];refine yR hE h3 h λm h=>?_;split at h
    ·rename_i s' hs'
     cases h;exact(ZV h3.2.1 true 5 _ _ hs').1
    ·cases h
   refine hrun _ (λ_=>none) _ _ _ L .top c _ fr2 .nil 0 _ _ rfl ⟨f1,λid b hb=>(by rw[Q6]at hb;cases hb),rfl⟩ f2 λe fr3 hp3 nid3 st3 h3 h=>?_;cases e with
   |exit i=>cases h
   |normal=>exact key _ _ _ _ h3 h
   |ret=>exact key _ _ _ _ h3 h
  ·cases h
 ·cases h
def Zo(E:XE)(run:XC)(cx:CX)(j:Bool)(d:Option Tmp)(id:Nat)(xr:XR)(fr:Tr 3 SV)(hp:Tr 6 XB)(nid:Nat)(g:Tr 3 SV→Tr 6 XB→Nat→R):R:=
 match xr with
 |.pure s=>putD d s fr λfr=>g fr hp nid
 |.new b s=>qY (some b) 22 hp id λhp=>putD d s fr λfr=>g fr hp nid
 |.upd i b s=>(match hp.find i with
  |some _=>qY (some b) 22 hp i λhp=>putD d s fr λfr=>g fr hp nid
  |none=>.bad 304 0)
 |.grow i b s=>ql 305 (!(Nat.beq i id)) (qY none 22 hp i λhp=>qY (some b) 22 hp id λhp=>putD d s fr λfr=>g fr hp nid)
 |.call h args=>(match E.prj h with
  |some (n,i)=>qio n i args d fr hp nid g
  |none=>match E.orc h with
  |some f=>ql 306 j (f args hp id λs hp nid=>putD d s fr λfr=>g fr hp nid)
  |none=>match J2 hp args (E.ctr h)with
  |some s=>ql 309 (GU 5 s) (putD d s fr λfr=>g fr hp nid)
  |none=>match J2 hp args (E.ctn h)with
  |some (t,k,n,l,s)=>yW l λl=>qY (some (.rows t k n l)) 22 hp id λhp=>putD d (setId id s) fr λfr=>g fr hp nid
  |none=>match E.fns h with
  |some (fn,L)=>Bool.rec (qiq E run h fn L d (gK (QB false hp 5) args) fr hp nid g) (qin E run fn L d args fr hp id g) j
  |none=>.bad 307 h)
 |.yield y args=>ql 308 j (qbK run cx d y args fr hp id g)
theorem qkU(hm:P.follows .mixedOrders=true)(hE:XOk P E)(hf:wE P E)(hrun:vj P run){fs:List Fr}{lo:Nat}{rnd:Bool}{far:Nat→List (Nat×Nat)}{cx:CX}(hcx:qfy LM fs rnd cx){j:Bool}{J:Prop}(hj:j=true→J){op:Op}{id:Nat}{xr:XR}{r:Res}(hs:StR LM fr hp nid st)(hh:Hit xr id r)(h:Zo E run cx j d id xr fr hp nid g=.ok ρ)
  (hk:∀fr' hp' nid' st',StR LM fr' hp' nid' st'→g fr' hp' nid'=.ok ρ→K st'):wA P ⟨fs,lo,rnd,far⟩ J op d id st K r:=by
 unfold Zo at h;split at h
 ·obtain⟨fr',h1,h2⟩:=kK h hs
  rcases hh with⟨obl,rfl,ho⟩|⟨obl,rfl,ho⟩
  ·exact⟨ho,hk _ _ _ _ h1 h2⟩
  ·exact⟨_,ho,hk _ _ _ _ h1 h2⟩
 ·obtain⟨obl,b',mk,rfl,ho,hb,rfl⟩:=hh
  obtain⟨hp',p1,h⟩:=qB _ _ _ _ h;obtain⟨fr',h1,h2⟩:=kK (st:={ st with hp:=(id,b') :: st.hp }) h ⟨hs.1,hs.2.1.cons hb.any p1,hs.2.2⟩;exact⟨ho,hk _ _ _ _ h1 h2⟩
 ·split at h
  ·rename_i y hy
   obtain⟨hp',p1,h⟩:=qB _ _ _ _ h;rcases hh with⟨obl,b',rfl,ho,hb,rfl⟩|⟨obl,b',rfl,ho,hb⟩
   ·obtain⟨fr',h1,h2⟩:=kK (st:={ st with hp:=setBlk st.hp _ b' }) h ⟨hs.1,hs.2.1.set hb.any hy p1,hs.2.2⟩
    exact⟨ho,hk _ _ _ _ h1 h2⟩
   ·obtain⟨fr',h1,h2⟩:=kK (st:={ st with hp:=setBlk st.hp _ b' }) h ⟨hs.1,hs.2.1.set hb.any hy p1,hs.2.2⟩
    exact⟨ho,hk _ _ _ _ h1 h2⟩
  ·cases h
 ·rename_i i b s
  obtain⟨obl,b',mk,rfl,ho,hb,rfl⟩:=hh;obtain⟨q,h⟩:=qa h;have q:i≠id:=λe=>by rw[e,Nat.beq_refl]at q;cases q
  obtain⟨hp1,p1,h⟩:=qB _ _ _ _ h;obtain⟨hp2,p2,h⟩:=qB _ _ _ _ h;obtain⟨fr',h1,h2⟩:=kK (st:={ st with hp:=(id,b') :: dropBlk st.hp i }) h ⟨hs.1,(hs.2.1.drop p1).cons hb.any p2,hs.2.2⟩;exact⟨⟨ho,q⟩,hk _ _ _ _ h1 h2⟩
 ·rename_i h0 args
  split at h
  ·rename_i n i hp0
   have hh:r=.call h0 args:=hh;subst hh;exact .inl (qip (hE.prj _ _ _ hp0) hs h hk)
  split at h
  ·rename_i f hof
   obtain⟨q,h⟩:=qa h;have hh:r=.call h0 args:=hh;subst hh;refine .inr (.inr ⟨hj q,hE.orc _ _ hof ρ LM _ args hp _ ⟨st.fr,st.hp,id⟩ (λst' res=>K (st'.put d res)) hs.2.1 h λs hp' nid' H' hH' hk'=>?_⟩);obtain⟨fr',h1,h2⟩:=kK (LM:=LM) (st:=⟨st.fr,H',nid'⟩) hk' ⟨hs.1,hH',rfl⟩;exact hk _ _ _ _ h1 h2
  split at h
  ·rename_i s hcs
   obtain⟨qq_,h1,h2⟩:=yk hs.2.1 hcs;obtain⟨h3,h⟩:=qa h;have hh:r=.call h0 args:=hh;subst hh;obtain⟨fr',g1,g2⟩:=kK h hs;exact .inl ⟨s,.inl ⟨qq_,hE.ctr _ _ _ h1,.inl ⟨h2,yP 5 _ h3⟩⟩,hk _ _ _ _ g1 g2⟩
  split at h
  ·rename_i t k n l s hcs
   obtain⟨qq_,h1,h2⟩:=yk hs.2.1 hcs;obtain⟨row,c1,c2,c3,c4⟩:=hE.ctn _ _ _ _ _ _ _ h1;rw[kd]at h;obtain⟨hp',p1,h⟩:=qB _ _ _ _ h;have hh:r=.call h0 args:=hh;subst hh;obtain⟨fr',g1,g2⟩:=kK (st:={ st with hp:=(id,.rows t k n row) :: st.hp }) h ⟨hs.1,hs.2.1.cons (b:=.rows t k n l) (b':=.rows t k n row) ⟨rfl,rfl,rfl,c2⟩ p1,hs.2.2⟩;exact .inr (.inl ⟨qq_,_,_,c1,.inl ⟨h2,c3,c4⟩,hk _ _ _ _ g1 g2⟩)
  split at h
  ·rename_i fn L hfn
   obtain⟨c,hc⟩:=hf _ _ _ hfn;cases q:j with
   |false=>
    rw[q]at h;have hh:r=.call h0 args:=hh;subst hh;exact .inl (qir hm hE hrun hc hs h hk)
   |true=>
   rw[q]at h;have h:qin E run fn L d args fr hp id g=.ok ρ:=h;unfold qin at h;rw[hc.body]at h;obtain⟨q2,h⟩:=qa h;obtain⟨fr2,f1,f2⟩:=yQ h;have hh:r=.call h0 args:=hh;subst hh;refine .inr (.inr ⟨hj q,QD (zO L) (K:=λst' res=>K (st'.put d res)) hm hc.at_ hc.body hc.name hc.ok (xa7 q2) λout=>?_⟩);have key:∀(fr3:Tr 3 SV)(hp3:Tr 6 XB)(nid3:Nat)(st3:St),StR LM fr3 hp3 nid3 st3→yl E fr3 hp3 fn.results.toList (λm=>svK (oneSV m) λs=>putD d s fr λfr=>g fr hp3 nid3)=.ok ρ→resultsVC P fn.results.toList st3 (λm=>K (St.put ⟨st.fr,st3.hp,st3.nid⟩ d (oneSV m))):=by
    intro fr3 hp3 nid3 st3 h3 h;refine yR hE h3 h λm h=>?_;rw[Qu]at h;obtain⟨fr',g1,g2⟩:=kK (st:=⟨st.fr,st3.hp,st3.nid⟩) h ⟨hs.1,h3.2.1,h3.2.2⟩;exact hk _ _ _ _ g1 g2
   refine hrun ρ LM _ _ _ L .top c ⟨argFr 0 args,st.hp,id⟩ fr2 hp id _ _ rfl ⟨f1,hs.2.1,rfl⟩ f2 λe fr3 hp3 nid3 st3 h3 h=>?_;cases e with
   |exit i=>cases h
   |normal=>exact key _ _ _ _ h3 h
   |ret=>exact key _ _ _ _ h3 h
  ·cases h
 ·rename_i y args
  obtain⟨q,h⟩:=qa h;have hh:r=.yield y args:=hh;subst hh;exact⟨hj q,qfz hm hrun hcx hs h hk⟩
def xGo(E:XE)(run:XC)(cx:CX)(j:Bool)(o:Oper)(fr:Tr 3 SV)(hp:Tr 6 XB)(nid i:Nat)(g:Tr 3 SV→Tr 6 XB→Nat→R):R:=
 qm (nid+i) λid=>xOp E fr hp id o.op λxr=>Zo E run cx j o.dst id xr fr hp nid g
def ym(ds:List (Option Tmp))(gd:Option (Nat×Bool))(d:Option Tmp)(fr:Tr 3 SV)(hp:Tr 6 XB)(nid:Nat)(go:R)(g:Tr 3 SV→Tr 6 XB→Nat→R):R:=
 match gd with
 |none=>go
 |some (i,want)=>(match nth ds i with
  |none=>.bad 310 0
  |some t=>(match qx fr t with
   |.val (.bool b)=>Bool.rec (putD d undefSV fr λfr=>g fr hp nid) go (b == want)
   |.val (.tuple _)=>putD d undefSV fr λfr=>g fr hp nid
   |_=>.bad 311 0))
def Zp(E:XE)(run:XC)(cx:CX)(j:Bool)(ds:List (Option Tmp))(ops:List Oper):Nat→Tr 3 SV→Tr 6 XB→Nat→(Tr 3 SV→Tr 6 XB→Nat→R)→R:=
 List.rec (motive:=λ_=>Nat→Tr 3 SV→Tr 6 XB→Nat→(Tr 3 SV→Tr 6 XB→Nat→R)→R) (λ_ fr hp nid g=>g fr hp nid)
  (λo _ ih i fr hp nid g=>ym ds o.guard o.dst fr hp nid (xGo E run cx j o fr hp nid i λfr hp nid=>qm (Nat.succ i) λi=>ih i fr hp nid g) (λfr hp nid=>qm (Nat.succ i) λi=>ih i fr hp nid g)) ops
theorem StR.same(hs:StR LM fr hp nid st){t:Tmp}(e:qx fr t=s):StR LM fr hp nid (st.put (some t) s):=⟨λu=>by
 show look (putFr st.fr t s) u=_;rw[zh];by_cases c:u=t
 ·rw[if_pos c,c,e]
 ·rw[if_neg c];exact hs.1 u,hs.2.1,hs.2.2⟩
theorem KK(hm:P.follows .mixedOrders=true)(hE:XOk P E)(hf:wE P E){run:XC}(hrun:vj P run){fs:List Fr}{lo:Nat}{rnd:Bool}{far:Nat→List (Nat×Nat)}{cx:CX}(hcx:qfy LM fs rnd cx){j:Bool}{J:Prop}(hj:j=true→J){ds:List (Option Tmp)}:∀{ops:List Oper}{i:Nat}{fr:Tr 3 SV}{hp:Tr 6 XB}{nid:Nat}{g:Tr 3 SV→Tr 6 XB→Nat→R}{st:St}{K:St→Prop},StR LM fr hp nid st→Zp E run cx j ds ops i fr hp nid g=.ok ρ→
  (∀fr' hp' nid' st',StR LM fr' hp' nid' st'→g fr' hp' nid'=.ok ρ→K st')→zg P ⟨fs,lo,rnd,far⟩ J ds ops i st K
 |[],i,fr,hp,nid,g,st,K,hs,h,hk=>hk _ _ _ _ hs h
 |o :: ops,i,fr,hp,nid,g,st,K,hs,h,hk=>by
  have h:ym ds o.guard o.dst fr hp nid (xGo E run cx j o fr hp nid i λfr hp nid=>qm (Nat.succ i) λi=>Zp E run cx j ds ops i fr hp nid g) (λfr hp nid=>qm (Nat.succ i) λi=>Zp E run cx j ds ops i fr hp nid g)=.ok ρ:=h;have next:∀fr' hp' nid' st',StR LM fr' hp' nid' st'→(qm (Nat.succ i) λi=>Zp E run cx j ds ops i fr' hp' nid' g)=.ok ρ→zg P ⟨fs,lo,rnd,far⟩ J ds ops (i+1) st' K:=by
   intro fr' hp' nid' st' hs' h';rw[qg]at h';exact KK hm hE hf hrun hcx hj hs' h' hk
  have go:∀st,StR LM fr hp nid st→xGo E run cx j o fr hp nid i (λfr hp nid=>qm (Nat.succ i) λi=>Zp E run cx j ds ops i fr hp nid g)=.ok ρ→wA P ⟨fs,lo,rnd,far⟩ J o.op o.dst (st.nid+i) st (λst=>zg P ⟨fs,lo,rnd,far⟩ J ds ops (i+1) st K) (stepR P (look st.fr) st.hp o.op):=by
   intro st hs h;unfold xGo at h;rw[qg]at h;obtain⟨xr,h1,h2⟩:=qbz hE hs.1.fn hs.2.1 h;rw[hs.2.2];exact qkU hm hE hf hrun hcx hj hs h1 h2 next
  have skip:∀st,StR LM fr hp nid st→(putD o.dst undefSV fr λfr=>qm (Nat.succ i) λi=>Zp E run cx j ds ops i fr hp nid g)=.ok ρ→zg P ⟨fs,lo,rnd,far⟩ J ds ops (i+1) (st.put o.dst undefSV) K:=by
   intro st hs h;obtain⟨fr',h1,h2⟩:=kK h hs;exact next _ _ _ _ h1 h2
  unfold zg zi;unfold ym at h;cases hgd:o.guard with
  |none=>rw[hgd]at h;exact go st hs h
  |some x=>
   obtain⟨i0,want⟩:=x;rw[hgd]at h;dsimp only at h ⊢;cases hn:nth ds i0 with
   |none=>rw[hn]at h;cases h
   |some t=>
    rw[hn]at h;dsimp only at h ⊢;rw[hs.1 t];split at h
    ·rename_i b hb
     rw[hb];have hs2:=hs.same hb;cases want<;>cases b<;>(dsimp only at h ⊢)
     ·exact⟨λe=>(by cases e),λ_=>go _ hs2 h⟩
     ·exact⟨λ_=>skip _ hs2 h,λe=>by cases e⟩
     ·exact⟨λe=>(by cases e),λ_=>skip _ hs2 h⟩
     ·exact⟨λ_=>go _ hs2 h,λe=>by cases e⟩
    ·rename_i vs hb
     rw[hb];exact skip st hs h
    ·cases h
end
end
end Go.Sx
end
section
namespace Go.Sx
open Go.RowKit
noncomputable section
variable{run:XC}{O:Ctx}{op:Op}{hp:Tr 6 XB}{st:St}{K:Ex→St→Prop}{s:SV}{fr:Tr 3 SV}{o:Oper}{H:List (Nat×Blk)}{l:List Oper}
variable{ρ:Q}
def qis(eq:SV→SV→Bool):List SV→List SV→Bool
 |[],[]=>true
 |a :: l,b :: m=>eq a b&&qis eq l m
 |_,_=>false
def qna(eq:SV→SV→Bool)(a b:SV):Bool:=
 match a with
 |.val u=>(match b with|.val v=>qds u v|_=>false)
 |.ptr i o=>(match b with|.ptr j p=>Nat.beq i j&&Nat.beq o p|_=>false)
 |.elt i k a c=>(match b with|.elt j l b d=>Nat.beq i j&&(Nat.beq k l&&(Nat.beq a b&&Nat.beq c d))|_=>false)
 |.vec i n k=>(match b with|.vec j m l=>Nat.beq i j&&(Nat.beq n m&&Nat.beq k l)|_=>false)
 |.cut i n k=>(match b with|.cut j m l=>Nat.beq i j&&(Nat.beq n m&&Nat.beq k l)|_=>false)
 |.asl i o n k=>(match b with|.asl j p m l=>Nat.beq i j&&(Nat.beq o p&&(Nat.beq n m&&Nat.beq k l))|_=>false)
 |.que i o n k=>(match b with|.que j p m l=>Nat.beq i j&&(Nat.beq o p&&(Nat.beq n m&&Nat.beq k l))|_=>false)
 |.mp i=>(match b with|.mp j=>Nat.beq i j|_=>false)
 |.agg l=>(match b with|.agg m=>qis eq l m|_=>false)
 |.tup l=>(match b with|.tup m=>qis eq l m|_=>false)
 |.top=>(match b with|.top=>true|_=>false)
 |_=>false
def qnb(n:Nat):SV→SV→Bool:=Nat.rec (λ_ _=>false) (λ_ ih=>qna ih) n
theorem qdu{eq:SV→SV→Bool}(h:∀a b,eq a b=true→a=b):∀{l m:List SV},qis eq l m=true→l=m
 |[],[],_=>rfl
 |[],_ :: _,e=>by cases e
 |_ :: _,[],e=>by cases e
 |a :: l,b :: m,e=>by
  simp only[qis,xe6]at e;rw[h _ _ e.1,qdu h e.2]
theorem qdv:∀(n:Nat)(a b:SV),qnb n a b=true→a=b
 |0,a,b,h=>by cases h
 |n+1,a,b,h=>by
  have h:qna (qnb n) a b=true:=h;have ih:=qdv n;unfold qna at h;split at h<;>(try split at h)<;>first
   |(cases h;done)
   |(rw[YT h];done)
   |(rw[qdu ih h];done)
   |(rw[xa6 h];done)
   |rfl
   |(simp only[xe6,Nat.beq_eq]at h;obtain⟨rfl,rfl⟩:=h;rfl)
   |(simp only[xe6,Nat.beq_eq]at h;obtain⟨rfl,rfl,rfl⟩:=h;rfl)
   |(simp only[xe6,Nat.beq_eq]at h;obtain⟨rfl,rfl,rfl,rfl⟩:=h;rfl)
def qpt(E:XE)(rs:List ResultVar)(g:SV→Tr 6 XB→Nat→R):XK
 |.exit _,_,_,_=>.bad 301 0
 |.normal,fr3,hp3,nid3=>yl E fr3 hp3 rs λm=>svK (oneSV m) λs=>g s hp3 nid3
 |.ret,fr3,hp3,nid3=>yl E fr3 hp3 rs λm=>svK (oneSV m) λs=>g s hp3 nid3
def qmi(E:XE)(run:XC)(fn:Func)(L:FL)(args:List SV)(hp:Tr 6 XB)(id:Nat)(g:SV→Tr 6 XB→Nat→R):R:=
 match fn.body with
 |some c=>ql 302 (Nat.ble args.length fn.ntmps) (Wb args 0 .nil λfr2=>run L .top c fr2 hp id (qpt E fn.results.toList g))
 |none=>.bad 303 0
def qmj(n:Nat)(i:Sh)(args:List SV)(g:SV→R):R:=
 ql 376 (Nat.beq args.length n) (match i.sv args with
  |some s=>svK s g
  |none=>.bad 377 0)
def YU(E:XE)(run:XC)(id:Nat)(xr:XR)(hp:Tr 6 XB)(g:SV→Tr 6 XB→Nat→R):R:=
 match xr with
 |.pure s=>g s hp id
 |.new b s=>qY (some b) 22 hp id λhp=>g s hp id
 |.upd i b s=>(match hp.find i with
  |some _=>qY (some b) 22 hp i λhp=>g s hp id
  |none=>.bad 304 0)
 |.grow i b s=>ql 305 (!(Nat.beq i id)) (qY none 22 hp i λhp=>qY (some b) 22 hp id λhp=>g s hp id)
 |.call h args=>(match E.prj h with
  |some (n,i)=>qmj n i args λs=>g s hp id
  |none=>match E.orc h with
  |some f=>f args hp id g
  |none=>match J2 hp args (E.ctr h)with
  |some s=>ql 309 (GU 5 s) (g s hp id)
  |none=>match J2 hp args (E.ctn h)with
  |some (t,k,n,l,s)=>yW l λl=>qY (some (.rows t k n l)) 22 hp id λhp=>g (setId id s) hp id
  |none=>match E.fns h with
  |some (fn,L)=>qmi E run fn L args hp id g
  |none=>.bad 307 h)
 |.yield _ _=>.bad 381 0
def okQ(s:SV)(hp:Tr 6 XB)(nid:Nat):R:=.ok (.mk s hp nid)
def Ki(E:XE)(run:XC)(id:Nat)(o:Oper)(fr:Tr 3 SV)(hp:Tr 6 XB)(g:SV→Tr 6 XB→Nat→R):R:=
 match (xOp E fr hp id o.op λxr=>YU E run id xr hp okQ)with
 |.ok (.mk s hp nid)=>g s hp nid
 |.bad c i=>.bad c i
def qdw(xr:XR):R:=
 match xr with
 |.pure s=>.ok (.mk s .nil 0)
 |_=>.bad 382 0
def GV(k:Value)(l:List Value):Bool:=List.rec false (λa _ ih=>Bool.rec ih true (GH a k)) l
def jz(es:List (Value×Option SV)):List Value→List Value:=List.rec (motive:=λ_=>List Value→List Value) (λ_=>[]) (λp _ ih seen=>Bool.rec (ih seen) (Bool.rec (Option.rec (ih (p.1 :: seen)) (λ_=>p.1 :: ih (p.1 :: seen)) p.2) (ih seen) (GV p.1 seen)) (GH p.1 p.1)) es
def qbL(es:List (Value×Option SV)):List Value→Nat→(Nat→R)→R:=List.rec (motive:=λ_=>List Value→Nat→(Nat→R)→R) (λ_ c f=>f c) (λp _ ih seen c f=>Bool.rec (ih seen c f) (Bool.rec (Option.rec (ih (p.1 :: seen) c f) (λ_=>qm (Nat.succ c) λc=>ih (p.1 :: seen) c f) p.2) (ih seen c f) (GV p.1 seen)) (GH p.1 p.1)) es
def YV(E:XE)(op:Op):Option Operand:=
 match op with
 |.call ⟨.builtin .len,args,ts⟩=>(match args.toList,ts.toList with
  |[x],[t]=>(match E.mps t with
   |some _=>some x
   |none=>none)
  |_,_=>none)
 |_=>none
def GW(x:SV)(hp:Tr 6 XB):R:=
 match x with
 |.mp id=>(match hp.find id with
  |some (.map _ _ es)=>qbL es [] 0 λn=>.ok (.mk (.val (.int .i64 (.ofNat n))) .nil 0)
  |_=>.bad 390 0)
 |_=>.bad 391 0
def GX(E:XE)(fr:Tr 3 SV)(hp:Tr 6 XB)(op:Op):R:=
 match YV E op with
 |some x=>GW (zb fr x) hp
 |none=>xOp E fr hp 0 op qdw
def gM(E:XE)(o:Oper)(fr:Tr 3 SV)(hp:Tr 6 XB)(g:SV→R):R:=
 match (GX E fr hp o.op)with
 |.ok (.mk s _ _)=>g s
 |.bad c i=>.bad c i
def qmk(fr:Tr 3 SV)(op:Op):Bool:=
 match op with
 |.load _ x=>(match zb fr x with|.ref _ _ _=>true|_=>false)
 |_=>false
def zG(fr:Tr 3 SV)(op:Op):Bool:=GR op&&!qmk fr op
def Ju(b:Bool)(hp:Tr 6 XB):Tr 6 XB:=Bool.rec .nil hp b
abbrev CK:=Tr 3 SV→Tr 6 XB→Nat→List (Tr 6 XB)→R
def gdX(ds:List (Option Tmp))(gd:Option (Nat×Bool))(fr:Tr 3 SV):Option Bool:=
 match gd with
 |none=>some false
 |some (i,want)=>(match nth ds i with
  |none=>none
  |some t=>(match qx fr t with
   |.val (.bool b)=>some (!(b == want))
   |.val (.tuple _)=>some true
   |_=>none))
def gO(E:XE)(run:XC)(n:Nat)(ds:List (Option Tmp))(ops:List Oper):Tr 3 SV→Tr 6 XB→Nat→List (Tr 6 XB)→CK→R:=
 List.rec (motive:=λ_=>Tr 3 SV→Tr 6 XB→Nat→List (Tr 6 XB)→CK→R) (λfr hp nid hs g=>g fr hp nid hs)
  (λo _ ih fr hp nid hs g=>match gdX ds o.guard fr with
   |some false=>Bool.rec (gM E o fr (Ju (zG fr o.op) hp) λs=>putD o.dst s fr λfr=>ih fr hp nid hs g)
    (qm (nid+n) λid=>Ki E run id o fr hp λs hp' nid'=>qm (Nat.succ nid') λnid'=>putD o.dst s fr λfr=>ih fr hp' nid' (hs++[hp']) g) (gJ o.op)
   |some true=>putD o.dst undefSV fr λfr=>Bool.rec (ih fr hp nid hs g) (qm (nid+n) λnid=>ih fr hp nid (hs++[hp]) g) (gJ o.op)
   |none=>.bad 386 0) ops
def Kv(ds:List (Option Tmp))(o:Oper)(fr:Tr 3 SV):Bool:=match gdX ds o.guard fr with
 |some false=>true
 |_=>false
def Wc(E:XE)(fr:Tr 3 SV)(o:Oper)(hp:Tr 6 XB)(r:R):R:=
 gM E o fr hp λs=>(match o.dst with
  |some d=>qoq 384 d (qnb 6 s (qx fr d)) r
  |none=>r)
def QE(E:XE)(fr:Tr 3 SV)(o:Oper)(lo hi tx:Nat)(r:R)(hs:List (Tr 6 XB)):Nat→R:=
 List.rec (motive:=λ_=>Nat→R) (λ_=>r) (λhp _ ih k=>Bool.rec (qm (Nat.succ k) λk=>ih k) (Wc E fr o hp (qm (Nat.succ k) λk=>ih k)) (Nat.ble lo k&&(Nat.ble k hi&&!(Nat.beq k tx)))) hs
def GY(E:XE)(l:List Oper)(fr:Tr 3 SV)(hs:List (Tr 6 XB))(r:R)(ops:List Oper):Nat→R:=
 List.rec (motive:=λ_=>Nat→R) (λ_=>r) (λo _ ih i=>Bool.rec (qm (Nat.succ i) λi=>ih i) (qm (loC l i) λlo=>qm (hiC l i) λhi=>qm (kc (efL l) i) λtx=>QE E fr o lo hi tx (qm (Nat.succ i) λi=>ih i) hs 0) (zG fr o.op&&Kv (dsts l) o fr)) ops
def qkV(E:XE)(run:XC)(ops:List Oper)(fr:Tr 3 SV)(hp:Tr 6 XB)(nid:Nat)(f:XK):R:=
 ql 385 (V4 ops) (qm ops.length λn=>gO E run n (dsts ops) ops fr hp nid [hp] λfr hp nid hs=>GY E ops fr hs (qm (nid+n) λnid=>f .normal fr hp nid) ops 0)
section
variable{P:Program}{E:XE}{LM:Nat→Option Loop}
theorem qkW(hm:P.follows .mixedOrders=true)(hE:XOk P E)(hf:wE P E)(hrun:vj P run){d:Option Tmp}{id:Nat}{xr:XR}{g:SV→Tr 6 XB→Nat→R}{K:St→Prop}{r:Res}(hH:HRel LM hp st.hp)(hn:st.nid=id)(hh:Hit xr id r)(h:YU E run id xr hp g=.ok ρ)
  (hk:∀s hp' nid' st',(∀t,look st'.fr t=look (st.put d s).fr t)→HRel LM hp' st'.hp→st'.nid=nid'→g s hp' nid'=.ok ρ→K st'):wA P O True op d id st K r:=by
 have fr0:∀(H:List (Nat×Blk))(n:Nat)(s:SV)(t:Nat),look (St.put ⟨st.fr,H,n⟩ d s).fr t=look (st.put d s).fr t:=λH n s t=>by rw[j9,j9]
 unfold YU at h;split at h
 ·rcases hh with⟨obl,rfl,ho⟩|⟨obl,rfl,ho⟩
  ·exact⟨ho,hk _ _ _ _ (λt=>rfl) (by rw[zs];exact hH) Ωy h⟩
  ·exact⟨_,ho,hk _ _ _ _ (λt=>rfl) (by rw[zs];exact hH) Ωy h⟩
 ·obtain⟨obl,b',mk,rfl,ho,hb,rfl⟩:=hh
  obtain⟨hp',p1,h⟩:=qB _ _ _ _ h;exact⟨ho,hk _ _ _ _ (λt=>fr0 _ _ _ t) (by rw[zs];exact hH.cons hb.any p1) Ωy h⟩
 ·split at h
  ·rename_i y hy
   obtain⟨hp',p1,h⟩:=qB _ _ _ _ h;rcases hh with⟨obl,b',rfl,ho,hb,rfl⟩|⟨obl,b',rfl,ho,hb⟩
   ·exact⟨ho,hk _ _ _ _ (λt=>fr0 _ _ _ t) (by rw[zs];exact hH.set hb.any hy p1) Ωy h⟩
   ·exact⟨ho,hk _ _ _ _ (λt=>fr0 _ _ _ t) (by rw[zs];exact hH.set hb.any hy p1) Ωy h⟩
  ·cases h
 ·rename_i i b s
  obtain⟨obl,b',mk,rfl,ho,hb,rfl⟩:=hh;obtain⟨q,h⟩:=qa h;have q:i≠id:=λe=>by rw[e,Nat.beq_refl]at q;cases q
  obtain⟨hp1,p1,h⟩:=qB _ _ _ _ h;obtain⟨hp2,p2,h⟩:=qB _ _ _ _ h;exact⟨⟨ho,q⟩,hk _ _ _ _ (λt=>fr0 _ _ _ t) (by rw[zs];exact(hH.drop p1).cons hb.any p2) Ωy h⟩
 ·rename_i h0 args
  have hh:r=.call h0 args:=hh;subst hh;split at h
  ·rename_i n i hp0
   unfold qmj at h;obtain⟨q,h⟩:=qa h;have q:=xa6 q;split at h
   ·rename_i s ha
    rw[Qu]at h;exact .inl ⟨s,.inr ⟨i,by rw[q];exact hE.prj _ _ _ hp0,ha⟩,hk _ _ _ _ (λt=>rfl) (by rw[zs];exact hH) Ωy h⟩
   ·cases h
  split at h
  ·rename_i f hof
   refine .inr (.inr ⟨trivial,hE.orc _ _ hof ρ LM O args hp g ⟨st.fr,st.hp,id⟩ (λst' res=>K (st'.put d res)) hH h λs hp' nid' H' hH' hk'=>?_⟩);exact hk _ _ _ _ (λt=>fr0 _ _ _ t) (by rw[zs];exact hH') (by rw[qy]) hk'
  split at h
  ·rename_i s hcs
   obtain⟨qq_,h1,h2⟩:=yk hH hcs;obtain⟨h3,h⟩:=qa h;exact .inl ⟨s,.inl ⟨qq_,hE.ctr _ _ _ h1,.inl ⟨h2,yP 5 _ h3⟩⟩,hk _ _ _ _ (λt=>rfl) (by rw[zs];exact hH) Ωy h⟩
  split at h
  ·rename_i t k n l s hcs
   obtain⟨qq_,h1,h2⟩:=yk hH hcs;obtain⟨row,c1,c2,c3,c4⟩:=hE.ctn _ _ _ _ _ _ _ h1;rw[kd]at h;obtain⟨hp',p1,h⟩:=qB _ _ _ _ h;exact .inr (.inl ⟨qq_,_,_,c1,.inl ⟨h2,c3,c4⟩,hk _ _ _ _ (λt=>fr0 _ _ _ t) (by rw[zs];exact hH.cons (b:=.rows t k n l) (b':=.rows t k n row) ⟨rfl,rfl,rfl,c2⟩ p1) Ωy h⟩)
  split at h
  ·rename_i fn L hfn
   obtain⟨c,hc⟩:=hf _ _ _ hfn;unfold qmi at h;rw[hc.body]at h;obtain⟨q2,h⟩:=qa h;obtain⟨fr2,f1,f2⟩:=yQ h;refine .inr (.inr ⟨trivial,QD (zO L) (K:=λst' res=>K (st'.put d res)) hm hc.at_ hc.body hc.name hc.ok (xa7 q2) λout=>?_⟩);have key:∀(fr3:Tr 3 SV)(hp3:Tr 6 XB)(nid3:Nat)(st3:St),StR LM fr3 hp3 nid3 st3→yl E fr3 hp3 fn.results.toList (λm=>svK (oneSV m) λs=>g s hp3 nid3)=.ok ρ→resultsVC P fn.results.toList st3 (λm=>K (St.put ⟨st.fr,st3.hp,st3.nid⟩ d (oneSV m))):=by
    intro fr3 hp3 nid3 st3 h3 h;refine yR hE h3 h λm h=>?_;rw[Qu]at h;exact hk _ _ _ _ (λt=>fr0 _ _ _ t) (by rw[zs];exact h3.2.1) (by rw[qy];exact h3.2.2) h
   refine hrun ρ LM _ _ _ L .top c ⟨argFr 0 args,st.hp,id⟩ fr2 hp id _ _ rfl ⟨f1,hH,rfl⟩ f2 λe fr3 hp3 nid3 st3 h3 h=>?_;cases e with
   |exit i=>cases h
   |normal=>exact key _ _ _ _ h3 h
   |ret=>exact key _ _ _ _ h3 h
  ·cases h
 ·cases h
def YW(P:Program)(LM:Nat→Option Loop)(n:Nat)(ds:List (Option Tmp))(o:Oper)(sk:Bool)(s:SV)(X X':Tr 3 SV)(Y Y':Tr 6 XB)(Z Z':Nat):Prop:=
 (∀t,qx X' t=if o.dst=some t then s else qx X t)∧gdX ds o.guard X=some sk∧
 (sk=true→s=undefSV∧Y'=Y∧(gJ o.op=true→Z+n≤Z'))∧
 (gJ o.op=false→Y'=Y∧Z'=Z)∧
 (sk=false→gJ o.op=false→(∀H,HRel LM Y H→PureAt P (qx X) H o.op s)∧(zG X o.op=false→∀H,PureAt P (qx X) H o.op s))∧
 (sk=false→gJ o.op=true→∀(O:Ctx)(st1:St),(∀t,t∈kO o→look st1.fr t=qx X t)→HRel LM Y st1.hp→st1.nid=Z+n→∀K':St→Prop,(∀st':St,(∀t,look st'.fr t=look (st1.put o.dst s).fr t)→HRel LM Y' st'.hp→st'.nid+1≤Z'→K' st')→wA P O True o.op o.dst st1.nid st1 K' (stepR P (look st1.fr) st1.hp o.op))
theorem We{d:Option Tmp}{g:Tr 3 SV→R}(h:putD d s fr g=.ok ρ):∃fr',(∀t,qx fr' t=if d=some t then s else qx fr t)∧g fr'=.ok ρ:=by
 unfold putD at h;cases d with
 |none=>exact⟨fr,λt=>by rw[if_neg (by intro h;cases h)],h⟩
 |some d=>
  obtain⟨fr',h1,h2⟩:=qB _ _ _ _ h;refine⟨fr',λt=>?_,h2⟩;unfold qx;rw[h1 t];by_cases c:t=d
  ·rw[if_pos c,if_pos (by rw[c])]
  ·rw[if_neg c,if_neg (by intro h;cases h;exact c rfl)]
theorem QF{t:Tmp}(h : .tmp t∈o.op.operands.toList):t∈kO o:=by
 unfold kO;rw[List.mem_filterMap];exact⟨_,h,rfl⟩
theorem qdx:HRel LM .nil H:=λid b hb=>by rw[Q6]at hb;cases hb
theorem J4{g:SV→R}(h:gM E o fr hp g=.ok ρ):∃s,(∃a b,GX E fr hp o.op=.ok (.mk s a b))∧g s=.ok ρ:=by
 unfold gM at h;split at h
 ·rename_i s a b hx
  exact⟨s,⟨a,b,hx⟩,h⟩
 ·cases h
theorem Wf{k:Value}(hk:eqK k k=true):∀{l:List Value},GV k l=true↔k∈l
 |[]=>by simp[GV]
 |a :: l=>by
  show(Bool.rec (GV k l) true (GH a k):Bool)=true↔_;rw[VP,List.mem_cons];cases h:eqK a k with
  |true=>have:=zq h;simp[this]
  |false=>
   show GV k l=true↔_;rw[Wf hk];constructor
   ·exact .inr
   ·rintro(rfl|h1)
    ·rw[hk]at h;cases h
    ·exact h1
theorem QG(p:Value×Option SV)(es:List (Value×Option SV))(seen:List Value):jz (p :: es) seen=(Bool.rec (jz es seen) (Bool.rec (Option.rec (jz es (p.1 :: seen)) (λ_=>p.1 :: jz es (p.1 :: seen)) p.2) (jz es seen) (GV p.1 seen)) (GH p.1 p.1):List Value):=rfl
theorem Zq(f:Nat→R):∀(es:List (Value×Option SV))(seen:List Value)(c:Nat),qbL es seen c f=f (c+(jz es seen).length)
 |[],seen,c=>rfl
 |p :: es,seen,c=>by
  show(Bool.rec (qbL es seen c f) (Bool.rec (Option.rec (qbL es (p.1 :: seen) c f) (λ_=>qm (Nat.succ c) λc=>qbL es (p.1 :: seen) c f) p.2) (qbL es seen c f) (GV p.1 seen)) (GH p.1 p.1):R)=_;rw[QG];cases GH p.1 p.1 with
  |false=>exact Zq f es seen c
  |true=>
  cases GV p.1 seen with
  |true=>exact Zq f es seen c
  |false=>
   cases p.2 with
   |none=>exact Zq f es _ c
   |some s=>
    show(qm (Nat.succ c) λc=>qbL es (p.1 :: seen) c f)=f (c+((jz es (p.1 :: seen)).length+1));rw[qg,Zq f es _ _]
    congr 1;omega
theorem keysE_mem{k:Value}:∀{es:List (Value×Option SV)}{seen:List Value},k∈jz es seen↔k∉seen∧(kw es k).isSome=true
 |[],seen=>by
  show k∈[]↔_∧Option.isSome none=true;simp
 |p :: es,seen=>by
  rw[QG,zK,VP];cases hs:eqK p.1 p.1 with
  |false=>
   show k∈jz es seen↔_;rw[keysE_mem];have:¬(eqK p.1 k=true):=λh=>by rw[←zq h,hs]at h;cases h
   rw[if_neg this]
  |true=>
   cases hh:GV p.1 seen with
   |true=>
    show k∈jz es seen↔_;have hm:=(Wf hs).1 hh;rw[keysE_mem];by_cases c:eqK p.1 k=true
    ·have:=zq c
     subst this;simp[hm]
    ·rw[if_neg c]
   |false=>
    have hm:p.1∉seen:=λh=>by rw[(Wf hs).2 h]at hh;cases hh
    by_cases c:eqK p.1 k=true
    ·rw[if_pos c]
     have:=zq c;subst this;cases p.2 with
     |none=>
      show p.1∈jz es (p.1 :: seen)↔_;rw[keysE_mem];simp
     |some s=>
      show p.1∈p.1 :: jz es (p.1 :: seen)↔_;simp[hm]
    ·rw[if_neg c]
     have hne:k≠p.1:=λh=>by rw[h,hs]at c;exact c rfl
     cases p.2 with
     |none=>
      show k∈jz es (p.1 :: seen)↔_;rw[keysE_mem];simp[hne]
     |some s=>
      show k∈p.1 :: jz es (p.1 :: seen)↔_;rw[List.mem_cons,keysE_mem];simp[hne]
theorem jq:∀{es:List (Value×Option SV)}{seen:List Value},(jz es seen).Nodup
 |[],seen=>List.nodup_nil
 |p :: es,seen=>by
  rw[QG];cases GH p.1 p.1 with
  |false=>exact jq
  |true=>
   cases GV p.1 seen with
   |true=>exact jq
   |false=>
    cases p.2 with
    |none=>exact jq
    |some s=>
     refine List.nodup_cons.2 ⟨λh=>?_,jq⟩;have:=(keysE_mem.1 h).1;simp at this
theorem qit{x:Operand}(h:YV E op=some x):∃t mi,op=.call ⟨.builtin .len,#[x],#[t]⟩∧E.mps t=some mi:=by
 unfold YV at h;split at h
 ·rename_i args ts
  split at h
  ·rename_i x' t ha ht
   split at h
   ·rename_i mi hm
    cases h;have e1:=K6 ha;have e2:=K6 ht;subst e1;subst e2;exact⟨t,mi,rfl,hm⟩
   ·cases h
  ·cases h
 ·cases h
theorem Zr(hE:XOk P E)(hH:HRel LM hp H)(h:∃a b,GX E fr hp op=.ok (.mk s a b)):PureAt P (qx fr) H op s:=by
 obtain⟨a,b,h⟩:=h;unfold GX at h;split at h
 ·rename_i x hl
  obtain⟨t,mi,rfl,hm⟩:=qit hl;refine .inr ⟨rfl,λO st hfr hst=>?_⟩;unfold GW at h;split at h
  ·rename_i id hx
   split at h
   ·rename_i ag ls es hb
    rw[Zq]at h;cases h;subst hst;obtain⟨dom,get,g1,g2⟩:=hH.map hb;have hxe:env (look st.fr) x=.mp id:=by
     rw[←hx];cases x with
     |tmp t=>exact hfr t Ωk
     |_=>rfl
    have:=qfw (O:=O) (hE.mps _ _ hm) hxe g1 jq (L:=jz es []) λk=>by rw[(g2 k).1,keysE_mem];simp
    rw[xb0];exact this
   ·cases h
  ·cases h
 ·obtain⟨xr,h1,h2⟩:=qbz hE (F:=qx fr) (λ_=>rfl) hH h
  cases xr<;>simp only[qdw,reduceCtorEq]at h2
  cases h2;exact .inl h1
theorem PureAt.congr{F F':Nat→SV}(h:PureAt P F H o.op s)(hF:∀t,t∈kO o→F' t=F t):PureAt P F' H o.op s:=by
 rcases h with h|⟨h1,h2⟩
 ·exact .inl (by rw[JY (F':=F) λt ht=>hF t (QF ht)];exact h)
 ·exact .inr ⟨h1,λO st hfr hst=>h2 O st (λt ht=>by rw[hfr t ht,hF t ht]) hst⟩
theorem qiu{j:Nat}:efL (o :: l) (j+1)=efL l j:=by simp[efL]
theorem qdy{o:Oper}{l:List Oper}:∀{j:Nat},kc (efL (o :: l)) (j+1)=(if gJ o.op=true then 1 else 0)+kc (efL l) j
 |0=>by simp[kc,efL]
 |j+1=>by
  have ih:=qdy (o:=o) (l:=l) (j:=j);simp only[kc]at ih ⊢;rw[ih,qiu];omega
theorem GZ(hm:P.follows .mixedOrders=true)(hE:XOk P E)(hf:wE P E){run:XC}(hrun:vj P run){n:Nat}{ds:List (Option Tmp)}:∀{ops:List Oper}{fr:Tr 3 SV}{hp:Tr 6 XB}{nid k0:Nat}{hs:List (Tr 6 XB)}{g:CK},gO E run n ds ops fr hp nid hs g=.ok ρ→hs.length=k0+1→hs[k0]? = some hp→
  ∃(res:Nat→SV)(sk:Nat→Bool)(X:Nat→Tr 3 SV)(Y:Nat→Tr 6 XB)(Z:Nat→Nat)(hs':List (Tr 6 XB)),X 0=fr∧Y 0=hp∧Z 0=nid∧g (X ops.length) (Y ops.length) (Z ops.length) hs'=.ok ρ∧
   (∀i o,ops[i]? = some o→YW P LM n ds o (sk i) (res i) (X i) (X (i+1)) (Y i) (Y (i+1)) (Z i) (Z (i+1)))∧(∀j,j≤ops.length→hs'[k0+kc (efL ops) j]? = some (Y j))∧∀k,k≤k0→hs'[k]? = hs[k]?
 |[],fr,hp,nid,k0,hs,g,h,hl,hh=>by
  refine⟨λ_=>.top,λ_=>false,λ_=>fr,λ_=>hp,λ_=>nid,hs,rfl,rfl,rfl,h,λi o ho=>by simp at ho,λj hj=>?_,λ_ _=>rfl⟩;have:j=0:=by simpa using hj
  subst this;exact hh
 |o :: ops,fr,hp,nid,k0,hs,g,h,hl,hh=>by
  have h:(match gdX ds o.guard fr with
   |some false=>Bool.rec (gM E o fr (Ju (zG fr o.op) hp) λs=>putD o.dst s fr λfr=>gO E run n ds ops fr hp nid hs g)
    (qm (nid+n) λid=>Ki E run id o fr hp λs hp' nid'=>qm (Nat.succ nid') λnid'=>putD o.dst s fr λfr=>gO E run n ds ops fr hp' nid' (hs++[hp']) g) (gJ o.op)
   |some true=>putD o.dst undefSV fr λfr=>Bool.rec (gO E run n ds ops fr hp nid hs g) (qm (nid+n) λnid=>gO E run n ds ops fr hp nid (hs++[hp]) g) (gJ o.op)
   |none=>.bad 386 0:R)=.ok ρ:=h
  have glue:∀(k:Bool)(s:SV)(fr':Tr 3 SV)(hp':Tr 6 XB)(nid' k1:Nat)(hs1:List (Tr 6 XB)),YW P LM n ds o k s fr fr' hp hp' nid nid'→gO E run n ds ops fr' hp' nid' hs1 g=.ok ρ→hs1.length=k1+1→hs1[k1]? = some hp'→k1=k0+(if gJ o.op=true then 1 else 0)→(∀k,k≤k0→hs1[k]? = hs[k]?)→
    ∃(res:Nat→SV)(sk:Nat→Bool)(X:Nat→Tr 3 SV)(Y:Nat→Tr 6 XB)(Z:Nat→Nat)(hs':List (Tr 6 XB)),X 0=fr∧Y 0=hp∧Z 0=nid∧g (X (o :: ops).length) (Y (o :: ops).length) (Z (o :: ops).length) hs'=.ok ρ∧
   (∀i o',(o :: ops)[i]? = some o'→YW P LM n ds o' (sk i) (res i) (X i) (X (i+1)) (Y i) (Y (i+1)) (Z i) (Z (i+1)))∧(∀j,j≤(o :: ops).length→hs'[k0+kc (efL (o :: ops)) j]? = some (Y j))∧∀k,k≤k0→hs'[k]? = hs[k]?:=by
   intro k s fr' hp' nid' k1 hs1 hstep hrest hl1 hh1 hk1 hpre;obtain⟨res,sk,X,Y,Z,hs',e1,e2,e3,hg,hst,hsg,hpr⟩:=GZ hm hE hf hrun hrest hl1 hh1;refine⟨λi=>Nat.casesOn i s res,λi=>Nat.casesOn i k sk,λi=>Nat.casesOn i fr X,λi=>Nat.casesOn i hp Y,λi=>Nat.casesOn i nid Z,hs',rfl,rfl,rfl,hg,λi o' ho=>?_,λj hj=>?_,λk hk=>?_⟩
   ·cases i with
    |zero=>
     simp at ho;subst ho;show YW P LM n ds o k s fr (X 0) hp (Y 0) nid (Z 0);rw[e1,e2,e3];exact hstep
    |succ i=>exact hst i o' Ω2
   ·cases j with
    |zero=>
     show hs'[k0+0]? = some hp;rw[xb1,hpr k0 Ω,hpre k0 (xa5 _),hh]
    |succ j=>
     show hs'[_]? = some (Y j);rw[qdy,←xb2,←hk1];exact hsg j ΩV
   ·rw[hpr k Ω,hpre k hk]
  split at h
  ·rename_i hgd
   cases q:gJ o.op with
   |false=>
    rw[q]at h;have h:gM E o fr (Ju (zG fr o.op) hp) (λs=>putD o.dst s fr λfr=>gO E run n ds ops fr hp nid hs g)=.ok ρ:=h;obtain⟨s,hx,h⟩:=J4 h;obtain⟨fr',hfr,h⟩:=We h;refine glue false s fr' hp nid k0 hs ⟨hfr,hgd,λe=>(by cases e),λ_=>⟨rfl,rfl⟩,λ_ _=>⟨λH hH=>?_,λhr H=>?_⟩,λ_ e=>by rw[q]at e;cases e⟩ h hl hh (by simp[q]) (λ_ _=>rfl)
    ·refine Zr hE (LM:=LM) (hp:=Ju (zG fr o.op) hp) ?_ hx
     cases zG fr o.op
     ·exact qdx
     ·exact hH
    ·rw[hr]at hx
     exact Zr hE (LM:=LM) (hp:=.nil) qdx hx
   |true=>
    rw[q]at h;have h:qm (nid+n) (λid=>Ki E run id o fr hp λs hp' nid'=>qm (Nat.succ nid') λnid'=>putD o.dst s fr λfr=>gO E run n ds ops fr hp' nid' (hs++[hp']) g)=.ok ρ:=h;rw[qg]at h;unfold Ki at h;split at h
    ·rename_i s hp' nid' hx
     dsimp only at h;rw[qg]at h;obtain⟨fr',hfr,h⟩:=We h;refine glue false s fr' hp' (nid'+1) (k0+1) (hs++[hp']) ⟨hfr,hgd,λe=>(by cases e),λe=>(by rw[q]at e;cases e),λ_ e=>(by rw[q]at e;cases e),λ_ _ O st1 hops hH hn K' hk=>?_⟩ h (by simp[hl]) ?_ (by simp[q]) λk hk=>?_
     ·have e:stepR P (look st1.fr) st1.hp o.op=stepR P (qx fr) st1.hp o.op:=JY λt ht=>hops t (QF ht)
      rw[e,hn];obtain⟨xr,h1,h2⟩:=qbz hE (F:=qx fr) (λ_=>rfl) hH hx;refine qkW hm hE hf hrun (id:=nid+n) hH hn h1 h2 λs1 hp1 nid1 st' hf' hH' hn' hq=>?_;unfold okQ at hq;cases hq;exact hk st' hf' hH' Ω
     ·rw[xd0 Ω,hl,xb8];rfl
     ·exact xc9 Ω
    ·cases h
  ·rename_i hgd
   obtain⟨fr',hfr,h⟩:=We h;cases q:gJ o.op with
   |false=>
    rw[q]at h;exact glue true undefSV fr' hp nid k0 hs ⟨hfr,hgd,λ_=>⟨rfl,rfl,λe=>(by rw[q]at e;cases e)⟩,λ_=>⟨rfl,rfl⟩,λe=>(by cases e),λe=>(by cases e)⟩ h hl hh (by simp[q]) (λ_ _=>rfl)
   |true=>
    rw[q]at h;have h:(qm (nid+n) λnid=>gO E run n ds ops fr' hp nid (hs++[hp]) g)=.ok ρ:=h;rw[qg]at h;refine glue true undefSV fr' hp (nid+n) (k0+1) (hs++[hp]) ⟨hfr,hgd,λ_=>⟨rfl,rfl,λ_=>xa5 _⟩,λe=>(by rw[q]at e;cases e),λe=>(by cases e),λe=>(by cases e)⟩ h (by simp[hl]) ?_ (by simp[q]) λk hk=>?_
    ·rw[xd0 Ω,hl,xb8];rfl
    ·exact xc9 Ω
  ·cases h
def qiv(P:Program)(LM:Nat→Option Loop)(fr:Tr 3 SV)(o:Oper)(hp:Tr 6 XB):Prop:=∀H,HRel LM hp H→∃s,PureAt P (qx fr) H o.op s∧∀d,o.dst=some d→s=qx fr d
theorem qfA(hE:XOk P E){r:R}(h:Wc E fr o hp r=.ok ρ):qiv P LM fr o hp∧r=.ok ρ:=by
 obtain⟨s,hx,h⟩:=J4 h;cases e:o.dst with
 |none=>
  rw[e]at h;exact⟨λH hH=>⟨s,Zr hE hH hx,λd hd=>by rw[e]at hd;cases hd⟩,h⟩
 |some d=>
  rw[e]at h;obtain⟨h1,h⟩:=qkx h;exact⟨λH hH=>⟨s,Zr hE hH hx,λd' hd=>by rw[e]at hd;cases hd;exact qdv _ _ _ h1⟩,h⟩
theorem qdz(hE:XOk P E){fr:Tr 3 SV}{o:Oper}{lo hi tx:Nat}{r:R}:∀{hs:List (Tr 6 XB)}{k:Nat},QE E fr o lo hi tx r hs k=.ok ρ→r=.ok ρ∧∀j y,hs[j]? = some y→lo≤k+j→k+j≤hi→k+j≠tx→qiv P LM fr o y
 |[],k,h=>⟨h,λj y hj=>by simp at hj⟩
 |hp :: hs,k,h=>by
  have h:(Bool.rec (qm (Nat.succ k) λk=>QE E fr o lo hi tx r hs k) (Wc E fr o hp (qm (Nat.succ k) λk=>QE E fr o lo hi tx r hs k)) (Nat.ble lo k&&(Nat.ble k hi&&!(Nat.beq k tx))):R)=.ok ρ:=h;have key:(qm (Nat.succ k) λk=>QE E fr o lo hi tx r hs k)=.ok ρ∧(lo≤k→k≤hi→k≠tx→qiv P LM fr o hp):=by
   cases q:(Nat.ble lo k&&(Nat.ble k hi&&!(Nat.beq k tx)))with
   |false=>
    rw[q]at h;refine⟨h,λh1 h2 h3=>?_⟩;have:(Nat.ble lo k&&(Nat.ble k hi&&!(Nat.beq k tx)))=true:=by
     simp only[xe6,Bool.not_eq_true',Nat.ble_eq];exact⟨h1,h2,by cases c:Nat.beq k tx with
      |false=>rfl
      |true=>exact absurd (xa6 c) h3⟩
    rw[q]at this;cases this
   |true=>
    rw[q]at h;obtain⟨h1,h2⟩:=qfA (LM:=LM) hE h;exact⟨h2,λ_ _ _=>h1⟩
  obtain⟨h1,h2⟩:=key;rw[qg]at h1;obtain⟨h3,h4⟩:=qdz hE h1;refine⟨h3,λj y hj a b c=>?_⟩;cases j with
  |zero=>simp at hj;subst hj;exact h2 a b c
  |succ j=>exact h4 j y ΩV Ω Ω Ω
theorem qdA(hE:XOk P E){l:List Oper}{fr:Tr 3 SV}{hs:List (Tr 6 XB)}{r:R}:∀{ops:List Oper}{i:Nat},GY E l fr hs r ops i=.ok ρ→r=.ok ρ∧∀j o,ops[j]? = some o→(zG fr o.op&&Kv (dsts l) o fr)=true→∀k y,hs[k]? = some y→loC l (i+j)≤k→k≤hiC l (i+j)→k≠kc (efL l) (i+j)→qiv P LM fr o y
 |[],i,h=>⟨h,λj o hj=>by simp at hj⟩
 |o :: ops,i,h=>by
  have h:(Bool.rec (qm (Nat.succ i) λi=>GY E l fr hs r ops i) (qm (loC l i) λlo=>qm (hiC l i) λhi=>qm (kc (efL l) i) λtx=>QE E fr o lo hi tx (qm (Nat.succ i) λi=>GY E l fr hs r ops i) hs 0) (zG fr o.op&&Kv (dsts l) o fr):R)=.ok ρ:=h;have key:(qm (Nat.succ i) λi=>GY E l fr hs r ops i)=.ok ρ∧((zG fr o.op&&Kv (dsts l) o fr)=true→∀k y,hs[k]? = some y→loC l i≤k→k≤hiC l i→k≠kc (efL l) i→qiv P LM fr o y):=by
   cases q:(zG fr o.op&&Kv (dsts l) o fr)with
   |false=>rw[q]at h;exact⟨h,λe=>by cases e⟩
   |true=>
    rw[q]at h;have h:(qm (loC l i) λlo=>qm (hiC l i) λhi=>qm (kc (efL l) i) λtx=>QE E fr o lo hi tx (qm (Nat.succ i) λi=>GY E l fr hs r ops i) hs 0)=.ok ρ:=h;rw[qg,qg,qg]at h;obtain⟨h1,h2⟩:=qdz (LM:=LM) hE h;exact⟨h1,λ_ k y hk a b c=>h2 k y hk Ω Ω Ω⟩
  obtain⟨h1,h2⟩:=key;rw[qg]at h1;obtain⟨h3,h4⟩:=qdA hE h1;refine⟨h3,λj o' hj hr k y hk a b c=>?_⟩;cases j with
  |zero=>simp at hj;subst hj;exact h2 hr k y hk a b c
  |succ j=>
   have e:i+(j+1)=i+1+j:=by omega
   rw[e]at a b c;exact h4 j o' ΩV hr k y hk a b c
theorem qkX(hm:P.follows .mixedOrders=true)(hE:XOk P E)(hf:wE P E)(hrun:vj P run){id:Nat}{nid:Nat}{f:XK}{g:Tag K}(hs:StR LM fr hp nid st)(h:qkV E run l fr hp nid f=.ok ρ)
  (hk:∀e fr' hp' nid' st',StR LM fr' hp' nid' st'→f e fr' hp' nid'=.ok ρ→K e st'):w9 P O id l true st K g:=by
 obtain⟨q,h⟩:=qa h;rw[qg]at h;have hc:=qfv q;obtain⟨res,sk,X,Y,Z,hs',e1,e2,e3,hg,hst,hsg,hpr⟩:=GZ (LM:=LM) hm hE hf hrun h (k0:=0) rfl rfl;obtain⟨hfin,hck⟩:=qdA (LM:=LM) hE hg;rw[qg]at hfin;have hsi:∀i,i<l.length→∃o,l[i]? = some o:=λi hi=>⟨l[i],by simp[hi]⟩;have hX:∀j,j≤l.length→∀t,qx (X j) t=FS (nth (dsts l)) res (λ_=>true) (look st.fr) j t:=by
  intro j
  induction j with
  |zero=>intro _ t;rw[e1];exact(hs.1 t).symm
  |succ j ih=>
   intro hj t;obtain⟨o,ho⟩:=hsi j Ω;have hd:nth (dsts l) j=o.dst:=by rw[zm,ho];rfl
   rw[(hst j o ho).1 t,ih Ω t];simp only[FS,hd,true_and]
 have hopd:∀i o,l[i]? = some o→∀t,t∈kO o→qx (X l.length) t=qx (X i) t:=by
  intro i o ho t ht;have hi:i<l.length:=(List.getElem?_eq_some_iff.1 ho).1;rw[hX _ (xa5 _),hX i Ω];refine V3 Ω λx hx hxl hd=>?_;have:=hc.lt i x hi (hc.ops i o t x ho ht hxl hd);omega
 have hef:∀i o,l[i]? = some o→efL l i=gJ o.op:=λi o ho=>by simp[efL,ho]
 have hY:∀j,j<l.length→efL l j=false→Y (j+1)=Y j∧Z (j+1)=Z j:=by
  intro j hj he;obtain⟨o,ho⟩:=hsi j hj;exact(hst j o ho).2.2.2.1 (by rw[←hef j o ho];exact he)
 have hgt:∀i o g want t,l[i]? = some o→o.guard=some (g,want)→nth (dsts l) g=some t→qx (X l.length) t=qx (X i) t:=by
  intro i o g want t ho hgd ht;have hi:i<l.length:=(List.getElem?_eq_some_iff.1 ho).1;have hgl:=hc.lt i g hi (hc.grd i o g want ho hgd).1;rw[hX _ (xa5 _),hX i Ω];refine V3 Ω λx hx hxl hd=>?_;exact hc.dist x g t Ω hxl hd ht
 have hgX:∀i o,l[i]? = some o→gdX (dsts l) o.guard (X l.length)=gdX (dsts l) o.guard (X i):=by
  intro i o ho;unfold gdX;cases hgd:o.guard with
  |none=>rfl
  |some p=>
   obtain⟨g,want⟩:=p;dsimp only;cases ht:nth (dsts l) g with
   |none=>rfl
   |some t=>dsimp only;rw[hgt i o g want t ho hgd ht]
 refine YP hm hc res Y Z (qx (X l.length)) sk (λi o ho=>?_) hY (λt=>hX _ (xa5 _) t) (by rw[e2];exact hs.2.1) (by rw[e3];exact hs.2.2) ?_ ?_ ?_
 ·obtain⟨_,s2,s3,s4,_,_⟩:=hst i o ho
  rw[←hgX i o ho]at s2;refine⟨?_,λhs=>⟨(s3 hs).2.1,λhe=>(s3 hs).2.2 (by rw[←hef i o ho];exact he),λd hd=>(s3 hs).1⟩⟩;unfold gdX at s2;unfold Grd;cases hgd:o.guard with
  |none=>rw[hgd]at s2;exact(Option.some.inj s2).symm
  |some p=>
   obtain⟨g,want⟩:=p;rw[hgd]at s2;dsimp only at s2;split at s2
   ·cases s2
   ·rename_i t ht
    refine⟨t,ht,?_⟩;split at s2
    ·rename_i b hb
     exact .inl ⟨b,hb,(Option.some.inj s2).symm⟩
    ·rename_i vs hb
     exact .inr ⟨⟨vs,hb⟩,(Option.some.inj s2).symm⟩
    ·cases s2
 ·intro i o ho hsk he j hj hlo hhi F H hF hH
  have hi:i<l.length:=(List.getElem?_eq_some_iff.1 ho).1;obtain⟨p1,p2⟩:=(hst i o ho).2.2.2.2.1 hsk (by rw[←hef i o ho];exact he);have hFi:∀t,t∈kO o→F t=qx (X i) t:=λt ht=>by rw[hF t ht,hopd i o ho t ht]
  by_cases c:kc (efL l) j=kc (efL l) i
  ·have hst2:Y j=Y i:=by
    by_cases d:j≤i
    ·exact(vJ hY d Ω c).1
    ·exact(vJ hY (Ω:i≤j) hj c.symm).1.symm
   exact⟨_,(p1 H (by rw[←hst2];exact hH)).congr hFi,λ_ _=>rfl⟩
  ·have hsee:zG (X l.length) o.op=zG (X i) o.op:=by
    unfold zG
    congr 2
    unfold qmk;split
    ·rename_i t x hop
     have:zb (X l.length) x=zb (X i) x:=by
      cases x<;>first|rfl|skip
      rename_i t;exact hopd i o ho t (QF (by rw[hop];simp[Op.operands]))
     rw[this]
    ·rfl
   cases d:zG (X i) o.op with
   |false=>
    exact⟨_,(p2 d H).congr hFi,λ_ _=>rfl⟩
   |true=>
    have h1:=hsg j hj;rw[xb0]at h1;have:=hck i o ho (by rw[hsee,d,xf0];unfold Kv;rw[hgX i o ho,(hst i o ho).2.1,hsk]) _ _ h1 (by rw[xb0];exact hlo) (by rw[xb0];exact hhi) (by rw[xb0];exact c) H hH;obtain⟨s,hs1,hs2⟩:=this;refine⟨s,?_,λd hd=>?_⟩
    ·exact hs1.congr hF
    ·rw[hs2 d hd,hX _ (xa5 _)]
     have hdi:nth (dsts l) i=some d:=by rw[zm,ho];exact hd
     refine VZ hdi rfl hi λx hx hxd=>?_;refine xf9 λhne=>?_;by_cases hlt:x<i
     ·exact hc.dist i x d hlt hi hdi hxd
     ·exact hc.dist x i d Ω hx hxd hdi
 ·intro i o ho hsk he st1 hops hH hn K' hk'
  exact(hst i o ho).2.2.2.2.2 hsk (by rw[←hef i o ho];exact he) O st1 (λt ht=>by rw[hops t ht,hopd i o ho t ht]) hH hn K' hk'
 ·intro st' hf' hH' hn'
  exact hk _ _ _ _ _ ⟨hf',hH',hn'⟩ hfin
def qfB(P:Program)(O:Ctx)(ds:List (Option Tmp)):List Oper→St→(St→Prop)→Prop
 |[],st,K=>∃st1,Weak O st st1∧K st1
 |o :: rest,st,K=>∃st1,Weak O st st1∧opH P O ds o st1 λst'=>qfB P O ds rest st' K
theorem qdB{O:Ctx}{base:World}{okc:Nat→Prop}{ns:Nat}{outs:gU}{ro:Option Nat}{allops:Array Oper}{Q:Exit→Act→World→Prop}{K:St→Prop}:∀(ops:List Oper)(st:St)(a:Act)(w:World),Inv O base okc ns st.nid outs st a w→ops.all (kT ns)=true→
  qfB P O (dsts allops.toList) ops st K→(∀st' a' w',K st'→Inv O base okc ns st'.nid outs st' a' w'→Q .normal a' w')→wpListIn (FR ro) 0 P allops Q ops a w
 |[],st,a,w,h,hd,⟨st1,hw,hk⟩,hK=>hK st1 a w hk (hw _ _ _ _ _ _ h)
 |o :: rest,st,a,w,h,hd,⟨st1,hw,hk⟩,hK=>by
  simp only[List.all_cons,xe6]at hd;unfold wpListIn;exact VH (hw _ _ _ _ _ _ h) hd.1 hk λst' a' w' hk' hi'=>qdB rest st' a' w' hi' hd.2 hk' hK
theorem qkY{id:Nat}{ops:List Oper}{g:Tag K}(h:qfB P O (dsts ops) ops st (λst'=>K .normal st')):w9 P O id ops false st K g:=by
 intro base okc ns outs a w ro Q hro hc hi hK;simp only[qF,xe6]at hc;obtain⟨hd,-⟩:=hc;have hd:ops.all (kT ns)=true:=by simpa using hd
 refine wpIn_region_list ?_;have:=qdB (ro:=ro) (allops:=ops.toArray) (Q:=Q) (K:=λst'=>K .normal st') ops st a w hi hd ΩG λst' a' w' hk hi'=>hK .normal st' a' w' hk hi';simpa using this
theorem qiw{O:Ctx}{n:Nat}{all:List Oper}{K:St→Prop}:∀{l:List Oper}{res:Nat→SV}{sk:Nat→Bool}{X:Nat→Tr 3 SV}{Y:Nat→Tr 6 XB}{Z:Nat→Nat}{st:St}{d:Nat},(∀i o,l[i]? = some o→YW P LM n (dsts all) o (sk i) (res i) (X i) (X (i+1)) (Y i) (Y (i+1)) (Z i) (Z (i+1)))→FRel (X 0) st.fr→HRel LM (Y 0) st.hp→st.nid≤Z 0+d→d+l.length≤n→
  (∀st',FRel (X l.length) st'.fr→HRel LM (Y l.length) st'.hp→st'.nid=Z l.length+n→K st')→qfB P O (dsts all) l st K
 |[],res,sk,X,Y,Z,st,d,h,hF,hH,hn,hd,hk=>by
  have hd:d≤n:=by simpa using hd
  have hk:∀st',FRel (X 0) st'.fr→HRel LM (Y 0) st'.hp→st'.nid=Z 0+n→K st':=hk;exact⟨{ st with nid:=Z 0+n },Qy _ _ _ Ω,hk _ hF hH rfl⟩
 |o :: l,res,sk,X,Y,Z,st,d,h,hF,hH,hn,hd,hk=>by
  have hst:=h 0 o rfl;have hd:d+(l.length+1)≤n:=by simpa using hd
  have next:∀st',FRel (X 1) st'.fr→HRel LM (Y 1) st'.hp→st'.nid≤Z 1+(d+1)→qfB P O (dsts all) l st' K:=λst' hf' hs' hn'=>
   qiw (l:=l) (res:=λi=>res (i+1)) (sk:=λi=>sk (i+1)) (X:=λi=>X (i+1)) (Y:=λi=>Y (i+1)) (Z:=λi=>Z (i+1)) (d:=d+1) (λi o' ho=>h (i+1) o' Ω2) hf' hs' hn' Ω hk
  obtain⟨s1,s2,s3,s4,s5,s6⟩:=hst;have s1:∀t,qx (X 1) t=if o.dst=some t then res 0 else qx (X 0) t:=s1
  have s4:gJ o.op=false→Y 1=Y 0∧Z 1=Z 0:=s4;have s3:sk 0=true→res 0=undefSV∧Y 1=Y 0∧(gJ o.op=true→Z 0+n≤Z 1):=s3;have hgrd:Grd all (look st.fr) o (sk 0):=by
   unfold gdX at s2;unfold Grd;cases hgd:o.guard with
   |none=>rw[hgd]at s2;exact(Option.some.inj s2).symm
   |some p=>
    obtain⟨g,want⟩:=p;rw[hgd]at s2;dsimp only at s2;split at s2
    ·cases s2
    ·rename_i t ht
     refine⟨t,ht,?_⟩;rw[hF t];split at s2
     ·rename_i b hb
      exact .inl ⟨b,hb,(Option.some.inj s2).symm⟩
     ·rename_i vs hb
      exact .inr ⟨⟨vs,hb⟩,(Option.some.inj s2).symm⟩
     ·cases s2
  have frs:∀(st2:St)(fr:List (Nat×SV)),(∀t,look st2.fr t=look st.fr t)→(∀t,look fr t=look (st2.put o.dst (res 0)).fr t)→FRel (X 1) fr:=λst2 fr h2 h3 t=>by
   rw[h3,j9,s1 t,h2,hF t]
  cases q:gJ o.op with
  |false=>
   obtain⟨y1,z1⟩:=s4 q;refine⟨st,Weak.refl _ _,V5 hgrd (λhsk st2 h2 h2h h2n=>?_) (λhsk st2 h2 h2h h2n=>?_)⟩
   ·obtain⟨p1,_⟩:=s5 hsk q
    have h1:=(p1 st2.hp (by rw[h2h];exact hH)).congr (F':=look st2.fr) λt _=>by rw[h2,hF t]
    have f2:qfB P O (dsts all) l ⟨inD o.dst (st2.put o.dst (res 0)).fr,(st2.put o.dst (res 0)).hp,(st2.put o.dst (res 0)).nid+1⟩ K:=next _ (frs st2 _ h2 λt=>jl _ _ _) (by show HRel LM (Y 1) (st2.put o.dst (res 0)).hp;rw[zs,h2h,y1];exact hH) (by show(st2.put o.dst (res 0)).nid+1≤_;rw[qy,z1];omega);rcases h1 with(⟨obl,e,h⟩|⟨obl,e,h⟩)|⟨hnd,h⟩
    ·rw[e];exact .inl ⟨h,f2⟩
    ·rw[e];exact .inl ⟨_,h,f2⟩
    ·refine .inr ⟨hnd,(h O st2 (λt _=>rfl) rfl).mono ?_⟩
     rintro st' res' ⟨rfl,rfl⟩;exact next _ (frs st' _ h2 λt=>yM _ _ _ _) (by rw[yN,h2h,y1];exact hH) (by rw[kV,z1];omega)
   ·obtain⟨k1,k2,_⟩:=s3 hsk
    exact next _ (frs st2 _ h2 λt=>by rw[yM,k1]) (by rw[yN,h2h,y1];exact hH) (by rw[kV,z1];omega)
  |true=>
   refine⟨{ st with nid:=Z 0+n },Qy _ _ _ Ω,V5 (st:={ st with nid:=Z 0+n }) hgrd (λhsk st2 h2 h2h h2n=>?_) (λhsk st2 h2 h2h h2n=>?_)⟩
   ·refine .inl (s6 hsk q O st2 (λt _=>by rw[h2];exact hF t) (by rw[h2h];exact hH) h2n _ λst' hf' hH' hn'=>?_)
    exact next _ (frs st2 _ h2 λt=>by rw[jl,hf']) hH' (by show st'.nid+1≤_;exact xc1 hn' (Nat.le_add_right _ _))
   ·obtain⟨k1,k2,k3⟩:=s3 hsk
    exact next _ (frs st2 _ h2 λt=>by rw[yM,k1]) (by rw[yN,h2h,k2];exact hH) (by rw[kV,h2n];exact xc1 (k3 q) (Nat.le_add_right _ _))
def qnc(E:XE)(run:XC)(ops:List Oper)(fr:Tr 3 SV)(hp:Tr 6 XB)(nid:Nat)(f:XK):R:=
 qm ops.length λn=>gO E run n (dsts ops) ops fr hp nid [hp] λfr hp nid hs=>qm (nid+n) λnid=>f .normal fr hp nid
theorem qkZ(hm:P.follows .mixedOrders=true)(hE:XOk P E)(hf:wE P E)(hrun:vj P run){id:Nat}{nid:Nat}{f:XK}{g:Tag K}(hs:StR LM fr hp nid st)(h:qnc E run l fr hp nid f=.ok ρ)
  (hk:∀e fr' hp' nid' st',StR LM fr' hp' nid' st'→f e fr' hp' nid'=.ok ρ→K e st'):w9 P O id l false st K g:=by
 unfold qnc at h;rw[qg]at h;obtain⟨res,sk,X,Y,Z,hs',e1,e2,e3,hg,hst,hsg,hpr⟩:=GZ (LM:=LM) hm hE hf hrun h (k0:=0) rfl rfl;rw[qg]at hg;refine qkY (qiw (d:=0) hst (by rw[e1];exact hs.1) (by rw[e2];exact hs.2.1) (by rw[e3,hs.2.2];omega) Ω λst' hf' hH' hn'=>?_);exact hk _ _ _ _ st' ⟨hf',hH',hn'⟩ hg
end
end
end Go.Sx
end
section
namespace Go.Sx
open Go.RowKit
noncomputable section
variable{LM:Nat→Option Loop}{hp:Tr 6 XB}{fr:Tr 3 SV}
variable{ρ:Q}
def qfC(run:XC)(L:FL)(cx:CX)(b:Code)(f:XK):XK
 |.normal,fr,hp,nid=>run L cx b fr hp nid f
 |.exit i,fr,hp,nid=>f (.exit i) fr hp nid
 |.ret,fr,hp,nid=>f .ret fr hp nid
def qix(id:Nat)(f:XK):XK
 |.normal,fr,hp,nid=>f .normal fr hp nid
 |.exit i,fr,hp,nid=>Bool.rec (f (.exit i) fr hp nid) (f .normal fr hp nid) (Nat.beq i id)
 |.ret,fr,hp,nid=>f .ret fr hp nid
def qiy(v:SV)(a b:R):R:=
 match v with
 |.val (.bool c)=>Bool.rec b a c
 |_=>.bad 320 0
def qiz(bk:SV→Option Nat)(fr:Tr 3 SV)(l:List (Nat×Nat))(k:R):R:=
 List.rec (motive:=λ_=>R) k (λp _ ih=>match bk (qx fr p.1),bk (qx fr p.2)with
  |some i,some j=>ql 360 (!(Nat.beq i j)) ih
  |_,_=>ih) l
def G1(ops:List Oper)(f:XK)(fr:Tr 3 SV)(hp:Tr 6 XB)(nid:Nat):R:=qm (nid+ops.length) λnid=>f .normal fr hp nid
def qpu(mid:Nat)(fr:Tr 3 SV)(l:List Tmp):Bool:=l.all λa=>match qW (qx fr a)with
 |some i=>!(Nat.beq i mid)
 |none=>true
def qiA(q:EI)(ops:List Oper)(fr:Tr 3 SV)(hp:Tr 6 XB)(k:R):R:=match qx fr q.mm with
 |.mp mid=>(match hp.find mid with
  |some (.map _ _ _)=>ql 365 (qpu mid fr (GP ops)) k
  |_=>.bad 366 0)
 |_=>.bad 367 0
def qoE(te tx:Tmp)(fr:Tr 3 SV)(g:Tr 3 SV→R):R:=qY (some .top) 22 fr te λfr=>qY (some .top) 22 fr tx g
def qnd(E:XE)(run:XC)(cx:CX)(ops:List Oper)(l:List (Nat×Nat))(fr:Tr 3 SV)(hp:Tr 6 XB)(nid:Nat)(f:XK):R:=
 match entI ops with
 |some q=>ql 363 (qid q l ops) (Zp E run cx false (dsts ops) (Ku q.e q.x q.s q.upd 0 ops) 0 fr hp nid λfr hp nid=>qiz qW fr l (qiA q ops fr hp (qoE q.te q.tx fr λfr=>G1 ops f fr hp nid)))
 |none=>.bad 368 0
def qbM(E:XE)(run:XC)(L:FL)(cx:CX)(id:Nat)(d:Bool)(ops:List Oper)(fr:Tr 3 SV)(hp:Tr 6 XB)(nid:Nat)(f:XK):R:=
 match zO L id with
 |[]=>Zp E run cx (kM d ops) (dsts ops) ops 0 fr hp nid (G1 ops f)
 |(a,b) :: l=>Bool.rec (Zp E run cx (kM d ops) (dsts ops) ops 0 fr hp nid λfr hp nid=>qiz qW fr ((a,b) :: l) (G1 ops f fr hp nid))
  (Bool.rec (ql 361 d (Bool.rec (Bool.rec (.bad 362 0) (qkV E run ops fr hp nid f) (Nat.beq a 2)) (qnd E run cx ops l fr hp nid f) (Nat.beq a 1))) (ql 364 (!d) (qnc E run ops fr hp nid f)) (Nat.beq a 3)) (Nat.beq a b)
def Wg(id:Nat)(fr:Tr 3 SV)(f:XK)(hp:Tr 6 XB)(nid:Nat):R:=
 match hp.find id with
 |some (.loop s)=>qY none 22 hp id λhp=>(match s with
  |.ready=>f .normal fr hp nid
  |.retd=>f .ret fr hp nid
  |.left i=>f (.exit i) fr hp nid
  |_=>.bad 350 0)
 |_=>.bad 351 0
def Wh(E:XE)(run:XC)(L:FL)(v:SV)(ps:List Tmp)(a b:Code)(fr:Tr 3 SV)(hp:Tr 6 XB)(nid:Nat)(f:XK):R:=
 match v with
 |.fn (.func g) [] caps=>(match E.fns g with
  |some (fn,[])=>(match fn.body,fn.results.toList with
   |some c,[]=>ql 352 (Nat.ble (caps.length+1) fn.ntmps) (qY (some (.loop .ready)) 22 hp nid λhp1=>Wb (.yld nid :: caps) 0 .nil λfr1=>qm (Nat.succ nid) λn1=>run [] (.gen nid L fr ps a b) c fr1 hp1 n1 λe _ hp3 nid3=>(match e with
    |.exit _=>.bad 353 0
    |.normal=>Wg nid fr f hp3 nid3
    |.ret=>Wg nid fr f hp3 nid3))
   |_,_=>.bad 354 0)
  |_=>.bad 355 g)
 |_=>.bad 356 0
def J5(E:XE)(run:XC)(L:FL)(cx:CX)(c:Code)(fr:Tr 3 SV)(hp:Tr 6 XB)(nid:Nat)(f:XK):R:=
 match c with
 |.skip=>f .normal fr hp nid
 |.label _=>f .normal fr hp nid
 |.seq a b=>run L cx a fr hp nid (qfC run L cx b f)
 |.cond x a b=>qiy (zb fr x) (run L cx a fr hp nid f) (run L cx b fr hp nid f)
 |.block id c=>run L cx c fr hp nid (qix id f)
 |.exit id=>f (.exit id) fr hp nid
 |.ret=>f .ret fr hp nid
 |.scope c=>run L cx c fr hp nid f
 |.loop c=>run L cx c fr hp nid (qfC run L cx (.loop c) f)
 |.region id ops d=>qbM E run L cx id d ops.toList fr hp nid f
 |.rangeFunc x ps a b=>(match cx with
  |.rnd=>.bad 357 0
  |_=>Wh E run L (zb fr x) ps.toList a b fr hp nid f)
 |_=>.bad 321 0
section
variable{P:Program}{E:XE}
theorem HRel.lm{LM':Nat→Option Loop}{H:List (Nat×Blk)}(h:HRel LM hp H)(e:∀id b,hp.find id=some b→LM' id=LM id):HRel LM' hp H:=λid b hb=>by
 rw[e id b hb];exact h id b hb
theorem qfD(hm:P.follows .mixedOrders=true)(hf:wE P E){run:XC}(hrun:vj P run){fs:List Fr}{lo:Nat}{L:FL}{x:Operand}{ps:List Tmp}{a b:Code}{st:St}{n0:Nat}{f:XK}{K:Ex→St→Prop}(hs:StR LM fr hp n0 st)(h:Wh E run L (zb fr x) ps a b fr hp n0 f=.ok ρ)
  (hk:∀e fr' hp' nid' st',StR LM fr' hp' nid' st'→f e fr' hp' nid'=.ok ρ→K e st'):wB P ⟨fs,lo,false,zO L⟩ (.rangeFunc x ps.toArray a b) st K:=by
 obtain⟨F,H,nid⟩:=st;obtain⟨s1,s2,s3⟩:=hs;have s3:nid=n0:=s3;subst s3;have s1:FRel fr F:=s1;have s2:HRel LM hp H:=s2;unfold Wh at h;split at h
 ·rename_i g caps hv
  split at h
  ·rename_i fn hfn
   obtain⟨c,hc⟩:=hf _ _ _ hfn;split at h
   ·rename_i c' hb hr
    have:c'=c:=by rw[hc.body]at hb;cases hb;rfl
    subst this;obtain⟨q,h⟩:=qa h;obtain⟨hp1,p1,h⟩:=qB _ _ _ _ h;obtain⟨fr1,f1,h⟩:=yQ h;rw[qg]at h;refine qfb hm rfl (by rw[s1.fn.env];exact hv) hc.at_ hc.body hc.name hc.ok hr (xa7 q) λout Lr hL=>?_;generalize hLM:(λi=>if i=nid then some Lr else LM i)=LM';have eL:LM' nid=some Lr:=by rw[←hLM];show(if nid=nid then some Lr else LM nid)=_;rw[if_pos rfl]
    have eO:∀i,i≠nid→LM' i=LM i:=λi hi=>by rw[←hLM];show(if i=nid then some Lr else LM i)=_;rw[if_neg hi]
    have r1:HRel LM' hp1 ((nid,.loop Lr .ready) :: H):=λi y hy=>by
     rw[p1 i]at hy;by_cases c:i=nid
     ·rw[if_pos c]at hy;cases hy
      exact⟨.loop Lr .ready,by simp only[blk];rw[if_pos c],rfl,by rw[c];exact eL⟩
     ·rw[if_neg c]at hy;simp only[blk];rw[if_neg c,eO i c];exact s2 i y hy
    have fin:∀(hp3:Tr 6 XB)(nid3:Nat)(fr3:Tr 3 SV)(st3:St),StR LM' fr3 hp3 nid3 st3→Wg nid fr f hp3 nid3=.ok ρ→vA Lr F K st3.hp st3.nid nid (blk st3.hp nid):=by
     intro hp3 nid3 fr3 st3 h3 hr;unfold Wg at hr;split at hr
     ·rename_i s hb3
      rw[h3.2.1.loop hb3 eL];obtain⟨hp4,p4,hr⟩:=qB _ _ _ _ hr;have r4:StR LM fr hp4 nid3 ⟨F,dropBlk st3.hp nid,st3.nid⟩:=by
       refine⟨s1,(h3.2.1.drop p4).lm λi y hy=>?_,h3.2.2⟩;rw[p4 i]at hy;by_cases c:i=nid
       ·rw[if_pos c]at hy;cases hy
       ·exact(eO i c).symm
      refine⟨rfl,?_⟩;cases s<;>first|exact hk _ _ _ _ _ r4 hr|cases hr
     ·cases hr
    refine hrun ρ LM' _ _ _ [] (.gen nid L fr ps a b) c' ⟨_,_,_⟩ fr1 hp1 (nid+1) _ _ ⟨rfl,Lr,F,eL,s1,hL⟩ ⟨f1,r1,rfl⟩ h λe fr3 hp3 nid3 st3 h3 h=>?_;cases e with
    |exit i=>cases h
    |normal=>exact fin _ _ _ _ h3 h
    |ret=>exact fin _ _ _ _ h3 h
   ·cases h
  ·cases h
 ·cases h
theorem Zs{fr:Tr 3 SV}{st:St}(hF:FRel fr st.fr){X:Prop}{k:R}(hX:k=.ok ρ→X):∀{l:List (Nat×Nat)},qiz qW fr l k=.ok ρ→FarVC l st X
 |[],h=>hX h
 |(a,b) :: l,h=>by
  have h:(match qW (qx fr a),qW (qx fr b)with
   |some i,some j=>ql 360 (!(Nat.beq i j)) (qiz qW fr l k)
   |_,_=>qiz qW fr l k)=.ok ρ:=h
  show vt (look st.fr a) (look st.fr b)∧FarVC l st X;rw[hF a,hF b];unfold vt;split at h
  ·rename_i i j h1 h2
   rw[h1,h2];obtain⟨q,h⟩:=qa h;exact⟨λe=>(by rw[e,Nat.beq_refl]at q;cases q),Zs hF hX h⟩
  ·rename_i hn
   refine⟨?_,Zs hF hX h⟩;split
   ·rename_i i j h1 h2;exact absurd h2 (hn i j h1)
   ·trivial
theorem qiB{q:EI}{ops:List Oper}{st:St}(hF:FRel fr st.fr)(hH:HRel LM hp st.hp){k:R}(h:qiA q ops fr hp k=.ok ρ):qow q ops st∧k=.ok ρ:=by
 unfold qiA at h;split at h
 ·rename_i mid e1
  split at h
  ·rename_i e2
   obtain⟨h1,h2⟩:=qa h;refine⟨λmid' hmid=>?_,h2⟩;rw[hF,e1]at hmid;injection hmid with hmid;subst hmid;refine⟨?_,λa ha=>?_⟩
   ·obtain⟨b',hb,hr⟩:=hH _ _ e2
    cases b'<;>simp only[BRel]at hr
    exact⟨_,_,_,hb⟩
   ·rw[hF]
    have:=List.all_eq_true.1 h1 a ha;intro c;rw[c]at this;simp at this
  ·cases h
 ·cases h
theorem qla{te tx:Tmp}{g:Tr 3 SV→R}(h:qoE te tx fr g=.ok ρ):∃fr',(∀t,qx fr' t=if t=te∨t=tx then .top else qx fr t)∧g fr'=.ok ρ:=by
 obtain⟨f1,h1,h⟩:=qB _ _ _ _ h;obtain⟨f2,h2,h⟩:=qB _ _ _ _ h;refine⟨f2,λt=>?_,h⟩;unfold qx;rw[h2,h1];by_cases c1:t=tx
 ·rw[if_pos c1,if_pos (.inr c1)]
 ·by_cases c2:t=te
  ·rw[if_neg c1,if_pos c2,if_pos (.inl c2)]
  ·rw[if_neg c1,if_neg c2,if_neg (by rintro(c|c)<;>contradiction)]
theorem qiC(hm:P.follows .mixedOrders=true)(hE:XOk P E)(hf:wE P E){run:XC}(hrun:vj P run)(hloop:∀(ρ:Q)(LM:Nat→Option Loop)(fs:List Fr)(lo:Nat)(rnd:Bool)(L:FL)(cx:CX)(c:Code)(st:St)(fr:Tr 3 SV)(hp:Tr 6 XB)(nid:Nat)(f:XK)(K:Ex→St→Prop),qfy LM fs rnd cx→StR LM fr hp nid st→run L cx c fr hp nid (qfC run L cx (.loop c) f)=.ok ρ→
  (∀e fr' hp' nid' st',StR LM fr' hp' nid' st'→f e fr' hp' nid'=.ok ρ→K e st')→vc P ⟨fs,lo,rnd,zO L⟩ (.loop c) st K):vj P (J5 E run):=by
 intro ρ LM fs lo rnd L cx c st fr hp nid f K hcx hs h hk;cases c<;>simp only[J5,reduceCtorEq]at h
 case skip=>exact hk _ _ _ _ _ hs h
 case label=>exact hk _ _ _ _ _ hs h
 case exit=>exact hk _ _ _ _ _ hs h
 case ret=>exact hk _ _ _ _ _ hs h
 case scope c=>exact hrun ρ LM _ _ _ _ _ c _ _ _ _ _ _ hcx hs h hk
 case seq a b=>
  refine hrun ρ LM _ _ _ _ _ a _ _ _ _ _ _ hcx hs h λe fr' hp' nid' st' hs' h'=>?_;cases e with
  |normal=>exact hrun ρ LM _ _ _ _ _ b _ _ _ _ _ _ hcx hs' h' hk
  |exit i=>exact hk _ _ _ _ _ hs' h'
  |ret=>exact hk _ _ _ _ _ hs' h'
 case loop c=>exact hloop ρ LM _ _ _ _ _ c _ _ _ _ _ _ hcx hs h hk
 case block id c=>
  refine hrun ρ LM _ _ _ _ _ c _ _ _ _ _ _ hcx hs h λe fr' hp' nid' st' hs' h'=>?_;cases e with
  |normal=>exact hk _ _ _ _ _ hs' h'
  |ret=>exact hk _ _ _ _ _ hs' h'
  |exit i=>
   have h':(Bool.rec (f (.exit i) fr' hp' nid') (f .normal fr' hp' nid') (Nat.beq i id):R)=.ok ρ:=h';show if i=id then K .normal st' else K (.exit i) st'
   cases e:Nat.beq i id with
   |true=>rw[e]at h';rw[if_pos (xa6 e)];exact hk _ _ _ _ _ hs' h'
   |false=>
    rw[e]at h';rw[if_neg (λq=>by rw[q,Nat.beq_refl]at e;cases e)];exact hk _ _ _ _ _ hs' h'
 case rangeFunc x ps a b=>
  have key:rnd=false∧Wh E run L (zb fr x) ps.toList a b fr hp nid f=.ok ρ:=by
   cases cx with
   |top=>exact⟨hcx,h⟩
   |rnd=>cases h
   |gen y L0 fr0 ps0 a0 b0=>exact⟨hcx.1,h⟩
  obtain⟨rfl,h⟩:=key;have:=qfD (fs:=fs) (lo:=lo) (x:=x) (ps:=ps.toList) hm hf hrun hs h hk;exact this
 case cond x a b=>
  show Gr P (env (look st.fr) x) _ _;rw[hs.1.fn.env];unfold qiy at h;split at h
  ·rename_i b0 hb
   rw[hb];cases b0 with
   |true=>exact⟨λ_=>hrun ρ LM _ _ _ _ _ a _ _ _ _ _ _ hcx hs h hk,λe=>by cases e⟩
   |false=>exact⟨λe=>(by cases e),λ_=>hrun ρ LM _ _ _ _ _ b _ _ _ _ _ _ hcx hs h hk⟩
  ·cases h
 case region id ops d=>
  have done:∀fr' hp' nid' st',StR LM fr' hp' nid' st'→G1 ops.toList f fr' hp' nid'=.ok ρ→K .normal ⟨st'.fr,st'.hp,st'.nid+ops.toList.length⟩:=by
   intro fr' hp' nid' st' hs' h';unfold G1 at h';rw[qg]at h';exact hk _ _ _ _ ⟨st'.fr,st'.hp,st'.nid+ops.toList.length⟩ ⟨hs'.1,hs'.2.1,by rw[hs'.2.2]⟩ h'
  show(if jv (zO L id)=true then wB P _ (.region id ops d) st K else zg P _ (kM d ops.toList=true) (dsts ops.toList) ops.toList 0 st (λst'=>FarVC (zO L id) st' (K .normal { st' with nid:=st'.nid+ops.toList.length })));unfold qbM at h;split at h
  ·rename_i hl
   rw[hl,if_neg (by simp[jv])];exact KK hm hE hf hrun hcx (λe=>e) hs h done
  ·rename_i a b l hl
   rw[hl];cases e:Nat.beq a b with
   |false=>
    rw[e]at h;have hab:a≠b:=λq=>by rw[q,Nat.beq_refl]at e;cases e
    rw[if_neg (by simp[jv,hab])];refine KK hm hE hf hrun hcx (λe=>e) hs h λfr' hp' nid' st' hs' h'=>?_;exact Zs hs'.1 (λh'=>done _ _ _ _ hs' h') h'
   |true=>
    rw[e]at h;have hab:a=b:=xa6 e;rw[if_pos (by simp[jv,hab])];cases e3:Nat.beq a 3 with
    |true=>
     rw[e3]at h;obtain⟨q1,p1⟩:=qa h;have q1:d=false:=by cases d<;>first|rfl|cases q1
     subst q1;have:=qkZ (P:=P) (O:=⟨fs,lo,rnd,zO L⟩) (id:=id) (K:=K) (g:=.mk) hm hE hf hrun hs p1 hk;exact this
    |false=>
    rw[e3]at h;obtain⟨q1,p1⟩:=qa h;subst q1;cases e1:Nat.beq a 1 with
    |true=>
     rw[e1]at p1
     replace p1:qnd E run cx ops.toList l fr hp nid f=.ok ρ:=p1
     unfold qnd at p1;split at p1
     ·rename_i q hq
      obtain⟨q2,p2⟩:=qa p1;exact YO (P:=P) (O:=⟨fs,lo,rnd,zO L⟩) (id:=id) (K:=K) (g:=.mk) (far:=l) hm (qkM hq) q2 (KK hm hE hf hrun hcx (J:=False) (λe=>by cases e) hs p2 λfr' hp' nid' st' hs' h'=>Zs hs'.1 (λh'=>by
       obtain⟨h1,h2⟩:=qiB hs'.1 hs'.2.1 h';refine⟨h1,λst2 hf2 hh2 hn2=>?_⟩;obtain⟨fr2,hfr2,h3⟩:=qla h2;unfold G1 at h3;rw[qg]at h3;refine hk _ _ _ _ st2 ⟨λt=>?_,λi b hb=>?_,?_⟩ h3
       ·rw[hf2,hfr2,hs'.1]
       ·rw[hh2];exact hs'.2.1 i b hb
       ·rw[hn2,hs'.2.2]) h')
     ·cases p1
    |false=>
    rw[e1]at p1;cases e2:Nat.beq a 2 with
    |true=>
     rw[e2]at p1;have:=qkX (P:=P) (O:=⟨fs,lo,rnd,zO L⟩) (id:=id) (K:=K) (g:=.mk) hm hE hf hrun hs p1 hk;exact this
    |false=>
    rw[e2]at p1;cases p1
end
end
end Go.Sx
end
section
namespace Go.Sx
open Go.RowKit
noncomputable section
def svF(s:SV):(Value→R)→R→R:=SV.rec (motive_1:=λ_=>(Value→R)→R→R) (motive_2:=λ_=>PUnit) (λ f d=>d) (λv f d=>f v) (λ_ _ f d=>d) (λ_ _ f d=>d) (λ_ _ _ _ _ f d=>d) (λ_ _ f d=>d) (λ_ _ _ _ f d=>d) (λ_ _ _ _ f d=>d) (λ_ _ _ _ _ _ f d=>d) (λ_ _ _ f d=>d) (λ_ f d=>d) (λ_ _ _ _ f d=>d) (λ_ _ _ _ f d=>d) (λ_ _ _ f d=>d) (λ_ _ _ _ _ f d=>d) (λ_ f d=>d) PUnit.unit (λ_ _ _ _=>PUnit.unit) s
def qpv(v:Value):(IntKind→Int→R)→R→R:=Value.rec (motive_1:=λ_=>(IntKind→Int→R)→R→R) (motive_2:=λ_=>PUnit) (motive_3:=λ_=>PUnit) (λ_ f d=>d) (λk n f d=>f k n) (λ_ _ f d=>d) (λ_ _ _ f d=>d) (λ_ f d=>d) (λ_ f d=>d) (λ_ _ _ f d=>d) (λ_ f d=>d) (λ_ f d=>d) (λ_ _ _ _ _ f d=>d) (λ f d=>d) (λ_ _ _ f d=>d) (λ f d=>d) (λ_ _ f d=>d) (λ_ _ f d=>d) (λ_ _=>PUnit.unit) PUnit.unit (λ_ _ _ _=>PUnit.unit) v
def qoF(v:Value):(Bool→R)→R→R:=Value.rec (motive_1:=λ_=>(Bool→R)→R→R) (motive_2:=λ_=>PUnit) (motive_3:=λ_=>PUnit) (λb f d=>f b) (λ_ _ f d=>d) (λ_ _ f d=>d) (λ_ _ _ f d=>d) (λ_ f d=>d) (λ_ f d=>d) (λ_ _ _ f d=>d) (λ_ f d=>d) (λ_ f d=>d) (λ_ _ _ _ _ f d=>d) (λ f d=>d) (λ_ _ _ f d=>d) (λ f d=>d) (λ_ _ f d=>d) (λ_ _ f d=>d) (λ_ _=>PUnit.unit) PUnit.unit (λ_ _ _ _=>PUnit.unit) v
def qdC(s:SV)(f:IntKind→Int→R)(d:R):R:=svF s (λv=>qpv v f d) d
def qne(s:SV)(f:Bool→R)(d:R):R:=svF s (λv=>qoF v f d) d
def kA(k:IntKind):Nat:=IntKind.rec 100 101 2 3 4 5 6 7 k
def kB(k:IntKind):Nat:=IntKind.rec 102 103 2 3 4 5 6 7 k
def qnf(k k':IntKind):Bool:=Nat.beq (kA k) (kB k')
theorem qlb(k k':IntKind):qnf k k'=eqKind k k':=by cases k<;>cases k'<;>rfl
def qng(a b:Int):IntKind→(XR→R)→R:=Int.rec (λx=>Int.rec (λy k f=>qm (Nat.add x y) λn=>Bool.rec (.bad 19 0) (f (.pure (.val (.int k (.ofNat n))))) (Nat.ble n (hiK k))) (λy k f=>jH 19 k (Int.add (.ofNat x) (.negSucc y)) f) b) (λx k f=>jH 19 k (Int.add (.negSucc x) b) f) a
theorem qlc(a b:Int)(k:IntKind)(f:XR→R):qng a b k f=jH 19 k (Int.add a b) f:=by
 cases a with
 |negSucc x=>rfl
 |ofNat x=>cases b with
  |negSucc y=>rfl
  |ofNat y=>
   have e:qng (.ofNat x) (.ofNat y) k f=qm (Nat.add x y) λn=>Bool.rec (.bad 19 0) (f (.pure (.val (.int k (.ofNat n))))) (Nat.ble n (hiK k)):=rfl;rw[e,qg];unfold jH;rw[jG];rfl
def qoG(a b:Int):IntKind→(XR→R)→R:=Int.rec (λx=>Int.rec (λy k f=>Bool.rec (jH 20 k (Int.sub (.ofNat x) (.ofNat y)) f) (qm (Nat.sub x y) λn=>Bool.rec (.bad 20 0) (f (.pure (.val (.int k (.ofNat n))))) (Nat.ble n (hiK k))) (Nat.ble y x)) (λy k f=>jH 20 k (Int.sub (.ofNat x) (.negSucc y)) f) b) (λx k f=>jH 20 k (Int.sub (.negSucc x) b) f) a
theorem qld(a b:Int)(k:IntKind)(f:XR→R):qoG a b k f=jH 20 k (Int.sub a b) f:=by
 cases a with
 |negSucc x=>rfl
 |ofNat x=>cases b with
  |negSucc y=>rfl
  |ofNat y=>
   show(Bool.rec _ _ (Nat.ble y x):R)=_;cases h:Nat.ble y x with
   |false=>rfl
   |true=>
    have e:Int.sub (.ofNat x) (.ofNat y)=.ofNat (x - y):=by
     have:=xa7 h;show(Int.ofNat x - Int.ofNat y)=_;simp only[Int.ofNat_eq_natCast];omega
    rw[e];show qm (Nat.sub x y) _=jH 20 k (Int.ofNat (x - y)) f;unfold jH;rw[qg,jG];rfl
def qnh(a b:Int):IntKind→(XR→R)→R:=Int.rec (λx=>Int.rec (λy k f=>qm (Nat.mul x y) λn=>Bool.rec (.bad 21 0) (f (.pure (.val (.int k (.ofNat n))))) (Nat.ble n (hiK k))) (λy k f=>jH 21 k (Int.mul (.ofNat x) (.negSucc y)) f) b) (λx k f=>jH 21 k (Int.mul (.negSucc x) b) f) a
theorem qle(a b:Int)(k:IntKind)(f:XR→R):qnh a b k f=jH 21 k (Int.mul a b) f:=by
 cases a with
 |negSucc x=>rfl
 |ofNat x=>cases b with
  |negSucc y=>rfl
  |ofNat y=>
   have e:qnh (.ofNat x) (.ofNat y) k f=qm (Nat.mul x y) λn=>Bool.rec (.bad 21 0) (f (.pure (.val (.int k (.ofNat n))))) (Nat.ble n (hiK k)):=rfl;rw[e,qg];unfold jH;rw[jG];rfl
def qiD(op:BinOp):Bx (IntKind→Int→Int→(XR→R)→R):=
 match op with
 |.add=>.mk λk a b f=>qng a b k f
 |.sub=>.mk λk a b f=>qoG a b k f
 |.mul=>.mk λk a b f=>qnh a b k f
 |.eql=>.mk λk a b f=>Kh (Jq a b) λb=>f (.pure (.val (.bool b)))
 |.neq=>.mk λk a b f=>Bool.rec (f (.pure (.val (.bool true)))) (f (.pure (.val (.bool false)))) (Jq a b)
 |.lss=>.mk λk a b f=>Kh (Kt a b) λb=>f (.pure (.val (.bool b)))
 |.leq=>.mk λk a b f=>Bool.rec (f (.pure (.val (.bool true)))) (f (.pure (.val (.bool false)))) (Kt b a)
 |.gtr=>.mk λk a b f=>Kh (Kt b a) λb=>f (.pure (.val (.bool b)))
 |.geq=>.mk λk a b f=>Bool.rec (f (.pure (.val (.bool true)))) (f (.pure (.val (.bool false)))) (Kt a b)
 |op=>.mk λk a b f=>qfl op k a b f
theorem qiE(b:Bool)(f:XR→R):(Bool.rec (f (.pure (.val (.bool true)))) (f (.pure (.val (.bool false)))) b:R)=Qw (!b) f:=by
 rw[jI];cases b<;>rfl
theorem qlf(op:BinOp)(k:IntKind)(a b:Int)(f:XR→R):(qiD op).get k a b f=qfl op k a b f:=by
 cases op<;>first
  |rfl
  |exact qlc _ _ _ _
  |exact qld _ _ _ _
  |exact qle _ _ _ _
  |exact qiE _ _
def qiF(l:List SV):Nat→(SV→R)→R→R:=List.rec (λ_ _ d=>d) (λa _ ih i=>Nat.rec (λf _=>f a) (λj _=>ih j) i) l
theorem qdD:∀(l:List SV)(i:Nat)(f:SV→R)(d:R),qiF l i f d=(match l[i]? with|some s=>f s|none=>d)
 |[],i,f,d=>by cases i<;>rfl
 |a :: l,0,f,d=>rfl
 |a :: l,i+1,f,d=>by
  rw[xd7,←qdD l i f d];rfl
def qdE(l:List SV):Nat→(List SV→R)→R:=List.rec (λi g=>Nat.rec (g []) (λ_ _=>.bad 65 0) i) (λa _ ih i=>Nat.rec (λg=>g []) (λj _ g=>ih j λm=>g (a :: m)) i) l
def qdF(l:List SV):Nat→Nat→(List SV→R)→R:=List.rec (λo sz g=>Nat.rec (Nat.rec (g []) (λ_ _=>.bad 65 0) sz) (λ_ _=>.bad 65 0) o) (λa tl ih o=>Nat.rec (λsz g=>qdE (a :: tl) sz g) (λj _ sz g=>ih j sz g) o) l
theorem YX:∀(l:List SV)(n:Nat)(g:List SV→R),qdE l n g=ql 65 (Nat.ble n l.length) (g (l.take n))
 |[],0,g=>rfl
 |[],n+1,g=>rfl
 |a :: l,0,g=>rfl
 |a :: l,n+1,g=>by
  show qdE l n (λm=>g (a :: m))=_;rw[YX l n];rfl
theorem YY:∀(l:List SV)(o n:Nat)(g:List SV→R),qdF l o n g=ql 65 (Nat.ble (o+n) l.length) (g ((l.drop o).take n))
 |[],0,0,g=>rfl
 |[],0,n+1,g=>by rw[xb0];rfl
 |[],o+1,n,g=>by rw[show o+1+n=(o+n)+1 by omega];rfl
 |a :: l,0,n,g=>by
  show qdE (a :: l) n g=_;rw[YX,xb0];rfl
 |a :: l,o+1,n,g=>by
  show qdF l o n g=_;rw[YY l o n,show o+1+n=(o+n)+1 by omega];rfl
def qiG(l:List SV):Nat→SV→(List SV→R)→R:=List.rec (λ_ _ _=>.bad 78 0) (λa tl ih o=>Nat.rec (λs g=>g (s :: tl)) (λj _ s g=>ih j s λm=>g (a :: m)) o) l
theorem Wj:∀(l:List SV)(o:Nat)(s:SV)(g:List SV→R),qiG l o s g=YA s l o g
 |[],o,s,g=>by unfold YA;cases o<;>rfl
 |a :: l,0,s,g=>by unfold YA;rw[qT];rfl
 |a :: l,o+1,s,g=>by
  show qiG l o s (λm=>g (a :: m))=_;rw[Wj l o s];unfold YA;rw[qT,qT];rfl
def ldC(b:Option XB)(off:Nat)(f:XR→R):R:=Option.rec (motive:=λ_=>Nat→(XR→R)→R) (λ_ _=>.bad 69 0) (λb=>XB.rec (motive:=λ_=>Nat→(XR→R)→R) (λ_ l off f=>qiF l off (λs=>f (.pure s)) (.bad 64 0)) (λ_ _ _ _ _ _=>.bad 69 0) (λ_ _ _=>.bad 69 0) (λ_ _ _ _ _=>.bad 69 0) b) b off f
def ldR(b:Option XB)(k i j:Nat)(f:XR→R):R:=Option.rec (motive:=λ_=>Nat→Nat→Nat→(XR→R)→R) (λ_ _ _ _=>.bad 70 0) (λb=>XB.rec (motive:=λ_=>Nat→Nat→Nat→(XR→R)→R) (λ_ _ _ _ _ _=>.bad 70 0) (λ_ k' n l k i j f=>Qe k k' n i j 1 λo=>qiF l o (λs=>f (.pure s)) (.bad 64 0)) (λ_ _ _ _ _=>.bad 70 0) (λ_ _ _ _ _ _ _=>.bad 70 0) b) b k i j f
def qml(a:SV):Tr 6 XB→(XR→R)→R:=SV.rec (motive_1:=λ_=>Tr 6 XB→(XR→R)→R) (motive_2:=λ_=>PUnit) (λ hp f=>.bad 72 0) (λ_ hp f=>.bad 72 0) (λ_ _ hp f=>.bad 72 0) (λ_ _ hp f=>.bad 72 0) (λ_ _ _ _ _ hp f=>.bad 72 0) (λid off hp f=>ldC (hp.find id) off f) (λid k i j hp f=>ldR (hp.find id) k i j f) (λo n row ih hp f=>ZQ hp (.ref o n row) f) (λ_ _ _ _ _ _ hp f=>.bad 72 0) (λ_ _ _ hp f=>.bad 72 0) (λ_ hp f=>.bad 72 0) (λ_ _ _ _ hp f=>.bad 72 0) (λ_ _ _ _ hp f=>.bad 72 0) (λ_ _ _ hp f=>.bad 72 0) (λ_ _ _ _ _ hp f=>.bad 72 0) (λ_ hp f=>.bad 72 0) PUnit.unit (λ_ _ _ _=>PUnit.unit) a
theorem G3(l:List SV)(o:Nat)(f:XR→R):qiF l o (λs=>f (.pure s)) (.bad 64 0)=yf l o f:=by rw[qdD];rfl
theorem qiH(a:SV)(hp:Tr 6 XB)(f:XR→R):qml a hp f=ZQ hp a f:=by
 cases a<;>first|rfl|skip
 case ptr id off=>
  show ldC (hp.find id) off f=_;unfold ZQ ldC;dsimp only;cases hp.find id with
  |none=>rfl
  |some b=>cases b<;>first|rfl|exact G3 _ _ _
 case elt id k i j=>
  show ldR (hp.find id) k i j f=_;unfold ZQ ldR;dsimp only;cases hp.find id with
  |none=>rfl
  |some b=>
   cases b<;>first|rfl|skip
   rename_i t k' n l;show Qe k k' n i j 1 (λo=>qiF l o (λs=>f (.pure s)) (.bad 64 0))=_
   congr 1
   funext o;exact G3 _ _ _
theorem YZ(l:List SV)(o n:Nat)(f:XR→R):qdF l o n (λl=>f (.pure (.agg l)))=yg l o n f:=by
 rw[YY];unfold yg;rw[qT]
def qni(b:Option XB)(off sz:Nat)(f:XR→R):R:=Option.rec (motive:=λ_=>Nat→Nat→(XR→R)→R) (λ_ _ _=>.bad 73 0) (λb=>XB.rec (motive:=λ_=>Nat→Nat→(XR→R)→R) (λ_ l off sz f=>qdF l off sz (λl=>f (.pure (.agg l)))) (λ_ _ _ _ _ _ _=>.bad 73 0) (λ_ _ _ _=>.bad 73 0) (λ_ _ _ _ _ _=>.bad 73 0) b) b off sz f
def qmm(a:SV):Nat→Tr 6 XB→(XR→R)→R:=SV.rec (motive_1:=λ_=>Nat→Tr 6 XB→(XR→R)→R) (motive_2:=λ_=>PUnit) (λ sz hp f=>.bad 76 0) (λ_ sz hp f=>.bad 76 0) (λ_ _ sz hp f=>.bad 76 0) (λ_ _ sz hp f=>.bad 76 0) (λ_ _ _ _ _ sz hp f=>.bad 76 0) (λid off sz hp f=>qni (hp.find id) off sz f) (λid k i j sz hp f=>ZR hp sz (.elt id k i j) f) (λo n row ih sz hp f=>ZR hp sz (.ref o n row) f) (λ_ _ _ _ _ _ sz hp f=>.bad 76 0) (λ_ _ _ sz hp f=>.bad 76 0) (λ_ sz hp f=>.bad 76 0) (λ_ _ _ _ sz hp f=>.bad 76 0) (λ_ _ _ _ sz hp f=>.bad 76 0) (λ_ _ _ sz hp f=>.bad 76 0) (λ_ _ _ _ _ sz hp f=>.bad 76 0) (λ_ sz hp f=>.bad 76 0) PUnit.unit (λ_ _ _ _=>PUnit.unit) a
theorem qiI(a:SV)(sz:Nat)(hp:Tr 6 XB)(f:XR→R):qmm a sz hp f=ZR hp sz a f:=by
 cases a<;>first|rfl|skip
 case ptr id off=>
  show qni (hp.find id) off sz f=_;unfold ZR qni;dsimp only;cases hp.find id with
  |none=>rfl
  |some b=>cases b<;>first|rfl|exact YZ _ _ _ _
abbrev OpR:=Tr 3 SV→Tr 6 XB→Nat→(XR→R)→R
def Jv(x:Operand):Bx (Tr 3 SV→SV):=Operand.rec (λt=>qm t λt=>Bx.rec (λq=>.mk λfr=>Option.rec .top (λs=>s) (q fr)) (yV SV 3 t)) (λv=>.mk λ_=>.val v) (λ_=>.mk λ_=>.top) (λf=>.mk λ_=>.fn (.func f) [] []) x
theorem KL(x:Operand)(fr:Tr 3 SV):(Jv x).get fr=zb fr x:=by
 cases x<;>first|rfl|skip
 rename_i t;have e:Jv (.tmp t)=qm t λt=>Bx.rec (λq=>.mk λfr=>Option.rec .top (λs=>s) (q fr)) (yV SV 3 t):=rfl;rw[e,qg];show(Option.rec .top (λs=>s) ((yV SV 3 t).get fr):SV)=qx fr t;unfold qx;rw[KD]
def qdG(l:List Operand):Bx (Tr 3 SV→List SV):=List.rec (.mk λ_=>[]) (λx _ ih=>Bx.rec (λa=>Bx.rec (λm=>.mk λfr=>a fr :: m fr) ih) (Jv x)) l
theorem Y0(fr:Tr 3 SV):∀l,(qdG l).get fr=wD fr l
 |[]=>rfl
 |x :: l=>by
  show(Jv x).get fr ::(qdG l).get fr=_;rw[KL,Y0];rfl
def eB(x:Operand)(k:(Tr 3 SV→SV)→Bx OpR):Bx OpR:=Bx.rec k (Jv x)
theorem zH(x:Operand)(k:(Tr 3 SV→SV)→Bx OpR):eB x k=k (λfr=>zb fr x):=by
 show k (Jv x).get=_;congr 1;funext fr;exact KL x fr
def qmn(E:XE)(t:TypeId)(x:Operand):Bx OpR:=
 match E.tys t with
 |some ⟨false,_,_,_⟩=>eB x λa=>.mk λfr hp _ f=>qml (a fr) hp f
 |some ⟨true,sz,_,_⟩=>eB x λa=>.mk λfr hp _ f=>qmm (a fr) sz hp f
 |none=>.mk λ_ _ _ _=>.bad 77 0
def stC(b:Option XB)(id off:Nat)(v:SV)(f:XR→R):R:=Option.rec (motive:=λ_=>Nat→Nat→SV→(XR→R)→R) (λ_ _ _ _=>.bad 80 0) (λb=>XB.rec (motive:=λ_=>Nat→Nat→SV→(XR→R)→R) (λt l id off v f=>qiG l off v λl=>f (.upd id (.cells t l) undefSV)) (λ_ _ _ _ _ _ _ _=>.bad 80 0) (λ_ _ _ _ _=>.bad 80 0) (λ_ _ _ _ _ _ _=>.bad 80 0) b) b id off v f
def stR(b:Option XB)(id k i j:Nat)(v:SV)(f:XR→R):R:=Option.rec (motive:=λ_=>Nat→Nat→Nat→Nat→SV→(XR→R)→R) (λ_ _ _ _ _ _=>.bad 81 0) (λb=>XB.rec (motive:=λ_=>Nat→Nat→Nat→Nat→SV→(XR→R)→R) (λ_ _ _ _ _ _ _ _=>.bad 81 0) (λt k' n l id k i j v f=>Qe k k' n i j 1 λo=>qiG l o v λl=>f (.upd id (.rows t k' n l) undefSV)) (λ_ _ _ _ _ _ _=>.bad 81 0) (λ_ _ _ _ _ _ _ _ _=>.bad 81 0) b) b id k i j v f
def qbN(a:SV):Tr 6 XB→SV→(XR→R)→R:=SV.rec (motive_1:=λ_=>Tr 6 XB→SV→(XR→R)→R) (motive_2:=λ_=>PUnit) (λ hp v f=>.bad 82 0) (λ_ hp v f=>.bad 82 0) (λ_ _ hp v f=>.bad 82 0) (λ_ _ hp v f=>.bad 82 0) (λ_ _ _ _ _ hp v f=>.bad 82 0) (λid off hp v f=>stC (hp.find id) id off v f) (λid k i j hp v f=>stR (hp.find id) id k i j v f) (λ_ _ _ _ hp v f=>.bad 82 0) (λ_ _ _ _ _ _ hp v f=>.bad 82 0) (λ_ _ _ hp v f=>.bad 82 0) (λ_ hp v f=>.bad 82 0) (λ_ _ _ _ hp v f=>.bad 82 0) (λ_ _ _ _ hp v f=>.bad 82 0) (λ_ _ _ hp v f=>.bad 82 0) (λ_ _ _ _ _ hp v f=>.bad 82 0) (λ_ hp v f=>.bad 82 0) PUnit.unit (λ_ _ _ _=>PUnit.unit) a
theorem qfE(a:SV)(hp:Tr 6 XB)(v:SV)(f:XR→R):qbN a hp v f=Zc hp a v f:=by
 cases a<;>first|rfl|skip
 case ptr id off=>
  show stC (hp.find id) id off v f=_;unfold Zc stC;dsimp only;cases hp.find id with
  |none=>rfl
  |some b=>cases b<;>first|rfl|exact Wj _ _ _ _
 case elt id k i j=>
  show stR (hp.find id) id k i j v f=_;unfold Zc stR;dsimp only;cases hp.find id with
  |none=>rfl
  |some b=>
   cases b<;>first|rfl|skip
   rename_i t k' n l;show Qe k k' n i j 1 (λo=>qiG l o v λl=>f (.upd id (.rows t k' n l) undefSV))=_
   congr 1
   funext o;exact Wj _ _ _ _
def qiJ(E:XE)(t:TypeId)(a x:Operand):Bx OpR:=
 match E.tys t with
 |some ⟨false,sz,_,_⟩=>eB a λa=>eB x λx=>.mk λfr hp _ f=>ql 86 (oneCell (x fr)) (ql 87 (Nat.beq sz 1) (qbN (a fr) hp (x fr) f))
 |_=>eB a λa=>eB x λx=>.mk λfr hp _ f=>GJ E hp t (a fr) (x fr) f
def qlg(x y:SV)(h:IntKind→Int→Int→R)(sl:R):R:=qdC x (λk a=>qdC y (λk' b=>Bool.rec (.bad 40 0) (h k a b) (qnf k k')) sl) sl
theorem Y1{s:SV}{f:IntKind→Int→R}{d:R}(h:∀k n,s≠.val (.int k n)):qdC s f d=d:=by
 cases s<;>first|rfl|skip
 rename_i v;cases v<;>first|rfl|skip
 exact absurd rfl (h _ _)
theorem qiK(s:SV):(∃k n,s=.val (.int k n))∨∀k n,s≠.val (.int k n):=by
 by_cases h:∃k n,s=.val (.int k n)
 ·exact .inl h
 ·exact .inr λk n e=>h ⟨k,n,e⟩
theorem qlh(E:XE)(op:BinOp)(t:TypeId)(x y:SV)(f:XR→R):qlg x y (λk a b=>(qiD op).get k a b f) (qbs E op t x y f)=qbs E op t x y f:=by
 unfold qlg;rcases qiK x with⟨k,a,rfl⟩|hx
 ·rcases qiK y with⟨k',b,rfl⟩|hy
  ·show(Bool.rec (.bad 40 0) ((qiD op).get k a b f) (qnf k k'):R)=ql 40 (eqKind k k') (qfl op k a b f)
   rw[qlb,qlf];rfl
  ·show qdC y _ _=_
   exact Y1 hy
 ·exact Y1 hx
def qoH(E:XE)(op:BinOp)(t:TypeId)(x y:Operand):Bx OpR:=Bx.rec (λh=>eB x λa=>eB y λb=>.mk λfr _ _ f=>qlg (a fr) (b fr) (λk m n=>h k m n f) (qbs E op t (a fr) (b fr) f)) (qiD op)
def qoI(x:SV):Nat→(XR→R)→R:=SV.rec (motive_1:=λ_=>Nat→(XR→R)→R) (motive_2:=λ_=>PUnit) (λ o f=>.bad 102 0) (λ_ o f=>.bad 102 0) (λ_ _ o f=>.bad 102 0) (λ_ _ o f=>.bad 102 0) (λ_ _ _ _ _ o f=>.bad 102 0) (λid off o f=>qm (Nat.add off o) λn=>f (.pure (.ptr id n))) (λid k i j o f=>Zd (.elt id k i j) o f) (λb n row ih o f=>Zd (.ref b n row) o f) (λ_ _ _ _ _ _ o f=>.bad 102 0) (λ_ _ _ o f=>.bad 102 0) (λ_ o f=>.bad 102 0) (λ_ _ _ _ o f=>.bad 102 0) (λ_ _ _ _ o f=>.bad 102 0) (λ_ _ _ o f=>.bad 102 0) (λ_ _ _ _ _ o f=>.bad 102 0) (λ_ o f=>.bad 102 0) PUnit.unit (λ_ _ _ _=>PUnit.unit) x
theorem qli(x:SV)(o:Nat)(f:XR→R):qoI x o f=Zd x o f:=by
 cases x<;>rfl
def qbO(E:XE)(t:TypeId)(x:Operand)(i:Nat):Bx OpR:=
 match E.tys t with
 |some ⟨_,_,_,.struct fs⟩=>(match fs[i]? with
  |some (o,s,_)=>(match Nat.ble 1 s with
   |true=>eB x λa=>qm o λo=>.mk λfr _ _ f=>qoI (a fr) o f
   |false=>.mk λ_ _ _ _=>.bad 103 0)
  |none=>.mk λ_ _ _ _=>.bad 104 0)
 |_=>.mk λ_ _ _ _=>.bad 105 0
def qoJ(x:SV):(XR→R)→R:=SV.rec (motive_1:=λ_=>(XR→R)→R) (motive_2:=λ_=>PUnit) (λ f=>.bad 100 0) (λ_ f=>.bad 100 0) (λ_ _ f=>.bad 100 0) (λ_ _ f=>.bad 100 0) (λg a b iha ihb f=>qhM (.fn g a b) f) (λid off f=>f (.pure (.ptr id off))) (λid k i j f=>f (.pure (.elt id k i j))) (λo n row ih f=>f (.pure (.ref o n row))) (λ_ _ _ _ _ _ f=>.bad 100 0) (λ_ _ _ f=>.bad 100 0) (λ_ f=>.bad 100 0) (λ_ _ _ _ f=>.bad 100 0) (λ_ _ _ _ f=>.bad 100 0) (λ_ _ _ f=>.bad 100 0) (λ_ _ _ _ _ f=>.bad 100 0) (λ_ f=>.bad 100 0) PUnit.unit (λ_ _ _ _=>PUnit.unit) x
theorem qlj(x:SV)(f:XR→R):qoJ x f=qhM x f:=by cases x<;>rfl
def qiL(E:XE)(c:Call):Bx OpR:=
 match c.callee with
 |.value (.func g)=>Bx.rec (λm=>.mk λfr _ _ f=>gI (m fr) λl=>f (.call g l)) (qdG c.args.toList)
 |.builtin .len=>(match c.args.toList,c.argTypes.toList with
  |[x],[t]=>(match E.tys t with
   |some ⟨_,_,_,.slice _ _⟩=>eB x λa=>.mk λfr _ _ f=>qhN (a fr) f
   |some ⟨_,_,_,.array n _ _⟩=>.mk λ_ _ _ f=>f (.pure (.val (.int .i64 (.ofNat n))))
   |_=>.mk λfr hp id f=>vH E fr hp c id f)
  |_,_=>.mk λfr hp id f=>vH E fr hp c id f)
 |.builtin .append=>(match c.args.toList,c.argTypes.toList with
  |[s,x],[t,t']=>(match Nat.beq t t' with
   |true=>eB s λa=>eB x λb=>.mk λfr hp id f=>Zg E hp t (a fr) (b fr) id f
   |false=>.mk λ_ _ _ _=>.bad 231 0)
  |_,_=>.mk λfr hp id f=>vH E fr hp c id f)
 |_=>.mk λfr hp id f=>vH E fr hp c id f
def cOp(E:XE)(op:Op):Bx OpR:=
 match op with
 |.move x=>eB x λa=>.mk λfr _ _ f=>f (.pure (a fr))
 |.assign x=>eB x λa=>.mk λfr _ _ f=>f (.pure (a fr))
 |.pick c a b=>eB c λc=>eB a λa=>eB b λb=>.mk λfr _ _ f=>qcR (c fr) (a fr) (b fr) f
 |.alloc t=>.mk λ_ _ id f=>VR E t id f
 |.box t x=>eB x λa=>.mk λfr _ id f=>qkD E t (a fr) id f
 |.load t x=>qmn E t x
 |.store t a x=>qiJ E t a x
 |.nilCheck x=>eB x λa=>.mk λfr _ _ f=>qoJ (a fr) f
 |.binOp op t x y _=>qoH E op t x y
 |.unOp op _ x=>eB x λa=>.mk λfr _ _ f=>xUn op (a fr) f
 |.convert s t x=>eB x λa=>.mk λfr _ _ f=>qcQ E s t (a fr) f
 |.fieldAddr t x i=>qbO E t x i
 |.field t x i=>eB x λa=>.mk λfr _ _ f=>VS E t (a fr) i f
 |.indexAddr t x i=>eB x λa=>eB i λb=>.mk λfr _ _ f=>wr E t (a fr) (b fr) f
 |.extract x i=>eB x λa=>.mk λfr _ _ f=>Ze (a fr) i f
 |.call c=>qiL E c
 |.index t x i=>eB x λa=>eB i λb=>.mk λfr _ _ f=>VT E t (a fr) (b fr) f
 |.makeMap t rs=>.mk λ_ _ id f=>Zi E t rs.isSome id f
 |.lookup t x k ok=>eB x λa=>eB k λb=>.mk λfr hp _ f=>KH E hp t (a fr) (b fr) ok f
 |op=>.mk λfr hp id f=>xOp E fr hp id op f
theorem qfF(E:XE)(t:TypeId)(x:Operand)(i:Nat)(fr:Tr 3 SV)(hp:Tr 6 XB)(id:Nat)(f:XR→R):(qbO E t x i).get fr hp id f=j7 E t (zb fr x) i f:=by
 unfold qbO j7;cases E.tys t with
 |none=>rfl
 |some ti=>
  obtain⟨a,b,c,d⟩:=ti;cases d<;>first|rfl|skip
  rename_i fs;dsimp only;cases fs[i]? with
  |none=>rfl
  |some y=>
   obtain⟨o,s,ag⟩:=y;dsimp only;cases Nat.ble 1 s with
   |false=>rfl
   |true=>
    dsimp only;rw[zH,qg];exact qli _ _ _
theorem qiM(E:XE)(c:Call)(fr:Tr 3 SV)(hp:Tr 6 XB)(id:Nat)(f:XR→R):(qiL E c).get fr hp id f=vH E fr hp c id f:=by
 unfold qiL;split
 ·rename_i g hc
  show gI ((qdG c.args.toList).get fr) (λl=>f (.call g l))=_;rw[qT,Y0];unfold vH;rw[hc];show _=yW ([]++(wD fr c.args.toList++[])) λl=>f (.call g l);rw[kd,List.nil_append,xd3]
 ·rename_i hc
  split
  ·rename_i x t ha ht
   have e:vH E fr hp c id f=qfq E t (zb fr x) f:=by
    unfold vH;rw[hc];show Zj E hp .len c.argTypes.toList (wD fr c.args.toList) id f=_;rw[ha,ht];rfl
   split
   ·rename_i hT
    rw[zH,e];unfold qfq;rw[hT];rfl
   ·rename_i hT
    rw[e];unfold qfq;rw[hT];rfl
   ·rfl
  ·rfl
 ·rename_i hc
  split
  ·rename_i s x t t' ha ht
   have e:vH E fr hp c id f=ql 231 (Nat.beq t t') (Zg E hp t (zb fr s) (zb fr x) id f):=by
    unfold vH;rw[hc];show Zj E hp .append c.argTypes.toList (wD fr c.args.toList) id f=_;rw[ha,ht];rfl
   rw[e];cases Nat.beq t t' with
   |true=>dsimp only;rw[zH,zH];rfl
   |false=>rfl
  ·rfl
 ·rfl
theorem qbP(E:XE)(op:Op)(fr:Tr 3 SV)(hp:Tr 6 XB)(id:Nat)(f:XR→R):(cOp E op).get fr hp id f=xOp E fr hp id op f:=by
 cases op<;>first|rfl|(unfold cOp xOp;dsimp only)
 case move x=>rw[zH,kX];rfl
 case assign x=>rw[zH,kX];rfl
 case pick=>rw[zH,zH,zH];rfl
 case box=>rw[zH];rfl
 case load t x=>
  unfold qmn Yy;cases E.tys t with
  |none=>rfl
  |some ti=>
   obtain⟨a,b,c,d⟩:=ti;cases a
   ·dsimp only;rw[zH];exact qiH _ _ _
   ·dsimp only;rw[zH];exact qiI _ _ _ _
 case store t a x=>
  unfold qiJ;split
  ·rename_i hT
   rw[zH,zH];unfold GJ;rw[hT];show ql 86 _ (ql 87 _ (qbN (zb fr a) hp (zb fr x) f))=_;rw[qfE]
  ·rw[zH,zH];rfl
 case nilCheck=>rw[zH];exact qlj _ _
 case binOp op t x y t'=>
  unfold qoH;show(eB x λa=>eB y λb=>.mk λfr _ _ f=>qlg (a fr) (b fr) (λk m n=>(qiD op).get k m n f) (qbs E op t (a fr) (b fr) f)).get fr hp id f=_;rw[zH,zH];exact qlh E op t _ _ f
 case unOp=>rw[zH];rfl
 case convert=>rw[zH];rfl
 case fieldAddr t x i=>exact qfF _ _ _ _ _ _ _ _
 case field=>rw[zH];rfl
 case indexAddr=>rw[zH,zH];rfl
 case extract=>rw[zH];rfl
 case call c=>exact qiM _ _ _ _ _ _
 case index=>rw[zH,zH];rfl
 case lookup=>rw[zH,zH];rfl
abbrev GK:=Tr 3 SV→Tr 6 XB→Nat→R
abbrev qpw:=XC→CX→Nat→XR→Tr 3 SV→Tr 6 XB→Nat→GK→R
def qfG(E:XE)(j:Bool)(d:Option Tmp):Bx qpw:=
 match d with
 |none=>.mk λrun cx id xr fr hp nid g=>XR.rec (motive:=λ_=>XC→CX→Nat→Tr 3 SV→Tr 6 XB→Nat→GK→R) (λ_ _ _ _ fr hp nid g=>g fr hp nid) (λb _ _ _ id fr hp nid g=>qY (some b) 22 hp id λhp=>g fr hp nid)
  (λi b s run cx id fr hp nid g=>Option.rec (.bad 304 0) (λ_=>qY (some b) 22 hp i λhp=>g fr hp nid) (hp.find i)) (λi b s run cx id fr hp nid g=>Zo E run cx j none id (.grow i b s) fr hp nid g) (λh l run cx id fr hp nid g=>Zo E run cx j none id (.call h l) fr hp nid g) (λh l run cx id fr hp nid g=>Zo E run cx j none id (.yield h l) fr hp nid g) xr run cx id fr hp nid g
 |some d=>qm d λd=>Bx.rec (λp=>.mk λrun cx id xr fr hp nid g=>XR.rec (motive:=λ_=>XC→CX→Nat→Tr 3 SV→Tr 6 XB→Nat→GK→R) (λs _ _ _ fr hp nid g=>p fr (some s) λfr=>g fr hp nid) (λb s _ _ id fr hp nid g=>qY (some b) 22 hp id λhp=>p fr (some s) λfr=>g fr hp nid)
  (λi b s run cx id fr hp nid g=>Option.rec (.bad 304 0) (λ_=>qY (some b) 22 hp i λhp=>p fr (some s) λfr=>g fr hp nid) (hp.find i)) (λi b s run cx id fr hp nid g=>Zo E run cx j (some d) id (.grow i b s) fr hp nid g) (λh l run cx id fr hp nid g=>Zo E run cx j (some d) id (.call h l) fr hp nid g) (λh l run cx id fr hp nid g=>Zo E run cx j (some d) id (.yield h l) fr hp nid g) xr run cx id fr hp nid g) (Qt SV 3 d)
theorem qlk(E:XE)(j:Bool)(d:Option Tmp)(run:XC)(cx:CX)(id:Nat)(xr:XR)(fr:Tr 3 SV)(hp:Tr 6 XB)(nid:Nat)(g:GK):(qfG E j d).get run cx id xr fr hp nid g=Zo E run cx j d id xr fr hp nid g:=by
 cases d with
 |none=>
  cases xr<;>first|rfl|skip
  rename_i i b s;show(Option.rec (.bad 304 0) (λ_=>qY (some b) 22 hp i λhp=>g fr hp nid) (hp.find i):R)=_;unfold Zo;dsimp only;cases hp.find i<;>rfl
 |some d=>
  unfold qfG;dsimp only;rw[qg];have e:∀(s:SV)(fr:Tr 3 SV)(k:Tr 3 SV→R),(Qt SV 3 d).get fr (some s) k=putD (some d) s fr k:=λs fr k=>by
   show _=qY (some s) 12 fr d k;rw[VO]
  cases xr<;>first|rfl|exact e _ _ _|skip
  ·rename_i b s
   show qY (some b) 22 hp id (λhp=>(Qt SV 3 d).get fr (some s) λfr=>g fr hp nid)=_;unfold Zo;dsimp only
   congr 1
   funext hp;exact e _ _ _
  ·rename_i i b s
   show(Option.rec (.bad 304 0) (λ_=>qY (some b) 22 hp i λhp=>(Qt SV 3 d).get fr (some s) λfr=>g fr hp nid) (hp.find i):R)=_;unfold Zo;dsimp only;cases hp.find i with
   |none=>rfl
   |some y=>
    show qY (some b) 22 hp i (λhp=>(Qt SV 3 d).get fr (some s) λfr=>g fr hp nid)=qY (some b) 22 hp i (λhp=>putD (some d) s fr λfr=>g fr hp nid)
    congr 1
    funext hp;exact e _ _ _
abbrev qiN:=XC→CX→Tr 3 SV→Tr 6 XB→Nat→GK→R
def cGo(E:XE)(j:Bool)(o:Oper)(i:Nat)(k:(XC→CX→Tr 3 SV→Tr 6 XB→Nat→GK→R)→Bx qiN):Bx qiN:=
 Bx.rec (λq=>Bx.rec (λr=>(match gJ o.op with
  |true=>k λrun cx fr hp nid g=>qm (Nat.add nid i) λid=>q fr hp id λxr=>r run cx id xr fr hp nid g
  |false=>k λrun cx fr hp nid g=>q fr hp (Nat.add nid i) λxr=>r run cx (Nat.add nid i) xr fr hp nid g)) (qfG E j o.dst)) (cOp E o.op)
def ZW(E:XE)(j:Bool)(ds:List (Option Tmp))(l:List Oper):Nat→Bx qiN:=
 List.rec (motive:=λ_=>Nat→Bx qiN) (λ_=>.mk λ_ _ fr hp nid g=>g fr hp nid) (λo _ ih i=>qm (Nat.succ i) λi1=>Bx.rec (λrest=>cGo E j o i λgo=>(match o.guard with
  |none=>.mk λrun cx fr hp nid g=>go run cx fr hp nid λfr hp nid=>rest run cx fr hp nid g
  |some p=>.mk λrun cx fr hp nid g=>ym ds (some p) o.dst fr hp nid (go run cx fr hp nid λfr hp nid=>rest run cx fr hp nid g) (λfr hp nid=>rest run cx fr hp nid g))) (ih i1)) l
theorem qnj(E:XE)(j:Bool)(o:Oper)(i:Nat)(k:(XC→CX→Tr 3 SV→Tr 6 XB→Nat→GK→R)→Bx qiN):cGo E j o i k=k λrun cx fr hp nid g=>xGo E run cx j o fr hp nid i g:=by
 show(match gJ o.op with
  |true=>k λrun cx fr hp nid g=>qm (Nat.add nid i) λid=>(cOp E o.op).get fr hp id λxr=>(qfG E j o.dst).get run cx id xr fr hp nid g
  |false=>k λrun cx fr hp nid g=>(cOp E o.op).get fr hp (Nat.add nid i) λxr=>(qfG E j o.dst).get run cx (Nat.add nid i) xr fr hp nid g)=_
 have e:∀run cx fr hp nid g id,(cOp E o.op).get fr hp id (λxr=>(qfG E j o.dst).get run cx id xr fr hp nid g)=xOp E fr hp id o.op λxr=>Zo E run cx j o.dst id xr fr hp nid g:=λrun cx fr hp nid g id=>by
  rw[qbP]
  congr 1
  funext xr;exact qlk _ _ _ _ _ _ _ _ _ _ _
 cases gJ o.op with
 |true=>
  dsimp only
  congr 1
  funext run cx fr hp nid g;rw[qg,e];unfold xGo;rw[qg];rfl
 |false=>
  dsimp only
  congr 1
  funext run cx fr hp nid g;rw[e];unfold xGo;rw[qg];rfl
theorem qdH(E:XE)(j:Bool)(ds:List (Option Tmp))(run:XC)(cx:CX):∀(l:List Oper)(i:Nat)(fr:Tr 3 SV)(hp:Tr 6 XB)(nid:Nat)(g:GK),(ZW E j ds l i).get run cx fr hp nid g=Zp E run cx j ds l i fr hp nid g
 |[],i,fr,hp,nid,g=>rfl
 |o :: l,i,fr,hp,nid,g=>by
  have ih:=qdH E j ds run cx l (Nat.succ i);show Bx.get (qm (Nat.succ i) λi1=>Bx.rec (λrest=>cGo E j o i λgo=>(match o.guard with
   |none=>.mk λrun cx fr hp nid g=>go run cx fr hp nid λfr hp nid=>rest run cx fr hp nid g
   |some p=>.mk λrun cx fr hp nid g=>ym ds (some p) o.dst fr hp nid (go run cx fr hp nid λfr hp nid=>rest run cx fr hp nid g) (λfr hp nid=>rest run cx fr hp nid g))) (ZW E j ds l i1)) run cx fr hp nid g=ym ds o.guard o.dst fr hp nid (xGo E run cx j o fr hp nid i λfr hp nid=>qm (Nat.succ i) λi=>Zp E run cx j ds l i fr hp nid g) (λfr hp nid=>qm (Nat.succ i) λi=>Zp E run cx j ds l i fr hp nid g)
  rw[qg];show(cGo E j o i λgo=>(match o.guard with
   |none=>.mk λrun cx fr hp nid g=>go run cx fr hp nid λfr hp nid=>(ZW E j ds l (Nat.succ i)).get run cx fr hp nid g
   |some p=>.mk λrun cx fr hp nid g=>ym ds (some p) o.dst fr hp nid (go run cx fr hp nid λfr hp nid=>(ZW E j ds l (Nat.succ i)).get run cx fr hp nid g) (λfr hp nid=>(ZW E j ds l (Nat.succ i)).get run cx fr hp nid g))).get run cx fr hp nid g=_
  rw[qnj];have e:(λfr hp nid=>(ZW E j ds l (Nat.succ i)).get run cx fr hp nid g)=λfr hp nid=>qm (Nat.succ i) λi=>Zp E run cx j ds l i fr hp nid g:=by
   funext fr hp nid;rw[qg,ih]
  cases o.guard with
  |none=>
   show xGo E run cx j o fr hp nid i (λfr hp nid=>(ZW E j ds l (Nat.succ i)).get run cx fr hp nid g)=_;rw[e];rfl
  |some p=>
   show ym ds (some p) o.dst fr hp nid (xGo E run cx j o fr hp nid i (λfr hp nid=>(ZW E j ds l (Nat.succ i)).get run cx fr hp nid g)) (λfr hp nid=>(ZW E j ds l (Nat.succ i)).get run cx fr hp nid g)=_;rw[e]
abbrev ChR:=XC→Tr 3 SV→Tr 6 XB→Nat→List (Tr 6 XB)→CK→R
def okK(r:R)(g:SV→Tr 6 XB→Nat→R):R:=R.rec (λq=>Q.rec (λs hp nid=>g s hp nid) q) (λc i=>.bad c i) r
theorem qiO(E:XE)(run:XC)(id:Nat)(o:Oper)(fr:Tr 3 SV)(hp:Tr 6 XB)(g:SV→Tr 6 XB→Nat→R):okK ((cOp E o.op).get fr hp id λxr=>YU E run id xr hp okQ) g=Ki E run id o fr hp g:=by
 rw[qbP];unfold okK Ki;cases (xOp E fr hp id o.op λxr=>YU E run id xr hp okQ)with
 |ok q=>cases q;rfl
 |bad c i=>rfl
def qiP(xr:XR):R:=XR.rec (λs=>.ok (.mk s .nil 0)) (λ_ _=>.bad 382 0) (λ_ _ _=>.bad 382 0) (λ_ _ _=>.bad 382 0) (λ_ _=>.bad 382 0) (λ_ _=>.bad 382 0) xr
theorem qiQ:qiP=qdw:=by funext xr;cases xr<;>rfl
def cPu(E:XE)(op:Op):Bx (Tr 3 SV→Tr 6 XB→R):=
 match YV E op with
 |some x=>Bx.rec (λq=>.mk λfr hp=>GW (q fr) hp) (Jv x)
 |none=>Bx.rec (λq=>.mk λfr hp=>q fr hp 0 qiP) (cOp E op)
theorem qnk(E:XE)(op:Op)(fr:Tr 3 SV)(hp:Tr 6 XB):(cPu E op).get fr hp=GX E fr hp op:=by
 unfold cPu GX;cases YV E op with
 |some x=>
  show GW ((Jv x).get fr) hp=GW (zb fr x) hp;rw[KL]
 |none=>
  show(cOp E op).get fr hp 0 qiP=xOp E fr hp 0 op qdw;rw[qbP,qiQ]
theorem J6(E:XE)(o:Oper)(fr:Tr 3 SV)(hp:Tr 6 XB)(g:SV→R):okK ((cPu E o.op).get fr hp) (λs _ _=>g s)=gM E o fr hp g:=by
 rw[qnk];unfold okK gM;cases GX E fr hp o.op with
 |ok q=>cases q;rfl
 |bad c i=>rfl
def Jw(d:Option Tmp):Bx (Tr 3 SV→SV→(Tr 3 SV→R)→R):=
 match d with
 |none=>.mk λfr _ g=>g fr
 |some d=>qm d λd=>Bx.rec (λp=>.mk λfr s g=>p fr (some s) g) (Qt SV 3 d)
theorem qll(d:Option Tmp)(fr:Tr 3 SV)(s:SV)(g:Tr 3 SV→R):(Jw d).get fr s g=putD d s fr g:=by
 cases d with
 |none=>rfl
 |some d=>
  unfold Jw;dsimp only;rw[qg];show(Qt SV 3 d).get fr (some s) g=qY (some s) 12 fr d g;rw[VO]
def qbQ(E:XE)(n:Nat)(o:Oper)(rest:ChR):Bx ChR:=
 Bx.rec (λu=>Bx.rec (λq=>Bx.rec (λp=>(match gJ o.op with
  |true=>.mk λrun fr hp nid hs g=>qm (Nat.add nid n) λid=>okK (q fr hp id λxr=>YU E run id xr hp okQ) λs hp' nid'=>qm (Nat.succ nid') λnid'=>p fr s λfr=>rest run fr hp' nid' (hs++[hp']) g
  |false=>(match GR o.op with
   |true=>.mk λrun fr hp nid hs g=>okK (u fr (Ju (zG fr o.op) hp)) λs _ _=>p fr s λfr=>rest run fr hp nid hs g
   |false=>.mk λrun fr hp nid hs g=>okK (u fr .nil) λs _ _=>p fr s λfr=>rest run fr hp nid hs g))) (Jw o.dst)) (cOp E o.op)) (cPu E o.op)
def cCh(E:XE)(n:Nat)(ds:List (Option Tmp))(l:List Oper):Bx ChR:=
 List.rec (.mk λ_ fr hp nid hs g=>g fr hp nid hs) (λo _ ih=>Bx.rec (λrest=>Bx.rec (λgo=>(match o.guard with
  |none=>.mk go
  |some p=>.mk λrun fr hp nid hs g=>Option.rec (.bad 386 0) (λsk=>Bool.rec (go run fr hp nid hs g) (putD o.dst undefSV fr λfr=>Bool.rec (rest run fr hp nid hs g) (qm (Nat.add nid n) λnid=>rest run fr hp nid (hs++[hp]) g) (gJ o.op)) sk) (gdX ds (some p) fr))) (qbQ E n o rest)) ih) l
theorem qlm(E:XE)(n:Nat)(o:Oper)(rest:ChR)(run:XC)(fr:Tr 3 SV)(hp:Tr 6 XB)(nid:Nat)(hs:List (Tr 6 XB))(g:CK):(qbQ E n o rest).get run fr hp nid hs g=(Bool.rec (gM E o fr (Ju (zG fr o.op) hp) λs=>putD o.dst s fr λfr=>rest run fr hp nid hs g)
        (qm (nid+n) λid=>Ki E run id o fr hp λs hp' nid'=>qm (Nat.succ nid') λnid'=>putD o.dst s fr λfr=>rest run fr hp' nid' (hs++[hp']) g) (gJ o.op):R):=by
 have e1:∀(s:SV)(k:Tr 3 SV→R),(Jw o.dst).get fr s k=putD o.dst s fr k:=λs k=>qll _ _ _ _;show Bx.get (match gJ o.op with
  |true=>.mk λrun fr hp nid hs g=>qm (Nat.add nid n) λid=>okK ((cOp E o.op).get fr hp id λxr=>YU E run id xr hp okQ) λs hp' nid'=>qm (Nat.succ nid') λnid'=>(Jw o.dst).get fr s λfr=>rest run fr hp' nid' (hs++[hp']) g
  |false=>(match GR o.op with
   |true=>.mk λrun fr hp nid hs g=>okK ((cPu E o.op).get fr (Ju (zG fr o.op) hp)) λs _ _=>(Jw o.dst).get fr s λfr=>rest run fr hp nid hs g
   |false=>.mk λrun fr hp nid hs g=>okK ((cPu E o.op).get fr .nil) λs _ _=>(Jw o.dst).get fr s λfr=>rest run fr hp nid hs g)) run fr hp nid hs g=_
 cases gJ o.op with
 |true=>
  show qm (Nat.add nid n) (λid=>okK ((cOp E o.op).get fr hp id λxr=>YU E run id xr hp okQ) λs hp' nid'=>qm (Nat.succ nid') λnid'=>(Jw o.dst).get fr s λfr=>rest run fr hp' nid' (hs++[hp']) g)=qm (nid+n) _;rw[qg,qg,qiO]
  congr 1
  funext s hp' nid';rw[qg,qg,e1]
 |false=>
  cases hr:GR o.op with
  |true=>
   show okK ((cPu E o.op).get fr (Ju (zG fr o.op) hp)) (λs _ _=>(Jw o.dst).get fr s λfr=>rest run fr hp nid hs g)=_;rw[J6];show gM _ _ _ _ _=gM _ _ _ _ _
   congr 1
   funext s;exact e1 _ _
  |false=>
   show okK ((cPu E o.op).get fr .nil) (λs _ _=>(Jw o.dst).get fr s λfr=>rest run fr hp nid hs g)=_;rw[J6];have:Ju (zG fr o.op) hp=.nil:=by unfold zG;rw[hr];rfl
   show gM _ _ _ _ _=gM _ _ _ _ _;rw[this]
   congr 1
   funext s;exact e1 _ _
theorem qiR(E:XE)(n:Nat)(ds:List (Option Tmp))(run:XC):∀(l:List Oper)(fr:Tr 3 SV)(hp:Tr 6 XB)(nid:Nat)(hs:List (Tr 6 XB))(g:CK),(cCh E n ds l).get run fr hp nid hs g=gO E run n ds l fr hp nid hs g
 |[],fr,hp,nid,hs,g=>rfl
 |o :: l,fr,hp,nid,hs,g=>by
  have ih:=qiR E n ds run l;have ihf:(cCh E n ds l).get run=gO E run n ds l:=by funext fr hp nid hs g;exact ih fr hp nid hs g
  have go:=qlm E n o (cCh E n ds l).get run;show Bx.get (match o.guard with
   |none=>.mk (qbQ E n o (cCh E n ds l).get).get
   |some p=>.mk λrun fr hp nid hs g=>Option.rec (.bad 386 0) (λsk=>Bool.rec ((qbQ E n o (cCh E n ds l).get).get run fr hp nid hs g) (putD o.dst undefSV fr λfr=>Bool.rec ((cCh E n ds l).get run fr hp nid hs g) (qm (Nat.add nid n) λnid=>(cCh E n ds l).get run fr hp nid (hs++[hp]) g) (gJ o.op)) sk) (gdX ds (some p) fr)) run fr hp nid hs g=(match gdX ds o.guard fr with
   |some false=>Bool.rec (gM E o fr (Ju (zG fr o.op) hp) λs=>putD o.dst s fr λfr=>gO E run n ds l fr hp nid hs g)
    (qm (nid+n) λid=>Ki E run id o fr hp λs hp' nid'=>qm (Nat.succ nid') λnid'=>putD o.dst s fr λfr=>gO E run n ds l fr hp' nid' (hs++[hp']) g) (gJ o.op)
   |some true=>putD o.dst undefSV fr λfr=>Bool.rec (gO E run n ds l fr hp nid hs g) (qm (nid+n) λnid=>gO E run n ds l fr hp nid (hs++[hp]) g) (gJ o.op)
   |none=>.bad 386 0)
  cases hg:o.guard with
  |none=>
   show(qbQ E n o (cCh E n ds l).get).get run fr hp nid hs g=_;rw[go,ihf];rfl
  |some p=>
   show(Option.rec (.bad 386 0) (λsk=>Bool.rec ((qbQ E n o (cCh E n ds l).get).get run fr hp nid hs g) (putD o.dst undefSV fr λfr=>Bool.rec ((cCh E n ds l).get run fr hp nid hs g) (qm (Nat.add nid n) λnid=>(cCh E n ds l).get run fr hp nid (hs++[hp]) g) (gJ o.op)) sk) (gdX ds (some p) fr):R)=_;cases gdX ds (some p) fr with
   |none=>rfl
   |some sk=>
    cases sk with
    |false=>
     show(qbQ E n o (cCh E n ds l).get).get run fr hp nid hs g=_;rw[go,ihf]
    |true=>
     rw[ihf];rfl
def cCk(l:List Oper)(E:XE)(ops:List Oper):Nat→Bx (Tr 3 SV→List (Tr 6 XB)→R→R):=
 List.rec (motive:=λ_=>Nat→Bx (Tr 3 SV→List (Tr 6 XB)→R→R)) (λ_=>.mk λ_ _ r=>r) (λo _ ih i=>qm (Nat.succ i) λi1=>Bx.rec (λrest=>(match GR o.op with
  |true=>qm (loC l i) λlo=>qm (hiC l i) λhi=>qm (kc (efL l) i) λtx=>(match Nat.beq lo tx&&Nat.beq hi tx with
   |true=>.mk rest
   |false=>.mk λfr hs r=>Bool.rec (rest fr hs r) (QE E fr o lo hi tx (rest fr hs r) hs 0) (zG fr o.op&&Kv (dsts l) o fr))
  |false=>.mk rest)) (ih i1)) ops
theorem J7(E:XE)(fr:Tr 3 SV)(o:Oper)(t:Nat)(r:R):∀(hs:List (Tr 6 XB))(k:Nat),QE E fr o t t t r hs k=r
 |[],k=>rfl
 |hp :: hs,k=>by
  show(Bool.rec (qm (Nat.succ k) λk=>QE E fr o t t t r hs k) (Wc E fr o hp (qm (Nat.succ k) λk=>QE E fr o t t t r hs k)) (Nat.ble t k&&(Nat.ble k t&&!(Nat.beq k t))):R)=r;have:(Nat.ble t k&&(Nat.ble k t&&!(Nat.beq k t)))=false:=by
   cases h1:Nat.ble t k with
   |false=>rfl
   |true=>
    cases h2:Nat.ble k t with
    |false=>rfl
    |true=>
     have:=xa7 h1;have:=xa7 h2;have:k=t:=by omega
     rw[this,Nat.beq_refl];rfl
  rw[this];show(qm (Nat.succ k) λk=>QE E fr o t t t r hs k)=r;rw[qg];exact J7 E fr o t r hs _
theorem qiS(E:XE)(l:List Oper)(fr:Tr 3 SV)(hs:List (Tr 6 XB))(r:R):∀(ops:List Oper)(i:Nat),(cCk l E ops i).get fr hs r=GY E l fr hs r ops i
 |[],i=>rfl
 |o :: ops,i=>by
  have ih:=qiS E l fr hs r ops (Nat.succ i);show Bx.get (qm (Nat.succ i) λi1=>Bx.rec (λrest=>(match GR o.op with
   |true=>qm (loC l i) λlo=>qm (hiC l i) λhi=>qm (kc (efL l) i) λtx=>(match Nat.beq lo tx&&Nat.beq hi tx with
    |true=>.mk rest
    |false=>.mk λfr hs r=>Bool.rec (rest fr hs r) (QE E fr o lo hi tx (rest fr hs r) hs 0) (zG fr o.op&&Kv (dsts l) o fr))
   |false=>.mk rest)) (cCk l E ops i1)) fr hs r=(Bool.rec (qm (Nat.succ i) λi=>GY E l fr hs r ops i) (qm (loC l i) λlo=>qm (hiC l i) λhi=>qm (kc (efL l) i) λtx=>QE E fr o lo hi tx (qm (Nat.succ i) λi=>GY E l fr hs r ops i) hs 0) (zG fr o.op&&Kv (dsts l) o fr):R)
  rw[qg];have e:(qm (Nat.succ i) λi=>GY E l fr hs r ops i)=(cCk l E ops (Nat.succ i)).get fr hs r:=by rw[qg,ih]
  rw[e];cases hr:GR o.op with
  |false=>
   have:(zG fr o.op&&Kv (dsts l) o fr)=false:=by unfold zG;rw[hr];rfl
   rw[this]
  |true=>
   show Bx.get (qm (loC l i) λlo=>qm (hiC l i) λhi=>qm (kc (efL l) i) λtx=>(match Nat.beq lo tx&&Nat.beq hi tx with
    |true=>.mk (cCk l E ops (Nat.succ i)).get
    |false=>.mk λfr hs r=>Bool.rec ((cCk l E ops (Nat.succ i)).get fr hs r) (QE E fr o lo hi tx ((cCk l E ops (Nat.succ i)).get fr hs r) hs 0) (zG fr o.op&&Kv (dsts l) o fr))) fr hs r=_
   rw[qg,qg,qg,qg,qg,qg];cases h:(Nat.beq (loC l i) (kc (efL l) i)&&Nat.beq (hiC l i) (kc (efL l) i))with
   |false=>rfl
   |true=>
    rw[xe6]at h;rw[xa6 h.1,xa6 h.2,J7];cases (zG fr o.op&&Kv (dsts l) o fr)<;>rfl
abbrev qiT:=XC→CX→Tr 3 SV→Tr 6 XB→Nat→XK→R
def qnl(E:XE)(L:FL)(id:Nat)(d:Bool)(ops:List Oper):Bx qiT:=
 match zO L id with
 |[]=>Kh (kM d ops) λj=>Bx.rec (λq=>qm ops.length λn=>.mk λrun cx fr hp nid f=>q run cx fr hp nid λfr hp nid=>qm (Nat.add nid n) λnid=>f .normal fr hp nid) (ZW E j (dsts ops) ops 0)
 |(2,2) :: _=>(match d,V4 ops with
  |true,true=>qm ops.length λn=>Bx.rec (λq=>Bx.rec (λck=>.mk λrun cx fr hp nid f=>q run fr hp nid [hp] λfr hp nid hs=>ck fr hs (qm (Nat.add nid n) λnid=>f .normal fr hp nid)) (cCk ops E ops 0)) (cCh E n (dsts ops) ops)
  |_,_=>.mk λrun cx fr hp nid f=>qbM E run L cx id d ops fr hp nid f)
 |_=>.mk λrun cx fr hp nid f=>qbM E run L cx id d ops fr hp nid f
theorem qln(E:XE)(L:FL)(id:Nat)(d:Bool)(ops:List Oper)(run:XC)(cx:CX)(fr:Tr 3 SV)(hp:Tr 6 XB)(nid:Nat)(f:XK):(qnl E L id d ops).get run cx fr hp nid f=qbM E run L cx id d ops fr hp nid f:=by
 unfold qnl;split
 ·rename_i h
  unfold qbM;rw[h,Q5];have e:(Bx.rec (λq=>qm ops.length λn=>.mk λrun cx fr hp nid f=>q run cx fr hp nid λfr hp nid=>qm (Nat.add nid n) λnid=>f .normal fr hp nid) (ZW E (kM d ops) (dsts ops) ops 0):Bx qiT)=.mk λrun cx fr hp nid f=>(ZW E (kM d ops) (dsts ops) ops 0).get run cx fr hp nid λfr hp nid=>qm (Nat.add nid ops.length) λnid=>f .normal fr hp nid:=by
   show(qm ops.length λn=>_)=_;rw[qg];rfl
  rw[e];show(ZW E (kM d ops) (dsts ops) ops 0).get run cx fr hp nid (λfr hp nid=>qm (Nat.add nid ops.length) λnid=>f .normal fr hp nid)=Zp E run cx (kM d ops) (dsts ops) ops 0 fr hp nid (G1 ops f);rw[qdH];rfl
 ·rename_i l h
  split
  ·rename_i hd hch
   unfold qbM;rw[h];show _=ql 361 true (qkV E run ops fr hp nid f);unfold qkV;rw[hch];show _=qm ops.length λn=>gO E run n (dsts ops) ops fr hp nid [hp] λfr hp nid hs=>GY E ops fr hs (qm (nid+n) λnid=>f .normal fr hp nid) ops 0;rw[qg,qg];show(cCh E ops.length (dsts ops) ops).get run fr hp nid [hp] (λfr hp nid hs=>(cCk ops E ops 0).get fr hs (qm (Nat.add nid ops.length) λnid=>f .normal fr hp nid))=_;rw[qiR]
   congr 1
   funext fr hp nid hs;exact qiS _ _ _ _ _ _ _
  ·rfl
 ·rfl
def qiU(run:XC)(L:FL)(cx:CX)(b:Code)(f:XK)(e:Ex)(fr:Tr 3 SV)(hp:Tr 6 XB)(nid:Nat):R:=Ex.rec (run L cx b fr hp nid f) (λi=>f (.exit i) fr hp nid) (f .ret fr hp nid) e
theorem qdI(run:XC)(L:FL)(cx:CX)(b:Code)(f:XK):qiU run L cx b f=qfC run L cx b f:=by
 funext e fr hp nid;cases e<;>rfl
def qbR(id:Nat)(f:XK)(e:Ex)(fr:Tr 3 SV)(hp:Tr 6 XB)(nid:Nat):R:=Ex.rec (f .normal fr hp nid) (λi=>Bool.rec (f (.exit i) fr hp nid) (f .normal fr hp nid) (Nat.beq i id)) (f .ret fr hp nid) e
theorem qfH(id:Nat)(f:XK):qbR id f=qix id f:=by
 funext e fr hp nid;cases e<;>rfl
def qiV(v:SV)(a b:R):R:=qne v (λc=>Bool.rec b a c) (.bad 320 0)
theorem qiW(v:SV)(a b:R):qiV v a b=qiy v a b:=by
 cases v<;>first|rfl|skip
 rename_i v;cases v<;>rfl
def qiX(E:XE)(L:FL)(c:Code):Bx qiT:=
 match c with
 |.skip=>.mk λ_ _ fr hp nid f=>f .normal fr hp nid
 |.seq a b=>.mk λrun cx fr hp nid f=>run L cx a fr hp nid (qiU run L cx b f)
 |.cond x a b=>Bx.rec (λq=>.mk λrun cx fr hp nid f=>qiV (q fr) (run L cx a fr hp nid f) (run L cx b fr hp nid f)) (Jv x)
 |.block id c=>.mk λrun cx fr hp nid f=>run L cx c fr hp nid (qbR id f)
 |.exit id=>.mk λ_ _ fr hp nid f=>f (.exit id) fr hp nid
 |.ret=>.mk λ_ _ fr hp nid f=>f .ret fr hp nid
 |.scope c=>.mk λrun cx fr hp nid f=>run L cx c fr hp nid f
 |.loop c=>.mk λrun cx fr hp nid f=>run L cx c fr hp nid (qiU run L cx (.loop c) f)
 |.region id ops d=>qnl E L id d ops.toList
 |c=>.mk λrun cx fr hp nid f=>J5 E run L cx c fr hp nid f
theorem qiY(E:XE)(run:XC)(L:FL)(cx:CX)(c:Code)(fr:Tr 3 SV)(hp:Tr 6 XB)(nid:Nat)(f:XK):(qiX E L c).get run cx fr hp nid f=J5 E run L cx c fr hp nid f:=by
 cases c<;>first|rfl|(unfold qiX J5;dsimp only)
 case seq a b=>show run L cx a fr hp nid (qiU run L cx b f)=_;rw[qdI]
 case cond x a b=>
  show qiV ((Jv x).get fr) _ _=_;rw[qiW,KL]
 case block id c=>show run L cx c fr hp nid (qbR id f)=_;rw[qfH]
 case loop c=>show run L cx c fr hp nid (qiU run L cx (.loop c) f)=_;rw[qdI]
 case region id ops d=>exact qln _ _ _ _ _ _ _ _ _ _ _
end
end Go.Sx
end
