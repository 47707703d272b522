/- A part of the proof. -/
import Derived.ProofKit
import Derived.OpenShut
import Derived.Deep.Slices
import Derived.WideKeyArgs
import Derived.Lib.AppendZerosOnto
import Derived.Test.YtacejomniokahaaGreatProg
import Derived.Test.YtacejomniokahaaGreatPB
open Nat renaming le_refl→xa5,mul_le_mul_right→xa8,lt_of_lt_of_le→xa9,zero_add→xb0,add_zero→xb1,add_assoc→xb2,zero_testBit→xb3,lt_succ_self→xb5,zero_le→xb6,le_trans→xc1,le_succ→xc4
open List renaming getD_eq_getElem?_getD→xc6,getElem?_eq_getElem→xc7,length_append→xc8,getElem?_append_left→xc9,getElem?_append_right→xd0,append_nil→xd3,mem_cons_self→xd5,getElem?_cons_zero→xd6,getElem?_cons_succ→xd7,length_take→xd9,getElem?_toArray→xe2,getElem?_range→xe3,length_cons→xe4
open Bool renaming and_eq_true→xe6,false_eq_true→xe7,or_false→xf3,false_or→xf4
open Array renaming getD_eq_getD_getElem?→xf5,getElem?_toList→xf6
open Classical renaming byContradiction→xf9
open Option renaming getD_some→xg0,map_some→xg1
open Go.Sx.SV renaming val→Ψ
open Go.Value renaming int→Φ
open Go.IntKind renaming i64→Γ
set_option linter.unusedVariables false
set_option linter.unusedSimpArgs false
set_option linter.defProp false
set_option maxRecDepth 1000000
set_option maxHeartbeats 16000000
section
namespace Go.Sx
open Go.RowKit
variable{st:St}{args:List SV}{K K':St→SV→Prop}
section
variable(hp:List (Nat×Blk))(m:Nat→Option Nat)(nn:Nat)(sl:Nat→Bool)
mutual
def Wk:SV→SV→Prop
 |.top,_=>True
 |.val v,s=>s=.val v
 |.agg l,s=>match s with|.agg k=>WkL l k|_=>False
 |.tup l,s=>match s with|.tup k=>WkL l k|_=>False
 |.fn f a b,s=>match s with|.fn f' a' b'=>f=f'∧WkL a a'∧WkL b b'|_=>False
 |.ptr id off,s=>match s with|.ptr id2 off2=>id<nn∧m id=some id2∧off=off2|_=>False
 |.elt id k i j,s=>match s with|.elt id2 k2 i2 j2=>id<nn∧m id=some id2∧k=k2∧i=i2∧j=j2|_=>False
 |.ref o n row,s=>match s with
  |.ref o' n' row'=>(o=true→o'=true)∧n≤n'∧∀j,j<n→Wk (row j) (row' j)
  |.ptr id off=>sl id=true∧match blk hp id with
   |some (.cells _ l)=>∀j,j<n→Wk (row j) (l.getD (off+j) .top)∧off+j<l.length
   |_=>False
  |_=>False
 |.arr o full n k row,s=>match s with
  |.arr o' full' n' k' row'=>(o=true→o'=true)∧(full=true→full'=true)∧n=n'∧k=k'∧∀i j,i<n→j<k→Wk (row i j) (row' i j)
  |.vec id n' k'=>sl id=true∧full=false∧n=n'∧k=k'∧match blk hp id with
   |some (.rows _ k'' mm row')=>n≤mm∧k=k''∧∀i j,i<n→j<k→Wk (row i j) (row' i j)
   |_=>False
  |.val u=>nilSlice u=true∧n=0
  |_=>False
 |.vec id n k,s=>match s with
  |.vec id2 n2 k2=>id<nn∧m id=some id2∧n=n2∧k=k2
  |.val u=>nilSlice u=true∧id<nn∧m id=none∧n=0
  |_=>False
 |.mp id,s=>match s with|.mp id2=>id<nn∧m id=some id2|_=>False
 |.asl id off n k,s=>match s with|.asl id2 off2 n2 k2=>id<nn∧m id=some id2∧off=off2∧n=n2∧k=k2|_=>False
 |.que id off n k,s=>match s with
  |.que id2 off2 n2 k2=>id<nn∧m id=some id2∧off=off2∧n=n2∧k=k2
  |.vec id2 n2 k2=>id<nn∧m id=some id2∧off=0∧n=n2∧k=k2
  |_=>False
 |.cut id n k,s=>match s with|.cut id2 n2 k2=>id<nn∧m id=some id2∧n=n2∧k=k2|_=>False
 |.cmp o fit dom get,s=>match s with
  |.cmp o' fit' dom' get'=>(o=true→o'=true)∧fit=fit'∧dom=dom'∧∀key,dom key=true→Wk (get key) (get' key)
  |.mp id=>sl id=true∧match blk hp id with
   |some (.map fit' dom' get')=>fit=fit'∧dom=dom'∧∀key,dom key=true→Wk (get key) (get' key)
   |some (.mapS fit' dom' get' _ _)=>fit=fit'∧dom=dom'∧∀key,dom key=true→Wk (get key) (get' key)
   |_=>False
  |_=>False
 |.yld id,s=>match s with|.yld id2=>id<nn∧m id=some id2|_=>False
def WkL:List SV→List SV→Prop
 |[],k=>k=[]
 |a :: l,k=>match k with|b :: k=>Wk a b∧WkL l k|[]=>False
end
def WkB:Blk→Blk→Prop
 |.cells t l,.cells t2 l2=>t=t2∧WkL hp m nn sl l l2
 |.rows t k n row,.rows t2 k2 n2 row2=>t=t2∧k=k2∧n≤n2∧∀i j,i<n→j<k→Wk hp m nn sl (row i j) (row2 i j)
 |.map fit dom get,.map fit2 dom2 get2=>fit=fit2∧dom=dom2∧∀key,dom key=true→Wk hp m nn sl (get key) (get2 key)
 |.map fit dom get,.mapS fit2 dom2 get2 _ _=>fit=fit2∧dom=dom2∧∀key,dom key=true→Wk hp m nn sl (get key) (get2 key)
 |.mapS fit dom get st c,.mapS fit2 dom2 get2 st2 c2=>fit=fit2∧dom=dom2∧st=st2∧c=c2∧∀key,dom key=true→Wk hp m nn sl (get key) (get2 key)
 |.iter a s l c,.iter a2 s2 l2 c2=>a<nn∧m a=some a2∧s=s2∧l=l2∧c=c2
 |.loop L s,.loop L2 s2=>L=L2∧s=s2
 |_,_=>False
def WkF(fr:List (Nat×SV)):List (Nat×SV)→Prop
 |[]=>True
 |(i,s) :: l=>Wk hp m nn sl s (look fr i)∧WkF fr l
def WkH:List (Nat×Blk)→Prop
 |[]=>True
 |(id,b) :: l=>id<nn∧(match m id with
   |some id2=>sl id2=false∧(match blk hp id2 with|some b2=>WkB hp m nn sl b b2|none=>False)
   |none=>(match b with|.rows _ _ n _=>n=0|_=>False))∧WkH l
end
def injOn(m:Nat→Option Nat):List (Nat×Blk)→Bool
 |[]=>true
 |(id,_) :: l=>(match m id with|none=>true|some x=>l.all λp=>decide (m p.1≠some x))&&injOn m l
theorem wk{hp:List (Nat×Blk)}{m:Nat→Option Nat}{nn:Nat}{sl:Nat→Bool}:∀{l k:List SV},WkL hp m nn sl l k→l.length=k.length∧∀(i:Nat)(a:SV),l[i]? = some a→∃b,k[i]? = some b∧Wk hp m nn sl a b
 |[],k,h=>by simp only[WkL]at h;subst h;exact⟨rfl,λi a h=>by simp at h⟩
 |a :: l,[],h=>by simp[WkL]at h
 |a :: l,b :: k,h=>by
  simp only[WkL]at h;obtain⟨h1,h2⟩:=wk h.2;refine⟨by simp[h1],λi x hx=>?_⟩;cases i with
  |zero=>simp at hx;subst hx;exact⟨b,Ωg,h.1⟩
  |succ i=>exact h2 i x Ω0
section
variable{hp:List (Nat×Blk)}{m:Nat→Option Nat}{nn:Nat}{sl:Nat→Bool}{r:Nat→Option Nat}{N:Nat→Prop}{G G':Bool→Nat→Prop}{w:World}
mutual
theorem wm(hG:∀o o' b,(o=true→o'=true)→G o' b→G' o b)(hB:∀id x,blk hp id=some x→N id→BlkRep r N G w (r id) x)(hs:∀id x b o,sl id=true→blk hp id=some x→N id→r id=some b→G' o b) :
  ∀(p s:SV)(v:Value),Wk hp m nn sl p s→Rep r N G w s v→Rep (λid=>(m id).bind r) (· < nn) G' w p v
 |.top,s,v,_,_=>.top v
 |.val u,s,v,h,hv=>by
  simp only[Wk]at h;subst h;cases hv;exact .val u
 |.agg l,s,v,h,hv=>by
  cases s<;>simp only[Wk]at h
  cases hv with
  |agg k cs hl hr=>exact .agg _ _ ((wk h).1.trans hl) λi a ha=>wk_repL hG hB hs l _ h i a ha _ (λb hb=>hr i b hb)
 |.tup l,s,v,h,hv=>by
  cases s<;>simp only[Wk]at h
  cases hv with
  |tup k cs hl hr=>exact .tup _ _ ((wk h).1.trans hl) λi a ha=>wk_repL hG hB hs l _ h i a ha _ (λb hb=>hr i b hb)
 |.fn f a b,s,v,h,hv=>by
  cases s<;>simp only[Wk]at h
  obtain⟨rfl,h1,h2⟩:=h;cases hv with
  |fn _ l k cs ds hl hk hr hr'=>
   exact .fn _ _ _ _ _ ((wk h1).1.trans hl) ((wk h2).1.trans hk) (λi x hx=>wk_repL hG hB hs a _ h1 i x hx _ (λb hb=>hr i b hb)) (λi x hx=>wk_repL hG hB hs b _ h2 i x hx _ (λb hb=>hr' i b hb))
 |.ptr id off,s,v,h,hv=>by
  cases s<;>simp only[Wk]at h
  obtain⟨h1,h2,rfl⟩:=h;cases hv with
  |ptr _ _ b hN hr=>exact .ptr _ _ _ h1 ΩV
 |.elt id k i j,s,v,h,hv=>by
  cases s<;>simp only[Wk]at h
  obtain⟨h1,h2,rfl,rfl,rfl⟩:=h;cases hv with
  |elt _ _ _ _ b hN hr=>exact .elt _ _ _ _ _ h1 ΩV
 |.ref o n row,s,v,h,hv=>by
  cases s<;>simp only[Wk]at h
  case ref o' n' row'=>
   obtain⟨ho,hn,hrow⟩:=h;cases hv with
   |ref _ _ _ b off f hg hc hr=>exact .ref _ _ _ _ _ f (hG _ _ _ ho hg) (λj hj=>hc j Ω) λj hj=>wm hG hB hs (row j) _ _ (hrow j hj) (hr j Ω)
  case ptr id off=>
   obtain⟨hsl,h⟩:=h;split at h
   ·rename_i t l hb
    cases hv with
    |ptr _ _ b hN hr=>
     have h1:=hB _ _ hb hN;rw[hr]at h1;cases h1 with
     |cells _ _ _ cs hb' hl hrep=>
      refine .ref _ _ _ _ _ (λj=>cs.getD (off+j) undef) (hs _ _ _ _ hsl hb hN hr) (λj hj=>zH hb' _ (by have:=(h j hj).2;omega)) λj hj=>?_;obtain⟨h3,h4⟩:=h j hj;refine wm hG hB hs (row j) _ _ h3 (hrep _ _ ?_);simp[h4]
   ·exact h.elim
 |.arr o full n k row,s,v,h,hv=>by
  cases s<;>simp only[Wk]at h
  case arr o' full' n' k' row'=>
   obtain⟨ho,hf,rfl,rfl,hrow⟩:=h;cases hv with
   |arrNil _ _ _ _ a cap hfc=>exact .arrNil _ _ _ _ _ _ λe=>hfc (hf e)
   |arr _ _ _ _ _ b off cap f hg hfc hcap hc hr=>
    exact .arr _ _ _ _ _ _ _ _ f (hG _ _ _ ho hg) (λe=>hfc (hf e)) hcap hc λi j hi hj=>wm hG hB hs (row i j) _ _ (hrow i j hi hj) (hr i j hi hj)
  case vec id n' k'=>
   obtain⟨hsl,rfl,rfl,rfl,h⟩:=h;split at h
   ·rename_i t k'' mm row' hb
    obtain⟨hnm,rfl,hrow⟩:=h;cases hv with
    |vecNil _ _ hN hr=>exact .arrNil _ _ _ _ _ _ Ωg
    |vec _ _ _ b cap cs t' hN hr hb' hcs hcap hmx=>
     have h1:=hB _ _ hb hN;rw[hr]at h1;cases h1 with
     |rows _ _ _ _ _ cs' hb'' hl hrep=>
      refine .arr _ _ _ _ _ _ _ _ (λi j=>cs'.getD (i*k+j) undef) (hs _ _ _ _ hsl hb hN hr) Ωg hcap (λi j hi hj=>?_) λi j hi hj=>wm hG hB hs (row i j) _ _ (hrow i j hi hj) (hrep i j Ω hj);have hik:i*k+k≤mm*k:=by rw[←Nat.succ_mul];exact xa8 _ Ω
      rw[xb0];exact zH hb'' _ Ω
   ·exact h.elim
  case val u=>
   obtain⟨h1,rfl⟩:=h;obtain rfl:=gj h1;cases hv;exact .arrNil _ _ _ _ _ _ (λ_=>rfl)
 |.vec id n k,s,v,h,hv=>by
  cases s<;>simp only[Wk]at h
  case vec id2 n2 k2=>
   obtain⟨h1,h2,rfl,rfl⟩:=h;cases hv with
   |vecNil _ _ hN hr=>exact .vecNil _ _ h1 ΩV
   |vec _ _ _ b cap cs t hN hr hb hcs hcap hmx=>exact .vec _ _ _ b cap cs t h1 ΩV hb hcs hcap hmx
  case val u=>
   obtain⟨h1,h2,h3,rfl⟩:=h;obtain rfl:=gj h1;cases hv;exact .vecNil _ _ h2 (by rw[h3];rfl)
 |.mp id,s,v,h,hv=>by
  cases s<;>simp only[Wk]at h
  cases hv with
  |mp _ b hN hr=>exact .mp _ _ h.1 (by rw[h.2];exact hr)
 |.asl id off n k,s,v,h,hv=>by
  cases s<;>simp only[Wk]at h
  obtain⟨h1,h2,rfl,rfl,rfl⟩:=h;cases hv with
  |asl _ _ _ _ b cap hN hr hcap=>exact .asl _ _ _ _ _ _ h1 ΩV hcap
 |.que id off n k,s,v,h,hv=>by
  cases s<;>simp only[Wk]at h
  case que id2 off2 n2 k2=>
   obtain⟨h1,h2,rfl,rfl,rfl⟩:=h;cases hv with
   |queNil _ _ _ a hN=>exact .queNil _ _ _ _ h1
   |que _ _ _ _ b cap cs t hN hr hb hcs hcap hmx=>exact .que _ _ _ _ b cap cs t h1 ΩV hb hcs hcap hmx
  case vec id2 n2 k2=>
   obtain⟨h1,h2,rfl,rfl,rfl⟩:=h;cases hv with
   |vecNil _ _ hN hr=>exact .queNil _ _ _ _ h1
   |vec _ _ _ b cap cs t hN hr hb hcs hcap hmx=>
    rw[show(⟨b,0,none⟩:Addr)=⟨b,0*k,none⟩ by rw[Nat.zero_mul]];exact .que _ _ _ _ b cap cs t h1 ΩV hb (by rw[xb0];exact hcs) hcap (by rw[xb0];exact hmx)
 |.cut id n k,s,v,h,hv=>by
  cases s<;>simp only[Wk]at h
  obtain⟨h1,h2,rfl,rfl⟩:=h;cases hv with
  |cutNil _ _ hN hr=>exact .cutNil _ _ h1 ΩV
  |cut _ _ _ b hN hr=>exact .cut _ _ _ b h1 ΩV
 |.yld id,s,v,h,hv=>by
  cases s<;>simp only[Wk]at h
  obtain⟨h1,h2⟩:=h;cases hv with
  |yld _ b hN hr=>exact .yld _ _ h1 ΩV
 |.cmp o fit dom get,s,v,h,hv=>by
  cases s<;>simp only[Wk]at h
  case cmp o' fit' dom' get'=>
   obtain⟨ho,rfl,rfl,hrow⟩:=h;cases hv with
   |cmp _ _ _ _ b es clock hg hb hm hr=>exact .cmp _ _ _ _ b es clock (hG _ _ _ ho hg) hb hm λe he=>wm hG hB hs (get e.key) _ _ (hrow _ (hm.doms e he)) (hr e he)
  case mp id=>
   obtain⟨hsl,h⟩:=h;split at h
   ·rename_i fit' dom' get' hb
    obtain⟨rfl,rfl,hrow⟩:=h;cases hv with
    |mp _ b hN hr=>
     have h1:=hB _ _ hb hN;rw[hr]at h1;cases h1 with
     |map _ _ _ _ es clock hb' hm ht hrep=>exact .cmp _ _ _ _ b es clock (hs _ _ _ _ hsl hb hN hr) hb' hm λe he=>wm hG hB hs (get e.key) _ _ (hrow _ (hm.doms e he)) (hrep e he)
   ·rename_i fit' dom' get' st' c' hb
    obtain⟨rfl,rfl,hrow⟩:=h;cases hv with
    |mp _ b hN hr=>
     have h1:=hB _ _ hb hN;rw[hr]at h1;cases h1 with
     |mapS _ _ _ _ _ es _ hb' hm ht hst hrep=>exact .cmp _ _ _ _ b es _ (hs _ _ _ _ hsl hb hN hr) hb' hm λe he=>wm hG hB hs (get e.key) _ _ (hrow _ (hm.doms e he)) (hrep e he)
   ·exact h.elim
theorem wk_repL(hG:∀o o' b,(o=true→o'=true)→G o' b→G' o b)(hB:∀id x,blk hp id=some x→N id→BlkRep r N G w (r id) x)(hs:∀id x b o,sl id=true→blk hp id=some x→N id→r id=some b→G' o b) :
  ∀(l k:List SV),WkL hp m nn sl l k→∀(i:Nat)(a:SV),l[i]? = some a→∀(v:Value),(∀b,k[i]? = some b→Rep r N G w b v)→Rep (λid=>(m id).bind r) (· < nn) G' w a v
 |[],k,h,i,a,ha,v,hv=>by simp at ha
 |p :: l,k,h,i,a,ha,v,hv=>by
  cases k with
  |nil=>simp[WkL]at h
  |cons b k=>
   simp only[WkL]at h;cases i with
   |zero=>
    simp at ha;subst ha;exact wm hG hB hs p b v h.1 (hv b Ωg)
   |succ i=>exact wk_repL hG hB hs l k h.2 i a (by simpa using ha) v (λc hc=>hv c (by simpa using hc))
end
theorem qdh{fr:List (Nat×SV)}:∀{l:List (Nat×SV)},WkF hp m nn sl fr l→∀i,Wk hp m nn sl (look l i) (look fr i)
 |[],_,i=>by simp[look,Wk]
 |(j,s) :: l,h,i=>by
  simp only[WkF]at h;simp only[look];split
  ·rename_i e;subst e;exact h.1
  ·exact qdh h.2 i
theorem qdi:∀{l:List (Nat×Blk)},WkH hp m nn sl l→∀id x,blk l id=some x→id<nn∧(match m id with
   |some id2=>sl id2=false∧(match blk hp id2 with|some b2=>WkB hp m nn sl x b2|none=>False)
   |none=>(match x with|.rows _ _ n _=>n=0|_=>False))
 |[],_,id,x,hx=>by simp[blk]at hx
 |(j,b) :: l,h,id,x,hx=>by
  simp only[WkH]at h;simp only[blk]at hx;split at hx
  ·rename_i e;subst e;cases hx;exact⟨h.1,h.2.1⟩
  ·exact qdi h.2.2 id x hx
theorem Vb:∀{l:List (Nat×Blk)},injOn m l=true→∀id x id' x' y,blk l id=some x→blk l id'=some x'→m id=some y→m id'=some y→id=id'
 |[],_,id,x,id',x',y,hx,_,_,_=>by simp[blk]at hx
 |(j,b) :: l,h,id,x,id',x',y,hx,hx',hy,hy'=>by
  simp only[injOn,xe6]at h;have mem:∀{l:List (Nat×Blk)}{i:Nat}{z:Blk},blk l i=some z→∃p∈l,p.1=i:=by
   intro l
   induction l with
   |nil=>intro i z hz;simp[blk]at hz
   |cons q l ih=>
    obtain⟨q1,q2⟩:=q;intro i z hz;simp only[blk]at hz;split at hz
    ·rename_i e;exact⟨_,xd5,e.symm⟩
    ·obtain⟨p,hp,he⟩:=ih hz
     exact⟨p,List.mem_cons_of_mem _ hp,he⟩
  simp only[blk]at hx hx';by_cases e:id=j
  ·by_cases e':id'=j
   ·rw[e,e']
   ·subst e
    rw[if_neg e']at hx';have h1:=h.1;rw[hy]at h1;obtain⟨p,hp,he⟩:=mem hx';have:=List.all_eq_true.1 h1 p hp;rw[he,hy']at this;simp at this
  ·rw[if_neg e]at hx
   by_cases e':id'=j
   ·subst e'
    have h1:=h.1;rw[hy']at h1;obtain⟨p,hp,he⟩:=mem hx;have:=List.all_eq_true.1 h1 p hp;rw[he,hy]at this;simp at this
   ·rw[if_neg e']at hx'
    exact Vb h.2 id x id' x' y hx hx' hy hy'
end
theorem jV{hp:List (Nat×Blk)}{m:Nat→Option Nat}{nn:Nat}{sl:Nat→Bool}{l:List (Nat×Blk)}(h:∀id x,blk l id=some x→id<nn∧(match m id with
   |some id2=>sl id2=false∧(match blk hp id2 with|some b2=>WkB hp m nn sl x b2|none=>False)
   |none=>(match x with|.rows _ _ n _=>n=0|_=>False))) {id:Nat} {x:Blk} (hx:blk l id=some x) {id2:Nat} (hm:m id=some id2):sl id2=false∧∃b2,blk hp id2=some b2∧WkB hp m nn sl x b2:=by
 have:=(h id x hx).2;rw[hm]at this;simp only[]at this;refine⟨this.1,?_⟩;cases hb:blk hp id2 with
 |none=>rw[hb]at this;exact this.2.elim
 |some b2=>rw[hb]at this;exact⟨b2,rfl,this.2⟩
theorem YN{O:Ctx}{st':St}(m:Nat→Option Nat)(sl:Nat→Bool)(hf:∀i,Wk st.hp m st'.nid sl (look st'.fr i) (look st.fr i))(hh:∀id x,blk st'.hp id=some x→id<st'.nid∧(match m id with
   |some id2=>sl id2=false∧(match blk st.hp id2 with|some b2=>WkB st.hp m st'.nid sl x b2|none=>False)
   |none=>(match x with|.rows _ _ n _=>n=0|_=>False))) (hi:∀id x id' x' y,blk st'.hp id=some x→blk st'.hp id'=some x'→m id=some y→m id'=some y→id=id') (hlo:O.lo≤st'.nid) (hmo:∀id,id<O.lo→m id=some id)
  {base:World} {okc:Nat→Prop} {ns:Nat} {r:Nat→Option Nat} {outs:jj} {a:Act} {w:World} (h:InvR O base okc ns st.nid r outs st a w) :
  InvR O base okc ns st'.nid (λid=>(m id).bind r) outs st' a w∧∀p s v,Wk st.hp m st'.nid sl p s→Rep r (· < st.nid) (Gd base okc r (· < st.nid) st.hp w) w s v→Rep (λid=>(m id).bind r) (· < st'.nid) (Gd base okc (λid=>(m id).bind r) (· < st'.nid) st'.hp w) w p v:=by
 have hG:∀o o' b,(o=true→o'=true)→Gd base okc r (· < st.nid) st.hp w o' b→Gd base okc (λid=>(m id).bind r) (· < st'.nid) st'.hp w o b:=λo o' b ho hg=>by
  refine⟨hg.1,λid x hx hN e=>?_,?_⟩
  ·cases hm:m id with
   |none=>dsimp only at e;rw[hm]at e;simp at e
   |some id2=>
    dsimp only at e;rw[hm]at e;obtain⟨_,b2,hb2,_⟩:=jV hh hx hm;exact hg.2.1 id2 b2 hb2 (h.keys id2 b2 hb2) e
  ·have:=hg.2.2
   cases o<;>cases o'<;>simp_all
 have hsl:∀id x b o,sl id=true→blk st.hp id=some x→id<st.nid→r id=some b→Gd base okc (λid=>(m id).bind r) (· < st'.nid) st'.hp w o b:=λid x b o hs hx hN hr=>by
  refine⟨h.sat.lt hx hN hr,λid' x' hx' hN' e=>?_,?_⟩
  ·cases hm:m id' with
   |none=>dsimp only at e;rw[hm]at e;simp at e
   |some id2=>
    dsimp only at e;rw[hm]at e;obtain⟨hs2,b2,hb2,_⟩:=jV hh hx' hm;have:=h.sat.inj _ _ _ _ _ hx hN hb2 (h.keys id2 b2 hb2) hr e;subst this;rw[hs]at hs2;cases hs2
  ·have:=h.sat.own id x b hx hN hr
   cases o<;>simp[this]
 have key:=λp s v=>wm (m:=m) (nn:=st'.nid) hG (λid x hx hN=>h.sat.rep id x hx hN) hsl p s v;refine⟨⟨⟨h.sat.below,λid x hx hN=>?_,λid x b hx hN e=>?_,λid x id' x' b hx hN hx' hN' e e'=>?_⟩,λid x hx=>(hh id x hx).1,λi=>key _ _ _ (hf i) (h.fr i),h.size,hlo,h.out.mono (xa5 _) (λn hn sv v hv=>hv.mono (λid hid=>by simp only[hmo id (xa9 hid hn),Option.bind_some]) (λ_ h=>h) (λo b hb=>⟨hG o o b (λh=>h) hb,rfl⟩) (Shapes.refl w)),λid hid=>by simp only[hmo id hid,Option.bind_some];exact h.rfix id hid,?_⟩,key⟩
 ·have hx2:=(hh id x hx).2
  cases hm:m id with
  |none=>
   rw[hm]at hx2;simp only[Option.bind_none];cases x with
   |rows t k n row=>
    simp only[]at hx2;subst hx2;exact .none t k row
   |_=>exact hx2.elim
  |some id2=>
   simp only[Option.bind_some];obtain⟨_,b2,hb2,hw⟩:=jV hh hx hm;have hrep:=h.sat.rep id2 b2 hb2 (h.keys id2 b2 hb2);cases hrb:r id2 with
   |none=>
    rw[hrb]at hrep;cases hrep with
    |none t k row=>
     cases x<;>simp only[WkB]at hw
     obtain⟨rfl,rfl,hn,_⟩:=hw;have hn0:=Nat.le_zero.1 hn;subst hn0;exact .none _ _ _
   |some b=>
    rw[hrb]at hrep;cases hrep with
    |cells t l _ cs hb hl hrep=>
     cases x<;>simp only[WkB]at hw
     obtain⟨rfl,hw⟩:=hw;refine .cells _ _ _ cs hb ((wk hw).1.trans hl) λi sv hi=>?_;obtain⟨b',hb',hwk⟩:=(wk hw).2 i sv hi;exact key _ _ _ hwk (hrep i b' hb')
    |rows t k n row _ cs hb hl hrep=>
     cases x<;>simp only[WkB]at hw
     obtain⟨rfl,rfl,hn,hw⟩:=hw;refine .rows _ _ _ _ _ cs hb (xc1 (xa8 _ hn) hl) λi j hi hj=>key _ _ _ (hw i j hi hj) (hrep i j Ω hj)
    |mapS fit dom get st c es _ hb hm' ht hst hrep=>
     cases x<;>simp only[WkB]at hw
     ·obtain⟨rfl,rfl,hw⟩:=hw
      exact .map _ _ _ _ es _ hb hm' ht λe he=>key _ _ _ (hw _ (hm'.doms e he)) (hrep e he)
     ·obtain⟨rfl,rfl,rfl,rfl,hw⟩:=hw
      exact .mapS _ _ _ _ _ es _ hb hm' ht hst λe he=>key _ _ _ (hw _ (hm'.doms e he)) (hrep e he)
    |iter mid since seen last _ bm hN2 hr2 hb=>
     cases x<;>simp only[WkB]at hw
     obtain⟨w1,w2,rfl,rfl,rfl⟩:=hw;exact .iter _ _ _ _ _ bm w1 (by rw[w2];exact hr2) hb
    |loop L s _ hb=>
     cases x<;>simp only[WkB]at hw
     obtain⟨rfl,rfl⟩:=hw;exact .loop _ _ _ hb
    |map fit dom get _ es clock hb hm' ht hrep=>
     cases x<;>simp only[WkB]at hw
     obtain⟨rfl,rfl,hw⟩:=hw;exact .map _ _ _ _ es clock hb hm' ht λe he=>key _ _ _ (hw _ (hm'.doms e he)) (hrep e he)
 ·cases hm:m id with
  |none=>rw[hm]at e;simp at e
  |some id2=>
   rw[hm]at e;obtain⟨_,b2,hb2,_⟩:=jV hh hx hm;exact h.sat.own id2 b2 b hb2 (h.keys id2 b2 hb2) e
 ·cases hm:m id with
  |none=>rw[hm]at e;simp at e
  |some y=>
   cases hm':m id' with
   |none=>rw[hm']at e';simp at e'
   |some y'=>
    rw[hm]at e;rw[hm']at e';obtain⟨_,b2,hb2,_⟩:=jV hh hx hm;obtain⟨_,b2',hb2',_⟩:=jV hh hx' hm';have:=h.sat.inj _ _ _ _ _ hb2 (h.keys y b2 hb2) hb2' (h.keys y' b2' hb2') e e';subst this;exact hi _ _ _ _ _ hx hx' hm hm'
 ·obtain⟨Ds,h1,h2,h3⟩:=h.defers
  exact⟨Ds,h1,h2,λD hD=>⟨hG true true D (λh=>h) (h3 D hD).1,(h3 D hD).2⟩⟩
theorem qlv{O:Ctx}{st':St}(m:Nat→Option Nat)(sl:Nat→Bool)(hf:WkF st.hp m st'.nid sl st.fr st'.fr)(hh:WkH st.hp m st'.nid sl st'.hp)(hi:injOn m st'.hp=true)(hlo:O.lo≤st'.nid)(hmo:∀id,id<O.lo→m id=some id):Weak O st st':=by
 rintro base okc ns outs a w ⟨r,h⟩;exact⟨_,(YN m sl (qdh hf) (qdi hh) (Vb hi) hlo hmo h).1⟩
theorem Weak.refl(O:Ctx)(st:St):Weak O st st:=λ_ _ _ _ _ _ h=>h
theorem Weak.trans{O:Ctx}{a b c:St}(h:Weak O a b)(k:Weak O b c):Weak O a c:=λbase okc ns outs x w hi=>k _ _ _ _ _ _ (h _ _ _ _ _ _ hi)
def ren:List (Nat×Option Nat)→Nat→Option Nat
 |[],i=>some i
 |(j,x) :: l,i=>if i=j then x else ren l i
def isIn:List Nat→Nat→Bool
 |[],_=>false
 |j :: l,i=>if i=j then true else isIn l i
def YO(lo nid:Nat):List (Nat×Option Nat)→Bool
 |[]=>decide (lo≤nid)
 |(j,_) :: l=>decide (lo≤j)&&YO lo nid l
theorem Qt{lo nid:Nat}:∀{l:List (Nat×Option Nat)},YO lo nid l=true→lo≤nid∧∀id,id<lo→ren l id=some id
 |[],h=>⟨by simpa[YO]using h,λid _=>rfl⟩
 |(j,x) :: l,h=>by
  simp only[YO,xe6,decide_eq_true_eq]at h;obtain⟨h1,h2⟩:=Qt h.2;refine⟨h1,λid hid=>?_⟩;simp only[ren];rw[if_neg Ω];exact h2 id hid
theorem weak{O:Ctx}{fr fr':List (Nat×SV)}{hp hp':List (Nat×Blk)}{nid nid':Nat}(rn:List (Nat×Option Nat))(sl:List Nat)(hf:WkF hp (ren rn) nid' (isIn sl) fr fr')(hh:WkH hp (ren rn) nid' (isIn sl) hp')(hi:injOn (ren rn) hp'=true)(hO:YO O.lo nid' rn=true:=by decide) :
  Weak O ⟨fr,hp,nid⟩ ⟨fr',hp',nid'⟩:=qlv (ren rn) (isIn sl) hf hh hi (Qt hO).1 (Qt hO).2
section
variable{P:Program}{O:Ctx}{J:Prop}
theorem qot{body:St→(Ex→St→Prop)→Prop}{st:St}{K:Ex→St→Prop}{α:Type}(Pr:α→Prop)(inv:α→St)(μ:α→Nat)(x0:α)(hp0:Pr x0)(h0:Weak O st (inv x0))
  (h:∀x,Pr x→body (inv x) (Kk K λst'=>∃y,Pr y∧μ y<μ x∧Weak O st' (inv y))) (hmono:∀st K K',body st K→(∀e st',K e st'→K' e st')→body st K'):qbv O body st K:=
 ⟨{ x:α // Pr x },λx=>inv x.1,λx=>μ x.1,⟨x0,hp0⟩,h0,λx=>hmono _ _ _ (h x.1 x.2) λe st' hk=>by
  cases e with
  |normal=>obtain⟨y,hy,hlt,hw⟩:=hk;exact⟨⟨y,hy⟩,hlt,hw⟩
  |exit i=>exact hk
  |ret=>exact hk⟩
theorem Ko{f:FuncId}(h:ky P O f args st K)(hk:∀st' sv,K st' sv→K' st' sv):ky P O f args st K':=λbase okc ns r outs a w vs h1 h2 h3=>by
 obtain⟨e1,e2⟩:=h base okc ns r outs a w vs h1 h2 h3;exact⟨e1,e2.mono λe w' ⟨v,st',r',res,g1,g2,g3⟩=>⟨v,st',r',res,g1,hk _ _ g2,g3⟩⟩
theorem Wc{y:Nat}(h:wd P O y args st K)(hk:∀st' sv,K st' sv→K' st' sv):wd P O y args st K':=λbase okc ns r outs a w vs l h1 h2 h3 h4 h5=>by
 obtain⟨fn,tmps,A,B,e1,e2⟩:=h base okc ns r outs a w vs l h1 h2 h3 h4 h5;exact⟨fn,tmps,A,B,e1,RoundIn.mono e2 λe w' ⟨v,st',r',res,g1,g2,g3⟩=>⟨v,st',r',res,g1,hk _ _ g2,g3⟩⟩
theorem qlw{op:Op}(h:OpVC P O op st K)(hk:∀st' sv,K st' sv→K' st' sv):OpVC P O op st K':=λbase okc ns r outs a w o h1 h2=>by
 obtain⟨v,w',e1,st',r',res,g2,g3⟩:=h base okc ns r outs a w o h1 h2;exact⟨v,w',e1,st',r',res,hk _ _ g2,g3⟩
theorem qhH{op:Op}{d:Option Tmp}{id:Nat}{K K':St→Prop}{x:Res}(h:wE P O J op d id st K x)(hk:∀st',K st'→K' st'):wE P O J op d id st K' x:=by
 cases x with
 |bad=>exact h
 |pure obl r=>exact⟨h.1,hk _ h.2⟩
 |ex obl=>obtain⟨r,h1,h2⟩:=h;exact⟨r,h1,hk _ h2⟩
 |new obl b mk=>exact⟨h.1,hk _ h.2⟩
 |upd obl j b=>exact⟨h.1,hk _ h.2⟩
 |updv obl j b sv=>exact⟨h.1,hk _ h.2⟩
 |grow obl j b mk=>exact⟨h.1,hk _ h.2⟩
 |call f args=>
  rcases h with⟨res,h1,h3⟩|⟨pats,b,res,h1,h2,h3⟩|⟨hJ,h⟩
  ·exact .inl ⟨res,h1,hk _ h3⟩
  ·exact .inr (.inl ⟨pats,b,res,h1,h2,hk _ h3⟩)
  ·exact .inr (.inr ⟨hJ,Ko h λ_ _=>hk _⟩)
 |yield y args=>exact⟨h.1,Wc h.2 λ_ _=>hk _⟩
 |raw=>exact⟨h.1,qlw h.2 λ_ _=>hk _⟩
theorem qbM{ds:List (Option Tmp)}{g:Option (Nat×Bool)}{st:St}{run run' skip skip':St→Prop}(h:zp ds g st run skip)(h1:∀st,run st→run' st)(h2:∀st,skip st→skip' st):zp ds g st run' skip':=by
 unfold zp at *;split at h
 ·exact h1 _ h
 ·split at h
  ·exact h.elim
  ·rename_i hn
   split at h
   ·split at h
    ·exact⟨λe=>h1 _ (h.1 e),λe=>h2 _ (h.2 e)⟩
    ·exact⟨λe=>h2 _ (h.1 e),λe=>h1 _ (h.2 e)⟩
   ·exact h2 _ h
   ·exact h.elim
theorem GL{ds:List (Option Tmp)}:∀(ops:List Oper)(i:Nat)(st:St)(K K':St→Prop),zc P O J ds ops i st K→(∀st',K st'→K' st')→zc P O J ds ops i st K'
 |[],i,st,K,K',h,hk=>hk _ h
 |o :: rest,i,st,K,K',h,hk=>qbM h (λst h=>qhH h λst' h=>GL rest _ _ _ _ h hk) (λst h=>GL rest _ _ _ _ h hk)
theorem jK:∀(c:Code)(st:St)(K K':Ex→St→Prop),vc P O c st K→(∀e st',K e st'→K' e st')→vc P O c st K'
 |.skip,st,K,K',h,hk=>hk _ _ h
 |.label l,st,K,K',h,hk=>hk _ _ h
 |.ret,st,K,K',h,hk=>hk _ _ h
 |.exit id,st,K,K',h,hk=>hk _ _ h
 |.seq a b,st,K,K',h,hk=>jK a st _ _ h λe st' h=>by
  cases e with
  |normal=>exact jK b st' _ _ h hk
  |exit i=>exact hk _ _ h
  |ret=>exact hk _ _ h
 |.cond c t e,st,K,K',h,hk=>by
  simp only[vc,GA]at h ⊢;split at h
  ·rename_i b hb
   exact⟨λe'=>jK t st _ _ (h.1 e') hk,λe'=>jK e st _ _ (h.2 e') hk⟩
  ·exact h.elim
 |.block id c,st,K,K',h,hk=>jK c st _ _ h λe st' h=>by
  cases e with
  |normal=>exact hk _ _ h
  |exit i=>
   simp only[Qr]at h ⊢;split at h
   ·rename_i e;rw[if_pos e];exact hk _ _ h
   ·rename_i e;rw[if_neg e];exact hk _ _ h
  |ret=>exact hk _ _ h
 |.scope c,st,K,K',h,hk=>jK c st _ _ h hk
 |.region id ops d,st,K,K',h,hk=>by
  simp only[vc]at h ⊢;split at h
  ·rename_i hh
   rw[if_pos hh];exact λbase okc ns outs a w ro Q h1 h2 hi hK=>h base okc ns outs a w ro Q h1 h2 hi λe st' a' w' hk'=>hK e st' a' w' (hk e st' hk')
  ·rename_i hh
   rw[if_neg hh];exact GL _ _ _ _ _ h λst' h=>FarVC.mono (hk _ _) h
 |.loop c,st,K,K',h,hk=>by
  rcases h with h|h
  rotate_left
  ·exact .inr λbase okc ns outs a w ro Q h1 h2 hi hK=>h base okc ns outs a w ro Q h1 h2 hi λe st' a' w' hk'=>hK e st' a' w' (hk e st' hk')
  obtain⟨α,inv,μ,x0,h0,h1⟩:=h;refine .inl ⟨α,inv,μ,x0,h0,λx=>jK c _ _ _ (h1 x) λe st' h=>?_⟩;cases e with
  |normal=>exact h
  |exit i=>exact hk _ _ h
  |ret=>exact hk _ _ h
 |.rangeFunc _ _ _ _,st,K,K',h,hk=>λbase okc ns outs a w ro Q h1 h2 hi hK=>h base okc ns outs a w ro Q h1 h2 hi λe st' a' w' hk'=>hK e st' a' w' (hk e st' hk')
 |.goto _,st,K,K',h,hk=>h.elim
 |.refuse _,st,K,K',h,hk=>h.elim
theorem qp{c:Code}{K:Ex→St→Prop}{α:Type}(Pr:α→Prop)(inv:α→St)(μ:α→Nat)(x0:α)(hp0:Pr x0)(h0:Weak O st (inv x0))
  (h:∀x,Pr x→vc P O c (inv x) (Kk K λst'=>∃y,Pr y∧μ y<μ x∧Weak O st' (inv y))) {g:Tag K}:LoopOr P O c st K g:=
 .inl<|qot Pr inv μ x0 hp0 h0 h λst K K' h hk=>jK c st K K' h hk
end
end Go.Sx
end
section
namespace Go.Sx
open Go.RowKit
variable{P:Prop}
theorem qhI(ag:Bool)(sz:Nat)(z:Option (List Value))(e:TypeId)(k:Nat)(o full:Bool)(n k2:Nat)(row:Nat→Nat→SV):rSlice (some ⟨ag,sz,z,.slice e k⟩) (.arr o full n k2 row) none none none=.pure (0≤(0:Int)∧(0:Int)≤(n:Int)∧(n:Int)≤(n:Int)∧k2=k) (.arr o (full&&true) ((n:Int) -(0:Int)).toNat k (λi j=>row (((0:Int):Int).toNat+i) j)):=rfl
theorem qhJ(ag:Bool)(sz:Nat)(z:Option (List Value))(e:TypeId)(k:Nat)(o full:Bool)(n k2:Nat)(row:Nat→Nat→SV)(kh:IntKind)(h:Int):rSlice (some ⟨ag,sz,z,.slice e k⟩) (.arr o full n k2 row) none (some (.val (.int kh h))) none=.pure (0≤(0:Int)∧(0:Int)≤h∧h≤(n:Int)∧k2=k) (.arr o (full&&false) (h -(0:Int)).toNat k (λi j=>row (((0:Int):Int).toNat+i) j)):=rfl
theorem qhK(ag:Bool)(sz:Nat)(z:Option (List Value))(e:TypeId)(k:Nat)(o full:Bool)(n k2:Nat)(row:Nat→Nat→SV)(kh:IntKind)(h:Int)(km:IntKind)(m:Int):rSlice (some ⟨ag,sz,z,.slice e k⟩) (.arr o full n k2 row) none (some (.val (.int kh h))) (some (.val (.int km m)))=.pure (0≤(0:Int)∧(0:Int)≤h∧h≤(n:Int)∧h=m∧True∧k2=k) (.arr o true (h -(0:Int)).toNat k (λi j=>row (((0:Int):Int).toNat+i) j)):=by simp only[rSlice,bnd,Option.isSome_some]
theorem qhL(ag:Bool)(sz:Nat)(z:Option (List Value))(e:TypeId)(k:Nat)(o full:Bool)(n k2:Nat)(row:Nat→Nat→SV)(kl:IntKind)(l:Int):rSlice (some ⟨ag,sz,z,.slice e k⟩) (.arr o full n k2 row) (some (.val (.int kl l))) none none=.pure (0≤l∧l≤(n:Int)∧(n:Int)≤(n:Int)∧k2=k) (.arr o (full&&true) ((n:Int) - l).toNat k (λi j=>row ((l:Int).toNat+i) j)):=rfl
theorem qhM(ag:Bool)(sz:Nat)(z:Option (List Value))(e:TypeId)(k:Nat)(o full:Bool)(n k2:Nat)(row:Nat→Nat→SV)(kl:IntKind)(l:Int)(kh:IntKind)(h:Int):rSlice (some ⟨ag,sz,z,.slice e k⟩) (.arr o full n k2 row) (some (.val (.int kl l))) (some (.val (.int kh h))) none=.pure (0≤l∧l≤h∧h≤(n:Int)∧k2=k) (.arr o (full&&false) (h - l).toNat k (λi j=>row ((l:Int).toNat+i) j)):=rfl
theorem qhN(ag:Bool)(sz:Nat)(z:Option (List Value))(e:TypeId)(k:Nat)(o full:Bool)(n k2:Nat)(row:Nat→Nat→SV)(kl:IntKind)(l:Int)(kh:IntKind)(h:Int)(km:IntKind)(m:Int):rSlice (some ⟨ag,sz,z,.slice e k⟩) (.arr o full n k2 row) (some (.val (.int kl l))) (some (.val (.int kh h))) (some (.val (.int km m)))=.pure (0≤l∧l≤h∧h≤(n:Int)∧h=m∧True∧k2=k) (.arr o true (h - l).toNat k (λi j=>row ((l:Int).toNat+i) j)):=by simp only[rSlice,bnd,Option.isSome_some]
theorem qfS(h:Int)(id k:Nat):z9 0 h id k=.vec id h.toNat k:=rfl
theorem qhO(h:Int)(id k:Nat):jW 0 h h id k=.cut id h.toNat k:=by simp[jW]
theorem qhP(ag:Bool)(sz:Nat)(z:Option (List Value))(e:TypeId)(k:Nat)(id n k2:Nat):rSlice (some ⟨ag,sz,z,.slice e k⟩) (.vec id n k2) none none none=.pure ((0:Int)≤0∧0≤(n:Int)∧(n:Int)≤(n:Int)∧((0:Int)=0∨(n:Int)=n)∧k2=k) (.vec id ((n:Int)).toNat k):=rfl
theorem qhQ(ag:Bool)(sz:Nat)(z:Option (List Value))(e:TypeId)(k:Nat)(id n k2:Nat)(kh:IntKind)(h:Int):rSlice (some ⟨ag,sz,z,.slice e k⟩) (.vec id n k2) none (some (.val (.int kh h))) none=.pure ((0:Int)≤0∧0≤h∧h≤(n:Int)∧((0:Int)=0∨h=(n:Int))∧k2=k) (.vec id (h).toNat k):=rfl
theorem qhR(ag:Bool)(sz:Nat)(z:Option (List Value))(e:TypeId)(k:Nat)(id n k2:Nat)(kh:IntKind)(h:Int)(km:IntKind)(m:Int):rSlice (some ⟨ag,sz,z,.slice e k⟩) (.vec id n k2) none (some (.val (.int kh h))) (some (.val (.int km m)))=.pure ((0:Int)≤0∧0≤h∧h≤m∧m≤(n:Int)∧True∧k2=k) (jW 0 h m id k):=by simp only[rSlice,bnd,Option.isSome_some]
theorem qhS(ag:Bool)(sz:Nat)(z:Option (List Value))(e:TypeId)(k:Nat)(id n k2:Nat)(kl:IntKind)(l:Int):rSlice (some ⟨ag,sz,z,.slice e k⟩) (.vec id n k2) (some (.val (.int kl l))) none none=.pure (0≤l∧l≤(n:Int)∧(n:Int)≤(n:Int)∧(l=0∨(n:Int)=n)∧k2=k) (z9 l n id k):=rfl
theorem qhT(ag:Bool)(sz:Nat)(z:Option (List Value))(e:TypeId)(k:Nat)(id n k2:Nat)(kl:IntKind)(l:Int)(kh:IntKind)(h:Int):rSlice (some ⟨ag,sz,z,.slice e k⟩) (.vec id n k2) (some (.val (.int kl l))) (some (.val (.int kh h))) none=.pure (0≤l∧l≤h∧h≤(n:Int)∧(l=0∨h=(n:Int))∧k2=k) (z9 l h id k):=rfl
theorem qhU(ag:Bool)(sz:Nat)(z:Option (List Value))(e:TypeId)(k:Nat)(id n k2:Nat)(kl:IntKind)(l:Int)(kh:IntKind)(h:Int)(km:IntKind)(m:Int):rSlice (some ⟨ag,sz,z,.slice e k⟩) (.vec id n k2) (some (.val (.int kl l))) (some (.val (.int kh h))) (some (.val (.int km m)))=.pure (0≤l∧l≤h∧h≤m∧m≤(n:Int)∧True∧k2=k) (jW l h m id k):=by simp only[rSlice,bnd,Option.isSome_some]
theorem qhV(ag:Bool)(sz:Nat)(z:Option (List Value))(e:TypeId)(k:Nat)(u:Value):rSlice (some ⟨ag,sz,z,.slice e k⟩) (.val u) none none none=.pure (nilSlice u=true∧(0:Int)=(0:Int)∧0=(0:Int)) (.val (.slice none 0 0)):=rfl
theorem qhW(ag:Bool)(sz:Nat)(z:Option (List Value))(e:TypeId)(k:Nat)(u:Value)(kh:IntKind)(h:Int):rSlice (some ⟨ag,sz,z,.slice e k⟩) (.val u) none (some (.val (.int kh h))) none=.pure (nilSlice u=true∧(0:Int)=(0:Int)∧h=(0:Int)) (.val (.slice none 0 0)):=rfl
theorem qhX(ag:Bool)(sz:Nat)(z:Option (List Value))(e:TypeId)(k:Nat)(u:Value)(kh:IntKind)(h:Int)(km:IntKind)(m:Int):rSlice (some ⟨ag,sz,z,.slice e k⟩) (.val u) none (some (.val (.int kh h))) (some (.val (.int km m)))=.pure (nilSlice u=true∧(0:Int)=(0:Int)∧h=(0:Int)∧m=0∧True) (.val (.slice none 0 0)):=by simp only[rSlice,bnd,Option.isSome_some]
theorem qhY(ag:Bool)(sz:Nat)(z:Option (List Value))(e:TypeId)(k:Nat)(u:Value)(kl:IntKind)(l:Int):rSlice (some ⟨ag,sz,z,.slice e k⟩) (.val u) (some (.val (.int kl l))) none none=.pure (nilSlice u=true∧l=(0:Int)∧0=(0:Int)) (.val (.slice none 0 0)):=rfl
theorem qhZ(ag:Bool)(sz:Nat)(z:Option (List Value))(e:TypeId)(k:Nat)(u:Value)(kl:IntKind)(l:Int)(kh:IntKind)(h:Int):rSlice (some ⟨ag,sz,z,.slice e k⟩) (.val u) (some (.val (.int kl l))) (some (.val (.int kh h))) none=.pure (nilSlice u=true∧l=(0:Int)∧h=(0:Int)) (.val (.slice none 0 0)):=rfl
theorem qia(ag:Bool)(sz:Nat)(z:Option (List Value))(e:TypeId)(k:Nat)(u:Value)(kl:IntKind)(l:Int)(kh:IntKind)(h:Int)(km:IntKind)(m:Int):rSlice (some ⟨ag,sz,z,.slice e k⟩) (.val u) (some (.val (.int kl l))) (some (.val (.int kh h))) (some (.val (.int km m)))=.pure (nilSlice u=true∧l=(0:Int)∧h=(0:Int)∧m=0∧True) (.val (.slice none 0 0)):=by simp only[rSlice,bnd,Option.isSome_some]
theorem qib(ag:Bool)(sz:Nat)(z:Option (List Value))(e:TypeId)(k:Nat)(id off n k2:Nat):rSlice (some ⟨ag,sz,z,.slice e k⟩) (.asl id off n k2) none none none=.pure (0≤(0:Int)∧((0:Int)=(0:Int)∨(0:Int)<(n:Int))∧(0:Int)≤(n:Int)∧(n:Int)≤(n:Int)∧k2=k) (.asl id (off+((0:Int):Int).toNat*k) ((n:Int) -(0:Int)).toNat k):=rfl
theorem qic(ag:Bool)(sz:Nat)(z:Option (List Value))(e:TypeId)(k:Nat)(id off n k2:Nat)(kh:IntKind)(h:Int):rSlice (some ⟨ag,sz,z,.slice e k⟩) (.asl id off n k2) none (some (.val (.int kh h))) none=.pure (0≤(0:Int)∧((0:Int)=(0:Int)∨(0:Int)<h)∧(0:Int)≤h∧h≤(n:Int)∧k2=k) (.asl id (off+((0:Int):Int).toNat*k) (h -(0:Int)).toNat k):=rfl
theorem qid(ag:Bool)(sz:Nat)(z:Option (List Value))(e:TypeId)(k:Nat)(id off n k2:Nat)(kl:IntKind)(l:Int):rSlice (some ⟨ag,sz,z,.slice e k⟩) (.asl id off n k2) (some (.val (.int kl l))) none none=.pure (0≤l∧(l=(0:Int)∨l<(n:Int))∧l≤(n:Int)∧(n:Int)≤(n:Int)∧k2=k) (.asl id (off+(l:Int).toNat*k) ((n:Int) - l).toNat k):=rfl
theorem qie(ag:Bool)(sz:Nat)(z:Option (List Value))(e:TypeId)(k:Nat)(id off n k2:Nat)(kl:IntKind)(l:Int)(kh:IntKind)(h:Int):rSlice (some ⟨ag,sz,z,.slice e k⟩) (.asl id off n k2) (some (.val (.int kl l))) (some (.val (.int kh h))) none=.pure (0≤l∧(l=(0:Int)∨l<h)∧l≤h∧h≤(n:Int)∧k2=k) (.asl id (off+(l:Int).toNat*k) (h - l).toNat k):=rfl
def RP:=
 An @qlp <|
 An @qhw <|
 An @qoo <|
 An @qlq <|
 An @qhx <|
 An @qlr <|
 An @qhy <|
 An @qfJ <|
 An @GI <|
 An @qbE <|
 An @qbF <|
 An @YF <|
 An @qfK <|
 An @qbG <|
 An @qls <|
 An @qhD <|
 An @qop <|
 An @YI <|
 An @qhG <|
 An @Kx <|
 An @Ky <|
 An @V9 <|
 An @JH <|
 An @Kz <|
 An @Wa <|
 An @YJ <|
 An @qbD <|
 An @qfI <|
 An @zu <|
 An @JF <|
 An @V8 <|
 An @qbH <|
 An @qfM <|
 An @JG <|
 An @YG <|
 An @qbJ <|
 An @retVC.eq_1 <|
 An @retNVC.eq_1 <|
 An @resultsVC.eq_1 <|
 @resultsVC.eq_2
def RQ0:=
 An @qhz <|
 An @qhA <|
 An @qhB <|
 An @qhC <|
 An @qfL <|
 An @argFr.eq_1 <|
 An @argFr.eq_2 <|
 An @dsts.eq_1 <|
 An @dsts.eq_2 <|
 An @Wb <|
 An @YK <|
 An @YL <|
 An @JI <|
 An @YM <|
 An @putPs.eq_1 <|
 An @putPs.eq_2 <|
 An @oneSV.eq_1 <|
 An @oneSV.eq_2 <|
 An @qfP <|
 An @qfQ <|
 An @qbK <|
 An @qbL <|
 An @qfR <|
 An @qby <|
 An @qfA <|
 An @YC <|
 An @qhr <|
 An @qhs <|
 An @qht <|
 An @nth.eq_1 <|
 An @nth.eq_2 <|
 An @nth.eq_3 <|
 An @YD <|
 An @V6 <|
 An @qbx <|
 An @qfN <|
 An @qbI <|
 An @stepR.eq_1 <|
 An @stepR.eq_2 <|
 An @stepR.eq_3 <|
 An @stepR.eq_4 <|
 An @stepR.eq_5 <|
 An @stepR.eq_6 <|
 An @stepR.eq_7 <|
 An @stepR.eq_8 <|
 An @stepR.eq_9 <|
 An @stepR.eq_10 <|
 An @stepR.eq_11 <|
 An @stepR.eq_12 <|
 An @stepR.eq_13 <|
 An @stepR.eq_14 <|
 An @stepR.eq_15 <|
 An @stepR.eq_16 <|
 An @stepR.eq_17 <|
 An @stepR.eq_18 <|
 An @stepR.eq_19 <|
 An @stepR.eq_20 <|
 An @stepR.eq_21 <|
 An @stepR.eq_22 <|
 An @stepR.eq_23 <|
 An @stepR.eq_24 <|
 An @stepR.eq_25 <|
 An @stepR.eq_26 <|
 An @stepR.eq_27 <|
 An @stepR.eq_28 <|
 An @stepR.eq_29 <|
 An @stepR.eq_30 <|
 An @env.eq_1 <|
 An @env.eq_2 <|
 An @env.eq_3 <|
 An @env.eq_4 <|
 An @envs.eq_1 <|
 An @envs.eq_2 <|
 An @look.eq_1 <|
 An @look.eq_2 <|
 An @rBox.eq_1 <|
 An @rBox.eq_2 <|
 An @rBox.eq_3 <|
 An @rBox.eq_4 <|
 An @rAlloc.eq_1 <|
 An @rAlloc.eq_2 <|
 An @rLoad.eq_1 <|
 An @rLoad.eq_2 <|
 An @rLoad.eq_3 <|
 An @rLoad.eq_4 <|
 An @rLoad.eq_5 <|
 An @rLoad.eq_6 <|
 An @rLoad.eq_7 <|
 An @rLoad.eq_8 <|
 An @rLoad.eq_9 <|
 An @rStore.eq_1 <|
 An @rStore.eq_2 <|
 An @rStore.eq_3 <|
 An @rStore.eq_4 <|
 An @rStore.eq_5 <|
 An @rStore.eq_6 <|
 An @rStore.eq_7 <|
 An @rStore.eq_8 <|
 An @rNil.eq_1 <|
 An @rNil.eq_2 <|
 An @rNil.eq_3 <|
 An @rNil.eq_4 <|
 An @rNil.eq_5 <|
 An @rFieldAddr.eq_1 <|
 An @rFieldAddr.eq_2 <|
 An @rField.eq_1 <|
 An @rField.eq_2 <|
 An @rIndexAddr.eq_1 <|
 An @rIndexAddr.eq_2 <|
 An @rIndexAddr.eq_3 <|
 An @rIndexAddr.eq_4 <|
 An @rIndexAddr.eq_5 <|
 An @rIndexAddr.eq_6 <|
 An @rIndexAddr.eq_7 <|
 An @rIndexAddr.eq_8 <|
 An @rIndexAddr.eq_9 <|
 An @rIndexAddr.eq_10 <|
 An @rExtract.eq_1 <|
 An @rExtract.eq_2 <|
 An @rCall.eq_1 <|
 An @rLen.eq_1 <|
 An @rLen.eq_2 <|
 An @rLen.eq_3 <|
 An @rLen.eq_4 <|
 An @rLen.eq_5 <|
 An @rLen.eq_6 <|
 An @rLen.eq_7 <|
 An @rLen.eq_8 <|
 An @rLen.eq_9 <|
 An @rAppend.eq_1 <|
 An @rCopy.eq_1 <|
 An @rClear.eq_1 <|
 An @rMakeSlice.eq_1 <|
 @rSlice.eq_17
def RQ1:=
 An @rSlice.eq_13 <|
 An @rSlice.eq_14 <|
 An @rSlice.eq_15 <|
 An @rSlice.eq_16 <|
 An @rSlice.eq_17 <|
 An @qhI <|
 An @qhJ <|
 An @qhK <|
 An @qhL <|
 An @qhM <|
 An @qhN <|
 An @qfS <|
 An @qhO <|
 An @qhP <|
 An @qhQ <|
 An @qhR <|
 An @qhS <|
 An @qhT <|
 An @qhU <|
 An @qhV <|
 An @qhW <|
 An @qhX <|
 An @qhY <|
 An @qhZ <|
 An @qia <|
 An @qib <|
 An @qic <|
 An @qid <|
 An @qie <|
 An @bnd.eq_1 <|
 An @bnd.eq_2 <|
 An @bnd.eq_3 <|
 An @rBuild.eq_1 <|
 An @rBuildSlice.eq_1 <|
 An @fillS.eq_1 <|
 An @fillS.eq_2 <|
 An @envp.eq_1 <|
 An @envp.eq_2 <|
 An @rowsOf.eq_1 <|
 An @rowsOf.eq_2 <|
 An @rowsOf.eq_3 <|
 An @rowsOf.eq_4 <|
 An @rowsOf.eq_5 <|
 An @rowsOf.eq_6 <|
 An @nilSlice.eq_1 <|
 An @nilSlice.eq_2 <|
 An @zrep.eq_1 <|
 An @zrep.eq_2 <|
 An @Option.map_some.{0,0} <|
 An @Option.map_none.{0,0} <|
 An @Option.isNone_none.{0} <|
 An @Option.isNone_some.{0} <|
 An @Option.isSome_some.{0} <|
 An @Int.sub_zero <|
 An @Int.toNat_natCast <|
 An @Int.toNat_zero <|
 An @List.set_cons_zero.{0} <|
 An @List.set_cons_succ.{0} <|
 An @Nat.zero_mul <|
 An @Nat.mul_one <|
 An @Bool.false_and <|
 An @Bool.and_false <|
 An @List.getD_cons_zero.{0} <|
 An @List.getD_cons_succ.{0} <|
 An @oneRows.eq_1 <|
 An @rMin.eq_1 <|
 An @rMin.eq_2 <|
 An @rMin.eq_3 <|
 An @rMin2.eq_1 <|
 An @rMin2.eq_2 <|
 An @rBin.eq_1 <|
 An @rBin.eq_2 <|
 An @rBin.eq_3 <|
 An @rBin.eq_4 <|
 An @rBin.eq_5 <|
 An @rBin.eq_6 <|
 An @rBin.eq_7 <|
 An @rBin.eq_8 <|
 An @rBin.eq_10 <|
 An @rNilS.eq_1 <|
 An @rNilS.eq_2 <|
 An @Option.isNone_none.{0} <|
 An @Option.isNone_some.{0} <|
 An @rUn.eq_1 <|
 An @rUn.eq_2 <|
 An @rUn.eq_3 <|
 An @rConv.eq_1 <|
 An @rConv.eq_2 <|
 An @rPick.eq_1 <|
 An @rPick.eq_2 <|
 An @eqKind.eq_1 <|
 An @eqKind.eq_2 <|
 An @eqKind.eq_3 <|
 An @eqKind.eq_4 <|
 An @eqKind.eq_5 <|
 An @eqKind.eq_6 <|
 An @eqKind.eq_7 <|
 An @rInt.eq_1 <|
 An @rInt.eq_2 <|
 An @rInt.eq_3 <|
 An @rInt.eq_4 <|
 An @rInt.eq_5 <|
 An @rInt.eq_6 <|
 An @rInt.eq_7 <|
 An @rInt.eq_8 <|
 An @rInt.eq_9 <|
 An @rInt.eq_10 <|
 An @rInt.eq_11 <|
 An @rInt.eq_12 <|
 An @rInt.eq_13 <|
 An @rInt.eq_14 <|
 An @rInt.eq_15 <|
 An @rInt.eq_16 <|
 An @vals.eq_1 <|
 An @vals.eq_2 <|
 An @sel.eq_1 <|
 An @sel.eq_2 <|
 An @oneCell.eq_1 <|
 An @oneCell.eq_2 <|
 An @oneCell.eq_3 <|
 An @oneCell.eq_4 <|
 An @oneCell.eq_5 <|
 An @oneCell.eq_6 <|
 An @oneCell.eq_7 <|
 An @oneCell.eq_8 <|
 An @oneCell.eq_9 <|
 An @oneCell.eq_10 <|
 An @oneCell.eq_11 <|
 An @oneCell.eq_12 <|
 An @oneCell.eq_13 <|
 An @allOne.eq_1 <|
 An @allOne.eq_2 <|
 An @undefSV.eq_1 <|
 An @qbz <|
 An @qfB <|
 An @qfC <|
 An @qfD <|
 An @qbA <|
 An @qbB <|
 An @qbC <|
 An @YE <|
 An @qfF <|
 An @rMakeMap.eq_1 <|
 An @rMakeMap.eq_2 <|
 An @rLookup.eq_1 <|
 An @rLookup.eq_2 <|
 An @rUpdate.eq_1 <|
 An @rUpdate.eq_2 <|
 An @rDelete.eq_1 <|
 An @rDelete.eq_2 <|
 An @rClearMap.eq_1 <|
 An @rClearMap.eq_2 <|
 An @rIndex.eq_1 <|
 An @rIndex.eq_2 <|
 An @rIndex.eq_3 <|
 An @mapOf.eq_1 <|
 An @mapOf.eq_2 <|
 @mapOf.eq_3
def RQ2:=
 An @keyV.eq_1 <|
 An @keyV.eq_2 <|
 An @keyV.eq_3 <|
 An @keyVs.eq_1 <|
 An @keyVs.eq_2 <|
 An @keyVs.eq_3 <|
 An @rEq.eq_1 <|
 An @fitS.eq_1 <|
 An @fitS.eq_2 <|
 An @fitS.eq_3 <|
 An @lfOk.eq_1 <|
 An @lfOk.eq_2 <|
 An @lfOk.eq_3 <|
 An @eqSVs.eq_1 <|
 An @eqSVs.eq_2 <|
 An @eqSVs.eq_3 <|
 An @eqVs.eq_1 <|
 An @eqVs.eq_2 <|
 An @eqVs.eq_3 <|
 An @eqV.eq_1 <|
 An @eqV.eq_2 <|
 An @eqV.eq_3 <|
 An @Option.isSome_none.{0} <|
 An @dropBlk.eq_1 <|
 An @dropBlk.eq_2 <|
 An @setId.eq_1 <|
 An @setId.eq_2 <|
 An @setId.eq_3 <|
 An @setId.eq_4 <|
 An @setId.eq_5 <|
 An @setId.eq_6 <|
 An @setId.eq_7 <|
 An @setId.eq_8 <|
 An @setId.eq_9 <|
 An @setId.eq_10 <|
 An @setId.eq_11 <|
 An @setId.eq_12 <|
 An @setId.eq_13 <|
 An @setId.eq_14 <|
 An @setId.eq_15 <|
 An @setId.eq_16 <|
 An @setIdL.eq_1 <|
 An @setIdL.eq_2 <|
 An @qhu <|
 An @qhv <|
 An @putFr.eq_1 <|
 An @qfG <|
 An @qfH <|
 An @putIn.eq_1 <|
 An @putIn.eq_2 <|
 An @inD.eq_1 <|
 An @inD.eq_2 <|
 An @inD.eq_3 <|
 An @setBlk.eq_1 <|
 An @setBlk.eq_2 <|
 An @YH <|
 An @blk.eq_1 <|
 An @blk.eq_2 <|
 An @if_true.{1} <|
 An @if_false.{1} <|
 An @ite_true.{1} <|
 An @ite_false.{1} <|
 An @Nat.add_zero <|
 An @Nat.zero_add <|
 An @true_and <|
 An @and_true <|
 An @List.getElem?_cons_succ.{0} <|
 An @List.getElem?_cons_zero.{0} <|
 An @List.length_cons.{0} <|
 An @List.length_nil.{0} <|
 An @List.toList_toArray.{0} <|
 An @List.cons_append.{0} <|
 An @List.nil_append.{0} <|
 An @List.append_nil.{0} <|
 An @List.drop_zero.{0} <|
 An @List.drop_succ_cons.{0} <|
 An @List.take_succ_cons.{0} <|
 An @List.take_zero.{0} <|
 An @ne_eq.{1} <|
 An @not_false_eq_true <|
 An @not_true_eq_false <|
 An @Wk.eq_1 <|
 An @Wk.eq_2 <|
 An @Wk.eq_3 <|
 An @Wk.eq_4 <|
 An @Wk.eq_5 <|
 An @Wk.eq_6 <|
 An @Wk.eq_7 <|
 An @Wk.eq_8 <|
 An @Wk.eq_9 <|
 An @Wk.eq_10 <|
 An @Wk.eq_11 <|
 An @Wk.eq_12 <|
 An @Wk.eq_13 <|
 An @Wk.eq_14 <|
 An @Wk.eq_15 <|
 An @Wk.eq_16 <|
 An @Wk.eq_17 <|
 An @Wk.eq_18 <|
 An @Wk.eq_19 <|
 An @Wk.eq_20 <|
 An @Wk.eq_21 <|
 An @Wk.eq_22 <|
 An @Wk.eq_23 <|
 An @Wk.eq_24 <|
 An @Wk.eq_25 <|
 An @Wk.eq_26 <|
 An @Wk.eq_27 <|
 An @Wk.eq_28 <|
 An @Wk.eq_29 <|
 An @Wk.eq_30 <|
 An @Wk.eq_31 <|
 An @Wk.eq_32 <|
 An @Wk.eq_33 <|
 An @Wk.eq_34 <|
 An @Wk.eq_35 <|
 An @Wk.eq_36 <|
 An @WkL.eq_1 <|
 An @WkL.eq_2 <|
 An @WkL.eq_3 <|
 An @WkB.eq_1 <|
 An @WkB.eq_2 <|
 An @WkB.eq_3 <|
 An @WkB.eq_4 <|
 An @WkB.eq_5 <|
 An @WkB.eq_6 <|
 An @WkB.eq_7 <|
 An @WkB.eq_8 <|
 An @WkF.eq_1 <|
 An @WkF.eq_2 <|
 An @WkH.eq_1 <|
 An @WkH.eq_2 <|
 An @WkH.eq_3 <|
 An @ren.eq_1 <|
 An @ren.eq_2 <|
 An @isIn.eq_1 <|
 An @isIn.eq_2 <|
 An @injOn.eq_1 <|
 An @injOn.eq_2 <|
 @List.all_nil.{0}
def RQ3:=
 An @List.all_cons.{0} <|
 An @Bool.and_true <|
 An @Bool.true_and <|
 An @Bool.and_self <|
 An @svIte.eq_1 <|
 An @Sub.eq_1 <|
 An @Sub.eq_2 <|
 An @Sub.eq_3 <|
 An @Sub.eq_4 <|
 An @Sub.eq_5 <|
 An @Sub.eq_6 <|
 An @Sub.eq_7 <|
 An @Sub.eq_8 <|
 An @Sub.eq_9 <|
 An @Sub.eq_10 <|
 An @Sub.eq_11 <|
 An @Sub.eq_12 <|
 An @Sub.eq_13 <|
 An @Sub.eq_14 <|
 An @Sub.eq_15 <|
 An @Sub.eq_16 <|
 An @Sub.eq_17 <|
 An @Sub.eq_18 <|
 An @Sub.eq_19 <|
 An @Sub.eq_20 <|
 An @Sub.eq_21 <|
 An @Sub.eq_22 <|
 An @SubL.eq_1 <|
 An @SubL.eq_2 <|
 An @SubL.eq_3 <|
 An @Cl.eq_1 <|
 An @Cl.eq_2 <|
 An @Cl.eq_3 <|
 An @Cl.eq_4 <|
 An @Cl.eq_5 <|
 An @Cl.eq_6 <|
 An @Cl.eq_7 <|
 An @Cl.eq_8 <|
 An @Cl.eq_9 <|
 An @ClL.eq_1 <|
 An @ClL.eq_2 <|
 An @ClO.eq_1 <|
 An @ClO.eq_2 <|
 An @ClO.eq_3 <|
 An @ClO.eq_4 <|
 An @ClO.eq_5 <|
 An @ClO.eq_6 <|
 An @ClO.eq_7 <|
 An @ClOL.eq_1 <|
 An @ClOL.eq_2 <|
 An @ClB.eq_1 <|
 An @ClB.eq_2 <|
 An @ClB.eq_3 <|
 An @ClB.eq_4 <|
 An @Fresh.eq_1 <|
 An @Fresh.eq_2 <|
 An @Fresh.eq_3 <|
 An @Fresh.eq_4 <|
 An @Fresh.eq_5 <|
 An @Fresh.eq_6 <|
 An @Fresh.eq_7 <|
 An @Fresh.eq_8 <|
 An @Fresh.eq_9 <|
 An @FreshL.eq_1 <|
 An @FreshL.eq_2 <|
 An @FreshO.eq_1 <|
 An @FreshO.eq_2 <|
 An @FreshO.eq_3 <|
 An @FreshO.eq_4 <|
 An @FreshO.eq_5 <|
 An @FreshO.eq_6 <|
 An @FreshO.eq_7 <|
 An @FreshOL.eq_1 <|
 An @FreshOL.eq_2 <|
 An @FreshB.eq_1 <|
 An @FreshB.eq_2 <|
 An @FreshB.eq_3 <|
 An @FreshB.eq_4 <|
 An @SubO.eq_1 <|
 An @SubO.eq_2 <|
 An @SubO.eq_3 <|
 An @SubO.eq_4 <|
 An @SubO.eq_5 <|
 An @SubO.eq_6 <|
 An @SubO.eq_7 <|
 An @SubO.eq_8 <|
 An @SubO.eq_9 <|
 An @SubO.eq_10 <|
 An @SubO.eq_11 <|
 An @SubO.eq_12 <|
 An @SubO.eq_13 <|
 An @SubO.eq_14 <|
 An @SubO.eq_15 <|
 An @SubO.eq_16 <|
 An @SubO.eq_17 <|
 An @SubO.eq_18 <|
 An @SubO.eq_19 <|
 An @SubO.eq_20 <|
 An @SubOL.eq_1 <|
 An @SubOL.eq_2 <|
 An @SubOL.eq_3 <|
 An @SubB.eq_1 <|
 An @SubB.eq_2 <|
 An @SubB.eq_3 <|
 An @SubB.eq_4 <|
 An @resultVC.eq_1 <|
 An @resultVC.eq_2 <|
 An @Old.eq_1 <|
 An @Old.eq_2 <|
 An @Old.eq_3 <|
 An @Old.eq_4 <|
 An @Old.eq_5 <|
 An @Old.eq_6 <|
 An @Old.eq_7 <|
 An @Old.eq_8 <|
 An @Old.eq_9 <|
 An @OldL.eq_1 <|
 An @OldL.eq_2 <|
 An @true_implies <|
 @and_self
def RQ:=An @implies_true.{1}<|An @implies_true.{0}<|An @forall_const.{1}<|An @forall_const.{0}<|An RQ0<|An RQ1<|An RQ2 RQ3
def RZ:=An @decide_true<|An @decide_false<|An Bool.not_true<|An Bool.not_false<|An @and_self<|An xb0<|An Int.toNat_natCast Int.toNat_one
theorem sD{A B:Prop}(a:A)(b:B)(h:A→B→P:=by intro a b;with_reducible (first|exact qfO a b|exact qlt a b)):P:=h a b
theorem aA{B:Prop}(b:B)(h:B→P:=by intro b;(with_reducible refine An ?_ b);first|exact True.intro|(simp only[InK];omega)|omega|(simp only[InK,ne_eq,and_true,true_and];omega)|trivial):P:=h b
theorem aAa{B:Prop}(b:B)(h:B→P:=by intro b;(with_reducible refine An ?_ b);first|exact True.intro|(simp only[InK];omega)|omega|(simp only[InK,ne_eq,and_true,true_and];omega)|exact⟨.inr trivial,xa5 _,one1 _,Ω⟩|trivial):P:=h b
theorem aAb{B:Prop}(b:B)(h:B→P:=by intro b;(with_reducible refine An ?_ b);first|exact True.intro|(simp only[InK];omega)|omega|(simp only[InK,ne_eq,and_true,true_and];omega)|exact⟨.inr trivial,Ω⟩|trivial):P:=h b
theorem aAc{B:Prop}(b:B)(h:B→P:=by intro b;(with_reducible refine An ?_ b);first|exact True.intro|(simp only[InK];omega)|omega|(simp only[InK,ne_eq,and_true,true_and];omega)|exact⟨.inr trivial,xa5 _,one1 _,Ω⟩|exact⟨.inr trivial,Ω⟩|trivial):P:=h b
theorem aAd{B:Prop}(b:B)(h:B→P:=by intro b;(with_reducible refine An ?_ b);first|exact True.intro|(simp only[InK];omega)|omega|(simp only[InK,ne_eq,and_true,true_and];omega)|exact⟨.inr trivial,xa5 _,one5 _ _ _ _ _,Ω⟩|exact⟨.inr trivial,xa5 _,one1 _,Ω⟩|exact⟨.inr trivial,Ω⟩|trivial):P:=h b
theorem aAe{B:Prop}(b:B)(h:B→P:=by intro b;(with_reducible refine An ?_ b);first|exact True.intro|(simp only[InK];omega)|omega|(simp only[InK,ne_eq,and_true,true_and];omega)|exact⟨.inr trivial,Ω⟩|exact⟨Ω,Ω,Ω,.inl trivial⟩|exact⟨Ω,Ω,Ω,.inr trivial⟩|trivial):P:=h b
theorem aAf{B:Prop}(b:B)(h:B→P:=by intro b;(with_reducible refine An ?_ b);first|exact True.intro|(simp only[InK];omega)|omega|(simp only[InK,ne_eq,and_true,true_and];omega)|exact⟨.inr trivial,Ω⟩|exact⟨Ω,Ω,Ω,.inl trivial⟩|trivial):P:=h b
theorem aAg{B:Prop}(b:B)(h:B→P:=by intro b;(with_reducible refine An ?_ b);first|exact True.intro|(simp only[InK];omega)|omega|(simp only[InK,ne_eq,and_true,true_and];omega)|exact⟨.inr trivial,xa5 _,one1 _,Ω⟩|exact⟨.inr trivial,xa5 _,one3 _ _ _,Ω⟩|exact⟨.inr trivial,Ω⟩|trivial):P:=h b
theorem aAh{B:Prop}(b:B)(h:B→P:=by intro b;(with_reducible refine An ?_ b);first|exact True.intro|(simp only[InK];omega)|omega|(simp only[InK,ne_eq,and_true,true_and];omega)|exact⟨.inr trivial,xa5 _,one1 _,Ω⟩|exact⟨.inr trivial,xa5 _,one5 _ _ _ _ _,Ω⟩|exact⟨.inr trivial,Ω⟩|trivial):P:=h b
end Go.Sx
end
section
namespace Go.Sx
open Go.RowKit Go.ChangeShapes Go.WideShapes Go.ChangeAt
variable{args:Array Value}{v:Value}{α:Type}{k:Nat}{t:TypeId}
section
variable{H:Type}{enc:TypeId×Value→H}{P:Program}
theorem Qg(hl:laidOutB P=true){W W':World}{sp:Nat→Bool}:∀{ts:List TypeId}{vs:List Value}{ds:List (DataW H)}{ps:List MemPlace},
  (ts.all λt=>P.readableRec t&&decide (t<P.types.size))=true→DataW.TrodAll enc P W 0 (λ_=>true) true ts vs ds ps→(∀p∈ps,W.sameAt W' p)→(∀p∈ps,sp p.block=true)→DataW.TrodAll enc P W' 0 sp true ts vs ds ps
 |[],vs,ds,ps,_,h,_,_=>by
  obtain⟨rfl,rfl,rfl⟩:=trodAll_nil h;simp[DataW.TrodAll]
 |t :: ts,vs,ds,ps,ha,h,hs,hp=>by
  simp only[List.all_cons,xe6,decide_eq_true_eq]at ha;obtain⟨v,vs,d,ds,p,q,rfl,rfl,rfl,h1,h2⟩:=trodAll_cons h;exact⟨p,q,WideElems.Trod_stays hl ha.1.1 ha.1.2 h1 (λx hx=>hs x (by simp[hx])) (λx hx=>hp x (by simp[hx])),
   Qg hl ha.2 h2 (λx hx=>hs x (by simp[hx])) (λx hx=>hp x (by simp[hx])),rfl⟩
theorem qif{f:Func}{s:ChangeSpec}{W W':World}{ds:List (DataW H)}{before:List MemPlace}{t:TypeId}(hl:laidOutB P=true)
  (hr:(f.params.toList.all λt=>P.readableRec t&&decide (t<P.types.size))=true) (hrt:f.resultTypes = #[t]) (hut:P.underlying t=some .bool) (hv:s.vars=[])
  (hs:s.fn H ds = { results:=[.lit (.bool true)],args:=ds }) (hW:DataW.Whole enc P f.params.toList s.vars false W args.toList ds [] before) (hb:Below W.heap.size W W') :
  s.post enc P f false true false false W args (.bool true) W':=by
 have hlt:∀p∈before,p.block<W.heap.size:=λp hp=>by simpa using hW.lt p hp
 have hfn:(s.fn H (ds++[])).results=[.lit (.bool true)]∧(s.fn H (ds++[])).args=ds∧(s.fn H (ds++[])).vars=[]:=by rw[xd3,hs];exact⟨rfl,rfl,rfl⟩
 have hres:∀(b:Nat)(sp:Nat→Bool)(hd:Bool),DataW.TrodAll enc P W' b sp hd f.resultTypes.toList ((Value.bool true).resultList f.resultTypes.size) (s.fn H (ds++[])).results []:=λb sp hd=>by
  rw[hfn.1,hrt];exact trodAll_cons_mk (shut_bool hut _) trodAll_mk0
 have hW':=hW;obtain⟨p,q,hA,hV,rfl,hz,hn⟩:=hW;rw[hv]at hV;obtain⟨_,rfl⟩:=trodVars_none hV;have hargs:∀sp:Nat→Bool,(∀x∈p,sp x.block=true)→DataW.TrodAll enc P W' 0 sp true f.params.toList args.toList (s.fn H (ds++[])).args p:=λsp hsp=>by
  rw[hfn.2.1];exact Qg hl hr hA (λx hx=>hb.same (hlt x Ω0)) hsp
 have hold:∀x∈p,(λb=>decide (b<W.heap.size)) x.block=true:=λx hx=>by simpa using hlt x Ω0
 refine⟨ds,[],p++[],[],p,[],hW',hres _ _ _,hargs _ hold,?_,World.keptBut_mono (λx hx=>⟨hx,.inr (.inl Ω0)⟩) (hb.frame _),λh=>by cases h⟩;rw[hfn.2.2,hv];simp[DataW.TrodVars]
end
theorem qlx{w:World}{b o:Nat}(h:w.cell? ⟨b,o,none⟩=some v):b<w.heap.size:=by
 unfold World.cell? at h;split at h
 ·grind
 ·cases h
abbrev Gin(w:World):Bool→Nat→Prop:=λ_ b=>True∧b<w.heap.size
section
variable{H:Type}{enc:TypeId×Value→H}{P:Program}{w:World}
def Rd(enc:TypeId×Value→H)(P:Program)(w:World)(t:TypeId)(k:Nat)(Q:α→Prop)(sv:α→Nat→SV):Prop:=
 ∀fuel cs x,DataW.trod enc P w 0 (λ_=>true) true fuel t cs=some x→∃a,Q a∧cs.length=k∧∀j,j<k→Rep noR noN (Gin w) w (sv a j) (cs.getD j undef)
theorem qou{k:IntKind}{n:Int}(h:(Lit.int k n).wf=true):InK k n:=by
 cases k<;>simp[Lit.wf,IntKind.min,IntKind.max,IntKind.signed,IntKind.bits]at h<;>simp only[InK]<;>omega
theorem Rd.int{k:IntKind}(ht:P.underlying t=some (.int k)):Rd enc P w t 1 (λn:Int=>InK k n) (λn _=>.val (.int k n)):=λfuel cs x h=>by
 obtain⟨n,rfl,_,hw⟩:=DataW.trod_int ht h;refine⟨n,qou hw,rfl,λj hj=>?_⟩;have:j=0:=by omega
 subst this;exact .val _
theorem Rd.bool(ht:P.underlying t=some .bool):Rd enc P w t 1 (λ_:Bool=>True) (λb _=>.val (.bool b)):=λfuel cs x h=>by
 obtain⟨b,rfl,_⟩:=DataW.trod_bool ht h;refine⟨b,trivial,rfl,λj hj=>?_⟩;have:j=0:=by omega
 subst this;exact .val _
theorem Rd.slice{e:TypeId}[Inhabited α]{Q:α→Prop}{sv:α→Nat→SV}(ht:P.underlying t=some (.slice e))(hk:P.cellsOf e=k)(h0:0<k)(he:Rd enc P w e k Q sv) :
  Rd enc P w t 1 (λx:Nat×(Nat→α)=>x.1≤maxLen∧∀i,i<x.1→Q (x.2 i)) (λx _=>.arr false false x.1 k (λi j=>sv (x.2 i) j)):=λfuel cs x h=>by
 rcases Go.Deep.open_slice ht h with⟨rfl,_⟩|⟨a,len,cap,m,n,D,Pl,rfl,hb,hl,hm,hmm,rfl,hx⟩
 ·refine⟨(0,λ_=>default),⟨Ωg,λi hi=>by omega⟩,rfl,λj hj=>?_⟩
  have:j=0:=by omega
  subst this;exact .arrNil _ _ _ _ _ _ Ωg
 ·have hm':m=cap:=by simpa using hmm
  subst hm';rw[hk]at hx;have hel:∀i,i<len→∃(u:α),Q u∧∀j,j<k→∃v,w.cell? ((a.add (i*k)).add j)=some v∧Rep noR noN (Gin w) w (sv u j) v:=λi hi=>by
   obtain⟨cs',h1,h2⟩:=hx i Ω;obtain⟨_,hlen,hat⟩:=World.cells?_some h1;obtain⟨u,hu,hl',hrep⟩:=he _ _ _ h2;refine⟨u,hu,λj hj=>⟨cs'.getD j undef,?_,hrep j hj⟩⟩;rw[hat j hj];simp[hlen,hj]
  have hspot:len≠0→a.spot=none:=λhne=>by
   obtain⟨u,_,hu⟩:=hel 0 Ω;obtain⟨v,hv,_⟩:=hu 0 h0;simpa[Addr.add]using World.cell?_spot hv
  by_cases hne:len=0
  ·subst hne
   refine⟨(0,λ_=>default),⟨Ωg,λi hi=>by omega⟩,rfl,λj hj=>?_⟩;have:j=0:=by omega
   subst this;exact .arrNil _ _ _ _ _ _ Ωg
  ·have hs:=hspot hne
   obtain⟨b,off,spot⟩:=a;dsimp only at hs;subst hs;obtain⟨U,hU⟩:=Go.Deep.choose_lt (α:=α) (p:=λi u=>Q u∧∀j,j<k→∃v,w.cell? (((⟨b,off,none⟩:Addr).add (i*k)).add j)=some v∧Rep noR noN (Gin w) w (sv u j) v) hel;refine⟨(len,U),⟨(by show len≤maxLen;omega),λi hi=>(hU i hi).1⟩,rfl,λj hj=>?_⟩;have:j=0:=by omega
   subst this;have hcell:∀i j,i<len→j<k→∃v,w.cell? ⟨b,off+(i*k+j),none⟩=some v∧Rep noR noN (Gin w) w (sv (U i) j) v:=λi j hi hj=>by
    have:=(hU i hi).2 j hj
    rwa [qU,qU,xb2]at this
   refine .arr false false len k _ b off m (λi j=>(w.cell? ⟨b,off+(i*k+j),none⟩).getD undef) ⟨trivial,?_⟩ Ωg hl (λi j hi hj=>?_) (λi j hi hj=>?_)
   ·obtain⟨v,hv,_⟩:=hcell 0 0 Ω h0
    exact qlx hv
   ·obtain⟨v,hv,_⟩:=hcell i j hi hj
    rw[hv];rfl
   ·obtain⟨v,hv,hr⟩:=hcell i j hi hj
    rw[hv];exact hr
theorem Rd.map{β:Type}{Q:α→Prop}{sv:α→Nat→SV}{Q':β→Prop}{sv':β→Nat→SV}(h:Rd enc P w t k Q sv)(f:α→β)(hf:∀a,Q a→Q' (f a)∧∀j,j<k→sv' (f a) j=sv a j):Rd enc P w t k Q' sv':=λfuel cs x hx=>by
 obtain⟨a,ha,hl,hr⟩:=h fuel cs x hx
 grind
def RdF(enc:TypeId×Value→H)(P:Program)(w:World)(fs:List Field)(Q:α→Prop)(sv:α→Nat→SV):Prop:=
 ∀(n:Nat)(cs:List Value),(∀f,f∈fs→∃y,DataW.trod enc P w 0 (λ_=>true) true n f.type ((cs.drop f.offset).take (P.cellsOf f.type))=some y)→
  ∃a,Q a∧∀f,f∈fs→∀j,f.offset≤j→j<f.offset+P.cellsOf f.type→Rep noR noN (Gin w) w (sv a j) (cs.getD j undef)
theorem RdF.nil:RdF enc P w [] (λ_:Unit=>True) (λ_ _=>.top):=λn cs _=>⟨(),trivial,λf hf=>by cases hf⟩
theorem RdF.cons{f:Field}{fs:List Field}{α β:Type}{Q:α→Prop}{sv:α→Nat→SV}{Q':β→Prop}{sv':β→Nat→SV}{o:Nat}(h:Rd enc P w f.type k Q sv)(hk:P.cellsOf f.type=k)(ho:f.offset=o)(hs:RdF enc P w fs Q' sv')(hlt:∀g,g∈fs→o+k≤g.offset) :
  RdF enc P w (f :: fs) (λx:α×β=>Q x.1∧Q' x.2) (λx j=>if j<o+k then sv x.1 (j - o)else sv' x.2 j):=λn cs hc=>by
 obtain⟨y,hy⟩:=hc f Ωg;obtain⟨a,ha,hl,hr⟩:=h _ _ _ hy;obtain⟨b,hb,hr'⟩:=hs n cs λg hg=>hc g (by simp[hg]);refine⟨(a,b),⟨ha,hb⟩,λg hg j h1 h2=>?_⟩;by_cases hj:j<o+k
 ·grind
 ·grind
theorem Rd.struct{fs:Array Field}{Q:α→Prop}{sv:α→Nat→SV}(ht:P.underlying t=some (.struct fs))(hk:P.cellsOf t=k)(hf:RdF enc P w fs.toList Q sv)
  (hcov:((List.range k).all λj=>fs.toList.any λf=>decide (f.offset≤j)&&decide (j<f.offset+P.cellsOf f.type))=true):Rd enc P w t k Q sv:=λfuel cs x h=>by
 obtain⟨xs,n,_,_,hl,hlen,hat⟩:=DataW.trod_struct ht h;obtain⟨a,ha,hr⟩:=hf n cs λf hf=>by
  obtain⟨i,hi,rfl⟩:=List.mem_iff_getElem.1 hf;have:=hat i fs.toList[i] (by rw[←xf6];exact xc7 hi)
  grind
 refine⟨a,ha,hl.trans hk,λj hj=>?_⟩;have:=(List.all_eq_true.1 hcov) j (by simpa using hj)
 grind
theorem Rd.array{e:TypeId}{n:Nat}[Inhabited α]{Q:α→Prop}{sv:α→Nat→SV}(ht:P.underlying t=some (.array n e))(hk:P.cellsOf e=k)(h0:0<k)(hkt:P.cellsOf t=n*k)(he:Rd enc P w e k Q sv) :
  Rd enc P w t (n*k) (λu:Nat→α=>∀i,i<n→Q (u i)) (λu j=>sv (u (j / k)) (j % k)):=λfuel cs x h=>by
 obtain⟨xs,m,_,_,hl,hlen,hat⟩:=DataW.trod_array ht h;rw[hk]at hat;have hel:∀i,i<n→∃(u:α),Q u∧∀j,j<k→Rep noR noN (Gin w) w (sv u j) (cs.getD (i*k+j) undef):=λi hi=>by
  have h1:=hat i hi;rw[xc7 Ω]at h1;obtain⟨u,hu,hlu,hr⟩:=he _ _ _ h1
  grind
 obtain⟨U,hU⟩:=Go.Deep.choose_lt (α:=α) (p:=λi u=>Q u∧∀j,j<k→Rep noR noN (Gin w) w (sv u j) (cs.getD (i*k+j) undef)) hel;refine⟨U,λi hi=>(hU i hi).1,hl.trans hkt,λj hj=>?_⟩;have hjk:j / k<n:=Nat.div_lt_of_lt_mul (by rwa [Nat.mul_comm]at hj);have:=(hU (j / k) hjk).2 (j % k) (Nat.mod_lt _ h0);have e:j / k*k+j % k=j:=by rw[Nat.mul_comm];exact Nat.div_add_mod j k
 rwa [e]at this
theorem Rd.one{Q:α→Prop}{sv:α→Nat→SV}(h:Rd enc P w t 1 Q sv){d:DataW H}{p:List MemPlace}(hv:v.cells = #[v])(ht:DataW.Trod enc P w 0 (λ_=>true) true t v d p):∃a,Q a∧Rep noR noN (Gin w) w (sv a 0) v:=by
 obtain⟨fuel,hf⟩:=ht;obtain⟨a,ha,_,hr⟩:=h _ _ _ hf
 grind
theorem Rd.agg{Q:α→Prop}{sv:α→Nat→SV}(h:Rd enc P w t k Q sv){d:DataW H}{p:List MemPlace}{cs:Array Value}(hv:v=.agg cs)(ht:DataW.Trod enc P w 0 (λ_=>true) true t v d p):∃a,Q a∧Rep noR noN (Gin w) w (.agg ((List.range k).map (sv a))) v:=by
 subst hv;obtain⟨fuel,hf⟩:=ht;obtain⟨a,ha,hl,hr⟩:=h _ _ _ hf;refine⟨a,ha,.agg _ _ (by simpa[Value.cells]using hl.symm) λi sv' hi=>?_⟩;simp only[List.getElem?_map,xe3]at hi;have hik:i<k:=by
  by_cases hik:i<k
  ·exact hik
  ·simp[hik]at hi
 rw[xe3 hik]at hi;simp only[xg1,Option.some.injEq]at hi;subst hi;have:=hr i hik;simpa[Value.cells]using this
def Reps(w:World)(l:List SV)(vs:List Value):Prop:=l.length=vs.length∧∀(i:Nat)(sv:SV),l[i]? = some sv→Rep noR noN (Gin w) w sv (vs.getD i undef)
theorem Reps.nil:Reps w [] []:=⟨rfl,λi sv h=>by simp at h⟩
theorem Reps.cons{a:SV}{l:List SV}{vs:List Value}(h:Rep noR noN (Gin w) w a v)(hs:Reps w l vs):Reps w (a :: l) (v :: vs):=
 ⟨by simp[hs.1],λi sv hi=>by
  cases i with
  |zero=>simp at hi;subst hi;exact h
  |succ i=>simpa using hs.2 i sv Ωah⟩
theorem qfT{f:FuncId}{l:List SV}(hc:qf P f l (.val (.bool true)))(h:Reps w l args.toList) :
  Calls P f args w λe w'=>e=.returned (.bool true)∧Below w.heap.size w w':=
 (hc.2 (λ_=>True) w args (by simpa using h.1) (λi sv hi=>by
  have:=h.2 i sv hi
  rwa [xc6,xf6,←xf5]at this)).mono λe w' ⟨v,he,hb,hv⟩=>by
  cases hv;exact⟨he,hb⟩
end
end Go.Sx
end
section
namespace Go.Sx
end Go.Sx
end
section
namespace Go.Sx
open Go.RowKit
variable{O:Ctx}{hp:List (Nat×Blk)}{args:List SV}
section
variable{P:Program}
def EffVC(P:Program)(f:FuncId)(args:List SV)(hp:List (Nat×Blk))(id:Nat)(Q:List (Nat×Blk)→Nat→SV→Prop):Prop:=
 ∀(O:Ctx)(fr:List (Nat×SV)),ky P O f args ⟨fr,hp,id⟩ λst' res=>st'.fr=fr∧Q st'.hp st'.nid res
theorem gG{J:Prop}{j:Tag J}{d:Option Tmp}{id:Nat}{fr:List (Nat×SV)}{nid:Nat}{K:St→Prop}{g:Tag K}{f:FuncId}{Q:List (Nat×Blk)→Nat→SV→Prop}(hJ:J)(h:EffVC P f args hp id Q)
  (hk:∀hp' nid' res,Q hp' nid' res→K (St.put ⟨fr,hp',nid'⟩ d res)):ZR P O j d id fr hp nid K g f args:=
 .inr (.inr ⟨hJ,Ko (h O fr) λst' sv ⟨e,hq⟩=>by obtain⟨fr',hp',nid'⟩:=st';cases e;exact hk _ _ _ hq⟩)
def qly(P:Program)(rs:List ResultVar)(O:Ctx)(Q:List (Nat×Blk)→Nat→SV→Prop):Ex→St→Prop
 |.exit _,_=>False
 |.normal,⟨fr,hp,nid⟩=>resultsVC P rs ⟨fr,hp,nid⟩ λm=>∃hp' nid' res,Weak O ⟨[(0,oneSV m)],hp,nid⟩ ⟨[(0,res)],hp',nid'⟩∧Q hp' nid' res
 |.ret,⟨fr,hp,nid⟩=>resultsVC P rs ⟨fr,hp,nid⟩ λm=>∃hp' nid' res,Weak O ⟨[(0,oneSV m)],hp,nid⟩ ⟨[(0,res)],hp',nid'⟩∧Q hp' nid' res
theorem YP(rs:List ResultVar)(O:Ctx)(Q:List (Nat×Blk)→Nat→SV→Prop)(fr:List (Nat×SV))(hp:List (Nat×Blk))(nid:Nat):qly P rs O Q .normal ⟨fr,hp,nid⟩=resultsVC P rs ⟨fr,hp,nid⟩ λm=>∃hp' nid' res,Weak O ⟨[(0,oneSV m)],hp,nid⟩ ⟨[(0,res)],hp',nid'⟩∧Q hp' nid' res:=rfl
theorem qig(rs:List ResultVar)(O:Ctx)(Q:List (Nat×Blk)→Nat→SV→Prop)(fr:List (Nat×SV))(hp:List (Nat×Blk))(nid:Nat):qly P rs O Q .ret ⟨fr,hp,nid⟩=resultsVC P rs ⟨fr,hp,nid⟩ λm=>∃hp' nid' res,Weak O ⟨[(0,oneSV m)],hp,nid⟩ ⟨[(0,res)],hp',nid'⟩∧Q hp' nid' res:=rfl
theorem InvR.far{fs:List Fr}{lo:Nat}{rnd:Bool}{f0:Nat→List (Nat×Nat)}{base:World}{okc:Nat→Prop}{ns k:Nat}{r:Nat→Option Nat}{outs:jj}{st:St}{a:Act}{w:World}(h:InvR ⟨fs,lo,rnd,f0⟩ base okc ns k r outs st a w)(f:Nat→List (Nat×Nat)):InvR ⟨fs,lo,rnd,f⟩ base okc ns k r outs st a w:=
 ⟨h.sat,h.keys,h.fr,h.size,h.lo,h.out,h.rfix,h.defers⟩
theorem wo (far : Nat → List (Nat × Nat)) (hm : P.follows .mixedOrders = true) {f : FuncId} {fn : Func} {c : Code} {args : List SV} {hp : List (Nat × Blk)} {id : Nat} {Q : List (Nat × Blk) → Nat → SV → Prop} (hf : P.funcs[f]? = some fn) (hb : fn.body = some c) (hname : (fn.name == "runtime.NumGoroutine") = false) (hok : qJ far fn.ntmps c = true) (hlen : args.length ≤ fn.ntmps)
  (h:∀out:List Fr,vc P ⟨out,id,false,far⟩ c ⟨argFr 0 args,hp,id⟩ (qly P fn.results.toList ⟨out,id,false,far⟩ Q)):EffVC P f args hp id Q:=by
 intro O fr base okc ns r outs a w vs h0 hl ha;refine⟨gF hf hb hname vs w,?_⟩;refine kD hm hf hb hok (O:=⟨⟨fr,none,ns,id⟩ :: O.fs,id,false,far⟩) (outs:=⟨a :: outs.as,r⟩) (base:=base) (okc:=okc) (st0:=⟨argFr 0 args,hp,id⟩) rfl
  (Post:=λst' m=>∃hp' nid' res,Weak ⟨⟨fr,none,ns,id⟩ :: O.fs,id,false,far⟩ ⟨[(0,oneSV m)],st'.hp,st'.nid⟩ ⟨[(0,res)],hp',nid'⟩∧Q hp' nid' res)
  ⟨r,(h0.push none (λ_ h=>by cases h) false (yH hl Ω ha) Ωj rfl).far far⟩ (jK c _ _ _ (h _) λe st' hk=>?_) λst' r' a' w' m us hP hi hml hreps=>?_
 ·obtain⟨fr',hp',nid'⟩:=st'
  cases e<;>exact hk
 ·obtain⟨hp',nid',res,hw,hq⟩:=hP
  have hi2:Inv ⟨⟨fr,none,ns,id⟩ :: O.fs,id,false,far⟩ base okc 1 st'.nid ⟨a :: outs.as,r⟩ ⟨[(0,oneSV m)],st'.hp,st'.nid⟩ { a' with tmps:=#[J8 us] } w':=
   ⟨r',hi.sat,hi.keys,λi=>by
    simp only[look];split
    ·rename_i e;subst e
     exact vC hml hreps
    ·exact .top _,rfl,hi.lo,hi.out,hi.rfix,hi.defers⟩
  obtain⟨r2,h2⟩:=hw _ _ _ _ _ _ hi2;exact⟨_,⟨fr,hp',nid'⟩,r2,res,rfl,⟨rfl,hq⟩,h2.lo,(h2.far zC).pop h0,by simpa[look]using h2.fr 0⟩
theorem vu (hm : P.follows .mixedOrders = true) {f : FuncId} {fn : Func} {c : Code} {args : List SV} {hp : List (Nat × Blk)} {id : Nat} {Q : List (Nat × Blk) → Nat → SV → Prop} (hf : P.funcs[f]? = some fn) (hb : fn.body = some c) (hname : (fn.name == "runtime.NumGoroutine") = false) (hok : jz fn.ntmps c = true) (hlen : args.length ≤ fn.ntmps)
  (h:∀out:List Fr,vc P ⟨out,id,false,zC⟩ c ⟨argFr 0 args,hp,id⟩ (qly P fn.results.toList ⟨out,id,false,zC⟩ Q)):EffVC P f args hp id Q:=wo zC hm hf hb hname hok hlen h
def qQ(fr:List (Nat×SV)):List (Nat×SV)→Prop
 |[]=>True
 |(i,s) :: l=>(s=.top∨s=look fr i)∧qQ fr l
theorem Vc{fr:List (Nat×SV)}:∀{l:List (Nat×SV)},qQ fr l→∀i,look l i=.top∨look l i=look fr i
 |[],_,i=>.inl rfl
 |(j,s) :: l,h,i=>by
  simp only[qQ]at h;simp only[look];split
  ·simp_all
  ·exact Vc h.2 i
def SubHp(hp hp':List (Nat×Blk)):Prop:=∀id x,blk hp' id=some x→blk hp id=some x
theorem SubHp.refl(hp:List (Nat×Blk)):SubHp hp hp:=λ_ _ h=>h
theorem vm{fr fr':List (Nat×SV)}{hp':List (Nat×Blk)}{nid:Nat}(hf:qQ fr fr')(hh:SubHp hp hp'):Weak O ⟨fr,hp,nid⟩ ⟨fr',hp',nid⟩:=by
 rintro base okc ns outs a w ⟨r,h⟩;have hs:=h.sat.sub hh;have h2:InvR O base okc ns nid r outs (St.put {({ fr:=fr,hp:=hp,nid:=nid }:St)with hp:=hp' } none undefSV) (a.put none undef) w:=h.step hs (λid x hx=>h.keys id x (hh id x hx)) (xa5 _) (d:=none) (λt ht=>by cases ht) (.val undef);refine⟨r,h2.sat,h2.keys,λi=>?_,h2.size,h2.lo,h2.out,h2.rfix,h2.defers⟩;rcases Vc hf i with e|e
 ·show Rep _ _ _ _ (look fr' i) _
  rw[e];exact .top _
 ·show Rep _ _ _ _ (look fr' i) _
  rw[e];exact h2.fr i
theorem EffVC.sub{f:FuncId}{hp2:List (Nat×Blk)}{id:Nat}{Q:List (Nat×Blk)→Nat→SV→Prop}(hh:SubHp hp hp2)(h:EffVC P f args hp2 id Q):EffVC P f args hp id Q:=by
 intro O fr base okc ns r outs a w vs h0 hl ha;have hs:=h0.sat.sub hh;have h2:InvR O base okc ns id r outs (St.put {({ fr:=fr,hp:=hp,nid:=id }:St)with hp:=hp2 } none undefSV) (a.put none undef) w:=h0.step hs (λid x hx=>h0.keys id x (hh id x hx)) (xa5 _) (d:=none) (λt ht=>by cases ht) (.val undef);exact h O fr base okc ns r outs a w vs h2 hl λi sv hi=>hs.rep (ha i sv hi)
theorem LoopOr.weak{c:Code}{st st0:St}{K:Ex→St→Prop}{g g':Tag K}(h:LoopOr P O c st0 K g)(hw:Weak O st st0):LoopOr P O c st K g':=by
 rcases h with⟨α,inv,μ,x0,h0,h1⟩|h
 ·exact .inl ⟨α,inv,μ,x0,hw.trans h0,h1⟩
 ·exact .inr λbase okc ns outs a w ro Q h1 h2 hi hK=>h base okc ns outs a w ro Q h1 h2 (hw _ _ _ _ _ _ hi) hK
theorem qfU{α:Type}(Pr:α→Prop)(canon:α→St){c:Code}{K:Ex→St→Prop}{G:Prop}(main:(∀x,Pr x→LoopOr P O c (canon x) K .mk)→G)(key:∀x,Pr x→LoopOr P O c (canon x) K .mk):G:=main key
mutual
theorem qr{hp:List (Nat×Blk)}:∀(s:SV),Old s→Sub hp s s
 |.top,_=>by simp[Sub]
 |.val v,_=>by simp[Sub]
 |.agg l,h=>by simp only[Old]at h;simp only[Sub];exact subL_refl l h
 |.tup l,h=>by simp only[Old]at h;simp only[Sub];exact subL_refl l h
 |.fn f a b,h=>by simp only[Old]at h;simp only[Sub];exact⟨trivial,subL_refl a h.1,subL_refl b h.2⟩
 |.ref o n row,h=>by simp only[Old]at h;simp only[Sub];exact⟨id,xa5 _,λj hj=>qr (row j) (h.2 j hj)⟩
 |.arr o full n k row,h=>by simp only[Old]at h;simp only[Sub];exact⟨id,id,trivial,trivial,λi j hi hj=>qr (row i j) (h.2 i j hi hj)⟩
 |.cmp o fit dom get,h=>by simp only[Old]at h;simp only[Sub];exact⟨id,trivial,trivial,λkey hk=>qr (get key) (h.2 key hk)⟩
 |.cut _ _ _,h=>by simp[Old]at h
 |.ptr _ _,h=>by simp[Old]at h
 |.elt _ _ _ _,h=>by simp[Old]at h
 |.vec _ _ _,h=>by simp[Old]at h
 |.mp _,h=>by simp[Old]at h
 |.asl _ _ _ _,h=>by simp[Old]at h
 |.que _ _ _ _,h=>by simp[Old]at h
 |.yld _,h=>by simp[Old]at h
theorem subL_refl{hp:List (Nat×Blk)}:∀(l:List SV),OldL l→SubL hp l l
 |[],_=>by simp[SubL]
 |a :: l,h=>by simp only[OldL]at h;simp only[SubL];exact⟨qr a h.1,subL_refl l h.2⟩
end
mutual
theorem yI{hp:List (Nat×Blk)}{mm:Nat→Option Nat}{nn:Nat}{sl:Nat→Bool}:∀(s:SV),Old s→Wk hp mm nn sl s s
 |.top,_=>by simp[Wk]
 |.val v,_=>by simp[Wk]
 |.agg l,h=>by simp only[Old]at h;simp only[Wk];exact wkL_refl l h
 |.tup l,h=>by simp only[Old]at h;simp only[Wk];exact wkL_refl l h
 |.fn f a b,h=>by simp only[Old]at h;simp only[Wk];exact⟨trivial,wkL_refl a h.1,wkL_refl b h.2⟩
 |.ref o n row,h=>by simp only[Old]at h;simp only[Wk];exact⟨id,xa5 _,λj hj=>yI (row j) (h.2 j hj)⟩
 |.arr o full n k row,h=>by simp only[Old]at h;simp only[Wk];exact⟨id,id,trivial,trivial,λi j hi hj=>yI (row i j) (h.2 i j hi hj)⟩
 |.cmp o fit dom get,h=>by simp only[Old]at h;simp only[Wk];exact⟨id,trivial,trivial,λkey hk=>yI (get key) (h.2 key hk)⟩
 |.cut _ _ _,h=>by simp[Old]at h
 |.ptr _ _,h=>by simp[Old]at h
 |.elt _ _ _ _,h=>by simp[Old]at h
 |.vec _ _ _,h=>by simp[Old]at h
 |.mp _,h=>by simp[Old]at h
 |.asl _ _ _ _,h=>by simp[Old]at h
 |.que _ _ _ _,h=>by simp[Old]at h
 |.yld _,h=>by simp[Old]at h
theorem wkL_refl{hp:List (Nat×Blk)}{mm:Nat→Option Nat}{nn:Nat}{sl:Nat→Bool}:∀(l:List SV),OldL l→WkL hp mm nn sl l l
 |[],_=>by simp[WkL]
 |a :: l,h=>by simp only[OldL]at h;simp only[WkL];exact⟨yI a h.1,wkL_refl l h.2⟩
end
theorem Kp:∀{a b:List SV},OldL a→OldL b→OldL (a++b)
 |[],b,_,h=>h
 |x :: a,b,h,h'=>by simp only[OldL]at h;simp only[List.cons_append,OldL];exact⟨h.1,Kp h.2 h'⟩
theorem Vd{first caps:List SV}{v:Value}(hf:OldL first)(hc:OldL caps):OldL (first++SV.val v :: caps):=Kp hf (by simp only[OldL,Old];exact⟨trivial,hc⟩)
end
end Go.Sx
end
section
namespace Go.Sx
open Go.RowKit
variable{base w:World}{okc:Nat→Prop}{ns:Nat}{outs:jj}{a:Act}{st:St}
def qdj:Op→Bool
 |.defer _=>false
 |_=>true
def qqb(P:Program)(O:Ctx)(op:Op)(st:St)(K:St→Prop):Prop:=
 ∀(base:World)(okc:Nat→Prop)(ns:Nat)(r:Nat→Option Nat)(outs:jj)(a:Act)(w:World)(o:Oper),o.op=op→InvR O base okc ns st.nid r outs st a w→
  ∃w',(execOp a.eval o).run P w=.ok .skip w'∧∃st' r',K st'∧st.nid≤st'.nid∧InvR O base okc ns st'.nid r' outs st' a w'
def opH(P:Program)(O:Ctx)(ds:List (Option Tmp))(o:Oper)(st:St)(K:St→Prop):Prop:=
 zp ds o.guard st
  (λst=>Q2 P O (Tag.mk:Tag True) (Tag.mk:Tag o.op) o.dst st.nid st (λst'=>K ⟨inD o.dst st'.fr,st'.hp,st'.nid+1⟩) .mk (stepR P (look st.fr) st.hp o.op)∨(qdj o.op=true∧(OpVC P O o.op st (λst' res=>K (st'.putI o.dst res))∨qqb P O o.op st (λst'=>K (st'.putI o.dst undefSV)))))
  (λst=>K (st.putI o.dst undefSV))
def w8(f:Nat→Oper→Prop):Nat→List Oper→Prop
 |_,[]=>True
 |i,o :: rest=>f i o∧w8 f (i+1) rest
theorem qbN{f:Nat→Oper→Prop}{i:Nat}:w8 f i []:=trivial
theorem zZ{f:Nat→Oper→Prop}{i:Nat}{o:Oper}{rest:List Oper}(h:f i o)(h':w8 f (i+1) rest):w8 f i (o :: rest):=⟨h,h'⟩
theorem j9{f:Nat→Oper→Prop}:∀{ops:List Oper}{i:Nat},(∀j o,ops[j]? = some o→f (i+j) o)→w8 f i ops
 |[],i,h=>trivial
 |o :: ops,i,h=>⟨h 0 o rfl,j9 λj o' ho=>by
  have:=h (j+1) o' (by simpa using ho)
  rwa [show i+(j+1)=i+1+j by omega]at this⟩
theorem Qu{f:Nat→Oper→Prop}:∀{ops:List Oper}{i:Nat},w8 f i ops→∀j o,ops[j]? = some o→f (i+j) o
 |[],i,h,j,o,ho=>by simp at ho
 |p :: ops,i,h,j,o,ho=>by
  cases j with
  |zero=>simp at ho;subst ho;exact h.1
  |succ j=>have:=Qu h.2 j o (by simpa using ho);rwa [show i+1+j=i+(j+1) by omega]at this
def qdk(ms:List Nat)(m:Nat):Prop:=∀j i,(ms.getD j 0).testBit i=true→m.testBit j=true→m.testBit i=true
def qov(P:Program)(O:Ctx)(ops:List Oper)(ms:List Nat)(inv:Nat→St→Prop)(i:Nat)(o:Oper):Prop:=
 ∀m st,inv m st→qdk ms m→m.testBit i=false→(∀j,(ms.getD i 0).testBit j=true→j≠i→m.testBit j=true)→
  opH P O (dsts ops) o st λst2=>∃st3,Weak O st2 st3∧inv (m ||| 2^i) st3
section
variable{P:Program}
theorem InvR.same{O:Ctx}{n:Nat}{r:Nat→Option Nat}{fr fr':List (Nat×SV)}{hp:List (Nat×Blk)}{nid:Nat}(h:InvR O base okc ns n r outs ⟨fr,hp,nid⟩ a w)(e:∀t,look fr' t=look fr t):InvR O base okc ns n r outs ⟨fr',hp,nid⟩ a w:=
 ⟨h.sat,h.keys,λt=>by show Rep _ _ _ _ (look fr' t) _;rw[e];exact h.fr t,h.size,h.lo,h.out,h.rfix,h.defers⟩
theorem InvR.putI{O:Ctx}{n:Nat}{r:Nat→Option Nat}{d:Option Tmp}{v:SV}(h:InvR O base okc ns n r outs (st.put d v) a w):InvR O base okc ns n r outs (st.putI d v) a w:=by
 cases d with
 |none=>exact h
 |some d=>exact h.same (fr':=putIn st.fr d v) λt=>by rw[we];rfl
theorem kF(st:St)(d:Option Tmp)(v:SV):(st.putI d v).nid=st.nid:=by cases d<;>rfl
theorem qbO{O:Ctx}{ro:Option Nat}{ops:Array Oper}{Q:Exit→Act→World→Prop}{o:Oper}{K:St→Prop}{K':Act→World→Prop}
  (h:Inv O base okc ns st.nid outs st a w) (hd:jk ns o=true) (ho:opH P O (dsts ops.toList) o st K) (hK:∀st' a' w',K st'→Inv O base okc ns st'.nid outs st' a' w'→K' a' w') :
  if Region.wanted o (yielded ops a.tmps)then o.wpIn (FR ro) 0 P a w K' Q else(∀f,o.about P w a.eval=some f→(FR ro).fn f)∧K' (a.put o.dst undef) w:=by
 have hd':∀t,o.dst=some t→t<ns:=λt ht=>by simpa[jk,ht]using hd
 obtain⟨r,hr⟩:=h;obtain⟨st',hnid,h',hcase⟩:=Gj hr ho;rcases hcase with⟨hw,hrun⟩|⟨hw,hskip⟩
 ·rw[if_pos hw]
  rw[←hnid]at h';rcases hrun with hrun|hrun
  ·refine qbp (i:=0) (by simpa using h') hd (by exact hrun) λst1 a1 w1 hk1 hn1 _ h1=>?_
   obtain⟨r1,h1⟩:=h1.nid (st1.nid+1);exact hK _ _ _ hk1 ⟨r1,h1.same λt=>gC _ _ _⟩
  ·obtain⟨hnd,hrun⟩:=hrun
   have hnd:∀c,o.op≠.defer c:=λc e=>by rw[e]at hnd;cases hnd
   refine⟨λ_ _=>trivial,?_⟩;rw[Oper.semAt_eq _ _ _ hnd];rcases hrun with hrun|hrun
   ·obtain⟨v,w',e1,st2,r',res,hk,hn,hi,hv⟩:=hrun base okc ns r outs a w o rfl h'
    rw[e1];exact hK _ _ _ hk ⟨r',by rw[kF];exact(hi.step (Step.refl hi.sat) hi.keys (xa5 _) hd' hv).putI⟩
   ·obtain⟨w',e1,st2,r',hk,hn,hi⟩:=hrun base okc ns r outs a w o rfl h'
    rw[e1];exact hK _ _ _ hk ⟨r',by rw[kF];exact(hi.step (Step.refl hi.sat) hi.keys (xa5 _) hd' (.val _)).putI⟩
 ·rw[if_neg (by rw[hw];simp)]
  exact⟨λ_ _=>trivial,hK _ _ _ hskip ⟨r,by rw[kF,hnid];exact(h'.step (Step.refl h'.sat) h'.keys (xa5 _) hd' (.val _)).putI⟩⟩
def qlz(P:Program)(O:Ctx)(ops:List Oper)(ms:List Nat)(inv:Nat→St→Prop)(i:Nat)(o:Oper):Prop:=
 ∀m st,inv m st→qdk ms m→m.testBit i=false→(∀j,(ms.getD i 0).testBit j=true→j≠i→m.testBit j=true)→
  ∃st1,Weak O st st1∧opH P O (dsts ops) o st1 λst2=>∃st3,Weak O st2 st3∧inv (m ||| 2^i) st3
theorem wq(hm:P.follows .mixedOrders=true){O:Ctx}{st0:St}{K:Ex→St→Prop}{id:Nat}{ops:List Oper}(inv:Nat→St→Prop){ms:List Nat}(hms:zh [] ops=ms)(hedge:k9 0 ops=true)(hw0:Weak O st st0)(h0:inv 0 st0)(hs:w8 (qlz P O ops ms inv) 0 ops)
  (hend:∀m st',inv m st'→(∀i,i<ops.length→m.testBit i=true)→∃st2,Weak O st' st2∧K .normal st2) {g:Tag K}:jC P O id ops true st K g:=by
 subst hms;intro base okc ns outs a w ro Q hro hc hi hK
 replace hi:=hw0 _ _ _ _ _ _ hi
 simp only[qJ,xe6]at hc;obtain⟨hd,-⟩:=hc;obtain⟨r0,hr0⟩:=hi;have hdrew:Below w.heap.size w { w with drawn:=w.drawn+1 }:=⟨rfl,rfl,rfl,xa5 _,λ_ _=>rfl⟩;refine qhf hm Ωg hedge (λS a w=>∃m st,(∀i,m.testBit i=S i)∧inv m st∧Inv O base okc ns st.nid outs st a w) ⟨0,st0,xb3,h0,r0,hr0.step (hr0.sat.grow hdrew) hr0.keys (xa5 _) (d:=none) (λt ht=>by cases ht) (.top undef)⟩ ?_ ?_
 ·rintro S a w hS ⟨m,st,hb,hin,hi⟩
  obtain⟨st2,hw2,hk2⟩:=hend m st hin λi hi=>by rw[hb,hS];simpa using hi
  exact hK .normal st2 a w hk2 (hw2 _ _ _ _ _ _ hi)
 ·rintro S S' i o a w hS hC ho hif hB ⟨m,st,hb,hin,hi⟩ K' hK'
  have hop:=Qu hs i o ho;rw[xb0]at hop;obtain⟨st1,hw1,hop⟩:=hop m st hin (λj x h1 h2=>by rw[hb]at h2 ⊢;exact hC j x h1 h2) (by rw[hb];exact hif) (λj h1 h2=>by rw[hb];exact hB j h1 h2);refine qbO (ops:=ops.toArray) (hw1 _ _ _ _ _ _ hi) (List.all_eq_true.1 hd o (by simpa using List.mem_of_getElem? ho)) (by simpa using hop) λst' a' w' h3 hi'=>?_;obtain⟨st3,hw,hin'⟩:=h3;refine hK' _ _ ⟨m ||| 2^i,st3,λx=>?_,hin',hw _ _ _ _ _ _ hi'⟩
  grind
theorem qfV(hm:P.follows .mixedOrders=true){O:Ctx}{st0:St}{K:Ex→St→Prop}{id:Nat}{ops:List Oper}(inv:Nat→St→Prop){ms:List Nat}(hms:zh [] ops=ms)(hedge:k9 0 ops=true)(hw0:Weak O st st0)(h0:inv 0 st0)(hs:w8 (qov P O ops ms inv) 0 ops)
  (hend:∀m st',inv m st'→(∀i,i<ops.length→m.testBit i=true)→K .normal st') {g:Tag K}:jC P O id ops true st K g:=
 wq hm inv hms hedge hw0 h0 (j9 λi o ho m st h1 h2 h3 h4=>⟨st,Weak.refl _ _,Qu hs i o ho m st h1 h2 h3 h4⟩) λm st' h1 h2=>⟨st',Weak.refl _ _,hend m st' h1 h2⟩
end
def up:Bool→SV→SV
 |true,v=>v
 |false,_=>.top
theorem qZ(v:SV):up true v=v:=rfl
theorem qN(v:SV):up false v=.top:=rfl
theorem tb(m i j:Nat):(m ||| 2^i).testBit j=(m.testBit j || decide (i=j)):=by rw[Nat.testBit_or,Nat.testBit_two_pow]
def Qqq:=An tb<|An @Nat.succ_ne_self<|An Nat.zero_ne_one<|An Nat.one_ne_zero<|An @decide_false<|An @decide_true<|An @xf3<|An @Bool.or_true @xf4
section
variable{P:Program}{O:Ctx}
theorem YQ{es:Array MapEntry}{clock:Nat}(ht:VN es clock){j:Nat}{e0:MapEntry}(h:es[j]? = some e0):es.findIdx? (λe=>(e.born:Int) ==(e0.born:Int))=some j:=by
 cases hf:es.findIdx? (λe=>(e.born:Int) ==(e0.born:Int))with
 |none=>
  have:=Array.findIdx?_eq_none_iff.1 hf e0 (Array.mem_of_getElem? h);simp at this
 |some i=>
  obtain⟨hlt,h1,-⟩:=Array.findIdx?_eq_some_iff_getElem.1 hf;have e1:(es[i]).born=e0.born:=by
   grind
  rw[ht.once i j es[i] e0 (by simp[hlt]) h e1]
theorem qfW{t:TypeId}{m k:Operand}{mid:Nat}{dom:Value→Bool}{get:Value→SV}{K:St→SV→Prop}{ag:Bool}{ls:List Lf}{z:SV}{v:Value}(hx:env (look st.fr) m=.mp mid)(hk:keyV (env (look st.fr) k)=some v)(ht:qD P t=some ⟨ag,ls,z⟩)(hb:blk st.hp mid=some (.map (qh ag ls) dom get))
  (hfv:qh ag ls v=true) (hd:dom v=false)
  (h:∀(stamp:Value→Nat)(clk:Nat),K ⟨st.fr,setBlk st.hp mid (.mapS (qh ag ls) (qA dom v) (qB get v z) stamp clk),st.nid⟩ (.tup [z,Ψ (Φ Γ (stamp v))])):OpVC P O (.mapEntry t m k) st K:=by
 intro base okc ns r outs a w o ho hi;obtain⟨kt,et,ii,hu,hki,hinf,z0,hz,hz1⟩:=zJ ht;simp only[]at hki hz1;have hzr:∀{N G w'},Rep r N G w' z z0:=λ{N G w'}=>hz1▸qcV z0;have hv:=hi.env m;rw[hx]at hv;have hkk:=hi.env k;generalize hex:a.eval m=u at hv;generalize hek:a.eval k=y at hkk;obtain rfl:=jY hk hkk;cases hv with
 |mp _ b hN hr=>
 have hrep:=hi.sat.rep mid _ hb hN;rw[hr]at hrep;cases hrep with
 |map _ _ _ _ es clock hb' hmo htm hes=>
 obtain⟨-,p2⟩:=yB hki hmo htm hfv z0;obtain⟨hf,hmo',ht',hall⟩:=p2 hd;have hst:∀e,e∈es.push { key:=y,val:=z0,born:=clock }→e.born=stampOf (es.push { key:=y,val:=z0,born:=clock }) e.key:=λe he=>by
  have hex:∃e',e'∈es.push { key:=y,val:=z0,born:=clock }∧e'.key=e.key:=⟨e,he,rfl⟩;unfold stampOf;rw[dif_pos hex];obtain⟨c1,c2⟩:=Classical.choose_spec hex;obtain⟨i,hi⟩:=Array.mem_iff_getElem?.1 he;obtain⟨j,hj⟩:=Array.mem_iff_getElem?.1 c1;have:=hmo'.once i j _ _ hi hj c2.symm
  simp_all
 have hself:eqK y y=true:=(ja hki hfv hfv).2 rfl;have s1:Step base okc r (· < st.nid) st.hp w r (· < st.nid) (setBlk st.hp mid (.mapS (qh ag ls) (qA dom y) (qB get y z) (stampOf (es.push { key:=y,val:=z0,born:=clock })) (clock+1))) { w with heap:=w.heap.setIfInBounds b (.map (es.push { key:=y,val:=z0,born:=clock }) (clock+1)) }:=
  kx hi.sat hb hN hr hb' (λ_ _ _=>by simp) (.map (es.push { key:=y,val:=z0,born:=clock }) (clock+1)) _ λG' w' hw' hrep=>.mapS _ _ _ _ b _ (clock+1) hw' hmo' ht' hst λe' he'=>by
   rcases hall e' he' with⟨e1,e2⟩|⟨e1,e2⟩
   ·rw[e1,e2]
    simp only[qB,hself,svIte,if_true];exact hzr
   ·have:eqK y e'.key=false:=by
     cases hq:eqK y e'.key with
     |false=>rfl
     |true=>exact absurd (zz hq).symm e2
    simp only[qB,this,svIte,xe7,if_false]
    simp_all
 have hi1:InvR O base okc ns st.nid r outs ⟨st.fr,setBlk st.hp mid (.mapS (qh ag ls) (qA dom y) (qB get y z) (stampOf (es.push { key:=y,val:=z0,born:=clock })) (clock+1)),st.nid⟩ a { w with heap:=w.heap.setIfInBounds b (.map (es.push { key:=y,val:=z0,born:=clock }) (clock+1)) }:=
  hi.step s1 (vD hb hi.keys) (xa5 _) (d:=none) (λt ht=>by cases ht) (.top undef)
 have hcl:clock=stampOf (es.push { key:=y,val:=z0,born:=clock }) y:=hst { key:=y,val:=z0,born:=clock } Array.mem_push_self;refine⟨.tuple #[z0,goInt clock],_,?_,⟨st.fr,setBlk st.hp mid _,st.nid⟩,r,_,h (stampOf (es.push { key:=y,val:=z0,born:=clock })) (clock+1),xa5 _,hi1,.tup _ _ rfl λi sv hi=>?_⟩
 ·have e:execOp a.eval o=(do pure (.value (←Instr.mapEntry t (a.eval m) (a.eval k)))):=by
   obtain⟨dst,op,type,pos,aft,guard⟩:=o;simp only[]at ho;subst ho;rfl
  rw[e,hex,hek];have hobj:(getObj b).run P w=.ok (.map es clock) w:=by simp[getObj,Sem.run,hb']
  have hset:∀o,(setObj b o).run P w=.ok () { w with heap:=w.heap.setIfInBounds b o }:=λo=>by simp[setObj,Sem.run,hb']
  have hfes:∀e∈es.toList,qh ag ls e.key=true:=λe he=>hmo.fits e Ω1;have hzv:(zeroValue et).run P w=.ok z0 w:=by simp[zeroValue,typeInfo,hinf,hz]
  simp only[Instr.mapEntry,Sem.run_bind,run_underlying hu,Result.andThen_ok,hobj,kd hki hfv,kJ hki hfv es.toList hfes,hf,hzv,hset,Sem.run_pure]
 ·match i,hi with
  |0,hi=>simp at hi;subst hi;exact hzr
  |1,hi=>
   simp at hi;subst hi;rw[←hcl];exact .val _
theorem qfX{t:TypeId}{m s x:Operand}{mid clk:Nat}{fit dom:Value→Bool}{get:Value→SV}{stamp:Value→Nat}{K:St→Prop}{v:Value}{kt:TypeId}{ag:Bool}{ls:List Lf}(hki:kI P kt=some (ag,ls))(hfit:fit=qh ag ls)(hx:env (look st.fr) m=.mp mid)(hs:env (look st.fr) s=Ψ (Φ Γ (stamp v)))(hb:blk st.hp mid=some (.mapS fit dom get stamp clk))
  (hd:dom v=true)
  (h:K ⟨st.fr,setBlk st.hp mid (.map fit dom (qB get v (env (look st.fr) x))),st.nid⟩):qqb P O (.entryStore t m s x) st K:=by
 subst hfit;intro base okc ns r outs a w o ho hi;have hv:=hi.env m;rw[hx]at hv;have hss:=hi.env s;rw[hs]at hss;have hxx:=hi.env x;generalize hex:a.eval m=u at hv;generalize hes':a.eval s=u2 at hss;generalize hexx:a.eval x=y at hxx;cases hss;cases hv with
 |mp _ b hN hr=>
 have hrep:=hi.sat.rep mid _ hb hN;rw[hr]at hrep;cases hrep with
 |mapS _ _ _ _ _ es _ hb' hmo htm hst hes=>
 obtain⟨e0,he0,hk0⟩:=hmo.has v hd;obtain⟨j,hj⟩:=Array.mem_iff_getElem?.1 he0;have hother:∀(i:Nat)(e:MapEntry),es[i]? = some e→i≠j→e.key≠v:=λi e hi' hne hk=>hne (hmo.once i j e e0 hi' hj (hk.trans hk0.symm));have hfv:qh ag ls v=true:=by rw[←hk0];exact hmo.fits e0 he0
 have hself:eqK v v=true:=(ja hki hfv hfv).2 rfl;have hkeys:∀(i:Nat)(e:MapEntry),(es.modify j λe=>{ e with val:=y })[i]? = some e→∃e1,es[i]? = some e1∧e.key=e1.key∧e.born=e1.born∧((i=j∧e.val=y)∨(i≠j∧e=e1)):=λi e he=>by
  rw[vZ]at he;simp only[Option.map_eq_some_iff]at he;obtain⟨e1,h1,rfl⟩:=he;refine⟨e1,h1,?_⟩;split
  ·simp_all
  ·simp_all
 have hmo':wN (qh ag ls) dom (es.modify j λe=>{ e with val:=y }):=by
  refine⟨λi i' e f he hf hkk=>?_,λe he=>?_,λe he=>?_,λk hk=>?_⟩
  ·obtain⟨e1,h1,h2,_⟩:=hkeys i e he
   obtain⟨f1,h3,h4,_⟩:=hkeys i' f hf;exact hmo.once i i' e1 f1 h1 h3 (by rw[←h2,←h4];exact hkk)
  ·obtain⟨i,hi'⟩:=Array.mem_iff_getElem?.1 he
   obtain⟨e1,h1,h2,_⟩:=hkeys i e hi';rw[h2];exact hmo.fits e1 (Array.mem_of_getElem? h1)
  ·obtain⟨i,hi'⟩:=Array.mem_iff_getElem?.1 he
   obtain⟨e1,h1,h2,_⟩:=hkeys i e hi';rw[h2];exact hmo.doms e1 (Array.mem_of_getElem? h1)
  ·obtain⟨e1,he1,hk1⟩:=hmo.has k hk
   obtain⟨i,hi'⟩:=Array.mem_iff_getElem?.1 he1;refine⟨if i=j then { e1 with val:=y }else e1,Array.mem_of_getElem? (i:=i) (by rw[vZ,hi'];rfl),?_⟩
   grind
 have htm':VN (es.modify j λe=>{ e with val:=y }) clk:=by
  refine⟨λe he=>?_,λi i' e f he hf hkk=>?_⟩
  ·obtain⟨i,hi'⟩:=Array.mem_iff_getElem?.1 he
   obtain⟨e1,h1,_,h2,_⟩:=hkeys i e hi';rw[h2];exact htm.lt e1 (Array.mem_of_getElem? h1)
  ·obtain⟨e1,h1,_,h2,_⟩:=hkeys i e he
   obtain⟨f1,h3,_,h4,_⟩:=hkeys i' f hf;exact htm.once i i' e1 f1 h1 h3 (by rw[←h2,←h4];exact hkk)
 have s1:Step base okc r (· < st.nid) st.hp w r (· < st.nid) (setBlk st.hp mid (.map (qh ag ls) dom (qB get v (env (look st.fr) x)))) { w with heap:=w.heap.setIfInBounds b (.map (es.modify j λe=>{ e with val:=y }) clk) }:=
  kx hi.sat hb hN hr hb' (λ_ _ _=>by simp) (.map (es.modify j λe=>{ e with val:=y }) clk) _ λG' w' hw' hrep=>.map _ _ _ b _ clk hw' hmo' htm' λe' he'=>by
   obtain⟨i,hi'⟩:=Array.mem_iff_getElem?.1 he';obtain⟨e1,h1,h2,_,h3|h3⟩:=hkeys i e' hi'
   ·obtain⟨rfl,h3⟩:=h3
    rw[hj]at h1;cases h1;rw[h2,h3,hk0];simp only[qB,hself,svIte,if_true];exact hrep _ _ hxx
   ·obtain⟨hne,rfl⟩:=h3
    have:eqK v e'.key=false:=by
     cases hq:eqK v e'.key with
     |false=>rfl
     |true=>exact absurd (zz hq).symm (hother i e' h1 hne)
    simp only[qB,this,svIte,xe7,if_false]
    grind
 have hi1:InvR O base okc ns st.nid r outs ⟨st.fr,setBlk st.hp mid (.map (qh ag ls) dom (qB get v (env (look st.fr) x))),st.nid⟩ a { w with heap:=w.heap.setIfInBounds b (.map (es.modify j λe=>{ e with val:=y }) clk) }:=
  hi.step s1 (vD hb hi.keys) (xa5 _) (d:=none) (λt ht=>by cases ht) (.top undef)
 refine⟨_,?_,⟨st.fr,setBlk st.hp mid _,st.nid⟩,r,h,xa5 _,hi1⟩;obtain⟨dst,op,type,pos,aft,guard⟩:=o;simp only[]at ho;subst ho;simp only[execOp,hex,hes',hexx];have hobj:(getObj b).run P w=.ok (.map es clk) w:=by simp[getObj,Sem.run,hb']
 have hset:∀o,(setObj b o).run P w=.ok () { w with heap:=w.heap.setIfInBounds b o }:=λo=>by simp[setObj,Sem.run,hb']
 have hidx:=YQ htm hj;rw[hst e0 he0,hk0]at hidx;simp[Instr.entryStore,Sem.run_bind,Result.andThen_ok,hobj,asInt,asIntOf,hidx,hset,Sem.run_pure]
end
end Go.Sx
end
section
namespace Go.Sx
open Go.RowKit
section
variable{P:Program}{O:Ctx}{outs:jj}{base:World}{okc:Nat→Prop}{ns:Nat}
theorem farVS_nil(st:St)(X:Prop):qdb [] st X=X:=rfl
theorem farVS_cons(a b:Nat)(l:List (Nat×Nat))(fr:List (Nat×SV))(hp:List (Nat×Blk))(nid:Nat)(X:Prop):qdb ((a,b) :: l) ⟨fr,hp,nid⟩ X=(ZM (look fr a) (look fr b)∧qdb l ⟨fr,hp,nid⟩ X):=rfl
end
end Go.Sx
end
section
namespace Go.Sx
open Go.RowKit
variable{st:St}{fr:List (Nat×SV)}{nid:Nat}{far:Nat→List (Nat×Nat)}{args caps:List SV}{ps:List Tmp}{A:Code}
section
variable{P:Program}{O:Ctx}{base:World}{okc:Nat→Prop}{ns:Nat}{outs:jj}
theorem InvR.pushF(far:Nat→List (Nat×Nat)){r:Nat→Option Nat}{k:Nat}{a:Act}{w:World}(h:InvR O base okc ns k r outs st a w)(rcd:Option Loop)(hrc:∀L,rcd=some L→L.tmps=a.tmps)(rnd:Bool){a2:Act}{n2:Nat}
  (hfr:∀i,Rep r (· < k) (Gd base okc r (· < k) st.hp w) w (look fr i) (a2.tmps.getD i undef)) (hs:a2.tmps.size=n2) (hd:a2.defers=[]) :
  InvR ⟨⟨st.fr,rcd,ns,k⟩ :: O.fs,k,rnd,far⟩ base okc n2 k r ⟨a :: outs.as,r⟩ ⟨fr,st.hp,nid⟩ a2 w:=by
 refine⟨h.sat,h.keys,hfr,hs,xa5 _,⟨h.fr,xa5 _,h.size,hrc,h.out.mono h.lo λn hn sv v hv=>hv⟩,λ_ _=>rfl,?_⟩;obtain⟨Ds,h1,h2,h3⟩:=h.defers;exact⟨Ds,by simpa[Kv,hd]using h1,h2,h3⟩
theorem InvR.popF{r r0:Nat→Option Nat}{k k0:Nat}{st0:St}{a a0 a2:Act}{w w0:World}{rcd:Option Loop}{rnd:Bool}{n2 n0:Nat}
  (h:InvR ⟨⟨fr,rcd,ns,k0⟩ :: O.fs,k0,rnd,far⟩ base okc n2 k r ⟨a :: outs.as,r0⟩ st a2 w) (h0:InvR O base okc n0 k0 r0 outs st0 a0 w0) :
  InvR O base okc ns k r outs ⟨fr,st.hp,nid⟩ a w:=by
 obtain⟨o1,o2,o3,o4,o5⟩:=h.out;refine⟨h.sat,h.keys,λi=>(o1 i).mono (λ_ _=>rfl) (λi hi=>xa9 hi h.lo) (λ_ _ hg=>⟨hg,rfl⟩) (Shapes.refl _),o3,xc1 h0.lo h.lo,o5.low h0.out,λid hid=>(h.rfix id (xa9 hid h0.lo)).trans (h0.rfix id hid),?_⟩;obtain⟨Ds,h1,h2,h3⟩:=h.defers;unfold Kv at h1;simp only[List.map_cons,List.flatten_cons]at h1;obtain⟨l1,l2,rfl,e1,e2⟩:=List.append_eq_map_iff.1 h1;exact⟨l2,e2.symm,(List.nodup_append.1 h2).2.1,λD hD=>h3 D (by simp[hD])⟩
def GM(far:Nat→List (Nat×Nat))(fs:List Fr)(L:Loop)(fr:List (Nat×SV))(ps:List Tmp)(A B:Code):Prop:=
 ∃ns lo rest,fs=⟨fr,some L,ns,lo⟩ :: rest∧qJ far ns A=true∧qJ far ns B=true∧ps.all (λt=>decide (t<ns))=true∧L.params=ps.toArray∧L.assign=A∧L.body=B
theorem Ve(hm:P.follows .mixedOrders=true){y:Nat}{K:St→SV→Prop}{L:Loop}{B:Code}(R:GM far O.fs L fr ps A B)(hb:blk st.hp y=some (.loop L .ready))(hlen:args.length=ps.length)
  (h:∀out:List Fr,vc P ⟨out,st.nid,true,far⟩ A ⟨putPs fr ps args,st.hp,st.nid⟩ (w7 P ⟨out,st.nid,true,far⟩ y L B (j8 y L st.fr K))):wd P O y args st K:=by
 obtain⟨nc,lo,rest,hfs,hcA,hcB,hps,hpar,hass,hbody⟩:=R;intro base okc ns r outs a w vs l h0 hl ha hy hr;obtain⟨hheap,-⟩:=jo (s':=.ready) h0 hb hr;have hrun:=run_yield (P:=P) (args:=vs) hheap (by show vs.size=L.params.size;rw[hpar,←hl,hlen];simp);refine⟨_,_,_,_,hrun,?_⟩;have hout:=h0.out;rw[hfs]at hout;obtain⟨ac,outs',hac,o1,o2,o3,o4,o5⟩:∃ac outs',outs.as=ac :: outs'∧(∀i,Rep r (· < lo) (Gd base okc r (· < st.nid) st.hp w) w (look fr i) (ac.tmps.getD i undef))∧lo≤O.lo∧ac.tmps.size=nc∧(∀L',some L=some L'→L'.tmps=ac.tmps)∧OutOk r O.lo (Gd base okc r (· < st.nid) st.hp w) w rest outs':=by
  cases hA:outs.as with
  |nil=>rw[hA]at hout;exact hout.elim
  |cons ac outs'=>rw[hA]at hout;exact⟨ac,outs',rfl,hout⟩
 have htm:L.tmps=ac.tmps:=o4 L rfl;obtain⟨q1,q2⟩:=ZP (r:=r) (N:=(· < st.nid)) (G:=Gd base okc r (· < st.nid) st.hp w) (w:=w) (ns:=nc) (ps:=ps) (args:=args) (vs:=vs.toList) (fr:=fr) (tmps:=L.tmps)
  (λi=>by rw[htm];exact(o1 i).mono (λ_ _=>rfl) (λi hi=>xa9 hi (xc1 o2 h0.lo)) (λ_ _ hg=>⟨hg,rfl⟩) (Shapes.refl _)) (by rw[htm];exact o3) hps Ω5 (λi sv hi=>by simpa using ha i sv hi)
 have htmps:(L.params.zip vs).foldl (λtmps (t,a)=>tmps.setIfInBounds t a) L.tmps=(ps.zip vs.toList).foldl (λtmps (t,a)=>tmps.setIfInBounds t a) L.tmps:=by
  rw[hpar,←Array.foldl_toList];simp
 show RoundIn Fence.wide 0 P l L.fn ((L.params.zip vs).foldl (λtmps (t,a)=>tmps.setIfInBounds t a) L.tmps) L.assign L.body w _;rw[htmps,hass,hbody];refine roundIn_of_wpIn (F:=Fence.wide) trivial ?_;have hI:=h0.pushF far none (λ_ h=>by cases h) true (a2:={ tmps:=(ps.zip vs.toList).foldl (λtmps (t,a)=>tmps.setIfInBounds t a) L.tmps,defers:=[] }) (n2:=nc) (nid:=st.nid) q1 q2 rfl;refine wG hm (ro:=some l) (O:=⟨⟨st.fr,none,ns,st.nid⟩ :: O.fs,st.nid,true,far⟩) rfl A _ _ _ _ _ hcA (h _) ⟨r,hI⟩ λe st1 a1 w1 hk hi1=>?_;cases e with
 |exit i=>exact hk.elim
 |ret=>exact hk.elim
 |normal=>
  obtain⟨hb1,hvc⟩:=hk;have hb1:=GH hb1;obtain⟨r1,hi1⟩:=hi1;have e1:r1 y=some l:=(hi1.rfix y hy).trans hr;obtain⟨g1,t1⟩:=jo (s':=.busy) hi1 hb1 e1;refine⟨_,run_beginRound g1 rfl,?_⟩;refine wG hm (ro:=some l) (O:=⟨⟨st.fr,none,ns,st.nid⟩ :: O.fs,st.nid,true,far⟩) rfl B _ _ _ _ _ hcB hvc ⟨r1,t1⟩ λe st2 a2 w2 hk2 hi2=>?_;obtain⟨hb2,hk2⟩:=hk2;have hb2:=J9 hb2;obtain⟨r2,hi2⟩:=hi2;have e2:r2 y=some l:=(hi2.rfix y hy).trans hr;have fin:∀(jump:Option Code)(s':RSt),s'.state=(if jump.isNone then LoopState.ready else .done)→s'.pend=jump→K ⟨st.fr,setBlk st2.hp y (.loop L s'),st2.nid⟩ (.val (.bool jump.isNone))→
    ∃v w',(Instr.endRound l jump).run P w2=.ok v w'∧∃v' st' r' res,Ending.returned v=.returned v'∧K st' res∧st.nid≤st'.nid∧InvR O base okc ns st'.nid r' outs st' a w'∧Rep r' (· < st'.nid) (Gd base okc r' (· < st'.nid) st'.hp w') w' res v':=by
   intro jump s' hs1 hs2 hK;obtain⟨g2,t2⟩:=jo (s':=s') hi2 hb2 e2;refine⟨_,_,run_endRound jump g2,_,⟨st.fr,setBlk st2.hp y (.loop L s'),st2.nid⟩,r2,_,rfl,hK,hi2.lo,?_,.val _⟩;rw[hs1,hs2]at t2;exact t2.popF (nid:=st2.nid) h0
  cases e with
  |normal=>exact fin none .ready rfl rfl hk2
  |ret=>exact fin (some .ret) .retd rfl rfl hk2
  |exit i=>exact fin (some (.exit i)) (.left i) rfl rfl hk2
set_option maxHeartbeats 1000000 in
theorem Vf(hm:P.follows .mixedOrders=true)(hO:O.rnd=false){x:Operand}{B:Code}{K:Ex→St→Prop}{gf:FuncId}{fn:Func}{c:Code}(hg:env (look st.fr) x=.fn (.func gf) [] caps)(hf:P.funcs[gf]? = some fn)(hb:fn.body=some c)
  (hname : (fn.name == "runtime.NumGoroutine") = false) (hok : jz fn.ntmps c = true) (hres : fn.results.toList = []) (hlen : caps.length + 1 ≤ fn.ntmps)
  (h:∀(out:List Fr)(L:Loop),GM O.far out L st.fr ps A B→vc P ⟨out,st.nid+1,false,zC⟩ c ⟨argFr 0 (.yld st.nid :: caps),(st.nid,.loop L .ready) :: st.hp,st.nid+1⟩ (kj st.nid L st.fr K)):wF P O (.rangeFunc x ps.toArray A B) st K:=by
 intro base okc ns outs a w ro Q hro hc hinv hQ;obtain⟨r,hi⟩:=hinv;have hro0:ro=none:=by rw[hO]at hro;cases ro<;>simp at hro ⊢
 subst hro0;simp only[qJ,xe6]at hc;refine wpIn_rangeFunc λfn0 _=>?_;have hx:=hi.env x;rw[hg]at hx;generalize hex:a.eval x=u at hx;cases hx with
 |fn _ _ _ cs ds hl hmm h1 h2=>
 have hcs:cs = #[]:=Array.eq_empty_of_size_eq_zero (by simpa using hl.symm);subst hcs;generalize hW1:w.alloc (.deferred (some []))=W1;have hz1:W1.heap.size=w.heap.size+1:=by rw[←hW1];simp
 have hgrow:Step base okc r (· < st.nid) st.hp w r (· < st.nid) st.hp W1:=by rw[←hW1];exact hi.sat.grow ((Below.refl _ w).alloc (xa5 _) _)
 obtain⟨L,hL⟩:∃L:Loop,L = { state:=.ready,pending:=none,fn:=fn0,tmps:=a.tmps,params:=ps.toArray,assign:=A,body:=B,defers:=w.heap.size }:=⟨_,rfl⟩;have hLr:({ L with state:=RSt.ready.state,pending:=RSt.ready.pend }:Loop)=L:=by rw[hL];rfl
 have hi1:InvR O base okc ns st.nid r outs st a W1:=hi.step hgrow hi.keys (xa5 _) (d:=none) (λt ht=>by cases ht) (.top undef);have hnew:Step base okc r (· < st.nid) st.hp W1 (upd r st.nid (some W1.heap.size)) (zm (· < st.nid) st.nid) ((st.nid,.loop L .ready) :: st.hp) (W1.alloc (.loop L)):=
  hi1.sat.new st.nid Ωg (.loop L) (.loop L .ready) ΩS (λj hj=>by simp only[blk];rw[if_neg Ω]) λr' N' G' _ _ _ _ _=>.loop L .ready _ (by rw[hLr];exact qH W1 _)
 rw[gD]at hnew;have hi2:InvR O base okc ns (st.nid+1) (upd r st.nid (some W1.heap.size)) outs ⟨st.fr,(st.nid,.loop L .ready) :: st.hp,st.nid⟩ a (W1.alloc (.loop L)):=
  hi1.step hnew (λid y hy=>by
   simp only[blk]at hy;split at hy
   ·omega
   ·have:=hi1.keys id y hy;omega) Ω (d:=none) (λt ht=>by cases ht) (.top undef)
 have hD:(W1.alloc (.loop L)).heap[w.heap.size]? = some (.deferred (some [])):=by
  rw[zl _ _ Ω,←hW1];exact qH w _
 have hi3:InvR O base okc ns (st.nid+1) (upd r st.nid (some W1.heap.size)) outs ⟨st.fr,(st.nid,.loop L .ready) :: st.hp,st.nid⟩ { a with defers:=[vy w.heap.size]++a.defers } (W1.alloc (.loop L)):=by
  refine⟨hi2.sat,hi2.keys,hi2.fr,hi2.size,hi2.lo,hi2.out,hi2.rfix,?_⟩;obtain⟨Ds,e1,e2,e3⟩:=hi2.defers;obtain⟨Ds0,f1,f2,f3⟩:=hi.defers;have hDs:Ds=Ds0:=by
   have:Ds.map vy=Ds0.map vy:=by rw[←e1,←f1]
   exact(List.map_inj_right (λ_ _=>Yx)).1 this
  subst hDs;refine⟨w.heap.size :: Ds,by simp[Kv]at e1 ⊢;exact e1,List.nodup_cons.2 ⟨λhin=>?_,e2⟩,λD hDin=>?_⟩
  ·grind
  ·rcases List.mem_cons.1 hDin with e|e
   ·subst e
    refine⟨⟨Ωj,λid y hy hid=>?_,?_⟩,hD⟩
    ·simp only[blk]at hy
     split at hy
     ·rename_i e;subst e
      rw[qw]
      simp_all
     ·rename_i e
      rw[jQ _ e];intro e';have:=hi.sat.lt hy (hi.keys _ _ hy) e';omega
    ·simp only[if_true];exact hi.sat.below.size
   ·exact e3 D e
 obtain⟨vs,hvs⟩:∃vs:Array Value,vs = #[Value.func (Fn.yield W1.heap.size) #[] #[]]++ds:=⟨_,rfl⟩;have hvsz:vs.size=ds.size+1:=by rw[hvs];simp;omega
 have hargs:∀(i:Nat)(sv:SV),(SV.yld st.nid :: caps)[i]? = some sv→Rep (upd r st.nid (some W1.heap.size)) (· < st.nid+1) (Gd base okc (upd r st.nid (some W1.heap.size)) (· < st.nid+1) ((st.nid,.loop L .ready) :: st.hp) (W1.alloc (.loop L))) (W1.alloc (.loop L)) sv (vs.getD i undef):=by
  intro i sv hi';cases i with
  |zero=>
   rw[xd6]at hi';cases hi';have e:vs.getD 0 undef=Value.func (Fn.yield W1.heap.size) #[] #[]:=by
    simp_all
   rw[e];exact .yld _ _ (xb5 _) (qw _ _ _)
  |succ i=>
   rw[xd7]at hi';have e:vs.getD (i+1) undef=ds.getD i undef:=by
    rw[hvs];simp only[xf5]
    grind
   rw[e];exact hnew.rep (hgrow.rep (h2 i sv hi'))
 have hfr:=yH (args:=SV.yld st.nid :: caps) (vs:=vs) (n:=fn.ntmps) (by rw[hvsz,xe4,hmm]) Ω hargs;have hpush:=hi3.push (some L) (λL' e=>by cases e;rw[hL]) false (fr:=argFr 0 (.yld st.nid :: caps)) (a2:={ tmps:=vs++Array.replicate (fn.ntmps - vs.size) undef,defers:=[] }) (n2:=fn.ntmps) (nid:=st.nid+1) hfr Ωj rfl;refine⟨w.heap.size+1,[vy w.heap.size],W1.alloc (.loop L),{ target:=.fn (.func gf) ds,args:=#[.func (.yield (w.heap.size+1)) #[] #[]] },W1.alloc (.loop L),gf,
  vs,W1.alloc (.loop L),?_,?_,λ_ _=>trivial,?_,λhh=>by simp[FR]at hh,?_⟩
 ·rw[hL,←hW1];exact run_enterLoop_outer _ _ _ _ _
 ·simp only[Go.resolve,hex]
  simp[Deferred.ofValue,Act.eval]
 ·rw[hvs,hz1]
  exact gF hf hb hname _ _
 rw[←hz1];refine calls_FR.2 (kD hm hf hb hok (O:=⟨⟨st.fr,some L,ns,st.nid+1⟩ :: O.fs,st.nid+1,false,zC⟩) (outs:=⟨_,_⟩) (base:=base) (okc:=okc) (st0:=⟨argFr 0 (.yld st.nid :: caps),(st.nid,.loop L .ready) :: st.hp,st.nid+1⟩) rfl
  (Post:=λst' _=>kj st.nid L st.fr K .normal st') ⟨_,hpush⟩ ?_ λst' r' a' w' m us hP hi4 hml hreps=>?_)
 ·have e:(λ(e:Ex)(st':St)=>match e with|.exit _=>False|_=>resultsVC P fn.results.toList st' (λ_=>kj st.nid L st.fr K .normal st'))=kj st.nid L st.fr K:=by
   funext e st';cases e
   ·exact jc hres _ _
   ·rfl
   ·exact jc hres _ _
  have hh:=h _ L ⟨ns,st.nid+1,O.fs,rfl,hc.1.1,hc.1.2,(by simpa using hc.2),by rw[hL],by rw[hL],by rw[hL]⟩;rw[←e]at hh;exact hh
 ·obtain⟨s,hbs,hs⟩:=Kn hP
  have er:r' st.nid=some W1.heap.size:=by
   rw[hi4.rfix st.nid (xb5 _)];exact qw _ _ _
  obtain⟨g1,t1⟩:=jo (s':=.over s.pend) hi4 hbs er;have hback:=(t1.forget st.nid).pop (nid:=st'.nid) hi3;have hsame:dropBlk (setBlk st'.hp st.nid (.loop L (.over s.pend))) st.nid=dropBlk st'.hp st.nid:=by
   have:∀(hp:List (Nat×Blk))(y:Nat)(x:Blk),dropBlk (setBlk hp y x) y=dropBlk hp y:=by
    intro hp y x
    induction hp with
    |nil=>rfl
    |cons p hp ih=>
     obtain⟨i,v⟩:=p;simp only[setBlk,dropBlk];by_cases e:y=i
     ·simp[e,dropBlk]
     ·simp[e,dropBlk,ih]
   exact this _ _ _
  simp only[hsame]at hback;have hnb:s.state≠.busy:=by cases s<;>simp[RSt.state]<;>exact hs
  refine⟨s.pend,_,run_endLoop g1 hnb,?_⟩;have fin:∀e,K e ⟨st.fr,dropBlk st'.hp st.nid,st'.nid⟩→Q (Gz e) { a with defers:=[vy w.heap.size]++a.defers } (w'.putObj W1.heap.size (.loop { L with state:=.exhausted,pending:=s.pend })):=λe hk=>hQ e _ _ _ hk ⟨r',hback⟩;cases s with
  |ready=>exact fin .normal hs
  |busy=>exact hs.elim
  |retd=>exact wpIn_ret (fin .ret hs)
  |left i=>exact wpIn_exit (fin (.exit i) hs)
  |over p=>exact hs.elim
end
section
variable{P:Program}{O:Ctx}{J:Prop}{j:Tag J}
theorem We(hm:P.follows .mixedOrders=true){d:Option Tmp}{id:Nat}{hp:List (Nat×Blk)}{K:St→Prop}{g:Tag K}{y:Nat}{L:Loop}{fr0:List (Nat×SV)}{B:Code}(hJ:J)(R:GM far O.fs L fr0 ps A B)(hb:blk hp y=some (.loop L .ready))(hlen:args.length=ps.length)
  (h:∀out:List Fr,vc P ⟨out,id,true,far⟩ A ⟨putPs fr0 ps args,hp,id⟩ (w7 P ⟨out,id,true,far⟩ y L B (j8 y L fr λst' res=>K (st'.put d res)))):V7 P O j d id fr hp K g y args:=
 ⟨hJ,Ve hm R hb hlen h⟩
theorem qdl(hm:P.follows .mixedOrders=true){fs:List Fr}{lo:Nat}{x:Operand}{B:Code}{hp:List (Nat×Blk)}{K:Ex→St→Prop}{g:Tag K}{gf:FuncId}{fn:Func}{c:Code}(hg:env (look fr) x=.fn (.func gf) [] caps)(hf:P.funcs[gf]? = some fn)(hb:fn.body=some c)
  (hname : (fn.name == "runtime.NumGoroutine") = false) (hok : jz fn.ntmps c = true) (hres : fn.results.toList = []) (hlen : caps.length + 1 ≤ fn.ntmps)
  (h:∀(out:List Fr)(L:Loop),GM far out L fr ps A B→vc P ⟨out,nid+1,false,zC⟩ c ⟨argFr 0 (.yld nid :: caps),(nid,.loop L .ready) :: hp,nid+1⟩ (kj nid L fr K)):qoq P ⟨fs,lo,false,far⟩ (.rangeFunc x ps.toArray A B) ⟨fr,hp,nid⟩ K g:=
 Vf hm rfl hg hf hb hname hok hres hlen h
end
end Go.Sx
end
section
namespace Go.Sx
open Go.RowKit
variable{L r:List (Nat×List (Nat×Nat))}{a x y:Nat}{k l:List (Nat×Nat)}
def qV:List (Nat×List (Nat×Nat))→Nat→List (Nat×Nat)
 |[],_=>[]
 |(n,l) :: r,i=>if i=n then l else qV r i
def qbP:List (Nat×List (Nat×Nat))→Nat→Bool
 |[],_=>true
 |(n,_) :: r,i=>!decide (i=n)&&qbP r i
theorem farN_nil(i:Nat):qbP [] i=true:=rfl
theorem farN_cons(n:Nat)(l:List (Nat×Nat))(r:List (Nat×List (Nat×Nat)))(i:Nat):qbP ((n,l) :: r) i=(!decide (i=n)&&qbP r i):=rfl
theorem Vg:∀{L:List (Nat×List (Nat×Nat))}{i:Nat},qbP L i=true→qV L i=[]
 |[],_,_=>rfl
 |(n,l) :: r,i,h=>by
  simp only[qbP,xe6,Bool.not_eq_true',decide_eq_false_iff_not]at h;simp only[qV];rw[if_neg h.1];exact Vg h.2
section
variable{P:Program}{fs:List Fr}{lo:Nat}{rnd:Bool}
theorem Qv{n:Nat}(e:qV L n=(x,y) :: l)(hxy:x≠y)(ops:List Oper)(d:Bool)(st:St)(K:Ex→St→Prop):vc P ⟨fs,lo,rnd,qV L⟩ (.region n ops.toArray d) st K=zc P ⟨fs,lo,rnd,qV L⟩ (kr d ops=true) (dsts ops) ops 0 st (λst'=>FarVC ((x,y) :: l) st' (K .normal ⟨st'.fr,st'.hp,st'.nid+ops.length⟩)):=by
 show(if gz (qV L n)=true then _ else zc P _ _ _ _ 0 st (λst'=>FarVC (qV L n) st' (K .normal ⟨st'.fr,st'.hp,st'.nid+ops.length⟩)))=_;rw[e,if_neg (by simp[gz,hxy])]
theorem wr{n:Nat}(e:qV L n=[(0,0)])(ops:List Oper)(d:Bool)(st:St)(K:Ex→St→Prop):vc P ⟨fs,lo,rnd,qV L⟩ (.region n ops.toArray d) st K=jC P ⟨fs,lo,rnd,qV L⟩ n ops d st K .mk:=by
 show(if gz (qV L n)=true then wF P _ (.region n ops.toArray d) st K else _)=_;rw[e,if_pos Ωr];rfl
theorem vc_regLN(id:Nat)(ops:List Oper)(d:Bool)(st:St)(K:Ex→St→Prop)(h:qbP L id=true):vc P ⟨fs,lo,rnd,qV L⟩ (.region id ops.toArray d) st K=zc P ⟨fs,lo,rnd,qV L⟩ (kr d ops=true) (dsts ops) ops 0 st (λst'=>K .normal ⟨st'.fr,st'.hp,st'.nid+ops.length⟩):=by
 have e:=Vg h;show(if gz (qV L id)=true then _ else zc P _ _ _ _ 0 st (λst'=>FarVC (qV L id) st' (K .normal ⟨st'.fr,st'.hp,st'.nid+ops.length⟩)))=_;rw[e];rfl
theorem vc_regL1(n:Nat)(ops:List Oper)(d:Bool)(st:St)(K:Ex→St→Prop)(hxy:x≠y):vc P ⟨fs,lo,rnd,qV ((n,(x,y) :: l) :: r)⟩ (.region n ops.toArray d) st K=zc P ⟨fs,lo,rnd,qV ((n,(x,y) :: l) :: r)⟩ (kr d ops=true) (dsts ops) ops 0 st (λst'=>FarVC ((x,y) :: l) st' (K .normal ⟨st'.fr,st'.hp,st'.nid+ops.length⟩)):=Qv (by simp[qV]) hxy ops d st K
theorem vc_regL2(n:Nat)(ops:List Oper)(d:Bool)(st:St)(K:Ex→St→Prop)(h:n≠a)(hxy:x≠y):vc P ⟨fs,lo,rnd,qV ((a,k) ::(n,(x,y) :: l) :: r)⟩ (.region n ops.toArray d) st K=zc P ⟨fs,lo,rnd,qV ((a,k) ::(n,(x,y) :: l) :: r)⟩ (kr d ops=true) (dsts ops) ops 0 st (λst'=>FarVC ((x,y) :: l) st' (K .normal ⟨st'.fr,st'.hp,st'.nid+ops.length⟩)):=Qv (by simp[qV,h]) hxy ops d st K
theorem vc_regL3{b:Nat}{j:List (Nat×Nat)}(n:Nat)(ops:List Oper)(d:Bool)(st:St)(K:Ex→St→Prop)(h:n≠a)(h2:n≠b)(hxy:x≠y):vc P ⟨fs,lo,rnd,qV ((a,k) ::(b,j) ::(n,(x,y) :: l) :: r)⟩ (.region n ops.toArray d) st K=zc P ⟨fs,lo,rnd,qV ((a,k) ::(b,j) ::(n,(x,y) :: l) :: r)⟩ (kr d ops=true) (dsts ops) ops 0 st (λst'=>FarVC ((x,y) :: l) st' (K .normal ⟨st'.fr,st'.hp,st'.nid+ops.length⟩)):=Qv (by simp[qV,h,h2]) hxy ops d st K
theorem vc_regH1(n:Nat)(ops:List Oper)(d:Bool)(st:St)(K:Ex→St→Prop):vc P ⟨fs,lo,rnd,qV ((n,[(0,0)]) :: r)⟩ (.region n ops.toArray d) st K=jC P ⟨fs,lo,rnd,qV ((n,[(0,0)]) :: r)⟩ n ops d st K .mk:=wr (by simp[qV]) ops d st K
theorem vc_regH2(n:Nat)(ops:List Oper)(d:Bool)(st:St)(K:Ex→St→Prop)(h:n≠a):vc P ⟨fs,lo,rnd,qV ((a,k) ::(n,[(0,0)]) :: r)⟩ (.region n ops.toArray d) st K=jC P ⟨fs,lo,rnd,qV ((a,k) ::(n,[(0,0)]) :: r)⟩ n ops d st K .mk:=wr (by simp[qV,h]) ops d st K
theorem vc_regH3{b:Nat}{j:List (Nat×Nat)}(n:Nat)(ops:List Oper)(d:Bool)(st:St)(K:Ex→St→Prop)(h:n≠a)(h2:n≠b):vc P ⟨fs,lo,rnd,qV ((a,k) ::(b,j) ::(n,[(0,0)]) :: r)⟩ (.region n ops.toArray d) st K=jC P ⟨fs,lo,rnd,qV ((a,k) ::(b,j) ::(n,[(0,0)]) :: r)⟩ n ops d st K .mk:=wr (by simp[qV,h,h2]) ops d st K
end
theorem sBlk_ptr(i o:Nat):vt (.ptr i o)=some i:=rfl
theorem sBlk_elt(i a b c:Nat):vt (.elt i a b c)=some i:=rfl
theorem sBlk_vec(i a b:Nat):vt (.vec i a b)=some i:=rfl
theorem sBlk_cut(i a b:Nat):vt (.cut i a b)=some i:=rfl
theorem sBlk_asl(i a b c:Nat):vt (.asl i a b c)=some i:=rfl
theorem sBlk_val(v:Value):vt (.val v)=none:=rfl
theorem sBlk_arr(o f:Bool)(n k:Nat)(row:Nat→Nat→SV):vt (.arr o f n k row)=none:=rfl
theorem sBlk_ref(o:Bool)(n:Nat)(row:Nat→SV):vt (.ref o n row)=none:=rfl
def apO:Option Nat→Option Nat→Prop
 |some i,some j=>i≠j
 |_,_=>True
theorem apO_ss(i j:Nat):apO (some i) (some j)=(i≠j):=rfl
theorem apO_n(x:Option Nat):apO none x=True:=by cases x<;>rfl
theorem apO_sn(x:Nat):apO (some x) none=True:=rfl
theorem apartS_eq(s s':SV):ZM s s'=apO (vt s) (vt s'):=by unfold ZM apO;rfl
def RW:=
 An @Go.Sx.vc_regLN <|
 An @Go.Sx.vc_regL1 <|
 An @Go.Sx.vc_regL2 <|
 An @Go.Sx.vc_regL3 <|
 An @Go.Sx.vc_regH1 <|
 An @Go.Sx.vc_regH2 <|
 An @Go.Sx.vc_regH3 <|
 An @Go.Sx.farN_nil <|
 An @Go.Sx.farN_cons <|
 An @Go.Sx.farVS_nil <|
 An @Go.Sx.farVS_cons <|
 An @Go.Sx.apartS_eq <|
 An @Go.Sx.sBlk_ptr <|
 An @Go.Sx.sBlk_elt <|
 An @Go.Sx.sBlk_vec <|
 An @Go.Sx.sBlk_cut <|
 An @Go.Sx.sBlk_asl <|
 An @Go.Sx.sBlk_val <|
 An @Go.Sx.sBlk_arr <|
 An @Go.Sx.sBlk_ref <|
 An @Go.Sx.apO_ss <|
 An @Go.Sx.apO_n <|
 @Go.Sx.apO_sn
end Go.Sx
end
section
namespace Go.Sx
open Go.RowKit
variable{l:List (Nat×Blk)}{i n:Nat}{b:Blk}
section
variable{P:Program}{O:Ctx}
theorem Wf{t:TypeId}{m k:Operand}{mid:Nat}{dom:Value→Bool}{get:Value→SV}{st:St}{K:St→SV→Prop}{ag:Bool}{ls:List Lf}{z:SV}{v:Value}(hx:env (look st.fr) m=.mp mid)(hk:keyV (env (look st.fr) k)=some v)(ht:qD P t=some ⟨ag,ls,z⟩)(hb:blk st.hp mid=some (.map (qh ag ls) dom get))
  (hfv:qh ag ls v=true) (hd:dom v=true)
  (h:∀(stamp:Value→Nat)(clk:Nat),K ⟨st.fr,setBlk st.hp mid (.mapS (qh ag ls) dom get stamp clk),st.nid⟩ (.tup [get v,Ψ (Φ Γ (stamp v))])):OpVC P O (.mapEntry t m k) st K:=by
 intro base okc ns r outs a w o ho hi;obtain⟨kt,et,ii,hu,hki,hinf,z0,hz,hz1⟩:=zJ ht;simp only[]at hki;have hv:=hi.env m;rw[hx]at hv;have hkk:=hi.env k;generalize hex:a.eval m=u at hv;generalize hek:a.eval k=y at hkk;obtain rfl:=jY hk hkk;cases hv with
 |mp _ b hN hr=>
 have hrep:=hi.sat.rep mid _ hb hN;rw[hr]at hrep;cases hrep with
 |map _ _ _ _ es clock hb' hmo htm hes=>
 obtain⟨p1,-⟩:=yB hki hmo htm hfv z0;obtain⟨i,e,hf,hie,hek',-⟩:=p1 hd;have hsame:es.modify i (λe=>{ e with key:=y })=es:=by
  refine Array.ext Ωg λj h1 h2=>?_;simp only[Array.getElem_modify];split
  ·rename_i e1
   subst e1;have:=Array.getElem?_eq_some_iff.1 hie;obtain⟨_,e2⟩:=this;rw[e2,←hek']
  ·rfl
 have hst:∀e,e∈es→e.born=stampOf es e.key:=λe he=>by
  have hex:∃e',e'∈es∧e'.key=e.key:=⟨e,he,rfl⟩;unfold stampOf;rw[dif_pos hex];obtain⟨c1,c2⟩:=Classical.choose_spec hex;obtain⟨i,hi⟩:=Array.mem_iff_getElem?.1 he;obtain⟨j,hj⟩:=Array.mem_iff_getElem?.1 c1;have:=hmo.once i j _ _ hi hj c2.symm
  simp_all
 have s1:Step base okc r (· < st.nid) st.hp w r (· < st.nid) (setBlk st.hp mid (.mapS (qh ag ls) dom get (stampOf es) clock)) { w with heap:=w.heap.setIfInBounds b (.map es clock) }:=
  kx hi.sat hb hN hr hb' (λ_ _ _=>by simp) (.map es clock) _ λG' w' hw' hrep=>.mapS _ _ _ _ b _ clock hw' hmo htm hst λe' he'=>hrep _ _ (hes e' he')
 have hi1:InvR O base okc ns st.nid r outs ⟨st.fr,setBlk st.hp mid (.mapS (qh ag ls) dom get (stampOf es) clock),st.nid⟩ a { w with heap:=w.heap.setIfInBounds b (.map es clock) }:=
  hi.step s1 (vD hb hi.keys) (xa5 _) (d:=none) (λt ht=>by cases ht) (.top undef)
 have hme:e∈es:=Array.mem_of_getElem? hie;have hrv:=s1.rep (hes e hme);rw[hek']at hrv;refine⟨.tuple #[e.val,goInt e.born],_,?_,⟨st.fr,setBlk st.hp mid _,st.nid⟩,r,_,h (stampOf es) clock,xa5 _,hi1,.tup _ _ rfl λi sv hi=>?_⟩
 ·have e0:execOp a.eval o=(do pure (.value (←Instr.mapEntry t (a.eval m) (a.eval k)))):=by
   obtain⟨dst,op,type,pos,aft,guard⟩:=o;simp only[]at ho;subst ho;rfl
  rw[e0,hex,hek];have hobj:(getObj b).run P w=.ok (.map es clock) w:=by simp[getObj,Sem.run,hb']
  have hset:∀o,(setObj b o).run P w=.ok () { w with heap:=w.heap.setIfInBounds b o }:=λo=>by simp[setObj,Sem.run,hb']
  have hfes:∀e∈es.toList,qh ag ls e.key=true:=λe he=>hmo.fits e Ω1;have hkeep:(Instr.keyThatStays y y).run P w=.ok y w:=by simp[Instr.keyThatStays,vY hki hfv]
  simp only[Instr.mapEntry,Sem.run_bind,run_underlying hu,Result.andThen_ok,hobj,kd hki hfv,kJ hki hfv es.toList hfes,hf,hie,xg1,xg0,hek',hkeep,hsame,hset,Sem.run_pure]
 ·match i,hi with
  |0,hi=>simp at hi;subst hi;exact hrv
  |1,hi=>
   simp at hi;subst hi;rw[←hek',←hst e hme];exact .val _
end
theorem jd(n k:Nat):(n+(k+1)=n)=False:=by simp
theorem je(n k:Nat):(n=n+(k+1))=False:=by simp
def Under(l:List (Nat×Blk))(n:Nat):Prop:=∀k x,blk l k=some x→k<n
theorem Under.none(h:Under l n){k:Nat}(hk:n≤k):blk l k=none:=by
 cases hb:blk l k with
 |none=>rfl
 |some x=>have:=h k x hb;omega
theorem Under.mono{m:Nat}(h:Under l n)(hm:n≤m):Under l m:=λk x hx=>xa9 (h k x hx) hm
theorem Under.cons(h:Under l n)(hi:i<n):Under ((i,b) :: l) n:=λk x hx=>by
 simp only[blk]at hx;split at hx
 ·omega
 ·exact h k x hx
theorem Under.nil:Under [] n:=λk x hx=>by simp[blk]at hx
theorem SubHp.cons{l':List (Nat×Blk)}(h:SubHp l l'):SubHp ((i,b) :: l) ((i,b) :: l'):=λk x hx=>by
 simp only[blk]at hx ⊢;split
 ·simp_all
 ·rename_i e;rw[if_neg e]at hx;exact h k x hx
theorem SubHp.skip{l':List (Nat×Blk)}(hb:blk l' i=none)(h:SubHp l l'):SubHp ((i,b) :: l) l':=λk x hx=>by
 simp only[blk];split
 ·simp_all
 ·exact h k x hx
theorem SubHp.swap{j:Nat}{c:Blk}(h:i≠j):SubHp ((i,b) ::(j,c) :: l) ((j,c) ::(i,b) :: l):=λk x hx=>by
 simp only[blk]at hx ⊢;by_cases e1:k=j
 ·grind
 ·simp_all
def QS:=An @jd<|An @je<|An @Nat.add_zero<|An @Nat.add_assoc<|An @qig @YP
def QR:=An @jd<|An @je<|An @Nat.add_zero @Nat.add_assoc
end Go.Sx
end
section
namespace Go.Sx
open Go.RowKit
section
variable{P:Program}{O:Ctx}
end
def hd0:List (Nat×Nat)→Bool
 |[(0,0)]=>true
 |_=>false
def GN:List (Nat×List (Nat×Nat))→Nat→Bool
 |[],_=>false
 |(n,l) :: r,i=>if i=n then hd0 l else GN r i
theorem GO:∀{L:List (Nat×List (Nat×Nat))}{i:Nat},GN L i=true→qV L i=[(0,0)]
 |[],_,h=>by cases h
 |(n,l) :: r,i,h=>by
  simp only[GN]at h;simp only[qV];split at h
  ·rename_i e
   rw[if_pos e];unfold hd0 at h;split at h
   ·rfl
   ·cases h
  ·rename_i e
   rw[if_neg e];exact GO h
theorem vc_regLH{P:Program}{fs:List Fr}{lo:Nat}{rnd:Bool}{L:List (Nat×List (Nat×Nat))}(n:Nat)(ops:List Oper)(d:Bool)(st:St)(K:Ex→St→Prop)(h:GN L n=true):vc P ⟨fs,lo,rnd,qV L⟩ (.region n ops.toArray d) st K=jC P ⟨fs,lo,rnd,qV L⟩ n ops d st K .mk:=wr (GO h) ops d st K
theorem farHd_nil(i:Nat):GN [] i=false:=rfl
theorem farHd_cons(n:Nat)(l:List (Nat×Nat))(r:List (Nat×List (Nat×Nat)))(i:Nat):GN ((n,l) :: r) i=if i=n then hd0 l else GN r i:=rfl
theorem hd0_h:hd0 [(0,0)]=true:=rfl
def RY:=
 An @Go.Sx.vc_regLH <|
 An @Go.Sx.farHd_nil <|
 An @Go.Sx.farHd_cons <|
 An @Go.Sx.hd0_h <|
 An @Go.Sx.vc_regLN <|
 An @Go.Sx.farN_nil <|
 An @Go.Sx.farN_cons <|
 An @Go.Sx.farVS_nil <|
 An @Go.Sx.farVS_cons <|
 An @Go.Sx.apartS_eq <|
 An @Go.Sx.sBlk_ptr <|
 An @Go.Sx.sBlk_elt <|
 An @Go.Sx.sBlk_vec <|
 An @Go.Sx.sBlk_cut <|
 An @Go.Sx.sBlk_asl <|
 An @Go.Sx.sBlk_val <|
 An @Go.Sx.sBlk_arr <|
 An @Go.Sx.sBlk_ref <|
 An @Go.Sx.apO_ss <|
 An @Go.Sx.apO_n <|
 @Go.Sx.apO_sn
end Go.Sx
end
section
namespace Go.Sx
open Go.RowKit
section
variable{P:Program}
def YR(P:Program)(O:Ctx)(ds:List (Option Tmp)):List Oper→St→(St→Prop)→Prop
 |[],st,K=>K st
 |o :: rest,st,K=>opH P O ds o st λst'=>YR P O ds rest st' K
theorem qdm{O:Ctx}{base:World}{okc:Nat→Prop}{ns:Nat}{outs:jj}{ro:Option Nat}{allops:Array Oper}{Q:Exit→Act→World→Prop}{K:St→Prop}:∀(ops:List Oper)(st:St)(a:Act)(w:World),Inv O base okc ns st.nid outs st a w→ops.all (jk ns)=true→
  YR P O (dsts allops.toList) ops st K→(∀st' a' w',K st'→Inv O base okc ns st'.nid outs st' a' w'→Q .normal a' w')→wpListIn (FR ro) 0 P allops Q ops a w
 |[],st,a,w,h,hd,hk,hK=>hK st a w hk h
 |o :: rest,st,a,w,h,hd,hk,hK=>by
  simp only[List.all_cons,xe6]at hd;unfold wpListIn;exact qbO (ops:=allops) h hd.1 hk λst' a' w' hk' h'=>qdm rest st' a' w' h' hd.2 hk' hK
theorem ZS{O:Ctx}{st:St}{K:Ex→St→Prop}{id:Nat}{ops:List Oper}{g:Tag K}(h:YR P O (dsts ops) ops st (λst'=>K .normal st')):jC P O id ops false st K g:=by
 intro base okc ns outs a w ro Q hro hc hi hK;simp only[qJ,xe6]at hc;obtain⟨hd,-⟩:=hc;have hd:ops.all (jk ns)=true:=by simpa using hd
 refine wpIn_region_list ?_;have:=qdm (ro:=ro) (allops:=ops.toArray) (Q:=Q) (K:=λst'=>K .normal st') ops st a w hi hd ΩN λst' a' w' hk hi'=>hK .normal st' a' w' hk hi';simpa using this
theorem w9(w:World)(t tn ty e:TypeId)(i:TypeInfo)(kq kn:IntKind)(ht:P.underlying t=some (.slice e))(htn:P.underlying tn=some (.int kn))(hi:P.info? e=some i)(b:Option Addr)(n cap:Nat)(h:n≤cap) :
  (Builtin.append_ #[t,tn] ty #[.slice b n cap,.int kq 0]).run P w=.ok (.slice b n cap) w:=by
 have hw:IntKind.i64.wrap 0=0:=by rw[IntKind.wrap_i64];omega
 cases b<;>simp[Builtin.append_,run_underlying ht,run_underlying htn,sizeOf,typeInfo,hi,asInt,asIntOf,hw,h,storeCells]
theorem GP(w:World)(t tn ty e:TypeId)(i:TypeInfo)(z:Value)(kq kn:IntKind)(ht:P.underlying t=some (.slice e))(htn:P.underlying tn=some (.int kn))(hi:P.info? e=some i)(hz:i.zero=some z)
  (g sLen sCap:Nat) (cur:Array Value) (hg:w.heap[g]? = some (.cells cur e (0,0))) (m:Nat) (h0:0<m) (hs:0<i.size) (hm:m≤1000000) (h48:m*i.bytes≤281474976710656) (h1:∀u∈(Builtin.zeroCells z.cells m).toList,u.oneCell'=true)
  (hroom:sLen+m≤sCap) (hfit:sLen*i.size+(Builtin.zeroCells z.cells m).toList.length≤cur.size) :
  (Builtin.append_ #[t,tn] ty #[.slice (some ⟨g,0,none⟩) sLen sCap,.int kq m]).run P w =
   .ok (.slice (some ⟨g,0,none⟩) (sLen+m) sCap) (w.setRow g (cur.toList.take (sLen*i.size)++(Builtin.zeroCells z.cells m).toList++cur.toList.drop (sLen*i.size+(Builtin.zeroCells z.cells m).toList.length)).toArray):=by
 have hw:IntKind.i64.wrap (m:Int)=m:=by rw[IntKind.wrap_i64];omega
 have h48i:¬(281474976710656<(m:Int)*(i.bytes:Int)):=by rw[←Int.natCast_mul];omega
 have hneg:¬((m:Int)<0):=by omega
 have hns:¬(m*i.size=0):=Nat.mul_ne_zero Ω Ω;have hst:=run_storeCells_at P g (sLen*i.size) e (Builtin.zeroCells z.cells m).toList 0 cur w hg (by simpa using hfit) h1;simp only[xb1]at hst;have hne:m≠0:=by omega
 simp[Builtin.append_,run_underlying ht,run_underlying htn,sizeOf,typeInfo,zeroValue,hi,hz,asInt,asIntOf,hw,hneg,hne,hns,h48i,hroom,Addr.add_lit,hst]
theorem GQ{z:Array Value}{v:Value}(hz:z.toList=[v])(m:Nat):(Builtin.zeroCells z m).toList=qG (λ_ _=>v) m 1:=by
 obtain rfl:z = #[v]:=by cases z;simp at hz;subst hz;rfl
 simp[Builtin.zeroCells,qG]
 grind
theorem qbQ{base:World}{okc:Nat→Prop}{r:Nat→Option Nat}{N:Nat→Prop}{hp hp':List (Nat×Blk)}{w:World}(h:Sat base okc r N hp w){t tn ty e:TypeId}{i:TypeInfo}{zv:Value}{kq kn:IntKind}(ht:P.underlying t=some (.slice e))(htn:P.underlying tn=some (.int kn))(hi:P.info? e=some i)(hz:i.zero=some zv)(hk:i.size=1)(hzl:zv.cells.toList=[Φ Γ 0])
  {id n n' m nid:Nat} {row:Nat→Nat→SV} {u:Value} (hu:Rep r N (Gd base okc r N hp w) w (.vec id n 1) u) (hblk:blk hp id=some (.rows e 1 n' row)) (hn:n≤n') (hsm:n+m≤1000000) (hby:qF P e≤100000000) (hid:¬N nid)
  (hat:blk hp' nid=some (.rows e 1 (n+m) (λi j=>if i<n then row i j else Ψ (Φ Γ 0)))) (hoth:∀j,N j→j≠id→blk hp' j=blk hp j) (hdrop:blk hp' id=none) :
  ∃v w' r',(Builtin.append_ #[t,tn] ty #[u,.int kq m]).run P w=.ok v w'∧Step base okc r N hp w r' (zm N nid) hp' w'∧Rep r' (zm N nid) (Gd base okc r' (zm N nid) hp' w') w' (.vec nid (n+m) 1) v:=by
 have hoth':∀j,N j→some j≠some id→blk hp' j=blk hp j:=λj hj hne=>hoth j hj λe=>hne (by rw[e]);have hdrop':∀o,some id=some o→blk hp' o=none:=λo ho=>by cases ho;exact hdrop
 have hzf:=GQ hzl;have hzs:zv.cells.size=1:=by simpa using congrArg List.length hzl
 rw[K6 hi]at hby;have hmb:m*i.bytes≤281474976710656:=by
  have:m*i.bytes≤1000000*100000000:=Nat.mul_le_mul Ω hby;omega
 have hr2:∀i j,i<m→j<1→Rep r N (Gd base okc r N hp w) w ((λ_ _=>Ψ (Φ Γ 0):Nat→Nat→SV) i j) ((λ_ _=>Value.int .i64 0:Nat→Nat→Value) i j):=λ_ _ _ _=>.val _;cases hu with
 |vecNil _ _ hN hrn=>
  by_cases hm0:m=0
  ·subst hm0
   have hrun:=w9 (P:=P) w t tn ty e i kq kn ht htn hi none 0 0 (xa5 _);obtain⟨r',hst,hrep⟩:=wR h nid hid (some id) hat hoth' hdrop'
   grind
  ·have hrun:=Lib.run_append_nil_zeros (P:=P) w t tn ty e i zv kq kn ht htn hi hz m Ω Ω Ω hmb
   obtain⟨r',hst,hrep⟩:=vW (n:=0) (olds:=[]) (news:=qG (λ_ _=>Value.int .i64 0) m 1) (rest:=(Builtin.zeroCells zv.cells (grownCap w m 0 e - m)).toList) (f1:=λ_ _=>undef) (f2:=λ_ _=>Value.int .i64 0) (row1:=row) (row2:=λ_ _=>Ψ (Φ Γ 0)) (gc:=grownCap w m 0 e) h nid hid (some id) hat hoth' hdrop' (by simp[qG]) rfl
    (by rw[kH,hzs];simp) (by rw[xb0];exact grownCap_ge w m 0 e) (yx w m 0 Ω) (λi j hi=>by omega) hr2
   have e1:(([]:List Value)++qG (λ_ _=>Value.int .i64 0) m 1++(Builtin.zeroCells zv.cells (grownCap w m 0 e - m)).toList).toArray=Builtin.zeroCells zv.cells m++Builtin.zeroCells zv.cells (grownCap w m 0 e - m):=by
    simp_all
   grind
 |vec _ _ _ b cap cs tt hN hrn hb hcs hcap hmx=>
  have hrep:=h.rep _ _ hblk hN;rw[hrn]at hrep;cases hrep with
  |rows _ _ _ _ _ cs' hb' hl hrep=>
   rw[hb]at hb';simp only[Option.some.injEq,Obj.cells.injEq,and_true]at hb';obtain⟨rfl,rfl⟩:=hb';by_cases hm0:m=0
   ·subst hm0
    have hrun:=w9 (P:=P) w t tn ty tt i kq kn ht htn hi (some ⟨b,0,none⟩) n cap hcap;have hst:=h.exch (w':=w) nid hid (some id) _ (some b) hat hoth' hdrop' h.below (Shapes.refl w) (xa5 _) (λ_ _ _=>rfl) (λc hc=>.inl ⟨id,_,rfl,hblk,hN,by rw[hrn];exact hc⟩) λr' N' G' hr' hN' hG' _=>
     .rows _ _ _ _ b cs hb (xc1 (xa8 _ Ω) hl) λi j hi hj=>by
      rw[if_pos Ω];exact(hrep i j Ω hj).mono hr' hN' hG' (Shapes.refl w)
    exact⟨_,_,_,hrun,hst,.vec _ _ _ b cap cs tt (.inr rfl) (qw _ _ _) hb hcs hcap hmx⟩
   ·by_cases hroom:n+m≤cap
    ·have hfit:n*i.size+(qG (λ_ _=>Value.int .i64 0) m 1).length≤cs.size:=by rw[qu,hk,hcs,←Nat.add_mul];exact xa8 _ hroom
     have hrun:=GP (P:=P) w t tn ty tt i zv kq kn ht htn hi hz b n cap cs hb m Ω Ω Ω hmb (λu hu=>by rw[hzf]at hu;simp[qG]at hu;obtain⟨_,_,rfl⟩:=hu;rfl) hroom (by rw[hzf];exact hfit);rw[hzf]at hrun;have hsz:(cs.toList.take (n*i.size)++qG (λ_ _=>Value.int .i64 0) m 1++cs.toList.drop (n*i.size+(qG (λ_ _=>Value.int .i64 0) m 1).length)).toArray.size=cs.size:=by
      grind
     have hsh:=kT (w:=w) hb hsz;have hb2:=setRow_heap w b cs (cs.toList.take (n*i.size)++qG (λ_ _=>Value.int .i64 0) m 1++cs.toList.drop (n*i.size+(qG (λ_ _=>Value.int .i64 0) m 1).length)).toArray tt _ hb;have hst:=h.exch (w':=w.setRow b (cs.toList.take (n*i.size)++qG (λ_ _=>Value.int .i64 0) m 1++cs.toList.drop (n*i.size+(qG (λ_ _=>Value.int .i64 0) m 1).length)).toArray) nid hid (some id) _ (some b) hat hoth' hdrop'
      (gq h.below (h.own _ _ _ hblk hN hrn) _) hsh ΩW (λc hc hno=>zj w b _ λe=>hno id _ rfl hblk hN (by rw[e];exact hrn))
      (λc hc=>.inl ⟨id,_,rfl,hblk,hN,by rw[hrn];exact hc⟩) λr' N' G' hr' hN' hG' _=>by
       refine .rows _ _ _ _ b _ hb2 (by rw[hsz,hcs];exact xa8 _ hroom) λx j hx hj=>?_;have hcell:((cs.toList.take (n*i.size)++qG (λ_ _=>Value.int .i64 0) m 1++cs.toList.drop (n*i.size+(qG (λ_ _=>Value.int .i64 0) m 1).length)).toArray).getD (x*1+j) undef=if x<n then cs.getD (x*1+j) undef else Value.int .i64 0:=by
        have hnl:n*1≤cs.size:=by rw[hcs];exact xa8 _ hcap
        simp only[xf5,xe2,hk];by_cases hxn:x<n
        ·grind
        ·have hle:n*1≤x*1:=xa8 _ Ω
         have hlt:=zN (Ω:x - n<m) hj;rw[Nat.sub_mul]at hlt;have hmin:min (n*1) cs.toList.length=n*1:=by simp;omega
         rw[if_neg hxn,xc9 Ωz,xd0 Ω7,xd9,hmin];have e:x*1+j - n*1=(x - n)*1+j:=by rw[Nat.sub_mul];omega
         rw[e,kU _ _ _ _ _ Ω hj];rfl
       rw[hcell];by_cases hxn:x<n
       ·rw[if_pos hxn,if_pos hxn];exact(hrep x j Ω hj).mono hr' hN' hG' hsh
       ·rw[if_neg hxn,if_neg hxn];exact .val _
     exact⟨_,_,_,hrun,hst,.vec _ _ _ b cap _ tt (.inr rfl) (qw _ _ _) hb2 (hsz.trans hcs) hroom hmx⟩
    ·have hfl:qG (λi j=>cs.getD (i*1+j) undef) n 1=cs.toList.take n:=by
      apply List.ext_getElem?;intro q;by_cases hq:q<n
      ·have:=kU (λi j=>cs.getD (i*1+j) undef) n 1 q 0 hq Ω
       rw[show q*1+0=q by omega]at this;rw[this,List.getElem?_take_of_lt hq];have hqs:q<cs.size:=by omega
       simp[hqs]
      ·rw[List.getElem?_eq_none (by rw[qu];omega),List.getElem?_eq_none Ωj]
     have hold:(Builtin.firstCells i.size n (.slice (some ⟨b,0,none⟩) n cap)).run P w.drew=.ok (qG (λi j=>cs.getD (i*1+j) undef) n 1).toArray w.drew:=
      run_firstCells_some (P:=P) w.drew i.size n ⟨b,0,none⟩ n cap _ (by rw[qu,hk]) (λq v hq=>by
       rw[hfl]at hq;have hqn:q<n:=by
        grind
       rw[List.getElem?_take_of_lt hqn]at hq;have hqs:q<cs.size:=by omega
       have h7:=zH (w:=w.drew) (b:=b) (cs:=cs) hb q hqs;have h8:cs[q]? = some v:=by simpa using hq
       rw[Addr.add_lit,xb0,h7];simp[xf5,h8])
     have hrun:=Lib.run_append_grow_zeros (P:=P) w t tn ty tt i zv kq kn ht htn hi hz (some ⟨b,0,none⟩) n cap (qG (λi j=>cs.getD (i*1+j) undef) n 1) hold m Ω Ω Ω Ω hmb (K5 Ω hsm hby);obtain⟨r',hst,hrep'⟩:=vW (n:=n) (olds:=qG (λi j=>cs.getD (i*1+j) undef) n 1) (news:=qG (λ_ _=>Value.int .i64 0) m 1) (rest:=(Builtin.zeroCells zv.cells (grownCap w (n+m) cap tt -(n+m))).toList) (f1:=λi j=>cs.getD (i*1+j) undef) (f2:=λ_ _=>Value.int .i64 0) (row1:=row) (row2:=λ_ _=>Ψ (Φ Γ 0)) (gc:=grownCap w (n+m) cap tt) h nid hid (some id) hat hoth' hdrop' rfl rfl
      (by rw[kH,hzs]) (grownCap_ge w _ _ tt) (yx w _ _ hsm) (λi j hi hj=>hrep i j Ω hj) hr2
     have e1:(qG (λi j=>cs.getD (i*1+j) undef) n 1++qG (λ_ _=>Value.int .i64 0) m 1++(Builtin.zeroCells zv.cells (grownCap w (n+m) cap tt -(n+m))).toList).toArray=(qG (λi j=>cs.getD (i*1+j) undef) n 1).toArray++Builtin.zeroCells zv.cells m++Builtin.zeroCells zv.cells (grownCap w (n+m) cap tt -(n+m)):=by
      simp_all
     grind
theorem qih{O:Ctx}{t tn:TypeId}{x y:Operand}{id n n' m:Nat}{e:TypeId}{row:Nat→Nat→SV}{st:St}{K:St→SV→Prop}{ag ag':Bool}{sz sz':Nat}{z0:Option (List Value)}{d:D}{kq kn:IntKind}
  (ht:qn P t=some ⟨ag,sz,z0,.slice e 1⟩) (hte:qn P e=some ⟨ag',sz',some [Φ Γ 0],d⟩) (htn:P.underlying tn=some (.int kn))
  (hx:env (look st.fr) x=.vec id n 1) (hy:env (look st.fr) y=.val (.int kq (m:Nat))) (hb:blk st.hp id=some (.rows e 1 n' row)) (hn:n≤n') (hsm:n+m≤1000000) (hby:qF P e≤100000000) (hid:id≠st.nid)
  (h:K ⟨st.fr,(st.nid,.rows e 1 (n+m) (λi j=>if i<n then row i j else Ψ (Φ Γ 0))) :: dropBlk st.hp id,st.nid+1⟩ (.vec st.nid (n+m) 1)):OpVC P O (.call ⟨.builtin .append,#[x,y],#[t,tn]⟩) st K:=by
 intro base okc ns r outs a w o ho hi;obtain⟨hts,i,hi',hk⟩:=zF ht;obtain⟨zv,hz,hzl⟩:=vV hi' hte;have hu:=hi.env x;rw[hx]at hu;have hv:=hi.env y;rw[hy]at hv;generalize hex:a.eval x=u at hu;generalize hey:a.eval y=v at hv;cases hv;obtain⟨v',w',r',hrun,hst,hrep⟩:=qbQ (ty:=o.type) (kq:=kq) hi.sat (nid:=st.nid) (hp':=(st.nid,.rows e 1 (n+m) (λi j=>if i<n then row i j else Ψ (Φ Γ 0))) :: dropBlk st.hp id) hts htn hi' hz hk hzl hu hb hn hsm hby Ω ΩS (λj hj hne=>by
  simp only[blk,qv];rw[if_neg Ω,if_neg hne]) (by simp only[blk,qv];rw[if_neg hid];simp)
 rw[gD]at hst hrep;refine⟨v',w',?_,_,r',_,h,xc4 _,?_,hrep⟩
 ·have e0:execOp a.eval o=(do pure (.value (←Builtin.append_ #[t,tn] o.type #[u,.int kq m]))):=by
   obtain⟨dst,op,type,pos,aft,guard⟩:=o;simp only[]at ho;subst ho;simp[execOp,Go.resolve,Go.invoke,Go.builtin,hex,hey]
  simp_all
 ·have:=hi.step hst (λj z hz=>by
   simp only[blk,qv]at hz;split at hz
   ·omega
   ·split at hz
    ·cases hz
    ·have:=hi.keys j z hz;omega) (xc4 _) (d:=none) (λt ht=>by cases ht) (.val undef)
  exact this.nid _
end
end Go.Sx
end
section
namespace Go.Sx
open Go.RowKit
variable{k n:Nat}{ty:TypeId}{row2:Nat→Nat→SV}{O:Ctx}{st:St}{K:St→Prop}{ds:List (Option Tmp)}{rest:List Oper}
section
variable{P:Program}
theorem yZ(w:World)(t ty e:TypeId)(i:TypeInfo)(ht:P.underlying t=some (.slice e))(hi:P.info? e=some i)(g off sLen sCap:Nat)(cur:Array Value)(hg:w.heap[g]? = some (.cells cur e (0,0)))
  (a:Addr) (m c:Nat) (news:List Value) (hl:news.length=m*i.size) (hnews:∀j u,news[j]? = some u→w.cell? (a.add j)=some u) (h1:∀u∈news,u.oneCell'=true) (hroom:sLen+m≤sCap) (hfit:off+sLen*i.size+news.length≤cur.size) :
  (Builtin.append_ #[t,t] ty #[.slice (some ⟨g,off,none⟩) sLen sCap,.slice (some a) m c]).run P w=.ok (.slice (some ⟨g,off,none⟩) (sLen+m) sCap) (w.setRow g (cur.toList.take (off+sLen*i.size)++news++cur.toList.drop (off+sLen*i.size+news.length)).toArray):=by
 have hfc:=run_firstCells_some (P:=P) w i.size m a m c news hl hnews;have hst:=run_storeCells_at P g (off+sLen*i.size) e news 0 cur w hg (by simpa using hfit) h1;simp only[xb1]at hst;simp[Builtin.append_,run_underlying ht,sizeOf,typeInfo,hi,Builtin.lenOf,hroom,hfc,Addr.add_lit,hst]
theorem qii{r:Nat→Option Nat}{N:Nat→Prop}{G:Bool→Nat→Prop}{w:World}{id:Nat}{v:Value}(h:Rep r N G w (.vec id n k) v):Rep r N G w (.que id 0 n k) v:=by
 cases h with
 |vecNil _ _ hN hr=>exact .queNil _ _ _ _ hN
 |vec _ _ _ b cap cs t hN hr hb hcs hcap hmx=>
  have:=Rep.que (r:=r) (N:=N) (G:=G) (w:=w) id 0 n k b cap cs t hN hr hb (by rw[xb0];exact hcs) hcap (by rw[xb0];exact hmx)
  rwa [Nat.zero_mul]at this
theorem qij{base:World}{okc:Nat→Prop}{r:Nat→Option Nat}{N:Nat→Prop}{hp hpA hpB:List (Nat×Blk)}{w:World}(h:Sat base okc r N hp w){t e:TypeId}{i:TypeInfo}{zv:Value}(ht:P.underlying t=some (.slice e))(hi:P.info? e=some i)(hz:i.zero=some zv)(hk:i.size=k)(hzk:zv.cells.toList.length=k)(hpos:0<k)
  {id off n' m nid:Nat} {row:Nat→Nat→SV} {u v:Value} (hu:Rep r N (Gd base okc r N hp w) w (.que id off n k) u) (hblk:blk hp id=some (.rows e k n' row)) (hn:off+n≤n') (hm:0<m) (hsm:off+n+m≤1000000) (hby:qF P e≤100000000) (hid:¬N nid)
  {a2:Option Addr} {c2:Nat} {f2:Nat→Nat→Value} (hv:ZD r N (Gd base okc r N hp w) w v m k row2 a2 c2 f2) (h9:oneRows m k row2)
  (hatA:blk hpA nid=some (.rows e k (off+n+m) (λi j=>if i<off+n then row i j else row2 (i -(off+n)) j))) (hothA:∀j,N j→j≠id→blk hpA j=blk hp j) (hdropA:blk hpA id=none)
  (hatB:blk hpB nid=some (.rows e k (n+m) (λi j=>if i<n then row (off+i) j else row2 (i - n) j))) (hothB:∀j,N j→j≠id→blk hpB j=blk hp j) (hdropB:blk hpB id=none) :
  ∃z w' r',(Builtin.append_ #[t,t] ty #[u,v]).run P w=.ok z w'∧
   ((Step base okc r N hp w r' (zm N nid) hpA w'∧Rep r' (zm N nid) (Gd base okc r' (zm N nid) hpA w') w' (.que nid off (n+m) k) z)∨
    (Step base okc r N hp w r' (zm N nid) hpB w'∧Rep r' (zm N nid) (Gd base okc r' (zm N nid) hpB w') w' (.que nid 0 (n+m) k) z)):=by
 have hothA':∀j,N j→some j≠some id→blk hpA j=blk hp j:=λj hj hne=>hothA j hj λe=>hne (by rw[e]);have hothB':∀j,N j→some j≠some id→blk hpB j=blk hp j:=λj hj hne=>hothB j hj λe=>hne (by rw[e]);have hdropA':∀o,some id=some o→blk hpA o=none:=λo ho=>by cases ho;exact hdropA
 have hdropB':∀o,some id=some o→blk hpB o=none:=λo ho=>by cases ho;exact hdropB
 have grow:∀(a1:Option Addr)(cap:Nat)(f1:Nat→Nat→Value),u=.slice a1 n cap→(a1=none→cap=0)→ZD r N (Gd base okc r N hp w) w u n k (λi j=>row (off+i) j) a1 cap f1→cap<n+m→
   ∃z w' r',(Builtin.append_ #[t,t] ty #[u,v]).run P w=.ok z w'∧
   ((Step base okc r N hp w r' (zm N nid) hpA w'∧Rep r' (zm N nid) (Gd base okc r' (zm N nid) hpA w') w' (.que nid off (n+m) k) z)∨
    (Step base okc r N hp w r' (zm N nid) hpB w'∧Rep r' (zm N nid) (Gd base okc r' (zm N nid) hpB w') w' (.que nid 0 (n+m) k) z)):=by
  intro a1 cap f1 he h0 hs1 hc;obtain⟨z,w',r',h1,h2,h3⟩:=jh (ty:=ty) (row1:=λi j=>row (off+i) j) h ht hi hz hk hzk hpos hm hc Ω hby he h0 hs1 hv nid hid (some id) hatB hothB' hdropB';exact⟨z,w',r',h1,.inr ⟨h2,qii h3⟩⟩
 cases hu with
 |queNil _ _ _ a hN=>exact grow a 0 (λ_ _=>undef) rfl (λ_=>rfl) ⟨rfl,xa5 _,.inl rfl,λi j hi=>by omega⟩ Ω
 |que _ _ _ _ b cap cs tt hN hrn hb hcs hcap hmx=>
  have hrep:=h.rep _ _ hblk hN;rw[hrn]at hrep;cases hrep with
  |rows _ _ _ _ _ cs' hb' hl hrep=>
   rw[hb]at hb';simp only[Option.some.injEq,Obj.cells.injEq,and_true]at hb';obtain⟨rfl,rfl⟩:=hb';by_cases hroom:n+m≤cap
   ·obtain⟨rfl,hle2,hat2,hrp2⟩:=hv
    rcases hat2 with hz2|⟨b2,off2,rfl,hc2⟩
    ·omega
    have eo:off*k+n*i.size=(off+n)*k:=by rw[hk,Nat.add_mul]
    have hfit:off*k+n*i.size+(qG f2 m k).length≤cs.size:=by rw[qu,eo,hcs,←Nat.add_mul];exact xa8 _ Ω
    have hrun:=yZ (P:=P) w t ty tt i ht hi b (off*k) n cap cs hb ⟨b2,off2,none⟩ m c2 (qG f2 m k) (by rw[qu,hk]) (gW hc2 hpos) (wQ hrp2 h9 hpos) hroom hfit;rw[eo]at hrun hfit;have hsz:(cs.toList.take ((off+n)*k)++qG f2 m k++cs.toList.drop ((off+n)*k+(qG f2 m k).length)).toArray.size=cs.size:=by
     grind
    have hsh:=kT (w:=w) hb hsz;have hb2:=setRow_heap w b cs (cs.toList.take ((off+n)*k)++qG f2 m k++cs.toList.drop ((off+n)*k+(qG f2 m k).length)).toArray tt _ hb;have hst:=h.exch (w':=w.setRow b (cs.toList.take ((off+n)*k)++qG f2 m k++cs.toList.drop ((off+n)*k+(qG f2 m k).length)).toArray) nid hid (some id) _ (some b) hatA hothA' hdropA'
     (gq h.below (h.own _ _ _ hblk hN hrn) _) hsh ΩW (λc hc hno=>zj w b _ λe=>hno id _ rfl hblk hN (by rw[e];exact hrn))
     (λc hc=>.inl ⟨id,_,rfl,hblk,hN,by rw[hrn];exact hc⟩) λr' N' G' hr' hN' hG' _=>by
      refine .rows _ _ _ _ b _ hb2 (by rw[hsz,hcs];exact xa8 _ Ω) λx j hx hj=>?_;have hcell:((cs.toList.take ((off+n)*k)++qG f2 m k++cs.toList.drop ((off+n)*k+(qG f2 m k).length)).toArray).getD (x*k+j) undef=if x<off+n then cs.getD (x*k+j) undef else f2 (x -(off+n)) j:=by
       have hnl:(off+n)*k≤cs.size:=by rw[hcs];exact xa8 _ Ω
       simp only[xf5,xe2];by_cases hxn:x<off+n
       ·have:=zN hxn hj
        rw[if_pos hxn,List.append_assoc,xc9 Ωj,List.getElem?_take_of_lt this];simp
       ·have hle:(off+n)*k≤x*k:=xa8 _ Ω
        have hlt:=zN (Ω:x -(off+n)<m) hj;rw[Nat.sub_mul]at hlt;have hmin:min ((off+n)*k) cs.toList.length=(off+n)*k:=by simp;omega
        rw[if_neg hxn,xc9 Ωz,xd0 Ω7,xd9,hmin];have e:x*k+j -(off+n)*k=(x -(off+n))*k+j:=by rw[Nat.sub_mul];omega
        rw[e,kU _ _ _ _ _ Ω hj];rfl
      rw[hcell];by_cases hxn:x<off+n
      ·rw[if_pos hxn,if_pos hxn];exact(hrep x j Ω hj).mono hr' hN' hG' hsh
      ·rw[if_neg hxn,if_neg hxn];exact(hrp2 _ j Ω hj).mono hr' hN' hG' hsh
    exact⟨_,_,_,hrun,.inl ⟨hst,.que _ _ _ _ b cap _ tt (.inr rfl) (qw _ _ _) hb2 (hsz.trans hcs) hroom hmx⟩⟩
   ·refine grow _ cap (λi j=>cs.getD ((off+i)*k+j) undef) rfl (λe=>by cases e) ⟨rfl,hcap,.inr ⟨b,off*k,rfl,λi j hi hj=>?_⟩,λi j hi hj=>hrep (off+i) j Ω hj⟩ Ω
    rw[←xb2,←Nat.add_mul];exact zH hb _ (by have:=zN (Ω:off+i<off+cap) hj;omega)
theorem qik{t:TypeId}{x y:Operand}{id off n' m:Nat}{e:TypeId}{row:Nat→Nat→SV}{s2:SV}{obl2:Prop}{K:St→SV→Prop}{ag ag':Bool}{sz sz':Nat}{z0:Option (List Value)}{z:List Value}{d:D}
  (ht:qn P t=some ⟨ag,sz,z0,.slice e k⟩) (hte:qn P e=some ⟨ag',sz',some z,d⟩) (hzl:z.length=k) (hpos:0<k)
  (hx:env (look st.fr) x=.que id off n k) (hy:env (look st.fr) y=s2) (hr2:rowsOf st.hp s2=some (obl2,m,k,row2)) (ho2:obl2) (h9:oneRows m k row2) (hb:blk st.hp id=some (.rows e k n' row)) (hn:off+n≤n') (hm:0<m) (hsm:off+n+m≤1000000) (hby:qF P e≤100000000) (hid:id≠st.nid)
  (hA:K ⟨st.fr,(st.nid,.rows e k (off+n+m) (λi j=>if i<off+n then row i j else row2 (i -(off+n)) j)) :: dropBlk st.hp id,st.nid+1⟩ (.que st.nid off (n+m) k))
  (hB:K ⟨st.fr,(st.nid,.rows e k (n+m) (λi j=>if i<n then row (off+i) j else row2 (i - n) j)) :: dropBlk st.hp id,st.nid+1⟩ (.que st.nid 0 (n+m) k)):OpVC P O (.call ⟨.builtin .append,#[x,y],#[t,t]⟩) st K:=by
 intro base okc ns r outs a w o ho hi;obtain⟨hts,i,hi',hk⟩:=zF ht;obtain⟨zv,hz,hzl'⟩:=vV hi' hte;have hu:=hi.env x;rw[hx]at hu;have hv:=hi.env y;rw[hy]at hv;generalize hex:a.eval x=u at hu;generalize hey:a.eval y=v at hv;obtain⟨a2,c2,f2,hv2⟩:=zY (P:=P) hi.sat.ok hv hr2 ho2;have at':∀(b:Blk),blk ((st.nid,b) :: dropBlk st.hp id) st.nid=some b:=λb=>by simp[blk]
 have oth:∀(b:Blk)(j:Nat),j<st.nid→j≠id→blk ((st.nid,b) :: dropBlk st.hp id) j=blk st.hp j:=λb j hj hne=>by
  simp only[blk,qv];rw[if_neg Ω,if_neg hne]
 have drp:∀(b:Blk),blk ((st.nid,b) :: dropBlk st.hp id) id=none:=λb=>by simp only[blk,qv];rw[if_neg hid];simp
 have keys:∀(b:Blk)(j:Nat)(z:Blk),blk ((st.nid,b) :: dropBlk st.hp id) j=some z→j<st.nid+1:=λb j z hz=>by
  simp only[blk,qv]at hz;split at hz
  ·omega
  ·split at hz
   ·cases hz
   ·have:=hi.keys j z hz;omega
 obtain⟨v',w',r',hrun,hcase⟩:=qij (ty:=o.type) hi.sat (nid:=st.nid) (hpA:=(st.nid,.rows e k (off+n+m) (λi j=>if i<off+n then row i j else row2 (i -(off+n)) j)) :: dropBlk st.hp id) (hpB:=(st.nid,.rows e k (n+m) (λi j=>if i<n then row (off+i) j else row2 (i - n) j)) :: dropBlk st.hp id) hts hi' hz hk (by rw[hzl'];exact hzl) hpos hu hb hn hm hsm hby Ω hv2 h9
  (at' _) (λj hj=>oth _ j hj) (drp _) (at' _) (λj hj=>oth _ j hj) (drp _)
 have e0:execOp a.eval o=(do pure (.value (←Builtin.append_ #[t,t] o.type #[u,v]))):=by
  obtain⟨dst,op,type,pos,aft,guard⟩:=o;simp only[]at ho;subst ho;simp[execOp,Go.resolve,Go.invoke,Go.builtin,hex,hey]
 have erun:(execOp a.eval o).run P w=.ok (.value v') w':=by
  simp_all
 rcases hcase with⟨hst,hrep⟩|⟨hst,hrep⟩<;>rw[gD]at hst hrep
 ·refine⟨v',w',erun,_,r',_,hA,xc4 _,?_,hrep⟩
  have:=hi.step hst (keys _) (xc4 _) (d:=none) (λt ht=>by cases ht) (.val undef);exact this.nid _
 ·refine⟨v',w',erun,_,r',_,hB,xc4 _,?_,hrep⟩
  have:=hi.step hst (keys _) (xc4 _) (d:=none) (λt ht=>by cases ht) (.val undef);exact this.nid _
theorem gH:YR P O ds [] st K=K st:=rfl
theorem qK{d:Option Tmp}{op:Op}{pos:String}{af:Array Edge}
  (h:Q2 P O (Tag.mk:Tag True) (Tag.mk:Tag op) d st.nid st (λst'=>YR P O ds rest ⟨inD d st'.fr,st'.hp,st'.nid+1⟩ K) .mk (stepR P (look st.fr) st.hp op)):YR P O ds (⟨d,op,ty,pos,af,none⟩ :: rest) st K:=.inl h
theorem g7{d:Option Tmp}{op:Op}{pos:String}{af:Array Edge}(hn:qdj op=true)
  (h:OpVC P O op st λst' res=>YR P O ds rest (st'.putI d res) K):YR P O ds (⟨d,op,ty,pos,af,none⟩ :: rest) st K:=.inr ⟨hn,.inl h⟩
end
end Go.Sx
end
section
namespace Go.Tn
open Go.Proofs
open Go.Sx
variable{k:Nat}
theorem follows:Tryz.prog.follows .mixedOrders=true:=by kernel_rfl
theorem TY:True∧qn Tryz.prog 2=some ⟨false,1,some [Value.int IntKind.i64 0],D.int IntKind.i64⟩∧qn Tryz.prog 3=some ⟨false,1,some [Value.int IntKind.i64 0],D.int IntKind.i64⟩∧qn Tryz.prog 4=some ⟨false,1,some [Value.bool false],D.bool⟩∧qn Tryz.prog 5=some ⟨false,1,some [Value.int IntKind.u8 0],D.int IntKind.u8⟩∧qn Tryz.prog 22=some ⟨false,1,some [Value.slice none 0 0],D.slice 3 1⟩∧qn Tryz.prog 24=some ⟨true,1,some [Value.slice none 0 0],D.struct [(0,1,some false)]⟩∧qn Tryz.prog 28=some ⟨false,1,some [Value.int IntKind.i64 0],D.int IntKind.i64⟩∧qn Tryz.prog 136=some ⟨false,1,some [Value.pointer none],D.other⟩∧qn Tryz.prog 140=some ⟨true,5,some [Value.int IntKind.i64 0,Value.int IntKind.i64 0,Value.int IntKind.i64 0,Value.int IntKind.i64 0,Value.int IntKind.i64 0],D.array 5 3 1⟩∧qn Tryz.prog 250=some ⟨false,1,some [Value.map none],D.map 255 3⟩∧qn Tryz.prog 251=some ⟨false,1,some [Value.slice none 0 0],D.slice 140 5⟩∧qn Tryz.prog 253=some ⟨true,5,some [Value.slice none 0 0,Value.slice none 0 0,Value.slice none 0 0,Value.slice none 0 0,Value.map none],D.struct [(0,1,some true),(1,1,some false),(2,1,some false),(3,1,some false),(4,1,some false)]⟩∧qn Tryz.prog 255=some ⟨true,6,some [Value.int IntKind.i64 0,Value.int IntKind.i64 0,Value.int IntKind.i64 0,Value.int IntKind.i64 0,Value.int IntKind.i64 0,Value.int IntKind.i64 0],D.struct [(0,5,some true),(5,1,some false)]⟩∧qn Tryz.prog 60=some ⟨false,1,some [Value.slice none 0 0],D.slice 22 1⟩∧qn Tryz.prog 220=some ⟨true,2,some [Value.slice none 0 0,Value.int IntKind.i64 0],D.struct [(0,1,some false),(1,1,some false)]⟩∧qn Tryz.prog 222=some ⟨false,1,some [Value.slice none 0 0],D.slice 220 2⟩∧qt Tryz.prog 24=some [(0,1)]∧qt Tryz.prog 140=some [(0,1),(1,1),(2,1),(3,1),(4,1)]∧qt Tryz.prog 253=some [(0,1),(1,1),(2,1),(3,1),(4,1)]∧qt Tryz.prog 255=some [(0,5),(5,1)]∧qt Tryz.prog 220=some [(0,1),(1,1)]∧qW Tryz.prog 140=some [Lf.i IntKind.i64,Lf.i IntKind.i64,Lf.i IntKind.i64,Lf.i IntKind.i64,Lf.i IntKind.i64]∧qW Tryz.prog 255=some [Lf.i IntKind.i64,Lf.i IntKind.i64,Lf.i IntKind.i64,Lf.i IntKind.i64,Lf.i IntKind.i64,Lf.i IntKind.i64]:=⟨trivial,Ωb,Ωb,Ωb,Ωb,Ωb,Ωb,Ωb,Ωb,Ωb,Ωb,Ωb,Ωb,Ωb,Ωb,Ωb,Ωb,Ωb,Ωb,Ωb,Ωb,Ωb,Ωb,Ωb⟩
theorem by3:qF Tryz.prog 3=8:=by kernel_rfl
theorem qR:qF Tryz.prog 22=24:=by kernel_rfl
theorem qnI:qF Tryz.prog 140=40:=by kernel_rfl
def I(n:Int):SV:=Ψ (Φ Γ n)
def B(b:Bool):SV:=.val (.bool b)
def qE(n:Nat)(u:Nat→Int):SV:=.arr false false n 1 (λi _=>Ψ (Φ Γ (u i)))
theorem ya{a b:Int}(h:a=b):SV.val (Value.int IntKind.i64 a)=SV.val (Value.int IntKind.i64 b):=by rw[h]
theorem wL{a b:Bool}(h:a=b):SV.val (Value.bool a)=SV.val (Value.bool b):=by rw[h]
def hsv(m:Nat)(u:Nat→Int):SV:=.agg [.arr false false m 1 (λi _=>Ψ (Φ Γ (u i)))]
def upN(f:Nat→Int)(k:Nat)(x:Int)(i:Nat):Int:=if i=k then x else f i
def pl(f:Nat→Int):List SV:=[Ψ (Φ Γ (f 0)),Ψ (Φ Γ (f 1)),Ψ (Φ Γ (f 2)),Ψ (Φ Γ (f 3)),Ψ (Φ Γ (f 4))]
def psv(f:Nat→Int):SV:=.agg (pl f)
def pf(f:Nat→Int)(j:Nat):SV:=Ψ (Φ Γ (f j))
theorem qri(h:k<5):k=0∨k=1∨k=2∨k=3∨k=4:=by omega
theorem qqc(h:k<3):k=0∨k=1∨k=2:=by omega
theorem pl_set(f:Nat→Int)(k:Nat)(x:Int):(pl f).set k (Ψ (Φ Γ x))=pl (upN f k x):=by
 match k with
 |0=>rfl
 |1=>rfl
 |2=>rfl
 |3=>rfl
 |4=>rfl
 |k+5=>simp only[pl,List.set_cons_succ,List.set_nil];simp[upN]
theorem pl_len(f:Nat→Int):(pl f).length=5:=rfl
theorem pl_take(f:Nat→Int):List.take 5 (pl f)=pl f:=rfl
theorem pl_drop(f:Nat→Int):List.drop 5 (pl f)=[]:=rfl
theorem pl_one(f:Nat→Int):allOne (pl f)=true:=rfl
theorem pl_fit(f:Nat→Int):fitS [.i .i64,.i .i64,.i .i64,.i .i64,.i .i64] (pl f)=true:=by kernel_rfl
def eq5(f g:Nat→Int):Prop:=∀i,i<5→f i=g i
instance(f g:Nat→Int):Decidable (eq5 f g):=by unfold eq5;infer_instance
theorem pl_eq(f g:Nat→Int):eqSVs (pl f) (pl g)=decide (eq5 f g):=by
 have e:eq5 f g↔(f 0=g 0∧f 1=g 1∧f 2=g 2∧f 3=g 3∧f 4=g 4):=⟨λh=>⟨h 0 Ω,h 1 Ω,h 2 Ω,h 3 Ω,h 4 Ω⟩,λ⟨a,b,c,d,e⟩ i hi=>by
  rcases qri hi with rfl|rfl|rfl|rfl|rfl<;>assumption⟩
 rw[Bool.eq_iff_iff,decide_eq_true_eq,e];simp[pl,eqSVs,eqV]
theorem pl_sub(hp:List (Nat×Blk))(f:Nat→Int):SubL hp (pl f) (pl f)=True:=by simp[pl,SubL,Go.Sx.Sub]
theorem pl_old(f:Nat→Int):OldL (pl f)=True:=by simp[pl,OldL,Old]
theorem pl_fresh(f:Nat→Int):FreshL (pl f)=True:=by simp[pl,FreshL,Fresh]
theorem pl_wk(hp:List (Nat×Blk))(m:Nat→Option Nat)(nn:Nat)(sl:Nat→Bool)(f:Nat→Int):WkL hp m nn sl (pl f) (pl f)=True:=by simp[pl,WkL,Wk]
theorem rSl_q100(ag:Bool)(sz:Nat)(z:Option (List Value))(e:TypeId)(k:Nat)(id off n k2:Nat)(kl:IntKind)(l:Int):rSlice (some ⟨ag,sz,z,.slice e k⟩) (.que id off n k2) (some (.val (.int kl l))) none none=.pure (0≤l∧l≤(n:Int)∧(n:Int)=n∧k2=k) (.que id (off+l.toNat) ((n:Int) - l).toNat k):=rfl
theorem nil_app(l:List SV):[]++l=l:=rfl
theorem all2(P:Nat→Prop):(∀j,j<2→P j)=(P 0∧P 1):=propext ⟨λh=>⟨h 0 Ω,h 1 Ω⟩,λ⟨a,b⟩ j hj=>by
 have:j=0∨j=1:=by omega
 rcases this with rfl|rfl<;>assumption⟩
theorem all3(P:Nat→Prop):(∀j,j<3→P j)=(P 0∧P 1∧P 2):=propext ⟨λh=>⟨h 0 Ω,h 1 Ω,h 2 Ω⟩,λ⟨a,b,c⟩ j hj=>by
 rcases qqc hj with rfl|rfl|rfl<;>assumption⟩
theorem mul_1(a:Nat):a*1=a:=Nat.mul_one a
theorem zadd(a:Nat):0+a=a:=xb0 a
theorem up_same(f:Nat→Int)(k:Nat)(x:Int):upN f k x k=x:=by simp[upN]
theorem up_up(f:Nat→Int)(k:Nat)(x y:Int):upN (upN f k x) k y=upN f k y:=by funext j;simp only[upN];split<;>rfl
theorem cons_app(a:SV)(l m:List SV):(a :: l)++m=a ::(l++m):=rfl
theorem app_nil'(l:List SV):l++[]=l:=xd3 l
theorem take_0(l:List SV):List.take 0 l=[]:=rfl
theorem drop_0(l:List SV):List.drop 0 l=l:=rfl
theorem pf_j(f:Nat→Int)(j:Nat):pf f j=Ψ (Φ Γ (f j)):=rfl
def QV:=
 An @Go.Tn.pf_j <|
 An @Go.Tn.pl_set <|
 An @Go.Tn.pl_len <|
 An @Go.Tn.pl_take <|
 An @Go.Tn.pl_drop <|
 An @Go.Tn.pl_one <|
 An @Go.Tn.pl_fit <|
 An @Go.Tn.pl_eq <|
 An @Go.Tn.pl_sub <|
 An @Go.Tn.pl_old <|
 An @Go.Tn.pl_fresh <|
 An @Go.Tn.pl_wk <|
 An @Go.Tn.rSl_q100 <|
 An @Go.Tn.nil_app <|
 An @Go.Tn.mul_1 <|
 An @Go.Tn.zadd <|
 An @Go.Tn.up_same <|
 An @Go.Tn.up_up <|
 An @Go.Tn.all2 <|
 An @Go.Tn.all3 <|
 An @Go.Tn.cons_app <|
 An @Go.Tn.app_nil' <|
 An @Go.Tn.take_0 <|
 @Go.Tn.drop_0
def zK(b:Nat→Bool)(i:Nat):Nat→Int
 |0=>-1
 |k+1=>if b i=true then i else zK b (i+1) k
theorem Q5(b:Nat→Bool):∀(k i:Nat),zK b i k<0↔∀j,i≤j→j<i+k→b j=false
 |0,i=>by simp[zK];intro j h1 h2;omega
 |k+1,i=>by
  simp only[zK];split
  ·grind
  ·rename_i h
   rw[Q5 b k (i+1)];constructor
   ·grind
   ·grind
def ZT(b:Nat→Bool)(m:Nat):Prop:=∃i,i<m∧b i=true
instance(b:Nat→Bool)(m:Nat):Decidable (ZT b m):=by unfold ZT;infer_instance
theorem Q6(b:Nat→Bool)(m:Nat):(0≤zK b 0 m)↔ZT b m:=by
 have h:=Q5 b m 0;constructor
 ·intro h0
  refine xf9 λhc=>?_;have:zK b 0 m<0:=h.2 λj _ hj=>by
   cases e:b j with
   |false=>rfl
   |true=>exact absurd ⟨j,Ω,e⟩ hc
  omega
 ·rintro⟨i,hi,hb⟩
  grind
def QN:=An Tryz.results104<|An Tryz.results114<|An Tryz.results115<|An Tryz.results117<|An Tryz.results12<|An Tryz.results129<|An Tryz.results134<|An Tryz.results145<|An Tryz.results151<|An Tryz.results162<|An Tryz.results163<|An Tryz.results164<|An Tryz.results167<|An Tryz.results169<|An Tryz.results170<|An Tryz.results172<|An Tryz.results178<|An Tryz.results179<|An Tryz.results182<|An Tryz.results184<|An Tryz.results185<|An Tryz.results186<|An Tryz.results187<|An Tryz.results188<|An Tryz.results201<|An Tryz.results202<|An Tryz.results203<|An Tryz.results216<|An Tryz.results230<|An Tryz.results232<|An Tryz.results233<|An Tryz.results235<|An Tryz.results24<|An Tryz.results25<|An Tryz.results256<|An Tryz.results257<|An Tryz.results26<|An Tryz.results262<|An Tryz.results27<|An Tryz.results272<|An Tryz.results273<|An Tryz.results278<|An Tryz.results279<|An Tryz.results28<|An Tryz.results280<|An Tryz.results284<|An Tryz.results286<|An Tryz.results287<|An Tryz.results288<|An Tryz.results289<|An Tryz.results290<|An Tryz.results291<|An Tryz.results302<|An Tryz.results304<|An Tryz.results31<|An Tryz.results325<|An Tryz.results326<|An Tryz.results327<|An Tryz.results328<|An Tryz.results329<|An Tryz.results34<|An Tryz.results350<|An Tryz.results351<|An Tryz.results356<|An Tryz.results357<|An Tryz.results359<|An Tryz.results371<|An Tryz.results372<|An Tryz.results383<|An Tryz.results389<|An Tryz.results394<|An Tryz.results405<|An Tryz.results43<|An Tryz.results45<|An Tryz.results47<|An Tryz.results50<|An Tryz.results51<|An Tryz.results52<|An Tryz.results53<|An Tryz.results54<|An Tryz.results73<|An Tryz.results79<|An Tryz.results8<|An Tryz.results90<|An Tryz.results91<|An Tryz.results92<|An Tryz.results93<|An Tryz.results94<|An Tryz.results95 Tryz.results99
def QT:=An QV<|An @psv.eq_1<|An @hsv.eq_1<|An @B.eq_1<|An @I.eq_1<|An by3<|An RZ<|An @eq_self.{1} TY
def QU:=An QT QN
theorem qrj(m:Nat)(u:Nat→Int)(g:Nat)(caps:List SV)(ho:OldL caps)(b:Nat→Bool)(hm:m≤1000000)(hg:∀i,i<m→qf Tryz.prog g (Ψ (Φ Γ (u i)) :: caps) (B (b i))):qf Tryz.prog 280 [qE m u,.fn (.func g) [] caps] (I (zK b 0 m)):=by
 refine qg Tryz.func280 rfl Ωb follows Ωb _ _ (by rw[Tryz.ntmps280];simp) ΩR ?_
 conv=>arg 4;unfold qE
 (simp -dsimp only[↓RP,RQ,seval,TY,Tryz.results280]);refine qp (λi=>i≤m∧zK b 0 m=zK b i (m - i)) (λi=>⟨[(0,.arr false false m 1 (λi _=>Ψ (Φ Γ (u i)))),(1,.fn (.func g) [] caps),(7,Ψ (Φ Γ m)),(8,Ψ (Φ Γ i))],[],0⟩) (λi=>m - i) 0 ⟨xb6 _,rfl⟩ (weak [] [] ?_ ?_ ?_) λi hi=>?_
 ·(simp -dsimp only[↓RP,RQ,seval,QV]);all_goals (try simp[wkL_refl caps ho,QV])
 iterate 2 focus(simp -dsimp only[↓RP,RQ,seval,QV])
 obtain⟨hi,he⟩:=hi;have e1:∀k,m - i=k+1→zK b i (m - i)=if b i=true then(i:Int)else zK b (i+1) k:=λk hk=>by rw[hk];rfl
 repeat' first|refine sD ?_ ?_<;>intro _|refine aA ?_|simp -dsimp only[↓RP,RQ,seval,QU]
 ·rename_i hlt
  have hlt:i<m:=by omega
  have e2:=e1 (m -(i+1)) Ω;refine qk (hg i hlt) (by(simp -dsimp only[↓RP,RQ,seval,QV,I]);all_goals (try simp[subL_refl caps ho,QV])) Ωi ?_;repeat' first|refine sD ?_ ?_<;>intro _|refine aA ?_|simp -dsimp only[↓RP,RQ,seval,QU]
  ·simp_all
  ·rename_i h1
   refine⟨i+1,⟨Ω,?_⟩,Ω,weak [] [] ?_ ?_ ?_⟩
   ·rw[he,e2,if_neg (by simp[h1])]
   ·(simp -dsimp only[↓RP,RQ,seval,QV]);all_goals (try simp[wkL_refl caps ho,QV])
   iterate 2 focus(simp -dsimp only[↓RP,RQ,seval,QV])
 ·rename_i hlt
  refine ya ?_;have:m - i=0:=by omega
  rw[he,this];rfl
theorem qrk(m:Nat)(u:Nat→Int)(g:Nat)(caps:List SV)(ho:OldL caps)(b:Nat→Bool)(hm:m≤1000000)(hg:∀i,i<m→qf Tryz.prog g (Ψ (Φ Γ (u i)) :: caps) (B (b i))):qf Tryz.prog 167 [qE m u,.fn (.func g) [] caps] (B (decide (ZT b m))):=by
 refine qg Tryz.func167 rfl Ωb follows Ωb _ _ (by rw[Tryz.ntmps167];simp) ΩR ?_;(simp -dsimp only[↓RP,RQ,seval,TY,QV,QN]);refine qk (qrj m u g caps ho b hm hg) (by(simp -dsimp only[↓RP,RQ,seval,QV,qE]);all_goals (try simp[subL_refl caps ho,QV])) Ωk ?_;(repeat' (first|refine sD ?_ ?_<;>intro _|refine aA ?_|simp -dsimp only[↓RP,RQ,seval,I,B,QV,TY,QN]));refine wL ?_;rw[Bool.eq_iff_iff];simp[←Q6]
def jp(lo hi:Int):List SV:=[.ref false 1 (λ_=>Ψ (Φ Γ lo)),.ref false 1 (λ_=>Ψ (Φ Γ hi))]
theorem YS(lo hi:Int):OldL (jp lo hi):=by simp[jp,OldL,Old]
def gT(u:Nat→Int)(m:Nat)(lo hi:Int):Prop:=∀i,i<m→lo≤u i∧u i≤hi
instance(u:Nat→Int)(m:Nat)(lo hi:Int):Decidable (gT u m lo hi):=by unfold gT;infer_instance
theorem yJ(u:Nat→Int)(m:Nat)(lo hi:Int):ZT (λi=>decide (u i<lo) || decide (hi<u i)) m↔¬gT u m lo hi:=by
 constructor
 ·rintro⟨i,h1,h2⟩ h
  have:=h i h1
  grind
 ·intro h
  refine xf9 λhc=>h λi hi=>?_;refine xf9 λhd=>hc ⟨i,hi,?_⟩;simp;omega
theorem qlA(x lo hi:Int):gT (λ_=>x) 1 lo hi↔lo≤x∧x≤hi:=⟨λh=>h 0 Ω,λh i _=>h⟩
def prd(u:Nat→Int):Nat→Int
 |0=>1
 |k+1=>prd u k*(u k+1)
theorem qil{u:Nat→Int}{m:Nat}(h:∀i,i<m→1≤u i∧u i≤12):∀k,k≤m→1≤prd u k∧prd u k≤13^k
 |0,_=>⟨by simp[prd],by simp[prd]⟩
 |k+1,hk=>by
  have ih:=qil h k Ω;have hu:=h k Ω;simp only[prd];constructor
  ·have:=Int.mul_le_mul ih.1 (Ω:(1:Int)≤u k+1) Ω Ω;omega
  ·have:=Int.mul_le_mul ih.2 (Ω:u k+1≤13) Ω (by have:=ih.1;have:=ih.2;omega)
   omega
theorem qdn{u:Nat→Int}{m:Nat}(h:∀i,i<m→1≤u i∧u i≤12)(hm:m≤5)(hk:k≤m):1≤prd u k∧prd u k≤371293:=by
 have⟨h1,h2⟩:=qil h k hk;have:∀j:Nat,j≤5→(13:Int)^j≤371293:=λj hj=>by
  have:j=0∨j=1∨j=2∨j=3∨j=4∨j=5:=by omega
  grind
 grind
theorem qqd(u:Nat→Int)(k:Nat):prd u (k+1)=prd u k*(u k+1):=rfl
def QÀ:=An QS QU
def QÁ:=An QR QU
end Go.Tn
end
