/- A part of the proof. -/
import Derived.OrdersIn
import Derived.TacticsIn
import Derived.RangeFuncLeaves
import Derived.RangeFuncRecord
import Derived.Scope
import Derived.Test.YtacejomniokahaaGreatPA
open Nat renaming le_refl→xa5,mul_le_mul_right→xa8,lt_of_lt_of_le→xa9,zero_add→xb0,add_zero→xb1,lt_succ_self→xb5,zero_le→xb6,le_trans→xc1,le_succ→xc4
open List renaming getD_eq_getElem?_getD→xc6,getElem?_append_left→xc9,getElem?_append_right→xd0,mem_append→xd4,mem_cons_self→xd5,getElem?_cons_zero→xd6,getElem?_cons_succ→xd7,length_cons→xe4
open Bool renaming and_eq_true→xe6,false_eq_true→xe7,or_eq_true→xe8,false_or→xf4
open Array renaming getD_eq_getD_getElem?→xf5
open Classical renaming byContradiction→xf9
open Option renaming getD_some→xg0,map_some→xg1
set_option linter.unusedVariables false
set_option linter.unusedSimpArgs false
set_option maxRecDepth 1000000
set_option maxHeartbeats 16000000
section
namespace Go.Sx
open Go.RowKit
variable{o:Oper}{a:Act}{K:Act→World→Prop}{hp':List (Nat×Blk)}{s:Sem Value}{res:Res}{fr:Nat→SV}{G:Bool→Nat→Prop}{args:List SV}{u v:Value}{t ty:TypeId}{x:SV}{α:Type}{parts:Array (Nat×Operand)}
def env(F:Nat→SV):Operand→SV
 |.tmp t=>F t
 |.const v=>.val v
 |.global _=>.top
 |.func f=>.fn (.func f) [] []
def envs(F:Nat→SV):List Operand→List SV
 |[]=>[]
 |x :: l=>env F x :: envs F l
def rLen(ti:Option TyI)(x:SV):Res:=
 match ti with
 |some ⟨_,_,_,.slice _ _⟩=>
  match x with
  |.arr _ _ n _ _=>.pure True (.val (.int .i64 n))
  |.vec _ n _=>.pure True (.val (.int .i64 n))
  |.asl _ _ n _=>.pure True (.val (.int .i64 n))
  |.que _ _ n _=>.pure True (.val (.int .i64 n))
  |.cut _ n _=>.pure True (.val (.int .i64 n))
  |.val (.slice none 0 0)=>.pure True (.val (.int .i64 0))
  |_=>.bad
 |some ⟨_,_,_,.array n _ _⟩=>.pure True (.val (.int .i64 n))
 |_=>.bad
def rMin2(mx:Bool):SV→SV→SV
 |.val (.int k a),.val (.int k' b)=>if eqKind k k'=true then .val (.int k (if mx then max a b else min a b))else .top
 |_,_=>.top
def rMin(mx:Bool):List SV→Res
 |[a,b]=>match rMin2 mx a b with
  |.val v=>.pure True (.val v)
  |_=>.bad
 |[a,b,c]=>match rMin2 mx (rMin2 mx a b) c with
  |.val v=>.pure True (.val v)
  |_=>.bad
 |_=>.bad
def envp(F:Nat→SV):List (Nat×Operand)→List (Nat×SV)
 |[]=>[]
 |x :: l=>(x.1,env F x.2) :: envp F l
def rCall(P:Program)(fr:Nat→SV)(hp:List (Nat×Blk))(c:Call):Res:=
 match c.callee with
 |.value f=>match env fr f with
  |.fn (.func g) first caps=>.call g (first++(envs fr c.args.toList++caps))
  |.yld id=>.yield id (envs fr c.args.toList)
  |_=>.bad
 |.builtin .len=>match c.args.toList,c.argTypes.toList with
  |[x],[t]=>rLen (qn P t) (env fr x)
  |_,_=>.bad
 |.builtin .min=>rMin false (envs fr c.args.toList)
 |.builtin .max=>rMin true (envs fr c.args.toList)
 |.builtin .append=>match c.args.toList,c.argTypes.toList with
  |[s,x],[t,t']=>if t=t' then rAppend P t hp (env fr s) (env fr x)else .bad
  |_,_=>.bad
 |.builtin .copy=>match c.args.toList,c.argTypes.toList with
  |[d,x],[t,t']=>rCopy P t hp (env fr d) (env fr x)
  |_,_=>.bad
 |.builtin .clear=>match c.args.toList,c.argTypes.toList with
  |[d],[t]=>match env fr d with
   |.mp id=>rClearMap (qD P t) hp (.mp id)
   |x=>rClear P t hp x
  |_,_=>.bad
 |.builtin .delete=>match c.args.toList,c.argTypes.toList with
  |[m,k],[t,t']=>rDelete (qD P t) hp (env fr m) (env fr k)
  |_,_=>.bad
 |_=>.bad
def rIndex(P:Program)(t:TypeId)(x i:SV):Res:=
 match i with
 |.val (.int _ i)=>match qn P t,x with
  |some ⟨_,_,_,.array n e k⟩,.agg l=>match qn P e with
   |some ⟨true,_,_,_⟩=>.pure (0≤i∧i<n∧i.toNat*k+k≤l.length) (.agg ((l.drop (i.toNat*k)).take k))
   |some ⟨false,_,_,_⟩=>.ex (λs=>0≤i∧i<n∧k=1∧l[i.toNat]? = some s)
   |none=>.bad
  |some ⟨_,_,_,.other⟩,.val (.string s)=>match P.underlying t with
   |some .string=>.ex (λsv=>0≤i∧∃b,s[i.toNat]? = some b∧sv=.val (.int .u8 b.toNat))
   |_=>.bad
  |_,_=>.bad
 |_=>.bad
def stepR(P:Program)(fr:Nat→SV)(hp:List (Nat×Blk))(op:Op):Res:=
 match op with
 |.move x=>.pure True (env fr x)
 |.assign x=>.pure True (env fr x)
 |.pick c a b=>rPick (env fr c) (env fr a) (env fr b)
 |.alloc t=>rAlloc (qn P t) t
 |.box t x=>rBox (qn P t) t (env fr x)
 |.load t x=>rLoad (qn P t) hp (env fr x)
 |.store t a x=>rStore (qn P t) hp (env fr a) (env fr x)
 |.nilCheck x=>rNil (env fr x)
 |.binOp op t x y _=>rBin P op t (env fr x) (env fr y)
 |.unOp op _ x=>rUn op (env fr x)
 |.convert s t x=>rConv (qn P s) (qn P t) (env fr x)
 |.makeFunc f fs cs=>.pure True (.fn f (envs fr fs.toList) (envs fr cs.toList))
 |.fieldAddr t x i=>rFieldAddr (qn P t) (env fr x) i
 |.field t x i=>rField (qn P t) (env fr x) i
 |.indexAddr t x i=>rIndexAddr (qn P t) (env fr x) (env fr i)
 |.extract x i=>rExtract (env fr x) i
 |.call c=>rCall P fr hp c
 |.build t parts=>rBuild P t (envp fr parts.toList)
 |.buildSlice t len parts=>rBuildSlice P t len (envp fr parts.toList)
 |.makeSlice t l c=>rMakeSlice P t (env fr l) (env fr c)
 |.slice t x lo hi mx=>rSlice (qn P t) (env fr x) (lo.map (env fr)) (hi.map (env fr)) (mx.map (env fr))
 |.makeMap t rs=>rMakeMap (qD P t) rs.isSome
 |.lookup t x k ok=>rLookup (qD P t) hp (env fr x) (env fr k) ok
 |.mapUpdate t m k x=>rUpdate (qD P t) hp (env fr m) (env fr k) (env fr x)
 |.insert t m k x=>rUpdate (qD P t) hp (env fr m) (env fr k) (env fr x)
 |.index t x i=>rIndex P t (env fr x) (env fr i)
 |.range _ _=>.raw
 |.next _ _=>.raw
 |.entry _=>.raw
 |_=>.bad
section
variable{P:Program}{base:World}{okc:Nat→Prop}{r:Nat→Option Nat}{N:Nat→Prop}{w:World}{hp:List (Nat×Blk)}
def ZF(P:Program)(base:World)(okc:Nat→Prop)(r:Nat→Option Nat)(N:Nat→Prop)(hp:List (Nat×Blk))(w:World)(id:Nat)(hp':List (Nat×Blk))(a:Act)(dst:Option Tmp)(K:Act→World→Prop):Res→Prop
 |.bad=>False
 |.pure obl sv=>obl∧∀v,Rep r N (Gd base okc r N hp w) w sv v→K (a.put dst v) w
 |.ex obl=>∃sv,obl sv∧∀v,Rep r N (Gd base okc r N hp w) w sv v→K (a.put dst v) w
 |.new obl b mk=>obl∧¬N id∧blk hp' id=some b∧(∀j,N j→blk hp' j=blk hp j)∧∀v w' r',Step base okc r N hp w r' (zm N id) hp' w'→Rep r' (zm N id) (Gd base okc r' (zm N id) hp' w') w' (mk id) v→K (a.put dst v) w'
 |.upd obl j b=>obl∧∀w',Step base okc r N hp w r N (setBlk hp j b) w'→K (a.put dst undef) w'
 |.updv obl j b sv=>obl∧∀v w',Step base okc r N hp w r N (setBlk hp j b) w'→Rep r N (Gd base okc r N (setBlk hp j b) w') w' sv v→K (a.put dst v) w'
 |.grow obl old b mk=>obl∧¬N id∧∃hp2,blk hp2 id=some b∧(∀j,N j→j≠old→blk hp2 j=blk hp j)∧blk hp2 old=none∧∀v w' r',Step base okc r N hp w r' (zm N id) hp2 w'→Rep r' (zm N id) (Gd base okc r' (zm N id) hp2 w') w' (mk id) v→K (a.put dst v) w'
 |.call f args=>(∃res,CanC P hp f args res∧∀v w',Step base okc r N hp w r N hp w'→Rep r N (Gd base okc r N hp w') w' res v→K (a.put dst v) w')∨
  (∃pats b res,zx P f pats b res∧NewOk hp pats args b res∧¬N id∧∃hp2,blk hp2 id=some b∧(∀j,N j→blk hp2 j=blk hp j)∧∀v w' r',Step base okc r N hp w r' (zm N id) hp2 w'→Rep r' (zm N id) (Gd base okc r' (zm N id) hp2 w') w' (setId id res) v→K (a.put dst v) w')
 |.yield _ _=>False
 |.raw=>False
theorem qgY(fr:Nat→SV)(l:List Operand)(i:Nat):(envs fr l)[i]? =(l[i]?).map (env fr):=by
 induction l generalizing i with
 |nil=>simp[envs]
 |cons a l ih=>cases i<;>simp[envs,ih]
theorem Yh(fr:Nat→SV)(l:List Operand):(envs fr l).length=l.length:=by induction l<;>simp[envs, *]
def qrh:Res→Bool
 |.pure _ _=>true
 |.ex _=>true
 |.new _ _ _=>true
 |.bad=>true
 |_=>false
theorem qcW{Q:Exit→Act→World→Prop}{id:Nat}
  (hr:execOp a.eval o=(do pure (.value (←s)))) (hg:K1 P r N (Gd base okc r N hp w) w s res)
  (hn:QP P base okc r N hp w s res) (hu:qrh res=true) (h:ZF P base okc r N hp w id hp' a o.dst K res):o.wp P a w K Q:=by
 unfold Oper.wp;rw[hr,Sem.run_bind];cases res with
 |bad=>exact h.elim
 |pure obl sv=>
  obtain⟨v,hv,hrep⟩:=hg h.1;rw[hv];exact h.2 v hrep
 |ex obl=>
  obtain⟨sv,ho,hk⟩:=h;obtain⟨v,hv,hrep⟩:=hg sv ho;rw[hv];exact hk v hrep
 |new obl b mk=>
  obtain⟨h0,h1,h2,h3,h4⟩:=h;obtain⟨v,w',r',hv,hs,hrep⟩:=hn h0 id hp' h1 h2 h3;rw[hv];exact h4 v w' r' hs hrep
 |upd obl j b=>cases hu
 |call f args=>cases hu
 |updv obl j b sv=>cases hu
 |grow obl old b mk=>cases hu
 |yield _ _=>cases hu
 |raw=>cases hu
theorem Ga{Q:Exit→Act→World→Prop}{id:Nat}{s:Sem Unit}
  (hr:execOp a.eval o=(do s;pure .skip)) (hu:qgR P base okc r N hp w s res)
  (hb:(∃obl j b,res=.upd obl j b)∨res=.bad) (h:ZF P base okc r N hp w id hp' a o.dst K res):o.wp P a w K Q:=by
 unfold Oper.wp;rw[hr,Sem.run_bind];rcases hb with⟨obl,j,b,rfl⟩|rfl
 ·obtain⟨w',hv,hs⟩:=hu h.1
  rw[hv];exact h.2 w' hs
 ·exact h.elim
theorem wV(ti:Option TyI)(hp:List (Nat×Blk))(a v:SV):(∃obl j b,rStore ti hp a v=.upd obl j b)∨rStore ti hp a v=.bad:=by
 unfold rStore;split
 ·grind
 ·grind
 ·exact .inr rfl
def vg:Res→Bool
 |.pure _ _=>true
 |.ex _=>true
 |.bad=>true
 |_=>false
theorem gt{Q:Exit→Act→World→Prop}{id:Nat}
  (hr:execOp a.eval o=(do pure (.value (←s)))) (hg:K1 P r N (Gd base okc r N hp w) w s res) (hs:vg res=true) (h:ZF P base okc r N hp w id hp' a o.dst K res):o.wp P a w K Q:=
 qcW hr hg (by cases res<;>first|trivial|(simp[vg]at hs)) (by cases res<;>first|rfl|(simp[vg]at hs)) h
theorem ZG{Q:Exit→Act→World→Prop}{id:Nat}
  (hr:execOp a.eval o=(do pure (.value (←s)))) (hg:QP P base okc r N hp w s res) (hs:(∃obl b mk,res=.new obl b mk)∨res=.bad) (h:ZF P base okc r N hp w id hp' a o.dst K res):o.wp P a w K Q:=
 qcW hr (by rcases hs with⟨_,_,_,rfl⟩|rfl<;>trivial) hg (by rcases hs with⟨_,_,_,rfl⟩|rfl<;>rfl) h
theorem qcX(x:Operand)(ha:∀i,x=.tmp i→Rep r N (Gd base okc r N hp w) w (fr i) (a.tmps.getD i undef)):Rep r N (Gd base okc r N hp w) w (env fr x) (a.eval x):=by
 cases x with
 |tmp t=>exact ha t rfl
 |const v=>exact .val v
 |global g=>exact .top _
 |func f=>exact .fn _ _ _ _ _ rfl rfl (λi sv h=>by simp at h) (λi sv h=>by simp at h)
theorem wW(xs:Array Operand)(ha:∀x,x∈xs→Rep r N (Gd base okc r N hp w) w (env fr x) (a.eval x)) :
  (envs fr xs.toList).length=(xs.map a.eval).size∧∀i sv,(envs fr xs.toList)[i]? = some sv→Rep r N (Gd base okc r N hp w) w sv ((xs.map a.eval).getD i undef):=by
 refine⟨by simp[Yh],λi sv hi=>?_⟩;rw[qgY]at hi;cases hx:xs.toList[i]? with
 |none=>simp[hx]at hi
 |some x=>
  simp only[hx,xg1,Option.some.injEq]at hi;subst hi;have:xs[i]? = some x:=by simpa using hx
  simp only[xf5,Array.getElem?_map,this,xg1,xg0]
  grind
theorem wa{l m:List SV}{cs ds:Array Value}(hl:l.length=cs.size)(hm:m.length=ds.size)(h:∀i sv,l[i]? = some sv→Rep r N G w sv (cs.getD i undef))(h':∀i sv,m[i]? = some sv→Rep r N G w sv (ds.getD i undef)) :
  (l++m).length=(cs++ds).size∧∀i sv,(l++m)[i]? = some sv→Rep r N G w sv ((cs++ds).getD i undef):=by
 refine⟨by simp[hl,hm],λi sv hi=>?_⟩;by_cases hlt:i<l.length
 ·rw[xc9 hlt]at hi
  have:(cs++ds).getD i undef=cs.getD i undef:=by
   simp only[xf5]
   grind
  grind
 ·rw[xd0 Ω]at hi
  have:(cs++ds).getD i undef=ds.getD (i - l.length) undef:=by
   simp only[xf5]
   grind
  simp_all
theorem qgZ{f:FuncId}{vs:Array Value}(h:Sat base okc r N hp w)(hl:args.length=vs.size)(ha:∀i sv,args[i]? = some sv→Rep r N (Gd base okc r N hp w) w sv (vs.getD i undef))
  {res:SV} (hcc:CanC P hp f args res)    {Q:Exit→Act→World→Prop}
  (hk:∀v w',Step base okc r N hp w r N hp w'→Rep r N (Gd base okc r N hp w') w' res v→K (a.put o.dst v) w'):o.upon P a K Q ((callFunc f vs).run P w):=by
 rcases hcc with⟨pats,hc,hs⟩|⟨i,hc,hi⟩
 rotate_left
 ·obtain⟨⟨fn,hf,hname,hbody⟩,hc⟩:=hc
  have hrun:(callFunc f vs).run P w=.ok (.enter f vs) w:=by
   have:fn.body.isNone=false:=by cases hb:fn.body<;>simp_all
   simp only[callFunc,Sem.run_bind,run_program,Result.andThen_ok,hf,hname,xe7,if_false,this,Sem.run_pure]
  rw[hrun,Oper.upon_enter];have⟨hr,ho⟩:=Sh.rep ha hi;refine(hc w vs hl ho).mono λe w'=>?_;rintro⟨rfl,hb⟩;have hst:=h.grow hb;exact hk _ w' hst (hst.rep hr)
 obtain⟨⟨fn,hf,hname,hbody⟩,hc⟩:=hc;have hrun:(callFunc f vs).run P w=.ok (.enter f vs) w:=by
  have:fn.body.isNone=false:=by cases hb:fn.body<;>simp_all
  simp only[callFunc,Sem.run_bind,run_program,Result.andThen_ok,hf,hname,xe7,if_false,this,Sem.run_pure]
 rw[hrun,Oper.upon_enter];rcases hs with⟨hs,hfr⟩|hs
 ·have hlen:=(kw hs).1
  refine(hc (λ_=>True) w vs (hlen.trans hl) (λi sv hi=>sub_repL (G:=Gd base okc r N hp w) (λ_ _ b _ hb=>⟨trivial,hb.1⟩) (λid x hx hN=>⟨h.rep id x hx hN,λb hb _=>⟨trivial,h.lt hx hN hb⟩⟩) pats args vs hs hl ha i sv hi)).mono λe w'=>?_;rintro⟨v,rfl,hb,hrep⟩;have hst:=h.grow hb;refine hk v w' hst (qfr (λb hb'=>⟨hb'.1,λid x hx hN e=>?_,?_⟩) hrep hfr)
  ·have:=h.lt hx hN e
   grind
  ·have:=hb'.2
   simp only[if_true]at this ⊢;have:=h.below.size;omega
 ·have hlen:=(kw hs).1
  refine(hc (λb=>Gd base okc r N hp w false b) w vs (hlen.trans hl) (λi sv hi=>sub_repL (hp:=[]) (G:=Gd base okc r N hp w) (λ_ o' b _ hb=>⟨⟨hb.1,hb.2.1,(by have:=hb.2.2;cases o'<;>simp_all)⟩,hb.1⟩) (λid x hx hN=>by simp[blk]at hx) pats args vs hs hl ha i sv hi)).mono λe w'=>?_;rintro⟨v,rfl,hb,hrep⟩;have hst:=h.grow hb;refine hk v w' hst (ka (λo b hb'=>?_) hrep);obtain⟨h1,h2⟩:=hb';have hsz:=h.below.size;cases o with
  |true=>
   simp only[if_true]at h2;exact⟨h1,λid x hx hN e=>by have:=h.lt hx hN e;omega,by simp only[if_true];omega⟩
  |false=>
   simp only[xe7,if_false]at h2;rcases h2 with h2|h2
   ·exact⟨h1,h2.2.1,h2.2.2⟩
   ·exact⟨h1,λid x hx hN e=>by have:=h.lt hx hN e;omega,by simp only[xe7,if_false];right;omega⟩
theorem J5{f:FuncId}{vs:Array Value}(h:Sat base okc r N hp w)(hl:args.length=vs.size)(ha:∀i sv,args[i]? = some sv→Rep r N (Gd base okc r N hp w) w sv (vs.getD i undef))
  {pats:List SV} {bb:Blk} {res:SV} (hc:zx P f pats bb res) (hs:NewOk hp pats args bb res) {id:Nat} (hid:¬N id) {hp2:List (Nat×Blk)} (hat:blk hp2 id=some bb) (hoth:∀j,N j→blk hp2 j=blk hp j)    {Q:Exit→Act→World→Prop}
  (hk:∀v w' r',Step base okc r N hp w r' (zm N id) hp2 w'→Rep r' (zm N id) (Gd base okc r' (zm N id) hp2 w') w' (setId id res) v→K (a.put o.dst v) w'):o.upon P a K Q ((callFunc f vs).run P w):=by
 obtain⟨⟨fn,hf,hname,hbody⟩,hc⟩:=hc;have hrun:(callFunc f vs).run P w=.ok (.enter f vs) w:=by
  have:fn.body.isNone=false:=by cases hb:fn.body<;>simp_all
  simp only[callFunc,Sem.run_bind,run_program,Result.andThen_ok,hf,hname,xe7,if_false,this,Sem.run_pure]
 rw[hrun,Oper.upon_enter];rcases hs with⟨hs,hfo,hfb⟩|⟨hs,hfo,hfb⟩
 ·have hlen:=(kw hs).1
  refine(hc (λ_=>True) w vs (hlen.trans hl) (λi sv hi=>sub_repL (G:=Gd base okc r N hp w) (λ_ _ b _ hb=>⟨trivial,hb.1⟩) (λid x hx hN=>⟨h.rep id x hx hN,λb hb _=>⟨trivial,h.lt hx hN hb⟩⟩) pats args vs hs hl ha i sv hi)).mono λe w'=>?_;rintro⟨v,ob,rfl,hb,hob,hblk,hrep⟩;have hst:=h.exch (w':=w') id hid none (hp':=hp2) bb ob hat (λj hj _=>hoth j hj) (λo ho=>by cases ho) (h.below.trans (hb.mono h.below.size)) (Shapes.below hb) hb.size (λc hc _=>hb.block c hc) (λc hc=>.inr (hob c hc)) λr' N' G' _ _ _ hnew=>
   qlf (λc hc=>by
    have h2:=hc.2.2;simp only[if_true]at h2;exact hnew true c h2 hc.1 hc.2.1) hblk hfb
  refine hk v w' _ hst (qle (ob:=ob) (qw _ _ _) (.inr rfl) (λc hc=>?_) hrep hfo);have h2:=hc.2.2;simp only[if_true]at h2;refine⟨hc.1,λj y hy hN=>?_,?_⟩
  ·rcases hN with e|e
   ·have hne:j≠id:=λe'=>hid (by rw[←e'];exact e)
    rw[jQ _ hne];intro e';rw[hoth j e]at hy;exact absurd (h.lt hy e e') Ω
   ·subst e;rw[qw];exact hc.2.1
  ·have:=h.below.size
   grind
 ·have hlen:=(kw hs).1
  refine(hc (λb=>Gd base okc r N hp w false b) w vs (hlen.trans hl) (λi sv hi=>sub_repL (hp:=[]) (G:=Gd base okc r N hp w) (λ_ o' b _ hb=>⟨⟨hb.1,hb.2.1,(by have:=hb.2.2;cases o'<;>simp_all)⟩,hb.1⟩) (λid x hx hN=>by simp[blk]at hx) pats args vs hs hl ha i sv hi)).mono λe w'=>?_;rintro⟨v,ob,rfl,hb,hob,hblk,hrep⟩;have hst:=h.exch (w':=w') id hid none (hp':=hp2) bb ob hat (λj hj _=>hoth j hj) (λo ho=>by cases ho) (h.below.trans (hb.mono h.below.size)) (Shapes.below hb) hb.size (λc hc _=>hb.block c hc) (λc hc=>.inr (hob c hc)) λr' N' G' _ _ hold hnew=>
   qol (λo c hc=>by
    obtain⟨h0,h1,h2⟩:=hc;cases o with
    |true=>simp only[if_true]at h2;exact hnew true c h2 h0 h1
    |false=>
     simp only[xe7,if_false]at h2;rcases h2 with h2|h2
     ·simp_all
     ·exact hnew false c h2 h0 h1) hblk hfb
  refine hk v w' _ hst (qok (ob:=ob) (qw _ _ _) (.inr rfl) (λo c hc=>?_) hrep hfo);obtain⟨g0,g1,g2⟩:=hc;have hbs:=h.below.size;have key:w.heap.size≤c∨Gd base okc r N hp w o c:=by
   cases o with
   |true=>simp only[if_true]at g2;exact .inl g2
   |false=>
    simp only[xe7,if_false]at g2;rcases g2 with g2|g2
    ·exact .inr g2
    ·exact .inl g2
  rcases key with key|key
  ·refine⟨g0,λj y hy hN=>?_,?_⟩
   ·rcases hN with e|e
    ·have hne:j≠id:=λe'=>hid (by rw[←e'];exact e)
     rw[jQ _ hne];intro e';rw[hoth j e]at hy;exact absurd (h.lt hy e e') Ω
    ·subst e;rw[qw];exact g1
   ·grind
  ·exact(hst.gg o c key).1
theorem Gb(x y:SV){z:Value}(hx:Rep r N G w x u)(hy:Rep r N G w y v)(h:rMin2 false x y=.val z):(Builtin.min2 u v).run P w=.ok z w:=by
 unfold rMin2 at h;split at h
 ·cases hx;cases hy
  rename_i k a k' b;split at h
  ·rename_i e
   obtain rfl:=vw e;cases h;simp only[Builtin.min2,Sem.run_pure,xe7,if_false]
   congr 2
   split<;>omega
  ·cases h
 ·cases h
theorem Gc(x y:SV){z:Value}(hx:Rep r N G w x u)(hy:Rep r N G w y v)(h:rMin2 true x y=.val z):(Builtin.max2 u v).run P w=.ok z w:=by
 unfold rMin2 at h;split at h
 ·cases hx;cases hy
  rename_i k a k' b;split at h
  ·rename_i e
   obtain rfl:=vw e;cases h;simp only[Builtin.max2,Sem.run_pure,if_true]
   congr 2
   split<;>omega
  ·cases h
 ·cases h
theorem qlh(hx:Rep r N G w x u){obl:Prop}{sv:SV}(h:rLen (qn P t) x=.pure obl sv):∃v,(Builtin.len_ #[t] ty #[u]).run P w=.ok v w∧Rep r N G w sv v:=by
 unfold rLen at h;split at h
 ·rename_i ag sz z e k ht
  obtain⟨i,hu,_,_⟩:=K2 ht rfl;have key:∀(a:Option Addr)(n c:Nat),(Builtin.len_ #[t] ty #[.slice a n c]).run P w=.ok (.int .i64 n) w:=λa n c=>by
   simp[Builtin.len_,run_underlying hu,goInt]
  split at h<;>simp only[Res.pure.injEq,reduceCtorEq]at h<;>obtain⟨rfl,rfl⟩:=h<;>cases hx<;>exact⟨_,key _ _ _,.val _⟩
 ·rename_i ag sz z n e k ht
  obtain⟨i,hu,_,_⟩:=K3 ht rfl;simp only[Res.pure.injEq]at h;obtain⟨rfl,rfl⟩:=h;refine⟨.int .i64 n,?_,.val _⟩;simp[Builtin.len_,run_underlying hu,goInt]
 ·cases h
theorem Kg{xs:Array α}{a b:α}(h:xs.toList=[a,b]):xs = #[a,b]:=by cases xs;simp_all
theorem Ge{xs:Array α}{a:α}(h:xs.toList=[a]):xs = #[a]:=by cases xs;simp_all
theorem qpU{xs:Array α}{a b c:α}(h:xs.toList=[a,b,c]):xs = #[a,b,c]:=by cases xs;simp_all
theorem qpV{l:List Operand}{a b:SV}(h:envs fr l=[a,b]):∃x y,l=[x,y]∧env fr x=a∧env fr y=b:=by
 match l,h with
 |[x,y],h=>simp only[envs,List.cons.injEq,and_true]at h;exact⟨x,y,rfl,h.1,h.2⟩
 |[],h=>simp[envs]at h
 |[x],h=>simp[envs]at h
 |x :: y :: z :: l,h=>simp[envs]at h
theorem qpW{l:List Operand}{a b c:SV}(h:envs fr l=[a,b,c]):∃x y z,l=[x,y,z]∧env fr x=a∧env fr y=b∧env fr z=c:=by
 match l,h with
 |[x,y,z],h=>simp only[envs,List.cons.injEq,and_true]at h;exact⟨x,y,z,rfl,h.1,h.2.1,h.2.2⟩
 |[],h=>simp[envs]at h
 |[x],h=>simp[envs]at h
 |[x,y],h=>simp[envs]at h
 |x :: y :: z :: u :: l,h=>simp[envs]at h
theorem Gf(mx:Bool){xs:Array Operand}(ha:∀x,x∈xs→Rep r N (Gd base okc r N hp w) w (env fr x) (a.eval x)){ts:Array TypeId}{obl:Prop}{sv:SV}(h:rMin mx (envs fr xs.toList)=.pure obl sv) :
  ∃v,(if mx=true then Builtin.max_ ts t (xs.map a.eval)else Builtin.min_ ts t (xs.map a.eval)).run P w=.ok v w∧Rep r N (Gd base okc r N hp w) w sv v:=by
 unfold rMin at h;split at h
 ·rename_i x y he
  obtain⟨ox,oy,hl,rfl,rfl⟩:=qpV he;have hxs:=Kg hl;subst hxs;split at h
  ·rename_i v hv
   simp only[Res.pure.injEq]at h;obtain⟨rfl,rfl⟩:=h;refine⟨v,?_,.val v⟩;cases mx with
   |true=>
    have:=Gc (P:=P) _ _ (ha ox Ωg) (ha oy Ωg) hv;simp[Builtin.max_,this]
   |false=>
    have:=Gb (P:=P) _ _ (ha ox Ωg) (ha oy Ωg) hv;simp[Builtin.min_,this]
  ·cases h
 ·rename_i x y z he
  obtain⟨ox,oy,oz,hl,rfl,rfl,rfl⟩:=qpW he;have hxs:=qpU hl;subst hxs;split at h
  ·rename_i v hv
   simp only[Res.pure.injEq]at h;obtain⟨rfl,rfl⟩:=h;refine⟨v,?_,.val v⟩;cases hm:rMin2 mx (env fr ox) (env fr oy)with
   |val u=>
    rw[hm]at hv;cases mx with
    |true=>
     have h1:=Gc (P:=P) _ _ (ha ox Ωg) (ha oy Ωg) hm;have h2:=Gc (P:=P) (w:=w) _ _ (.val u) (ha oz Ωg) hv;simp[Builtin.max_,h1,h2]
    |false=>
     have h1:=Gb (P:=P) _ _ (ha ox Ωg) (ha oy Ωg) hm;have h2:=Gb (P:=P) (w:=w) _ _ (.val u) (ha oz Ωg) hv;simp[Builtin.min_,h1,h2]
   |_=>rw[hm]at hv;simp[rMin2]at hv
  ·cases h
 ·cases h
theorem Kh(fr:Nat→SV)(l:List (Nat×Operand)):(envp fr l).length=l.length:=by induction l<;>simp[envp, *]
theorem qli(fr:Nat→SV)(l:List (Nat×Operand))(i:Nat):(envp fr l)[i]? =(l[i]?).map λx=>(x.1,env fr x.2):=by
 induction l generalizing i with
 |nil=>simp[envp]
 |cons a l ih=>cases i<;>simp[envp,ih]
theorem Yi(parts:Array (Nat×Operand))(ha:∀x,(∃i,(i,x)∈parts)→Rep r N G w (env fr x) (a.eval x))(i:Nat)(p:Nat×SV)(q:Nat×Value)(hp:(envp fr parts.toList)[i]? = some p)(hq:(parts.map λ(i,x)=>(i,a.eval x)).toList[i]? = some q) :
  p.1=q.1∧Rep r N G w p.2 q.2:=by
 rw[qli]at hp;cases hx:parts.toList[i]? with
 |none=>rw[hx]at hp;simp at hp
 |some x=>
  grind
theorem Gg(x:Option Operand)(ha:∀y,x=some y→Rep r N G w (env fr y) (a.eval y)):Ks r N G w (x.map (env fr)) (x.map a.eval):=by
 cases x with
 |none=>trivial
 |some x=>exact ha x rfl
theorem jF(ti:Option TyI)(x:SV)(lo hi mx:Option SV):vg (rSlice ti x lo hi mx)=true:=by
 unfold rSlice;(repeat' split)<;>rfl
theorem gy(t:TypeId)(parts:List (Nat×SV)):vg (rBuild P t parts)=true:=by
 unfold rBuild;(repeat' split)<;>rfl
theorem kK(t:TypeId)(len:Nat)(parts:List (Nat×SV)):(∃obl b mk,rBuildSlice P t len parts=.new obl b mk)∨rBuildSlice P t len parts=.bad:=by
 unfold rBuildSlice;(repeat' split)<;>first|exact .inl ⟨_,_,_,rfl⟩|exact .inr rfl
theorem k4(t:TypeId)(l c:SV):(∃obl b mk,rMakeSlice P t l c=.new obl b mk)∨rMakeSlice P t l c=.bad:=by
 unfold rMakeSlice;(repeat' split)<;>first|exact .inl ⟨_,_,_,rfl⟩|exact .inr rfl
theorem jG(t:TypeId)(s x:SV):(∃obl b mk,rAppend P t hp s x=.new obl b mk)∨(∃obl o b mk,rAppend P t hp s x=.grow obl o b mk)∨rAppend P t hp s x=.bad:=by
 unfold rAppend;(repeat' split)<;>first|exact .inl ⟨_,_,_,rfl⟩|exact .inr (.inl ⟨_,_,_,_,rfl⟩)|exact .inr (.inr rfl)
theorem Qm(t:TypeId)(s x:SV):(∃obl j b sv,rCopy P t hp s x=.updv obl j b sv)∨rCopy P t hp s x=.bad:=by
 unfold rCopy;(repeat' split)<;>first|exact .inl ⟨_,_,_,_,rfl⟩|exact .inr rfl
theorem wX(t:TypeId)(s:SV):(∃obl j b,rClear P t hp s=.upd obl j b)∨rClear P t hp s=.bad:=by
 unfold rClear;(repeat' split)<;>first|exact .inl ⟨_,_,_,rfl⟩|exact .inr rfl
theorem Yj(h:Sat base okc r N hp w){s:SV}(hs:Rep r N (Gd base okc r N hp w) w s u)(hx:Rep r N (Gd base okc r N hp w) w x v){Q:Exit→Act→World→Prop}{id:Nat}
  (he:execOp a.eval o=(do pure (.value (←Builtin.append_ #[t,t] ty #[u,v])))) (hk:ZF P base okc r N hp w id hp' a o.dst K (rAppend P t hp s x)):o.wp P a w K Q:=by
 obtain⟨g1,g2⟩:=qbb (P:=P) h t ty hs hx;rcases jG (P:=P) (hp:=hp) t s x with⟨obl,b,mk,hres⟩|⟨obl,o,b,mk,hres⟩|hres
 ·rw[hres]at hk g1
  exact ZG he g1 (.inl ⟨_,_,_,rfl⟩) hk
 ·rw[hres]at hk g2
  obtain⟨h0,h1,hp2,h2,h3,h4,h5⟩:=hk;obtain⟨v,w',r',hv,hs,hrep⟩:=g2 h0 id hp2 h1 h2 h3 h4;unfold Oper.wp;rw[he,Sem.run_bind,hv];exact h5 v w' r' hs hrep
 ·rw[hres]at hk;exact hk.elim
theorem qft(h:Sat base okc r N hp w){d:SV}(hd:Rep r N (Gd base okc r N hp w) w d u)(hx:Rep r N (Gd base okc r N hp w) w x v){t':TypeId}{Q:Exit→Act→World→Prop}{id:Nat}
  (he:execOp a.eval o=(do pure (.value (←Builtin.copy_ #[t,t'] ty #[u,v])))) (hk:ZF P base okc r N hp w id hp' a o.dst K (rCopy P t hp d x)):o.wp P a w K Q:=by
 have g1:=qfo (P:=P) h t ty t' hd hx;rcases Qm (P:=P) (hp:=hp) t d x with⟨obl,j,b,sv,hres⟩|hres
 ·rw[hres]at hk g1
  obtain⟨v,w',hv,hs,hrep⟩:=g1 hk.1;unfold Oper.wp;rw[he,Sem.run_bind,hv];exact hk.2 v w' hs hrep
 ·rw[hres]at hk;exact hk.elim
theorem qbk(h:Sat base okc r N hp w){d:SV}(hd:Rep r N (Gd base okc r N hp w) w d u){Q:Exit→Act→World→Prop}{id:Nat}
  (he:execOp a.eval o=(do pure (.value (←Builtin.clear_ #[t] ty #[u])))) (hk:ZF P base okc r N hp w id hp' a o.dst K (rClear P t hp d)):o.wp P a w K Q:=by
 rcases wX (P:=P) (hp:=hp) t d with⟨obl,j,b,hres⟩|hres
 ·have hres':=hres
  rw[hres]at hk;obtain⟨w',hv,hs⟩:=qbc (P:=P) h t ty hd hres' hk.1;unfold Oper.wp;rw[he,Sem.run_bind,hv];exact hk.2 w' hs
 ·rw[hres]at hk;exact hk.elim
theorem qbl(h:Sat base okc r N hp w){lo hi mx:Option SV}{vlo vhi vmx:Option Value}(hx:Rep r N (Gd base okc r N hp w) w x u)(hlo:Ks r N (Gd base okc r N hp w) w lo vlo)(hhi:Ks r N (Gd base okc r N hp w) w hi vhi)(hmx:Ks r N (Gd base okc r N hp w) w mx vmx)
     {Q:Exit→Act→World→Prop} {id:Nat} 
  (he:execOp a.eval o=(do pure (.value (←Instr.sliceAt t u vlo vhi vmx)))) (hk:ZF P base okc r N hp w id hp' a o.dst K (rSlice (qn P t) x lo hi mx)):o.wp P a w K Q:=
 gt he (qfm t hx hlo hhi hmx) (jF _ _ _ _ _) hk
theorem qbm(hx:∀x,(∃i,(i,x)∈parts)→Rep r N (Gd base okc r N hp w) w (env fr x) (a.eval x))
    {Q:Exit→Act→World→Prop} {id:Nat} 
  (he:execOp a.eval o=(do pure (.value (←Instr.build t (parts.map λ(i,x)=>(i,a.eval x)))))) (hk:ZF P base okc r N hp w id hp' a o.dst K (rBuild P t (envp fr parts.toList))):o.wp P a w K Q:=
 gt he (qbe (by simp[Kh]) λi p q hp hq=>Yi parts hx i p q hp hq) (gy _ _) hk
theorem Ku(h:Sat base okc r N hp w)(hx:∀x,(∃i,(i,x)∈parts)→Rep r N (Gd base okc r N hp w) w (env fr x) (a.eval x)){len:Nat}
    {Q:Exit→Act→World→Prop} {id:Nat} 
  (he:execOp a.eval o=(do pure (.value (←Instr.buildSlice t len (parts.map λ(i,x)=>(i,a.eval x)))))) (hk:ZF P base okc r N hp w id hp' a o.dst K (rBuildSlice P t len (envp fr parts.toList))):o.wp P a w K Q:=
 ZG he (Kt h t len (by simp[Kh]) λi p q hp hq=>Yi parts hx i p q hp hq) (kK _ _ _) hk
theorem kL(mi:Option jX)(hp:List (Nat×Blk))(m k x:SV):(∃obl j b,rUpdate mi hp m k x=.upd obl j b)∨rUpdate mi hp m k x=.bad:=by
 unfold rUpdate;(repeat' split)<;>first|exact .inl ⟨_,_,_,rfl⟩|exact .inr rfl
theorem wb(mi:Option jX)(hp:List (Nat×Blk))(m k:SV):(∃obl j b,rDelete mi hp m k=.upd obl j b)∨rDelete mi hp m k=.bad:=by
 unfold rDelete;(repeat' split)<;>first|exact .inl ⟨_,_,_,rfl⟩|exact .inr rfl
theorem jZ(mi:Option jX)(hp:List (Nat×Blk))(m:SV):(∃obl j b,rClearMap mi hp m=.upd obl j b)∨rClearMap mi hp m=.bad:=by
 unfold rClearMap;(repeat' split)<;>first|exact .inl ⟨_,_,_,rfl⟩|exact .inr rfl
theorem kW(mi:Option jX)(hp:List (Nat×Blk))(x k:SV)(ok:Bool):vg (rLookup mi hp x k ok)=true:=by
 unfold rLookup;(repeat' split)<;>rfl
theorem jH(t:TypeId)(x i:SV):vg (rIndex P t x i)=true:=by
 unfold rIndex;(repeat' split)<;>rfl
theorem jb(mi:Option jX)(b:Bool):(∃obl bb mk,rMakeMap mi b=.new obl bb mk)∨rMakeMap mi b=.bad:=by
 unfold rMakeMap;(repeat' split)<;>first|exact .inl ⟨_,_,_,rfl⟩|exact .inr rfl
theorem qbn{i:SV}(hx:Rep r N G w x u)(hi:Rep r N G w i v):K1 P r N G w (Instr.index t u v) (rIndex P t x i):=by
 unfold rIndex;split
 ·rename_i kk i
  cases hi;split
  ·rename_i ag sz z n e k l ht
   obtain⟨hu,ei,hei,hk⟩:=JX ht;cases hx with
   |agg _ cs hl hr=>
    have hsz:(sizeOf e).run P w=.ok k w:=by rw[zE hei,hk]
    split
    ·rename_i sz' z' d' hte
     rintro⟨h1,h2,h3⟩;refine⟨.agg (cs.extract (i.toNat*k) (i.toNat*k+k)),?_,.agg _ _ Ωj λj sv hj=>?_⟩
     ·simp only[Instr.index,asIntOf,Sem.run_bind,Sem.run_pure,Result.andThen_ok,run_underlying hu,h1,h2,and_self,if_true,hsz,part,vQ hte]
     ·rw[List.getElem?_take]at hj
      split at hj
      ·rename_i hjk
       rw[List.getElem?_drop]at hj;have:=hr _ sv hj;have e:(cs.extract (i.toNat*k) (i.toNat*k+k)).getD j undef=cs.getD (i.toNat*k+j) undef:=by
        simp only[xf5,Array.getElem?_extract];rw[if_pos Ω]
       rw[e];exact this
      ·cases hj
    ·rename_i sz' z' d' hte
     rintro sv ⟨h1,h2,rfl,h3⟩;have hlt:i.toNat<cs.size:=by rw[←hl];exact(List.getElem?_eq_some_iff.1 h3).1
     refine⟨cs.getD i.toNat undef,?_,hr _ sv h3⟩;simp only[Instr.index,asIntOf,Sem.run_bind,Sem.run_pure,Result.andThen_ok,run_underlying hu,h1,h2,and_self,if_true,hsz,part,vQ hte,xe7,if_false,Nat.mul_one];simp[hlt]
    ·trivial
  ·rename_i s ht
   split
   ·rename_i hu
    rintro sv ⟨h1,b,hb,rfl⟩;cases hx;refine⟨.int .u8 b.toNat,?_,.val _⟩;simp only[Instr.index,asIntOf,Sem.run_bind,Sem.run_pure,Result.andThen_ok,run_underlying hu,h1,if_true,hb]
   ·trivial
  ·trivial
 ·trivial
theorem Yk(f:Value){Q:Exit→Act→World→Prop}{id:Nat}
  (he:execOp a.eval o=(do pure (.value (←s)))) (hf:(∃obl j b,res=.upd obl j b)∨res=.bad) (hr:∀obl j b,res=.upd obl j b→obl→∃w',s.run P w=.ok (.tuple #[]) w'∧Step base okc r N hp w r N (setBlk hp j b) w')
  (hk:ZF P base okc r N hp w id hp' a o.dst K res):o.wp P a w K Q:=by
 rcases hf with⟨obl,j,b,rfl⟩|rfl
 ·obtain⟨w',hv,hs⟩:=hr _ _ _ rfl hk.1
  unfold Oper.wp;rw[he,Sem.run_bind,hv];exact hk.2 w' hs
 ·exact hk.elim
theorem vh(h:Sat base okc r N hp w)(ha:∀x,x∈o.op.operands→Rep r N (Gd base okc r N hp w) w (env fr x) (a.eval x)){Q:Exit→Act→World→Prop}{id:Nat}
  (hk:ZF P base okc r N hp w id hp' a o.dst K (stepR P fr hp o.op)):o.wp P a w K Q:=by
 obtain⟨dst,op,type,pos,after,guard⟩:=o;have E:=λx hx=>ha x hx;clear ha;simp only[]at E;cases op<;>simp only[stepR]at hk<;>try exact hk.elim
 case move x=>exact hk.2 _ (E x Ωh)
 case assign x=>exact hk.2 _ (E x Ωh)
 case pick c x y=>
  unfold rPick at hk;split at hk
  ·rename_i b hb
   have hc:=E c Ωh;rw[hb]at hc;have he:a.eval c=.bool b:=by generalize a.eval c=z at hc;cases hc;rfl
   unfold Oper.wp;simp only[execOp,he,asBool,Sem.run_bind,Sem.run_pure,Result.andThen_ok];exact hk.2 _ (Rep.ite b (E x Ωh) (E y Ωh))
  ·exact hk.elim
 case alloc t=>exact ZG rfl (qfk h t) (by unfold rAlloc;split<;>first|exact .inl ⟨_,_,_,rfl⟩|exact .inr rfl) hk
 case box t x=>exact ZG rfl (qld h t (E x Ωh)) (by unfold rBox;split<;>first|exact .inl ⟨_,_,_,rfl⟩|exact .inr rfl|(split<;>first|exact .inl ⟨_,_,_,rfl⟩|exact .inr rfl)) hk
 case load t x=>exact gt rfl (run_load h.ok (E x Ωh)) (by unfold rLoad;split<;>first|rfl|(split<;>first|rfl|(split<;>rfl))) hk
 case store t x y=>exact Ga rfl (qfl h t (E x Ωh) (E y Ωh)) (wV _ _ _ _) hk
 case nilCheck x=>
  have hx:=E x Ωh;generalize hs:env fr x=s at hk hx;unfold Oper.wp;simp only[execOp];generalize a.eval x=u at hx;cases hx<;>simp only[rNil]at hk<;>try exact hk.elim
  case ptr id off b hN hr=>exact hk.2 _ (.ptr _ _ _ hN hr)
  case elt id k i j b hN hr=>exact hk.2 _ (.elt _ _ _ _ _ hN hr)
  case ref o n row b off f hG hc hr=>exact hk.2 _ (.ref _ _ _ _ _ f hG hc hr)
  case fn f l m cs ds hl hm h1 h2=>
   cases f<;>simp only[]at hk<;>try exact hk.elim
   exact hk.2 _ (.fn _ _ _ _ _ hl hm h1 h2)
 case binOp op t x y t'=>
  have hx:=E x Ωh;have hy:=E y Ωh;cases hres:rBin P op t (env fr x) (env fr y)with
  |pure obl sv=>
   rw[hres]at hk;obtain⟨z,hz,hrep⟩:=qlc hres hk.1 hx hy x y;unfold Oper.wp;simp only[execOp];rw[Sem.run_bind,hz];exact hk.2 z hrep
  |_=>
   rw[hres]at hk
   revert hres
   unfold rBin;(repeat' split)<;>first|(intro hres;cases hres;done)|(intro hres;cases hres;exact hk.elim)|(intro hres;rcases vR P op t _ _ _ with⟨_,_,e⟩|e<;>rw[e]at hres<;>cases hres<;>exact hk.elim)|(unfold rEq;(repeat' split)<;>intro hres<;>cases hres<;>exact hk.elim)|(unfold rInt;split<;>intro hres<;>cases hres<;>exact hk.elim)
 case unOp op t x=>
  cases hres:rUn op (env fr x)with
  |pure obl sv=>
   rw[hres]at hk;obtain⟨z,hz,hrep⟩:=qoj (P:=P) hres hk.1 (E x Ωh);unfold Oper.wp;simp only[execOp];rw[Sem.run_bind,hz];exact hk.2 z hrep
  |_=>
   rw[hres]at hk
   revert hres
   unfold rUn;split<;>intro hres<;>cases hres<;>exact hk.elim
 case convert s t x=>
  cases hres:rConv (qn P s) (qn P t) (env fr x)with
  |pure obl sv=>
   rw[hres]at hk;obtain⟨z,hz,hrep⟩:=qgQ hres hk.1 (E x Ωh);unfold Oper.wp;simp only[execOp];rw[Sem.run_bind,hz];exact hk.2 z hrep
  |_=>
   rw[hres]at hk
   revert hres
   unfold rConv;split<;>intro hres<;>cases hres<;>exact hk.elim
 case makeFunc f fs cs=>
  obtain⟨h1,h2⟩:=wW fs (λx hx=>E x (by simp[Op.operands,hx]));obtain⟨h3,h4⟩:=wW cs (λx hx=>E x (by simp[Op.operands,hx]));exact hk.2 _ (.fn _ _ _ _ _ h1 h3 h2 h4)
 case fieldAddr t x i=>exact gt rfl (Jx (E x Ωh)) (by unfold rFieldAddr;split<;>first|rfl|(split<;>first|rfl|(split<;>rfl))) hk
 case field t x i=>exact gt rfl (qfj (E x Ωh)) (by unfold rField;split<;>first|rfl|(split<;>first|rfl|(split<;>first|rfl|(split<;>rfl)))) hk
 case indexAddr t x i=>exact gt rfl (Jy (E x Ωh) (E i Ωh)) (by unfold rIndexAddr;split<;>first|rfl|(split<;>first|rfl|(split<;>first|rfl|(split<;>rfl)))) hk
 case extract x i=>exact gt rfl (Yc (E x Ωh)) (by unfold rExtract;split<;>rfl) hk
 case build t parts=>
  have e1:∀x,(∃i,(i,x)∈parts)→Rep r N (Gd base okc r N hp w) w (env fr x) (a.eval x):=λx hx=>E x (by simpa[Op.operands]using hx);exact qbm e1 rfl hk
 case buildSlice t len parts=>
  have e1:∀x,(∃i,(i,x)∈parts)→Rep r N (Gd base okc r N hp w) w (env fr x) (a.eval x):=λx hx=>E x (by simpa[Op.operands]using hx);exact Ku h e1 rfl hk
 case makeSlice t l c=>exact ZG rfl (qfn h t (E l Ωm) (E c Ωm)) (k4 _ _ _) hk
 case slice t x lo hi mx=>
  have e1:=E x Ωm;have e2:=Gg lo λy hy=>E y (by simp[Op.operands,hy]);have e3:=Gg hi λy hy=>E y (by simp[Op.operands,hy]);have e4:=Gg mx λy hy=>E y (by simp[Op.operands,hy]);exact qbl h e1 e2 e3 e4 rfl hk
 case makeMap t rs=>
  cases rs with
  |none=>exact ZG rfl (VS h t) (jb _ _) hk
  |some y=>
   exfalso
   simp only[Option.isSome_some]at hk;unfold rMakeMap at hk;split at hk<;>exact hk
 case lookup t x k ok=>exact gt rfl (qbi h.ok (E x Ωm) (E k Ωm) ok) (kW _ _ _ _ _) hk
 case mapUpdate t m k x=>exact Ga rfl (Kf h t (E m Ωm) (E k Ωm) (E x Ωm)) (kL _ _ _ _ _) hk
 case insert t m k x=>exact Ga rfl (Kf h t (E m Ωm) (E k Ωm) (E x Ωm)) (kL _ _ _ _ _) hk
 case index t x i=>exact gt rfl (qbn (E x Ωm) (E i Ωm)) (jH _ _ _) hk
 case call c=>
  obtain⟨callee,args,argTypes⟩:=c;cases callee with
  |value f=>
   simp only[rCall]at hk;have hf:=E f Ωh;split at hk
   ·rename_i g first caps hfe
    rw[hfe]at hf;unfold Oper.wp;simp only[execOp,resolve,Sem.run_bind];generalize a.eval f=u at hf;cases hf with
    |fn _ _ _ cs ds hl hm h1 h2=>
     obtain⟨hl3,h3⟩:=wW args (λx hx=>E x (by simp[Op.operands,Call.operands,hx]));obtain⟨hl4,h4⟩:=wa hl3 hm h3 h2;obtain⟨hl5,h5⟩:=wa hl hl4 h1 h4;simp only[Deferred.ofValue,Sem.run_pure,Result.andThen_ok,invoke];rw[Array.append_assoc];rcases hk with⟨res,hc,hk⟩|⟨pats,bb,res,hc,hs,hid,hp2,hat,hoth,hk⟩
     ·exact qgZ h hl5 h5 hc hk
     ·exact J5 h hl5 h5 hc hs hid hat hoth hk
   ·exact hk.elim
   ·exact hk.elim
  |invoke x m=>exact hk.elim
  |builtin b=>
   cases b<;>simp only[rCall]at hk<;>try exact hk.elim
   case append=>
    split at hk
    rotate_left
    ·exact hk.elim
    rename_i s x t t' hargs hts;have hargs:=Kg hargs;have hts:=Kg hts;subst hargs;subst hts;split at hk
    rotate_left
    ·exact hk.elim
    rename_i e;subst e;exact Yj (u:=a.eval s) (v:=a.eval x) (ty:=type) h (E s Ωh) (E x Ωh) (by
     simp only[execOp,resolve,invoke,builtin,List.map_toArray,List.map_cons,List.map_nil];rfl) hk
   case copy=>
    split at hk
    rotate_left
    ·exact hk.elim
    rename_i d x t t' hargs hts;have hargs:=Kg hargs;have hts:=Kg hts;subst hargs;subst hts;exact qft (u:=a.eval d) (v:=a.eval x) (t':=t') (ty:=type) h (E d Ωh) (E x Ωh) (by
     simp only[execOp,resolve,invoke,builtin,List.map_toArray,List.map_cons,List.map_nil];rfl) hk
   case delete=>
    split at hk
    rotate_left
    ·exact hk.elim
    rename_i m k t t' hargs hts;have hargs:=Kg hargs;have hts:=Kg hts;subst hargs;subst hts;refine Yk (s:=Builtin.delete_ #[t,t'] type #[a.eval m,a.eval k]) undef (by
     simp only[execOp,resolve,invoke,builtin,List.map_toArray,List.map_cons,List.map_nil];rfl) (wb _ _ _ _) (λobl j b hres ho=>Yg h t t' type (E m Ωh) (E k Ωh) hres ho) hk
   case clear=>
    split at hk
    rotate_left
    ·exact hk.elim
    rename_i d t hargs hts;have hargs:=Ge hargs;have hts:=Ge hts;subst hargs;subst hts;have hd:=E d Ωh;split at hk
    ·rename_i mid hmid
     rw[hmid]at hd;refine Yk (s:=Builtin.clear_ #[t] type #[a.eval d]) undef (by
      simp only[execOp,resolve,invoke,builtin,List.map_toArray,List.map_cons,List.map_nil];rfl) (jZ _ _ _) (λobl j b hres ho=>Jz h t type hd hres ho) hk
    ·exact qbk (u:=a.eval d) (ty:=type) h hd (by
      simp only[execOp,resolve,invoke,builtin,List.map_toArray,List.map_cons,List.map_nil];rfl) hk
   case len=>
    split at hk
    ·rename_i x t hx ht
     have hx:=Ge hx;have ht:=Ge ht;subst hx;subst ht;cases hres:rLen (qn P t) (env fr x)with
     |pure obl sv=>
      rw[hres]at hk;obtain⟨z,hz,hrep⟩:=qlh (ty:=type) (E x Ωh) hres;unfold Oper.wp;simp only[execOp,resolve,Sem.run_bind,Sem.run_pure,Result.andThen_ok,invoke,builtin,List.map_toArray,List.map_cons,List.map_nil,hz];exact hk.2 z hrep
     |_=>
      rw[hres]at hk
      revert hres
      unfold rLen;(repeat' split)<;>intro hres<;>cases hres<;>exact hk.elim
    ·exact hk.elim
   case max=>
    cases hres:rMin true (envs fr args.toList)with
    |pure obl sv=>
     rw[hres]at hk;obtain⟨z,hz,hrep⟩:=Gf true (λx hx=>E x (by simp[Op.operands,Call.operands,hx])) (ts:=argTypes) (t:=type) hres;rw[if_pos rfl]at hz;unfold Oper.wp;simp only[execOp,resolve,Sem.run_bind,Sem.run_pure,Result.andThen_ok,invoke,builtin];rw[hz];exact hk.2 z hrep
    |_=>
     rw[hres]at hk
     revert hres
     unfold rMin;(repeat' split)<;>intro hres<;>cases hres<;>exact hk.elim
   case min=>
    cases hres:rMin false (envs fr args.toList)with
    |pure obl sv=>
     rw[hres]at hk;obtain⟨z,hz,hrep⟩:=Gf false (λx hx=>E x (by simp[Op.operands,Call.operands,hx])) (ts:=argTypes) (t:=type) hres;rw[if_neg Ωg]at hz;unfold Oper.wp;simp only[execOp,resolve,Sem.run_bind,Sem.run_pure,Result.andThen_ok,invoke,builtin];rw[hz];exact hk.2 z hrep
    |_=>
     rw[hres]at hk
     revert hres
     unfold rMin;(repeat' split)<;>intro hres<;>cases hres<;>exact hk.elim
end
end Go.Sx
end
section
namespace Go.Sx
open Go.RowKit
variable{hp:List (Nat×Blk)}{ro:Option Nat}{o:Oper}{op:Op}{x:Res}{args:List SV}
def undefSV:SV:=.val (.tuple #[])
def ke(g:Bool)(A B:Prop):Prop:=(g=true→A)∧(g=false→B)
theorem qbo(A B:Prop):ke true A B=A:=by simp[ke]
theorem Yl(A B:Prop):ke false A B=B:=by simp[ke]
theorem qfu(g:Bool)(A B:Prop):ke (!g) A B=ke g B A:=by cases g<;>simp[ke]
def VT(P:Program)(hp:List (Nat×Blk))(f:FuncId)(args:List SV)(K:SV→Prop):Prop:=
 ∃res,CanC P hp f args res∧K res
def qcY(P:Program)(hp:List (Nat×Blk))(f:FuncId)(args:List SV)(K:Blk→SV→Prop):Prop:=
 ∃pats b res,zx P f pats b res∧NewOk hp pats args b res∧K b res
structure Fr:Type where
 fr:List (Nat×SV)
 rcd:Option Loop
 ns:Nat
 lo:Nat
structure Ctx:Type where
 fs:List Fr
 lo:Nat
 rnd:Bool
 far:Nat→List (Nat×Nat)
def zC:Nat→List (Nat×Nat):=λ_=>[]
def j4(n:Nat)(l:List (Nat×Nat)):Nat→List (Nat×Nat):=λi=>if i=n then l else []
def gz:List (Nat×Nat)→Bool
 |(a,b) :: _=>decide (a=b)
 |[]=>false
def Qn(n:Nat):Nat→List (Nat×Nat):=j4 n [(0,0)]
def qT:SV→Option Nat
 |.ptr id _=>some id
 |.elt id _ _ _=>some id
 |_=>none
def vi(s s':SV):Prop:=match qT s,qT s' with
 |some i,some j=>i≠j
 |_,_=>True
def FarVC:List (Nat×Nat)→St→Prop→Prop
 |[],_,X=>X
 |(a,b) :: l,st,X=>vi (look st.fr a) (look st.fr b)∧FarVC l st X
theorem gY:∀{l:List (Nat×Nat)}{st:St}{X:Prop},FarVC l st X→X∧∀a b,(a,b)∈l→vi (look st.fr a) (look st.fr b)
 |[],st,X,h=>⟨h,λa b hab=>by cases hab⟩
 |(c,d) :: l,st,X,h=>by
  obtain⟨h1,h2⟩:=gY h.2;refine⟨h1,λa b hab=>?_⟩;rcases List.mem_cons.1 hab with e|e
  ·cases e;exact h.1
  ·exact h2 a b e
theorem FarVC.mono:∀{l:List (Nat×Nat)}{st:St}{X Y:Prop},(X→Y)→FarVC l st X→FarVC l st Y
 |[],st,X,Y,hh,h=>hh h
 |(c,d) :: l,st,X,Y,hh,h=>⟨h.1,FarVC.mono hh h.2⟩
def OutOk(r:Nat→Option Nat)(lo:Nat)(G:Bool→Nat→Prop)(w:World):List Fr→List Act→Prop
 |[],[]=>True
 |f :: fs,a :: as=>(∀i,Rep r (· < f.lo) G w (look f.fr i) (a.tmps.getD i undef))∧f.lo≤lo∧a.tmps.size=f.ns∧(∀L,f.rcd=some L→L.tmps=a.tmps)∧OutOk r lo G w fs as
 |_,_=>False
theorem OutOk.mono{r r':Nat→Option Nat}{lo lo':Nat}{G G':Bool→Nat→Prop}{w w':World}(hlo:lo≤lo')(h:∀n,n≤lo→∀sv v,Rep r (· < n) G w sv v→Rep r' (· < n) G' w' sv v):∀{fs:List Fr}{as:List Act},OutOk r lo G w fs as→OutOk r' lo' G' w' fs as
 |[],[],_=>trivial
 |f :: fs,a :: as,⟨h1,h2,h3,h4,h5⟩=>⟨λi=>h _ h2 _ _ (h1 i),xc1 h2 hlo,h3,h4,OutOk.mono hlo h h5⟩
structure jj:Type where
 as:List Act
 r0:Nat→Option Nat
def vy(D:Nat):Deferred:={ target:=.collected D,args:=#[] }
def Kv(a:Act)(outs:List Act):List Deferred:=a.defers++(outs.map (·.defers)).flatten
structure InvR(O:Ctx)(base:World)(okc:Nat→Prop)(ns k:Nat)(r:Nat→Option Nat)(outs:jj)(st:St)(a:Act)(w:World):Prop where
 sat:Sat base okc r (· < k) st.hp w
 keys:∀id x,blk st.hp id=some x→id<k
 fr:∀i,Rep r (· < k) (Gd base okc r (· < k) st.hp w) w (look st.fr i) (a.tmps.getD i undef)
 size:a.tmps.size=ns
 lo:O.lo≤k
 out:OutOk r O.lo (Gd base okc r (· < k) st.hp w) w O.fs outs.as
 rfix:∀id,id<O.lo→r id=outs.r0 id
 defers:∃Ds:List Nat,Kv a outs.as=Ds.map vy∧Ds.Nodup∧∀D∈Ds,Gd base okc r (· < k) st.hp w true D∧w.heap[D]? = some (.deferred (some []))
def Inv(O:Ctx)(base:World)(okc:Nat→Prop)(ns k:Nat)(outs:jj)(st:St)(a:Act)(w:World):Prop:=∃r,InvR O base okc ns k r outs st a w
def ky(P:Program)(O:Ctx)(f:FuncId)(args:List SV)(st:St)(K:St→SV→Prop):Prop:=
 ∀(base:World)(okc:Nat→Prop)(ns:Nat)(r:Nat→Option Nat)(outs:jj)(a:Act)(w:World)(vs:Array Value),InvR O base okc ns st.nid r outs st a w→args.length=vs.size→
  (∀i sv,args[i]? = some sv→Rep r (· < st.nid) (Gd base okc r (· < st.nid) st.hp w) w sv (vs.getD i undef))→
  (callFunc f vs).run P w=.ok (.enter f vs) w∧
  Calls P f vs w λe w'=>∃v st' r' res,e=.returned v∧K st' res∧st.nid≤st'.nid∧InvR O base okc ns st'.nid r' outs st' a w'∧Rep r' (· < st'.nid) (Gd base okc r' (· < st'.nid) st'.hp w') w' res v
def wd(P:Program)(O:Ctx)(id:Nat)(args:List SV)(st:St)(K:St→SV→Prop):Prop:=
 ∀(base:World)(okc:Nat→Prop)(ns:Nat)(r:Nat→Option Nat)(outs:jj)(a:Act)(w:World)(vs:Array Value)(l:Nat),InvR O base okc ns st.nid r outs st a w→args.length=vs.size→
  (∀i sv,args[i]? = some sv→Rep r (· < st.nid) (Gd base okc r (· < st.nid) st.hp w) w sv (vs.getD i undef))→id<st.nid→r id=some l→
  ∃fn tmps assign body,(Instr.yield l vs).run P w=.ok (.round l fn tmps assign body) w∧
  RoundIn Fence.wide 0 P l fn tmps assign body w λe w'=>∃v st' r' res,e=.returned v∧K st' res∧st.nid≤st'.nid∧InvR O base okc ns st'.nid r' outs st' a w'∧Rep r' (· < st'.nid) (Gd base okc r' (· < st'.nid) st'.hp w') w' res v
def OpVC(P:Program)(O:Ctx)(op:Op)(st:St)(K:St→SV→Prop):Prop:=
 ∀(base:World)(okc:Nat→Prop)(ns:Nat)(r:Nat→Option Nat)(outs:jj)(a:Act)(w:World)(o:Oper),o.op=op→InvR O base okc ns st.nid r outs st a w→
  ∃v w',(execOp a.eval o).run P w=.ok (.value v) w'∧∃st' r' res,K st' res∧st.nid≤st'.nid∧InvR O base okc ns st'.nid r' outs st' a w'∧Rep r' (· < st'.nid) (Gd base okc r' (· < st'.nid) st'.hp w') w' res v
def wE(P:Program)(O:Ctx)(J:Prop)(op:Op)(d:Option Tmp)(id:Nat)(st:St)(K:St→Prop):Res→Prop
 |.bad=>False
 |.pure obl r=>obl∧K (st.put d r)
 |.ex obl=>∃r,obl r∧K (st.put d r)
 |.new obl b mk=>obl∧K (({ st with hp:=(id,b) :: st.hp }).put d (mk id))
 |.upd obl j b=>obl∧K (({ st with hp:=setBlk st.hp j b }).put d undefSV)
 |.updv obl j b sv=>obl∧K (({ st with hp:=setBlk st.hp j b }).put d sv)
 |.grow obl old b mk=>(obl∧old≠id)∧K (({ st with hp:=(id,b) :: dropBlk st.hp old }).put d (mk id))
 |.call f args=>VT P st.hp f args (λr=>K (st.put d r))∨qcY P st.hp f args (λb res=>K (({ st with hp:=(id,b) :: st.hp }).put d (setId id res)))∨(J∧ky P O f args ⟨st.fr,st.hp,id⟩ λst' res=>K (st'.put d res))
 |.yield y args=>J∧wd P O y args ⟨st.fr,st.hp,id⟩ λst' res=>K (st'.put d res)
 |.raw=>J∧OpVC P O op ⟨st.fr,st.hp,id⟩ λst' res=>K (st'.put d res)
def nth:List (Option Tmp)→Nat→Option Tmp
 |[],_=>none
 |d :: _,0=>d
 |_ :: l,n+1=>nth l n
def zp(ds:List (Option Tmp))(g:Option (Nat×Bool))(st:St)(run skip:St→Prop):Prop:=
 match g with
 |none=>run st
 |some (j,want)=>match nth ds j with
  |none=>False
  |some t=>match look st.fr t with
   |.val (.bool b)=>match want with
    |true=>ke b (run (st.put (some t) (.val (.bool true)))) (skip (st.put (some t) (.val (.bool false))))
    |false=>ke b (skip (st.put (some t) (.val (.bool true)))) (run (st.put (some t) (.val (.bool false))))
   |.val (.tuple _)=>skip st
   |_=>False
def zc(P:Program)(O:Ctx)(J:Prop)(ds:List (Option Tmp)):List Oper→Nat→St→(St→Prop)→Prop
 |[],_,st,K=>K st
 |o :: rest,i,st,K=>zp ds o.guard st
    (λst=>wE P O J o.op o.dst (st.nid+i) st (λst=>zc P O J ds rest (i+1) st K) (stepR P (look st.fr) st.hp o.op))
    (λst=>zc P O J ds rest (i+1) (st.put o.dst undefSV) K)
def dsts:List Oper→List (Option Tmp)
 |[]=>[]
 |o :: l=>o.dst :: dsts l
theorem zA(l:List Oper)(j:Nat):nth (dsts l) j=(l[j]?).bind (·.dst):=by
 induction l generalizing j with
 |nil=>simp[dsts,nth]
 |cons o l ih=>cases j<;>simp[dsts,nth,ih]
theorem zn(fr:List (Nat×SV))(d t:Nat)(v:SV):look (putFr fr d v) t=if t=d then v else look fr t:=rfl
theorem we(fr:List (Nat×SV))(d t:Nat)(v:SV):look (putIn fr d v) t=if t=d then v else look fr t:=by
 induction fr with
 |nil=>simp[putIn,look]
 |cons p fr ih=>
  obtain⟨i,u⟩:=p;simp only[putIn];by_cases e:d=i
  ·subst e
   rw[if_pos rfl];simp only[look]
   simp_all
  ·rw[if_neg e]
   simp only[look,ih];by_cases e':t=i
   ·grind
   ·simp[e']
theorem gC(d:Option Tmp)(fr:List (Nat×SV))(t:Nat):look (inD d fr) t=look fr t:=by
 cases d with
 |none=>rfl
 |some d=>
  cases fr with
  |nil=>rfl
  |cons p fr=>obtain⟨i,u⟩:=p;exact we fr i t u
def jk(ns:Nat)(o:Oper):Bool:=match o.dst with|some d=>decide (d<ns)|none=>true
section
variable{P:Program}{O:Ctx}{J:Prop}{base:World}{okc:Nat→Prop}{ns k:Nat}{r:Nat→Option Nat}{outs:jj}{st:St}{a:Act}{w:World}
theorem gD(k:Nat):zm (· < k) k=(· < k+1):=by funext i;simp only[zm,eq_iff_iff];omega
theorem Sat.more{N N':Nat→Prop}(h:Sat base okc r N hp w)(hN:∀i,N i→N' i)(hno:∀i x,blk hp i=some x→N' i→N i):Step base okc r N hp w r N' hp w:=by
 have hG:∀o c,Gd base okc r N hp w o c→Gd base okc r N' hp w o c∧w.heap[c]? = w.heap[c]?:=λo c ⟨h1,h2,h3⟩=>⟨⟨h1,λi y hy hi=>h2 i y hy (hno i y hy hi),h3⟩,rfl⟩;exact⟨⟨h.below,λi y hy hi=>(h.rep i y hy (hno i y hy hi)).mono (λ_ _=>rfl) hN hG (Shapes.refl w) (λ_ _=>rfl),λi y b hy hi=>h.own i y b hy (hno i y hy hi),
  λi y i' y' b hy hi hy' hi'=>h.inj i y i' y' b hy (hno i y hy hi) hy' (hno i' y' hy' hi')⟩,λ_ _=>rfl,hN,hG,Shapes.refl w⟩
theorem Ym(a:Act)(d:Option Tmp)(v:Value)(t:Nat):(a.put d v).tmps.getD t undef=if d=some t∧t<a.tmps.size then v else a.tmps.getD t undef:=by
 cases d with
 |none=>simp[Act.put]
 |some d=>
  simp only[Act.put,xf5,Array.getElem?_setIfInBounds,Option.some.injEq];by_cases e:d=t
  ·grind
  ·simp[e]
theorem Gh(a:Act)(d:Option Tmp)(v:Value):(a.put d v).defers=a.defers:=by cases d<;>rfl
theorem qha(a:Act)(d:Option Tmp)(v:Value):(a.put d v).tmps.size=a.tmps.size:=by cases d<;>simp[Act.put]
theorem InvR.step{k':Nat}{r':Nat→Option Nat}{hp':List (Nat×Blk)}{w':World}(h:InvR O base okc ns k r outs st a w)(hs:Step base okc r (· < k) st.hp w r' (· < k') hp' w')(hk:∀id x,blk hp' id=some x→id<k')(hkk:k≤k'){d:Option Tmp}(hd:∀t,d=some t→t<ns)
  {sv:SV} {v:Value} (hv:Rep r' (· < k') (Gd base okc r' (· < k') hp' w') w' sv v):InvR O base okc ns k' r' outs (({ st with hp:=hp' }:St).put d sv) (a.put d v) w':=by
 have hhp:(({ st with hp:=hp' }:St).put d sv).hp=hp':=by cases d<;>rfl
 refine⟨by rw[hhp];exact hs.sat,by rw[hhp];exact hk,λi=>?_,by rw[qha];exact h.size,xc1 h.lo hkk,?_,λid hid=>(hs.rr id (xa9 hid h.lo)).trans (h.rfix id hid),?_⟩
 ·rw[Ym,hhp]
  cases d with
  |none=>
   simp only[St.put,reduceCtorEq,false_and,if_false];exact hs.rep (h.fr i)
  |some d=>
   simp only[St.put,zn,Option.some.injEq];by_cases e:i=d
   ·subst e
    rw[if_pos rfl,if_pos ⟨rfl,by rw[h.size];exact hd _ rfl⟩];exact hv
   ·rw[if_neg e,if_neg (by rintro⟨e',_⟩;exact e e'.symm)]
    exact hs.rep (h.fr i)
 ·rw[hhp]
  exact h.out.mono (xa5 _) λn hn sv v hv=>hv.mono (λid hid=>hs.rr id (xa9 hid (xc1 hn h.lo))) (λ_ h=>h) hs.gg hs.sh
 ·obtain⟨Ds,h1,h2,h3⟩:=h.defers
  refine⟨Ds,by unfold Kv;rw[Gh];exact h1,h2,λD hD=>?_⟩;rw[hhp];obtain⟨h4,h5⟩:=h3 D hD;obtain⟨h6,h7⟩:=hs.gg _ _ h4
  simp_all
theorem InvR.more(h:InvR O base okc ns k r outs st a w){k':Nat}(hk:k≤k'):InvR O base okc ns k' r outs st a w:=by
 have hs:Step base okc r (· < k) st.hp w r (· < k') st.hp w:=h.sat.more (λi hi=>xa9 hi hk) (λi x hx _=>h.keys i x hx);refine⟨hs.sat,λid x hx=>xa9 (h.keys id x hx) hk,λi=>hs.rep (h.fr i),h.size,xc1 h.lo hk,h.out.mono (xa5 _) λn hn sv v hv=>hv.mono (λ_ _=>rfl) (λ_ h=>h) hs.gg hs.sh,h.rfix,?_⟩;obtain⟨Ds,h1,h2,h3⟩:=h.defers;exact⟨Ds,h1,h2,λD hD=>⟨(hs.gg _ _ (h3 D hD).1).1,(h3 D hD).2⟩⟩
theorem InvR.nid(h:InvR O base okc ns k r outs st a w)(n:Nat):InvR O base okc ns k r outs { st with nid:=n } a w:=⟨h.sat,h.keys,h.fr,h.size,h.lo,h.out,h.rfix,h.defers⟩
theorem InvR.keep(h:InvR O base okc ns k r outs st a w){t:Nat}{b:Bool}(hb:look st.fr t=.val (.bool b)):InvR O base okc ns k r outs (st.put (some t) (.val (.bool b))) a w:=by
 refine⟨h.sat,h.keys,λi=>?_,h.size,h.lo,h.out,h.rfix,h.defers⟩;simp only[St.put,zn];split
 ·rename_i e;subst e;rw[←hb];exact h.fr i
 ·exact h.fr i
theorem InvR.env(h:InvR O base okc ns k r outs st a w)(x:Operand):Rep r (· < k) (Gd base okc r (· < k) st.hp w) w (env (look st.fr) x) (a.eval x):=qcX x λi _=>h.fr i
theorem zo(st:St)(d:Option Tmp)(v:SV):(st.put d v).hp=st.hp:=by cases d<;>rfl
theorem qz(st:St)(d:Option Tmp)(v:SV):(st.put d v).nid=st.nid:=by cases d<;>rfl
def FR(ro:Option Nat):Fence:={ fn:=λ_=>True,depth:=none,alive:=false,round:=ro }
theorem calls_FR{f:FuncId}{vs:Array Value}{R:Ending→World→Prop}:CallsIn (FR ro) 0 P f vs w R↔Calls P f vs w R:=(Iff.rfl:CallsIn (FR ro) 0 P f vs w R↔CallsIn Fence.wide 0 P f vs w R).trans callsIn_wide
theorem j5{K:Act→World→Prop}{Q:Exit→Act→World→Prop}(hd:∀c,o.op≠.defer c)(h:o.wp P a w K Q):o.wpIn (FR ro) 0 P a w K Q:=by
 refine⟨λ_ _=>trivial,?_⟩;rw[Oper.semAt_eq _ _ _ hd];unfold Oper.wp at h;generalize (execOp a.eval o).run P w=res at h;cases res with
 |ok x w'=>
  cases x<;>simp only[Oper.upon,Oper.uponIn]at h ⊢<;>first|exact h|skip
  ·exact⟨λhh=>by simp[FR]at hh,calls_FR.2 h⟩
  ·exact⟨λhh=>by simp[FR]at hh,λc cs _=>let ⟨v,w'',h1,h2⟩:=h c cs;⟨v,w'',h1,(stepsIn_wide (P:=P)).2 h2⟩⟩
 |halt x w'=>cases x<;>simp only[Oper.upon,Oper.uponIn]at h ⊢<;>exact h
theorem qfv{fr:Nat→SV}(h:stepR P fr hp op≠.bad):∀c,op≠.defer c:=λc e=>by subst e;exact h rfl
def qcZ:Res→Bool
 |.call _ _=>false
 |.yield _ _=>false
 |.raw=>false
 |_=>true
theorem vj(h:vg x=true):qcZ x=true:=by cases x<;>first|rfl|cases h
theorem ZH(h:(∃obl b mk,x=.new obl b mk)∨x=.bad):qcZ x=true:=by rcases h with⟨_,_,_,rfl⟩|rfl<;>rfl
theorem jU(h:(∃obl j b,x=.upd obl j b)∨x=.bad):qcZ x=true:=by rcases h with⟨_,_,_,rfl⟩|rfl<;>rfl
theorem ZI(F:Nat→SV)(hp:List (Nat×Blk))(op:Op):qcZ (stepR P F hp op)=true∨(∃x xs ts,op=.call ⟨.value x,xs,ts⟩)∨(∃t x,op=.range t x)∨(∃x s,op=.next x s)∨(∃x,op=.entry x):=by
 cases op<;>try exact .inl rfl
 case pick=>left;simp only[stepR];unfold rPick;split<;>rfl
 case alloc=>left;simp only[stepR];unfold rAlloc;split<;>rfl
 case box=>left;simp only[stepR];unfold rBox;(repeat' split)<;>rfl
 case load=>left;simp only[stepR];unfold rLoad;(repeat' split)<;>rfl
 case store=>left;exact jU (wV _ _ _ _)
 case nilCheck=>left;simp only[stepR];unfold rNil;split<;>rfl
 case binOp=>left;simp only[stepR];unfold rBin;(repeat' split)<;>first|rfl|(rcases vR P _ _ _ _ _ with⟨_,_,e⟩|e<;>rw[e]<;>rfl)|(unfold rInt;split<;>rfl)|(unfold rEq;(repeat' split)<;>rfl)
 case unOp=>left;simp only[stepR];unfold rUn;split<;>rfl
 case convert=>left;simp only[stepR];unfold rConv;split<;>rfl
 case fieldAddr=>left;simp only[stepR];unfold rFieldAddr;(repeat' split)<;>rfl
 case field=>left;simp only[stepR];unfold rField;(repeat' split)<;>rfl
 case indexAddr=>left;simp only[stepR];unfold rIndexAddr;(repeat' split)<;>rfl
 case extract=>left;simp only[stepR];unfold rExtract;split<;>rfl
 case build=>left;exact vj (gy _ _)
 case buildSlice=>left;exact ZH (kK _ _ _)
 case makeSlice=>left;exact ZH (k4 _ _ _)
 case slice=>left;exact vj (jF _ _ _ _ _)
 case makeMap=>left;exact ZH (jb _ _)
 case lookup=>left;exact vj (kW _ _ _ _ _)
 case mapUpdate=>left;exact jU (kL _ _ _ _ _)
 case insert=>left;exact jU (kL _ _ _ _ _)
 case index=>left;exact vj (jH _ _ _)
 case range t x=>exact .inr (.inr (.inl ⟨t,x,rfl⟩))
 case next x s=>exact .inr (.inr (.inr (.inl ⟨x,s,rfl⟩)))
 case entry x=>exact .inr (.inr (.inr (.inr ⟨x,rfl⟩)))
 case call c=>
  obtain⟨callee,args,ts⟩:=c;cases callee with
  |value f=>exact .inr (.inl ⟨f,args,ts,rfl⟩)
  |invoke _ _=>exact .inl rfl
  |builtin b=>
   left
   cases b<;>first|rfl|skip
   case append=>simp only[stepR,rCall];(repeat' split)<;>first|rfl|(rcases jG (P:=P) (hp:=hp) _ _ _ with⟨_,_,_,e⟩|⟨_,_,_,_,e⟩|e<;>rw[e]<;>rfl)
   case copy=>simp only[stepR,rCall];split<;>first|rfl|(rcases Qm (P:=P) (hp:=hp) _ _ _ with⟨_,_,_,_,e⟩|e<;>rw[e]<;>rfl)
   case clear=>simp only[stepR,rCall];(repeat' split)<;>first|rfl|exact jU (jZ _ _ _)|exact jU (wX _ _)
   case delete=>simp only[stepR,rCall];split<;>first|rfl|exact jU (wb _ _ _ _)
   case len=>simp only[stepR,rCall];split<;>first|rfl|(unfold rLen;(repeat' split)<;>rfl)
   case max=>simp only[stepR,rCall];unfold rMin;(repeat' split)<;>rfl
   case min=>simp only[stepR,rCall];unfold rMin;(repeat' split)<;>rfl
theorem gZ{F:Nat→SV}{f:FuncId}(h:stepR P F hp op=.call f args) :
  ∃x xs ts first caps,op=.call ⟨.value x,xs,ts⟩∧env F x=.fn (.func f) first caps∧args=first++(envs F xs.toList++caps):=by
 rcases ZI (P:=P) F hp op with h'|⟨x,xs,ts,rfl⟩|⟨t,x,rfl⟩|⟨x,s,rfl⟩|⟨x,rfl⟩
 ·rw[h]at h';cases h'
 ·simp only[stepR,rCall]at h
  split at h
  ·grind
  ·cases h
  ·cases h
 ·cases h
 ·cases h
 ·cases h
theorem Ki{F:Nat→SV}{y:Nat}(h:stepR P F hp op=.yield y args) :
  ∃x xs ts,op=.call ⟨.value x,xs,ts⟩∧env F x=.yld y∧args=envs F xs.toList:=by
 rcases ZI (P:=P) F hp op with h'|⟨x,xs,ts,rfl⟩|⟨t,x,rfl⟩|⟨x,s,rfl⟩|⟨x,rfl⟩
 ·rw[h]at h';cases h'
 ·simp only[stepR,rCall]at h
  split at h
  ·cases h
  ·grind
  ·cases h
 ·cases h
 ·cases h
 ·cases h
theorem qbp{i:Nat}{K:St→Prop}{K':Act→World→Prop}{Q:Exit→Act→World→Prop}(h:InvR O base okc ns (st.nid+i) r outs st a w)(hd:jk ns o=true)
  (hk:wE P O J o.op o.dst (st.nid+i) st K (stepR P (look st.fr) st.hp o.op))
  (hK:∀st' a' w',K st'→st.nid≤st'.nid→(¬J→st'.nid=st.nid)→Inv O base okc ns (st'.nid+(i+1)) outs st' a' w'→K' a' w'):o.wpIn (FR ro) 0 P a w K' Q:=by
 have hd':∀t,o.dst=some t→t<ns:=λt ht=>by simpa[jk,ht]using hd
 have hk1:st.nid+i≤st.nid+(i+1):=by omega
 have hnb:stepR P (look st.fr) st.hp o.op≠.bad:=λe=>by rw[e]at hk;exact hk
 have hdef:=qfv hnb;have base1:ZF P base okc r (· < st.nid+i) st.hp w (st.nid+i) (match stepR P (look st.fr) st.hp o.op with|.new _ b _=>(st.nid+i,b) :: st.hp|_=>st.hp) a o.dst K' (stepR P (look st.fr) st.hp o.op)→o.wpIn (FR ro) 0 P a w K' Q:=λhres=>
  j5 hdef (vh h.sat (fr:=look st.fr) (id:=st.nid+i) (hp':=match stepR P (look st.fr) st.hp o.op with|.new _ b _=>(st.nid+i,b) :: st.hp|_=>st.hp) (λx _=>h.env x) hres)
 have hin:InvR O base okc ns (st.nid+i) r outs ⟨st.fr,st.hp,st.nid+i⟩ a w:=h.nid _;have after:∀(v:Value)(st':St)(r':Nat→Option Nat)(res:SV)(w':World),J→K (st'.put o.dst res)→st.nid+i≤st'.nid→InvR O base okc ns st'.nid r' outs st' a w'→Rep r' (· < st'.nid) (Gd base okc r' (· < st'.nid) st'.hp w') w' res v→K' (a.put o.dst v) w':=λv st' r' res w' hJ h1 h2 h3 h4=>
  hK _ _ _ h1 (by rw[qz];omega) (λhj=>absurd hJ hj) ⟨r',by
   rw[qz];exact(h3.step (Step.refl h3.sat) h3.keys (xa5 _) hd' h4).more Ω⟩
 generalize hres:stepR P (look st.fr) st.hp o.op=res at hk base1;cases res<;>dsimp only at base1
 case bad=>exact hk.elim
 case pure obl sv=>exact base1 ⟨hk.1,λv hv=>hK _ _ _ hk.2 ΩF (λ_=>by rw[qz]) ⟨r,by rw[qz];exact(h.step (Step.refl h.sat) h.keys (xa5 _) hd' hv).more hk1⟩⟩
 case ex obl=>
  obtain⟨sv,ho,hk⟩:=hk;exact base1 ⟨sv,ho,λv hv=>hK _ _ _ hk ΩF (λ_=>by rw[qz]) ⟨r,by rw[qz];exact(h.step (Step.refl h.sat) h.keys (xa5 _) hd' hv).more hk1⟩⟩
 case new obl b mk=>
  refine base1 ⟨hk.1,Ω,by simp[blk],λj hj=>?_,λv w' r' hs hv=>?_⟩
  ·simp only[blk];rw[if_neg Ω]
  ·rw[gD]at hs hv
   refine hK _ _ _ hk.2 ΩF (λ_=>by rw[qz]) ⟨r',?_⟩;rw[qz];refine h.step hs (λid x hx=>?_) Ω hd' hv;simp only[blk]at hx;split at hx
   ·omega
   ·have:=h.keys id x hx;omega
 case upd obl j b=>
  refine base1 ⟨hk.1,λw' hs=>hK _ _ _ hk.2 ΩF (λ_=>by rw[qz]) ⟨r,?_⟩⟩;rw[qz];refine(h.step hs (λid x hx=>?_) (xa5 _) hd' (.val _)).more hk1;rw[qq]at hx;split at hx
  ·rename_i e;subst e
   cases hb:blk st.hp id with
   |none=>simp[hb]at hx
   |some y=>exact h.keys id y hb
  ·exact h.keys id x hx
 case updv obl j b sv=>
  refine base1 ⟨hk.1,λv w' hs hv=>hK _ _ _ hk.2 ΩF (λ_=>by rw[qz]) ⟨r,?_⟩⟩;rw[qz];refine(h.step hs (λid x hx=>?_) (xa5 _) hd' hv).more hk1;rw[qq]at hx;split at hx
  ·rename_i e;subst e
   cases hb:blk st.hp id with
   |none=>simp[hb]at hx
   |some y=>exact h.keys id y hb
  ·exact h.keys id x hx
 case grow obl old b mk=>
  refine base1 ⟨hk.1.1,Ω,(st.nid+i,b) :: dropBlk st.hp old,by simp[blk],λj hj hne=>?_,?_,λv w' r' hs hv=>?_⟩
  ·simp only[blk,qv];rw[if_neg Ω,if_neg hne]
  ·simp only[blk,qv];rw[if_neg hk.1.2];simp
  ·rw[gD]at hs hv
   refine hK _ _ _ hk.2 ΩF (λ_=>by rw[qz]) ⟨r',?_⟩;rw[qz];refine h.step hs (λid x hx=>?_) Ω hd' hv;simp only[blk,qv]at hx;split at hx
   ·omega
   ·split at hx
    ·cases hx
    ·have:=h.keys id x hx;omega
 case call f args=>
  rcases hk with⟨res,hc,hk⟩|⟨pats,b,res,hc,hs,hk⟩|⟨hJ,hk⟩
  ·exact base1 (.inl ⟨res,hc,λv w' hst hv=>hK _ _ _ hk ΩF (λ_=>by rw[qz]) ⟨r,by rw[qz];exact(h.step hst h.keys (xa5 _) hd' hv).more hk1⟩⟩)
  ·refine base1 (.inr ⟨pats,b,res,hc,hs,Ω,(st.nid+i,b) :: st.hp,by simp[blk],λj hj=>?_,λv w' r' hs hv=>?_⟩)
   ·simp only[blk];rw[if_neg Ω]
   ·rw[gD]at hs hv
    refine hK _ _ _ hk ΩF (λ_=>by rw[qz]) ⟨r',?_⟩;rw[qz];refine h.step hs (λid x hx=>?_) Ω hd' hv;simp only[blk]at hx;split at hx
    ·omega
    ·have:=h.keys id x hx;omega
  ·obtain⟨x,xs,ts,first,caps,hop,hx,rfl⟩:=gZ hres
   refine⟨λ_ _=>trivial,?_⟩;rw[Oper.semAt_eq _ _ _ hdef];have hf:=h.env x;rw[hx]at hf;obtain⟨dst,op,type,pos,aft,guard⟩:=o;simp only[]at hop after;subst hop;simp only[execOp,resolve,Sem.run_bind];generalize a.eval x=u at hf;cases hf with
   |fn _ _ _ cs ds hl hm h1 h2=>
    obtain⟨hl3,h3⟩:=wW xs (λx _=>h.env x);obtain⟨hl4,h4⟩:=wa hl3 hm h3 h2;obtain⟨hl5,h5⟩:=wa hl hl4 h1 h4;obtain⟨hrun,hcalls⟩:=hk base okc ns r outs a w _ hin hl5 h5;simp only[Deferred.ofValue,Sem.run_pure,Result.andThen_ok,invoke];rw[Array.append_assoc,hrun,Oper.uponIn_enter];refine⟨λhh=>by simp[FR]at hh,calls_FR.2 (hcalls.mono λe w'=>?_)⟩
    grind
 case yield y args=>
  obtain⟨hJ,hk⟩:=hk;obtain⟨x,xs,ts,hop,hx,rfl⟩:=Ki hres;refine⟨λ_ _=>trivial,?_⟩;rw[Oper.semAt_eq _ _ _ hdef];have hf:=h.env x;rw[hx]at hf;obtain⟨dst,op,type,pos,aft,guard⟩:=o;simp only[]at hop after;subst hop;simp only[execOp,resolve,Sem.run_bind];generalize a.eval x=u at hf;cases hf with
  |yld _ l hN hr=>
   obtain⟨hl3,h3⟩:=wW xs (λx _=>h.env x);obtain⟨fn,tmps,assign,body,hrun,hround⟩:=hk base okc ns r outs a w _ l hin hl3 h3 hN hr;simp only[Deferred.ofValue,Sem.run_pure,Result.andThen_ok,invoke];have e : #[]++Array.map a.eval xs=Array.map a.eval xs:=by simp
   rw[e,hrun,Oper.uponIn_round];refine⟨λhh=>by simp[FR]at hh,RoundIn.mono (F:=FR ro) hround λe w'=>?_⟩
   grind
 case raw=>
  obtain⟨hJ,hk⟩:=hk;refine⟨λ_ _=>trivial,?_⟩;rw[Oper.semAt_eq _ _ _ hdef];obtain⟨v,w',hrun,st',r',res,hK',hn,hi,hv⟩:=hk base okc ns r outs a w o rfl hin;rw[hrun];exact after v st' r' res w' hJ hK' hn hi hv
theorem Gi(ops:Array Oper)(a:Act)(j t:Nat)(h:nth (dsts ops.toList) j=some t):yielded ops a.tmps j=match a.tmps[t]? with|some (.bool b)=>some b|_=>none:=by
 rw[zA]at h;unfold yielded
 grind
theorem Gj{ops:Array Oper}{run skip:St→Prop}(h:InvR O base okc ns k r outs st a w)(hg:zp (dsts ops.toList) o.guard st run skip) :
  ∃st',st'.nid=st.nid∧InvR O base okc ns k r outs st' a w∧((Region.wanted o (yielded ops a.tmps)=true∧run st')∨(Region.wanted o (yielded ops a.tmps)=false∧skip st')):=by
 unfold zp at hg;cases ho:o.guard with
 |none=>
  rw[ho]at hg;exact⟨st,rfl,h,.inl ⟨by simp[Region.wanted,ho],hg⟩⟩
 |some gw=>
  obtain⟨j,want⟩:=gw;rw[ho]at hg;cases ht:nth (dsts ops.toList) j with
  |none=>simp[ht]at hg
  |some t=>
   have hy:=Gi ops a j t ht;simp only[ht]at hg;have hrep:=h.fr t;cases hl:look st.fr t with
   |val v=>
    rw[hl]at hrep hg;have hv:a.tmps.getD t undef=v:=by generalize a.tmps.getD t undef=z at hrep;cases hrep;rfl
    cases v with
    |bool b=>
     have hy':yielded ops a.tmps j=some b:=by
      rw[hy];simp only[xf5]at hv;cases hz:a.tmps[t]? with
      |none=>rw[hz]at hv;simp[undef]at hv
      |some z=>rw[hz]at hv;simp at hv;rw[hv]
     have hw:Region.wanted o (yielded ops a.tmps)=(b == want):=by
      simp only[Region.wanted,ho,hy']
      grind
     rw[hw];cases b<;>cases want
     ·exact⟨_,qz _ _ _,h.keep hl,.inl ⟨rfl,hg.2 rfl⟩⟩
     ·exact⟨_,qz _ _ _,h.keep hl,.inr ⟨rfl,hg.2 rfl⟩⟩
     ·exact⟨_,qz _ _ _,h.keep hl,.inr ⟨rfl,hg.1 rfl⟩⟩
     ·exact⟨_,qz _ _ _,h.keep hl,.inl ⟨rfl,hg.1 rfl⟩⟩
    |tuple vs=>
     refine⟨st,rfl,h,.inr ⟨?_,hg⟩⟩;have hy':yielded ops a.tmps j=none:=by
      rw[hy];simp only[xf5]at hv;cases hz:a.tmps[t]? with
      |none=>rfl
      |some z=>rw[hz]at hv;simp at hv;rw[hv]
     simp[Region.wanted,ho,hy']
    |_=>exact hg.elim
   |_=>rw[hl]at hg;exact hg.elim
theorem qbq{ro:Option Nat}{allops:Array Oper}{Q:Exit→Act→World→Prop}:∀(ops:List Oper)(i:Nat)(st:St)(K:St→Prop)(r:Nat→Option Nat)(a:Act)(w:World),InvR O base okc ns (st.nid+i) r outs st a w→ops.all (jk ns)=true→
  zc P O J (dsts allops.toList) ops i st K→(∀st' a' w',K st'→Inv O base okc ns (st'.nid+(i+ops.length)) outs st' a' w'→Q .normal a' w')→wpListIn (FR ro) 0 P allops Q ops a w
 |[],i,st,K,r,a,w,h,hd,hk,hK=>hK st a w hk ⟨r,h⟩
 |o :: rest,i,st,K,r,a,w,h,hd,hk,hK=>by
  simp only[List.all_cons,xe6]at hd;obtain⟨st',hnid,h',hcase⟩:=Gj h hk;have hlen:i+(o :: rest).length=(i+1)+rest.length:=by simp;omega
  rw[hlen]at hK;unfold wpListIn;rcases hcase with⟨hw,hrun⟩|⟨hw,hskip⟩
  ·rw[if_pos hw]
   refine qbp (h:=hnid▸h') hd.1 (by exact hrun) λst1 a1 w1 hk1 hn1 _ ⟨r1,h1⟩=>?_;exact qbq rest (i+1) st1 K r1 a1 w1 h1 hd.2 hk1 hK
  ·rw[if_neg (by rw[hw];simp)]
   have hd':∀t,o.dst=some t→t<ns:=λt ht=>by simpa[jk,ht]using hd.1
   have h1:InvR O base okc ns (st.nid+i) r outs (st'.put o.dst undefSV) (a.put o.dst undef) w:=h'.step (Step.refl h'.sat) h'.keys (xa5 _) hd' (.val _);exact⟨λ_ _=>trivial,qbq rest (i+1) _ K r _ w (by rw[qz,hnid];exact h1.more Ω) hd.2 hskip hK⟩
end
end Go.Sx
end
section
namespace Go.Sx
open Go.RowKit
variable{P:Program}{F:Nat→SV}{hp:List (Nat×Blk)}{op:Op}{args:List SV}
def zP(o:Oper):List Tmp:=o.op.operands.toList.filterMap fun|.tmp t=>some t|_=>none
def qnF(ds:List (Option Tmp))(o:Oper):List Tmp:=match o.guard with|some (g,_)=>(nth ds g).toList|none=>[]
def seen(ds:List (Option Tmp))(o:Oper):List Tmp:=zP o++(qnF ds o++o.dst.toList)
def kz:Op→Bool
 |.move _=>true
 |.assign _=>true
 |.pick _ _ _=>true
 |.alloc _=>true
 |.box _ _=>true
 |.load _ _=>true
 |.nilCheck _=>true
 |.binOp _ _ _ _ _=>true
 |.unOp _ _ _=>true
 |.convert _ _ _=>true
 |.makeFunc _ _ _=>true
 |.fieldAddr _ _ _=>true
 |.field _ _ _=>true
 |.indexAddr _ _ _=>true
 |.extract _ _=>true
 |.build _ _=>true
 |.buildSlice _ _ _=>true
 |.makeSlice _ _ _=>true
 |.slice _ _ _ _ _=>true
 |.lookup _ _ _ _=>true
 |.makeMap _ _=>true
 |.index _ _ _=>true
 |.call ⟨.value _,_,_⟩=>true
 |.call ⟨.builtin .len,_,_⟩=>true
 |.call ⟨.builtin .min,_,_⟩=>true
 |.call ⟨.builtin .max,_,_⟩=>true
 |_=>false
def ZJ(ms:List Nat):List Edge→Nat
 |[]=>0
 |e :: es=>if Region.binds .any e=true then ZJ ms es |||(2^e.on ||| ms.getD e.on 0)else ZJ ms es
def zh(ms:List Nat):List Oper→List Nat
 |[]=>ms
 |o :: rest=>zh (ms++[ZJ ms o.after.toList]) rest
def KE(i:Nat):List Edge→Bool
 |[]=>true
 |e :: es=>(!Region.binds .any e || decide (e.on<i))&&KE i es
def k9:Nat→List Oper→Bool
 |_,[]=>true
 |i,o :: rest=>KE i o.after.toList&&k9 (i+1) rest
def yC(ds:List (Option Tmp))(ms:List Nat)(ops:List Oper):Bool:=
 (List.range ops.length).all λj=>match ops[j]? with
  |none=>true
  |some oj=>(List.range j).all λi=>(ms.getD j 0).testBit i ||(match nth ds i with|some d=>!(seen ds oj).contains d|none=>true)&&(match nth ds j with|some d=>(match ops[i]? with|some oi=>!(seen ds oi).contains d|none=>true)|none=>true)
def wg:List Oper→Nat
 |[]=>0
 |o :: rest=>if kz o.op=true then wg rest+1 else 0
def g6:Op→Bool
 |.call ⟨.value _,_,_⟩=>true
 |_=>false
def vk:List Oper→Nat
 |[]=>0
 |o :: rest=>if (kz o.op&&!g6 o.op)=true then vk rest+1 else 0
def VU(ms:List Nat)(m n:Nat):Bool:=(List.range n).all λj=>decide (j<m) || decide (ms.getD j 0=2^j - 1)
def kr(d:Bool)(ops:List Oper):Bool:=!d || VU (zh [] ops) (vk ops) ops.length
def VV(ops:List Oper):Bool:=
 let ms:=zh [] ops
 k9 0 ops&&yC (dsts ops) ms ops&&VU ms (wg ops) ops.length
theorem QQ:∀{ops:List Oper}{i:Nat},k9 i ops=true→∀j o,ops[j]? = some o→∀e∈o.after,Region.binds .any e=true→e.on<i+j
 |[],i,h,j,o,ho=>by simp at ho
 |p :: ops,i,h,j,o,ho=>by
  simp only[k9,xe6]at h;cases j with
  |zero=>
   simp at ho;subst ho;intro e he hb;have key:∀(es:List Edge),KE i es=true→e∈es→e.on<i:=by
    intro es
    induction es with
    |nil=>intro _ h;cases h
    |cons x es ih=>
     intro h1 h2;simp only[KE,xe6,xe8,Bool.not_eq_true',decide_eq_true_eq]at h1;rcases List.mem_cons.1 h2 with e'|e'
     ·simp_all
     ·exact ih h1.2 e'
   grind
  |succ j=>
   intro e he hb;have:=QQ h.2 j o (by simpa using ho) e he hb;omega
def VW(ops:List Oper)(S:Nat→Bool):Prop:=∀j o,ops[j]? = some o→S j=true→∀e∈o.after,Region.binds .any e=true→S e.on=true
theorem wY{ms:List Nat}{S:Nat→Bool}{i:Nat}(hms:∀j,(ms.getD j 0).testBit i=true→S j=true→S i=true):∀{es:List Edge},(∀e∈es,Region.binds .any e=true→S e.on=true)→(ZJ ms es).testBit i=true→S i=true
 |[],_,h=>by simp[ZJ]at h
 |e :: es,hS,h=>by
  simp only[ZJ]at h;split at h
  ·rename_i hb
   rw[Nat.testBit_or,Nat.testBit_or,xe8,xe8]at h;rcases h with h|h|h
   ·exact wY hms (λe he=>hS e (List.mem_cons_of_mem _ he)) h
   ·grind
   ·grind
  ·exact wY hms (λe he=>hS e (List.mem_cons_of_mem _ he)) h
theorem Gk{S:Nat→Bool}{i:Nat}:∀(rest pre:List Oper)(ms:List Nat),ms.length=pre.length→VW (pre++rest) S→(∀j,(ms.getD j 0).testBit i=true→S j=true→S i=true)→
  ∀j,((zh ms rest).getD j 0).testBit i=true→S j=true→S i=true
 |[],pre,ms,hl,hc,h=>h
 |o :: rest,pre,ms,hl,hc,h=>by
  simp only[zh];refine Gk rest (pre++[o]) _ (by simp[hl]) (by simpa using hc) λj hj hS=>?_;by_cases hlt:j<ms.length
  ·grind
  ·by_cases he:j=ms.length
   ·subst he
    rw[xc6,xd0 (xa5 _)]at hj;simp at hj;refine wY h (λe he hb=>?_) hj;exact hc ms.length o (by rw[hl];simp) hS e Ω1 hb
   ·grind
theorem QW{ops:List Oper}{S:Nat→Bool}(hc:VW ops S){i j:Nat}(h:((zh [] ops).getD j 0).testBit i=true)(hS:S j=true):S i=true:=
 Gk ops [] [] rfl (by simpa using hc) Ωg j h hS
def qhb(F:Nat→SV)(d:Option Tmp)(v:SV):Nat→SV:=λt=>if d=some t then v else F t
def j6(ds:List (Option Tmp))(g:Option (Nat×Bool))(F:Nat→SV):Option Bool:=
 match g with
 |none=>some true
 |some (j,want)=>match nth ds j with
  |none=>none
  |some t=>match F t with
   |.val (.bool b)=>some (b == want)
   |.val (.tuple _)=>some false
   |_=>none
inductive Gl(P:Program)(F:Nat→SV)(hp:List (Nat×Blk))(id:Nat)(o:Oper):SV→Option Blk→Prop
 |pure (obl:Prop) (sv:SV) (h:stepR P F hp o.op=.pure obl sv) (ho:obl):Gl P F hp id o sv none
 |ex (obl:SV→Prop) (sv:SV) (h:stepR P F hp o.op=.ex obl) (ho:obl sv):Gl P F hp id o sv none
 |new (obl:Prop) (b:Blk) (mk:Nat→SV) (h:stepR P F hp o.op=.new obl b mk) (ho:obl):Gl P F hp id o (mk id) (some b)
 |call (f:FuncId) (args:List SV) (res:SV) (h:stepR P F hp o.op=.call f args) (hc:CanC P hp f args res):Gl P F hp id o res none
 |callN (f:FuncId) (args pats:List SV) (b:Blk) (res:SV) (h:stepR P F hp o.op=.call f args) (hc:zx P f pats b res) (hs:NewOk hp pats args b res):Gl P F hp id o (setId id res) (some b)
def vz(nb:Option Blk)(id:Nat)(hp:List (Nat×Blk)):List (Nat×Blk):=match nb with|some b=>(id,b) :: hp|none=>hp
theorem zU(fr:List (Nat×SV))(hp:List (Nat×Blk))(nid:Nat)(d:Option Tmp)(v:SV):look (({ fr:=fr,hp:=hp,nid:=nid }:St).put d v).fr=qhb (look fr) d v:=by
 funext t;cases d with
 |none=>simp[St.put,qhb]
 |some d=>
  simp only[St.put,qhb,zn,Option.some.injEq];by_cases e:t=d
  ·subst e;simp
  ·grind
def qhc:Res→Bool
 |.upd _ _ _=>false
 |.updv _ _ _ _=>false
 |.grow _ _ _ _=>false
 |_=>true
theorem vl{x:Res}(h:vg x=true):qhc x=true:=by cases x<;>first|rfl|cases h
theorem Qo{x:Res}(h:(∃obl b mk,x=.new obl b mk)∨x=.bad):qhc x=true:=by rcases h with⟨_,_,_,rfl⟩|rfl<;>rfl
theorem qbr(h:kz op=true):qhc (stepR P F hp op)=true:=by
 cases op<;>first|(simp[kz]at h;done)|(simp only[stepR])
 case move=>rfl
 case assign=>rfl
 case pick=>unfold rPick;split<;>rfl
 case alloc=>unfold rAlloc;split<;>rfl
 case box=>unfold rBox;(repeat' split)<;>rfl
 case load=>unfold rLoad;(repeat' split)<;>rfl
 case nilCheck=>unfold rNil;split<;>rfl
 case binOp=>unfold rBin;(repeat' split)<;>first|rfl|(rcases vR P _ _ _ _ _ with⟨_,_,e⟩|e<;>rw[e]<;>rfl)|(unfold rInt;split<;>rfl)|(unfold rEq;(repeat' split)<;>rfl)
 case lookup=>exact vl (kW _ _ _ _ _)
 case makeMap=>exact Qo (jb _ _)
 case index=>exact vl (jH _ _ _)
 case unOp=>unfold rUn;split<;>rfl
 case convert=>unfold rConv;split<;>rfl
 case makeFunc=>rfl
 case fieldAddr=>unfold rFieldAddr;(repeat' split)<;>rfl
 case field=>unfold rField;(repeat' split)<;>rfl
 case indexAddr=>unfold rIndexAddr;(repeat' split)<;>rfl
 case extract=>unfold rExtract;split<;>rfl
 case build=>exact vl (gy _ _)
 case buildSlice=>exact Qo (kK _ _ _)
 case makeSlice=>exact Qo (k4 _ _ _)
 case slice=>exact vl (jF _ _ _ _ _)
 case call c=>
  obtain⟨callee,args,ts⟩:=c;cases callee with
  |value f=>simp only[rCall];split<;>rfl
  |invoke _ _=>simp[kz]at h
  |builtin b=>
   cases b<;>first|(simp[kz]at h;done)|skip
   case len=>simp only[rCall];split<;>first|rfl|(unfold rLen;(repeat' split)<;>rfl)
   case max=>simp only[rCall];unfold rMin;(repeat' split)<;>rfl
   case min=>simp only[rCall];unfold rMin;(repeat' split)<;>rfl
theorem JA{ds:List (Option Tmp)}{g:Option (Nat×Bool)}{st:St}{run skip:St→Prop}(h:zp ds g st run skip) :
  ∃st',st'.nid=st.nid∧st'.hp=st.hp∧look st'.fr=look st.fr∧((j6 ds g (look st.fr)=some true∧run st')∨(j6 ds g (look st.fr)=some false∧skip st')):=by
 unfold zp at h;cases g with
 |none=>exact⟨st,rfl,rfl,rfl,.inl ⟨rfl,h⟩⟩
 |some gw=>
  obtain⟨j,want⟩:=gw;cases ht:nth ds j with
  |none=>simp[ht]at h
  |some t=>
   simp only[ht]at h;cases hl:look st.fr t with
   |val v=>
    rw[hl]at h;have hkeep:∀b,v=.bool b→look (st.put (some t) (.val (.bool b))).fr=look st.fr:=λb hb=>by
     funext x;simp only[St.put,zn];split
     ·simp_all
     ·rfl
    cases v with
    |bool b=>
     cases b<;>cases want
     ·exact⟨_,qz _ _ _,zo _ _ _,hkeep _ rfl,.inl ⟨by simp[j6,ht,hl],h.2 rfl⟩⟩
     ·exact⟨_,qz _ _ _,zo _ _ _,hkeep _ rfl,.inr ⟨by simp[j6,ht,hl],h.2 rfl⟩⟩
     ·exact⟨_,qz _ _ _,zo _ _ _,hkeep _ rfl,.inr ⟨by simp[j6,ht,hl],h.1 rfl⟩⟩
     ·exact⟨_,qz _ _ _,zo _ _ _,hkeep _ rfl,.inl ⟨by simp[j6,ht,hl],h.1 rfl⟩⟩
    |tuple vs=>exact⟨st,rfl,rfl,rfl,.inr ⟨by simp[j6,ht,hl],h⟩⟩
    |_=>exact h.elim
   |_=>rw[hl]at h;exact h.elim
theorem JB{f:FuncId}(h:stepR P F hp op=.call f args):g6 op=true:=by
 obtain⟨x,xs,ts,first,caps,rfl,_⟩:=gZ h;rfl
theorem Gm{y:Nat}(h:stepR P F hp op=.yield y args):g6 op=true:=by
 obtain⟨x,xs,ts,rfl,_⟩:=Ki h;rfl
theorem VX(h:stepR P F hp op=.raw):kz op=false:=by
 rcases ZI (P:=P) F hp op with h'|⟨x,xs,ts,rfl⟩|⟨t,x,rfl⟩|⟨x,s,rfl⟩|⟨x,rfl⟩
 ·rw[h]at h';cases h'
 ·simp only[stepR,rCall]at h;split at h<;>cases h
 ·rfl
 ·rfl
 ·rfl
end Go.Sx
end
section
namespace Go.Sx
open Go.RowKit
variable{args:List SV}
section
variable{hp hp':List (Nat×Blk)}
mutual
theorem kC(h:∀id x,blk hp id=some x→blk hp' id=some x):∀(p s:SV),Sub hp p s→Sub hp' p s
 |.top,s,_=>by simp[Sub]
 |.val v,s,hs=>by simpa[Sub]using hs
 |.agg l,s,hs=>by
  cases s<;>simp only[Sub]at hs ⊢
  exact subL_mono h l _ hs
 |.tup l,s,hs=>by
  cases s<;>simp only[Sub]at hs ⊢
  exact subL_mono h l _ hs
 |.fn f a b,s,hs=>by
  cases s<;>simp only[Sub]at hs ⊢
  exact⟨hs.1,subL_mono h a _ hs.2.1,subL_mono h b _ hs.2.2⟩
 |.ref o n row,s,hs=>by
  cases s<;>simp only[Sub]at hs ⊢
  case ref=>exact⟨hs.1,hs.2.1,λj hj=>kC h (row j) _ (hs.2.2 j hj)⟩
  case ptr id off=>
   split at hs
   ·rename_i t l hb
    rw[h _ _ hb];exact λj hj=>⟨kC h (row j) _ (hs j hj).1,(hs j hj).2⟩
   ·exact hs.elim
  case elt id k i j0=>
   split at hs
   ·rename_i t k' n' row' hb
    rw[h _ _ hb];exact⟨hs.1,hs.2.1,hs.2.2.1,λj hj=>kC h (row j) _ (hs.2.2.2 j hj)⟩
   ·exact hs.elim
 |.arr o full n k row,s,hs=>by
  cases s<;>simp only[Sub]at hs ⊢
  case arr=>exact⟨hs.1,hs.2.1,hs.2.2.1,hs.2.2.2.1,λi j hi hj=>kC h (row i j) _ (hs.2.2.2.2 i j hi hj)⟩
  case vec id n' k'=>
   obtain⟨h1,h2,h3,hs⟩:=hs;refine⟨h1,h2,h3,?_⟩;split at hs
   ·rename_i t k'' m row' hb
    rw[h _ _ hb];exact⟨hs.1,hs.2.1,λi j hi hj=>kC h (row i j) _ (hs.2.2 i j hi hj)⟩
   ·exact hs.elim
  case asl id off n' k'=>
   obtain⟨h1,h2,h3,hs⟩:=hs;refine⟨h1,h2,h3,?_⟩;split at hs
   ·rename_i t l hb
    rw[h _ _ hb];exact⟨hs.1,λi j hi hj=>kC h (row i j) _ (hs.2 i j hi hj)⟩
   ·exact hs.elim
  case cut id n' k'=>
   obtain⟨h2,h3,hs⟩:=hs;refine⟨h2,h3,?_⟩;split at hs
   ·rename_i t k'' m row' hb
    rw[h _ _ hb];exact⟨hs.1,hs.2.1,λi j hi hj=>kC h (row i j) _ (hs.2.2 i j hi hj)⟩
   ·exact hs.elim
  case val u=>exact hs
 |.cmp o fit dom get,s,hs=>by
  cases s<;>simp only[Sub]at hs ⊢
  case cmp=>exact⟨hs.1,hs.2.1,hs.2.2.1,λkey hk=>kC h (get key) _ (hs.2.2.2 key hk)⟩
  case mp id=>
   split at hs
   ·rename_i fit' dom' get' hb
    rw[h _ _ hb];exact⟨hs.1,hs.2.1,λkey hk=>kC h (get key) _ (hs.2.2 key hk)⟩
   ·rename_i fit' dom' get' st' c' hb
    rw[h _ _ hb];exact⟨hs.1,hs.2.1,λkey hk=>kC h (get key) _ (hs.2.2 key hk)⟩
   ·exact hs.elim
 |.cut _ _ _,s,hs=>by simp[Sub]at hs
 |.ptr _ _,s,hs=>by simp[Sub]at hs
 |.elt _ _ _ _,s,hs=>by simp[Sub]at hs
 |.vec _ _ _,s,hs=>by simp[Sub]at hs
 |.mp _,s,hs=>by simp[Sub]at hs
 |.asl _ _ _ _,s,hs=>by simp[Sub]at hs
 |.que _ _ _ _,s,hs=>by simp[Sub]at hs
 |.yld _,s,hs=>by simp[Sub]at hs
theorem subL_mono(h:∀id x,blk hp id=some x→blk hp' id=some x):∀(l m:List SV),SubL hp l m→SubL hp' l m
 |[],m,hs=>by simpa[SubL]using hs
 |a :: l,m,hs=>by
  cases m with
  |nil=>simp[SubL]at hs
  |cons b m=>
   simp only[SubL]at hs ⊢;exact⟨kC h a b hs.1,subL_mono h l m hs.2⟩
end
theorem CanC.mono{P:Program}(h:∀id x,blk hp id=some x→blk hp' id=some x){f:FuncId}{res:SV}(hc:CanC P hp f args res):CanC P hp' f args res:=
 hc.imp (λ⟨pats,h1,h2⟩=>⟨pats,h1,h2.imp (λk=>⟨subL_mono h _ _ k.1,k.2⟩) id⟩) id
theorem NewOk.mono(h:∀id x,blk hp id=some x→blk hp' id=some x){pats:List SV}{b:Blk}{res:SV}(hn:NewOk hp pats args b res):NewOk hp' pats args b res:=hn.imp (λhh=>⟨subL_mono h _ _ hh.1,hh.2⟩) (λhh=>hh)
theorem qbs{P:Program}{F:Nat→SV}{op:Op}(hc:kz op=true)(h:∀id x,blk hp id=some x→blk hp' id=some x)(hne:stepR P F hp op≠.bad):stepR P F hp' op=stepR P F hp op:=by
 cases op<;>first|rfl|(simp[kz]at hc;done)|skip
 case call c=>
  obtain⟨callee,args,ts⟩:=c;cases callee with
  |value f=>rfl
  |invoke _ _=>simp[kz]at hc
  |builtin b=>cases b<;>first|rfl|(simp[kz]at hc;done)
 case lookup t x k ok=>
  simp only[stepR]at hne ⊢;have hmo:mapOf hp (env F x)≠none→mapOf hp' (env F x)=mapOf hp (env F x):=λhn=>by
   unfold mapOf at hn ⊢;split
   ·rfl
   ·grind
   ·rfl
  unfold rLookup at hne ⊢;split
  ·grind
  ·rfl
 case load t x=>
  simp only[stepR]at hne ⊢;unfold rLoad at hne ⊢;split
  ·grind
  ·grind
  ·rfl
end
def FS(dst:Nat→Option Tmp)(res:Nat→SV)(S:Nat→Bool)(F:Nat→SV):Nat→Nat→SV
 |0=>F
 |i+1=>λt=>if S i=true∧dst i=some t then res i else FS dst res S F i t
theorem qhd(dst:Nat→Option Tmp)(res:Nat→SV)(S:Nat→Bool)(F:Nat→SV)(j:Nat) :
  FS (λi=>dst (i+1)) (λi=>res (i+1)) (λi=>S (i+1)) (λt=>if S 0=true∧dst 0=some t then res 0 else F t) j=FS dst res S F (j+1):=by
 induction j with
 |zero=>rfl
 |succ j ih=>
  funext t;simp only[FS]at ih ⊢;by_cases h:S (j+1)=true∧dst (j+1)=some t
  ·simp_all
  ·simp_all
theorem Gn{dst:Nat→Option Tmp}{res:Nat→SV}{S:Nat→Bool}{F:Nat→SV}{i t:Nat}:∀{m:Nat},i≤m→(∀j,j<m→dst j=some t→(S j=true↔j<i))→FS dst res S F m t=FS dst res (λ_=>true) F i t
 |0,hi,h=>by
  have e:i=0:=by omega
  subst e;rfl
 |m+1,hi,h=>by
  by_cases he:i=m+1
  ·subst he
   have key:∀j,j≤m+1→FS dst res S F j t=FS dst res (λ_=>true) F j t:=by
    intro j
    induction j with
    |zero=>intro _;rfl
    |succ j ih=>
     intro hj;simp only[FS,true_and];by_cases hd:dst j=some t
     ·grind
     ·grind
   simp_all
  ·simp only[FS]
   rw[if_neg]
   ·exact Gn Ω λj hj hd=>h j Ω hd
   ·grind
theorem VY{dst:Nat→Option Tmp}{res:Nat→SV}{S S':Nat→Bool}{F:Nat→SV}{i:Nat}{t:Nat}(hS:∀j,S' j=(S j || decide (j=i))):∀{m:Nat},i<m→(dst i=some t→∀j,j<m→i<j→dst j=some t→S j=false)→
  FS dst res S' F m t=if dst i=some t then res i else FS dst res S F m t
 |0,hi,h=>by omega
 |m+1,hi,h=>by
  have low:∀j,j≤i→FS dst res S' F j t=FS dst res S F j t:=by
   intro j
   induction j with
   |zero=>intro _;rfl
   |succ j ih=>
    intro hj;simp only[FS]
    grind
  by_cases he:i=m
  ·subst he
   simp only[FS];have:S' i=true:=by rw[hS];simp
   rw[low i (xa5 _)];by_cases hd:dst i=some t
   ·simp_all
   ·simp_all
  ·simp only[FS]
   have e1:S' m=S m:=by rw[hS];simp;intro e;omega
   rw[e1,VY hS Ω λhd j hj hij hdj=>h hd j Ω hij hdj];by_cases hm:S m=true∧dst m=some t
   ·grind
   ·grind
end Go.Sx
end
section
namespace Go.Sx
open Go.RowKit
variable{i:Nat}
theorem kM{ds:List (Option Tmp)}{ms:List Nat}{ops:List Oper}(h:yC ds ms ops=true){j:Nat}{oi oj:Oper}(hi:ops[i]? = some oi)(hj:ops[j]? = some oj)(hij:i<j) :
  (ms.getD j 0).testBit i=true∨((∀d,nth ds i=some d→d∉seen ds oj)∧(∀d,nth ds j=some d→d∉seen ds oi)):=by
 have hjl:j<ops.length:=(List.getElem?_eq_some_iff.1 hj).1;simp only[yC,List.all_eq_true,List.mem_range]at h;have h1:=h j hjl;rw[hj]at h1;simp only[List.all_eq_true,List.mem_range]at h1;have h2:=h1 i hij;rw[hi]at h2;simp only[xe8,xe6]at h2;rcases h2 with h2|⟨h2,h3⟩
 ·exact .inl h2
 ·grind
theorem Gp:∀(l:List Oper),wg l≤l.length
 |[]=>xa5 _
 |o :: l=>by
  simp only[wg,xe4];split
  ·have:=Gp l;omega
  ·omega
theorem J6:∀(l:List Oper),∀o∈l.take (wg l),kz o.op=true
 |[],o,h=>by simp at h
 |p :: l,o,h=>by
  simp only[wg]at h;split at h
  ·rename_i hp
   simp only[List.take_succ_cons,List.mem_cons]at h;rcases h with e|e
   ·exact e▸hp
   ·exact J6 l o e
  ·simp at h
theorem Gq:∀(l:List Oper),vk l≤l.length
 |[]=>xa5 _
 |o :: l=>by
  simp only[vk];split
  ·have:=Gq l;simp;omega
  ·simp
theorem wh:∀(l:List Oper),∀o∈l.take (vk l),kz o.op=true∧g6 o.op=false
 |[],o,h=>by simp[vk]at h
 |x :: l,o,h=>by
  simp only[vk]at h;split at h
  ·rename_i hc
   simp only[xe6,Bool.not_eq_true']at hc;simp only[List.take_succ_cons,List.mem_cons]at h;rcases h with rfl|h
   ·exact hc
   ·exact wh l o h
  ·simp at h
theorem qfw(l:List Oper)(m j:Nat)(h:j<m):nth (dsts (l.take m)) j=nth (dsts l) j:=by
 rw[zA,zA,List.getElem?_take_of_lt h]
theorem Yn{dst dst':Nat→Option Tmp}{res:Nat→SV}{S:Nat→Bool}{F:Nat→SV}:∀{m:Nat},(∀j,j<m→dst j=dst' j)→FS dst res S F m=FS dst' res S F m
 |0,_=>rfl
 |m+1,h=>by
  funext t;simp only[FS];rw[h m Ω,Yn λj hj=>h j Ω]
section
variable{P:Program}{O:Ctx}{outs:jj}{base:World}{okc:Nat→Prop}{ns:Nat}
def NS(nid m:Nat)(S:Nat→Bool):Nat→Prop:=λid=>id<nid∨∃j,j<m∧S j=true∧id=nid+j
structure Ext(O:Ctx)(base:World)(okc:Nat→Prop)(r:Nat→Option Nat)(N:Nat→Prop)(hp:List (Nat×Blk))(outs:jj)(a:Act)(w:World):Prop where
 out:OutOk r O.lo (Gd base okc r N hp w) w O.fs outs.as
 rfix:∀id,id<O.lo→r id=outs.r0 id
 defers:∃Ds:List Nat,Kv a outs.as=Ds.map vy∧Ds.Nodup∧∀D∈Ds,Gd base okc r N hp w true D∧w.heap[D]? = some (.deferred (some []))
theorem Ext.step{O:Ctx}{base:World}{okc:Nat→Prop}{r r':Nat→Option Nat}{N N':Nat→Prop}{hp hp':List (Nat×Blk)}{outs:jj}{a:Act}{w w':World}(h:Ext O base okc r N hp outs a w)(hs:Step base okc r N hp w r' N' hp' w')(hlo:∀i,i<O.lo→N i)(d:Option Tmp)(v:Value) :
  Ext O base okc r' N' hp' outs (a.put d v) w':=by
 refine⟨h.out.mono (xa5 _) λn hn sv v hv=>hv.mono (λid hid=>hs.rr id (hlo id (xa9 hid hn))) (λ_ h=>h) hs.gg hs.sh,λid hid=>(hs.rr id (hlo id hid)).trans (h.rfix id hid),?_⟩;obtain⟨Ds,h1,h2,h3⟩:=h.defers;refine⟨Ds,by unfold Kv;rw[Gh];exact h1,h2,λD hD=>?_⟩;obtain⟨h4,h5⟩:=h3 D hD;obtain⟨h6,h7⟩:=hs.gg _ _ h4
 simp_all
theorem Ext.step0{O:Ctx}{base:World}{okc:Nat→Prop}{r r':Nat→Option Nat}{N N':Nat→Prop}{hp hp':List (Nat×Blk)}{outs:jj}{a:Act}{w w':World}(h:Ext O base okc r N hp outs a w)(hs:Step base okc r N hp w r' N' hp' w')(hlo:∀i,i<O.lo→N i) :
  Ext O base okc r' N' hp' outs a w':=h.step hs hlo none undef
theorem ZK{nid m:Nat}{S S':Nat→Bool}(hS:∀j,S' j=(S j || decide (j=i)))(hi:i<m):zm (NS nid m S) (nid+i)=NS nid m S':=by
 funext id;simp only[zm,NS,eq_iff_iff];constructor
 ·rintro((h|⟨j,h1,h2,h3⟩)|h)
  ·exact .inl h
  ·simp_all
  ·simp_all
 ·grind
def cnt(S:Nat→Bool):Nat→Nat
 |0=>0
 |n+1=>cnt S n+if S n=true then 0 else 1
theorem wi{S S':Nat→Bool}{i:Nat}(hS:∀j,S' j=(S j || decide (j=i)))(hi:S i=false):∀{n:Nat},(n≤i→cnt S' n=cnt S n)∧(i<n→cnt S' n+1=cnt S n)
 |0=>⟨λ_=>rfl,λh=>by omega⟩
 |n+1=>by
  obtain⟨h1,h2⟩:=wi hS hi (n:=n);refine⟨λh=>?_,λh=>?_⟩
  ·simp only[cnt]
   grind
  ·simp only[cnt]
   by_cases e:i=n
   ·simp_all
   ·grind
theorem Yo{S:Nat→Bool}:∀{n:Nat},cnt S n=0→∀j,j<n→S j=true
 |0,_,j,h=>by omega
 |n+1,h,j,hj=>by
  simp only[cnt]at h;by_cases e:j=n
  ·simp_all
  ·exact Yo (S:=S) (n:=n) Ω j Ω
theorem qhe{l:Array Bool}{j:Nat}(hi:i<l.size):(l.setIfInBounds i true).getD j false=(l.getD j false || decide (j=i)):=by
 by_cases e:i=j
 ·subst e;simp[hi]
 ·(simp_all;omega)
theorem qhf{ro:Option Nat}{ops:Array Oper}{id:Nat}{Q:Exit→Act→World→Prop}{a:Act}{w:World}{l:List Oper}(hm:P.follows .mixedOrders=true)(hl:ops.toList=l)(hedge:k9 0 l=true)(I:(Nat→Bool)→Act→World→Prop)(h0:I (λ_=>false) a { w with drawn:=w.drawn+1 })
  (hend:∀S a w,(∀i,S i=decide (i<l.length))→I S a w→Q .normal a w)
  (hs:∀S S' i o a w,(∀x,S' x=(S x || decide (x=i)))→(∀j x,((zh [] l).getD j 0).testBit x=true→S j=true→S x=true)→l[i]? = some o→S i=false→(∀j,((zh [] l).getD i 0).testBit j=true→j≠i→S j=true)→I S a w→∀K:Act→World→Prop,(∀a' w',I S' a' w'→K a' w')→if Region.wanted o (yielded ops a.tmps)then o.wpIn (FR ro) 0 P a w K Q else(∀f,o.about P w a.eval=some f→(FR ro).fn f)∧K (a.put o.dst undef) w):(Code.region id ops true).wpIn (FR ro) 0 P Q a w:=by
 have hn:ops.size=l.length:=by rw[←hl];simp
 have hget:∀j:Nat,ops[j]? = l[j]?:=λj=>by rw[←hl];simp
 have hedge:=QQ hedge;have hready:∀(listed:Array Bool)(i:Nat),listed.size=l.length→i∈Region.ready .any ops listed→i<l.length∧listed.getD i false=false∧∃o,l[i]? = some o∧∀e∈o.after,Region.binds .any e=true→listed.getD e.on false=true:=by
  intro listed i hsz hi;obtain⟨h1,o,h2,h3⟩:=mem_ready.1 hi
  grind
 have hleast:∀(listed:Array Bool),listed.size=l.length→Region.ready .any ops listed=[]→∀i,i<l.length→listed.getD i false=true:=by
  intro listed hsz h0 i
  induction i using Nat.strongRecOn with
  |_ i ih=>
   intro hi;refine xf9 λhf=>?_;have:i∈Region.ready .any ops listed:=mem_ready.2 ⟨by
    have:i<listed.size:=by omega
    simpa[this]using hf,l[i],by rw[hget];simp[hi],λe he hb=>by
    have:=hedge i l[i] (by simp[hi]) e he hb;exact ih e.on Ω Ω⟩
   simp_all
 have main:∀(fuel:Nat)(listed:Array Bool)(a:Act)(w:World),listed.size=l.length→VW l (λi=>listed.getD i false)→cnt (λi=>listed.getD i false) l.length=fuel→I (λi=>listed.getD i false) a w→wpAnyIn (FR ro) 0 P .any ops Q fuel listed a w:=by
  intro fuel
  induction fuel with
  |zero=>
   intro listed a w hsz hcl hcnt hI;have hall:=Yo hcnt;refine⟨?_,hend _ a w (λi=>?_) hI⟩
   ·refine List.eq_nil_iff_forall_not_mem.2 λx hx=>?_
    grind
   ·grind
  |succ fuel ih=>
   intro listed a w hsz hcl hcnt hI;refine⟨λh=>?_,λi hi=>?_⟩
   ·grind
   ·obtain⟨hil,hif,o,ho,hie⟩:=hready listed i hsz hi
    have hS:∀x,(listed.setIfInBounds i true).getD x false=(listed.getD x false || decide (x=i)):=λx=>qhe Ω;have hcl':VW l (λx=>(listed.setIfInBounds i true).getD x false):=by
     intro j oj hoj hj e he hb;simp only[hS,xe8,decide_eq_true_eq]at hj ⊢;rcases hj with hj|rfl
     ·exact .inl (hcl j oj hoj hj e he hb)
     ·simp_all
    unfold wpOpIn;simp only[hget,ho];refine hs _ (λx=>(listed.setIfInBounds i true).getD x false) i o a w hS (λj x hb hj=>QW (S:=λi=>listed.getD i false) hcl hb hj) ho hif (λj hb hne=>?_) hI _ λa' w' hI'=>ih _ a' w' (by simpa using hsz) hcl' ?_ hI'
    ·have:=QW hcl' hb (by simp only[hS];simp)
     simp_all
    ·have:=(wi (S:=λi=>listed.getD i false) hS hif (n:=l.length)).2 hil
     omega
 refine wpIn_region_any hm ?_;rw[hn];have hrep0:(λi=>(Array.replicate l.length false).getD i false)=λ_=>false:=funext λi=>by simp only[xf5,Array.getElem?_replicate];split<;>rfl
 refine main l.length _ a _ Ωg ?_ ?_ ?_
 ·intro j o ho hS;rw[hrep0]at hS;cases hS
 ·rw[hrep0]
  generalize l.length=n
  induction n with
  |zero=>rfl
  |succ n ihn=>simp only[cnt,ihn];rfl
 ·simp_all
end
end Go.Sx
end
section
namespace Go.Sx
open Go.RowKit
variable{ds:List (Option Tmp)}{i j n:Nat}{F:Nat→SV}{op:Op}{obl:Prop}{b:Blk}{mi:Option jX}{m:SV}{t:TypeId}{S:Nat→Bool}{H:List (Nat×Blk)}
def qL:Op→Bool
 |.store _ _ _=>true
 |.mapUpdate _ _ _ _=>true
 |.insert _ _ _ _=>true
 |.call ⟨.builtin .delete,_,_⟩=>true
 |.call ⟨.builtin .clear,_,_⟩=>true
 |_=>false
def jl:Op→Bool
 |.load _ _=>true
 |.lookup _ _ _ _=>true
 |.call ⟨.value _,_,_⟩=>true
 |_=>false
def zi(ds:List (Option Tmp))(i a:Nat):Bool:=(List.range ds.length).all λk=>decide (k<i) ||(match nth ds k with|some t=>!decide (t=a)|none=>true)
def qhg(far:List (Nat×Nat))(ds:List (Option Tmp))(i j:Nat)(oi oj:Oper):Bool:=
 match oi.op with
 |.load _ (.tmp a)=>match oj.op with
  |.store _ (.tmp b) _=>far.any (λp=>decide (p.1=a)&&decide (p.2=b))&&zi ds i a&&zi ds j b
  |_=>false
 |_=>false
def VZ(far:List (Nat×Nat))(ds:List (Option Tmp))(ms:List Nat)(ops:List Oper):Bool:=
 (List.range ops.length).all λj=>match ops[j]? with
  |none=>true
  |some oj=>(List.range j).all λi=>(ms.getD j 0).testBit i || match ops[i]? with
   |none=>true
   |some oi=>!((qL oi.op&&qL oj.op) ||(jl oi.op&&qL oj.op) ||(qL oi.op&&jl oj.op)) || qhg far ds i j oi oj
def V0(far:List (Nat×Nat))(ops:List Oper):Bool:=
 let ms:=zh [] ops
 k9 0 ops&&yC (dsts ops) ms ops&&VZ far (dsts ops) ms ops&&ops.all (λo=>kz o.op || qL o.op)&&!kr true ops
theorem qS{a:Nat}(h:zi ds i a=true){k:Nat}(hk:k<ds.length)(hi:i≤k):nth ds k≠some a:=by
 intro e;simp only[zi,List.all_eq_true,List.mem_range]at h
 grind
def qon(far:List (Nat×Nat))(ds:List (Option Tmp))(i j:Nat)(oi oj:Oper):Prop:=
 ∃t a t' b y,oi.op=.load t (.tmp a)∧oj.op=.store t' (.tmp b) y∧(a,b)∈far∧zi ds i a=true∧zi ds j b=true
theorem qbt{far:List (Nat×Nat)}{oi oj:Oper}(h:qhg far ds i j oi oj=true):qon far ds i j oi oj:=by
 unfold qhg at h;split at h
 ·rename_i t a e
  split at h
  ·rename_i t' b y e'
   simp only[xe6,List.any_eq_true,decide_eq_true_eq]at h;obtain⟨⟨⟨p,hp,h1,h2⟩,h3⟩,h4⟩:=h;refine⟨t,a,t',b,y,e,e',?_,h3,h4⟩
   grind
  ·cases h
 ·cases h
theorem jm{far:List (Nat×Nat)}{ms:List Nat}{ops:List Oper}(h:VZ far ds ms ops=true){oi oj:Oper}(hi:ops[i]? = some oi)(hj:ops[j]? = some oj)(hij:i<j) :
  (ms.getD j 0).testBit i=true∨(¬(qL oi.op=true∧qL oj.op=true)∧¬(jl oi.op=true∧qL oj.op=true)∧¬(qL oi.op=true∧jl oj.op=true))∨qon far ds i j oi oj:=by
 simp only[VZ,List.all_eq_true,List.mem_range]at h;have h1:=h j (List.getElem?_eq_some_iff.1 hj).1;rw[hj]at h1;simp only[List.all_eq_true,List.mem_range]at h1;have h2:=h1 i hij;rw[hi]at h2;simp only[xe8]at h2;rcases h2 with h2|h2|h2
 ·exact .inl h2
 ·grind
 ·exact .inr (.inr (qbt h2))
theorem yD{P:Program}{hp:List (Nat×Blk)}(h:stepR P F hp op=.upd obl j b):qL op=true:=by
 cases op<;>first|rfl|(simp only[stepR]at h;cases h;done)|(simp only[stepR]at h)
 case pick=>unfold rPick at h;split at h<;>cases h
 case alloc=>unfold rAlloc at h;split at h<;>cases h
 case box=>unfold rBox at h;(repeat' split at h)<;>cases h
 case load=>unfold rLoad at h;(repeat' split at h)<;>cases h
 case nilCheck=>unfold rNil at h;split at h<;>cases h
 case binOp=>unfold rBin at h;(repeat' split at h)<;>first|(cases h;done)|(rcases vR P _ _ _ _ _ with⟨_,_,e⟩|e<;>rw[e]at h<;>cases h)|(unfold rInt at h;split at h<;>cases h)|(unfold rEq at h;(repeat' split at h)<;>cases h)
 case unOp=>unfold rUn at h;split at h<;>cases h
 case convert=>unfold rConv at h;split at h<;>cases h
 case fieldAddr=>unfold rFieldAddr at h;(repeat' split at h)<;>cases h
 case field=>unfold rField at h;(repeat' split at h)<;>cases h
 case indexAddr=>unfold rIndexAddr at h;(repeat' split at h)<;>cases h
 case extract=>unfold rExtract at h;split at h<;>cases h
 case build=>have:=congrArg vg h;rw[gy]at this;cases this
 case buildSlice=>rcases kK (P:=P) _ _ _ with⟨_,_,_,e⟩|e<;>rw[e]at h<;>cases h
 case makeSlice=>rcases k4 (P:=P) _ _ _ with⟨_,_,_,e⟩|e<;>rw[e]at h<;>cases h
 case slice=>have:=congrArg vg h;rw[jF]at this;cases this
 case makeMap=>rcases jb _ _ with⟨_,_,_,e⟩|e<;>rw[e]at h<;>cases h
 case lookup=>have:=congrArg vg h;rw[kW]at this;cases this
 case index=>have:=congrArg vg h;rw[jH]at this;cases this
 case call c=>
  obtain⟨callee,args,ts⟩:=c;cases callee with
  |value f=>simp only[rCall]at h;split at h<;>cases h
  |invoke _ _=>simp only[rCall]at h;cases h
  |builtin b=>
   cases b<;>first|rfl|(simp only[rCall]at h;done)|skip
   all_goals simp only[rCall]at h
   all_goals first|(cases h;done)|skip
   case append=>(repeat' split at h)<;>first|(cases h;done)|(rcases jG (P:=P) (hp:=hp) _ _ _ with⟨_,_,_,e⟩|⟨_,_,_,_,e⟩|e<;>rw[e]at h<;>cases h)
   case copy=>split at h<;>first|(cases h;done)|(rcases Qm (P:=P) (hp:=hp) _ _ _ with⟨_,_,_,_,e⟩|e<;>rw[e]at h<;>cases h)
   case len=>split at h<;>first|(cases h;done)|(unfold rLen at h;(repeat' split at h)<;>cases h)
   case max=>unfold rMin at h;(repeat' split at h)<;>cases h
   case min=>unfold rMin at h;(repeat' split at h)<;>cases h
theorem Gr(h:kz op=true):qL op=false:=by
 cases op<;>first|rfl|(simp[kz]at h;done)|skip
 case call c=>
  obtain⟨callee,args,ts⟩:=c;cases callee with
  |value f=>rfl
  |invoke _ _=>simp[kz]at h
  |builtin b=>cases b<;>first|rfl|(simp[kz]at h;done)
theorem qpX{P:Program}{hp:List (Nat×Blk)}(h:stepR P F hp op=.upd obl j b){r:Nat→Option Nat}{N:Nat→Prop}{G:Bool→Nat→Prop}{w:World}{a:Act}
  (ha:∀x,x∈op.operands→Rep r N G w (env F x) (a.eval x)):N j:=by
 have hu:=yD h;cases op<;>first|(simp[qL]at hu;done)|skip
 case store t x y=>
  simp only[stepR]at h;have hx:=ha x Ωm;unfold rStore at h;split at h
  ·split at h
   ·rename_i id off hxe
    rw[hxe]at hx;split at h<;>cases h
    generalize a.eval x=u at hx;cases hx with|ptr _ _ _ hN _=>exact hN
   ·rename_i id k i l hxe
    rw[hxe]at hx;split at h<;>cases h
    generalize a.eval x=u at hx;cases hx with|elt _ _ _ _ _ hN _=>exact hN
   ·cases h
  ·split at h
   ·split at h
    ·rename_i id off hxe
     rw[hxe]at hx;split at h<;>cases h
     generalize a.eval x=u at hx;cases hx with|ptr _ _ _ hN _=>exact hN
    ·rename_i id k i l hxe
     rw[hxe]at hx;split at h<;>cases h
     generalize a.eval x=u at hx;cases hx with|elt _ _ _ _ _ hN _=>exact hN
    ·cases h
   ·cases h
  ·cases h
 case mapUpdate t m k x=>exact upd (ha m Ωm) (by simpa only[stepR]using h)
 case insert t m k x=>exact upd (ha m Ωm) (by simpa only[stepR]using h)
 case call c=>
  obtain⟨callee,args,ts⟩:=c;cases callee with
  |value f=>simp[qL]at hu
  |invoke _ _=>simp[qL]at hu
  |builtin bb=>
   cases bb<;>first|(simp[qL]at hu;done)|skip
   case clear=>
    simp only[stepR,rCall]at h;split at h
    rotate_left
    ·cases h
    rename_i d t hargs hts;have hd:=ha d (by simp[Op.operands,Call.operands,Ge hargs]);split at h
    ·rename_i mid hmid
     rw[hmid]at hd;have:mid=j:=by
      unfold rClearMap at h;(repeat' split at h)<;>first|(cases h;done)|(simp only[Res.upd.injEq]at h;rename_i _ _ e _;simp only[SV.mp.injEq]at e;rw[e];exact h.2.1)|skip
      simp_all
     subst this;generalize a.eval d=u at hd;cases hd with|mp _ _ hN _=>exact hN
    ·generalize env F d=s at h hd
     generalize a.eval d=u at hd;unfold rClear at h;(repeat' split at h)<;>first|(cases h;done)|(simp only[Res.upd.injEq]at h;obtain⟨_,rfl,_⟩:=h;cases hd<;>assumption)
   case delete=>
    simp only[stepR,rCall]at h;split at h
    rotate_left
    ·cases h
    rename_i m k t t' hargs hts;have hm:=ha m (by simp[Op.operands,Call.operands,Kg hargs]);generalize env F m=s at h hm;generalize a.eval m=u at hm;unfold rDelete at h;(repeat' split at h)<;>first|(cases h;done)|(simp only[Res.upd.injEq]at h;obtain⟨_,rfl,_⟩:=h;cases hm;assumption)
where
 upd {F:Nat→SV} {hp:List (Nat×Blk)} {mi:Option jX} {m k x:Operand} {obl:Prop} {j:Nat} {b:Blk} {r:Nat→Option Nat} {N:Nat→Prop} {G:Bool→Nat→Prop} {w:World} {a:Act}
     (hm:Rep r N G w (env F m) (a.eval m)) (h:rUpdate mi hp (env F m) (env F k) (env F x)=.upd obl j b):N j:=by
  generalize env F m=s at h hm;generalize a.eval m=u at hm;unfold rUpdate at h;(repeat' split at h)<;>first|(cases h;done)|(simp only[Res.upd.injEq]at h;obtain⟨_,rfl,_⟩:=h;cases hm;assumption)
section
variable{P:Program}{hp hp':List (Nat×Blk)}
theorem Yp(h:∀id x,blk hp id=some x→blk hp' id=some x){ti:Option TyI}{a v:SV}(hne:rStore ti hp a v≠.bad):rStore ti hp' a v=rStore ti hp a v:=by
 match ti with
 |none=>rfl
 |some ⟨false,sz,z,d⟩=>
  cases a<;>first|rfl|skip
  case ptr id off=>
   simp only[rStore]at hne ⊢;cases hb:blk hp id with
   |none=>rw[hb]at hne;exact absurd rfl hne
   |some y=>rw[h _ _ hb]
  case elt id k i j=>
   simp only[rStore]at hne ⊢;cases hb:blk hp id with
   |none=>rw[hb]at hne;exact absurd rfl hne
   |some y=>rw[h _ _ hb]
 |some ⟨true,sz,z,d⟩=>
  cases v<;>first|rfl|skip
  cases a<;>first|rfl|skip
  case ptr id off=>
   simp only[rStore]at hne ⊢;cases hb:blk hp id with
   |none=>rw[hb]at hne;exact absurd rfl hne
   |some y=>rw[h _ _ hb]
  case elt id k i j=>
   simp only[rStore]at hne ⊢;cases hb:blk hp id with
   |none=>rw[hb]at hne;exact absurd rfl hne
   |some y=>rw[h _ _ hb]
theorem QX(h:∀id x,blk hp id=some x→blk hp' id=some x){k x:SV}(hne:rUpdate mi hp m k x≠.bad):rUpdate mi hp' m k x=rUpdate mi hp m k x:=by
 match mi with
 |none=>rfl
 |some ⟨ag,ls,z⟩=>
  cases m<;>first|rfl|skip
  rename_i id;simp only[rUpdate]at hne ⊢;cases hb:blk hp id with
  |none=>rw[hb]at hne;exact absurd rfl hne
  |some y=>rw[h _ _ hb]
theorem V1(h:∀id x,blk hp id=some x→blk hp' id=some x){k:SV}(hne:rDelete mi hp m k≠.bad):rDelete mi hp' m k=rDelete mi hp m k:=by
 match mi with
 |none=>rfl
 |some ⟨ag,ls,z⟩=>
  cases m<;>first|rfl|skip
  rename_i id;simp only[rDelete]at hne ⊢;cases hb:blk hp id with
  |none=>rw[hb]at hne;exact absurd rfl hne
  |some y=>rw[h _ _ hb]
theorem Gs(h:∀id x,blk hp id=some x→blk hp' id=some x)(hne:rClearMap mi hp m≠.bad):rClearMap mi hp' m=rClearMap mi hp m:=by
 match mi with
 |none=>rfl
 |some mi=>
  cases m<;>first|rfl|skip
  rename_i id;simp only[rClearMap]at hne ⊢;cases hb:blk hp id with
  |none=>rw[hb]at hne;exact absurd rfl hne
  |some y=>rw[h _ _ hb]
theorem Yq(h:∀id x,blk hp id=some x→blk hp' id=some x){d:SV}(hne:rClear P t hp d≠.bad):rClear P t hp' d=rClear P t hp d:=by
 unfold rClear at hne ⊢;split
 ·rename_i e1
  rw[e1]at hne;simp only at hne;split
  ·grind
  ·rfl
 ·rfl
theorem Gt(hu:qL op=true)(h:∀id x,blk hp id=some x→blk hp' id=some x)(hne:stepR P F hp op≠.bad):stepR P F hp' op=stepR P F hp op:=by
 cases op<;>first|(simp[qL]at hu;done)|skip
 case store t x y=>exact Yp h hne
 case mapUpdate t m k x=>exact QX h hne
 case insert t m k x=>exact QX h hne
 case call c=>
  obtain⟨callee,args,ts⟩:=c;cases callee with
  |value f=>simp[qL]at hu
  |invoke _ _=>simp[qL]at hu
  |builtin bb=>
   cases bb<;>first|(simp[qL]at hu;done)|skip
   case clear=>
    simp only[stepR,rCall]at hne ⊢;split
    rotate_left
    ·rfl
    rename_i d t hargs hts;simp only[hargs,hts]at hne;generalize env F d=s at hne ⊢;cases s<;>first|exact Gs h hne|exact Yq h hne
   case delete=>
    simp only[stepR,rCall]at hne ⊢;split
    rotate_left
    ·rfl
    rename_i m k t t' hargs hts;simp only[hargs,hts]at hne;exact V1 h hne
end
theorem Yr{P:Program}{hp:List (Nat×Blk)}(hu:qL op=true):(∃obl j b,stepR P F hp op=.upd obl j b)∨stepR P F hp op=.bad:=by
 cases op<;>first|(simp[qL]at hu;done)|skip
 case store t x y=>exact wV _ _ _ _
 case mapUpdate t m k x=>exact kL _ _ _ _ _
 case insert t m k x=>exact kL _ _ _ _ _
 case call c=>
  obtain⟨callee,args,ts⟩:=c;cases callee with
  |value f=>simp[qL]at hu
  |invoke _ _=>simp[qL]at hu
  |builtin bb=>
   cases bb<;>first|(simp[qL]at hu;done)|skip
   case clear=>simp only[stepR,rCall];(repeat' split)<;>first|exact .inr rfl|exact jZ _ _ _|exact wX _ _
   case delete=>simp only[stepR,rCall];split<;>first|exact .inr rfl|exact wb _ _ _ _
theorem JC{P:Program}{hp:List (Nat×Blk)}(h:stepR P F hp op=.upd obl j b):∃y,blk hp j=some y:=by
 refine xf9 λhno=>?_;have hn:blk hp j=none:=by
  cases hb:blk hp j with
  |none=>rfl
  |some y=>exact(hno ⟨y,hb⟩).elim
 have hu:=yD h;cases op<;>first|(simp[qL]at hu;done)|skip
 case store t x y=>
  simp only[stepR]at h;unfold rStore at h;(repeat' split at h)<;>first|(cases h;done)|(simp only[Res.upd.injEq]at h;simp_all)
 case mapUpdate t m k x=>
  simp only[stepR]at h;unfold rUpdate at h;(repeat' split at h)<;>first|(cases h;done)|(simp only[Res.upd.injEq]at h;simp_all)
 case insert t m k x=>
  simp only[stepR]at h;unfold rUpdate at h;(repeat' split at h)<;>first|(cases h;done)|(simp only[Res.upd.injEq]at h;simp_all)
 case call c=>
  obtain⟨callee,args,ts⟩:=c;cases callee with
  |value f=>simp[qL]at hu
  |invoke _ _=>simp[qL]at hu
  |builtin bb=>
   cases bb<;>first|(simp[qL]at hu;done)|skip
   case clear=>
    simp only[stepR,rCall]at h;unfold rClearMap rClear at h;(repeat' split at h)<;>first|(cases h;done)|(simp only[Res.upd.injEq]at h;simp_all)
   case delete=>
    simp only[stepR,rCall]at h;unfold rDelete at h;(repeat' split at h)<;>first|(cases h;done)|(simp only[Res.upd.injEq]at h;simp_all)
theorem Kj{P:Program}{hp:List (Nat×Blk)}(hp':List (Nat×Blk))(hc:kz op=true)(hr:jl op=false):stepR P F hp' op=stepR P F hp op:=by
 cases op<;>first|rfl|(simp[kz]at hc;done)|(simp[jl]at hr;done)|skip
 case call c=>
  obtain⟨callee,args,ts⟩:=c;cases callee with
  |value f=>rfl
  |invoke _ _=>simp[kz]at hc
  |builtin b=>cases b<;>first|rfl|(simp[kz]at hc;done)
theorem wZ{P:Program}{hp hp':List (Nat×Blk)}{x:Operand}(h:∀id y,qT (env F x)=some id→blk hp id=some y→blk hp' id=some y)(hne:stepR P F hp (.load t x)≠.bad) :
  stepR P F hp' (.load t x)=stepR P F hp (.load t x):=by
 simp only[stepR]at hne ⊢;unfold rLoad at hne ⊢;split
 ·split
  ·rename_i id off hx
   cases hb:blk hp id with
   |none=>exact absurd Ωaa hne
   |some y=>rw[h _ _ (by rw[hx];rfl) hb]
  ·rename_i id k i j hx
   cases hb:blk hp id with
   |none=>exact absurd Ωaa hne
   |some y=>rw[h _ _ (by rw[hx];rfl) hb]
  ·rfl
  ·rfl
 ·split
  ·rename_i id off hx
   cases hb:blk hp id with
   |none=>exact absurd Ωaa hne
   |some y=>rw[h _ _ (by rw[hx];rfl) hb]
  ·rename_i id k i j hx
   cases hb:blk hp id with
   |none=>exact absurd Ωaa hne
   |some y=>rw[h _ _ (by rw[hx];rfl) hb]
  ·rfl
  ·rfl
 ·rfl
theorem jy{P:Program}{hp:List (Nat×Blk)}{x y:Operand}(h:stepR P F hp (.store t x y)=.upd obl j b):qT (env F x)=some j:=by
 simp only[stepR]at h;unfold rStore at h;(repeat' split at h)<;>first|(cases h;done)|(simp only[Res.upd.injEq]at h;simp_all [qT])
theorem jI{dst:Nat→Option Tmp}{res:Nat→SV}{F:Nat→SV}{i t:Nat}:∀{n:Nat},i≤n→(∀k,k<n→i≤k→dst k≠some t)→FS dst res (λ_=>true) F n t=FS dst res (λ_=>true) F i t
 |0,hi,_=>by
  simp_all
 |n+1,hi,h=>by
  by_cases e:i=n+1
  ·subst e;rfl
  ·simp only[FS,true_and]
   rw[if_neg (h n Ω Ω)];exact jI Ω λk h1 h2=>h k Ω h2
def NH(k:Nat)(nb:Nat→Option Blk)(hp:List (Nat×Blk)):Nat→List (Nat×Blk)
 |0=>hp
 |i+1=>vz (nb i) (k+i) (NH k nb hp i)
def UH(up:Nat→Option (Nat×Blk))(S:Nat→Bool)(H:List (Nat×Blk)):Nat→List (Nat×Blk)
 |0=>H
 |i+1=>if S i=true then(match up i with|some (t,b)=>setBlk (UH up S H i) t b|none=>UH up S H i)else UH up S H i
theorem yE{up:Nat→Option (Nat×Blk)}{S:Nat→Bool}{H:List (Nat×Blk)}{x:Nat}:∀{m:Nat}{y:Blk},blk (UH up S H m) x=some y→∃z,blk H x=some z
 |0,y,h=>⟨y,h⟩
 |m+1,y,h=>by
  simp only[UH]at h;split at h
  ·split at h
   ·rename_i t b _
    rw[qq]at h;split at h
    ·rename_i e;subst e
     cases hb:blk (UH up S H m) x with
     |none=>rw[hb]at h;cases h
     |some z=>exact yE hb
    ·exact yE h
   ·exact yE h
  ·exact yE h
theorem KF{k:Nat}{nb:Nat→Option Blk}{hp:List (Nat×Blk)}{x:Nat}{y:Blk}:∀{m:Nat},blk (NH k nb hp m) x=some y→blk hp x=some y∨∃j,j<m∧nb j=some y∧x=k+j
 |0,h=>.inl h
 |m+1,h=>by
  simp only[NH]at h;cases hn:nb m with
  |none=>
   rw[hn]at h;rcases KF (m:=m) h with h|⟨j,h1,h2,h3⟩
   ·exact .inl h
   ·grind
  |some b=>
   rw[hn]at h;simp only[vz,blk]at h;split at h
   ·simp_all
   ·rcases KF (m:=m) h with h|⟨j,h1,h2,h3⟩
    ·exact .inl h
    ·grind
theorem qbu{k:Nat}{nb:Nat→Option Blk}{hp:List (Nat×Blk)}(hk:∀id x,blk hp id=some x→id<k){x:Nat}{y:Blk}(h:blk hp x=some y):∀{m:Nat},blk (NH k nb hp m) x=some y
 |0=>h
 |m+1=>by
  simp only[NH];cases hn:nb m with
  |none=>exact qbu hk h
  |some b=>
   simp only[vz,blk];rw[if_neg (by have:=hk _ _ h;omega)];exact qbu hk h
theorem ZL{k:Nat}{nb:Nat→Option Blk}{hp:List (Nat×Blk)}{j:Nat}{b:Blk}(h:nb j=some b):∀{m:Nat},j<m→blk (NH k nb hp m) (k+j)=some b
 |0,hj=>by omega
 |m+1,hj=>by
  simp only[NH];by_cases e:j=m
  ·subst e;rw[h];simp[vz,blk]
  ·cases hn:nb m with
   |none=>exact ZL h Ω
   |some c=>
    simp only[vz,blk];rw[if_neg Ω];exact ZL h Ω
theorem j7{up:Nat→Option (Nat×Blk)}{S:Nat→Bool}{H:List (Nat×Blk)}{x:Nat}:∀{m:Nat},(∀j,j<m→S j=true→∀t b,up j=some (t,b)→t≠x)→blk (UH up S H m) x=blk H x
 |0,_=>rfl
 |m+1,h=>by
  have ih:=j7 (up:=up) (S:=S) (H:=H) (x:=x) (m:=m) λj hj=>h j Ω;simp only[UH];split
  ·rename_i hS
   split
   ·rename_i t b hu
    rw[qq,if_neg (λe=>h m Ω hS t b hu e.symm)];exact ih
   ·exact ih
  ·exact ih
theorem w6{up:Nat→Option (Nat×Blk)}{S T:Nat→Bool}{H:List (Nat×Blk)}:∀{m:Nat},(∀j,j<m→up j≠none→S j=T j)→UH up S H m=UH up T H m
 |0,_=>rfl
 |m+1,h=>by
  have ih:=w6 (up:=up) (S:=S) (T:=T) (H:=H) (m:=m) λj hj=>h j Ω;simp only[UH];cases hu:up m with
  |none=>simp only[ih,ite_self]
  |some p=>
   simp_all
theorem KG{up:Nat→Option (Nat×Blk)}{S:Nat→Bool}{H:List (Nat×Blk)}{i:Nat}:∀{m:Nat},i≤m→(∀j,i≤j→j<m→up j≠none→S j=false)→UH up S H m=UH up S H i
 |0,hi,_=>by have:i=0:=by omega
             subst this;rfl
 |m+1,hi,h=>by
  by_cases e:i=m+1
  ·subst e;rfl
  ·have ih:=KG (up:=up) (S:=S) (H:=H) (i:=i) (m:=m) Ω λj h1 h2=>h j h1 Ω
   simp only[UH];cases hu:up m with
   |none=>simp only[ih,ite_self]
   |some p=>
    grind
theorem qda{up:Nat→Option (Nat×Blk)}(hi:i≤n)(h:∀j,j<n→up j≠none→(S j=true↔j<i)):UH up S H n=UH up (λ_=>true) H i:=by
 rw[KG hi λj h1 h2 h3=>by
  cases hS:S j with
  |false=>rfl
  |true=>have:=(h j h2 h3).1 hS;omega]
 exact w6 λj hj hu=>(h j Ω hu).2 hj
theorem V2{up:Nat→Option (Nat×Blk)}{S:Nat→Bool}{H:List (Nat×Blk)}{i X:Nat}:∀{n:Nat},i≤n→(∀j,j<n→∀b,up j=some (X,b)→(S j=true↔j<i))→blk (UH up S H n) X=blk (UH up (λ_=>true) H i) X
 |0,hi,h=>by
  have:i=0:=by omega
  subst this;rfl
 |n+1,hi,h=>by
  by_cases e:i=n+1
  ·subst e
   have key:∀m,m≤n+1→blk (UH up S H m) X=blk (UH up (λ_=>true) H m) X:=by
    intro m
    induction m with
    |zero=>intro _;rfl
    |succ m ih=>
     intro hm;have ih:=ih Ω;simp only[UH,if_true];cases hu:up m with
     |none=>simp only[ite_self];exact ih
     |some p=>
      obtain⟨t,b⟩:=p;by_cases et:X=t
      ·subst et
       rw[if_pos ((h m Ω b hu).2 Ω)];simp only[qq,if_true,ih]
      ·split
       ·simp only[qq,if_neg et,ih]
       ·simp only[qq,if_neg et,ih]
   simp_all
  ·have ih:=V2 (up:=up) (S:=S) (H:=H) (i:=i) (X:=X) (n:=n) Ω λj hj=>h j Ω
   simp only[UH];split
   ·rename_i hS
    split
    ·rename_i t b hu
     rw[qq,if_neg ?_]
     ·exact ih
     ·grind
    ·exact ih
   ·exact ih
theorem qhh{up:Nat→Option (Nat×Blk)}{S':Nat→Bool}{t:Nat}(hS:∀j,S' j=(S j || decide (j=i)))(hi:i<n)(hu:up i=some (t,b))(h:∀j,j<n→up j≠none→(S j=true↔j<i)) :
  UH up S' H n=setBlk (UH up S H n) t b:=by
 rw[qda (i:=i+1) Ω (λj hj hj'=>by
  rw[hS];simp only[xe8,decide_eq_true_eq,h j hj hj'];omega),qda (i:=i) Ω h]
 simp only[UH,if_true,hu]
theorem yF{up:Nat→Option (Nat×Blk)}{S':Nat→Bool}(hS:∀j,S' j=(S j || decide (j=i)))(hu:up i=none):UH up S' H n=UH up S H n:=
 w6 λj hj hj'=>by
  rw[hS];have:j≠i:=λe=>hj' (e▸hu);simp[this]
end Go.Sx
end
section
namespace Go.Sx
open Go.RowKit
variable{s x:Tmp}{hp hp':List (Nat×Blk)}{op:Op}{F:Nat→SV}{w:World}{a:Act}{ro:Option Nat}{ops:Array Oper}{st:St}{K:St→Prop}
def jn:Op→Bool
 |.call ⟨.builtin .append,_,_⟩=>true
 |_=>false
def zB:Op→Option (Tmp×Tmp)
 |.call ⟨.builtin .append,args,_⟩=>match args.toList with
  |[.tmp s,.tmp x]=>some (s,x)
  |_=>none
 |_=>none
def qlj(far:List (Nat×Nat))(ds:List (Option Tmp))(i j a c:Nat):Prop:=(a,c)∈far∧zi ds i a=true∧zi ds j c=true
def qnG(far:List (Nat×Nat))(ds:List (Option Tmp))(i j:Nat)(oi oj:Oper):Prop:=
 (jn oj.op=false∧¬(jn oi.op=true∧qL oj.op=true))∨
 (jn oj.op=true∧qL oi.op=false∧∃s x,zB oj.op=some (s,x)∧((∃t a,oi.op=.load t (.tmp a)∧qlj far ds i j a s)∨(∃s' x',zB oi.op=some (s',x')∧qlj far ds i j s' s∧qlj far ds i j x' s)∨(jl oi.op=false∧jn oi.op=false)))
def vt:SV→Option Nat
 |.ptr id _=>some id
 |.elt id _ _ _=>some id
 |.vec id _ _=>some id
 |.cut id _ _=>some id
 |.asl id _ _ _=>some id
 |.que id _ _ _=>some id
 |_=>none
theorem qlk{s:SV}{id:Nat}(h:qT s=some id):vt s=some id:=by cases s<;>first|exact h|(cases h;done)
def ZM(s s':SV):Prop:=match vt s,vt s' with
 |some i,some j=>i≠j
 |_,_=>True
def qdb:List (Nat×Nat)→St→Prop→Prop
 |[],_,X=>X
 |(a,b) :: l,st,X=>ZM (look st.fr a) (look st.fr b)∧qdb l st X
theorem Gu{x:SV}(h:∀id y,vt x=some id→blk hp id=some y→blk hp' id=some y)(hne:rowsOf hp x≠none):rowsOf hp' x=rowsOf hp x:=by
 unfold rowsOf at hne ⊢;cases x with
 |vec id n k=>
  simp only[]at hne ⊢;cases hb:blk hp id with
  |none=>rw[hb]at hne;exact absurd rfl hne
  |some y=>rw[h id y rfl hb]
 |cut id n k=>
  simp only[]at hne ⊢;cases hb:blk hp id with
  |none=>rw[hb]at hne;exact absurd rfl hne
  |some y=>rw[h id y rfl hb]
 |asl id off n k=>
  simp only[]at hne ⊢;cases hb:blk hp id with
  |none=>rw[hb]at hne;exact absurd rfl hne
  |some y=>rw[h id y rfl hb]
 |_=>rfl
theorem Ys{P:Program}{t:TypeId}{s x:SV}(h:∀id y,(vt s=some id∨vt x=some id)→blk hp id=some y→blk hp' id=some y)(hne:rAppend P t hp s x≠.bad):rAppend P t hp' s x=rAppend P t hp s x:=by
 have hx:rowsOf hp x≠none:=λe=>by
  unfold rAppend at hne;rw[e]at hne;refine hne ?_;split
  ·split<;>rfl
  ·rfl
 have ex:=Gu (hp':=hp') (λid y hid hy=>h id y (.inr hid) hy) hx;unfold rAppend at hne ⊢;rw[ex];split
 ·split
  ·split
   ·cases s with
    |vec id n k=>
     simp only[]at hne ⊢;cases hb:blk hp id with
     |none=>rw[hb]at hne;simp_all
     |some y=>rw[h id y (.inl rfl) hb]
    |cut id n k=>
     have es:rowsOf hp (.cut id n k)≠none:=λe=>by
      rw[e]at hne;simp_all
     rw[Gu (hp:=hp) (hp':=hp') (λid y hid hy=>h id y (.inl hid) hy) es]
    |arr o full n k row=>cases full<;>simp only[rowsOf]
    |_=>rfl
   ·rfl
  ·rfl
 ·rfl
theorem wj(h:zB op=some (s,x)):∃args ts,op=.call ⟨.builtin .append,args,ts⟩∧args.toList=[.tmp s,.tmp x]:=by
 unfold zB at h;split at h
 ·grind
 ·cases h
theorem zQ(h:zB op=some (s,x)):jn op=true:=by
 obtain⟨args,ts,rfl,_⟩:=wj h;rfl
theorem ZN(h:jn op=true):qL op=false:=by
 unfold jn at h;split at h
 ·rfl
 ·cases h
theorem Qp(h:jn op=true):kz op=false:=by
 unfold jn at h;split at h
 ·rfl
 ·cases h
theorem Yt(h:jn op=true):jl op=false:=by
 unfold jn at h;split at h
 ·rfl
 ·cases h
theorem Qq{P:Program}{hp:List (Nat×Blk)}(h:zB op=some (s,x)):(∃t,∀hp,stepR P F hp op=rAppend P t hp (F s) (F x))∨(∀hp,stepR P F hp op=.bad):=by
 obtain⟨args,ts,rfl,e⟩:=wj h;simp only[stepR,rCall,e];cases hts:ts.toList with
 |nil=>right;intro hp;simp
 |cons t l=>cases l with
  |nil=>right;intro hp;simp
  |cons t' l'=>cases l' with
   |cons _ _=>right;intro hp;simp
   |nil=>
    by_cases et:t=t'
    ·left;exact⟨t,λhp=>by simp only[et,if_true];rfl⟩
    ·simp_all
theorem Qd{P:Program}(ha:zB op=some (s,x))(h:∀id y,(vt (F s)=some id∨vt (F x)=some id)→blk hp id=some y→blk hp' id=some y)(hne:stepR P F hp op≠.bad):stepR P F hp' op=stepR P F hp op:=by
 rcases Qq (P:=P) (F:=F) (hp:=hp) ha with⟨t,e⟩|e
 ·rw[e]at hne
  rw[e,e,Ys h hne]
 ·simp_all
theorem V3{P:Program}{t:TypeId}{s x:SV}{obl:Prop}{old:Nat}{b:Blk}{mk:Nat→SV}(h:rAppend P t hp s x=.grow obl old b mk):(∃n k,s=.vec old n k)∧∃y,blk hp old=some y:=by
 unfold rAppend at h;(repeat' split at h)<;>first|(cases h;done)|skip
 simp_all
theorem Gv{P:Program}(ha:zB op=some (s,x)){obl:Prop}{old:Nat}{b:Blk}{mk:Nat→SV}(h:stepR P F hp op=.grow obl old b mk):(∃n k,F s=.vec old n k)∧∃y,blk hp old=some y:=by
 rcases Qq (P:=P) (F:=F) (hp:=hp) ha with⟨t,e⟩|e
 ·rw[e]at h;exact V3 h
 ·simp_all
theorem Gw{P:Program}(ha:zB op=some (s,x)):(∃obl b mk,stepR P F hp op=.new obl b mk)∨(∃obl old b mk,stepR P F hp op=.grow obl old b mk)∨stepR P F hp op=.bad:=by
 rcases Qq (P:=P) (F:=F) (hp:=hp) ha with⟨t,e⟩|e
 ·rw[e];exact jG _ _ _
 ·simp_all
def Qe(d:Option Nat)(hp:List (Nat×Blk)):List (Nat×Blk):=match d with|some x=>dropBlk hp x|none=>hp
def TG(k:Nat)(nb:Nat→Option Blk)(up:Nat→Option (Nat×Blk))(dr:Nat→Option Nat)(hp:List (Nat×Blk)):Nat→List (Nat×Blk)
 |0=>hp
 |i+1=>match up i with
  |some (t,b)=>setBlk (TG k nb up dr hp i) t b
  |none=>vz (nb i) (k+i) (Qe (dr i) (TG k nb up dr hp i))
def DH(dr:Nat→Option Nat)(S:Nat→Bool)(hp:List (Nat×Blk)):Nat→List (Nat×Blk)
 |0=>hp
 |m+1=>if S m=true then Qe (dr m) (DH dr S hp m)else DH dr S hp m
theorem vA(d:Option Nat)(hp:List (Nat×Blk))(x:Nat):blk (Qe d hp) x=if d=some x then none else blk hp x:=by
 cases d with
 |none=>simp[Qe]
 |some y=>
  simp only[Qe,qv,Option.some.injEq];by_cases e:x=y
  ·subst e;simp
  ·grind
theorem gE{dr:Nat→Option Nat}{S:Nat→Bool}{hp:List (Nat×Blk)}{x:Nat}:∀{m:Nat},(∀j,j<m→S j=true→dr j≠some x)→blk (DH dr S hp m) x=blk hp x
 |0,_=>rfl
 |m+1,h=>by
  have ih:=gE (dr:=dr) (S:=S) (hp:=hp) (x:=x) (m:=m) λj hj=>h j Ω;simp only[DH];split
  ·rename_i hS
   rw[vA,if_neg (h m Ω hS)];exact ih
  ·exact ih
theorem QY{dr:Nat→Option Nat}{S:Nat→Bool}{hp:List (Nat×Blk)}{x:Nat}{y:Blk}:∀{m:Nat},blk (DH dr S hp m) x=some y→blk hp x=some y∧∀j,j<m→S j=true→dr j≠some x
 |0,h=>⟨h,λj hj=>by omega⟩
 |m+1,h=>by
  simp only[DH]at h;split at h
  ·rename_i hS
   rw[vA]at h;split at h
   ·cases h
   ·rename_i hd
    obtain⟨h1,h2⟩:=QY h;refine⟨h1,λj hj hSj=>?_⟩;by_cases e:j=m
    ·subst e;exact hd
    ·grind
  ·rename_i hS
   obtain⟨h1,h2⟩:=QY h;refine⟨h1,λj hj hSj=>?_⟩;by_cases e:j=m
   ·simp_all
   ·grind
theorem V4{dr:Nat→Option Nat}{S:Nat→Bool}{x j m:Nat}(hj:j<m)(hS:S j=true)(hd:dr j=some x):blk (DH dr S hp m) x=none:=by
 cases h:blk (DH dr S hp m) x with
 |none=>rfl
 |some y=>exact absurd hd ((QY h).2 j hj hS)
theorem Gx{dr:Nat→Option Nat}{S T:Nat→Bool}{hp:List (Nat×Blk)}:∀{m:Nat},(∀j,j<m→dr j≠none→S j=T j)→DH dr S hp m=DH dr T hp m
 |0,_=>rfl
 |m+1,h=>by
  have ih:=Gx (dr:=dr) (S:=S) (T:=T) (hp:=hp) (m:=m) λj hj=>h j Ω;simp only[DH];cases hu:dr m with
  |none=>simp only[Qe,ih,ite_self]
  |some p=>rw[h m Ω (by rw[hu];simp),ih]
theorem qhi(k:Nat)(nb:Nat→Option Blk)(up:Nat→Option (Nat×Blk))(dr:Nat→Option Nat)(hp:List (Nat×Blk))(j:Nat) :
  TG (k+1) (λi=>nb (i+1)) (λi=>up (i+1)) (λi=>dr (i+1)) (TG k nb up dr hp 1) j=TG k nb up dr hp (j+1):=by
 induction j with
 |zero=>rfl
 |succ j ih=>
  have e:k+1+j=k+(j+1):=by omega
  have r1:TG (k+1) (λi=>nb (i+1)) (λi=>up (i+1)) (λi=>dr (i+1)) (TG k nb up dr hp 1) (j+1)=match up (j+1)with
   |some (t,b)=>setBlk (TG (k+1) (λi=>nb (i+1)) (λi=>up (i+1)) (λi=>dr (i+1)) (TG k nb up dr hp 1) j) t b
   |none=>vz (nb (j+1)) (k+1+j) (Qe (dr (j+1)) (TG (k+1) (λi=>nb (i+1)) (λi=>up (i+1)) (λi=>dr (i+1)) (TG k nb up dr hp 1) j)):=rfl
  rw[r1,ih,e];rfl
inductive Kw(P:Program)(ds:List (Option Tmp))(F:Nat→SV)(hp:List (Nat×Blk))(id:Nat)(o:Oper):SV→Option Blk→Option (Nat×Blk)→Option Nat→Prop
 |skip (hg:j6 ds o.guard F=some false):Kw P ds F hp id o undefSV none none none
 |run (sv:SV) (nb:Option Blk) (hg:j6 ds o.guard F=some true) (hc:kz o.op=true) (hr:Gl P F hp id o sv nb):Kw P ds F hp id o sv nb none none
 |upd (obl:Prop) (t:Nat) (b:Blk) (hg:j6 ds o.guard F=some true) (h:stepR P F hp o.op=.upd obl t b) (ho:obl):Kw P ds F hp id o undefSV none (some (t,b)) none
 |newA (obl:Prop) (b:Blk) (mk:Nat→SV) (hg:j6 ds o.guard F=some true) (ha:(zB o.op).isSome=true) (h:stepR P F hp o.op=.new obl b mk) (ho:obl):Kw P ds F hp id o (mk id) (some b) none none
 |grow (obl:Prop) (old:Nat) (b:Blk) (mk:Nat→SV) (hg:j6 ds o.guard F=some true) (ha:(zB o.op).isSome=true) (h:stepR P F hp o.op=.grow obl old b mk) (ho:obl):Kw P ds F hp id o (mk id) (some b) none (some old)
theorem Gy{P:Program}{O:Ctx}{J:Prop}{ds:List (Option Tmp)}{K:St→Prop}{tail:List Oper}:∀(ops:List Oper)(i:Nat)(st:St),(∀o∈ops,(kz o.op || qL o.op ||(zB o.op).isSome)=true)→(J→∀o∈ops,g6 o.op=false)→zc P O J ds (ops++tail) i st K→
  ∃(res:Nat→SV)(nb:Nat→Option Blk)(up:Nat→Option (Nat×Blk))(dr:Nat→Option Nat)(st':St),
   (∀j o,ops[j]? = some o→Kw P ds (FS (nth (dsts ops)) res (λ_=>true) (look st.fr) j) (TG (st.nid+i) nb up dr st.hp j) (st.nid+i+j) o (res j) (nb j) (up j) (dr j))∧
   look st'.fr=FS (nth (dsts ops)) res (λ_=>true) (look st.fr) ops.length∧st'.hp=TG (st.nid+i) nb up dr st.hp ops.length∧st'.nid=st.nid∧zc P O J ds tail (i+ops.length) st' K
 |[],i,st,_,_,h=>⟨λ_=>.top,λ_=>none,λ_=>none,λ_=>none,st,λj o ho=>by simp at ho,rfl,rfl,rfl,h⟩
 |o :: ops,i,st,hall,hJ,h=>by
  have hlen:i+(o :: ops).length=(i+1)+ops.length:=by simp;omega
  rw[hlen];have go:∀(st2:St)(sv:SV)(b:Option Blk)(u:Option (Nat×Blk))(d:Option Nat),Kw P ds (look st.fr) st.hp (st.nid+i) o sv b u d→st2.nid=st.nid→st2.hp=(match u with|some (t,x)=>setBlk st.hp t x|none=>vz b (st.nid+i) (Qe d st.hp))→look st2.fr=qhb (look st.fr) o.dst sv→zc P O J ds (ops++tail) (i+1) st2 K→
    ∃(res:Nat→SV)(nb:Nat→Option Blk)(up:Nat→Option (Nat×Blk))(dr:Nat→Option Nat)(st':St),
     (∀j o',(o :: ops)[j]? = some o'→Kw P ds (FS (nth (dsts (o :: ops))) res (λ_=>true) (look st.fr) j) (TG (st.nid+i) nb up dr st.hp j) (st.nid+i+j) o' (res j) (nb j) (up j) (dr j))∧
     look st'.fr=FS (nth (dsts (o :: ops))) res (λ_=>true) (look st.fr) (o :: ops).length∧st'.hp=TG (st.nid+i) nb up dr st.hp (o :: ops).length∧st'.nid=st.nid∧zc P O J ds tail ((i+1)+ops.length) st' K:=by
   intro st2 sv b u d hr h1 h2 h3 h4;obtain⟨res,nb,up,dr,st',ha,hf,hh,hn,hk⟩:=Gy ops (i+1) st2 (λo ho=>hall o (List.mem_cons_of_mem _ ho)) (λj o ho=>hJ j o (List.mem_cons_of_mem _ ho)) h4
   let res':Nat→SV:=λj=>match j with|0=>sv|j+1=>res j
   let nb':Nat→Option Blk:=λj=>match j with|0=>b|j+1=>nb j
   let up':Nat→Option (Nat×Blk):=λj=>match j with|0=>u|j+1=>up j
   let dr':Nat→Option Nat:=λj=>match j with|0=>d|j+1=>dr j
   have eF:∀j,FS (nth (dsts ops)) res (λ_=>true) (look st2.fr) j=FS (nth (dsts (o :: ops))) res' (λ_=>true) (look st.fr) (j+1):=λj=>by
    rw[←qhd,h3]
    congr 1
    funext t;simp[qhb,nth,dsts,res']
   have e1:TG (st.nid+i) nb' up' dr' st.hp 1=st2.hp:=by rw[h2];rfl
   have eH:∀j,TG (st2.nid+(i+1)) nb up dr st2.hp j=TG (st.nid+i) nb' up' dr' st.hp (j+1):=λj=>by
    rw[←qhi,e1,h1];rfl
   refine⟨res',nb',up',dr',st',λj o' ho=>?_,?_,?_,hn.trans h1,hk⟩
   ·cases j with
    |zero=>simp at ho;subst ho;exact hr
    |succ j=>
     grind
   ·rw[hf,eF];rfl
   ·rw[hh,eH];rfl
  obtain⟨st1,hn,hh,hl,hcase⟩:=JA h;have hst1:st1=⟨st1.fr,st1.hp,st1.nid⟩:=rfl;have ho:=hall o xd5;rcases hcase with⟨hg,hrun⟩|⟨hg,hskip⟩
  ·generalize hres:stepR P (look st1.fr) st1.hp o.op=res at hrun
   rw[hl,hh]at hres;by_cases hu:qL o.op=true
   ·rcases Yr (P:=P) (F:=look st.fr) (hp:=st.hp) hu with⟨obl,j,b,e⟩|e
    ·rw[hres]at e
     subst e;exact go _ undefSV none (some (j,b)) none (.upd obl j b hg hres hrun.1) Ωy (by rw[zo,hh]) (by rw[zU,hl]) hrun.2
    ·rw[hres]at e
     subst e;exact hrun.elim
   ·by_cases hap:(zB o.op).isSome=true
    ·obtain⟨⟨s,x⟩,hsx⟩:=Option.isSome_iff_exists.1 hap
     rcases Gw (P:=P) (F:=look st.fr) (hp:=st.hp) hsx with⟨obl,b,mk,e⟩|⟨obl,old,b,mk,e⟩|e
     ·rw[hres]at e
      subst e;exact go _ (mk (st.nid+i)) (some b) none none (.newA obl b mk hg hap hres hrun.1) Ωy ΩY (by rw[zU,hl,hn]) hrun.2
     ·rw[hres]at e
      subst e;exact go _ (mk (st.nid+i)) (some b) none (some old) (.grow obl old b mk hg hap hres hrun.1.1) Ωy ΩY (by rw[zU,hl,hn]) hrun.2
     ·rw[hres]at e
      subst e;exact hrun.elim
    have hc:kz o.op=true:=by
     rw[xe8,xe8]at ho;exact(ho.resolve_right hap).resolve_right hu
    have hq:=qbr (P:=P) (F:=look st.fr) (hp:=st.hp) hc;rw[hres]at hq;cases res with
    |bad=>exact hrun.elim
    |pure obl sv=>exact go _ sv none none none (.run _ _ hg hc (.pure obl sv hres hrun.1)) (by rw[qz,hn]) (by rw[zo,hh];rfl) (by rw[hst1,zU,hl]) hrun.2
    |ex obl=>
     obtain⟨sv,ho,hk⟩:=hrun;exact go _ sv none none none (.run _ _ hg hc (.ex obl sv hres ho)) (by rw[qz,hn]) (by rw[zo,hh];rfl) (by rw[hst1,zU,hl]) hk
    |new obl b mk=>exact go _ (mk (st.nid+i)) (some b) none none (.run _ _ hg hc (.new obl b mk hres hrun.1)) Ωy ΩY (by rw[zU,hl,hn]) hrun.2
    |upd obl j b=>cases hq
    |updv obl j b sv=>cases hq
    |grow obl j b sv=>cases hq
    |call f args=>
     rcases hrun with⟨res,hcc,hk⟩|⟨pats,b,res,hcc,hs,hk⟩|⟨hj,_⟩
     ·rw[hh]at hcc
      exact go _ res none none none (.run _ _ hg hc (.call f args res hres hcc)) (by rw[qz,hn]) (by rw[zo,hh];rfl) (by rw[hst1,zU,hl]) hk
     ·rw[hh]at hs
      exact go _ (setId (st.nid+i) res) (some b) none none (.run _ _ hg hc (.callN f args pats b res hres hcc hs)) Ωy ΩY (by rw[zU,hl,hn]) hk
     ·have:=hJ hj o xd5
      rw[JB hres]at this;cases this
    |yield y args=>
     have:=hJ hrun.1 o xd5;rw[Gm hres]at this;cases this
    |raw=>rw[VX hres]at hc;cases hc
  ·exact go _ undefSV none none none (.skip hg) (by rw[qz,hn]) (by rw[zo,hh];rfl) (by rw[hst1,zU,hl]) hskip
theorem QZ{P:Program}{ds:List (Option Tmp)}{id:Nat}{o:Oper}{sv:SV}{nb:Option Blk}{up:Option (Nat×Blk)}{dr:Option Nat}(h:Kw P ds F hp id o sv nb up dr) :
  (up=none∨(nb=none∧qL o.op=true∧dr=none))∧(∀t b,up=some (t,b)→∃y,blk hp t=some y)∧∀t,dr=some t→∃s x n k,zB o.op=some (s,x)∧F s=.vec t n k∧∃y,blk hp t=some y:=by
 cases h with
 |skip hg=>exact⟨.inl rfl,λt b h=>(by cases h),λt h=>(by cases h)⟩
 |run hg hc hr=>exact⟨.inl rfl,λt b h=>(by cases h),λt h=>(by cases h)⟩
 |upd obl t b hg h ho=>exact⟨.inr ⟨rfl,yD h,rfl⟩,λt' b' e=>(by cases e;exact JC h),λt h=>(by cases h)⟩
 |newA obl b mk hg ha h ho=>exact⟨.inl rfl,λt b h=>(by cases h),λt h=>(by cases h)⟩
 |grow obl old b mk hg ha h ho=>
  obtain⟨⟨s,x⟩,hsx⟩:=Option.isSome_iff_exists.1 ha;refine⟨.inl rfl,λt b h=>(by cases h),λt e=>?_⟩;cases e;obtain⟨⟨n,k,e⟩,y⟩:=Gv hsx h
  simp_all
theorem Q0{k:Nat}{nb:Nat→Option Blk}{up:Nat→Option (Nat×Blk)}{dr:Nat→Option Nat}{hp:List (Nat×Blk)}(hk:∀id x,blk hp id=some x→id<k):∀{i:Nat}{x:Nat}{y:Blk},blk (TG k nb up dr hp i) x=some y→x<k+i
 |0,x,y,h=>hk x y h
 |i+1,x,y,h=>by
  simp only[TG]at h;split at h
  ·rw[qq]at h
   split at h
   ·rename_i e;subst e
    cases hb:blk (TG k nb up dr hp i) x with
    |none=>rw[hb]at h;cases h
    |some z=>have:=Q0 hk hb;omega
   ·have:=Q0 hk h;omega
  ·cases hn:nb i with
   |none=>
    rw[hn]at h;simp only[vz,vA]at h;split at h
    ·cases h
    ·have:=Q0 hk (i:=i) h;omega
   |some b=>
    rw[hn]at h;simp only[vz,blk]at h;split at h
    ·omega
    ·rw[vA]at h
     split at h
     ·cases h
     ·have:=Q0 hk (i:=i) h;omega
theorem qhj{P:Program}{ds:List (Option Tmp)}{F:Nat→Nat→SV}{n:Nat}{res:Nat→SV}{nb:Nat→Option Blk}{up:Nat→Option (Nat×Blk)}{dr:Nat→Option Nat}{hp:List (Nat×Blk)}{k:Nat}(hk:∀id x,blk hp id=some x→id<k)
  (h:∀j,j<n→∃o,Kw P ds (F j) (TG k nb up dr hp j) (k+j) o (res j) (nb j) (up j) (dr j)):∀{i:Nat},i≤n→∀{x:Nat}{y:Blk},blk (TG k nb up dr hp i) x=some y→blk (UH up (λ_=>true) (NH k nb hp n) i) x=some y∧∀j,j<i→dr j≠some x
 |0,hi,x,y,hx=>⟨qbu hk hx,λj hj=>by omega⟩
 |i+1,hi,x,y,hx=>by
  have keys:∀{i:Nat}{x:Nat}{y:Blk},blk (TG k nb up dr hp i) x=some y→x<k+i:=λ{i x y}=>Q0 hk;have ih:=λ{x:Nat}{y:Blk}=>qhj hk h (i:=i) Ω (x:=x) (y:=y);obtain⟨o,ho⟩:=h i hi;obtain⟨h1,h2,h3⟩:=QZ ho;simp only[TG]at hx;simp only[UH,if_true];cases hu:up i with
  |some p=>
   obtain⟨t,b⟩:=p;rw[hu]at hx;have hdn:dr i=none:=by
    rcases h1 with e|⟨_,_,e⟩
    ·simp_all
    ·exact e
   have hlast:∀z,blk (TG k nb up dr hp i) x=some z→∀j,j<i+1→dr j≠some x:=λz hz j hj=>by
    by_cases e:j=i
    ·simp_all
    ·grind
   simp only[qq]at hx ⊢;split at hx
   ·grind
   ·simp_all
  |none=>
   rw[hu]at hx;dsimp only at hx ⊢;have old:∀y,blk (Qe (dr i) (TG k nb up dr hp i)) x=some y→blk (UH up (λ_=>true) (NH k nb hp n) i) x=some y∧∀j,j<i+1→dr j≠some x:=λy hy=>by
    rw[vA]at hy;split at hy
    ·cases hy
    ·grind
   cases hn:nb i with
   |none=>rw[hn]at hx;exact old y hx
   |some b=>
    rw[hn]at hx;simp only[vz,blk]at hx;split at hx
    ·rename_i e
     subst e;refine⟨?_,λj hj hd=>?_⟩
     ·rw[j7 λj hj _ t c hjc=>?_,ZL hn Ω,hx]
      obtain⟨oj,hoj⟩:=h j Ω;obtain⟨z,hz⟩:=(QZ hoj).2.1 t c hjc
      grind
     ·obtain⟨oj,hoj⟩:=h j Ω
      obtain⟨_,_,_,_,_,_,z,hz⟩:=(QZ hoj).2.2 _ hd
      grind
    ·exact old y hx
def qpY(far:List (Nat×Nat))(ds:List (Option Tmp))(i j:Nat)(oi oj:Oper):Prop:=
 (¬(qL oi.op=true∧qL oj.op=true)∧¬(jl oi.op=true∧qL oj.op=true)∧¬(qL oi.op=true∧jl oj.op=true))∨qon far ds i j oi oj
section
variable{P:Program}{O:Ctx}{outs:jj}{base:World}{okc:Nat→Prop}{ns:Nat}
theorem Sat.fewer{N:Nat→Prop}{r:Nat→Option Nat}(hst:Sat base okc r N hp w)(hback:∀x y,blk hp' x=some y→N x→blk hp x=some y):Step base okc r N hp w r N hp' w:=by
 have hG:∀o c,Gd base okc r N hp w o c→Gd base okc r N hp' w o c∧w.heap[c]? = w.heap[c]?:=
  λo c ⟨h1,h2,h3⟩=>⟨⟨h1,λi y hy hi=>h2 i y (hback i y hy hi) hi,h3⟩,rfl⟩
 exact⟨⟨hst.below,λi y hy hi=>(hst.rep i y (hback i y hy hi) hi).mono (λ_ _=>rfl) (λ_ h=>h) hG (Shapes.refl _) (λ_ _=>rfl),
  λi y b hy hi=>hst.own i y b (hback i y hy hi) hi,λi y i' y' b hy hi hy' hi'=>hst.inj i y i' y' b (hback i y hy hi) hi (hback i' y' hy' hi') hi'⟩,λ_ _=>rfl,λ_ h=>h,hG,Shapes.refl _⟩
def qll(O:Ctx)(outs:jj)(base:World)(okc:Nat→Prop)(ns nid m:Nat)(H:List (Nat×Blk))(up:Nat→Option (Nat×Blk))(dr:Nat→Option Nat)(dst:Nat→Option Tmp)(res:Nat→SV)(F:Nat→SV)(S:Nat→Bool)(a:Act)(w:World):Prop:=
 (∀j,j<m→S j=true→∀t b,up j=some (t,b)→NS nid m S t)∧(∀j,j<m→S j=true→∀t,dr j=some t→NS nid m S t)∧
 ∃r,Sat base okc r (NS nid m S) (DH dr S (UH up S H m) m) w∧(∀t,Rep r (NS nid m S) (Gd base okc r (NS nid m S) (DH dr S (UH up S H m) m) w) w (FS dst res S F m t) (a.tmps.getD t undef))∧a.tmps.size=ns∧Ext O base okc r (NS nid m S) (DH dr S (UH up S H m) m) outs a w
theorem qhk{nid m i:Nat}{H:List (Nat×Blk)}{up:Nat→Option (Nat×Blk)}{dr:Nat→Option Nat}{dst:Nat→Option Tmp}{res:Nat→SV}{S S':Nat→Bool}{w':World}{r r':Nat→Option Nat}(hS:∀j,S' j=(S j || decide (j=i)))(hi:i<m)
  (hlater:∀t,dst i=some t→∀j,j<m→i<j→dst j=some t→S j=false)
  (hF:∀t,Rep r (NS nid m S) (Gd base okc r (NS nid m S) (DH dr S (UH up S H m) m) w) w (FS dst res S F m t) (a.tmps.getD t undef)) (hsize:a.tmps.size=ns) (hdef:Ext O base okc r (NS nid m S) (DH dr S (UH up S H m) m) outs a w) (hlo:O.lo≤nid) (hd:∀t,dst i=some t→t<ns)
  (hu:∀j,j<m→S' j=true→∀t b,up j=some (t,b)→NS nid m S' t)
  (hdr:∀j,j<m→S' j=true→∀t,dr j=some t→NS nid m S' t)
  (hs:Step base okc r (NS nid m S) (DH dr S (UH up S H m) m) w r' (NS nid m S') (DH dr S' (UH up S' H m) m) w') {v:Value} (hv:Rep r' (NS nid m S') (Gd base okc r' (NS nid m S') (DH dr S' (UH up S' H m) m) w') w' (res i) v):qll O outs base okc ns nid m H up dr dst res F S' (a.put (dst i) v) w':=by
 refine⟨hu,hdr,r',hs.sat,λt=>?_,by cases dst i<;>simp[Act.put,hsize],hdef.step hs (λi hi=>.inl (xa9 hi hlo)) _ _⟩;rw[VY hS hi (hlater t),Ym];by_cases e:dst i=some t
 ·simp_all
 ·rw[if_neg e,if_neg (λh=>e h.1)];exact hs.rep (hF t)
theorem Yu{far:List (Nat×Nat)}{id:Nat}{Q:Exit→Act→World→Prop}{J:Prop}{a:Act}{l:List Oper}(hm:P.follows .mixedOrders=true)(hl:ops.toList=l)(m:Nat)(hml:m≤l.length)(hedge:k9 0 l=true)(hapart:yC (dsts l) (zh [] l) l=true)
  (hpair:∀i j oi oj,l[i]? = some oi→l[j]? = some oj→i<j→j<m→((zh [] l).getD j 0).testBit i=true∨qpY far (dsts l) i j oi oj∧qnG far (dsts l) i j oi oj)
  (hall:∀o∈l.take m,(kz o.op || qL o.op ||(zB o.op).isSome)=true) (hJ:J→∀o∈l.take m,g6 o.op=false) (htail:∀j,j<l.length→m≤j→(zh [] l).getD j 0=2^j - 1)
  (hfar:∀st1,zc P O J (dsts l) (l.drop m) m st1 K→∀a b,(a,b)∈far→vi (look st1.fr a) (look st1.fr b)∧((∃o∈l,jn o.op=true)→ZM (look st1.fr a) (look st1.fr b)))
  (hd:l.all (jk ns)=true) (h:Inv O base okc ns st.nid outs st a w) (hk:zc P O J (dsts l) l 0 st K)
  (hK:∀st' a' w',K st'→Inv O base okc ns (st'.nid+l.length) outs st' a' w'→Q .normal a' w'):(Code.region id ops true).wpIn (FR ro) 0 P Q a w:=by
 obtain⟨r0,h0⟩:=h;obtain⟨res,nb,up,dr,st1,hops,hF1,hh1,hn1,hk1⟩:=Gy (l.take m) 0 st hall hJ (by rw[List.take_append_drop];exact hk);have hlm:(l.take m).length=m:=by simp;omega
 have hdm:∀n,n≤m→FS (nth (dsts (l.take m))) res (λ_=>true) (look st.fr) n=FS (nth (dsts l)) res (λ_=>true) (look st.fr) n:=λn hn=>Yn λj hj=>qfw l m j Ω;rw[hlm,hdm m (xa5 _)]at hF1;rw[hlm,xb1]at hh1;rw[hlm,xb0]at hk1;have hops:∀j o,j<m→l[j]? = some o→Kw P (dsts l) (FS (nth (dsts l)) res (λ_=>true) (look st.fr) j) (TG st.nid nb up dr st.hp j) (st.nid+j) o (res j) (nb j) (up j) (dr j):=λj o hj ho=>by
  grind
 have hfar:=hfar st1 hk1;have hsome:∀j,j<m→∃o,l[j]? = some o:=λj hj=>⟨l[j],by simp[show j<l.length by omega]⟩;have hdl:(dsts l).length=l.length:=by
  have:∀l:List Oper,(dsts l).length=l.length:=λl=>by induction l<;>simp[dsts, *]
  exact this l
 have hkeys0:=h0.keys;have hsubT:=λ{i:Nat}(hi:i≤m){x:Nat}{y:Blk}=>qhj hkeys0 (λj hj=>(hsome j hj).imp λo ho=>hops j o hj ho) (i:=i) hi (x:=x) (y:=y);generalize hH:NH st.nid nb st.hp m=H at hsubT;have hHk:∀x y,blk H x=some y→x<st.nid∨∃j,j<m∧nb j=some y∧x=st.nid+j:=λx y hxy=>by
  rw[←hH]at hxy;exact(KF hxy).imp (hkeys0 _ _) λh=>h
 have hdst:∀i o,l[i]? = some o→nth (dsts l) i=o.dst:=λi o ho=>by rw[zA,ho];rfl
 have hdin:∀i t,nth (dsts l) i=some t→t<ns:=λi t ht=>by
  rw[zA]at ht;cases ho:l[i]? with
  |none=>simp[ho]at ht
  |some o=>
   simp only[ho,Option.bind_some]at ht;have:=List.all_eq_true.1 hd o (List.mem_of_getElem? ho);simpa[jk,ht]using this
 have hlast:∀{i t k},zi (dsts l) i t=true→i≤k→k≤m→FS (nth (dsts l)) res (λ_=>true) (look st.fr) m t=FS (nth (dsts l)) res (λ_=>true) (look st.fr) k t:=λh hik hk=>jI hk λj hj hkj=>qS h Ω Ω;have conv:∀S a w,(∀i,S i=decide (i<m))→qll O outs base okc ns st.nid m H up dr (nth (dsts l)) res (look st.fr) S a w→Inv O base okc ns (st1.nid+m) outs st1 a w:=by
  rintro S a w hS ⟨_,_,r,hsat,hrep,hsize,hdef⟩;have hall:∀i,i<m→S i=true:=λi hi=>by rw[hS];simpa using hi
  have e1:NS st.nid m S=(· < st.nid+m):=by
   funext x;simp only[NS,eq_iff_iff];constructor
   ·omega
   ·intro h
    by_cases hx:x<st.nid
    ·exact .inl hx
    ·exact .inr ⟨x - st.nid,Ω,hall _ Ω,Ω⟩
  have e2:UH up S H m=UH up (λ_=>true) H m:=w6 λj hj _=>hall j hj;have e3:DH dr S (UH up (λ_=>true) H m) m=DH dr (λ_=>true) (UH up (λ_=>true) H m) m:=Gx λj hj _=>hall j hj;rw[e1,e2,e3]at hsat hrep hdef;have hs2:=hsat.fewer (hp':=st1.hp) λx y hy _=>by
   rw[hh1]at hy;obtain⟨q1,q2⟩:=hsubT (xa5 _) hy;rw[gE λj hj _=>q2 j hj];exact q1
  have hdef2:=hdef.step0 hs2 (λi hi=>xa9 hi (xc1 h0.lo Ω));rw[hn1];refine⟨r,hs2.sat,λx y hy=>?_,λt=>?_,hsize,xc1 h0.lo Ω,hdef2.out,hdef2.rfix,hdef2.defers⟩
  ·rw[hh1]at hy
   obtain⟨z,hz⟩:=yE (hsubT (xa5 _) hy).1
   grind
  ·have:=hs2.rep (hrep t)
   rw[hF1,←Gn (S:=S) (xa5 _) λj hj _=>by simp only[hj,iff_true];exact hall j hj];exact this
 refine qhf hm hl hedge (λS a w=>((∀i,m≤i→S i=false)∧qll O outs base okc ns st.nid m H up dr (nth (dsts l)) res (look st.fr) S a w)∨∃j stj,m≤j∧j≤l.length∧(∀i,S i=decide (i<j))∧Inv O base okc ns (stj.nid+j) outs stj a w∧zc P O J (dsts l) (l.drop j) j stj K) (.inl ⟨λ_ _=>rfl,?_⟩) (λS a w hS hI=>?_) λS S' i o a w hS hC ho hif hB hI K' hK'=>?_
 ·have hN:NS st.nid m (λ_=>false)=(· < st.nid):=by
   funext x;simp[NS]
  have hU:UH up (λ_=>false) H m=H:=KG (i:=0) (xb6 _) λj _ _ _=>rfl;have hD:DH dr (λ_=>false) H m=H:=by
   clear hk1;generalize m=n
   induction n with
   |zero=>rfl
   |succ n ih=>exact ih
  have hdrew:Below w.heap.size w { w with drawn:=w.drawn+1 }:=⟨rfl,rfl,rfl,xa5 _,λ_ _=>rfl⟩;have hst:=h0.sat.grow hdrew;unfold qll;rw[hN,hU,hD];have hs2:=hst.sat.fewer (hp':=H) λx y hy hx=>by
   rw[←hH]at hy;rcases KF hy with h|⟨j,_,_,e⟩
   ·exact h
   ·omega
  refine⟨λj _ hS=>(by cases hS),λj _ hS=>(by cases hS),r0,hs2.sat,λt=>?_,h0.size,((Ext.mk h0.out h0.rfix h0.defers).step0 hst (λi hi=>xa9 hi h0.lo)).step0 hs2 (λi hi=>xa9 hi h0.lo)⟩;rw[Gn (S:=λ_=>false) (i:=0) (xb6 m) (λj hj _=>by simp)];exact hs2.rep (hst.rep (h0.fr t))
 ·rcases hI with⟨h1,h2⟩|⟨j,stj,h1,h2,h3,h4,h5⟩
  ·have e:m=l.length:=by
    have:=h1 m (xa5 _)
    grind
   subst e;rw[List.drop_length]at hk1;exact hK st1 a w hk1 (conv S a w hS h2)
  ·have e:j=l.length:=by
    grind
   subst e;rw[List.drop_length]at h5;exact hK stj a w h5 h4
 have hil:i<l.length:=(List.getElem?_eq_some_iff.1 ho).1;have hdo:jk ns o=true:=List.all_eq_true.1 hd o (List.mem_of_getElem? ho);have hlate:m≤i→∀j,j<i→S j=true:=λhmi j hj=>hB j (by
  rw[htail i hil hmi,Nat.testBit_two_pow_sub_one];simpa using hj) Ω
 have htl:(∃j stj,m≤j∧(∀i,S i=decide (i<j))∧Inv O base okc ns (stj.nid+j) outs stj a w∧zc P O J (dsts l) (l.drop j) j stj K)→if Region.wanted o (yielded ops a.tmps)then o.wpIn (FR ro) 0 P a w K' Q else(∀f,o.about P w a.eval=some f→(FR ro).fn f)∧K' (a.put o.dst undef) w:=by
  rintro⟨j,stj,h1,h3,⟨r,h4⟩,h5⟩;have hij:i=j:=by
   rw[h3]at hif;have hif:¬i<j:=by simpa using hif
   refine xf9 λhne=>?_;have:=hlate Ω j Ω;rw[h3]at this;simp at this
  subst hij;rw[List.drop_eq_getElem_cons hil,(List.getElem?_eq_some_iff.1 ho).2]at h5;obtain⟨st',hnid',hinv',hcase⟩:=Gj (ops:=ops) (st:=stj) (a:=a) (w:=w) h4 (o:=o) (by rw[hl];exact h5);have hset:∀x,S' x=decide (x<i+1):=λx=>by
   rw[hS,h3];by_cases h1:x<i<;>by_cases h2:x=i<;>simp[h1,h2]<;>omega
  rcases hcase with⟨hw,hrun⟩|⟨hw,hskip⟩
  ·rw[if_pos hw]
   exact qbp (i:=i) (st:=st') (r:=r) (by rw[hnid'];exact hinv') hdo (by exact hrun) λst2 a2 w2 hk2 hn2 _ h2=>hK' _ _ (.inr ⟨i+1,st2,Ω,hil,hset,h2,hk2⟩)
  ·rw[if_neg (by rw[hw];simp)]
   have h1:InvR O base okc ns (stj.nid+i) r outs (st'.put o.dst undefSV) (a.put o.dst undef) w:=hinv'.step (Step.refl hinv'.sat) hinv'.keys (xa5 _) (λt ht=>by simpa[jk,ht]using hdo) (.val _);exact⟨λ_ _=>trivial,hK' _ _ (.inr ⟨i+1,_,Ω,hil,hset,by rw[qz,hnid'];exact⟨r,h1.more Ω⟩,hskip⟩)⟩
 rcases hI with⟨hlow,hmid⟩|⟨j,stj,h1,_,h3⟩
 rotate_left
 ·exact htl ⟨j,stj,h1,h3⟩
 by_cases hmi:m≤i
 ·have hSm:∀i,S i=decide (i<m):=λx=>by
   by_cases h:x<m
   ·rw[hlate hmi x Ω,decide_eq_true h]
   ·rw[hlow x Ω,decide_eq_false h]
  exact htl ⟨m,st1,xa5 _,hSm,conv S a w hSm hmid,hk1⟩
 have hil:i<m:=by omega
 clear htl hlate conv;have hA:∀j,S j=true→j<m∧j≠i∧¬((zh [] l).getD j 0).testBit i=true:=λj hj=>by
  refine⟨xf9 λh=>?_,λe=>?_,λh=>?_⟩
  ·rw[hlow j Ω]at hj;cases hj
  ·rw[e,hif]at hj;cases hj
  ·rw[hC j i h hj]at hif;cases hif
 have hiff:∀j,(i<j→j<m→((zh [] l).getD j 0).testBit i=true)→(j<i→((zh [] l).getD i 0).testBit j=true)→(S j=true↔j<i):=λj h1 h2=>⟨λh=>by
  obtain⟨q1,q2,q3⟩:=hA j h;refine xf9 λhj=>q3 (h1 Ω q1),λh=>hB j (h2 h) Ω⟩
 have hlook:∀t,t∈seen (dsts l) o→FS (nth (dsts l)) res S (look st.fr) m t=FS (nth (dsts l)) res (λ_=>true) (look st.fr) i t:=by
  intro t ht;refine Gn Ω λj hj hdj=>?_;obtain⟨oj,hoj⟩:=hsome j hj;exact hiff j (λh _=>(kM hapart ho hoj h).resolve_right λhb=>hb.2 t hdj ht) λh=>(kM hapart hoj ho h).resolve_right λhb=>hb.1 t hdj ht
 have hupd:∀j,j<m→up j≠none→∃oj,l[j]? = some oj∧qL oj.op=true:=λj hj hu=>by
  obtain⟨oj,hoj⟩:=hsome j hj;exact⟨oj,hoj,((QZ (hops j oj hj hoj)).1.resolve_left hu).2.1⟩
 have hchg:(qL o.op=true∨jn o.op=true)→∀j,j<m→up j≠none→(S j=true↔j<i):=by
  intro hro j hj hu;obtain⟨oj,hoj,huj⟩:=hupd j hj hu;refine hiff j (λh _=>(hpair i j o oj ho hoj h hj).resolve_right λ⟨h1,h2⟩=>?_) λh=>(hpair j i oj o hoj ho h hil).resolve_right λ⟨h1,h2⟩=>?_
  ·rcases hro with hro|hro
   ·rcases h1 with⟨hb1,_⟩|⟨_,_,_,_,_,e1,_⟩
    ·exact hb1 ⟨hro,huj⟩
    ·rw[e1]at hro;cases hro
   ·rcases h2 with hb|⟨hb,_⟩
    ·exact hb.2 ⟨hro,huj⟩
    ·rw[ZN hb]at huj;cases huj
  ·rcases hro with hro|hro
   ·rcases h1 with⟨hb1,_⟩|⟨_,_,_,_,_,e1,_⟩
    ·exact hb1 ⟨huj,hro⟩
    ·rw[e1]at huj;cases huj
   ·rcases h2 with⟨hb,_⟩|⟨_,hb,_⟩
    ·rw[hro]at hb;cases hb
    ·rw[huj]at hb;cases hb
 have hchg1:jl o.op=true→∀X,(∀ty a,o.op=.load ty (.tmp a)→qT (FS (nth (dsts l)) res (λ_=>true) (look st.fr) i a)=some X)→∀j,j<m→∀b,up j=some (X,b)→(S j=true↔j<i):=by
  intro hro X hX j hj b hu;obtain⟨oj,hoj,huj⟩:=hupd j hj (by rw[hu];simp);refine hiff j (λh _=>(hpair i j o oj ho hoj h hj).resolve_right λ⟨h1,_⟩=>?_) λh=>(hpair j i oj o hoj ho h hil).resolve_right λ⟨h1,_⟩=>?_
  ·rcases h1 with⟨_,hb2,_⟩|⟨t,a,t',c,y,e1,e2,hmem,hn1,hn2⟩
   ·exact hb2 ⟨hro,huj⟩
   ·have h1:=hX t a e1
    have h2:qT (FS (nth (dsts l)) res (λ_=>true) (look st.fr) j c)=some X:=by
     have hat:=hops j oj hj hoj;rw[hu]at hat;generalize res j=svj at hat;generalize nb j=nbj at hat;generalize dr j=drj at hat;cases hat with
     |upd obl t b hg hst hobl=>
      rw[e2]at hst;exact jy hst
    have h3:=(hfar a c hmem).1;rw[hF1,hlast hn1 (xa5 _) Ω,hlast hn2 (xa5 _) Ω]at h3;unfold vi at h3;rw[h1,h2]at h3;exact h3 rfl
  ·rcases h1 with⟨_,_,hb3⟩|⟨_,_,_,_,_,e1,_⟩
   ·exact hb3 ⟨huj,hro⟩
   ·rw[e1]at huj;cases huj
 have hstay:∀X y,blk (TG st.nid nb up dr st.hp i) X=some y→(∀j oj s x n k,i<j→j<m→jn oj.op=true→l[j]? = some oj→zB oj.op=some (s,x)→FS (nth (dsts l)) res (λ_=>true) (look st.fr) j s=.vec X n k→qnG far (dsts l) i j o oj→False)→∀j,j<m→S j=true→dr j≠some X:=by
  intro X y hX hno j hj hS hd;obtain⟨q1,q2,q3⟩:=hA j hS;by_cases hlt:j<i
  ·exact(hsubT Ω hX).2 j hlt hd
  ·obtain⟨oj,hoj⟩:=hsome j hj
   obtain⟨s,x,n,k,h1,h2,_⟩:=(QZ (hops j oj hj hoj)).2.2 X hd;exact hno j oj s x n k Ω hj (zQ h1) hoj h1 h2 ((hpair i j o oj ho hoj Ω hj).resolve_left q3).2
 have hfarS:∀{j a c X n k oj},i<j→j<m→l[j]? = some oj→jn oj.op=true→qlj far (dsts l) i j a c→vt (FS (nth (dsts l)) res (λ_=>true) (look st.fr) i a)=some X→FS (nth (dsts l)) res (λ_=>true) (look st.fr) j c=.vec X n k→False:=by
  intro j a c X n k oj hij hj hoj hap ⟨hmem,hn1,hn2⟩ h1 h2;have h3:=(hfar a c hmem).2 ⟨oj,List.mem_of_getElem? hoj,hap⟩;rw[hF1,hlast hn1 (xa5 _) Ω,hlast hn2 (xa5 _) Ω]at h3;unfold ZM at h3;rw[h1,h2]at h3;exact h3 rfl
 have hmemU:qL o.op=true→∀id x,blk (TG st.nid nb up dr st.hp i) id=some x→blk (DH dr S (UH up S H m) m) id=some x:=by
  intro hro id x hx;rw[gE (hstay id x hx λj oj s y n k hij hj hap hoj ha hv hd=>by
   rcases hd with⟨e,_⟩|⟨_,e,_⟩
   ·rw[hap]at e;cases e
   ·rw[hro]at e;cases e),qda (i:=i) Ω (hchg (.inl hro))]
  exact(hsubT Ω hx).1
 have hmemA:∀s x,zB o.op=some (s,x)→∀id y,(vt (FS (nth (dsts l)) res (λ_=>true) (look st.fr) i s)=some id∨vt (FS (nth (dsts l)) res (λ_=>true) (look st.fr) i x)=some id)→blk (TG st.nid nb up dr st.hp i) id=some y→blk (DH dr S (UH up S H m) m) id=some y:=by
  intro s x hsx id y hid hy;rw[gE (hstay id y hy λj oj s2 y2 n k hij hj hap hoj ha hv hd=>by
   rcases hd with⟨e,_⟩|⟨_,_,s3,x3,ha3,hd⟩
   ·rw[hap]at e;cases e
   ·rw[ha]at ha3;cases ha3
    rcases hd with⟨t,a,e,_⟩|⟨s',x',e,f1,f2⟩|⟨_,e⟩
    ·rw[e]at hsx;cases hsx
    ·rw[hsx]at e;cases e
     rcases hid with hid|hid
     ·exact hfarS hij hj hoj hap f1 hid hv
     ·exact hfarS hij hj hoj hap f2 hid hv
    ·rw[zQ hsx]at e;cases e),qda (i:=i) Ω (hchg (.inr (zQ hsx)))]
  exact(hsubT Ω hy).1
 have hmem1:jl o.op=true→∀X x,(∀ty a,o.op=.load ty (.tmp a)→qT (FS (nth (dsts l)) res (λ_=>true) (look st.fr) i a)=some X)→blk (TG st.nid nb up dr st.hp i) X=some x→blk (DH dr S (UH up S H m) m) X=some x:=by
  intro hro X x hX hx;rw[gE (hstay X x hx λj oj s2 y2 n k hij hj hap hoj ha hv hd=>by
   rcases hd with⟨e,_⟩|⟨_,_,s3,x3,ha3,hd⟩
   ·rw[hap]at e;cases e
   ·rw[ha]at ha3;cases ha3
    rcases hd with⟨t,a,e,f1⟩|⟨s',x',e,f1,f2⟩|⟨e,_⟩
    ·exact hfarS hij hj hoj hap f1 (qlk (hX t a e)) hv
    ·rw[Yt (zQ e)]at hro;cases hro
    ·rw[hro]at e;cases e),V2 (i:=i) Ω (hchg1 hro X hX)]
  exact(hsubT Ω hx).1
 have hat:=hops i o hil ho;obtain⟨hupN,hdrN,r,hsat,hrep,hsize,hdef⟩:=hmid;have hdsti:=hdst i o ho;have hNS:∀x,NS st.nid m S x→NS st.nid m S' x:=λx hx=>by
  rw[←ZK hS hil];exact .inl hx
 have hfresh:¬NS st.nid m S (st.nid+i):=by
  rintro(h|⟨j,h1,h2,h3⟩)
  ·omega
  ·exact(hA j h2).2.1 Ω
 have hlater:∀t,nth (dsts l) i=some t→∀j,j<m→i<j→nth (dsts l) j=some t→S j=false:=by
  intro t hdi j hj hij hdj;obtain⟨oj,hoj⟩:=hsome j hj;refine Bool.eq_false_iff.2 λhv=>?_;rcases kM hapart ho hoj hij with hb|⟨_,hb⟩
  ·exact(hA j hv).2.2 hb
  ·refine hb t hdj ?_
   simp only[seen,xd4];rw[hdsti]at hdi;simp[hdi]
 have hput:∀{j},S' j=true→S j=true∨j=i:=λh=>by rw[hS]at h;simpa using h
 have next:∀(v:Value)(r':Nat→Option Nat)(w':World),(∀t b,up i=some (t,b)→NS st.nid m S t)→(∀t,dr i=some t→NS st.nid m S t)→
   Step base okc r (NS st.nid m S) (DH dr S (UH up S H m) m) w r' (NS st.nid m S') (DH dr S' (UH up S' H m) m) w'→
   Rep r' (NS st.nid m S') (Gd base okc r' (NS st.nid m S') (DH dr S' (UH up S' H m) m) w') w' (res i) v→
   K' (a.put o.dst v) w':=by
  intro v r' w' hui hdi hs hv;refine hK' _ _ (.inl ⟨λx hx=>by rw[hS,hlow x hx];simp;omega,?_⟩);rw[←hdsti];refine qhk hS hil hlater hrep hsize hdef h0.lo (hdin i) (λj hj hSj t b hu=>?_) (λj hj hSj t hu=>?_) hs hv
  ·rcases hput hSj with hSj|rfl
   ·exact hNS _ (hupN j hj hSj t b hu)
   ·exact hNS _ (hui t b hu)
  ·rcases hput hSj with hSj|rfl
   ·exact hNS _ (hdrN j hj hSj t hu)
   ·exact hNS _ (hdi t hu)
 have hsame:up i=none→dr i=none→DH dr S' (UH up S' H m) m=DH dr S (UH up S H m) m:=λhu hd=>by
  rw[yF hS hu];exact Gx λj hj hj'=>by
   rw[hS];have:j≠i:=λe=>hj' (e▸hd);simp[this]
 have hnokey:nb i=none→∀x y (S0 T:Nat→Bool),blk (DH dr T (UH up S0 H m) m) x=some y→NS st.nid m S' x→NS st.nid m S x:=by
  intro hnb x y S0 T hy hx;rw[←ZK hS hil]at hx;rcases hx with hx|hx
  ·exact hx
  ·subst hx
   obtain⟨z,hz⟩:=yE (QY hy).1;rcases hHk _ _ hz with h|⟨j,_,hj,e⟩
   ·omega
   ·have:j=i:=by omega
    subst this;rw[hnb]at hj;cases hj
 have hmore:nb i=none→up i=none→dr i=none→Step base okc r (NS st.nid m S) (DH dr S (UH up S H m) m) w r (NS st.nid m S') (DH dr S' (UH up S' H m) m) w:=by
  intro hnb hu hd;rw[hsame hu hd];exact hsat.more hNS λx y hy hx=>hnokey hnb x y _ _ hy hx
 have hguard:∀b,j6 (dsts l) o.guard (FS (nth (dsts l)) res (λ_=>true) (look st.fr) i)=some b→Region.wanted o (yielded ops a.tmps)=b:=by
  intro b hg;cases hog:o.guard with
  |none=>rw[hog]at hg;simp only[j6,Option.some.injEq]at hg;subst hg;simp[Region.wanted,hog]
  |some gw=>
   obtain⟨j,want⟩:=gw;rw[hog]at hg;simp only[j6]at hg;cases ht:nth (dsts l) j with
   |none=>simp[ht]at hg
   |some t=>
    have hy:=Gi ops a j t (by rw[hl];exact ht);have htn:t∈seen (dsts l) o:=by simp[seen,qnF,hog,ht]
    have hrt:=hrep t;rw[hlook t htn]at hrt;simp only[ht]at hg;cases hv:FS (nth (dsts l)) res (λ_=>true) (look st.fr) i t with
    |val u=>
     rw[hv]at hg hrt;have hu:a.tmps.getD t undef=u:=by generalize a.tmps.getD t undef=z at hrt;cases hrt;rfl
     simp only[xf5]at hu;cases u with
     |bool c=>
      have:yielded ops a.tmps j=some c:=by
       rw[hy];cases hz:a.tmps[t]? with
       |none=>rw[hz]at hu;simp[undef]at hu
       |some z=>rw[hz]at hu;simp at hu;rw[hu]
      simp only[Option.some.injEq]at hg;subst hg;simp only[Region.wanted,hog,this];cases c<;>cases want<;>rfl
     |tuple vs=>
      have:yielded ops a.tmps j=none:=by
       rw[hy];cases hz:a.tmps[t]? with
       |none=>rfl
       |some z=>rw[hz]at hu;simp at hu;rw[hu]
      simp only[Option.some.injEq]at hg;subst hg;simp[Region.wanted,hog,this]
     |_=>simp at hg
    |_=>rw[hv]at hg;simp at hg
 have henv:∀x,x∈o.op.operands→Rep r (NS st.nid m S) (Gd base okc r (NS st.nid m S) (DH dr S (UH up S H m) m) w) w (env (FS (nth (dsts l)) res (λ_=>true) (look st.fr) i) x) (a.eval x):=λx hx=>qcX x λt ht=>by
  subst ht;rw[←hlook t (by
   simp only[seen,xd4];exact .inl (List.mem_filterMap.2 ⟨.tmp t,Ω0,rfl⟩))]
  exact hrep t
 generalize hsv:res i=sv at hat;generalize hnbi:nb i=nbi at hat;generalize hupi:up i=upi at hat;generalize hdri:dr i=dri at hat;cases hat with
 |skip hg=>
  rw[if_neg (by rw[hguard _ hg];simp)];exact⟨λ_ _=>trivial,next undef r w (λt b hu=>by rw[hupi]at hu;cases hu) (λt hd=>by rw[hdri]at hd;cases hd) (hmore hnbi hupi hdri) (by rw[hsv];exact .val _)⟩
 |upd obl t b hg hst hobl=>
  rw[if_pos (hguard _ hg)];have hu:=yD hst;have hnd:∀c,o.op≠.defer c:=λc e=>by rw[e]at hu;cases hu
  have hst':stepR P (FS (nth (dsts l)) res (λ_=>true) (look st.fr) i) (DH dr S (UH up S H m) m) o.op=.upd obl t b:=by
   rw[Gt hu (hmemU hu) Ωab,hst]
  refine j5 hnd (vh hsat (fr:=FS (nth (dsts l)) res (λ_=>true) (look st.fr) i) (id:=st.nid+i) (hp':=DH dr S (UH up S H m) m) henv ?_);rw[hst'];refine⟨hobl,λw' hs=>?_⟩;have hui:∀t' b',up i=some (t',b')→NS st.nid m S t':=λt' b' e=>by
   rw[hupi]at e;cases e;exact qpX hst' henv
  refine next undef r w' hui (λt hd=>by rw[hdri]at hd;cases hd) ?_ (by rw[hsv];exact .val _);have eU:=qhh (up:=up) (H:=H) (n:=m) hS hil hupi (hchg (.inl hu));have hb2:∀x y,blk (DH dr S' (UH up S' H m) m) x=some y→blk (setBlk (DH dr S (UH up S H m) m) t b) x=some y:=λx y hy=>by
   obtain⟨h1,h2⟩:=QY hy;rw[eU,qq]at h1;have eD:=gE (dr:=dr) (S:=S) (hp:=UH up S H m) (x:=x) (m:=m) λj hj hSj=>h2 j hj (by rw[hS];simp[hSj]);rw[qq];by_cases e:x=t
   ·subst e
    rw[if_pos rfl]at h1 ⊢;rw[eD];exact h1
   ·rw[if_neg e]at h1 ⊢
    rw[eD];exact h1
  refine hs.trans ((hs.sat.more hNS λx y hy hx=>?_).trans ?_)
  ·rw[qq]at hy
   split at hy
   ·rename_i e
    subst e;exact hui _ b hupi
   ·exact hnokey hnbi x y _ _ hy hx
  ·exact Sat.fewer (hs.sat.more hNS λx y hy hx=>by
    rw[qq]at hy;split at hy
    ·rename_i e
     subst e;exact hui _ b hupi
    ·exact hnokey hnbi x y _ _ hy hx).sat λx y hy _=>hb2 x y hy
 |run sv nbi hg hca hrun=>
  rw[if_pos (hguard _ hg)];have hnd:∀c,o.op≠.defer c:=λc e=>by rw[e]at hca;cases hca
  have hui:∀t b,up i=some (t,b)→NS st.nid m S t:=λt b hu=>by rw[hupi]at hu;cases hu
  have hdi:∀t,dr i=some t→NS st.nid m S t:=λt hu=>by rw[hdri]at hu;cases hu
  have hstep:stepR P (FS (nth (dsts l)) res (λ_=>true) (look st.fr) i) (TG st.nid nb up dr st.hp i) o.op≠.bad→
    stepR P (FS (nth (dsts l)) res (λ_=>true) (look st.fr) i) (DH dr S (UH up S H m) m) o.op=stepR P (FS (nth (dsts l)) res (λ_=>true) (look st.fr) i) (TG st.nid nb up dr st.hp i) o.op:=λhne=>by
   cases hr:jl o.op with
   |true=>
    by_cases hld:∃ty x,o.op=.load ty x
    ·obtain⟨ty,x,e⟩:=hld
     rw[e]at hne ⊢;refine wZ (λid y hid hy=>hmem1 hr id y (λty' a e'=>?_) hy) hne;rw[e]at e';cases e';exact hid
    ·exact qbs hca (λid y hy=>hmem1 hr id y (λty a e=>(hld ⟨ty,_,e⟩).elim) hy) hne
   |false=>exact Kj _ hca hr
  have hnew:∀b,nb i=some b→blk (DH dr S (UH up S H m) m) (st.nid+i)=some b:=λb hb=>by
   rw[gE (λj hj hSj hd=>hfresh (hdrN j hj hSj _ hd)),j7 (x:=st.nid+i) (λj hj hSj t c hjc (e:t=st.nid+i)=>hfresh (by rw[←e];exact hupN j hj hSj t c hjc)),←hH];exact ZL hb hil
  refine j5 hnd (vh hsat (fr:=FS (nth (dsts l)) res (λ_=>true) (look st.fr) i) (id:=st.nid+i) (hp':=DH dr S (UH up S H m) m) henv ?_);cases hrun with
  |pure obl _ hst hobl=>
   rw[hstep Ωab,hst];refine⟨hobl,λv hv=>next v r w hui hdi (hmore hnbi hupi hdri) ?_⟩;rw[hsv];exact(hmore hnbi hupi hdri).rep hv
  |ex obl _ hst hobl=>
   rw[hstep Ωab,hst];refine⟨sv,hobl,λv hv=>next v r w hui hdi (hmore hnbi hupi hdri) ?_⟩;rw[hsv];exact(hmore hnbi hupi hdri).rep hv
  |new obl b mk hst hobl=>
   rw[hstep Ωab,hst];refine⟨hobl,hfresh,hnew b hnbi,λ_ _=>rfl,λv w' r' hs hv=>?_⟩;rw[ZK hS hil]at hs hv;refine next v r' w' hui hdi (by rw[hsame hupi hdri];exact hs) ?_;rw[hsv,hsame hupi hdri];exact hv
  |call f args _ hst hc=>
   have hr:jl o.op=true:=by
    obtain⟨x,xs,ts,first,caps,e,_⟩:=gZ hst;rw[e];rfl
   have hm':∀id y,blk (TG st.nid nb up dr st.hp i) id=some y→blk (DH dr S (UH up S H m) m) id=some y:=λid y hy=>hmem1 hr id y (λty a e=>by
    obtain⟨x,xs,ts,first,caps,e',_⟩:=gZ hst;rw[e']at e;cases e) hy
   rw[hstep Ωab,hst];refine .inl ⟨sv,hc.mono hm',λv w' hst' hv=>?_⟩;have hgrow:=hst'.sat.more hNS λx y hy hx=>hnokey hnbi x y _ _ hy hx;refine next v r w' hui hdi ?_ ?_
   ·rw[hsame hupi hdri];exact hst'.trans hgrow
   ·rw[hsame hupi hdri,hsv];exact hgrow.rep hv
  |callN f args pats b res' hst hc hs=>
   have hr:jl o.op=true:=by
    obtain⟨x,xs,ts,first,caps,e,_⟩:=gZ hst;rw[e];rfl
   have hm':∀id y,blk (TG st.nid nb up dr st.hp i) id=some y→blk (DH dr S (UH up S H m) m) id=some y:=λid y hy=>hmem1 hr id y (λty a e=>by
    obtain⟨x,xs,ts,first,caps,e',_⟩:=gZ hst;rw[e']at e;cases e) hy
   rw[hstep Ωab,hst];refine .inr ⟨pats,b,res',hc,hs.mono hm',hfresh,_,hnew b hnbi,λ_ _=>rfl,λv w' r' hs hv=>?_⟩;rw[ZK hS hil]at hs hv;refine next v r' w' hui hdi (by rw[hsame hupi hdri];exact hs) ?_;rw[hsv,hsame hupi hdri];exact hv
 |newA obl b mk hg ha hst hobl=>
  rw[if_pos (hguard _ hg)];obtain⟨⟨s,x⟩,hsx⟩:=Option.isSome_iff_exists.1 ha;have hia:=zQ hsx;have hnd:∀c,o.op≠.defer c:=λc e=>by rw[e]at hia;cases hia
  have hui:∀t b,up i=some (t,b)→NS st.nid m S t:=λt b hu=>by rw[hupi]at hu;cases hu
  have hdi:∀t,dr i=some t→NS st.nid m S t:=λt hu=>by rw[hdri]at hu;cases hu
  have hnew:∀b,nb i=some b→blk (DH dr S (UH up S H m) m) (st.nid+i)=some b:=λb hb=>by
   rw[gE (λj hj hSj hd=>hfresh (hdrN j hj hSj _ hd)),j7 (x:=st.nid+i) (λj hj hSj t c hjc (e:t=st.nid+i)=>hfresh (by rw[←e];exact hupN j hj hSj t c hjc)),←hH];exact ZL hb hil
  refine j5 hnd (vh hsat (fr:=(FS (nth (dsts l)) res (λ_=>true) (look st.fr) i)) (id:=st.nid+i) (hp':=DH dr S (UH up S H m) m) henv ?_);rw[Qd hsx (hmemA s x hsx) Ωab,hst];refine⟨hobl,hfresh,hnew b hnbi,λ_ _=>rfl,λv w' r' hs hv=>?_⟩;rw[ZK hS hil]at hs hv;refine next v r' w' hui hdi (by rw[hsame hupi hdri];exact hs) ?_;rw[hsv,hsame hupi hdri];exact hv
 |grow obl old b mk hg ha hst hobl=>
  rw[if_pos (hguard _ hg)];obtain⟨⟨s,x⟩,hsx⟩:=Option.isSome_iff_exists.1 ha;have hia:=zQ hsx;have hnd:∀c,o.op≠.defer c:=λc e=>by rw[e]at hia;cases hia
  have hui:∀t b,up i=some (t,b)→NS st.nid m S t:=λt b hu=>by rw[hupi]at hu;cases hu
  obtain⟨⟨n',k',evec⟩,y0,hy0⟩:=Gv hsx hst;have hold:NS st.nid m S old:=by
   obtain⟨args,ts,eop,eargs⟩:=wj hsx;have h1:=henv (.tmp s) (by
    rw[eop];have:Operand.tmp s∈args.toList:=by rw[eargs];simp
    simp only[Op.operands,Call.operands];simpa using this)
   have h2:env (FS (nth (dsts l)) res (λ_=>true) (look st.fr) i) (.tmp s)=.vec old n' k':=evec;rw[h2]at h1;generalize a.eval (.tmp s)=u at h1;cases h1<;>assumption
  have hdi:∀t,dr i=some t→NS st.nid m S t:=λt hu=>by
   rw[hdri]at hu;cases hu;exact hold
  have hnew:∀b,nb i=some b→blk (DH dr S (UH up S H m) m) (st.nid+i)=some b:=λb hb=>by
   rw[gE (λj hj hSj hd=>hfresh (hdrN j hj hSj _ hd)),j7 (x:=st.nid+i) (λj hj hSj t c hjc (e:t=st.nid+i)=>hfresh (by rw[←e];exact hupN j hj hSj t c hjc)),←hH];exact ZL hb hil
  refine j5 hnd (vh hsat (fr:=(FS (nth (dsts l)) res (λ_=>true) (look st.fr) i)) (id:=st.nid+i) (hp':=DH dr S (UH up S H m) m) henv ?_);rw[Qd hsx (hmemA s x hsx) Ωab,hst];have hne:old≠st.nid+i:=λe=>hfresh (by rw[←e];exact hold);have eU:UH up S' H m=UH up S H m:=yF hS hupi;have hgo:∀j,j≠old→blk (DH dr S' (UH up S' H m) m) j=blk (DH dr S (UH up S H m) m) j:=λj hjo=>by
   rw[eU];by_cases hd:∃j',j'<m∧S j'=true∧dr j'=some j
   ·obtain⟨j',h1,h2,h3⟩:=hd
    rw[V4 (S:=S') h1 (by rw[hS];simp[h2]) h3,V4 (S:=S) h1 h2 h3]
   ·rw[gE λj' h1 h2 h3=>hd ⟨j',h1,h2,h3⟩,gE λj' h1 h2 h3=>?_]
    rw[hS]at h2;simp only[xe8,decide_eq_true_eq]at h2;rcases h2 with h2|rfl
    ·exact hd ⟨j',h1,h2,h3⟩
    ·rw[hdri]at h3;cases h3;exact hjo rfl
  refine⟨hobl,hfresh,DH dr S' (UH up S' H m) m,(by rw[hgo _ (Ne.symm hne)];exact hnew b hnbi),λj _ hjo=>hgo j hjo,V4 hil (by rw[hS];simp) hdri,λv w' r' hs hv=>?_⟩;rw[ZK hS hil]at hs hv;refine next v r' w' hui hdi hs ?_;rw[hsv];exact hv
theorem qhl{far:List (Nat×Nat)}{id:Nat}{Q:Exit→Act→World→Prop}(hm:P.follows .mixedOrders=true)(hok:V0 far ops.toList=true)(hd:ops.toList.all (jk ns)=true)
  (h:Inv O base okc ns st.nid outs st a w) (hk:zc P O (kr true ops.toList=true) (dsts ops.toList) ops.toList 0 st λst'=>FarVC far st' (K st'))
  (hK:∀st' a' w',K st'→Inv O base okc ns (st'.nid+ops.toList.length) outs st' a' w'→Q .normal a' w'):(Code.region id ops true).wpIn (FR ro) 0 P Q a w:=by
 simp only[V0,xe6,Bool.not_eq_true']at hok;obtain⟨⟨⟨⟨hedge,hapart⟩,hpair⟩,hall⟩,hnoJ⟩:=hok;have hall:∀o∈ops.toList,(kz o.op || qL o.op)=true:=List.all_eq_true.1 hall;have noA:∀o∈ops.toList,jn o.op=false:=λo ho=>by
  have:=hall o ho;refine Bool.eq_false_iff.2 λh=>?_;rw[ZN h,Qp h]at this;cases this
 refine Yu (far:=far) hm rfl _ (xa5 _) hedge hapart (λi j oi oj hi hj hij _=>(jm hpair hi hj hij).imp (λh=>h) λhh=>⟨hh,.inl ⟨noA _ (List.mem_of_getElem? hj),λhh=>by rw[noA _ (List.mem_of_getElem? hi)]at hh;cases hh.1⟩⟩) (λo ho=>by rw[hall o (List.mem_of_mem_take ho)];rfl) (λhJ=>by rw[hnoJ]at hJ;cases hJ) (λj h1 h2=>absurd h1 Ω) (λst1 h a b hab=>?_) hd h hk λst' a' w' hk hi=>hK st' a' w' (gY hk).1 hi;rw[List.drop_length]at h;exact⟨(gY h).2 a b hab,λ⟨o,ho,h⟩=>by rw[noA o ho]at h;cases h⟩
theorem qlm{id:Nat}{Q:Exit→Act→World→Prop}(hm:P.follows .mixedOrders=true)(hok:VV ops.toList=true)(hd:ops.toList.all (jk ns)=true)
  (h:Inv O base okc ns st.nid outs st a w) (hk:zc P O (kr true ops.toList=true) (dsts ops.toList) ops.toList 0 st K)
  (hK:∀st' a' w',K st'→Inv O base okc ns (st'.nid+ops.toList.length) outs st' a' w'→Q .normal a' w'):(Code.region id ops true).wpIn (FR ro) 0 P Q a w:=by
 simp only[VV,xe6]at hok;obtain⟨⟨hedge,hapart⟩,htail⟩:=hok;generalize hl:ops.toList=l at *;obtain⟨m,hml,hcalm,hnoJ,htail⟩:∃m,m≤l.length∧(∀o∈l.take m,kz o.op=true)∧(kr true l=true→∀o∈l.take m,g6 o.op=false)∧∀j,j<l.length→m≤j→(zh [] l).getD j 0=2^j - 1:=by
  have spec:∀m,VU (zh [] l) m l.length=true→∀j,j<l.length→m≤j→(zh [] l).getD j 0=2^j - 1:=λm htail j hj hjm=>by
   simp only[VU,List.all_eq_true,List.mem_range]at htail
   grind
  by_cases hin:kr true l=true
  ·exact⟨vk l,Gq l,λo ho=>(wh l o ho).1,λ_ o ho=>(wh l o ho).2,spec _ (by simpa[kr]using hin)⟩
  ·exact⟨wg l,Gp l,J6 l,λh=>absurd h hin,spec _ htail⟩
 have low:∀{j oj},l[j]? = some oj→j<m→qL oj.op=false∧jn oj.op=false:=λhj hjm=>by
  have:=hcalm _ (List.mem_of_getElem? (i:=_) (by rw[List.getElem?_take_of_lt hjm];exact hj));refine⟨Gr this,Bool.eq_false_iff.2 λh=>?_⟩;rw[Qp h]at this;cases this
 refine Yu (far:=[]) hm hl m hml hedge hapart (λi j oi oj hi hj hij hjm=>.inr ?_) (λo ho=>by rw[hcalm o ho];rfl) hnoJ htail (λ_ _ a b hab=>by cases hab) hd h hk hK;obtain⟨q1,q2⟩:=low hj hjm;obtain⟨q3,q4⟩:=low hi Ω;exact⟨.inl (by rw[q1,q3];simp),.inl ⟨q2,by rw[q4];simp⟩⟩
end
end Go.Sx
end
section
namespace Go.Sx
open Go.RowKit
variable{c:Code}{a:Act}{w:World}{x:Obj}{ds:Option (List Deferred)}{v:Value}{r:Nat→Option Nat}{N:Nat→Prop}{G G':Bool→Nat→Prop}{vs:Array Value}{args:List SV}
inductive Ex:Type
 |normal
 |exit (id:Nat)
 |ret
def Gz:Ex→Exit
 |.normal=>.normal
 |.exit id=>.exit id
 |.ret=>.ret
def Weak(O:Ctx)(st st':St):Prop:=∀(base:World)(okc:Nat→Prop)(ns:Nat)(outs:jj)(a:Act)(w:World),Inv O base okc ns st.nid outs st a w→Inv O base okc ns st'.nid outs st' a w
def Kk(K:Ex→St→Prop)(n:St→Prop):Ex→St→Prop
 |.normal,st=>n st
 |.exit id,st=>K (.exit id) st
 |.ret,st=>K .ret st
def Qr(id:Nat)(K:Ex→St→Prop):Ex→St→Prop
 |.normal,st=>K .normal st
 |.exit i,st=>if i=id then K .normal st else K (.exit i) st
 |.ret,st=>K .ret st
def qbv(O:Ctx)(body:St→(Ex→St→Prop)→Prop)(st:St)(K:Ex→St→Prop):Prop:=
 ∃(α:Type)(inv:α→St)(μ:α→Nat)(x0:α),Weak O st (inv x0)∧∀x,body (inv x) (Kk K λst'=>∃y,μ y<μ x∧Weak O st' (inv y))
def qJ(far:Nat→List (Nat×Nat))(ns:Nat):Code→Bool
 |.skip=>true
 |.label _=>true
 |.seq a b=>qJ far ns a&&qJ far ns b
 |.cond _ t e=>qJ far ns t&&qJ far ns e
 |.block _ c=>qJ far ns c
 |.exit _=>true
 |.ret=>true
 |.region id ops d=>ops.toList.all (jk ns)&&(!d || VV ops.toList || V0 (far id) ops.toList || gz (far id))
 |.loop c=>qJ far ns c
 |.scope c=>qJ far ns c
 |.rangeFunc _ ps a b=>qJ far ns a&&qJ far ns b&&ps.toList.all (λt=>decide (t<ns))
 |_=>false
abbrev jz(ns:Nat)(c:Code):Bool:=qJ zC ns c
def wF(P:Program)(O:Ctx)(c:Code)(st:St)(K:Ex→St→Prop):Prop:=
 ∀(base:World)(okc:Nat→Prop)(ns:Nat)(outs:jj)(a:Act)(w:World)(ro:Option Nat)(Q:Exit→Act→World→Prop),O.rnd=ro.isSome→qJ O.far ns c=true→Inv O base okc ns st.nid outs st a w→(∀e st' a' w',K e st'→Inv O base okc ns st'.nid outs st' a' w'→Q (Gz e) a' w')→c.wpIn (FR ro) 0 P Q a w
def GA(P:Program)(v:SV)(A B:Prop):Prop:=
 match v with
 |.val (.bool b)=>ke b A B
 |_=>False
def vc(P:Program)(O:Ctx):Code→St→(Ex→St→Prop)→Prop
 |.skip,st,K=>K .normal st
 |.label _,st,K=>K .normal st
 |.seq a b,st,K=>vc P O a st (Kk K λst'=>vc P O b st' K)
 |.cond c t e,st,K=>GA P (env (look st.fr) c) (vc P O t st K) (vc P O e st K)
 |.block id c,st,K=>vc P O c st (Qr id K)
 |.exit id,st,K=>K (.exit id) st
 |.ret,st,K=>K .ret st
 |.region id ops d,st,K=>if gz (O.far id)=true then wF P O (.region id ops d) st K else zc P O (kr d ops.toList=true) (dsts ops.toList) ops.toList 0 st (λst'=>FarVC (O.far id) st' (K .normal { st' with nid:=st'.nid+ops.toList.length }))
 |.loop c,st,K=>qbv O (vc P O c) st K∨wF P O (.loop c) st K
 |.scope c,st,K=>vc P O c st K
 |.rangeFunc a b c d,st,K=>wF P O (.rangeFunc a b c d) st K
 |_,_,_=>False
theorem Yv{P:Program}{ro:Option Nat}{α:Type}{Q:Exit→Act→World→Prop}(I:α→Act→World→Prop)(μ:α→Nat)(round:∀x a w,I x a w→c.wpIn (FR ro) 0 P (Exit.then (λa' w'=>∃y,μ y<μ x∧I y a' w') Q) a w)
  {x0:α} {a:Act} {w:World} (h0:I x0 a w):(Code.loop c).wpIn (FR ro) 0 P Q a w:=by
 intro b k cs hro hb hr;have key:∀n x a w,μ x=n→I x a w→∃e a' w',Q e a' w'∧ArrivesIn (Machine.fenced P (FR ro)) P (lone (b.atR a (.code c :: .inLoop c :: k)) cs w) b k cs e a' w':=by
  intro n
  induction n using Nat.strongRecOn with
  |_ n ih=>
   intro x a w hn hI;obtain⟨e,a₁,w₁,hq,harr⟩:=round x a w hI b (.inLoop c :: k) cs hro hb hr;cases e with
   |normal=>
    obtain⟨y,hlt,hy⟩:=hq;obtain⟨e₂,a₂,w₂,hq₂,harr₂⟩:=ih (μ y) (hn▸hlt) y a₁ w₁ rfl hy;exact⟨e₂,a₂,w₂,hq₂,.of_steps (StepsIn.trans harr (.one (fenced_calm hb hr rfl) stepR_inLoop)) harr₂⟩
   |exit id=>exact⟨_,a₁,w₁,hq,.pass (x:=.inLoop c) rfl (λ_ _=>.inl Ωg) harr⟩
   |goto l=>exact⟨_,a₁,w₁,hq,.pass (x:=.inLoop c) rfl (λ_ _=>.inl Ωg) harr⟩
   |ret=>exact⟨_,a₁,w₁,hq,.pass (x:=.inLoop c) rfl (λ_ _=>.inl Ωg) harr⟩
   |panic ch=>exact⟨_,a₁,w₁,hq,.pass (x:=.inLoop c) rfl (λ_ _=>.inl Ωg) harr⟩
   |outgrown=>exact⟨_,a₁,w₁,hq,.pass (x:=.inLoop c) rfl (λ_ _=>.inl Ωg) harr⟩
 obtain⟨e,a',w',hq,harr⟩:=key _ x0 a w rfl h0;exact⟨e,a',w',hq,.of_steps (.one (fenced_calm hb hr rfl) stepR_loop) harr⟩
theorem Yw{P:Program}{b:Frame}{k:List Item}{cs:List Frame}:step P (lone (b.atR a (.code (.scope c) :: k)) cs w)=.next (lone (b.atR a (.code c :: .inScope c :: k)) cs w):=
 step_lone_go (by simp[stepG,stepG.exec,Frame.atR])
theorem JD{P:Program}{b:Frame}{k:List Item}{cs:List Frame}:step P (lone (b.atR a (.inScope c :: k)) cs w)=.next (lone (b.atR a k) cs w):=
 step_lone_go (by simp[stepG,stepG.exec,Frame.atR])
theorem yY{P:Program}{ro:Option Nat}{Q:Exit→Act→World→Prop}(h:c.wpIn (FR ro) 0 P (Exit.noGoto Q) a w):(Code.scope c).wpIn (FR ro) 0 P Q a w:=by
 intro b k cs hro hb hr;have s1:=(StepsIn.one (I:=Machine.fenced P (FR ro)) (fenced_calm (fr:=b.atR a (.code (.scope c) :: k)) hb hr rfl) (Yw (P:=P) (b:=b) (a:=a) (k:=k) (cs:=cs) (w:=w) (c:=c)));obtain⟨e,a₁,w₁,hq,harr⟩:=h b (.inScope c :: k) cs hro hb hr;cases e with
 |normal=>exact⟨.normal,a₁,w₁,hq,StepsIn.trans s1 (StepsIn.trans harr (.one (fenced_calm hb hr rfl) JD))⟩
 |exit id=>exact⟨.exit id,a₁,w₁,hq,λk' hk=>s1.trans (harr.1 k' (by simp[exitTo,hk])),λh1 h2=>let ⟨k1,h3,h4⟩:=harr.2 h1 (by simp[exitTo,h2]);⟨k1,h3,s1.trans h4⟩⟩
 |goto l=>exact hq.elim
 |ret=>exact⟨_,a₁,w₁,hq,.of_steps s1 harr⟩
 |panic ch=>exact⟨_,a₁,w₁,hq,.of_steps s1 harr⟩
 |outgrown=>exact⟨_,a₁,w₁,hq,.of_steps (b:=b) (k:=k) (cs:=cs) (e:=.outgrown) s1 harr⟩
section
variable{P:Program}{O:Ctx}{base:World}{okc:Nat→Prop}{ns:Nat}{outs:jj}
theorem Inv.nid{k:Nat}{st:St}(h:Inv O base okc ns k outs st a w)(n:Nat):Inv O base okc ns k outs { st with nid:=n } a w:=by
 obtain⟨r,h⟩:=h;exact⟨r,h.nid n⟩
theorem wG(hm:P.follows .mixedOrders=true){ro:Option Nat}(hro:O.rnd=ro.isSome):∀(c:Code)(st:St)(K:Ex→St→Prop)(Q:Exit→Act→World→Prop)(a:Act)(w:World),qJ O.far ns c=true→vc P O c st K→Inv O base okc ns st.nid outs st a w→
  (∀e st' a' w',K e st'→Inv O base okc ns st'.nid outs st' a' w'→Q (Gz e) a' w')→c.wpIn (FR ro) 0 P Q a w
 |.skip,st,K,Q,a,w,_,h,hi,hK=>wpIn_skip (hK .normal st a w h hi)
 |.label l,st,K,Q,a,w,_,h,hi,hK=>wpIn_label (hK .normal st a w h hi)
 |.ret,st,K,Q,a,w,_,h,hi,hK=>wpIn_ret (hK .ret st a w h hi)
 |.exit id,st,K,Q,a,w,_,h,hi,hK=>wpIn_exit (hK (.exit id) st a w h hi)
 |.seq x y,st,K,Q,a,w,hc,h,hi,hK=>by
  simp only[qJ,xe6]at hc;refine wpIn_seq (wG hm hro x st _ _ a w hc.1 h hi λe st' a' w' hk hi'=>?_);cases e with
  |normal=>exact wG hm hro y st' K Q a' w' hc.2 hk hi' hK
  |exit id=>exact hK (.exit id) st' a' w' hk hi'
  |ret=>exact hK .ret st' a' w' hk hi'
 |.cond c t e,st,K,Q,a,w,hc,h,hi,hK=>by
  simp only[qJ,xe6]at hc;obtain⟨r,hr⟩:=hi;have he:=hr.env c;simp only[vc,GA]at h;split at h
  ·rename_i b hb
   rw[hb]at he;have:a.eval c=.bool b:=by generalize a.eval c=z at he;cases he;rfl
   exact wpIn_cond_split this (λht=>wG hm hro t st K Q a w hc.1 (h.1 ht) ⟨r,hr⟩ hK) (λhf=>wG hm hro e st K Q a w hc.2 (h.2 hf) ⟨r,hr⟩ hK)
  ·exact h.elim
 |.block id c,st,K,Q,a,w,hc,h,hi,hK=>by
  refine wpIn_block (wG hm hro c st _ _ a w hc h hi λe st' a' w' hk hi'=>?_);cases e with
  |normal=>exact hK .normal st' a' w' hk hi'
  |exit i=>
   simp only[Qr]at hk;simp only[Gz,Exit.inBlock];split at hk
   ·rename_i e;rw[if_pos e];exact hK .normal st' a' w' hk hi'
   ·rename_i e;rw[if_neg e];exact hK (.exit i) st' a' w' hk hi'
  |ret=>exact hK .ret st' a' w' hk hi'
 |.scope c,st,K,Q,a,w,hc,h,hi,hK=>by
  refine yY (wG hm hro c st K _ a w hc h hi λe st' a' w' hk hi'=>?_);cases e with
  |normal=>exact hK .normal st' a' w' hk hi'
  |exit i=>exact hK (.exit i) st' a' w' hk hi'
  |ret=>exact hK .ret st' a' w' hk hi'
 |.region id ops false,st,K,Q,a,w,hc,h,hi,hK=>by
  simp only[vc]at h;split at h
  ·exact h base okc ns outs a w ro Q hro hc hi hK
  simp only[qJ,xe6]at hc;obtain⟨r,hr⟩:=hi;refine wpIn_region_list (qbq ops.toList 0 st _ r a w (by simpa using hr) hc.1 h λst' a' w' hk hi'=>?_);refine hK .normal _ a' w' (gY hk).1 ?_;rw[xb0]at hi';exact hi'.nid _
 |.region id ops true,st,K,Q,a,w,hc,h,hi,hK=>by
  simp only[vc]at h;split at h
  ·exact h base okc ns outs a w ro Q hro hc hi hK
  rename_i hnh;simp only[qJ,xe6,Bool.not_true,xf4,xe8]at hc
  replace hc:=An hc.1 (hc.2.resolve_right hnh)
  have fin:∀(st':St)(a':Act)(w':World),K .normal { st' with nid:=st'.nid+ops.toList.length }→Inv O base okc ns (st'.nid+ops.toList.length) outs st' a' w'→Q .normal a' w':=λst' a' w' hk hi'=>hK .normal _ a' w' hk (hi'.nid _);by_cases h1:VV ops.toList=true
  ·exact qlm hm h1 hc.1 hi h λst' a' w' hk hi'=>fin st' a' w' (gY hk).1 hi'
  ·exact qhl hm (hc.2.resolve_left h1) hc.1 hi h fin
 |.loop c,st,K,Q,a,w,hc,h,hi,hK=>by
  rcases h with h|h
  rotate_left
  ·exact h base okc ns outs a w ro Q hro hc hi hK
  obtain⟨α,inv,μ,x0,hw,hround⟩:=h;refine Yv (λx a w=>Inv O base okc ns (inv x).nid outs (inv x) a w) μ (λx a w hx=>?_) (x0:=x0) (hw _ _ _ _ _ _ hi);refine wG hm hro c (inv x) _ _ a w hc (hround x) hx λe st' a' w' hk hi'=>?_;cases e with
  |normal=>
   obtain⟨y,hy,hwy⟩:=hk;exact⟨y,hy,hwy _ _ _ _ _ _ hi'⟩
  |exit i=>exact hK (.exit i) st' a' w' hk hi'
  |ret=>exact hK .ret st' a' w' hk hi'
 |.rangeFunc _ _ _ _,st,K,Q,a,w,hc,h,hi,hK=>h base okc ns outs a w ro Q hro hc hi hK
 |.goto _,st,K,Q,a,w,_,h,hi,hK=>h.elim
 |.refuse _,st,K,Q,a,w,_,h,hi,hK=>h.elim
theorem kO{D b:Nat}(h:b≠D):(w.putObj D x).heap[b]? = w.heap[b]?:=World.putObj_heap_other h
theorem Kl{D b o:Nat}(hD:w.heap[D]? = some (.deferred ds))(h:w.cell? ⟨b,o,none⟩=some v):(w.putObj D x).cell? ⟨b,o,none⟩=some v:=by
 by_cases e:b=D
 ·subst e;simp[World.cell?,hD]at h
 ·rw[vq (kO e)];exact h
theorem Rep.putD{D:Nat}(hD:w.heap[D]? = some (.deferred ds))(hG:∀o b,G o b→G' o b){sv:SV}(h:Rep r N G w sv v):Rep r N G' (w.putObj D x) sv v:=by
 induction h with
 |top v=>exact .top v
 |val v=>exact .val v
 |agg l cs hl _ ih=>exact .agg l cs hl ih
 |tup l cs hl _ ih=>exact .tup l cs hl ih
 |fn f l m cs ds hl hm _ _ ih ih'=>exact .fn f l m cs ds hl hm ih ih'
 |ptr id off b h1 h2=>exact .ptr id off b h1 h2
 |elt id k i j b h1 h2=>exact .elt id k i j b h1 h2
 |ref o n row b off f hg hc _ ih=>exact .ref o n row b off f (hG _ _ hg) (λj hj=>Kl hD (hc j hj)) ih
 |arrNil o full k row a cap hf=>exact .arrNil o full k row a cap hf
 |arr o full n k row b off cap f hg hf hcap hc _ ih=>exact .arr o full n k row b off cap f (hG _ _ hg) hf hcap (λi j hi hj=>Kl hD (hc i j hi hj)) ih
 |vecNil id k h1 h2=>exact .vecNil id k h1 h2
 |vec id n k b cap cs t h1 h2 hb hsz hcap hm=>exact .vec id n k b cap cs t h1 h2 ((kO (λe=>by subst e;rw[hD]at hb;cases hb)).trans hb) hsz hcap hm
 |mp id b h1 h2=>exact .mp id b h1 h2
 |asl id off n k b cap h1 h2 hcap=>exact .asl id off n k b cap h1 h2 hcap
 |queNil id off k a h1=>exact .queNil id off k a h1
 |que id off n k b cap cs t h1 h2 hb hsz hcap hm=>exact .que id off n k b cap cs t h1 h2 ((kO (λe=>by subst e;rw[hD]at hb;cases hb)).trans hb) hsz hcap hm
 |cutNil id k h1 h2=>exact .cutNil id k h1 h2
 |cut id n k b h1 h2=>exact .cut id n k b h1 h2
 |cmp o fit dom get b es clock hg hb hm _ ih=>exact .cmp o fit dom get b es clock (hG _ _ hg) ((kO (λe=>by subst e;rw[hD]at hb;cases hb)).trans hb) hm ih
 |yld id b h1 h2=>exact .yld id b h1 h2
theorem BlkRep.putD{D:Nat}(hD:w.heap[D]? = some (.deferred ds))(hG:∀o b,G o b→G' o b){ob:Option Nat}{b:Blk}(h:BlkRep r N G w ob b):BlkRep r N G' (w.putObj D x) ob b:=by
 have hne:∀{c:Nat}{y:Obj},w.heap[c]? = some y→(∀ds,y≠.deferred ds)→(w.putObj D x).heap[c]? = some y:=λ{c y} hc hy=>(kO (λe=>by subst e;rw[hD]at hc;cases hc;exact hy _ rfl)).trans hc;cases h with
 |cells t l b cs hb' hl h=>exact .cells t l b cs (hne hb' Ωg) hl λi sv hi=>(h i sv hi).putD hD hG
 |none t k row=>exact .none t k row
 |rows t k n row b cs hb' hl h=>exact .rows t k n row b cs (hne hb' Ωg) hl λi j hi hj=>(h i j hi hj).putD hD hG
 |map fit dom get b es clock hb' hm ht h=>exact .map fit dom get b es clock (hne hb' Ωg) hm ht λe he=>(h e he).putD hD hG
 |mapS fit dom get stamp b es clock hb' hm ht hst h=>exact .mapS fit dom get stamp b es clock (hne hb' Ωg) hm ht hst λe he=>(h e he).putD hD hG
 |iter mid since seen last b m h1 h2 hb'=>exact .iter mid since seen last b m h1 h2 (hne hb' Ωg)
 |loop L s b hb'=>exact .loop L s b (hne hb' Ωg)
theorem Sat.putD{hp:List (Nat×Blk)}(h:Sat base okc r N hp w){D:Nat}(hD:w.heap[D]? = some (.deferred ds))(hG:Gd base okc r N hp w true D):Sat base okc r N hp (w.putObj D x):=by
 have hg:∀o b,Gd base okc r N hp w o b→Gd base okc r N hp (w.putObj D x) o b:=λo b ⟨h1,h2,h3⟩=>⟨by rw[World.putObj_size];exact h1,h2,h3⟩;refine⟨h.below.trans ⟨rfl,rfl,rfl,by rw[World.putObj_size];exact xa5 _,λk hk=>kO λe=>?_⟩,λid y hy hN=>(h.rep id y hy hN).putD hD hg,h.own,h.inj⟩;have:=hG.2.2
 grind
def ZO(w:World):List Nat→World
 |[]=>w
 |D :: Ds=>ZO (w.putObj D (.deferred none)) Ds
theorem GC{F:Fence}{fn:Func}{tmps:Array Value}{R:Ending→World→Prop}:∀(Ds:List Nat)(w:World),Ds.Nodup→(∀D∈Ds,w.heap[D]? = some (.deferred (some [])))→
  (∃v,(results fn tmps).run P (ZO w Ds)=.ok v (ZO w Ds)∧R (.returned v) (ZO w Ds))→LeavesInM F 0 P fn tmps R (Ds.map vy) .returning w
 |[],w,_,_,h=>h
 |D :: Ds,w,hn,hd,h=>by
  refine⟨Ωg,.inl ⟨D,_,rfl,run_takeDeferred (hd D Ωg),?_⟩⟩;refine GC Ds _ (List.nodup_cons.1 hn).2 (λD' hD'=>?_) h;rw[World.putObj_heap_other (λe=>by subst e;exact(List.nodup_cons.1 hn).1 hD')]
  simp_all
theorem Yx{D D':Nat}(h:vy D=vy D'):D=D':=by
 unfold vy at h
 simp_all
theorem J7{r:Nat→Option Nat}{k:Nat}{st:St}:∀(Ds rest:List Nat)(a:Act)(w:World),InvR O base okc ns k r outs st a w→a.defers=Ds.map vy→(Ds++rest).Nodup→(outs.as.map (·.defers)).flatten=rest.map vy→
  (∀D∈Ds++rest,Gd base okc r (· < k) st.hp w true D∧w.heap[D]? = some (.deferred (some [])))→InvR O base okc ns k r outs st { a with defers:=[] } (ZO w Ds)
 |[],rest,a,w,h,hd,hn,ho,hG=>by
  have:({ a with defers:=[] }:Act)=a:=by cases a;simp at hd;subst hd;rfl
  rw[this];exact h
 |D :: Ds,rest,a,w,h,hd,hn,ho,hG=>by
  simp only[List.cons_append,List.nodup_cons]at hn;obtain⟨g1,g2⟩:=hG D Ωg;have hg:∀o b,Gd base okc r (· < k) st.hp w o b→Gd base okc r (· < k) st.hp (w.putObj D (.deferred none)) o b:=λo b ⟨h1,h2,h3⟩=>⟨by rw[World.putObj_size];exact h1,h2,h3⟩;have hrest:∀D'∈Ds++rest,Gd base okc r (· < k) st.hp (w.putObj D (.deferred none)) true D'∧(w.putObj D (.deferred none)).heap[D']? = some (.deferred (some [])):=λD' hD'=>by
   obtain⟨h1,h2⟩:=hG D' (by simp at hD' ⊢;exact .inr hD');refine⟨hg _ _ h1,(World.putObj_heap_other λe=>?_).trans h2⟩
   simp_all
  refine J7 Ds rest { a with defers:=Ds.map vy } (w.putObj D (.deferred none)) ⟨h.sat.putD g2 g1,h.keys,λi=>(h.fr i).putD g2 hg,h.size,h.lo,h.out.mono (xa5 _) λn hn sv v hv=>hv.putD g2 hg,h.rfix,⟨Ds++rest,?_,hn.2,hrest⟩⟩ rfl hn.2 ho hrest;simp[Kv,ho]
theorem Yy{k:Nat}{st:St}(h:InvR O base okc ns k r outs st a w) :
  ∃Ds,a.defers=Ds.map vy∧Ds.Nodup∧(∀D∈Ds,w.heap[D]? = some (.deferred (some [])))∧InvR O base okc ns k r outs st { a with defers:=[] } (ZO w Ds):=by
 obtain⟨Ds,h1,h2,h3⟩:=h.defers;unfold Kv at h1;obtain⟨l1,l2,rfl,e1,e2⟩:=List.append_eq_map_iff.1 h1;exact⟨l1,e1.symm,(List.nodup_append.1 h2).1,λD hD=>(h3 D (by simp[hD])).2,J7 l1 l2 a w h e1.symm h2 e2.symm h3⟩
mutual
def Old:SV→Prop
 |.top=>True
 |.val _=>True
 |.agg l=>OldL l
 |.tup l=>OldL l
 |.fn _ a b=>OldL a∧OldL b
 |.ref o n row=>o=false∧∀j,j<n→Old (row j)
 |.arr o _ n k row=>o=false∧∀i j,i<n→j<k→Old (row i j)
 |.cmp o _ dom get=>o=false∧∀key,dom key=true→Old (get key)
 |_=>False
def OldL:List SV→Prop
 |[]=>True
 |a :: l=>Old a∧OldL l
end
theorem vB:∀{l:List SV},OldL l→∀(i:Nat)(a:SV),l[i]? = some a→Old a
 |[],_,i,a,h=>by simp at h
 |b :: l,hf,i,a,h=>by
  simp only[OldL]at hf;cases i with
  |zero=>simp at h;subst h;exact hf.1
  |succ i=>exact vB hf.2 i a ΩN
theorem qln(hG:∀b,G false b→G' false b){p:SV}(h:Rep noR noN G w p v)(hf:Old p):Rep r N G' w p v:=by
 induction h with
 |top v=>exact .top v
 |val v=>exact .val v
 |agg l cs hl _ ih=>exact .agg l cs hl λi sv hi=>ih i sv hi (vB (by simpa only[Old]using hf) i sv hi)
 |tup l cs hl _ ih=>exact .tup l cs hl λi sv hi=>ih i sv hi (vB (by simpa only[Old]using hf) i sv hi)
 |fn f l m cs ds hl hm _ _ ih ih'=>
  simp only[Old]at hf;exact .fn f l m cs ds hl hm (λi sv hi=>ih i sv hi (vB hf.1 i sv hi)) (λi sv hi=>ih' i sv hi (vB hf.2 i sv hi))
 |ref o n row b off f hg hc _ ih=>
  simp only[Old]at hf;obtain⟨rfl,hf⟩:=hf;exact .ref _ _ _ _ _ f (hG _ hg) hc λj hj=>ih j hj (hf j hj)
 |arrNil o full k row a cap hfc=>exact .arrNil _ _ _ _ _ _ hfc
 |arr o full n k row b off cap f hg hfc hcap hc _ ih=>
  simp only[Old]at hf;obtain⟨rfl,hf⟩:=hf;exact .arr _ _ _ _ _ _ _ _ f (hG _ hg) hfc hcap hc λi j hi hj=>ih i j hi hj (hf i j hi hj)
 |cmp o fit dom get b es clock hg hb hm _ ih=>
  simp only[Old]at hf;obtain⟨rfl,hf⟩:=hf;exact .cmp _ _ _ _ b es clock (hG _ hg) hb hm λe he=>ih e he (hf _ (hm.doms e he))
 |cutNil id k hN=>exact hN.elim
 |cut id n k b hN=>exact hN.elim
 |ptr id off b hN=>exact hN.elim
 |elt id k i j b hN=>exact hN.elim
 |vecNil id k hN=>exact hN.elim
 |vec id n k b cap cs t hN=>exact hN.elim
 |mp id b hN=>exact hN.elim
 |asl id off n k b cap hN=>exact hN.elim
 |queNil id off k a hN=>exact hN.elim
 |que id off n k b cap cs t hN=>exact hN.elim
 |yld id b hN=>exact hN.elim
def argFr:Nat→List SV→List (Nat×SV)
 |_,[]=>[]
 |i,a :: l=>(i,a) :: argFr (i+1) l
theorem GD(l:List SV)(i t:Nat):look (argFr i l) t=if t<i then .top else l.getD (t - i) .top:=by
 induction l generalizing i with
 |nil=>simp[argFr,look]
 |cons a l ih=>
  simp only[argFr,look,ih];by_cases h:t=i
  ·subst h;simp
  ·grind
def resultVC(P:Program)(rv:ResultVar)(st:St)(K:SV→Prop):Prop:=
 match rv with
 |.tmp t=>K (look st.fr t)
 |.cell t ty=>match rLoad (qn P ty) st.hp (look st.fr t)with
  |.pure obl sv=>obl∧K sv
  |.ex obl=>∃sv,obl sv∧K sv
  |_=>False
def resultsVC(P:Program):List ResultVar→St→(List SV→Prop)→Prop
 |[],st,K=>K []
 |rv :: l,st,K=>resultVC P rv st λs=>resultsVC P l st λm=>K (s :: m)
def retVC(P:Program)(rs:List ResultVar)(st:St)(res:SV):Prop:=
 resultsVC P rs st λm=>match m with
  |[s]=>Sub st.hp res s
  |m=>Sub st.hp res (.tup m)
def yG(tmps:Array Value):ResultVar→Sem Value
 |.tmp t=>pure (tmps.getD t undef)
 |.cell a t=>do loadVar t (←asAddr (tmps.getD a undef))
def J8:List Value→Value
 |[v]=>v
 |l=>.tuple l.toArray
theorem Yz(fn:Func)(tmps:Array Value)(w:World)(vs:List Value)(h:(fn.results.toList.mapM (yG tmps)).run P w=.ok vs w) :
  (results fn tmps).run P w=.ok (J8 vs) w:=by
 have e:results fn tmps=(do let vs ←fn.results.mapM (yG tmps);pure (if h:vs.size=1 then vs[0]else .tuple vs)):=by
  unfold results
  congr 1
 rw[e,Array.mapM_eq_mapM_toList];simp only[Sem.run_bind,Sem.run_map,h,Result.andThen_ok,Sem.run_pure]
 match vs with
 |[]=>rfl
 |[v]=>rfl
 |v :: u :: l=>simp[J8]
theorem Qf{t:TypeId}{u:Value}(h:(Instr.loadAt t v).run P w=.ok u w):(do loadVar t (←asAddr v)).run P w=.ok u w:=by
 cases v with
 |pointer a=>
  cases a with
  |none=>simp[Instr.loadAt,Instr.sureAddr]at h
  |some a=>exact h
 |_=>simp[Instr.loadAt,Instr.sureAddr]at h
theorem GF{st:St}{a:Act}{w:World}{r:Nat→Option Nat}{k:Nat}(hi:InvR O base okc ns k r outs st a w):∀(rs:List ResultVar)(K:List SV→Prop),resultsVC P rs st K→
  ∃m vs,K m∧(rs.mapM (yG a.tmps)).run P w=.ok vs w∧m.length=vs.length∧∀i sv,m[i]? = some sv→Rep r (· < k) (Gd base okc r (· < k) st.hp w) w sv (vs.getD i undef)
 |[],K,h=>⟨[],[],h,rfl,rfl,λi sv hi=>by simp at hi⟩
 |rv :: rs,K,h=>by
  have one:∃s v,resultsVC P rs st (λm=>K (s :: m))∧(yG a.tmps rv).run P w=.ok v w∧Rep r (· < k) (Gd base okc r (· < k) st.hp w) w s v:=by
   cases rv with
   |tmp t=>exact⟨_,_,h,rfl,hi.fr t⟩
   |cell t ty=>
    have hg:=run_load (P:=P) (t:=ty) hi.sat.ok (hi.fr t);simp only[resultsVC,resultVC]at h;generalize rLoad (qn P ty) st.hp (look st.fr t)=res at h hg;cases res with
    |pure obl sv=>
     obtain⟨v,hv,hrep⟩:=hg h.1;exact⟨sv,v,h.2,Qf hv,hrep⟩
    |ex obl=>
     obtain⟨sv,ho,h⟩:=h;obtain⟨v,hv,hrep⟩:=hg sv ho;exact⟨sv,v,h,Qf hv,hrep⟩
    |_=>exact h.elim
  obtain⟨s,v,hk,hv,hrep⟩:=one;obtain⟨m,vs,hK,hrun,hlen,hreps⟩:=GF hi rs _ hk;refine⟨s :: m,v :: vs,hK,?_,by simp[hlen],λi sv hi=>?_⟩
  ·simp_all
  ·grind
theorem kD(hm:P.follows .mixedOrders=true){f:FuncId}{fn:Func}(hf:P.funcs[f]? = some fn)(hb:fn.body=some c)(hok:qJ O.far fn.ntmps c=true)(hO:O.rnd=false){st0:St}{Post:St→List SV→Prop}{R:Ending→World→Prop}
  (h0:Inv O base okc fn.ntmps st0.nid outs st0 { tmps:=vs++Array.replicate (fn.ntmps - vs.size) undef,defers:=[] } w)
  (h:vc P O c st0 (λe st=>match e with|.exit _=>False|_=>resultsVC P fn.results.toList st (Post st)))
  (hR:∀(st:St)(r:Nat→Option Nat)(a:Act)(w':World)(m:List SV)(us:List Value),Post st m→InvR O base okc fn.ntmps st.nid r outs st a w'→m.length=us.length→
   (∀i sv,m[i]? = some sv→Rep r (· < st.nid) (Gd base okc r (· < st.nid) st.hp w') w' sv (us.getD i undef))→R (.returned (J8 us)) w'):Calls P f vs w R:=by
 refine(callsIn_wide (n:=0)).1 (callsIn_of_wp_marks (F:=FR none) hf hb trivial ?_);refine wG hm (ro:=none) (by rw[hO];rfl) c st0 _ _ _ _ hok h h0 λe st' a' w' hk hi=>?_;have fin:resultsVC P fn.results.toList st' (Post st')→LeavesInM (FR none) 0 P fn a'.tmps R a'.defers .returning w':=by
  intro hr;obtain⟨r,hi⟩:=hi;obtain⟨Ds,hd,hnd,hDs,hi2⟩:=Yy hi;rw[hd];obtain⟨m,us,hK,hrun,hlen,hreps⟩:=GF hi2 _ _ hr;exact GC Ds w' hnd hDs ⟨_,Yz fn a'.tmps _ us hrun,hR _ _ _ _ m us hK hi2 hlen hreps⟩
 cases e with
 |normal=>exact fin hk
 |exit i=>exact hk.elim
 |ret=>exact fin hk
theorem yH{n:Nat}(hl:args.length=vs.size)(hn:vs.size≤n)(ha:∀i sv,args[i]? = some sv→Rep r N G w sv (vs.getD i undef))(i:Nat) :
  Rep r N G w (look (argFr 0 args) i) ((vs++Array.replicate (n - vs.size) undef).getD i undef):=by
 rw[GD];simp only[Nat.not_lt_zero,if_false,Nat.sub_zero];by_cases hlt:i<args.length
 ·have hi:args[i]? = some (args.getD i .top):=by simp[hlt]
  have e:(vs++Array.replicate (n - vs.size) undef).getD i undef=vs.getD i undef:=by
   simp only[xf5]
   grind
  grind
 ·have:args.getD i .top=.top:=by simp only[xc6];rw[List.getElem?_eq_none Ω];rfl
  rw[this];exact .top _
def oneSV:List SV→SV
 |[s]=>s
 |m=>.tup m
theorem vC{m:List SV}{us:List Value}(hl:m.length=us.length)(h:∀i sv,m[i]? = some sv→Rep r N G w sv (us.getD i undef)):Rep r N G w (oneSV m) (J8 us):=by
 match m,us,hl,h with
 |[s],[u],_,h=>simpa[oneSV,J8]using h 0 s rfl
 |[],[],_,_=>exact .tup _ _ rfl λi sv hi=>by simp at hi
 |s1 :: s2 :: m,u1 :: u2 :: us,hl,h=>exact .tup _ _ Ω5 λi sv hi=>by simpa using h i sv hi
theorem GG(rs:List ResultVar)(st:St)(res:SV):retVC P rs st res=resultsVC P rs st (λm=>Sub st.hp res (oneSV m)):=by
 unfold retVC;have:(λ(m:List SV)=>match m with|[s]=>Sub st.hp res s|m=>Sub st.hp res (.tup m))=λm=>Sub st.hp res (oneSV m):=by
  funext m;match m with
  |[]=>rfl
  |[s]=>rfl
  |a :: b :: m=>rfl
 rw[←this]
abbrev C0F(far:Nat→List (Nat×Nat)):Ctx:=⟨[],0,false,far⟩
theorem qpZ{far:Nat→List (Nat×Nat)}{okc:Nat→Prop}{n:Nat}(hl:args.length=vs.size)(hn:args.length≤n)(hold:OldL args)(ha:∀i sv,args[i]? = some sv→Rep noR noN (λ_ b=>okc b∧b<w.heap.size) w sv (vs.getD i undef)) :
  Inv (C0F far) w okc n 0 ⟨[],noR⟩ { fr:=argFr 0 args,hp:=[],nid:=0 } { tmps:=vs++Array.replicate (n - vs.size) undef,defers:=[] } w:=by
 refine⟨noR,⟨Below.refl _ _,λid x hx=>by simp[blk]at hx,λid x b hx=>by simp[blk]at hx,λid x id' x' b hx=>by simp[blk]at hx⟩,λid x hx=>by simp[blk]at hx,
  yH hl Ω λi sv hi=>?_,Ωj,xa5 _,trivial,λid hid=>absurd hid (Nat.not_lt_zero _),⟨[],rfl,List.nodup_nil,λD hD=>by simp at hD⟩⟩
 refine qln (λb hb=>⟨hb.2,λid x hx=>by simp[blk]at hx,?_⟩) (ha i sv hi) (vB hold i sv hi)
 simp_all
theorem kP (far : Nat → List (Nat × Nat)) {f : FuncId} {fn : Func} {c : Code} (hf : P.funcs[f]? = some fn) (hb : fn.body = some c) (hname : (fn.name == "runtime.NumGoroutine") = false) (hm : P.follows .mixedOrders = true)
  (hok:qJ far fn.ntmps c=true) (args:List SV) (res:SV) (hlen:args.length≤fn.ntmps) (hold:OldL args)
  (h:vc P ⟨[],0,false,far⟩ c { fr:=argFr 0 args,hp:=[],nid:=0 } (λe st=>match e with|.exit _=>False|_=>retVC P fn.results.toList st res)):qf P f args res:=by
 refine⟨⟨fn,hf,hname,by rw[hb];rfl⟩,λokc w vs hl ha=>kD hm hf hb hok (O:=C0F far) (st0:=⟨argFr 0 args,[],0⟩) rfl (Post:=λst m=>Sub st.hp res (oneSV m)) (qpZ hl hlen hold ha) ?_ λst r a w' m us hP hi hml hreps=>?_⟩
 ·have e:(λ(e:Ex)(st:St)=>match e with|.exit _=>False|_=>retVC P fn.results.toList st res)=λe st=>match e with|.exit _=>False|_=>resultsVC P fn.results.toList st (λm=>Sub st.hp res (oneSV m)):=by
   funext e st;cases e<;>first|rfl|exact GG _ _ _
  simp_all
 ·refine⟨_,rfl,hi.sat.below,zt (λo o' b ho hg=>⟨hg.1,by
   have:=hg.2.2;cases o<;>cases o'<;>simp_all⟩) (λid x hx hN=>⟨hi.sat.rep id x hx hN,λb hb o=>⟨hi.sat.lt hx hN hb,by
   have:=hi.sat.own id x b hx hN hb;cases o<;>simp[this]⟩⟩) res _ _ hP (vC hml hreps)⟩
theorem qg {f : FuncId} {fn : Func} {c : Code} (hf : P.funcs[f]? = some fn) (hb : fn.body = some c) (hname : (fn.name == "runtime.NumGoroutine") = false) (hm : P.follows .mixedOrders = true)
  (hok:jz fn.ntmps c=true) (args:List SV) (res:SV) (hlen:args.length≤fn.ntmps) (hold:OldL args)
  (h:vc P ⟨[],0,false,zC⟩ c { fr:=argFr 0 args,hp:=[],nid:=0 } (λe st=>match e with|.exit _=>False|_=>retVC P fn.results.toList st res)):qf P f args res:=
 kP zC hf hb hname hm hok args res hlen hold h
end
end Go.Sx
end
section
namespace Go.Sx
open Go.RowKit
mutual
def SubO(hp:List (Nat×Blk))(j:Nat):SV→SV→Prop
 |.agg l,s=>match s with|.agg m=>SubOL hp j l m|_=>False
 |.tup l,s=>match s with|.tup m=>SubOL hp j l m|_=>False
 |.ptr i off,s=>match s with|.ptr id2 off2=>i=0∧id2=j∧off=off2|_=>False
 |.vec i n k,s=>match s with|.vec id2 n2 k2=>i=0∧id2=j∧n=n2∧k=k2|_=>False
 |.mp i,s=>match s with|.mp id2=>i=0∧id2=j|_=>False
 |.fn _ _ _,_=>False
 |.elt _ _ _ _,_=>False
 |.asl _ _ _ _,_=>False
 |.que _ _ _ _,_=>False
 |.cut _ _ _,_=>False
 |.yld _,_=>False
 |.top,s=>Sub (dropBlk hp j) .top s
 |.val v,s=>Sub (dropBlk hp j) (.val v) s
 |.ref o n row,s=>Sub (dropBlk hp j) (.ref o n row) s
 |.arr o full n k row,s=>Sub (dropBlk hp j) (.arr o full n k row) s
 |.cmp o fit dom get,s=>Sub (dropBlk hp j) (.cmp o fit dom get) s
def SubOL(hp:List (Nat×Blk))(j:Nat):List SV→List SV→Prop
 |[],m=>m=[]
 |a :: l,m=>match m with|b :: m=>SubO hp j a b∧SubOL hp j l m|[]=>False
end
def SubB(hp:List (Nat×Blk)):Blk→Blk→Prop
 |.cells t l,.cells t2 l2=>t=t2∧SubL hp l l2
 |.rows t k n row,.rows t2 k2 n2 row2=>t=t2∧k=k2∧n≤n2∧∀i j,i<n→j<k→Sub hp (row i j) (row2 i j)
 |.map fit dom get,.map fit2 dom2 get2=>fit=fit2∧dom=dom2∧∀key,dom key=true→Sub hp (get key) (get2 key)
 |.map fit dom get,.mapS fit2 dom2 get2 _ _=>fit=fit2∧dom=dom2∧∀key,dom key=true→Sub hp (get key) (get2 key)
 |_,_=>False
def Km(hp:List (Nat×Blk))(b:Blk)(res:SV)(s:SV):Prop:=
 ∃j b',blk hp j=some b'∧SubB (dropBlk hp j) b b'∧SubO hp j res s
def retNVC(P:Program)(rs:List ResultVar)(st:St)(b:Blk)(res:SV):Prop:=
 resultsVC P rs st λm=>match m with
  |[s]=>Km st.hp b res s
  |m=>Km st.hp b res (.tup m)
section
variable{r:Nat→Option Nat}{N:Nat→Prop}{G G':Bool→Nat→Prop}{w:World}{hp:List (Nat×Blk)}{j:Nat}
mutual
theorem YA(hG:∀o o' b,(o=true→o'=true)→G o' b→G' o b)(hB:∀id x,blk (dropBlk hp j) id=some x→N id→BlkRep r N G w (r id) x∧∀b,r id=some b→∀o,G' o b) :
  ∀(p s:SV)(v:Value),SubO hp j p s→Rep r N G w s v→Rep (Qk (r j)) VR G' w p v
 |.agg l,s,v,h,hv=>by
  cases s<;>simp only[SubO]at h
  cases hv with
  |agg m cs hl hr=>
   obtain⟨h1,h2⟩:=subO_repL hG hB l _ cs h hl hr;exact .agg _ _ h1 h2
 |.tup l,s,v,h,hv=>by
  cases s<;>simp only[SubO]at h
  cases hv with
  |tup m cs hl hr=>
   obtain⟨h1,h2⟩:=subO_repL hG hB l _ cs h hl hr;exact .tup _ _ h1 h2
 |.ptr i off,s,v,h,hv=>by
  cases s<;>simp only[SubO]at h
  obtain⟨rfl,rfl,rfl⟩:=h;cases hv with
  |ptr _ _ b hN hr=>exact .ptr _ _ b rfl (by simp[Qk,hr])
 |.vec i n k,s,v,h,hv=>by
  cases s<;>simp only[SubO]at h
  obtain⟨rfl,rfl,rfl,rfl⟩:=h;cases hv with
  |vecNil _ _ hN hr=>exact .vecNil _ _ rfl (by simp[Qk,hr])
  |vec _ _ _ b cap cs t hN hr hb hs hcap hm=>exact .vec _ _ _ b cap cs t rfl (by simp[Qk,hr]) hb hs hcap hm
 |.mp i,s,v,h,hv=>by
  cases s<;>simp only[SubO]at h
  obtain⟨rfl,rfl⟩:=h;cases hv with
  |mp _ b hN hr=>exact .mp _ b rfl (by simp[Qk,hr])
 |.fn _ _ _,s,v,h,hv=>by simp[SubO]at h
 |.elt _ _ _ _,s,v,h,hv=>by simp[SubO]at h
 |.asl _ _ _ _,s,v,h,hv=>by simp[SubO]at h
 |.que _ _ _ _,s,v,h,hv=>by simp[SubO]at h
 |.cut _ _ _,s,v,h,hv=>by simp[SubO]at h
 |.yld _,s,v,h,hv=>by simp[SubO]at h
 |.top,s,v,h,hv=>.top v
 |.val u,s,v,h,hv=>ka (λ_ _ h=>h) (zt hG hB _ s v h hv)
 |.ref o n row,s,v,h,hv=>ka (λ_ _ h=>h) (zt hG hB _ s v h hv)
 |.arr o full n k row,s,v,h,hv=>ka (λ_ _ h=>h) (zt hG hB _ s v h hv)
 |.cmp o fit dom get,s,v,h,hv=>ka (λ_ _ h=>h) (zt hG hB _ s v h hv)
theorem subO_repL(hG:∀o o' b,(o=true→o'=true)→G o' b→G' o b)(hB:∀id x,blk (dropBlk hp j) id=some x→N id→BlkRep r N G w (r id) x∧∀b,r id=some b→∀o,G' o b) :
  ∀(l m:List SV)(cs:Array Value),SubOL hp j l m→m.length=cs.size→(∀i sv,m[i]? = some sv→Rep r N G w sv (cs.getD i undef))→l.length=cs.size∧∀(i:Nat)(a:SV),l[i]? = some a→Rep (Qk (r j)) VR G' w a (cs.getD i undef)
 |[],m,cs,h,hl,hr=>by simp only[SubOL]at h;subst h;exact⟨hl,λi a ha=>by simp at ha⟩
 |p :: l,m,cs,h,hl,hr=>by
  cases m with
  |nil=>simp[SubOL]at h
  |cons b m=>
   simp only[SubOL]at h;have hcs:∀i,(cs.extract 1 cs.size).getD i undef=cs.getD (i+1) undef:=λi=>by
    simp only[xf5,Array.getElem?_extract];by_cases hh:i<min cs.size cs.size - 1
    ·grind
    ·grind
   obtain⟨h1,h2⟩:=subO_repL hG hB l m (cs.extract 1 cs.size) h.2 (by simp at hl ⊢;omega) (λi sv hi=>by
    rw[hcs];exact hr (i+1) sv Ωah)
   refine⟨(by simp at h1 hl ⊢;omega),λi a ha=>?_⟩;cases i with
   |zero=>simp at ha;subst ha;exact YA hG hB p b _ h.1 (hr 0 b Ωg)
   |succ i=>
    simp_all
end
theorem qhm(hG:∀o o' b,(o=true→o'=true)→G o' b→G' o b)(hB:∀id x,blk (dropBlk hp j) id=some x→N id→BlkRep r N G w (r id) x∧∀b,r id=some b→∀o,G' o b)
  {ob:Option Nat} {b b':Blk} (hs:SubB (dropBlk hp j) b b') (h:BlkRep r N G w ob b'):BlkRep (Qk ob) VR G' w ob b:=by
 cases h with
 |cells t l x cs hb hl hr=>
  cases b<;>simp only[SubB]at hs
  obtain⟨rfl,hs⟩:=hs;exact .cells _ _ x cs hb ((kw hs).1.trans hl) λi a ha=>ka (λ_ _ h=>h) (sub_repL hG hB _ _ cs hs hl hr i a ha)
 |none t k row=>
  cases b<;>simp only[SubB]at hs
  obtain⟨rfl,rfl,hn,hs⟩:=hs;have hn0:=Nat.le_zero.1 hn;subst hn0;exact .none _ _ _
 |rows t k n row x cs hb hl hr=>
  cases b<;>simp only[SubB]at hs
  obtain⟨rfl,rfl,hn,hs⟩:=hs;exact .rows _ _ _ _ x cs hb (xc1 (xa8 _ hn) hl) λi j hi hj=>ka (λ_ _ h=>h) (zt hG hB _ _ _ (hs i j hi hj) (hr i j Ω hj))
 |mapS fit dom get stamp x es _ hb hm ht hst hr=>
  cases b<;>simp only[SubB]at hs
  obtain⟨rfl,rfl,hs⟩:=hs;exact .map _ _ _ x es _ hb hm ht λe he=>ka (λ_ _ h=>h) (zt hG hB _ _ _ (hs _ (hm.doms e he)) (hr e he))
 |iter _ _ _ _ _ _ _=>cases b<;>simp only[SubB]at hs
 |loop _ _ _ _=>cases b<;>simp only[SubB]at hs
 |map fit dom get x es clock hb hm ht hr=>
  cases b<;>simp only[SubB]at hs
  obtain⟨rfl,rfl,hs⟩:=hs;exact .map _ _ _ x es clock hb hm ht λe he=>ka (λ_ _ h=>h) (zt hG hB _ _ _ (hs _ (hm.doms e he)) (hr e he))
end
theorem qfx{P:Program}(rs:List ResultVar)(st:St)(b:Blk)(res:SV):retNVC P rs st b res=resultsVC P rs st (λm=>Km st.hp b res (oneSV m)):=by
 unfold retNVC;have:(λ(m:List SV)=>match m with|[s]=>Km st.hp b res s|m=>Km st.hp b res (.tup m))=λm=>Km st.hp b res (oneSV m):=by
  funext m;match m with
  |[]=>rfl
  |[s]=>rfl
  |a :: b :: m=>rfl
 rw[←this]
theorem JE (far : Nat → List (Nat × Nat)) {P : Program} {f : FuncId} {fn : Func} {c : Code} (hf : P.funcs[f]? = some fn) (hb : fn.body = some c) (hname : (fn.name == "runtime.NumGoroutine") = false) (hm : P.follows .mixedOrders = true)
  (hok:qJ far fn.ntmps c=true) (args:List SV) (b:Blk) (res:SV) (hlen:args.length≤fn.ntmps) (hold:OldL args)
  (h:vc P ⟨[],0,false,far⟩ c { fr:=argFr 0 args,hp:=[],nid:=0 } (λe st=>match e with|.exit _=>False|_=>retNVC P fn.results.toList st b res)):zx P f args b res:=by
 refine⟨⟨fn,hf,hname,by rw[hb];rfl⟩,λokc w vs hl ha=>kD hm hf hb hok (O:=C0F far) (st0:=⟨argFr 0 args,[],0⟩) rfl (Post:=λst m=>Km st.hp b res (oneSV m)) (qpZ hl hlen hold ha) ?_ λst r a w' m us hP hi hml hreps=>?_⟩
 ·have e:(λ(e:Ex)(st:St)=>match e with|.exit _=>False|_=>retNVC P fn.results.toList st b res)=λe st=>match e with|.exit _=>False|_=>resultsVC P fn.results.toList st (λm=>Km st.hp b res (oneSV m)):=by
   funext e st;cases e<;>first|rfl|exact qfx _ _ _ _
  rw[e]at h;exact h
 ·obtain⟨j,b',hj,hsb,hso⟩:=hP
  have hv:=vC hml hreps;have hNj:=hi.keys j b' hj;have hG:∀o o' c,(o=true→o'=true)→Gd w okc r (· < st.nid) st.hp w' o' c→(c<w'.heap.size∧r j≠some c∧if o=true then w.heap.size≤c else okc c∨w.heap.size≤c):=λo o' c ho hg=>⟨hg.1,hg.2.1 j b' hj hNj,by
   have:=hg.2.2;cases o<;>cases o'<;>simp_all⟩
  have hB:∀id x,blk (dropBlk st.hp j) id=some x→id<st.nid→BlkRep r (· < st.nid) (Gd w okc r (· < st.nid) st.hp w') w' (r id) x∧∀c,r id=some c→∀o,(c<w'.heap.size∧r j≠some c∧if o=true then w.heap.size≤c else okc c∨w.heap.size≤c):=λid x hx hN=>by
   rw[qv]at hx;split at hx
   ·cases hx
   ·rename_i hne
    refine⟨hi.sat.rep id x hx hN,λc hc o=>⟨hi.sat.lt hx hN hc,λe=>hne (hi.sat.inj _ _ _ _ _ hx hN hj hNj hc e),?_⟩⟩;have:=hi.sat.own id x c hx hN hc
    simp_all
  exact⟨_,r j,rfl,hi.sat.below,λc hc=>hi.sat.own j b' c hj hNj hc,qhm hG hB hsb (hi.sat.rep j b' hj hNj),YA hG hB res _ _ hso hv⟩
theorem jJ {P : Program} {f : FuncId} {fn : Func} {c : Code} (hf : P.funcs[f]? = some fn) (hb : fn.body = some c) (hname : (fn.name == "runtime.NumGoroutine") = false) (hm : P.follows .mixedOrders = true)
  (hok:jz fn.ntmps c=true) (args:List SV) (b:Blk) (res:SV) (hlen:args.length≤fn.ntmps) (hold:OldL args)
  (h:vc P ⟨[],0,false,zC⟩ c { fr:=argFr 0 args,hp:=[],nid:=0 } (λe st=>match e with|.exit _=>False|_=>retNVC P fn.results.toList st b res)):zx P f args b res:=
 JE zC hf hb hname hm hok args b res hlen hold h
end Go.Sx
end
section
namespace Go.Sx
open Go.RowKit
variable{r:Nat→Option Nat}{clk k mid nid y:Nat}{st:St}{a:Act}{w:World}{fr:List (Nat×SV)}{K:St→SV→Prop}{L:Loop}{o:Option Blk}{x:Operand}{dom fit:Value→Bool}{stamp:Value→Nat}
theorem OutOk.low{r r0:Nat→Option Nat}{lo lo0:Nat}{G G0:Bool→Nat→Prop}{w w0:World}:∀{fs:List Fr}{as as0:List Act},OutOk r lo G w fs as→OutOk r0 lo0 G0 w0 fs as0→OutOk r lo0 G w fs as
 |[],[],[],h,_=>h
 |f :: fs,a :: as,a0 :: as0,⟨h1,h2,h3,h4,h5⟩,⟨_,k2,_,_,k5⟩=>⟨h1,k2,h3,h4,OutOk.low h5 k5⟩
section
variable{P:Program}{O:Ctx}{base:World}{okc:Nat→Prop}{ns:Nat}{outs:jj}
theorem InvR.push(h:InvR O base okc ns k r outs st a w)(rcd:Option Loop)(hrc:∀L,rcd=some L→L.tmps=a.tmps)(rnd:Bool){a2:Act}{n2:Nat}
  (hfr:∀i,Rep r (· < k) (Gd base okc r (· < k) st.hp w) w (look fr i) (a2.tmps.getD i undef)) (hs:a2.tmps.size=n2) (hd:a2.defers=[]) :
  InvR ⟨⟨st.fr,rcd,ns,k⟩ :: O.fs,k,rnd,zC⟩ base okc n2 k r ⟨a :: outs.as,r⟩ ⟨fr,st.hp,nid⟩ a2 w:=by
 refine⟨h.sat,h.keys,hfr,hs,xa5 _,⟨h.fr,xa5 _,h.size,hrc,h.out.mono h.lo λn hn sv v hv=>hv⟩,λ_ _=>rfl,?_⟩;obtain⟨Ds,h1,h2,h3⟩:=h.defers;exact⟨Ds,by simpa[Kv,hd]using h1,h2,h3⟩
theorem InvR.pop{r0:Nat→Option Nat}{k0:Nat}{st0:St}{a0 a2:Act}{w0:World}{rcd:Option Loop}{rnd:Bool}{n2 n0:Nat}
  (h:InvR ⟨⟨fr,rcd,ns,k0⟩ :: O.fs,k0,rnd,zC⟩ base okc n2 k r ⟨a :: outs.as,r0⟩ st a2 w) (h0:InvR O base okc n0 k0 r0 outs st0 a0 w0) :
  InvR O base okc ns k r outs ⟨fr,st.hp,nid⟩ a w:=by
 obtain⟨o1,o2,o3,o4,o5⟩:=h.out;refine⟨h.sat,h.keys,λi=>(o1 i).mono (λ_ _=>rfl) (λi hi=>xa9 hi h.lo) (λ_ _ hg=>⟨hg,rfl⟩) (Shapes.refl _),o3,xc1 h0.lo h.lo,o5.low h0.out,λid hid=>(h.rfix id (xa9 hid h0.lo)).trans (h0.rfix id hid),?_⟩;obtain⟨Ds,h1,h2,h3⟩:=h.defers;unfold Kv at h1;simp only[List.map_cons,List.flatten_cons]at h1;obtain⟨l1,l2,rfl,e1,e2⟩:=List.append_eq_map_iff.1 h1;exact⟨l2,e2.symm,(List.nodup_append.1 h2).2.1,λD hD=>h3 D (by simp[hD])⟩
theorem gF {f : FuncId} {fn : Func} {c : Code} (hf : P.funcs[f]? = some fn) (hb : fn.body = some c) (hname : (fn.name == "runtime.NumGoroutine") = false) (vs : Array Value) (w : World) : (callFunc f vs).run P w = .ok (.enter f vs) w := by
 simp only[callFunc,Sem.run_bind,run_program,Result.andThen_ok,hf,hname,xe7,if_false,hb,Option.isNone_some,Sem.run_pure]
theorem qfy (hm : P.follows .mixedOrders = true) {f : FuncId} {fn : Func} {c : Code} (hf : P.funcs[f]? = some fn) (hb : fn.body = some c) (hname : (fn.name == "runtime.NumGoroutine") = false) (hok : jz fn.ntmps c = true) {args : List SV} (hlen : args.length ≤ fn.ntmps) {st : St} {K : St → SV → Prop}
  (h:∀out:List Fr,vc P ⟨out,st.nid,false,zC⟩ c ⟨argFr 0 args,st.hp,st.nid⟩ (λe st'=>match e with|.exit _=>False|_=>resultsVC P fn.results.toList st' (λm=>K ⟨st.fr,st'.hp,st'.nid⟩ (oneSV m)))):ky P O f args st K:=by
 intro base okc ns r outs a w vs h0 hl ha;refine⟨gF hf hb hname vs w,?_⟩;refine kD hm hf hb hok (O:=⟨⟨st.fr,none,ns,st.nid⟩ :: O.fs,st.nid,false,zC⟩) (outs:=⟨a :: outs.as,r⟩) (base:=base) (okc:=okc) (st0:=⟨argFr 0 args,st.hp,st.nid⟩) rfl (Post:=λst' m=>K ⟨st.fr,st'.hp,st'.nid⟩ (oneSV m))
  ⟨r,h0.push none (λ_ h=>by cases h) false (yH hl Ω ha) Ωj rfl⟩ (h _) λst' r' a' w' m us hP hi hml hreps=>?_
 exact⟨_,⟨st.fr,st'.hp,st'.nid⟩,r',oneSV m,rfl,hP,hi.lo,hi.pop h0,vC hml hreps⟩
def qdc(fs:List Fr)(L:Loop)(fr:List (Nat×SV))(ps:List Tmp)(A B:Code):Prop:=
 ∃ns lo rest,fs=⟨fr,some L,ns,lo⟩ :: rest∧jz ns A=true∧jz ns B=true∧ps.all (λt=>decide (t<ns))=true∧L.params=ps.toArray∧L.assign=A∧L.body=B
def putPs:List (Nat×SV)→List Tmp→List SV→List (Nat×SV)
 |fr,p :: ps,a :: as=>putPs (putFr fr p a) ps as
 |fr,_,_=>fr
theorem ZP{r:Nat→Option Nat}{N:Nat→Prop}{G:Bool→Nat→Prop}{w:World}{ns:Nat}:∀{ps:List Tmp}{args:List SV}{vs:List Value}{fr:List (Nat×SV)}{tmps:Array Value},(∀i,Rep r N G w (look fr i) (tmps.getD i undef))→tmps.size=ns→ps.all (λt=>decide (t<ns))=true→args.length=vs.length→
  (∀i sv,args[i]? = some sv→Rep r N G w sv (vs.getD i undef))→
  (∀i,Rep r N G w (look (putPs fr ps args) i) (((ps.zip vs).foldl (λtmps (t,a)=>tmps.setIfInBounds t a) tmps).getD i undef))∧((ps.zip vs).foldl (λtmps (t,a)=>tmps.setIfInBounds t a) tmps).size=ns
 |[],args,vs,fr,tmps,h,hs,_,_,_=>⟨by simpa[putPs]using h,(by simpa using hs)⟩
 |p :: ps,[],[],fr,tmps,h,hs,_,_,_=>⟨by simpa[putPs]using h,(by simpa using hs)⟩
 |p :: ps,[],_ :: _,_,_,_,_,_,hl,_=>by simp at hl
 |p :: ps,_ :: _,[],_,_,_,_,_,hl,_=>by simp at hl
 |p :: ps,s :: args,v :: vs,fr,tmps,h,hs,hps,hl,ha=>by
  simp only[List.all_cons,xe6,decide_eq_true_eq]at hps;simp only[putPs,List.zip_cons_cons,List.foldl_cons];refine ZP (λi=>?_) (by simpa using hs) hps.2 Ω5 λi sv hi=>by simpa using ha (i+1) sv Ωah
  rw[zn];simp only[xf5,Array.getElem?_setIfInBounds];by_cases e:i=p
  ·subst e
   simp only[if_true];rw[if_pos (by rw[hs];exact hps.1)];simpa using ha 0 s rfl
  ·rw[if_neg e,if_neg (Ne.symm e)]
   simpa using h i
def qlo(y:Nat)(L:Loop)(fr:List (Nat×SV))(K:St→SV→Prop)(hp:List (Nat×Blk))(nid:Nat):Ex→Prop
 |.normal=>K ⟨fr,setBlk hp y (.loop L .ready),nid⟩ (.val (.bool true))
 |.ret=>K ⟨fr,setBlk hp y (.loop L .retd),nid⟩ (.val (.bool false))
 |.exit i=>K ⟨fr,setBlk hp y (.loop L (.left i)),nid⟩ (.val (.bool false))
def Qs(L:Loop):Option Blk→Prop
 |some (.loop L' .busy)=>L'=L
 |_=>False
def Q1(L:Loop):Option Blk→Prop
 |some (.loop L' .ready)=>L'=L
 |_=>False
theorem J9(h:Qs L o):o=some (.loop L .busy):=by
 unfold Qs at h;split at h
 ·rw[h]
 ·exact h.elim
theorem GH(h:Q1 L o):o=some (.loop L .ready):=by
 unfold Q1 at h;split at h
 ·rw[h]
 ·exact h.elim
def j8(y:Nat)(L:Loop)(fr:List (Nat×SV))(K:St→SV→Prop):Ex→St→Prop
 |e,st2=>Qs L (blk st2.hp y)∧qlo y L fr K st2.hp st2.nid e
def w7(P:Program)(O:Ctx)(y:Nat)(L:Loop)(B:Code)(K:Ex→St→Prop):Ex→St→Prop
 |.normal,st1=>Q1 L (blk st1.hp y)∧vc P O B ⟨st1.fr,setBlk st1.hp y (.loop L .busy),st1.nid⟩ K
 |_,_=>False
theorem vD{hp:List (Nat×Blk)}{x x':Blk}(h:blk hp y=some x)(hk:∀id z,blk hp id=some z→id<k):∀id z,blk (setBlk hp y x') id=some z→id<k:=λid z hz=>by
 rw[qq]at hz;split at hz
 ·simp_all
 ·exact hk _ _ hz
theorem jo(h:InvR O base okc ns k r outs st a w){l:Nat}{s s':RSt}(hb:blk st.hp y=some (.loop L s))(hr:r y=some l) :
  w.heap[l]? = some (.loop { L with state:=s.state,pending:=s.pend })∧InvR O base okc ns k r outs ⟨st.fr,setBlk st.hp y (.loop L s'),st.nid⟩ a (w.putObj l (.loop { L with state:=s'.state,pending:=s'.pend })):=by
 have hy:=h.keys y _ hb;have hrep:=h.sat.rep y _ hb hy;rw[hr]at hrep;cases hrep with
 |loop _ _ _ hl=>
  refine⟨hl,?_⟩;have hs:Step base okc r (· < k) st.hp w r (· < k) (setBlk st.hp y (.loop L s')) (w.putObj l (.loop { L with state:=s'.state,pending:=s'.pend })):=
   kx h.sat hb hy hr hl (λ_ _ _=>by simp) _ (.loop L s') λG' w' hw' _=>.loop L s' l hw'
  exact h.step hs (vD hb h.keys) (xa5 _) (d:=none) (λt ht=>by cases ht) (.top undef)
theorem qhn(hm:P.follows .mixedOrders=true){args:List SV}{ps:List Tmp}{A B:Code}(R:qdc O.fs L fr ps A B)(hb:blk st.hp y=some (.loop L .ready))(hlen:args.length=ps.length)
  (h:∀out:List Fr,vc P ⟨out,st.nid,true,zC⟩ A ⟨putPs fr ps args,st.hp,st.nid⟩ (w7 P ⟨out,st.nid,true,zC⟩ y L B (j8 y L st.fr K))):wd P O y args st K:=by
 obtain⟨nc,lo,rest,hfs,hcA,hcB,hps,hpar,hass,hbody⟩:=R;intro base okc ns r outs a w vs l h0 hl ha hy hr;obtain⟨hheap,-⟩:=jo (s':=.ready) h0 hb hr;have hrun:=run_yield (P:=P) (args:=vs) hheap (by show vs.size=L.params.size;rw[hpar,←hl,hlen];simp);refine⟨_,_,_,_,hrun,?_⟩;have hout:=h0.out;rw[hfs]at hout;obtain⟨ac,outs',hac,o1,o2,o3,o4,o5⟩:∃ac outs',outs.as=ac :: outs'∧(∀i,Rep r (· < lo) (Gd base okc r (· < st.nid) st.hp w) w (look fr i) (ac.tmps.getD i undef))∧lo≤O.lo∧ac.tmps.size=nc∧(∀L',some L=some L'→L'.tmps=ac.tmps)∧OutOk r O.lo (Gd base okc r (· < st.nid) st.hp w) w rest outs':=by
  cases hA:outs.as with
  |nil=>rw[hA]at hout;exact hout.elim
  |cons ac outs'=>rw[hA]at hout;exact⟨ac,outs',rfl,hout⟩
 have htm:L.tmps=ac.tmps:=o4 L rfl;obtain⟨q1,q2⟩:=ZP (r:=r) (N:=(· < st.nid)) (G:=Gd base okc r (· < st.nid) st.hp w) (w:=w) (ns:=nc) (ps:=ps) (args:=args) (vs:=vs.toList) (fr:=fr) (tmps:=L.tmps)
  (λi=>by rw[htm];exact(o1 i).mono (λ_ _=>rfl) (λi hi=>xa9 hi (xc1 o2 h0.lo)) (λ_ _ hg=>⟨hg,rfl⟩) (Shapes.refl _)) (by rw[htm];exact o3) hps Ω5 (λi sv hi=>by simpa using ha i sv hi)
 have htmps:(L.params.zip vs).foldl (λtmps (t,a)=>tmps.setIfInBounds t a) L.tmps=(ps.zip vs.toList).foldl (λtmps (t,a)=>tmps.setIfInBounds t a) L.tmps:=by
  rw[hpar,←Array.foldl_toList];simp
 show RoundIn Fence.wide 0 P l L.fn ((L.params.zip vs).foldl (λtmps (t,a)=>tmps.setIfInBounds t a) L.tmps) L.assign L.body w _;rw[htmps,hass,hbody];refine roundIn_of_wpIn (F:=Fence.wide) trivial ?_;have hI:=h0.push none (λ_ h=>by cases h) true (a2:={ tmps:=(ps.zip vs.toList).foldl (λtmps (t,a)=>tmps.setIfInBounds t a) L.tmps,defers:=[] }) (n2:=nc) (nid:=st.nid) q1 q2 rfl;refine wG hm (ro:=some l) (O:=⟨⟨st.fr,none,ns,st.nid⟩ :: O.fs,st.nid,true,zC⟩) rfl A _ _ _ _ _ hcA (h _) ⟨r,hI⟩ λe st1 a1 w1 hk hi1=>?_;cases e with
 |exit i=>exact hk.elim
 |ret=>exact hk.elim
 |normal=>
  obtain⟨hb1,hvc⟩:=hk;have hb1:=GH hb1;obtain⟨r1,hi1⟩:=hi1;have e1:r1 y=some l:=(hi1.rfix y hy).trans hr;obtain⟨g1,t1⟩:=jo (s':=.busy) hi1 hb1 e1;refine⟨_,run_beginRound g1 rfl,?_⟩;refine wG hm (ro:=some l) (O:=⟨⟨st.fr,none,ns,st.nid⟩ :: O.fs,st.nid,true,zC⟩) rfl B _ _ _ _ _ hcB hvc ⟨r1,t1⟩ λe st2 a2 w2 hk2 hi2=>?_;obtain⟨hb2,hk2⟩:=hk2;have hb2:=J9 hb2;obtain⟨r2,hi2⟩:=hi2;have e2:r2 y=some l:=(hi2.rfix y hy).trans hr;have fin:∀(jump:Option Code)(s':RSt),s'.state=(if jump.isNone then LoopState.ready else .done)→s'.pend=jump→K ⟨st.fr,setBlk st2.hp y (.loop L s'),st2.nid⟩ (.val (.bool jump.isNone))→
    ∃v w',(Instr.endRound l jump).run P w2=.ok v w'∧∃v' st' r' res,Ending.returned v=.returned v'∧K st' res∧st.nid≤st'.nid∧InvR O base okc ns st'.nid r' outs st' a w'∧Rep r' (· < st'.nid) (Gd base okc r' (· < st'.nid) st'.hp w') w' res v':=by
   intro jump s' hs1 hs2 hK;obtain⟨g2,t2⟩:=jo (s':=s') hi2 hb2 e2;refine⟨_,_,run_endRound jump g2,_,⟨st.fr,setBlk st2.hp y (.loop L s'),st2.nid⟩,r2,_,rfl,hK,hi2.lo,?_,.val _⟩;rw[hs1,hs2]at t2;exact t2.pop (nid:=st2.nid) h0
  cases e with
  |normal=>exact fin none .ready rfl rfl hk2
  |ret=>exact fin (some .ret) .retd rfl rfl hk2
  |exit i=>exact fin (some (.exit i)) (.left i) rfl rfl hk2
def qdd(fr:List (Nat×SV))(K:Ex→St→Prop)(hp:List (Nat×Blk))(nid id:Nat):RSt→Prop
 |.ready=>K .normal ⟨fr,dropBlk hp id,nid⟩
 |.retd=>K .ret ⟨fr,dropBlk hp id,nid⟩
 |.left i=>K (.exit i) ⟨fr,dropBlk hp id,nid⟩
 |_=>False
def vE(L:Loop)(fr:List (Nat×SV))(K:Ex→St→Prop)(hp:List (Nat×Blk))(nid id:Nat):Option Blk→Prop
 |some (.loop L' s)=>L'=L∧qdd fr K hp nid id s
 |_=>False
theorem Kn{K:Ex→St→Prop}{hp:List (Nat×Blk)}{id:Nat}(h:vE L fr K hp nid id o):∃s,o=some (.loop L s)∧qdd fr K hp nid id s:=by
 unfold vE at h;split at h
 ·simp_all
 ·exact h.elim
def kj(id:Nat)(L:Loop)(fr:List (Nat×SV))(K:Ex→St→Prop):Ex→St→Prop
 |.exit _,_=>False
 |.normal,st'=>vE L fr K st'.hp st'.nid id (blk st'.hp id)
 |.ret,st'=>vE L fr K st'.hp st'.nid id (blk st'.hp id)
theorem jc{rs:List ResultVar}(h:rs=[])(st:St)(K:List SV→Prop):resultsVC P rs st K=K []:=by subst h;rfl
theorem InvR.forget(h:InvR O base okc ns k r outs st a w)(id:Nat):InvR O base okc ns k r outs ⟨st.fr,dropBlk st.hp id,st.nid⟩ a w:=
 h.step (h.sat.sub (λj x hx=>by
  rw[qv]at hx;split at hx
  ·cases hx
  ·exact hx)) (λj x hx=>by
  rw[qv]at hx;split at hx
  ·cases hx
  ·exact h.keys j x hx) (xa5 _) (d:=none) (λt ht=>by cases ht) (.top undef)
set_option maxHeartbeats 1000000 in
theorem qho(hm:P.follows .mixedOrders=true)(hO:O.rnd=false){ps:List Tmp}{A B:Code}(hF:∀n,qJ O.far n (.rangeFunc x ps.toArray A B)=true→jz n (.rangeFunc x ps.toArray A B)=true){K:Ex→St→Prop}{gf:FuncId}{caps:List SV}{fn:Func}{c:Code}(hg:env (look st.fr) x=.fn (.func gf) [] caps)(hf:P.funcs[gf]? = some fn)(hb:fn.body=some c)
  (hname : (fn.name == "runtime.NumGoroutine") = false) (hok : jz fn.ntmps c = true) (hres : fn.results.toList = []) (hlen : caps.length + 1 ≤ fn.ntmps)
  (h:∀(out:List Fr)(L:Loop),qdc out L st.fr ps A B→vc P ⟨out,st.nid+1,false,zC⟩ c ⟨argFr 0 (.yld st.nid :: caps),(st.nid,.loop L .ready) :: st.hp,st.nid+1⟩ (kj st.nid L st.fr K)):wF P O (.rangeFunc x ps.toArray A B) st K:=by
 intro base okc ns outs a w ro Q hro hc hinv hQ;obtain⟨r,hi⟩:=hinv;have hro0:ro=none:=by rw[hO]at hro;cases ro<;>simp at hro ⊢
 subst hro0
 replace hc:=hF _ hc
 simp only[qJ,xe6]at hc;refine wpIn_rangeFunc λfn0 _=>?_;have hx:=hi.env x;rw[hg]at hx;generalize hex:a.eval x=u at hx;cases hx with
 |fn _ _ _ cs ds hl hmm h1 h2=>
 have hcs:cs = #[]:=Array.eq_empty_of_size_eq_zero (by simpa using hl.symm);subst hcs;generalize hW1:w.alloc (.deferred (some []))=W1;have hz1:W1.heap.size=w.heap.size+1:=by rw[←hW1];simp
 have hgrow:Step base okc r (· < st.nid) st.hp w r (· < st.nid) st.hp W1:=by rw[←hW1];exact hi.sat.grow ((Below.refl _ w).alloc (xa5 _) _)
 obtain⟨L,hL⟩:∃L:Loop,L = { state:=.ready,pending:=none,fn:=fn0,tmps:=a.tmps,params:=ps.toArray,assign:=A,body:=B,defers:=w.heap.size }:=⟨_,rfl⟩;have hLr:({ L with state:=RSt.ready.state,pending:=RSt.ready.pend }:Loop)=L:=by rw[hL];rfl
 have hi1:InvR O base okc ns st.nid r outs st a W1:=hi.step hgrow hi.keys (xa5 _) (d:=none) (λt ht=>by cases ht) (.top undef);have hnew:Step base okc r (· < st.nid) st.hp W1 (upd r st.nid (some W1.heap.size)) (zm (· < st.nid) st.nid) ((st.nid,.loop L .ready) :: st.hp) (W1.alloc (.loop L)):=
  hi1.sat.new st.nid Ωg (.loop L) (.loop L .ready) ΩS (λj hj=>by simp only[blk];rw[if_neg Ω]) λr' N' G' _ _ _ _ _=>.loop L .ready _ (by rw[hLr];exact qH W1 _)
 rw[gD]at hnew;have hi2:InvR O base okc ns (st.nid+1) (upd r st.nid (some W1.heap.size)) outs ⟨st.fr,(st.nid,.loop L .ready) :: st.hp,st.nid⟩ a (W1.alloc (.loop L)):=
  hi1.step hnew (λid y hy=>by
   simp only[blk]at hy;split at hy
   ·omega
   ·have:=hi1.keys id y hy;omega) Ω (d:=none) (λt ht=>by cases ht) (.top undef)
 have hD:(W1.alloc (.loop L)).heap[w.heap.size]? = some (.deferred (some [])):=by
  rw[zl _ _ Ω,←hW1];exact qH w _
 have hi3:InvR O base okc ns (st.nid+1) (upd r st.nid (some W1.heap.size)) outs ⟨st.fr,(st.nid,.loop L .ready) :: st.hp,st.nid⟩ { a with defers:=[vy w.heap.size]++a.defers } (W1.alloc (.loop L)):=by
  refine⟨hi2.sat,hi2.keys,hi2.fr,hi2.size,hi2.lo,hi2.out,hi2.rfix,?_⟩;obtain⟨Ds,e1,e2,e3⟩:=hi2.defers;obtain⟨Ds0,f1,f2,f3⟩:=hi.defers;have hDs:Ds=Ds0:=by
   have:Ds.map vy=Ds0.map vy:=by rw[←e1,←f1]
   exact(List.map_inj_right (λ_ _=>Yx)).1 this
  subst hDs;refine⟨w.heap.size :: Ds,by simp[Kv]at e1 ⊢;exact e1,List.nodup_cons.2 ⟨λhin=>?_,e2⟩,λD hDin=>?_⟩
  ·grind
  ·rcases List.mem_cons.1 hDin with e|e
   ·subst e
    refine⟨⟨Ωj,λid y hy hid=>?_,?_⟩,hD⟩
    ·simp only[blk]at hy
     split at hy
     ·rename_i e;subst e
      rw[qw]
      simp_all
     ·rename_i e
      rw[jQ _ e];intro e';have:=hi.sat.lt hy (hi.keys _ _ hy) e';omega
    ·simp only[if_true];exact hi.sat.below.size
   ·exact e3 D e
 obtain⟨vs,hvs⟩:∃vs:Array Value,vs = #[Value.func (Fn.yield W1.heap.size) #[] #[]]++ds:=⟨_,rfl⟩;have hvsz:vs.size=ds.size+1:=by rw[hvs];simp;omega
 have hargs:∀(i:Nat)(sv:SV),(SV.yld st.nid :: caps)[i]? = some sv→Rep (upd r st.nid (some W1.heap.size)) (· < st.nid+1) (Gd base okc (upd r st.nid (some W1.heap.size)) (· < st.nid+1) ((st.nid,.loop L .ready) :: st.hp) (W1.alloc (.loop L))) (W1.alloc (.loop L)) sv (vs.getD i undef):=by
  intro i sv hi';cases i with
  |zero=>
   rw[xd6]at hi';cases hi';have e:vs.getD 0 undef=Value.func (Fn.yield W1.heap.size) #[] #[]:=by
    simp_all
   rw[e];exact .yld _ _ (xb5 _) (qw _ _ _)
  |succ i=>
   rw[xd7]at hi';have e:vs.getD (i+1) undef=ds.getD i undef:=by
    rw[hvs];simp only[xf5]
    grind
   rw[e];exact hnew.rep (hgrow.rep (h2 i sv hi'))
 have hfr:=yH (args:=SV.yld st.nid :: caps) (vs:=vs) (n:=fn.ntmps) (by rw[hvsz,xe4,hmm]) Ω hargs;have hpush:=hi3.push (some L) (λL' e=>by cases e;rw[hL]) false (fr:=argFr 0 (.yld st.nid :: caps)) (a2:={ tmps:=vs++Array.replicate (fn.ntmps - vs.size) undef,defers:=[] }) (n2:=fn.ntmps) (nid:=st.nid+1) hfr Ωj rfl;refine⟨w.heap.size+1,[vy w.heap.size],W1.alloc (.loop L),{ target:=.fn (.func gf) ds,args:=#[.func (.yield (w.heap.size+1)) #[] #[]] },W1.alloc (.loop L),gf,
  vs,W1.alloc (.loop L),?_,?_,λ_ _=>trivial,?_,λhh=>by simp[FR]at hh,?_⟩
 ·rw[hL,←hW1];exact run_enterLoop_outer _ _ _ _ _
 ·simp only[Go.resolve,hex]
  simp[Deferred.ofValue,Act.eval]
 ·rw[hvs,hz1]
  exact gF hf hb hname _ _
 rw[←hz1];refine calls_FR.2 (kD hm hf hb hok (O:=⟨⟨st.fr,some L,ns,st.nid+1⟩ :: O.fs,st.nid+1,false,zC⟩) (outs:=⟨_,_⟩) (base:=base) (okc:=okc) (st0:=⟨argFr 0 (.yld st.nid :: caps),(st.nid,.loop L .ready) :: st.hp,st.nid+1⟩) rfl
  (Post:=λst' _=>kj st.nid L st.fr K .normal st') ⟨_,hpush⟩ ?_ λst' r' a' w' m us hP hi4 hml hreps=>?_)
 ·have e:(λ(e:Ex)(st':St)=>match e with|.exit _=>False|_=>resultsVC P fn.results.toList st' (λ_=>kj st.nid L st.fr K .normal st'))=kj st.nid L st.fr K:=by
   funext e st';cases e
   ·exact jc hres _ _
   ·rfl
   ·exact jc hres _ _
  have hh:=h _ L ⟨ns,st.nid+1,O.fs,rfl,hc.1.1,hc.1.2,(by simpa using hc.2),by rw[hL],by rw[hL],by rw[hL]⟩;rw[←e]at hh;exact hh
 ·obtain⟨s,hbs,hs⟩:=Kn hP
  have er:r' st.nid=some W1.heap.size:=by
   rw[hi4.rfix st.nid (xb5 _)];exact qw _ _ _
  obtain⟨g1,t1⟩:=jo (s':=.over s.pend) hi4 hbs er;have hback:=(t1.forget st.nid).pop (nid:=st'.nid) hi3;have hsame:dropBlk (setBlk st'.hp st.nid (.loop L (.over s.pend))) st.nid=dropBlk st'.hp st.nid:=by
   have:∀(hp:List (Nat×Blk))(y:Nat)(x:Blk),dropBlk (setBlk hp y x) y=dropBlk hp y:=by
    intro hp y x
    induction hp with
    |nil=>rfl
    |cons p hp ih=>
     obtain⟨i,v⟩:=p;simp only[setBlk,dropBlk];by_cases e:y=i
     ·simp[e,dropBlk]
     ·simp[e,dropBlk,ih]
   exact this _ _ _
  simp only[hsame]at hback;have hnb:s.state≠.busy:=by cases s<;>simp[RSt.state]<;>exact hs
  refine⟨s.pend,_,run_endLoop g1 hnb,?_⟩;have fin:∀e,K e ⟨st.fr,dropBlk st'.hp st.nid,st'.nid⟩→Q (Gz e) { a with defers:=[vy w.heap.size]++a.defers } (w'.putObj W1.heap.size (.loop { L with state:=.exhausted,pending:=s.pend })):=λe hk=>hQ e _ _ _ hk ⟨r',hback⟩;cases s with
  |ready=>exact fin .normal hs
  |busy=>exact hs.elim
  |retd=>exact wpIn_ret (fin .ret hs)
  |left i=>exact wpIn_exit (fin (.exit i) hs)
  |over p=>exact hs.elim
open Classical in
noncomputable def stampOf(es:Array MapEntry)(k:Value):Nat:=if h:∃e,e∈es∧e.key=k then(Classical.choose h).born else 0
theorem Va{t:TypeId}{get:Value→SV}{mi:jX}(hx:env (look st.fr) x=.mp mid)(ht:qD P t=some mi)(hb:blk st.hp mid=some (.map fit dom get))
  (h:∀(stamp:Value→Nat)(clk:Nat),(∀k,dom k=true→stamp k<clk)→(∀k k',dom k=true→dom k'=true→stamp k=stamp k'→k=k')→
   K ⟨st.fr,(st.nid,.iter mid clk [] clk) :: setBlk st.hp mid (.mapS fit dom get stamp clk),st.nid+1⟩ (.ptr st.nid 0)):OpVC P O (.range t x) st K:=by
 intro base okc ns r outs a w o ho hi;obtain⟨kt,et,ii,hu,-⟩:=zJ ht;have hv:=hi.env x;rw[hx]at hv;generalize hex:a.eval x=u at hv;cases hv with
 |mp _ b hN hr=>
 have hrep:=hi.sat.rep mid _ hb hN;rw[hr]at hrep;cases hrep with
 |map _ _ _ _ es clock hb' hmo htm hes=>
 have hst:∀e,e∈es→e.born=stampOf es e.key:=λe he=>by
  have hex:∃e',e'∈es∧e'.key=e.key:=⟨e,he,rfl⟩;unfold stampOf;rw[dif_pos hex];obtain⟨c1,c2⟩:=Classical.choose_spec hex;obtain⟨i,hi⟩:=Array.mem_iff_getElem?.1 he;obtain⟨j,hj⟩:=Array.mem_iff_getElem?.1 c1;have:=hmo.once i j _ _ hi hj c2.symm
  simp_all
 have s1:Step base okc r (· < st.nid) st.hp w r (· < st.nid) (setBlk st.hp mid (.mapS fit dom get (stampOf es) clock)) w:=hi.sat.same hb λG' hG' _=>by
  rw[hr];exact .mapS fit dom get _ b es clock hb' hmo htm hst λe he=>(hes e he).mono (λ_ _=>rfl) (λ_ h=>h) (λo c hc=>⟨hG' o c hc,rfl⟩) (Shapes.refl w)
 have hi1:InvR O base okc ns st.nid r outs ⟨st.fr,setBlk st.hp mid (.mapS fit dom get (stampOf es) clock),st.nid⟩ a w:=hi.step s1 (vD hb hi.keys) (xa5 _) (d:=none) (λt ht=>by cases ht) (.top undef);have s2:=hi1.sat.new (hp':=(st.nid,.iter mid clock [] clock) :: setBlk st.hp mid (.mapS fit dom get (stampOf es) clock)) st.nid Ωg (.mapIter (some b) clock #[] clock) (.iter mid clock [] clock) ΩS (λj hj=>by simp only[blk];rw[if_neg Ω]) λr' N' G' e1 _ e3 _ _=>
  .iter mid clock [] clock _ b (e3 _ hN) ((e1 _ hN).trans hr) (qH w _)
 rw[gD]at s2;have hi2:=hi1.step s2 (λid y hy=>by
   simp only[blk]at hy;split at hy
   ·omega
   ·have:=hi1.keys id y hy;omega) Ω (d:=none) (λt ht=>by cases ht) (.top undef)
 refine⟨.pointer (some ⟨w.heap.size,0,none⟩),w.alloc (.mapIter (some b) clock #[] clock),?_,⟨st.fr,(st.nid,.iter mid clock [] clock) :: setBlk st.hp mid (.mapS fit dom get (stampOf es) clock),st.nid+1⟩,_,.ptr st.nid 0,h _ _ (λk hk=>?_) (λk k' hk hk' e=>?_),xc4 _,hi2.nid _,.ptr _ _ _ (xb5 _) (qw _ _ _)⟩
 ·have e:execOp a.eval o=(do pure (.value (←Instr.range t (a.eval x)))):=by
   obtain⟨dst,op,type,pos,aft,guard⟩:=o;simp only[]at ho;subst ho;rfl
  rw[e,hex];simp only[Sem.run_bind,Instr.range,run_underlying hu,Result.andThen_ok];have hobj:(getObj b).run P w=.ok (.map es clock) w:=by simp[getObj,Sem.run,hb']
  simp_all
 ·obtain⟨e,he,hk'⟩:=hmo.has k hk
  rw[←hk',←hst e he];exact htm.lt e he
 ·obtain⟨e1,he1,hk1⟩:=hmo.has k hk
  obtain⟨e2,he2,hk2⟩:=hmo.has k' hk';rw[←hk1,←hk2,←hst e1 he1,←hst e2 he2]at e;obtain⟨i,hi⟩:=Array.mem_iff_getElem?.1 he1;obtain⟨j,hj⟩:=Array.mem_iff_getElem?.1 he2;have:=htm.once i j _ _ hi hj e
  simp_all
theorem qhp{ty:TypeId}{it bm:Nat}{seen:List Nat}{es:Array MapEntry}(hit:w.heap[it]? = some (.mapIter (some bm) clk seen.toArray clk))(hb:w.heap[bm]? = some (.map es clk))(hold:∀x∈es,x.born<clk) :
  ((∀e∈es,e.born∈seen)∧(Instr.next (.pointer (some ⟨it,0,none⟩)) false ty).run P w=.ok (.tuple #[.bool false]) w)∨
  ∃e∈es,e.born∉seen∧∃n,(Instr.next (.pointer (some ⟨it,0,none⟩)) false ty).run P w=.ok (.tuple #[.bool true,e.key,e.val]) (({ w with drawn:=n }:World).putObj it (.mapIter (some bm) clk (seen++[e.born]).toArray clk)):=by
 have ht:=next_test_false seen.toArray es clk clk (λx hx=>hold x Ω0) (xa5 _);simp only[Instr.next,getObj,Sem.run_bind,Sem.run,hit,hb,Result.andThen,ht,xe7,if_false];have hmem:∀x∈(Array.filter (λe=>!seen.toArray.contains e.born) es),x∈es∧x.born∉seen:=λx hx=>by
  simp_all
 have hall:∀x∈es,x.born∉seen→x∈Array.filter (λe=>!seen.toArray.contains e.born) es:=λx hx hs=>by simp;exact⟨hx,hs⟩
 generalize Array.filter (λe=>!seen.toArray.contains e.born) es=L at hmem hall ⊢;have e1:L.filter (λx=>decide (x.born<clk))=L:=Array.filter_eq_self.2 (λx hx=>by simpa using hold x (hmem x hx).1);have e2:L.filter (λx=>decide (x.born≥clk)) = #[]:=by
  simp_all
 simp only[e1,e2,Array.append_empty];by_cases h0:L.size=0
 ·left
  have:L = #[]:=Array.eq_empty_of_size_eq_zero h0;subst this;refine⟨λe he=>?_,?_⟩
  ·simp_all
  ·simp[choose,Sem.run,Question.forced]
 ·right
  have hne:L.isEmpty=false:=by simp[Array.isEmpty,h0]
  simp only[hne,xe7,if_false,Array.empty_append,Array.size_map];have hch:∃(j:Nat)(n:Nat),j<L.size∧(choose (Question.mapNext L.size)).run P w=.ok j { w with drawn:=n }:=by
   by_cases hf:L.size≤1
   ·exact⟨0,w.drawn,Ω,by simp[choose,Sem.run,Question.forced,hf]⟩
   ·exact⟨_,w.drawn+1,Nat.mod_lt _ Ω,by
     simp only[choose,Sem.run,Question.forced,decide_eq_true_eq,hf,if_false,Question.cut];rfl⟩
  obtain⟨j,n,hj,hrun⟩:=hch;obtain⟨m1,m2⟩:=hmem L[j] (Array.getElem_mem hj);refine⟨L[j],m1,m2,n,?_⟩;have hset:∀(o':Obj),(setObj it o').run P { w with drawn:=n } = .ok () (({ w with drawn:=n }:World).putObj it o'):=λo'=>by
   simp[setObj,Sem.run,hit,World.putObj]
  simp_all
theorem YB{iid:Nat}{seen:List Nat}{get:Value→SV}(hx:env (look st.fr) x=.ptr iid 0)(hbi:blk st.hp iid=some (.iter mid clk seen clk))(hbm:blk st.hp mid=some (.mapS fit dom get stamp clk))
  (h1:∀k,fit k=true→dom k=true→stamp k∉seen→K ⟨st.fr,setBlk st.hp iid (.iter mid clk (seen++[stamp k]) clk),st.nid⟩ (.tup [.val (.bool true),.val k,get k]))
  (h2:(∀k,dom k=true→stamp k∈seen)→K st (.tup [.val (.bool false)])):OpVC P O (.next x false) st K:=by
 intro base okc ns r outs a w o ho hi;have hv:=hi.env x;rw[hx]at hv;generalize hex:a.eval x=u at hv;cases hv with
 |ptr _ _ it hN hrit=>
 have hri:=hi.sat.rep iid _ hbi hN;rw[hrit]at hri;cases hri with
 |iter _ _ _ _ _ bm hNm hrm hit=>
 have hrm':=hi.sat.rep mid _ hbm hNm;rw[hrm]at hrm';cases hrm' with
 |mapS _ _ _ _ _ es _ hb' hmo htm hst hes=>
 have e:execOp a.eval o=(do pure (.value (←Instr.next (a.eval x) false o.type))):=by
  obtain⟨dst,op,type,pos,aft,guard⟩:=o;simp only[]at ho;subst ho;rfl
 rcases qhp (P:=P) (ty:=o.type) hit hb' htm.lt with⟨hall,hrun⟩|⟨e',he',hns,n,hrun⟩
 ·refine⟨_,w,by rw[e,hex,Sem.run_bind,hrun];rfl,st,r,_,h2 λk hk=>?_,xa5 _,hi,.tup _ _ rfl λi sv hi=>?_⟩
  ·obtain⟨e',he',hk'⟩:=hmo.has k hk
   grind
  ·match i,hi with
   |0,hi=>simp at hi;subst hi;exact .val _
 ·have hdrew:Below w.heap.size w { w with drawn:=n }:=⟨rfl,rfl,rfl,xa5 _,λ_ _=>rfl⟩
  have hi1:InvR O base okc ns st.nid r outs st a { w with drawn:=n }:=hi.step (hi.sat.grow hdrew) hi.keys (xa5 _) (d:=none) (λt ht=>by cases ht) (.top undef);have hs2:Step base okc r (· < st.nid) st.hp { w with drawn:=n } r (· < st.nid) (setBlk st.hp iid (.iter mid clk (seen++[e'.born]) clk)) (({ w with drawn:=n }:World).putObj it (.mapIter (some bm) clk (seen++[e'.born]).toArray clk)):=
   kx hi1.sat hbi hN hrit (old:=.mapIter (some bm) clk seen.toArray clk) hit (λ_ _ _=>by simp) _ (.iter mid clk (seen++[e'.born]) clk) λG' w' hw' _=>.iter mid clk _ clk it bm hNm hrm hw'
  have hi2:=hi1.step hs2 (vD hbi hi1.keys) (xa5 _) (d:=none) (λt ht=>by cases ht) (.top undef);have hk:=h1 e'.key (hmo.fits e' he') (hmo.doms e' he') (by rw[←hst e' he'];exact hns);rw[←hst e' he']at hk;refine⟨_,_,by rw[e,hex,Sem.run_bind,hrun];rfl,_,r,_,hk,xa5 _,hi2,.tup _ _ rfl λi sv hq=>?_⟩
  match i,hq with
  |0,hq=>simp at hq;subst hq;exact .val _
  |1,hq=>simp at hq;subst hq;exact .val _
  |2,hq=>simp at hq;subst hq;exact hs2.rep ((hi.sat.grow hdrew).rep (hes e' he'))
def qhq(s:SV)(k:Value):Prop:=∀(r:Nat→Option Nat)(N:Nat→Prop)(G:Bool→Nat→Prop)(w:World),Rep r N G w s k
theorem vF(l:List Value):qhq (.agg (l.map .val)) (.agg l.toArray):=λr N G w=>.agg _ _ Ωg λi sv hi=>by
 simp only[List.getElem?_map,Option.map_eq_some_iff]at hi;obtain⟨v,hv,rfl⟩:=hi;have:l.toArray.getD i undef=v:=by simp[xf5,hv]
 rw[this];exact .val v
theorem qfz{s:SV}{iid:Nat}{seen:List Nat}{get:Value→SV}{k:Value}(hx:env (look st.fr) x=.ptr iid 0)(hbi:blk st.hp iid=some (.iter mid clk (seen++[stamp k]) clk))(hbm:blk st.hp mid=some (.mapS fit dom get stamp clk))
  (hd:dom k=true) (hs:qhq s k) (h:K st (.tup [s,get k])):OpVC P O (.entry x) st K:=by
 intro base okc ns r outs a w o ho hi;have hv:=hi.env x;rw[hx]at hv;generalize hex:a.eval x=u at hv;cases hv with
 |ptr _ _ it hN hrit=>
 have hri:=hi.sat.rep iid _ hbi hN;rw[hrit]at hri;cases hri with
 |iter _ _ _ _ _ bm hNm hrm hit=>
 have hrm':=hi.sat.rep mid _ hbm hNm;rw[hrm]at hrm';cases hrm' with
 |mapS _ _ _ _ _ es _ hb' hmo htm hst hes=>
 have e:execOp a.eval o=(do pure (.value (←Instr.entry (a.eval x)))):=by
  obtain⟨dst,op,type,pos,aft,guard⟩:=o;simp only[]at ho;subst ho;rfl
 obtain⟨e0,he0,hk0⟩:=hmo.has k hd;have hfind:es.find? (λe=>e.born == stamp k)=some e0:=by
  cases hf:es.find? (λe=>e.born == stamp k)with
  |none=>
   grind
  |some e1=>
   have h1:=Array.find?_some hf;have h2:=Array.mem_of_find?_eq_some hf;obtain⟨i,hi⟩:=Array.mem_iff_getElem?.1 he0;obtain⟨j,hj⟩:=Array.mem_iff_getElem?.1 h2;have:=htm.once i j _ _ hi hj (by rw[hst e0 he0,hk0];simpa using(beq_iff_eq.1 h1).symm)
   simp_all
 refine⟨.tuple #[e0.key,e0.val],w,?_,st,r,_,h,xa5 _,hi,.tup _ _ rfl λi sv hq=>?_⟩
 ·rw[e,hex]
  have hback:(seen++[stamp k]).toArray.back? = some (stamp k):=by simp
  simp only[Sem.run_bind,Instr.entry,getObj,Sem.run,hit,hback,Result.andThen]
  simp_all
 ·match i,hq with
  |0,hq=>simp at hq;subst hq;simp;rw[hk0];exact hs _ _ _ _
  |1,hq=>simp at hq;subst hq;have:=hes e0 he0;rw[hk0]at this;exact this
end
end Go.Sx
end
section
namespace Go.Sx
open Go.RowKit
variable{fs:List Fr}{lo mid nid:Nat}{x:Operand}{d:Option Tmp}{fr:List (Nat×SV)}{hp:List (Nat×Blk)}{K:St→Prop}{f:FuncId}{args pats:List SV}{res:SV}{dom fit:Value→Bool}{stamp:Value→Nat}
inductive Tag.{u}{α:Sort u}(a:α):Type
 |mk
section
variable{P:Program}{O:Ctx}
def kE(g:Bool)(A B:Prop)(_:Tag A)(_:Tag B):Prop:=ke g A B
def ZQ(v:SV)(t:Tmp)(want:Bool)(st:St)(run skip:St→Prop)(_:Tag run)(_:Tag skip):Prop:=
 match v with
 |.val (.bool b)=>match want with
  |true=>ke b (run (st.put (some t) (.val (.bool true)))) (skip (st.put (some t) (.val (.bool false))))
  |false=>ke b (skip (st.put (some t) (.val (.bool true)))) (run (st.put (some t) (.val (.bool false))))
 |.val (.tuple _)=>skip st
 |_=>False
def qbw(t:Option Tmp)(want:Bool)(st:St)(run skip:St→Prop):Prop:=
 match t with
 |none=>False
 |some t=>ZQ (look st.fr t) t want st run skip .mk .mk
theorem zu(ds:List (Option Tmp))(st:St)(run skip:St→Prop):zp ds none st run skip=run st:=rfl
theorem V5(ds:List (Option Tmp))(j:Nat)(want:Bool)(st:St)(run skip:St→Prop):zp ds (some (j,want)) st run skip=qbw (nth ds j) want st run skip:=by
 unfold zp qbw ZQ;rfl
def qde(t:Option Tmp)(want:Bool)(st:St)(run skip:St→Prop)(_:Tag run)(_:Tag skip):Prop:=qbw t want st run skip
theorem JF(ds:List (Option Tmp))(j:Nat)(want:Bool)(st:St)(run skip:St→Prop):zp ds (some (j,want)) st run skip=qde (nth ds j) want st run skip .mk .mk:=V5 ds j want st run skip
theorem YC(t:Tmp)(want:Bool)(st:St)(run skip:St→Prop)(x:Tag run)(y:Tag skip):qde (some t) want st run skip x y=ZQ (look st.fr t) t want st run skip .mk .mk:=rfl
theorem qhr(b:Bool)(t:Tmp)(st:St)(run skip:St→Prop)(x:Tag run)(y:Tag skip):ZQ (.val (.bool b)) t true st run skip x y=kE b (run (st.put (some t) (.val (.bool true)))) (skip (st.put (some t) (.val (.bool false)))) .mk .mk:=rfl
theorem qhs(b:Bool)(t:Tmp)(st:St)(run skip:St→Prop)(x:Tag run)(y:Tag skip):ZQ (.val (.bool b)) t false st run skip x y=kE b (skip (st.put (some t) (.val (.bool true)))) (run (st.put (some t) (.val (.bool false)))) .mk .mk:=rfl
theorem qht(vs:Array Value)(t:Tmp)(want:Bool)(st:St)(run skip:St→Prop)(x:Tag run)(y:Tag skip):ZQ (.val (.tuple vs)) t want st run skip x y=skip st:=rfl
theorem YD(A B:Prop)(x:Tag A)(y:Tag B):kE true A B x y=A:=qbo A B
theorem V6(A B:Prop)(x:Tag A)(y:Tag B):kE false A B x y=B:=Yl A B
theorem qbx(g:Bool)(A B:Prop)(x:Tag A)(y:Tag B):kE (!g) A B x y=kE g B A .mk .mk:=qfu g A B
theorem qby(g g':Bool)(A B:Prop)(x:Tag A)(y:Tag B):kE (g&&g') A B x y=kE g (kE g' A B .mk .mk) B .mk .mk:=by cases g<;>cases g'<;>simp[kE,ke]
theorem qfA(g g':Bool)(A B:Prop)(x:Tag A)(y:Tag B):kE (g || g') A B x y=kE g A (kE g' A B .mk .mk) .mk .mk:=by cases g<;>cases g'<;>simp[kE,ke]
def Q2(P:Program)(O:Ctx){J:Prop}(_:Tag J){op:Op}(_:Tag op)(d:Option Tmp)(id:Nat)(st:St)(K:St→Prop)(_:Tag K)(x:Res):Prop:=wE P O J op d id st K x
section
variable{J:Prop}{j:Tag J}{op:Op}{o:Tag op}
theorem qbz(d:Option Tmp)(id:Nat)(st:St)(K:St→Prop)(g:Tag K)(obl:Prop)(r:SV):Q2 P O j o d id st K g (.pure obl r)=(obl∧K (st.put d r)):=rfl
theorem qfB(d:Option Tmp)(id:Nat)(st:St)(K:St→Prop)(g:Tag K)(r:SV):Q2 P O j o d id st K g (.ex λs=>some r=some s)=K (st.put d r):=by
 simp[Q2,wE]
theorem qfC(d:Option Tmp)(id:Nat)(fr:List (Nat×SV))(hp:List (Nat×Blk))(nid:Nat)(K:St→Prop)(g:Tag K)(obl:Prop)(b:Blk)(mk:Nat→SV):Q2 P O j o d id ⟨fr,hp,nid⟩ K g (.new obl b mk)=(obl∧K (St.put ⟨fr,(id,b) :: hp,nid⟩ d (mk id))):=rfl
theorem qfD(d:Option Tmp)(id:Nat)(fr:List (Nat×SV))(hp:List (Nat×Blk))(nid:Nat)(K:St→Prop)(g:Tag K)(obl:Prop)(i:Nat)(b:Blk):Q2 P O j o d id ⟨fr,hp,nid⟩ K g (.upd obl i b)=(obl∧K (St.put ⟨fr,setBlk hp i b,nid⟩ d undefSV)):=rfl
theorem qbA(d:Option Tmp)(id:Nat)(fr:List (Nat×SV))(hp:List (Nat×Blk))(nid:Nat)(K:St→Prop)(g:Tag K)(obl:Prop)(i:Nat)(b:Blk)(sv:SV):Q2 P O j o d id ⟨fr,hp,nid⟩ K g (.updv obl i b sv)=(obl∧K (St.put ⟨fr,setBlk hp i b,nid⟩ d sv)):=rfl
theorem qbB(d:Option Tmp)(id:Nat)(fr:List (Nat×SV))(hp:List (Nat×Blk))(nid:Nat)(K:St→Prop)(g:Tag K)(obl:Prop)(i:Nat)(b:Blk)(mk:Nat→SV):Q2 P O j o d id ⟨fr,hp,nid⟩ K g (.grow obl i b mk)=((obl∧i≠id)∧K (St.put ⟨fr,(id,b) :: dropBlk hp i,nid⟩ d (mk id))):=rfl
def ZR(P:Program)(O:Ctx)(_:Tag J)(d:Option Tmp)(id:Nat)(fr:List (Nat×SV))(hp:List (Nat×Blk))(nid:Nat)(K:St→Prop)(_:Tag K)(f:FuncId)(args:List SV):Prop:=
 VT P hp f args (λr=>K (St.put ⟨fr,hp,nid⟩ d r))∨qcY P hp f args (λb res=>K (St.put ⟨fr,(id,b) :: hp,nid⟩ d (setId id res)))∨(J∧ky P O f args ⟨fr,hp,id⟩ λst' res=>K (st'.put d res))
theorem qbC(d:Option Tmp)(id:Nat)(fr:List (Nat×SV))(hp:List (Nat×Blk))(nid:Nat)(K:St→Prop)(g:Tag K)(f:FuncId)(args:List SV):Q2 P O j o d id ⟨fr,hp,nid⟩ K g (.call f args)=ZR P O j d id fr hp nid K .mk f args:=rfl
def V7(P:Program)(O:Ctx)(_:Tag J)(d:Option Tmp)(id:Nat)(fr:List (Nat×SV))(hp:List (Nat×Blk))(K:St→Prop)(_:Tag K)(y:Nat)(args:List SV):Prop:=
 J∧wd P O y args ⟨fr,hp,id⟩ λst' res=>K (st'.put d res)
theorem YE(d:Option Tmp)(id:Nat)(fr:List (Nat×SV))(hp:List (Nat×Blk))(nid:Nat)(K:St→Prop)(g:Tag K)(y:Nat)(args:List SV):Q2 P O j o d id ⟨fr,hp,nid⟩ K g (.yield y args)=V7 P O j d id fr hp K .mk y args:=rfl
def qfE(P:Program)(O:Ctx)(_:Tag J)(_:Tag op)(d:Option Tmp)(id:Nat)(fr:List (Nat×SV))(hp:List (Nat×Blk))(K:St→Prop)(_:Tag K):Prop:=
 J∧OpVC P O op ⟨fr,hp,id⟩ λst' res=>K (st'.put d res)
theorem qfF(d:Option Tmp)(id:Nat)(fr:List (Nat×SV))(hp:List (Nat×Blk))(nid:Nat)(K:St→Prop)(g:Tag K):Q2 P O j o d id ⟨fr,hp,nid⟩ K g .raw=qfE P O j o d id fr hp K .mk:=rfl
end
theorem qfG(fr:List (Nat×SV))(hp:List (Nat×Blk))(nid:Nat)(d:Tmp)(v:SV):St.putI ⟨fr,hp,nid⟩ (some d) v=⟨putIn fr d v,hp,nid⟩:=rfl
theorem qfH(st:St)(v:SV):St.putI st none v=st:=rfl
theorem qhu(fr:List (Nat×SV))(hp:List (Nat×Blk))(nid:Nat)(d:Tmp)(v:SV):St.put ⟨fr,hp,nid⟩ (some d) v=⟨putFr fr d v,hp,nid⟩:=rfl
theorem qhv(st:St)(v:SV):st.put none v=st:=rfl
theorem qfI(J:Prop)(ds:List (Option Tmp))(i:Nat)(st:St)(K:St→Prop):zc P O J ds [] i st K=K st:=rfl
theorem qbD(J:Prop)(ds:List (Option Tmp))(d:Option Tmp)(op:Op)(ty:TypeId)(pos:String)(af:Array Edge)(g:Option (Nat×Bool))(rest:List Oper)(i:Nat)(st:St)(K:St→Prop):zc P O J ds (⟨d,op,ty,pos,af,g⟩ :: rest) i st K =
  zp ds g st (λst=>Q2 P O (Tag.mk:Tag J) (Tag.mk:Tag op) d (st.nid+i) st (λst=>zc P O J ds rest (i+1) st K) .mk (stepR P (look st.fr) st.hp op)) (λst=>zc P O J ds rest (i+1) (st.put d undefSV) K):=rfl
def qnH(P:Program)(v:SV)(A B:Prop)(_:Tag A)(_:Tag B):Prop:=GA P v A B
theorem qlp(st:St)(K:Ex→St→Prop):vc P O .skip st K=K .normal st:=rfl
theorem qhw(l:Nat)(st:St)(K:Ex→St→Prop):vc P O (.label l) st K=K .normal st:=rfl
theorem qoo(a b:Code)(st:St)(K:Ex→St→Prop):vc P O (.seq a b) st K=vc P O a st (Kk K λst'=>vc P O b st' K):=rfl
theorem qlq(c:Operand)(t e:Code)(st:St)(K:Ex→St→Prop):vc P O (.cond c t e) st K=qnH P (env (look st.fr) c) (vc P O t st K) (vc P O e st K) .mk .mk:=rfl
theorem qhx(id:Nat)(c:Code)(st:St)(K:Ex→St→Prop):vc P O (.block id c) st K=vc P O c st (Qr id K):=rfl
theorem qlr(id:Nat)(st:St)(K:Ex→St→Prop):vc P O (.exit id) st K=K (.exit id) st:=rfl
theorem qop(st:St)(K:Ex→St→Prop):vc P O .ret st K=K .ret st:=rfl
theorem qhy(c:Code)(st:St)(K:Ex→St→Prop):vc P O (.scope c) st K=vc P O c st K:=rfl
theorem qfJ{rnd:Bool}(id:Nat)(ops:List Oper)(d:Bool)(st:St)(K:Ex→St→Prop):vc P ⟨fs,lo,rnd,zC⟩ (.region id ops.toArray d) st K=zc P ⟨fs,lo,rnd,zC⟩ (kr d ops=true) (dsts ops) ops 0 st (λst'=>K .normal ⟨st'.fr,st'.hp,st'.nid+ops.length⟩):=rfl
theorem GI{rnd:Bool}{n:Nat}{l:List (Nat×Nat)}(id:Nat)(ops:List Oper)(d:Bool)(st:St)(K:Ex→St→Prop)(h:id≠n):vc P ⟨fs,lo,rnd,j4 n l⟩ (.region id ops.toArray d) st K=zc P ⟨fs,lo,rnd,j4 n l⟩ (kr d ops=true) (dsts ops) ops 0 st (λst'=>K .normal ⟨st'.fr,st'.hp,st'.nid+ops.length⟩):=by
 have e:j4 n l id=[]:=by simp[j4,h]
 show(if gz (j4 n l id)=true then _ else zc P _ _ _ _ 0 st (λst'=>FarVC ((j4 n l) id) st' (K .normal ⟨st'.fr,st'.hp,st'.nid+ops.length⟩)))=_;rw[e];rfl
theorem qbE{rnd:Bool}{x y:Nat}{l:List (Nat×Nat)}(n:Nat)(ops:List Oper)(d:Bool)(st:St)(K:Ex→St→Prop)(hxy:x≠y):vc P ⟨fs,lo,rnd,j4 n ((x,y) :: l)⟩ (.region n ops.toArray d) st K=zc P ⟨fs,lo,rnd,j4 n ((x,y) :: l)⟩ (kr d ops=true) (dsts ops) ops 0 st (λst'=>FarVC ((x,y) :: l) st' (K .normal ⟨st'.fr,st'.hp,st'.nid+ops.length⟩)):=by
 have e:j4 n ((x,y) :: l) n=(x,y) :: l:=by simp[j4]
 show(if gz (j4 n ((x,y) :: l) n)=true then _ else zc P _ _ _ _ 0 st (λst'=>FarVC ((j4 n ((x,y) :: l)) n) st' (K .normal ⟨st'.fr,st'.hp,st'.nid+ops.length⟩)))=_;rw[e,if_neg (by simp[gz,hxy])]
def jC(P:Program)(O:Ctx)(id:Nat)(ops:List Oper)(d:Bool)(st:St)(K:Ex→St→Prop)(_:Tag K):Prop:=wF P O (.region id ops.toArray d) st K
theorem qbF{rnd:Bool}(n:Nat)(ops:List Oper)(d:Bool)(st:St)(K:Ex→St→Prop):vc P ⟨fs,lo,rnd,Qn n⟩ (.region n ops.toArray d) st K=jC P ⟨fs,lo,rnd,Qn n⟩ n ops d st K .mk:=by
 have e:Qn n n=[(0,0)]:=by simp[Qn,j4]
 show(if gz (Qn n n)=true then wF P _ (.region n ops.toArray d) st K else _)=_;rw[e,if_pos Ωr];rfl
theorem YF{rnd:Bool}{n:Nat}(id:Nat)(ops:List Oper)(d:Bool)(st:St)(K:Ex→St→Prop)(h:id≠n):vc P ⟨fs,lo,rnd,Qn n⟩ (.region id ops.toArray d) st K=zc P ⟨fs,lo,rnd,Qn n⟩ (kr d ops=true) (dsts ops) ops 0 st (λst'=>K .normal ⟨st'.fr,st'.hp,st'.nid+ops.length⟩):=GI id ops d st K h
theorem qfK(st:St)(X:Prop):FarVC [] st X=X:=rfl
theorem qbG(a b:Nat)(l:List (Nat×Nat))(fr:List (Nat×SV))(hp:List (Nat×Blk))(nid:Nat)(X:Prop):FarVC ((a,b) :: l) ⟨fr,hp,nid⟩ X=(vi (look fr a) (look fr b)∧FarVC l ⟨fr,hp,nid⟩ X):=rfl
theorem qhz(i j o o':Nat):vi (.ptr i o) (.ptr j o')=(i≠j):=rfl
theorem qhA(i j o k x y:Nat):vi (.ptr i o) (.elt j k x y)=(i≠j):=rfl
theorem qhB(i j o k x y:Nat):vi (.elt j k x y) (.ptr i o)=(j≠i):=rfl
theorem qhC(i j k x y k' x' y':Nat):vi (.elt i k x y) (.elt j k' x' y')=(i≠j):=rfl
theorem qfL(o:Bool)(n:Nat)(row:Nat→SV)(s:SV):vi (.ref o n row) s=True:=by unfold vi qT;rfl
def LoopOr(P:Program)(O:Ctx)(c:Code)(st:St)(K:Ex→St→Prop)(_:Tag K):Prop:=qbv O (vc P O c) st K∨wF P O (.loop c) st K
def qoq(P:Program)(O:Ctx)(c:Code)(st:St)(K:Ex→St→Prop)(_:Tag K):Prop:=wF P O c st K
theorem qls(c:Code)(st:St)(K:Ex→St→Prop):vc P O (.loop c) st K=LoopOr P O c st K .mk:=rfl
theorem qhD(x:Operand)(ps:Array Tmp)(a b:Code)(st:St)(K:Ex→St→Prop):vc P O (.rangeFunc x ps a b) st K=qoq P O (.rangeFunc x ps a b) st K .mk:=rfl
theorem V8(K:Ex→St→Prop)(n:St→Prop)(st:St):Kk K n .normal st=n st:=rfl
theorem qbH(K:Ex→St→Prop)(n:St→Prop)(id:Nat)(st:St):Kk K n (.exit id) st=K (.exit id) st:=rfl
theorem qfM(K:Ex→St→Prop)(n:St→Prop)(st:St):Kk K n .ret st=K .ret st:=rfl
theorem JG(K:Ex→St→Prop)(id:Nat)(st:St):Qr id K .normal st=K .normal st:=rfl
def qhE(c:Prop)[Decidable c](A B:Prop)(_:Tag A)(_:Tag B):Prop:=if c then A else B
theorem YG(K:Ex→St→Prop)(id i:Nat)(st:St):Qr id K (.exit i) st=qhE (i=id) (K .normal st) (K (.exit i) st) .mk .mk:=rfl
theorem qfN(A B:Prop)(x:Tag A)(y:Tag B)(h:Decidable True):@qhE True h A B x y=A:=by simp[qhE]
theorem qbI(A B:Prop)(x:Tag A)(y:Tag B)(h:Decidable False):@qhE False h A B x y=B:=by simp[qhE]
theorem qbJ(K:Ex→St→Prop)(id:Nat)(st:St):Qr id K .ret st=K .ret st:=rfl
theorem YH(b:Bool)(A B:Prop)(x:Tag A)(y:Tag B):qnH P (.val (.bool b)) A B x y=kE b A B .mk .mk:=rfl
theorem qlt{g:Bool}{A B:Prop}{x:Tag A}{y:Tag B}(h1:g=true→A)(h2:g=false→B):kE g A B x y:=⟨h1,h2⟩
theorem qfO{p:Prop}[Decidable p]{A B:Prop}{x:Tag A}{y:Tag B}(h1:p→A)(h2:¬p→B):kE (decide p) A B x y:=⟨λh=>h1 (of_decide_eq_true h),λh=>h2 (of_decide_eq_false h)⟩
section
variable{J:Prop}{j:Tag J}{op:Op}{o:Tag op}
theorem qk{id:Nat}{g:Tag K}(hc:qf P f pats res)(hs:SubL hp pats args)(hf:Fresh res)(hk:K (St.put ⟨fr,hp,nid⟩ d res)):ZR P O j d id fr hp nid K g f args:=.inl ⟨res,.inl ⟨pats,hc,.inl ⟨hs,hf⟩⟩,hk⟩
theorem kf{id:Nat}{g:Tag K}(hc:qf P f pats res)(hs:SubL [] pats args)(hk:K (St.put ⟨fr,hp,nid⟩ d res)):ZR P O j d id fr hp nid K g f args:=.inl ⟨res,.inl ⟨pats,hc,.inr hs⟩,hk⟩
theorem callN{id:Nat}{g:Tag K}{b:Blk}(hc:zx P f pats b res)(hs:SubL hp pats args)(hf:FreshO res)(hb:FreshB b)(hk:K (St.put ⟨fr,(id,b) :: hp,nid⟩ d (setId id res))):ZR P O j d id fr hp nid K g f args:=.inr (.inl ⟨pats,b,res,hc,.inl ⟨hs,hf,hb⟩,hk⟩)
def qlu(P:Program)(rs:List ResultVar)(d:Option Tmp)(fr:List (Nat×SV))(K:St→Prop):Ex→St→Prop
 |.exit _,_=>False
 |.normal,st'=>resultsVC P rs st' λm=>K (St.put ⟨fr,st'.hp,st'.nid⟩ d (oneSV m))
 |.ret,st'=>resultsVC P rs st' λm=>K (St.put ⟨fr,st'.hp,st'.nid⟩ d (oneSV m))
theorem qqa (hm : P.follows .mixedOrders = true) {fn : Func} {c : Code} {d : Option Tmp} {id : Nat} {fr : List (Nat × SV)} {hp : List (Nat × Blk)} {nid : Nat} {K : St → Prop} {g : Tag K} {f : FuncId} {args : List SV} (hJ : J) (hf : P.funcs[f]? = some fn) (hb : fn.body = some c) (hname : (fn.name == "runtime.NumGoroutine") = false) (hok : jz fn.ntmps c = true) (hlen : args.length ≤ fn.ntmps)
  (h:∀out:List Fr,vc P ⟨out,id,false,zC⟩ c ⟨argFr 0 args,hp,id⟩ (qlu P fn.results.toList d fr K)):ZR P O j d id fr hp nid K g f args:=
 .inr (.inr ⟨hJ,qfy hm hf hb hname hok hlen λout=>by
  have e:(λ(e:Ex)(st':St)=>match e with|.exit _=>False|_=>resultsVC P fn.results.toList st' (λm=>(λ(st':St)(res:SV)=>K (st'.put d res)) ⟨fr,st'.hp,st'.nid⟩ (oneSV m)))=qlu P fn.results.toList d fr K:=by
   funext e st';cases e<;>rfl
  have hh:=h out;rw[←e]at hh;exact hh⟩)
theorem qor(hm:P.follows .mixedOrders=true){id:Nat}{g:Tag K}{y:Nat}{L:Loop}{fr0:List (Nat×SV)}{ps:List Tmp}{A B:Code}(hJ:J)(R:qdc O.fs L fr0 ps A B)(hb:blk hp y=some (.loop L .ready))(hlen:args.length=ps.length)
  (h:∀out:List Fr,vc P ⟨out,id,true,zC⟩ A ⟨putPs fr0 ps args,hp,id⟩ (w7 P ⟨out,id,true,zC⟩ y L B (j8 y L fr λst' res=>K (st'.put d res)))):V7 P O j d id fr hp K g y args:=
 ⟨hJ,qhn hm R hb hlen h⟩
theorem qos(hm:P.follows .mixedOrders=true){ps:List Tmp}{A B:Code}{K:Ex→St→Prop}{g:Tag K}{gf:FuncId}{caps:List SV}{fn:Func}{c:Code}(hg:env (look fr) x=.fn (.func gf) [] caps)(hf:P.funcs[gf]? = some fn)(hb:fn.body=some c)
  (hname : (fn.name == "runtime.NumGoroutine") = false) (hok : jz fn.ntmps c = true) (hres : fn.results.toList = []) (hlen : caps.length + 1 ≤ fn.ntmps)
  (h:∀(out:List Fr)(L:Loop),qdc out L fr ps A B→vc P ⟨out,nid+1,false,zC⟩ c ⟨argFr 0 (.yld nid :: caps),(nid,.loop L .ready) :: hp,nid+1⟩ (kj nid L fr K)):qoq P ⟨fs,lo,false,zC⟩ (.rangeFunc x ps.toArray A B) ⟨fr,hp,nid⟩ K g:=
 qho hm rfl (λ_ h=>h) hg hf hb hname hok hres hlen h
theorem qdf{id:Nat}{g:Tag K}{t:TypeId}{o:Tag (Op.range t x)}{get:Value→SV}{mi:jX}(hJ:J)(hx:env (look fr) x=.mp mid)(ht:qD P t=some mi)(hb:blk hp mid=some (.map fit dom get))
  (h:∀(stamp:Value→Nat)(clk:Nat),(∀k,dom k=true→stamp k<clk)→(∀k k',dom k=true→dom k'=true→stamp k=stamp k'→k=k')→
   K (St.put ⟨fr,(id,.iter mid clk [] clk) :: setBlk hp mid (.mapS fit dom get stamp clk),id+1⟩ d (.ptr id 0))):qfE P O j o d id fr hp K g:=⟨hJ,Va hx ht hb h⟩
theorem qhF{id:Nat}{g:Tag K}{o:Tag (Op.next x false)}{iid clk:Nat}{seen:List Nat}{get:Value→SV}(hJ:J)(hx:env (look fr) x=.ptr iid 0)(hbi:blk hp iid=some (.iter mid clk seen clk))(hbm:blk hp mid=some (.mapS fit dom get stamp clk))
  (h1:∀k,fit k=true→dom k=true→stamp k∉seen→K (St.put ⟨fr,setBlk hp iid (.iter mid clk (seen++[stamp k]) clk),id⟩ d (.tup [.val (.bool true),.val k,get k])))
  (h2:(∀k,dom k=true→stamp k∈seen)→K (St.put ⟨fr,hp,id⟩ d (.tup [.val (.bool false)]))):qfE P O j o d id fr hp K g:=⟨hJ,YB hx hbi hbm h1 h2⟩
theorem Q3{s:SV}{id:Nat}{g:Tag K}{o:Tag (Op.entry x)}{iid clk:Nat}{seen:List Nat}{get:Value→SV}{k:Value}(hJ:J)(hx:env (look fr) x=.ptr iid 0)(hbi:blk hp iid=some (.iter mid clk (seen++[stamp k]) clk))(hbm:blk hp mid=some (.mapS fit dom get stamp clk))
  (hd:dom k=true) (hs:qhq s k) (h:K (St.put ⟨fr,hp,id⟩ d (.tup [s,get k]))):qfE P O j o d id fr hp K g:=⟨hJ,qfz hx hbi hbm hd hs h⟩
end
theorem YI(rs:List ResultVar)(d:Option Tmp)(fr fr':List (Nat×SV))(hp:List (Nat×Blk))(nid:Nat)(K:St→Prop):qlu P rs d fr K .normal ⟨fr',hp,nid⟩=resultsVC P rs ⟨fr',hp,nid⟩ (λm=>K (St.put ⟨fr,hp,nid⟩ d (oneSV m))):=rfl
theorem qhG(rs:List ResultVar)(d:Option Tmp)(fr fr':List (Nat×SV))(hp:List (Nat×Blk))(nid:Nat)(K:St→Prop):qlu P rs d fr K .ret ⟨fr',hp,nid⟩=resultsVC P rs ⟨fr',hp,nid⟩ (λm=>K (St.put ⟨fr,hp,nid⟩ d (oneSV m))):=rfl
def Q4(P:Program)(rs:List ResultVar)(st:St)(K:List SV→Prop)(_:Tag K):Prop:=resultsVC P rs st K
theorem YJ(rs:List ResultVar)(st:St)(K:List SV→Prop):resultsVC P rs st K=Q4 P rs st K .mk:=rfl
theorem qfP(st:St)(K:List SV→Prop)(g:Tag K):Q4 P [] st K g=K []:=rfl
theorem qfQ(t:Tmp)(rs:List ResultVar)(st:St)(K:List SV→Prop)(g:Tag K):Q4 P (.tmp t :: rs) st K g=Q4 P rs st (λm=>K (look st.fr t :: m)) .mk:=rfl
def qdg(P:Program)(rs:List ResultVar)(st:St)(K:List SV→Prop)(_:Tag K)(x:Res):Prop:=match x with
 |.pure obl sv=>obl∧Q4 P rs st (λm=>K (sv :: m)) .mk
 |.ex obl=>∃sv,obl sv∧Q4 P rs st (λm=>K (sv :: m)) .mk
 |_=>False
theorem qbK(t:Tmp)(ty:TypeId)(rs:List ResultVar)(st:St)(K:List SV→Prop)(g:Tag K):Q4 P (.cell t ty :: rs) st K g=qdg P rs st K .mk (rLoad (qn P ty) st.hp (look st.fr t)):=rfl
theorem qbL(rs:List ResultVar)(st:St)(K:List SV→Prop)(g:Tag K)(obl:Prop)(sv:SV):qdg P rs st K g (.pure obl sv)=(obl∧Q4 P rs st (λm=>K (sv :: m)) .mk):=rfl
theorem qfR(rs:List ResultVar)(st:St)(K:List SV→Prop)(g:Tag K)(r:SV):qdg P rs st K g (.ex λs=>some r=some s)=Q4 P rs st (λm=>K (r :: m)) .mk:=by simp[qdg]
theorem Kx(y:Nat)(L:Loop)(B:Code)(K:Ex→St→Prop)(fr:List (Nat×SV))(hp:List (Nat×Blk))(nid:Nat):w7 P O y L B K .normal ⟨fr,hp,nid⟩=(Q1 L (blk hp y)∧vc P O B ⟨fr,setBlk hp y (.loop L .busy),nid⟩ K):=rfl
theorem Ky(y:Nat)(L:Loop)(fr fr':List (Nat×SV))(K:St→SV→Prop)(hp:List (Nat×Blk))(nid:Nat):j8 y L fr K .normal ⟨fr',hp,nid⟩=(Qs L (blk hp y)∧K ⟨fr,setBlk hp y (.loop L .ready),nid⟩ (.val (.bool true))):=rfl
theorem V9(y:Nat)(L:Loop)(fr fr':List (Nat×SV))(K:St→SV→Prop)(hp:List (Nat×Blk))(nid:Nat):j8 y L fr K .ret ⟨fr',hp,nid⟩=(Qs L (blk hp y)∧K ⟨fr,setBlk hp y (.loop L .retd),nid⟩ (.val (.bool false))):=rfl
theorem JH(y:Nat)(L:Loop)(fr fr':List (Nat×SV))(K:St→SV→Prop)(hp:List (Nat×Blk))(nid i:Nat):j8 y L fr K (.exit i) ⟨fr',hp,nid⟩=(Qs L (blk hp y)∧K ⟨fr,setBlk hp y (.loop L (.left i)),nid⟩ (.val (.bool false))):=rfl
def GJ(L:Loop)(fr:List (Nat×SV))(K:Ex→St→Prop)(_:Tag K)(hp:List (Nat×Blk))(nid id:Nat)(o:Option Blk):Prop:=vE L fr K hp nid id o
theorem Kz(id:Nat)(L:Loop)(fr fr':List (Nat×SV))(K:Ex→St→Prop)(hp:List (Nat×Blk))(nid:Nat):kj id L fr K .normal ⟨fr',hp,nid⟩=GJ L fr K .mk hp nid id (blk hp id):=rfl
theorem Wa(id:Nat)(L:Loop)(fr fr':List (Nat×SV))(K:Ex→St→Prop)(hp:List (Nat×Blk))(nid:Nat):kj id L fr K .ret ⟨fr',hp,nid⟩=GJ L fr K .mk hp nid id (blk hp id):=rfl
theorem Wb(L L':Loop)(fr:List (Nat×SV))(K:Ex→St→Prop)(g:Tag K)(hp:List (Nat×Blk))(nid id:Nat):GJ L fr K g hp nid id (some (.loop L' .ready))=(L'=L∧K .normal ⟨fr,dropBlk hp id,nid⟩):=rfl
theorem YK(L L':Loop)(fr:List (Nat×SV))(K:Ex→St→Prop)(g:Tag K)(hp:List (Nat×Blk))(nid id:Nat):GJ L fr K g hp nid id (some (.loop L' .retd))=(L'=L∧K .ret ⟨fr,dropBlk hp id,nid⟩):=rfl
theorem YL(L L':Loop)(fr:List (Nat×SV))(K:Ex→St→Prop)(g:Tag K)(hp:List (Nat×Blk))(nid id i:Nat):GJ L fr K g hp nid id (some (.loop L' (.left i)))=(L'=L∧K (.exit i) ⟨fr,dropBlk hp id,nid⟩):=rfl
theorem JI(L L':Loop):Q1 L (some (.loop L' .ready))=(L'=L):=rfl
theorem YM(L L':Loop):Qs L (some (.loop L' .busy))=(L'=L):=rfl
end
end Go.Sx
end
