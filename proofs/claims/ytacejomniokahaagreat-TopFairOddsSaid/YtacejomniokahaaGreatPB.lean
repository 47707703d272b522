/- A part of the proof. -/
import Derived.OrdersIn
import Derived.TacticsIn
import Derived.RangeFuncLeaves
import Derived.RangeFuncRecord
import Derived.Scope
import Derived.Test.YtacejomniokahaaGreatPA
open Nat renaming le_refl→xa5,mul_le_mul_right→xa8,lt_of_lt_of_le→xa9,zero_add→xb0,add_zero→xb1,lt_succ_self→xb5,zero_le→xb6,le_trans→xc1,le_succ→xc4
open List renaming getD_eq_getElem?_getD→xc6,getElem?_eq_getElem→xc7,getElem?_append_left→xc9,getElem?_append_right→xd0,mem_append→xd4,mem_cons_self→xd5,length_cons→xe4
open Bool renaming and_eq_true→xe6,false_eq_true→xe7,or_eq_true→xe8,false_or→xf4
open Array renaming getD_eq_getD_getElem?→xf5
open Classical renaming byContradiction→xf9
open Option renaming getD_some→xg0,map_some→xg1
set_option linter.unusedVariables false
set_option linter.unusedSimpArgs false
set_option maxRecDepth 1000000
set_option maxHeartbeats 16000000
section
namespace Go.Sx
open Go.RowKit
variable{o:Oper}{a:Act}{K:Act→World→Prop}{hp':List (Nat×Blk)}{s:Sem Value}{res:Res}{fr:Nat→SV}{G:Bool→Nat→Prop}{args:List SV}{u v:Value}{t ty:TypeId}{x:SV}{α:Type}{parts:Array (Nat×Operand)}
def env(F:Nat→SV):Operand→SV
 |.tmp t=>F t
 |.const v=>.val v
 |.global _=>.top
 |.func f=>.fn (.func f) [] []
def envs(F:Nat→SV):List Operand→List SV
 |[]=>[]
 |x :: l=>env F x :: envs F l
def rLen(ti:Option TyI)(x:SV):Res:=
 match ti with
 |some ⟨_,_,_,.slice _ _⟩=>
  match x with
  |.arr _ _ n _ _=>.pure True (.val (.int .i64 n))
  |.vec _ n _=>.pure True (.val (.int .i64 n))
  |.asl _ _ n _=>.pure True (.val (.int .i64 n))
  |.que _ _ n _=>.pure True (.val (.int .i64 n))
  |.cut _ n _=>.pure True (.val (.int .i64 n))
  |.val (.slice none 0 0)=>.pure True (.val (.int .i64 0))
  |_=>.bad
 |some ⟨_,_,_,.array n _ _⟩=>.pure True (.val (.int .i64 n))
 |_=>.bad
def rMin2(mx:Bool):SV→SV→SV
 |.val (.int k a),.val (.int k' b)=>if eqKind k k'=true then .val (.int k (if mx then max a b else min a b))else .top
 |_,_=>.top
def rMin(mx:Bool):List SV→Res
 |[a,b]=>match rMin2 mx a b with
  |.val v=>.pure True (.val v)
  |_=>.bad
 |[a,b,c]=>match rMin2 mx (rMin2 mx a b) c with
  |.val v=>.pure True (.val v)
  |_=>.bad
 |_=>.bad
def envp(F:Nat→SV):List (Nat×Operand)→List (Nat×SV)
 |[]=>[]
 |x :: l=>(x.1,env F x.2) :: envp F l
def rCall(P:Program)(fr:Nat→SV)(hp:List (Nat×Blk))(c:Call):Res:=
 match c.callee with
 |.value f=>match env fr f with
  |.fn (.func g) first caps=>.call g (first++(envs fr c.args.toList++caps))
  |.yld id=>.yield id (envs fr c.args.toList)
  |_=>.bad
 |.builtin .len=>match c.args.toList,c.argTypes.toList with
  |[x],[t]=>rLen (qk P t) (env fr x)
  |_,_=>.bad
 |.builtin .min=>rMin false (envs fr c.args.toList)
 |.builtin .max=>rMin true (envs fr c.args.toList)
 |.builtin .append=>match c.args.toList,c.argTypes.toList with
  |[s,x],[t,t']=>if t=t' then rAppend P t hp (env fr s) (env fr x)else .bad
  |_,_=>.bad
 |.builtin .copy=>match c.args.toList,c.argTypes.toList with
  |[d,x],[t,t']=>rCopy P t hp (env fr d) (env fr x)
  |_,_=>.bad
 |.builtin .clear=>match c.args.toList,c.argTypes.toList with
  |[d],[t]=>match env fr d with
   |.mp id=>rClearMap (qD P t) hp (.mp id)
   |x=>rClear P t hp x
  |_,_=>.bad
 |.builtin .delete=>match c.args.toList,c.argTypes.toList with
  |[m,k],[t,t']=>rDelete (qD P t) hp (env fr m) (env fr k)
  |_,_=>.bad
 |_=>.bad
def rIndex(P:Program)(t:TypeId)(x i:SV):Res:=
 match i with
 |.val (.int _ i)=>match qk P t,x with
  |some ⟨_,_,_,.array n e k⟩,.agg l=>match qk P e with
   |some ⟨true,_,_,_⟩=>.pure (0≤i∧i<n∧i.toNat*k+k≤l.length) (.agg ((l.drop (i.toNat*k)).take k))
   |some ⟨false,_,_,_⟩=>.ex (λs=>0≤i∧i<n∧k=1∧l[i.toNat]? = some s)
   |none=>.bad
  |some ⟨_,_,_,.other⟩,.val (.string s)=>match P.underlying t with
   |some .string=>.ex (λsv=>0≤i∧∃b,s[i.toNat]? = some b∧sv=.val (.int .u8 b.toNat))
   |_=>.bad
  |_,_=>.bad
 |_=>.bad
def stepR(P:Program)(fr:Nat→SV)(hp:List (Nat×Blk))(op:Op):Res:=
 match op with
 |.move x=>.pure True (env fr x)
 |.assign x=>.pure True (env fr x)
 |.pick c a b=>rPick (env fr c) (env fr a) (env fr b)
 |.alloc t=>rAlloc (qk P t) t
 |.box t x=>rBox (qk P t) t (env fr x)
 |.load t x=>rLoad (qk P t) hp (env fr x)
 |.store t a x=>rStore (qk P t) hp (env fr a) (env fr x)
 |.nilCheck x=>rNil (env fr x)
 |.binOp op t x y _=>rBin P op t (env fr x) (env fr y)
 |.unOp op _ x=>rUn op (env fr x)
 |.convert s t x=>rConv (qk P s) (qk P t) (env fr x)
 |.makeFunc f fs cs=>.pure True (.fn f (envs fr fs.toList) (envs fr cs.toList))
 |.fieldAddr t x i=>rFieldAddr (qk P t) (env fr x) i
 |.field t x i=>rField (qk P t) (env fr x) i
 |.indexAddr t x i=>rIndexAddr (qk P t) (env fr x) (env fr i)
 |.extract x i=>rExtract (env fr x) i
 |.call c=>rCall P fr hp c
 |.build t parts=>rBuild P t (envp fr parts.toList)
 |.buildSlice t len parts=>rBuildSlice P t len (envp fr parts.toList)
 |.makeSlice t l c=>rMakeSlice P t (env fr l) (env fr c)
 |.slice t x lo hi mx=>rSlice (qk P t) (env fr x) (lo.map (env fr)) (hi.map (env fr)) (mx.map (env fr))
 |.makeMap t rs=>rMakeMap (qD P t) rs.isSome
 |.lookup t x k ok=>rLookup (qD P t) hp (env fr x) (env fr k) ok
 |.mapUpdate t m k x=>rUpdate (qD P t) hp (env fr m) (env fr k) (env fr x)
 |.insert t m k x=>rUpdate (qD P t) hp (env fr m) (env fr k) (env fr x)
 |.index t x i=>rIndex P t (env fr x) (env fr i)
 |.range _ _=>.raw
 |.next _ _=>.raw
 |.entry _=>.raw
 |_=>.bad
section
variable{P:Program}{base:World}{okc:Nat→Prop}{r:Nat→Option Nat}{N:Nat→Prop}{w:World}{hp:List (Nat×Blk)}
def Kb(P:Program)(base:World)(okc:Nat→Prop)(r:Nat→Option Nat)(N:Nat→Prop)(hp:List (Nat×Blk))(w:World)(id:Nat)(hp':List (Nat×Blk))(a:Act)(dst:Option Tmp)(K:Act→World→Prop):Res→Prop
 |.bad=>False
 |.pure obl sv=>obl∧∀v,Rep r N (Gd base okc r N hp w) w sv v→K (a.put dst v) w
 |.ex obl=>∃sv,obl sv∧∀v,Rep r N (Gd base okc r N hp w) w sv v→K (a.put dst v) w
 |.new obl b mk=>obl∧¬N id∧blk hp' id=some b∧(∀j,N j→blk hp' j=blk hp j)∧∀v w' r',Step base okc r N hp w r' (qO N id) hp' w'→Rep r' (qO N id) (Gd base okc r' (qO N id) hp' w') w' (mk id) v→K (a.put dst v) w'
 |.upd obl j b=>obl∧∀w',Step base okc r N hp w r N (setBlk hp j b) w'→K (a.put dst undef) w'
 |.updv obl j b sv=>obl∧∀v w',Step base okc r N hp w r N (setBlk hp j b) w'→Rep r N (Gd base okc r N (setBlk hp j b) w') w' sv v→K (a.put dst v) w'
 |.grow obl old b mk=>obl∧¬N id∧∃hp2,blk hp2 id=some b∧(∀j,N j→j≠old→blk hp2 j=blk hp j)∧blk hp2 old=none∧∀v w' r',Step base okc r N hp w r' (qO N id) hp2 w'→Rep r' (qO N id) (Gd base okc r' (qO N id) hp2 w') w' (mk id) v→K (a.put dst v) w'
 |.call f args=>(∃res,CanC P hp f args res∧∀v w',Step base okc r N hp w r N hp w'→Rep r N (Gd base okc r N hp w') w' res v→K (a.put dst v) w')∨
  (∃pats b res,zX P f pats b res∧NewOk hp pats args b res∧¬N id∧∃hp2,blk hp2 id=some b∧(∀j,N j→blk hp2 j=blk hp j)∧∀v w' r',Step base okc r N hp w r' (qO N id) hp2 w'→Rep r' (qO N id) (Gd base okc r' (qO N id) hp2 w') w' (setId id res) v→K (a.put dst v) w')
 |.yield _ _=>False
 |.raw=>False
theorem qho(fr:Nat→SV)(l:List Operand)(i:Nat):(envs fr l)[i]? =(l[i]?).map (env fr):=by
 induction l generalizing i with
 |nil=>simp[envs]
 |cons a l ih=>cases i<;>simp[envs,ih]
theorem YS(fr:Nat→SV)(l:List Operand):(envs fr l).length=l.length:=by induction l<;>simp[envs, *]
def qrm:Res→Bool
 |.pure _ _=>true
 |.ex _=>true
 |.new _ _ _=>true
 |.bad=>true
 |_=>false
theorem qdy{Q:Exit→Act→World→Prop}{id:Nat}
  (hr:execOp a.eval o=(do pure (.value (←s)))) (hg:Good P r N (Gd base okc r N hp w) w s res)
  (hn:Ze P base okc r N hp w s res) (hu:qrm res=true) (h:Kb P base okc r N hp w id hp' a o.dst K res):o.wp P a w K Q:=by
 unfold Oper.wp;rw[hr,Sem.run_bind];cases res with
 |bad=>exact h.elim
 |pure obl sv=>
  obtain⟨v,hv,hrep⟩:=hg h.1;rw[hv];exact h.2 v hrep
 |ex obl=>
  obtain⟨sv,ho,hk⟩:=h;obtain⟨v,hv,hrep⟩:=hg sv ho;rw[hv];exact hk v hrep
 |new obl b mk=>
  obtain⟨h0,h1,h2,h3,h4⟩:=h;obtain⟨v,w',r',hv,hs,hrep⟩:=hn h0 id hp' h1 h2 h3;rw[hv];exact h4 v w' r' hs hrep
 |upd obl j b=>cases hu
 |call f args=>cases hu
 |updv obl j b sv=>cases hu
 |grow obl old b mk=>cases hu
 |yield _ _=>cases hu
 |raw=>cases hu
theorem GI{Q:Exit→Act→World→Prop}{id:Nat}{s:Sem Unit}
  (hr:execOp a.eval o=(do s;pure .skip)) (hu:qhh P base okc r N hp w s res)
  (hb:(∃obl j b,res=.upd obl j b)∨res=.bad) (h:Kb P base okc r N hp w id hp' a o.dst K res):o.wp P a w K Q:=by
 unfold Oper.wp;rw[hr,Sem.run_bind];rcases hb with⟨obl,j,b,rfl⟩|rfl
 ·obtain⟨w',hv,hs⟩:=hu h.1
  rw[hv];exact h.2 w' hs
 ·exact h.elim
theorem w8(ti:Option TyI)(hp:List (Nat×Blk))(a v:SV):(∃obl j b,rStore ti hp a v=.upd obl j b)∨rStore ti hp a v=.bad:=by
 unfold rStore;split
 ·grind
 ·grind
 ·exact .inr rfl
def vq:Res→Bool
 |.pure _ _=>true
 |.ex _=>true
 |.bad=>true
 |_=>false
theorem gZ{Q:Exit→Act→World→Prop}{id:Nat}
  (hr:execOp a.eval o=(do pure (.value (←s)))) (hg:Good P r N (Gd base okc r N hp w) w s res) (hs:vq res=true) (h:Kb P base okc r N hp w id hp' a o.dst K res):o.wp P a w K Q:=
 qdy hr hg (by cases res<;>first|trivial|(simp[vq]at hs)) (by cases res<;>first|rfl|(simp[vq]at hs)) h
theorem Kc{Q:Exit→Act→World→Prop}{id:Nat}
  (hr:execOp a.eval o=(do pure (.value (←s)))) (hg:Ze P base okc r N hp w s res) (hs:(∃obl b mk,res=.new obl b mk)∨res=.bad) (h:Kb P base okc r N hp w id hp' a o.dst K res):o.wp P a w K Q:=
 qdy hr (by rcases hs with⟨_,_,_,rfl⟩|rfl<;>trivial) hg (by rcases hs with⟨_,_,_,rfl⟩|rfl<;>rfl) h
theorem Gc(x:Operand)(ha:∀i,x=.tmp i→Rep r N (Gd base okc r N hp w) w (fr i) (a.tmps.getD i undef)):Rep r N (Gd base okc r N hp w) w (env fr x) (a.eval x):=by
 cases x with
 |tmp t=>exact ha t rfl
 |const v=>exact .val v
 |global g=>exact .top _
 |func f=>exact .fn _ _ _ _ _ rfl rfl (λi sv h=>by simp at h) (λi sv h=>by simp at h)
theorem w9(xs:Array Operand)(ha:∀x,x∈xs→Rep r N (Gd base okc r N hp w) w (env fr x) (a.eval x)) :
  (envs fr xs.toList).length=(xs.map a.eval).size∧∀i sv,(envs fr xs.toList)[i]? = some sv→Rep r N (Gd base okc r N hp w) w sv ((xs.map a.eval).getD i undef):=by
 refine⟨by simp[YS],λi sv hi=>?_⟩;rw[qho]at hi;cases hx:xs.toList[i]? with
 |none=>simp[hx]at hi
 |some x=>
  simp only[hx,xg1,Option.some.injEq]at hi;subst hi;have:xs[i]? = some x:=by simpa using hx
  simp only[xf5,Array.getElem?_map,this,xg1,xg0]
  grind
theorem wr{l m:List SV}{cs ds:Array Value}(hl:l.length=cs.size)(hm:m.length=ds.size)(h:∀i sv,l[i]? = some sv→Rep r N G w sv (cs.getD i undef))(h':∀i sv,m[i]? = some sv→Rep r N G w sv (ds.getD i undef)) :
  (l++m).length=(cs++ds).size∧∀i sv,(l++m)[i]? = some sv→Rep r N G w sv ((cs++ds).getD i undef):=by
 refine⟨by simp[hl,hm],λi sv hi=>?_⟩;by_cases hlt:i<l.length
 ·rw[xc9 hlt]at hi
  have:(cs++ds).getD i undef=cs.getD i undef:=by
   simp only[xf5]
   grind
  grind
 ·rw[xd0 Ω]at hi
  have:(cs++ds).getD i undef=ds.getD (i - l.length) undef:=by
   simp only[xf5]
   grind
  simp_all
theorem qhp{f:FuncId}{vs:Array Value}(h:Sat base okc r N hp w)(hl:args.length=vs.size)(ha:∀i sv,args[i]? = some sv→Rep r N (Gd base okc r N hp w) w sv (vs.getD i undef))
  {res:SV} (hcc:CanC P hp f args res)    {Q:Exit→Act→World→Prop}
  (hk:∀v w',Step base okc r N hp w r N hp w'→Rep r N (Gd base okc r N hp w') w' res v→K (a.put o.dst v) w'):o.upon P a K Q ((callFunc f vs).run P w):=by
 rcases hcc with⟨pats,hc,hs⟩|⟨i,hc,hi⟩
 rotate_left
 ·obtain⟨⟨fn,hf,hname,hbody⟩,hc⟩:=hc
  have hrun:(callFunc f vs).run P w=.ok (.enter f vs) w:=by
   have:fn.body.isNone=false:=by cases hb:fn.body<;>simp_all
   simp only[callFunc,Sem.run_bind,run_program,Result.andThen_ok,hf,hname,xe7,if_false,this,Sem.run_pure]
  rw[hrun,Oper.upon_enter];have⟨hr,ho⟩:=Sh.rep ha hi;refine(hc w vs hl ho).mono λe w'=>?_;rintro⟨rfl,hb⟩;have hst:=h.grow hb;exact hk _ w' hst (hst.rep hr)
 obtain⟨⟨fn,hf,hname,hbody⟩,hc⟩:=hc;have hrun:(callFunc f vs).run P w=.ok (.enter f vs) w:=by
  have:fn.body.isNone=false:=by cases hb:fn.body<;>simp_all
  simp only[callFunc,Sem.run_bind,run_program,Result.andThen_ok,hf,hname,xe7,if_false,this,Sem.run_pure]
 rw[hrun,Oper.upon_enter];rcases hs with⟨hs,hfr⟩|hs
 ·have hlen:=(kU hs).1
  refine(hc (λ_=>True) w vs (hlen.trans hl) (λi sv hi=>sub_repL (G:=Gd base okc r N hp w) (λ_ _ b _ hb=>⟨trivial,hb.1⟩) (λid x hx hN=>⟨h.rep id x hx hN,λb hb _=>⟨trivial,h.lt hx hN hb⟩⟩) pats args vs hs hl ha i sv hi)).mono λe w'=>?_;rintro⟨v,rfl,hb,hrep⟩;have hst:=h.grow hb;refine hk v w' hst (qfI (λb hb'=>⟨hb'.1,λid x hx hN e=>?_,?_⟩) hrep hfr)
  ·have:=h.lt hx hN e
   grind
  ·have:=hb'.2
   simp only[if_true]at this ⊢;have:=h.below.size;omega
 ·have hlen:=(kU hs).1
  refine(hc (λb=>Gd base okc r N hp w false b) w vs (hlen.trans hl) (λi sv hi=>sub_repL (hp:=[]) (G:=Gd base okc r N hp w) (λ_ o' b _ hb=>⟨⟨hb.1,hb.2.1,(by have:=hb.2.2;cases o'<;>simp_all)⟩,hb.1⟩) (λid x hx hN=>by simp[blk]at hx) pats args vs hs hl ha i sv hi)).mono λe w'=>?_;rintro⟨v,rfl,hb,hrep⟩;have hst:=h.grow hb;refine hk v w' hst (ku (λo b hb'=>?_) hrep);obtain⟨h1,h2⟩:=hb';have hsz:=h.below.size;cases o with
  |true=>
   simp only[if_true]at h2;exact⟨h1,λid x hx hN e=>by have:=h.lt hx hN e;omega,by simp only[if_true];omega⟩
  |false=>
   simp only[xe7,if_false]at h2;rcases h2 with h2|h2
   ·exact⟨h1,h2.2.1,h2.2.2⟩
   ·exact⟨h1,λid x hx hN e=>by have:=h.lt hx hN e;omega,by simp only[xe7,if_false];right;omega⟩
theorem VF{f:FuncId}{vs:Array Value}(h:Sat base okc r N hp w)(hl:args.length=vs.size)(ha:∀i sv,args[i]? = some sv→Rep r N (Gd base okc r N hp w) w sv (vs.getD i undef))
  {pats:List SV} {bb:Blk} {res:SV} (hc:zX P f pats bb res) (hs:NewOk hp pats args bb res) {id:Nat} (hid:¬N id) {hp2:List (Nat×Blk)} (hat:blk hp2 id=some bb) (hoth:∀j,N j→blk hp2 j=blk hp j)    {Q:Exit→Act→World→Prop}
  (hk:∀v w' r',Step base okc r N hp w r' (qO N id) hp2 w'→Rep r' (qO N id) (Gd base okc r' (qO N id) hp2 w') w' (setId id res) v→K (a.put o.dst v) w'):o.upon P a K Q ((callFunc f vs).run P w):=by
 obtain⟨⟨fn,hf,hname,hbody⟩,hc⟩:=hc;have hrun:(callFunc f vs).run P w=.ok (.enter f vs) w:=by
  have:fn.body.isNone=false:=by cases hb:fn.body<;>simp_all
  simp only[callFunc,Sem.run_bind,run_program,Result.andThen_ok,hf,hname,xe7,if_false,this,Sem.run_pure]
 rw[hrun,Oper.upon_enter];rcases hs with⟨hs,hfo,hfb⟩|⟨hs,hfo,hfb⟩
 ·have hlen:=(kU hs).1
  refine(hc (λ_=>True) w vs (hlen.trans hl) (λi sv hi=>sub_repL (G:=Gd base okc r N hp w) (λ_ _ b _ hb=>⟨trivial,hb.1⟩) (λid x hx hN=>⟨h.rep id x hx hN,λb hb _=>⟨trivial,h.lt hx hN hb⟩⟩) pats args vs hs hl ha i sv hi)).mono λe w'=>?_;rintro⟨v,ob,rfl,hb,hob,hblk,hrep⟩;have hst:=h.exch (w':=w') id hid none (hp':=hp2) bb ob hat (λj hj _=>hoth j hj) (λo ho=>by cases ho) (h.below.trans (hb.mono h.below.size)) (Shapes.below hb) hb.size (λc hc _=>hb.block c hc) (λc hc=>.inr (hob c hc)) λr' N' G' _ _ _ hnew=>
   qlI (λc hc=>by
    have h2:=hc.2.2;simp only[if_true]at h2;exact hnew true c h2 hc.1 hc.2.1) hblk hfb
  refine hk v w' _ hst (qlH (ob:=ob) (qy _ _ _) (.inr rfl) (λc hc=>?_) hrep hfo);have h2:=hc.2.2;simp only[if_true]at h2;refine⟨hc.1,λj y hy hN=>?_,?_⟩
  ·rcases hN with e|e
   ·have hne:j≠id:=λe'=>hid (by rw[←e'];exact e)
    rw[vJ _ hne];intro e';rw[hoth j e]at hy;exact absurd (h.lt hy e e') Ω
   ·subst e;rw[qy];exact hc.2.1
  ·have:=h.below.size
   grind
 ·have hlen:=(kU hs).1
  refine(hc (λb=>Gd base okc r N hp w false b) w vs (hlen.trans hl) (λi sv hi=>sub_repL (hp:=[]) (G:=Gd base okc r N hp w) (λ_ o' b _ hb=>⟨⟨hb.1,hb.2.1,(by have:=hb.2.2;cases o'<;>simp_all)⟩,hb.1⟩) (λid x hx hN=>by simp[blk]at hx) pats args vs hs hl ha i sv hi)).mono λe w'=>?_;rintro⟨v,ob,rfl,hb,hob,hblk,hrep⟩;have hst:=h.exch (w':=w') id hid none (hp':=hp2) bb ob hat (λj hj _=>hoth j hj) (λo ho=>by cases ho) (h.below.trans (hb.mono h.below.size)) (Shapes.below hb) hb.size (λc hc _=>hb.block c hc) (λc hc=>.inr (hob c hc)) λr' N' G' _ _ hold hnew=>
   qor (λo c hc=>by
    obtain⟨h0,h1,h2⟩:=hc;cases o with
    |true=>simp only[if_true]at h2;exact hnew true c h2 h0 h1
    |false=>
     simp only[xe7,if_false]at h2;rcases h2 with h2|h2
     ·simp_all
     ·exact hnew false c h2 h0 h1) hblk hfb
  refine hk v w' _ hst (qoq (ob:=ob) (qy _ _ _) (.inr rfl) (λo c hc=>?_) hrep hfo);obtain⟨g0,g1,g2⟩:=hc;have hbs:=h.below.size;have key:w.heap.size≤c∨Gd base okc r N hp w o c:=by
   cases o with
   |true=>simp only[if_true]at g2;exact .inl g2
   |false=>
    simp only[xe7,if_false]at g2;rcases g2 with g2|g2
    ·exact .inr g2
    ·exact .inl g2
  rcases key with key|key
  ·refine⟨g0,λj y hy hN=>?_,?_⟩
   ·rcases hN with e|e
    ·have hne:j≠id:=λe'=>hid (by rw[←e'];exact e)
     rw[vJ _ hne];intro e';rw[hoth j e]at hy;exact absurd (h.lt hy e e') Ω
    ·subst e;rw[qy];exact g1
   ·grind
  ·exact(hst.gg o c key).1
theorem GJ(x y:SV){z:Value}(hx:Rep r N G w x u)(hy:Rep r N G w y v)(h:rMin2 false x y=.val z):(Builtin.min2 u v).run P w=.ok z w:=by
 unfold rMin2 at h;split at h
 ·cases hx;cases hy
  rename_i k a k' b;split at h
  ·rename_i e
   obtain rfl:=vL e;cases h;simp only[Builtin.min2,Sem.run_pure,xe7,if_false]
   congr 2
   split<;>omega
  ·cases h
 ·cases h
theorem GL(x y:SV){z:Value}(hx:Rep r N G w x u)(hy:Rep r N G w y v)(h:rMin2 true x y=.val z):(Builtin.max2 u v).run P w=.ok z w:=by
 unfold rMin2 at h;split at h
 ·cases hx;cases hy
  rename_i k a k' b;split at h
  ·rename_i e
   obtain rfl:=vL e;cases h;simp only[Builtin.max2,Sem.run_pure,if_true]
   congr 2
   split<;>omega
  ·cases h
 ·cases h
theorem qlK(hx:Rep r N G w x u){obl:Prop}{sv:SV}(h:rLen (qk P t) x=.pure obl sv):∃v,(Builtin.len_ #[t] ty #[u]).run P w=.ok v w∧Rep r N G w sv v:=by
 unfold rLen at h;split at h
 ·rename_i ag sz z e k ht
  obtain⟨i,hu,_,_⟩:=GA ht rfl;have key:∀(a:Option Addr)(n c:Nat),(Builtin.len_ #[t] ty #[.slice a n c]).run P w=.ok (.int .i64 n) w:=λa n c=>by
   simp[Builtin.len_,run_underlying hu,goInt]
  split at h<;>simp only[Res.pure.injEq,reduceCtorEq]at h<;>obtain⟨rfl,rfl⟩:=h<;>cases hx<;>exact⟨_,key _ _ _,.val _⟩
 ·rename_i ag sz z n e k ht
  obtain⟨i,hu,_,_⟩:=GB ht rfl;simp only[Res.pure.injEq]at h;obtain⟨rfl,rfl⟩:=h;refine⟨.int .i64 n,?_,.val _⟩;simp[Builtin.len_,run_underlying hu,goInt]
 ·cases h
theorem KL{xs:Array α}{a b:α}(h:xs.toList=[a,b]):xs = #[a,b]:=by cases xs;simp_all
theorem GM{xs:Array α}{a:α}(h:xs.toList=[a]):xs = #[a]:=by cases xs;simp_all
theorem qpY{xs:Array α}{a b c:α}(h:xs.toList=[a,b,c]):xs = #[a,b,c]:=by cases xs;simp_all
theorem qpZ{l:List Operand}{a b:SV}(h:envs fr l=[a,b]):∃x y,l=[x,y]∧env fr x=a∧env fr y=b:=by
 match l,h with
 |[x,y],h=>simp only[envs,List.cons.injEq,and_true]at h;exact⟨x,y,rfl,h.1,h.2⟩
 |[],h=>simp[envs]at h
 |[x],h=>simp[envs]at h
 |x :: y :: z :: l,h=>simp[envs]at h
theorem qqa{l:List Operand}{a b c:SV}(h:envs fr l=[a,b,c]):∃x y z,l=[x,y,z]∧env fr x=a∧env fr y=b∧env fr z=c:=by
 match l,h with
 |[x,y,z],h=>simp only[envs,List.cons.injEq,and_true]at h;exact⟨x,y,z,rfl,h.1,h.2.1,h.2.2⟩
 |[],h=>simp[envs]at h
 |[x],h=>simp[envs]at h
 |[x,y],h=>simp[envs]at h
 |x :: y :: z :: u :: l,h=>simp[envs]at h
theorem GN(mx:Bool){xs:Array Operand}(ha:∀x,x∈xs→Rep r N (Gd base okc r N hp w) w (env fr x) (a.eval x)){ts:Array TypeId}{obl:Prop}{sv:SV}(h:rMin mx (envs fr xs.toList)=.pure obl sv) :
  ∃v,(if mx=true then Builtin.max_ ts t (xs.map a.eval)else Builtin.min_ ts t (xs.map a.eval)).run P w=.ok v w∧Rep r N (Gd base okc r N hp w) w sv v:=by
 unfold rMin at h;split at h
 ·rename_i x y he
  obtain⟨ox,oy,hl,rfl,rfl⟩:=qpZ he;have hxs:=KL hl;subst hxs;split at h
  ·rename_i v hv
   simp only[Res.pure.injEq]at h;obtain⟨rfl,rfl⟩:=h;refine⟨v,?_,.val v⟩;cases mx with
   |true=>
    have:=GL (P:=P) _ _ (ha ox Ωj) (ha oy Ωj) hv;simp[Builtin.max_,this]
   |false=>
    have:=GJ (P:=P) _ _ (ha ox Ωj) (ha oy Ωj) hv;simp[Builtin.min_,this]
  ·cases h
 ·rename_i x y z he
  obtain⟨ox,oy,oz,hl,rfl,rfl,rfl⟩:=qqa he;have hxs:=qpY hl;subst hxs;split at h
  ·rename_i v hv
   simp only[Res.pure.injEq]at h;obtain⟨rfl,rfl⟩:=h;refine⟨v,?_,.val v⟩;cases hm:rMin2 mx (env fr ox) (env fr oy)with
   |val u=>
    rw[hm]at hv;cases mx with
    |true=>
     have h1:=GL (P:=P) _ _ (ha ox Ωj) (ha oy Ωj) hm;have h2:=GL (P:=P) (w:=w) _ _ (.val u) (ha oz Ωj) hv;simp[Builtin.max_,h1,h2]
    |false=>
     have h1:=GJ (P:=P) _ _ (ha ox Ωj) (ha oy Ωj) hm;have h2:=GJ (P:=P) (w:=w) _ _ (.val u) (ha oz Ωj) hv;simp[Builtin.min_,h1,h2]
   |_=>rw[hm]at hv;simp[rMin2]at hv
  ·cases h
 ·cases h
theorem KM(fr:Nat→SV)(l:List (Nat×Operand)):(envp fr l).length=l.length:=by induction l<;>simp[envp, *]
theorem qlL(fr:Nat→SV)(l:List (Nat×Operand))(i:Nat):(envp fr l)[i]? =(l[i]?).map λx=>(x.1,env fr x.2):=by
 induction l generalizing i with
 |nil=>simp[envp]
 |cons a l ih=>cases i<;>simp[envp,ih]
theorem YT(parts:Array (Nat×Operand))(ha:∀x,(∃i,(i,x)∈parts)→Rep r N G w (env fr x) (a.eval x))(i:Nat)(p:Nat×SV)(q:Nat×Value)(hp:(envp fr parts.toList)[i]? = some p)(hq:(parts.map λ(i,x)=>(i,a.eval x)).toList[i]? = some q) :
  p.1=q.1∧Rep r N G w p.2 q.2:=by
 rw[qlL]at hp;cases hx:parts.toList[i]? with
 |none=>rw[hx]at hp;simp at hp
 |some x=>
  grind
theorem GO(x:Option Operand)(ha:∀y,x=some y→Rep r N G w (env fr y) (a.eval y)):KZ r N G w (x.map (env fr)) (x.map a.eval):=by
 cases x with
 |none=>trivial
 |some x=>exact ha x rfl
theorem jR(ti:Option TyI)(x:SV)(lo hi mx:Option SV):vq (rSlice ti x lo hi mx)=true:=by
 unfold rSlice;(repeat' split)<;>rfl
theorem ja(t:TypeId)(parts:List (Nat×SV)):vq (rBuild P t parts)=true:=by
 unfold rBuild;(repeat' split)<;>rfl
theorem gj(t:TypeId)(len:Nat)(parts:List (Nat×SV)):(∃obl b mk,rBuildSlice P t len parts=.new obl b mk)∨rBuildSlice P t len parts=.bad:=by
 unfold rBuildSlice;(repeat' split)<;>first|exact .inl ⟨_,_,_,rfl⟩|exact .inr rfl
theorem gJ(t:TypeId)(l c:SV):(∃obl b mk,rMakeSlice P t l c=.new obl b mk)∨rMakeSlice P t l c=.bad:=by
 unfold rMakeSlice;(repeat' split)<;>first|exact .inl ⟨_,_,_,rfl⟩|exact .inr rfl
theorem jS(t:TypeId)(s x:SV):(∃obl b mk,rAppend P t hp s x=.new obl b mk)∨(∃obl o b mk,rAppend P t hp s x=.grow obl o b mk)∨rAppend P t hp s x=.bad:=by
 unfold rAppend;(repeat' split)<;>first|exact .inl ⟨_,_,_,rfl⟩|exact .inr (.inl ⟨_,_,_,_,rfl⟩)|exact .inr (.inr rfl)
theorem QA(t:TypeId)(s x:SV):(∃obl j b sv,rCopy P t hp s x=.updv obl j b sv)∨rCopy P t hp s x=.bad:=by
 unfold rCopy;(repeat' split)<;>first|exact .inl ⟨_,_,_,_,rfl⟩|exact .inr rfl
theorem ya(t:TypeId)(s:SV):(∃obl j b,rClear P t hp s=.upd obl j b)∨rClear P t hp s=.bad:=by
 unfold rClear;(repeat' split)<;>first|exact .inl ⟨_,_,_,rfl⟩|exact .inr rfl
theorem YU(h:Sat base okc r N hp w){s:SV}(hs:Rep r N (Gd base okc r N hp w) w s u)(hx:Rep r N (Gd base okc r N hp w) w x v){Q:Exit→Act→World→Prop}{id:Nat}
  (he:execOp a.eval o=(do pure (.value (←Builtin.append_ #[t,t] ty #[u,v])))) (hk:Kb P base okc r N hp w id hp' a o.dst K (rAppend P t hp s x)):o.wp P a w K Q:=by
 obtain⟨g1,g2⟩:=qbM (P:=P) h t ty hs hx;rcases jS (P:=P) (hp:=hp) t s x with⟨obl,b,mk,hres⟩|⟨obl,o,b,mk,hres⟩|hres
 ·rw[hres]at hk g1
  exact Kc he g1 (.inl ⟨_,_,_,rfl⟩) hk
 ·rw[hres]at hk g2
  obtain⟨h0,h1,hp2,h2,h3,h4,h5⟩:=hk;obtain⟨v,w',r',hv,hs,hrep⟩:=g2 h0 id hp2 h1 h2 h3 h4;unfold Oper.wp;rw[he,Sem.run_bind,hv];exact h5 v w' r' hs hrep
 ·rw[hres]at hk;exact hk.elim
theorem qfK(h:Sat base okc r N hp w){d:SV}(hd:Rep r N (Gd base okc r N hp w) w d u)(hx:Rep r N (Gd base okc r N hp w) w x v){t':TypeId}{Q:Exit→Act→World→Prop}{id:Nat}
  (he:execOp a.eval o=(do pure (.value (←Builtin.copy_ #[t,t'] ty #[u,v])))) (hk:Kb P base okc r N hp w id hp' a o.dst K (rCopy P t hp d x)):o.wp P a w K Q:=by
 have g1:=qfF (P:=P) h t ty t' hd hx;rcases QA (P:=P) (hp:=hp) t d x with⟨obl,j,b,sv,hres⟩|hres
 ·rw[hres]at hk g1
  obtain⟨v,w',hv,hs,hrep⟩:=g1 hk.1;unfold Oper.wp;rw[he,Sem.run_bind,hv];exact hk.2 v w' hs hrep
 ·rw[hres]at hk;exact hk.elim
theorem qbV(h:Sat base okc r N hp w){d:SV}(hd:Rep r N (Gd base okc r N hp w) w d u){Q:Exit→Act→World→Prop}{id:Nat}
  (he:execOp a.eval o=(do pure (.value (←Builtin.clear_ #[t] ty #[u])))) (hk:Kb P base okc r N hp w id hp' a o.dst K (rClear P t hp d)):o.wp P a w K Q:=by
 rcases ya (P:=P) (hp:=hp) t d with⟨obl,j,b,hres⟩|hres
 ·have hres':=hres
  rw[hres]at hk;obtain⟨w',hv,hs⟩:=qbN (P:=P) h t ty hd hres' hk.1;unfold Oper.wp;rw[he,Sem.run_bind,hv];exact hk.2 w' hs
 ·rw[hres]at hk;exact hk.elim
theorem qbW(h:Sat base okc r N hp w){lo hi mx:Option SV}{vlo vhi vmx:Option Value}(hx:Rep r N (Gd base okc r N hp w) w x u)(hlo:KZ r N (Gd base okc r N hp w) w lo vlo)(hhi:KZ r N (Gd base okc r N hp w) w hi vhi)(hmx:KZ r N (Gd base okc r N hp w) w mx vmx)
     {Q:Exit→Act→World→Prop} {id:Nat} 
  (he:execOp a.eval o=(do pure (.value (←Instr.sliceAt t u vlo vhi vmx)))) (hk:Kb P base okc r N hp w id hp' a o.dst K (rSlice (qk P t) x lo hi mx)):o.wp P a w K Q:=
 gZ he (qfD t hx hlo hhi hmx) (jR _ _ _ _ _) hk
theorem qbX(hx:∀x,(∃i,(i,x)∈parts)→Rep r N (Gd base okc r N hp w) w (env fr x) (a.eval x))
    {Q:Exit→Act→World→Prop} {id:Nat} 
  (he:execOp a.eval o=(do pure (.value (←Instr.build t (parts.map λ(i,x)=>(i,a.eval x)))))) (hk:Kb P base okc r N hp w id hp' a o.dst K (rBuild P t (envp fr parts.toList))):o.wp P a w K Q:=
 gZ he (qbP (by simp[KM]) λi p q hp hq=>YT parts hx i p q hp hq) (ja _ _) hk
theorem K2(h:Sat base okc r N hp w)(hx:∀x,(∃i,(i,x)∈parts)→Rep r N (Gd base okc r N hp w) w (env fr x) (a.eval x)){len:Nat}
    {Q:Exit→Act→World→Prop} {id:Nat} 
  (he:execOp a.eval o=(do pure (.value (←Instr.buildSlice t len (parts.map λ(i,x)=>(i,a.eval x)))))) (hk:Kb P base okc r N hp w id hp' a o.dst K (rBuildSlice P t len (envp fr parts.toList))):o.wp P a w K Q:=
 Kc he (K1 h t len (by simp[KM]) λi p q hp hq=>YT parts hx i p q hp hq) (gj _ _ _) hk
theorem gk(mi:Option vb)(hp:List (Nat×Blk))(m k x:SV):(∃obl j b,rUpdate mi hp m k x=.upd obl j b)∨rUpdate mi hp m k x=.bad:=by
 unfold rUpdate;(repeat' split)<;>first|exact .inl ⟨_,_,_,rfl⟩|exact .inr rfl
theorem ws(mi:Option vb)(hp:List (Nat×Blk))(m k:SV):(∃obl j b,rDelete mi hp m k=.upd obl j b)∨rDelete mi hp m k=.bad:=by
 unfold rDelete;(repeat' split)<;>first|exact .inl ⟨_,_,_,rfl⟩|exact .inr rfl
theorem ve(mi:Option vb)(hp:List (Nat×Blk))(m:SV):(∃obl j b,rClearMap mi hp m=.upd obl j b)∨rClearMap mi hp m=.bad:=by
 unfold rClearMap;(repeat' split)<;>first|exact .inl ⟨_,_,_,rfl⟩|exact .inr rfl
theorem gC(mi:Option vb)(hp:List (Nat×Blk))(x k:SV)(ok:Bool):vq (rLookup mi hp x k ok)=true:=by
 unfold rLookup;(repeat' split)<;>rfl
theorem jT(t:TypeId)(x i:SV):vq (rIndex P t x i)=true:=by
 unfold rIndex;(repeat' split)<;>rfl
theorem jy(mi:Option vb)(b:Bool):(∃obl bb mk,rMakeMap mi b=.new obl bb mk)∨rMakeMap mi b=.bad:=by
 unfold rMakeMap;(repeat' split)<;>first|exact .inl ⟨_,_,_,rfl⟩|exact .inr rfl
theorem qbY{i:SV}(hx:Rep r N G w x u)(hi:Rep r N G w i v):Good P r N G w (Instr.index t u v) (rIndex P t x i):=by
 unfold rIndex;split
 ·rename_i kk i
  cases hi;split
  ·rename_i ag sz z n e k l ht
   obtain⟨hu,ei,hei,hk⟩:=Vy ht;cases hx with
   |agg _ cs hl hr=>
    have hsz:(sizeOf e).run P w=.ok k w:=by rw[zH hei,hk]
    split
    ·rename_i sz' z' d' hte
     rintro⟨h1,h2,h3⟩;refine⟨.agg (cs.extract (i.toNat*k) (i.toNat*k+k)),?_,.agg _ _ Ωu λj sv hj=>?_⟩
     ·simp only[Instr.index,asIntOf,Sem.run_bind,Sem.run_pure,Result.andThen_ok,run_underlying hu,h1,h2,and_self,if_true,hsz,part,wh hte]
     ·rw[List.getElem?_take]at hj
      split at hj
      ·rename_i hjk
       rw[List.getElem?_drop]at hj;have:=hr _ sv hj;have e:(cs.extract (i.toNat*k) (i.toNat*k+k)).getD j undef=cs.getD (i.toNat*k+j) undef:=by
        simp only[xf5,Array.getElem?_extract];rw[if_pos Ω]
       rw[e];exact this
      ·cases hj
    ·rename_i sz' z' d' hte
     rintro sv ⟨h1,h2,rfl,h3⟩;have hlt:i.toNat<cs.size:=by rw[←hl];exact(List.getElem?_eq_some_iff.1 h3).1
     refine⟨cs.getD i.toNat undef,?_,hr _ sv h3⟩;simp only[Instr.index,asIntOf,Sem.run_bind,Sem.run_pure,Result.andThen_ok,run_underlying hu,h1,h2,and_self,if_true,hsz,part,wh hte,xe7,if_false,Nat.mul_one];simp[hlt]
    ·trivial
  ·rename_i s ht
   split
   ·rename_i hu
    rintro sv ⟨h1,b,hb,rfl⟩;cases hx;refine⟨.int .u8 b.toNat,?_,.val _⟩;simp only[Instr.index,asIntOf,Sem.run_bind,Sem.run_pure,Result.andThen_ok,run_underlying hu,h1,if_true,hb]
   ·trivial
  ·trivial
 ·trivial
theorem YV(f:Value){Q:Exit→Act→World→Prop}{id:Nat}
  (he:execOp a.eval o=(do pure (.value (←s)))) (hf:(∃obl j b,res=.upd obl j b)∨res=.bad) (hr:∀obl j b,res=.upd obl j b→obl→∃w',s.run P w=.ok (.tuple #[]) w'∧Step base okc r N hp w r N (setBlk hp j b) w')
  (hk:Kb P base okc r N hp w id hp' a o.dst K res):o.wp P a w K Q:=by
 rcases hf with⟨obl,j,b,rfl⟩|rfl
 ·obtain⟨w',hv,hs⟩:=hr _ _ _ rfl hk.1
  unfold Oper.wp;rw[he,Sem.run_bind,hv];exact hk.2 w' hs
 ·exact hk.elim
theorem jb(h:Sat base okc r N hp w)(ha:∀x,x∈o.op.operands→Rep r N (Gd base okc r N hp w) w (env fr x) (a.eval x)){Q:Exit→Act→World→Prop}{id:Nat}
  (hk:Kb P base okc r N hp w id hp' a o.dst K (stepR P fr hp o.op)):o.wp P a w K Q:=by
 obtain⟨dst,op,type,pos,after,guard⟩:=o;have E:=λx hx=>ha x hx;clear ha;simp only[]at E;cases op<;>simp only[stepR]at hk<;>try exact hk.elim
 case move x=>exact hk.2 _ (E x Ωn)
 case assign x=>exact hk.2 _ (E x Ωn)
 case pick c x y=>
  unfold rPick at hk;split at hk
  ·rename_i b hb
   have hc:=E c Ωn;rw[hb]at hc;have he:a.eval c=.bool b:=by generalize a.eval c=z at hc;cases hc;rfl
   unfold Oper.wp;simp only[execOp,he,asBool,Sem.run_bind,Sem.run_pure,Result.andThen_ok];exact hk.2 _ (Rep.ite b (E x Ωn) (E y Ωn))
  ·exact hk.elim
 case alloc t=>exact Kc rfl (qfB h t) (by unfold rAlloc;split<;>first|exact .inl ⟨_,_,_,rfl⟩|exact .inr rfl) hk
 case box t x=>exact Kc rfl (qlG h t (E x Ωn)) (by unfold rBox;split<;>first|exact .inl ⟨_,_,_,rfl⟩|exact .inr rfl|(split<;>first|exact .inl ⟨_,_,_,rfl⟩|exact .inr rfl)) hk
 case load t x=>exact gZ rfl (run_load h.ok (E x Ωn)) (by unfold rLoad;split<;>first|rfl|(split<;>first|rfl|(split<;>rfl))) hk
 case store t x y=>exact GI rfl (qfC h t (E x Ωn) (E y Ωn)) (w8 _ _ _ _) hk
 case nilCheck x=>
  have hx:=E x Ωn;generalize hs:env fr x=s at hk hx;unfold Oper.wp;simp only[execOp];generalize a.eval x=u at hx;cases hx<;>simp only[rNil]at hk<;>try exact hk.elim
  case ptr id off b hN hr=>exact hk.2 _ (.ptr _ _ _ hN hr)
  case elt id k i j b hN hr=>exact hk.2 _ (.elt _ _ _ _ _ hN hr)
  case ref o n row b off f hG hc hr=>exact hk.2 _ (.ref _ _ _ _ _ f hG hc hr)
  case fn f l m cs ds hl hm h1 h2=>
   cases f<;>simp only[]at hk<;>try exact hk.elim
   exact hk.2 _ (.fn _ _ _ _ _ hl hm h1 h2)
 case binOp op t x y t'=>
  have hx:=E x Ωn;have hy:=E y Ωn;cases hres:rBin P op t (env fr x) (env fr y)with
  |pure obl sv=>
   rw[hres]at hk;obtain⟨z,hz,hrep⟩:=qlF hres hk.1 hx hy x y;unfold Oper.wp;simp only[execOp];rw[Sem.run_bind,hz];exact hk.2 z hrep
  |_=>
   rw[hres]at hk
   revert hres
   unfold rBin;(repeat' split)<;>first|(intro hres;cases hres;done)|(intro hres;cases hres;exact hk.elim)|(intro hres;rcases wi P op t _ _ _ with⟨_,_,e⟩|e<;>rw[e]at hres<;>cases hres<;>exact hk.elim)|(unfold rEq;(repeat' split)<;>intro hres<;>cases hres<;>exact hk.elim)|(unfold rInt;split<;>intro hres<;>cases hres<;>exact hk.elim)
 case unOp op t x=>
  cases hres:rUn op (env fr x)with
  |pure obl sv=>
   rw[hres]at hk;obtain⟨z,hz,hrep⟩:=qop (P:=P) hres hk.1 (E x Ωn);unfold Oper.wp;simp only[execOp];rw[Sem.run_bind,hz];exact hk.2 z hrep
  |_=>
   rw[hres]at hk
   revert hres
   unfold rUn;split<;>intro hres<;>cases hres<;>exact hk.elim
 case convert s t x=>
  cases hres:rConv (qk P s) (qk P t) (env fr x)with
  |pure obl sv=>
   rw[hres]at hk;obtain⟨z,hz,hrep⟩:=qhg hres hk.1 (E x Ωn);unfold Oper.wp;simp only[execOp];rw[Sem.run_bind,hz];exact hk.2 z hrep
  |_=>
   rw[hres]at hk
   revert hres
   unfold rConv;split<;>intro hres<;>cases hres<;>exact hk.elim
 case makeFunc f fs cs=>
  obtain⟨h1,h2⟩:=w9 fs (λx hx=>E x (by simp[Op.operands,hx]));obtain⟨h3,h4⟩:=w9 cs (λx hx=>E x (by simp[Op.operands,hx]));exact hk.2 _ (.fn _ _ _ _ _ h1 h3 h2 h4)
 case fieldAddr t x i=>exact gZ rfl (J9 (E x Ωn)) (by unfold rFieldAddr;split<;>first|rfl|(split<;>first|rfl|(split<;>rfl))) hk
 case field t x i=>exact gZ rfl (qfA (E x Ωn)) (by unfold rField;split<;>first|rfl|(split<;>first|rfl|(split<;>first|rfl|(split<;>rfl)))) hk
 case indexAddr t x i=>exact gZ rfl (Va (E x Ωn) (E i Ωn)) (by unfold rIndexAddr;split<;>first|rfl|(split<;>first|rfl|(split<;>first|rfl|(split<;>rfl)))) hk
 case extract x i=>exact gZ rfl (YN (E x Ωn)) (by unfold rExtract;split<;>rfl) hk
 case build t parts=>
  have e1:∀x,(∃i,(i,x)∈parts)→Rep r N (Gd base okc r N hp w) w (env fr x) (a.eval x):=λx hx=>E x (by simpa[Op.operands]using hx);exact qbX e1 rfl hk
 case buildSlice t len parts=>
  have e1:∀x,(∃i,(i,x)∈parts)→Rep r N (Gd base okc r N hp w) w (env fr x) (a.eval x):=λx hx=>E x (by simpa[Op.operands]using hx);exact K2 h e1 rfl hk
 case makeSlice t l c=>exact Kc rfl (qfE h t (E l Ωx) (E c Ωx)) (gJ _ _ _) hk
 case slice t x lo hi mx=>
  have e1:=E x Ωx;have e2:=GO lo λy hy=>E y (by simp[Op.operands,hy]);have e3:=GO hi λy hy=>E y (by simp[Op.operands,hy]);have e4:=GO mx λy hy=>E y (by simp[Op.operands,hy]);exact qbW h e1 e2 e3 e4 rfl hk
 case makeMap t rs=>
  cases rs with
  |none=>exact Kc rfl (Ws h t) (jy _ _) hk
  |some y=>
   exfalso
   simp only[Option.isSome_some]at hk;unfold rMakeMap at hk;split at hk<;>exact hk
 case lookup t x k ok=>exact gZ rfl (qbT h.ok (E x Ωx) (E k Ωx) ok) (gC _ _ _ _ _) hk
 case mapUpdate t m k x=>exact GI rfl (KK h t (E m Ωx) (E k Ωx) (E x Ωx)) (gk _ _ _ _ _) hk
 case insert t m k x=>exact GI rfl (KK h t (E m Ωx) (E k Ωx) (E x Ωx)) (gk _ _ _ _ _) hk
 case index t x i=>exact gZ rfl (qbY (E x Ωx) (E i Ωx)) (jT _ _ _) hk
 case call c=>
  obtain⟨callee,args,argTypes⟩:=c;cases callee with
  |value f=>
   simp only[rCall]at hk;have hf:=E f Ωn;split at hk
   ·rename_i g first caps hfe
    rw[hfe]at hf;unfold Oper.wp;simp only[execOp,resolve,Sem.run_bind];generalize a.eval f=u at hf;cases hf with
    |fn _ _ _ cs ds hl hm h1 h2=>
     obtain⟨hl3,h3⟩:=w9 args (λx hx=>E x (by simp[Op.operands,Call.operands,hx]));obtain⟨hl4,h4⟩:=wr hl3 hm h3 h2;obtain⟨hl5,h5⟩:=wr hl hl4 h1 h4;simp only[Deferred.ofValue,Sem.run_pure,Result.andThen_ok,invoke];rw[Array.append_assoc];rcases hk with⟨res,hc,hk⟩|⟨pats,bb,res,hc,hs,hid,hp2,hat,hoth,hk⟩
     ·exact qhp h hl5 h5 hc hk
     ·exact VF h hl5 h5 hc hs hid hat hoth hk
   ·exact hk.elim
   ·exact hk.elim
  |invoke x m=>exact hk.elim
  |builtin b=>
   cases b<;>simp only[rCall]at hk<;>try exact hk.elim
   case append=>
    split at hk
    rotate_left
    ·exact hk.elim
    rename_i s x t t' hargs hts;have hargs:=KL hargs;have hts:=KL hts;subst hargs;subst hts;split at hk
    rotate_left
    ·exact hk.elim
    rename_i e;subst e;exact YU (u:=a.eval s) (v:=a.eval x) (ty:=type) h (E s Ωn) (E x Ωn) (by
     simp only[execOp,resolve,invoke,builtin,List.map_toArray,List.map_cons,List.map_nil];rfl) hk
   case copy=>
    split at hk
    rotate_left
    ·exact hk.elim
    rename_i d x t t' hargs hts;have hargs:=KL hargs;have hts:=KL hts;subst hargs;subst hts;exact qfK (u:=a.eval d) (v:=a.eval x) (t':=t') (ty:=type) h (E d Ωn) (E x Ωn) (by
     simp only[execOp,resolve,invoke,builtin,List.map_toArray,List.map_cons,List.map_nil];rfl) hk
   case delete=>
    split at hk
    rotate_left
    ·exact hk.elim
    rename_i m k t t' hargs hts;have hargs:=KL hargs;have hts:=KL hts;subst hargs;subst hts;refine YV (s:=Builtin.delete_ #[t,t'] type #[a.eval m,a.eval k]) undef (by
     simp only[execOp,resolve,invoke,builtin,List.map_toArray,List.map_cons,List.map_nil];rfl) (ws _ _ _ _) (λobl j b hres ho=>YR h t t' type (E m Ωn) (E k Ωn) hres ho) hk
   case clear=>
    split at hk
    rotate_left
    ·exact hk.elim
    rename_i d t hargs hts;have hargs:=GM hargs;have hts:=GM hts;subst hargs;subst hts;have hd:=E d Ωn;split at hk
    ·rename_i mid hmid
     rw[hmid]at hd;refine YV (s:=Builtin.clear_ #[t] type #[a.eval d]) undef (by
      simp only[execOp,resolve,invoke,builtin,List.map_toArray,List.map_cons,List.map_nil];rfl) (ve _ _ _) (λobl j b hres ho=>Vb h t type hd hres ho) hk
    ·exact qbV (u:=a.eval d) (ty:=type) h hd (by
      simp only[execOp,resolve,invoke,builtin,List.map_toArray,List.map_cons,List.map_nil];rfl) hk
   case len=>
    split at hk
    ·rename_i x t hx ht
     have hx:=GM hx;have ht:=GM ht;subst hx;subst ht;cases hres:rLen (qk P t) (env fr x)with
     |pure obl sv=>
      rw[hres]at hk;obtain⟨z,hz,hrep⟩:=qlK (ty:=type) (E x Ωn) hres;unfold Oper.wp;simp only[execOp,resolve,Sem.run_bind,Sem.run_pure,Result.andThen_ok,invoke,builtin,List.map_toArray,List.map_cons,List.map_nil,hz];exact hk.2 z hrep
     |_=>
      rw[hres]at hk
      revert hres
      unfold rLen;(repeat' split)<;>intro hres<;>cases hres<;>exact hk.elim
    ·exact hk.elim
   case max=>
    cases hres:rMin true (envs fr args.toList)with
    |pure obl sv=>
     rw[hres]at hk;obtain⟨z,hz,hrep⟩:=GN true (λx hx=>E x (by simp[Op.operands,Call.operands,hx])) (ts:=argTypes) (t:=type) hres;rw[if_pos rfl]at hz;unfold Oper.wp;simp only[execOp,resolve,Sem.run_bind,Sem.run_pure,Result.andThen_ok,invoke,builtin];rw[hz];exact hk.2 z hrep
    |_=>
     rw[hres]at hk
     revert hres
     unfold rMin;(repeat' split)<;>intro hres<;>cases hres<;>exact hk.elim
   case min=>
    cases hres:rMin false (envs fr args.toList)with
    |pure obl sv=>
     rw[hres]at hk;obtain⟨z,hz,hrep⟩:=GN false (λx hx=>E x (by simp[Op.operands,Call.operands,hx])) (ts:=argTypes) (t:=type) hres;rw[if_neg Ωj]at hz;unfold Oper.wp;simp only[execOp,resolve,Sem.run_bind,Sem.run_pure,Result.andThen_ok,invoke,builtin];rw[hz];exact hk.2 z hrep
    |_=>
     rw[hres]at hk
     revert hres
     unfold rMin;(repeat' split)<;>intro hres<;>cases hres<;>exact hk.elim
end
end Go.Sx
end
section
namespace Go.Sx
open Go.RowKit
variable{hp:List (Nat×Blk)}{ro:Option Nat}{o:Oper}{op:Op}{x:Res}{args:List SV}
def undefSV:SV:=.val (.tuple #[])
def kC(g:Bool)(A B:Prop):Prop:=(g=true→A)∧(g=false→B)
theorem qbZ(A B:Prop):kC true A B=A:=by simp[kC]
theorem YW(A B:Prop):kC false A B=B:=by simp[kC]
theorem qfL(g:Bool)(A B:Prop):kC (!g) A B=kC g B A:=by cases g<;>simp[kC]
def Wt(P:Program)(hp:List (Nat×Blk))(f:FuncId)(args:List SV)(K:SV→Prop):Prop:=
 ∃res,CanC P hp f args res∧K res
def qdz(P:Program)(hp:List (Nat×Blk))(f:FuncId)(args:List SV)(K:Blk→SV→Prop):Prop:=
 ∃pats b res,zX P f pats b res∧NewOk hp pats args b res∧K b res
structure Fr:Type where
 fr:List (Nat×SV)
 rcd:Option Loop
 ns:Nat
 lo:Nat
structure Ctx:Type where
 fs:List Fr
 lo:Nat
 rnd:Bool
 far:Nat→List (Nat×Nat)
def jc:Nat→List (Nat×Nat):=λ_=>[]
def vr(n:Nat)(l:List (Nat×Nat)):Nat→List (Nat×Nat):=λi=>if i=n then l else []
def kD:List (Nat×Nat)→Bool
 |(a,b) :: _=>decide (a=b)
 |[]=>false
def QB(n:Nat):Nat→List (Nat×Nat):=vr n [(0,0)]
def qQ:SV→Option Nat
 |.ptr id _=>some id
 |.elt id _ _ _=>some id
 |_=>none
def vO(s s':SV):Prop:=match qQ s,qQ s' with
 |some i,some j=>i≠j
 |_,_=>True
def FarVC:List (Nat×Nat)→St→Prop→Prop
 |[],_,X=>X
 |(a,b) :: l,st,X=>vO (look st.fr a) (look st.fr b)∧FarVC l st X
theorem vf:∀{l:List (Nat×Nat)}{st:St}{X:Prop},FarVC l st X→X∧∀a b,(a,b)∈l→vO (look st.fr a) (look st.fr b)
 |[],st,X,h=>⟨h,λa b hab=>by cases hab⟩
 |(c,d) :: l,st,X,h=>by
  obtain⟨h1,h2⟩:=vf h.2;refine⟨h1,λa b hab=>?_⟩;rcases List.mem_cons.1 hab with e|e
  ·cases e;exact h.1
  ·exact h2 a b e
theorem FarVC.mono:∀{l:List (Nat×Nat)}{st:St}{X Y:Prop},(X→Y)→FarVC l st X→FarVC l st Y
 |[],st,X,Y,hh,h=>hh h
 |(c,d) :: l,st,X,Y,hh,h=>⟨h.1,FarVC.mono hh h.2⟩
def OutOk(r:Nat→Option Nat)(lo:Nat)(G:Bool→Nat→Prop)(w:World):List Fr→List Act→Prop
 |[],[]=>True
 |f :: fs,a :: as=>(∀i,Rep r (· < f.lo) G w (look f.fr i) (a.tmps.getD i undef))∧f.lo≤lo∧a.tmps.size=f.ns∧(∀L,f.rcd=some L→L.tmps=a.tmps)∧OutOk r lo G w fs as
 |_,_=>False
theorem OutOk.mono{r r':Nat→Option Nat}{lo lo':Nat}{G G':Bool→Nat→Prop}{w w':World}(hlo:lo≤lo')(h:∀n,n≤lo→∀sv v,Rep r (· < n) G w sv v→Rep r' (· < n) G' w' sv v):∀{fs:List Fr}{as:List Act},OutOk r lo G w fs as→OutOk r' lo' G' w' fs as
 |[],[],_=>trivial
 |f :: fs,a :: as,⟨h1,h2,h3,h4,h5⟩=>⟨λi=>h _ h2 _ _ (h1 i),xc1 h2 hlo,h3,h4,OutOk.mono hlo h h5⟩
structure jn:Type where
 as:List Act
 r0:Nat→Option Nat
def QC(D:Nat):Deferred:={ target:=.collected D,args:=#[] }
def GP(a:Act)(outs:List Act):List Deferred:=a.defers++(outs.map (·.defers)).flatten
structure InvR(O:Ctx)(base:World)(okc:Nat→Prop)(ns k:Nat)(r:Nat→Option Nat)(outs:jn)(st:St)(a:Act)(w:World):Prop where
 sat:Sat base okc r (· < k) st.hp w
 keys:∀id x,blk st.hp id=some x→id<k
 fr:∀i,Rep r (· < k) (Gd base okc r (· < k) st.hp w) w (look st.fr i) (a.tmps.getD i undef)
 size:a.tmps.size=ns
 lo:O.lo≤k
 out:OutOk r O.lo (Gd base okc r (· < k) st.hp w) w O.fs outs.as
 rfix:∀id,id<O.lo→r id=outs.r0 id
 defers:∃Ds:List Nat,GP a outs.as=Ds.map QC∧Ds.Nodup∧∀D∈Ds,Gd base okc r (· < k) st.hp w true D∧w.heap[D]? = some (.deferred (some []))
def Inv(O:Ctx)(base:World)(okc:Nat→Prop)(ns k:Nat)(outs:jn)(st:St)(a:Act)(w:World):Prop:=∃r,InvR O base okc ns k r outs st a w
def kW(P:Program)(O:Ctx)(f:FuncId)(args:List SV)(st:St)(K:St→SV→Prop):Prop:=
 ∀(base:World)(okc:Nat→Prop)(ns:Nat)(r:Nat→Option Nat)(outs:jn)(a:Act)(w:World)(vs:Array Value),InvR O base okc ns st.nid r outs st a w→args.length=vs.size→
  (∀i sv,args[i]? = some sv→Rep r (· < st.nid) (Gd base okc r (· < st.nid) st.hp w) w sv (vs.getD i undef))→
  (callFunc f vs).run P w=.ok (.enter f vs) w∧
  Calls P f vs w λe w'=>∃v st' r' res,e=.returned v∧K st' res∧st.nid≤st'.nid∧InvR O base okc ns st'.nid r' outs st' a w'∧Rep r' (· < st'.nid) (Gd base okc r' (· < st'.nid) st'.hp w') w' res v
def yK(P:Program)(O:Ctx)(id:Nat)(args:List SV)(st:St)(K:St→SV→Prop):Prop:=
 ∀(base:World)(okc:Nat→Prop)(ns:Nat)(r:Nat→Option Nat)(outs:jn)(a:Act)(w:World)(vs:Array Value)(l:Nat),InvR O base okc ns st.nid r outs st a w→args.length=vs.size→
  (∀i sv,args[i]? = some sv→Rep r (· < st.nid) (Gd base okc r (· < st.nid) st.hp w) w sv (vs.getD i undef))→id<st.nid→r id=some l→
  ∃fn tmps assign body,(Instr.yield l vs).run P w=.ok (.round l fn tmps assign body) w∧
  RoundIn Fence.wide 0 P l fn tmps assign body w λe w'=>∃v st' r' res,e=.returned v∧K st' res∧st.nid≤st'.nid∧InvR O base okc ns st'.nid r' outs st' a w'∧Rep r' (· < st'.nid) (Gd base okc r' (· < st'.nid) st'.hp w') w' res v
def OpVC(P:Program)(O:Ctx)(op:Op)(st:St)(K:St→SV→Prop):Prop:=
 ∀(base:World)(okc:Nat→Prop)(ns:Nat)(r:Nat→Option Nat)(outs:jn)(a:Act)(w:World)(o:Oper),o.op=op→InvR O base okc ns st.nid r outs st a w→
  ∃v w',(execOp a.eval o).run P w=.ok (.value v) w'∧∃st' r' res,K st' res∧st.nid≤st'.nid∧InvR O base okc ns st'.nid r' outs st' a w'∧Rep r' (· < st'.nid) (Gd base okc r' (· < st'.nid) st'.hp w') w' res v
def wN(P:Program)(O:Ctx)(J:Prop)(op:Op)(d:Option Tmp)(id:Nat)(st:St)(K:St→Prop):Res→Prop
 |.bad=>False
 |.pure obl r=>obl∧K (st.put d r)
 |.ex obl=>∃r,obl r∧K (st.put d r)
 |.new obl b mk=>obl∧K (({ st with hp:=(id,b) :: st.hp }).put d (mk id))
 |.upd obl j b=>obl∧K (({ st with hp:=setBlk st.hp j b }).put d undefSV)
 |.updv obl j b sv=>obl∧K (({ st with hp:=setBlk st.hp j b }).put d sv)
 |.grow obl old b mk=>(obl∧old≠id)∧K (({ st with hp:=(id,b) :: dropBlk st.hp old }).put d (mk id))
 |.call f args=>Wt P st.hp f args (λr=>K (st.put d r))∨qdz P st.hp f args (λb res=>K (({ st with hp:=(id,b) :: st.hp }).put d (setId id res)))∨(J∧kW P O f args ⟨st.fr,st.hp,id⟩ λst' res=>K (st'.put d res))
 |.yield y args=>J∧yK P O y args ⟨st.fr,st.hp,id⟩ λst' res=>K (st'.put d res)
 |.raw=>J∧OpVC P O op ⟨st.fr,st.hp,id⟩ λst' res=>K (st'.put d res)
def nth:List (Option Tmp)→Nat→Option Tmp
 |[],_=>none
 |d :: _,0=>d
 |_ :: l,n+1=>nth l n
def zr(ds:List (Option Tmp))(g:Option (Nat×Bool))(st:St)(run skip:St→Prop):Prop:=
 match g with
 |none=>run st
 |some (j,want)=>match nth ds j with
  |none=>False
  |some t=>match look st.fr t with
   |.val (.bool b)=>match want with
    |true=>kC b (run (st.put (some t) (.val (.bool true)))) (skip (st.put (some t) (.val (.bool false))))
    |false=>kC b (skip (st.put (some t) (.val (.bool true)))) (run (st.put (some t) (.val (.bool false))))
   |.val (.tuple _)=>skip st
   |_=>False
def qL(P:Program)(O:Ctx)(J:Prop)(ds:List (Option Tmp)):List Oper→Nat→St→(St→Prop)→Prop
 |[],_,st,K=>K st
 |o :: rest,i,st,K=>zr ds o.guard st
    (λst=>wN P O J o.op o.dst (st.nid+i) st (λst=>qL P O J ds rest (i+1) st K) (stepR P (look st.fr) st.hp o.op))
    (λst=>qL P O J ds rest (i+1) (st.put o.dst undefSV) K)
def dsts:List Oper→List (Option Tmp)
 |[]=>[]
 |o :: l=>o.dst :: dsts l
theorem zk(l:List Oper)(j:Nat):nth (dsts l) j=(l[j]?).bind (·.dst):=by
 induction l generalizing j with
 |nil=>simp[dsts,nth]
 |cons o l ih=>cases j<;>simp[dsts,nth,ih]
theorem zq(fr:List (Nat×SV))(d t:Nat)(v:SV):look (putFr fr d v) t=if t=d then v else look fr t:=rfl
theorem wu(fr:List (Nat×SV))(d t:Nat)(v:SV):look (putIn fr d v) t=if t=d then v else look fr t:=by
 induction fr with
 |nil=>simp[putIn,look]
 |cons p fr ih=>
  obtain⟨i,u⟩:=p;simp only[putIn];by_cases e:d=i
  ·subst e
   rw[if_pos rfl];simp only[look]
   simp_all
  ·rw[if_neg e]
   simp only[look,ih];by_cases e':t=i
   ·grind
   ·simp[e']
theorem jD(d:Option Tmp)(fr:List (Nat×SV))(t:Nat):look (inD d fr) t=look fr t:=by
 cases d with
 |none=>rfl
 |some d=>
  cases fr with
  |nil=>rfl
  |cons p fr=>obtain⟨i,u⟩:=p;exact wu fr i t u
def kX(ns:Nat)(o:Oper):Bool:=match o.dst with|some d=>decide (d<ns)|none=>true
section
variable{P:Program}{O:Ctx}{J:Prop}{base:World}{okc:Nat→Prop}{ns k:Nat}{r:Nat→Option Nat}{outs:jn}{st:St}{a:Act}{w:World}
theorem jz(k:Nat):qO (· < k) k=(· < k+1):=by funext i;simp only[qO,eq_iff_iff];omega
theorem Sat.more{N N':Nat→Prop}(h:Sat base okc r N hp w)(hN:∀i,N i→N' i)(hno:∀i x,blk hp i=some x→N' i→N i):Step base okc r N hp w r N' hp w:=by
 have hG:∀o c,Gd base okc r N hp w o c→Gd base okc r N' hp w o c∧w.heap[c]? = w.heap[c]?:=λo c ⟨h1,h2,h3⟩=>⟨⟨h1,λi y hy hi=>h2 i y hy (hno i y hy hi),h3⟩,rfl⟩;exact⟨⟨h.below,λi y hy hi=>(h.rep i y hy (hno i y hy hi)).mono (λ_ _=>rfl) hN hG (Shapes.refl w) (λ_ _=>rfl),λi y b hy hi=>h.own i y b hy (hno i y hy hi),
  λi y i' y' b hy hi hy' hi'=>h.inj i y i' y' b hy (hno i y hy hi) hy' (hno i' y' hy' hi')⟩,λ_ _=>rfl,hN,hG,Shapes.refl w⟩
theorem Zf(a:Act)(d:Option Tmp)(v:Value)(t:Nat):(a.put d v).tmps.getD t undef=if d=some t∧t<a.tmps.size then v else a.tmps.getD t undef:=by
 cases d with
 |none=>simp[Act.put]
 |some d=>
  simp only[Act.put,xf5,Array.getElem?_setIfInBounds,Option.some.injEq];by_cases e:d=t
  ·grind
  ·simp[e]
theorem GQ(a:Act)(d:Option Tmp)(v:Value):(a.put d v).defers=a.defers:=by cases d<;>rfl
theorem qhq(a:Act)(d:Option Tmp)(v:Value):(a.put d v).tmps.size=a.tmps.size:=by cases d<;>simp[Act.put]
theorem InvR.step{k':Nat}{r':Nat→Option Nat}{hp':List (Nat×Blk)}{w':World}(h:InvR O base okc ns k r outs st a w)(hs:Step base okc r (· < k) st.hp w r' (· < k') hp' w')(hk:∀id x,blk hp' id=some x→id<k')(hkk:k≤k'){d:Option Tmp}(hd:∀t,d=some t→t<ns)
  {sv:SV} {v:Value} (hv:Rep r' (· < k') (Gd base okc r' (· < k') hp' w') w' sv v):InvR O base okc ns k' r' outs (({ st with hp:=hp' }:St).put d sv) (a.put d v) w':=by
 have hhp:(({ st with hp:=hp' }:St).put d sv).hp=hp':=by cases d<;>rfl
 refine⟨by rw[hhp];exact hs.sat,by rw[hhp];exact hk,λi=>?_,by rw[qhq];exact h.size,xc1 h.lo hkk,?_,λid hid=>(hs.rr id (xa9 hid h.lo)).trans (h.rfix id hid),?_⟩
 ·rw[Zf,hhp]
  cases d with
  |none=>
   simp only[St.put,reduceCtorEq,false_and,if_false];exact hs.rep (h.fr i)
  |some d=>
   simp only[St.put,zq,Option.some.injEq];by_cases e:i=d
   ·subst e
    rw[if_pos rfl,if_pos ⟨rfl,by rw[h.size];exact hd _ rfl⟩];exact hv
   ·rw[if_neg e,if_neg (by rintro⟨e',_⟩;exact e e'.symm)]
    exact hs.rep (h.fr i)
 ·rw[hhp]
  exact h.out.mono (xa5 _) λn hn sv v hv=>hv.mono (λid hid=>hs.rr id (xa9 hid (xc1 hn h.lo))) (λ_ h=>h) hs.gg hs.sh
 ·obtain⟨Ds,h1,h2,h3⟩:=h.defers
  refine⟨Ds,by unfold GP;rw[GQ];exact h1,h2,λD hD=>?_⟩;rw[hhp];obtain⟨h4,h5⟩:=h3 D hD;obtain⟨h6,h7⟩:=hs.gg _ _ h4
  simp_all
theorem InvR.more(h:InvR O base okc ns k r outs st a w){k':Nat}(hk:k≤k'):InvR O base okc ns k' r outs st a w:=by
 have hs:Step base okc r (· < k) st.hp w r (· < k') st.hp w:=h.sat.more (λi hi=>xa9 hi hk) (λi x hx _=>h.keys i x hx);refine⟨hs.sat,λid x hx=>xa9 (h.keys id x hx) hk,λi=>hs.rep (h.fr i),h.size,xc1 h.lo hk,h.out.mono (xa5 _) λn hn sv v hv=>hv.mono (λ_ _=>rfl) (λ_ h=>h) hs.gg hs.sh,h.rfix,?_⟩;obtain⟨Ds,h1,h2,h3⟩:=h.defers;exact⟨Ds,h1,h2,λD hD=>⟨(hs.gg _ _ (h3 D hD).1).1,(h3 D hD).2⟩⟩
theorem InvR.nid(h:InvR O base okc ns k r outs st a w)(n:Nat):InvR O base okc ns k r outs { st with nid:=n } a w:=⟨h.sat,h.keys,h.fr,h.size,h.lo,h.out,h.rfix,h.defers⟩
theorem InvR.keep(h:InvR O base okc ns k r outs st a w){t:Nat}{b:Bool}(hb:look st.fr t=.val (.bool b)):InvR O base okc ns k r outs (st.put (some t) (.val (.bool b))) a w:=by
 refine⟨h.sat,h.keys,λi=>?_,h.size,h.lo,h.out,h.rfix,h.defers⟩;simp only[St.put,zq];split
 ·rename_i e;subst e;rw[←hb];exact h.fr i
 ·exact h.fr i
theorem InvR.env(h:InvR O base okc ns k r outs st a w)(x:Operand):Rep r (· < k) (Gd base okc r (· < k) st.hp w) w (env (look st.fr) x) (a.eval x):=Gc x λi _=>h.fr i
theorem zu(st:St)(d:Option Tmp)(v:SV):(st.put d v).hp=st.hp:=by cases d<;>rfl
theorem qx(st:St)(d:Option Tmp)(v:SV):(st.put d v).nid=st.nid:=by cases d<;>rfl
def FR(ro:Option Nat):Fence:={ fn:=λ_=>True,depth:=none,alive:=false,round:=ro }
theorem calls_FR{f:FuncId}{vs:Array Value}{R:Ending→World→Prop}:CallsIn (FR ro) 0 P f vs w R↔Calls P f vs w R:=(Iff.rfl:CallsIn (FR ro) 0 P f vs w R↔CallsIn Fence.wide 0 P f vs w R).trans callsIn_wide
theorem kY{K:Act→World→Prop}{Q:Exit→Act→World→Prop}(hd:∀c,o.op≠.defer c)(h:o.wp P a w K Q):o.wpIn (FR ro) 0 P a w K Q:=by
 refine⟨λ_ _=>trivial,?_⟩;rw[Oper.semAt_eq _ _ _ hd];unfold Oper.wp at h;generalize (execOp a.eval o).run P w=res at h;cases res with
 |ok x w'=>
  cases x<;>simp only[Oper.upon,Oper.uponIn]at h ⊢<;>first|exact h|skip
  ·exact⟨λhh=>by simp[FR]at hh,calls_FR.2 h⟩
  ·exact⟨λhh=>by simp[FR]at hh,λc cs _=>let ⟨v,w'',h1,h2⟩:=h c cs;⟨v,w'',h1,(stepsIn_wide (P:=P)).2 h2⟩⟩
 |halt x w'=>cases x<;>simp only[Oper.upon,Oper.uponIn]at h ⊢<;>exact h
theorem qfM{fr:Nat→SV}(h:stepR P fr hp op≠.bad):∀c,op≠.defer c:=λc e=>by subst e;exact h rfl
def qdA:Res→Bool
 |.call _ _=>false
 |.yield _ _=>false
 |.raw=>false
 |_=>true
theorem vt(h:vq x=true):qdA x=true:=by cases x<;>first|rfl|cases h
theorem Kd(h:(∃obl b mk,x=.new obl b mk)∨x=.bad):qdA x=true:=by rcases h with⟨_,_,_,rfl⟩|rfl<;>rfl
theorem j6(h:(∃obl j b,x=.upd obl j b)∨x=.bad):qdA x=true:=by rcases h with⟨_,_,_,rfl⟩|rfl<;>rfl
theorem Ke(F:Nat→SV)(hp:List (Nat×Blk))(op:Op):qdA (stepR P F hp op)=true∨(∃x xs ts,op=.call ⟨.value x,xs,ts⟩)∨(∃t x,op=.range t x)∨(∃x s,op=.next x s)∨(∃x,op=.entry x):=by
 cases op<;>try exact .inl rfl
 case pick=>left;simp only[stepR];unfold rPick;split<;>rfl
 case alloc=>left;simp only[stepR];unfold rAlloc;split<;>rfl
 case box=>left;simp only[stepR];unfold rBox;(repeat' split)<;>rfl
 case load=>left;simp only[stepR];unfold rLoad;(repeat' split)<;>rfl
 case store=>left;exact j6 (w8 _ _ _ _)
 case nilCheck=>left;simp only[stepR];unfold rNil;split<;>rfl
 case binOp=>left;simp only[stepR];unfold rBin;(repeat' split)<;>first|rfl|(rcases wi P _ _ _ _ _ with⟨_,_,e⟩|e<;>rw[e]<;>rfl)|(unfold rInt;split<;>rfl)|(unfold rEq;(repeat' split)<;>rfl)
 case unOp=>left;simp only[stepR];unfold rUn;split<;>rfl
 case convert=>left;simp only[stepR];unfold rConv;split<;>rfl
 case fieldAddr=>left;simp only[stepR];unfold rFieldAddr;(repeat' split)<;>rfl
 case field=>left;simp only[stepR];unfold rField;(repeat' split)<;>rfl
 case indexAddr=>left;simp only[stepR];unfold rIndexAddr;(repeat' split)<;>rfl
 case extract=>left;simp only[stepR];unfold rExtract;split<;>rfl
 case build=>left;exact vt (ja _ _)
 case buildSlice=>left;exact Kd (gj _ _ _)
 case makeSlice=>left;exact Kd (gJ _ _ _)
 case slice=>left;exact vt (jR _ _ _ _ _)
 case makeMap=>left;exact Kd (jy _ _)
 case lookup=>left;exact vt (gC _ _ _ _ _)
 case mapUpdate=>left;exact j6 (gk _ _ _ _ _)
 case insert=>left;exact j6 (gk _ _ _ _ _)
 case index=>left;exact vt (jT _ _ _)
 case range t x=>exact .inr (.inr (.inl ⟨t,x,rfl⟩))
 case next x s=>exact .inr (.inr (.inr (.inl ⟨x,s,rfl⟩)))
 case entry x=>exact .inr (.inr (.inr (.inr ⟨x,rfl⟩)))
 case call c=>
  obtain⟨callee,args,ts⟩:=c;cases callee with
  |value f=>exact .inr (.inl ⟨f,args,ts,rfl⟩)
  |invoke _ _=>exact .inl rfl
  |builtin b=>
   left
   cases b<;>first|rfl|skip
   case append=>simp only[stepR,rCall];(repeat' split)<;>first|rfl|(rcases jS (P:=P) (hp:=hp) _ _ _ with⟨_,_,_,e⟩|⟨_,_,_,_,e⟩|e<;>rw[e]<;>rfl)
   case copy=>simp only[stepR,rCall];split<;>first|rfl|(rcases QA (P:=P) (hp:=hp) _ _ _ with⟨_,_,_,_,e⟩|e<;>rw[e]<;>rfl)
   case clear=>simp only[stepR,rCall];(repeat' split)<;>first|rfl|exact j6 (ve _ _ _)|exact j6 (ya _ _)
   case delete=>simp only[stepR,rCall];split<;>first|rfl|exact j6 (ws _ _ _ _)
   case len=>simp only[stepR,rCall];split<;>first|rfl|(unfold rLen;(repeat' split)<;>rfl)
   case max=>simp only[stepR,rCall];unfold rMin;(repeat' split)<;>rfl
   case min=>simp only[stepR,rCall];unfold rMin;(repeat' split)<;>rfl
theorem zT{F:Nat→SV}{f:FuncId}(h:stepR P F hp op=.call f args) :
  ∃x xs ts first caps,op=.call ⟨.value x,xs,ts⟩∧env F x=.fn (.func f) first caps∧args=first++(envs F xs.toList++caps):=by
 rcases Ke (P:=P) F hp op with h'|⟨x,xs,ts,rfl⟩|⟨t,x,rfl⟩|⟨x,s,rfl⟩|⟨x,rfl⟩
 ·rw[h]at h';cases h'
 ·simp only[stepR,rCall]at h
  split at h
  ·grind
  ·cases h
  ·cases h
 ·cases h
 ·cases h
 ·cases h
theorem KN{F:Nat→SV}{y:Nat}(h:stepR P F hp op=.yield y args) :
  ∃x xs ts,op=.call ⟨.value x,xs,ts⟩∧env F x=.yld y∧args=envs F xs.toList:=by
 rcases Ke (P:=P) F hp op with h'|⟨x,xs,ts,rfl⟩|⟨t,x,rfl⟩|⟨x,s,rfl⟩|⟨x,rfl⟩
 ·rw[h]at h';cases h'
 ·simp only[stepR,rCall]at h
  split at h
  ·cases h
  ·grind
  ·cases h
 ·cases h
 ·cases h
 ·cases h
theorem qca{i:Nat}{K:St→Prop}{K':Act→World→Prop}{Q:Exit→Act→World→Prop}(h:InvR O base okc ns (st.nid+i) r outs st a w)(hd:kX ns o=true)
  (hk:wN P O J o.op o.dst (st.nid+i) st K (stepR P (look st.fr) st.hp o.op))
  (hK:∀st' a' w',K st'→st.nid≤st'.nid→(¬J→st'.nid=st.nid)→Inv O base okc ns (st'.nid+(i+1)) outs st' a' w'→K' a' w'):o.wpIn (FR ro) 0 P a w K' Q:=by
 have hd':∀t,o.dst=some t→t<ns:=λt ht=>by simpa[kX,ht]using hd
 have hk1:st.nid+i≤st.nid+(i+1):=by omega
 have hnb:stepR P (look st.fr) st.hp o.op≠.bad:=λe=>by rw[e]at hk;exact hk
 have hdef:=qfM hnb;have base1:Kb P base okc r (· < st.nid+i) st.hp w (st.nid+i) (match stepR P (look st.fr) st.hp o.op with|.new _ b _=>(st.nid+i,b) :: st.hp|_=>st.hp) a o.dst K' (stepR P (look st.fr) st.hp o.op)→o.wpIn (FR ro) 0 P a w K' Q:=λhres=>
  kY hdef (jb h.sat (fr:=look st.fr) (id:=st.nid+i) (hp':=match stepR P (look st.fr) st.hp o.op with|.new _ b _=>(st.nid+i,b) :: st.hp|_=>st.hp) (λx _=>h.env x) hres)
 have hin:InvR O base okc ns (st.nid+i) r outs ⟨st.fr,st.hp,st.nid+i⟩ a w:=h.nid _;have after:∀(v:Value)(st':St)(r':Nat→Option Nat)(res:SV)(w':World),J→K (st'.put o.dst res)→st.nid+i≤st'.nid→InvR O base okc ns st'.nid r' outs st' a w'→Rep r' (· < st'.nid) (Gd base okc r' (· < st'.nid) st'.hp w') w' res v→K' (a.put o.dst v) w':=λv st' r' res w' hJ h1 h2 h3 h4=>
  hK _ _ _ h1 (by rw[qx];omega) (λhj=>absurd hJ hj) ⟨r',by
   rw[qx];exact(h3.step (Step.refl h3.sat) h3.keys (xa5 _) hd' h4).more Ω⟩
 generalize hres:stepR P (look st.fr) st.hp o.op=res at hk base1;cases res<;>dsimp only at base1
 case bad=>exact hk.elim
 case pure obl sv=>exact base1 ⟨hk.1,λv hv=>hK _ _ _ hk.2 ΩH (λ_=>by rw[qx]) ⟨r,by rw[qx];exact(h.step (Step.refl h.sat) h.keys (xa5 _) hd' hv).more hk1⟩⟩
 case ex obl=>
  obtain⟨sv,ho,hk⟩:=hk;exact base1 ⟨sv,ho,λv hv=>hK _ _ _ hk ΩH (λ_=>by rw[qx]) ⟨r,by rw[qx];exact(h.step (Step.refl h.sat) h.keys (xa5 _) hd' hv).more hk1⟩⟩
 case new obl b mk=>
  refine base1 ⟨hk.1,Ω,by simp[blk],λj hj=>?_,λv w' r' hs hv=>?_⟩
  ·simp only[blk];rw[if_neg Ω]
  ·rw[jz]at hs hv
   refine hK _ _ _ hk.2 ΩH (λ_=>by rw[qx]) ⟨r',?_⟩;rw[qx];refine h.step hs (λid x hx=>?_) Ω hd' hv;simp only[blk]at hx;split at hx
   ·omega
   ·have:=h.keys id x hx;omega
 case upd obl j b=>
  refine base1 ⟨hk.1,λw' hs=>hK _ _ _ hk.2 ΩH (λ_=>by rw[qx]) ⟨r,?_⟩⟩;rw[qx];refine(h.step hs (λid x hx=>?_) (xa5 _) hd' (.val _)).more hk1;rw[qn]at hx;split at hx
  ·rename_i e;subst e
   cases hb:blk st.hp id with
   |none=>simp[hb]at hx
   |some y=>exact h.keys id y hb
  ·exact h.keys id x hx
 case updv obl j b sv=>
  refine base1 ⟨hk.1,λv w' hs hv=>hK _ _ _ hk.2 ΩH (λ_=>by rw[qx]) ⟨r,?_⟩⟩;rw[qx];refine(h.step hs (λid x hx=>?_) (xa5 _) hd' hv).more hk1;rw[qn]at hx;split at hx
  ·rename_i e;subst e
   cases hb:blk st.hp id with
   |none=>simp[hb]at hx
   |some y=>exact h.keys id y hb
  ·exact h.keys id x hx
 case grow obl old b mk=>
  refine base1 ⟨hk.1.1,Ω,(st.nid+i,b) :: dropBlk st.hp old,by simp[blk],λj hj hne=>?_,?_,λv w' r' hs hv=>?_⟩
  ·simp only[blk,qB];rw[if_neg Ω,if_neg hne]
  ·simp only[blk,qB];rw[if_neg hk.1.2];simp
  ·rw[jz]at hs hv
   refine hK _ _ _ hk.2 ΩH (λ_=>by rw[qx]) ⟨r',?_⟩;rw[qx];refine h.step hs (λid x hx=>?_) Ω hd' hv;simp only[blk,qB]at hx;split at hx
   ·omega
   ·split at hx
    ·cases hx
    ·have:=h.keys id x hx;omega
 case call f args=>
  rcases hk with⟨res,hc,hk⟩|⟨pats,b,res,hc,hs,hk⟩|⟨hJ,hk⟩
  ·exact base1 (.inl ⟨res,hc,λv w' hst hv=>hK _ _ _ hk ΩH (λ_=>by rw[qx]) ⟨r,by rw[qx];exact(h.step hst h.keys (xa5 _) hd' hv).more hk1⟩⟩)
  ·refine base1 (.inr ⟨pats,b,res,hc,hs,Ω,(st.nid+i,b) :: st.hp,by simp[blk],λj hj=>?_,λv w' r' hs hv=>?_⟩)
   ·simp only[blk];rw[if_neg Ω]
   ·rw[jz]at hs hv
    refine hK _ _ _ hk ΩH (λ_=>by rw[qx]) ⟨r',?_⟩;rw[qx];refine h.step hs (λid x hx=>?_) Ω hd' hv;simp only[blk]at hx;split at hx
    ·omega
    ·have:=h.keys id x hx;omega
  ·obtain⟨x,xs,ts,first,caps,hop,hx,rfl⟩:=zT hres
   refine⟨λ_ _=>trivial,?_⟩;rw[Oper.semAt_eq _ _ _ hdef];have hf:=h.env x;rw[hx]at hf;obtain⟨dst,op,type,pos,aft,guard⟩:=o;simp only[]at hop after;subst hop;simp only[execOp,resolve,Sem.run_bind];generalize a.eval x=u at hf;cases hf with
   |fn _ _ _ cs ds hl hm h1 h2=>
    obtain⟨hl3,h3⟩:=w9 xs (λx _=>h.env x);obtain⟨hl4,h4⟩:=wr hl3 hm h3 h2;obtain⟨hl5,h5⟩:=wr hl hl4 h1 h4;obtain⟨hrun,hcalls⟩:=hk base okc ns r outs a w _ hin hl5 h5;simp only[Deferred.ofValue,Sem.run_pure,Result.andThen_ok,invoke];rw[Array.append_assoc,hrun,Oper.uponIn_enter];refine⟨λhh=>by simp[FR]at hh,calls_FR.2 (hcalls.mono λe w'=>?_)⟩
    grind
 case yield y args=>
  obtain⟨hJ,hk⟩:=hk;obtain⟨x,xs,ts,hop,hx,rfl⟩:=KN hres;refine⟨λ_ _=>trivial,?_⟩;rw[Oper.semAt_eq _ _ _ hdef];have hf:=h.env x;rw[hx]at hf;obtain⟨dst,op,type,pos,aft,guard⟩:=o;simp only[]at hop after;subst hop;simp only[execOp,resolve,Sem.run_bind];generalize a.eval x=u at hf;cases hf with
  |yld _ l hN hr=>
   obtain⟨hl3,h3⟩:=w9 xs (λx _=>h.env x);obtain⟨fn,tmps,assign,body,hrun,hround⟩:=hk base okc ns r outs a w _ l hin hl3 h3 hN hr;simp only[Deferred.ofValue,Sem.run_pure,Result.andThen_ok,invoke];have e : #[]++Array.map a.eval xs=Array.map a.eval xs:=by simp
   rw[e,hrun,Oper.uponIn_round];refine⟨λhh=>by simp[FR]at hh,RoundIn.mono (F:=FR ro) hround λe w'=>?_⟩
   grind
 case raw=>
  obtain⟨hJ,hk⟩:=hk;refine⟨λ_ _=>trivial,?_⟩;rw[Oper.semAt_eq _ _ _ hdef];obtain⟨v,w',hrun,st',r',res,hK',hn,hi,hv⟩:=hk base okc ns r outs a w o rfl hin;rw[hrun];exact after v st' r' res w' hJ hK' hn hi hv
theorem wv(ops:Array Oper)(a:Act)(j t:Nat)(h:nth (dsts ops.toList) j=some t):yielded ops a.tmps j=match a.tmps[t]? with|some (.bool b)=>some b|_=>none:=by
 rw[zk]at h;unfold yielded
 grind
theorem GR{ops:Array Oper}{run skip:St→Prop}(h:InvR O base okc ns k r outs st a w)(hg:zr (dsts ops.toList) o.guard st run skip) :
  ∃st',st'.nid=st.nid∧InvR O base okc ns k r outs st' a w∧((Region.wanted o (yielded ops a.tmps)=true∧run st')∨(Region.wanted o (yielded ops a.tmps)=false∧skip st')):=by
 unfold zr at hg;cases ho:o.guard with
 |none=>
  rw[ho]at hg;exact⟨st,rfl,h,.inl ⟨by simp[Region.wanted,ho],hg⟩⟩
 |some gw=>
  obtain⟨j,want⟩:=gw;rw[ho]at hg;cases ht:nth (dsts ops.toList) j with
  |none=>simp[ht]at hg
  |some t=>
   have hy:=wv ops a j t ht;simp only[ht]at hg;have hrep:=h.fr t;cases hl:look st.fr t with
   |val v=>
    rw[hl]at hrep hg;have hv:a.tmps.getD t undef=v:=by generalize a.tmps.getD t undef=z at hrep;cases hrep;rfl
    cases v with
    |bool b=>
     have hy':yielded ops a.tmps j=some b:=by
      rw[hy];simp only[xf5]at hv;cases hz:a.tmps[t]? with
      |none=>rw[hz]at hv;simp[undef]at hv
      |some z=>rw[hz]at hv;simp at hv;rw[hv]
     have hw:Region.wanted o (yielded ops a.tmps)=(b == want):=by
      simp only[Region.wanted,ho,hy']
      grind
     rw[hw];cases b<;>cases want
     ·exact⟨_,qx _ _ _,h.keep hl,.inl ⟨rfl,hg.2 rfl⟩⟩
     ·exact⟨_,qx _ _ _,h.keep hl,.inr ⟨rfl,hg.2 rfl⟩⟩
     ·exact⟨_,qx _ _ _,h.keep hl,.inr ⟨rfl,hg.1 rfl⟩⟩
     ·exact⟨_,qx _ _ _,h.keep hl,.inl ⟨rfl,hg.1 rfl⟩⟩
    |tuple vs=>
     refine⟨st,rfl,h,.inr ⟨?_,hg⟩⟩;have hy':yielded ops a.tmps j=none:=by
      rw[hy];simp only[xf5]at hv;cases hz:a.tmps[t]? with
      |none=>rfl
      |some z=>rw[hz]at hv;simp at hv;rw[hv]
     simp[Region.wanted,ho,hy']
    |_=>exact hg.elim
   |_=>rw[hl]at hg;exact hg.elim
theorem qcb{ro:Option Nat}{allops:Array Oper}{Q:Exit→Act→World→Prop}:∀(ops:List Oper)(i:Nat)(st:St)(K:St→Prop)(r:Nat→Option Nat)(a:Act)(w:World),InvR O base okc ns (st.nid+i) r outs st a w→ops.all (kX ns)=true→
  qL P O J (dsts allops.toList) ops i st K→(∀st' a' w',K st'→Inv O base okc ns (st'.nid+(i+ops.length)) outs st' a' w'→Q .normal a' w')→wpListIn (FR ro) 0 P allops Q ops a w
 |[],i,st,K,r,a,w,h,hd,hk,hK=>hK st a w hk ⟨r,h⟩
 |o :: rest,i,st,K,r,a,w,h,hd,hk,hK=>by
  simp only[List.all_cons,xe6]at hd;obtain⟨st',hnid,h',hcase⟩:=GR h hk;have hlen:i+(o :: rest).length=(i+1)+rest.length:=by simp;omega
  rw[hlen]at hK;unfold wpListIn;rcases hcase with⟨hw,hrun⟩|⟨hw,hskip⟩
  ·rw[if_pos hw]
   refine qca (h:=hnid▸h') hd.1 (by exact hrun) λst1 a1 w1 hk1 hn1 _ ⟨r1,h1⟩=>?_;exact qcb rest (i+1) st1 K r1 a1 w1 h1 hd.2 hk1 hK
  ·rw[if_neg (by rw[hw];simp)]
   have hd':∀t,o.dst=some t→t<ns:=λt ht=>by simpa[kX,ht]using hd.1
   have h1:InvR O base okc ns (st.nid+i) r outs (st'.put o.dst undefSV) (a.put o.dst undef) w:=h'.step (Step.refl h'.sat) h'.keys (xa5 _) hd' (.val _);exact⟨λ_ _=>trivial,qcb rest (i+1) _ K r _ w (by rw[qx,hnid];exact h1.more Ω) hd.2 hskip hK⟩
end
end Go.Sx
end
section
namespace Go.Sx
open Go.RowKit
variable{P:Program}{F:Nat→SV}{hp:List (Nat×Blk)}{op:Op}{args:List SV}
def gu(o:Oper):List Tmp:=o.op.operands.toList.filterMap fun|.tmp t=>some t|_=>none
def qdB(ds:List (Option Tmp))(o:Oper):List Tmp:=match o.guard with|some (g,_)=>(nth ds g).toList|none=>[]
def seen(ds:List (Option Tmp))(o:Oper):List Tmp:=gu o++(qdB ds o++o.dst.toList)
def kK:Op→Bool
 |.move _=>true
 |.assign _=>true
 |.pick _ _ _=>true
 |.alloc _=>true
 |.box _ _=>true
 |.load _ _=>true
 |.nilCheck _=>true
 |.binOp _ _ _ _ _=>true
 |.unOp _ _ _=>true
 |.convert _ _ _=>true
 |.makeFunc _ _ _=>true
 |.fieldAddr _ _ _=>true
 |.field _ _ _=>true
 |.indexAddr _ _ _=>true
 |.extract _ _=>true
 |.build _ _=>true
 |.buildSlice _ _ _=>true
 |.makeSlice _ _ _=>true
 |.slice _ _ _ _ _=>true
 |.lookup _ _ _ _=>true
 |.makeMap _ _=>true
 |.index _ _ _=>true
 |.call ⟨.value _,_,_⟩=>true
 |.call ⟨.builtin .len,_,_⟩=>true
 |.call ⟨.builtin .min,_,_⟩=>true
 |.call ⟨.builtin .max,_,_⟩=>true
 |_=>false
def Kf(ms:List Nat):List Edge→Nat
 |[]=>0
 |e :: es=>if Region.binds .any e=true then Kf ms es |||(2^e.on ||| ms.getD e.on 0)else Kf ms es
def zw(ms:List Nat):List Oper→List Nat
 |[]=>ms
 |o :: rest=>zw (ms++[Kf ms o.after.toList]) rest
def Ge(i:Nat):List Edge→Bool
 |[]=>true
 |e :: es=>(!Region.binds .any e || decide (e.on<i))&&Ge i es
def jd:Nat→List Oper→Bool
 |_,[]=>true
 |i,o :: rest=>Ge i o.after.toList&&jd (i+1) rest
def yL(ds:List (Option Tmp))(ms:List Nat)(ops:List Oper):Bool:=
 (List.range ops.length).all λj=>match ops[j]? with
  |none=>true
  |some oj=>(List.range j).all λi=>(ms.getD j 0).testBit i ||(match nth ds i with|some d=>!(seen ds oj).contains d|none=>true)&&(match nth ds j with|some d=>(match ops[i]? with|some oi=>!(seen ds oi).contains d|none=>true)|none=>true)
def ww:List Oper→Nat
 |[]=>0
 |o :: rest=>if kK o.op=true then ww rest+1 else 0
def j7:Op→Bool
 |.call ⟨.value _,_,_⟩=>true
 |_=>false
def vu:List Oper→Nat
 |[]=>0
 |o :: rest=>if (kK o.op&&!j7 o.op)=true then vu rest+1 else 0
def Wu(ms:List Nat)(m n:Nat):Bool:=(List.range n).all λj=>decide (j<m) || decide (ms.getD j 0=2^j - 1)
def zN(d:Bool)(ops:List Oper):Bool:=!d || Wu (zw [] ops) (vu ops) ops.length
def Wv(ops:List Oper):Bool:=
 let ms:=zw [] ops
 jd 0 ops&&yL (dsts ops) ms ops&&Wu ms (ww ops) ops.length
theorem gm:∀{ops:List Oper}{i:Nat},jd i ops=true→∀j o,ops[j]? = some o→∀e∈o.after,Region.binds .any e=true→e.on<i+j
 |[],i,h,j,o,ho=>by simp at ho
 |p :: ops,i,h,j,o,ho=>by
  simp only[jd,xe6]at h;cases j with
  |zero=>
   simp at ho;subst ho;intro e he hb;have key:∀(es:List Edge),Ge i es=true→e∈es→e.on<i:=by
    intro es
    induction es with
    |nil=>intro _ h;cases h
    |cons x es ih=>
     intro h1 h2;simp only[Ge,xe6,xe8,Bool.not_eq_true',decide_eq_true_eq]at h1;rcases List.mem_cons.1 h2 with e'|e'
     ·simp_all
     ·exact ih h1.2 e'
   grind
  |succ j=>
   intro e he hb;have:=gm h.2 j o (by simpa using ho) e he hb;omega
def kL(ops:List Oper)(S:Nat→Bool):Prop:=∀j o,ops[j]? = some o→S j=true→∀e∈o.after,Region.binds .any e=true→S e.on=true
theorem yb{ms:List Nat}{S:Nat→Bool}{i:Nat}(hms:∀j,(ms.getD j 0).testBit i=true→S j=true→S i=true):∀{es:List Edge},(∀e∈es,Region.binds .any e=true→S e.on=true)→(Kf ms es).testBit i=true→S i=true
 |[],_,h=>by simp[Kf]at h
 |e :: es,hS,h=>by
  simp only[Kf]at h;split at h
  ·rename_i hb
   rw[Nat.testBit_or,Nat.testBit_or,xe8,xe8]at h;rcases h with h|h|h
   ·exact yb hms (λe he=>hS e (List.mem_cons_of_mem _ he)) h
   ·grind
   ·grind
  ·exact yb hms (λe he=>hS e (List.mem_cons_of_mem _ he)) h
theorem GS{S:Nat→Bool}{i:Nat}:∀(rest pre:List Oper)(ms:List Nat),ms.length=pre.length→kL (pre++rest) S→(∀j,(ms.getD j 0).testBit i=true→S j=true→S i=true)→
  ∀j,((zw ms rest).getD j 0).testBit i=true→S j=true→S i=true
 |[],pre,ms,hl,hc,h=>h
 |o :: rest,pre,ms,hl,hc,h=>by
  simp only[zw];refine GS rest (pre++[o]) _ (by simp[hl]) (by simpa using hc) λj hj hS=>?_;by_cases hlt:j<ms.length
  ·grind
  ·by_cases he:j=ms.length
   ·subst he
    rw[xc6,xd0 (xa5 _)]at hj;simp at hj;refine yb h (λe he hb=>?_) hj;exact hc ms.length o (by rw[hl];simp) hS e ΩU hb
   ·grind
theorem qt{ops:List Oper}{S:Nat→Bool}(hc:kL ops S){i j:Nat}(h:((zw [] ops).getD j 0).testBit i=true)(hS:S j=true):S i=true:=
 GS ops [] [] rfl (by simpa using hc) Ωj j h hS
def Kg(F:Nat→SV)(d:Option Tmp)(v:SV):Nat→SV:=λt=>if d=some t then v else F t
def kZ(ds:List (Option Tmp))(g:Option (Nat×Bool))(F:Nat→SV):Option Bool:=
 match g with
 |none=>some true
 |some (j,want)=>match nth ds j with
  |none=>none
  |some t=>match F t with
   |.val (.bool b)=>some (b == want)
   |.val (.tuple _)=>some false
   |_=>none
inductive yc(P:Program)(F:Nat→SV)(hp:List (Nat×Blk))(id:Nat)(o:Oper):SV→Option Blk→Prop
 |pure (obl:Prop) (sv:SV) (h:stepR P F hp o.op=.pure obl sv) (ho:obl):yc P F hp id o sv none
 |ex (obl:SV→Prop) (sv:SV) (h:stepR P F hp o.op=.ex obl) (ho:obl sv):yc P F hp id o sv none
 |new (obl:Prop) (b:Blk) (mk:Nat→SV) (h:stepR P F hp o.op=.new obl b mk) (ho:obl):yc P F hp id o (mk id) (some b)
 |call (f:FuncId) (args:List SV) (res:SV) (h:stepR P F hp o.op=.call f args) (hc:CanC P hp f args res):yc P F hp id o res none
 |callN (f:FuncId) (args pats:List SV) (b:Blk) (res:SV) (h:stepR P F hp o.op=.call f args) (hc:zX P f pats b res) (hs:NewOk hp pats args b res):yc P F hp id o (setId id res) (some b)
def kf(nb:Option Blk)(id:Nat)(hp:List (Nat×Blk)):List (Nat×Blk):=match nb with|some b=>(id,b) :: hp|none=>hp
inductive YX(P:Program)(ds:List (Option Tmp))(nid:Nat):Nat→List Oper→(Nat→SV)→List (Nat×Blk)→List (Bool×SV×Option Blk)→(Nat→SV)→List (Nat×Blk)→Prop
 |nil (i:Nat) (F:Nat→SV) (hp:List (Nat×Blk)):YX P ds nid i [] F hp [] F hp
 |skip (i:Nat) (o:Oper) (rest:List Oper) (F F':Nat→SV) (hp hp':List (Nat×Blk)) (rs:List (Bool×SV×Option Blk)) (hg:kZ ds o.guard F=some false)
   (h:YX P ds nid (i+1) rest (Kg F o.dst undefSV) hp rs F' hp'):YX P ds nid i (o :: rest) F hp ((false,undefSV,none) :: rs) F' hp'
 |run (i:Nat) (o:Oper) (rest:List Oper) (F F':Nat→SV) (hp hp':List (Nat×Blk)) (rs:List (Bool×SV×Option Blk)) (sv:SV) (nb:Option Blk) (hg:kZ ds o.guard F=some true) (hr:yc P F hp (nid+i) o sv nb)
   (h:YX P ds nid (i+1) rest (Kg F o.dst sv) (kf nb (nid+i) hp) rs F' hp'):YX P ds nid i (o :: rest) F hp ((true,sv,nb) :: rs) F' hp'
theorem jt(fr:List (Nat×SV))(hp:List (Nat×Blk))(nid:Nat)(d:Option Tmp)(v:SV):look (({ fr:=fr,hp:=hp,nid:=nid }:St).put d v).fr=Kg (look fr) d v:=by
 funext t;cases d with
 |none=>simp[St.put,Kg]
 |some d=>
  simp only[St.put,Kg,zq,Option.some.injEq];by_cases e:t=d
  ·subst e;simp
  ·grind
def qhr:Res→Bool
 |.upd _ _ _=>false
 |.updv _ _ _ _=>false
 |.grow _ _ _ _=>false
 |_=>true
theorem vv{x:Res}(h:vq x=true):qhr x=true:=by cases x<;>first|rfl|cases h
theorem QD{x:Res}(h:(∃obl b mk,x=.new obl b mk)∨x=.bad):qhr x=true:=by rcases h with⟨_,_,_,rfl⟩|rfl<;>rfl
theorem vg(h:kK op=true):qhr (stepR P F hp op)=true:=by
 cases op<;>first|(simp[kK]at h;done)|(simp only[stepR])
 case move=>rfl
 case assign=>rfl
 case pick=>unfold rPick;split<;>rfl
 case alloc=>unfold rAlloc;split<;>rfl
 case box=>unfold rBox;(repeat' split)<;>rfl
 case load=>unfold rLoad;(repeat' split)<;>rfl
 case nilCheck=>unfold rNil;split<;>rfl
 case binOp=>unfold rBin;(repeat' split)<;>first|rfl|(rcases wi P _ _ _ _ _ with⟨_,_,e⟩|e<;>rw[e]<;>rfl)|(unfold rInt;split<;>rfl)|(unfold rEq;(repeat' split)<;>rfl)
 case lookup=>exact vv (gC _ _ _ _ _)
 case makeMap=>exact QD (jy _ _)
 case index=>exact vv (jT _ _ _)
 case unOp=>unfold rUn;split<;>rfl
 case convert=>unfold rConv;split<;>rfl
 case makeFunc=>rfl
 case fieldAddr=>unfold rFieldAddr;(repeat' split)<;>rfl
 case field=>unfold rField;(repeat' split)<;>rfl
 case indexAddr=>unfold rIndexAddr;(repeat' split)<;>rfl
 case extract=>unfold rExtract;split<;>rfl
 case build=>exact vv (ja _ _)
 case buildSlice=>exact QD (gj _ _ _)
 case makeSlice=>exact QD (gJ _ _ _)
 case slice=>exact vv (jR _ _ _ _ _)
 case call c=>
  obtain⟨callee,args,ts⟩:=c;cases callee with
  |value f=>simp only[rCall];split<;>rfl
  |invoke _ _=>simp[kK]at h
  |builtin b=>
   cases b<;>first|(simp[kK]at h;done)|skip
   case len=>simp only[rCall];split<;>first|rfl|(unfold rLen;(repeat' split)<;>rfl)
   case max=>simp only[rCall];unfold rMin;(repeat' split)<;>rfl
   case min=>simp only[rCall];unfold rMin;(repeat' split)<;>rfl
theorem vF{ds:List (Option Tmp)}{g:Option (Nat×Bool)}{st:St}{run skip:St→Prop}(h:zr ds g st run skip) :
  ∃st',st'.nid=st.nid∧st'.hp=st.hp∧look st'.fr=look st.fr∧((kZ ds g (look st.fr)=some true∧run st')∨(kZ ds g (look st.fr)=some false∧skip st')):=by
 unfold zr at h;cases g with
 |none=>exact⟨st,rfl,rfl,rfl,.inl ⟨rfl,h⟩⟩
 |some gw=>
  obtain⟨j,want⟩:=gw;cases ht:nth ds j with
  |none=>simp[ht]at h
  |some t=>
   simp only[ht]at h;cases hl:look st.fr t with
   |val v=>
    rw[hl]at h;have hkeep:∀b,v=.bool b→look (st.put (some t) (.val (.bool b))).fr=look st.fr:=λb hb=>by
     funext x;simp only[St.put,zq];split
     ·simp_all
     ·rfl
    cases v with
    |bool b=>
     cases b<;>cases want
     ·exact⟨_,qx _ _ _,zu _ _ _,hkeep _ rfl,.inl ⟨by simp[kZ,ht,hl],h.2 rfl⟩⟩
     ·exact⟨_,qx _ _ _,zu _ _ _,hkeep _ rfl,.inr ⟨by simp[kZ,ht,hl],h.2 rfl⟩⟩
     ·exact⟨_,qx _ _ _,zu _ _ _,hkeep _ rfl,.inr ⟨by simp[kZ,ht,hl],h.1 rfl⟩⟩
     ·exact⟨_,qx _ _ _,zu _ _ _,hkeep _ rfl,.inl ⟨by simp[kZ,ht,hl],h.1 rfl⟩⟩
    |tuple vs=>exact⟨st,rfl,rfl,rfl,.inr ⟨by simp[kZ,ht,hl],h⟩⟩
    |_=>exact h.elim
   |_=>rw[hl]at h;exact h.elim
theorem Vc{f:FuncId}(h:stepR P F hp op=.call f args):j7 op=true:=by
 obtain⟨x,xs,ts,first,caps,rfl,_⟩:=zT h;rfl
theorem GT{y:Nat}(h:stepR P F hp op=.yield y args):j7 op=true:=by
 obtain⟨x,xs,ts,rfl,_⟩:=KN h;rfl
theorem Ww(h:stepR P F hp op=.raw):kK op=false:=by
 rcases Ke (P:=P) F hp op with h'|⟨x,xs,ts,rfl⟩|⟨t,x,rfl⟩|⟨x,s,rfl⟩|⟨x,rfl⟩
 ·rw[h]at h';cases h'
 ·simp only[stepR,rCall]at h;split at h<;>cases h
 ·rfl
 ·rfl
 ·rfl
theorem resolve{P:Program}{O:Ctx}{J:Prop}{ds:List (Option Tmp)}{K:St→Prop}{tail:List Oper}:∀(pre:List Oper)(i:Nat)(st:St),(∀o∈pre,kK o.op=true)→(J→∀o∈pre,j7 o.op=false)→qL P O J ds (pre++tail) i st K→
  ∃rs st',YX P ds st.nid i pre (look st.fr) st.hp rs (look st'.fr) st'.hp∧st'.nid=st.nid∧qL P O J ds tail (i+pre.length) st' K
 |[],i,st,_,_,h=>⟨[],st,.nil _ _ _,rfl,h⟩
 |o :: pre,i,st,hcalm,hJ,h=>by
  obtain⟨st1,hn,hh,hl,hcase⟩:=vF h;have hlen:i+(o :: pre).length=(i+1)+pre.length:=by simp;omega
  rw[hlen];rcases hcase with⟨hg,hrun⟩|⟨hg,hskip⟩
  ·have go:∀(st2:St)(sv:SV)(nb:Option Blk),yc P (look st.fr) st.hp (st.nid+i) o sv nb→st2.nid=st.nid→st2.hp=kf nb (st.nid+i) st.hp→look st2.fr=Kg (look st.fr) o.dst sv→qL P O J ds (pre++tail) (i+1) st2 K→
     ∃rs st',YX P ds st.nid i (o :: pre) (look st.fr) st.hp rs (look st'.fr) st'.hp∧st'.nid=st.nid∧qL P O J ds tail ((i+1)+pre.length) st' K:=by
    intro st2 sv nb hr h1 h2 h3 h4;obtain⟨rs,st',ht,hn',hk⟩:=resolve pre (i+1) st2 (λo ho=>hcalm o (List.mem_cons_of_mem _ ho)) (λj o ho=>hJ j o (List.mem_cons_of_mem _ ho)) h4;rw[h1,h2,h3]at ht;exact⟨_,st',.run _ _ _ _ _ _ _ _ _ _ hg hr ht,hn'.trans h1,hk⟩
   have hst1:st1=⟨st1.fr,st1.hp,st1.nid⟩:=rfl;generalize hres:stepR P (look st1.fr) st1.hp o.op=res at hrun;rw[hl,hh]at hres;cases res with
   |bad=>exact hrun.elim
   |pure obl sv=>exact go _ sv none (.pure obl sv hres hrun.1) ΩL ΩJ ΩG hrun.2
   |ex obl=>
    obtain⟨sv,ho,hk⟩:=hrun;exact go _ sv none (.ex obl sv hres ho) ΩL ΩJ ΩG hk
   |new obl b mk=>exact go _ (mk (st.nid+i)) (some b) (.new obl b mk hres hrun.1) Ωy ΩW ΩP hrun.2
   |upd obl j b=>have:=vg (P:=P) (F:=look st.fr) (hp:=st.hp) (hcalm o xd5);rw[hres]at this;cases this
   |updv obl j b sv=>have:=vg (P:=P) (F:=look st.fr) (hp:=st.hp) (hcalm o xd5);rw[hres]at this;cases this
   |grow obl j b sv=>have:=vg (P:=P) (F:=look st.fr) (hp:=st.hp) (hcalm o xd5);rw[hres]at this;cases this
   |call f args=>
    rcases hrun with⟨res,hc,hk⟩|⟨pats,b,res,hc,hs,hk⟩|⟨hj,_⟩
    ·rw[hh]at hc
     exact go _ res none (.call f args res hres hc) ΩL ΩJ ΩG hk
    ·rw[hh]at hs
     exact go _ (setId (st.nid+i) res) (some b) (.callN f args pats b res hres hc hs) Ωy ΩW ΩP hk
    ·have:=hJ hj o xd5
     rw[Vc hres]at this;cases this
   |yield y args=>
    have:=hJ hrun.1 o xd5;rw[GT hres]at this;cases this
   |raw=>
    have:=hcalm o xd5;rw[Ww hres]at this;cases this
  ·obtain⟨rs,st',ht,hn',hk⟩:=resolve pre (i+1) _ (λo ho=>hcalm o (List.mem_cons_of_mem _ ho)) (λj o ho=>hJ j o (List.mem_cons_of_mem _ ho)) hskip
   have hst1:st1=⟨st1.fr,st1.hp,st1.nid⟩:=rfl;have e1:look (st1.put o.dst undefSV).fr=Kg (look st.fr) o.dst undefSV:=by rw[hst1,jt,hl]
   rw[qx,zu,hn,hh,e1]at ht;exact⟨_,st',.skip _ _ _ _ _ _ _ _ hg ht,by rw[hn',qx,hn],hk⟩
end Go.Sx
end
section
namespace Go.Sx
open Go.RowKit
variable{args:List SV}
section
variable{hp hp':List (Nat×Blk)}
mutual
theorem k9(h:∀id x,blk hp id=some x→blk hp' id=some x):∀(p s:SV),Sub hp p s→Sub hp' p s
 |.top,s,_=>by simp[Sub]
 |.val v,s,hs=>by simpa[Sub]using hs
 |.agg l,s,hs=>by
  cases s<;>simp only[Sub]at hs ⊢
  exact subL_mono h l _ hs
 |.tup l,s,hs=>by
  cases s<;>simp only[Sub]at hs ⊢
  exact subL_mono h l _ hs
 |.fn f a b,s,hs=>by
  cases s<;>simp only[Sub]at hs ⊢
  exact⟨hs.1,subL_mono h a _ hs.2.1,subL_mono h b _ hs.2.2⟩
 |.ref o n row,s,hs=>by
  cases s<;>simp only[Sub]at hs ⊢
  case ref=>exact⟨hs.1,hs.2.1,λj hj=>k9 h (row j) _ (hs.2.2 j hj)⟩
  case ptr id off=>
   split at hs
   ·rename_i t l hb
    rw[h _ _ hb];exact λj hj=>⟨k9 h (row j) _ (hs j hj).1,(hs j hj).2⟩
   ·exact hs.elim
  case elt id k i j0=>
   split at hs
   ·rename_i t k' n' row' hb
    rw[h _ _ hb];exact⟨hs.1,hs.2.1,hs.2.2.1,λj hj=>k9 h (row j) _ (hs.2.2.2 j hj)⟩
   ·exact hs.elim
 |.arr o full n k row,s,hs=>by
  cases s<;>simp only[Sub]at hs ⊢
  case arr=>exact⟨hs.1,hs.2.1,hs.2.2.1,hs.2.2.2.1,λi j hi hj=>k9 h (row i j) _ (hs.2.2.2.2 i j hi hj)⟩
  case vec id n' k'=>
   obtain⟨h1,h2,h3,hs⟩:=hs;refine⟨h1,h2,h3,?_⟩;split at hs
   ·rename_i t k'' m row' hb
    rw[h _ _ hb];exact⟨hs.1,hs.2.1,λi j hi hj=>k9 h (row i j) _ (hs.2.2 i j hi hj)⟩
   ·exact hs.elim
  case asl id off n' k'=>
   obtain⟨h1,h2,h3,hs⟩:=hs;refine⟨h1,h2,h3,?_⟩;split at hs
   ·rename_i t l hb
    rw[h _ _ hb];exact⟨hs.1,λi j hi hj=>k9 h (row i j) _ (hs.2 i j hi hj)⟩
   ·exact hs.elim
  case cut id n' k'=>
   obtain⟨h2,h3,hs⟩:=hs;refine⟨h2,h3,?_⟩;split at hs
   ·rename_i t k'' m row' hb
    rw[h _ _ hb];exact⟨hs.1,hs.2.1,λi j hi hj=>k9 h (row i j) _ (hs.2.2 i j hi hj)⟩
   ·exact hs.elim
  case val u=>exact hs
 |.cmp o fit dom get,s,hs=>by
  cases s<;>simp only[Sub]at hs ⊢
  case cmp=>exact⟨hs.1,hs.2.1,hs.2.2.1,λkey hk=>k9 h (get key) _ (hs.2.2.2 key hk)⟩
  case mp id=>
   split at hs
   ·rename_i fit' dom' get' hb
    rw[h _ _ hb];exact⟨hs.1,hs.2.1,λkey hk=>k9 h (get key) _ (hs.2.2 key hk)⟩
   ·rename_i fit' dom' get' st' c' hb
    rw[h _ _ hb];exact⟨hs.1,hs.2.1,λkey hk=>k9 h (get key) _ (hs.2.2 key hk)⟩
   ·exact hs.elim
 |.cut _ _ _,s,hs=>by simp[Sub]at hs
 |.ptr _ _,s,hs=>by simp[Sub]at hs
 |.elt _ _ _ _,s,hs=>by simp[Sub]at hs
 |.vec _ _ _,s,hs=>by simp[Sub]at hs
 |.mp _,s,hs=>by simp[Sub]at hs
 |.asl _ _ _ _,s,hs=>by simp[Sub]at hs
 |.que _ _ _ _,s,hs=>by simp[Sub]at hs
 |.yld _,s,hs=>by simp[Sub]at hs
theorem subL_mono(h:∀id x,blk hp id=some x→blk hp' id=some x):∀(l m:List SV),SubL hp l m→SubL hp' l m
 |[],m,hs=>by simpa[SubL]using hs
 |a :: l,m,hs=>by
  cases m with
  |nil=>simp[SubL]at hs
  |cons b m=>
   simp only[SubL]at hs ⊢;exact⟨k9 h a b hs.1,subL_mono h l m hs.2⟩
end
theorem CanC.mono{P:Program}(h:∀id x,blk hp id=some x→blk hp' id=some x){f:FuncId}{res:SV}(hc:CanC P hp f args res):CanC P hp' f args res:=
 hc.imp (λ⟨pats,h1,h2⟩=>⟨pats,h1,h2.imp (λk=>⟨subL_mono h _ _ k.1,k.2⟩) id⟩) id
theorem NewOk.mono(h:∀id x,blk hp id=some x→blk hp' id=some x){pats:List SV}{b:Blk}{res:SV}(hn:NewOk hp pats args b res):NewOk hp' pats args b res:=hn.imp (λhh=>⟨subL_mono h _ _ hh.1,hh.2⟩) (λhh=>hh)
theorem gN{P:Program}{F:Nat→SV}{op:Op}(hc:kK op=true)(h:∀id x,blk hp id=some x→blk hp' id=some x)(hne:stepR P F hp op≠.bad):stepR P F hp' op=stepR P F hp op:=by
 cases op<;>first|rfl|(simp[kK]at hc;done)|skip
 case call c=>
  obtain⟨callee,args,ts⟩:=c;cases callee with
  |value f=>rfl
  |invoke _ _=>simp[kK]at hc
  |builtin b=>cases b<;>first|rfl|(simp[kK]at hc;done)
 case lookup t x k ok=>
  simp only[stepR]at hne ⊢;have hmo:mapOf hp (env F x)≠none→mapOf hp' (env F x)=mapOf hp (env F x):=λhn=>by
   unfold mapOf at hn ⊢;split
   ·rfl
   ·grind
   ·rfl
  unfold rLookup at hne ⊢;split
  ·grind
  ·rfl
 case load t x=>
  simp only[stepR]at hne ⊢;unfold rLoad at hne ⊢;split
  ·grind
  ·grind
  ·rfl
end
def FS(dst:Nat→Option Tmp)(res:Nat→SV)(S:Nat→Bool)(F:Nat→SV):Nat→Nat→SV
 |0=>F
 |i+1=>λt=>if S i=true∧dst i=some t then res i else FS dst res S F i t
theorem GU(dst:Nat→Option Tmp)(res:Nat→SV)(S:Nat→Bool)(F:Nat→SV)(j:Nat) :
  FS (λi=>dst (i+1)) (λi=>res (i+1)) (λi=>S (i+1)) (λt=>if S 0=true∧dst 0=some t then res 0 else F t) j=FS dst res S F (j+1):=by
 induction j with
 |zero=>rfl
 |succ j ih=>
  funext t;simp only[FS]at ih ⊢;by_cases h:S (j+1)=true∧dst (j+1)=some t
  ·simp_all
  ·simp_all
theorem vw{dst:Nat→Option Tmp}{res:Nat→SV}{S:Nat→Bool}{F:Nat→SV}{i t:Nat}:∀{m:Nat},i≤m→(∀j,j<m→dst j=some t→(S j=true↔j<i))→FS dst res S F m t=FS dst res (λ_=>true) F i t
 |0,hi,h=>by
  have e:i=0:=by omega
  subst e;rfl
 |m+1,hi,h=>by
  by_cases he:i=m+1
  ·subst he
   have key:∀j,j≤m+1→FS dst res S F j t=FS dst res (λ_=>true) F j t:=by
    intro j
    induction j with
    |zero=>intro _;rfl
    |succ j ih=>
     intro hj;simp only[FS,true_and];by_cases hd:dst j=some t
     ·grind
     ·grind
   simp_all
  ·simp only[FS]
   rw[if_neg]
   ·exact vw Ω λj hj hd=>h j Ω hd
   ·grind
theorem Kh{dst:Nat→Option Tmp}{res:Nat→SV}{S S':Nat→Bool}{F:Nat→SV}{i:Nat}{t:Nat}(hS:∀j,S' j=(S j || decide (j=i))):∀{m:Nat},i<m→(dst i=some t→∀j,j<m→i<j→dst j=some t→S j=false)→
  FS dst res S' F m t=if dst i=some t then res i else FS dst res S F m t
 |0,hi,h=>by omega
 |m+1,hi,h=>by
  have low:∀j,j≤i→FS dst res S' F j t=FS dst res S F j t:=by
   intro j
   induction j with
   |zero=>intro _;rfl
   |succ j ih=>
    intro hj;simp only[FS]
    grind
  by_cases he:i=m
  ·subst he
   simp only[FS];have:S' i=true:=by rw[hS];simp
   rw[low i (xa5 _)];by_cases hd:dst i=some t
   ·simp_all
   ·simp_all
  ·simp only[FS]
   have e1:S' m=S m:=by rw[hS];simp;intro e;omega
   rw[e1,Kh hS Ω λhd j hj hij hdj=>h hd j Ω hij hdj];by_cases hm:S m=true∧dst m=some t
   ·grind
   ·grind
def kQ(rs:List (Bool×SV×Option Blk))(i:Nat):SV:=match rs[i]? with|some (_,sv,_)=>sv|none=>.top
theorem Ki{P:Program}{ds:List (Option Tmp)}{nid:Nat}:∀{ops:List Oper}{i0:Nat}{F F':Nat→SV}{hp hp':List (Nat×Blk)}{rs:List (Bool×SV×Option Blk)},YX P ds nid i0 ops F hp rs F' hp'→(∀id x,blk hp id=some x→id<nid+i0)→
  (∀id x,blk hp id=some x→blk hp' id=some x)∧(∀id x,blk hp' id=some x→blk hp id=some x∨∃j wt sv,rs[j]? = some (wt,sv,some x)∧id=nid+(i0+j)∧j<ops.length)∧
  F'=FS (nth (dsts ops)) (kQ rs) (λ_=>true) F ops.length∧
  ∀j o,ops[j]? = some o→∃wt sv nb hpj,rs[j]? = some (wt,sv,nb)∧(∀id x,blk hpj id=some x→blk hp' id=some x)∧
   ((wt=false∧kZ ds o.guard (FS (nth (dsts ops)) (kQ rs) (λ_=>true) F j)=some false∧sv=undefSV∧nb=none)∨
    (wt=true∧kZ ds o.guard (FS (nth (dsts ops)) (kQ rs) (λ_=>true) F j)=some true∧yc P (FS (nth (dsts ops)) (kQ rs) (λ_=>true) F j) hpj (nid+(i0+j)) o sv nb∧∀b,nb=some b→blk hp' (nid+(i0+j))=some b))
 |[],i0,F,F',hp,hp',rs,h,hk=>by
  cases h with
  |nil=>exact⟨λ_ _ h=>h,λ_ _ h=>.inl h,rfl,λj o ho=>by simp at ho⟩
 |o :: ops,i0,F,F',hp,hp',rs,h,hk=>by
  have shift:∀(rs':List (Bool×SV×Option Blk))(x:Bool×SV×Option Blk)(j:Nat),FS (nth (dsts ops)) (kQ rs') (λ_=>true) (Kg F o.dst x.2.1) j=FS (nth (dsts (o :: ops))) (kQ (x :: rs')) (λ_=>true) F (j+1):=λrs' x j=>by
   rw[←GU]
   congr 1
   funext t;simp[Kg,nth,dsts,kQ]
  cases h with
  |skip _ _ _ _ _ _ _ rs' hg h=>
   obtain⟨h1,h2,h3,h4⟩:=Ki h (λid x hx=>by have:=hk id x hx;omega);refine⟨h1,λid x hx=>?_,?_,λj o' ho=>?_⟩
   ·rcases h2 id x hx with h|⟨j,wt,sv,hj,e,hjl⟩
    ·exact .inl h
    ·exact .inr ⟨j+1,wt,sv,(by simpa using hj),Ω,Ωu⟩
   ·grind
   ·cases j with
    |zero=>
     simp at ho;subst ho;exact⟨false,undefSV,none,[],rfl,λid x hx=>by simp[blk]at hx,.inl ⟨rfl,hg,rfl,rfl⟩⟩
    |succ j=>
     grind
  |run _ _ _ _ _ _ _ rs' sv nb hg hr h=>
   have hk':∀id x,blk (kf nb (nid+i0) hp) id=some x→id<nid+(i0+1):=λid x hx=>by
    cases nb with
    |none=>have:=hk id x hx;omega
    |some b=>
     simp only[kf,blk]at hx;split at hx
     ·omega
     ·grind
   obtain⟨h1,h2,h3,h4⟩:=Ki h hk';have hsub0:∀id x,blk hp id=some x→blk (kf nb (nid+i0) hp) id=some x:=λid x hx=>by
    cases nb with
    |none=>exact hx
    |some b=>
     simp only[kf,blk]
     grind
   refine⟨λid x hx=>h1 id x (hsub0 id x hx),λid x hx=>?_,?_,λj o' ho=>?_⟩
   ·rcases h2 id x hx with h|⟨j,wt,sv',hj,e,hjl⟩
    ·cases nb with
     |none=>exact .inl h
     |some b=>
      simp only[kf,blk]at h;split at h
      ·rename_i e
       cases h;exact .inr ⟨0,true,sv,rfl,Ω,Ωj⟩
      ·exact .inl h
    ·exact .inr ⟨j+1,wt,sv',(by simpa using hj),Ω,Ωu⟩
   ·grind
   ·cases j with
    |zero=>
     simp at ho;subst ho;refine⟨true,sv,nb,hp,rfl,λid x hx=>h1 id x (hsub0 id x hx),.inr ⟨rfl,hg,hr,λb hb=>?_⟩⟩;subst hb;exact h1 _ _ (by simp[kf,blk])
    |succ j=>
     grind
end Go.Sx
end
section
namespace Go.Sx
open Go.RowKit
variable{i:Nat}{r r':Nat→Option Nat}{hp:List (Nat×Blk)}{a:Act}{w w':World}
theorem qX{ds:List (Option Tmp)}{ms:List Nat}{ops:List Oper}(h:yL ds ms ops=true){j:Nat}{oi oj:Oper}(hi:ops[i]? = some oi)(hj:ops[j]? = some oj)(hij:i<j) :
  (ms.getD j 0).testBit i=true∨((∀d,nth ds i=some d→d∉seen ds oj)∧(∀d,nth ds j=some d→d∉seen ds oi)):=by
 have hjl:j<ops.length:=(List.getElem?_eq_some_iff.1 hj).1;simp only[yL,List.all_eq_true,List.mem_range]at h;have h1:=h j hjl;rw[hj]at h1;simp only[List.all_eq_true,List.mem_range]at h1;have h2:=h1 i hij;rw[hi]at h2;simp only[xe8,xe6]at h2;rcases h2 with h2|⟨h2,h3⟩
 ·exact .inl h2
 ·grind
theorem GV:∀(l:List Oper),ww l≤l.length
 |[]=>xa5 _
 |o :: l=>by
  simp only[ww,xe4];split
  ·have:=GV l;omega
  ·omega
theorem VG:∀(l:List Oper),∀o∈l.take (ww l),kK o.op=true
 |[],o,h=>by simp at h
 |p :: l,o,h=>by
  simp only[ww]at h;split at h
  ·rename_i hp
   simp only[List.take_succ_cons,List.mem_cons]at h;rcases h with e|e
   ·exact e▸hp
   ·exact VG l o e
  ·simp at h
theorem GW:∀(l:List Oper),vu l≤l.length
 |[]=>xa5 _
 |o :: l=>by
  simp only[vu];split
  ·have:=GW l;simp;omega
  ·simp
theorem wx:∀(l:List Oper),∀o∈l.take (vu l),kK o.op=true∧j7 o.op=false
 |[],o,h=>by simp[vu]at h
 |x :: l,o,h=>by
  simp only[vu]at h;split at h
  ·rename_i hc
   simp only[xe6,Bool.not_eq_true']at hc;simp only[List.take_succ_cons,List.mem_cons]at h;rcases h with rfl|h
   ·exact hc
   ·exact wx l o h
  ·simp at h
theorem qfN(l:List Oper)(m j:Nat)(h:j<m):nth (dsts (l.take m)) j=nth (dsts l) j:=by
 rw[zk,zk,List.getElem?_take_of_lt h]
theorem GX{dst dst':Nat→Option Tmp}{res:Nat→SV}{S:Nat→Bool}{F:Nat→SV}:∀{m:Nat},(∀j,j<m→dst j=dst' j)→FS dst res S F m=FS dst' res S F m
 |0,_=>rfl
 |m+1,h=>by
  funext t;simp only[FS];rw[h m Ω,GX λj hj=>h j Ω]
section
variable{P:Program}{O:Ctx}{outs:jn}{base:World}{okc:Nat→Prop}{ns:Nat}
def NS(nid m:Nat)(S:Nat→Bool):Nat→Prop:=λid=>id<nid∨∃j,j<m∧S j=true∧id=nid+j
structure Ext(O:Ctx)(base:World)(okc:Nat→Prop)(r:Nat→Option Nat)(N:Nat→Prop)(hp:List (Nat×Blk))(outs:jn)(a:Act)(w:World):Prop where
 out:OutOk r O.lo (Gd base okc r N hp w) w O.fs outs.as
 rfix:∀id,id<O.lo→r id=outs.r0 id
 defers:∃Ds:List Nat,GP a outs.as=Ds.map QC∧Ds.Nodup∧∀D∈Ds,Gd base okc r N hp w true D∧w.heap[D]? = some (.deferred (some []))
theorem Ext.step{O:Ctx}{base:World}{okc:Nat→Prop}{N N':Nat→Prop}{hp':List (Nat×Blk)}{outs:jn}(h:Ext O base okc r N hp outs a w)(hs:Step base okc r N hp w r' N' hp' w')(hlo:∀i,i<O.lo→N i)(d:Option Tmp)(v:Value) :
  Ext O base okc r' N' hp' outs (a.put d v) w':=by
 refine⟨h.out.mono (xa5 _) λn hn sv v hv=>hv.mono (λid hid=>hs.rr id (hlo id (xa9 hid hn))) (λ_ h=>h) hs.gg hs.sh,λid hid=>(hs.rr id (hlo id hid)).trans (h.rfix id hid),?_⟩;obtain⟨Ds,h1,h2,h3⟩:=h.defers;refine⟨Ds,by unfold GP;rw[GQ];exact h1,h2,λD hD=>?_⟩;obtain⟨h4,h5⟩:=h3 D hD;obtain⟨h6,h7⟩:=hs.gg _ _ h4
 simp_all
theorem Ext.step0{O:Ctx}{base:World}{okc:Nat→Prop}{N N':Nat→Prop}{hp':List (Nat×Blk)}{outs:jn}(h:Ext O base okc r N hp outs a w)(hs:Step base okc r N hp w r' N' hp' w')(hlo:∀i,i<O.lo→N i) :
  Ext O base okc r' N' hp' outs a w':=h.step hs hlo none undef
def Mid(O:Ctx)(outs:jn)(base:World)(okc:Nat→Prop)(ns nid m:Nat)(hp:List (Nat×Blk))(dst:Nat→Option Tmp)(res:Nat→SV)(F:Nat→SV)(S:Nat→Bool)(a:Act)(w:World):Prop:=
 ∃r,Sat base okc r (NS nid m S) hp w∧(∀t,Rep r (NS nid m S) (Gd base okc r (NS nid m S) hp w) w (FS dst res S F m t) (a.tmps.getD t undef))∧a.tmps.size=ns∧Ext O base okc r (NS nid m S) hp outs a w
theorem gO{nid m:Nat}{S S':Nat→Bool}(hS:∀j,S' j=(S j || decide (j=i)))(hi:i<m):qO (NS nid m S) (nid+i)=NS nid m S':=by
 funext id;simp only[qO,NS,eq_iff_iff];constructor
 ·rintro((h|⟨j,h1,h2,h3⟩)|h)
  ·exact .inl h
  ·simp_all
  ·simp_all
 ·grind
theorem qlM{nid m:Nat}{dst:Nat→Option Tmp}{res F:Nat→SV}{S S':Nat→Bool}(hS:∀j,S' j=(S j || decide (j=i)))(hi:i<m)
  (hlater:∀t,dst i=some t→∀j,j<m→i<j→dst j=some t→S j=false)
  (hF:∀t,Rep r (NS nid m S) (Gd base okc r (NS nid m S) hp w) w (FS dst res S F m t) (a.tmps.getD t undef)) (hsize:a.tmps.size=ns) (hdef:Ext O base okc r (NS nid m S) hp outs a w) (hlo:O.lo≤nid) (hd:∀t,dst i=some t→t<ns)
  (hs:Step base okc r (NS nid m S) hp w r' (NS nid m S') hp w') {v:Value} (hv:Rep r' (NS nid m S') (Gd base okc r' (NS nid m S') hp w') w' (res i) v):Mid O outs base okc ns nid m hp dst res F S' (a.put (dst i) v) w':=by
 refine⟨r',hs.sat,λt=>?_,by cases dst i<;>simp[Act.put,hsize],hdef.step hs (λi hi=>.inl (xa9 hi hlo)) _ _⟩;rw[Kh hS hi (hlater t),Zf];by_cases e:dst i=some t
 ·simp_all
 ·rw[if_neg e,if_neg (λh=>e h.1)];exact hs.rep (hF t)
def cnt(S:Nat→Bool):Nat→Nat
 |0=>0
 |n+1=>cnt S n+if S n=true then 0 else 1
theorem je{S S':Nat→Bool}{i:Nat}(hS:∀j,S' j=(S j || decide (j=i)))(hi:S i=false):∀{n:Nat},(n≤i→cnt S' n=cnt S n)∧(i<n→cnt S' n+1=cnt S n)
 |0=>⟨λ_=>rfl,λh=>by omega⟩
 |n+1=>by
  obtain⟨h1,h2⟩:=je hS hi (n:=n);refine⟨λh=>?_,λh=>?_⟩
  ·simp only[cnt]
   grind
  ·simp only[cnt]
   by_cases e:i=n
   ·simp_all
   ·grind
theorem vP{S:Nat→Bool}:∀{n:Nat},cnt S n=0→∀j,j<n→S j=true
 |0,_,j,h=>by omega
 |n+1,h,j,hj=>by
  simp only[cnt]at h;by_cases e:j=n
  ·simp_all
  ·exact vP (S:=S) (n:=n) Ω j Ω
theorem Zg{S:Nat→Bool}{m:Nat}(h1:∀j,j<m→S j=true)(h2:∀j,m≤j→S j=false):∀{n:Nat},m≤n→cnt S n=n - m
 |0,h=>by simp[cnt]
 |n+1,h=>by
  by_cases e:m=n+1
  ·subst e
   have key:∀j,j≤n+1→cnt S j=0:=by
    intro j
    induction j with
    |zero=>intro _;rfl
    |succ j ih=>intro hj;simp only[cnt];rw[ih Ω,h1 j Ω];rfl
   simp_all
  ·simp only[cnt]
   rw[Zg h1 h2 Ω,h2 n Ω];simp;omega
theorem vQ{l:Array Bool}{j:Nat}(hi:i<l.size):(l.setIfInBounds i true).getD j false=(l.getD j false || decide (j=i)):=by
 by_cases e:i=j
 ·subst e;simp[hi]
 ·simp only[xf5]
  grind
theorem qlN{ro:Option Nat}{ops:Array Oper}{id:Nat}{Q:Exit→Act→World→Prop}{st:St}{K:St→Prop}(hm:P.follows .mixedOrders=true)(hok:Wv ops.toList=true)(hd:ops.toList.all (kX ns)=true)
  (h:Inv O base okc ns st.nid outs st a w) (hk:qL P O (zN true ops.toList=true) (dsts ops.toList) ops.toList 0 st K)
  (hK:∀st' a' w',K st'→Inv O base okc ns (st'.nid+ops.toList.length) outs st' a' w'→Q .normal a' w'):(Code.region id ops true).wpIn (FR ro) 0 P Q a w:=by
 obtain⟨r0,h0⟩:=h;generalize hl:ops.toList=l at hok hd hk hK;have hn:ops.size=l.length:=by rw[←hl];simp
 have hget:∀j:Nat,ops[j]? = l[j]?:=λj=>by rw[←hl];simp
 simp only[Wv,xe6]at hok;obtain⟨⟨hedge,hapart⟩,htail⟩:=hok;have hedge:=gm hedge;obtain⟨m,hml,hcalm,hnoJ,htail⟩:∃m,m≤l.length∧(∀o∈l.take m,kK o.op=true)∧(zN true l=true→∀o∈l.take m,j7 o.op=false)∧∀j,j<l.length→m≤j→(zw [] l).getD j 0=2^j - 1:=by
  have spec:∀m,Wu (zw [] l) m l.length=true→∀j,j<l.length→m≤j→(zw [] l).getD j 0=2^j - 1:=λm htail j hj hjm=>by
   simp only[Wu,List.all_eq_true,List.mem_range]at htail
   grind
  by_cases hin:zN true l=true
  ·exact⟨vu l,GW l,λo ho=>(wx l o ho).1,λ_ o ho=>(wx l o ho).2,spec _ (by simpa[zN]using hin)⟩
  ·exact⟨ww l,GV l,VG l,λh=>absurd h hin,spec _ htail⟩
 have hk':qL P O (zN true l=true) (dsts l) (l.take m++l.drop m) 0 st K:=by rw[List.take_append_drop];exact hk
 obtain⟨rs,st1,htr,hn1,hk1⟩:=resolve (l.take m) 0 st hcalm hnoJ hk';have hlen:(l.take m).length=m:=by simp;omega
 rw[hlen,xb0]at hk1;obtain⟨hsub,hkeys,hF1,hops⟩:=Ki htr (by simpa using h0.keys);rw[hlen]at hF1;have hdstm:∀j,j<m→nth (dsts (l.take m)) j=nth (dsts l) j:=λj hj=>qfN l m j hj;rw[GX hdstm]at hF1;have hop:∀i o,i<m→l[i]? = some o→∃wt sv nb hpj,rs[i]? = some (wt,sv,nb)∧(∀id x,blk hpj id=some x→blk st1.hp id=some x)∧
   ((wt=false∧kZ (dsts l) o.guard (FS (nth (dsts l)) (kQ rs) (λ_=>true) (look st.fr) i)=some false∧sv=undefSV∧nb=none)∨
    (wt=true∧kZ (dsts l) o.guard (FS (nth (dsts l)) (kQ rs) (λ_=>true) (look st.fr) i)=some true∧yc P (FS (nth (dsts l)) (kQ rs) (λ_=>true) (look st.fr) i) hpj (st.nid+i) o sv nb∧∀b,nb=some b→blk st1.hp (st.nid+i)=some b)):=by
  intro i o hi ho;obtain⟨wt,sv,nb,hpj,h1,h2,h3⟩:=hops i o (by rw[List.getElem?_take_of_lt hi];exact ho);rw[GX (λj hj=>hdstm j Ω),xb0]at h3
  grind
 have hclosed:∀(S:Nat→Bool)(i:Nat),kL l S→(∃o,l[i]? = some o∧∀e∈o.after,Region.binds .any e=true→S e.on=true)→kL l (λj=>S j || decide (j=i)):=by
  rintro S i hc ⟨o,ho,he⟩ j oj hoj hS e hm' hb;simp only[xe8,decide_eq_true_eq]at hS ⊢;rcases hS with hS|hS
  ·exact .inl (hc j oj hoj hS e hm' hb)
  ·simp_all
 have hready:∀(listed:Array Bool)(i:Nat),listed.size=l.length→i∈Region.ready .any ops listed→i<l.length∧listed.getD i false=false∧∃o,l[i]? = some o∧∀e∈o.after,Region.binds .any e=true→listed.getD e.on false=true:=by
  intro listed i hsz hi;obtain⟨h1,o,h2,h3⟩:=mem_ready.1 hi
  grind
 have hleast:∀(listed:Array Bool),listed.size=l.length→∀i,i<l.length→listed.getD i false=false→∃j,j≤i∧j∈Region.ready .any ops listed:=by
  intro listed hsz i
  induction i using Nat.strongRecOn with
  |_ i ih=>
   intro hi hf;obtain⟨o,ho⟩:∃o,l[i]? = some o:=⟨l[i],by simp[hi]⟩;by_cases hall:∀e∈o.after,Region.binds .any e=true→listed.getD e.on false=true
   ·refine⟨i,xa5 _,mem_ready.2 ⟨?_,o,by rw[hget];exact ho,hall⟩⟩
    have:i<listed.size:=by omega
    simpa[this]using hf
   ·have:∃e,e∈o.after∧Region.binds .any e=true∧listed.getD e.on false=false:=by
     refine xf9 λhno=>hall λe he hb=>?_;cases hv:listed.getD e.on false with
     |true=>rfl
     |false=>exact(hno ⟨e,he,hb,hv⟩).elim
    obtain⟨e,he,hb,hv⟩:=this;have hlt:=hedge i o ho e he hb;rw[xb0]at hlt;obtain⟨j,hj,hr⟩:=ih e.on hlt Ω hv;exact⟨j,Ω,hr⟩
 have hdst:∀i o,l[i]? = some o→nth (dsts l) i=o.dst:=λi o ho=>by rw[zk,ho];rfl
 have hdin:∀i t,nth (dsts l) i=some t→t<ns:=λi t ht=>by
  rw[zk]at ht;cases ho:l[i]? with
  |none=>simp[ho]at ht
  |some o=>
   simp only[ho,Option.bind_some]at ht;have:=List.all_eq_true.1 hd o (List.mem_of_getElem? ho);simpa[kX,ht]using this
 have tailW:∀(fuel j:Nat)(listed:Array Bool)(stj:St)(a:Act)(w:World),m≤j→j+fuel=l.length→listed.size=l.length→(∀i,listed.getD i false=decide (i<j))→
   Inv O base okc ns (stj.nid+j) outs stj a w→qL P O (zN true l=true) (dsts l) (l.drop j) j stj K→wpAnyIn (FR ro) 0 P .any ops Q fuel listed a w:=by
  intro fuel
  induction fuel with
  |zero=>
   intro j listed stj a w hmj hjn hsz hlis hinv hvc;have:l.drop j=[]:=by rw[List.drop_eq_nil_iff];omega
   rw[this]at hvc;have hjl':j=l.length:=by omega
   refine⟨?_,hK stj a w hvc (by rw[←hjl'];exact hinv)⟩;cases hr:Region.ready .any ops listed with
   |nil=>rfl
   |cons x xs=>
    have:=hready listed x hsz ΩV;rw[hlis]at this;simp at this;omega
  |succ fuel ih=>
   intro j listed stj a w hmj hjn hsz hlis hinv hvc;have hjl:j<l.length:=by omega
   obtain⟨o,ho⟩:∃o,l[j]? = some o:=⟨l[j],by simp[hjl]⟩;have hdrop:l.drop j=o :: l.drop (j+1):=by
    rw[List.drop_eq_getElem_cons hjl]
    congr 1
    have:=xc7 hjl;rw[ho]at this;simpa using this.symm
   rw[hdrop]at hvc;refine⟨λh=>?_,λi hi=>?_⟩
   ·obtain⟨x,hx,hr⟩:=hleast listed hsz j hjl (by rw[hlis];simp)
    rw[h]at hr;cases hr
   ·obtain⟨hil,hif,oi,hoi,hie⟩:=hready listed i hsz hi
    have hij:i=j:=by
     rw[hlis]at hif;simp at hif;refine xf9 λhne=>?_;have hlt:j<i:=by omega
     have hcl:kL l (λx=>listed.getD x false):=by
      intro x ox hox hS e he hb;dsimp only at hS ⊢;rw[hlis]at hS ⊢;simp only[decide_eq_true_eq]at hS ⊢;have:=hedge x ox hox e he hb;omega
     have hb:((zw [] l).getD i 0).testBit j=true:=by
      rw[htail i hil Ω,Nat.testBit_two_pow_sub_one];simpa using hlt
     have:=qt (hclosed _ i hcl ⟨oi,hoi,hie⟩) hb Ωj;simp only[hlis,xe8,decide_eq_true_eq]at this;omega
    subst hij;rw[ho]at hoi;cases hoi;obtain⟨r,hinv⟩:=hinv;have hgo:=GR (ops:=ops) (st:=stj) (a:=a) (w:=w) hinv (o:=o) (by rw[hl];exact hvc);obtain⟨st',hnid',hinv',hcase⟩:=hgo;have hdo:kX ns o=true:=List.all_eq_true.1 hd o (List.mem_of_getElem? ho);have hset:∀x,(listed.setIfInBounds i true).getD x false=decide (x<i+1):=λx=>by
     rw[vQ Ω,hlis];by_cases h1:x<i<;>by_cases h2:x=i<;>simp[h1,h2]<;>omega
    unfold wpOpIn;simp only[hget,ho];rcases hcase with⟨hw,hrun⟩|⟨hw,hskip⟩
    ·rw[if_pos hw]
     refine qca (i:=i) (st:=st') (r:=r) (by rw[hnid'];exact hinv') hdo (by exact hrun) λst2 a2 w2 hk2 hn2 _ h2=>?_;exact ih (i+1) _ st2 a2 w2 Ω Ω Ω7 hset h2 hk2
    ·rw[if_neg (by rw[hw];simp)]
     have hd':∀t,o.dst=some t→t<ns:=λt ht=>by simpa[kX,ht]using hdo
     have h1:InvR O base okc ns (stj.nid+i) r outs (st'.put o.dst undefSV) (a.put o.dst undef) w:=hinv'.step (Step.refl hinv'.sat) hinv'.keys (xa5 _) hd' (.val _);exact⟨λ_ _=>trivial,ih (i+1) _ _ _ _ Ω Ω Ω7 hset (by rw[qx,hnid'];exact⟨r,h1.more Ω⟩) hskip⟩
 have preW:∀(fuel:Nat)(listed:Array Bool)(a:Act)(w:World),listed.size=l.length→kL l (λi=>listed.getD i false)→(∀i,m≤i→listed.getD i false=false)→cnt (λi=>listed.getD i false) l.length=fuel→
   Mid O outs base okc ns st.nid m st1.hp (nth (dsts l)) (kQ rs) (look st.fr) (λi=>listed.getD i false) a w→wpAnyIn (FR ro) 0 P .any ops Q fuel listed a w:=by
  intro fuel
  induction fuel with
  |zero=>
   intro listed a w hsz hcl hlate hcnt hmid;have hall:=vP hcnt;have hml':m=l.length:=by
    refine xf9 λhne=>?_;have:=hall m Ω
    simp_all
   obtain⟨r,hsat,hrep,hsize,hdef⟩:=hmid;refine tailW 0 m listed st1 a w (xa5 _) Ω hsz (λi=>?_) ?_ hk1
   ·grind
   ·have e1:NS st.nid m (λi=>listed.getD i false)=(· < st.nid+m):=by
     funext x;simp only[NS,eq_iff_iff];constructor
     ·omega
     ·intro h
      by_cases hx:x<st.nid
      ·exact .inl hx
      ·exact .inr ⟨x - st.nid,Ω,hall _ Ω,Ω⟩
    rw[e1]at hsat hrep hdef;rw[hn1];refine⟨r,hsat,λx y hy=>?_,λt=>?_,hsize,xc1 h0.lo Ω,hdef.out,hdef.rfix,hdef.defers⟩
    ·rcases hkeys x y hy with h|⟨j,_,_,_,e,hj⟩
     ·have:=h0.keys x y h;omega
     ·omega
    ·have:=hrep t
     rw[hF1];have e2:FS (nth (dsts l)) (kQ rs) (λi=>listed.getD i false) (look st.fr) m t=FS (nth (dsts l)) (kQ rs) (λ_=>true) (look st.fr) m t:=
      vw (xa5 _) λj hj _=>by simp only[hj,iff_true];exact hall j Ω
     grind
  |succ fuel ih=>
   intro listed a w hsz hcl hlate hcnt hmid;by_cases hall:∀i,i<m→listed.getD i false=true
   ·
    have hc:=Zg (S:=λi=>listed.getD i false) hall hlate hml;obtain⟨r,hsat,hrep,hsize,hdef⟩:=hmid;refine tailW (fuel+1) m listed st1 a w (xa5 _) Ω hsz (λi=>?_) ?_ hk1
    ·by_cases h:i<m
     ·simp only[h,decide_true];exact hall i h
     ·simp only[h,decide_false];exact hlate i Ω
    ·have e1:NS st.nid m (λi=>listed.getD i false)=(· < st.nid+m):=by
      funext x;simp only[NS,eq_iff_iff];constructor
      ·rintro(h|⟨j,h1,_,h3⟩)<;>omega
      ·intro h
       by_cases hx:x<st.nid
       ·exact .inl hx
       ·exact .inr ⟨x - st.nid,Ω,hall _ Ω,Ω⟩
     rw[e1]at hsat hrep hdef;rw[hn1];refine⟨r,hsat,λx y hy=>?_,λt=>?_,hsize,xc1 h0.lo Ω,hdef.out,hdef.rfix,hdef.defers⟩
     ·rcases hkeys x y hy with h|⟨j,_,_,_,e,hj⟩
      ·have:=h0.keys x y h;omega
      ·omega
     ·have:=hrep t
      rw[hF1];have e2:FS (nth (dsts l)) (kQ rs) (λi=>listed.getD i false) (look st.fr) m t=FS (nth (dsts l)) (kQ rs) (λ_=>true) (look st.fr) m t:=
       vw (xa5 _) λj hj _=>by simp only[hj,iff_true];exact hall j hj
      rw[←e2];exact this
   ·obtain⟨x,hx⟩:∃x,x<m∧listed.getD x false=false:=by
     refine xf9 λhno=>hall λi hi=>?_;cases hv:listed.getD i false with
     |true=>rfl
     |false=>exact(hno ⟨i,hi,hv⟩).elim
    refine⟨λh=>?_,λi hi=>?_⟩
    ·obtain⟨y,_,hr⟩:=hleast listed hsz x Ω hx.2
     rw[h]at hr;cases hr
    ·obtain⟨hil,hif,o,ho,hie⟩:=hready listed i hsz hi
     have hcl':=hclosed _ i hcl ⟨o,ho,hie⟩;have him:i<m:=by
      refine xf9 λhne=>?_;have hb:((zw [] l).getD i 0).testBit x=true:=by
       rw[htail i hil Ω,Nat.testBit_two_pow_sub_one];simp;omega
      have:=qt hcl' hb Ωj;simp only[xe8,decide_eq_true_eq]at this;rcases this with h|h
      ·rw[hx.2]at h;cases h
      ·omega
     have hlook:∀t,t∈seen (dsts l) o→FS (nth (dsts l)) (kQ rs) (λi=>listed.getD i false) (look st.fr) m t=FS (nth (dsts l)) (kQ rs) (λ_=>true) (look st.fr) i t:=by
      intro t ht;refine vw Ω λj hj hdj=>?_;obtain⟨oj,hoj⟩:∃oj,l[j]? = some oj:=⟨l[j],by simp[show j<l.length by omega]⟩;constructor
      ·intro hS
       refine xf9 λhge=>?_;by_cases e:j=i
       ·subst e
        rw[hif]at hS;cases hS
       ·rcases qX hapart ho hoj Ω with hb|⟨_,hb⟩
        ·have:=qt hcl hb hS
         rw[hif]at this;cases this
        ·exact hb t hdj ht
      ·intro hlt
       rcases qX hapart hoj ho hlt with hb|⟨hb,_⟩
       ·have:=qt hcl' hb Ωj
        simp only[xe8,decide_eq_true_eq]at this;exact this.resolve_right Ω
       ·exact(hb t hdj ht).elim
     obtain⟨wt,sv,nb,hpj,hrs,hsubj,hcase⟩:=hop i o him ho;have hri:kQ rs i=sv:=by simp[kQ,hrs]
     obtain⟨r,hsat,hrep,hsize,hdef⟩:=hmid;have hdsti:=hdst i o ho;have hS:∀x,(listed.setIfInBounds i true).getD x false=(listed.getD x false || decide (x=i)):=λx=>vQ Ω;have hlater:∀t,nth (dsts l) i=some t→∀j,j<m→i<j→nth (dsts l) j=some t→listed.getD j false=false:=by
      intro t hdi j hj hij hdj;obtain⟨oj,hoj⟩:∃oj,l[j]? = some oj:=⟨l[j],by simp[show j<l.length by omega]⟩;cases hv:listed.getD j false with
      |false=>rfl
      |true=>
       rcases qX hapart ho hoj hij with hb|⟨_,hb⟩
       ·have:=qt hcl hb hv
        rw[hif]at this;cases this
       ·refine(hb t hdj ?_).elim
        simp only[seen,xd4];rw[hdsti]at hdi;simp[hdi]
     have next:∀(v:Value)(r':Nat→Option Nat)(w':World),Step base okc r (NS st.nid m λi=>listed.getD i false) st1.hp w r' (NS st.nid m λx=>(listed.setIfInBounds i true).getD x false) st1.hp w'→
       Rep r' (NS st.nid m λx=>(listed.setIfInBounds i true).getD x false) (Gd base okc r' (NS st.nid m λx=>(listed.setIfInBounds i true).getD x false) st1.hp w') w' sv v→
       wpAnyIn (FR ro) 0 P .any ops Q fuel (listed.setIfInBounds i true) (a.put o.dst v) w':=by
      intro v r' w' hs hv;refine ih _ _ _ Ω7 ?_ (λx hx=>?_) ?_ ?_
      ·have:(λx=>(listed.setIfInBounds i true).getD x false)=λx=>listed.getD x false || decide (x=i):=funext hS
       rw[this];exact hcl'
      ·rw[hS,hlate x hx];simp;omega
      ·have:=(je (S:=λi=>listed.getD i false) (S':=λx=>(listed.setIfInBounds i true).getD x false) hS hif (n:=l.length)).2 hil
       omega
      ·rw[←hdsti]
       exact qlM hS him hlater hrep hsize hdef h0.lo (hdin i) hs (by rw[hri];exact hv)
     have hmore:(∀b,nb≠some b)→Step base okc r (NS st.nid m λi=>listed.getD i false) st1.hp w r (NS st.nid m λx=>(listed.setIfInBounds i true).getD x false) st1.hp w:=by
      intro hnb;rw[←gO hS him];refine hsat.more (λx hx=>.inl hx) λx y hy hx=>?_;rcases hx with hx|hx
      ·exact hx
      ·subst hx
       rcases hkeys _ _ hy with h|⟨j,wt',sv',hj,e,_⟩
       ·have:=h0.keys _ _ h;omega
       ·have:j=i:=by omega
        subst this;rw[hrs]at hj;cases hj;exact(hnb _ rfl).elim
     have hguard:∀b,kZ (dsts l) o.guard (FS (nth (dsts l)) (kQ rs) (λ_=>true) (look st.fr) i)=some b→Region.wanted o (yielded ops a.tmps)=b:=by
      intro b hg;cases hog:o.guard with
      |none=>rw[hog]at hg;simp only[kZ,Option.some.injEq]at hg;subst hg;simp[Region.wanted,hog]
      |some gw=>
       obtain⟨j,want⟩:=gw;rw[hog]at hg;simp only[kZ]at hg;cases ht:nth (dsts l) j with
       |none=>simp[ht]at hg
       |some t=>
        have hy:=wv ops a j t (by rw[hl];exact ht);have htn:t∈seen (dsts l) o:=by simp[seen,qdB,hog,ht]
        have hrt:=hrep t;rw[hlook t htn]at hrt;simp only[ht]at hg;cases hv:FS (nth (dsts l)) (kQ rs) (λ_=>true) (look st.fr) i t with
        |val u=>
         rw[hv]at hg hrt;have hu:a.tmps.getD t undef=u:=by generalize a.tmps.getD t undef=z at hrt;cases hrt;rfl
         simp only[xf5]at hu;cases u with
         |bool c=>
          have:yielded ops a.tmps j=some c:=by
           rw[hy];cases hz:a.tmps[t]? with
           |none=>rw[hz]at hu;simp[undef]at hu
           |some z=>rw[hz]at hu;simp at hu;rw[hu]
          simp only[Option.some.injEq]at hg;subst hg;simp only[Region.wanted,hog,this];cases c<;>cases want<;>rfl
         |tuple vs=>
          have:yielded ops a.tmps j=none:=by
           rw[hy];cases hz:a.tmps[t]? with
           |none=>rfl
           |some z=>rw[hz]at hu;simp at hu;rw[hu]
          simp only[Option.some.injEq]at hg;subst hg;simp[Region.wanted,hog,this]
         |_=>simp at hg
        |_=>rw[hv]at hg;simp at hg
     unfold wpOpIn;simp only[hget,ho];rcases hcase with⟨_,hg,rfl,rfl⟩|⟨_,hg,hrun,hnb⟩
     ·rw[if_neg (by rw[hguard _ hg];simp)]
      exact⟨λ_ _=>trivial,next undef r w (hmore Ωj) (.val _)⟩
     ·rw[if_pos (hguard _ hg)]
      have hca:kK o.op=true:=hcalm o (by
       have:(l.take m)[i]? = some o:=by rw[List.getElem?_take_of_lt him];exact ho
       exact List.mem_of_getElem? this)
      have hnd:∀c,o.op≠.defer c:=λc e=>by rw[e]at hca;cases hca
      refine kY hnd (jb hsat (fr:=FS (nth (dsts l)) (kQ rs) (λ_=>true) (look st.fr) i) (id:=st.nid+i) (hp':=st1.hp) (λx hx=>Gc x λt ht=>?_) ?_)
      ·subst ht
       rw[←hlook t (by
        simp only[seen,xd4];exact .inl (List.mem_filterMap.2 ⟨.tmp t,ΩM,rfl⟩))]
       exact hrep t
      ·cases hrun with
       |pure obl _ hst hobl=>
        rw[gN hca hsubj ΩE,hst];refine⟨hobl,λv hv=>next v r w (hmore Ωj) ((hmore Ωj).rep hv)⟩
       |ex obl _ hst hobl=>
        rw[gN hca hsubj ΩE,hst];exact⟨sv,hobl,λv hv=>next v r w (hmore Ωj) ((hmore Ωj).rep hv)⟩
       |new obl b mk hst hobl=>
        rw[gN hca hsubj ΩE,hst];refine⟨hobl,?_,hnb b rfl,λ_ _=>rfl,λv w' r' hs hv=>?_⟩
        ·rintro(h|⟨j,h1,h2,h3⟩)
         ·omega
         ·have:j=i:=by omega
          subst this;dsimp only at h2;rw[hif]at h2;cases h2
        ·rw[gO hS him]at hs hv
         exact next v r' w' hs hv
       |call f args _ hst hc=>
        rw[gN hca hsubj ΩE,hst];refine .inl ⟨sv,hc.mono hsubj,λv w' hst' hv=>?_⟩;refine next v r w' (hst'.trans ?_) ?_
        ·rw[←gO hS him]
         refine hst'.sat.more (λx hx=>.inl hx) λx y hy hx=>?_;rcases hx with hx|hx
         ·exact hx
         ·subst hx
          rcases hkeys _ _ hy with h|⟨j,wt',sv',hj,e,_⟩
          ·have:=h0.keys _ _ h;omega
          ·have:j=i:=by omega
           subst this;rw[hrs]at hj;cases hj
        ·rw[←gO hS him]
         refine(hst'.sat.more (λx hx=>.inl hx) λx y hy hx=>?_).rep hv;rcases hx with hx|hx
         ·exact hx
         ·subst hx
          rcases hkeys _ _ hy with h|⟨j,wt',sv',hj,e,_⟩
          ·have:=h0.keys _ _ h;omega
          ·have:j=i:=by omega
           subst this;rw[hrs]at hj;cases hj
       |callN f args pats b res hst hc hs=>
        rw[gN hca hsubj ΩE,hst];refine .inr ⟨pats,b,res,hc,hs.mono hsubj,?_,st1.hp,hnb b rfl,λ_ _=>rfl,λv w' r' hs hv=>?_⟩
        ·rintro(h|⟨j,h1,h2,h3⟩)
         ·omega
         ·have:j=i:=by omega
          subst this;dsimp only at h2;rw[hif]at h2;cases h2
        ·rw[gO hS him]at hs hv
         exact next v r' w' hs hv
 refine wpIn_region_any hm ?_;rw[hn];have hrep0:∀i,(Array.replicate l.length false).getD i false=false:=λi=>by simp only[xf5,Array.getElem?_replicate];split<;>rfl
 refine preW l.length (Array.replicate l.length false) a _ Ωj ?_ (λi _=>hrep0 i) ?_ ?_
 ·intro j o ho hS;simp only[hrep0]at hS;cases hS
 ·have key:∀n,cnt (λi=>(Array.replicate l.length false).getD i false) n=n:=by
   intro n
   induction n with
   |zero=>rfl
   |succ n ihn=>
    simp only[cnt,ihn]
    simp_all
  exact key _
 ·have hN:NS st.nid m (λi=>(Array.replicate l.length false).getD i false)=(· < st.nid):=by
   funext x;simp only[NS,eq_iff_iff];constructor
   ·simp_all
   ·exact .inl
  have hdrew:Below w.heap.size w { w with drawn:=w.drawn+1 }:=⟨rfl,rfl,rfl,xa5 _,λ_ _=>rfl⟩;have hst:=h0.sat.grow hdrew;unfold Mid;rw[hN];have hs2:Step base okc r0 (· < st.nid) st.hp { w with drawn:=w.drawn+1 } r0 (· < st.nid) st1.hp { w with drawn:=w.drawn+1 }:=by
   have hback:∀x y,blk st1.hp x=some y→x<st.nid→blk st.hp x=some y:=λx y hy hx=>by
    rcases hkeys x y hy with h|⟨j,_,_,_,e,_⟩
    ·exact h
    ·omega
   have hG:∀o c,Gd base okc r0 (· < st.nid) st.hp { w with drawn:=w.drawn+1 } o c→Gd base okc r0 (· < st.nid) st1.hp { w with drawn:=w.drawn+1 } o c∧({ w with drawn:=w.drawn+1 }:World).heap[c]? =({ w with drawn:=w.drawn+1 }:World).heap[c]?:=
    λo c ⟨h1,h2,h3⟩=>⟨⟨h1,λi y hy hi=>h2 i y (hback i y hy hi) hi,h3⟩,rfl⟩
   exact⟨⟨hst.sat.below,λi y hy hi=>(hst.sat.rep i y (hback i y hy hi) hi).mono (λ_ _=>rfl) (λ_ h=>h) hG (Shapes.refl _) (λ_ _=>rfl),
    λi y b hy hi=>hst.sat.own i y b (hback i y hy hi) hi,λi y i' y' b hy hi hy' hi'=>hst.sat.inj i y i' y' b (hback i y hy hi) hi (hback i' y' hy' hi') hi'⟩,λ_ _=>rfl,λ_ h=>h,hG,Shapes.refl _⟩
  refine⟨r0,hs2.sat,λt=>?_,h0.size,((Ext.mk h0.out h0.rfix h0.defers).step0 hst (λi hi=>xa9 hi h0.lo)).step0 hs2 (λi hi=>xa9 hi h0.lo)⟩;have e:FS (nth (dsts l)) (kQ rs) (λi=>(Array.replicate l.length false).getD i false) (look st.fr) m t=look st.fr t:=by
   have:=vw (dst:=nth (dsts l)) (res:=kQ rs) (S:=λi=>(Array.replicate l.length false).getD i false) (F:=look st.fr) (i:=0) (t:=t) (xb6 m) (λj hj _=>by rw[hrep0];simp);exact this
  rw[e];exact hs2.rep (hst.rep (h0.fr t))
end
end Go.Sx
end
section
namespace Go.Sx
open Go.RowKit
variable{ds:List (Option Tmp)}{i j n:Nat}{F:Nat→SV}{op:Op}{obl:Prop}{b:Blk}{mi:Option vb}{m:SV}{t:TypeId}{S:Nat→Bool}{H:List (Nat×Blk)}
def qG:Op→Bool
 |.store _ _ _=>true
 |.mapUpdate _ _ _ _=>true
 |.insert _ _ _ _=>true
 |.call ⟨.builtin .delete,_,_⟩=>true
 |.call ⟨.builtin .clear,_,_⟩=>true
 |_=>false
def gD:Op→Bool
 |.load _ _=>true
 |.lookup _ _ _ _=>true
 |.call ⟨.value _,_,_⟩=>true
 |_=>false
def zd(ds:List (Option Tmp))(i a:Nat):Bool:=(List.range ds.length).all λk=>decide (k<i) ||(match nth ds k with|some t=>!decide (t=a)|none=>true)
def qhs(far:List (Nat×Nat))(ds:List (Option Tmp))(i j:Nat)(oi oj:Oper):Bool:=
 match oi.op with
 |.load _ (.tmp a)=>match oj.op with
  |.store _ (.tmp b) _=>far.any (λp=>decide (p.1=a)&&decide (p.2=b))&&zd ds i a&&zd ds j b
  |_=>false
 |_=>false
def GY(far:List (Nat×Nat))(ds:List (Option Tmp))(ms:List Nat)(ops:List Oper):Bool:=
 (List.range ops.length).all λj=>match ops[j]? with
  |none=>true
  |some oj=>(List.range j).all λi=>(ms.getD j 0).testBit i || match ops[i]? with
   |none=>true
   |some oi=>!((qG oi.op&&qG oj.op) ||(gD oi.op&&qG oj.op) ||(qG oi.op&&gD oj.op)) || qhs far ds i j oi oj
def Wx(far:List (Nat×Nat))(ops:List Oper):Bool:=
 let ms:=zw [] ops
 jd 0 ops&&yL (dsts ops) ms ops&&GY far (dsts ops) ms ops&&ops.all (λo=>kK o.op || qG o.op)&&!zN true ops
theorem qz{a:Nat}(h:zd ds i a=true){k:Nat}(hk:k<ds.length)(hi:i≤k):nth ds k≠some a:=by
 intro e;simp only[zd,List.all_eq_true,List.mem_range]at h
 grind
def qqb(far:List (Nat×Nat))(ds:List (Option Tmp))(i j:Nat)(oi oj:Oper):Prop:=
 ∃t a t' b y,oi.op=.load t (.tmp a)∧oj.op=.store t' (.tmp b) y∧(a,b)∈far∧zd ds i a=true∧zd ds j b=true
theorem qcc{far:List (Nat×Nat)}{oi oj:Oper}(h:qhs far ds i j oi oj=true):qqb far ds i j oi oj:=by
 unfold qhs at h;split at h
 ·rename_i t a e
  split at h
  ·rename_i t' b y e'
   simp only[xe6,List.any_eq_true,decide_eq_true_eq]at h;obtain⟨⟨⟨p,hp,h1,h2⟩,h3⟩,h4⟩:=h;refine⟨t,a,t',b,y,e,e',?_,h3,h4⟩
   grind
  ·cases h
 ·cases h
theorem zh{far:List (Nat×Nat)}{ms:List Nat}{ops:List Oper}(h:GY far ds ms ops=true){oi oj:Oper}(hi:ops[i]? = some oi)(hj:ops[j]? = some oj)(hij:i<j) :
  (ms.getD j 0).testBit i=true∨(¬(qG oi.op=true∧qG oj.op=true)∧¬(gD oi.op=true∧qG oj.op=true)∧¬(qG oi.op=true∧gD oj.op=true))∨qqb far ds i j oi oj:=by
 simp only[GY,List.all_eq_true,List.mem_range]at h;have h1:=h j (List.getElem?_eq_some_iff.1 hj).1;rw[hj]at h1;simp only[List.all_eq_true,List.mem_range]at h1;have h2:=h1 i hij;rw[hi]at h2;simp only[xe8]at h2;rcases h2 with h2|h2|h2
 ·exact .inl h2
 ·grind
 ·exact .inr (.inr (qcc h2))
theorem j8{P:Program}{hp:List (Nat×Blk)}(h:stepR P F hp op=.upd obl j b):qG op=true:=by
 cases op<;>first|rfl|(simp only[stepR]at h;cases h;done)|(simp only[stepR]at h)
 case pick=>unfold rPick at h;split at h<;>cases h
 case alloc=>unfold rAlloc at h;split at h<;>cases h
 case box=>unfold rBox at h;(repeat' split at h)<;>cases h
 case load=>unfold rLoad at h;(repeat' split at h)<;>cases h
 case nilCheck=>unfold rNil at h;split at h<;>cases h
 case binOp=>unfold rBin at h;(repeat' split at h)<;>first|(cases h;done)|(rcases wi P _ _ _ _ _ with⟨_,_,e⟩|e<;>rw[e]at h<;>cases h)|(unfold rInt at h;split at h<;>cases h)|(unfold rEq at h;(repeat' split at h)<;>cases h)
 case unOp=>unfold rUn at h;split at h<;>cases h
 case convert=>unfold rConv at h;split at h<;>cases h
 case fieldAddr=>unfold rFieldAddr at h;(repeat' split at h)<;>cases h
 case field=>unfold rField at h;(repeat' split at h)<;>cases h
 case indexAddr=>unfold rIndexAddr at h;(repeat' split at h)<;>cases h
 case extract=>unfold rExtract at h;split at h<;>cases h
 case build=>have:=congrArg vq h;rw[ja]at this;cases this
 case buildSlice=>rcases gj (P:=P) _ _ _ with⟨_,_,_,e⟩|e<;>rw[e]at h<;>cases h
 case makeSlice=>rcases gJ (P:=P) _ _ _ with⟨_,_,_,e⟩|e<;>rw[e]at h<;>cases h
 case slice=>have:=congrArg vq h;rw[jR]at this;cases this
 case makeMap=>rcases jy _ _ with⟨_,_,_,e⟩|e<;>rw[e]at h<;>cases h
 case lookup=>have:=congrArg vq h;rw[gC]at this;cases this
 case index=>have:=congrArg vq h;rw[jT]at this;cases this
 case call c=>
  obtain⟨callee,args,ts⟩:=c;cases callee with
  |value f=>simp only[rCall]at h;split at h<;>cases h
  |invoke _ _=>simp only[rCall]at h;cases h
  |builtin b=>
   cases b<;>first|rfl|(simp only[rCall]at h;done)|skip
   all_goals simp only[rCall]at h
   all_goals first|(cases h;done)|skip
   case append=>(repeat' split at h)<;>first|(cases h;done)|(rcases jS (P:=P) (hp:=hp) _ _ _ with⟨_,_,_,e⟩|⟨_,_,_,_,e⟩|e<;>rw[e]at h<;>cases h)
   case copy=>split at h<;>first|(cases h;done)|(rcases QA (P:=P) (hp:=hp) _ _ _ with⟨_,_,_,_,e⟩|e<;>rw[e]at h<;>cases h)
   case len=>split at h<;>first|(cases h;done)|(unfold rLen at h;(repeat' split at h)<;>cases h)
   case max=>unfold rMin at h;(repeat' split at h)<;>cases h
   case min=>unfold rMin at h;(repeat' split at h)<;>cases h
theorem qcd(h:kK op=true):qG op=false:=by
 cases op<;>first|rfl|(simp[kK]at h;done)|skip
 case call c=>
  obtain⟨callee,args,ts⟩:=c;cases callee with
  |value f=>rfl
  |invoke _ _=>simp[kK]at h
  |builtin b=>cases b<;>first|rfl|(simp[kK]at h;done)
theorem qnM{P:Program}{hp:List (Nat×Blk)}(h:stepR P F hp op=.upd obl j b){r:Nat→Option Nat}{N:Nat→Prop}{G:Bool→Nat→Prop}{w:World}{a:Act}
  (ha:∀x,x∈op.operands→Rep r N G w (env F x) (a.eval x)):N j:=by
 have hu:=j8 h;cases op<;>first|(simp[qG]at hu;done)|skip
 case store t x y=>
  simp only[stepR]at h;have hx:=ha x Ωx;unfold rStore at h;split at h
  ·split at h
   ·rename_i id off hxe
    rw[hxe]at hx;split at h<;>cases h
    generalize a.eval x=u at hx;cases hx with|ptr _ _ _ hN _=>exact hN
   ·rename_i id k i l hxe
    rw[hxe]at hx;split at h<;>cases h
    generalize a.eval x=u at hx;cases hx with|elt _ _ _ _ _ hN _=>exact hN
   ·cases h
  ·split at h
   ·split at h
    ·rename_i id off hxe
     rw[hxe]at hx;split at h<;>cases h
     generalize a.eval x=u at hx;cases hx with|ptr _ _ _ hN _=>exact hN
    ·rename_i id k i l hxe
     rw[hxe]at hx;split at h<;>cases h
     generalize a.eval x=u at hx;cases hx with|elt _ _ _ _ _ hN _=>exact hN
    ·cases h
   ·cases h
  ·cases h
 case mapUpdate t m k x=>exact upd (ha m Ωx) (by simpa only[stepR]using h)
 case insert t m k x=>exact upd (ha m Ωx) (by simpa only[stepR]using h)
 case call c=>
  obtain⟨callee,args,ts⟩:=c;cases callee with
  |value f=>simp[qG]at hu
  |invoke _ _=>simp[qG]at hu
  |builtin bb=>
   cases bb<;>first|(simp[qG]at hu;done)|skip
   case clear=>
    simp only[stepR,rCall]at h;split at h
    rotate_left
    ·cases h
    rename_i d t hargs hts;have hd:=ha d (by simp[Op.operands,Call.operands,GM hargs]);split at h
    ·rename_i mid hmid
     rw[hmid]at hd;have:mid=j:=by
      unfold rClearMap at h;(repeat' split at h)<;>first|(cases h;done)|(simp only[Res.upd.injEq]at h;rename_i _ _ e _;simp only[SV.mp.injEq]at e;rw[e];exact h.2.1)|skip
      simp_all
     subst this;generalize a.eval d=u at hd;cases hd with|mp _ _ hN _=>exact hN
    ·generalize env F d=s at h hd
     generalize a.eval d=u at hd;unfold rClear at h;(repeat' split at h)<;>first|(cases h;done)|(simp only[Res.upd.injEq]at h;obtain⟨_,rfl,_⟩:=h;cases hd<;>assumption)
   case delete=>
    simp only[stepR,rCall]at h;split at h
    rotate_left
    ·cases h
    rename_i m k t t' hargs hts;have hm:=ha m (by simp[Op.operands,Call.operands,KL hargs]);generalize env F m=s at h hm;generalize a.eval m=u at hm;unfold rDelete at h;(repeat' split at h)<;>first|(cases h;done)|(simp only[Res.upd.injEq]at h;obtain⟨_,rfl,_⟩:=h;cases hm;assumption)
where
 upd {F:Nat→SV} {hp:List (Nat×Blk)} {mi:Option vb} {m k x:Operand} {obl:Prop} {j:Nat} {b:Blk} {r:Nat→Option Nat} {N:Nat→Prop} {G:Bool→Nat→Prop} {w:World} {a:Act}
     (hm:Rep r N G w (env F m) (a.eval m)) (h:rUpdate mi hp (env F m) (env F k) (env F x)=.upd obl j b):N j:=by
  generalize env F m=s at h hm;generalize a.eval m=u at hm;unfold rUpdate at h;(repeat' split at h)<;>first|(cases h;done)|(simp only[Res.upd.injEq]at h;obtain⟨_,rfl,_⟩:=h;cases hm;assumption)
section
variable{P:Program}{hp hp':List (Nat×Blk)}
theorem YY(h:∀id x,blk hp id=some x→blk hp' id=some x){ti:Option TyI}{a v:SV}(hne:rStore ti hp a v≠.bad):rStore ti hp' a v=rStore ti hp a v:=by
 match ti with
 |none=>rfl
 |some ⟨false,sz,z,d⟩=>
  cases a<;>first|rfl|skip
  case ptr id off=>
   simp only[rStore]at hne ⊢;cases hb:blk hp id with
   |none=>rw[hb]at hne;exact absurd rfl hne
   |some y=>rw[h _ _ hb]
  case elt id k i j=>
   simp only[rStore]at hne ⊢;cases hb:blk hp id with
   |none=>rw[hb]at hne;exact absurd rfl hne
   |some y=>rw[h _ _ hb]
 |some ⟨true,sz,z,d⟩=>
  cases v<;>first|rfl|skip
  cases a<;>first|rfl|skip
  case ptr id off=>
   simp only[rStore]at hne ⊢;cases hb:blk hp id with
   |none=>rw[hb]at hne;exact absurd rfl hne
   |some y=>rw[h _ _ hb]
  case elt id k i j=>
   simp only[rStore]at hne ⊢;cases hb:blk hp id with
   |none=>rw[hb]at hne;exact absurd rfl hne
   |some y=>rw[h _ _ hb]
theorem Zh(h:∀id x,blk hp id=some x→blk hp' id=some x){k x:SV}(hne:rUpdate mi hp m k x≠.bad):rUpdate mi hp' m k x=rUpdate mi hp m k x:=by
 match mi with
 |none=>rfl
 |some ⟨ag,ls,z⟩=>
  cases m<;>first|rfl|skip
  rename_i id;simp only[rUpdate]at hne ⊢;cases hb:blk hp id with
  |none=>rw[hb]at hne;exact absurd rfl hne
  |some y=>rw[h _ _ hb]
theorem Wy(h:∀id x,blk hp id=some x→blk hp' id=some x){k:SV}(hne:rDelete mi hp m k≠.bad):rDelete mi hp' m k=rDelete mi hp m k:=by
 match mi with
 |none=>rfl
 |some ⟨ag,ls,z⟩=>
  cases m<;>first|rfl|skip
  rename_i id;simp only[rDelete]at hne ⊢;cases hb:blk hp id with
  |none=>rw[hb]at hne;exact absurd rfl hne
  |some y=>rw[h _ _ hb]
theorem GZ(h:∀id x,blk hp id=some x→blk hp' id=some x)(hne:rClearMap mi hp m≠.bad):rClearMap mi hp' m=rClearMap mi hp m:=by
 match mi with
 |none=>rfl
 |some mi=>
  cases m<;>first|rfl|skip
  rename_i id;simp only[rClearMap]at hne ⊢;cases hb:blk hp id with
  |none=>rw[hb]at hne;exact absurd rfl hne
  |some y=>rw[h _ _ hb]
theorem YZ(h:∀id x,blk hp id=some x→blk hp' id=some x){d:SV}(hne:rClear P t hp d≠.bad):rClear P t hp' d=rClear P t hp d:=by
 unfold rClear at hne ⊢;split
 ·rename_i e1
  rw[e1]at hne;simp only at hne;split
  ·grind
  ·rfl
 ·rfl
theorem ye(hu:qG op=true)(h:∀id x,blk hp id=some x→blk hp' id=some x)(hne:stepR P F hp op≠.bad):stepR P F hp' op=stepR P F hp op:=by
 cases op<;>first|(simp[qG]at hu;done)|skip
 case store t x y=>exact YY h hne
 case mapUpdate t m k x=>exact Zh h hne
 case insert t m k x=>exact Zh h hne
 case call c=>
  obtain⟨callee,args,ts⟩:=c;cases callee with
  |value f=>simp[qG]at hu
  |invoke _ _=>simp[qG]at hu
  |builtin bb=>
   cases bb<;>first|(simp[qG]at hu;done)|skip
   case clear=>
    simp only[stepR,rCall]at hne ⊢;split
    rotate_left
    ·rfl
    rename_i d t hargs hts;simp only[hargs,hts]at hne;generalize env F d=s at hne ⊢;cases s<;>first|exact GZ h hne|exact YZ h hne
   case delete=>
    simp only[stepR,rCall]at hne ⊢;split
    rotate_left
    ·rfl
    rename_i m k t t' hargs hts;simp only[hargs,hts]at hne;exact Wy h hne
end
theorem KO{P:Program}{hp:List (Nat×Blk)}(hu:qG op=true):(∃obl j b,stepR P F hp op=.upd obl j b)∨stepR P F hp op=.bad:=by
 cases op<;>first|(simp[qG]at hu;done)|skip
 case store t x y=>exact w8 _ _ _ _
 case mapUpdate t m k x=>exact gk _ _ _ _ _
 case insert t m k x=>exact gk _ _ _ _ _
 case call c=>
  obtain⟨callee,args,ts⟩:=c;cases callee with
  |value f=>simp[qG]at hu
  |invoke _ _=>simp[qG]at hu
  |builtin bb=>
   cases bb<;>first|(simp[qG]at hu;done)|skip
   case clear=>simp only[stepR,rCall];(repeat' split)<;>first|exact .inr rfl|exact ve _ _ _|exact ya _ _
   case delete=>simp only[stepR,rCall];split<;>first|exact .inr rfl|exact ws _ _ _ _
theorem Qm{P:Program}{hp:List (Nat×Blk)}(h:stepR P F hp op=.upd obl j b):∃y,blk hp j=some y:=by
 refine xf9 λhno=>?_;have hn:blk hp j=none:=by
  cases hb:blk hp j with
  |none=>rfl
  |some y=>exact(hno ⟨y,hb⟩).elim
 have hu:=j8 h;cases op<;>first|(simp[qG]at hu;done)|skip
 case store t x y=>
  simp only[stepR]at h;unfold rStore at h;(repeat' split at h)<;>first|(cases h;done)|(simp only[Res.upd.injEq]at h;simp_all)
 case mapUpdate t m k x=>
  simp only[stepR]at h;unfold rUpdate at h;(repeat' split at h)<;>first|(cases h;done)|(simp only[Res.upd.injEq]at h;simp_all)
 case insert t m k x=>
  simp only[stepR]at h;unfold rUpdate at h;(repeat' split at h)<;>first|(cases h;done)|(simp only[Res.upd.injEq]at h;simp_all)
 case call c=>
  obtain⟨callee,args,ts⟩:=c;cases callee with
  |value f=>simp[qG]at hu
  |invoke _ _=>simp[qG]at hu
  |builtin bb=>
   cases bb<;>first|(simp[qG]at hu;done)|skip
   case clear=>
    simp only[stepR,rCall]at h;unfold rClearMap rClear at h;(repeat' split at h)<;>first|(cases h;done)|(simp only[Res.upd.injEq]at h;simp_all)
   case delete=>
    simp only[stepR,rCall]at h;unfold rDelete at h;(repeat' split at h)<;>first|(cases h;done)|(simp only[Res.upd.injEq]at h;simp_all)
theorem yf{P:Program}{hp:List (Nat×Blk)}(hp':List (Nat×Blk))(hc:kK op=true)(hr:gD op=false):stepR P F hp' op=stepR P F hp op:=by
 cases op<;>first|rfl|(simp[kK]at hc;done)|(simp[gD]at hr;done)|skip
 case call c=>
  obtain⟨callee,args,ts⟩:=c;cases callee with
  |value f=>rfl
  |invoke _ _=>simp[kK]at hc
  |builtin b=>cases b<;>first|rfl|(simp[kK]at hc;done)
theorem vh{P:Program}{hp hp':List (Nat×Blk)}{x:Operand}(h:∀id y,qQ (env F x)=some id→blk hp id=some y→blk hp' id=some y)(hne:stepR P F hp (.load t x)≠.bad) :
  stepR P F hp' (.load t x)=stepR P F hp (.load t x):=by
 simp only[stepR]at hne ⊢;unfold rLoad at hne ⊢;split
 ·split
  ·rename_i id off hx
   cases hb:blk hp id with
   |none=>exact absurd Ω3 hne
   |some y=>rw[h _ _ (by rw[hx];rfl) hb]
  ·rename_i id k i j hx
   cases hb:blk hp id with
   |none=>exact absurd Ω3 hne
   |some y=>rw[h _ _ (by rw[hx];rfl) hb]
  ·rfl
  ·rfl
 ·split
  ·rename_i id off hx
   cases hb:blk hp id with
   |none=>exact absurd Ω3 hne
   |some y=>rw[h _ _ (by rw[hx];rfl) hb]
  ·rename_i id k i j hx
   cases hb:blk hp id with
   |none=>exact absurd Ω3 hne
   |some y=>rw[h _ _ (by rw[hx];rfl) hb]
  ·rfl
  ·rfl
 ·rfl
theorem gK{P:Program}{hp:List (Nat×Blk)}{x y:Operand}(h:stepR P F hp (.store t x y)=.upd obl j b):qQ (env F x)=some j:=by
 simp only[stepR]at h;unfold rStore at h;(repeat' split at h)<;>first|(cases h;done)|(simp only[Res.upd.injEq]at h;simp_all [qQ])
theorem kR{dst:Nat→Option Tmp}{res:Nat→SV}{F:Nat→SV}{i t:Nat}:∀{n:Nat},i≤n→(∀k,k<n→i≤k→dst k≠some t)→FS dst res (λ_=>true) F n t=FS dst res (λ_=>true) F i t
 |0,hi,_=>by
  simp_all
 |n+1,hi,h=>by
  by_cases e:i=n+1
  ·subst e;rfl
  ·simp only[FS,true_and]
   rw[if_neg (h n Ω Ω)];exact kR Ω λk h1 h2=>h k Ω h2
def TH(k:Nat)(nb:Nat→Option Blk)(up:Nat→Option (Nat×Blk))(hp:List (Nat×Blk)):Nat→List (Nat×Blk)
 |0=>hp
 |i+1=>match up i with
  |some (t,b)=>setBlk (TH k nb up hp i) t b
  |none=>kf (nb i) (k+i) (TH k nb up hp i)
def NH(k:Nat)(nb:Nat→Option Blk)(hp:List (Nat×Blk)):Nat→List (Nat×Blk)
 |0=>hp
 |i+1=>kf (nb i) (k+i) (NH k nb hp i)
def UH(up:Nat→Option (Nat×Blk))(S:Nat→Bool)(H:List (Nat×Blk)):Nat→List (Nat×Blk)
 |0=>H
 |i+1=>if S i=true then(match up i with|some (t,b)=>setBlk (UH up S H i) t b|none=>UH up S H i)else UH up S H i
theorem qht(k:Nat)(nb:Nat→Option Blk)(up:Nat→Option (Nat×Blk))(hp:List (Nat×Blk))(j:Nat) :
  TH (k+1) (λi=>nb (i+1)) (λi=>up (i+1)) (TH k nb up hp 1) j=TH k nb up hp (j+1):=by
 induction j with
 |zero=>rfl
 |succ j ih=>
  have e:k+1+j=k+(j+1):=by omega
  have r1:TH (k+1) (λi=>nb (i+1)) (λi=>up (i+1)) (TH k nb up hp 1) (j+1)=match up (j+1)with
   |some (t,b)=>setBlk (TH (k+1) (λi=>nb (i+1)) (λi=>up (i+1)) (TH k nb up hp 1) j) t b
   |none=>kf (nb (j+1)) (k+1+j) (TH (k+1) (λi=>nb (i+1)) (λi=>up (i+1)) (TH k nb up hp 1) j):=rfl
  rw[r1,ih,e];rfl
theorem vx{up:Nat→Option (Nat×Blk)}{S:Nat→Bool}{H:List (Nat×Blk)}{x:Nat}:∀{m:Nat}{y:Blk},blk (UH up S H m) x=some y→∃z,blk H x=some z
 |0,y,h=>⟨y,h⟩
 |m+1,y,h=>by
  simp only[UH]at h;split at h
  ·split at h
   ·rename_i t b _
    rw[qn]at h;split at h
    ·rename_i e;subst e
     cases hb:blk (UH up S H m) x with
     |none=>rw[hb]at h;cases h
     |some z=>exact vx hb
    ·exact vx h
   ·exact vx h
  ·exact vx h
theorem yM{k:Nat}{nb:Nat→Option Blk}{hp:List (Nat×Blk)}{x:Nat}{y:Blk}:∀{m:Nat},blk (NH k nb hp m) x=some y→blk hp x=some y∨∃j,j<m∧nb j=some y∧x=k+j
 |0,h=>.inl h
 |m+1,h=>by
  simp only[NH]at h;cases hn:nb m with
  |none=>
   rw[hn]at h;rcases yM (m:=m) h with h|⟨j,h1,h2,h3⟩
   ·exact .inl h
   ·grind
  |some b=>
   rw[hn]at h;simp only[kf,blk]at h;split at h
   ·simp_all
   ·rcases yM (m:=m) h with h|⟨j,h1,h2,h3⟩
    ·exact .inl h
    ·grind
theorem Wz{k:Nat}{nb:Nat→Option Blk}{hp:List (Nat×Blk)}(hk:∀id x,blk hp id=some x→id<k){x:Nat}{y:Blk}(h:blk hp x=some y):∀{m:Nat},blk (NH k nb hp m) x=some y
 |0=>h
 |m+1=>by
  simp only[NH];cases hn:nb m with
  |none=>exact Wz hk h
  |some b=>
   simp only[kf,blk];rw[if_neg (by have:=hk _ _ h;omega)];exact Wz hk h
theorem yg{k:Nat}{nb:Nat→Option Blk}{hp:List (Nat×Blk)}{j:Nat}{b:Blk}(h:nb j=some b):∀{m:Nat},j<m→blk (NH k nb hp m) (k+j)=some b
 |0,hj=>by omega
 |m+1,hj=>by
  simp only[NH];by_cases e:j=m
  ·subst e;rw[h];simp[kf,blk]
  ·cases hn:nb m with
   |none=>exact yg h Ω
   |some c=>
    simp only[kf,blk];rw[if_neg Ω];exact yg h Ω
theorem jf{up:Nat→Option (Nat×Blk)}{S:Nat→Bool}{H:List (Nat×Blk)}{x:Nat}:∀{m:Nat},(∀j,j<m→S j=true→∀t b,up j=some (t,b)→t≠x)→blk (UH up S H m) x=blk H x
 |0,_=>rfl
 |m+1,h=>by
  have ih:=jf (up:=up) (S:=S) (H:=H) (x:=x) (m:=m) λj hj=>h j Ω;simp only[UH];split
  ·rename_i hS
   split
   ·rename_i t b hu
    rw[qn,if_neg (λe=>h m Ω hS t b hu e.symm)];exact ih
   ·exact ih
  ·exact ih
theorem vR{up:Nat→Option (Nat×Blk)}{S T:Nat→Bool}{H:List (Nat×Blk)}:∀{m:Nat},(∀j,j<m→up j≠none→S j=T j)→UH up S H m=UH up T H m
 |0,_=>rfl
 |m+1,h=>by
  have ih:=vR (up:=up) (S:=S) (T:=T) (H:=H) (m:=m) λj hj=>h j Ω;simp only[UH];cases hu:up m with
  |none=>simp only[ih,ite_self]
  |some p=>
   simp_all
theorem Zi{up:Nat→Option (Nat×Blk)}{S:Nat→Bool}{H:List (Nat×Blk)}{i:Nat}:∀{m:Nat},i≤m→(∀j,i≤j→j<m→up j≠none→S j=false)→UH up S H m=UH up S H i
 |0,hi,_=>by have:i=0:=by omega
             subst this;rfl
 |m+1,hi,h=>by
  by_cases e:i=m+1
  ·subst e;rfl
  ·have ih:=Zi (up:=up) (S:=S) (H:=H) (i:=i) (m:=m) Ω λj h1 h2=>h j h1 Ω
   simp only[UH];cases hu:up m with
   |none=>simp only[ih,ite_self]
   |some p=>
    grind
theorem Y0{up:Nat→Option (Nat×Blk)}(hi:i≤n)(h:∀j,j<n→up j≠none→(S j=true↔j<i)):UH up S H n=UH up (λ_=>true) H i:=by
 rw[Zi hi λj h1 h2 h3=>by
  cases hS:S j with
  |false=>rfl
  |true=>have:=(h j h2 h3).1 hS;omega]
 exact vR λj hj hu=>(h j Ω hu).2 hj
theorem G1{up:Nat→Option (Nat×Blk)}{S:Nat→Bool}{H:List (Nat×Blk)}{i X:Nat}:∀{n:Nat},i≤n→(∀j,j<n→∀b,up j=some (X,b)→(S j=true↔j<i))→blk (UH up S H n) X=blk (UH up (λ_=>true) H i) X
 |0,hi,h=>by
  have:i=0:=by omega
  subst this;rfl
 |n+1,hi,h=>by
  by_cases e:i=n+1
  ·subst e
   have key:∀m,m≤n+1→blk (UH up S H m) X=blk (UH up (λ_=>true) H m) X:=by
    intro m
    induction m with
    |zero=>intro _;rfl
    |succ m ih=>
     intro hm;have ih:=ih Ω;simp only[UH,if_true];cases hu:up m with
     |none=>simp only[ite_self];exact ih
     |some p=>
      obtain⟨t,b⟩:=p;by_cases et:X=t
      ·subst et
       rw[if_pos ((h m Ω b hu).2 Ω)];simp only[qn,if_true,ih]
      ·split
       ·simp only[qn,if_neg et,ih]
       ·simp only[qn,if_neg et,ih]
   simp_all
  ·have ih:=G1 (up:=up) (S:=S) (H:=H) (i:=i) (X:=X) (n:=n) Ω λj hj=>h j Ω
   simp only[UH];split
   ·rename_i hS
    split
    ·rename_i t b hu
     rw[qn,if_neg ?_]
     ·exact ih
     ·grind
    ·exact ih
   ·exact ih
theorem WA{up:Nat→Option (Nat×Blk)}{S':Nat→Bool}{t:Nat}(hS:∀j,S' j=(S j || decide (j=i)))(hi:i<n)(hu:up i=some (t,b))(h:∀j,j<n→up j≠none→(S j=true↔j<i)) :
  UH up S' H n=setBlk (UH up S H n) t b:=by
 rw[Y0 (i:=i+1) Ω (λj hj hj'=>by
  rw[hS];simp only[xe8,decide_eq_true_eq,h j hj hj'];omega),Y0 (i:=i) Ω h]
 simp only[UH,if_true,hu]
theorem wy{up:Nat→Option (Nat×Blk)}{S':Nat→Bool}(hS:∀j,S' j=(S j || decide (j=i)))(hu:up i=none):UH up S' H n=UH up S H n:=
 vR λj hj hj'=>by
  rw[hS];have:j≠i:=λe=>hj' (e▸hu);simp[this]
inductive Zj(P:Program)(ds:List (Option Tmp))(F:Nat→SV)(hp:List (Nat×Blk))(id:Nat)(o:Oper):SV→Option Blk→Option (Nat×Blk)→Prop
 |skip (hg:kZ ds o.guard F=some false):Zj P ds F hp id o undefSV none none
 |run (sv:SV) (nb:Option Blk) (hg:kZ ds o.guard F=some true) (hc:kK o.op=true) (hr:yc P F hp id o sv nb):Zj P ds F hp id o sv nb none
 |upd (obl:Prop) (t:Nat) (b:Blk) (hg:kZ ds o.guard F=some true) (h:stepR P F hp o.op=.upd obl t b) (ho:obl):Zj P ds F hp id o undefSV none (some (t,b))
theorem G3{P:Program}{O:Ctx}{J:Prop}(hJ:¬J){ds:List (Option Tmp)}{K:St→Prop}:∀(ops:List Oper)(i:Nat)(st:St),(∀o∈ops,(kK o.op || qG o.op)=true)→qL P O J ds ops i st K→
  ∃(res:Nat→SV)(nb:Nat→Option Blk)(up:Nat→Option (Nat×Blk))(st':St),
   (∀j o,ops[j]? = some o→Zj P ds (FS (nth (dsts ops)) res (λ_=>true) (look st.fr) j) (TH (st.nid+i) nb up st.hp j) (st.nid+i+j) o (res j) (nb j) (up j))∧
   look st'.fr=FS (nth (dsts ops)) res (λ_=>true) (look st.fr) ops.length∧st'.hp=TH (st.nid+i) nb up st.hp ops.length∧st'.nid=st.nid∧K st'
 |[],i,st,_,h=>⟨λ_=>.top,λ_=>none,λ_=>none,st,λj o ho=>by simp at ho,rfl,rfl,rfl,h⟩
 |o :: ops,i,st,hall,h=>by
  have go:∀(st2:St)(sv:SV)(b:Option Blk)(u:Option (Nat×Blk)),Zj P ds (look st.fr) st.hp (st.nid+i) o sv b u→st2.nid=st.nid→st2.hp=(match u with|some (t,x)=>setBlk st.hp t x|none=>kf b (st.nid+i) st.hp)→look st2.fr=Kg (look st.fr) o.dst sv→qL P O J ds ops (i+1) st2 K→
    ∃(res:Nat→SV)(nb:Nat→Option Blk)(up:Nat→Option (Nat×Blk))(st':St),
     (∀j o',(o :: ops)[j]? = some o'→Zj P ds (FS (nth (dsts (o :: ops))) res (λ_=>true) (look st.fr) j) (TH (st.nid+i) nb up st.hp j) (st.nid+i+j) o' (res j) (nb j) (up j))∧
     look st'.fr=FS (nth (dsts (o :: ops))) res (λ_=>true) (look st.fr) (o :: ops).length∧st'.hp=TH (st.nid+i) nb up st.hp (o :: ops).length∧st'.nid=st.nid∧K st':=by
   intro st2 sv b u hr h1 h2 h3 h4;obtain⟨res,nb,up,st',ha,hf,hh,hn,hk⟩:=G3 hJ ops (i+1) st2 (λo ho=>hall o (List.mem_cons_of_mem _ ho)) h4
   let res':Nat→SV:=λj=>match j with|0=>sv|j+1=>res j
   let nb':Nat→Option Blk:=λj=>match j with|0=>b|j+1=>nb j
   let up':Nat→Option (Nat×Blk):=λj=>match j with|0=>u|j+1=>up j
   have eF:∀j,FS (nth (dsts ops)) res (λ_=>true) (look st2.fr) j=FS (nth (dsts (o :: ops))) res' (λ_=>true) (look st.fr) (j+1):=λj=>by
    rw[←GU,h3]
    congr 1
    funext t;simp[Kg,nth,dsts,res']
   have e1:TH (st.nid+i) nb' up' st.hp 1=st2.hp:=by rw[h2];rfl
   have eH:∀j,TH (st2.nid+(i+1)) nb up st2.hp j=TH (st.nid+i) nb' up' st.hp (j+1):=λj=>by
    rw[←qht,e1,h1];rfl
   refine⟨res',nb',up',st',λj o' ho=>?_,?_,?_,hn.trans h1,hk⟩
   ·cases j with
    |zero=>simp at ho;subst ho;exact hr
    |succ j=>
     grind
   ·rw[hf,eF];rfl
   ·rw[hh,eH];rfl
  obtain⟨st1,hn,hh,hl,hcase⟩:=vF h;have hst1:st1=⟨st1.fr,st1.hp,st1.nid⟩:=rfl;have ho:=hall o xd5;rcases hcase with⟨hg,hrun⟩|⟨hg,hskip⟩
  ·generalize hres:stepR P (look st1.fr) st1.hp o.op=res at hrun
   rw[hl,hh]at hres;by_cases hu:qG o.op=true
   ·rcases KO (P:=P) (F:=look st.fr) (hp:=st.hp) hu with⟨obl,j,b,e⟩|e
    ·rw[hres]at e
     subst e;exact go _ undefSV none (some (j,b)) (.upd obl j b hg hres hrun.1) Ωy (by rw[zu,hh]) (by rw[jt,hl]) hrun.2
    ·rw[hres]at e
     subst e;exact hrun.elim
   ·have hc:kK o.op=true:=by
     rw[xe8]at ho;exact ho.resolve_right hu
    have hq:=vg (P:=P) (F:=look st.fr) (hp:=st.hp) hc;rw[hres]at hq;cases res with
    |bad=>exact hrun.elim
    |pure obl sv=>exact go _ sv none none (.run _ _ hg hc (.pure obl sv hres hrun.1)) ΩL ΩJ ΩG hrun.2
    |ex obl=>
     obtain⟨sv,ho,hk⟩:=hrun;exact go _ sv none none (.run _ _ hg hc (.ex obl sv hres ho)) ΩL ΩJ ΩG hk
    |new obl b mk=>exact go _ (mk (st.nid+i)) (some b) none (.run _ _ hg hc (.new obl b mk hres hrun.1)) Ωy ΩW ΩP hrun.2
    |upd obl j b=>cases hq
    |updv obl j b sv=>cases hq
    |grow obl j b sv=>cases hq
    |call f args=>
     rcases hrun with⟨res,hcc,hk⟩|⟨pats,b,res,hcc,hs,hk⟩|⟨hj,_⟩
     ·rw[hh]at hcc
      exact go _ res none none (.run _ _ hg hc (.call f args res hres hcc)) ΩL ΩJ ΩG hk
     ·rw[hh]at hs
      exact go _ (setId (st.nid+i) res) (some b) none (.run _ _ hg hc (.callN f args pats b res hres hcc hs)) Ωy ΩW ΩP hk
     ·exact absurd hj hJ
    |yield y args=>exact absurd hrun.1 hJ
    |raw=>exact absurd hrun.1 hJ
  ·exact go _ undefSV none none (.skip hg) ΩL ΩJ ΩG hskip
theorem Zk{P:Program}{ds:List (Option Tmp)}{F:Nat→Nat→SV}{ops:List Oper}{res:Nat→SV}{nb:Nat→Option Blk}{up:Nat→Option (Nat×Blk)}{hp:List (Nat×Blk)}{k:Nat}(hk:∀id x,blk hp id=some x→id<k):∀{i:Nat}{x:Nat}{y:Blk},blk (TH k nb up hp i) x=some y→x<k+i
 |0,x,y,h=>hk x y h
 |i+1,x,y,h=>by
  simp only[TH]at h;split at h
  ·rw[qn]at h
   split at h
   ·rename_i e;subst e
    cases hb:blk (TH k nb up hp i) x with
    |none=>rw[hb]at h;cases h
    |some z=>have:=Zk (P:=P) (ds:=ds) (F:=F) (ops:=ops) (res:=res) hk hb;omega
   ·have:=Zk (P:=P) (ds:=ds) (F:=F) (ops:=ops) (res:=res) hk h;omega
  ·cases hn:nb i with
   |none=>rw[hn]at h;have:=Zk (P:=P) (ds:=ds) (F:=F) (ops:=ops) (res:=res) hk (i:=i) h;omega
   |some b=>
    rw[hn]at h;simp only[kf,blk]at h;split at h
    ·omega
    ·have:=Zk (P:=P) (ds:=ds) (F:=F) (ops:=ops) (res:=res) hk (i:=i) h;omega
theorem G4{P:Program}{hp:List (Nat×Blk)}{id:Nat}{o:Oper}{sv:SV}{nb:Option Blk}{up:Option (Nat×Blk)}(h:Zj P ds F hp id o sv nb up) :
  (up=none∨(nb=none∧qG o.op=true))∧∀t b,up=some (t,b)→∃y,blk hp t=some y:=by
 cases h with
 |skip hg=>exact⟨.inl rfl,λt b h=>by cases h⟩
 |run hg hc hr=>exact⟨.inl rfl,λt b h=>by cases h⟩
 |upd obl t b hg h ho=>exact⟨.inr ⟨rfl,j8 h⟩,λt' b' e=>by cases e;exact Qm h⟩
theorem qhu{P:Program}{ds:List (Option Tmp)}{F:Nat→Nat→SV}{ops:List Oper}{res:Nat→SV}{nb:Nat→Option Blk}{up:Nat→Option (Nat×Blk)}{hp:List (Nat×Blk)}{k:Nat}(hk:∀id x,blk hp id=some x→id<k)
  (h:∀j o,ops[j]? = some o→Zj P ds (F j) (TH k nb up hp j) (k+j) o (res j) (nb j) (up j)):∀{i:Nat},i≤ops.length→∀{x:Nat}{y:Blk},blk (TH k nb up hp i) x=some y→blk (UH up (λ_=>true) (NH k nb hp ops.length) i) x=some y
 |0,hi,x,y,hx=>Wz hk hx
 |i+1,hi,x,y,hx=>by
  have keys:∀{i:Nat}{x:Nat}{y:Blk},blk (TH k nb up hp i) x=some y→x<k+i:=λ{i x y}=>Zk (P:=P) (ds:=ds) (F:=F) (ops:=ops) (res:=res) hk;have ih:=λ{x:Nat}{y:Blk}=>qhu hk h (i:=i) Ω (x:=x) (y:=y);obtain⟨o,ho⟩:∃o,ops[i]? = some o:=⟨ops[i],by simp[show i<ops.length by omega]⟩;obtain⟨h1,h2⟩:=G4 (h i o ho);simp only[TH]at hx;simp only[UH,if_true];cases hu:up i with
  |some p=>
   obtain⟨t,b⟩:=p;rw[hu]at hx;simp only[qn]at hx ⊢;split at hx
   ·grind
   ·simp_all
  |none=>
   rw[hu]at hx;dsimp only at hx ⊢;cases hn:nb i with
   |none=>rw[hn]at hx;exact ih hx
   |some b=>
    rw[hn]at hx;simp only[kf,blk]at hx;split at hx
    ·rename_i e
     subst e;rw[jf λj hj _ t c hjc=>?_,yg hn Ω,hx];obtain⟨oj,hoj⟩:∃oj,ops[j]? = some oj:=⟨ops[j],by simp[show j<ops.length by omega]⟩;obtain⟨z,hz⟩:=(G4 (h j oj hoj)).2 t c hjc
     grind
    ·exact ih hx
end Go.Sx
end
section
namespace Go.Sx
open Go.RowKit
variable{w:World}
section
variable{P:Program}{O:Ctx}{outs:jn}{base:World}{okc:Nat→Prop}{ns:Nat}
def qot(O:Ctx)(outs:jn)(base:World)(okc:Nat→Prop)(ns nid m:Nat)(H:List (Nat×Blk))(up:Nat→Option (Nat×Blk))(dst:Nat→Option Tmp)(res:Nat→SV)(F:Nat→SV)(S:Nat→Bool)(a:Act)(w:World):Prop:=
 (∀j,j<m→S j=true→∀t b,up j=some (t,b)→NS nid m S t)∧
 ∃r,Sat base okc r (NS nid m S) (UH up S H m) w∧(∀t,Rep r (NS nid m S) (Gd base okc r (NS nid m S) (UH up S H m) w) w (FS dst res S F m t) (a.tmps.getD t undef))∧a.tmps.size=ns∧Ext O base okc r (NS nid m S) (UH up S H m) outs a w
theorem qhv{nid m i:Nat}{H:List (Nat×Blk)}{up:Nat→Option (Nat×Blk)}{dst:Nat→Option Tmp}{res F:Nat→SV}{S S':Nat→Bool}{a:Act}{w':World}{r r':Nat→Option Nat}(hS:∀j,S' j=(S j || decide (j=i)))(hi:i<m)
  (hlater:∀t,dst i=some t→∀j,j<m→i<j→dst j=some t→S j=false)
  (hF:∀t,Rep r (NS nid m S) (Gd base okc r (NS nid m S) (UH up S H m) w) w (FS dst res S F m t) (a.tmps.getD t undef)) (hsize:a.tmps.size=ns) (hdef:Ext O base okc r (NS nid m S) (UH up S H m) outs a w) (hlo:O.lo≤nid) (hd:∀t,dst i=some t→t<ns)
  (hu:∀j,j<m→S' j=true→∀t b,up j=some (t,b)→NS nid m S' t)
  (hs:Step base okc r (NS nid m S) (UH up S H m) w r' (NS nid m S') (UH up S' H m) w') {v:Value} (hv:Rep r' (NS nid m S') (Gd base okc r' (NS nid m S') (UH up S' H m) w') w' (res i) v):qot O outs base okc ns nid m H up dst res F S' (a.put (dst i) v) w':=by
 refine⟨hu,r',hs.sat,λt=>?_,by cases dst i<;>simp[Act.put,hsize],hdef.step hs (λi hi=>.inl (xa9 hi hlo)) _ _⟩;rw[Kh hS hi (hlater t),Zf];by_cases e:dst i=some t
 ·simp_all
 ·rw[if_neg e,if_neg (λh=>e h.1)];exact hs.rep (hF t)
theorem Sat.fewer{N:Nat→Prop}{r:Nat→Option Nat}{hp hp':List (Nat×Blk)}(hst:Sat base okc r N hp w)(hback:∀x y,blk hp' x=some y→N x→blk hp x=some y):Step base okc r N hp w r N hp' w:=by
 have hG:∀o c,Gd base okc r N hp w o c→Gd base okc r N hp' w o c∧w.heap[c]? = w.heap[c]?:=
  λo c ⟨h1,h2,h3⟩=>⟨⟨h1,λi y hy hi=>h2 i y (hback i y hy hi) hi,h3⟩,rfl⟩
 exact⟨⟨hst.below,λi y hy hi=>(hst.rep i y (hback i y hy hi) hi).mono (λ_ _=>rfl) (λ_ h=>h) hG (Shapes.refl _) (λ_ _=>rfl),
  λi y b hy hi=>hst.own i y b (hback i y hy hi) hi,λi y i' y' b hy hi hy' hi'=>hst.inj i y i' y' b (hback i y hy hi) hi (hback i' y' hy' hi') hi'⟩,λ_ _=>rfl,λ_ h=>h,hG,Shapes.refl _⟩
theorem qhw{far:List (Nat×Nat)}{ro:Option Nat}{ops:Array Oper}{id:Nat}{Q:Exit→Act→World→Prop}{st:St}{K:St→Prop}{a:Act}(hm:P.follows .mixedOrders=true)(hok:Wx far ops.toList=true)(hd:ops.toList.all (kX ns)=true)
  (h:Inv O base okc ns st.nid outs st a w) (hk:qL P O (zN true ops.toList=true) (dsts ops.toList) ops.toList 0 st λst'=>FarVC far st' (K st'))
  (hK:∀st' a' w',K st'→Inv O base okc ns (st'.nid+ops.toList.length) outs st' a' w'→Q .normal a' w'):(Code.region id ops true).wpIn (FR ro) 0 P Q a w:=by
 obtain⟨r0,h0⟩:=h;generalize hl:ops.toList=l at hok hd hk hK;have hn:ops.size=l.length:=by rw[←hl];simp
 have hget:∀j:Nat,ops[j]? = l[j]?:=λj=>by rw[←hl];simp
 simp only[Wx,xe6,Bool.not_eq_true']at hok;obtain⟨⟨⟨⟨hedge,hapart⟩,hpair⟩,hall⟩,hnoJ⟩:=hok;have hedge:=gm hedge;have hall:∀o∈l,(kK o.op || qG o.op)=true:=List.all_eq_true.1 hall;obtain⟨res,nb,up,st1,hops,hF1,hh1,hn1,hk1⟩:=G3 (by rw[hnoJ];simp) l 0 st hall hk;rw[xb1]at hops hh1;obtain⟨hk1,hfar⟩:=vf hk1;have hdl:(dsts l).length=l.length:=by
  have:∀l:List Oper,(dsts l).length=l.length:=λl=>by induction l<;>simp[dsts, *]
  exact this l
 have hkeys0:=h0.keys;have hsubT:=λ{i:Nat}(hi:i≤l.length){x:Nat}{y:Blk}=>qhu hkeys0 hops (i:=i) hi (x:=x) (y:=y);generalize hH:NH st.nid nb st.hp l.length=H at hsubT;have hHk:∀x y,blk H x=some y→x<st.nid∨∃j,j<l.length∧nb j=some y∧x=st.nid+j:=λx y hxy=>by
  rw[←hH]at hxy;rcases yM hxy with h|h
  ·simp_all
  ·exact .inr h
 have hclosed:∀(S:Nat→Bool)(i:Nat),kL l S→(∃o,l[i]? = some o∧∀e∈o.after,Region.binds .any e=true→S e.on=true)→kL l (λj=>S j || decide (j=i)):=by
  rintro S i hc ⟨o,ho,he⟩ j oj hoj hS e hm' hb;simp only[xe8,decide_eq_true_eq]at hS ⊢;rcases hS with hS|hS
  ·exact .inl (hc j oj hoj hS e hm' hb)
  ·simp_all
 have hready:∀(listed:Array Bool)(i:Nat),listed.size=l.length→i∈Region.ready .any ops listed→i<l.length∧listed.getD i false=false∧∃o,l[i]? = some o∧∀e∈o.after,Region.binds .any e=true→listed.getD e.on false=true:=by
  intro listed i hsz hi;obtain⟨h1,o,h2,h3⟩:=mem_ready.1 hi
  grind
 have hleast:∀(listed:Array Bool),listed.size=l.length→∀i,i<l.length→listed.getD i false=false→∃j,j≤i∧j∈Region.ready .any ops listed:=by
  intro listed hsz i
  induction i using Nat.strongRecOn with
  |_ i ih=>
   intro hi hf;obtain⟨o,ho⟩:∃o,l[i]? = some o:=⟨l[i],by simp[hi]⟩;by_cases hall:∀e∈o.after,Region.binds .any e=true→listed.getD e.on false=true
   ·refine⟨i,xa5 _,mem_ready.2 ⟨?_,o,by rw[hget];exact ho,hall⟩⟩
    simp_all
   ·grind
 have hdst:∀i o,l[i]? = some o→nth (dsts l) i=o.dst:=λi o ho=>by rw[zk,ho];rfl
 have hdin:∀i t,nth (dsts l) i=some t→t<ns:=λi t ht=>by
  rw[zk]at ht;cases ho:l[i]? with
  |none=>simp[ho]at ht
  |some o=>
   simp only[ho,Option.bind_some]at ht;have:=List.all_eq_true.1 hd o (List.mem_of_getElem? ho);simpa[kX,ht]using this
 have hupd:∀j,j<l.length→up j≠none→∃oj,l[j]? = some oj∧qG oj.op=true:=λj hj hu=>by
  obtain⟨oj,hoj⟩:∃oj,l[j]? = some oj:=⟨l[j],by simp[hj]⟩;exact⟨oj,hoj,((G4 (hops j oj hoj)).1.resolve_left hu).2⟩
 have walk:∀(fuel:Nat)(listed:Array Bool)(a:Act)(w:World),listed.size=l.length→kL l (λi=>listed.getD i false)→cnt (λi=>listed.getD i false) l.length=fuel→
   qot O outs base okc ns st.nid l.length H up (nth (dsts l)) res (look st.fr) (λi=>listed.getD i false) a w→wpAnyIn (FR ro) 0 P .any ops Q fuel listed a w:=by
  intro fuel
  induction fuel with
  |zero=>
   intro listed a w hsz hcl hcnt hmid;have hall:=vP hcnt;obtain⟨_,r,hsat,hrep,hsize,hdef⟩:=hmid;refine⟨?_,hK st1 a w hk1 ?_⟩
   ·cases hr:Region.ready .any ops listed with
    |nil=>rfl
    |cons x xs=>
     have:=hready listed x hsz ΩV
     grind
   ·have e1:NS st.nid l.length (λi=>listed.getD i false)=(· < st.nid+l.length):=by
     funext x;simp only[NS,eq_iff_iff];constructor
     ·omega
     ·intro h
      by_cases hx:x<st.nid
      ·exact .inl hx
      ·exact .inr ⟨x - st.nid,Ω,hall _ Ω,Ω⟩
    have e2:UH up (λi=>listed.getD i false) H l.length=UH up (λ_=>true) H l.length:=vR λj hj _=>hall j hj;rw[e1,e2]at hsat hrep hdef;have hs2:=hsat.fewer (hp':=st1.hp) λx y hy _=>by rw[hh1]at hy;exact hsubT (xa5 _) hy
    have hdef2:=hdef.step0 hs2 (λi hi=>xa9 hi (xc1 h0.lo Ω));rw[hn1];refine⟨r,hs2.sat,λx y hy=>?_,λt=>?_,hsize,xc1 h0.lo Ω,hdef2.out,hdef2.rfix,hdef2.defers⟩
    ·rw[hh1]at hy
     obtain⟨z,hz⟩:=vx (hsubT (xa5 _) hy)
     grind
    ·have:=hs2.rep (hrep t)
     rw[hF1];have e2:FS (nth (dsts l)) res (λi=>listed.getD i false) (look st.fr) l.length t=FS (nth (dsts l)) res (λ_=>true) (look st.fr) l.length t:=
      vw (xa5 _) λj hj _=>by simp only[hj,iff_true];exact hall j hj
     simp_all
  |succ fuel ih=>
   intro listed a w hsz hcl hcnt hmid;obtain⟨x,hx⟩:∃x,x<l.length∧listed.getD x false=false:=by
    refine xf9 λhno=>?_;have hall:∀i,i<l.length→listed.getD i false=true:=λi hi=>by
     cases hv:listed.getD i false with
     |true=>rfl
     |false=>exact(hno ⟨i,hi,hv⟩).elim
    have hc:=Zg (S:=λi=>listed.getD i false) hall (λj hj=>by simp only[xf5];rw[Array.getElem?_eq_none Ω];rfl) (xa5 l.length);omega
   refine⟨λh=>?_,λi hi=>?_⟩
   ·grind
   ·obtain⟨hil,hif,o,ho,hie⟩:=hready listed i hsz hi
    have hcl':=hclosed _ i hcl ⟨o,ho,hie⟩;have hlook:∀t,t∈seen (dsts l) o→FS (nth (dsts l)) res (λi=>listed.getD i false) (look st.fr) l.length t=FS (nth (dsts l)) res (λ_=>true) (look st.fr) i t:=by
     intro t ht;refine vw Ω λj hj hdj=>?_;obtain⟨oj,hoj⟩:∃oj,l[j]? = some oj:=⟨l[j],by simp[show j<l.length by omega]⟩;constructor
     ·intro hS
      refine xf9 λhge=>?_;by_cases e:j=i
      ·subst e
       rw[hif]at hS;cases hS
      ·rcases qX hapart ho hoj Ω with hb|⟨_,hb⟩
       ·have:=qt hcl hb hS
        rw[hif]at this;cases this
       ·exact hb t hdj ht
     ·intro hlt
      rcases qX hapart hoj ho hlt with hb|⟨hb,_⟩
      ·have:=qt hcl' hb Ωj
       simp only[xe8,decide_eq_true_eq]at this;exact this.resolve_right Ω
      ·exact(hb t hdj ht).elim
    have hchg:qG o.op=true→∀j,j<l.length→up j≠none→(listed.getD j false=true↔j<i):=by
     intro hro j hj hu;obtain⟨oj,hoj,huj⟩:=hupd j hj hu;constructor
     ·intro hS
      refine xf9 λhge=>?_;by_cases e:j=i
      ·subst e;rw[hif]at hS;cases hS
      ·rcases zh hpair ho hoj Ω with hb|⟨hb1,hb2,_⟩|⟨_,_,_,_,_,e1,_⟩
       ·have:=qt hcl hb hS
        rw[hif]at this;cases this
       ·exact hb1 ⟨hro,huj⟩
       ·rw[e1]at hro;cases hro
     ·intro hlt
      rcases zh hpair hoj ho hlt with hb|⟨hb1,_,hb3⟩|⟨_,_,_,_,_,e1,_⟩
      ·have:=qt hcl' hb Ωj
       simp only[xe8,decide_eq_true_eq]at this;exact this.resolve_right Ω
      ·exact(hb1 ⟨huj,hro⟩).elim
      ·rw[e1]at huj;cases huj
    have hchg1:gD o.op=true→∀X,(∀ty a,o.op=.load ty (.tmp a)→qQ (FS (nth (dsts l)) res (λ_=>true) (look st.fr) i a)=some X)→∀j,j<l.length→∀b,up j=some (X,b)→(listed.getD j false=true↔j<i):=by
     intro hro X hX j hj b hu;obtain⟨oj,hoj,huj⟩:=hupd j hj (by rw[hu];simp);constructor
     ·intro hS
      refine xf9 λhge=>?_;by_cases e:j=i
      ·subst e;rw[hif]at hS;cases hS
      ·rcases zh hpair ho hoj Ω with hb|⟨hb1,hb2,_⟩|⟨t,a,t',c,y,e1,e2,hmem,hn1,hn2⟩
       ·have:=qt hcl hb hS
        rw[hif]at this;cases this
       ·exact hb2 ⟨hro,huj⟩
       ·have h1:=hX t a e1
        have h2:qQ (FS (nth (dsts l)) res (λ_=>true) (look st.fr) j c)=some X:=by
         have hat:=hops j oj hoj;rw[hu]at hat;generalize res j=svj at hat;generalize nb j=nbj at hat;cases hat with
         |upd obl t b hg hst hobl=>
          rw[e2]at hst;exact gK hst
        have h3:=hfar a c hmem;rw[hF1,kR (i:=i) Ω (λk hk hik=>qz hn1 Ω hik),kR (i:=j) (t:=c) Ω (λk hk hik=>qz hn2 Ω hik)]at h3;unfold vO at h3;rw[h1,h2]at h3;exact h3 rfl
     ·intro hlt
      rcases zh hpair hoj ho hlt with hb|⟨hb1,_,hb3⟩|⟨_,_,_,_,_,e1,_⟩
      ·have:=qt hcl' hb Ωj
       simp only[xe8,decide_eq_true_eq]at this;exact this.resolve_right Ω
      ·exact(hb3 ⟨huj,hro⟩).elim
      ·rw[e1]at huj;cases huj
    have hmemU:qG o.op=true→∀id x,blk (TH st.nid nb up st.hp i) id=some x→blk (UH up (λi=>listed.getD i false) H l.length) id=some x:=by
     intro hro id x hx;rw[Y0 (i:=i) Ω (hchg hro)];exact hsubT Ω hx
    have hmem1:gD o.op=true→∀X x,(∀ty a,o.op=.load ty (.tmp a)→qQ (FS (nth (dsts l)) res (λ_=>true) (look st.fr) i a)=some X)→blk (TH st.nid nb up st.hp i) X=some x→blk (UH up (λi=>listed.getD i false) H l.length) X=some x:=by
     intro hro X x hX hx;rw[G1 (i:=i) Ω (hchg1 hro X hX)];exact hsubT Ω hx
    have hat:=hops i o ho;obtain⟨hupN,r,hsat,hrep,hsize,hdef⟩:=hmid;have hdsti:=hdst i o ho;have hS:∀x,(listed.setIfInBounds i true).getD x false=(listed.getD x false || decide (x=i)):=λx=>vQ Ω;have hNS:∀x,NS st.nid l.length (λi=>listed.getD i false) x→NS st.nid l.length (λx=>(listed.setIfInBounds i true).getD x false) x:=λx hx=>by
     rw[←gO hS hil];exact .inl hx
    have hfresh:¬NS st.nid l.length (λi=>listed.getD i false) (st.nid+i):=by
     rintro(h|⟨j,h1,h2,h3⟩)
     ·omega
     ·have:j=i:=by omega
      subst this;dsimp only at h2;rw[hif]at h2;cases h2
    have hlater:∀t,nth (dsts l) i=some t→∀j,j<l.length→i<j→nth (dsts l) j=some t→listed.getD j false=false:=by
     intro t hdi j hj hij hdj;obtain⟨oj,hoj⟩:∃oj,l[j]? = some oj:=⟨l[j],by simp[show j<l.length by omega]⟩;cases hv:listed.getD j false with
     |false=>rfl
     |true=>
      rcases qX hapart ho hoj hij with hb|⟨_,hb⟩
      ·have:=qt hcl hb hv
       rw[hif]at this;cases this
      ·refine(hb t hdj ?_).elim
       simp only[seen,xd4];rw[hdsti]at hdi;simp[hdi]
    have next:∀(v:Value)(r':Nat→Option Nat)(w':World),(∀t b,up i=some (t,b)→NS st.nid l.length (λi=>listed.getD i false) t)→
      Step base okc r (NS st.nid l.length λi=>listed.getD i false) (UH up (λi=>listed.getD i false) H l.length) w r' (NS st.nid l.length λx=>(listed.setIfInBounds i true).getD x false) (UH up (λx=>(listed.setIfInBounds i true).getD x false) H l.length) w'→
      Rep r' (NS st.nid l.length λx=>(listed.setIfInBounds i true).getD x false) (Gd base okc r' (NS st.nid l.length λx=>(listed.setIfInBounds i true).getD x false) (UH up (λx=>(listed.setIfInBounds i true).getD x false) H l.length) w') w' (res i) v→
      wpAnyIn (FR ro) 0 P .any ops Q fuel (listed.setIfInBounds i true) (a.put o.dst v) w':=by
     intro v r' w' hui hs hv;refine ih _ _ _ Ω7 ?_ ?_ ?_
     ·have:(λx=>(listed.setIfInBounds i true).getD x false)=λx=>listed.getD x false || decide (x=i):=funext hS
      rw[this];exact hcl'
     ·have:=(je (S:=λi=>listed.getD i false) (S':=λx=>(listed.setIfInBounds i true).getD x false) hS hif (n:=l.length)).2 hil
      omega
     ·rw[←hdsti]
      refine qhv hS hil hlater hrep hsize hdef h0.lo (hdin i) (λj hj hSj t b hu=>?_) hs hv;rw[hS]at hSj;simp only[xe8,decide_eq_true_eq]at hSj;rcases hSj with hSj|rfl
      ·exact hNS _ (hupN j hj hSj t b hu)
      ·exact hNS _ (hui t b hu)
    have hsame:up i=none→UH up (λx=>(listed.setIfInBounds i true).getD x false) H l.length=UH up (λi=>listed.getD i false) H l.length:=λhu=>wy hS hu;have hnokey:nb i=none→∀x y (S:Nat→Bool),blk (UH up S H l.length) x=some y→NS st.nid l.length (λx=>(listed.setIfInBounds i true).getD x false) x→NS st.nid l.length (λi=>listed.getD i false) x:=by
     intro hnb x y S hy hx;rw[←gO hS hil]at hx;rcases hx with hx|hx
     ·exact hx
     ·subst hx
      obtain⟨z,hz⟩:=vx hy;rcases hHk _ _ hz with h|⟨j,_,hj,e⟩
      ·omega
      ·have:j=i:=by omega
       subst this;rw[hnb]at hj;cases hj
    have hmore:nb i=none→up i=none→Step base okc r (NS st.nid l.length λi=>listed.getD i false) (UH up (λi=>listed.getD i false) H l.length) w r (NS st.nid l.length λx=>(listed.setIfInBounds i true).getD x false) (UH up (λx=>(listed.setIfInBounds i true).getD x false) H l.length) w:=by
     intro hnb hu;rw[hsame hu];exact hsat.more hNS λx y hy hx=>hnokey hnb x y _ hy hx
    have hguard:∀b,kZ (dsts l) o.guard (FS (nth (dsts l)) res (λ_=>true) (look st.fr) i)=some b→Region.wanted o (yielded ops a.tmps)=b:=by
     intro b hg;cases hog:o.guard with
     |none=>rw[hog]at hg;simp only[kZ,Option.some.injEq]at hg;subst hg;simp[Region.wanted,hog]
     |some gw=>
      obtain⟨j,want⟩:=gw;rw[hog]at hg;simp only[kZ]at hg;cases ht:nth (dsts l) j with
      |none=>simp[ht]at hg
      |some t=>
       have hy:=wv ops a j t (by rw[hl];exact ht);have htn:t∈seen (dsts l) o:=by simp[seen,qdB,hog,ht]
       have hrt:=hrep t;rw[hlook t htn]at hrt;simp only[ht]at hg;cases hv:FS (nth (dsts l)) res (λ_=>true) (look st.fr) i t with
       |val u=>
        rw[hv]at hg hrt;have hu:a.tmps.getD t undef=u:=by generalize a.tmps.getD t undef=z at hrt;cases hrt;rfl
        simp only[xf5]at hu;cases u with
        |bool c=>
         have:yielded ops a.tmps j=some c:=by
          rw[hy];cases hz:a.tmps[t]? with
          |none=>rw[hz]at hu;simp[undef]at hu
          |some z=>rw[hz]at hu;simp at hu;rw[hu]
         simp only[Option.some.injEq]at hg;subst hg;simp only[Region.wanted,hog,this];cases c<;>cases want<;>rfl
        |tuple vs=>
         have:yielded ops a.tmps j=none:=by
          rw[hy];cases hz:a.tmps[t]? with
          |none=>rfl
          |some z=>rw[hz]at hu;simp at hu;rw[hu]
         simp only[Option.some.injEq]at hg;subst hg;simp[Region.wanted,hog,this]
        |_=>simp at hg
       |_=>rw[hv]at hg;simp at hg
    have henv:∀x,x∈o.op.operands→Rep r (NS st.nid l.length λi=>listed.getD i false) (Gd base okc r (NS st.nid l.length λi=>listed.getD i false) (UH up (λi=>listed.getD i false) H l.length) w) w (env (FS (nth (dsts l)) res (λ_=>true) (look st.fr) i) x) (a.eval x):=λx hx=>Gc x λt ht=>by
     subst ht;rw[←hlook t (by
      simp only[seen,xd4];exact .inl (List.mem_filterMap.2 ⟨.tmp t,ΩM,rfl⟩))]
     exact hrep t
    unfold wpOpIn;simp only[hget,ho];generalize hsv:res i=sv at hat;generalize hnbi:nb i=nbi at hat;generalize hupi:up i=upi at hat;cases hat with
    |skip hg=>
     rw[if_neg (by rw[hguard _ hg];simp)];exact⟨λ_ _=>trivial,next undef r w (λt b hu=>by rw[hupi]at hu;cases hu) (hmore hnbi hupi) (by rw[hsv];exact .val _)⟩
    |upd obl t b hg hst hobl=>
     rw[if_pos (hguard _ hg)];have hu:=j8 hst;have hnd:∀c,o.op≠.defer c:=λc e=>by rw[e]at hu;cases hu
     have hst':stepR P (FS (nth (dsts l)) res (λ_=>true) (look st.fr) i) (UH up (λi=>listed.getD i false) H l.length) o.op=.upd obl t b:=by
      rw[ye hu (hmemU hu) ΩE,hst]
     refine kY hnd (jb hsat (fr:=FS (nth (dsts l)) res (λ_=>true) (look st.fr) i) (id:=st.nid+i) (hp':=UH up (λi=>listed.getD i false) H l.length) henv ?_);rw[hst'];refine⟨hobl,λw' hs=>?_⟩;have hui:∀t' b',up i=some (t',b')→NS st.nid l.length (λi=>listed.getD i false) t':=λt' b' e=>by
      rw[hupi]at e;cases e;exact qnM hst' henv
     refine next undef r w' hui ?_ (by rw[hsv];exact .val _);rw[WA hS hil hupi (hchg hu)];refine hs.trans (hs.sat.more hNS λx y hy hx=>?_);rw[←WA hS hil hupi (hchg hu)]at hy;exact hnokey hnbi x y _ hy hx
    |run sv nbi hg hca hrun=>
     rw[if_pos (hguard _ hg)];have hnd:∀c,o.op≠.defer c:=λc e=>by rw[e]at hca;cases hca
     have hui:∀t b,up i=some (t,b)→NS st.nid l.length (λi=>listed.getD i false) t:=λt b hu=>by rw[hupi]at hu;cases hu
     have hstep:stepR P (FS (nth (dsts l)) res (λ_=>true) (look st.fr) i) (TH st.nid nb up st.hp i) o.op≠.bad→
       stepR P (FS (nth (dsts l)) res (λ_=>true) (look st.fr) i) (UH up (λi=>listed.getD i false) H l.length) o.op=stepR P (FS (nth (dsts l)) res (λ_=>true) (look st.fr) i) (TH st.nid nb up st.hp i) o.op:=λhne=>by
      cases hr:gD o.op with
      |true=>
       by_cases hld:∃ty x,o.op=.load ty x
       ·obtain⟨ty,x,e⟩:=hld
        rw[e]at hne ⊢;refine vh (λid y hid hy=>hmem1 hr id y (λty' a e'=>?_) hy) hne;rw[e]at e';cases e';exact hid
       ·exact gN hca (λid y hy=>hmem1 hr id y (λty a e=>(hld ⟨ty,_,e⟩).elim) hy) hne
      |false=>exact yf _ hca hr
     have hnew:∀b,nb i=some b→blk (UH up (λi=>listed.getD i false) H l.length) (st.nid+i)=some b:=λb hb=>by
      rw[jf (x:=st.nid+i) (λj hj hSj t c hjc (e:t=st.nid+i)=>hfresh ΩY),←hH];exact yg hb hil
     refine kY hnd (jb hsat (fr:=FS (nth (dsts l)) res (λ_=>true) (look st.fr) i) (id:=st.nid+i) (hp':=UH up (λi=>listed.getD i false) H l.length) henv ?_);cases hrun with
     |pure obl _ hst hobl=>
      rw[hstep ΩE,hst];refine⟨hobl,λv hv=>next v r w hui (hmore hnbi hupi) ?_⟩;rw[hsv];exact(hmore hnbi hupi).rep hv
     |ex obl _ hst hobl=>
      rw[hstep ΩE,hst];refine⟨sv,hobl,λv hv=>next v r w hui (hmore hnbi hupi) ?_⟩;rw[hsv];exact(hmore hnbi hupi).rep hv
     |new obl b mk hst hobl=>
      rw[hstep ΩE,hst];refine⟨hobl,hfresh,hnew b hnbi,λ_ _=>rfl,λv w' r' hs hv=>?_⟩;rw[gO hS hil]at hs hv;refine next v r' w' hui (by rw[hsame hupi];exact hs) ?_;rw[hsv,hsame hupi];exact hv
     |call f args _ hst hc=>
      have hr:gD o.op=true:=by
       obtain⟨x,xs,ts,first,caps,e,_⟩:=zT hst;rw[e];rfl
      have hm':∀id y,blk (TH st.nid nb up st.hp i) id=some y→blk (UH up (λi=>listed.getD i false) H l.length) id=some y:=λid y hy=>hmem1 hr id y (λty a e=>by
       obtain⟨x,xs,ts,first,caps,e',_⟩:=zT hst;rw[e']at e;cases e) hy
      rw[hstep ΩE,hst];refine .inl ⟨sv,hc.mono hm',λv w' hst' hv=>?_⟩;have hgrow:=hst'.sat.more hNS λx y hy hx=>hnokey hnbi x y _ hy hx;refine next v r w' hui ?_ ?_
      ·rw[hsame hupi];exact hst'.trans hgrow
      ·rw[hsame hupi,hsv];exact hgrow.rep hv
     |callN f args pats b res' hst hc hs=>
      have hr:gD o.op=true:=by
       obtain⟨x,xs,ts,first,caps,e,_⟩:=zT hst;rw[e];rfl
      have hm':∀id y,blk (TH st.nid nb up st.hp i) id=some y→blk (UH up (λi=>listed.getD i false) H l.length) id=some y:=λid y hy=>hmem1 hr id y (λty a e=>by
       obtain⟨x,xs,ts,first,caps,e',_⟩:=zT hst;rw[e']at e;cases e) hy
      rw[hstep ΩE,hst];refine .inr ⟨pats,b,res',hc,hs.mono hm',hfresh,_,hnew b hnbi,λ_ _=>rfl,λv w' r' hs hv=>?_⟩;rw[gO hS hil]at hs hv;refine next v r' w' hui (by rw[hsame hupi];exact hs) ?_;rw[hsv,hsame hupi];exact hv
 refine wpIn_region_any hm ?_;rw[hn];have hrep0:∀i,(Array.replicate l.length false).getD i false=false:=λi=>by simp only[xf5,Array.getElem?_replicate];split<;>rfl
 refine walk l.length (Array.replicate l.length false) a _ Ωj ?_ ?_ ?_
 ·intro j o ho hS;simp only[hrep0]at hS;cases hS
 ·have key:∀n,cnt (λi=>(Array.replicate l.length false).getD i false) n=n:=by
   intro n
   induction n with
   |zero=>rfl
   |succ n ihn=>
    simp only[cnt,ihn]
    simp_all
  exact key _
 ·have hN:NS st.nid l.length (λi=>(Array.replicate l.length false).getD i false)=(· < st.nid):=by
   funext x;simp only[NS,eq_iff_iff];constructor
   ·simp_all
   ·exact .inl
  have hU:UH up (λi=>(Array.replicate l.length false).getD i false) H l.length=H:=by
   rw[Zi (i:=0) (xb6 _) λj _ _ _=>hrep0 j];rfl
  have hdrew:Below w.heap.size w { w with drawn:=w.drawn+1 }:=⟨rfl,rfl,rfl,xa5 _,λ_ _=>rfl⟩;have hst:=h0.sat.grow hdrew;unfold qot;rw[hN,hU];have hs2:=hst.sat.fewer (hp':=H) λx y hy hx=>by
   rw[←hH]at hy;rcases yM hy with h|⟨j,_,_,e⟩
   ·exact h
   ·omega
  refine⟨λj _ hS=>absurd hS (by dsimp only;rw[hrep0];simp),r0,hs2.sat,λt=>?_,h0.size,((Ext.mk h0.out h0.rfix h0.defers).step0 hst (λi hi=>xa9 hi h0.lo)).step0 hs2 (λi hi=>xa9 hi h0.lo)⟩;have e:FS (nth (dsts l)) res (λi=>(Array.replicate l.length false).getD i false) (look st.fr) l.length t=look st.fr t:=by
   have:=vw (dst:=nth (dsts l)) (res:=res) (S:=λi=>(Array.replicate l.length false).getD i false) (F:=look st.fr) (i:=0) (t:=t) (xb6 l.length) (λj hj _=>by rw[hrep0];simp);exact this
  rw[e];exact hs2.rep (hst.rep (h0.fr t))
end
end Go.Sx
end
section
namespace Go.Sx
open Go.RowKit
variable{c:Code}{a:Act}{w:World}{x:Obj}{ds:Option (List Deferred)}{v:Value}{r:Nat→Option Nat}{N:Nat→Prop}{G G':Bool→Nat→Prop}{vs:Array Value}{args:List SV}
inductive Ex:Type
 |normal
 |exit (id:Nat)
 |ret
def WB:Ex→Exit
 |.normal=>.normal
 |.exit id=>.exit id
 |.ret=>.ret
def Weak(O:Ctx)(st st':St):Prop:=∀(base:World)(okc:Nat→Prop)(ns:Nat)(outs:jn)(a:Act)(w:World),Inv O base okc ns st.nid outs st a w→Inv O base okc ns st'.nid outs st' a w
def KP(K:Ex→St→Prop)(n:St→Prop):Ex→St→Prop
 |.normal,st=>n st
 |.exit id,st=>K (.exit id) st
 |.ret,st=>K .ret st
def QE(id:Nat)(K:Ex→St→Prop):Ex→St→Prop
 |.normal,st=>K .normal st
 |.exit i,st=>if i=id then K .normal st else K (.exit i) st
 |.ret,st=>K .ret st
def qce(O:Ctx)(body:St→(Ex→St→Prop)→Prop)(st:St)(K:Ex→St→Prop):Prop:=
 ∃(α:Type)(inv:α→St)(μ:α→Nat)(x0:α),Weak O st (inv x0)∧∀x,body (inv x) (KP K λst'=>∃y,μ y<μ x∧Weak O st' (inv y))
def qJ(far:Nat→List (Nat×Nat))(ns:Nat):Code→Bool
 |.skip=>true
 |.label _=>true
 |.seq a b=>qJ far ns a&&qJ far ns b
 |.cond _ t e=>qJ far ns t&&qJ far ns e
 |.block _ c=>qJ far ns c
 |.exit _=>true
 |.ret=>true
 |.region id ops d=>ops.toList.all (kX ns)&&(!d || Wv ops.toList || Wx (far id) ops.toList || kD (far id))
 |.loop c=>qJ far ns c
 |.scope c=>qJ far ns c
 |.rangeFunc _ ps a b=>qJ far ns a&&qJ far ns b&&ps.toList.all (λt=>decide (t<ns))
 |_=>false
abbrev QG(ns:Nat)(c:Code):Bool:=qJ jc ns c
def yh(P:Program)(O:Ctx)(c:Code)(st:St)(K:Ex→St→Prop):Prop:=
 ∀(base:World)(okc:Nat→Prop)(ns:Nat)(outs:jn)(a:Act)(w:World)(ro:Option Nat)(Q:Exit→Act→World→Prop),O.rnd=ro.isSome→qJ O.far ns c=true→Inv O base okc ns st.nid outs st a w→(∀e st' a' w',K e st'→Inv O base okc ns st'.nid outs st' a' w'→Q (WB e) a' w')→c.wpIn (FR ro) 0 P Q a w
def G5(P:Program)(v:SV)(A B:Prop):Prop:=
 match v with
 |.val (.bool b)=>kC b A B
 |_=>False
def vc(P:Program)(O:Ctx):Code→St→(Ex→St→Prop)→Prop
 |.skip,st,K=>K .normal st
 |.label _,st,K=>K .normal st
 |.seq a b,st,K=>vc P O a st (KP K λst'=>vc P O b st' K)
 |.cond c t e,st,K=>G5 P (env (look st.fr) c) (vc P O t st K) (vc P O e st K)
 |.block id c,st,K=>vc P O c st (QE id K)
 |.exit id,st,K=>K (.exit id) st
 |.ret,st,K=>K .ret st
 |.region id ops d,st,K=>if kD (O.far id)=true then yh P O (.region id ops d) st K else qL P O (zN d ops.toList=true) (dsts ops.toList) ops.toList 0 st (λst'=>FarVC (O.far id) st' (K .normal { st' with nid:=st'.nid+ops.toList.length }))
 |.loop c,st,K=>qce O (vc P O c) st K∨yh P O (.loop c) st K
 |.scope c,st,K=>vc P O c st K
 |.rangeFunc a b c d,st,K=>yh P O (.rangeFunc a b c d) st K
 |_,_,_=>False
theorem Y1{P:Program}{ro:Option Nat}{α:Type}{Q:Exit→Act→World→Prop}(I:α→Act→World→Prop)(μ:α→Nat)(round:∀x a w,I x a w→c.wpIn (FR ro) 0 P (Exit.then (λa' w'=>∃y,μ y<μ x∧I y a' w') Q) a w)
  {x0:α} {a:Act} {w:World} (h0:I x0 a w):(Code.loop c).wpIn (FR ro) 0 P Q a w:=by
 intro b k cs hro hb hr;have key:∀n x a w,μ x=n→I x a w→∃e a' w',Q e a' w'∧ArrivesIn (Machine.fenced P (FR ro)) P (lone (b.atR a (.code c :: .inLoop c :: k)) cs w) b k cs e a' w':=by
  intro n
  induction n using Nat.strongRecOn with
  |_ n ih=>
   intro x a w hn hI;obtain⟨e,a₁,w₁,hq,harr⟩:=round x a w hI b (.inLoop c :: k) cs hro hb hr;cases e with
   |normal=>
    obtain⟨y,hlt,hy⟩:=hq;obtain⟨e₂,a₂,w₂,hq₂,harr₂⟩:=ih (μ y) (hn▸hlt) y a₁ w₁ rfl hy;exact⟨e₂,a₂,w₂,hq₂,.of_steps (StepsIn.trans harr (.one (fenced_calm hb hr rfl) stepR_inLoop)) harr₂⟩
   |exit id=>exact⟨_,a₁,w₁,hq,.pass (x:=.inLoop c) rfl (λ_ _=>.inl Ωj) harr⟩
   |goto l=>exact⟨_,a₁,w₁,hq,.pass (x:=.inLoop c) rfl (λ_ _=>.inl Ωj) harr⟩
   |ret=>exact⟨_,a₁,w₁,hq,.pass (x:=.inLoop c) rfl (λ_ _=>.inl Ωj) harr⟩
   |panic ch=>exact⟨_,a₁,w₁,hq,.pass (x:=.inLoop c) rfl (λ_ _=>.inl Ωj) harr⟩
   |outgrown=>exact⟨_,a₁,w₁,hq,.pass (x:=.inLoop c) rfl (λ_ _=>.inl Ωj) harr⟩
 obtain⟨e,a',w',hq,harr⟩:=key _ x0 a w rfl h0;exact⟨e,a',w',hq,.of_steps (.one (fenced_calm hb hr rfl) stepR_loop) harr⟩
theorem Y2{P:Program}{b:Frame}{k:List Item}{cs:List Frame}:step P (lone (b.atR a (.code (.scope c) :: k)) cs w)=.next (lone (b.atR a (.code c :: .inScope c :: k)) cs w):=
 step_lone_go (by simp[stepG,stepG.exec,Frame.atR])
theorem Vd{P:Program}{b:Frame}{k:List Item}{cs:List Frame}:step P (lone (b.atR a (.inScope c :: k)) cs w)=.next (lone (b.atR a k) cs w):=
 step_lone_go (by simp[stepG,stepG.exec,Frame.atR])
theorem Qh{P:Program}{ro:Option Nat}{Q:Exit→Act→World→Prop}(h:c.wpIn (FR ro) 0 P (Exit.noGoto Q) a w):(Code.scope c).wpIn (FR ro) 0 P Q a w:=by
 intro b k cs hro hb hr;have s1:=(StepsIn.one (I:=Machine.fenced P (FR ro)) (fenced_calm (fr:=b.atR a (.code (.scope c) :: k)) hb hr rfl) (Y2 (P:=P) (b:=b) (a:=a) (k:=k) (cs:=cs) (w:=w) (c:=c)));obtain⟨e,a₁,w₁,hq,harr⟩:=h b (.inScope c :: k) cs hro hb hr;cases e with
 |normal=>exact⟨.normal,a₁,w₁,hq,StepsIn.trans s1 (StepsIn.trans harr (.one (fenced_calm hb hr rfl) Vd))⟩
 |exit id=>exact⟨.exit id,a₁,w₁,hq,λk' hk=>s1.trans (harr.1 k' (by simp[exitTo,hk])),λh1 h2=>let ⟨k1,h3,h4⟩:=harr.2 h1 (by simp[exitTo,h2]);⟨k1,h3,s1.trans h4⟩⟩
 |goto l=>exact hq.elim
 |ret=>exact⟨_,a₁,w₁,hq,.of_steps s1 harr⟩
 |panic ch=>exact⟨_,a₁,w₁,hq,.of_steps s1 harr⟩
 |outgrown=>exact⟨_,a₁,w₁,hq,.of_steps (b:=b) (k:=k) (cs:=cs) (e:=.outgrown) s1 harr⟩
section
variable{P:Program}{O:Ctx}{base:World}{okc:Nat→Prop}{ns:Nat}{outs:jn}
theorem Inv.nid{k:Nat}{st:St}(h:Inv O base okc ns k outs st a w)(n:Nat):Inv O base okc ns k outs { st with nid:=n } a w:=by
 obtain⟨r,h⟩:=h;exact⟨r,h.nid n⟩
theorem Qn(hm:P.follows .mixedOrders=true){ro:Option Nat}(hro:O.rnd=ro.isSome):∀(c:Code)(st:St)(K:Ex→St→Prop)(Q:Exit→Act→World→Prop)(a:Act)(w:World),qJ O.far ns c=true→vc P O c st K→Inv O base okc ns st.nid outs st a w→
  (∀e st' a' w',K e st'→Inv O base okc ns st'.nid outs st' a' w'→Q (WB e) a' w')→c.wpIn (FR ro) 0 P Q a w
 |.skip,st,K,Q,a,w,_,h,hi,hK=>wpIn_skip (hK .normal st a w h hi)
 |.label l,st,K,Q,a,w,_,h,hi,hK=>wpIn_label (hK .normal st a w h hi)
 |.ret,st,K,Q,a,w,_,h,hi,hK=>wpIn_ret (hK .ret st a w h hi)
 |.exit id,st,K,Q,a,w,_,h,hi,hK=>wpIn_exit (hK (.exit id) st a w h hi)
 |.seq x y,st,K,Q,a,w,hc,h,hi,hK=>by
  simp only[qJ,xe6]at hc;refine wpIn_seq (Qn hm hro x st _ _ a w hc.1 h hi λe st' a' w' hk hi'=>?_);cases e with
  |normal=>exact Qn hm hro y st' K Q a' w' hc.2 hk hi' hK
  |exit id=>exact hK (.exit id) st' a' w' hk hi'
  |ret=>exact hK .ret st' a' w' hk hi'
 |.cond c t e,st,K,Q,a,w,hc,h,hi,hK=>by
  simp only[qJ,xe6]at hc;obtain⟨r,hr⟩:=hi;have he:=hr.env c;simp only[vc,G5]at h;split at h
  ·rename_i b hb
   rw[hb]at he;have:a.eval c=.bool b:=by generalize a.eval c=z at he;cases he;rfl
   exact wpIn_cond_split this (λht=>Qn hm hro t st K Q a w hc.1 (h.1 ht) ⟨r,hr⟩ hK) (λhf=>Qn hm hro e st K Q a w hc.2 (h.2 hf) ⟨r,hr⟩ hK)
  ·exact h.elim
 |.block id c,st,K,Q,a,w,hc,h,hi,hK=>by
  refine wpIn_block (Qn hm hro c st _ _ a w hc h hi λe st' a' w' hk hi'=>?_);cases e with
  |normal=>exact hK .normal st' a' w' hk hi'
  |exit i=>
   simp only[QE]at hk;simp only[WB,Exit.inBlock];split at hk
   ·rename_i e;rw[if_pos e];exact hK .normal st' a' w' hk hi'
   ·rename_i e;rw[if_neg e];exact hK (.exit i) st' a' w' hk hi'
  |ret=>exact hK .ret st' a' w' hk hi'
 |.scope c,st,K,Q,a,w,hc,h,hi,hK=>by
  refine Qh (Qn hm hro c st K _ a w hc h hi λe st' a' w' hk hi'=>?_);cases e with
  |normal=>exact hK .normal st' a' w' hk hi'
  |exit i=>exact hK (.exit i) st' a' w' hk hi'
  |ret=>exact hK .ret st' a' w' hk hi'
 |.region id ops false,st,K,Q,a,w,hc,h,hi,hK=>by
  simp only[vc]at h;split at h
  ·exact h base okc ns outs a w ro Q hro hc hi hK
  simp only[qJ,xe6]at hc;obtain⟨r,hr⟩:=hi;refine wpIn_region_list (qcb ops.toList 0 st _ r a w (by simpa using hr) hc.1 h λst' a' w' hk hi'=>?_);refine hK .normal _ a' w' (vf hk).1 ?_;rw[xb0]at hi';exact hi'.nid _
 |.region id ops true,st,K,Q,a,w,hc,h,hi,hK=>by
  simp only[vc]at h;split at h
  ·exact h base okc ns outs a w ro Q hro hc hi hK
  rename_i hnh;simp only[qJ,xe6,Bool.not_true,xf4,xe8]at hc
  replace hc:=An hc.1 (hc.2.resolve_right hnh)
  have fin:∀(st':St)(a':Act)(w':World),K .normal { st' with nid:=st'.nid+ops.toList.length }→Inv O base okc ns (st'.nid+ops.toList.length) outs st' a' w'→Q .normal a' w':=λst' a' w' hk hi'=>hK .normal _ a' w' hk (hi'.nid _);by_cases h1:Wv ops.toList=true
  ·exact qlN hm h1 hc.1 hi h λst' a' w' hk hi'=>fin st' a' w' (vf hk).1 hi'
  ·exact qhw hm (hc.2.resolve_left h1) hc.1 hi h fin
 |.loop c,st,K,Q,a,w,hc,h,hi,hK=>by
  rcases h with h|h
  rotate_left
  ·exact h base okc ns outs a w ro Q hro hc hi hK
  obtain⟨α,inv,μ,x0,hw,hround⟩:=h;refine Y1 (λx a w=>Inv O base okc ns (inv x).nid outs (inv x) a w) μ (λx a w hx=>?_) (x0:=x0) (hw _ _ _ _ _ _ hi);refine Qn hm hro c (inv x) _ _ a w hc (hround x) hx λe st' a' w' hk hi'=>?_;cases e with
  |normal=>
   obtain⟨y,hy,hwy⟩:=hk;exact⟨y,hy,hwy _ _ _ _ _ _ hi'⟩
  |exit i=>exact hK (.exit i) st' a' w' hk hi'
  |ret=>exact hK .ret st' a' w' hk hi'
 |.rangeFunc _ _ _ _,st,K,Q,a,w,hc,h,hi,hK=>h base okc ns outs a w ro Q hro hc hi hK
 |.goto _,st,K,Q,a,w,_,h,hi,hK=>h.elim
 |.refuse _,st,K,Q,a,w,_,h,hi,hK=>h.elim
theorem gn{D b:Nat}(h:b≠D):(w.putObj D x).heap[b]? = w.heap[b]?:=World.putObj_heap_other h
theorem KQ{D b o:Nat}(hD:w.heap[D]? = some (.deferred ds))(h:w.cell? ⟨b,o,none⟩=some v):(w.putObj D x).cell? ⟨b,o,none⟩=some v:=by
 by_cases e:b=D
 ·subst e;simp[World.cell?,hD]at h
 ·rw[vD (gn e)];exact h
theorem Rep.putD{D:Nat}(hD:w.heap[D]? = some (.deferred ds))(hG:∀o b,G o b→G' o b){sv:SV}(h:Rep r N G w sv v):Rep r N G' (w.putObj D x) sv v:=by
 induction h with
 |top v=>exact .top v
 |val v=>exact .val v
 |agg l cs hl _ ih=>exact .agg l cs hl ih
 |tup l cs hl _ ih=>exact .tup l cs hl ih
 |fn f l m cs ds hl hm _ _ ih ih'=>exact .fn f l m cs ds hl hm ih ih'
 |ptr id off b h1 h2=>exact .ptr id off b h1 h2
 |elt id k i j b h1 h2=>exact .elt id k i j b h1 h2
 |ref o n row b off f hg hc _ ih=>exact .ref o n row b off f (hG _ _ hg) (λj hj=>KQ hD (hc j hj)) ih
 |arrNil o full k row a cap hf=>exact .arrNil o full k row a cap hf
 |arr o full n k row b off cap f hg hf hcap hc _ ih=>exact .arr o full n k row b off cap f (hG _ _ hg) hf hcap (λi j hi hj=>KQ hD (hc i j hi hj)) ih
 |vecNil id k h1 h2=>exact .vecNil id k h1 h2
 |vec id n k b cap cs t h1 h2 hb hsz hcap hm=>exact .vec id n k b cap cs t h1 h2 ((gn (λe=>by subst e;rw[hD]at hb;cases hb)).trans hb) hsz hcap hm
 |mp id b h1 h2=>exact .mp id b h1 h2
 |asl id off n k b cap h1 h2 hcap=>exact .asl id off n k b cap h1 h2 hcap
 |queNil id off k a h1=>exact .queNil id off k a h1
 |que id off n k b cap cs t h1 h2 hb hsz hcap hm=>exact .que id off n k b cap cs t h1 h2 ((gn (λe=>by subst e;rw[hD]at hb;cases hb)).trans hb) hsz hcap hm
 |cutNil id k h1 h2=>exact .cutNil id k h1 h2
 |cut id n k b h1 h2=>exact .cut id n k b h1 h2
 |cmp o fit dom get b es clock hg hb hm _ ih=>exact .cmp o fit dom get b es clock (hG _ _ hg) ((gn (λe=>by subst e;rw[hD]at hb;cases hb)).trans hb) hm ih
 |yld id b h1 h2=>exact .yld id b h1 h2
theorem BlkRep.putD{D:Nat}(hD:w.heap[D]? = some (.deferred ds))(hG:∀o b,G o b→G' o b){ob:Option Nat}{b:Blk}(h:BlkRep r N G w ob b):BlkRep r N G' (w.putObj D x) ob b:=by
 have hne:∀{c:Nat}{y:Obj},w.heap[c]? = some y→(∀ds,y≠.deferred ds)→(w.putObj D x).heap[c]? = some y:=λ{c y} hc hy=>(gn (λe=>by subst e;rw[hD]at hc;cases hc;exact hy _ rfl)).trans hc;cases h with
 |cells t l b cs hb' hl h=>exact .cells t l b cs (hne hb' Ωj) hl λi sv hi=>(h i sv hi).putD hD hG
 |none t k row=>exact .none t k row
 |rows t k n row b cs hb' hl h=>exact .rows t k n row b cs (hne hb' Ωj) hl λi j hi hj=>(h i j hi hj).putD hD hG
 |map fit dom get b es clock hb' hm ht h=>exact .map fit dom get b es clock (hne hb' Ωj) hm ht λe he=>(h e he).putD hD hG
 |mapS fit dom get stamp b es clock hb' hm ht hst h=>exact .mapS fit dom get stamp b es clock (hne hb' Ωj) hm ht hst λe he=>(h e he).putD hD hG
 |iter mid since seen last b m h1 h2 hb'=>exact .iter mid since seen last b m h1 h2 (hne hb' Ωj)
 |loop L s b hb'=>exact .loop L s b (hne hb' Ωj)
theorem Sat.putD{hp:List (Nat×Blk)}(h:Sat base okc r N hp w){D:Nat}(hD:w.heap[D]? = some (.deferred ds))(hG:Gd base okc r N hp w true D):Sat base okc r N hp (w.putObj D x):=by
 have hg:∀o b,Gd base okc r N hp w o b→Gd base okc r N hp (w.putObj D x) o b:=λo b ⟨h1,h2,h3⟩=>⟨by rw[World.putObj_size];exact h1,h2,h3⟩;refine⟨h.below.trans ⟨rfl,rfl,rfl,by rw[World.putObj_size];exact xa5 _,λk hk=>gn λe=>?_⟩,λid y hy hN=>(h.rep id y hy hN).putD hD hg,h.own,h.inj⟩;have:=hG.2.2
 grind
def Kj(w:World):List Nat→World
 |[]=>w
 |D :: Ds=>Kj (w.putObj D (.deferred none)) Ds
theorem G6{F:Fence}{fn:Func}{tmps:Array Value}{R:Ending→World→Prop}:∀(Ds:List Nat)(w:World),Ds.Nodup→(∀D∈Ds,w.heap[D]? = some (.deferred (some [])))→
  (∃v,(results fn tmps).run P (Kj w Ds)=.ok v (Kj w Ds)∧R (.returned v) (Kj w Ds))→LeavesInM F 0 P fn tmps R (Ds.map QC) .returning w
 |[],w,_,_,h=>h
 |D :: Ds,w,hn,hd,h=>by
  refine⟨Ωj,.inl ⟨D,_,rfl,run_takeDeferred (hd D Ωj),?_⟩⟩;refine G6 Ds _ (List.nodup_cons.1 hn).2 (λD' hD'=>?_) h;rw[World.putObj_heap_other (λe=>by subst e;exact(List.nodup_cons.1 hn).1 hD')]
  simp_all
theorem qhx{D D':Nat}(h:QC D=QC D'):D=D':=by
 unfold QC at h
 simp_all
theorem VH{r:Nat→Option Nat}{k:Nat}{st:St}:∀(Ds rest:List Nat)(a:Act)(w:World),InvR O base okc ns k r outs st a w→a.defers=Ds.map QC→(Ds++rest).Nodup→(outs.as.map (·.defers)).flatten=rest.map QC→
  (∀D∈Ds++rest,Gd base okc r (· < k) st.hp w true D∧w.heap[D]? = some (.deferred (some [])))→InvR O base okc ns k r outs st { a with defers:=[] } (Kj w Ds)
 |[],rest,a,w,h,hd,hn,ho,hG=>by
  have:({ a with defers:=[] }:Act)=a:=by cases a;simp at hd;subst hd;rfl
  rw[this];exact h
 |D :: Ds,rest,a,w,h,hd,hn,ho,hG=>by
  simp only[List.cons_append,List.nodup_cons]at hn;obtain⟨g1,g2⟩:=hG D Ωj;have hg:∀o b,Gd base okc r (· < k) st.hp w o b→Gd base okc r (· < k) st.hp (w.putObj D (.deferred none)) o b:=λo b ⟨h1,h2,h3⟩=>⟨by rw[World.putObj_size];exact h1,h2,h3⟩;have hrest:∀D'∈Ds++rest,Gd base okc r (· < k) st.hp (w.putObj D (.deferred none)) true D'∧(w.putObj D (.deferred none)).heap[D']? = some (.deferred (some [])):=λD' hD'=>by
   obtain⟨h1,h2⟩:=hG D' (by simp at hD' ⊢;exact .inr hD');refine⟨hg _ _ h1,(World.putObj_heap_other λe=>?_).trans h2⟩
   simp_all
  refine VH Ds rest { a with defers:=Ds.map QC } (w.putObj D (.deferred none)) ⟨h.sat.putD g2 g1,h.keys,λi=>(h.fr i).putD g2 hg,h.size,h.lo,h.out.mono (xa5 _) λn hn sv v hv=>hv.putD g2 hg,h.rfix,⟨Ds++rest,?_,hn.2,hrest⟩⟩ rfl hn.2 ho hrest;simp[GP,ho]
theorem Y3{k:Nat}{st:St}(h:InvR O base okc ns k r outs st a w) :
  ∃Ds,a.defers=Ds.map QC∧Ds.Nodup∧(∀D∈Ds,w.heap[D]? = some (.deferred (some [])))∧InvR O base okc ns k r outs st { a with defers:=[] } (Kj w Ds):=by
 obtain⟨Ds,h1,h2,h3⟩:=h.defers;unfold GP at h1;obtain⟨l1,l2,rfl,e1,e2⟩:=List.append_eq_map_iff.1 h1;exact⟨l1,e1.symm,(List.nodup_append.1 h2).1,λD hD=>(h3 D (by simp[hD])).2,VH l1 l2 a w h e1.symm h2 e2.symm h3⟩
mutual
def Old:SV→Prop
 |.top=>True
 |.val _=>True
 |.agg l=>OldL l
 |.tup l=>OldL l
 |.fn _ a b=>OldL a∧OldL b
 |.ref o n row=>o=false∧∀j,j<n→Old (row j)
 |.arr o _ n k row=>o=false∧∀i j,i<n→j<k→Old (row i j)
 |.cmp o _ dom get=>o=false∧∀key,dom key=true→Old (get key)
 |_=>False
def OldL:List SV→Prop
 |[]=>True
 |a :: l=>Old a∧OldL l
end
theorem jg:∀{l:List SV},OldL l→∀(i:Nat)(a:SV),l[i]? = some a→Old a
 |[],_,i,a,h=>by simp at h
 |b :: l,hf,i,a,h=>by
  simp only[OldL]at hf;cases i with
  |zero=>simp at h;subst h;exact hf.1
  |succ i=>exact jg hf.2 i a Ω0
theorem qlO(hG:∀b,G false b→G' false b){p:SV}(h:Rep noR noN G w p v)(hf:Old p):Rep r N G' w p v:=by
 induction h with
 |top v=>exact .top v
 |val v=>exact .val v
 |agg l cs hl _ ih=>exact .agg l cs hl λi sv hi=>ih i sv hi (jg (by simpa only[Old]using hf) i sv hi)
 |tup l cs hl _ ih=>exact .tup l cs hl λi sv hi=>ih i sv hi (jg (by simpa only[Old]using hf) i sv hi)
 |fn f l m cs ds hl hm _ _ ih ih'=>
  simp only[Old]at hf;exact .fn f l m cs ds hl hm (λi sv hi=>ih i sv hi (jg hf.1 i sv hi)) (λi sv hi=>ih' i sv hi (jg hf.2 i sv hi))
 |ref o n row b off f hg hc _ ih=>
  simp only[Old]at hf;obtain⟨rfl,hf⟩:=hf;exact .ref _ _ _ _ _ f (hG _ hg) hc λj hj=>ih j hj (hf j hj)
 |arrNil o full k row a cap hfc=>exact .arrNil _ _ _ _ _ _ hfc
 |arr o full n k row b off cap f hg hfc hcap hc _ ih=>
  simp only[Old]at hf;obtain⟨rfl,hf⟩:=hf;exact .arr _ _ _ _ _ _ _ _ f (hG _ hg) hfc hcap hc λi j hi hj=>ih i j hi hj (hf i j hi hj)
 |cmp o fit dom get b es clock hg hb hm _ ih=>
  simp only[Old]at hf;obtain⟨rfl,hf⟩:=hf;exact .cmp _ _ _ _ b es clock (hG _ hg) hb hm λe he=>ih e he (hf _ (hm.doms e he))
 |cutNil id k hN=>exact hN.elim
 |cut id n k b hN=>exact hN.elim
 |ptr id off b hN=>exact hN.elim
 |elt id k i j b hN=>exact hN.elim
 |vecNil id k hN=>exact hN.elim
 |vec id n k b cap cs t hN=>exact hN.elim
 |mp id b hN=>exact hN.elim
 |asl id off n k b cap hN=>exact hN.elim
 |queNil id off k a hN=>exact hN.elim
 |que id off n k b cap cs t hN=>exact hN.elim
 |yld id b hN=>exact hN.elim
def argFr:Nat→List SV→List (Nat×SV)
 |_,[]=>[]
 |i,a :: l=>(i,a) :: argFr (i+1) l
theorem G7(l:List SV)(i t:Nat):look (argFr i l) t=if t<i then .top else l.getD (t - i) .top:=by
 induction l generalizing i with
 |nil=>simp[argFr,look]
 |cons a l ih=>
  simp only[argFr,look,ih];by_cases h:t=i
  ·subst h;simp
  ·grind
def resultVC(P:Program)(rv:ResultVar)(st:St)(K:SV→Prop):Prop:=
 match rv with
 |.tmp t=>K (look st.fr t)
 |.cell t ty=>match rLoad (qk P ty) st.hp (look st.fr t)with
  |.pure obl sv=>obl∧K sv
  |.ex obl=>∃sv,obl sv∧K sv
  |_=>False
def resultsVC(P:Program):List ResultVar→St→(List SV→Prop)→Prop
 |[],st,K=>K []
 |rv :: l,st,K=>resultVC P rv st λs=>resultsVC P l st λm=>K (s :: m)
def retVC(P:Program)(rs:List ResultVar)(st:St)(res:SV):Prop:=
 resultsVC P rs st λm=>match m with
  |[s]=>Sub st.hp res s
  |m=>Sub st.hp res (.tup m)
def yN(tmps:Array Value):ResultVar→Sem Value
 |.tmp t=>pure (tmps.getD t undef)
 |.cell a t=>do loadVar t (←asAddr (tmps.getD a undef))
def VI:List Value→Value
 |[v]=>v
 |l=>.tuple l.toArray
theorem Y4(fn:Func)(tmps:Array Value)(w:World)(vs:List Value)(h:(fn.results.toList.mapM (yN tmps)).run P w=.ok vs w) :
  (results fn tmps).run P w=.ok (VI vs) w:=by
 have e:results fn tmps=(do let vs ←fn.results.mapM (yN tmps);pure (if h:vs.size=1 then vs[0]else .tuple vs)):=by
  unfold results
  congr 1
 rw[e,Array.mapM_eq_mapM_toList];simp only[Sem.run_bind,Sem.run_map,h,Result.andThen_ok,Sem.run_pure]
 match vs with
 |[]=>rfl
 |[v]=>rfl
 |v :: u :: l=>simp[VI]
theorem Qo{t:TypeId}{u:Value}(h:(Instr.loadAt t v).run P w=.ok u w):(do loadVar t (←asAddr v)).run P w=.ok u w:=by
 cases v with
 |pointer a=>
  cases a with
  |none=>simp[Instr.loadAt,Instr.sureAddr]at h
  |some a=>exact h
 |_=>simp[Instr.loadAt,Instr.sureAddr]at h
theorem G8{st:St}{a:Act}{w:World}{r:Nat→Option Nat}{k:Nat}(hi:InvR O base okc ns k r outs st a w):∀(rs:List ResultVar)(K:List SV→Prop),resultsVC P rs st K→
  ∃m vs,K m∧(rs.mapM (yN a.tmps)).run P w=.ok vs w∧m.length=vs.length∧∀i sv,m[i]? = some sv→Rep r (· < k) (Gd base okc r (· < k) st.hp w) w sv (vs.getD i undef)
 |[],K,h=>⟨[],[],h,rfl,rfl,λi sv hi=>by simp at hi⟩
 |rv :: rs,K,h=>by
  have one:∃s v,resultsVC P rs st (λm=>K (s :: m))∧(yN a.tmps rv).run P w=.ok v w∧Rep r (· < k) (Gd base okc r (· < k) st.hp w) w s v:=by
   cases rv with
   |tmp t=>exact⟨_,_,h,rfl,hi.fr t⟩
   |cell t ty=>
    have hg:=run_load (P:=P) (t:=ty) hi.sat.ok (hi.fr t);simp only[resultsVC,resultVC]at h;generalize rLoad (qk P ty) st.hp (look st.fr t)=res at h hg;cases res with
    |pure obl sv=>
     obtain⟨v,hv,hrep⟩:=hg h.1;exact⟨sv,v,h.2,Qo hv,hrep⟩
    |ex obl=>
     obtain⟨sv,ho,h⟩:=h;obtain⟨v,hv,hrep⟩:=hg sv ho;exact⟨sv,v,h,Qo hv,hrep⟩
    |_=>exact h.elim
  obtain⟨s,v,hk,hv,hrep⟩:=one;obtain⟨m,vs,hK,hrun,hlen,hreps⟩:=G8 hi rs _ hk;refine⟨s :: m,v :: vs,hK,?_,by simp[hlen],λi sv hi=>?_⟩
  ·simp_all
  ·grind
theorem gT(hm:P.follows .mixedOrders=true){f:FuncId}{fn:Func}(hf:P.funcs[f]? = some fn)(hb:fn.body=some c)(hok:qJ O.far fn.ntmps c=true)(hO:O.rnd=false){st0:St}{Post:St→List SV→Prop}{R:Ending→World→Prop}
  (h0:Inv O base okc fn.ntmps st0.nid outs st0 { tmps:=vs++Array.replicate (fn.ntmps - vs.size) undef,defers:=[] } w)
  (h:vc P O c st0 (λe st=>match e with|.exit _=>False|_=>resultsVC P fn.results.toList st (Post st)))
  (hR:∀(st:St)(r:Nat→Option Nat)(a:Act)(w':World)(m:List SV)(us:List Value),Post st m→InvR O base okc fn.ntmps st.nid r outs st a w'→m.length=us.length→
   (∀i sv,m[i]? = some sv→Rep r (· < st.nid) (Gd base okc r (· < st.nid) st.hp w') w' sv (us.getD i undef))→R (.returned (VI us)) w'):Calls P f vs w R:=by
 refine(callsIn_wide (n:=0)).1 (callsIn_of_wp_marks (F:=FR none) hf hb trivial ?_);refine Qn hm (ro:=none) (by rw[hO];rfl) c st0 _ _ _ _ hok h h0 λe st' a' w' hk hi=>?_;have fin:resultsVC P fn.results.toList st' (Post st')→LeavesInM (FR none) 0 P fn a'.tmps R a'.defers .returning w':=by
  intro hr;obtain⟨r,hi⟩:=hi;obtain⟨Ds,hd,hnd,hDs,hi2⟩:=Y3 hi;rw[hd];obtain⟨m,us,hK,hrun,hlen,hreps⟩:=G8 hi2 _ _ hr;exact G6 Ds w' hnd hDs ⟨_,Y4 fn a'.tmps _ us hrun,hR _ _ _ _ m us hK hi2 hlen hreps⟩
 cases e with
 |normal=>exact fin hk
 |exit i=>exact hk.elim
 |ret=>exact fin hk
theorem Zl{n:Nat}(hl:args.length=vs.size)(hn:vs.size≤n)(ha:∀i sv,args[i]? = some sv→Rep r N G w sv (vs.getD i undef))(i:Nat) :
  Rep r N G w (look (argFr 0 args) i) ((vs++Array.replicate (n - vs.size) undef).getD i undef):=by
 rw[G7];simp only[Nat.not_lt_zero,if_false,Nat.sub_zero];by_cases hlt:i<args.length
 ·have hi:args[i]? = some (args.getD i .top):=by simp[hlt]
  have e:(vs++Array.replicate (n - vs.size) undef).getD i undef=vs.getD i undef:=by
   simp only[xf5]
   grind
  grind
 ·have:args.getD i .top=.top:=by simp only[xc6];rw[List.getElem?_eq_none Ω];rfl
  rw[this];exact .top _
def oneSV:List SV→SV
 |[s]=>s
 |m=>.tup m
theorem vS{m:List SV}{us:List Value}(hl:m.length=us.length)(h:∀i sv,m[i]? = some sv→Rep r N G w sv (us.getD i undef)):Rep r N G w (oneSV m) (VI us):=by
 match m,us,hl,h with
 |[s],[u],_,h=>simpa[oneSV,VI]using h 0 s rfl
 |[],[],_,_=>exact .tup _ _ rfl λi sv hi=>by simp at hi
 |s1 :: s2 :: m,u1 :: u2 :: us,hl,h=>exact .tup _ _ ΩX λi sv hi=>by simpa using h i sv hi
theorem G9(rs:List ResultVar)(st:St)(res:SV):retVC P rs st res=resultsVC P rs st (λm=>Sub st.hp res (oneSV m)):=by
 unfold retVC;have:(λ(m:List SV)=>match m with|[s]=>Sub st.hp res s|m=>Sub st.hp res (.tup m))=λm=>Sub st.hp res (oneSV m):=by
  funext m;match m with
  |[]=>rfl
  |[s]=>rfl
  |a :: b :: m=>rfl
 rw[←this]
abbrev C0F(far:Nat→List (Nat×Nat)):Ctx:=⟨[],0,false,far⟩
theorem qqc{far:Nat→List (Nat×Nat)}{okc:Nat→Prop}{n:Nat}(hl:args.length=vs.size)(hn:args.length≤n)(hold:OldL args)(ha:∀i sv,args[i]? = some sv→Rep noR noN (λ_ b=>okc b∧b<w.heap.size) w sv (vs.getD i undef)) :
  Inv (C0F far) w okc n 0 ⟨[],noR⟩ { fr:=argFr 0 args,hp:=[],nid:=0 } { tmps:=vs++Array.replicate (n - vs.size) undef,defers:=[] } w:=by
 refine⟨noR,⟨Below.refl _ _,λid x hx=>by simp[blk]at hx,λid x b hx=>by simp[blk]at hx,λid x id' x' b hx=>by simp[blk]at hx⟩,λid x hx=>by simp[blk]at hx,
  Zl hl Ω λi sv hi=>?_,Ωu,xa5 _,trivial,λid hid=>absurd hid (Nat.not_lt_zero _),⟨[],rfl,List.nodup_nil,λD hD=>by simp at hD⟩⟩
 refine qlO (λb hb=>⟨hb.2,λid x hx=>by simp[blk]at hx,?_⟩) (ha i sv hi) (jg hold i sv hi)
 simp_all
theorem gp (far : Nat → List (Nat × Nat)) {f : FuncId} {fn : Func} {c : Code} (hf : P.funcs[f]? = some fn) (hb : fn.body = some c) (hname : (fn.name == "runtime.NumGoroutine") = false) (hm : P.follows .mixedOrders = true)
  (hok:qJ far fn.ntmps c=true) (args:List SV) (res:SV) (hlen:args.length≤fn.ntmps) (hold:OldL args)
  (h:vc P ⟨[],0,false,far⟩ c { fr:=argFr 0 args,hp:=[],nid:=0 } (λe st=>match e with|.exit _=>False|_=>retVC P fn.results.toList st res)):qb P f args res:=by
 refine⟨⟨fn,hf,hname,by rw[hb];rfl⟩,λokc w vs hl ha=>gT hm hf hb hok (O:=C0F far) (st0:=⟨argFr 0 args,[],0⟩) rfl (Post:=λst m=>Sub st.hp res (oneSV m)) (qqc hl hlen hold ha) ?_ λst r a w' m us hP hi hml hreps=>?_⟩
 ·have e:(λ(e:Ex)(st:St)=>match e with|.exit _=>False|_=>retVC P fn.results.toList st res)=λe st=>match e with|.exit _=>False|_=>resultsVC P fn.results.toList st (λm=>Sub st.hp res (oneSV m)):=by
   funext e st;cases e<;>first|rfl|exact G9 _ _ _
  simp_all
 ·refine⟨_,rfl,hi.sat.below,zx (λo o' b ho hg=>⟨hg.1,by
   have:=hg.2.2;cases o<;>cases o'<;>simp_all⟩) (λid x hx hN=>⟨hi.sat.rep id x hx hN,λb hb o=>⟨hi.sat.lt hx hN hb,by
   have:=hi.sat.own id x b hx hN hb;cases o<;>simp[this]⟩⟩) res _ _ hP (vS hml hreps)⟩
theorem qc {f : FuncId} {fn : Func} {c : Code} (hf : P.funcs[f]? = some fn) (hb : fn.body = some c) (hname : (fn.name == "runtime.NumGoroutine") = false) (hm : P.follows .mixedOrders = true)
  (hok:QG fn.ntmps c=true) (args:List SV) (res:SV) (hlen:args.length≤fn.ntmps) (hold:OldL args)
  (h:vc P ⟨[],0,false,jc⟩ c { fr:=argFr 0 args,hp:=[],nid:=0 } (λe st=>match e with|.exit _=>False|_=>retVC P fn.results.toList st res)):qb P f args res:=
 gp jc hf hb hname hm hok args res hlen hold h
end
end Go.Sx
end
section
namespace Go.Sx
open Go.RowKit
mutual
def SubO(hp:List (Nat×Blk))(j:Nat):SV→SV→Prop
 |.agg l,s=>match s with|.agg m=>SubOL hp j l m|_=>False
 |.tup l,s=>match s with|.tup m=>SubOL hp j l m|_=>False
 |.ptr i off,s=>match s with|.ptr id2 off2=>i=0∧id2=j∧off=off2|_=>False
 |.vec i n k,s=>match s with|.vec id2 n2 k2=>i=0∧id2=j∧n=n2∧k=k2|_=>False
 |.mp i,s=>match s with|.mp id2=>i=0∧id2=j|_=>False
 |.fn _ _ _,_=>False
 |.elt _ _ _ _,_=>False
 |.asl _ _ _ _,_=>False
 |.que _ _ _ _,_=>False
 |.cut _ _ _,_=>False
 |.yld _,_=>False
 |.top,s=>Sub (dropBlk hp j) .top s
 |.val v,s=>Sub (dropBlk hp j) (.val v) s
 |.ref o n row,s=>Sub (dropBlk hp j) (.ref o n row) s
 |.arr o full n k row,s=>Sub (dropBlk hp j) (.arr o full n k row) s
 |.cmp o fit dom get,s=>Sub (dropBlk hp j) (.cmp o fit dom get) s
def SubOL(hp:List (Nat×Blk))(j:Nat):List SV→List SV→Prop
 |[],m=>m=[]
 |a :: l,m=>match m with|b :: m=>SubO hp j a b∧SubOL hp j l m|[]=>False
end
def SubB(hp:List (Nat×Blk)):Blk→Blk→Prop
 |.cells t l,.cells t2 l2=>t=t2∧SubL hp l l2
 |.rows t k n row,.rows t2 k2 n2 row2=>t=t2∧k=k2∧n≤n2∧∀i j,i<n→j<k→Sub hp (row i j) (row2 i j)
 |.map fit dom get,.map fit2 dom2 get2=>fit=fit2∧dom=dom2∧∀key,dom key=true→Sub hp (get key) (get2 key)
 |.map fit dom get,.mapS fit2 dom2 get2 _ _=>fit=fit2∧dom=dom2∧∀key,dom key=true→Sub hp (get key) (get2 key)
 |_,_=>False
def KR(hp:List (Nat×Blk))(b:Blk)(res:SV)(s:SV):Prop:=
 ∃j b',blk hp j=some b'∧SubB (dropBlk hp j) b b'∧SubO hp j res s
def retNVC(P:Program)(rs:List ResultVar)(st:St)(b:Blk)(res:SV):Prop:=
 resultsVC P rs st λm=>match m with
  |[s]=>KR st.hp b res s
  |m=>KR st.hp b res (.tup m)
section
variable{r:Nat→Option Nat}{N:Nat→Prop}{G G':Bool→Nat→Prop}{w:World}{hp:List (Nat×Blk)}{j:Nat}
mutual
theorem Y5(hG:∀o o' b,(o=true→o'=true)→G o' b→G' o b)(hB:∀id x,blk (dropBlk hp j) id=some x→N id→BlkRep r N G w (r id) x∧∀b,r id=some b→∀o,G' o b) :
  ∀(p s:SV)(v:Value),SubO hp j p s→Rep r N G w s v→Rep (Qy (r j)) Wr G' w p v
 |.agg l,s,v,h,hv=>by
  cases s<;>simp only[SubO]at h
  cases hv with
  |agg m cs hl hr=>
   obtain⟨h1,h2⟩:=subO_repL hG hB l _ cs h hl hr;exact .agg _ _ h1 h2
 |.tup l,s,v,h,hv=>by
  cases s<;>simp only[SubO]at h
  cases hv with
  |tup m cs hl hr=>
   obtain⟨h1,h2⟩:=subO_repL hG hB l _ cs h hl hr;exact .tup _ _ h1 h2
 |.ptr i off,s,v,h,hv=>by
  cases s<;>simp only[SubO]at h
  obtain⟨rfl,rfl,rfl⟩:=h;cases hv with
  |ptr _ _ b hN hr=>exact .ptr _ _ b rfl (by simp[Qy,hr])
 |.vec i n k,s,v,h,hv=>by
  cases s<;>simp only[SubO]at h
  obtain⟨rfl,rfl,rfl,rfl⟩:=h;cases hv with
  |vecNil _ _ hN hr=>exact .vecNil _ _ rfl (by simp[Qy,hr])
  |vec _ _ _ b cap cs t hN hr hb hs hcap hm=>exact .vec _ _ _ b cap cs t rfl (by simp[Qy,hr]) hb hs hcap hm
 |.mp i,s,v,h,hv=>by
  cases s<;>simp only[SubO]at h
  obtain⟨rfl,rfl⟩:=h;cases hv with
  |mp _ b hN hr=>exact .mp _ b rfl (by simp[Qy,hr])
 |.fn _ _ _,s,v,h,hv=>by simp[SubO]at h
 |.elt _ _ _ _,s,v,h,hv=>by simp[SubO]at h
 |.asl _ _ _ _,s,v,h,hv=>by simp[SubO]at h
 |.que _ _ _ _,s,v,h,hv=>by simp[SubO]at h
 |.cut _ _ _,s,v,h,hv=>by simp[SubO]at h
 |.yld _,s,v,h,hv=>by simp[SubO]at h
 |.top,s,v,h,hv=>.top v
 |.val u,s,v,h,hv=>ku (λ_ _ h=>h) (zx hG hB _ s v h hv)
 |.ref o n row,s,v,h,hv=>ku (λ_ _ h=>h) (zx hG hB _ s v h hv)
 |.arr o full n k row,s,v,h,hv=>ku (λ_ _ h=>h) (zx hG hB _ s v h hv)
 |.cmp o fit dom get,s,v,h,hv=>ku (λ_ _ h=>h) (zx hG hB _ s v h hv)
theorem subO_repL(hG:∀o o' b,(o=true→o'=true)→G o' b→G' o b)(hB:∀id x,blk (dropBlk hp j) id=some x→N id→BlkRep r N G w (r id) x∧∀b,r id=some b→∀o,G' o b) :
  ∀(l m:List SV)(cs:Array Value),SubOL hp j l m→m.length=cs.size→(∀i sv,m[i]? = some sv→Rep r N G w sv (cs.getD i undef))→l.length=cs.size∧∀(i:Nat)(a:SV),l[i]? = some a→Rep (Qy (r j)) Wr G' w a (cs.getD i undef)
 |[],m,cs,h,hl,hr=>by simp only[SubOL]at h;subst h;exact⟨hl,λi a ha=>by simp at ha⟩
 |p :: l,m,cs,h,hl,hr=>by
  cases m with
  |nil=>simp[SubOL]at h
  |cons b m=>
   simp only[SubOL]at h;have hcs:∀i,(cs.extract 1 cs.size).getD i undef=cs.getD (i+1) undef:=λi=>by
    simp only[xf5,Array.getElem?_extract];by_cases hh:i<min cs.size cs.size - 1
    ·grind
    ·grind
   obtain⟨h1,h2⟩:=subO_repL hG hB l m (cs.extract 1 cs.size) h.2 (by simp at hl ⊢;omega) (λi sv hi=>by
    rw[hcs];exact hr (i+1) sv Ωab)
   refine⟨(by simp at h1 hl ⊢;omega),λi a ha=>?_⟩;cases i with
   |zero=>simp at ha;subst ha;exact Y5 hG hB p b _ h.1 (hr 0 b Ωj)
   |succ i=>
    simp_all
end
theorem qhy(hG:∀o o' b,(o=true→o'=true)→G o' b→G' o b)(hB:∀id x,blk (dropBlk hp j) id=some x→N id→BlkRep r N G w (r id) x∧∀b,r id=some b→∀o,G' o b)
  {ob:Option Nat} {b b':Blk} (hs:SubB (dropBlk hp j) b b') (h:BlkRep r N G w ob b'):BlkRep (Qy ob) Wr G' w ob b:=by
 cases h with
 |cells t l x cs hb hl hr=>
  cases b<;>simp only[SubB]at hs
  obtain⟨rfl,hs⟩:=hs;exact .cells _ _ x cs hb ((kU hs).1.trans hl) λi a ha=>ku (λ_ _ h=>h) (sub_repL hG hB _ _ cs hs hl hr i a ha)
 |none t k row=>
  cases b<;>simp only[SubB]at hs
  obtain⟨rfl,rfl,hn,hs⟩:=hs;have hn0:=Nat.le_zero.1 hn;subst hn0;exact .none _ _ _
 |rows t k n row x cs hb hl hr=>
  cases b<;>simp only[SubB]at hs
  obtain⟨rfl,rfl,hn,hs⟩:=hs;exact .rows _ _ _ _ x cs hb (xc1 (xa8 _ hn) hl) λi j hi hj=>ku (λ_ _ h=>h) (zx hG hB _ _ _ (hs i j hi hj) (hr i j Ω hj))
 |mapS fit dom get stamp x es _ hb hm ht hst hr=>
  cases b<;>simp only[SubB]at hs
  obtain⟨rfl,rfl,hs⟩:=hs;exact .map _ _ _ x es _ hb hm ht λe he=>ku (λ_ _ h=>h) (zx hG hB _ _ _ (hs _ (hm.doms e he)) (hr e he))
 |iter _ _ _ _ _ _ _=>cases b<;>simp only[SubB]at hs
 |loop _ _ _ _=>cases b<;>simp only[SubB]at hs
 |map fit dom get x es clock hb hm ht hr=>
  cases b<;>simp only[SubB]at hs
  obtain⟨rfl,rfl,hs⟩:=hs;exact .map _ _ _ x es clock hb hm ht λe he=>ku (λ_ _ h=>h) (zx hG hB _ _ _ (hs _ (hm.doms e he)) (hr e he))
end
theorem qfO{P:Program}(rs:List ResultVar)(st:St)(b:Blk)(res:SV):retNVC P rs st b res=resultsVC P rs st (λm=>KR st.hp b res (oneSV m)):=by
 unfold retNVC;have:(λ(m:List SV)=>match m with|[s]=>KR st.hp b res s|m=>KR st.hp b res (.tup m))=λm=>KR st.hp b res (oneSV m):=by
  funext m;match m with
  |[]=>rfl
  |[s]=>rfl
  |a :: b :: m=>rfl
 rw[←this]
theorem Ve (far : Nat → List (Nat × Nat)) {P : Program} {f : FuncId} {fn : Func} {c : Code} (hf : P.funcs[f]? = some fn) (hb : fn.body = some c) (hname : (fn.name == "runtime.NumGoroutine") = false) (hm : P.follows .mixedOrders = true)
  (hok:qJ far fn.ntmps c=true) (args:List SV) (b:Blk) (res:SV) (hlen:args.length≤fn.ntmps) (hold:OldL args)
  (h:vc P ⟨[],0,false,far⟩ c { fr:=argFr 0 args,hp:=[],nid:=0 } (λe st=>match e with|.exit _=>False|_=>retNVC P fn.results.toList st b res)):zX P f args b res:=by
 refine⟨⟨fn,hf,hname,by rw[hb];rfl⟩,λokc w vs hl ha=>gT hm hf hb hok (O:=C0F far) (st0:=⟨argFr 0 args,[],0⟩) rfl (Post:=λst m=>KR st.hp b res (oneSV m)) (qqc hl hlen hold ha) ?_ λst r a w' m us hP hi hml hreps=>?_⟩
 ·have e:(λ(e:Ex)(st:St)=>match e with|.exit _=>False|_=>retNVC P fn.results.toList st b res)=λe st=>match e with|.exit _=>False|_=>resultsVC P fn.results.toList st (λm=>KR st.hp b res (oneSV m)):=by
   funext e st;cases e<;>first|rfl|exact qfO _ _ _ _
  rw[e]at h;exact h
 ·obtain⟨j,b',hj,hsb,hso⟩:=hP
  have hv:=vS hml hreps;have hNj:=hi.keys j b' hj;have hG:∀o o' c,(o=true→o'=true)→Gd w okc r (· < st.nid) st.hp w' o' c→(c<w'.heap.size∧r j≠some c∧if o=true then w.heap.size≤c else okc c∨w.heap.size≤c):=λo o' c ho hg=>⟨hg.1,hg.2.1 j b' hj hNj,by
   have:=hg.2.2;cases o<;>cases o'<;>simp_all⟩
  have hB:∀id x,blk (dropBlk st.hp j) id=some x→id<st.nid→BlkRep r (· < st.nid) (Gd w okc r (· < st.nid) st.hp w') w' (r id) x∧∀c,r id=some c→∀o,(c<w'.heap.size∧r j≠some c∧if o=true then w.heap.size≤c else okc c∨w.heap.size≤c):=λid x hx hN=>by
   rw[qB]at hx;split at hx
   ·cases hx
   ·rename_i hne
    refine⟨hi.sat.rep id x hx hN,λc hc o=>⟨hi.sat.lt hx hN hc,λe=>hne (hi.sat.inj _ _ _ _ _ hx hN hj hNj hc e),?_⟩⟩;have:=hi.sat.own id x c hx hN hc
    simp_all
  exact⟨_,r j,rfl,hi.sat.below,λc hc=>hi.sat.own j b' c hj hNj hc,qhy hG hB hsb (hi.sat.rep j b' hj hNj),Y5 hG hB res _ _ hso hv⟩
theorem Zm {P : Program} {f : FuncId} {fn : Func} {c : Code} (hf : P.funcs[f]? = some fn) (hb : fn.body = some c) (hname : (fn.name == "runtime.NumGoroutine") = false) (hm : P.follows .mixedOrders = true)
  (hok:QG fn.ntmps c=true) (args:List SV) (b:Blk) (res:SV) (hlen:args.length≤fn.ntmps) (hold:OldL args)
  (h:vc P ⟨[],0,false,jc⟩ c { fr:=argFr 0 args,hp:=[],nid:=0 } (λe st=>match e with|.exit _=>False|_=>retNVC P fn.results.toList st b res)):zX P f args b res:=
 Ve jc hf hb hname hm hok args b res hlen hold h
end Go.Sx
end
section
namespace Go.Sx
open Go.RowKit
variable{r:Nat→Option Nat}{clk k mid nid:Nat}{st:St}{a:Act}{w:World}{fr:List (Nat×SV)}{K:St→SV→Prop}{L:Loop}{o:Option Blk}{x:Operand}{dom fit:Value→Bool}{stamp:Value→Nat}
theorem OutOk.low{r r0:Nat→Option Nat}{lo lo0:Nat}{G G0:Bool→Nat→Prop}{w w0:World}:∀{fs:List Fr}{as as0:List Act},OutOk r lo G w fs as→OutOk r0 lo0 G0 w0 fs as0→OutOk r lo0 G w fs as
 |[],[],[],h,_=>h
 |f :: fs,a :: as,a0 :: as0,⟨h1,h2,h3,h4,h5⟩,⟨_,k2,_,_,k5⟩=>⟨h1,k2,h3,h4,OutOk.low h5 k5⟩
section
variable{P:Program}{O:Ctx}{base:World}{okc:Nat→Prop}{ns:Nat}{outs:jn}
theorem InvR.push(h:InvR O base okc ns k r outs st a w)(rcd:Option Loop)(hrc:∀L,rcd=some L→L.tmps=a.tmps)(rnd:Bool){a2:Act}{n2:Nat}
  (hfr:∀i,Rep r (· < k) (Gd base okc r (· < k) st.hp w) w (look fr i) (a2.tmps.getD i undef)) (hs:a2.tmps.size=n2) (hd:a2.defers=[]) :
  InvR ⟨⟨st.fr,rcd,ns,k⟩ :: O.fs,k,rnd,jc⟩ base okc n2 k r ⟨a :: outs.as,r⟩ ⟨fr,st.hp,nid⟩ a2 w:=by
 refine⟨h.sat,h.keys,hfr,hs,xa5 _,⟨h.fr,xa5 _,h.size,hrc,h.out.mono h.lo λn hn sv v hv=>hv⟩,λ_ _=>rfl,?_⟩;obtain⟨Ds,h1,h2,h3⟩:=h.defers;exact⟨Ds,by simpa[GP,hd]using h1,h2,h3⟩
theorem InvR.pop{r0:Nat→Option Nat}{k0:Nat}{st0:St}{a0 a2:Act}{w0:World}{rcd:Option Loop}{rnd:Bool}{n2 n0:Nat}
  (h:InvR ⟨⟨fr,rcd,ns,k0⟩ :: O.fs,k0,rnd,jc⟩ base okc n2 k r ⟨a :: outs.as,r0⟩ st a2 w) (h0:InvR O base okc n0 k0 r0 outs st0 a0 w0) :
  InvR O base okc ns k r outs ⟨fr,st.hp,nid⟩ a w:=by
 obtain⟨o1,o2,o3,o4,o5⟩:=h.out;refine⟨h.sat,h.keys,λi=>(o1 i).mono (λ_ _=>rfl) (λi hi=>xa9 hi h.lo) (λ_ _ hg=>⟨hg,rfl⟩) (Shapes.refl _),o3,xc1 h0.lo h.lo,o5.low h0.out,λid hid=>(h.rfix id (xa9 hid h0.lo)).trans (h0.rfix id hid),?_⟩;obtain⟨Ds,h1,h2,h3⟩:=h.defers;unfold GP at h1;simp only[List.map_cons,List.flatten_cons]at h1;obtain⟨l1,l2,rfl,e1,e2⟩:=List.append_eq_map_iff.1 h1;exact⟨l2,e2.symm,(List.nodup_append.1 h2).2.1,λD hD=>h3 D (by simp[hD])⟩
theorem jU {f : FuncId} {fn : Func} {c : Code} (hf : P.funcs[f]? = some fn) (hb : fn.body = some c) (hname : (fn.name == "runtime.NumGoroutine") = false) (vs : Array Value) (w : World) : (callFunc f vs).run P w = .ok (.enter f vs) w := by
 simp only[callFunc,Sem.run_bind,run_program,Result.andThen_ok,hf,hname,xe7,if_false,hb,Option.isNone_some,Sem.run_pure]
theorem qfP (hm : P.follows .mixedOrders = true) {f : FuncId} {fn : Func} {c : Code} (hf : P.funcs[f]? = some fn) (hb : fn.body = some c) (hname : (fn.name == "runtime.NumGoroutine") = false) (hok : QG fn.ntmps c = true) {args : List SV} (hlen : args.length ≤ fn.ntmps) {st : St} {K : St → SV → Prop}
  (h:∀out:List Fr,vc P ⟨out,st.nid,false,jc⟩ c ⟨argFr 0 args,st.hp,st.nid⟩ (λe st'=>match e with|.exit _=>False|_=>resultsVC P fn.results.toList st' (λm=>K ⟨st.fr,st'.hp,st'.nid⟩ (oneSV m)))):kW P O f args st K:=by
 intro base okc ns r outs a w vs h0 hl ha;refine⟨jU hf hb hname vs w,?_⟩;refine gT hm hf hb hok (O:=⟨⟨st.fr,none,ns,st.nid⟩ :: O.fs,st.nid,false,jc⟩) (outs:=⟨a :: outs.as,r⟩) (base:=base) (okc:=okc) (st0:=⟨argFr 0 args,st.hp,st.nid⟩) rfl (Post:=λst' m=>K ⟨st.fr,st'.hp,st'.nid⟩ (oneSV m))
  ⟨r,h0.push none (λ_ h=>by cases h) false (Zl hl Ω ha) Ωu rfl⟩ (h _) λst' r' a' w' m us hP hi hml hreps=>?_
 exact⟨_,⟨st.fr,st'.hp,st'.nid⟩,r',oneSV m,rfl,hP,hi.lo,hi.pop h0,vS hml hreps⟩
def putPs:List (Nat×SV)→List Tmp→List SV→List (Nat×SV)
 |fr,p :: ps,a :: as=>putPs (putFr fr p a) ps as
 |fr,_,_=>fr
theorem VJ{r:Nat→Option Nat}{N:Nat→Prop}{G:Bool→Nat→Prop}{w:World}{ns:Nat}:∀{ps:List Tmp}{args:List SV}{vs:List Value}{fr:List (Nat×SV)}{tmps:Array Value},(∀i,Rep r N G w (look fr i) (tmps.getD i undef))→tmps.size=ns→ps.all (λt=>decide (t<ns))=true→args.length=vs.length→
  (∀i sv,args[i]? = some sv→Rep r N G w sv (vs.getD i undef))→
  (∀i,Rep r N G w (look (putPs fr ps args) i) (((ps.zip vs).foldl (λtmps (t,a)=>tmps.setIfInBounds t a) tmps).getD i undef))∧((ps.zip vs).foldl (λtmps (t,a)=>tmps.setIfInBounds t a) tmps).size=ns
 |[],args,vs,fr,tmps,h,hs,_,_,_=>⟨by simpa[putPs]using h,(by simpa using hs)⟩
 |p :: ps,[],[],fr,tmps,h,hs,_,_,_=>⟨by simpa[putPs]using h,(by simpa using hs)⟩
 |p :: ps,[],_ :: _,_,_,_,_,_,hl,_=>by simp at hl
 |p :: ps,_ :: _,[],_,_,_,_,_,hl,_=>by simp at hl
 |p :: ps,s :: args,v :: vs,fr,tmps,h,hs,hps,hl,ha=>by
  simp only[List.all_cons,xe6,decide_eq_true_eq]at hps;simp only[putPs,List.zip_cons_cons,List.foldl_cons];refine VJ (λi=>?_) (by simpa using hs) hps.2 ΩX λi sv hi=>by simpa using ha (i+1) sv Ωab
  rw[zq];simp only[xf5,Array.getElem?_setIfInBounds];by_cases e:i=p
  ·subst e
   simp only[if_true];rw[if_pos (by rw[hs];exact hps.1)];simpa using ha 0 s rfl
  ·rw[if_neg e,if_neg (Ne.symm e)]
   simpa using h i
def qlP(y:Nat)(L:Loop)(fr:List (Nat×SV))(K:St→SV→Prop)(hp:List (Nat×Blk))(nid:Nat):Ex→Prop
 |.normal=>K ⟨fr,setBlk hp y (.loop L .ready),nid⟩ (.val (.bool true))
 |.ret=>K ⟨fr,setBlk hp y (.loop L .retd),nid⟩ (.val (.bool false))
 |.exit i=>K ⟨fr,setBlk hp y (.loop L (.left i)),nid⟩ (.val (.bool false))
def QH(L:Loop):Option Blk→Prop
 |some (.loop L' .busy)=>L'=L
 |_=>False
def Zn(L:Loop):Option Blk→Prop
 |some (.loop L' .ready)=>L'=L
 |_=>False
theorem qfQ(h:QH L o):o=some (.loop L .busy):=by
 unfold QH at h;split at h
 ·rw[h]
 ·exact h.elim
theorem qcf(h:Zn L o):o=some (.loop L .ready):=by
 unfold Zn at h;split at h
 ·rw[h]
 ·exact h.elim
def yi(y:Nat)(L:Loop)(fr:List (Nat×SV))(K:St→SV→Prop):Ex→St→Prop
 |e,st2=>QH L (blk st2.hp y)∧qlP y L fr K st2.hp st2.nid e
def Ja(P:Program)(O:Ctx)(y:Nat)(L:Loop)(B:Code)(K:Ex→St→Prop):Ex→St→Prop
 |.normal,st1=>Zn L (blk st1.hp y)∧vc P O B ⟨st1.fr,setBlk st1.hp y (.loop L .busy),st1.nid⟩ K
 |_,_=>False
theorem vT{hp:List (Nat×Blk)}{y:Nat}{x x':Blk}(h:blk hp y=some x)(hk:∀id z,blk hp id=some z→id<k):∀id z,blk (setBlk hp y x') id=some z→id<k:=λid z hz=>by
 rw[qn]at hz;split at hz
 ·simp_all
 ·exact hk _ _ hz
theorem Zo(h:InvR O base okc ns k r outs st a w){y l:Nat}{s s':RSt}(hb:blk st.hp y=some (.loop L s))(hr:r y=some l) :
  w.heap[l]? = some (.loop { L with state:=s.state,pending:=s.pend })∧InvR O base okc ns k r outs ⟨st.fr,setBlk st.hp y (.loop L s'),st.nid⟩ a (w.putObj l (.loop { L with state:=s'.state,pending:=s'.pend })):=by
 have hy:=h.keys y _ hb;have hrep:=h.sat.rep y _ hb hy;rw[hr]at hrep;cases hrep with
 |loop _ _ _ hl=>
  refine⟨hl,?_⟩;have hs:Step base okc r (· < k) st.hp w r (· < k) (setBlk st.hp y (.loop L s')) (w.putObj l (.loop { L with state:=s'.state,pending:=s'.pend })):=
   kV h.sat hb hy hr hl (λ_ _ _=>by simp) _ (.loop L s') λG' w' hw' _=>.loop L s' l hw'
  exact h.step hs (vT hb h.keys) (xa5 _) (d:=none) (λt ht=>by cases ht) (.top undef)
def qdC(fr:List (Nat×SV))(K:Ex→St→Prop)(hp:List (Nat×Blk))(nid id:Nat):RSt→Prop
 |.ready=>K .normal ⟨fr,dropBlk hp id,nid⟩
 |.retd=>K .ret ⟨fr,dropBlk hp id,nid⟩
 |.left i=>K (.exit i) ⟨fr,dropBlk hp id,nid⟩
 |_=>False
def vU(L:Loop)(fr:List (Nat×SV))(K:Ex→St→Prop)(hp:List (Nat×Blk))(nid id:Nat):Option Blk→Prop
 |some (.loop L' s)=>L'=L∧qdC fr K hp nid id s
 |_=>False
theorem Y6{K:Ex→St→Prop}{hp:List (Nat×Blk)}{id:Nat}(h:vU L fr K hp nid id o):∃s,o=some (.loop L s)∧qdC fr K hp nid id s:=by
 unfold vU at h;split at h
 ·simp_all
 ·exact h.elim
def vi(id:Nat)(L:Loop)(fr:List (Nat×SV))(K:Ex→St→Prop):Ex→St→Prop
 |.exit _,_=>False
 |.normal,st'=>vU L fr K st'.hp st'.nid id (blk st'.hp id)
 |.ret,st'=>vU L fr K st'.hp st'.nid id (blk st'.hp id)
theorem Qp{rs:List ResultVar}(h:rs=[])(st:St)(K:List SV→Prop):resultsVC P rs st K=K []:=by subst h;rfl
theorem InvR.forget(h:InvR O base okc ns k r outs st a w)(id:Nat):InvR O base okc ns k r outs ⟨st.fr,dropBlk st.hp id,st.nid⟩ a w:=
 h.step (h.sat.sub (λj x hx=>by
  rw[qB]at hx;split at hx
  ·cases hx
  ·exact hx)) (λj x hx=>by
  rw[qB]at hx;split at hx
  ·cases hx
  ·exact h.keys j x hx) (xa5 _) (d:=none) (λt ht=>by cases ht) (.top undef)
set_option maxHeartbeats 1000000 in
open Classical in
noncomputable def stampOf(es:Array MapEntry)(k:Value):Nat:=if h:∃e,e∈es∧e.key=k then(Classical.choose h).born else 0
theorem VK{t:TypeId}{get:Value→SV}{mi:vb}(hx:env (look st.fr) x=.mp mid)(ht:qD P t=some mi)(hb:blk st.hp mid=some (.map fit dom get))
  (h:∀(stamp:Value→Nat)(clk:Nat),(∀k,dom k=true→stamp k<clk)→(∀k k',dom k=true→dom k'=true→stamp k=stamp k'→k=k')→
   K ⟨st.fr,(st.nid,.iter mid clk [] clk) :: setBlk st.hp mid (.mapS fit dom get stamp clk),st.nid+1⟩ (.ptr st.nid 0)):OpVC P O (.range t x) st K:=by
 intro base okc ns r outs a w o ho hi;obtain⟨kt,et,ii,hu,-⟩:=zM ht;have hv:=hi.env x;rw[hx]at hv;generalize hex:a.eval x=u at hv;cases hv with
 |mp _ b hN hr=>
 have hrep:=hi.sat.rep mid _ hb hN;rw[hr]at hrep;cases hrep with
 |map _ _ _ _ es clock hb' hmo htm hes=>
 have hst:∀e,e∈es→e.born=stampOf es e.key:=λe he=>by
  have hex:∃e',e'∈es∧e'.key=e.key:=⟨e,he,rfl⟩;unfold stampOf;rw[dif_pos hex];obtain⟨c1,c2⟩:=Classical.choose_spec hex;obtain⟨i,hi⟩:=Array.mem_iff_getElem?.1 he;obtain⟨j,hj⟩:=Array.mem_iff_getElem?.1 c1;have:=hmo.once i j _ _ hi hj c2.symm
  simp_all
 have s1:Step base okc r (· < st.nid) st.hp w r (· < st.nid) (setBlk st.hp mid (.mapS fit dom get (stampOf es) clock)) w:=hi.sat.same hb λG' hG' _=>by
  rw[hr];exact .mapS fit dom get _ b es clock hb' hmo htm hst λe he=>(hes e he).mono (λ_ _=>rfl) (λ_ h=>h) (λo c hc=>⟨hG' o c hc,rfl⟩) (Shapes.refl w)
 have hi1:InvR O base okc ns st.nid r outs ⟨st.fr,setBlk st.hp mid (.mapS fit dom get (stampOf es) clock),st.nid⟩ a w:=hi.step s1 (vT hb hi.keys) (xa5 _) (d:=none) (λt ht=>by cases ht) (.top undef);have s2:=hi1.sat.new (hp':=(st.nid,.iter mid clock [] clock) :: setBlk st.hp mid (.mapS fit dom get (stampOf es) clock)) st.nid Ωj (.mapIter (some b) clock #[] clock) (.iter mid clock [] clock) ΩN (λj hj=>by simp only[blk];rw[if_neg Ω]) λr' N' G' e1 _ e3 _ _=>
  .iter mid clock [] clock _ b (e3 _ hN) ((e1 _ hN).trans hr) (qS w _)
 rw[jz]at s2;have hi2:=hi1.step s2 (λid y hy=>by
   simp only[blk]at hy;split at hy
   ·omega
   ·have:=hi1.keys id y hy;omega) Ω (d:=none) (λt ht=>by cases ht) (.top undef)
 refine⟨.pointer (some ⟨w.heap.size,0,none⟩),w.alloc (.mapIter (some b) clock #[] clock),?_,⟨st.fr,(st.nid,.iter mid clock [] clock) :: setBlk st.hp mid (.mapS fit dom get (stampOf es) clock),st.nid+1⟩,_,.ptr st.nid 0,h _ _ (λk hk=>?_) (λk k' hk hk' e=>?_),xc4 _,hi2.nid _,.ptr _ _ _ (xb5 _) (qy _ _ _)⟩
 ·have e:execOp a.eval o=(do pure (.value (←Instr.range t (a.eval x)))):=by
   obtain⟨dst,op,type,pos,aft,guard⟩:=o;simp only[]at ho;subst ho;rfl
  rw[e,hex];simp only[Sem.run_bind,Instr.range,run_underlying hu,Result.andThen_ok];have hobj:(getObj b).run P w=.ok (.map es clock) w:=by simp[getObj,Sem.run,hb']
  simp_all
 ·obtain⟨e,he,hk'⟩:=hmo.has k hk
  rw[←hk',←hst e he];exact htm.lt e he
 ·obtain⟨e1,he1,hk1⟩:=hmo.has k hk
  obtain⟨e2,he2,hk2⟩:=hmo.has k' hk';rw[←hk1,←hk2,←hst e1 he1,←hst e2 he2]at e;obtain⟨i,hi⟩:=Array.mem_iff_getElem?.1 he1;obtain⟨j,hj⟩:=Array.mem_iff_getElem?.1 he2;have:=htm.once i j _ _ hi hj e
  simp_all
theorem qhz{ty:TypeId}{it bm:Nat}{seen:List Nat}{es:Array MapEntry}(hit:w.heap[it]? = some (.mapIter (some bm) clk seen.toArray clk))(hb:w.heap[bm]? = some (.map es clk))(hold:∀x∈es,x.born<clk) :
  ((∀e∈es,e.born∈seen)∧(Instr.next (.pointer (some ⟨it,0,none⟩)) false ty).run P w=.ok (.tuple #[.bool false]) w)∨
  ∃e∈es,e.born∉seen∧∃n,(Instr.next (.pointer (some ⟨it,0,none⟩)) false ty).run P w=.ok (.tuple #[.bool true,e.key,e.val]) (({ w with drawn:=n }:World).putObj it (.mapIter (some bm) clk (seen++[e.born]).toArray clk)):=by
 have ht:=next_test_false seen.toArray es clk clk (λx hx=>hold x ΩM) (xa5 _);simp only[Instr.next,getObj,Sem.run_bind,Sem.run,hit,hb,Result.andThen,ht,xe7,if_false];have hmem:∀x∈(Array.filter (λe=>!seen.toArray.contains e.born) es),x∈es∧x.born∉seen:=λx hx=>by
  simp_all
 have hall:∀x∈es,x.born∉seen→x∈Array.filter (λe=>!seen.toArray.contains e.born) es:=λx hx hs=>by simp;exact⟨hx,hs⟩
 generalize Array.filter (λe=>!seen.toArray.contains e.born) es=L at hmem hall ⊢;have e1:L.filter (λx=>decide (x.born<clk))=L:=Array.filter_eq_self.2 (λx hx=>by simpa using hold x (hmem x hx).1);have e2:L.filter (λx=>decide (x.born≥clk)) = #[]:=by
  simp_all
 simp only[e1,e2,Array.append_empty];by_cases h0:L.size=0
 ·left
  have:L = #[]:=Array.eq_empty_of_size_eq_zero h0;subst this;refine⟨λe he=>?_,?_⟩
  ·simp_all
  ·simp[choose,Sem.run,Question.forced]
 ·right
  have hne:L.isEmpty=false:=by simp[Array.isEmpty,h0]
  simp only[hne,xe7,if_false,Array.empty_append,Array.size_map];have hch:∃(j:Nat)(n:Nat),j<L.size∧(choose (Question.mapNext L.size)).run P w=.ok j { w with drawn:=n }:=by
   by_cases hf:L.size≤1
   ·exact⟨0,w.drawn,Ω,by simp[choose,Sem.run,Question.forced,hf]⟩
   ·exact⟨_,w.drawn+1,Nat.mod_lt _ Ω,by
     simp only[choose,Sem.run,Question.forced,decide_eq_true_eq,hf,if_false,Question.cut];rfl⟩
  obtain⟨j,n,hj,hrun⟩:=hch;obtain⟨m1,m2⟩:=hmem L[j] (Array.getElem_mem hj);refine⟨L[j],m1,m2,n,?_⟩;have hset:∀(o':Obj),(setObj it o').run P { w with drawn:=n } = .ok () (({ w with drawn:=n }:World).putObj it o'):=λo'=>by
   simp[setObj,Sem.run,hit,World.putObj]
  simp_all
theorem Y7{iid:Nat}{seen:List Nat}{get:Value→SV}(hx:env (look st.fr) x=.ptr iid 0)(hbi:blk st.hp iid=some (.iter mid clk seen clk))(hbm:blk st.hp mid=some (.mapS fit dom get stamp clk))
  (h1:∀k,fit k=true→dom k=true→stamp k∉seen→K ⟨st.fr,setBlk st.hp iid (.iter mid clk (seen++[stamp k]) clk),st.nid⟩ (.tup [.val (.bool true),.val k,get k]))
  (h2:(∀k,dom k=true→stamp k∈seen)→K st (.tup [.val (.bool false)])):OpVC P O (.next x false) st K:=by
 intro base okc ns r outs a w o ho hi;have hv:=hi.env x;rw[hx]at hv;generalize hex:a.eval x=u at hv;cases hv with
 |ptr _ _ it hN hrit=>
 have hri:=hi.sat.rep iid _ hbi hN;rw[hrit]at hri;cases hri with
 |iter _ _ _ _ _ bm hNm hrm hit=>
 have hrm':=hi.sat.rep mid _ hbm hNm;rw[hrm]at hrm';cases hrm' with
 |mapS _ _ _ _ _ es _ hb' hmo htm hst hes=>
 have e:execOp a.eval o=(do pure (.value (←Instr.next (a.eval x) false o.type))):=by
  obtain⟨dst,op,type,pos,aft,guard⟩:=o;simp only[]at ho;subst ho;rfl
 rcases qhz (P:=P) (ty:=o.type) hit hb' htm.lt with⟨hall,hrun⟩|⟨e',he',hns,n,hrun⟩
 ·refine⟨_,w,by rw[e,hex,Sem.run_bind,hrun];rfl,st,r,_,h2 λk hk=>?_,xa5 _,hi,.tup _ _ rfl λi sv hi=>?_⟩
  ·obtain⟨e',he',hk'⟩:=hmo.has k hk
   grind
  ·match i,hi with
   |0,hi=>simp at hi;subst hi;exact .val _
 ·have hdrew:Below w.heap.size w { w with drawn:=n }:=⟨rfl,rfl,rfl,xa5 _,λ_ _=>rfl⟩
  have hi1:InvR O base okc ns st.nid r outs st a { w with drawn:=n }:=hi.step (hi.sat.grow hdrew) hi.keys (xa5 _) (d:=none) (λt ht=>by cases ht) (.top undef);have hs2:Step base okc r (· < st.nid) st.hp { w with drawn:=n } r (· < st.nid) (setBlk st.hp iid (.iter mid clk (seen++[e'.born]) clk)) (({ w with drawn:=n }:World).putObj it (.mapIter (some bm) clk (seen++[e'.born]).toArray clk)):=
   kV hi1.sat hbi hN hrit (old:=.mapIter (some bm) clk seen.toArray clk) hit (λ_ _ _=>by simp) _ (.iter mid clk (seen++[e'.born]) clk) λG' w' hw' _=>.iter mid clk _ clk it bm hNm hrm hw'
  have hi2:=hi1.step hs2 (vT hbi hi1.keys) (xa5 _) (d:=none) (λt ht=>by cases ht) (.top undef);have hk:=h1 e'.key (hmo.fits e' he') (hmo.doms e' he') (by rw[←hst e' he'];exact hns);rw[←hst e' he']at hk;refine⟨_,_,by rw[e,hex,Sem.run_bind,hrun];rfl,_,r,_,hk,xa5 _,hi2,.tup _ _ rfl λi sv hq=>?_⟩
  match i,hq with
  |0,hq=>simp at hq;subst hq;exact .val _
  |1,hq=>simp at hq;subst hq;exact .val _
  |2,hq=>simp at hq;subst hq;exact hs2.rep ((hi.sat.grow hdrew).rep (hes e' he'))
def qhA(s:SV)(k:Value):Prop:=∀(r:Nat→Option Nat)(N:Nat→Prop)(G:Bool→Nat→Prop)(w:World),Rep r N G w s k
theorem yO(l:List Value):qhA (.agg (l.map .val)) (.agg l.toArray):=λr N G w=>.agg _ _ Ωj λi sv hi=>by
 simp only[List.getElem?_map,Option.map_eq_some_iff]at hi;obtain⟨v,hv,rfl⟩:=hi;have:l.toArray.getD i undef=v:=by simp[xf5,hv]
 rw[this];exact .val v
theorem qfR{s:SV}{iid:Nat}{seen:List Nat}{get:Value→SV}{k:Value}(hx:env (look st.fr) x=.ptr iid 0)(hbi:blk st.hp iid=some (.iter mid clk (seen++[stamp k]) clk))(hbm:blk st.hp mid=some (.mapS fit dom get stamp clk))
  (hd:dom k=true) (hs:qhA s k) (h:K st (.tup [s,get k])):OpVC P O (.entry x) st K:=by
 intro base okc ns r outs a w o ho hi;have hv:=hi.env x;rw[hx]at hv;generalize hex:a.eval x=u at hv;cases hv with
 |ptr _ _ it hN hrit=>
 have hri:=hi.sat.rep iid _ hbi hN;rw[hrit]at hri;cases hri with
 |iter _ _ _ _ _ bm hNm hrm hit=>
 have hrm':=hi.sat.rep mid _ hbm hNm;rw[hrm]at hrm';cases hrm' with
 |mapS _ _ _ _ _ es _ hb' hmo htm hst hes=>
 have e:execOp a.eval o=(do pure (.value (←Instr.entry (a.eval x)))):=by
  obtain⟨dst,op,type,pos,aft,guard⟩:=o;simp only[]at ho;subst ho;rfl
 obtain⟨e0,he0,hk0⟩:=hmo.has k hd;have hfind:es.find? (λe=>e.born == stamp k)=some e0:=by
  cases hf:es.find? (λe=>e.born == stamp k)with
  |none=>
   grind
  |some e1=>
   have h1:=Array.find?_some hf;have h2:=Array.mem_of_find?_eq_some hf;obtain⟨i,hi⟩:=Array.mem_iff_getElem?.1 he0;obtain⟨j,hj⟩:=Array.mem_iff_getElem?.1 h2;have:=htm.once i j _ _ hi hj (by rw[hst e0 he0,hk0];simpa using(beq_iff_eq.1 h1).symm)
   simp_all
 refine⟨.tuple #[e0.key,e0.val],w,?_,st,r,_,h,xa5 _,hi,.tup _ _ rfl λi sv hq=>?_⟩
 ·rw[e,hex]
  have hback:(seen++[stamp k]).toArray.back? = some (stamp k):=by simp
  simp only[Sem.run_bind,Instr.entry,getObj,Sem.run,hit,hback,Result.andThen]
  simp_all
 ·match i,hq with
  |0,hq=>simp at hq;subst hq;simp;rw[hk0];exact hs _ _ _ _
  |1,hq=>simp at hq;subst hq;have:=hes e0 he0;rw[hk0]at this;exact this
end
end Go.Sx
end
section
namespace Go.Sx
open Go.RowKit
variable{fs:List Fr}{lo mid nid:Nat}{rnd:Bool}{x:Operand}{d:Option Tmp}{fr:List (Nat×SV)}{hp:List (Nat×Blk)}{K:St→Prop}{f:FuncId}{args pats:List SV}{res:SV}{dom fit:Value→Bool}{stamp:Value→Nat}
inductive Tag.{u}{α:Sort u}(a:α):Type
 |mk
section
variable{P:Program}{O:Ctx}
def ga(g:Bool)(A B:Prop)(_:Tag A)(_:Tag B):Prop:=kC g A B
def Kk(v:SV)(t:Tmp)(want:Bool)(st:St)(run skip:St→Prop)(_:Tag run)(_:Tag skip):Prop:=
 match v with
 |.val (.bool b)=>match want with
  |true=>kC b (run (st.put (some t) (.val (.bool true)))) (skip (st.put (some t) (.val (.bool false))))
  |false=>kC b (skip (st.put (some t) (.val (.bool true)))) (run (st.put (some t) (.val (.bool false))))
 |.val (.tuple _)=>skip st
 |_=>False
def qcg(t:Option Tmp)(want:Bool)(st:St)(run skip:St→Prop):Prop:=
 match t with
 |none=>False
 |some t=>Kk (look st.fr t) t want st run skip .mk .mk
theorem qC(ds:List (Option Tmp))(st:St)(run skip:St→Prop):zr ds none st run skip=run st:=rfl
theorem WC(ds:List (Option Tmp))(j:Nat)(want:Bool)(st:St)(run skip:St→Prop):zr ds (some (j,want)) st run skip=qcg (nth ds j) want st run skip:=by
 unfold zr qcg Kk;rfl
def qdD(t:Option Tmp)(want:Bool)(st:St)(run skip:St→Prop)(_:Tag run)(_:Tag skip):Prop:=qcg t want st run skip
theorem Vf(ds:List (Option Tmp))(j:Nat)(want:Bool)(st:St)(run skip:St→Prop):zr ds (some (j,want)) st run skip=qdD (nth ds j) want st run skip .mk .mk:=WC ds j want st run skip
theorem Y8(t:Tmp)(want:Bool)(st:St)(run skip:St→Prop)(x:Tag run)(y:Tag skip):qdD (some t) want st run skip x y=Kk (look st.fr t) t want st run skip .mk .mk:=rfl
theorem qhB(b:Bool)(t:Tmp)(st:St)(run skip:St→Prop)(x:Tag run)(y:Tag skip):Kk (.val (.bool b)) t true st run skip x y=ga b (run (st.put (some t) (.val (.bool true)))) (skip (st.put (some t) (.val (.bool false)))) .mk .mk:=rfl
theorem qhC(b:Bool)(t:Tmp)(st:St)(run skip:St→Prop)(x:Tag run)(y:Tag skip):Kk (.val (.bool b)) t false st run skip x y=ga b (skip (st.put (some t) (.val (.bool true)))) (run (st.put (some t) (.val (.bool false)))) .mk .mk:=rfl
theorem qhD(vs:Array Value)(t:Tmp)(want:Bool)(st:St)(run skip:St→Prop)(x:Tag run)(y:Tag skip):Kk (.val (.tuple vs)) t want st run skip x y=skip st:=rfl
theorem Y9(A B:Prop)(x:Tag A)(y:Tag B):ga true A B x y=A:=qbZ A B
theorem WD(A B:Prop)(x:Tag A)(y:Tag B):ga false A B x y=B:=YW A B
theorem qch(g:Bool)(A B:Prop)(x:Tag A)(y:Tag B):ga (!g) A B x y=ga g B A .mk .mk:=qfL g A B
theorem qci(g g':Bool)(A B:Prop)(x:Tag A)(y:Tag B):ga (g&&g') A B x y=ga g (ga g' A B .mk .mk) B .mk .mk:=by cases g<;>cases g'<;>simp[ga,kC]
theorem qfS(g g':Bool)(A B:Prop)(x:Tag A)(y:Tag B):ga (g || g') A B x y=ga g A (ga g' A B .mk .mk) .mk .mk:=by cases g<;>cases g'<;>simp[ga,kC]
def Zp(P:Program)(O:Ctx){J:Prop}(_:Tag J){op:Op}(_:Tag op)(d:Option Tmp)(id:Nat)(st:St)(K:St→Prop)(_:Tag K)(x:Res):Prop:=wN P O J op d id st K x
section
variable{J:Prop}{j:Tag J}{op:Op}{o:Tag op}
theorem qcj(d:Option Tmp)(id:Nat)(st:St)(K:St→Prop)(g:Tag K)(obl:Prop)(r:SV):Zp P O j o d id st K g (.pure obl r)=(obl∧K (st.put d r)):=rfl
theorem qfT(d:Option Tmp)(id:Nat)(st:St)(K:St→Prop)(g:Tag K)(r:SV):Zp P O j o d id st K g (.ex λs=>some r=some s)=K (st.put d r):=by
 simp[Zp,wN]
theorem qfU(d:Option Tmp)(id:Nat)(fr:List (Nat×SV))(hp:List (Nat×Blk))(nid:Nat)(K:St→Prop)(g:Tag K)(obl:Prop)(b:Blk)(mk:Nat→SV):Zp P O j o d id ⟨fr,hp,nid⟩ K g (.new obl b mk)=(obl∧K (St.put ⟨fr,(id,b) :: hp,nid⟩ d (mk id))):=rfl
theorem qfV(d:Option Tmp)(id:Nat)(fr:List (Nat×SV))(hp:List (Nat×Blk))(nid:Nat)(K:St→Prop)(g:Tag K)(obl:Prop)(i:Nat)(b:Blk):Zp P O j o d id ⟨fr,hp,nid⟩ K g (.upd obl i b)=(obl∧K (St.put ⟨fr,setBlk hp i b,nid⟩ d undefSV)):=rfl
theorem qck(d:Option Tmp)(id:Nat)(fr:List (Nat×SV))(hp:List (Nat×Blk))(nid:Nat)(K:St→Prop)(g:Tag K)(obl:Prop)(i:Nat)(b:Blk)(sv:SV):Zp P O j o d id ⟨fr,hp,nid⟩ K g (.updv obl i b sv)=(obl∧K (St.put ⟨fr,setBlk hp i b,nid⟩ d sv)):=rfl
theorem qcl(d:Option Tmp)(id:Nat)(fr:List (Nat×SV))(hp:List (Nat×Blk))(nid:Nat)(K:St→Prop)(g:Tag K)(obl:Prop)(i:Nat)(b:Blk)(mk:Nat→SV):Zp P O j o d id ⟨fr,hp,nid⟩ K g (.grow obl i b mk)=((obl∧i≠id)∧K (St.put ⟨fr,(id,b) :: dropBlk hp i,nid⟩ d (mk id))):=rfl
def Kl(P:Program)(O:Ctx)(_:Tag J)(d:Option Tmp)(id:Nat)(fr:List (Nat×SV))(hp:List (Nat×Blk))(nid:Nat)(K:St→Prop)(_:Tag K)(f:FuncId)(args:List SV):Prop:=
 Wt P hp f args (λr=>K (St.put ⟨fr,hp,nid⟩ d r))∨qdz P hp f args (λb res=>K (St.put ⟨fr,(id,b) :: hp,nid⟩ d (setId id res)))∨(J∧kW P O f args ⟨fr,hp,id⟩ λst' res=>K (st'.put d res))
theorem qcm(d:Option Tmp)(id:Nat)(fr:List (Nat×SV))(hp:List (Nat×Blk))(nid:Nat)(K:St→Prop)(g:Tag K)(f:FuncId)(args:List SV):Zp P O j o d id ⟨fr,hp,nid⟩ K g (.call f args)=Kl P O j d id fr hp nid K .mk f args:=rfl
def qdE(P:Program)(O:Ctx)(_:Tag J)(d:Option Tmp)(id:Nat)(fr:List (Nat×SV))(hp:List (Nat×Blk))(K:St→Prop)(_:Tag K)(y:Nat)(args:List SV):Prop:=
 J∧yK P O y args ⟨fr,hp,id⟩ λst' res=>K (st'.put d res)
theorem qaa(d:Option Tmp)(id:Nat)(fr:List (Nat×SV))(hp:List (Nat×Blk))(nid:Nat)(K:St→Prop)(g:Tag K)(y:Nat)(args:List SV):Zp P O j o d id ⟨fr,hp,nid⟩ K g (.yield y args)=qdE P O j d id fr hp K .mk y args:=rfl
def qfW(P:Program)(O:Ctx)(_:Tag J)(_:Tag op)(d:Option Tmp)(id:Nat)(fr:List (Nat×SV))(hp:List (Nat×Blk))(K:St→Prop)(_:Tag K):Prop:=
 J∧OpVC P O op ⟨fr,hp,id⟩ λst' res=>K (st'.put d res)
theorem qfX(d:Option Tmp)(id:Nat)(fr:List (Nat×SV))(hp:List (Nat×Blk))(nid:Nat)(K:St→Prop)(g:Tag K):Zp P O j o d id ⟨fr,hp,nid⟩ K g .raw=qfW P O j o d id fr hp K .mk:=rfl
end
theorem qfY(fr:List (Nat×SV))(hp:List (Nat×Blk))(nid:Nat)(d:Tmp)(v:SV):St.putI ⟨fr,hp,nid⟩ (some d) v=⟨putIn fr d v,hp,nid⟩:=rfl
theorem qfZ(st:St)(v:SV):St.putI st none v=st:=rfl
theorem qhE(fr:List (Nat×SV))(hp:List (Nat×Blk))(nid:Nat)(d:Tmp)(v:SV):St.put ⟨fr,hp,nid⟩ (some d) v=⟨putFr fr d v,hp,nid⟩:=rfl
theorem qhF(st:St)(v:SV):st.put none v=st:=rfl
theorem qga(J:Prop)(ds:List (Option Tmp))(i:Nat)(st:St)(K:St→Prop):qL P O J ds [] i st K=K st:=rfl
theorem qcn(J:Prop)(ds:List (Option Tmp))(d:Option Tmp)(op:Op)(ty:TypeId)(pos:String)(af:Array Edge)(g:Option (Nat×Bool))(rest:List Oper)(i:Nat)(st:St)(K:St→Prop):qL P O J ds (⟨d,op,ty,pos,af,g⟩ :: rest) i st K =
  zr ds g st (λst=>Zp P O (Tag.mk:Tag J) (Tag.mk:Tag op) d (st.nid+i) st (λst=>qL P O J ds rest (i+1) st K) .mk (stepR P (look st.fr) st.hp op)) (λst=>qL P O J ds rest (i+1) (st.put d undefSV) K):=rfl
def qnN(P:Program)(v:SV)(A B:Prop)(_:Tag A)(_:Tag B):Prop:=G5 P v A B
theorem qlQ(st:St)(K:Ex→St→Prop):vc P O .skip st K=K .normal st:=rfl
theorem qhG(l:Nat)(st:St)(K:Ex→St→Prop):vc P O (.label l) st K=K .normal st:=rfl
theorem qou(a b:Code)(st:St)(K:Ex→St→Prop):vc P O (.seq a b) st K=vc P O a st (KP K λst'=>vc P O b st' K):=rfl
theorem qlR(c:Operand)(t e:Code)(st:St)(K:Ex→St→Prop):vc P O (.cond c t e) st K=qnN P (env (look st.fr) c) (vc P O t st K) (vc P O e st K) .mk .mk:=rfl
theorem qhH(id:Nat)(c:Code)(st:St)(K:Ex→St→Prop):vc P O (.block id c) st K=vc P O c st (QE id K):=rfl
theorem qlS(id:Nat)(st:St)(K:Ex→St→Prop):vc P O (.exit id) st K=K (.exit id) st:=rfl
theorem qov(st:St)(K:Ex→St→Prop):vc P O .ret st K=K .ret st:=rfl
theorem qhI(c:Code)(st:St)(K:Ex→St→Prop):vc P O (.scope c) st K=vc P O c st K:=rfl
theorem qgb(id:Nat)(ops:List Oper)(d:Bool)(st:St)(K:Ex→St→Prop):vc P ⟨fs,lo,rnd,jc⟩ (.region id ops.toArray d) st K=qL P ⟨fs,lo,rnd,jc⟩ (zN d ops=true) (dsts ops) ops 0 st (λst'=>K .normal ⟨st'.fr,st'.hp,st'.nid+ops.length⟩):=rfl
theorem Jb{n:Nat}{l:List (Nat×Nat)}(id:Nat)(ops:List Oper)(d:Bool)(st:St)(K:Ex→St→Prop)(h:id≠n):vc P ⟨fs,lo,rnd,vr n l⟩ (.region id ops.toArray d) st K=qL P ⟨fs,lo,rnd,vr n l⟩ (zN d ops=true) (dsts ops) ops 0 st (λst'=>K .normal ⟨st'.fr,st'.hp,st'.nid+ops.length⟩):=by
 have e:vr n l id=[]:=by simp[vr,h]
 show(if kD (vr n l id)=true then _ else qL P _ _ _ _ 0 st (λst'=>FarVC ((vr n l) id) st' (K .normal ⟨st'.fr,st'.hp,st'.nid+ops.length⟩)))=_;rw[e];rfl
theorem qco{x y:Nat}{l:List (Nat×Nat)}(n:Nat)(ops:List Oper)(d:Bool)(st:St)(K:Ex→St→Prop)(hxy:x≠y):vc P ⟨fs,lo,rnd,vr n ((x,y) :: l)⟩ (.region n ops.toArray d) st K=qL P ⟨fs,lo,rnd,vr n ((x,y) :: l)⟩ (zN d ops=true) (dsts ops) ops 0 st (λst'=>FarVC ((x,y) :: l) st' (K .normal ⟨st'.fr,st'.hp,st'.nid+ops.length⟩)):=by
 have e:vr n ((x,y) :: l) n=(x,y) :: l:=by simp[vr]
 show(if kD (vr n ((x,y) :: l) n)=true then _ else qL P _ _ _ _ 0 st (λst'=>FarVC ((vr n ((x,y) :: l)) n) st' (K .normal ⟨st'.fr,st'.hp,st'.nid+ops.length⟩)))=_;rw[e,if_neg (by simp[kD,hxy])]
def vj(P:Program)(O:Ctx)(id:Nat)(ops:List Oper)(d:Bool)(st:St)(K:Ex→St→Prop)(_:Tag K):Prop:=yh P O (.region id ops.toArray d) st K
theorem qcp(n:Nat)(ops:List Oper)(d:Bool)(st:St)(K:Ex→St→Prop):vc P ⟨fs,lo,rnd,QB n⟩ (.region n ops.toArray d) st K=vj P ⟨fs,lo,rnd,QB n⟩ n ops d st K .mk:=by
 have e:QB n n=[(0,0)]:=by simp[QB,vr]
 show(if kD (QB n n)=true then yh P _ (.region n ops.toArray d) st K else _)=_;rw[e,if_pos ΩC];rfl
theorem qab{n:Nat}(id:Nat)(ops:List Oper)(d:Bool)(st:St)(K:Ex→St→Prop)(h:id≠n):vc P ⟨fs,lo,rnd,QB n⟩ (.region id ops.toArray d) st K=qL P ⟨fs,lo,rnd,QB n⟩ (zN d ops=true) (dsts ops) ops 0 st (λst'=>K .normal ⟨st'.fr,st'.hp,st'.nid+ops.length⟩):=Jb id ops d st K h
theorem qgc(st:St)(X:Prop):FarVC [] st X=X:=rfl
theorem qcq(a b:Nat)(l:List (Nat×Nat))(fr:List (Nat×SV))(hp:List (Nat×Blk))(nid:Nat)(X:Prop):FarVC ((a,b) :: l) ⟨fr,hp,nid⟩ X=(vO (look fr a) (look fr b)∧FarVC l ⟨fr,hp,nid⟩ X):=rfl
theorem qhJ(i j o o':Nat):vO (.ptr i o) (.ptr j o')=(i≠j):=rfl
theorem qhK(i j o k x y:Nat):vO (.ptr i o) (.elt j k x y)=(i≠j):=rfl
theorem qhL(i j o k x y:Nat):vO (.elt j k x y) (.ptr i o)=(j≠i):=rfl
theorem qhM(i j k x y k' x' y':Nat):vO (.elt i k x y) (.elt j k' x' y')=(i≠j):=rfl
theorem qgd(o:Bool)(n:Nat)(row:Nat→SV)(s:SV):vO (.ref o n row) s=True:=by unfold vO qQ;rfl
def LoopOr(P:Program)(O:Ctx)(c:Code)(st:St)(K:Ex→St→Prop)(_:Tag K):Prop:=qce O (vc P O c) st K∨yh P O (.loop c) st K
def qqd(P:Program)(O:Ctx)(c:Code)(st:St)(K:Ex→St→Prop)(_:Tag K):Prop:=yh P O c st K
theorem qlT(c:Code)(st:St)(K:Ex→St→Prop):vc P O (.loop c) st K=LoopOr P O c st K .mk:=rfl
theorem qhN(x:Operand)(ps:Array Tmp)(a b:Code)(st:St)(K:Ex→St→Prop):vc P O (.rangeFunc x ps a b) st K=qqd P O (.rangeFunc x ps a b) st K .mk:=rfl
theorem WE(K:Ex→St→Prop)(n:St→Prop)(st:St):KP K n .normal st=n st:=rfl
theorem qcr(K:Ex→St→Prop)(n:St→Prop)(id:Nat)(st:St):KP K n (.exit id) st=K (.exit id) st:=rfl
theorem qge(K:Ex→St→Prop)(n:St→Prop)(st:St):KP K n .ret st=K .ret st:=rfl
theorem Vg(K:Ex→St→Prop)(id:Nat)(st:St):QE id K .normal st=K .normal st:=rfl
def qhO(c:Prop)[Decidable c](A B:Prop)(_:Tag A)(_:Tag B):Prop:=if c then A else B
theorem qac(K:Ex→St→Prop)(id i:Nat)(st:St):QE id K (.exit i) st=qhO (i=id) (K .normal st) (K (.exit i) st) .mk .mk:=rfl
theorem qgf(A B:Prop)(x:Tag A)(y:Tag B)(h:Decidable True):@qhO True h A B x y=A:=by simp[qhO]
theorem qcs(A B:Prop)(x:Tag A)(y:Tag B)(h:Decidable False):@qhO False h A B x y=B:=by simp[qhO]
theorem qct(K:Ex→St→Prop)(id:Nat)(st:St):QE id K .ret st=K .ret st:=rfl
theorem qad(b:Bool)(A B:Prop)(x:Tag A)(y:Tag B):qnN P (.val (.bool b)) A B x y=ga b A B .mk .mk:=rfl
theorem qlU{g:Bool}{A B:Prop}{x:Tag A}{y:Tag B}(h1:g=true→A)(h2:g=false→B):ga g A B x y:=⟨h1,h2⟩
theorem qgg{p:Prop}[Decidable p]{A B:Prop}{x:Tag A}{y:Tag B}(h1:p→A)(h2:¬p→B):ga (decide p) A B x y:=⟨λh=>h1 (of_decide_eq_true h),λh=>h2 (of_decide_eq_false h)⟩
section
variable{J:Prop}{j:Tag J}{op:Op}{o:Tag op}
theorem qh{id:Nat}{g:Tag K}(hc:qb P f pats res)(hs:SubL hp pats args)(hf:Fresh res)(hk:K (St.put ⟨fr,hp,nid⟩ d res)):Kl P O j d id fr hp nid K g f args:=.inl ⟨res,.inl ⟨pats,hc,.inl ⟨hs,hf⟩⟩,hk⟩
theorem zC{id:Nat}{g:Tag K}(hc:qb P f pats res)(hs:SubL [] pats args)(hk:K (St.put ⟨fr,hp,nid⟩ d res)):Kl P O j d id fr hp nid K g f args:=.inl ⟨res,.inl ⟨pats,hc,.inr hs⟩,hk⟩
theorem callN{id:Nat}{g:Tag K}{b:Blk}(hc:zX P f pats b res)(hs:SubL hp pats args)(hf:FreshO res)(hb:FreshB b)(hk:K (St.put ⟨fr,(id,b) :: hp,nid⟩ d (setId id res))):Kl P O j d id fr hp nid K g f args:=.inr (.inl ⟨pats,b,res,hc,.inl ⟨hs,hf,hb⟩,hk⟩)
def qlV(P:Program)(rs:List ResultVar)(d:Option Tmp)(fr:List (Nat×SV))(K:St→Prop):Ex→St→Prop
 |.exit _,_=>False
 |.normal,st'=>resultsVC P rs st' λm=>K (St.put ⟨fr,st'.hp,st'.nid⟩ d (oneSV m))
 |.ret,st'=>resultsVC P rs st' λm=>K (St.put ⟨fr,st'.hp,st'.nid⟩ d (oneSV m))
theorem qqe (hm : P.follows .mixedOrders = true) {fn : Func} {c : Code} {d : Option Tmp} {id : Nat} {fr : List (Nat × SV)} {hp : List (Nat × Blk)} {nid : Nat} {K : St → Prop} {g : Tag K} {f : FuncId} {args : List SV} (hJ : J) (hf : P.funcs[f]? = some fn) (hb : fn.body = some c) (hname : (fn.name == "runtime.NumGoroutine") = false) (hok : QG fn.ntmps c = true) (hlen : args.length ≤ fn.ntmps)
  (h:∀out:List Fr,vc P ⟨out,id,false,jc⟩ c ⟨argFr 0 args,hp,id⟩ (qlV P fn.results.toList d fr K)):Kl P O j d id fr hp nid K g f args:=
 .inr (.inr ⟨hJ,qfP hm hf hb hname hok hlen λout=>by
  have e:(λ(e:Ex)(st':St)=>match e with|.exit _=>False|_=>resultsVC P fn.results.toList st' (λm=>(λ(st':St)(res:SV)=>K (st'.put d res)) ⟨fr,st'.hp,st'.nid⟩ (oneSV m)))=qlV P fn.results.toList d fr K:=by
   funext e st';cases e<;>rfl
  have hh:=h out;rw[←e]at hh;exact hh⟩)
theorem WF{id:Nat}{g:Tag K}{t:TypeId}{o:Tag (Op.range t x)}{get:Value→SV}{mi:vb}(hJ:J)(hx:env (look fr) x=.mp mid)(ht:qD P t=some mi)(hb:blk hp mid=some (.map fit dom get))
  (h:∀(stamp:Value→Nat)(clk:Nat),(∀k,dom k=true→stamp k<clk)→(∀k k',dom k=true→dom k'=true→stamp k=stamp k'→k=k')→
   K (St.put ⟨fr,(id,.iter mid clk [] clk) :: setBlk hp mid (.mapS fit dom get stamp clk),id+1⟩ d (.ptr id 0))):qfW P O j o d id fr hp K g:=⟨hJ,VK hx ht hb h⟩
theorem qcu{id:Nat}{g:Tag K}{o:Tag (Op.next x false)}{iid clk:Nat}{seen:List Nat}{get:Value→SV}(hJ:J)(hx:env (look fr) x=.ptr iid 0)(hbi:blk hp iid=some (.iter mid clk seen clk))(hbm:blk hp mid=some (.mapS fit dom get stamp clk))
  (h1:∀k,fit k=true→dom k=true→stamp k∉seen→K (St.put ⟨fr,setBlk hp iid (.iter mid clk (seen++[stamp k]) clk),id⟩ d (.tup [.val (.bool true),.val k,get k])))
  (h2:(∀k,dom k=true→stamp k∈seen)→K (St.put ⟨fr,hp,id⟩ d (.tup [.val (.bool false)]))):qfW P O j o d id fr hp K g:=⟨hJ,Y7 hx hbi hbm h1 h2⟩
theorem Gf{s:SV}{id:Nat}{g:Tag K}{o:Tag (Op.entry x)}{iid clk:Nat}{seen:List Nat}{get:Value→SV}{k:Value}(hJ:J)(hx:env (look fr) x=.ptr iid 0)(hbi:blk hp iid=some (.iter mid clk (seen++[stamp k]) clk))(hbm:blk hp mid=some (.mapS fit dom get stamp clk))
  (hd:dom k=true) (hs:qhA s k) (h:K (St.put ⟨fr,hp,id⟩ d (.tup [s,get k]))):qfW P O j o d id fr hp K g:=⟨hJ,qfR hx hbi hbm hd hs h⟩
end
theorem qae(rs:List ResultVar)(d:Option Tmp)(fr fr':List (Nat×SV))(hp:List (Nat×Blk))(nid:Nat)(K:St→Prop):qlV P rs d fr K .normal ⟨fr',hp,nid⟩=resultsVC P rs ⟨fr',hp,nid⟩ (λm=>K (St.put ⟨fr,hp,nid⟩ d (oneSV m))):=rfl
theorem qhP(rs:List ResultVar)(d:Option Tmp)(fr fr':List (Nat×SV))(hp:List (Nat×Blk))(nid:Nat)(K:St→Prop):qlV P rs d fr K .ret ⟨fr',hp,nid⟩=resultsVC P rs ⟨fr',hp,nid⟩ (λm=>K (St.put ⟨fr,hp,nid⟩ d (oneSV m))):=rfl
def Zq(P:Program)(rs:List ResultVar)(st:St)(K:List SV→Prop)(_:Tag K):Prop:=resultsVC P rs st K
theorem qaf(rs:List ResultVar)(st:St)(K:List SV→Prop):resultsVC P rs st K=Zq P rs st K .mk:=rfl
theorem qgh(st:St)(K:List SV→Prop)(g:Tag K):Zq P [] st K g=K []:=rfl
theorem qgi(t:Tmp)(rs:List ResultVar)(st:St)(K:List SV→Prop)(g:Tag K):Zq P (.tmp t :: rs) st K g=Zq P rs st (λm=>K (look st.fr t :: m)) .mk:=rfl
def qdF(P:Program)(rs:List ResultVar)(st:St)(K:List SV→Prop)(_:Tag K)(x:Res):Prop:=match x with
 |.pure obl sv=>obl∧Zq P rs st (λm=>K (sv :: m)) .mk
 |.ex obl=>∃sv,obl sv∧Zq P rs st (λm=>K (sv :: m)) .mk
 |_=>False
theorem qcv(t:Tmp)(ty:TypeId)(rs:List ResultVar)(st:St)(K:List SV→Prop)(g:Tag K):Zq P (.cell t ty :: rs) st K g=qdF P rs st K .mk (rLoad (qk P ty) st.hp (look st.fr t)):=rfl
theorem qcw(rs:List ResultVar)(st:St)(K:List SV→Prop)(g:Tag K)(obl:Prop)(sv:SV):qdF P rs st K g (.pure obl sv)=(obl∧Zq P rs st (λm=>K (sv :: m)) .mk):=rfl
theorem qgj(rs:List ResultVar)(st:St)(K:List SV→Prop)(g:Tag K)(r:SV):qdF P rs st K g (.ex λs=>some r=some s)=Zq P rs st (λm=>K (r :: m)) .mk:=by simp[qdF]
theorem K3(y:Nat)(L:Loop)(B:Code)(K:Ex→St→Prop)(fr:List (Nat×SV))(hp:List (Nat×Blk))(nid:Nat):Ja P O y L B K .normal ⟨fr,hp,nid⟩=(Zn L (blk hp y)∧vc P O B ⟨fr,setBlk hp y (.loop L .busy),nid⟩ K):=rfl
theorem K4(y:Nat)(L:Loop)(fr fr':List (Nat×SV))(K:St→SV→Prop)(hp:List (Nat×Blk))(nid:Nat):yi y L fr K .normal ⟨fr',hp,nid⟩=(QH L (blk hp y)∧K ⟨fr,setBlk hp y (.loop L .ready),nid⟩ (.val (.bool true))):=rfl
theorem WG(y:Nat)(L:Loop)(fr fr':List (Nat×SV))(K:St→SV→Prop)(hp:List (Nat×Blk))(nid:Nat):yi y L fr K .ret ⟨fr',hp,nid⟩=(QH L (blk hp y)∧K ⟨fr,setBlk hp y (.loop L .retd),nid⟩ (.val (.bool false))):=rfl
theorem Vh(y:Nat)(L:Loop)(fr fr':List (Nat×SV))(K:St→SV→Prop)(hp:List (Nat×Blk))(nid i:Nat):yi y L fr K (.exit i) ⟨fr',hp,nid⟩=(QH L (blk hp y)∧K ⟨fr,setBlk hp y (.loop L (.left i)),nid⟩ (.val (.bool false))):=rfl
def Jc(L:Loop)(fr:List (Nat×SV))(K:Ex→St→Prop)(_:Tag K)(hp:List (Nat×Blk))(nid id:Nat)(o:Option Blk):Prop:=vU L fr K hp nid id o
theorem K5(id:Nat)(L:Loop)(fr fr':List (Nat×SV))(K:Ex→St→Prop)(hp:List (Nat×Blk))(nid:Nat):vi id L fr K .normal ⟨fr',hp,nid⟩=Jc L fr K .mk hp nid id (blk hp id):=rfl
theorem WH(id:Nat)(L:Loop)(fr fr':List (Nat×SV))(K:Ex→St→Prop)(hp:List (Nat×Blk))(nid:Nat):vi id L fr K .ret ⟨fr',hp,nid⟩=Jc L fr K .mk hp nid id (blk hp id):=rfl
theorem WI(L L':Loop)(fr:List (Nat×SV))(K:Ex→St→Prop)(g:Tag K)(hp:List (Nat×Blk))(nid id:Nat):Jc L fr K g hp nid id (some (.loop L' .ready))=(L'=L∧K .normal ⟨fr,dropBlk hp id,nid⟩):=rfl
theorem qag(L L':Loop)(fr:List (Nat×SV))(K:Ex→St→Prop)(g:Tag K)(hp:List (Nat×Blk))(nid id:Nat):Jc L fr K g hp nid id (some (.loop L' .retd))=(L'=L∧K .ret ⟨fr,dropBlk hp id,nid⟩):=rfl
theorem qah(L L':Loop)(fr:List (Nat×SV))(K:Ex→St→Prop)(g:Tag K)(hp:List (Nat×Blk))(nid id i:Nat):Jc L fr K g hp nid id (some (.loop L' (.left i)))=(L'=L∧K (.exit i) ⟨fr,dropBlk hp id,nid⟩):=rfl
theorem Vi(L L':Loop):Zn L (some (.loop L' .ready))=(L'=L):=rfl
theorem qai(L L':Loop):QH L (some (.loop L' .busy))=(L'=L):=rfl
end
end Go.Sx
end
