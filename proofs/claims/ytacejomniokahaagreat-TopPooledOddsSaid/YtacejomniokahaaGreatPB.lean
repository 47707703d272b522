/- A part of the proof. -/
import Derived.OrdersIn
import Derived.TacticsIn
import Derived.RangeFuncLeaves
import Derived.RangeFuncRecord
import Derived.Scope
import Derived.Test.YtacejomniokahaaGreatPA
open Nat renaming le_refl→xa5,mul_le_mul_right→xa8,lt_of_lt_of_le→xa9,zero_add→xb0,add_zero→xb1,lt_succ_self→xb5,zero_le→xb6,le_trans→xc1,le_succ→xc4,add_comm→xc5
open List renaming getD_eq_getElem?_getD→xc6,getElem?_eq_getElem→xc7,getElem?_append_left→xc9,getElem?_append_right→xd0,mem_append→xd4,mem_cons_self→xd5,length_cons→xe4
open Bool renaming and_eq_true→xe6,false_eq_true→xe7,or_eq_true→xe8,false_or→xf4
open Array renaming getD_eq_getD_getElem?→xf5,getElem?_toList→xf6
open Classical renaming byContradiction→xf9
open Option renaming getD_some→xg0,map_some→xg1
set_option linter.unusedVariables false
set_option linter.unusedSimpArgs false
set_option maxRecDepth 1000000
set_option maxHeartbeats 16000000
section
namespace Go.Sx
open Go.RowKit
def env(F:Nat→SV):Operand→SV
 |.tmp t=>F t
 |.const v=>.val v
 |.global _=>.top
 |.func f=>.fn (.func f) [] []
def envs(F:Nat→SV):List Operand→List SV
 |[]=>[]
 |x :: l=>env F x :: envs F l
def rLen(ti:Option TyI)(x:SV):Res:=
 match ti with
 |some ⟨_,_,_,.slice _ _⟩=>
  match x with
  |.arr _ _ n _ _=>.pure True (.val (.int .i64 n))
  |.vec _ n _=>.pure True (.val (.int .i64 n))
  |.asl _ _ n _=>.pure True (.val (.int .i64 n))
  |.que _ _ n _=>.pure True (.val (.int .i64 n))
  |.cut _ n _=>.pure True (.val (.int .i64 n))
  |.val (.slice none 0 0)=>.pure True (.val (.int .i64 0))
  |_=>.bad
 |some ⟨_,_,_,.array n _ _⟩=>.pure True (.val (.int .i64 n))
 |_=>.bad
def rMin2(mx:Bool):SV→SV→SV
 |.val (.int k a),.val (.int k' b)=>if eqKind k k'=true then .val (.int k (if mx then max a b else min a b))else .top
 |_,_=>.top
def rMin(mx:Bool):List SV→Res
 |[a,b]=>match rMin2 mx a b with
  |.val v=>.pure True (.val v)
  |_=>.bad
 |[a,b,c]=>match rMin2 mx (rMin2 mx a b) c with
  |.val v=>.pure True (.val v)
  |_=>.bad
 |_=>.bad
def envp(F:Nat→SV):List (Nat×Operand)→List (Nat×SV)
 |[]=>[]
 |x :: l=>(x.1,env F x.2) :: envp F l
def rCall(P:Program)(fr:Nat→SV)(hp:List (Nat×Blk))(c:Call):Res:=
 match c.callee with
 |.value f=>match env fr f with
  |.fn (.func g) first caps=>.call g (first++(envs fr c.args.toList++caps))
  |.yld id=>.yield id (envs fr c.args.toList)
  |_=>.bad
 |.builtin .len=>match c.args.toList,c.argTypes.toList with
  |[x],[t]=>rLen (qn P t) (env fr x)
  |_,_=>.bad
 |.builtin .min=>rMin false (envs fr c.args.toList)
 |.builtin .max=>rMin true (envs fr c.args.toList)
 |.builtin .append=>match c.args.toList,c.argTypes.toList with
  |[s,x],[t,t']=>if t=t' then rAppend P t hp (env fr s) (env fr x)else .bad
  |_,_=>.bad
 |.builtin .copy=>match c.args.toList,c.argTypes.toList with
  |[d,x],[t,t']=>rCopy P t hp (env fr d) (env fr x)
  |_,_=>.bad
 |.builtin .clear=>match c.args.toList,c.argTypes.toList with
  |[d],[t]=>match env fr d with
   |.mp id=>rClearMap (qy P t) hp (.mp id)
   |x=>rClear P t hp x
  |_,_=>.bad
 |.builtin .delete=>match c.args.toList,c.argTypes.toList with
  |[m,k],[t,t']=>rDelete (qy P t) hp (env fr m) (env fr k)
  |_,_=>.bad
 |_=>.bad
def rIndex(P:Program)(t:TypeId)(x i:SV):Res:=
 match i with
 |.val (.int _ i)=>match qn P t,x with
  |some ⟨_,_,_,.array n e k⟩,.agg l=>match qn P e with
   |some ⟨true,_,_,_⟩=>.pure (0≤i∧i<n∧i.toNat*k+k≤l.length) (.agg ((l.drop (i.toNat*k)).take k))
   |some ⟨false,_,_,_⟩=>.ex (fun s=>0≤i∧i<n∧k=1∧l[i.toNat]? = some s)
   |none=>.bad
  |some ⟨_,_,_,.other⟩,.val (.string s)=>match P.underlying t with
   |some .string=>.ex (fun sv=>0≤i∧∃b,s[i.toNat]? = some b∧sv=.val (.int .u8 b.toNat))
   |_=>.bad
  |_,_=>.bad
 |_=>.bad
def stepR(P:Program)(fr:Nat→SV)(hp:List (Nat×Blk))(op:Op):Res:=
 match op with
 |.move x=>.pure True (env fr x)
 |.assign x=>.pure True (env fr x)
 |.pick c a b=>rPick (env fr c) (env fr a) (env fr b)
 |.alloc t=>rAlloc (qn P t) t
 |.box t x=>rBox (qn P t) t (env fr x)
 |.load t x=>rLoad (qn P t) hp (env fr x)
 |.store t a x=>rStore (qn P t) hp (env fr a) (env fr x)
 |.nilCheck x=>rNil (env fr x)
 |.binOp op t x y _=>rBin P op t (env fr x) (env fr y)
 |.unOp op _ x=>rUn op (env fr x)
 |.convert s t x=>rConv (qn P s) (qn P t) (env fr x)
 |.makeFunc f fs cs=>.pure True (.fn f (envs fr fs.toList) (envs fr cs.toList))
 |.fieldAddr t x i=>rFieldAddr (qn P t) (env fr x) i
 |.field t x i=>rField (qn P t) (env fr x) i
 |.indexAddr t x i=>rIndexAddr (qn P t) (env fr x) (env fr i)
 |.extract x i=>rExtract (env fr x) i
 |.call c=>rCall P fr hp c
 |.build t parts=>rBuild P t (envp fr parts.toList)
 |.buildSlice t len parts=>rBuildSlice P t len (envp fr parts.toList)
 |.makeSlice t l c=>rMakeSlice P t (env fr l) (env fr c)
 |.slice t x lo hi mx=>rSlice (qn P t) (env fr x) (lo.map (env fr)) (hi.map (env fr)) (mx.map (env fr))
 |.makeMap t rs=>rMakeMap (qy P t) rs.isSome
 |.lookup t x k ok=>rLookup (qy P t) hp (env fr x) (env fr k) ok
 |.mapUpdate t m k x=>rUpdate (qy P t) hp (env fr m) (env fr k) (env fr x)
 |.insert t m k x=>rUpdate (qy P t) hp (env fr m) (env fr k) (env fr x)
 |.index t x i=>rIndex P t (env fr x) (env fr i)
 |.range _ _=>.raw
 |.next _ _=>.raw
 |.entry _=>.raw
 |_=>.bad
section
variable{P:Program}{base:World}{okc:Nat→Prop}{r:Nat→Option Nat}{N:Nat→Prop}{w:World}{hp:List (Nat×Blk)}
def Za(P:Program)(base:World)(okc:Nat→Prop)(r:Nat→Option Nat)(N:Nat→Prop)(hp:List (Nat×Blk))(w:World)(id:Nat)(hp':List (Nat×Blk))(a:Act)(dst:Option Tmp)(K:Act→World→Prop):Res→Prop
 |.bad=>False
 |.pure obl sv=>obl∧∀v,Rep r N (Gd base okc r N hp w) w sv v→K (a.put dst v) w
 |.ex obl=>∃sv,obl sv∧∀v,Rep r N (Gd base okc r N hp w) w sv v→K (a.put dst v) w
 |.new obl b mk=>obl∧¬N id∧blk hp' id=some b∧(∀j,N j→blk hp' j=blk hp j)∧∀v w' r',Step base okc r N hp w r' (zd N id) hp' w'→Rep r' (zd N id) (Gd base okc r' (zd N id) hp' w') w' (mk id) v→K (a.put dst v) w'
 |.upd obl j b=>obl∧∀w',Step base okc r N hp w r N (setBlk hp j b) w'→K (a.put dst undef) w'
 |.updv obl j b sv=>obl∧∀v w',Step base okc r N hp w r N (setBlk hp j b) w'→Rep r N (Gd base okc r N (setBlk hp j b) w') w' sv v→K (a.put dst v) w'
 |.grow obl old b mk=>obl∧¬N id∧∃hp2,blk hp2 id=some b∧(∀j,N j→j≠old→blk hp2 j=blk hp j)∧blk hp2 old=none∧∀v w' r',Step base okc r N hp w r' (zd N id) hp2 w'→Rep r' (zd N id) (Gd base okc r' (zd N id) hp2 w') w' (mk id) v→K (a.put dst v) w'
 |.call f args=>(∃res,CanC P hp f args res∧∀v w',Step base okc r N hp w r N hp w'→Rep r N (Gd base okc r N hp w') w' res v→K (a.put dst v) w')∨
  (∃pats b res,zp P f pats b res∧NewOk hp pats args b res∧¬N id∧∃hp2,blk hp2 id=some b∧(∀j,N j→blk hp2 j=blk hp j)∧∀v w' r',Step base okc r N hp w r' (zd N id) hp2 w'→Rep r' (zd N id) (Gd base okc r' (zd N id) hp2 w') w' (setId id res) v→K (a.put dst v) w')
 |.yield _ _=>False
 |.raw=>False
theorem qeV(fr:Nat→SV)(l:List Operand)(i:Nat):(envs fr l)[i]? =(l[i]?).map (env fr):=by
 induction l generalizing i with
 |nil=>simp[envs]
 |cons a l ih=>cases i<;>simp[envs,ih]
theorem We(fr:Nat→SV)(l:List Operand):(envs fr l).length=l.length:=by induction l<;>simp[envs, *]
def qof:Res→Bool
 |.pure _ _=>true
 |.ex _=>true
 |.new _ _ _=>true
 |.bad=>true
 |_=>false
theorem qbu{o:Oper}{a:Act}{K:Act→World→Prop}{Q:Exit→Act→World→Prop}{id:Nat}{hp':List (Nat×Blk)}{s:Sem Value}{res:Res}
  (hr:execOp a.eval o=(do pure (.value (←s)))) (hg:Kl P r N (Gd base okc r N hp w) w s res)
  (hn:Ql P base okc r N hp w s res) (hu:qof res=true) (h:Za P base okc r N hp w id hp' a o.dst K res):o.wp P a w K Q:=by
 unfold Oper.wp;rw[hr,Sem.run_bind];cases res with
 |bad=>exact h.elim
 |pure obl sv=>
  obtain⟨v,hv,hrep⟩:=hg h.1;rw[hv];exact h.2 v hrep
 |ex obl=>
  obtain⟨sv,ho,hk⟩:=h;obtain⟨v,hv,hrep⟩:=hg sv ho;rw[hv];exact hk v hrep
 |new obl b mk=>
  obtain⟨h0,h1,h2,h3,h4⟩:=h;obtain⟨v,w',r',hv,hs,hrep⟩:=hn h0 id hp' h1 h2 h3;rw[hv];exact h4 v w' r' hs hrep
 |upd obl j b=>cases hu
 |call f args=>cases hu
 |updv obl j b sv=>cases hu
 |grow obl old b mk=>cases hu
 |yield _ _=>cases hu
 |raw=>cases hu
theorem Kv{o:Oper}{a:Act}{K:Act→World→Prop}{Q:Exit→Act→World→Prop}{id:Nat}{hp':List (Nat×Blk)}{s:Sem Unit}{res:Res}
  (hr:execOp a.eval o=(do s;pure .skip)) (hu:qeP P base okc r N hp w s res)
  (hb:(∃obl j b,res=.upd obl j b)∨res=.bad) (h:Za P base okc r N hp w id hp' a o.dst K res):o.wp P a w K Q:=by
 unfold Oper.wp;rw[hr,Sem.run_bind];rcases hb with⟨obl,j,b,rfl⟩|rfl
 ·obtain⟨w',hv,hs⟩:=hu h.1
  rw[hv];exact h.2 w' hs
 ·exact h.elim
theorem wh(ti:Option TyI)(hp:List (Nat×Blk))(a v:SV):(∃obl j b,rStore ti hp a v=.upd obl j b)∨rStore ti hp a v=.bad:=by
 unfold rStore;split
 ·split
  ·split
   ·exact .inl ⟨_,_,_,rfl⟩
   ·exact .inr rfl
  ·split
   ·exact .inl ⟨_,_,_,rfl⟩
   ·exact .inr rfl
  ·exact .inr rfl
 ·split
  ·split
   ·split
    ·exact .inl ⟨_,_,_,rfl⟩
    ·exact .inr rfl
   ·split
    ·exact .inl ⟨_,_,_,rfl⟩
    ·exact .inr rfl
   ·exact .inr rfl
  ·exact .inr rfl
 ·exact .inr rfl
def jJ:Res→Bool
 |.pure _ _=>true
 |.ex _=>true
 |.bad=>true
 |_=>false
theorem ga{o:Oper}{a:Act}{K:Act→World→Prop}{Q:Exit→Act→World→Prop}{id:Nat}{hp':List (Nat×Blk)}{s:Sem Value}{res:Res}
  (hr:execOp a.eval o=(do pure (.value (←s)))) (hg:Kl P r N (Gd base okc r N hp w) w s res) (hs:jJ res=true) (h:Za P base okc r N hp w id hp' a o.dst K res):o.wp P a w K Q:=
 qbu hr hg (by cases res<;>first|trivial|(simp[jJ]at hs)) (by cases res<;>first|rfl|(simp[jJ]at hs)) h
theorem Zb{o:Oper}{a:Act}{K:Act→World→Prop}{Q:Exit→Act→World→Prop}{id:Nat}{hp':List (Nat×Blk)}{s:Sem Value}{res:Res}
  (hr:execOp a.eval o=(do pure (.value (←s)))) (hg:Ql P base okc r N hp w s res) (hs:(∃obl b mk,res=.new obl b mk)∨res=.bad) (h:Za P base okc r N hp w id hp' a o.dst K res):o.wp P a w K Q:=
 qbu hr (by rcases hs with⟨_,_,_,rfl⟩|rfl<;>trivial) hg (by rcases hs with⟨_,_,_,rfl⟩|rfl<;>rfl) h
theorem J4{fr:Nat→SV}{a:Act}(x:Operand)(ha:∀i,x=.tmp i→Rep r N (Gd base okc r N hp w) w (fr i) (a.tmps.getD i undef)):Rep r N (Gd base okc r N hp w) w (env fr x) (a.eval x):=by
 cases x with
 |tmp t=>exact ha t rfl
 |const v=>exact .val v
 |global g=>exact .top _
 |func f=>exact .fn _ _ _ _ _ rfl rfl (fun i sv h=>by simp at h) (fun i sv h=>by simp at h)
theorem wi{fr:Nat→SV}{a:Act}(xs:Array Operand)(ha:∀x,x∈xs→Rep r N (Gd base okc r N hp w) w (env fr x) (a.eval x)) :
  (envs fr xs.toList).length=(xs.map a.eval).size∧∀i sv,(envs fr xs.toList)[i]? = some sv→Rep r N (Gd base okc r N hp w) w sv ((xs.map a.eval).getD i undef):=by
 refine⟨by simp[We],fun i sv hi=>?_⟩;rw[qeV]at hi;cases hx:xs.toList[i]? with
 |none=>simp[hx]at hi
 |some x=>
  simp only[hx,xg1,Option.some.injEq]at hi;subst hi;have:xs[i]? = some x:=by simpa using hx
  simp only[xf5,Array.getElem?_map,this,xg1,xg0];exact ha x (Array.mem_of_getElem? this)
theorem vo{l m:List SV}{cs ds:Array Value}(hl:l.length=cs.size)(hm:m.length=ds.size){G:Bool→Nat→Prop}(h:∀i sv,l[i]? = some sv→Rep r N G w sv (cs.getD i undef))(h':∀i sv,m[i]? = some sv→Rep r N G w sv (ds.getD i undef)) :
  (l++m).length=(cs++ds).size∧∀i sv,(l++m)[i]? = some sv→Rep r N G w sv ((cs++ds).getD i undef):=by
 refine⟨by simp[hl,hm],fun i sv hi=>?_⟩;by_cases hlt:i<l.length
 ·rw[xc9 hlt]at hi
  have:(cs++ds).getD i undef=cs.getD i undef:=by
   simp only[xf5];rw[Array.getElem?_append_left Ω]
  rw[this];exact h i sv hi
 ·rw[xd0 Ω]at hi
  have:(cs++ds).getD i undef=ds.getD (i - l.length) undef:=by
   simp only[xf5];rw[Array.getElem?_append_right Ω,hl]
  rw[this];exact h' _ sv hi
theorem qeW{f:FuncId}{args:List SV}{vs:Array Value}(h:Sat base okc r N hp w)(hl:args.length=vs.size)(ha:∀i sv,args[i]? = some sv→Rep r N (Gd base okc r N hp w) w sv (vs.getD i undef))
  {res:SV} (hcc:CanC P hp f args res) {o:Oper} {a:Act} {K:Act→World→Prop} {Q:Exit→Act→World→Prop}
  (hk:∀v w',Step base okc r N hp w r N hp w'→Rep r N (Gd base okc r N hp w') w' res v→K (a.put o.dst v) w'):o.upon P a K Q ((callFunc f vs).run P w):=by
 rcases hcc with⟨pats,hc,hs⟩|⟨i,hc,hi⟩
 rotate_left
 ·obtain⟨⟨fn,hf,hname,hbody⟩,hc⟩:=hc
  have hrun:(callFunc f vs).run P w=.ok (.enter f vs) w:=by
   have:fn.body.isNone=false:=by cases hb:fn.body<;>simp_all
   simp only[callFunc,Sem.run_bind,run_program,Result.andThen_ok,hf,hname,xe7,if_false,this,Sem.run_pure]
  rw[hrun,Oper.upon_enter];have⟨hr,ho⟩:=Sh.rep ha hi;refine(hc w vs hl ho).mono fun e w'=>?_;rintro⟨rfl,hb⟩;have hst:=h.grow hb;exact hk _ w' hst (hst.rep hr)
 obtain⟨⟨fn,hf,hname,hbody⟩,hc⟩:=hc;have hrun:(callFunc f vs).run P w=.ok (.enter f vs) w:=by
  have:fn.body.isNone=false:=by cases hb:fn.body<;>simp_all
  simp only[callFunc,Sem.run_bind,run_program,Result.andThen_ok,hf,hname,xe7,if_false,this,Sem.run_pure]
 rw[hrun,Oper.upon_enter];rcases hs with⟨hs,hfr⟩|hs
 ·have hlen:=(kf hs).1
  refine(hc (fun _=>True) w vs (hlen.trans hl) (fun i sv hi=>sub_repL (G:=Gd base okc r N hp w) (fun _ _ b _ hb=>⟨trivial,hb.1⟩) (fun id x hx hN=>⟨h.rep id x hx hN,fun b hb _=>⟨trivial,h.lt hx hN hb⟩⟩) pats args vs hs hl ha i sv hi)).mono fun e w'=>?_;rintro⟨v,rfl,hb,hrep⟩;have hst:=h.grow hb;refine hk v w' hst (qdu (fun b hb'=>⟨hb'.1,fun id x hx hN e=>?_,?_⟩) hrep hfr)
  ·have:=h.lt hx hN e
   have:=hb'.2;simp only[if_true]at this;omega
  ·have:=hb'.2
   simp only[if_true]at this ⊢;have:=h.below.size;omega
 ·have hlen:=(kf hs).1
  refine(hc (fun b=>Gd base okc r N hp w false b) w vs (hlen.trans hl) (fun i sv hi=>sub_repL (hp:=[]) (G:=Gd base okc r N hp w) (fun _ o' b _ hb=>⟨⟨hb.1,hb.2.1,(by have:=hb.2.2;cases o'<;>simp_all)⟩,hb.1⟩) (fun id x hx hN=>by simp[blk]at hx) pats args vs hs hl ha i sv hi)).mono fun e w'=>?_;rintro⟨v,rfl,hb,hrep⟩;have hst:=h.grow hb;refine hk v w' hst (zV (fun o b hb'=>?_) hrep);obtain⟨h1,h2⟩:=hb';have hsz:=h.below.size;cases o with
  |true=>
   simp only[if_true]at h2;exact⟨h1,fun id x hx hN e=>by have:=h.lt hx hN e;omega,by simp only[if_true];omega⟩
  |false=>
   simp only[xe7,if_false]at h2;rcases h2 with h2|h2
   ·exact⟨h1,h2.2.1,h2.2.2⟩
   ·exact⟨h1,fun id x hx hN e=>by have:=h.lt hx hN e;omega,by simp only[xe7,if_false];right;omega⟩
theorem Jh{f:FuncId}{args:List SV}{vs:Array Value}(h:Sat base okc r N hp w)(hl:args.length=vs.size)(ha:∀i sv,args[i]? = some sv→Rep r N (Gd base okc r N hp w) w sv (vs.getD i undef))
  {pats:List SV} {bb:Blk} {res:SV} (hc:zp P f pats bb res) (hs:NewOk hp pats args bb res) {id:Nat} (hid:¬N id) {hp2:List (Nat×Blk)} (hat:blk hp2 id=some bb) (hoth:∀j,N j→blk hp2 j=blk hp j) {o:Oper} {a:Act} {K:Act→World→Prop} {Q:Exit→Act→World→Prop}
  (hk:∀v w' r',Step base okc r N hp w r' (zd N id) hp2 w'→Rep r' (zd N id) (Gd base okc r' (zd N id) hp2 w') w' (setId id res) v→K (a.put o.dst v) w'):o.upon P a K Q ((callFunc f vs).run P w):=by
 obtain⟨⟨fn,hf,hname,hbody⟩,hc⟩:=hc;have hrun:(callFunc f vs).run P w=.ok (.enter f vs) w:=by
  have:fn.body.isNone=false:=by cases hb:fn.body<;>simp_all
  simp only[callFunc,Sem.run_bind,run_program,Result.andThen_ok,hf,hname,xe7,if_false,this,Sem.run_pure]
 rw[hrun,Oper.upon_enter];rcases hs with⟨hs,hfo,hfb⟩|⟨hs,hfo,hfb⟩
 ·have hlen:=(kf hs).1
  refine(hc (fun _=>True) w vs (hlen.trans hl) (fun i sv hi=>sub_repL (G:=Gd base okc r N hp w) (fun _ _ b _ hb=>⟨trivial,hb.1⟩) (fun id x hx hN=>⟨h.rep id x hx hN,fun b hb _=>⟨trivial,h.lt hx hN hb⟩⟩) pats args vs hs hl ha i sv hi)).mono fun e w'=>?_;rintro⟨v,ob,rfl,hb,hob,hblk,hrep⟩;have hst:=h.exch (w':=w') id hid none (hp':=hp2) bb ob hat (fun j hj _=>hoth j hj) (fun o ho=>by cases ho) (h.below.trans (hb.mono h.below.size)) (Shapes.below hb) hb.size (fun c hc _=>hb.block c hc) (fun c hc=>.inr (hob c hc)) fun r' N' G' _ _ _ hnew=>
   qiM (fun c hc=>by
    have h2:=hc.2.2;simp only[if_true]at h2;exact hnew true c h2 hc.1 hc.2.1) hblk hfb
  refine hk v w' _ hst (qiL (ob:=ob) (qt _ _ _) (.inr rfl) (fun c hc=>?_) hrep hfo);have h2:=hc.2.2;simp only[if_true]at h2;refine⟨hc.1,fun j y hy hN=>?_,?_⟩
  ·rcases hN with e|e
   ·have hne:j≠id:=fun e'=>hid (by rw[←e'];exact e)
    rw[jT _ hne];intro e';rw[hoth j e]at hy;exact absurd (h.lt hy e e') Ω
   ·subst e;rw[qt];exact hc.2.1
  ·have:=h.below.size
   simp only[if_true];omega
 ·have hlen:=(kf hs).1
  refine(hc (fun b=>Gd base okc r N hp w false b) w vs (hlen.trans hl) (fun i sv hi=>sub_repL (hp:=[]) (G:=Gd base okc r N hp w) (fun _ o' b _ hb=>⟨⟨hb.1,hb.2.1,(by have:=hb.2.2;cases o'<;>simp_all)⟩,hb.1⟩) (fun id x hx hN=>by simp[blk]at hx) pats args vs hs hl ha i sv hi)).mono fun e w'=>?_;rintro⟨v,ob,rfl,hb,hob,hblk,hrep⟩;have hst:=h.exch (w':=w') id hid none (hp':=hp2) bb ob hat (fun j hj _=>hoth j hj) (fun o ho=>by cases ho) (h.below.trans (hb.mono h.below.size)) (Shapes.below hb) hb.size (fun c hc _=>hb.block c hc) (fun c hc=>.inr (hob c hc)) fun r' N' G' _ _ hold hnew=>
   qlz (fun o c hc=>by
    obtain⟨h0,h1,h2⟩:=hc;cases o with
    |true=>simp only[if_true]at h2;exact hnew true c h2 h0 h1
    |false=>
     simp only[xe7,if_false]at h2;rcases h2 with h2|h2
     ·exact(hold false c h2).1
     ·exact hnew false c h2 h0 h1) hblk hfb
  refine hk v w' _ hst (qly (ob:=ob) (qt _ _ _) (.inr rfl) (fun o c hc=>?_) hrep hfo);obtain⟨g0,g1,g2⟩:=hc;have hbs:=h.below.size;have key:w.heap.size≤c∨Gd base okc r N hp w o c:=by
   cases o with
   |true=>simp only[if_true]at g2;exact .inl g2
   |false=>
    simp only[xe7,if_false]at g2;rcases g2 with g2|g2
    ·exact .inr g2
    ·exact .inl g2
  rcases key with key|key
  ·refine⟨g0,fun j y hy hN=>?_,?_⟩
   ·rcases hN with e|e
    ·have hne:j≠id:=fun e'=>hid (by rw[←e'];exact e)
     rw[jT _ hne];intro e';rw[hoth j e]at hy;exact absurd (h.lt hy e e') Ω
    ·subst e;rw[qt];exact g1
   ·cases o<;>simp only[if_true,xe7,if_false]<;>first|omega|(right;omega)
  ·exact(hst.gg o c key).1
theorem Kw(x y:SV){u v z:Value}{G:Bool→Nat→Prop}(hx:Rep r N G w x u)(hy:Rep r N G w y v)(h:rMin2 false x y=.val z):(Builtin.min2 u v).run P w=.ok z w:=by
 unfold rMin2 at h;split at h
 ·cases hx;cases hy
  rename_i k a k' b;split at h
  ·rename_i e
   obtain rfl:=jV e;cases h;simp only[Builtin.min2,Sem.run_pure,xe7,if_false]
   congr 2
   split<;>omega
  ·cases h
 ·cases h
theorem Kx(x y:SV){u v z:Value}{G:Bool→Nat→Prop}(hx:Rep r N G w x u)(hy:Rep r N G w y v)(h:rMin2 true x y=.val z):(Builtin.max2 u v).run P w=.ok z w:=by
 unfold rMin2 at h;split at h
 ·cases hx;cases hy
  rename_i k a k' b;split at h
  ·rename_i e
   obtain rfl:=jV e;cases h;simp only[Builtin.max2,Sem.run_pure,if_true]
   congr 2
   split<;>omega
  ·cases h
 ·cases h
theorem qiN{t ty:TypeId}{x:SV}{u:Value}{G:Bool→Nat→Prop}(hx:Rep r N G w x u){obl:Prop}{sv:SV}(h:rLen (qn P t) x=.pure obl sv):∃v,(Builtin.len_ #[t] ty #[u]).run P w=.ok v w∧Rep r N G w sv v:=by
 unfold rLen at h;split at h
 ·rename_i ag sz z e k ht
  obtain⟨i,hu,_,_⟩:=Kn ht rfl;have key:∀(a:Option Addr)(n c:Nat),(Builtin.len_ #[t] ty #[.slice a n c]).run P w=.ok (.int .i64 n) w:=fun a n c=>by
   simp[Builtin.len_,run_underlying hu,goInt]
  split at h<;>simp only[Res.pure.injEq,reduceCtorEq]at h<;>obtain⟨rfl,rfl⟩:=h<;>cases hx<;>exact⟨_,key _ _ _,.val _⟩
 ·rename_i ag sz z n e k ht
  obtain⟨i,hu,_,_⟩:=Ko ht rfl;simp only[Res.pure.injEq]at h;obtain⟨rfl,rfl⟩:=h;refine⟨.int .i64 n,?_,.val _⟩;simp[Builtin.len_,run_underlying hu,goInt]
 ·cases h
theorem ZB{α:Type}{xs:Array α}{a b:α}(h:xs.toList=[a,b]):xs = #[a,b]:=by cases xs;simp_all
theorem Ky{α:Type}{xs:Array α}{a:α}(h:xs.toList=[a]):xs = #[a]:=by cases xs;simp_all
theorem qmS{α:Type}{xs:Array α}{a b c:α}(h:xs.toList=[a,b,c]):xs = #[a,b,c]:=by cases xs;simp_all
theorem qmT{fr:Nat→SV}{l:List Operand}{a b:SV}(h:envs fr l=[a,b]):∃x y,l=[x,y]∧env fr x=a∧env fr y=b:=by
 match l,h with
 |[x,y],h=>simp only[envs,List.cons.injEq,and_true]at h;exact⟨x,y,rfl,h.1,h.2⟩
 |[],h=>simp[envs]at h
 |[x],h=>simp[envs]at h
 |x :: y :: z :: l,h=>simp[envs]at h
theorem qmU{fr:Nat→SV}{l:List Operand}{a b c:SV}(h:envs fr l=[a,b,c]):∃x y z,l=[x,y,z]∧env fr x=a∧env fr y=b∧env fr z=c:=by
 match l,h with
 |[x,y,z],h=>simp only[envs,List.cons.injEq,and_true]at h;exact⟨x,y,z,rfl,h.1,h.2.1,h.2.2⟩
 |[],h=>simp[envs]at h
 |[x],h=>simp[envs]at h
 |[x,y],h=>simp[envs]at h
 |x :: y :: z :: u :: l,h=>simp[envs]at h
theorem Kz(mx:Bool){fr:Nat→SV}{a:Act}{xs:Array Operand}(ha:∀x,x∈xs→Rep r N (Gd base okc r N hp w) w (env fr x) (a.eval x)){ts:Array TypeId}{t:TypeId}{obl:Prop}{sv:SV}(h:rMin mx (envs fr xs.toList)=.pure obl sv) :
  ∃v,(if mx=true then Builtin.max_ ts t (xs.map a.eval)else Builtin.min_ ts t (xs.map a.eval)).run P w=.ok v w∧Rep r N (Gd base okc r N hp w) w sv v:=by
 unfold rMin at h;split at h
 ·rename_i x y he
  obtain⟨ox,oy,hl,rfl,rfl⟩:=qmT he;have hxs:=ZB hl;subst hxs;split at h
  ·rename_i v hv
   simp only[Res.pure.injEq]at h;obtain⟨rfl,rfl⟩:=h;refine⟨v,?_,.val v⟩;cases mx with
   |true=>
    have:=Kx (P:=P) _ _ (ha ox Ωg) (ha oy Ωg) hv;simp[Builtin.max_,this]
   |false=>
    have:=Kw (P:=P) _ _ (ha ox Ωg) (ha oy Ωg) hv;simp[Builtin.min_,this]
  ·cases h
 ·rename_i x y z he
  obtain⟨ox,oy,oz,hl,rfl,rfl,rfl⟩:=qmU he;have hxs:=qmS hl;subst hxs;split at h
  ·rename_i v hv
   simp only[Res.pure.injEq]at h;obtain⟨rfl,rfl⟩:=h;refine⟨v,?_,.val v⟩;cases hm:rMin2 mx (env fr ox) (env fr oy)with
   |val u=>
    rw[hm]at hv;cases mx with
    |true=>
     have h1:=Kx (P:=P) _ _ (ha ox Ωg) (ha oy Ωg) hm;have h2:=Kx (P:=P) (w:=w) _ _ (.val u) (ha oz Ωg) hv;simp[Builtin.max_,h1,h2]
    |false=>
     have h1:=Kw (P:=P) _ _ (ha ox Ωg) (ha oy Ωg) hm;have h2:=Kw (P:=P) (w:=w) _ _ (.val u) (ha oz Ωg) hv;simp[Builtin.min_,h1,h2]
   |_=>rw[hm]at hv;simp[rMin2]at hv
  ·cases h
 ·cases h
theorem ZC(fr:Nat→SV)(l:List (Nat×Operand)):(envp fr l).length=l.length:=by induction l<;>simp[envp, *]
theorem qiO(fr:Nat→SV)(l:List (Nat×Operand))(i:Nat):(envp fr l)[i]? =(l[i]?).map fun x=>(x.1,env fr x.2):=by
 induction l generalizing i with
 |nil=>simp[envp]
 |cons a l ih=>cases i<;>simp[envp,ih]
theorem Wf{fr:Nat→SV}{a:Act}{G:Bool→Nat→Prop}(parts:Array (Nat×Operand))(ha:∀x,(∃i,(i,x)∈parts)→Rep r N G w (env fr x) (a.eval x))(i:Nat)(p:Nat×SV)(q:Nat×Value)(hp:(envp fr parts.toList)[i]? = some p)(hq:(parts.map fun(i,x)=>(i,a.eval x)).toList[i]? = some q) :
  p.1=q.1∧Rep r N G w p.2 q.2:=by
 rw[qiO]at hp;cases hx:parts.toList[i]? with
 |none=>rw[hx]at hp;simp at hp
 |some x=>
  rw[hx]at hp;simp only[xg1,Option.some.injEq]at hp;subst hp;have hx':parts[i]? = some x:=by simpa using hx
  simp only[xf6,Array.getElem?_map,hx',xg1,Option.some.injEq]at hq;subst hq;exact⟨rfl,ha _ ⟨x.1,Array.mem_of_getElem? hx'⟩⟩
theorem KA{fr:Nat→SV}{a:Act}{G:Bool→Nat→Prop}(x:Option Operand)(ha:∀y,x=some y→Rep r N G w (env fr y) (a.eval y)):ZM r N G w (x.map (env fr)) (x.map a.eval):=by
 cases x with
 |none=>trivial
 |some x=>exact ha x rfl
theorem jg(ti:Option TyI)(x:SV)(lo hi mx:Option SV):jJ (rSlice ti x lo hi mx)=true:=by
 unfold rSlice;(repeat' split)<;>rfl
theorem gb(t:TypeId)(parts:List (Nat×SV)):jJ (rBuild P t parts)=true:=by
 unfold rBuild;(repeat' split)<;>rfl
theorem kw(t:TypeId)(len:Nat)(parts:List (Nat×SV)):(∃obl b mk,rBuildSlice P t len parts=.new obl b mk)∨rBuildSlice P t len parts=.bad:=by
 unfold rBuildSlice;(repeat' split)<;>first|exact .inl ⟨_,_,_,rfl⟩|exact .inr rfl
theorem kS(t:TypeId)(l c:SV):(∃obl b mk,rMakeSlice P t l c=.new obl b mk)∨rMakeSlice P t l c=.bad:=by
 unfold rMakeSlice;(repeat' split)<;>first|exact .inl ⟨_,_,_,rfl⟩|exact .inr rfl
theorem vp(t:TypeId)(s x:SV):(∃obl b mk,rAppend P t hp s x=.new obl b mk)∨(∃obl o b mk,rAppend P t hp s x=.grow obl o b mk)∨rAppend P t hp s x=.bad:=by
 unfold rAppend;(repeat' split)<;>first|exact .inl ⟨_,_,_,rfl⟩|exact .inr (.inl ⟨_,_,_,_,rfl⟩)|exact .inr (.inr rfl)
theorem yH(t:TypeId)(s x:SV):(∃obl j b sv,rCopy P t hp s x=.updv obl j b sv)∨rCopy P t hp s x=.bad:=by
 unfold rCopy;(repeat' split)<;>first|exact .inl ⟨_,_,_,_,rfl⟩|exact .inr rfl
theorem wj(t:TypeId)(s:SV):(∃obl j b,rClear P t hp s=.upd obl j b)∨rClear P t hp s=.bad:=by
 unfold rClear;(repeat' split)<;>first|exact .inl ⟨_,_,_,rfl⟩|exact .inr rfl
theorem Wg(h:Sat base okc r N hp w){s x:SV}{u v:Value}(hs:Rep r N (Gd base okc r N hp w) w s u)(hx:Rep r N (Gd base okc r N hp w) w x v){t ty:TypeId}{o:Oper}{a:Act}{K:Act→World→Prop}{Q:Exit→Act→World→Prop}{id:Nat}{hp':List (Nat×Blk)}
  (he:execOp a.eval o=(do pure (.value (←Builtin.append_ #[t,t] ty #[u,v])))) (hk:Za P base okc r N hp w id hp' a o.dst K (rAppend P t hp s x)):o.wp P a w K Q:=by
 obtain⟨g1,g2⟩:=YQ (P:=P) h t ty hs hx;rcases vp (P:=P) (hp:=hp) t s x with⟨obl,b,mk,hres⟩|⟨obl,o,b,mk,hres⟩|hres
 ·rw[hres]at hk g1
  exact Zb he g1 (.inl ⟨_,_,_,rfl⟩) hk
 ·rw[hres]at hk g2
  obtain⟨h0,h1,hp2,h2,h3,h4,h5⟩:=hk;obtain⟨v,w',r',hv,hs,hrep⟩:=g2 h0 id hp2 h1 h2 h3 h4;unfold Oper.wp;rw[he,Sem.run_bind,hv];exact h5 v w' r' hs hrep
 ·rw[hres]at hk;exact hk.elim
theorem qdw(h:Sat base okc r N hp w){d x:SV}{u v:Value}(hd:Rep r N (Gd base okc r N hp w) w d u)(hx:Rep r N (Gd base okc r N hp w) w x v){t t' ty:TypeId}{o:Oper}{a:Act}{K:Act→World→Prop}{Q:Exit→Act→World→Prop}{id:Nat}{hp':List (Nat×Blk)}
  (he:execOp a.eval o=(do pure (.value (←Builtin.copy_ #[t,t'] ty #[u,v])))) (hk:Za P base okc r N hp w id hp' a o.dst K (rCopy P t hp d x)):o.wp P a w K Q:=by
 have g1:=qdr (P:=P) h t ty t' hd hx;rcases yH (P:=P) (hp:=hp) t d x with⟨obl,j,b,sv,hres⟩|hres
 ·rw[hres]at hk g1
  obtain⟨v,w',hv,hs,hrep⟩:=g1 hk.1;unfold Oper.wp;rw[he,Sem.run_bind,hv];exact hk.2 v w' hs hrep
 ·rw[hres]at hk;exact hk.elim
theorem YZ(h:Sat base okc r N hp w){d:SV}{u:Value}(hd:Rep r N (Gd base okc r N hp w) w d u){t ty:TypeId}{o:Oper}{a:Act}{K:Act→World→Prop}{Q:Exit→Act→World→Prop}{id:Nat}{hp':List (Nat×Blk)}
  (he:execOp a.eval o=(do pure (.value (←Builtin.clear_ #[t] ty #[u])))) (hk:Za P base okc r N hp w id hp' a o.dst K (rClear P t hp d)):o.wp P a w K Q:=by
 rcases wj (P:=P) (hp:=hp) t d with⟨obl,j,b,hres⟩|hres
 ·have hres':=hres
  rw[hres]at hk;obtain⟨w',hv,hs⟩:=YR (P:=P) h t ty hd hres' hk.1;unfold Oper.wp;rw[he,Sem.run_bind,hv];exact hk.2 w' hs
 ·rw[hres]at hk;exact hk.elim
theorem Y0(h:Sat base okc r N hp w){x:SV}{lo hi mx:Option SV}{u:Value}{vlo vhi vmx:Option Value}(hx:Rep r N (Gd base okc r N hp w) w x u)(hlo:ZM r N (Gd base okc r N hp w) w lo vlo)(hhi:ZM r N (Gd base okc r N hp w) w hi vhi)(hmx:ZM r N (Gd base okc r N hp w) w mx vmx){t:TypeId}
  {o:Oper} {a:Act} {K:Act→World→Prop} {Q:Exit→Act→World→Prop} {id:Nat} {hp':List (Nat×Blk)}
  (he:execOp a.eval o=(do pure (.value (←Instr.sliceAt t u vlo vhi vmx)))) (hk:Za P base okc r N hp w id hp' a o.dst K (rSlice (qn P t) x lo hi mx)):o.wp P a w K Q:=
 ga he (qdp t hx hlo hhi hmx) (jg _ _ _ _ _) hk
theorem Y1{fr:Nat→SV}{a:Act}{parts:Array (Nat×Operand)}(hx:∀x,(∃i,(i,x)∈parts)→Rep r N (Gd base okc r N hp w) w (env fr x) (a.eval x)){t:TypeId}
  {o:Oper} {K:Act→World→Prop} {Q:Exit→Act→World→Prop} {id:Nat} {hp':List (Nat×Blk)}
  (he:execOp a.eval o=(do pure (.value (←Instr.build t (parts.map fun(i,x)=>(i,a.eval x)))))) (hk:Za P base okc r N hp w id hp' a o.dst K (rBuild P t (envp fr parts.toList))):o.wp P a w K Q:=
 ga he (YT (by simp[ZC]) fun i p q hp hq=>Wf parts hx i p q hp hq) (gb _ _) hk
theorem ZO(h:Sat base okc r N hp w){fr:Nat→SV}{a:Act}{parts:Array (Nat×Operand)}(hx:∀x,(∃i,(i,x)∈parts)→Rep r N (Gd base okc r N hp w) w (env fr x) (a.eval x)){t:TypeId}{len:Nat}
  {o:Oper} {K:Act→World→Prop} {Q:Exit→Act→World→Prop} {id:Nat} {hp':List (Nat×Blk)}
  (he:execOp a.eval o=(do pure (.value (←Instr.buildSlice t len (parts.map fun(i,x)=>(i,a.eval x)))))) (hk:Za P base okc r N hp w id hp' a o.dst K (rBuildSlice P t len (envp fr parts.toList))):o.wp P a w K Q:=
 Zb he (ZN h t len (by simp[ZC]) fun i p q hp hq=>Wf parts hx i p q hp hq) (kw _ _ _) hk
theorem kx(mi:Option jx)(hp:List (Nat×Blk))(m k x:SV):(∃obl j b,rUpdate mi hp m k x=.upd obl j b)∨rUpdate mi hp m k x=.bad:=by
 unfold rUpdate;(repeat' split)<;>first|exact .inl ⟨_,_,_,rfl⟩|exact .inr rfl
theorem vq(mi:Option jx)(hp:List (Nat×Blk))(m k:SV):(∃obl j b,rDelete mi hp m k=.upd obl j b)∨rDelete mi hp m k=.bad:=by
 unfold rDelete;(repeat' split)<;>first|exact .inl ⟨_,_,_,rfl⟩|exact .inr rfl
theorem jA(mi:Option jx)(hp:List (Nat×Blk))(m:SV):(∃obl j b,rClearMap mi hp m=.upd obl j b)∨rClearMap mi hp m=.bad:=by
 unfold rClearMap;(repeat' split)<;>first|exact .inl ⟨_,_,_,rfl⟩|exact .inr rfl
theorem kJ(mi:Option jx)(hp:List (Nat×Blk))(x k:SV)(ok:Bool):jJ (rLookup mi hp x k ok)=true:=by
 unfold rLookup;(repeat' split)<;>rfl
theorem jh(t:TypeId)(x i:SV):jJ (rIndex P t x i)=true:=by
 unfold rIndex;(repeat' split)<;>rfl
theorem gM(mi:Option jx)(b:Bool):(∃obl bb mk,rMakeMap mi b=.new obl bb mk)∨rMakeMap mi b=.bad:=by
 unfold rMakeMap;(repeat' split)<;>first|exact .inl ⟨_,_,_,rfl⟩|exact .inr rfl
theorem Y3{t:TypeId}{G:Bool→Nat→Prop}{x i:SV}{u v:Value}(hx:Rep r N G w x u)(hi:Rep r N G w i v):Kl P r N G w (Instr.index t u v) (rIndex P t x i):=by
 unfold rIndex;split
 ·rename_i kk i
  cases hi;split
  ·rename_i ag sz z n e k l ht
   obtain⟨hu,ei,hei,hk⟩:=Ja ht;cases hx with
   |agg _ cs hl hr=>
    have hsz:(sizeOf e).run P w=.ok k w:=by rw[zz hei,hk]
    split
    ·rename_i sz' z' d' hte
     rintro⟨h1,h2,h3⟩;refine⟨.agg (cs.extract (i.toNat*k) (i.toNat*k+k)),?_,.agg _ _ Ωl fun j sv hj=>?_⟩
     ·simp only[Instr.index,asIntOf,Sem.run_bind,Sem.run_pure,Result.andThen_ok,run_underlying hu,h1,h2,and_self,if_true,hsz,part,vg hte]
     ·rw[List.getElem?_take]at hj
      split at hj
      ·rename_i hjk
       rw[List.getElem?_drop]at hj;have:=hr _ sv hj;have e:(cs.extract (i.toNat*k) (i.toNat*k+k)).getD j undef=cs.getD (i.toNat*k+j) undef:=by
        simp only[xf5,Array.getElem?_extract];rw[if_pos Ω]
       rw[e];exact this
      ·cases hj
    ·rename_i sz' z' d' hte
     rintro sv ⟨h1,h2,rfl,h3⟩;have hlt:i.toNat<cs.size:=by rw[←hl];exact(List.getElem?_eq_some_iff.1 h3).1
     refine⟨cs.getD i.toNat undef,?_,hr _ sv h3⟩;simp only[Instr.index,asIntOf,Sem.run_bind,Sem.run_pure,Result.andThen_ok,run_underlying hu,h1,h2,and_self,if_true,hsz,part,vg hte,xe7,if_false,Nat.mul_one];simp[hlt]
    ·trivial
  ·rename_i s ht
   split
   ·rename_i hu
    rintro sv ⟨h1,b,hb,rfl⟩;cases hx;refine⟨.int .u8 b.toNat,?_,.val _⟩;simp only[Instr.index,asIntOf,Sem.run_bind,Sem.run_pure,Result.andThen_ok,run_underlying hu,h1,if_true,hb]
   ·trivial
  ·trivial
 ·trivial
theorem Wh(f:Value){o:Oper}{a:Act}{K:Act→World→Prop}{Q:Exit→Act→World→Prop}{id:Nat}{hp':List (Nat×Blk)}{s:Sem Value}{res:Res}
  (he:execOp a.eval o=(do pure (.value (←s)))) (hf:(∃obl j b,res=.upd obl j b)∨res=.bad) (hr:∀obl j b,res=.upd obl j b→obl→∃w',s.run P w=.ok (.tuple #[]) w'∧Step base okc r N hp w r N (setBlk hp j b) w')
  (hk:Za P base okc r N hp w id hp' a o.dst K res):o.wp P a w K Q:=by
 rcases hf with⟨obl,j,b,rfl⟩|rfl
 ·obtain⟨w',hv,hs⟩:=hr _ _ _ rfl hk.1
  unfold Oper.wp;rw[he,Sem.run_bind,hv];exact hk.2 w' hs
 ·exact hk.elim
theorem vr(h:Sat base okc r N hp w){fr:Nat→SV}{o:Oper}{a:Act}(ha:∀x,x∈o.op.operands→Rep r N (Gd base okc r N hp w) w (env fr x) (a.eval x)){K:Act→World→Prop}{Q:Exit→Act→World→Prop}{id:Nat}{hp':List (Nat×Blk)}
  (hk:Za P base okc r N hp w id hp' a o.dst K (stepR P fr hp o.op)):o.wp P a w K Q:=by
 obtain⟨dst,op,type,pos,after,guard⟩:=o;have E:=fun x hx=>ha x hx;clear ha;simp only[]at E;cases op<;>simp only[stepR]at hk<;>try exact hk.elim
 case move x=>exact hk.2 _ (E x Ωj)
 case assign x=>exact hk.2 _ (E x Ωj)
 case pick c x y=>
  unfold rPick at hk;split at hk
  ·rename_i b hb
   have hc:=E c Ωj;rw[hb]at hc;have he:a.eval c=.bool b:=by generalize a.eval c=z at hc;cases hc;rfl
   unfold Oper.wp;simp only[execOp,he,asBool,Sem.run_bind,Sem.run_pure,Result.andThen_ok];exact hk.2 _ (Rep.ite b (E x Ωj) (E y Ωj))
  ·exact hk.elim
 case alloc t=>exact Zb rfl (qdn h t) (by unfold rAlloc;split<;>first|exact .inl ⟨_,_,_,rfl⟩|exact .inr rfl) hk
 case box t x=>exact Zb rfl (qiK h t (E x Ωj)) (by unfold rBox;split<;>first|exact .inl ⟨_,_,_,rfl⟩|exact .inr rfl|(split<;>first|exact .inl ⟨_,_,_,rfl⟩|exact .inr rfl)) hk
 case load t x=>exact ga rfl (run_load h.ok (E x Ωj)) (by unfold rLoad;split<;>first|rfl|(split<;>first|rfl|(split<;>rfl))) hk
 case store t x y=>exact Kv rfl (qdo h t (E x Ωj) (E y Ωj)) (wh _ _ _ _) hk
 case nilCheck x=>
  have hx:=E x Ωj;generalize hs:env fr x=s at hk hx;unfold Oper.wp;simp only[execOp];generalize a.eval x=u at hx;cases hx<;>simp only[rNil]at hk<;>try exact hk.elim
  case ptr id off b hN hr=>exact hk.2 _ (.ptr _ _ _ hN hr)
  case elt id k i j b hN hr=>exact hk.2 _ (.elt _ _ _ _ _ hN hr)
  case ref o n row b off f hG hc hr=>exact hk.2 _ (.ref _ _ _ _ _ f hG hc hr)
  case fn f l m cs ds hl hm h1 h2=>
   cases f<;>simp only[]at hk<;>try exact hk.elim
   exact hk.2 _ (.fn _ _ _ _ _ hl hm h1 h2)
 case binOp op t x y t'=>
  have hx:=E x Ωj;have hy:=E y Ωj;cases hres:rBin P op t (env fr x) (env fr y)with
  |pure obl sv=>
   rw[hres]at hk;obtain⟨z,hz,hrep⟩:=qiJ hres hk.1 hx hy x y;unfold Oper.wp;simp only[execOp];rw[Sem.run_bind,hz];exact hk.2 z hrep
  |_=>
   rw[hres]at hk
   revert hres
   unfold rBin;(repeat' split)<;>first|(intro hres;cases hres;done)|(intro hres;cases hres;exact hk.elim)|(intro hres;rcases vh P op t _ _ _ with⟨_,_,e⟩|e<;>rw[e]at hres<;>cases hres<;>exact hk.elim)|(unfold rEq;(repeat' split)<;>intro hres<;>cases hres<;>exact hk.elim)|(unfold rInt;split<;>intro hres<;>cases hres<;>exact hk.elim)
 case unOp op t x=>
  cases hres:rUn op (env fr x)with
  |pure obl sv=>
   rw[hres]at hk;obtain⟨z,hz,hrep⟩:=qlx (P:=P) hres hk.1 (E x Ωj);unfold Oper.wp;simp only[execOp];rw[Sem.run_bind,hz];exact hk.2 z hrep
  |_=>
   rw[hres]at hk
   revert hres
   unfold rUn;split<;>intro hres<;>cases hres<;>exact hk.elim
 case convert s t x=>
  cases hres:rConv (qn P s) (qn P t) (env fr x)with
  |pure obl sv=>
   rw[hres]at hk;obtain⟨z,hz,hrep⟩:=qeO hres hk.1 (E x Ωj);unfold Oper.wp;simp only[execOp];rw[Sem.run_bind,hz];exact hk.2 z hrep
  |_=>
   rw[hres]at hk
   revert hres
   unfold rConv;split<;>intro hres<;>cases hres<;>exact hk.elim
 case makeFunc f fs cs=>
  obtain⟨h1,h2⟩:=wi fs (fun x hx=>E x (by simp[Op.operands,hx]));obtain⟨h3,h4⟩:=wi cs (fun x hx=>E x (by simp[Op.operands,hx]));exact hk.2 _ (.fn _ _ _ _ _ h1 h3 h2 h4)
 case fieldAddr t x i=>exact ga rfl (GL (E x Ωj)) (by unfold rFieldAddr;split<;>first|rfl|(split<;>first|rfl|(split<;>rfl))) hk
 case field t x i=>exact ga rfl (qdm (E x Ωj)) (by unfold rField;split<;>first|rfl|(split<;>first|rfl|(split<;>first|rfl|(split<;>rfl)))) hk
 case indexAddr t x i=>exact ga rfl (GM (E x Ωj) (E i Ωj)) (by unfold rIndexAddr;split<;>first|rfl|(split<;>first|rfl|(split<;>first|rfl|(split<;>rfl)))) hk
 case extract x i=>exact ga rfl (V9 (E x Ωj)) (by unfold rExtract;split<;>rfl) hk
 case build t parts=>
  have e1:∀x,(∃i,(i,x)∈parts)→Rep r N (Gd base okc r N hp w) w (env fr x) (a.eval x):=fun x hx=>E x (by simpa[Op.operands]using hx);exact Y1 e1 rfl hk
 case buildSlice t len parts=>
  have e1:∀x,(∃i,(i,x)∈parts)→Rep r N (Gd base okc r N hp w) w (env fr x) (a.eval x):=fun x hx=>E x (by simpa[Op.operands]using hx);exact ZO h e1 rfl hk
 case makeSlice t l c=>exact Zb rfl (qdq h t (E l Ωr) (E c Ωr)) (kS _ _ _) hk
 case slice t x lo hi mx=>
  have e1:=E x Ωr;have e2:=KA lo fun y hy=>E y (by simp[Op.operands,hy]);have e3:=KA hi fun y hy=>E y (by simp[Op.operands,hy]);have e4:=KA mx fun y hy=>E y (by simp[Op.operands,hy]);exact Y0 h e1 e2 e3 e4 rfl hk
 case makeMap t rs=>
  cases rs with
  |none=>exact Zb rfl (J3 h t) (gM _ _) hk
  |some y=>
   exfalso
   simp only[Option.isSome_some]at hk;unfold rMakeMap at hk;split at hk<;>exact hk
 case lookup t x k ok=>exact ga rfl (YX h.ok (E x Ωr) (E k Ωr) ok) (kJ _ _ _ _ _) hk
 case mapUpdate t m k x=>exact Kv rfl (ZA h t (E m Ωr) (E k Ωr) (E x Ωr)) (kx _ _ _ _ _) hk
 case insert t m k x=>exact Kv rfl (ZA h t (E m Ωr) (E k Ωr) (E x Ωr)) (kx _ _ _ _ _) hk
 case index t x i=>exact ga rfl (Y3 (E x Ωr) (E i Ωr)) (jh _ _ _) hk
 case call c=>
  obtain⟨callee,args,argTypes⟩:=c;cases callee with
  |value f=>
   simp only[rCall]at hk;have hf:=E f Ωj;split at hk
   ·rename_i g first caps hfe
    rw[hfe]at hf;unfold Oper.wp;simp only[execOp,resolve,Sem.run_bind];generalize a.eval f=u at hf;cases hf with
    |fn _ _ _ cs ds hl hm h1 h2=>
     obtain⟨hl3,h3⟩:=wi args (fun x hx=>E x (by simp[Op.operands,Call.operands,hx]));obtain⟨hl4,h4⟩:=vo hl3 hm h3 h2;obtain⟨hl5,h5⟩:=vo hl hl4 h1 h4;simp only[Deferred.ofValue,Sem.run_pure,Result.andThen_ok,invoke];rw[Array.append_assoc];rcases hk with⟨res,hc,hk⟩|⟨pats,bb,res,hc,hs,hid,hp2,hat,hoth,hk⟩
     ·exact qeW h hl5 h5 hc hk
     ·exact Jh h hl5 h5 hc hs hid hat hoth hk
   ·exact hk.elim
   ·exact hk.elim
  |invoke x m=>exact hk.elim
  |builtin b=>
   cases b<;>simp only[rCall]at hk<;>try exact hk.elim
   case append=>
    split at hk
    rotate_left
    ·exact hk.elim
    rename_i s x t t' hargs hts;have hargs:=ZB hargs;have hts:=ZB hts;subst hargs;subst hts;split at hk
    rotate_left
    ·exact hk.elim
    rename_i e;subst e;exact Wg (u:=a.eval s) (v:=a.eval x) (ty:=type) h (E s Ωj) (E x Ωj) (by
     simp only[execOp,resolve,invoke,builtin,List.map_toArray,List.map_cons,List.map_nil];rfl) hk
   case copy=>
    split at hk
    rotate_left
    ·exact hk.elim
    rename_i d x t t' hargs hts;have hargs:=ZB hargs;have hts:=ZB hts;subst hargs;subst hts;exact qdw (u:=a.eval d) (v:=a.eval x) (t':=t') (ty:=type) h (E d Ωj) (E x Ωj) (by
     simp only[execOp,resolve,invoke,builtin,List.map_toArray,List.map_cons,List.map_nil];rfl) hk
   case delete=>
    split at hk
    rotate_left
    ·exact hk.elim
    rename_i m k t t' hargs hts;have hargs:=ZB hargs;have hts:=ZB hts;subst hargs;subst hts;refine Wh (s:=Builtin.delete_ #[t,t'] type #[a.eval m,a.eval k]) undef (by
     simp only[execOp,resolve,invoke,builtin,List.map_toArray,List.map_cons,List.map_nil];rfl) (vq _ _ _ _) (fun obl j b hres ho=>Wc h t t' type (E m Ωj) (E k Ωj) hres ho) hk
   case clear=>
    split at hk
    rotate_left
    ·exact hk.elim
    rename_i d t hargs hts;have hargs:=Ky hargs;have hts:=Ky hts;subst hargs;subst hts;have hd:=E d Ωj;split at hk
    ·rename_i mid hmid
     rw[hmid]at hd;refine Wh (s:=Builtin.clear_ #[t] type #[a.eval d]) undef (by
      simp only[execOp,resolve,invoke,builtin,List.map_toArray,List.map_cons,List.map_nil];rfl) (jA _ _ _) (fun obl j b hres ho=>GN h t type hd hres ho) hk
    ·exact YZ (u:=a.eval d) (ty:=type) h hd (by
      simp only[execOp,resolve,invoke,builtin,List.map_toArray,List.map_cons,List.map_nil];rfl) hk
   case len=>
    split at hk
    ·rename_i x t hx ht
     have hx:=Ky hx;have ht:=Ky ht;subst hx;subst ht;cases hres:rLen (qn P t) (env fr x)with
     |pure obl sv=>
      rw[hres]at hk;obtain⟨z,hz,hrep⟩:=qiN (ty:=type) (E x Ωj) hres;unfold Oper.wp;simp only[execOp,resolve,Sem.run_bind,Sem.run_pure,Result.andThen_ok,invoke,builtin,List.map_toArray,List.map_cons,List.map_nil,hz];exact hk.2 z hrep
     |_=>
      rw[hres]at hk
      revert hres
      unfold rLen;(repeat' split)<;>intro hres<;>cases hres<;>exact hk.elim
    ·exact hk.elim
   case max=>
    cases hres:rMin true (envs fr args.toList)with
    |pure obl sv=>
     rw[hres]at hk;obtain⟨z,hz,hrep⟩:=Kz true (fun x hx=>E x (by simp[Op.operands,Call.operands,hx])) (ts:=argTypes) (t:=type) hres;rw[if_pos rfl]at hz;unfold Oper.wp;simp only[execOp,resolve,Sem.run_bind,Sem.run_pure,Result.andThen_ok,invoke,builtin];rw[hz];exact hk.2 z hrep
    |_=>
     rw[hres]at hk
     revert hres
     unfold rMin;(repeat' split)<;>intro hres<;>cases hres<;>exact hk.elim
   case min=>
    cases hres:rMin false (envs fr args.toList)with
    |pure obl sv=>
     rw[hres]at hk;obtain⟨z,hz,hrep⟩:=Kz false (fun x hx=>E x (by simp[Op.operands,Call.operands,hx])) (ts:=argTypes) (t:=type) hres;rw[if_neg Ωg]at hz;unfold Oper.wp;simp only[execOp,resolve,Sem.run_bind,Sem.run_pure,Result.andThen_ok,invoke,builtin];rw[hz];exact hk.2 z hrep
    |_=>
     rw[hres]at hk
     revert hres
     unfold rMin;(repeat' split)<;>intro hres<;>cases hres<;>exact hk.elim
end
end Go.Sx
end
section
namespace Go.Sx
open Go.RowKit
def undefSV:SV:=.val (.tuple #[])
def SplitVC(g:Bool)(A B:Prop):Prop:=(g=true→A)∧(g=false→B)
theorem SplitVC.congr{g g':Bool}{A B:Prop}(h:g=g'):SplitVC g A B=SplitVC g' A B:=by rw[h]
theorem Y4(A B:Prop):SplitVC true A B=A:=by simp[SplitVC]
theorem Wj(A B:Prop):SplitVC false A B=B:=by simp[SplitVC]
theorem qdx(g:Bool)(A B:Prop):SplitVC (!g) A B=SplitVC g B A:=by cases g<;>simp[SplitVC]
def CallVC(P:Program)(hp:List (Nat×Blk))(f:FuncId)(args:List SV)(K:SV→Prop):Prop:=
 ∃res,CanC P hp f args res∧K res
theorem CallVC.congr{P:Program}{hp hp':List (Nat×Blk)}{f:FuncId}{args args':List SV}{K:SV→Prop}(h:hp=hp')(h':args=args'):CallVC P hp f args K=CallVC P hp' f args' K:=by rw[h,h']
def qbv(P:Program)(hp:List (Nat×Blk))(f:FuncId)(args:List SV)(K:Blk→SV→Prop):Prop:=
 ∃pats b res,zp P f pats b res∧NewOk hp pats args b res∧K b res
structure Fr:Type where
 fr:List (Nat×SV)
 rcd:Option Loop
 ns:Nat
 lo:Nat
structure Ctx:Type where
 fs:List Fr
 lo:Nat
 rnd:Bool
 far:Nat→List (Nat×Nat)
def jc:Nat→List (Nat×Nat):=fun _=>[]
def jK(n:Nat)(l:List (Nat×Nat)):Nat→List (Nat×Nat):=fun i=>if i=n then l else []
def g8:List (Nat×Nat)→Bool
 |(a,b) :: _=>decide (a=b)
 |[]=>false
def yI(n:Nat):Nat→List (Nat×Nat):=jK n [(0,0)]
def qO:SV→Option Nat
 |.ptr id _=>some id
 |.elt id _ _ _=>some id
 |_=>none
def jX(s s':SV):Prop:=match qO s,qO s' with
 |some i,some j=>i≠j
 |_,_=>True
def FarVC:List (Nat×Nat)→St→Prop→Prop
 |[],_,X=>X
 |(a,b) :: l,st,X=>jX (look st.fr a) (look st.fr b)∧FarVC l st X
theorem jB:∀{l:List (Nat×Nat)}{st:St}{X:Prop},FarVC l st X→X∧∀a b,(a,b)∈l→jX (look st.fr a) (look st.fr b)
 |[],st,X,h=>⟨h,fun a b hab=>by cases hab⟩
 |(c,d) :: l,st,X,h=>by
  obtain⟨h1,h2⟩:=jB h.2;refine⟨h1,fun a b hab=>?_⟩;rcases List.mem_cons.1 hab with e|e
  ·cases e;exact h.1
  ·exact h2 a b e
theorem FarVC.mono:∀{l:List (Nat×Nat)}{st:St}{X Y:Prop},(X→Y)→FarVC l st X→FarVC l st Y
 |[],st,X,Y,hh,h=>hh h
 |(c,d) :: l,st,X,Y,hh,h=>⟨h.1,FarVC.mono hh h.2⟩
def OutOk(r:Nat→Option Nat)(lo:Nat)(G:Bool→Nat→Prop)(w:World):List Fr→List Act→Prop
 |[],[]=>True
 |f :: fs,a :: as=>(∀i,Rep r (· < f.lo) G w (look f.fr i) (a.tmps.getD i undef))∧f.lo≤lo∧a.tmps.size=f.ns∧(∀L,f.rcd=some L→L.tmps=a.tmps)∧OutOk r lo G w fs as
 |_,_=>False
theorem OutOk.mono{r r':Nat→Option Nat}{lo lo':Nat}{G G':Bool→Nat→Prop}{w w':World}(hlo:lo≤lo')(h:∀n,n≤lo→∀sv v,Rep r (· < n) G w sv v→Rep r' (· < n) G' w' sv v):∀{fs:List Fr}{as:List Act},OutOk r lo G w fs as→OutOk r' lo' G' w' fs as
 |[],[],_=>trivial
 |f :: fs,a :: as,⟨h1,h2,h3,h4,h5⟩=>⟨fun i=>h _ h2 _ _ (h1 i),xc1 h2 hlo,h3,h4,OutOk.mono hlo h h5⟩
structure gD:Type where
 as:List Act
 r0:Nat→Option Nat
def yJ(D:Nat):Deferred:={ target:=.collected D,args:=#[] }
def KB(a:Act)(outs:List Act):List Deferred:=a.defers++(outs.map (·.defers)).flatten
structure InvR(O:Ctx)(base:World)(okc:Nat→Prop)(ns k:Nat)(r:Nat→Option Nat)(outs:gD)(st:St)(a:Act)(w:World):Prop where
 sat:Sat base okc r (· < k) st.hp w
 keys:∀id x,blk st.hp id=some x→id<k
 fr:∀i,Rep r (· < k) (Gd base okc r (· < k) st.hp w) w (look st.fr i) (a.tmps.getD i undef)
 size:a.tmps.size=ns
 lo:O.lo≤k
 out:OutOk r O.lo (Gd base okc r (· < k) st.hp w) w O.fs outs.as
 rfix:∀id,id<O.lo→r id=outs.r0 id
 defers:∃Ds:List Nat,KB a outs.as=Ds.map yJ∧Ds.Nodup∧∀D∈Ds,Gd base okc r (· < k) st.hp w true D∧w.heap[D]? = some (.deferred (some []))
def Inv(O:Ctx)(base:World)(okc:Nat→Prop)(ns k:Nat)(outs:gD)(st:St)(a:Act)(w:World):Prop:=∃r,InvR O base okc ns k r outs st a w
def kK(P:Program)(O:Ctx)(f:FuncId)(args:List SV)(st:St)(K:St→SV→Prop):Prop:=
 ∀(base:World)(okc:Nat→Prop)(ns:Nat)(r:Nat→Option Nat)(outs:gD)(a:Act)(w:World)(vs:Array Value),InvR O base okc ns st.nid r outs st a w→args.length=vs.size→
  (∀i sv,args[i]? = some sv→Rep r (· < st.nid) (Gd base okc r (· < st.nid) st.hp w) w sv (vs.getD i undef))→
  (callFunc f vs).run P w=.ok (.enter f vs) w∧
  Calls P f vs w fun e w'=>∃v st' r' res,e=.returned v∧K st' res∧st.nid≤st'.nid∧InvR O base okc ns st'.nid r' outs st' a w'∧Rep r' (· < st'.nid) (Gd base okc r' (· < st'.nid) st'.hp w') w' res v
def wU(P:Program)(O:Ctx)(id:Nat)(args:List SV)(st:St)(K:St→SV→Prop):Prop:=
 ∀(base:World)(okc:Nat→Prop)(ns:Nat)(r:Nat→Option Nat)(outs:gD)(a:Act)(w:World)(vs:Array Value)(l:Nat),InvR O base okc ns st.nid r outs st a w→args.length=vs.size→
  (∀i sv,args[i]? = some sv→Rep r (· < st.nid) (Gd base okc r (· < st.nid) st.hp w) w sv (vs.getD i undef))→id<st.nid→r id=some l→
  ∃fn tmps assign body,(Instr.yield l vs).run P w=.ok (.round l fn tmps assign body) w∧
  RoundIn Fence.wide 0 P l fn tmps assign body w fun e w'=>∃v st' r' res,e=.returned v∧K st' res∧st.nid≤st'.nid∧InvR O base okc ns st'.nid r' outs st' a w'∧Rep r' (· < st'.nid) (Gd base okc r' (· < st'.nid) st'.hp w') w' res v
def OpVC(P:Program)(O:Ctx)(op:Op)(st:St)(K:St→SV→Prop):Prop:=
 ∀(base:World)(okc:Nat→Prop)(ns:Nat)(r:Nat→Option Nat)(outs:gD)(a:Act)(w:World)(o:Oper),o.op=op→InvR O base okc ns st.nid r outs st a w→
  ∃v w',(execOp a.eval o).run P w=.ok (.value v) w'∧∃st' r' res,K st' res∧st.nid≤st'.nid∧InvR O base okc ns st'.nid r' outs st' a w'∧Rep r' (· < st'.nid) (Gd base okc r' (· < st'.nid) st'.hp w') w' res v
def vP(P:Program)(O:Ctx)(J:Prop)(op:Op)(d:Option Tmp)(id:Nat)(st:St)(K:St→Prop):Res→Prop
 |.bad=>False
 |.pure obl r=>obl∧K (st.put d r)
 |.ex obl=>∃r,obl r∧K (st.put d r)
 |.new obl b mk=>obl∧K (({ st with hp:=(id,b) :: st.hp }).put d (mk id))
 |.upd obl j b=>obl∧K (({ st with hp:=setBlk st.hp j b }).put d undefSV)
 |.updv obl j b sv=>obl∧K (({ st with hp:=setBlk st.hp j b }).put d sv)
 |.grow obl old b mk=>(obl∧old≠id)∧K (({ st with hp:=(id,b) :: dropBlk st.hp old }).put d (mk id))
 |.call f args=>CallVC P st.hp f args (fun r=>K (st.put d r))∨qbv P st.hp f args (fun b res=>K (({ st with hp:=(id,b) :: st.hp }).put d (setId id res)))∨(J∧kK P O f args ⟨st.fr,st.hp,id⟩ fun st' res=>K (st'.put d res))
 |.yield y args=>J∧wU P O y args ⟨st.fr,st.hp,id⟩ fun st' res=>K (st'.put d res)
 |.raw=>J∧OpVC P O op ⟨st.fr,st.hp,id⟩ fun st' res=>K (st'.put d res)
def nth:List (Option Tmp)→Nat→Option Tmp
 |[],_=>none
 |d :: _,0=>d
 |_ :: l,n+1=>nth l n
def zf(ds:List (Option Tmp))(g:Option (Nat×Bool))(st:St)(run skip:St→Prop):Prop:=
 match g with
 |none=>run st
 |some (j,want)=>match nth ds j with
  |none=>False
  |some t=>match look st.fr t with
   |.val (.bool b)=>match want with
    |true=>SplitVC b (run (st.put (some t) (.val (.bool true)))) (skip (st.put (some t) (.val (.bool false))))
    |false=>SplitVC b (skip (st.put (some t) (.val (.bool true)))) (run (st.put (some t) (.val (.bool false))))
   |.val (.tuple _)=>skip st
   |_=>False
def qZ(P:Program)(O:Ctx)(J:Prop)(ds:List (Option Tmp)):List Oper→Nat→St→(St→Prop)→Prop
 |[],_,st,K=>K st
 |o :: rest,i,st,K=>zf ds o.guard st
    (fun st=>vP P O J o.op o.dst (st.nid+i) st (fun st=>qZ P O J ds rest (i+1) st K) (stepR P (look st.fr) st.hp o.op))
    (fun st=>qZ P O J ds rest (i+1) (st.put o.dst undefSV) K)
def dsts:List Oper→List (Option Tmp)
 |[]=>[]
 |o :: l=>o.dst :: dsts l
theorem za(l:List Oper)(j:Nat):nth (dsts l) j=(l[j]?).bind (·.dst):=by
 induction l generalizing j with
 |nil=>simp[dsts,nth]
 |cons o l ih=>cases j<;>simp[dsts,nth,ih]
theorem zb(fr:List (Nat×SV))(d t:Nat)(v:SV):look (putFr fr d v) t=if t=d then v else look fr t:=rfl
theorem vt(fr:List (Nat×SV))(d t:Nat)(v:SV):look (putIn fr d v) t=if t=d then v else look fr t:=by
 induction fr with
 |nil=>simp[putIn,look]
 |cons p fr ih=>
  obtain⟨i,u⟩:=p;simp only[putIn];by_cases e:d=i
  ·subst e
   rw[if_pos rfl];simp only[look];by_cases e':t=d<;>simp[e']
  ·rw[if_neg e]
   simp only[look,ih];by_cases e':t=i
   ·subst e';rw[if_pos rfl,if_neg (Ne.symm e),if_pos rfl]
   ·simp[e']
theorem ge(d:Option Tmp)(fr:List (Nat×SV))(t:Nat):look (inD d fr) t=look fr t:=by
 cases d with
 |none=>rfl
 |some d=>
  cases fr with
  |nil=>rfl
  |cons p fr=>obtain⟨i,u⟩:=p;exact vt fr i t u
def kL(ns:Nat)(o:Oper):Bool:=match o.dst with|some d=>decide (d<ns)|none=>true
section
variable{P:Program}{O:Ctx}{J:Prop}{base:World}{okc:Nat→Prop}{ns k:Nat}{r:Nat→Option Nat}{outs:gD}{st:St}{a:Act}{w:World}
theorem gN(k:Nat):zd (· < k) k=(· < k+1):=by funext i;simp only[zd,eq_iff_iff];omega
theorem Sat.more{N N':Nat→Prop}{hp:List (Nat×Blk)}(h:Sat base okc r N hp w)(hN:∀i,N i→N' i)(hno:∀i x,blk hp i=some x→N' i→N i):Step base okc r N hp w r N' hp w:=by
 have hG:∀o c,Gd base okc r N hp w o c→Gd base okc r N' hp w o c∧w.heap[c]? = w.heap[c]?:=fun o c ⟨h1,h2,h3⟩=>⟨⟨h1,fun i y hy hi=>h2 i y hy (hno i y hy hi),h3⟩,rfl⟩;exact⟨⟨h.below,fun i y hy hi=>(h.rep i y hy (hno i y hy hi)).mono (fun _ _=>rfl) hN hG (Shapes.refl w) (fun _ _=>rfl),fun i y b hy hi=>h.own i y b hy (hno i y hy hi),
  fun i y i' y' b hy hi hy' hi'=>h.inj i y i' y' b hy (hno i y hy hi) hy' (hno i' y' hy' hi')⟩,fun _ _=>rfl,hN,hG,Shapes.refl w⟩
theorem KC(a:Act)(d:Option Tmp)(v:Value)(t:Nat):(a.put d v).tmps.getD t undef=if d=some t∧t<a.tmps.size then v else a.tmps.getD t undef:=by
 cases d with
 |none=>simp[Act.put]
 |some d=>
  simp only[Act.put,xf5,Array.getElem?_setIfInBounds,Option.some.injEq];by_cases e:d=t
  ·subst e
   by_cases h:d<a.tmps.size<;>simp[h]
  ·simp[e]
theorem KD(a:Act)(d:Option Tmp)(v:Value):(a.put d v).defers=a.defers:=by cases d<;>rfl
theorem qeX(a:Act)(d:Option Tmp)(v:Value):(a.put d v).tmps.size=a.tmps.size:=by cases d<;>simp[Act.put]
theorem InvR.step{k':Nat}{r':Nat→Option Nat}{hp':List (Nat×Blk)}{w':World}(h:InvR O base okc ns k r outs st a w)(hs:Step base okc r (· < k) st.hp w r' (· < k') hp' w')(hk:∀id x,blk hp' id=some x→id<k')(hkk:k≤k'){d:Option Tmp}(hd:∀t,d=some t→t<ns)
  {sv:SV} {v:Value} (hv:Rep r' (· < k') (Gd base okc r' (· < k') hp' w') w' sv v):InvR O base okc ns k' r' outs (({ st with hp:=hp' }:St).put d sv) (a.put d v) w':=by
 have hhp:(({ st with hp:=hp' }:St).put d sv).hp=hp':=by cases d<;>rfl
 refine⟨by rw[hhp];exact hs.sat,by rw[hhp];exact hk,fun i=>?_,by rw[qeX];exact h.size,xc1 h.lo hkk,?_,fun id hid=>(hs.rr id (xa9 hid h.lo)).trans (h.rfix id hid),?_⟩
 ·rw[KC,hhp]
  cases d with
  |none=>
   simp only[St.put,reduceCtorEq,false_and,if_false];exact hs.rep (h.fr i)
  |some d=>
   simp only[St.put,zb,Option.some.injEq];by_cases e:i=d
   ·subst e
    rw[if_pos rfl,if_pos ⟨rfl,by rw[h.size];exact hd _ rfl⟩];exact hv
   ·rw[if_neg e,if_neg (by rintro⟨e',_⟩;exact e e'.symm)]
    exact hs.rep (h.fr i)
 ·rw[hhp]
  exact h.out.mono (xa5 _) fun n hn sv v hv=>hv.mono (fun id hid=>hs.rr id (xa9 hid (xc1 hn h.lo))) (fun _ h=>h) hs.gg hs.sh
 ·obtain⟨Ds,h1,h2,h3⟩:=h.defers
  refine⟨Ds,by unfold KB;rw[KD];exact h1,h2,fun D hD=>?_⟩;rw[hhp];obtain⟨h4,h5⟩:=h3 D hD;obtain⟨h6,h7⟩:=hs.gg _ _ h4;exact⟨h6,h7.trans h5⟩
theorem InvR.more(h:InvR O base okc ns k r outs st a w){k':Nat}(hk:k≤k'):InvR O base okc ns k' r outs st a w:=by
 have hs:Step base okc r (· < k) st.hp w r (· < k') st.hp w:=h.sat.more (fun i hi=>xa9 hi hk) (fun i x hx _=>h.keys i x hx);refine⟨hs.sat,fun id x hx=>xa9 (h.keys id x hx) hk,fun i=>hs.rep (h.fr i),h.size,xc1 h.lo hk,h.out.mono (xa5 _) fun n hn sv v hv=>hv.mono (fun _ _=>rfl) (fun _ h=>h) hs.gg hs.sh,h.rfix,?_⟩;obtain⟨Ds,h1,h2,h3⟩:=h.defers;exact⟨Ds,h1,h2,fun D hD=>⟨(hs.gg _ _ (h3 D hD).1).1,(h3 D hD).2⟩⟩
theorem InvR.nid(h:InvR O base okc ns k r outs st a w)(n:Nat):InvR O base okc ns k r outs { st with nid:=n } a w:=⟨h.sat,h.keys,h.fr,h.size,h.lo,h.out,h.rfix,h.defers⟩
theorem InvR.keep(h:InvR O base okc ns k r outs st a w){t:Nat}{b:Bool}(hb:look st.fr t=.val (.bool b)):InvR O base okc ns k r outs (st.put (some t) (.val (.bool b))) a w:=by
 refine⟨h.sat,h.keys,fun i=>?_,h.size,h.lo,h.out,h.rfix,h.defers⟩;simp only[St.put,zb];split
 ·rename_i e;subst e;rw[←hb];exact h.fr i
 ·exact h.fr i
theorem InvR.env(h:InvR O base okc ns k r outs st a w)(x:Operand):Rep r (· < k) (Gd base okc r (· < k) st.hp w) w (env (look st.fr) x) (a.eval x):=J4 x fun i _=>h.fr i
theorem zk(st:St)(d:Option Tmp)(v:SV):(st.put d v).hp=st.hp:=by cases d<;>rfl
theorem qr(st:St)(d:Option Tmp)(v:SV):(st.put d v).nid=st.nid:=by cases d<;>rfl
def FR(ro:Option Nat):Fence:={ fn:=fun _=>True,depth:=none,alive:=false,round:=ro }
theorem calls_FR{ro:Option Nat}{f:FuncId}{vs:Array Value}{R:Ending→World→Prop}:CallsIn (FR ro) 0 P f vs w R↔Calls P f vs w R:=(Iff.rfl:CallsIn (FR ro) 0 P f vs w R↔CallsIn Fence.wide 0 P f vs w R).trans callsIn_wide
theorem vu{ro:Option Nat}{o:Oper}{K:Act→World→Prop}{Q:Exit→Act→World→Prop}(hd:∀c,o.op≠.defer c)(h:o.wp P a w K Q):o.wpIn (FR ro) 0 P a w K Q:=by
 refine⟨fun _ _=>trivial,?_⟩;rw[Oper.semAt_eq _ _ _ hd];unfold Oper.wp at h;generalize (execOp a.eval o).run P w=res at h;cases res with
 |ok x w'=>
  cases x<;>simp only[Oper.upon,Oper.uponIn]at h ⊢<;>first|exact h|skip
  ·exact⟨fun hh=>by simp[FR]at hh,calls_FR.2 h⟩
  ·exact⟨fun hh=>by simp[FR]at hh,fun c cs _=>let ⟨v,w'',h1,h2⟩:=h c cs;⟨v,w'',h1,(stepsIn_wide (P:=P)).2 h2⟩⟩
 |halt x w'=>cases x<;>simp only[Oper.upon,Oper.uponIn]at h ⊢<;>exact h
theorem qdy{fr:Nat→SV}{hp:List (Nat×Blk)}{op:Op}(h:stepR P fr hp op≠.bad):∀c,op≠.defer c:=fun c e=>by subst e;exact h rfl
def qbw:Res→Bool
 |.call _ _=>false
 |.yield _ _=>false
 |.raw=>false
 |_=>true
theorem jL{x:Res}(h:jJ x=true):qbw x=true:=by cases x<;>first|rfl|cases h
theorem Zc{x:Res}(h:(∃obl b mk,x=.new obl b mk)∨x=.bad):qbw x=true:=by rcases h with⟨_,_,_,rfl⟩|rfl<;>rfl
theorem js{x:Res}(h:(∃obl j b,x=.upd obl j b)∨x=.bad):qbw x=true:=by rcases h with⟨_,_,_,rfl⟩|rfl<;>rfl
theorem Zd(F:Nat→SV)(hp:List (Nat×Blk))(op:Op):qbw (stepR P F hp op)=true∨(∃x xs ts,op=.call ⟨.value x,xs,ts⟩)∨(∃t x,op=.range t x)∨(∃x s,op=.next x s)∨(∃x,op=.entry x):=by
 cases op<;>try exact .inl rfl
 case pick=>left;simp only[stepR];unfold rPick;split<;>rfl
 case alloc=>left;simp only[stepR];unfold rAlloc;split<;>rfl
 case box=>left;simp only[stepR];unfold rBox;(repeat' split)<;>rfl
 case load=>left;simp only[stepR];unfold rLoad;(repeat' split)<;>rfl
 case store=>left;exact js (wh _ _ _ _)
 case nilCheck=>left;simp only[stepR];unfold rNil;split<;>rfl
 case binOp=>left;simp only[stepR];unfold rBin;(repeat' split)<;>first|rfl|(rcases vh P _ _ _ _ _ with⟨_,_,e⟩|e<;>rw[e]<;>rfl)|(unfold rInt;split<;>rfl)|(unfold rEq;(repeat' split)<;>rfl)
 case unOp=>left;simp only[stepR];unfold rUn;split<;>rfl
 case convert=>left;simp only[stepR];unfold rConv;split<;>rfl
 case fieldAddr=>left;simp only[stepR];unfold rFieldAddr;(repeat' split)<;>rfl
 case field=>left;simp only[stepR];unfold rField;(repeat' split)<;>rfl
 case indexAddr=>left;simp only[stepR];unfold rIndexAddr;(repeat' split)<;>rfl
 case extract=>left;simp only[stepR];unfold rExtract;split<;>rfl
 case build=>left;exact jL (gb _ _)
 case buildSlice=>left;exact Zc (kw _ _ _)
 case makeSlice=>left;exact Zc (kS _ _ _)
 case slice=>left;exact jL (jg _ _ _ _ _)
 case makeMap=>left;exact Zc (gM _ _)
 case lookup=>left;exact jL (kJ _ _ _ _ _)
 case mapUpdate=>left;exact js (kx _ _ _ _ _)
 case insert=>left;exact js (kx _ _ _ _ _)
 case index=>left;exact jL (jh _ _ _)
 case range t x=>exact .inr (.inr (.inl ⟨t,x,rfl⟩))
 case next x s=>exact .inr (.inr (.inr (.inl ⟨x,s,rfl⟩)))
 case entry x=>exact .inr (.inr (.inr (.inr ⟨x,rfl⟩)))
 case call c=>
  obtain⟨callee,args,ts⟩:=c;cases callee with
  |value f=>exact .inr (.inl ⟨f,args,ts,rfl⟩)
  |invoke _ _=>exact .inl rfl
  |builtin b=>
   left
   cases b<;>first|rfl|skip
   case append=>simp only[stepR,rCall];(repeat' split)<;>first|rfl|(rcases vp (P:=P) (hp:=hp) _ _ _ with⟨_,_,_,e⟩|⟨_,_,_,_,e⟩|e<;>rw[e]<;>rfl)
   case copy=>simp only[stepR,rCall];split<;>first|rfl|(rcases yH (P:=P) (hp:=hp) _ _ _ with⟨_,_,_,_,e⟩|e<;>rw[e]<;>rfl)
   case clear=>simp only[stepR,rCall];(repeat' split)<;>first|rfl|exact js (jA _ _ _)|exact js (wj _ _)
   case delete=>simp only[stepR,rCall];split<;>first|rfl|exact js (vq _ _ _ _)
   case len=>simp only[stepR,rCall];split<;>first|rfl|(unfold rLen;(repeat' split)<;>rfl)
   case max=>simp only[stepR,rCall];unfold rMin;(repeat' split)<;>rfl
   case min=>simp only[stepR,rCall];unfold rMin;(repeat' split)<;>rfl
theorem gE{F:Nat→SV}{hp:List (Nat×Blk)}{op:Op}{f:FuncId}{args:List SV}(h:stepR P F hp op=.call f args) :
  ∃x xs ts first caps,op=.call ⟨.value x,xs,ts⟩∧env F x=.fn (.func f) first caps∧args=first++(envs F xs.toList++caps):=by
 rcases Zd (P:=P) F hp op with h'|⟨x,xs,ts,rfl⟩|⟨t,x,rfl⟩|⟨x,s,rfl⟩|⟨x,rfl⟩
 ·rw[h]at h';cases h'
 ·simp only[stepR,rCall]at h
  split at h
  ·rename_i g first caps hx
   simp only[Res.call.injEq]at h;obtain⟨rfl,rfl⟩:=h;exact⟨x,xs,ts,first,caps,rfl,hx,rfl⟩
  ·cases h
  ·cases h
 ·cases h
 ·cases h
 ·cases h
theorem ZD{F:Nat→SV}{hp:List (Nat×Blk)}{op:Op}{y:Nat}{args:List SV}(h:stepR P F hp op=.yield y args) :
  ∃x xs ts,op=.call ⟨.value x,xs,ts⟩∧env F x=.yld y∧args=envs F xs.toList:=by
 rcases Zd (P:=P) F hp op with h'|⟨x,xs,ts,rfl⟩|⟨t,x,rfl⟩|⟨x,s,rfl⟩|⟨x,rfl⟩
 ·rw[h]at h';cases h'
 ·simp only[stepR,rCall]at h
  split at h
  ·cases h
  ·rename_i g hx
   simp only[Res.yield.injEq]at h;obtain⟨rfl,rfl⟩:=h;exact⟨x,xs,ts,rfl,hx,rfl⟩
  ·cases h
 ·cases h
 ·cases h
 ·cases h
theorem Y5{ro:Option Nat}{o:Oper}{i:Nat}{K:St→Prop}{K':Act→World→Prop}{Q:Exit→Act→World→Prop}(h:InvR O base okc ns (st.nid+i) r outs st a w)(hd:kL ns o=true)
  (hk:vP P O J o.op o.dst (st.nid+i) st K (stepR P (look st.fr) st.hp o.op))
  (hK:∀st' a' w',K st'→st.nid≤st'.nid→(¬J→st'.nid=st.nid)→Inv O base okc ns (st'.nid+(i+1)) outs st' a' w'→K' a' w'):o.wpIn (FR ro) 0 P a w K' Q:=by
 have hd':∀t,o.dst=some t→t<ns:=fun t ht=>by simpa[kL,ht]using hd
 have hk1:st.nid+i≤st.nid+(i+1):=by omega
 have hnb:stepR P (look st.fr) st.hp o.op≠.bad:=fun e=>by rw[e]at hk;exact hk
 have hdef:=qdy hnb;have base1:Za P base okc r (· < st.nid+i) st.hp w (st.nid+i) (match stepR P (look st.fr) st.hp o.op with|.new _ b _=>(st.nid+i,b) :: st.hp|_=>st.hp) a o.dst K' (stepR P (look st.fr) st.hp o.op)→o.wpIn (FR ro) 0 P a w K' Q:=fun hres=>
  vu hdef (vr h.sat (fr:=look st.fr) (id:=st.nid+i) (hp':=match stepR P (look st.fr) st.hp o.op with|.new _ b _=>(st.nid+i,b) :: st.hp|_=>st.hp) (fun x _=>h.env x) hres)
 have hin:InvR O base okc ns (st.nid+i) r outs ⟨st.fr,st.hp,st.nid+i⟩ a w:=h.nid _;have after:∀(v:Value)(st':St)(r':Nat→Option Nat)(res:SV)(w':World),J→K (st'.put o.dst res)→st.nid+i≤st'.nid→InvR O base okc ns st'.nid r' outs st' a w'→Rep r' (· < st'.nid) (Gd base okc r' (· < st'.nid) st'.hp w') w' res v→K' (a.put o.dst v) w':=fun v st' r' res w' hJ h1 h2 h3 h4=>
  hK _ _ _ h1 (by rw[qr];omega) (fun hj=>absurd hJ hj) ⟨r',by
   rw[qr];exact(h3.step (Step.refl h3.sat) h3.keys (xa5 _) hd' h4).more Ω⟩
 generalize hres:stepR P (look st.fr) st.hp o.op=res at hk base1;cases res<;>dsimp only at base1
 case bad=>exact hk.elim
 case pure obl sv=>exact base1 ⟨hk.1,fun v hv=>hK _ _ _ hk.2 ΩC (fun _=>by rw[qr]) ⟨r,by rw[qr];exact(h.step (Step.refl h.sat) h.keys (xa5 _) hd' hv).more hk1⟩⟩
 case ex obl=>
  obtain⟨sv,ho,hk⟩:=hk;exact base1 ⟨sv,ho,fun v hv=>hK _ _ _ hk ΩC (fun _=>by rw[qr]) ⟨r,by rw[qr];exact(h.step (Step.refl h.sat) h.keys (xa5 _) hd' hv).more hk1⟩⟩
 case new obl b mk=>
  refine base1 ⟨hk.1,Ω,by simp[blk],fun j hj=>?_,fun v w' r' hs hv=>?_⟩
  ·simp only[blk];rw[if_neg Ω]
  ·rw[gN]at hs hv
   refine hK _ _ _ hk.2 ΩC (fun _=>by rw[qr]) ⟨r',?_⟩;rw[qr];refine h.step hs (fun id x hx=>?_) Ω hd' hv;simp only[blk]at hx;split at hx
   ·omega
   ·have:=h.keys id x hx;omega
 case upd obl j b=>
  refine base1 ⟨hk.1,fun w' hs=>hK _ _ _ hk.2 ΩC (fun _=>by rw[qr]) ⟨r,?_⟩⟩;rw[qr];refine(h.step hs (fun id x hx=>?_) (xa5 _) hd' (.val _)).more hk1;rw[qp]at hx;split at hx
  ·rename_i e;subst e
   cases hb:blk st.hp id with
   |none=>simp[hb]at hx
   |some y=>exact h.keys id y hb
  ·exact h.keys id x hx
 case updv obl j b sv=>
  refine base1 ⟨hk.1,fun v w' hs hv=>hK _ _ _ hk.2 ΩC (fun _=>by rw[qr]) ⟨r,?_⟩⟩;rw[qr];refine(h.step hs (fun id x hx=>?_) (xa5 _) hd' hv).more hk1;rw[qp]at hx;split at hx
  ·rename_i e;subst e
   cases hb:blk st.hp id with
   |none=>simp[hb]at hx
   |some y=>exact h.keys id y hb
  ·exact h.keys id x hx
 case grow obl old b mk=>
  refine base1 ⟨hk.1.1,Ω,(st.nid+i,b) :: dropBlk st.hp old,by simp[blk],fun j hj hne=>?_,?_,fun v w' r' hs hv=>?_⟩
  ·simp only[blk,qv];rw[if_neg Ω,if_neg hne]
  ·simp only[blk,qv];rw[if_neg hk.1.2];simp
  ·rw[gN]at hs hv
   refine hK _ _ _ hk.2 ΩC (fun _=>by rw[qr]) ⟨r',?_⟩;rw[qr];refine h.step hs (fun id x hx=>?_) Ω hd' hv;simp only[blk,qv]at hx;split at hx
   ·omega
   ·split at hx
    ·cases hx
    ·have:=h.keys id x hx;omega
 case call f args=>
  rcases hk with⟨res,hc,hk⟩|⟨pats,b,res,hc,hs,hk⟩|⟨hJ,hk⟩
  ·exact base1 (.inl ⟨res,hc,fun v w' hst hv=>hK _ _ _ hk ΩC (fun _=>by rw[qr]) ⟨r,by rw[qr];exact(h.step hst h.keys (xa5 _) hd' hv).more hk1⟩⟩)
  ·refine base1 (.inr ⟨pats,b,res,hc,hs,Ω,(st.nid+i,b) :: st.hp,by simp[blk],fun j hj=>?_,fun v w' r' hs hv=>?_⟩)
   ·simp only[blk];rw[if_neg Ω]
   ·rw[gN]at hs hv
    refine hK _ _ _ hk ΩC (fun _=>by rw[qr]) ⟨r',?_⟩;rw[qr];refine h.step hs (fun id x hx=>?_) Ω hd' hv;simp only[blk]at hx;split at hx
    ·omega
    ·have:=h.keys id x hx;omega
  ·obtain⟨x,xs,ts,first,caps,hop,hx,rfl⟩:=gE hres
   refine⟨fun _ _=>trivial,?_⟩;rw[Oper.semAt_eq _ _ _ hdef];have hf:=h.env x;rw[hx]at hf;obtain⟨dst,op,type,pos,aft,guard⟩:=o;simp only[]at hop after;subst hop;simp only[execOp,resolve,Sem.run_bind];generalize a.eval x=u at hf;cases hf with
   |fn _ _ _ cs ds hl hm h1 h2=>
    obtain⟨hl3,h3⟩:=wi xs (fun x _=>h.env x);obtain⟨hl4,h4⟩:=vo hl3 hm h3 h2;obtain⟨hl5,h5⟩:=vo hl hl4 h1 h4;obtain⟨hrun,hcalls⟩:=hk base okc ns r outs a w _ hin hl5 h5;simp only[Deferred.ofValue,Sem.run_pure,Result.andThen_ok,invoke];rw[Array.append_assoc,hrun,Oper.uponIn_enter];refine⟨fun hh=>by simp[FR]at hh,calls_FR.2 (hcalls.mono fun e w'=>?_)⟩;rintro⟨v,st',r',res,rfl,hK',hn,hi,hv⟩;exact after v st' r' res w' hJ hK' hn hi hv
 case yield y args=>
  obtain⟨hJ,hk⟩:=hk;obtain⟨x,xs,ts,hop,hx,rfl⟩:=ZD hres;refine⟨fun _ _=>trivial,?_⟩;rw[Oper.semAt_eq _ _ _ hdef];have hf:=h.env x;rw[hx]at hf;obtain⟨dst,op,type,pos,aft,guard⟩:=o;simp only[]at hop after;subst hop;simp only[execOp,resolve,Sem.run_bind];generalize a.eval x=u at hf;cases hf with
  |yld _ l hN hr=>
   obtain⟨hl3,h3⟩:=wi xs (fun x _=>h.env x);obtain⟨fn,tmps,assign,body,hrun,hround⟩:=hk base okc ns r outs a w _ l hin hl3 h3 hN hr;simp only[Deferred.ofValue,Sem.run_pure,Result.andThen_ok,invoke];have e : #[]++Array.map a.eval xs=Array.map a.eval xs:=by simp
   rw[e,hrun,Oper.uponIn_round];refine⟨fun hh=>by simp[FR]at hh,RoundIn.mono (F:=FR ro) hround fun e w'=>?_⟩;rintro⟨v,st',r',res,rfl,hK',hn,hi,hv⟩;exact after v st' r' res w' hJ hK' hn hi hv
 case raw=>
  obtain⟨hJ,hk⟩:=hk;refine⟨fun _ _=>trivial,?_⟩;rw[Oper.semAt_eq _ _ _ hdef];obtain⟨v,w',hrun,st',r',res,hK',hn,hi,hv⟩:=hk base okc ns r outs a w o rfl hin;rw[hrun];exact after v st' r' res w' hJ hK' hn hi hv
theorem yK(ops:Array Oper)(a:Act)(j t:Nat)(h:nth (dsts ops.toList) j=some t):yielded ops a.tmps j=match a.tmps[t]? with|some (.bool b)=>some b|_=>none:=by
 rw[za]at h;unfold yielded;have:(ops[j]?).bind (·.dst)=some t:=by simpa using h
 rw[this];rfl
theorem KE{ops:Array Oper}{o:Oper}{run skip:St→Prop}(h:InvR O base okc ns k r outs st a w)(hg:zf (dsts ops.toList) o.guard st run skip) :
  ∃st',st'.nid=st.nid∧InvR O base okc ns k r outs st' a w∧((Region.wanted o (yielded ops a.tmps)=true∧run st')∨(Region.wanted o (yielded ops a.tmps)=false∧skip st')):=by
 unfold zf at hg;cases ho:o.guard with
 |none=>
  rw[ho]at hg;exact⟨st,rfl,h,.inl ⟨by simp[Region.wanted,ho],hg⟩⟩
 |some gw=>
  obtain⟨j,want⟩:=gw;rw[ho]at hg;cases ht:nth (dsts ops.toList) j with
  |none=>simp[ht]at hg
  |some t=>
   have hy:=yK ops a j t ht;simp only[ht]at hg;have hrep:=h.fr t;cases hl:look st.fr t with
   |val v=>
    rw[hl]at hrep hg;have hv:a.tmps.getD t undef=v:=by generalize a.tmps.getD t undef=z at hrep;cases hrep;rfl
    cases v with
    |bool b=>
     have hy':yielded ops a.tmps j=some b:=by
      rw[hy];simp only[xf5]at hv;cases hz:a.tmps[t]? with
      |none=>rw[hz]at hv;simp[undef]at hv
      |some z=>rw[hz]at hv;simp at hv;rw[hv]
     have hw:Region.wanted o (yielded ops a.tmps)=(b == want):=by
      simp only[Region.wanted,ho,hy'];cases b<;>cases want<;>rfl
     rw[hw];cases b<;>cases want
     ·exact⟨_,qr _ _ _,h.keep hl,.inl ⟨rfl,hg.2 rfl⟩⟩
     ·exact⟨_,qr _ _ _,h.keep hl,.inr ⟨rfl,hg.2 rfl⟩⟩
     ·exact⟨_,qr _ _ _,h.keep hl,.inr ⟨rfl,hg.1 rfl⟩⟩
     ·exact⟨_,qr _ _ _,h.keep hl,.inl ⟨rfl,hg.1 rfl⟩⟩
    |tuple vs=>
     refine⟨st,rfl,h,.inr ⟨?_,hg⟩⟩;have hy':yielded ops a.tmps j=none:=by
      rw[hy];simp only[xf5]at hv;cases hz:a.tmps[t]? with
      |none=>rfl
      |some z=>rw[hz]at hv;simp at hv;rw[hv]
     simp[Region.wanted,ho,hy']
    |_=>exact hg.elim
   |_=>rw[hl]at hg;exact hg.elim
theorem Y6{ro:Option Nat}{allops:Array Oper}{Q:Exit→Act→World→Prop}:∀(ops:List Oper)(i:Nat)(st:St)(K:St→Prop)(r:Nat→Option Nat)(a:Act)(w:World),InvR O base okc ns (st.nid+i) r outs st a w→ops.all (kL ns)=true→
  qZ P O J (dsts allops.toList) ops i st K→(∀st' a' w',K st'→Inv O base okc ns (st'.nid+(i+ops.length)) outs st' a' w'→Q .normal a' w')→wpListIn (FR ro) 0 P allops Q ops a w
 |[],i,st,K,r,a,w,h,hd,hk,hK=>hK st a w hk ⟨r,h⟩
 |o :: rest,i,st,K,r,a,w,h,hd,hk,hK=>by
  simp only[List.all_cons,xe6]at hd;obtain⟨st',hnid,h',hcase⟩:=KE h hk;have hlen:i+(o :: rest).length=(i+1)+rest.length:=by simp;omega
  rw[hlen]at hK;unfold wpListIn;rcases hcase with⟨hw,hrun⟩|⟨hw,hskip⟩
  ·rw[if_pos hw]
   refine Y5 (h:=hnid▸h') hd.1 (by exact hrun) fun st1 a1 w1 hk1 hn1 _ ⟨r1,h1⟩=>?_;exact Y6 rest (i+1) st1 K r1 a1 w1 h1 hd.2 hk1 hK
  ·rw[if_neg (by rw[hw];simp)]
   have hd':∀t,o.dst=some t→t<ns:=fun t ht=>by simpa[kL,ht]using hd.1
   have h1:InvR O base okc ns (st.nid+i) r outs (st'.put o.dst undefSV) (a.put o.dst undef) w:=h'.step (Step.refl h'.sat) h'.keys (xa5 _) hd' (.val _);exact⟨fun _ _=>trivial,Y6 rest (i+1) _ K r _ w (by rw[qr,hnid];exact h1.more Ω) hd.2 hskip hK⟩
end
end Go.Sx
end
section
namespace Go.Sx
open Go.RowKit
def zI(o:Oper):List Tmp:=o.op.operands.toList.filterMap fun|.tmp t=>some t|_=>none
def qeY(ds:List (Option Tmp))(o:Oper):List Tmp:=match o.guard with|some (g,_)=>(nth ds g).toList|none=>[]
def seen(ds:List (Option Tmp))(o:Oper):List Tmp:=zI o++(qeY ds o++o.dst.toList)
def kM:Op→Bool
 |.move _=>true
 |.assign _=>true
 |.pick _ _ _=>true
 |.alloc _=>true
 |.box _ _=>true
 |.load _ _=>true
 |.nilCheck _=>true
 |.binOp _ _ _ _ _=>true
 |.unOp _ _ _=>true
 |.convert _ _ _=>true
 |.makeFunc _ _ _=>true
 |.fieldAddr _ _ _=>true
 |.field _ _ _=>true
 |.indexAddr _ _ _=>true
 |.extract _ _=>true
 |.build _ _=>true
 |.buildSlice _ _ _=>true
 |.makeSlice _ _ _=>true
 |.slice _ _ _ _ _=>true
 |.lookup _ _ _ _=>true
 |.makeMap _ _=>true
 |.index _ _ _=>true
 |.call ⟨.value _,_,_⟩=>true
 |.call ⟨.builtin .len,_,_⟩=>true
 |.call ⟨.builtin .min,_,_⟩=>true
 |.call ⟨.builtin .max,_,_⟩=>true
 |_=>false
def Ze(ms:List Nat):List Edge→Nat
 |[]=>0
 |e :: es=>if Region.binds .any e=true then Ze ms es |||(2^e.on ||| ms.getD e.on 0)else Ze ms es
def zr(ms:List Nat):List Oper→List Nat
 |[]=>ms
 |o :: rest=>zr (ms++[Ze ms o.after.toList]) rest
def ZW(i:Nat):List Edge→Bool
 |[]=>true
 |e :: es=>(!Region.binds .any e || decide (e.on<i))&&ZW i es
def gO:Nat→List Oper→Bool
 |_,[]=>true
 |i,o :: rest=>ZW i o.after.toList&&gO (i+1) rest
def Qm(ds:List (Option Tmp))(ms:List Nat)(ops:List Oper):Bool:=
 (List.range ops.length).all fun j=>match ops[j]? with
  |none=>true
  |some oj=>(List.range j).all fun i=>(ms.getD j 0).testBit i ||(match nth ds i with|some d=>!(seen ds oj).contains d|none=>true)&&(match nth ds j with|some d=>(match ops[i]? with|some oi=>!(seen ds oi).contains d|none=>true)|none=>true)
def vv:List Oper→Nat
 |[]=>0
 |o :: rest=>if kM o.op=true then vv rest+1 else 0
def jt:Op→Bool
 |.call ⟨.value _,_,_⟩=>true
 |_=>false
def jM:List Oper→Nat
 |[]=>0
 |o :: rest=>if (kM o.op&&!jt o.op)=true then jM rest+1 else 0
def J5(ms:List Nat)(m n:Nat):Bool:=(List.range n).all fun j=>decide (j<m) || decide (ms.getD j 0=2^j - 1)
def kD(d:Bool)(ops:List Oper):Bool:=!d || J5 (zr [] ops) (jM ops) ops.length
def J6(ops:List Oper):Bool:=
 let ms:=zr [] ops
 gO 0 ops&&Qm (dsts ops) ms ops&&J5 ms (vv ops) ops.length
theorem gh:∀{ops:List Oper}{i:Nat},gO i ops=true→∀j o,ops[j]? = some o→∀e∈o.after,Region.binds .any e=true→e.on<i+j
 |[],i,h,j,o,ho=>by simp at ho
 |p :: ops,i,h,j,o,ho=>by
  simp only[gO,xe6]at h;cases j with
  |zero=>
   simp at ho;subst ho;intro e he hb;have key:∀(es:List Edge),ZW i es=true→e∈es→e.on<i:=by
    intro es
    induction es with
    |nil=>intro _ h;cases h
    |cons x es ih=>
     intro h1 h2;simp only[ZW,xe6,xe8,Bool.not_eq_true',decide_eq_true_eq]at h1;rcases List.mem_cons.1 h2 with e'|e'
     ·subst e'
      rcases h1.1 with h3|h3
      ·rw[hb]at h3;cases h3
      ·exact h3
     ·exact ih h1.2 e'
   simpa using key _ h.1 ΩT
  |succ j=>
   intro e he hb;have:=gh h.2 j o Ω9 e he hb;omega
def kV(ops:List Oper)(S:Nat→Bool):Prop:=∀j o,ops[j]? = some o→S j=true→∀e∈o.after,Region.binds .any e=true→S e.on=true
theorem wk{ms:List Nat}{S:Nat→Bool}{i:Nat}(hms:∀j,(ms.getD j 0).testBit i=true→S j=true→S i=true):∀{es:List Edge},(∀e∈es,Region.binds .any e=true→S e.on=true)→(Ze ms es).testBit i=true→S i=true
 |[],_,h=>by simp[Ze]at h
 |e :: es,hS,h=>by
  simp only[Ze]at h;split at h
  ·rename_i hb
   rw[Nat.testBit_or,Nat.testBit_or,xe8,xe8]at h;rcases h with h|h|h
   ·exact wk hms (fun e he=>hS e (List.mem_cons_of_mem _ he)) h
   ·have:e.on=i:=by
     rw[Nat.testBit_two_pow]at h;simpa using h
    exact this▸hS e xd5 hb
   ·exact hms _ h (hS e xd5 hb)
  ·exact wk hms (fun e he=>hS e (List.mem_cons_of_mem _ he)) h
theorem KF{S:Nat→Bool}{i:Nat}:∀(rest pre:List Oper)(ms:List Nat),ms.length=pre.length→kV (pre++rest) S→(∀j,(ms.getD j 0).testBit i=true→S j=true→S i=true)→
  ∀j,((zr ms rest).getD j 0).testBit i=true→S j=true→S i=true
 |[],pre,ms,hl,hc,h=>h
 |o :: rest,pre,ms,hl,hc,h=>by
  simp only[zr];refine KF rest (pre++[o]) _ (by simp[hl]) (by simpa using hc) fun j hj hS=>?_;by_cases hlt:j<ms.length
  ·rw[xc6,xc9 hlt,←xc6]at hj
   exact h j hj hS
  ·by_cases he:j=ms.length
   ·subst he
    rw[xc6,xd0 (xa5 _)]at hj;simp at hj;refine wk h (fun e he hb=>?_) hj;exact hc ms.length o (by rw[hl];simp) hS e ΩT hb
   ·rw[xc6,List.getElem?_eq_none Ωl]at hj
    simp at hj
theorem qw{ops:List Oper}{S:Nat→Bool}(hc:kV ops S){i j:Nat}(h:((zr [] ops).getD j 0).testBit i=true)(hS:S j=true):S i=true:=
 KF ops [] [] rfl (by simpa using hc) Ωg j h hS
def KG(F:Nat→SV)(d:Option Tmp)(v:SV):Nat→SV:=fun t=>if d=some t then v else F t
def gF(ds:List (Option Tmp))(g:Option (Nat×Bool))(F:Nat→SV):Option Bool:=
 match g with
 |none=>some true
 |some (j,want)=>match nth ds j with
  |none=>none
  |some t=>match F t with
   |.val (.bool b)=>some (b == want)
   |.val (.tuple _)=>some false
   |_=>none
inductive yt(P:Program)(F:Nat→SV)(hp:List (Nat×Blk))(id:Nat)(o:Oper):SV→Option Blk→Prop
 |pure (obl:Prop) (sv:SV) (h:stepR P F hp o.op=.pure obl sv) (ho:obl):yt P F hp id o sv none
 |ex (obl:SV→Prop) (sv:SV) (h:stepR P F hp o.op=.ex obl) (ho:obl sv):yt P F hp id o sv none
 |new (obl:Prop) (b:Blk) (mk:Nat→SV) (h:stepR P F hp o.op=.new obl b mk) (ho:obl):yt P F hp id o (mk id) (some b)
 |call (f:FuncId) (args:List SV) (res:SV) (h:stepR P F hp o.op=.call f args) (hc:CanC P hp f args res):yt P F hp id o res none
 |callN (f:FuncId) (args pats:List SV) (b:Blk) (res:SV) (h:stepR P F hp o.op=.call f args) (hc:zp P f pats b res) (hs:NewOk hp pats args b res):yt P F hp id o (setId id res) (some b)
def gi(nb:Option Blk)(id:Nat)(hp:List (Nat×Blk)):List (Nat×Blk):=match nb with|some b=>(id,b) :: hp|none=>hp
inductive Wl(P:Program)(ds:List (Option Tmp))(nid:Nat):Nat→List Oper→(Nat→SV)→List (Nat×Blk)→List (Bool×SV×Option Blk)→(Nat→SV)→List (Nat×Blk)→Prop
 |nil (i:Nat) (F:Nat→SV) (hp:List (Nat×Blk)):Wl P ds nid i [] F hp [] F hp
 |skip (i:Nat) (o:Oper) (rest:List Oper) (F F':Nat→SV) (hp hp':List (Nat×Blk)) (rs:List (Bool×SV×Option Blk)) (hg:gF ds o.guard F=some false)
   (h:Wl P ds nid (i+1) rest (KG F o.dst undefSV) hp rs F' hp'):Wl P ds nid i (o :: rest) F hp ((false,undefSV,none) :: rs) F' hp'
 |run (i:Nat) (o:Oper) (rest:List Oper) (F F':Nat→SV) (hp hp':List (Nat×Blk)) (rs:List (Bool×SV×Option Blk)) (sv:SV) (nb:Option Blk) (hg:gF ds o.guard F=some true) (hr:yt P F hp (nid+i) o sv nb)
   (h:Wl P ds nid (i+1) rest (KG F o.dst sv) (gi nb (nid+i) hp) rs F' hp'):Wl P ds nid i (o :: rest) F hp ((true,sv,nb) :: rs) F' hp'
theorem ky(fr:List (Nat×SV))(hp:List (Nat×Blk))(nid:Nat)(d:Option Tmp)(v:SV):look (({ fr:=fr,hp:=hp,nid:=nid }:St).put d v).fr=KG (look fr) d v:=by
 funext t;cases d with
 |none=>simp[St.put,KG]
 |some d=>
  simp only[St.put,KG,zb,Option.some.injEq];by_cases e:t=d
  ·subst e;simp
  ·rw[if_neg e,if_neg (Ne.symm e)]
def qeZ:Res→Bool
 |.upd _ _ _=>false
 |.updv _ _ _ _=>false
 |.grow _ _ _ _=>false
 |_=>true
theorem jN{x:Res}(h:jJ x=true):qeZ x=true:=by cases x<;>first|rfl|cases h
theorem yL{x:Res}(h:(∃obl b mk,x=.new obl b mk)∨x=.bad):qeZ x=true:=by rcases h with⟨_,_,_,rfl⟩|rfl<;>rfl
theorem vw{P:Program}{F:Nat→SV}{hp:List (Nat×Blk)}{op:Op}(h:kM op=true):qeZ (stepR P F hp op)=true:=by
 cases op<;>first|(simp[kM]at h;done)|(simp only[stepR])
 case move=>rfl
 case assign=>rfl
 case pick=>unfold rPick;split<;>rfl
 case alloc=>unfold rAlloc;split<;>rfl
 case box=>unfold rBox;(repeat' split)<;>rfl
 case load=>unfold rLoad;(repeat' split)<;>rfl
 case nilCheck=>unfold rNil;split<;>rfl
 case binOp=>unfold rBin;(repeat' split)<;>first|rfl|(rcases vh P _ _ _ _ _ with⟨_,_,e⟩|e<;>rw[e]<;>rfl)|(unfold rInt;split<;>rfl)|(unfold rEq;(repeat' split)<;>rfl)
 case lookup=>exact jN (kJ _ _ _ _ _)
 case makeMap=>exact yL (gM _ _)
 case index=>exact jN (jh _ _ _)
 case unOp=>unfold rUn;split<;>rfl
 case convert=>unfold rConv;split<;>rfl
 case makeFunc=>rfl
 case fieldAddr=>unfold rFieldAddr;(repeat' split)<;>rfl
 case field=>unfold rField;(repeat' split)<;>rfl
 case indexAddr=>unfold rIndexAddr;(repeat' split)<;>rfl
 case extract=>unfold rExtract;split<;>rfl
 case build=>exact jN (gb _ _)
 case buildSlice=>exact yL (kw _ _ _)
 case makeSlice=>exact yL (kS _ _ _)
 case slice=>exact jN (jg _ _ _ _ _)
 case call c=>
  obtain⟨callee,args,ts⟩:=c;cases callee with
  |value f=>simp only[rCall];split<;>rfl
  |invoke _ _=>simp[kM]at h
  |builtin b=>
   cases b<;>first|(simp[kM]at h;done)|skip
   case len=>simp only[rCall];split<;>first|rfl|(unfold rLen;(repeat' split)<;>rfl)
   case max=>simp only[rCall];unfold rMin;(repeat' split)<;>rfl
   case min=>simp only[rCall];unfold rMin;(repeat' split)<;>rfl
theorem yu{ds:List (Option Tmp)}{g:Option (Nat×Bool)}{st:St}{run skip:St→Prop}(h:zf ds g st run skip) :
  ∃st',st'.nid=st.nid∧st'.hp=st.hp∧look st'.fr=look st.fr∧((gF ds g (look st.fr)=some true∧run st')∨(gF ds g (look st.fr)=some false∧skip st')):=by
 unfold zf at h;cases g with
 |none=>exact⟨st,rfl,rfl,rfl,.inl ⟨rfl,h⟩⟩
 |some gw=>
  obtain⟨j,want⟩:=gw;cases ht:nth ds j with
  |none=>simp[ht]at h
  |some t=>
   simp only[ht]at h;cases hl:look st.fr t with
   |val v=>
    rw[hl]at h;have hkeep:∀b,v=.bool b→look (st.put (some t) (.val (.bool b))).fr=look st.fr:=fun b hb=>by
     funext x;simp only[St.put,zb];split
     ·rename_i e;subst e;rw[hl,hb]
     ·rfl
    cases v with
    |bool b=>
     cases b<;>cases want
     ·exact⟨_,qr _ _ _,zk _ _ _,hkeep _ rfl,.inl ⟨by simp[gF,ht,hl],h.2 rfl⟩⟩
     ·exact⟨_,qr _ _ _,zk _ _ _,hkeep _ rfl,.inr ⟨by simp[gF,ht,hl],h.2 rfl⟩⟩
     ·exact⟨_,qr _ _ _,zk _ _ _,hkeep _ rfl,.inr ⟨by simp[gF,ht,hl],h.1 rfl⟩⟩
     ·exact⟨_,qr _ _ _,zk _ _ _,hkeep _ rfl,.inl ⟨by simp[gF,ht,hl],h.1 rfl⟩⟩
    |tuple vs=>exact⟨st,rfl,rfl,rfl,.inr ⟨by simp[gF,ht,hl],h⟩⟩
    |_=>exact h.elim
   |_=>rw[hl]at h;exact h.elim
theorem GO{P:Program}{F:Nat→SV}{hp:List (Nat×Blk)}{op:Op}{f:FuncId}{args:List SV}(h:stepR P F hp op=.call f args):jt op=true:=by
 obtain⟨x,xs,ts,first,caps,rfl,_⟩:=gE h;rfl
theorem KH{P:Program}{F:Nat→SV}{hp:List (Nat×Blk)}{op:Op}{y:Nat}{args:List SV}(h:stepR P F hp op=.yield y args):jt op=true:=by
 obtain⟨x,xs,ts,rfl,_⟩:=ZD h;rfl
theorem J7{P:Program}{F:Nat→SV}{hp:List (Nat×Blk)}{op:Op}(h:stepR P F hp op=.raw):kM op=false:=by
 rcases Zd (P:=P) F hp op with h'|⟨x,xs,ts,rfl⟩|⟨t,x,rfl⟩|⟨x,s,rfl⟩|⟨x,rfl⟩
 ·rw[h]at h';cases h'
 ·simp only[stepR,rCall]at h;split at h<;>cases h
 ·rfl
 ·rfl
 ·rfl
theorem resolve{P:Program}{O:Ctx}{J:Prop}{ds:List (Option Tmp)}{K:St→Prop}{tail:List Oper}:∀(pre:List Oper)(i:Nat)(st:St),(∀o∈pre,kM o.op=true)→(J→∀o∈pre,jt o.op=false)→qZ P O J ds (pre++tail) i st K→
  ∃rs st',Wl P ds st.nid i pre (look st.fr) st.hp rs (look st'.fr) st'.hp∧st'.nid=st.nid∧qZ P O J ds tail (i+pre.length) st' K
 |[],i,st,_,_,h=>⟨[],st,.nil _ _ _,rfl,h⟩
 |o :: pre,i,st,hcalm,hJ,h=>by
  obtain⟨st1,hn,hh,hl,hcase⟩:=yu h;have hlen:i+(o :: pre).length=(i+1)+pre.length:=by simp;omega
  rw[hlen];rcases hcase with⟨hg,hrun⟩|⟨hg,hskip⟩
  ·have go:∀(st2:St)(sv:SV)(nb:Option Blk),yt P (look st.fr) st.hp (st.nid+i) o sv nb→st2.nid=st.nid→st2.hp=gi nb (st.nid+i) st.hp→look st2.fr=KG (look st.fr) o.dst sv→qZ P O J ds (pre++tail) (i+1) st2 K→
     ∃rs st',Wl P ds st.nid i (o :: pre) (look st.fr) st.hp rs (look st'.fr) st'.hp∧st'.nid=st.nid∧qZ P O J ds tail ((i+1)+pre.length) st' K:=by
    intro st2 sv nb hr h1 h2 h3 h4;obtain⟨rs,st',ht,hn',hk⟩:=resolve pre (i+1) st2 (fun o ho=>hcalm o (List.mem_cons_of_mem _ ho)) (fun j o ho=>hJ j o (List.mem_cons_of_mem _ ho)) h4;rw[h1,h2,h3]at ht;exact⟨_,st',.run _ _ _ _ _ _ _ _ _ _ hg hr ht,hn'.trans h1,hk⟩
   have hst1:st1=⟨st1.fr,st1.hp,st1.nid⟩:=rfl;generalize hres:stepR P (look st1.fr) st1.hp o.op=res at hrun;rw[hl,hh]at hres;cases res with
   |bad=>exact hrun.elim
   |pure obl sv=>exact go _ sv none (.pure obl sv hres hrun.1) Ωab Ω1 ΩV hrun.2
   |ex obl=>
    obtain⟨sv,ho,hk⟩:=hrun;exact go _ sv none (.ex obl sv hres ho) Ωab Ω1 ΩV hk
   |new obl b mk=>exact go _ (mk (st.nid+i)) (some b) (.new obl b mk hres hrun.1) Ωy Ω2 (by rw[ky,hl,hn]) hrun.2
   |upd obl j b=>have:=vw (P:=P) (F:=look st.fr) (hp:=st.hp) (hcalm o xd5);rw[hres]at this;cases this
   |updv obl j b sv=>have:=vw (P:=P) (F:=look st.fr) (hp:=st.hp) (hcalm o xd5);rw[hres]at this;cases this
   |grow obl j b sv=>have:=vw (P:=P) (F:=look st.fr) (hp:=st.hp) (hcalm o xd5);rw[hres]at this;cases this
   |call f args=>
    rcases hrun with⟨res,hc,hk⟩|⟨pats,b,res,hc,hs,hk⟩|⟨hj,_⟩
    ·rw[hh]at hc
     exact go _ res none (.call f args res hres hc) Ωab Ω1 ΩV hk
    ·rw[hh]at hs
     exact go _ (setId (st.nid+i) res) (some b) (.callN f args pats b res hres hc hs) Ωy Ω2 (by rw[ky,hl,hn]) hk
    ·have:=hJ hj o xd5
     rw[GO hres]at this;cases this
   |yield y args=>
    have:=hJ hrun.1 o xd5;rw[KH hres]at this;cases this
   |raw=>
    have:=hcalm o xd5;rw[J7 hres]at this;cases this
  ·obtain⟨rs,st',ht,hn',hk⟩:=resolve pre (i+1) _ (fun o ho=>hcalm o (List.mem_cons_of_mem _ ho)) (fun j o ho=>hJ j o (List.mem_cons_of_mem _ ho)) hskip
   have hst1:st1=⟨st1.fr,st1.hp,st1.nid⟩:=rfl;have e1:look (st1.put o.dst undefSV).fr=KG (look st.fr) o.dst undefSV:=by rw[hst1,ky,hl]
   rw[qr,zk,hn,hh,e1]at ht;exact⟨_,st',.skip _ _ _ _ _ _ _ _ hg ht,by rw[hn',qr,hn],hk⟩
end Go.Sx
end
section
namespace Go.Sx
open Go.RowKit
section
variable{hp hp':List (Nat×Blk)}
mutual
theorem ki(h:∀id x,blk hp id=some x→blk hp' id=some x):∀(p s:SV),Sub hp p s→Sub hp' p s
 |.top,s,_=>by simp[Sub]
 |.val v,s,hs=>by simpa[Sub]using hs
 |.agg l,s,hs=>by
  cases s<;>simp only[Sub]at hs ⊢
  exact subL_mono h l _ hs
 |.tup l,s,hs=>by
  cases s<;>simp only[Sub]at hs ⊢
  exact subL_mono h l _ hs
 |.fn f a b,s,hs=>by
  cases s<;>simp only[Sub]at hs ⊢
  exact⟨hs.1,subL_mono h a _ hs.2.1,subL_mono h b _ hs.2.2⟩
 |.ref o n row,s,hs=>by
  cases s<;>simp only[Sub]at hs ⊢
  case ref=>exact⟨hs.1,hs.2.1,fun j hj=>ki h (row j) _ (hs.2.2 j hj)⟩
  case ptr id off=>
   split at hs
   ·rename_i t l hb
    rw[h _ _ hb];exact fun j hj=>⟨ki h (row j) _ (hs j hj).1,(hs j hj).2⟩
   ·exact hs.elim
  case elt id k i j0=>
   split at hs
   ·rename_i t k' n' row' hb
    rw[h _ _ hb];exact⟨hs.1,hs.2.1,hs.2.2.1,fun j hj=>ki h (row j) _ (hs.2.2.2 j hj)⟩
   ·exact hs.elim
 |.arr o full n k row,s,hs=>by
  cases s<;>simp only[Sub]at hs ⊢
  case arr=>exact⟨hs.1,hs.2.1,hs.2.2.1,hs.2.2.2.1,fun i j hi hj=>ki h (row i j) _ (hs.2.2.2.2 i j hi hj)⟩
  case vec id n' k'=>
   obtain⟨h1,h2,h3,hs⟩:=hs;refine⟨h1,h2,h3,?_⟩;split at hs
   ·rename_i t k'' m row' hb
    rw[h _ _ hb];exact⟨hs.1,hs.2.1,fun i j hi hj=>ki h (row i j) _ (hs.2.2 i j hi hj)⟩
   ·exact hs.elim
  case asl id off n' k'=>
   obtain⟨h1,h2,h3,hs⟩:=hs;refine⟨h1,h2,h3,?_⟩;split at hs
   ·rename_i t l hb
    rw[h _ _ hb];exact⟨hs.1,fun i j hi hj=>ki h (row i j) _ (hs.2 i j hi hj)⟩
   ·exact hs.elim
  case cut id n' k'=>
   obtain⟨h2,h3,hs⟩:=hs;refine⟨h2,h3,?_⟩;split at hs
   ·rename_i t k'' m row' hb
    rw[h _ _ hb];exact⟨hs.1,hs.2.1,fun i j hi hj=>ki h (row i j) _ (hs.2.2 i j hi hj)⟩
   ·exact hs.elim
  case val u=>exact hs
 |.cmp o fit dom get,s,hs=>by
  cases s<;>simp only[Sub]at hs ⊢
  case cmp=>exact⟨hs.1,hs.2.1,hs.2.2.1,fun key hk=>ki h (get key) _ (hs.2.2.2 key hk)⟩
  case mp id=>
   split at hs
   ·rename_i fit' dom' get' hb
    rw[h _ _ hb];exact⟨hs.1,hs.2.1,fun key hk=>ki h (get key) _ (hs.2.2 key hk)⟩
   ·rename_i fit' dom' get' st' c' hb
    rw[h _ _ hb];exact⟨hs.1,hs.2.1,fun key hk=>ki h (get key) _ (hs.2.2 key hk)⟩
   ·exact hs.elim
 |.cut _ _ _,s,hs=>by simp[Sub]at hs
 |.ptr _ _,s,hs=>by simp[Sub]at hs
 |.elt _ _ _ _,s,hs=>by simp[Sub]at hs
 |.vec _ _ _,s,hs=>by simp[Sub]at hs
 |.mp _,s,hs=>by simp[Sub]at hs
 |.asl _ _ _ _,s,hs=>by simp[Sub]at hs
 |.que _ _ _ _,s,hs=>by simp[Sub]at hs
 |.yld _,s,hs=>by simp[Sub]at hs
theorem subL_mono(h:∀id x,blk hp id=some x→blk hp' id=some x):∀(l m:List SV),SubL hp l m→SubL hp' l m
 |[],m,hs=>by simpa[SubL]using hs
 |a :: l,m,hs=>by
  cases m with
  |nil=>simp[SubL]at hs
  |cons b m=>
   simp only[SubL]at hs ⊢;exact⟨ki h a b hs.1,subL_mono h l m hs.2⟩
end
theorem CanC.mono{P:Program}(h:∀id x,blk hp id=some x→blk hp' id=some x){f:FuncId}{args:List SV}{res:SV}(hc:CanC P hp f args res):CanC P hp' f args res:=
 hc.imp (fun⟨pats,h1,h2⟩=>⟨pats,h1,h2.imp (fun k=>⟨subL_mono h _ _ k.1,k.2⟩) id⟩) id
theorem NewOk.mono(h:∀id x,blk hp id=some x→blk hp' id=some x){pats args:List SV}{b:Blk}{res:SV}(hn:NewOk hp pats args b res):NewOk hp' pats args b res:=hn.imp (fun hh=>⟨subL_mono h _ _ hh.1,hh.2⟩) (fun hh=>hh)
theorem gG{P:Program}{F:Nat→SV}{op:Op}(hc:kM op=true)(h:∀id x,blk hp id=some x→blk hp' id=some x)(hne:stepR P F hp op≠.bad):stepR P F hp' op=stepR P F hp op:=by
 cases op<;>first|rfl|(simp[kM]at hc;done)|skip
 case call c=>
  obtain⟨callee,args,ts⟩:=c;cases callee with
  |value f=>rfl
  |invoke _ _=>simp[kM]at hc
  |builtin b=>cases b<;>first|rfl|(simp[kM]at hc;done)
 case lookup t x k ok=>
  simp only[stepR]at hne ⊢;have hmo:mapOf hp (env F x)≠none→mapOf hp' (env F x)=mapOf hp (env F x):=fun hn=>by
   unfold mapOf at hn ⊢;split
   ·rfl
   ·rename_i id hx
    cases hb:blk hp id with
    |none=>rw[hx]at hn;simp[hb]at hn
    |some y=>rw[h _ _ hb]
   ·rfl
  unfold rLookup at hne ⊢;split
  ·cases hm:mapOf hp (env F x)with
   |none=>rw[hm]at hne;split at hne<;>first|exact absurd rfl hne|(rename_i h1 _ _;cases h1)
   |some y=>rw[hmo (by rw[hm];simp),hm]
  ·rfl
 case load t x=>
  simp only[stepR]at hne ⊢;unfold rLoad at hne ⊢;split
  ·split
   ·rename_i id off hx
    cases hb:blk hp id with
    |none=>exact absurd ΩD hne
    |some y=>rw[h _ _ hb]
   ·rename_i id k i j hx
    cases hb:blk hp id with
    |none=>exact absurd ΩD hne
    |some y=>rw[h _ _ hb]
   ·rfl
   ·rfl
  ·split
   ·rename_i id off hx
    cases hb:blk hp id with
    |none=>exact absurd ΩD hne
    |some y=>rw[h _ _ hb]
   ·rename_i id k i j hx
    cases hb:blk hp id with
    |none=>exact absurd ΩD hne
    |some y=>rw[h _ _ hb]
   ·rfl
   ·rfl
  ·rfl
end
def FS(dst:Nat→Option Tmp)(res:Nat→SV)(S:Nat→Bool)(F:Nat→SV):Nat→Nat→SV
 |0=>F
 |i+1=>fun t=>if S i=true∧dst i=some t then res i else FS dst res S F i t
theorem Wm(dst:Nat→Option Tmp)(res:Nat→SV)(S:Nat→Bool)(F:Nat→SV)(j:Nat) :
  FS (fun i=>dst (i+1)) (fun i=>res (i+1)) (fun i=>S (i+1)) (fun t=>if S 0=true∧dst 0=some t then res 0 else F t) j=FS dst res S F (j+1):=by
 induction j with
 |zero=>rfl
 |succ j ih=>
  funext t;simp only[FS]at ih ⊢;by_cases h:S (j+1)=true∧dst (j+1)=some t
  ·rw[if_pos h,if_pos h]
  ·rw[if_neg h,if_neg h,ih]
theorem wl{dst:Nat→Option Tmp}{res:Nat→SV}{S:Nat→Bool}{F:Nat→SV}{i t:Nat}:∀{m:Nat},i≤m→(∀j,j<m→dst j=some t→(S j=true↔j<i))→FS dst res S F m t=FS dst res (fun _=>true) F i t
 |0,hi,h=>by
  have e:i=0:=by omega
  subst e;rfl
 |m+1,hi,h=>by
  by_cases he:i=m+1
  ·subst he
   have key:∀j,j≤m+1→FS dst res S F j t=FS dst res (fun _=>true) F j t:=by
    intro j
    induction j with
    |zero=>intro _;rfl
    |succ j ih=>
     intro hj;simp only[FS,true_and];by_cases hd:dst j=some t
     ·rw[if_pos ⟨(h j Ω hd).2 Ω,hd⟩,if_pos hd]
     ·rw[if_neg (fun e=>hd e.2),if_neg hd];exact ih Ω
   exact key _ (xa5 _)
  ·simp only[FS]
   rw[if_neg]
   ·exact wl Ω fun j hj hd=>h j Ω hd
   ·rintro⟨e1,e2⟩
    have:=(h m Ω e2).1 e1;omega
theorem KI{dst:Nat→Option Tmp}{res:Nat→SV}{S S':Nat→Bool}{F:Nat→SV}{i:Nat}{t:Nat}(hS:∀j,S' j=(S j || decide (j=i))):∀{m:Nat},i<m→(dst i=some t→∀j,j<m→i<j→dst j=some t→S j=false)→
  FS dst res S' F m t=if dst i=some t then res i else FS dst res S F m t
 |0,hi,h=>by omega
 |m+1,hi,h=>by
  have low:∀j,j≤i→FS dst res S' F j t=FS dst res S F j t:=by
   intro j
   induction j with
   |zero=>intro _;rfl
   |succ j ih=>
    intro hj;simp only[FS];have:S' j=S j:=by rw[hS];simp;intro e;omega
    rw[this,ih Ω]
  by_cases he:i=m
  ·subst he
   simp only[FS];have:S' i=true:=by rw[hS];simp
   rw[low i (xa5 _)];by_cases hd:dst i=some t
   ·rw[if_pos ⟨this,hd⟩,if_pos hd]
   ·rw[if_neg (fun e=>hd e.2),if_neg hd,if_neg (fun e=>hd e.2)]
  ·simp only[FS]
   have e1:S' m=S m:=by rw[hS];simp;intro e;omega
   rw[e1,KI hS Ω fun hd j hj hij hdj=>h hd j Ω hij hdj];by_cases hm:S m=true∧dst m=some t
   ·rw[if_pos hm]
    by_cases hd:dst i=some t
    ·have:=h hd m Ω Ω hm.2
     rw[hm.1]at this;cases this
    ·rw[if_neg hd,if_pos hm]
   ·rw[if_neg hm]
    by_cases hd:dst i=some t
    ·rw[if_pos hd,if_pos hd]
    ·rw[if_neg hd,if_neg hd,if_neg hm]
def kb(rs:List (Bool×SV×Option Blk))(i:Nat):SV:=match rs[i]? with|some (_,sv,_)=>sv|none=>.top
theorem Zf{P:Program}{ds:List (Option Tmp)}{nid:Nat}:∀{ops:List Oper}{i0:Nat}{F F':Nat→SV}{hp hp':List (Nat×Blk)}{rs:List (Bool×SV×Option Blk)},Wl P ds nid i0 ops F hp rs F' hp'→(∀id x,blk hp id=some x→id<nid+i0)→
  (∀id x,blk hp id=some x→blk hp' id=some x)∧(∀id x,blk hp' id=some x→blk hp id=some x∨∃j wt sv,rs[j]? = some (wt,sv,some x)∧id=nid+(i0+j)∧j<ops.length)∧
  F'=FS (nth (dsts ops)) (kb rs) (fun _=>true) F ops.length∧
  ∀j o,ops[j]? = some o→∃wt sv nb hpj,rs[j]? = some (wt,sv,nb)∧(∀id x,blk hpj id=some x→blk hp' id=some x)∧
   ((wt=false∧gF ds o.guard (FS (nth (dsts ops)) (kb rs) (fun _=>true) F j)=some false∧sv=undefSV∧nb=none)∨
    (wt=true∧gF ds o.guard (FS (nth (dsts ops)) (kb rs) (fun _=>true) F j)=some true∧yt P (FS (nth (dsts ops)) (kb rs) (fun _=>true) F j) hpj (nid+(i0+j)) o sv nb∧∀b,nb=some b→blk hp' (nid+(i0+j))=some b))
 |[],i0,F,F',hp,hp',rs,h,hk=>by
  cases h with
  |nil=>exact⟨fun _ _ h=>h,fun _ _ h=>.inl h,rfl,fun j o ho=>by simp at ho⟩
 |o :: ops,i0,F,F',hp,hp',rs,h,hk=>by
  have shift:∀(rs':List (Bool×SV×Option Blk))(x:Bool×SV×Option Blk)(j:Nat),FS (nth (dsts ops)) (kb rs') (fun _=>true) (KG F o.dst x.2.1) j=FS (nth (dsts (o :: ops))) (kb (x :: rs')) (fun _=>true) F (j+1):=fun rs' x j=>by
   rw[←Wm]
   congr 1
   funext t;simp[KG,nth,dsts,kb]
  cases h with
  |skip _ _ _ _ _ _ _ rs' hg h=>
   obtain⟨h1,h2,h3,h4⟩:=Zf h (fun id x hx=>by have:=hk id x hx;omega);refine⟨h1,fun id x hx=>?_,?_,fun j o' ho=>?_⟩
   ·rcases h2 id x hx with h|⟨j,wt,sv,hj,e,hjl⟩
    ·exact .inl h
    ·exact .inr ⟨j+1,wt,sv,Ω3,Ω,Ωl⟩
   ·rw[h3];exact shift rs' (false,undefSV,none) ops.length
   ·cases j with
    |zero=>
     simp at ho;subst ho;exact⟨false,undefSV,none,[],rfl,fun id x hx=>by simp[blk]at hx,.inl ⟨rfl,hg,rfl,rfl⟩⟩
    |succ j=>
     obtain⟨wt,sv,nb,hpj,hj,hsub,hcase⟩:=h4 j o' Ω9;have e:=shift rs' (false,undefSV,none) j;dsimp only at e;rw[e]at hcase;have e2:nid+(i0+1+j)=nid+(i0+(j+1)):=by omega
     rw[e2]at hcase;exact⟨wt,sv,nb,hpj,Ω3,hsub,hcase⟩
  |run _ _ _ _ _ _ _ rs' sv nb hg hr h=>
   have hk':∀id x,blk (gi nb (nid+i0) hp) id=some x→id<nid+(i0+1):=fun id x hx=>by
    cases nb with
    |none=>have:=hk id x hx;omega
    |some b=>
     simp only[gi,blk]at hx;split at hx
     ·omega
     ·have:=hk id x hx;omega
   obtain⟨h1,h2,h3,h4⟩:=Zf h hk';have hsub0:∀id x,blk hp id=some x→blk (gi nb (nid+i0) hp) id=some x:=fun id x hx=>by
    cases nb with
    |none=>exact hx
    |some b=>
     simp only[gi,blk];rw[if_neg (by have:=hk id x hx;omega)];exact hx
   refine⟨fun id x hx=>h1 id x (hsub0 id x hx),fun id x hx=>?_,?_,fun j o' ho=>?_⟩
   ·rcases h2 id x hx with h|⟨j,wt,sv',hj,e,hjl⟩
    ·cases nb with
     |none=>exact .inl h
     |some b=>
      simp only[gi,blk]at h;split at h
      ·rename_i e
       cases h;exact .inr ⟨0,true,sv,rfl,Ω,Ωg⟩
      ·exact .inl h
    ·exact .inr ⟨j+1,wt,sv',Ω3,Ω,Ωl⟩
   ·rw[h3];exact shift rs' (true,sv,nb) ops.length
   ·cases j with
    |zero=>
     simp at ho;subst ho;refine⟨true,sv,nb,hp,rfl,fun id x hx=>h1 id x (hsub0 id x hx),.inr ⟨rfl,hg,hr,fun b hb=>?_⟩⟩;subst hb;exact h1 _ _ (by simp[gi,blk])
    |succ j=>
     obtain⟨wt,sv',nb',hpj,hj,hsub,hcase⟩:=h4 j o' Ω9;have e:=shift rs' (true,sv,nb) j;dsimp only at e;rw[e]at hcase;have e2:nid+(i0+1+j)=nid+(i0+(j+1)):=by omega
     rw[e2]at hcase;exact⟨wt,sv',nb',hpj,Ω3,hsub,hcase⟩
end Go.Sx
end
section
namespace Go.Sx
open Go.RowKit
theorem zl{ds:List (Option Tmp)}{ms:List Nat}{ops:List Oper}(h:Qm ds ms ops=true){i j:Nat}{oi oj:Oper}(hi:ops[i]? = some oi)(hj:ops[j]? = some oj)(hij:i<j) :
  (ms.getD j 0).testBit i=true∨((∀d,nth ds i=some d→d∉seen ds oj)∧(∀d,nth ds j=some d→d∉seen ds oi)):=by
 have hjl:j<ops.length:=(List.getElem?_eq_some_iff.1 hj).1;simp only[Qm,List.all_eq_true,List.mem_range]at h;have h1:=h j hjl;rw[hj]at h1;simp only[List.all_eq_true,List.mem_range]at h1;have h2:=h1 i hij;rw[hi]at h2;simp only[xe8,xe6]at h2;rcases h2 with h2|⟨h2,h3⟩
 ·exact .inl h2
 ·refine .inr ⟨fun d hd=>?_,fun d hd=>?_⟩
  ·rw[hd]at h2;simpa using h2
  ·rw[hd]at h3;simpa using h3
theorem KJ:∀(l:List Oper),vv l≤l.length
 |[]=>xa5 _
 |o :: l=>by
  simp only[vv,xe4];split
  ·have:=KJ l;omega
  ·omega
theorem Ji:∀(l:List Oper),∀o∈l.take (vv l),kM o.op=true
 |[],o,h=>by simp at h
 |p :: l,o,h=>by
  simp only[vv]at h;split at h
  ·rename_i hp
   simp only[List.take_succ_cons,List.mem_cons]at h;rcases h with e|e
   ·exact e▸hp
   ·exact Ji l o e
  ·simp at h
theorem KK:∀(l:List Oper),jM l≤l.length
 |[]=>xa5 _
 |o :: l=>by
  simp only[jM];split
  ·have:=KK l;simp;omega
  ·simp
theorem vx:∀(l:List Oper),∀o∈l.take (jM l),kM o.op=true∧jt o.op=false
 |[],o,h=>by simp[jM]at h
 |x :: l,o,h=>by
  simp only[jM]at h;split at h
  ·rename_i hc
   simp only[xe6,Bool.not_eq_true']at hc;simp only[List.take_succ_cons,List.mem_cons]at h;rcases h with rfl|h
   ·exact hc
   ·exact vx l o h
  ·simp at h
theorem qdz(l:List Oper)(m j:Nat)(h:j<m):nth (dsts (l.take m)) j=nth (dsts l) j:=by
 rw[za,za,List.getElem?_take_of_lt h]
theorem KL{dst dst':Nat→Option Tmp}{res:Nat→SV}{S:Nat→Bool}{F:Nat→SV}:∀{m:Nat},(∀j,j<m→dst j=dst' j)→FS dst res S F m=FS dst' res S F m
 |0,_=>rfl
 |m+1,h=>by
  funext t;simp only[FS];rw[h m Ω,KL fun j hj=>h j Ω]
section
variable{P:Program}{O:Ctx}{outs:gD}{base:World}{okc:Nat→Prop}{ns:Nat}
def NS(nid m:Nat)(S:Nat→Bool):Nat→Prop:=fun id=>id<nid∨∃j,j<m∧S j=true∧id=nid+j
structure Ext(O:Ctx)(base:World)(okc:Nat→Prop)(r:Nat→Option Nat)(N:Nat→Prop)(hp:List (Nat×Blk))(outs:gD)(a:Act)(w:World):Prop where
 out:OutOk r O.lo (Gd base okc r N hp w) w O.fs outs.as
 rfix:∀id,id<O.lo→r id=outs.r0 id
 defers:∃Ds:List Nat,KB a outs.as=Ds.map yJ∧Ds.Nodup∧∀D∈Ds,Gd base okc r N hp w true D∧w.heap[D]? = some (.deferred (some []))
theorem Ext.step{O:Ctx}{base:World}{okc:Nat→Prop}{r r':Nat→Option Nat}{N N':Nat→Prop}{hp hp':List (Nat×Blk)}{outs:gD}{a:Act}{w w':World}(h:Ext O base okc r N hp outs a w)(hs:Step base okc r N hp w r' N' hp' w')(hlo:∀i,i<O.lo→N i)(d:Option Tmp)(v:Value) :
  Ext O base okc r' N' hp' outs (a.put d v) w':=by
 refine⟨h.out.mono (xa5 _) fun n hn sv v hv=>hv.mono (fun id hid=>hs.rr id (hlo id (xa9 hid hn))) (fun _ h=>h) hs.gg hs.sh,fun id hid=>(hs.rr id (hlo id hid)).trans (h.rfix id hid),?_⟩;obtain⟨Ds,h1,h2,h3⟩:=h.defers;refine⟨Ds,by unfold KB;rw[KD];exact h1,h2,fun D hD=>?_⟩;obtain⟨h4,h5⟩:=h3 D hD;obtain⟨h6,h7⟩:=hs.gg _ _ h4;exact⟨h6,h7.trans h5⟩
theorem Ext.step0{O:Ctx}{base:World}{okc:Nat→Prop}{r r':Nat→Option Nat}{N N':Nat→Prop}{hp hp':List (Nat×Blk)}{outs:gD}{a:Act}{w w':World}(h:Ext O base okc r N hp outs a w)(hs:Step base okc r N hp w r' N' hp' w')(hlo:∀i,i<O.lo→N i) :
  Ext O base okc r' N' hp' outs a w':=h.step hs hlo none undef
def Mid(O:Ctx)(outs:gD)(base:World)(okc:Nat→Prop)(ns nid m:Nat)(hp:List (Nat×Blk))(dst:Nat→Option Tmp)(res:Nat→SV)(F:Nat→SV)(S:Nat→Bool)(a:Act)(w:World):Prop:=
 ∃r,Sat base okc r (NS nid m S) hp w∧(∀t,Rep r (NS nid m S) (Gd base okc r (NS nid m S) hp w) w (FS dst res S F m t) (a.tmps.getD t undef))∧a.tmps.size=ns∧Ext O base okc r (NS nid m S) hp outs a w
theorem vy{nid m i:Nat}{S S':Nat→Bool}(hS:∀j,S' j=(S j || decide (j=i)))(hi:i<m):zd (NS nid m S) (nid+i)=NS nid m S':=by
 funext id;simp only[zd,NS,eq_iff_iff];constructor
 ·rintro((h|⟨j,h1,h2,h3⟩)|h)
  ·exact .inl h
  ·exact .inr ⟨j,h1,by rw[hS,h2];rfl,h3⟩
  ·exact .inr ⟨i,hi,by rw[hS];simp,h⟩
 ·rintro(h|⟨j,h1,h2,h3⟩)
  ·exact .inl (.inl h)
  ·rw[hS]at h2
   simp only[xe8,decide_eq_true_eq]at h2;rcases h2 with h2|h2
   ·exact .inl (.inr ⟨j,h1,h2,h3⟩)
   ·subst h2;exact .inr h3
theorem qiP{nid m i:Nat}{hp:List (Nat×Blk)}{dst:Nat→Option Tmp}{res F:Nat→SV}{S S':Nat→Bool}{a:Act}{w w':World}{r r':Nat→Option Nat}(hS:∀j,S' j=(S j || decide (j=i)))(hi:i<m)
  (hlater:∀t,dst i=some t→∀j,j<m→i<j→dst j=some t→S j=false)
  (hF:∀t,Rep r (NS nid m S) (Gd base okc r (NS nid m S) hp w) w (FS dst res S F m t) (a.tmps.getD t undef)) (hsize:a.tmps.size=ns) (hdef:Ext O base okc r (NS nid m S) hp outs a w) (hlo:O.lo≤nid) (hd:∀t,dst i=some t→t<ns)
  (hs:Step base okc r (NS nid m S) hp w r' (NS nid m S') hp w') {v:Value} (hv:Rep r' (NS nid m S') (Gd base okc r' (NS nid m S') hp w') w' (res i) v):Mid O outs base okc ns nid m hp dst res F S' (a.put (dst i) v) w':=by
 refine⟨r',hs.sat,fun t=>?_,by cases dst i<;>simp[Act.put,hsize],hdef.step hs (fun i hi=>.inl (xa9 hi hlo)) _ _⟩;rw[KI hS hi (hlater t),KC];by_cases e:dst i=some t
 ·rw[if_pos e,if_pos ⟨e,by rw[hsize];exact hd t e⟩];exact hv
 ·rw[if_neg e,if_neg (fun h=>e h.1)];exact hs.rep (hF t)
def cnt(S:Nat→Bool):Nat→Nat
 |0=>0
 |n+1=>cnt S n+if S n=true then 0 else 1
theorem gP{S S':Nat→Bool}{i:Nat}(hS:∀j,S' j=(S j || decide (j=i)))(hi:S i=false):∀{n:Nat},(n≤i→cnt S' n=cnt S n)∧(i<n→cnt S' n+1=cnt S n)
 |0=>⟨fun _=>rfl,fun h=>by omega⟩
 |n+1=>by
  obtain⟨h1,h2⟩:=gP hS hi (n:=n);refine⟨fun h=>?_,fun h=>?_⟩
  ·simp only[cnt]
   have:S' n=S n:=by rw[hS];simp;intro e;omega
   rw[this,h1 Ω]
  ·simp only[cnt]
   by_cases e:i=n
   ·subst e
    have:S' i=true:=by rw[hS];simp
    rw[this,hi,h1 (xa5 _)];simp
   ·have:S' n=S n:=by rw[hS];simp;intro e';omega
    rw[this];have:=h2 Ω;omega
theorem wm{S:Nat→Bool}:∀{n:Nat},cnt S n=0→∀j,j<n→S j=true
 |0,_,j,h=>by omega
 |n+1,h,j,hj=>by
  simp only[cnt]at h;by_cases e:j=n
  ·subst e
   cases hS:S j
   ·rw[hS]at h;simp at h
   ·rfl
  ·exact wm (S:=S) (n:=n) Ω j Ω
theorem KM{S:Nat→Bool}{m:Nat}(h1:∀j,j<m→S j=true)(h2:∀j,m≤j→S j=false):∀{n:Nat},m≤n→cnt S n=n - m
 |0,h=>by simp[cnt]
 |n+1,h=>by
  by_cases e:m=n+1
  ·subst e
   have key:∀j,j≤n+1→cnt S j=0:=by
    intro j
    induction j with
    |zero=>intro _;rfl
    |succ j ih=>intro hj;simp only[cnt];rw[ih Ω,h1 j Ω];rfl
   rw[key _ (xa5 _)];omega
  ·simp only[cnt]
   rw[KM h1 h2 Ω,h2 n Ω];simp;omega
theorem wn{l:Array Bool}{i j:Nat}(hi:i<l.size):(l.setIfInBounds i true).getD j false=(l.getD j false || decide (j=i)):=by
 by_cases e:i=j
 ·subst e;simp[hi]
 ·simp only[xf5]
  rw[Array.getElem?_setIfInBounds_ne e];simp[Ne.symm e]
theorem qiQ{ro:Option Nat}{ops:Array Oper}{id:Nat}{Q:Exit→Act→World→Prop}{st:St}{K:St→Prop}{a:Act}{w:World}(hm:P.follows .mixedOrders=true)(hok:J6 ops.toList=true)(hd:ops.toList.all (kL ns)=true)
  (h:Inv O base okc ns st.nid outs st a w) (hk:qZ P O (kD true ops.toList=true) (dsts ops.toList) ops.toList 0 st K)
  (hK:∀st' a' w',K st'→Inv O base okc ns (st'.nid+ops.toList.length) outs st' a' w'→Q .normal a' w'):(Code.region id ops true).wpIn (FR ro) 0 P Q a w:=by
 obtain⟨r0,h0⟩:=h;generalize hl:ops.toList=l at hok hd hk hK;have hn:ops.size=l.length:=by rw[←hl];simp
 have hget:∀j:Nat,ops[j]? = l[j]?:=fun j=>by rw[←hl];simp
 simp only[J6,xe6]at hok;obtain⟨⟨hedge,hapart⟩,htail⟩:=hok;have hedge:=gh hedge;obtain⟨m,hml,hcalm,hnoJ,htail⟩:∃m,m≤l.length∧(∀o∈l.take m,kM o.op=true)∧(kD true l=true→∀o∈l.take m,jt o.op=false)∧∀j,j<l.length→m≤j→(zr [] l).getD j 0=2^j - 1:=by
  have spec:∀m,J5 (zr [] l) m l.length=true→∀j,j<l.length→m≤j→(zr [] l).getD j 0=2^j - 1:=fun m htail j hj hjm=>by
   simp only[J5,List.all_eq_true,List.mem_range]at htail;have:=htail j hj;simp only[xe8,decide_eq_true_eq]at this;exact this.resolve_left Ω
  by_cases hin:kD true l=true
  ·exact⟨jM l,KK l,fun o ho=>(vx l o ho).1,fun _ o ho=>(vx l o ho).2,spec _ (by simpa[kD]using hin)⟩
  ·exact⟨vv l,KJ l,Ji l,fun h=>absurd h hin,spec _ htail⟩
 have hk':qZ P O (kD true l=true) (dsts l) (l.take m++l.drop m) 0 st K:=by rw[List.take_append_drop];exact hk
 obtain⟨rs,st1,htr,hn1,hk1⟩:=resolve (l.take m) 0 st hcalm hnoJ hk';have hlen:(l.take m).length=m:=by simp;omega
 rw[hlen,xb0]at hk1;obtain⟨hsub,hkeys,hF1,hops⟩:=Zf htr (by simpa using h0.keys);rw[hlen]at hF1;have hdstm:∀j,j<m→nth (dsts (l.take m)) j=nth (dsts l) j:=fun j hj=>qdz l m j hj;rw[KL hdstm]at hF1;have hop:∀i o,i<m→l[i]? = some o→∃wt sv nb hpj,rs[i]? = some (wt,sv,nb)∧(∀id x,blk hpj id=some x→blk st1.hp id=some x)∧
   ((wt=false∧gF (dsts l) o.guard (FS (nth (dsts l)) (kb rs) (fun _=>true) (look st.fr) i)=some false∧sv=undefSV∧nb=none)∨
    (wt=true∧gF (dsts l) o.guard (FS (nth (dsts l)) (kb rs) (fun _=>true) (look st.fr) i)=some true∧yt P (FS (nth (dsts l)) (kb rs) (fun _=>true) (look st.fr) i) hpj (st.nid+i) o sv nb∧∀b,nb=some b→blk st1.hp (st.nid+i)=some b)):=by
  intro i o hi ho;obtain⟨wt,sv,nb,hpj,h1,h2,h3⟩:=hops i o (by rw[List.getElem?_take_of_lt hi];exact ho);rw[KL (fun j hj=>hdstm j Ω),xb0]at h3;exact⟨wt,sv,nb,hpj,h1,h2,h3⟩
 have hclosed:∀(S:Nat→Bool)(i:Nat),kV l S→(∃o,l[i]? = some o∧∀e∈o.after,Region.binds .any e=true→S e.on=true)→kV l (fun j=>S j || decide (j=i)):=by
  rintro S i hc ⟨o,ho,he⟩ j oj hoj hS e hm' hb;simp only[xe8,decide_eq_true_eq]at hS ⊢;rcases hS with hS|hS
  ·exact .inl (hc j oj hoj hS e hm' hb)
  ·subst hS
   rw[ho]at hoj;cases hoj;exact .inl (he e hm' hb)
 have hready:∀(listed:Array Bool)(i:Nat),listed.size=l.length→i∈Region.ready .any ops listed→i<l.length∧listed.getD i false=false∧∃o,l[i]? = some o∧∀e∈o.after,Region.binds .any e=true→listed.getD e.on false=true:=by
  intro listed i hsz hi;obtain⟨h1,o,h2,h3⟩:=mem_ready.1 hi;rw[hget]at h2;have hlt:i<l.length:=(List.getElem?_eq_some_iff.1 h2).1;refine⟨hlt,?_,o,h2,h3⟩;have:i<listed.size:=by omega
  simpa[this]using h1
 have hleast:∀(listed:Array Bool),listed.size=l.length→∀i,i<l.length→listed.getD i false=false→∃j,j≤i∧j∈Region.ready .any ops listed:=by
  intro listed hsz i
  induction i using Nat.strongRecOn with
  |_ i ih=>
   intro hi hf;obtain⟨o,ho⟩:∃o,l[i]? = some o:=⟨l[i],by simp[hi]⟩;by_cases hall:∀e∈o.after,Region.binds .any e=true→listed.getD e.on false=true
   ·refine⟨i,xa5 _,mem_ready.2 ⟨?_,o,by rw[hget];exact ho,hall⟩⟩
    have:i<listed.size:=by omega
    simpa[this]using hf
   ·have:∃e,e∈o.after∧Region.binds .any e=true∧listed.getD e.on false=false:=by
     refine xf9 fun hno=>hall fun e he hb=>?_;cases hv:listed.getD e.on false with
     |true=>rfl
     |false=>exact(hno ⟨e,he,hb,hv⟩).elim
    obtain⟨e,he,hb,hv⟩:=this;have hlt:=hedge i o ho e he hb;rw[xb0]at hlt;obtain⟨j,hj,hr⟩:=ih e.on hlt Ω hv;exact⟨j,Ω,hr⟩
 have hdst:∀i o,l[i]? = some o→nth (dsts l) i=o.dst:=fun i o ho=>by rw[za,ho];rfl
 have hdin:∀i t,nth (dsts l) i=some t→t<ns:=fun i t ht=>by
  rw[za]at ht;cases ho:l[i]? with
  |none=>simp[ho]at ht
  |some o=>
   simp only[ho,Option.bind_some]at ht;have:=List.all_eq_true.1 hd o (List.mem_of_getElem? ho);simpa[kL,ht]using this
 have tailW:∀(fuel j:Nat)(listed:Array Bool)(stj:St)(a:Act)(w:World),m≤j→j+fuel=l.length→listed.size=l.length→(∀i,listed.getD i false=decide (i<j))→
   Inv O base okc ns (stj.nid+j) outs stj a w→qZ P O (kD true l=true) (dsts l) (l.drop j) j stj K→wpAnyIn (FR ro) 0 P .any ops Q fuel listed a w:=by
  intro fuel
  induction fuel with
  |zero=>
   intro j listed stj a w hmj hjn hsz hlis hinv hvc;have:l.drop j=[]:=by rw[List.drop_eq_nil_iff];omega
   rw[this]at hvc;have hjl':j=l.length:=by omega
   refine⟨?_,hK stj a w hvc (by rw[←hjl'];exact hinv)⟩;cases hr:Region.ready .any ops listed with
   |nil=>rfl
   |cons x xs=>
    have:=hready listed x hsz Ωaa;rw[hlis]at this;simp at this;omega
  |succ fuel ih=>
   intro j listed stj a w hmj hjn hsz hlis hinv hvc;have hjl:j<l.length:=by omega
   obtain⟨o,ho⟩:∃o,l[j]? = some o:=⟨l[j],by simp[hjl]⟩;have hdrop:l.drop j=o :: l.drop (j+1):=by
    rw[List.drop_eq_getElem_cons hjl]
    congr 1
    have:=xc7 hjl;rw[ho]at this;simpa using this.symm
   rw[hdrop]at hvc;refine⟨fun h=>?_,fun i hi=>?_⟩
   ·obtain⟨x,hx,hr⟩:=hleast listed hsz j hjl (by rw[hlis];simp)
    rw[h]at hr;cases hr
   ·obtain⟨hil,hif,oi,hoi,hie⟩:=hready listed i hsz hi
    have hij:i=j:=by
     rw[hlis]at hif;simp at hif;refine xf9 fun hne=>?_;have hlt:j<i:=by omega
     have hcl:kV l (fun x=>listed.getD x false):=by
      intro x ox hox hS e he hb;dsimp only at hS ⊢;rw[hlis]at hS ⊢;simp only[decide_eq_true_eq]at hS ⊢;have:=hedge x ox hox e he hb;omega
     have hb:((zr [] l).getD i 0).testBit j=true:=by
      rw[htail i hil Ω,Nat.testBit_two_pow_sub_one];simpa using hlt
     have:=qw (hclosed _ i hcl ⟨oi,hoi,hie⟩) hb Ωg;simp only[hlis,xe8,decide_eq_true_eq]at this;omega
    subst hij;rw[ho]at hoi;cases hoi;obtain⟨r,hinv⟩:=hinv;have hgo:=KE (ops:=ops) (st:=stj) (a:=a) (w:=w) hinv (o:=o) (by rw[hl];exact hvc);obtain⟨st',hnid',hinv',hcase⟩:=hgo;have hdo:kL ns o=true:=List.all_eq_true.1 hd o (List.mem_of_getElem? ho);have hset:∀x,(listed.setIfInBounds i true).getD x false=decide (x<i+1):=fun x=>by
     rw[wn Ω,hlis];by_cases h1:x<i<;>by_cases h2:x=i<;>simp[h1,h2]<;>omega
    unfold wpOpIn;simp only[hget,ho];rcases hcase with⟨hw,hrun⟩|⟨hw,hskip⟩
    ·rw[if_pos hw]
     refine Y5 (i:=i) (st:=st') (r:=r) (by rw[hnid'];exact hinv') hdo (by exact hrun) fun st2 a2 w2 hk2 hn2 _ h2=>?_;exact ih (i+1) _ st2 a2 w2 Ω Ω (by simpa using hsz) hset h2 hk2
    ·rw[if_neg (by rw[hw];simp)]
     have hd':∀t,o.dst=some t→t<ns:=fun t ht=>by simpa[kL,ht]using hdo
     have h1:InvR O base okc ns (stj.nid+i) r outs (st'.put o.dst undefSV) (a.put o.dst undef) w:=hinv'.step (Step.refl hinv'.sat) hinv'.keys (xa5 _) hd' (.val _);exact⟨fun _ _=>trivial,ih (i+1) _ _ _ _ Ω Ω (by simpa using hsz) hset (by rw[qr,hnid'];exact⟨r,h1.more Ω⟩) hskip⟩
 have preW:∀(fuel:Nat)(listed:Array Bool)(a:Act)(w:World),listed.size=l.length→kV l (fun i=>listed.getD i false)→(∀i,m≤i→listed.getD i false=false)→cnt (fun i=>listed.getD i false) l.length=fuel→
   Mid O outs base okc ns st.nid m st1.hp (nth (dsts l)) (kb rs) (look st.fr) (fun i=>listed.getD i false) a w→wpAnyIn (FR ro) 0 P .any ops Q fuel listed a w:=by
  intro fuel
  induction fuel with
  |zero=>
   intro listed a w hsz hcl hlate hcnt hmid;have hall:=wm hcnt;have hml':m=l.length:=by
    refine xf9 fun hne=>?_;have:=hall m Ω;rw[hlate m (xa5 _)]at this;cases this
   obtain⟨r,hsat,hrep,hsize,hdef⟩:=hmid;refine tailW 0 m listed st1 a w (xa5 _) Ω hsz (fun i=>?_) ?_ hk1
   ·by_cases h:i<m
    ·simp only[h,decide_true];exact hall i Ω
    ·simp only[h,decide_false];exact hlate i Ω
   ·have e1:NS st.nid m (fun i=>listed.getD i false)=(· < st.nid+m):=by
     funext x;simp only[NS,eq_iff_iff];constructor
     ·rintro(h|⟨j,h1,_,h3⟩)<;>omega
     ·intro h
      by_cases hx:x<st.nid
      ·exact .inl hx
      ·exact .inr ⟨x - st.nid,Ω,hall _ Ω,Ω⟩
    rw[e1]at hsat hrep hdef;rw[hn1];refine⟨r,hsat,fun x y hy=>?_,fun t=>?_,hsize,xc1 h0.lo Ω,hdef.out,hdef.rfix,hdef.defers⟩
    ·rcases hkeys x y hy with h|⟨j,_,_,_,e,hj⟩
     ·have:=h0.keys x y h;omega
     ·omega
    ·have:=hrep t
     rw[hF1];have e2:FS (nth (dsts l)) (kb rs) (fun i=>listed.getD i false) (look st.fr) m t=FS (nth (dsts l)) (kb rs) (fun _=>true) (look st.fr) m t:=
      wl (xa5 _) fun j hj _=>by simp only[hj,iff_true];exact hall j Ω
     rw[←e2];exact this
  |succ fuel ih=>
   intro listed a w hsz hcl hlate hcnt hmid;by_cases hall:∀i,i<m→listed.getD i false=true
   ·
    have hc:=KM (S:=fun i=>listed.getD i false) hall hlate hml;obtain⟨r,hsat,hrep,hsize,hdef⟩:=hmid;refine tailW (fuel+1) m listed st1 a w (xa5 _) Ω hsz (fun i=>?_) ?_ hk1
    ·by_cases h:i<m
     ·simp only[h,decide_true];exact hall i h
     ·simp only[h,decide_false];exact hlate i Ω
    ·have e1:NS st.nid m (fun i=>listed.getD i false)=(· < st.nid+m):=by
      funext x;simp only[NS,eq_iff_iff];constructor
      ·rintro(h|⟨j,h1,_,h3⟩)<;>omega
      ·intro h
       by_cases hx:x<st.nid
       ·exact .inl hx
       ·exact .inr ⟨x - st.nid,Ω,hall _ Ω,Ω⟩
     rw[e1]at hsat hrep hdef;rw[hn1];refine⟨r,hsat,fun x y hy=>?_,fun t=>?_,hsize,xc1 h0.lo Ω,hdef.out,hdef.rfix,hdef.defers⟩
     ·rcases hkeys x y hy with h|⟨j,_,_,_,e,hj⟩
      ·have:=h0.keys x y h;omega
      ·omega
     ·have:=hrep t
      rw[hF1];have e2:FS (nth (dsts l)) (kb rs) (fun i=>listed.getD i false) (look st.fr) m t=FS (nth (dsts l)) (kb rs) (fun _=>true) (look st.fr) m t:=
       wl (xa5 _) fun j hj _=>by simp only[hj,iff_true];exact hall j hj
      rw[←e2];exact this
   ·obtain⟨x,hx⟩:∃x,x<m∧listed.getD x false=false:=by
     refine xf9 fun hno=>hall fun i hi=>?_;cases hv:listed.getD i false with
     |true=>rfl
     |false=>exact(hno ⟨i,hi,hv⟩).elim
    refine⟨fun h=>?_,fun i hi=>?_⟩
    ·obtain⟨y,_,hr⟩:=hleast listed hsz x Ω hx.2
     rw[h]at hr;cases hr
    ·obtain⟨hil,hif,o,ho,hie⟩:=hready listed i hsz hi
     have hcl':=hclosed _ i hcl ⟨o,ho,hie⟩;have him:i<m:=by
      refine xf9 fun hne=>?_;have hb:((zr [] l).getD i 0).testBit x=true:=by
       rw[htail i hil Ω,Nat.testBit_two_pow_sub_one];simp;omega
      have:=qw hcl' hb Ωg;simp only[xe8,decide_eq_true_eq]at this;rcases this with h|h
      ·rw[hx.2]at h;cases h
      ·omega
     have hlook:∀t,t∈seen (dsts l) o→FS (nth (dsts l)) (kb rs) (fun i=>listed.getD i false) (look st.fr) m t=FS (nth (dsts l)) (kb rs) (fun _=>true) (look st.fr) i t:=by
      intro t ht;refine wl Ω fun j hj hdj=>?_;obtain⟨oj,hoj⟩:∃oj,l[j]? = some oj:=⟨l[j],by simp[show j<l.length by omega]⟩;constructor
      ·intro hS
       refine xf9 fun hge=>?_;by_cases e:j=i
       ·subst e
        rw[hif]at hS;cases hS
       ·rcases zl hapart ho hoj Ω with hb|⟨_,hb⟩
        ·have:=qw hcl hb hS
         rw[hif]at this;cases this
        ·exact hb t hdj ht
      ·intro hlt
       rcases zl hapart hoj ho hlt with hb|⟨hb,_⟩
       ·have:=qw hcl' hb Ωg
        simp only[xe8,decide_eq_true_eq]at this;exact this.resolve_right Ω
       ·exact(hb t hdj ht).elim
     obtain⟨wt,sv,nb,hpj,hrs,hsubj,hcase⟩:=hop i o him ho;have hri:kb rs i=sv:=by simp[kb,hrs]
     obtain⟨r,hsat,hrep,hsize,hdef⟩:=hmid;have hdsti:=hdst i o ho;have hS:∀x,(listed.setIfInBounds i true).getD x false=(listed.getD x false || decide (x=i)):=fun x=>wn Ω;have hlater:∀t,nth (dsts l) i=some t→∀j,j<m→i<j→nth (dsts l) j=some t→listed.getD j false=false:=by
      intro t hdi j hj hij hdj;obtain⟨oj,hoj⟩:∃oj,l[j]? = some oj:=⟨l[j],by simp[show j<l.length by omega]⟩;cases hv:listed.getD j false with
      |false=>rfl
      |true=>
       rcases zl hapart ho hoj hij with hb|⟨_,hb⟩
       ·have:=qw hcl hb hv
        rw[hif]at this;cases this
       ·refine(hb t hdj ?_).elim
        simp only[seen,xd4];rw[hdsti]at hdi;simp[hdi]
     have next:∀(v:Value)(r':Nat→Option Nat)(w':World),Step base okc r (NS st.nid m fun i=>listed.getD i false) st1.hp w r' (NS st.nid m fun x=>(listed.setIfInBounds i true).getD x false) st1.hp w'→
       Rep r' (NS st.nid m fun x=>(listed.setIfInBounds i true).getD x false) (Gd base okc r' (NS st.nid m fun x=>(listed.setIfInBounds i true).getD x false) st1.hp w') w' sv v→
       wpAnyIn (FR ro) 0 P .any ops Q fuel (listed.setIfInBounds i true) (a.put o.dst v) w':=by
      intro v r' w' hs hv;refine ih _ _ _ (by simpa using hsz) ?_ (fun x hx=>?_) ?_ ?_
      ·have:(fun x=>(listed.setIfInBounds i true).getD x false)=fun x=>listed.getD x false || decide (x=i):=funext hS
       rw[this];exact hcl'
      ·rw[hS,hlate x hx];simp;omega
      ·have:=(gP (S:=fun i=>listed.getD i false) (S':=fun x=>(listed.setIfInBounds i true).getD x false) hS hif (n:=l.length)).2 hil
       omega
      ·rw[←hdsti]
       exact qiP hS him hlater hrep hsize hdef h0.lo (hdin i) hs (by rw[hri];exact hv)
     have hmore:(∀b,nb≠some b)→Step base okc r (NS st.nid m fun i=>listed.getD i false) st1.hp w r (NS st.nid m fun x=>(listed.setIfInBounds i true).getD x false) st1.hp w:=by
      intro hnb;rw[←vy hS him];refine hsat.more (fun x hx=>.inl hx) fun x y hy hx=>?_;rcases hx with hx|hx
      ·exact hx
      ·subst hx
       rcases hkeys _ _ hy with h|⟨j,wt',sv',hj,e,_⟩
       ·have:=h0.keys _ _ h;omega
       ·have:j=i:=by omega
        subst this;rw[hrs]at hj;cases hj;exact(hnb _ rfl).elim
     have hguard:∀b,gF (dsts l) o.guard (FS (nth (dsts l)) (kb rs) (fun _=>true) (look st.fr) i)=some b→Region.wanted o (yielded ops a.tmps)=b:=by
      intro b hg;cases hog:o.guard with
      |none=>rw[hog]at hg;simp only[gF,Option.some.injEq]at hg;subst hg;simp[Region.wanted,hog]
      |some gw=>
       obtain⟨j,want⟩:=gw;rw[hog]at hg;simp only[gF]at hg;cases ht:nth (dsts l) j with
       |none=>simp[ht]at hg
       |some t=>
        have hy:=yK ops a j t (by rw[hl];exact ht);have htn:t∈seen (dsts l) o:=by simp[seen,qeY,hog,ht]
        have hrt:=hrep t;rw[hlook t htn]at hrt;simp only[ht]at hg;cases hv:FS (nth (dsts l)) (kb rs) (fun _=>true) (look st.fr) i t with
        |val u=>
         rw[hv]at hg hrt;have hu:a.tmps.getD t undef=u:=by generalize a.tmps.getD t undef=z at hrt;cases hrt;rfl
         simp only[xf5]at hu;cases u with
         |bool c=>
          have:yielded ops a.tmps j=some c:=by
           rw[hy];cases hz:a.tmps[t]? with
           |none=>rw[hz]at hu;simp[undef]at hu
           |some z=>rw[hz]at hu;simp at hu;rw[hu]
          simp only[Option.some.injEq]at hg;subst hg;simp only[Region.wanted,hog,this];cases c<;>cases want<;>rfl
         |tuple vs=>
          have:yielded ops a.tmps j=none:=by
           rw[hy];cases hz:a.tmps[t]? with
           |none=>rfl
           |some z=>rw[hz]at hu;simp at hu;rw[hu]
          simp only[Option.some.injEq]at hg;subst hg;simp[Region.wanted,hog,this]
         |_=>simp at hg
        |_=>rw[hv]at hg;simp at hg
     unfold wpOpIn;simp only[hget,ho];rcases hcase with⟨_,hg,rfl,rfl⟩|⟨_,hg,hrun,hnb⟩
     ·rw[if_neg (by rw[hguard _ hg];simp)]
      exact⟨fun _ _=>trivial,next undef r w (hmore Ωg) (.val _)⟩
     ·rw[if_pos (hguard _ hg)]
      have hca:kM o.op=true:=hcalm o (by
       have:(l.take m)[i]? = some o:=by rw[List.getElem?_take_of_lt him];exact ho
       exact List.mem_of_getElem? this)
      have hnd:∀c,o.op≠.defer c:=fun c e=>by rw[e]at hca;cases hca
      refine vu hnd (vr hsat (fr:=FS (nth (dsts l)) (kb rs) (fun _=>true) (look st.fr) i) (id:=st.nid+i) (hp':=st1.hp) (fun x hx=>J4 x fun t ht=>?_) ?_)
      ·subst ht
       rw[←hlook t (by
        simp only[seen,xd4];exact .inl (List.mem_filterMap.2 ⟨.tmp t,ΩS,rfl⟩))]
       exact hrep t
      ·cases hrun with
       |pure obl _ hst hobl=>
        rw[gG hca hsubj ΩU,hst];refine⟨hobl,fun v hv=>next v r w (hmore Ωg) ((hmore Ωg).rep hv)⟩
       |ex obl _ hst hobl=>
        rw[gG hca hsubj ΩU,hst];exact⟨sv,hobl,fun v hv=>next v r w (hmore Ωg) ((hmore Ωg).rep hv)⟩
       |new obl b mk hst hobl=>
        rw[gG hca hsubj ΩU,hst];refine⟨hobl,?_,hnb b rfl,fun _ _=>rfl,fun v w' r' hs hv=>?_⟩
        ·rintro(h|⟨j,h1,h2,h3⟩)
         ·omega
         ·have:j=i:=by omega
          subst this;dsimp only at h2;rw[hif]at h2;cases h2
        ·rw[vy hS him]at hs hv
         exact next v r' w' hs hv
       |call f args _ hst hc=>
        rw[gG hca hsubj ΩU,hst];refine .inl ⟨sv,hc.mono hsubj,fun v w' hst' hv=>?_⟩;refine next v r w' (hst'.trans ?_) ?_
        ·rw[←vy hS him]
         refine hst'.sat.more (fun x hx=>.inl hx) fun x y hy hx=>?_;rcases hx with hx|hx
         ·exact hx
         ·subst hx
          rcases hkeys _ _ hy with h|⟨j,wt',sv',hj,e,_⟩
          ·have:=h0.keys _ _ h;omega
          ·have:j=i:=by omega
           subst this;rw[hrs]at hj;cases hj
        ·rw[←vy hS him]
         refine(hst'.sat.more (fun x hx=>.inl hx) fun x y hy hx=>?_).rep hv;rcases hx with hx|hx
         ·exact hx
         ·subst hx
          rcases hkeys _ _ hy with h|⟨j,wt',sv',hj,e,_⟩
          ·have:=h0.keys _ _ h;omega
          ·have:j=i:=by omega
           subst this;rw[hrs]at hj;cases hj
       |callN f args pats b res hst hc hs=>
        rw[gG hca hsubj ΩU,hst];refine .inr ⟨pats,b,res,hc,hs.mono hsubj,?_,st1.hp,hnb b rfl,fun _ _=>rfl,fun v w' r' hs hv=>?_⟩
        ·rintro(h|⟨j,h1,h2,h3⟩)
         ·omega
         ·have:j=i:=by omega
          subst this;dsimp only at h2;rw[hif]at h2;cases h2
        ·rw[vy hS him]at hs hv
         exact next v r' w' hs hv
 refine wpIn_region_any hm ?_;rw[hn];have hrep0:∀i,(Array.replicate l.length false).getD i false=false:=fun i=>by simp only[xf5,Array.getElem?_replicate];split<;>rfl
 refine preW l.length (Array.replicate l.length false) a _ Ωg ?_ (fun i _=>hrep0 i) ?_ ?_
 ·intro j o ho hS;simp only[hrep0]at hS;cases hS
 ·have key:∀n,cnt (fun i=>(Array.replicate l.length false).getD i false) n=n:=by
   intro n
   induction n with
   |zero=>rfl
   |succ n ihn=>
    simp only[cnt,ihn];rw[if_neg (by rw[hrep0];simp)]
  exact key _
 ·have hN:NS st.nid m (fun i=>(Array.replicate l.length false).getD i false)=(· < st.nid):=by
   funext x;simp only[NS,eq_iff_iff];constructor
   ·rintro(h|⟨j,_,h2,_⟩)
    ·exact h
    ·rw[hrep0]at h2;cases h2
   ·exact .inl
  have hdrew:Below w.heap.size w { w with drawn:=w.drawn+1 }:=⟨rfl,rfl,rfl,xa5 _,fun _ _=>rfl⟩;have hst:=h0.sat.grow hdrew;unfold Mid;rw[hN];have hs2:Step base okc r0 (· < st.nid) st.hp { w with drawn:=w.drawn+1 } r0 (· < st.nid) st1.hp { w with drawn:=w.drawn+1 }:=by
   have hback:∀x y,blk st1.hp x=some y→x<st.nid→blk st.hp x=some y:=fun x y hy hx=>by
    rcases hkeys x y hy with h|⟨j,_,_,_,e,_⟩
    ·exact h
    ·omega
   have hG:∀o c,Gd base okc r0 (· < st.nid) st.hp { w with drawn:=w.drawn+1 } o c→Gd base okc r0 (· < st.nid) st1.hp { w with drawn:=w.drawn+1 } o c∧({ w with drawn:=w.drawn+1 }:World).heap[c]? =({ w with drawn:=w.drawn+1 }:World).heap[c]?:=
    fun o c ⟨h1,h2,h3⟩=>⟨⟨h1,fun i y hy hi=>h2 i y (hback i y hy hi) hi,h3⟩,rfl⟩
   exact⟨⟨hst.sat.below,fun i y hy hi=>(hst.sat.rep i y (hback i y hy hi) hi).mono (fun _ _=>rfl) (fun _ h=>h) hG (Shapes.refl _) (fun _ _=>rfl),
    fun i y b hy hi=>hst.sat.own i y b (hback i y hy hi) hi,fun i y i' y' b hy hi hy' hi'=>hst.sat.inj i y i' y' b (hback i y hy hi) hi (hback i' y' hy' hi') hi'⟩,fun _ _=>rfl,fun _ h=>h,hG,Shapes.refl _⟩
  refine⟨r0,hs2.sat,fun t=>?_,h0.size,((Ext.mk h0.out h0.rfix h0.defers).step0 hst (fun i hi=>xa9 hi h0.lo)).step0 hs2 (fun i hi=>xa9 hi h0.lo)⟩;have e:FS (nth (dsts l)) (kb rs) (fun i=>(Array.replicate l.length false).getD i false) (look st.fr) m t=look st.fr t:=by
   have:=wl (dst:=nth (dsts l)) (res:=kb rs) (S:=fun i=>(Array.replicate l.length false).getD i false) (F:=look st.fr) (i:=0) (t:=t) (xb6 m) (fun j hj _=>by rw[hrep0];simp);exact this
  rw[e];exact hs2.rep (hst.rep (h0.fr t))
end
end Go.Sx
end
section
namespace Go.Sx
open Go.RowKit
def qU:Op→Bool
 |.store _ _ _=>true
 |.mapUpdate _ _ _ _=>true
 |.insert _ _ _ _=>true
 |.call ⟨.builtin .delete,_,_⟩=>true
 |.call ⟨.builtin .clear,_,_⟩=>true
 |_=>false
def jY:Op→Bool
 |.load _ _=>true
 |.lookup _ _ _ _=>true
 |.call ⟨.value _,_,_⟩=>true
 |_=>false
def zs(ds:List (Option Tmp))(i a:Nat):Bool:=(List.range ds.length).all fun k=>decide (k<i) ||(match nth ds k with|some t=>!decide (t=a)|none=>true)
def qfa(far:List (Nat×Nat))(ds:List (Option Tmp))(i j:Nat)(oi oj:Oper):Bool:=
 match oi.op with
 |.load _ (.tmp a)=>match oj.op with
  |.store _ (.tmp b) _=>far.any (fun p=>decide (p.1=a)&&decide (p.2=b))&&zs ds i a&&zs ds j b
  |_=>false
 |_=>false
def J8(far:List (Nat×Nat))(ds:List (Option Tmp))(ms:List Nat)(ops:List Oper):Bool:=
 (List.range ops.length).all fun j=>match ops[j]? with
  |none=>true
  |some oj=>(List.range j).all fun i=>(ms.getD j 0).testBit i || match ops[i]? with
   |none=>true
   |some oi=>!((qU oi.op&&qU oj.op) ||(jY oi.op&&qU oj.op) ||(qU oi.op&&jY oj.op)) || qfa far ds i j oi oj
def J9(far:List (Nat×Nat))(ops:List Oper):Bool:=
 let ms:=zr [] ops
 gO 0 ops&&Qm (dsts ops) ms ops&&J8 far (dsts ops) ms ops&&ops.all (fun o=>kM o.op || qU o.op)&&!kD true ops
theorem qE{ds:List (Option Tmp)}{i a:Nat}(h:zs ds i a=true){k:Nat}(hk:k<ds.length)(hi:i≤k):nth ds k≠some a:=by
 intro e;simp only[zs,List.all_eq_true,List.mem_range]at h;have:=h k hk;rw[e]at this;simp at this;omega
def qmV(far:List (Nat×Nat))(ds:List (Option Tmp))(i j:Nat)(oi oj:Oper):Prop:=
 ∃t a t' b y,oi.op=.load t (.tmp a)∧oj.op=.store t' (.tmp b) y∧(a,b)∈far∧zs ds i a=true∧zs ds j b=true
theorem Y7{far:List (Nat×Nat)}{ds:List (Option Tmp)}{i j:Nat}{oi oj:Oper}(h:qfa far ds i j oi oj=true):qmV far ds i j oi oj:=by
 unfold qfa at h;split at h
 ·rename_i t a e
  split at h
  ·rename_i t' b y e'
   simp only[xe6,List.any_eq_true,decide_eq_true_eq]at h;obtain⟨⟨⟨p,hp,h1,h2⟩,h3⟩,h4⟩:=h;refine⟨t,a,t',b,y,e,e',?_,h3,h4⟩;rw[←h1,←h2];exact hp
  ·cases h
 ·cases h
theorem zS{far:List (Nat×Nat)}{ds:List (Option Tmp)}{ms:List Nat}{ops:List Oper}(h:J8 far ds ms ops=true){i j:Nat}{oi oj:Oper}(hi:ops[i]? = some oi)(hj:ops[j]? = some oj)(hij:i<j) :
  (ms.getD j 0).testBit i=true∨(¬(qU oi.op=true∧qU oj.op=true)∧¬(jY oi.op=true∧qU oj.op=true)∧¬(qU oi.op=true∧jY oj.op=true))∨qmV far ds i j oi oj:=by
 simp only[J8,List.all_eq_true,List.mem_range]at h;have h1:=h j (List.getElem?_eq_some_iff.1 hj).1;rw[hj]at h1;simp only[List.all_eq_true,List.mem_range]at h1;have h2:=h1 i hij;rw[hi]at h2;simp only[xe8]at h2;rcases h2 with h2|h2|h2
 ·exact .inl h2
 ·right;left
  simp only[Bool.not_eq_true',Bool.or_eq_false_iff,Bool.and_eq_false_iff]at h2;obtain⟨⟨a,b⟩,c⟩:=h2;refine⟨fun⟨x,y⟩=>?_,fun⟨x,y⟩=>?_,fun⟨x,y⟩=>?_⟩
  ·rcases a with a|a<;>simp_all
  ·rcases b with a|a<;>simp_all
  ·rcases c with a|a<;>simp_all
 ·exact .inr (.inr (Y7 h2))
theorem wV{P:Program}{F:Nat→SV}{hp:List (Nat×Blk)}{op:Op}{obl:Prop}{j:Nat}{b:Blk}(h:stepR P F hp op=.upd obl j b):qU op=true:=by
 cases op<;>first|rfl|(simp only[stepR]at h;cases h;done)|(simp only[stepR]at h)
 case pick=>unfold rPick at h;split at h<;>cases h
 case alloc=>unfold rAlloc at h;split at h<;>cases h
 case box=>unfold rBox at h;(repeat' split at h)<;>cases h
 case load=>unfold rLoad at h;(repeat' split at h)<;>cases h
 case nilCheck=>unfold rNil at h;split at h<;>cases h
 case binOp=>unfold rBin at h;(repeat' split at h)<;>first|(cases h;done)|(rcases vh P _ _ _ _ _ with⟨_,_,e⟩|e<;>rw[e]at h<;>cases h)|(unfold rInt at h;split at h<;>cases h)|(unfold rEq at h;(repeat' split at h)<;>cases h)
 case unOp=>unfold rUn at h;split at h<;>cases h
 case convert=>unfold rConv at h;split at h<;>cases h
 case fieldAddr=>unfold rFieldAddr at h;(repeat' split at h)<;>cases h
 case field=>unfold rField at h;(repeat' split at h)<;>cases h
 case indexAddr=>unfold rIndexAddr at h;(repeat' split at h)<;>cases h
 case extract=>unfold rExtract at h;split at h<;>cases h
 case build=>have:=congrArg jJ h;rw[gb]at this;cases this
 case buildSlice=>rcases kw (P:=P) _ _ _ with⟨_,_,_,e⟩|e<;>rw[e]at h<;>cases h
 case makeSlice=>rcases kS (P:=P) _ _ _ with⟨_,_,_,e⟩|e<;>rw[e]at h<;>cases h
 case slice=>have:=congrArg jJ h;rw[jg]at this;cases this
 case makeMap=>rcases gM _ _ with⟨_,_,_,e⟩|e<;>rw[e]at h<;>cases h
 case lookup=>have:=congrArg jJ h;rw[kJ]at this;cases this
 case index=>have:=congrArg jJ h;rw[jh]at this;cases this
 case call c=>
  obtain⟨callee,args,ts⟩:=c;cases callee with
  |value f=>simp only[rCall]at h;split at h<;>cases h
  |invoke _ _=>simp only[rCall]at h;cases h
  |builtin b=>
   cases b<;>first|rfl|(simp only[rCall]at h;done)|skip
   all_goals simp only[rCall]at h
   all_goals first|(cases h;done)|skip
   case append=>(repeat' split at h)<;>first|(cases h;done)|(rcases vp (P:=P) (hp:=hp) _ _ _ with⟨_,_,_,e⟩|⟨_,_,_,_,e⟩|e<;>rw[e]at h<;>cases h)
   case copy=>split at h<;>first|(cases h;done)|(rcases yH (P:=P) (hp:=hp) _ _ _ with⟨_,_,_,_,e⟩|e<;>rw[e]at h<;>cases h)
   case len=>split at h<;>first|(cases h;done)|(unfold rLen at h;(repeat' split at h)<;>cases h)
   case max=>unfold rMin at h;(repeat' split at h)<;>cases h
   case min=>unfold rMin at h;(repeat' split at h)<;>cases h
theorem Y8{op:Op}(h:kM op=true):qU op=false:=by
 cases op<;>first|rfl|(simp[kM]at h;done)|skip
 case call c=>
  obtain⟨callee,args,ts⟩:=c;cases callee with
  |value f=>rfl
  |invoke _ _=>simp[kM]at h
  |builtin b=>cases b<;>first|rfl|(simp[kM]at h;done)
theorem qmW{P:Program}{F:Nat→SV}{hp:List (Nat×Blk)}{op:Op}{obl:Prop}{j:Nat}{b:Blk}(h:stepR P F hp op=.upd obl j b){r:Nat→Option Nat}{N:Nat→Prop}{G:Bool→Nat→Prop}{w:World}{a:Act}
  (ha:∀x,x∈op.operands→Rep r N G w (env F x) (a.eval x)):N j:=by
 have hu:=wV h;cases op<;>first|(simp[qU]at hu;done)|skip
 case store t x y=>
  simp only[stepR]at h;have hx:=ha x Ωr;unfold rStore at h;split at h
  ·split at h
   ·rename_i id off hxe
    rw[hxe]at hx;split at h<;>cases h
    generalize a.eval x=u at hx;cases hx with|ptr _ _ _ hN _=>exact hN
   ·rename_i id k i l hxe
    rw[hxe]at hx;split at h<;>cases h
    generalize a.eval x=u at hx;cases hx with|elt _ _ _ _ _ hN _=>exact hN
   ·cases h
  ·split at h
   ·split at h
    ·rename_i id off hxe
     rw[hxe]at hx;split at h<;>cases h
     generalize a.eval x=u at hx;cases hx with|ptr _ _ _ hN _=>exact hN
    ·rename_i id k i l hxe
     rw[hxe]at hx;split at h<;>cases h
     generalize a.eval x=u at hx;cases hx with|elt _ _ _ _ _ hN _=>exact hN
    ·cases h
   ·cases h
  ·cases h
 case mapUpdate t m k x=>exact upd (ha m Ωr) (by simpa only[stepR]using h)
 case insert t m k x=>exact upd (ha m Ωr) (by simpa only[stepR]using h)
 case call c=>
  obtain⟨callee,args,ts⟩:=c;cases callee with
  |value f=>simp[qU]at hu
  |invoke _ _=>simp[qU]at hu
  |builtin bb=>
   cases bb<;>first|(simp[qU]at hu;done)|skip
   case clear=>
    simp only[stepR,rCall]at h;split at h
    rotate_left
    ·cases h
    rename_i d t hargs hts;have hd:=ha d (by simp[Op.operands,Call.operands,Ky hargs]);split at h
    ·rename_i mid hmid
     rw[hmid]at hd;have:mid=j:=by
      unfold rClearMap at h;(repeat' split at h)<;>first|(cases h;done)|(simp only[Res.upd.injEq]at h;rename_i _ _ e _;simp only[SV.mp.injEq]at e;rw[e];exact h.2.1)|skip
      all_goals (simp only[Res.upd.injEq]at h;simp_all)
     subst this;generalize a.eval d=u at hd;cases hd with|mp _ _ hN _=>exact hN
    ·generalize env F d=s at h hd
     generalize a.eval d=u at hd;unfold rClear at h;(repeat' split at h)<;>first|(cases h;done)|(simp only[Res.upd.injEq]at h;obtain⟨_,rfl,_⟩:=h;cases hd<;>assumption)
   case delete=>
    simp only[stepR,rCall]at h;split at h
    rotate_left
    ·cases h
    rename_i m k t t' hargs hts;have hm:=ha m (by simp[Op.operands,Call.operands,ZB hargs]);generalize env F m=s at h hm;generalize a.eval m=u at hm;unfold rDelete at h;(repeat' split at h)<;>first|(cases h;done)|(simp only[Res.upd.injEq]at h;obtain⟨_,rfl,_⟩:=h;cases hm;assumption)
where
 upd {F:Nat→SV} {hp:List (Nat×Blk)} {mi:Option jx} {m k x:Operand} {obl:Prop} {j:Nat} {b:Blk} {r:Nat→Option Nat} {N:Nat→Prop} {G:Bool→Nat→Prop} {w:World} {a:Act}
     (hm:Rep r N G w (env F m) (a.eval m)) (h:rUpdate mi hp (env F m) (env F k) (env F x)=.upd obl j b):N j:=by
  generalize env F m=s at h hm;generalize a.eval m=u at hm;unfold rUpdate at h;(repeat' split at h)<;>first|(cases h;done)|(simp only[Res.upd.injEq]at h;obtain⟨_,rfl,_⟩:=h;cases hm;assumption)
section
variable{P:Program}{hp hp':List (Nat×Blk)}
theorem Wn(h:∀id x,blk hp id=some x→blk hp' id=some x){ti:Option TyI}{a v:SV}(hne:rStore ti hp a v≠.bad):rStore ti hp' a v=rStore ti hp a v:=by
 match ti with
 |none=>rfl
 |some ⟨false,sz,z,d⟩=>
  cases a<;>first|rfl|skip
  case ptr id off=>
   simp only[rStore]at hne ⊢;cases hb:blk hp id with
   |none=>rw[hb]at hne;exact absurd rfl hne
   |some y=>rw[h _ _ hb]
  case elt id k i j=>
   simp only[rStore]at hne ⊢;cases hb:blk hp id with
   |none=>rw[hb]at hne;exact absurd rfl hne
   |some y=>rw[h _ _ hb]
 |some ⟨true,sz,z,d⟩=>
  cases v<;>first|rfl|skip
  cases a<;>first|rfl|skip
  case ptr id off=>
   simp only[rStore]at hne ⊢;cases hb:blk hp id with
   |none=>rw[hb]at hne;exact absurd rfl hne
   |some y=>rw[h _ _ hb]
  case elt id k i j=>
   simp only[rStore]at hne ⊢;cases hb:blk hp id with
   |none=>rw[hb]at hne;exact absurd rfl hne
   |some y=>rw[h _ _ hb]
theorem Qn(h:∀id x,blk hp id=some x→blk hp' id=some x){mi:Option jx}{m k x:SV}(hne:rUpdate mi hp m k x≠.bad):rUpdate mi hp' m k x=rUpdate mi hp m k x:=by
 match mi with
 |none=>rfl
 |some ⟨ag,ls,z⟩=>
  cases m<;>first|rfl|skip
  rename_i id;simp only[rUpdate]at hne ⊢;cases hb:blk hp id with
  |none=>rw[hb]at hne;exact absurd rfl hne
  |some y=>rw[h _ _ hb]
theorem Va(h:∀id x,blk hp id=some x→blk hp' id=some x){mi:Option jx}{m k:SV}(hne:rDelete mi hp m k≠.bad):rDelete mi hp' m k=rDelete mi hp m k:=by
 match mi with
 |none=>rfl
 |some ⟨ag,ls,z⟩=>
  cases m<;>first|rfl|skip
  rename_i id;simp only[rDelete]at hne ⊢;cases hb:blk hp id with
  |none=>rw[hb]at hne;exact absurd rfl hne
  |some y=>rw[h _ _ hb]
theorem KN(h:∀id x,blk hp id=some x→blk hp' id=some x){mi:Option jx}{m:SV}(hne:rClearMap mi hp m≠.bad):rClearMap mi hp' m=rClearMap mi hp m:=by
 match mi with
 |none=>rfl
 |some mi=>
  cases m<;>first|rfl|skip
  rename_i id;simp only[rClearMap]at hne ⊢;cases hb:blk hp id with
  |none=>rw[hb]at hne;exact absurd rfl hne
  |some y=>rw[h _ _ hb]
theorem Wo(h:∀id x,blk hp id=some x→blk hp' id=some x){t:TypeId}{d:SV}(hne:rClear P t hp d≠.bad):rClear P t hp' d=rClear P t hp d:=by
 unfold rClear at hne ⊢;split
 ·rename_i e1
  rw[e1]at hne;simp only at hne;split
  ·rename_i e2
   rw[e2]at hne;cases d<;>first|rfl|skip
   case asl id off n k=>
    simp only at hne ⊢;cases hb:blk hp id with
    |none=>rw[hb]at hne;exact absurd rfl hne
    |some y=>rw[h _ _ hb]
   case vec id n k=>
    simp only at hne ⊢;cases hb:blk hp id with
    |none=>rw[hb]at hne;exact absurd rfl hne
    |some y=>rw[h _ _ hb]
   case que id off n k=>
    simp only at hne ⊢;cases hb:blk hp id with
    |none=>rw[hb]at hne;exact absurd rfl hne
    |some y=>rw[h _ _ hb]
  ·rfl
 ·rfl
theorem KO{F:Nat→SV}{op:Op}(hu:qU op=true)(h:∀id x,blk hp id=some x→blk hp' id=some x)(hne:stepR P F hp op≠.bad):stepR P F hp' op=stepR P F hp op:=by
 cases op<;>first|(simp[qU]at hu;done)|skip
 case store t x y=>exact Wn h hne
 case mapUpdate t m k x=>exact Qn h hne
 case insert t m k x=>exact Qn h hne
 case call c=>
  obtain⟨callee,args,ts⟩:=c;cases callee with
  |value f=>simp[qU]at hu
  |invoke _ _=>simp[qU]at hu
  |builtin bb=>
   cases bb<;>first|(simp[qU]at hu;done)|skip
   case clear=>
    simp only[stepR,rCall]at hne ⊢;split
    rotate_left
    ·rfl
    rename_i d t hargs hts;simp only[hargs,hts]at hne;generalize env F d=s at hne ⊢;cases s<;>first|exact KN h hne|exact Wo h hne
   case delete=>
    simp only[stepR,rCall]at hne ⊢;split
    rotate_left
    ·rfl
    rename_i m k t t' hargs hts;simp only[hargs,hts]at hne;exact Va h hne
end
theorem Wp{P:Program}{F:Nat→SV}{hp:List (Nat×Blk)}{op:Op}(hu:qU op=true):(∃obl j b,stepR P F hp op=.upd obl j b)∨stepR P F hp op=.bad:=by
 cases op<;>first|(simp[qU]at hu;done)|skip
 case store t x y=>exact wh _ _ _ _
 case mapUpdate t m k x=>exact kx _ _ _ _ _
 case insert t m k x=>exact kx _ _ _ _ _
 case call c=>
  obtain⟨callee,args,ts⟩:=c;cases callee with
  |value f=>simp[qU]at hu
  |invoke _ _=>simp[qU]at hu
  |builtin bb=>
   cases bb<;>first|(simp[qU]at hu;done)|skip
   case clear=>simp only[stepR,rCall];(repeat' split)<;>first|exact .inr rfl|exact jA _ _ _|exact wj _ _
   case delete=>simp only[stepR,rCall];split<;>first|exact .inr rfl|exact vq _ _ _ _
theorem GP{P:Program}{F:Nat→SV}{hp:List (Nat×Blk)}{op:Op}{obl:Prop}{j:Nat}{b:Blk}(h:stepR P F hp op=.upd obl j b):∃y,blk hp j=some y:=by
 refine xf9 fun hno=>?_;have hn:blk hp j=none:=by
  cases hb:blk hp j with
  |none=>rfl
  |some y=>exact(hno ⟨y,hb⟩).elim
 have hu:=wV h;cases op<;>first|(simp[qU]at hu;done)|skip
 case store t x y=>
  simp only[stepR]at h;unfold rStore at h;(repeat' split at h)<;>first|(cases h;done)|(simp only[Res.upd.injEq]at h;simp_all)
 case mapUpdate t m k x=>
  simp only[stepR]at h;unfold rUpdate at h;(repeat' split at h)<;>first|(cases h;done)|(simp only[Res.upd.injEq]at h;simp_all)
 case insert t m k x=>
  simp only[stepR]at h;unfold rUpdate at h;(repeat' split at h)<;>first|(cases h;done)|(simp only[Res.upd.injEq]at h;simp_all)
 case call c=>
  obtain⟨callee,args,ts⟩:=c;cases callee with
  |value f=>simp[qU]at hu
  |invoke _ _=>simp[qU]at hu
  |builtin bb=>
   cases bb<;>first|(simp[qU]at hu;done)|skip
   case clear=>
    simp only[stepR,rCall]at h;unfold rClearMap rClear at h;(repeat' split at h)<;>first|(cases h;done)|(simp only[Res.upd.injEq]at h;simp_all)
   case delete=>
    simp only[stepR,rCall]at h;unfold rDelete at h;(repeat' split at h)<;>first|(cases h;done)|(simp only[Res.upd.injEq]at h;simp_all)
theorem ZE{P:Program}{F:Nat→SV}{hp:List (Nat×Blk)}(hp':List (Nat×Blk)){op:Op}(hc:kM op=true)(hr:jY op=false):stepR P F hp' op=stepR P F hp op:=by
 cases op<;>first|rfl|(simp[kM]at hc;done)|(simp[jY]at hr;done)|skip
 case call c=>
  obtain⟨callee,args,ts⟩:=c;cases callee with
  |value f=>rfl
  |invoke _ _=>simp[kM]at hc
  |builtin b=>cases b<;>first|rfl|(simp[kM]at hc;done)
theorem wo{P:Program}{F:Nat→SV}{hp hp':List (Nat×Blk)}{t:TypeId}{x:Operand}(h:∀id y,qO (env F x)=some id→blk hp id=some y→blk hp' id=some y)(hne:stepR P F hp (.load t x)≠.bad) :
  stepR P F hp' (.load t x)=stepR P F hp (.load t x):=by
 simp only[stepR]at hne ⊢;unfold rLoad at hne ⊢;split
 ·split
  ·rename_i id off hx
   cases hb:blk hp id with
   |none=>exact absurd ΩD hne
   |some y=>rw[h _ _ (by rw[hx];rfl) hb]
  ·rename_i id k i j hx
   cases hb:blk hp id with
   |none=>exact absurd ΩD hne
   |some y=>rw[h _ _ (by rw[hx];rfl) hb]
  ·rfl
  ·rfl
 ·split
  ·rename_i id off hx
   cases hb:blk hp id with
   |none=>exact absurd ΩD hne
   |some y=>rw[h _ _ (by rw[hx];rfl) hb]
  ·rename_i id k i j hx
   cases hb:blk hp id with
   |none=>exact absurd ΩD hne
   |some y=>rw[h _ _ (by rw[hx];rfl) hb]
  ·rfl
  ·rfl
 ·rfl
theorem ja{P:Program}{F:Nat→SV}{hp:List (Nat×Blk)}{t:TypeId}{x y:Operand}{obl:Prop}{j:Nat}{b:Blk}(h:stepR P F hp (.store t x y)=.upd obl j b):qO (env F x)=some j:=by
 simp only[stepR]at h;unfold rStore at h;(repeat' split at h)<;>first|(cases h;done)|(simp only[Res.upd.injEq]at h;simp_all [qO])
theorem gQ{dst:Nat→Option Tmp}{res:Nat→SV}{F:Nat→SV}{i t:Nat}:∀{n:Nat},i≤n→(∀k,k<n→i≤k→dst k≠some t)→FS dst res (fun _=>true) F n t=FS dst res (fun _=>true) F i t
 |0,hi,_=>by
  have:i=0:=by omega
  subst this;rfl
 |n+1,hi,h=>by
  by_cases e:i=n+1
  ·subst e;rfl
  ·simp only[FS,true_and]
   rw[if_neg (h n Ω Ω)];exact gQ Ω fun k h1 h2=>h k Ω h2
def TH(k:Nat)(nb:Nat→Option Blk)(up:Nat→Option (Nat×Blk))(hp:List (Nat×Blk)):Nat→List (Nat×Blk)
 |0=>hp
 |i+1=>match up i with
  |some (t,b)=>setBlk (TH k nb up hp i) t b
  |none=>gi (nb i) (k+i) (TH k nb up hp i)
def NH(k:Nat)(nb:Nat→Option Blk)(hp:List (Nat×Blk)):Nat→List (Nat×Blk)
 |0=>hp
 |i+1=>gi (nb i) (k+i) (NH k nb hp i)
def UH(up:Nat→Option (Nat×Blk))(S:Nat→Bool)(H:List (Nat×Blk)):Nat→List (Nat×Blk)
 |0=>H
 |i+1=>if S i=true then(match up i with|some (t,b)=>setBlk (UH up S H i) t b|none=>UH up S H i)else UH up S H i
theorem qfb(k:Nat)(nb:Nat→Option Blk)(up:Nat→Option (Nat×Blk))(hp:List (Nat×Blk))(j:Nat) :
  TH (k+1) (fun i=>nb (i+1)) (fun i=>up (i+1)) (TH k nb up hp 1) j=TH k nb up hp (j+1):=by
 induction j with
 |zero=>rfl
 |succ j ih=>
  have e:k+1+j=k+(j+1):=by omega
  have r1:TH (k+1) (fun i=>nb (i+1)) (fun i=>up (i+1)) (TH k nb up hp 1) (j+1)=match up (j+1)with
   |some (t,b)=>setBlk (TH (k+1) (fun i=>nb (i+1)) (fun i=>up (i+1)) (TH k nb up hp 1) j) t b
   |none=>gi (nb (j+1)) (k+1+j) (TH (k+1) (fun i=>nb (i+1)) (fun i=>up (i+1)) (TH k nb up hp 1) j):=rfl
  rw[r1,ih,e];rfl
theorem wW{up:Nat→Option (Nat×Blk)}{S:Nat→Bool}{H:List (Nat×Blk)}{x:Nat}:∀{m:Nat}{y:Blk},blk (UH up S H m) x=some y→∃z,blk H x=some z
 |0,y,h=>⟨y,h⟩
 |m+1,y,h=>by
  simp only[UH]at h;split at h
  ·split at h
   ·rename_i t b _
    rw[qp]at h;split at h
    ·rename_i e;subst e
     cases hb:blk (UH up S H m) x with
     |none=>rw[hb]at h;cases h
     |some z=>exact wW hb
    ·exact wW h
   ·exact wW h
  ·exact wW h
theorem ZX{k:Nat}{nb:Nat→Option Blk}{hp:List (Nat×Blk)}{x:Nat}{y:Blk}:∀{m:Nat},blk (NH k nb hp m) x=some y→blk hp x=some y∨∃j,j<m∧nb j=some y∧x=k+j
 |0,h=>.inl h
 |m+1,h=>by
  simp only[NH]at h;cases hn:nb m with
  |none=>
   rw[hn]at h;rcases ZX (m:=m) h with h|⟨j,h1,h2,h3⟩
   ·exact .inl h
   ·exact .inr ⟨j,Ω,h2,h3⟩
  |some b=>
   rw[hn]at h;simp only[gi,blk]at h;split at h
   ·rename_i e
    exact .inr ⟨m,Ω,by rw[hn,h],Ω⟩
   ·rcases ZX (m:=m) h with h|⟨j,h1,h2,h3⟩
    ·exact .inl h
    ·exact .inr ⟨j,Ω,h2,h3⟩
theorem Y9{k:Nat}{nb:Nat→Option Blk}{hp:List (Nat×Blk)}(hk:∀id x,blk hp id=some x→id<k){x:Nat}{y:Blk}(h:blk hp x=some y):∀{m:Nat},blk (NH k nb hp m) x=some y
 |0=>h
 |m+1=>by
  simp only[NH];cases hn:nb m with
  |none=>exact Y9 hk h
  |some b=>
   simp only[gi,blk];rw[if_neg (by have:=hk _ _ h;omega)];exact Y9 hk h
theorem Vb{k:Nat}{nb:Nat→Option Blk}{hp:List (Nat×Blk)}{j:Nat}{b:Blk}(h:nb j=some b):∀{m:Nat},j<m→blk (NH k nb hp m) (k+j)=some b
 |0,hj=>by omega
 |m+1,hj=>by
  simp only[NH];by_cases e:j=m
  ·subst e;rw[h];simp[gi,blk]
  ·cases hn:nb m with
   |none=>exact Vb h Ω
   |some c=>
    simp only[gi,blk];rw[if_neg Ω];exact Vb h Ω
theorem wq{up:Nat→Option (Nat×Blk)}{S:Nat→Bool}{H:List (Nat×Blk)}{x:Nat}:∀{m:Nat},(∀j,j<m→S j=true→∀t b,up j=some (t,b)→t≠x)→blk (UH up S H m) x=blk H x
 |0,_=>rfl
 |m+1,h=>by
  have ih:=wq (up:=up) (S:=S) (H:=H) (x:=x) (m:=m) fun j hj=>h j Ω;simp only[UH];split
  ·rename_i hS
   split
   ·rename_i t b hu
    rw[qp,if_neg (fun e=>h m Ω hS t b hu e.symm)];exact ih
   ·exact ih
  ·exact ih
theorem wr{up:Nat→Option (Nat×Blk)}{S T:Nat→Bool}{H:List (Nat×Blk)}:∀{m:Nat},(∀j,j<m→up j≠none→S j=T j)→UH up S H m=UH up T H m
 |0,_=>rfl
 |m+1,h=>by
  have ih:=wr (up:=up) (S:=S) (T:=T) (H:=H) (m:=m) fun j hj=>h j Ω;simp only[UH];cases hu:up m with
  |none=>simp only[ih,ite_self]
  |some p=>
   rw[h m Ω (by rw[hu];simp),ih]
theorem ZY{up:Nat→Option (Nat×Blk)}{S:Nat→Bool}{H:List (Nat×Blk)}{i:Nat}:∀{m:Nat},i≤m→(∀j,i≤j→j<m→up j≠none→S j=false)→UH up S H m=UH up S H i
 |0,hi,_=>by have:i=0:=by omega
             subst this;rfl
 |m+1,hi,h=>by
  by_cases e:i=m+1
  ·subst e;rfl
  ·have ih:=ZY (up:=up) (S:=S) (H:=H) (i:=i) (m:=m) Ω fun j h1 h2=>h j h1 Ω
   simp only[UH];cases hu:up m with
   |none=>simp only[ih,ite_self]
   |some p=>
    rw[h m Ω Ω (by rw[hu];simp)];exact ih
theorem qfc{up:Nat→Option (Nat×Blk)}{S:Nat→Bool}{H:List (Nat×Blk)}{i n:Nat}(hi:i≤n)(h:∀j,j<n→up j≠none→(S j=true↔j<i)):UH up S H n=UH up (fun _=>true) H i:=by
 rw[ZY hi fun j h1 h2 h3=>by
  cases hS:S j with
  |false=>rfl
  |true=>have:=(h j h2 h3).1 hS;omega]
 exact wr fun j hj hu=>(h j Ω hu).2 hj
theorem Vc{up:Nat→Option (Nat×Blk)}{S:Nat→Bool}{H:List (Nat×Blk)}{i X:Nat}:∀{n:Nat},i≤n→(∀j,j<n→∀b,up j=some (X,b)→(S j=true↔j<i))→blk (UH up S H n) X=blk (UH up (fun _=>true) H i) X
 |0,hi,h=>by
  have:i=0:=by omega
  subst this;rfl
 |n+1,hi,h=>by
  by_cases e:i=n+1
  ·subst e
   have key:∀m,m≤n+1→blk (UH up S H m) X=blk (UH up (fun _=>true) H m) X:=by
    intro m
    induction m with
    |zero=>intro _;rfl
    |succ m ih=>
     intro hm;have ih:=ih Ω;simp only[UH,if_true];cases hu:up m with
     |none=>simp only[ite_self];exact ih
     |some p=>
      obtain⟨t,b⟩:=p;by_cases et:X=t
      ·subst et
       rw[if_pos ((h m Ω b hu).2 Ω)];simp only[qp,if_true,ih]
      ·split
       ·simp only[qp,if_neg et,ih]
       ·simp only[qp,if_neg et,ih]
   exact key _ (xa5 _)
  ·have ih:=Vc (up:=up) (S:=S) (H:=H) (i:=i) (X:=X) (n:=n) Ω fun j hj=>h j Ω
   simp only[UH];split
   ·rename_i hS
    split
    ·rename_i t b hu
     rw[qp,if_neg ?_]
     ·exact ih
     ·intro et
      subst et;have:=(h n Ω b hu).1 hS;omega
    ·exact ih
   ·exact ih
theorem qaa{up:Nat→Option (Nat×Blk)}{S S':Nat→Bool}{H:List (Nat×Blk)}{i n t:Nat}{b:Blk}(hS:∀j,S' j=(S j || decide (j=i)))(hi:i<n)(hu:up i=some (t,b))(h:∀j,j<n→up j≠none→(S j=true↔j<i)) :
  UH up S' H n=setBlk (UH up S H n) t b:=by
 rw[qfc (i:=i+1) Ω (fun j hj hj'=>by
  rw[hS];simp only[xe8,decide_eq_true_eq,h j hj hj'];omega),qfc (i:=i) Ω h]
 simp only[UH,if_true,hu]
theorem Qo{up:Nat→Option (Nat×Blk)}{S S':Nat→Bool}{H:List (Nat×Blk)}{i n:Nat}(hS:∀j,S' j=(S j || decide (j=i)))(hu:up i=none):UH up S' H n=UH up S H n:=
 wr fun j hj hj'=>by
  rw[hS];have:j≠i:=fun e=>hj' (e▸hu);simp[this]
inductive Qp(P:Program)(ds:List (Option Tmp))(F:Nat→SV)(hp:List (Nat×Blk))(id:Nat)(o:Oper):SV→Option Blk→Option (Nat×Blk)→Prop
 |skip (hg:gF ds o.guard F=some false):Qp P ds F hp id o undefSV none none
 |run (sv:SV) (nb:Option Blk) (hg:gF ds o.guard F=some true) (hc:kM o.op=true) (hr:yt P F hp id o sv nb):Qp P ds F hp id o sv nb none
 |upd (obl:Prop) (t:Nat) (b:Blk) (hg:gF ds o.guard F=some true) (h:stepR P F hp o.op=.upd obl t b) (ho:obl):Qp P ds F hp id o undefSV none (some (t,b))
theorem KP{P:Program}{O:Ctx}{J:Prop}(hJ:¬J){ds:List (Option Tmp)}{K:St→Prop}:∀(ops:List Oper)(i:Nat)(st:St),(∀o∈ops,(kM o.op || qU o.op)=true)→qZ P O J ds ops i st K→
  ∃(res:Nat→SV)(nb:Nat→Option Blk)(up:Nat→Option (Nat×Blk))(st':St),
   (∀j o,ops[j]? = some o→Qp P ds (FS (nth (dsts ops)) res (fun _=>true) (look st.fr) j) (TH (st.nid+i) nb up st.hp j) (st.nid+i+j) o (res j) (nb j) (up j))∧
   look st'.fr=FS (nth (dsts ops)) res (fun _=>true) (look st.fr) ops.length∧st'.hp=TH (st.nid+i) nb up st.hp ops.length∧st'.nid=st.nid∧K st'
 |[],i,st,_,h=>⟨fun _=>.top,fun _=>none,fun _=>none,st,fun j o ho=>by simp at ho,rfl,rfl,rfl,h⟩
 |o :: ops,i,st,hall,h=>by
  have go:∀(st2:St)(sv:SV)(b:Option Blk)(u:Option (Nat×Blk)),Qp P ds (look st.fr) st.hp (st.nid+i) o sv b u→st2.nid=st.nid→st2.hp=(match u with|some (t,x)=>setBlk st.hp t x|none=>gi b (st.nid+i) st.hp)→look st2.fr=KG (look st.fr) o.dst sv→qZ P O J ds ops (i+1) st2 K→
    ∃(res:Nat→SV)(nb:Nat→Option Blk)(up:Nat→Option (Nat×Blk))(st':St),
     (∀j o',(o :: ops)[j]? = some o'→Qp P ds (FS (nth (dsts (o :: ops))) res (fun _=>true) (look st.fr) j) (TH (st.nid+i) nb up st.hp j) (st.nid+i+j) o' (res j) (nb j) (up j))∧
     look st'.fr=FS (nth (dsts (o :: ops))) res (fun _=>true) (look st.fr) (o :: ops).length∧st'.hp=TH (st.nid+i) nb up st.hp (o :: ops).length∧st'.nid=st.nid∧K st':=by
   intro st2 sv b u hr h1 h2 h3 h4;obtain⟨res,nb,up,st',ha,hf,hh,hn,hk⟩:=KP hJ ops (i+1) st2 (fun o ho=>hall o (List.mem_cons_of_mem _ ho)) h4
   let res':Nat→SV:=fun j=>match j with|0=>sv|j+1=>res j
   let nb':Nat→Option Blk:=fun j=>match j with|0=>b|j+1=>nb j
   let up':Nat→Option (Nat×Blk):=fun j=>match j with|0=>u|j+1=>up j
   have eF:∀j,FS (nth (dsts ops)) res (fun _=>true) (look st2.fr) j=FS (nth (dsts (o :: ops))) res' (fun _=>true) (look st.fr) (j+1):=fun j=>by
    rw[←Wm,h3]
    congr 1
    funext t;simp[KG,nth,dsts,res']
   have e1:TH (st.nid+i) nb' up' st.hp 1=st2.hp:=by rw[h2];rfl
   have eH:∀j,TH (st2.nid+(i+1)) nb up st2.hp j=TH (st.nid+i) nb' up' st.hp (j+1):=fun j=>by
    rw[←qfb,e1,h1];rfl
   refine⟨res',nb',up',st',fun j o' ho=>?_,?_,?_,hn.trans h1,hk⟩
   ·cases j with
    |zero=>simp at ho;subst ho;exact hr
    |succ j=>
     have:=ha j o' Ω9;rw[eF,eH,h1]at this;have e:st.nid+(i+1)+j=st.nid+i+(j+1):=by omega
     rw[e]at this;exact this
   ·rw[hf,eF];rfl
   ·rw[hh,eH];rfl
  obtain⟨st1,hn,hh,hl,hcase⟩:=yu h;have hst1:st1=⟨st1.fr,st1.hp,st1.nid⟩:=rfl;have ho:=hall o xd5;rcases hcase with⟨hg,hrun⟩|⟨hg,hskip⟩
  ·generalize hres:stepR P (look st1.fr) st1.hp o.op=res at hrun
   rw[hl,hh]at hres;by_cases hu:qU o.op=true
   ·rcases Wp (P:=P) (F:=look st.fr) (hp:=st.hp) hu with⟨obl,j,b,e⟩|e
    ·rw[hres]at e
     subst e;exact go _ undefSV none (some (j,b)) (.upd obl j b hg hres hrun.1) Ωy (by rw[zk,hh]) (by rw[ky,hl]) hrun.2
    ·rw[hres]at e
     subst e;exact hrun.elim
   ·have hc:kM o.op=true:=by
     rw[xe8]at ho;exact ho.resolve_right hu
    have hq:=vw (P:=P) (F:=look st.fr) (hp:=st.hp) hc;rw[hres]at hq;cases res with
    |bad=>exact hrun.elim
    |pure obl sv=>exact go _ sv none none (.run _ _ hg hc (.pure obl sv hres hrun.1)) Ωab Ω1 ΩV hrun.2
    |ex obl=>
     obtain⟨sv,ho,hk⟩:=hrun;exact go _ sv none none (.run _ _ hg hc (.ex obl sv hres ho)) Ωab Ω1 ΩV hk
    |new obl b mk=>exact go _ (mk (st.nid+i)) (some b) none (.run _ _ hg hc (.new obl b mk hres hrun.1)) Ωy Ω2 (by rw[ky,hl,hn]) hrun.2
    |upd obl j b=>cases hq
    |updv obl j b sv=>cases hq
    |grow obl j b sv=>cases hq
    |call f args=>
     rcases hrun with⟨res,hcc,hk⟩|⟨pats,b,res,hcc,hs,hk⟩|⟨hj,_⟩
     ·rw[hh]at hcc
      exact go _ res none none (.run _ _ hg hc (.call f args res hres hcc)) Ωab Ω1 ΩV hk
     ·rw[hh]at hs
      exact go _ (setId (st.nid+i) res) (some b) none (.run _ _ hg hc (.callN f args pats b res hres hcc hs)) Ωy Ω2 (by rw[ky,hl,hn]) hk
     ·exact absurd hj hJ
    |yield y args=>exact absurd hrun.1 hJ
    |raw=>exact absurd hrun.1 hJ
  ·exact go _ undefSV none none (.skip hg) Ωab Ω1 ΩV hskip
theorem Qq{P:Program}{ds:List (Option Tmp)}{F:Nat→Nat→SV}{ops:List Oper}{res:Nat→SV}{nb:Nat→Option Blk}{up:Nat→Option (Nat×Blk)}{hp:List (Nat×Blk)}{k:Nat}(hk:∀id x,blk hp id=some x→id<k):∀{i:Nat}{x:Nat}{y:Blk},blk (TH k nb up hp i) x=some y→x<k+i
 |0,x,y,h=>hk x y h
 |i+1,x,y,h=>by
  simp only[TH]at h;split at h
  ·rw[qp]at h
   split at h
   ·rename_i e;subst e
    cases hb:blk (TH k nb up hp i) x with
    |none=>rw[hb]at h;cases h
    |some z=>have:=Qq (P:=P) (ds:=ds) (F:=F) (ops:=ops) (res:=res) hk hb;omega
   ·have:=Qq (P:=P) (ds:=ds) (F:=F) (ops:=ops) (res:=res) hk h;omega
  ·cases hn:nb i with
   |none=>rw[hn]at h;have:=Qq (P:=P) (ds:=ds) (F:=F) (ops:=ops) (res:=res) hk (i:=i) h;omega
   |some b=>
    rw[hn]at h;simp only[gi,blk]at h;split at h
    ·omega
    ·have:=Qq (P:=P) (ds:=ds) (F:=F) (ops:=ops) (res:=res) hk (i:=i) h;omega
theorem KQ{P:Program}{ds:List (Option Tmp)}{F:Nat→SV}{hp:List (Nat×Blk)}{id:Nat}{o:Oper}{sv:SV}{nb:Option Blk}{up:Option (Nat×Blk)}(h:Qp P ds F hp id o sv nb up) :
  (up=none∨(nb=none∧qU o.op=true))∧∀t b,up=some (t,b)→∃y,blk hp t=some y:=by
 cases h with
 |skip hg=>exact⟨.inl rfl,fun t b h=>by cases h⟩
 |run hg hc hr=>exact⟨.inl rfl,fun t b h=>by cases h⟩
 |upd obl t b hg h ho=>exact⟨.inr ⟨rfl,wV h⟩,fun t' b' e=>by cases e;exact GP h⟩
theorem qfd{P:Program}{ds:List (Option Tmp)}{F:Nat→Nat→SV}{ops:List Oper}{res:Nat→SV}{nb:Nat→Option Blk}{up:Nat→Option (Nat×Blk)}{hp:List (Nat×Blk)}{k:Nat}(hk:∀id x,blk hp id=some x→id<k)
  (h:∀j o,ops[j]? = some o→Qp P ds (F j) (TH k nb up hp j) (k+j) o (res j) (nb j) (up j)):∀{i:Nat},i≤ops.length→∀{x:Nat}{y:Blk},blk (TH k nb up hp i) x=some y→blk (UH up (fun _=>true) (NH k nb hp ops.length) i) x=some y
 |0,hi,x,y,hx=>Y9 hk hx
 |i+1,hi,x,y,hx=>by
  have keys:∀{i:Nat}{x:Nat}{y:Blk},blk (TH k nb up hp i) x=some y→x<k+i:=fun{i x y}=>Qq (P:=P) (ds:=ds) (F:=F) (ops:=ops) (res:=res) hk;have ih:=fun{x:Nat}{y:Blk}=>qfd hk h (i:=i) Ω (x:=x) (y:=y);obtain⟨o,ho⟩:∃o,ops[i]? = some o:=⟨ops[i],by simp[show i<ops.length by omega]⟩;obtain⟨h1,h2⟩:=KQ (h i o ho);simp only[TH]at hx;simp only[UH,if_true];cases hu:up i with
  |some p=>
   obtain⟨t,b⟩:=p;rw[hu]at hx;simp only[qp]at hx ⊢;split at hx
   ·rename_i e
    obtain⟨z,hz⟩:=h2 t b hu;rw[if_pos e,ih hz];rw[hz]at hx;exact hx
   ·rename_i e
    rw[if_neg e];exact ih hx
  |none=>
   rw[hu]at hx;dsimp only at hx ⊢;cases hn:nb i with
   |none=>rw[hn]at hx;exact ih hx
   |some b=>
    rw[hn]at hx;simp only[gi,blk]at hx;split at hx
    ·rename_i e
     subst e;rw[wq fun j hj _ t c hjc=>?_,Vb hn Ω,hx];obtain⟨oj,hoj⟩:∃oj,ops[j]? = some oj:=⟨ops[j],by simp[show j<ops.length by omega]⟩;obtain⟨z,hz⟩:=(KQ (h j oj hoj)).2 t c hjc;have:=keys hz;omega
    ·exact ih hx
end Go.Sx
end
section
namespace Go.Sx
open Go.RowKit
section
variable{P:Program}{O:Ctx}{outs:gD}{base:World}{okc:Nat→Prop}{ns:Nat}
def qlA(O:Ctx)(outs:gD)(base:World)(okc:Nat→Prop)(ns nid m:Nat)(H:List (Nat×Blk))(up:Nat→Option (Nat×Blk))(dst:Nat→Option Tmp)(res:Nat→SV)(F:Nat→SV)(S:Nat→Bool)(a:Act)(w:World):Prop:=
 (∀j,j<m→S j=true→∀t b,up j=some (t,b)→NS nid m S t)∧
 ∃r,Sat base okc r (NS nid m S) (UH up S H m) w∧(∀t,Rep r (NS nid m S) (Gd base okc r (NS nid m S) (UH up S H m) w) w (FS dst res S F m t) (a.tmps.getD t undef))∧a.tmps.size=ns∧Ext O base okc r (NS nid m S) (UH up S H m) outs a w
theorem qfe{nid m i:Nat}{H:List (Nat×Blk)}{up:Nat→Option (Nat×Blk)}{dst:Nat→Option Tmp}{res F:Nat→SV}{S S':Nat→Bool}{a:Act}{w w':World}{r r':Nat→Option Nat}(hS:∀j,S' j=(S j || decide (j=i)))(hi:i<m)
  (hlater:∀t,dst i=some t→∀j,j<m→i<j→dst j=some t→S j=false)
  (hF:∀t,Rep r (NS nid m S) (Gd base okc r (NS nid m S) (UH up S H m) w) w (FS dst res S F m t) (a.tmps.getD t undef)) (hsize:a.tmps.size=ns) (hdef:Ext O base okc r (NS nid m S) (UH up S H m) outs a w) (hlo:O.lo≤nid) (hd:∀t,dst i=some t→t<ns)
  (hu:∀j,j<m→S' j=true→∀t b,up j=some (t,b)→NS nid m S' t)
  (hs:Step base okc r (NS nid m S) (UH up S H m) w r' (NS nid m S') (UH up S' H m) w') {v:Value} (hv:Rep r' (NS nid m S') (Gd base okc r' (NS nid m S') (UH up S' H m) w') w' (res i) v):qlA O outs base okc ns nid m H up dst res F S' (a.put (dst i) v) w':=by
 refine⟨hu,r',hs.sat,fun t=>?_,by cases dst i<;>simp[Act.put,hsize],hdef.step hs (fun i hi=>.inl (xa9 hi hlo)) _ _⟩;rw[KI hS hi (hlater t),KC];by_cases e:dst i=some t
 ·rw[if_pos e,if_pos ⟨e,by rw[hsize];exact hd t e⟩];exact hv
 ·rw[if_neg e,if_neg (fun h=>e h.1)];exact hs.rep (hF t)
theorem Sat.fewer{N:Nat→Prop}{r:Nat→Option Nat}{w:World}{hp hp':List (Nat×Blk)}(hst:Sat base okc r N hp w)(hback:∀x y,blk hp' x=some y→N x→blk hp x=some y):Step base okc r N hp w r N hp' w:=by
 have hG:∀o c,Gd base okc r N hp w o c→Gd base okc r N hp' w o c∧w.heap[c]? = w.heap[c]?:=
  fun o c ⟨h1,h2,h3⟩=>⟨⟨h1,fun i y hy hi=>h2 i y (hback i y hy hi) hi,h3⟩,rfl⟩
 exact⟨⟨hst.below,fun i y hy hi=>(hst.rep i y (hback i y hy hi) hi).mono (fun _ _=>rfl) (fun _ h=>h) hG (Shapes.refl _) (fun _ _=>rfl),
  fun i y b hy hi=>hst.own i y b (hback i y hy hi) hi,fun i y i' y' b hy hi hy' hi'=>hst.inj i y i' y' b (hback i y hy hi) hi (hback i' y' hy' hi') hi'⟩,fun _ _=>rfl,fun _ h=>h,hG,Shapes.refl _⟩
theorem qff{far:List (Nat×Nat)}{ro:Option Nat}{ops:Array Oper}{id:Nat}{Q:Exit→Act→World→Prop}{st:St}{K:St→Prop}{a:Act}{w:World}(hm:P.follows .mixedOrders=true)(hok:J9 far ops.toList=true)(hd:ops.toList.all (kL ns)=true)
  (h:Inv O base okc ns st.nid outs st a w) (hk:qZ P O (kD true ops.toList=true) (dsts ops.toList) ops.toList 0 st fun st'=>FarVC far st' (K st'))
  (hK:∀st' a' w',K st'→Inv O base okc ns (st'.nid+ops.toList.length) outs st' a' w'→Q .normal a' w'):(Code.region id ops true).wpIn (FR ro) 0 P Q a w:=by
 obtain⟨r0,h0⟩:=h;generalize hl:ops.toList=l at hok hd hk hK;have hn:ops.size=l.length:=by rw[←hl];simp
 have hget:∀j:Nat,ops[j]? = l[j]?:=fun j=>by rw[←hl];simp
 simp only[J9,xe6,Bool.not_eq_true']at hok;obtain⟨⟨⟨⟨hedge,hapart⟩,hpair⟩,hall⟩,hnoJ⟩:=hok;have hedge:=gh hedge;have hall:∀o∈l,(kM o.op || qU o.op)=true:=List.all_eq_true.1 hall;obtain⟨res,nb,up,st1,hops,hF1,hh1,hn1,hk1⟩:=KP (by rw[hnoJ];simp) l 0 st hall hk;rw[xb1]at hops hh1;obtain⟨hk1,hfar⟩:=jB hk1;have hdl:(dsts l).length=l.length:=by
  have:∀l:List Oper,(dsts l).length=l.length:=fun l=>by induction l<;>simp[dsts, *]
  exact this l
 have hkeys0:=h0.keys;have hsubT:=fun{i:Nat}(hi:i≤l.length){x:Nat}{y:Blk}=>qfd hkeys0 hops (i:=i) hi (x:=x) (y:=y);generalize hH:NH st.nid nb st.hp l.length=H at hsubT;have hHk:∀x y,blk H x=some y→x<st.nid∨∃j,j<l.length∧nb j=some y∧x=st.nid+j:=fun x y hxy=>by
  rw[←hH]at hxy;rcases ZX hxy with h|h
  ·exact .inl (hkeys0 _ _ h)
  ·exact .inr h
 have hclosed:∀(S:Nat→Bool)(i:Nat),kV l S→(∃o,l[i]? = some o∧∀e∈o.after,Region.binds .any e=true→S e.on=true)→kV l (fun j=>S j || decide (j=i)):=by
  rintro S i hc ⟨o,ho,he⟩ j oj hoj hS e hm' hb;simp only[xe8,decide_eq_true_eq]at hS ⊢;rcases hS with hS|hS
  ·exact .inl (hc j oj hoj hS e hm' hb)
  ·subst hS
   rw[ho]at hoj;cases hoj;exact .inl (he e hm' hb)
 have hready:∀(listed:Array Bool)(i:Nat),listed.size=l.length→i∈Region.ready .any ops listed→i<l.length∧listed.getD i false=false∧∃o,l[i]? = some o∧∀e∈o.after,Region.binds .any e=true→listed.getD e.on false=true:=by
  intro listed i hsz hi;obtain⟨h1,o,h2,h3⟩:=mem_ready.1 hi;rw[hget]at h2;have hlt:i<l.length:=(List.getElem?_eq_some_iff.1 h2).1;refine⟨hlt,?_,o,h2,h3⟩;have:i<listed.size:=by omega
  simpa[this]using h1
 have hleast:∀(listed:Array Bool),listed.size=l.length→∀i,i<l.length→listed.getD i false=false→∃j,j≤i∧j∈Region.ready .any ops listed:=by
  intro listed hsz i
  induction i using Nat.strongRecOn with
  |_ i ih=>
   intro hi hf;obtain⟨o,ho⟩:∃o,l[i]? = some o:=⟨l[i],by simp[hi]⟩;by_cases hall:∀e∈o.after,Region.binds .any e=true→listed.getD e.on false=true
   ·refine⟨i,xa5 _,mem_ready.2 ⟨?_,o,by rw[hget];exact ho,hall⟩⟩
    have:i<listed.size:=by omega
    simpa[this]using hf
   ·have:∃e,e∈o.after∧Region.binds .any e=true∧listed.getD e.on false=false:=by
     refine xf9 fun hno=>hall fun e he hb=>?_;cases hv:listed.getD e.on false with
     |true=>rfl
     |false=>exact(hno ⟨e,he,hb,hv⟩).elim
    obtain⟨e,he,hb,hv⟩:=this;have hlt:=hedge i o ho e he hb;rw[xb0]at hlt;obtain⟨j,hj,hr⟩:=ih e.on hlt Ω hv;exact⟨j,Ω,hr⟩
 have hdst:∀i o,l[i]? = some o→nth (dsts l) i=o.dst:=fun i o ho=>by rw[za,ho];rfl
 have hdin:∀i t,nth (dsts l) i=some t→t<ns:=fun i t ht=>by
  rw[za]at ht;cases ho:l[i]? with
  |none=>simp[ho]at ht
  |some o=>
   simp only[ho,Option.bind_some]at ht;have:=List.all_eq_true.1 hd o (List.mem_of_getElem? ho);simpa[kL,ht]using this
 have hupd:∀j,j<l.length→up j≠none→∃oj,l[j]? = some oj∧qU oj.op=true:=fun j hj hu=>by
  obtain⟨oj,hoj⟩:∃oj,l[j]? = some oj:=⟨l[j],by simp[hj]⟩;exact⟨oj,hoj,((KQ (hops j oj hoj)).1.resolve_left hu).2⟩
 have walk:∀(fuel:Nat)(listed:Array Bool)(a:Act)(w:World),listed.size=l.length→kV l (fun i=>listed.getD i false)→cnt (fun i=>listed.getD i false) l.length=fuel→
   qlA O outs base okc ns st.nid l.length H up (nth (dsts l)) res (look st.fr) (fun i=>listed.getD i false) a w→wpAnyIn (FR ro) 0 P .any ops Q fuel listed a w:=by
  intro fuel
  induction fuel with
  |zero=>
   intro listed a w hsz hcl hcnt hmid;have hall:=wm hcnt;obtain⟨_,r,hsat,hrep,hsize,hdef⟩:=hmid;refine⟨?_,hK st1 a w hk1 ?_⟩
   ·cases hr:Region.ready .any ops listed with
    |nil=>rfl
    |cons x xs=>
     have:=hready listed x hsz Ωaa;rw[hall x this.1]at this;exact absurd this.2.1 Ωg
   ·have e1:NS st.nid l.length (fun i=>listed.getD i false)=(· < st.nid+l.length):=by
     funext x;simp only[NS,eq_iff_iff];constructor
     ·rintro(h|⟨j,h1,_,h3⟩)<;>omega
     ·intro h
      by_cases hx:x<st.nid
      ·exact .inl hx
      ·exact .inr ⟨x - st.nid,Ω,hall _ Ω,Ω⟩
    have e2:UH up (fun i=>listed.getD i false) H l.length=UH up (fun _=>true) H l.length:=wr fun j hj _=>hall j hj;rw[e1,e2]at hsat hrep hdef;have hs2:=hsat.fewer (hp':=st1.hp) fun x y hy _=>by rw[hh1]at hy;exact hsubT (xa5 _) hy
    have hdef2:=hdef.step0 hs2 (fun i hi=>xa9 hi (xc1 h0.lo Ω));rw[hn1];refine⟨r,hs2.sat,fun x y hy=>?_,fun t=>?_,hsize,xc1 h0.lo Ω,hdef2.out,hdef2.rfix,hdef2.defers⟩
    ·rw[hh1]at hy
     obtain⟨z,hz⟩:=wW (hsubT (xa5 _) hy);rcases hHk _ _ hz with h|⟨j,hj,_,e⟩<;>omega
    ·have:=hs2.rep (hrep t)
     rw[hF1];have e2:FS (nth (dsts l)) res (fun i=>listed.getD i false) (look st.fr) l.length t=FS (nth (dsts l)) res (fun _=>true) (look st.fr) l.length t:=
      wl (xa5 _) fun j hj _=>by simp only[hj,iff_true];exact hall j hj
     rw[←e2];exact this
  |succ fuel ih=>
   intro listed a w hsz hcl hcnt hmid;obtain⟨x,hx⟩:∃x,x<l.length∧listed.getD x false=false:=by
    refine xf9 fun hno=>?_;have hall:∀i,i<l.length→listed.getD i false=true:=fun i hi=>by
     cases hv:listed.getD i false with
     |true=>rfl
     |false=>exact(hno ⟨i,hi,hv⟩).elim
    have hc:=KM (S:=fun i=>listed.getD i false) hall (fun j hj=>by simp only[xf5];rw[Array.getElem?_eq_none Ω];rfl) (xa5 l.length);rw[hc]at hcnt;omega
   refine⟨fun h=>?_,fun i hi=>?_⟩
   ·obtain⟨y,_,hr⟩:=hleast listed hsz x Ω hx.2
    rw[h]at hr;cases hr
   ·obtain⟨hil,hif,o,ho,hie⟩:=hready listed i hsz hi
    have hcl':=hclosed _ i hcl ⟨o,ho,hie⟩;have hlook:∀t,t∈seen (dsts l) o→FS (nth (dsts l)) res (fun i=>listed.getD i false) (look st.fr) l.length t=FS (nth (dsts l)) res (fun _=>true) (look st.fr) i t:=by
     intro t ht;refine wl Ω fun j hj hdj=>?_;obtain⟨oj,hoj⟩:∃oj,l[j]? = some oj:=⟨l[j],by simp[show j<l.length by omega]⟩;constructor
     ·intro hS
      refine xf9 fun hge=>?_;by_cases e:j=i
      ·subst e
       rw[hif]at hS;cases hS
      ·rcases zl hapart ho hoj Ω with hb|⟨_,hb⟩
       ·have:=qw hcl hb hS
        rw[hif]at this;cases this
       ·exact hb t hdj ht
     ·intro hlt
      rcases zl hapart hoj ho hlt with hb|⟨hb,_⟩
      ·have:=qw hcl' hb Ωg
       simp only[xe8,decide_eq_true_eq]at this;exact this.resolve_right Ω
      ·exact(hb t hdj ht).elim
    have hchg:qU o.op=true→∀j,j<l.length→up j≠none→(listed.getD j false=true↔j<i):=by
     intro hro j hj hu;obtain⟨oj,hoj,huj⟩:=hupd j hj hu;constructor
     ·intro hS
      refine xf9 fun hge=>?_;by_cases e:j=i
      ·subst e;rw[hif]at hS;cases hS
      ·rcases zS hpair ho hoj Ω with hb|⟨hb1,hb2,_⟩|⟨_,_,_,_,_,e1,_⟩
       ·have:=qw hcl hb hS
        rw[hif]at this;cases this
       ·exact hb1 ⟨hro,huj⟩
       ·rw[e1]at hro;cases hro
     ·intro hlt
      rcases zS hpair hoj ho hlt with hb|⟨hb1,_,hb3⟩|⟨_,_,_,_,_,e1,_⟩
      ·have:=qw hcl' hb Ωg
       simp only[xe8,decide_eq_true_eq]at this;exact this.resolve_right Ω
      ·exact(hb1 ⟨huj,hro⟩).elim
      ·rw[e1]at huj;cases huj
    have hchg1:jY o.op=true→∀X,(∀ty a,o.op=.load ty (.tmp a)→qO (FS (nth (dsts l)) res (fun _=>true) (look st.fr) i a)=some X)→∀j,j<l.length→∀b,up j=some (X,b)→(listed.getD j false=true↔j<i):=by
     intro hro X hX j hj b hu;obtain⟨oj,hoj,huj⟩:=hupd j hj (by rw[hu];simp);constructor
     ·intro hS
      refine xf9 fun hge=>?_;by_cases e:j=i
      ·subst e;rw[hif]at hS;cases hS
      ·rcases zS hpair ho hoj Ω with hb|⟨hb1,hb2,_⟩|⟨t,a,t',c,y,e1,e2,hmem,hn1,hn2⟩
       ·have:=qw hcl hb hS
        rw[hif]at this;cases this
       ·exact hb2 ⟨hro,huj⟩
       ·have h1:=hX t a e1
        have h2:qO (FS (nth (dsts l)) res (fun _=>true) (look st.fr) j c)=some X:=by
         have hat:=hops j oj hoj;rw[hu]at hat;generalize res j=svj at hat;generalize nb j=nbj at hat;cases hat with
         |upd obl t b hg hst hobl=>
          rw[e2]at hst;exact ja hst
        have h3:=hfar a c hmem;rw[hF1,gQ (i:=i) Ω (fun k hk hik=>qE hn1 Ω hik),gQ (i:=j) (t:=c) Ω (fun k hk hik=>qE hn2 Ω hik)]at h3;unfold jX at h3;rw[h1,h2]at h3;exact h3 rfl
     ·intro hlt
      rcases zS hpair hoj ho hlt with hb|⟨hb1,_,hb3⟩|⟨_,_,_,_,_,e1,_⟩
      ·have:=qw hcl' hb Ωg
       simp only[xe8,decide_eq_true_eq]at this;exact this.resolve_right Ω
      ·exact(hb3 ⟨huj,hro⟩).elim
      ·rw[e1]at huj;cases huj
    have hmemU:qU o.op=true→∀id x,blk (TH st.nid nb up st.hp i) id=some x→blk (UH up (fun i=>listed.getD i false) H l.length) id=some x:=by
     intro hro id x hx;rw[qfc (i:=i) Ω (hchg hro)];exact hsubT Ω hx
    have hmem1:jY o.op=true→∀X x,(∀ty a,o.op=.load ty (.tmp a)→qO (FS (nth (dsts l)) res (fun _=>true) (look st.fr) i a)=some X)→blk (TH st.nid nb up st.hp i) X=some x→blk (UH up (fun i=>listed.getD i false) H l.length) X=some x:=by
     intro hro X x hX hx;rw[Vc (i:=i) Ω (hchg1 hro X hX)];exact hsubT Ω hx
    have hat:=hops i o ho;obtain⟨hupN,r,hsat,hrep,hsize,hdef⟩:=hmid;have hdsti:=hdst i o ho;have hS:∀x,(listed.setIfInBounds i true).getD x false=(listed.getD x false || decide (x=i)):=fun x=>wn Ω;have hNS:∀x,NS st.nid l.length (fun i=>listed.getD i false) x→NS st.nid l.length (fun x=>(listed.setIfInBounds i true).getD x false) x:=fun x hx=>by
     rw[←vy hS hil];exact .inl hx
    have hfresh:¬NS st.nid l.length (fun i=>listed.getD i false) (st.nid+i):=by
     rintro(h|⟨j,h1,h2,h3⟩)
     ·omega
     ·have:j=i:=by omega
      subst this;dsimp only at h2;rw[hif]at h2;cases h2
    have hlater:∀t,nth (dsts l) i=some t→∀j,j<l.length→i<j→nth (dsts l) j=some t→listed.getD j false=false:=by
     intro t hdi j hj hij hdj;obtain⟨oj,hoj⟩:∃oj,l[j]? = some oj:=⟨l[j],by simp[show j<l.length by omega]⟩;cases hv:listed.getD j false with
     |false=>rfl
     |true=>
      rcases zl hapart ho hoj hij with hb|⟨_,hb⟩
      ·have:=qw hcl hb hv
       rw[hif]at this;cases this
      ·refine(hb t hdj ?_).elim
       simp only[seen,xd4];rw[hdsti]at hdi;simp[hdi]
    have next:∀(v:Value)(r':Nat→Option Nat)(w':World),(∀t b,up i=some (t,b)→NS st.nid l.length (fun i=>listed.getD i false) t)→
      Step base okc r (NS st.nid l.length fun i=>listed.getD i false) (UH up (fun i=>listed.getD i false) H l.length) w r' (NS st.nid l.length fun x=>(listed.setIfInBounds i true).getD x false) (UH up (fun x=>(listed.setIfInBounds i true).getD x false) H l.length) w'→
      Rep r' (NS st.nid l.length fun x=>(listed.setIfInBounds i true).getD x false) (Gd base okc r' (NS st.nid l.length fun x=>(listed.setIfInBounds i true).getD x false) (UH up (fun x=>(listed.setIfInBounds i true).getD x false) H l.length) w') w' (res i) v→
      wpAnyIn (FR ro) 0 P .any ops Q fuel (listed.setIfInBounds i true) (a.put o.dst v) w':=by
     intro v r' w' hui hs hv;refine ih _ _ _ (by simpa using hsz) ?_ ?_ ?_
     ·have:(fun x=>(listed.setIfInBounds i true).getD x false)=fun x=>listed.getD x false || decide (x=i):=funext hS
      rw[this];exact hcl'
     ·have:=(gP (S:=fun i=>listed.getD i false) (S':=fun x=>(listed.setIfInBounds i true).getD x false) hS hif (n:=l.length)).2 hil
      omega
     ·rw[←hdsti]
      refine qfe hS hil hlater hrep hsize hdef h0.lo (hdin i) (fun j hj hSj t b hu=>?_) hs hv;rw[hS]at hSj;simp only[xe8,decide_eq_true_eq]at hSj;rcases hSj with hSj|rfl
      ·exact hNS _ (hupN j hj hSj t b hu)
      ·exact hNS _ (hui t b hu)
    have hsame:up i=none→UH up (fun x=>(listed.setIfInBounds i true).getD x false) H l.length=UH up (fun i=>listed.getD i false) H l.length:=fun hu=>Qo hS hu;have hnokey:nb i=none→∀x y (S:Nat→Bool),blk (UH up S H l.length) x=some y→NS st.nid l.length (fun x=>(listed.setIfInBounds i true).getD x false) x→NS st.nid l.length (fun i=>listed.getD i false) x:=by
     intro hnb x y S hy hx;rw[←vy hS hil]at hx;rcases hx with hx|hx
     ·exact hx
     ·subst hx
      obtain⟨z,hz⟩:=wW hy;rcases hHk _ _ hz with h|⟨j,_,hj,e⟩
      ·omega
      ·have:j=i:=by omega
       subst this;rw[hnb]at hj;cases hj
    have hmore:nb i=none→up i=none→Step base okc r (NS st.nid l.length fun i=>listed.getD i false) (UH up (fun i=>listed.getD i false) H l.length) w r (NS st.nid l.length fun x=>(listed.setIfInBounds i true).getD x false) (UH up (fun x=>(listed.setIfInBounds i true).getD x false) H l.length) w:=by
     intro hnb hu;rw[hsame hu];exact hsat.more hNS fun x y hy hx=>hnokey hnb x y _ hy hx
    have hguard:∀b,gF (dsts l) o.guard (FS (nth (dsts l)) res (fun _=>true) (look st.fr) i)=some b→Region.wanted o (yielded ops a.tmps)=b:=by
     intro b hg;cases hog:o.guard with
     |none=>rw[hog]at hg;simp only[gF,Option.some.injEq]at hg;subst hg;simp[Region.wanted,hog]
     |some gw=>
      obtain⟨j,want⟩:=gw;rw[hog]at hg;simp only[gF]at hg;cases ht:nth (dsts l) j with
      |none=>simp[ht]at hg
      |some t=>
       have hy:=yK ops a j t (by rw[hl];exact ht);have htn:t∈seen (dsts l) o:=by simp[seen,qeY,hog,ht]
       have hrt:=hrep t;rw[hlook t htn]at hrt;simp only[ht]at hg;cases hv:FS (nth (dsts l)) res (fun _=>true) (look st.fr) i t with
       |val u=>
        rw[hv]at hg hrt;have hu:a.tmps.getD t undef=u:=by generalize a.tmps.getD t undef=z at hrt;cases hrt;rfl
        simp only[xf5]at hu;cases u with
        |bool c=>
         have:yielded ops a.tmps j=some c:=by
          rw[hy];cases hz:a.tmps[t]? with
          |none=>rw[hz]at hu;simp[undef]at hu
          |some z=>rw[hz]at hu;simp at hu;rw[hu]
         simp only[Option.some.injEq]at hg;subst hg;simp only[Region.wanted,hog,this];cases c<;>cases want<;>rfl
        |tuple vs=>
         have:yielded ops a.tmps j=none:=by
          rw[hy];cases hz:a.tmps[t]? with
          |none=>rfl
          |some z=>rw[hz]at hu;simp at hu;rw[hu]
         simp only[Option.some.injEq]at hg;subst hg;simp[Region.wanted,hog,this]
        |_=>simp at hg
       |_=>rw[hv]at hg;simp at hg
    have henv:∀x,x∈o.op.operands→Rep r (NS st.nid l.length fun i=>listed.getD i false) (Gd base okc r (NS st.nid l.length fun i=>listed.getD i false) (UH up (fun i=>listed.getD i false) H l.length) w) w (env (FS (nth (dsts l)) res (fun _=>true) (look st.fr) i) x) (a.eval x):=fun x hx=>J4 x fun t ht=>by
     subst ht;rw[←hlook t (by
      simp only[seen,xd4];exact .inl (List.mem_filterMap.2 ⟨.tmp t,ΩS,rfl⟩))]
     exact hrep t
    unfold wpOpIn;simp only[hget,ho];generalize hsv:res i=sv at hat;generalize hnbi:nb i=nbi at hat;generalize hupi:up i=upi at hat;cases hat with
    |skip hg=>
     rw[if_neg (by rw[hguard _ hg];simp)];exact⟨fun _ _=>trivial,next undef r w (fun t b hu=>by rw[hupi]at hu;cases hu) (hmore hnbi hupi) (by rw[hsv];exact .val _)⟩
    |upd obl t b hg hst hobl=>
     rw[if_pos (hguard _ hg)];have hu:=wV hst;have hnd:∀c,o.op≠.defer c:=fun c e=>by rw[e]at hu;cases hu
     have hst':stepR P (FS (nth (dsts l)) res (fun _=>true) (look st.fr) i) (UH up (fun i=>listed.getD i false) H l.length) o.op=.upd obl t b:=by
      rw[KO hu (hmemU hu) ΩU,hst]
     refine vu hnd (vr hsat (fr:=FS (nth (dsts l)) res (fun _=>true) (look st.fr) i) (id:=st.nid+i) (hp':=UH up (fun i=>listed.getD i false) H l.length) henv ?_);rw[hst'];refine⟨hobl,fun w' hs=>?_⟩;have hui:∀t' b',up i=some (t',b')→NS st.nid l.length (fun i=>listed.getD i false) t':=fun t' b' e=>by
      rw[hupi]at e;cases e;exact qmW hst' henv
     refine next undef r w' hui ?_ (by rw[hsv];exact .val _);rw[qaa hS hil hupi (hchg hu)];refine hs.trans (hs.sat.more hNS fun x y hy hx=>?_);rw[←qaa hS hil hupi (hchg hu)]at hy;exact hnokey hnbi x y _ hy hx
    |run sv nbi hg hca hrun=>
     rw[if_pos (hguard _ hg)];have hnd:∀c,o.op≠.defer c:=fun c e=>by rw[e]at hca;cases hca
     have hui:∀t b,up i=some (t,b)→NS st.nid l.length (fun i=>listed.getD i false) t:=fun t b hu=>by rw[hupi]at hu;cases hu
     have hstep:stepR P (FS (nth (dsts l)) res (fun _=>true) (look st.fr) i) (TH st.nid nb up st.hp i) o.op≠.bad→
       stepR P (FS (nth (dsts l)) res (fun _=>true) (look st.fr) i) (UH up (fun i=>listed.getD i false) H l.length) o.op=stepR P (FS (nth (dsts l)) res (fun _=>true) (look st.fr) i) (TH st.nid nb up st.hp i) o.op:=fun hne=>by
      cases hr:jY o.op with
      |true=>
       by_cases hld:∃ty x,o.op=.load ty x
       ·obtain⟨ty,x,e⟩:=hld
        rw[e]at hne ⊢;refine wo (fun id y hid hy=>hmem1 hr id y (fun ty' a e'=>?_) hy) hne;rw[e]at e';cases e';exact hid
       ·exact gG hca (fun id y hy=>hmem1 hr id y (fun ty a e=>(hld ⟨ty,_,e⟩).elim) hy) hne
      |false=>exact ZE _ hca hr
     have hnew:∀b,nb i=some b→blk (UH up (fun i=>listed.getD i false) H l.length) (st.nid+i)=some b:=fun b hb=>by
      rw[wq (x:=st.nid+i) (fun j hj hSj t c hjc (e:t=st.nid+i)=>hfresh (by rw[←e];exact hupN j hj hSj t c hjc)),←hH];exact Vb hb hil
     refine vu hnd (vr hsat (fr:=FS (nth (dsts l)) res (fun _=>true) (look st.fr) i) (id:=st.nid+i) (hp':=UH up (fun i=>listed.getD i false) H l.length) henv ?_);cases hrun with
     |pure obl _ hst hobl=>
      rw[hstep ΩU,hst];refine⟨hobl,fun v hv=>next v r w hui (hmore hnbi hupi) ?_⟩;rw[hsv];exact(hmore hnbi hupi).rep hv
     |ex obl _ hst hobl=>
      rw[hstep ΩU,hst];refine⟨sv,hobl,fun v hv=>next v r w hui (hmore hnbi hupi) ?_⟩;rw[hsv];exact(hmore hnbi hupi).rep hv
     |new obl b mk hst hobl=>
      rw[hstep ΩU,hst];refine⟨hobl,hfresh,hnew b hnbi,fun _ _=>rfl,fun v w' r' hs hv=>?_⟩;rw[vy hS hil]at hs hv;refine next v r' w' hui (by rw[hsame hupi];exact hs) ?_;rw[hsv,hsame hupi];exact hv
     |call f args _ hst hc=>
      have hr:jY o.op=true:=by
       obtain⟨x,xs,ts,first,caps,e,_⟩:=gE hst;rw[e];rfl
      have hm':∀id y,blk (TH st.nid nb up st.hp i) id=some y→blk (UH up (fun i=>listed.getD i false) H l.length) id=some y:=fun id y hy=>hmem1 hr id y (fun ty a e=>by
       obtain⟨x,xs,ts,first,caps,e',_⟩:=gE hst;rw[e']at e;cases e) hy
      rw[hstep ΩU,hst];refine .inl ⟨sv,hc.mono hm',fun v w' hst' hv=>?_⟩;have hgrow:=hst'.sat.more hNS fun x y hy hx=>hnokey hnbi x y _ hy hx;refine next v r w' hui ?_ ?_
      ·rw[hsame hupi];exact hst'.trans hgrow
      ·rw[hsame hupi,hsv];exact hgrow.rep hv
     |callN f args pats b res' hst hc hs=>
      have hr:jY o.op=true:=by
       obtain⟨x,xs,ts,first,caps,e,_⟩:=gE hst;rw[e];rfl
      have hm':∀id y,blk (TH st.nid nb up st.hp i) id=some y→blk (UH up (fun i=>listed.getD i false) H l.length) id=some y:=fun id y hy=>hmem1 hr id y (fun ty a e=>by
       obtain⟨x,xs,ts,first,caps,e',_⟩:=gE hst;rw[e']at e;cases e) hy
      rw[hstep ΩU,hst];refine .inr ⟨pats,b,res',hc,hs.mono hm',hfresh,_,hnew b hnbi,fun _ _=>rfl,fun v w' r' hs hv=>?_⟩;rw[vy hS hil]at hs hv;refine next v r' w' hui (by rw[hsame hupi];exact hs) ?_;rw[hsv,hsame hupi];exact hv
 refine wpIn_region_any hm ?_;rw[hn];have hrep0:∀i,(Array.replicate l.length false).getD i false=false:=fun i=>by simp only[xf5,Array.getElem?_replicate];split<;>rfl
 refine walk l.length (Array.replicate l.length false) a _ Ωg ?_ ?_ ?_
 ·intro j o ho hS;simp only[hrep0]at hS;cases hS
 ·have key:∀n,cnt (fun i=>(Array.replicate l.length false).getD i false) n=n:=by
   intro n
   induction n with
   |zero=>rfl
   |succ n ihn=>
    simp only[cnt,ihn];rw[if_neg (by rw[hrep0];simp)]
  exact key _
 ·have hN:NS st.nid l.length (fun i=>(Array.replicate l.length false).getD i false)=(· < st.nid):=by
   funext x;simp only[NS,eq_iff_iff];constructor
   ·rintro(h|⟨j,_,h2,_⟩)
    ·exact h
    ·rw[hrep0]at h2;cases h2
   ·exact .inl
  have hU:UH up (fun i=>(Array.replicate l.length false).getD i false) H l.length=H:=by
   rw[ZY (i:=0) (xb6 _) fun j _ _ _=>hrep0 j];rfl
  have hdrew:Below w.heap.size w { w with drawn:=w.drawn+1 }:=⟨rfl,rfl,rfl,xa5 _,fun _ _=>rfl⟩;have hst:=h0.sat.grow hdrew;unfold qlA;rw[hN,hU];have hs2:=hst.sat.fewer (hp':=H) fun x y hy hx=>by
   rw[←hH]at hy;rcases ZX hy with h|⟨j,_,_,e⟩
   ·exact h
   ·omega
  refine⟨fun j _ hS=>absurd hS (by dsimp only;rw[hrep0];simp),r0,hs2.sat,fun t=>?_,h0.size,((Ext.mk h0.out h0.rfix h0.defers).step0 hst (fun i hi=>xa9 hi h0.lo)).step0 hs2 (fun i hi=>xa9 hi h0.lo)⟩;have e:FS (nth (dsts l)) res (fun i=>(Array.replicate l.length false).getD i false) (look st.fr) l.length t=look st.fr t:=by
   have:=wl (dst:=nth (dsts l)) (res:=res) (S:=fun i=>(Array.replicate l.length false).getD i false) (F:=look st.fr) (i:=0) (t:=t) (xb6 l.length) (fun j hj _=>by rw[hrep0];simp);exact this
  rw[e];exact hs2.rep (hst.rep (h0.fr t))
end
end Go.Sx
end
section
namespace Go.Sx
open Go.RowKit
inductive Ex:Type
 |normal
 |exit (id:Nat)
 |ret
def Vd:Ex→Exit
 |.normal=>.normal
 |.exit id=>.exit id
 |.ret=>.ret
def Weak(O:Ctx)(st st':St):Prop:=∀(base:World)(okc:Nat→Prop)(ns:Nat)(outs:gD)(a:Act)(w:World),Inv O base okc ns st.nid outs st a w→Inv O base okc ns st'.nid outs st' a w
def ZF(K:Ex→St→Prop)(n:St→Prop):Ex→St→Prop
 |.normal,st=>n st
 |.exit id,st=>K (.exit id) st
 |.ret,st=>K .ret st
def yM(id:Nat)(K:Ex→St→Prop):Ex→St→Prop
 |.normal,st=>K .normal st
 |.exit i,st=>if i=id then K .normal st else K (.exit i) st
 |.ret,st=>K .ret st
def qab(O:Ctx)(body:St→(Ex→St→Prop)→Prop)(st:St)(K:Ex→St→Prop):Prop:=
 ∃(α:Type)(inv:α→St)(μ:α→Nat)(x0:α),Weak O st (inv x0)∧∀x,body (inv x) (ZF K fun st'=>∃y,μ y<μ x∧Weak O st' (inv y))
def qD(far:Nat→List (Nat×Nat))(ns:Nat):Code→Bool
 |.skip=>true
 |.label _=>true
 |.seq a b=>qD far ns a&&qD far ns b
 |.cond _ t e=>qD far ns t&&qD far ns e
 |.block _ c=>qD far ns c
 |.exit _=>true
 |.ret=>true
 |.region id ops d=>ops.toList.all (kL ns)&&(!d || J6 ops.toList || J9 (far id) ops.toList || g8 (far id))
 |.loop c=>qD far ns c
 |.scope c=>qD far ns c
 |.rangeFunc _ ps a b=>qD far ns a&&qD far ns b&&ps.toList.all (fun t=>decide (t<ns))
 |_=>false
abbrev KR(ns:Nat)(c:Code):Bool:=qD jc ns c
def ws(P:Program)(O:Ctx)(c:Code)(st:St)(K:Ex→St→Prop):Prop:=
 ∀(base:World)(okc:Nat→Prop)(ns:Nat)(outs:gD)(a:Act)(w:World)(ro:Option Nat)(Q:Exit→Act→World→Prop),O.rnd=ro.isSome→qD O.far ns c=true→Inv O base okc ns st.nid outs st a w→(∀e st' a' w',K e st'→Inv O base okc ns st'.nid outs st' a' w'→Q (Vd e) a' w')→c.wpIn (FR ro) 0 P Q a w
def KS(P:Program)(v:SV)(A B:Prop):Prop:=
 match v with
 |.val (.bool b)=>SplitVC b A B
 |_=>False
def vc(P:Program)(O:Ctx):Code→St→(Ex→St→Prop)→Prop
 |.skip,st,K=>K .normal st
 |.label _,st,K=>K .normal st
 |.seq a b,st,K=>vc P O a st (ZF K fun st'=>vc P O b st' K)
 |.cond c t e,st,K=>KS P (env (look st.fr) c) (vc P O t st K) (vc P O e st K)
 |.block id c,st,K=>vc P O c st (yM id K)
 |.exit id,st,K=>K (.exit id) st
 |.ret,st,K=>K .ret st
 |.region id ops d,st,K=>if g8 (O.far id)=true then ws P O (.region id ops d) st K else qZ P O (kD d ops.toList=true) (dsts ops.toList) ops.toList 0 st (fun st'=>FarVC (O.far id) st' (K .normal { st' with nid:=st'.nid+ops.toList.length }))
 |.loop c,st,K=>qab O (vc P O c) st K∨ws P O (.loop c) st K
 |.scope c,st,K=>vc P O c st K
 |.rangeFunc a b c d,st,K=>ws P O (.rangeFunc a b c d) st K
 |_,_,_=>False
theorem Wq{P:Program}{ro:Option Nat}{α:Type}{c:Code}{Q:Exit→Act→World→Prop}(I:α→Act→World→Prop)(μ:α→Nat)(round:∀x a w,I x a w→c.wpIn (FR ro) 0 P (Exit.then (fun a' w'=>∃y,μ y<μ x∧I y a' w') Q) a w)
  {x0:α} {a:Act} {w:World} (h0:I x0 a w):(Code.loop c).wpIn (FR ro) 0 P Q a w:=by
 intro b k cs hro hb hr;have key:∀n x a w,μ x=n→I x a w→∃e a' w',Q e a' w'∧ArrivesIn (Machine.fenced P (FR ro)) P (lone (b.atR a (.code c :: .inLoop c :: k)) cs w) b k cs e a' w':=by
  intro n
  induction n using Nat.strongRecOn with
  |_ n ih=>
   intro x a w hn hI;obtain⟨e,a₁,w₁,hq,harr⟩:=round x a w hI b (.inLoop c :: k) cs hro hb hr;cases e with
   |normal=>
    obtain⟨y,hlt,hy⟩:=hq;obtain⟨e₂,a₂,w₂,hq₂,harr₂⟩:=ih (μ y) (hn▸hlt) y a₁ w₁ rfl hy;exact⟨e₂,a₂,w₂,hq₂,.of_steps (StepsIn.trans harr (.one (fenced_calm hb hr rfl) stepR_inLoop)) harr₂⟩
   |exit id=>exact⟨_,a₁,w₁,hq,.pass (x:=.inLoop c) rfl (fun _ _=>.inl Ωg) harr⟩
   |goto l=>exact⟨_,a₁,w₁,hq,.pass (x:=.inLoop c) rfl (fun _ _=>.inl Ωg) harr⟩
   |ret=>exact⟨_,a₁,w₁,hq,.pass (x:=.inLoop c) rfl (fun _ _=>.inl Ωg) harr⟩
   |panic ch=>exact⟨_,a₁,w₁,hq,.pass (x:=.inLoop c) rfl (fun _ _=>.inl Ωg) harr⟩
   |outgrown=>exact⟨_,a₁,w₁,hq,.pass (x:=.inLoop c) rfl (fun _ _=>.inl Ωg) harr⟩
 obtain⟨e,a',w',hq,harr⟩:=key _ x0 a w rfl h0;exact⟨e,a',w',hq,.of_steps (.one (fenced_calm hb hr rfl) stepR_loop) harr⟩
theorem Wr{P:Program}{b:Frame}{a:Act}{k:List Item}{cs:List Frame}{w:World}{c:Code}:step P (lone (b.atR a (.code (.scope c) :: k)) cs w)=.next (lone (b.atR a (.code c :: .inScope c :: k)) cs w):=
 step_lone_go (by simp[stepG,stepG.exec,Frame.atR])
theorem GQ{P:Program}{b:Frame}{a:Act}{k:List Item}{cs:List Frame}{w:World}{c:Code}:step P (lone (b.atR a (.inScope c :: k)) cs w)=.next (lone (b.atR a k) cs w):=
 step_lone_go (by simp[stepG,stepG.exec,Frame.atR])
theorem ym{P:Program}{ro:Option Nat}{c:Code}{Q:Exit→Act→World→Prop}{a:Act}{w:World}(h:c.wpIn (FR ro) 0 P (Exit.noGoto Q) a w):(Code.scope c).wpIn (FR ro) 0 P Q a w:=by
 intro b k cs hro hb hr;have s1:=(StepsIn.one (I:=Machine.fenced P (FR ro)) (fenced_calm (fr:=b.atR a (.code (.scope c) :: k)) hb hr rfl) (Wr (P:=P) (b:=b) (a:=a) (k:=k) (cs:=cs) (w:=w) (c:=c)));obtain⟨e,a₁,w₁,hq,harr⟩:=h b (.inScope c :: k) cs hro hb hr;cases e with
 |normal=>exact⟨.normal,a₁,w₁,hq,StepsIn.trans s1 (StepsIn.trans harr (.one (fenced_calm hb hr rfl) GQ))⟩
 |exit id=>exact⟨.exit id,a₁,w₁,hq,fun k' hk=>s1.trans (harr.1 k' (by simp[exitTo,hk])),fun h1 h2=>let ⟨k1,h3,h4⟩:=harr.2 h1 (by simp[exitTo,h2]);⟨k1,h3,s1.trans h4⟩⟩
 |goto l=>exact hq.elim
 |ret=>exact⟨_,a₁,w₁,hq,.of_steps s1 harr⟩
 |panic ch=>exact⟨_,a₁,w₁,hq,.of_steps s1 harr⟩
 |outgrown=>exact⟨_,a₁,w₁,hq,.of_steps (b:=b) (k:=k) (cs:=cs) (e:=.outgrown) s1 harr⟩
section
variable{P:Program}{O:Ctx}{base:World}{okc:Nat→Prop}{ns:Nat}{outs:gD}
theorem Inv.nid{k:Nat}{st:St}{a:Act}{w:World}(h:Inv O base okc ns k outs st a w)(n:Nat):Inv O base okc ns k outs { st with nid:=n } a w:=by
 obtain⟨r,h⟩:=h;exact⟨r,h.nid n⟩
theorem yv(hm:P.follows .mixedOrders=true){ro:Option Nat}(hro:O.rnd=ro.isSome):∀(c:Code)(st:St)(K:Ex→St→Prop)(Q:Exit→Act→World→Prop)(a:Act)(w:World),qD O.far ns c=true→vc P O c st K→Inv O base okc ns st.nid outs st a w→
  (∀e st' a' w',K e st'→Inv O base okc ns st'.nid outs st' a' w'→Q (Vd e) a' w')→c.wpIn (FR ro) 0 P Q a w
 |.skip,st,K,Q,a,w,_,h,hi,hK=>wpIn_skip (hK .normal st a w h hi)
 |.label l,st,K,Q,a,w,_,h,hi,hK=>wpIn_label (hK .normal st a w h hi)
 |.ret,st,K,Q,a,w,_,h,hi,hK=>wpIn_ret (hK .ret st a w h hi)
 |.exit id,st,K,Q,a,w,_,h,hi,hK=>wpIn_exit (hK (.exit id) st a w h hi)
 |.seq x y,st,K,Q,a,w,hc,h,hi,hK=>by
  simp only[qD,xe6]at hc;refine wpIn_seq (yv hm hro x st _ _ a w hc.1 h hi fun e st' a' w' hk hi'=>?_);cases e with
  |normal=>exact yv hm hro y st' K Q a' w' hc.2 hk hi' hK
  |exit id=>exact hK (.exit id) st' a' w' hk hi'
  |ret=>exact hK .ret st' a' w' hk hi'
 |.cond c t e,st,K,Q,a,w,hc,h,hi,hK=>by
  simp only[qD,xe6]at hc;obtain⟨r,hr⟩:=hi;have he:=hr.env c;simp only[vc,KS]at h;split at h
  ·rename_i b hb
   rw[hb]at he;have:a.eval c=.bool b:=by generalize a.eval c=z at he;cases he;rfl
   exact wpIn_cond_split this (fun ht=>yv hm hro t st K Q a w hc.1 (h.1 ht) ⟨r,hr⟩ hK) (fun hf=>yv hm hro e st K Q a w hc.2 (h.2 hf) ⟨r,hr⟩ hK)
  ·exact h.elim
 |.block id c,st,K,Q,a,w,hc,h,hi,hK=>by
  refine wpIn_block (yv hm hro c st _ _ a w hc h hi fun e st' a' w' hk hi'=>?_);cases e with
  |normal=>exact hK .normal st' a' w' hk hi'
  |exit i=>
   simp only[yM]at hk;simp only[Vd,Exit.inBlock];split at hk
   ·rename_i e;rw[if_pos e];exact hK .normal st' a' w' hk hi'
   ·rename_i e;rw[if_neg e];exact hK (.exit i) st' a' w' hk hi'
  |ret=>exact hK .ret st' a' w' hk hi'
 |.scope c,st,K,Q,a,w,hc,h,hi,hK=>by
  refine ym (yv hm hro c st K _ a w hc h hi fun e st' a' w' hk hi'=>?_);cases e with
  |normal=>exact hK .normal st' a' w' hk hi'
  |exit i=>exact hK (.exit i) st' a' w' hk hi'
  |ret=>exact hK .ret st' a' w' hk hi'
 |.region id ops false,st,K,Q,a,w,hc,h,hi,hK=>by
  simp only[vc]at h;split at h
  ·exact h base okc ns outs a w ro Q hro hc hi hK
  simp only[qD,xe6]at hc;obtain⟨r,hr⟩:=hi;refine wpIn_region_list (Y6 ops.toList 0 st _ r a w (by simpa using hr) hc.1 h fun st' a' w' hk hi'=>?_);refine hK .normal _ a' w' (jB hk).1 ?_;rw[xb0]at hi';exact hi'.nid _
 |.region id ops true,st,K,Q,a,w,hc,h,hi,hK=>by
  simp only[vc]at h;split at h
  ·exact h base okc ns outs a w ro Q hro hc hi hK
  rename_i hnh;simp only[qD,xe6,Bool.not_true,xf4,xe8]at hc
  replace hc:=An hc.1 (hc.2.resolve_right hnh)
  have fin:∀(st':St)(a':Act)(w':World),K .normal { st' with nid:=st'.nid+ops.toList.length }→Inv O base okc ns (st'.nid+ops.toList.length) outs st' a' w'→Q .normal a' w':=fun st' a' w' hk hi'=>hK .normal _ a' w' hk (hi'.nid _);by_cases h1:J6 ops.toList=true
  ·exact qiQ hm h1 hc.1 hi h fun st' a' w' hk hi'=>fin st' a' w' (jB hk).1 hi'
  ·exact qff hm (hc.2.resolve_left h1) hc.1 hi h fin
 |.loop c,st,K,Q,a,w,hc,h,hi,hK=>by
  rcases h with h|h
  rotate_left
  ·exact h base okc ns outs a w ro Q hro hc hi hK
  obtain⟨α,inv,μ,x0,hw,hround⟩:=h;refine Wq (fun x a w=>Inv O base okc ns (inv x).nid outs (inv x) a w) μ (fun x a w hx=>?_) (x0:=x0) (hw _ _ _ _ _ _ hi);refine yv hm hro c (inv x) _ _ a w hc (hround x) hx fun e st' a' w' hk hi'=>?_;cases e with
  |normal=>
   obtain⟨y,hy,hwy⟩:=hk;exact⟨y,hy,hwy _ _ _ _ _ _ hi'⟩
  |exit i=>exact hK (.exit i) st' a' w' hk hi'
  |ret=>exact hK .ret st' a' w' hk hi'
 |.rangeFunc _ _ _ _,st,K,Q,a,w,hc,h,hi,hK=>h base okc ns outs a w ro Q hro hc hi hK
 |.goto _,st,K,Q,a,w,_,h,hi,hK=>h.elim
 |.refuse _,st,K,Q,a,w,_,h,hi,hK=>h.elim
theorem kz{w:World}{D b:Nat}{x:Obj}(h:b≠D):(w.putObj D x).heap[b]? = w.heap[b]?:=World.putObj_heap_other h
theorem ZG{w:World}{D b o:Nat}{x:Obj}{ds:Option (List Deferred)}{v:Value}(hD:w.heap[D]? = some (.deferred ds))(h:w.cell? ⟨b,o,none⟩=some v):(w.putObj D x).cell? ⟨b,o,none⟩=some v:=by
 by_cases e:b=D
 ·subst e;simp[World.cell?,hD]at h
 ·rw[jR (kz e)];exact h
theorem Rep.putD{r:Nat→Option Nat}{N:Nat→Prop}{G G':Bool→Nat→Prop}{w:World}{D:Nat}{x:Obj}{ds:Option (List Deferred)}(hD:w.heap[D]? = some (.deferred ds))(hG:∀o b,G o b→G' o b){sv:SV}{v:Value}(h:Rep r N G w sv v):Rep r N G' (w.putObj D x) sv v:=by
 induction h with
 |top v=>exact .top v
 |val v=>exact .val v
 |agg l cs hl _ ih=>exact .agg l cs hl ih
 |tup l cs hl _ ih=>exact .tup l cs hl ih
 |fn f l m cs ds hl hm _ _ ih ih'=>exact .fn f l m cs ds hl hm ih ih'
 |ptr id off b h1 h2=>exact .ptr id off b h1 h2
 |elt id k i j b h1 h2=>exact .elt id k i j b h1 h2
 |ref o n row b off f hg hc _ ih=>exact .ref o n row b off f (hG _ _ hg) (fun j hj=>ZG hD (hc j hj)) ih
 |arrNil o full k row a cap hf=>exact .arrNil o full k row a cap hf
 |arr o full n k row b off cap f hg hf hcap hc _ ih=>exact .arr o full n k row b off cap f (hG _ _ hg) hf hcap (fun i j hi hj=>ZG hD (hc i j hi hj)) ih
 |vecNil id k h1 h2=>exact .vecNil id k h1 h2
 |vec id n k b cap cs t h1 h2 hb hsz hcap hm=>exact .vec id n k b cap cs t h1 h2 ((kz (fun e=>by subst e;rw[hD]at hb;cases hb)).trans hb) hsz hcap hm
 |mp id b h1 h2=>exact .mp id b h1 h2
 |asl id off n k b cap h1 h2 hcap=>exact .asl id off n k b cap h1 h2 hcap
 |queNil id off k a h1=>exact .queNil id off k a h1
 |que id off n k b cap cs t h1 h2 hb hsz hcap hm=>exact .que id off n k b cap cs t h1 h2 ((kz (fun e=>by subst e;rw[hD]at hb;cases hb)).trans hb) hsz hcap hm
 |cutNil id k h1 h2=>exact .cutNil id k h1 h2
 |cut id n k b h1 h2=>exact .cut id n k b h1 h2
 |cmp o fit dom get b es clock hg hb hm _ ih=>exact .cmp o fit dom get b es clock (hG _ _ hg) ((kz (fun e=>by subst e;rw[hD]at hb;cases hb)).trans hb) hm ih
 |yld id b h1 h2=>exact .yld id b h1 h2
theorem BlkRep.putD{r:Nat→Option Nat}{N:Nat→Prop}{G G':Bool→Nat→Prop}{w:World}{D:Nat}{x:Obj}{ds:Option (List Deferred)}(hD:w.heap[D]? = some (.deferred ds))(hG:∀o b,G o b→G' o b){ob:Option Nat}{b:Blk}(h:BlkRep r N G w ob b):BlkRep r N G' (w.putObj D x) ob b:=by
 have hne:∀{c:Nat}{y:Obj},w.heap[c]? = some y→(∀ds,y≠.deferred ds)→(w.putObj D x).heap[c]? = some y:=fun{c y} hc hy=>(kz (fun e=>by subst e;rw[hD]at hc;cases hc;exact hy _ rfl)).trans hc;cases h with
 |cells t l b cs hb' hl h=>exact .cells t l b cs (hne hb' Ωg) hl fun i sv hi=>(h i sv hi).putD hD hG
 |none t k row=>exact .none t k row
 |rows t k n row b cs hb' hl h=>exact .rows t k n row b cs (hne hb' Ωg) hl fun i j hi hj=>(h i j hi hj).putD hD hG
 |map fit dom get b es clock hb' hm ht h=>exact .map fit dom get b es clock (hne hb' Ωg) hm ht fun e he=>(h e he).putD hD hG
 |mapS fit dom get stamp b es clock hb' hm ht hst h=>exact .mapS fit dom get stamp b es clock (hne hb' Ωg) hm ht hst fun e he=>(h e he).putD hD hG
 |iter mid since seen last b m h1 h2 hb'=>exact .iter mid since seen last b m h1 h2 (hne hb' Ωg)
 |loop L s b hb'=>exact .loop L s b (hne hb' Ωg)
theorem Sat.putD{r:Nat→Option Nat}{N:Nat→Prop}{hp:List (Nat×Blk)}{w:World}(h:Sat base okc r N hp w){D:Nat}{x:Obj}{ds:Option (List Deferred)}(hD:w.heap[D]? = some (.deferred ds))(hG:Gd base okc r N hp w true D):Sat base okc r N hp (w.putObj D x):=by
 have hg:∀o b,Gd base okc r N hp w o b→Gd base okc r N hp (w.putObj D x) o b:=fun o b ⟨h1,h2,h3⟩=>⟨by rw[World.putObj_size];exact h1,h2,h3⟩;refine⟨h.below.trans ⟨rfl,rfl,rfl,by rw[World.putObj_size];exact xa5 _,fun k hk=>kz fun e=>?_⟩,fun id y hy hN=>(h.rep id y hy hN).putD hD hg,h.own,h.inj⟩;have:=hG.2.2;simp only[if_true]at this;omega
def Zg(w:World):List Nat→World
 |[]=>w
 |D :: Ds=>Zg (w.putObj D (.deferred none)) Ds
theorem KT{F:Fence}{fn:Func}{tmps:Array Value}{R:Ending→World→Prop}:∀(Ds:List Nat)(w:World),Ds.Nodup→(∀D∈Ds,w.heap[D]? = some (.deferred (some [])))→
  (∃v,(results fn tmps).run P (Zg w Ds)=.ok v (Zg w Ds)∧R (.returned v) (Zg w Ds))→LeavesInM F 0 P fn tmps R (Ds.map yJ) .returning w
 |[],w,_,_,h=>h
 |D :: Ds,w,hn,hd,h=>by
  refine⟨Ωg,.inl ⟨D,_,rfl,run_takeDeferred (hd D Ωg),?_⟩⟩;refine KT Ds _ (List.nodup_cons.1 hn).2 (fun D' hD'=>?_) h;rw[World.putObj_heap_other (fun e=>by subst e;exact(List.nodup_cons.1 hn).1 hD')];exact hd D' (by simp[hD'])
theorem qfg{D D':Nat}(h:yJ D=yJ D'):D=D':=by
 unfold yJ at h;injection h with h1;injection h1
theorem Jj{r:Nat→Option Nat}{k:Nat}{st:St}:∀(Ds rest:List Nat)(a:Act)(w:World),InvR O base okc ns k r outs st a w→a.defers=Ds.map yJ→(Ds++rest).Nodup→(outs.as.map (·.defers)).flatten=rest.map yJ→
  (∀D∈Ds++rest,Gd base okc r (· < k) st.hp w true D∧w.heap[D]? = some (.deferred (some [])))→InvR O base okc ns k r outs st { a with defers:=[] } (Zg w Ds)
 |[],rest,a,w,h,hd,hn,ho,hG=>by
  have:({ a with defers:=[] }:Act)=a:=by cases a;simp at hd;subst hd;rfl
  rw[this];exact h
 |D :: Ds,rest,a,w,h,hd,hn,ho,hG=>by
  simp only[List.cons_append,List.nodup_cons]at hn;obtain⟨g1,g2⟩:=hG D Ωg;have hg:∀o b,Gd base okc r (· < k) st.hp w o b→Gd base okc r (· < k) st.hp (w.putObj D (.deferred none)) o b:=fun o b ⟨h1,h2,h3⟩=>⟨by rw[World.putObj_size];exact h1,h2,h3⟩;have hrest:∀D'∈Ds++rest,Gd base okc r (· < k) st.hp (w.putObj D (.deferred none)) true D'∧(w.putObj D (.deferred none)).heap[D']? = some (.deferred (some [])):=fun D' hD'=>by
   obtain⟨h1,h2⟩:=hG D' (by simp at hD' ⊢;exact .inr hD');refine⟨hg _ _ h1,(World.putObj_heap_other fun e=>?_).trans h2⟩;subst e;exact hn.1 hD'
  refine Jj Ds rest { a with defers:=Ds.map yJ } (w.putObj D (.deferred none)) ⟨h.sat.putD g2 g1,h.keys,fun i=>(h.fr i).putD g2 hg,h.size,h.lo,h.out.mono (xa5 _) fun n hn sv v hv=>hv.putD g2 hg,h.rfix,⟨Ds++rest,?_,hn.2,hrest⟩⟩ rfl hn.2 ho hrest;simp[KB,ho]
theorem Ws{r:Nat→Option Nat}{k:Nat}{st:St}{a:Act}{w:World}(h:InvR O base okc ns k r outs st a w) :
  ∃Ds,a.defers=Ds.map yJ∧Ds.Nodup∧(∀D∈Ds,w.heap[D]? = some (.deferred (some [])))∧InvR O base okc ns k r outs st { a with defers:=[] } (Zg w Ds):=by
 obtain⟨Ds,h1,h2,h3⟩:=h.defers;unfold KB at h1;obtain⟨l1,l2,rfl,e1,e2⟩:=List.append_eq_map_iff.1 h1;exact⟨l1,e1.symm,(List.nodup_append.1 h2).1,fun D hD=>(h3 D (by simp[hD])).2,Jj l1 l2 a w h e1.symm h2 e2.symm h3⟩
mutual
def Old:SV→Prop
 |.top=>True
 |.val _=>True
 |.agg l=>OldL l
 |.tup l=>OldL l
 |.fn _ a b=>OldL a∧OldL b
 |.ref o n row=>o=false∧∀j,j<n→Old (row j)
 |.arr o _ n k row=>o=false∧∀i j,i<n→j<k→Old (row i j)
 |.cmp o _ dom get=>o=false∧∀key,dom key=true→Old (get key)
 |_=>False
def OldL:List SV→Prop
 |[]=>True
 |a :: l=>Old a∧OldL l
end
theorem jZ:∀{l:List SV},OldL l→∀(i:Nat)(a:SV),l[i]? = some a→Old a
 |[],_,i,a,h=>by simp at h
 |b :: l,hf,i,a,h=>by
  simp only[OldL]at hf;cases i with
  |zero=>simp at h;subst h;exact hf.1
  |succ i=>exact jZ hf.2 i a Ω5
theorem qiR{r:Nat→Option Nat}{N:Nat→Prop}{G G':Bool→Nat→Prop}{w:World}(hG:∀b,G false b→G' false b){p:SV}{v:Value}(h:Rep noR noN G w p v)(hf:Old p):Rep r N G' w p v:=by
 induction h with
 |top v=>exact .top v
 |val v=>exact .val v
 |agg l cs hl _ ih=>exact .agg l cs hl fun i sv hi=>ih i sv hi (jZ (by simpa only[Old]using hf) i sv hi)
 |tup l cs hl _ ih=>exact .tup l cs hl fun i sv hi=>ih i sv hi (jZ (by simpa only[Old]using hf) i sv hi)
 |fn f l m cs ds hl hm _ _ ih ih'=>
  simp only[Old]at hf;exact .fn f l m cs ds hl hm (fun i sv hi=>ih i sv hi (jZ hf.1 i sv hi)) (fun i sv hi=>ih' i sv hi (jZ hf.2 i sv hi))
 |ref o n row b off f hg hc _ ih=>
  simp only[Old]at hf;obtain⟨rfl,hf⟩:=hf;exact .ref _ _ _ _ _ f (hG _ hg) hc fun j hj=>ih j hj (hf j hj)
 |arrNil o full k row a cap hfc=>exact .arrNil _ _ _ _ _ _ hfc
 |arr o full n k row b off cap f hg hfc hcap hc _ ih=>
  simp only[Old]at hf;obtain⟨rfl,hf⟩:=hf;exact .arr _ _ _ _ _ _ _ _ f (hG _ hg) hfc hcap hc fun i j hi hj=>ih i j hi hj (hf i j hi hj)
 |cmp o fit dom get b es clock hg hb hm _ ih=>
  simp only[Old]at hf;obtain⟨rfl,hf⟩:=hf;exact .cmp _ _ _ _ b es clock (hG _ hg) hb hm fun e he=>ih e he (hf _ (hm.doms e he))
 |cutNil id k hN=>exact hN.elim
 |cut id n k b hN=>exact hN.elim
 |ptr id off b hN=>exact hN.elim
 |elt id k i j b hN=>exact hN.elim
 |vecNil id k hN=>exact hN.elim
 |vec id n k b cap cs t hN=>exact hN.elim
 |mp id b hN=>exact hN.elim
 |asl id off n k b cap hN=>exact hN.elim
 |queNil id off k a hN=>exact hN.elim
 |que id off n k b cap cs t hN=>exact hN.elim
 |yld id b hN=>exact hN.elim
def argFr:Nat→List SV→List (Nat×SV)
 |_,[]=>[]
 |i,a :: l=>(i,a) :: argFr (i+1) l
theorem KU(l:List SV)(i t:Nat):look (argFr i l) t=if t<i then .top else l.getD (t - i) .top:=by
 induction l generalizing i with
 |nil=>simp[argFr,look]
 |cons a l ih=>
  simp only[argFr,look,ih];by_cases h:t=i
  ·subst h;simp
  ·rw[if_neg h]
   by_cases h':t<i
   ·rw[if_pos h',if_pos Ω]
   ·rw[if_neg h',if_neg Ω]
    have:t - i=(t -(i+1))+1:=by omega
    rw[this];rfl
def resultVC(P:Program)(rv:ResultVar)(st:St)(K:SV→Prop):Prop:=
 match rv with
 |.tmp t=>K (look st.fr t)
 |.cell t ty=>match rLoad (qn P ty) st.hp (look st.fr t)with
  |.pure obl sv=>obl∧K sv
  |.ex obl=>∃sv,obl sv∧K sv
  |_=>False
def resultsVC(P:Program):List ResultVar→St→(List SV→Prop)→Prop
 |[],st,K=>K []
 |rv :: l,st,K=>resultVC P rv st fun s=>resultsVC P l st fun m=>K (s :: m)
def retVC(P:Program)(rs:List ResultVar)(st:St)(res:SV):Prop:=
 resultsVC P rs st fun m=>match m with
  |[s]=>Sub st.hp res s
  |m=>Sub st.hp res (.tup m)
def wX(tmps:Array Value):ResultVar→Sem Value
 |.tmp t=>pure (tmps.getD t undef)
 |.cell a t=>do loadVar t (←asAddr (tmps.getD a undef))
def Jk:List Value→Value
 |[v]=>v
 |l=>.tuple l.toArray
theorem Wt(fn:Func)(tmps:Array Value)(w:World)(vs:List Value)(h:(fn.results.toList.mapM (wX tmps)).run P w=.ok vs w) :
  (results fn tmps).run P w=.ok (Jk vs) w:=by
 have e:results fn tmps=(do let vs ←fn.results.mapM (wX tmps);pure (if h:vs.size=1 then vs[0]else .tuple vs)):=by
  unfold results
  congr 1
 rw[e,Array.mapM_eq_mapM_toList];simp only[Sem.run_bind,Sem.run_map,h,Result.andThen_ok,Sem.run_pure]
 match vs with
 |[]=>rfl
 |[v]=>rfl
 |v :: u :: l=>simp[Jk]
theorem yw{t:TypeId}{v u:Value}{w:World}(h:(Instr.loadAt t v).run P w=.ok u w):(do loadVar t (←asAddr v)).run P w=.ok u w:=by
 cases v with
 |pointer a=>
  cases a with
  |none=>simp[Instr.loadAt,Instr.sureAddr]at h
  |some a=>exact h
 |_=>simp[Instr.loadAt,Instr.sureAddr]at h
theorem KV{st:St}{a:Act}{w:World}{r:Nat→Option Nat}{k:Nat}(hi:InvR O base okc ns k r outs st a w):∀(rs:List ResultVar)(K:List SV→Prop),resultsVC P rs st K→
  ∃m vs,K m∧(rs.mapM (wX a.tmps)).run P w=.ok vs w∧m.length=vs.length∧∀i sv,m[i]? = some sv→Rep r (· < k) (Gd base okc r (· < k) st.hp w) w sv (vs.getD i undef)
 |[],K,h=>⟨[],[],h,rfl,rfl,fun i sv hi=>by simp at hi⟩
 |rv :: rs,K,h=>by
  have one:∃s v,resultsVC P rs st (fun m=>K (s :: m))∧(wX a.tmps rv).run P w=.ok v w∧Rep r (· < k) (Gd base okc r (· < k) st.hp w) w s v:=by
   cases rv with
   |tmp t=>exact⟨_,_,h,rfl,hi.fr t⟩
   |cell t ty=>
    have hg:=run_load (P:=P) (t:=ty) hi.sat.ok (hi.fr t);simp only[resultsVC,resultVC]at h;generalize rLoad (qn P ty) st.hp (look st.fr t)=res at h hg;cases res with
    |pure obl sv=>
     obtain⟨v,hv,hrep⟩:=hg h.1;exact⟨sv,v,h.2,yw hv,hrep⟩
    |ex obl=>
     obtain⟨sv,ho,h⟩:=h;obtain⟨v,hv,hrep⟩:=hg sv ho;exact⟨sv,v,h,yw hv,hrep⟩
    |_=>exact h.elim
  obtain⟨s,v,hk,hv,hrep⟩:=one;obtain⟨m,vs,hK,hrun,hlen,hreps⟩:=KV hi rs _ hk;refine⟨s :: m,v :: vs,hK,?_,by simp[hlen],fun i sv hi=>?_⟩
  ·simp only[List.mapM_cons,Sem.run_bind,hv,hrun,Result.andThen_ok,Sem.run_pure]
  ·cases i with
   |zero=>simp at hi;subst hi;exact hrep
   |succ i=>simpa using hreps i sv Ω8
theorem gU(hm:P.follows .mixedOrders=true){f:FuncId}{fn:Func}{c:Code}(hf:P.funcs[f]? = some fn)(hb:fn.body=some c)(hok:qD O.far fn.ntmps c=true)(hO:O.rnd=false){vs:Array Value}{w:World}{st0:St}{Post:St→List SV→Prop}{R:Ending→World→Prop}
  (h0:Inv O base okc fn.ntmps st0.nid outs st0 { tmps:=vs++Array.replicate (fn.ntmps - vs.size) undef,defers:=[] } w)
  (h:vc P O c st0 (fun e st=>match e with|.exit _=>False|_=>resultsVC P fn.results.toList st (Post st)))
  (hR:∀(st:St)(r:Nat→Option Nat)(a:Act)(w':World)(m:List SV)(us:List Value),Post st m→InvR O base okc fn.ntmps st.nid r outs st a w'→m.length=us.length→
   (∀i sv,m[i]? = some sv→Rep r (· < st.nid) (Gd base okc r (· < st.nid) st.hp w') w' sv (us.getD i undef))→R (.returned (Jk us)) w'):Calls P f vs w R:=by
 refine(callsIn_wide (n:=0)).1 (callsIn_of_wp_marks (F:=FR none) hf hb trivial ?_);refine yv hm (ro:=none) (by rw[hO];rfl) c st0 _ _ _ _ hok h h0 fun e st' a' w' hk hi=>?_;have fin:resultsVC P fn.results.toList st' (Post st')→LeavesInM (FR none) 0 P fn a'.tmps R a'.defers .returning w':=by
  intro hr;obtain⟨r,hi⟩:=hi;obtain⟨Ds,hd,hnd,hDs,hi2⟩:=Ws hi;rw[hd];obtain⟨m,us,hK,hrun,hlen,hreps⟩:=KV hi2 _ _ hr;exact KT Ds w' hnd hDs ⟨_,Wt fn a'.tmps _ us hrun,hR _ _ _ _ m us hK hi2 hlen hreps⟩
 cases e with
 |normal=>exact fin hk
 |exit i=>exact hk.elim
 |ret=>exact fin hk
theorem ZZ{r:Nat→Option Nat}{N:Nat→Prop}{G:Bool→Nat→Prop}{w:World}{args:List SV}{vs:Array Value}{n:Nat}(hl:args.length=vs.size)(hn:vs.size≤n)(ha:∀i sv,args[i]? = some sv→Rep r N G w sv (vs.getD i undef))(i:Nat) :
  Rep r N G w (look (argFr 0 args) i) ((vs++Array.replicate (n - vs.size) undef).getD i undef):=by
 rw[KU];simp only[Nat.not_lt_zero,if_false,Nat.sub_zero];by_cases hlt:i<args.length
 ·have hi:args[i]? = some (args.getD i .top):=by simp[hlt]
  have e:(vs++Array.replicate (n - vs.size) undef).getD i undef=vs.getD i undef:=by
   simp only[xf5];rw[Array.getElem?_append_left Ω]
  rw[e];exact ha i _ hi
 ·have:args.getD i .top=.top:=by simp only[xc6];rw[List.getElem?_eq_none Ω];rfl
  rw[this];exact .top _
def oneSV:List SV→SV
 |[s]=>s
 |m=>.tup m
theorem wY{r:Nat→Option Nat}{N:Nat→Prop}{G:Bool→Nat→Prop}{w:World}{m:List SV}{us:List Value}(hl:m.length=us.length)(h:∀i sv,m[i]? = some sv→Rep r N G w sv (us.getD i undef)):Rep r N G w (oneSV m) (Jk us):=by
 match m,us,hl,h with
 |[s],[u],_,h=>simpa[oneSV,Jk]using h 0 s rfl
 |[],[],_,_=>exact .tup _ _ rfl fun i sv hi=>by simp at hi
 |s1 :: s2 :: m,u1 :: u2 :: us,hl,h=>exact .tup _ _ Ω7 fun i sv hi=>by simpa using h i sv hi
theorem KW(rs:List ResultVar)(st:St)(res:SV):retVC P rs st res=resultsVC P rs st (fun m=>Sub st.hp res (oneSV m)):=by
 unfold retVC;have:(fun(m:List SV)=>match m with|[s]=>Sub st.hp res s|m=>Sub st.hp res (.tup m))=fun m=>Sub st.hp res (oneSV m):=by
  funext m;match m with
  |[]=>rfl
  |[s]=>rfl
  |a :: b :: m=>rfl
 rw[←this]
abbrev C0F(far:Nat→List (Nat×Nat)):Ctx:=⟨[],0,false,far⟩
theorem qmX{far:Nat→List (Nat×Nat)}{w:World}{okc:Nat→Prop}{args:List SV}{vs:Array Value}{n:Nat}(hl:args.length=vs.size)(hn:args.length≤n)(hold:OldL args)(ha:∀i sv,args[i]? = some sv→Rep noR noN (fun _ b=>okc b∧b<w.heap.size) w sv (vs.getD i undef)) :
  Inv (C0F far) w okc n 0 ⟨[],noR⟩ { fr:=argFr 0 args,hp:=[],nid:=0 } { tmps:=vs++Array.replicate (n - vs.size) undef,defers:=[] } w:=by
 refine⟨noR,⟨Below.refl _ _,fun id x hx=>by simp[blk]at hx,fun id x b hx=>by simp[blk]at hx,fun id x id' x' b hx=>by simp[blk]at hx⟩,fun id x hx=>by simp[blk]at hx,
  ZZ hl Ω fun i sv hi=>?_,Ωl,xa5 _,trivial,fun id hid=>absurd hid (Nat.not_lt_zero _),⟨[],rfl,List.nodup_nil,fun D hD=>by simp at hD⟩⟩
 refine qiR (fun b hb=>⟨hb.2,fun id x hx=>by simp[blk]at hx,?_⟩) (ha i sv hi) (jZ hold i sv hi);simp only[xe7,if_false];exact .inl hb.1
theorem ji (far : Nat → List (Nat × Nat)) {f : FuncId} {fn : Func} {c : Code} (hf : P.funcs[f]? = some fn) (hb : fn.body = some c) (hname : (fn.name == "runtime.NumGoroutine") = false) (hm : P.follows .mixedOrders = true)
  (hok:qD far fn.ntmps c=true) (args:List SV) (res:SV) (hlen:args.length≤fn.ntmps) (hold:OldL args)
  (h:vc P ⟨[],0,false,far⟩ c { fr:=argFr 0 args,hp:=[],nid:=0 } (fun e st=>match e with|.exit _=>False|_=>retVC P fn.results.toList st res)):qf P f args res:=by
 refine⟨⟨fn,hf,hname,by rw[hb];rfl⟩,fun okc w vs hl ha=>gU hm hf hb hok (O:=C0F far) (st0:=⟨argFr 0 args,[],0⟩) rfl (Post:=fun st m=>Sub st.hp res (oneSV m)) (qmX hl hlen hold ha) ?_ fun st r a w' m us hP hi hml hreps=>?_⟩
 ·have e:(fun(e:Ex)(st:St)=>match e with|.exit _=>False|_=>retVC P fn.results.toList st res)=fun e st=>match e with|.exit _=>False|_=>resultsVC P fn.results.toList st (fun m=>Sub st.hp res (oneSV m)):=by
   funext e st;cases e<;>first|rfl|exact KW _ _ _
  rw[e]at h;exact h
 ·refine⟨_,rfl,hi.sat.below,zj (fun o o' b ho hg=>⟨hg.1,by
   have:=hg.2.2;cases o<;>cases o'<;>simp_all⟩) (fun id x hx hN=>⟨hi.sat.rep id x hx hN,fun b hb o=>⟨hi.sat.lt hx hN hb,by
   have:=hi.sat.own id x b hx hN hb;cases o<;>simp[this]⟩⟩) res _ _ hP (wY hml hreps)⟩
theorem qg {f : FuncId} {fn : Func} {c : Code} (hf : P.funcs[f]? = some fn) (hb : fn.body = some c) (hname : (fn.name == "runtime.NumGoroutine") = false) (hm : P.follows .mixedOrders = true)
  (hok:KR fn.ntmps c=true) (args:List SV) (res:SV) (hlen:args.length≤fn.ntmps) (hold:OldL args)
  (h:vc P ⟨[],0,false,jc⟩ c { fr:=argFr 0 args,hp:=[],nid:=0 } (fun e st=>match e with|.exit _=>False|_=>retVC P fn.results.toList st res)):qf P f args res:=
 ji jc hf hb hname hm hok args res hlen hold h
end
end Go.Sx
end
section
namespace Go.Sx
open Go.RowKit
mutual
def SubO(hp:List (Nat×Blk))(j:Nat):SV→SV→Prop
 |.agg l,s=>match s with|.agg m=>SubOL hp j l m|_=>False
 |.tup l,s=>match s with|.tup m=>SubOL hp j l m|_=>False
 |.ptr i off,s=>match s with|.ptr id2 off2=>i=0∧id2=j∧off=off2|_=>False
 |.vec i n k,s=>match s with|.vec id2 n2 k2=>i=0∧id2=j∧n=n2∧k=k2|_=>False
 |.mp i,s=>match s with|.mp id2=>i=0∧id2=j|_=>False
 |.fn _ _ _,_=>False
 |.elt _ _ _ _,_=>False
 |.asl _ _ _ _,_=>False
 |.que _ _ _ _,_=>False
 |.cut _ _ _,_=>False
 |.yld _,_=>False
 |.top,s=>Sub (dropBlk hp j) .top s
 |.val v,s=>Sub (dropBlk hp j) (.val v) s
 |.ref o n row,s=>Sub (dropBlk hp j) (.ref o n row) s
 |.arr o full n k row,s=>Sub (dropBlk hp j) (.arr o full n k row) s
 |.cmp o fit dom get,s=>Sub (dropBlk hp j) (.cmp o fit dom get) s
def SubOL(hp:List (Nat×Blk))(j:Nat):List SV→List SV→Prop
 |[],m=>m=[]
 |a :: l,m=>match m with|b :: m=>SubO hp j a b∧SubOL hp j l m|[]=>False
end
def SubB(hp:List (Nat×Blk)):Blk→Blk→Prop
 |.cells t l,.cells t2 l2=>t=t2∧SubL hp l l2
 |.rows t k n row,.rows t2 k2 n2 row2=>t=t2∧k=k2∧n≤n2∧∀i j,i<n→j<k→Sub hp (row i j) (row2 i j)
 |.map fit dom get,.map fit2 dom2 get2=>fit=fit2∧dom=dom2∧∀key,dom key=true→Sub hp (get key) (get2 key)
 |.map fit dom get,.mapS fit2 dom2 get2 _ _=>fit=fit2∧dom=dom2∧∀key,dom key=true→Sub hp (get key) (get2 key)
 |_,_=>False
def ZH(hp:List (Nat×Blk))(b:Blk)(res:SV)(s:SV):Prop:=
 ∃j b',blk hp j=some b'∧SubB (dropBlk hp j) b b'∧SubO hp j res s
def retNVC(P:Program)(rs:List ResultVar)(st:St)(b:Blk)(res:SV):Prop:=
 resultsVC P rs st fun m=>match m with
  |[s]=>ZH st.hp b res s
  |m=>ZH st.hp b res (.tup m)
section
variable{r:Nat→Option Nat}{N:Nat→Prop}{G G':Bool→Nat→Prop}{w:World}{hp:List (Nat×Blk)}{j:Nat}
mutual
theorem Wu(hG:∀o o' b,(o=true→o'=true)→G o' b→G' o b)(hB:∀id x,blk (dropBlk hp j) id=some x→N id→BlkRep r N G w (r id) x∧∀b,r id=some b→∀o,G' o b) :
  ∀(p s:SV)(v:Value),SubO hp j p s→Rep r N G w s v→Rep (yF (r j)) J2 G' w p v
 |.agg l,s,v,h,hv=>by
  cases s<;>simp only[SubO]at h
  cases hv with
  |agg m cs hl hr=>
   obtain⟨h1,h2⟩:=subO_repL hG hB l _ cs h hl hr;exact .agg _ _ h1 h2
 |.tup l,s,v,h,hv=>by
  cases s<;>simp only[SubO]at h
  cases hv with
  |tup m cs hl hr=>
   obtain⟨h1,h2⟩:=subO_repL hG hB l _ cs h hl hr;exact .tup _ _ h1 h2
 |.ptr i off,s,v,h,hv=>by
  cases s<;>simp only[SubO]at h
  obtain⟨rfl,rfl,rfl⟩:=h;cases hv with
  |ptr _ _ b hN hr=>exact .ptr _ _ b rfl (by simp[yF,hr])
 |.vec i n k,s,v,h,hv=>by
  cases s<;>simp only[SubO]at h
  obtain⟨rfl,rfl,rfl,rfl⟩:=h;cases hv with
  |vecNil _ _ hN hr=>exact .vecNil _ _ rfl (by simp[yF,hr])
  |vec _ _ _ b cap cs t hN hr hb hs hcap hm=>exact .vec _ _ _ b cap cs t rfl (by simp[yF,hr]) hb hs hcap hm
 |.mp i,s,v,h,hv=>by
  cases s<;>simp only[SubO]at h
  obtain⟨rfl,rfl⟩:=h;cases hv with
  |mp _ b hN hr=>exact .mp _ b rfl (by simp[yF,hr])
 |.fn _ _ _,s,v,h,hv=>by simp[SubO]at h
 |.elt _ _ _ _,s,v,h,hv=>by simp[SubO]at h
 |.asl _ _ _ _,s,v,h,hv=>by simp[SubO]at h
 |.que _ _ _ _,s,v,h,hv=>by simp[SubO]at h
 |.cut _ _ _,s,v,h,hv=>by simp[SubO]at h
 |.yld _,s,v,h,hv=>by simp[SubO]at h
 |.top,s,v,h,hv=>.top v
 |.val u,s,v,h,hv=>zV (fun _ _ h=>h) (zj hG hB _ s v h hv)
 |.ref o n row,s,v,h,hv=>zV (fun _ _ h=>h) (zj hG hB _ s v h hv)
 |.arr o full n k row,s,v,h,hv=>zV (fun _ _ h=>h) (zj hG hB _ s v h hv)
 |.cmp o fit dom get,s,v,h,hv=>zV (fun _ _ h=>h) (zj hG hB _ s v h hv)
theorem subO_repL(hG:∀o o' b,(o=true→o'=true)→G o' b→G' o b)(hB:∀id x,blk (dropBlk hp j) id=some x→N id→BlkRep r N G w (r id) x∧∀b,r id=some b→∀o,G' o b) :
  ∀(l m:List SV)(cs:Array Value),SubOL hp j l m→m.length=cs.size→(∀i sv,m[i]? = some sv→Rep r N G w sv (cs.getD i undef))→l.length=cs.size∧∀(i:Nat)(a:SV),l[i]? = some a→Rep (yF (r j)) J2 G' w a (cs.getD i undef)
 |[],m,cs,h,hl,hr=>by simp only[SubOL]at h;subst h;exact⟨hl,fun i a ha=>by simp at ha⟩
 |p :: l,m,cs,h,hl,hr=>by
  cases m with
  |nil=>simp[SubOL]at h
  |cons b m=>
   simp only[SubOL]at h;have hcs:∀i,(cs.extract 1 cs.size).getD i undef=cs.getD (i+1) undef:=fun i=>by
    simp only[xf5,Array.getElem?_extract];by_cases hh:i<min cs.size cs.size - 1
    ·rw[if_pos hh,xc5]
    ·rw[if_neg hh,Array.getElem?_eq_none Ω]
   obtain⟨h1,h2⟩:=subO_repL hG hB l m (cs.extract 1 cs.size) h.2 (by simp at hl ⊢;omega) (fun i sv hi=>by
    rw[hcs];exact hr (i+1) sv Ω8)
   refine⟨(by simp at h1 hl ⊢;omega),fun i a ha=>?_⟩;cases i with
   |zero=>simp at ha;subst ha;exact Wu hG hB p b _ h.1 (hr 0 b Ωg)
   |succ i=>
    have:=h2 i a (by simpa using ha)
    rwa [hcs]at this
end
theorem qfh(hG:∀o o' b,(o=true→o'=true)→G o' b→G' o b)(hB:∀id x,blk (dropBlk hp j) id=some x→N id→BlkRep r N G w (r id) x∧∀b,r id=some b→∀o,G' o b)
  {ob:Option Nat} {b b':Blk} (hs:SubB (dropBlk hp j) b b') (h:BlkRep r N G w ob b'):BlkRep (yF ob) J2 G' w ob b:=by
 cases h with
 |cells t l x cs hb hl hr=>
  cases b<;>simp only[SubB]at hs
  obtain⟨rfl,hs⟩:=hs;exact .cells _ _ x cs hb ((kf hs).1.trans hl) fun i a ha=>zV (fun _ _ h=>h) (sub_repL hG hB _ _ cs hs hl hr i a ha)
 |none t k row=>
  cases b<;>simp only[SubB]at hs
  obtain⟨rfl,rfl,hn,hs⟩:=hs;have hn0:=Nat.le_zero.1 hn;subst hn0;exact .none _ _ _
 |rows t k n row x cs hb hl hr=>
  cases b<;>simp only[SubB]at hs
  obtain⟨rfl,rfl,hn,hs⟩:=hs;exact .rows _ _ _ _ x cs hb (xc1 (xa8 _ hn) hl) fun i j hi hj=>zV (fun _ _ h=>h) (zj hG hB _ _ _ (hs i j hi hj) (hr i j Ω hj))
 |mapS fit dom get stamp x es _ hb hm ht hst hr=>
  cases b<;>simp only[SubB]at hs
  obtain⟨rfl,rfl,hs⟩:=hs;exact .map _ _ _ x es _ hb hm ht fun e he=>zV (fun _ _ h=>h) (zj hG hB _ _ _ (hs _ (hm.doms e he)) (hr e he))
 |iter _ _ _ _ _ _ _=>cases b<;>simp only[SubB]at hs
 |loop _ _ _ _=>cases b<;>simp only[SubB]at hs
 |map fit dom get x es clock hb hm ht hr=>
  cases b<;>simp only[SubB]at hs
  obtain⟨rfl,rfl,hs⟩:=hs;exact .map _ _ _ x es clock hb hm ht fun e he=>zV (fun _ _ h=>h) (zj hG hB _ _ _ (hs _ (hm.doms e he)) (hr e he))
end
theorem qdA{P:Program}(rs:List ResultVar)(st:St)(b:Blk)(res:SV):retNVC P rs st b res=resultsVC P rs st (fun m=>ZH st.hp b res (oneSV m)):=by
 unfold retNVC;have:(fun(m:List SV)=>match m with|[s]=>ZH st.hp b res s|m=>ZH st.hp b res (.tup m))=fun m=>ZH st.hp b res (oneSV m):=by
  funext m;match m with
  |[]=>rfl
  |[s]=>rfl
  |a :: b :: m=>rfl
 rw[←this]
theorem GR (far : Nat → List (Nat × Nat)) {P : Program} {f : FuncId} {fn : Func} {c : Code} (hf : P.funcs[f]? = some fn) (hb : fn.body = some c) (hname : (fn.name == "runtime.NumGoroutine") = false) (hm : P.follows .mixedOrders = true)
  (hok:qD far fn.ntmps c=true) (args:List SV) (b:Blk) (res:SV) (hlen:args.length≤fn.ntmps) (hold:OldL args)
  (h:vc P ⟨[],0,false,far⟩ c { fr:=argFr 0 args,hp:=[],nid:=0 } (fun e st=>match e with|.exit _=>False|_=>retNVC P fn.results.toList st b res)):zp P f args b res:=by
 refine⟨⟨fn,hf,hname,by rw[hb];rfl⟩,fun okc w vs hl ha=>gU hm hf hb hok (O:=C0F far) (st0:=⟨argFr 0 args,[],0⟩) rfl (Post:=fun st m=>ZH st.hp b res (oneSV m)) (qmX hl hlen hold ha) ?_ fun st r a w' m us hP hi hml hreps=>?_⟩
 ·have e:(fun(e:Ex)(st:St)=>match e with|.exit _=>False|_=>retNVC P fn.results.toList st b res)=fun e st=>match e with|.exit _=>False|_=>resultsVC P fn.results.toList st (fun m=>ZH st.hp b res (oneSV m)):=by
   funext e st;cases e<;>first|rfl|exact qdA _ _ _ _
  rw[e]at h;exact h
 ·obtain⟨j,b',hj,hsb,hso⟩:=hP
  have hv:=wY hml hreps;have hNj:=hi.keys j b' hj;have hG:∀o o' c,(o=true→o'=true)→Gd w okc r (· < st.nid) st.hp w' o' c→(c<w'.heap.size∧r j≠some c∧if o=true then w.heap.size≤c else okc c∨w.heap.size≤c):=fun o o' c ho hg=>⟨hg.1,hg.2.1 j b' hj hNj,by
   have:=hg.2.2;cases o<;>cases o'<;>simp_all⟩
  have hB:∀id x,blk (dropBlk st.hp j) id=some x→id<st.nid→BlkRep r (· < st.nid) (Gd w okc r (· < st.nid) st.hp w') w' (r id) x∧∀c,r id=some c→∀o,(c<w'.heap.size∧r j≠some c∧if o=true then w.heap.size≤c else okc c∨w.heap.size≤c):=fun id x hx hN=>by
   rw[qv]at hx;split at hx
   ·cases hx
   ·rename_i hne
    refine⟨hi.sat.rep id x hx hN,fun c hc o=>⟨hi.sat.lt hx hN hc,fun e=>hne (hi.sat.inj _ _ _ _ _ hx hN hj hNj hc e),?_⟩⟩;have:=hi.sat.own id x c hx hN hc;cases o<;>simp[this]
  exact⟨_,r j,rfl,hi.sat.below,fun c hc=>hi.sat.own j b' c hj hNj hc,qfh hG hB hsb (hi.sat.rep j b' hj hNj),Wu hG hB res _ _ hso hv⟩
theorem jj {P : Program} {f : FuncId} {fn : Func} {c : Code} (hf : P.funcs[f]? = some fn) (hb : fn.body = some c) (hname : (fn.name == "runtime.NumGoroutine") = false) (hm : P.follows .mixedOrders = true)
  (hok:KR fn.ntmps c=true) (args:List SV) (b:Blk) (res:SV) (hlen:args.length≤fn.ntmps) (hold:OldL args)
  (h:vc P ⟨[],0,false,jc⟩ c { fr:=argFr 0 args,hp:=[],nid:=0 } (fun e st=>match e with|.exit _=>False|_=>retNVC P fn.results.toList st b res)):zp P f args b res:=
 GR jc hf hb hname hm hok args b res hlen hold h
end Go.Sx
end
section
namespace Go.Sx
open Go.RowKit
theorem OutOk.low{r r0:Nat→Option Nat}{lo lo0:Nat}{G G0:Bool→Nat→Prop}{w w0:World}:∀{fs:List Fr}{as as0:List Act},OutOk r lo G w fs as→OutOk r0 lo0 G0 w0 fs as0→OutOk r lo0 G w fs as
 |[],[],[],h,_=>h
 |f :: fs,a :: as,a0 :: as0,⟨h1,h2,h3,h4,h5⟩,⟨_,k2,_,_,k5⟩=>⟨h1,k2,h3,h4,OutOk.low h5 k5⟩
section
variable{P:Program}{O:Ctx}{base:World}{okc:Nat→Prop}{ns:Nat}{outs:gD}
theorem InvR.push{r:Nat→Option Nat}{k:Nat}{st:St}{a:Act}{w:World}(h:InvR O base okc ns k r outs st a w)(rcd:Option Loop)(hrc:∀L,rcd=some L→L.tmps=a.tmps)(rnd:Bool){fr:List (Nat×SV)}{a2:Act}{n2:Nat}{nid:Nat}
  (hfr:∀i,Rep r (· < k) (Gd base okc r (· < k) st.hp w) w (look fr i) (a2.tmps.getD i undef)) (hs:a2.tmps.size=n2) (hd:a2.defers=[]) :
  InvR ⟨⟨st.fr,rcd,ns,k⟩ :: O.fs,k,rnd,jc⟩ base okc n2 k r ⟨a :: outs.as,r⟩ ⟨fr,st.hp,nid⟩ a2 w:=by
 refine⟨h.sat,h.keys,hfr,hs,xa5 _,⟨h.fr,xa5 _,h.size,hrc,h.out.mono h.lo fun n hn sv v hv=>hv⟩,fun _ _=>rfl,?_⟩;obtain⟨Ds,h1,h2,h3⟩:=h.defers;exact⟨Ds,by simpa[KB,hd]using h1,h2,h3⟩
theorem InvR.pop{r r0:Nat→Option Nat}{k k0:Nat}{st st0:St}{fr:List (Nat×SV)}{a a0 a2:Act}{w w0:World}{rcd:Option Loop}{rnd:Bool}{n2 n0:Nat}{nid:Nat}
  (h:InvR ⟨⟨fr,rcd,ns,k0⟩ :: O.fs,k0,rnd,jc⟩ base okc n2 k r ⟨a :: outs.as,r0⟩ st a2 w) (h0:InvR O base okc n0 k0 r0 outs st0 a0 w0) :
  InvR O base okc ns k r outs ⟨fr,st.hp,nid⟩ a w:=by
 obtain⟨o1,o2,o3,o4,o5⟩:=h.out;refine⟨h.sat,h.keys,fun i=>(o1 i).mono (fun _ _=>rfl) (fun i hi=>xa9 hi h.lo) (fun _ _ hg=>⟨hg,rfl⟩) (Shapes.refl _),o3,xc1 h0.lo h.lo,o5.low h0.out,fun id hid=>(h.rfix id (xa9 hid h0.lo)).trans (h0.rfix id hid),?_⟩;obtain⟨Ds,h1,h2,h3⟩:=h.defers;unfold KB at h1;simp only[List.map_cons,List.flatten_cons]at h1;obtain⟨l1,l2,rfl,e1,e2⟩:=List.append_eq_map_iff.1 h1;exact⟨l2,e2.symm,(List.nodup_append.1 h2).2.1,fun D hD=>h3 D (by simp[hD])⟩
theorem vz {f : FuncId} {fn : Func} {c : Code} (hf : P.funcs[f]? = some fn) (hb : fn.body = some c) (hname : (fn.name == "runtime.NumGoroutine") = false) (vs : Array Value) (w : World) : (callFunc f vs).run P w = .ok (.enter f vs) w := by
 simp only[callFunc,Sem.run_bind,run_program,Result.andThen_ok,hf,hname,xe7,if_false,hb,Option.isNone_some,Sem.run_pure]
def putPs:List (Nat×SV)→List Tmp→List SV→List (Nat×SV)
 |fr,p :: ps,a :: as=>putPs (putFr fr p a) ps as
 |fr,_,_=>fr
theorem Jl{r:Nat→Option Nat}{N:Nat→Prop}{G:Bool→Nat→Prop}{w:World}{ns:Nat}:∀{ps:List Tmp}{args:List SV}{vs:List Value}{fr:List (Nat×SV)}{tmps:Array Value},(∀i,Rep r N G w (look fr i) (tmps.getD i undef))→tmps.size=ns→ps.all (fun t=>decide (t<ns))=true→args.length=vs.length→
  (∀i sv,args[i]? = some sv→Rep r N G w sv (vs.getD i undef))→
  (∀i,Rep r N G w (look (putPs fr ps args) i) (((ps.zip vs).foldl (fun tmps (t,a)=>tmps.setIfInBounds t a) tmps).getD i undef))∧((ps.zip vs).foldl (fun tmps (t,a)=>tmps.setIfInBounds t a) tmps).size=ns
 |[],args,vs,fr,tmps,h,hs,_,_,_=>⟨by simpa[putPs]using h,(by simpa using hs)⟩
 |p :: ps,[],[],fr,tmps,h,hs,_,_,_=>⟨by simpa[putPs]using h,(by simpa using hs)⟩
 |p :: ps,[],_ :: _,_,_,_,_,_,hl,_=>by simp at hl
 |p :: ps,_ :: _,[],_,_,_,_,_,hl,_=>by simp at hl
 |p :: ps,s :: args,v :: vs,fr,tmps,h,hs,hps,hl,ha=>by
  simp only[List.all_cons,xe6,decide_eq_true_eq]at hps;simp only[putPs,List.zip_cons_cons,List.foldl_cons];refine Jl (fun i=>?_) (by simpa using hs) hps.2 Ω7 fun i sv hi=>by simpa using ha (i+1) sv Ω8
  rw[zb];simp only[xf5,Array.getElem?_setIfInBounds];by_cases e:i=p
  ·subst e
   simp only[if_true];rw[if_pos (by rw[hs];exact hps.1)];simpa using ha 0 s rfl
  ·rw[if_neg e,if_neg (Ne.symm e)]
   simpa using h i
def qiS(y:Nat)(L:Loop)(fr:List (Nat×SV))(K:St→SV→Prop)(hp:List (Nat×Blk))(nid:Nat):Ex→Prop
 |.normal=>K ⟨fr,setBlk hp y (.loop L .ready),nid⟩ (.val (.bool true))
 |.ret=>K ⟨fr,setBlk hp y (.loop L .retd),nid⟩ (.val (.bool false))
 |.exit i=>K ⟨fr,setBlk hp y (.loop L (.left i)),nid⟩ (.val (.bool false))
def yN(L:Loop):Option Blk→Prop
 |some (.loop L' .busy)=>L'=L
 |_=>False
def Qr(L:Loop):Option Blk→Prop
 |some (.loop L' .ready)=>L'=L
 |_=>False
theorem qdB{L:Loop}{o:Option Blk}(h:yN L o):o=some (.loop L .busy):=by
 unfold yN at h;split at h
 ·rw[h]
 ·exact h.elim
theorem qac{L:Loop}{o:Option Blk}(h:Qr L o):o=some (.loop L .ready):=by
 unfold Qr at h;split at h
 ·rw[h]
 ·exact h.elim
def wu(y:Nat)(L:Loop)(fr:List (Nat×SV))(K:St→SV→Prop):Ex→St→Prop
 |e,st2=>yN L (blk st2.hp y)∧qiS y L fr K st2.hp st2.nid e
def KX(P:Program)(O:Ctx)(y:Nat)(L:Loop)(B:Code)(K:Ex→St→Prop):Ex→St→Prop
 |.normal,st1=>Qr L (blk st1.hp y)∧vc P O B ⟨st1.fr,setBlk st1.hp y (.loop L .busy),st1.nid⟩ K
 |_,_=>False
theorem j1{hp:List (Nat×Blk)}{y k:Nat}{x x':Blk}(h:blk hp y=some x)(hk:∀id z,blk hp id=some z→id<k):∀id z,blk (setBlk hp y x') id=some z→id<k:=fun id z hz=>by
 rw[qp]at hz;split at hz
 ·rename_i e;subst e;exact hk _ _ h
 ·exact hk _ _ hz
theorem Qs{r:Nat→Option Nat}{k:Nat}{st:St}{a:Act}{w:World}(h:InvR O base okc ns k r outs st a w){y l:Nat}{L:Loop}{s s':RSt}(hb:blk st.hp y=some (.loop L s))(hr:r y=some l) :
  w.heap[l]? = some (.loop { L with state:=s.state,pending:=s.pend })∧InvR O base okc ns k r outs ⟨st.fr,setBlk st.hp y (.loop L s'),st.nid⟩ a (w.putObj l (.loop { L with state:=s'.state,pending:=s'.pend })):=by
 have hy:=h.keys y _ hb;have hrep:=h.sat.rep y _ hb hy;rw[hr]at hrep;cases hrep with
 |loop _ _ _ hl=>
  refine⟨hl,?_⟩;have hs:Step base okc r (· < k) st.hp w r (· < k) (setBlk st.hp y (.loop L s')) (w.putObj l (.loop { L with state:=s'.state,pending:=s'.pend })):=
   kg h.sat hb hy hr hl (fun _ _ _=>by simp) _ (.loop L s') fun G' w' hw' _=>.loop L s' l hw'
  exact h.step hs (j1 hb h.keys) (xa5 _) (d:=none) (fun t ht=>by cases ht) (.top undef)
def qbx(fr:List (Nat×SV))(K:Ex→St→Prop)(hp:List (Nat×Blk))(nid id:Nat):RSt→Prop
 |.ready=>K .normal ⟨fr,dropBlk hp id,nid⟩
 |.retd=>K .ret ⟨fr,dropBlk hp id,nid⟩
 |.left i=>K (.exit i) ⟨fr,dropBlk hp id,nid⟩
 |_=>False
def j4(L:Loop)(fr:List (Nat×SV))(K:Ex→St→Prop)(hp:List (Nat×Blk))(nid id:Nat):Option Blk→Prop
 |some (.loop L' s)=>L'=L∧qbx fr K hp nid id s
 |_=>False
theorem Wv{L:Loop}{fr:List (Nat×SV)}{K:Ex→St→Prop}{hp:List (Nat×Blk)}{nid id:Nat}{o:Option Blk}(h:j4 L fr K hp nid id o):∃s,o=some (.loop L s)∧qbx fr K hp nid id s:=by
 unfold j4 at h;split at h
 ·exact⟨_,by rw[h.1],h.2⟩
 ·exact h.elim
def jC(id:Nat)(L:Loop)(fr:List (Nat×SV))(K:Ex→St→Prop):Ex→St→Prop
 |.exit _,_=>False
 |.normal,st'=>j4 L fr K st'.hp st'.nid id (blk st'.hp id)
 |.ret,st'=>j4 L fr K st'.hp st'.nid id (blk st'.hp id)
theorem yx{rs:List ResultVar}(h:rs=[])(st:St)(K:List SV→Prop):resultsVC P rs st K=K []:=by subst h;rfl
theorem InvR.forget{r:Nat→Option Nat}{k:Nat}{st:St}{a:Act}{w:World}(h:InvR O base okc ns k r outs st a w)(id:Nat):InvR O base okc ns k r outs ⟨st.fr,dropBlk st.hp id,st.nid⟩ a w:=
 h.step (h.sat.sub (fun j x hx=>by
  rw[qv]at hx;split at hx
  ·cases hx
  ·exact hx)) (fun j x hx=>by
  rw[qv]at hx;split at hx
  ·cases hx
  ·exact h.keys j x hx) (xa5 _) (d:=none) (fun t ht=>by cases ht) (.top undef)
set_option maxHeartbeats 1000000 in
open Classical in
noncomputable def stampOf(es:Array MapEntry)(k:Value):Nat:=if h:∃e,e∈es∧e.key=k then(Classical.choose h).born else 0
theorem Jm{t:TypeId}{x:Operand}{mid:Nat}{fit dom:Value→Bool}{get:Value→SV}{st:St}{K:St→SV→Prop}{mi:jx}(hx:env (look st.fr) x=.mp mid)(ht:qy P t=some mi)(hb:blk st.hp mid=some (.map fit dom get))
  (h:∀(stamp:Value→Nat)(clk:Nat),(∀k,dom k=true→stamp k<clk)→(∀k k',dom k=true→dom k'=true→stamp k=stamp k'→k=k')→
   K ⟨st.fr,(st.nid,.iter mid clk [] clk) :: setBlk st.hp mid (.mapS fit dom get stamp clk),st.nid+1⟩ (.ptr st.nid 0)):OpVC P O (.range t x) st K:=by
 intro base okc ns r outs a w o ho hi;obtain⟨kt,et,ii,hu,-⟩:=zE ht;have hv:=hi.env x;rw[hx]at hv;generalize hex:a.eval x=u at hv;cases hv with
 |mp _ b hN hr=>
 have hrep:=hi.sat.rep mid _ hb hN;rw[hr]at hrep;cases hrep with
 |map _ _ _ _ es clock hb' hmo htm hes=>
 have hst:∀e,e∈es→e.born=stampOf es e.key:=fun e he=>by
  have hex:∃e',e'∈es∧e'.key=e.key:=⟨e,he,rfl⟩;unfold stampOf;rw[dif_pos hex];obtain⟨c1,c2⟩:=Classical.choose_spec hex;obtain⟨i,hi⟩:=Array.mem_iff_getElem?.1 he;obtain⟨j,hj⟩:=Array.mem_iff_getElem?.1 c1;have:=hmo.once i j _ _ hi hj c2.symm;subst this;rw[hi]at hj;injection hj with hj;rw[←hj]
 have s1:Step base okc r (· < st.nid) st.hp w r (· < st.nid) (setBlk st.hp mid (.mapS fit dom get (stampOf es) clock)) w:=hi.sat.same hb fun G' hG' _=>by
  rw[hr];exact .mapS fit dom get _ b es clock hb' hmo htm hst fun e he=>(hes e he).mono (fun _ _=>rfl) (fun _ h=>h) (fun o c hc=>⟨hG' o c hc,rfl⟩) (Shapes.refl w)
 have hi1:InvR O base okc ns st.nid r outs ⟨st.fr,setBlk st.hp mid (.mapS fit dom get (stampOf es) clock),st.nid⟩ a w:=hi.step s1 (j1 hb hi.keys) (xa5 _) (d:=none) (fun t ht=>by cases ht) (.top undef);have s2:=hi1.sat.new (hp':=(st.nid,.iter mid clock [] clock) :: setBlk st.hp mid (.mapS fit dom get (stampOf es) clock)) st.nid Ωg (.mapIter (some b) clock #[] clock) (.iter mid clock [] clock) ΩY (fun j hj=>by simp only[blk];rw[if_neg Ω]) fun r' N' G' e1 _ e3 _ _=>
  .iter mid clock [] clock _ b (e3 _ hN) ((e1 _ hN).trans hr) (qK w _)
 rw[gN]at s2;have hi2:=hi1.step s2 (fun id y hy=>by
   simp only[blk]at hy;split at hy
   ·omega
   ·have:=hi1.keys id y hy;omega) Ω (d:=none) (fun t ht=>by cases ht) (.top undef)
 refine⟨.pointer (some ⟨w.heap.size,0,none⟩),w.alloc (.mapIter (some b) clock #[] clock),?_,⟨st.fr,(st.nid,.iter mid clock [] clock) :: setBlk st.hp mid (.mapS fit dom get (stampOf es) clock),st.nid+1⟩,_,.ptr st.nid 0,h _ _ (fun k hk=>?_) (fun k k' hk hk' e=>?_),xc4 _,hi2.nid _,.ptr _ _ _ (xb5 _) (qt _ _ _)⟩
 ·have e:execOp a.eval o=(do pure (.value (←Instr.range t (a.eval x)))):=by
   obtain⟨dst,op,type,pos,aft,guard⟩:=o;simp only[]at ho;subst ho;rfl
  rw[e,hex];simp only[Sem.run_bind,Instr.range,run_underlying hu,Result.andThen_ok];have hobj:(getObj b).run P w=.ok (.map es clock) w:=by simp[getObj,Sem.run,hb']
  simp only[Sem.run_bind,hobj,Result.andThen_ok,Sem.run_pure,run_newObj];rfl
 ·obtain⟨e,he,hk'⟩:=hmo.has k hk
  rw[←hk',←hst e he];exact htm.lt e he
 ·obtain⟨e1,he1,hk1⟩:=hmo.has k hk
  obtain⟨e2,he2,hk2⟩:=hmo.has k' hk';rw[←hk1,←hk2,←hst e1 he1,←hst e2 he2]at e;obtain⟨i,hi⟩:=Array.mem_iff_getElem?.1 he1;obtain⟨j,hj⟩:=Array.mem_iff_getElem?.1 he2;have:=htm.once i j _ _ hi hj e;subst this;rw[hi]at hj;injection hj with hj;rw[←hk1,←hk2,hj]
theorem qfi{w:World}{ty:TypeId}{it bm clk:Nat}{seen:List Nat}{es:Array MapEntry}(hit:w.heap[it]? = some (.mapIter (some bm) clk seen.toArray clk))(hb:w.heap[bm]? = some (.map es clk))(hold:∀x∈es,x.born<clk) :
  ((∀e∈es,e.born∈seen)∧(Instr.next (.pointer (some ⟨it,0,none⟩)) false ty).run P w=.ok (.tuple #[.bool false]) w)∨
  ∃e∈es,e.born∉seen∧∃n,(Instr.next (.pointer (some ⟨it,0,none⟩)) false ty).run P w=.ok (.tuple #[.bool true,e.key,e.val]) (({ w with drawn:=n }:World).putObj it (.mapIter (some bm) clk (seen++[e.born]).toArray clk)):=by
 have ht:=next_test_false seen.toArray es clk clk (fun x hx=>hold x ΩS) (xa5 _);simp only[Instr.next,getObj,Sem.run_bind,Sem.run,hit,hb,Result.andThen,ht,xe7,if_false];have hmem:∀x∈(Array.filter (fun e=>!seen.toArray.contains e.born) es),x∈es∧x.born∉seen:=fun x hx=>by
  simp at hx;exact hx
 have hall:∀x∈es,x.born∉seen→x∈Array.filter (fun e=>!seen.toArray.contains e.born) es:=fun x hx hs=>by simp;exact⟨hx,hs⟩
 generalize Array.filter (fun e=>!seen.toArray.contains e.born) es=L at hmem hall ⊢;have e1:L.filter (fun x=>decide (x.born<clk))=L:=Array.filter_eq_self.2 (fun x hx=>by simpa using hold x (hmem x hx).1);have e2:L.filter (fun x=>decide (x.born≥clk)) = #[]:=by
  rw[Array.filter_eq_empty_iff];intro x hx;have:=hold x (hmem x hx).1;simp;omega
 simp only[e1,e2,Array.append_empty];by_cases h0:L.size=0
 ·left
  have:L = #[]:=Array.eq_empty_of_size_eq_zero h0;subst this;refine⟨fun e he=>?_,?_⟩
  ·refine xf9 fun hn=>?_
   have:=hall e he hn;simp at this
  ·simp[choose,Sem.run,Question.forced]
 ·right
  have hne:L.isEmpty=false:=by simp[Array.isEmpty,h0]
  simp only[hne,xe7,if_false,Array.empty_append,Array.size_map];have hch:∃(j:Nat)(n:Nat),j<L.size∧(choose (Question.mapNext L.size)).run P w=.ok j { w with drawn:=n }:=by
   by_cases hf:L.size≤1
   ·exact⟨0,w.drawn,Ω,by simp[choose,Sem.run,Question.forced,hf]⟩
   ·exact⟨_,w.drawn+1,Nat.mod_lt _ Ω,by
     simp only[choose,Sem.run,Question.forced,decide_eq_true_eq,hf,if_false,Question.cut];rfl⟩
  obtain⟨j,n,hj,hrun⟩:=hch;obtain⟨m1,m2⟩:=hmem L[j] (Array.getElem_mem hj);refine⟨L[j],m1,m2,n,?_⟩;have hset:∀(o':Obj),(setObj it o').run P { w with drawn:=n } = .ok () (({ w with drawn:=n }:World).putObj it o'):=fun o'=>by
   simp[setObj,Sem.run,hit,World.putObj]
  simp only[hrun,Array.getElem?_map,Array.getElem?_eq_getElem hj,xg1,Sem.run_bind,hset,Result.andThen];simp
theorem Ww{x:Operand}{iid mid clk:Nat}{seen:List Nat}{fit dom:Value→Bool}{get:Value→SV}{stamp:Value→Nat}{st:St}{K:St→SV→Prop}(hx:env (look st.fr) x=.ptr iid 0)(hbi:blk st.hp iid=some (.iter mid clk seen clk))(hbm:blk st.hp mid=some (.mapS fit dom get stamp clk))
  (h1:∀k,fit k=true→dom k=true→stamp k∉seen→K ⟨st.fr,setBlk st.hp iid (.iter mid clk (seen++[stamp k]) clk),st.nid⟩ (.tup [.val (.bool true),.val k,get k]))
  (h2:(∀k,dom k=true→stamp k∈seen)→K st (.tup [.val (.bool false)])):OpVC P O (.next x false) st K:=by
 intro base okc ns r outs a w o ho hi;have hv:=hi.env x;rw[hx]at hv;generalize hex:a.eval x=u at hv;cases hv with
 |ptr _ _ it hN hrit=>
 have hri:=hi.sat.rep iid _ hbi hN;rw[hrit]at hri;cases hri with
 |iter _ _ _ _ _ bm hNm hrm hit=>
 have hrm':=hi.sat.rep mid _ hbm hNm;rw[hrm]at hrm';cases hrm' with
 |mapS _ _ _ _ _ es _ hb' hmo htm hst hes=>
 have e:execOp a.eval o=(do pure (.value (←Instr.next (a.eval x) false o.type))):=by
  obtain⟨dst,op,type,pos,aft,guard⟩:=o;simp only[]at ho;subst ho;rfl
 rcases qfi (P:=P) (ty:=o.type) hit hb' htm.lt with⟨hall,hrun⟩|⟨e',he',hns,n,hrun⟩
 ·refine⟨_,w,by rw[e,hex,Sem.run_bind,hrun];rfl,st,r,_,h2 fun k hk=>?_,xa5 _,hi,.tup _ _ rfl fun i sv hi=>?_⟩
  ·obtain⟨e',he',hk'⟩:=hmo.has k hk
   rw[←hk',←hst e' he'];exact hall e' he'
  ·match i,hi with
   |0,hi=>simp at hi;subst hi;exact .val _
 ·have hdrew:Below w.heap.size w { w with drawn:=n }:=⟨rfl,rfl,rfl,xa5 _,fun _ _=>rfl⟩
  have hi1:InvR O base okc ns st.nid r outs st a { w with drawn:=n }:=hi.step (hi.sat.grow hdrew) hi.keys (xa5 _) (d:=none) (fun t ht=>by cases ht) (.top undef);have hs2:Step base okc r (· < st.nid) st.hp { w with drawn:=n } r (· < st.nid) (setBlk st.hp iid (.iter mid clk (seen++[e'.born]) clk)) (({ w with drawn:=n }:World).putObj it (.mapIter (some bm) clk (seen++[e'.born]).toArray clk)):=
   kg hi1.sat hbi hN hrit (old:=.mapIter (some bm) clk seen.toArray clk) hit (fun _ _ _=>by simp) _ (.iter mid clk (seen++[e'.born]) clk) fun G' w' hw' _=>.iter mid clk _ clk it bm hNm hrm hw'
  have hi2:=hi1.step hs2 (j1 hbi hi1.keys) (xa5 _) (d:=none) (fun t ht=>by cases ht) (.top undef);have hk:=h1 e'.key (hmo.fits e' he') (hmo.doms e' he') (by rw[←hst e' he'];exact hns);rw[←hst e' he']at hk;refine⟨_,_,by rw[e,hex,Sem.run_bind,hrun];rfl,_,r,_,hk,xa5 _,hi2,.tup _ _ rfl fun i sv hq=>?_⟩
  match i,hq with
  |0,hq=>simp at hq;subst hq;exact .val _
  |1,hq=>simp at hq;subst hq;exact .val _
  |2,hq=>simp at hq;subst hq;exact hs2.rep ((hi.sat.grow hdrew).rep (hes e' he'))
def qfj(s:SV)(k:Value):Prop:=∀(r:Nat→Option Nat)(N:Nat→Prop)(G:Bool→Nat→Prop)(w:World),Rep r N G w s k
theorem Zh(l:List Value):qfj (.agg (l.map .val)) (.agg l.toArray):=fun r N G w=>.agg _ _ Ωg fun i sv hi=>by
 simp only[List.getElem?_map,Option.map_eq_some_iff]at hi;obtain⟨v,hv,rfl⟩:=hi;have:l.toArray.getD i undef=v:=by simp[xf5,hv]
 rw[this];exact .val v
theorem qdC{s:SV}{x:Operand}{iid mid clk:Nat}{seen:List Nat}{fit dom:Value→Bool}{get:Value→SV}{stamp:Value→Nat}{st:St}{K:St→SV→Prop}{k:Value}(hx:env (look st.fr) x=.ptr iid 0)(hbi:blk st.hp iid=some (.iter mid clk (seen++[stamp k]) clk))(hbm:blk st.hp mid=some (.mapS fit dom get stamp clk))
  (hd:dom k=true) (hs:qfj s k) (h:K st (.tup [s,get k])):OpVC P O (.entry x) st K:=by
 intro base okc ns r outs a w o ho hi;have hv:=hi.env x;rw[hx]at hv;generalize hex:a.eval x=u at hv;cases hv with
 |ptr _ _ it hN hrit=>
 have hri:=hi.sat.rep iid _ hbi hN;rw[hrit]at hri;cases hri with
 |iter _ _ _ _ _ bm hNm hrm hit=>
 have hrm':=hi.sat.rep mid _ hbm hNm;rw[hrm]at hrm';cases hrm' with
 |mapS _ _ _ _ _ es _ hb' hmo htm hst hes=>
 have e:execOp a.eval o=(do pure (.value (←Instr.entry (a.eval x)))):=by
  obtain⟨dst,op,type,pos,aft,guard⟩:=o;simp only[]at ho;subst ho;rfl
 obtain⟨e0,he0,hk0⟩:=hmo.has k hd;have hfind:es.find? (fun e=>e.born == stamp k)=some e0:=by
  cases hf:es.find? (fun e=>e.born == stamp k)with
  |none=>
   have:=Array.find?_eq_none.1 hf e0 he0;simp[hst e0 he0,hk0]at this
  |some e1=>
   have h1:=Array.find?_some hf;have h2:=Array.mem_of_find?_eq_some hf;obtain⟨i,hi⟩:=Array.mem_iff_getElem?.1 he0;obtain⟨j,hj⟩:=Array.mem_iff_getElem?.1 h2;have:=htm.once i j _ _ hi hj (by rw[hst e0 he0,hk0];simpa using(beq_iff_eq.1 h1).symm);subst this;rw[hi]at hj;exact hj.symm
 refine⟨.tuple #[e0.key,e0.val],w,?_,st,r,_,h,xa5 _,hi,.tup _ _ rfl fun i sv hq=>?_⟩
 ·rw[e,hex]
  have hback:(seen++[stamp k]).toArray.back? = some (stamp k):=by simp
  simp only[Sem.run_bind,Instr.entry,getObj,Sem.run,hit,hback,Result.andThen];simp[Sem.run,hb',hfind]
 ·match i,hq with
  |0,hq=>simp at hq;subst hq;simp;rw[hk0];exact hs _ _ _ _
  |1,hq=>simp at hq;subst hq;have:=hes e0 he0;rw[hk0]at this;exact this
end
end Go.Sx
end
