/- A part of the proof. -/
import Derived.ProofKit
import Derived.OpenShut
import Derived.Deep.Slices
import Derived.WideKeyArgs
import Derived.Lib.AppendZerosOnto
import Derived.Test.YtacejomniokahaaGreatProg
import Derived.Test.YtacejomniokahaaGreatPB
open Nat renaming reduceMul→xa0,reduceAdd→xa1,reduceEqDiff→xa2,reduceLT→xa3,reduceLeDiff→xa4,le_refl→xa5,mul_le_mul_right→xa8,lt_of_lt_of_le→xa9,zero_add→xb0,add_zero→xb1,add_assoc→xb2,lt_succ_self→xb5,zero_le→xb6,le_trans→xc1,le_succ→xc4
open List renaming getD_eq_getElem?_getD→xc6,getElem?_eq_getElem→xc7,length_append→xc8,getElem?_append_left→xc9,getElem?_append_right→xd0,append_nil→xd3,mem_append→xd4,mem_cons_self→xd5,getElem?_cons_zero→xd6,getElem?_cons_succ→xd7,length_take→xd9,getElem?_toArray→xe2,getElem?_range→xe3,length_cons→xe4
open Bool renaming and_eq_true→xe6,false_eq_true→xe7,or_eq_true→xe8
open Array renaming getD_eq_getD_getElem?→xf5,getElem?_toList→xf6,length_toList→xf7
open Classical renaming byContradiction→xf9
open Option renaming getD_some→xg0,map_some→xg1
set_option linter.unusedVariables false
set_option linter.unusedSimpArgs false
set_option linter.defProp false
set_option maxRecDepth 1000000
set_option maxHeartbeats 16000000
section
namespace Go.Sx
open Go.RowKit
inductive Tag.{u}{α:Sort u}(a:α):Type
 |mk
section
variable{P:Program}{O:Ctx}
def kz(g:Bool)(A B:Prop)(_:Tag A)(_:Tag B):Prop:=SplitVC g A B
def ZJ(v:SV)(t:Tmp)(want:Bool)(st:St)(run skip:St→Prop)(_:Tag run)(_:Tag skip):Prop:=
 match v with
 |.val (.bool b)=>match want with
  |true=>SplitVC b (run (st.put (some t) (.val (.bool true)))) (skip (st.put (some t) (.val (.bool false))))
  |false=>SplitVC b (skip (st.put (some t) (.val (.bool true)))) (run (st.put (some t) (.val (.bool false))))
 |.val (.tuple _)=>skip st
 |_=>False
def qaS(t:Option Tmp)(want:Bool)(st:St)(run skip:St→Prop):Prop:=
 match t with
 |none=>False
 |some t=>ZJ (look st.fr t) t want st run skip .mk .mk
theorem zu(ds:List (Option Tmp))(st:St)(run skip:St→Prop):zo ds none st run skip=run st:=rfl
theorem VQ(ds:List (Option Tmp))(j:Nat)(want:Bool)(st:St)(run skip:St→Prop):zo ds (some (j,want)) st run skip=qaS (nth ds j) want st run skip:=by
 unfold zo qaS ZJ;rfl
def qcm(t:Option Tmp)(want:Bool)(st:St)(run skip:St→Prop)(_:Tag run)(_:Tag skip):Prop:=qaS t want st run skip
theorem Ju(ds:List (Option Tmp))(j:Nat)(want:Bool)(st:St)(run skip:St→Prop):zo ds (some (j,want)) st run skip=qcm (nth ds j) want st run skip .mk .mk:=VQ ds j want st run skip
theorem Ya(t:Tmp)(want:Bool)(st:St)(run skip:St→Prop)(x:Tag run)(y:Tag skip):qcm (some t) want st run skip x y=ZJ (look st.fr t) t want st run skip .mk .mk:=rfl
theorem qga(b:Bool)(t:Tmp)(st:St)(run skip:St→Prop)(x:Tag run)(y:Tag skip):ZJ (.val (.bool b)) t true st run skip x y=kz b (run (st.put (some t) (.val (.bool true)))) (skip (st.put (some t) (.val (.bool false)))) .mk .mk:=rfl
theorem qgb(b:Bool)(t:Tmp)(st:St)(run skip:St→Prop)(x:Tag run)(y:Tag skip):ZJ (.val (.bool b)) t false st run skip x y=kz b (skip (st.put (some t) (.val (.bool true)))) (run (st.put (some t) (.val (.bool false)))) .mk .mk:=rfl
theorem qgc(vs:Array Value)(t:Tmp)(want:Bool)(st:St)(run skip:St→Prop)(x:Tag run)(y:Tag skip):ZJ (.val (.tuple vs)) t want st run skip x y=skip st:=rfl
theorem Yb(A B:Prop)(x:Tag A)(y:Tag B):kz true A B x y=A:=qaL A B
theorem VR(A B:Prop)(x:Tag A)(y:Tag B):kz false A B x y=B:=WY A B
theorem qaT(g:Bool)(A B:Prop)(x:Tag A)(y:Tag B):kz (!g) A B x y=kz g B A .mk .mk:=qep g A B
theorem qaU(g g':Bool)(A B:Prop)(x:Tag A)(y:Tag B):kz (g&&g') A B x y=kz g (kz g' A B .mk .mk) B .mk .mk:=by cases g<;>cases g'<;>simp[kz,SplitVC]
theorem qew(g g':Bool)(A B:Prop)(x:Tag A)(y:Tag B):kz (g || g') A B x y=kz g A (kz g' A B .mk .mk) .mk .mk:=by cases g<;>cases g'<;>simp[kz,SplitVC]
def QH(P:Program)(O:Ctx){J:Prop}(_:Tag J){op:Op}(_:Tag op)(d:Option Tmp)(id:Nat)(st:St)(K:St→Prop)(_:Tag K)(x:Res):Prop:=wq P O J op d id st K x
section
variable{J:Prop}{j:Tag J}{op:Op}{o:Tag op}
theorem qaV(d:Option Tmp)(id:Nat)(st:St)(K:St→Prop)(g:Tag K)(obl:Prop)(r:SV):QH P O j o d id st K g (.pure obl r)=(obl∧K (st.put d r)):=rfl
theorem qex(d:Option Tmp)(id:Nat)(st:St)(K:St→Prop)(g:Tag K)(r:SV):QH P O j o d id st K g (.ex fun s=>some r=some s)=K (st.put d r):=by
 simp[QH,wq]
theorem qey(d:Option Tmp)(id:Nat)(fr:List (Nat×SV))(hp:List (Nat×Blk))(nid:Nat)(K:St→Prop)(g:Tag K)(obl:Prop)(b:Blk)(mk:Nat→SV):QH P O j o d id ⟨fr,hp,nid⟩ K g (.new obl b mk)=(obl∧K (St.put ⟨fr,(id,b) :: hp,nid⟩ d (mk id))):=rfl
theorem qez(d:Option Tmp)(id:Nat)(fr:List (Nat×SV))(hp:List (Nat×Blk))(nid:Nat)(K:St→Prop)(g:Tag K)(obl:Prop)(i:Nat)(b:Blk):QH P O j o d id ⟨fr,hp,nid⟩ K g (.upd obl i b)=(obl∧K (St.put ⟨fr,setBlk hp i b,nid⟩ d undefSV)):=rfl
theorem qaW(d:Option Tmp)(id:Nat)(fr:List (Nat×SV))(hp:List (Nat×Blk))(nid:Nat)(K:St→Prop)(g:Tag K)(obl:Prop)(i:Nat)(b:Blk)(sv:SV):QH P O j o d id ⟨fr,hp,nid⟩ K g (.updv obl i b sv)=(obl∧K (St.put ⟨fr,setBlk hp i b,nid⟩ d sv)):=rfl
theorem qaX(d:Option Tmp)(id:Nat)(fr:List (Nat×SV))(hp:List (Nat×Blk))(nid:Nat)(K:St→Prop)(g:Tag K)(obl:Prop)(i:Nat)(b:Blk)(mk:Nat→SV):QH P O j o d id ⟨fr,hp,nid⟩ K g (.grow obl i b mk)=((obl∧i≠id)∧K (St.put ⟨fr,(id,b) :: dropBlk hp i,nid⟩ d (mk id))):=rfl
def Gu(P:Program)(O:Ctx)(_:Tag J)(d:Option Tmp)(id:Nat)(fr:List (Nat×SV))(hp:List (Nat×Blk))(nid:Nat)(K:St→Prop)(_:Tag K)(f:FuncId)(args:List SV):Prop:=
 VH P hp f args (fun r=>K (St.put ⟨fr,hp,nid⟩ d r))∨qci P hp f args (fun b res=>K (St.put ⟨fr,(id,b) :: hp,nid⟩ d (setId id res)))∨(J∧kT P O f args ⟨fr,hp,id⟩ fun st' res=>K (st'.put d res))
theorem qaY(d:Option Tmp)(id:Nat)(fr:List (Nat×SV))(hp:List (Nat×Blk))(nid:Nat)(K:St→Prop)(g:Tag K)(f:FuncId)(args:List SV):QH P O j o d id ⟨fr,hp,nid⟩ K g (.call f args)=Gu P O j d id fr hp nid K .mk f args:=rfl
def qcn(P:Program)(O:Ctx)(_:Tag J)(d:Option Tmp)(id:Nat)(fr:List (Nat×SV))(hp:List (Nat×Blk))(K:St→Prop)(_:Tag K)(y:Nat)(args:List SV):Prop:=
 J∧yn P O y args ⟨fr,hp,id⟩ fun st' res=>K (st'.put d res)
theorem Yc(d:Option Tmp)(id:Nat)(fr:List (Nat×SV))(hp:List (Nat×Blk))(nid:Nat)(K:St→Prop)(g:Tag K)(y:Nat)(args:List SV):QH P O j o d id ⟨fr,hp,nid⟩ K g (.yield y args)=qcn P O j d id fr hp K .mk y args:=rfl
def qjI(P:Program)(O:Ctx)(_:Tag J)(_:Tag op)(d:Option Tmp)(id:Nat)(fr:List (Nat×SV))(hp:List (Nat×Blk))(K:St→Prop)(_:Tag K):Prop:=
 J∧OpVC P O op ⟨fr,hp,id⟩ fun st' res=>K (st'.put d res)
theorem qeA(d:Option Tmp)(id:Nat)(fr:List (Nat×SV))(hp:List (Nat×Blk))(nid:Nat)(K:St→Prop)(g:Tag K):QH P O j o d id ⟨fr,hp,nid⟩ K g .raw=qjI P O j o d id fr hp K .mk:=rfl
end
theorem qeB(fr:List (Nat×SV))(hp:List (Nat×Blk))(nid:Nat)(d:Tmp)(v:SV):St.putI ⟨fr,hp,nid⟩ (some d) v=⟨putIn fr d v,hp,nid⟩:=rfl
theorem qeC(st:St)(v:SV):St.putI st none v=st:=rfl
theorem qgd(fr:List (Nat×SV))(hp:List (Nat×Blk))(nid:Nat)(d:Tmp)(v:SV):St.put ⟨fr,hp,nid⟩ (some d) v=⟨putFr fr d v,hp,nid⟩:=rfl
theorem qge(st:St)(v:SV):st.put none v=st:=rfl
theorem qeD(J:Prop)(ds:List (Option Tmp))(i:Nat)(st:St)(K:St→Prop):zb P O J ds [] i st K=K st:=rfl
theorem qaZ(J:Prop)(ds:List (Option Tmp))(d:Option Tmp)(op:Op)(ty:TypeId)(pos:String)(af:Array Edge)(g:Option (Nat×Bool))(rest:List Oper)(i:Nat)(st:St)(K:St→Prop):zb P O J ds (⟨d,op,ty,pos,af,g⟩ :: rest) i st K =
  zo ds g st (fun st=>QH P O (Tag.mk:Tag J) (Tag.mk:Tag op) d (st.nid+i) st (fun st=>zb P O J ds rest (i+1) st K) .mk (stepR P (look st.fr) st.hp op)) (fun st=>zb P O J ds rest (i+1) (st.put d undefSV) K):=rfl
def qlB(P:Program)(v:SV)(A B:Prop)(_:Tag A)(_:Tag B):Prop:=Gn P v A B
theorem qjJ(st:St)(K:Ex→St→Prop):vc P O .skip st K=K .normal st:=rfl
theorem qgf(l:Nat)(st:St)(K:Ex→St→Prop):vc P O (.label l) st K=K .normal st:=rfl
theorem qmh(a b:Code)(st:St)(K:Ex→St→Prop):vc P O (.seq a b) st K=vc P O a st (Ke K fun st'=>vc P O b st' K):=rfl
theorem qjK(c:Operand)(t e:Code)(st:St)(K:Ex→St→Prop):vc P O (.cond c t e) st K=qlB P (env (look st.fr) c) (vc P O t st K) (vc P O e st K) .mk .mk:=rfl
theorem qgg(id:Nat)(c:Code)(st:St)(K:Ex→St→Prop):vc P O (.block id c) st K=vc P O c st (Qe id K):=rfl
theorem qjL(id:Nat)(st:St)(K:Ex→St→Prop):vc P O (.exit id) st K=K (.exit id) st:=rfl
theorem qmi(st:St)(K:Ex→St→Prop):vc P O .ret st K=K .ret st:=rfl
theorem qgh(c:Code)(st:St)(K:Ex→St→Prop):vc P O (.scope c) st K=vc P O c st K:=rfl
theorem qeE{fs:List Fr}{lo:Nat}{rnd:Bool}(id:Nat)(ops:List Oper)(d:Bool)(st:St)(K:Ex→St→Prop):vc P ⟨fs,lo,rnd,jg⟩ (.region id ops.toArray d) st K=zb P ⟨fs,lo,rnd,jg⟩ (kL d ops=true) (dsts ops) ops 0 st (fun st'=>K .normal ⟨st'.fr,st'.hp,st'.nid+ops.length⟩):=rfl
theorem Gv{fs:List Fr}{lo:Nat}{rnd:Bool}{n:Nat}{l:List (Nat×Nat)}(id:Nat)(ops:List Oper)(d:Bool)(st:St)(K:Ex→St→Prop)(h:id≠n):vc P ⟨fs,lo,rnd,jU n l⟩ (.region id ops.toArray d) st K=zb P ⟨fs,lo,rnd,jU n l⟩ (kL d ops=true) (dsts ops) ops 0 st (fun st'=>K .normal ⟨st'.fr,st'.hp,st'.nid+ops.length⟩):=by
 have e:jU n l id=[]:=by simp[jU,h]
 show(if je (jU n l id)=true then _ else zb P _ _ _ _ 0 st (fun st'=>FarVC ((jU n l) id) st' (K .normal ⟨st'.fr,st'.hp,st'.nid+ops.length⟩)))=_;rw[e];rfl
theorem qba{fs:List Fr}{lo:Nat}{rnd:Bool}{x y:Nat}{l:List (Nat×Nat)}(n:Nat)(ops:List Oper)(d:Bool)(st:St)(K:Ex→St→Prop)(hxy:x≠y):vc P ⟨fs,lo,rnd,jU n ((x,y) :: l)⟩ (.region n ops.toArray d) st K=zb P ⟨fs,lo,rnd,jU n ((x,y) :: l)⟩ (kL d ops=true) (dsts ops) ops 0 st (fun st'=>FarVC ((x,y) :: l) st' (K .normal ⟨st'.fr,st'.hp,st'.nid+ops.length⟩)):=by
 have e:jU n ((x,y) :: l) n=(x,y) :: l:=by simp[jU]
 show(if je (jU n ((x,y) :: l) n)=true then _ else zb P _ _ _ _ 0 st (fun st'=>FarVC ((jU n ((x,y) :: l)) n) st' (K .normal ⟨st'.fr,st'.hp,st'.nid+ops.length⟩)))=_;rw[e,if_neg (by simp[je,hxy])]
def j4(P:Program)(O:Ctx)(id:Nat)(ops:List Oper)(d:Bool)(st:St)(K:Ex→St→Prop)(_:Tag K):Prop:=wN P O (.region id ops.toArray d) st K
theorem qbb{fs:List Fr}{lo:Nat}{rnd:Bool}(n:Nat)(ops:List Oper)(d:Bool)(st:St)(K:Ex→St→Prop):vc P ⟨fs,lo,rnd,Qb n⟩ (.region n ops.toArray d) st K=j4 P ⟨fs,lo,rnd,Qb n⟩ n ops d st K .mk:=by
 have e:Qb n n=[(0,0)]:=by simp[Qb,jU]
 show(if je (Qb n n)=true then wN P _ (.region n ops.toArray d) st K else _)=_;rw[e,if_pos ΩA];rfl
theorem Yd{fs:List Fr}{lo:Nat}{rnd:Bool}{n:Nat}(id:Nat)(ops:List Oper)(d:Bool)(st:St)(K:Ex→St→Prop)(h:id≠n):vc P ⟨fs,lo,rnd,Qb n⟩ (.region id ops.toArray d) st K=zb P ⟨fs,lo,rnd,Qb n⟩ (kL d ops=true) (dsts ops) ops 0 st (fun st'=>K .normal ⟨st'.fr,st'.hp,st'.nid+ops.length⟩):=Gv id ops d st K h
theorem qeF(st:St)(X:Prop):FarVC [] st X=X:=rfl
theorem qbc(a b:Nat)(l:List (Nat×Nat))(fr:List (Nat×SV))(hp:List (Nat×Blk))(nid:Nat)(X:Prop):FarVC ((a,b) :: l) ⟨fr,hp,nid⟩ X=(vl (look fr a) (look fr b)∧FarVC l ⟨fr,hp,nid⟩ X):=rfl
theorem qgi(i j o o':Nat):vl (.ptr i o) (.ptr j o')=(i≠j):=rfl
theorem qgj(i j o k x y:Nat):vl (.ptr i o) (.elt j k x y)=(i≠j):=rfl
theorem qgk(i j o k x y:Nat):vl (.elt j k x y) (.ptr i o)=(j≠i):=rfl
theorem qgl(i j k x y k' x' y':Nat):vl (.elt i k x y) (.elt j k' x' y')=(i≠j):=rfl
theorem qeG(o:Bool)(n:Nat)(row:Nat→SV)(s:SV):vl (.ref o n row) s=True:=by unfold vl qH;rfl
def qgm(P:Program)(O:Ctx)(c:Code)(st:St)(K:Ex→St→Prop)(_:Tag K):Prop:=qaQ O (vc P O c) st K∨wN P O (.loop c) st K
def qnv(P:Program)(O:Ctx)(c:Code)(st:St)(K:Ex→St→Prop)(_:Tag K):Prop:=wN P O c st K
theorem qjM(c:Code)(st:St)(K:Ex→St→Prop):vc P O (.loop c) st K=qgm P O c st K .mk:=rfl
theorem qgn(x:Operand)(ps:Array Tmp)(a b:Code)(st:St)(K:Ex→St→Prop):vc P O (.rangeFunc x ps a b) st K=qnv P O (.rangeFunc x ps a b) st K .mk:=rfl
theorem VS(K:Ex→St→Prop)(n:St→Prop)(st:St):Ke K n .normal st=n st:=rfl
theorem qbd(K:Ex→St→Prop)(n:St→Prop)(id:Nat)(st:St):Ke K n (.exit id) st=K (.exit id) st:=rfl
theorem qeH(K:Ex→St→Prop)(n:St→Prop)(st:St):Ke K n .ret st=K .ret st:=rfl
theorem Jv(K:Ex→St→Prop)(id:Nat)(st:St):Qe id K .normal st=K .normal st:=rfl
def qgo(c:Prop)[Decidable c](A B:Prop)(_:Tag A)(_:Tag B):Prop:=if c then A else B
theorem Ye(K:Ex→St→Prop)(id i:Nat)(st:St):Qe id K (.exit i) st=qgo (i=id) (K .normal st) (K (.exit i) st) .mk .mk:=rfl
theorem qeI(A B:Prop)(x:Tag A)(y:Tag B)(h:Decidable True):@qgo True h A B x y=A:=by simp[qgo]
theorem qbe(A B:Prop)(x:Tag A)(y:Tag B)(h:Decidable False):@qgo False h A B x y=B:=by simp[qgo]
theorem qbf(K:Ex→St→Prop)(id:Nat)(st:St):Qe id K .ret st=K .ret st:=rfl
theorem Yf(b:Bool)(A B:Prop)(x:Tag A)(y:Tag B):qlB P (.val (.bool b)) A B x y=kz b A B .mk .mk:=rfl
theorem qjN{g:Bool}{A B:Prop}{x:Tag A}{y:Tag B}(h1:g=true→A)(h2:g=false→B):kz g A B x y:=⟨h1,h2⟩
theorem qeJ{p:Prop}[Decidable p]{A B:Prop}{x:Tag A}{y:Tag B}(h1:p→A)(h2:¬p→B):kz (decide p) A B x y:=⟨fun h=>h1 (of_decide_eq_true h),fun h=>h2 (of_decide_eq_false h)⟩
section
variable{J:Prop}{j:Tag J}{op:Op}{o:Tag op}
theorem qj{d:Option Tmp}{id:Nat}{fr:List (Nat×SV)}{hp:List (Nat×Blk)}{nid:Nat}{K:St→Prop}{g:Tag K}{f:FuncId}{args pats:List SV}{res:SV}(hc:qf P f pats res)(hs:SubL hp pats args)(hf:Fresh res)(hk:K (St.put ⟨fr,hp,nid⟩ d res)):Gu P O j d id fr hp nid K g f args:=.inl ⟨res,.inl ⟨pats,hc,.inl ⟨hs,hf⟩⟩,hk⟩
theorem vV{d:Option Tmp}{id:Nat}{fr:List (Nat×SV)}{hp:List (Nat×Blk)}{nid:Nat}{K:St→Prop}{g:Tag K}{f:FuncId}{args pats:List SV}{res:SV}(hc:qf P f pats res)(hs:SubL [] pats args)(hk:K (St.put ⟨fr,hp,nid⟩ d res)):Gu P O j d id fr hp nid K g f args:=.inl ⟨res,.inl ⟨pats,hc,.inr hs⟩,hk⟩
theorem callN{d:Option Tmp}{id:Nat}{fr:List (Nat×SV)}{hp:List (Nat×Blk)}{nid:Nat}{K:St→Prop}{g:Tag K}{f:FuncId}{args pats:List SV}{b:Blk}{res:SV}(hc:zx P f pats b res)(hs:SubL hp pats args)(hf:FreshO res)(hb:FreshB b)(hk:K (St.put ⟨fr,(id,b) :: hp,nid⟩ d (setId id res))):Gu P O j d id fr hp nid K g f args:=.inr (.inl ⟨pats,b,res,hc,.inl ⟨hs,hf,hb⟩,hk⟩)
def qnw(P:Program)(rs:List ResultVar)(d:Option Tmp)(fr:List (Nat×SV))(K:St→Prop):Ex→St→Prop
 |.exit _,_=>False
 |.normal,st'=>resultsVC P rs st' fun m=>K (St.put ⟨fr,st'.hp,st'.nid⟩ d (oneSV m))
 |.ret,st'=>resultsVC P rs st' fun m=>K (St.put ⟨fr,st'.hp,st'.nid⟩ d (oneSV m))
theorem qjO{d:Option Tmp}{id:Nat}{fr:List (Nat×SV)}{hp:List (Nat×Blk)}{K:St→Prop}{g:Tag K}{t:TypeId}{x:Operand}{o:Tag (Op.range t x)}{mid:Nat}{fit dom:Value→Bool}{get:Value→SV}{mi:jP}(hJ:J)(hx:env (look fr) x=.mp mid)(ht:qI P t=some mi)(hb:blk hp mid=some (.map fit dom get))
  (h:∀(stamp:Value→Nat)(clk:Nat),(∀k,dom k=true→stamp k<clk)→(∀k k',dom k=true→dom k'=true→stamp k=stamp k'→k=k')→
   K (St.put ⟨fr,(id,.iter mid clk [] clk) :: setBlk hp mid (.mapS fit dom get stamp clk),id+1⟩ d (.ptr id 0))):qjI P O j o d id fr hp K g:=⟨hJ,qeu hx ht hb h⟩
theorem qgp{d:Option Tmp}{id:Nat}{fr:List (Nat×SV)}{hp:List (Nat×Blk)}{K:St→Prop}{g:Tag K}{x:Operand}{o:Tag (Op.next x false)}{iid mid clk:Nat}{seen:List Nat}{fit dom:Value→Bool}{get:Value→SV}{stamp:Value→Nat}(hJ:J)(hx:env (look fr) x=.ptr iid 0)(hbi:blk hp iid=some (.iter mid clk seen clk))(hbm:blk hp mid=some (.mapS fit dom get stamp clk))
  (h1:∀k,fit k=true→dom k=true→stamp k∉seen→K (St.put ⟨fr,setBlk hp iid (.iter mid clk (seen++[stamp k]) clk),id⟩ d (.tup [.val (.bool true),.val k,get k])))
  (h2:(∀k,dom k=true→stamp k∈seen)→K (St.put ⟨fr,hp,id⟩ d (.tup [.val (.bool false)]))):qjI P O j o d id fr hp K g:=⟨hJ,qfY hx hbi hbm h1 h2⟩
theorem qco{s:SV}{d:Option Tmp}{id:Nat}{fr:List (Nat×SV)}{hp:List (Nat×Blk)}{K:St→Prop}{g:Tag K}{x:Operand}{o:Tag (Op.entry x)}{iid mid clk:Nat}{seen:List Nat}{fit dom:Value→Bool}{get:Value→SV}{stamp:Value→Nat}{k:Value}(hJ:J)(hx:env (look fr) x=.ptr iid 0)(hbi:blk hp iid=some (.iter mid clk (seen++[stamp k]) clk))(hbm:blk hp mid=some (.mapS fit dom get stamp clk))
  (hd:dom k=true) (hs:qfZ s k) (h:K (St.put ⟨fr,hp,id⟩ d (.tup [s,get k]))):qjI P O j o d id fr hp K g:=⟨hJ,qev hx hbi hbm hd hs h⟩
end
theorem Yg(rs:List ResultVar)(d:Option Tmp)(fr fr':List (Nat×SV))(hp:List (Nat×Blk))(nid:Nat)(K:St→Prop):qnw P rs d fr K .normal ⟨fr',hp,nid⟩=resultsVC P rs ⟨fr',hp,nid⟩ (fun m=>K (St.put ⟨fr,hp,nid⟩ d (oneSV m))):=rfl
theorem qgq(rs:List ResultVar)(d:Option Tmp)(fr fr':List (Nat×SV))(hp:List (Nat×Blk))(nid:Nat)(K:St→Prop):qnw P rs d fr K .ret ⟨fr',hp,nid⟩=resultsVC P rs ⟨fr',hp,nid⟩ (fun m=>K (St.put ⟨fr,hp,nid⟩ d (oneSV m))):=rfl
def QK(P:Program)(rs:List ResultVar)(st:St)(K:List SV→Prop)(_:Tag K):Prop:=resultsVC P rs st K
theorem Yh(rs:List ResultVar)(st:St)(K:List SV→Prop):resultsVC P rs st K=QK P rs st K .mk:=rfl
theorem qeK(st:St)(K:List SV→Prop)(g:Tag K):QK P [] st K g=K []:=rfl
theorem qeL(t:Tmp)(rs:List ResultVar)(st:St)(K:List SV→Prop)(g:Tag K):QK P (.tmp t :: rs) st K g=QK P rs st (fun m=>K (look st.fr t :: m)) .mk:=rfl
def qcp(P:Program)(rs:List ResultVar)(st:St)(K:List SV→Prop)(_:Tag K)(x:Res):Prop:=match x with
 |.pure obl sv=>obl∧QK P rs st (fun m=>K (sv :: m)) .mk
 |.ex obl=>∃sv,obl sv∧QK P rs st (fun m=>K (sv :: m)) .mk
 |_=>False
theorem qbg(t:Tmp)(ty:TypeId)(rs:List ResultVar)(st:St)(K:List SV→Prop)(g:Tag K):QK P (.cell t ty :: rs) st K g=qcp P rs st K .mk (rLoad (qq P ty) st.hp (look st.fr t)):=rfl
theorem qbh(rs:List ResultVar)(st:St)(K:List SV→Prop)(g:Tag K)(obl:Prop)(sv:SV):qcp P rs st K g (.pure obl sv)=(obl∧QK P rs st (fun m=>K (sv :: m)) .mk):=rfl
theorem qeM(rs:List ResultVar)(st:St)(K:List SV→Prop)(g:Tag K)(r:SV):qcp P rs st K g (.ex fun s=>some r=some s)=QK P rs st (fun m=>K (r :: m)) .mk:=by simp[qcp]
theorem Kq(y:Nat)(L:Loop)(B:Code)(K:Ex→St→Prop)(fr:List (Nat×SV))(hp:List (Nat×Blk))(nid:Nat):Gt P O y L B K .normal ⟨fr,hp,nid⟩=(QF L (blk hp y)∧vc P O B ⟨fr,setBlk hp y (.loop L .busy),nid⟩ K):=rfl
theorem Kr(y:Nat)(L:Loop)(fr fr':List (Nat×SV))(K:St→SV→Prop)(hp:List (Nat×Blk))(nid:Nat):wO y L fr K .normal ⟨fr',hp,nid⟩=(Qf L (blk hp y)∧K ⟨fr,setBlk hp y (.loop L .ready),nid⟩ (.val (.bool true))):=rfl
theorem VT(y:Nat)(L:Loop)(fr fr':List (Nat×SV))(K:St→SV→Prop)(hp:List (Nat×Blk))(nid:Nat):wO y L fr K .ret ⟨fr',hp,nid⟩=(Qf L (blk hp y)∧K ⟨fr,setBlk hp y (.loop L .retd),nid⟩ (.val (.bool false))):=rfl
theorem Jw(y:Nat)(L:Loop)(fr fr':List (Nat×SV))(K:St→SV→Prop)(hp:List (Nat×Blk))(nid i:Nat):wO y L fr K (.exit i) ⟨fr',hp,nid⟩=(Qf L (blk hp y)∧K ⟨fr,setBlk hp y (.loop L (.left i)),nid⟩ (.val (.bool false))):=rfl
def Gw(L:Loop)(fr:List (Nat×SV))(K:Ex→St→Prop)(_:Tag K)(hp:List (Nat×Blk))(nid id:Nat)(o:Option Blk):Prop:=vr L fr K hp nid id o
theorem Ks(id:Nat)(L:Loop)(fr fr':List (Nat×SV))(K:Ex→St→Prop)(hp:List (Nat×Blk))(nid:Nat):jK id L fr K .normal ⟨fr',hp,nid⟩=Gw L fr K .mk hp nid id (blk hp id):=rfl
theorem VU(id:Nat)(L:Loop)(fr fr':List (Nat×SV))(K:Ex→St→Prop)(hp:List (Nat×Blk))(nid:Nat):jK id L fr K .ret ⟨fr',hp,nid⟩=Gw L fr K .mk hp nid id (blk hp id):=rfl
theorem VV(L L':Loop)(fr:List (Nat×SV))(K:Ex→St→Prop)(g:Tag K)(hp:List (Nat×Blk))(nid id:Nat):Gw L fr K g hp nid id (some (.loop L' .ready))=(L'=L∧K .normal ⟨fr,dropBlk hp id,nid⟩):=rfl
theorem Yi(L L':Loop)(fr:List (Nat×SV))(K:Ex→St→Prop)(g:Tag K)(hp:List (Nat×Blk))(nid id:Nat):Gw L fr K g hp nid id (some (.loop L' .retd))=(L'=L∧K .ret ⟨fr,dropBlk hp id,nid⟩):=rfl
theorem Yj(L L':Loop)(fr:List (Nat×SV))(K:Ex→St→Prop)(g:Tag K)(hp:List (Nat×Blk))(nid id i:Nat):Gw L fr K g hp nid id (some (.loop L' (.left i)))=(L'=L∧K (.exit i) ⟨fr,dropBlk hp id,nid⟩):=rfl
theorem Jx(L L':Loop):QF L (some (.loop L' .ready))=(L'=L):=rfl
theorem Yk(L L':Loop):Qf L (some (.loop L' .busy))=(L'=L):=rfl
end
end Go.Sx
end
section
namespace Go.Sx
open Go.RowKit
section
variable(hp:List (Nat×Blk))(m:Nat→Option Nat)(nn:Nat)(sl:Nat→Bool)
mutual
def Wk:SV→SV→Prop
 |.top,_=>True
 |.val v,s=>s=.val v
 |.agg l,s=>match s with|.agg k=>WkL l k|_=>False
 |.tup l,s=>match s with|.tup k=>WkL l k|_=>False
 |.fn f a b,s=>match s with|.fn f' a' b'=>f=f'∧WkL a a'∧WkL b b'|_=>False
 |.ptr id off,s=>match s with|.ptr id2 off2=>id<nn∧m id=some id2∧off=off2|_=>False
 |.elt id k i j,s=>match s with|.elt id2 k2 i2 j2=>id<nn∧m id=some id2∧k=k2∧i=i2∧j=j2|_=>False
 |.ref o n row,s=>match s with
  |.ref o' n' row'=>(o=true→o'=true)∧n≤n'∧∀j,j<n→Wk (row j) (row' j)
  |.ptr id off=>sl id=true∧match blk hp id with
   |some (.cells _ l)=>∀j,j<n→Wk (row j) (l.getD (off+j) .top)∧off+j<l.length
   |_=>False
  |_=>False
 |.arr o full n k row,s=>match s with
  |.arr o' full' n' k' row'=>(o=true→o'=true)∧(full=true→full'=true)∧n=n'∧k=k'∧∀i j,i<n→j<k→Wk (row i j) (row' i j)
  |.vec id n' k'=>sl id=true∧full=false∧n=n'∧k=k'∧match blk hp id with
   |some (.rows _ k'' mm row')=>n≤mm∧k=k''∧∀i j,i<n→j<k→Wk (row i j) (row' i j)
   |_=>False
  |.val u=>nilSlice u=true∧n=0
  |_=>False
 |.vec id n k,s=>match s with
  |.vec id2 n2 k2=>id<nn∧m id=some id2∧n=n2∧k=k2
  |.val u=>nilSlice u=true∧id<nn∧m id=none∧n=0
  |_=>False
 |.mp id,s=>match s with|.mp id2=>id<nn∧m id=some id2|_=>False
 |.asl id off n k,s=>match s with|.asl id2 off2 n2 k2=>id<nn∧m id=some id2∧off=off2∧n=n2∧k=k2|_=>False
 |.que id off n k,s=>match s with
  |.que id2 off2 n2 k2=>id<nn∧m id=some id2∧off=off2∧n=n2∧k=k2
  |.vec id2 n2 k2=>id<nn∧m id=some id2∧off=0∧n=n2∧k=k2
  |_=>False
 |.cut id n k,s=>match s with|.cut id2 n2 k2=>id<nn∧m id=some id2∧n=n2∧k=k2|_=>False
 |.cmp o fit dom get,s=>match s with
  |.cmp o' fit' dom' get'=>(o=true→o'=true)∧fit=fit'∧dom=dom'∧∀key,dom key=true→Wk (get key) (get' key)
  |.mp id=>sl id=true∧match blk hp id with
   |some (.map fit' dom' get')=>fit=fit'∧dom=dom'∧∀key,dom key=true→Wk (get key) (get' key)
   |some (.mapS fit' dom' get' _ _)=>fit=fit'∧dom=dom'∧∀key,dom key=true→Wk (get key) (get' key)
   |_=>False
  |_=>False
 |.yld id,s=>match s with|.yld id2=>id<nn∧m id=some id2|_=>False
def WkL:List SV→List SV→Prop
 |[],k=>k=[]
 |a :: l,k=>match k with|b :: k=>Wk a b∧WkL l k|[]=>False
end
def WkB:Blk→Blk→Prop
 |.cells t l,.cells t2 l2=>t=t2∧WkL hp m nn sl l l2
 |.rows t k n row,.rows t2 k2 n2 row2=>t=t2∧k=k2∧n≤n2∧∀i j,i<n→j<k→Wk hp m nn sl (row i j) (row2 i j)
 |.map fit dom get,.map fit2 dom2 get2=>fit=fit2∧dom=dom2∧∀key,dom key=true→Wk hp m nn sl (get key) (get2 key)
 |.map fit dom get,.mapS fit2 dom2 get2 _ _=>fit=fit2∧dom=dom2∧∀key,dom key=true→Wk hp m nn sl (get key) (get2 key)
 |.mapS fit dom get st c,.mapS fit2 dom2 get2 st2 c2=>fit=fit2∧dom=dom2∧st=st2∧c=c2∧∀key,dom key=true→Wk hp m nn sl (get key) (get2 key)
 |.iter a s l c,.iter a2 s2 l2 c2=>a<nn∧m a=some a2∧s=s2∧l=l2∧c=c2
 |.loop L s,.loop L2 s2=>L=L2∧s=s2
 |_,_=>False
def WkF(fr:List (Nat×SV)):List (Nat×SV)→Prop
 |[]=>True
 |(i,s) :: l=>Wk hp m nn sl s (look fr i)∧WkF fr l
def WkH:List (Nat×Blk)→Prop
 |[]=>True
 |(id,b) :: l=>id<nn∧(match m id with
   |some id2=>sl id2=false∧(match blk hp id2 with|some b2=>WkB hp m nn sl b b2|none=>False)
   |none=>(match b with|.rows _ _ n _=>n=0|_=>False))∧WkH l
end
def injOn(m:Nat→Option Nat):List (Nat×Blk)→Bool
 |[]=>true
 |(id,_) :: l=>(match m id with|none=>true|some x=>l.all fun p=>decide (m p.1≠some x))&&injOn m l
theorem vW{hp:List (Nat×Blk)}{m:Nat→Option Nat}{nn:Nat}{sl:Nat→Bool}:∀{l k:List SV},WkL hp m nn sl l k→l.length=k.length∧∀(i:Nat)(a:SV),l[i]? = some a→∃b,k[i]? = some b∧Wk hp m nn sl a b
 |[],k,h=>by simp only[WkL]at h;subst h;exact⟨rfl,fun i a h=>by simp at h⟩
 |a :: l,[],h=>by simp[WkL]at h
 |a :: l,b :: k,h=>by
  simp only[WkL]at h;obtain⟨h1,h2⟩:=vW h.2;refine⟨by simp[h1],fun i x hx=>?_⟩;cases i with
  |zero=>simp at hx;subst hx;exact⟨b,Ωh,h.1⟩
  |succ i=>exact h2 i x ΩQ
section
variable{hp:List (Nat×Blk)}{m:Nat→Option Nat}{nn:Nat}{sl:Nat→Bool}{r:Nat→Option Nat}{N:Nat→Prop}{G G':Bool→Nat→Prop}{w:World}
mutual
theorem vX(hG:∀o o' b,(o=true→o'=true)→G o' b→G' o b)(hB:∀id x,blk hp id=some x→N id→BlkRep r N G w (r id) x)(hs:∀id x b o,sl id=true→blk hp id=some x→N id→r id=some b→G' o b) :
  ∀(p s:SV)(v:Value),Wk hp m nn sl p s→Rep r N G w s v→Rep (fun id=>(m id).bind r) (· < nn) G' w p v
 |.top,s,v,_,_=>.top v
 |.val u,s,v,h,hv=>by
  simp only[Wk]at h;subst h;cases hv;exact .val u
 |.agg l,s,v,h,hv=>by
  cases s<;>simp only[Wk]at h
  cases hv with
  |agg k cs hl hr=>exact .agg _ _ ((vW h).1.trans hl) fun i a ha=>wk_repL hG hB hs l _ h i a ha _ (fun b hb=>hr i b hb)
 |.tup l,s,v,h,hv=>by
  cases s<;>simp only[Wk]at h
  cases hv with
  |tup k cs hl hr=>exact .tup _ _ ((vW h).1.trans hl) fun i a ha=>wk_repL hG hB hs l _ h i a ha _ (fun b hb=>hr i b hb)
 |.fn f a b,s,v,h,hv=>by
  cases s<;>simp only[Wk]at h
  obtain⟨rfl,h1,h2⟩:=h;cases hv with
  |fn _ l k cs ds hl hk hr hr'=>
   exact .fn _ _ _ _ _ ((vW h1).1.trans hl) ((vW h2).1.trans hk) (fun i x hx=>wk_repL hG hB hs a _ h1 i x hx _ (fun b hb=>hr i b hb)) (fun i x hx=>wk_repL hG hB hs b _ h2 i x hx _ (fun b hb=>hr' i b hb))
 |.ptr id off,s,v,h,hv=>by
  cases s<;>simp only[Wk]at h
  obtain⟨h1,h2,rfl⟩:=h;cases hv with
  |ptr _ _ b hN hr=>exact .ptr _ _ _ h1 ΩT
 |.elt id k i j,s,v,h,hv=>by
  cases s<;>simp only[Wk]at h
  obtain⟨h1,h2,rfl,rfl,rfl⟩:=h;cases hv with
  |elt _ _ _ _ b hN hr=>exact .elt _ _ _ _ _ h1 ΩT
 |.ref o n row,s,v,h,hv=>by
  cases s<;>simp only[Wk]at h
  case ref o' n' row'=>
   obtain⟨ho,hn,hrow⟩:=h;cases hv with
   |ref _ _ _ b off f hg hc hr=>exact .ref _ _ _ _ _ f (hG _ _ _ ho hg) (fun j hj=>hc j Ω) fun j hj=>vX hG hB hs (row j) _ _ (hrow j hj) (hr j Ω)
  case ptr id off=>
   obtain⟨hsl,h⟩:=h;split at h
   ·rename_i t l hb
    cases hv with
    |ptr _ _ b hN hr=>
     have h1:=hB _ _ hb hN;rw[hr]at h1;cases h1 with
     |cells _ _ _ cs hb' hl hrep=>
      refine .ref _ _ _ _ _ (fun j=>cs.getD (off+j) undef) (hs _ _ _ _ hsl hb hN hr) (fun j hj=>zF hb' _ (by have:=(h j hj).2;omega)) fun j hj=>?_;obtain⟨h3,h4⟩:=h j hj;refine vX hG hB hs (row j) _ _ h3 (hrep _ _ ?_);simp[h4]
   ·exact h.elim
 |.arr o full n k row,s,v,h,hv=>by
  cases s<;>simp only[Wk]at h
  case arr o' full' n' k' row'=>
   obtain⟨ho,hf,rfl,rfl,hrow⟩:=h;cases hv with
   |arrNil _ _ _ _ a cap hfc=>exact .arrNil _ _ _ _ _ _ fun e=>hfc (hf e)
   |arr _ _ _ _ _ b off cap f hg hfc hcap hc hr=>
    exact .arr _ _ _ _ _ _ _ _ f (hG _ _ _ ho hg) (fun e=>hfc (hf e)) hcap hc fun i j hi hj=>vX hG hB hs (row i j) _ _ (hrow i j hi hj) (hr i j hi hj)
  case vec id n' k'=>
   obtain⟨hsl,rfl,rfl,rfl,h⟩:=h;split at h
   ·rename_i t k'' mm row' hb
    obtain⟨hnm,rfl,hrow⟩:=h;cases hv with
    |vecNil _ _ hN hr=>exact .arrNil _ _ _ _ _ _ Ωh
    |vec _ _ _ b cap cs t' hN hr hb' hcs hcap hmx=>
     have h1:=hB _ _ hb hN;rw[hr]at h1;cases h1 with
     |rows _ _ _ _ _ cs' hb'' hl hrep=>
      refine .arr _ _ _ _ _ _ _ _ (fun i j=>cs'.getD (i*k+j) undef) (hs _ _ _ _ hsl hb hN hr) Ωh hcap (fun i j hi hj=>?_) fun i j hi hj=>vX hG hB hs (row i j) _ _ (hrow i j hi hj) (hrep i j Ω hj);have hik:i*k+k≤mm*k:=by rw[←Nat.succ_mul];exact xa8 _ Ω
      rw[xb0];exact zF hb'' _ Ω
   ·exact h.elim
  case val u=>
   obtain⟨h1,rfl⟩:=h;obtain rfl:=gi h1;cases hv;exact .arrNil _ _ _ _ _ _ (fun _=>rfl)
 |.vec id n k,s,v,h,hv=>by
  cases s<;>simp only[Wk]at h
  case vec id2 n2 k2=>
   obtain⟨h1,h2,rfl,rfl⟩:=h;cases hv with
   |vecNil _ _ hN hr=>exact .vecNil _ _ h1 ΩT
   |vec _ _ _ b cap cs t hN hr hb hcs hcap hmx=>exact .vec _ _ _ b cap cs t h1 ΩT hb hcs hcap hmx
  case val u=>
   obtain⟨h1,h2,h3,rfl⟩:=h;obtain rfl:=gi h1;cases hv;exact .vecNil _ _ h2 (by rw[h3];rfl)
 |.mp id,s,v,h,hv=>by
  cases s<;>simp only[Wk]at h
  cases hv with
  |mp _ b hN hr=>exact .mp _ _ h.1 (by rw[h.2];exact hr)
 |.asl id off n k,s,v,h,hv=>by
  cases s<;>simp only[Wk]at h
  obtain⟨h1,h2,rfl,rfl,rfl⟩:=h;cases hv with
  |asl _ _ _ _ b cap hN hr hcap=>exact .asl _ _ _ _ _ _ h1 ΩT hcap
 |.que id off n k,s,v,h,hv=>by
  cases s<;>simp only[Wk]at h
  case que id2 off2 n2 k2=>
   obtain⟨h1,h2,rfl,rfl,rfl⟩:=h;cases hv with
   |queNil _ _ _ a hN=>exact .queNil _ _ _ _ h1
   |que _ _ _ _ b cap cs t hN hr hb hcs hcap hmx=>exact .que _ _ _ _ b cap cs t h1 ΩT hb hcs hcap hmx
  case vec id2 n2 k2=>
   obtain⟨h1,h2,rfl,rfl,rfl⟩:=h;cases hv with
   |vecNil _ _ hN hr=>exact .queNil _ _ _ _ h1
   |vec _ _ _ b cap cs t hN hr hb hcs hcap hmx=>
    rw[show(⟨b,0,none⟩:Addr)=⟨b,0*k,none⟩ by rw[Nat.zero_mul]];exact .que _ _ _ _ b cap cs t h1 ΩT hb (by rw[xb0];exact hcs) hcap (by rw[xb0];exact hmx)
 |.cut id n k,s,v,h,hv=>by
  cases s<;>simp only[Wk]at h
  obtain⟨h1,h2,rfl,rfl⟩:=h;cases hv with
  |cutNil _ _ hN hr=>exact .cutNil _ _ h1 ΩT
  |cut _ _ _ b hN hr=>exact .cut _ _ _ b h1 ΩT
 |.yld id,s,v,h,hv=>by
  cases s<;>simp only[Wk]at h
  obtain⟨h1,h2⟩:=h;cases hv with
  |yld _ b hN hr=>exact .yld _ _ h1 ΩT
 |.cmp o fit dom get,s,v,h,hv=>by
  cases s<;>simp only[Wk]at h
  case cmp o' fit' dom' get'=>
   obtain⟨ho,rfl,rfl,hrow⟩:=h;cases hv with
   |cmp _ _ _ _ b es clock hg hb hm hr=>exact .cmp _ _ _ _ b es clock (hG _ _ _ ho hg) hb hm fun e he=>vX hG hB hs (get e.key) _ _ (hrow _ (hm.doms e he)) (hr e he)
  case mp id=>
   obtain⟨hsl,h⟩:=h;split at h
   ·rename_i fit' dom' get' hb
    obtain⟨rfl,rfl,hrow⟩:=h;cases hv with
    |mp _ b hN hr=>
     have h1:=hB _ _ hb hN;rw[hr]at h1;cases h1 with
     |map _ _ _ _ es clock hb' hm ht hrep=>exact .cmp _ _ _ _ b es clock (hs _ _ _ _ hsl hb hN hr) hb' hm fun e he=>vX hG hB hs (get e.key) _ _ (hrow _ (hm.doms e he)) (hrep e he)
   ·rename_i fit' dom' get' st' c' hb
    obtain⟨rfl,rfl,hrow⟩:=h;cases hv with
    |mp _ b hN hr=>
     have h1:=hB _ _ hb hN;rw[hr]at h1;cases h1 with
     |mapS _ _ _ _ _ es _ hb' hm ht hst hrep=>exact .cmp _ _ _ _ b es _ (hs _ _ _ _ hsl hb hN hr) hb' hm fun e he=>vX hG hB hs (get e.key) _ _ (hrow _ (hm.doms e he)) (hrep e he)
   ·exact h.elim
theorem wk_repL(hG:∀o o' b,(o=true→o'=true)→G o' b→G' o b)(hB:∀id x,blk hp id=some x→N id→BlkRep r N G w (r id) x)(hs:∀id x b o,sl id=true→blk hp id=some x→N id→r id=some b→G' o b) :
  ∀(l k:List SV),WkL hp m nn sl l k→∀(i:Nat)(a:SV),l[i]? = some a→∀(v:Value),(∀b,k[i]? = some b→Rep r N G w b v)→Rep (fun id=>(m id).bind r) (· < nn) G' w a v
 |[],k,h,i,a,ha,v,hv=>by simp at ha
 |p :: l,k,h,i,a,ha,v,hv=>by
  cases k with
  |nil=>simp[WkL]at h
  |cons b k=>
   simp only[WkL]at h;cases i with
   |zero=>
    simp at ha;subst ha;exact vX hG hB hs p b v h.1 (hv b Ωh)
   |succ i=>exact wk_repL hG hB hs l k h.2 i a (by simpa using ha) v (fun c hc=>hv c (by simpa using hc))
end
theorem qcq{fr:List (Nat×SV)}:∀{l:List (Nat×SV)},WkF hp m nn sl fr l→∀i,Wk hp m nn sl (look l i) (look fr i)
 |[],_,i=>by simp[look,Wk]
 |(j,s) :: l,h,i=>by
  simp only[WkF]at h;simp only[look];split
  ·rename_i e;subst e;exact h.1
  ·exact qcq h.2 i
theorem qcr:∀{l:List (Nat×Blk)},WkH hp m nn sl l→∀id x,blk l id=some x→id<nn∧(match m id with
   |some id2=>sl id2=false∧(match blk hp id2 with|some b2=>WkB hp m nn sl x b2|none=>False)
   |none=>(match x with|.rows _ _ n _=>n=0|_=>False))
 |[],_,id,x,hx=>by simp[blk]at hx
 |(j,b) :: l,h,id,x,hx=>by
  simp only[WkH]at h;simp only[blk]at hx;split at hx
  ·rename_i e;subst e;cases hx;exact⟨h.1,h.2.1⟩
  ·exact qcr h.2.2 id x hx
theorem JY:∀{l:List (Nat×Blk)},injOn m l=true→∀id x id' x' y,blk l id=some x→blk l id'=some x'→m id=some y→m id'=some y→id=id'
 |[],_,id,x,id',x',y,hx,_,_,_=>by simp[blk]at hx
 |(j,b) :: l,h,id,x,id',x',y,hx,hx',hy,hy'=>by
  simp only[injOn,xe6]at h;have mem:∀{l:List (Nat×Blk)}{i:Nat}{z:Blk},blk l i=some z→∃p∈l,p.1=i:=by
   intro l
   induction l with
   |nil=>intro i z hz;simp[blk]at hz
   |cons q l ih=>
    obtain⟨q1,q2⟩:=q;intro i z hz;simp only[blk]at hz;split at hz
    ·rename_i e;exact⟨_,xd5,e.symm⟩
    ·obtain⟨p,hp,he⟩:=ih hz
     exact⟨p,List.mem_cons_of_mem _ hp,he⟩
  simp only[blk]at hx hx';by_cases e:id=j
  ·by_cases e':id'=j
   ·rw[e,e']
   ·subst e
    rw[if_neg e']at hx';have h1:=h.1;rw[hy]at h1;obtain⟨p,hp,he⟩:=mem hx';have:=List.all_eq_true.1 h1 p hp;rw[he,hy']at this;simp at this
  ·rw[if_neg e]at hx
   by_cases e':id'=j
   ·subst e'
    have h1:=h.1;rw[hy']at h1;obtain⟨p,hp,he⟩:=mem hx;have:=List.all_eq_true.1 h1 p hp;rw[he,hy]at this;simp at this
   ·rw[if_neg e']at hx'
    exact JY h.2 id x id' x' y hx hx' hy hy'
end
theorem jC{hp:List (Nat×Blk)}{m:Nat→Option Nat}{nn:Nat}{sl:Nat→Bool}{l:List (Nat×Blk)}(h:∀id x,blk l id=some x→id<nn∧(match m id with
   |some id2=>sl id2=false∧(match blk hp id2 with|some b2=>WkB hp m nn sl x b2|none=>False)
   |none=>(match x with|.rows _ _ n _=>n=0|_=>False))) {id:Nat} {x:Blk} (hx:blk l id=some x) {id2:Nat} (hm:m id=some id2):sl id2=false∧∃b2,blk hp id2=some b2∧WkB hp m nn sl x b2:=by
 have:=(h id x hx).2;rw[hm]at this;simp only[]at this;refine⟨this.1,?_⟩;cases hb:blk hp id2 with
 |none=>rw[hb]at this;exact this.2.elim
 |some b2=>rw[hb]at this;exact⟨b2,rfl,this.2⟩
theorem Yl{O:Ctx}{st st':St}(m:Nat→Option Nat)(sl:Nat→Bool)(hf:∀i,Wk st.hp m st'.nid sl (look st'.fr i) (look st.fr i))(hh:∀id x,blk st'.hp id=some x→id<st'.nid∧(match m id with
   |some id2=>sl id2=false∧(match blk st.hp id2 with|some b2=>WkB st.hp m st'.nid sl x b2|none=>False)
   |none=>(match x with|.rows _ _ n _=>n=0|_=>False))) (hi:∀id x id' x' y,blk st'.hp id=some x→blk st'.hp id'=some x'→m id=some y→m id'=some y→id=id') (hlo:O.lo≤st'.nid) (hmo:∀id,id<O.lo→m id=some id)
  {base:World} {okc:Nat→Prop} {ns:Nat} {r:Nat→Option Nat} {outs:gJ} {a:Act} {w:World} (h:InvR O base okc ns st.nid r outs st a w) :
  InvR O base okc ns st'.nid (fun id=>(m id).bind r) outs st' a w∧∀p s v,Wk st.hp m st'.nid sl p s→Rep r (· < st.nid) (Gd base okc r (· < st.nid) st.hp w) w s v→Rep (fun id=>(m id).bind r) (· < st'.nid) (Gd base okc (fun id=>(m id).bind r) (· < st'.nid) st'.hp w) w p v:=by
 have hG:∀o o' b,(o=true→o'=true)→Gd base okc r (· < st.nid) st.hp w o' b→Gd base okc (fun id=>(m id).bind r) (· < st'.nid) st'.hp w o b:=fun o o' b ho hg=>by
  refine⟨hg.1,fun id x hx hN e=>?_,?_⟩
  ·cases hm:m id with
   |none=>dsimp only at e;rw[hm]at e;simp at e
   |some id2=>
    dsimp only at e;rw[hm]at e;obtain⟨_,b2,hb2,_⟩:=jC hh hx hm;exact hg.2.1 id2 b2 hb2 (h.keys id2 b2 hb2) e
  ·have:=hg.2.2
   cases o<;>cases o'<;>simp_all
 have hsl:∀id x b o,sl id=true→blk st.hp id=some x→id<st.nid→r id=some b→Gd base okc (fun id=>(m id).bind r) (· < st'.nid) st'.hp w o b:=fun id x b o hs hx hN hr=>by
  refine⟨h.sat.lt hx hN hr,fun id' x' hx' hN' e=>?_,?_⟩
  ·cases hm:m id' with
   |none=>dsimp only at e;rw[hm]at e;simp at e
   |some id2=>
    dsimp only at e;rw[hm]at e;obtain⟨hs2,b2,hb2,_⟩:=jC hh hx' hm;have:=h.sat.inj _ _ _ _ _ hx hN hb2 (h.keys id2 b2 hb2) hr e;subst this;rw[hs]at hs2;cases hs2
  ·have:=h.sat.own id x b hx hN hr
   cases o<;>simp[this]
 have key:=fun p s v=>vX (m:=m) (nn:=st'.nid) hG (fun id x hx hN=>h.sat.rep id x hx hN) hsl p s v;refine⟨⟨⟨h.sat.below,fun id x hx hN=>?_,fun id x b hx hN e=>?_,fun id x id' x' b hx hN hx' hN' e e'=>?_⟩,fun id x hx=>(hh id x hx).1,fun i=>key _ _ _ (hf i) (h.fr i),h.size,hlo,h.out.mono (xa5 _) (fun n hn sv v hv=>hv.mono (fun id hid=>by simp only[hmo id (xa9 hid hn),Option.bind_some]) (fun _ h=>h) (fun o b hb=>⟨hG o o b (fun h=>h) hb,rfl⟩) (Shapes.refl w)),fun id hid=>by simp only[hmo id hid,Option.bind_some];exact h.rfix id hid,?_⟩,key⟩
 ·have hx2:=(hh id x hx).2
  cases hm:m id with
  |none=>
   rw[hm]at hx2;simp only[Option.bind_none];cases x with
   |rows t k n row=>
    simp only[]at hx2;subst hx2;exact .none t k row
   |_=>exact hx2.elim
  |some id2=>
   simp only[Option.bind_some];obtain⟨_,b2,hb2,hw⟩:=jC hh hx hm;have hrep:=h.sat.rep id2 b2 hb2 (h.keys id2 b2 hb2);cases hrb:r id2 with
   |none=>
    rw[hrb]at hrep;cases hrep with
    |none t k row=>
     cases x<;>simp only[WkB]at hw
     obtain⟨rfl,rfl,hn,_⟩:=hw;have hn0:=Nat.le_zero.1 hn;subst hn0;exact .none _ _ _
   |some b=>
    rw[hrb]at hrep;cases hrep with
    |cells t l _ cs hb hl hrep=>
     cases x<;>simp only[WkB]at hw
     obtain⟨rfl,hw⟩:=hw;refine .cells _ _ _ cs hb ((vW hw).1.trans hl) fun i sv hi=>?_;obtain⟨b',hb',hwk⟩:=(vW hw).2 i sv hi;exact key _ _ _ hwk (hrep i b' hb')
    |rows t k n row _ cs hb hl hrep=>
     cases x<;>simp only[WkB]at hw
     obtain⟨rfl,rfl,hn,hw⟩:=hw;refine .rows _ _ _ _ _ cs hb (xc1 (xa8 _ hn) hl) fun i j hi hj=>key _ _ _ (hw i j hi hj) (hrep i j Ω hj)
    |mapS fit dom get st c es _ hb hm' ht hst hrep=>
     cases x<;>simp only[WkB]at hw
     ·obtain⟨rfl,rfl,hw⟩:=hw
      exact .map _ _ _ _ es _ hb hm' ht fun e he=>key _ _ _ (hw _ (hm'.doms e he)) (hrep e he)
     ·obtain⟨rfl,rfl,rfl,rfl,hw⟩:=hw
      exact .mapS _ _ _ _ _ es _ hb hm' ht hst fun e he=>key _ _ _ (hw _ (hm'.doms e he)) (hrep e he)
    |iter mid since seen last _ bm hN2 hr2 hb=>
     cases x<;>simp only[WkB]at hw
     obtain⟨w1,w2,rfl,rfl,rfl⟩:=hw;exact .iter _ _ _ _ _ bm w1 (by rw[w2];exact hr2) hb
    |loop L s _ hb=>
     cases x<;>simp only[WkB]at hw
     obtain⟨rfl,rfl⟩:=hw;exact .loop _ _ _ hb
    |map fit dom get _ es clock hb hm' ht hrep=>
     cases x<;>simp only[WkB]at hw
     obtain⟨rfl,rfl,hw⟩:=hw;exact .map _ _ _ _ es clock hb hm' ht fun e he=>key _ _ _ (hw _ (hm'.doms e he)) (hrep e he)
 ·cases hm:m id with
  |none=>rw[hm]at e;simp at e
  |some id2=>
   rw[hm]at e;obtain⟨_,b2,hb2,_⟩:=jC hh hx hm;exact h.sat.own id2 b2 b hb2 (h.keys id2 b2 hb2) e
 ·cases hm:m id with
  |none=>rw[hm]at e;simp at e
  |some y=>
   cases hm':m id' with
   |none=>rw[hm']at e';simp at e'
   |some y'=>
    rw[hm]at e;rw[hm']at e';obtain⟨_,b2,hb2,_⟩:=jC hh hx hm;obtain⟨_,b2',hb2',_⟩:=jC hh hx' hm';have:=h.sat.inj _ _ _ _ _ hb2 (h.keys y b2 hb2) hb2' (h.keys y' b2' hb2') e e';subst this;exact hi _ _ _ _ _ hx hx' hm hm'
 ·obtain⟨Ds,h1,h2,h3⟩:=h.defers
  exact⟨Ds,h1,h2,fun D hD=>⟨hG true true D (fun h=>h) (h3 D hD).1,(h3 D hD).2⟩⟩
theorem qjP{O:Ctx}{st st':St}(m:Nat→Option Nat)(sl:Nat→Bool)(hf:WkF st.hp m st'.nid sl st.fr st'.fr)(hh:WkH st.hp m st'.nid sl st'.hp)(hi:injOn m st'.hp=true)(hlo:O.lo≤st'.nid)(hmo:∀id,id<O.lo→m id=some id):Weak O st st':=by
 rintro base okc ns outs a w ⟨r,h⟩;exact⟨_,(Yl m sl (qcq hf) (qcr hh) (JY hi) hlo hmo h).1⟩
theorem Weak.refl(O:Ctx)(st:St):Weak O st st:=fun _ _ _ _ _ _ h=>h
theorem Weak.trans{O:Ctx}{a b c:St}(h:Weak O a b)(k:Weak O b c):Weak O a c:=fun base okc ns outs x w hi=>k _ _ _ _ _ _ (h _ _ _ _ _ _ hi)
def ren:List (Nat×Option Nat)→Nat→Option Nat
 |[],i=>some i
 |(j,x) :: l,i=>if i=j then x else ren l i
def isIn:List Nat→Nat→Bool
 |[],_=>false
 |j :: l,i=>if i=j then true else isIn l i
def Ym(lo nid:Nat):List (Nat×Option Nat)→Bool
 |[]=>decide (lo≤nid)
 |(j,_) :: l=>decide (lo≤j)&&Ym lo nid l
theorem Qg{lo nid:Nat}:∀{l:List (Nat×Option Nat)},Ym lo nid l=true→lo≤nid∧∀id,id<lo→ren l id=some id
 |[],h=>⟨by simpa[Ym]using h,fun id _=>rfl⟩
 |(j,x) :: l,h=>by
  simp only[Ym,xe6,decide_eq_true_eq]at h;obtain⟨h1,h2⟩:=Qg h.2;refine⟨h1,fun id hid=>?_⟩;simp only[ren];rw[if_neg Ω];exact h2 id hid
theorem gR{O:Ctx}{fr fr':List (Nat×SV)}{hp hp':List (Nat×Blk)}{nid nid':Nat}(rn:List (Nat×Option Nat))(sl:List Nat)(hf:WkF hp (ren rn) nid' (isIn sl) fr fr')(hh:WkH hp (ren rn) nid' (isIn sl) hp')(hi:injOn (ren rn) hp'=true)(hO:Ym O.lo nid' rn=true:=by decide) :
  Weak O ⟨fr,hp,nid⟩ ⟨fr',hp',nid'⟩:=qjP (ren rn) (isIn sl) hf hh hi (Qg hO).1 (Qg hO).2
section
variable{P:Program}{O:Ctx}{J:Prop}
theorem qmj{body:St→(Ex→St→Prop)→Prop}{st:St}{K:Ex→St→Prop}{α:Type}(Pr:α→Prop)(inv:α→St)(μ:α→Nat)(x0:α)(hp0:Pr x0)(h0:Weak O st (inv x0))
  (h:∀x,Pr x→body (inv x) (Ke K fun st'=>∃y,Pr y∧μ y<μ x∧Weak O st' (inv y))) (hmono:∀st K K',body st K→(∀e st',K e st'→K' e st')→body st K'):qaQ O body st K:=
 ⟨{ x:α // Pr x },fun x=>inv x.1,fun x=>μ x.1,⟨x0,hp0⟩,h0,fun x=>hmono _ _ _ (h x.1 x.2) fun e st' hk=>by
  cases e with
  |normal=>obtain⟨y,hy,hlt,hw⟩:=hk;exact⟨⟨y,hy⟩,hlt,hw⟩
  |exit i=>exact hk
  |ret=>exact hk⟩
theorem Kh{f:FuncId}{args:List SV}{st:St}{K K':St→SV→Prop}(h:kT P O f args st K)(hk:∀st' sv,K st' sv→K' st' sv):kT P O f args st K':=fun base okc ns r outs a w vs h1 h2 h3=>by
 obtain⟨e1,e2⟩:=h base okc ns r outs a w vs h1 h2 h3;exact⟨e1,e2.mono fun e w' ⟨v,st',r',res,g1,g2,g3⟩=>⟨v,st',r',res,g1,hk _ _ g2,g3⟩⟩
theorem VW{y:Nat}{args:List SV}{st:St}{K K':St→SV→Prop}(h:yn P O y args st K)(hk:∀st' sv,K st' sv→K' st' sv):yn P O y args st K':=fun base okc ns r outs a w vs l h1 h2 h3 h4 h5=>by
 obtain⟨fn,tmps,A,B,e1,e2⟩:=h base okc ns r outs a w vs l h1 h2 h3 h4 h5;exact⟨fn,tmps,A,B,e1,RoundIn.mono e2 fun e w' ⟨v,st',r',res,g1,g2,g3⟩=>⟨v,st',r',res,g1,hk _ _ g2,g3⟩⟩
theorem qjQ{op:Op}{st:St}{K K':St→SV→Prop}(h:OpVC P O op st K)(hk:∀st' sv,K st' sv→K' st' sv):OpVC P O op st K':=fun base okc ns r outs a w o h1 h2=>by
 obtain⟨v,w',e1,st',r',res,g2,g3⟩:=h base okc ns r outs a w o h1 h2;exact⟨v,w',e1,st',r',res,hk _ _ g2,g3⟩
theorem qgr{op:Op}{d:Option Tmp}{id:Nat}{st:St}{K K':St→Prop}{x:Res}(h:wq P O J op d id st K x)(hk:∀st',K st'→K' st'):wq P O J op d id st K' x:=by
 cases x with
 |bad=>exact h
 |pure obl r=>exact⟨h.1,hk _ h.2⟩
 |ex obl=>obtain⟨r,h1,h2⟩:=h;exact⟨r,h1,hk _ h2⟩
 |new obl b mk=>exact⟨h.1,hk _ h.2⟩
 |upd obl j b=>exact⟨h.1,hk _ h.2⟩
 |updv obl j b sv=>exact⟨h.1,hk _ h.2⟩
 |grow obl j b mk=>exact⟨h.1,hk _ h.2⟩
 |call f args=>
  rcases h with⟨res,h1,h3⟩|⟨pats,b,res,h1,h2,h3⟩|⟨hJ,h⟩
  ·exact .inl ⟨res,h1,hk _ h3⟩
  ·exact .inr (.inl ⟨pats,b,res,h1,h2,hk _ h3⟩)
  ·exact .inr (.inr ⟨hJ,Kh h fun _ _=>hk _⟩)
 |yield y args=>exact⟨h.1,VW h.2 fun _ _=>hk _⟩
 |raw=>exact⟨h.1,qjQ h.2 fun _ _=>hk _⟩
theorem qbi{ds:List (Option Tmp)}{g:Option (Nat×Bool)}{st:St}{run run' skip skip':St→Prop}(h:zo ds g st run skip)(h1:∀st,run st→run' st)(h2:∀st,skip st→skip' st):zo ds g st run' skip':=by
 unfold zo at *;split at h
 ·exact h1 _ h
 ·split at h
  ·exact h.elim
  ·rename_i hn
   split at h
   ·split at h
    ·exact⟨fun e=>h1 _ (h.1 e),fun e=>h2 _ (h.2 e)⟩
    ·exact⟨fun e=>h2 _ (h.1 e),fun e=>h1 _ (h.2 e)⟩
   ·exact h2 _ h
   ·exact h.elim
theorem Gx{ds:List (Option Tmp)}:∀(ops:List Oper)(i:Nat)(st:St)(K K':St→Prop),zb P O J ds ops i st K→(∀st',K st'→K' st')→zb P O J ds ops i st K'
 |[],i,st,K,K',h,hk=>hk _ h
 |o :: rest,i,st,K,K',h,hk=>qbi h (fun st h=>qgr h fun st' h=>Gx rest _ _ _ _ h hk) (fun st h=>Gx rest _ _ _ _ h hk)
theorem jq:∀(c:Code)(st:St)(K K':Ex→St→Prop),vc P O c st K→(∀e st',K e st'→K' e st')→vc P O c st K'
 |.skip,st,K,K',h,hk=>hk _ _ h
 |.label l,st,K,K',h,hk=>hk _ _ h
 |.ret,st,K,K',h,hk=>hk _ _ h
 |.exit id,st,K,K',h,hk=>hk _ _ h
 |.seq a b,st,K,K',h,hk=>jq a st _ _ h fun e st' h=>by
  cases e with
  |normal=>exact jq b st' _ _ h hk
  |exit i=>exact hk _ _ h
  |ret=>exact hk _ _ h
 |.cond c t e,st,K,K',h,hk=>by
  simp only[vc,Gn]at h ⊢;split at h
  ·rename_i b hb
   exact⟨fun e'=>jq t st _ _ (h.1 e') hk,fun e'=>jq e st _ _ (h.2 e') hk⟩
  ·exact h.elim
 |.block id c,st,K,K',h,hk=>jq c st _ _ h fun e st' h=>by
  cases e with
  |normal=>exact hk _ _ h
  |exit i=>
   simp only[Qe]at h ⊢;split at h
   ·rename_i e;rw[if_pos e];exact hk _ _ h
   ·rename_i e;rw[if_neg e];exact hk _ _ h
  |ret=>exact hk _ _ h
 |.scope c,st,K,K',h,hk=>jq c st _ _ h hk
 |.region id ops d,st,K,K',h,hk=>by
  simp only[vc]at h ⊢;split at h
  ·rename_i hh
   rw[if_pos hh];exact fun base okc ns outs a w ro Q h1 h2 hi hK=>h base okc ns outs a w ro Q h1 h2 hi fun e st' a' w' hk'=>hK e st' a' w' (hk e st' hk')
  ·rename_i hh
   rw[if_neg hh];exact Gx _ _ _ _ _ h fun st' h=>FarVC.mono (hk _ _) h
 |.loop c,st,K,K',h,hk=>by
  rcases h with h|h
  rotate_left
  ·exact .inr fun base okc ns outs a w ro Q h1 h2 hi hK=>h base okc ns outs a w ro Q h1 h2 hi fun e st' a' w' hk'=>hK e st' a' w' (hk e st' hk')
  obtain⟨α,inv,μ,x0,h0,h1⟩:=h;refine .inl ⟨α,inv,μ,x0,h0,fun x=>jq c _ _ _ (h1 x) fun e st' h=>?_⟩;cases e with
  |normal=>exact h
  |exit i=>exact hk _ _ h
  |ret=>exact hk _ _ h
 |.rangeFunc _ _ _ _,st,K,K',h,hk=>fun base okc ns outs a w ro Q h1 h2 hi hK=>h base okc ns outs a w ro Q h1 h2 hi fun e st' a' w' hk'=>hK e st' a' w' (hk e st' hk')
 |.goto _,st,K,K',h,hk=>h.elim
 |.refuse _,st,K,K',h,hk=>h.elim
theorem qn{c:Code}{st:St}{K:Ex→St→Prop}{α:Type}(Pr:α→Prop)(inv:α→St)(μ:α→Nat)(x0:α)(hp0:Pr x0)(h0:Weak O st (inv x0))
  (h:∀x,Pr x→vc P O c (inv x) (Ke K fun st'=>∃y,Pr y∧μ y<μ x∧Weak O st' (inv y))) {g:Tag K}:qgm P O c st K g:=
 .inl<|qmj Pr inv μ x0 hp0 h0 h fun st K K' h hk=>jq c st K K' h hk
end
end Go.Sx
end
section
namespace Go.Sx
open Go.RowKit
theorem qgs(ag:Bool)(sz:Nat)(z:Option (List Value))(e:TypeId)(k:Nat)(o full:Bool)(n k2:Nat)(row:Nat→Nat→SV):rSlice (some ⟨ag,sz,z,.slice e k⟩) (.arr o full n k2 row) none none none=.pure (0≤(0:Int)∧(0:Int)≤(n:Int)∧(n:Int)≤(n:Int)∧k2=k) (.arr o (full&&true) ((n:Int) -(0:Int)).toNat k (fun i j=>row (((0:Int):Int).toNat+i) j)):=rfl
theorem qgt(ag:Bool)(sz:Nat)(z:Option (List Value))(e:TypeId)(k:Nat)(o full:Bool)(n k2:Nat)(row:Nat→Nat→SV)(kh:IntKind)(h:Int):rSlice (some ⟨ag,sz,z,.slice e k⟩) (.arr o full n k2 row) none (some (.val (.int kh h))) none=.pure (0≤(0:Int)∧(0:Int)≤h∧h≤(n:Int)∧k2=k) (.arr o (full&&false) (h -(0:Int)).toNat k (fun i j=>row (((0:Int):Int).toNat+i) j)):=rfl
theorem qgu(ag:Bool)(sz:Nat)(z:Option (List Value))(e:TypeId)(k:Nat)(o full:Bool)(n k2:Nat)(row:Nat→Nat→SV)(kh:IntKind)(h:Int)(km:IntKind)(m:Int):rSlice (some ⟨ag,sz,z,.slice e k⟩) (.arr o full n k2 row) none (some (.val (.int kh h))) (some (.val (.int km m)))=.pure (0≤(0:Int)∧(0:Int)≤h∧h≤(n:Int)∧h=m∧True∧k2=k) (.arr o true (h -(0:Int)).toNat k (fun i j=>row (((0:Int):Int).toNat+i) j)):=by simp only[rSlice,bnd,Option.isSome_some]
theorem qgv(ag:Bool)(sz:Nat)(z:Option (List Value))(e:TypeId)(k:Nat)(o full:Bool)(n k2:Nat)(row:Nat→Nat→SV)(kl:IntKind)(l:Int):rSlice (some ⟨ag,sz,z,.slice e k⟩) (.arr o full n k2 row) (some (.val (.int kl l))) none none=.pure (0≤l∧l≤(n:Int)∧(n:Int)≤(n:Int)∧k2=k) (.arr o (full&&true) ((n:Int) - l).toNat k (fun i j=>row ((l:Int).toNat+i) j)):=rfl
theorem qgw(ag:Bool)(sz:Nat)(z:Option (List Value))(e:TypeId)(k:Nat)(o full:Bool)(n k2:Nat)(row:Nat→Nat→SV)(kl:IntKind)(l:Int)(kh:IntKind)(h:Int):rSlice (some ⟨ag,sz,z,.slice e k⟩) (.arr o full n k2 row) (some (.val (.int kl l))) (some (.val (.int kh h))) none=.pure (0≤l∧l≤h∧h≤(n:Int)∧k2=k) (.arr o (full&&false) (h - l).toNat k (fun i j=>row ((l:Int).toNat+i) j)):=rfl
theorem qgx(ag:Bool)(sz:Nat)(z:Option (List Value))(e:TypeId)(k:Nat)(o full:Bool)(n k2:Nat)(row:Nat→Nat→SV)(kl:IntKind)(l:Int)(kh:IntKind)(h:Int)(km:IntKind)(m:Int):rSlice (some ⟨ag,sz,z,.slice e k⟩) (.arr o full n k2 row) (some (.val (.int kl l))) (some (.val (.int kh h))) (some (.val (.int km m)))=.pure (0≤l∧l≤h∧h≤(n:Int)∧h=m∧True∧k2=k) (.arr o true (h - l).toNat k (fun i j=>row ((l:Int).toNat+i) j)):=by simp only[rSlice,bnd,Option.isSome_some]
theorem qeN(h:Int)(id k:Nat):zZ 0 h id k=.vec id h.toNat k:=rfl
theorem qgy(h:Int)(id k:Nat):jD 0 h h id k=.cut id h.toNat k:=by simp[jD]
theorem qgz(ag:Bool)(sz:Nat)(z:Option (List Value))(e:TypeId)(k:Nat)(id n k2:Nat):rSlice (some ⟨ag,sz,z,.slice e k⟩) (.vec id n k2) none none none=.pure ((0:Int)≤0∧0≤(n:Int)∧(n:Int)≤(n:Int)∧((0:Int)=0∨(n:Int)=n)∧k2=k) (.vec id ((n:Int)).toNat k):=rfl
theorem qgA(ag:Bool)(sz:Nat)(z:Option (List Value))(e:TypeId)(k:Nat)(id n k2:Nat)(kh:IntKind)(h:Int):rSlice (some ⟨ag,sz,z,.slice e k⟩) (.vec id n k2) none (some (.val (.int kh h))) none=.pure ((0:Int)≤0∧0≤h∧h≤(n:Int)∧((0:Int)=0∨h=(n:Int))∧k2=k) (.vec id (h).toNat k):=rfl
theorem qgB(ag:Bool)(sz:Nat)(z:Option (List Value))(e:TypeId)(k:Nat)(id n k2:Nat)(kh:IntKind)(h:Int)(km:IntKind)(m:Int):rSlice (some ⟨ag,sz,z,.slice e k⟩) (.vec id n k2) none (some (.val (.int kh h))) (some (.val (.int km m)))=.pure ((0:Int)≤0∧0≤h∧h≤m∧m≤(n:Int)∧True∧k2=k) (jD 0 h m id k):=by simp only[rSlice,bnd,Option.isSome_some]
theorem qgC(ag:Bool)(sz:Nat)(z:Option (List Value))(e:TypeId)(k:Nat)(id n k2:Nat)(kl:IntKind)(l:Int):rSlice (some ⟨ag,sz,z,.slice e k⟩) (.vec id n k2) (some (.val (.int kl l))) none none=.pure (0≤l∧l≤(n:Int)∧(n:Int)≤(n:Int)∧(l=0∨(n:Int)=n)∧k2=k) (zZ l n id k):=rfl
theorem qgD(ag:Bool)(sz:Nat)(z:Option (List Value))(e:TypeId)(k:Nat)(id n k2:Nat)(kl:IntKind)(l:Int)(kh:IntKind)(h:Int):rSlice (some ⟨ag,sz,z,.slice e k⟩) (.vec id n k2) (some (.val (.int kl l))) (some (.val (.int kh h))) none=.pure (0≤l∧l≤h∧h≤(n:Int)∧(l=0∨h=(n:Int))∧k2=k) (zZ l h id k):=rfl
theorem qgE(ag:Bool)(sz:Nat)(z:Option (List Value))(e:TypeId)(k:Nat)(id n k2:Nat)(kl:IntKind)(l:Int)(kh:IntKind)(h:Int)(km:IntKind)(m:Int):rSlice (some ⟨ag,sz,z,.slice e k⟩) (.vec id n k2) (some (.val (.int kl l))) (some (.val (.int kh h))) (some (.val (.int km m)))=.pure (0≤l∧l≤h∧h≤m∧m≤(n:Int)∧True∧k2=k) (jD l h m id k):=by simp only[rSlice,bnd,Option.isSome_some]
theorem qgF(ag:Bool)(sz:Nat)(z:Option (List Value))(e:TypeId)(k:Nat)(u:Value):rSlice (some ⟨ag,sz,z,.slice e k⟩) (.val u) none none none=.pure (nilSlice u=true∧(0:Int)=(0:Int)∧0=(0:Int)) (.val (.slice none 0 0)):=rfl
theorem qgG(ag:Bool)(sz:Nat)(z:Option (List Value))(e:TypeId)(k:Nat)(u:Value)(kh:IntKind)(h:Int):rSlice (some ⟨ag,sz,z,.slice e k⟩) (.val u) none (some (.val (.int kh h))) none=.pure (nilSlice u=true∧(0:Int)=(0:Int)∧h=(0:Int)) (.val (.slice none 0 0)):=rfl
theorem qgH(ag:Bool)(sz:Nat)(z:Option (List Value))(e:TypeId)(k:Nat)(u:Value)(kh:IntKind)(h:Int)(km:IntKind)(m:Int):rSlice (some ⟨ag,sz,z,.slice e k⟩) (.val u) none (some (.val (.int kh h))) (some (.val (.int km m)))=.pure (nilSlice u=true∧(0:Int)=(0:Int)∧h=(0:Int)∧m=0∧True) (.val (.slice none 0 0)):=by simp only[rSlice,bnd,Option.isSome_some]
theorem qgI(ag:Bool)(sz:Nat)(z:Option (List Value))(e:TypeId)(k:Nat)(u:Value)(kl:IntKind)(l:Int):rSlice (some ⟨ag,sz,z,.slice e k⟩) (.val u) (some (.val (.int kl l))) none none=.pure (nilSlice u=true∧l=(0:Int)∧0=(0:Int)) (.val (.slice none 0 0)):=rfl
theorem qgJ(ag:Bool)(sz:Nat)(z:Option (List Value))(e:TypeId)(k:Nat)(u:Value)(kl:IntKind)(l:Int)(kh:IntKind)(h:Int):rSlice (some ⟨ag,sz,z,.slice e k⟩) (.val u) (some (.val (.int kl l))) (some (.val (.int kh h))) none=.pure (nilSlice u=true∧l=(0:Int)∧h=(0:Int)) (.val (.slice none 0 0)):=rfl
theorem qgK(ag:Bool)(sz:Nat)(z:Option (List Value))(e:TypeId)(k:Nat)(u:Value)(kl:IntKind)(l:Int)(kh:IntKind)(h:Int)(km:IntKind)(m:Int):rSlice (some ⟨ag,sz,z,.slice e k⟩) (.val u) (some (.val (.int kl l))) (some (.val (.int kh h))) (some (.val (.int km m)))=.pure (nilSlice u=true∧l=(0:Int)∧h=(0:Int)∧m=0∧True) (.val (.slice none 0 0)):=by simp only[rSlice,bnd,Option.isSome_some]
theorem qgL(ag:Bool)(sz:Nat)(z:Option (List Value))(e:TypeId)(k:Nat)(id off n k2:Nat):rSlice (some ⟨ag,sz,z,.slice e k⟩) (.asl id off n k2) none none none=.pure (0≤(0:Int)∧((0:Int)=(0:Int)∨(0:Int)<(n:Int))∧(0:Int)≤(n:Int)∧(n:Int)≤(n:Int)∧k2=k) (.asl id (off+((0:Int):Int).toNat*k) ((n:Int) -(0:Int)).toNat k):=rfl
theorem qgM(ag:Bool)(sz:Nat)(z:Option (List Value))(e:TypeId)(k:Nat)(id off n k2:Nat)(kh:IntKind)(h:Int):rSlice (some ⟨ag,sz,z,.slice e k⟩) (.asl id off n k2) none (some (.val (.int kh h))) none=.pure (0≤(0:Int)∧((0:Int)=(0:Int)∨(0:Int)<h)∧(0:Int)≤h∧h≤(n:Int)∧k2=k) (.asl id (off+((0:Int):Int).toNat*k) (h -(0:Int)).toNat k):=rfl
theorem qgN(ag:Bool)(sz:Nat)(z:Option (List Value))(e:TypeId)(k:Nat)(id off n k2:Nat)(kl:IntKind)(l:Int):rSlice (some ⟨ag,sz,z,.slice e k⟩) (.asl id off n k2) (some (.val (.int kl l))) none none=.pure (0≤l∧(l=(0:Int)∨l<(n:Int))∧l≤(n:Int)∧(n:Int)≤(n:Int)∧k2=k) (.asl id (off+(l:Int).toNat*k) ((n:Int) - l).toNat k):=rfl
theorem qgO(ag:Bool)(sz:Nat)(z:Option (List Value))(e:TypeId)(k:Nat)(id off n k2:Nat)(kl:IntKind)(l:Int)(kh:IntKind)(h:Int):rSlice (some ⟨ag,sz,z,.slice e k⟩) (.asl id off n k2) (some (.val (.int kl l))) (some (.val (.int kh h))) none=.pure (0≤l∧(l=(0:Int)∨l<h)∧l≤h∧h≤(n:Int)∧k2=k) (.asl id (off+(l:Int).toNat*k) (h - l).toNat k):=rfl
def RP:=
 An @qjJ <|
 An @qgf <|
 An @qmh <|
 An @qjK <|
 An @qgg <|
 An @qjL <|
 An @qgh <|
 An @qeE <|
 An @Gv <|
 An @qba <|
 An @qbb <|
 An @Yd <|
 An @qeF <|
 An @qbc <|
 An @qjM <|
 An @qgn <|
 An @qmi <|
 An @Yg <|
 An @qgq <|
 An @Kq <|
 An @Kr <|
 An @VT <|
 An @Jw <|
 An @Ks <|
 An @VU <|
 An @Yh <|
 An @qaZ <|
 An @qeD <|
 An @zu <|
 An @Ju <|
 An @VS <|
 An @qbd <|
 An @qeH <|
 An @Jv <|
 An @Ye <|
 An @qbf <|
 An @retVC.eq_1 <|
 An @retNVC.eq_1 <|
 An @resultsVC.eq_1 <|
 @resultsVC.eq_2
def RQ0:=
 An @qgi <|
 An @qgj <|
 An @qgk <|
 An @qgl <|
 An @qeG <|
 An @argFr.eq_1 <|
 An @argFr.eq_2 <|
 An @dsts.eq_1 <|
 An @dsts.eq_2 <|
 An @VV <|
 An @Yi <|
 An @Yj <|
 An @Jx <|
 An @Yk <|
 An @putPs.eq_1 <|
 An @putPs.eq_2 <|
 An @oneSV.eq_1 <|
 An @oneSV.eq_2 <|
 An @qeK <|
 An @qeL <|
 An @qbg <|
 An @qbh <|
 An @qeM <|
 An @qaU <|
 An @qew <|
 An @Ya <|
 An @qga <|
 An @qgb <|
 An @qgc <|
 An @nth.eq_1 <|
 An @nth.eq_2 <|
 An @nth.eq_3 <|
 An @Yb <|
 An @VR <|
 An @qaT <|
 An @qeI <|
 An @qbe <|
 An @stepR.eq_1 <|
 An @stepR.eq_2 <|
 An @stepR.eq_3 <|
 An @stepR.eq_4 <|
 An @stepR.eq_5 <|
 An @stepR.eq_6 <|
 An @stepR.eq_7 <|
 An @stepR.eq_8 <|
 An @stepR.eq_9 <|
 An @stepR.eq_10 <|
 An @stepR.eq_11 <|
 An @stepR.eq_12 <|
 An @stepR.eq_13 <|
 An @stepR.eq_14 <|
 An @stepR.eq_15 <|
 An @stepR.eq_16 <|
 An @stepR.eq_17 <|
 An @stepR.eq_18 <|
 An @stepR.eq_19 <|
 An @stepR.eq_20 <|
 An @stepR.eq_21 <|
 An @stepR.eq_22 <|
 An @stepR.eq_23 <|
 An @stepR.eq_24 <|
 An @stepR.eq_25 <|
 An @stepR.eq_26 <|
 An @stepR.eq_27 <|
 An @stepR.eq_28 <|
 An @stepR.eq_29 <|
 An @stepR.eq_30 <|
 An @env.eq_1 <|
 An @env.eq_2 <|
 An @env.eq_3 <|
 An @env.eq_4 <|
 An @envs.eq_1 <|
 An @envs.eq_2 <|
 An @look.eq_1 <|
 An @look.eq_2 <|
 An @rBox.eq_1 <|
 An @rBox.eq_2 <|
 An @rBox.eq_3 <|
 An @rBox.eq_4 <|
 An @rAlloc.eq_1 <|
 An @rAlloc.eq_2 <|
 An @rLoad.eq_1 <|
 An @rLoad.eq_2 <|
 An @rLoad.eq_3 <|
 An @rLoad.eq_4 <|
 An @rLoad.eq_5 <|
 An @rLoad.eq_6 <|
 An @rLoad.eq_7 <|
 An @rLoad.eq_8 <|
 An @rLoad.eq_9 <|
 An @rStore.eq_1 <|
 An @rStore.eq_2 <|
 An @rStore.eq_3 <|
 An @rStore.eq_4 <|
 An @rStore.eq_5 <|
 An @rStore.eq_6 <|
 An @rStore.eq_7 <|
 An @rStore.eq_8 <|
 An @rNil.eq_1 <|
 An @rNil.eq_2 <|
 An @rNil.eq_3 <|
 An @rNil.eq_4 <|
 An @rNil.eq_5 <|
 An @rFieldAddr.eq_1 <|
 An @rFieldAddr.eq_2 <|
 An @rField.eq_1 <|
 An @rField.eq_2 <|
 An @rIndexAddr.eq_1 <|
 An @rIndexAddr.eq_2 <|
 An @rIndexAddr.eq_3 <|
 An @rIndexAddr.eq_4 <|
 An @rIndexAddr.eq_5 <|
 An @rIndexAddr.eq_6 <|
 An @rIndexAddr.eq_7 <|
 An @rIndexAddr.eq_8 <|
 An @rIndexAddr.eq_9 <|
 An @rIndexAddr.eq_10 <|
 An @rExtract.eq_1 <|
 An @rExtract.eq_2 <|
 An @rCall.eq_1 <|
 An @rLen.eq_1 <|
 An @rLen.eq_2 <|
 An @rLen.eq_3 <|
 An @rLen.eq_4 <|
 An @rLen.eq_5 <|
 An @rLen.eq_6 <|
 An @rLen.eq_7 <|
 An @rLen.eq_8 <|
 An @rLen.eq_9 <|
 An @rAppend.eq_1 <|
 An @rCopy.eq_1 <|
 An @rClear.eq_1 <|
 An @rMakeSlice.eq_1 <|
 @rSlice.eq_17
def RQ1:=
 An @rSlice.eq_13 <|
 An @rSlice.eq_14 <|
 An @rSlice.eq_15 <|
 An @rSlice.eq_16 <|
 An @rSlice.eq_17 <|
 An @qgs <|
 An @qgt <|
 An @qgu <|
 An @qgv <|
 An @qgw <|
 An @qgx <|
 An @qeN <|
 An @qgy <|
 An @qgz <|
 An @qgA <|
 An @qgB <|
 An @qgC <|
 An @qgD <|
 An @qgE <|
 An @qgF <|
 An @qgG <|
 An @qgH <|
 An @qgI <|
 An @qgJ <|
 An @qgK <|
 An @qgL <|
 An @qgM <|
 An @qgN <|
 An @qgO <|
 An @bnd.eq_1 <|
 An @bnd.eq_2 <|
 An @bnd.eq_3 <|
 An @rBuild.eq_1 <|
 An @rBuildSlice.eq_1 <|
 An @fillS.eq_1 <|
 An @fillS.eq_2 <|
 An @envp.eq_1 <|
 An @envp.eq_2 <|
 An @rowsOf.eq_1 <|
 An @rowsOf.eq_2 <|
 An @rowsOf.eq_3 <|
 An @rowsOf.eq_4 <|
 An @rowsOf.eq_5 <|
 An @rowsOf.eq_6 <|
 An @nilSlice.eq_1 <|
 An @nilSlice.eq_2 <|
 An @zrep.eq_1 <|
 An @zrep.eq_2 <|
 An @Option.map_some.{0,0} <|
 An @Option.map_none.{0,0} <|
 An @Option.isNone_none.{0} <|
 An @Option.isNone_some.{0} <|
 An @Option.isSome_some.{0} <|
 An @Int.sub_zero <|
 An @Int.toNat_natCast <|
 An @Int.toNat_zero <|
 An @List.set_cons_zero.{0} <|
 An @List.set_cons_succ.{0} <|
 An @Nat.zero_mul <|
 An @Nat.mul_one <|
 An @Bool.false_and <|
 An @Bool.and_false <|
 An @List.getD_cons_zero.{0} <|
 An @List.getD_cons_succ.{0} <|
 An @oneRows.eq_1 <|
 An @rMin.eq_1 <|
 An @rMin.eq_2 <|
 An @rMin.eq_3 <|
 An @rMin2.eq_1 <|
 An @rMin2.eq_2 <|
 An @rBin.eq_1 <|
 An @rBin.eq_2 <|
 An @rBin.eq_3 <|
 An @rBin.eq_4 <|
 An @rBin.eq_5 <|
 An @rBin.eq_6 <|
 An @rBin.eq_7 <|
 An @rBin.eq_8 <|
 An @rBin.eq_10 <|
 An @rNilS.eq_1 <|
 An @rNilS.eq_2 <|
 An @Option.isNone_none.{0} <|
 An @Option.isNone_some.{0} <|
 An @rUn.eq_1 <|
 An @rUn.eq_2 <|
 An @rUn.eq_3 <|
 An @rConv.eq_1 <|
 An @rConv.eq_2 <|
 An @rPick.eq_1 <|
 An @rPick.eq_2 <|
 An @eqKind.eq_1 <|
 An @eqKind.eq_2 <|
 An @eqKind.eq_3 <|
 An @eqKind.eq_4 <|
 An @eqKind.eq_5 <|
 An @eqKind.eq_6 <|
 An @eqKind.eq_7 <|
 An @rInt.eq_1 <|
 An @rInt.eq_2 <|
 An @rInt.eq_3 <|
 An @rInt.eq_4 <|
 An @rInt.eq_5 <|
 An @rInt.eq_6 <|
 An @rInt.eq_7 <|
 An @rInt.eq_8 <|
 An @rInt.eq_9 <|
 An @rInt.eq_10 <|
 An @rInt.eq_11 <|
 An @rInt.eq_12 <|
 An @rInt.eq_13 <|
 An @rInt.eq_14 <|
 An @rInt.eq_15 <|
 An @rInt.eq_16 <|
 An @vals.eq_1 <|
 An @vals.eq_2 <|
 An @sel.eq_1 <|
 An @sel.eq_2 <|
 An @oneCell.eq_1 <|
 An @oneCell.eq_2 <|
 An @oneCell.eq_3 <|
 An @oneCell.eq_4 <|
 An @oneCell.eq_5 <|
 An @oneCell.eq_6 <|
 An @oneCell.eq_7 <|
 An @oneCell.eq_8 <|
 An @oneCell.eq_9 <|
 An @oneCell.eq_10 <|
 An @oneCell.eq_11 <|
 An @oneCell.eq_12 <|
 An @oneCell.eq_13 <|
 An @allOne.eq_1 <|
 An @allOne.eq_2 <|
 An @undefSV.eq_1 <|
 An @qaV <|
 An @qex <|
 An @qey <|
 An @qez <|
 An @qaW <|
 An @qaX <|
 An @qaY <|
 An @Yc <|
 An @qeA <|
 An @rMakeMap.eq_1 <|
 An @rMakeMap.eq_2 <|
 An @rLookup.eq_1 <|
 An @rLookup.eq_2 <|
 An @rUpdate.eq_1 <|
 An @rUpdate.eq_2 <|
 An @rDelete.eq_1 <|
 An @rDelete.eq_2 <|
 An @rClearMap.eq_1 <|
 An @rClearMap.eq_2 <|
 An @rIndex.eq_1 <|
 An @rIndex.eq_2 <|
 An @rIndex.eq_3 <|
 An @mapOf.eq_1 <|
 An @mapOf.eq_2 <|
 @mapOf.eq_3
def RQ2:=
 An @keyV.eq_1 <|
 An @keyV.eq_2 <|
 An @keyV.eq_3 <|
 An @keyVs.eq_1 <|
 An @keyVs.eq_2 <|
 An @keyVs.eq_3 <|
 An @rEq.eq_1 <|
 An @fitS.eq_1 <|
 An @fitS.eq_2 <|
 An @fitS.eq_3 <|
 An @lfOk.eq_1 <|
 An @lfOk.eq_2 <|
 An @lfOk.eq_3 <|
 An @eqSVs.eq_1 <|
 An @eqSVs.eq_2 <|
 An @eqSVs.eq_3 <|
 An @eqVs.eq_1 <|
 An @eqVs.eq_2 <|
 An @eqVs.eq_3 <|
 An @eqV.eq_1 <|
 An @eqV.eq_2 <|
 An @eqV.eq_3 <|
 An @Option.isSome_none.{0} <|
 An @dropBlk.eq_1 <|
 An @dropBlk.eq_2 <|
 An @setId.eq_1 <|
 An @setId.eq_2 <|
 An @setId.eq_3 <|
 An @setId.eq_4 <|
 An @setId.eq_5 <|
 An @setId.eq_6 <|
 An @setId.eq_7 <|
 An @setId.eq_8 <|
 An @setId.eq_9 <|
 An @setId.eq_10 <|
 An @setId.eq_11 <|
 An @setId.eq_12 <|
 An @setId.eq_13 <|
 An @setId.eq_14 <|
 An @setId.eq_15 <|
 An @setId.eq_16 <|
 An @setIdL.eq_1 <|
 An @setIdL.eq_2 <|
 An @qgd <|
 An @qge <|
 An @putFr.eq_1 <|
 An @qeB <|
 An @qeC <|
 An @putIn.eq_1 <|
 An @putIn.eq_2 <|
 An @inD.eq_1 <|
 An @inD.eq_2 <|
 An @inD.eq_3 <|
 An @setBlk.eq_1 <|
 An @setBlk.eq_2 <|
 An @Yf <|
 An @blk.eq_1 <|
 An @blk.eq_2 <|
 An @if_true.{1} <|
 An @if_false.{1} <|
 An @ite_true.{1} <|
 An @ite_false.{1} <|
 An @Nat.add_zero <|
 An @Nat.zero_add <|
 An @true_and <|
 An @and_true <|
 An @List.getElem?_cons_succ.{0} <|
 An @List.getElem?_cons_zero.{0} <|
 An @List.length_cons.{0} <|
 An @List.length_nil.{0} <|
 An @List.toList_toArray.{0} <|
 An @List.cons_append.{0} <|
 An @List.nil_append.{0} <|
 An @List.append_nil.{0} <|
 An @List.drop_zero.{0} <|
 An @List.drop_succ_cons.{0} <|
 An @List.take_succ_cons.{0} <|
 An @List.take_zero.{0} <|
 An @ne_eq.{1} <|
 An @not_false_eq_true <|
 An @not_true_eq_false <|
 An @Wk.eq_1 <|
 An @Wk.eq_2 <|
 An @Wk.eq_3 <|
 An @Wk.eq_4 <|
 An @Wk.eq_5 <|
 An @Wk.eq_6 <|
 An @Wk.eq_7 <|
 An @Wk.eq_8 <|
 An @Wk.eq_9 <|
 An @Wk.eq_10 <|
 An @Wk.eq_11 <|
 An @Wk.eq_12 <|
 An @Wk.eq_13 <|
 An @Wk.eq_14 <|
 An @Wk.eq_15 <|
 An @Wk.eq_16 <|
 An @Wk.eq_17 <|
 An @Wk.eq_18 <|
 An @Wk.eq_19 <|
 An @Wk.eq_20 <|
 An @Wk.eq_21 <|
 An @Wk.eq_22 <|
 An @Wk.eq_23 <|
 An @Wk.eq_24 <|
 An @Wk.eq_25 <|
 An @Wk.eq_26 <|
 An @Wk.eq_27 <|
 An @Wk.eq_28 <|
 An @Wk.eq_29 <|
 An @Wk.eq_30 <|
 An @Wk.eq_31 <|
 An @Wk.eq_32 <|
 An @Wk.eq_33 <|
 An @Wk.eq_34 <|
 An @Wk.eq_35 <|
 An @Wk.eq_36 <|
 An @WkL.eq_1 <|
 An @WkL.eq_2 <|
 An @WkL.eq_3 <|
 An @WkB.eq_1 <|
 An @WkB.eq_2 <|
 An @WkB.eq_3 <|
 An @WkB.eq_4 <|
 An @WkB.eq_5 <|
 An @WkB.eq_6 <|
 An @WkB.eq_7 <|
 An @WkB.eq_8 <|
 An @WkF.eq_1 <|
 An @WkF.eq_2 <|
 An @WkH.eq_1 <|
 An @WkH.eq_2 <|
 An @WkH.eq_3 <|
 An @ren.eq_1 <|
 An @ren.eq_2 <|
 An @isIn.eq_1 <|
 An @isIn.eq_2 <|
 An @injOn.eq_1 <|
 An @injOn.eq_2 <|
 @List.all_nil.{0}
def RQ3:=
 An @List.all_cons.{0} <|
 An @Bool.and_true <|
 An @Bool.true_and <|
 An @Bool.and_self <|
 An @svIte.eq_1 <|
 An @Sub.eq_1 <|
 An @Sub.eq_2 <|
 An @Sub.eq_3 <|
 An @Sub.eq_4 <|
 An @Sub.eq_5 <|
 An @Sub.eq_6 <|
 An @Sub.eq_7 <|
 An @Sub.eq_8 <|
 An @Sub.eq_9 <|
 An @Sub.eq_10 <|
 An @Sub.eq_11 <|
 An @Sub.eq_12 <|
 An @Sub.eq_13 <|
 An @Sub.eq_14 <|
 An @Sub.eq_15 <|
 An @Sub.eq_16 <|
 An @Sub.eq_17 <|
 An @Sub.eq_18 <|
 An @Sub.eq_19 <|
 An @Sub.eq_20 <|
 An @Sub.eq_21 <|
 An @Sub.eq_22 <|
 An @SubL.eq_1 <|
 An @SubL.eq_2 <|
 An @SubL.eq_3 <|
 An @Cl.eq_1 <|
 An @Cl.eq_2 <|
 An @Cl.eq_3 <|
 An @Cl.eq_4 <|
 An @Cl.eq_5 <|
 An @Cl.eq_6 <|
 An @Cl.eq_7 <|
 An @Cl.eq_8 <|
 An @Cl.eq_9 <|
 An @ClL.eq_1 <|
 An @ClL.eq_2 <|
 An @ClO.eq_1 <|
 An @ClO.eq_2 <|
 An @ClO.eq_3 <|
 An @ClO.eq_4 <|
 An @ClO.eq_5 <|
 An @ClO.eq_6 <|
 An @ClO.eq_7 <|
 An @ClOL.eq_1 <|
 An @ClOL.eq_2 <|
 An @ClB.eq_1 <|
 An @ClB.eq_2 <|
 An @ClB.eq_3 <|
 An @ClB.eq_4 <|
 An @Fresh.eq_1 <|
 An @Fresh.eq_2 <|
 An @Fresh.eq_3 <|
 An @Fresh.eq_4 <|
 An @Fresh.eq_5 <|
 An @Fresh.eq_6 <|
 An @Fresh.eq_7 <|
 An @Fresh.eq_8 <|
 An @Fresh.eq_9 <|
 An @FreshL.eq_1 <|
 An @FreshL.eq_2 <|
 An @FreshO.eq_1 <|
 An @FreshO.eq_2 <|
 An @FreshO.eq_3 <|
 An @FreshO.eq_4 <|
 An @FreshO.eq_5 <|
 An @FreshO.eq_6 <|
 An @FreshO.eq_7 <|
 An @FreshOL.eq_1 <|
 An @FreshOL.eq_2 <|
 An @FreshB.eq_1 <|
 An @FreshB.eq_2 <|
 An @FreshB.eq_3 <|
 An @FreshB.eq_4 <|
 An @SubO.eq_1 <|
 An @SubO.eq_2 <|
 An @SubO.eq_3 <|
 An @SubO.eq_4 <|
 An @SubO.eq_5 <|
 An @SubO.eq_6 <|
 An @SubO.eq_7 <|
 An @SubO.eq_8 <|
 An @SubO.eq_9 <|
 An @SubO.eq_10 <|
 An @SubO.eq_11 <|
 An @SubO.eq_12 <|
 An @SubO.eq_13 <|
 An @SubO.eq_14 <|
 An @SubO.eq_15 <|
 An @SubO.eq_16 <|
 An @SubO.eq_17 <|
 An @SubO.eq_18 <|
 An @SubO.eq_19 <|
 An @SubO.eq_20 <|
 An @SubOL.eq_1 <|
 An @SubOL.eq_2 <|
 An @SubOL.eq_3 <|
 An @SubB.eq_1 <|
 An @SubB.eq_2 <|
 An @SubB.eq_3 <|
 An @SubB.eq_4 <|
 An @resultVC.eq_1 <|
 An @resultVC.eq_2 <|
 An @Old.eq_1 <|
 An @Old.eq_2 <|
 An @Old.eq_3 <|
 An @Old.eq_4 <|
 An @Old.eq_5 <|
 An @Old.eq_6 <|
 An @Old.eq_7 <|
 An @Old.eq_8 <|
 An @Old.eq_9 <|
 An @OldL.eq_1 <|
 An @OldL.eq_2 <|
 An @true_implies <|
 @and_self
def RQ:=An @implies_true.{1}<|An @implies_true.{0}<|An @forall_const.{1}<|An @forall_const.{0}<|An RQ0<|An RQ1<|An RQ2 RQ3
def RZ:=An @decide_true<|An @decide_false<|An Bool.not_true<|An Bool.not_false<|An @and_self<|An xb0<|An Int.toNat_natCast Int.toNat_one
theorem sD{P A B:Prop}(a:A)(b:B)(h:A→B→P:=by intro a b;with_reducible (first|exact qeJ a b|exact qjN a b)):P:=h a b
theorem aA{P B:Prop}(b:B)(h:B→P:=by intro b;(with_reducible refine An ?_ b);first|exact True.intro|(simp only[InK];omega)|omega|(simp only[InK,ne_eq,and_true,true_and];omega)|trivial):P:=h b
theorem aAa{P B:Prop}(b:B)(h:B→P:=by intro b;(with_reducible refine An ?_ b);first|exact True.intro|(simp only[InK];omega)|omega|(simp only[InK,ne_eq,and_true,true_and];omega)|exact⟨.inr trivial,Ω⟩|trivial):P:=h b
theorem aAb{P B:Prop}(b:B)(h:B→P:=by intro b;(with_reducible refine An ?_ b);first|exact True.intro|(simp only[InK];omega)|omega|(simp only[InK,ne_eq,and_true,true_and];omega)|exact⟨.inr trivial,xa5 _,Ω⟩|exact⟨.inr trivial,xa5 _,one1 _,Ω⟩|exact⟨.inr trivial,xa5 _,one5 _ _ _ _ _,Ω⟩|exact⟨one1 _,Ω⟩|exact⟨.inr trivial,one1 _⟩|exact⟨.inr trivial,Ω⟩|exact⟨.inl rfl,Ω⟩|trivial):P:=h b
theorem aAc{P B:Prop}(b:B)(h:B→P:=by intro b;(with_reducible refine An ?_ b);first|exact True.intro|(simp only[InK];omega)|omega|(simp only[InK,ne_eq,and_true,true_and];omega)|exact⟨.inr trivial,xa5 _,one1 _,Ω⟩|trivial):P:=h b
theorem aAd{P B:Prop}(b:B)(h:B→P:=by intro b;(with_reducible refine An ?_ b);first|exact True.intro|(simp only[InK];omega)|omega|(simp only[InK,ne_eq,and_true,true_and];omega)|exact⟨.inr trivial,Ω⟩|exact⟨Ω,.inl trivial,Ω,Ω⟩|trivial):P:=h b
theorem aAe{P B:Prop}(b:B)(h:B→P:=by intro b;(with_reducible refine An ?_ b);first|exact True.intro|(simp only[InK];omega)|omega|(simp only[InK,ne_eq,and_true,true_and];omega)|exact⟨.inr trivial,Ω⟩|exact⟨Ω,Ω,.inl trivial,Ω,Ω⟩|trivial):P:=h b
theorem aAf{P B:Prop}(b:B)(h:B→P:=by intro b;(with_reducible refine An ?_ b);first|exact True.intro|(simp only[InK];omega)|omega|(simp only[InK,ne_eq,and_true,true_and];omega)|exact⟨.inr trivial,xa5 _,one1 _,Ω⟩|exact⟨.inr trivial,Ω⟩|trivial):P:=h b
theorem aAg{P B:Prop}(b:B)(h:B→P:=by intro b;(with_reducible refine An ?_ b);first|exact True.intro|(simp only[InK];omega)|omega|(simp only[InK,ne_eq,and_true,true_and];omega)|exact⟨.inr trivial,xa5 _,one5 _ _ _ _ _,Ω⟩|exact⟨.inr trivial,xa5 _,one1 _,Ω⟩|exact⟨.inr trivial,Ω⟩|trivial):P:=h b
theorem aAh{P B:Prop}(b:B)(h:B→P:=by intro b;(with_reducible refine An ?_ b);first|exact True.intro|(simp only[InK];omega)|omega|(simp only[InK,ne_eq,and_true,true_and];omega)|exact⟨.inr trivial,Ω⟩|exact⟨Ω,Ω,Ω,.inl trivial⟩|exact⟨Ω,Ω,Ω,.inr trivial⟩|trivial):P:=h b
theorem aAi{P B:Prop}(b:B)(h:B→P:=by intro b;(with_reducible refine An ?_ b);first|exact True.intro|(simp only[InK];omega)|omega|(simp only[InK,ne_eq,and_true,true_and];omega)|exact⟨.inr trivial,Ω⟩|exact⟨Ω,Ω,Ω,.inl trivial⟩|trivial):P:=h b
theorem aAj{P B:Prop}(b:B)(h:B→P:=by intro b;(with_reducible refine An ?_ b);first|exact True.intro|(simp only[InK];omega)|omega|(simp only[InK,ne_eq,and_true,true_and];omega)|exact⟨.inr trivial,xa5 _,one1 _,Ω⟩|exact⟨.inr trivial,xa5 _,one3 _ _ _,Ω⟩|exact⟨.inr trivial,Ω⟩|trivial):P:=h b
end Go.Sx
end
section
namespace Go.Sx
open Go.RowKit Go.ChangeShapes Go.WideShapes Go.ChangeAt
section
variable{H:Type}{enc:TypeId×Value→H}{P:Program}
theorem yR(hl:laidOutB P=true){W W':World}{sp:Nat→Bool}:∀{ts:List TypeId}{vs:List Value}{ds:List (DataW H)}{ps:List MemPlace},
  (ts.all fun t=>P.readableRec t&&decide (t<P.types.size))=true→DataW.TrodAll enc P W 0 (fun _=>true) true ts vs ds ps→(∀p∈ps,W.sameAt W' p)→(∀p∈ps,sp p.block=true)→DataW.TrodAll enc P W' 0 sp true ts vs ds ps
 |[],vs,ds,ps,_,h,_,_=>by
  obtain⟨rfl,rfl,rfl⟩:=trodAll_nil h;simp[DataW.TrodAll]
 |t :: ts,vs,ds,ps,ha,h,hs,hp=>by
  simp only[List.all_cons,xe6,decide_eq_true_eq]at ha;obtain⟨v,vs,d,ds,p,q,rfl,rfl,rfl,h1,h2⟩:=trodAll_cons h;exact⟨p,q,WideElems.Trod_stays hl ha.1.1 ha.1.2 h1 (fun x hx=>hs x (by simp[hx])) (fun x hx=>hp x (by simp[hx])),
   yR hl ha.2 h2 (fun x hx=>hs x (by simp[hx])) (fun x hx=>hp x (by simp[hx])),rfl⟩
theorem qgP{f:Func}{s:ChangeSpec}{W W':World}{args:Array Value}{ds:List (DataW H)}{before:List MemPlace}{t:TypeId}(hl:laidOutB P=true)
  (hr:(f.params.toList.all fun t=>P.readableRec t&&decide (t<P.types.size))=true) (hrt:f.resultTypes = #[t]) (hut:P.underlying t=some .bool) (hv:s.vars=[])
  (hs:s.fn H ds = { results:=[.lit (.bool true)],args:=ds }) (hW:DataW.Whole enc P f.params.toList s.vars false W args.toList ds [] before) (hb:Below W.heap.size W W') :
  s.post enc P f false true false false W args (.bool true) W':=by
 have hlt:∀p∈before,p.block<W.heap.size:=fun p hp=>by simpa using hW.lt p hp
 have hfn:(s.fn H (ds++[])).results=[.lit (.bool true)]∧(s.fn H (ds++[])).args=ds∧(s.fn H (ds++[])).vars=[]:=by rw[xd3,hs];exact⟨rfl,rfl,rfl⟩
 have hres:∀(b:Nat)(sp:Nat→Bool)(hd:Bool),DataW.TrodAll enc P W' b sp hd f.resultTypes.toList ((Value.bool true).resultList f.resultTypes.size) (s.fn H (ds++[])).results []:=fun b sp hd=>by
  rw[hfn.1,hrt];exact trodAll_cons_mk (shut_bool hut _) trodAll_mk0
 have hW':=hW;obtain⟨p,q,hA,hV,rfl,hz,hn⟩:=hW;rw[hv]at hV;obtain⟨_,rfl⟩:=trodVars_none hV;have hargs:∀sp:Nat→Bool,(∀x∈p,sp x.block=true)→DataW.TrodAll enc P W' 0 sp true f.params.toList args.toList (s.fn H (ds++[])).args p:=fun sp hsp=>by
  rw[hfn.2.1];exact yR hl hr hA (fun x hx=>hb.same (hlt x ΩQ)) hsp
 have hold:∀x∈p,(fun b=>decide (b<W.heap.size)) x.block=true:=fun x hx=>by simpa using hlt x ΩQ
 refine⟨ds,[],p++[],[],p,[],hW',hres _ _ _,hargs _ hold,?_,World.keptBut_mono (fun x hx=>⟨hx,.inr (.inl ΩQ)⟩) (hb.frame _),fun h=>by cases h⟩;rw[hfn.2.2,hv];simp[DataW.TrodVars]
end
theorem qjR{w:World}{b o:Nat}{v:Value}(h:w.cell? ⟨b,o,none⟩=some v):b<w.heap.size:=by
 unfold World.cell? at h;split at h
 ·rename_i hb
  exact(Array.getElem?_eq_some_iff.1 hb).1
 ·cases h
abbrev Gin(w:World):Bool→Nat→Prop:=fun _ b=>True∧b<w.heap.size
section
variable{H:Type}{enc:TypeId×Value→H}{P:Program}{w:World}
def Rd(enc:TypeId×Value→H)(P:Program)(w:World)(t:TypeId)(k:Nat){α:Type}(Q:α→Prop)(sv:α→Nat→SV):Prop:=
 ∀fuel cs x,DataW.trod enc P w 0 (fun _=>true) true fuel t cs=some x→∃a,Q a∧cs.length=k∧∀j,j<k→Rep noR noN (Gin w) w (sv a j) (cs.getD j undef)
theorem qmk{k:IntKind}{n:Int}(h:(Lit.int k n).wf=true):InK k n:=by
 cases k<;>simp[Lit.wf,IntKind.min,IntKind.max,IntKind.signed,IntKind.bits]at h<;>simp only[InK]<;>omega
theorem Rd.int{t:TypeId}{k:IntKind}(ht:P.underlying t=some (.int k)):Rd enc P w t 1 (fun n:Int=>InK k n) (fun n _=>.val (.int k n)):=fun fuel cs x h=>by
 obtain⟨n,rfl,_,hw⟩:=DataW.trod_int ht h;refine⟨n,qmk hw,rfl,fun j hj=>?_⟩;have:j=0:=by omega
 subst this;exact .val _
theorem Rd.slice{t e:TypeId}{k:Nat}{α:Type}[Inhabited α]{Q:α→Prop}{sv:α→Nat→SV}(ht:P.underlying t=some (.slice e))(hk:P.cellsOf e=k)(h0:0<k)(he:Rd enc P w e k Q sv) :
  Rd enc P w t 1 (fun x:Nat×(Nat→α)=>x.1≤maxLen∧∀i,i<x.1→Q (x.2 i)) (fun x _=>.arr false false x.1 k (fun i j=>sv (x.2 i) j)):=fun fuel cs x h=>by
 rcases Go.Deep.open_slice ht h with⟨rfl,_⟩|⟨a,len,cap,m,n,D,Pl,rfl,hb,hl,hm,hmm,rfl,hx⟩
 ·refine⟨(0,fun _=>default),⟨Ωh,fun i hi=>by omega⟩,rfl,fun j hj=>?_⟩
  have:j=0:=by omega
  subst this;exact .arrNil _ _ _ _ _ _ Ωh
 ·have hm':m=cap:=by simpa using hmm
  subst hm';rw[hk]at hx;have hel:∀i,i<len→∃(u:α),Q u∧∀j,j<k→∃v,w.cell? ((a.add (i*k)).add j)=some v∧Rep noR noN (Gin w) w (sv u j) v:=fun i hi=>by
   obtain⟨cs',h1,h2⟩:=hx i Ω;obtain⟨_,hlen,hat⟩:=World.cells?_some h1;obtain⟨u,hu,hl',hrep⟩:=he _ _ _ h2;refine⟨u,hu,fun j hj=>⟨cs'.getD j undef,?_,hrep j hj⟩⟩;rw[hat j hj];simp[hlen,hj]
  have hspot:len≠0→a.spot=none:=fun hne=>by
   obtain⟨u,_,hu⟩:=hel 0 Ω;obtain⟨v,hv,_⟩:=hu 0 h0;simpa[Addr.add]using World.cell?_spot hv
  by_cases hne:len=0
  ·subst hne
   refine⟨(0,fun _=>default),⟨Ωh,fun i hi=>by omega⟩,rfl,fun j hj=>?_⟩;have:j=0:=by omega
   subst this;exact .arrNil _ _ _ _ _ _ Ωh
  ·have hs:=hspot hne
   obtain⟨b,off,spot⟩:=a;dsimp only at hs;subst hs;obtain⟨U,hU⟩:=Go.Deep.choose_lt (α:=α) (p:=fun i u=>Q u∧∀j,j<k→∃v,w.cell? (((⟨b,off,none⟩:Addr).add (i*k)).add j)=some v∧Rep noR noN (Gin w) w (sv u j) v) hel;refine⟨(len,U),⟨(by show len≤maxLen;omega),fun i hi=>(hU i hi).1⟩,rfl,fun j hj=>?_⟩;have:j=0:=by omega
   subst this;have hcell:∀i j,i<len→j<k→∃v,w.cell? ⟨b,off+(i*k+j),none⟩=some v∧Rep noR noN (Gin w) w (sv (U i) j) v:=fun i j hi hj=>by
    have:=(hU i hi).2 j hj
    rwa [qQ,qQ,xb2]at this
   refine .arr false false len k _ b off m (fun i j=>(w.cell? ⟨b,off+(i*k+j),none⟩).getD undef) ⟨trivial,?_⟩ Ωh hl (fun i j hi hj=>?_) (fun i j hi hj=>?_)
   ·obtain⟨v,hv,_⟩:=hcell 0 0 Ω h0
    exact qjR hv
   ·obtain⟨v,hv,_⟩:=hcell i j hi hj
    rw[hv];rfl
   ·obtain⟨v,hv,hr⟩:=hcell i j hi hj
    rw[hv];exact hr
theorem Rd.map{t:TypeId}{k:Nat}{α β:Type}{Q:α→Prop}{sv:α→Nat→SV}{Q':β→Prop}{sv':β→Nat→SV}(h:Rd enc P w t k Q sv)(f:α→β)(hf:∀a,Q a→Q' (f a)∧∀j,j<k→sv' (f a) j=sv a j):Rd enc P w t k Q' sv':=fun fuel cs x hx=>by
 obtain⟨a,ha,hl,hr⟩:=h fuel cs x hx;obtain⟨h1,h2⟩:=hf a ha;exact⟨f a,h1,hl,fun j hj=>by rw[h2 j hj];exact hr j hj⟩
def RdF(enc:TypeId×Value→H)(P:Program)(w:World)(fs:List Field){α:Type}(Q:α→Prop)(sv:α→Nat→SV):Prop:=
 ∀(n:Nat)(cs:List Value),(∀f,f∈fs→∃y,DataW.trod enc P w 0 (fun _=>true) true n f.type ((cs.drop f.offset).take (P.cellsOf f.type))=some y)→
  ∃a,Q a∧∀f,f∈fs→∀j,f.offset≤j→j<f.offset+P.cellsOf f.type→Rep noR noN (Gin w) w (sv a j) (cs.getD j undef)
theorem RdF.nil:RdF enc P w [] (fun _:Unit=>True) (fun _ _=>.top):=fun n cs _=>⟨(),trivial,fun f hf=>by cases hf⟩
theorem RdF.cons{f:Field}{fs:List Field}{α β:Type}{Q:α→Prop}{sv:α→Nat→SV}{Q':β→Prop}{sv':β→Nat→SV}{k o:Nat}(h:Rd enc P w f.type k Q sv)(hk:P.cellsOf f.type=k)(ho:f.offset=o)(hs:RdF enc P w fs Q' sv')(hlt:∀g,g∈fs→o+k≤g.offset) :
  RdF enc P w (f :: fs) (fun x:α×β=>Q x.1∧Q' x.2) (fun x j=>if j<o+k then sv x.1 (j - o)else sv' x.2 j):=fun n cs hc=>by
 obtain⟨y,hy⟩:=hc f Ωh;obtain⟨a,ha,hl,hr⟩:=h _ _ _ hy;obtain⟨b,hb,hr'⟩:=hs n cs fun g hg=>hc g (by simp[hg]);refine⟨(a,b),⟨ha,hb⟩,fun g hg j h1 h2=>?_⟩;by_cases hj:j<o+k
 ·simp only[hj,if_true]
  have hg':g=f∨P.cellsOf g.type=0∨True:=.inr (.inr trivial);rcases List.mem_cons.1 hg with rfl|hg
  ·have:=hr (j - o) Ω
   rw[xc6,List.getElem?_take,if_pos Ω,List.getElem?_drop]at this;rw[xc6];have e:g.offset+(j - o)=j:=by omega
   rwa [e]at this
  ·have:=hlt g hg
   omega
 ·simp only[hj,if_false]
  rcases List.mem_cons.1 hg with rfl|hg
  ·omega
  ·exact hr' g hg j h1 h2
theorem Rd.struct{t:TypeId}{k:Nat}{fs:Array Field}{α:Type}{Q:α→Prop}{sv:α→Nat→SV}(ht:P.underlying t=some (.struct fs))(hk:P.cellsOf t=k)(hf:RdF enc P w fs.toList Q sv)
  (hcov:((List.range k).all fun j=>fs.toList.any fun f=>decide (f.offset≤j)&&decide (j<f.offset+P.cellsOf f.type))=true):Rd enc P w t k Q sv:=fun fuel cs x h=>by
 obtain⟨xs,n,_,_,hl,hlen,hat⟩:=DataW.trod_struct ht h;obtain⟨a,ha,hr⟩:=hf n cs fun f hf=>by
  obtain⟨i,hi,rfl⟩:=List.mem_iff_getElem.1 hf;have:=hat i fs.toList[i] (by rw[←xf6];exact xc7 hi);rw[this];have hi':i<xs.length:=by simpa[hlen]using hi
  exact⟨xs[i],xc7 hi'⟩
 refine⟨a,ha,hl.trans hk,fun j hj=>?_⟩;have:=(List.all_eq_true.1 hcov) j Ω4;obtain⟨f,hf',hc⟩:=List.any_eq_true.1 this;simp only[xe6,decide_eq_true_eq]at hc;exact hr f hf' j hc.1 hc.2
theorem Rd.array{t e:TypeId}{n k:Nat}{α:Type}[Inhabited α]{Q:α→Prop}{sv:α→Nat→SV}(ht:P.underlying t=some (.array n e))(hk:P.cellsOf e=k)(h0:0<k)(hkt:P.cellsOf t=n*k)(he:Rd enc P w e k Q sv) :
  Rd enc P w t (n*k) (fun u:Nat→α=>∀i,i<n→Q (u i)) (fun u j=>sv (u (j / k)) (j % k)):=fun fuel cs x h=>by
 obtain⟨xs,m,_,_,hl,hlen,hat⟩:=DataW.trod_array ht h;rw[hk]at hat;have hel:∀i,i<n→∃(u:α),Q u∧∀j,j<k→Rep noR noN (Gin w) w (sv u j) (cs.getD (i*k+j) undef):=fun i hi=>by
  have h1:=hat i hi;rw[xc7 Ω]at h1;obtain⟨u,hu,hlu,hr⟩:=he _ _ _ h1;refine⟨u,hu,fun j hj=>?_⟩;have:=hr j hj
  rwa [xc6,List.getElem?_take,if_pos Ω,List.getElem?_drop,←xc6]at this
 obtain⟨U,hU⟩:=Go.Deep.choose_lt (α:=α) (p:=fun i u=>Q u∧∀j,j<k→Rep noR noN (Gin w) w (sv u j) (cs.getD (i*k+j) undef)) hel;refine⟨U,fun i hi=>(hU i hi).1,hl.trans hkt,fun j hj=>?_⟩;have hjk:j / k<n:=Nat.div_lt_of_lt_mul (by rwa [Nat.mul_comm]at hj);have:=(hU (j / k) hjk).2 (j % k) (Nat.mod_lt _ h0);have e:j / k*k+j % k=j:=by rw[Nat.mul_comm];exact Nat.div_add_mod j k
 rwa [e]at this
theorem Rd.one{t:TypeId}{α:Type}{Q:α→Prop}{sv:α→Nat→SV}(h:Rd enc P w t 1 Q sv){v:Value}{d:DataW H}{p:List MemPlace}(hv:v.cells = #[v])(ht:DataW.Trod enc P w 0 (fun _=>true) true t v d p):∃a,Q a∧Rep noR noN (Gin w) w (sv a 0) v:=by
 obtain⟨fuel,hf⟩:=ht;obtain⟨a,ha,_,hr⟩:=h _ _ _ hf;refine⟨a,ha,?_⟩;have:=hr 0 Ω;rw[hv]at this;exact this
theorem Rd.agg{t:TypeId}{k:Nat}{α:Type}{Q:α→Prop}{sv:α→Nat→SV}(h:Rd enc P w t k Q sv){v:Value}{d:DataW H}{p:List MemPlace}{cs:Array Value}(hv:v=.agg cs)(ht:DataW.Trod enc P w 0 (fun _=>true) true t v d p):∃a,Q a∧Rep noR noN (Gin w) w (.agg ((List.range k).map (sv a))) v:=by
 subst hv;obtain⟨fuel,hf⟩:=ht;obtain⟨a,ha,hl,hr⟩:=h _ _ _ hf;refine⟨a,ha,.agg _ _ (by simpa[Value.cells]using hl.symm) fun i sv' hi=>?_⟩;simp only[List.getElem?_map,xe3]at hi;have hik:i<k:=by
  by_cases hik:i<k
  ·exact hik
  ·simp[hik]at hi
 rw[xe3 hik]at hi;simp only[xg1,Option.some.injEq]at hi;subst hi;have:=hr i hik;simpa[Value.cells]using this
def Reps(w:World)(l:List SV)(vs:List Value):Prop:=l.length=vs.length∧∀(i:Nat)(sv:SV),l[i]? = some sv→Rep noR noN (Gin w) w sv (vs.getD i undef)
theorem Reps.nil:Reps w [] []:=⟨rfl,fun i sv h=>by simp at h⟩
theorem Reps.cons{a:SV}{v:Value}{l:List SV}{vs:List Value}(h:Rep noR noN (Gin w) w a v)(hs:Reps w l vs):Reps w (a :: l) (v :: vs):=
 ⟨by simp[hs.1],fun i sv hi=>by
  cases i with
  |zero=>simp at hi;subst hi;exact h
  |succ i=>simpa using hs.2 i sv Ωab⟩
theorem qeO{f:FuncId}{l:List SV}{args:Array Value}(hc:qf P f l (.val (.bool true)))(h:Reps w l args.toList) :
  Calls P f args w fun e w'=>e=.returned (.bool true)∧Below w.heap.size w w':=
 (hc.2 (fun _=>True) w args (by simpa using h.1) (fun i sv hi=>by
  have:=h.2 i sv hi
  rwa [xc6,xf6,←xf5]at this)).mono fun e w' ⟨v,he,hb,hv⟩=>by
  cases hv;exact⟨he,hb⟩
end
end Go.Sx
end
section
namespace Go.Sx
end Go.Sx
end
section
namespace Go.Sx
open Go.RowKit
section
variable{P:Program}
def EffVC(P:Program)(f:FuncId)(args:List SV)(hp:List (Nat×Blk))(id:Nat)(Q:List (Nat×Blk)→Nat→SV→Prop):Prop:=
 ∀(O:Ctx)(fr:List (Nat×SV)),kT P O f args ⟨fr,hp,id⟩ fun st' res=>st'.fr=fr∧Q st'.hp st'.nid res
theorem jh{O:Ctx}{J:Prop}{j:Tag J}{d:Option Tmp}{id:Nat}{fr:List (Nat×SV)}{hp:List (Nat×Blk)}{nid:Nat}{K:St→Prop}{g:Tag K}{f:FuncId}{args:List SV}{Q:List (Nat×Blk)→Nat→SV→Prop}(hJ:J)(h:EffVC P f args hp id Q)
  (hk:∀hp' nid' res,Q hp' nid' res→K (St.put ⟨fr,hp',nid'⟩ d res)):Gu P O j d id fr hp nid K g f args:=
 .inr (.inr ⟨hJ,Kh (h O fr) fun st' sv ⟨e,hq⟩=>by obtain⟨fr',hp',nid'⟩:=st';cases e;exact hk _ _ _ hq⟩)
def qjS(P:Program)(rs:List ResultVar)(O:Ctx)(Q:List (Nat×Blk)→Nat→SV→Prop):Ex→St→Prop
 |.exit _,_=>False
 |.normal,⟨fr,hp,nid⟩=>resultsVC P rs ⟨fr,hp,nid⟩ fun m=>∃hp' nid' res,Weak O ⟨[(0,oneSV m)],hp,nid⟩ ⟨[(0,res)],hp',nid'⟩∧Q hp' nid' res
 |.ret,⟨fr,hp,nid⟩=>resultsVC P rs ⟨fr,hp,nid⟩ fun m=>∃hp' nid' res,Weak O ⟨[(0,oneSV m)],hp,nid⟩ ⟨[(0,res)],hp',nid'⟩∧Q hp' nid' res
theorem Yn(rs:List ResultVar)(O:Ctx)(Q:List (Nat×Blk)→Nat→SV→Prop)(fr:List (Nat×SV))(hp:List (Nat×Blk))(nid:Nat):qjS P rs O Q .normal ⟨fr,hp,nid⟩=resultsVC P rs ⟨fr,hp,nid⟩ fun m=>∃hp' nid' res,Weak O ⟨[(0,oneSV m)],hp,nid⟩ ⟨[(0,res)],hp',nid'⟩∧Q hp' nid' res:=rfl
theorem qgQ(rs:List ResultVar)(O:Ctx)(Q:List (Nat×Blk)→Nat→SV→Prop)(fr:List (Nat×SV))(hp:List (Nat×Blk))(nid:Nat):qjS P rs O Q .ret ⟨fr,hp,nid⟩=resultsVC P rs ⟨fr,hp,nid⟩ fun m=>∃hp' nid' res,Weak O ⟨[(0,oneSV m)],hp,nid⟩ ⟨[(0,res)],hp',nid'⟩∧Q hp' nid' res:=rfl
theorem InvR.far{fs:List Fr}{lo:Nat}{rnd:Bool}{f0:Nat→List (Nat×Nat)}{base:World}{okc:Nat→Prop}{ns k:Nat}{r:Nat→Option Nat}{outs:gJ}{st:St}{a:Act}{w:World}(h:InvR ⟨fs,lo,rnd,f0⟩ base okc ns k r outs st a w)(f:Nat→List (Nat×Nat)):InvR ⟨fs,lo,rnd,f⟩ base okc ns k r outs st a w:=
 ⟨h.sat,h.keys,h.fr,h.size,h.lo,h.out,h.rfix,h.defers⟩
theorem vY (far : Nat → List (Nat × Nat)) (hm : P.follows .mixedOrders = true) {f : FuncId} {fn : Func} {c : Code} {args : List SV} {hp : List (Nat × Blk)} {id : Nat} {Q : List (Nat × Blk) → Nat → SV → Prop} (hf : P.funcs[f]? = some fn) (hb : fn.body = some c) (hname : (fn.name == "runtime.NumGoroutine") = false) (hok : qE far fn.ntmps c = true) (hlen : args.length ≤ fn.ntmps)
  (h:∀out:List Fr,vc P ⟨out,id,false,far⟩ c ⟨argFr 0 args,hp,id⟩ (qjS P fn.results.toList ⟨out,id,false,far⟩ Q)):EffVC P f args hp id Q:=by
 intro O fr base okc ns r outs a w vs h0 hl ha;refine⟨vU hf hb hname vs w,?_⟩;refine g6 hm hf hb hok (O:=⟨⟨fr,none,ns,id⟩ :: O.fs,id,false,far⟩) (outs:=⟨a :: outs.as,r⟩) (base:=base) (okc:=okc) (st0:=⟨argFr 0 args,hp,id⟩) rfl
  (Post:=fun st' m=>∃hp' nid' res,Weak ⟨⟨fr,none,ns,id⟩ :: O.fs,id,false,far⟩ ⟨[(0,oneSV m)],st'.hp,st'.nid⟩ ⟨[(0,res)],hp',nid'⟩∧Q hp' nid' res)
  ⟨r,(h0.push none (fun _ h=>by cases h) false (Ky hl Ω ha) Ωj rfl).far far⟩ (jq c _ _ _ (h _) fun e st' hk=>?_) fun st' r' a' w' m us hP hi hml hreps=>?_
 ·obtain⟨fr',hp',nid'⟩:=st'
  cases e<;>exact hk
 ·obtain⟨hp',nid',res,hw,hq⟩:=hP
  have hi2:Inv ⟨⟨fr,none,ns,id⟩ :: O.fs,id,false,far⟩ base okc 1 st'.nid ⟨a :: outs.as,r⟩ ⟨[(0,oneSV m)],st'.hp,st'.nid⟩ { a' with tmps:=#[JV us] } w':=
   ⟨r',hi.sat,hi.keys,fun i=>by
    simp only[look];split
    ·rename_i e;subst e
     exact yr hml hreps
    ·exact .top _,rfl,hi.lo,hi.out,hi.rfix,hi.defers⟩
  obtain⟨r2,h2⟩:=hw _ _ _ _ _ _ hi2;exact⟨_,⟨fr,hp',nid'⟩,r2,res,rfl,⟨rfl,hq⟩,h2.lo,(h2.far jg).pop h0,by simpa[look]using h2.fr 0⟩
theorem vb (hm : P.follows .mixedOrders = true) {f : FuncId} {fn : Func} {c : Code} {args : List SV} {hp : List (Nat × Blk)} {id : Nat} {Q : List (Nat × Blk) → Nat → SV → Prop} (hf : P.funcs[f]? = some fn) (hb : fn.body = some c) (hname : (fn.name == "runtime.NumGoroutine") = false) (hok : Gm fn.ntmps c = true) (hlen : args.length ≤ fn.ntmps)
  (h:∀out:List Fr,vc P ⟨out,id,false,jg⟩ c ⟨argFr 0 args,hp,id⟩ (qjS P fn.results.toList ⟨out,id,false,jg⟩ Q)):EffVC P f args hp id Q:=vY jg hm hf hb hname hok hlen h
def qX(fr:List (Nat×SV)):List (Nat×SV)→Prop
 |[]=>True
 |(i,s) :: l=>(s=.top∨s=look fr i)∧qX fr l
theorem JZ{fr:List (Nat×SV)}:∀{l:List (Nat×SV)},qX fr l→∀i,look l i=.top∨look l i=look fr i
 |[],_,i=>.inl rfl
 |(j,s) :: l,h,i=>by
  simp only[qX]at h;simp only[look];split
  ·rename_i e;subst e;exact h.1
  ·exact JZ h.2 i
def SubHp(hp hp':List (Nat×Blk)):Prop:=∀id x,blk hp' id=some x→blk hp id=some x
theorem SubHp.refl(hp:List (Nat×Blk)):SubHp hp hp:=fun _ _ h=>h
theorem j5{O:Ctx}{fr fr':List (Nat×SV)}{hp hp':List (Nat×Blk)}{nid:Nat}(hf:qX fr fr')(hh:SubHp hp hp'):Weak O ⟨fr,hp,nid⟩ ⟨fr',hp',nid⟩:=by
 rintro base okc ns outs a w ⟨r,h⟩;have hs:=h.sat.sub hh;have h2:InvR O base okc ns nid r outs (St.put {({ fr:=fr,hp:=hp,nid:=nid }:St)with hp:=hp' } none undefSV) (a.put none undef) w:=h.step hs (fun id x hx=>h.keys id x (hh id x hx)) (xa5 _) (d:=none) (fun t ht=>by cases ht) (.val undef);refine⟨r,h2.sat,h2.keys,fun i=>?_,h2.size,h2.lo,h2.out,h2.rfix,h2.defers⟩;rcases JZ hf i with e|e
 ·show Rep _ _ _ _ (look fr' i) _
  rw[e];exact .top _
 ·show Rep _ _ _ _ (look fr' i) _
  rw[e];exact h2.fr i
theorem EffVC.sub{f:FuncId}{args:List SV}{hp hp2:List (Nat×Blk)}{id:Nat}{Q:List (Nat×Blk)→Nat→SV→Prop}(hh:SubHp hp hp2)(h:EffVC P f args hp2 id Q):EffVC P f args hp id Q:=by
 intro O fr base okc ns r outs a w vs h0 hl ha;have hs:=h0.sat.sub hh;have h2:InvR O base okc ns id r outs (St.put {({ fr:=fr,hp:=hp,nid:=id }:St)with hp:=hp2 } none undefSV) (a.put none undef) w:=h0.step hs (fun id x hx=>h0.keys id x (hh id x hx)) (xa5 _) (d:=none) (fun t ht=>by cases ht) (.val undef);exact h O fr base okc ns r outs a w vs h2 hl fun i sv hi=>hs.rep (ha i sv hi)
mutual
theorem qR{hp:List (Nat×Blk)}:∀(s:SV),Old s→Sub hp s s
 |.top,_=>by simp[Sub]
 |.val v,_=>by simp[Sub]
 |.agg l,h=>by simp only[Old]at h;simp only[Sub];exact subL_refl l h
 |.tup l,h=>by simp only[Old]at h;simp only[Sub];exact subL_refl l h
 |.fn f a b,h=>by simp only[Old]at h;simp only[Sub];exact⟨trivial,subL_refl a h.1,subL_refl b h.2⟩
 |.ref o n row,h=>by simp only[Old]at h;simp only[Sub];exact⟨id,xa5 _,fun j hj=>qR (row j) (h.2 j hj)⟩
 |.arr o full n k row,h=>by simp only[Old]at h;simp only[Sub];exact⟨id,id,trivial,trivial,fun i j hi hj=>qR (row i j) (h.2 i j hi hj)⟩
 |.cmp o fit dom get,h=>by simp only[Old]at h;simp only[Sub];exact⟨id,trivial,trivial,fun key hk=>qR (get key) (h.2 key hk)⟩
 |.cut _ _ _,h=>by simp[Old]at h
 |.ptr _ _,h=>by simp[Old]at h
 |.elt _ _ _ _,h=>by simp[Old]at h
 |.vec _ _ _,h=>by simp[Old]at h
 |.mp _,h=>by simp[Old]at h
 |.asl _ _ _ _,h=>by simp[Old]at h
 |.que _ _ _ _,h=>by simp[Old]at h
 |.yld _,h=>by simp[Old]at h
theorem subL_refl{hp:List (Nat×Blk)}:∀(l:List SV),OldL l→SubL hp l l
 |[],_=>by simp[SubL]
 |a :: l,h=>by simp only[OldL]at h;simp only[SubL];exact⟨qR a h.1,subL_refl l h.2⟩
end
mutual
theorem yt{hp:List (Nat×Blk)}{mm:Nat→Option Nat}{nn:Nat}{sl:Nat→Bool}:∀(s:SV),Old s→Wk hp mm nn sl s s
 |.top,_=>by simp[Wk]
 |.val v,_=>by simp[Wk]
 |.agg l,h=>by simp only[Old]at h;simp only[Wk];exact wkL_refl l h
 |.tup l,h=>by simp only[Old]at h;simp only[Wk];exact wkL_refl l h
 |.fn f a b,h=>by simp only[Old]at h;simp only[Wk];exact⟨trivial,wkL_refl a h.1,wkL_refl b h.2⟩
 |.ref o n row,h=>by simp only[Old]at h;simp only[Wk];exact⟨id,xa5 _,fun j hj=>yt (row j) (h.2 j hj)⟩
 |.arr o full n k row,h=>by simp only[Old]at h;simp only[Wk];exact⟨id,id,trivial,trivial,fun i j hi hj=>yt (row i j) (h.2 i j hi hj)⟩
 |.cmp o fit dom get,h=>by simp only[Old]at h;simp only[Wk];exact⟨id,trivial,trivial,fun key hk=>yt (get key) (h.2 key hk)⟩
 |.cut _ _ _,h=>by simp[Old]at h
 |.ptr _ _,h=>by simp[Old]at h
 |.elt _ _ _ _,h=>by simp[Old]at h
 |.vec _ _ _,h=>by simp[Old]at h
 |.mp _,h=>by simp[Old]at h
 |.asl _ _ _ _,h=>by simp[Old]at h
 |.que _ _ _ _,h=>by simp[Old]at h
 |.yld _,h=>by simp[Old]at h
theorem wkL_refl{hp:List (Nat×Blk)}{mm:Nat→Option Nat}{nn:Nat}{sl:Nat→Bool}:∀(l:List SV),OldL l→WkL hp mm nn sl l l
 |[],_=>by simp[WkL]
 |a :: l,h=>by simp only[OldL]at h;simp only[WkL];exact⟨yt a h.1,wkL_refl l h.2⟩
end
theorem Ki:∀{a b:List SV},OldL a→OldL b→OldL (a++b)
 |[],b,_,h=>h
 |x :: a,b,h,h'=>by simp only[OldL]at h;simp only[List.cons_append,OldL];exact⟨h.1,Ki h.2 h'⟩
theorem J0{first caps:List SV}{v:Value}(hf:OldL first)(hc:OldL caps):OldL (first++SV.val v :: caps):=Ki hf (by simp only[OldL,Old];exact⟨trivial,hc⟩)
end
end Go.Sx
end
section
namespace Go.Sx
open Go.RowKit
def qcs:Op→Bool
 |.defer _=>false
 |_=>true
def qnx(P:Program)(O:Ctx)(op:Op)(st:St)(K:St→Prop):Prop:=
 ∀(base:World)(okc:Nat→Prop)(ns:Nat)(r:Nat→Option Nat)(outs:gJ)(a:Act)(w:World)(o:Oper),o.op=op→InvR O base okc ns st.nid r outs st a w→
  ∃w',(execOp a.eval o).run P w=.ok .skip w'∧∃st' r',K st'∧st.nid≤st'.nid∧InvR O base okc ns st'.nid r' outs st' a w'
def opH(P:Program)(O:Ctx)(ds:List (Option Tmp))(o:Oper)(st:St)(K:St→Prop):Prop:=
 zo ds o.guard st
  (fun st=>QH P O (Tag.mk:Tag True) (Tag.mk:Tag o.op) o.dst st.nid st (fun st'=>K ⟨inD o.dst st'.fr,st'.hp,st'.nid+1⟩) .mk (stepR P (look st.fr) st.hp o.op)∨(qcs o.op=true∧(OpVC P O o.op st (fun st' res=>K (st'.putI o.dst res))∨qnx P O o.op st (fun st'=>K (st'.putI o.dst undefSV)))))
  (fun st=>K (st.putI o.dst undefSV))
def wP(f:Nat→Oper→Prop):Nat→List Oper→Prop
 |_,[]=>True
 |i,o :: rest=>f i o∧wP f (i+1) rest
theorem qbj{f:Nat→Oper→Prop}{i:Nat}:wP f i []:=trivial
theorem zY{f:Nat→Oper→Prop}{i:Nat}{o:Oper}{rest:List Oper}(h:f i o)(h':wP f (i+1) rest):wP f i (o :: rest):=⟨h,h'⟩
theorem Qh{f:Nat→Oper→Prop}:∀{ops:List Oper}{i:Nat},wP f i ops→∀j o,ops[j]? = some o→f (i+j) o
 |[],i,h,j,o,ho=>by simp at ho
 |p :: ops,i,h,j,o,ho=>by
  cases j with
  |zero=>simp at ho;subst ho;exact h.1
  |succ j=>have:=Qh h.2 j o Ω5;rwa [show i+1+j=i+(j+1) by omega]at this
def qct(ms:List Nat)(m:Nat):Prop:=∀j i,(ms.getD j 0).testBit i=true→m.testBit j=true→m.testBit i=true
def qml(P:Program)(O:Ctx)(ops:List Oper)(ms:List Nat)(inv:Nat→St→Prop)(i:Nat)(o:Oper):Prop:=
 ∀m st,inv m st→qct ms m→m.testBit i=false→(∀j,(ms.getD i 0).testBit j=true→j≠i→m.testBit j=true)→
  opH P O (dsts ops) o st fun st2=>∃st3,Weak O st2 st3∧inv (m ||| 2^i) st3
section
variable{P:Program}
theorem InvR.same{O:Ctx}{base:World}{okc:Nat→Prop}{ns n:Nat}{r:Nat→Option Nat}{outs:gJ}{fr fr':List (Nat×SV)}{hp:List (Nat×Blk)}{nid:Nat}{a:Act}{w:World}(h:InvR O base okc ns n r outs ⟨fr,hp,nid⟩ a w)(e:∀t,look fr' t=look fr t):InvR O base okc ns n r outs ⟨fr',hp,nid⟩ a w:=
 ⟨h.sat,h.keys,fun t=>by show Rep _ _ _ _ (look fr' t) _;rw[e];exact h.fr t,h.size,h.lo,h.out,h.rfix,h.defers⟩
theorem InvR.putI{O:Ctx}{base:World}{okc:Nat→Prop}{ns n:Nat}{r:Nat→Option Nat}{outs:gJ}{st:St}{d:Option Tmp}{v:SV}{a:Act}{w:World}(h:InvR O base okc ns n r outs (st.put d v) a w):InvR O base okc ns n r outs (st.putI d v) a w:=by
 cases d with
 |none=>exact h
 |some d=>exact h.same (fr':=putIn st.fr d v) fun t=>by rw[vP];rfl
theorem kC(st:St)(d:Option Tmp)(v:SV):(st.putI d v).nid=st.nid:=by cases d<;>rfl
theorem VX{O:Ctx}{base:World}{okc:Nat→Prop}{ns:Nat}{outs:gJ}{ro:Option Nat}{ops:Array Oper}{Q:Exit→Act→World→Prop}{o:Oper}{st:St}{a:Act}{w:World}{K:St→Prop}{K':Act→World→Prop}
  (h:Inv O base okc ns st.nid outs st a w) (hd:kv ns o=true) (ho:opH P O (dsts ops.toList) o st K) (hK:∀st' a' w',K st'→Inv O base okc ns st'.nid outs st' a' w'→K' a' w') :
  if Region.wanted o (yielded ops a.tmps)then o.wpIn (FR ro) 0 P a w K' Q else(∀f,o.about P w a.eval=some f→(FR ro).fn f)∧K' (a.put o.dst undef) w:=by
 have hd':∀t,o.dst=some t→t<ns:=fun t ht=>by simpa[kv,ht]using hd
 obtain⟨r,hr⟩:=h;obtain⟨st',hnid,h',hcase⟩:=K9 hr ho;rcases hcase with⟨hw,hrun⟩|⟨hw,hskip⟩
 ·rw[if_pos hw]
  rw[←hnid]at h';rcases hrun with hrun|hrun
  ·refine qaM (i:=0) (by simpa using h') hd (by exact hrun) fun st1 a1 w1 hk1 hn1 _ h1=>?_
   obtain⟨r1,h1⟩:=h1.nid (st1.nid+1);exact hK _ _ _ hk1 ⟨r1,h1.same fun t=>gt _ _ _⟩
  ·obtain⟨hnd,hrun⟩:=hrun
   have hnd:∀c,o.op≠.defer c:=fun c e=>by rw[e]at hnd;cases hnd
   refine⟨fun _ _=>trivial,?_⟩;rw[Oper.semAt_eq _ _ _ hnd];rcases hrun with hrun|hrun
   ·obtain⟨v,w',e1,st2,r',res,hk,hn,hi,hv⟩:=hrun base okc ns r outs a w o rfl h'
    rw[e1];exact hK _ _ _ hk ⟨r',by rw[kC];exact(hi.step (Step.refl hi.sat) hi.keys (xa5 _) hd' hv).putI⟩
   ·obtain⟨w',e1,st2,r',hk,hn,hi⟩:=hrun base okc ns r outs a w o rfl h'
    rw[e1];exact hK _ _ _ hk ⟨r',by rw[kC];exact(hi.step (Step.refl hi.sat) hi.keys (xa5 _) hd' (.val _)).putI⟩
 ·rw[if_neg (by rw[hw];simp)]
  exact⟨fun _ _=>trivial,hK _ _ _ hskip ⟨r,by rw[kC,hnid];exact(h'.step (Step.refl h'.sat) h'.keys (xa5 _) hd' (.val _)).putI⟩⟩
theorem qeP(hm:P.follows .mixedOrders=true){O:Ctx}{st st0:St}{K:Ex→St→Prop}{id:Nat}{ops:List Oper}(inv:Nat→St→Prop){ms:List Nat}(hms:zp [] ops=ms)(hedge:gu 0 ops=true)(hw0:Weak O st st0)(h0:inv 0 st0)(hs:wP (qml P O ops ms inv) 0 ops)
  (hend:∀m st',inv m st'→(∀i,i<ops.length→m.testBit i=true)→K .normal st') {g:Tag K}:j4 P O id ops true st K g:=by
 subst hms;intro base okc ns outs a w ro Q hro hc hi hK
 replace hi:=hw0 _ _ _ _ _ _ hi
 simp only[qE,xe6]at hc;obtain⟨hd,-⟩:=hc;have hd:ops.all (kv ns)=true:=by simpa using hd
 have hn:ops.toArray.size=ops.length:=by simp
 have hget:∀j:Nat,ops.toArray[j]? = ops[j]?:=fun j=>by simp
 have hedge:=kI hedge;have hclosed:∀(S:Nat→Bool)(i:Nat),kg ops S→(∃o,ops[i]? = some o∧∀e∈o.after,Region.binds .any e=true→S e.on=true)→kg ops (fun j=>S j || decide (j=i)):=by
  rintro S i hc ⟨o,ho,he⟩ j oj hoj hS e hm' hb;simp only[xe8,decide_eq_true_eq]at hS ⊢;rcases hS with hS|hS
  ·exact .inl (hc j oj hoj hS e hm' hb)
  ·subst hS
   rw[ho]at hoj;cases hoj;exact .inl (he e hm' hb)
 have hready:∀(listed:Array Bool)(i:Nat),listed.size=ops.length→i∈Region.ready .any ops.toArray listed→i<ops.length∧listed.getD i false=false∧∃o,ops[i]? = some o∧∀e∈o.after,Region.binds .any e=true→listed.getD e.on false=true:=by
  intro listed i hsz hi;obtain⟨h1,o,h2,h3⟩:=mem_ready.1 hi;rw[hget]at h2;have hlt:i<ops.length:=(List.getElem?_eq_some_iff.1 h2).1;refine⟨hlt,?_,o,h2,h3⟩;have:i<listed.size:=by omega
  simpa[this]using h1
 have hleast:∀(listed:Array Bool),listed.size=ops.length→∀i,i<ops.length→listed.getD i false=false→∃j,j≤i∧j∈Region.ready .any ops.toArray listed:=by
  intro listed hsz i
  induction i using Nat.strongRecOn with
  |_ i ih=>
   intro hi hf;obtain⟨o,ho⟩:∃o,ops[i]? = some o:=⟨ops[i],by simp[hi]⟩;by_cases hall:∀e∈o.after,Region.binds .any e=true→listed.getD e.on false=true
   ·refine⟨i,xa5 _,mem_ready.2 ⟨?_,o,by rw[hget];exact ho,hall⟩⟩
    have:i<listed.size:=by omega
    simpa[this]using hf
   ·have:∃e,e∈o.after∧Region.binds .any e=true∧listed.getD e.on false=false:=by
     refine xf9 fun hno=>hall fun e he hb=>?_;cases hv:listed.getD e.on false with
     |true=>rfl
     |false=>exact(hno ⟨e,he,hb,hv⟩).elim
    obtain⟨e,he,hb,hv⟩:=this;have hlt:=hedge i o ho e he hb;rw[xb0]at hlt;obtain⟨j,hj,hr⟩:=ih e.on hlt Ω hv;exact⟨j,Ω,hr⟩
 have main:∀(fuel:Nat)(listed:Array Bool)(m:Nat)(st:St)(a:Act)(w:World),listed.size=ops.length→(∀i,listed.getD i false=m.testBit i)→kg ops (fun i=>listed.getD i false)→cnt (fun i=>listed.getD i false) ops.length=fuel→
   inv m st→Inv O base okc ns st.nid outs st a w→wpAnyIn (FR ro) 0 P .any ops.toArray Q fuel listed a w:=by
  intro fuel
  induction fuel with
  |zero=>
   intro listed m st a w hsz hbit hcl hcnt hin hi;have hall:=vm hcnt;refine⟨?_,hK .normal st a w (hend m st hin fun i hi=>by rw[←hbit];exact hall i hi) hi⟩;cases hr:Region.ready .any ops.toArray listed with
   |nil=>rfl
   |cons x xs=>
    obtain⟨h1,h2,-⟩:=hready listed x hsz Ω2;have:=hall x h1;simp only[h2]at this;cases this
  |succ fuel ih=>
   intro listed m st a w hsz hbit hcl hcnt hin hi;refine⟨fun h=>?_,fun i hir=>?_⟩
   ·exfalso
    have:∃x,x<ops.length∧listed.getD x false=false:=by
     refine xf9 fun hno=>?_;have:∀n,n≤ops.length→cnt (fun i=>listed.getD i false) n=0:=by
      intro n
      induction n with
      |zero=>intro _;rfl
      |succ n ihn=>
       intro hn';simp only[cnt];rw[ihn Ω];have hv:listed.getD n false=true:=by
        refine xf9 fun hv=>hno ⟨n,Ω,(by simpa using hv)⟩
       rw[if_pos hv]
     rw[this _ (xa5 _)]at hcnt;cases hcnt
    obtain⟨x,hx,hxf⟩:=this;obtain⟨y,_,hr⟩:=hleast listed hsz x hx hxf;rw[h]at hr;cases hr
   ·obtain⟨hil,hif,o,ho,hie⟩:=hready listed i hsz hir
    have hcl':=hclosed _ i hcl ⟨o,ho,hie⟩;have hS:∀x,(listed.setIfInBounds i true).getD x false=(listed.getD x false || decide (x=i)):=fun x=>vn Ω;have hop:=Qh hs i o ho;rw[xb0]at hop;have hop:=hop m st hin (fun j x hb hj=>by
     rw[←hbit]at hj ⊢;exact qt (S:=fun i=>listed.getD i false) hcl hb hj) (by rw[←hbit];exact hif) (fun j hb hne=>by
     have:=qt hcl' hb Ωh;simp only[xe8,decide_eq_true_eq]at this;rw[←hbit];exact this.resolve_right hne)
    have hdo:kv ns o=true:=List.all_eq_true.1 hd o (List.mem_of_getElem? ho);unfold wpOpIn;simp only[hget,ho];refine VX (ops:=ops.toArray) hi hdo (by simpa using hop) fun st' a' w' hst3 hi'=>?_;obtain⟨st3,hw,hin'⟩:=hst3;refine ih _ (m ||| 2^i) st3 a' w' Ωae (fun x=>?_) ?_ ?_ hin' (hw _ _ _ _ _ _ hi')
    ·rw[hS,hbit,Nat.testBit_or,Nat.testBit_two_pow]
     congr 1
     simp[eq_comm]
    ·have:(fun x=>(listed.setIfInBounds i true).getD x false)=fun x=>listed.getD x false || decide (x=i):=funext hS
     rw[this];exact hcl'
    ·have:=(gv (S:=fun i=>listed.getD i false) (S':=fun x=>(listed.setIfInBounds i true).getD x false) hS hif (n:=ops.length)).2 hil
     omega
 refine wpIn_region_any hm ?_;rw[hn];have hrep0:∀i,(Array.replicate ops.length false).getD i false=false:=fun i=>by simp only[xf5,Array.getElem?_replicate];split<;>rfl
 obtain⟨r0,hr0⟩:=hi;have hdrew:Below w.heap.size w { w with drawn:=w.drawn+1 }:=⟨rfl,rfl,rfl,xa5 _,fun _ _=>rfl⟩;have hi1:InvR O base okc ns st0.nid r0 outs st0 a { w with drawn:=w.drawn+1 }:=hr0.step (hr0.sat.grow hdrew) hr0.keys (xa5 _) (d:=none) (fun t ht=>by cases ht) (.top undef);refine main ops.length (Array.replicate ops.length false) 0 st0 a _ Ωh (fun i=>by rw[hrep0];simp) ?_ ?_ h0 ⟨r0,hi1⟩
 ·intro j o ho hS;simp only[hrep0]at hS;cases hS
 ·have key:∀n,cnt (fun i=>(Array.replicate ops.length false).getD i false) n=n:=by
   intro n
   induction n with
   |zero=>rfl
   |succ n ihn=>
    simp only[cnt,ihn];rw[if_neg (by rw[hrep0];simp)]
  exact key _
end
def up:Bool→SV→SV
 |true,v=>v
 |false,_=>.top
theorem qW(v:SV):up true v=v:=rfl
theorem qJ(v:SV):up false v=.top:=rfl
theorem tb(m i j:Nat):(m ||| 2^i).testBit j=(m.testBit j || decide (i=j)):=by rw[Nat.testBit_or,Nat.testBit_two_pow]
section
variable{P:Program}{O:Ctx}
theorem Yo{es:Array MapEntry}{clock:Nat}(ht:VB es clock){j:Nat}{e0:MapEntry}(h:es[j]? = some e0):es.findIdx? (fun e=>(e.born:Int) ==(e0.born:Int))=some j:=by
 cases hf:es.findIdx? (fun e=>(e.born:Int) ==(e0.born:Int))with
 |none=>
  have:=Array.findIdx?_eq_none_iff.1 hf e0 (Array.mem_of_getElem? h);simp at this
 |some i=>
  obtain⟨hlt,h1,-⟩:=Array.findIdx?_eq_some_iff_getElem.1 hf;have e1:(es[i]).born=e0.born:=by
   have:=beq_iff_eq.1 h1;omega
  rw[ht.once i j es[i] e0 (by simp[hlt]) h e1]
theorem qeQ{t:TypeId}{m k:Operand}{mid:Nat}{dom:Value→Bool}{get:Value→SV}{st:St}{K:St→SV→Prop}{ag:Bool}{ls:List Lf}{z v:Value}(hx:env (look st.fr) m=.mp mid)(hk:keyV (env (look st.fr) k)=some v)(ht:qI P t=some ⟨ag,ls,z⟩)(hb:blk st.hp mid=some (.map (qm ag ls) dom get))
  (hfv:qm ag ls v=true) (hd:dom v=false)
  (h:∀(stamp:Value→Nat)(clk:Nat),K ⟨st.fr,setBlk st.hp mid (.mapS (qm ag ls) (qL dom v) (qG get v (.val z)) stamp clk),st.nid⟩ (.tup [.val z,.val (.int .i64 (stamp v))])):OpVC P O (.mapEntry t m k) st K:=by
 intro base okc ns r outs a w o ho hi;obtain⟨kt,et,ii,hu,hki,hinf,hz,hz1⟩:=zH ht;simp only[]at hki hz;have hv:=hi.env m;rw[hx]at hv;have hkk:=hi.env k;generalize hex:a.eval m=u at hv;generalize hek:a.eval k=y at hkk;obtain rfl:=jE hk hkk;cases hv with
 |mp _ b hN hr=>
 have hrep:=hi.sat.rep mid _ hb hN;rw[hr]at hrep;cases hrep with
 |map _ _ _ _ es clock hb' hmo htm hes=>
 obtain⟨-,p2⟩:=ym hki hmo htm hfv z;obtain⟨hf,hmo',ht',hall⟩:=p2 hd;have hst:∀e,e∈es.push { key:=y,val:=z,born:=clock }→e.born=stampOf (es.push { key:=y,val:=z,born:=clock }) e.key:=fun e he=>by
  have hex:∃e',e'∈es.push { key:=y,val:=z,born:=clock }∧e'.key=e.key:=⟨e,he,rfl⟩;unfold stampOf;rw[dif_pos hex];obtain⟨c1,c2⟩:=Classical.choose_spec hex;obtain⟨i,hi⟩:=Array.mem_iff_getElem?.1 he;obtain⟨j,hj⟩:=Array.mem_iff_getElem?.1 c1;have:=hmo'.once i j _ _ hi hj c2.symm;subst this;rw[hi]at hj;injection hj with hj;rw[←hj]
 have hself:eqK y y=true:=(gV hki hfv hfv).2 rfl;have s1:Step base okc r (· < st.nid) st.hp w r (· < st.nid) (setBlk st.hp mid (.mapS (qm ag ls) (qL dom y) (qG get y (.val z)) (stampOf (es.push { key:=y,val:=z,born:=clock })) (clock+1))) { w with heap:=w.heap.setIfInBounds b (.map (es.push { key:=y,val:=z,born:=clock }) (clock+1)) }:=
  ku hi.sat hb hN hr hb' (fun _ _ _=>by simp) (.map (es.push { key:=y,val:=z,born:=clock }) (clock+1)) _ fun G' w' hw' hrep=>.mapS _ _ _ _ b _ (clock+1) hw' hmo' ht' hst fun e' he'=>by
   rcases hall e' he' with⟨e1,e2⟩|⟨e1,e2⟩
   ·rw[e1,e2]
    simp only[qG,hself,svIte,if_true];exact .val _
   ·have:eqK y e'.key=false:=by
     cases hq:eqK y e'.key with
     |false=>rfl
     |true=>exact absurd (ke hq).symm e2
    simp only[qG,this,svIte,xe7,if_false];exact hrep _ _ (hes e' e1)
 have hi1:InvR O base okc ns st.nid r outs ⟨st.fr,setBlk st.hp mid (.mapS (qm ag ls) (qL dom y) (qG get y (.val z)) (stampOf (es.push { key:=y,val:=z,born:=clock })) (clock+1)),st.nid⟩ a { w with heap:=w.heap.setIfInBounds b (.map (es.push { key:=y,val:=z,born:=clock }) (clock+1)) }:=
  hi.step s1 (vq hb hi.keys) (xa5 _) (d:=none) (fun t ht=>by cases ht) (.top undef)
 have hcl:clock=stampOf (es.push { key:=y,val:=z,born:=clock }) y:=hst { key:=y,val:=z,born:=clock } Array.mem_push_self;refine⟨.tuple #[z,goInt clock],_,?_,⟨st.fr,setBlk st.hp mid _,st.nid⟩,r,_,h (stampOf (es.push { key:=y,val:=z,born:=clock })) (clock+1),xa5 _,hi1,.tup _ _ rfl fun i sv hi=>?_⟩
 ·have e:execOp a.eval o=(do pure (.value (←Instr.mapEntry t (a.eval m) (a.eval k)))):=by
   obtain⟨dst,op,type,pos,aft,guard⟩:=o;simp only[]at ho;subst ho;rfl
  rw[e,hex,hek];have hobj:(getObj b).run P w=.ok (.map es clock) w:=by simp[getObj,Sem.run,hb']
  have hset:∀o,(setObj b o).run P w=.ok () { w with heap:=w.heap.setIfInBounds b o }:=fun o=>by simp[setObj,Sem.run,hb']
  have hfes:∀e∈es.toList,qm ag ls e.key=true:=fun e he=>hmo.fits e ΩY;have hzr:(zeroValue et).run P w=.ok z w:=by simp[zeroValue,typeInfo,hinf,hz]
  simp only[Instr.mapEntry,Sem.run_bind,run_underlying hu,Result.andThen_ok,hobj,ka hki hfv,kF hki hfv es.toList hfes,hf,hzr,hset,Sem.run_pure]
 ·match i,hi with
  |0,hi=>simp at hi;subst hi;exact .val _
  |1,hi=>
   simp at hi;subst hi;rw[←hcl];exact .val _
theorem qeR{t:TypeId}{m s x:Operand}{mid clk:Nat}{fit dom:Value→Bool}{get:Value→SV}{stamp:Value→Nat}{st:St}{K:St→Prop}{v:Value}{kt:TypeId}{ag:Bool}{ls:List Lf}(hki:kE P kt=some (ag,ls))(hfit:fit=qm ag ls)(hx:env (look st.fr) m=.mp mid)(hs:env (look st.fr) s=.val (.int .i64 (stamp v)))(hb:blk st.hp mid=some (.mapS fit dom get stamp clk))
  (hd:dom v=true)
  (h:K ⟨st.fr,setBlk st.hp mid (.map fit dom (qG get v (env (look st.fr) x))),st.nid⟩):qnx P O (.entryStore t m s x) st K:=by
 subst hfit;intro base okc ns r outs a w o ho hi;have hv:=hi.env m;rw[hx]at hv;have hss:=hi.env s;rw[hs]at hss;have hxx:=hi.env x;generalize hex:a.eval m=u at hv;generalize hes':a.eval s=u2 at hss;generalize hexx:a.eval x=y at hxx;cases hss;cases hv with
 |mp _ b hN hr=>
 have hrep:=hi.sat.rep mid _ hb hN;rw[hr]at hrep;cases hrep with
 |mapS _ _ _ _ _ es _ hb' hmo htm hst hes=>
 obtain⟨e0,he0,hk0⟩:=hmo.has v hd;obtain⟨j,hj⟩:=Array.mem_iff_getElem?.1 he0;have hother:∀(i:Nat)(e:MapEntry),es[i]? = some e→i≠j→e.key≠v:=fun i e hi' hne hk=>hne (hmo.once i j e e0 hi' hj (hk.trans hk0.symm));have hfv:qm ag ls v=true:=by rw[←hk0];exact hmo.fits e0 he0
 have hself:eqK v v=true:=(gV hki hfv hfv).2 rfl;have hkeys:∀(i:Nat)(e:MapEntry),(es.modify j fun e=>{ e with val:=y })[i]? = some e→∃e1,es[i]? = some e1∧e.key=e1.key∧e.born=e1.born∧((i=j∧e.val=y)∨(i≠j∧e=e1)):=fun i e he=>by
  rw[jF]at he;simp only[Option.map_eq_some_iff]at he;obtain⟨e1,h1,rfl⟩:=he;refine⟨e1,h1,?_⟩;split
  ·rename_i e';exact⟨rfl,rfl,.inl ⟨e',rfl⟩⟩
  ·rename_i e';exact⟨rfl,rfl,.inr ⟨e',rfl⟩⟩
 have hmo':wx (qm ag ls) dom (es.modify j fun e=>{ e with val:=y }):=by
  refine⟨fun i i' e f he hf hkk=>?_,fun e he=>?_,fun e he=>?_,fun k hk=>?_⟩
  ·obtain⟨e1,h1,h2,_⟩:=hkeys i e he
   obtain⟨f1,h3,h4,_⟩:=hkeys i' f hf;exact hmo.once i i' e1 f1 h1 h3 (by rw[←h2,←h4];exact hkk)
  ·obtain⟨i,hi'⟩:=Array.mem_iff_getElem?.1 he
   obtain⟨e1,h1,h2,_⟩:=hkeys i e hi';rw[h2];exact hmo.fits e1 (Array.mem_of_getElem? h1)
  ·obtain⟨i,hi'⟩:=Array.mem_iff_getElem?.1 he
   obtain⟨e1,h1,h2,_⟩:=hkeys i e hi';rw[h2];exact hmo.doms e1 (Array.mem_of_getElem? h1)
  ·obtain⟨e1,he1,hk1⟩:=hmo.has k hk
   obtain⟨i,hi'⟩:=Array.mem_iff_getElem?.1 he1;refine⟨if i=j then { e1 with val:=y }else e1,Array.mem_of_getElem? (i:=i) (by rw[jF,hi'];rfl),?_⟩;split<;>exact hk1
 have htm':VB (es.modify j fun e=>{ e with val:=y }) clk:=by
  refine⟨fun e he=>?_,fun i i' e f he hf hkk=>?_⟩
  ·obtain⟨i,hi'⟩:=Array.mem_iff_getElem?.1 he
   obtain⟨e1,h1,_,h2,_⟩:=hkeys i e hi';rw[h2];exact htm.lt e1 (Array.mem_of_getElem? h1)
  ·obtain⟨e1,h1,_,h2,_⟩:=hkeys i e he
   obtain⟨f1,h3,_,h4,_⟩:=hkeys i' f hf;exact htm.once i i' e1 f1 h1 h3 (by rw[←h2,←h4];exact hkk)
 have s1:Step base okc r (· < st.nid) st.hp w r (· < st.nid) (setBlk st.hp mid (.map (qm ag ls) dom (qG get v (env (look st.fr) x)))) { w with heap:=w.heap.setIfInBounds b (.map (es.modify j fun e=>{ e with val:=y }) clk) }:=
  ku hi.sat hb hN hr hb' (fun _ _ _=>by simp) (.map (es.modify j fun e=>{ e with val:=y }) clk) _ fun G' w' hw' hrep=>.map _ _ _ b _ clk hw' hmo' htm' fun e' he'=>by
   obtain⟨i,hi'⟩:=Array.mem_iff_getElem?.1 he';obtain⟨e1,h1,h2,_,h3|h3⟩:=hkeys i e' hi'
   ·obtain⟨rfl,h3⟩:=h3
    rw[hj]at h1;cases h1;rw[h2,h3,hk0];simp only[qG,hself,svIte,if_true];exact hrep _ _ hxx
   ·obtain⟨hne,rfl⟩:=h3
    have:eqK v e'.key=false:=by
     cases hq:eqK v e'.key with
     |false=>rfl
     |true=>exact absurd (ke hq).symm (hother i e' h1 hne)
    simp only[qG,this,svIte,xe7,if_false];exact hrep _ _ (hes e' (Array.mem_of_getElem? h1))
 have hi1:InvR O base okc ns st.nid r outs ⟨st.fr,setBlk st.hp mid (.map (qm ag ls) dom (qG get v (env (look st.fr) x))),st.nid⟩ a { w with heap:=w.heap.setIfInBounds b (.map (es.modify j fun e=>{ e with val:=y }) clk) }:=
  hi.step s1 (vq hb hi.keys) (xa5 _) (d:=none) (fun t ht=>by cases ht) (.top undef)
 refine⟨_,?_,⟨st.fr,setBlk st.hp mid _,st.nid⟩,r,h,xa5 _,hi1⟩;obtain⟨dst,op,type,pos,aft,guard⟩:=o;simp only[]at ho;subst ho;simp only[execOp,hex,hes',hexx];have hobj:(getObj b).run P w=.ok (.map es clk) w:=by simp[getObj,Sem.run,hb']
 have hset:∀o,(setObj b o).run P w=.ok () { w with heap:=w.heap.setIfInBounds b o }:=fun o=>by simp[setObj,Sem.run,hb']
 have hidx:=Yo htm hj;rw[hst e0 he0,hk0]at hidx;simp[Instr.entryStore,Sem.run_bind,Result.andThen_ok,hobj,asInt,asIntOf,hidx,hset,Sem.run_pure]
end
end Go.Sx
end
section
namespace Go.Sx
open Go.RowKit
def vt:Op→Bool
 |.call ⟨.builtin .append,_,_⟩=>true
 |_=>false
def zj:Op→Option (Tmp×Tmp)
 |.call ⟨.builtin .append,args,_⟩=>match args.toList with
  |[.tmp s,.tmp x]=>some (s,x)
  |_=>none
 |_=>none
def qgR(far:List (Nat×Nat))(ds:List (Option Tmp))(i j a c:Nat):Bool:=far.any (fun p=>decide (p.1=a)&&decide (p.2=c))&&zd ds i a&&zd ds j c
def qbk(far:List (Nat×Nat))(ds:List (Option Tmp))(i j:Nat)(oi oj:Oper):Bool:=
 match vt oj.op with
 |false=>!(vt oi.op&&qC oj.op)
 |true=>!qC oi.op&&match zj oj.op with
  |none=>false
  |some (s,_)=>match oi.op with
   |.load _ (.tmp a)=>qgR far ds i j a s
   |_=>match zj oi.op with
    |some (s',x')=>qgR far ds i j s' s&&qgR far ds i j x' s
    |none=>!kU oi.op&&!vt oi.op
def VY(far:List (Nat×Nat))(ds:List (Option Tmp))(ms:List Nat)(ops:List Oper):Bool:=
 (List.range ops.length).all fun j=>match ops[j]? with
  |none=>true
  |some oj=>(List.range j).all fun i=>(ms.getD j 0).testBit i || match ops[i]? with
   |none=>true
   |some oi=>qbk far ds i j oi oj
def Kz(far:List (Nat×Nat))(ops:List Oper):Bool:=
 let ms:=zp [] ops
 gu 0 ops&&yo (dsts ops) ms ops&&Gh far (dsts ops) ms ops&&VY far (dsts ops) ms ops&&ops.all (fun o=>kf o.op || qC o.op ||(zj o.op).isSome)
def qgS(far:List (Nat×Nat))(ds:List (Option Tmp))(i j a c:Nat):Prop:=(a,c)∈far∧zd ds i a=true∧zd ds j c=true
theorem ZK{far:List (Nat×Nat)}{ds:List (Option Tmp)}{i j a c:Nat}(h:qgR far ds i j a c=true):qgS far ds i j a c:=by
 simp only[qgR,xe6,List.any_eq_true,decide_eq_true_eq]at h;obtain⟨⟨⟨p,hp,h1,h2⟩,h3⟩,h4⟩:=h;exact⟨by rw[←h1,←h2];exact hp,h3,h4⟩
def qgT(far:List (Nat×Nat))(ds:List (Option Tmp))(i j:Nat)(oi oj:Oper):Prop:=
 (vt oj.op=false∧¬(vt oi.op=true∧qC oj.op=true))∨
 (vt oj.op=true∧qC oi.op=false∧∃s x,zj oj.op=some (s,x)∧((∃t a,oi.op=.load t (.tmp a)∧qgS far ds i j a s)∨(∃s' x',zj oi.op=some (s',x')∧qgS far ds i j s' s∧qgS far ds i j x' s)∨(kU oi.op=false∧vt oi.op=false)))
theorem Yp{far:List (Nat×Nat)}{ds:List (Option Tmp)}{i j:Nat}{oi oj:Oper}(h:qbk far ds i j oi oj=true):qgT far ds i j oi oj:=by
 unfold qbk at h;split at h
 ·rename_i e
  refine .inl ⟨e,fun hh=>?_⟩;rw[hh.1,hh.2]at h;cases h
 ·rename_i e
  simp only[xe6,Bool.not_eq_true']at h;refine .inr ⟨e,h.1,?_⟩;have h:=h.2;split at h
  ·cases h
  ·rename_i s x ea
   refine⟨s,x,ea,?_⟩;split at h
   ·rename_i t a el
    exact .inl ⟨t,a,el,ZK h⟩
   ·split at h
    ·rename_i s' x' ea'
     simp only[xe6]at h;exact .inr (.inl ⟨s',x',ea',ZK h.1,ZK h.2⟩)
    ·simp only[xe6,Bool.not_eq_true']at h
     exact .inr (.inr h)
theorem vZ{far:List (Nat×Nat)}{ds:List (Option Tmp)}{ms:List Nat}{ops:List Oper}(h:VY far ds ms ops=true){i j:Nat}{oi oj:Oper}(hi:ops[i]? = some oi)(hj:ops[j]? = some oj)(hij:i<j) :
  (ms.getD j 0).testBit i=true∨qgT far ds i j oi oj:=by
 simp only[VY,List.all_eq_true,List.mem_range]at h;have h1:=h j (List.getElem?_eq_some_iff.1 hj).1;rw[hj]at h1;simp only[List.all_eq_true,List.mem_range]at h1;have h2:=h1 i hij;rw[hi]at h2;simp only[xe8]at h2;exact h2.imp id Yp
def gS:SV→Option Nat
 |.ptr id _=>some id
 |.elt id _ _ _=>some id
 |.vec id _ _=>some id
 |.cut id _ _=>some id
 |.asl id _ _ _=>some id
 |.que id _ _ _=>some id
 |_=>none
theorem VZ{s:SV}{id:Nat}(h:qH s=some id):gS s=some id:=by cases s<;>first|exact h|(cases h;done)
def wa(s s':SV):Prop:=match gS s,gS s' with
 |some i,some j=>i≠j
 |_,_=>True
def QL:List (Nat×Nat)→St→Prop→Prop
 |[],_,X=>X
 |(a,b) :: l,st,X=>wa (look st.fr a) (look st.fr b)∧QL l st X
theorem Gy:∀{l:List (Nat×Nat)}{st:St}{X:Prop},QL l st X→X∧∀a b,(a,b)∈l→wa (look st.fr a) (look st.fr b)
 |[],st,X,h=>⟨h,fun a b hab=>by cases hab⟩
 |(c,d) :: l,st,X,h=>by
  obtain⟨h1,h2⟩:=Gy h.2;refine⟨h1,fun a b hab=>?_⟩;rcases List.mem_cons.1 hab with e|e
  ·cases e;exact h.1
  ·exact h2 a b e
theorem Gz{hp hp':List (Nat×Blk)}{x:SV}(h:∀id y,gS x=some id→blk hp id=some y→blk hp' id=some y)(hne:rowsOf hp x≠none):rowsOf hp' x=rowsOf hp x:=by
 unfold rowsOf at hne ⊢;cases x with
 |vec id n k=>
  simp only[]at hne ⊢;cases hb:blk hp id with
  |none=>rw[hb]at hne;exact absurd rfl hne
  |some y=>rw[h id y rfl hb]
 |cut id n k=>
  simp only[]at hne ⊢;cases hb:blk hp id with
  |none=>rw[hb]at hne;exact absurd rfl hne
  |some y=>rw[h id y rfl hb]
 |asl id off n k=>
  simp only[]at hne ⊢;cases hb:blk hp id with
  |none=>rw[hb]at hne;exact absurd rfl hne
  |some y=>rw[h id y rfl hb]
 |_=>rfl
theorem Yq{P:Program}{t:TypeId}{hp hp':List (Nat×Blk)}{s x:SV}(h:∀id y,(gS s=some id∨gS x=some id)→blk hp id=some y→blk hp' id=some y)(hne:rAppend P t hp s x≠.bad):rAppend P t hp' s x=rAppend P t hp s x:=by
 have hx:rowsOf hp x≠none:=fun e=>by
  unfold rAppend at hne;rw[e]at hne;refine hne ?_;split
  ·split<;>rfl
  ·rfl
 have ex:=Gz (hp':=hp') (fun id y hid hy=>h id y (.inr hid) hy) hx;unfold rAppend at hne ⊢;rw[ex];split
 ·split
  ·split
   ·cases s with
    |vec id n k=>
     simp only[]at hne ⊢;cases hb:blk hp id with
     |none=>rw[hb]at hne;simp_all
     |some y=>rw[h id y (.inl rfl) hb]
    |cut id n k=>
     have es:rowsOf hp (.cut id n k)≠none:=fun e=>by
      rw[e]at hne;simp_all
     rw[Gz (hp:=hp) (hp':=hp') (fun id y hid hy=>h id y (.inl hid) hy) es]
    |arr o full n k row=>cases full<;>simp only[rowsOf]
    |_=>rfl
   ·rfl
  ·rfl
 ·rfl
theorem wb{op:Op}{s x:Tmp}(h:zj op=some (s,x)):∃args ts,op=.call ⟨.builtin .append,args,ts⟩∧args.toList=[.tmp s,.tmp x]:=by
 unfold zj at h;split at h
 ·rename_i args ts
  refine⟨args,ts,rfl,?_⟩;split at h
  ·rename_i e
   simp only[Option.some.injEq,Prod.mk.injEq]at h;rw[e,h.1,h.2]
  ·cases h
 ·cases h
theorem zw{op:Op}{s x:Tmp}(h:zj op=some (s,x)):vt op=true:=by
 obtain⟨args,ts,rfl,_⟩:=wb h;rfl
theorem qeS{op:Op}(h:vt op=true):qC op=false:=by
 unfold vt at h;split at h
 ·rfl
 ·cases h
theorem Yr{op:Op}(h:vt op=true):kU op=false:=by
 unfold vt at h;split at h
 ·rfl
 ·cases h
theorem Qi{P:Program}{F:Nat→SV}{hp:List (Nat×Blk)}{op:Op}{s x:Tmp}(h:zj op=some (s,x)):(∃t,∀hp,stepR P F hp op=rAppend P t hp (F s) (F x))∨(∀hp,stepR P F hp op=.bad):=by
 obtain⟨args,ts,rfl,e⟩:=wb h;simp only[stepR,rCall,e];cases hts:ts.toList with
 |nil=>right;intro hp;simp
 |cons t l=>cases l with
  |nil=>right;intro hp;simp
  |cons t' l'=>cases l' with
   |cons _ _=>right;intro hp;simp
   |nil=>
    by_cases et:t=t'
    ·left;exact⟨t,fun hp=>by simp only[et,if_true];rfl⟩
    ·right;intro hp;simp only[et,if_false]
theorem yS{P:Program}{F:Nat→SV}{hp hp':List (Nat×Blk)}{op:Op}{s x:Tmp}(ha:zj op=some (s,x))(h:∀id y,(gS (F s)=some id∨gS (F x)=some id)→blk hp id=some y→blk hp' id=some y)(hne:stepR P F hp op≠.bad):stepR P F hp' op=stepR P F hp op:=by
 rcases Qi (P:=P) (F:=F) (hp:=hp) ha with⟨t,e⟩|e
 ·rw[e]at hne
  rw[e,e,Yq h hne]
 ·exact absurd (e hp) hne
theorem V0{P:Program}{t:TypeId}{hp:List (Nat×Blk)}{s x:SV}{obl:Prop}{old:Nat}{b:Blk}{mk:Nat→SV}(h:rAppend P t hp s x=.grow obl old b mk):(∃n k,s=.vec old n k)∧∃y,blk hp old=some y:=by
 unfold rAppend at h;(repeat' split at h)<;>first|(cases h;done)|skip
 all_goals
  rename_i e;simp only[Res.grow.injEq]at h;obtain⟨_,rfl,_⟩:=h;exact⟨⟨_,_,rfl⟩,_,e⟩
theorem GA{P:Program}{F:Nat→SV}{hp:List (Nat×Blk)}{op:Op}{s x:Tmp}(ha:zj op=some (s,x)){obl:Prop}{old:Nat}{b:Blk}{mk:Nat→SV}(h:stepR P F hp op=.grow obl old b mk):(∃n k,F s=.vec old n k)∧∃y,blk hp old=some y:=by
 rcases Qi (P:=P) (F:=F) (hp:=hp) ha with⟨t,e⟩|e
 ·rw[e]at h;exact V0 h
 ·rw[e]at h;cases h
theorem GC{P:Program}{F:Nat→SV}{hp:List (Nat×Blk)}{op:Op}{s x:Tmp}(ha:zj op=some (s,x)):(∃obl b mk,stepR P F hp op=.new obl b mk)∨(∃obl old b mk,stepR P F hp op=.grow obl old b mk)∨stepR P F hp op=.bad:=by
 rcases Qi (P:=P) (F:=F) (hp:=hp) ha with⟨t,e⟩|e
 ·rw[e];exact jl _ _ _
 ·exact .inr (.inr (e hp))
def yT(d:Option Nat)(hp:List (Nat×Blk)):List (Nat×Blk):=match d with|some x=>dropBlk hp x|none=>hp
def TG(k:Nat)(nb:Nat→Option Blk)(up:Nat→Option (Nat×Blk))(dr:Nat→Option Nat)(hp:List (Nat×Blk)):Nat→List (Nat×Blk)
 |0=>hp
 |i+1=>match up i with
  |some (t,b)=>setBlk (TG k nb up dr hp i) t b
  |none=>zX (nb i) (k+i) (yT (dr i) (TG k nb up dr hp i))
def DH(dr:Nat→Option Nat)(S:Nat→Bool)(hp:List (Nat×Blk)):Nat→List (Nat×Blk)
 |0=>hp
 |m+1=>if S m=true then yT (dr m) (DH dr S hp m)else DH dr S hp m
theorem vu(d:Option Nat)(hp:List (Nat×Blk))(x:Nat):blk (yT d hp) x=if d=some x then none else blk hp x:=by
 cases d with
 |none=>simp[yT]
 |some y=>
  simp only[yT,qS,Option.some.injEq];by_cases e:x=y
  ·subst e;simp
  ·rw[if_neg e,if_neg (Ne.symm e)]
theorem gz{dr:Nat→Option Nat}{S:Nat→Bool}{hp:List (Nat×Blk)}{x:Nat}:∀{m:Nat},(∀j,j<m→S j=true→dr j≠some x)→blk (DH dr S hp m) x=blk hp x
 |0,_=>rfl
 |m+1,h=>by
  have ih:=gz (dr:=dr) (S:=S) (hp:=hp) (x:=x) (m:=m) fun j hj=>h j Ω;simp only[DH];split
  ·rename_i hS
   rw[vu,if_neg (h m Ω hS)];exact ih
  ·exact ih
theorem QM{dr:Nat→Option Nat}{S:Nat→Bool}{hp:List (Nat×Blk)}{x:Nat}{y:Blk}:∀{m:Nat},blk (DH dr S hp m) x=some y→blk hp x=some y∧∀j,j<m→S j=true→dr j≠some x
 |0,h=>⟨h,fun j hj=>by omega⟩
 |m+1,h=>by
  simp only[DH]at h;split at h
  ·rename_i hS
   rw[vu]at h;split at h
   ·cases h
   ·rename_i hd
    obtain⟨h1,h2⟩:=QM h;refine⟨h1,fun j hj hSj=>?_⟩;by_cases e:j=m
    ·subst e;exact hd
    ·exact h2 j Ω hSj
  ·rename_i hS
   obtain⟨h1,h2⟩:=QM h;refine⟨h1,fun j hj hSj=>?_⟩;by_cases e:j=m
   ·subst e;exact absurd hSj hS
   ·exact h2 j Ω hSj
theorem V1{dr:Nat→Option Nat}{S:Nat→Bool}{hp:List (Nat×Blk)}{x j m:Nat}(hj:j<m)(hS:S j=true)(hd:dr j=some x):blk (DH dr S hp m) x=none:=by
 cases h:blk (DH dr S hp m) x with
 |none=>rfl
 |some y=>exact absurd hd ((QM h).2 j hj hS)
theorem GD{dr:Nat→Option Nat}{S T:Nat→Bool}{hp:List (Nat×Blk)}:∀{m:Nat},(∀j,j<m→dr j≠none→S j=T j)→DH dr S hp m=DH dr T hp m
 |0,_=>rfl
 |m+1,h=>by
  have ih:=GD (dr:=dr) (S:=S) (T:=T) (hp:=hp) (m:=m) fun j hj=>h j Ω;simp only[DH];cases hu:dr m with
  |none=>simp only[yT,ih,ite_self]
  |some p=>rw[h m Ω (by rw[hu];simp),ih]
theorem qgU(k:Nat)(nb:Nat→Option Blk)(up:Nat→Option (Nat×Blk))(dr:Nat→Option Nat)(hp:List (Nat×Blk))(j:Nat) :
  TG (k+1) (fun i=>nb (i+1)) (fun i=>up (i+1)) (fun i=>dr (i+1)) (TG k nb up dr hp 1) j=TG k nb up dr hp (j+1):=by
 induction j with
 |zero=>rfl
 |succ j ih=>
  have e:k+1+j=k+(j+1):=by omega
  have r1:TG (k+1) (fun i=>nb (i+1)) (fun i=>up (i+1)) (fun i=>dr (i+1)) (TG k nb up dr hp 1) (j+1)=match up (j+1)with
   |some (t,b)=>setBlk (TG (k+1) (fun i=>nb (i+1)) (fun i=>up (i+1)) (fun i=>dr (i+1)) (TG k nb up dr hp 1) j) t b
   |none=>zX (nb (j+1)) (k+1+j) (yT (dr (j+1)) (TG (k+1) (fun i=>nb (i+1)) (fun i=>up (i+1)) (fun i=>dr (i+1)) (TG k nb up dr hp 1) j)):=rfl
  rw[r1,ih,e];rfl
inductive Jy(P:Program)(ds:List (Option Tmp))(F:Nat→SV)(hp:List (Nat×Blk))(id:Nat)(o:Oper):SV→Option Blk→Option (Nat×Blk)→Option Nat→Prop
 |skip (hg:kx ds o.guard F=some false):Jy P ds F hp id o undefSV none none none
 |run (sv:SV) (nb:Option Blk) (hg:kx ds o.guard F=some true) (hc:kf o.op=true) (hr:wJ P F hp id o sv nb):Jy P ds F hp id o sv nb none none
 |upd (obl:Prop) (t:Nat) (b:Blk) (hg:kx ds o.guard F=some true) (h:stepR P F hp o.op=.upd obl t b) (ho:obl):Jy P ds F hp id o undefSV none (some (t,b)) none
 |newA (obl:Prop) (b:Blk) (mk:Nat→SV) (hg:kx ds o.guard F=some true) (ha:(zj o.op).isSome=true) (h:stepR P F hp o.op=.new obl b mk) (ho:obl):Jy P ds F hp id o (mk id) (some b) none none
 |grow (obl:Prop) (old:Nat) (b:Blk) (mk:Nat→SV) (hg:kx ds o.guard F=some true) (ha:(zj o.op).isSome=true) (h:stepR P F hp o.op=.grow obl old b mk) (ho:obl):Jy P ds F hp id o (mk id) (some b) none (some old)
theorem Ys{P:Program}{O:Ctx}{J:Prop}(hJ:¬J){ds:List (Option Tmp)}{K:St→Prop}:∀(ops:List Oper)(i:Nat)(st:St),(∀o∈ops,(kf o.op || qC o.op ||(zj o.op).isSome)=true)→zb P O J ds ops i st K→
  ∃(res:Nat→SV)(nb:Nat→Option Blk)(up:Nat→Option (Nat×Blk))(dr:Nat→Option Nat)(st':St),
   (∀j o,ops[j]? = some o→Jy P ds (FS (nth (dsts ops)) res (fun _=>true) (look st.fr) j) (TG (st.nid+i) nb up dr st.hp j) (st.nid+i+j) o (res j) (nb j) (up j) (dr j))∧
   look st'.fr=FS (nth (dsts ops)) res (fun _=>true) (look st.fr) ops.length∧st'.hp=TG (st.nid+i) nb up dr st.hp ops.length∧st'.nid=st.nid∧K st'
 |[],i,st,_,h=>⟨fun _=>.top,fun _=>none,fun _=>none,fun _=>none,st,fun j o ho=>by simp at ho,rfl,rfl,rfl,h⟩
 |o :: ops,i,st,hall,h=>by
  have go:∀(st2:St)(sv:SV)(b:Option Blk)(u:Option (Nat×Blk))(d:Option Nat),Jy P ds (look st.fr) st.hp (st.nid+i) o sv b u d→st2.nid=st.nid→st2.hp=(match u with|some (t,x)=>setBlk st.hp t x|none=>zX b (st.nid+i) (yT d st.hp))→look st2.fr=ZF (look st.fr) o.dst sv→zb P O J ds ops (i+1) st2 K→
    ∃(res:Nat→SV)(nb:Nat→Option Blk)(up:Nat→Option (Nat×Blk))(dr:Nat→Option Nat)(st':St),
     (∀j o',(o :: ops)[j]? = some o'→Jy P ds (FS (nth (dsts (o :: ops))) res (fun _=>true) (look st.fr) j) (TG (st.nid+i) nb up dr st.hp j) (st.nid+i+j) o' (res j) (nb j) (up j) (dr j))∧
     look st'.fr=FS (nth (dsts (o :: ops))) res (fun _=>true) (look st.fr) (o :: ops).length∧st'.hp=TG (st.nid+i) nb up dr st.hp (o :: ops).length∧st'.nid=st.nid∧K st':=by
   intro st2 sv b u d hr h1 h2 h3 h4;obtain⟨res,nb,up,dr,st',ha,hf,hh,hn,hk⟩:=Ys hJ ops (i+1) st2 (fun o ho=>hall o (List.mem_cons_of_mem _ ho)) h4
   let res':Nat→SV:=fun j=>match j with|0=>sv|j+1=>res j
   let nb':Nat→Option Blk:=fun j=>match j with|0=>b|j+1=>nb j
   let up':Nat→Option (Nat×Blk):=fun j=>match j with|0=>u|j+1=>up j
   let dr':Nat→Option Nat:=fun j=>match j with|0=>d|j+1=>dr j
   have eF:∀j,FS (nth (dsts ops)) res (fun _=>true) (look st2.fr) j=FS (nth (dsts (o :: ops))) res' (fun _=>true) (look st.fr) (j+1):=fun j=>by
    rw[←Gc,h3]
    congr 1
    funext t;simp[ZF,nth,dsts,res']
   have e1:TG (st.nid+i) nb' up' dr' st.hp 1=st2.hp:=by rw[h2];rfl
   have eH:∀j,TG (st2.nid+(i+1)) nb up dr st2.hp j=TG (st.nid+i) nb' up' dr' st.hp (j+1):=fun j=>by
    rw[←qgU,e1,h1];rfl
   refine⟨res',nb',up',dr',st',fun j o' ho=>?_,?_,?_,hn.trans h1,hk⟩
   ·cases j with
    |zero=>simp at ho;subst ho;exact hr
    |succ j=>
     have:=ha j o' Ω5;rw[eF,eH,h1]at this;have e:st.nid+(i+1)+j=st.nid+i+(j+1):=by omega
     rw[e]at this;exact this
   ·rw[hf,eF];rfl
   ·rw[hh,eH];rfl
  obtain⟨st1,hn,hh,hl,hcase⟩:=va h;have hst1:st1=⟨st1.fr,st1.hp,st1.nid⟩:=rfl;have ho:=hall o xd5;rcases hcase with⟨hg,hrun⟩|⟨hg,hskip⟩
  ·generalize hres:stepR P (look st1.fr) st1.hp o.op=res at hrun
   rw[hl,hh]at hres;by_cases hu:qC o.op=true
   ·rcases Kd (P:=P) (F:=look st.fr) (hp:=st.hp) hu with⟨obl,j,b,e⟩|e
    ·rw[hres]at e
     subst e;exact go _ undefSV none (some (j,b)) none (.upd obl j b hg hres hrun.1) Ωs (by rw[zm,hh]) (by rw[gQ,hl]) hrun.2
    ·rw[hres]at e
     subst e;exact hrun.elim
   ·by_cases hap:(zj o.op).isSome=true
    ·obtain⟨⟨s,x⟩,hsx⟩:=Option.isSome_iff_exists.1 hap
     rcases GC (P:=P) (F:=look st.fr) (hp:=st.hp) hsx with⟨obl,b,mk,e⟩|⟨obl,old,b,mk,e⟩|e
     ·rw[hres]at e
      subst e;exact go _ (mk (st.nid+i)) (some b) none none (.newA obl b mk hg hap hres hrun.1) Ωs Ω0 ΩU hrun.2
     ·rw[hres]at e
      subst e;exact go _ (mk (st.nid+i)) (some b) none (some old) (.grow obl old b mk hg hap hres hrun.1.1) Ωs Ω0 ΩU hrun.2
     ·rw[hres]at e
      subst e;exact hrun.elim
    have hc:kf o.op=true:=by
     rw[xe8,xe8]at ho;exact(ho.resolve_right hap).resolve_right hu
    have hq:=jI (P:=P) (F:=look st.fr) (hp:=st.hp) hc;rw[hres]at hq;cases res with
    |bad=>exact hrun.elim
    |pure obl sv=>exact go _ sv none none none (.run _ _ hg hc (.pure obl sv hres hrun.1)) ΩP ΩH ΩB hrun.2
    |ex obl=>
     obtain⟨sv,ho,hk⟩:=hrun;exact go _ sv none none none (.run _ _ hg hc (.ex obl sv hres ho)) ΩP ΩH ΩB hk
    |new obl b mk=>exact go _ (mk (st.nid+i)) (some b) none none (.run _ _ hg hc (.new obl b mk hres hrun.1)) Ωs Ω0 ΩU hrun.2
    |upd obl j b=>cases hq
    |updv obl j b sv=>cases hq
    |grow obl j b sv=>cases hq
    |call f args=>
     rcases hrun with⟨res,hcc,hk⟩|⟨pats,b,res,hcc,hs,hk⟩|⟨hj,_⟩
     ·rw[hh]at hcc
      exact go _ res none none none (.run _ _ hg hc (.call f args res hres hcc)) ΩP ΩH ΩB hk
     ·rw[hh]at hs
      exact go _ (setId (st.nid+i) res) (some b) none none (.run _ _ hg hc (.callN f args pats b res hres hcc hs)) Ωs Ω0 ΩU hk
     ·exact absurd hj hJ
    |yield y args=>exact absurd hrun.1 hJ
    |raw=>exact absurd hrun.1 hJ
  ·exact go _ undefSV none none none (.skip hg) ΩP ΩH ΩB hskip
theorem QO{P:Program}{ds:List (Option Tmp)}{F:Nat→SV}{hp:List (Nat×Blk)}{id:Nat}{o:Oper}{sv:SV}{nb:Option Blk}{up:Option (Nat×Blk)}{dr:Option Nat}(h:Jy P ds F hp id o sv nb up dr) :
  (up=none∨(nb=none∧qC o.op=true∧dr=none))∧(∀t b,up=some (t,b)→∃y,blk hp t=some y)∧∀t,dr=some t→∃s x n k,zj o.op=some (s,x)∧F s=.vec t n k∧∃y,blk hp t=some y:=by
 cases h with
 |skip hg=>exact⟨.inl rfl,fun t b h=>(by cases h),fun t h=>(by cases h)⟩
 |run hg hc hr=>exact⟨.inl rfl,fun t b h=>(by cases h),fun t h=>(by cases h)⟩
 |upd obl t b hg h ho=>exact⟨.inr ⟨rfl,jB h,rfl⟩,fun t' b' e=>(by cases e;exact yN h),fun t h=>(by cases h)⟩
 |newA obl b mk hg ha h ho=>exact⟨.inl rfl,fun t b h=>(by cases h),fun t h=>(by cases h)⟩
 |grow obl old b mk hg ha h ho=>
  obtain⟨⟨s,x⟩,hsx⟩:=Option.isSome_iff_exists.1 ha;refine⟨.inl rfl,fun t b h=>(by cases h),fun t e=>?_⟩;cases e;obtain⟨⟨n,k,e⟩,y⟩:=GA hsx h;exact⟨s,x,n,k,hsx,e,y⟩
theorem QP{k:Nat}{nb:Nat→Option Blk}{up:Nat→Option (Nat×Blk)}{dr:Nat→Option Nat}{hp:List (Nat×Blk)}(hk:∀id x,blk hp id=some x→id<k):∀{i:Nat}{x:Nat}{y:Blk},blk (TG k nb up dr hp i) x=some y→x<k+i
 |0,x,y,h=>hk x y h
 |i+1,x,y,h=>by
  simp only[TG]at h;split at h
  ·rw[qp]at h
   split at h
   ·rename_i e;subst e
    cases hb:blk (TG k nb up dr hp i) x with
    |none=>rw[hb]at h;cases h
    |some z=>have:=QP hk hb;omega
   ·have:=QP hk h;omega
  ·cases hn:nb i with
   |none=>
    rw[hn]at h;simp only[zX,vu]at h;split at h
    ·cases h
    ·have:=QP hk (i:=i) h;omega
   |some b=>
    rw[hn]at h;simp only[zX,blk]at h;split at h
    ·omega
    ·rw[vu]at h
     split at h
     ·cases h
     ·have:=QP hk (i:=i) h;omega
theorem qgV{P:Program}{ds:List (Option Tmp)}{F:Nat→Nat→SV}{ops:List Oper}{res:Nat→SV}{nb:Nat→Option Blk}{up:Nat→Option (Nat×Blk)}{dr:Nat→Option Nat}{hp:List (Nat×Blk)}{k:Nat}(hk:∀id x,blk hp id=some x→id<k)
  (h:∀j o,ops[j]? = some o→Jy P ds (F j) (TG k nb up dr hp j) (k+j) o (res j) (nb j) (up j) (dr j)):∀{i:Nat},i≤ops.length→∀{x:Nat}{y:Blk},blk (TG k nb up dr hp i) x=some y→blk (UH up (fun _=>true) (NH k nb hp ops.length) i) x=some y∧∀j,j<i→dr j≠some x
 |0,hi,x,y,hx=>⟨VN hk hx,fun j hj=>by omega⟩
 |i+1,hi,x,y,hx=>by
  have keys:∀{i:Nat}{x:Nat}{y:Blk},blk (TG k nb up dr hp i) x=some y→x<k+i:=fun{i x y}=>QP hk;have ih:=fun{x:Nat}{y:Blk}=>qgV hk h (i:=i) Ω (x:=x) (y:=y);obtain⟨o,ho⟩:∃o,ops[i]? = some o:=⟨ops[i],by simp[show i<ops.length by omega]⟩;obtain⟨h1,h2,h3⟩:=QO (h i o ho);simp only[TG]at hx;simp only[UH,if_true];cases hu:up i with
  |some p=>
   obtain⟨t,b⟩:=p;rw[hu]at hx;have hdn:dr i=none:=by
    rcases h1 with e|⟨_,_,e⟩
    ·rw[hu]at e;cases e
    ·exact e
   have hlast:∀z,blk (TG k nb up dr hp i) x=some z→∀j,j<i+1→dr j≠some x:=fun z hz j hj=>by
    by_cases e:j=i
    ·subst e;rw[hdn];simp
    ·exact(ih hz).2 j Ω
   simp only[qp]at hx ⊢;split at hx
   ·rename_i e
    obtain⟨z,hz⟩:=h2 t b hu;refine⟨?_,hlast z (by rw[e];exact hz)⟩;rw[if_pos e,(ih hz).1];rw[hz]at hx;exact hx
   ·rename_i e
    refine⟨?_,hlast y hx⟩;rw[if_neg e];exact(ih hx).1
  |none=>
   rw[hu]at hx;dsimp only at hx ⊢;have old:∀y,blk (yT (dr i) (TG k nb up dr hp i)) x=some y→blk (UH up (fun _=>true) (NH k nb hp ops.length) i) x=some y∧∀j,j<i+1→dr j≠some x:=fun y hy=>by
    rw[vu]at hy;split at hy
    ·cases hy
    ·rename_i hd
     refine⟨(ih hy).1,fun j hj=>?_⟩;by_cases e:j=i
     ·subst e;exact hd
     ·exact(ih hy).2 j Ω
   cases hn:nb i with
   |none=>rw[hn]at hx;exact old y hx
   |some b=>
    rw[hn]at hx;simp only[zX,blk]at hx;split at hx
    ·rename_i e
     subst e;refine⟨?_,fun j hj hd=>?_⟩
     ·rw[gy fun j hj _ t c hjc=>?_,wM hn Ω,hx]
      obtain⟨oj,hoj⟩:∃oj,ops[j]? = some oj:=⟨ops[j],by simp[show j<ops.length by omega]⟩;obtain⟨z,hz⟩:=(QO (h j oj hoj)).2.1 t c hjc;have:=keys hz;omega
     ·obtain⟨oj,hoj⟩:∃oj,ops[j]? = some oj:=⟨ops[j],by simp[show j<ops.length by omega]⟩
      obtain⟨_,_,_,_,_,_,z,hz⟩:=(QO (h j oj hoj)).2.2 _ hd;have:=keys hz;omega
    ·exact old y hx
section
variable{P:Program}{O:Ctx}{outs:gJ}{base:World}{okc:Nat→Prop}{ns:Nat}
def qmm(O:Ctx)(outs:gJ)(base:World)(okc:Nat→Prop)(ns nid m:Nat)(H:List (Nat×Blk))(up:Nat→Option (Nat×Blk))(dr:Nat→Option Nat)(dst:Nat→Option Tmp)(res:Nat→SV)(F:Nat→SV)(S:Nat→Bool)(a:Act)(w:World):Prop:=
 (∀j,j<m→S j=true→∀t b,up j=some (t,b)→NS nid m S t)∧(∀j,j<m→S j=true→∀t,dr j=some t→NS nid m S t)∧
 ∃r,Sat base okc r (NS nid m S) (DH dr S (UH up S H m) m) w∧(∀t,Rep r (NS nid m S) (Gd base okc r (NS nid m S) (DH dr S (UH up S H m) m) w) w (FS dst res S F m t) (a.tmps.getD t undef))∧a.tmps.size=ns∧Ext O base okc r (NS nid m S) (DH dr S (UH up S H m) m) outs a w
theorem qgW{nid m i:Nat}{H:List (Nat×Blk)}{up:Nat→Option (Nat×Blk)}{dr:Nat→Option Nat}{dst:Nat→Option Tmp}{res F:Nat→SV}{S S':Nat→Bool}{a:Act}{w w':World}{r r':Nat→Option Nat}(hS:∀j,S' j=(S j || decide (j=i)))(hi:i<m)
  (hlater:∀t,dst i=some t→∀j,j<m→i<j→dst j=some t→S j=false)
  (hF:∀t,Rep r (NS nid m S) (Gd base okc r (NS nid m S) (DH dr S (UH up S H m) m) w) w (FS dst res S F m t) (a.tmps.getD t undef)) (hsize:a.tmps.size=ns) (hdef:Ext O base okc r (NS nid m S) (DH dr S (UH up S H m) m) outs a w) (hlo:O.lo≤nid) (hd:∀t,dst i=some t→t<ns)
  (hu:∀j,j<m→S' j=true→∀t b,up j=some (t,b)→NS nid m S' t)
  (hdr:∀j,j<m→S' j=true→∀t,dr j=some t→NS nid m S' t)
  (hs:Step base okc r (NS nid m S) (DH dr S (UH up S H m) m) w r' (NS nid m S') (DH dr S' (UH up S' H m) m) w') {v:Value} (hv:Rep r' (NS nid m S') (Gd base okc r' (NS nid m S') (DH dr S' (UH up S' H m) m) w') w' (res i) v):qmm O outs base okc ns nid m H up dr dst res F S' (a.put (dst i) v) w':=by
 refine⟨hu,hdr,r',hs.sat,fun t=>?_,by cases dst i<;>simp[Act.put,hsize],hdef.step hs (fun i hi=>.inl (xa9 hi hlo)) _ _⟩;rw[ZG hS hi (hlater t),Qz];by_cases e:dst i=some t
 ·rw[if_pos e,if_pos ⟨e,by rw[hsize];exact hd t e⟩];exact hv
 ·rw[if_neg e,if_neg (fun h=>e h.1)];exact hs.rep (hF t)
theorem qgX{far:List (Nat×Nat)}{ro:Option Nat}{ops:Array Oper}{id:Nat}{Q:Exit→Act→World→Prop}{st:St}{K:St→Prop}{a:Act}{w:World}(hm:P.follows .mixedOrders=true)(hok:Kz far ops.toList=true)(hd:ops.toList.all (kv ns)=true)
  (h:Inv O base okc ns st.nid outs st a w) (hk:zb P O False (dsts ops.toList) ops.toList 0 st fun st'=>QL far st' (K st'))
  (hK:∀st' a' w',K st'→Inv O base okc ns (st'.nid+ops.toList.length) outs st' a' w'→Q .normal a' w'):(Code.region id ops true).wpIn (FR ro) 0 P Q a w:=by
 obtain⟨r0,h0⟩:=h;generalize hl:ops.toList=l at hok hd hk hK;have hn:ops.size=l.length:=by rw[←hl];simp
 have hget:∀j:Nat,ops[j]? = l[j]?:=fun j=>by rw[←hl];simp
 simp only[Kz,xe6]at hok;obtain⟨⟨⟨⟨hedge,hapart⟩,hpair⟩,hdrops⟩,hall⟩:=hok;have hedge:=kI hedge;have hall:∀o∈l,(kf o.op || qC o.op ||(zj o.op).isSome)=true:=List.all_eq_true.1 hall;obtain⟨res,nb,up,dr,st1,hops,hF1,hh1,hn1,hk1⟩:=Ys (fun h=>h) l 0 st hall hk;rw[xb1]at hops hh1;obtain⟨hk1,hfar⟩:=Gy hk1;have hdl:(dsts l).length=l.length:=by
  have:∀l:List Oper,(dsts l).length=l.length:=fun l=>by induction l<;>simp[dsts, *]
  exact this l
 have hkeys0:=h0.keys;have hsubT:=fun{i:Nat}(hi:i≤l.length){x:Nat}{y:Blk}=>qgV hkeys0 hops (i:=i) hi (x:=x) (y:=y);generalize hH:NH st.nid nb st.hp l.length=H at hsubT;have hHk:∀x y,blk H x=some y→x<st.nid∨∃j,j<l.length∧nb j=some y∧x=st.nid+j:=fun x y hxy=>by
  rw[←hH]at hxy;rcases yp hxy with h|h
  ·exact .inl (hkeys0 _ _ h)
  ·exact .inr h
 have hclosed:∀(S:Nat→Bool)(i:Nat),kg l S→(∃o,l[i]? = some o∧∀e∈o.after,Region.binds .any e=true→S e.on=true)→kg l (fun j=>S j || decide (j=i)):=by
  rintro S i hc ⟨o,ho,he⟩ j oj hoj hS e hm' hb;simp only[xe8,decide_eq_true_eq]at hS ⊢;rcases hS with hS|hS
  ·exact .inl (hc j oj hoj hS e hm' hb)
  ·subst hS
   rw[ho]at hoj;cases hoj;exact .inl (he e hm' hb)
 have hready:∀(listed:Array Bool)(i:Nat),listed.size=l.length→i∈Region.ready .any ops listed→i<l.length∧listed.getD i false=false∧∃o,l[i]? = some o∧∀e∈o.after,Region.binds .any e=true→listed.getD e.on false=true:=by
  intro listed i hsz hi;obtain⟨h1,o,h2,h3⟩:=mem_ready.1 hi;rw[hget]at h2;have hlt:i<l.length:=(List.getElem?_eq_some_iff.1 h2).1;refine⟨hlt,?_,o,h2,h3⟩;have:i<listed.size:=by omega
  simpa[this]using h1
 have hleast:∀(listed:Array Bool),listed.size=l.length→∀i,i<l.length→listed.getD i false=false→∃j,j≤i∧j∈Region.ready .any ops listed:=by
  intro listed hsz i
  induction i using Nat.strongRecOn with
  |_ i ih=>
   intro hi hf;obtain⟨o,ho⟩:∃o,l[i]? = some o:=⟨l[i],by simp[hi]⟩;by_cases hall:∀e∈o.after,Region.binds .any e=true→listed.getD e.on false=true
   ·refine⟨i,xa5 _,mem_ready.2 ⟨?_,o,by rw[hget];exact ho,hall⟩⟩
    have:i<listed.size:=by omega
    simpa[this]using hf
   ·have:∃e,e∈o.after∧Region.binds .any e=true∧listed.getD e.on false=false:=by
     refine xf9 fun hno=>hall fun e he hb=>?_;cases hv:listed.getD e.on false with
     |true=>rfl
     |false=>exact(hno ⟨e,he,hb,hv⟩).elim
    obtain⟨e,he,hb,hv⟩:=this;have hlt:=hedge i o ho e he hb;rw[xb0]at hlt;obtain⟨j,hj,hr⟩:=ih e.on hlt Ω hv;exact⟨j,Ω,hr⟩
 have hdst:∀i o,l[i]? = some o→nth (dsts l) i=o.dst:=fun i o ho=>by rw[zc,ho];rfl
 have hdin:∀i t,nth (dsts l) i=some t→t<ns:=fun i t ht=>by
  rw[zc]at ht;cases ho:l[i]? with
  |none=>simp[ho]at ht
  |some o=>
   simp only[ho,Option.bind_some]at ht;have:=List.all_eq_true.1 hd o (List.mem_of_getElem? ho);simpa[kv,ht]using this
 have hupd:∀j,j<l.length→up j≠none→∃oj,l[j]? = some oj∧qC oj.op=true:=fun j hj hu=>by
  obtain⟨oj,hoj⟩:∃oj,l[j]? = some oj:=⟨l[j],by simp[hj]⟩;exact⟨oj,hoj,((QO (hops j oj hoj)).1.resolve_left hu).2.1⟩
 have walk:∀(fuel:Nat)(listed:Array Bool)(a:Act)(w:World),listed.size=l.length→kg l (fun i=>listed.getD i false)→cnt (fun i=>listed.getD i false) l.length=fuel→
   qmm O outs base okc ns st.nid l.length H up dr (nth (dsts l)) res (look st.fr) (fun i=>listed.getD i false) a w→wpAnyIn (FR ro) 0 P .any ops Q fuel listed a w:=by
  intro fuel
  induction fuel with
  |zero=>
   intro listed a w hsz hcl hcnt hmid;have hall:=vm hcnt;obtain⟨_,_,r,hsat,hrep,hsize,hdef⟩:=hmid;refine⟨?_,hK st1 a w hk1 ?_⟩
   ·cases hr:Region.ready .any ops listed with
    |nil=>rfl
    |cons x xs=>
     have:=hready listed x hsz Ω2;rw[hall x this.1]at this;exact absurd this.2.1 Ωh
   ·have e1:NS st.nid l.length (fun i=>listed.getD i false)=(· < st.nid+l.length):=by
     funext x;simp only[NS,eq_iff_iff];constructor
     ·rintro(h|⟨j,h1,_,h3⟩)<;>omega
     ·intro h
      by_cases hx:x<st.nid
      ·exact .inl hx
      ·exact .inr ⟨x - st.nid,Ω,hall _ Ω,Ω⟩
    have e2:UH up (fun i=>listed.getD i false) H l.length=UH up (fun _=>true) H l.length:=vo fun j hj _=>hall j hj;have e3:DH dr (fun i=>listed.getD i false) (UH up (fun _=>true) H l.length) l.length=DH dr (fun _=>true) (UH up (fun _=>true) H l.length) l.length:=GD fun j hj _=>hall j hj;rw[e1,e2,e3]at hsat hrep hdef;have hs2:=hsat.fewer (hp':=st1.hp) fun x y hy _=>by
     rw[hh1]at hy;obtain⟨q1,q2⟩:=hsubT (xa5 _) hy;rw[gz fun j hj _=>q2 j hj];exact q1
    have hdef2:=hdef.step0 hs2 (fun i hi=>xa9 hi (xc1 h0.lo Ω));rw[hn1];refine⟨r,hs2.sat,fun x y hy=>?_,fun t=>?_,hsize,xc1 h0.lo Ω,hdef2.out,hdef2.rfix,hdef2.defers⟩
    ·rw[hh1]at hy
     obtain⟨z,hz⟩:=jZ (hsubT (xa5 _) hy).1;rcases hHk _ _ hz with h|⟨j,hj,_,e⟩<;>omega
    ·have:=hs2.rep (hrep t)
     rw[hF1];have e2:FS (nth (dsts l)) res (fun i=>listed.getD i false) (look st.fr) l.length t=FS (nth (dsts l)) res (fun _=>true) (look st.fr) l.length t:=
      jY (xa5 _) fun j hj _=>by simp only[hj,iff_true];exact hall j hj
     rw[←e2];exact this
  |succ fuel ih=>
   intro listed a w hsz hcl hcnt hmid;obtain⟨x,hx⟩:∃x,x<l.length∧listed.getD x false=false:=by
    refine xf9 fun hno=>?_;have hall:∀i,i<l.length→listed.getD i false=true:=fun i hi=>by
     cases hv:listed.getD i false with
     |true=>rfl
     |false=>exact(hno ⟨i,hi,hv⟩).elim
    have hc:=QA (S:=fun i=>listed.getD i false) hall (fun j hj=>by simp only[xf5];rw[Array.getElem?_eq_none Ω];rfl) (xa5 l.length);rw[hc]at hcnt;omega
   refine⟨fun h=>?_,fun i hi=>?_⟩
   ·obtain⟨y,_,hr⟩:=hleast listed hsz x Ω hx.2
    rw[h]at hr;cases hr
   ·obtain⟨hil,hif,o,ho,hie⟩:=hready listed i hsz hi
    have hcl':=hclosed _ i hcl ⟨o,ho,hie⟩;have hlook:∀t,t∈seen (dsts l) o→FS (nth (dsts l)) res (fun i=>listed.getD i false) (look st.fr) l.length t=FS (nth (dsts l)) res (fun _=>true) (look st.fr) i t:=by
     intro t ht;refine jY Ω fun j hj hdj=>?_;obtain⟨oj,hoj⟩:∃oj,l[j]? = some oj:=⟨l[j],by simp[show j<l.length by omega]⟩;constructor
     ·intro hS
      refine xf9 fun hge=>?_;by_cases e:j=i
      ·subst e
       rw[hif]at hS;cases hS
      ·rcases qV hapart ho hoj Ω with hb|⟨_,hb⟩
       ·have:=qt hcl hb hS
        rw[hif]at this;cases this
       ·exact hb t hdj ht
     ·intro hlt
      rcases qV hapart hoj ho hlt with hb|⟨hb,_⟩
      ·have:=qt hcl' hb Ωh
       simp only[xe8,decide_eq_true_eq]at this;exact this.resolve_right Ω
      ·exact(hb t hdj ht).elim
    have hchg:(qC o.op=true∨vt o.op=true)→∀j,j<l.length→up j≠none→(listed.getD j false=true↔j<i):=by
     intro hro j hj hu;obtain⟨oj,hoj,huj⟩:=hupd j hj hu;constructor
     ·intro hS
      refine xf9 fun hge=>?_;by_cases e:j=i
      ·subst e;rw[hif]at hS;cases hS
      ·have hord:(zp [] l).getD j 0 |>.testBit i:=by
        rcases hro with hro|hro
        ·rcases zg hpair ho hoj Ω with hb|⟨hb1,hb2,_⟩|⟨_,_,_,_,_,e1,_⟩
         ·exact hb
         ·exact(hb1 ⟨hro,huj⟩).elim
         ·rw[e1]at hro;cases hro
        ·rcases vZ hdrops ho hoj Ω with hb|hb|⟨hb,_⟩
         ·exact hb
         ·exact(hb.2 ⟨hro,huj⟩).elim
         ·rw[qeS hb]at huj;cases huj
       have:=qt hcl hord hS;rw[hif]at this;cases this
     ·intro hlt
      have hord:(zp [] l).getD i 0 |>.testBit j:=by
       rcases hro with hro|hro
       ·rcases zg hpair hoj ho hlt with hb|⟨hb1,_,hb3⟩|⟨_,_,_,_,_,e1,_⟩
        ·exact hb
        ·exact(hb1 ⟨huj,hro⟩).elim
        ·rw[e1]at huj;cases huj
       ·rcases vZ hdrops hoj ho hlt with hb|⟨hb,_⟩|⟨_,hb,_⟩
        ·exact hb
        ·rw[hro]at hb;cases hb
        ·rw[huj]at hb;cases hb
      have:=qt hcl' hord Ωh;simp only[xe8,decide_eq_true_eq]at this;exact this.resolve_right Ω
    have hchg1:kU o.op=true→∀X,(∀ty a,o.op=.load ty (.tmp a)→qH (FS (nth (dsts l)) res (fun _=>true) (look st.fr) i a)=some X)→∀j,j<l.length→∀b,up j=some (X,b)→(listed.getD j false=true↔j<i):=by
     intro hro X hX j hj b hu;obtain⟨oj,hoj,huj⟩:=hupd j hj (by rw[hu];simp);constructor
     ·intro hS
      refine xf9 fun hge=>?_;by_cases e:j=i
      ·subst e;rw[hif]at hS;cases hS
      ·rcases zg hpair ho hoj Ω with hb|⟨hb1,hb2,_⟩|⟨t,a,t',c,y,e1,e2,hmem,hn1,hn2⟩
       ·have:=qt hcl hb hS
        rw[hif]at this;cases this
       ·exact hb2 ⟨hro,huj⟩
       ·have h1:=hX t a e1
        have h2:qH (FS (nth (dsts l)) res (fun _=>true) (look st.fr) j c)=some X:=by
         have hat:=hops j oj hoj;rw[hu]at hat;generalize res j=svj at hat;generalize nb j=nbj at hat;generalize dr j=drj at hat;cases hat with
         |upd obl t b hg hst hobl=>
          rw[e2]at hst;exact k9 hst
        have h3:=hfar a c hmem;rw[hF1,kj (i:=i) Ω (fun k hk hik=>qz hn1 Ω hik),kj (i:=j) (t:=c) Ω (fun k hk hik=>qz hn2 Ω hik)]at h3;unfold wa at h3;rw[VZ h1,VZ h2]at h3;exact h3 rfl
     ·intro hlt
      rcases zg hpair hoj ho hlt with hb|⟨hb1,_,hb3⟩|⟨_,_,_,_,_,e1,_⟩
      ·have:=qt hcl' hb Ωh
       simp only[xe8,decide_eq_true_eq]at this;exact this.resolve_right Ω
      ·exact(hb3 ⟨huj,hro⟩).elim
      ·rw[e1]at huj;cases huj
    have hdrp:∀j,j<l.length→∀X,dr j=some X→∃oj s x n k,l[j]? = some oj∧zj oj.op=some (s,x)∧FS (nth (dsts l)) res (fun _=>true) (look st.fr) j s=.vec X n k:=fun j hj X hd=>by
     obtain⟨oj,hoj⟩:∃oj,l[j]? = some oj:=⟨l[j],by simp[hj]⟩;obtain⟨s,x,n,k,h1,h2,_⟩:=(QO (hops j oj hoj)).2.2 X hd;exact⟨oj,s,x,n,k,hoj,h1,h2⟩
    have hstay:∀X y,blk (TG st.nid nb up dr st.hp i) X=some y→(∀j oj s x n k,i<j→l[j]? = some oj→zj oj.op=some (s,x)→FS (nth (dsts l)) res (fun _=>true) (look st.fr) j s=.vec X n k→qgT far (dsts l) i j o oj→False)→∀j,j<l.length→listed.getD j false=true→dr j≠some X:=by
     intro X y hX hno j hj hS hd;have hji:j≠i:=fun e=>by subst e;rw[hif]at hS;cases hS
     by_cases hlt:j<i
     ·exact(hsubT Ω hX).2 j hlt hd
     ·obtain⟨oj,s,x,n,k,hoj,ha,hv⟩:=hdrp j hj X hd
      rcases vZ hdrops ho hoj Ω with hb|hb
      ·have:=qt hcl hb hS
       rw[hif]at this;cases this
      ·exact hno j oj s x n k Ω hoj ha hv hb
    have hfarS:∀j a c X n k,i<j→j<l.length→qgS far (dsts l) i j a c→gS (FS (nth (dsts l)) res (fun _=>true) (look st.fr) i a)=some X→FS (nth (dsts l)) res (fun _=>true) (look st.fr) j c=.vec X n k→False:=by
     intro j a c X n k hij hj ⟨hmem,hn1,hn2⟩ h1 h2;have h3:=hfar a c hmem;rw[hF1,kj (i:=i) Ω (fun k hk hik=>qz hn1 Ω hik),kj (i:=j) (t:=c) Ω (fun k hk hik=>qz hn2 Ω hik)]at h3;unfold wa at h3;rw[h1,h2]at h3;exact h3 rfl
    have hmemU:qC o.op=true→∀id x,blk (TG st.nid nb up dr st.hp i) id=some x→blk (DH dr (fun i=>listed.getD i false) (UH up (fun i=>listed.getD i false) H l.length) l.length) id=some x:=by
     intro hro id x hx;rw[gz (hstay id x hx fun j oj s y n k hij hoj ha hv hd=>by
      rcases hd with⟨e,_⟩|⟨_,e,_⟩
      ·rw[zw ha]at e;cases e
      ·rw[hro]at e;cases e),W3 (i:=i) Ω (hchg (.inl hro))]
     exact(hsubT Ω hx).1
    have hmemA:∀s x,zj o.op=some (s,x)→∀id y,(gS (FS (nth (dsts l)) res (fun _=>true) (look st.fr) i s)=some id∨gS (FS (nth (dsts l)) res (fun _=>true) (look st.fr) i x)=some id)→blk (TG st.nid nb up dr st.hp i) id=some y→blk (DH dr (fun i=>listed.getD i false) (UH up (fun i=>listed.getD i false) H l.length) l.length) id=some y:=by
     intro s x hsx id y hid hy;rw[gz (hstay id y hy fun j oj s2 y2 n k hij hoj ha hv hd=>by
      have hj:=(List.getElem?_eq_some_iff.1 hoj).1;rcases hd with⟨e,_⟩|⟨_,_,s3,x3,ha3,hd⟩
      ·rw[zw ha]at e;cases e
      ·rw[ha]at ha3;cases ha3
       rcases hd with⟨t,a,e,_⟩|⟨s',x',e,f1,f2⟩|⟨_,e⟩
       ·rw[e]at hsx;cases hsx
       ·rw[hsx]at e;cases e
        rcases hid with hid|hid
        ·exact hfarS j _ _ id n k hij hj f1 hid hv
        ·exact hfarS j _ _ id n k hij hj f2 hid hv
       ·rw[zw hsx]at e;cases e),W3 (i:=i) Ω (hchg (.inr (zw hsx)))]
     exact(hsubT Ω hy).1
    have hmem1:kU o.op=true→∀X x,(∀ty a,o.op=.load ty (.tmp a)→qH (FS (nth (dsts l)) res (fun _=>true) (look st.fr) i a)=some X)→blk (TG st.nid nb up dr st.hp i) X=some x→blk (DH dr (fun i=>listed.getD i false) (UH up (fun i=>listed.getD i false) H l.length) l.length) X=some x:=by
     intro hro X x hX hx;rw[gz (hstay X x hx fun j oj s2 y2 n k hij hoj ha hv hd=>by
      have hj:=(List.getElem?_eq_some_iff.1 hoj).1;rcases hd with⟨e,_⟩|⟨_,_,s3,x3,ha3,hd⟩
      ·rw[zw ha]at e;cases e
      ·rw[ha]at ha3;cases ha3
       rcases hd with⟨t,a,e,f1⟩|⟨s',x',e,f1,f2⟩|⟨e,_⟩
       ·exact hfarS j _ _ X n k hij hj f1 (VZ (hX t a e)) hv
       ·rw[Yr (zw e)]at hro;cases hro
       ·rw[hro]at e;cases e),Gj (i:=i) Ω (hchg1 hro X hX)]
     exact(hsubT Ω hx).1
    have hat:=hops i o ho;obtain⟨hupN,hdrN,r,hsat,hrep,hsize,hdef⟩:=hmid;have hdsti:=hdst i o ho;have hS:∀x,(listed.setIfInBounds i true).getD x false=(listed.getD x false || decide (x=i)):=fun x=>vn Ω;have hNS:∀x,NS st.nid l.length (fun i=>listed.getD i false) x→NS st.nid l.length (fun x=>(listed.setIfInBounds i true).getD x false) x:=fun x hx=>by
     rw[←gh hS hil];exact .inl hx
    have hfresh:¬NS st.nid l.length (fun i=>listed.getD i false) (st.nid+i):=by
     rintro(h|⟨j,h1,h2,h3⟩)
     ·omega
     ·have:j=i:=by omega
      subst this;dsimp only at h2;rw[hif]at h2;cases h2
    have hlater:∀t,nth (dsts l) i=some t→∀j,j<l.length→i<j→nth (dsts l) j=some t→listed.getD j false=false:=by
     intro t hdi j hj hij hdj;obtain⟨oj,hoj⟩:∃oj,l[j]? = some oj:=⟨l[j],by simp[show j<l.length by omega]⟩;cases hv:listed.getD j false with
     |false=>rfl
     |true=>
      rcases qV hapart ho hoj hij with hb|⟨_,hb⟩
      ·have:=qt hcl hb hv
       rw[hif]at this;cases this
      ·refine(hb t hdj ?_).elim
       simp only[seen,xd4];rw[hdsti]at hdi;simp[hdi]
    have next:∀(v:Value)(r':Nat→Option Nat)(w':World),(∀t b,up i=some (t,b)→NS st.nid l.length (fun i=>listed.getD i false) t)→(∀t,dr i=some t→NS st.nid l.length (fun i=>listed.getD i false) t)→
      Step base okc r (NS st.nid l.length fun i=>listed.getD i false) (DH dr (fun i=>listed.getD i false) (UH up (fun i=>listed.getD i false) H l.length) l.length) w r' (NS st.nid l.length fun x=>(listed.setIfInBounds i true).getD x false) (DH dr (fun x=>(listed.setIfInBounds i true).getD x false) (UH up (fun x=>(listed.setIfInBounds i true).getD x false) H l.length) l.length) w'→
      Rep r' (NS st.nid l.length fun x=>(listed.setIfInBounds i true).getD x false) (Gd base okc r' (NS st.nid l.length fun x=>(listed.setIfInBounds i true).getD x false) (DH dr (fun x=>(listed.setIfInBounds i true).getD x false) (UH up (fun x=>(listed.setIfInBounds i true).getD x false) H l.length) l.length) w') w' (res i) v→
      wpAnyIn (FR ro) 0 P .any ops Q fuel (listed.setIfInBounds i true) (a.put o.dst v) w':=by
     intro v r' w' hui hdi hs hv;refine ih _ _ _ Ωae ?_ ?_ ?_
     ·have:(fun x=>(listed.setIfInBounds i true).getD x false)=fun x=>listed.getD x false || decide (x=i):=funext hS
      rw[this];exact hcl'
     ·have:=(gv (S:=fun i=>listed.getD i false) (S':=fun x=>(listed.setIfInBounds i true).getD x false) hS hif (n:=l.length)).2 hil
      omega
     ·rw[←hdsti]
      refine qgW hS hil hlater hrep hsize hdef h0.lo (hdin i) (fun j hj hSj t b hu=>?_) (fun j hj hSj t hu=>?_) hs hv
      ·rw[hS]at hSj
       simp only[xe8,decide_eq_true_eq]at hSj;rcases hSj with hSj|rfl
       ·exact hNS _ (hupN j hj hSj t b hu)
       ·exact hNS _ (hui t b hu)
      ·rw[hS]at hSj
       simp only[xe8,decide_eq_true_eq]at hSj;rcases hSj with hSj|rfl
       ·exact hNS _ (hdrN j hj hSj t hu)
       ·exact hNS _ (hdi t hu)
    have hsame:up i=none→dr i=none→DH dr (fun x=>(listed.setIfInBounds i true).getD x false) (UH up (fun x=>(listed.setIfInBounds i true).getD x false) H l.length) l.length=DH dr (fun i=>listed.getD i false) (UH up (fun i=>listed.getD i false) H l.length) l.length:=fun hu hd=>by
     rw[vT hS hu];exact GD fun j hj hj'=>by
      rw[hS];have:j≠i:=fun e=>hj' (e▸hd);simp[this]
    have hnokey:nb i=none→∀x y (S T:Nat→Bool),blk (DH dr T (UH up S H l.length) l.length) x=some y→NS st.nid l.length (fun x=>(listed.setIfInBounds i true).getD x false) x→NS st.nid l.length (fun i=>listed.getD i false) x:=by
     intro hnb x y S T hy hx;rw[←gh hS hil]at hx;rcases hx with hx|hx
     ·exact hx
     ·subst hx
      obtain⟨z,hz⟩:=jZ (QM hy).1;rcases hHk _ _ hz with h|⟨j,_,hj,e⟩
      ·omega
      ·have:j=i:=by omega
       subst this;rw[hnb]at hj;cases hj
    have hmore:nb i=none→up i=none→dr i=none→Step base okc r (NS st.nid l.length fun i=>listed.getD i false) (DH dr (fun i=>listed.getD i false) (UH up (fun i=>listed.getD i false) H l.length) l.length) w r (NS st.nid l.length fun x=>(listed.setIfInBounds i true).getD x false) (DH dr (fun x=>(listed.setIfInBounds i true).getD x false) (UH up (fun x=>(listed.setIfInBounds i true).getD x false) H l.length) l.length) w:=by
     intro hnb hu hd;rw[hsame hu hd];exact hsat.more hNS fun x y hy hx=>hnokey hnb x y _ _ hy hx
    have hguard:∀b,kx (dsts l) o.guard (FS (nth (dsts l)) res (fun _=>true) (look st.fr) i)=some b→Region.wanted o (yielded ops a.tmps)=b:=by
     intro b hg;cases hog:o.guard with
     |none=>rw[hog]at hg;simp only[kx,Option.some.injEq]at hg;subst hg;simp[Region.wanted,hog]
     |some gw=>
      obtain⟨j,want⟩:=gw;rw[hog]at hg;simp only[kx]at hg;cases ht:nth (dsts l) j with
      |none=>simp[ht]at hg
      |some t=>
       have hy:=vQ ops a j t (by rw[hl];exact ht);have htn:t∈seen (dsts l) o:=by simp[seen,qck,hog,ht]
       have hrt:=hrep t;rw[hlook t htn]at hrt;simp only[ht]at hg;cases hv:FS (nth (dsts l)) res (fun _=>true) (look st.fr) i t with
       |val u=>
        rw[hv]at hg hrt;have hu:a.tmps.getD t undef=u:=by generalize a.tmps.getD t undef=z at hrt;cases hrt;rfl
        simp only[xf5]at hu;cases u with
        |bool c=>
         have:yielded ops a.tmps j=some c:=by
          rw[hy];cases hz:a.tmps[t]? with
          |none=>rw[hz]at hu;simp[undef]at hu
          |some z=>rw[hz]at hu;simp at hu;rw[hu]
         simp only[Option.some.injEq]at hg;subst hg;simp only[Region.wanted,hog,this];cases c<;>cases want<;>rfl
        |tuple vs=>
         have:yielded ops a.tmps j=none:=by
          rw[hy];cases hz:a.tmps[t]? with
          |none=>rfl
          |some z=>rw[hz]at hu;simp at hu;rw[hu]
         simp only[Option.some.injEq]at hg;subst hg;simp[Region.wanted,hog,this]
        |_=>simp at hg
       |_=>rw[hv]at hg;simp at hg
    have henv:∀x,x∈o.op.operands→Rep r (NS st.nid l.length fun i=>listed.getD i false) (Gd base okc r (NS st.nid l.length fun i=>listed.getD i false) (DH dr (fun i=>listed.getD i false) (UH up (fun i=>listed.getD i false) H l.length) l.length) w) w (env (FS (nth (dsts l)) res (fun _=>true) (look st.fr) i) x) (a.eval x):=fun x hx=>Kw x fun t ht=>by
     subst ht;rw[←hlook t (by
      simp only[seen,xd4];exact .inl (List.mem_filterMap.2 ⟨.tmp t,ΩQ,rfl⟩))]
     exact hrep t
    unfold wpOpIn;simp only[hget,ho];generalize hsv:res i=sv at hat;generalize hnbi:nb i=nbi at hat;generalize hupi:up i=upi at hat;generalize hdri:dr i=dri at hat;cases hat with
    |skip hg=>
     rw[if_neg (by rw[hguard _ hg];simp)];exact⟨fun _ _=>trivial,next undef r w (fun t b hu=>by rw[hupi]at hu;cases hu) (fun t hd=>by rw[hdri]at hd;cases hd) (hmore hnbi hupi hdri) (by rw[hsv];exact .val _)⟩
    |upd obl t b hg hst hobl=>
     rw[if_pos (hguard _ hg)];have hu:=jB hst;have hnd:∀c,o.op≠.defer c:=fun c e=>by rw[e]at hu;cases hu
     have hst':stepR P (FS (nth (dsts l)) res (fun _=>true) (look st.fr) i) (DH dr (fun i=>listed.getD i false) (UH up (fun i=>listed.getD i false) H l.length) l.length) o.op=.upd obl t b:=by
      rw[wK hu (hmemU hu) Ωw,hst]
     refine kw hnd (jT hsat (fr:=FS (nth (dsts l)) res (fun _=>true) (look st.fr) i) (id:=st.nid+i) (hp':=DH dr (fun i=>listed.getD i false) (UH up (fun i=>listed.getD i false) H l.length) l.length) henv ?_);rw[hst'];refine⟨hobl,fun w' hs=>?_⟩;have hui:∀t' b',up i=some (t',b')→NS st.nid l.length (fun i=>listed.getD i false) t':=fun t' b' e=>by
      rw[hupi]at e;cases e;exact qlA hst' henv
     refine next undef r w' hui (fun t hd=>by rw[hdri]at hd;cases hd) ?_ (by rw[hsv];exact .val _);have eU:=VO (up:=up) (H:=H) (n:=l.length) hS hil hupi (hchg (.inl hu));have hb2:∀x y,blk (DH dr (fun x=>(listed.setIfInBounds i true).getD x false) (UH up (fun x=>(listed.setIfInBounds i true).getD x false) H l.length) l.length) x=some y→blk (setBlk (DH dr (fun i=>listed.getD i false) (UH up (fun i=>listed.getD i false) H l.length) l.length) t b) x=some y:=fun x y hy=>by
      obtain⟨h1,h2⟩:=QM hy;rw[eU,qp]at h1;have eD:=gz (dr:=dr) (S:=fun i=>listed.getD i false) (hp:=UH up (fun i=>listed.getD i false) H l.length) (x:=x) (m:=l.length) fun j hj hSj=>h2 j hj (by rw[hS];simp[hSj]);rw[qp];by_cases e:x=t
      ·subst e
       rw[if_pos rfl]at h1 ⊢;rw[eD];exact h1
      ·rw[if_neg e]at h1 ⊢
       rw[eD];exact h1
     refine hs.trans ((hs.sat.more hNS fun x y hy hx=>?_).trans ?_)
     ·rw[qp]at hy
      split at hy
      ·rename_i e
       subst e;exact hui _ b hupi
      ·exact hnokey hnbi x y _ _ hy hx
     ·exact Sat.fewer (hs.sat.more hNS fun x y hy hx=>by
       rw[qp]at hy;split at hy
       ·rename_i e
        subst e;exact hui _ b hupi
       ·exact hnokey hnbi x y _ _ hy hx).sat fun x y hy _=>hb2 x y hy
    |run sv nbi hg hca hrun=>
     rw[if_pos (hguard _ hg)];have hnd:∀c,o.op≠.defer c:=fun c e=>by rw[e]at hca;cases hca
     have hui:∀t b,up i=some (t,b)→NS st.nid l.length (fun i=>listed.getD i false) t:=fun t b hu=>by rw[hupi]at hu;cases hu
     have hdi:∀t,dr i=some t→NS st.nid l.length (fun i=>listed.getD i false) t:=fun t hu=>by rw[hdri]at hu;cases hu
     have hstep:stepR P (FS (nth (dsts l)) res (fun _=>true) (look st.fr) i) (TG st.nid nb up dr st.hp i) o.op≠.bad→
       stepR P (FS (nth (dsts l)) res (fun _=>true) (look st.fr) i) (DH dr (fun i=>listed.getD i false) (UH up (fun i=>listed.getD i false) H l.length) l.length) o.op=stepR P (FS (nth (dsts l)) res (fun _=>true) (look st.fr) i) (TG st.nid nb up dr st.hp i) o.op:=fun hne=>by
      cases hr:kU o.op with
      |true=>
       by_cases hld:∃ty x,o.op=.load ty x
       ·obtain⟨ty,x,e⟩:=hld
        rw[e]at hne ⊢;refine jJ (fun id y hid hy=>hmem1 hr id y (fun ty' a e'=>?_) hy) hne;rw[e]at e';cases e';exact hid
       ·exact ge hca (fun id y hy=>hmem1 hr id y (fun ty a e=>(hld ⟨ty,_,e⟩).elim) hy) hne
      |false=>exact wL _ hca hr
     have hnew:∀b,nb i=some b→blk (DH dr (fun i=>listed.getD i false) (UH up (fun i=>listed.getD i false) H l.length) l.length) (st.nid+i)=some b:=fun b hb=>by
      rw[gz (fun j hj hSj hd=>hfresh (hdrN j hj hSj _ hd)),gy (x:=st.nid+i) (fun j hj hSj t c hjc (e:t=st.nid+i)=>hfresh Ω6),←hH];exact wM hb hil
     refine kw hnd (jT hsat (fr:=FS (nth (dsts l)) res (fun _=>true) (look st.fr) i) (id:=st.nid+i) (hp':=DH dr (fun i=>listed.getD i false) (UH up (fun i=>listed.getD i false) H l.length) l.length) henv ?_);cases hrun with
     |pure obl _ hst hobl=>
      rw[hstep Ωw,hst];refine⟨hobl,fun v hv=>next v r w hui hdi (hmore hnbi hupi hdri) ?_⟩;rw[hsv];exact(hmore hnbi hupi hdri).rep hv
     |ex obl _ hst hobl=>
      rw[hstep Ωw,hst];refine⟨sv,hobl,fun v hv=>next v r w hui hdi (hmore hnbi hupi hdri) ?_⟩;rw[hsv];exact(hmore hnbi hupi hdri).rep hv
     |new obl b mk hst hobl=>
      rw[hstep Ωw,hst];refine⟨hobl,hfresh,hnew b hnbi,fun _ _=>rfl,fun v w' r' hs hv=>?_⟩;rw[gh hS hil]at hs hv;refine next v r' w' hui hdi (by rw[hsame hupi hdri];exact hs) ?_;rw[hsv,hsame hupi hdri];exact hv
     |call f args _ hst hc=>
      have hr:kU o.op=true:=by
       obtain⟨x,xs,ts,first,caps,e,_⟩:=zL hst;rw[e];rfl
      have hm':∀id y,blk (TG st.nid nb up dr st.hp i) id=some y→blk (DH dr (fun i=>listed.getD i false) (UH up (fun i=>listed.getD i false) H l.length) l.length) id=some y:=fun id y hy=>hmem1 hr id y (fun ty a e=>by
       obtain⟨x,xs,ts,first,caps,e',_⟩:=zL hst;rw[e']at e;cases e) hy
      rw[hstep Ωw,hst];refine .inl ⟨sv,hc.mono hm',fun v w' hst' hv=>?_⟩;have hgrow:=hst'.sat.more hNS fun x y hy hx=>hnokey hnbi x y _ _ hy hx;refine next v r w' hui hdi ?_ ?_
      ·rw[hsame hupi hdri];exact hst'.trans hgrow
      ·rw[hsame hupi hdri,hsv];exact hgrow.rep hv
     |callN f args pats b res' hst hc hs=>
      have hr:kU o.op=true:=by
       obtain⟨x,xs,ts,first,caps,e,_⟩:=zL hst;rw[e];rfl
      have hm':∀id y,blk (TG st.nid nb up dr st.hp i) id=some y→blk (DH dr (fun i=>listed.getD i false) (UH up (fun i=>listed.getD i false) H l.length) l.length) id=some y:=fun id y hy=>hmem1 hr id y (fun ty a e=>by
       obtain⟨x,xs,ts,first,caps,e',_⟩:=zL hst;rw[e']at e;cases e) hy
      rw[hstep Ωw,hst];refine .inr ⟨pats,b,res',hc,hs.mono hm',hfresh,_,hnew b hnbi,fun _ _=>rfl,fun v w' r' hs hv=>?_⟩;rw[gh hS hil]at hs hv;refine next v r' w' hui hdi (by rw[hsame hupi hdri];exact hs) ?_;rw[hsv,hsame hupi hdri];exact hv
    |newA obl b mk hg ha hst hobl=>
     rw[if_pos (hguard _ hg)];obtain⟨⟨s,x⟩,hsx⟩:=Option.isSome_iff_exists.1 ha;have hia:=zw hsx;have hnd:∀c,o.op≠.defer c:=fun c e=>by rw[e]at hia;cases hia
     have hui:∀t b,up i=some (t,b)→NS st.nid l.length (fun i=>listed.getD i false) t:=fun t b hu=>by rw[hupi]at hu;cases hu
     have hdi:∀t,dr i=some t→NS st.nid l.length (fun i=>listed.getD i false) t:=fun t hu=>by rw[hdri]at hu;cases hu
     have hnew:∀b,nb i=some b→blk (DH dr (fun i=>listed.getD i false) (UH up (fun i=>listed.getD i false) H l.length) l.length) (st.nid+i)=some b:=fun b hb=>by
      rw[gz (fun j hj hSj hd=>hfresh (hdrN j hj hSj _ hd)),gy (x:=st.nid+i) (fun j hj hSj t c hjc (e:t=st.nid+i)=>hfresh Ω6),←hH];exact wM hb hil
     refine kw hnd (jT hsat (fr:=(FS (nth (dsts l)) res (fun _=>true) (look st.fr) i)) (id:=st.nid+i) (hp':=DH dr (fun i=>listed.getD i false) (UH up (fun i=>listed.getD i false) H l.length) l.length) henv ?_);rw[yS hsx (hmemA s x hsx) Ωw,hst];refine⟨hobl,hfresh,hnew b hnbi,fun _ _=>rfl,fun v w' r' hs hv=>?_⟩;rw[gh hS hil]at hs hv;refine next v r' w' hui hdi (by rw[hsame hupi hdri];exact hs) ?_;rw[hsv,hsame hupi hdri];exact hv
    |grow obl old b mk hg ha hst hobl=>
     rw[if_pos (hguard _ hg)];obtain⟨⟨s,x⟩,hsx⟩:=Option.isSome_iff_exists.1 ha;have hia:=zw hsx;have hnd:∀c,o.op≠.defer c:=fun c e=>by rw[e]at hia;cases hia
     have hui:∀t b,up i=some (t,b)→NS st.nid l.length (fun i=>listed.getD i false) t:=fun t b hu=>by rw[hupi]at hu;cases hu
     obtain⟨⟨n',k',evec⟩,y0,hy0⟩:=GA hsx hst;have hold:NS st.nid l.length (fun i=>listed.getD i false) old:=by
      obtain⟨args,ts,eop,eargs⟩:=wb hsx;have h1:=henv (.tmp s) (by
       rw[eop];have:Operand.tmp s∈args.toList:=by rw[eargs];simp
       simp only[Op.operands,Call.operands];simpa using this)
      have h2:env (FS (nth (dsts l)) res (fun _=>true) (look st.fr) i) (.tmp s)=.vec old n' k':=evec;rw[h2]at h1;generalize a.eval (.tmp s)=u at h1;cases h1<;>assumption
     have hdi:∀t,dr i=some t→NS st.nid l.length (fun i=>listed.getD i false) t:=fun t hu=>by
      rw[hdri]at hu;cases hu;exact hold
     have hnew:∀b,nb i=some b→blk (DH dr (fun i=>listed.getD i false) (UH up (fun i=>listed.getD i false) H l.length) l.length) (st.nid+i)=some b:=fun b hb=>by
      rw[gz (fun j hj hSj hd=>hfresh (hdrN j hj hSj _ hd)),gy (x:=st.nid+i) (fun j hj hSj t c hjc (e:t=st.nid+i)=>hfresh Ω6),←hH];exact wM hb hil
     refine kw hnd (jT hsat (fr:=(FS (nth (dsts l)) res (fun _=>true) (look st.fr) i)) (id:=st.nid+i) (hp':=DH dr (fun i=>listed.getD i false) (UH up (fun i=>listed.getD i false) H l.length) l.length) henv ?_);rw[yS hsx (hmemA s x hsx) Ωw,hst];have hne:old≠st.nid+i:=fun e=>hfresh (by rw[←e];exact hold);have eU:UH up (fun x=>(listed.setIfInBounds i true).getD x false) H l.length=UH up (fun i=>listed.getD i false) H l.length:=vT hS hupi;have hgo:∀j,j≠old→blk (DH dr (fun x=>(listed.setIfInBounds i true).getD x false) (UH up (fun x=>(listed.setIfInBounds i true).getD x false) H l.length) l.length) j=blk (DH dr (fun i=>listed.getD i false) (UH up (fun i=>listed.getD i false) H l.length) l.length) j:=fun j hjo=>by
      rw[eU];by_cases hd:∃j',j'<l.length∧listed.getD j' false=true∧dr j'=some j
      ·obtain⟨j',h1,h2,h3⟩:=hd
       rw[V1 (S:=fun x=>(listed.setIfInBounds i true).getD x false) h1 (by rw[hS];simp[h2]) h3,V1 (S:=fun i=>listed.getD i false) h1 h2 h3]
      ·rw[gz fun j' h1 h2 h3=>hd ⟨j',h1,h2,h3⟩,gz fun j' h1 h2 h3=>?_]
       rw[hS]at h2;simp only[xe8,decide_eq_true_eq]at h2;rcases h2 with h2|rfl
       ·exact hd ⟨j',h1,h2,h3⟩
       ·rw[hdri]at h3;cases h3;exact hjo rfl
     refine⟨hobl,hfresh,DH dr (fun x=>(listed.setIfInBounds i true).getD x false) (UH up (fun x=>(listed.setIfInBounds i true).getD x false) H l.length) l.length,(by rw[hgo _ (Ne.symm hne)];exact hnew b hnbi),fun j _ hjo=>hgo j hjo,V1 hil (by rw[hS];simp) hdri,fun v w' r' hs hv=>?_⟩;rw[gh hS hil]at hs hv;refine next v r' w' hui hdi hs ?_;rw[hsv];exact hv
 refine wpIn_region_any hm ?_;rw[hn];have hrep0:∀i,(Array.replicate l.length false).getD i false=false:=fun i=>by simp only[xf5,Array.getElem?_replicate];split<;>rfl
 refine walk l.length (Array.replicate l.length false) a _ Ωh ?_ ?_ ?_
 ·intro j o ho hS;simp only[hrep0]at hS;cases hS
 ·have key:∀n,cnt (fun i=>(Array.replicate l.length false).getD i false) n=n:=by
   intro n
   induction n with
   |zero=>rfl
   |succ n ihn=>
    simp only[cnt,ihn];rw[if_neg (by rw[hrep0];simp)]
  exact key _
 ·have hN:NS st.nid l.length (fun i=>(Array.replicate l.length false).getD i false)=(· < st.nid):=by
   funext x;simp only[NS,eq_iff_iff];constructor
   ·rintro(h|⟨j,_,h2,_⟩)
    ·exact h
    ·rw[hrep0]at h2;cases h2
   ·exact .inl
  have hU:UH up (fun i=>(Array.replicate l.length false).getD i false) H l.length=H:=by
   rw[QC (i:=0) (xb6 _) fun j _ _ _=>hrep0 j];rfl
  have hD:DH dr (fun i=>(Array.replicate l.length false).getD i false) H l.length=H:=by
   have:∀m,DH dr (fun i=>(Array.replicate l.length false).getD i false) H m=H:=fun m=>by
    induction m with
    |zero=>rfl
    |succ m ih=>simp only[DH];rw[if_neg (by rw[hrep0];simp)];exact ih
   exact this _
  have hdrew:Below w.heap.size w { w with drawn:=w.drawn+1 }:=⟨rfl,rfl,rfl,xa5 _,fun _ _=>rfl⟩;have hst:=h0.sat.grow hdrew;unfold qmm;rw[hN,hU,hD];have hs2:=hst.sat.fewer (hp':=H) fun x y hy hx=>by
   rw[←hH]at hy;rcases yp hy with h|⟨j,_,_,e⟩
   ·exact h
   ·omega
  refine⟨fun j _ hS=>absurd hS (by dsimp only;rw[hrep0];simp),fun j _ hS=>absurd hS (by dsimp only;rw[hrep0];simp),r0,hs2.sat,fun t=>?_,h0.size,((Ext.mk h0.out h0.rfix h0.defers).step0 hst (fun i hi=>xa9 hi h0.lo)).step0 hs2 (fun i hi=>xa9 hi h0.lo)⟩;have e:FS (nth (dsts l)) res (fun i=>(Array.replicate l.length false).getD i false) (look st.fr) l.length t=look st.fr t:=by
   have:=jY (dst:=nth (dsts l)) (res:=res) (S:=fun i=>(Array.replicate l.length false).getD i false) (F:=look st.fr) (i:=0) (t:=t) (xb6 l.length) (fun j hj _=>by rw[hrep0];simp);exact this
  rw[e];exact hs2.rep (hst.rep (h0.fr t))
theorem qbl(hm:P.follows .mixedOrders=true){st:St}{K:Ex→St→Prop}{id:Nat}{ops:List Oper}(far:List (Nat×Nat))(hok:Kz far ops=true){g:Tag K}
  (hk:zb P O False (dsts ops) ops 0 st fun st'=>QL far st' (K .normal ⟨st'.fr,st'.hp,st'.nid+ops.length⟩)):j4 P O id ops true st K g:=by
 intro base okc ns outs a w ro Q hro hc hi hK;simp only[qE,xe6]at hc;obtain⟨hd,-⟩:=hc;refine qgX (far:=far) hm (by simpa using hok) (by simpa using hd) hi (by simpa using hk) fun st' a' w' hk' hi'=>?_;refine hK .normal _ a' w' hk' ?_;obtain⟨r,h⟩:=hi';exact⟨r,by simpa using h.nid (st'.nid+ops.length)⟩
theorem farVS_nil(st:St)(X:Prop):QL [] st X=X:=rfl
theorem farVS_cons(a b:Nat)(l:List (Nat×Nat))(fr:List (Nat×SV))(hp:List (Nat×Blk))(nid:Nat)(X:Prop):QL ((a,b) :: l) ⟨fr,hp,nid⟩ X=(wa (look fr a) (look fr b)∧QL l ⟨fr,hp,nid⟩ X):=rfl
end
end Go.Sx
end
section
namespace Go.Sx
open Go.RowKit
section
variable{P:Program}{O:Ctx}{base:World}{okc:Nat→Prop}{ns:Nat}{outs:gJ}
theorem InvR.pushF(far:Nat→List (Nat×Nat)){r:Nat→Option Nat}{k:Nat}{st:St}{a:Act}{w:World}(h:InvR O base okc ns k r outs st a w)(rcd:Option Loop)(hrc:∀L,rcd=some L→L.tmps=a.tmps)(rnd:Bool){fr:List (Nat×SV)}{a2:Act}{n2:Nat}{nid:Nat}
  (hfr:∀i,Rep r (· < k) (Gd base okc r (· < k) st.hp w) w (look fr i) (a2.tmps.getD i undef)) (hs:a2.tmps.size=n2) (hd:a2.defers=[]) :
  InvR ⟨⟨st.fr,rcd,ns,k⟩ :: O.fs,k,rnd,far⟩ base okc n2 k r ⟨a :: outs.as,r⟩ ⟨fr,st.hp,nid⟩ a2 w:=by
 refine⟨h.sat,h.keys,hfr,hs,xa5 _,⟨h.fr,xa5 _,h.size,hrc,h.out.mono h.lo fun n hn sv v hv=>hv⟩,fun _ _=>rfl,?_⟩;obtain⟨Ds,h1,h2,h3⟩:=h.defers;exact⟨Ds,by simpa[K7,hd]using h1,h2,h3⟩
theorem InvR.popF{far:Nat→List (Nat×Nat)}{r r0:Nat→Option Nat}{k k0:Nat}{st st0:St}{fr:List (Nat×SV)}{a a0 a2:Act}{w w0:World}{rcd:Option Loop}{rnd:Bool}{n2 n0:Nat}{nid:Nat}
  (h:InvR ⟨⟨fr,rcd,ns,k0⟩ :: O.fs,k0,rnd,far⟩ base okc n2 k r ⟨a :: outs.as,r0⟩ st a2 w) (h0:InvR O base okc n0 k0 r0 outs st0 a0 w0) :
  InvR O base okc ns k r outs ⟨fr,st.hp,nid⟩ a w:=by
 obtain⟨o1,o2,o3,o4,o5⟩:=h.out;refine⟨h.sat,h.keys,fun i=>(o1 i).mono (fun _ _=>rfl) (fun i hi=>xa9 hi h.lo) (fun _ _ hg=>⟨hg,rfl⟩) (Shapes.refl _),o3,xc1 h0.lo h.lo,o5.low h0.out,fun id hid=>(h.rfix id (xa9 hid h0.lo)).trans (h0.rfix id hid),?_⟩;obtain⟨Ds,h1,h2,h3⟩:=h.defers;unfold K7 at h1;simp only[List.map_cons,List.flatten_cons]at h1;obtain⟨l1,l2,rfl,e1,e2⟩:=List.append_eq_map_iff.1 h1;exact⟨l2,e2.symm,(List.nodup_append.1 h2).2.1,fun D hD=>h3 D (by simp[hD])⟩
def GF(far:Nat→List (Nat×Nat))(fs:List Fr)(L:Loop)(fr:List (Nat×SV))(ps:List Tmp)(A B:Code):Prop:=
 ∃ns lo rest,fs=⟨fr,some L,ns,lo⟩ :: rest∧qE far ns A=true∧qE far ns B=true∧ps.all (fun t=>decide (t<ns))=true∧L.params=ps.toArray∧L.assign=A∧L.body=B
theorem J2{far:Nat→List (Nat×Nat)}(hm:P.follows .mixedOrders=true){y:Nat}{args:List SV}{st:St}{K:St→SV→Prop}{L:Loop}{fr:List (Nat×SV)}{ps:List Tmp}{A B:Code}(R:GF far O.fs L fr ps A B)(hb:blk st.hp y=some (.loop L .ready))(hlen:args.length=ps.length)
  (h:∀out:List Fr,vc P ⟨out,st.nid,true,far⟩ A ⟨putPs fr ps args,st.hp,st.nid⟩ (Gt P ⟨out,st.nid,true,far⟩ y L B (wO y L st.fr K))):yn P O y args st K:=by
 obtain⟨nc,lo,rest,hfs,hcA,hcB,hps,hpar,hass,hbody⟩:=R;intro base okc ns r outs a w vs l h0 hl ha hy hr;obtain⟨hheap,-⟩:=QG (s':=.ready) h0 hb hr;have hrun:=run_yield (P:=P) (args:=vs) hheap (by show vs.size=L.params.size;rw[hpar,←hl,hlen];simp);refine⟨_,_,_,_,hrun,?_⟩;have hout:=h0.out;rw[hfs]at hout;obtain⟨ac,outs',hac,o1,o2,o3,o4,o5⟩:∃ac outs',outs.as=ac :: outs'∧(∀i,Rep r (· < lo) (Gd base okc r (· < st.nid) st.hp w) w (look fr i) (ac.tmps.getD i undef))∧lo≤O.lo∧ac.tmps.size=nc∧(∀L',some L=some L'→L'.tmps=ac.tmps)∧OutOk r O.lo (Gd base okc r (· < st.nid) st.hp w) w rest outs':=by
  cases hA:outs.as with
  |nil=>rw[hA]at hout;exact hout.elim
  |cons ac outs'=>rw[hA]at hout;exact⟨ac,outs',rfl,hout⟩
 have htm:L.tmps=ac.tmps:=o4 L rfl;obtain⟨q1,q2⟩:=JW (r:=r) (N:=(· < st.nid)) (G:=Gd base okc r (· < st.nid) st.hp w) (w:=w) (ns:=nc) (ps:=ps) (args:=args) (vs:=vs.toList) (fr:=fr) (tmps:=L.tmps)
  (fun i=>by rw[htm];exact(o1 i).mono (fun _ _=>rfl) (fun i hi=>xa9 hi (xc1 o2 h0.lo)) (fun _ _ hg=>⟨hg,rfl⟩) (Shapes.refl _)) (by rw[htm];exact o3) hps Ωaa (fun i sv hi=>by simpa using ha i sv hi)
 have htmps:(L.params.zip vs).foldl (fun tmps (t,a)=>tmps.setIfInBounds t a) L.tmps=(ps.zip vs.toList).foldl (fun tmps (t,a)=>tmps.setIfInBounds t a) L.tmps:=by
  rw[hpar,←Array.foldl_toList];simp
 show RoundIn Fence.wide 0 P l L.fn ((L.params.zip vs).foldl (fun tmps (t,a)=>tmps.setIfInBounds t a) L.tmps) L.assign L.body w _;rw[htmps,hass,hbody];refine roundIn_of_wpIn (F:=Fence.wide) trivial ?_;have hI:=h0.pushF far none (fun _ h=>by cases h) true (a2:={ tmps:=(ps.zip vs.toList).foldl (fun tmps (t,a)=>tmps.setIfInBounds t a) L.tmps,defers:=[] }) (n2:=nc) (nid:=st.nid) q1 q2 rfl;refine yO hm (ro:=some l) (O:=⟨⟨st.fr,none,ns,st.nid⟩ :: O.fs,st.nid,true,far⟩) rfl A _ _ _ _ _ hcA (h _) ⟨r,hI⟩ fun e st1 a1 w1 hk hi1=>?_;cases e with
 |exit i=>exact hk.elim
 |ret=>exact hk.elim
 |normal=>
  obtain⟨hb1,hvc⟩:=hk;have hb1:=qaR hb1;obtain⟨r1,hi1⟩:=hi1;have e1:r1 y=some l:=(hi1.rfix y hy).trans hr;obtain⟨g1,t1⟩:=QG (s':=.busy) hi1 hb1 e1;refine⟨_,run_beginRound g1 rfl,?_⟩;refine yO hm (ro:=some l) (O:=⟨⟨st.fr,none,ns,st.nid⟩ :: O.fs,st.nid,true,far⟩) rfl B _ _ _ _ _ hcB hvc ⟨r1,t1⟩ fun e st2 a2 w2 hk2 hi2=>?_;obtain⟨hb2,hk2⟩:=hk2;have hb2:=qet hb2;obtain⟨r2,hi2⟩:=hi2;have e2:r2 y=some l:=(hi2.rfix y hy).trans hr;have fin:∀(jump:Option Code)(s':RSt),s'.state=(if jump.isNone then LoopState.ready else .done)→s'.pend=jump→K ⟨st.fr,setBlk st2.hp y (.loop L s'),st2.nid⟩ (.val (.bool jump.isNone))→
    ∃v w',(Instr.endRound l jump).run P w2=.ok v w'∧∃v' st' r' res,Ending.returned v=.returned v'∧K st' res∧st.nid≤st'.nid∧InvR O base okc ns st'.nid r' outs st' a w'∧Rep r' (· < st'.nid) (Gd base okc r' (· < st'.nid) st'.hp w') w' res v':=by
   intro jump s' hs1 hs2 hK;obtain⟨g2,t2⟩:=QG (s':=s') hi2 hb2 e2;refine⟨_,_,run_endRound jump g2,_,⟨st.fr,setBlk st2.hp y (.loop L s'),st2.nid⟩,r2,_,rfl,hK,hi2.lo,?_,.val _⟩;rw[hs1,hs2]at t2;exact t2.popF (nid:=st2.nid) h0
  cases e with
  |normal=>exact fin none .ready rfl rfl hk2
  |ret=>exact fin (some .ret) .retd rfl rfl hk2
  |exit i=>exact fin (some (.exit i)) (.left i) rfl rfl hk2
set_option maxHeartbeats 1000000 in
theorem J3(hm:P.follows .mixedOrders=true)(hO:O.rnd=false){x:Operand}{ps:List Tmp}{A B:Code}{st:St}{K:Ex→St→Prop}{gf:FuncId}{caps:List SV}{fn:Func}{c:Code}(hg:env (look st.fr) x=.fn (.func gf) [] caps)(hf:P.funcs[gf]? = some fn)(hb:fn.body=some c)
  (hname : (fn.name == "runtime.NumGoroutine") = false) (hok : Gm fn.ntmps c = true) (hres : fn.results.toList = []) (hlen : caps.length + 1 ≤ fn.ntmps)
  (h:∀(out:List Fr)(L:Loop),GF O.far out L st.fr ps A B→vc P ⟨out,st.nid+1,false,jg⟩ c ⟨argFr 0 (.yld st.nid :: caps),(st.nid,.loop L .ready) :: st.hp,st.nid+1⟩ (jK st.nid L st.fr K)):wN P O (.rangeFunc x ps.toArray A B) st K:=by
 intro base okc ns outs a w ro Q hro hc hinv hQ;obtain⟨r,hi⟩:=hinv;have hro0:ro=none:=by rw[hO]at hro;cases ro<;>simp at hro ⊢
 subst hro0;simp only[qE,xe6]at hc;refine wpIn_rangeFunc fun fn0 _=>?_;have hx:=hi.env x;rw[hg]at hx;generalize hex:a.eval x=u at hx;cases hx with
 |fn _ _ _ cs ds hl hmm h1 h2=>
 have hcs:cs = #[]:=Array.eq_empty_of_size_eq_zero (by simpa using hl.symm);subst hcs;generalize hW1:w.alloc (.deferred (some []))=W1;have hz1:W1.heap.size=w.heap.size+1:=by rw[←hW1];simp
 have hgrow:Step base okc r (· < st.nid) st.hp w r (· < st.nid) st.hp W1:=by rw[←hW1];exact hi.sat.grow ((Below.refl _ w).alloc (xa5 _) _)
 obtain⟨L,hL⟩:∃L:Loop,L = { state:=.ready,pending:=none,fn:=fn0,tmps:=a.tmps,params:=ps.toArray,assign:=A,body:=B,defers:=w.heap.size }:=⟨_,rfl⟩;have hLr:({ L with state:=RSt.ready.state,pending:=RSt.ready.pend }:Loop)=L:=by rw[hL];rfl
 have hi1:InvR O base okc ns st.nid r outs st a W1:=hi.step hgrow hi.keys (xa5 _) (d:=none) (fun t ht=>by cases ht) (.top undef);have hnew:Step base okc r (· < st.nid) st.hp W1 (upd r st.nid (some W1.heap.size)) (zn (· < st.nid) st.nid) ((st.nid,.loop L .ready) :: st.hp) (W1.alloc (.loop L)):=
  hi1.sat.new st.nid Ωh (.loop L) (.loop L .ready) Ω7 (fun j hj=>by simp only[blk];rw[if_neg Ω]) fun r' N' G' _ _ _ _ _=>.loop L .ready _ (by rw[hLr];exact qO W1 _)
 rw[jn]at hnew;have hi2:InvR O base okc ns (st.nid+1) (upd r st.nid (some W1.heap.size)) outs ⟨st.fr,(st.nid,.loop L .ready) :: st.hp,st.nid⟩ a (W1.alloc (.loop L)):=
  hi1.step hnew (fun id y hy=>by
   simp only[blk]at hy;split at hy
   ·omega
   ·have:=hi1.keys id y hy;omega) Ω (d:=none) (fun t ht=>by cases ht) (.top undef)
 have hD:(W1.alloc (.loop L)).heap[w.heap.size]? = some (.deferred (some [])):=by
  rw[zy _ _ Ω,←hW1];exact qO w _
 have hi3:InvR O base okc ns (st.nid+1) (upd r st.nid (some W1.heap.size)) outs ⟨st.fr,(st.nid,.loop L .ready) :: st.hp,st.nid⟩ { a with defers:=[Qc w.heap.size]++a.defers } (W1.alloc (.loop L)):=by
  refine⟨hi2.sat,hi2.keys,hi2.fr,hi2.size,hi2.lo,hi2.out,hi2.rfix,?_⟩;obtain⟨Ds,e1,e2,e3⟩:=hi2.defers;obtain⟨Ds0,f1,f2,f3⟩:=hi.defers;have hDs:Ds=Ds0:=by
   have:Ds.map Qc=Ds0.map Qc:=by rw[←e1,←f1]
   exact(List.map_inj_right (fun _ _=>qfV)).1 this
  subst hDs;refine⟨w.heap.size :: Ds,by simp[K7]at e1 ⊢;exact e1,List.nodup_cons.2 ⟨fun hin=>?_,e2⟩,fun D hDin=>?_⟩
  ·have:=(f3 _ hin).1.1;omega
  ·rcases List.mem_cons.1 hDin with e|e
   ·subst e
    refine⟨⟨Ωj,fun id y hy hid=>?_,?_⟩,hD⟩
    ·simp only[blk]at hy
     split at hy
     ·rename_i e;subst e
      rw[qy];intro e;simp only[Option.some.injEq]at e;omega
     ·rename_i e
      rw[vg _ e];intro e';have:=hi.sat.lt hy (hi.keys _ _ hy) e';omega
    ·simp only[if_true];exact hi.sat.below.size
   ·exact e3 D e
 obtain⟨vs,hvs⟩:∃vs:Array Value,vs = #[Value.func (Fn.yield W1.heap.size) #[] #[]]++ds:=⟨_,rfl⟩;have hvsz:vs.size=ds.size+1:=by rw[hvs];simp;omega
 have hargs:∀(i:Nat)(sv:SV),(SV.yld st.nid :: caps)[i]? = some sv→Rep (upd r st.nid (some W1.heap.size)) (· < st.nid+1) (Gd base okc (upd r st.nid (some W1.heap.size)) (· < st.nid+1) ((st.nid,.loop L .ready) :: st.hp) (W1.alloc (.loop L))) (W1.alloc (.loop L)) sv (vs.getD i undef):=by
  intro i sv hi';cases i with
  |zero=>
   rw[xd6]at hi';cases hi';have e:vs.getD 0 undef=Value.func (Fn.yield W1.heap.size) #[] #[]:=by
    rw[hvs,xf5,Array.getElem?_append_left Ωh];rfl
   rw[e];exact .yld _ _ (xb5 _) (qy _ _ _)
  |succ i=>
   rw[xd7]at hi';have e:vs.getD (i+1) undef=ds.getD i undef:=by
    rw[hvs];simp only[xf5];rw[Array.getElem?_append_right Ωh];simp
   rw[e];exact hnew.rep (hgrow.rep (h2 i sv hi'))
 have hfr:=Ky (args:=SV.yld st.nid :: caps) (vs:=vs) (n:=fn.ntmps) (by rw[hvsz,xe4,hmm]) Ω hargs;have hpush:=hi3.push (some L) (fun L' e=>by cases e;rw[hL]) false (fr:=argFr 0 (.yld st.nid :: caps)) (a2:={ tmps:=vs++Array.replicate (fn.ntmps - vs.size) undef,defers:=[] }) (n2:=fn.ntmps) (nid:=st.nid+1) hfr Ωj rfl;refine⟨w.heap.size+1,[Qc w.heap.size],W1.alloc (.loop L),{ target:=.fn (.func gf) ds,args:=#[.func (.yield (w.heap.size+1)) #[] #[]] },W1.alloc (.loop L),gf,
  vs,W1.alloc (.loop L),?_,?_,fun _ _=>trivial,?_,fun hh=>by simp[FR]at hh,?_⟩
 ·rw[hL,←hW1];exact run_enterLoop_outer _ _ _ _ _
 ·simp only[Go.resolve,hex]
  simp[Deferred.ofValue,Act.eval]
 ·rw[hvs,hz1]
  exact vU hf hb hname _ _
 rw[←hz1];refine calls_FR.2 (g6 hm hf hb hok (O:=⟨⟨st.fr,some L,ns,st.nid+1⟩ :: O.fs,st.nid+1,false,jg⟩) (outs:=⟨_,_⟩) (base:=base) (okc:=okc) (st0:=⟨argFr 0 (.yld st.nid :: caps),(st.nid,.loop L .ready) :: st.hp,st.nid+1⟩) rfl
  (Post:=fun st' _=>jK st.nid L st.fr K .normal st') ⟨_,hpush⟩ ?_ fun st' r' a' w' m us hP hi4 hml hreps=>?_)
 ·have e:(fun(e:Ex)(st':St)=>match e with|.exit _=>False|_=>resultsVC P fn.results.toList st' (fun _=>jK st.nid L st.fr K .normal st'))=jK st.nid L st.fr K:=by
   funext e st';cases e
   ·exact yQ hres _ _
   ·rfl
   ·exact yQ hres _ _
  have hh:=h _ L ⟨ns,st.nid+1,O.fs,rfl,hc.1.1,hc.1.2,(by simpa using hc.2),by rw[hL],by rw[hL],by rw[hL]⟩;rw[←e]at hh;exact hh
 ·obtain⟨s,hbs,hs⟩:=W9 hP
  have er:r' st.nid=some W1.heap.size:=by
   rw[hi4.rfix st.nid (xb5 _)];exact qy _ _ _
  obtain⟨g1,t1⟩:=QG (s':=.over s.pend) hi4 hbs er;have hback:=(t1.forget st.nid).pop (nid:=st'.nid) hi3;have hsame:dropBlk (setBlk st'.hp st.nid (.loop L (.over s.pend))) st.nid=dropBlk st'.hp st.nid:=by
   have:∀(hp:List (Nat×Blk))(y:Nat)(x:Blk),dropBlk (setBlk hp y x) y=dropBlk hp y:=by
    intro hp y x
    induction hp with
    |nil=>rfl
    |cons p hp ih=>
     obtain⟨i,v⟩:=p;simp only[setBlk,dropBlk];by_cases e:y=i
     ·simp[e,dropBlk]
     ·simp[e,dropBlk,ih]
   exact this _ _ _
  simp only[hsame]at hback;have hnb:s.state≠.busy:=by cases s<;>simp[RSt.state]<;>exact hs
  refine⟨s.pend,_,run_endLoop g1 hnb,?_⟩;have fin:∀e,K e ⟨st.fr,dropBlk st'.hp st.nid,st'.nid⟩→Q (VP e) { a with defers:=[Qc w.heap.size]++a.defers } (w'.putObj W1.heap.size (.loop { L with state:=.exhausted,pending:=s.pend })):=fun e hk=>hQ e _ _ _ hk ⟨r',hback⟩;cases s with
  |ready=>exact fin .normal hs
  |busy=>exact hs.elim
  |retd=>exact wpIn_ret (fin .ret hs)
  |left i=>exact wpIn_exit (fin (.exit i) hs)
  |over p=>exact hs.elim
end
section
variable{P:Program}{O:Ctx}{J:Prop}{j:Tag J}
theorem V2(hm:P.follows .mixedOrders=true){far:Nat→List (Nat×Nat)}{d:Option Tmp}{id:Nat}{fr:List (Nat×SV)}{hp:List (Nat×Blk)}{K:St→Prop}{g:Tag K}{y:Nat}{args:List SV}{L:Loop}{fr0:List (Nat×SV)}{ps:List Tmp}{A B:Code}(hJ:J)(R:GF far O.fs L fr0 ps A B)(hb:blk hp y=some (.loop L .ready))(hlen:args.length=ps.length)
  (h:∀out:List Fr,vc P ⟨out,id,true,far⟩ A ⟨putPs fr0 ps args,hp,id⟩ (Gt P ⟨out,id,true,far⟩ y L B (wO y L fr fun st' res=>K (st'.put d res)))):qcn P O j d id fr hp K g y args:=
 ⟨hJ,J2 hm R hb hlen h⟩
theorem qcu(hm:P.follows .mixedOrders=true){fs:List Fr}{lo:Nat}{far:Nat→List (Nat×Nat)}{x:Operand}{ps:List Tmp}{A B:Code}{fr:List (Nat×SV)}{hp:List (Nat×Blk)}{nid:Nat}{K:Ex→St→Prop}{g:Tag K}{gf:FuncId}{caps:List SV}{fn:Func}{c:Code}(hg:env (look fr) x=.fn (.func gf) [] caps)(hf:P.funcs[gf]? = some fn)(hb:fn.body=some c)
  (hname : (fn.name == "runtime.NumGoroutine") = false) (hok : Gm fn.ntmps c = true) (hres : fn.results.toList = []) (hlen : caps.length + 1 ≤ fn.ntmps)
  (h:∀(out:List Fr)(L:Loop),GF far out L fr ps A B→vc P ⟨out,nid+1,false,jg⟩ c ⟨argFr 0 (.yld nid :: caps),(nid,.loop L .ready) :: hp,nid+1⟩ (jK nid L fr K)):qnv P ⟨fs,lo,false,far⟩ (.rangeFunc x ps.toArray A B) ⟨fr,hp,nid⟩ K g:=
 J3 hm rfl hg hf hb hname hok hres hlen h
end
end Go.Sx
end
section
namespace Go.Sx
open Go.RowKit
def zQ:List (Nat×List (Nat×Nat))→Nat→List (Nat×Nat)
 |[],_=>[]
 |(n,l) :: r,i=>if i=n then l else zQ r i
def qbm:List (Nat×List (Nat×Nat))→Nat→Bool
 |[],_=>true
 |(n,_) :: r,i=>!decide (i=n)&&qbm r i
theorem farN_nil(i:Nat):qbm [] i=true:=rfl
theorem farN_cons(n:Nat)(l:List (Nat×Nat))(r:List (Nat×List (Nat×Nat)))(i:Nat):qbm ((n,l) :: r) i=(!decide (i=n)&&qbm r i):=rfl
theorem J4:∀{L:List (Nat×List (Nat×Nat))}{i:Nat},qbm L i=true→zQ L i=[]
 |[],_,_=>rfl
 |(n,l) :: r,i,h=>by
  simp only[qbm,xe6,Bool.not_eq_true',decide_eq_false_iff_not]at h;simp only[zQ];rw[if_neg h.1];exact J4 h.2
section
variable{P:Program}{fs:List Fr}{lo:Nat}{rnd:Bool}
theorem qbn{L:List (Nat×List (Nat×Nat))}{n:Nat}(e:zQ L n=[(0,0)])(ops:List Oper)(d:Bool)(st:St)(K:Ex→St→Prop):vc P ⟨fs,lo,rnd,zQ L⟩ (.region n ops.toArray d) st K=j4 P ⟨fs,lo,rnd,zQ L⟩ n ops d st K .mk:=by
 show(if je (zQ L n)=true then wN P _ (.region n ops.toArray d) st K else _)=_;rw[e,if_pos ΩA];rfl
theorem vc_regLN{L:List (Nat×List (Nat×Nat))}(id:Nat)(ops:List Oper)(d:Bool)(st:St)(K:Ex→St→Prop)(h:qbm L id=true):vc P ⟨fs,lo,rnd,zQ L⟩ (.region id ops.toArray d) st K=zb P ⟨fs,lo,rnd,zQ L⟩ (kL d ops=true) (dsts ops) ops 0 st (fun st'=>K .normal ⟨st'.fr,st'.hp,st'.nid+ops.length⟩):=by
 have e:=J4 h;show(if je (zQ L id)=true then _ else zb P _ _ _ _ 0 st (fun st'=>FarVC (zQ L id) st' (K .normal ⟨st'.fr,st'.hp,st'.nid+ops.length⟩)))=_;rw[e];rfl
end
theorem sBlk_ptr(i o:Nat):gS (.ptr i o)=some i:=rfl
theorem sBlk_elt(i a b c:Nat):gS (.elt i a b c)=some i:=rfl
theorem sBlk_vec(i a b:Nat):gS (.vec i a b)=some i:=rfl
theorem sBlk_cut(i a b:Nat):gS (.cut i a b)=some i:=rfl
theorem sBlk_asl(i a b c:Nat):gS (.asl i a b c)=some i:=rfl
theorem sBlk_val(v:Value):gS (.val v)=none:=rfl
theorem sBlk_arr(o f:Bool)(n k:Nat)(row:Nat→Nat→SV):gS (.arr o f n k row)=none:=rfl
theorem sBlk_ref(o:Bool)(n:Nat)(row:Nat→SV):gS (.ref o n row)=none:=rfl
def apO:Option Nat→Option Nat→Prop
 |some i,some j=>i≠j
 |_,_=>True
theorem apO_ss(i j:Nat):apO (some i) (some j)=(i≠j):=rfl
theorem apO_n(x:Option Nat):apO none x=True:=by cases x<;>rfl
theorem apO_sn(x:Nat):apO (some x) none=True:=rfl
theorem apartS_eq(s s':SV):wa s s'=apO (gS s) (gS s'):=by unfold wa apO;rfl
end Go.Sx
end
section
namespace Go.Sx
open Go.RowKit
section
variable{P:Program}{O:Ctx}
theorem V3{t:TypeId}{m k:Operand}{mid:Nat}{dom:Value→Bool}{get:Value→SV}{st:St}{K:St→SV→Prop}{ag:Bool}{ls:List Lf}{z v:Value}(hx:env (look st.fr) m=.mp mid)(hk:keyV (env (look st.fr) k)=some v)(ht:qI P t=some ⟨ag,ls,z⟩)(hb:blk st.hp mid=some (.map (qm ag ls) dom get))
  (hfv:qm ag ls v=true) (hd:dom v=true)
  (h:∀(stamp:Value→Nat)(clk:Nat),K ⟨st.fr,setBlk st.hp mid (.mapS (qm ag ls) dom get stamp clk),st.nid⟩ (.tup [get v,.val (.int .i64 (stamp v))])):OpVC P O (.mapEntry t m k) st K:=by
 intro base okc ns r outs a w o ho hi;obtain⟨kt,et,ii,hu,hki,hinf,hz,hz1⟩:=zH ht;simp only[]at hki hz;have hv:=hi.env m;rw[hx]at hv;have hkk:=hi.env k;generalize hex:a.eval m=u at hv;generalize hek:a.eval k=y at hkk;obtain rfl:=jE hk hkk;cases hv with
 |mp _ b hN hr=>
 have hrep:=hi.sat.rep mid _ hb hN;rw[hr]at hrep;cases hrep with
 |map _ _ _ _ es clock hb' hmo htm hes=>
 obtain⟨p1,-⟩:=ym hki hmo htm hfv z;obtain⟨i,e,hf,hie,hek',-⟩:=p1 hd;have hsame:es.modify i (fun e=>{ e with key:=y })=es:=by
  refine Array.ext Ωh fun j h1 h2=>?_;simp only[Array.getElem_modify];split
  ·rename_i e1
   subst e1;have:=Array.getElem?_eq_some_iff.1 hie;obtain⟨_,e2⟩:=this;rw[e2,←hek']
  ·rfl
 have hst:∀e,e∈es→e.born=stampOf es e.key:=fun e he=>by
  have hex:∃e',e'∈es∧e'.key=e.key:=⟨e,he,rfl⟩;unfold stampOf;rw[dif_pos hex];obtain⟨c1,c2⟩:=Classical.choose_spec hex;obtain⟨i,hi⟩:=Array.mem_iff_getElem?.1 he;obtain⟨j,hj⟩:=Array.mem_iff_getElem?.1 c1;have:=hmo.once i j _ _ hi hj c2.symm;subst this;rw[hi]at hj;injection hj with hj;rw[←hj]
 have s1:Step base okc r (· < st.nid) st.hp w r (· < st.nid) (setBlk st.hp mid (.mapS (qm ag ls) dom get (stampOf es) clock)) { w with heap:=w.heap.setIfInBounds b (.map es clock) }:=
  ku hi.sat hb hN hr hb' (fun _ _ _=>by simp) (.map es clock) _ fun G' w' hw' hrep=>.mapS _ _ _ _ b _ clock hw' hmo htm hst fun e' he'=>hrep _ _ (hes e' he')
 have hi1:InvR O base okc ns st.nid r outs ⟨st.fr,setBlk st.hp mid (.mapS (qm ag ls) dom get (stampOf es) clock),st.nid⟩ a { w with heap:=w.heap.setIfInBounds b (.map es clock) }:=
  hi.step s1 (vq hb hi.keys) (xa5 _) (d:=none) (fun t ht=>by cases ht) (.top undef)
 have hme:e∈es:=Array.mem_of_getElem? hie;have hrv:=s1.rep (hes e hme);rw[hek']at hrv;refine⟨.tuple #[e.val,goInt e.born],_,?_,⟨st.fr,setBlk st.hp mid _,st.nid⟩,r,_,h (stampOf es) clock,xa5 _,hi1,.tup _ _ rfl fun i sv hi=>?_⟩
 ·have e0:execOp a.eval o=(do pure (.value (←Instr.mapEntry t (a.eval m) (a.eval k)))):=by
   obtain⟨dst,op,type,pos,aft,guard⟩:=o;simp only[]at ho;subst ho;rfl
  rw[e0,hex,hek];have hobj:(getObj b).run P w=.ok (.map es clock) w:=by simp[getObj,Sem.run,hb']
  have hset:∀o,(setObj b o).run P w=.ok () { w with heap:=w.heap.setIfInBounds b o }:=fun o=>by simp[setObj,Sem.run,hb']
  have hfes:∀e∈es.toList,qm ag ls e.key=true:=fun e he=>hmo.fits e ΩY;have hkeep:(Instr.keyThatStays y y).run P w=.ok y w:=by simp[Instr.keyThatStays,vM hki hfv]
  simp only[Instr.mapEntry,Sem.run_bind,run_underlying hu,Result.andThen_ok,hobj,ka hki hfv,kF hki hfv es.toList hfes,hf,hie,xg1,xg0,hek',hkeep,hsame,hset,Sem.run_pure]
 ·match i,hi with
  |0,hi=>simp at hi;subst hi;exact hrv
  |1,hi=>
   simp at hi;subst hi;rw[←hek',←hst e hme];exact .val _
end
theorem QQ(n k:Nat):(n+(k+1)=n)=False:=by simp
theorem QU(n k:Nat):(n=n+(k+1))=False:=by simp
def Under(l:List (Nat×Blk))(n:Nat):Prop:=∀k x,blk l k=some x→k<n
theorem Under.none{l:List (Nat×Blk)}{n:Nat}(h:Under l n){k:Nat}(hk:n≤k):blk l k=none:=by
 cases hb:blk l k with
 |none=>rfl
 |some x=>have:=h k x hb;omega
theorem Under.mono{l:List (Nat×Blk)}{n m:Nat}(h:Under l n)(hm:n≤m):Under l m:=fun k x hx=>xa9 (h k x hx) hm
theorem Under.cons{l:List (Nat×Blk)}{n i:Nat}{b:Blk}(h:Under l n)(hi:i<n):Under ((i,b) :: l) n:=fun k x hx=>by
 simp only[blk]at hx;split at hx
 ·omega
 ·exact h k x hx
theorem Under.nil{n:Nat}:Under [] n:=fun k x hx=>by simp[blk]at hx
theorem SubHp.cons{l l':List (Nat×Blk)}{i:Nat}{b:Blk}(h:SubHp l l'):SubHp ((i,b) :: l) ((i,b) :: l'):=fun k x hx=>by
 simp only[blk]at hx ⊢;split
 ·rename_i e;rw[if_pos e]at hx;exact hx
 ·rename_i e;rw[if_neg e]at hx;exact h k x hx
theorem SubHp.skip{l l':List (Nat×Blk)}{i:Nat}{b:Blk}(hb:blk l' i=none)(h:SubHp l l'):SubHp ((i,b) :: l) l':=fun k x hx=>by
 simp only[blk];split
 ·rename_i e;subst e;rw[hb]at hx;cases hx
 ·exact h k x hx
theorem SubHp.trans{a b c:List (Nat×Blk)}(h:SubHp a b)(h':SubHp b c):SubHp a c:=fun k x hx=>h k x (h' k x hx)
theorem SubHp.swap{l:List (Nat×Blk)}{i j:Nat}{b c:Blk}(h:i≠j):SubHp ((i,b) ::(j,c) :: l) ((j,c) ::(i,b) :: l):=fun k x hx=>by
 simp only[blk]at hx ⊢;by_cases e1:k=j
 ·subst e1
  rw[if_pos rfl]at hx;rw[if_neg (Ne.symm h),if_pos rfl];exact hx
 ·rw[if_neg e1]at hx ⊢
  exact hx
def QS:=An @QQ<|An @QU<|An @Nat.add_zero<|An @Nat.add_assoc<|An @qgQ @Yn
def QR:=An @QQ<|An @QU<|An @Nat.add_zero @Nat.add_assoc
end Go.Sx
end
section
namespace Go.Sx
open Go.RowKit
section
variable{P:Program}{O:Ctx}
end
def hd0:List (Nat×Nat)→Bool
 |[(0,0)]=>true
 |_=>false
def GG:List (Nat×List (Nat×Nat))→Nat→Bool
 |[],_=>false
 |(n,l) :: r,i=>if i=n then hd0 l else GG r i
theorem GH:∀{L:List (Nat×List (Nat×Nat))}{i:Nat},GG L i=true→zQ L i=[(0,0)]
 |[],_,h=>by cases h
 |(n,l) :: r,i,h=>by
  simp only[GG]at h;simp only[zQ];split at h
  ·rename_i e
   rw[if_pos e];unfold hd0 at h;split at h
   ·rfl
   ·cases h
  ·rename_i e
   rw[if_neg e];exact GH h
theorem vc_regLH{P:Program}{fs:List Fr}{lo:Nat}{rnd:Bool}{L:List (Nat×List (Nat×Nat))}(n:Nat)(ops:List Oper)(d:Bool)(st:St)(K:Ex→St→Prop)(h:GG L n=true):vc P ⟨fs,lo,rnd,zQ L⟩ (.region n ops.toArray d) st K=j4 P ⟨fs,lo,rnd,zQ L⟩ n ops d st K .mk:=qbn (GH h) ops d st K
theorem farHd_nil(i:Nat):GG [] i=false:=rfl
theorem farHd_cons(n:Nat)(l:List (Nat×Nat))(r:List (Nat×List (Nat×Nat)))(i:Nat):GG ((n,l) :: r) i=if i=n then hd0 l else GG r i:=rfl
theorem hd0_h:hd0 [(0,0)]=true:=rfl
def RY:=
 An @Go.Sx.vc_regLH <|
 An @Go.Sx.farHd_nil <|
 An @Go.Sx.farHd_cons <|
 An @Go.Sx.hd0_h <|
 An @Go.Sx.vc_regLN <|
 An @Go.Sx.farN_nil <|
 An @Go.Sx.farN_cons <|
 An @Go.Sx.farVS_nil <|
 An @Go.Sx.farVS_cons <|
 An @Go.Sx.apartS_eq <|
 An @Go.Sx.sBlk_ptr <|
 An @Go.Sx.sBlk_elt <|
 An @Go.Sx.sBlk_vec <|
 An @Go.Sx.sBlk_cut <|
 An @Go.Sx.sBlk_asl <|
 An @Go.Sx.sBlk_val <|
 An @Go.Sx.sBlk_arr <|
 An @Go.Sx.sBlk_ref <|
 An @Go.Sx.apO_ss <|
 An @Go.Sx.apO_n <|
 @Go.Sx.apO_sn
end Go.Sx
end
section
namespace Go.Sx
open Go.RowKit
section
variable{P:Program}
def Yt(P:Program)(O:Ctx)(ds:List (Option Tmp)):List Oper→St→(St→Prop)→Prop
 |[],st,K=>K st
 |o :: rest,st,K=>opH P O ds o st fun st'=>Yt P O ds rest st' K
theorem qcv{O:Ctx}{base:World}{okc:Nat→Prop}{ns:Nat}{outs:gJ}{ro:Option Nat}{allops:Array Oper}{Q:Exit→Act→World→Prop}{K:St→Prop}:∀(ops:List Oper)(st:St)(a:Act)(w:World),Inv O base okc ns st.nid outs st a w→ops.all (kv ns)=true→
  Yt P O (dsts allops.toList) ops st K→(∀st' a' w',K st'→Inv O base okc ns st'.nid outs st' a' w'→Q .normal a' w')→wpListIn (FR ro) 0 P allops Q ops a w
 |[],st,a,w,h,hd,hk,hK=>hK st a w hk h
 |o :: rest,st,a,w,h,hd,hk,hK=>by
  simp only[List.all_cons,xe6]at hd;unfold wpListIn;exact VX (ops:=allops) h hd.1 hk fun st' a' w' hk' h'=>qcv rest st' a' w' h' hd.2 hk' hK
theorem ZL{O:Ctx}{st:St}{K:Ex→St→Prop}{id:Nat}{ops:List Oper}{g:Tag K}(h:Yt P O (dsts ops) ops st (fun st'=>K .normal st')):j4 P O id ops false st K g:=by
 intro base okc ns outs a w ro Q hro hc hi hK;simp only[qE,xe6]at hc;obtain⟨hd,-⟩:=hc;have hd:ops.all (kv ns)=true:=by simpa using hd
 refine wpIn_region_list ?_;have:=qcv (ro:=ro) (allops:=ops.toArray) (Q:=Q) (K:=fun st'=>K .normal st') ops st a w hi hd Ω8 fun st' a' w' hk hi'=>hK .normal st' a' w' hk hi';simpa using this
theorem wQ(w:World)(t tn ty e:TypeId)(i:TypeInfo)(kq kn:IntKind)(ht:P.underlying t=some (.slice e))(htn:P.underlying tn=some (.int kn))(hi:P.info? e=some i)(b:Option Addr)(n cap:Nat)(h:n≤cap) :
  (Builtin.append_ #[t,tn] ty #[.slice b n cap,.int kq 0]).run P w=.ok (.slice b n cap) w:=by
 have hw:IntKind.i64.wrap 0=0:=by rw[IntKind.wrap_i64];omega
 cases b<;>simp[Builtin.append_,run_underlying ht,run_underlying htn,sizeOf,typeInfo,hi,asInt,asIntOf,hw,h,storeCells]
theorem GI(w:World)(t tn ty e:TypeId)(i:TypeInfo)(z:Value)(kq kn:IntKind)(ht:P.underlying t=some (.slice e))(htn:P.underlying tn=some (.int kn))(hi:P.info? e=some i)(hz:i.zero=some z)
  (g sLen sCap:Nat) (cur:Array Value) (hg:w.heap[g]? = some (.cells cur e (0,0))) (m:Nat) (h0:0<m) (hs:0<i.size) (hm:m≤1000000) (h48:m*i.bytes≤281474976710656) (h1:∀u∈(Builtin.zeroCells z.cells m).toList,u.oneCell'=true)
  (hroom:sLen+m≤sCap) (hfit:sLen*i.size+(Builtin.zeroCells z.cells m).toList.length≤cur.size) :
  (Builtin.append_ #[t,tn] ty #[.slice (some ⟨g,0,none⟩) sLen sCap,.int kq m]).run P w =
   .ok (.slice (some ⟨g,0,none⟩) (sLen+m) sCap) (w.setRow g (cur.toList.take (sLen*i.size)++(Builtin.zeroCells z.cells m).toList++cur.toList.drop (sLen*i.size+(Builtin.zeroCells z.cells m).toList.length)).toArray):=by
 have hw:IntKind.i64.wrap (m:Int)=m:=by rw[IntKind.wrap_i64];omega
 have h48i:¬(281474976710656<(m:Int)*(i.bytes:Int)):=by rw[←Int.natCast_mul];omega
 have hneg:¬((m:Int)<0):=by omega
 have hns:¬(m*i.size=0):=Nat.mul_ne_zero Ω Ω;have hst:=run_storeCells_at P g (sLen*i.size) e (Builtin.zeroCells z.cells m).toList 0 cur w hg (by simpa using hfit) h1;simp only[xb1]at hst;have hne:m≠0:=by omega
 simp[Builtin.append_,run_underlying ht,run_underlying htn,sizeOf,typeInfo,zeroValue,hi,hz,asInt,asIntOf,hw,hneg,hne,hns,h48i,hroom,Addr.add_lit,hst]
theorem GJ{z:Array Value}{v:Value}(hz:z.toList=[v])(m:Nat):(Builtin.zeroCells z m).toList=qB (fun _ _=>v) m 1:=by
 obtain rfl:z = #[v]:=by cases z;simp at hz;subst hz;rfl
 simp[Builtin.zeroCells,qB];intro a ha;simp[Nat.mod_one]
theorem qbo{base:World}{okc:Nat→Prop}{r:Nat→Option Nat}{N:Nat→Prop}{hp hp':List (Nat×Blk)}{w:World}(h:Sat base okc r N hp w){t tn ty e:TypeId}{i:TypeInfo}{zv:Value}{kq kn:IntKind}(ht:P.underlying t=some (.slice e))(htn:P.underlying tn=some (.int kn))(hi:P.info? e=some i)(hz:i.zero=some zv)(hk:i.size=1)(hzl:zv.cells.toList=[.int .i64 0])
  {id n n' m nid:Nat} {row:Nat→Nat→SV} {u:Value} (hu:Rep r N (Gd base okc r N hp w) w (.vec id n 1) u) (hblk:blk hp id=some (.rows e 1 n' row)) (hn:n≤n') (hsm:n+m≤1000000) (hby:qP P e≤100000000) (hid:¬N nid)
  (hat:blk hp' nid=some (.rows e 1 (n+m) (fun i j=>if i<n then row i j else .val (.int .i64 0)))) (hoth:∀j,N j→j≠id→blk hp' j=blk hp j) (hdrop:blk hp' id=none) :
  ∃v w' r',(Builtin.append_ #[t,tn] ty #[u,.int kq m]).run P w=.ok v w'∧Step base okc r N hp w r' (zn N nid) hp' w'∧Rep r' (zn N nid) (Gd base okc r' (zn N nid) hp' w') w' (.vec nid (n+m) 1) v:=by
 have hoth':∀j,N j→some j≠some id→blk hp' j=blk hp j:=fun j hj hne=>hoth j hj fun e=>hne (by rw[e]);have hdrop':∀o,some id=some o→blk hp' o=none:=fun o ho=>by cases ho;exact hdrop
 have hzf:=GJ hzl;have hzs:zv.cells.size=1:=by simpa using congrArg List.length hzl
 rw[KW hi]at hby;have hmb:m*i.bytes≤281474976710656:=by
  have:m*i.bytes≤1000000*100000000:=Nat.mul_le_mul Ω hby;omega
 have hr2:∀i j,i<m→j<1→Rep r N (Gd base okc r N hp w) w ((fun _ _=>SV.val (.int .i64 0):Nat→Nat→SV) i j) ((fun _ _=>Value.int .i64 0:Nat→Nat→Value) i j):=fun _ _ _ _=>.val _;cases hu with
 |vecNil _ _ hN hrn=>
  by_cases hm0:m=0
  ·subst hm0
   have hrun:=wQ (P:=P) w t tn ty e i kq kn ht htn hi none 0 0 (xa5 _);obtain⟨r',hst,hrep⟩:=Qy h nid hid (some id) hat hoth' hdrop';exact⟨_,_,r',hrun,hst,hrep⟩
  ·have hrun:=Lib.run_append_nil_zeros (P:=P) w t tn ty e i zv kq kn ht htn hi hz m Ω Ω Ω hmb
   obtain⟨r',hst,hrep⟩:=vL (n:=0) (olds:=[]) (news:=qB (fun _ _=>Value.int .i64 0) m 1) (rest:=(Builtin.zeroCells zv.cells (grownCap w m 0 e - m)).toList) (f1:=fun _ _=>undef) (f2:=fun _ _=>Value.int .i64 0) (row1:=row) (row2:=fun _ _=>.val (.int .i64 0)) (gc:=grownCap w m 0 e) h nid hid (some id) hat hoth' hdrop' (by simp[qB]) rfl
    (by rw[kD,hzs];simp) (by rw[xb0];exact grownCap_ge w m 0 e) (yj w m 0 Ω) (fun i j hi=>by omega) hr2
   have e1:(([]:List Value)++qB (fun _ _=>Value.int .i64 0) m 1++(Builtin.zeroCells zv.cells (grownCap w m 0 e - m)).toList).toArray=Builtin.zeroCells zv.cells m++Builtin.zeroCells zv.cells (grownCap w m 0 e - m):=by
    apply Array.ext';rw[←hzf m];simp
   rw[e1]at hst hrep;rw[xb0]at hrep ⊢;exact⟨_,_,r',hrun,hst,hrep⟩
 |vec _ _ _ b cap cs tt hN hrn hb hcs hcap hmx=>
  have hrep:=h.rep _ _ hblk hN;rw[hrn]at hrep;cases hrep with
  |rows _ _ _ _ _ cs' hb' hl hrep=>
   rw[hb]at hb';simp only[Option.some.injEq,Obj.cells.injEq,and_true]at hb';obtain⟨rfl,rfl⟩:=hb';by_cases hm0:m=0
   ·subst hm0
    have hrun:=wQ (P:=P) w t tn ty tt i kq kn ht htn hi (some ⟨b,0,none⟩) n cap hcap;have hst:=h.exch (w':=w) nid hid (some id) _ (some b) hat hoth' hdrop' h.below (Shapes.refl w) (xa5 _) (fun _ _ _=>rfl) (fun c hc=>.inl ⟨id,_,rfl,hblk,hN,by rw[hrn];exact hc⟩) fun r' N' G' hr' hN' hG' _=>
     .rows _ _ _ _ b cs hb (xc1 (xa8 _ Ω) hl) fun i j hi hj=>by
      rw[if_pos Ω];exact(hrep i j Ω hj).mono hr' hN' hG' (Shapes.refl w)
    exact⟨_,_,_,hrun,hst,.vec _ _ _ b cap cs tt (.inr rfl) (qy _ _ _) hb hcs hcap hmx⟩
   ·by_cases hroom:n+m≤cap
    ·have hfit:n*i.size+(qB (fun _ _=>Value.int .i64 0) m 1).length≤cs.size:=by rw[qu,hk,hcs,←Nat.add_mul];exact xa8 _ hroom
     have hrun:=GI (P:=P) w t tn ty tt i zv kq kn ht htn hi hz b n cap cs hb m Ω Ω Ω hmb (fun u hu=>by rw[hzf]at hu;simp[qB]at hu;obtain⟨_,_,rfl⟩:=hu;rfl) hroom (by rw[hzf];exact hfit);rw[hzf]at hrun;have hsz:(cs.toList.take (n*i.size)++qB (fun _ _=>Value.int .i64 0) m 1++cs.toList.drop (n*i.size+(qB (fun _ _=>Value.int .i64 0) m 1).length)).toArray.size=cs.size:=by
      simp only[List.size_toArray,xc8,xd9,List.length_drop,xf7];omega
     have hsh:=kP (w:=w) hb hsz;have hb2:=setRow_heap w b cs (cs.toList.take (n*i.size)++qB (fun _ _=>Value.int .i64 0) m 1++cs.toList.drop (n*i.size+(qB (fun _ _=>Value.int .i64 0) m 1).length)).toArray tt _ hb;have hst:=h.exch (w':=w.setRow b (cs.toList.take (n*i.size)++qB (fun _ _=>Value.int .i64 0) m 1++cs.toList.drop (n*i.size+(qB (fun _ _=>Value.int .i64 0) m 1).length)).toArray) nid hid (some id) _ (some b) hat hoth' hdrop'
      (gn h.below (h.own _ _ _ hblk hN hrn) _) hsh ΩV (fun c hc hno=>zi w b _ fun e=>hno id _ rfl hblk hN (by rw[e];exact hrn))
      (fun c hc=>.inl ⟨id,_,rfl,hblk,hN,by rw[hrn];exact hc⟩) fun r' N' G' hr' hN' hG' _=>by
       refine .rows _ _ _ _ b _ hb2 (by rw[hsz,hcs];exact xa8 _ hroom) fun x j hx hj=>?_;have hcell:((cs.toList.take (n*i.size)++qB (fun _ _=>Value.int .i64 0) m 1++cs.toList.drop (n*i.size+(qB (fun _ _=>Value.int .i64 0) m 1).length)).toArray).getD (x*1+j) undef=if x<n then cs.getD (x*1+j) undef else Value.int .i64 0:=by
        have hnl:n*1≤cs.size:=by rw[hcs];exact xa8 _ hcap
        simp only[xf5,xe2,hk];by_cases hxn:x<n
        ·have:=zz hxn hj
         rw[if_pos hxn,List.append_assoc,xc9 Ωj,List.getElem?_take_of_lt this];simp
        ·have hle:n*1≤x*1:=xa8 _ Ω
         have hlt:=zz (Ω:x - n<m) hj;rw[Nat.sub_mul]at hlt;have hmin:min (n*1) cs.toList.length=n*1:=by simp;omega
         rw[if_neg hxn,xc9 Ωx,xd0 Ω9,xd9,hmin];have e:x*1+j - n*1=(x - n)*1+j:=by rw[Nat.sub_mul];omega
         rw[e,kQ _ _ _ _ _ Ω hj];rfl
       rw[hcell];by_cases hxn:x<n
       ·rw[if_pos hxn,if_pos hxn];exact(hrep x j Ω hj).mono hr' hN' hG' hsh
       ·rw[if_neg hxn,if_neg hxn];exact .val _
     exact⟨_,_,_,hrun,hst,.vec _ _ _ b cap _ tt (.inr rfl) (qy _ _ _) hb2 (hsz.trans hcs) hroom hmx⟩
    ·have hfl:qB (fun i j=>cs.getD (i*1+j) undef) n 1=cs.toList.take n:=by
      apply List.ext_getElem?;intro q;by_cases hq:q<n
      ·have:=kQ (fun i j=>cs.getD (i*1+j) undef) n 1 q 0 hq Ω
       rw[show q*1+0=q by omega]at this;rw[this,List.getElem?_take_of_lt hq];have hqs:q<cs.size:=by omega
       simp[hqs]
      ·rw[List.getElem?_eq_none (by rw[qu];omega),List.getElem?_eq_none Ωj]
     have hold:(Builtin.firstCells i.size n (.slice (some ⟨b,0,none⟩) n cap)).run P w.drew=.ok (qB (fun i j=>cs.getD (i*1+j) undef) n 1).toArray w.drew:=
      run_firstCells_some (P:=P) w.drew i.size n ⟨b,0,none⟩ n cap _ (by rw[qu,hk]) (fun q v hq=>by
       rw[hfl]at hq;have hqn:q<n:=by
        have:=(List.getElem?_eq_some_iff.1 hq).1;simp at this;omega
       rw[List.getElem?_take_of_lt hqn]at hq;have hqs:q<cs.size:=by omega
       have h7:=zF (w:=w.drew) (b:=b) (cs:=cs) hb q hqs;have h8:cs[q]? = some v:=by simpa using hq
       rw[Addr.add_lit,xb0,h7];simp[xf5,h8])
     have hrun:=Lib.run_append_grow_zeros (P:=P) w t tn ty tt i zv kq kn ht htn hi hz (some ⟨b,0,none⟩) n cap (qB (fun i j=>cs.getD (i*1+j) undef) n 1) hold m Ω Ω Ω Ω hmb (KV Ω hsm hby);obtain⟨r',hst,hrep'⟩:=vL (n:=n) (olds:=qB (fun i j=>cs.getD (i*1+j) undef) n 1) (news:=qB (fun _ _=>Value.int .i64 0) m 1) (rest:=(Builtin.zeroCells zv.cells (grownCap w (n+m) cap tt -(n+m))).toList) (f1:=fun i j=>cs.getD (i*1+j) undef) (f2:=fun _ _=>Value.int .i64 0) (row1:=row) (row2:=fun _ _=>.val (.int .i64 0)) (gc:=grownCap w (n+m) cap tt) h nid hid (some id) hat hoth' hdrop' rfl rfl
      (by rw[kD,hzs]) (grownCap_ge w _ _ tt) (yj w _ _ hsm) (fun i j hi hj=>hrep i j Ω hj) hr2
     have e1:(qB (fun i j=>cs.getD (i*1+j) undef) n 1++qB (fun _ _=>Value.int .i64 0) m 1++(Builtin.zeroCells zv.cells (grownCap w (n+m) cap tt -(n+m))).toList).toArray=(qB (fun i j=>cs.getD (i*1+j) undef) n 1).toArray++Builtin.zeroCells zv.cells m++Builtin.zeroCells zv.cells (grownCap w (n+m) cap tt -(n+m)):=by
      apply Array.ext';rw[←hzf m];simp
     rw[e1]at hst hrep';exact⟨_,_,r',hrun,hst,hrep'⟩
theorem qgY{O:Ctx}{t tn:TypeId}{x y:Operand}{id n n' m:Nat}{e:TypeId}{row:Nat→Nat→SV}{st:St}{K:St→SV→Prop}{ag ag':Bool}{sz sz':Nat}{z0:Option (List Value)}{d:D}{kq kn:IntKind}
  (ht:qq P t=some ⟨ag,sz,z0,.slice e 1⟩) (hte:qq P e=some ⟨ag',sz',some [.int .i64 0],d⟩) (htn:P.underlying tn=some (.int kn))
  (hx:env (look st.fr) x=.vec id n 1) (hy:env (look st.fr) y=.val (.int kq (m:Nat))) (hb:blk st.hp id=some (.rows e 1 n' row)) (hn:n≤n') (hsm:n+m≤1000000) (hby:qP P e≤100000000) (hid:id≠st.nid)
  (h:K ⟨st.fr,(st.nid,.rows e 1 (n+m) (fun i j=>if i<n then row i j else .val (.int .i64 0))) :: dropBlk st.hp id,st.nid+1⟩ (.vec st.nid (n+m) 1)):OpVC P O (.call ⟨.builtin .append,#[x,y],#[t,tn]⟩) st K:=by
 intro base okc ns r outs a w o ho hi;obtain⟨hts,i,hi',hk⟩:=zC ht;obtain⟨zv,hz,hzl⟩:=vK hi' hte;have hu:=hi.env x;rw[hx]at hu;have hv:=hi.env y;rw[hy]at hv;generalize hex:a.eval x=u at hu;generalize hey:a.eval y=v at hv;cases hv;obtain⟨v',w',r',hrun,hst,hrep⟩:=qbo (ty:=o.type) (kq:=kq) hi.sat (nid:=st.nid) (hp':=(st.nid,.rows e 1 (n+m) (fun i j=>if i<n then row i j else .val (.int .i64 0))) :: dropBlk st.hp id) hts htn hi' hz hk hzl hu hb hn hsm hby Ω Ω7 (fun j hj hne=>by
  simp only[blk,qS];rw[if_neg Ω,if_neg hne]) (by simp only[blk,qS];rw[if_neg hid];simp)
 rw[jn]at hst hrep;refine⟨v',w',?_,_,r',_,h,xc4 _,?_,hrep⟩
 ·have e0:execOp a.eval o=(do pure (.value (←Builtin.append_ #[t,tn] o.type #[u,.int kq m]))):=by
   obtain⟨dst,op,type,pos,aft,guard⟩:=o;simp only[]at ho;subst ho;simp[execOp,Go.resolve,Go.invoke,Go.builtin,hex,hey]
  rw[e0];simp only[Sem.run_bind,hrun,Result.andThen_ok,Sem.run_pure]
 ·have:=hi.step hst (fun j z hz=>by
   simp only[blk,qS]at hz;split at hz
   ·omega
   ·split at hz
    ·cases hz
    ·have:=hi.keys j z hz;omega) (xc4 _) (d:=none) (fun t ht=>by cases ht) (.val undef)
  exact this.nid _
end
end Go.Sx
end
section
namespace Go.Sx
open Go.RowKit
section
variable{P:Program}
theorem yJ(w:World)(t ty e:TypeId)(i:TypeInfo)(ht:P.underlying t=some (.slice e))(hi:P.info? e=some i)(g off sLen sCap:Nat)(cur:Array Value)(hg:w.heap[g]? = some (.cells cur e (0,0)))
  (a:Addr) (m c:Nat) (news:List Value) (hl:news.length=m*i.size) (hnews:∀j u,news[j]? = some u→w.cell? (a.add j)=some u) (h1:∀u∈news,u.oneCell'=true) (hroom:sLen+m≤sCap) (hfit:off+sLen*i.size+news.length≤cur.size) :
  (Builtin.append_ #[t,t] ty #[.slice (some ⟨g,off,none⟩) sLen sCap,.slice (some a) m c]).run P w=.ok (.slice (some ⟨g,off,none⟩) (sLen+m) sCap) (w.setRow g (cur.toList.take (off+sLen*i.size)++news++cur.toList.drop (off+sLen*i.size+news.length)).toArray):=by
 have hfc:=run_firstCells_some (P:=P) w i.size m a m c news hl hnews;have hst:=run_storeCells_at P g (off+sLen*i.size) e news 0 cur w hg (by simpa using hfit) h1;simp only[xb1]at hst;simp[Builtin.append_,run_underlying ht,sizeOf,typeInfo,hi,Builtin.lenOf,hroom,hfc,Addr.add_lit,hst]
theorem qgZ{r:Nat→Option Nat}{N:Nat→Prop}{G:Bool→Nat→Prop}{w:World}{id n k:Nat}{v:Value}(h:Rep r N G w (.vec id n k) v):Rep r N G w (.que id 0 n k) v:=by
 cases h with
 |vecNil _ _ hN hr=>exact .queNil _ _ _ _ hN
 |vec _ _ _ b cap cs t hN hr hb hcs hcap hmx=>
  have:=Rep.que (r:=r) (N:=N) (G:=G) (w:=w) id 0 n k b cap cs t hN hr hb (by rw[xb0];exact hcs) hcap (by rw[xb0];exact hmx)
  rwa [Nat.zero_mul]at this
theorem qha{base:World}{okc:Nat→Prop}{r:Nat→Option Nat}{N:Nat→Prop}{hp hpA hpB:List (Nat×Blk)}{w:World}(h:Sat base okc r N hp w){t ty e:TypeId}{i:TypeInfo}{zv:Value}(ht:P.underlying t=some (.slice e))(hi:P.info? e=some i)(hz:i.zero=some zv){k:Nat}(hk:i.size=k)(hzk:zv.cells.toList.length=k)(hpos:0<k)
  {id off n n' m nid:Nat} {row row2:Nat→Nat→SV} {u v:Value} (hu:Rep r N (Gd base okc r N hp w) w (.que id off n k) u) (hblk:blk hp id=some (.rows e k n' row)) (hn:off+n≤n') (hm:0<m) (hsm:off+n+m≤1000000) (hby:qP P e≤100000000) (hid:¬N nid)
  {a2:Option Addr} {c2:Nat} {f2:Nat→Nat→Value} (hv:Zy r N (Gd base okc r N hp w) w v m k row2 a2 c2 f2) (h9:oneRows m k row2)
  (hatA:blk hpA nid=some (.rows e k (off+n+m) (fun i j=>if i<off+n then row i j else row2 (i -(off+n)) j))) (hothA:∀j,N j→j≠id→blk hpA j=blk hp j) (hdropA:blk hpA id=none)
  (hatB:blk hpB nid=some (.rows e k (n+m) (fun i j=>if i<n then row (off+i) j else row2 (i - n) j))) (hothB:∀j,N j→j≠id→blk hpB j=blk hp j) (hdropB:blk hpB id=none) :
  ∃z w' r',(Builtin.append_ #[t,t] ty #[u,v]).run P w=.ok z w'∧
   ((Step base okc r N hp w r' (zn N nid) hpA w'∧Rep r' (zn N nid) (Gd base okc r' (zn N nid) hpA w') w' (.que nid off (n+m) k) z)∨
    (Step base okc r N hp w r' (zn N nid) hpB w'∧Rep r' (zn N nid) (Gd base okc r' (zn N nid) hpB w') w' (.que nid 0 (n+m) k) z)):=by
 have hothA':∀j,N j→some j≠some id→blk hpA j=blk hp j:=fun j hj hne=>hothA j hj fun e=>hne (by rw[e]);have hothB':∀j,N j→some j≠some id→blk hpB j=blk hp j:=fun j hj hne=>hothB j hj fun e=>hne (by rw[e]);have hdropA':∀o,some id=some o→blk hpA o=none:=fun o ho=>by cases ho;exact hdropA
 have hdropB':∀o,some id=some o→blk hpB o=none:=fun o ho=>by cases ho;exact hdropB
 have grow:∀(a1:Option Addr)(cap:Nat)(f1:Nat→Nat→Value),u=.slice a1 n cap→(a1=none→cap=0)→Zy r N (Gd base okc r N hp w) w u n k (fun i j=>row (off+i) j) a1 cap f1→cap<n+m→
   ∃z w' r',(Builtin.append_ #[t,t] ty #[u,v]).run P w=.ok z w'∧
   ((Step base okc r N hp w r' (zn N nid) hpA w'∧Rep r' (zn N nid) (Gd base okc r' (zn N nid) hpA w') w' (.que nid off (n+m) k) z)∨
    (Step base okc r N hp w r' (zn N nid) hpB w'∧Rep r' (zn N nid) (Gd base okc r' (zn N nid) hpB w') w' (.que nid 0 (n+m) k) z)):=by
  intro a1 cap f1 he h0 hs1 hc;obtain⟨z,w',r',h1,h2,h3⟩:=gY (ty:=ty) (row1:=fun i j=>row (off+i) j) h ht hi hz hk hzk hpos hm hc Ω hby he h0 hs1 hv nid hid (some id) hatB hothB' hdropB';exact⟨z,w',r',h1,.inr ⟨h2,qgZ h3⟩⟩
 cases hu with
 |queNil _ _ _ a hN=>exact grow a 0 (fun _ _=>undef) rfl (fun _=>rfl) ⟨rfl,xa5 _,.inl rfl,fun i j hi=>by omega⟩ Ω
 |que _ _ _ _ b cap cs tt hN hrn hb hcs hcap hmx=>
  have hrep:=h.rep _ _ hblk hN;rw[hrn]at hrep;cases hrep with
  |rows _ _ _ _ _ cs' hb' hl hrep=>
   rw[hb]at hb';simp only[Option.some.injEq,Obj.cells.injEq,and_true]at hb';obtain⟨rfl,rfl⟩:=hb';by_cases hroom:n+m≤cap
   ·obtain⟨rfl,hle2,hat2,hrp2⟩:=hv
    rcases hat2 with hz2|⟨b2,off2,rfl,hc2⟩
    ·omega
    have eo:off*k+n*i.size=(off+n)*k:=by rw[hk,Nat.add_mul]
    have hfit:off*k+n*i.size+(qB f2 m k).length≤cs.size:=by rw[qu,eo,hcs,←Nat.add_mul];exact xa8 _ Ω
    have hrun:=yJ (P:=P) w t ty tt i ht hi b (off*k) n cap cs hb ⟨b2,off2,none⟩ m c2 (qB f2 m k) (by rw[qu,hk]) (gO hc2 hpos) (wA hrp2 h9 hpos) hroom hfit;rw[eo]at hrun hfit;have hsz:(cs.toList.take ((off+n)*k)++qB f2 m k++cs.toList.drop ((off+n)*k+(qB f2 m k).length)).toArray.size=cs.size:=by
     simp only[List.size_toArray,xc8,xd9,List.length_drop,xf7];omega
    have hsh:=kP (w:=w) hb hsz;have hb2:=setRow_heap w b cs (cs.toList.take ((off+n)*k)++qB f2 m k++cs.toList.drop ((off+n)*k+(qB f2 m k).length)).toArray tt _ hb;have hst:=h.exch (w':=w.setRow b (cs.toList.take ((off+n)*k)++qB f2 m k++cs.toList.drop ((off+n)*k+(qB f2 m k).length)).toArray) nid hid (some id) _ (some b) hatA hothA' hdropA'
     (gn h.below (h.own _ _ _ hblk hN hrn) _) hsh ΩV (fun c hc hno=>zi w b _ fun e=>hno id _ rfl hblk hN (by rw[e];exact hrn))
     (fun c hc=>.inl ⟨id,_,rfl,hblk,hN,by rw[hrn];exact hc⟩) fun r' N' G' hr' hN' hG' _=>by
      refine .rows _ _ _ _ b _ hb2 (by rw[hsz,hcs];exact xa8 _ Ω) fun x j hx hj=>?_;have hcell:((cs.toList.take ((off+n)*k)++qB f2 m k++cs.toList.drop ((off+n)*k+(qB f2 m k).length)).toArray).getD (x*k+j) undef=if x<off+n then cs.getD (x*k+j) undef else f2 (x -(off+n)) j:=by
       have hnl:(off+n)*k≤cs.size:=by rw[hcs];exact xa8 _ Ω
       simp only[xf5,xe2];by_cases hxn:x<off+n
       ·have:=zz hxn hj
        rw[if_pos hxn,List.append_assoc,xc9 Ωj,List.getElem?_take_of_lt this];simp
       ·have hle:(off+n)*k≤x*k:=xa8 _ Ω
        have hlt:=zz (Ω:x -(off+n)<m) hj;rw[Nat.sub_mul]at hlt;have hmin:min ((off+n)*k) cs.toList.length=(off+n)*k:=by simp;omega
        rw[if_neg hxn,xc9 Ωx,xd0 Ω9,xd9,hmin];have e:x*k+j -(off+n)*k=(x -(off+n))*k+j:=by rw[Nat.sub_mul];omega
        rw[e,kQ _ _ _ _ _ Ω hj];rfl
      rw[hcell];by_cases hxn:x<off+n
      ·rw[if_pos hxn,if_pos hxn];exact(hrep x j Ω hj).mono hr' hN' hG' hsh
      ·rw[if_neg hxn,if_neg hxn];exact(hrp2 _ j Ω hj).mono hr' hN' hG' hsh
    exact⟨_,_,_,hrun,.inl ⟨hst,.que _ _ _ _ b cap _ tt (.inr rfl) (qy _ _ _) hb2 (hsz.trans hcs) hroom hmx⟩⟩
   ·refine grow _ cap (fun i j=>cs.getD ((off+i)*k+j) undef) rfl (fun e=>by cases e) ⟨rfl,hcap,.inr ⟨b,off*k,rfl,fun i j hi hj=>?_⟩,fun i j hi hj=>hrep (off+i) j Ω hj⟩ Ω
    rw[←xb2,←Nat.add_mul];exact zF hb _ (by have:=zz (Ω:off+i<off+cap) hj;omega)
theorem qhb{O:Ctx}{t:TypeId}{x y:Operand}{id off n n' m k:Nat}{e:TypeId}{row row2:Nat→Nat→SV}{s2:SV}{obl2:Prop}{st:St}{K:St→SV→Prop}{ag ag':Bool}{sz sz':Nat}{z0:Option (List Value)}{z:List Value}{d:D}
  (ht:qq P t=some ⟨ag,sz,z0,.slice e k⟩) (hte:qq P e=some ⟨ag',sz',some z,d⟩) (hzl:z.length=k) (hpos:0<k)
  (hx:env (look st.fr) x=.que id off n k) (hy:env (look st.fr) y=s2) (hr2:rowsOf st.hp s2=some (obl2,m,k,row2)) (ho2:obl2) (h9:oneRows m k row2) (hb:blk st.hp id=some (.rows e k n' row)) (hn:off+n≤n') (hm:0<m) (hsm:off+n+m≤1000000) (hby:qP P e≤100000000) (hid:id≠st.nid)
  (hA:K ⟨st.fr,(st.nid,.rows e k (off+n+m) (fun i j=>if i<off+n then row i j else row2 (i -(off+n)) j)) :: dropBlk st.hp id,st.nid+1⟩ (.que st.nid off (n+m) k))
  (hB:K ⟨st.fr,(st.nid,.rows e k (n+m) (fun i j=>if i<n then row (off+i) j else row2 (i - n) j)) :: dropBlk st.hp id,st.nid+1⟩ (.que st.nid 0 (n+m) k)):OpVC P O (.call ⟨.builtin .append,#[x,y],#[t,t]⟩) st K:=by
 intro base okc ns r outs a w o ho hi;obtain⟨hts,i,hi',hk⟩:=zC ht;obtain⟨zv,hz,hzl'⟩:=vK hi' hte;have hu:=hi.env x;rw[hx]at hu;have hv:=hi.env y;rw[hy]at hv;generalize hex:a.eval x=u at hu;generalize hey:a.eval y=v at hv;obtain⟨a2,c2,f2,hv2⟩:=zW (P:=P) hi.sat.ok hv hr2 ho2;have at':∀(b:Blk),blk ((st.nid,b) :: dropBlk st.hp id) st.nid=some b:=fun b=>by simp[blk]
 have oth:∀(b:Blk)(j:Nat),j<st.nid→j≠id→blk ((st.nid,b) :: dropBlk st.hp id) j=blk st.hp j:=fun b j hj hne=>by
  simp only[blk,qS];rw[if_neg Ω,if_neg hne]
 have drp:∀(b:Blk),blk ((st.nid,b) :: dropBlk st.hp id) id=none:=fun b=>by simp only[blk,qS];rw[if_neg hid];simp
 have keys:∀(b:Blk)(j:Nat)(z:Blk),blk ((st.nid,b) :: dropBlk st.hp id) j=some z→j<st.nid+1:=fun b j z hz=>by
  simp only[blk,qS]at hz;split at hz
  ·omega
  ·split at hz
   ·cases hz
   ·have:=hi.keys j z hz;omega
 obtain⟨v',w',r',hrun,hcase⟩:=qha (ty:=o.type) hi.sat (nid:=st.nid) (hpA:=(st.nid,.rows e k (off+n+m) (fun i j=>if i<off+n then row i j else row2 (i -(off+n)) j)) :: dropBlk st.hp id) (hpB:=(st.nid,.rows e k (n+m) (fun i j=>if i<n then row (off+i) j else row2 (i - n) j)) :: dropBlk st.hp id) hts hi' hz hk (by rw[hzl'];exact hzl) hpos hu hb hn hm hsm hby Ω hv2 h9
  (at' _) (fun j hj=>oth _ j hj) (drp _) (at' _) (fun j hj=>oth _ j hj) (drp _)
 have e0:execOp a.eval o=(do pure (.value (←Builtin.append_ #[t,t] o.type #[u,v]))):=by
  obtain⟨dst,op,type,pos,aft,guard⟩:=o;simp only[]at ho;subst ho;simp[execOp,Go.resolve,Go.invoke,Go.builtin,hex,hey]
 have erun:(execOp a.eval o).run P w=.ok (.value v') w':=by
  rw[e0];simp only[Sem.run_bind,hrun,Result.andThen_ok,Sem.run_pure]
 rcases hcase with⟨hst,hrep⟩|⟨hst,hrep⟩<;>rw[jn]at hst hrep
 ·refine⟨v',w',erun,_,r',_,hA,xc4 _,?_,hrep⟩
  have:=hi.step hst (keys _) (xc4 _) (d:=none) (fun t ht=>by cases ht) (.val undef);exact this.nid _
 ·refine⟨v',w',erun,_,r',_,hB,xc4 _,?_,hrep⟩
  have:=hi.step hst (keys _) (xc4 _) (d:=none) (fun t ht=>by cases ht) (.val undef);exact this.nid _
theorem gA{O:Ctx}{ds:List (Option Tmp)}{st:St}{K:St→Prop}:Yt P O ds [] st K=K st:=rfl
theorem qF{O:Ctx}{ds:List (Option Tmp)}{d:Option Tmp}{op:Op}{ty:TypeId}{pos:String}{af:Array Edge}{rest:List Oper}{st:St}{K:St→Prop}
  (h:QH P O (Tag.mk:Tag True) (Tag.mk:Tag op) d st.nid st (fun st'=>Yt P O ds rest ⟨inD d st'.fr,st'.hp,st'.nid+1⟩ K) .mk (stepR P (look st.fr) st.hp op)):Yt P O ds (⟨d,op,ty,pos,af,none⟩ :: rest) st K:=.inl h
theorem gT{O:Ctx}{ds:List (Option Tmp)}{d:Option Tmp}{op:Op}{ty:TypeId}{pos:String}{af:Array Edge}{rest:List Oper}{st:St}{K:St→Prop}(hn:qcs op=true)
  (h:OpVC P O op st fun st' res=>Yt P O ds rest (st'.putI d res) K):Yt P O ds (⟨d,op,ty,pos,af,none⟩ :: rest) st K:=.inr ⟨hn,.inl h⟩
end
end Go.Sx
end
section
namespace Go.Tn
open Go.Proofs
open Go.Sx
theorem follows:Tryz.prog.follows .mixedOrders=true:=by kernel_rfl
theorem TY:True∧qq Tryz.prog 2=some ⟨false,1,some [Value.int IntKind.i64 0],D.int IntKind.i64⟩∧qq Tryz.prog 3=some ⟨false,1,some [Value.int IntKind.i64 0],D.int IntKind.i64⟩∧qq Tryz.prog 4=some ⟨false,1,some [Value.bool false],D.bool⟩∧qq Tryz.prog 5=some ⟨false,1,some [Value.int IntKind.u8 0],D.int IntKind.u8⟩∧qq Tryz.prog 22=some ⟨false,1,some [Value.slice none 0 0],D.slice 3 1⟩∧qq Tryz.prog 24=some ⟨true,1,some [Value.slice none 0 0],D.struct [(0,1,some false)]⟩∧qq Tryz.prog 28=some ⟨false,1,some [Value.int IntKind.i64 0],D.int IntKind.i64⟩∧qq Tryz.prog 136=some ⟨false,1,some [Value.pointer none],D.other⟩∧qq Tryz.prog 140=some ⟨true,5,some [Value.int IntKind.i64 0,Value.int IntKind.i64 0,Value.int IntKind.i64 0,Value.int IntKind.i64 0,Value.int IntKind.i64 0],D.array 5 3 1⟩∧qq Tryz.prog 250=some ⟨false,1,some [Value.map none],D.map 255 3⟩∧qq Tryz.prog 251=some ⟨false,1,some [Value.slice none 0 0],D.slice 140 5⟩∧qq Tryz.prog 253=some ⟨true,5,some [Value.slice none 0 0,Value.slice none 0 0,Value.slice none 0 0,Value.slice none 0 0,Value.map none],D.struct [(0,1,some true),(1,1,some false),(2,1,some false),(3,1,some false),(4,1,some false)]⟩∧qq Tryz.prog 255=some ⟨true,6,some [Value.int IntKind.i64 0,Value.int IntKind.i64 0,Value.int IntKind.i64 0,Value.int IntKind.i64 0,Value.int IntKind.i64 0,Value.int IntKind.i64 0],D.struct [(0,5,some true),(5,1,some false)]⟩∧qq Tryz.prog 60=some ⟨false,1,some [Value.slice none 0 0],D.slice 22 1⟩∧qq Tryz.prog 220=some ⟨true,2,some [Value.slice none 0 0,Value.int IntKind.i64 0],D.struct [(0,1,some false),(1,1,some false)]⟩∧qq Tryz.prog 222=some ⟨false,1,some [Value.slice none 0 0],D.slice 220 2⟩∧za Tryz.prog 24=some [(0,1)]∧za Tryz.prog 140=some [(0,1),(1,1),(2,1),(3,1),(4,1)]∧za Tryz.prog 253=some [(0,1),(1,1),(2,1),(3,1),(4,1)]∧za Tryz.prog 255=some [(0,5),(5,1)]∧za Tryz.prog 220=some [(0,1),(1,1)]∧gm Tryz.prog 140=some [Lf.i IntKind.i64,Lf.i IntKind.i64,Lf.i IntKind.i64,Lf.i IntKind.i64,Lf.i IntKind.i64]∧gm Tryz.prog 255=some [Lf.i IntKind.i64,Lf.i IntKind.i64,Lf.i IntKind.i64,Lf.i IntKind.i64,Lf.i IntKind.i64,Lf.i IntKind.i64]:=⟨trivial,Ωd,Ωd,Ωd,Ωd,Ωd,Ωd,Ωd,Ωd,Ωd,Ωd,Ωd,Ωd,Ωd,Ωd,Ωd,Ωd,Ωd,Ωd,Ωd,Ωd,Ωd,Ωd,Ωd⟩
theorem by3:qP Tryz.prog 3=8:=by kernel_rfl
theorem qN:qP Tryz.prog 22=24:=by kernel_rfl
theorem qlC:qP Tryz.prog 140=40:=by kernel_rfl
def I(n:Int):SV:=.val (.int .i64 n)
def B(b:Bool):SV:=.val (.bool b)
def qA(n:Nat)(u:Nat→Int):SV:=.arr false false n 1 (fun i _=>.val (.int .i64 (u i)))
theorem jQ{a b:Int}(h:a=b):SV.val (Value.int IntKind.i64 a)=SV.val (Value.int IntKind.i64 b):=by rw[h]
theorem wu{a b:Bool}(h:a=b):SV.val (Value.bool a)=SV.val (Value.bool b):=by rw[h]
def hsv(m:Nat)(u:Nat→Int):SV:=.agg [.arr false false m 1 (fun i _=>.val (.int .i64 (u i)))]
def upN(f:Nat→Int)(k:Nat)(x:Int)(i:Nat):Int:=if i=k then x else f i
def pl(f:Nat→Int):List SV:=[.val (.int .i64 (f 0)),.val (.int .i64 (f 1)),.val (.int .i64 (f 2)),.val (.int .i64 (f 3)),.val (.int .i64 (f 4))]
def psv(f:Nat→Int):SV:=.agg (pl f)
def pf(f:Nat→Int)(j:Nat):SV:=.val (.int .i64 (f j))
theorem qou{k:Nat}(h:k<5):k=0∨k=1∨k=2∨k=3∨k=4:=by omega
theorem qny{k:Nat}(h:k<3):k=0∨k=1∨k=2:=by omega
theorem pl_set(f:Nat→Int)(k:Nat)(x:Int):(pl f).set k (.val (.int .i64 x))=pl (upN f k x):=by
 match k with
 |0=>rfl
 |1=>rfl
 |2=>rfl
 |3=>rfl
 |4=>rfl
 |k+5=>simp only[pl,List.set_cons_succ,List.set_nil];simp[upN]
theorem pl_len(f:Nat→Int):(pl f).length=5:=rfl
theorem pl_take(f:Nat→Int):List.take 5 (pl f)=pl f:=rfl
theorem pl_drop(f:Nat→Int):List.drop 5 (pl f)=[]:=rfl
theorem pl_one(f:Nat→Int):allOne (pl f)=true:=rfl
theorem pl_fit(f:Nat→Int):fitS [.i .i64,.i .i64,.i .i64,.i .i64,.i .i64] (pl f)=true:=by kernel_rfl
def eq5(f g:Nat→Int):Prop:=∀i,i<5→f i=g i
instance(f g:Nat→Int):Decidable (eq5 f g):=by unfold eq5;infer_instance
theorem pl_eq(f g:Nat→Int):eqSVs (pl f) (pl g)=decide (eq5 f g):=by
 have e:eq5 f g↔(f 0=g 0∧f 1=g 1∧f 2=g 2∧f 3=g 3∧f 4=g 4):=⟨fun h=>⟨h 0 Ω,h 1 Ω,h 2 Ω,h 3 Ω,h 4 Ω⟩,fun⟨a,b,c,d,e⟩ i hi=>by
  rcases qou hi with rfl|rfl|rfl|rfl|rfl<;>assumption⟩
 rw[Bool.eq_iff_iff,decide_eq_true_eq,e];simp[pl,eqSVs,eqV]
theorem pl_sub(hp:List (Nat×Blk))(f:Nat→Int):SubL hp (pl f) (pl f)=True:=by simp[pl,SubL,Go.Sx.Sub]
theorem pl_old(f:Nat→Int):OldL (pl f)=True:=by simp[pl,OldL,Old]
theorem pl_fresh(f:Nat→Int):FreshL (pl f)=True:=by simp[pl,FreshL,Fresh]
theorem pl_wk(hp:List (Nat×Blk))(m:Nat→Option Nat)(nn:Nat)(sl:Nat→Bool)(f:Nat→Int):WkL hp m nn sl (pl f) (pl f)=True:=by simp[pl,WkL,Wk]
theorem rSl_q100(ag:Bool)(sz:Nat)(z:Option (List Value))(e:TypeId)(k:Nat)(id off n k2:Nat)(kl:IntKind)(l:Int):rSlice (some ⟨ag,sz,z,.slice e k⟩) (.que id off n k2) (some (.val (.int kl l))) none none=.pure (0≤l∧l≤(n:Int)∧(n:Int)=n∧k2=k) (.que id (off+l.toNat) ((n:Int) - l).toNat k):=rfl
theorem qov(x y:Int):∀(i:Nat),i<2→[SV.val (.int .i64 x),SV.val (.int .i64 y)][i]?.getD SV.top=SV.val (.int .i64 (if i=0 then x else y))
 |0,_=>rfl
 |1,_=>rfl
theorem nil_app(l:List SV):[]++l=l:=rfl
theorem all2(P:Nat→Prop):(∀j,j<2→P j)=(P 0∧P 1):=propext ⟨fun h=>⟨h 0 Ω,h 1 Ω⟩,fun⟨a,b⟩ j hj=>by
 have:j=0∨j=1:=by omega
 rcases this with rfl|rfl<;>assumption⟩
theorem all3(P:Nat→Prop):(∀j,j<3→P j)=(P 0∧P 1∧P 2):=propext ⟨fun h=>⟨h 0 Ω,h 1 Ω,h 2 Ω⟩,fun⟨a,b,c⟩ j hj=>by
 rcases qny hj with rfl|rfl|rfl<;>assumption⟩
theorem mul_1(a:Nat):a*1=a:=Nat.mul_one a
theorem zadd(a:Nat):0+a=a:=xb0 a
theorem up_same(f:Nat→Int)(k:Nat)(x:Int):upN f k x k=x:=by simp[upN]
theorem up_up(f:Nat→Int)(k:Nat)(x y:Int):upN (upN f k x) k y=upN f k y:=by funext j;simp only[upN];split<;>rfl
theorem cons_app(a:SV)(l m:List SV):(a :: l)++m=a ::(l++m):=rfl
theorem app_nil'(l:List SV):l++[]=l:=xd3 l
theorem take_0(l:List SV):List.take 0 l=[]:=rfl
theorem drop_0(l:List SV):List.drop 0 l=l:=rfl
theorem pf_j(f:Nat→Int)(j:Nat):pf f j=.val (.int .i64 (f j)):=rfl
def QV:=
 An @Go.Tn.pf_j <|
 An @Go.Tn.pl_set <|
 An @Go.Tn.pl_len <|
 An @Go.Tn.pl_take <|
 An @Go.Tn.pl_drop <|
 An @Go.Tn.pl_one <|
 An @Go.Tn.pl_fit <|
 An @Go.Tn.pl_eq <|
 An @Go.Tn.pl_sub <|
 An @Go.Tn.pl_old <|
 An @Go.Tn.pl_fresh <|
 An @Go.Tn.pl_wk <|
 An @Go.Tn.rSl_q100 <|
 An @Go.Tn.nil_app <|
 An @Go.Tn.mul_1 <|
 An @Go.Tn.zadd <|
 An @Go.Tn.up_same <|
 An @Go.Tn.up_up <|
 An @Go.Tn.all2 <|
 An @Go.Tn.all3 <|
 An @Go.Tn.cons_app <|
 An @Go.Tn.app_nil' <|
 An @Go.Tn.take_0 <|
 @Go.Tn.drop_0
def gK(b:Nat→Bool)(i:Nat):Nat→Int
 |0=>-1
 |k+1=>if b i=true then i else gK b (i+1) k
theorem qcw(b:Nat→Bool):∀(k i:Nat),gK b i k<0↔∀j,i≤j→j<i+k→b j=false
 |0,i=>by simp[gK];intro j h1 h2;omega
 |k+1,i=>by
  simp only[gK];split
  ·rename_i h
   constructor
   ·intro h';omega
   ·intro h';have:=h' i Ω Ω;rw[h]at this;cases this
  ·rename_i h
   rw[qcw b k (i+1)];constructor
   ·intro h' j h1 h2
    by_cases e:j=i
    ·subst e;simpa using h
    ·exact h' j Ω Ω
   ·intro h' j h1 h2;exact h' j Ω Ω
def QW(b:Nat→Bool)(m:Nat):Prop:=∃i,i<m∧b i=true
instance(b:Nat→Bool)(m:Nat):Decidable (QW b m):=by unfold QW;infer_instance
theorem QX(b:Nat→Bool)(m:Nat):(0≤gK b 0 m)↔QW b m:=by
 have h:=qcw b m 0;constructor
 ·intro h0
  refine xf9 fun hc=>?_;have:gK b 0 m<0:=h.2 fun j _ hj=>by
   cases e:b j with
   |false=>rfl
   |true=>exact absurd ⟨j,Ω,e⟩ hc
  omega
 ·rintro⟨i,hi,hb⟩
  refine Int.not_lt.1 fun hc=>?_;have:=h.1 hc i (xb6 _) Ω;rw[hb]at this;cases this
def QN:=An Tryz.results11<|An Tryz.results12<|An Tryz.results129<|An Tryz.results134<|An Tryz.results145<|An Tryz.results15<|An Tryz.results151<|An Tryz.results158<|An Tryz.results16<|An Tryz.results162<|An Tryz.results163<|An Tryz.results164<|An Tryz.results166<|An Tryz.results167<|An Tryz.results168<|An Tryz.results169<|An Tryz.results17<|An Tryz.results170<|An Tryz.results172<|An Tryz.results178<|An Tryz.results179<|An Tryz.results18<|An Tryz.results182<|An Tryz.results184<|An Tryz.results185<|An Tryz.results186<|An Tryz.results187<|An Tryz.results188<|An Tryz.results201<|An Tryz.results202<|An Tryz.results216<|An Tryz.results235<|An Tryz.results24<|An Tryz.results25<|An Tryz.results256<|An Tryz.results257<|An Tryz.results26<|An Tryz.results262<|An Tryz.results27<|An Tryz.results272<|An Tryz.results273<|An Tryz.results278<|An Tryz.results279<|An Tryz.results28<|An Tryz.results280<|An Tryz.results284<|An Tryz.results286<|An Tryz.results287<|An Tryz.results288<|An Tryz.results289<|An Tryz.results29<|An Tryz.results290<|An Tryz.results291<|An Tryz.results302<|An Tryz.results304<|An Tryz.results350<|An Tryz.results351<|An Tryz.results356<|An Tryz.results357<|An Tryz.results359<|An Tryz.results383<|An Tryz.results389<|An Tryz.results394<|An Tryz.results4<|An Tryz.results405<|An Tryz.results66<|An Tryz.results70<|An Tryz.results73<|An Tryz.results75<|An Tryz.results76<|An Tryz.results77<|An Tryz.results78<|An Tryz.results79<|An Tryz.results80<|An Tryz.results81<|An Tryz.results90<|An Tryz.results91<|An Tryz.results92<|An Tryz.results93<|An Tryz.results94<|An Tryz.results95 Tryz.results99
def QT:=An QV<|An @psv.eq_1<|An @hsv.eq_1<|An @B.eq_1<|An @I.eq_1<|An by3<|An RZ<|An @eq_self.{1} TY
theorem qow(m:Nat)(u:Nat→Int)(g:Nat)(caps:List SV)(ho:OldL caps)(b:Nat→Bool)(hm:m≤1000000)(hg:∀i,i<m→qf Tryz.prog g (.val (.int .i64 (u i)) :: caps) (B (b i))):qf Tryz.prog 280 [qA m u,.fn (.func g) [] caps] (I (gK b 0 m)):=by
 refine qg Tryz.func280 rfl Ωd follows Ωd _ _ (by rw[Tryz.ntmps280];simp) ΩR ?_
 conv=>arg 4;unfold qA
 (simp -dsimp only[↓RP,RQ,xa0,reduceIte,reduceCtorEq,xa1,xa2,xa3,xa4,TY,Tryz.results280]);refine qn (fun i=>i≤m∧gK b 0 m=gK b i (m - i)) (fun i=>⟨[(0,.arr false false m 1 (fun i _=>.val (.int .i64 (u i)))),(1,.fn (.func g) [] caps),(7,.val (.int .i64 m)),(8,.val (.int .i64 i))],[],0⟩) (fun i=>m - i) 0 ⟨xb6 _,rfl⟩ (gR [] [] ?_ ?_ ?_) fun i hi=>?_
 ·(simp -dsimp only[↓RP,RQ,xa0,reduceIte,reduceCtorEq,xa1,xa2,xa3,xa4,QV]);all_goals (try simp[wkL_refl caps ho,QV])
 iterate 2 focus(simp -dsimp only[↓RP,RQ,xa0,reduceIte,reduceCtorEq,xa1,xa2,xa3,xa4,QV])
 obtain⟨hi,he⟩:=hi;have e1:∀k,m - i=k+1→gK b i (m - i)=if b i=true then(i:Int)else gK b (i+1) k:=fun k hk=>by rw[hk];rfl
 (repeat' (first|refine sD ?_ ?_<;>intro _|refine aA ?_|(simp -dsimp only[↓RP,RQ,xa0,reduceIte,reduceCtorEq,xa1,xa2,xa3,xa4,QT,QN])))
 ·rename_i hlt
  have hlt:i<m:=by omega
  have e2:=e1 (m -(i+1)) Ω;refine qj (hg i hlt) (by(simp -dsimp only[↓RP,RQ,xa0,reduceIte,reduceCtorEq,xa1,xa2,xa3,xa4,QV,I]);all_goals (try simp[subL_refl caps ho,QV])) Ωn ?_;(repeat' (first|refine sD ?_ ?_<;>intro _|refine aA ?_|(simp -dsimp only[↓RP,RQ,xa0,reduceIte,reduceCtorEq,xa1,xa2,xa3,xa4,QT,QN])))
  ·rename_i h
   refine jQ ?_;rw[he,e2,if_pos h]
  ·rename_i h1
   refine⟨i+1,⟨Ω,?_⟩,Ω,gR [] [] ?_ ?_ ?_⟩
   ·rw[he,e2,if_neg (by simp[h1])]
   ·(simp -dsimp only[↓RP,RQ,xa0,reduceIte,reduceCtorEq,xa1,xa2,xa3,xa4,QV]);all_goals (try simp[wkL_refl caps ho,QV])
   iterate 2 focus(simp -dsimp only[↓RP,RQ,xa0,reduceIte,reduceCtorEq,xa1,xa2,xa3,xa4,QV])
 ·rename_i hlt
  refine jQ ?_;have:m - i=0:=by omega
  rw[he,this];rfl
theorem qnz(m:Nat)(u:Nat→Int)(g:Nat)(caps:List SV)(ho:OldL caps)(b:Nat→Bool)(hm:m≤1000000)(hg:∀i,i<m→qf Tryz.prog g (.val (.int .i64 (u i)) :: caps) (B (b i))):qf Tryz.prog 167 [qA m u,.fn (.func g) [] caps] (B (decide (QW b m))):=by
 refine qg Tryz.func167 rfl Ωd follows Ωd _ _ (by rw[Tryz.ntmps167];simp) ΩR ?_;(simp -dsimp only[↓RP,RQ,xa0,reduceIte,reduceCtorEq,xa1,xa2,xa3,xa4,TY,QV,QN]);refine qj (qow m u g caps ho b hm hg) (by(simp -dsimp only[↓RP,RQ,xa0,reduceIte,reduceCtorEq,xa1,xa2,xa3,xa4,QV,qA]);all_goals (try simp[subL_refl caps ho,QV])) Ωp ?_;(repeat' (first|refine sD ?_ ?_<;>intro _|refine aA ?_|simp -dsimp only[↓RP,RQ,xa0,reduceIte,reduceCtorEq,xa1,xa2,xa3,xa4,I,B,QV,TY,QN]));refine wu ?_;rw[Bool.eq_iff_iff];simp[←QX]
def wv(lo hi:Int):List SV:=[.ref false 1 (fun _=>.val (.int .i64 lo)),.ref false 1 (fun _=>.val (.int .i64 hi))]
theorem Yu(lo hi:Int):OldL (wv lo hi):=by simp[wv,OldL,Old]
theorem qox(n lo hi:Int):qf Tryz.prog 168 (.val (.int .i64 n) :: wv lo hi) (B (decide (n<lo) || decide (hi<n))):=by
 refine qg Tryz.func168 rfl Ωd follows Ωd _ _ (by rw[Tryz.ntmps168];simp[wv]) (by simp[OldL,Old,wv]) ?_;unfold wv B;(repeat' (first|refine sD ?_ ?_<;>intro _|refine aA ?_|simp -dsimp only[↓RP,RQ,xa0,reduceIte,reduceCtorEq,xa1,xa2,xa3,xa4,TY,Tryz.results168]))
 all_goals (refine wu ?_;rw[Bool.eq_iff_iff];simp;omega)
def wR(u:Nat→Int)(m:Nat)(lo hi:Int):Prop:=∀i,i<m→lo≤u i∧u i≤hi
instance(u:Nat→Int)(m:Nat)(lo hi:Int):Decidable (wR u m lo hi):=by unfold wR;infer_instance
theorem J5(u:Nat→Int)(m:Nat)(lo hi:Int):QW (fun i=>decide (u i<lo) || decide (hi<u i)) m↔¬wR u m lo hi:=by
 constructor
 ·rintro⟨i,h1,h2⟩ h
  have:=h i h1;simp at h2;omega
 ·intro h
  refine xf9 fun hc=>h fun i hi=>?_;refine xf9 fun hd=>hc ⟨i,hi,?_⟩;simp;omega
theorem c76(m:Nat)(u:Nat→Int)(lo hi:Int)(hm:m≤1000000):qf Tryz.prog 76 [I lo,I hi,qA m u] (B (decide (wR u m lo hi))):=by
 refine qg Tryz.func76 rfl Ωd follows Ωd _ _ (by rw[Tryz.ntmps76];simp) Ωy ?_;unfold I B;(simp -dsimp only[↓RP,RQ,xa0,reduceIte,reduceCtorEq,xa1,xa2,xa3,xa4,TY,Tryz.results76]);refine qj (qnz m u 168 (wv lo hi) (Yu lo hi) (fun i=>decide (u i<lo) || decide (hi<u i)) hm fun i _=>qox (u i) lo hi) (by(simp -dsimp only[↓RP,RQ,xa0,reduceIte,reduceCtorEq,xa1,xa2,xa3,xa4,QV,qA,wv,I]);all_goals (try simp[wv,qA])) Ωn ?_;(repeat' (first|refine sD ?_ ?_<;>intro _|refine aA ?_|simp -dsimp only[↓RP,RQ,xa0,reduceIte,reduceCtorEq,xa1,xa2,xa3,xa4,B,TY,Tryz.results76]));refine wu ?_;rw[Bool.eq_iff_iff];have:=J5 u m lo hi;by_cases h:wR u m lo hi
 ·have h':¬QW (fun i=>decide (u i<lo) || decide (hi<u i)) m:=fun x=>this.1 x h
  rw[decide_eq_true h,decide_eq_false h'];simp
 ·rw[decide_eq_false h,decide_eq_true (this.2 h)];simp
theorem qcx(x lo hi:Int):wR (fun _=>x) 1 lo hi↔lo≤x∧x≤hi:=⟨fun h=>h 0 Ω,fun h i _=>h⟩
theorem J6(x lo hi:Int):qf Tryz.prog 76 [I lo,I hi,qA 1 (fun _=>x)] (B (decide (lo≤x∧x≤hi))):=by
 have:=c76 1 (fun _=>x) lo hi Ω;simp only[qcx]at this;exact this
def prd(u:Nat→Int):Nat→Int
 |0=>1
 |k+1=>prd u k*(u k+1)
theorem qhc{u:Nat→Int}{m:Nat}(h:∀i,i<m→1≤u i∧u i≤12):∀k,k≤m→1≤prd u k∧prd u k≤13^k
 |0,_=>⟨by simp[prd],by simp[prd]⟩
 |k+1,hk=>by
  have ih:=qhc h k Ω;have hu:=h k Ω;simp only[prd];constructor
  ·have:=Int.mul_le_mul ih.1 (Ω:(1:Int)≤u k+1) Ω Ω;omega
  ·have:=Int.mul_le_mul ih.2 (Ω:u k+1≤13) Ω (by have:=ih.1;have:=ih.2;omega)
   rw[Int.pow_succ];exact this
theorem QY{u:Nat→Int}{m:Nat}(h:∀i,i<m→1≤u i∧u i≤12)(hm:m≤5){k:Nat}(hk:k≤m):1≤prd u k∧prd u k≤371293:=by
 have⟨h1,h2⟩:=qhc h k hk;have:∀j:Nat,j≤5→(13:Int)^j≤371293:=fun j hj=>by
  have:j=0∨j=1∨j=2∨j=3∨j=4∨j=5:=by omega
  rcases this with rfl|rfl|rfl|rfl|rfl|rfl<;>decide
 exact⟨h1,Int.le_trans h2 (this k Ω)⟩
theorem jL(u:Nat→Int)(k:Nat):prd u (k+1)=prd u k*(u k+1):=rfl
def ckH(m:Nat)(u:Nat→Int):Int:=if ¬(1≤m∧m≤5)then 6 else if ¬wR u m 1 12 then 3 else if 1000<prd u m then 2 else 0
theorem GL{m:Nat}{u:Nat→Int}(h:ckH m u=0):1≤m∧m≤5∧(∀i,i<m→1≤u i∧u i≤12)∧prd u m≤1000:=by
 unfold ckH at h;by_cases h1:1≤m∧m≤5
 ·rw[if_neg (fun e=>e h1)]at h
  by_cases h2:wR u m 1 12
  ·rw[if_neg (fun e=>e h2)]at h
   by_cases h3:1000<prd u m
   ·rw[if_pos h3]at h;omega
   ·exact⟨h1.1,h1.2,h2,Ω⟩
  ·rw[if_pos h2]at h;omega
 ·rw[if_pos h1]at h;omega
theorem qoy(m:Nat)(u:Nat→Int)(hm:m≤5)(hu:∀i,i<m→1≤u i∧u i≤12):qf Tryz.prog 158 [hsv m u] (I (prd u m)):=by
 refine qg Tryz.func158 rfl Ωd follows Ωd _ _ (by rw[Tryz.ntmps158];simp) Ωy ?_;unfold hsv I;(repeat' (first|refine sD ?_ ?_<;>intro _|refine aA ?_|(simp -dsimp only[↓RP,RQ,xa0,reduceIte,reduceCtorEq,xa1,xa2,xa3,xa4,jL,QT,QN])));refine qn (fun(k:Nat)=>k≤m) (fun k=>⟨[(3,.val (.int .i64 (prd u k))),(7,.arr false false m 1 (fun i _=>.val (.int .i64 (u i)))),(8,.val (.int .i64 (m:Nat))),(9,.val (.int .i64 (k:Nat)))],[],0⟩) (fun k=>m - k) 0 (xb6 _) (gR [] [] ?_ ?_ ?_) fun k hk=>?_
 iterate 3 focus((simp -dsimp only[↓RP,RQ,xa0,reduceIte,reduceCtorEq,xa1,xa2,xa3,xa4,QV,prd]);all_goals (try simp[QV]))
 have b0:=QY hu hm hk;by_cases hlt:k<m
 ·have b1:=QY hu hm (show k+1≤m from hlt)
  rw[jL]at b1;have hk2:=hu k hlt;(repeat' (first|refine sD ?_ ?_<;>intro _|refine aA ?_|(simp -dsimp only[↓RP,RQ,xa0,reduceIte,reduceCtorEq,xa1,xa2,xa3,xa4,jL,QT,QN])))
  all_goals try exact Ωb
  refine⟨k+1,Ω,Ω,gR [] [] ?_ ?_ ?_⟩
  iterate 3 focus((simp -dsimp only[↓RP,RQ,xa0,reduceIte,reduceCtorEq,xa1,xa2,xa3,xa4,QV,jL]);all_goals (try simp[QV]))
 ·have hkm:m=k:=by omega
  subst hkm;(repeat' (first|refine sD ?_ ?_<;>intro _|refine aA ?_|(simp -dsimp only[↓RP,RQ,xa0,reduceIte,reduceCtorEq,xa1,xa2,xa3,xa4,jL,QT,QN])))
  all_goals try exact Ωb
end Go.Tn
end
