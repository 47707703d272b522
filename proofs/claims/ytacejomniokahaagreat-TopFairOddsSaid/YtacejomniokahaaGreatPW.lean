/- A part of the proof. -/
import Derived.Test.YtacejomniokahaaGreatProg
import Derived.Test.YtacejomniokahaaGreatPV
import Derived.Test.YtacejomniokahaaGreatPJ
import Derived.Test.YtacejomniokahaaGreatPI
import Derived.Test.YtacejomniokahaaGreatPP
open Nat renaming reduceAdd→xa1,reduceEqDiff→xa2,le_refl→xa5,le_of_ble_eq_true→xa7,add_zero→xb1,add_assoc→xb2,le_trans→xc1
open List renaming length_append→xc8,length_singleton→xd1,mem_cons_self→xd5,getElem?_cons_zero→xd6,length_map→xe1
open Bool renaming and_eq_true→xe6,false_eq_true→xe7,true_and→xf0,and_true→xf1,or_false→xf3
open Option renaming map_some→xg1
set_option linter.unusedVariables false
set_option linter.unusedSimpArgs false
set_option linter.defProp false
set_option maxRecDepth 1000000
set_option maxHeartbeats 16000000
section
namespace Go.Sx
open Go.Proofs
open Go.RowKit Go.Tn
noncomputable section
def y67:Bool:=vB (ZY (Za Tryz.prog X1) 100000 Tryz.f67 ((jJ flT 67).getD []) [] yB)
theorem qpJ:y67=true:=by kernel_rfl
theorem qnw:qb Tryz.prog 67 [] (.val (.bool true)):=vC follows qlv Tryz.func67 (L:=(jJ flT 67).getD []) rfl 100000 qpJ
end
end Go.Sx
end
section
namespace Go.Sx
open Go.Proofs
open Go.RowKit Go.Tn
noncomputable section
def y68:Bool:=vB (ZY (Za Tryz.prog X1) 100000 Tryz.f68 ((jJ flT 68).getD []) [] yB)
theorem qpK:y68=true:=by kernel_rfl
theorem qnx:qb Tryz.prog 68 [] (.val (.bool true)):=vC follows qlv Tryz.func68 (L:=(jJ flT 68).getD []) rfl 100000 qpK
end
end Go.Sx
end
section
namespace Go.Sx
open Go.Proofs
open Go.RowKit Go.Tn
noncomputable section
def y69:Bool:=vB (ZY (Za Tryz.prog X1) 100000 Tryz.f69 ((jJ flT 69).getD []) [] yB)
theorem qpL:y69=true:=by kernel_rfl
theorem qny:qb Tryz.prog 69 [] (.val (.bool true)):=vC follows qlv Tryz.func69 (L:=(jJ flT 69).getD []) rfl 100000 qpL
end
end Go.Sx
end
section
namespace Go.Tn
open Go.Proofs
open Go.Sx
theorem c12:qb Tryz.prog 12 [] (B true):=by
 refine qc Tryz.func12 rfl Ωb follows Ωb _ _ (by rw[Tryz.ntmps12];simp) (by simp[OldL]) ?_;have h1:=qnw;have h2:=qnx;have h3:=qny;unfold B;(simp -dsimp only[↓RP,RQ,seval,TY,Tryz.results12]);refine qh h1 ΩT (by simp[Fresh]) ?_;(simp -dsimp only[↓RP,RQ,seval,TY,Tryz.results12]);refine qh h2 ΩT (by simp[Fresh]) ?_;(simp -dsimp only[↓RP,RQ,seval,TY,Tryz.results12]);refine qh h3 ΩT (by simp[Fresh]) ?_;(simp -dsimp only[↓RP,RQ,seval,TY,Tryz.results12])
end Go.Tn
end
section
namespace Go.Sx
open Go.RowKit
noncomputable section
variable{ρ:Q}
def J8(M post:Code):List Code→Code
 |[]=>M.seq post
 |c :: l=>c.seq (J8 M post l)
abbrev MX:=Tr 3 SV→Tr 6 XB→Nat→XK→R
def qlw(run:XC)(L:FL)(mh:MX)(post:Code)(l:List Code)(fr:Tr 3 SV)(hp:Tr 6 XB)(nid:Nat)(f:XK):R:=
 List.rec (motive:=λ_=>Tr 3 SV→Tr 6 XB→Nat→R) (λfr hp nid=>mh fr hp nid λe fr hp nid=>match e with
  |.normal=>run L .top post fr hp nid f
  |.exit i=>f (.exit i) fr hp nid
  |.ret=>f .ret fr hp nid) (λc _ ih fr hp nid=>run L .top c fr hp nid λe fr hp nid=>match e with
  |.normal=>ih fr hp nid
  |.exit i=>f (.exit i) fr hp nid
  |.ret=>f .ret fr hp nid) l fr hp nid
def qsh(E:XE)(rs:List ResultVar)(k:SV→Tr 6 XB→Nat→R):XK
 |.exit _,_,_,_=>.bad 330 0
 |.normal,fr,hp,nid=>yz E fr hp rs λm=>svK (oneSV m) λs=>k s hp nid
 |.ret,fr,hp,nid=>yz E fr hp rs λm=>svK (oneSV m) λs=>k s hp nid
def qpM(E:XE)(n:Nat)(fn:Func)(L:FL)(mh:MX)(pre:List Code)(post:Code)(args:List SV)(hp:Tr 6 XB)(nid:Nat)(k:SV→Tr 6 XB→Nat→R):R:=
 qg 302 (Nat.ble args.length fn.ntmps) (Yp args 0 .nil λfr=>qlw (Gb E n) L mh post pre fr hp nid (qsh E fn.results.toList k))
def qlx(P:Program)(L:FL)(M:Code)(mh:MX):Prop:=∀(ρ:Q)(LM:Nat→Option Loop)(fs:List Fr)(lo:Nat)(st:St)(fr:Tr 3 SV)(hp:Tr 6 XB)(nid:Nat)(f:XK)(K:Ex→St→Prop),StR LM fr hp nid st→mh fr hp nid f=.ok ρ→
 (∀e fr' hp' nid' st',StR LM fr' hp' nid' st'→f e fr' hp' nid'=.ok ρ→K e st')→vc P ⟨fs,lo,false,qV L⟩ M st K
section
variable{P:Program}{E:XE}
theorem Wm{run:XC}(hrun:vA P run){L:FL}{mh:MX}{M post:Code}(hM:qlx P L M mh){LM:Nat→Option Loop}{fs:List Fr}{lo:Nat}{f:XK}{K:Ex→St→Prop}(hk:∀e fr' hp' nid' st',StR LM fr' hp' nid' st'→f e fr' hp' nid'=.ok ρ→K e st'):∀(l:List Code)(st:St)(fr:Tr 3 SV)(hp:Tr 6 XB)(nid:Nat),StR LM fr hp nid st→qlw run L mh post l fr hp nid f=.ok ρ→vc P ⟨fs,lo,false,qV L⟩ (J8 M post l) st K
 |[],st,fr,hp,nid,hs,h=>by
  refine hM ρ LM fs lo st fr hp nid _ _ hs h λe fr' hp' nid' st' hs' h'=>?_;cases e with
  |normal=>exact hrun ρ LM fs lo false L .top post st' fr' hp' nid' f K rfl hs' h' hk
  |exit i=>exact hk _ _ _ _ _ hs' h'
  |ret=>exact hk _ _ _ _ _ hs' h'
 |c :: l,st,fr,hp,nid,hs,h=>by
  refine hrun ρ LM fs lo false L .top c st fr hp nid _ _ rfl hs h λe fr' hp' nid' st' hs' h'=>?_;cases e with
  |normal=>exact Wm hrun hM hk l st' fr' hp' nid' hs' h'
  |exit i=>exact hk _ _ _ _ _ hs' h'
  |ret=>exact hk _ _ _ _ _ hs' h'
theorem qnz(hm:P.follows .mixedOrders=true)(hE:XOk P E)(hf:wQ P E){g:Nat}{fn:Func}{L:FL}{mh:MX}{M post:Code}{pre:List Code}(hc:qkj P g fn L (J8 M post pre))(hM:qlx P L M mh)(n:Nat):Qu P g (qpM E n fn L mh pre post):=by
 intro ρ LM O args hp k st K hH h hk;unfold qpM at h;obtain⟨q,h⟩:=qa h;obtain⟨fr,h1,h2⟩:=Qd h;refine Q5 (qV L) hm hc.at_ hc.body hc.name hc.ok (xa7 q) λout=>?_;have key:∀(fr3:Tr 3 SV)(hp3:Tr 6 XB)(nid3:Nat)(st3:St),StR LM fr3 hp3 nid3 st3→(yz E fr3 hp3 fn.results.toList λm=>svK (oneSV m) λs=>k s hp3 nid3)=.ok ρ→resultsVC P fn.results.toList st3 (λm=>K ⟨st.fr,st3.hp,st3.nid⟩ (oneSV m)):=λfr3 hp3 nid3 st3 h3 h=>by
  refine Qe hE h3 h λm h=>?_;rw[QW]at h;obtain⟨a,b,c⟩:=h3;rw[c];exact hk _ _ _ _ b h
 refine Wm (qfh hm hE hf n) hM (λe fr3 hp3 nid3 st3 h3 h=>?_) pre ⟨argFr 0 args,st.hp,st.nid⟩ fr hp st.nid ⟨h1,hH,rfl⟩ h2;cases e with
 |exit i=>cases h
 |normal=>exact key _ _ _ _ h3 h
 |ret=>exact key _ _ _ _ h3 h
end
end
end Go.Sx
end
section
namespace Go.Sx
open Go.Proofs
open Go.RowKit
noncomputable section
def sqL:Code→Code
 |.seq a _=>a
 |c=>c
def sqR:Code→Code
 |.seq _ b=>b
 |c=>c
def sqN:Nat→Code→List Code
 |0,_=>[]
 |n+1,c=>sqL c :: sqN n (sqR c)
def sqB:Nat→Code→Code
 |0,c=>c
 |n+1,c=>sqB n (sqR c)
def Zb(f:Func):Code:=f.body.getD .skip
def qly(l:List Nat)(fr:Tr 3 SV)(g:Tr 3 SV→R):R:=List.rec (motive:=λ_=>Tr 3 SV→R) g (λt _ ih fr=>zl (some .top) 22 fr t ih) l fr
def qfw(p:Value→SV→Bool)(es:List (Value×Option SV)):List (Value×Option SV):=List.rec [] (λa _ ih=>match a with
 |(k,some s)=>(k,Bool.rec none (some s) (p k s)) :: ih
 |(k,none)=>(k,none) :: ih) es
def jL(lay:Bool)(k:Value)(_:SV):Bool:=match k with
 |.agg a=>(match a.toList with
  |[_,.bool b]=>b == lay
  |_=>false)
 |_=>false
def qpN:Code:=sqL (sqB 7 (Zb Tryz.f104))
def vp:List Nat:=[10,73,74,75,76,77,78,79,80,81,82,83,84,85,86,87,88,89,90]
def qlz:MX:=λfr hp nid f=>match qA fr 1,qA fr 9 with
 |.ptr b 0,.val (.bool lay)=>(match hp.find b with
  |some (.cells 175 [.ptr d 0])=>(match hp.find d with
   |some (.cells 313 [a0,a1,a2,a3,a4,a5,a6,a7,a8,a9,a10,a11,a12,a13,a14,a15,a16,a17,a18,a19,a20,a21,.mp mid])=>(match hp.find mid with
    |some (.map true [.i .i64,.b] es)=>qly vp fr λfr=>zl (some (.tup [.val (.bool false)])) 22 fr 78 λfr=>zl (some (.val (.bool false))) 22 fr 79 λfr=>zl (some (.map true [.i .i64,.b] (qfw (jL lay) es))) 22 hp mid λhp=>qj (nid+(20*es.length+100)) λnid=>f .normal fr hp nid
    |_=>.bad 600 0)
   |_=>.bad 601 0)
  |_=>.bad 602 0)
 |_,_=>.bad 603 0
end
end Go.Sx
end
section
namespace Go.Tn
open Go.Proofs
open Go.Sx Go.RowKit
variable{fr:List (Nat×SV)}{hp:List (Nat×Blk)}{dom:Value→Bool}{stamp:Value→Nat}{p:Value→SV→Bool}{k:Value}
theorem TYs:True∧qk Tryz.prog 309=some ⟨false,1,some [.map none],.map 315 3⟩∧qD Tryz.prog 309=some ⟨true,[.i .i64,.b],.val (.int .i64 0)⟩∧qk Tryz.prog 313=some ⟨true,23,some [.int .i64 0,.slice none 0 0,.int .i64 0,.int .i64 0,.int .i64 0,.int .i64 0,.int .i64 0,.int .i64 0,.int .i64 0,.int .i64 0,.int .i64 0,.int .i64 0,.int .i64 0,.int .i64 0,.int .i64 0,.int .i64 0,.int .i64 0,.int .i64 0,.int .i64 0,.int .i64 0,.int .i64 0,.int .i64 0,.map none],.struct [(0,2,some true),(2,10,some true),(12,10,some true),(22,1,some false)]⟩∧qw Tryz.prog 313=some [(0,2),(2,10),(12,10),(22,1)]∧qk Tryz.prog 315=some ⟨true,2,some [.int .i64 0,.bool false],.struct [(0,1,some false),(1,1,some false)]⟩∧qw Tryz.prog 315=some [(0,1),(1,1)]∧zE Tryz.prog 315=some [.i .i64,.b]∧qk Tryz.prog 175=some ⟨false,1,some [.pointer none],.other⟩:=⟨trivial,Ωb,Ωb,Ωb,Ωb,Ωb,Ωb,Ωb,Ωb⟩
section
variable{P:Program}{O:Ctx}
theorem qdt{op:Op}{st:St}{K:St→SV→Prop}(h:Under st.hp st.nid→OpVC P O op st K):OpVC P O op st K:=λbase okc ns r outs a w o ho hi=>h hi.keys base okc ns r outs a w o ho hi
theorem qnA{J:Prop}{j:Tag J}{d:Option Tmp}{id:Nat}{K:St→Prop}{g:Tag K}{t:TypeId}{x:Operand}{o:Tag (Op.range t x)}{mid:Nat}{fit:Value→Bool}{get:Value→SV}{mi:vb}(hJ:J)(hx:env (Go.Sx.look fr) x=.mp mid)(ht:qD P t=some mi)(hb:blk hp mid=some (.map fit dom get))
  (h:Under hp id→∀(stamp:Value→Nat)(clk:Nat),(∀k,dom k=true→stamp k<clk)→(∀k k',dom k=true→dom k'=true→stamp k=stamp k'→k=k')→
   K (St.put ⟨fr,(id,.iter mid clk [] clk) :: setBlk hp mid (.mapS fit dom get stamp clk),id+1⟩ d (.ptr id 0))):qfW P O j o d id fr hp K g:=⟨hJ,qdt λhU=>VK hx ht hb (h hU)⟩
theorem qbJ{ρ:Q}:∀{l:List Nat}{fr:Tr 3 SV}{g:Tr 3 SV→R},qly l fr g=.ok ρ→∃fr',(∀t,qA fr' t=if t∈l then .top else qA fr t)∧g fr'=.ok ρ
 |[],fr,g,h=>⟨fr,λt=>by simp,h⟩
 |a :: l,fr,g,h=>by
  have h:zl (some .top) 22 fr a (λfr=>qly l fr g)=.ok ρ:=h;obtain⟨f1,h1,h⟩:=qH _ _ _ _ h;obtain⟨f2,h2,h⟩:=qbJ (l:=l) h;refine⟨f2,λt=>?_,h⟩;rw[h2];have e:qA f1 t=if t=a then .top else qA fr t:=by
   unfold qA;rw[h1 t];by_cases c:t=a
   ·rw[if_pos c,if_pos c]
   ·rw[if_neg c,if_neg c]
  by_cases c:t∈l
  ·rw[if_pos c,if_pos (List.mem_cons_of_mem _ c)]
  ·rw[if_neg c,e]
   by_cases c2:t=a
   ·rw[if_pos c2,if_pos (by rw[c2];exact xd5)]
   ·rw[if_neg c2,if_neg (λh=>(List.mem_cons.1 h).elim c2 c)]
def qdu(l:List Nat)(F:List (Nat×SV)):List (Nat×SV):=l.map (λt=>(t,SV.top))++F
theorem kb{F:List (Nat×SV)}{t:Nat}:∀{l:List Nat},Go.Sx.look (qdu l F) t=if t∈l then .top else Go.Sx.look F t
 |[]=>by simp[qdu]
 |a :: l=>by
  show Go.Sx.look ((a,SV.top) :: qdu l F) t=_;have ih:=kb (F:=F) (t:=t) (l:=l);simp only[Go.Sx.look];by_cases c:t=a
  ·rw[if_pos c,if_pos (by rw[c];exact xd5)]
  ·rw[if_neg c,ih]
   by_cases d:t∈l
   ·rw[if_pos d,if_pos (List.mem_cons_of_mem _ d)]
   ·rw[if_neg d,if_neg (λh=>(List.mem_cons.1 h).elim c d)]
theorem qlA{r r2:Nat→Option Nat}{N N2:Nat→Prop}{G G2:Bool→Nat→Prop}{w w2:World}{b:Value}{v:Value}(h:Rep r N G w (.tup [.val b]) v):Rep r2 N2 G2 w2 (.tup [.val b]) v:=by
 cases h with
 |tup _ cs hl hr=>
  refine .tup _ cs hl λi sv hi=>?_;have h:=hr i sv hi;rcases i with _|i
  ·simp only[xd6,Option.some.injEq]at hi
   subst hi;generalize cs.getD 0 undef=x at h;cases h;exact .val _
  ·simp at hi
theorem qpO{P:Program}{O:Ctx}{J:Prop}{j:Tag J}{d:Option Tmp}{id:Nat}{K:St→Prop}{g:Tag K}{x:Operand}{o:Tag (Op.next x false)}{iid mid clk:Nat}{seen:List Nat}{fit:Value→Bool}{get:Value→SV}(hJ:J)(hx:env (Go.Sx.look fr) x=.ptr iid 0)(hbi:blk hp iid=some (.iter mid clk seen clk))(hbm:blk hp mid=some (.mapS fit dom get stamp clk))
  (h1:∀k,fit k=true→dom k=true→stamp k∉seen→K (St.put ⟨fr,setBlk hp iid (.iter mid clk (seen++[stamp k]) clk),id⟩ d (.tup [.val (.bool true),.val k,get k])))
  (h2:(∀k,dom k=true→stamp k∈seen)→∃st2,Weak O ⟨fr,hp,id⟩ st2∧id≤st2.nid∧K (St.put st2 d (.tup [.val (.bool false)]))):qfW P O j o d id fr hp K g:=by
 refine⟨hJ,λbase okc ns r outs a w oo ho hi=>?_⟩;obtain⟨v,w',e1,st',r',res,e2,e3,e4,e5⟩:=Y7 (P:=P) (O:=O) (st:=⟨fr,hp,id⟩) (K:=λst' res=>(res≠.tup [.val (.bool false)]∧K (st'.put d res))∨(res=.tup [.val (.bool false)]∧∃st2,Weak O st' st2∧st'.nid≤st2.nid∧K (st2.put d (.tup [.val (.bool false)])))) hx hbi hbm (λk a b c=>.inl ⟨Ωj,h1 k a b c⟩) (λhh=>.inr ⟨rfl,h2 hh⟩) base okc ns r outs a w oo ho hi;rcases e2 with⟨_,e2⟩|⟨rfl,st2,hw,hn,hk⟩
 ·exact⟨v,w',e1,st',r',res,e2,e3,e4,e5⟩
 ·obtain⟨r2,hi2⟩:=hw _ _ _ _ _ _ ⟨r',e4⟩
  exact⟨v,w',e1,st2,r2,_,hk,xc1 e3 hn,hi2,qlA e5⟩
end
theorem YH{O:Ctx}{fr':List (Nat×SV)}{hp':List (Nat×Blk)}{nid nid':Nat}(hn:nid≤nid')(hf:∀t,Go.Sx.look fr' t=.top∨Go.Sx.look fr' t=Go.Sx.look fr t)(hh:SubHp hp hp'):Weak O ⟨fr,hp,nid⟩ ⟨fr',hp',nid'⟩:=by
 refine Weak.trans (Q0 O ⟨fr,hp,nid⟩ nid' hn) ?_;rintro base okc ns outs a w ⟨r,h⟩;have hs:=h.sat.sub hh;have h2:InvR O base okc ns nid' r outs (St.put {({ fr:=fr,hp:=hp,nid:=nid' }:St)with hp:=hp' } none undefSV) (a.put none undef) w:=h.step hs (λid x hx=>h.keys id x (hh id x hx)) (xa5 _) (d:=none) (λt ht=>by cases ht) (.val undef);refine⟨r,h2.sat,h2.keys,λi=>?_,h2.size,h2.lo,h2.out,h2.rfix,h2.defers⟩;rcases hf i with e|e
 ·show Rep _ _ _ _ (Go.Sx.look fr' i) _
  rw[e];exact .top _
 ·show Rep _ _ _ _ (Go.Sx.look fr' i) _
  rw[e];exact h2.fr i
theorem Zc{p:Value→SV→Bool}{v:Value}:∀{es:List (Value×Option SV)},gU (qfw p es) v=(gU es v).bind λs=>if p v s=true then some s else none
 |[]=>rfl
 |(k,some s) :: es=>by
  show gU ((k,Bool.rec none (some s) (p k s)) :: qfw p es) v=_;rw[kF,kF];by_cases c:eqK k v=true
  ·rw[if_pos c,if_pos c,←zF c]
   show(Bool.rec none (some s) (p k s):Option SV)=if p k s=true then some s else none
   cases p k s<;>rfl
  ·rw[if_neg c,if_neg c];exact Zc
 |(k,none) :: es=>by
  show gU ((k,none) :: qfw p es) v=_;rw[kF,kF];by_cases c:eqK k v=true
  ·rw[if_pos c,if_pos c];rfl
  ·rw[if_neg c,if_neg c];exact Zc
def dAt(dom:Value→Bool)(get:Value→SV)(p:Value→SV→Bool)(ks:List Value):Value→Bool:=λv=>dom v&&!(ks.any λk=>eqK k v&&!p k (get k))
theorem qnB(dom:Value→Bool)(get:Value→SV)(p:Value→SV→Bool):dAt dom get p []=dom:=by funext v;simp[dAt]
theorem qnC{get:Value→SV}{ks:List Value}(h:p k (get k)=true):dAt dom get p (ks++[k])=dAt dom get p ks:=by
 funext v;simp[dAt,List.any_append,h]
theorem qpP{get:Value→SV}{ks:List Value}(h:p k (get k)=false):dAt dom get p (ks++[k])=kz (dAt dom get p ks) k:=by
 funext v;simp only[dAt,List.any_append,List.any_cons,List.any_nil,h,kz,Bool.not_false,xf1,xf3,Bool.not_or];cases dom v<;>cases eqK k v<;>simp
theorem qnD{get:Value→SV}{ks:List Value}{v:Value}(h:dAt dom get p ks v=true):dom v=true:=by
 unfold dAt at h;rw[xe6]at h;exact h.1
theorem qnE{get:Value→SV}{ks:List Value}(hin:∀v,v∈ks→dom v=true∧eqK v v=true)(hinj:∀k k',dom k=true→dom k'=true→stamp k=stamp k'→k=k')(hall:∀v,dAt dom get p ks v=true→stamp v∈ks.map stamp)(v:Value):(dom v&&p v (get v))=dAt dom get p ks v:=by
 cases hd:dom v with
 |false=>unfold dAt;rw[hd];rfl
 |true=>
  cases hp:p v (get v)with
  |true=>
   unfold dAt;rw[hd,xf0,xf0]
   symm
   rw[Bool.not_eq_true',List.any_eq_false];intro k hk hc;rw[xe6]at hc;rw[zF hc.1,hp]at hc;exact absurd hc.2 Ωq
  |false=>
   cases hq:dAt dom get p ks v with
   |false=>rfl
   |true=>
    exfalso
    obtain⟨u,hu,e⟩:=List.mem_map.1 (hall v hq);have e:=hinj u v (hin u hu).1 hd e;subst e;unfold dAt at hq;rw[xe6,Bool.not_eq_true',List.any_eq_false]at hq;exact hq.2 u hu (by rw[(hin u hu).2,hp];rfl)
theorem qbK{v:Value}:∀{es:List (Value×Option SV)},(gU es v).isSome=true→∃q,q∈es.map Prod.fst∧eqK q v=true
 |[],h=>by cases h
 |(k,o) :: es,h=>by
  rw[kF]at h;by_cases c:eqK k v=true
  ·exact⟨k,xd5,c⟩
  ·rw[if_neg c]at h
   obtain⟨q,h1,h2⟩:=qbK h;exact⟨q,List.mem_cons_of_mem _ h1,h2⟩
theorem qlB{es:List (Value×Option SV)}{ks:List Value}(hn:ks.Nodup)(h:∀v,v∈ks→(gU es v).isSome=true):ks.length≤es.length:=by
 have hlt:∀v,v∈ks→(es.map Prod.fst).findIdx (λq=>eqK q v)<(es.map Prod.fst).length:=λv hv=>by
  obtain⟨q,h1,h2⟩:=qbK (h v hv);exact List.findIdx_lt_length_of_exists ⟨q,h1,h2⟩
 have:=gq es.length (ks.map λv=>(es.map Prod.fst).findIdx (λq=>eqK q v)) (Kx hn λa b ha hb e=>by
  have h1:=List.findIdx_getElem (w:=hlt a ha);have h2:=List.findIdx_getElem (w:=hlt b hb);have h1:=zF h1;have h2:=zF h2;rw[←h1,←h2]
  congr 1) λx hx=>by
  obtain⟨v,hv,rfl⟩:=List.mem_map.1 hx;have:=hlt v hv
  rwa [xe1]at this
 rwa [xe1]at this
theorem qrh:qD Tryz.prog 309=some ⟨true,[.i .i64,.b],.val (.int .i64 0)⟩:=by kernel_rfl
theorem qnF(h:qm true [.i .i64,.b] k=true):∃r b,k=.agg #[.int .i64 r,.bool b]:=by
 cases k<;>simp only[qm,xe7]at h
 rename_i a;obtain⟨l⟩:=a;have h:qY [.i .i64,.b] l=true:=h;rcases l with _|⟨x,_|⟨y,_|⟨z,l⟩⟩⟩<;>simp only[qY,xe6,xe7,and_false]at h
 obtain⟨h1,h2,_⟩:=h;cases x<;>simp only[lfOk,xe7,decide_eq_true_eq]at h1
 cases y<;>simp only[lfOk,xe7]at h2
 rename_i k r b;exact⟨r,b,by rw[h1]⟩
theorem qnG:qlx Tryz.prog [(11,[(2,2)]),(12,[(2,2)])] qpN qlz:=by
 intro ρ LM fs lo st fr hp nid f K hs h hk;obtain⟨F,H,n⟩:=st;obtain⟨hF,hH,hn⟩:=hs
 replace hF:FRel fr F:=hF
 replace hH:HRel LM hp H:=hH
 replace hn:n=nid:=hn
 unfold qlz at h;split at h
 rotate_left
 ·cases h
 rename_i b lay e1 e9;split at h
 rotate_left
 ·cases h
 rename_i d hb;split at h
 rotate_left
 ·cases h
 rename_i a0 a1 a2 a3 a4 a5 a6 a7 a8 a9 a10 a11 a12 a13 a14 a15 a16 a17 a18 a19 a20 a21 mid hd;split at h
 rotate_left
 ·cases h
 rename_i es hm;obtain⟨fr0,hfr0,h⟩:=qbJ h;obtain⟨fr1,hfr1,h⟩:=qH _ _ _ _ h;obtain⟨fr',hfr',h⟩:=qH _ _ _ _ h;obtain⟨hp1,p1,h⟩:=qH _ _ _ _ h;rw[qe]at h;have f1:Go.Sx.look F 1=.ptr b 0:=(hF 1).trans e1;have f9:Go.Sx.look F 9=.val (.bool lay):=(hF 9).trans e9;have b1:blk H b=some (.cells 175 [.ptr d 0]):=hH.cells hb;have b2:=hH.cells hd;obtain⟨dom,get,b3,hdg⟩:=hH.map hm;have NB:True:=trivial
 conv=>arg 3;whnf
 repeat' first|refine sD ?_ ?_<;>intro _|refine aAj ?_|simp -dsimp only[↓RP,RQ,seval,↓RY,TYs,f1,f9,b1,b2,b3,NB,QR,QT,QN]
 all_goals try exact Ωe
 obtain⟨iid,hiid⟩:∃iid,iid=n+4:=⟨_,rfl⟩;rw[←hiid];refine qnA (mid:=mid) (fit:=qm true [.i .i64,.b]) (dom:=dom) (get:=get) ΩC ΩC qrh b3 λhU stamp clk hst hinj=>?_;have u1:=hU b _ b1;have u2:=hU d _ b2;have u3:=hU mid _ b3;have n1:b≠mid:=λe=>by rw[e,b3]at b1;cases b1
 have n2:d≠mid:=λe=>by rw[e,b3]at b2;cases b2
 have NB:=(⟨nmA u1,nmA u2,nmA u3,nmE n1,nmE n2⟩:_∧_∧_∧_∧_);repeat' first|refine sD ?_ ?_<;>intro _|refine aAj ?_|simp -dsimp only[↓RP,RQ,seval,↓RY,TYs,f1,f9,b1,b2,b3,NB,QR,QT,QN]
 all_goals try exact Ωe
 refine qo (λ(z:List Value)=>z.Nodup∧(∀v,v∈z→dom v=true∧eqK v v=true)) (λz=>⟨(77,.ptr iid 0) :: qdu vp F,(iid,.iter mid clk (z.map stamp) clk) ::(mid,.mapS (qm true [.i .i64,.b]) (dAt dom get (jL lay) z) get stamp clk) :: dropBlk H mid,iid+6+20*z.length⟩) (λz=>es.length - z.length) [] ⟨List.nodup_nil,λv hv=>(by cases hv)⟩ (YH (xa5 _) (λt=>by
  by_cases e:t=77
  ·subst e;right;simp[Go.Sx.look]
  ·by_cases c:t∈vp
   ·left;simp[Go.Sx.look,kb,e,c]
   ·right
    rw[vp]at c;simp only[List.mem_cons,List.not_mem_nil,or_false,not_or]at c;simp[Go.Sx.look,kb,vp,c]) ?hA) λks hz=>?_
 case hA=>
  rw[qnB];(repeat' (refine SubHp.ent (by simp only[blk,qn,b3,NB,List.map_nil,xg1,if_false,if_true]) ?_));intro q v hv;rw[qB]at hv;by_cases c:q=mid
  ·rw[if_pos c]at hv;cases hv
  ·rw[if_neg c]at hv
   have hq:=hU q v hv;simp only[blk,qn];rw[if_neg Ω,if_neg c];exact hv
 obtain⟨z1,z2⟩:=hz;have hD:∀q v,blk (dropBlk H mid) q=some v→q<iid∧q≠mid:=λq v hv=>by
  rw[qB]at hv;by_cases c:q=mid
  ·rw[if_pos c]at hv;cases hv
  ·rw[if_neg c]at hv;exact⟨hU q v hv,c⟩
 have hc1:blk (dropBlk H mid) b=some (.cells 175 [.ptr d 0]):=by rw[qB,if_neg n1];exact b1
 have hc2:blk (dropBlk H mid) d=some (.cells 313 [a0,a1,a2,a3,a4,a5,a6,a7,a8,a9,a10,a11,a12,a13,a14,a15,a16,a17,a18,a19,a20,a21,.mp mid]):=by rw[qB,if_neg n2];exact b2
 have g1:Go.Sx.look (qdu vp F) 1=.ptr b 0:=by rw[kb,if_neg Ωq];exact f1
 have g9:Go.Sx.look (qdu vp F) 9=.val (.bool lay):=by rw[kb,if_neg Ωq];exact f9
 have hkl:=qlB (es:=es) z1 (λv hv=>by rw[←(hdg v).1];exact(z2 v hv).1);have NB1:=NB;clear NB;obtain⟨nn,hnn⟩:∃nn,nn=iid+6+20*ks.length:=⟨_,rfl⟩;rw[←hnn];have z3:iid<nn:=by omega
 have NB:=(⟨nmA (Ω:b<nn),nmA (Ω:d<nn),nmA (Ω:mid<nn),nmA z3,NB1⟩:_∧_∧_∧_∧_);repeat' first|refine sD ?_ ?_<;>intro _|refine aAj ?_|simp -dsimp only[↓RP,RQ,seval,hc1,hc2,g1,g9,↓RY,TYs,f1,f9,b1,b2,b3,NB,QR,QT,QN]
 all_goals try exact Ωe
 refine qpO (iid:=iid) (mid:=mid) (clk:=clk) (seen:=ks.map stamp) (fit:=qm true [.i .i64,.b]) (dom:=dAt dom get (jL lay) ks) (get:=get) (stamp:=stamp) ΩC ΩC Ω4 Ω4 (λk hk1 hk2 hk3=>?_) (λhall=>?_)
 ·obtain⟨r,bb,rfl⟩:=qnF hk1
  have hkd:=qnD hk2;have hkn:(.agg #[.int .i64 r,.bool bb]:Value)∉ks:=λhm=>hk3 (List.mem_map.2 ⟨_,hm,rfl⟩);have w1:=jw z1 hkn;have w2:∀v,v∈ks++[(.agg #[.int .i64 r,.bool bb]:Value)]→dom v=true∧eqK v v=true:=λv hv=>by
   rcases List.mem_append.1 hv with h|h
   ·exact z2 v h
   ·rw[List.mem_singleton.1 h];exact⟨hkd,by simp[eqK,vN,Qg]⟩
  have w3:es.length -(ks++[(.agg #[.int .i64 r,.bool bb]:Value)]).length<es.length - ks.length:=by
   have:=qlB (es:=es) w1 (λv hv=>by rw[←(hdg v).1];exact(w2 v hv).1);rw[xc8,xd1]at this ⊢;omega
  repeat' first|refine sD ?_ ?_<;>intro _|refine aAj ?_|simp -dsimp only[↓RP,RQ,seval,hc1,hc2,g1,g9,↓RY,TYs,f1,f9,b1,b2,b3,NB,QR,QT,QN]
  all_goals try exact Ωe
  refine Gf (s:=.agg [.val (.int .i64 r),.val (.bool bb)]) (iid:=iid) (mid:=mid) (clk:=clk) (seen:=ks.map stamp) (fit:=qm true [.i .i64,.b]) (dom:=dAt dom get (jL lay) ks) (get:=get) (stamp:=stamp) (k:=.agg #[.int .i64 r,.bool bb]) ΩC ΩC Ω4 Ω4 hk2 (yO [.int .i64 r,.bool bb]) ?_;have dbl:decide (bb=lay)=decide (bb=lay):=rfl;by_cases hbl:bb=lay
  ·conv at dbl=>rhs;rw[decide_eq_true hbl]
   have hkp:jL lay (.agg #[.int .i64 r,.bool bb]) (get (.agg #[.int .i64 r,.bool bb]))=true:=by
    subst hbl;simp[jL]
   repeat' first|refine sD ?_ ?_<;>intro _|refine aAj ?_|simp -dsimp only[↓RP,RQ,seval,hc1,hc2,g1,g9,dbl,↓RY,TYs,f1,f9,b1,b2,b3,NB,QR,QT,QN]
   all_goals try exact Ωe
   refine⟨ks++[.agg #[.int .i64 r,.bool bb]],⟨w1,w2⟩,w3,YH ?hn1 (λt=>by
    by_cases e:t=77
    ·subst e;right;simp[Go.Sx.look]
    ·by_cases c:t∈vp
     ·left;simp[Go.Sx.look,kb,e,c]
     ·right
      rw[vp]at c;simp only[List.mem_cons,List.not_mem_nil,or_false,not_or]at c;simp[Go.Sx.look,kb,vp,c]) ?hh1⟩
   case hn1=>rw[xc8,xd1];omega
   case hh1=>
    rw[List.map_append,List.map_cons,List.map_nil,qnC hkp]
    ((repeat' (refine SubHp.ent Ωo ?_)))
    intro q v hv;have hq:=hD q v hv;simp only[blk];rw[if_neg Ω,if_neg Ω,if_neg hq.2];exact hv
  ·conv at dbl=>rhs;rw[decide_eq_false hbl]
   have hkp:jL lay (.agg #[.int .i64 r,.bool bb]) (get (.agg #[.int .i64 r,.bool bb]))=false:=by
    simp[jL,hbl]
   repeat' first|refine sD ?_ ?_<;>intro _|refine aAj ?_|simp -dsimp only[↓RP,RQ,seval,hc1,hc2,g1,g9,dbl,↓RY,TYs,f1,f9,b1,b2,b3,NB,QR,QT,QN]
   all_goals try exact Ωe
   refine⟨ks++[.agg #[.int .i64 r,.bool bb]],⟨w1,w2⟩,w3,YH ?hn0 (λt=>by
    by_cases e:t=77
    ·subst e;right;simp[Go.Sx.look]
    ·by_cases c:t∈vp
     ·left;simp[Go.Sx.look,kb,e,c]
     ·right
      rw[vp]at c;simp only[List.mem_cons,List.not_mem_nil,or_false,not_or]at c;simp[Go.Sx.look,kb,vp,c]) ?hh0⟩
   case hn0=>rw[xc8,xd1];omega
   case hh0=>
    rw[List.map_append,List.map_cons,List.map_nil,qpP hkp]
    ((repeat' (refine SubHp.ent Ωo ?_)))
    intro q v hv;have hq:=hD q v hv;simp only[blk];rw[if_neg Ω,if_neg Ω,if_neg hq.2];exact hv
 ·have hend:=qnE (p:=jL lay) z2 hinj hall
  have hR:HRel LM hp1 ((mid,.map (qm true [.i .i64,.b]) (λv=>dom v&&jL lay v (get v)) get) :: dropBlk H mid):=by
   intro q x hx;rw[p1 q]at hx;by_cases c:q=mid
   ·rw[if_pos c]at hx
    cases hx;refine⟨.map (qm true [.i .i64,.b]) (λv=>dom v&&jL lay v (get v)) get,by simp only[blk];rw[if_pos c],rfl,λk=>?_⟩;have h1:=hdg k;rw[Zc];cases e:gU es k with
    |none=>rw[e]at h1;exact⟨by show(dom k&&jL lay k (get k))=_;rw[h1.1];rfl,λs hs=>(by cases hs)⟩
    |some s=>
     rw[e]at h1;have h2:=h1.2 s rfl;show(dom k&&jL lay k (get k))=_∧_;rw[h1.1,h2];dsimp only[Option.bind_some,Option.isSome_some];cases jL lay k s with
     |true=>exact⟨rfl,λs' hs=>(by cases hs;rfl)⟩
     |false=>exact⟨rfl,λs' hs=>(by cases hs)⟩
   ·rw[if_neg c]at hx
    obtain⟨b',h1,h2⟩:=hH q x hx;exact⟨b',by simp only[blk];rw[if_neg c,qB,if_neg c];exact h1,h2⟩
  refine⟨⟨qdu vp F,(mid,.map (qm true [.i .i64,.b]) (λv=>dom v&&jL lay v (get v)) get) :: dropBlk H mid,n+(20*es.length+98)⟩,Weak.trans (qjo (mid:=mid) (fit:=qm true [.i .i64,.b]) (dom:=dAt dom get (jL lay) ks) (dom':=λv=>dom v&&jL lay v (get v)) (get:=get) (st:=stamp) (c:=clk) Ω4 hend) (YH Ω (λt=>?_) ?_),Ωk,?_⟩
  ·by_cases c:t∈vp
   ·left;rw[kb,if_pos c]
   ·right
    have e:t≠77:=λe=>c (by rw[e];decide);simp[Go.Sx.look,e]
  ·simp only[setBlk,NB,if_false,if_true]
   (repeat' (refine SubHp.ent (by simp only[blk,NB,if_false,if_true]) ?_));intro q v hv;have hq:=hD q v hv;simp only[blk];rw[if_neg Ω,if_neg hq.2];exact hv
  repeat' first|refine sD ?_ ?_<;>intro _|refine aAj ?_|simp -dsimp only[↓RP,RQ,seval,↓RY,TYs,f1,f9,b1,b2,b3,NB,QR,QT,QN]
  all_goals try exact Ωe
  refine hk .normal fr' hp1 (nid+(20*es.length+100)) _ ⟨λt=>?_,hR,by dsimp only;rw[hn]⟩ h;dsimp only;rw[show qA fr' t=if t=79 then .val (.bool false)else qA fr1 t by
   unfold qA;rw[hfr' t];by_cases c:t=79
   ·rw[if_pos c,if_pos c]
   ·rw[if_neg c,if_neg c],show qA fr1 t=if t=78 then .tup [.val (.bool false)]else qA fr0 t by
   unfold qA;rw[hfr1 t];by_cases c:t=78
   ·rw[if_pos c,if_pos c]
   ·rw[if_neg c,if_neg c],hfr0,←hF t]
  simp only[Go.Sx.look,kb]
end Go.Tn
end
