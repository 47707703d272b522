/- A part of the proof. -/
import Derived.WalkKit
import Derived.Laws.StructEq
import Derived.ChangeKeysEq
import Derived.WalkSpells
import Derived.Laws.MakeOwn
import Derived.Great.BuildSlice
import Derived.Laws.Tables
import Derived.Orders
open Nat renaming reduceAdd→xa1,reduceEqDiff→xa2,le_refl→xa5,mul_le_mul_right→xa8,lt_of_lt_of_le→xa9,zero_add→xb0,add_zero→xb1,add_assoc→xb2,zero_le→xb6,le_trans→xc1,add_comm→xc5
open List renaming getD_eq_getElem?_getD→xc6,length_append→xc8,getElem?_append_left→xc9,getElem?_append_right→xd0,getElem?_cons_zero→xd6,getElem?_cons_succ→xd7,length_replicate→xd8,length_take→xd9,getElem?_toArray→xe2,getElem?_range→xe3,length_cons→xe4
open Bool renaming and_eq_true→xe6,false_eq_true→xe7,or_eq_true→xe8,true_and→xf0,and_true→xf1,false_and→xf2
open Array renaming getD_eq_getD_getElem?→xf5
open Option renaming getD_some→xg0,map_some→xg1
set_option linter.unusedVariables false
set_option linter.unusedSimpArgs false
set_option maxRecDepth 1000000
set_option maxHeartbeats 16000000
theorem An{a b:Prop}(x:a)(y:b):a∧b:=⟨x,y⟩
theorem Ω{P:Prop}(h:P:=by omega):P:=h
theorem Ωa{P:Prop}(h:P:=by(simp -dsimp only[↓RP,RQ,seval,QV,I,B]);all_goals (try simp[QV])):P:=h
theorem Ωb{P:Prop}(h:P:=by kernel_rfl):P:=h
theorem Ωc{P:Prop}(h:P:=by dsimp only;omega):P:=h
theorem Ωd{P:Prop}(h:P:=by simp[qQ,Go.Sx.look]):P:=h
theorem Ωe{P:Prop}(h:P:=by(simp -dsimp only[↓RP,RQ,seval,QV,hsv,qE,I,B]);all_goals (try simp[QV,Go.Sx.Sub,Go.Sx.SubL])):P:=h
theorem Ωf{P:Prop}(h:P:=by simp[OldL,Old,QV,hsv,qE,I,B,bkS,zy,vM]):P:=h
theorem Ωg{P:Prop}(h:P:=by simp):P:=h
theorem Ωh{P:Prop}(h:P:=by simp[Op.operands,Call.operands]):P:=h
theorem Ωi{P:Prop}(h:P:=by(simp -dsimp only[↓RP,RQ,seval,B])):P:=h
theorem Ωj{P:Prop}(h:P:=by simp;omega):P:=h
theorem Ωk{P:Prop}(h:P:=by(simp -dsimp only[↓RP,RQ,seval,I])):P:=h
theorem Ωl{P:Prop}(h:P:=by rw[tb]at h;simpa using h):P:=h
theorem Ωm{P:Prop}(h:P:=by simp[Op.operands]):P:=h
theorem Ωn{P:Prop}(h:P:=by(simp -dsimp only[↓RP,RQ,seval,I])):P:=h
theorem Ωo{P:Prop}(h:P:=by simp only[blk,NB,jd,je,xa2,if_false,if_true,List.set_cons_succ,List.set_cons_zero];try rfl):P:=h
theorem Ωp{P:Prop}(h:P:=by simp[blk,NB]):P:=h
theorem Ωq{P:Prop}(h:P:=by decide):P:=h
theorem Ωr{P:Prop}(h:P:=by rfl):P:=h
theorem Ωs{P:Prop}(h:P:=by cases hv):P:=h
theorem Ωt{P:Prop}(h:P:=by simp only[blk,NB,jd,je,xa2,shL,if_false,if_true];try rfl):P:=h
theorem Ωu{P:Prop}(h:P:=by simp only[blk,NB,jd,je,xa2,xb1,xb2,xa1,if_false,if_true]):P:=h
theorem Ωv{P:Prop}(h:P:=by simp only[blk,NB,jd,je,xa2,if_false,if_true]):P:=h
theorem Ωw{P:Prop}(h:P:=by simp only[blk,NB,xa2,if_false,if_true];try rfl):P:=h
theorem Ωx{P:Prop}(h:P:=by simp only[SubL,and_true];exact⟨qr _ (gP h),by simp[Go.Sx.Sub]⟩):P:=h
theorem Ωy{P:Prop}(h:P:=by rw[qz];exact hn):P:=h
theorem Ωz{P:Prop}(h:P:=by rw[xc8,xd9,qu,hmin];omega):P:=h
theorem ΩA{P:Prop}(h:P:=by simp only[blk,NB,jd,je,xa2,if_false,if_true];try rfl):P:=h
theorem ΩB{P:Prop}(h:P:=by exfalso;omega):P:=h
theorem ΩC{P:Prop}(h:P:=by simp[Fresh,B]):P:=h
theorem ΩD{P:Prop}(h:P:=by simp only[SubL,and_true];exact⟨qr _ (jf _ _ _ _ _ _ _ _ _),qr _ (qai _ _ _)⟩):P:=h
theorem ΩE{P:Prop}(h:P:=by simp[Old]):P:=h
theorem ΩF{P:Prop}(h:P:=by rw[qz];exact xa5 _):P:=h
theorem ΩG{P:Prop}(h:P:=by simp[Go.Sx.look]):P:=h
theorem ΩH{P:Prop}(h:P:=by simp[zP,Op.operands]):P:=h
theorem ΩI{P:Prop}(h:P:=by simp only[SubL,and_true];exact qr _ (jf n nb f (λ_=>-1) q fav c d st)):P:=h
theorem ΩJ{P:Prop}(h:P:=by simp only[SubL,and_true];exact⟨qni,zw⟩):P:=h
theorem ΩK{P:Prop}(h:P:=by simp[OldL,Old]):P:=h
theorem ΩL{P:Prop}(h:P:=by simp only[SubL,and_true];refine⟨qr _ (qeE hM),?_⟩;simp[I,Go.Sx.Sub]):P:=h
theorem ΩM{P:Prop}(h:P:=by simp[blk,NB,NB1,ND,NO]):P:=h
theorem ΩN{P:Prop}(h:P:=by simpa using h):P:=h
theorem ΩO{P:Prop}(h:P:=by simp[blk,NB,NB1,ND]):P:=h
theorem ΩP{P:Prop}(h:P:=by simp only[blk,dvX];(repeat rw[if_neg (by omega)]);exact hr.none (by omega)):P:=h
theorem ΩQ{P:Prop}(h:P:=by rw[Tryz.ntmps352];decide):P:=h
theorem ΩR{P:Prop}(h:P:=by simp[OldL,Old,QV,qE,I,ho]):P:=h
theorem ΩS{P:Prop}(h:P:=by simp[blk]):P:=h
theorem ΩT{P:Prop}(h:P:=by simp[Fresh,FreshL,I]):P:=h
theorem ΩU{P:Prop}(h:P:=by simp only[OldL,qeE hM,true_and];try simp[Old,I,vM,OldL]):P:=h
theorem ΩV{P:Prop}(h:P:=by rw[h2];exact hr):P:=h
theorem ΩW{P:Prop}(h:P:=by rw[Kc];exact xa5 _):P:=h
theorem ΩX{P:Prop}(h:P:=by simp[SubL]):P:=h
theorem ΩY{P:Prop}(h:P:=by rw[zo];simp only[vz,Qe,hh,hn]):P:=h
theorem ΩZ{P:Prop}(h:P:=by rw[vr];exact hl):P:=h
theorem Ω0{P:Prop}(h:P:=by simpa using hx):P:=h
theorem Ω1{P:Prop}(h:P:=by simpa using he):P:=h
theorem Ω2{P:Prop}(h:P:=by simp[qQ,Go.Sx.look,putFr]):P:=h
theorem Ω3{P:Prop}(h:P:=by simp[SubL,Go.Sx.Sub,I]):P:=h
theorem Ω4{P:Prop}(h:P:=by simp[qQ,Go.Sx.look,hR,shC,kf2]):P:=h
theorem Ω5{P:Prop}(h:P:=by simpa using hl):P:=h
theorem Ω6{P:Prop}(h:P:=by simp[qQ,Go.Sx.look,hR]):P:=h
theorem Ω7{P:Prop}(h:P:=by rw[xd9,hmin];omega):P:=h
theorem Ω8{P:Prop}(h:P:=by simp[Fresh,FreshL,I,B]):P:=h
theorem Ω9{P:Prop}(h:P:=by simp[Fresh]):P:=h
theorem Ωaa{P:Prop}(h:P:=by simp only[hx,hb];split<;>rfl):P:=h
theorem Ωab{P:Prop}(h:P:=by rw[hst];simp):P:=h
theorem Ωac{P:Prop}(h:P:=by simp[OldL,Old,QV,qE,I,bkS,zy]):P:=h
theorem Ωad{P:Prop}(h:P:=by simpa only[setId,FreshO,Fresh]using hf):P:=h
theorem Ωae{P:Prop}(h:P:=by simp[Fresh,I]):P:=h
theorem Ωaf{P:Prop}(h:P:=by simp[Op.operands];simp at hy;simp[hy]):P:=h
theorem Ωag{P:Prop}(h:P:=by simp[env,Go.Sx.look,putIn]):P:=h
theorem Ωah{P:Prop}(h:P:=by simpa using hi):P:=h
theorem Ωai{P:Prop}(h:P:=by simpa only[Fresh]using hf):P:=h
theorem Ωaj{P:Prop}(h:P:=by simp[FreshB,Fresh]):P:=h
section
namespace Go.Sx
open Go.RowKit
variable{b:Nat}{base w w':World}{r r':Nat→Option Nat}{N N' okc:Nat→Prop}{G:Bool→Nat→Prop}
inductive SV:Type
 |top
 |val (v:Value)
 |agg (l:List SV)
 |tup (l:List SV)
 |fn (f:Fn) (first caps:List SV)
 |ptr (id off:Nat)
 |elt (id k i j:Nat)
 |ref (o:Bool) (n:Nat) (row:Nat→SV)
 |arr (o full:Bool) (n k:Nat) (row:Nat→Nat→SV)
 |vec (id n k:Nat)
 |mp (id:Nat)
 |asl (id off n k:Nat)
 |que (id off n k:Nat)
 |cut (id n k:Nat)
 |cmp (o:Bool) (fit dom:Value→Bool) (get:Value→SV)
 |yld (id:Nat)
instance:Inhabited SV:=⟨.top⟩
structure wN(fit dom:Value→Bool)(es:Array MapEntry):Prop where
 once:∀(i j:Nat)(e f:MapEntry),es[i]? = some e→es[j]? = some f→e.key=f.key→i=j
 fits:∀e,e∈es→fit e.key=true
 doms:∀e,e∈es→dom e.key=true
 has:∀key,dom key=true→∃e,e∈es∧e.key=key
structure VN(es:Array MapEntry)(clock:Nat):Prop where
 lt:∀e,e∈es→e.born<clock
 once:∀(i j:Nat)(e f:MapEntry),es[i]? = some e→es[j]? = some f→e.born=f.born→i=j
inductive Rep(r:Nat→Option Nat)(N:Nat→Prop)(G:Bool→Nat→Prop)(w:World):SV→Value→Prop
 |top (v:Value):Rep r N G w .top v
 |val (v:Value):Rep r N G w (.val v) v
 |agg (l:List SV) (cs:Array Value) (hl:l.length=cs.size) (h:∀i sv,l[i]? = some sv→Rep r N G w sv (cs.getD i undef)):Rep r N G w (.agg l) (.agg cs)
 |tup (l:List SV) (cs:Array Value) (hl:l.length=cs.size) (h:∀i sv,l[i]? = some sv→Rep r N G w sv (cs.getD i undef)):Rep r N G w (.tup l) (.tuple cs)
 |fn (f:Fn) (l m:List SV) (cs ds:Array Value) (hl:l.length=cs.size) (hm:m.length=ds.size)
   (h:∀i sv,l[i]? = some sv→Rep r N G w sv (cs.getD i undef)) (h':∀i sv,m[i]? = some sv→Rep r N G w sv (ds.getD i undef)):Rep r N G w (.fn f l m) (.func f cs ds)
 |ptr (id off b:Nat) (hN:N id) (hr:r id=some b):Rep r N G w (.ptr id off) (.pointer (some ⟨b,off,none⟩))
 |elt (id k i j b:Nat) (hN:N id) (hr:r id=some b):Rep r N G w (.elt id k i j) (.pointer (some ⟨b,i*k+j,none⟩))
 |ref (o:Bool) (n:Nat) (row:Nat→SV) (b off:Nat) (f:Nat→Value) (hG:G o b) (hc:∀j,j<n→w.cell? ⟨b,off+j,none⟩=some (f j))
   (h:∀j,j<n→Rep r N G w (row j) (f j)):Rep r N G w (.ref o n row) (.pointer (some ⟨b,off,none⟩))
 |arrNil (o full:Bool) (k:Nat) (row:Nat→Nat→SV) (a:Option Addr) (cap:Nat) (hf:full=true→cap=0):Rep r N G w (.arr o full 0 k row) (.slice a 0 cap)
 |arr (o full:Bool) (n k:Nat) (row:Nat→Nat→SV) (b off cap:Nat) (f:Nat→Nat→Value) (hG:G o b) (hf:full=true→cap=n) (hcap:n≤cap)
   (hc:∀i j,i<n→j<k→w.cell? ⟨b,off+(i*k+j),none⟩=some (f i j)) (h:∀i j,i<n→j<k→Rep r N G w (row i j) (f i j)) :
   Rep r N G w (.arr o full n k row) (.slice (some ⟨b,off,none⟩) n cap)
 |vecNil (id k:Nat) (hN:N id) (hr:r id=none):Rep r N G w (.vec id 0 k) (.slice none 0 0)
 |vec (id n k b cap:Nat) (cs:Array Value) (t:TypeId) (hN:N id) (hr:r id=some b) (hb:w.heap[b]? = some (.cells cs t (0,0))) (hs:cs.size=cap*k) (hcap:n≤cap) (hm:cap≤maxLen) :
   Rep r N G w (.vec id n k) (.slice (some ⟨b,0,none⟩) n cap)
 |mp (id b:Nat) (hN:N id) (hr:r id=some b):Rep r N G w (.mp id) (.map (some b))
 |asl (id off n k b cap:Nat) (hN:N id) (hr:r id=some b) (hcap:n≤cap):Rep r N G w (.asl id off n k) (.slice (some ⟨b,off,none⟩) n cap)
 |queNil (id off k:Nat) (a:Option Addr) (hN:N id):Rep r N G w (.que id off 0 k) (.slice a 0 0)
 |que (id off n k b cap:Nat) (cs:Array Value) (t:TypeId) (hN:N id) (hr:r id=some b) (hb:w.heap[b]? = some (.cells cs t (0,0))) (hs:cs.size=(off+cap)*k) (hcap:n≤cap) (hm:off+cap≤maxLen) :
   Rep r N G w (.que id off n k) (.slice (some ⟨b,off*k,none⟩) n cap)
 |cutNil (id k:Nat) (hN:N id) (hr:r id=none):Rep r N G w (.cut id 0 k) (.slice none 0 0)
 |cut (id n k b:Nat) (hN:N id) (hr:r id=some b):Rep r N G w (.cut id n k) (.slice (some ⟨b,0,none⟩) n n)
 |cmp (o:Bool) (fit dom:Value→Bool) (get:Value→SV) (b:Nat) (es:Array MapEntry) (clock:Nat) (hG:G o b) (hb:w.heap[b]? = some (.map es clock)) (hm:wN fit dom es)
   (h:∀e,e∈es→Rep r N G w (get e.key) e.val):Rep r N G w (.cmp o fit dom get) (.map (some b))
 |yld (id b:Nat) (hN:N id) (hr:r id=some b):Rep r N G w (.yld id) (.func (.yield b) #[] #[])
def Shapes(w w':World):Prop:=∀(b:Nat)(cs:Array Value)(t:TypeId)(z:Nat×Nat),w.heap[b]? = some (Obj.cells cs t z)→∃cs':Array Value,w'.heap[b]? = some (Obj.cells cs' t z)∧cs'.size=cs.size
theorem Shapes.refl(w:World):Shapes w w:=λ_ cs _ _ h=>⟨cs,h,rfl⟩
theorem Shapes.trans{a b c:World}(h:Shapes a b)(k:Shapes b c):Shapes a c:=λx cs t z hx=>
 let ⟨cs1,h1,e1⟩:=h x cs t z hx
 let ⟨cs2,h2,e2⟩:=k x cs1 t z h1
 ⟨cs2,h2,e2.trans e1⟩
theorem vq(h:w'.heap[b]? = w.heap[b]?)(o:Nat):w'.cell? ⟨b,o,none⟩=w.cell? ⟨b,o,none⟩:=World.cell?_of_block (w:=w) h
theorem Rep.mono{G':Bool→Nat→Prop}{sv:SV}{v:Value}(h:Rep r N G w sv v)
  (hr:∀id,N id→r' id=r id) (hN:∀id,N id→N' id) (hG:∀o b,G o b→G' o b∧w'.heap[b]? = w.heap[b]?) (hs:Shapes w w'):Rep r' N' G' w' sv v:=by
 induction h with
 |top v=>exact .top v
 |val v=>exact .val v
 |agg l cs hl _ ih=>exact .agg l cs hl ih
 |tup l cs hl _ ih=>exact .tup l cs hl ih
 |fn f l m cs ds hl hm _ _ ih ih'=>exact .fn f l m cs ds hl hm ih ih'
 |ptr id off b h1 h2=>exact .ptr id off b (hN _ h1) ((hr id h1).trans h2)
 |elt id k i j b h1 h2=>exact .elt id k i j b (hN _ h1) ((hr id h1).trans h2)
 |ref o n row b off f hg hc _ ih=>
  obtain⟨g1,g2⟩:=hG _ _ hg;exact .ref o n row b off f g1 (λj hj=>(vq g2 _).trans (hc j hj)) ih
 |arrNil o full k row a cap hf=>exact .arrNil o full k row a cap hf
 |arr o full n k row b off cap f hg hf hcap hc _ ih=>
  obtain⟨g1,g2⟩:=hG _ _ hg;exact .arr o full n k row b off cap f g1 hf hcap (λi j hi hj=>(vq g2 _).trans (hc i j hi hj)) ih
 |vecNil id k h1 h2=>exact .vecNil id k (hN _ h1) ((hr id h1).trans h2)
 |vec id n k b cap cs t h1 h2 hb hsz hcap hm=>
  obtain⟨cs',hb',he⟩:=hs b cs t _ hb;exact .vec id n k b cap cs' t (hN _ h1) ((hr id h1).trans h2) hb' (he.trans hsz) hcap hm
 |mp id b h1 h2=>exact .mp id b (hN _ h1) ((hr id h1).trans h2)
 |asl id off n k b cap h1 h2 hcap=>exact .asl id off n k b cap (hN _ h1) ((hr id h1).trans h2) hcap
 |queNil id off k a h1=>exact .queNil id off k a (hN _ h1)
 |que id off n k b cap cs t h1 h2 hb hsz hcap hm=>
  obtain⟨cs',hb',he⟩:=hs b cs t _ hb;exact .que id off n k b cap cs' t (hN _ h1) ((hr id h1).trans h2) hb' (he.trans hsz) hcap hm
 |cutNil id k h1 h2=>exact .cutNil id k (hN _ h1) ((hr id h1).trans h2)
 |cut id n k b h1 h2=>exact .cut id n k b (hN _ h1) ((hr id h1).trans h2)
 |cmp o fit dom get b es clock hg hb hm _ ih=>
  obtain⟨g1,g2⟩:=hG _ _ hg;exact .cmp o fit dom get b es clock g1 (g2.trans hb) hm ih
 |yld id b h1 h2=>exact .yld id b (hN _ h1) ((hr id h1).trans h2)
inductive RSt:Type
 |ready
 |busy
 |retd
 |left (id:Nat)
 |over (p:Option Code)
def RSt.state:RSt→LoopState
 |.ready=>.ready
 |.busy=>.busy
 |.over _=>.exhausted
 |_=>.done
def RSt.pend:RSt→Option Code
 |.retd=>some .ret
 |.left id=>some (.exit id)
 |.over p=>p
 |_=>none
inductive Blk:Type
 |cells (t:TypeId) (l:List SV)
 |rows (t:TypeId) (k n:Nat) (row:Nat→Nat→SV)
 |map (fit dom:Value→Bool) (get:Value→SV)
 |mapS (fit dom:Value→Bool) (get:Value→SV) (stamp:Value→Nat) (clk:Nat)
 |iter (mid since:Nat) (seen:List Nat) (last:Nat)
 |loop (L:Loop) (s:RSt)
structure St:Type where
 fr:List (Nat×SV)
 hp:List (Nat×Blk)
 nid:Nat
def look:List (Nat×SV)→Nat→SV
 |[],_=>.top
 |(i,v) :: l,j=>if j=i then v else look l j
def blk:List (Nat×Blk)→Nat→Option Blk
 |[],_=>none
 |(i,v) :: l,j=>if j=i then some v else blk l j
def setBlk:List (Nat×Blk)→Nat→Blk→List (Nat×Blk)
 |[],_,_=>[]
 |(i,v) :: l,j,u=>if j=i then(i,u) :: l else(i,v) :: setBlk l j u
def dropBlk:List (Nat×Blk)→Nat→List (Nat×Blk)
 |[],_=>[]
 |(i,v) :: l,j=>if j=i then dropBlk l j else(i,v) :: dropBlk l j
def putFr(l:List (Nat×SV))(j:Nat)(u:SV):List (Nat×SV):=(j,u) :: l
def putIn:List (Nat×SV)→Nat→SV→List (Nat×SV)
 |[],j,u=>[(j,u)]
 |(i,v) :: l,j,u=>if j=i then(i,u) :: l else(i,v) :: putIn l j u
def inD:Option Tmp→List (Nat×SV)→List (Nat×SV)
 |some _,(d,v) :: l=>putIn l d v
 |some _,[]=>[]
 |none,l=>l
def St.putI(st:St)(d:Option Tmp)(v:SV):St:=
 match d with
 |some d=>{ st with fr:=putIn st.fr d v }
 |none=>st
def St.put(st:St)(d:Option Tmp)(v:SV):St:=
 match d with
 |some d=>{ st with fr:=putFr st.fr d v }
 |none=>st
inductive BlkRep(r:Nat→Option Nat)(N:Nat→Prop)(G:Bool→Nat→Prop)(w:World):Option Nat→Blk→Prop
 |cells (t:TypeId) (l:List SV) (b:Nat) (cs:Array Value) (hb:w.heap[b]? = some (.cells cs t (0,0))) (hl:l.length=cs.size)
   (h:∀i sv,l[i]? = some sv→Rep r N G w sv (cs.getD i undef)):BlkRep r N G w (some b) (.cells t l)
 |none (t:TypeId) (k:Nat) (row:Nat→Nat→SV):BlkRep r N G w none (.rows t k 0 row)
 |rows (t:TypeId) (k n:Nat) (row:Nat→Nat→SV) (b:Nat) (cs:Array Value) (hb:w.heap[b]? = some (.cells cs t (0,0))) (hl:n*k≤cs.size)
   (h:∀i j,i<n→j<k→Rep r N G w (row i j) (cs.getD (i*k+j) undef)):BlkRep r N G w (some b) (.rows t k n row)
 |map (fit dom:Value→Bool) (get:Value→SV) (b:Nat) (es:Array MapEntry) (clock:Nat) (hb:w.heap[b]? = some (.map es clock)) (hm:wN fit dom es) (ht:VN es clock)
   (h:∀e,e∈es→Rep r N G w (get e.key) e.val):BlkRep r N G w (some b) (.map fit dom get)
 |mapS (fit dom:Value→Bool) (get:Value→SV) (stamp:Value→Nat) (b:Nat) (es:Array MapEntry) (clock:Nat) (hb:w.heap[b]? = some (.map es clock)) (hm:wN fit dom es) (ht:VN es clock)
   (hst:∀e,e∈es→e.born=stamp e.key) (h:∀e,e∈es→Rep r N G w (get e.key) e.val):BlkRep r N G w (some b) (.mapS fit dom get stamp clock)
 |iter (mid since:Nat) (seen:List Nat) (last b m:Nat) (hN:N mid) (hr:r mid=some m) (hb:w.heap[b]? = some (.mapIter (some m) since seen.toArray last)):BlkRep r N G w (some b) (.iter mid since seen last)
 |loop (L:Loop) (s:RSt) (b:Nat) (hb:w.heap[b]? = some (.loop { L with state:=s.state,pending:=s.pend })):BlkRep r N G w (some b) (.loop L s)
def Gd(base:World)(okc:Nat→Prop)(r:Nat→Option Nat)(N:Nat→Prop)(hp:List (Nat×Blk))(w:World)(o:Bool)(b:Nat):Prop:=
 b<w.heap.size∧(∀id x,blk hp id=some x→N id→r id≠some b)∧(if o=true then base.heap.size≤b else okc b∨base.heap.size≤b)
structure Sat(base:World)(okc:Nat→Prop)(r:Nat→Option Nat)(N:Nat→Prop)(hp:List (Nat×Blk))(w:World):Prop where
 below:Below base.heap.size base w
 rep:∀id x,blk hp id=some x→N id→BlkRep r N (Gd base okc r N hp w) w (r id) x
 own:∀id x b,blk hp id=some x→N id→r id=some b→base.heap.size≤b
 inj:∀id x id' x' b,blk hp id=some x→N id→blk hp id'=some x'→N id'→r id=some b→r id'=some b→id=id'
variable{x:Blk}
theorem BlkRep.mono{G':Bool→Nat→Prop}{ob:Option Nat}(h:BlkRep r N G w ob x)
  (hr:∀id,N id→r' id=r id) (hN:∀id,N id→N' id) (hG:∀o b,G o b→G' o b∧w'.heap[b]? = w.heap[b]?) (hs:Shapes w w')
  (hb:∀b,ob=some b→w'.heap[b]? = w.heap[b]?):BlkRep r' N' G' w' ob x:=by
 cases h with
 |cells t l b cs hb' hl h=>exact .cells t l b cs ((hb b rfl).trans hb') hl λi sv hi=>(h i sv hi).mono hr hN hG hs
 |none t k row=>exact .none t k row
 |rows t k n row b cs hb' hl h=>exact .rows t k n row b cs ((hb b rfl).trans hb') hl λi j hi hj=>(h i j hi hj).mono hr hN hG hs
 |map fit dom get b es clock hb' hm ht h=>exact .map fit dom get b es clock ((hb b rfl).trans hb') hm ht λe he=>(h e he).mono hr hN hG hs
 |mapS fit dom get stamp b es clock hb' hm ht hst h=>exact .mapS fit dom get stamp b es clock ((hb b rfl).trans hb') hm ht hst λe he=>(h e he).mono hr hN hG hs
 |iter mid since seen last b m h1 h2 hb'=>exact .iter mid since seen last b m (hN _ h1) ((hr _ h1).trans h2) ((hb b rfl).trans hb')
 |loop L s b hb'=>exact .loop L s b ((hb b rfl).trans hb')
theorem BlkRep.lt(h:BlkRep r N G w (some b) x):b<w.heap.size:=by
 cases h with
 |cells t l b cs hb=>exact(Array.getElem?_eq_some_iff.1 hb).1
 |rows t k n row b cs hb=>exact(Array.getElem?_eq_some_iff.1 hb).1
 |map fit dom get b es clock hb=>exact(Array.getElem?_eq_some_iff.1 hb).1
 |mapS fit dom get stamp b es clock hb=>exact(Array.getElem?_eq_some_iff.1 hb).1
 |iter mid since seen last b m h1 h2 hb=>exact(Array.getElem?_eq_some_iff.1 hb).1
 |loop L s b hb=>exact(Array.getElem?_eq_some_iff.1 hb).1
def upd(r:Nat→Option Nat)(id:Nat)(b:Option Nat):Nat→Option Nat:=λi=>if i=id then b else r i
theorem qw(r:Nat→Option Nat)(id:Nat)(b:Option Nat):upd r id b id=b:=by simp[upd]
theorem jQ{id i:Nat}(b:Option Nat)(h:i≠id):upd r id b i=r i:=by simp[upd,h]
theorem zl(w:World)(o:Obj)(h:b<w.heap.size):(w.alloc o).heap[b]? = w.heap[b]?:=Below.heap_alloc w o b h
theorem qH(w:World)(o:Obj):(w.alloc o).heap[w.heap.size]? = some o:=by
 show(w.heap.push o)[w.heap.size]? = _;simp
theorem Shapes.alloc(w:World)(o:Obj):Shapes w (w.alloc o):=λb cs t z h=>
 ⟨cs,(zl w o (Array.getElem?_eq_some_iff.1 h).1).trans h,rfl⟩
def zm(N:Nat→Prop)(id:Nat):Nat→Prop:=λi=>N i∨i=id
structure Step(base:World)(okc:Nat→Prop)(r:Nat→Option Nat)(N:Nat→Prop)(hp:List (Nat×Blk))(w:World)(r':Nat→Option Nat)(N':Nat→Prop)(hp':List (Nat×Blk))(w':World):Prop where
 sat:Sat base okc r' N' hp' w'
 rr:∀i,N i→r' i=r i
 nn:∀i,N i→N' i
 gg:∀o c,Gd base okc r N hp w o c→Gd base okc r' N' hp' w' o c∧w'.heap[c]? = w.heap[c]?
 sh:Shapes w w'
variable{hp:List (Nat×Blk)}{hp':List (Nat×Blk)}
theorem Step.rep(h:Step base okc r N hp w r' N' hp' w'){sv:SV}{v:Value}
  (hv:Rep r N (Gd base okc r N hp w) w sv v):Rep r' N' (Gd base okc r' N' hp' w') w' sv v:=hv.mono h.rr h.nn h.gg h.sh
theorem Step.refl(h:Sat base okc r N hp w):Step base okc r N hp w r N hp w:=
 ⟨h,λ_ _=>rfl,λ_ h=>h,λ_ _ h=>⟨h,rfl⟩,Shapes.refl w⟩
theorem Step.trans{r'':Nat→Option Nat}{N'':Nat→Prop}{hp'':List (Nat×Blk)}{w'':World}(h:Step base okc r N hp w r' N' hp' w')(k:Step base okc r' N' hp' w' r'' N'' hp'' w'') :
  Step base okc r N hp w r'' N'' hp'' w'':=
 ⟨k.sat,λi hi=>(k.rr i (h.nn i hi)).trans (h.rr i hi),λi hi=>k.nn i (h.nn i hi),λo c hc=>let ⟨a,b⟩:=h.gg o c hc;let ⟨a',b'⟩:=k.gg o c a;⟨a',b'.trans b⟩,h.sh.trans k.sh⟩
theorem Sat.lt(h:Sat base okc r N hp w){id:Nat}(hx:blk hp id=some x)(hN:N id)(hr:r id=some b):b<w.heap.size:=
 (hr▸h.rep id x hx hN:BlkRep _ _ _ _ (some b) x).lt
theorem Sat.new(h:Sat base okc r N hp w)(id:Nat)(hid:¬N id)(o:Obj)(x:Blk)
  (hat:blk hp' id=some x) (hoth:∀j,N j→blk hp' j=blk hp j)
  (hx:∀r' N' G',(∀i,N i→r' i=r i)→r' id=some w.heap.size→(∀i,N i→N' i)→N' id→(∀o b,Gd base okc r N hp w o b→G' o b)→BlkRep r' N' G' (w.alloc o) (some w.heap.size) x) :
  Step base okc r N hp w (upd r id (some w.heap.size)) (zm N id) hp' (w.alloc o):=by
 have ne:∀i,N i→i≠id:=λi hi e=>hid (e▸hi);have hr:∀i,N i→upd r id (some w.heap.size) i=r i:=λi hi=>jQ _ (ne i hi);have hG:∀o' b,Gd base okc r N hp w o' b→Gd base okc (upd r id (some w.heap.size)) (zm N id) hp' (w.alloc o) o' b∧(w.alloc o).heap[b]? = w.heap[b]?:=λo' b ⟨h1,h2,h3⟩=>
  ⟨⟨Ωj,λi y hy hN=>by
    rcases hN with e|e
    ·simp_all
    ·subst e;rw[qw];intro e;cases e;omega,h3⟩,zl w o h1⟩
 refine⟨⟨h.below.alloc h.below.size _,λi y hy hN=>?_,λi y b hy hN hb=>?_,λi y i' y' b hy hN hy' hN' hb hb'=>?_⟩,hr,λi hi=>.inl hi,hG,Shapes.alloc w o⟩
 ·rcases hN with e|e
  ·rw[hr _ e]
   rw[hoth i e]at hy;exact(h.rep _ _ hy e).mono hr (λi hi=>.inl hi) hG (Shapes.alloc w o) λb hb=>zl w o (h.lt hy e hb)
  ·subst e
   rw[qw];rw[hat]at hy;cases hy;exact hx _ _ _ hr (qw _ _ _) (λi hi=>.inl hi) (.inr rfl) λo' b hb=>(hG o' b hb).1
 ·rcases hN with e|e
  ·rw[hr _ e]at hb;rw[hoth i e]at hy;exact h.own _ _ _ hy e hb
  ·subst e;rw[qw]at hb;cases hb;exact h.below.size
 ·rcases hN with e|e<;>rcases hN' with e'|e'
  ·rw[hr _ e]at hb
   rw[hr _ e']at hb';rw[hoth i e]at hy;rw[hoth i' e']at hy';exact h.inj _ _ _ _ _ hy e hy' e' hb hb'
  ·subst e'
   rw[qw]at hb';cases hb';rw[hr _ e]at hb;rw[hoth i e]at hy;exact absurd (h.lt hy e hb) Ω
  ·subst e
   rw[qw]at hb;cases hb;rw[hr _ e']at hb';rw[hoth i' e']at hy';exact absurd (h.lt hy' e' hb') Ω
  ·rw[e,e']
theorem qq(hp:List (Nat×Blk))(id j:Nat)(y:Blk):blk (setBlk hp id y) j=if j=id then(blk hp id).map (λ_=>y)else blk hp j:=by
 induction hp with
 |nil=>simp[setBlk,blk]
 |cons p hp ih=>
  obtain⟨i,v⟩:=p;simp only[setBlk];by_cases e:id=i
  ·subst e
   rw[if_pos rfl];simp only[blk];by_cases e':j=id
   ·subst e';simp
   ·simp[e']
  ·rw[if_neg e]
   simp only[blk,ih];by_cases e':j=i
   ·grind
   ·simp_all
theorem qv(hp:List (Nat×Blk))(id j:Nat):blk (dropBlk hp id) j=if j=id then none else blk hp j:=by
 induction hp with
 |nil=>simp[dropBlk,blk]
 |cons p hp ih=>
  obtain⟨i,v⟩:=p;simp only[dropBlk];by_cases e:id=i
  ·subst e
   rw[if_pos rfl,ih];simp only[blk]
   simp_all
  ·rw[if_neg e]
   simp only[blk,ih];by_cases e':j=i
   ·grind
   ·simp_all
theorem Sat.upd(h:Sat base okc r N hp w){id:Nat}(hm:blk hp id=some x)(hN:N id)(hr:r id=some b)(x':Blk)
  (hbel:Below base.heap.size base w') (hs:Shapes w w') (hsz:w.heap.size≤w'.heap.size) (ho:∀c,c≠b→w'.heap[c]? = w.heap[c]?)
  (hx':∀G',(∀o c,Gd base okc r N hp w o c→G' o c)→BlkRep r N G' w' (some b) x'):Step base okc r N hp w r N (setBlk hp id x') w':=by
 have hk:∀j y,blk (setBlk hp id x') j=some y→∃z,blk hp j=some z:=λj y hy=>by
  rw[qq]at hy;split at hy
  ·simp_all
  ·exact⟨y,hy⟩
 have hG:∀o c,Gd base okc r N hp w o c→Gd base okc r N (setBlk hp id x') w' o c∧w'.heap[c]? = w.heap[c]?:=λo c ⟨h1,h2,h3⟩=>
  ⟨⟨Ω,λi y hy hi=>let ⟨z,hz⟩:=hk i y hy;h2 i z hz hi,h3⟩,ho c λe=>h2 id x hm hN (e▸hr)⟩
 refine⟨⟨hbel,λi y hy hi=>?_,λi y c hy hi hc=>let ⟨z,hz⟩:=hk i y hy;h.own i z c hz hi hc,
  λi y i' y' c hy hi hy' hi' hc hc'=>let ⟨z,hz⟩:=hk i y hy;let ⟨z',hz'⟩:=hk i' y' hy';h.inj i z i' z' c hz hi hz' hi' hc hc'⟩,λ_ _=>rfl,λ_ h=>h,hG,hs⟩
 rw[qq]at hy;split at hy
 ·simp_all
 ·rename_i ne
  refine(h.rep i y hy hi).mono (λ_ _=>rfl) (λ_ h=>h) hG hs λc hc=>ho c λe=>?_;subst e;exact ne (h.inj _ _ _ _ _ hy hi hm hN hc hr)
theorem Sat.sub(h:Sat base okc r N hp w)(hs:∀id x,blk hp' id=some x→blk hp id=some x) :
  Step base okc r N hp w r N hp' w:=by
 have hG:∀o c,Gd base okc r N hp w o c→Gd base okc r N hp' w o c:=λo c ⟨h1,h2,h3⟩=>⟨h1,λi y hy=>h2 i y (hs _ _ hy),h3⟩;exact⟨⟨h.below,λi y hy hi=>(h.rep i y (hs _ _ hy) hi).mono (λ_ _=>rfl) (λ_ h=>h) (λo c hc=>⟨hG o c hc,rfl⟩) (Shapes.refl _) (λ_ _=>rfl),
  λi y c hy hi hc=>h.own i y c (hs _ _ hy) hi hc,λi y i' y' c hy hi hy' hi' hc hc'=>h.inj i y i' y' c (hs _ _ hy) hi (hs _ _ hy') hi' hc hc'⟩,λ_ _=>rfl,λ_ h=>h,λo c hc=>⟨hG o c hc,rfl⟩,Shapes.refl w⟩
theorem Shapes.below(h:Below w.heap.size w w'):Shapes w w':=λb cs t z hb=>⟨cs,(h.block b (Array.getElem?_eq_some_iff.1 hb).1).trans hb,rfl⟩
theorem Sat.grow(h:Sat base okc r N hp w)(hb:Below w.heap.size w w'):Step base okc r N hp w r N hp w':=by
 have hG:∀o c,Gd base okc r N hp w o c→Gd base okc r N hp w' o c∧w'.heap[c]? = w.heap[c]?:=λo c ⟨h1,h2,h3⟩=>⟨⟨xa9 h1 hb.size,h2,h3⟩,hb.block c h1⟩;exact⟨⟨h.below.trans (hb.mono h.below.size),λi y hy hi=>(h.rep i y hy hi).mono (λ_ _=>rfl) (λ_ h=>h) hG (Shapes.below hb) λb e=>hb.block b (h.lt hy hi e),
  h.own,h.inj⟩,λ_ _=>rfl,λ_ h=>h,hG,Shapes.below hb⟩
end Go.Sx
end
section
namespace Go.Sx
open Go.RowKit
variable{m:Nat}{t:TypeId}
inductive Lf:Type
 |i (k:IntKind)
 |b
deriving DecidableEq
def lfOk:Lf→Value→Bool
 |.i k,.int k' _=>decide (k=k')
 |.b,.bool _=>true
 |_,_=>false
def qY:List Lf→List Value→Bool
 |[],[]=>true
 |f :: l,v :: m=>lfOk f v&&qY l m
 |_,_=>false
def W9(n:Nat)(l:List Lf):List Lf:=match n with
 |0=>[]
 |n+1=>l++W9 n l
def eqV:Value→Value→Bool
 |.int _ a,.int _ b=>decide (a=b)
 |.bool a,.bool b=>decide (a=b)
 |_,_=>false
def eqVs:List Value→List Value→Bool
 |[],[]=>true
 |v :: l,u :: m=>eqV v u&&eqVs l m
 |_,_=>false
theorem wO:∀(x1 y1 x2 y2:List Value),x1.length=y1.length→eqVs (x1++x2) (y1++y2)=(eqVs x1 y1&&eqVs x2 y2)
 |[],[],x2,y2,_=>by simp[eqVs]
 |v :: x1,u :: y1,x2,y2,h=>by simp[eqVs,wO x1 y1 x2 y2 ΩN,Bool.and_assoc]
 |[],_ :: _,_,_,h=>by simp at h
 |_ :: _,[],_,_,h=>by simp at h
theorem zb:∀{l:List Lf}{m:List Value},qY l m=true→m.length=l.length
 |[],[],_=>rfl
 |[],_ :: _,h=>by simp[qY]at h
 |_ :: _,[],h=>by simp[qY]at h
 |f :: l,v :: m,h=>by
  simp only[qY,xe6]at h;simp[zb h.2]
theorem gh:∀{l l':List Lf}{m:List Value},qY (l++l') m=true→∃m1 m2,m=m1++m2∧qY l m1=true∧qY l' m2=true
 |[],l',m,h=>⟨[],m,rfl,rfl,h⟩
 |f :: l,l',[],h=>by simp[qY]at h
 |f :: l,l',v :: m,h=>by
  simp only[List.cons_append,qY,xe6]at h;obtain⟨m1,m2,rfl,h1,h2⟩:=gh h.2;exact⟨v :: m1,m2,rfl,by simp[qY,h.1,h1],h2⟩
def jE(g:TypeId→Option (List Lf))(P:Program):List Field→Nat→Option (List Lf)
 |[],_=>some []
 | f :: fs, o => if f.name ≠ "_" ∧ f.offset = o then
     match g f.type with
     |some l=>if P.cellsOf f.type=l.length then(match jE g P fs (o+l.length)with|some l'=>some (l++l')|none=>none)else none
     |none=>none
  else none
def zS:TypeDesc→Bool
 |.struct _=>true
 |.array _ _=>true
 |_=>false
def zq(P:Program):Nat→TypeId→Option (List Lf)
 |0,_=>none
 |m+1,t=>match P.underlying t with
  |some (.int k)=>some [.i k]
  |some .bool=>some [.b]
  |some (.struct fs)=>if P.stoodInHeld t=false then jE (zq P m) P fs.toList 0 else none
  |some (.array n e)=>match zq P m e with
   |some l=>if P.cellsOf e=l.length∧(P.info? e).isSome=true then some (W9 n l)else none
   |none=>none
  |_=>none
def mkV(P:Program)(t:TypeId)(xs:List Value):Value:=match P.underlying t with
 |some d=>if zS d=true then .agg xs.toArray else xs.headD undef
 |none=>undef
section
variable{P:Program}
variable{l:List Lf}
theorem QO(h:zq P m t=some l):∃d,P.underlying t=some d∧(zS d=false→l.length=1):=by
 cases m with
 |zero=>simp[zq]at h
 |succ m=>
  unfold zq at h;cases hu:P.underlying t with
  |none=>simp[hu]at h
  |some d=>
   refine⟨d,rfl,λhd=>?_⟩;rw[hu]at h;cases d<;>simp only[zS]at hd<;>simp only[reduceCtorEq]at h<;>first|(cases h;rfl)|cases hd
theorem vv(h:zq P m t=some l)(hs:P.cellsOf t=l.length)(a x b:List Value)(hx:x.length=l.length)(w:World) :
  (part t (a++(x++b)).toArray a.length).run P w=.ok (mkV P t x) w:=by
 obtain⟨d,hu,h1⟩:=QO h;unfold part mkV;simp only[isAgg,Sem.run_bind,run_underlying hu,Result.andThen_ok,hu];have hsz:(sizeOf t).run P w=.ok l.length w:=by
  obtain⟨i,hi⟩:=info_of_underlying hu;have:i.size=l.length:=by rw[←hs];simp[Program.cellsOf,hi]
  simp[sizeOf,typeInfo,hi,this]
 have hagg:zS d=true→(Sem.run P (sizeOf t) w).andThen (λn w=>Result.ok (Value.agg ((a++(x++b)).toArray.extract a.length (a.length+n))) w)=.ok (.agg x.toArray) w:=λ_=>by
  simp_all
 have hone:zS d=false→(a++(x++b)).toArray[a.length]? = some (x.headD undef):=λhd=>by
  have:=h1 hd;cases x with
  |nil=>simp at hx;omega
  |cons v x=>simp
 cases d<;>simp only[zS]at hagg hone ⊢
 all_goals first
  |(have:=hone trivial;simp only[Sem.run_pure,Result.andThen_ok,xe7,if_false,this])
  |(simp only[Sem.run_pure,Result.andThen_ok,if_true,Sem.run_bind];exact hagg trivial)
theorem Qj{k:IntKind}{x:List Value}(h:qY [.i k] x=true):∃n,x=[.int k n]:=by
 match x,h with
 |[],h=>simp[qY]at h
 |[v],h=>
  cases v<;>simp[qY,lfOk]at h
  simp_all
 |v :: u :: x,h=>simp[qY]at h
theorem wP{x:List Value}(h:qY [.b] x=true):∃n,x=[.bool n]:=by
 match x,h with
 |[],h=>simp[qY]at h
 |[v],h=>
  cases v<;>simp[qY,lfOk]at h
  exact⟨_,rfl⟩
 |v :: u :: x,h=>simp[qY]at h
def EqS(P:Program)(dd:Nat)(t:TypeId)(l:List Lf):Prop:=∀(w:World)(x y:List Value),qY l x=true→qY l y=true→(Op.equalIn dd t (mkV P t x) (mkV P t y)).run P w=.ok (eqVs x y) w
theorem KX(dd:Nat){g:TypeId→Option (List Lf)}(m:Nat)(hg:∀t l,g t=some l→zq P m t=some l∧EqS P dd t l):∀(fs:List Field)(o:Nat)(l:List Lf),jE g P fs o=some l→
  ∀(w:World)(a a' x y:List Value),a.length=o→a'.length=o→qY l x=true→qY l y=true→(Op.eqFields dd (a++x).toArray (a'++y).toArray fs).run P w=.ok (eqVs x y) w
 |[],o,l,h,w,a,a',x,y,ha,ha',hx,hy=>by
  simp only[jE,Option.some.injEq]at h;subst h;have:=zb hx;have:=zb hy;cases x<;>cases y<;>simp at *
  simp[Op.eqFields,eqVs]
 |f :: fs,o,l,h,w,a,a',x,y,ha,ha',hx,hy=>by
  simp only[jE]at h;split at h
  ·rename_i hf
   cases hgl:g f.type with
   |none=>rw[hgl]at h;cases h
   |some l1=>
    rw[hgl]at h;simp only[]at h;split at h
    ·rename_i hsz
     cases hl2:jE g P fs (o+l1.length)with
     |none=>rw[hl2]at h;cases h
     |some l2=>
      rw[hl2]at h;simp only[Option.some.injEq]at h;subst h;obtain⟨x1,x2,rfl,hx1,hx2⟩:=gh hx;obtain⟨y1,y2,rfl,hy1,hy2⟩:=gh hy;obtain⟨h1,h2⟩:=hg _ _ hgl;have l1x:=zb hx1;have l1y:=zb hy1;have p1:=vv h1 hsz a x1 x2 l1x w;have p2:=vv h1 hsz a' y1 y2 l1y w;have p3:=h2 w x1 y1 hx1 hy1;have ih:=KX dd m hg fs (o+l1.length) l2 hl2 w (a++x1) (a'++y1) x2 y2 (by simp[ha,l1x]) (by simp[ha',l1y]) hx2 hy2;rw[List.append_assoc,List.append_assoc]at ih;have ea:f.offset=a.length:=by rw[ha];exact hf.2
      have ea':a.length=a'.length:=by rw[ha,ha']
      simp only[Op.eqFields,if_pos hf.1,Sem.run_bind];rw[ea,p1];simp only[Result.andThen_ok];rw[ea',p2];simp only[Result.andThen_ok,p3];rw[wO _ _ _ _ (by rw[l1x,l1y])];cases e:eqVs x1 y1
      ·simp only[Bool.not_false,if_true,Sem.run_pure,xf2]
      ·simp only[Bool.not_true,xe7,if_false,xf0]
       exact ih
    ·cases h
  ·cases h
theorem JT(dd:Nat){e:TypeId}{m:Nat}{l:List Lf}(he:zq P m e=some l)(hs:P.cellsOf e=l.length)(hE:EqS P dd e l):∀(n i:Nat)(w:World)(a a' x y:List Value),a.length=i*l.length→a'.length=i*l.length→
  qY (W9 n l) x=true→qY (W9 n l) y=true→(Op.eqItems dd e (P.cellsOf e) (a++x).toArray (a'++y).toArray (List.range' i n)).run P w=.ok (eqVs x y) w
 |0,i,w,a,a',x,y,ha,ha',hx,hy=>by
  have:=zb hx;have:=zb hy;cases x<;>cases y<;>simp[W9]at *
  simp[Op.eqItems,eqVs]
 |n+1,i,w,a,a',x,y,ha,ha',hx,hy=>by
  simp only[W9]at hx hy;obtain⟨x1,x2,rfl,hx1,hx2⟩:=gh hx;obtain⟨y1,y2,rfl,hy1,hy2⟩:=gh hy;have l1x:=zb hx1;have l1y:=zb hy1;have p1:=vv he hs a x1 x2 l1x w;have p2:=vv he hs a' y1 y2 l1y w;have p3:=hE w x1 y1 hx1 hy1;have ih:=JT dd he hs hE n (i+1) w (a++x1) (a'++y1) x2 y2 (by simp[ha,l1x,Nat.succ_mul]) (by simp[ha',l1y,Nat.succ_mul]) hx2 hy2;rw[List.append_assoc,List.append_assoc]at ih;have ea:i*P.cellsOf e=a.length:=by rw[ha,hs]
  have ea':a.length=a'.length:=by rw[ha,ha']
  simp only[List.range'_succ,Op.eqItems,Sem.run_bind];rw[ea,p1];simp only[Result.andThen_ok];rw[ea',p2];simp only[Result.andThen_ok,p3];rw[wO _ _ _ _ (by rw[l1x,l1y])];cases e:eqVs x1 y1
  ·simp_all
  ·simp_all
theorem eqS:∀(m d:Nat)(t:TypeId)(l:List Lf),zq P m t=some l→EqS P (d+m) t l
 |0,d,t,l,h=>by simp[zq]at h
 |m+1,d,t,l,h=>by
  intro w x y hx hy;have h0:=h;unfold zq at h;cases hu:P.underlying t with
  |none=>simp[hu]at h
  |some D=>
   rw[hu]at h;cases D<;>simp only[reduceCtorEq]at h
   case int k=>
    cases h;obtain⟨n,rfl⟩:=Qj hx;obtain⟨n',rfl⟩:=Qj hy;simp only[mkV,hu,zS,xe7,if_false,List.headD_cons];rw[show d+(m+1)=(d+m)+1 from rfl,run_equalIn_int w (d+m) t k k n n' hu]
    congr 1
    simp only[eqVs,eqV,xf1]
    grind
   case bool=>
    cases h;obtain⟨n,rfl⟩:=wP hx;obtain⟨n',rfl⟩:=wP hy;simp only[mkV,hu,zS,xe7,if_false,List.headD_cons];rw[show d+(m+1)=(d+m)+1 from rfl,run_equalIn_bool w (d+m) t n n' hu]
    congr 1
    simp only[eqVs,eqV,xf1]
    grind
   case struct fs=>
    split at h
    ·rename_i hst
     have hf:P.fieldsOf t=fs:=by simp[Program.fieldsOf,hu]
     simp only[mkV,hu,zS,if_true];rw[show d+(m+1)=(d+m)+1 from rfl,run_equalIn_struct w (d+m) t _ _ (by rw[hf];exact hu) hst,hf];have:=KX (P:=P) (d+m) m (λt l ht=>⟨ht,eqS m d t l ht⟩) fs.toList 0 l h w [] [] x y rfl rfl hx hy;simpa using this
    ·cases h
   case array n e=>
    cases hl:zq P m e with
    |none=>rw[hl]at h;cases h
    |some l1=>
     rw[hl]at h;simp only[]at h;split at h
     ·rename_i hc
      cases h;obtain⟨i,hi⟩:=Option.isSome_iff_exists.1 hc.2;simp only[mkV,hu,zS,if_true];rw[show d+(m+1)=(d+m)+1 from rfl,run_equalIn_array w (d+m) _ _ hu hi];have:=JT (P:=P) (d+m) hl hc.1 (eqS m d e l1 hl) n 0 w [] [] x y Ωg Ωg hx hy;rw[List.range_eq_range'];simpa using this
     ·cases h
theorem qba{d:TypeDesc}(h:zq P m t=some l)(hm:m≤10000)(hd:P.underlying t=some d)(ha:zS d=true)(xs ys:Array Value)(hx:qY l xs.toList=true)(hy:qY l ys.toList=true)(w:World) :
  (Op.equal t (.agg xs) (.agg ys)).run P w=.ok (eqVs xs.toList ys.toList) w:=by
 have:=eqS (P:=P) m (10000 - m) t l h w xs.toList ys.toList hx hy;simp only[mkV,hd,ha,if_true]at this;rw[show 10000 - m+m=10000 by omega]at this;show(Op.equalIn 10000 t (.agg xs) (.agg ys)).run P w=_;omega
theorem Ya:∀{l:List Lf}{x y:List Value},qY l x=true→qY l y=true→(eqVs x y=true↔x=y)
 |[],[],[],_,_=>by simp[eqVs]
 |[],_ :: _,_,h,_=>by simp[qY]at h
 |[],[],_ :: _,_,h=>by simp[qY]at h
 |_ :: _,[],_,h,_=>by simp[qY]at h
 |_ :: _,_ :: _,[],_,h=>by simp[qY]at h
 |f :: l,v :: x,u :: y,h,h'=>by
  simp only[qY,xe6]at h h';simp only[eqVs,xe6,Ya h.2 h'.2,List.cons.injEq];have:eqV v u=true↔v=u:=by
   obtain⟨h1,-⟩:=h;obtain⟨h2,-⟩:=h';cases f<;>cases v<;>simp[lfOk]at h1<;>cases u<;>simp[lfOk]at h2
   ·subst h1;subst h2;simp[eqV]
   ·simp[eqV]
  rw[this]
end
end Go.Sx
end
section
namespace Go.Sx
open Go.RowKit
variable{t:TypeId}{k:IntKind}{sv x:SV}{u v:Value}{a b:Int}{op:BinOp}{obl:Prop}
inductive D:Type
 |int (k:IntKind)
 |bool
 |slice (e:TypeId) (k:Nat)
 |struct (fs:List (Nat×Nat×Option Bool))
 |array (n:Nat) (e:TypeId) (k:Nat)
 |map (kt et:TypeId)
 |other
structure TyI:Type where
 agg:Bool
 size:Nat
 zero:Option (List Value)
 d:D
def JU:TypeDesc→Bool
 |.struct _=>true
 |.array _ _=>true
 |_=>false
def dOf(P:Program):TypeDesc→D
 |.int k=>.int k
 |.bool=>.bool
 |.slice e=>match P.info? e with|some i=>.slice e i.size|none=>.other
 |.struct fs=>.struct (fs.toList.map λf=>(f.offset,P.cellsOf f.type,(P.underlying f.type).map JU))
 |.array n e=>match P.info? e with|some i=>.array n e i.size|none=>.other
 |.map k e=>.map k e
 |_=>.other
def qn(P:Program)(t:TypeId):Option TyI:=
 match P.info? t with
 |none=>none
 |some i=>match P.underlying t with
  |none=>none
  |some d=>some ⟨JU d,i.size,i.zero.map (·.cells.toList),dOf P d⟩
variable{ti:TyI}
theorem zD{P:Program}(h:qn P t=some ti):∃i d,P.info? t=some i∧P.underlying t=some d∧ti=⟨JU d,i.size,i.zero.map (·.cells.toList),dOf P d⟩:=by
 unfold qn at h;cases hi:P.info? t with
 |none=>simp[hi]at h
 |some i=>
  cases hd:P.underlying t with
  |none=>simp[hi,hd]at h
  |some d=>simp[hi,hd]at h;exact⟨i,d,rfl,rfl,h.symm⟩
theorem vQ{P:Program}(h:qn P t=some ti)(w:World):(isAgg t).run P w=.ok ti.agg w:=by
 obtain⟨i,d,hi,hd,rfl⟩:=zD h;simp only[isAgg,Sem.run_bind,run_underlying hd,Result.andThen_ok];cases d<;>rfl
theorem jg{P:Program}(h:qn P t=some ti)(w:World):(sizeOf t).run P w=.ok ti.size w:=by
 obtain⟨i,d,hi,hd,rfl⟩:=zD h;simp[sizeOf,typeInfo,hi]
theorem KY{P:Program}(h:qn P t=some ti){z:List Value}(hz:ti.zero=some z)(w:World):∃v,(zeroValue t).run P w=.ok v w∧v.cells.toList=z:=by
 obtain⟨i,d,hi,hd,rfl⟩:=zD h;cases hzi:i.zero with
 |none=>simp[hzi]at hz
 |some v=>refine⟨v,by simp[zeroValue,typeInfo,hi,hzi],by simpa[hzi]using hz⟩
inductive Res:Type
 |bad
 |pure (obl:Prop) (r:SV)
 |ex (obl:SV→Prop)
 |new (obl:Prop) (b:Blk) (mk:Nat→SV)
 |upd (obl:Prop) (id:Nat) (b:Blk)
 |updv (obl:Prop) (id:Nat) (b:Blk) (r:SV)
 |grow (obl:Prop) (old:Nat) (b:Blk) (mk:Nat→SV)
 |call (f:FuncId) (args:List SV)
 |yield (id:Nat) (args:List SV)
 |raw
def InK:IntKind→Int→Prop
 |.i64,n=>-9223372036854775808≤n∧n≤9223372036854775807
 |.i32,n=>-2147483648≤n∧n≤2147483647
 |.i16,n=>-32768≤n∧n≤32767
 |.i8,n=>-128≤n∧n≤127
 |.u64,n=>0≤n∧n≤18446744073709551615
 |.u32,n=>0≤n∧n≤4294967295
 |.u16,n=>0≤n∧n≤65535
 |.u8,n=>0≤n∧n≤255
theorem gp{n:Int}(h:InK k n):k.wrap n=n:=by
 cases k<;>simp only[InK]at h<;>simp only[IntKind.wrap,IntKind.bits,IntKind.signed]<;>simp<;>omega
def svIte(c:Bool)(a b:SV):SV:=if c=true then a else b
def oneCell:SV→Bool
 |.val (.agg _)=>false
 |.val (.tuple _)=>false
 |.val _=>true
 |.fn _ _ _=>true
 |.ptr _ _=>true
 |.elt _ _ _ _=>true
 |.ref _ _ _=>true
 |.arr _ _ _ _ _=>true
 |.vec _ _ _=>true
 |.mp _=>true
 |.cut _ _ _=>true
 |.cmp _ _ _ _=>true
 |_=>false
theorem Rep.one{r:Nat→Option Nat}{N:Nat→Prop}{G:Bool→Nat→Prop}{w:World}(h:Rep r N G w sv v)(h1:oneCell sv=true):v.oneCell'=true:=by
 cases h<;>first|rfl|(simp[oneCell]at h1;done)|skip
 cases v<;>first|rfl|(simp[oneCell]at h1;done)
def sel(row:Nat→SV):Nat→Nat→List SV
 |_,0=>[]
 |i,n+1=>row i :: sel row (i+1) n
theorem gV(row:Nat→SV)(n i:Nat):(sel row i n).length=n:=by
 induction n generalizing i with
 |zero=>rfl
 |succ n ih=>simp[sel,ih]
theorem yu(row:Nat→SV)(n i j:Nat):(sel row i n)[j]? = if j<n then some (row (i+j))else none:=by
 induction n generalizing i j with
 |zero=>simp[sel]
 |succ n ih=>
  cases j with
  |zero=>simp[sel]
  |succ j=>simp only[sel,xd7,ih];by_cases h:j<n<;>simp[h]<;>congr 1<;>omega
def rInt(op:BinOp)(k:IntKind)(a b:Int):Res:=
 match op with
 |.add=>.pure (InK k (a+b)) (.val (.int k (a+b)))
 |.sub=>.pure (InK k (a - b)) (.val (.int k (a - b)))
 |.mul=>.pure (InK k (a*b)) (.val (.int k (a*b)))
 |.quo=>.pure (b≠0∧InK k (a.tdiv b)) (.val (.int k (a.tdiv b)))
 |.rem=>.pure (b≠0) (.val (.int k (a.tmod b)))
 |.eql=>.pure True (.val (.bool (decide (a=b))))
 |.neq=>.pure True (.val (.bool (!decide (a=b))))
 |.lss=>.pure True (.val (.bool (decide (a<b))))
 |.leq=>.pure True (.val (.bool (decide (a≤b))))
 |.gtr=>.pure True (.val (.bool (decide (b<a))))
 |.geq=>.pure True (.val (.bool (decide (b≤a))))
 |.and=>.pure (0≤a∧InK k a∧0≤b∧InK k b) (.val (.int k ((a.toNat &&& b.toNat:Nat):Int)))
 |.or=>.pure (0≤a∧InK k a∧0≤b∧InK k b) (.val (.int k ((a.toNat ||| b.toNat:Nat):Int)))
 |.shl=>.pure (0≤b∧b.toNat≤k.bits∧InK k (a*2^b.toNat)) (.val (.int k (a*2^b.toNat)))
 |.shr=>.pure (0≤b∧b.toNat≤k.bits) (.val (.int k (a.fdiv (2^b.toNat))))
 |_=>.bad
def eqKind:IntKind→IntKind→Bool
 |.i64,.i64=>true
 |.u8,.u8=>true
 |.u32,.u32=>true
 |.u16,.u16=>true
 |.i32,.i32=>true
 |.u64,.u64=>true
 |_,_=>false
theorem vw{k':IntKind}(h:eqKind k k'=true):k=k':=by cases k<;>cases k'<;>simp[eqKind]at h ⊢
def qW(P:Program)(t:TypeId):Option (List Lf):=
 match P.underlying t with
 |some d=>if zS d=true∧P.eqGuardType P.depth t=false then zq P 12 t else none
 |none=>none
def fitS:List Lf→List SV→Bool
 |[],[]=>true
 |f :: l,.val v :: m=>lfOk f v&&fitS l m
 |_,_=>false
def eqSVs:List SV→List SV→Bool
 |[],[]=>true
 |.val u :: l,.val v :: m=>eqV u v&&eqSVs l m
 |_,_=>false
def rEq(P:Program)(op:BinOp)(t:TypeId)(l m:List SV):Res:=
 match qW P t with
 |some ls=>match op with
  |.eql=>.pure (fitS ls l=true∧fitS ls m=true) (.val (.bool (eqSVs l m)))
  |.neq=>.pure (fitS ls l=true∧fitS ls m=true) (.val (.bool (!eqSVs l m)))
  |_=>.bad
 |none=>.bad
def nilSlice:Value→Bool
 |.slice none 0 0=>true
 |_=>false
theorem gj(h:nilSlice v=true):v=.slice none 0 0:=by
 unfold nilSlice at h;split at h
 ·rfl
 ·cases h
def rNilS(P:Program)(op:BinOp)(t:TypeId)(obl:Prop)(isnil:Bool)(v:Value):Res:=
 match nilSlice v with
 |true=>match qn P t with
  |some ⟨_,_,_,.slice _ _⟩=>match op with
   |.eql=>.pure obl (.val (.bool isnil))
   |.neq=>.pure obl (.val (.bool (!isnil)))
   |_=>.bad
  |_=>.bad
 |false=>.bad
def rBin(P:Program)(op:BinOp)(t:TypeId)(x y:SV):Res:=
 match x,y with
 |.arr _ _ n _ _,.val v=>rNilS P op t (0<n) false v
 |.vec _ n _,.val v=>rNilS P op t (0<n) false v
 |.cut _ n _,.val v=>rNilS P op t (0<n) false v
 |.asl _ _ _ _,.val v=>rNilS P op t True false v
 |.val (.slice a n c),.val v=>rNilS P op t True a.isNone v
 |.val (.int k a),.val (.int k' b)=>if eqKind k k'=true then rInt op k a b else .bad
 |.val (.bool a),.val (.bool b)=>
  match qn P t with
  |some ⟨_,_,_,.bool⟩=>
   match op with
   |.eql=>.pure True (.val (.bool (decide (a=b))))
   |.neq=>.pure True (.val (.bool (!decide (a=b))))
   |_=>.bad
  |_=>.bad
 |.agg l,.agg m=>rEq P op t l m
 |_,_=>.bad
def rUn(op:UnOp)(x:SV):Res:=
 match op,x with
 |.neg,.val (.int k a)=>.pure (InK k (0 - a)) (.val (.int k (0 - a)))
 |.not,.val (.bool b)=>.pure True (.val (.bool (!b)))
 |_,_=>.bad
def rConv(s t:Option TyI)(x:SV):Res:=
 match s,t,x with
 |some _,some ⟨_,_,_,.int k⟩,.val (.int _ n)=>.pure (InK k n) (.val (.int k n))
 |_,_,_=>.bad
def rPick(c a b:SV):Res:=
 match c with
 |.val (.bool c)=>.pure True (svIte c a b)
 |_=>.bad
theorem Rep.ite{r:Nat→Option Nat}{N:Nat→Prop}{G:Bool→Nat→Prop}{w:World}{a b:SV}{x y:Value}(c:Bool)(h:Rep r N G w a x)(h':Rep r N G w b y) :
  Rep r N G w (svIte c a b) (if c=true then x else y):=by cases c<;>simpa[svIte]
section
variable{P:Program}{r:Nat→Option Nat}{N:Nat→Prop}{G:Bool→Nat→Prop}{w:World}
theorem qla(h0:0≤a)(h:InK k a):∃p,a.toNat<2^p∧p≤k.bits∧∀n:Nat,n<2^p→InK k n:=by
 cases k<;>simp only[InK]at h<;>simp only[IntKind.bits,InK]
 ·exact⟨7,Ω,Ω,λn hn=>by omega⟩
 ·exact⟨15,Ω,Ω,λn hn=>by omega⟩
 ·exact⟨31,Ω,Ω,λn hn=>by omega⟩
 ·exact⟨63,Ω,Ω,λn hn=>by omega⟩
 ·exact⟨8,Ω,Ω,λn hn=>by omega⟩
 ·exact⟨16,Ω,Ω,λn hn=>by omega⟩
 ·exact⟨32,Ω,Ω,λn hn=>by omega⟩
 ·exact⟨64,Ω,Ω,λn hn=>by omega⟩
theorem yv(h0:0≤a)(h:InK k a):(BitVec.ofInt k.bits a).toNat=a.toNat:=by
 obtain⟨p,h1,h2,_⟩:=qla h0 h;rw[BitVec.toNat_ofInt];have h3:a.toNat<2^k.bits:=xa9 h1 (Nat.pow_le_pow_right Ω h2);have e:a=(a.toNat:Int):=(Int.toNat_of_nonneg h0).symm;rw[e];rw[show(((a.toNat:Nat):Int) %((2^k.bits:Nat):Int))=((a.toNat % 2^k.bits:Nat):Int)from rfl,Int.toNat_natCast,Nat.mod_eq_of_lt h3,Int.toNat_natCast]
theorem qnE(h0:0≤a)(h:InK k a)(g0:0≤b)(g:InK k b):InK k ((a.toNat &&& b.toNat:Nat):Int)∧InK k ((a.toNat ||| b.toNat:Nat):Int):=by
 cases k<;>simp only[InK]at h g ⊢
 all_goals (
  have h1:a.toNat &&& b.toNat≤a.toNat:=Nat.and_le_left)
 ·have:=Nat.or_lt_two_pow (x:=a.toNat) (y:=b.toNat) (n:=7) Ω Ω;omega
 ·have:=Nat.or_lt_two_pow (x:=a.toNat) (y:=b.toNat) (n:=15) Ω Ω;omega
 ·have:=Nat.or_lt_two_pow (x:=a.toNat) (y:=b.toNat) (n:=31) Ω Ω;omega
 ·have:=Nat.or_lt_two_pow (x:=a.toNat) (y:=b.toNat) (n:=63) Ω Ω;omega
 ·have:=Nat.or_lt_two_pow (x:=a.toNat) (y:=b.toNat) (n:=8) Ω Ω;omega
 ·have:=Nat.or_lt_two_pow (x:=a.toNat) (y:=b.toNat) (n:=16) Ω Ω;omega
 ·have:=Nat.or_lt_two_pow (x:=a.toNat) (y:=b.toNat) (n:=32) Ω Ω;omega
 ·have:=Nat.or_lt_two_pow (x:=a.toNat) (y:=b.toNat) (n:=64) Ω Ω;omega
theorem qfg(t:TypeId)(h0:0≤a)(h:InK k a)(g0:0≤b)(g:InK k b):(binOp .and t (.int k a) (.int k b)).run P w=.ok (.int k ((a.toNat &&& b.toNat:Nat):Int)) w:=by
 rw[binOp_and];simp only[Op.intBits,Sem.run_pure,BitVec.toNat_and,yv h0 h,yv g0 g,gp (qnE h0 h g0 g).1]
theorem qgP(t:TypeId)(h0:0≤a)(h:InK k a)(g0:0≤b)(g:InK k b):(binOp .or t (.int k a) (.int k b)).run P w=.ok (.int k ((a.toNat ||| b.toNat:Nat):Int)) w:=by
 rw[binOp_or];simp only[Op.intBits,Sem.run_pure,BitVec.toNat_or,yv h0 h,yv g0 g,gp (qnE h0 h g0 g).2]
theorem qfh(t:TypeId)(h0:0≤b)(h1:b.toNat≤k.bits)(h:InK k (a*2^b.toNat)):(binOp .shl t (.int k a) (.int k b)).run P w=.ok (.int k (a*2^b.toNat)) w:=by
 rw[binOp_shl];simp only[Op.shift,if_neg (Ω:¬b<0),Nat.min_eq_left h1,Sem.run_pure,gp h]
theorem qfi(t:TypeId)(h0:0≤b)(h1:b.toNat≤k.bits):(binOp .shr t (.int k a) (.int k b)).run P w=.ok (.int k (a.fdiv (2^b.toNat))) w:=by
 rw[binOp_shr];simp only[Op.shift,if_neg (Ω:¬b<0),Nat.min_eq_left h1,Sem.run_pure]
theorem Yb(t:TypeId)(h:rInt op k a b=.pure obl sv)(ho:obl) :
  ∃v,(binOp op t (.int k a) (.int k b)).run P w=.ok v w∧sv=.val v:=by
 cases op<;>simp only[rInt,Res.pure.injEq,reduceCtorEq]at h<;>obtain⟨rfl,rfl⟩:=h
 case add=>exact⟨_,by rw[binOp_add];simp only[Op.intArith,Sem.run_pure,gp ho],rfl⟩
 case sub=>exact⟨_,by rw[binOp_sub];simp only[Op.intArith,Sem.run_pure,gp ho],rfl⟩
 case mul=>exact⟨_,by rw[binOp_mul];simp only[Op.intArith,Sem.run_pure,gp ho],rfl⟩
 case quo=>exact⟨_,by rw[binOp_quo];simp only[Op.intDiv,ho.1,if_false,Sem.run_pure,gp ho.2],rfl⟩
 case rem=>exact⟨_,by rw[binOp_rem];simp only[Op.intDiv,if_neg ho,Sem.run_pure],rfl⟩
 case eql=>exact⟨_,by rw[binOp_eql];simp only[Sem.run_pure];rfl,rfl⟩
 case neq=>exact⟨_,by rw[binOp_neq];simp only[Sem.run_pure];rfl,rfl⟩
 case lss=>exact⟨_,by rw[binOp_lss];simp only[Sem.run_pure],rfl⟩
 case leq=>exact⟨_,by rw[binOp_leq];simp only[Sem.run_pure],rfl⟩
 case gtr=>exact⟨_,by rw[binOp_gtr];simp only[Sem.run_pure],rfl⟩
 case geq=>exact⟨_,by rw[binOp_geq];simp only[Sem.run_pure],rfl⟩
 case and=>exact⟨_,qfg t ho.1 ho.2.1 ho.2.2.1 ho.2.2.2,rfl⟩
 case or=>exact⟨_,qgP t ho.1 ho.2.1 ho.2.2.1 ho.2.2.2,rfl⟩
 case shl=>exact⟨_,qfh t ho.1 ho.2.1 ho.2.2,rfl⟩
 case shr=>exact⟨_,qfi t ho.1 ho.2,rfl⟩
theorem run_equalIn_bool(d:Nat)(a b:Bool)(hd:P.underlying t=some .bool):(Op.equalIn (d+1) t (.bool a) (.bool b)).run P w=.ok (a == b) w:=by
 simp[Op.equalIn,run_underlying hd]
theorem VO(a b:Bool)(hd:P.underlying t=some .bool):(binOp .eql t (.bool a) (.bool b)).run P w=.ok (.bool (a == b)) w:=by
 show(Op.equalIn (9999+1) t (.bool a) (.bool b) >>= λc=>pure (Value.bool c)).run P w=_;rw[Sem.run_bind,run_equalIn_bool _ _ _ hd];rfl
theorem VP(a b:Bool)(hd:P.underlying t=some .bool):(binOp .neq t (.bool a) (.bool b)).run P w=.ok (.bool (!(a == b))) w:=by
 show(Op.equalIn (9999+1) t (.bool a) (.bool b) >>= λc=>pure (Value.bool (!c))).run P w=_;rw[Sem.run_bind,run_equalIn_bool _ _ _ hd];rfl
theorem KZ:∀{ls:List Lf}{l:List SV}{cs:List Value},fitS ls l=true→l.length=cs.length→(∀(i:Nat) sv,l[i]? = some sv→Rep r N G w sv (cs.getD i undef))→qY ls cs=true∧l=cs.map SV.val
 |[],[],[],_,_,_=>⟨rfl,rfl⟩
 |[],_ :: _,_,h,_,_=>by simp[fitS]at h
 |_ :: _,[],_,h,_,_=>by simp[fitS]at h
 |_,[],_ :: _,_,h,_=>by simp at h
 |_,_ :: _,[],_,h,_=>by simp at h
 |f :: ls,s :: l,c :: cs,h,hl,hr=>by
  cases s<;>simp only[fitS,xe7]at h
  simp only[xe6]at h;have h0:=hr 0 _ rfl;simp only[List.getD_cons_zero]at h0;cases h0;obtain⟨h1,h2⟩:=KZ h.2 Ω5 λi sv hi=>by simpa using hr (i+1) sv Ωah
  exact⟨by simp[qY,h.1,h1],by simp[h2]⟩
theorem JV:∀(x y:List Value),eqSVs (x.map SV.val) (y.map SV.val)=eqVs x y
 |[],[]=>rfl
 |[],_ :: _=>rfl
 |_ :: _,[]=>rfl
 |a :: x,b :: y=>by simp[eqSVs,eqVs,JV x y]
theorem qlb{l m:List SV}(h:rEq P op t l m=.pure obl sv)(ho:obl)(hx:Rep r N G w (.agg l) u)(hy:Rep r N G w (.agg m) v)(ox oy:Operand) :
  ∃z,(do eqGuard op t ox oy u v;binOp op t u v).run P w=.ok z w∧Rep r N G w sv z:=by
 unfold rEq at h;split at h
 ·rename_i ls hi
  unfold qW at hi;split at hi
  ·rename_i d hd
   split at hi
   ·rename_i hc
    cases hx with
    |agg _ cs hl hr=>
     cases hy with
     |agg _ ds hl' hr'=>
      have key:(fitS ls l=true∧fitS ls m=true)→(Op.equal t (.agg cs) (.agg ds)).run P w=.ok (eqSVs l m) w:=by
       rintro⟨h1,h2⟩;obtain⟨f1,e1⟩:=KZ (cs:=cs.toList) h1 Ω5 (λi sv hi=>by simpa using hr i sv hi);obtain⟨f2,e2⟩:=KZ (cs:=ds.toList) h2 (by simpa using hl') (λi sv hi=>by simpa using hr' i sv hi);rw[e1,e2,JV];exact qba hi Ω hd hc.1 cs ds f1 f2 w
      cases op<;>simp only[Res.pure.injEq,reduceCtorEq]at h
      ·obtain⟨rfl,rfl⟩:=h
       refine⟨_,?_,.val _⟩;rw[Sem.run_bind,run_eqGuard_agg w .eql t ox oy cs ds hc.2];simp only[Result.andThen_ok,binOp,Sem.run_bind,key ho,Sem.run_pure]
      ·obtain⟨rfl,rfl⟩:=h
       refine⟨_,?_,.val _⟩;rw[Sem.run_bind,run_eqGuard_agg w .neq t ox oy cs ds hc.2];simp only[Result.andThen_ok,binOp,Sem.run_bind,key ho,Sem.run_pure]
   ·cases hi
  ·cases hi
 ·cases h
theorem vR(P:Program)(op:BinOp)(t:TypeId)(o:Prop)(b:Bool)(v:Value):(∃obl sv,rNilS P op t o b v=.pure obl sv)∨rNilS P op t o b v=.bad:=by
 unfold rNilS;(repeat' split)<;>first|exact .inr rfl|exact .inl ⟨_,_,rfl⟩
theorem jR{o:Prop}{b:Bool}(h:rNilS P op t o b v=.pure obl sv)(ho:obl){v':Value}(hu:o→∃a n c,u=.slice a n c∧b=a.isNone)(hy:Rep r N G w (.val v) v')(ox oy:Operand) :
  ∃z,(do eqGuard op t ox oy u v';binOp op t u v').run P w=.ok z w∧Rep r N G w sv z:=by
 cases hy;unfold rNilS at h;split at h
 ·rename_i hn
  obtain rfl:=gj hn;split at h
  ·rename_i ag sz ze e k ht
   obtain⟨i,d,hi,hd,eq⟩:=zD ht;simp only[TyI.mk.injEq]at eq;have hd':∃e',d=.slice e':=by
    obtain⟨_,_,_,eq⟩:=eq;cases d<;>simp only[dOf]at eq<;>first|exact⟨_,rfl⟩|(split at eq<;>exact absurd eq Ωg)|exact absurd eq Ωg
   obtain⟨e',rfl⟩:=hd';cases op<;>simp only[Res.pure.injEq,reduceCtorEq]at h<;>obtain⟨rfl,rfl⟩:=h<;>obtain⟨a,n,c,rfl,rfl⟩:=hu ho
   ·refine⟨_,?_,.val _⟩
    rw[eqGuard_at_slice];exact Lib.run_eql_slice_nil w t e' a n c 0 0 hd
   ·refine⟨_,?_,.val _⟩
    rw[eqGuard_at_slice];exact run_neq_slice_nil_any w t e' a n c 0 0 hd
  ·simp at h
 ·simp at h
theorem qlc{y:SV}(h:rBin P op t x y=.pure obl sv)(ho:obl)(hx:Rep r N G w x u)(hy:Rep r N G w y v)(ox oy:Operand) :
  ∃z,(do eqGuard op t ox oy u v;binOp op t u v).run P w=.ok z w∧Rep r N G w sv z:=by
 unfold rBin at h;split at h
 ·refine jR h ho (λhn=>?_) hy ox oy
  cases hx with
  |arrNil=>omega
  |arr=>exact⟨_,_,_,rfl,rfl⟩
 ·refine jR h ho (λhn=>?_) hy ox oy
  cases hx with
  |vecNil=>omega
  |vec=>exact⟨_,_,_,rfl,rfl⟩
 ·refine jR h ho (λhn=>?_) hy ox oy
  cases hx with
  |cutNil=>omega
  |cut=>exact⟨_,_,_,rfl,rfl⟩
 ·refine jR h ho (λhn=>?_) hy ox oy
  cases hx with
  |asl=>exact⟨_,_,_,rfl,rfl⟩
 ·refine jR h ho (λhn=>?_) hy ox oy
  cases hx
  simp_all
 ·cases hx;cases hy
  split at h
  ·rename_i e
   obtain rfl:=vw e;obtain⟨z,hz,rfl⟩:=Yb (P:=P) (w:=w) t h ho;exact⟨z,by rw[eqGuard_at_int];simpa using hz,.val z⟩
  ·simp at h
 ·rename_i a b
  cases hx;cases hy;split at h
  ·rename_i ag sz ze ht
   obtain⟨i,d,hi,hd,e⟩:=zD ht;simp only[TyI.mk.injEq]at e;have hd':d=.bool:=by
    obtain⟨_,_,_,e⟩:=e;cases d<;>simp only[dOf]at e<;>first|rfl|(split at e<;>exact absurd e Ωg)|exact absurd e Ωg
   subst hd';cases op<;>simp only[Res.pure.injEq,reduceCtorEq]at h<;>obtain⟨rfl,rfl⟩:=h
   ·refine⟨_,?_,.val _⟩
    rw[eqGuard_at_bool];exact VO a b hd
   ·refine⟨_,?_,.val _⟩
    rw[eqGuard_at_bool];exact VP a b hd
  ·simp at h
 ·exact qlb h ho hx hy ox oy
 ·simp at h
theorem qoj{op:UnOp}(h:rUn op x=.pure obl sv)(ho:obl)(hx:Rep r N G w x u):∃z,(Op.unary op u).run P w=.ok z w∧Rep r N G w sv z:=by
 unfold rUn at h;split at h<;>simp only[Res.pure.injEq,reduceCtorEq]at h
 ·obtain⟨rfl,rfl⟩:=h
  cases hx;exact⟨_,by simp only[Op.unary,Op.intArith,Sem.run_pure,gp ho],.val _⟩
 ·obtain⟨rfl,rfl⟩:=h
  cases hx;exact⟨_,rfl,.val _⟩
theorem qgQ{s:TypeId}(h:rConv (qn P s) (qn P t) x=.pure obl sv)(ho:obl)(hx:Rep r N G w x u):∃z,(convert s t u).run P w=.ok z w∧Rep r N G w sv z:=by
 unfold rConv at h;split at h<;>simp only[Res.pure.injEq,reduceCtorEq]at h
 obtain⟨rfl,rfl⟩:=h;rename_i si ag sz ze k q n hs ht;cases hx;obtain⟨i,d,hi,hd,-⟩:=zD hs;obtain⟨i',d',hi',hd',e⟩:=zD ht;have hd'':d'=.int k:=by
  simp only[TyI.mk.injEq]at e;obtain⟨_,_,_,e⟩:=e;cases d'<;>simp only[dOf]at e<;>first|(cases e;rfl)|(split at e<;>exact absurd e Ωg)|exact absurd e Ωg
 subst hd'';refine⟨.int k n,?_,.val _⟩;simp only[convert,Sem.run_bind,run_underlying hd,run_underlying hd',Result.andThen_ok,Conv.intToInt,gp ho];cases d<;>rfl
end
end Go.Sx
end
section
namespace Go.Sx
open Go.RowKit
variable{e s t:TypeId}{ti:TyI}{u:Value}{i:Nat}{x:SV}
structure Ok(P:Program)(r:Nat→Option Nat)(N:Nat→Prop)(G:Bool→Nat→Prop)(w:World)(hp:List (Nat×Blk)):Prop where
 rep:∀id x,blk hp id=some x→N id→BlkRep r N G w (r id) x
def rLoad(ti:Option TyI)(hp:List (Nat×Blk))(a:SV):Res:=
 match ti with
 |some ⟨false,_,_,_⟩=>
  match a with
  |.ptr id off=>match blk hp id with
   |some (.cells _ l)=>.ex (λs=>l[off]? = some s)
   |_=>.bad
  |.elt id k i j=>match blk hp id with
   |some (.rows _ k' n row)=>.pure (k=k'∧i<n∧j<k) (row i j)
   |_=>.bad
  |.ref _ n row=>.pure (0<n) (row 0)
  |_=>.bad
 |some ⟨true,sz,_,_⟩=>
  match a with
  |.ptr id off=>match blk hp id with
   |some (.cells _ l)=>.pure (off+sz≤l.length) (.agg ((l.drop off).take sz))
   |_=>.bad
  |.elt id k i j=>match blk hp id with
   |some (.rows _ k' n row)=>.pure (k=k'∧i<n∧j+sz≤k) (.agg (sel (row i) j sz))
   |_=>.bad
  |.ref _ n row=>.pure (sz≤n) (.agg (sel row 0 sz))
  |_=>.bad
 |none=>.bad
def vals:List Value→List SV
 |[]=>[]
 |v :: l=>.val v :: vals l
def rAlloc(ti:Option TyI)(t:TypeId):Res:=
 match ti with
 |some ⟨_,_,some z,_⟩=>.new True (.cells t (vals z)) (λid=>.ptr id 0)
 |_=>.bad
def rBox(ti:Option TyI)(t:TypeId)(x:SV):Res:=
 match ti with
 |some ⟨true,_,_,_⟩=>match x with
  |.agg l=>.new True (.cells t l) (λid=>.ptr id 0)
  |_=>.bad
 |some ⟨false,_,_,_⟩=>.new (oneCell x=true) (.cells t [x]) (λid=>.ptr id 0)
 |none=>.bad
def allOne:List SV→Bool
 |[]=>true
 |s :: l=>oneCell s&&allOne l
def rStore(ti:Option TyI)(hp:List (Nat×Blk))(a v:SV):Res:=
 match ti with
 |some ⟨false,sz,_,_⟩=>
  match a with
  |.ptr id off=>match blk hp id with
   |some (.cells t l)=>.upd (off<l.length∧oneCell v=true∧sz=1) id (.cells t (l.set off v))
   |_=>.bad
  |.elt id k i j=>match blk hp id with
   |some (.rows t k' n row)=>.upd (k=k'∧i<n∧j<k∧oneCell v=true∧sz=1) id (.rows t k' n (λa b=>if a=i∧b=j then v else row a b))
   |_=>.bad
  |_=>.bad
 |some ⟨true,sz,_,_⟩=>
  match v with
  |.agg vs=>
   match a with
   |.ptr id off=>match blk hp id with
    |some (.cells t l)=>.upd (off+vs.length≤l.length∧vs.length=sz∧allOne vs=true) id (.cells t (l.take off++vs++l.drop (off+vs.length)))
    |_=>.bad
   |.elt id k i j=>match blk hp id with
    |some (.rows t k' n row)=>.upd (k=k'∧i<n∧j+vs.length≤k∧vs.length=sz∧allOne vs=true) id (.rows t k' n (λa b=>if a=i∧j≤b∧b<j+sz then vs.getD (b - j) .top else row a b))
    |_=>.bad
   |_=>.bad
  |_=>.bad
 |none=>.bad
def rNil(x:SV):Res:=
 match x with
 |.ptr id off=>.pure True (.ptr id off)
 |.elt id k i j=>.pure True (.elt id k i j)
 |.ref o n row=>.pure True (.ref o n row)
 |.fn (.func f) a b=>.pure True (.fn (.func f) a b)
 |_=>.bad
def rFieldAddr(ti:Option TyI)(x:SV)(i:Nat):Res:=
 match ti with
 |some ⟨_,_,_,.struct fs⟩=>
  match fs[i]? with
  |some (o,s,_)=>
   match x with
   |.ptr id off=>.pure (s≠0) (.ptr id (off+o))
   |.elt id k i j=>.pure (s≠0) (.elt id k i (j+o))
   |.ref b n row=>.pure (s≠0∧o≤n) (.ref b (n - o) (λj=>row (o+j)))
   |_=>.bad
  |none=>.bad
 |_=>.bad
def rField(ti:Option TyI)(x:SV)(i:Nat):Res:=
 match ti with
 |some ⟨_,_,_,.struct fs⟩=>
  match fs[i]? with
  |some (o,s,ag)=>
   match x with
   |.agg l=>match ag with
    |some true=>.pure (o+s≤l.length) (.agg ((l.drop o).take s))
    |some false=>.ex (λs=>l[o]? = some s)
    |none=>.bad
   |_=>.bad
  |none=>.bad
 |_=>.bad
def rIndexAddr(ti:Option TyI)(x i:SV):Res:=
 match i with
 |.val (.int _ i)=>
  match ti with
  |some ⟨_,_,_,.slice _ k⟩=>
   match x with
   |.arr o _ n k' row=>.pure (0≤i∧i<n∧k'=k) (.ref o k (row i.toNat))
   |.vec id n k'=>.pure (0≤i∧i<n∧k'=k) (.elt id k i.toNat 0)
   |.asl id off n k'=>.pure (0≤i∧i<n∧k'=k) (.ptr id (off+i.toNat*k))
   |.que id off n k'=>.pure (0≤i∧i<n∧k'=k) (.elt id k (off+i.toNat) 0)
   |_=>.bad
  |some ⟨_,_,_,.array n _ k⟩=>
   match x with
   |.ptr id off=>.pure (0≤i∧i<n) (.ptr id (off+i.toNat*k))
   |.ref o m row=>.pure (0≤i∧i<n∧i.toNat*k≤m) (.ref o (m - i.toNat*k) (λj=>row (i.toNat*k+j)))
   |_=>.bad
  |_=>.bad
 |_=>.bad
def rExtract(x:SV)(i:Nat):Res:=
 match x with
 |.tup l=>.ex (λs=>l[i]? = some s)
 |_=>.bad
section
variable{P:Program}{r:Nat→Option Nat}{N:Nat→Prop}{G:Bool→Nat→Prop}{w:World}{hp:List (Nat×Blk)}
def K1(P:Program)(r:Nat→Option Nat)(N:Nat→Prop)(G:Bool→Nat→Prop)(w:World)(s:Sem Value):Res→Prop
 |.pure obl sv=>obl→∃v,s.run P w=.ok v w∧Rep r N G w sv v
 |.ex obl=>∀sv,obl sv→∃v,s.run P w=.ok v w∧Rep r N G w sv v
 |_=>True
theorem qU(b o n:Nat):Addr.add ⟨b,o,none⟩ n=⟨b,o+n,none⟩:=by unfold Addr.add;split<;>simp_all
theorem zH{b:Nat}{cs:Array Value}{z:Nat×Nat}(h:w.heap[b]? = some (.cells cs t z))(j:Nat)(hj:j<cs.size):w.cell? ⟨b,j,none⟩=some (cs.getD j undef):=by
 simp[World.cell?,h,hj]
theorem vS(ht:qn P t=some ti)(ha:ti.agg=false){a:Addr}{v:Value}(hc:w.cell? a=some v):(Instr.loadAt t (.pointer (some a))).run P w=.ok v w:=by
 simp only[Instr.loadAt,Instr.sureAddr,loadVar,Sem.run_bind,Sem.run_pure,Result.andThen_ok,vQ ht,ha,xe7,if_false];simp[run_load,hc]
theorem vT(ht:qn P t=some ti)(ha:ti.agg=true){b off:Nat}(f:Nat→Value)(hc:∀j,j<ti.size→w.cell? ⟨b,off+j,none⟩=some (f j)) :
  (Instr.loadAt t (.pointer (some ⟨b,off,none⟩))).run P w=.ok (.agg ((List.range ti.size).map f).toArray) w:=by
 have h:=run_loadCells (P:=P) w ⟨b,off,none⟩ ti.size f (λj hj=>by rw[qU];exact hc j hj);simp only[Instr.loadAt,Instr.sureAddr,loadVar,Sem.run_bind,Sem.run_pure,Result.andThen_ok,vQ ht,ha,if_true,jg ht,h]
theorem Rep.agg_range{l:List SV}{f:Nat→Value}{n:Nat}(hl:l.length=n)(h:∀i sv,l[i]? = some sv→Rep r N G w sv (f i)):Rep r N G w (.agg l) (.agg ((List.range n).map f).toArray):=by
 refine .agg _ _ (by simp[hl]) λi sv hi=>?_;have:i<n:=by rw[←hl];exact(List.getElem?_eq_some_iff.1 hi).1
 simp_all
theorem run_load{a:SV}(hO:Ok P r N G w hp)(ha:Rep r N G w a u) :
  K1 P r N G w (Instr.loadAt t u) (rLoad (qn P t) hp a):=by
 unfold rLoad;split
 ·rename_i sz z d ht
  cases ha<;>try exact trivial
  case ptr id off b hN hr=>
   dsimp only;split<;>try exact trivial
   rename_i t' l hb;intro sv hsv;have:=hO.rep _ _ hb hN;rw[hr]at this;cases this with
   |cells _ _ _ cs hb' hl h=>
    have hlt:off<cs.size:=by rw[←hl];exact(List.getElem?_eq_some_iff.1 hsv).1
    exact⟨_,vS ht rfl (zH hb' off hlt),h off sv hsv⟩
  case elt id k i j b hN hr=>
   dsimp only;split<;>try exact trivial
   rename_i t' k' n row hb;rintro⟨rfl,hi,hj⟩;have:=hO.rep _ _ hb hN;rw[hr]at this;cases this with
   |rows _ _ _ _ _ cs hb' hl h=>
    have hlt:i*k+j<cs.size:=by
     have:i*k+k≤n*k:=by rw[←Nat.succ_mul];exact xa8 _ hi
     omega
    exact⟨_,vS ht rfl (zH hb' _ hlt),h i j hi hj⟩
  case ref o n row b off f hG hc h=>
   intro h0;exact⟨_,vS ht rfl (by have:=hc 0 h0;simpa using this),h 0 h0⟩
 ·rename_i sz z d ht
  cases ha<;>try exact trivial
  case ptr id off b hN hr=>
   dsimp only;split<;>try exact trivial
   rename_i t' l hb;intro hlen;have:=hO.rep _ _ hb hN;rw[hr]at this;cases this with
   |cells _ _ _ cs hb' hl h=>
    refine⟨_,vT ht rfl (λj=>cs.getD (off+j) undef) (λj hj=>zH hb' _ (by simp only at hj;omega)),Rep.agg_range Ωj λi sv hi=>?_⟩;rw[List.getElem?_take]at hi;split at hi
    ·rw[List.getElem?_drop]at hi;exact h _ sv hi
    ·cases hi
  case elt id k i j b hN hr=>
   dsimp only;split<;>try exact trivial
   rename_i t' k' n row hb;rintro⟨rfl,hi,hj⟩;have:=hO.rep _ _ hb hN;rw[hr]at this;cases this with
   |rows _ _ _ _ _ cs hb' hl h=>
    have hlt:i*k+k≤cs.size:=by
     have:i*k+k≤n*k:=by rw[←Nat.succ_mul];exact xa8 _ hi
     omega
    refine⟨_,vT ht rfl (λc=>cs.getD (i*k+j+c) undef) (λc hc=>zH hb' _ (by simp only at hc;omega)),Rep.agg_range (gV _ _ _) λc sv hc=>?_⟩;rw[yu]at hc;split at hc
    ·cases hc
     rename_i hcs;rw[xb2];exact h i (j+c) hi Ω
    ·cases hc
  case ref o n row b off f hG hc h=>
   intro h0;refine⟨_,vT ht rfl f (λj hj=>hc j (by simp only at hj;omega)),Rep.agg_range (gV _ _ _) λc sv hc=>?_⟩;rw[yu]at hc;split at hc
   ·cases hc
    rw[xb0];exact h c Ω
   ·cases hc
 ·trivial
theorem JW(ht:qn P t=some ti){fs:List (Nat×Nat×Option Bool)}(hd:ti.d=.struct fs) :
  ∃fds:Array Field,P.underlying t=some (.struct fds)∧fs=fds.toList.map λf=>(f.offset,P.cellsOf f.type,(P.underlying f.type).map JU):=by
 obtain⟨i,d,hi,hu,rfl⟩:=zD ht;cases d<;>simp only[dOf]at hd<;>first|(cases hd;exact⟨_,hu,rfl⟩)|(split at hd<;>exact absurd hd Ωg)|exact absurd hd Ωg
theorem K2(ht:qn P t=some ti){k:Nat}(hd:ti.d=.slice e k):∃i,P.underlying t=some (.slice e)∧P.info? e=some i∧i.size=k:=by
 obtain⟨i,d,hi,hu,rfl⟩:=zD ht;cases d<;>simp only[dOf]at hd
 case slice e'=>
  split at hd
  ·simp_all
  ·cases hd
 all_goals first|(split at hd<;>exact absurd hd Ωg)|exact absurd hd Ωg
theorem K3(ht:qn P t=some ti){n k:Nat}(hd:ti.d=.array n e k):∃i,P.underlying t=some (.array n e)∧P.info? e=some i∧i.size=k:=by
 obtain⟨i,d,hi,hu,rfl⟩:=zD ht;cases d<;>simp only[dOf]at hd
 case array n' e'=>
  split at hd
  ·simp_all
  ·cases hd
 all_goals first|(split at hd<;>exact absurd hd Ωg)|exact absurd hd Ωg
theorem zE{i:TypeInfo}(h:P.info? e=some i)(w:World):(sizeOf e).run P w=.ok i.size w:=by simp[sizeOf,typeInfo,h]
theorem vU{fds:Array Field}(hu:P.underlying s=some (.struct fds)){f:Field}(hf:fds[i]? = some f)(hz:P.cellsOf f.type≠0)(a:Addr) :
  (Instr.fieldAt s (.pointer (some a)) i).run P w=.ok (.pointer (some (a.add f.offset))) w:=by
 cases hi:P.info? f.type with
 |none=>simp[Program.cellsOf,hi]at hz
 |some ii=>
  have hs:ii.size≠0:=by simpa[Program.cellsOf,hi]using hz
  simp only[Instr.fieldAt,Sem.run_bind,run_underlying hu,Result.andThen_ok];simp only[hf,Instr.sureAddr,fieldPlace,Sem.run_bind,Sem.run_pure,Result.andThen_ok,zE hi,if_neg hs]
theorem Jx(hx:Rep r N G w x u) :
  K1 P r N G w (Instr.fieldAt s u i) (rFieldAddr (qn P s) x i):=by
 unfold rFieldAddr;split
 ·rename_i ag sz z fs ht
  obtain⟨fds,hu,rfl⟩:=JW ht rfl;split
  ·rename_i o s g hf
   rw[List.getElem?_map]at hf;cases hf':fds.toList[i]? with
   |none=>simp[hf']at hf
   |some f=>
    simp only[hf',xg1,Option.some.injEq,Prod.mk.injEq]at hf;obtain⟨rfl,rfl,_⟩:=hf;have hf'':fds[i]? = some f:=by simpa using hf'
    cases hx<;>try exact trivial
    case ptr id off b hN hr=>
     intro hz;exact⟨_,by rw[vU hu hf'' hz,qU],.ptr _ _ _ hN hr⟩
    case elt id k i j b hN hr=>
     intro hz;refine⟨_,by rw[vU hu hf'' hz,qU],?_⟩;rw[xb2];exact .elt _ _ _ _ _ hN hr
    case ref o n row b off g hG hc h=>
     rintro⟨hz,hn⟩;refine⟨_,by rw[vU hu hf'' hz,qU],.ref _ _ _ _ _ (λj=>g (f.offset+j)) hG (λj hj=>?_) (λj hj=>h _ Ω)⟩;rw[xb2];exact hc _ Ω
  ·trivial
 ·trivial
theorem Jy{i:SV}{v:Value}(hx:Rep r N G w x u)(hi:Rep r N G w i v) :
  K1 P r N G w (Instr.indexAt t u v) (rIndexAddr (qn P t) x i):=by
 unfold rIndexAddr;split
 ·rename_i kk i
  cases hi;split
  ·rename_i ag sz z e k ht
   obtain⟨ei,hu,hei,hk⟩:=K2 ht rfl;have key:∀(a:Addr)(n c:Nat),0≤i→i<n→(Instr.indexAt t (.slice (some a) n c) (.int kk i)).run P w=.ok (.pointer (some (a.add (i.toNat*k)))) w:=by
    intro a n c h0 h1;simp only[Instr.indexAt,asIntOf,Sem.run_bind,Sem.run_pure,Result.andThen_ok,run_underlying hu];simp only[h0,h1,and_self,if_true,Sem.run_bind,zE hei,Result.andThen_ok,Sem.run_pure,hk]
   cases hx<;>try exact trivial
   case arrNil=>rintro⟨h0,h1,_⟩;exact absurd h1 Ωj
   case arr o full n k' row b off cap f hG hf hcap hc h=>
    rintro⟨h0,h1,rfl⟩;have hi':i.toNat<n:=by omega
    refine⟨_,key _ _ _ h0 h1,?_⟩;rw[qU];exact .ref _ _ _ _ _ (f i.toNat) hG (λj hj=>by rw[xb2];exact hc _ _ hi' hj) (λj hj=>h _ _ hi' hj)
   case vecNil=>rintro⟨h0,h1,_⟩;exact absurd h1 Ωj
   case vec id n k' b cap cs t' hN hr hb hs hcap hm=>
    rintro⟨h0,h1,rfl⟩;refine⟨_,key _ _ _ h0 h1,?_⟩;rw[qU,xb0];exact .elt _ _ _ 0 _ hN hr
   case asl id off n k' b cap hN hr hcap=>
    rintro⟨h0,h1,rfl⟩;refine⟨_,key _ _ _ h0 h1,?_⟩;rw[qU];exact .ptr _ _ _ hN hr
   case queNil=>rintro⟨h0,h1,_⟩;exact absurd h1 Ωj
   case que id off n k' b cap cs t' hN hr hb hs hcap hm=>
    rintro⟨h0,h1,rfl⟩;refine⟨_,key _ _ _ h0 h1,?_⟩;rw[qU,←Nat.add_mul];exact .elt _ _ _ 0 _ hN hr
  ·rename_i ag sz z n e k ht
   obtain⟨ei,hu,hei,hk⟩:=K3 ht rfl;have key:∀(a:Addr),0≤i→i<n→(Instr.indexAt t (.pointer (some a)) (.int kk i)).run P w=.ok (.pointer (some (a.add (i.toNat*k)))) w:=by
    intro a h0 h1;simp only[Instr.indexAt,asIntOf,Sem.run_bind,Sem.run_pure,Result.andThen_ok,run_underlying hu,Instr.sureAddr];simp only[h0,h1,and_self,if_true,Sem.run_bind,zE hei,Result.andThen_ok,Sem.run_pure,hk]
   cases hx<;>try exact trivial
   case ptr id off b hN hr=>
    rintro⟨h0,h1⟩;refine⟨_,key _ h0 h1,?_⟩;rw[qU];exact .ptr _ _ _ hN hr
   case ref o m row b off f hG hc h=>
    rintro⟨h0,h1,h2⟩;refine⟨_,key _ h0 h1,?_⟩;rw[qU];exact .ref _ _ _ _ _ (λj=>f (i.toNat*k+j)) hG (λj hj=>by rw[xb2];exact hc _ Ω) (λj hj=>h _ Ω)
  ·trivial
 ·trivial
theorem Yc(hx:Rep r N G w x u) :
  K1 P r N G w (Instr.extract u i) (rExtract x i):=by
 cases hx<;>try exact trivial
 case tup l cs hl h=>
  intro sv hsv;have hlt:i<cs.size:=by rw[←hl];exact(List.getElem?_eq_some_iff.1 hsv).1
  refine⟨cs.getD i undef,?_,h i sv hsv⟩;simp[Instr.extract,hlt]
theorem qfj(hx:Rep r N G w x u) :
  K1 P r N G w (Instr.field s u i) (rField (qn P s) x i):=by
 unfold rField;split
 ·rename_i ag sz z fs ht
  obtain⟨fds,hu,rfl⟩:=JW ht rfl;split
  ·rename_i o s g hf
   rw[List.getElem?_map]at hf;cases hf':fds.toList[i]? with
   |none=>simp[hf']at hf
   |some f=>
    simp only[hf',xg1,Option.some.injEq,Prod.mk.injEq]at hf;obtain⟨rfl,rfl,rfl⟩:=hf;have hf'':fds[i]? = some f:=by simpa using hf'
    cases hx<;>try exact trivial
    case agg l cs hl h=>
     cases hd:P.underlying f.type with
     |none=>exact trivial
     |some d=>
      have hag:(isAgg f.type).run P w=.ok (JU d) w:=by
       simp only[isAgg,Sem.run_bind,run_underlying hd,Result.andThen_ok];cases d<;>rfl
      cases ha:JU d with
      |false=>
       simp only[xg1,ha];intro sv hsv;have hlt:f.offset<cs.size:=by rw[←hl];exact(List.getElem?_eq_some_iff.1 hsv).1
       refine⟨_,?_,h _ sv hsv⟩;simp only[Instr.field,Sem.run_bind,run_underlying hu,Result.andThen_ok,hf'',asAgg,Sem.run_pure,part,hag,ha,xe7,if_false];simp[hlt]
      |true=>
       simp only[xg1,ha];intro hlen;cases hi:P.info? f.type with
       |none=>simp[Program.underlying,hi]at hd
       |some ii=>
        have hcs:P.cellsOf f.type=ii.size:=by simp[Program.cellsOf,hi]
        rw[hcs]at hlen ⊢;refine⟨.agg (cs.extract f.offset (f.offset+ii.size)),?_,.agg _ _ Ωj λc sv hc=>?_⟩
        ·simp only[Instr.field,Sem.run_bind,run_underlying hu,Result.andThen_ok,hf'',asAgg,Sem.run_pure,part,hag,ha,if_true,zE hi]
        ·rw[List.getElem?_take]at hc
         split at hc
         ·rw[List.getElem?_drop]at hc
          have:=h _ sv hc;have hlt:f.offset+c<cs.size:=by rw[←hl];exact(List.getElem?_eq_some_iff.1 hc).1
          have e:(cs.extract f.offset (f.offset+ii.size)).getD c undef=cs.getD (f.offset+c) undef:=by
           simp only[xf5,Array.getElem?_extract];rw[if_pos Ω]
          rw[e];exact this
         ·cases hc
  ·trivial
 ·trivial
end
end Go.Sx
end
section
namespace Go.Sx
open Go.RowKit
section
variable{P:Program}{base:World}{okc:Nat→Prop}{r:Nat→Option Nat}{N:Nat→Prop}{w:World}{hp:List (Nat×Blk)}
def QP(P:Program)(base:World)(okc:Nat→Prop)(r:Nat→Option Nat)(N:Nat→Prop)(hp:List (Nat×Blk))(w:World)(s:Sem Value):Res→Prop
 |.new obl b mk=>obl→∀id hp',¬N id→blk hp' id=some b→(∀j,N j→blk hp' j=blk hp j)→∃v w' r',s.run P w=.ok v w'∧Step base okc r N hp w r' (zm N id) hp' w'∧Rep r' (zm N id) (Gd base okc r' (zm N id) hp' w') w' (mk id) v
 |_=>True
def qgR(P:Program)(base:World)(okc:Nat→Prop)(r:Nat→Option Nat)(N:Nat→Prop)(hp:List (Nat×Blk))(w:World)(s:Sem Unit):Res→Prop
 |.upd obl id b=>obl→∃w',s.run P w=.ok () w'∧Step base okc r N hp w r N (setBlk hp id b) w'
 |_=>True
theorem Sat.ok(h:Sat base okc r N hp w):Ok P r N (Gd base okc r N hp w) w hp:=⟨h.rep⟩
theorem gk(z:List Value):(vals z).length=z.length:=by induction z<;>simp[vals, *]
theorem K4(z:List Value)(i:Nat):(vals z)[i]? =(z[i]?).map SV.val:=by
 induction z generalizing i with
 |nil=>simp[vals]
 |cons a z ih=>cases i<;>simp[vals,ih]
theorem ZC(h:Sat base okc r N hp w)(t:TypeId)(l:List SV)(cs:Array Value)(hl:l.length=cs.size)(hc:∀i sv,l[i]? = some sv→Rep r N (Gd base okc r N hp w) w sv (cs.getD i undef))(id:Nat){hp':List (Nat×Blk)}(hid:¬N id)(hat:blk hp' id=some (.cells t l))(hoth:∀j,N j→blk hp' j=blk hp j) :
  ∃r',r' id=some w.heap.size∧Step base okc r N hp w r' (zm N id) hp' (w.alloc (.cells cs t)):=
 ⟨_,qw _ _ _,h.new id hid _ _ hat hoth λr' N' G' h1 h2 h3 h4 h5=>.cells t l _ cs (qH w _) hl λi sv hi=>
  (hc i sv hi).mono h1 h3 (λo b hb=>⟨h5 o b hb,zl w _ hb.1⟩) (Shapes.alloc w _)⟩
theorem qfk(h:Sat base okc r N hp w)(t:TypeId):QP P base okc r N hp w (Instr.alloc t true (.tuple #[])) (rAlloc (qn P t) t):=by
 unfold rAlloc;split
 ·rename_i ag sz z d ht
  intro _ id hp' hid hat hoth;obtain⟨v,hv,hz⟩:=KY ht rfl w;obtain⟨r',hr',hs⟩:=ZC h t (vals z) v.cells (by rw[gk,←hz];simp) (λi sv hi=>by
   rw[K4,←hz]at hi;cases hv':v.cells.toList[i]? with
   |none=>simp[hv']at hi
   |some u=>
    simp only[hv',xg1,Option.some.injEq]at hi;subst hi;have:v.cells.getD i undef=u:=by simp at hv';simp[hv']
    rw[this];exact .val u) id hid hat hoth
  refine⟨.pointer (some ⟨w.heap.size,0,none⟩),_,r',?_,hs,.ptr _ _ _ (.inr rfl) hr'⟩;simp only[Instr.alloc,Sem.run_bind,hv,Result.andThen_ok,newVar,newRow,run_newObj,Sem.run_pure];rfl
 ·trivial
theorem yw{v:Value}(h:v.oneCell'=true):v.cells = #[v]:=by cases v<;>simp[Value.oneCell',Value.cells]at h ⊢
theorem qld(h:Sat base okc r N hp w)(t:TypeId){x:SV}{u:Value}(hx:Rep r N (Gd base okc r N hp w) w x u):QP P base okc r N hp w (Instr.box t u) (rBox (qn P t) t x):=by
 unfold rBox;split
 ·split
  ·rename_i l
   intro _ id hp' hid hat hoth;cases hx with
   |agg _ cs hl hc=>
    obtain⟨r',hr',hs⟩:=ZC h t l cs hl hc id hid hat hoth;refine⟨.pointer (some ⟨w.heap.size,0,none⟩),_,r',?_,hs,.ptr _ _ _ (.inr rfl) hr'⟩;simp only[Instr.box,newVar,newRow,Value.cells,Sem.run_bind,run_newObj,Result.andThen_ok,Sem.run_pure];rfl
  ·trivial
 ·intro h1 id hp' hid hat hoth
  obtain⟨r',hr',hs⟩:=ZC h t [x] #[u] rfl (λi sv hi=>by
   cases i with
   |zero=>simp at hi;subst hi;exact hx
   |succ i=>simp at hi) id hid hat hoth
  refine⟨.pointer (some ⟨w.heap.size,0,none⟩),_,r',?_,hs,.ptr _ _ _ (.inr rfl) hr'⟩;simp only[Instr.box,newVar,newRow,yw (hx.one h1),Sem.run_bind,run_newObj,Result.andThen_ok,Sem.run_pure];rfl
 ·trivial
theorem zj(w:World)(g:Nat)(cs:Array Value){c:Nat}(h:c≠g):(w.setRow g cs).heap[c]? = w.heap[c]?:=by
 simp only[World.setRow,Array.getElem?_modify]
 grind
theorem Kc(w:World)(g:Nat)(cs:Array Value):(w.setRow g cs).heap.size=w.heap.size:=by simp[World.setRow]
theorem gq{B:Nat}{a w:World}(h:Below B a w){g:Nat}(hg:B≤g)(cs:Array Value):Below B a (w.setRow g cs):=
 h.trans ⟨rfl,rfl,rfl,by rw[Kc];exact xa5 _,λk hk=>zj w g cs Ω⟩
theorem kT{w:World}{g:Nat}{old cs:Array Value}{t:TypeId}{z:Nat×Nat}(hg:w.heap[g]? = some (.cells old t z))(hs:cs.size=old.size):Shapes w (w.setRow g cs):=by
 intro b cs' t' z' hb;by_cases e:b=g
 ·subst e
  rw[hg]at hb;cases hb;exact⟨cs,setRow_heap w b old cs t z hg,hs⟩
 ·exact⟨cs',(zj w g cs e).trans hb,rfl⟩
theorem Kd:∀{vs:List SV},allOne vs=true→∀s∈vs,oneCell s=true
 |[],_,s,hs=>by cases hs
 |a :: l,h,s,hs=>by
  simp only[allOne,xe6]at h;rcases List.mem_cons.1 hs with e|e
  ·subst e;exact h.1
  ·exact Kd h.2 s e
theorem zI(h:Sat base okc r N hp w){id:Nat}{x:Blk}(hm:blk hp id=some x)(hN:N id){b:Nat}(hr:r id=some b){t:TypeId}{cs:Array Value}(hb:w.heap[b]? = some (.cells cs t (0,0)))
  (off:Nat) (vs:List Value) (hlen:off+vs.length≤cs.size) (h1:∀v∈vs,v.oneCell'=true) (x':Blk)
  (hx':∀G' w' cs',w'.heap[b]? = some (.cells cs' t (0,0))→cs'.size=cs.size→(∀j,cs'.getD j undef=if off≤j∧j<off+vs.length then vs.getD (j - off) undef else cs.getD j undef)→
   (∀sv v,Rep r N (Gd base okc r N hp w) w sv v→Rep r N G' w' sv v)→BlkRep r N G' w' (some b) x') :
  ∃w',(storeCells ⟨b,off,none⟩ vs).run P w=.ok () w'∧Step base okc r N hp w r N (setBlk hp id x') w':=by
 have hrun:=run_storeCells_at P b off t vs 0 cs w hb (by simpa using hlen) h1;simp only[xb1]at hrun;have hcs:(cs.toList.take off++vs++cs.toList.drop (off+vs.length)).toArray.size=cs.size:=by simp;omega
 have hsh:=kT hb hcs;refine⟨_,hrun,h.upd hm hN hr x' (gq h.below (h.own _ _ _ hm hN hr) _) hsh ΩW (λc hc=>zj w b _ hc) λG' hG'=>?_⟩;refine hx' G' _ _ (setRow_heap w b cs _ t _ hb) hcs (λj=>?_) λsv v hv=>hv.mono (λ_ _=>rfl) (λ_ h=>h) (λo c hc=>⟨hG' o c hc,zj w b _ λe=>hc.2.1 id x hm hN (e▸hr)⟩) hsh;simp only[xf5,xe2];by_cases hj:off≤j∧j<off+vs.length
 ·grind
 ·grind
theorem qfl(h:Sat base okc r N hp w)(t:TypeId){a v:SV}{p u:Value}(ha:Rep r N (Gd base okc r N hp w) w a p)(hv:Rep r N (Gd base okc r N hp w) w v u) :
  qgR P base okc r N hp w (Instr.storeAt t p u) (rStore (qn P t) hp a v):=by
 unfold rStore;split
 ·rename_i sz z d ht
  split
  ·rename_i id off
   split
   ·rename_i t' l hb
    rintro⟨hoff,h1,rfl⟩;cases ha with
    |ptr _ _ b hN hr=>
     have hm:=hb;have hrep:=h.rep _ _ hm hN;rw[hr]at hrep;cases hrep with
     |cells _ _ _ cs hb' hl hc=>
      have h1':=hv.one h1;obtain⟨w',hrun,hst⟩:=zI (P:=P) h hm hN hr hb' off [u] Ωj (λx hx=>by simp at hx;subst hx;exact h1') (.cells t' (l.set off v)) (λG' w' cs' hw' hsz hget hrep=>by
       refine .cells _ _ _ cs' hw' (by simp[hl,hsz]) λi sv hi=>?_;rw[hget];rw[List.getElem?_set]at hi;by_cases e:off=i
       ·simp_all
       ·rw[if_neg e]at hi
        rw[if_neg Ωj];exact hrep _ _ (hc i sv hi))
      refine⟨w',?_,hst⟩;simp only[Instr.storeAt,Instr.sureAddr,storeVar,yw h1',Sem.run_bind,Sem.run_pure,Result.andThen_ok,jg ht];simpa using hrun
   ·trivial
  ·rename_i id k i j
   split
   ·rename_i t' k' n row hb
    rintro⟨rfl,hi,hj,h1,rfl⟩;cases ha with
    |elt _ _ _ _ b hN hr=>
     have hm:=hb;have hrep:=h.rep _ _ hm hN;rw[hr]at hrep;cases hrep with
     |rows _ _ _ _ _ cs hb' hl hc=>
      have h1':=hv.one h1;have hik:i*k+k≤n*k:=by rw[←Nat.succ_mul];exact xa8 _ hi
      obtain⟨w',hrun,hst⟩:=zI (P:=P) h hm hN hr hb' (i*k+j) [u] Ωj (λx hx=>by simp at hx;subst hx;exact h1') (.rows t' k n (λa b=>if a=i∧b=j then v else row a b)) (λG' w' cs' hw' hsz hget hrep=>by
       refine .rows _ _ _ _ _ cs' hw' Ω λa c ha hc'=>?_;rw[hget];by_cases e:a=i∧c=j
       ·simp_all
       ·rw[if_neg e,if_neg]
        ·simp_all
        ·rintro⟨e1,e2⟩
         simp only[xe4,List.length_nil]at e2;have e3:a*k+c=i*k+j:=by omega
         have:a=i:=by
          have h1:(a*k+c) / k=a:=by rw[Nat.mul_comm,Nat.mul_add_div Ω,Nat.div_eq_of_lt hc'];omega
          have h2:(i*k+j) / k=i:=by rw[Nat.mul_comm,Nat.mul_add_div Ω,Nat.div_eq_of_lt hj];omega
          rw[←h1,←h2,e3]
         subst this;exact e ⟨rfl,Ω⟩)
      refine⟨w',?_,hst⟩;simp only[Instr.storeAt,Instr.sureAddr,storeVar,yw h1',Sem.run_bind,Sem.run_pure,Result.andThen_ok,jg ht];simpa using hrun
   ·trivial
  ·trivial
 ·rename_i sz z d ht
  split
  ·rename_i vs
   cases hv with
   |agg _ us hus hrv=>
    have hone:allOne vs=true→∀x∈us.toList,x.oneCell'=true:=λh1 x hx=>by
     obtain⟨i,hi,rfl⟩:=List.getElem_of_mem hx;have hi':i<vs.length:=by rw[hus];simpa using hi
     have:=(hrv i vs[i] (by simp[hi'])).one (Kd h1 _ (List.getElem_mem hi'))
     simp_all
    have hrv':∀i sv,vs[i]? = some sv→Rep r N (Gd base okc r N hp w) w sv (us.toList.getD i undef):=λi sv hi=>by
     simp_all
    split
    ·rename_i id off
     split
     ·rename_i t' l hb
      rintro⟨hoff,rfl,h1⟩;cases ha with
      |ptr _ _ b hN hr=>
       have hm:=hb;have hrep:=h.rep _ _ hm hN;rw[hr]at hrep;cases hrep with
       |cells _ _ _ cs hb' hl hc=>
        obtain⟨w',hrun,hst⟩:=zI (P:=P) h hm hN hr hb' off us.toList Ωj (hone h1) (.cells t' (l.take off++vs++l.drop (off+vs.length))) (λG' w' cs' hw' hsz hget hrep=>by
         refine .cells _ _ _ cs' hw' Ωj λi sv hi=>?_;rw[hget];have hul:us.toList.length=vs.length:=by simp[hus]
         rw[hul];by_cases hj:off≤i∧i<off+vs.length
         ·rw[List.append_assoc,xd0 Ωj,xc9 Ωj]at hi
          have:min off l.length=off:=by omega
          rw[xd9,this]at hi;rw[if_pos hj];exact hrep _ _ (hrv' _ sv hi)
         ·rw[if_neg hj]
          refine hrep _ _ (hc i sv ?_);by_cases hj':i<off
          ·rw[List.append_assoc,xc9 Ωj,List.getElem?_take_of_lt hj']at hi
           exact hi
          ·rw[xd0 Ωj,List.getElem?_drop]at hi
           have e:off+vs.length+(i -(l.take off++vs).length)=i:=by simp;omega
           rwa [e]at hi)
        refine⟨w',?_,hst⟩;simp only[Instr.storeAt,Instr.sureAddr,storeVar,Value.cells,Sem.run_bind,Sem.run_pure,Result.andThen_ok,jg ht]
        simp_all
     ·trivial
    ·rename_i id k i j
     split
     ·rename_i t' k' n row hb
      rintro⟨rfl,hi,hj,rfl,h1⟩;cases ha with
      |elt _ _ _ _ b hN hr=>
       have hm:=hb;have hrep:=h.rep _ _ hm hN;rw[hr]at hrep;cases hrep with
       |rows _ _ _ _ _ cs hb' hl hc=>
        have hik:i*k+k≤n*k:=by rw[←Nat.succ_mul];exact xa8 _ hi
        obtain⟨w',hrun,hst⟩:=zI (P:=P) h hm hN hr hb' (i*k+j) us.toList Ωj (hone h1) (.rows t' k n (λa b=>if a=i∧j≤b∧b<j+vs.length then vs.getD (b - j) .top else row a b)) (λG' w' cs' hw' hsz hget hrep=>by
         refine .rows _ _ _ _ _ cs' hw' Ω λa c ha hc'=>?_;rw[hget];have hul:us.toList.length=vs.length:=by simp[hus]
         rw[hul];by_cases e:a=i∧j≤c∧c<j+vs.length
         ·grind
         ·rw[if_neg e,if_neg]
          ·simp_all
          ·rintro⟨e1,e2⟩
           have hcase:a<i∨a=i∨i<a:=by omega
           rcases hcase with h|h|h
           ·have:a*k+k≤i*k:=by rw[←Nat.succ_mul];exact xa8 _ h
            omega
           ·grind
           ·have:i*k+k≤a*k:=by rw[←Nat.succ_mul];exact xa8 _ h
            omega)
        refine⟨w',?_,hst⟩;simp only[Instr.storeAt,Instr.sureAddr,storeVar,Value.cells,Sem.run_bind,Sem.run_pure,Result.andThen_ok,jg ht]
        simp_all
     ·trivial
    ·trivial
  ·trivial
 ·trivial
end
end Go.Sx
end
section
namespace Go.Sx
open Go.RowKit
variable{k n:Nat}
section
variable{P:Program}{base:World}{okc:Nat→Prop}{r:Nat→Option Nat}{N:Nat→Prop}{G:Bool→Nat→Prop}{w:World}{hp:List (Nat×Blk)}
theorem Sat.exch(h:Sat base okc r N hp w){w':World}(id:Nat)(hid:¬N id)(old:Option Nat){hp':List (Nat×Blk)}(b:Blk)(nb:Option Nat)
  (hat:blk hp' id=some b) (hoth:∀j,N j→some j≠old→blk hp' j=blk hp j) (hdrop:∀o,old=some o→blk hp' o=none)
  (hbel:Below base.heap.size base w') (hs:Shapes w w') (hsz:w.heap.size≤w'.heap.size)
  (hunch:∀c,c<w.heap.size→(∀o x,old=some o→blk hp o=some x→N o→r o=some c→False)→w'.heap[c]? = w.heap[c]?)
  (hnb:∀c,nb=some c→(∃o x,old=some o∧blk hp o=some x∧N o∧r o=some c)∨w.heap.size≤c)
  (hx:∀r' N' G',(∀i,N i→r' i=r i)→(∀i,N i→N' i)→(∀o c,Gd base okc r N hp w o c→G' o c∧w'.heap[c]? = w.heap[c]?)→(∀o c,w.heap.size≤c→c<w'.heap.size→nb≠some c→G' o c)→BlkRep r' N' G' w' nb b) :
  Step base okc r N hp w (Go.Sx.upd r id nb) (zm N id) hp' w':=by
 have ne:∀i,N i→i≠id:=λi hi e=>hid (e▸hi);have hr:∀i,N i→Go.Sx.upd r id nb i=r i:=λi hi=>jQ _ (ne i hi);have hback:∀i y,N i→blk hp' i=some y→some i≠old∧blk hp i=some y:=λi y hi hy=>by
  grind
 have hG:∀o' c,Gd base okc r N hp w o' c→Gd base okc (Go.Sx.upd r id nb) (zm N id) hp' w' o' c∧w'.heap[c]? = w.heap[c]?:=λo' c ⟨h1,h2,h3⟩=>
  ⟨⟨Ω,λi y hy hN=>by
    rcases hN with e|e
    ·simp_all
    ·subst e
     rw[qw];intro e;rcases hnb c e with⟨o,x,_,hx1,hx2,hx3⟩|h4
     ·simp_all
     ·omega,h3⟩,hunch c h1 λo x _ hx1 hx2 hx3=>h2 o x hx1 hx2 hx3⟩
 have hlow:∀c,nb=some c→base.heap.size≤c:=λc e=>by
  rcases hnb c e with⟨o,x,_,hx1,hx2,hx3⟩|h4
  ·exact h.own o x c hx1 hx2 hx3
  ·have:=h.below.size;omega
 refine⟨⟨hbel,λi y hy hN=>?_,λi y c hy hN hc=>?_,λi y i' y' c hy hN hy' hN' hc hc'=>?_⟩,hr,λi hi=>.inl hi,hG,hs⟩
 ·rcases hN with e|e
  ·rw[hr _ e]
   obtain⟨h1,h2⟩:=hback i y e hy;refine(h.rep _ _ h2 e).mono hr (λi hi=>.inl hi) hG hs λc hc=>hunch c (h.lt h2 e hc) λo x ho hx1 hx2 hx3=>?_;exact h1 ((h.inj _ _ _ _ _ h2 e hx1 hx2 hc hx3)▸ho.symm)
  ·subst e
   rw[qw];rw[hat]at hy;cases hy;refine hx _ _ _ hr (λi hi=>.inl hi) hG λo c h1 h2 h3=>⟨h2,λj y hy hN=>?_,?_⟩
   ·rcases hN with e|e
    ·rw[hr _ e];intro e';exact absurd (h.lt (hback j y e hy).2 e e') Ω
    ·subst e;rw[qw];exact h3
   ·have:=h.below.size
    grind
 ·rcases hN with e|e
  ·rw[hr _ e]at hc;exact h.own _ _ _ (hback i y e hy).2 e hc
  ·subst e;rw[qw]at hc;exact hlow c hc
 ·have cross:∀i y,N i→blk hp' i=some y→r i=some c→nb=some c→False:=λi y hi hy hrc hnc=>by
   obtain⟨h1,h2⟩:=hback i y hi hy;rcases hnb c hnc with⟨o,x,ho,hx1,hx2,hx3⟩|h4
   ·exact h1 ((h.inj _ _ _ _ _ h2 hi hx1 hx2 hrc hx3)▸ho.symm)
   ·exact absurd (h.lt h2 hi hrc) Ω
  rcases hN with e|e<;>rcases hN' with e'|e'
  ·rw[hr _ e]at hc
   rw[hr _ e']at hc';exact h.inj _ _ _ _ _ (hback i y e hy).2 e (hback i' y' e' hy').2 e' hc hc'
  ·subst e'
   rw[qw]at hc'
   simp_all
  ·subst e
   rw[qw]at hc
   simp_all
  ·rw[e,e']
def rowsOf(hp:List (Nat×Blk))(x:SV):Option (Prop×Nat×Nat×(Nat→Nat→SV)):=
 match x with
 |.arr _ _ n k row=>some (True,n,k,row)
 |.vec id n k=>match blk hp id with
  |some (.rows _ k' n' row)=>some (n≤n'∧k=k',n,k,row)
  |_=>none
 |.cut id n k=>match blk hp id with
  |some (.rows _ k' n' row)=>some (n≤n'∧k=k',n,k,row)
  |_=>none
 |.asl id off n k=>match blk hp id with
  |some (.cells _ l)=>some (off+n*k≤l.length,n,k,λi j=>l.getD (off+(i*k+j)) .top)
  |_=>none
 |.val u=>if nilSlice u=true then some (True,0,1,λ_ _=>.top)else none
 |_=>none
structure ZD(r:Nat→Option Nat)(N:Nat→Prop)(G:Bool→Nat→Prop)(w:World)(u:Value)(n k:Nat)(row:Nat→Nat→SV)(a:Option Addr)(cap:Nat)(f:Nat→Nat→Value):Prop where
 eq:u=.slice a n cap
 le:n≤cap
 at':n=0∨∃b off,a=some ⟨b,off,none⟩∧∀i j,i<n→j<k→w.cell? ⟨b,off+(i*k+j),none⟩=some (f i j)
 rep:∀i j,i<n→j<k→Rep r N G w (row i j) (f i j)
theorem zN{i j:Nat}(hi:i<n)(hj:j<k):i*k+j<n*k:=by
 have:i*k+k≤n*k:=by rw[←Nat.succ_mul];exact xa8 _ hi
 omega
theorem zY(hO:Ok P r N G w hp){x:SV}{u:Value}(hx:Rep r N G w x u){obl:Prop}{row:Nat→Nat→SV}(hr:rowsOf hp x=some (obl,n,k,row))(ho:obl) :
  ∃a cap f,ZD r N G w u n k row a cap f:=by
 unfold rowsOf at hr;cases hx with
 |arrNil o full k' row' a cap hf=>
  simp only[Option.some.injEq,Prod.mk.injEq]at hr;obtain⟨rfl,rfl,rfl,rfl⟩:=hr;exact⟨a,cap,λ_ _=>undef,rfl,xb6 _,.inl rfl,λi j hi=>by omega⟩
 |arr o full n' k' row' b off cap f hG hf hcap hc h=>
  simp only[Option.some.injEq,Prod.mk.injEq]at hr;obtain⟨rfl,rfl,rfl,rfl⟩:=hr;exact⟨_,cap,f,rfl,hcap,.inr ⟨b,off,rfl,hc⟩,h⟩
 |val v=>
  simp only at hr;split at hr
  ·rename_i e
   obtain rfl:=gj e;simp only[Option.some.injEq,Prod.mk.injEq]at hr;obtain⟨rfl,rfl,rfl,rfl⟩:=hr;exact⟨none,0,λ_ _=>undef,rfl,xb6 _,.inl rfl,λi j hi=>by omega⟩
  ·cases hr
 |vecNil id k' hN hrn=>
  simp only at hr;split at hr
  ·simp only[Option.some.injEq,Prod.mk.injEq]at hr
   obtain⟨rfl,rfl,rfl,rfl⟩:=hr;exact⟨none,0,λ_ _=>undef,rfl,xb6 _,.inl rfl,λi j hi=>by omega⟩
  ·cases hr
 |vec id n' k' b cap cs t hN hrn hb hs hcap hm=>
  simp only at hr;split at hr
  ·rename_i t' k'' n'' row'' hblk
   simp only[Option.some.injEq,Prod.mk.injEq]at hr;obtain⟨rfl,rfl,rfl,rfl⟩:=hr;obtain⟨h1,rfl⟩:=ho;have:=hO.rep _ _ hblk hN;rw[hrn]at this;cases this with
   |rows _ _ _ _ _ cs' hb' hl hrep=>
    refine⟨_,cap,λi j=>cs'.getD (i*k'+j) undef,rfl,hcap,.inr ⟨b,0,rfl,λi j hi hj=>?_⟩,λi j hi hj=>hrep i j Ω hj⟩;rw[xb0];exact zH hb' _ (xa9 (zN (xa9 hi h1) hj) hl)
  ·cases hr
 |cutNil id k' hN hrn=>
  simp only at hr;split at hr
  ·simp only[Option.some.injEq,Prod.mk.injEq]at hr
   obtain⟨rfl,rfl,rfl,rfl⟩:=hr;exact⟨none,0,λ_ _=>undef,rfl,xb6 _,.inl rfl,λi j hi=>by omega⟩
  ·cases hr
 |cut id n' k' b hN hrn=>
  simp only at hr;split at hr
  ·rename_i t' k'' n'' row'' hblk
   simp only[Option.some.injEq,Prod.mk.injEq]at hr;obtain⟨rfl,rfl,rfl,rfl⟩:=hr;obtain⟨h1,rfl⟩:=ho;have:=hO.rep _ _ hblk hN;rw[hrn]at this;cases this with
   |rows _ _ _ _ _ cs' hb' hl hrep=>
    refine⟨_,n',λi j=>cs'.getD (i*k'+j) undef,rfl,xa5 _,.inr ⟨b,0,rfl,λi j hi hj=>?_⟩,λi j hi hj=>hrep i j Ω hj⟩;rw[xb0];exact zH hb' _ (xa9 (zN (xa9 hi h1) hj) hl)
  ·cases hr
 |asl id off n' k' b cap hN hrn hcap=>
  simp only at hr;split at hr
  ·rename_i t' l hblk
   simp only[Option.some.injEq,Prod.mk.injEq]at hr;obtain⟨rfl,rfl,rfl,rfl⟩:=hr;have:=hO.rep _ _ hblk hN;rw[hrn]at this;cases this with
   |cells _ _ _ cs' hb' hl hrep=>
    refine⟨_,cap,λi j=>cs'.getD (off+(i*k'+j)) undef,rfl,hcap,.inr ⟨b,off,rfl,λi j hi hj=>?_⟩,λi j hi hj=>hrep _ _ ?_⟩
    ·exact zH hb' _ (by have:=zN hi hj;omega)
    ·have:=zN hi hj
     grind
  ·cases hr
 |_=>simp only at hr;cases hr
def qG(f:Nat→Nat→Value)(n k:Nat):List Value:=(List.range (n*k)).map λx=>f (x / k) (x % k)
theorem qu(f:Nat→Nat→Value)(n k:Nat):(qG f n k).length=n*k:=by simp[qG]
theorem kU(f:Nat→Nat→Value)(n k i j:Nat)(hi:i<n)(hj:j<k):(qG f n k)[i*k+j]? = some (f i j):=by
 have h:=zN hi hj;have h1:(i*k+j) / k=i:=by rw[Nat.mul_comm,Nat.mul_add_div Ω,Nat.div_eq_of_lt hj];omega
 have h2:(i*k+j) % k=j:=by rw[Nat.mul_comm,Nat.mul_add_mod,Nat.mod_eq_of_lt hj]
 simp[qG,h,h1,h2]
theorem gW{f:Nat→Nat→Value}{b off:Nat}(hc:∀i j,i<n→j<k→w.cell? ⟨b,off+(i*k+j),none⟩=some (f i j))(hk:0<k) :
  ∀x u,(qG f n k)[x]? = some u→w.cell? ((⟨b,off,none⟩:Addr).add x)=some u:=λx u hx=>by
 have hlt:x<n*k:=by have:=(List.getElem?_eq_some_iff.1 hx).1;rwa [qu]at this
 have hi:x / k<n:=(Nat.div_lt_iff_lt_mul hk).2 hlt;have hj:x % k<k:=Nat.mod_lt _ hk;have hx':x / k*k+x % k=x:=by rw[Nat.mul_comm];exact Nat.div_add_mod x k
 have:=hc _ _ hi hj;rw[qU,←hx',this];rw[←hx',kU f n k _ _ hi hj]at hx;exact hx
theorem wQ{f:Nat→Nat→Value}{row:Nat→Nat→SV}{n k:Nat}(hrep:∀i j,i<n→j<k→Rep r N G w (row i j) (f i j))(h1:∀i j,i<n→j<k→oneCell (row i j)=true)(hk:0<k):∀u∈qG f n k,u.oneCell'=true:=λu hu=>by
 obtain⟨x,hx,rfl⟩:=List.mem_map.1 hu;have hlt:x<n*k:=by simpa using hx
 have hi:x / k<n:=(Nat.div_lt_iff_lt_mul hk).2 hlt;have hj:x % k<k:=Nat.mod_lt _ hk;exact(hrep _ _ hi hj).one (h1 _ _ hi hj)
end
end Go.Sx
end
section
namespace Go.Sx
open Go.RowKit
variable{e t:TypeId}{k m n:Nat}{news olds:List Value}{f1 f2:Nat→Nat→Value}{hp':List (Nat×Blk)}{row1 row2:Nat→Nat→SV}{u v:Value}
def qF(P:Program)(e:TypeId):Nat:=match P.info? e with|some i=>i.bytes|none=>0
def oneRows(m k:Nat)(row:Nat→Nat→SV):Prop:=∀i j,i<m→j<k→oneCell (row i j)=true
def rAppend(P:Program)(t:TypeId)(hp:List (Nat×Blk))(s x:SV):Res:=
 match qn P t with
 |some ⟨_,_,_,.slice e k⟩=>match qn P e with
  |some ⟨_,_,some z,_⟩=>match rowsOf hp x with
   |some (obl2,m,k2,row2)=>match s with
    |.vec id n k'=>match blk hp id with
     |some (.rows t' k'' n' row)=>.grow (obl2∧(m=0∨k2=k)∧k'=k∧k''=k∧t'=e∧n≤n'∧0<k∧z.length=k∧oneRows m k row2∧n+m≤1000000∧qF P e≤100000000)
       id (.rows e k (n+m) (λi j=>if i<n then row i j else row2 (i - n) j)) (λid=>.vec id (n+m) k)
     |_=>.bad
    |.val u=>match nilSlice u with
     |true=>.new (obl2∧(m=0∨k2=k)∧0<k∧z.length=k∧m≤1000000∧qF P e≤100000000) (.rows e k m row2) (λid=>.vec id m k)
     |false=>.bad
    |.cut _ _ _=>match rowsOf hp s with
     |some (obl1,n,k1,row1)=>.new (obl1∧obl2∧0<m∧(n=0∨k1=k)∧k2=k∧0<k∧z.length=k∧n+m≤1000000∧qF P e≤100000000) (.rows e k (n+m) (λi j=>if i<n then row1 i j else row2 (i - n) j)) (λid=>.vec id (n+m) k)
     |none=>.bad
    |.arr _ true _ _ _=>match rowsOf hp s with
     |some (obl1,n,k1,row1)=>.new (obl1∧obl2∧0<m∧(n=0∨k1=k)∧k2=k∧0<k∧z.length=k∧n+m≤1000000∧qF P e≤100000000) (.rows e k (n+m) (λi j=>if i<n then row1 i j else row2 (i - n) j)) (λid=>.vec id (n+m) k)
     |none=>.bad
    |_=>.bad
   |none=>.bad
  |_=>.bad
 |_=>.bad
section
variable{P:Program}{base:World}{okc:Nat→Prop}{r:Nat→Option Nat}{N:Nat→Prop}{G:Bool→Nat→Prop}{w:World}{hp:List (Nat×Blk)}
def qpS(P:Program)(base:World)(okc:Nat→Prop)(r:Nat→Option Nat)(N:Nat→Prop)(hp:List (Nat×Blk))(w:World)(s:Sem Value):Res→Prop
 |.grow obl old b mk=>obl→∀id hp',¬N id→blk hp' id=some b→(∀j,N j→j≠old→blk hp' j=blk hp j)→blk hp' old=none→
   ∃v w' r',s.run P w=.ok v w'∧Step base okc r N hp w r' (zm N id) hp' w'∧Rep r' (zm N id) (Gd base okc r' (zm N id) hp' w') w' (mk id) v
 |_=>True
def qpT(P:Program)(base:World)(okc:Nat→Prop)(r:Nat→Option Nat)(N:Nat→Prop)(hp:List (Nat×Blk))(w:World)(s:Sem Value):Res→Prop
 |.updv obl id b sv=>obl→∃v w',s.run P w=.ok v w'∧Step base okc r N hp w r N (setBlk hp id b) w'∧Rep r N (Gd base okc r N (setBlk hp id b) w') w' sv v
 |_=>True
theorem kZ(t ty e:TypeId)(i:TypeInfo)(ht:P.underlying t=some (.slice e))(hi:P.info? e=some i)(b a:Option Addr)(n cap c:Nat)(h:n≤cap) :
  (Builtin.append_ #[t,t] ty #[.slice b n cap,.slice a 0 c]).run P w=.ok (.slice b n cap) w:=by
 cases a<;>cases b<;>simp[Builtin.append_,run_underlying ht,sizeOf,typeInfo,hi,Builtin.lenOf,h,Builtin.firstCells,loadCells,loadCellsFrom,storeCells]
theorem zF{ag:Bool}{sz:Nat}{z:Option (List Value)}(ht:qn P t=some ⟨ag,sz,z,.slice e k⟩):P.underlying t=some (.slice e)∧∃i,P.info? e=some i∧i.size=k:=by
 obtain⟨i,hu,hi,hs⟩:=K2 ht rfl
 simp_all
theorem vV{i:TypeInfo}(hi:P.info? e=some i){ag:Bool}{sz:Nat}{z:List Value}{d:D}(ht:qn P e=some ⟨ag,sz,some z,d⟩):∃zv,i.zero=some zv∧zv.cells.toList=z:=by
 obtain⟨i',d',hi',hd',e⟩:=zD ht;rw[hi]at hi';cases hi';simp only[TyI.mk.injEq]at e;obtain⟨_,_,e,_⟩:=e;cases hz:i.zero with
 |none=>rw[hz]at e;simp at e
 |some zv=>rw[hz]at e;simp at e;exact⟨zv,rfl,e.symm⟩
theorem yx(w:World)(need old:Nat)(h:need≤1000000):grownCap w need old e≤maxLen:=grownCap_le_maxLen w need old e (by simp[maxLen];omega)
theorem Yd(h1:olds=qG f1 n k)(h2:news=qG f2 m k)(rest:List Value){i j:Nat}(hi:i<n+m)(hj:j<k) :
  (olds++news++rest).toArray.getD (i*k+j) undef=if i<n then f1 i j else f2 (i - n) j:=by
 subst h1;subst h2;simp only[xf5,xe2];by_cases h:i<n
 ·rw[if_pos h,List.append_assoc,xc9 (by rw[qu];exact zN h hj),kU _ _ _ _ _ h hj]
  rfl
 ·rw[if_neg h]
  have hle:n*k≤i*k:=xa8 _ Ω;have hlt:=zN (Ω:i - n<m) hj;rw[Nat.sub_mul]at hlt;rw[xc9 (by simp[qu];omega),xd0 (by rw[qu];omega),qu];have e:i*k+j - n*k=(i - n)*k+j:=by rw[Nat.sub_mul];omega
  rw[e,kU _ _ _ _ _ Ω hj];rfl
theorem vW(h:Sat base okc r N hp w)(id:Nat)(hid:¬N id)(old:Option Nat){gc:Nat}{rest:List Value}
  (hat:blk hp' id=some (.rows e k (n+m) (λi j=>if i<n then row1 i j else row2 (i - n) j))) (hoth:∀j,N j→some j≠old→blk hp' j=blk hp j) (hdrop:∀o,old=some o→blk hp' o=none)
  (h1:olds=qG f1 n k) (h2:news=qG f2 m k) (hrest:rest.length=(gc -(n+m))*k) (hgc:n+m≤gc) (hgm:gc≤maxLen)
  (hr1:∀i j,i<n→j<k→Rep r N (Gd base okc r N hp w) w (row1 i j) (f1 i j)) (hr2:∀i j,i<m→j<k→Rep r N (Gd base okc r N hp w) w (row2 i j) (f2 i j)) :
  ∃r',Step base okc r N hp w r' (zm N id) hp' (w.drew.alloc (.cells (olds++news++rest).toArray e))∧
   Rep r' (zm N id) (Gd base okc r' (zm N id) hp' (w.drew.alloc (.cells (olds++news++rest).toArray e))) (w.drew.alloc (.cells (olds++news++rest).toArray e)) (.vec id (n+m) k) (.slice (some ⟨w.heap.size,0,none⟩) (n+m) gc):=by
 have hlen:(olds++news++rest).toArray.size=gc*k:=by
  subst h1;subst h2;simp only[List.size_toArray,xc8,qu,hrest,←Nat.add_mul]
  congr 1;omega
 have hbel:Below w.heap.size w (w.drew.alloc (.cells (olds++news++rest).toArray e)):=⟨rfl,rfl,rfl,Ωg,λc hc=>zl w.drew _ hc⟩;have hnew:(w.drew.alloc (.cells (olds++news++rest).toArray e)).heap[w.heap.size]? = some (.cells (olds++news++rest).toArray e):=qH w.drew _;have hst:=h.exch (w':=w.drew.alloc (.cells (olds++news++rest).toArray e)) id hid old _ (some w.heap.size) hat hoth hdrop (h.below.trans (hbel.mono h.below.size)) (Shapes.below hbel) hbel.size
  (λc hc _=>hbel.block c hc) (λc hc=>.inr (by cases hc;exact xa5 _)) λr' N' G' hr' hN' hG' _=>by
   refine .rows _ _ _ _ _ _ hnew (by rw[hlen];exact xa8 _ hgc) λi j hi hj=>?_;rw[Yd h1 h2 rest hi hj];by_cases hin:i<n
   ·rw[if_pos hin,if_pos hin];exact(hr1 i j hin hj).mono hr' hN' hG' (Shapes.below hbel)
   ·rw[if_neg hin,if_neg hin];exact(hr2 _ j Ω hj).mono hr' hN' hG' (Shapes.below hbel)
 exact⟨_,hst,.vec _ _ _ _ _ _ _ (.inr rfl) (qw _ _ _) hnew hlen hgc hgm⟩
theorem kH(z:Array Value)(n:Nat):(Builtin.zeroCells z n).toList.length=n*z.size:=by simp[size_zeroCells]
theorem K5{need cap bytes:Nat}(h:cap<need)(h1:need≤1000000)(h2:bytes≤100000000):Builtin.nextslicecap need cap*bytes≤281474976710656:=
 growslice_fits h (by
  have:need*bytes≤1000000*100000000:=Nat.mul_le_mul h1 h2;omega)
theorem K6{i:TypeInfo}(hi:P.info? e=some i):qF P e=i.bytes:=by simp[qF,hi]
theorem jh(h:Sat base okc r N hp w){ty:TypeId}{i:TypeInfo}{zv:Value}(ht:P.underlying t=some (.slice e))(hi:P.info? e=some i)(hz:i.zero=some zv)
  {cap:Nat} (hk:i.size=k) (hzk:zv.cells.toList.length=k) (hpos:0<k) (hm:0<m) (hfull:cap<n+m) (hsmall:n+m≤1000000) (hby:qF P e≤100000000)
  {s:Value} {a1 a2:Option Addr} {c2:Nat}   (hs:s=.slice a1 n cap) (h0:a1=none→cap=0)
  (hs1:ZD r N (Gd base okc r N hp w) w s n k row1 a1 cap f1) (hu:ZD r N (Gd base okc r N hp w) w u m k row2 a2 c2 f2)
  (id:Nat) (hid:¬N id) (old:Option Nat) 
  (hat:blk hp' id=some (.rows e k (n+m) (λi j=>if i<n then row1 i j else row2 (i - n) j))) (hoth:∀j,N j→some j≠old→blk hp' j=blk hp j) (hdrop:∀o,old=some o→blk hp' o=none) :
  ∃v w' r',(Builtin.append_ #[t,t] ty #[s,u]).run P w=.ok v w'∧Step base okc r N hp w r' (zm N id) hp' w'∧Rep r' (zm N id) (Gd base okc r' (zm N id) hp' w') w' (.vec id (n+m) k) v:=by
 subst hk;rw[K6 hi]at hby;obtain⟨rfl,hle2,hat2,hr2⟩:=hu;rcases hat2 with hz2|⟨b2,off2,rfl,hc2⟩
 ·omega
 have hn2:=gW hc2 hpos;have hzs:zv.cells.size=i.size:=by simpa using hzk
 subst hs;cases a1 with
 |none=>
  have hcap0:=h0 rfl;have hn0:n=0:=by have:=hs1.le;omega
  subst hcap0;subst hn0;have hr:=run_append_nil (P:=P) w t ty e i zv ht hi hz ⟨b2,off2,none⟩ m c2 (qG f2 m i.size) (qu _ _ _) hn2 hm Ω (by
   have:m*i.bytes≤1000000*100000000:=Nat.mul_le_mul Ω hby;omega)
  obtain⟨r',hst,hrep⟩:=vW (n:=0) (olds:=[]) (news:=qG f2 m i.size) (rest:=(Builtin.zeroCells zv.cells (grownCap w m 0 e - m)).toList) (f1:=f1) (gc:=grownCap w m 0 e) h id hid old hat hoth hdrop (by simp[qG]) rfl
   (by rw[kH,hzs];simp) (by rw[xb0];exact grownCap_ge w m 0 e) (yx w m 0 Ω) (λi j hi=>by omega) hr2
  have e1:(([]:List Value)++qG f2 m i.size++(Builtin.zeroCells zv.cells (grownCap w m 0 e - m)).toList).toArray=(qG f2 m i.size).toArray++Builtin.zeroCells zv.cells (grownCap w m 0 e - m):=by
   simp_all
  grind
 |some ad=>
  have holds:∀j v,(qG f1 n i.size)[j]? = some v→w.cell? (ad.add j)=some v:=by
   intro j v hj;rcases hs1.at' with hz1|⟨b1,off1,e1,hc1⟩
   ·subst hz1;simp[qG]at hj
   ·cases e1
    exact gW hc1 hpos j v hj
  have hr:=run_append_grow (P:=P) w t ty e i zv ht hi hz ad n cap (qG f1 n i.size) (qu _ _ _) holds ⟨b2,off2,none⟩ m c2 (qG f2 m i.size) (qu _ _ _) hn2 hfull Ω (K5 hfull hsmall hby);obtain⟨r',hst,hrep⟩:=vW (olds:=qG f1 n i.size) (news:=qG f2 m i.size) (rest:=(Builtin.zeroCells zv.cells (grownCap w (n+m) cap e -(n+m))).toList) (gc:=grownCap w (n+m) cap e) h id hid old hat hoth hdrop rfl rfl
   (by rw[kH,hzs]) (grownCap_ge w _ _ e) (yx w _ _ hsmall) hs1.rep hr2
  have e1:(qG f1 n i.size++qG f2 m i.size++(Builtin.zeroCells zv.cells (grownCap w (n+m) cap e -(n+m))).toList).toArray=(qG f1 n i.size).toArray++(qG f2 m i.size).toArray++Builtin.zeroCells zv.cells (grownCap w (n+m) cap e -(n+m)):=by
   simp_all
  grind
theorem VQ(h:nilSlice u=true)(hv:Rep r N G w (.val u) v):v=.slice none 0 0:=by
 cases hv;exact gj h
theorem wB(h:Sat base okc r N hp w){ty:TypeId}{i:TypeInfo}{zv:Value}(ht:P.underlying t=some (.slice e))(hi:P.info? e=some i)(hz:i.zero=some zv)
   (hk:i.size=k) {s x:SV}  (hs:Rep r N (Gd base okc r N hp w) w s v) (hx:Rep r N (Gd base okc r N hp w) w x u)
  (hfull:∀a n cap,v=.slice a n cap→n=cap)
  {obl1 obl2:Prop} {n k1 k2:Nat}  (hr1:rowsOf hp s=some (obl1,n,k1,row1)) (hr2:rowsOf hp x=some (obl2,m,k2,row2)) :
  QP P base okc r N hp w (Builtin.append_ #[t,t] ty #[v,u]) (.new (obl1∧obl2∧0<m∧(n=0∨k1=k)∧k2=k∧0<k∧zv.cells.toList.length=k∧n+m≤1000000∧qF P e≤100000000) (.rows e k (n+m) (λi j=>if i<n then row1 i j else row2 (i - n) j)) (λid=>.vec id (n+m) k)):=by
 rintro⟨h1,h2,h3,h4,rfl,h6,h7,h8,h9⟩ id hp' hid hat hoth;obtain⟨a1,c1,f1,hs1⟩:=zY (P:=P) h.ok hs hr1 h1;obtain⟨a2,c2,f2,hu⟩:=zY (P:=P) h.ok hx hr2 h2;have hnc:=hfull _ _ _ hs1.eq;have hs1':ZD r N (Gd base okc r N hp w) w v n k2 row1 a1 c1 f1:=by
  rcases h4 with h4|h4
  ·subst h4;exact⟨hs1.eq,hs1.le,.inl rfl,λi j hi=>by omega⟩
  ·subst h4;exact hs1
 refine jh h ht hi hz hk h7 h6 h3 Ω h8 h9 hs1.eq (λe=>?_) hs1' hu id hid none hat (λj hj _=>hoth j hj) (λo ho=>by cases ho);rcases hs1.at' with h5|⟨b,off,e',_⟩
 ·omega
 ·simp_all
theorem wR(h:Sat base okc r N hp w)(id:Nat)(hid:¬N id)(old:Option Nat){row:Nat→Nat→SV}
  (hat:blk hp' id=some (.rows e k 0 row)) (hoth:∀j,N j→some j≠old→blk hp' j=blk hp j) (hdrop:∀o,old=some o→blk hp' o=none) :
  ∃r',Step base okc r N hp w r' (zm N id) hp' w∧Rep r' (zm N id) (Gd base okc r' (zm N id) hp' w) w (.vec id 0 k) (.slice none 0 0):=
 ⟨_,h.exch id hid old _ none hat hoth hdrop h.below (Shapes.refl w) (xa5 _) (λ_ _ _=>rfl) (λc hc=>by cases hc) λr' N' G' _ _ _ _=>.none e k row,.vecNil _ _ (.inr rfl) (qw _ _ _)⟩
theorem qbb(h:Sat base okc r N hp w)(t ty:TypeId){s x:SV}(hs:Rep r N (Gd base okc r N hp w) w s v)(hx:Rep r N (Gd base okc r N hp w) w x u) :
  QP P base okc r N hp w (Builtin.append_ #[t,t] ty #[v,u]) (rAppend P t hp s x)∧qpS P base okc r N hp w (Builtin.append_ #[t,t] ty #[v,u]) (rAppend P t hp s x):=by
 unfold rAppend;split
 rotate_left
 ·exact⟨trivial,trivial⟩
 rename_i ag sz z0 e k ht;obtain⟨hte,i,hi,hk⟩:=zF ht;split
 rotate_left
 ·exact⟨trivial,trivial⟩
 rename_i ag' sz' z d hte';obtain⟨zv,hz,rfl⟩:=vV hi hte';split
 rotate_left
 ·exact⟨trivial,trivial⟩
 rename_i obl2 m k2 row2 hr2;split
 ·rename_i id n k'
  split
  rotate_left
  ·exact⟨trivial,trivial⟩
  rename_i t' k'' n' row hblk;refine⟨trivial,?_⟩;rintro⟨h1,h2,rfl,rfl,rfl,h6,h7,h8,h9,h10,h11⟩ nid hp' hid hat hoth hdrop;obtain⟨a2,c2,f2,hu⟩:=zY (P:=P) h.ok hx hr2 h1;have hr1:rowsOf hp (.vec id n k'')=some (n≤n'∧k''=k'',n,k'',row):=by simp[rowsOf,hblk]
  obtain⟨a1,c1,f1,hs1⟩:=zY (P:=P) h.ok hs hr1 ⟨h6,rfl⟩;have hoth':∀j,N j→some j≠some id→blk hp' j=blk hp j:=λj hj hne=>hoth j hj λe=>hne (by rw[e]);have hdrop':∀o,some id=some o→blk hp' o=none:=λo ho=>by cases ho;exact hdrop
  cases hs with
  |vecNil _ _ hN hrn=>
   by_cases hm0:m=0
   ·subst hm0
    have hrun:=kZ (w:=w) t ty t' i hte hi none a2 0 0 c2 (xa5 _);obtain⟨r',hst,hrep⟩:=wR h nid hid (some id) hat hoth' hdrop';rw[hu.eq]
    grind
   ·rcases h2 with h2|rfl
    ·omega
    ·exact jh h hte hi hz hk h8 h7 Ω Ω h10 h11 rfl (λ_=>rfl) (by have:=hs1.eq;cases this;exact hs1) hu nid hid (some id) hat hoth' hdrop'
  |vec _ _ _ b cap cs tt hN hrn hb hcs hcap hmx=>
   have hrep:=h.rep _ _ hblk hN;rw[hrn]at hrep;cases hrep with
   |rows _ _ _ _ _ cs' hb' hl hrep=>
    rw[hb]at hb';simp only[Option.some.injEq,Obj.cells.injEq,and_true]at hb';obtain⟨rfl,rfl⟩:=hb';by_cases hm0:m=0
    ·subst hm0
     have hrun:=kZ (w:=w) t ty tt i hte hi (some ⟨b,0,none⟩) a2 n cap c2 hcap;have hst:=h.exch (w':=w) nid hid (some id) _ (some b) hat hoth' hdrop' h.below (Shapes.refl w) (xa5 _) (λ_ _ _=>rfl) (λc hc=>.inl ⟨id,_,rfl,hblk,hN,by rw[hrn];exact hc⟩) λr' N' G' hr' hN' hG' _=>
      .rows _ _ _ _ b cs hb (xc1 (xa8 _ Ω) hl) λi j hi hj=>by
       rw[if_pos Ω];exact(hrep i j Ω hj).mono hr' hN' hG' (Shapes.refl w)
     rw[hu.eq];exact⟨_,_,_,hrun,hst,.vec _ _ _ b cap cs tt (.inr rfl) (qw _ _ _) hb hcs hcap hmx⟩
    ·have hk2:k2=k'':=by rcases h2 with h2|h2;exact absurd h2 hm0;exact h2
     subst hk2;by_cases hroom:n+m≤cap
     ·obtain⟨rfl,hle2,hat2,hrp2⟩:=hu
      rcases hat2 with hz2|⟨b2,off2,rfl,hc2⟩
      ·omega
      have hfit:n*i.size+(qG f2 m k2).length≤cs.size:=by rw[qu,hk,hcs,←Nat.add_mul];exact xa8 _ hroom
      have hrun:=run_append_room (P:=P) w t ty tt i hte hi b n cap cs hb ⟨b2,off2,none⟩ m c2 (qG f2 m k2) (by rw[qu,hk]) (gW hc2 h7) (wQ hrp2 h9 h7) hroom hfit;have hsz:(cs.toList.take (n*i.size)++qG f2 m k2++cs.toList.drop (n*i.size+(qG f2 m k2).length)).toArray.size=cs.size:=by
       grind
      have hsh:=kT (w:=w) hb hsz;have hb2:=setRow_heap w b cs (cs.toList.take (n*i.size)++qG f2 m k2++cs.toList.drop (n*i.size+(qG f2 m k2).length)).toArray tt _ hb;have hst:=h.exch (w':=w.setRow b (cs.toList.take (n*i.size)++qG f2 m k2++cs.toList.drop (n*i.size+(qG f2 m k2).length)).toArray) nid hid (some id) _ (some b) hat hoth' hdrop'
       (gq h.below (h.own _ _ _ hblk hN hrn) _) hsh ΩW (λc hc hno=>zj w b _ λe=>hno id _ rfl hblk hN (by rw[e];exact hrn))
       (λc hc=>.inl ⟨id,_,rfl,hblk,hN,by rw[hrn];exact hc⟩) λr' N' G' hr' hN' hG' _=>by
        refine .rows _ _ _ _ b _ hb2 (by rw[hsz,hcs];exact xa8 _ hroom) λx j hx hj=>?_;have hcell:((cs.toList.take (n*i.size)++qG f2 m k2++cs.toList.drop (n*i.size+(qG f2 m k2).length)).toArray).getD (x*k2+j) undef=if x<n then cs.getD (x*k2+j) undef else f2 (x - n) j:=by
         have hnl:n*k2≤cs.size:=by rw[hcs];exact xa8 _ hcap
         simp only[xf5,xe2,hk];by_cases hxn:x<n
         ·have:=zN hxn hj
          grind
         ·have hle:n*k2≤x*k2:=xa8 _ Ω
          have hlt:=zN (Ω:x - n<m) hj;rw[Nat.sub_mul]at hlt;have hmin:min (n*k2) cs.toList.length=n*k2:=by simp;omega
          rw[if_neg hxn,xc9 Ωz,xd0 Ω7,xd9,hmin];have e:x*k2+j - n*k2=(x - n)*k2+j:=by rw[Nat.sub_mul];omega
          rw[e,kU _ _ _ _ _ Ω hj];rfl
        rw[hcell];by_cases hxn:x<n
        ·rw[if_pos hxn,if_pos hxn];exact(hrep x j Ω hj).mono hr' hN' hG' hsh
        ·rw[if_neg hxn,if_neg hxn];exact(hrp2 _ j Ω hj).mono hr' hN' hG' hsh
      exact⟨_,_,_,hrun,hst,.vec _ _ _ b cap _ tt (.inr rfl) (qw _ _ _) hb2 (hsz.trans hcs) hroom hmx⟩
     ·exact jh h hte hi hz hk h8 h7 Ω Ω h10 h11 rfl (λe=>by cases e) (by have:=hs1.eq;cases this;exact hs1) hu nid hid (some id) hat hoth' hdrop'
 ·rename_i uu
  split
  rotate_left
  ·exact⟨trivial,trivial⟩
  rename_i hnil;refine⟨?_,trivial⟩;rintro⟨h1,h2,h7,h8,h10,h11⟩ nid hp' hid hat hoth;obtain⟨a2,c2,f2,hu⟩:=zY (P:=P) h.ok hx hr2 h1;obtain rfl:=VQ hnil hs;have hoth':∀j,N j→some j≠none→blk hp' j=blk hp j:=λj hj hne=>hoth j hj;have hdrop':∀o,none=some o→blk hp' o=none:=λo ho=>by cases ho
  by_cases hm0:m=0
  ·subst hm0
   have hrun:=kZ (w:=w) t ty e i hte hi none a2 0 0 c2 (xa5 _);obtain⟨r',hst,hrep⟩:=wR h nid hid none hat hoth' hdrop';rw[hu.eq]
   grind
  ·rcases h2 with h2|rfl
   ·omega
   ·have:=jh (ty:=ty) (a1:=none) (s:=.slice none 0 0) (row1:=λ_ _=>.top) (f1:=λ_ _=>undef) (n:=0) h hte hi hz hk h8 h7 Ω Ω Ω h11 rfl (λ_=>rfl) ⟨rfl,xb6 _,.inl rfl,λi j hi=>by omega⟩ hu nid hid none (by
     rw[hat];simp) hoth' hdrop'
    simpa using this
 ·split
  rotate_left
  ·exact⟨trivial,trivial⟩
  rename_i id n k' obl1 n1 k1 row1 hr1;refine⟨wB h hte hi hz hk hs hx (λa n cap e=>?_) hr1 hr2,trivial⟩;cases hs<;>simp only[Value.slice.injEq]at e<;>omega
 ·split
  rotate_left
  ·exact⟨trivial,trivial⟩
  rename_i o n k' row' obl1 n1 k1 row1 hr1;refine⟨wB h hte hi hz hk hs hx (λa n cap e=>?_) hr1 hr2,trivial⟩;cases hs with
  |arrNil _ _ _ _ a' cap' hf=>simp only[Value.slice.injEq]at e;have:=hf rfl;omega
  |arr _ _ _ _ _ b off cap' f hG hf hcap hc hrep=>simp only[Value.slice.injEq]at e;have:=hf rfl;omega
 ·exact⟨trivial,trivial⟩
end
end Go.Sx
end
section
namespace Go.Sx
open Go.RowKit
variable{l:Int}{s:Option SV}{lo mx v:Option Value}{e t:TypeId}{h m n:Nat}
def bnd(d:Int):Option SV→Option Int
 |none=>some d
 |some (.val (.int _ i))=>some i
 |_=>none
def z9(l h:Int)(id k:Nat):SV:=if l=0 then .vec id h.toNat k else .que id l.toNat (h - l).toNat k
def jW(l h m:Int)(id k:Nat):SV:=if l=0∧h=m then .cut id h.toNat k else .top
def rSlice(ti:Option TyI)(x:SV)(lo hi mx:Option SV):Res:=
 match ti with
 |some ⟨_,_,_,.slice e k⟩=>
  match x with
  |.arr o full n k' row=>match bnd 0 lo,bnd n hi,mx with
   |some l,some h,none=>.pure (0≤l∧l≤h∧h≤n∧k'=k) (.arr o (full&&hi.isNone) (h - l).toNat k (λi j=>row (l.toNat+i) j))
   |some l,some h,some (.val (.int _ m))=>.pure (0≤l∧l≤h∧h≤n∧h=m∧hi.isSome=true∧k'=k) (.arr o true (h - l).toNat k (λi j=>row (l.toNat+i) j))
   |_,_,_=>.bad
  |.vec id n k'=>match bnd 0 lo,bnd n hi,mx with
   |some l,some h,none=>.pure (0≤l∧l≤h∧h≤n∧(l=0∨h=n)∧k'=k) (z9 l h id k)
   |some l,some h,some (.val (.int _ m))=>.pure (0≤l∧l≤h∧h≤m∧m≤n∧hi.isSome=true∧k'=k) (jW l h m id k)
   |_,_,_=>.bad
  |.val u=>match bnd 0 lo,bnd 0 hi,mx with
   |some l,some h,none=>.pure (nilSlice u=true∧l=0∧h=0) (.val (.slice none 0 0))
   |some l,some h,some (.val (.int _ m))=>.pure (nilSlice u=true∧l=0∧h=0∧m=0∧hi.isSome=true) (.val (.slice none 0 0))
   |_,_,_=>.bad
  |.que id off n k'=>match bnd 0 lo,bnd n hi,mx with
   |some l,some h,none=>.pure (0≤l∧l≤h∧h=n∧k'=k) (.que id (off+l.toNat) (h - l).toNat k)
   |_,_,_=>.bad
  |.asl id off n k'=>match bnd 0 lo,bnd n hi,mx with
   |some l,some h,none=>.pure (0≤l∧(l=0∨l<h)∧l≤h∧h≤n∧k'=k) (.asl id (off+l.toNat*k) (h - l).toNat k)
   |_,_,_=>.bad
  |_=>.bad
 |some ⟨_,_,_,.array n e k⟩=>
  match mx with
  |some _=>.bad
  |none=>match x with
   |.ptr id off=>match bnd 0 lo,bnd n hi with
    |some l,some h=>.pure (0≤l∧(l=0∨l<h)∧l≤h∧h≤n) (.asl id (off+l.toNat*k) (h - l).toNat k)
    |_,_=>.bad
   |.ref o m row=>match bnd 0 lo,bnd n hi with
    |some l,some h=>.pure (0≤l∧l≤h∧h≤n∧n*k≤m) (.arr o hi.isNone (h - l).toNat k (λi j=>row ((l.toNat+i)*k+j)))
    |_,_=>.bad
   |_=>.bad
 |_=>.bad
section
variable{P:Program}{r:Nat→Option Nat}{N:Nat→Prop}{G:Bool→Nat→Prop}{w:World}{hp:List (Nat×Blk)}
def Ks(r:Nat→Option Nat)(N:Nat→Prop)(G:Bool→Nat→Prop)(w:World):Option SV→Option Value→Prop
 |none,none=>True
 |some s,some v=>Rep r N G w s v
 |_,_=>False
theorem wS{d:Int}(h:bnd d s=some l)(hr:Ks r N G w s v):(s=none∧v=none∧l=d)∨(s.isNone=false∧∃k,v=some (.int k l)):=by
 cases s with
 |none=>cases v with
  |none=>simp only[bnd,Option.some.injEq]at h;exact .inl ⟨rfl,rfl,h.symm⟩
  |some v=>exact hr.elim
 |some s=>
  cases v with
  |none=>exact hr.elim
  |some v=>
   unfold bnd at h;split at h
   ·rename_i e;cases e
   ·rename_i k i e
    simp only[Option.some.injEq]at e h;subst e;subst h;cases hr
    simp_all
   ·cases h
theorem zd(isSlice:Bool)(len cap l h m:Nat){hi:Option Value}(hlo:(lo=none∧l=0)∨∃k,lo=some (.int k l))(hhi:(hi=none∧mx=none∧h=len)∨∃k,hi=some (.int k h))(hmx:(mx=none∧m=cap)∨∃k,mx=some (.int k m))(h1:l≤h)(h2:h≤m)(h3:m≤cap) :
  (Instr.sliceBounds isSlice len cap lo hi mx).run P w=.ok (l,h,m) w:=by
 have e0:∀n:Nat,(0:Int)≤n:=λn=>by omega
 rcases hlo with⟨rfl,rfl⟩|⟨kl,rfl⟩<;>rcases hhi with⟨rfl,rfl,rfl⟩|⟨kh,rfl⟩<;>rcases hmx with⟨e,rfl⟩|⟨km,e⟩<;>(try cases e)<;>
  simp[Instr.sliceBounds,run_sliceBound,h1,h2,h3,e0]
theorem zr{i:TypeInfo}(hu:P.underlying t=some (.slice e))(hi:P.info? e=some i){a:Option Addr}{len cap l:Nat}{hi':Option Value}(hb:(Instr.sliceBounds true len cap lo hi' mx).run P w=.ok (l,h,m) w) :
  (Instr.sliceAt t (.slice a len cap) lo hi' mx).run P w=.ok (.slice (if m=l then a else a.map (·.add (l*i.size))) (h - l) (m - l)) w:=by
 simp[Instr.sliceAt,run_underlying hu,Instr.slice,hb,sizeOf,typeInfo,hi]
theorem vx{i:TypeInfo}(hu:P.underlying t=some (.array n e))(hi:P.info? e=some i){a:Addr}{l:Nat}{hi':Option Value}(hb:(Instr.sliceBounds false n n lo hi' mx).run P w=.ok (l,h,m) w) :
  (Instr.sliceAt t (.pointer (some a)) lo hi' mx).run P w=.ok (.slice (some (if m=l then a else a.add (l*i.size))) (h - l) (m - l)) w:=by
 simp[Instr.sliceAt,Instr.sureAddr,run_underlying hu,hb,sizeOf,typeInfo,hi]
theorem zT{a b:Int}(h:a≤b):a.toNat≤b.toNat:=by omega
theorem wC(h:bnd 0 s=some l)(hr:Ks r N G w s v)(h0:0≤l):(v=none∧l.toNat=0)∨∃k,v=some (.int k (l.toNat:Nat)):=by
 rcases wS h hr with⟨_,rfl,rfl⟩|⟨_,k,rfl⟩
 ·simp_all
 ·grind
theorem wD(h:bnd n s=some l)(hr:Ks r N G w s v)(h0:0≤l)(hm:s.isNone=true→mx=none):(v=none∧mx=none∧l.toNat=n)∨∃k,v=some (.int k (l.toNat:Nat)):=by
 rcases wS h hr with⟨rfl,rfl,rfl⟩|⟨_,k,rfl⟩
 ·simp_all
 ·grind
theorem jS(h:Ks r N G w none v):v=none:=by cases v with|none=>rfl|some v=>exact h.elim
theorem K7{k:IntKind}{m:Int}(h:Ks r N G w (some (.val (.int k m))) v):v=some (.int k m):=by
 cases v with
 |none=>exact h.elim
 |some v=>cases h;rfl
theorem JX{ag:Bool}{sz:Nat}{z:Option (List Value)}{k:Nat}(ht:qn P t=some ⟨ag,sz,z,.array n e k⟩):P.underlying t=some (.array n e)∧∃i,P.info? e=some i∧i.size=k:=by
 obtain⟨i,hu,hi,hs⟩:=K3 ht rfl
 simp_all
theorem JY{o full full':Bool}{k:Nat}{row:Nat→Nat→SV}{a:Option Addr}{cap l:Nat}(hv:Rep r N G w (.arr o full n k row) (.slice a n cap))(h1:l≤h)(h2:h≤n)(h3:h≤m)(hf:full'=true→m=h) :
  Rep r N G w (.arr o full' (h - l) k (λi j=>row (l+i) j)) (.slice (if m=l then a else a.map (·.add (l*k))) (h - l) (m - l)):=by
 by_cases e:h - l=0
 ·rw[e]
  exact .arrNil _ _ _ _ _ _ λhh=>by have:=hf hh;omega
 ·rw[if_neg Ω]
  cases hv with
  |arrNil=>omega
  |arr _ _ _ _ _ b off _ f hG hff hcap hc hr=>
   simp only[xg1,qU];refine .arr _ _ _ _ _ b (off+l*k) _ (λi j=>f (l+i) j) hG (λhh=>by have:=hf hh;omega) Ω (λi j hi hj=>?_) λi j hi hj=>hr _ _ Ω hj
   grind
theorem qfm(t:TypeId){x:SV}{lo hi mx:Option SV}{u:Value}{vlo vhi vmx:Option Value}(hx:Rep r N G w x u)(hlo:Ks r N G w lo vlo)(hhi:Ks r N G w hi vhi)(hmx:Ks r N G w mx vmx) :
  K1 P r N G w (Instr.sliceAt t u vlo vhi vmx) (rSlice (qn P t) x lo hi mx):=by
 unfold rSlice;split
 ·rename_i ag sz z e k ht
  obtain⟨hu,i,hi',rfl⟩:=zF ht;split
  ·rename_i o full n k' row
   split
   ·rename_i l h hl hh
    rintro⟨h0,h1,h2,rfl⟩;obtain rfl:=jS hmx;have hb:∀a cap,u=.slice a n cap→n≤cap→∃v,(Instr.sliceAt t u vlo vhi none).run P w=.ok v w∧Rep r N G w (.arr o (full&&hi.isNone) (h - l).toNat i.size (λi j=>row (l.toNat+i) j)) v:=by
     rintro a cap rfl hcap;refine⟨_,zr hu hi' (zd true n cap l.toNat h.toNat cap (wC hl hlo h0) (wD hh hhi Ω λ_=>rfl) (.inl ⟨rfl,rfl⟩) (zT h1) Ω (xa5 _)),?_⟩;rw[show(h - l).toNat=h.toNat - l.toNat by omega];refine JY hx (zT h1) Ω Ω λhf=>?_;simp only[xe6]at hf;have hn:h=n:=by rcases wS hh hhi with⟨_,_,e⟩|⟨e,_⟩;exact e;(rw[e]at hf;simp at hf)
     have hcapn:cap=n:=by
      cases hx with
      |arrNil _ _ _ _ _ _ hff=>exact hff hf.1
      |arr _ _ _ _ _ _ _ _ _ _ hff=>exact hff hf.1
     omega
    cases hx with
    |arrNil _ _ _ _ a cap hf=>exact hb _ _ rfl (xb6 _)
    |arr _ _ _ _ _ b off cap f hG hf hcap hc hr=>exact hb _ _ rfl hcap
   ·rename_i l h kk m hl hh
    rintro⟨h0,h1,h2,rfl,h5,rfl⟩;obtain rfl:=K7 hmx;have hb:∀a cap,u=.slice a n cap→n≤cap→∃v,(Instr.sliceAt t u vlo vhi (some (.int kk h))).run P w=.ok v w∧Rep r N G w (.arr o true (h - l).toNat i.size (λi j=>row (l.toNat+i) j)) v:=by
     rintro a cap rfl hcap;refine⟨_,zr hu hi' (zd true n cap l.toNat h.toNat h.toNat (wC hl hlo h0) (wD hh hhi Ω λe=>?_) (.inr ⟨kk,by rw[Int.toNat_of_nonneg Ω]⟩) (zT h1) (xa5 _) Ω),?_⟩
     ·cases hi<;>simp at h5 e
     rw[show(h - l).toNat=h.toNat - l.toNat by omega];exact JY hx (zT h1) Ω (xa5 _) λhf=>rfl
    cases hx with
    |arrNil _ _ _ _ a cap hf=>exact hb _ _ rfl (xb6 _)
    |arr _ _ _ _ _ b off cap f hG hf hcap hc hr=>exact hb _ _ rfl hcap
   ·trivial
  ·rename_i id n k'
   split
   ·rename_i l h hl hh
    rintro⟨h0,h1,h2,h3,rfl⟩;obtain rfl:=jS hmx;cases hx with
    |vecNil _ _ hN hr=>
     refine⟨_,zr hu hi' (zd true 0 0 l.toNat h.toNat 0 (wC hl hlo h0) (wD hh hhi Ω λ_=>rfl) (.inl ⟨rfl,rfl⟩) (zT h1) Ω (xa5 _)),?_⟩;have z1:l=0:=by omega
     have z2:h.toNat=0:=by omega
     rw[z1,z2];unfold z9;rw[if_pos rfl,z2];exact .vecNil _ _ hN hr
    |vec _ _ _ b cap cs tt hN hr hb hs hcap hm=>
     refine⟨_,zr hu hi' (zd true n cap l.toNat h.toNat cap (wC hl hlo h0) (wD hh hhi Ω λ_=>rfl) (.inl ⟨rfl,rfl⟩) (zT h1) Ω (xa5 _)),?_⟩;by_cases z:l=0
     ·subst z
      have e:(if cap=(0:Int).toNat then some (⟨b,0,none⟩:Addr)else(some (⟨b,0,none⟩:Addr)).map (·.add ((0:Int).toNat*i.size)))=some ⟨b,0,none⟩:=by split<;>simp[qU]
      rw[e];unfold z9;rw[if_pos rfl];exact .vec _ _ _ b cap cs tt hN hr hb hs Ωj hm
     ·unfold z9
      rw[if_neg z,show(h - l).toNat=h.toNat - l.toNat by omega];by_cases e:cap=l.toNat
      ·rw[if_pos e,show h.toNat - l.toNat=0 by omega,show cap - l.toNat=0 by omega]
       exact .queNil _ _ _ _ hN
      ·rw[if_neg e]
       simp only[xg1,qU,xb0];exact .que _ _ _ _ b _ cs tt hN hr hb (by rw[hs];congr 1;omega) Ω Ω
   ·rename_i l h kk m hl hh
    rintro⟨h0,h1,h2,h3,h5,rfl⟩;obtain rfl:=K7 hmx;have hnn:hi.isNone=true→some (Value.int kk m)=none:=λe=>by cases hi<;>simp at h5 e
    have hb:∀a cap,u=.slice a n cap→n≤cap→(Instr.sliceAt t u vlo vhi (some (.int kk m))).run P w=.ok (.slice (if m.toNat=l.toNat then a else a.map (·.add (l.toNat*i.size))) (h.toNat - l.toNat) (m.toNat - l.toNat)) w:=by
     rintro a cap rfl hcap;exact zr hu hi' (zd true n cap l.toNat h.toNat m.toNat (wC hl hlo h0) (wD hh hhi Ω hnn) (.inr ⟨kk,by rw[Int.toNat_of_nonneg Ω]⟩) (zT h1) (zT h2) Ω)
    by_cases z:l=0∧h=m
    ·obtain⟨rfl,rfl⟩:=z
     unfold jW;rw[if_pos ⟨rfl,rfl⟩];cases hx with
     |vecNil _ _ hN hr=>
      refine⟨_,hb _ _ rfl (xa5 _),?_⟩;have:h.toNat=0:=by omega
      rw[this];exact .cutNil _ _ hN hr
     |vec _ _ _ b cap cs tt hN hr hb' hs hcap hm=>
      refine⟨_,hb _ _ rfl hcap,?_⟩;have e:(if h.toNat=(0:Int).toNat then some (⟨b,0,none⟩:Addr)else(some (⟨b,0,none⟩:Addr)).map (·.add ((0:Int).toNat*i.size)))=some ⟨b,0,none⟩:=by split<;>simp[qU]
      rw[e];exact .cut _ _ _ b hN hr
    ·unfold jW
     rw[if_neg z];cases hx with
     |vecNil _ _ hN hr=>exact⟨_,hb _ _ rfl (xa5 _),.top _⟩
     |vec _ _ _ b cap cs tt hN hr hb' hs hcap hm=>exact⟨_,hb _ _ rfl hcap,.top _⟩
   ·trivial
  ·rename_i uu
   split
   ·rename_i l h hl hh
    rintro⟨hnil,rfl,rfl⟩;obtain rfl:=VQ hnil hx;obtain rfl:=jS hmx;exact⟨_,zr hu hi' (zd true 0 0 (0:Int).toNat (0:Int).toNat 0 (wC hl hlo (Int.le_refl _)) (wD hh hhi (Int.le_refl _) λ_=>rfl) (.inl ⟨rfl,rfl⟩) (xa5 _) (xa5 _) (xa5 _)),.val _⟩
   ·rename_i l h kk m hl hh
    rintro⟨hnil,rfl,rfl,rfl,h5⟩;obtain rfl:=VQ hnil hx;obtain rfl:=K7 hmx;have hnn:hi.isNone=true→some (Value.int kk 0)=none:=λe=>by cases hi<;>simp at h5 e
    exact⟨_,zr hu hi' (zd true 0 0 (0:Int).toNat (0:Int).toNat 0 (wC hl hlo (Int.le_refl _)) (wD hh hhi (Int.le_refl _) hnn) (.inr ⟨kk,rfl⟩) (xa5 _) (xa5 _) (xa5 _)),.val _⟩
   ·trivial
  ·rename_i id off n k'
   split
   ·rename_i l h hl hh
    rintro⟨h0,h1,h2,rfl⟩;obtain rfl:=jS hmx;cases hx with
    |queNil _ _ _ a hN=>
     refine⟨_,zr hu hi' (zd true 0 0 l.toNat h.toNat 0 (wC hl hlo h0) (wD hh hhi Ω λ_=>rfl) (.inl ⟨rfl,rfl⟩) (zT h1) Ω (xa5 _)),?_⟩;rw[show h.toNat - l.toNat=0 by omega,show(h - l).toNat=0 by omega,show 0 - l.toNat=0 by omega];exact .queNil _ _ _ _ hN
    |que _ _ _ _ b cap cs tt hN hr hb hs hcap hm=>
     refine⟨_,zr hu hi' (zd true n cap l.toNat h.toNat cap (wC hl hlo h0) (wD hh hhi Ω λ_=>rfl) (.inl ⟨rfl,rfl⟩) (zT h1) Ω (xa5 _)),?_⟩;rw[show(h - l).toNat=h.toNat - l.toNat by omega];by_cases e:cap=l.toNat
     ·rw[if_pos e,show h.toNat - l.toNat=0 by omega,show cap - l.toNat=0 by omega]
      exact .queNil _ _ _ _ hN
     ·rw[if_neg e]
      simp only[xg1,qU,←Nat.add_mul];exact .que _ _ _ _ b _ cs tt hN hr hb (by rw[hs];congr 1;omega) Ω Ω
   ·trivial
  ·rename_i id off n k'
   split
   ·rename_i l h hl hh
    rintro⟨h0,h4,h1,h2,rfl⟩;obtain rfl:=jS hmx;cases hx with
    |asl _ _ _ _ b cap hN hr hcap=>
     refine⟨_,zr hu hi' (zd true n cap l.toNat h.toNat cap (wC hl hlo h0) (wD hh hhi Ω λ_=>rfl) (.inl ⟨rfl,rfl⟩) (zT h1) Ω (xa5 _)),?_⟩;have e:(if cap=l.toNat then some (⟨b,off,none⟩:Addr)else(some (⟨b,off,none⟩:Addr)).map (·.add (l.toNat*i.size)))=some ⟨b,off+l.toNat*i.size,none⟩:=by
      split
      ·have:l.toNat=0:=by omega
       rw[this];simp
      ·simp[qU]
     rw[e,show(h - l).toNat=h.toNat - l.toNat by omega];exact .asl _ _ _ _ b _ hN hr Ω
   ·trivial
  ·trivial
 ·rename_i ag sz z n e k ht
  obtain⟨hu,i,hi',rfl⟩:=JX ht;split
  ·trivial
  ·obtain rfl:=jS hmx
   split
   ·rename_i id off
    split
    ·rename_i l h hl hh
     rintro⟨h0,h4,h1,h2⟩;cases hx with
     |ptr _ _ b hN hr=>
      refine⟨_,vx hu hi' (zd false n n l.toNat h.toNat n (wC hl hlo h0) (wD hh hhi Ω λ_=>rfl) (.inl ⟨rfl,rfl⟩) (zT h1) Ω (xa5 _)),?_⟩;have e:(if n=l.toNat then(⟨b,off,none⟩:Addr)else Addr.add ⟨b,off,none⟩ (l.toNat*i.size))=⟨b,off+l.toNat*i.size,none⟩:=by
       split
       ·have:l.toNat=0:=by omega
        rw[this];simp
       ·simp[qU]
      rw[e,show(h - l).toNat=h.toNat - l.toNat by omega];exact .asl _ _ _ _ b _ hN hr Ω
    ·trivial
   ·rename_i o m row
    split
    ·rename_i l h hl hh
     rintro⟨h0,h1,h2,h3⟩;cases hx with
     |ref _ _ _ b off f hG hc hr=>
      refine⟨_,vx hu hi' (zd false n n l.toNat h.toNat n (wC hl hlo h0) (wD hh hhi Ω λ_=>rfl) (.inl ⟨rfl,rfl⟩) (zT h1) Ω (xa5 _)),?_⟩;rw[show(h - l).toNat=h.toNat - l.toNat by omega];have hle:∀x y,x<h.toNat - l.toNat→y<i.size→(l.toNat+x)*i.size+y<m:=λx y hx hy=>by
       have:=zN (Ω:l.toNat+x<n) hy;omega
      by_cases e0:h.toNat - l.toNat=0
      ·rw[e0]
       exact .arrNil _ _ _ _ _ _ λhf=>by
        rcases wS hh hhi with⟨_,_,e⟩|⟨e,_⟩
        ·omega
        ·rw[e]at hf;cases hf
      ·rw[if_neg Ω]
       simp only[qU];refine .arr _ _ _ _ _ b (off+l.toNat*i.size) _ (λx y=>f ((l.toNat+x)*i.size+y)) hG (λhf=>?_) Ω (λx y hx hy=>?_) λx y hx hy=>hr _ (hle x y hx hy)
       ·rcases wS hh hhi with⟨_,_,e⟩|⟨e,_⟩
        ·omega
        ·rw[e]at hf;cases hf
       ·rw[←hc _ (hle x y hx hy),Nat.add_mul]
        congr 2
        omega
    ·trivial
   ·trivial
 ·trivial
end
end Go.Sx
end
section
namespace Go.Sx
open Go.RowKit
variable{v:Value}
def rMakeSlice(P:Program)(t:TypeId)(l c:SV):Res:=
 match qn P t with
 |some ⟨_,_,_,.slice e k⟩=>match qn P e with
  |some ⟨_,_,some z,_⟩=>match l,c with
   |.val (.int _ l),.val (.int _ c)=>.new (0≤l∧l≤c∧c≤1000000∧qF P e≤100000000∧z.length=k∧0<k) (.rows e k c.toNat (λ_ j=>.val (z.getD j undef))) (λid=>.vec id l.toNat k)
   |_,_=>.bad
  |_=>.bad
 |_=>.bad
def rCopy(P:Program)(t:TypeId)(hp:List (Nat×Blk))(d x:SV):Res:=
 match qn P t with
 |some ⟨_,_,_,.slice e k⟩=>match rowsOf hp x with
  |some (obl2,m,k2,row2)=>match d with
   |.vec id n k'=>match blk hp id with
    |some (.rows t' k'' n' row)=>.updv (obl2∧(min m n=0∨k2=k)∧k'=k∧k''=k∧n≤n'∧0<k∧oneRows m k row2) id (.rows t' k n' (λi j=>if i<min m n then row2 i j else row i j)) (.val (.int .i64 (min m n:Nat)))
    |_=>.bad
   |.asl id off n k'=>match blk hp id with
    |some (.cells t' l)=>.updv (obl2∧k2=1∧k'=1∧k=1∧off+n≤l.length∧0<m∧0<n∧oneRows m 1 row2) id (.cells t' (l.take off++(List.range (min m n)).map (λi=>row2 i 0)++l.drop (off+min m n))) (.val (.int .i64 (min m n:Nat)))
    |_=>.bad
   |_=>.bad
  |none=>.bad
 |_=>.bad
def rClear(P:Program)(t:TypeId)(hp:List (Nat×Blk))(d:SV):Res:=
 match qn P t with
 |some ⟨_,_,_,.slice e k⟩=>match qn P e with
  |some ⟨_,_,some [z],_⟩=>match d with
   |.asl id off n k'=>match blk hp id with
    |some (.cells t' l)=>.upd (off+n≤l.length∧k'=1∧k=1∧z.oneCell'=true∧0<n) id (.cells t' (l.take off++List.replicate n (.val z)++l.drop (off+n)))
    |_=>.bad
   |.vec id n k'=>match blk hp id with
    |some (.rows t' k'' m row)=>.upd (k'=1∧k''=1∧k=1∧n≤m∧z.oneCell'=true) id (.rows t' 1 m (λi j=>if i<n then .val z else row i j))
    |_=>.bad
   |.que id off n k'=>match blk hp id with
    |some (.rows t' k'' m row)=>.upd (k'=1∧k''=1∧k=1∧off+n≤m∧z.oneCell'=true) id (.rows t' 1 m (λi j=>if off≤i∧i<off+n then .val z else row i j))
    |_=>.bad
   |_=>.bad
  |_=>.bad
 |_=>.bad
section
variable{P:Program}{base:World}{okc:Nat→Prop}{r:Nat→Option Nat}{N:Nat→Prop}{G:Bool→Nat→Prop}{w:World}{hp:List (Nat×Blk)}
theorem qfn(h:Sat base okc r N hp w)(t:TypeId){l c:SV}{u:Value}(hl:Rep r N (Gd base okc r N hp w) w l u)(hc:Rep r N (Gd base okc r N hp w) w c v):QP P base okc r N hp w (Instr.makeSlice t u v) (rMakeSlice P t l c):=by
 unfold rMakeSlice;split
 rotate_left
 ·trivial
 rename_i ag sz z0 e k ht;obtain⟨hte,i,hi,hk⟩:=zF ht;split
 rotate_left
 ·trivial
 rename_i ag' sz' z d hte';obtain⟨zv,hz,rfl⟩:=vV hi hte';split
 rotate_left
 ·trivial
 rename_i kl l kc c;rintro⟨h0,h1,h2,h3,h4,h5⟩ id hp' hid hat hoth;cases hl;cases hc;subst hk;rw[K6 hi]at h3;have hby:(i.bytes:Int)*c≤281474976710656:=by
  have h6:i.bytes*c.toNat≤100000000*1000000:=Nat.mul_le_mul h3 Ω
  grind
 have hrun:=run_make (P:=P) w t e i zv hte hi hz kl kc l c h0 h1 hby Ω;have hsz:(madeCells zv.cells (c.toNat*i.size)).size=c.toNat*i.size:=size_madeCells _ _;have hzs:zv.cells.size=i.size:=by simpa using h4
 have hst:=h.new id hid (.cells (madeCells zv.cells (c.toNat*i.size)) e) _ hat hoth λr' N' G' h1 h2 h3 h4 h6=>.rows _ _ _ _ _ _ (qH w _) (by rw[hsz];exact xa5 _) λx j hx hj=>by
  have hlt:=zN hx hj;have e1:(madeCells zv.cells (c.toNat*i.size)).getD (x*i.size+j) undef=zv.cells.toList.getD j undef:=by
   have hm:(x*i.size+j) % zv.cells.size=j:=by rw[hzs,Nat.mul_comm,Nat.mul_add_mod,Nat.mod_eq_of_lt hj]
   have hj':j<zv.cells.size:=by omega
   simp[madeCells,hlt,hm,hj']
  rw[e1];exact .val _
 exact⟨_,_,_,hrun,hst,.vec _ _ _ _ _ _ _ (.inr rfl) (qw _ _ _) (qH w _) hsz Ω (by simp[maxLen];omega)⟩
theorem Sat.same(h:Sat base okc r N hp w){id:Nat}{x x':Blk}(hm:blk hp id=some x)(hx':∀G',(∀o c,Gd base okc r N hp w o c→G' o c)→N id→BlkRep r N G' w (r id) x'):Step base okc r N hp w r N (setBlk hp id x') w:=by
 have hk:∀j y,blk (setBlk hp id x') j=some y→∃z,blk hp j=some z:=λj y hy=>by
  rw[qq]at hy;split at hy
  ·simp_all
  ·exact⟨y,hy⟩
 have hG:∀o c,Gd base okc r N hp w o c→Gd base okc r N (setBlk hp id x') w o c∧w.heap[c]? = w.heap[c]?:=λo c ⟨h1,h2,h3⟩=>
  ⟨⟨h1,λi y hy hi=>let ⟨z,hz⟩:=hk i y hy;h2 i z hz hi,h3⟩,rfl⟩
 refine⟨⟨h.below,λi y hy hi=>?_,λi y c hy hi hc=>let ⟨z,hz⟩:=hk i y hy;h.own i z c hz hi hc,
  λi y i' y' c hy hi hy' hi' hc hc'=>let ⟨z,hz⟩:=hk i y hy;let ⟨z',hz'⟩:=hk i' y' hy';h.inj i z i' z' c hz hi hz' hi' hc hc'⟩,λ_ _=>rfl,λ_ h=>h,hG,Shapes.refl w⟩
 rw[qq]at hy;split at hy
 ·simp_all
 ·exact(h.rep i y hy hi).mono (λ_ _=>rfl) (λ_ h=>h) hG (Shapes.refl w) λ_ _=>rfl
theorem qfo(h:Sat base okc r N hp w)(t ty t':TypeId){d x:SV}{u:Value}(hd:Rep r N (Gd base okc r N hp w) w d v)(hx:Rep r N (Gd base okc r N hp w) w x u) :
  qpT P base okc r N hp w (Builtin.copy_ #[t,t'] ty #[v,u]) (rCopy P t hp d x):=by
 unfold rCopy;split
 rotate_left
 ·trivial
 rename_i ag sz z0 e k ht;obtain⟨hte,i,hi,hk⟩:=zF ht;split
 rotate_left
 ·trivial
 rename_i obl2 m k2 row2 hr2;split
 rotate_left
 ·rename_i id off n k'
  split
  rotate_left
  ·trivial
  rename_i t'' l hblk;rintro⟨h1,rfl,rfl,hk1,h5,h6,h8,h7⟩;rw[hk1]at hk;obtain⟨a2,c2,f2,hu⟩:=zY (P:=P) h.ok hx hr2 h1;cases hd with
  |asl _ _ _ _ b cap hN hrn hcap=>
   have hrep:=h.rep _ _ hblk hN;rw[hrn]at hrep;cases hrep with
   |cells _ _ _ cs hb hl hc=>
    have hmn:Nat.min m n=min m n:=rfl;obtain⟨rfl,hle2,hat2,hrp2⟩:=hu;rcases hat2 with hz2|⟨b2,off2,rfl,hc2⟩
    ·omega
    have hc2':∀a j,a<min m n→j<1→w.cell? ⟨b2,off2+(a*1+j),none⟩=some (f2 a j):=λa j ha hj=>hc2 a j Ω hj;have hload:(Builtin.firstCells 1 (min m n) (.slice (some ⟨b2,off2,none⟩) m c2)).run P w=.ok (qG f2 (min m n) 1).toArray w:=
     run_firstCells_some w 1 (min m n) ⟨b2,off2,none⟩ m c2 _ (qu _ _ _) (gW hc2' Ω)
    obtain⟨w',hrun,hst⟩:=zI (P:=P) h hblk hN hrn hb off (qG f2 (min m n) 1) (by rw[qu];omega) (wQ (λa j ha hj=>hrp2 a j Ω hj) (λa j ha hj=>h7 a j Ω hj) Ω)
     (.cells t'' (l.take off++(List.range (min m n)).map (λi=>row2 i 0)++l.drop (off+min m n))) (λG' w' cs' hw' hsz hget hrep'=>by
      refine .cells _ _ _ cs' hw' Ωj λx sv hx=>?_;rw[hget,qu,Nat.mul_one];by_cases hj:off≤x∧x<off+min m n
      ·rw[List.append_assoc,xd0 Ωj,xc9 Ωj]at hx
       have e:min off l.length=off:=by omega
       rw[xd9,e,List.getElem?_map,xe3 Ω]at hx;simp only[xg1,Option.some.injEq]at hx;subst hx;have e2:=kU f2 (min m n) 1 (x - off) 0 Ω Ω
       grind
      ·rw[if_neg hj]
       refine hrep' _ _ (hc x sv ?_);by_cases hj':x<off
       ·rw[List.append_assoc,xc9 Ωj,List.getElem?_take_of_lt hj']at hx
        exact hx
       ·rw[xd0 Ωj,List.getElem?_drop]at hx
        have e:off+min m n+(x -(l.take off++(List.range (min m n)).map (λi=>row2 i 0)).length)=x:=by simp;omega
        rwa [e]at hx)
    refine⟨.int .i64 (min m n:Nat),w',?_,hst,.val _⟩;simp only[Builtin.copy_,Sem.run_bind];simp[run_underlying hte,Builtin.lenOf,sizeOf,typeInfo,hi,hk,hmn,hload,goInt,hrun]
 ·trivial
 rename_i id n k';split
 rotate_left
 ·trivial
 rename_i t'' k'' n' row hblk;rintro⟨h1,h2,rfl,rfl,h5,h6,h7⟩;subst hk;obtain⟨a2,c2,f2,hu⟩:=zY (P:=P) h.ok hx hr2 h1;cases hd with
 |vecNil _ _ hN hrn=>
  have hrep:=h.rep _ _ hblk hN;rw[hrn]at hrep;cases hrep;have hst:=h.same (x':=.rows t'' i.size 0 (λa j=>if a<min m 0 then row2 a j else row a j)) hblk λG' hG' _=>by rw[hrn];exact .none _ _ _
  refine⟨.int .i64 0,w,?_,hst,by simpa using Rep.val (.int .i64 0)⟩;rw[hu.eq];cases a2<;>simp[Builtin.copy_,run_underlying hte,Builtin.lenOf,sizeOf,typeInfo,hi,Builtin.firstCells,loadCells,loadCellsFrom,goInt,Nat.min_zero,show Nat.min m 0=0 from Nat.min_zero m]
 |vec _ _ _ b cap cs tt hN hrn hb hcs hcap hmx=>
  have hrep:=h.rep _ _ hblk hN;rw[hrn]at hrep;cases hrep with
  |rows _ _ _ _ _ cs' hb' hl hrep=>
   rw[hb]at hb';simp only[Option.some.injEq,Obj.cells.injEq,and_true]at hb';obtain⟨rfl,rfl⟩:=hb';have hmn:Nat.min m n=min m n:=rfl;by_cases h0:min m n=0
   ·have hst:=h.same (x':=.rows tt i.size n' (λa j=>if a<min m n then row2 a j else row a j)) hblk λG' hG' _=>by
     rw[hrn,h0];exact .rows _ _ _ _ b cs hb hl λa j ha hj=>by rw[if_neg Ω];exact(hrep a j ha hj).mono (λ_ _=>rfl) (λ_ h=>h) (λo c hc=>⟨hG' o c hc,rfl⟩) (Shapes.refl w)
    refine⟨.int .i64 (min m n:Nat),w,?_,hst,.val _⟩;rw[hu.eq];cases a2<;>simp[Builtin.copy_,run_underlying hte,Builtin.lenOf,sizeOf,typeInfo,hi,Builtin.firstCells,loadCells,loadCellsFrom,goInt,hmn,h0,storeCells]
   ·have hk2:k2=i.size:=by rcases h2 with h2|h2;exact absurd h2 h0;exact h2
    subst hk2;obtain⟨rfl,hle2,hat2,hrp2⟩:=hu;rcases hat2 with hz2|⟨b2,off2,rfl,hc2⟩
    ·omega
    have hc2':∀a j,a<min m n→j<i.size→w.cell? ⟨b2,off2+(a*i.size+j),none⟩=some (f2 a j):=λa j ha hj=>hc2 a j Ω hj;have hload:(Builtin.firstCells i.size (min m n) (.slice (some ⟨b2,off2,none⟩) m c2)).run P w=.ok (qG f2 (min m n) i.size).toArray w:=
     run_firstCells_some w i.size (min m n) ⟨b2,off2,none⟩ m c2 _ (qu _ _ _) (gW hc2' h6)
    have hfit:(min m n)*i.size≤cs.size:=xc1 (xa8 _ Ω) (hcs▸xa8 _ hcap);obtain⟨w',hrun,hst⟩:=zI (P:=P) h hblk hN hrn hb 0 (qG f2 (min m n) i.size) (by rw[qu];omega) (wQ (λa j ha hj=>hrp2 a j Ω hj) (λa j ha hj=>h7 a j Ω hj) h6)
     (.rows tt i.size n' (λa j=>if a<min m n then row2 a j else row a j)) (λG' w' cs' hw' hsz hget hrep'=>by
      refine .rows _ _ _ _ _ cs' hw' Ω λa j ha hj=>?_;rw[hget,qu];by_cases hlt:a<min m n
      ·have:=zN hlt hj
       rw[if_pos hlt,if_pos Ω,xc6,Nat.sub_zero,kU _ _ _ _ _ hlt hj]
       grind
      ·have:min m n*i.size≤a*i.size:=xa8 _ Ω
       rw[if_neg hlt,if_neg Ω];exact hrep' _ _ (hrep a j ha hj))
    refine⟨.int .i64 (min m n:Nat),w',?_,hst,.val _⟩;simp only[Builtin.copy_,Sem.run_bind];simp[run_underlying hte,Builtin.lenOf,sizeOf,typeInfo,hi,hmn,hload,goInt,hrun]
theorem qbc(h:Sat base okc r N hp w)(t ty:TypeId){d:SV}(hd:Rep r N (Gd base okc r N hp w) w d v){obl:Prop}{id:Nat}{b:Blk}(hres:rClear P t hp d=.upd obl id b)(ho:obl) :
  ∃w',(Builtin.clear_ #[t] ty #[v]).run P w=.ok undef w'∧Step base okc r N hp w r N (setBlk hp id b) w':=by
 unfold rClear at hres;split at hres
 rotate_left
 ·cases hres
 rename_i ag sz z0 e k ht;obtain⟨hte,i,hi,hk⟩:=zF ht;split at hres
 rotate_left
 ·cases hres
 rename_i ag' sz' z d' hte';obtain⟨zv,hz,hzl⟩:=vV hi hte';split at hres
 rotate_left
 ·rename_i id' n k'
  split at hres
  rotate_left
  ·cases hres
  rename_i t' k'' m row hblk;simp only[Res.upd.injEq]at hres;obtain⟨rfl,rfl,rfl⟩:=hres;obtain⟨rfl,rfl,rfl,h3,h4⟩:=ho;have hzc:(Builtin.zeroCells zv.cells n).toList=List.replicate n z:=by
   have hzs:zv.cells = #[z]:=by cases hh:zv.cells;simp_all
   apply List.ext_getElem?;intro x;simp only[Builtin.zeroCells,hzs,List.size_toArray,xe4,List.length_nil,xb0,Nat.mul_one,Nat.mod_one];by_cases hx:x<n
   ·simp_all
   ·simp_all
  cases hd with
  |vecNil _ _ hN hrn=>
   have hrep:=h.rep _ _ hblk hN;rw[hrn]at hrep;cases hrep;have hst:=h.same (x':=.rows t' 1 0 (λi j=>if i<0 then .val z else row i j)) hblk λG' hG' _=>by rw[hrn];exact .none _ _ _
   refine⟨w,?_,hst⟩;simp[Builtin.clear_,run_underlying hte,undef]
  |vec _ _ _ b cap cs tt hN hrn hb hcs hcap hmx=>
   have hrep:=h.rep _ _ hblk hN;rw[hrn]at hrep;cases hrep with
   |rows _ _ _ _ _ cs' hb' hl hrep=>
    rw[hb]at hb';simp only[Option.some.injEq,Obj.cells.injEq,and_true]at hb';obtain⟨rfl,rfl⟩:=hb';rcases n with _|n
    ·have hst:=h.same (x':=.rows tt 1 m (λi j=>if i<0 then .val z else row i j)) hblk λG' hG' _=>by
      rw[hrn];exact .rows _ _ _ _ b cs hb hl λa j ha hj=>by rw[if_neg Ω];exact(hrep a j ha hj).mono (λ_ _=>rfl) (λ_ h=>h) (λo c hc=>⟨hG' o c hc,rfl⟩) (Shapes.refl w)
     refine⟨w,?_,hst⟩;simp[Builtin.clear_,run_underlying hte,undef]
    ·obtain⟨w',hrun,hst⟩:=zI (P:=P) h hblk hN hrn hb 0 (List.replicate (n+1) z) Ωj (λx hx=>by rw[List.eq_of_mem_replicate hx];exact h4)
      (.rows tt 1 m (λi j=>if i<n+1 then .val z else row i j)) (λG' w' cs' hw' hsz hget hrep'=>by
       refine .rows _ _ _ _ _ cs' hw' Ω λa j ha hj=>?_;rw[hget];simp only[xd8];by_cases hlt:a<n+1
       ·rw[if_pos hlt,if_pos Ω,xc6,List.getElem?_replicate,if_pos Ω]
        exact .val _
       ·rw[if_neg hlt,if_neg Ω]
        exact hrep' _ _ (hrep a j ha hj))
     refine⟨w',?_,hst⟩;simp[Builtin.clear_,run_underlying hte,zeroValue,typeInfo,hi,hz,hzc,hrun,undef]
 ·rename_i id' off n k'
  split at hres
  rotate_left
  ·cases hres
  rename_i t' k'' m row hblk;simp only[Res.upd.injEq]at hres;obtain⟨rfl,rfl,rfl⟩:=hres;obtain⟨rfl,rfl,rfl,h3,h4⟩:=ho;have hzc:(Builtin.zeroCells zv.cells n).toList=List.replicate n z:=by
   have hzs:zv.cells = #[z]:=by cases hh:zv.cells;simp_all
   apply List.ext_getElem?;intro x;simp only[Builtin.zeroCells,hzs,List.size_toArray,xe4,List.length_nil,xb0,Nat.mul_one,Nat.mod_one];by_cases hx:x<n
   ·simp_all
   ·simp_all
  have nothing:∀a,n=0→v=.slice a 0 0→N id'→∃w',(Builtin.clear_ #[t] ty #[v]).run P w=.ok undef w'∧Step base okc r N hp w r N (setBlk hp id' (.rows t' 1 m (λi j=>if off≤i∧i<off+n then .val z else row i j))) w':=by
   rintro a rfl rfl hN;have hst:=h.same (x':=.rows t' 1 m (λi j=>if off≤i∧i<off+0 then .val z else row i j)) hblk λG' hG' _=>by
    have hrep:=h.rep _ _ hblk hN;generalize r id'=ob at hrep ⊢;cases hrep with
    |none=>exact .none _ _ _
    |rows _ _ _ _ b cs hb hl hrep=>exact .rows _ _ _ _ b cs hb hl λa j ha hj=>by rw[if_neg Ω];exact(hrep a j ha hj).mono (λ_ _=>rfl) (λ_ h=>h) (λo c hc=>⟨hG' o c hc,rfl⟩) (Shapes.refl w)
   refine⟨w,?_,hst⟩;cases a<;>simp[Builtin.clear_,run_underlying hte,undef]
  cases hd with
  |queNil _ _ _ a hN=>exact nothing a rfl rfl hN
  |que _ _ _ _ b cap cs tt hN hrn hb hcs hcap hmx=>
   have hrep:=h.rep _ _ hblk hN;rw[hrn]at hrep;cases hrep with
   |rows _ _ _ _ _ cs' hb' hl hrep=>
    rw[hb]at hb';simp only[Option.some.injEq,Obj.cells.injEq,and_true]at hb';obtain⟨rfl,rfl⟩:=hb';rcases n with _|n
    ·have hst:=h.same (x':=.rows tt 1 m (λi j=>if off≤i∧i<off+0 then .val z else row i j)) hblk λG' hG' _=>by
      rw[hrn];exact .rows _ _ _ _ b cs hb hl λa j ha hj=>by rw[if_neg Ω];exact(hrep a j ha hj).mono (λ_ _=>rfl) (λ_ h=>h) (λo c hc=>⟨hG' o c hc,rfl⟩) (Shapes.refl w)
     refine⟨w,?_,hst⟩;simp[Builtin.clear_,run_underlying hte,undef]
    ·obtain⟨w',hrun,hst⟩:=zI (P:=P) h hblk hN hrn hb (off*1) (List.replicate (n+1) z) Ωj (λx hx=>by rw[List.eq_of_mem_replicate hx];exact h4)
      (.rows tt 1 m (λi j=>if off≤i∧i<off+(n+1)then .val z else row i j)) (λG' w' cs' hw' hsz hget hrep'=>by
       refine .rows _ _ _ _ _ cs' hw' Ω λa j ha hj=>?_;rw[hget];simp only[xd8];by_cases hlt:off≤a∧a<off+(n+1)
       ·rw[if_pos hlt,if_pos Ω,xc6,List.getElem?_replicate,if_pos Ω]
        exact .val _
       ·rw[if_neg hlt,if_neg Ω]
        exact hrep' _ _ (hrep a j ha hj))
     refine⟨w',?_,hst⟩;rw[Nat.mul_one]at hrun;simp[Builtin.clear_,run_underlying hte,zeroValue,typeInfo,hi,hz,hzc,hrun,undef]
 ·cases hres
 rename_i id' off n k';split at hres
 rotate_left
 ·cases hres
 rename_i t' l hblk;simp only[Res.upd.injEq]at hres;obtain⟨rfl,rfl,rfl⟩:=hres;obtain⟨h1,rfl,rfl,h4,h5⟩:=ho;cases hd with
 |asl _ _ _ _ b cap hN hr hcap=>
  have hrep:=h.rep _ _ hblk hN;rw[hr]at hrep;cases hrep with
  |cells _ _ _ cs hb hl hc=>
   obtain⟨w',hrun,hst⟩:=zI (P:=P) h hblk hN hr hb off (List.replicate n z) Ωj (λx hx=>by rw[List.eq_of_mem_replicate hx];exact h4) (.cells t' (l.take off++List.replicate n (.val z)++l.drop (off+n))) (λG' w' cs' hw' hsz hget hrep'=>by
    refine .cells _ _ _ cs' hw' Ωj λx sv hx=>?_;rw[hget];simp only[xd8];by_cases hj:off≤x∧x<off+n
    ·rw[List.append_assoc,xd0 Ωj,xc9 Ωj]at hx
     have:min off l.length=off:=by omega
     rw[xd9,this,List.getElem?_replicate]at hx;rw[if_pos Ω]at hx;cases hx;rw[if_pos hj,xc6,List.getElem?_replicate,if_pos Ω];exact .val _
    ·rw[if_neg hj]
     refine hrep' _ _ (hc x sv ?_);by_cases hj':x<off
     ·rw[List.append_assoc,xc9 Ωj,List.getElem?_take_of_lt hj']at hx
      exact hx
     ·rw[xd0 Ωj,List.getElem?_drop]at hx
      have e:off+n+(x -(l.take off++List.replicate n (SV.val z)).length)=x:=by simp;omega
      rwa [e]at hx)
   refine⟨w',?_,hst⟩;have hzc:(Builtin.zeroCells zv.cells n).toList=List.replicate n z:=by
    have hzs:zv.cells = #[z]:=by cases hh:zv.cells;simp_all
    apply List.ext_getElem?;intro x;simp only[Builtin.zeroCells,hzs,List.size_toArray,xe4,List.length_nil,xb0,Nat.mul_one,Nat.mod_one];by_cases hx:x<n
    ·simp_all
    ·simp_all
   have hn:n≠0:=by omega
   obtain⟨n,rfl⟩:∃k,n=k+1:=⟨n - 1,Ω⟩;simp[Builtin.clear_,run_underlying hte,zeroValue,typeInfo,hi,hz,hzc,hrun,undef]
end
end Go.Sx
end
section
namespace Go.Sx
open Go.RowKit
variable{parts:List (Nat×SV)}{vparts:Array (Nat×Value)}
def fillS(place:Nat→Option (Nat×Nat)):List SV→List (Nat×SV)→Option (List SV)
 |cells,[]=>some cells
 |cells,(i,sv) :: rest=>match place i with
  |none=>none
  |some (o,s)=>match sv with
   |.agg l=>if l.length=s∧o+s≤cells.length then fillS place (cells.take o++l++cells.drop (o+s)) rest else none
   |sv=>if oneCell sv=true∧s=1∧o+1≤cells.length then fillS place (cells.set o sv) rest else none
def qt(P:Program)(t:TypeId):Option (List (Nat×Nat)):=
 match P.underlying t with
 |some (.struct fields)=>fields.toList.mapM (λf=>(P.info? f.type).map λi=>(f.offset,i.size))
 |some (.array n e)=>(P.info? e).map λi=>(List.range n).map λj=>(j*i.size,i.size)
 |_=>none
def rBuild(P:Program)(t:TypeId)(parts:List (Nat×SV)):Res:=
 match qn P t with
 |some ⟨true,_,some z,_⟩=>match qt P t with
  |some pl=>match fillS (λi=>pl[i]?) (vals z) parts with
   |some l=>.pure True (.agg l)
   |none=>.bad
  |none=>.bad
 |_=>.bad
def zrep(z:List Value):Nat→List SV
 |0=>[]
 |n+1=>vals z++zrep z n
def rBuildSlice(P:Program)(t:TypeId)(len:Nat)(parts:List (Nat×SV)):Res:=
 match qn P t with
 |some ⟨_,_,_,.slice e k⟩=>match qn P e with
  |some ⟨_,_,some z,_⟩=>match fillS (λi=>some (i*k,k)) (zrep z len) parts with
   |some l=>.new (z.length=k∧0<k∧len*k≤16777216) (.rows e k len (λi j=>l.getD (i*k+j) .top)) (λid=>.vec id len k)
   |none=>.bad
  |_=>.bad
 |_=>.bad
section
variable{P:Program}{base:World}{okc:Nat→Prop}{r:Nat→Option Nat}{N:Nat→Prop}{G:Bool→Nat→Prop}{w:World}{hp:List (Nat×Blk)}
def qbd(r:Nat→Option Nat)(N:Nat→Prop)(G:Bool→Nat→Prop)(w:World)(l:List SV)(cs:Array Value):Prop:=l.length=cs.size∧∀i sv,l[i]? = some sv→Rep r N G w sv (cs.getD i undef)
theorem JZ(off:Nat):∀(vs:List Value)(k:Nat)(cells:Array Value),off+k+vs.length≤cells.size→
  ((vs.zipIdx k).foldl (λcs (c,j)=>cs.setIfInBounds (off+j) c) cells).size=cells.size∧
  ∀x,((vs.zipIdx k).foldl (λcs (c,j)=>cs.setIfInBounds (off+j) c) cells).getD x undef=if off+k≤x∧x<off+k+vs.length then vs.getD (x -(off+k)) undef else cells.getD x undef
 |[],k,cells,h=>⟨rfl,λx=>by rw[if_neg Ωg];rfl⟩
 |v :: vs,k,cells,h=>by
  simp only[List.zipIdx_cons,List.foldl_cons];simp only[xe4]at h;obtain⟨h1,h2⟩:=JZ off vs (k+1) (cells.setIfInBounds (off+k) v) Ωj;refine⟨by rw[h1];simp,λx=>?_⟩;rw[h2];simp only[xe4];by_cases e:x=off+k
  ·subst e
   rw[if_neg Ω,if_pos Ω];(simp_all;omega)
  ·by_cases e':off+(k+1)≤x∧x<off+(k+1)+vs.length
   ·grind
   ·rw[if_neg e',if_neg Ω]
    simp only[xf5,Array.getElem?_setIfInBounds]
    grind
theorem qfp(off:Nat)(vs cells:Array Value):vs.zipIdx.foldl (λcs (c,j)=>cs.setIfInBounds (off+j) c) cells=(vs.toList.zipIdx 0).foldl (λcs (c,j)=>cs.setIfInBounds (off+j) c) cells:=by
 rw[←Array.foldl_toList]
 congr 1
 simp
theorem yz{place place':Nat→Option (Nat×Nat)}(hp:∀i x,place i=some x→place' i=some x):∀(parts:List (Nat×SV))(vparts:List (Nat×Value))(cells l:List SV)(cs:Array Value),fillS place cells parts=some l→qbd r N G w cells cs→
  parts.length=vparts.length→(∀(i:Nat) p q,parts[i]? = some p→vparts[i]? = some q→p.1=q.1∧Rep r N G w p.2 q.2)→∃cs',Instr.fill place' cs vparts=some cs'∧qbd r N G w l cs'
 |[],vparts,cells,l,cs,h,hc,hl,hr=>by
  simp only[fillS,Option.some.injEq]at h;subst h;cases vparts with
  |nil=>exact⟨cs,rfl,hc⟩
  |cons=>simp at hl
 |(i,sv) :: parts,vparts,cells,l,cs,h,hc,hl,hr=>by
  cases vparts with
  |nil=>simp at hl
  |cons q vparts=>
   obtain⟨i',v⟩:=q;obtain⟨e1,hv⟩:=hr 0 _ _ rfl rfl;simp only at e1 hv;subst e1;have hr':∀(j:Nat) p q,parts[j]? = some p→vparts[j]? = some q→p.1=q.1∧Rep r N G w p.2 q.2:=λj p q h1 h2=>hr (j+1) p q (by simpa using h1) (by simpa using h2);simp only[fillS]at h;cases hpl:place i with
   |none=>rw[hpl]at h;cases h
   |some os=>
    obtain⟨o,s⟩:=os;rw[hpl]at h;have hpl':=hp _ _ hpl;have key:∀(vc:List SV)(mid:List SV),qbd r N G w vc v.cells→vc.length=s→o+s≤cells.length→mid=cells.take o++vc++cells.drop (o+s)→fillS place mid parts=some l→∃cs',Instr.fill place' cs ((i,v) :: vparts)=some cs'∧qbd r N G w l cs':=by
     intro vc mid hvc hs hle hmid hfill;have hvs:v.cells.size=s:=hvc.1.symm.trans hs;have hcs:cells.length=cs.size:=hc.1;obtain⟨g1,g2⟩:=JZ o v.cells.toList 0 cs Ωj;rw[←qfp]at g1 g2;obtain⟨cs',h1,h2⟩:=yz hp parts vparts mid l _ hfill ⟨by rw[g1,hmid];simp;omega,λx sv hx=>by
      rw[g2,xb1];have hvl:v.cells.toList.length=s:=by simp[hvs]
      rw[hvl];subst hmid;by_cases hj:o≤x∧x<o+s
      ·rw[List.append_assoc,xd0 Ωj,xc9 Ωj]at hx
       have:min o cells.length=o:=by omega
       rw[xd9,this]at hx;rw[if_pos hj];have:=hvc.2 _ _ hx;simpa using this
      ·rw[if_neg hj]
       refine hc.2 x sv ?_;by_cases hj':x<o
       ·rw[List.append_assoc,xc9 Ωj,List.getElem?_take_of_lt hj']at hx
        exact hx
       ·rw[xd0 Ωj,List.getElem?_drop]at hx
        have e:o+s+(x -(cells.take o++vc).length)=x:=by simp;omega
        rwa [e]at hx⟩ Ω5 hr'
     refine⟨cs',?_,h2⟩;simp only[Instr.fill,hpl'];rw[if_neg (by rw[hvs];simp;omega)];exact h1
    have key1:oneCell sv=true→s=1→o+1≤cells.length→fillS place (cells.set o sv) parts=some l→∃cs',Instr.fill place' cs ((i,v) :: vparts)=some cs'∧qbd r N G w l cs':=by
     rintro h1 rfl h3 h;have hvc:v.cells = #[v]:=yw (hv.one h1);refine key [sv] _ ⟨by rw[hvc];rfl,λx s hx=>?_⟩ rfl h3 ?_ h
     ·rw[hvc]
      cases x with
      |zero=>simp at hx;subst hx;exact hv
      |succ x=>simp at hx
     ·rw[List.set_eq_take_append_cons_drop,if_pos Ω]
      simp
    cases sv with
    |agg vc=>
     simp only at h;split at h
     ·rename_i hh
      cases hv with
      |agg _ vcs hl' hr''=>exact key vc _ ⟨hl',hr''⟩ hh.1 hh.2 rfl h
     ·cases h
    |_=>
     simp only at h;split at h
     ·rename_i hh
      exact key1 hh.1 hh.2.1 hh.2.2 h
     ·cases h
theorem J0(z:Value):qbd r N G w (vals z.cells.toList) z.cells:=by
 refine⟨by simp[gk],λi sv hi=>?_⟩;rw[K4]at hi;cases hv':z.cells.toList[i]? with
 |none=>simp[hv']at hi
 |some u=>
  simp only[hv',xg1,Option.some.injEq]at hi;subst hi;have:z.cells.getD i undef=u:=by simp at hv';simp[hv']
  rw[this];exact .val u
theorem qbe{t:TypeId}(hl:parts.length=vparts.toList.length)(hr:∀(i:Nat) p q,parts[i]? = some p→vparts.toList[i]? = some q→p.1=q.1∧Rep r N G w p.2 q.2) :
  K1 P r N G w (Instr.build t vparts) (rBuild P t parts):=by
 unfold rBuild;split
 rotate_left
 ·trivial
 rename_i sz z d ht;split
 rotate_left
 ·trivial
 rename_i pl hpl;split
 rotate_left
 ·trivial
 rename_i l hf;intro _;obtain⟨i,d',hi,hd',e⟩:=zD ht;simp only[TyI.mk.injEq]at e;obtain⟨_,_,e3,_⟩:=e;obtain⟨zv,hz,rfl⟩:=vV hi ht;unfold qt at hpl;split at hpl
 ·rename_i fields hu
  obtain⟨cs',h1,h2⟩:=yz (r:=r) (N:=N) (G:=G) (w:=w) (place:=λi=>pl[i]?) (place':=(pl.toArray[·]?)) (λi x h=>by simpa using h) parts vparts.toList _ l zv.cells hf (J0 zv) hl hr;refine⟨_,run_build w t vparts cs' ?_,.agg _ _ h2.1 h2.2⟩;simp only[Program.built,hi,hu,hz,hpl,h1]
 ·rename_i n e hu
  cases hie:P.info? e with
  |none=>rw[hie]at hpl;simp at hpl
  |some ie=>
   rw[hie]at hpl;simp only[xg1,Option.some.injEq]at hpl;subst hpl;obtain⟨cs',h1,h2⟩:=yz (r:=r) (N:=N) (G:=G) (w:=w) (place:=λi=>((List.range n).map λj=>(j*ie.size,ie.size))[i]?) (place':=λi=>some (i*ie.size,ie.size)) (λi x h=>by
    simp only[List.getElem?_map,Option.map_eq_some_iff]at h;obtain⟨a,ha,rfl⟩:=h;have:=List.getElem?_eq_some_iff.1 ha;obtain⟨h1,h2⟩:=this;simp at h2;rw[h2]) parts vparts.toList _ l zv.cells hf (J0 zv) hl hr
   refine⟨_,run_build w t vparts cs' ?_,.agg _ _ h2.1 h2.2⟩;simp[Program.built,hi,hu,hz,hie,h1]
 ·cases hpl
theorem wT(z:List Value)(n:Nat):(zrep z n).length=n*z.length:=by
 induction n with
 |zero=>simp[zrep]
 |succ n ih=>simp[zrep,gk,ih,Nat.succ_mul,xc5]
theorem qgS(z:List Value)(n x:Nat)(h:x<n*z.length):(zrep z n)[x]? = some (.val (z.getD (x % z.length) undef)):=by
 induction n generalizing x with
 |zero=>simp at h
 |succ n ih=>
  simp only[zrep];by_cases hx:x<z.length
  ·rw[xc9 (by rw[gk];exact hx),K4,Nat.mod_eq_of_lt hx]
   simp[hx]
  ·rw[xd0 (by rw[gk];omega),gk,ih _ (by rw[Nat.succ_mul]at h;omega)]
   have:x % z.length=(x - z.length) % z.length:=by
    conv=>lhs;rw[show x=(x - z.length)+z.length by omega]
    rw[Nat.add_mod_right]
   rw[this]
theorem qfq{place:Nat→Option (Nat×Nat)}{p:Nat×SV}{rest:List (Nat×SV)}{b:List SV}(h:fillS place [] (p :: rest)=some b)(hp:∀x,place p.1=some x→0<x.2):False:=by
 obtain⟨i,sv⟩:=p;simp only[fillS]at h;cases hpl:place i with
 |none=>rw[hpl]at h;cases h
 |some os=>
  grind
theorem Kt(h:Sat base okc r N hp w)(t:TypeId)(len:Nat)(hl:parts.length=vparts.toList.length)(hr:∀(i:Nat) p q,parts[i]? = some p→vparts.toList[i]? = some q→p.1=q.1∧Rep r N (Gd base okc r N hp w) w p.2 q.2) :
  QP P base okc r N hp w (Instr.buildSlice t len vparts) (rBuildSlice P t len parts):=by
 unfold rBuildSlice;split
 rotate_left
 ·trivial
 rename_i ag sz z0 e k ht;obtain⟨hte,i,hi,hk⟩:=zF ht;split
 rotate_left
 ·trivial
 rename_i ag' sz' z d hte';obtain⟨zv,hz,rfl⟩:=vV hi hte';split
 rotate_left
 ·trivial
 rename_i l hf;rintro⟨h1,h2,h3⟩ id hp' hid hat hoth;subst hk;have hzs:zv.cells.size=i.size:=by simpa using h1
 by_cases hlen:len=0
 ·subst hlen
  have hl0:l.length=0∧parts=[]:=by
   cases parts with
   |nil=>simp only[fillS,zrep,Option.some.injEq]at hf;subst hf;exact⟨rfl,rfl⟩
   |cons p parts=>
    exfalso
    exact qfq hf λx hx=>by simp only[Option.some.injEq]at hx;rw[←hx];exact h2
  obtain⟨hl0,rfl⟩:=hl0;have hvp:vparts = #[]:=by
   cases vparts with
   |mk l=>have:=List.eq_nil_of_length_eq_zero hl.symm;simp at this;simp[this]
  subst hvp;have hrun:(Instr.buildSlice t 0 #[]).run P w=.ok (.slice (some ⟨w.heap.size,0,none⟩) 0 0) (w.alloc (.cells #[] e)):=by
   simp[Instr.buildSlice,run_underlying hte,sizeOf,typeInfo,hi,Instr.fill,newRow,Array.range_zero']
  have hst:=h.new id hid (.cells #[] e) _ hat hoth λr' N' G' _ _ _ _ _=>.rows _ _ _ _ _ _ (qH w _) Ωg λx j hx hj=>by omega
  exact⟨_,_,_,hrun,hst,.vec _ _ _ _ _ _ _ (.inr rfl) (qw _ _ _) (qH w _) Ωg (xa5 _) Ωg⟩
 ·have hpos:¬len*i.size=0:=by
   intro e0;rcases Nat.mul_eq_zero.1 e0 with e0|e0<;>omega
  have hzc:qbd r N (Gd base okc r N hp w) w (zrep zv.cells.toList len) ((Array.range (len*i.size)).map (zv.cells[· % zv.cells.size]!)):=by
   refine⟨by rw[wT];simp[hzs],λx sv hx=>?_⟩;have hlt:x<len*i.size:=by
    have:=(List.getElem?_eq_some_iff.1 hx).1;rw[wT]at this;simpa[hzs]using this
   rw[qgS _ _ _ (by simpa[hzs]using hlt)]at hx;cases hx;have hm:x % zv.cells.size<zv.cells.size:=Nat.mod_lt _ Ω;have e1:((Array.range (len*i.size)).map (zv.cells[· % zv.cells.size]!)).getD x undef=zv.cells.toList.getD (x % zv.cells.toList.length) undef:=by
    simp[hlt,hm]
   rw[e1];exact .val _
  obtain⟨cs',hf1,hf2⟩:=yz (place:=λj=>some (j*i.size,i.size)) (place':=λj=>some (j*i.size,i.size)) (λ_ _ h=>h) parts vparts.toList _ l _ hf hzc hl hr;have hsz:cs'.size=len*i.size:=by
   have hlen':∀(ps:List (Nat×SV))(a b:List SV),fillS (λj=>some (j*i.size,i.size)) a ps=some b→b.length=a.length:=by
    intro ps
    induction ps with
    |nil=>intro a b hab;simp only[fillS,Option.some.injEq]at hab;rw[hab]
    |cons p ps ih=>
     intro a b hab;obtain⟨pi,psv⟩:=p;simp only[fillS]at hab;split at hab
     ·split at hab
      ·rename_i hh
       rw[ih _ _ hab];simp;omega
      ·cases hab
     ·split at hab
      ·rw[ih _ _ hab];simp
      ·cases hab
   rw[←hf2.1,hlen' _ _ _ hf,wT];simp[hzs]
  have hrun:=run_buildSlice (P:=P) w t e len vparts cs' i zv hte hi hz Ω hpos hf1;have hst:=h.new id hid (.cells cs' e) _ hat hoth λr' N' G' g1 g2 g3 g4 g5=>.rows _ _ _ _ _ _ (qH w _) (by rw[hsz];exact xa5 _) λx j hx hj=>by
   have hlt:=zN hx hj;have hll:x*i.size+j<l.length:=by rw[hf2.1,hsz];exact hlt
   have:=hf2.2 (x*i.size+j) (l.getD (x*i.size+j) .top) (by simp[hll]);exact this.mono g1 g3 (λo b hb=>⟨g5 o b hb,zl w _ hb.1⟩) (Shapes.alloc w _)
  exact⟨_,_,_,hrun,hst,.vec _ _ _ _ _ _ _ (.inr rfl) (qw _ _ _) (qH w _) hsz (xa5 _) (by
   have:len≤len*i.size:=Nat.le_mul_of_pos_right _ h2;simp[maxLen];omega)⟩
end
end Go.Sx
end
section
namespace Go.Sx
open Go.RowKit
variable{p:SV}{v:Value}{r0:Nat→Option Nat}{N0:Nat→Prop}{ob:Option Nat}
mutual
def Sub(hp:List (Nat×Blk)):SV→SV→Prop
 |.top,_=>True
 |.val v,s=>s=.val v
 |.agg l,s=>match s with|.agg m=>SubL hp l m|_=>False
 |.tup l,s=>match s with|.tup m=>SubL hp l m|_=>False
 |.fn f a b,s=>match s with|.fn f' a' b'=>f=f'∧SubL hp a a'∧SubL hp b b'|_=>False
 |.ref o n row,s=>match s with
  |.ref o' n' row'=>(o=true→o'=true)∧n≤n'∧∀j,j<n→Sub hp (row j) (row' j)
  |.ptr id off=>match blk hp id with
   |some (.cells _ l)=>∀j,j<n→Sub hp (row j) (l.getD (off+j) .top)∧off+j<l.length
   |_=>False
  |.elt id k i j0=>match blk hp id with
   |some (.rows _ k' n' row')=>k=k'∧i<n'∧j0+n≤k∧∀j,j<n→Sub hp (row j) (row' i (j0+j))
   |_=>False
  |_=>False
 |.arr o full n k row,s=>match s with
  |.arr o' full' n' k' row'=>(o=true→o'=true)∧(full=true→full'=true)∧n=n'∧k=k'∧∀i j,i<n→j<k→Sub hp (row i j) (row' i j)
  |.vec id n' k'=>full=false∧n=n'∧k=k'∧match blk hp id with
   |some (.rows _ k'' m row')=>n≤m∧k=k''∧∀i j,i<n→j<k→Sub hp (row i j) (row' i j)
   |_=>False
  |.asl id off n' k'=>full=false∧n=n'∧k=k'∧match blk hp id with
   |some (.cells _ l)=>off+n*k≤l.length∧∀i j,i<n→j<k→Sub hp (row i j) (l.getD (off+(i*k+j)) .top)
   |_=>False
  |.cut id n' k'=>n=n'∧k=k'∧match blk hp id with
   |some (.rows _ k'' m row')=>n≤m∧k=k''∧∀i j,i<n→j<k→Sub hp (row i j) (row' i j)
   |_=>False
  |.val u=>nilSlice u=true∧n=0
  |_=>False
 |.cmp o fit dom get,s=>match s with
  |.cmp o' fit' dom' get'=>(o=true→o'=true)∧fit=fit'∧dom=dom'∧∀key,dom key=true→Sub hp (get key) (get' key)
  |.mp id=>match blk hp id with
   |some (.map fit' dom' get')=>fit=fit'∧dom=dom'∧∀key,dom key=true→Sub hp (get key) (get' key)
   |some (.mapS fit' dom' get' _ _)=>fit=fit'∧dom=dom'∧∀key,dom key=true→Sub hp (get key) (get' key)
   |_=>False
  |_=>False
 |_,_=>False
def SubL(hp:List (Nat×Blk)):List SV→List SV→Prop
 |[],m=>m=[]
 |a :: l,m=>match m with|b :: m=>Sub hp a b∧SubL hp l m|[]=>False
end
mutual
def Fresh:SV→Prop
 |.top=>True
 |.val _=>True
 |.agg l=>FreshL l
 |.tup l=>FreshL l
 |.fn _ a b=>FreshL a∧FreshL b
 |.ref o n row=>o=true∧∀j,j<n→Fresh (row j)
 |.arr o _ n k row=>o=true∧∀i j,i<n→j<k→Fresh (row i j)
 |.cmp o _ dom get=>o=true∧∀key,dom key=true→Fresh (get key)
 |_=>False
def FreshL:List SV→Prop
 |[]=>True
 |a :: l=>Fresh a∧FreshL l
end
def noR:Nat→Option Nat:=λ_=>none
def noN:Nat→Prop:=λ_=>False
def qf(P:Program)(f:FuncId)(args:List SV)(res:SV):Prop:=
 (∃ fn, P.funcs[f]? = some fn ∧ (fn.name == "runtime.NumGoroutine") = false ∧ fn.body.isSome = true) ∧
 ∀(okc:Nat→Prop)(w:World)(vs:Array Value),args.length=vs.size→
  (∀i sv,args[i]? = some sv→Rep noR noN (λ_ b=>okc b∧b<w.heap.size) w sv (vs.getD i undef))→
  Calls P f vs w λe w'=>∃v,e=.returned v∧Below w.heap.size w w'∧
   Rep noR noN (λo b=>b<w'.heap.size∧if o=true then w.heap.size≤b else okc b∨w.heap.size≤b) w' res v
inductive Sh:Type
 |one (i:Nat)
 |ag (l:List Nat)
def Sh.ids:Sh→List Nat
 |.one _=>[]
 |.ag l=>l
def Sh.val(vs:Array Value):Sh→Value
 |.one i=>vs.getD i undef
 |.ag l=>.agg (l.map λi=>vs.getD i undef).toArray
def Sh.sv(args:List SV):Sh→Option SV
 |.one i=>args[i]?
 |.ag l=>if (l.all λi=>oneCell (args.getD i .top))=true then some (.agg (l.map λi=>args.getD i .top))else none
def Ke(P:Program)(f:FuncId)(n:Nat)(s:Sh):Prop:=
 (∃ fn, P.funcs[f]? = some fn ∧ (fn.name == "runtime.NumGoroutine") = false ∧ fn.body.isSome = true) ∧
 ∀(w:World)(vs:Array Value),n=vs.size→(∀i,i∈s.ids→(vs.getD i undef).oneCell'=true)→Calls P f vs w λe w'=>e=.returned (s.val vs)∧Below w.heap.size w w'
theorem Sh.rep{r:Nat→Option Nat}{N:Nat→Prop}{G:Bool→Nat→Prop}{w:World}{args:List SV}{vs:Array Value}{res:SV}(ha:∀i sv,args[i]? = some sv→Rep r N G w sv (vs.getD i undef)){s:Sh}(h:s.sv args=some res) :
  Rep r N G w res (s.val vs)∧∀i,i∈s.ids→(vs.getD i undef).oneCell'=true:=by
 have hd:∀i,Rep r N G w (args.getD i .top) (vs.getD i undef):=λi=>by
  rw[xc6];cases e:args[i]? with
  |none=>exact .top _
  |some sv=>exact ha i sv e
 cases s with
 |one i=>exact⟨ha i res h,λj hj=>absurd hj (by simp[Sh.ids])⟩
 |ag l=>
  have h:(if (l.all λi=>oneCell (args.getD i .top))=true then some (SV.agg (l.map λi=>args.getD i .top))else none)=some res:=h;by_cases ho:(l.all λi=>oneCell (args.getD i .top))=true
  ·rw[if_pos ho]at h
   have h:=Option.some.inj h;subst h;refine⟨.agg _ _ Ωg λi sv hi=>?_,λi hi=>(hd i).one (List.all_eq_true.1 ho i hi)⟩;rw[List.getElem?_map]at hi;cases e:l[i]? with
   |none=>rw[e]at hi;cases hi
   |some k=>
    rw[e]at hi;cases hi
    simp_all
  ·simp_all
def CanC(P:Program)(hp:List (Nat×Blk))(f:FuncId)(args:List SV)(res:SV):Prop:=
 (∃pats,qf P f pats res∧((SubL hp pats args∧Fresh res)∨SubL [] pats args))∨∃s:Sh,Ke P f args.length s∧s.sv args=some res
theorem kw{hp:List (Nat×Blk)}:∀{l m:List SV},SubL hp l m→l.length=m.length∧∀(i:Nat)(a b:SV),l[i]? = some a→m[i]? = some b→Sub hp a b
 |[],m,h=>by simp only[SubL]at h;subst h;exact⟨rfl,λi a b h=>by simp at h⟩
 |a :: l,[],h=>by simp[SubL]at h
 |a :: l,b :: m,h=>by
  simp only[SubL]at h;obtain⟨h1,h2⟩:=kw h.2;refine⟨by simp[h1],λi x y hx hy=>?_⟩;cases i with
  |zero=>simp at hx hy;subst hx;subst hy;exact h.1
  |succ i=>exact h2 i x y Ω0 (by simpa using hy)
theorem zO:∀{l:List SV},FreshL l→∀(i:Nat)(a:SV),l[i]? = some a→Fresh a
 |[],_,i,a,h=>by simp at h
 |b :: l,hf,i,a,h=>by
  simp only[FreshL]at hf;cases i with
  |zero=>simp at h;subst h;exact hf.1
  |succ i=>exact zO hf.2 i a ΩN
section
variable{r:Nat→Option Nat}{N:Nat→Prop}{G G':Bool→Nat→Prop}{w:World}{hp:List (Nat×Blk)}
mutual
theorem zt(hG:∀o o' b,(o=true→o'=true)→G o' b→G' o b)(hB:∀id x,blk hp id=some x→N id→BlkRep r N G w (r id) x∧∀b,r id=some b→∀o,G' o b) :
  ∀(p s:SV)(v:Value),Sub hp p s→Rep r N G w s v→Rep noR noN G' w p v
 |.top,s,v,_,_=>.top v
 |.val u,s,v,h,hv=>by
  simp only[Sub]at h;subst h;cases hv;exact .val u
 |.agg l,s,v,h,hv=>by
  cases s<;>simp only[Sub]at h
  cases hv with
  |agg m cs hl hr=>exact .agg _ _ ((kw h).1.trans hl) λi a ha=>sub_repL hG hB l _ cs h hl hr i a ha
 |.tup l,s,v,h,hv=>by
  cases s<;>simp only[Sub]at h
  cases hv with
  |tup m cs hl hr=>exact .tup _ _ ((kw h).1.trans hl) λi a ha=>sub_repL hG hB l _ cs h hl hr i a ha
 |.fn f a b,s,v,h,hv=>by
  cases s<;>simp only[Sub]at h
  obtain⟨rfl,h1,h2⟩:=h;cases hv with
  |fn _ l m cs ds hl hm hr hr'=>
   exact .fn _ _ _ _ _ ((kw h1).1.trans hl) ((kw h2).1.trans hm) (λi x hx=>sub_repL hG hB a _ cs h1 hl hr i x hx) (λi x hx=>sub_repL hG hB b _ ds h2 hm hr' i x hx)
 |.ref o n row,s,v,h,hv=>by
  cases s<;>simp only[Sub]at h
  case ref o' n' row'=>
   obtain⟨ho,hn,hrow⟩:=h;cases hv with
   |ref _ _ _ b off f hg hc hr=>exact .ref _ _ _ _ _ f (hG _ _ _ ho hg) (λj hj=>hc j Ω) λj hj=>zt hG hB (row j) _ _ (hrow j hj) (hr j Ω)
  case ptr id off=>
   split at h
   ·rename_i t l hb
    cases hv with
    |ptr _ _ b hN hr=>
     obtain⟨h1,h2⟩:=hB _ _ hb hN;rw[hr]at h1;cases h1 with
     |cells _ _ _ cs hb' hl hrep=>
      refine .ref _ _ _ _ _ (λj=>cs.getD (off+j) undef) (h2 b hr _) (λj hj=>zH hb' _ (by have:=(h j hj).2;omega)) λj hj=>?_;obtain⟨h3,h4⟩:=h j hj;refine zt hG hB (row j) _ _ h3 (hrep _ _ ?_);simp[h4]
   ·exact h.elim
  case elt id k i j0=>
   split at h
   ·rename_i t k' n' row' hb
    obtain⟨rfl,hi,hj0,hrow⟩:=h;cases hv with
    |elt _ _ _ _ b hN hr=>
     obtain⟨h1,h2⟩:=hB _ _ hb hN;rw[hr]at h1;cases h1 with
     |rows _ _ _ _ _ cs hb' hl hrep=>
      have hik:i*k+k≤n'*k:=by rw[←Nat.succ_mul];exact xa8 _ hi
      refine .ref _ _ _ _ _ (λj=>cs.getD (i*k+j0+j) undef) (h2 b hr _) (λj hj=>zH hb' _ Ω) λj hj=>?_;refine zt hG hB (row j) _ _ (hrow j hj) ?_
      grind
   ·exact h.elim
 |.arr o full n k row,s,v,h,hv=>by
  cases s<;>simp only[Sub]at h
  case arr o' full' n' k' row'=>
   obtain⟨ho,hf,rfl,rfl,hrow⟩:=h;cases hv with
   |arrNil _ _ _ _ a cap hfc=>exact .arrNil _ _ _ _ _ _ λe=>hfc (hf e)
   |arr _ _ _ _ _ b off cap f hg hfc hcap hc hr=>
    exact .arr _ _ _ _ _ _ _ _ f (hG _ _ _ ho hg) (λe=>hfc (hf e)) hcap hc λi j hi hj=>zt hG hB (row i j) _ _ (hrow i j hi hj) (hr i j hi hj)
  case vec id n' k'=>
   obtain⟨rfl,rfl,rfl,h⟩:=h;split at h
   ·rename_i t k'' m row' hb
    obtain⟨hnm,rfl,hrow⟩:=h;cases hv with
    |vecNil _ _ hN hr=>exact .arrNil _ _ _ _ _ _ Ωg
    |vec _ _ _ b cap cs t' hN hr hb' hs hcap hm=>
     obtain⟨h1,h2⟩:=hB _ _ hb hN;rw[hr]at h1;cases h1 with
     |rows _ _ _ _ _ cs' hb'' hl hrep=>
      refine .arr _ _ _ _ _ _ _ _ (λi j=>cs'.getD (i*k+j) undef) (h2 b hr _) Ωg hcap (λi j hi hj=>?_) λi j hi hj=>zt hG hB (row i j) _ _ (hrow i j hi hj) (hrep i j Ω hj);have hik:i*k+k≤m*k:=by rw[←Nat.succ_mul];exact xa8 _ Ω
      rw[xb0];exact zH hb'' _ Ω
   ·exact h.elim
  case asl id off n' k'=>
   obtain⟨rfl,rfl,rfl,h⟩:=h;split at h
   ·rename_i t l hb
    obtain⟨hlen,hrow⟩:=h;cases hv with
    |asl _ _ _ _ b cap hN hr hcap=>
     obtain⟨h1,h2⟩:=hB _ _ hb hN;rw[hr]at h1;cases h1 with
     |cells _ _ _ cs hb' hl hrep=>
      have hik:∀i j,i<n→j<k→off+(i*k+j)<l.length:=λi j hi hj=>by
       have:i*k+k≤n*k:=by rw[←Nat.succ_mul];exact xa8 _ hi
       omega
      refine .arr _ _ _ _ _ _ _ _ (λi j=>cs.getD (off+(i*k+j)) undef) (h2 b hr _) Ωg hcap (λi j hi hj=>zH hb' _ (by have:=hik i j hi hj;omega)) λi j hi hj=>?_;refine zt hG hB (row i j) _ _ (hrow i j hi hj) (hrep _ _ ?_)
      simp_all
   ·exact h.elim
  case cut id n' k'=>
   obtain⟨rfl,rfl,h⟩:=h;split at h
   ·rename_i t k'' m row' hb
    obtain⟨hnm,rfl,hrow⟩:=h;cases hv with
    |cutNil _ _ hN hr=>exact .arrNil _ _ _ _ _ _ (λ_=>rfl)
    |cut _ _ _ b hN hr=>
     obtain⟨h1,h2⟩:=hB _ _ hb hN;rw[hr]at h1;cases h1 with
     |rows _ _ _ _ _ cs' hb'' hl hrep=>
      refine .arr _ _ _ _ _ _ _ _ (λi j=>cs'.getD (i*k+j) undef) (h2 b hr _) (λ_=>rfl) (xa5 _) (λi j hi hj=>?_) λi j hi hj=>zt hG hB (row i j) _ _ (hrow i j hi hj) (hrep i j Ω hj);have hik:i*k+k≤m*k:=by rw[←Nat.succ_mul];exact xa8 _ Ω
      rw[xb0];exact zH hb'' _ Ω
   ·exact h.elim
  case val u=>
   obtain⟨h1,rfl⟩:=h;obtain rfl:=gj h1;cases hv;exact .arrNil _ _ _ _ _ _ (λ_=>rfl)
 |.cmp o fit dom get,s,v,h,hv=>by
  cases s<;>simp only[Sub]at h
  case cmp o' fit' dom' get'=>
   obtain⟨ho,rfl,rfl,hrow⟩:=h;cases hv with
   |cmp _ _ _ _ b es clock hg hb hm hr=>
    exact .cmp _ _ _ _ b es clock (hG _ _ _ ho hg) hb hm λe he=>zt hG hB (get e.key) _ _ (hrow _ (hm.doms e he)) (hr e he)
  case mp id=>
   split at h
   ·rename_i fit' dom' get' hb
    obtain⟨rfl,rfl,hrow⟩:=h;cases hv with
    |mp _ b hN hr=>
     obtain⟨h1,h2⟩:=hB _ _ hb hN;rw[hr]at h1;cases h1 with
     |map _ _ _ _ es clock hb' hm ht hrep=>
      exact .cmp _ _ _ _ b es clock (h2 b hr _) hb' hm λe he=>zt hG hB (get e.key) _ _ (hrow _ (hm.doms e he)) (hrep e he)
   ·rename_i fit' dom' get' st' c' hb
    obtain⟨rfl,rfl,hrow⟩:=h;cases hv with
    |mp _ b hN hr=>
     obtain⟨h1,h2⟩:=hB _ _ hb hN;rw[hr]at h1;cases h1 with
     |mapS _ _ _ _ _ es _ hb' hm ht hst hrep=>
      exact .cmp _ _ _ _ b es _ (h2 b hr _) hb' hm λe he=>zt hG hB (get e.key) _ _ (hrow _ (hm.doms e he)) (hrep e he)
   ·exact h.elim
 |.cut _ _ _,s,v,h,_=>by simp[Sub]at h
 |.ptr _ _,s,v,h,_=>by simp[Sub]at h
 |.elt _ _ _ _,s,v,h,_=>by simp[Sub]at h
 |.vec _ _ _,s,v,h,_=>by simp[Sub]at h
 |.mp _,s,v,h,_=>by simp[Sub]at h
 |.asl _ _ _ _,s,v,h,_=>by simp[Sub]at h
 |.que _ _ _ _,s,v,h,_=>by simp[Sub]at h
 |.yld _,s,v,h,_=>by simp[Sub]at h
theorem sub_repL(hG:∀o o' b,(o=true→o'=true)→G o' b→G' o b)(hB:∀id x,blk hp id=some x→N id→BlkRep r N G w (r id) x∧∀b,r id=some b→∀o,G' o b) :
  ∀(l m:List SV)(cs:Array Value),SubL hp l m→m.length=cs.size→(∀i sv,m[i]? = some sv→Rep r N G w sv (cs.getD i undef))→∀(i:Nat)(a:SV),l[i]? = some a→Rep noR noN G' w a (cs.getD i undef)
 |[],m,cs,h,hl,hr,i,a,ha=>by simp at ha
 |p :: l,m,cs,h,hl,hr,i,a,ha=>by
  cases m with
  |nil=>simp[SubL]at h
  |cons b m=>
   simp only[SubL]at h;cases i with
   |zero=>
    simp at ha;subst ha;exact zt hG hB p b _ h.1 (hr 0 b Ωg)
   |succ i=>
    have:=sub_repL hG hB l m (cs.extract 1 cs.size) h.2 (by simp at hl ⊢;omega) (λj sv hj=>by
     have h1:=hr (j+1) sv (by simpa using hj);have hlt:j<m.length:=(List.getElem?_eq_some_iff.1 hj).1;have e:(cs.extract 1 cs.size).getD j undef=cs.getD (j+1) undef:=by
      simp only[xf5,Array.getElem?_extract]
      grind
     rw[e];exact h1) i a (by simpa using ha)
    have hlt:i<l.length:=by simp at ha;exact(List.getElem?_eq_some_iff.1 ha).1
    have hlm:=(kw h.2).1;have e:(cs.extract 1 cs.size).getD i undef=cs.getD (i+1) undef:=by
     simp only[xf5,Array.getElem?_extract]
     grind
    rwa [e]at this
end
theorem qfr(hG:∀b,G true b→G' true b)(h:Rep noR noN G w p v)(hf:Fresh p):Rep r N G' w p v:=by
 induction h with
 |top v=>exact .top v
 |val v=>exact .val v
 |agg l cs hl _ ih=>exact .agg l cs hl λi sv hi=>ih i sv hi (zO Ωai i sv hi)
 |tup l cs hl _ ih=>exact .tup l cs hl λi sv hi=>ih i sv hi (zO Ωai i sv hi)
 |fn f l m cs ds hl hm _ _ ih ih'=>
  simp only[Fresh]at hf;exact .fn f l m cs ds hl hm (λi sv hi=>ih i sv hi (zO hf.1 i sv hi)) (λi sv hi=>ih' i sv hi (zO hf.2 i sv hi))
 |ref o n row b off f hg hc _ ih=>
  simp only[Fresh]at hf;obtain⟨rfl,hf⟩:=hf;exact .ref _ _ _ _ _ f (hG _ hg) hc λj hj=>ih j hj (hf j hj)
 |arrNil o full k row a cap hfc=>exact .arrNil _ _ _ _ _ _ hfc
 |arr o full n k row b off cap f hg hfc hcap hc _ ih=>
  simp only[Fresh]at hf;obtain⟨rfl,hf⟩:=hf;exact .arr _ _ _ _ _ _ _ _ f (hG _ hg) hfc hcap hc λi j hi hj=>ih i j hi hj (hf i j hi hj)
 |cmp o fit dom get b es clock hg hb hm _ ih=>
  simp only[Fresh]at hf;obtain⟨rfl,hf⟩:=hf;exact .cmp _ _ _ _ b es clock (hG _ hg) hb hm λe he=>ih e he (hf _ (hm.doms e he))
 |cutNil id k hN=>exact hN.elim
 |cut id n k b hN=>exact hN.elim
 |ptr id off b hN=>exact hN.elim
 |elt id k i j b hN=>exact hN.elim
 |vecNil id k hN=>exact hN.elim
 |vec id n k b cap cs t hN=>exact hN.elim
 |mp id b hN=>exact hN.elim
 |asl id off n k b cap hN=>exact hN.elim
 |queNil id off k a hN=>exact hN.elim
 |que id off n k b cap cs t hN=>exact hN.elim
 |yld id b hN=>exact hN.elim
theorem ka(hG:∀o b,G o b→G' o b)(h:Rep noR noN G w p v):Rep r N G' w p v:=by
 induction h with
 |top v=>exact .top v
 |val v=>exact .val v
 |agg l cs hl _ ih=>exact .agg l cs hl ih
 |tup l cs hl _ ih=>exact .tup l cs hl ih
 |fn f l m cs ds hl hm _ _ ih ih'=>exact .fn f l m cs ds hl hm ih ih'
 |ref o n row b off f hg hc _ ih=>exact .ref _ _ _ _ _ f (hG _ _ hg) hc ih
 |arrNil o full k row a cap hfc=>exact .arrNil _ _ _ _ _ _ hfc
 |arr o full n k row b off cap f hg hfc hcap hc _ ih=>exact .arr _ _ _ _ _ _ _ _ f (hG _ _ hg) hfc hcap hc ih
 |cmp o fit dom get b es clock hg hb hm _ ih=>exact .cmp _ _ _ _ b es clock (hG _ _ hg) hb hm ih
 |cutNil id k hN=>exact hN.elim
 |cut id n k b hN=>exact hN.elim
 |ptr id off b hN=>exact hN.elim
 |elt id k i j b hN=>exact hN.elim
 |vecNil id k hN=>exact hN.elim
 |vec id n k b cap cs t hN=>exact hN.elim
 |mp id b hN=>exact hN.elim
 |asl id off n k b cap hN=>exact hN.elim
 |queNil id off k a hN=>exact hN.elim
 |que id off n k b cap cs t hN=>exact hN.elim
 |yld id b hN=>exact hN.elim
theorem gX(hG:∀b,G true b→G' true b)(h:Rep r0 N0 G w p v)(hf:Fresh p):Rep r N G' w p v:=by
 induction h with
 |top v=>exact .top v
 |val v=>exact .val v
 |agg l cs hl _ ih=>exact .agg l cs hl λi sv hi=>ih i sv hi (zO Ωai i sv hi)
 |tup l cs hl _ ih=>exact .tup l cs hl λi sv hi=>ih i sv hi (zO Ωai i sv hi)
 |fn f l m cs ds hl hm _ _ ih ih'=>
  simp only[Fresh]at hf;exact .fn f l m cs ds hl hm (λi sv hi=>ih i sv hi (zO hf.1 i sv hi)) (λi sv hi=>ih' i sv hi (zO hf.2 i sv hi))
 |ref o n row b off f hg hc _ ih=>
  simp only[Fresh]at hf;obtain⟨rfl,hf⟩:=hf;exact .ref _ _ _ _ _ f (hG _ hg) hc λj hj=>ih j hj (hf j hj)
 |arrNil o full k row a cap hfc=>exact .arrNil _ _ _ _ _ _ hfc
 |arr o full n k row b off cap f hg hfc hcap hc _ ih=>
  simp only[Fresh]at hf;obtain⟨rfl,hf⟩:=hf;exact .arr _ _ _ _ _ _ _ _ f (hG _ hg) hfc hcap hc λi j hi hj=>ih i j hi hj (hf i j hi hj)
 |cmp o fit dom get b es clock hg hb hm _ ih=>
  simp only[Fresh]at hf;obtain⟨rfl,hf⟩:=hf;exact .cmp _ _ _ _ b es clock (hG _ hg) hb hm λe he=>ih e he (hf _ (hm.doms e he))
 |ptr id off b hN=>simp[Fresh]at hf
 |elt id k i j b hN=>simp[Fresh]at hf
 |vecNil id k hN=>simp[Fresh]at hf
 |vec id n k b cap cs t hN=>simp[Fresh]at hf
 |mp id b hN=>simp[Fresh]at hf
 |asl id off n k b cap hN=>simp[Fresh]at hf
 |queNil id off k a hN=>simp[Fresh]at hf
 |que id off n k b cap cs t hN=>simp[Fresh]at hf
 |yld id b hN=>simp[Fresh]at hf
 |cutNil id k hN=>simp[Fresh]at hf
 |cut id n k b hN=>simp[Fresh]at hf
end
mutual
def setId(id:Nat):SV→SV
 |.agg l=>.agg (setIdL id l)
 |.tup l=>.tup (setIdL id l)
 |.fn f a b=>.fn f (setIdL id a) (setIdL id b)
 |.ptr _ off=>.ptr id off
 |.elt _ k i j=>.elt id k i j
 |.vec _ n k=>.vec id n k
 |.mp _=>.mp id
 |.asl _ off n k=>.asl id off n k
 |.que _ off n k=>.que id off n k
 |.cut _ n k=>.cut id n k
 |.yld _=>.yld id
 |.top=>.top
 |.val v=>.val v
 |.ref o n row=>.ref o n row
 |.arr o full n k row=>.arr o full n k row
 |.cmp o fit dom get=>.cmp o fit dom get
def setIdL(id:Nat):List SV→List SV
 |[]=>[]
 |a :: l=>setId id a :: setIdL id l
end
mutual
def FreshO:SV→Prop
 |.agg l=>FreshOL l
 |.tup l=>FreshOL l
 |.fn _ a b=>FreshOL a∧FreshOL b
 |.ref o n row=>o=true∧∀j,j<n→Fresh (row j)
 |.arr o _ n k row=>o=true∧∀i j,i<n→j<k→Fresh (row i j)
 |.cmp o _ dom get=>o=true∧∀key,dom key=true→Fresh (get key)
 |_=>True
def FreshOL:List SV→Prop
 |[]=>True
 |a :: l=>FreshO a∧FreshOL l
end
def FreshB:Blk→Prop
 |.cells _ l=>FreshL l
 |.rows _ k n row=>∀i j,i<n→j<k→Fresh (row i j)
 |.map _ dom get=>∀key,dom key=true→Fresh (get key)
 |_=>False
theorem kb(id:Nat):∀(l:List SV)(i:Nat),(setIdL id l)[i]? =(l[i]?).map (setId id)
 |[],i=>by simp[setIdL]
 |a :: l,0=>by simp[setIdL]
 |a :: l,i+1=>by simp[setIdL,kb id l i]
theorem vr(id:Nat)(l:List SV):(setIdL id l).length=l.length:=by induction l<;>simp[setIdL, *]
theorem ji:∀{l:List SV},FreshOL l→∀(i:Nat)(a:SV),l[i]? = some a→FreshO a
 |[],_,i,a,h=>by simp at h
 |b :: l,hf,i,a,h=>by
  simp only[FreshOL]at hf;cases i with
  |zero=>simp at h;subst h;exact hf.1
  |succ i=>exact ji hf.2 i a ΩN
def Qk(ob:Option Nat):Nat→Option Nat:=λi=>if i=0 then ob else none
def VR:Nat→Prop:=λi=>i=0
section
variable{r:Nat→Option Nat}{N:Nat→Prop}{G G':Bool→Nat→Prop}{w:World}{hp:List (Nat×Blk)}
theorem qle{id:Nat}(hr:r id=ob)(hN:N id)(hG:∀b,G true b→G' true b)(h:Rep (Qk ob) VR G w p v)(hf:FreshO p):Rep r N G' w (setId id p) v:=by
 have hget:∀{i},VR i→r id=Qk ob i:=λ{i} hi=>by have:i=0:=hi;subst this;rw[hr];simp[Qk]
 induction h with
 |top v=>exact .top v
 |val v=>exact .val v
 |agg l cs hl _ ih=>
  simp only[FreshO]at hf;refine .agg _ cs ΩZ λi sv hi=>?_;rw[kb]at hi;simp only[Option.map_eq_some_iff]at hi;obtain⟨a,ha,rfl⟩:=hi;exact ih i a ha (ji hf i a ha)
 |tup l cs hl _ ih=>
  simp only[FreshO]at hf;refine .tup _ cs ΩZ λi sv hi=>?_;rw[kb]at hi;simp only[Option.map_eq_some_iff]at hi;obtain⟨a,ha,rfl⟩:=hi;exact ih i a ha (ji hf i a ha)
 |fn f l m cs ds hl hm _ _ ih ih'=>
  simp only[FreshO]at hf;refine .fn f _ _ cs ds ΩZ (by rw[vr];exact hm) (λi sv hi=>?_) λi sv hi=>?_
  ·rw[kb]at hi
   simp only[Option.map_eq_some_iff]at hi;obtain⟨a,ha,rfl⟩:=hi;exact ih i a ha (ji hf.1 i a ha)
  ·rw[kb]at hi
   simp only[Option.map_eq_some_iff]at hi;obtain⟨a,ha,rfl⟩:=hi;exact ih' i a ha (ji hf.2 i a ha)
 |ref o n row b off f hg hc hrow _=>exact gX hG (.ref o n row b off f hg hc hrow) Ωad
 |arrNil o full k row a cap hfc=>exact .arrNil _ _ _ _ _ _ hfc
 |arr o full n k row b off cap f hg hfc hcap hc hrow _=>exact gX hG (.arr o full n k row b off cap f hg hfc hcap hc hrow) Ωad
 |cmp o fit dom get b es clock hg hb hm hrow _=>exact gX hG (.cmp o fit dom get b es clock hg hb hm hrow) Ωad
 |ptr i off b hi hri=>exact .ptr _ _ _ hN ((hget hi).trans hri)
 |elt i k x j b hi hri=>exact .elt _ _ _ _ _ hN ((hget hi).trans hri)
 |vecNil i k hi hri=>exact .vecNil _ _ hN ((hget hi).trans hri)
 |vec i n k b cap cs t hi hri hb hs hcap hm=>exact .vec _ _ _ _ cap cs t hN ((hget hi).trans hri) hb hs hcap hm
 |mp i b hi hri=>exact .mp _ _ hN ((hget hi).trans hri)
 |asl i off n k b cap hi hri hcap=>exact .asl _ _ _ _ _ _ hN ((hget hi).trans hri) hcap
 |queNil i off k a hi=>exact .queNil _ _ _ _ hN
 |que i off n k b cap cs t hi hri hb hs hcap hm=>exact .que _ _ _ _ _ cap cs t hN ((hget hi).trans hri) hb hs hcap hm
 |cutNil i k hi hri=>exact .cutNil _ _ hN ((hget hi).trans hri)
 |cut i n k b hi hri=>exact .cut _ _ _ _ hN ((hget hi).trans hri)
 |yld i b hi hri=>exact .yld _ _ hN ((hget hi).trans hri)
theorem qlf(hG:∀b,G true b→G' true b){b:Blk}(h:BlkRep r0 N0 G w ob b)(hf:FreshB b):BlkRep r N G' w ob b:=by
 cases h with
 |cells t l b cs hb hl h=>exact .cells t l b cs hb hl λi sv hi=>gX hG (h i sv hi) (zO hf i sv hi)
 |none t k row=>exact .none t k row
 |rows t k n row b cs hb hl h=>exact .rows t k n row b cs hb hl λi j hi hj=>gX hG (h i j hi hj) (hf i j hi hj)
 |map fit dom get b es clock hb hm ht h=>exact .map fit dom get b es clock hb hm ht λe he=>gX hG (h e he) (hf _ (hm.doms e he))
 |mapS _ _ _ _ _ _ _=>exact hf.elim
 |iter _ _ _ _ _ _ _=>exact hf.elim
 |loop _ _ _ _=>exact hf.elim
end
mutual
def Cl:SV→Prop
 |.top=>True
 |.val _=>True
 |.agg l=>ClL l
 |.tup l=>ClL l
 |.fn _ a b=>ClL a∧ClL b
 |.ref _ n row=>∀j,j<n→Cl (row j)
 |.arr _ _ n k row=>∀i j,i<n→j<k→Cl (row i j)
 |.cmp _ _ dom get=>∀key,dom key=true→Cl (get key)
 |_=>False
def ClL:List SV→Prop
 |[]=>True
 |a :: l=>Cl a∧ClL l
end
mutual
def ClO:SV→Prop
 |.agg l=>ClOL l
 |.tup l=>ClOL l
 |.fn _ a b=>ClOL a∧ClOL b
 |.ref _ n row=>∀j,j<n→Cl (row j)
 |.arr _ _ n k row=>∀i j,i<n→j<k→Cl (row i j)
 |.cmp _ _ dom get=>∀key,dom key=true→Cl (get key)
 |_=>True
def ClOL:List SV→Prop
 |[]=>True
 |a :: l=>ClO a∧ClOL l
end
def ClB:Blk→Prop
 |.cells _ l=>ClL l
 |.rows _ k n row=>∀i j,i<n→j<k→Cl (row i j)
 |.map _ dom get=>∀key,dom key=true→Cl (get key)
 |_=>False
theorem yA:∀{l:List SV},ClL l→∀(i:Nat)(a:SV),l[i]? = some a→Cl a
 |[],_,i,a,h=>by simp at h
 |b :: l,hf,i,a,h=>by
  simp only[ClL]at hf;cases i with
  |zero=>simp at h;subst h;exact hf.1
  |succ i=>exact yA hf.2 i a ΩN
theorem wU:∀{l:List SV},ClOL l→∀(i:Nat)(a:SV),l[i]? = some a→ClO a
 |[],_,i,a,h=>by simp at h
 |b :: l,hf,i,a,h=>by
  simp only[ClOL]at hf;cases i with
  |zero=>simp at h;subst h;exact hf.1
  |succ i=>exact wU hf.2 i a ΩN
section
variable{r:Nat→Option Nat}{N:Nat→Prop}{G G':Bool→Nat→Prop}{w:World}{hp:List (Nat×Blk)}
theorem ZE(hG:∀o b,G o b→G' o b)(h:Rep r0 N0 G w p v)(hf:Cl p):Rep r N G' w p v:=by
 induction h with
 |top v=>exact .top v
 |val v=>exact .val v
 |agg l cs hl _ ih=>exact .agg l cs hl λi sv hi=>ih i sv hi (yA (by simpa only[Cl]using hf) i sv hi)
 |tup l cs hl _ ih=>exact .tup l cs hl λi sv hi=>ih i sv hi (yA (by simpa only[Cl]using hf) i sv hi)
 |fn f l m cs ds hl hm _ _ ih ih'=>
  simp only[Cl]at hf;exact .fn f l m cs ds hl hm (λi sv hi=>ih i sv hi (yA hf.1 i sv hi)) (λi sv hi=>ih' i sv hi (yA hf.2 i sv hi))
 |ref o n row b off f hg hc _ ih=>
  simp only[Cl]at hf;exact .ref _ _ _ _ _ f (hG _ _ hg) hc λj hj=>ih j hj (hf j hj)
 |arrNil o full k row a cap hfc=>exact .arrNil _ _ _ _ _ _ hfc
 |arr o full n k row b off cap f hg hfc hcap hc _ ih=>
  simp only[Cl]at hf;exact .arr _ _ _ _ _ _ _ _ f (hG _ _ hg) hfc hcap hc λi j hi hj=>ih i j hi hj (hf i j hi hj)
 |cmp o fit dom get b es clock hg hb hm _ ih=>
  simp only[Cl]at hf;exact .cmp _ _ _ _ b es clock (hG _ _ hg) hb hm λe he=>ih e he (hf _ (hm.doms e he))
 |ptr id off b hN=>simp[Cl]at hf
 |elt id k i j b hN=>simp[Cl]at hf
 |vecNil id k hN=>simp[Cl]at hf
 |vec id n k b cap cs t hN=>simp[Cl]at hf
 |mp id b hN=>simp[Cl]at hf
 |asl id off n k b cap hN=>simp[Cl]at hf
 |queNil id off k a hN=>simp[Cl]at hf
 |que id off n k b cap cs t hN=>simp[Cl]at hf
 |yld id b hN=>simp[Cl]at hf
 |cutNil id k hN=>simp[Cl]at hf
 |cut id n k b hN=>simp[Cl]at hf
theorem qok{id:Nat}(hr:r id=ob)(hN:N id)(hG:∀o b,G o b→G' o b)(h:Rep (Qk ob) VR G w p v)(hf:ClO p):Rep r N G' w (setId id p) v:=by
 have hget:∀{i},VR i→r id=Qk ob i:=λ{i} hi=>by have:i=0:=hi;subst this;rw[hr];simp[Qk]
 induction h with
 |top v=>exact .top v
 |val v=>exact .val v
 |agg l cs hl _ ih=>
  simp only[ClO]at hf;refine .agg _ cs ΩZ λi sv hi=>?_;rw[kb]at hi;simp only[Option.map_eq_some_iff]at hi;obtain⟨a,ha,rfl⟩:=hi;exact ih i a ha (wU hf i a ha)
 |tup l cs hl _ ih=>
  simp only[ClO]at hf;refine .tup _ cs ΩZ λi sv hi=>?_;rw[kb]at hi;simp only[Option.map_eq_some_iff]at hi;obtain⟨a,ha,rfl⟩:=hi;exact ih i a ha (wU hf i a ha)
 |fn f l m cs ds hl hm _ _ ih ih'=>
  simp only[ClO]at hf;refine .fn f _ _ cs ds ΩZ (by rw[vr];exact hm) (λi sv hi=>?_) λi sv hi=>?_
  ·rw[kb]at hi
   simp only[Option.map_eq_some_iff]at hi;obtain⟨a,ha,rfl⟩:=hi;exact ih i a ha (wU hf.1 i a ha)
  ·rw[kb]at hi
   simp only[Option.map_eq_some_iff]at hi;obtain⟨a,ha,rfl⟩:=hi;exact ih' i a ha (wU hf.2 i a ha)
 |ref o n row b off f hg hc hrow _=>exact ZE hG (.ref o n row b off f hg hc hrow) (by simpa only[setId,ClO,Cl]using hf)
 |arrNil o full k row a cap hfc=>exact .arrNil _ _ _ _ _ _ hfc
 |arr o full n k row b off cap f hg hfc hcap hc hrow _=>exact ZE hG (.arr o full n k row b off cap f hg hfc hcap hc hrow) (by simpa only[setId,ClO,Cl]using hf)
 |cmp o fit dom get b es clock hg hb hm hrow _=>exact ZE hG (.cmp o fit dom get b es clock hg hb hm hrow) (by simpa only[setId,ClO,Cl]using hf)
 |ptr i off b hi hri=>exact .ptr _ _ _ hN ((hget hi).trans hri)
 |elt i k x j b hi hri=>exact .elt _ _ _ _ _ hN ((hget hi).trans hri)
 |vecNil i k hi hri=>exact .vecNil _ _ hN ((hget hi).trans hri)
 |vec i n k b cap cs t hi hri hb hs hcap hm=>exact .vec _ _ _ _ cap cs t hN ((hget hi).trans hri) hb hs hcap hm
 |mp i b hi hri=>exact .mp _ _ hN ((hget hi).trans hri)
 |asl i off n k b cap hi hri hcap=>exact .asl _ _ _ _ _ _ hN ((hget hi).trans hri) hcap
 |queNil i off k a hi=>exact .queNil _ _ _ _ hN
 |que i off n k b cap cs t hi hri hb hs hcap hm=>exact .que _ _ _ _ _ cap cs t hN ((hget hi).trans hri) hb hs hcap hm
 |cutNil i k hi hri=>exact .cutNil _ _ hN ((hget hi).trans hri)
 |cut i n k b hi hri=>exact .cut _ _ _ _ hN ((hget hi).trans hri)
 |yld i b hi hri=>exact .yld _ _ hN ((hget hi).trans hri)
theorem qol(hG:∀o b,G o b→G' o b){b:Blk}(h:BlkRep r0 N0 G w ob b)(hf:ClB b):BlkRep r N G' w ob b:=by
 cases h with
 |cells t l b cs hb hl h=>exact .cells t l b cs hb hl λi sv hi=>ZE hG (h i sv hi) (yA hf i sv hi)
 |none t k row=>exact .none t k row
 |rows t k n row b cs hb hl h=>exact .rows t k n row b cs hb hl λi j hi hj=>ZE hG (h i j hi hj) (hf i j hi hj)
 |map fit dom get b es clock hb hm ht h=>exact .map fit dom get b es clock hb hm ht λe he=>ZE hG (h e he) (hf _ (hm.doms e he))
 |mapS _ _ _ _ _ _ _=>exact hf.elim
 |iter _ _ _ _ _ _ _=>exact hf.elim
 |loop _ _ _ _=>exact hf.elim
end
def NewOk(hp:List (Nat×Blk))(pats args:List SV)(b:Blk)(res:SV):Prop:=(SubL hp pats args∧FreshO res∧FreshB b)∨(SubL [] pats args∧ClO res∧ClB b)
def zx(P:Program)(f:FuncId)(args:List SV)(b:Blk)(res:SV):Prop:=
 (∃ fn, P.funcs[f]? = some fn ∧ (fn.name == "runtime.NumGoroutine") = false ∧ fn.body.isSome = true) ∧
 ∀(okc:Nat→Prop)(w:World)(vs:Array Value),args.length=vs.size→
  (∀i sv,args[i]? = some sv→Rep noR noN (λ_ b=>okc b∧b<w.heap.size) w sv (vs.getD i undef))→
  Calls P f vs w λe w'=>∃v ob,e=.returned v∧Below w.heap.size w w'∧(∀c,ob=some c→w.heap.size≤c)∧
   BlkRep (Qk ob) VR (λo b=>b<w'.heap.size∧ob≠some b∧if o=true then w.heap.size≤b else okc b∨w.heap.size≤b) w' ob b∧
   Rep (Qk ob) VR (λo b=>b<w'.heap.size∧ob≠some b∧if o=true then w.heap.size≤b else okc b∨w.heap.size≤b) w' res v
end Go.Sx
end
section
namespace Go.Sx
open Go.RowKit
variable{u v:Value}{kt:TypeId}{ag:Bool}{ls:List Lf}{k m x:SV}{dom:Value→Bool}{es:Array MapEntry}{clock i:Nat}
def qh(ag:Bool)(ls:List Lf)(v:Value):Bool:=
 match ag with
 |true=>match v with|.agg cs=>qY ls cs.toList|_=>false
 |false=>qY ls [v]
def vX:Value→Value→Bool
 |.int k a,.int k' b=>decide (k=k')&&decide (a=b)
 |.bool a,.bool b=>decide (a=b)
 |_,_=>false
def jB:List Value→List Value→Bool
 |[],[]=>true
 |v :: l,u :: m=>vX v u&&jB l m
 |_,_=>false
def eqK(v u:Value):Bool:=
 match v,u with
 |.agg a,.agg b=>jB a.toList b.toList
 |a,b=>vX a b
theorem qcT(h:vX v u=true):v=u:=by
 cases v<;>cases u<;>simp[vX]at h<;>simp[h]
theorem Ye:∀{x y:List Value},jB x y=true→x=y
 |[],[],_=>rfl
 |[],_ :: _,h=>by simp[jB]at h
 |_ :: _,[],h=>by simp[jB]at h
 |v :: x,u :: y,h=>by
  simp only[jB,xe6]at h;rw[qcT h.1,Ye h.2]
theorem zz(h:eqK v u=true):v=u:=by
 unfold eqK at h;split at h
 ·rename_i a b
  have:=Ye h
  simp_all
 ·exact qcT h
theorem qgT{f:Lf}(hv:lfOk f v=true)(hu:lfOk f u=true):vX v u=eqV v u:=by
 cases f<;>cases v<;>simp[lfOk]at hv<;>cases u<;>simp[lfOk]at hu
 ·subst hv;subst hu;simp[vX,eqV]
 ·simp[vX,eqV]
theorem J2:∀{l:List Lf}{x y:List Value},qY l x=true→qY l y=true→jB x y=eqVs x y
 |[],[],[],_,_=>rfl
 |[],_ :: _,_,h,_=>by simp[qY]at h
 |[],[],_ :: _,_,h=>by simp[qY]at h
 |_ :: _,[],_,h,_=>by simp[qY]at h
 |_ :: _,_ :: _,[],_,h=>by simp[qY]at h
 |f :: l,v :: x,u :: y,h,h'=>by
  simp only[qY,xe6]at h h';simp only[jB,eqVs,qgT h.1 h'.1,J2 h.2 h'.2]
def kI(P:Program)(kt:TypeId):Option (Bool×List Lf):=
 match P.underlying kt with
 |some d=>match zq P 12 kt with|some ls=>some (zS d,ls)|none=>none
 |none=>none
def keyVs:List SV→Option (List Value)
 |[]=>some []
 |.val v :: l=>match keyVs l with|some m=>some (v :: m)|none=>none
 |_=>none
def keyV:SV→Option Value
 |.val v=>some v
 |.agg l=>match keyVs l with|some m=>some (.agg m.toArray)|none=>none
 |_=>none
section
variable{P:Program}
theorem jT(h:kI P kt=some (ag,ls))(hv:qh ag ls v=true):∃d x,P.underlying kt=some d∧zS d=ag∧zq P 12 kt=some ls∧qY ls x=true∧v=mkV P kt x∧(ag=true→v=.agg x.toArray)∧(ag=false→x=[v]):=by
 unfold kI at h;cases hu:P.underlying kt with
 |none=>simp[hu]at h
 |some d=>
  rw[hu]at h;cases hl:zq P 12 kt with
  |none=>simp[hl]at h
  |some l=>
   simp only[hl,Option.some.injEq,Prod.mk.injEq]at h;obtain⟨rfl,rfl⟩:=h;cases hd:zS d with
   |true=>
    rw[hd]at hv;cases v<;>simp only[qh,xe7]at hv
    rename_i cs;exact⟨d,cs.toList,rfl,hd,rfl,hv,by simp[mkV,hu,hd],Ωg,Ωg⟩
   |false=>
    rw[hd]at hv;exact⟨d,[v],rfl,hd,rfl,hv,by simp[mkV,hu,hd],Ωg,Ωg⟩
theorem qgU{x y:List Value}{d:TypeDesc}(hu:P.underlying kt=some d)(hl:zq P 12 kt=some ls)(hx:qY ls x=true)(hy:qY ls y=true):eqK (mkV P kt x) (mkV P kt y)=eqVs x y:=by
 obtain⟨d',hu',h1⟩:=QO hl;rw[hu]at hu';cases hu';cases hd:zS d with
 |true=>simp[mkV,hu,hd,eqK,J2 hx hy]
 |false=>
  have:=h1 hd;have hxl:=zb hx;have hyl:=zb hy
  match x,y,hxl,hyl with
  |[v],[u],_,_=>
   simp only[mkV,hu,hd,xe7,if_false,List.headD_cons,eqVs,xf1]
   match ls,this with
   |[f],_=>
    simp only[qY,xf1]at hx hy;cases f<;>cases v<;>simp[lfOk]at hx<;>cases u<;>simp[lfOk]at hy<;>simp[eqK,vX,eqV]
    simp_all
  |[],_,h,_=>simp at h;omega
  |_ :: _ :: _,_,h,_=>simp at h;omega
  |[_],[],_,h=>simp at h;omega
  |[_],_ :: _ :: _,_,h=>simp at h;omega
theorem ja(h:kI P kt=some (ag,ls))(hv:qh ag ls v=true)(hu:qh ag ls u=true):eqK v u=true↔v=u:=by
 obtain⟨d,x,hd,ha,hl,hx,rfl,h1,h1'⟩:=jT h hv;obtain⟨d',y,hd',ha',hl',hy,rfl,h2,h2'⟩:=jT h hu;rw[qgU hd hl hx hy,Ya hx hy];constructor
 ·rintro rfl;rfl
 ·intro e
  cases ag with
  |true=>
   have e1:=h1 rfl;have e2:=h2 rfl;rw[e1,e2]at e;simpa using e
  |false=>
   rw[h1' rfl,h2' rfl,e]
theorem qfs(h:kI P kt=some (ag,ls))(hv:qh ag ls v=true)(hu:qh ag ls u=true)(w:World):(Op.equal kt v u).run P w=.ok (eqK v u) w:=by
 obtain⟨d,x,hd,ha,hl,hx,rfl,h1,h1'⟩:=jT h hv;obtain⟨d',y,hd',ha',hl',hy,rfl,h2,h2'⟩:=jT h hu;rw[qgU hd hl hx hy];exact eqS (P:=P) 12 9988 kt ls hl w x y hx hy
def qbf(P:Program)(dd:Nat)(t:TypeId)(l:List Lf):Prop:=∀(e:Bool)(w:World)(x:List Value),qY l x=true→(Instr.checkKey e dd t (mkV P t x)).run P w=.ok () w
theorem qgV(e:Bool)(dd:Nat){g:TypeId→Option (List Lf)}(m:Nat)(hg:∀t l,g t=some l→zq P m t=some l∧qbf P dd t l):∀(fs:List Field)(o:Nat)(l:List Lf),jE g P fs o=some l→
  ∀(w:World)(a x:List Value),a.length=o→qY l x=true→
  (forIn fs PUnit.unit (λf _ => if f.name ≠ "_" then do Instr.checkKey e dd f.type (← part f.type (a ++ x).toArray f.offset); pure (ForInStep.yield PUnit.unit) else pure (ForInStep.yield PUnit.unit)) : Sem PUnit).run P w = .ok PUnit.unit w
 |[],o,l,h,w,a,x,ha,hx=>by simp
 |f :: fs,o,l,h,w,a,x,ha,hx=>by
  simp only[jE]at h;split at h
  ·rename_i hf
   cases hgl:g f.type with
   |none=>rw[hgl]at h;cases h
   |some l1=>
    rw[hgl]at h;simp only[]at h;split at h
    ·rename_i hsz
     cases hl2:jE g P fs (o+l1.length)with
     |none=>rw[hl2]at h;cases h
     |some l2=>
      rw[hl2]at h;simp only[Option.some.injEq]at h;subst h;obtain⟨x1,x2,rfl,hx1,hx2⟩:=gh hx;obtain⟨h1,h2⟩:=hg _ _ hgl;have l1x:=zb hx1;have p1:=vv h1 hsz a x1 x2 l1x w;have p3:=h2 e w x1 hx1;have ih:=qgV e dd m hg fs (o+l1.length) l2 hl2 w (a++x1) x2 (by simp[ha,l1x]) hx2
      simp_all
    ·cases h
  ·cases h
theorem qgW(e:Bool)(dd:Nat){t:TypeId}{m:Nat}{l:List Lf}(he:zq P m t=some l)(hs:P.cellsOf t=l.length){i0:TypeInfo}(hi0:P.info? t=some i0)(hE:qbf P dd t l):∀(n i:Nat)(w:World)(a x:List Value),a.length=i*l.length→
  qY (W9 n l) x=true→(forIn (List.range' i n) PUnit.unit (λi _=>do Instr.checkKey e dd t (←part t (a++x).toArray (i*(←sizeOf t)));pure (ForInStep.yield PUnit.unit)):Sem PUnit).run P w=.ok PUnit.unit w
 |0,i,w,a,x,ha,hx=>by simp
 |n+1,i,w,a,x,ha,hx=>by
  simp only[W9]at hx;obtain⟨x1,x2,rfl,hx1,hx2⟩:=gh hx;have l1x:=zb hx1;have p1:=vv he hs a x1 x2 l1x w;have p3:=hE e w x1 hx1;have ih:=qgW e dd he hs hi0 hE n (i+1) w (a++x1) x2 (by simp[ha,l1x,Nat.succ_mul]) hx2;rw[List.append_assoc]at ih;have ea:i*i0.size=a.length:=by rw[ha,←hs];simp[Program.cellsOf,hi0]
  simp only[List.range'_succ,List.forIn_cons,Sem.run_bind,zE hi0,Result.andThen_ok]
  simp_all
theorem qbg:∀(m d:Nat)(t:TypeId)(l:List Lf),zq P m t=some l→qbf P (d+m) t l
 |0,d,t,l,h=>by simp[zq]at h
 |m+1,d,t,l,h=>by
  intro e w x hx;unfold zq at h;cases hu:P.underlying t with
  |none=>simp[hu]at h
  |some D=>
   rw[hu]at h;cases D<;>simp only[reduceCtorEq]at h
   case int k=>
    cases h;obtain⟨n,rfl⟩:=Qj hx;simp only[mkV,hu,zS,xe7,if_false,List.headD_cons];simp[show d+(m+1)=(d+m)+1 from rfl,Instr.checkKey,run_underlying hu]
   case bool=>
    cases h;obtain⟨n,rfl⟩:=wP hx;simp only[mkV,hu,zS,xe7,if_false,List.headD_cons];simp[show d+(m+1)=(d+m)+1 from rfl,Instr.checkKey,run_underlying hu]
   case struct fs=>
    split at h
    ·rename_i hst
     simp only[mkV,hu,zS,if_true];have:=qgV (P:=P) e (d+m) m (λt l ht=>⟨ht,qbg m d t l ht⟩) fs.toList 0 l h w [] x rfl hx;simp only[show d+(m+1)=(d+m)+1 from rfl,Instr.checkKey,Sem.run_bind,run_underlying hu,Result.andThen_ok]
     simp_all
    ·cases h
   case array n e'=>
    cases hl:zq P m e' with
    |none=>rw[hl]at h;cases h
    |some l1=>
     rw[hl]at h;simp only[]at h;split at h
     ·rename_i hc
      cases h;obtain⟨i,hi⟩:=Option.isSome_iff_exists.1 hc.2;simp only[mkV,hu,zS,if_true];have:=qgW (P:=P) e (d+m) hl hc.1 hi (qbg m d e' l1 hl) n 0 w [] x Ωg hx;simp only[show d+(m+1)=(d+m)+1 from rfl,Instr.checkKey,Sem.run_bind,run_underlying hu,Result.andThen_ok]
      simp_all
     ·cases h
theorem kd(h:kI P kt=some (ag,ls))(hv:qh ag ls v=true)(e:Bool)(w:World):(Instr.checkKey e 10000 kt v).run P w=.ok () w:=by
 obtain⟨d,x,hd,ha,hl,hx,rfl,h1,h1'⟩:=jT h hv;exact qbg (P:=P) 12 9988 kt ls hl e w x hx
def kV(v:Value):List MapEntry→Nat→Option (Nat×Value)
 |[],_=>none
 |e :: es,i=>if eqK v e.key=true then some (i,e.val)else kV v es (i+1)
theorem kJ(h:kI P kt=some (ag,ls))(hv:qh ag ls v=true)(es:List MapEntry)(hes:∀e∈es,qh ag ls e.key=true)(w:World):(Instr.findKey kt v es).run P w=.ok (kV v es 0) w:=by
 have hask:∀(es:List MapEntry)(i:Nat),(∀e∈es,qh ag ls e.key=true)→(Instr.findAsking kt v es i).run P w=.ok (kV v es i) w:=by
  intro es
  induction es with
  |nil=>intro i _;simp[Instr.findAsking,kV]
  |cons e es ih=>
   intro i hes;simp only[Instr.findAsking,Sem.run_bind,qfs h hv (hes e Ωg),Result.andThen_ok,kV];cases eqK v e.key with
   |true=>simp
   |false=>simpa using ih (i+1) λe he=>hes e (by simp[he])
 obtain⟨d,x,hd,ha,hl,hx,hvx,h1,h1'⟩:=jT h hv;simp only[Instr.findKey,Sem.run_bind,run_underlying hd,Result.andThen_ok];have hnow:∀(es:List MapEntry)(i:Nat),(∀e∈es,qh ag ls e.key=true)→Instr.findNow d v es i=some (kV v es i)∨Instr.findNow d v es i=none:=by
  intro es
  induction es with
  |nil=>intro i _;exact .inl rfl
  |cons e es ih=>
   intro i hes;simp only[Instr.findNow,kV];cases hs:Instr.sameNow d v e.key with
   |none=>exact .inr rfl
   |some b=>
    have:b=eqK v e.key:=by
     have hl':=hl;unfold zq at hl';rw[hd]at hl';generalize e.key=u at hs ⊢;cases d<;>simp only[reduceCtorEq]at hl'<;>cases v<;>cases u<;>simp only[Instr.sameNow,reduceCtorEq]at hs
     ·cases hs
      rename_i a b;simp only[eqK,vX]
      grind
     ·split at hs
      ·cases hs
       rename_i a _ b _;rename_i hk;subst hk;simp only[eqK,vX]
       grind
      ·cases hs
    subst this;cases eqK v e.key with
    |true=>exact .inl Ωg
    |false=>simpa using ih (i+1) λe he=>hes e (by simp[he])
 rcases hnow es 0 hes with e|e
 ·rw[e];simp
 ·simp_all
theorem Ql{v:Value}:∀{es:List MapEntry}{i:Nat},kV v es i=none↔∀e∈es,eqK v e.key=false
 |[],i=>by simp[kV]
 |e :: es,i=>by
  simp only[kV];cases h:eqK v e.key with
  |true=>simp[h]
  |false=>simp[h,Ql (es:=es)]
theorem K8{v:Value}:∀{es:List MapEntry}{i j:Nat}{x:Value},kV v es i=some (j,x)→∃e,i≤j∧es[j - i]? = some e∧eqK v e.key=true∧e.val=x
 |[],i,j,x,h=>by simp[kV]at h
 |e :: es,i,j,x,h=>by
  simp only[kV]at h;split at h
  ·simp_all
  ·obtain⟨e',h1,h2,h3,h4⟩:=K8 h
   grind
def qom(v:Value):SV:=match v with|.agg cs=>.agg (cs.toList.map SV.val)|v=>.val v
def zsv(v:Value):SV:=match v with|.agg cs=>.agg (cs.toList.map qom)|v=>.val v
theorem qcU{r:Nat→Option Nat}{N:Nat→Prop}{G:Bool→Nat→Prop}{w:World}{f:Value→SV}(hf:∀v,Rep r N G w (f v) v)(cs:Array Value):Rep r N G w (.agg (cs.toList.map f)) (.agg cs):=by
 refine .agg _ cs Ωg λi sv hi=>?_;rw[List.getElem?_map,Option.map_eq_some_iff]at hi;obtain⟨v,hv,rfl⟩:=hi
 simp_all
theorem qgX{r:Nat→Option Nat}{N:Nat→Prop}{G:Bool→Nat→Prop}{w:World}(v:Value):Rep r N G w (qom v) v:=by
 unfold qom;split
 ·exact qcU .val _
 ·exact .val v
theorem qcV{r:Nat→Option Nat}{N:Nat→Prop}{G:Bool→Nat→Prop}{w:World}(v:Value):Rep r N G w (zsv v) v:=by
 unfold zsv;split
 ·exact qcU qgX _
 ·exact .val v
structure jX:Type where
 ag:Bool
 ls:List Lf
 zero:SV
def qD(P:Program)(t:TypeId):Option jX:=
 match P.underlying t with
 |some (.map kt et)=>match kI P kt with
  |some (ag,ls)=>match P.info? et with
   |some i=>match i.zero with
    |some z=>some ⟨ag,ls,zsv z⟩
    |none=>none
   |none=>none
  |none=>none
 |_=>none
theorem zJ{t:TypeId}{mi:jX}(h:qD P t=some mi):∃kt et i,P.underlying t=some (.map kt et)∧kI P kt=some (mi.ag,mi.ls)∧P.info? et=some i∧∃z,i.zero=some z∧mi.zero=zsv z:=by
 unfold qD at h;split at h
 ·grind
 ·cases h
end
section
variable{P:Program}{r:Nat→Option Nat}{N:Nat→Prop}{G:Bool→Nat→Prop}{w:World}{hp:List (Nat×Blk)}
theorem J3:∀{l:List SV}{m:List Value}{cs:List Value},keyVs l=some m→l.length=cs.length→(∀(i:Nat) sv,l[i]? = some sv→Rep r N G w sv (cs.getD i undef))→cs=m
 |[],m,cs,h,hl,hr=>by
  simp only[keyVs,Option.some.injEq]at h;subst h
  grind
 |s :: l,m,cs,h,hl,hr=>by
  cases s<;>simp only[keyVs,reduceCtorEq]at h
  rename_i v;cases hm:keyVs l with
  |none=>rw[hm]at h;cases h
  |some m'=>
   rw[hm]at h;simp only[Option.some.injEq]at h;subst h;cases cs with
   |nil=>simp at hl
   |cons c cs=>
    have h0:=hr 0 _ rfl;simp only[List.getD_cons_zero]at h0;cases h0;have:=J3 (l:=l) (m:=m') (cs:=cs) hm Ω5 λi sv hi=>by simpa using hr (i+1) sv Ωah
    rw[this]
theorem jY{s:SV}(h:keyV s=some v)(hr:Rep r N G w s u):u=v:=by
 cases hr<;>simp only[keyV,reduceCtorEq]at h
 ·simpa using h
 ·rename_i l cs hl hr
  cases hm:keyVs l with
  |none=>rw[hm]at h;cases h
  |some m=>
   rw[hm]at h;simp only[Option.some.injEq]at h;subst h;have:=J3 (cs:=cs.toList) hm Ω5 λi sv hi=>by simpa using hr i sv hi
   rw[←this]
def mapOf(hp:List (Nat×Blk))(x:SV):Option ((Value→Bool)×(Value→Bool)×(Value→SV)):=
 match x with
 |.cmp _ fit dom get=>some (fit,dom,get)
 |.mp id=>match blk hp id with
  |some (.map fit dom get)=>some (fit,dom,get)
  |some (.mapS fit dom get _ _)=>some (fit,dom,get)
  |_=>none
 |_=>none
def rLookup(mi:Option jX)(hp:List (Nat×Blk))(x k:SV)(ok:Bool):Res:=
 match mi with
 |some ⟨ag,ls,z⟩=>match mapOf hp x,keyV k with
  |some (fit,dom,get),some v=>.pure (fit=qh ag ls∧qh ag ls v=true) (if ok=true then .tup [svIte (dom v) (get v) z,.val (.bool (dom v))]else svIte (dom v) (get v) z)
  |_,_=>.bad
 |none=>.bad
theorem qbh(hO:Ok P r N G w hp)(hx:Rep r N G w x u){fit:Value→Bool}{get:Value→SV}(h:mapOf hp x=some (fit,dom,get)) :
  ∃b es clock,u=.map (some b)∧w.heap[b]? = some (.map es clock)∧wN fit dom es∧∀e,e∈es→Rep r N G w (get e.key) e.val:=by
 cases hx<;>simp only[mapOf,reduceCtorEq]at h
 case mp id b hN hr=>
  split at h
  ·rename_i f d g hb
   simp only[Option.some.injEq,Prod.mk.injEq]at h;obtain⟨rfl,rfl,rfl⟩:=h;have:=hO.rep _ _ hb hN;rw[hr]at this;cases this with
   |map _ _ _ _ es clock hb hm ht h=>exact⟨b,es,clock,rfl,hb,hm,h⟩
  ·rename_i f d g s c hb
   simp only[Option.some.injEq,Prod.mk.injEq]at h;obtain⟨rfl,rfl,rfl⟩:=h;have:=hO.rep _ _ hb hN;rw[hr]at this;cases this with
   |mapS _ _ _ _ _ es _ hb' hm ht hst h=>exact⟨b,es,_,rfl,hb',hm,h⟩
  ·cases h
 case cmp o f d g b es clock hG hb hm h'=>
  simp only[Option.some.injEq,Prod.mk.injEq]at h
  simp_all
theorem K9{fit:Value→Bool}(hm:wN fit dom es)(hk:kI P kt=some (ag,ls))(hfit:fit=qh ag ls)(hv:qh ag ls v=true) :
  (dom v=false→kV v es.toList 0=none)∧(dom v=true→∃i e,kV v es.toList 0=some (i,e.val)∧es[i]? = some e∧e.key=v):=by
 subst hfit;constructor
 ·intro hd
  rw[Ql];intro e he;have he':e∈es:=by simpa using he
  cases hq:eqK v e.key with
  |false=>rfl
  |true=>
   have:=(ja hk hv (hm.fits e he')).1 hq;rw[this,hm.doms e he']at hd;cases hd
 ·intro hd
  obtain⟨e,he,hke⟩:=hm.has v hd;cases hf:kV v es.toList 0 with
  |none=>
   rw[Ql]at hf;have:=hf e Ω1;rw[hke]at this;have h2:=(ja hk hv hv).2 rfl
   simp_all
  |some p=>
   obtain⟨i,x⟩:=p;obtain⟨e',h1,h2,h3,h4⟩:=K8 hf;have h2':es[i]? = some e':=by simpa using h2
   refine⟨i,e',by rw[h4],h2',?_⟩;exact((ja hk hv (hm.fits e' (Array.mem_of_getElem? h2'))).1 h3).symm
theorem qbi{t:TypeId}(hO:Ok P r N G w hp)(hx:Rep r N G w x u)(hk:Rep r N G w k v)(ok:Bool):K1 P r N G w (Instr.lookup t u v ok) (rLookup (qD P t) hp x k ok):=by
 unfold rLookup;split
 ·rename_i ag ls z hmi
  split
  ·rename_i fit dom get v' hmo hkv
   rintro⟨hfit,hfv⟩;obtain rfl:=jY hkv hk;obtain⟨b,es,clock,rfl,hb,hm,hrep⟩:=qbh hO hx hmo;obtain⟨kt,et,i,hu,hki,hi,z0,hz,hz1⟩:=zJ hmi;simp only[]at hki hz1;have hzr:Rep r N G w z z0:=hz1▸qcV z0;have hes:∀e∈es.toList,qh ag ls e.key=true:=λe he=>by rw[←hfit];exact hm.fits e Ω1
   have hobj:(getObj b).run P w=.ok (.map es clock) w:=by simp[getObj,Sem.run,hb]
   have hzero:(zeroValue et).run P w=.ok z0 w:=by simp[zeroValue,typeInfo,hi,hz]
   obtain⟨d1,d2⟩:=K9 hm hki hfit hfv;cases hd:dom v with
   |false=>
    have hf:=d1 hd;refine⟨if ok=true then .tuple #[z0,.bool false]else z0,?_,?_⟩
    ·simp only[Instr.lookup,Sem.run_bind,run_underlying hu,Result.andThen_ok,hobj,Sem.run_pure,kd hki hfv,kJ hki hfv es.toList hes,hf,hzero]
    ·cases ok
     ·exact hzr
     ·simp only[if_true,svIte,xe7,if_false]
      refine .tup _ _ rfl λi sv hi=>?_
      match i,hi with
      |0,hi=>simp at hi;subst hi;exact hzr
      |1,hi=>simp at hi;subst hi;exact .val _
   |true=>
    obtain⟨j,e,hf,hje,hke⟩:=d2 hd;have hr:=hrep e (Array.mem_of_getElem? hje);rw[hke]at hr;refine⟨if ok=true then .tuple #[e.val,.bool true]else e.val,?_,?_⟩
    ·simp only[Instr.lookup,Sem.run_bind,run_underlying hu,Result.andThen_ok,hobj,Sem.run_pure,kd hki hfv,kJ hki hfv es.toList hes,hf]
    ·cases ok
     ·simpa[svIte]using hr
     ·simp only[if_true,svIte]
      refine .tup _ _ rfl λi sv hi=>?_
      match i,hi with
      |0,hi=>simp at hi;subst hi;exact hr
      |1,hi=>simp at hi;subst hi;exact .val _
  ·trivial
 ·trivial
end
def rMakeMap(mi:Option jX)(rs:Bool):Res:=
 match mi with
 |some ⟨ag,ls,_⟩=>if rs=true then .bad else .new True (.map (qh ag ls) (λ_=>false) (λ_=>.top)) (λid=>.mp id)
 |none=>.bad
def qA(dom:Value→Bool)(v:Value):Value→Bool:=λk=>eqK v k || dom k
def qB(get:Value→SV)(v:Value)(x:SV):Value→SV:=λk=>svIte (eqK v k) x (get k)
def ko(dom:Value→Bool)(v:Value):Value→Bool:=λk=>!eqK v k&&dom k
abbrev Yf(_:SV):Bool:=true
def rUpdate(mi:Option jX)(hp:List (Nat×Blk))(m k x:SV):Res:=
 match mi,m with
 |some ⟨ag,ls,_⟩,.mp id=>match blk hp id,keyV k with
  |some (.map fit dom get),some v=>.upd (fit=qh ag ls∧qh ag ls v=true∧Yf x=true) id (.map fit (qA dom v) (qB get v x))
  |some (.mapS fit dom get st c),some v=>.upd (fit=qh ag ls∧qh ag ls v=true∧Yf x=true∧dom v=true) id (.mapS fit dom (qB get v x) st c)
  |_,_=>.bad
 |_,_=>.bad
def rDelete(mi:Option jX)(hp:List (Nat×Blk))(m k:SV):Res:=
 match mi,m with
 |some ⟨ag,ls,_⟩,.mp id=>match blk hp id,keyV k with
  |some (.map fit dom get),some v=>.upd (fit=qh ag ls∧qh ag ls v=true) id (.map fit (ko dom v) get)
  |some (.mapS fit dom get st c),some v=>.upd (fit=qh ag ls∧qh ag ls v=true) id (.mapS fit (ko dom v) get st c)
  |_,_=>.bad
 |_,_=>.bad
def rClearMap(mi:Option jX)(hp:List (Nat×Blk))(m:SV):Res:=
 match mi,m with
 |some _,.mp id=>match blk hp id with
  |some (.map fit dom get)=>.upd True id (.map fit (λ_=>false) get)
  |_=>.bad
 |_,_=>.bad
section
variable{P:Program}{base:World}{okc:Nat→Prop}{r:Nat→Option Nat}{N:Nat→Prop}{hp:List (Nat×Blk)}{w:World}
theorem VS(h:Sat base okc r N hp w)(t:TypeId):QP P base okc r N hp w (Instr.makeMap t none) (rMakeMap (qD P t) false):=by
 unfold rMakeMap;split
 ·rename_i ag ls z hmi
  simp only[xe7,if_false];intro _ id hp' hid hat hoth;refine⟨.map (some w.heap.size),w.alloc (.map #[] 0),_,?_,h.new id hid (.map #[] 0) _ hat hoth λr' N' G' h1 h2 h3 h4 h5=>?_,.mp _ _ (.inr rfl) (qw _ _ _)⟩
  ·simp only[Instr.makeMap,Sem.run_bind,run_newObj,Result.andThen_ok,Sem.run_pure]
   rfl
  ·exact .map _ _ _ _ #[] 0 (qH w _) ⟨λi j e f hi=>by simp at hi,λe he=>by simp at he,λe he=>by simp at he,λk hk=>by cases hk⟩ ⟨λe he=>by simp at he,λi j e f hi=>by simp at hi⟩ λe he=>by simp at he
 ·trivial
theorem kx(h:Sat base okc r N hp w){id:Nat}{x:Blk}(hm:blk hp id=some x)(hN:N id){b:Nat}(hr:r id=some b){old:Obj}(hb:w.heap[b]? = some old)(hold:∀cs t z,old≠.cells cs t z)(o:Obj)(x':Blk)
  (hx':∀G' w',w'.heap[b]? = some o→(∀sv v,Rep r N (Gd base okc r N hp w) w sv v→Rep r N G' w' sv v)→BlkRep r N G' w' (some b) x') :
  Step base okc r N hp w r N (setBlk hp id x') { w with heap:=w.heap.setIfInBounds b o }:=by
 have hlt:b<w.heap.size:=(Array.getElem?_eq_some_iff.1 hb).1;have hother:∀c,c≠b→({ w with heap:=w.heap.setIfInBounds b o }:World).heap[c]? = w.heap[c]?:=λc hc=>by
  grind
 have hat:({ w with heap:=w.heap.setIfInBounds b o }:World).heap[b]? = some o:=by
  simp_all
 have hsh:Shapes w { w with heap:=w.heap.setIfInBounds b o }:=λc cs t z hc=>by
  by_cases e:c=b
  ·simp_all
  ·simp_all
 have hbel:Below base.heap.size base { w with heap:=w.heap.setIfInBounds b o }:=h.below.trans ⟨rfl,rfl,rfl,Ωg,λk hk=>hother k (by have:=h.own _ _ _ hm hN hr;omega)⟩;refine h.upd hm hN hr x' hbel hsh Ωg hother λG' hG'=>hx' G' _ hat λsv v hv=>hv.mono (λ_ _=>rfl) (λ_ h=>h) (λo' c hc=>⟨hG' o' c hc,hother c λe=>hc.2.1 id x hm hN (e▸hr)⟩) hsh
theorem vY(h:kI P kt=some (ag,ls))(hv:qh ag ls v=true):Instr.sameBits 10000 v v=true:=by
 have one:∀(f:Lf)(x:Value)(n:Nat),lfOk f x=true→Instr.sameBits n x x=true:=λf x n hx=>by
  cases f<;>cases x<;>simp[lfOk]at hx
  ·cases n<;>simp[Instr.sameBits]
  ·cases n<;>simp[Instr.sameBits]
 cases ag with
 |true=>
  cases v<;>simp only[qh,xe7]at hv
  rename_i cs;show(cs.size == cs.size&&(cs.toList.zip cs.toList).all λ(x,y)=>Instr.sameBits 9999 x y)=true;simp only[beq_self_eq_true,xf0,List.all_eq_true];rintro⟨a,b⟩ hab;have key:∀(l:List Value)(ls:List Lf),qY ls l=true→(a,b)∈l.zip l→Instr.sameBits 9999 a b=true:=by
   intro l
   induction l with
   |nil=>intro ls _ h;simp at h
   |cons x l ih=>
    intro ls hl hin;cases ls with
    |nil=>simp[qY]at hl
    |cons f ls=>
     simp only[qY,xe6]at hl;simp only[List.zip_cons_cons,List.mem_cons,Prod.mk.injEq]at hin;rcases hin with⟨rfl,rfl⟩|hin
     ·grind
     ·grind
  grind
 |false=>
  simp only[qh]at hv
  match ls,hv with
  |[f],hv=>simp[qY]at hv;exact one f v _ hv
  |[],hv=>simp[qY]at hv
  |_ :: _ :: _,hv=>simp[qY]at hv
theorem qlg{e:MapEntry}(h:es[i]? = some e):i<es.size:=(Array.getElem?_eq_some_iff.1 h).1
theorem vZ(f:MapEntry→MapEntry)(j:Nat):(es.modify i f)[j]? =(es[j]?).map λe=>if j=i then f e else e:=by
 rw[Array.getElem?_modify];by_cases h:i=j
 ·simp_all
 ·grind
theorem qbj{f:MapEntry→MapEntry}{e:MapEntry}(h:e∈es.modify i f):∃j e',es[j]? = some e'∧e=if j=i then f e' else e':=by
 obtain⟨j,hj⟩:=Array.mem_iff_getElem?.1 h
 grind
theorem yB(hki:kI P kt=some (ag,ls))(hm:wN (qh ag ls) dom es)(ht:VN es clock)(hv:qh ag ls v=true)(u:Value) :
  (dom v=true→∃i e,kV v es.toList 0=some (i,e.val)∧es[i]? = some e∧e.key=v∧wN (qh ag ls) (qA dom v) (es.modify i λe=>{ e with key:=v,val:=u })∧VN (es.modify i λe=>{ e with key:=v,val:=u }) clock∧
    ∀e',e'∈(es.modify i λe=>{ e with key:=v,val:=u })→(e'.key=v∧e'.val=u∧e'.born=e.born)∨(e'∈es∧e'.key≠v))∧
  (dom v=false→kV v es.toList 0=none∧wN (qh ag ls) (qA dom v) (es.push { key:=v,val:=u,born:=clock })∧VN (es.push { key:=v,val:=u,born:=clock }) (clock+1)∧
    ∀e',e'∈es.push { key:=v,val:=u,born:=clock }→(e'.key=v∧e'.val=u)∨(e'∈es∧e'.key≠v)):=by
 obtain⟨d1,d2⟩:=K9 hm hki rfl hv;have hself:eqK v v=true:=(ja hki hv hv).2 rfl;constructor
 ·intro hd
  obtain⟨i,e,hf,hi,hk⟩:=d2 hd;have hother:∀j e',es[j]? = some e'→j≠i→e'.key≠v:=λj e' hj hne hk'=>hne (hm.once i j e e' hi hj (hk.trans hk'.symm)).symm;have hkeys:∀(j:Nat)(e':MapEntry),(es.modify i λe=>{ e with key:=v,val:=u })[j]? = some e'→∃e0,es[j]? = some e0∧e'.key=e0.key∧e'.born=e0.born:=λj e' hj=>by
   rw[vZ]at hj;simp only[Option.map_eq_some_iff]at hj;obtain⟨e0,h0,rfl⟩:=hj;refine⟨e0,h0,?_⟩;split
   ·simp_all
   ·exact⟨rfl,rfl⟩
  refine⟨i,e,hf,hi,hk,⟨λj j' x y hx hy hxy=>?_,λx hx=>?_,λx hx=>?_,λk hk'=>?_⟩,⟨λx hx=>?_,λj j' x y hx hy hxy=>?_⟩,λe' he'=>?_⟩
  ·obtain⟨x0,h1,h2,_⟩:=hkeys j x hx
   obtain⟨y0,h3,h4,_⟩:=hkeys j' y hy;exact hm.once j j' x0 y0 h1 h3 (by rw[←h4,←h2];exact hxy)
  ·obtain⟨j,hj⟩:=Array.mem_iff_getElem?.1 hx
   obtain⟨x0,h1,h2,_⟩:=hkeys j x hj;rw[h2];exact hm.fits x0 (Array.mem_of_getElem? h1)
  ·obtain⟨j,hj⟩:=Array.mem_iff_getElem?.1 hx
   obtain⟨x0,h1,h2,_⟩:=hkeys j x hj;rw[h2];simp[qA,hm.doms x0 (Array.mem_of_getElem? h1)]
  ·have:dom k=true:=by
    simp only[qA,xe8]at hk';rcases hk' with h|h
    ·rw[←zz h];exact hd
    ·exact h
   obtain⟨e0,he0,hk0⟩:=hm.has k this;obtain⟨j,hj⟩:=Array.mem_iff_getElem?.1 he0;refine⟨if j=i then { e0 with key:=v,val:=u }else e0,Array.mem_of_getElem? (i:=j) (by rw[vZ,hj];rfl),?_⟩;split
   ·simp_all
   ·exact hk0
  ·obtain⟨j,hj⟩:=Array.mem_iff_getElem?.1 hx
   obtain⟨x0,h1,_,h2⟩:=hkeys j x hj;rw[h2];exact ht.lt x0 (Array.mem_of_getElem? h1)
  ·obtain⟨x0,h1,_,h2⟩:=hkeys j x hx
   obtain⟨y0,h3,_,h4⟩:=hkeys j' y hy;exact ht.once j j' x0 y0 h1 h3 (by rw[←h4,←h2];exact hxy)
  ·obtain⟨j,e0,h1,rfl⟩:=qbj he'
   by_cases e':j=i
   ·simp_all
   ·grind
 ·intro hd
  have hfn:=d1 hd;have hnk:∀(e:MapEntry),e∈es→e.key≠v:=λe he hk=>by
   have:=hm.doms e he
   simp_all
  have hget:∀(j:Nat)(x:MapEntry),(es.push { key:=v,val:=u,born:=clock })[j]? = some x→(es[j]? = some x∧j<es.size)∨(j=es.size∧x = { key:=v,val:=u,born:=clock }):=λj x hx=>by
   rw[Array.getElem?_push]at hx;split at hx
   ·simp_all
   ·grind
  refine⟨hfn,⟨λj j' x y hx hy hxy=>?_,λx hx=>?_,λx hx=>?_,λk hk'=>?_⟩,⟨λx hx=>?_,λj j' x y hx hy hxy=>?_⟩,λe' he'=>?_⟩
  ·rcases hget j x hx with⟨h1,h2⟩|⟨h1,h2⟩<;>rcases hget j' y hy with⟨h3,h4⟩|⟨h3,h4⟩
   ·exact hm.once j j' x y h1 h3 hxy
   ·grind
   ·grind
   ·rw[h1,h3]
  ·rcases Array.mem_push.1 hx with h|h
   ·exact hm.fits x h
   ·subst h;exact hv
  ·rcases Array.mem_push.1 hx with h|h
   ·simp[qA,hm.doms x h]
   ·subst h;simp[qA,hself]
  ·simp only[qA,xe8]at hk'
   rcases hk' with h|h
   ·exact⟨_,Array.mem_push_self,zz h⟩
   ·obtain⟨e,he,hke⟩:=hm.has k h
    grind
  ·rcases Array.mem_push.1 hx with h|h
   ·have:=ht.lt x h;omega
   ·simp_all
  ·rcases hget j x hx with⟨h1,h2⟩|⟨h1,h2⟩<;>rcases hget j' y hy with⟨h3,h4⟩|⟨h3,h4⟩
   ·exact ht.once j j' x y h1 h3 hxy
   ·subst h4
    have:=ht.lt x (Array.mem_of_getElem? h1);simp at hxy;omega
   ·subst h2
    have:=ht.lt y (Array.mem_of_getElem? h3);simp at hxy;omega
   ·rw[h1,h3]
  ·grind
theorem J4(hki:kI P kt=some (ag,ls))(hm:wN (qh ag ls) dom es)(ht:VN es clock)(hv:qh ag ls v=true) :
  ∃es',(match kV v es.toList 0 with|some (i,_)=>es.eraseIdxIfInBounds i|none=>es)=es'∧wN (qh ag ls) (ko dom v) es'∧VN es' clock∧∀e',e'∈es'→e'∈es:=by
 obtain⟨d1,d2⟩:=K9 hm hki rfl hv;cases hd:dom v with
 |false=>
  rw[d1 hd];refine⟨es,rfl,⟨hm.once,hm.fits,λe he=>?_,λk hk=>?_⟩,ht,λe' h=>h⟩
  ·have h1:=hm.doms e he
   cases hq:eqK v e.key with
   |false=>simp[ko,hq,h1]
   |true=>rw[←zz hq,hd]at h1;cases h1
  ·simp only[ko,xe6]at hk
   exact hm.has k hk.2
 |true=>
  obtain⟨i,e,hf,hi,hk⟩:=d2 hd;rw[hf];have hlt:=qlg hi;have hget:∀(j:Nat)(x:MapEntry),(es.eraseIdxIfInBounds i)[j]? = some x→∃j',es[j']? = some x∧j'≠i∧j'=if j<i then j else j+1:=λj x hj=>by
   simp only[Array.eraseIdxIfInBounds,hlt,dif_pos,Array.getElem?_eraseIdx]at hj;split at hj
   ·grind
   ·grind
  have hmem:∀x,x∈es.eraseIdxIfInBounds i→x∈es∧x.key≠v:=λx hx=>by
   obtain⟨j,hj⟩:=Array.mem_iff_getElem?.1 hx;obtain⟨j',h1,h2,_⟩:=hget j x hj;exact⟨Array.mem_of_getElem? h1,λe'=>h2 (hm.once j' i x e h1 hi (e'.trans hk.symm))⟩
  refine⟨_,rfl,⟨λj j' x y hx hy hxy=>?_,λx hx=>hm.fits x (hmem x hx).1,λx hx=>?_,λk hk'=>?_⟩,⟨λx hx=>ht.lt x (hmem x hx).1,λj j' x y hx hy hxy=>?_⟩,λe' h=>(hmem e' h).1⟩
  ·obtain⟨a,h1,h2,h3⟩:=hget j x hx
   obtain⟨b,h4,h5,h6⟩:=hget j' y hy;have:=hm.once a b x y h1 h4 hxy
   grind
  ·obtain⟨h1,h2⟩:=hmem x hx
   have h3:=hm.doms x h1;cases hq:eqK v x.key with
   |false=>simp[ko,hq,h3]
   |true=>exact absurd (zz hq).symm h2
  ·simp only[ko,xe6,Bool.not_eq_true']at hk'
   obtain⟨x,hx,hxk⟩:=hm.has k hk'.2;obtain⟨j,hj⟩:=Array.mem_iff_getElem?.1 hx;have hne:j≠i:=λe'=>by
    subst e';rw[hi]at hj;cases hj;rw[←hxk,hk,(ja hki hv hv).2 rfl]at hk'
    simp_all
   refine⟨x,Array.mem_of_getElem? (i:=if j<i then j else j - 1) ?_,hxk⟩;simp only[Array.eraseIdxIfInBounds,hlt,dif_pos,Array.getElem?_eraseIdx];by_cases h:j<i
   ·simp_all
   ·grind
  ·obtain⟨a,h1,h2,h3⟩:=hget j x hx
   obtain⟨b,h4,h5,h6⟩:=hget j' y hy;have:=ht.once a b x y h1 h4 hxy
   grind
theorem Kf(h:Sat base okc r N hp w)(t:TypeId){y:Value}(hm:Rep r N (Gd base okc r N hp w) w m u)(hk:Rep r N (Gd base okc r N hp w) w k v)(hx:Rep r N (Gd base okc r N hp w) w x y) :
  qgR P base okc r N hp w (Instr.mapUpdate t u v y) (rUpdate (qD P t) hp m k x):=by
 unfold rUpdate;split
 rotate_left
 ·trivial
 rename_i ag ls z id hmi;obtain⟨kt,et,i,hu,hki,hi,-⟩:=zJ hmi;simp only[]at hki;cases hm with
 |mp _ b hN hr=>
  split
  ·rename_i fit dom get v' hb hkv
   rintro⟨rfl,hfv,h1⟩;obtain rfl:=jY hkv hk;have hrep:=h.rep _ _ hb hN;rw[hr]at hrep;cases hrep with
   |map _ _ _ _ es clock hb' hmo ht hes=>
    obtain⟨p1,p2⟩:=yB hki hmo ht hfv y;have hfes:∀e∈es.toList,qh ag ls e.key=true:=λe he=>hmo.fits e Ω1;have hobj:(getObj b).run P w=.ok (.map es clock) w:=by simp[getObj,Sem.run,hb']
    have hset:∀o,(setObj b o).run P w=.ok () { w with heap:=w.heap.setIfInBounds b o }:=λo=>by simp[setObj,Sem.run,hb']
    have hgets:∀(es':Array MapEntry)(hes':∀e',e'∈es'→(e'.key=v∧e'.val=y)∨(e'∈es∧e'.key≠v))(G':Bool→Nat→Prop)(w':World),(∀sv v,Rep r N (Gd base okc r N hp w) w sv v→Rep r N G' w' sv v)→∀e',e'∈es'→Rep r N G' w' (qB get v x e'.key) e'.val:=λes' hes' G' w' hrep e' he'=>by
     rcases hes' e' he' with⟨e1,e2⟩|⟨e1,e2⟩
     ·rw[e1,e2]
      have:=(ja hki hfv hfv).2 rfl;simp only[qB,this,svIte,if_true];exact hrep _ _ hx
     ·have:eqK v e'.key=false:=by
       cases hq:eqK v e'.key with
       |false=>rfl
       |true=>exact absurd (zz hq).symm e2
      simp only[qB,this,svIte,xe7,if_false]
      simp_all
    cases hd:dom v with
    |true=>
     obtain⟨j,e,hf,hj,hke,hmo',ht',hall⟩:=p1 hd;refine⟨_,?_,kx h hb hN hr hb' (λ_ _ _=>by simp) (.map (es.modify j λe=>{ e with key:=v,val:=y }) clock) _ λG' w' hw' hrep=>.map _ _ _ b _ clock hw' hmo' ht' (hgets _ (λe' he'=>(hall e' he').elim (λh=>.inl ⟨h.1,h.2.1⟩) .inr) G' w' hrep)⟩;have hkeep:(Instr.keyThatStays v v).run P w=.ok v w:=by simp[Instr.keyThatStays,vY hki hfv]
     simp only[Instr.mapUpdate,Sem.run_bind,run_underlying hu,Result.andThen_ok,hobj,kd hki hfv,kJ hki hfv es.toList hfes,hf,hj,xg1,xg0,hke,hkeep,hset]
    |false=>
     obtain⟨hf,hmo',ht',hall⟩:=p2 hd;refine⟨_,?_,kx h hb hN hr hb' (λ_ _ _=>by simp) (.map (es.push { key:=v,val:=y,born:=clock }) (clock+1)) _ λG' w' hw' hrep=>.map _ _ _ b _ _ hw' hmo' ht' (hgets _ hall G' w' hrep)⟩;simp only[Instr.mapUpdate,Sem.run_bind,run_underlying hu,Result.andThen_ok,hobj,kd hki hfv,kJ hki hfv es.toList hfes,hf,hset]
  ·rename_i fit dom get st c v' hb hkv
   rintro⟨rfl,hfv,h1,hd⟩;obtain rfl:=jY hkv hk;have hrep:=h.rep _ _ hb hN;rw[hr]at hrep;cases hrep with
   |mapS _ _ _ _ _ es _ hb' hmo ht hst hes=>
    obtain⟨p1,p2⟩:=yB hki hmo ht hfv y;have hfes:∀e∈es.toList,qh ag ls e.key=true:=λe he=>hmo.fits e Ω1;have hobj:(getObj b).run P w=.ok (.map es c) w:=by simp[getObj,Sem.run,hb']
    have hset:∀o,(setObj b o).run P w=.ok () { w with heap:=w.heap.setIfInBounds b o }:=λo=>by simp[setObj,Sem.run,hb']
    obtain⟨j,e,hf,hj,hke,hmo',ht',hall⟩:=p1 hd;have hdom:qA dom v=dom:=by
     funext q;simp only[qA];cases hq:eqK v q with
     |false=>rfl
     |true=>rw[←zz hq,hd];rfl
    rw[hdom]at hmo';refine⟨_,?_,kx h hb hN hr hb' (λ_ _ _=>by simp) (.map (es.modify j λe=>{ e with key:=v,val:=y }) c) _ λG' w' hw' hrep=>.mapS _ _ _ _ b _ c hw' hmo' ht' (λe' he'=>?_) (λe' he'=>?_)⟩
    ·have hkeep:(Instr.keyThatStays v v).run P w=.ok v w:=by simp[Instr.keyThatStays,vY hki hfv]
     simp only[Instr.mapUpdate,Sem.run_bind,run_underlying hu,Result.andThen_ok,hobj,kd hki hfv,kJ hki hfv es.toList hfes,hf,hj,xg1,xg0,hke,hkeep,hset]
    ·grind
    ·rcases hall e' he' with⟨e1,e2,_⟩|⟨e1,e2⟩
     ·rw[e1,e2]
      have:=(ja hki hfv hfv).2 rfl;simp only[qB,this,svIte,if_true];exact hrep _ _ hx
     ·have:eqK v e'.key=false:=by
       cases hq:eqK v e'.key with
       |false=>rfl
       |true=>exact absurd (zz hq).symm e2
      simp only[qB,this,svIte,xe7,if_false]
      simp_all
  ·trivial
theorem Yg(h:Sat base okc r N hp w)(t t' ty:TypeId)(hm:Rep r N (Gd base okc r N hp w) w m u)(hk:Rep r N (Gd base okc r N hp w) w k v){obl:Prop}{id:Nat}{bb:Blk}(hres:rDelete (qD P t) hp m k=.upd obl id bb)(ho:obl) :
  ∃w',(Builtin.delete_ #[t,t'] ty #[u,v]).run P w=.ok (.tuple #[]) w'∧Step base okc r N hp w r N (setBlk hp id bb) w':=by
 unfold rDelete at hres;split at hres
 rotate_left
 ·cases hres
 rename_i ag ls z id hmi;obtain⟨kt,et,i,hu,hki,hi,-⟩:=zJ hmi;simp only[]at hki;cases hm with
 |mp _ b hN hr=>
  split at hres
  ·rename_i fit dom get v' hb hkv
   simp only[Res.upd.injEq]at hres;obtain⟨rfl,rfl,rfl⟩:=hres;obtain⟨rfl,hfv⟩:=ho;obtain rfl:=jY hkv hk;have hrep:=h.rep _ _ hb hN;rw[hr]at hrep;cases hrep with
   |map _ _ _ _ es clock hb' hmo ht hes=>
    obtain⟨es',hes',hmo',ht',hall⟩:=J4 hki hmo ht hfv;have hfes:∀e∈es.toList,qh ag ls e.key=true:=λe he=>hmo.fits e Ω1;have hobj:(getObj b).run P w=.ok (.map es clock) w:=by simp[getObj,Sem.run,hb']
    have hset:∀o,(setObj b o).run P w=.ok () { w with heap:=w.heap.setIfInBounds b o }:=λo=>by simp[setObj,Sem.run,hb']
    refine⟨_,?_,kx h hb hN hr hb' (λ_ _ _=>by simp) (.map es' clock) _ λG' w' hw' hrep=>.map _ _ _ b _ _ hw' hmo' ht' λe' he'=>hrep _ _ (hes e' (hall e' he'))⟩;simp only[Builtin.delete_,xe2,xd6,xd7,Sem.run_bind,run_underlying hu,Result.andThen_ok,hobj,kd hki hfv,kJ hki hfv es.toList hfes];cases hf:kV v es.toList 0 with
    |none=>rw[hf]at hes';simp only[]at hes';subst hes';simp only[Sem.run_bind,hset,Result.andThen_ok,Sem.run_pure]
    |some p=>
     simp_all
  ·rename_i fit dom get st c v' hb hkv
   simp only[Res.upd.injEq]at hres;obtain⟨rfl,rfl,rfl⟩:=hres;obtain⟨rfl,hfv⟩:=ho;obtain rfl:=jY hkv hk;have hrep:=h.rep _ _ hb hN;rw[hr]at hrep;cases hrep with
   |mapS _ _ _ _ _ es _ hb' hmo ht hst hes=>
    obtain⟨es',hes',hmo',ht',hall⟩:=J4 hki hmo ht hfv;have hfes:∀e∈es.toList,qh ag ls e.key=true:=λe he=>hmo.fits e Ω1;have hobj:(getObj b).run P w=.ok (.map es c) w:=by simp[getObj,Sem.run,hb']
    have hset:∀o,(setObj b o).run P w=.ok () { w with heap:=w.heap.setIfInBounds b o }:=λo=>by simp[setObj,Sem.run,hb']
    refine⟨_,?_,kx h hb hN hr hb' (λ_ _ _=>by simp) (.map es' c) _ λG' w' hw' hrep=>.mapS _ _ _ _ b _ _ hw' hmo' ht' (λe' he'=>hst e' (hall e' he')) λe' he'=>hrep _ _ (hes e' (hall e' he'))⟩;simp only[Builtin.delete_,xe2,xd6,xd7,Sem.run_bind,run_underlying hu,Result.andThen_ok,hobj,kd hki hfv,kJ hki hfv es.toList hfes];cases hf:kV v es.toList 0 with
    |none=>rw[hf]at hes';simp only[]at hes';subst hes';simp only[Sem.run_bind,hset,Result.andThen_ok,Sem.run_pure]
    |some p=>
     simp_all
  ·cases hres
theorem Jz(h:Sat base okc r N hp w)(t ty:TypeId)(hm:Rep r N (Gd base okc r N hp w) w m u){obl:Prop}{id:Nat}{bb:Blk}(hres:rClearMap (qD P t) hp m=.upd obl id bb)(ho:obl) :
  ∃w',(Builtin.clear_ #[t] ty #[u]).run P w=.ok (.tuple #[]) w'∧Step base okc r N hp w r N (setBlk hp id bb) w':=by
 unfold rClearMap at hres;split at hres
 rotate_left
 ·cases hres
 rename_i mi id hmi;obtain⟨kt,et,i,hu,hki,hi,-⟩:=zJ hmi;cases hm with
 |mp _ b hN hr=>
  split at hres
  ·rename_i fit dom get hb
   simp only[Res.upd.injEq]at hres;obtain⟨rfl,rfl,rfl⟩:=hres;have hrep:=h.rep _ _ hb hN;rw[hr]at hrep;cases hrep with
   |map _ _ _ _ es clock hb' hmo ht hes=>
    have hobj:(getObj b).run P w=.ok (.map es clock) w:=by simp[getObj,Sem.run,hb']
    have hset:∀o,(setObj b o).run P w=.ok () { w with heap:=w.heap.setIfInBounds b o }:=λo=>by simp[setObj,Sem.run,hb']
    refine⟨_,?_,kx h hb hN hr hb' (λ_ _ _=>by simp) (.map #[] clock) _ λG' w' hw' hrep=>.map _ _ _ b _ _ hw' ⟨λi j e f hi=>by simp at hi,λe he=>by simp at he,λe he=>by simp at he,λk hk=>by cases hk⟩ ⟨λe he=>by simp at he,λi j e f hi=>by simp at hi⟩ λe he=>by simp at he⟩;simp only[Builtin.clear_,xe2,xd6,xd7,Sem.run_bind,run_underlying hu,Result.andThen_ok,hobj,hset,Sem.run_pure]
  ·cases hres
end
end Go.Sx
end
