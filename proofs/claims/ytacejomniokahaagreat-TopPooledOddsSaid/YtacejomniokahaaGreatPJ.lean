/- A part of the proof. -/
import Derived.Test.YtacejomniokahaaGreatPI
import Derived.Test.YtacejomniokahaaGreatPG
import Derived.Test.YtacejomniokahaaGreatPE
open Nat renaming reduceMul→xa0,reduceAdd→xa1,reduceEqDiff→xa2,reduceLT→xa3,reduceLeDiff→xa4,le_refl→xa5,zero_add→xb0,zero_testBit→xb3
open List renaming getD_eq_getElem?_getD→xc6,getElem?_eq_getElem→xc7,length_append→xc8,length_singleton→xd1,mem_append→xd4,getElem?_cons_zero→xd6,getElem?_cons_succ→xd7,mem_singleton→xe0,length_map→xe1
open Bool renaming and_eq_true→xe6,or_eq_true→xe8,and_true→xf1,false_or→xf4
set_option linter.unusedVariables false
set_option linter.unusedSimpArgs false
set_option linter.defProp false
set_option maxRecDepth 1000000
set_option maxHeartbeats 16000000
section
namespace Go.Sx
open Go.Proofs
open Go.RowKit Go.Tn
noncomputable section
def qoY:Bool:=kE (jH (jF Tryz.prog X0) 1000 Tryz.f352 ((zL flT 352).getD []) [.val (.int .u64 1)] (g6 (.val (.int .i64 1))))
theorem qkr:qoY=true:=by kernel_rfl
theorem qoZ:qf Tryz.prog 352 [.val (.int .u64 1)] (.val (.int .i64 1)):=qP follows X0_ok Tryz.func352 (L:=(zL flT 352).getD []) rfl 1000 ΩL ΩG qkr
def qpa:Bool:=kE (jH (jF Tryz.prog X0) 1000 Tryz.f352 ((zL flT 352).getD []) [.val (.int .u64 2)] (g6 (.val (.int .i64 2))))
theorem qks:qpa=true:=by kernel_rfl
theorem qpb:qf Tryz.prog 352 [.val (.int .u64 2)] (.val (.int .i64 2)):=qP follows X0_ok Tryz.func352 (L:=(zL flT 352).getD []) rfl 1000 ΩL ΩG qks
def qpc:Bool:=kE (jH (jF Tryz.prog X0) 1000 Tryz.f352 ((zL flT 352).getD []) [.val (.int .u64 3)] (g6 (.val (.int .i64 2))))
theorem qkt:qpc=true:=by kernel_rfl
theorem qpd:qf Tryz.prog 352 [.val (.int .u64 3)] (.val (.int .i64 2)):=qP follows X0_ok Tryz.func352 (L:=(zL flT 352).getD []) rfl 1000 ΩL ΩG qkt
def qpe:Bool:=kE (jH (jF Tryz.prog X0) 1000 Tryz.f352 ((zL flT 352).getD []) [.val (.int .u64 4)] (g6 (.val (.int .i64 3))))
theorem qku:qpe=true:=by kernel_rfl
theorem qpf:qf Tryz.prog 352 [.val (.int .u64 4)] (.val (.int .i64 3)):=qP follows X0_ok Tryz.func352 (L:=(zL flT 352).getD []) rfl 1000 ΩL ΩG qku
def qpg:Bool:=kE (jH (jF Tryz.prog X0) 1000 Tryz.f352 ((zL flT 352).getD []) [.val (.int .u64 5)] (g6 (.val (.int .i64 3))))
theorem qkv:qpg=true:=by kernel_rfl
theorem qph:qf Tryz.prog 352 [.val (.int .u64 5)] (.val (.int .i64 3)):=qP follows X0_ok Tryz.func352 (L:=(zL flT 352).getD []) rfl 1000 ΩL ΩG qkv
def qpi:Bool:=kE (jH (jF Tryz.prog X0) 1000 Tryz.f352 ((zL flT 352).getD []) [.val (.int .u64 6)] (g6 (.val (.int .i64 3))))
theorem qkw:qpi=true:=by kernel_rfl
theorem qpj:qf Tryz.prog 352 [.val (.int .u64 6)] (.val (.int .i64 3)):=qP follows X0_ok Tryz.func352 (L:=(zL flT 352).getD []) rfl 1000 ΩL ΩG qkw
def qpk:Bool:=kE (jH (jF Tryz.prog X0) 1000 Tryz.f352 ((zL flT 352).getD []) [.val (.int .u64 7)] (g6 (.val (.int .i64 3))))
theorem qkx:qpk=true:=by kernel_rfl
theorem qpl:qf Tryz.prog 352 [.val (.int .u64 7)] (.val (.int .i64 3)):=qP follows X0_ok Tryz.func352 (L:=(zL flT 352).getD []) rfl 1000 ΩL ΩG qkx
def qpm:Bool:=kE (jH (jF Tryz.prog X0) 1000 Tryz.f352 ((zL flT 352).getD []) [.val (.int .u64 8)] (g6 (.val (.int .i64 4))))
theorem qky:qpm=true:=by kernel_rfl
theorem qpn:qf Tryz.prog 352 [.val (.int .u64 8)] (.val (.int .i64 4)):=qP follows X0_ok Tryz.func352 (L:=(zL flT 352).getD []) rfl 1000 ΩL ΩG qky
theorem c352(k:Nat)(h1:1≤k)(h8:k≤8):∃v:Int,qf Tryz.prog 352 [.val (.int .u64 k)] (.val (.int .i64 v)):=by
 have:k=1∨k=2∨k=3∨k=4∨k=5∨k=6∨k=7∨k=8:=by omega
 rcases this with rfl|rfl|rfl|rfl|rfl|rfl|rfl|rfl
 ·exact⟨_,qoZ⟩
 ·exact⟨_,qpb⟩
 ·exact⟨_,qpd⟩
 ·exact⟨_,qpf⟩
 ·exact⟨_,qph⟩
 ·exact⟨_,qpj⟩
 ·exact⟨_,qpl⟩
 ·exact⟨_,qpn⟩
end
end Go.Sx
end
section
namespace Go.Tn
open Go.Proofs
open Go.Sx
theorem TYS:True∧qn Tryz.prog 461=some ⟨false,1,some [.int .u64 0],.int .u64⟩:=⟨trivial,Ωc⟩
theorem qpo(m:Nat)(u:Nat→Int)(h1:1≤m)(hm:m≤8)(hu:∀i,i+1<m→u i<u (i+1))(v:Int):qf Tryz.prog 351 [ints m u,I 0,I m,I v] (.tup []):=by
 refine qg Tryz.func351 rfl Ωc follows Ωc _ _ (by rw[Tryz.ntmps351];simp) Ωh ?_;have NB:True:=trivial;have hr0:True:=trivial;have h383:=qoP m u h1 Ω hu;have dl:=decide_eq_true (Ω:((m:Nat):Int) - 0≤12);unfold ints I;(repeat' (first|refine sD ?_ ?_<;>intro _|refine aAc ?_|(simp -dsimp only[↓RP,RQ,xa0,reduceIte,reduceCtorEq,xa1,xa2,xa3,xa4,TYQ,TYP,NB,QS,hr0,TYR,TYS,QT,QN])))
 all_goals try exact Ωb
 refine qo (fun(_:Unit)=>True) (fun _=>⟨[(0,.arr false false m 1 (fun i _=>.val (.int .i64 (u i)))),(1,.val (.int .i64 0)),(2,.val (.int .i64 (m:Nat)))],[],20⟩) (fun _=>0) () trivial (weakSU Ω Ωf (SubHp.refl _)) fun z hz=>?_;(repeat' (first|refine sD ?_ ?_<;>intro _|refine aAc ?_|(simp -dsimp only[↓RP,RQ,xa0,reduceIte,reduceCtorEq,xa1,xa2,xa3,xa4,dl,Int.sub_zero,TYQ,TYP,NB,QS,hr0,TYR,TYS,QT,QN])))
 all_goals try exact Ωb
 refine qm (h383) (by(simp -dsimp only[↓RP,RQ,xa0,reduceIte,reduceCtorEq,xa1,xa2,xa3,xa4,QV,ints,I]);all_goals (try simp[QV,Go.Sx.Sub,Go.Sx.SubL])) Ωa ?_;(repeat' (first|refine sD ?_ ?_<;>intro _|refine aAc ?_|(simp -dsimp only[↓RP,RQ,xa0,reduceIte,reduceCtorEq,xa1,xa2,xa3,xa4,QT,TYQ,TYP,NB,QS,hr0,TYR,TYS,QN])))
 all_goals try exact Ωb
theorem qpp(m:Nat)(u:Nat→Int)(h1:1≤m)(hm:m≤8)(hu:∀i,i+1<m→u i<u (i+1)):qf Tryz.prog 273 [ints m u] (.tup []):=by
 refine qg Tryz.func273 rfl Ωc follows Ωc _ _ (by rw[Tryz.ntmps273];simp) Ωh ?_;have NB:True:=trivial;have hr0:True:=trivial;obtain⟨v,h352⟩:=Go.Sx.c352 m h1 hm;have h351:=qpo m u h1 hm hu v;unfold ints;(repeat' (first|refine sD ?_ ?_<;>intro _|refine aAc ?_|(simp -dsimp only[↓RP,RQ,xa0,reduceIte,reduceCtorEq,xa1,xa2,xa3,xa4,TYQ,TYP,NB,QS,hr0,TYR,TYS,QT,QN])))
 all_goals try exact Ωb
 refine qm (h352) (by simp[SubL,Go.Sx.Sub]) (by simp[Fresh]) ?_;(repeat' (first|refine sD ?_ ?_<;>intro _|refine aAc ?_|(simp -dsimp only[↓RP,RQ,xa0,reduceIte,reduceCtorEq,xa1,xa2,xa3,xa4,QT,TYQ,TYP,NB,QS,hr0,TYR,TYS,QN])))
 all_goals try exact Ωb
 refine qm (h351) (by(simp -dsimp only[↓RP,RQ,xa0,reduceIte,reduceCtorEq,xa1,xa2,xa3,xa4,QV,ints,I]);all_goals (try simp[QV,Go.Sx.Sub,Go.Sx.SubL])) Ωa ?_;(repeat' (first|refine sD ?_ ?_<;>intro _|refine aAc ?_|(simp -dsimp only[↓RP,RQ,xa0,reduceIte,reduceCtorEq,xa1,xa2,xa3,xa4,QT,TYQ,TYP,NB,QS,hr0,TYR,TYS,QN])))
 all_goals try exact Ωb
end Go.Tn
end
section
namespace Go.Tn
open Go.Proofs
open Go.Sx
theorem qnP(l:List Nat)(j:Nat):(l.map (fun x:Nat=>(x:Int))).getD j 0=((l.getD j 0:Nat):Int):=by
 rw[xc6,xc6,List.getElem?_map];cases l[j]?<;>rfl
theorem qpq(G:List (List Nat))(hG:1≤G.length)(hG8:G.length≤8)(h1:1≤(G.getD 0 []).length)(h8:(G.getD 0 []).length≤8)(hs:(G.getD 0 []).Pairwise (· < ·)):zp Tryz.prog 302 [.arr false false G.length 1 (fun i _=>.arr false false (G.getD i []).length 1 (fun j _=>.val (.int .i64 ((G.getD i []).getD j 0:Nat)))),I 1] (.rows 3 1 (G.getD 0 []).length (fun i _=>.val (.int .i64 ((G.getD 0 []).getD i 0:Nat)))) (.vec 0 (G.getD 0 []).length 1):=by
 refine jj Tryz.func302 rfl Ωc follows Ωc _ _ _ (by rw[Tryz.ntmps302];simp) Ω4 ?_;have NB:True:=trivial;have hr0:True:=trivial;obtain⟨gr,hgr⟩:∃gr,gr=G.getD 0 []:=⟨_,rfl⟩;rw[←hgr]at h1 h8 hs ⊢;have hc:gv (fun i=>(G.getD i []).map (fun x:Nat=>(x:Int))) 1=gr.map (fun x:Nat=>(x:Int)):=by rw[kF,hgr];simp[gv]
 have h359:=qnF 1 (fun i=>(G.getD i []).map (fun x:Nat=>(x:Int))) Ω (by rw[hc,xe1];exact h1) (by rw[hc,xe1];omega);rw[hc,xe1]at h359;simp only[qnP]at h359;have h273:=qpp gr.length (fun i=>(gr.getD i 0:Nat)) h1 h8 (fun i hi=>by
   have:=List.pairwise_iff_getElem.1 hs i (i+1) Ω hi Ω;rw[xc6,xc6,xc7 Ω,xc7 hi];simpa using this)
 unfold I;(repeat' (first|refine sD ?_ ?_<;>intro _|refine aAc ?_|(simp -dsimp only[↓RP,RQ,xa0,reduceIte,reduceCtorEq,xa1,xa2,xa3,xa4,TYQ,TYP,NB,QS,hr0,TYR,TYS,QT,QN])))
 all_goals try exact Ωb
 refine callN h359 (by simp only[SubL,lls,Go.Sx.Sub,qnP,xe1,imp_self,and_self,implies_true,true_and,and_true]) (by simp[FreshO]) Ωag ?_;(repeat' (first|refine sD ?_ ?_<;>intro _|refine aAc ?_|(simp -dsimp only[↓RP,RQ,xa0,reduceIte,reduceCtorEq,xa1,xa2,xa3,xa4,TYQ,TYP,NB,QS,hr0,TYR,TYS,QT,QN])))
 all_goals try exact Ωb
 refine qm (h273) (by simp only[SubL,ints,I,Go.Sx.Sub,blk,if_true,true_and,and_true];exact⟨xa5 _,fun _ _ _ _=>trivial⟩) (by simp[Fresh,FreshL]) ?_;(repeat' (first|refine sD ?_ ?_<;>intro _|refine aAc ?_|(simp -dsimp only[↓RP,RQ,xa0,reduceIte,reduceCtorEq,xa1,xa2,xa3,xa4,TYQ,TYP,NB,QS,hr0,TYR,TYS,QT,QN])))
 all_goals try exact Ωb
 refine⟨4,.rows 3 1 gr.length (fun i _=>.val (.int .i64 (gr.getD i 0:Nat))),by simp[blk],?_,?_⟩
 ·simp only[SubB,true_and]
  exact⟨xa5 _,fun i j hi hj=>by simp only[Go.Sx.Sub]⟩
 ·simp[SubO]
end Go.Tn
end
section
namespace Go.Sx
open Go.RowKit
section
variable{P:Program}
def qdd(P:Program)(G:Nat→SV)(H:List (Nat×Blk))(res:Nat→SV):Nat→List Oper→Prop
 |_,[]=>True
 |i,o :: l=>(∀F:Nat→SV,(∀t,t∈zI o→F t=G t)→PureAt P F H o.op (res i))∧qdd P G H res (i+1) l
theorem JS{G:Nat→SV}{H:List (Nat×Blk)}{res:Nat→SV}:∀{l:List Oper}{k i:Nat}{o:Oper},qdd P G H res k l→l[i]? = some o→∀F:Nat→SV,(∀t,t∈zI o→F t=G t)→PureAt P F H o.op (res (k+i))
 |o' :: l,k,0,o,h,ho=>by
  simp only[xd6,Option.some.injEq]at ho;subst ho;exact h.1
 |o' :: l,k,i+1,o,h,ho=>by
  simp only[xd7]at ho;have:=JS h.2 ho;rw[show k+1+i=k+(i+1) by omega]at this;exact this
 |[],k,i,o,h,ho=>by simp at ho
theorem qbm(hm:P.follows .mixedOrders=true){O:Ctx}{st:St}{K:Ex→St→Prop}{id:Nat}{l:List Oper}(hc:qaN l)(hg:l.all (fun o=>o.guard.isNone)=true)(res:Nat→SV)
  (hp:qdd P (FS (nth (dsts l)) res (fun _=>true) (look st.fr) l.length) st.hp res 0 l)
  (fr2:List (Nat×SV)) (h2:∀fr,(∀t,look fr t=FS (nth (dsts l)) res (fun _=>true) (look st.fr) l.length t)→zo fr fr2)
  (hK:K .normal ⟨fr2,st.hp,st.nid+l.length⟩) {g:Tag K}:j5 P O id l true st K g:=by
 refine yV hm (fun m st'=>(∀t,look st'.fr t=FS (nth (dsts l)) res (fun i=>m.testBit i) (look st.fr) l.length t)∧st'.hp=st.hp∧st'.nid≤st.nid+kc (fun i=>m.testBit i) l.length) rfl hc.edges (Weak.refl _ _) ?_ ?_ ?_
 ·exact⟨fun t=>(VH fun j _=>xb3 j).symm,rfl,Ω⟩
 ·refine vF fun i o ho=>?_
  rw[xb0];rintro m st1 ⟨hf,hH,hnid⟩ hcl hbit hanc;have hi:i<l.length:=(List.getElem?_eq_some_iff.1 ho).1;have anc:∀e,((zr [] l).getD i 0).testBit e=true→m.testBit e=true:=fun e h=>hanc e h (by have:=hc.lt i e hi h;omega);have hops:∀t,t∈zI o→look st1.fr t=FS (nth (dsts l)) res (fun _=>true) (look st.fr) l.length t:=fun t ht=>by
   rw[hf];exact vG fun x hx hxt=>anc x (hc.ops i o t x ho ht hx hxt)
  have hdst:nth (dsts l) i=o.dst:=by rw[za,ho];rfl
  have frs:∀fr:List (Nat×SV),(∀t,look fr t=look (st1.put o.dst (res i)).fr t)→∀t,look fr t=FS (nth (dsts l)) res (fun x=>(m ||| 2^i).testBit x) (look st.fr) l.length t:=fun fr hfr t=>by
   rw[qaM (S:=fun x=>m.testBit x) (i:=i) (fun x=>tb m i x) hi fun x hx hxi h1 h2=>?_,hdst,←hf,hfr,gn];by_cases c:x<i
   ·exact hc.dist i x t c hi h1 h2
   ·exact hc.dist x i t Ω hx h2 h1
  have done:kc (fun x=>(m ||| 2^i).testBit x) l.length=kc (fun x=>m.testBit x) l.length+1:=by
   rw[VF (e:=fun x=>m.testBit x) (i:=i) (fun x hx=>by show(m ||| 2^i).testBit x=_;rw[tb];simp;intro e;exact absurd e.symm hx) hbit,if_pos ⟨hi,by show(m ||| 2^i).testBit i=true;rw[tb];simp⟩]
  have hgrd:Grd l (look st1.fr) o false:=by
   unfold Grd;have h3:=List.all_eq_true.1 hg o (List.mem_of_getElem? ho);cases e:o.guard with
   |none=>rfl
   |some p=>rw[e]at h3;cases h3
  refine⟨st1,Weak.refl _ _,?_⟩;have fin:∀(st2 st3:St),(∀t,look st2.fr t=look st1.fr t)→(∀t,look st3.fr t=look (st2.put o.dst (res i)).fr t)→st3.hp=st.hp→st3.nid≤st1.nid+1→∃st4,Weak O st3 st4∧(∀t,look st4.fr t=FS (nth (dsts l)) res (fun x=>(m ||| 2^i).testBit x) (look st.fr) l.length t)∧st4.hp=st.hp∧st4.nid≤st.nid+kc (fun x=>(m ||| 2^i).testBit x) l.length:=by
   intro st2 st3 h2 h3 hH3 hn3;refine⟨st3,Weak.refl _ _,frs _ fun t=>?_,hH3,?_⟩
   ·rw[h3,gn,gn,h2]
   ·rw[done];omega
  refine Gl hgrd (fun hs st2 h2 h2h h2n=>?_) (fun hs=>by cases hs);have h1:=JS hp ho (look st2.fr) (fun t ht=>by rw[h2,hops t ht]);rw[xb0]at h1;rw[show st.hp=st2.hp by rw[h2h,hH]]at h1;have f2:=fin st2 ⟨inD o.dst (st2.put o.dst (res i)).fr,(st2.put o.dst (res i)).hp,(st2.put o.dst (res i)).nid+1⟩ h2 (fun t=>ge _ _ _) (by rw[zk,h2h];exact hH) (by rw[qr];show st2.nid+1≤_;omega);rcases h1 with(⟨obl,e,h⟩|⟨obl,e,h⟩)|⟨hnd,h⟩
  ·rw[e];exact .inl ⟨h,f2⟩
  ·rw[e];exact .inl ⟨_,h,f2⟩
  ·refine .inr ⟨hnd,(h O st2 (fun t _=>rfl) rfl).mono ?_⟩
   rintro st' res' ⟨rfl,rfl⟩;exact fin st' _ h2 (fun t=>vH _ _ _ _) (by rw[vI,h2h];exact hH) (by rw[ko];omega)
 ·rintro m st1 ⟨hf,hH,hnid⟩ hall
  have:=qcm (e:=fun i=>m.testBit i) (n:=l.length);refine⟨⟨fr2,st.hp,st.nid+l.length⟩,Go.Tn.weakSU Ω (h2 _ fun t=>?_) (by rw[hH];exact SubHp.refl _),hK⟩;rw[hf];exact vG fun x hx _=>hall x hx
end
end Go.Sx
end
section
namespace Go.Tn
open Go.Sx
def bD(f q:Nat→Int)(nb:Nat)(gr:Nat→Nat):Nat→Value→Bool
 |0=>fun _=>false
 |w+1=>if cF f q nb (gr w:Nat)=0 then ka (qI (bD f q nb gr w) (ks (gr w:Nat) (-1))) (ks (gr w:Nat) (-1))else qI (bD f q nb gr w) (ks (gr w:Nat) (-1))
def bG(f q:Nat→Int)(nb:Nat)(gr:Nat→Nat):Nat→Value→SV
 |0=>fun _=>.top
 |w+1=>qC (bG f q nb gr w) (ks (gr w:Nat) (-1)) (.val (.int .i64 (cF f q nb (gr w:Nat))))
theorem eqK_ksv{a b:Int}{v:Value}:eqK (ks a b) v=true↔v=ks a b:=by
 constructor
 ·intro h;exact(zw h).symm
 ·rintro rfl;simp[eqK,ks,jI,wg]
theorem qig{f q:Nat→Int}{nb:Nat}{gr:Nat→Nat}{w:Nat}(h:cF f q nb (gr w:Nat)=0):bD f q nb gr (w+1)=ka (qI (bD f q nb gr w) (ks (gr w:Nat) (-1))) (ks (gr w:Nat) (-1)):=by simp only[bD];rw[if_pos h]
theorem V3{f q:Nat→Int}{nb:Nat}{gr:Nat→Nat}{w:Nat}(h:¬cF f q nb (gr w:Nat)=0):bD f q nb gr (w+1)=qI (bD f q nb gr w) (ks (gr w:Nat) (-1)):=by simp only[bD];rw[if_neg h]
theorem qkz{f q:Nat→Int}{nb:Nat}{gr:Nat→Nat}{w:Nat}:bG f q nb gr (w+1)=qC (bG f q nb gr w) (ks (gr w:Nat) (-1)) (.val (.int .i64 (cF f q nb (gr w:Nat)))):=rfl
theorem Kf(f q:Nat→Int)(nb:Nat)(gr:Nat→Nat)(v:Value):∀w,bD f q nb gr w v=true→∃i,i<w∧v=ks (gr i:Nat) (-1)∧¬cF f q nb (gr i:Nat)=0∧bG f q nb gr w v=.val (.int .i64 (cF f q nb (gr i:Nat)))
 |0,h=>by simp[bD]at h
 |w+1,h=>by
  have old:eqK (ks (gr w:Nat) (-1)) v=false→bD f q nb gr w v=true→∃i,i<w+1∧v=ks (gr i:Nat) (-1)∧¬cF f q nb (gr i:Nat)=0∧bG f q nb gr (w+1) v=.val (.int .i64 (cF f q nb (gr i:Nat))):=fun h1 h2=>by
   obtain⟨i,q1,q2,q3,q4⟩:=Kf f q nb gr v w h2;refine⟨i,Ω,q2,q3,?_⟩;rw[qkz];simp only[qC,h1,svIte];rw[if_neg Ωu];exact q4
  by_cases c:cF f q nb (gr w:Nat)=0
  ·rw[qig c]at h
   simp only[ka,qI,xe6,Bool.not_eq_true',xe8]at h;rcases h with⟨h1,h2⟩;rcases h2 with h2|h2
   ·rw[h1]at h2;cases h2
   ·exact old h1 h2
  ·rw[V3 c]at h
   cases e:eqK (ks (gr w:Nat) (-1)) v with
   |true=>
    refine⟨w,Ω,eqK_ksv.1 e,c,?_⟩;rw[qkz];simp only[qC,e,svIte];rw[if_pos trivial]
   |false=>
    simp only[qI,e,xf4]at h;exact old e h
theorem YI(f q:Nat→Int)(nb:Nat)(gr:Nat→Nat)(i:Nat)(hi:¬cF f q nb (gr i:Nat)=0):∀w,i<w→bD f q nb gr w (ks (gr i:Nat) (-1))=true
 |0,h=>by omega
 |w+1,h=>by
  by_cases e:gr w=gr i
  ·have c:¬cF f q nb (gr w:Nat)=0:=by rw[e];exact hi
   rw[V3 c,e];simp only[qI,xe8];exact .inl (eqK_ksv.2 rfl)
  ·have ih:=YI f q nb gr i hi w (by
    by_cases c:i=w
    ·subst c;exact absurd rfl e
    ·omega)
   have ne:eqK (ks (gr w:Nat) (-1)) (ks (gr i:Nat) (-1))=false:=by
    cases hb:eqK (ks (gr w:Nat) (-1)) (ks (gr i:Nat) (-1))with
    |false=>rfl
    |true=>have:=(eqK_ks.1 hb).1;exact absurd Ω e
   by_cases c:cF f q nb (gr w:Nat)=0
   ·rw[qig c]
    simp only[ka,qI,ne,ih,Bool.not_false,Bool.or_true,xf1]
   ·rw[V3 c]
    simp only[qI,ih,Bool.or_true]
def dvl(f q:Nat→Int)(nb:Nat)(gr:Nat→Nat):Nat→List Nat
 |0=>[]
 |w+1=>if cF f q nb (gr w:Nat)=0 then dvl f q nb gr w else dvl f q nb gr w++[gr w]
theorem Qf{f q:Nat→Int}{nb:Nat}{gr:Nat→Nat}{w:Nat}(h:cF f q nb (gr w:Nat)=0):dvl f q nb gr (w+1)=dvl f q nb gr w:=by simp only[dvl];rw[if_pos h]
theorem yk{f q:Nat→Int}{nb:Nat}{gr:Nat→Nat}{w:Nat}(h:¬cF f q nb (gr w:Nat)=0):dvl f q nb gr (w+1)=dvl f q nb gr w++[gr w]:=by simp only[dvl];rw[if_neg h]
theorem yl(f q:Nat→Int)(nb:Nat)(gr:Nat→Nat)(r:Nat):∀w,r∈dvl f q nb gr w↔∃i,i<w∧gr i=r∧¬cF f q nb (r:Nat)=0
 |0=>by simp[dvl]
 |w+1=>by
  have ih:=yl f q nb gr r w;by_cases c:cF f q nb (gr w:Nat)=0
  ·rw[Qf c,ih]
   constructor
   ·rintro⟨i,h1,h2,h3⟩;exact⟨i,Ω,h2,h3⟩
   ·rintro⟨i,h1,h2,h3⟩
    by_cases e:i=w
    ·subst e;rw[h2]at c;exact absurd c h3
    ·exact⟨i,Ω,h2,h3⟩
  ·rw[yk c,xd4,xe0,ih]
   constructor
   ·rintro(⟨i,h1,h2,h3⟩|rfl)
    ·exact⟨i,Ω,h2,h3⟩
    ·exact⟨w,Ω,rfl,c⟩
   ·rintro⟨i,h1,h2,h3⟩
    by_cases e:i=w
    ·subst e;exact .inr h2.symm
    ·exact .inl ⟨i,Ω,h2,h3⟩
theorem Kg(f q:Nat→Int)(nb:Nat)(gr:Nat→Nat):∀w,(dvl f q nb gr w).length≤w
 |0=>xa5 _
 |w+1=>by
  have ih:=Kg f q nb gr w;by_cases c:cF f q nb (gr w:Nat)=0
  ·rw[Qf c];omega
  ·rw[yk c,xc8,xd1];omega
theorem JT(f q:Nat→Int)(nb:Nat)(gr:Nat→Nat):∀w,(∀i j,i<j→j<w→gr i≠gr j)→(dvl f q nb gr w).Nodup
 |0,_=>List.nodup_nil
 |w+1,h=>by
  have ih:=JT f q nb gr w fun i j h1 h2=>h i j h1 Ω;by_cases c:cF f q nb (gr w:Nat)=0
  ·rw[Qf c];exact ih
  ·rw[yk c,List.nodup_append]
   refine⟨ih,Ωg,fun a ha b hb e=>?_⟩;rw[xe0]at hb;obtain⟨i,h1,h2,_⟩:=(yl f q nb gr a w).1 ha;exact h i w h1 Ω (by rw[h2,e,hb])
theorem qbn{a b:Nat}(h:ks (a:Nat) (-1)=ks (b:Nat) (-1)):a=b:=by
 have:=(eqK_ks (a:=(a:Nat)) (b:=-1) (c:=(b:Nat)) (d:=-1)).1 (by rw[h];exact eqK_ksv.2 rfl);omega
theorem qde(f q:Nat→Int)(nb:Nat)(gr:Nat→Nat)(w:Nat)(k:Value):bD f q nb gr w k=true↔k∈(dvl f q nb gr w).map (fun r:Nat=>ks (r:Nat) (-1)):=by
 rw[List.mem_map];constructor
 ·intro h
  obtain⟨i,h1,h2,h3,_⟩:=Kf f q nb gr k w h;exact⟨gr i,(yl f q nb gr _ w).2 ⟨i,h1,rfl,h3⟩,h2.symm⟩
 ·rintro⟨r,h1,rfl⟩
  obtain⟨i,h2,rfl,h3⟩:=(yl f q nb gr r w).1 h1;exact YI f q nb gr i h3 w h2
theorem GI{f q:Nat→Int}{nb:Nat}{gr:Nat→Nat}{w:Nat}(h:∀i j,i<j→j<w→gr i≠gr j):((dvl f q nb gr w).map (fun r:Nat=>ks (r:Nat) (-1))).Nodup:=
 List.Pairwise.map _ (fun a b hab e=>hab (qbn e)) (JT f q nb gr w h)
theorem qlo{f q:Nat→Int}{nb:Nat}{gr:Nat→Nat}{w i:Nat}(hi:i<w)(hc:¬cF f q nb (gr i:Nat)=0):bG f q nb gr w (ks (gr i:Nat) (-1))=.val (.int .i64 (cF f q nb (gr i:Nat))):=by
 obtain⟨j,h1,h2,h3,h4⟩:=Kf f q nb gr _ w (YI f q nb gr i hc w hi);rw[h4,qbn h2]
theorem qih{f q:Nat→Int}{nb:Nat}{gr:Nat→Nat}{w i:Nat}(hc:cF f q nb (gr i:Nat)=0):bD f q nb gr w (ks (gr i:Nat) (-1))=false:=by
 cases h:bD f q nb gr w (ks (gr i:Nat) (-1))with
 |false=>rfl
 |true=>
  obtain⟨j,h1,h2,h3,h4⟩:=Kf f q nb gr _ w h;rw[←qbn h2]at h3;exact absurd hc h3
end Go.Tn
end
section
namespace Go.Tn
open Go.Proofs
open Go.RowKit
open Go.Sx
theorem qpr(p:String):Gk [{ dst:=some 43,op:=Op.load 160 (Operand.tmp 2),type:=160,pos:=p,after:=#[],guard:=none },{ dst:=some 44,op:=Op.nilCheck (Operand.tmp 43),type:=0,pos:=p,after:=#[{ on:=0,ground:=Ground.data }],guard:=none },{ dst:=some 45,op:=Op.fieldAddr 167 (Operand.tmp 44) 3,type:=0,pos:=p,after:=#[{ on:=1,ground:=Ground.data }],guard:=none },{ dst:=some 46,op:=Op.fieldAddr 57 (Operand.tmp 45) 5,type:=0,pos:=p,after:=#[{ on:=2,ground:=Ground.data }],guard:=none },{ dst:=some 47,op:=Op.load 2 (Operand.tmp 46),type:=2,pos:=p,after:=#[{ on:=3,ground:=Ground.data }],guard:=none },{ dst:=some 48,op:=Op.load 165 (Operand.tmp 5),type:=165,pos:=p,after:=#[],guard:=none },{ dst:=some 49,op:=Op.call { callee:=Callee.builtin Builtin.len,args:=#[Operand.tmp 48],argTypes:=#[165] },type:=3,pos:=p,after:=#[{ on:=5,ground:=Ground.data }],guard:=none },{ dst:=some 50,op:=Op.binOp BinOp.quo 2 (Operand.tmp 47) (Operand.tmp 49) 2,type:=2,pos:=p,after:=#[{ on:=4,ground:=Ground.data },{ on:=6,ground:=Ground.data }],guard:=none },{ dst:=some 11,op:=Op.assign (Operand.tmp 50),type:=2,pos:=p,after:=#[{ on:=7,ground:=Ground.data },{ on:=6,ground:=Ground.chain },{ on:=0,ground:=Ground.phase },{ on:=1,ground:=Ground.phase },{ on:=2,ground:=Ground.phase },{ on:=3,ground:=Ground.phase },{ on:=4,ground:=Ground.phase },{ on:=5,ground:=Ground.phase },{ on:=6,ground:=Ground.phase },{ on:=7,ground:=Ground.phase }],guard:=none }]=true:=by kernel_rfl
theorem qlp{O:Ctx}{p:String}{fr:List (Nat×SV)}{hp:List (Nat×Blk)}{nid id0 tid mid oid p8 id:Nat}{K:Ex→St→Prop}{g:Tag K}{n:Int}{nb:Nat}{f q:Nat→Int}{fav:Bool}{c d st:Int}{fv:Int}{M:SV}{x9 a0 a1 a2 a3 a4 a5:Int}{dom:Value→Bool}{get:Value→SV}{L:List Value}
  (h2:Go.Sx.look fr 2=.ptr id 0) (h5:Go.Sx.look fr 5=.ptr (id+3) 0) (h7:Go.Sx.look fr 7=.ptr oid 0) (h8:Go.Sx.look fr 8=.ptr p8 0) (h9:Go.Sx.look fr 9=.val (.int .i64 x9))
  (hb:blk hp id=some (.cells 160 [.ptr tid 0])) (hb3:blk hp (id+3)=some (.cells 165 [.mp (id+2)])) (hbt:blk hp tid=some (.cells 167 (tlL n nb f q fav c d st fv M a0 a1 a2 a3 a4 a5))) (hbm:blk hp (id+2)=some (.map (ql true [.i .i64,.i .i64]) dom get))
  (hn:L.Nodup) (hL:∀k,dom k=true↔k∈L) (h1:1≤L.length) (h88:L.length≤8) (ha:0≤a5∧a5≤100000000) (hq:0≤Int.tdiv a5 (L.length:Nat)∧Int.tdiv a5 (L.length:Nat)≤100000000)
  (hK:K .normal ⟨[(11,.val (.int .i64 (Int.tdiv a5 (L.length:Nat)))),(2,.ptr id 0),(5,.ptr (id+3) 0),(7,.ptr oid 0),(8,.ptr p8 0),(9,.val (.int .i64 x9))],hp,nid+9⟩) :
  j5 Tryz.prog O id0 [{ dst:=some 43,op:=Op.load 160 (Operand.tmp 2),type:=160,pos:=p,after:=#[],guard:=none },{ dst:=some 44,op:=Op.nilCheck (Operand.tmp 43),type:=0,pos:=p,after:=#[{ on:=0,ground:=Ground.data }],guard:=none },{ dst:=some 45,op:=Op.fieldAddr 167 (Operand.tmp 44) 3,type:=0,pos:=p,after:=#[{ on:=1,ground:=Ground.data }],guard:=none },{ dst:=some 46,op:=Op.fieldAddr 57 (Operand.tmp 45) 5,type:=0,pos:=p,after:=#[{ on:=2,ground:=Ground.data }],guard:=none },{ dst:=some 47,op:=Op.load 2 (Operand.tmp 46),type:=2,pos:=p,after:=#[{ on:=3,ground:=Ground.data }],guard:=none },{ dst:=some 48,op:=Op.load 165 (Operand.tmp 5),type:=165,pos:=p,after:=#[],guard:=none },{ dst:=some 49,op:=Op.call { callee:=Callee.builtin Builtin.len,args:=#[Operand.tmp 48],argTypes:=#[165] },type:=3,pos:=p,after:=#[{ on:=5,ground:=Ground.data }],guard:=none },{ dst:=some 50,op:=Op.binOp BinOp.quo 2 (Operand.tmp 47) (Operand.tmp 49) 2,type:=2,pos:=p,after:=#[{ on:=4,ground:=Ground.data },{ on:=6,ground:=Ground.data }],guard:=none },{ dst:=some 11,op:=Op.assign (Operand.tmp 50),type:=2,pos:=p,after:=#[{ on:=7,ground:=Ground.data },{ on:=6,ground:=Ground.chain },{ on:=0,ground:=Ground.phase },{ on:=1,ground:=Ground.phase },{ on:=2,ground:=Ground.phase },{ on:=3,ground:=Ground.phase },{ on:=4,ground:=Ground.phase },{ on:=5,ground:=Ground.phase },{ on:=6,ground:=Ground.phase },{ on:=7,ground:=Ground.phase }],guard:=none }] true ⟨fr,hp,nid⟩ K g:=by
 refine qbm follows (Jz (qpr p)) Ωx (fun i=>([.ptr tid 0,.ptr tid 0,.ptr tid 10,.ptr tid 15,.val (.int .i64 a5),.mp (id+2),.val (.int .i64 (L.length:Nat)),.val (.int .i64 (Int.tdiv a5 (L.length:Nat))),.val (.int .i64 (Int.tdiv a5 (L.length:Nat)))]:List SV).getD i .top) ?_ _ ?_ hK
 ·have G2:FS (nth (dsts [{ dst:=some 43,op:=Op.load 160 (Operand.tmp 2),type:=160,pos:=p,after:=#[],guard:=none },{ dst:=some 44,op:=Op.nilCheck (Operand.tmp 43),type:=0,pos:=p,after:=#[{ on:=0,ground:=Ground.data }],guard:=none },{ dst:=some 45,op:=Op.fieldAddr 167 (Operand.tmp 44) 3,type:=0,pos:=p,after:=#[{ on:=1,ground:=Ground.data }],guard:=none },{ dst:=some 46,op:=Op.fieldAddr 57 (Operand.tmp 45) 5,type:=0,pos:=p,after:=#[{ on:=2,ground:=Ground.data }],guard:=none },{ dst:=some 47,op:=Op.load 2 (Operand.tmp 46),type:=2,pos:=p,after:=#[{ on:=3,ground:=Ground.data }],guard:=none },{ dst:=some 48,op:=Op.load 165 (Operand.tmp 5),type:=165,pos:=p,after:=#[],guard:=none },{ dst:=some 49,op:=Op.call { callee:=Callee.builtin Builtin.len,args:=#[Operand.tmp 48],argTypes:=#[165] },type:=3,pos:=p,after:=#[{ on:=5,ground:=Ground.data }],guard:=none },{ dst:=some 50,op:=Op.binOp BinOp.quo 2 (Operand.tmp 47) (Operand.tmp 49) 2,type:=2,pos:=p,after:=#[{ on:=4,ground:=Ground.data },{ on:=6,ground:=Ground.data }],guard:=none },{ dst:=some 11,op:=Op.assign (Operand.tmp 50),type:=2,pos:=p,after:=#[{ on:=7,ground:=Ground.data },{ on:=6,ground:=Ground.chain },{ on:=0,ground:=Ground.phase },{ on:=1,ground:=Ground.phase },{ on:=2,ground:=Ground.phase },{ on:=3,ground:=Ground.phase },{ on:=4,ground:=Ground.phase },{ on:=5,ground:=Ground.phase },{ on:=6,ground:=Ground.phase },{ on:=7,ground:=Ground.phase }],guard:=none }])) (fun i=>([.ptr tid 0,.ptr tid 0,.ptr tid 10,.ptr tid 15,.val (.int .i64 a5),.mp (id+2),.val (.int .i64 (L.length:Nat)),.val (.int .i64 (Int.tdiv a5 (L.length:Nat))),.val (.int .i64 (Int.tdiv a5 (L.length:Nat)))]:List SV).getD i .top) (fun _=>true) (Go.Sx.look fr) 9 2=.ptr id 0:=by
   rw[←h2];simp[FS,nth,dsts]
  simp only[qdd];refine⟨fun F hF=>?_,fun F hF=>?_,fun F hF=>?_,fun F hF=>?_,fun F hF=>?_,fun F hF=>?_,fun F hF=>?_,fun F hF=>?_,fun F hF=>?_,trivial⟩
  ·have e:=hF 2 ΩE
   simp[FS,nth,dsts,h2]at e;refine .inl ?_;(simp -dsimp only[↓RP,RQ,xa0,reduceIte,reduceCtorEq,xa1,xa2,xa3,xa4,e,hb,QV,TY,TYR,TYP,TYQ])
   first|exact .inl ⟨_,rfl,trivial⟩|exact .inr ⟨_,rfl,rfl⟩|exact .inl ⟨_,rfl,Ωg⟩
  ·have e:=hF 43 ΩE
   simp[FS,nth,dsts]at e;refine .inl ?_;(simp -dsimp only[↓RP,RQ,xa0,reduceIte,reduceCtorEq,xa1,xa2,xa3,xa4,e,QV,TY,TYR,TYP,TYQ])
   first|exact .inl ⟨_,rfl,trivial⟩|exact .inr ⟨_,rfl,rfl⟩|exact .inl ⟨_,rfl,Ωg⟩
  ·have e:=hF 44 ΩE
   simp[FS,nth,dsts]at e;refine .inl ?_;(simp -dsimp only[↓RP,RQ,xa0,reduceIte,reduceCtorEq,xa1,xa2,xa3,xa4,e,QV,TY,TYR,TYP,TYQ])
   first|exact .inl ⟨_,rfl,trivial⟩|exact .inr ⟨_,rfl,rfl⟩|exact .inl ⟨_,rfl,Ωg⟩
  ·have e:=hF 45 ΩE
   simp[FS,nth,dsts]at e;refine .inl ?_;(simp -dsimp only[↓RP,RQ,xa0,reduceIte,reduceCtorEq,xa1,xa2,xa3,xa4,e,QV,TY,TYR,TYP,TYQ])
   first|exact .inl ⟨_,rfl,trivial⟩|exact .inr ⟨_,rfl,rfl⟩|exact .inl ⟨_,rfl,Ωg⟩
  ·have e:=hF 46 ΩE
   simp[FS,nth,dsts]at e;refine .inl ?_;(simp -dsimp only[↓RP,RQ,xa0,reduceIte,reduceCtorEq,xa1,xa2,xa3,xa4,e,hbt,tlL,QV,TY,TYR,TYP,TYQ])
   first|exact .inl ⟨_,rfl,trivial⟩|exact .inr ⟨_,rfl,rfl⟩|exact .inl ⟨_,rfl,Ωg⟩
  ·have e:=hF 5 ΩE
   simp[FS,nth,dsts,h5]at e;refine .inl ?_;(simp -dsimp only[↓RP,RQ,xa0,reduceIte,reduceCtorEq,xa1,xa2,xa3,xa4,e,hb3,QV,TY,TYR,TYP,TYQ])
   first|exact .inl ⟨_,rfl,trivial⟩|exact .inr ⟨_,rfl,rfl⟩|exact .inl ⟨_,rfl,Ωg⟩
  ·refine .inr ⟨rfl,fun O st hst hh=>?_⟩
   have e:=hF 48 (by simp[zI,Op.operands,Call.operands]);have e2:=hst 48 Ωj;simp[FS,nth,dsts]at e;rw[e]at e2;exact(JA (id:=id+2) (x:=.tmp 48) (st:=st) TYR.2.2.1 (by simp only[env];exact e2) (by rw[hh];exact hbm) hn hL).mono fun st' res h=>h
  ·have e:=hF 47 ΩE
   have e2:=hF 49 ΩE;simp[FS,nth,dsts]at e e2;refine .inl ?_;have hl0:(L.length:Int)≠0:=by omega
   (simp -dsimp only[↓RP,RQ,xa0,reduceIte,reduceCtorEq,xa1,xa2,xa3,xa4,e,e2,QV,TY,TYR,TYP]);exact .inl ⟨_,rfl,by simp only[InK];omega⟩
  ·have e:=hF 50 ΩE
   simp[FS,nth,dsts]at e;refine .inl ?_;(simp -dsimp only[↓RP,RQ,xa0,reduceIte,reduceCtorEq,xa1,xa2,xa3,xa4,e,QV,TY,TYR,TYP,TYQ])
   first|exact .inl ⟨_,rfl,trivial⟩|exact .inr ⟨_,rfl,rfl⟩|exact .inl ⟨_,rfl,Ωg⟩
 ·intro fr' h
  simp[zo,h,FS,nth,dsts,h2,h5,h7,h8,h9]
end Go.Tn
end
