/- A part of the proof. -/
import Derived.Test.YtacejomniokahaaGreatPI
import Derived.Test.YtacejomniokahaaGreatPG
import Derived.Test.YtacejomniokahaaGreatPE
open Nat renaming le_refl→xa5,zero_add→xb0,zero_testBit→xb3
open List renaming getD_eq_getElem?_getD→xc6,getElem?_eq_getElem→xc7,length_append→xc8,length_singleton→xd1,mem_append→xd4,getElem?_cons_zero→xd6,getElem?_cons_succ→xd7,mem_singleton→xe0,length_map→xe1
open Bool renaming and_eq_true→xe6,or_eq_true→xe8,and_true→xf1,false_or→xf4
set_option linter.unusedVariables false
set_option linter.unusedSimpArgs false
set_option linter.defProp false
set_option maxRecDepth 1000000
set_option maxHeartbeats 16000000
section
namespace Go.Sx
open Go.Proofs
open Go.RowKit Go.Tn
noncomputable section
def qrK:Bool:=zX (jt (gS Tryz.prog X0) 1000 Tryz.f352 ((zp flT 352).getD []) [.val (.int .u64 1)] (gl (.val (.int .i64 1))))
theorem qmF:qrK=true:=by kernel_rfl
theorem qrL:qf Tryz.prog 352 [.val (.int .u64 1)] (.val (.int .i64 1)):=qI follows X0_ok Tryz.func352 (L:=(zp flT 352).getD []) rfl 1000 ΩQ ΩK qmF
def qrM:Bool:=zX (jt (gS Tryz.prog X0) 1000 Tryz.f352 ((zp flT 352).getD []) [.val (.int .u64 2)] (gl (.val (.int .i64 2))))
theorem qmG:qrM=true:=by kernel_rfl
theorem qrN:qf Tryz.prog 352 [.val (.int .u64 2)] (.val (.int .i64 2)):=qI follows X0_ok Tryz.func352 (L:=(zp flT 352).getD []) rfl 1000 ΩQ ΩK qmG
def qrO:Bool:=zX (jt (gS Tryz.prog X0) 1000 Tryz.f352 ((zp flT 352).getD []) [.val (.int .u64 3)] (gl (.val (.int .i64 2))))
theorem qmH:qrO=true:=by kernel_rfl
theorem qrP:qf Tryz.prog 352 [.val (.int .u64 3)] (.val (.int .i64 2)):=qI follows X0_ok Tryz.func352 (L:=(zp flT 352).getD []) rfl 1000 ΩQ ΩK qmH
def qrQ:Bool:=zX (jt (gS Tryz.prog X0) 1000 Tryz.f352 ((zp flT 352).getD []) [.val (.int .u64 4)] (gl (.val (.int .i64 3))))
theorem qmI:qrQ=true:=by kernel_rfl
theorem qrR:qf Tryz.prog 352 [.val (.int .u64 4)] (.val (.int .i64 3)):=qI follows X0_ok Tryz.func352 (L:=(zp flT 352).getD []) rfl 1000 ΩQ ΩK qmI
def qrS:Bool:=zX (jt (gS Tryz.prog X0) 1000 Tryz.f352 ((zp flT 352).getD []) [.val (.int .u64 5)] (gl (.val (.int .i64 3))))
theorem qmJ:qrS=true:=by kernel_rfl
theorem qrT:qf Tryz.prog 352 [.val (.int .u64 5)] (.val (.int .i64 3)):=qI follows X0_ok Tryz.func352 (L:=(zp flT 352).getD []) rfl 1000 ΩQ ΩK qmJ
def qrU:Bool:=zX (jt (gS Tryz.prog X0) 1000 Tryz.f352 ((zp flT 352).getD []) [.val (.int .u64 6)] (gl (.val (.int .i64 3))))
theorem qmK:qrU=true:=by kernel_rfl
theorem qrV:qf Tryz.prog 352 [.val (.int .u64 6)] (.val (.int .i64 3)):=qI follows X0_ok Tryz.func352 (L:=(zp flT 352).getD []) rfl 1000 ΩQ ΩK qmK
def qrW:Bool:=zX (jt (gS Tryz.prog X0) 1000 Tryz.f352 ((zp flT 352).getD []) [.val (.int .u64 7)] (gl (.val (.int .i64 3))))
theorem qmL:qrW=true:=by kernel_rfl
theorem qrX:qf Tryz.prog 352 [.val (.int .u64 7)] (.val (.int .i64 3)):=qI follows X0_ok Tryz.func352 (L:=(zp flT 352).getD []) rfl 1000 ΩQ ΩK qmL
def qrY:Bool:=zX (jt (gS Tryz.prog X0) 1000 Tryz.f352 ((zp flT 352).getD []) [.val (.int .u64 8)] (gl (.val (.int .i64 4))))
theorem qmM:qrY=true:=by kernel_rfl
theorem qrZ:qf Tryz.prog 352 [.val (.int .u64 8)] (.val (.int .i64 4)):=qI follows X0_ok Tryz.func352 (L:=(zp flT 352).getD []) rfl 1000 ΩQ ΩK qmM
theorem c352(k:Nat)(h1:1≤k)(h8:k≤8):∃v:Int,qf Tryz.prog 352 [.val (.int .u64 k)] (.val (.int .i64 v)):=by
 have:k=1∨k=2∨k=3∨k=4∨k=5∨k=6∨k=7∨k=8:=by omega
 rcases this with rfl|rfl|rfl|rfl|rfl|rfl|rfl|rfl
 ·exact⟨_,qrL⟩
 ·exact⟨_,qrN⟩
 ·exact⟨_,qrP⟩
 ·exact⟨_,qrR⟩
 ·exact⟨_,qrT⟩
 ·exact⟨_,qrV⟩
 ·exact⟨_,qrX⟩
 ·exact⟨_,qrZ⟩
end
end Go.Sx
end
section
namespace Go.Tn
open Go.Proofs
open Go.Sx
theorem TYS:True∧qn Tryz.prog 461=some ⟨false,1,some [.int .u64 0],.int .u64⟩:=⟨trivial,Ωc⟩
theorem qsa(m:Nat)(u:Nat→Int)(h1:1≤m)(hm:m≤8)(hu:∀i,i+1<m→u i<u (i+1))(v:Int):qf Tryz.prog 351 [qA m u,I 0,I m,I v] (.tup []):=by
 refine qg Tryz.func351 rfl Ωc follows Ωc _ _ (by rw[Tryz.ntmps351];simp) Ωi ?_;have NB:True:=trivial;have hr0:True:=trivial;have h383:=qrB m u h1 Ω hu;have dl:=decide_eq_true (Ω:((m:Nat):Int) - 0≤12);unfold qA I;repeat' first|refine sD ?_ ?_<;>intro _|refine aAc ?_|simp -dsimp only[↓RP,RQ,seval,TYQ,TYP,NB,QS,hr0,TYR,TYS,QT,QN]
 all_goals try exact Ωa
 refine qo (λ(_:Unit)=>True) (λ_=>⟨[(0,.arr false false m 1 (λi _=>.val (.int .i64 (u i)))),(1,.val (.int .i64 0)),(2,.val (.int .i64 (m:Nat)))],[],20⟩) (λ_=>0) () trivial (weakSU Ω Ωd (SubHp.refl _)) λz hz=>?_;repeat' first|refine sD ?_ ?_<;>intro _|refine aAc ?_|simp -dsimp only[↓RP,RQ,seval,dl,Int.sub_zero,TYQ,TYP,NB,QS,hr0,TYR,TYS,QT,QN]
 all_goals try exact Ωa
 refine qk (h383) (by(simp -dsimp only[↓RP,RQ,seval,QV,qA,I]);all_goals (try simp[QV,Go.Sx.Sub,Go.Sx.SubL])) Ωb ?_;repeat' first|refine sD ?_ ?_<;>intro _|refine aAc ?_|simp -dsimp only[↓RP,RQ,seval,QT,TYQ,TYP,NB,QS,hr0,TYR,TYS,QN]
 all_goals try exact Ωa
theorem qsb(m:Nat)(u:Nat→Int)(h1:1≤m)(hm:m≤8)(hu:∀i,i+1<m→u i<u (i+1)):qf Tryz.prog 273 [qA m u] (.tup []):=by
 refine qg Tryz.func273 rfl Ωc follows Ωc _ _ (by rw[Tryz.ntmps273];simp) Ωi ?_;have NB:True:=trivial;have hr0:True:=trivial;obtain⟨v,h352⟩:=Go.Sx.c352 m h1 hm;have h351:=qsa m u h1 hm hu v;unfold qA;repeat' first|refine sD ?_ ?_<;>intro _|refine aAc ?_|simp -dsimp only[↓RP,RQ,seval,TYQ,TYP,NB,QS,hr0,TYR,TYS,QT,QN]
 all_goals try exact Ωa
 refine qk (h352) (by simp[SubL,Go.Sx.Sub]) Ωah ?_;repeat' first|refine sD ?_ ?_<;>intro _|refine aAc ?_|simp -dsimp only[↓RP,RQ,seval,QT,TYQ,TYP,NB,QS,hr0,TYR,TYS,QN]
 all_goals try exact Ωa
 refine qk (h351) (by(simp -dsimp only[↓RP,RQ,seval,QV,qA,I]);all_goals (try simp[QV,Go.Sx.Sub,Go.Sx.SubL])) Ωb ?_;repeat' first|refine sD ?_ ?_<;>intro _|refine aAc ?_|simp -dsimp only[↓RP,RQ,seval,QT,TYQ,TYP,NB,QS,hr0,TYR,TYS,QN]
 all_goals try exact Ωa
end Go.Tn
end
section
namespace Go.Tn
open Go.Proofs
open Go.Sx
theorem qqu(l:List Nat)(j:Nat):(l.map (λx:Nat=>(x:Int))).getD j 0=((l.getD j 0:Nat):Int):=by
 rw[xc6,xc6,List.getElem?_map];cases l[j]?<;>rfl
theorem qsc(G:List (List Nat))(hG:1≤G.length)(hG8:G.length≤8)(h1:1≤(G.getD 0 []).length)(h8:(G.getD 0 []).length≤8)(hs:(G.getD 0 []).Pairwise (· < ·)):zu Tryz.prog 302 [.arr false false G.length 1 (λi _=>.arr false false (G.getD i []).length 1 (λj _=>.val (.int .i64 ((G.getD i []).getD j 0:Nat)))),I 1] (.rows 3 1 (G.getD 0 []).length (λi _=>.val (.int .i64 ((G.getD 0 []).getD i 0:Nat)))) (.vec 0 (G.getD 0 []).length 1):=by
 refine jH Tryz.func302 rfl Ωc follows Ωc _ _ _ (by rw[Tryz.ntmps302];simp) (by simp[OldL,Old,I]) ?_;have NB:True:=trivial;have hr0:True:=trivial;obtain⟨gr,hgr⟩:∃gr,gr=G.getD 0 []:=⟨_,rfl⟩;rw[←hgr]at h1 h8 hs ⊢;have hc:gT (λi=>(G.getD i []).map (λx:Nat=>(x:Int))) 1=gr.map (λx:Nat=>(x:Int)):=by rw[kQ,hgr];simp[gT]
 have h359:=qqm 1 (λi=>(G.getD i []).map (λx:Nat=>(x:Int))) Ω (by rw[hc,xe1];exact h1) (by rw[hc,xe1];omega);rw[hc,xe1]at h359;simp only[qqu]at h359;have h273:=qsb gr.length (λi=>(gr.getD i 0:Nat)) h1 h8 (λi hi=>by
   have:=List.pairwise_iff_getElem.1 hs i (i+1) Ω hi Ω;rw[xc6,xc6,xc7 Ω,xc7 hi];simpa using this)
 unfold I;repeat' first|refine sD ?_ ?_<;>intro _|refine aAc ?_|simp -dsimp only[↓RP,RQ,seval,TYQ,TYP,NB,QS,hr0,TYR,TYS,QT,QN]
 all_goals try exact Ωa
 refine callN h359 (by simp only[SubL,lls,Go.Sx.Sub,qqu,xe1,imp_self,and_self,implies_true,true_and,and_true]) (by simp[FreshO]) Ωak ?_;repeat' first|refine sD ?_ ?_<;>intro _|refine aAc ?_|simp -dsimp only[↓RP,RQ,seval,TYQ,TYP,NB,QS,hr0,TYR,TYS,QT,QN]
 all_goals try exact Ωa
 refine qk (h273) (by simp only[SubL,qA,I,Go.Sx.Sub,blk,if_true,true_and,and_true];exact⟨xa5 _,λ_ _ _ _=>trivial⟩) (by simp[Fresh,FreshL]) ?_;repeat' first|refine sD ?_ ?_<;>intro _|refine aAc ?_|simp -dsimp only[↓RP,RQ,seval,TYQ,TYP,NB,QS,hr0,TYR,TYS,QT,QN]
 all_goals try exact Ωa
 refine⟨4,.rows 3 1 gr.length (λi _=>.val (.int .i64 (gr.getD i 0:Nat))),by simp[blk],?_,?_⟩
 ·simp only[SubB,true_and]
  exact⟨xa5 _,λi j hi hj=>by simp only[Go.Sx.Sub]⟩
 ·simp[SubO]
end Go.Tn
end
section
namespace Go.Sx
open Go.RowKit
section
variable{P:Program}
def qeL(P:Program)(G:Nat→SV)(H:List (Nat×Blk))(res:Nat→SV):Nat→List Oper→Prop
 |_,[]=>True
 |i,o :: l=>(∀F:Nat→SV,(∀t,t∈zM o→F t=G t)→PureAt P F H o.op (res i))∧qeL P G H res (i+1) l
theorem VK{G:Nat→SV}{H:List (Nat×Blk)}{res:Nat→SV}:∀{l:List Oper}{k i:Nat}{o:Oper},qeL P G H res k l→l[i]? = some o→∀F:Nat→SV,(∀t,t∈zM o→F t=G t)→PureAt P F H o.op (res (k+i))
 |o' :: l,k,0,o,h,ho=>by
  simp only[xd6,Option.some.injEq]at ho;subst ho;exact h.1
 |o' :: l,k,i+1,o,h,ho=>by
  simp only[xd7]at ho;have:=VK h.2 ho;rw[show k+1+i=k+(i+1) by omega]at this;exact this
 |[],k,i,o,h,ho=>by simp at ho
theorem qcG(hm:P.follows .mixedOrders=true){O:Ctx}{st:St}{K:Ex→St→Prop}{id:Nat}{l:List Oper}(hc:qch l)(hg:l.all (λo=>o.guard.isNone)=true)(res:Nat→SV)
  (hp:qeL P (FS (nth (dsts l)) res (λ_=>true) (look st.fr) l.length) st.hp res 0 l)
  (fr2:List (Nat×SV)) (h2:∀fr,(∀t,look fr t=FS (nth (dsts l)) res (λ_=>true) (look st.fr) l.length t)→zk fr fr2)
  (hK:K .normal ⟨fr2,st.hp,st.nid+l.length⟩) {g:Tag K}:jm P O id l true st K g:=by
 refine wr hm (λm st'=>(∀t,look st'.fr t=FS (nth (dsts l)) res (λi=>m.testBit i) (look st.fr) l.length t)∧st'.hp=st.hp∧st'.nid≤st.nid+kc (λi=>m.testBit i) l.length) rfl hc.edges (Weak.refl _ _) ?_ ?_ ?_
 ·exact⟨λt=>(WC λj _=>xb3 j).symm,rfl,Ω⟩
 ·refine vd λi o ho=>?_
  rw[xb0];rintro m st1 ⟨hf,hH,hnid⟩ hcl hbit hanc;have hi:i<l.length:=(List.getElem?_eq_some_iff.1 ho).1;have anc:∀e,((zb [] l).getD i 0).testBit e=true→m.testBit e=true:=λe h=>hanc e h (by have:=hc.lt i e hi h;omega);have hops:∀t,t∈zM o→look st1.fr t=FS (nth (dsts l)) res (λ_=>true) (look st.fr) l.length t:=λt ht=>by
   rw[hf];exact wv λx hx hxt=>anc x (hc.ops i o t x ho ht hx hxt)
  have hdst:nth (dsts l) i=o.dst:=by rw[zy,ho];rfl
  have frs:∀fr:List (Nat×SV),(∀t,look fr t=look (st1.put o.dst (res i)).fr t)→∀t,look fr t=FS (nth (dsts l)) res (λx=>(m ||| 2^i).testBit x) (look st.fr) l.length t:=λfr hfr t=>by
   rw[qcg (S:=λx=>m.testBit x) (i:=i) (λx=>tb m i x) hi λx hx hxi h1 h2=>?_,hdst,←hf,hfr,gM];by_cases c:x<i
   ·exact hc.dist i x t c hi h1 h2
   ·exact hc.dist x i t Ω hx h2 h1
  have done:kc (λx=>(m ||| 2^i).testBit x) l.length=kc (λx=>m.testBit x) l.length+1:=by
   rw[WA (e:=λx=>m.testBit x) (i:=i) (λx hx=>by show(m ||| 2^i).testBit x=_;rw[tb];simp;intro e;exact absurd e.symm hx) hbit,if_pos ⟨hi,by show(m ||| 2^i).testBit i=true;rw[tb];simp⟩]
  have hgrd:Grd l (look st1.fr) o false:=by
   unfold Grd;have h3:=List.all_eq_true.1 hg o (List.mem_of_getElem? ho);cases e:o.guard with
   |none=>rfl
   |some p=>rw[e]at h3;cases h3
  refine⟨st1,Weak.refl _ _,?_⟩;have fin:∀(st2 st3:St),(∀t,look st2.fr t=look st1.fr t)→(∀t,look st3.fr t=look (st2.put o.dst (res i)).fr t)→st3.hp=st.hp→st3.nid≤st1.nid+1→∃st4,Weak O st3 st4∧(∀t,look st4.fr t=FS (nth (dsts l)) res (λx=>(m ||| 2^i).testBit x) (look st.fr) l.length t)∧st4.hp=st.hp∧st4.nid≤st.nid+kc (λx=>(m ||| 2^i).testBit x) l.length:=by
   intro st2 st3 h2 h3 hH3 hn3;refine⟨st3,Weak.refl _ _,frs _ λt=>?_,hH3,?_⟩
   ·rw[h3,gM,gM,h2]
   ·rw[done];omega
  refine G8 hgrd (λhs st2 h2 h2h h2n=>?_) (λhs=>by cases hs);have h1:=VK hp ho (look st2.fr) (λt ht=>by rw[h2,hops t ht]);rw[xb0]at h1;rw[show st.hp=st2.hp by rw[h2h,hH]]at h1;have f2:=fin st2 ⟨inD o.dst (st2.put o.dst (res i)).fr,(st2.put o.dst (res i)).hp,(st2.put o.dst (res i)).nid+1⟩ h2 (λt=>gy _ _ _) (by rw[zj,h2h];exact hH) (by rw[qx];show st2.nid+1≤_;omega);rcases h1 with(⟨obl,e,h⟩|⟨obl,e,h⟩)|⟨hnd,h⟩
  ·rw[e];exact .inl ⟨h,f2⟩
  ·rw[e];exact .inl ⟨_,h,f2⟩
  ·refine .inr ⟨hnd,(h O st2 (λt _=>rfl) rfl).mono ?_⟩
   rintro st' res' ⟨rfl,rfl⟩;exact fin st' _ h2 (λt=>ww _ _ _ _) (by rw[wx,h2h];exact hH) (by rw[kC];omega)
 ·rintro m st1 ⟨hf,hH,hnid⟩ hall
  have:=qdT (e:=λi=>m.testBit i) (n:=l.length);refine⟨⟨fr2,st.hp,st.nid+l.length⟩,Go.Tn.weakSU Ω (h2 _ λt=>?_) (by rw[hH];exact SubHp.refl _),hK⟩;rw[hf];exact wv λx hx _=>hall x hx
end
end Go.Sx
end
section
namespace Go.Tn
open Go.Sx
variable{f q:Nat→Int}{nb w:Nat}{gr:Nat→Nat}
def bD(f q:Nat→Int)(nb:Nat)(gr:Nat→Nat):Nat→Value→Bool
 |0=>λ_=>false
 |w+1=>if cF f q nb (gr w:Nat)=0 then kg (qy (bD f q nb gr w) (ks (gr w:Nat) (-1))) (ks (gr w:Nat) (-1))else qy (bD f q nb gr w) (ks (gr w:Nat) (-1))
def bG(f q:Nat→Int)(nb:Nat)(gr:Nat→Nat):Nat→Value→SV
 |0=>λ_=>.top
 |w+1=>qz (bG f q nb gr w) (ks (gr w:Nat) (-1)) (.val (.int .i64 (cF f q nb (gr w:Nat))))
theorem eqK_ksv{a b:Int}{v:Value}:eqK (ks a b) v=true↔v=ks a b:=by
 constructor
 ·intro h;exact(zx h).symm
 ·rintro rfl;simp[eqK,ks,jz,vW]
theorem qkm(h:cF f q nb (gr w:Nat)=0):bD f q nb gr (w+1)=kg (qy (bD f q nb gr w) (ks (gr w:Nat) (-1))) (ks (gr w:Nat) (-1)):=by simp only[bD];rw[if_pos h]
theorem WW(h:¬cF f q nb (gr w:Nat)=0):bD f q nb gr (w+1)=qy (bD f q nb gr w) (ks (gr w:Nat) (-1)):=by simp only[bD];rw[if_neg h]
theorem qmN:bG f q nb gr (w+1)=qz (bG f q nb gr w) (ks (gr w:Nat) (-1)) (.val (.int .i64 (cF f q nb (gr w:Nat)))):=rfl
theorem KU(f q:Nat→Int)(nb:Nat)(gr:Nat→Nat)(v:Value):∀w,bD f q nb gr w v=true→∃i,i<w∧v=ks (gr i:Nat) (-1)∧¬cF f q nb (gr i:Nat)=0∧bG f q nb gr w v=.val (.int .i64 (cF f q nb (gr i:Nat)))
 |0,h=>by simp[bD]at h
 |w+1,h=>by
  have old:eqK (ks (gr w:Nat) (-1)) v=false→bD f q nb gr w v=true→∃i,i<w+1∧v=ks (gr i:Nat) (-1)∧¬cF f q nb (gr i:Nat)=0∧bG f q nb gr (w+1) v=.val (.int .i64 (cF f q nb (gr i:Nat))):=λh1 h2=>by
   obtain⟨i,q1,q2,q3,q4⟩:=KU f q nb gr v w h2;refine⟨i,Ω,q2,q3,?_⟩;rw[qmN];simp only[qz,h1,svIte];rw[if_neg Ωr];exact q4
  by_cases c:cF f q nb (gr w:Nat)=0
  ·rw[qkm c]at h
   simp only[kg,qy,xe6,Bool.not_eq_true',xe8]at h;rcases h with⟨h1,h2⟩;rcases h2 with h2|h2
   ·rw[h1]at h2;cases h2
   ·exact old h1 h2
  ·rw[WW c]at h
   cases e:eqK (ks (gr w:Nat) (-1)) v with
   |true=>
    refine⟨w,Ω,eqK_ksv.1 e,c,?_⟩;rw[qmN];simp only[qz,e,svIte];rw[if_pos trivial]
   |false=>
    simp only[qy,e,xf4]at h;exact old e h
theorem qaP(f q:Nat→Int)(nb:Nat)(gr:Nat→Nat)(i:Nat)(hi:¬cF f q nb (gr i:Nat)=0):∀w,i<w→bD f q nb gr w (ks (gr i:Nat) (-1))=true
 |0,h=>by omega
 |w+1,h=>by
  by_cases e:gr w=gr i
  ·have c:¬cF f q nb (gr w:Nat)=0:=by rw[e];exact hi
   rw[WW c,e];simp only[qy,xe8];exact .inl (eqK_ksv.2 rfl)
  ·have ih:=qaP f q nb gr i hi w (by
    by_cases c:i=w
    ·subst c;exact absurd rfl e
    ·omega)
   have ne:eqK (ks (gr w:Nat) (-1)) (ks (gr i:Nat) (-1))=false:=by
    cases hb:eqK (ks (gr w:Nat) (-1)) (ks (gr i:Nat) (-1))with
    |false=>rfl
    |true=>have:=(eqK_ks.1 hb).1;exact absurd Ω e
   by_cases c:cF f q nb (gr w:Nat)=0
   ·rw[qkm c]
    simp only[kg,qy,ne,ih,Bool.not_false,Bool.or_true,xf1]
   ·rw[WW c]
    simp only[qy,ih,Bool.or_true]
def dvl(f q:Nat→Int)(nb:Nat)(gr:Nat→Nat):Nat→List Nat
 |0=>[]
 |w+1=>if cF f q nb (gr w:Nat)=0 then dvl f q nb gr w else dvl f q nb gr w++[gr w]
theorem QM(h:cF f q nb (gr w:Nat)=0):dvl f q nb gr (w+1)=dvl f q nb gr w:=by simp only[dvl];rw[if_pos h]
theorem yV(h:¬cF f q nb (gr w:Nat)=0):dvl f q nb gr (w+1)=dvl f q nb gr w++[gr w]:=by simp only[dvl];rw[if_neg h]
theorem yW(f q:Nat→Int)(nb:Nat)(gr:Nat→Nat)(r:Nat):∀w,r∈dvl f q nb gr w↔∃i,i<w∧gr i=r∧¬cF f q nb (r:Nat)=0
 |0=>by simp[dvl]
 |w+1=>by
  have ih:=yW f q nb gr r w;by_cases c:cF f q nb (gr w:Nat)=0
  ·rw[QM c,ih]
   constructor
   ·rintro⟨i,h1,h2,h3⟩;exact⟨i,Ω,h2,h3⟩
   ·rintro⟨i,h1,h2,h3⟩
    by_cases e:i=w
    ·subst e;rw[h2]at c;exact absurd c h3
    ·exact⟨i,Ω,h2,h3⟩
  ·rw[yV c,xd4,xe0,ih]
   constructor
   ·rintro(⟨i,h1,h2,h3⟩|rfl)
    ·exact⟨i,Ω,h2,h3⟩
    ·exact⟨w,Ω,rfl,c⟩
   ·rintro⟨i,h1,h2,h3⟩
    by_cases e:i=w
    ·subst e;exact .inr h2.symm
    ·exact .inl ⟨i,Ω,h2,h3⟩
theorem KV(f q:Nat→Int)(nb:Nat)(gr:Nat→Nat):∀w,(dvl f q nb gr w).length≤w
 |0=>xa5 _
 |w+1=>by
  have ih:=KV f q nb gr w;by_cases c:cF f q nb (gr w:Nat)=0
  ·rw[QM c];omega
  ·rw[yV c,xc8,xd1];omega
theorem VL(f q:Nat→Int)(nb:Nat)(gr:Nat→Nat):∀w,(∀i j,i<j→j<w→gr i≠gr j)→(dvl f q nb gr w).Nodup
 |0,_=>List.nodup_nil
 |w+1,h=>by
  have ih:=VL f q nb gr w λi j h1 h2=>h i j h1 Ω;by_cases c:cF f q nb (gr w:Nat)=0
  ·rw[QM c];exact ih
  ·rw[yV c,List.nodup_append]
   refine⟨ih,Ωg,λa ha b hb e=>?_⟩;rw[xe0]at hb;obtain⟨i,h1,h2,_⟩:=(yW f q nb gr a w).1 ha;exact h i w h1 Ω (by rw[h2,e,hb])
theorem qcH{a b:Nat}(h:ks (a:Nat) (-1)=ks (b:Nat) (-1)):a=b:=by
 have:=(eqK_ks (a:=(a:Nat)) (b:=-1) (c:=(b:Nat)) (d:=-1)).1 (by rw[h];exact eqK_ksv.2 rfl);omega
theorem qeM(f q:Nat→Int)(nb:Nat)(gr:Nat→Nat)(w:Nat)(k:Value):bD f q nb gr w k=true↔k∈(dvl f q nb gr w).map (λr:Nat=>ks (r:Nat) (-1)):=by
 rw[List.mem_map];constructor
 ·intro h
  obtain⟨i,h1,h2,h3,_⟩:=KU f q nb gr k w h;exact⟨gr i,(yW f q nb gr _ w).2 ⟨i,h1,rfl,h3⟩,h2.symm⟩
 ·rintro⟨r,h1,rfl⟩
  obtain⟨i,h2,rfl,h3⟩:=(yW f q nb gr r w).1 h1;exact qaP f q nb gr i h3 w h2
theorem Jv(h:∀i j,i<j→j<w→gr i≠gr j):((dvl f q nb gr w).map (λr:Nat=>ks (r:Nat) (-1))).Nodup:=
 List.Pairwise.map _ (λa b hab e=>hab (qcH e)) (VL f q nb gr w h)
theorem qnL{i:Nat}(hi:i<w)(hc:¬cF f q nb (gr i:Nat)=0):bG f q nb gr w (ks (gr i:Nat) (-1))=.val (.int .i64 (cF f q nb (gr i:Nat))):=by
 obtain⟨j,h1,h2,h3,h4⟩:=KU f q nb gr _ w (qaP f q nb gr i hc w hi);rw[h4,qcH h2]
theorem qkn{i:Nat}(hc:cF f q nb (gr i:Nat)=0):bD f q nb gr w (ks (gr i:Nat) (-1))=false:=by
 cases h:bD f q nb gr w (ks (gr i:Nat) (-1))with
 |false=>rfl
 |true=>
  obtain⟨j,h1,h2,h3,h4⟩:=KU f q nb gr _ w h;rw[←qcH h2]at h3;exact absurd hc h3
end Go.Tn
end
section
namespace Go.Tn
open Go.Proofs
open Go.RowKit
open Go.Sx
theorem qsd(p:String):G7 [{ dst:=some 43,op:=Op.load 160 (Operand.tmp 2),type:=160,pos:=p,after:=#[],guard:=none },{ dst:=some 44,op:=Op.nilCheck (Operand.tmp 43),type:=0,pos:=p,after:=#[{ on:=0,ground:=Ground.data }],guard:=none },{ dst:=some 45,op:=Op.fieldAddr 167 (Operand.tmp 44) 3,type:=0,pos:=p,after:=#[{ on:=1,ground:=Ground.data }],guard:=none },{ dst:=some 46,op:=Op.fieldAddr 57 (Operand.tmp 45) 5,type:=0,pos:=p,after:=#[{ on:=2,ground:=Ground.data }],guard:=none },{ dst:=some 47,op:=Op.load 2 (Operand.tmp 46),type:=2,pos:=p,after:=#[{ on:=3,ground:=Ground.data }],guard:=none },{ dst:=some 48,op:=Op.load 165 (Operand.tmp 5),type:=165,pos:=p,after:=#[],guard:=none },{ dst:=some 49,op:=Op.call { callee:=Callee.builtin Builtin.len,args:=#[Operand.tmp 48],argTypes:=#[165] },type:=3,pos:=p,after:=#[{ on:=5,ground:=Ground.data }],guard:=none },{ dst:=some 50,op:=Op.binOp BinOp.quo 2 (Operand.tmp 47) (Operand.tmp 49) 2,type:=2,pos:=p,after:=#[{ on:=4,ground:=Ground.data },{ on:=6,ground:=Ground.data }],guard:=none },{ dst:=some 11,op:=Op.assign (Operand.tmp 50),type:=2,pos:=p,after:=#[{ on:=7,ground:=Ground.data },{ on:=6,ground:=Ground.chain },{ on:=0,ground:=Ground.phase },{ on:=1,ground:=Ground.phase },{ on:=2,ground:=Ground.phase },{ on:=3,ground:=Ground.phase },{ on:=4,ground:=Ground.phase },{ on:=5,ground:=Ground.phase },{ on:=6,ground:=Ground.phase },{ on:=7,ground:=Ground.phase }],guard:=none }]=true:=by kernel_rfl
theorem qnM{O:Ctx}{p:String}{fr:List (Nat×SV)}{hp:List (Nat×Blk)}{nid id0 tid mid oid p8 id:Nat}{K:Ex→St→Prop}{g:Tag K}{n:Int}{nb:Nat}{f q:Nat→Int}{fav:Bool}{c d st:Int}{fv:Int}{M:SV}{x9 a0 a1 a2 a3 a4 a5:Int}{dom:Value→Bool}{get:Value→SV}{L:List Value}
  (h2:Go.Sx.look fr 2=.ptr id 0) (h5:Go.Sx.look fr 5=.ptr (id+3) 0) (h7:Go.Sx.look fr 7=.ptr oid 0) (h8:Go.Sx.look fr 8=.ptr p8 0) (h9:Go.Sx.look fr 9=.val (.int .i64 x9))
  (hb:blk hp id=some (.cells 160 [.ptr tid 0])) (hb3:blk hp (id+3)=some (.cells 165 [.mp (id+2)])) (hbt:blk hp tid=some (.cells 167 (tlL n nb f q fav c d st fv M a0 a1 a2 a3 a4 a5))) (hbm:blk hp (id+2)=some (.map (qi true [.i .i64,.i .i64]) dom get))
  (hn:L.Nodup) (hL:∀k,dom k=true↔k∈L) (h1:1≤L.length) (h88:L.length≤8) (ha:0≤a5∧a5≤100000000) (hq:0≤Int.tdiv a5 (L.length:Nat)∧Int.tdiv a5 (L.length:Nat)≤100000000)
  (hK:K .normal ⟨[(11,.val (.int .i64 (Int.tdiv a5 (L.length:Nat)))),(2,.ptr id 0),(5,.ptr (id+3) 0),(7,.ptr oid 0),(8,.ptr p8 0),(9,.val (.int .i64 x9))],hp,nid+9⟩) :
  jm Tryz.prog O id0 [{ dst:=some 43,op:=Op.load 160 (Operand.tmp 2),type:=160,pos:=p,after:=#[],guard:=none },{ dst:=some 44,op:=Op.nilCheck (Operand.tmp 43),type:=0,pos:=p,after:=#[{ on:=0,ground:=Ground.data }],guard:=none },{ dst:=some 45,op:=Op.fieldAddr 167 (Operand.tmp 44) 3,type:=0,pos:=p,after:=#[{ on:=1,ground:=Ground.data }],guard:=none },{ dst:=some 46,op:=Op.fieldAddr 57 (Operand.tmp 45) 5,type:=0,pos:=p,after:=#[{ on:=2,ground:=Ground.data }],guard:=none },{ dst:=some 47,op:=Op.load 2 (Operand.tmp 46),type:=2,pos:=p,after:=#[{ on:=3,ground:=Ground.data }],guard:=none },{ dst:=some 48,op:=Op.load 165 (Operand.tmp 5),type:=165,pos:=p,after:=#[],guard:=none },{ dst:=some 49,op:=Op.call { callee:=Callee.builtin Builtin.len,args:=#[Operand.tmp 48],argTypes:=#[165] },type:=3,pos:=p,after:=#[{ on:=5,ground:=Ground.data }],guard:=none },{ dst:=some 50,op:=Op.binOp BinOp.quo 2 (Operand.tmp 47) (Operand.tmp 49) 2,type:=2,pos:=p,after:=#[{ on:=4,ground:=Ground.data },{ on:=6,ground:=Ground.data }],guard:=none },{ dst:=some 11,op:=Op.assign (Operand.tmp 50),type:=2,pos:=p,after:=#[{ on:=7,ground:=Ground.data },{ on:=6,ground:=Ground.chain },{ on:=0,ground:=Ground.phase },{ on:=1,ground:=Ground.phase },{ on:=2,ground:=Ground.phase },{ on:=3,ground:=Ground.phase },{ on:=4,ground:=Ground.phase },{ on:=5,ground:=Ground.phase },{ on:=6,ground:=Ground.phase },{ on:=7,ground:=Ground.phase }],guard:=none }] true ⟨fr,hp,nid⟩ K g:=by
 refine qcG follows (Vr (qsd p)) Ωs (λi=>([.ptr tid 0,.ptr tid 0,.ptr tid 10,.ptr tid 15,.val (.int .i64 a5),.mp (id+2),.val (.int .i64 (L.length:Nat)),.val (.int .i64 (Int.tdiv a5 (L.length:Nat))),.val (.int .i64 (Int.tdiv a5 (L.length:Nat)))]:List SV).getD i .top) ?_ _ ?_ hK
 ·have G2:FS (nth (dsts [{ dst:=some 43,op:=Op.load 160 (Operand.tmp 2),type:=160,pos:=p,after:=#[],guard:=none },{ dst:=some 44,op:=Op.nilCheck (Operand.tmp 43),type:=0,pos:=p,after:=#[{ on:=0,ground:=Ground.data }],guard:=none },{ dst:=some 45,op:=Op.fieldAddr 167 (Operand.tmp 44) 3,type:=0,pos:=p,after:=#[{ on:=1,ground:=Ground.data }],guard:=none },{ dst:=some 46,op:=Op.fieldAddr 57 (Operand.tmp 45) 5,type:=0,pos:=p,after:=#[{ on:=2,ground:=Ground.data }],guard:=none },{ dst:=some 47,op:=Op.load 2 (Operand.tmp 46),type:=2,pos:=p,after:=#[{ on:=3,ground:=Ground.data }],guard:=none },{ dst:=some 48,op:=Op.load 165 (Operand.tmp 5),type:=165,pos:=p,after:=#[],guard:=none },{ dst:=some 49,op:=Op.call { callee:=Callee.builtin Builtin.len,args:=#[Operand.tmp 48],argTypes:=#[165] },type:=3,pos:=p,after:=#[{ on:=5,ground:=Ground.data }],guard:=none },{ dst:=some 50,op:=Op.binOp BinOp.quo 2 (Operand.tmp 47) (Operand.tmp 49) 2,type:=2,pos:=p,after:=#[{ on:=4,ground:=Ground.data },{ on:=6,ground:=Ground.data }],guard:=none },{ dst:=some 11,op:=Op.assign (Operand.tmp 50),type:=2,pos:=p,after:=#[{ on:=7,ground:=Ground.data },{ on:=6,ground:=Ground.chain },{ on:=0,ground:=Ground.phase },{ on:=1,ground:=Ground.phase },{ on:=2,ground:=Ground.phase },{ on:=3,ground:=Ground.phase },{ on:=4,ground:=Ground.phase },{ on:=5,ground:=Ground.phase },{ on:=6,ground:=Ground.phase },{ on:=7,ground:=Ground.phase }],guard:=none }])) (λi=>([.ptr tid 0,.ptr tid 0,.ptr tid 10,.ptr tid 15,.val (.int .i64 a5),.mp (id+2),.val (.int .i64 (L.length:Nat)),.val (.int .i64 (Int.tdiv a5 (L.length:Nat))),.val (.int .i64 (Int.tdiv a5 (L.length:Nat)))]:List SV).getD i .top) (λ_=>true) (Go.Sx.look fr) 9 2=.ptr id 0:=by
   rw[←h2];simp[FS,nth,dsts]
  simp only[qeL];refine⟨λF hF=>?_,λF hF=>?_,λF hF=>?_,λF hF=>?_,λF hF=>?_,λF hF=>?_,λF hF=>?_,λF hF=>?_,λF hF=>?_,trivial⟩
  ·have e:=hF 2 ΩG
   simp[FS,nth,dsts,h2]at e;refine .inl ?_;(simp -dsimp only[↓RP,RQ,seval,e,hb,QV,TY,TYR,TYP,TYQ])
   first|exact .inl ⟨_,rfl,trivial⟩|exact .inr ⟨_,rfl,rfl⟩|exact .inl ⟨_,rfl,Ωg⟩
  ·have e:=hF 43 ΩG
   simp[FS,nth,dsts]at e;refine .inl ?_;(simp -dsimp only[↓RP,RQ,seval,e,QV,TY,TYR,TYP,TYQ])
   first|exact .inl ⟨_,rfl,trivial⟩|exact .inr ⟨_,rfl,rfl⟩|exact .inl ⟨_,rfl,Ωg⟩
  ·have e:=hF 44 ΩG
   simp[FS,nth,dsts]at e;refine .inl ?_;(simp -dsimp only[↓RP,RQ,seval,e,QV,TY,TYR,TYP,TYQ])
   first|exact .inl ⟨_,rfl,trivial⟩|exact .inr ⟨_,rfl,rfl⟩|exact .inl ⟨_,rfl,Ωg⟩
  ·have e:=hF 45 ΩG
   simp[FS,nth,dsts]at e;refine .inl ?_;(simp -dsimp only[↓RP,RQ,seval,e,QV,TY,TYR,TYP,TYQ])
   first|exact .inl ⟨_,rfl,trivial⟩|exact .inr ⟨_,rfl,rfl⟩|exact .inl ⟨_,rfl,Ωg⟩
  ·have e:=hF 46 ΩG
   simp[FS,nth,dsts]at e;refine .inl ?_;(simp -dsimp only[↓RP,RQ,seval,e,hbt,tlL,QV,TY,TYR,TYP,TYQ])
   first|exact .inl ⟨_,rfl,trivial⟩|exact .inr ⟨_,rfl,rfl⟩|exact .inl ⟨_,rfl,Ωg⟩
  ·have e:=hF 5 ΩG
   simp[FS,nth,dsts,h5]at e;refine .inl ?_;(simp -dsimp only[↓RP,RQ,seval,e,hb3,QV,TY,TYR,TYP,TYQ])
   first|exact .inl ⟨_,rfl,trivial⟩|exact .inr ⟨_,rfl,rfl⟩|exact .inl ⟨_,rfl,Ωg⟩
  ·refine .inr ⟨rfl,λO st hst hh=>?_⟩
   have e:=hF 48 (by simp[zM,Op.operands,Call.operands]);have e2:=hst 48 Ωh;simp[FS,nth,dsts]at e;rw[e]at e2;exact(Vs (id:=id+2) (x:=.tmp 48) (st:=st) TYR.2.2.1 (by simp only[env];exact e2) (by rw[hh];exact hbm) hn hL).mono λst' res h=>h
  ·have e:=hF 47 ΩG
   have e2:=hF 49 ΩG;simp[FS,nth,dsts]at e e2;refine .inl ?_;have hl0:(L.length:Int)≠0:=by omega
   (simp -dsimp only[↓RP,RQ,seval,e,e2,QV,TY,TYR,TYP]);exact .inl ⟨_,rfl,by simp only[InK];omega⟩
  ·have e:=hF 50 ΩG
   simp[FS,nth,dsts]at e;refine .inl ?_;(simp -dsimp only[↓RP,RQ,seval,e,QV,TY,TYR,TYP,TYQ])
   first|exact .inl ⟨_,rfl,trivial⟩|exact .inr ⟨_,rfl,rfl⟩|exact .inl ⟨_,rfl,Ωg⟩
 ·intro fr' h
  simp[zk,h,FS,nth,dsts,h2,h5,h7,h8,h9]
end Go.Tn
end
