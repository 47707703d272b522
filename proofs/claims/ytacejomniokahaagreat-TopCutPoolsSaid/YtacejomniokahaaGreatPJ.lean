/- A part of the proof. -/
import Derived.Test.YtacejomniokahaaGreatPI
import Derived.Test.YtacejomniokahaaGreatPG
import Derived.Test.YtacejomniokahaaGreatPE
open Nat renaming le_refl→xa5,zero_add→xb0,zero_testBit→xb3
open List renaming getD_eq_getElem?_getD→xc6,getElem?_eq_getElem→xc7,length_append→xc8,length_singleton→xd1,mem_append→xd4,getElem?_cons_zero→xd6,getElem?_cons_succ→xd7,mem_singleton→xe0,length_map→xe1
open Bool renaming and_eq_true→xe6,or_eq_true→xe8,and_true→xf1,false_or→xf4
open Go.Sx.SV renaming val→Ψ
open Go.Value renaming int→Φ
open Go.IntKind renaming i64→Γ
set_option linter.unusedVariables false
set_option linter.unusedSimpArgs false
set_option linter.defProp false
set_option maxRecDepth 1000000
set_option maxHeartbeats 16000000
section
namespace Go.Sx
open Go.Proofs
open Go.RowKit Go.Tn
noncomputable section
def qsa:Bool:=z8 (jv (gR Tryz.prog X0) 1000 Tryz.f352 ((zs flT 352).getD []) [.val (.int .u64 1)] (gn (Ψ (Φ Γ 1))))
theorem qmQ:qsa=true:=by kernel_rfl
theorem qsb:qf Tryz.prog 352 [.val (.int .u64 1)] (Ψ (Φ Γ 1)):=qI follows X0_ok Tryz.func352 (L:=(zs flT 352).getD []) rfl 1000 ΩQ ΩK qmQ
def qsc:Bool:=z8 (jv (gR Tryz.prog X0) 1000 Tryz.f352 ((zs flT 352).getD []) [.val (.int .u64 2)] (gn (Ψ (Φ Γ 2))))
theorem qmR:qsc=true:=by kernel_rfl
theorem qsd:qf Tryz.prog 352 [.val (.int .u64 2)] (Ψ (Φ Γ 2)):=qI follows X0_ok Tryz.func352 (L:=(zs flT 352).getD []) rfl 1000 ΩQ ΩK qmR
def qse:Bool:=z8 (jv (gR Tryz.prog X0) 1000 Tryz.f352 ((zs flT 352).getD []) [.val (.int .u64 3)] (gn (Ψ (Φ Γ 2))))
theorem qmS:qse=true:=by kernel_rfl
theorem qsf:qf Tryz.prog 352 [.val (.int .u64 3)] (Ψ (Φ Γ 2)):=qI follows X0_ok Tryz.func352 (L:=(zs flT 352).getD []) rfl 1000 ΩQ ΩK qmS
def qsg:Bool:=z8 (jv (gR Tryz.prog X0) 1000 Tryz.f352 ((zs flT 352).getD []) [.val (.int .u64 4)] (gn (Ψ (Φ Γ 3))))
theorem qmT:qsg=true:=by kernel_rfl
theorem qsh:qf Tryz.prog 352 [.val (.int .u64 4)] (Ψ (Φ Γ 3)):=qI follows X0_ok Tryz.func352 (L:=(zs flT 352).getD []) rfl 1000 ΩQ ΩK qmT
def qsi:Bool:=z8 (jv (gR Tryz.prog X0) 1000 Tryz.f352 ((zs flT 352).getD []) [.val (.int .u64 5)] (gn (Ψ (Φ Γ 3))))
theorem qmU:qsi=true:=by kernel_rfl
theorem qsj:qf Tryz.prog 352 [.val (.int .u64 5)] (Ψ (Φ Γ 3)):=qI follows X0_ok Tryz.func352 (L:=(zs flT 352).getD []) rfl 1000 ΩQ ΩK qmU
def qsk:Bool:=z8 (jv (gR Tryz.prog X0) 1000 Tryz.f352 ((zs flT 352).getD []) [.val (.int .u64 6)] (gn (Ψ (Φ Γ 3))))
theorem qmV:qsk=true:=by kernel_rfl
theorem qsl:qf Tryz.prog 352 [.val (.int .u64 6)] (Ψ (Φ Γ 3)):=qI follows X0_ok Tryz.func352 (L:=(zs flT 352).getD []) rfl 1000 ΩQ ΩK qmV
def qsm:Bool:=z8 (jv (gR Tryz.prog X0) 1000 Tryz.f352 ((zs flT 352).getD []) [.val (.int .u64 7)] (gn (Ψ (Φ Γ 3))))
theorem qmW:qsm=true:=by kernel_rfl
theorem qsn:qf Tryz.prog 352 [.val (.int .u64 7)] (Ψ (Φ Γ 3)):=qI follows X0_ok Tryz.func352 (L:=(zs flT 352).getD []) rfl 1000 ΩQ ΩK qmW
def qso:Bool:=z8 (jv (gR Tryz.prog X0) 1000 Tryz.f352 ((zs flT 352).getD []) [.val (.int .u64 8)] (gn (Ψ (Φ Γ 4))))
theorem qmX:qso=true:=by kernel_rfl
theorem qsp:qf Tryz.prog 352 [.val (.int .u64 8)] (Ψ (Φ Γ 4)):=qI follows X0_ok Tryz.func352 (L:=(zs flT 352).getD []) rfl 1000 ΩQ ΩK qmX
theorem c352(k:Nat)(h1:1≤k)(h8:k≤8):∃v:Int,qf Tryz.prog 352 [.val (.int .u64 k)] (Ψ (Φ Γ v)):=by
 have:k=1∨k=2∨k=3∨k=4∨k=5∨k=6∨k=7∨k=8:=by omega
 rcases this with rfl|rfl|rfl|rfl|rfl|rfl|rfl|rfl
 ·exact⟨_,qsb⟩
 ·exact⟨_,qsd⟩
 ·exact⟨_,qsf⟩
 ·exact⟨_,qsh⟩
 ·exact⟨_,qsj⟩
 ·exact⟨_,qsl⟩
 ·exact⟨_,qsn⟩
 ·exact⟨_,qsp⟩
end
end Go.Sx
end
section
namespace Go.Tn
open Go.Proofs
open Go.Sx
theorem TYS:True∧qn Tryz.prog 461=some ⟨false,1,some [.int .u64 0],.int .u64⟩:=⟨trivial,Ωb⟩
theorem qsq(m:Nat)(u:Nat→Int)(h1:1≤m)(hm:m≤8)(hu:∀i,i+1<m→u i<u (i+1))(v:Int):qf Tryz.prog 351 [qE m u,I 0,I m,I v] (.tup []):=by
 refine qg Tryz.func351 rfl Ωb follows Ωb _ _ (by rw[Tryz.ntmps351];simp) Ωf ?_;have NB:True:=trivial;have hr0:True:=trivial;have h383:=qrR m u h1 Ω hu;have dl:=decide_eq_true (Ω:((m:Nat):Int) - 0≤12);unfold qE I;(repeat' first|refine sD ?_ ?_<;>intro _|refine aAc ?_|simp -dsimp only[↓RP,RQ,seval,TYz,NB,QÀ,hr0,TYR,TYS]);refine qp (λ(_:Unit)=>True) (λ_=>⟨[(0,.arr false false m 1 (λi _=>Ψ (Φ Γ (u i)))),(1,Ψ (Φ Γ 0)),(2,Ψ (Φ Γ (m:Nat)))],[],20⟩) (λ_=>0) () trivial (weakSU Ω Ωd (SubHp.refl _)) λz hz=>?_;repeat' first|refine sD ?_ ?_<;>intro _|refine aAc ?_|simp -dsimp only[↓RP,RQ,seval,dl,Int.sub_zero,TYz,NB,QÀ,hr0,TYR,TYS]
 all_goals try exact ΩB
 refine qk (h383) (by(simp -dsimp only[↓RP,RQ,seval,QV,qE,I]);all_goals (try simp[QV,Go.Sx.Sub,Go.Sx.SubL])) Ωa ?_;repeat' first|refine sD ?_ ?_<;>intro _|refine aAc ?_|simp -dsimp only[↓RP,RQ,seval,QÀ,TYz,NB,hr0,TYR,TYS]
theorem qsr(m:Nat)(u:Nat→Int)(h1:1≤m)(hm:m≤8)(hu:∀i,i+1<m→u i<u (i+1)):qf Tryz.prog 273 [qE m u] (.tup []):=by
 refine qg Tryz.func273 rfl Ωb follows Ωb _ _ (by rw[Tryz.ntmps273];simp) Ωf ?_;have NB:True:=trivial;have hr0:True:=trivial;obtain⟨v,h352⟩:=Go.Sx.c352 m h1 hm;have h351:=qsq m u h1 hm hu v;unfold qE;(repeat' first|refine sD ?_ ?_<;>intro _|refine aAc ?_|simp -dsimp only[↓RP,RQ,seval,TYz,NB,QÀ,hr0,TYR,TYS]);refine qk (h352) (by simp[SubL,Go.Sx.Sub]) Ω9 ?_;(repeat' first|refine sD ?_ ?_<;>intro _|refine aAc ?_|simp -dsimp only[↓RP,RQ,seval,QÀ,TYz,NB,hr0,TYR,TYS]);refine qk (h351) (by(simp -dsimp only[↓RP,RQ,seval,QV,qE,I]);all_goals (try simp[QV,Go.Sx.Sub,Go.Sx.SubL])) Ωa ?_;repeat' first|refine sD ?_ ?_<;>intro _|refine aAc ?_|simp -dsimp only[↓RP,RQ,seval,QÀ,TYz,NB,hr0,TYR,TYS]
end Go.Tn
end
section
namespace Go.Tn
open Go.Proofs
open Go.Sx
theorem qqL(l:List Nat)(j:Nat):(l.map (λx:Nat=>(x:Int))).getD j 0=((l.getD j 0:Nat):Int):=by
 rw[xc6,xc6,List.getElem?_map];cases l[j]?<;>rfl
theorem qss(G:List (List Nat))(hG:1≤G.length)(hG8:G.length≤8)(h1:1≤(G.getD 0 []).length)(h8:(G.getD 0 []).length≤8)(hs:(G.getD 0 []).Pairwise (· < ·)):zx Tryz.prog 302 [.arr false false G.length 1 (λi _=>.arr false false (G.getD i []).length 1 (λj _=>Ψ (Φ Γ ((G.getD i []).getD j 0:Nat)))),I 1] (.rows 3 1 (G.getD 0 []).length (λi _=>Ψ (Φ Γ ((G.getD 0 []).getD i 0:Nat)))) (.vec 0 (G.getD 0 []).length 1):=by
 refine jJ Tryz.func302 rfl Ωb follows Ωb _ _ _ (by rw[Tryz.ntmps302];simp) (by simp[OldL,Old,I]) ?_;have NB:True:=trivial;have hr0:True:=trivial;obtain⟨gr,hgr⟩:∃gr,gr=G.getD 0 []:=⟨_,rfl⟩;rw[←hgr]at h1 h8 hs ⊢;have hc:gS (λi=>(G.getD i []).map (λx:Nat=>(x:Int))) 1=gr.map (λx:Nat=>(x:Int)):=by rw[kS,hgr];simp[gS]
 have h359:=qqD 1 (λi=>(G.getD i []).map (λx:Nat=>(x:Int))) Ω (by rw[hc,xe1];exact h1) (by rw[hc,xe1];omega);rw[hc,xe1]at h359;simp only[qqL]at h359;have h273:=qsr gr.length (λi=>(gr.getD i 0:Nat)) h1 h8 (λi hi=>by
   have:=List.pairwise_iff_getElem.1 hs i (i+1) Ω hi Ω;rw[xc6,xc6,xc7 Ω,xc7 hi];simpa using this)
 unfold I;(repeat' first|refine sD ?_ ?_<;>intro _|refine aAc ?_|simp -dsimp only[↓RP,RQ,seval,TYz,NB,QÀ,hr0,TYR,TYS]);refine callN h359 (by simp only[SubL,lls,Go.Sx.Sub,qqL,xe1,imp_self,and_self,implies_true,true_and,and_true]) (by simp[FreshO]) Ωaj ?_;(repeat' first|refine sD ?_ ?_<;>intro _|refine aAc ?_|simp -dsimp only[↓RP,RQ,seval,TYz,NB,QÀ,hr0,TYR,TYS]);refine qk (h273) (by simp only[SubL,qE,I,Go.Sx.Sub,blk,if_true,true_and,and_true];exact⟨xa5 _,λ_ _ _ _=>trivial⟩) (by simp[Fresh,FreshL]) ?_;(repeat' first|refine sD ?_ ?_<;>intro _|refine aAc ?_|simp -dsimp only[↓RP,RQ,seval,TYz,NB,QÀ,hr0,TYR,TYS]);refine⟨4,.rows 3 1 gr.length (λi _=>Ψ (Φ Γ (gr.getD i 0:Nat))),by simp[blk],?_,?_⟩
 ·simp only[SubB,true_and]
  exact⟨xa5 _,λi j hi hj=>by simp only[Go.Sx.Sub]⟩
 ·simp[SubO]
end Go.Tn
end
section
namespace Go.Sx
open Go.RowKit
section
variable{P:Program}
def qeI(P:Program)(G:Nat→SV)(H:List (Nat×Blk))(res:Nat→SV):Nat→List Oper→Prop
 |_,[]=>True
 |i,o :: l=>(∀F:Nat→SV,(∀t,t∈zP o→F t=G t)→PureAt P F H o.op (res i))∧qeI P G H res (i+1) l
theorem VG{G:Nat→SV}{H:List (Nat×Blk)}{res:Nat→SV}:∀{l:List Oper}{k i:Nat}{o:Oper},qeI P G H res k l→l[i]? = some o→∀F:Nat→SV,(∀t,t∈zP o→F t=G t)→PureAt P F H o.op (res (k+i))
 |o' :: l,k,0,o,h,ho=>by
  simp only[xd6,Option.some.injEq]at ho;subst ho;exact h.1
 |o' :: l,k,i+1,o,h,ho=>by
  simp only[xd7]at ho;have:=VG h.2 ho
  grind
 |[],k,i,o,h,ho=>by simp at ho
theorem qcD(hm:P.follows .mixedOrders=true){O:Ctx}{st:St}{K:Ex→St→Prop}{id:Nat}{l:List Oper}(hc:qcg l)(hg:l.all (λo=>o.guard.isNone)=true)(res:Nat→SV)
  (hp:qeI P (FS (nth (dsts l)) res (λ_=>true) (look st.fr) l.length) st.hp res 0 l)
  (fr2:List (Nat×SV)) (h2:∀fr,(∀t,look fr t=FS (nth (dsts l)) res (λ_=>true) (look st.fr) l.length t)→qQ fr fr2)
  (hK:K .normal ⟨fr2,st.hp,st.nid+l.length⟩) {g:Tag K}:jC P O id l true st K g:=by
 refine wq hm (λm st'=>(∀t,look st'.fr t=FS (nth (dsts l)) res (λi=>m.testBit i) (look st.fr) l.length t)∧st'.hp=st.hp∧st'.nid≤st.nid+kc (λi=>m.testBit i) l.length) rfl hc.edges (Weak.refl _ _) ?_ ?_ ?_
 ·exact⟨λt=>(Wy λj _=>xb3 j).symm,rfl,Ω⟩
 ·refine j9 λi o ho=>?_
  rw[xb0];rintro m st1 ⟨hf,hH,hnid⟩ hcl hbit hanc;have hi:i<l.length:=(List.getElem?_eq_some_iff.1 ho).1;have anc:∀e,((zh [] l).getD i 0).testBit e=true→m.testBit e=true:=λe h=>hanc e h (by have:=hc.lt i e hi h;omega);have hops:∀t,t∈zP o→look st1.fr t=FS (nth (dsts l)) res (λ_=>true) (look st.fr) l.length t:=λt ht=>by
   rw[hf];exact wu λx hx hxt=>anc x (hc.ops i o t x ho ht hx hxt)
  have hdst:nth (dsts l) i=o.dst:=by rw[zA,ho];rfl
  have frs:∀fr:List (Nat×SV),(∀t,look fr t=look (st1.put o.dst (res i)).fr t)→∀t,look fr t=FS (nth (dsts l)) res (λx=>(m ||| 2^i).testBit x) (look st.fr) l.length t:=λfr hfr t=>by
   rw[qcf (S:=λx=>m.testBit x) (i:=i) (λx=>tb m i x) hi λx hx hxi h1 h2=>?_,hdst,←hf,hfr,gL];by_cases c:x<i
   ·exact hc.dist i x t c hi h1 h2
   ·exact hc.dist x i t Ω hx h2 h1
  have done:kc (λx=>(m ||| 2^i).testBit x) l.length=kc (λx=>m.testBit x) l.length+1:=by
   rw[Ww (e:=λx=>m.testBit x) (i:=i) (λx hx=>by show(m ||| 2^i).testBit x=_;rw[tb];simp;intro e;exact absurd e.symm hx) hbit,if_pos ⟨hi,by show(m ||| 2^i).testBit i=true;rw[tb];simp⟩]
  have hgrd:Grd l (look st1.fr) o false:=by
   unfold Grd;have h3:=List.all_eq_true.1 hg o (List.mem_of_getElem? ho);cases e:o.guard with
   |none=>rfl
   |some p=>rw[e]at h3;cases h3
  refine⟨st1,Weak.refl _ _,?_⟩;have fin:∀(st2 st3:St),(∀t,look st2.fr t=look st1.fr t)→(∀t,look st3.fr t=look (st2.put o.dst (res i)).fr t)→st3.hp=st.hp→st3.nid≤st1.nid+1→∃st4,Weak O st3 st4∧(∀t,look st4.fr t=FS (nth (dsts l)) res (λx=>(m ||| 2^i).testBit x) (look st.fr) l.length t)∧st4.hp=st.hp∧st4.nid≤st.nid+kc (λx=>(m ||| 2^i).testBit x) l.length:=by
   intro st2 st3 h2 h3 hH3 hn3;refine⟨st3,Weak.refl _ _,frs _ λt=>?_,hH3,?_⟩
   ·rw[h3,gL,gL,h2]
   ·rw[done];omega
  refine G4 hgrd (λhs st2 h2 h2h h2n=>?_) (λhs=>by cases hs);have h1:=VG hp ho (look st2.fr) (λt ht=>by rw[h2,hops t ht]);rw[xb0]at h1;rw[show st.hp=st2.hp by rw[h2h,hH]]at h1;have f2:=fin st2 ⟨inD o.dst (st2.put o.dst (res i)).fr,(st2.put o.dst (res i)).hp,(st2.put o.dst (res i)).nid+1⟩ h2 (λt=>gC _ _ _) (by rw[zo,h2h];exact hH) (by rw[qz];show st2.nid+1≤_;omega);rcases h1 with(⟨obl,e,h⟩|⟨obl,e,h⟩)|⟨hnd,h⟩
  ·rw[e];exact .inl ⟨h,f2⟩
  ·rw[e];exact .inl ⟨_,h,f2⟩
  ·refine .inr ⟨hnd,(h O st2 (λt _=>rfl) rfl).mono ?_⟩
   rintro st' res' ⟨rfl,rfl⟩;exact fin st' _ h2 (λt=>wv _ _ _ _) (by rw[ww,h2h];exact hH) (by rw[kF];omega)
 ·rintro m st1 ⟨hf,hH,hnid⟩ hall
  have:=qdQ (e:=λi=>m.testBit i) (n:=l.length);refine⟨⟨fr2,st.hp,st.nid+l.length⟩,Go.Tn.weakSU Ω (h2 _ λt=>?_) (by rw[hH];exact SubHp.refl _),hK⟩;rw[hf];exact wu λx hx _=>hall x hx
end
end Go.Sx
end
section
namespace Go.Tn
open Go.Sx
variable{f q:Nat→Int}{nb w:Nat}{gr:Nat→Nat}
def bD(f q:Nat→Int)(nb:Nat)(gr:Nat→Nat):Nat→Value→Bool
 |0=>λ_=>false
 |w+1=>if cF f q nb (gr w:Nat)=0 then ko (qA (bD f q nb gr w) (ks (gr w:Nat) (-1))) (ks (gr w:Nat) (-1))else qA (bD f q nb gr w) (ks (gr w:Nat) (-1))
def bG(f q:Nat→Int)(nb:Nat)(gr:Nat→Nat):Nat→Value→SV
 |0=>λ_=>.top
 |w+1=>qB (bG f q nb gr w) (ks (gr w:Nat) (-1)) (Ψ (Φ Γ (cF f q nb (gr w:Nat))))
theorem eqK_ksv{a b:Int}{v:Value}:eqK (ks a b) v=true↔v=ks a b:=by
 constructor
 ·intro h;exact(zz h).symm
 ·rintro rfl;simp[eqK,ks,jB,vX]
theorem qkm(h:cF f q nb (gr w:Nat)=0):bD f q nb gr (w+1)=ko (qA (bD f q nb gr w) (ks (gr w:Nat) (-1))) (ks (gr w:Nat) (-1)):=by simp only[bD];rw[if_pos h]
theorem WT(h:¬cF f q nb (gr w:Nat)=0):bD f q nb gr (w+1)=qA (bD f q nb gr w) (ks (gr w:Nat) (-1)):=by simp only[bD];rw[if_neg h]
theorem qmY:bG f q nb gr (w+1)=qB (bG f q nb gr w) (ks (gr w:Nat) (-1)) (Ψ (Φ Γ (cF f q nb (gr w:Nat)))):=rfl
theorem KT(f q:Nat→Int)(nb:Nat)(gr:Nat→Nat)(v:Value):∀w,bD f q nb gr w v=true→∃i,i<w∧v=ks (gr i:Nat) (-1)∧¬cF f q nb (gr i:Nat)=0∧bG f q nb gr w v=Ψ (Φ Γ (cF f q nb (gr i:Nat)))
 |0,h=>by simp[bD]at h
 |w+1,h=>by
  have old:eqK (ks (gr w:Nat) (-1)) v=false→bD f q nb gr w v=true→∃i,i<w+1∧v=ks (gr i:Nat) (-1)∧¬cF f q nb (gr i:Nat)=0∧bG f q nb gr (w+1) v=Ψ (Φ Γ (cF f q nb (gr i:Nat))):=λh1 h2=>by
   obtain⟨i,q1,q2,q3,q4⟩:=KT f q nb gr v w h2;refine⟨i,Ω,q2,q3,?_⟩;rw[qmY];simp only[qB,h1,svIte]
   simp_all
  by_cases c:cF f q nb (gr w:Nat)=0
  ·rw[qkm c]at h
   simp only[ko,qA,xe6,Bool.not_eq_true',xe8]at h;rcases h with⟨h1,h2⟩;rcases h2 with h2|h2
   ·simp_all
   ·exact old h1 h2
  ·rw[WT c]at h
   cases e:eqK (ks (gr w:Nat) (-1)) v with
   |true=>
    refine⟨w,Ω,eqK_ksv.1 e,c,?_⟩;rw[qmY];simp only[qB,e,svIte];rw[if_pos trivial]
   |false=>
    simp only[qA,e,xf4]at h;exact old e h
theorem qaP(f q:Nat→Int)(nb:Nat)(gr:Nat→Nat)(i:Nat)(hi:¬cF f q nb (gr i:Nat)=0):∀w,i<w→bD f q nb gr w (ks (gr i:Nat) (-1))=true
 |0,h=>by omega
 |w+1,h=>by
  by_cases e:gr w=gr i
  ·have c:¬cF f q nb (gr w:Nat)=0:=by rw[e];exact hi
   rw[WT c,e];simp only[qA,xe8];exact .inl (eqK_ksv.2 rfl)
  ·have ih:=qaP f q nb gr i hi w (by
    by_cases c:i=w
    ·simp_all
    ·omega)
   have ne:eqK (ks (gr w:Nat) (-1)) (ks (gr i:Nat) (-1))=false:=by
    cases hb:eqK (ks (gr w:Nat) (-1)) (ks (gr i:Nat) (-1))with
    |false=>rfl
    |true=>have:=(eqK_ks.1 hb).1;exact absurd Ω e
   by_cases c:cF f q nb (gr w:Nat)=0
   ·rw[qkm c]
    simp only[ko,qA,ne,ih,Bool.not_false,Bool.or_true,xf1]
   ·rw[WT c]
    simp only[qA,ih,Bool.or_true]
def dvl(f q:Nat→Int)(nb:Nat)(gr:Nat→Nat):Nat→List Nat
 |0=>[]
 |w+1=>if cF f q nb (gr w:Nat)=0 then dvl f q nb gr w else dvl f q nb gr w++[gr w]
theorem Z9(h:cF f q nb (gr w:Nat)=0):dvl f q nb gr (w+1)=dvl f q nb gr w:=by simp only[dvl];rw[if_pos h]
theorem Zz(h:¬cF f q nb (gr w:Nat)=0):dvl f q nb gr (w+1)=dvl f q nb gr w++[gr w]:=by simp only[dvl];rw[if_neg h]
theorem wz(f q:Nat→Int)(nb:Nat)(gr:Nat→Nat)(r:Nat):∀w,r∈dvl f q nb gr w↔∃i,i<w∧gr i=r∧¬cF f q nb (r:Nat)=0
 |0=>by simp[dvl]
 |w+1=>by
  have ih:=wz f q nb gr r w;by_cases c:cF f q nb (gr w:Nat)=0
  ·rw[Z9 c,ih]
   constructor
   ·grind
   ·grind
  ·rw[Zz c,xd4,xe0,ih]
   constructor
   ·grind
   ·grind
theorem yW(f q:Nat→Int)(nb:Nat)(gr:Nat→Nat):∀w,(dvl f q nb gr w).length≤w
 |0=>xa5 _
 |w+1=>by
  have ih:=yW f q nb gr w;by_cases c:cF f q nb (gr w:Nat)=0
  ·rw[Z9 c];omega
  ·rw[Zz c,xc8,xd1];omega
theorem VH(f q:Nat→Int)(nb:Nat)(gr:Nat→Nat):∀w,(∀i j,i<j→j<w→gr i≠gr j)→(dvl f q nb gr w).Nodup
 |0,_=>List.nodup_nil
 |w+1,h=>by
  have ih:=VH f q nb gr w λi j h1 h2=>h i j h1 Ω;by_cases c:cF f q nb (gr w:Nat)=0
  ·rw[Z9 c];exact ih
  ·rw[Zz c,List.nodup_append]
   refine⟨ih,Ωg,λa ha b hb e=>?_⟩;rw[xe0]at hb;obtain⟨i,h1,h2,_⟩:=(wz f q nb gr a w).1 ha
   simp_all
theorem qcE{a b:Nat}(h:ks (a:Nat) (-1)=ks (b:Nat) (-1)):a=b:=by
 have:=(eqK_ks (a:=(a:Nat)) (b:=-1) (c:=(b:Nat)) (d:=-1)).1 (by rw[h];exact eqK_ksv.2 rfl);omega
theorem qeJ(f q:Nat→Int)(nb:Nat)(gr:Nat→Nat)(w:Nat)(k:Value):bD f q nb gr w k=true↔k∈(dvl f q nb gr w).map (λr:Nat=>ks (r:Nat) (-1)):=by
 rw[List.mem_map];constructor
 ·intro h
  obtain⟨i,h1,h2,h3,_⟩:=KT f q nb gr k w h;exact⟨gr i,(wz f q nb gr _ w).2 ⟨i,h1,rfl,h3⟩,h2.symm⟩
 ·rintro⟨r,h1,rfl⟩
  obtain⟨i,h2,rfl,h3⟩:=(wz f q nb gr r w).1 h1;exact qaP f q nb gr i h3 w h2
theorem Jq(h:∀i j,i<j→j<w→gr i≠gr j):((dvl f q nb gr w).map (λr:Nat=>ks (r:Nat) (-1))).Nodup:=
 List.Pairwise.map _ (λa b hab e=>hab (qcE e)) (VH f q nb gr w h)
theorem qod{i:Nat}(hi:i<w)(hc:¬cF f q nb (gr i:Nat)=0):bG f q nb gr w (ks (gr i:Nat) (-1))=Ψ (Φ Γ (cF f q nb (gr i:Nat))):=by
 obtain⟨j,h1,h2,h3,h4⟩:=KT f q nb gr _ w (qaP f q nb gr i hc w hi);rw[h4,qcE h2]
theorem qkn{i:Nat}(hc:cF f q nb (gr i:Nat)=0):bD f q nb gr w (ks (gr i:Nat) (-1))=false:=by
 cases h:bD f q nb gr w (ks (gr i:Nat) (-1))with
 |false=>rfl
 |true=>
  obtain⟨j,h1,h2,h3,h4⟩:=KT f q nb gr _ w h;rw[←qcE h2]at h3;omega
end Go.Tn
end
section
namespace Go.Tn
open Go.Proofs
open Go.RowKit
open Go.Sx
theorem qst(p:String):G3 [{ dst:=some 43,op:=Op.load 160 (Operand.tmp 2),type:=160,pos:=p,after:=#[],guard:=none },{ dst:=some 44,op:=Op.nilCheck (Operand.tmp 43),type:=0,pos:=p,after:=#[{ on:=0,ground:=Ground.data }],guard:=none },{ dst:=some 45,op:=Op.fieldAddr 167 (Operand.tmp 44) 3,type:=0,pos:=p,after:=#[{ on:=1,ground:=Ground.data }],guard:=none },{ dst:=some 46,op:=Op.fieldAddr 57 (Operand.tmp 45) 5,type:=0,pos:=p,after:=#[{ on:=2,ground:=Ground.data }],guard:=none },{ dst:=some 47,op:=Op.load 2 (Operand.tmp 46),type:=2,pos:=p,after:=#[{ on:=3,ground:=Ground.data }],guard:=none },{ dst:=some 48,op:=Op.load 165 (Operand.tmp 5),type:=165,pos:=p,after:=#[],guard:=none },{ dst:=some 49,op:=Op.call { callee:=Callee.builtin Builtin.len,args:=#[Operand.tmp 48],argTypes:=#[165] },type:=3,pos:=p,after:=#[{ on:=5,ground:=Ground.data }],guard:=none },{ dst:=some 50,op:=Op.binOp BinOp.quo 2 (Operand.tmp 47) (Operand.tmp 49) 2,type:=2,pos:=p,after:=#[{ on:=4,ground:=Ground.data },{ on:=6,ground:=Ground.data }],guard:=none },{ dst:=some 11,op:=Op.assign (Operand.tmp 50),type:=2,pos:=p,after:=#[{ on:=7,ground:=Ground.data },{ on:=6,ground:=Ground.chain },{ on:=0,ground:=Ground.phase },{ on:=1,ground:=Ground.phase },{ on:=2,ground:=Ground.phase },{ on:=3,ground:=Ground.phase },{ on:=4,ground:=Ground.phase },{ on:=5,ground:=Ground.phase },{ on:=6,ground:=Ground.phase },{ on:=7,ground:=Ground.phase }],guard:=none }]=true:=by kernel_rfl
theorem qoe{O:Ctx}{p:String}{fr:List (Nat×SV)}{hp:List (Nat×Blk)}{nid id0 tid mid oid p8 id:Nat}{K:Ex→St→Prop}{g:Tag K}{n:Int}{nb:Nat}{f q:Nat→Int}{fav:Bool}{c d st:Int}{fv:Int}{M:SV}{x9 a0 a1 a2 a3 a4 a5:Int}{dom:Value→Bool}{get:Value→SV}{L:List Value}
  (h2:Go.Sx.look fr 2=.ptr id 0) (h5:Go.Sx.look fr 5=.ptr (id+3) 0) (h7:Go.Sx.look fr 7=.ptr oid 0) (h8:Go.Sx.look fr 8=.ptr p8 0) (h9:Go.Sx.look fr 9=Ψ (Φ Γ x9))
  (hb:blk hp id=some (.cells 160 [.ptr tid 0])) (hb3:blk hp (id+3)=some (.cells 165 [.mp (id+2)])) (hbt:blk hp tid=some (.cells 167 (tlL n nb f q fav c d st fv M a0 a1 a2 a3 a4 a5))) (hbm:blk hp (id+2)=some (.map (qh true [.i .i64,.i .i64]) dom get))
  (hn:L.Nodup) (hL:∀k,dom k=true↔k∈L) (h1:1≤L.length) (h88:L.length≤8) (ha:0≤a5∧a5≤100000000) (hq:0≤Int.tdiv a5 (L.length:Nat)∧Int.tdiv a5 (L.length:Nat)≤100000000)
  (hK:K .normal ⟨[(11,Ψ (Φ Γ (Int.tdiv a5 (L.length:Nat)))),(2,.ptr id 0),(5,.ptr (id+3) 0),(7,.ptr oid 0),(8,.ptr p8 0),(9,Ψ (Φ Γ x9))],hp,nid+9⟩) :
  jC Tryz.prog O id0 [{ dst:=some 43,op:=Op.load 160 (Operand.tmp 2),type:=160,pos:=p,after:=#[],guard:=none },{ dst:=some 44,op:=Op.nilCheck (Operand.tmp 43),type:=0,pos:=p,after:=#[{ on:=0,ground:=Ground.data }],guard:=none },{ dst:=some 45,op:=Op.fieldAddr 167 (Operand.tmp 44) 3,type:=0,pos:=p,after:=#[{ on:=1,ground:=Ground.data }],guard:=none },{ dst:=some 46,op:=Op.fieldAddr 57 (Operand.tmp 45) 5,type:=0,pos:=p,after:=#[{ on:=2,ground:=Ground.data }],guard:=none },{ dst:=some 47,op:=Op.load 2 (Operand.tmp 46),type:=2,pos:=p,after:=#[{ on:=3,ground:=Ground.data }],guard:=none },{ dst:=some 48,op:=Op.load 165 (Operand.tmp 5),type:=165,pos:=p,after:=#[],guard:=none },{ dst:=some 49,op:=Op.call { callee:=Callee.builtin Builtin.len,args:=#[Operand.tmp 48],argTypes:=#[165] },type:=3,pos:=p,after:=#[{ on:=5,ground:=Ground.data }],guard:=none },{ dst:=some 50,op:=Op.binOp BinOp.quo 2 (Operand.tmp 47) (Operand.tmp 49) 2,type:=2,pos:=p,after:=#[{ on:=4,ground:=Ground.data },{ on:=6,ground:=Ground.data }],guard:=none },{ dst:=some 11,op:=Op.assign (Operand.tmp 50),type:=2,pos:=p,after:=#[{ on:=7,ground:=Ground.data },{ on:=6,ground:=Ground.chain },{ on:=0,ground:=Ground.phase },{ on:=1,ground:=Ground.phase },{ on:=2,ground:=Ground.phase },{ on:=3,ground:=Ground.phase },{ on:=4,ground:=Ground.phase },{ on:=5,ground:=Ground.phase },{ on:=6,ground:=Ground.phase },{ on:=7,ground:=Ground.phase }],guard:=none }] true ⟨fr,hp,nid⟩ K g:=by
 refine qcD follows (Vn (qst p)) Ωr (λi=>([.ptr tid 0,.ptr tid 0,.ptr tid 10,.ptr tid 15,Ψ (Φ Γ a5),.mp (id+2),Ψ (Φ Γ (L.length:Nat)),Ψ (Φ Γ (Int.tdiv a5 (L.length:Nat))),Ψ (Φ Γ (Int.tdiv a5 (L.length:Nat)))]:List SV).getD i .top) ?_ _ ?_ hK
 ·have G2:FS (nth (dsts [{ dst:=some 43,op:=Op.load 160 (Operand.tmp 2),type:=160,pos:=p,after:=#[],guard:=none },{ dst:=some 44,op:=Op.nilCheck (Operand.tmp 43),type:=0,pos:=p,after:=#[{ on:=0,ground:=Ground.data }],guard:=none },{ dst:=some 45,op:=Op.fieldAddr 167 (Operand.tmp 44) 3,type:=0,pos:=p,after:=#[{ on:=1,ground:=Ground.data }],guard:=none },{ dst:=some 46,op:=Op.fieldAddr 57 (Operand.tmp 45) 5,type:=0,pos:=p,after:=#[{ on:=2,ground:=Ground.data }],guard:=none },{ dst:=some 47,op:=Op.load 2 (Operand.tmp 46),type:=2,pos:=p,after:=#[{ on:=3,ground:=Ground.data }],guard:=none },{ dst:=some 48,op:=Op.load 165 (Operand.tmp 5),type:=165,pos:=p,after:=#[],guard:=none },{ dst:=some 49,op:=Op.call { callee:=Callee.builtin Builtin.len,args:=#[Operand.tmp 48],argTypes:=#[165] },type:=3,pos:=p,after:=#[{ on:=5,ground:=Ground.data }],guard:=none },{ dst:=some 50,op:=Op.binOp BinOp.quo 2 (Operand.tmp 47) (Operand.tmp 49) 2,type:=2,pos:=p,after:=#[{ on:=4,ground:=Ground.data },{ on:=6,ground:=Ground.data }],guard:=none },{ dst:=some 11,op:=Op.assign (Operand.tmp 50),type:=2,pos:=p,after:=#[{ on:=7,ground:=Ground.data },{ on:=6,ground:=Ground.chain },{ on:=0,ground:=Ground.phase },{ on:=1,ground:=Ground.phase },{ on:=2,ground:=Ground.phase },{ on:=3,ground:=Ground.phase },{ on:=4,ground:=Ground.phase },{ on:=5,ground:=Ground.phase },{ on:=6,ground:=Ground.phase },{ on:=7,ground:=Ground.phase }],guard:=none }])) (λi=>([.ptr tid 0,.ptr tid 0,.ptr tid 10,.ptr tid 15,Ψ (Φ Γ a5),.mp (id+2),Ψ (Φ Γ (L.length:Nat)),Ψ (Φ Γ (Int.tdiv a5 (L.length:Nat))),Ψ (Φ Γ (Int.tdiv a5 (L.length:Nat)))]:List SV).getD i .top) (λ_=>true) (Go.Sx.look fr) 9 2=.ptr id 0:=by
   rw[←h2];simp[FS,nth,dsts]
  simp only[qeI];refine⟨λF hF=>?_,λF hF=>?_,λF hF=>?_,λF hF=>?_,λF hF=>?_,λF hF=>?_,λF hF=>?_,λF hF=>?_,λF hF=>?_,trivial⟩
  ·have e:=hF 2 ΩH
   simp[FS,nth,dsts,h2]at e;refine .inl ?_;(simp -dsimp only[↓RP,RQ,seval,e,hb,QV,TY,TYR,TYz])
   first|exact .inl ⟨_,rfl,trivial⟩|exact .inr ⟨_,rfl,rfl⟩|exact .inl ⟨_,rfl,Ωg⟩
  ·have e:=hF 43 ΩH
   simp[FS,nth,dsts]at e;refine .inl ?_;(simp -dsimp only[↓RP,RQ,seval,e,QV,TY,TYR,TYz])
   first|exact .inl ⟨_,rfl,trivial⟩|exact .inr ⟨_,rfl,rfl⟩|exact .inl ⟨_,rfl,Ωg⟩
  ·have e:=hF 44 ΩH
   simp[FS,nth,dsts]at e;refine .inl ?_;(simp -dsimp only[↓RP,RQ,seval,e,QV,TY,TYR,TYz])
   first|exact .inl ⟨_,rfl,trivial⟩|exact .inr ⟨_,rfl,rfl⟩|exact .inl ⟨_,rfl,Ωg⟩
  ·have e:=hF 45 ΩH
   simp[FS,nth,dsts]at e;refine .inl ?_;(simp -dsimp only[↓RP,RQ,seval,e,QV,TY,TYR,TYz])
   first|exact .inl ⟨_,rfl,trivial⟩|exact .inr ⟨_,rfl,rfl⟩|exact .inl ⟨_,rfl,Ωg⟩
  ·have e:=hF 46 ΩH
   simp[FS,nth,dsts]at e;refine .inl ?_;(simp -dsimp only[↓RP,RQ,seval,e,hbt,tlL,QV,TY,TYR,TYz])
   first|exact .inl ⟨_,rfl,trivial⟩|exact .inr ⟨_,rfl,rfl⟩|exact .inl ⟨_,rfl,Ωg⟩
  ·have e:=hF 5 ΩH
   simp[FS,nth,dsts,h5]at e;refine .inl ?_;(simp -dsimp only[↓RP,RQ,seval,e,hb3,QV,TY,TYR,TYz])
   first|exact .inl ⟨_,rfl,trivial⟩|exact .inr ⟨_,rfl,rfl⟩|exact .inl ⟨_,rfl,Ωg⟩
  ·refine .inr ⟨rfl,λO st hst hh=>?_⟩
   have e:=hF 48 (by simp[zP,Op.operands,Call.operands]);have e2:=hst 48 Ωh;simp[FS,nth,dsts]at e;rw[e]at e2;exact(Vo (id:=id+2) (x:=.tmp 48) (st:=st) TYR.2.2.1 (by simp only[env];exact e2) (by rw[hh];exact hbm) hn hL).mono λst' res h=>h
  ·have e:=hF 47 ΩH
   have e2:=hF 49 ΩH;simp[FS,nth,dsts]at e e2;refine .inl ?_;have hl0:(L.length:Int)≠0:=by omega
   (simp -dsimp only[↓RP,RQ,seval,e,e2,QV,TY,TYR,TYP]);exact .inl ⟨_,rfl,by simp only[InK];omega⟩
  ·have e:=hF 50 ΩH
   simp[FS,nth,dsts]at e;refine .inl ?_;(simp -dsimp only[↓RP,RQ,seval,e,QV,TY,TYR,TYz])
   first|exact .inl ⟨_,rfl,trivial⟩|exact .inr ⟨_,rfl,rfl⟩|exact .inl ⟨_,rfl,Ωg⟩
 ·intro fr' h
  simp[qQ,h,FS,nth,dsts,h2,h5,h7,h8,h9]
end Go.Tn
end
