/- A part of the proof. -/
import Derived.Test.YtacejomniokahaaGreatPU
import Derived.Test.YtacejomniokahaaGreatPV
import Derived.Test.YtacejomniokahaaGreatPW
import Derived.Test.YtacejomniokahaaGreatPT
import Derived.Test.YtacejomniokahaaGreatPM
import Derived.Test.YtacejomniokahaaGreatPC
import Derived.Test.YtacejomniokahaaGreatPL
open Nat renaming reduceEqDiff→xa2,le_refl→xa5,zero_le→xb6,sub_self→xb8
open Go.Sx.SV renaming val→Ψ
open Go.Value renaming int→Φ
open Go.IntKind renaming i64→Γ
set_option linter.unusedVariables false
set_option linter.unusedSimpArgs false
set_option linter.defProp false
set_option maxRecDepth 1000000
set_option maxHeartbeats 16000000
section
namespace Go.Sx
open Go.Proofs
open Go.RowKit Go.Tn
noncomputable section
def X4:XP:=⟨flT,plT,(232,qpM) :: olT,[qaO,c224J,c225J,c223K],[lsN,l1N]⟩
theorem qre:qax Tryz.prog X4:=⟨vd,X0_ok.pl,⟨qfd,X0_ok.ol⟩,⟨qpj,qkS,qkT,qkU,trivial⟩,X0_ok.nl⟩
def qsD:Bool:=z8 (jv (gR Tryz.prog X4) 1000000 Tryz.f109 ((zs flT 109).getD []) [] wy)
theorem qnx:qsD=true:=by kernel_rfl
theorem qkV:qf Tryz.prog 109 [] (.val (.bool true)):=jw follows qre Tryz.func109 (L:=(zs flT 109).getD []) rfl 1000000 qnx
end
end Go.Sx
end
section
namespace Go.Tn
open Go.Proofs
open Go.Sx
theorem c43:qf Tryz.prog 43 [] (B true):=by
 refine qg Tryz.func43 rfl Ωb follows Ωb _ _ (by rw[Tryz.ntmps43];simp) (by simp[OldL]) ?_;have h1:=c31;have h2:=qkV;unfold B at *;(simp -dsimp only[↓RP,RQ,seval,TY,Tryz.results43]);refine qk h1 ΩX Ω9 ?_;(simp -dsimp only[↓RP,RQ,seval,TY,Tryz.results43]);refine qk h2 ΩX Ω9 ?_;(simp -dsimp only[↓RP,RQ,seval,TY,Tryz.results43])
end Go.Tn
end
section
namespace Go.Tn
open Go.Proofs
open Go.Sx
theorem TYx:True∧qn Tryz.prog 2=some ⟨false,1,some [Φ Γ 0],.int .i64⟩∧qn Tryz.prog 3=some ⟨false,1,some [Φ Γ 0],.int .i64⟩∧qn Tryz.prog 4=some ⟨false,1,some [.bool false],.bool⟩∧qn Tryz.prog 5=some ⟨false,1,some [.int .u8 0],.int .u8⟩∧qn Tryz.prog 25=some ⟨false,1,some [.slice none 0 0],.slice 5 1⟩∧qn Tryz.prog 28=some ⟨false,1,some [Φ Γ 0],.int .i64⟩∧qn Tryz.prog 32=some ⟨false,1,some [.slice none 0 0],.slice 2 1⟩∧qn Tryz.prog 46=some ⟨false,1,some [.slice none 0 0],.slice 51 3⟩∧qn Tryz.prog 48=some ⟨true,8,some [Φ Γ 0,Φ Γ 0,.slice none 0 0,.slice none 0 0,.bool false,Φ Γ 0,Φ Γ 0,Φ Γ 0],.struct [(0,1,some false),(1,1,some false),(2,1,some false),(3,1,some false),(4,1,some false),(5,1,some false),(6,1,some false),(7,1,some false)]⟩∧qt Tryz.prog 48=some [(0,1),(1,1),(2,1),(3,1),(4,1),(5,1),(6,1),(7,1)]∧qn Tryz.prog 51=some ⟨true,3,some [Φ Γ 0,Φ Γ 0,Φ Γ 0],.struct [(0,1,some false),(1,1,some false),(2,1,some false)]⟩∧qt Tryz.prog 51=some [(0,1),(1,1),(2,1)]∧qW Tryz.prog 51=some [.i .i64,.i .i64,.i .i64]∧qn Tryz.prog 55=some ⟨true,2,some [Φ Γ 0,Φ Γ 0],.array 2 3 1⟩∧qt Tryz.prog 55=some [(0,1),(1,1)]∧qW Tryz.prog 55=some [.i .i64,.i .i64]∧qn Tryz.prog 57=some ⟨true,6,some [Φ Γ 0,Φ Γ 0,Φ Γ 0,Φ Γ 0,Φ Γ 0,Φ Γ 0],.struct [(0,1,some false),(1,1,some false),(2,1,some false),(3,1,some false),(4,1,some false),(5,1,some false)]⟩∧qt Tryz.prog 57=some [(0,1),(1,1),(2,1),(3,1),(4,1),(5,1)]∧qW Tryz.prog 57=some [.i .i64,.i .i64,.i .i64,.i .i64,.i .i64,.i .i64]∧qn Tryz.prog 60=some ⟨false,1,some [.slice none 0 0],.slice 22 1⟩∧qn Tryz.prog 75=some ⟨false,1,some [.slice none 0 0],.slice 80 3⟩∧qn Tryz.prog 80=some ⟨true,3,some [Φ Γ 0,Φ Γ 0,Φ Γ 0],.struct [(0,1,some false),(1,1,some false),(2,1,some false)]⟩∧qt Tryz.prog 80=some [(0,1),(1,1),(2,1)]∧qW Tryz.prog 80=some [.i .i64,.i .i64,.i .i64]∧qn Tryz.prog 95=some ⟨false,1,some [.slice none 0 0],.slice 101 4⟩∧qn Tryz.prog 97=some ⟨true,3,some [Φ Γ 0,Φ Γ 0,.slice none 0 0],.struct [(0,1,some false),(1,1,some false),(2,1,some false)]⟩∧qt Tryz.prog 97=some [(0,1),(1,1),(2,1)]∧qn Tryz.prog 99=some ⟨true,2,some [Φ Γ 0,Φ Γ 0],.struct [(0,1,some false),(1,1,some false)]⟩∧qt Tryz.prog 99=some [(0,1),(1,1)]∧qW Tryz.prog 99=some [.i .i64,.i .i64]∧qn Tryz.prog 101=some ⟨true,4,some [Φ Γ 0,Φ Γ 0,Φ Γ 0,Φ Γ 0],.struct [(0,1,some false),(1,1,some false),(2,2,some true)]⟩∧qt Tryz.prog 101=some [(0,1),(1,1),(2,2)]∧qW Tryz.prog 101=some [.i .i64,.i .i64,.i .i64,.i .i64]∧qn Tryz.prog 111=some ⟨false,1,some [.slice none 0 0],.slice 113 3⟩∧qn Tryz.prog 113=some ⟨true,3,some [.int .u8 0,.int .u8 0,.int .u8 0],.array 3 5 1⟩∧qt Tryz.prog 113=some [(0,1),(1,1),(2,1)]∧qW Tryz.prog 113=some [.i .u8,.i .u8,.i .u8]∧qF Tryz.prog 2=8∧qF Tryz.prog 51=24∧qF Tryz.prog 101=32:=⟨trivial,Ωb,Ωb,Ωb,Ωb,Ωb,Ωb,Ωb,Ωb,Ωb,Ωb,Ωb,Ωb,Ωb,Ωb,Ωb,Ωb,Ωb,Ωb,Ωb,Ωb,Ωb,Ωb,Ωb,Ωb,Ωb,Ωb,Ωb,Ωb,Ωb,Ωb,Ωb,Ωb,Ωb,Ωb,Ωb,Ωb,Ωb,Ωb,Ωb,Ωb⟩
theorem c52(n nb:Nat)(f q:Nat→Int)(fav:Bool)(c d st:Int)(hn:n≤8)(hnb:nb≤100)(hq:∀i,i<nb→1≤q i∧q i≤1000):qf Tryz.prog 52 [bkS n nb f (λ_=>-1) q fav c d st] (.arr true false n 1 (λi _=>Ψ (Φ Γ (uF f q nb i)))):=by
 refine qg Tryz.func52 rfl Ωb follows Ωb _ _ (by rw[Tryz.ntmps52];simp) (by simp only[OldL,and_true];exact jf _ _ _ _ _ _ _ _ _) ?_;have NB:True:=trivial;unfold bkS za;(repeat' first|refine sD ?_ ?_<;>intro _|refine aAh ?_|simp -dsimp only[↓RP,RQ,seval,TYz,TYx,NB,QÁ]);refine qp (λ(z:Nat×Nat×Nat×(Nat→Nat→SV))=>z.1≤n∧(0<z.2.2.1∧z.2.2.1<z.2.1)∧∀i,i<z.1→z.2.2.2 i 0=Ψ (Φ Γ (uF f q nb i))) (λz=>⟨[(1,.ptr 0 0),(3,.vec z.2.2.1 z.1 1),(4,Ψ (Φ Γ (z.1:Nat)))],[(z.2.2.1,.rows 2 1 z.1 z.2.2.2),(0,.cells 48 [Ψ (Φ Γ 0),Ψ (Φ Γ n),.arr false false nb 3 (λi j=>[Ψ (Φ Γ (f i)),Ψ (Φ Γ (-1)),Ψ (Φ Γ (q i))].getD j .top),.val (.slice none 0 0),.val (.bool fav),Ψ (Φ Γ c),Ψ (Φ Γ d),Ψ (Φ Γ st)])],z.2.1⟩) (λz=>n - z.1) (0,5,4,λ_ _=>.top) ⟨xb6 _,Ωq,λi hi=>absurd hi (Nat.not_lt_zero i)⟩ (Weak.trans (yU (d:=3) (k:=1) (t:=2) (λ_ _=>.top) ΩG) (weakSU (xa5 _) Ω2 ?a2)) λz hz=>?_
 case a2=>((repeat' (refine SubHp.ent ΩS ?_));exact λq v hv=>Ωs)
 obtain⟨r,n1,sid,row⟩:=z;obtain⟨hr,⟨hs1,hs2⟩,hrow⟩:=hz;dsimp only at hr hs1 hs2 hrow;dsimp only;clear NB;have NB:=(⟨nmA hs2,nmE (Ω:sid≠0),nmA (Ω:0<n1)⟩:_∧_∧_);by_cases hrn:r<n
 ·have hlt:=decide_eq_true (Ω:((r:Nat):Int)<(n:Nat))
  (repeat' first|refine sD ?_ ?_<;>intro _|refine aAh ?_|simp -dsimp only[↓RP,RQ,seval,hlt,TYz,TYx,NB,QÁ]);refine qk (c26 nb n f q fav c d st (r:Nat) hnb hq) (by simp only[SubL,and_true];exact⟨by unfold bkS za;exact qr _ (jf n nb f (λ_=>-1) q fav c d st),qr _ (by simp[Old,OldL,I])⟩) Ωae ?_;(repeat' first|refine sD ?_ ?_<;>intro _|refine aAh ?_|simp -dsimp only[↓RP,RQ,seval,QÁ,TYz,TYx,NB]);refine⟨(r+1,_,n1+10,λi j=>if i<r then row i j else [Ψ (Φ Γ (cF f q nb (r:Nat)))].getD (i - r+j) .top),⟨hrn,⟨Ωc,?p2⟩,?p3⟩,Ωc,weakSU (xa5 _) Ωd ?p4⟩
  case p2=>dsimp only;omega
  case p3=>
   intro i hi;dsimp only at hi ⊢;by_cases h:i<r
   ·rw[if_pos h];exact hrow i h
   ·obtain rfl:i=r:=by omega
    rw[if_neg h,xb8];rfl
  case p4=>dsimp only;((repeat' (refine SubHp.ent ΩA ?_));exact λq v hv=>Ωs)
 ·obtain rfl:r=n:=by omega
  have hlt:=decide_eq_false (Ω:¬((r:Nat):Int)<(r:Nat));(repeat' first|refine sD ?_ ?_<;>intro _|refine aAh ?_|simp -dsimp only[↓RP,RQ,seval,hlt,TYz,TYx,NB,QÁ]);intro i j hi hj;obtain rfl:j=0:=by omega
  exact hrow i hi
def dvA(K:Nat)(a b c:Nat→Int):SV:=.arr false false K 3 (λi j=>[Ψ (Φ Γ (a i)),Ψ (Φ Γ (b i)),Ψ (Φ Γ (c i))].getD j .top)
theorem qfe(K:Nat)(a b c:Nat→Int):Old (dvA K a b c):=by
 simp only[dvA,Old,true_and];intro i j hi hj;rcases(Ω:j=0∨j=1∨j=2)with rfl|rfl|rfl<;>simp[Old]
theorem c54(K:Nat)(a b c:Nat→Int)(hK:K≤1000):qf Tryz.prog 54 [dvA K a b c,dvA K a b c] (B true):=by
 refine qg Tryz.func54 rfl Ωb follows Ωb _ _ (by rw[Tryz.ntmps54];simp) (by simp only[OldL,and_true];exact⟨qfe _ _ _ _,qfe _ _ _ _⟩) ?_;have NB:True:=trivial;unfold B
 conv=>arg 4;unfold dvA
 (repeat' first|refine sD ?_ ?_<;>intro _|refine aAh ?_|simp -dsimp only[↓RP,RQ,seval,TYz,TYx,NB,QÁ]);refine qp (λ(z:Nat×Nat)=>z.1≤K) (λz=>⟨[(0,.arr false false K 3 (λi j=>[Ψ (Φ Γ (a i)),Ψ (Φ Γ (b i)),Ψ (Φ Γ (c i))].getD j .top)),(1,.arr false false K 3 (λi j=>[Ψ (Φ Γ (a i)),Ψ (Φ Γ (b i)),Ψ (Φ Γ (c i))].getD j .top)),(5,Ψ (Φ Γ (z.1:Nat)))],[],z.2⟩) (λz=>K - z.1) (0,_) (xb6 _) (weakSU (xa5 _) Ωd (SubHp.refl _)) λz hz=>?_;obtain⟨w,n1⟩:=z;dsimp only at hz ⊢;by_cases hw:w<K
 ·have hlt:=decide_eq_true (Ω:((w:Nat):Int)<(K:Nat))
  (repeat' first|refine sD ?_ ?_<;>intro _|refine aAh ?_|simp -dsimp only[↓RP,RQ,seval,hlt,TYz,TYx,NB,QÁ]);exact⟨(w+1,_),hw,Ωc,weakSU (xa5 _) Ωd (SubHp.refl _)⟩
 ·obtain rfl:w=K:=by omega
  have hlt:=decide_eq_false (Ω:¬((w:Nat):Int)<(w:Nat));repeat' first|refine sD ?_ ?_<;>intro _|refine aAh ?_|simp -dsimp only[↓RP,RQ,seval,hlt,TYz,TYx,NB,QÁ]
end Go.Tn
end
