/- A part of the proof. -/
import Derived.Test.YtacejomniokahaaGreatPE
import Derived.Test.YtacejomniokahaaGreatPC
open Nat renaming reduceMul→xa0,reduceAdd→xa1,reduceEqDiff→xa2,reduceLT→xa3,reduceLeDiff→xa4,le_refl→xa5,eq_of_beq_eq_true→xa6,le_of_ble_eq_true→xa7,lt_of_lt_of_le→xa9,zero_add→xb0,add_zero→xb1,add_assoc→xb2,lt_succ_self→xb5,zero_le→xb6,sub_self→xb8,le_trans→xc1
open List renaming getD_eq_getElem?_getD→xc6,getElem?_eq_getElem→xc7,length_append→xc8,getElem?_append_left→xc9,getElem?_append_right→xd0,length_singleton→xd1,append_nil→xd3,mem_append→xd4,mem_cons_self→xd5,getElem?_cons_zero→xd6,getElem?_cons_succ→xd7,length_take→xd9,mem_singleton→xe0,length_map→xe1,length_cons→xe4
open Bool renaming and_eq_true→xe6,false_eq_true→xe7,true_and→xf0
open Array renaming getD_eq_getD_getElem?→xf5,getElem?_toList→xf6
open Classical renaming byContradiction→xf9
set_option linter.unusedVariables false
set_option linter.unusedSimpArgs false
set_option linter.defProp false
set_option maxRecDepth 1000000
set_option maxHeartbeats 16000000
section
namespace Go.Tn
open Go.Proofs
open Go.Sx
theorem TYP:True∧qq Tryz.prog 2=some ⟨false,1,some [.int .i64 0],.int .i64⟩∧qq Tryz.prog 3=some ⟨false,1,some [.int .i64 0],.int .i64⟩∧qq Tryz.prog 4=some ⟨false,1,some [.bool false],.bool⟩∧qq Tryz.prog 5=some ⟨false,1,some [.int .u8 0],.int .u8⟩∧qq Tryz.prog 22=some ⟨false,1,some [.slice none 0 0],.slice 3 1⟩∧qq Tryz.prog 25=some ⟨false,1,some [.slice none 0 0],.slice 5 1⟩∧qq Tryz.prog 28=some ⟨false,1,some [.int .i64 0],.int .i64⟩∧qq Tryz.prog 45=some ⟨false,1,some [.slice none 0 0],.slice 49 2⟩∧qq Tryz.prog 46=some ⟨false,1,some [.slice none 0 0],.slice 51 3⟩∧qq Tryz.prog 48=some ⟨true,8,some [.int .i64 0,.int .i64 0,.slice none 0 0,.slice none 0 0,.bool false,.int .i64 0,.int .i64 0,.int .i64 0],.struct [(0,1,some false),(1,1,some false),(2,1,some false),(3,1,some false),(4,1,some false),(5,1,some false),(6,1,some false),(7,1,some false)]⟩∧za Tryz.prog 48=some [(0,1),(1,1),(2,1),(3,1),(4,1),(5,1),(6,1),(7,1)]∧qq Tryz.prog 49=some ⟨true,2,some [.int .u8 0,.int .u8 0],.array 2 5 1⟩∧za Tryz.prog 49=some [(0,1),(1,1)]∧gm Tryz.prog 49=some [.i .u8,.i .u8]∧qq Tryz.prog 51=some ⟨true,3,some [.int .i64 0,.int .i64 0,.int .i64 0],.struct [(0,1,some false),(1,1,some false),(2,1,some false)]⟩∧za Tryz.prog 51=some [(0,1),(1,1),(2,1)]∧gm Tryz.prog 51=some [.i .i64,.i .i64,.i .i64]∧qq Tryz.prog 55=some ⟨true,2,some [.int .i64 0,.int .i64 0],.array 2 3 1⟩∧za Tryz.prog 55=some [(0,1),(1,1)]∧gm Tryz.prog 55=some [.i .i64,.i .i64]∧qq Tryz.prog 57=some ⟨true,6,some [.int .i64 0,.int .i64 0,.int .i64 0,.int .i64 0,.int .i64 0,.int .i64 0],.struct [(0,1,some false),(1,1,some false),(2,1,some false),(3,1,some false),(4,1,some false),(5,1,some false)]⟩∧za Tryz.prog 57=some [(0,1),(1,1),(2,1),(3,1),(4,1),(5,1)]∧gm Tryz.prog 57=some [.i .i64,.i .i64,.i .i64,.i .i64,.i .i64,.i .i64]∧qq Tryz.prog 60=some ⟨false,1,some [.slice none 0 0],.slice 22 1⟩∧qP Tryz.prog 46=24∧qP Tryz.prog 48=96∧qP Tryz.prog 51=24∧qP Tryz.prog 55=16:=⟨trivial,Ωd,Ωd,Ωd,Ωd,Ωd,Ωd,Ωd,Ωd,Ωd,Ωd,Ωd,Ωd,Ωd,Ωd,Ωd,Ωd,Ωd,Ωd,Ωd,Ωd,Ωd,Ωd,Ωd,Ωd,Ωd,Ωd,Ωd,Ωd⟩
def zh(nb:Nat)(f g q:Nat→Int):SV:=.arr false false nb 3 (fun i j=>[SV.val (.int .i64 (f i)),.val (.int .i64 (g i)),.val (.int .i64 (q i))].getD j .top)
def jR(a b c:Int):SV:=.agg [.val (.int .i64 a),.val (.int .i64 b),.val (.int .i64 c)]
def bkS(n:Int)(nb:Nat)(f g q:Nat→Int)(fav:Bool)(c d st:Int):SV:=.agg [.val (.int .i64 0),.val (.int .i64 n),zh nb f g q,.val (.slice none 0 0),.val (.bool fav),.val (.int .i64 c),.val (.int .i64 d),.val (.int .i64 st)]
theorem zD(nb:Nat)(f g q:Nat→Int):Old (zh nb f g q):=by
 simp only[zh,Old];refine⟨trivial,fun i j hi hj=>?_⟩;have:j=0∨j=1∨j=2:=by omega
 rcases this with rfl|rfl|rfl<;>simp[Old]
theorem wl(n:Int)(nb:Nat)(f g q:Nat→Int)(fav:Bool)(c d st:Int):Old (bkS n nb f g q fav c d st):=by
 simp only[bkS,Old,OldL];exact⟨trivial,trivial,zD _ _ _ _,trivial,trivial,trivial,trivial,trivial,trivial⟩
theorem YT(a b c:Int):Old (jR a b c):=by simp[jR,Old,OldL]
def okB(n a b c:Int):Prop:=(1≤c∧c≤1000)∧(0≤a∧a<n)∧b = -1
instance(n a b c:Int):Decidable (okB n a b c):=inferInstanceAs (Decidable (_∧_∧_))
def qhO(n c d st:Int):Prop:=(2≤n∧n≤8)∧(0≤c∧c≤1000000)∧(0≤d∧d≤500)∧1≤st∧st≤100
instance(n c d st:Int):Decidable (qhO n c d st):=inferInstanceAs (Decidable (_∧_∧_∧_∧_))
def ckB(n:Int)(nb:Nat)(f g q:Nat→Int)(c d st:Int):Int:=if ¬qhO n c d st then 3 else if 100<nb then 6 else if ¬(∀i,i<nb→okB n (f i) (g i) (q i))then 16 else 0
theorem ckB_ok{n:Int}{nb:Nat}{f g q:Nat→Int}{c d st:Int}:ckB n nb f g q c d st=0↔qhO n c d st∧nb≤100∧∀i,i<nb→okB n (f i) (g i) (q i):=by
 unfold ckB;by_cases h1:qhO n c d st
 ·rw[if_neg (fun h=>h h1)]
  by_cases h2:100<nb
  ·rw[if_pos h2]
   exact⟨fun h=>by omega,fun h=>by omega⟩
  ·rw[if_neg h2]
   by_cases h3:∀i,i<nb→okB n (f i) (g i) (q i)
   ·rw[if_neg (fun h=>h h3)]
    exact⟨fun _=>⟨h1,Ω,h3⟩,fun _=>rfl⟩
   ·rw[if_pos h3]
    exact⟨fun h=>by omega,fun h=>absurd h.2.2 h3⟩
 ·rw[if_pos h1]
  exact⟨fun h=>by omega,fun h=>absurd h.1 h1⟩
theorem c24(a b c:Int):qf Tryz.prog 24 [I a,I b,I c] (jR a b c):=by
 refine qg Tryz.func24 rfl Ωd follows Ωd _ _ (by rw[Tryz.ntmps24];simp) Ωg ?_;unfold I jR;(repeat' (first|refine sD ?_ ?_<;>intro _|refine aAa ?_|(simp -dsimp only[↓RP,RQ,xa0,reduceIte,reduceCtorEq,xa1,xa2,xa3,xa4,TYP,QT,QN])))
 all_goals try exact Ωb
theorem qhP(x:Int):qf Tryz.prog 94 [.val (.slice none 0 0),I x] (B false):=by
 refine qg Tryz.func94 rfl Ωd follows Ωd _ _ (by rw[Tryz.ntmps94];simp) Ωg ?_;unfold I B;(repeat' (first|refine sD ?_ ?_<;>intro _|refine aAa ?_|(simp -dsimp only[↓RP,RQ,xa0,reduceIte,reduceCtorEq,xa1,xa2,xa3,xa4,TYP,QT,QN])))
 all_goals try exact Ωb
 refine qn (fun(_:Unit)=>True) (fun _=>⟨[(0,.val (.slice none 0 0)),(5,.val (.int .i64 0))],[],10⟩) (fun _=>0) () trivial (weakSU Ω Ωf (SubHp.refl _)) fun z hz=>?_;(repeat' (first|refine sD ?_ ?_<;>intro _|refine aAa ?_|(simp -dsimp only[↓RP,RQ,xa0,reduceIte,reduceCtorEq,xa1,xa2,xa3,xa4,TYP,QT,QN])))
 all_goals try exact Ωb
theorem qoH  : qf Tryz.prog 182 [.val (.int .i64 0)] (B true):=by
 refine qg Tryz.func182 rfl Ωd follows Ωd _ _ (by rw[Tryz.ntmps182];simp) Ωg ?_;unfold B;(repeat' (first|refine sD ?_ ?_<;>intro _|refine aAa ?_|(simp -dsimp only[↓RP,RQ,xa0,reduceIte,reduceCtorEq,xa1,xa2,xa3,xa4,TYP,QT,QN])))
 all_goals try exact Ωb
theorem c90(n:Int)(nb:Nat)(f g q:Nat→Int)(fav:Bool)(c d st:Int)(x y z:Int):qf Tryz.prog 90 [bkS n nb f g q fav c d st,jR x y z] (B (decide (okB n x y z))):=by
 refine qg Tryz.func90 rfl Ωd follows Ωd _ _ (by rw[Tryz.ntmps90];simp) Ωg ?_;have h1:=qoH;unfold bkS jR B zh;by_cases g1:(1≤z∧z≤1000)∧(0≤x∧x<n)
 ·have d1:=decide_eq_false (Ω:¬z<1)
  have d2:=decide_eq_false (Ω:¬1000<z);have d3:=decide_eq_false (Ω:¬x<0);have d4:=decide_eq_false (Ω:¬n≤x);(repeat' (first|refine sD ?_ ?_<;>intro _|refine aAa ?_|(simp -dsimp only[↓RP,RQ,xa0,reduceIte,reduceCtorEq,xa1,xa2,xa3,xa4,d1,d2,d3,d4,TYP,QT,QN])))
  all_goals try exact Ωb
  refine qj (h1) Ωc Ωa ?_;(repeat' (first|refine sD ?_ ?_<;>intro _|refine aAa ?_|(simp -dsimp only[↓RP,RQ,xa0,reduceIte,reduceCtorEq,xa1,xa2,xa3,xa4,QT,TYP,QN])))
  all_goals try exact Ωb
  refine wu ?_;unfold okB;simp[g1]
 ·(repeat' (first|refine sD ?_ ?_<;>intro _|refine aAa ?_|(simp -dsimp only[↓RP,RQ,xa0,reduceIte,reduceCtorEq,xa1,xa2,xa3,xa4,TYP,QT,QN])))
  all_goals try exact Ωb
  all_goals exact wu (by rw[decide_eq_false];exact fun h=>g1 ⟨h.1,h.2.1⟩)
theorem c25(n:Int)(nb:Nat)(f g q:Nat→Int)(fav:Bool)(c d st:Int)(hnb:nb≤1000000):qf Tryz.prog 25 [bkS n nb f g q fav c d st] (I (ckB n nb f g q c d st)):=by
 refine qg Tryz.func25 rfl Ωd follows Ωd _ _ (by rw[Tryz.ntmps25];simp) Ωg ?_;have NB:True:=trivial;unfold bkS I;by_cases g1:qhO n c d st
 ·have⟨⟨a1,a2⟩,⟨a3,a4⟩,⟨a5,a6⟩,a7,a8⟩:=g1
  have d1:=decide_eq_false (Ω:¬n<2);have d2:=decide_eq_false (Ω:¬8<n);have d3:=decide_eq_false (Ω:¬c<0);have d4:=decide_eq_false (Ω:¬1000000<c);have d5:=decide_eq_false (Ω:¬d<0);have d6:=decide_eq_false (Ω:¬500<d);have d7:=decide_eq_false (Ω:¬st<1);have d8:=decide_eq_false (Ω:¬100<st);have z0:=decide_eq_false (Ω:¬(0:Int)<0);have z3:=decide_eq_false (Ω:¬(3:Int)<0);have NB:=(⟨d1,d2,d3,d4,d5,d6,d7,d8,z0,z3⟩:_∧_∧_∧_∧_∧_∧_∧_∧_∧_);by_cases g2:100<nb
  ·have e1:=decide_eq_true (Ω:(100:Int)<(nb:Nat))
   (repeat' (first|refine sD ?_ ?_<;>intro _|refine aAa ?_|(simp -dsimp only[↓RP,RQ,xa0,reduceIte,reduceCtorEq,xa1,xa2,xa3,xa4,zh,e1,TYP,NB,QR,QT,QN])))
   all_goals try exact Ωb
   refine jQ ?_;unfold ckB;rw[if_neg (fun h=>h g1),if_pos g2]
  ·have e1:=decide_eq_false (Ω:¬(100:Int)<(nb:Nat))
   (repeat' (first|refine sD ?_ ?_<;>intro _|refine aAa ?_|(simp -dsimp only[↓RP,RQ,xa0,reduceIte,reduceCtorEq,xa1,xa2,xa3,xa4,zh,e1,TYP,NB,QR,QT,QN])))
   all_goals try exact Ωb
   refine qn (fun(w:Nat)=>w≤nb∧∀i,i<w→okB n (f i) (g i) (q i)) (fun w=>⟨[(1,.ptr 0 0),(3,.val (.int .i64 (w:Nat)))],[(0,.cells 48 [.val (.int .i64 0),.val (.int .i64 n),zh nb f g q,.val (.slice none 0 0),.val (.bool fav),.val (.int .i64 c),.val (.int .i64 d),.val (.int .i64 st)])],200+40*w⟩) (fun w=>nb - w) 0 ⟨xb6 _,fun i hi=>by omega⟩ (weakSU Ω Ωf (SubHp.refl _)) fun w hw=>?_;obtain⟨hw,hk⟩:=hw;by_cases hwm:w<nb
   ·have hlt:=decide_eq_true (Ω:((w:Nat):Int)<(nb:Nat))
    have h90:=c90 n nb f g q fav c d st (f w) (g w) (q w);(repeat' (first|refine sD ?_ ?_<;>intro _|refine aAa ?_|(simp -dsimp only[↓RP,RQ,xa0,reduceIte,reduceCtorEq,xa1,xa2,xa3,xa4,zh,hlt,TYP,NB,QR,QT,QN])))
    all_goals try exact Ωb
    refine qj (h90) Ωz Ωa ?_;by_cases ho:okB n (f w) (g w) (q w)
    ·have e2:=decide_eq_true ho
     (repeat' (first|refine sD ?_ ?_<;>intro _|refine aAa ?_|(simp -dsimp only[↓RP,RQ,xa0,reduceIte,reduceCtorEq,xa1,xa2,xa3,xa4,QT,e2,TYP,NB,QR,QN])))
     all_goals try exact Ωb
     exact⟨w+1,⟨hwm,fun i hi=>(by by_cases e:i=w;(subst e;exact ho);exact hk i Ω)⟩,Ω,weakSU Ω Ωf (SubHp.refl _)⟩
    ·have e2:=decide_eq_false ho
     (repeat' (first|refine sD ?_ ?_<;>intro _|refine aAa ?_|(simp -dsimp only[↓RP,RQ,xa0,reduceIte,reduceCtorEq,xa1,xa2,xa3,xa4,QT,e2,TYP,NB,QR,QN])))
     all_goals try exact Ωb
     refine jQ ?_;unfold ckB;rw[if_neg (fun h=>h g1),if_neg g2,if_pos (fun h=>ho (h w hwm))]
   ·obtain rfl:nb=w:=by omega
    have hlt:=decide_eq_false (Ω:¬((nb:Nat):Int)<(nb:Nat));have d9:=decide_eq_false (Ω:¬n - 2<(0:Int));(repeat' (first|refine sD ?_ ?_<;>intro _|refine aAa ?_|(simp -dsimp only[↓RP,RQ,xa0,reduceIte,reduceCtorEq,xa1,xa2,xa3,xa4,zh,hlt,d9,TYP,NB,QR,QT,QN])))
    all_goals try exact Ωb
    refine qn (fun(_:Unit)=>True) (fun _=>⟨[(1,.ptr 0 0),(4,.val (.int .i64 0))],[(0,.cells 48 [.val (.int .i64 0),.val (.int .i64 n),zh nb f g q,.val (.slice none 0 0),.val (.bool fav),.val (.int .i64 c),.val (.int .i64 d),.val (.int .i64 st)])],300+40*nb⟩) (fun _=>0) () trivial (weakSU Ω Ωf (SubHp.refl _)) fun z hz=>?_;have d10:=decide_eq_false (Ω:¬(0:Int)<0);(repeat' (first|refine sD ?_ ?_<;>intro _|refine aAa ?_|(simp -dsimp only[↓RP,RQ,xa0,reduceIte,reduceCtorEq,xa1,xa2,xa3,xa4,zh,d10,TYP,NB,QR,QT,QN])))
    all_goals try exact Ωb
    refine jQ (ckB_ok.2 ⟨g1,Ω,hk⟩).symm
 ·have z0:=decide_eq_false (Ω:¬(0:Int)<0)
  have z3:=decide_eq_false (Ω:¬(3:Int)<0);(repeat' (first|refine sD ?_ ?_<;>intro _|refine aAa ?_|(simp -dsimp only[↓RP,RQ,xa0,reduceIte,reduceCtorEq,xa1,xa2,xa3,xa4,zh,z0,z3,TYP,NB,QR,QT,QN])))
  all_goals try exact Ωb
  all_goals first|(exfalso;exact g1 ⟨⟨Ω,Ω⟩,⟨Ω,Ω⟩,⟨Ω,Ω⟩,Ω,Ω⟩)|skip
  all_goals refine jQ ?_
  all_goals (unfold ckB;rw[if_pos g1])
end Go.Tn
end
section
namespace Go.Tn
open Go.Proofs
open Go.Sx
theorem TYQ:True∧qq Tryz.prog 32=some ⟨false,1,some [.slice none 0 0],.slice 2 1⟩:=⟨trivial,Ωd⟩
theorem qmy{P:SV→Prop}{a0 a1 a2 a3 a4 a5 a6 a7:SV}(h0:P a0)(h1:P a1)(h2:P a2)(h3:P a3)(h4:P a4)(h5:P a5)(h6:P a6)(h7:P a7):∀j,j<8→P ([a0,a1,a2,a3,a4,a5,a6,a7].getD j .top):=by
 intro j hj;have:j=0∨j=1∨j=2∨j=3∨j=4∨j=5∨j=6∨j=7:=by omega
 rcases this with rfl|rfl|rfl|rfl|rfl|rfl|rfl|rfl<;>assumption
theorem qoI(m:Nat)(u:Nat→Int)(g:Nat)(caps:List SV)(ho:OldL caps)(b:Nat→Bool)(hm:m≤1000000)(hg:∀i,i<m→qf Tryz.prog g (.val (.int .i64 (u i)) :: caps) (B (b i))):qf Tryz.prog 304 [qA m u,.fn (.func g) [] caps] (I (gK b 0 m)):=by
 refine qg Tryz.func304 rfl Ωd follows Ωd _ _ (by rw[Tryz.ntmps304];simp) ΩR ?_
 conv=>arg 4;unfold qA
 (simp -dsimp only[↓RP,RQ,xa0,reduceIte,reduceCtorEq,xa1,xa2,xa3,xa4,TYQ,TYP,TY,Tryz.results304]);refine qn (fun i=>i≤m∧gK b 0 m=gK b i (m - i)) (fun i=>⟨[(0,.arr false false m 1 (fun i _=>.val (.int .i64 (u i)))),(1,.fn (.func g) [] caps),(7,.val (.int .i64 m)),(8,.val (.int .i64 i))],[],0⟩) (fun i=>m - i) 0 ⟨xb6 _,rfl⟩ (gR [] [] ?_ ?_ ?_) fun i hi=>?_
 ·(simp -dsimp only[↓RP,RQ,xa0,reduceIte,reduceCtorEq,xa1,xa2,xa3,xa4,QV]);all_goals (try simp[wkL_refl caps ho,QV])
 iterate 2 focus(simp -dsimp only[↓RP,RQ,xa0,reduceIte,reduceCtorEq,xa1,xa2,xa3,xa4,QV])
 obtain⟨hi,he⟩:=hi;have e1:∀k,m - i=k+1→gK b i (m - i)=if b i=true then(i:Int)else gK b (i+1) k:=fun k hk=>by rw[hk];rfl
 (repeat' (first|refine sD ?_ ?_<;>intro _|refine aA ?_|(simp -dsimp only[↓RP,RQ,xa0,reduceIte,reduceCtorEq,xa1,xa2,xa3,xa4,QT,TYQ,TYP,QN])))
 ·rename_i hlt
  have hlt:i<m:=by omega
  have e2:=e1 (m -(i+1)) Ω;refine qj (hg i hlt) (by(simp -dsimp only[↓RP,RQ,xa0,reduceIte,reduceCtorEq,xa1,xa2,xa3,xa4,QV,I]);all_goals (try simp[subL_refl caps ho,QV])) Ωn ?_;(repeat' (first|refine sD ?_ ?_<;>intro _|refine aA ?_|(simp -dsimp only[↓RP,RQ,xa0,reduceIte,reduceCtorEq,xa1,xa2,xa3,xa4,QT,TYQ,TYP,QN])))
  ·rename_i h
   refine jQ ?_;rw[he,e2,if_pos h]
  ·rename_i h1
   refine⟨i+1,⟨Ω,?_⟩,Ω,gR [] [] ?_ ?_ ?_⟩
   ·rw[he,e2,if_neg (by simp[h1])]
   ·(simp -dsimp only[↓RP,RQ,xa0,reduceIte,reduceCtorEq,xa1,xa2,xa3,xa4,QV]);all_goals (try simp[wkL_refl caps ho,QV])
   iterate 2 focus(simp -dsimp only[↓RP,RQ,xa0,reduceIte,reduceCtorEq,xa1,xa2,xa3,xa4,QV])
 ·rename_i hlt
  refine jQ ?_;have:m - i=0:=by omega
  rw[he,this];rfl
theorem qoJ(m:Nat)(u:Nat→Int)(g:Nat)(caps:List SV)(ho:OldL caps)(b:Nat→Bool)(hm:m≤1000000)(hg:∀i,i<m→qf Tryz.prog g (.val (.int .i64 (u i)) :: caps) (B (b i))):qf Tryz.prog 202 [qA m u,.fn (.func g) [] caps] (B (decide (QW b m))):=by
 refine qg Tryz.func202 rfl Ωd follows Ωd _ _ (by rw[Tryz.ntmps202];simp) ΩR ?_;(simp -dsimp only[↓RP,RQ,xa0,reduceIte,reduceCtorEq,xa1,xa2,xa3,xa4,TY,QV,QN]);refine qj (qoI m u g caps ho b hm hg) (by(simp -dsimp only[↓RP,RQ,xa0,reduceIte,reduceCtorEq,xa1,xa2,xa3,xa4,QV,qA]);all_goals (try simp[subL_refl caps ho,QV])) Ωp ?_;(repeat' (first|refine sD ?_ ?_<;>intro _|refine aA ?_|simp -dsimp only[↓RP,RQ,xa0,reduceIte,reduceCtorEq,xa1,xa2,xa3,xa4,I,B,QV,TYQ,TYP,TY,QN]));refine wu ?_;rw[Bool.eq_iff_iff];simp[←QX]
theorem qoK(n lo hi:Int):qf Tryz.prog 356 (.val (.int .i64 n) :: wv lo hi) (B (decide (n<lo) || decide (hi<n))):=by
 refine qg Tryz.func356 rfl Ωd follows Ωd _ _ (by rw[Tryz.ntmps356];simp[wv]) (by simp[OldL,Old,wv]) ?_;unfold wv B;(repeat' (first|refine sD ?_ ?_<;>intro _|refine aA ?_|simp -dsimp only[↓RP,RQ,xa0,reduceIte,reduceCtorEq,xa1,xa2,xa3,xa4,TYQ,TY,Tryz.results356]))
 all_goals (refine wu ?_;rw[Bool.eq_iff_iff];simp;omega)
theorem qfi(x lo hi:Int):qf Tryz.prog 286 [I lo,I hi,qA 1 (fun _=>x)] (B (decide (lo≤x∧x≤hi))):=by
 refine qg Tryz.func286 rfl Ωd follows Ωd _ _ (by rw[Tryz.ntmps286];simp) Ωg ?_;unfold I B;(simp -dsimp only[↓RP,RQ,xa0,reduceIte,reduceCtorEq,xa1,xa2,xa3,xa4,TYQ,TY,Tryz.results286]);refine qj (qoJ 1 (fun _=>x) 356 (wv lo hi) (Yu lo hi) (fun i=>decide (x<lo) || decide (hi<x)) Ω fun i _=>qoK x lo hi) (by(simp -dsimp only[↓RP,RQ,xa0,reduceIte,reduceCtorEq,xa1,xa2,xa3,xa4,QV,qA,wv,I]);all_goals (try simp[wv,qA])) Ωn ?_;(repeat' (first|refine sD ?_ ?_<;>intro _|refine aA ?_|simp -dsimp only[↓RP,RQ,xa0,reduceIte,reduceCtorEq,xa1,xa2,xa3,xa4,B,TYQ,TY,Tryz.results286]));refine wu ?_;rw[Bool.eq_iff_iff];have:=J5 (fun _=>x) 1 lo hi;rw[qcx]at this;by_cases h:lo≤x∧x≤hi
 ·have h':¬QW (fun i=>decide (x<lo) || decide (hi<x)) 1:=fun y=>this.1 y h
  rw[decide_eq_true h,decide_eq_false h'];simp
 ·rw[decide_eq_false h,decide_eq_true (this.2 h)];simp
def w6(n:Int)(nb:Nat)(f g q:Nat→Int)(fav:Bool)(c d st:Int):List SV:=[.ref false 8 (fun j=>[SV.val (.int .i64 0),.val (.int .i64 n),zh nb f g q,.val (.slice none 0 0),.val (.bool fav),.val (.int .i64 c),.val (.int .i64 d),.val (.int .i64 st)].getD j .top)]
theorem w7(n:Int)(nb:Nat)(f g q:Nat→Int)(fav:Bool)(c d st:Int):OldL (w6 n nb f g q fav c d st):=by
 simp only[w6,OldL,Old,and_true];refine⟨trivial,fun j hj=>?_⟩;have:=zD nb f g q;have:j=0∨j=1∨j=2∨j=3∨j=4∨j=5∨j=6∨j=7:=by omega
 rcases this with rfl|rfl|rfl|rfl|rfl|rfl|rfl|rfl<;>simp_all [Old]
theorem qoL(r:Int)(n:Int)(nb:Nat)(f g q:Nat→Int)(fav:Bool)(c d st:Int):qf Tryz.prog 350 (.val (.int .i64 r) :: w6 n nb f g q fav c d st) (B (decide (r<0) || decide (n≤r))):=by
 refine qg Tryz.func350 rfl Ωd follows Ωd _ _ (by rw[Tryz.ntmps350];simp[w6]) (by simp only[OldL,Old,true_and];exact w7 _ _ _ _ _ _ _ _ _) ?_;unfold w6 B;(repeat' (first|refine sD ?_ ?_<;>intro _|refine aA ?_|simp -dsimp only[↓RP,RQ,xa0,reduceIte,reduceCtorEq,xa1,xa2,xa3,xa4,TYP,TYQ,TY,Tryz.results350]))
 all_goals (refine wu ?_;rw[Bool.eq_iff_iff];simp;omega)
theorem qoM(x:Int)(n:Int)(nb:Nat)(f g q:Nat→Int)(fav:Bool)(c d st:Int):qf Tryz.prog 272 [bkS n nb f g q fav c d st,qA 1 (fun _=>x)] (B (decide (0≤x∧x<n))):=by
 refine qg Tryz.func272 rfl Ωd follows Ωd _ _ (by rw[Tryz.ntmps272];simp) Ωg ?_;unfold bkS B;(simp -dsimp only[↓RP,RQ,xa0,reduceIte,reduceCtorEq,xa1,xa2,xa3,xa4,TYP,TYQ,TY,Tryz.results272]);refine qj (qnz 1 (fun _=>x) 350 (w6 n nb f g q fav c d st) (w7 _ _ _ _ _ _ _ _ _) (fun i=>decide (x<0) || decide (n≤x)) Ω fun i _=>qoL x n nb f g q fav c d st) (by(simp -dsimp only[↓RP,RQ,xa0,reduceIte,reduceCtorEq,xa1,xa2,xa3,xa4,QV,qA,w6,I]);all_goals (try simp[w6,qA,Go.Sx.Sub,Go.Sx.SubL]);all_goals (try (intro j hj;refine⟨qmy (P:=fun z=>Go.Sx.Sub _ z z) ?_ ?_ ?_ ?_ ?_ ?_ ?_ ?_ j hj,hj⟩<;>first|exact qR _ (zD _ _ _ _)|exact qR _ (by simp[Old])))) Ωn ?_;(repeat' (first|refine sD ?_ ?_<;>intro _|refine aA ?_|simp -dsimp only[↓RP,RQ,xa0,reduceIte,reduceCtorEq,xa1,xa2,xa3,xa4,B,TYP,TYQ,TY,Tryz.results272]));refine wu ?_;rw[Bool.eq_iff_iff];have hA:QW (fun i=>decide (x<0) || decide (n≤x)) 1↔¬(0≤x∧x<n):=by
  unfold QW;constructor
  ·rintro⟨i,hi,h⟩;simp at h;omega
  ·intro h;exact⟨0,Ω,Ωj⟩
 by_cases h:0≤x∧x<n
 ·rw[decide_eq_true h,decide_eq_false (fun y=>hA.1 y h)];simp
 ·rw[decide_eq_false h,decide_eq_true (hA.2 h)];simp
theorem qmz(n:Int)(nb:Nat)(f g q:Nat→Int)(fav:Bool)(c d st:Int):qf Tryz.prog 257 [bkS n nb f g q fav c d st] (B true):=by
 refine qg Tryz.func257 rfl Ωd follows Ωd _ _ (by rw[Tryz.ntmps257];simp) Ωg ?_;have NB:True:=trivial;unfold bkS B;(repeat' (first|refine sD ?_ ?_<;>intro _|refine aAa ?_|(simp -dsimp only[↓RP,RQ,xa0,reduceIte,reduceCtorEq,xa1,xa2,xa3,xa4,TYQ,TYP,NB,QR,QT,QN])))
 all_goals try exact Ωb
theorem qoN(n:Int)(nb:Nat)(f g q:Nat→Int)(fav:Bool)(c d st:Int)(x y z:Int)(h:okB n x y z):qf Tryz.prog 289 [bkS n nb f g q fav c d st,jR x y z] (B false):=by
 refine qg Tryz.func289 rfl Ωd follows Ωd _ _ (by rw[Tryz.ntmps289];simp) Ωg ?_;have NB:True:=trivial;obtain⟨⟨b1,b2⟩,⟨b3,b4⟩,rfl⟩:=h;have h1:=qfi z 1 1000;rw[decide_eq_true (Ω:1≤z∧z≤1000)]at h1;have h2:=qoM x n nb f g q fav c d st;rw[decide_eq_true (Ω:0≤x∧x<n)]at h2;have h3:=qmz n nb f g q fav c d st;unfold bkS jR B;(repeat' (first|refine sD ?_ ?_<;>intro _|refine aAa ?_|(simp -dsimp only[↓RP,RQ,xa0,reduceIte,reduceCtorEq,xa1,xa2,xa3,xa4,TYQ,TYP,NB,QR,QT,QN])))
 all_goals try exact Ωb
 refine qj (h1) Ωc Ωa ?_;(repeat' (first|refine sD ?_ ?_<;>intro _|refine aAa ?_|(simp -dsimp only[↓RP,RQ,xa0,reduceIte,reduceCtorEq,xa1,xa2,xa3,xa4,QT,TYQ,TYP,NB,QR,QN])))
 all_goals try exact Ωb
 refine qj (h2) (by simp only[SubL,and_true];refine⟨qR _ (wl _ _ _ _ _ _ _ _ _),?_⟩;(simp -dsimp only[↓RP,RQ,xa0,reduceIte,reduceCtorEq,xa1,xa2,xa3,xa4,QV,qA,I,B]);all_goals (try simp[QV,Go.Sx.Sub,Go.Sx.SubL])) Ωa ?_;(repeat' (first|refine sD ?_ ?_<;>intro _|refine aAa ?_|(simp -dsimp only[↓RP,RQ,xa0,reduceIte,reduceCtorEq,xa1,xa2,xa3,xa4,QT,TYQ,TYP,NB,QR,QN])))
 all_goals try exact Ωb
 refine qj (h3) (by simp only[SubL,and_true];exact qR _ (wl _ _ _ _ _ _ _ _ _)) Ωa ?_;(repeat' (first|refine sD ?_ ?_<;>intro _|refine aAa ?_|(simp -dsimp only[↓RP,RQ,xa0,reduceIte,reduceCtorEq,xa1,xa2,xa3,xa4,QT,TYQ,TYP,NB,QR,QN])))
 all_goals try exact Ωb
theorem qoO(n:Int)(nb:Nat)(f g q:Nat→Int)(fav:Bool)(c d st:Int)(x y z:Int)(h:okB n x y z):qf Tryz.prog 288 (jR x y z :: w6 n nb f g q fav c d st) (B false):=by
 refine qg Tryz.func288 rfl Ωd follows Ωd _ _ (by rw[Tryz.ntmps288];simp[w6]) (by simp only[OldL];exact⟨YT _ _ _,w7 _ _ _ _ _ _ _ _ _⟩) ?_;have NB:True:=trivial;have h1:=qoN n nb f g q fav c d st x y z h;unfold w6 jR B;(repeat' (first|refine sD ?_ ?_<;>intro _|refine aAa ?_|(simp -dsimp only[↓RP,RQ,xa0,reduceIte,reduceCtorEq,xa1,xa2,xa3,xa4,TYQ,TYP,NB,QR,QT,QN])))
 all_goals try exact Ωb
 refine qj (h1) Ωz Ωa ?_;(repeat' (first|refine sD ?_ ?_<;>intro _|refine aAa ?_|(simp -dsimp only[↓RP,RQ,xa0,reduceIte,reduceCtorEq,xa1,xa2,xa3,xa4,QT,TYQ,TYP,NB,QR,QN])))
 all_goals try exact Ωb
theorem qoP(m:Nat)(bf bg bq:Nat→Int)(g:Nat)(caps:List SV)(ho:OldL caps)(b:Nat→Bool)(hm:m≤1000000)(hg:∀i,i<m→qf Tryz.prog g (.agg [.val (.int .i64 (bf i)),.val (.int .i64 (bg i)),.val (.int .i64 (bq i))] :: caps) (B (b i))):qf Tryz.prog 357 [zh m bf bg bq,.fn (.func g) [] caps] (I (gK b 0 m)):=by
 refine qg Tryz.func357 rfl Ωd follows Ωd _ _ (by rw[Tryz.ntmps357];simp) (by simp[OldL,Old,QV,qA,I,ho,zD]) ?_
 conv=>arg 4;unfold zh
 (simp -dsimp only[↓RP,RQ,xa0,reduceIte,reduceCtorEq,xa1,xa2,xa3,xa4,TYQ,TYP,TY,Tryz.results357]);refine qn (fun i=>i≤m∧gK b 0 m=gK b i (m - i)) (fun i=>⟨[(0,.arr false false m 3 (fun i j=>[SV.val (.int .i64 (bf i)),.val (.int .i64 (bg i)),.val (.int .i64 (bq i))].getD j .top)),(1,.fn (.func g) [] caps),(7,.val (.int .i64 m)),(8,.val (.int .i64 i))],[],0⟩) (fun i=>m - i) 0 ⟨xb6 _,rfl⟩ (gR [] [] ?_ ?_ ?_) fun i hi=>?_
 ·(simp -dsimp only[↓RP,RQ,xa0,reduceIte,reduceCtorEq,xa1,xa2,xa3,xa4,QV]);all_goals (try simp[wkL_refl caps ho,QV]);all_goals (try (intro i j hi hj;(have hj3:j=0∨j=1∨j=2:=by omega);(rcases hj3 with h|h|h<;>(subst h;simp[QV,Wk,Go.Sx.Sub]))))
 iterate 2 focus(simp -dsimp only[↓RP,RQ,xa0,reduceIte,reduceCtorEq,xa1,xa2,xa3,xa4,QV])
 obtain⟨hi,he⟩:=hi;have e1:∀k,m - i=k+1→gK b i (m - i)=if b i=true then(i:Int)else gK b (i+1) k:=fun k hk=>by rw[hk];rfl
 (repeat' (first|refine sD ?_ ?_<;>intro _|refine aA ?_|(simp -dsimp only[↓RP,RQ,xa0,reduceIte,reduceCtorEq,xa1,xa2,xa3,xa4,QT,TYQ,TYP,QN])))
 ·rename_i hlt
  have hlt:i<m:=by omega
  have e2:=e1 (m -(i+1)) Ω;refine qj (hg i hlt) (by(simp -dsimp only[↓RP,RQ,xa0,reduceIte,reduceCtorEq,xa1,xa2,xa3,xa4,QV,I]);all_goals (try simp[subL_refl caps ho,QV]);all_goals (try (intro i j hi hj;(have hj3:j=0∨j=1∨j=2:=by omega);(rcases hj3 with h|h|h<;>(subst h;simp[QV,Wk,Go.Sx.Sub]))))) Ωn ?_;(repeat' (first|refine sD ?_ ?_<;>intro _|refine aA ?_|(simp -dsimp only[↓RP,RQ,xa0,reduceIte,reduceCtorEq,xa1,xa2,xa3,xa4,QT,TYQ,TYP,QN])))
  ·rename_i h
   refine jQ ?_;rw[he,e2,if_pos h]
  ·rename_i h1
   refine⟨i+1,⟨Ω,?_⟩,Ω,gR [] [] ?_ ?_ ?_⟩
   ·rw[he,e2,if_neg (by simp[h1])]
   ·(simp -dsimp only[↓RP,RQ,xa0,reduceIte,reduceCtorEq,xa1,xa2,xa3,xa4,QV]);all_goals (try simp[wkL_refl caps ho,QV]);all_goals (try (intro i j hi hj;(have hj3:j=0∨j=1∨j=2:=by omega);(rcases hj3 with h|h|h<;>(subst h;simp[QV,Wk,Go.Sx.Sub]))))
   iterate 2 focus(simp -dsimp only[↓RP,RQ,xa0,reduceIte,reduceCtorEq,xa1,xa2,xa3,xa4,QV])
 ·rename_i hlt
  refine jQ ?_;have:m - i=0:=by omega
  rw[he,this];rfl
theorem qoQ(m:Nat)(bf bg bq:Nat→Int)(g:Nat)(caps:List SV)(ho:OldL caps)(b:Nat→Bool)(hm:m≤1000000)(hg:∀i,i<m→qf Tryz.prog g (.agg [.val (.int .i64 (bf i)),.val (.int .i64 (bg i)),.val (.int .i64 (bq i))] :: caps) (B (b i))):qf Tryz.prog 287 [zh m bf bg bq,.fn (.func g) [] caps] (B (decide (QW b m))):=by
 refine qg Tryz.func287 rfl Ωd follows Ωd _ _ (by rw[Tryz.ntmps287];simp) (by simp[OldL,Old,QV,qA,I,ho,zD]) ?_;(simp -dsimp only[↓RP,RQ,xa0,reduceIte,reduceCtorEq,xa1,xa2,xa3,xa4,TY,QV,QN]);refine qj (qoP m bf bg bq g caps ho b hm hg) (by(simp -dsimp only[↓RP,RQ,xa0,reduceIte,reduceCtorEq,xa1,xa2,xa3,xa4,QV,qA,zh]);all_goals (try simp[subL_refl caps ho,QV]);all_goals (try (intro i j hi hj;(have hj3:j=0∨j=1∨j=2:=by omega);(rcases hj3 with h|h|h<;>(subst h;simp[QV,Wk,Go.Sx.Sub]))))) Ωp ?_;(repeat' (first|refine sD ?_ ?_<;>intro _|refine aA ?_|simp -dsimp only[↓RP,RQ,xa0,reduceIte,reduceCtorEq,xa1,xa2,xa3,xa4,I,B,QV,TYQ,TYP,TY,QN]));refine wu ?_;rw[Bool.eq_iff_iff];simp[←QX]
end Go.Tn
end
section
namespace Go.Tn
open Go.Proofs
open Go.Sx
theorem qnP(g:Nat)(caps:List SV)(ho:OldL caps):qf Tryz.prog 280 [(.val (.slice none 0 0)),.fn (.func g) [] caps] (I (-1)):=by
 refine qg Tryz.func280 rfl Ωd follows Ωd _ _ (by rw[Tryz.ntmps280];simp) ΩR ?_;have NB:True:=trivial;unfold I;(repeat' (first|refine sD ?_ ?_<;>intro _|refine aAa ?_|(simp -dsimp only[↓RP,RQ,xa0,reduceIte,reduceCtorEq,xa1,xa2,xa3,xa4,TYQ,TYP,NB,QR,QT,QN])))
 all_goals try exact Ωb
 refine qn (fun(_:Unit)=>True) (fun _=>⟨[(0,(.val (.slice none 0 0))),(8,.val (.int .i64 0)),(7,.val (.int .i64 0))],[],10⟩) (fun _=>0) () trivial (weakSU Ω Ωf (SubHp.refl _)) fun z hz=>?_;(repeat' (first|refine sD ?_ ?_<;>intro _|refine aAa ?_|(simp -dsimp only[↓RP,RQ,xa0,reduceIte,reduceCtorEq,xa1,xa2,xa3,xa4,TYQ,TYP,NB,QR,QT,QN])))
 all_goals try exact Ωb
theorem qnQ(g:Nat)(caps:List SV)(ho:OldL caps):qf Tryz.prog 167 [(.val (.slice none 0 0)),.fn (.func g) [] caps] (B false):=by
 refine qg Tryz.func167 rfl Ωd follows Ωd _ _ (by rw[Tryz.ntmps167];simp) ΩR ?_;have NB:True:=trivial;have h1:=qnP g caps ho;unfold B;(repeat' (first|refine sD ?_ ?_<;>intro _|refine aAa ?_|(simp -dsimp only[↓RP,RQ,xa0,reduceIte,reduceCtorEq,xa1,xa2,xa3,xa4,TYQ,TYP,NB,QR,QT,QN])))
 all_goals try exact Ωb
 refine qj (h1) (by(simp -dsimp only[↓RP,RQ,xa0,reduceIte,reduceCtorEq,xa1,xa2,xa3,xa4,QV,qA,I,B]);all_goals (try simp[QV,Go.Sx.Sub,Go.Sx.SubL,subL_refl caps ho])) Ωa ?_;(repeat' (first|refine sD ?_ ?_<;>intro _|refine aAa ?_|(simp -dsimp only[↓RP,RQ,xa0,reduceIte,reduceCtorEq,xa1,xa2,xa3,xa4,QT,TYQ,TYP,NB,QR,QN])))
 all_goals try exact Ωb
 all_goals (refine wu ?_;simp)
theorem qnR(n:Int)(nb:Nat)(f g q:Nat→Int)(fav:Bool)(c d st:Int):qf Tryz.prog 272 [bkS n nb f g q fav c d st,(.val (.slice none 0 0))] (B true):=by
 refine qg Tryz.func272 rfl Ωd follows Ωd _ _ (by rw[Tryz.ntmps272];simp) Ωg ?_;have NB:True:=trivial;have h1:=qnQ 350 (w6 n nb f g q fav c d st) (w7 _ _ _ _ _ _ _ _ _);unfold bkS B;(repeat' (first|refine sD ?_ ?_<;>intro _|refine aAa ?_|(simp -dsimp only[↓RP,RQ,xa0,reduceIte,reduceCtorEq,xa1,xa2,xa3,xa4,TYQ,TYP,NB,QR,QT,QN])))
 all_goals try exact Ωb
 refine qj (h1) (by(simp -dsimp only[↓RP,RQ,xa0,reduceIte,reduceCtorEq,xa1,xa2,xa3,xa4,QV,qA,w6,I]);all_goals (try simp[w6,qA,Go.Sx.Sub,Go.Sx.SubL]);all_goals (try (intro j hj;refine⟨qmy (P:=fun z=>Go.Sx.Sub _ z z) ?_ ?_ ?_ ?_ ?_ ?_ ?_ ?_ j hj,hj⟩<;>first|exact qR _ (zD _ _ _ _)|exact qR _ (by simp[Old])))) Ωa ?_;(repeat' (first|refine sD ?_ ?_<;>intro _|refine aAa ?_|(simp -dsimp only[↓RP,RQ,xa0,reduceIte,reduceCtorEq,xa1,xa2,xa3,xa4,QT,TYQ,TYP,NB,QR,QN])))
 all_goals try exact Ωb
theorem qnS  : qf Tryz.prog 185 [(.val (.slice none 0 0))] (B true):=by
 refine qg Tryz.func185 rfl Ωd follows Ωd _ _ (by rw[Tryz.ntmps185];simp) Ωg ?_;have NB:True:=trivial;unfold B;(repeat' (first|refine sD ?_ ?_<;>intro _|refine aAa ?_|(simp -dsimp only[↓RP,RQ,xa0,reduceIte,reduceCtorEq,xa1,xa2,xa3,xa4,TYQ,TYP,NB,QR,QT,QN])))
 all_goals try exact Ωb
 refine qn (fun(_:Unit)=>True) (fun _=>⟨[(0,(.val (.slice none 0 0))),(4,(.val (.slice none 0 0))),(6,.val (.int .i64 0)),(5,.val (.int .i64 0))],[],10⟩) (fun _=>0) () trivial (weakSU Ω Ωf (SubHp.refl _)) fun z hz=>?_;(repeat' (first|refine sD ?_ ?_<;>intro _|refine aAa ?_|(simp -dsimp only[↓RP,RQ,xa0,reduceIte,reduceCtorEq,xa1,xa2,xa3,xa4,TYQ,TYP,NB,QR,QT,QN])))
 all_goals try exact Ωb
theorem qoR(n:Int)(nb:Nat)(f g q:Nat→Int)(fav:Bool)(c d st:Int)(h:ckB n nb f g q c d st=0):qf Tryz.prog 187 [bkS n nb f g q fav c d st] (I 0):=by
 refine qg Tryz.func187 rfl Ωd follows Ωd _ _ (by rw[Tryz.ntmps187];simp) Ωg ?_;have NB:True:=trivial;obtain⟨⟨⟨a1,a2⟩,⟨a3,a4⟩,⟨a5,a6⟩,a7,a8⟩,hn,hok⟩:=ckB_ok.1 h;have h1:=qfi 0 0 3;rw[decide_eq_true (Ω:(0:Int)≤0∧(0:Int)≤3)]at h1;have h2:=qfi n 2 8;rw[decide_eq_true (Ω:2≤n∧n≤8)]at h2;have h3:=qfi c 0 1000000;rw[decide_eq_true (Ω:0≤c∧c≤1000000)]at h3;have h4:=qfi d 0 500;rw[decide_eq_true (Ω:0≤d∧d≤500)]at h4;have h5:=qfi st 1 100;rw[decide_eq_true (Ω:1≤st∧st≤100)]at h5;have h6:=qoQ nb f g q 288 (w6 n nb f g q fav c d st) (w7 _ _ _ _ _ _ _ _ _) (fun _=>false) Ω (fun i hi=>qoO n nb f g q fav c d st (f i) (g i) (q i) (hok i hi));rw[decide_eq_false (show ¬QW (fun _=>false) nb by rintro⟨i,_,h⟩;simp at h)]at h6;have h7:=qnR n nb f g q fav c d st;have h8:=qnS;have e1:=decide_eq_false (Ω:¬(100:Int)<(nb:Nat));have e2:=decide_eq_false (Ω:¬n - 2<(0:Int));unfold bkS I;(repeat' (first|refine sD ?_ ?_<;>intro _|refine aAa ?_|(simp -dsimp only[↓RP,RQ,xa0,reduceIte,reduceCtorEq,xa1,xa2,xa3,xa4,zh,TYQ,TYP,NB,QR,QT,QN])))
 all_goals try exact Ωb
 refine qj (h1) Ωc Ωa ?_;(repeat' (first|refine sD ?_ ?_<;>intro _|refine aAa ?_|(simp -dsimp only[↓RP,RQ,xa0,reduceIte,reduceCtorEq,xa1,xa2,xa3,xa4,QT,TYQ,TYP,NB,QR,QN])))
 all_goals try exact Ωb
 refine qj (h2) Ωc Ωa ?_;(repeat' (first|refine sD ?_ ?_<;>intro _|refine aAa ?_|(simp -dsimp only[↓RP,RQ,xa0,reduceIte,reduceCtorEq,xa1,xa2,xa3,xa4,QT,TYQ,TYP,NB,QR,QN])))
 all_goals try exact Ωb
 refine qj (h3) Ωc Ωa ?_;(repeat' (first|refine sD ?_ ?_<;>intro _|refine aAa ?_|(simp -dsimp only[↓RP,RQ,xa0,reduceIte,reduceCtorEq,xa1,xa2,xa3,xa4,QT,TYQ,TYP,NB,QR,QN])))
 all_goals try exact Ωb
 refine qj (h4) Ωc Ωa ?_;(repeat' (first|refine sD ?_ ?_<;>intro _|refine aAa ?_|(simp -dsimp only[↓RP,RQ,xa0,reduceIte,reduceCtorEq,xa1,xa2,xa3,xa4,QT,TYQ,TYP,NB,QR,QN])))
 all_goals try exact Ωb
 refine qj (h5) Ωc Ωa ?_;(repeat' (first|refine sD ?_ ?_<;>intro _|refine aAa ?_|(simp -dsimp only[↓RP,RQ,xa0,reduceIte,reduceCtorEq,xa1,xa2,xa3,xa4,QT,TYQ,TYP,NB,QR,QN])))
 all_goals try exact Ωb
 (repeat' (first|refine sD ?_ ?_<;>intro _|refine aAa ?_|(simp -dsimp only[↓RP,RQ,xa0,reduceIte,reduceCtorEq,xa1,xa2,xa3,xa4,zh,e1,TYQ,TYP,NB,QR,QT,QN])))
 all_goals try exact Ωb
 refine qj (h6) (by(simp -dsimp only[↓RP,RQ,xa0,reduceIte,reduceCtorEq,xa1,xa2,xa3,xa4,QV,qA,w6,zh,I]);all_goals (try simp[w6,zh,Go.Sx.Sub,Go.Sx.SubL]);all_goals (try (refine⟨?_,?_⟩));all_goals (try all_goals (try (intro i j hi hj;(have hj3:j=0∨j=1∨j=2:=by omega);(rcases hj3 with h|h|h<;>(subst h;simp[QV,Wk,Go.Sx.Sub])))));all_goals (try (intro j hj;refine⟨qmy (P:=fun z=>Go.Sx.Sub _ z z) ?_ ?_ ?_ ?_ ?_ ?_ ?_ ?_ j hj,hj⟩<;>first|exact qR _ (zD _ _ _ _)|exact qR _ (by simp[Old])))) Ωa ?_;(repeat' (first|refine sD ?_ ?_<;>intro _|refine aAa ?_|(simp -dsimp only[↓RP,RQ,xa0,reduceIte,reduceCtorEq,xa1,xa2,xa3,xa4,QT,e2,TYQ,TYP,NB,QR,QN])))
 all_goals try exact Ωb
 refine qj (h7) (by simp only[SubL,and_true];refine⟨qR _ (wl _ _ _ _ _ _ _ _ _),?_⟩;(simp -dsimp only[↓RP,RQ,xa0,reduceIte,reduceCtorEq,xa1,xa2,xa3,xa4,QV,qA,I,B]);all_goals (try simp[QV,Go.Sx.Sub,Go.Sx.SubL])) Ωa ?_;(repeat' (first|refine sD ?_ ?_<;>intro _|refine aAa ?_|(simp -dsimp only[↓RP,RQ,xa0,reduceIte,reduceCtorEq,xa1,xa2,xa3,xa4,QT,e2,TYQ,TYP,NB,QR,QN])))
 all_goals try exact Ωb
 refine qj (h8) Ωc Ωa ?_;(repeat' (first|refine sD ?_ ?_<;>intro _|refine aAa ?_|(simp -dsimp only[↓RP,RQ,xa0,reduceIte,reduceCtorEq,xa1,xa2,xa3,xa4,QT,TYQ,TYP,NB,QR,QN])))
 all_goals try exact Ωb
end Go.Tn
end
section
namespace Go.Tn
open Go.Proofs
open Go.Sx
theorem YU:qq Tryz.prog 22=some ⟨false,1,some [.slice none 0 0],.slice 3 1⟩:=by kernel_rfl
theorem ty3:qq Tryz.prog 3=some ⟨false,1,some [.int .i64 0],.int .i64⟩:=by kernel_rfl
theorem qhQ{O:Ctx}{fr:List (Nat×SV)}{hp:List (Nat×Blk)}{nid d id n k:Nat}(h:Go.Sx.look fr d=.vec id n k):Weak O ⟨fr,hp,nid⟩ ⟨putFr fr d (.que id 0 n k),hp,nid⟩:=fun base okc ns outs x w ⟨r,h'⟩=>⟨r,h'.sat,h'.keys,fun i=>by
 show Rep _ _ _ _ (Go.Sx.look (putFr fr d _) i) _;rw[zl];split
 ·rename_i e
  have hv:=h'.fr d;rw[show(⟨fr,hp,nid⟩:St).fr=fr from rfl,h]at hv;rw[e];generalize x.tmps.getD d undef=v at hv ⊢;cases hv with
  |vecNil _ _ hN hr=>exact Rep.queNil (N:=fun x=>x<nid) _ _ _ _ hN
  |vec _ _ _ b cap cs t hN hr hb hcs hcap hmx=>
   have q:=Rep.que (N:=fun x=>x<nid) (G:=Gd base okc r (fun x=>x<nid) hp w) id 0 n k b cap cs t hN hr hb (by rw[xb0];exact hcs) hcap (by rw[xb0];exact hmx);rw[Nat.zero_mul]at q;exact q
 ·exact h'.fr i,h'.size,h'.lo,h'.out,h'.rfix,h'.defers⟩
def setN(f:Nat→Nat)(k x:Nat):Nat→Nat:=fun i=>if i=k then x else f i
def w8(start i:Nat):List Nat→Nat→(Nat→Nat)→List Nat→Bool×(Nat→Nat)×List Nat
 |[],_,by',wait=>(false,by',wait)
 |to :: l,w,by',wait=>if 0<by' to then w8 start i l (w+1) by' wait else if to=start then(true,setN by' to (1+i*5+w),wait)else w8 start i l (w+1) (setN by' to (1+i*5+w)) (wait++[to])
def qfj(L:Nat→List Nat)(start:Nat):Nat→(Nat→Nat)→List Nat→Option (Bool×(Nat→Nat))
 |0,_,_=>none
 |_+1,by',[]=>some (false,by')
 |f+1,by',i :: wait=>if (w8 start i (L i) 0 by' wait).1=true then some (true,(w8 start i (L i) 0 by' wait).2.1)else qfj L start f (w8 start i (L i) 0 by' wait).2.1 (w8 start i (L i) 0 by' wait).2.2
def GY(L:Nat→List Nat)(N fb fk:Nat):Nat→Nat→List Nat→Option (List Nat)
 |0,_,best=>some best
 |k+1,start,best=>match qfj L start fb (fun _=>0) [start]with
  |none=>none
  |some (false,_)=>GY L N fb fk k (start+1) best
  |some (true,by')=>match Vg by' N start fk start []with
   |none=>none
   |some l=>GY L N fb fk k (start+1) (if best.length=0∨l.length<best.length then l.reverse else best)
structure Cl(N:Nat)(L:Nat→List Nat)(nx:Nat→Nat→SV)(H:List (Nat×Blk))(id tb xid:Nat)(A R M:SV)(sid:Nat):Prop where
 N5:N≤100000
 l5:∀i,i<N→(L i).length≤5
 inn:∀i,i<N→∀a,a∈L i→a<N
 tb:blk H tb=some (.cells 253 [A,.vec sid N 5,.vec xid N 1,R,M])
 xid:blk H xid=some (.rows 22 1 N nx)
 nx:∀i,i<N→(L i=[]∧nx i 0=.val (.slice none 0 0))∨∃xi r,nx i 0=.vec xi (L i).length 1∧blk H xi=some (.rows 3 1 (L i).length r)∧qbF (L i) r
 und:Under H id
structure QI(N:Nat)(L:Nat→List Nat)(start fb n1:Nat)(Rb:Bool×(Nat→Nat))(f c:Nat)(by':Nat→Nat)(byr:Nat→Nat→SV)(wait:List Nat)(wid off:Nat)(J:Nat→Nat→SV):Prop where
 fu:f+c=fb
 run:qfj L start f by' wait=some Rb
 row:∀x,x<N→byr x 0=.val (.int .i64 (by' x:Nat))
 le:∀x,x<N→by' x≤1000000
 lt:∀x,x∈wait→x<N
 J:∀i,i<wait.length→J (off+i) 0=.val (.int .i64 (wait.getD i 0:Nat))
 off:off≤c
 len:wait.length≤1+5*c
 w1:n1+11≤wid
 w2:wid<n1+20+450*c
structure RI(N:Nat)(L:Nat→List Nat)(start i c n1 n2 nr:Nat)(R3:Bool×(Nat→Nat)×List Nat)(k:Nat)(by':Nat→Nat)(byr:Nat→Nat→SV)(wait:List Nat)(wid off:Nat)(J:Nat→Nat→SV):Prop where
 kl:k≤(L i).length
 run:w8 start i ((L i).drop k) k by' wait=R3
 row:∀x,x<N→byr x 0=.val (.int .i64 (by' x:Nat))
 le:∀x,x<N→by' x≤1000000
 lt:∀x,x∈wait→x<N
 J:∀i,i<wait.length→J (off+i) 0=.val (.int .i64 (wait.getD i 0:Nat))
 off:off≤c+1
 len:wait.length≤nr+k
 w1:n1+11≤wid
 w2:wid<n2+40+60*k
def bSV(bid:Nat)(best:List Nat):SV:=match best with
 |[]=>.val (.slice none 0 0)
 |_ :: l=>.vec bid (l.length+1) 1
def bH(bid:Nat)(best:List Nat)(r:Nat→Nat→SV)(H:List (Nat×Blk)):List (Nat×Blk):=match best with
 |[]=>H
 |_ :: l=>(bid,.rows 3 1 (l.length+1) r) :: H
theorem Cl.bH{N:Nat}{L:Nat→List Nat}{nx:Nat→Nat→SV}{H:List (Nat×Blk)}{id tb xid:Nat}{A R M:SV}{sid:Nat}(h:Cl N L nx H id tb xid A R M sid){bid:Nat}{best:List Nat}{r:Nat→Nat→SV}{n:Nat}(hn:id≤n)(hb:best≠[]→id≤bid∧bid<n):Cl N L nx (bH bid best r H) n tb xid A R M sid:=by
 cases best with
 |nil=>exact⟨h.N5,h.l5,h.inn,h.tb,h.xid,h.nx,fun k x hx=>xa9 (h.und k x hx) hn⟩
 |cons x l=>
  have⟨h1,h2⟩:=hb Ωh;have key:∀k y,blk H k=some y→blk ((bid,.rows 3 1 (l.length+1) r) :: H) k=some y:=fun k y hy=>by
   have:=h.und k y hy;simp only[blk];rw[if_neg Ω];exact hy
  refine⟨h.N5,h.l5,h.inn,key _ _ h.tb,key _ _ h.xid,fun i hi=>?_,fun k y hy=>?_⟩
  ·rcases h.nx i hi with c|⟨xi,r',c1,c2,c3⟩
   ·exact .inl c
   ·exact .inr ⟨xi,r',c1,key _ _ c2,c3⟩
  ·simp only[Go.Tn.bH,blk]at hy
   split at hy
   ·omega
   ·exact xa9 (h.und k y hy) hn
theorem qhR{b:Nat}{l:List Nat}(h:0<l.length):bSV b l=.vec b l.length 1:=by
 cases l with
 |nil=>cases h
 |cons x l=>rfl
theorem qlJ{b:Nat}{l:List Nat}{r:Nat→Nat→SV}{H:List (Nat×Blk)}(h:0<l.length):bH b l r H=(b,.rows 3 1 l.length r) :: H:=by
 cases l with
 |nil=>cases h
 |cons x l=>rfl
theorem e73(N:Nat)(L:Nat→List Nat)(nx:Nat→Nat→SV)(H:List (Nat×Blk))(id tb xid:Nat)(A R M:SV)(sid fb fk:Nat)(res0:List Nat)(h:Cl N L nx H id tb xid A R M sid)(hfb:fb≤100000)(hfk:fk≤100000)(hF:GY L N fb fk N 0 []=some res0)(C:Nat)(hCC:C=500*fb+100*fk+2000) :
  EffVC Tryz.prog 73 [.ptr tb 0] H id (fun hp' nid' res=>nid'≤id+100+C*N∧∃bid r,(res0≠[]→id≤bid∧bid<nid')∧qbF res0 r∧hp'=bH bid res0 r H∧res=bSV bid res0):=by
 refine vY (zQ [(16,[(0,0)])]) follows Tryz.func73 rfl Ωd Ωd (by rw[Tryz.ntmps73];simp) fun out=>?_;have NB:True:=trivial;have hN5:=h.N5;(repeat' (first|refine sD ?_ ?_<;>intro _|refine aAf ?_|(simp -dsimp only[↓RP,RQ,xa0,reduceIte,reduceCtorEq,xa1,xa2,xa3,xa4,h.tb,↓RY,NB,QS,QT,qN,QN])))
 all_goals try exact Ωb
 refine qn (fun(z:Nat×List Nat×Nat×(Nat→Nat→SV))=>z.1≤N∧GY L N fb fk (N - z.1) z.1 z.2.1=some res0∧qbF z.2.1 z.2.2.2∧(z.2.1≠[]→id≤z.2.2.1∧z.2.2.1<id+20+C*z.1)) (fun z=>⟨[(0,.ptr tb 0),(3,bSV z.2.2.1 z.2.1),(15,.val (.int .i64 (N:Nat))),(16,.val (.int .i64 (z.1:Nat)))],bH z.2.2.1 z.2.1 z.2.2.2 H,id+20+C*z.1⟩) (fun z=>N - z.1) (0,[],0,fun _ _=>.top) ⟨xb6 _,hF,fun i hi=>(by cases hi),fun hh=>absurd rfl hh⟩ (weakSU (by simp only[];omega) (by simp[qX,Go.Sx.look,bSV]) (SubHp.refl _)) fun z hz=>?_;obtain⟨start,best,bid,br⟩:=z;obtain⟨z1,z2,z3,z4⟩:=hz;simp only[]at z1 z2 z3 z4;obtain⟨n1,hn1⟩:∃n1,n1=id+20+C*start:=⟨_,rfl⟩;have hid1:id≤n1:=by rw[hn1,xb2];exact Nat.le_add_right _ _
 rw[←hn1]at z4;simp only[];rw[←hn1];by_cases hlt:start<N
 ·have hlt1:=decide_eq_true (Ω:((start:Nat):Int)<(N:Nat))
  have hC:=h.bH (r:=br) hid1 z4;obtain⟨bv,hbv⟩:∃bv,bv=bSV bid best:=⟨_,rfl⟩;obtain⟨H2,hH2⟩:∃H2,H2=bH bid best br H:=⟨_,rfl⟩;rw[←hbv,←hH2];rw[←hH2]at hC;have htb:=hC.und _ _ hC.tb;have hxid:=hC.und _ _ hC.xid;have NB:=(⟨nmA htb,nmA hxid⟩:_∧_);(repeat' (first|refine sD ?_ ?_<;>intro _|refine aAf ?_|(simp -dsimp only[↓RP,RQ,xa0,reduceIte,reduceCtorEq,xa1,xa2,xa3,xa4,hlt1,hC.tb,↓RY,NB,QS,QT,qN,QN])))
  all_goals try exact Ωb
  have hk:N - start=(N -(start+1))+1:=by omega
  rw[hk]at z2;simp only[GY]at z2;cases hb0:qfj L start fb (fun _=>0) [start]with
  |none=>rw[hb0]at z2;cases z2
  |some Rb=>
  rw[hb0]at z2;refine qn (fun(z:Nat×Nat×(Nat→Nat)×(Nat→Nat→SV)×List Nat×Nat×Nat×(Nat→Nat→SV))=>QI N L start fb n1 Rb z.1 z.2.1 z.2.2.1 z.2.2.2.1 z.2.2.2.2.1 z.2.2.2.2.2.1 z.2.2.2.2.2.2.1 z.2.2.2.2.2.2.2) (fun z=>⟨[(0,.ptr tb 0),(3,bv),(4,.val (.int .i64 (start:Nat))),(5,.vec (n1+8) N 1),(6,.que z.2.2.2.2.2.1 (z.2.2.2.2.2.2.1) (z.2.2.2.2.1.length) 1),(15,.val (.int .i64 (N:Nat))),(16,.val (.int .i64 (start:Nat)))],(z.2.2.2.2.2.1,.rows 3 1 (z.2.2.2.2.2.2.1+z.2.2.2.2.1.length) z.2.2.2.2.2.2.2) ::(n1+8,.rows 3 1 N z.2.2.2.1) :: H2,n1+20+450*z.2.1⟩) (fun z=>z.1) (fb,0,fun _=>0,fun x j=>SV.val ([Value.int IntKind.i64 0].getD j undef),[start],n1+11,0,fun i j=>[SV.val (.int .i64 (start:Nat))].getD (i+j) SV.top) ⟨rfl,hb0,fun x hx=>rfl,fun x hx=>xb6 _,fun x hx=>(by rw[List.mem_singleton.1 hx];exact hlt),fun i hi=>(by have hi:i<1:=hi;obtain rfl:i=0:=Ω;rfl),xa5 _,Ωh,xa5 _,(by show n1+11<n1+20+450*0;omega)⟩ (Weak.trans (qhQ (d:=6) rfl) (weakSU (by simp only[];omega) (by simp[qX,Go.Sx.look,putFr]) (SubHp.refl _))) fun z hz=>?_;obtain⟨f,c,by',byr,wait,wid,off,J⟩:=z;have hz':QI N L start fb n1 Rb f c by' byr wait wid off J:=hz
  obtain⟨y1,y2,y3,y4,y5,y6,y7,y8,y9,y10⟩:=hz';simp only[];cases f with
  |zero=>cases y2
  |succ f=>
  obtain⟨n2,hn2⟩:∃n2,n2=n1+20+450*c:=⟨_,rfl⟩;rw[←hn2];have hw2:wid<n2:=by omega
  clear NB;have NB:=(⟨nmA (Ω:tb<n2),nmA (Ω:xid<n2),nmA hw2,nmE (Ω:wid≠tb),nmE (Ω:wid≠xid),nmE (Ω:wid≠n1+8),nmA htb,nmA hxid,nmA (Ω:n1+8<n2)⟩:_∧_∧_∧_∧_∧_∧_∧_∧_);cases wait with
  |nil=>
   simp only[qfj]at y2;cases y2;(repeat' (first|refine sD ?_ ?_<;>intro _|refine aAf ?_|(simp -dsimp only[↓RP,RQ,xa0,reduceIte,reduceCtorEq,xa1,xa2,xa3,xa4,hC.tb,↓RY,NB,QS,QT,qN,QN])))
   all_goals try exact Ωb
   refine⟨(start+1,best,bid,br),⟨Ω,z2,z3,fun hh=>?_⟩,by first|omega|(simp only[];omega)|(dsimp only;omega),?_⟩
   ·have:=z4 hh
    have hX:id+(20+C*(start+1))=n1+C:=by rw[hn1,Nat.mul_add,Nat.mul_one];omega
    simp only[];rw[hX];omega
   ·have hX:id+(20+C*(start+1))=n1+C:=by rw[hn1,Nat.mul_add,Nat.mul_one];omega
    simp only[];rw[hX,←hbv,←hH2];exact weakSU Ω Ωf (SubHp.skip (hC.und.none Ω) (SubHp.skip (hC.und.none Ω) (SubHp.refl _)))
  |cons i rest=>
   have hi:i<N:=y5 i xd5;have hgt:=decide_eq_true (Ω:(0:Int)<((rest.length+1:Nat):Int));have hJ0:=y6 0 Ωh;rw[xb1]at hJ0;have hJ1:J off 0=SV.val (.int .i64 (i:Nat)):=hJ0;rw[xe4]at y8;have hql:((rest.length+1:Nat):Int) - 1=((rest.length:Nat):Int):=by omega
   obtain⟨R3,hR3⟩:∃R3,R3=w8 start i (L i) 0 by' rest:=⟨_,rfl⟩
   simp only[qfj]at y2;rw[←hR3]at y2;have hl5:=hC.l5 i hi;rcases hC.nx i hi with⟨c1,c2⟩|⟨xi,r,c1,c2,c3⟩
   ·rw[c1]at hR3
    simp only[w8]at hR3;subst hR3;simp only[xe7,if_false]at y2;(repeat' (first|refine sD ?_ ?_<;>intro _|refine aAf ?_|(simp -dsimp only[↓RP,RQ,xa0,reduceIte,reduceCtorEq,xa1,xa2,xa3,xa4,hgt,hql,hC.tb,hC.xid,hJ1,c2,↓RY,NB,QS,QT,qN,QN])))
    all_goals try exact Ωb
    refine qn (fun(z:Unit)=>True) (fun _=>⟨[(0,.ptr tb 0),(3,bv),(4,.val (.int .i64 (start:Nat))),(5,.vec (n1+8) N 1),(6,.que wid (off+1) (rest.length) 1),(15,.val (.int .i64 (N:Nat))),(16,.val (.int .i64 (start:Nat)))]++[(42,.val (.int .i64 0)),(43,.val (.int .i64 0))],(wid,.rows 3 1 (off+1+rest.length) J) ::(n1+8,.rows 3 1 N byr) :: H2,n2+100⟩) (fun _=>0) () trivial (weakSU Ω Ωf (by rw[show off+(rest.length+1)=off+1+rest.length by omega];exact SubHp.refl _)) fun z hz=>?_;(repeat' (first|refine sD ?_ ?_<;>intro _|refine aAf ?_|(simp -dsimp only[↓RP,RQ,xa0,reduceIte,reduceCtorEq,xa1,xa2,xa3,xa4,↓RY,NB,QS,QT,qN,QN])))
    all_goals try exact Ωb
    have hq:QI N L start fb n1 Rb f (c+1) by' byr rest wid (off+1) J:=⟨Ω,y2,y3,y4,fun x hx=>y5 x (List.mem_cons_of_mem _ hx),fun i hi=>by
     have:=y6 (i+1) Ωj;rw[show off+1+i=off+(i+1) by omega,this];rfl,Ω,Ω,y9,Ω⟩
    exact⟨(f,c+1,by',byr,rest,wid,off+1,J),hq,Ωe,weakSU Ωe Ωf (by dsimp only;rw[show off+1+rest.length=off+(1+rest.length) by omega];exact SubHp.refl _)⟩
   ·have hxi:=hC.und _ _ c2
    have NX:=(⟨nmA (Ω:xi<n2),nmE (Ω:xi≠wid),nmA (Ω:xi<n1)⟩:_∧_∧_);(repeat' (first|refine sD ?_ ?_<;>intro _|refine aAf ?_|(simp -dsimp only[↓RP,RQ,xa0,reduceIte,reduceCtorEq,xa1,xa2,xa3,xa4,hgt,hql,hC.tb,hC.xid,hJ1,c1,↓RY,NB,QS,QT,qN,QN])))
    all_goals try exact Ωb
    refine qn (fun(z:Nat×(Nat→Nat)×(Nat→Nat→SV)×List Nat×Nat×Nat×(Nat→Nat→SV))=>RI N L start i c n1 n2 rest.length R3 z.1 z.2.1 z.2.2.1 z.2.2.2.1 z.2.2.2.2.1 z.2.2.2.2.2.1 z.2.2.2.2.2.2) (fun z=>⟨[(0,.ptr tb 0),(3,bv),(4,.val (.int .i64 (start:Nat))),(5,.vec (n1+8) N 1),(6,.que z.2.2.2.2.1 (z.2.2.2.2.2.1) (z.2.2.2.1.length) 1),(15,.val (.int .i64 (N:Nat))),(16,.val (.int .i64 (start:Nat)))]++[(7,.val (.int .i64 (i:Nat))),(41,.vec xi (L i).length 1),(42,.val (.int .i64 ((L i).length:Nat))),(43,.val (.int .i64 (z.1:Nat)))],(z.2.2.2.2.1,.rows 3 1 (z.2.2.2.2.2.1+z.2.2.2.1.length) z.2.2.2.2.2.2) ::(n1+8,.rows 3 1 N z.2.2.1) :: H2,n2+40+60*z.1⟩) (fun z=>(L i).length - z.1) (0,by',byr,rest,wid,off+1,J) (by
     have:RI N L start i c n1 n2 rest.length R3 0 by' byr rest wid (off+1) J:=⟨xb6 _,hR3.symm,y3,y4,fun x hx=>y5 x (List.mem_cons_of_mem _ hx),fun i hi=>by
      have:=y6 (i+1) Ωj;rw[show off+1+i=off+(i+1) by omega,this];rfl,Ω,Ω,y9,Ω⟩
     exact this) (weakSU Ωe Ωf (by dsimp only;rw[show off+(rest.length+1)=off+1+rest.length by omega];exact SubHp.refl _)) fun z hz=>?_
    obtain⟨k,by1,byr1,wait1,wid1,off1,J1⟩:=z;have hz':RI N L start i c n1 n2 rest.length R3 k by1 byr1 wait1 wid1 off1 J1:=hz;obtain⟨x1,x2,x3,x4,x5,x6,x7,x8,x9,x10⟩:=hz';dsimp only;obtain⟨n3,hn3⟩:∃n3,n3=n2+40+60*k:=⟨_,rfl⟩;rw[←hn3];have hw3:wid1<n3:=by omega
    clear NB NX;have NB:=(⟨nmA (Ω:tb<n3),nmA (Ω:xid<n3),nmA hw3,nmE (Ω:wid1≠tb),nmE (Ω:wid1≠xid),nmE (Ω:wid1≠n1+8),nmA htb,nmA hxid,nmA (Ω:n1+8<n3),nmA (Ω:xi<n3),nmE (Ω:xi≠wid1),nmA (Ω:xi<n1)⟩:_∧_∧_∧_∧_∧_∧_∧_∧_∧_∧_∧_);by_cases hkl:k<(L i).length
    ·have hk1:=decide_eq_true (Ω:((k:Nat):Int)<((L i).length:Nat))
     have hdr2:dropBlk H2 wid1=H2:=zf (hC.und.none Ω);obtain⟨to,hto⟩:∃to,to=(L i).getD k 0:=⟨_,rfl⟩;have hgi:(L i)[k]? = some to:=by rw[hto,xc6,xc7 hkl];rfl
     have htoN:to<N:=hC.inn i hi to (List.mem_of_getElem? hgi);have hdr:(L i).drop k=to ::(L i).drop (k+1):=by
      rw[List.drop_eq_getElem_cons hkl];rw[xc7 hkl]at hgi;rw[Option.some.inj hgi]
     rw[hdr]at x2;simp only[w8]at x2;have hrk:=c3 k hkl;rw[←hto]at hrk;have hrt:=x3 to htoN;by_cases hb1:0<by1 to
     ·rw[if_pos hb1]at x2
      have hb2:=decide_eq_true (Ω:(0:Int)<((by1 to:Nat):Int));(repeat' (first|refine sD ?_ ?_<;>intro _|refine aAf ?_|(simp -dsimp only[↓RP,RQ,xa0,reduceIte,reduceCtorEq,xa1,xa2,xa3,xa4,hk1,hrk,hrt,hb2,c2,↓RY,NB,QS,QT,qN,QN])))
      all_goals try exact Ωb
      have hRI:RI N L start i c n1 n2 rest.length R3 (k+1) by1 byr1 wait1 wid1 off1 J1:=⟨hkl,x2,x3,x4,x5,x6,x7,Ω,x9,Ω⟩;exact⟨(k+1,by1,byr1,wait1,wid1,off1,J1),hRI,Ωe,weakSU Ωe Ωf (SubHp.refl _)⟩
     ·rw[if_neg hb1]at x2
      have hb2:=decide_eq_false (Ω:¬(0:Int)<((by1 to:Nat):Int));by_cases hs:to=start
      ·rw[if_pos hs]at x2
       have hs2:=decide_eq_true (Ω:((to:Nat):Int)=(start:Nat));subst x2;simp only[if_true]at y2;have y2:=Option.some.inj y2;subst y2;dsimp only at z2;cases hbk:Vg (setN by1 to (1+i*5+k)) N start fk start []with
       |none=>rw[hbk]at z2;cases z2
       |some l=>
       rw[hbk]at z2;dsimp only at z2;(repeat' (first|refine sD ?_ ?_<;>intro _|refine aAf ?_|(simp -dsimp only[↓RP,RQ,xa0,reduceIte,reduceCtorEq,xa1,xa2,xa3,xa4,hk1,hrk,hrt,hb2,hs2,c2,↓RY,NB,QS,QT,qN,QN])))
       all_goals try exact Ωb
       refine jh ΩA (qoB _ _ tb (n1+8) N start fk (setN by1 to (1+i*5+k)) (fun a b=>if a=to∧b=0 then SV.val (.int .i64 (1+(i:Int)*5+(k:Int)))else byr1 a b) l h.N5 (fun y x hx=>?hUn) hfk hlt Ω Ωah (fun x hx=>?hRo) (fun x hx=>?hLe) hbk) fun hp' n4 res hQ=>?_
       case hUn=>
        simp only[blk]at hx;split at hx
        ·omega
        ·split at hx
         ·omega
         ·have:=hC.und y x hx;omega
       case hRo=>
        by_cases e:x=to
        ·rw[if_pos ⟨e,rfl⟩];unfold setN;rw[if_pos e];congr 2
        ·rw[if_neg (fun e2=>e e2.1)];unfold setN;rw[if_neg e];exact x3 x hx
       case hLe=>
        unfold setN;split
        ·omega
        ·exact x4 x hx
       obtain⟨q1,rid,r',q2,q2',q3,q4,rfl,rfl⟩:=hQ;have q0:n3≤rid:=by omega
       have hX:id+(20+C*(start+1))=n1+C:=by rw[hn1,Nat.mul_add,Nat.mul_one];omega
       rw[hbv,hH2];have hX2:id+20+C*(start+1)=n1+C:=by rw[hn1,Nat.mul_add,Nat.mul_one];omega
       have hlr:0<l.reverse.length:=by rw[List.length_reverse];exact q3
       have hfu:c+1≤fb:=by omega
       cases best with
       |nil=>
        have HN:∀q,n1≤q→blk H q=none:=fun q hq=>h.und.none Ω;rw[show bSV bid ([]:List Nat)=SV.val (.slice none 0 0)from rfl,show Go.Tn.bH bid [] br H=H from rfl];rw[if_pos (.inl rfl)]at z2;(repeat' (first|refine sD ?_ ?_<;>intro _|refine aAf ?_|(simp -dsimp only[↓RP,RQ,xa0,reduceIte,reduceCtorEq,xa1,xa2,xa3,xa4,↓RY,NB,QS,QT,qN,QN])))
        all_goals try exact Ωb
        exact⟨(start+1,l.reverse,rid,r'),⟨Ωe,z2,q4,fun _=>⟨Ωe,by dsimp only;(first|rw[hX2]|rw[hX]);omega⟩⟩,Ωe,by
         dsimp only;rw[qhR hlr,qlJ hlr,List.length_reverse]
         first|rw[hX]|rw[hX2]
         exact weakSU Ω Ωf (SubHp.cons (SubHp.skip (HN _ Ω) (SubHp.skip (HN _ Ω) (SubHp.refl _))))⟩
       |cons bx bl=>
        have⟨z5,z6⟩:=z4 Ωh;have HN:∀q,n1≤q→blk ((bid,.rows 3 1 (bl.length+1) br) :: H) q=none:=fun q hq=>by
         simp only[blk];rw[if_neg Ω];exact h.und.none Ω
        rw[show bSV bid (bx :: bl)=.vec bid (bl.length+1) 1 from rfl,show Go.Tn.bH bid (bx :: bl) br H=(bid,.rows 3 1 (bl.length+1) br) :: H from rfl];have g0:=decide_eq_false (show ¬(((bl.length+1:Nat):Int)=0) by omega);by_cases hcmp:l.length<bl.length+1
        ·rw[if_pos (.inr hcmp)]at z2
         have g1:=decide_eq_true (Ω:((l.length:Nat):Int)<((bl.length+1:Nat):Int));(repeat' (first|refine sD ?_ ?_<;>intro _|refine aAf ?_|(simp -dsimp only[↓RP,RQ,xa0,reduceIte,reduceCtorEq,xa1,xa2,xa3,xa4,g0,g1,↓RY,NB,QS,QT,qN,QN])))
         all_goals try exact Ωb
         exact⟨(start+1,l.reverse,rid,r'),⟨Ωe,z2,q4,fun _=>⟨Ωe,by dsimp only;(first|rw[hX2]|rw[hX]);omega⟩⟩,Ωe,by
          dsimp only;rw[qhR hlr,qlJ hlr,List.length_reverse]
          first|rw[hX]|rw[hX2]
          exact weakSU Ω Ωf (SubHp.cons (SubHp.skip (h.und.none Ω) (SubHp.skip (h.und.none Ω) (SubHp.skip (h.und.none z5) (SubHp.refl _)))))⟩
        ·rw[if_neg (fun e=>e.elim (fun e=>by simp at e) hcmp)]at z2
         have g1:=decide_eq_false (Ω:¬((l.length:Nat):Int)<((bl.length+1:Nat):Int));(repeat' (first|refine sD ?_ ?_<;>intro _|refine aAf ?_|(simp -dsimp only[↓RP,RQ,xa0,reduceIte,reduceCtorEq,xa1,xa2,xa3,xa4,g0,g1,↓RY,NB,QS,QT,qN,QN])))
         all_goals try exact Ωb
         exact⟨(start+1,bx :: bl,bid,br),⟨Ωe,z2,z3,fun _=>⟨z5,by dsimp only;(first|rw[hX2]|rw[hX]);omega⟩⟩,Ωe,by
          dsimp only
          first|rw[hX]|rw[hX2]
          exact weakSU Ω (by simp[qX,Go.Sx.look,bSV]) (SubHp.skip (HN _ Ω) (SubHp.skip (HN _ Ω) (SubHp.skip (HN _ Ω) (SubHp.refl _))))⟩
      ·rw[if_neg hs]at x2
       have hs2:=decide_eq_false (Ω:¬((to:Nat):Int)=(start:Nat));(repeat' (first|refine sD ?_ ?_<;>intro _|refine aAf ?_|(simp -dsimp only[↓RP,RQ,xa0,reduceIte,reduceCtorEq,xa1,xa2,xa3,xa4,hk1,hrk,hrt,hb2,hs2,c2,↓RY,NB,QS,QT,qN,QN])))
       all_goals try exact Ωb
       refine ZL (qF ?_);(repeat' (first|refine sD ?_ ?_<;>intro _|refine aAf ?_|(simp -dsimp only[↓RP,RQ,xa0,reduceIte,reduceCtorEq,xa1,xa2,xa3,xa4,hdr2,hk1,hrk,hrt,hb2,hs2,c2,↓RY,NB,QS,QT,qN,QN])));refine qF ?_;(repeat' (first|refine sD ?_ ?_<;>intro _|refine aAf ?_|(simp -dsimp only[↓RP,RQ,xa0,reduceIte,reduceCtorEq,xa1,xa2,xa3,xa4,hdr2,hk1,hrk,hrt,hb2,hs2,c2,↓RY,NB,QS,QT,qN,QN])));refine qF ?_;(repeat' (first|refine sD ?_ ?_<;>intro _|refine aAf ?_|(simp -dsimp only[↓RP,RQ,xa0,reduceIte,reduceCtorEq,xa1,xa2,xa3,xa4,hdr2,hk1,hrk,hrt,hb2,hs2,c2,↓RY,NB,QS,QT,qN,QN])));refine gT rfl (qhb (id:=wid1) (off:=off1) (n:=wait1.length) (n':=off1+wait1.length) (m:=1) (k:=1) (e:=3) (row:=J1) (row2:=fun i j=>[SV.val (.int .i64 (to:Nat))].getD (i+j) SV.top) (obl2:=1≤1∧1=1) YU ty3 rfl Ω rfl rfl (by show rowsOf _ (SV.vec (n3+25) 1 1)=_;simp[rowsOf,blk]) (by exact⟨xa5 _,rfl⟩) (by exact one1 _) Ωah (xa5 _) Ω Ω (by rw[by3];omega) Ωe ?_ ?_)
       ·refine qF ?_
        (repeat' (first|refine sD ?_ ?_<;>intro _|refine aAf ?_|(simp -dsimp only[↓RP,RQ,xa0,reduceIte,reduceCtorEq,xa1,xa2,xa3,xa4,gA,hdr2,hk1,hrk,hrt,hb2,hs2,c2,↓RY,NB,QS,QT,qN,QN])))
        all_goals try exact Ωb
        have hRI:RI N L start i c n1 n2 rest.length R3 (k+1) (setN by1 to (1+i*5+k)) (fun a b=>if a=to∧b=0 then SV.val (.int .i64 (1+(i:Int)*5+(k:Int)))else byr1 a b) (wait1++[to]) (n3+26) off1 (fun i j=>if i<off1+wait1.length then J1 i j else [SV.val (.int .i64 (to:Nat))].getD (i -(off1+wait1.length)+j) SV.top):=by
         refine⟨hkl,x2,fun x hx=>?_,fun x hx=>?_,fun x hx=>?_,fun y hy=>?_,Ω,by rw[xc8,xd1];omega,Ω,Ω⟩
         ·by_cases e:x=to
          ·rw[if_pos ⟨e,rfl⟩];unfold setN;rw[if_pos e];congr 2
          ·rw[if_neg (fun e2=>e e2.1)];unfold setN;rw[if_neg e];exact x3 x hx
         ·unfold setN;split
          ·omega
          ·exact x4 x hx
         ·rcases List.mem_append.1 hx with h1|h1
          ·exact x5 x h1
          ·rw[List.mem_singleton.1 h1];exact htoN
         ·rw[xc8,xd1]at hy
          show(if off1+y<off1+wait1.length then J1 (off1+y) 0 else [SV.val (.int .i64 (to:Nat))].getD (off1+y -(off1+wait1.length)+0) SV.top)=_;by_cases hc:y<wait1.length
          ·rw[if_pos Ω,x6 y hc,xc6,xc6,xc9 hc]
          ·obtain rfl:y=wait1.length:=by omega
           rw[if_neg Ω,xb8,xc6 (l:=wait1++[to]),xd0 (xa5 _),xb8];rfl
        refine⟨(k+1,setN by1 to (1+i*5+k),_,wait1++[to],n3+26,off1,_),hRI,Ωe,weakSU Ωe Ωf ?_⟩;dsimp only;rw[xc8,xd1];exact SubHp.cons (SubHp.skip (show blk ((n1+8,_) :: H2) (n3+25)=none by simp only[blk];rw[if_neg Ω];exact hC.und.none Ω) (SubHp.refl _))
       ·refine qF ?_
        (repeat' (first|refine sD ?_ ?_<;>intro _|refine aAf ?_|(simp -dsimp only[↓RP,RQ,xa0,reduceIte,reduceCtorEq,xa1,xa2,xa3,xa4,gA,hdr2,hk1,hrk,hrt,hb2,hs2,c2,↓RY,NB,QS,QT,qN,QN])))
        all_goals try exact Ωb
        have hRI:RI N L start i c n1 n2 rest.length R3 (k+1) (setN by1 to (1+i*5+k)) (fun a b=>if a=to∧b=0 then SV.val (.int .i64 (1+(i:Int)*5+(k:Int)))else byr1 a b) (wait1++[to]) (n3+26) 0 (fun i j=>if i<wait1.length then J1 (off1+i) j else [SV.val (.int .i64 (to:Nat))].getD (i - wait1.length+j) SV.top):=by
         refine⟨hkl,x2,fun x hx=>?_,fun x hx=>?_,fun x hx=>?_,fun y hy=>?_,Ω,by rw[xc8,xd1];omega,Ω,Ω⟩
         ·by_cases e:x=to
          ·rw[if_pos ⟨e,rfl⟩];unfold setN;rw[if_pos e];congr 2
          ·rw[if_neg (fun e2=>e e2.1)];unfold setN;rw[if_neg e];exact x3 x hx
         ·unfold setN;split
          ·omega
          ·exact x4 x hx
         ·rcases List.mem_append.1 hx with h1|h1
          ·exact x5 x h1
          ·rw[List.mem_singleton.1 h1];exact htoN
         ·rw[xc8,xd1]at hy
          show(if 0+y<wait1.length then J1 (off1+(0+y)) 0 else [SV.val (.int .i64 (to:Nat))].getD (0+y - wait1.length+0) SV.top)=_;rw[xb0];by_cases hc:y<wait1.length
          ·rw[if_pos Ω,x6 y hc,xc6,xc6,xc9 hc]
          ·obtain rfl:y=wait1.length:=by omega
           rw[if_neg Ω,xb8,xc6 (l:=wait1++[to]),xd0 (xa5 _),xb8];rfl
        refine⟨(k+1,setN by1 to (1+i*5+k),_,wait1++[to],n3+26,0,_),hRI,Ωe,weakSU Ωe Ωf ?_⟩;dsimp only;rw[xc8,xd1,xb0];exact SubHp.cons (SubHp.skip (show blk ((n1+8,_) :: H2) (n3+25)=none by simp only[blk];rw[if_neg Ω];exact hC.und.none Ω) (SubHp.refl _))
    ·have hk1:=decide_eq_false (Ω:¬((k:Nat):Int)<((L i).length:Nat))
     rw[List.drop_eq_nil_of_le Ω]at x2;simp only[w8]at x2;subst x2;simp only[xe7,if_false]at y2;(repeat' (first|refine sD ?_ ?_<;>intro _|refine aAf ?_|(simp -dsimp only[↓RP,RQ,xa0,reduceIte,reduceCtorEq,xa1,xa2,xa3,xa4,hk1,↓RY,NB,QS,QT,qN,QN])))
     all_goals try exact Ωb
     have hQ:QI N L start fb n1 Rb f (c+1) by1 byr1 wait1 wid1 off1 J1:=⟨Ω,y2,x3,x4,x5,x6,x7,Ω,x9,Ω⟩;exact⟨(f,c+1,by1,byr1,wait1,wid1,off1,J1),hQ,Ωe,weakSU Ωe Ωf (SubHp.refl _)⟩
 ·have hlt1:=decide_eq_false (Ω:¬((start:Nat):Int)<(N:Nat))
  have e0:start=N:=by omega
  rw[e0,xb8]at z2;simp only[GY]at z2;have z2:=Option.some.inj z2;subst z2;(repeat' (first|refine sD ?_ ?_<;>intro _|refine aAf ?_|(simp -dsimp only[↓RP,RQ,xa0,reduceIte,reduceCtorEq,xa1,xa2,xa3,xa4,hlt1,↓RY,NB,QS,QT,qN,QN])))
  all_goals try exact Ωb
  rw[e0]at hn1;exact⟨_,_,_,weakSU (xa5 _) (fr':=[(0,_)]) ⟨.inr rfl,trivial⟩ (SubHp.refl _),Ω,bid,br,fun hh=>by have:=z4 hh;omega,z3,rfl,rfl⟩
end Go.Tn
end
section
namespace Go.Tn
open Go.Proofs
open Go.Sx
theorem jb:qq Tryz.prog 393=some ⟨false,1,some [.slice none 0 0],.slice 255 6⟩:=by kernel_rfl
theorem qoS(a b c d e g:Int):∀i j,i<1→j<6→oneCell ([SV.val (.int .i64 a),SV.val (.int .i64 b),SV.val (.int .i64 c),SV.val (.int .i64 d),SV.val (.int .i64 e),SV.val (.int .i64 g)].getD (i*6+j) SV.top)=true:=by
 intro i j hi hj;obtain rfl:i=0:=by omega
 rw[Nat.zero_mul,xb0];rcases(Ω:j=0∨j=1∨j=2∨j=3∨j=4∨j=5)with rfl|rfl|rfl|rfl|rfl|rfl<;>rfl
theorem qdk{O:Ctx}{fr fr':List (Nat×SV)}{hp hp':List (Nat×Blk)}{nid nid' mid:Nat}{fit dom dom':Value→Bool}{get:Value→SV}{st:Value→Nat}{c:Nat}(hb:blk hp mid=some (.mapS fit dom get st c))(hd:∀v,dom' v=dom v)(hn:nid≤nid')(hf:qX fr fr')(hh:SubHp (setBlk hp mid (.map fit dom' get)) hp'):Weak O ⟨fr,hp,nid⟩ ⟨fr',hp',nid'⟩:=
 Weak.trans (qmw hb hd) (weakSU hn hf hh)
theorem qhS:qP Tryz.prog 255=48:=by kernel_rfl
theorem qlK:qI Tryz.prog 250=some ⟨true,[Lf.i .i64,Lf.i .i64,Lf.i .i64,Lf.i .i64,Lf.i .i64,Lf.i .i64],.int .i64 0⟩:=by kernel_rfl
structure Hl(N:Nat)(len:Nat→Nat)(to:Nat→Nat→Nat)(F:Nat→Int)(dom0:Value→Bool)(nx:Nat→Nat→SV)(rest:List (Nat×Blk))(id tb xid rid mid:Nat):Prop where
 fx:Fx N len to F
 N5:N≤100000
 l5:∀i,i<N→len i≤5
 keys:∀v,dom0 v=true→∃(f:Nat→Int)(n:Nat),n<N∧v=kp f n
 one:∀v v',dom0 v=true→dom0 v'=true→zN v=zN v'→v=v'
 all:∀i,i<N→∃v,dom0 v=true∧zN v=i
 nx:∀i,i<N→(len i=0∧nx i 0=.val (.slice none 0 0))∨∃xi r,nx i 0=.vec xi (len i) 1∧blk rest xi=some (.rows 3 1 (len i) r)∧(xi≠tb∧xi≠xid∧xi≠rid∧xi≠mid∧xi<id)∧∀j,j<len i→r j 0=.val (.int .i64 (to i j:Nat))
 itb:tb<id
 ixid:xid<id
 irid:rid<id
 imid:mid<id
 d1:tb≠xid
 d2:tb≠rid
 d3:tb≠mid
 d4:xid≠rid
 d5:xid≠mid
 d6:rid≠mid
 und:Under rest id
structure Fnd(N:Nat)(len:Nat→Nat)(to:Nat→Nat→Nat)(F rw0 rw:Nat→Int)(dom:Value→Bool)(ks fl:List Value):Prop where
 nd:ks.Nodup
 inD:∀v,v∈ks→dom v=true
 sub:∀v,v∈fl→v∈ks
 rwF:Rw N F rw
 mem:∀v,dom v=true→(0≤rw (zN v)↔v∈fl)
 nil:fl=[]→rw=rw0∧∀v,v∈ks→∃j,j<len (zN v)∧rw0 (to (zN v) j)<0
 cn:cnt rw N+fl.length=cnt rw0 N
 up:∀i,0≤rw0 i→0≤rw i
theorem Fnd.stop{N:Nat}{len:Nat→Nat}{to:Nat→Nat→Nat}{F rw0 rw:Nat→Int}{dom:Value→Bool}{ks fl:List Value}(h:Fnd N len to F rw0 rw dom ks fl){v:Value}(hv:dom v=true)(hn:v∉ks)(hj:∃j,j<len (zN v)∧rw (to (zN v) j)<0):Fnd N len to F rw0 rw dom (ks++[v]) fl:=
 ⟨wk h.nd hn,fun x hx=>by
  rcases List.mem_append.1 hx with h1|h1
  ·exact h.inD x h1
  ·rw[List.mem_singleton.1 h1];exact hv,fun x hx=>List.mem_append.2 (.inl (h.sub x hx)),h.rwF,h.mem,fun e=>⟨(h.nil e).1,fun x hx=>by
  rcases List.mem_append.1 hx with h1|h1
  ·exact(h.nil e).2 x h1
  ·rw[List.mem_singleton.1 h1,←(h.nil e).1];exact hj⟩,h.cn,h.up⟩
theorem Fnd.hit{N:Nat}{len:Nat→Nat}{to:Nat→Nat→Nat}{F rw0 rw:Nat→Int}{dom:Value→Bool}{ks fl:List Value}(h:Fnd N len to F rw0 rw dom ks fl)(hone:∀v v',dom v=true→dom v'=true→zN v=zN v'→v=v'){v:Value}(hv:dom v=true)(hN:zN v<N)(hn:v∉ks){x:Int}(hx:x=F (zN v))(h0:0≤x):Fnd N len to F rw0 (yM rw (zN v) x) dom (ks++[v]) (fl++[v]):=by
 have hneg:rw (zN v)<0:=by
  have:=(h.mem v hv).1;have:=mt this (fun hm=>hn (h.sub v hm));omega
 refine⟨wk h.nd hn,fun x hx=>?_,fun x hx=>?_,fun i hi=>?_,fun u hu=>?_,fun e=>?_,?_,fun i hi=>?_⟩
 ·rcases List.mem_append.1 hx with h1|h1
  ·exact h.inD x h1
  ·rw[List.mem_singleton.1 h1];exact hv
 ·rcases List.mem_append.1 hx with h1|h1
  ·exact List.mem_append.2 (.inl (h.sub x h1))
  ·exact List.mem_append.2 (.inr h1)
 ·unfold yM
  split
  ·rename_i e;subst e;exact .inl hx
  ·exact h.rwF i hi
 ·unfold yM
  split
  ·rename_i e
   have:=hone u v hu hv e;subst this;exact⟨fun _=>List.mem_append.2 (.inr xd5),fun _=>h0⟩
  ·rename_i e
   rw[h.mem u hu,xd4,xe0];exact⟨.inl,fun h1=>h1.resolve_right fun e2=>e (by rw[e2])⟩
 ·simp at e
 ·have:=gv hneg h0 hN
  have:=h.cn;rw[xc8,xd1];omega
 ·unfold yM
  split
  ·exact h0
  ·exact h.up i hi
open Classical in
noncomputable def domC(dom:Value→Bool)(fl:List Value):Value→Bool:=fun v=>dom v&&!decide (v∈fl)
theorem qhT(dom:Value→Bool):domC dom []=dom:=by funext v;simp[domC]
open Classical in
theorem qmA{dom:Value→Bool}{fl:List Value}{f:Nat→Int}{n:Nat}:kM (domC dom fl) (kp f n)=domC dom (fl++[kp f n]):=by
 funext v;unfold kM domC;have e:eqK (kp f n) v=decide (v=kp f n):=by rw[Bool.eq_iff_iff,eqK_kp,decide_eq_true_eq]
 rw[e,Bool.eq_iff_iff];simp only[xe6,Bool.not_eq_true',decide_eq_false_iff_not,xd4,xe0];constructor
 ·rintro⟨h1,h2,h3⟩;exact⟨h2,fun h=>h.elim h3 h1⟩
 ·rintro⟨h1,h2⟩;exact⟨fun h=>h2 (.inr h),h1,fun h=>h2 (.inl h)⟩
open Classical in
theorem Fnd.dom{N:Nat}{len:Nat→Nat}{to:Nat→Nat→Nat}{F rw0 rw:Nat→Int}{dom0:Value→Bool}{ks fl:List Value}(h:Fnd N len to F rw0 rw (fun v=>dom0 v&&decide (rw0 (zN v)<0)) ks fl):domC (fun v=>dom0 v&&decide (rw0 (zN v)<0)) fl=fun v=>dom0 v&&decide (rw (zN v)<0):=by
 funext v;unfold domC;rw[Bool.eq_iff_iff];simp only[xe6,Bool.not_eq_true',decide_eq_false_iff_not,decide_eq_true_eq];constructor
 ·rintro⟨⟨h1,h2⟩,h3⟩
  have:=mt (h.mem v (by rw[h1,decide_eq_true h2];rfl)).1 h3;exact⟨h1,Ω⟩
 ·rintro⟨h1,h2⟩
  have h3:rw0 (zN v)<0:=by
   have:=mt (h.up (zN v));omega
  exact⟨⟨h1,h3⟩,mt (h.mem v (by rw[h1,decide_eq_true h3];rfl)).2 Ω⟩
def qoT(fl:List Value)(row:Nat→Nat→SV):Prop:=∀i j,i<fl.length→j<6→row i j=kc (fl.getD i undef) j
def st0(N:Nat)(get:Value→SV)(A Z:SV)(nx:Nat→Nat→SV)(dom0:Value→Bool)(rest:List (Nat×Blk))(id tb xid rid mid:Nat)(z:(Nat→Int)×(Nat→Nat→SV)×Nat):St:=
 ⟨[(0,.ptr tb 0)],(rid,.rows 3 1 N z.2.1) ::(mid,.map kfP (fun v=>dom0 v&&decide (z.1 (zN v)<0)) get) ::(tb,.cells 253 [A,Z,.vec xid N 1,.vec rid N 1,.mp mid]) ::(xid,.rows 22 1 N nx) :: rest,id+(960*N+400)*z.2.2⟩
def st1(N:Nat)(get:Value→SV)(A Z:SV)(nx:Nat→Nat→SV)(dom:Value→Bool)(rest:List (Nat×Blk))(n1 tb xid rid mid clk:Nat)(stamp:Value→Nat)(z:List Value×List Value×(Nat→Int)×(Nat→Nat→SV)×Nat×(Nat→Nat→SV)):St:=
 match z with
 |(ks,[],_,row,_,_)=>⟨[(0,.ptr tb 0),(2,.val (.slice none 0 0)),(12,.ptr (n1+5) 0)],(n1+5,.iter mid clk (ks.map stamp) clk) ::(rid,.rows 3 1 N row) ::(mid,.mapS kfP dom get stamp clk) ::(tb,.cells 253 [A,Z,.vec xid N 1,.vec rid N 1,.mp mid]) ::(xid,.rows 22 1 N nx) :: rest,n1+20+900*ks.length⟩
 |(ks,_ :: l,_,row,oid,frow)=>⟨[(0,.ptr tb 0),(2,.vec oid (l.length+1) 6),(12,.ptr (n1+5) 0)],(oid,.rows 255 6 (l.length+1) frow) ::(n1+5,.iter mid clk (ks.map stamp) clk) ::(rid,.rows 3 1 N row) ::(mid,.mapS kfP dom get stamp clk) ::(tb,.cells 253 [A,Z,.vec xid N 1,.vec rid N 1,.mp mid]) ::(xid,.rows 22 1 N nx) :: rest,n1+20+900*ks.length⟩
theorem qhU(N:Nat)(get:Value→SV)(A Z:SV)(nx:Nat→Nat→SV)(dom:Value→Bool)(rest:List (Nat×Blk))(n1 tb xid rid mid clk:Nat)(stamp:Value→Nat)(ks:List Value)(rw:Nat→Int)(row:Nat→Nat→SV)(oid:Nat)(frow:Nat→Nat→SV):st1 N get A Z nx dom rest n1 tb xid rid mid clk stamp (ks,[],rw,row,oid,frow)=⟨[(0,.ptr tb 0),(2,.val (.slice none 0 0)),(12,.ptr (n1+5) 0)],(n1+5,.iter mid clk (ks.map stamp) clk) ::(rid,.rows 3 1 N row) ::(mid,.mapS kfP dom get stamp clk) ::(tb,.cells 253 [A,Z,.vec xid N 1,.vec rid N 1,.mp mid]) ::(xid,.rows 22 1 N nx) :: rest,n1+20+900*ks.length⟩:=rfl
theorem qdl(N:Nat)(get:Value→SV)(A Z:SV)(nx:Nat→Nat→SV)(dom:Value→Bool)(rest:List (Nat×Blk))(n1 tb xid rid mid clk:Nat)(stamp:Value→Nat)(ks:List Value)(x:Value)(l:List Value)(rw:Nat→Int)(row:Nat→Nat→SV)(oid:Nat)(frow:Nat→Nat→SV):st1 N get A Z nx dom rest n1 tb xid rid mid clk stamp (ks,x :: l,rw,row,oid,frow)=⟨[(0,.ptr tb 0),(2,.vec oid (l.length+1) 6),(12,.ptr (n1+5) 0)],(oid,.rows 255 6 (l.length+1) frow) ::(n1+5,.iter mid clk (ks.map stamp) clk) ::(rid,.rows 3 1 N row) ::(mid,.mapS kfP dom get stamp clk) ::(tb,.cells 253 [A,Z,.vec xid N 1,.vec rid N 1,.mp mid]) ::(xid,.rows 22 1 N nx) :: rest,n1+20+900*ks.length⟩:=rfl
theorem qoU(N:Nat)(len:Nat→Nat)(to:Nat→Nat→Nat)(F:Nat→Int)(dom0:Value→Bool)(get:Value→SV)(A Z:SV)(nx row0:Nat→Nat→SV)(rest:List (Nat×Blk))(id tb xid rid mid:Nat)
  (h:Hl N len to F dom0 nx rest id tb xid rid mid) (hr0:∀i,i<N→row0 i 0=.val (.int .i64 (-1))) :
  EffVC Tryz.prog 163 [.ptr tb 0] ((rid,.rows 3 1 N row0) ::(mid,.map kfP dom0 get) ::(tb,.cells 253 [A,Z,.vec xid N 1,.vec rid N 1,.mp mid]) ::(xid,.rows 22 1 N nx) :: rest) id (fun hp' nid' res=>nid'≤id+1000*(N+2)*(N+2)∧res=.tup []∧∃row,(∀i,i<N→row i 0=.val (.int .i64 (F i)))∧hp'=(rid,.rows 3 1 N row) ::(mid,.map kfP (fun v=>dom0 v&&decide (F (zN v)<0)) get) ::(tb,.cells 253 [A,Z,.vec xid N 1,.vec rid N 1,.mp mid]) ::(xid,.rows 22 1 N nx) :: rest):=by
 refine vb follows Tryz.func163 rfl Ωd Ωd (by rw[Tryz.ntmps163];simp) fun out=>?_;have htb:=h.itb;have hxid:=h.ixid;have hrid:=h.irid;have hmid:=h.imid;have ND:=(⟨nmE h.d1,nmE h.d2,nmE h.d3,nmE h.d4,nmE h.d5,nmE h.d6⟩:_∧_∧_∧_∧_∧_);have NB:True:=trivial;have NB1:True:=trivial;have hN5:=h.N5;have e0:(fun v=>dom0 v&&decide ((-1:Int)<0))=dom0:=by funext v;simp
 (repeat' (first|refine sD ?_ ?_<;>intro _|refine aAc ?_|(simp -dsimp only[↓RP,RQ,xa0,reduceIte,reduceCtorEq,xa1,xa2,xa3,xa4,NB,NB1,ND,jb,QS,QT,QN])));refine qn (fun(z:(Nat→Int)×(Nat→Nat→SV)×Nat)=>Rw N F z.1∧(∀i,i<N→z.2.1 i 0=.val (.int .i64 (z.1 i)))∧z.2.2+cnt z.1 N≤N) (st0 N get A Z nx dom0 rest id tb xid rid mid) (fun z=>cnt z.1 N) (fun _=>-1,row0,0) ⟨fun i hi=>.inr rfl,hr0,by have:=GX (fun _=>-1) N;simp only[];omega⟩ (by unfold st0;simp only[Nat.mul_zero,xb1,e0];exact weakSU (xa5 _) Ωf (SubHp.refl _)) fun z hz=>?_;obtain⟨rw0,row,c⟩:=z;obtain⟨z1,z2,z3⟩:=hz;simp only[]at z1 z2 z3;unfold st0;simp only[];obtain⟨n1,hn1⟩:∃n1,n1=id+(960*N+400)*c:=⟨_,rfl⟩;have hid1:id≤n1:=by rw[hn1];exact Nat.le_add_right _ _
 rw[←hn1];have NB:=(⟨nmA (Ω:tb<n1),nmA (Ω:xid<n1),nmA (Ω:rid<n1),nmA (Ω:mid<n1)⟩:_∧_∧_∧_);(repeat' (first|refine sD ?_ ?_<;>intro _|refine aAc ?_|(simp -dsimp only[↓RP,RQ,xa0,reduceIte,reduceCtorEq,xa1,xa2,xa3,xa4,NB,NB1,ND,jb,QS,QT,QN])));refine qjO (mid:=mid) (fit:=kfP) (dom:=(fun v=>dom0 v&&decide (rw0 (zN v)<0))) (get:=get) ΩA ΩA qlK ΩM fun stamp clk hst hinj=>?_;(repeat' (first|refine sD ?_ ?_<;>intro _|refine aAc ?_|(simp -dsimp only[↓RP,RQ,xa0,reduceIte,reduceCtorEq,xa1,xa2,xa3,xa4,NB,NB1,ND,jb,QS,QT,QN])));obtain⟨dom,hdom⟩:∃dom,dom=fun v=>dom0 v&&decide (rw0 (zN v)<0):=⟨_,rfl⟩;have hst:∀k,dom k=true→stamp k<clk:=by rw[hdom];exact hst
 have hinj:∀k k',dom k=true→dom k'=true→stamp k=stamp k'→k=k':=by rw[hdom];exact hinj
 have hd0:∀k,dom k=true→dom0 k=true:=fun k hk=>by rw[hdom]at hk;simp only[xe6]at hk;exact hk.1
 rw[←hdom];have hone:∀v v',dom v=true→dom v'=true→zN v=zN v'→v=v':=fun v v' h1 h2=>h.one v v' (hd0 v h1) (hd0 v' h2);have hbx0:∀{Y Z':Blk} x,n1≤x→blk ((rid,Y) ::(mid,Z') ::(tb,.cells 253 [A,Z,.vec xid N 1,.vec rid N 1,.mp mid]) ::(xid,.rows 22 1 N nx) :: rest) x=none:=fun x hx=>by
  simp only[blk];rw[if_neg Ω,if_neg Ω,if_neg Ω,if_neg Ω];exact h.und.none Ω
 have hbx:∀{X Y Z':Blk} x,n1+6≤x→blk ((n1+5,X) ::(rid,Y) ::(mid,Z') ::(tb,.cells 253 [A,Z,.vec xid N 1,.vec rid N 1,.mp mid]) ::(xid,.rows 22 1 N nx) :: rest) x=none:=fun x hx=>by
  simp only[blk];rw[if_neg Ω,if_neg Ω,if_neg Ω,if_neg Ω,if_neg Ω];exact h.und.none Ω
 refine qn (fun(z:List Value×List Value×(Nat→Int)×(Nat→Nat→SV)×Nat×(Nat→Nat→SV))=>Fnd N len to F rw0 z.2.2.1 dom z.1 z.2.1∧(∀i,i<N→z.2.2.2.1 i 0=.val (.int .i64 (z.2.2.1 i)))∧qoT z.2.1 z.2.2.2.2.2∧(z.2.1≠[]→n1+6≤z.2.2.2.2.1∧z.2.2.2.2.1<n1+20+900*z.1.length)) (st1 N get A Z nx dom rest n1 tb xid rid mid clk stamp) (fun z=>N - z.1.length) ([],[],rw0,row,0,fun _ _=>.top) ⟨⟨List.nodup_nil,fun v hv=>(by cases hv),fun v hv=>(by cases hv),z1,fun v hv=>?_,fun _=>⟨rfl,fun v hv=>(by cases hv)⟩,rfl,fun i hi=>hi⟩,z2,fun i j hi=>(by cases hi),fun hh=>absurd rfl hh⟩ (by rw[qhU];exact weakSU Ωh Ωf (SubHp.refl _)) fun z hz=>?_
 ·rw[hdom]at hv
  simp only[xe6,decide_eq_true_eq]at hv;exact⟨fun h1=>by have h1:0≤rw0 (zN v):=h1;omega,fun h1=>(by cases h1)⟩
 obtain⟨ks,fl,rw1,row1,oid,frow⟩:=z;obtain⟨y1,y2,y3,y4⟩:=hz;simp only[]at y1 y2 y3 y4;have hks:ks.length≤N:=by
  have:=yB N (ks.map zN) (Vf y1.nd fun a b ha hb=>hone a b (y1.inD a ha) (y1.inD b hb)) fun x hx=>by
   obtain⟨v,hv,rfl⟩:=List.mem_map.1 hx;obtain⟨f,n,hn,rfl⟩:=h.keys v (hd0 v (y1.inD v hv));exact hn
  rwa [xe1]at this
 have hkl:∀v,dom v=true→v∉ks→ks.length<N:=fun v hv hm=>by
  have:=yB N ((ks++[v]).map zN) (Vf (wk y1.nd hm) fun a b ha hb=>hone a b ?_ ?_) fun x hx=>?_
  ·rw[xe1,xc8,xd1]at this;omega
  ·rcases List.mem_append.1 ha with h1|h1
   ·exact y1.inD a h1
   ·rw[List.mem_singleton.1 h1];exact hv
  ·rcases List.mem_append.1 hb with h1|h1
   ·exact y1.inD b h1
   ·rw[List.mem_singleton.1 h1];exact hv
  ·obtain⟨u,hu,rfl⟩:=List.mem_map.1 hx
   have hu2:dom u=true:=by
    rcases List.mem_append.1 hu with h1|h1
    ·exact y1.inD u h1
    ·rw[List.mem_singleton.1 h1];exact hv
   obtain⟨f,n,hn,rfl⟩:=h.keys u (hd0 u hu2);exact hn
 clear NB;obtain⟨nn,hnn⟩:∃nn,nn=n1+20+900*ks.length:=⟨_,rfl⟩;have hn2:n1+20≤nn:=by omega
 have NB:=(⟨nmA (Ω:tb<nn),nmA (Ω:xid<nn),nmA (Ω:rid<nn),nmA (Ω:mid<nn),nmA (Ω:tb<n1),nmA (Ω:xid<n1),nmA (Ω:rid<n1),nmA (Ω:mid<n1),nmA (Ω:n1+5<nn)⟩:_∧_∧_∧_∧_∧_∧_∧_∧_);cases fl with
 |nil=>
  ·rw[qhU,←hnn]
   (repeat' (first|refine sD ?_ ?_<;>intro _|refine aAc ?_|(simp -dsimp only[↓RP,RQ,xa0,reduceIte,reduceCtorEq,xa1,xa2,xa3,xa4,NB,NB1,ND,jb,QS,QT,QN])));refine qgp (iid:=n1+5) (mid:=mid) (clk:=clk) (seen:=ks.map stamp) (fit:=kfP) (dom:=dom) (get:=get) (stamp:=stamp) ΩA ΩA ΩM ΩM (fun k hk1 hk2 hk3=>?_) (fun hall=>?_)
   ·obtain⟨f,n,hn,rfl⟩:=h.keys k (hd0 k hk2)
    have hk4:kp f n∉ks:=fun hm=>hk3 (List.mem_map.2 ⟨_,hm,rfl⟩);(repeat' (first|refine sD ?_ ?_<;>intro _|refine aAc ?_|(simp -dsimp only[↓RP,RQ,xa0,reduceIte,reduceCtorEq,xa1,xa2,xa3,xa4,NB,NB1,ND,jb,QS,QT,QN])));refine qco (s:=.agg (kpL f n)) (iid:=n1+5) (mid:=mid) (clk:=clk) (seen:=ks.map stamp) (fit:=kfP) (dom:=dom) (get:=get) (stamp:=stamp) (k:=kp f n) ΩA ΩA ΩM ΩM hk2 (JX [.int .i64 (f 0),.int .i64 (f 1),.int .i64 (f 2),.int .i64 (f 3),.int .i64 (f 4),.int .i64 (n:Nat)]) ?_;unfold kpL;(repeat' (first|refine sD ?_ ?_<;>intro _|refine aAc ?_|(simp -dsimp only[↓RP,RQ,xa0,reduceIte,reduceCtorEq,xa1,xa2,xa3,xa4,NB,NB1,ND,jb,QS,QT,QN])));refine jh ΩA (qnL _ _ tb xid rid mid N n (len n) A Z nx row1 rw1 (to n) hN5 hn (by have:=h.l5 n hn;omega) ΩM ΩM ΩM y2 (fun i hi=>by have:=h.fx.lo i hi;have:=h.fx.hi i hi;rcases y1.rwF i hi with e|e<;>omega) (fun j hj=>h.fx.inn n j hn hj) ?hNX) fun hp' n3 res hQ=>?_
    case hNX=>
     rcases h.nx n hn with⟨a,b⟩|⟨xi,r,a,b,⟨x1,x2,x3,x4,x5⟩,x6⟩
     ·exact .inl ⟨a,b⟩
     ·have NX:=(⟨nmE x1,nmE x2,nmE x3,nmE x4,nmA (Ω:xi<nn),nmA (Ω:xi<n1)⟩:_∧_∧_∧_∧_∧_)
      exact .inr ⟨xi,r,a,by simp[blk,NB,NB1,ND,NX,b],x6⟩
    obtain⟨rfl,q1,q2,hQ⟩:=hQ;have hl5:=h.l5 n hn;have NB3:=(⟨nmA (Ω:tb<n3),nmA (Ω:xid<n3),nmA (Ω:rid<n3),nmA (Ω:mid<n3),nmA (Ω:nn+4<n3),nmA (Ω:n1+5<n3)⟩:_∧_∧_∧_∧_∧_);rcases hQ with⟨hk,rfl⟩|⟨hk,rfl⟩
    ·obtain⟨w0,w1⟩:=h.fx.set y1.rwF hn hk
     have w2:=h.fx.hi n hn;have w3:=y1.cn;have w4:=GX rw0 N;have w5:=hN5
     skip
     rw[w1];unfold I B;(repeat' (first|refine sD ?_ ?_<;>intro _|refine aAc ?_|(simp -dsimp only[↓RP,RQ,xa0,reduceIte,reduceCtorEq,xa1,xa2,xa3,xa4,NB3,qhS,NB,NB1,ND,jb,QS,QT,QN])))
     skip
     refine⟨(ks++[kp f n],[kp f n],yM rw1 n (F n),(fun a b=>if a=n∧b=0 then SV.val (.int .i64 (F n))else row1 a b),n3+13,(fun i j=>[SV.val (.int .i64 (f 0)),SV.val (.int .i64 (f 1)),SV.val (.int .i64 (f 2)),SV.val (.int .i64 (f 3)),SV.val (.int .i64 (f 4)),SV.val (.int .i64 (n:Nat))].getD (i*6+j) SV.top)),⟨y1.hit hone hk2 hn hk4 rfl w0,fun i hi=>?_,?_,fun _=>?_⟩,?_,?_⟩
     ·simp only[yM]
      by_cases e:i=n
      ·rw[if_pos ⟨e,trivial⟩,if_pos e]
      ·rw[if_neg (fun e2=>e e2.1),if_neg e];exact y2 i hi
     ·intro i j hi hj
      have e:i=0:=by have hi:i<1:=hi;omega
      subst e;have k:=qhK f n;show [SV.val (.int .i64 (f 0)),SV.val (.int .i64 (f 1)),SV.val (.int .i64 (f 2)),SV.val (.int .i64 (f 3)),SV.val (.int .i64 (f 4)),SV.val (.int .i64 (n:Nat))].getD (0*6+j) SV.top=kc (kp f n) j;rw[Nat.zero_mul,xb0];rcases(Ω:j=0∨j=1∨j=2∨j=3∨j=4∨j=5)with rfl|rfl|rfl|rfl|rfl|rfl
      ·exact k.1.symm
      ·exact k.2.1.symm
      ·exact k.2.2.1.symm
      ·exact k.2.2.2.1.symm
      ·exact k.2.2.2.2.1.symm
      ·exact k.2.2.2.2.2.symm
     ·simp only[xc8,xd1];omega
     ·have hk5:=hkl _ hk2 hk4
      simp only[xc8,xd1];omega
     ·rw[qdl,List.map_append,List.map_cons,List.map_nil,xc8,xd1]
      exact weakSU Ω Ωf (SubHp.cons (SubHp.skip (hbx _ Ω) (SubHp.skip (hbx _ Ω) (SubHp.refl _))))
    ·unfold I B
     (repeat' (first|refine sD ?_ ?_<;>intro _|refine aAc ?_|(simp -dsimp only[↓RP,RQ,xa0,reduceIte,reduceCtorEq,xa1,xa2,xa3,xa4,NB3,NB,NB1,ND,jb,QS,QT,QN])));refine⟨(ks++[kp f n],[],rw1,row1,oid,frow),⟨y1.stop hk2 hk4 hk,y2,y3,fun hh=>?_⟩,?_,?_⟩
     ·exact absurd hh Ωh
     ·have hk5:=hkl _ hk2 hk4
      simp only[xc8,xd1];omega
     ·rw[qhU,List.map_append,List.map_cons,List.map_nil,xc8,xd1]
      exact weakSU Ω Ωf (SubHp.skip (hbx _ Ω) (SubHp.refl _))
   ·skip
    have hkk:∀v,dom v=true→v∈ks:=fun v hv=>by
     obtain⟨u,hu,e⟩:=List.mem_map.1 (hall v hv);rw[←hinj u v (y1.inD u hu) hv e];exact hu
    have⟨hrw,hno⟩:=y1.nil rfl;subst hrw;have hF:∀i,i<N→rw1 i=F i:=fun i hi=>h.fx.fin y1.rwF (fun i hi hneg=>by
     obtain⟨v,hv,rfl⟩:=h.all i hi;refine hno v (hkk v ?_);rw[hdom];simp only[hv,xf0,decide_eq_true_eq];exact hneg) 1000000 i hi (h.fx.hi i hi)
    (repeat' (first|refine sD ?_ ?_<;>intro _|refine aAc ?_|(simp -dsimp only[↓RP,RQ,xa0,reduceIte,reduceCtorEq,xa1,xa2,xa3,xa4,NB,NB1,ND,jb,QS,QT,QN])))
    all_goals try exact Ωb
    refine⟨_,_,_,qdk (mid:=mid) (fit:=kfP) (dom:=dom) (dom':=fun v=>dom0 v&&decide (F (zN v)<0)) (get:=get) (st:=stamp) (c:=clk) ΩM (fun v=>?_) (xa5 _) (fr':=[(0,_)]) ⟨.inr rfl,trivial⟩ (by simp only[setBlk,NB,NB1,ND,reduceIte];exact SubHp.skip (hbx0 _ Ω) (SubHp.refl _)),?_,rfl,row1,fun i hi=>by rw[y2 i hi,hF i hi],rfl⟩
    ·rw[hdom]
     show(dom0 v&&decide (F (zN v)<0))=(dom0 v&&decide (rw1 (zN v)<0));cases hv:dom0 v with
     |false=>rfl
     |true=>
      obtain⟨f,n,hn,rfl⟩:=h.keys v hv;rw[wj,hF n hn]
    ·have hc:=Nat.mul_le_mul_left (960*N+400) (Ω:c≤N)
     have e3:(960*N+400)*N=960*(N*N)+400*N:=by rw[Nat.add_mul,Nat.mul_assoc]
     rw[e3]at hc;have e1:1000*(N+2)*(N+2)=1000*(N*N)+4000*N+4000:=by
      rw[Nat.mul_assoc,Nat.add_mul,Nat.mul_add,Nat.mul_add];omega
     rw[e1,hnn,hn1];omega
 |cons x l=>
  have⟨y5,y6⟩:=y4 Ωh;rw[←hnn]at y6;have NO:=(⟨nmE (Ω:oid≠tb),nmE (Ω:oid≠xid),nmE (Ω:oid≠rid),nmE (Ω:oid≠mid),nmE (Ω:oid≠n1+5),nmA y6⟩:_∧_∧_∧_∧_∧_);have hdr:dropBlk rest oid=rest:=zf (h.und.none Ω);have hbx2:∀{X Y Z' V:Blk} x,n1+6≤x→x≠oid→blk ((oid,V) ::(n1+5,X) ::(rid,Y) ::(mid,Z') ::(tb,.cells 253 [A,Z,.vec xid N 1,.vec rid N 1,.mp mid]) ::(xid,.rows 22 1 N nx) :: rest) x=none:=fun x hx hx2=>by
   simp only[blk];rw[if_neg hx2];exact hbx x hx
  ·rw[qdl,←hnn]
   (repeat' (first|refine sD ?_ ?_<;>intro _|refine aAc ?_|(simp -dsimp only[↓RP,RQ,xa0,reduceIte,reduceCtorEq,xa1,xa2,xa3,xa4,NO,hdr,NB,NB1,ND,jb,QS,QT,QN])));refine qgp (iid:=n1+5) (mid:=mid) (clk:=clk) (seen:=ks.map stamp) (fit:=kfP) (dom:=dom) (get:=get) (stamp:=stamp) ΩA ΩA ΩK ΩK (fun k hk1 hk2 hk3=>?_) (fun hall=>?_)
   ·obtain⟨f,n,hn,rfl⟩:=h.keys k (hd0 k hk2)
    have hk4:kp f n∉ks:=fun hm=>hk3 (List.mem_map.2 ⟨_,hm,rfl⟩);(repeat' (first|refine sD ?_ ?_<;>intro _|refine aAc ?_|(simp -dsimp only[↓RP,RQ,xa0,reduceIte,reduceCtorEq,xa1,xa2,xa3,xa4,NO,hdr,NB,NB1,ND,jb,QS,QT,QN])));refine qco (s:=.agg (kpL f n)) (iid:=n1+5) (mid:=mid) (clk:=clk) (seen:=ks.map stamp) (fit:=kfP) (dom:=dom) (get:=get) (stamp:=stamp) (k:=kp f n) ΩA ΩA ΩK ΩK hk2 (JX [.int .i64 (f 0),.int .i64 (f 1),.int .i64 (f 2),.int .i64 (f 3),.int .i64 (f 4),.int .i64 (n:Nat)]) ?_;unfold kpL;(repeat' (first|refine sD ?_ ?_<;>intro _|refine aAc ?_|(simp -dsimp only[↓RP,RQ,xa0,reduceIte,reduceCtorEq,xa1,xa2,xa3,xa4,NO,hdr,NB,NB1,ND,jb,QS,QT,QN])));refine jh ΩA (qnL _ _ tb xid rid mid N n (len n) A Z nx row1 rw1 (to n) hN5 hn (by have:=h.l5 n hn;omega) ΩK ΩK ΩK y2 (fun i hi=>by have:=h.fx.lo i hi;have:=h.fx.hi i hi;rcases y1.rwF i hi with e|e<;>omega) (fun j hj=>h.fx.inn n j hn hj) ?hNX) fun hp' n3 res hQ=>?_
    case hNX=>
     rcases h.nx n hn with⟨a,b⟩|⟨xi,r,a,b,⟨x1,x2,x3,x4,x5⟩,x6⟩
     ·exact .inl ⟨a,b⟩
     ·have NX:=(⟨nmE x1,nmE x2,nmE x3,nmE x4,nmA (Ω:xi<nn),nmA (Ω:xi<n1),nmE (Ω:xi≠oid)⟩:_∧_∧_∧_∧_∧_∧_)
      exact .inr ⟨xi,r,a,by simp[blk,NB,NB1,ND,NX,NO,b],x6⟩
    obtain⟨rfl,q1,q2,hQ⟩:=hQ;have hl5:=h.l5 n hn;have NB3:=(⟨nmA (Ω:tb<n3),nmA (Ω:xid<n3),nmA (Ω:rid<n3),nmA (Ω:mid<n3),nmA (Ω:nn+4<n3),nmA (Ω:n1+5<n3),nmA (Ω:oid<n3)⟩:_∧_∧_∧_∧_∧_∧_);rcases hQ with⟨hk,rfl⟩|⟨hk,rfl⟩
    ·obtain⟨w0,w1⟩:=h.fx.set y1.rwF hn hk
     have w2:=h.fx.hi n hn;have w3:=y1.cn;have w4:=GX rw0 N;have w5:=hN5;rw[xe4]at w3;rw[w1];unfold I B;(repeat' (first|refine sD ?_ ?_<;>intro _|refine aAc ?_|(simp -dsimp only[↓RP,RQ,xa0,reduceIte,reduceCtorEq,xa1,xa2,xa3,xa4,NB3,qhS,NO,hdr,NB,NB1,ND,jb,QS,QT,QN])));refine⟨⟨.inr trivial,xa5 _,qoS _ _ _ _ _ _,Ω⟩,Ω,Ω,?_⟩;refine⟨(ks++[kp f n],x ::(l++[kp f n]),yM rw1 n (F n),(fun a b=>if a=n∧b=0 then SV.val (.int .i64 (F n))else row1 a b),n3+13,(fun i j=>if i<l.length+1 then frow i j else [SV.val (.int .i64 (f 0)),SV.val (.int .i64 (f 1)),SV.val (.int .i64 (f 2)),SV.val (.int .i64 (f 3)),SV.val (.int .i64 (f 4)),SV.val (.int .i64 (n:Nat))].getD ((i -(l.length+1))*6+j) SV.top)),⟨y1.hit hone hk2 hn hk4 rfl w0,fun i hi=>?_,?_,fun _=>?_⟩,?_,?_⟩
     ·simp only[yM]
      by_cases e:i=n
      ·rw[if_pos ⟨e,trivial⟩,if_pos e]
      ·rw[if_neg (fun e2=>e e2.1),if_neg e];exact y2 i hi
     ·intro i j hi hj
      have hi:i<(x ::(l++[kp f n])).length:=hi;rw[xe4,xc8,xd1]at hi;by_cases hc:i<l.length+1
      ·show(if i<l.length+1 then frow i j else _)=_
       rw[if_pos hc,y3 i j hc hj];have eG:(x ::(l++[kp f n])).getD i undef=(x :: l).getD i undef:=by
        rw[←List.cons_append,xc6,xc6,xc9 hc]
       show _=kc ((x ::(l++[kp f n])).getD i undef) j;rw[eG]
      ·have e:i=l.length+1:=by omega
       subst e;have k:=qhK f n;have eG:(x ::(l++[kp f n])).getD (l.length+1) undef=kp f n:=by simp[xc6]
       show(if l.length+1<l.length+1 then frow (l.length+1) j else [SV.val (.int .i64 (f 0)),SV.val (.int .i64 (f 1)),SV.val (.int .i64 (f 2)),SV.val (.int .i64 (f 3)),SV.val (.int .i64 (f 4)),SV.val (.int .i64 (n:Nat))].getD ((l.length+1 -(l.length+1))*6+j) SV.top)=kc ((x ::(l++[kp f n])).getD (l.length+1) undef) j;rw[if_neg Ω,eG,xb8,Nat.zero_mul,xb0];rcases(Ω:j=0∨j=1∨j=2∨j=3∨j=4∨j=5)with rfl|rfl|rfl|rfl|rfl|rfl
       ·exact k.1.symm
       ·exact k.2.1.symm
       ·exact k.2.2.1.symm
       ·exact k.2.2.2.1.symm
       ·exact k.2.2.2.2.1.symm
       ·exact k.2.2.2.2.2.symm
     ·simp only[xc8,xd1];omega
     ·have hk5:=hkl _ hk2 hk4
      simp only[xc8,xd1];omega
     ·rw[qdl,List.map_append,List.map_cons,List.map_nil,xc8,xd1,xc8,xd1]
      exact weakSU Ω Ωf (SubHp.cons (SubHp.skip (hbx _ Ω) (SubHp.skip (hbx _ Ω) (SubHp.refl _))))
    ·unfold I B
     (repeat' (first|refine sD ?_ ?_<;>intro _|refine aAc ?_|(simp -dsimp only[↓RP,RQ,xa0,reduceIte,reduceCtorEq,xa1,xa2,xa3,xa4,NB3,NO,hdr,NB,NB1,ND,jb,QS,QT,QN])));refine⟨(ks++[kp f n],x :: l,rw1,row1,oid,frow),⟨y1.stop hk2 hk4 hk,y2,y3,fun hh=>?_⟩,?_,?_⟩
     ·have:=y4 hh
      simp only[xc8,xd1];omega
     ·have hk5:=hkl _ hk2 hk4
      simp only[xc8,xd1];omega
     ·rw[qdl,List.map_append,List.map_cons,List.map_nil,xc8,xd1]
      exact weakSU Ω Ωf (SubHp.skip (hbx2 _ Ω Ω) (SubHp.refl _))
   ·skip
    have hkk:ks.length≤N:=hks;have hfl:=y1.cn;have hcl:=GX rw0 N;rw[xe4]at hfl;have hl0:=decide_eq_false (show ¬(((l.length+1:Nat):Nat):Int)=0 by omega);obtain⟨fl,hfe⟩:∃fl,fl=x :: l:=⟨_,rfl⟩;obtain⟨m,hm⟩:∃m,m=l.length+1:=⟨_,rfl⟩;have hml:m=fl.length:=by rw[hfe,hm];rfl
    rw[←hm]at hfl hl0;rw[←hfe]at y1 y3;rw[←hm];(repeat' (first|refine sD ?_ ?_<;>intro _|refine aAc ?_|(simp -dsimp only[↓RP,RQ,xa0,reduceIte,reduceCtorEq,xa1,xa2,xa3,xa4,NO,hdr,hl0,NB,NB1,ND,jb,QS,QT,QN])))
    all_goals try exact Ωb
    refine qn (fun(i:Nat)=>i≤m) (fun i=>⟨[(0,.ptr tb 0),(40,.vec oid m 6),(41,.val (.int .i64 (m:Nat))),(42,.val (.int .i64 (i:Nat)))],(oid,.rows 255 6 m frow) ::(rid,.rows 3 1 N row1) ::(mid,.mapS kfP (domC dom (fl.take i)) get stamp clk) ::(tb,.cells 253 [A,Z,.vec xid N 1,.vec rid N 1,.mp mid]) ::(xid,.rows 22 1 N nx) :: rest,nn+40+60*i⟩) (fun i=>m - i) 0 (xb6 _) (by rw[List.take_zero,qhT];exact weakSU Ω Ωf (SubHp.cons (SubHp.skip (hbx0 _ Ω) (SubHp.refl _)))) fun i hi=>?_;obtain⟨n4,hn4⟩:∃n4,n4=nn+40+60*i:=⟨_,rfl⟩;rw[←hn4];clear NB;have NB:=(⟨nmA (Ω:tb<n4),nmA (Ω:xid<n4),nmA (Ω:rid<n4),nmA (Ω:mid<n4),nmA (Ω:oid<n4)⟩:_∧_∧_∧_∧_);have hbx4:∀{X Y Z':Blk} x,n4≤x→blk ((oid,X) ::(rid,Y) ::(mid,Z') ::(tb,.cells 253 [A,Z,.vec xid N 1,.vec rid N 1,.mp mid]) ::(xid,.rows 22 1 N nx) :: rest) x=none:=fun x hx=>by
     simp only[blk];rw[if_neg Ω,if_neg Ω,if_neg Ω,if_neg Ω,if_neg Ω];exact h.und.none Ω
    by_cases him:i<m
    ·have hlt:=decide_eq_true (Ω:((i:Nat):Int)<(m:Nat))
     have hmem:fl.getD i undef∈fl:=by
      rw[xc6,xc7 (Ω:i<fl.length)];exact List.getElem_mem _
     obtain⟨f,n,hn,hfn⟩:=h.keys _ (hd0 _ (y1.inD _ (y1.sub _ hmem)));have k:=qhK f n;have f0:=y3 i 0 Ω Ω;have f1:=y3 i 1 Ω Ω;have f2:=y3 i 2 Ω Ω;have f3:=y3 i 3 Ω Ω;have f4:=y3 i 4 Ω Ω;have f5:=y3 i 5 Ω Ω;rw[hfn,k.1]at f0;rw[hfn,k.2.1]at f1;rw[hfn,k.2.2.1]at f2;rw[hfn,k.2.2.2.1]at f3;rw[hfn,k.2.2.2.2.1]at f4;rw[hfn,k.2.2.2.2.2]at f5;(repeat' (first|refine sD ?_ ?_<;>intro _|refine aAc ?_|(simp -dsimp only[↓RP,RQ,xa0,reduceIte,reduceCtorEq,xa1,xa2,xa3,xa4,NO,hlt,f0,f1,f2,f3,f4,f5,qlK,qhS,NB,NB1,ND,jb,QS,QT,QN])))
     all_goals try exact Ωb
     have hgi:fl[i]? = some (kp f n):=by
      rw[←hfn,xc6,xc7 (Ω:i<fl.length)];rfl
     have hcut:kM (domC dom (List.take i fl)) (Value.agg #[Value.int .i64 (f 0),Value.int .i64 (f 1),Value.int .i64 (f 2),Value.int .i64 (f 3),Value.int .i64 (f 4),Value.int .i64 (n:Nat)])=domC dom (List.take (i+1) fl):=by
      show kM _ (kp f n)=_;rw[qmA,List.take_add_one,hgi];rfl
     rw[hcut];exact⟨i+1,Ω,Ω,weakSU Ω Ωf (SubHp.skip (hbx4 _ Ω) (SubHp.refl _))⟩
    ·obtain rfl:i=m:=by omega
     have hlt:=decide_eq_false (Ω:¬((i:Nat):Int)<(i:Nat));(repeat' (first|refine sD ?_ ?_<;>intro _|refine aAc ?_|(simp -dsimp only[↓RP,RQ,xa0,reduceIte,reduceCtorEq,xa1,xa2,xa3,xa4,NO,hlt,NB,NB1,ND,jb,QS,QT,QN])))
     all_goals try exact Ωb
     have yd:=y1;rw[hdom]at yd;have ed:=yd.dom;have hX:id+(960*N+400)*(c+1)=n1+(960*N+400):=by rw[hn1,Nat.mul_add,Nat.mul_one];omega
     refine⟨(rw1,row1,c+1),⟨y1.rwF,y2,by simp only[];omega⟩,by simp only[];omega,qdk (mid:=mid) (fit:=kfP) (dom:=domC dom (List.take i fl)) (dom':=fun v=>dom0 v&&decide (rw1 (zN v)<0)) (get:=get) (st:=stamp) (c:=clk) ΩK (fun v=>?_) (by simp only[];rw[hX];omega) Ωf (by simp only[setBlk,NB,NB1,ND,NO,reduceIte];exact SubHp.skip (hbx0 _ Ω) (SubHp.refl _))⟩;rw[hdom,List.take_of_length_le Ω,ed]
end Go.Tn
end
section
namespace Go.Sx
open Go.RowKit
noncomputable section
def gG(cl:SV→Option SV)(l:List SV):Option (List SV):=
 List.rec (motive:=fun _=>Option (List SV)) (some []) (fun a _ ih=>match cl a,ih with
  |some b,some m=>some (b :: m)
  |_,_=>none) l
def qnT(k:Nat)(l:List SV)(i j:Nat):SV:=l.getD (i*k+j) .top
def YV(o full:Bool)(n k:Nat)(l:Option (List SV)):Option SV:=
 match l with
 |some l=>some (.arr o full n k (qnT k l))
 |none=>none
def qko(f:List SV→SV)(l:Option (List SV)):Option SV:=
 match l with
 |some l=>some (f l)
 |none=>none
def fnO(f:Fn)(a b:Option (List SV)):Option SV:=
 match a,b with
 |some a,some b=>some (.fn f a b)
 |_,_=>none
def qkp(o:Bool)(n:Nat)(l:Option (List SV)):Option SV:=
 match l with
 |some l=>some (.ref o n (fun j=>l.getD j .top))
 |none=>none
def qbG(o:Bool)(hp:Tr 6 XB)(cl:SV→Option SV)(s:SV):Option SV:=
 match s with
 |.val v=>some (.val v)
 |.agg l=>qko .agg (gG cl l)
 |.tup l=>qko .tup (gG cl l)
 |.fn f a b=>fnO f (gG cl a) (gG cl b)
 |.vec id n k=>(match hp.find id with
  |some (.rows _ k' n' l)=>Bool.rec none (YV o false n k (gG cl (l.take (n*k)))) (Nat.ble n n'&&Nat.beq k k')
  |_=>none)
 |.cut id n k=>(match hp.find id with
  |some (.rows _ k' n' l)=>Bool.rec none (YV o true n k (gG cl (l.take (n*k)))) (Nat.ble n n'&&Nat.beq k k')
  |_=>none)
 |.asl id off n k=>(match hp.find id with
  |some (.cells _ l)=>Bool.rec none (YV o false n k (gG cl ((l.drop off).take (n*k)))) (Nat.ble (off+n*k) l.length)
  |_=>none)
 |.ptr id off=>(match hp.find id with
  |some (.cells _ l)=>qkp o (l.length - off) (gG cl (l.drop off))
  |_=>none)
 |.arr o' full n k row=>Bool.rec none (YV o full n k (gG cl (ww row k n))) (Bool.rec true o' o)
 |.ref o' n row=>Bool.rec none (qkp o n (gG cl (sel row 0 n))) (Bool.rec true o' o)
 |_=>some .top
def Qo(o:Bool)(hp:Tr 6 XB)(n:Nat):SV→Option SV:=Nat.rec (fun _=>some .top) (fun _ ih=>qbG o hp ih) n
section
variable{H:List (Nat×Blk)}{hp:Tr 6 XB}{LM:Nat→Option Loop}
def OF(o:Bool)(s:SV):Prop:=(o=false→Old s)∧(o=true→Fresh s)
def OFL(o:Bool)(s:List SV):Prop:=(o=false→OldL s)∧(o=true→FreshL s)
theorem zE{o:Bool}{cl:SV→Option SV}(hcl:∀s s',cl s=some s'→Sub H s' s∧OF o s'):∀{l l':List SV},gG cl l=some l'→SubL H l' l∧OFL o l'∧l'.length=l.length∧∀i,i<l.length→Sub H (l'.getD i .top) (l.getD i .top)∧OF o (l'.getD i .top)
 |[],l',h=>by
  cases h;exact⟨by simp[SubL],⟨fun _=>by simp[OldL],fun _=>by simp[FreshL]⟩,rfl,fun i hi=>by simp at hi⟩
 |a :: l,l',h=>by
  have h:(match cl a,gG cl l with
   |some b,some m=>some (b :: m)
   |_,_=>none)=some l':=h
  split at h
  ·rename_i b m hb hm
   cases h;obtain⟨h1,h2⟩:=hcl _ _ hb;obtain⟨g1,g2,g3,g4⟩:=zE hcl hm;refine⟨by simp only[SubL];exact⟨h1,g1⟩,⟨fun e=>by simp only[OldL];exact⟨h2.1 e,g2.1 e⟩,fun e=>by simp only[FreshL];exact⟨h2.2 e,g2.2 e⟩⟩,by simp[g3],fun i hi=>?_⟩;cases i with
   |zero=>exact⟨h1,h2⟩
   |succ i=>exact g4 i Ωab
  ·cases h
theorem Ws{o full:Bool}{n k:Nat}{l:List SV}(h:∀i,i<n*k→OF o (l.getD i .top)):OF o (.arr o full n k (qnT k l)):=
 ⟨fun e=>by simp only[Old];exact⟨e,fun i j hi hj=>(h _ (kX hi hj)).1 e⟩,fun e=>by simp only[Fresh];exact⟨e,fun i j hi hj=>(h _ (kX hi hj)).2 e⟩⟩
theorem qhV{o:Bool}{n:Nat}{l:List SV}(h:∀i,i<n→OF o (l.getD i .top)):OF o (.ref o n (fun j=>l.getD j .top)):=
 ⟨fun e=>by simp only[Old];exact⟨e,fun j hj=>(h _ hj).1 e⟩,fun e=>by simp only[Fresh];exact⟨e,fun j hj=>(h _ hj).2 e⟩⟩
theorem YW{a b:Bool}{α:Type}{x:Option α}{y:α}(h:(Bool.rec none x (a&&b):Option α)=some y):a=true∧b=true∧x=some y:=by
 cases a<;>cases b<;>first|exact⟨rfl,rfl,h⟩|cases h
theorem GZ{a:Bool}{α:Type}{x:Option α}{y:α}(h:(Bool.rec none x a:Option α)=some y):a=true∧x=some y:=by
 cases a<;>first|exact⟨rfl,h⟩|cases h
theorem vB{l:List SV}{m i:Nat}(h:i<m):(l.take m).getD i .top=l.getD i .top:=by
 rw[xc6,xc6,List.getElem?_take,if_pos h]
theorem ZU{l:List SV}{m i:Nat}:(l.drop m).getD i .top=l.getD (m+i) .top:=by
 rw[xc6,xc6,List.getElem?_drop]
theorem ZV(hH:HRel LM hp H)(o:Bool):∀(n:Nat)(s s':SV),Qo o hp n s=some s'→Sub H s' s∧OF o s'
 |0,s,s',h=>by
  have h:some SV.top=some s':=h;cases h;exact⟨by simp[Sub],⟨fun _=>by simp[Old],fun _=>by simp[Fresh]⟩⟩
 |m+1,s,s',h0=>by
  have h:qbG o hp (Qo o hp m) s=some s':=h0;clear h0;have ih:=ZV hH o m;unfold qbG at h;split at h
  ·cases h;exact⟨by simp[Sub],⟨fun _=>by simp[Old],fun _=>by simp[Fresh]⟩⟩
  ·unfold qko at h
   split at h
   ·rename_i l' hl
    cases h;obtain⟨h1,h2,_⟩:=zE ih hl;exact⟨by simp only[Sub];exact h1,⟨fun e=>by simp only[Old];exact h2.1 e,fun e=>by simp only[Fresh];exact h2.2 e⟩⟩
   ·cases h
  ·unfold qko at h
   split at h
   ·rename_i l' hl
    cases h;obtain⟨h1,h2,_⟩:=zE ih hl;exact⟨by simp only[Sub];exact h1,⟨fun e=>by simp only[Old];exact h2.1 e,fun e=>by simp only[Fresh];exact h2.2 e⟩⟩
   ·cases h
  ·unfold fnO at h
   split at h
   ·rename_i a' b' ha hb
    cases h;obtain⟨h1,h2,_⟩:=zE ih ha;obtain⟨g1,g2,_⟩:=zE ih hb;exact⟨by simp only[Sub];exact⟨trivial,h1,g1⟩,⟨fun e=>by simp only[Old];exact⟨h2.1 e,g2.1 e⟩,fun e=>by simp only[Fresh];exact⟨h2.2 e,g2.2 e⟩⟩⟩
   ·cases h
  ·split at h
   ·rename_i id n k _ _ k' n' l hb
    obtain⟨q1,q2,p⟩:=YW h;clear h;have q1:=xa7 q1;have q2:=xa6 q2;subst q2;unfold YV at p;split at p
    ·rename_i l' hl
     cases p;obtain⟨_,_,h3,h4⟩:=zE ih hl;obtain⟨row,hb,hr⟩:=hH.rows hb;have hlen:(l.take (n*k)).length=n*k:=(hr.take q1).1;refine⟨?_,Ws fun i hi=>(h4 i Ω).2⟩;simp only[Sub,hb];refine⟨trivial,trivial,trivial,q1,trivial,fun i j hi hj=>?_⟩;have:=(h4 (i*k+j) (by rw[hlen];exact kX hi hj)).1;rw[vB (kX hi hj)]at this;rw[hr.2 i j Ω hj];exact this
    ·cases p
   ·cases h
  ·split at h
   ·rename_i id n k _ _ k' n' l hb
    obtain⟨q1,q2,p⟩:=YW h;clear h;have q1:=xa7 q1;have q2:=xa6 q2;subst q2;unfold YV at p;split at p
    ·rename_i l' hl
     cases p;obtain⟨_,_,h3,h4⟩:=zE ih hl;obtain⟨row,hb,hr⟩:=hH.rows hb;have hlen:(l.take (n*k)).length=n*k:=(hr.take q1).1;refine⟨?_,Ws fun i hi=>(h4 i Ω).2⟩;simp only[Sub,hb];refine⟨trivial,trivial,q1,trivial,fun i j hi hj=>?_⟩;have:=(h4 (i*k+j) (by rw[hlen];exact kX hi hj)).1;rw[vB (kX hi hj)]at this;rw[hr.2 i j Ω hj];exact this
    ·cases p
   ·cases h
  ·split at h
   ·rename_i id off n k _ _ l hb
    obtain⟨q1,p⟩:=GZ h;clear h;have q1:=xa7 q1;unfold YV at p;split at p
    ·rename_i l' hl
     cases p;obtain⟨_,_,h3,h4⟩:=zE ih hl;have hlen:((l.drop off).take (n*k)).length=n*k:=by rw[xd9,List.length_drop];omega
     refine⟨?_,Ws fun i hi=>(h4 i Ω).2⟩;simp only[Sub,hH.cells hb];refine⟨trivial,trivial,trivial,q1,fun i j hi hj=>?_⟩;have:=(h4 (i*k+j) (by rw[hlen];exact kX hi hj)).1;rw[vB (kX hi hj),ZU]at this;exact this
    ·cases p
   ·cases h
  ·split at h
   ·rename_i id off _ _ l hb
    unfold qkp at h;split at h
    ·rename_i l' hl
     cases h;obtain⟨_,_,h3,h4⟩:=zE ih hl;have hlen:(l.drop off).length=l.length - off:=List.length_drop;refine⟨?_,qhV fun i hi=>(h4 i Ω).2⟩;simp only[Sub,hH.cells hb];intro j hj;have:=(h4 j Ω).1;rw[ZU]at this;exact⟨this,Ω⟩
    ·cases h
   ·cases h
  ·rename_i o' full n k row
   obtain⟨q1,p⟩:=GZ h;clear h;unfold YV at p;split at p
   ·rename_i l' hl
    cases p;obtain⟨_,_,h3,h4⟩:=zE ih hl;have hr:=g9 row k n;refine⟨?_,Ws fun i hi=>(h4 i (by rw[hr.1];exact hi)).2⟩;simp only[Sub];refine⟨fun e=>by rw[e]at q1;exact q1,id,trivial,trivial,fun i j hi hj=>?_⟩;have:=(h4 (i*k+j) (by rw[hr.1];exact kX hi hj)).1;rw[hr.2 i j hi hj];exact this
   ·cases p
  ·rename_i o' n row
   obtain⟨q1,p⟩:=GZ h;clear h;unfold qkp at p;split at p
   ·rename_i l' hl
    cases p;obtain⟨_,_,h3,h4⟩:=zE ih hl;refine⟨?_,qhV fun i hi=>(h4 i (by rw[gN];exact hi)).2⟩;simp only[Sub];refine⟨fun e=>by rw[e]at q1;exact q1,xa5 _,fun j hj=>?_⟩;have:=(h4 j (by rw[gN];exact hj)).1;have e2:(sel row 0 n).getD j .top=row j:=by rw[xc6,yg,if_pos hj,xb0];rfl
    rw[e2]at this;exact this
   ·cases p
  ·cases h
   exact⟨by simp[Sub],⟨fun _=>by simp[Old],fun _=>by simp[Fresh]⟩⟩
def qbH(fr:SV→Bool)(s:SV):Bool:=
 match s with
 |.val _=>true
 |.agg l=>l.all fr
 |.tup l=>l.all fr
 |.fn _ a b=>a.all fr&&b.all fr
 |.arr true _ n k row=>(ww row k n).all fr
 |.ref true n row=>(sel row 0 n).all fr
 |_=>false
def G1(n:Nat):SV→Bool:=Nat.rec (fun _=>false) (fun _ ih=>qbH ih) n
theorem vC{fr:SV→Bool}(hfr:∀s,fr s=true→Fresh s):∀{l:List SV},l.all fr=true→FreshL l
 |[],_=>by simp[FreshL]
 |a :: l,h=>by
  rw[List.all_cons,xe6]at h;simp only[FreshL];exact⟨hfr a h.1,vC hfr h.2⟩
theorem yC:∀(n:Nat)(s:SV),G1 n s=true→Fresh s
 |0,s,h=>by cases h
 |m+1,s,h0=>by
  have h:qbH (G1 m) s=true:=h0;clear h0;have ih:=yC m;unfold qbH at h;split at h
  ·simp[Fresh]
  ·simp only[Fresh];exact vC ih h
  ·simp only[Fresh];exact vC ih h
  ·rw[xe6]at h
   simp only[Fresh];exact⟨vC ih h.1,vC ih h.2⟩
  ·rename_i n k row
   have hr:=g9 row k n;simp only[Fresh];refine⟨trivial,fun i j hi hj=>ih _ ?_⟩;rw[hr.2 i j hi hj,xc6];have hlt:i*k+j<(ww row k n).length:=by rw[hr.1];exact kX hi hj
   rw[xc7 hlt];exact List.all_eq_true.1 h _ (List.getElem_mem hlt)
  ·rename_i n row
   simp only[Fresh];refine⟨trivial,fun j hj=>ih _ ?_⟩;have hlt:j<(sel row 0 n).length:=by rw[gN];exact hj
   have e:(sel row 0 n)[j]? = some (row j):=by rw[yg,if_pos hj,xb0]
   exact List.all_eq_true.1 h _ (List.mem_of_getElem? e)
  ·cases h
def qdm(u v:Value):Bool:=
 match u with
 |.int k a=>(match v with|.int k' b=>eqKind k k'&&Jz a b|_=>false)
 |.pointer none=>(match v with|.pointer none=>true|_=>false)
 |.slice none 0 0=>(match v with|.slice none 0 0=>true|_=>false)
 |.nilFunc=>(match v with|.nilFunc=>true|_=>false)
 |u=>eqK u v
theorem YX{u v:Value}(h:qdm u v=true):u=v:=by
 unfold qdm at h;split at h
 ·split at h
  ·rw[xe6,yv,decide_eq_true_eq]at h
   rw[vi h.1,h.2]
  ·cases h
 ·split at h<;>first|rfl|cases h
 ·split at h<;>first|rfl|cases h
 ·split at h<;>first|rfl|cases h
 ·exact ke h
def mtL(m:SV→SV→Bool)(l:List SV):List SV→Bool:=List.rec (motive:=fun _=>List SV→Bool) (fun l'=>List.rec true (fun _ _ _=>false) l') (fun a _ ih l'=>List.rec false (fun b l' _=>Bool.rec false (ih l') (m a b)) l') l
def mtR(m:SV→SV→Bool)(hp:Tr 6 XB)(o:Bool)(n k:Nat)(row:Nat→Nat→SV)(x:SV):Bool:=
 match x with
 |.vec id n1 k1=>(match hp.find id with
  |some (.rows _ k' n' l)=>Nat.beq n n1&&(Nat.beq k k1&&(Nat.beq k1 k'&&(Nat.ble n n'&&mtL m (ww row k n) (l.take (n*k)))))
  |_=>false)
 |.asl id off n1 k1=>(match hp.find id with
  |some (.cells _ l)=>Nat.beq n n1&&(Nat.beq k k1&&(Nat.ble (off+n*k) l.length&&mtL m (ww row k n) ((l.drop off).take (n*k))))
  |_=>false)
 |.arr o' _ n1 k1 row1=>Nat.beq n n1&&(Nat.beq k k1&&((Bool.rec true o' o:Bool)&&mtL m (ww row k n) (ww row1 k n)))
 |_=>false
def mtS(m:SV→SV→Bool)(hp:Tr 6 XB)(p x:SV):Bool:=
 match p with
 |.top=>true
 |.val u=>(match x with|.val v=>qdm u v|_=>false)
 |.agg l=>(match x with|.agg l'=>mtL m l l'|_=>false)
 |.tup l=>(match x with|.tup l'=>mtL m l l'|_=>false)
 |.arr o false n k row=>mtR m hp o n k row x
 |_=>false
def mtX(hp:Tr 6 XB)(n:Nat):SV→SV→Bool:=Nat.rec (fun _ _=>false) (fun _ ih=>mtS ih hp) n
theorem Qp{m:SV→SV→Bool}(hm:∀p x,m p x=true→Sub H p x):∀{l l':List SV},mtL m l l'=true→SubL H l l'∧l.length=l'.length∧∀i,i<l.length→Sub H (l.getD i .top) (l'.getD i .top)
 |[],[],_=>⟨by simp[SubL],rfl,fun i hi=>by simp at hi⟩
 |[],b :: l',h=>by cases h
 |a :: l,[],h=>by cases h
 |a :: l,b :: l',h=>by
  have h:(Bool.rec false (mtL m l l') (m a b):Bool)=true:=h;cases q:m a b with
  |false=>rw[q]at h;cases h
  |true=>
   rw[q]at h;obtain⟨h1,h2,h3⟩:=Qp hm h;refine⟨by simp only[SubL];exact⟨hm _ _ q,h1⟩,by simp[h2],fun i hi=>?_⟩;cases i with
   |zero=>exact hm _ _ q
   |succ i=>exact h3 i Ωab
theorem qbI(hH:HRel LM hp H):∀(n:Nat)(p x:SV),mtX hp n p x=true→Sub H p x
 |0,p,x,h=>by cases h
 |n+1,p,x,h0=>by
  have h:mtS (mtX hp n) hp p x=true:=h0;clear h0;have ih:=qbI hH n;unfold mtS at h;split at h
  ·simp[Sub]
  ·split at h
   ·rw[YX h];simp[Sub]
   ·cases h
  ·split at h
   ·simp only[Sub];exact(Qp ih h).1
   ·cases h
  ·split at h
   ·simp only[Sub];exact(Qp ih h).1
   ·cases h
  ·rename_i o n0 k row
   have hr0:=g9 row k n0;have pr:∀i j,i<n0→j<k→(ww row k n0).getD (i*k+j) .top=row i j:=fun i j hi hj=>(hr0.2 i j hi hj).symm;have hln:∀i j,i<n0→j<k→i*k+j<(ww row k n0).length:=fun i j hi hj=>by rw[hr0.1];exact kX hi hj
   unfold mtR at h;split at h
   ·split at h
    ·rename_i id n1 k1 _ _ k' n' l hb
     simp only[xe6,Nat.beq_eq,Nat.ble_eq]at h;obtain⟨rfl,rfl,rfl,h4,h5⟩:=h;obtain⟨row',hb,hr⟩:=hH.rows hb;obtain⟨_,_,h7⟩:=Qp ih h5;simp only[Sub,hb];refine⟨trivial,trivial,trivial,h4,trivial,fun i j hi hj=>?_⟩;have:=h7 (i*k+j) (hln i j hi hj);rw[pr i j hi hj,vB (kX hi hj)]at this;rw[hr.2 i j Ω hj];exact this
    ·cases h
   ·split at h
    ·rename_i id off n1 k1 _ _ l hb
     simp only[xe6,Nat.beq_eq,Nat.ble_eq]at h;obtain⟨rfl,rfl,h4,h5⟩:=h;obtain⟨_,_,h7⟩:=Qp ih h5;simp only[Sub,hH.cells hb];refine⟨trivial,trivial,trivial,h4,fun i j hi hj=>?_⟩;have:=h7 (i*k+j) (hln i j hi hj);rw[pr i j hi hj,vB (kX hi hj),ZU]at this;exact this
    ·cases h
   ·rename_i o' full n1 k1 row1
    simp only[xe6,Nat.beq_eq]at h;obtain⟨rfl,rfl,h4,h5⟩:=h;obtain⟨_,_,h7⟩:=Qp ih h5;have hr1:=g9 row1 k n0;simp only[Sub];refine⟨fun e=>(by rw[e]at h4;exact h4),fun e=>(by cases e),trivial,trivial,fun i j hi hj=>?_⟩;have:=h7 (i*k+j) (hln i j hi hj);rw[pr i j hi hj,←hr1.2 i j hi hj]at this;exact this
   ·cases h
  ·cases h
def Vh{α:Type}(hp:Tr 6 XB)(args:List SV)(l:List (List SV×α)):Option α:=List.rec none (fun p _ ih=>Bool.rec ih (some p.2) (mtL (mtX hp 5) p.1 args)) l
theorem w9{α:Type}(hH:HRel LM hp H){args:List SV}:∀{l:List (List SV×α)}{s:α},Vh hp args l=some s→∃qq_,(qq_,s)∈l∧SubL H qq_ args
 |[],s,h=>by cases h
 |p :: l,s,h=>by
  have h:(Bool.rec (Vh hp args l) (some p.2) (mtL (mtX hp 5) p.1 args):Option α)=some s:=h;cases q:mtL (mtX hp 5) p.1 args with
  |false=>
   rw[q]at h;obtain⟨qq_,h1,h2⟩:=w9 hH h;exact⟨qq_,List.mem_cons_of_mem _ h1,h2⟩
  |true=>
   rw[q]at h;have h:some p.2=some s:=h;cases h;exact⟨p.1,xd5,(Qp (qbI hH 5) q).1⟩
end
end
end Go.Sx
end
section
namespace Go.Sx
open Go.RowKit
noncomputable section
variable{ρ:Q}
abbrev XK:=Ex→Tr 3 SV→Tr 6 XB→Nat→R
inductive CX:Type
 |top
 |rnd
 |gen (y:Nat) (L:List (Nat×List (Nat×Nat))) (fr:Tr 3 SV) (ps:List Tmp) (a b:Code)
abbrev FL:=List (Nat×List (Nat×Nat))
abbrev XC:=FL→CX→Code→Tr 3 SV→Tr 6 XB→Nat→XK→R
section
variable{P:Program}{E:XE}{LM:Nat→Option Loop}
def StR(LM:Nat→Option Loop)(fr:Tr 3 SV)(hp:Tr 6 XB)(nid:Nat)(st:St):Prop:=FRel fr st.fr∧HRel LM hp st.hp∧st.nid=nid
def putD(d:Option Tmp)(s:SV)(fr:Tr 3 SV)(g:Tr 3 SV→R):R:=
 match d with
 |none=>g fr
 |some d=>zs (some s) 12 fr d g
theorem FRel.put{fr fr':Tr 3 SV}{F:List (Nat×SV)}{d:Nat}{s:SV}(h:FRel fr F)(hp:qhh fr fr' d (some s)):FRel fr' (putFr F d s):=fun t=>by
 rw[zl];unfold qD;rw[hp t];by_cases c:t=d
 ·rw[if_pos c,if_pos c]
 ·rw[if_neg c,if_neg c];exact h t
theorem kK{d:Option Tmp}{s:SV}{fr:Tr 3 SV}{g:Tr 3 SV→R}(h:putD d s fr g=.ok ρ){hp:Tr 6 XB}{nid:Nat}{st:St}(hs:StR LM fr hp nid st):∃fr',StR LM fr' hp nid (st.put d s)∧g fr'=.ok ρ:=by
 unfold putD at h;cases d with
 |none=>exact⟨fr,hs,h⟩
 |some d=>
  obtain⟨fr',h1,h2⟩:=qM _ _ _ _ h;exact⟨fr',⟨hs.1.put h1,hs.2.1,hs.2.2⟩,h2⟩
theorem HRel.cons{hp hp':Tr 6 XB}{H:List (Nat×Blk)}(h:HRel LM hp H){id:Nat}{b:XB}{b':Blk}(hb:BRel (LM id) b b')(hp:qhh hp hp' id (some b)):HRel LM hp' ((id,b') :: H):=fun j x hj=>by
 rw[hp j]at hj;by_cases c:j=id
 ·rw[if_pos c]at hj;cases hj;exact⟨b',by simp only[blk];rw[if_pos c],c▸hb⟩
 ·rw[if_neg c]at hj;simp only[blk];rw[if_neg c];exact h j x hj
theorem HRel.set{hp hp':Tr 6 XB}{H:List (Nat×Blk)}(h:HRel LM hp H){id:Nat}{b y:XB}{b':Blk}(hb:BRel (LM id) b b')(hy:hp.find id=some y)(hp:qhh hp hp' id (some b)):HRel LM hp' (setBlk H id b'):=fun j x hj=>by
 rw[hp j]at hj;rw[qp];by_cases c:j=id
 ·rw[if_pos c]at hj;cases hj
  obtain⟨z,hz,_⟩:=h id y hy;rw[if_pos c,hz];exact⟨b',rfl,c▸hb⟩
 ·rw[if_neg c]at hj;rw[if_neg c];exact h j x hj
theorem HRel.drop{hp hp':Tr 6 XB}{H:List (Nat×Blk)}(h:HRel LM hp H){id:Nat}(hp:qhh hp hp' id none):HRel LM hp' (dropBlk H id):=fun j x hj=>by
 rw[hp j]at hj;rw[qS];by_cases c:j=id
 ·rw[if_pos c]at hj;cases hj
 ·rw[if_neg c]at hj;rw[if_neg c];exact h j x hj
structure qkq(P:Program)(g:Nat)(fn:Func)(L:FL)(c:Code):Prop where
 at_:P.funcs[g]? = some fn
 body:fn.body=some c
 name : (fn.name == "runtime.NumGoroutine") = false
 ok:qE (zQ L) fn.ntmps c=true
def YY(l:List SV):Nat→Tr 3 SV→(Tr 3 SV→R)→R:=
 List.rec (motive:=fun _=>Nat→Tr 3 SV→(Tr 3 SV→R)→R) (fun _ t g=>g t) (fun a _ ih i t g=>zs (some a) 12 t i fun t=>ql (Nat.succ i) fun i=>ih i t g) l
theorem qdn:∀(l:List SV)(i:Nat)(t:Tr 3 SV)(g:Tr 3 SV→R),YY l i t g=.ok ρ→∃t',(∀j,qD t' j=if j<i then qD t j else if j<i+l.length then l.getD (j - i) .top else qD t j)∧g t'=.ok ρ
 |[],i,t,g,h=>⟨t,fun j=>by
   by_cases c:j<i
   ·rw[if_pos c]
   ·rw[if_neg c,if_neg (by simpa using c)],h⟩
 |a :: l,i,t,g,h=>by
  have h:zs (some a) 12 t i (fun t=>ql (Nat.succ i) fun i=>YY l i t g)=.ok ρ:=h;obtain⟨t1,h1,h⟩:=qM _ _ _ _ h;rw[qi]at h;obtain⟨t2,h2,h⟩:=qdn l _ _ _ h;refine⟨t2,fun j=>?_,h⟩;rw[h2 j];have e1:qD t1 j=if j=i then a else qD t j:=by
   unfold qD;rw[h1 j];by_cases c:j=i
   ·rw[if_pos c,if_pos c]
   ·rw[if_neg c,if_neg c]
  rw[e1];by_cases c:j<i
  ·rw[if_pos Ω,if_neg Ω,if_pos c]
  ·rw[if_neg c]
   by_cases d:j=i
   ·rw[if_pos Ω,if_pos d,if_pos Ωj,d,xb8];rfl
   ·rw[if_neg Ω,if_neg d]
    by_cases e:j<i+(a :: l).length
    ·rw[if_pos e,if_pos (by simp at e ⊢;omega),show j - i=j -(i+1)+1 by omega];rfl
    ·rw[if_neg e,if_neg (by simp at e ⊢;omega)]
theorem Zj{l:List SV}{g:Tr 3 SV→R}(h:YY l 0 .nil g=.ok ρ):∃t',FRel t' (argFr 0 l)∧g t'=.ok ρ:=by
 obtain⟨t',h1,h2⟩:=qdn l 0 .nil g h;refine⟨t',fun j=>?_,h2⟩;rw[h1 j,Gq,if_neg (Nat.not_lt_zero j),if_neg (Nat.not_lt_zero j),Nat.sub_zero];by_cases c:j<0+l.length
 ·rw[if_pos c]
 ·rw[if_neg c,xc6,List.getElem?_eq_none Ω];unfold qD;rw[Q0];rfl
def qkr(E:XE)(fr:Tr 3 SV)(hp:Tr 6 XB)(rv:ResultVar)(g:SV→R):R:=
 match rv with
 |.tmp t=>g (qD fr t)
 |.cell t ty=>YA E hp ty (qD fr t) fun x=>(match x with|.pure s=>g s|_=>.bad 300 0)
def Zk(E:XE)(fr:Tr 3 SV)(hp:Tr 6 XB)(l:List ResultVar):(List SV→R)→R:=
 List.rec (motive:=fun _=>(List SV→R)→R) (fun g=>g []) (fun rv _ ih g=>qkr E fr hp rv fun s=>svK s fun s=>ih fun m=>g (s :: m)) l
theorem qks(hE:XOk P E){fr:Tr 3 SV}{hp:Tr 6 XB}{nid:Nat}{st:St}(hs:StR LM fr hp nid st){rv:ResultVar}{g:SV→R}{K:SV→Prop}(h:qkr E fr hp rv g=.ok ρ)(hk:∀s,g s=.ok ρ→K s):resultVC P rv st K:=by
 unfold qkr at h;split at h
 ·show K (look st.fr _)
  rw[hs.1];exact hk _ h
 ·rename_i t ty
  show match rLoad (qq P ty) st.hp (look st.fr t)with
   |.pure obl sv=>obl∧K sv
   |.ex obl=>∃sv,obl sv∧K sv
   |_=>False
  rw[hs.1];obtain⟨x,h1,h2⟩:=YB (id:=0) hE hs.2.1 h;cases x<;>simp only[reduceCtorEq]at h2
  rename_i s;rcases h1 with⟨obl,e,ho⟩|⟨obl,e,ho⟩
  ·rw[e];exact⟨ho,hk s h2⟩
  ·rw[e];exact⟨s,ho,hk s h2⟩
theorem Zl(hE:XOk P E){fr:Tr 3 SV}{hp:Tr 6 XB}{nid:Nat}{st:St}(hs:StR LM fr hp nid st):∀{l:List ResultVar}{g:List SV→R}{K:List SV→Prop},Zk E fr hp l g=.ok ρ→(∀m,g m=.ok ρ→K m)→resultsVC P l st K
 |[],g,K,h,hk=>hk [] h
 |rv :: l,g,K,h,hk=>by
  have h:qkr E fr hp rv (fun s=>svK s fun s=>Zk E fr hp l fun m=>g (s :: m))=.ok ρ:=h;refine qks hE hs h fun s h=>?_;rw[ZN]at h;exact Zl hE hs h fun m h=>hk _ h
theorem G3 {O : Ctx} (far : Nat → List (Nat × Nat)) (hm : P.follows .mixedOrders = true) {f : FuncId} {fn : Func} {c : Code} (hf : P.funcs[f]? = some fn) (hb : fn.body = some c) (hname : (fn.name == "runtime.NumGoroutine") = false) (hok : qE far fn.ntmps c = true) {args : List SV} (hlen : args.length ≤ fn.ntmps) {st : St} {K : St → SV → Prop}
  (h:∀out:List Fr,vc P ⟨out,st.nid,false,far⟩ c ⟨argFr 0 args,st.hp,st.nid⟩ (fun e st'=>match e with|.exit _=>False|_=>resultsVC P fn.results.toList st' (fun m=>K ⟨st.fr,st'.hp,st'.nid⟩ (oneSV m)))):kT P O f args st K:=by
 intro base okc ns r outs a w vs h0 hl ha;refine⟨vU hf hb hname vs w,?_⟩;refine g6 hm hf hb hok (O:=⟨⟨st.fr,none,ns,st.nid⟩ :: O.fs,st.nid,false,far⟩) (outs:=⟨a :: outs.as,r⟩) (base:=base) (okc:=okc) (st0:=⟨argFr 0 args,st.hp,st.nid⟩) rfl (Post:=fun st' m=>K ⟨st.fr,st'.hp,st'.nid⟩ (oneSV m))
  ⟨r,h0.pushF far none (fun _ h=>by cases h) false (Ky hl Ω ha) Ωj rfl⟩ (h _) fun st' r' a' w' m us hP hi hml hreps=>?_
 exact⟨_,⟨st.fr,st'.hp,st'.nid⟩,r',oneSV m,rfl,hP,hi.lo,hi.popF h0,yr hml hreps⟩
def ya(P:Program)(E:XE):Prop:=∀g fn L,E.fns g=some (fn,L)→∃c,qkq P g fn L c
def qfk(LM:Nat→Option Loop)(fs:List Fr)(rnd:Bool):CX→Prop
 |.top=>rnd=false
 |.rnd=>rnd=true
 |.gen y L0 fr ps a b=>rnd=false∧∃L F,LM y=some L∧FRel fr F∧GF (zQ L0) fs L F ps a b
def vD(P:Program)(run:XC):Prop:=∀(ρ:Q)(LM:Nat→Option Loop)(fs:List Fr)(lo:Nat)(rnd:Bool)(L:FL)(cx:CX)(c:Code)(st:St)(fr:Tr 3 SV)(hp:Tr 6 XB)(nid:Nat)(f:XK)(K:Ex→St→Prop),qfk LM fs rnd cx→StR LM fr hp nid st→run L cx c fr hp nid f=.ok ρ→
 (∀e fr' hp' nid' st',StR LM fr' hp' nid' st'→f e fr' hp' nid'=.ok ρ→K e st')→vc P ⟨fs,lo,rnd,zQ L⟩ c st K
def qoV(E:XE)(rs:List ResultVar)(d:Option Tmp)(fr:Tr 3 SV)(g:Tr 3 SV→Tr 6 XB→Nat→R):XK
 |.exit _,_,_,_=>.bad 301 0
 |.normal,fr3,hp3,nid3=>Zk E fr3 hp3 rs fun m=>svK (oneSV m) fun s=>putD d s fr fun fr=>g fr hp3 nid3
 |.ret,fr3,hp3,nid3=>Zk E fr3 hp3 rs fun m=>svK (oneSV m) fun s=>putD d s fr fun fr=>g fr hp3 nid3
def qhW(E:XE)(run:XC)(fn:Func)(L:FL)(d:Option Tmp)(args:List SV)(fr:Tr 3 SV)(hp:Tr 6 XB)(id:Nat)(g:Tr 3 SV→Tr 6 XB→Nat→R):R:=
 match fn.body with
 |some c=>qk 302 (Nat.ble args.length fn.ntmps) (YY args 0 .nil fun fr2=>run L .top c fr2 hp id (qoV E fn.results.toList d fr g))
 |none=>.bad 303 0
def qbJ(ps:List Tmp):List SV→Tr 3 SV→(Tr 3 SV→R)→R:=
 List.rec (motive:=fun _=>List SV→Tr 3 SV→(Tr 3 SV→R)→R) (fun _ t g=>g t) (fun p _ ih qq_ t g=>match qq_ with
  |[]=>.bad 340 0
  |a :: qq_=>zs (some a) 12 t p fun t=>ih qq_ t g) ps
theorem Vi:∀{ps:List Tmp}{qq_:List SV}{t:Tr 3 SV}{F:List (Nat×SV)}{g:Tr 3 SV→R},FRel t F→qbJ ps qq_ t g=.ok ρ→∃t',FRel t' (putPs F ps qq_)∧g t'=.ok ρ
 |[],qq_,t,F,g,hF,h=>⟨t,(by cases qq_<;>exact hF),h⟩
 |p :: ps,[],t,F,g,hF,h=>by cases h
 |p :: ps,a :: qq_,t,F,g,hF,h=>by
  have h:zs (some a) 12 t p (fun t=>qbJ ps qq_ t g)=.ok ρ:=h;obtain⟨t1,h1,h⟩:=qM _ _ _ _ h;exact Vi (ps:=ps) (qq_:=qq_) (hF.put h1) h
def qlL(y:Nat)(d:Option Tmp)(fr:Tr 3 SV)(g:Tr 3 SV→Tr 6 XB→Nat→R)(e:Ex)(hp:Tr 6 XB)(nid:Nat):R:=
 match hp.find y with
 |some (.loop .busy)=>(match e with
  |.normal=>zs (some (.loop .ready)) 22 hp y fun hp=>putD d (.val (.bool true)) fr fun fr=>g fr hp nid
  |.ret=>zs (some (.loop .retd)) 22 hp y fun hp=>putD d (.val (.bool false)) fr fun fr=>g fr hp nid
  |.exit i=>zs (some (.loop (.left i))) 22 hp y fun hp=>putD d (.val (.bool false)) fr fun fr=>g fr hp nid)
 |_=>.bad 341 0
def qlM(run:XC)(L:FL)(y:Nat)(b:Code)(d:Option Tmp)(fr:Tr 3 SV)(g:Tr 3 SV→Tr 6 XB→Nat→R):XK
 |.normal,fr1,hp1,nid1=>(match hp1.find y with
  |some (.loop .ready)=>zs (some (.loop .busy)) 22 hp1 y fun hp2=>run L .rnd b fr1 hp2 nid1 fun e _ hp nid=>qlL y d fr g e hp nid
  |_=>.bad 342 0)
 |_,_,_,_=>.bad 343 0
def qbK(run:XC)(cx:CX)(d:Option Tmp)(y:Nat)(args:List SV)(fr:Tr 3 SV)(hp:Tr 6 XB)(id:Nat)(g:Tr 3 SV→Tr 6 XB→Nat→R):R:=
 match cx with
 |.gen y0 L fr0 ps a b=>qk 344 (Nat.beq y y0) (qk 345 (Nat.beq args.length ps.length) (match hp.find y with
  |some (.loop .ready)=>qbJ ps args fr0 fun fr2=>run L .rnd a fr2 hp id (qlM run L y b d fr g)
  |_=>.bad 346 0))
 |_=>.bad 347 0
theorem HRel.loop{hp:Tr 6 XB}{H:List (Nat×Blk)}(h:HRel LM hp H){y:Nat}{s:RSt}{L:Loop}(e:hp.find y=some (.loop s))(hL:LM y=some L):blk H y=some (.loop L s):=by
 obtain⟨b',h1,h2⟩:=h _ _ e;cases b'<;>simp only[BRel]at h2
 obtain⟨rfl,h3⟩:=h2;rw[hL]at h3;cases h3;exact h1
theorem qfl(hm:P.follows .mixedOrders=true){run:XC}(hrun:vD P run){fs:List Fr}{lo:Nat}{rnd:Bool}{far:Nat→List (Nat×Nat)}{cx:CX}(hcx:qfk LM fs rnd cx){d:Option Tmp}{y:Nat}{args:List SV}{fr:Tr 3 SV}{hp:Tr 6 XB}{nid id:Nat}{g:Tr 3 SV→Tr 6 XB→Nat→R}{st:St}{K:St→Prop}(hs:StR LM fr hp nid st)(h:qbK run cx d y args fr hp id g=.ok ρ)
  (hk:∀fr' hp' nid' st',StR LM fr' hp' nid' st'→g fr' hp' nid'=.ok ρ→K st'):yn P ⟨fs,lo,rnd,far⟩ y args ⟨st.fr,st.hp,id⟩ fun st' res=>K (st'.put d res):=by
 unfold qbK at h;split at h
 ·rename_i y0 L0 fr0 ps a b
  obtain⟨q1,p1⟩:=qe h;obtain⟨q2,p2⟩:=qe p1;have q1:=xa6 q1;have q2:=xa6 q2;subst q1;obtain⟨_,L,F,hL,hF,hR⟩:=hcx;split at p2
  ·rename_i hb
   obtain⟨fr2,h2,h⟩:=Vi hF p2;refine J2 hm hR (hs.2.1.loop hb hL) q2 fun out=>?_;refine hrun ρ LM _ _ _ L0 .rnd a ⟨_,_,_⟩ fr2 hp id _ _ rfl ⟨h2,hs.2.1,rfl⟩ h fun e fr1 hp1 nid1 st1 hs1 h1=>?_;unfold qlM at h1;split at h1
   ·split at h1
    ·rename_i hb1
     have hb1':=hs1.2.1.loop hb1 hL;obtain⟨hp2,p2,h1⟩:=qM _ _ _ _ h1;refine⟨by rw[hb1'];rfl,?_⟩;refine hrun ρ LM _ _ _ L0 .rnd b ⟨_,_,_⟩ _ hp2 _ _ _ rfl ⟨hs1.1,hs1.2.1.set (b:=.loop .busy) (b':=.loop L .busy) ⟨rfl,hL⟩ hb1 p2,hs1.2.2⟩ h1 fun e fr3 hp3 nid3 st3 hs3 h3=>?_;unfold qlL at h3;split at h3
     ·rename_i hb3
      have hb3':=hs3.2.1.loop hb3 hL;refine⟨by rw[hb3'];rfl,?_⟩;have fin:∀(s:RSt)(b:Bool),(zs (some (.loop s)) 22 hp3 y fun hp=>putD d (.val (.bool b)) fr fun fr=>g fr hp nid3)=.ok ρ→K (St.put ⟨st.fr,setBlk st3.hp y (.loop L s),st3.nid⟩ d (.val (.bool b))):=by
       intro s b h;obtain⟨hp4,p4,h⟩:=qM _ _ _ _ h;obtain⟨fr',g1,g2⟩:=kK (LM:=LM) (st:=⟨st.fr,setBlk st3.hp y (.loop L s),st3.nid⟩) h ⟨hs.1,hs3.2.1.set (b:=.loop s) (b':=.loop L s) ⟨rfl,hL⟩ hb3 p4,hs3.2.2⟩;exact hk _ _ _ _ g1 g2
      cases e with
      |normal=>exact fin _ _ h3
      |ret=>exact fin _ _ h3
      |exit i=>exact fin _ _ h3
     ·cases h3
    ·cases h1
   ·cases h1
  ·cases p2
 ·cases h
def qkt(E:XE)(h0:Nat)(rs:List ResultVar):XK
 |.exit _,_,_,_=>.bad 370 0
 |.normal,fr,hp,_=>Zk E fr hp rs fun m=>(match Qo true hp 5 (oneSV m)with|some s=>.ok (.mk s .nil 0)|none=>.bad 371 h0)
 |.ret,fr,hp,_=>Zk E fr hp rs fun m=>(match Qo true hp 5 (oneSV m)with|some s=>.ok (.mk s .nil 0)|none=>.bad 371 h0)
def qlN(fr:Tr 3 SV)(hp:Tr 6 XB)(nid:Nat)(d:Option Tmp)(g:Tr 3 SV→Tr 6 XB→Nat→R)(r:R):R:=
 match r with
 |.ok (.mk s _ _)=>qk 373 (G1 5 s) (putD d s fr fun fr=>g fr hp nid)
 |.bad c i=>.bad c i
def qhX(n:Nat)(i:Sh)(args:List SV)(d:Option Tmp)(fr:Tr 3 SV)(hp:Tr 6 XB)(nid:Nat)(g:Tr 3 SV→Tr 6 XB→Nat→R):R:=
 qk 376 (Nat.beq args.length n) (match i.sv args with
  |some s=>putD d s fr fun fr=>g fr hp nid
  |none=>.bad 377 0)
theorem qhY{h0 n:Nat}{i:Sh}(hp0:Z8 P h0 n i){d:Option Tmp}{args:List SV}{fr:Tr 3 SV}{hp:Tr 6 XB}{nid:Nat}{g:Tr 3 SV→Tr 6 XB→Nat→R}{st:St}{K:St→Prop}(hs:StR LM fr hp nid st)(h:qhX n i args d fr hp nid g=.ok ρ)
  (hk:∀fr' hp' nid' st',StR LM fr' hp' nid' st'→g fr' hp' nid'=.ok ρ→K st'):VH P st.hp h0 args (fun r=>K (st.put d r)):=by
 unfold qhX at h;obtain⟨q,p⟩:=qe h;have q:=xa6 q;split at p
 ·rename_i s ha
  obtain⟨fr',k1,k2⟩:=kK p hs;exact⟨s,.inr ⟨i,by rw[q];exact hp0,ha⟩,hk _ _ _ _ k1 k2⟩
 ·cases p
def qhZ(E:XE)(run:XC)(h0:Nat)(fn:Func)(L:FL)(d:Option Tmp)(qq_:Option (List SV))(fr:Tr 3 SV)(hp:Tr 6 XB)(nid:Nat)(g:Tr 3 SV→Tr 6 XB→Nat→R):R:=
 match fn.body,qq_ with
 |some c,some qq_=>qk 374 (Nat.ble qq_.length fn.ntmps) (qlN fr hp nid d g (YY qq_ 0 .nil fun fr2=>run L .top c fr2 .nil 0 (qkt E h0 fn.results.toList)))
 |_,_=>.bad 375 h0
theorem qia(hm:P.follows .mixedOrders=true)(hE:XOk P E){run:XC}(hrun:vD P run){h0:Nat}{fn:Func}{L:FL}{c:Code}(hc:qkq P h0 fn L c){d:Option Tmp}{args:List SV}{fr:Tr 3 SV}{hp:Tr 6 XB}{nid:Nat}{g:Tr 3 SV→Tr 6 XB→Nat→R}{st:St}{K:St→Prop}(hs:StR LM fr hp nid st)(h:qhZ E run h0 fn L d (gG (Qo false hp 5) args) fr hp nid g=.ok ρ)
  (hk:∀fr' hp' nid' st',StR LM fr' hp' nid' st'→g fr' hp' nid'=.ok ρ→K st'):VH P st.hp h0 args (fun r=>K (st.put d r)):=by
 unfold qhZ at h;rw[hc.body]at h;split at h
 ·rename_i c' qq_ hb has
  cases hb;obtain⟨q,h⟩:=qe h;obtain⟨g1,g2,_⟩:=zE (ZV hs.2.1 false 5) has;unfold qlN at h;split at h
  ·rename_i s hp0 n0 hr
   obtain⟨q2,h⟩:=qe h;obtain⟨fr',k1,k2⟩:=kK h hs;obtain⟨fr2,f1,f2⟩:=Zj hr;refine⟨s,.inl ⟨qq_,jo (zQ L) hc.at_ hc.body hc.name hm hc.ok qq_ s (xa7 q) (g2.1 rfl) ?_,.inl ⟨g1,yC 5 s q2⟩⟩,hk _ _ _ _ k1 k2⟩;have key:∀(fr3:Tr 3 SV)(hp3:Tr 6 XB)(nid3:Nat)(st3:St),StR (fun _=>none) fr3 hp3 nid3 st3→Zk E fr3 hp3 fn.results.toList (fun m=>(match Qo true hp3 5 (oneSV m)with|some s=>.ok (.mk s .nil 0)|none=>.bad 371 h0))=.ok (.mk s hp0 n0)→retVC P fn.results.toList st3 s:=fun fr3 hp3 nid3 st3 h3 h=>by
    rw[Gs];refine Zl hE h3 h fun m h=>?_;split at h
    ·rename_i s' hs'
     cases h;exact(ZV h3.2.1 true 5 _ _ hs').1
    ·cases h
   refine hrun _ (fun _=>none) _ _ _ L .top c _ fr2 .nil 0 _ _ rfl ⟨f1,fun id b hb=>(by rw[Q0]at hb;cases hb),rfl⟩ f2 fun e fr3 hp3 nid3 st3 h3 h=>?_;cases e with
   |exit i=>cases h
   |normal=>exact key _ _ _ _ h3 h
   |ret=>exact key _ _ _ _ h3 h
  ·cases h
 ·cases h
def Zm(E:XE)(run:XC)(cx:CX)(j:Bool)(d:Option Tmp)(id:Nat)(xr:XR)(fr:Tr 3 SV)(hp:Tr 6 XB)(nid:Nat)(g:Tr 3 SV→Tr 6 XB→Nat→R):R:=
 match xr with
 |.pure s=>putD d s fr fun fr=>g fr hp nid
 |.new b s=>zs (some b) 22 hp id fun hp=>putD d s fr fun fr=>g fr hp nid
 |.upd i b s=>(match hp.find i with
  |some _=>zs (some b) 22 hp i fun hp=>putD d s fr fun fr=>g fr hp nid
  |none=>.bad 304 0)
 |.grow i b s=>qk 305 (!(Nat.beq i id)) (zs none 22 hp i fun hp=>zs (some b) 22 hp id fun hp=>putD d s fr fun fr=>g fr hp nid)
 |.call h args=>(match E.prj h with
  |some (n,i)=>qhX n i args d fr hp nid g
  |none=>match E.orc h with
  |some f=>qk 306 j (f args hp id fun s hp nid=>putD d s fr fun fr=>g fr hp nid)
  |none=>match Vh hp args (E.ctr h)with
  |some s=>qk 309 (G1 5 s) (putD d s fr fun fr=>g fr hp nid)
  |none=>match Vh hp args (E.ctn h)with
  |some (t,k,n,l,s)=>yL l fun l=>zs (some (.rows t k n l)) 22 hp id fun hp=>putD d (setId id s) fr fun fr=>g fr hp nid
  |none=>match E.fns h with
  |some (fn,L)=>Bool.rec (qhZ E run h fn L d (gG (Qo false hp 5) args) fr hp nid g) (qhW E run fn L d args fr hp id g) j
  |none=>.bad 307 h)
 |.yield y args=>qk 308 j (qbK run cx d y args fr hp id g)
theorem qku(hm:P.follows .mixedOrders=true)(hE:XOk P E)(hf:ya P E){run:XC}(hrun:vD P run){fs:List Fr}{lo:Nat}{rnd:Bool}{far:Nat→List (Nat×Nat)}{cx:CX}(hcx:qfk LM fs rnd cx){j:Bool}{J:Prop}(hj:j=true→J){op:Op}{d:Option Tmp}{id:Nat}{xr:XR}{fr:Tr 3 SV}{hp:Tr 6 XB}{nid:Nat}{g:Tr 3 SV→Tr 6 XB→Nat→R}{st:St}{K:St→Prop}{r:Res}(hs:StR LM fr hp nid st)(hh:Hit xr id r)(h:Zm E run cx j d id xr fr hp nid g=.ok ρ)
  (hk:∀fr' hp' nid' st',StR LM fr' hp' nid' st'→g fr' hp' nid'=.ok ρ→K st'):wq P ⟨fs,lo,rnd,far⟩ J op d id st K r:=by
 unfold Zm at h;split at h
 ·obtain⟨fr',h1,h2⟩:=kK h hs
  rcases hh with⟨obl,rfl,ho⟩|⟨obl,rfl,ho⟩
  ·exact⟨ho,hk _ _ _ _ h1 h2⟩
  ·exact⟨_,ho,hk _ _ _ _ h1 h2⟩
 ·obtain⟨obl,b',mk,rfl,ho,hb,rfl⟩:=hh
  obtain⟨hp',p1,h⟩:=qM _ _ _ _ h;obtain⟨fr',h1,h2⟩:=kK (st:={ st with hp:=(id,b') :: st.hp }) h ⟨hs.1,hs.2.1.cons hb.any p1,hs.2.2⟩;exact⟨ho,hk _ _ _ _ h1 h2⟩
 ·split at h
  ·rename_i y hy
   obtain⟨hp',p1,h⟩:=qM _ _ _ _ h;rcases hh with⟨obl,b',rfl,ho,hb,rfl⟩|⟨obl,b',rfl,ho,hb⟩
   ·obtain⟨fr',h1,h2⟩:=kK (st:={ st with hp:=setBlk st.hp _ b' }) h ⟨hs.1,hs.2.1.set hb.any hy p1,hs.2.2⟩
    exact⟨ho,hk _ _ _ _ h1 h2⟩
   ·obtain⟨fr',h1,h2⟩:=kK (st:={ st with hp:=setBlk st.hp _ b' }) h ⟨hs.1,hs.2.1.set hb.any hy p1,hs.2.2⟩
    exact⟨ho,hk _ _ _ _ h1 h2⟩
  ·cases h
 ·rename_i i b s
  obtain⟨obl,b',mk,rfl,ho,hb,rfl⟩:=hh;obtain⟨q,h⟩:=qe h;have q:i≠id:=fun e=>by rw[e,Nat.beq_refl]at q;cases q
  obtain⟨hp1,p1,h⟩:=qM _ _ _ _ h;obtain⟨hp2,p2,h⟩:=qM _ _ _ _ h;obtain⟨fr',h1,h2⟩:=kK (st:={ st with hp:=(id,b') :: dropBlk st.hp i }) h ⟨hs.1,(hs.2.1.drop p1).cons hb.any p2,hs.2.2⟩;exact⟨⟨ho,q⟩,hk _ _ _ _ h1 h2⟩
 ·rename_i h0 args
  split at h
  ·rename_i n i hp0
   have hh:r=.call h0 args:=hh;subst hh;exact .inl (qhY (hE.prj _ _ _ hp0) hs h hk)
  split at h
  ·rename_i f hof
   obtain⟨q,h⟩:=qe h;have hh:r=.call h0 args:=hh;subst hh;refine .inr (.inr ⟨hj q,hE.orc _ _ hof ρ LM _ args hp _ ⟨st.fr,st.hp,id⟩ (fun st' res=>K (st'.put d res)) hs.2.1 h fun s hp' nid' H' hH' hk'=>?_⟩);obtain⟨fr',h1,h2⟩:=kK (LM:=LM) (st:=⟨st.fr,H',nid'⟩) hk' ⟨hs.1,hH',rfl⟩;exact hk _ _ _ _ h1 h2
  split at h
  ·rename_i s hcs
   obtain⟨qq_,h1,h2⟩:=w9 hs.2.1 hcs;obtain⟨h3,h⟩:=qe h;have hh:r=.call h0 args:=hh;subst hh;obtain⟨fr',g1,g2⟩:=kK h hs;exact .inl ⟨s,.inl ⟨qq_,hE.ctr _ _ _ h1,.inl ⟨h2,yC 5 _ h3⟩⟩,hk _ _ _ _ g1 g2⟩
  split at h
  ·rename_i t k n l s hcs
   obtain⟨qq_,h1,h2⟩:=w9 hs.2.1 hcs;obtain⟨row,c1,c2,c3,c4⟩:=hE.ctn _ _ _ _ _ _ _ h1;rw[ko]at h;obtain⟨hp',p1,h⟩:=qM _ _ _ _ h;have hh:r=.call h0 args:=hh;subst hh;obtain⟨fr',g1,g2⟩:=kK (st:={ st with hp:=(id,.rows t k n row) :: st.hp }) h ⟨hs.1,hs.2.1.cons (b:=.rows t k n l) (b':=.rows t k n row) ⟨rfl,rfl,rfl,c2⟩ p1,hs.2.2⟩;exact .inr (.inl ⟨qq_,_,_,c1,.inl ⟨h2,c3,c4⟩,hk _ _ _ _ g1 g2⟩)
  split at h
  ·rename_i fn L hfn
   obtain⟨c,hc⟩:=hf _ _ _ hfn;cases q:j with
   |false=>
    rw[q]at h;have hh:r=.call h0 args:=hh;subst hh;exact .inl (qia hm hE hrun hc hs h hk)
   |true=>
   rw[q]at h;have h:qhW E run fn L d args fr hp id g=.ok ρ:=h;unfold qhW at h;rw[hc.body]at h;obtain⟨q2,h⟩:=qe h;obtain⟨fr2,f1,f2⟩:=Zj h;have hh:r=.call h0 args:=hh;subst hh;refine .inr (.inr ⟨hj q,G3 (zQ L) (K:=fun st' res=>K (st'.put d res)) hm hc.at_ hc.body hc.name hc.ok (xa7 q2) fun out=>?_⟩);have key:∀(fr3:Tr 3 SV)(hp3:Tr 6 XB)(nid3:Nat)(st3:St),StR LM fr3 hp3 nid3 st3→Zk E fr3 hp3 fn.results.toList (fun m=>svK (oneSV m) fun s=>putD d s fr fun fr=>g fr hp3 nid3)=.ok ρ→resultsVC P fn.results.toList st3 (fun m=>K (St.put ⟨st.fr,st3.hp,st3.nid⟩ d (oneSV m))):=by
    intro fr3 hp3 nid3 st3 h3 h;refine Zl hE h3 h fun m h=>?_;rw[ZN]at h;obtain⟨fr',g1,g2⟩:=kK (st:=⟨st.fr,st3.hp,st3.nid⟩) h ⟨hs.1,h3.2.1,h3.2.2⟩;exact hk _ _ _ _ g1 g2
   refine hrun ρ LM _ _ _ L .top c ⟨argFr 0 args,st.hp,id⟩ fr2 hp id _ _ rfl ⟨f1,hs.2.1,rfl⟩ f2 fun e fr3 hp3 nid3 st3 h3 h=>?_;cases e with
   |exit i=>cases h
   |normal=>exact key _ _ _ _ h3 h
   |ret=>exact key _ _ _ _ h3 h
  ·cases h
 ·rename_i y args
  obtain⟨q,h⟩:=qe h;have hh:r=.yield y args:=hh;subst hh;exact⟨hj q,qfl hm hrun hcx hs h hk⟩
def xGo(E:XE)(run:XC)(cx:CX)(j:Bool)(o:Oper)(fr:Tr 3 SV)(hp:Tr 6 XB)(nid i:Nat)(g:Tr 3 SV→Tr 6 XB→Nat→R):R:=
 ql (nid+i) fun id=>xOp E fr hp id o.op fun xr=>Zm E run cx j o.dst id xr fr hp nid g
def yb(ds:List (Option Tmp))(gd:Option (Nat×Bool))(d:Option Tmp)(fr:Tr 3 SV)(hp:Tr 6 XB)(nid:Nat)(go:R)(g:Tr 3 SV→Tr 6 XB→Nat→R):R:=
 match gd with
 |none=>go
 |some (i,want)=>(match nth ds i with
  |none=>.bad 310 0
  |some t=>(match qD fr t with
   |.val (.bool b)=>Bool.rec (putD d undefSV fr fun fr=>g fr hp nid) go (b == want)
   |.val (.tuple _)=>putD d undefSV fr fun fr=>g fr hp nid
   |_=>.bad 311 0))
def Qq(E:XE)(run:XC)(cx:CX)(j:Bool)(ds:List (Option Tmp))(ops:List Oper):Nat→Tr 3 SV→Tr 6 XB→Nat→(Tr 3 SV→Tr 6 XB→Nat→R)→R:=
 List.rec (motive:=fun _=>Nat→Tr 3 SV→Tr 6 XB→Nat→(Tr 3 SV→Tr 6 XB→Nat→R)→R) (fun _ fr hp nid g=>g fr hp nid)
  (fun o _ ih i fr hp nid g=>yb ds o.guard o.dst fr hp nid (xGo E run cx j o fr hp nid i fun fr hp nid=>ql (Nat.succ i) fun i=>ih i fr hp nid g) (fun fr hp nid=>ql (Nat.succ i) fun i=>ih i fr hp nid g)) ops
theorem StR.same{fr:Tr 3 SV}{hp:Tr 6 XB}{nid:Nat}{st:St}(hs:StR LM fr hp nid st){t:Tmp}{s:SV}(e:qD fr t=s):StR LM fr hp nid (st.put (some t) s):=⟨fun u=>by
 show look (putFr st.fr t s) u=_;rw[zl];by_cases c:u=t
 ·rw[if_pos c,c,e]
 ·rw[if_neg c];exact hs.1 u,hs.2.1,hs.2.2⟩
theorem Zn(hm:P.follows .mixedOrders=true)(hE:XOk P E)(hf:ya P E){run:XC}(hrun:vD P run){fs:List Fr}{lo:Nat}{rnd:Bool}{far:Nat→List (Nat×Nat)}{cx:CX}(hcx:qfk LM fs rnd cx){j:Bool}{J:Prop}(hj:j=true→J){ds:List (Option Tmp)}:∀{ops:List Oper}{i:Nat}{fr:Tr 3 SV}{hp:Tr 6 XB}{nid:Nat}{g:Tr 3 SV→Tr 6 XB→Nat→R}{st:St}{K:St→Prop},StR LM fr hp nid st→Qq E run cx j ds ops i fr hp nid g=.ok ρ→
  (∀fr' hp' nid' st',StR LM fr' hp' nid' st'→g fr' hp' nid'=.ok ρ→K st')→zb P ⟨fs,lo,rnd,far⟩ J ds ops i st K
 |[],i,fr,hp,nid,g,st,K,hs,h,hk=>hk _ _ _ _ hs h
 |o :: ops,i,fr,hp,nid,g,st,K,hs,h,hk=>by
  have h:yb ds o.guard o.dst fr hp nid (xGo E run cx j o fr hp nid i fun fr hp nid=>ql (Nat.succ i) fun i=>Qq E run cx j ds ops i fr hp nid g) (fun fr hp nid=>ql (Nat.succ i) fun i=>Qq E run cx j ds ops i fr hp nid g)=.ok ρ:=h;have next:∀fr' hp' nid' st',StR LM fr' hp' nid' st'→(ql (Nat.succ i) fun i=>Qq E run cx j ds ops i fr' hp' nid' g)=.ok ρ→zb P ⟨fs,lo,rnd,far⟩ J ds ops (i+1) st' K:=by
   intro fr' hp' nid' st' hs' h';rw[qi]at h';exact Zn hm hE hf hrun hcx hj hs' h' hk
  have go:∀st,StR LM fr hp nid st→xGo E run cx j o fr hp nid i (fun fr hp nid=>ql (Nat.succ i) fun i=>Qq E run cx j ds ops i fr hp nid g)=.ok ρ→wq P ⟨fs,lo,rnd,far⟩ J o.op o.dst (st.nid+i) st (fun st=>zb P ⟨fs,lo,rnd,far⟩ J ds ops (i+1) st K) (stepR P (look st.fr) st.hp o.op):=by
   intro st hs h;unfold xGo at h;rw[qi]at h;obtain⟨xr,h1,h2⟩:=qby hE hs.1.fn hs.2.1 h;rw[hs.2.2];exact qku hm hE hf hrun hcx hj hs h1 h2 next
  have skip:∀st,StR LM fr hp nid st→(putD o.dst undefSV fr fun fr=>ql (Nat.succ i) fun i=>Qq E run cx j ds ops i fr hp nid g)=.ok ρ→zb P ⟨fs,lo,rnd,far⟩ J ds ops (i+1) (st.put o.dst undefSV) K:=by
   intro st hs h;obtain⟨fr',h1,h2⟩:=kK h hs;exact next _ _ _ _ h1 h2
  unfold zb zo;unfold yb at h;cases hgd:o.guard with
  |none=>rw[hgd]at h;exact go st hs h
  |some x=>
   obtain⟨i0,want⟩:=x;rw[hgd]at h;dsimp only at h ⊢;cases hn:nth ds i0 with
   |none=>rw[hn]at h;cases h
   |some t=>
    rw[hn]at h;dsimp only at h ⊢;rw[hs.1 t];split at h
    ·rename_i b hb
     rw[hb];have hs2:=hs.same hb;cases want<;>cases b<;>(dsimp only at h ⊢)
     ·exact⟨fun e=>(by cases e),fun _=>go _ hs2 h⟩
     ·exact⟨fun _=>skip _ hs2 h,fun e=>by cases e⟩
     ·exact⟨fun e=>(by cases e),fun _=>skip _ hs2 h⟩
     ·exact⟨fun _=>go _ hs2 h,fun e=>by cases e⟩
    ·rename_i vs hb
     rw[hb];exact skip st hs h
    ·cases h
end
end
end Go.Sx
end
section
namespace Go.Sx
open Go.RowKit
noncomputable section
variable{ρ:Q}
def qib(eq:SV→SV→Bool):List SV→List SV→Bool
 |[],[]=>true
 |a :: l,b :: m=>eq a b&&qib eq l m
 |_,_=>false
def qmB(eq:SV→SV→Bool)(a b:SV):Bool:=
 match a with
 |.val u=>(match b with|.val v=>qdm u v|_=>false)
 |.ptr i o=>(match b with|.ptr j p=>Nat.beq i j&&Nat.beq o p|_=>false)
 |.elt i k a c=>(match b with|.elt j l b d=>Nat.beq i j&&(Nat.beq k l&&(Nat.beq a b&&Nat.beq c d))|_=>false)
 |.vec i n k=>(match b with|.vec j m l=>Nat.beq i j&&(Nat.beq n m&&Nat.beq k l)|_=>false)
 |.cut i n k=>(match b with|.cut j m l=>Nat.beq i j&&(Nat.beq n m&&Nat.beq k l)|_=>false)
 |.asl i o n k=>(match b with|.asl j p m l=>Nat.beq i j&&(Nat.beq o p&&(Nat.beq n m&&Nat.beq k l))|_=>false)
 |.que i o n k=>(match b with|.que j p m l=>Nat.beq i j&&(Nat.beq o p&&(Nat.beq n m&&Nat.beq k l))|_=>false)
 |.mp i=>(match b with|.mp j=>Nat.beq i j|_=>false)
 |.agg l=>(match b with|.agg m=>qib eq l m|_=>false)
 |.tup l=>(match b with|.tup m=>qib eq l m|_=>false)
 |.top=>(match b with|.top=>true|_=>false)
 |_=>false
def qmC(n:Nat):SV→SV→Bool:=Nat.rec (fun _ _=>false) (fun _ ih=>qmB ih) n
theorem qdo{eq:SV→SV→Bool}(h:∀a b,eq a b=true→a=b):∀{l m:List SV},qib eq l m=true→l=m
 |[],[],_=>rfl
 |[],_ :: _,e=>by cases e
 |_ :: _,[],e=>by cases e
 |a :: l,b :: m,e=>by
  simp only[qib,xe6]at e;rw[h _ _ e.1,qdo h e.2]
theorem qdp:∀(n:Nat)(a b:SV),qmC n a b=true→a=b
 |0,a,b,h=>by cases h
 |n+1,a,b,h=>by
  have h:qmB (qmC n) a b=true:=h;have ih:=qdp n;unfold qmB at h;split at h<;>(try split at h)<;>first
   |(cases h;done)
   |(rw[YX h];done)
   |(rw[qdo ih h];done)
   |(rw[xa6 h];done)
   |rfl
   |(simp only[xe6,Nat.beq_eq]at h;obtain⟨rfl,rfl⟩:=h;rfl)
   |(simp only[xe6,Nat.beq_eq]at h;obtain⟨rfl,rfl,rfl⟩:=h;rfl)
   |(simp only[xe6,Nat.beq_eq]at h;obtain⟨rfl,rfl,rfl,rfl⟩:=h;rfl)
def qoW(E:XE)(rs:List ResultVar)(g:SV→Tr 6 XB→Nat→R):XK
 |.exit _,_,_,_=>.bad 301 0
 |.normal,fr3,hp3,nid3=>Zk E fr3 hp3 rs fun m=>svK (oneSV m) fun s=>g s hp3 nid3
 |.ret,fr3,hp3,nid3=>Zk E fr3 hp3 rs fun m=>svK (oneSV m) fun s=>g s hp3 nid3
def qlO(E:XE)(run:XC)(fn:Func)(L:FL)(args:List SV)(hp:Tr 6 XB)(id:Nat)(g:SV→Tr 6 XB→Nat→R):R:=
 match fn.body with
 |some c=>qk 302 (Nat.ble args.length fn.ntmps) (YY args 0 .nil fun fr2=>run L .top c fr2 hp id (qoW E fn.results.toList g))
 |none=>.bad 303 0
def qlP(n:Nat)(i:Sh)(args:List SV)(g:SV→R):R:=
 qk 376 (Nat.beq args.length n) (match i.sv args with
  |some s=>svK s g
  |none=>.bad 377 0)
def YZ(E:XE)(run:XC)(id:Nat)(xr:XR)(hp:Tr 6 XB)(g:SV→Tr 6 XB→Nat→R):R:=
 match xr with
 |.pure s=>g s hp id
 |.new b s=>zs (some b) 22 hp id fun hp=>g s hp id
 |.upd i b s=>(match hp.find i with
  |some _=>zs (some b) 22 hp i fun hp=>g s hp id
  |none=>.bad 304 0)
 |.grow i b s=>qk 305 (!(Nat.beq i id)) (zs none 22 hp i fun hp=>zs (some b) 22 hp id fun hp=>g s hp id)
 |.call h args=>(match E.prj h with
  |some (n,i)=>qlP n i args fun s=>g s hp id
  |none=>match E.orc h with
  |some f=>f args hp id g
  |none=>match Vh hp args (E.ctr h)with
  |some s=>qk 309 (G1 5 s) (g s hp id)
  |none=>match Vh hp args (E.ctn h)with
  |some (t,k,n,l,s)=>yL l fun l=>zs (some (.rows t k n l)) 22 hp id fun hp=>g (setId id s) hp id
  |none=>match E.fns h with
  |some (fn,L)=>qlO E run fn L args hp id g
  |none=>.bad 307 h)
 |.yield _ _=>.bad 381 0
def okQ(s:SV)(hp:Tr 6 XB)(nid:Nat):R:=.ok (.mk s hp nid)
def Kl(E:XE)(run:XC)(id:Nat)(o:Oper)(fr:Tr 3 SV)(hp:Tr 6 XB)(g:SV→Tr 6 XB→Nat→R):R:=
 match (xOp E fr hp id o.op fun xr=>YZ E run id xr hp okQ)with
 |.ok (.mk s hp nid)=>g s hp nid
 |.bad c i=>.bad c i
def qdq(xr:XR):R:=
 match xr with
 |.pure s=>.ok (.mk s .nil 0)
 |_=>.bad 382 0
def G4(k:Value)(l:List Value):Bool:=List.rec false (fun a _ ih=>Bool.rec ih true (GM a k)) l
def ji(es:List (Value×Option SV)):List Value→List Value:=List.rec (motive:=fun _=>List Value→List Value) (fun _=>[]) (fun p _ ih seen=>Bool.rec (ih seen) (Bool.rec (Option.rec (ih (p.1 :: seen)) (fun _=>p.1 :: ih (p.1 :: seen)) p.2) (ih seen) (G4 p.1 seen)) (GM p.1 p.1)) es
def qbL(es:List (Value×Option SV)):List Value→Nat→(Nat→R)→R:=List.rec (motive:=fun _=>List Value→Nat→(Nat→R)→R) (fun _ c f=>f c) (fun p _ ih seen c f=>Bool.rec (ih seen c f) (Bool.rec (Option.rec (ih (p.1 :: seen) c f) (fun _=>ql (Nat.succ c) fun c=>ih (p.1 :: seen) c f) p.2) (ih seen c f) (G4 p.1 seen)) (GM p.1 p.1)) es
def Y0(E:XE)(op:Op):Option Operand:=
 match op with
 |.call ⟨.builtin .len,args,ts⟩=>(match args.toList,ts.toList with
  |[x],[t]=>(match E.mps t with
   |some _=>some x
   |none=>none)
  |_,_=>none)
 |_=>none
def G5(x:SV)(hp:Tr 6 XB):R:=
 match x with
 |.mp id=>(match hp.find id with
  |some (.map _ _ es)=>qbL es [] 0 fun n=>.ok (.mk (.val (.int .i64 (.ofNat n))) .nil 0)
  |_=>.bad 390 0)
 |_=>.bad 391 0
def G6(E:XE)(fr:Tr 3 SV)(hp:Tr 6 XB)(op:Op):R:=
 match Y0 E op with
 |some x=>G5 (zk fr x) hp
 |none=>xOp E fr hp 0 op qdq
def gH(E:XE)(o:Oper)(fr:Tr 3 SV)(hp:Tr 6 XB)(g:SV→R):R:=
 match (G6 E fr hp o.op)with
 |.ok (.mk s _ _)=>g s
 |.bad c i=>.bad c i
def qlQ(fr:Tr 3 SV)(op:Op):Bool:=
 match op with
 |.load _ x=>(match zk fr x with|.ref _ _ _=>true|_=>false)
 |_=>false
def zI(fr:Tr 3 SV)(op:Op):Bool:=GT op&&!qlQ fr op
def JD(b:Bool)(hp:Tr 6 XB):Tr 6 XB:=Bool.rec .nil hp b
abbrev CK:=Tr 3 SV→Tr 6 XB→Nat→List (Tr 6 XB)→R
def gdX(ds:List (Option Tmp))(gd:Option (Nat×Bool))(fr:Tr 3 SV):Option Bool:=
 match gd with
 |none=>some false
 |some (i,want)=>(match nth ds i with
  |none=>none
  |some t=>(match qD fr t with
   |.val (.bool b)=>some (!(b == want))
   |.val (.tuple _)=>some true
   |_=>none))
def gM(E:XE)(run:XC)(n:Nat)(ds:List (Option Tmp))(ops:List Oper):Tr 3 SV→Tr 6 XB→Nat→List (Tr 6 XB)→CK→R:=
 List.rec (motive:=fun _=>Tr 3 SV→Tr 6 XB→Nat→List (Tr 6 XB)→CK→R) (fun fr hp nid hs g=>g fr hp nid hs)
  (fun o _ ih fr hp nid hs g=>match gdX ds o.guard fr with
   |some false=>Bool.rec (gH E o fr (JD (zI fr o.op) hp) fun s=>putD o.dst s fr fun fr=>ih fr hp nid hs g)
    (ql (nid+n) fun id=>Kl E run id o fr hp fun s hp' nid'=>ql (Nat.succ nid') fun nid'=>putD o.dst s fr fun fr=>ih fr hp' nid' (hs++[hp']) g) (gE o.op)
   |some true=>putD o.dst undefSV fr fun fr=>Bool.rec (ih fr hp nid hs g) (ql (nid+n) fun nid=>ih fr hp nid (hs++[hp]) g) (gE o.op)
   |none=>.bad 386 0) ops
def Ku(ds:List (Option Tmp))(o:Oper)(fr:Tr 3 SV):Bool:=match gdX ds o.guard fr with
 |some false=>true
 |_=>false
def Wt(E:XE)(fr:Tr 3 SV)(o:Oper)(hp:Tr 6 XB)(r:R):R:=
 gH E o fr hp fun s=>(match o.dst with
  |some d=>qnE 384 d (qmC 6 s (qD fr d)) r
  |none=>r)
def Qr(E:XE)(fr:Tr 3 SV)(o:Oper)(lo hi tx:Nat)(r:R)(hs:List (Tr 6 XB)):Nat→R:=
 List.rec (motive:=fun _=>Nat→R) (fun _=>r) (fun hp _ ih k=>Bool.rec (ql (Nat.succ k) fun k=>ih k) (Wt E fr o hp (ql (Nat.succ k) fun k=>ih k)) (Nat.ble lo k&&(Nat.ble k hi&&!(Nat.beq k tx)))) hs
def G7(E:XE)(l:List Oper)(fr:Tr 3 SV)(hs:List (Tr 6 XB))(r:R)(ops:List Oper):Nat→R:=
 List.rec (motive:=fun _=>Nat→R) (fun _=>r) (fun o _ ih i=>Bool.rec (ql (Nat.succ i) fun i=>ih i) (ql (loC l i) fun lo=>ql (hiC l i) fun hi=>ql (kc (efL l) i) fun tx=>Qr E fr o lo hi tx (ql (Nat.succ i) fun i=>ih i) hs 0) (zI fr o.op&&Ku (dsts l) o fr)) ops
def qkv(E:XE)(run:XC)(ops:List Oper)(fr:Tr 3 SV)(hp:Tr 6 XB)(nid:Nat)(f:XK):R:=
 qk 385 (GU ops) (ql ops.length fun n=>gM E run n (dsts ops) ops fr hp nid [hp] fun fr hp nid hs=>G7 E ops fr hs (ql (nid+n) fun nid=>f .normal fr hp nid) ops 0)
section
variable{P:Program}{E:XE}{LM:Nat→Option Loop}
theorem qkw(hm:P.follows .mixedOrders=true)(hE:XOk P E)(hf:ya P E){run:XC}(hrun:vD P run){O:Ctx}{op:Op}{d:Option Tmp}{id:Nat}{xr:XR}{hp:Tr 6 XB}{g:SV→Tr 6 XB→Nat→R}{st:St}{K:St→Prop}{r:Res}(hH:HRel LM hp st.hp)(hn:st.nid=id)(hh:Hit xr id r)(h:YZ E run id xr hp g=.ok ρ)
  (hk:∀s hp' nid' st',(∀t,look st'.fr t=look (st.put d s).fr t)→HRel LM hp' st'.hp→st'.nid=nid'→g s hp' nid'=.ok ρ→K st'):wq P O True op d id st K r:=by
 have fr0:∀(H:List (Nat×Blk))(n:Nat)(s:SV)(t:Nat),look (St.put ⟨st.fr,H,n⟩ d s).fr t=look (st.put d s).fr t:=fun H n s t=>by rw[gF,gF]
 unfold YZ at h;split at h
 ·rcases hh with⟨obl,rfl,ho⟩|⟨obl,rfl,ho⟩
  ·exact⟨ho,hk _ _ _ _ (fun t=>rfl) (by rw[zm];exact hH) Ωs h⟩
  ·exact⟨_,ho,hk _ _ _ _ (fun t=>rfl) (by rw[zm];exact hH) Ωs h⟩
 ·obtain⟨obl,b',mk,rfl,ho,hb,rfl⟩:=hh
  obtain⟨hp',p1,h⟩:=qM _ _ _ _ h;exact⟨ho,hk _ _ _ _ (fun t=>fr0 _ _ _ t) (by rw[zm];exact hH.cons hb.any p1) Ωs h⟩
 ·split at h
  ·rename_i y hy
   obtain⟨hp',p1,h⟩:=qM _ _ _ _ h;rcases hh with⟨obl,b',rfl,ho,hb,rfl⟩|⟨obl,b',rfl,ho,hb⟩
   ·exact⟨ho,hk _ _ _ _ (fun t=>fr0 _ _ _ t) (by rw[zm];exact hH.set hb.any hy p1) Ωs h⟩
   ·exact⟨ho,hk _ _ _ _ (fun t=>fr0 _ _ _ t) (by rw[zm];exact hH.set hb.any hy p1) Ωs h⟩
  ·cases h
 ·rename_i i b s
  obtain⟨obl,b',mk,rfl,ho,hb,rfl⟩:=hh;obtain⟨q,h⟩:=qe h;have q:i≠id:=fun e=>by rw[e,Nat.beq_refl]at q;cases q
  obtain⟨hp1,p1,h⟩:=qM _ _ _ _ h;obtain⟨hp2,p2,h⟩:=qM _ _ _ _ h;exact⟨⟨ho,q⟩,hk _ _ _ _ (fun t=>fr0 _ _ _ t) (by rw[zm];exact(hH.drop p1).cons hb.any p2) Ωs h⟩
 ·rename_i h0 args
  have hh:r=.call h0 args:=hh;subst hh;split at h
  ·rename_i n i hp0
   unfold qlP at h;obtain⟨q,h⟩:=qe h;have q:=xa6 q;split at h
   ·rename_i s ha
    rw[ZN]at h;exact .inl ⟨s,.inr ⟨i,by rw[q];exact hE.prj _ _ _ hp0,ha⟩,hk _ _ _ _ (fun t=>rfl) (by rw[zm];exact hH) Ωs h⟩
   ·cases h
  split at h
  ·rename_i f hof
   refine .inr (.inr ⟨trivial,hE.orc _ _ hof ρ LM O args hp g ⟨st.fr,st.hp,id⟩ (fun st' res=>K (st'.put d res)) hH h fun s hp' nid' H' hH' hk'=>?_⟩);exact hk _ _ _ _ (fun t=>fr0 _ _ _ t) (by rw[zm];exact hH') (by rw[qx]) hk'
  split at h
  ·rename_i s hcs
   obtain⟨qq_,h1,h2⟩:=w9 hH hcs;obtain⟨h3,h⟩:=qe h;exact .inl ⟨s,.inl ⟨qq_,hE.ctr _ _ _ h1,.inl ⟨h2,yC 5 _ h3⟩⟩,hk _ _ _ _ (fun t=>rfl) (by rw[zm];exact hH) Ωs h⟩
  split at h
  ·rename_i t k n l s hcs
   obtain⟨qq_,h1,h2⟩:=w9 hH hcs;obtain⟨row,c1,c2,c3,c4⟩:=hE.ctn _ _ _ _ _ _ _ h1;rw[ko]at h;obtain⟨hp',p1,h⟩:=qM _ _ _ _ h;exact .inr (.inl ⟨qq_,_,_,c1,.inl ⟨h2,c3,c4⟩,hk _ _ _ _ (fun t=>fr0 _ _ _ t) (by rw[zm];exact hH.cons (b:=.rows t k n l) (b':=.rows t k n row) ⟨rfl,rfl,rfl,c2⟩ p1) Ωs h⟩)
  split at h
  ·rename_i fn L hfn
   obtain⟨c,hc⟩:=hf _ _ _ hfn;unfold qlO at h;rw[hc.body]at h;obtain⟨q2,h⟩:=qe h;obtain⟨fr2,f1,f2⟩:=Zj h;refine .inr (.inr ⟨trivial,G3 (zQ L) (K:=fun st' res=>K (st'.put d res)) hm hc.at_ hc.body hc.name hc.ok (xa7 q2) fun out=>?_⟩);have key:∀(fr3:Tr 3 SV)(hp3:Tr 6 XB)(nid3:Nat)(st3:St),StR LM fr3 hp3 nid3 st3→Zk E fr3 hp3 fn.results.toList (fun m=>svK (oneSV m) fun s=>g s hp3 nid3)=.ok ρ→resultsVC P fn.results.toList st3 (fun m=>K (St.put ⟨st.fr,st3.hp,st3.nid⟩ d (oneSV m))):=by
    intro fr3 hp3 nid3 st3 h3 h;refine Zl hE h3 h fun m h=>?_;rw[ZN]at h;exact hk _ _ _ _ (fun t=>fr0 _ _ _ t) (by rw[zm];exact h3.2.1) (by rw[qx];exact h3.2.2) h
   refine hrun ρ LM _ _ _ L .top c ⟨argFr 0 args,st.hp,id⟩ fr2 hp id _ _ rfl ⟨f1,hH,rfl⟩ f2 fun e fr3 hp3 nid3 st3 h3 h=>?_;cases e with
   |exit i=>cases h
   |normal=>exact key _ _ _ _ h3 h
   |ret=>exact key _ _ _ _ h3 h
  ·cases h
 ·cases h
def Y1(P:Program)(LM:Nat→Option Loop)(n:Nat)(ds:List (Option Tmp))(o:Oper)(sk:Bool)(s:SV)(X X':Tr 3 SV)(Y Y':Tr 6 XB)(Z Z':Nat):Prop:=
 (∀t,qD X' t=if o.dst=some t then s else qD X t)∧gdX ds o.guard X=some sk∧
 (sk=true→s=undefSV∧Y'=Y∧(gE o.op=true→Z+n≤Z'))∧
 (gE o.op=false→Y'=Y∧Z'=Z)∧
 (sk=false→gE o.op=false→(∀H,HRel LM Y H→PureAt P (qD X) H o.op s)∧(zI X o.op=false→∀H,PureAt P (qD X) H o.op s))∧
 (sk=false→gE o.op=true→∀(O:Ctx)(st1:St),(∀t,t∈zM o→look st1.fr t=qD X t)→HRel LM Y st1.hp→st1.nid=Z+n→∀K':St→Prop,(∀st':St,(∀t,look st'.fr t=look (st1.put o.dst s).fr t)→HRel LM Y' st'.hp→st'.nid+1≤Z'→K' st')→wq P O True o.op o.dst st1.nid st1 K' (stepR P (look st1.fr) st1.hp o.op))
theorem Wu{d:Option Tmp}{s:SV}{fr:Tr 3 SV}{g:Tr 3 SV→R}(h:putD d s fr g=.ok ρ):∃fr',(∀t,qD fr' t=if d=some t then s else qD fr t)∧g fr'=.ok ρ:=by
 unfold putD at h;cases d with
 |none=>exact⟨fr,fun t=>by rw[if_neg (by intro h;cases h)],h⟩
 |some d=>
  obtain⟨fr',h1,h2⟩:=qM _ _ _ _ h;refine⟨fr',fun t=>?_,h2⟩;unfold qD;rw[h1 t];by_cases c:t=d
  ·rw[if_pos c,if_pos (by rw[c])]
  ·rw[if_neg c,if_neg (by intro h;cases h;exact c rfl)]
theorem Qs{o:Oper}{t:Tmp}(h : .tmp t∈o.op.operands.toList):t∈zM o:=by
 unfold zM;rw[List.mem_filterMap];exact⟨_,h,rfl⟩
theorem qdr{H:List (Nat×Blk)}:HRel LM .nil H:=fun id b hb=>by rw[Q0]at hb;cases hb
theorem Vj{o:Oper}{fr:Tr 3 SV}{hp:Tr 6 XB}{g:SV→R}(h:gH E o fr hp g=.ok ρ):∃s,(∃a b,G6 E fr hp o.op=.ok (.mk s a b))∧g s=.ok ρ:=by
 unfold gH at h;split at h
 ·rename_i s a b hx
  exact⟨s,⟨a,b,hx⟩,h⟩
 ·cases h
theorem Wv{k:Value}(hk:eqK k k=true):∀{l:List Value},G4 k l=true↔k∈l
 |[]=>by simp[G4]
 |a :: l=>by
  show(Bool.rec (G4 k l) true (GM a k):Bool)=true↔_;rw[V6,List.mem_cons];cases h:eqK a k with
  |true=>have:=ke h;simp[this]
  |false=>
   show G4 k l=true↔_;rw[Wv hk];constructor
   ·exact .inr
   ·rintro(rfl|h1)
    ·rw[hk]at h;cases h
    ·exact h1
theorem Qt(p:Value×Option SV)(es:List (Value×Option SV))(seen:List Value):ji (p :: es) seen=(Bool.rec (ji es seen) (Bool.rec (Option.rec (ji es (p.1 :: seen)) (fun _=>p.1 :: ji es (p.1 :: seen)) p.2) (ji es seen) (G4 p.1 seen)) (GM p.1 p.1):List Value):=rfl
theorem Zo(f:Nat→R):∀(es:List (Value×Option SV))(seen:List Value)(c:Nat),qbL es seen c f=f (c+(ji es seen).length)
 |[],seen,c=>rfl
 |p :: es,seen,c=>by
  show(Bool.rec (qbL es seen c f) (Bool.rec (Option.rec (qbL es (p.1 :: seen) c f) (fun _=>ql (Nat.succ c) fun c=>qbL es (p.1 :: seen) c f) p.2) (qbL es seen c f) (G4 p.1 seen)) (GM p.1 p.1):R)=_;rw[Qt];cases GM p.1 p.1 with
  |false=>exact Zo f es seen c
  |true=>
  cases G4 p.1 seen with
  |true=>exact Zo f es seen c
  |false=>
   cases p.2 with
   |none=>exact Zo f es _ c
   |some s=>
    show(ql (Nat.succ c) fun c=>qbL es (p.1 :: seen) c f)=f (c+((ji es (p.1 :: seen)).length+1));rw[qi,Zo f es _ _]
    congr 1;omega
theorem keysE_mem{k:Value}:∀{es:List (Value×Option SV)}{seen:List Value},k∈ji es seen↔k∉seen∧(vv es k).isSome=true
 |[],seen=>by
  show k∈[]↔_∧Option.isSome none=true;simp
 |p :: es,seen=>by
  rw[Qt,wc,V6];cases hs:eqK p.1 p.1 with
  |false=>
   show k∈ji es seen↔_;rw[keysE_mem];have:¬(eqK p.1 k=true):=fun h=>by rw[←ke h,hs]at h;cases h
   rw[if_neg this]
  |true=>
   cases hh:G4 p.1 seen with
   |true=>
    show k∈ji es seen↔_;have hm:=(Wv hs).1 hh;rw[keysE_mem];by_cases c:eqK p.1 k=true
    ·have:=ke c
     subst this;simp[hm]
    ·rw[if_neg c]
   |false=>
    have hm:p.1∉seen:=fun h=>by rw[(Wv hs).2 h]at hh;cases hh
    by_cases c:eqK p.1 k=true
    ·rw[if_pos c]
     have:=ke c;subst this;cases p.2 with
     |none=>
      show p.1∈ji es (p.1 :: seen)↔_;rw[keysE_mem];simp
     |some s=>
      show p.1∈p.1 :: ji es (p.1 :: seen)↔_;simp[hm]
    ·rw[if_neg c]
     have hne:k≠p.1:=fun h=>by rw[h,hs]at c;exact c rfl
     cases p.2 with
     |none=>
      show k∈ji es (p.1 :: seen)↔_;rw[keysE_mem];simp[hne]
     |some s=>
      show k∈p.1 :: ji es (p.1 :: seen)↔_;rw[List.mem_cons,keysE_mem];simp[hne]
theorem jc:∀{es:List (Value×Option SV)}{seen:List Value},(ji es seen).Nodup
 |[],seen=>List.nodup_nil
 |p :: es,seen=>by
  rw[Qt];cases GM p.1 p.1 with
  |false=>exact jc
  |true=>
   cases G4 p.1 seen with
   |true=>exact jc
   |false=>
    cases p.2 with
    |none=>exact jc
    |some s=>
     refine List.nodup_cons.2 ⟨fun h=>?_,jc⟩;have:=(keysE_mem.1 h).1;simp at this
theorem qic{op:Op}{x:Operand}(h:Y0 E op=some x):∃t mi,op=.call ⟨.builtin .len,#[x],#[t]⟩∧E.mps t=some mi:=by
 unfold Y0 at h;split at h
 ·rename_i args ts
  split at h
  ·rename_i x' t ha ht
   split at h
   ·rename_i mi hm
    cases h;have e1:=K4 ha;have e2:=K4 ht;subst e1;subst e2;exact⟨t,mi,rfl,hm⟩
   ·cases h
  ·cases h
 ·cases h
theorem Zp(hE:XOk P E){fr:Tr 3 SV}{hp:Tr 6 XB}{op:Op}{s:SV}{H:List (Nat×Blk)}(hH:HRel LM hp H)(h:∃a b,G6 E fr hp op=.ok (.mk s a b)):PureAt P (qD fr) H op s:=by
 obtain⟨a,b,h⟩:=h;unfold G6 at h;split at h
 ·rename_i x hl
  obtain⟨t,mi,rfl,hm⟩:=qic hl;refine .inr ⟨rfl,fun O st hfr hst=>?_⟩;unfold G5 at h;split at h
  ·rename_i id hx
   split at h
   ·rename_i ag ls es hb
    rw[Zo]at h;cases h;subst hst;obtain⟨dom,get,g1,g2⟩:=hH.map hb;have hxe:env (look st.fr) x=.mp id:=by
     rw[←hx];cases x with
     |tmp t=>exact hfr t Ωi
     |_=>rfl
    have:=Ve (O:=O) (hE.mps _ _ hm) hxe g1 jc (L:=ji es []) fun k=>by rw[(g2 k).1,keysE_mem];simp
    rw[xb0];exact this
   ·cases h
  ·cases h
 ·obtain⟨xr,h1,h2⟩:=qby hE (F:=qD fr) (fun _=>rfl) hH h
  cases xr<;>simp only[qdq,reduceCtorEq]at h2
  cases h2;exact .inl h1
theorem PureAt.congr{F F':Nat→SV}{H:List (Nat×Blk)}{o:Oper}{s:SV}(h:PureAt P F H o.op s)(hF:∀t,t∈zM o→F' t=F t):PureAt P F' H o.op s:=by
 rcases h with h|⟨h1,h2⟩
 ·exact .inl (by rw[Vb (F':=F) fun t ht=>hF t (Qs ht)];exact h)
 ·exact .inr ⟨h1,fun O st hfr hst=>h2 O st (fun t ht=>by rw[hfr t ht,hF t ht]) hst⟩
theorem qid{o:Oper}{l:List Oper}{j:Nat}:efL (o :: l) (j+1)=efL l j:=by simp[efL]
theorem qds{o:Oper}{l:List Oper}:∀{j:Nat},kc (efL (o :: l)) (j+1)=(if gE o.op=true then 1 else 0)+kc (efL l) j
 |0=>by simp[kc,efL]
 |j+1=>by
  have ih:=qds (o:=o) (l:=l) (j:=j);simp only[kc]at ih ⊢;rw[ih,qid];omega
theorem G8(hm:P.follows .mixedOrders=true)(hE:XOk P E)(hf:ya P E){run:XC}(hrun:vD P run){n:Nat}{ds:List (Option Tmp)}:∀{ops:List Oper}{fr:Tr 3 SV}{hp:Tr 6 XB}{nid k0:Nat}{hs:List (Tr 6 XB)}{g:CK},gM E run n ds ops fr hp nid hs g=.ok ρ→hs.length=k0+1→hs[k0]? = some hp→
  ∃(res:Nat→SV)(sk:Nat→Bool)(X:Nat→Tr 3 SV)(Y:Nat→Tr 6 XB)(Z:Nat→Nat)(hs':List (Tr 6 XB)),X 0=fr∧Y 0=hp∧Z 0=nid∧g (X ops.length) (Y ops.length) (Z ops.length) hs'=.ok ρ∧
   (∀i o,ops[i]? = some o→Y1 P LM n ds o (sk i) (res i) (X i) (X (i+1)) (Y i) (Y (i+1)) (Z i) (Z (i+1)))∧(∀j,j≤ops.length→hs'[k0+kc (efL ops) j]? = some (Y j))∧∀k,k≤k0→hs'[k]? = hs[k]?
 |[],fr,hp,nid,k0,hs,g,h,hl,hh=>by
  refine⟨fun _=>.top,fun _=>false,fun _=>fr,fun _=>hp,fun _=>nid,hs,rfl,rfl,rfl,h,fun i o ho=>by simp at ho,fun j hj=>?_,fun _ _=>rfl⟩;have:j=0:=by simpa using hj
  subst this;exact hh
 |o :: ops,fr,hp,nid,k0,hs,g,h,hl,hh=>by
  have h:(match gdX ds o.guard fr with
   |some false=>Bool.rec (gH E o fr (JD (zI fr o.op) hp) fun s=>putD o.dst s fr fun fr=>gM E run n ds ops fr hp nid hs g)
    (ql (nid+n) fun id=>Kl E run id o fr hp fun s hp' nid'=>ql (Nat.succ nid') fun nid'=>putD o.dst s fr fun fr=>gM E run n ds ops fr hp' nid' (hs++[hp']) g) (gE o.op)
   |some true=>putD o.dst undefSV fr fun fr=>Bool.rec (gM E run n ds ops fr hp nid hs g) (ql (nid+n) fun nid=>gM E run n ds ops fr hp nid (hs++[hp]) g) (gE o.op)
   |none=>.bad 386 0:R)=.ok ρ:=h
  have glue:∀(k:Bool)(s:SV)(fr':Tr 3 SV)(hp':Tr 6 XB)(nid' k1:Nat)(hs1:List (Tr 6 XB)),Y1 P LM n ds o k s fr fr' hp hp' nid nid'→gM E run n ds ops fr' hp' nid' hs1 g=.ok ρ→hs1.length=k1+1→hs1[k1]? = some hp'→k1=k0+(if gE o.op=true then 1 else 0)→(∀k,k≤k0→hs1[k]? = hs[k]?)→
    ∃(res:Nat→SV)(sk:Nat→Bool)(X:Nat→Tr 3 SV)(Y:Nat→Tr 6 XB)(Z:Nat→Nat)(hs':List (Tr 6 XB)),X 0=fr∧Y 0=hp∧Z 0=nid∧g (X (o :: ops).length) (Y (o :: ops).length) (Z (o :: ops).length) hs'=.ok ρ∧
   (∀i o',(o :: ops)[i]? = some o'→Y1 P LM n ds o' (sk i) (res i) (X i) (X (i+1)) (Y i) (Y (i+1)) (Z i) (Z (i+1)))∧(∀j,j≤(o :: ops).length→hs'[k0+kc (efL (o :: ops)) j]? = some (Y j))∧∀k,k≤k0→hs'[k]? = hs[k]?:=by
   intro k s fr' hp' nid' k1 hs1 hstep hrest hl1 hh1 hk1 hpre;obtain⟨res,sk,X,Y,Z,hs',e1,e2,e3,hg,hst,hsg,hpr⟩:=G8 hm hE hf hrun hrest hl1 hh1;refine⟨fun i=>Nat.casesOn i s res,fun i=>Nat.casesOn i k sk,fun i=>Nat.casesOn i fr X,fun i=>Nat.casesOn i hp Y,fun i=>Nat.casesOn i nid Z,hs',rfl,rfl,rfl,hg,fun i o' ho=>?_,fun j hj=>?_,fun k hk=>?_⟩
   ·cases i with
    |zero=>
     simp at ho;subst ho;show Y1 P LM n ds o k s fr (X 0) hp (Y 0) nid (Z 0);rw[e1,e2,e3];exact hstep
    |succ i=>exact hst i o' Ω5
   ·cases j with
    |zero=>
     show hs'[k0+0]? = some hp;rw[xb1,hpr k0 Ω,hpre k0 (xa5 _),hh]
    |succ j=>
     show hs'[_]? = some (Y j);rw[qds,←xb2,←hk1];exact hsg j Ω4
   ·rw[hpr k Ω,hpre k hk]
  split at h
  ·rename_i hgd
   cases q:gE o.op with
   |false=>
    rw[q]at h;have h:gH E o fr (JD (zI fr o.op) hp) (fun s=>putD o.dst s fr fun fr=>gM E run n ds ops fr hp nid hs g)=.ok ρ:=h;obtain⟨s,hx,h⟩:=Vj h;obtain⟨fr',hfr,h⟩:=Wu h;refine glue false s fr' hp nid k0 hs ⟨hfr,hgd,fun e=>(by cases e),fun _=>⟨rfl,rfl⟩,fun _ _=>⟨fun H hH=>?_,fun hr H=>?_⟩,fun _ e=>by rw[q]at e;cases e⟩ h hl hh (by simp[q]) (fun _ _=>rfl)
    ·refine Zp hE (LM:=LM) (hp:=JD (zI fr o.op) hp) ?_ hx
     cases zI fr o.op
     ·exact qdr
     ·exact hH
    ·rw[hr]at hx
     exact Zp hE (LM:=LM) (hp:=.nil) qdr hx
   |true=>
    rw[q]at h;have h:ql (nid+n) (fun id=>Kl E run id o fr hp fun s hp' nid'=>ql (Nat.succ nid') fun nid'=>putD o.dst s fr fun fr=>gM E run n ds ops fr hp' nid' (hs++[hp']) g)=.ok ρ:=h;rw[qi]at h;unfold Kl at h;split at h
    ·rename_i s hp' nid' hx
     dsimp only at h;rw[qi]at h;obtain⟨fr',hfr,h⟩:=Wu h;refine glue false s fr' hp' (nid'+1) (k0+1) (hs++[hp']) ⟨hfr,hgd,fun e=>(by cases e),fun e=>(by rw[q]at e;cases e),fun _ e=>(by rw[q]at e;cases e),fun _ _ O st1 hops hH hn K' hk=>?_⟩ h (by simp[hl]) ?_ (by simp[q]) fun k hk=>?_
     ·have e:stepR P (look st1.fr) st1.hp o.op=stepR P (qD fr) st1.hp o.op:=Vb fun t ht=>hops t (Qs ht)
      rw[e,hn];obtain⟨xr,h1,h2⟩:=qby hE (F:=qD fr) (fun _=>rfl) hH hx;refine qkw hm hE hf hrun (id:=nid+n) hH hn h1 h2 fun s1 hp1 nid1 st' hf' hH' hn' hq=>?_;unfold okQ at hq;cases hq;exact hk st' hf' hH' Ω
     ·rw[xd0 Ω,hl,xb8];rfl
     ·exact xc9 Ω
    ·cases h
  ·rename_i hgd
   obtain⟨fr',hfr,h⟩:=Wu h;cases q:gE o.op with
   |false=>
    rw[q]at h;exact glue true undefSV fr' hp nid k0 hs ⟨hfr,hgd,fun _=>⟨rfl,rfl,fun e=>(by rw[q]at e;cases e)⟩,fun _=>⟨rfl,rfl⟩,fun e=>(by cases e),fun e=>(by cases e)⟩ h hl hh (by simp[q]) (fun _ _=>rfl)
   |true=>
    rw[q]at h;have h:(ql (nid+n) fun nid=>gM E run n ds ops fr' hp nid (hs++[hp]) g)=.ok ρ:=h;rw[qi]at h;refine glue true undefSV fr' hp (nid+n) (k0+1) (hs++[hp]) ⟨hfr,hgd,fun _=>⟨rfl,rfl,fun _=>xa5 _⟩,fun e=>(by rw[q]at e;cases e),fun e=>(by cases e),fun e=>(by cases e)⟩ h (by simp[hl]) ?_ (by simp[q]) fun k hk=>?_
    ·rw[xd0 Ω,hl,xb8];rfl
    ·exact xc9 Ω
  ·cases h
def qie(P:Program)(LM:Nat→Option Loop)(fr:Tr 3 SV)(o:Oper)(hp:Tr 6 XB):Prop:=∀H,HRel LM hp H→∃s,PureAt P (qD fr) H o.op s∧∀d,o.dst=some d→s=qD fr d
theorem qfm(hE:XOk P E){fr:Tr 3 SV}{o:Oper}{hp:Tr 6 XB}{r:R}(h:Wt E fr o hp r=.ok ρ):qie P LM fr o hp∧r=.ok ρ:=by
 obtain⟨s,hx,h⟩:=Vj h;cases e:o.dst with
 |none=>
  rw[e]at h;exact⟨fun H hH=>⟨s,Zp hE hH hx,fun d hd=>by rw[e]at hd;cases hd⟩,h⟩
 |some d=>
  rw[e]at h;obtain⟨h1,h⟩:=qjW h;exact⟨fun H hH=>⟨s,Zp hE hH hx,fun d' hd=>by rw[e]at hd;cases hd;exact qdp _ _ _ h1⟩,h⟩
theorem qdt(hE:XOk P E){fr:Tr 3 SV}{o:Oper}{lo hi tx:Nat}{r:R}:∀{hs:List (Tr 6 XB)}{k:Nat},Qr E fr o lo hi tx r hs k=.ok ρ→r=.ok ρ∧∀j y,hs[j]? = some y→lo≤k+j→k+j≤hi→k+j≠tx→qie P LM fr o y
 |[],k,h=>⟨h,fun j y hj=>by simp at hj⟩
 |hp :: hs,k,h=>by
  have h:(Bool.rec (ql (Nat.succ k) fun k=>Qr E fr o lo hi tx r hs k) (Wt E fr o hp (ql (Nat.succ k) fun k=>Qr E fr o lo hi tx r hs k)) (Nat.ble lo k&&(Nat.ble k hi&&!(Nat.beq k tx))):R)=.ok ρ:=h;have key:(ql (Nat.succ k) fun k=>Qr E fr o lo hi tx r hs k)=.ok ρ∧(lo≤k→k≤hi→k≠tx→qie P LM fr o hp):=by
   cases q:(Nat.ble lo k&&(Nat.ble k hi&&!(Nat.beq k tx)))with
   |false=>
    rw[q]at h;refine⟨h,fun h1 h2 h3=>?_⟩;have:(Nat.ble lo k&&(Nat.ble k hi&&!(Nat.beq k tx)))=true:=by
     simp only[xe6,Bool.not_eq_true',Nat.ble_eq];exact⟨h1,h2,by cases c:Nat.beq k tx with
      |false=>rfl
      |true=>exact absurd (xa6 c) h3⟩
    rw[q]at this;cases this
   |true=>
    rw[q]at h;obtain⟨h1,h2⟩:=qfm (LM:=LM) hE h;exact⟨h2,fun _ _ _=>h1⟩
  obtain⟨h1,h2⟩:=key;rw[qi]at h1;obtain⟨h3,h4⟩:=qdt hE h1;refine⟨h3,fun j y hj a b c=>?_⟩;cases j with
  |zero=>simp at hj;subst hj;exact h2 a b c
  |succ j=>exact h4 j y Ω4 Ω Ω Ω
theorem qdu(hE:XOk P E){l:List Oper}{fr:Tr 3 SV}{hs:List (Tr 6 XB)}{r:R}:∀{ops:List Oper}{i:Nat},G7 E l fr hs r ops i=.ok ρ→r=.ok ρ∧∀j o,ops[j]? = some o→(zI fr o.op&&Ku (dsts l) o fr)=true→∀k y,hs[k]? = some y→loC l (i+j)≤k→k≤hiC l (i+j)→k≠kc (efL l) (i+j)→qie P LM fr o y
 |[],i,h=>⟨h,fun j o hj=>by simp at hj⟩
 |o :: ops,i,h=>by
  have h:(Bool.rec (ql (Nat.succ i) fun i=>G7 E l fr hs r ops i) (ql (loC l i) fun lo=>ql (hiC l i) fun hi=>ql (kc (efL l) i) fun tx=>Qr E fr o lo hi tx (ql (Nat.succ i) fun i=>G7 E l fr hs r ops i) hs 0) (zI fr o.op&&Ku (dsts l) o fr):R)=.ok ρ:=h;have key:(ql (Nat.succ i) fun i=>G7 E l fr hs r ops i)=.ok ρ∧((zI fr o.op&&Ku (dsts l) o fr)=true→∀k y,hs[k]? = some y→loC l i≤k→k≤hiC l i→k≠kc (efL l) i→qie P LM fr o y):=by
   cases q:(zI fr o.op&&Ku (dsts l) o fr)with
   |false=>rw[q]at h;exact⟨h,fun e=>by cases e⟩
   |true=>
    rw[q]at h;have h:(ql (loC l i) fun lo=>ql (hiC l i) fun hi=>ql (kc (efL l) i) fun tx=>Qr E fr o lo hi tx (ql (Nat.succ i) fun i=>G7 E l fr hs r ops i) hs 0)=.ok ρ:=h;rw[qi,qi,qi]at h;obtain⟨h1,h2⟩:=qdt (LM:=LM) hE h;exact⟨h1,fun _ k y hk a b c=>h2 k y hk Ω Ω Ω⟩
  obtain⟨h1,h2⟩:=key;rw[qi]at h1;obtain⟨h3,h4⟩:=qdu hE h1;refine⟨h3,fun j o' hj hr k y hk a b c=>?_⟩;cases j with
  |zero=>simp at hj;subst hj;exact h2 hr k y hk a b c
  |succ j=>
   have e:i+(j+1)=i+1+j:=by omega
   rw[e]at a b c;exact h4 j o' Ω4 hr k y hk a b c
theorem qkx(hm:P.follows .mixedOrders=true)(hE:XOk P E)(hf:ya P E){run:XC}(hrun:vD P run){O:Ctx}{id:Nat}{l:List Oper}{fr:Tr 3 SV}{hp:Tr 6 XB}{nid:Nat}{f:XK}{st:St}{K:Ex→St→Prop}{g:Tag K}(hs:StR LM fr hp nid st)(h:qkv E run l fr hp nid f=.ok ρ)
  (hk:∀e fr' hp' nid' st',StR LM fr' hp' nid' st'→f e fr' hp' nid'=.ok ρ→K e st'):j4 P O id l true st K g:=by
 obtain⟨q,h⟩:=qe h;rw[qi]at h;have hc:=Vd q;obtain⟨res,sk,X,Y,Z,hs',e1,e2,e3,hg,hst,hsg,hpr⟩:=G8 (LM:=LM) hm hE hf hrun h (k0:=0) rfl rfl;obtain⟨hfin,hck⟩:=qdu (LM:=LM) hE hg;rw[qi]at hfin;have hsi:∀i,i<l.length→∃o,l[i]? = some o:=fun i hi=>⟨l[i],by simp[hi]⟩;have hX:∀j,j≤l.length→∀t,qD (X j) t=FS (nth (dsts l)) res (fun _=>true) (look st.fr) j t:=by
  intro j
  induction j with
  |zero=>intro _ t;rw[e1];exact(hs.1 t).symm
  |succ j ih=>
   intro hj t;obtain⟨o,ho⟩:=hsi j Ω;have hd:nth (dsts l) j=o.dst:=by rw[zc,ho];rfl
   rw[(hst j o ho).1 t,ih Ω t];simp only[FS,hd,true_and]
 have hopd:∀i o,l[i]? = some o→∀t,t∈zM o→qD (X l.length) t=qD (X i) t:=by
  intro i o ho t ht;have hi:i<l.length:=(List.getElem?_eq_some_iff.1 ho).1;rw[hX _ (xa5 _),hX i Ω];refine Wo Ω fun x hx hxl hd=>?_;have:=hc.lt i x hi (hc.ops i o t x ho ht hxl hd);omega
 have hef:∀i o,l[i]? = some o→efL l i=gE o.op:=fun i o ho=>by simp[efL,ho]
 have hY:∀j,j<l.length→efL l j=false→Y (j+1)=Y j∧Z (j+1)=Z j:=by
  intro j hj he;obtain⟨o,ho⟩:=hsi j hj;exact(hst j o ho).2.2.2.1 (by rw[←hef j o ho];exact he)
 have hgt:∀i o g want t,l[i]? = some o→o.guard=some (g,want)→nth (dsts l) g=some t→qD (X l.length) t=qD (X i) t:=by
  intro i o g want t ho hgd ht;have hi:i<l.length:=(List.getElem?_eq_some_iff.1 ho).1;have hgl:=hc.lt i g hi (hc.grd i o g want ho hgd).1;rw[hX _ (xa5 _),hX i Ω];refine Wo Ω fun x hx hxl hd=>?_;exact hc.dist x g t Ω hxl hd ht
 have hgX:∀i o,l[i]? = some o→gdX (dsts l) o.guard (X l.length)=gdX (dsts l) o.guard (X i):=by
  intro i o ho;unfold gdX;cases hgd:o.guard with
  |none=>rfl
  |some p=>
   obtain⟨g,want⟩:=p;dsimp only;cases ht:nth (dsts l) g with
   |none=>rfl
   |some t=>dsimp only;rw[hgt i o g want t ho hgd ht]
 refine YQ hm hc res Y Z (qD (X l.length)) sk (fun i o ho=>?_) hY (fun t=>hX _ (xa5 _) t) (by rw[e2];exact hs.2.1) (by rw[e3];exact hs.2.2) ?_ ?_ ?_
 ·obtain⟨_,s2,s3,s4,_,_⟩:=hst i o ho
  rw[←hgX i o ho]at s2;refine⟨?_,fun hs=>⟨(s3 hs).2.1,fun he=>(s3 hs).2.2 (by rw[←hef i o ho];exact he),fun d hd=>(s3 hs).1⟩⟩;unfold gdX at s2;unfold Grd;cases hgd:o.guard with
  |none=>rw[hgd]at s2;exact(Option.some.inj s2).symm
  |some p=>
   obtain⟨g,want⟩:=p;rw[hgd]at s2;dsimp only at s2;split at s2
   ·cases s2
   ·rename_i t ht
    refine⟨t,ht,?_⟩;split at s2
    ·rename_i b hb
     exact .inl ⟨b,hb,(Option.some.inj s2).symm⟩
    ·rename_i vs hb
     exact .inr ⟨⟨vs,hb⟩,(Option.some.inj s2).symm⟩
    ·cases s2
 ·intro i o ho hsk he j hj hlo hhi F H hF hH
  have hi:i<l.length:=(List.getElem?_eq_some_iff.1 ho).1;obtain⟨p1,p2⟩:=(hst i o ho).2.2.2.2.1 hsk (by rw[←hef i o ho];exact he);have hFi:∀t,t∈zM o→F t=qD (X i) t:=fun t ht=>by rw[hF t ht,hopd i o ho t ht]
  by_cases c:kc (efL l) j=kc (efL l) i
  ·have hst2:Y j=Y i:=by
    by_cases d:j≤i
    ·exact(vA hY d Ω c).1
    ·exact(vA hY (Ω:i≤j) hj c.symm).1.symm
   exact⟨_,(p1 H (by rw[←hst2];exact hH)).congr hFi,fun _ _=>rfl⟩
  ·have hsee:zI (X l.length) o.op=zI (X i) o.op:=by
    unfold zI
    congr 2
    unfold qlQ;split
    ·rename_i t x hop
     have:zk (X l.length) x=zk (X i) x:=by
      cases x<;>first|rfl|skip
      rename_i t;exact hopd i o ho t (Qs (by rw[hop];simp[Op.operands]))
     rw[this]
    ·rfl
   cases d:zI (X i) o.op with
   |false=>
    exact⟨_,(p2 d H).congr hFi,fun _ _=>rfl⟩
   |true=>
    have h1:=hsg j hj;rw[xb0]at h1;have:=hck i o ho (by rw[hsee,d,xf0];unfold Ku;rw[hgX i o ho,(hst i o ho).2.1,hsk]) _ _ h1 (by rw[xb0];exact hlo) (by rw[xb0];exact hhi) (by rw[xb0];exact c) H hH;obtain⟨s,hs1,hs2⟩:=this;refine⟨s,?_,fun d hd=>?_⟩
    ·exact hs1.congr hF
    ·rw[hs2 d hd,hX _ (xa5 _)]
     have hdi:nth (dsts l) i=some d:=by rw[zc,ho];exact hd
     refine Wh hdi rfl hi fun x hx hxd=>?_;refine xf9 fun hne=>?_;by_cases hlt:x<i
     ·exact hc.dist i x d hlt hi hdi hxd
     ·exact hc.dist x i d Ω hx hxd hdi
 ·intro i o ho hsk he st1 hops hH hn K' hk'
  exact(hst i o ho).2.2.2.2.2 hsk (by rw[←hef i o ho];exact he) O st1 (fun t ht=>by rw[hops t ht,hopd i o ho t ht]) hH hn K' hk'
 ·intro st' hf' hH' hn'
  exact hk _ _ _ _ _ ⟨hf',hH',hn'⟩ hfin
def qfn(P:Program)(O:Ctx)(ds:List (Option Tmp)):List Oper→St→(St→Prop)→Prop
 |[],st,K=>∃st1,Weak O st st1∧K st1
 |o :: rest,st,K=>∃st1,Weak O st st1∧opH P O ds o st1 fun st'=>qfn P O ds rest st' K
theorem qdv{O:Ctx}{base:World}{okc:Nat→Prop}{ns:Nat}{outs:gJ}{ro:Option Nat}{allops:Array Oper}{Q:Exit→Act→World→Prop}{K:St→Prop}:∀(ops:List Oper)(st:St)(a:Act)(w:World),Inv O base okc ns st.nid outs st a w→ops.all (kv ns)=true→
  qfn P O (dsts allops.toList) ops st K→(∀st' a' w',K st'→Inv O base okc ns st'.nid outs st' a' w'→Q .normal a' w')→wpListIn (FR ro) 0 P allops Q ops a w
 |[],st,a,w,h,hd,⟨st1,hw,hk⟩,hK=>hK st1 a w hk (hw _ _ _ _ _ _ h)
 |o :: rest,st,a,w,h,hd,⟨st1,hw,hk⟩,hK=>by
  simp only[List.all_cons,xe6]at hd;unfold wpListIn;exact VX (hw _ _ _ _ _ _ h) hd.1 hk fun st' a' w' hk' hi'=>qdv rest st' a' w' hi' hd.2 hk' hK
theorem qky{O:Ctx}{st:St}{K:Ex→St→Prop}{id:Nat}{ops:List Oper}{g:Tag K}(h:qfn P O (dsts ops) ops st (fun st'=>K .normal st')):j4 P O id ops false st K g:=by
 intro base okc ns outs a w ro Q hro hc hi hK;simp only[qE,xe6]at hc;obtain⟨hd,-⟩:=hc;have hd:ops.all (kv ns)=true:=by simpa using hd
 refine wpIn_region_list ?_;have:=qdv (ro:=ro) (allops:=ops.toArray) (Q:=Q) (K:=fun st'=>K .normal st') ops st a w hi hd Ω8 fun st' a' w' hk hi'=>hK .normal st' a' w' hk hi';simpa using this
theorem qif{O:Ctx}{n:Nat}{all:List Oper}{K:St→Prop}:∀{l:List Oper}{res:Nat→SV}{sk:Nat→Bool}{X:Nat→Tr 3 SV}{Y:Nat→Tr 6 XB}{Z:Nat→Nat}{st:St}{d:Nat},(∀i o,l[i]? = some o→Y1 P LM n (dsts all) o (sk i) (res i) (X i) (X (i+1)) (Y i) (Y (i+1)) (Z i) (Z (i+1)))→FRel (X 0) st.fr→HRel LM (Y 0) st.hp→st.nid≤Z 0+d→d+l.length≤n→
  (∀st',FRel (X l.length) st'.fr→HRel LM (Y l.length) st'.hp→st'.nid=Z l.length+n→K st')→qfn P O (dsts all) l st K
 |[],res,sk,X,Y,Z,st,d,h,hF,hH,hn,hd,hk=>by
  have hd:d≤n:=by simpa using hd
  have hk:∀st',FRel (X 0) st'.fr→HRel LM (Y 0) st'.hp→st'.nid=Z 0+n→K st':=hk;exact⟨{ st with nid:=Z 0+n },ZR _ _ _ Ω,hk _ hF hH rfl⟩
 |o :: l,res,sk,X,Y,Z,st,d,h,hF,hH,hn,hd,hk=>by
  have hst:=h 0 o rfl;have hd:d+(l.length+1)≤n:=by simpa using hd
  have next:∀st',FRel (X 1) st'.fr→HRel LM (Y 1) st'.hp→st'.nid≤Z 1+(d+1)→qfn P O (dsts all) l st' K:=fun st' hf' hs' hn'=>
   qif (l:=l) (res:=fun i=>res (i+1)) (sk:=fun i=>sk (i+1)) (X:=fun i=>X (i+1)) (Y:=fun i=>Y (i+1)) (Z:=fun i=>Z (i+1)) (d:=d+1) (fun i o' ho=>h (i+1) o' Ω5) hf' hs' hn' Ω hk
  obtain⟨s1,s2,s3,s4,s5,s6⟩:=hst;have s1:∀t,qD (X 1) t=if o.dst=some t then res 0 else qD (X 0) t:=s1
  have s4:gE o.op=false→Y 1=Y 0∧Z 1=Z 0:=s4;have s3:sk 0=true→res 0=undefSV∧Y 1=Y 0∧(gE o.op=true→Z 0+n≤Z 1):=s3;have hgrd:Grd all (look st.fr) o (sk 0):=by
   unfold gdX at s2;unfold Grd;cases hgd:o.guard with
   |none=>rw[hgd]at s2;exact(Option.some.inj s2).symm
   |some p=>
    obtain⟨g,want⟩:=p;rw[hgd]at s2;dsimp only at s2;split at s2
    ·cases s2
    ·rename_i t ht
     refine⟨t,ht,?_⟩;rw[hF t];split at s2
     ·rename_i b hb
      exact .inl ⟨b,hb,(Option.some.inj s2).symm⟩
     ·rename_i vs hb
      exact .inr ⟨⟨vs,hb⟩,(Option.some.inj s2).symm⟩
     ·cases s2
  have frs:∀(st2:St)(fr:List (Nat×SV)),(∀t,look st2.fr t=look st.fr t)→(∀t,look fr t=look (st2.put o.dst (res 0)).fr t)→FRel (X 1) fr:=fun st2 fr h2 h3 t=>by
   rw[h3,gF,s1 t,h2,hF t]
  cases q:gE o.op with
  |false=>
   obtain⟨y1,z1⟩:=s4 q;refine⟨st,Weak.refl _ _,GV hgrd (fun hsk st2 h2 h2h h2n=>?_) (fun hsk st2 h2 h2h h2n=>?_)⟩
   ·obtain⟨p1,_⟩:=s5 hsk q
    have h1:=(p1 st2.hp (by rw[h2h];exact hH)).congr (F':=look st2.fr) fun t _=>by rw[h2,hF t]
    have f2:qfn P O (dsts all) l ⟨inD o.dst (st2.put o.dst (res 0)).fr,(st2.put o.dst (res 0)).hp,(st2.put o.dst (res 0)).nid+1⟩ K:=next _ (frs st2 _ h2 fun t=>gt _ _ _) (by show HRel LM (Y 1) (st2.put o.dst (res 0)).hp;rw[zm,h2h,y1];exact hH) (by show(st2.put o.dst (res 0)).nid+1≤_;rw[qx,z1];omega);rcases h1 with(⟨obl,e,h⟩|⟨obl,e,h⟩)|⟨hnd,h⟩
    ·rw[e];exact .inl ⟨h,f2⟩
    ·rw[e];exact .inl ⟨_,h,f2⟩
    ·refine .inr ⟨hnd,(h O st2 (fun t _=>rfl) rfl).mono ?_⟩
     rintro st' res' ⟨rfl,rfl⟩;exact next _ (frs st' _ h2 fun t=>wh _ _ _ _) (by rw[wi,h2h,y1];exact hH) (by rw[kC,z1];omega)
   ·obtain⟨k1,k2,_⟩:=s3 hsk
    exact next _ (frs st2 _ h2 fun t=>by rw[wh,k1]) (by rw[wi,h2h,y1];exact hH) (by rw[kC,z1];omega)
  |true=>
   refine⟨{ st with nid:=Z 0+n },ZR _ _ _ Ω,GV (st:={ st with nid:=Z 0+n }) hgrd (fun hsk st2 h2 h2h h2n=>?_) (fun hsk st2 h2 h2h h2n=>?_)⟩
   ·refine .inl (s6 hsk q O st2 (fun t _=>by rw[h2];exact hF t) (by rw[h2h];exact hH) h2n _ fun st' hf' hH' hn'=>?_)
    exact next _ (frs st2 _ h2 fun t=>by rw[gt,hf']) hH' (by show st'.nid+1≤_;exact xc1 hn' (Nat.le_add_right _ _))
   ·obtain⟨k1,k2,k3⟩:=s3 hsk
    exact next _ (frs st2 _ h2 fun t=>by rw[wh,k1]) (by rw[wi,h2h,k2];exact hH) (by rw[kC,h2n];exact xc1 (k3 q) (Nat.le_add_right _ _))
def qmD(E:XE)(run:XC)(ops:List Oper)(fr:Tr 3 SV)(hp:Tr 6 XB)(nid:Nat)(f:XK):R:=
 ql ops.length fun n=>gM E run n (dsts ops) ops fr hp nid [hp] fun fr hp nid hs=>ql (nid+n) fun nid=>f .normal fr hp nid
theorem qkz(hm:P.follows .mixedOrders=true)(hE:XOk P E)(hf:ya P E){run:XC}(hrun:vD P run){O:Ctx}{id:Nat}{l:List Oper}{fr:Tr 3 SV}{hp:Tr 6 XB}{nid:Nat}{f:XK}{st:St}{K:Ex→St→Prop}{g:Tag K}(hs:StR LM fr hp nid st)(h:qmD E run l fr hp nid f=.ok ρ)
  (hk:∀e fr' hp' nid' st',StR LM fr' hp' nid' st'→f e fr' hp' nid'=.ok ρ→K e st'):j4 P O id l false st K g:=by
 unfold qmD at h;rw[qi]at h;obtain⟨res,sk,X,Y,Z,hs',e1,e2,e3,hg,hst,hsg,hpr⟩:=G8 (LM:=LM) hm hE hf hrun h (k0:=0) rfl rfl;rw[qi]at hg;refine qky (qif (d:=0) hst (by rw[e1];exact hs.1) (by rw[e2];exact hs.2.1) (by rw[e3,hs.2.2];omega) Ω fun st' hf' hH' hn'=>?_);exact hk _ _ _ _ st' ⟨hf',hH',hn'⟩ hg
end
end
end Go.Sx
end
section
namespace Go.Sx
open Go.RowKit
noncomputable section
variable{ρ:Q}
def qfo(run:XC)(L:FL)(cx:CX)(b:Code)(f:XK):XK
 |.normal,fr,hp,nid=>run L cx b fr hp nid f
 |.exit i,fr,hp,nid=>f (.exit i) fr hp nid
 |.ret,fr,hp,nid=>f .ret fr hp nid
def qig(id:Nat)(f:XK):XK
 |.normal,fr,hp,nid=>f .normal fr hp nid
 |.exit i,fr,hp,nid=>Bool.rec (f (.exit i) fr hp nid) (f .normal fr hp nid) (Nat.beq i id)
 |.ret,fr,hp,nid=>f .ret fr hp nid
def qih(v:SV)(a b:R):R:=
 match v with
 |.val (.bool c)=>Bool.rec b a c
 |_=>.bad 320 0
def Ww(bk:SV→Option Nat)(fr:Tr 3 SV)(l:List (Nat×Nat))(k:R):R:=
 List.rec (motive:=fun _=>R) k (fun p _ ih=>match bk (qD fr p.1),bk (qD fr p.2)with
  |some i,some j=>qk 360 (!(Nat.beq i j)) ih
  |_,_=>ih) l
def Km(ops:List Oper)(f:XK)(fr:Tr 3 SV)(hp:Tr 6 XB)(nid:Nat):R:=ql (nid+ops.length) fun nid=>f .normal fr hp nid
def qoX(mid:Nat)(fr:Tr 3 SV)(l:List Tmp):Bool:=l.all fun a=>match qH (qD fr a)with
 |some i=>!(Nat.beq i mid)
 |none=>true
def qii(q:EI)(ops:List Oper)(fr:Tr 3 SV)(hp:Tr 6 XB)(k:R):R:=match qD fr q.mm with
 |.mp mid=>(match hp.find mid with
  |some (.map _ _ _)=>qk 365 (qoX mid fr (Zf ops)) k
  |_=>.bad 366 0)
 |_=>.bad 367 0
def qnU(te tx:Tmp)(fr:Tr 3 SV)(g:Tr 3 SV→R):R:=zs (some .top) 22 fr te fun fr=>zs (some .top) 22 fr tx g
def qmE(E:XE)(run:XC)(cx:CX)(ops:List Oper)(l:List (Nat×Nat))(fr:Tr 3 SV)(hp:Tr 6 XB)(nid:Nat)(f:XK):R:=
 match entI ops with
 |some q=>qk 363 (qhH q l ops) (Qq E run cx false (dsts ops) (Ze q.e q.x q.s q.upd 0 ops) 0 fr hp nid fun fr hp nid=>Ww qH fr l (qii q ops fr hp (qnU q.te q.tx fr fun fr=>Km ops f fr hp nid)))
 |none=>.bad 368 0
def qbM(E:XE)(run:XC)(L:FL)(cx:CX)(id:Nat)(d:Bool)(ops:List Oper)(fr:Tr 3 SV)(hp:Tr 6 XB)(nid:Nat)(f:XK):R:=
 match zQ L id with
 |[]=>Qq E run cx (kL d ops) (dsts ops) ops 0 fr hp nid (Km ops f)
 |(a,b) :: l=>Bool.rec (Qq E run cx (kL d ops) (dsts ops) ops 0 fr hp nid fun fr hp nid=>Ww qH fr ((a,b) :: l) (Km ops f fr hp nid))
  (Bool.rec (qk 361 d (Bool.rec (Bool.rec (qk 362 (Kz l ops) (Qq E run cx false (dsts ops) ops 0 fr hp nid fun fr hp nid=>Ww gS fr l (Km ops f fr hp nid))) (qkv E run ops fr hp nid f) (Nat.beq a 2)) (qmE E run cx ops l fr hp nid f) (Nat.beq a 1))) (qk 364 (!d) (qmD E run ops fr hp nid f)) (Nat.beq a 3)) (Nat.beq a b)
def Wx(id:Nat)(fr:Tr 3 SV)(f:XK)(hp:Tr 6 XB)(nid:Nat):R:=
 match hp.find id with
 |some (.loop s)=>zs none 22 hp id fun hp=>(match s with
  |.ready=>f .normal fr hp nid
  |.retd=>f .ret fr hp nid
  |.left i=>f (.exit i) fr hp nid
  |_=>.bad 350 0)
 |_=>.bad 351 0
def Wz(E:XE)(run:XC)(L:FL)(v:SV)(ps:List Tmp)(a b:Code)(fr:Tr 3 SV)(hp:Tr 6 XB)(nid:Nat)(f:XK):R:=
 match v with
 |.fn (.func g) [] caps=>(match E.fns g with
  |some (fn,[])=>(match fn.body,fn.results.toList with
   |some c,[]=>qk 352 (Nat.ble (caps.length+1) fn.ntmps) (zs (some (.loop .ready)) 22 hp nid fun hp1=>YY (.yld nid :: caps) 0 .nil fun fr1=>ql (Nat.succ nid) fun n1=>run [] (.gen nid L fr ps a b) c fr1 hp1 n1 fun e _ hp3 nid3=>(match e with
    |.exit _=>.bad 353 0
    |.normal=>Wx nid fr f hp3 nid3
    |.ret=>Wx nid fr f hp3 nid3))
   |_,_=>.bad 354 0)
  |_=>.bad 355 g)
 |_=>.bad 356 0
def Vk(E:XE)(run:XC)(L:FL)(cx:CX)(c:Code)(fr:Tr 3 SV)(hp:Tr 6 XB)(nid:Nat)(f:XK):R:=
 match c with
 |.skip=>f .normal fr hp nid
 |.label _=>f .normal fr hp nid
 |.seq a b=>run L cx a fr hp nid (qfo run L cx b f)
 |.cond x a b=>qih (zk fr x) (run L cx a fr hp nid f) (run L cx b fr hp nid f)
 |.block id c=>run L cx c fr hp nid (qig id f)
 |.exit id=>f (.exit id) fr hp nid
 |.ret=>f .ret fr hp nid
 |.scope c=>run L cx c fr hp nid f
 |.loop c=>run L cx c fr hp nid (qfo run L cx (.loop c) f)
 |.region id ops d=>qbM E run L cx id d ops.toList fr hp nid f
 |.rangeFunc x ps a b=>(match cx with
  |.rnd=>.bad 357 0
  |_=>Wz E run L (zk fr x) ps.toList a b fr hp nid f)
 |_=>.bad 321 0
section
variable{P:Program}{E:XE}
theorem HRel.lm{LM LM':Nat→Option Loop}{hp:Tr 6 XB}{H:List (Nat×Blk)}(h:HRel LM hp H)(e:∀id b,hp.find id=some b→LM' id=LM id):HRel LM' hp H:=fun id b hb=>by
 rw[e id b hb];exact h id b hb
theorem qfp(hm:P.follows .mixedOrders=true)(hf:ya P E){run:XC}(hrun:vD P run){LM:Nat→Option Loop}{fs:List Fr}{lo:Nat}{L:FL}{x:Operand}{ps:List Tmp}{a b:Code}{st:St}{fr:Tr 3 SV}{hp:Tr 6 XB}{n0:Nat}{f:XK}{K:Ex→St→Prop}(hs:StR LM fr hp n0 st)(h:Wz E run L (zk fr x) ps a b fr hp n0 f=.ok ρ)
  (hk:∀e fr' hp' nid' st',StR LM fr' hp' nid' st'→f e fr' hp' nid'=.ok ρ→K e st'):wN P ⟨fs,lo,false,zQ L⟩ (.rangeFunc x ps.toArray a b) st K:=by
 obtain⟨F,H,nid⟩:=st;obtain⟨s1,s2,s3⟩:=hs;have s3:nid=n0:=s3;subst s3;have s1:FRel fr F:=s1;have s2:HRel LM hp H:=s2;unfold Wz at h;split at h
 ·rename_i g caps hv
  split at h
  ·rename_i fn hfn
   obtain⟨c,hc⟩:=hf _ _ _ hfn;split at h
   ·rename_i c' hb hr
    have:c'=c:=by rw[hc.body]at hb;cases hb;rfl
    subst this;obtain⟨q,h⟩:=qe h;obtain⟨hp1,p1,h⟩:=qM _ _ _ _ h;obtain⟨fr1,f1,h⟩:=Zj h;rw[qi]at h;refine J3 hm rfl (by rw[s1.fn.env];exact hv) hc.at_ hc.body hc.name hc.ok hr (xa7 q) fun out Lr hL=>?_;generalize hLM:(fun i=>if i=nid then some Lr else LM i)=LM';have eL:LM' nid=some Lr:=by rw[←hLM];show(if nid=nid then some Lr else LM nid)=_;rw[if_pos rfl]
    have eO:∀i,i≠nid→LM' i=LM i:=fun i hi=>by rw[←hLM];show(if i=nid then some Lr else LM i)=_;rw[if_neg hi]
    have r1:HRel LM' hp1 ((nid,.loop Lr .ready) :: H):=fun i y hy=>by
     rw[p1 i]at hy;by_cases c:i=nid
     ·rw[if_pos c]at hy;cases hy
      exact⟨.loop Lr .ready,by simp only[blk];rw[if_pos c],rfl,by rw[c];exact eL⟩
     ·rw[if_neg c]at hy;simp only[blk];rw[if_neg c,eO i c];exact s2 i y hy
    have fin:∀(hp3:Tr 6 XB)(nid3:Nat)(fr3:Tr 3 SV)(st3:St),StR LM' fr3 hp3 nid3 st3→Wx nid fr f hp3 nid3=.ok ρ→vr Lr F K st3.hp st3.nid nid (blk st3.hp nid):=by
     intro hp3 nid3 fr3 st3 h3 hr;unfold Wx at hr;split at hr
     ·rename_i s hb3
      rw[h3.2.1.loop hb3 eL];obtain⟨hp4,p4,hr⟩:=qM _ _ _ _ hr;have r4:StR LM fr hp4 nid3 ⟨F,dropBlk st3.hp nid,st3.nid⟩:=by
       refine⟨s1,(h3.2.1.drop p4).lm fun i y hy=>?_,h3.2.2⟩;rw[p4 i]at hy;by_cases c:i=nid
       ·rw[if_pos c]at hy;cases hy
       ·exact(eO i c).symm
      refine⟨rfl,?_⟩;cases s<;>first|exact hk _ _ _ _ _ r4 hr|cases hr
     ·cases hr
    refine hrun ρ LM' _ _ _ [] (.gen nid L fr ps a b) c' ⟨_,_,_⟩ fr1 hp1 (nid+1) _ _ ⟨rfl,Lr,F,eL,s1,hL⟩ ⟨f1,r1,rfl⟩ h fun e fr3 hp3 nid3 st3 h3 h=>?_;cases e with
    |exit i=>cases h
    |normal=>exact fin _ _ _ _ h3 h
    |ret=>exact fin _ _ _ _ h3 h
   ·cases h
  ·cases h
 ·cases h
theorem Zq{fr:Tr 3 SV}{st:St}(hF:FRel fr st.fr){X:Prop}{k:R}(hX:k=.ok ρ→X):∀{l:List (Nat×Nat)},Ww qH fr l k=.ok ρ→FarVC l st X
 |[],h=>hX h
 |(a,b) :: l,h=>by
  have h:(match qH (qD fr a),qH (qD fr b)with
   |some i,some j=>qk 360 (!(Nat.beq i j)) (Ww qH fr l k)
   |_,_=>Ww qH fr l k)=.ok ρ:=h
  show vl (look st.fr a) (look st.fr b)∧FarVC l st X;rw[hF a,hF b];unfold vl;split at h
  ·rename_i i j h1 h2
   rw[h1,h2];obtain⟨q,h⟩:=qe h;exact⟨fun e=>(by rw[e,Nat.beq_refl]at q;cases q),Zq hF hX h⟩
  ·rename_i hn
   refine⟨?_,Zq hF hX h⟩;split
   ·rename_i i j h1 h2;exact absurd h2 (hn i j h1)
   ·trivial
theorem ZW{fr:Tr 3 SV}{st:St}(hF:FRel fr st.fr){X:Prop}{k:R}(hX:k=.ok ρ→X):∀{l:List (Nat×Nat)},Ww gS fr l k=.ok ρ→QL l st X
 |[],h=>hX h
 |(a,b) :: l,h=>by
  have h:(match gS (qD fr a),gS (qD fr b)with
   |some i,some j=>qk 360 (!(Nat.beq i j)) (Ww gS fr l k)
   |_,_=>Ww gS fr l k)=.ok ρ:=h
  show wa (look st.fr a) (look st.fr b)∧QL l st X;rw[hF a,hF b];unfold wa;split at h
  ·rename_i i j h1 h2
   rw[h1,h2];obtain⟨q,h⟩:=qe h;exact⟨fun e=>(by rw[e,Nat.beq_refl]at q;cases q),ZW hF hX h⟩
  ·rename_i hn
   refine⟨?_,ZW hF hX h⟩;split
   ·rename_i i j h1 h2;exact absurd h2 (hn i j h1)
   ·trivial
theorem qij{q:EI}{ops:List Oper}{fr:Tr 3 SV}{hp:Tr 6 XB}{st:St}{LM:Nat→Option Loop}(hF:FRel fr st.fr)(hH:HRel LM hp st.hp){k:R}(h:qii q ops fr hp k=.ok ρ):qnK q ops st∧k=.ok ρ:=by
 unfold qii at h;split at h
 ·rename_i mid e1
  split at h
  ·rename_i e2
   obtain⟨h1,h2⟩:=qe h;refine⟨fun mid' hmid=>?_,h2⟩;rw[hF,e1]at hmid;injection hmid with hmid;subst hmid;refine⟨?_,fun a ha=>?_⟩
   ·obtain⟨b',hb,hr⟩:=hH _ _ e2
    cases b'<;>simp only[BRel]at hr
    exact⟨_,_,_,hb⟩
   ·rw[hF]
    have:=List.all_eq_true.1 h1 a ha;intro c;rw[c]at this;simp at this
  ·cases h
 ·cases h
theorem qkA{te tx:Tmp}{fr:Tr 3 SV}{g:Tr 3 SV→R}(h:qnU te tx fr g=.ok ρ):∃fr',(∀t,qD fr' t=if t=te∨t=tx then .top else qD fr t)∧g fr'=.ok ρ:=by
 obtain⟨f1,h1,h⟩:=qM _ _ _ _ h;obtain⟨f2,h2,h⟩:=qM _ _ _ _ h;refine⟨f2,fun t=>?_,h⟩;unfold qD;rw[h2,h1];by_cases c1:t=tx
 ·rw[if_pos c1,if_pos (.inr c1)]
 ·by_cases c2:t=te
  ·rw[if_neg c1,if_pos c2,if_pos (.inl c2)]
  ·rw[if_neg c1,if_neg c2,if_neg (by rintro(c|c)<;>contradiction)]
theorem qik(hm:P.follows .mixedOrders=true)(hE:XOk P E)(hf:ya P E){run:XC}(hrun:vD P run)(hloop:∀(ρ:Q)(LM:Nat→Option Loop)(fs:List Fr)(lo:Nat)(rnd:Bool)(L:FL)(cx:CX)(c:Code)(st:St)(fr:Tr 3 SV)(hp:Tr 6 XB)(nid:Nat)(f:XK)(K:Ex→St→Prop),qfk LM fs rnd cx→StR LM fr hp nid st→run L cx c fr hp nid (qfo run L cx (.loop c) f)=.ok ρ→
  (∀e fr' hp' nid' st',StR LM fr' hp' nid' st'→f e fr' hp' nid'=.ok ρ→K e st')→vc P ⟨fs,lo,rnd,zQ L⟩ (.loop c) st K):vD P (Vk E run):=by
 intro ρ LM fs lo rnd L cx c st fr hp nid f K hcx hs h hk;cases c<;>simp only[Vk,reduceCtorEq]at h
 case skip=>exact hk _ _ _ _ _ hs h
 case label=>exact hk _ _ _ _ _ hs h
 case exit=>exact hk _ _ _ _ _ hs h
 case ret=>exact hk _ _ _ _ _ hs h
 case scope c=>exact hrun ρ LM _ _ _ _ _ c _ _ _ _ _ _ hcx hs h hk
 case seq a b=>
  refine hrun ρ LM _ _ _ _ _ a _ _ _ _ _ _ hcx hs h fun e fr' hp' nid' st' hs' h'=>?_;cases e with
  |normal=>exact hrun ρ LM _ _ _ _ _ b _ _ _ _ _ _ hcx hs' h' hk
  |exit i=>exact hk _ _ _ _ _ hs' h'
  |ret=>exact hk _ _ _ _ _ hs' h'
 case loop c=>exact hloop ρ LM _ _ _ _ _ c _ _ _ _ _ _ hcx hs h hk
 case block id c=>
  refine hrun ρ LM _ _ _ _ _ c _ _ _ _ _ _ hcx hs h fun e fr' hp' nid' st' hs' h'=>?_;cases e with
  |normal=>exact hk _ _ _ _ _ hs' h'
  |ret=>exact hk _ _ _ _ _ hs' h'
  |exit i=>
   have h':(Bool.rec (f (.exit i) fr' hp' nid') (f .normal fr' hp' nid') (Nat.beq i id):R)=.ok ρ:=h';show if i=id then K .normal st' else K (.exit i) st'
   cases e:Nat.beq i id with
   |true=>rw[e]at h';rw[if_pos (xa6 e)];exact hk _ _ _ _ _ hs' h'
   |false=>
    rw[e]at h';rw[if_neg (fun q=>by rw[q,Nat.beq_refl]at e;cases e)];exact hk _ _ _ _ _ hs' h'
 case rangeFunc x ps a b=>
  have key:rnd=false∧Wz E run L (zk fr x) ps.toList a b fr hp nid f=.ok ρ:=by
   cases cx with
   |top=>exact⟨hcx,h⟩
   |rnd=>cases h
   |gen y L0 fr0 ps0 a0 b0=>exact⟨hcx.1,h⟩
  obtain⟨rfl,h⟩:=key;have:=qfp (fs:=fs) (lo:=lo) (x:=x) (ps:=ps.toList) hm hf hrun hs h hk;exact this
 case cond x a b=>
  show Gn P (env (look st.fr) x) _ _;rw[hs.1.fn.env];unfold qih at h;split at h
  ·rename_i b0 hb
   rw[hb];cases b0 with
   |true=>exact⟨fun _=>hrun ρ LM _ _ _ _ _ a _ _ _ _ _ _ hcx hs h hk,fun e=>by cases e⟩
   |false=>exact⟨fun e=>(by cases e),fun _=>hrun ρ LM _ _ _ _ _ b _ _ _ _ _ _ hcx hs h hk⟩
  ·cases h
 case region id ops d=>
  have done:∀fr' hp' nid' st',StR LM fr' hp' nid' st'→Km ops.toList f fr' hp' nid'=.ok ρ→K .normal ⟨st'.fr,st'.hp,st'.nid+ops.toList.length⟩:=by
   intro fr' hp' nid' st' hs' h';unfold Km at h';rw[qi]at h';exact hk _ _ _ _ ⟨st'.fr,st'.hp,st'.nid+ops.toList.length⟩ ⟨hs'.1,hs'.2.1,by rw[hs'.2.2]⟩ h'
  show(if je (zQ L id)=true then wN P _ (.region id ops d) st K else zb P _ (kL d ops.toList=true) (dsts ops.toList) ops.toList 0 st (fun st'=>FarVC (zQ L id) st' (K .normal { st' with nid:=st'.nid+ops.toList.length })));unfold qbM at h;split at h
  ·rename_i hl
   rw[hl,if_neg (by simp[je])];exact Zn hm hE hf hrun hcx (fun e=>e) hs h done
  ·rename_i a b l hl
   rw[hl];cases e:Nat.beq a b with
   |false=>
    rw[e]at h;have hab:a≠b:=fun q=>by rw[q,Nat.beq_refl]at e;cases e
    rw[if_neg (by simp[je,hab])];refine Zn hm hE hf hrun hcx (fun e=>e) hs h fun fr' hp' nid' st' hs' h'=>?_;exact Zq hs'.1 (fun h'=>done _ _ _ _ hs' h') h'
   |true=>
    rw[e]at h;have hab:a=b:=xa6 e;rw[if_pos (by simp[je,hab])];cases e3:Nat.beq a 3 with
    |true=>
     rw[e3]at h;obtain⟨q1,p1⟩:=qe h;have q1:d=false:=by cases d<;>first|rfl|cases q1
     subst q1;have:=qkz (P:=P) (O:=⟨fs,lo,rnd,zQ L⟩) (id:=id) (K:=K) (g:=.mk) hm hE hf hrun hs p1 hk;exact this
    |false=>
    rw[e3]at h;obtain⟨q1,p1⟩:=qe h;subst q1;cases e1:Nat.beq a 1 with
    |true=>
     rw[e1]at p1
     replace p1:qmE E run cx ops.toList l fr hp nid f=.ok ρ:=p1
     unfold qmE at p1;split at p1
     ·rename_i q hq
      obtain⟨q2,p2⟩:=qe p1;exact wY (P:=P) (O:=⟨fs,lo,rnd,zQ L⟩) (id:=id) (K:=K) (g:=.mk) (far:=l) hm (qkl hq) q2 (Zn hm hE hf hrun hcx (J:=False) (fun e=>by cases e) hs p2 fun fr' hp' nid' st' hs' h'=>Zq hs'.1 (fun h'=>by
       obtain⟨h1,h2⟩:=qij hs'.1 hs'.2.1 h';refine⟨h1,fun st2 hf2 hh2 hn2=>?_⟩;obtain⟨fr2,hfr2,h3⟩:=qkA h2;unfold Km at h3;rw[qi]at h3;refine hk _ _ _ _ st2 ⟨fun t=>?_,fun i b hb=>?_,?_⟩ h3
       ·rw[hf2,hfr2,hs'.1]
       ·rw[hh2];exact hs'.2.1 i b hb
       ·rw[hn2,hs'.2.2]) h')
     ·cases p1
    |false=>
    rw[e1]at p1;cases e2:Nat.beq a 2 with
    |true=>
     rw[e2]at p1;have:=qkx (P:=P) (O:=⟨fs,lo,rnd,zQ L⟩) (id:=id) (K:=K) (g:=.mk) hm hE hf hrun hs p1 hk;exact this
    |false=>
    rw[e2]at p1;obtain⟨q2,p2⟩:=qe p1;have:=qbl (P:=P) (O:=⟨fs,lo,rnd,zQ L⟩) (id:=id) (K:=K) (g:=.mk) hm l q2 (Zn hm hE hf hrun hcx (J:=False) (fun e=>by cases e) hs p2 fun fr' hp' nid' st' hs' h'=>ZW hs'.1 (fun h'=>done _ _ _ _ hs' h') h');exact this
end
end
end Go.Sx
end
section
namespace Go.Sx
open Go.RowKit
noncomputable section
def svF(s:SV):(Value→R)→R→R:=SV.rec (motive_1:=fun _=>(Value→R)→R→R) (motive_2:=fun _=>PUnit) (fun  f d=>d) (fun v f d=>f v) (fun _ _ f d=>d) (fun _ _ f d=>d) (fun _ _ _ _ _ f d=>d) (fun _ _ f d=>d) (fun _ _ _ _ f d=>d) (fun _ _ _ _ f d=>d) (fun _ _ _ _ _ _ f d=>d) (fun _ _ _ f d=>d) (fun _ f d=>d) (fun _ _ _ _ f d=>d) (fun _ _ _ _ f d=>d) (fun _ _ _ f d=>d) (fun _ _ _ _ _ f d=>d) (fun _ f d=>d) PUnit.unit (fun _ _ _ _=>PUnit.unit) s
def qoY(v:Value):(IntKind→Int→R)→R→R:=Value.rec (motive_1:=fun _=>(IntKind→Int→R)→R→R) (motive_2:=fun _=>PUnit) (motive_3:=fun _=>PUnit) (fun _ f d=>d) (fun k n f d=>f k n) (fun _ _ f d=>d) (fun _ _ _ f d=>d) (fun _ f d=>d) (fun _ f d=>d) (fun _ _ _ f d=>d) (fun _ f d=>d) (fun _ f d=>d) (fun _ _ _ _ _ f d=>d) (fun  f d=>d) (fun _ _ _ f d=>d) (fun  f d=>d) (fun _ _ f d=>d) (fun _ _ f d=>d) (fun _ _=>PUnit.unit) PUnit.unit (fun _ _ _ _=>PUnit.unit) v
def qnV(v:Value):(Bool→R)→R→R:=Value.rec (motive_1:=fun _=>(Bool→R)→R→R) (motive_2:=fun _=>PUnit) (motive_3:=fun _=>PUnit) (fun b f d=>f b) (fun _ _ f d=>d) (fun _ _ f d=>d) (fun _ _ _ f d=>d) (fun _ f d=>d) (fun _ f d=>d) (fun _ _ _ f d=>d) (fun _ f d=>d) (fun _ f d=>d) (fun _ _ _ _ _ f d=>d) (fun  f d=>d) (fun _ _ _ f d=>d) (fun  f d=>d) (fun _ _ f d=>d) (fun _ _ f d=>d) (fun _ _=>PUnit.unit) PUnit.unit (fun _ _ _ _=>PUnit.unit) v
def qdw(s:SV)(f:IntKind→Int→R)(d:R):R:=svF s (fun v=>qoY v f d) d
def qmF(s:SV)(f:Bool→R)(d:R):R:=svF s (fun v=>qnV v f d) d
def kA(k:IntKind):Nat:=IntKind.rec 100 101 2 3 4 5 6 7 k
def kB(k:IntKind):Nat:=IntKind.rec 102 103 2 3 4 5 6 7 k
def qmG(k k':IntKind):Bool:=Nat.beq (kA k) (kB k')
theorem qkB(k k':IntKind):qmG k k'=eqKind k k':=by cases k<;>cases k'<;>rfl
def qmH(a b:Int):IntKind→(XR→R)→R:=Int.rec (fun x=>Int.rec (fun y k f=>ql (Nat.add x y) fun n=>Bool.rec (.bad 19 0) (f (.pure (.val (.int k (.ofNat n))))) (Nat.ble n (hiK k))) (fun y k f=>js 19 k (Int.add (.ofNat x) (.negSucc y)) f) b) (fun x k f=>js 19 k (Int.add (.negSucc x) b) f) a
theorem qkC(a b:Int)(k:IntKind)(f:XR→R):qmH a b k f=js 19 k (Int.add a b) f:=by
 cases a with
 |negSucc x=>rfl
 |ofNat x=>cases b with
  |negSucc y=>rfl
  |ofNat y=>
   have e:qmH (.ofNat x) (.ofNat y) k f=ql (Nat.add x y) fun n=>Bool.rec (.bad 19 0) (f (.pure (.val (.int k (.ofNat n))))) (Nat.ble n (hiK k)):=rfl;rw[e,qi];unfold js;rw[jr];rfl
def qnW(a b:Int):IntKind→(XR→R)→R:=Int.rec (fun x=>Int.rec (fun y k f=>Bool.rec (js 20 k (Int.sub (.ofNat x) (.ofNat y)) f) (ql (Nat.sub x y) fun n=>Bool.rec (.bad 20 0) (f (.pure (.val (.int k (.ofNat n))))) (Nat.ble n (hiK k))) (Nat.ble y x)) (fun y k f=>js 20 k (Int.sub (.ofNat x) (.negSucc y)) f) b) (fun x k f=>js 20 k (Int.sub (.negSucc x) b) f) a
theorem qkD(a b:Int)(k:IntKind)(f:XR→R):qnW a b k f=js 20 k (Int.sub a b) f:=by
 cases a with
 |negSucc x=>rfl
 |ofNat x=>cases b with
  |negSucc y=>rfl
  |ofNat y=>
   show(Bool.rec _ _ (Nat.ble y x):R)=_;cases h:Nat.ble y x with
   |false=>rfl
   |true=>
    have e:Int.sub (.ofNat x) (.ofNat y)=.ofNat (x - y):=by
     have:=xa7 h;show(Int.ofNat x - Int.ofNat y)=_;simp only[Int.ofNat_eq_natCast];omega
    rw[e];show ql (Nat.sub x y) _=js 20 k (Int.ofNat (x - y)) f;unfold js;rw[qi,jr];rfl
def qmI(a b:Int):IntKind→(XR→R)→R:=Int.rec (fun x=>Int.rec (fun y k f=>ql (Nat.mul x y) fun n=>Bool.rec (.bad 21 0) (f (.pure (.val (.int k (.ofNat n))))) (Nat.ble n (hiK k))) (fun y k f=>js 21 k (Int.mul (.ofNat x) (.negSucc y)) f) b) (fun x k f=>js 21 k (Int.mul (.negSucc x) b) f) a
theorem qkE(a b:Int)(k:IntKind)(f:XR→R):qmI a b k f=js 21 k (Int.mul a b) f:=by
 cases a with
 |negSucc x=>rfl
 |ofNat x=>cases b with
  |negSucc y=>rfl
  |ofNat y=>
   have e:qmI (.ofNat x) (.ofNat y) k f=ql (Nat.mul x y) fun n=>Bool.rec (.bad 21 0) (f (.pure (.val (.int k (.ofNat n))))) (Nat.ble n (hiK k)):=rfl;rw[e,qi];unfold js;rw[jr];rfl
def qil(op:BinOp):Bx (IntKind→Int→Int→(XR→R)→R):=
 match op with
 |.add=>.mk fun k a b f=>qmH a b k f
 |.sub=>.mk fun k a b f=>qnW a b k f
 |.mul=>.mk fun k a b f=>qmI a b k f
 |.eql=>.mk fun k a b f=>Kj (Jz a b) fun b=>f (.pure (.val (.bool b)))
 |.neq=>.mk fun k a b f=>Bool.rec (f (.pure (.val (.bool true)))) (f (.pure (.val (.bool false)))) (Jz a b)
 |.lss=>.mk fun k a b f=>Kj (Kt a b) fun b=>f (.pure (.val (.bool b)))
 |.leq=>.mk fun k a b f=>Bool.rec (f (.pure (.val (.bool true)))) (f (.pure (.val (.bool false)))) (Kt b a)
 |.gtr=>.mk fun k a b f=>Kj (Kt b a) fun b=>f (.pure (.val (.bool b)))
 |.geq=>.mk fun k a b f=>Bool.rec (f (.pure (.val (.bool true)))) (f (.pure (.val (.bool false)))) (Kt a b)
 |op=>.mk fun k a b f=>qeX op k a b f
theorem qim(b:Bool)(f:XR→R):(Bool.rec (f (.pure (.val (.bool true)))) (f (.pure (.val (.bool false)))) b:R)=Ql (!b) f:=by
 rw[jt];cases b<;>rfl
theorem qkF(op:BinOp)(k:IntKind)(a b:Int)(f:XR→R):(qil op).get k a b f=qeX op k a b f:=by
 cases op<;>first
  |rfl
  |exact qkC _ _ _ _
  |exact qkD _ _ _ _
  |exact qkE _ _ _ _
  |exact qim _ _
def qin(l:List SV):Nat→(SV→R)→R→R:=List.rec (fun _ _ d=>d) (fun a _ ih i=>Nat.rec (fun f _=>f a) (fun j _=>ih j) i) l
theorem qdx:∀(l:List SV)(i:Nat)(f:SV→R)(d:R),qin l i f d=(match l[i]? with|some s=>f s|none=>d)
 |[],i,f,d=>by cases i<;>rfl
 |a :: l,0,f,d=>rfl
 |a :: l,i+1,f,d=>by
  rw[xd7,←qdx l i f d];rfl
def qdy(l:List SV):Nat→(List SV→R)→R:=List.rec (fun i g=>Nat.rec (g []) (fun _ _=>.bad 65 0) i) (fun a _ ih i=>Nat.rec (fun g=>g []) (fun j _ g=>ih j fun m=>g (a :: m)) i) l
def qdz(l:List SV):Nat→Nat→(List SV→R)→R:=List.rec (fun o sz g=>Nat.rec (Nat.rec (g []) (fun _ _=>.bad 65 0) sz) (fun _ _=>.bad 65 0) o) (fun a tl ih o=>Nat.rec (fun sz g=>qdy (a :: tl) sz g) (fun j _ sz g=>ih j sz g) o) l
theorem Y3:∀(l:List SV)(n:Nat)(g:List SV→R),qdy l n g=qk 65 (Nat.ble n l.length) (g (l.take n))
 |[],0,g=>rfl
 |[],n+1,g=>rfl
 |a :: l,0,g=>rfl
 |a :: l,n+1,g=>by
  show qdy l n (fun m=>g (a :: m))=_;rw[Y3 l n];rfl
theorem Y4:∀(l:List SV)(o n:Nat)(g:List SV→R),qdz l o n g=qk 65 (Nat.ble (o+n) l.length) (g ((l.drop o).take n))
 |[],0,0,g=>rfl
 |[],0,n+1,g=>by rw[xb0];rfl
 |[],o+1,n,g=>by rw[show o+1+n=(o+n)+1 by omega];rfl
 |a :: l,0,n,g=>by
  show qdy (a :: l) n g=_;rw[Y3,xb0];rfl
 |a :: l,o+1,n,g=>by
  show qdz l o n g=_;rw[Y4 l o n,show o+1+n=(o+n)+1 by omega];rfl
def qio(l:List SV):Nat→SV→(List SV→R)→R:=List.rec (fun _ _ _=>.bad 78 0) (fun a tl ih o=>Nat.rec (fun s g=>g (s :: tl)) (fun j _ s g=>ih j s fun m=>g (a :: m)) o) l
theorem WA:∀(l:List SV)(o:Nat)(s:SV)(g:List SV→R),qio l o s g=YC s l o g
 |[],o,s,g=>by unfold YC;cases o<;>rfl
 |a :: l,0,s,g=>by unfold YC;rw[qU];rfl
 |a :: l,o+1,s,g=>by
  show qio l o s (fun m=>g (a :: m))=_;rw[WA l o s];unfold YC;rw[qU,qU];rfl
def ldC(b:Option XB)(off:Nat)(f:XR→R):R:=Option.rec (motive:=fun _=>Nat→(XR→R)→R) (fun _ _=>.bad 69 0) (fun b=>XB.rec (motive:=fun _=>Nat→(XR→R)→R) (fun _ l off f=>qin l off (fun s=>f (.pure s)) (.bad 64 0)) (fun _ _ _ _ _ _=>.bad 69 0) (fun _ _ _=>.bad 69 0) (fun _ _ _ _ _=>.bad 69 0) b) b off f
def ldR(b:Option XB)(k i j:Nat)(f:XR→R):R:=Option.rec (motive:=fun _=>Nat→Nat→Nat→(XR→R)→R) (fun _ _ _ _=>.bad 70 0) (fun b=>XB.rec (motive:=fun _=>Nat→Nat→Nat→(XR→R)→R) (fun _ _ _ _ _ _=>.bad 70 0) (fun _ k' n l k i j f=>yU k k' n i j 1 fun o=>qin l o (fun s=>f (.pure s)) (.bad 64 0)) (fun _ _ _ _ _=>.bad 70 0) (fun _ _ _ _ _ _ _=>.bad 70 0) b) b k i j f
def qlR(a:SV):Tr 6 XB→(XR→R)→R:=SV.rec (motive_1:=fun _=>Tr 6 XB→(XR→R)→R) (motive_2:=fun _=>PUnit) (fun  hp f=>.bad 72 0) (fun _ hp f=>.bad 72 0) (fun _ _ hp f=>.bad 72 0) (fun _ _ hp f=>.bad 72 0) (fun _ _ _ _ _ hp f=>.bad 72 0) (fun id off hp f=>ldC (hp.find id) off f) (fun id k i j hp f=>ldR (hp.find id) k i j f) (fun o n row ih hp f=>ZO hp (.ref o n row) f) (fun _ _ _ _ _ _ hp f=>.bad 72 0) (fun _ _ _ hp f=>.bad 72 0) (fun _ hp f=>.bad 72 0) (fun _ _ _ _ hp f=>.bad 72 0) (fun _ _ _ _ hp f=>.bad 72 0) (fun _ _ _ hp f=>.bad 72 0) (fun _ _ _ _ _ hp f=>.bad 72 0) (fun _ hp f=>.bad 72 0) PUnit.unit (fun _ _ _ _=>PUnit.unit) a
theorem G9(l:List SV)(o:Nat)(f:XR→R):qin l o (fun s=>f (.pure s)) (.bad 64 0)=wT l o f:=by rw[qdx];rfl
theorem qip(a:SV)(hp:Tr 6 XB)(f:XR→R):qlR a hp f=ZO hp a f:=by
 cases a<;>first|rfl|skip
 case ptr id off=>
  show ldC (hp.find id) off f=_;unfold ZO ldC;dsimp only;cases hp.find id with
  |none=>rfl
  |some b=>cases b<;>first|rfl|exact G9 _ _ _
 case elt id k i j=>
  show ldR (hp.find id) k i j f=_;unfold ZO ldR;dsimp only;cases hp.find id with
  |none=>rfl
  |some b=>
   cases b<;>first|rfl|skip
   rename_i t k' n l;show yU k k' n i j 1 (fun o=>qin l o (fun s=>f (.pure s)) (.bad 64 0))=_
   congr 1
   funext o;exact G9 _ _ _
theorem Y5(l:List SV)(o n:Nat)(f:XR→R):qdz l o n (fun l=>f (.pure (.agg l)))=wU l o n f:=by
 rw[Y4];unfold wU;rw[qU]
def qmJ(b:Option XB)(off sz:Nat)(f:XR→R):R:=Option.rec (motive:=fun _=>Nat→Nat→(XR→R)→R) (fun _ _ _=>.bad 73 0) (fun b=>XB.rec (motive:=fun _=>Nat→Nat→(XR→R)→R) (fun _ l off sz f=>qdz l off sz (fun l=>f (.pure (.agg l)))) (fun _ _ _ _ _ _ _=>.bad 73 0) (fun _ _ _ _=>.bad 73 0) (fun _ _ _ _ _ _=>.bad 73 0) b) b off sz f
def qlS(a:SV):Nat→Tr 6 XB→(XR→R)→R:=SV.rec (motive_1:=fun _=>Nat→Tr 6 XB→(XR→R)→R) (motive_2:=fun _=>PUnit) (fun  sz hp f=>.bad 76 0) (fun _ sz hp f=>.bad 76 0) (fun _ _ sz hp f=>.bad 76 0) (fun _ _ sz hp f=>.bad 76 0) (fun _ _ _ _ _ sz hp f=>.bad 76 0) (fun id off sz hp f=>qmJ (hp.find id) off sz f) (fun id k i j sz hp f=>ZP hp sz (.elt id k i j) f) (fun o n row ih sz hp f=>ZP hp sz (.ref o n row) f) (fun _ _ _ _ _ _ sz hp f=>.bad 76 0) (fun _ _ _ sz hp f=>.bad 76 0) (fun _ sz hp f=>.bad 76 0) (fun _ _ _ _ sz hp f=>.bad 76 0) (fun _ _ _ _ sz hp f=>.bad 76 0) (fun _ _ _ sz hp f=>.bad 76 0) (fun _ _ _ _ _ sz hp f=>.bad 76 0) (fun _ sz hp f=>.bad 76 0) PUnit.unit (fun _ _ _ _=>PUnit.unit) a
theorem qiq(a:SV)(sz:Nat)(hp:Tr 6 XB)(f:XR→R):qlS a sz hp f=ZP hp sz a f:=by
 cases a<;>first|rfl|skip
 case ptr id off=>
  show qmJ (hp.find id) off sz f=_;unfold ZP qmJ;dsimp only;cases hp.find id with
  |none=>rfl
  |some b=>cases b<;>first|rfl|exact Y5 _ _ _ _
abbrev OpR:=Tr 3 SV→Tr 6 XB→Nat→(XR→R)→R
def JE(x:Operand):Bx (Tr 3 SV→SV):=Operand.rec (fun t=>ql t fun t=>Bx.rec (fun q=>.mk fun fr=>Option.rec .top (fun s=>s) (q fr)) (yK SV 3 t)) (fun v=>.mk fun _=>.val v) (fun _=>.mk fun _=>.top) (fun f=>.mk fun _=>.fn (.func f) [] []) x
theorem KH(x:Operand)(fr:Tr 3 SV):(JE x).get fr=zk fr x:=by
 cases x<;>first|rfl|skip
 rename_i t;have e:JE (.tmp t)=ql t fun t=>Bx.rec (fun q=>.mk fun fr=>Option.rec .top (fun s=>s) (q fr)) (yK SV 3 t):=rfl;rw[e,qi];show(Option.rec .top (fun s=>s) ((yK SV 3 t).get fr):SV)=qD fr t;unfold qD;rw[KA]
def qdA(l:List Operand):Bx (Tr 3 SV→List SV):=List.rec (.mk fun _=>[]) (fun x _ ih=>Bx.rec (fun a=>Bx.rec (fun m=>.mk fun fr=>a fr :: m fr) ih) (JE x)) l
theorem Y6(fr:Tr 3 SV):∀l,(qdA l).get fr=wr fr l
 |[]=>rfl
 |x :: l=>by
  show(JE x).get fr ::(qdA l).get fr=_;rw[KH,Y6];rfl
def eB(x:Operand)(k:(Tr 3 SV→SV)→Bx OpR):Bx OpR:=Bx.rec k (JE x)
theorem zJ(x:Operand)(k:(Tr 3 SV→SV)→Bx OpR):eB x k=k (fun fr=>zk fr x):=by
 show k (JE x).get=_;congr 1;funext fr;exact KH x fr
def qlT(E:XE)(t:TypeId)(x:Operand):Bx OpR:=
 match E.tys t with
 |some ⟨false,_,_,_⟩=>eB x fun a=>.mk fun fr hp _ f=>qlR (a fr) hp f
 |some ⟨true,sz,_,_⟩=>eB x fun a=>.mk fun fr hp _ f=>qlS (a fr) sz hp f
 |none=>.mk fun _ _ _ _=>.bad 77 0
def stC(b:Option XB)(id off:Nat)(v:SV)(f:XR→R):R:=Option.rec (motive:=fun _=>Nat→Nat→SV→(XR→R)→R) (fun _ _ _ _=>.bad 80 0) (fun b=>XB.rec (motive:=fun _=>Nat→Nat→SV→(XR→R)→R) (fun t l id off v f=>qio l off v fun l=>f (.upd id (.cells t l) undefSV)) (fun _ _ _ _ _ _ _ _=>.bad 80 0) (fun _ _ _ _ _=>.bad 80 0) (fun _ _ _ _ _ _ _=>.bad 80 0) b) b id off v f
def stR(b:Option XB)(id k i j:Nat)(v:SV)(f:XR→R):R:=Option.rec (motive:=fun _=>Nat→Nat→Nat→Nat→SV→(XR→R)→R) (fun _ _ _ _ _ _=>.bad 81 0) (fun b=>XB.rec (motive:=fun _=>Nat→Nat→Nat→Nat→SV→(XR→R)→R) (fun _ _ _ _ _ _ _ _=>.bad 81 0) (fun t k' n l id k i j v f=>yU k k' n i j 1 fun o=>qio l o v fun l=>f (.upd id (.rows t k' n l) undefSV)) (fun _ _ _ _ _ _ _=>.bad 81 0) (fun _ _ _ _ _ _ _ _ _=>.bad 81 0) b) b id k i j v f
def qbN(a:SV):Tr 6 XB→SV→(XR→R)→R:=SV.rec (motive_1:=fun _=>Tr 6 XB→SV→(XR→R)→R) (motive_2:=fun _=>PUnit) (fun  hp v f=>.bad 82 0) (fun _ hp v f=>.bad 82 0) (fun _ _ hp v f=>.bad 82 0) (fun _ _ hp v f=>.bad 82 0) (fun _ _ _ _ _ hp v f=>.bad 82 0) (fun id off hp v f=>stC (hp.find id) id off v f) (fun id k i j hp v f=>stR (hp.find id) id k i j v f) (fun _ _ _ _ hp v f=>.bad 82 0) (fun _ _ _ _ _ _ hp v f=>.bad 82 0) (fun _ _ _ hp v f=>.bad 82 0) (fun _ hp v f=>.bad 82 0) (fun _ _ _ _ hp v f=>.bad 82 0) (fun _ _ _ _ hp v f=>.bad 82 0) (fun _ _ _ hp v f=>.bad 82 0) (fun _ _ _ _ _ hp v f=>.bad 82 0) (fun _ hp v f=>.bad 82 0) PUnit.unit (fun _ _ _ _=>PUnit.unit) a
theorem qfq(a:SV)(hp:Tr 6 XB)(v:SV)(f:XR→R):qbN a hp v f=Q5 hp a v f:=by
 cases a<;>first|rfl|skip
 case ptr id off=>
  show stC (hp.find id) id off v f=_;unfold Q5 stC;dsimp only;cases hp.find id with
  |none=>rfl
  |some b=>cases b<;>first|rfl|exact WA _ _ _ _
 case elt id k i j=>
  show stR (hp.find id) id k i j v f=_;unfold Q5 stR;dsimp only;cases hp.find id with
  |none=>rfl
  |some b=>
   cases b<;>first|rfl|skip
   rename_i t k' n l;show yU k k' n i j 1 (fun o=>qio l o v fun l=>f (.upd id (.rows t k' n l) undefSV))=_
   congr 1
   funext o;exact WA _ _ _ _
def qir(E:XE)(t:TypeId)(a x:Operand):Bx OpR:=
 match E.tys t with
 |some ⟨false,sz,_,_⟩=>eB a fun a=>eB x fun x=>.mk fun fr hp _ f=>qk 86 (oneCell (x fr)) (qk 87 (Nat.beq sz 1) (qbN (a fr) hp (x fr) f))
 |_=>eB a fun a=>eB x fun x=>.mk fun fr hp _ f=>GO E hp t (a fr) (x fr) f
def qkG(x y:SV)(h:IntKind→Int→Int→R)(sl:R):R:=qdw x (fun k a=>qdw y (fun k' b=>Bool.rec (.bad 40 0) (h k a b) (qmG k k')) sl) sl
theorem Y7{s:SV}{f:IntKind→Int→R}{d:R}(h:∀k n,s≠.val (.int k n)):qdw s f d=d:=by
 cases s<;>first|rfl|skip
 rename_i v;cases v<;>first|rfl|skip
 exact absurd rfl (h _ _)
theorem qis(s:SV):(∃k n,s=.val (.int k n))∨∀k n,s≠.val (.int k n):=by
 by_cases h:∃k n,s=.val (.int k n)
 ·exact .inl h
 ·exact .inr fun k n e=>h ⟨k,n,e⟩
theorem qkH(E:XE)(op:BinOp)(t:TypeId)(x y:SV)(f:XR→R):qkG x y (fun k a b=>(qil op).get k a b f) (qbr E op t x y f)=qbr E op t x y f:=by
 unfold qkG;rcases qis x with⟨k,a,rfl⟩|hx
 ·rcases qis y with⟨k',b,rfl⟩|hy
  ·show(Bool.rec (.bad 40 0) ((qil op).get k a b f) (qmG k k'):R)=qk 40 (eqKind k k') (qeX op k a b f)
   rw[qkB,qkF];rfl
  ·show qdw y _ _=_
   exact Y7 hy
 ·exact Y7 hx
def qnX(E:XE)(op:BinOp)(t:TypeId)(x y:Operand):Bx OpR:=Bx.rec (fun h=>eB x fun a=>eB y fun b=>.mk fun fr _ _ f=>qkG (a fr) (b fr) (fun k m n=>h k m n f) (qbr E op t (a fr) (b fr) f)) (qil op)
def qnY(x:SV):Nat→(XR→R)→R:=SV.rec (motive_1:=fun _=>Nat→(XR→R)→R) (motive_2:=fun _=>PUnit) (fun  o f=>.bad 102 0) (fun _ o f=>.bad 102 0) (fun _ _ o f=>.bad 102 0) (fun _ _ o f=>.bad 102 0) (fun _ _ _ _ _ o f=>.bad 102 0) (fun id off o f=>ql (Nat.add off o) fun n=>f (.pure (.ptr id n))) (fun id k i j o f=>Q6 (.elt id k i j) o f) (fun b n row ih o f=>Q6 (.ref b n row) o f) (fun _ _ _ _ _ _ o f=>.bad 102 0) (fun _ _ _ o f=>.bad 102 0) (fun _ o f=>.bad 102 0) (fun _ _ _ _ o f=>.bad 102 0) (fun _ _ _ _ o f=>.bad 102 0) (fun _ _ _ o f=>.bad 102 0) (fun _ _ _ _ _ o f=>.bad 102 0) (fun _ o f=>.bad 102 0) PUnit.unit (fun _ _ _ _=>PUnit.unit) x
theorem qkI(x:SV)(o:Nat)(f:XR→R):qnY x o f=Q6 x o f:=by
 cases x<;>rfl
def qbO(E:XE)(t:TypeId)(x:Operand)(i:Nat):Bx OpR:=
 match E.tys t with
 |some ⟨_,_,_,.struct fs⟩=>(match fs[i]? with
  |some (o,s,_)=>(match Nat.ble 1 s with
   |true=>eB x fun a=>ql o fun o=>.mk fun fr _ _ f=>qnY (a fr) o f
   |false=>.mk fun _ _ _ _=>.bad 103 0)
  |none=>.mk fun _ _ _ _=>.bad 104 0)
 |_=>.mk fun _ _ _ _=>.bad 105 0
def qnZ(x:SV):(XR→R)→R:=SV.rec (motive_1:=fun _=>(XR→R)→R) (motive_2:=fun _=>PUnit) (fun  f=>.bad 100 0) (fun _ f=>.bad 100 0) (fun _ _ f=>.bad 100 0) (fun _ _ f=>.bad 100 0) (fun g a b iha ihb f=>qhq (.fn g a b) f) (fun id off f=>f (.pure (.ptr id off))) (fun id k i j f=>f (.pure (.elt id k i j))) (fun o n row ih f=>f (.pure (.ref o n row))) (fun _ _ _ _ _ _ f=>.bad 100 0) (fun _ _ _ f=>.bad 100 0) (fun _ f=>.bad 100 0) (fun _ _ _ _ f=>.bad 100 0) (fun _ _ _ _ f=>.bad 100 0) (fun _ _ _ f=>.bad 100 0) (fun _ _ _ _ _ f=>.bad 100 0) (fun _ f=>.bad 100 0) PUnit.unit (fun _ _ _ _=>PUnit.unit) x
theorem qkJ(x:SV)(f:XR→R):qnZ x f=qhq x f:=by cases x<;>rfl
def qit(E:XE)(c:Call):Bx OpR:=
 match c.callee with
 |.value (.func g)=>Bx.rec (fun m=>.mk fun fr _ _ f=>gC (m fr) fun l=>f (.call g l)) (qdA c.args.toList)
 |.builtin .len=>(match c.args.toList,c.argTypes.toList with
  |[x],[t]=>(match E.tys t with
   |some ⟨_,_,_,.slice _ _⟩=>eB x fun a=>.mk fun fr _ _ f=>qhr (a fr) f
   |some ⟨_,_,_,.array n _ _⟩=>.mk fun _ _ _ f=>f (.pure (.val (.int .i64 (.ofNat n))))
   |_=>.mk fun fr hp id f=>vy E fr hp c id f)
  |_,_=>.mk fun fr hp id f=>vy E fr hp c id f)
 |.builtin .append=>(match c.args.toList,c.argTypes.toList with
  |[s,x],[t,t']=>(match Nat.beq t t' with
   |true=>eB s fun a=>eB x fun b=>.mk fun fr hp id f=>Za E hp t (a fr) (b fr) id f
   |false=>.mk fun _ _ _ _=>.bad 231 0)
  |_,_=>.mk fun fr hp id f=>vy E fr hp c id f)
 |_=>.mk fun fr hp id f=>vy E fr hp c id f
def cOp(E:XE)(op:Op):Bx OpR:=
 match op with
 |.move x=>eB x fun a=>.mk fun fr _ _ f=>f (.pure (a fr))
 |.assign x=>eB x fun a=>.mk fun fr _ _ f=>f (.pure (a fr))
 |.pick c a b=>eB c fun c=>eB a fun a=>eB b fun b=>.mk fun fr _ _ f=>qcJ (c fr) (a fr) (b fr) f
 |.alloc t=>.mk fun _ _ id f=>V8 E t id f
 |.box t x=>eB x fun a=>.mk fun fr _ id f=>qkc E t (a fr) id f
 |.load t x=>qlT E t x
 |.store t a x=>qir E t a x
 |.nilCheck x=>eB x fun a=>.mk fun fr _ _ f=>qnZ (a fr) f
 |.binOp op t x y _=>qnX E op t x y
 |.unOp op _ x=>eB x fun a=>.mk fun fr _ _ f=>xUn op (a fr) f
 |.convert s t x=>eB x fun a=>.mk fun fr _ _ f=>qcI E s t (a fr) f
 |.fieldAddr t x i=>qbO E t x i
 |.field t x i=>eB x fun a=>.mk fun fr _ _ f=>V9 E t (a fr) i f
 |.indexAddr t x i=>eB x fun a=>eB i fun b=>.mk fun fr _ _ f=>wd E t (a fr) (b fr) f
 |.extract x i=>eB x fun a=>.mk fun fr _ _ f=>Q7 (a fr) i f
 |.call c=>qit E c
 |.index t x i=>eB x fun a=>eB i fun b=>.mk fun fr _ _ f=>Wa E t (a fr) (b fr) f
 |.makeMap t rs=>.mk fun _ _ id f=>Zc E t rs.isSome id f
 |.lookup t x k ok=>eB x fun a=>eB k fun b=>.mk fun fr hp _ f=>KE E hp t (a fr) (b fr) ok f
 |op=>.mk fun fr hp id f=>xOp E fr hp id op f
theorem qfr(E:XE)(t:TypeId)(x:Operand)(i:Nat)(fr:Tr 3 SV)(hp:Tr 6 XB)(id:Nat)(f:XR→R):(qbO E t x i).get fr hp id f=jM E t (zk fr x) i f:=by
 unfold qbO jM;cases E.tys t with
 |none=>rfl
 |some ti=>
  obtain⟨a,b,c,d⟩:=ti;cases d<;>first|rfl|skip
  rename_i fs;dsimp only;cases fs[i]? with
  |none=>rfl
  |some y=>
   obtain⟨o,s,ag⟩:=y;dsimp only;cases Nat.ble 1 s with
   |false=>rfl
   |true=>
    dsimp only;rw[zJ,qi];exact qkI _ _ _
theorem qiu(E:XE)(c:Call)(fr:Tr 3 SV)(hp:Tr 6 XB)(id:Nat)(f:XR→R):(qit E c).get fr hp id f=vy E fr hp c id f:=by
 unfold qit;split
 ·rename_i g hc
  show gC ((qdA c.args.toList).get fr) (fun l=>f (.call g l))=_;rw[qU,Y6];unfold vy;rw[hc];show _=yL ([]++(wr fr c.args.toList++[])) fun l=>f (.call g l);rw[ko,List.nil_append,xd3]
 ·rename_i hc
  split
  ·rename_i x t ha ht
   have e:vy E fr hp c id f=qfc E t (zk fr x) f:=by
    unfold vy;rw[hc];show Zd E hp .len c.argTypes.toList (wr fr c.args.toList) id f=_;rw[ha,ht];rfl
   split
   ·rename_i hT
    rw[zJ,e];unfold qfc;rw[hT];rfl
   ·rename_i hT
    rw[e];unfold qfc;rw[hT];rfl
   ·rfl
  ·rfl
 ·rename_i hc
  split
  ·rename_i s x t t' ha ht
   have e:vy E fr hp c id f=qk 231 (Nat.beq t t') (Za E hp t (zk fr s) (zk fr x) id f):=by
    unfold vy;rw[hc];show Zd E hp .append c.argTypes.toList (wr fr c.args.toList) id f=_;rw[ha,ht];rfl
   rw[e];cases Nat.beq t t' with
   |true=>dsimp only;rw[zJ,zJ];rfl
   |false=>rfl
  ·rfl
 ·rfl
theorem qbP(E:XE)(op:Op)(fr:Tr 3 SV)(hp:Tr 6 XB)(id:Nat)(f:XR→R):(cOp E op).get fr hp id f=xOp E fr hp id op f:=by
 cases op<;>first|rfl|(unfold cOp xOp;dsimp only)
 case move x=>rw[zJ,kW];rfl
 case assign x=>rw[zJ,kW];rfl
 case pick=>rw[zJ,zJ,zJ];rfl
 case box=>rw[zJ];rfl
 case load t x=>
  unfold qlT YA;cases E.tys t with
  |none=>rfl
  |some ti=>
   obtain⟨a,b,c,d⟩:=ti;cases a
   ·dsimp only;rw[zJ];exact qip _ _ _
   ·dsimp only;rw[zJ];exact qiq _ _ _ _
 case store t a x=>
  unfold qir;split
  ·rename_i hT
   rw[zJ,zJ];unfold GO;rw[hT];show qk 86 _ (qk 87 _ (qbN (zk fr a) hp (zk fr x) f))=_;rw[qfq]
  ·rw[zJ,zJ];rfl
 case nilCheck=>rw[zJ];exact qkJ _ _
 case binOp op t x y t'=>
  unfold qnX;show(eB x fun a=>eB y fun b=>.mk fun fr _ _ f=>qkG (a fr) (b fr) (fun k m n=>(qil op).get k m n f) (qbr E op t (a fr) (b fr) f)).get fr hp id f=_;rw[zJ,zJ];exact qkH E op t _ _ f
 case unOp=>rw[zJ];rfl
 case convert=>rw[zJ];rfl
 case fieldAddr t x i=>exact qfr _ _ _ _ _ _ _ _
 case field=>rw[zJ];rfl
 case indexAddr=>rw[zJ,zJ];rfl
 case extract=>rw[zJ];rfl
 case call c=>exact qiu _ _ _ _ _ _
 case index=>rw[zJ,zJ];rfl
 case lookup=>rw[zJ,zJ];rfl
abbrev GK:=Tr 3 SV→Tr 6 XB→Nat→R
abbrev qoZ:=XC→CX→Nat→XR→Tr 3 SV→Tr 6 XB→Nat→GK→R
def qfs(E:XE)(j:Bool)(d:Option Tmp):Bx qoZ:=
 match d with
 |none=>.mk fun run cx id xr fr hp nid g=>XR.rec (motive:=fun _=>XC→CX→Nat→Tr 3 SV→Tr 6 XB→Nat→GK→R) (fun _ _ _ _ fr hp nid g=>g fr hp nid) (fun b _ _ _ id fr hp nid g=>zs (some b) 22 hp id fun hp=>g fr hp nid)
  (fun i b s run cx id fr hp nid g=>Option.rec (.bad 304 0) (fun _=>zs (some b) 22 hp i fun hp=>g fr hp nid) (hp.find i)) (fun i b s run cx id fr hp nid g=>Zm E run cx j none id (.grow i b s) fr hp nid g) (fun h l run cx id fr hp nid g=>Zm E run cx j none id (.call h l) fr hp nid g) (fun h l run cx id fr hp nid g=>Zm E run cx j none id (.yield h l) fr hp nid g) xr run cx id fr hp nid g
 |some d=>ql d fun d=>Bx.rec (fun p=>.mk fun run cx id xr fr hp nid g=>XR.rec (motive:=fun _=>XC→CX→Nat→Tr 3 SV→Tr 6 XB→Nat→GK→R) (fun s _ _ _ fr hp nid g=>p fr (some s) fun fr=>g fr hp nid) (fun b s _ _ id fr hp nid g=>zs (some b) 22 hp id fun hp=>p fr (some s) fun fr=>g fr hp nid)
  (fun i b s run cx id fr hp nid g=>Option.rec (.bad 304 0) (fun _=>zs (some b) 22 hp i fun hp=>p fr (some s) fun fr=>g fr hp nid) (hp.find i)) (fun i b s run cx id fr hp nid g=>Zm E run cx j (some d) id (.grow i b s) fr hp nid g) (fun h l run cx id fr hp nid g=>Zm E run cx j (some d) id (.call h l) fr hp nid g) (fun h l run cx id fr hp nid g=>Zm E run cx j (some d) id (.yield h l) fr hp nid g) xr run cx id fr hp nid g) (Qj SV 3 d)
theorem qkK(E:XE)(j:Bool)(d:Option Tmp)(run:XC)(cx:CX)(id:Nat)(xr:XR)(fr:Tr 3 SV)(hp:Tr 6 XB)(nid:Nat)(g:GK):(qfs E j d).get run cx id xr fr hp nid g=Zm E run cx j d id xr fr hp nid g:=by
 cases d with
 |none=>
  cases xr<;>first|rfl|skip
  rename_i i b s;show(Option.rec (.bad 304 0) (fun _=>zs (some b) 22 hp i fun hp=>g fr hp nid) (hp.find i):R)=_;unfold Zm;dsimp only;cases hp.find i<;>rfl
 |some d=>
  unfold qfs;dsimp only;rw[qi];have e:∀(s:SV)(fr:Tr 3 SV)(k:Tr 3 SV→R),(Qj SV 3 d).get fr (some s) k=putD (some d) s fr k:=fun s fr k=>by
   show _=zs (some s) 12 fr d k;rw[V5]
  cases xr<;>first|rfl|exact e _ _ _|skip
  ·rename_i b s
   show zs (some b) 22 hp id (fun hp=>(Qj SV 3 d).get fr (some s) fun fr=>g fr hp nid)=_;unfold Zm;dsimp only
   congr 1
   funext hp;exact e _ _ _
  ·rename_i i b s
   show(Option.rec (.bad 304 0) (fun _=>zs (some b) 22 hp i fun hp=>(Qj SV 3 d).get fr (some s) fun fr=>g fr hp nid) (hp.find i):R)=_;unfold Zm;dsimp only;cases hp.find i with
   |none=>rfl
   |some y=>
    show zs (some b) 22 hp i (fun hp=>(Qj SV 3 d).get fr (some s) fun fr=>g fr hp nid)=zs (some b) 22 hp i (fun hp=>putD (some d) s fr fun fr=>g fr hp nid)
    congr 1
    funext hp;exact e _ _ _
abbrev qiv:=XC→CX→Tr 3 SV→Tr 6 XB→Nat→GK→R
def cGo(E:XE)(j:Bool)(o:Oper)(i:Nat)(k:(XC→CX→Tr 3 SV→Tr 6 XB→Nat→GK→R)→Bx qiv):Bx qiv:=
 Bx.rec (fun q=>Bx.rec (fun r=>(match gE o.op with
  |true=>k fun run cx fr hp nid g=>ql (Nat.add nid i) fun id=>q fr hp id fun xr=>r run cx id xr fr hp nid g
  |false=>k fun run cx fr hp nid g=>q fr hp (Nat.add nid i) fun xr=>r run cx (Nat.add nid i) xr fr hp nid g)) (qfs E j o.dst)) (cOp E o.op)
def ZX(E:XE)(j:Bool)(ds:List (Option Tmp))(l:List Oper):Nat→Bx qiv:=
 List.rec (motive:=fun _=>Nat→Bx qiv) (fun _=>.mk fun _ _ fr hp nid g=>g fr hp nid) (fun o _ ih i=>ql (Nat.succ i) fun i1=>Bx.rec (fun rest=>cGo E j o i fun go=>(match o.guard with
  |none=>.mk fun run cx fr hp nid g=>go run cx fr hp nid fun fr hp nid=>rest run cx fr hp nid g
  |some p=>.mk fun run cx fr hp nid g=>yb ds (some p) o.dst fr hp nid (go run cx fr hp nid fun fr hp nid=>rest run cx fr hp nid g) (fun fr hp nid=>rest run cx fr hp nid g))) (ih i1)) l
theorem qmK(E:XE)(j:Bool)(o:Oper)(i:Nat)(k:(XC→CX→Tr 3 SV→Tr 6 XB→Nat→GK→R)→Bx qiv):cGo E j o i k=k fun run cx fr hp nid g=>xGo E run cx j o fr hp nid i g:=by
 show(match gE o.op with
  |true=>k fun run cx fr hp nid g=>ql (Nat.add nid i) fun id=>(cOp E o.op).get fr hp id fun xr=>(qfs E j o.dst).get run cx id xr fr hp nid g
  |false=>k fun run cx fr hp nid g=>(cOp E o.op).get fr hp (Nat.add nid i) fun xr=>(qfs E j o.dst).get run cx (Nat.add nid i) xr fr hp nid g)=_
 have e:∀run cx fr hp nid g id,(cOp E o.op).get fr hp id (fun xr=>(qfs E j o.dst).get run cx id xr fr hp nid g)=xOp E fr hp id o.op fun xr=>Zm E run cx j o.dst id xr fr hp nid g:=fun run cx fr hp nid g id=>by
  rw[qbP]
  congr 1
  funext xr;exact qkK _ _ _ _ _ _ _ _ _ _ _
 cases gE o.op with
 |true=>
  dsimp only
  congr 1
  funext run cx fr hp nid g;rw[qi,e];unfold xGo;rw[qi];rfl
 |false=>
  dsimp only
  congr 1
  funext run cx fr hp nid g;rw[e];unfold xGo;rw[qi];rfl
theorem qdB(E:XE)(j:Bool)(ds:List (Option Tmp))(run:XC)(cx:CX):∀(l:List Oper)(i:Nat)(fr:Tr 3 SV)(hp:Tr 6 XB)(nid:Nat)(g:GK),(ZX E j ds l i).get run cx fr hp nid g=Qq E run cx j ds l i fr hp nid g
 |[],i,fr,hp,nid,g=>rfl
 |o :: l,i,fr,hp,nid,g=>by
  have ih:=qdB E j ds run cx l (Nat.succ i);show Bx.get (ql (Nat.succ i) fun i1=>Bx.rec (fun rest=>cGo E j o i fun go=>(match o.guard with
   |none=>.mk fun run cx fr hp nid g=>go run cx fr hp nid fun fr hp nid=>rest run cx fr hp nid g
   |some p=>.mk fun run cx fr hp nid g=>yb ds (some p) o.dst fr hp nid (go run cx fr hp nid fun fr hp nid=>rest run cx fr hp nid g) (fun fr hp nid=>rest run cx fr hp nid g))) (ZX E j ds l i1)) run cx fr hp nid g=yb ds o.guard o.dst fr hp nid (xGo E run cx j o fr hp nid i fun fr hp nid=>ql (Nat.succ i) fun i=>Qq E run cx j ds l i fr hp nid g) (fun fr hp nid=>ql (Nat.succ i) fun i=>Qq E run cx j ds l i fr hp nid g)
  rw[qi];show(cGo E j o i fun go=>(match o.guard with
   |none=>.mk fun run cx fr hp nid g=>go run cx fr hp nid fun fr hp nid=>(ZX E j ds l (Nat.succ i)).get run cx fr hp nid g
   |some p=>.mk fun run cx fr hp nid g=>yb ds (some p) o.dst fr hp nid (go run cx fr hp nid fun fr hp nid=>(ZX E j ds l (Nat.succ i)).get run cx fr hp nid g) (fun fr hp nid=>(ZX E j ds l (Nat.succ i)).get run cx fr hp nid g))).get run cx fr hp nid g=_
  rw[qmK];have e:(fun fr hp nid=>(ZX E j ds l (Nat.succ i)).get run cx fr hp nid g)=fun fr hp nid=>ql (Nat.succ i) fun i=>Qq E run cx j ds l i fr hp nid g:=by
   funext fr hp nid;rw[qi,ih]
  cases o.guard with
  |none=>
   show xGo E run cx j o fr hp nid i (fun fr hp nid=>(ZX E j ds l (Nat.succ i)).get run cx fr hp nid g)=_;rw[e];rfl
  |some p=>
   show yb ds (some p) o.dst fr hp nid (xGo E run cx j o fr hp nid i (fun fr hp nid=>(ZX E j ds l (Nat.succ i)).get run cx fr hp nid g)) (fun fr hp nid=>(ZX E j ds l (Nat.succ i)).get run cx fr hp nid g)=_;rw[e]
abbrev ChR:=XC→Tr 3 SV→Tr 6 XB→Nat→List (Tr 6 XB)→CK→R
def okK(r:R)(g:SV→Tr 6 XB→Nat→R):R:=R.rec (fun q=>Q.rec (fun s hp nid=>g s hp nid) q) (fun c i=>.bad c i) r
theorem qiw(E:XE)(run:XC)(id:Nat)(o:Oper)(fr:Tr 3 SV)(hp:Tr 6 XB)(g:SV→Tr 6 XB→Nat→R):okK ((cOp E o.op).get fr hp id fun xr=>YZ E run id xr hp okQ) g=Kl E run id o fr hp g:=by
 rw[qbP];unfold okK Kl;cases (xOp E fr hp id o.op fun xr=>YZ E run id xr hp okQ)with
 |ok q=>cases q;rfl
 |bad c i=>rfl
def qix(xr:XR):R:=XR.rec (fun s=>.ok (.mk s .nil 0)) (fun _ _=>.bad 382 0) (fun _ _ _=>.bad 382 0) (fun _ _ _=>.bad 382 0) (fun _ _=>.bad 382 0) (fun _ _=>.bad 382 0) xr
theorem qiy:qix=qdq:=by funext xr;cases xr<;>rfl
def cPu(E:XE)(op:Op):Bx (Tr 3 SV→Tr 6 XB→R):=
 match Y0 E op with
 |some x=>Bx.rec (fun q=>.mk fun fr hp=>G5 (q fr) hp) (JE x)
 |none=>Bx.rec (fun q=>.mk fun fr hp=>q fr hp 0 qix) (cOp E op)
theorem qmL(E:XE)(op:Op)(fr:Tr 3 SV)(hp:Tr 6 XB):(cPu E op).get fr hp=G6 E fr hp op:=by
 unfold cPu G6;cases Y0 E op with
 |some x=>
  show G5 ((JE x).get fr) hp=G5 (zk fr x) hp;rw[KH]
 |none=>
  show(cOp E op).get fr hp 0 qix=xOp E fr hp 0 op qdq;rw[qbP,qiy]
theorem Vl(E:XE)(o:Oper)(fr:Tr 3 SV)(hp:Tr 6 XB)(g:SV→R):okK ((cPu E o.op).get fr hp) (fun s _ _=>g s)=gH E o fr hp g:=by
 rw[qmL];unfold okK gH;cases G6 E fr hp o.op with
 |ok q=>cases q;rfl
 |bad c i=>rfl
def JF(d:Option Tmp):Bx (Tr 3 SV→SV→(Tr 3 SV→R)→R):=
 match d with
 |none=>.mk fun fr _ g=>g fr
 |some d=>ql d fun d=>Bx.rec (fun p=>.mk fun fr s g=>p fr (some s) g) (Qj SV 3 d)
theorem qkL(d:Option Tmp)(fr:Tr 3 SV)(s:SV)(g:Tr 3 SV→R):(JF d).get fr s g=putD d s fr g:=by
 cases d with
 |none=>rfl
 |some d=>
  unfold JF;dsimp only;rw[qi];show(Qj SV 3 d).get fr (some s) g=zs (some s) 12 fr d g;rw[V5]
def qbQ(E:XE)(n:Nat)(o:Oper)(rest:ChR):Bx ChR:=
 Bx.rec (fun u=>Bx.rec (fun q=>Bx.rec (fun p=>(match gE o.op with
  |true=>.mk fun run fr hp nid hs g=>ql (Nat.add nid n) fun id=>okK (q fr hp id fun xr=>YZ E run id xr hp okQ) fun s hp' nid'=>ql (Nat.succ nid') fun nid'=>p fr s fun fr=>rest run fr hp' nid' (hs++[hp']) g
  |false=>(match GT o.op with
   |true=>.mk fun run fr hp nid hs g=>okK (u fr (JD (zI fr o.op) hp)) fun s _ _=>p fr s fun fr=>rest run fr hp nid hs g
   |false=>.mk fun run fr hp nid hs g=>okK (u fr .nil) fun s _ _=>p fr s fun fr=>rest run fr hp nid hs g))) (JF o.dst)) (cOp E o.op)) (cPu E o.op)
def cCh(E:XE)(n:Nat)(ds:List (Option Tmp))(l:List Oper):Bx ChR:=
 List.rec (.mk fun _ fr hp nid hs g=>g fr hp nid hs) (fun o _ ih=>Bx.rec (fun rest=>Bx.rec (fun go=>(match o.guard with
  |none=>.mk go
  |some p=>.mk fun run fr hp nid hs g=>Option.rec (.bad 386 0) (fun sk=>Bool.rec (go run fr hp nid hs g) (putD o.dst undefSV fr fun fr=>Bool.rec (rest run fr hp nid hs g) (ql (Nat.add nid n) fun nid=>rest run fr hp nid (hs++[hp]) g) (gE o.op)) sk) (gdX ds (some p) fr))) (qbQ E n o rest)) ih) l
theorem qkM(E:XE)(n:Nat)(o:Oper)(rest:ChR)(run:XC)(fr:Tr 3 SV)(hp:Tr 6 XB)(nid:Nat)(hs:List (Tr 6 XB))(g:CK):(qbQ E n o rest).get run fr hp nid hs g=(Bool.rec (gH E o fr (JD (zI fr o.op) hp) fun s=>putD o.dst s fr fun fr=>rest run fr hp nid hs g)
        (ql (nid+n) fun id=>Kl E run id o fr hp fun s hp' nid'=>ql (Nat.succ nid') fun nid'=>putD o.dst s fr fun fr=>rest run fr hp' nid' (hs++[hp']) g) (gE o.op):R):=by
 have e1:∀(s:SV)(k:Tr 3 SV→R),(JF o.dst).get fr s k=putD o.dst s fr k:=fun s k=>qkL _ _ _ _;show Bx.get (match gE o.op with
  |true=>.mk fun run fr hp nid hs g=>ql (Nat.add nid n) fun id=>okK ((cOp E o.op).get fr hp id fun xr=>YZ E run id xr hp okQ) fun s hp' nid'=>ql (Nat.succ nid') fun nid'=>(JF o.dst).get fr s fun fr=>rest run fr hp' nid' (hs++[hp']) g
  |false=>(match GT o.op with
   |true=>.mk fun run fr hp nid hs g=>okK ((cPu E o.op).get fr (JD (zI fr o.op) hp)) fun s _ _=>(JF o.dst).get fr s fun fr=>rest run fr hp nid hs g
   |false=>.mk fun run fr hp nid hs g=>okK ((cPu E o.op).get fr .nil) fun s _ _=>(JF o.dst).get fr s fun fr=>rest run fr hp nid hs g)) run fr hp nid hs g=_
 cases gE o.op with
 |true=>
  show ql (Nat.add nid n) (fun id=>okK ((cOp E o.op).get fr hp id fun xr=>YZ E run id xr hp okQ) fun s hp' nid'=>ql (Nat.succ nid') fun nid'=>(JF o.dst).get fr s fun fr=>rest run fr hp' nid' (hs++[hp']) g)=ql (nid+n) _;rw[qi,qi,qiw]
  congr 1
  funext s hp' nid';rw[qi,qi,e1]
 |false=>
  cases hr:GT o.op with
  |true=>
   show okK ((cPu E o.op).get fr (JD (zI fr o.op) hp)) (fun s _ _=>(JF o.dst).get fr s fun fr=>rest run fr hp nid hs g)=_;rw[Vl];show gH _ _ _ _ _=gH _ _ _ _ _
   congr 1
   funext s;exact e1 _ _
  |false=>
   show okK ((cPu E o.op).get fr .nil) (fun s _ _=>(JF o.dst).get fr s fun fr=>rest run fr hp nid hs g)=_;rw[Vl];have:JD (zI fr o.op) hp=.nil:=by unfold zI;rw[hr];rfl
   show gH _ _ _ _ _=gH _ _ _ _ _;rw[this]
   congr 1
   funext s;exact e1 _ _
theorem qiz(E:XE)(n:Nat)(ds:List (Option Tmp))(run:XC):∀(l:List Oper)(fr:Tr 3 SV)(hp:Tr 6 XB)(nid:Nat)(hs:List (Tr 6 XB))(g:CK),(cCh E n ds l).get run fr hp nid hs g=gM E run n ds l fr hp nid hs g
 |[],fr,hp,nid,hs,g=>rfl
 |o :: l,fr,hp,nid,hs,g=>by
  have ih:=qiz E n ds run l;have ihf:(cCh E n ds l).get run=gM E run n ds l:=by funext fr hp nid hs g;exact ih fr hp nid hs g
  have go:=qkM E n o (cCh E n ds l).get run;show Bx.get (match o.guard with
   |none=>.mk (qbQ E n o (cCh E n ds l).get).get
   |some p=>.mk fun run fr hp nid hs g=>Option.rec (.bad 386 0) (fun sk=>Bool.rec ((qbQ E n o (cCh E n ds l).get).get run fr hp nid hs g) (putD o.dst undefSV fr fun fr=>Bool.rec ((cCh E n ds l).get run fr hp nid hs g) (ql (Nat.add nid n) fun nid=>(cCh E n ds l).get run fr hp nid (hs++[hp]) g) (gE o.op)) sk) (gdX ds (some p) fr)) run fr hp nid hs g=(match gdX ds o.guard fr with
   |some false=>Bool.rec (gH E o fr (JD (zI fr o.op) hp) fun s=>putD o.dst s fr fun fr=>gM E run n ds l fr hp nid hs g)
    (ql (nid+n) fun id=>Kl E run id o fr hp fun s hp' nid'=>ql (Nat.succ nid') fun nid'=>putD o.dst s fr fun fr=>gM E run n ds l fr hp' nid' (hs++[hp']) g) (gE o.op)
   |some true=>putD o.dst undefSV fr fun fr=>Bool.rec (gM E run n ds l fr hp nid hs g) (ql (nid+n) fun nid=>gM E run n ds l fr hp nid (hs++[hp]) g) (gE o.op)
   |none=>.bad 386 0)
  cases hg:o.guard with
  |none=>
   show(qbQ E n o (cCh E n ds l).get).get run fr hp nid hs g=_;rw[go,ihf];rfl
  |some p=>
   show(Option.rec (.bad 386 0) (fun sk=>Bool.rec ((qbQ E n o (cCh E n ds l).get).get run fr hp nid hs g) (putD o.dst undefSV fr fun fr=>Bool.rec ((cCh E n ds l).get run fr hp nid hs g) (ql (Nat.add nid n) fun nid=>(cCh E n ds l).get run fr hp nid (hs++[hp]) g) (gE o.op)) sk) (gdX ds (some p) fr):R)=_;cases gdX ds (some p) fr with
   |none=>rfl
   |some sk=>
    cases sk with
    |false=>
     show(qbQ E n o (cCh E n ds l).get).get run fr hp nid hs g=_;rw[go,ihf]
    |true=>
     rw[ihf];rfl
def cCk(l:List Oper)(E:XE)(ops:List Oper):Nat→Bx (Tr 3 SV→List (Tr 6 XB)→R→R):=
 List.rec (motive:=fun _=>Nat→Bx (Tr 3 SV→List (Tr 6 XB)→R→R)) (fun _=>.mk fun _ _ r=>r) (fun o _ ih i=>ql (Nat.succ i) fun i1=>Bx.rec (fun rest=>(match GT o.op with
  |true=>ql (loC l i) fun lo=>ql (hiC l i) fun hi=>ql (kc (efL l) i) fun tx=>(match Nat.beq lo tx&&Nat.beq hi tx with
   |true=>.mk rest
   |false=>.mk fun fr hs r=>Bool.rec (rest fr hs r) (Qr E fr o lo hi tx (rest fr hs r) hs 0) (zI fr o.op&&Ku (dsts l) o fr))
  |false=>.mk rest)) (ih i1)) ops
theorem Vm(E:XE)(fr:Tr 3 SV)(o:Oper)(t:Nat)(r:R):∀(hs:List (Tr 6 XB))(k:Nat),Qr E fr o t t t r hs k=r
 |[],k=>rfl
 |hp :: hs,k=>by
  show(Bool.rec (ql (Nat.succ k) fun k=>Qr E fr o t t t r hs k) (Wt E fr o hp (ql (Nat.succ k) fun k=>Qr E fr o t t t r hs k)) (Nat.ble t k&&(Nat.ble k t&&!(Nat.beq k t))):R)=r;have:(Nat.ble t k&&(Nat.ble k t&&!(Nat.beq k t)))=false:=by
   cases h1:Nat.ble t k with
   |false=>rfl
   |true=>
    cases h2:Nat.ble k t with
    |false=>rfl
    |true=>
     have:=xa7 h1;have:=xa7 h2;have:k=t:=by omega
     rw[this,Nat.beq_refl];rfl
  rw[this];show(ql (Nat.succ k) fun k=>Qr E fr o t t t r hs k)=r;rw[qi];exact Vm E fr o t r hs _
theorem qiA(E:XE)(l:List Oper)(fr:Tr 3 SV)(hs:List (Tr 6 XB))(r:R):∀(ops:List Oper)(i:Nat),(cCk l E ops i).get fr hs r=G7 E l fr hs r ops i
 |[],i=>rfl
 |o :: ops,i=>by
  have ih:=qiA E l fr hs r ops (Nat.succ i);show Bx.get (ql (Nat.succ i) fun i1=>Bx.rec (fun rest=>(match GT o.op with
   |true=>ql (loC l i) fun lo=>ql (hiC l i) fun hi=>ql (kc (efL l) i) fun tx=>(match Nat.beq lo tx&&Nat.beq hi tx with
    |true=>.mk rest
    |false=>.mk fun fr hs r=>Bool.rec (rest fr hs r) (Qr E fr o lo hi tx (rest fr hs r) hs 0) (zI fr o.op&&Ku (dsts l) o fr))
   |false=>.mk rest)) (cCk l E ops i1)) fr hs r=(Bool.rec (ql (Nat.succ i) fun i=>G7 E l fr hs r ops i) (ql (loC l i) fun lo=>ql (hiC l i) fun hi=>ql (kc (efL l) i) fun tx=>Qr E fr o lo hi tx (ql (Nat.succ i) fun i=>G7 E l fr hs r ops i) hs 0) (zI fr o.op&&Ku (dsts l) o fr):R)
  rw[qi];have e:(ql (Nat.succ i) fun i=>G7 E l fr hs r ops i)=(cCk l E ops (Nat.succ i)).get fr hs r:=by rw[qi,ih]
  rw[e];cases hr:GT o.op with
  |false=>
   have:(zI fr o.op&&Ku (dsts l) o fr)=false:=by unfold zI;rw[hr];rfl
   rw[this]
  |true=>
   show Bx.get (ql (loC l i) fun lo=>ql (hiC l i) fun hi=>ql (kc (efL l) i) fun tx=>(match Nat.beq lo tx&&Nat.beq hi tx with
    |true=>.mk (cCk l E ops (Nat.succ i)).get
    |false=>.mk fun fr hs r=>Bool.rec ((cCk l E ops (Nat.succ i)).get fr hs r) (Qr E fr o lo hi tx ((cCk l E ops (Nat.succ i)).get fr hs r) hs 0) (zI fr o.op&&Ku (dsts l) o fr))) fr hs r=_
   rw[qi,qi,qi,qi,qi,qi];cases h:(Nat.beq (loC l i) (kc (efL l) i)&&Nat.beq (hiC l i) (kc (efL l) i))with
   |false=>rfl
   |true=>
    rw[xe6]at h;rw[xa6 h.1,xa6 h.2,Vm];cases (zI fr o.op&&Ku (dsts l) o fr)<;>rfl
abbrev qiB:=XC→CX→Tr 3 SV→Tr 6 XB→Nat→XK→R
def qmM(E:XE)(L:FL)(id:Nat)(d:Bool)(ops:List Oper):Bx qiB:=
 match zQ L id with
 |[]=>Kj (kL d ops) fun j=>Bx.rec (fun q=>ql ops.length fun n=>.mk fun run cx fr hp nid f=>q run cx fr hp nid fun fr hp nid=>ql (Nat.add nid n) fun nid=>f .normal fr hp nid) (ZX E j (dsts ops) ops 0)
 |(2,2) :: _=>(match d,GU ops with
  |true,true=>ql ops.length fun n=>Bx.rec (fun q=>Bx.rec (fun ck=>.mk fun run cx fr hp nid f=>q run fr hp nid [hp] fun fr hp nid hs=>ck fr hs (ql (Nat.add nid n) fun nid=>f .normal fr hp nid)) (cCk ops E ops 0)) (cCh E n (dsts ops) ops)
  |_,_=>.mk fun run cx fr hp nid f=>qbM E run L cx id d ops fr hp nid f)
 |_=>.mk fun run cx fr hp nid f=>qbM E run L cx id d ops fr hp nid f
theorem qkN(E:XE)(L:FL)(id:Nat)(d:Bool)(ops:List Oper)(run:XC)(cx:CX)(fr:Tr 3 SV)(hp:Tr 6 XB)(nid:Nat)(f:XK):(qmM E L id d ops).get run cx fr hp nid f=qbM E run L cx id d ops fr hp nid f:=by
 unfold qmM;split
 ·rename_i h
  unfold qbM;rw[h,QZ];have e:(Bx.rec (fun q=>ql ops.length fun n=>.mk fun run cx fr hp nid f=>q run cx fr hp nid fun fr hp nid=>ql (Nat.add nid n) fun nid=>f .normal fr hp nid) (ZX E (kL d ops) (dsts ops) ops 0):Bx qiB)=.mk fun run cx fr hp nid f=>(ZX E (kL d ops) (dsts ops) ops 0).get run cx fr hp nid fun fr hp nid=>ql (Nat.add nid ops.length) fun nid=>f .normal fr hp nid:=by
   show(ql ops.length fun n=>_)=_;rw[qi];rfl
  rw[e];show(ZX E (kL d ops) (dsts ops) ops 0).get run cx fr hp nid (fun fr hp nid=>ql (Nat.add nid ops.length) fun nid=>f .normal fr hp nid)=Qq E run cx (kL d ops) (dsts ops) ops 0 fr hp nid (Km ops f);rw[qdB];rfl
 ·rename_i l h
  split
  ·rename_i hd hch
   unfold qbM;rw[h];show _=qk 361 true (qkv E run ops fr hp nid f);unfold qkv;rw[hch];show _=ql ops.length fun n=>gM E run n (dsts ops) ops fr hp nid [hp] fun fr hp nid hs=>G7 E ops fr hs (ql (nid+n) fun nid=>f .normal fr hp nid) ops 0;rw[qi,qi];show(cCh E ops.length (dsts ops) ops).get run fr hp nid [hp] (fun fr hp nid hs=>(cCk ops E ops 0).get fr hs (ql (Nat.add nid ops.length) fun nid=>f .normal fr hp nid))=_;rw[qiz]
   congr 1
   funext fr hp nid hs;exact qiA _ _ _ _ _ _ _
  ·rfl
 ·rfl
def qiC(run:XC)(L:FL)(cx:CX)(b:Code)(f:XK)(e:Ex)(fr:Tr 3 SV)(hp:Tr 6 XB)(nid:Nat):R:=Ex.rec (run L cx b fr hp nid f) (fun i=>f (.exit i) fr hp nid) (f .ret fr hp nid) e
theorem qdC(run:XC)(L:FL)(cx:CX)(b:Code)(f:XK):qiC run L cx b f=qfo run L cx b f:=by
 funext e fr hp nid;cases e<;>rfl
def qbR(id:Nat)(f:XK)(e:Ex)(fr:Tr 3 SV)(hp:Tr 6 XB)(nid:Nat):R:=Ex.rec (f .normal fr hp nid) (fun i=>Bool.rec (f (.exit i) fr hp nid) (f .normal fr hp nid) (Nat.beq i id)) (f .ret fr hp nid) e
theorem qft(id:Nat)(f:XK):qbR id f=qig id f:=by
 funext e fr hp nid;cases e<;>rfl
def qiD(v:SV)(a b:R):R:=qmF v (fun c=>Bool.rec b a c) (.bad 320 0)
theorem qiE(v:SV)(a b:R):qiD v a b=qih v a b:=by
 cases v<;>first|rfl|skip
 rename_i v;cases v<;>rfl
def qiF(E:XE)(L:FL)(c:Code):Bx qiB:=
 match c with
 |.skip=>.mk fun _ _ fr hp nid f=>f .normal fr hp nid
 |.seq a b=>.mk fun run cx fr hp nid f=>run L cx a fr hp nid (qiC run L cx b f)
 |.cond x a b=>Bx.rec (fun q=>.mk fun run cx fr hp nid f=>qiD (q fr) (run L cx a fr hp nid f) (run L cx b fr hp nid f)) (JE x)
 |.block id c=>.mk fun run cx fr hp nid f=>run L cx c fr hp nid (qbR id f)
 |.exit id=>.mk fun _ _ fr hp nid f=>f (.exit id) fr hp nid
 |.ret=>.mk fun _ _ fr hp nid f=>f .ret fr hp nid
 |.scope c=>.mk fun run cx fr hp nid f=>run L cx c fr hp nid f
 |.loop c=>.mk fun run cx fr hp nid f=>run L cx c fr hp nid (qiC run L cx (.loop c) f)
 |.region id ops d=>qmM E L id d ops.toList
 |c=>.mk fun run cx fr hp nid f=>Vk E run L cx c fr hp nid f
theorem qiG(E:XE)(run:XC)(L:FL)(cx:CX)(c:Code)(fr:Tr 3 SV)(hp:Tr 6 XB)(nid:Nat)(f:XK):(qiF E L c).get run cx fr hp nid f=Vk E run L cx c fr hp nid f:=by
 cases c<;>first|rfl|(unfold qiF Vk;dsimp only)
 case seq a b=>show run L cx a fr hp nid (qiC run L cx b f)=_;rw[qdC]
 case cond x a b=>
  show qiD ((JE x).get fr) _ _=_;rw[qiE,KH]
 case block id c=>show run L cx c fr hp nid (qbR id f)=_;rw[qft]
 case loop c=>show run L cx c fr hp nid (qiC run L cx (.loop c) f)=_;rw[qdC]
 case region id ops d=>exact qkN _ _ _ _ _ _ _ _ _ _ _
end
end Go.Sx
end
section
namespace Go.Sx
open Go.RowKit
noncomputable section
variable{ρ:Q}
def Ja(E:XE)(n:Nat):XC:=Nat.rec (motive:=fun _=>XC) (fun _ _ _ _ _ _ _=>.bad 322 0) (fun _ ih L cx c fr hp nid f=>Bx.rec (fun q=>q ih cx fr hp nid f) (qiF E L c)) n
theorem Vn(E:XE)(n:Nat):Ja E (n+1)=Vk E (Ja E n):=by
 funext L cx c fr hp nid f;exact qiG E (Ja E n) L cx c fr hp nid f
section
variable{P:Program}{E:XE}
theorem qiH{n:Nat}(ih:∀m,m≤n→vD P (Ja E m)){LM:Nat→Option Loop}{fs:List Fr}{lo:Nat}{rnd:Bool}{L:FL}{cx:CX}(hcx:qfk LM fs rnd cx){c:Code}{st:St}{fr:Tr 3 SV}{hp:Tr 6 XB}{nid:Nat}{f:XK}{K:Ex→St→Prop}(hs:StR LM fr hp nid st)(h:Ja E n L cx c fr hp nid (qfo (Ja E n) L cx (.loop c) f)=.ok ρ)
  (hk:∀e fr' hp' nid' st',StR LM fr' hp' nid' st'→f e fr' hp' nid'=.ok ρ→K e st'):vc P ⟨fs,lo,rnd,zQ L⟩ (.loop c) st K:=by
 refine .inl ⟨{p:Nat×St // p.1≤n∧∃fr hp nid,StR LM fr hp nid p.2∧Ja E p.1 L cx c fr hp nid (qfo (Ja E p.1) L cx (.loop c) f)=.ok ρ},fun x=>x.1.2,fun x=>x.1.1,⟨(n,st),xa5 n,fr,hp,nid,hs,h⟩,fun _ _ _ _ _ _ hi=>hi,?_⟩;rintro⟨⟨m,s⟩,hmn,fr,hp,nid,hs,h⟩;refine ih m hmn ρ LM _ _ _ _ _ c _ _ _ _ _ _ hcx hs h fun e fr' hp' nid' st' hs' h'=>?_;cases e with
 |exit i=>exact hk _ _ _ _ _ hs' h'
 |ret=>exact hk _ _ _ _ _ hs' h'
 |normal=>
  cases m with
  |zero=>cases h'
  |succ m=>
   have h':Ja E (m+1) L cx (.loop c) fr' hp' nid' f=.ok ρ:=h';rw[Vn]at h';exact⟨⟨(m,st'),Nat.le_of_succ_le hmn,fr',hp',nid',hs',h'⟩,xb5 m,fun _ _ _ _ _ _ hi=>hi⟩
theorem qkO(hm:P.follows .mixedOrders=true)(hE:XOk P E)(hf:ya P E)(n:Nat):vD P (Ja E n):=by
 induction n using Nat.strongRecOn with
 |_ n ih=>
  cases n with
  |zero=>exact fun _ _ _ _ _ _ _ _ _ _ _ _ _ _ _ _ h _=>by cases h
  |succ n=>
   rw[Vn];exact qik hm hE hf (ih n (xb5 n)) fun ρ LM fs lo rnd L cx c st fr hp nid f K hcx hs h hk=>qiH (fun m hmn=>ih m (Nat.lt_succ_of_le hmn)) hcx hs h hk
def qpa(E:XE)(rs:List ResultVar)(ok:Tr 6 XB→SV→R):XK
 |.exit _,_,_,_=>.bad 330 0
 |.normal,fr,hp,_=>Zk E fr hp rs fun m=>ok hp (oneSV m)
 |.ret,fr,hp,_=>Zk E fr hp rs fun m=>ok hp (oneSV m)
def Qu(_:Tr 6 XB)(s:SV):R:=
 match s with
 |.val (.bool b)=>Bool.rec (.bad 331 0) (.ok (.mk .top .nil 0)) b
 |_=>.bad 332 0
def jd(res:SV)(hp:Tr 6 XB)(s:SV):R:=Bool.rec (.bad 334 0) (.ok (.mk .top .nil 0)) (mtX hp 6 res s)
theorem qfu{s:SV}{hp:Tr 6 XB}(h:Qu hp s=.ok ρ):s=.val (.bool true):=by
 unfold Qu at h;split at h
 ·rename_i b
  cases b with
  |true=>rfl
  |false=>cases h
 ·cases h
def ve(E:XE)(n:Nat)(fn:Func)(L:FL)(args:List SV)(ok:Tr 6 XB→SV→R):R:=
 match fn.body with
 |some c=>YY args 0 .nil fun fr=>Ja E n L .top c fr .nil 0 (qpa E fn.results.toList ok)
 |none=>.bad 333 0
def kY:R→Bool
 |.ok _=>true
 |_=>false
theorem ws(hm:P.follows .mixedOrders=true)(hE:XOk P E)(hf:ya P E){g:Nat}{fn:Func}{L:FL}{c:Code}(hc:qkq P g fn L c){args:List SV}(hl:args.length≤fn.ntmps)(ho:OldL args){res:SV}{ok:Tr 6 XB→SV→R}(hok:∀hp s H,HRel (fun _=>none) hp H→ok hp s=.ok ρ→Sub H res s)(n:Nat)(h:ve E n fn L args ok=.ok ρ):qf P g args res:=by
 refine jo (zQ L) hc.at_ hc.body hc.name hm hc.ok args res hl ho ?_;unfold ve at h;rw[hc.body]at h;obtain⟨fr,h1,h2⟩:=Zj h;have key:∀(fr3:Tr 3 SV)(hp3:Tr 6 XB)(nid3:Nat)(st3:St),StR (fun _=>none) fr3 hp3 nid3 st3→Zk E fr3 hp3 fn.results.toList (fun m=>ok hp3 (oneSV m))=.ok ρ→retVC P fn.results.toList st3 res:=fun fr3 hp3 nid3 st3 h3 h=>by
  rw[Gs];exact Zl hE h3 h fun m h=>hok _ _ _ h3.2.1 h
 refine qkO hm hE hf n ρ (fun _=>none) _ _ _ L .top c _ fr .nil 0 _ _ rfl ⟨h1,fun id b hb=>(by rw[Q0]at hb;cases hb),rfl⟩ h2 fun e fr3 hp3 nid3 st3 h3 h=>?_;cases e with
 |exit i=>cases h
 |normal=>exact key _ _ _ _ h3 h
 |ret=>exact key _ _ _ _ h3 h
theorem qbS(hp:Tr 6 XB)(s:SV)(H:List (Nat×Blk))(_:HRel (fun _=>none) hp H)(h:Qu hp s=.ok ρ):Sub H (.val (.bool true)) s:=by
 rw[qfu h];rfl
theorem qfv{res:SV}(hp:Tr 6 XB)(s:SV)(H:List (Nat×Blk))(hH:HRel (fun _=>none) hp H)(h:jd res hp s=.ok ρ):Sub H res s:=by
 unfold jd at h;cases q:mtX hp 6 res s with
 |false=>rw[q]at h;cases h
 |true=>exact qbI hH 6 _ _ q
theorem Y8{r:R}(h:kY r=true):∃q,r=.ok q:=by
 unfold kY at h;split at h
 ·exact⟨_,rfl⟩
 ·cases h
end
end
end Go.Sx
end
section
namespace Go.Sx
open Go.RowKit
noncomputable section
variable{ρ:Q}
def okB (L : FL) (fn : Func) : Bool := !(fn.name == "runtime.NumGoroutine") && (match fn.body with | some c => qE (zQ L) fn.ntmps c | none => false)
theorem fnX{P:Program}{g:Nat}{fn:Func}{L:FL}(h:P.funcs[g]? = some fn)(ho:okB L fn=true):∃c,qkq P g fn L c:=by
 unfold okB at ho;simp only[xe6,Bool.not_eq_true']at ho;obtain⟨h1,h2⟩:=ho;cases hb:fn.body with
 |none=>rw[hb]at h2;cases h2
 |some c=>rw[hb]at h2;exact⟨c,⟨h,hb,h1,h2⟩⟩
abbrev FT:=List (Option FL)
def zV{α:Type}(l:List (Option α)):Nat→Option α:=List.rec (fun _=>none) (fun a _ ih i=>Nat.rec a (fun j _=>ih j) i) l
def qoa(fn:Option Func)(L:FL):Option (Func×FL):=Option.rec none (fun fn=>some (fn,L)) fn
def okT(P:Program)(l:FT):Nat→Bool:=List.rec (fun _=>true) (fun a _ ih i=>Bool.rec false (ql (Nat.succ i) fun i=>ih i) (Option.rec true (fun L=>Option.rec false (fun fn=>okB L fn) (P.funcs[i]?)) a)) l
theorem WB{P:Program}:∀{l:FT}{i j:Nat}{L:FL}{fn:Func},okT P l i=true→zV l j=some L→P.funcs[i+j]? = some fn→okB L fn=true
 |[],i,j,L,fn,h,hj,hf=>by cases hj
 |a :: l,i,j,L,fn,h,hj,hf=>by
  have h:(Bool.rec false (ql (Nat.succ i) fun i=>okT P l i) (Option.rec true (fun L=>Option.rec false (fun fn=>okB L fn) (P.funcs[i]?)) a):Bool)=true:=h;rw[qi]at h;cases q:(Option.rec true (fun L=>Option.rec false (fun fn=>okB L fn) (P.funcs[i]?)) a:Bool)with
  |false=>rw[q]at h;cases h
  |true=>
   rw[q]at h;cases j with
   |zero=>
    have hj:a=some L:=hj;subst hj;rw[xb1]at hf;rw[hf]at q;exact q
   |succ j=>exact WB (l:=l) (i:=i+1) (j:=j) h hj (by rw[show i+1+j=i+(j+1) by omega];exact hf)
def qmN(P:Program)(t:TypeId):Option (TypeId×Nat×List Value):=
 match qq P t with
 |some ⟨_,_,_,.slice e k⟩=>(match qq P e with
  |some ⟨_,_,some z,_⟩=>Bool.rec none (some (e,k,z)) (Nat.ble 1 k&&(Nat.beq z.length k&&Nat.ble (qP P e) 100000000))
  |_=>none)
 |_=>none
def qdD:List (Nat×Nat×Sh)→Nat→Option (Nat×Sh)
 |[],_=>none
 |(h,x) :: l,g=>Bool.rec (qdD l g) (some x) (Nat.beq g h)
def qiI(P:Program):List (Nat×Nat×Sh)→Prop
 |[]=>True
 |(h,n,i) :: l=>Z8 P h n i∧qiI P l
theorem Y9{P:Program}:∀{pl:List (Nat×Nat×Sh)},qiI P pl→∀g n i,qdD pl g=some (n,i)→Z8 P g n i
 |[],_,g,n,i,h=>by cases h
 |(h0,n0,i0) :: l,hp,g,n,i,h=>by
  have h:(Bool.rec (qdD l g) (some (n0,i0)) (Nat.beq g h0):Option (Nat×Sh))=some (n,i):=h;cases e:Nat.beq g h0 with
  |true=>rw[e]at h;have h:=Option.some.inj h;cases h;rw[xa6 e];exact hp.1
  |false=>rw[e]at h;exact Y9 hp.2 g n i h
theorem KI{P:Program}{g:Nat}(h:∀v:Value,qf P g [.val v] (.val v)):Z8 P g 1 (.one 0):=by
 refine⟨(h undef).1,fun w vs hv _=>?_⟩;refine((h (vs.getD 0 undef)).2 (fun _=>True) w vs hv fun i sv hi=>?_).mono fun e w'=>?_
 ·cases i with
  |zero=>simp only[xd6,Option.some.injEq]at hi;subst hi;exact .val _
  |succ i=>simp at hi
 ·rintro⟨v,rfl,hb,hr⟩
  cases hr;exact⟨rfl,hb⟩
theorem qkP {P : Program} {g n : Nat} {l : List Nat} (hf : ∃ fn, P.funcs[g]? = some fn ∧ (fn.name == "runtime.NumGoroutine") = false ∧ fn.body.isSome = true) (h : ∀ vs : Array Value, n = vs.size → (∀ i, i ∈ l → (vs.getD i undef).oneCell' = true) → qf P g (vs.toList.map .val) (.agg (l.map fun i => .val (vs.getD i undef)))) : Z8 P g n (.ag l) := by
 refine⟨hf,fun w vs hv ho=>?_⟩;refine((h vs hv ho).2 (fun _=>True) w vs Ωh fun i sv hi=>?_).mono fun e w'=>?_
 ·rw[List.getElem?_map,xf6]at hi
  cases e:vs[i]? with
  |none=>rw[e]at hi;cases hi
  |some v=>
   rw[e]at hi;cases hi;rw[xf5,e];exact .val _
 ·rintro⟨v,rfl,hb,hr⟩
  cases hr with
  |agg _ cs hl hr=>
  refine⟨?_,hb⟩
  congr 1
  unfold Sh.val
  congr 1
  refine Array.ext (by simpa using hl.symm) fun i h1 h2=>?_;have h3:i<l.length:=by simpa using h2
  have hi:=hr i (.val (vs.getD l[i] undef)) (by rw[List.getElem?_map,xc7 h3];rfl);have e:cs.getD i undef=cs[i]:=by rw[xf5,Array.getElem?_eq_getElem h1];rfl
  rw[e]at hi;have e2:(l.map fun i=>vs.getD i undef).toArray[i]=vs.getD l[i] undef:=by simp
  rw[e2];generalize cs[i]=z at hi;cases hi;rfl
structure XP:Type where
 fl:FT
 pl:List (Nat×Nat×Sh)
 ol:List (Nat×(List SV→Tr 6 XB→Nat→(SV→Tr 6 XB→Nat→R)→R))
 cl:List (Nat×List SV×SV)
 nl:List (Nat×List SV×(TypeId×Nat×Nat×List SV×SV))
def qdE:List (Nat×(List SV→Tr 6 XB→Nat→(SV→Tr 6 XB→Nat→R)→R))→Nat→Option (List SV→Tr 6 XB→Nat→(SV→Tr 6 XB→Nat→R)→R)
 |[],_=>none
 |(h,f) :: l,g=>Bool.rec (qdE l g) (some f) (Nat.beq g h)
def Vo:List (Nat×List SV×SV)→Nat→List (List SV×SV)
 |[],_=>[]
 |(h,x) :: l,g=>Bool.rec (Vo l g) (x :: Vo l g) (Nat.beq g h)
def Vp:List (Nat×List SV×(TypeId×Nat×Nat×List SV×SV))→Nat→List (List SV×(TypeId×Nat×Nat×List SV×SV))
 |[],_=>[]
 |(h,x) :: l,g=>Bool.rec (Vp l g) (x :: Vp l g) (Nat.beq g h)
def qbT(P:Program):List (Nat×List SV×(TypeId×Nat×Nat×List SV×SV))→Prop
 |[]=>True
 |(h,qq_,t,k,n,m,s) :: l=>qhn P h qq_ t k n m s∧qbT P l
def qbU(P:Program):List (Nat×(List SV→Tr 6 XB→Nat→(SV→Tr 6 XB→Nat→R)→R))→Prop
 |[]=>True
 |(h,f) :: l=>Kk P h f∧qbU P l
def qbV(P:Program):List (Nat×List SV×SV)→Prop
 |[]=>True
 |(h,qq_,s) :: l=>qf P h qq_ s∧qbV P l
theorem qaa{P:Program}:∀{l:List (Nat×(List SV→Tr 6 XB→Nat→(SV→Tr 6 XB→Nat→R)→R))},qbU P l→∀g f,qdE l g=some f→Kk P g f
 |[],_,g,f,h=>by cases h
 |(h0,f0) :: l,hp,g,f,h=>by
  have h:(Bool.rec (qdE l g) (some f0) (Nat.beq g h0):Option _)=some f:=h;cases e:Nat.beq g h0 with
  |true=>rw[e]at h;have h:=Option.some.inj h;cases h;rw[xa6 e];exact hp.1
  |false=>rw[e]at h;exact qaa hp.2 g f h
theorem Jb{P:Program}:∀{l:List (Nat×List SV×SV)},qbV P l→∀g qq_ s,(qq_,s)∈Vo l g→qf P g qq_ s
 |[],_,g,qq_,s,h=>by cases h
 |(h0,as0,s0) :: l,hp,g,qq_,s,h=>by
  have h:(qq_,s)∈(Bool.rec (Vo l g) ((as0,s0) :: Vo l g) (Nat.beq g h0):List (List SV×SV)):=h;cases e:Nat.beq g h0 with
  |true=>
   rw[e]at h;rcases List.mem_cons.1 h with h|h
   ·cases h;rw[xa6 e];exact hp.1
   ·exact Jb hp.2 g qq_ s h
  |false=>rw[e]at h;exact Jb hp.2 g qq_ s h
theorem Jc{P:Program}:∀{l:List (Nat×List SV×(TypeId×Nat×Nat×List SV×SV))},qbT P l→∀g qq_ t k n m s,(qq_,(t,k,n,m,s))∈Vp l g→qhn P g qq_ t k n m s
 |[],_,g,qq_,t,k,n,m,s,h=>by cases h
 |(h0,as0,t0,k0,n0,m0,s0) :: l,hp,g,qq_,t,k,n,m,s,h=>by
  have h:(qq_,(t,k,n,m,s))∈(Bool.rec (Vp l g) ((as0,(t0,k0,n0,m0,s0)) :: Vp l g) (Nat.beq g h0):List (List SV×(TypeId×Nat×Nat×List SV×SV))):=h;cases e:Nat.beq g h0 with
  |true=>
   rw[e]at h;rcases List.mem_cons.1 h with h|h
   ·cases h;rw[xa6 e];exact hp.1
   ·exact Jc hp.2 g qq_ t k n m s h
  |false=>rw[e]at h;exact Jc hp.2 g qq_ t k n m s h
def qiJ(P:Program)(t:TypeId):Bool:=
 match P.underlying t with
 |some .string=>true
 |_=>false
theorem qiK(P:Program)(t:TypeId)(h:qiJ P t=true):P.underlying t=some .string:=by
 unfold qiJ at h;split at h
 ·rename_i e;exact e
 ·cases h
def vf(P:Program)(X:XP):XE:=⟨fun g=>Option.rec none (fun L=>qoa P.funcs[g]? L) (zV X.fl g),qq P,za P,gm P,qmN P,qI P,qdD X.pl,qiJ P,qdE X.ol,Vo X.cl,Vp X.nl⟩
structure qiL(P:Program)(X:XP):Prop where
 fl:okT P X.fl 0=true
 pl:qiI P X.pl
 ol:qbU P X.ol
 cl:qbV P X.cl
 nl:qbT P X.nl
theorem qab(P:Program)(X:XP)(hk:okT P X.fl 0=true):ya P (vf P X):=fun g fn L h=>by
 have h:(Option.rec none (fun L=>qoa P.funcs[g]? L) (zV X.fl g):Option (Func×FL))=some (fn,L):=h;cases e:zV X.fl g with
 |none=>rw[e]at h;cases h
 |some L0=>
  rw[e]at h;cases hf:P.funcs[g]? with
  |none=>rw[hf]at h;cases h
  |some f=>
   rw[hf]at h;have h:some (f,L0)=some (fn,L):=h;cases h;exact fnX hf (WB hk e (by rw[xb0];exact hf))
theorem qdF(P:Program)(X:XP)(hX:qiL P X):XOk P (vf P X):=⟨fun _ _ h=>h,fun _ _ h=>h,fun _ _ h=>h,Y9 hX.pl,qiK P,qaa hX.ol,Jb hX.cl,Jc hX.nl,fun _ _ h=>h,fun t e k z h=>by
 have h:qmN P t=some (e,k,z):=h;unfold qmN at h;split at h
 ·rename_i h1
  split at h
  ·rename_i h2
   generalize hb:(Nat.ble 1 _&&(Nat.beq _ _&&Nat.ble _ 100000000))=b at h;cases b with
   |false=>cases h
   |true=>
    have h:=Option.some.inj h;simp only[Prod.mk.injEq]at h;obtain⟨rfl,rfl,rfl⟩:=h;simp only[xe6]at hb;exact⟨⟨_,_,_,h1⟩,⟨_,_,_,h2⟩,xa7 hb.1,xa6 hb.2.1,xa7 hb.2.2⟩
  ·cases h
 ·cases h⟩
theorem yc{P:Program}(hm:P.follows .mixedOrders=true){X:XP}(hX:qiL P X){g:Nat}{fn:Func}{L:FL}(hg:P.funcs[g]? = some fn)(hL:zV X.fl g=some L)(n:Nat)(h:kY (ve (vf P X) n fn L [] Qu)=true):qf P g [] (.val (.bool true)):=by
 obtain⟨c,hc⟩:=fnX hg (WB hX.fl hL (by rw[xb0];exact hg));obtain⟨q,h⟩:=Y8 h;exact ws hm (qdF P X hX) (qab P X hX.fl) hc (xb6 _) (args:=[]) trivial qbS n h
theorem qT{P:Program}(hm:P.follows .mixedOrders=true){X:XP}(hX:qiL P X){g:Nat}{fn:Func}{L:FL}(hg:P.funcs[g]? = some fn)(hL:zV X.fl g=some L)(n:Nat){args:List SV}(hl:args.length≤fn.ntmps)(ho:OldL args){res:SV}(h:kY (ve (vf P X) n fn L args (jd res))=true):qf P g args res:=by
 obtain⟨c,hc⟩:=fnX hg (WB hX.fl hL (by rw[xb0];exact hg));obtain⟨q,h⟩:=Y8 h;exact ws hm (qdF P X hX) (qab P X hX.fl) hc hl ho qfv n h
end
end Go.Sx
end
section
namespace Go.Sx
open Go.RowKit
noncomputable section
def Zr(t:Tr 4 Nat)(l:List Nat):Nat:=List.rec (motive:=fun _=>Nat→Nat) (fun m=>m) (fun a _ ih m=>Option.rec 0 (fun x=>Nat.rec 0 (fun y _=>ql (Nat.max m (Nat.succ x)) fun m=>ih m) x) (t.find a)) l 1
def WC(l:List (List Nat)):Nat→Tr 4 Nat→(Tr 4 Nat→Nat→R)→Nat→R:=List.rec (motive:=fun _=>Nat→Tr 4 Nat→(Tr 4 Nat→Nat→R)→Nat→R) (fun _ t f c=>f t c) (fun a _ ih i t f c=>ql (Nat.succ i) fun i1=>Option.rec (.bad 452 0) (fun x=>Nat.rec (ql (Zr t a) fun m=>Nat.rec (ih i1 t f c) (fun _ _=>ql (Nat.succ c) fun c=>zs (some m) 22 t i fun t=>ih i1 t f c) m) (fun _ _=>ih i1 t f c) x) (t.find i)) l
def qmO(l:List (List Nat))(n:Nat):Tr 4 Nat→(Tr 4 Nat→R)→R:=Nat.rec (motive:=fun _=>Tr 4 Nat→(Tr 4 Nat→R)→R) (fun _ _=>.bad 453 0) (fun _ ih t f=>WC l 0 t (fun t c=>Nat.rec (f t) (fun _ _=>ih t f) c) 0) n
def qbW(l:List (List Nat)):Nat→Tr 4 Nat→(Tr 4 Nat→R)→R:=List.rec (motive:=fun _=>Nat→Tr 4 Nat→(Tr 4 Nat→R)→R) (fun _ t f=>f t) (fun _ _ ih i t f=>zs (some 0) 22 t i fun t=>ql (Nat.succ i) fun i=>ih i t f) l
def qfw(x:Nat):SV:=Nat.rec (.val (.int .i64 (.negSucc 0))) (fun y _=>.val (.int .i64 (.ofNat y))) x
def qdG(t:Tr 4 Nat)(l:List (List Nat)):Nat→(List SV→R)→R:=List.rec (motive:=fun _=>Nat→(List SV→R)→R) (fun _ f=>f []) (fun _ _ ih i f=>ql (Nat.succ i) fun i1=>Option.rec (.bad 454 0) (fun x=>ql x fun x=>ih i1 fun m=>f (qfw x :: m)) (t.find i)) l
def qfx(k:Value):Nat:=match k with
 |.agg c=>(match c.toList with
  |[_,_,_,_,_,.int _ (.ofNat n)]=>n
  |_=>0)
 |_=>0
def qdH(t:Tr 4 Nat)(es:List (Value×Option SV))(f:List (Value×Option SV)→R):R:=(List.rec (motive:=fun _=>(List (Value×Option SV)→R)→R) (fun f=>f []) (fun p _ ih f=>ql (qfx p.1) fun i=>Option.rec (.bad 455 0) (fun x=>Nat.rec (ih fun l=>f (p :: l)) (fun _ _=>ih f) x) (t.find i)) es) f
end
end Go.Sx
end
section
namespace Go.Sx
theorem ZY{hp:List (Nat×Blk)}{m:Nat→Option Nat}{nn:Nat}{sl:Nat→Bool}:∀{l:List SV},(∀(i:Nat) sv,l[i]? = some sv→Wk hp m nn sl sv sv)→WkL hp m nn sl l l
 |[],_=>by simp[WkL]
 |a :: l,h=>by
  unfold WkL;exact⟨h 0 a rfl,ZY fun i sv e=>h (i+1) sv e⟩
theorem vE{hp:List (Nat×Blk)}{m:Nat→Option Nat}{nn n0:Nat}{sl:Nat→Bool}(hm:∀i,i<n0→m i=some i)(hn:n0≤nn){r:Nat→Option Nat}{G:Bool→Nat→Prop}{w:World}{sv:SV}{v:Value}(h:Rep r (· < n0) G w sv v):Wk hp m nn sl sv sv:=by
 have key:∀id,id<n0→id<nn∧m id=some id:=fun id h=>⟨xa9 h hn,hm id h⟩
 induction h with
 |top v=>simp[Wk]
 |val v=>simp[Wk]
 |agg l cs hl h ih=>unfold Wk;exact ZY ih
 |tup l cs hl h ih=>unfold Wk;exact ZY ih
 |fn f l k cs ds hl hm' h h' ih ih'=>unfold Wk;exact⟨rfl,ZY ih,ZY ih'⟩
 |ptr id off b hN hr=>unfold Wk;exact⟨(key id hN).1,(key id hN).2,rfl⟩
 |elt id k i j b hN hr=>unfold Wk;exact⟨(key id hN).1,(key id hN).2,rfl,rfl,rfl⟩
 |ref o n row b off f hG hc h ih=>unfold Wk;exact⟨fun h=>h,xa5 _,ih⟩
 |arrNil o full k row a cap hf=>unfold Wk;exact⟨fun h=>h,fun h=>h,rfl,rfl,fun i j hi=>by omega⟩
 |arr o full n k row b off cap f hG hf hcap hc h ih=>unfold Wk;exact⟨fun h=>h,fun h=>h,rfl,rfl,ih⟩
 |vecNil id k hN hr=>unfold Wk;exact⟨(key id hN).1,(key id hN).2,rfl,rfl⟩
 |vec id n k b cap cs t hN hr=>unfold Wk;exact⟨(key id hN).1,(key id hN).2,rfl,rfl⟩
 |mp id b hN hr=>unfold Wk;exact key id hN
 |asl id off n k b cap hN hr hcap=>unfold Wk;exact⟨(key id hN).1,(key id hN).2,rfl,rfl,rfl⟩
 |queNil id off k a hN=>unfold Wk;exact⟨(key id hN).1,(key id hN).2,rfl,rfl,rfl⟩
 |que id off n k b cap cs t hN hr=>unfold Wk;exact⟨(key id hN).1,(key id hN).2,rfl,rfl,rfl⟩
 |cutNil id k hN hr=>unfold Wk;exact⟨(key id hN).1,(key id hN).2,rfl,rfl⟩
 |cut id n k b hN hr=>unfold Wk;exact⟨(key id hN).1,(key id hN).2,rfl,rfl⟩
 |cmp o fit dom get b es clock hG hb hmo h ih=>
  unfold Wk;refine⟨fun h=>h,rfl,rfl,fun k hk=>?_⟩;obtain⟨e,he,rfl⟩:=hmo.has k hk;exact ih e he
 |yld id b hN hr=>unfold Wk;exact key id hN
theorem qbX{hp:List (Nat×Blk)}{m:Nat→Option Nat}{nn n0:Nat}{sl:Nat→Bool}(hm:∀i,i<n0→m i=some i)(hn:n0≤nn){r:Nat→Option Nat}{G:Bool→Nat→Prop}{w:World}{ob:Option Nat}{x:Blk}(h:BlkRep r (· < n0) G w ob x):WkB hp m nn sl x x:=by
 cases h with
 |cells t l b cs hb hl h=>exact⟨rfl,ZY fun i sv e=>vE hm hn (h i sv e)⟩
 |none t k row=>exact⟨rfl,rfl,xa5 _,fun i j hi=>by omega⟩
 |rows t k n row b cs hb hl h=>exact⟨rfl,rfl,xa5 _,fun i j hi hj=>vE hm hn (h i j hi hj)⟩
 |map fit dom get b es clock hb hmo ht h=>
  refine⟨rfl,rfl,fun k hk=>?_⟩;obtain⟨e,he,rfl⟩:=hmo.has k hk;exact vE hm hn (h e he)
 |mapS fit dom get stamp b es clock hb hmo ht hst h=>
  refine⟨rfl,rfl,rfl,rfl,fun k hk=>?_⟩;obtain⟨e,he,rfl⟩:=hmo.has k hk;exact vE hm hn (h e he)
 |iter mid since seen last b m' hN hr hb=>exact⟨xa9 hN hn,hm _ hN,rfl,rfl,rfl⟩
 |loop L s b hb=>exact⟨rfl,rfl⟩
theorem Jd{P:Program}{O:Ctx}{f:FuncId}{args:List SV}{st:St}{K0 K:St→SV→Prop}(h:kT P O f args st K0)
  (hk:∀st' sv,(∀hp bid n,st.nid≤n→∀id y,blk st.hp id=some y→WkB hp (ren [(st.nid,some bid)]) n (fun _=>false) y y)→K0 st' sv→
   ∃bid hp2 sv2 n,st'.fr=st.fr∧st.nid≤bid∧(∀id x,blk hp2 id=some x→((id<st.nid∧blk st'.hp id=some x)∨(id=st.nid∧blk st'.hp bid=some x∧st.nid+1≤n))∧WkB st'.hp (ren [(st.nid,some bid)]) n (fun _=>false) x x)∧
    Wk st'.hp (ren [(st.nid,some bid)]) n (fun _=>false) sv2 sv∧st.nid≤n∧K ⟨st.fr,hp2,n⟩ sv2):kT P O f args st K:=fun base okc ns r outs a w vs h1 h2 h3=>by
 obtain⟨e1,e2⟩:=h base okc ns r outs a w vs h1 h2 h3;have rn:∀(bid i:Nat),i<st.nid→ren [(st.nid,some bid)] i=some i:=fun bid i hi=>by simp only[ren];rw[if_neg Ω]
 refine⟨e1,e2.mono fun e w' ⟨v,st',r',res,g1,g2,g3,g4,g5⟩=>?_⟩;obtain⟨bid,hp2,sv2,n,k1,k2,k3,k6,k7,k8⟩:=hk _ _ (fun hp bid n hn id y hy=>qbX (rn bid) hn (h1.sat.rep id y hy (h1.keys id y hy))) g2;have rn:=rn bid;have rn0:ren [(st.nid,some bid)] st.nid=some bid:=by simp[ren]
 have W:=Yl (st':=⟨st.fr,hp2,n⟩) (ren [(st.nid,some bid)]) (fun _=>false) (fun i=>by rw[k1];exact vE rn k7 (h1.fr i)) (fun id x hx=>by
  obtain⟨⟨hlt,hx⟩|⟨rfl,hx,hn⟩,hw⟩:=k3 id x hx
  ·rw[rn id hlt]
   refine⟨(by show id<n;omega),rfl,?_⟩;rw[hx];exact hw
  ·rw[rn0]
   refine⟨(by show st.nid<n;omega),rfl,?_⟩;rw[hx];exact hw) (fun id x id' x' y hx hx' hy hy'=>by
  obtain⟨⟨hlt,hx⟩|⟨rfl,hx,hn⟩,hw⟩:=k3 id x hx<;>obtain⟨⟨hlt',hx'⟩|⟨rfl,hx',hn'⟩,hw'⟩:=k3 id' x' hx'
  ·rw[rn id hlt]at hy;rw[rn id' hlt']at hy';cases hy;cases hy';rfl
  ·rw[rn0]at hy';rw[rn id hlt]at hy;cases hy;cases hy';omega
  ·rw[rn0]at hy;rw[rn id' hlt']at hy';cases hy;cases hy';omega
  ·rfl) (xc1 h1.lo k7) (fun id hid=>rn id (xa9 hid h1.lo)) g4
 exact⟨v,_,_,sv2,g1,k8,k7,W.1,W.2 _ _ _ k6 g5⟩
end Go.Sx
end
