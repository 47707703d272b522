/- A part of the proof. -/
import Derived.Test.YtacejomniokahaaGreatPX
open Nat renaming reduceEqDiff→xa2,le_refl→xa5,zero_add→xb0,zero_le→xb6,sub_self→xb8,le_of_lt→xb9
open List renaming getD_eq_getElem?_getD→xc6,getElem?_eq_getElem→xc7,mem_cons_self→xd5
open Go.Sx.SV renaming val→Ψ
open Go.Value renaming int→Φ
open Go.IntKind renaming i64→Γ
set_option linter.unusedVariables false
set_option linter.unusedSimpArgs false
set_option linter.defProp false
set_option maxRecDepth 1000000
set_option maxHeartbeats 16000000
section
namespace Go.Tn
open Go.Proofs
open Go.Sx
variable{hp:List (Nat×Blk)}{row:Nat→Nat→SV}
def cn3(K:Nat)(x y z:Nat→Nat):SV:=.arr false false K 3 (λi j=>[SV.val (.int .u8 (x i:Nat)),.val (.int .u8 (y i:Nat)),.val (.int .u8 (z i:Nat))].getD j .top)
theorem qny(K:Nat)(x y z:Nat→Nat):Old (cn3 K x y z):=by
 simp only[cn3,Old,true_and];intro i j hi hj;rcases(Ω:j=0∨j=1∨j=2)with rfl|rfl|rfl<;>simp[Old]
theorem qkW{h:Ha}{id:Nat}(hb:blk hp id=some (.rows 101 4 h.k row))(hr:∀j,j<h.k→∀a,a<4→row j a=(ctL h j).getD a .top):Go.Sx.Sub hp (haS h) (.agg [Ψ (Φ Γ (h.w:Nat)),Ψ (Φ Γ h.m),.vec id h.k 4]):=by
 unfold haS ctR;refine⟨rfl,rfl,?_,rfl⟩;simp only[Go.Sx.Sub,hb];refine⟨trivial,trivial,trivial,xa5 _,trivial,λi j hi hj=>?_⟩;rw[hr i hi j hj];exact qr _ (by unfold ctL;exact qpo (P:=Old) ΩE ΩE ΩE ΩE j hj)
def bkC(n:Int)(nb:Nat)(f g q:Nat→Int)(fav:Bool)(c d st:Int):List SV:=[Ψ (Φ Γ 0),Ψ (Φ Γ n),.arr false false nb 3 (λi j=>[Ψ (Φ Γ (f i)),Ψ (Φ Γ (g i)),Ψ (Φ Γ (q i))].getD j .top),.val (.slice none 0 0),.val (.bool fav),Ψ (Φ Γ c),Ψ (Φ Γ d),Ψ (Φ Γ st)]
def rw3(nx:Nat)(fx qx:Nat→Int)(row:Nat→Nat→SV):Prop:=∀i,i<nx→∀j,j<3→row i j=[Ψ (Φ Γ (fx i)),Ψ (Φ Γ (-1)),Ψ (Φ Γ (qx i))].getD j .top
theorem qkX{nx:Nat}{fx qx:Nat→Int}{a b:Int}(h:rw3 nx fx qx row):rw3 (nx+1) (vP fx nx a) (vP qx nx b) (λi j=>if i<nx then row i j else [Ψ (Φ Γ a),Ψ (Φ Γ (-1)),Ψ (Φ Γ b)].getD ((i - nx)*3+j) .top):=by
 intro i hi j hj;unfold vP;dsimp only;by_cases e:i<nx
 ·rw[if_pos e,if_pos e,if_pos e];exact h i e j hj
 ·obtain rfl:i=nx:=by omega
  rw[if_neg e,if_neg e,if_neg e,xb8,Nat.zero_mul,xb0]
theorem qff{n nx id:Nat}{fx qx:Nat→Int}{c d st:Int}(hb:blk hp id=some (.rows 51 3 nx row))(h:rw3 nx fx qx row):Go.Sx.Sub hp (bkS n nx fx (λ_=>-1) qx false c d st) (.agg [Ψ (Φ Γ 0),Ψ (Φ Γ (n:Nat)),.vec id nx 3,.val (.slice none 0 0),.val (.bool false),Ψ (Φ Γ c),Ψ (Φ Γ d),Ψ (Φ Γ st)]):=by
 unfold bkS za;refine⟨rfl,rfl,?_,rfl,rfl,rfl,rfl,rfl,rfl⟩;simp only[Go.Sx.Sub,hb];refine⟨trivial,trivial,trivial,xa5 _,trivial,λi j hi hj=>?_⟩;rw[h i hi j hj];exact qna (f:=fx) (g:=λ_=>-1) (q:=qx) i j hi hj
theorem qnz{K:Nat}{a b c:Nat→Int}:Go.Sx.Sub hp (dvA K a b c) (.arr true false K 3 (λi j=>[Ψ (Φ Γ (a i)),Ψ (Φ Γ (b i)),Ψ (Φ Γ (c i))].getD j .top)):=by
 unfold dvA;simp only[Go.Sx.Sub];refine⟨λh=>(by cases h),λh=>h,trivial,trivial,λi j hi hj=>?_⟩;rcases(Ω:j=0∨j=1∨j=2)with rfl|rfl|rfl<;>rfl
def W6(b:Bool)(G:List (List Nat)):SV:=.arr b false G.length 1 (λi _=>.arr b false (G.getD i []).length 1 (λj _=>Ψ (Φ Γ ((G.getD i []).getD j 0:Nat))))
theorem W7{G:List (List Nat)}:Go.Sx.Sub hp (W6 false G) (W6 true G):=by
 simp[W6,Go.Sx.Sub]
theorem Kb{G:List (List Nat)}:Fresh (W6 true G):=by
 simp[W6,Fresh]
theorem c8(k n:Int)(nb:Nat)(f g q:Nat→Int)(ns:Nat)(s:Nat→Int)(fav:Bool)(c d st:Int)(K:Nat)(x y z:Nat→Nat)(v:Nat×(Nat→Nat))(hx:∀i,i<K→x i<256∧y i<256∧z i<256)(hv:∀i,i<v.1→v.2 i<256):qf Tryz.prog 8 [gbk k n nb f g q ns s fav c d st,cn3 K x y z,.arr false false v.1 1 (λi _=>.val (.int .u8 (v.2 i:Nat)))] (B true):=by
 have h43:=c43;refine kP (qV [(5,[(56,8)])]) Tryz.func8 rfl Ωb follows Ωb _ _ (by rw[Tryz.ntmps8];simp) (by simp only[OldL,and_true];exact⟨qmZ _ _ _ _ _ _ _ _ _ _ _ _,qny _ _ _ _,by simp[Old]⟩) ?_;have NB:True:=trivial;unfold B
 conv=>arg 4;unfold gbk za cn3
 have bksub:∀{hp:List (Nat×Blk)},Go.Sx.Sub hp (bkS n nb f g q fav c d st) (.agg (bkC n nb f g q fav c d st)):=λ{hp}=>qr _ (jf n nb f g q fav c d st);by_cases hnb:110<nb
 ·have d1:=decide_eq_true (Ω:(110:Int)<(nb:Nat))
  (repeat' first|refine sD ?_ ?_<;>intro _|refine aAh ?_|simp -dsimp only[↓RP,RQ,seval,d1,bkC,TYz,TYx,↓RW,NB,QÁ]);refine qk h43 ΩX ΩC ?_;repeat' first|refine sD ?_ ?_<;>intro _|refine aAh ?_|simp -dsimp only[↓RP,RQ,seval,QÁ,bkC,TYz,TYx,↓RW,NB]
 have d1:=decide_eq_false (Ω:¬(110:Int)<(nb:Nat));by_cases hv1:20<v.1
 ·have d2:=decide_eq_true (Ω:(20:Int)<(v.1:Nat))
  (repeat' first|refine sD ?_ ?_<;>intro _|refine aAh ?_|simp -dsimp only[↓RP,RQ,seval,d1,d2,bkC,TYz,TYx,↓RW,NB,QÁ]);refine qk h43 ΩX ΩC ?_;repeat' first|refine sD ?_ ?_<;>intro _|refine aAh ?_|simp -dsimp only[↓RP,RQ,seval,QÁ,bkC,TYz,TYx,↓RW,NB]
 have d2:=decide_eq_false (Ω:¬(20:Int)<(v.1:Nat));by_cases hK:10<K
 ·have d3:=decide_eq_true (Ω:(10:Int)<(K:Nat))
  (repeat' first|refine sD ?_ ?_<;>intro _|refine aAh ?_|simp -dsimp only[↓RP,RQ,seval,d1,d2,d3,bkC,TYz,TYx,↓RW,NB,QÁ]);refine qk h43 ΩX ΩC ?_;repeat' first|refine sD ?_ ?_<;>intro _|refine aAh ?_|simp -dsimp only[↓RP,RQ,seval,QÁ,bkC,TYz,TYx,↓RW,NB]
 have d3:=decide_eq_false (Ω:¬(10:Int)<(K:Nat));have h25:=c25 n nb f g q fav c d st Ω;by_cases he:ckB n nb f g q c d st=0
 case neg=>
  have d4:=decide_eq_false he;(repeat' first|refine sD ?_ ?_<;>intro _|refine aAh ?_|simp -dsimp only[↓RP,RQ,seval,d1,d2,d3,bkC,TYz,TYx,↓RW,NB,QÁ]);refine qk h25 (by simp only[SubL,and_true];exact bksub) Ωae ?_;(repeat' first|refine sD ?_ ?_<;>intro _|refine aAh ?_|simp -dsimp only[↓RP,RQ,seval,QÁ,d4,bkC,TYz,TYx,↓RW,NB]);refine qk h43 ΩX ΩC ?_;repeat' first|refine sD ?_ ?_<;>intro _|refine aAh ?_|simp -dsimp only[↓RP,RQ,seval,QÁ,bkC,TYz,TYx,↓RW,NB]
 rw[he]at h25;obtain⟨hr,hnb,hok⟩:=ckB_ok.1 he;unfold qgm at hr;unfold okB at hok;obtain⟨N,rfl⟩:∃N:Nat,n=(N:Nat):=⟨n.toNat,Ω⟩;have hf:∀i,i<nb→0≤f i∧f i<(N:Nat):=λi hi=>by have:=hok i hi;omega
 have hq:∀i,i<nb→1≤q i∧q i≤1000:=λi hi=>by have:=hok i hi;omega
 have hg:∀i,i<nb→g i = -1:=λi hi=>by have:=hok i hi;omega
 have bkneg:∀{hp:List (Nat×Blk)},Go.Sx.Sub hp (bkS N nb f (λ_=>-1) q fav c d st) (.agg (bkC N nb f g q fav c d st)):=λ{hp}=>qpk hg;have h52:=c52 N nb f q fav c d st Ω hnb hq;(repeat' first|refine sD ?_ ?_<;>intro _|refine aAh ?_|simp -dsimp only[↓RP,RQ,seval,d1,d2,d3,bkC,TYz,TYx,↓RW,NB,QÁ]);refine qk h25 (by simp only[SubL,and_true];exact bksub) Ωae ?_;(repeat' first|refine sD ?_ ?_<;>intro _|refine aAh ?_|simp -dsimp only[↓RP,RQ,seval,QÁ,bkC,TYz,TYx,↓RW,NB]);refine qk h52 (by simp only[SubL,and_true];exact bkneg) Ω9 ?_;(repeat' first|refine sD ?_ ?_<;>intro _|refine aAh ?_|simp -dsimp only[↓RP,RQ,seval,bkC,TYz,TYx,↓RW,NB,QÁ]);obtain⟨u,hu⟩:∃u,u=uF f q nb:=⟨_,rfl⟩;have hu0:∀i,i<N→0≤u i:=λi _=>by rw[hu];exact(yq f q (i:Nat) nb hq).1
 have hsum:pfx u N=sQ q nb:=by rw[hu];exact Jw nb hf
 have hsq:=Zx q nb hq;have hs:pfx u N≤100000:=by omega
 have hu1:∀i,i<N→0≤u i∧u i≤1000000000:=λi hi=>by
  have:=W4 hu0 hs hi;have e:pfx u (i+1)=pfx u i+u i:=rfl;omega
 rw[←hu];refine qp (λ(w:Nat×Nat×Nat×(Nat→Nat→SV))=>w.1≤K∧(35<w.2.2.1∧w.2.2.1<w.2.1)∧∀j,j<w.1→∀a,a<4→w.2.2.2 j a=(ctL (cpH N K u x y z) j).getD a .top) (λw=>⟨[(1,cn3 K x y z),(2,.arr false false v.1 1 (λi _=>.val (.int .u8 (v.2 i:Nat)))),(3,.ptr 0 0),(7,.arr true false N 1 (λi _=>Ψ (Φ Γ (u i)))),(8,.ptr 34 0),(9,.ptr 35 0),(10,Ψ (Φ Γ (w.1:Nat)))],[(34,.cells 97 [Ψ (Φ Γ (N:Nat)),Ψ (Φ Γ 100000),.vec w.2.2.1 w.1 4]),(w.2.2.1,.rows 101 4 w.1 w.2.2.2),(35,.cells 97 [Ψ (Φ Γ (N:Nat)),Ψ (Φ Γ 100000),.val (.slice none 0 0)]),(0,.cells 48 (bkC N nb f g q fav c d st))],w.2.1⟩) (λw=>K - w.1) (0,40,39,λ_ _=>.top) ⟨xb6 _,Ωq,λj hj=>absurd hj (Nat.not_lt_zero j)⟩ (Weak.trans (Jr (b:=34) (i:=2) (k:=4) (te:=101) (λ_ _=>.top) Ωr Ωr) (weakSU (xa5 _) (by simp[qQ,Go.Sx.look,cn3]) ?a2)) λw hw=>?_
 case a2=>((repeat' (refine SubHp.ent (by simp[blk,bkC]) ?_));exact λq v hv=>Ωs)
 obtain⟨i,n1,sid,row⟩:=w;obtain⟨hi,⟨hs1,hs2⟩,hrow⟩:=hw;dsimp only at hi hs1 hs2 hrow;dsimp only;clear NB;have NB:=(⟨nmA hs2,nmE (Ω:sid≠0),nmE (Ω:sid≠34),nmE (Ω:sid≠35),nmA (Ω:0<n1),nmA (Ω:34<n1),nmA (Ω:35<n1)⟩:_∧_∧_∧_∧_∧_∧_);by_cases hiK:i<K
 ·have hlt:=decide_eq_true (Ω:((i:Nat):Int)<(K:Nat))
  obtain⟨hx1,hx2,hx3⟩:=hx i hiK;have hT:=qcQ (x:=x i) (y:=y i) (Ω:0<N);have hS:=qcR (Ω:0<N) hu0 hs (x i) (y i);have h51:=c51 N u (x i % N) (cpT N (x i) (y i)) Ω hT.2 Ω hu1;have m1:=qpy (x i) N;have m2:Int.tmod (y i:Nat) ((N:Nat) -(x i % N:Nat):Int)=((y i %(N - x i % N):Nat):Int):=by rw[←Int.ofNat_sub (show x i % N≤N from xb9 (Nat.mod_lt _ Ω))];exact qpy (y i) _
  have tn2:Int.toNat 2=2:=rfl;have m3:((x i % N:Nat):Int)+((y i %(N - x i % N):Nat):Int)=(cpT N (x i) (y i):Nat):=by unfold cpT;omega
  have h0N:¬((N:Nat):Int)=0:=by omega
  have h1N:¬((N:Nat):Int) -((x i % N:Nat):Int)=0:=by omega
  have hSe:pfx u (cpT N (x i) (y i)+1) - pfx u (x i % N)=cpS N u (x i) (y i):=rfl;rw[hSe]at h51
  conv=>arg 4;unfold cn3
  (repeat' first|refine sD ?_ ?_<;>intro _|refine aAh ?_|simp -dsimp only[↓RP,RQ,seval,hlt,m1,m2,m3,h0N,h1N,bkC,TYz,TYx,↓RW,NB,QÁ]);have hct:ctL (cpH N K u x y z) i=[Ψ (Φ Γ (x i % N:Nat)),Ψ (Φ Γ (cpT N (x i) (y i):Nat)),Ψ (Φ Γ (max 0 (cpS N u (x i) (y i) -(z i:Nat)))),Ψ (Φ Γ (cpS N u (x i) (y i)+(z i:Nat)))]:=rfl;generalize x i % N=F at *;generalize cpT N (x i) (y i)=T at *;generalize cpS N u (x i) (y i)=X at *;refine qk h51 (by simp only[SubL,and_true];exact⟨qeW,zw,zw⟩) Ωae ?_;(repeat' first|refine sD ?_ ?_<;>intro _|refine aAh ?_|simp -dsimp only[↓RP,RQ,seval,QÁ,tn2,bkC,TYz,TYx,↓RW,NB]);refine qk (c45 F T (max 0 (X -(z i:Nat))) (X+(z i:Nat))) (by simp only[SubL,and_true];exact⟨zw,zw,zw,zw⟩) ΩT ?_;(repeat' first|refine sD ?_ ?_<;>intro _|refine aAh ?_|simp -dsimp only[↓RP,RQ,seval,QÁ,bkC,TYz,TYx,↓RW,NB]);refine⟨⟨.inr trivial,xa5 _,λi j hi hj=>?o1,?o2⟩,by simp only[InK];omega,(i+1,_,n1+53,λa b=>if a<i then row a b else [Ψ (Φ Γ (F:Nat)),Ψ (Φ Γ (T:Nat)),Ψ (Φ Γ (max 0 (X -(z i:Nat)))),Ψ (Φ Γ (X+(z i:Nat)))].getD ((a - i)*4+b) .top),⟨hiK,⟨?o3,?o4⟩,?o5⟩,Ωc,weakSU (xa5 _) (by simp[qQ,Go.Sx.look,cn3]) ?o6⟩
  case o1=>
   obtain rfl:i=0:=by omega
   rcases(Ω:j=0∨j=1∨j=2∨j=3)with rfl|rfl|rfl|rfl<;>rfl
  case o2=>omega
  case o3=>dsimp only;omega
  case o4=>dsimp only;omega
  case o5=>
   intro j hj a ha;dsimp only at hj ⊢;by_cases e:j<i
   ·rw[if_pos e];exact hrow j e a ha
   ·obtain rfl:j=i:=by omega
    rw[if_neg e,xb8,Nat.zero_mul,xb0,hct]
  case o6=>dsimp only;((repeat' (refine SubHp.ent ΩA ?_));exact λq v hv=>Ωs)
 obtain rfl:i=K:=by omega
 have hlt:=decide_eq_false (Ω:¬((i:Nat):Int)<(i:Nat))
 conv=>arg 4;unfold cn3
 (repeat' first|refine sD ?_ ?_<;>intro _|refine aAh ?_|simp -dsimp only[↓RP,RQ,seval,hlt,bkC,TYz,TYx,↓RW,NB,QÁ]);refine qp (λ(w:Nat×Nat×Nat×(Nat→Nat→SV))=>w.1≤N∧(sid<w.2.2.1∧w.2.2.1<w.2.1)∧∀j,j<w.1→∀a,a<4→w.2.2.2 j a=(ctL (exH N u) j).getD a .top) (λw=>⟨[(2,.arr false false v.1 1 (λi _=>.val (.int .u8 (v.2 i:Nat)))),(3,.ptr 0 0),(7,.arr true false N 1 (λi _=>Ψ (Φ Γ (u i)))),(8,.ptr 34 0),(9,.ptr 35 0),(15,Ψ (Φ Γ (w.1:Nat)))],[(35,.cells 97 [Ψ (Φ Γ (N:Nat)),Ψ (Φ Γ 100000),.vec w.2.2.1 w.1 4]),(w.2.2.1,.rows 101 4 w.1 w.2.2.2),(34,.cells 97 [Ψ (Φ Γ (N:Nat)),Ψ (Φ Γ 100000),.vec sid i 4]),(sid,.rows 101 4 i row),(0,.cells 48 (bkC N nb f g q fav c d st))],w.2.1⟩) (λw=>N - w.1) (0,n1+6,n1+5,λ_ _=>.top) ⟨xb6 _,⟨Ωc,Ωc⟩,λj hj=>absurd hj (Nat.not_lt_zero j)⟩ (Weak.trans (Jr (b:=35) (i:=2) (k:=4) (te:=101) (λ_ _=>.top) (by simp only[blk,NB,xa2,if_false,if_true];rfl) Ωr) (weakSU (xa5 _) Ωd ?e2)) λw hw=>?_
 case e2=>((repeat' (refine SubHp.ent Ωo ?_));exact λq v hv=>Ωs)
 obtain⟨r,n2,xid,xrow⟩:=w;obtain⟨hr1,⟨hx1,hx2⟩,hxr⟩:=hw;dsimp only at hr1 hx1 hx2 hxr;dsimp only;clear NB;have NB:=(⟨nmA hx2,nmA (Ω:sid<n2),nmE (Ω:xid≠0),nmE (Ω:xid≠34),nmE (Ω:xid≠35),nmE (Ω:xid≠sid),nmE (Ω:sid≠0),nmE (Ω:sid≠34),nmE (Ω:sid≠35),nmA (Ω:0<n2),nmA (Ω:34<n2),nmA (Ω:35<n2)⟩:_∧_∧_∧_∧_∧_∧_∧_∧_∧_∧_∧_);by_cases hrN:r<N
 ·have hlt:=decide_eq_true (Ω:((r:Nat):Int)<(N:Nat))
  have hct:ctL (exH N u) r=[Ψ (Φ Γ (r:Nat)),Ψ (Φ Γ (r:Nat)),Ψ (Φ Γ (u r)),Ψ (Φ Γ (u r))]:=rfl;(repeat' first|refine sD ?_ ?_<;>intro _|refine aAh ?_|simp -dsimp only[↓RP,RQ,seval,hlt,bkC,TYz,TYx,↓RW,NB,QÁ]);refine qk (c45 r r (u r) (u r)) (by simp only[SubL,and_true];exact⟨zw,zw,zw,zw⟩) ΩT ?_;(repeat' first|refine sD ?_ ?_<;>intro _|refine aAh ?_|simp -dsimp only[↓RP,RQ,seval,QÁ,bkC,TYz,TYx,↓RW,NB]);refine⟨⟨.inr trivial,xa5 _,λi j hi hj=>?f1,?f2⟩,by simp only[InK];omega,(r+1,_,n2+18,λa b=>if a<r then xrow a b else [Ψ (Φ Γ (r:Nat)),Ψ (Φ Γ (r:Nat)),Ψ (Φ Γ (u r)),Ψ (Φ Γ (u r))].getD ((a - r)*4+b) .top),⟨hrN,⟨?f3,?f4⟩,?f5⟩,Ωc,weakSU (xa5 _) Ωd ?f6⟩
  case f1=>
   obtain rfl:i=0:=by omega
   rcases(Ω:j=0∨j=1∨j=2∨j=3)with rfl|rfl|rfl|rfl<;>rfl
  case f2=>omega
  case f3=>dsimp only;omega
  case f4=>dsimp only;omega
  case f5=>
   intro j hj a ha;dsimp only at hj ⊢;by_cases e:j<r
   ·rw[if_pos e];exact hxr j e a ha
   ·obtain rfl:j=r:=by omega
    rw[if_neg e,xb8,Nat.zero_mul,xb0,hct]
  case f6=>dsimp only;((repeat' (refine SubHp.ent ΩA ?_));exact λq v hv=>Ωs)
 obtain rfl:r=N:=by omega
 have hlt:=decide_eq_false (Ω:¬((r:Nat):Int)<(r:Nat));have oH:=qpz (n:=r) (x:=x) (y:=y) (z:=z) Ω (Ω:i≤10) hu0 hs λj hj=>(hx j hj).2.2;have tH:=qnj (n:=r) (k:=i) (x:=x) (y:=y) (z:=z) Ω hu0 hs;have oE:=qpA (n:=r) Ω hu0 hs;have tE:=qnk (n:=r) hu0 hs;have h50:=c50 _ oH 0 (r - 1) Ω (Ω:r - 1<r);have h53:=c53 _ oE;rcases h50 with⟨D,E,hD,hE,h50⟩|⟨hno,_⟩
 case inr=>exact absurd tH (hno _)
 rcases h53 with⟨T,hT,h53⟩|⟨hno,_⟩
 case inr=>exact absurd tE (hno _)
 obtain⟨hlo,hhi⟩:=qnl oH (Ω:r - 1<r) Ω hD hE tH;have er:r - 1+1=r:=by omega
 rw[er]at hlo hhi h50;rw[show pfx u 0=0 from rfl,hsum]at hlo hhi;rw[show((r - 1:Nat):Int)=(r:Nat) - 1 by omega]at h50;obtain⟨bE1,bE2⟩:=qpB (Lst.tru oH hE) r (xa5 _);obtain⟨bD1,bD2⟩:=qpB (Lst.tru oH hD) r (xa5 _);have hEr:=hE.1;have hDr:=hD.1;rw[er]at hEr;rw[hEr]at bE1 bE2;rw[hDr]at bD1 bD2;have hm5:(cpH r i u x y z).m=100000:=rfl;rw[hm5]at bE2 bD2;rw[show(0:Int) - E 0 = -E 0 by omega]at bE1 bE2;rw[show D r -(0:Int)=D r by omega]at bD1 bD2;generalize -E 0=Lo at *;generalize D r=Hi at *;have hTu:∀j,j<r→T (j+1) - T j=u j:=λj hj=>qcS (Lst.tru oE hT) hj
 change qf Tryz.prog 53 [haS (exH r u)] (.tup [.arr true false r 1 (λi _=>Ψ (Φ Γ (T (i+1) - T i))),I 0])at h53
 generalize hTd:(λj=>T (j+1) - T j)=Td at *;have h47:=c47 _ oH r u Ω;rw[show ckT (cpH r i u x y z) r u=0 from ckT_ok.2 tH]at h47;have hgl:=qeY v r 8;have hgf:=qaY v r 8;have hgn:=VM v r 8;have hgm:∀x,x∈(fgs v r 8).flatten↔x<r:=λx=>by rw[W5];exact⟨λh=>h.1,λh=>⟨h,qpC Ω⟩⟩
 have h28':∀(nb:Nat)(f q:Nat→Int)(fav:Bool)(c d st:Int),qf Tryz.prog 28 [bkS r nb f (λ_=>-1) q fav c d st,.arr false false v.1 1 (λi _=>.val (.int .u8 (v.2 i:Nat)))] (W6 true (fgs v r 8)):=λnb f q fav c d st=>c28 r nb v f q fav c d st Ω Ω hv;have h28:=h28' nb f q fav c d st;generalize fgs v r 8=G at *;obtain⟨Dl,hDl⟩:∃Dl,Dl=dvl f q nb (λi=>(G.getD 0 []).getD i 0) (G.getD 0 []).length:=⟨_,rfl⟩;have h27:=c27 r nb f q fav c d st Ω Ω hnb hf hq Ω Ω Ω G hgl (λg hg=>by have:=(hgf g hg).2;omega) (λg hg=>(hgf g hg).1) hgn hgm Dl hDl
 change qf Tryz.prog 27 [_,W6 false G] _ at h27
 obtain⟨SQ,hSQ⟩:∃SQ,SQ=sQ q nb:=⟨_,rfl⟩;rw[←hSQ]at h27 hlo hhi hsum hsq;have e1:=decide_eq_false (Ω:¬c+100*SQ - c<100*Lo);have e2:=decide_eq_false (Ω:¬100*Hi<c+100*SQ - c);have subH:∀{hp:List (Nat×Blk)},blk hp sid=some (.rows 101 4 i row)→Go.Sx.Sub hp (haS (cpH r i u x y z)) (.agg [Ψ (Φ Γ (r:Nat)),Ψ (Φ Γ 100000),.vec sid i 4]):=λhb=>qkW (h:=cpH r i u x y z) hb hrow;have subE:∀{hp:List (Nat×Blk)},blk hp xid=some (.rows 101 4 r xrow)→Go.Sx.Sub hp (haS (exH r u)) (.agg [Ψ (Φ Γ (r:Nat)),Ψ (Φ Γ 100000),.vec xid r 4]):=λhb=>qkW (h:=exH r u) hb hxr;have dsq:=Jm hnb hq (Ω:0≤d∧d≤500);(repeat' first|refine sD ?_ ?_<;>intro _|refine aAh ?_|simp -dsimp only[↓RP,RQ,seval,hlt,bkC,TYz,TYx,↓RW,NB,QÁ]);refine qk h50 (by simp only[SubL,and_true];exact⟨subH Ωp,zw,zw⟩) ΩT ?_;(repeat' first|refine sD ?_ ?_<;>intro _|refine aAh ?_|simp -dsimp only[↓RP,RQ,seval,QÁ,bkC,TYz,TYx,↓RW,NB]);refine qk h28 (by simp only[SubL,and_true];exact⟨bkneg,by simp[Go.Sx.Sub]⟩) Kb ?_;(repeat' first|refine sD ?_ ?_<;>intro _|refine aAh ?_|simp -dsimp only[↓RP,RQ,seval,bkC,TYz,TYx,↓RW,NB,QÁ]);refine qk h27 (by simp only[SubL,and_true];exact⟨bkneg,W7⟩) ΩT ?_;(repeat' first|refine sD ?_ ?_<;>intro _|refine aAh ?_|simp -dsimp only[↓RP,RQ,seval,QÁ,e1,e2,bkC,TYz,TYx,↓RW,NB]);refine qk h47 (by simp only[SubL,and_true];exact⟨subH Ωp,qeW⟩) Ωae ?_;(repeat' first|refine sD ?_ ?_<;>intro _|refine aAh ?_|simp -dsimp only[↓RP,RQ,seval,QÁ,e1,e2,bkC,TYz,TYx,↓RW,NB]);refine qk h53 (by simp only[SubL,and_true];exact subE Ωp) ΩT ?_;(repeat' first|refine sD ?_ ?_<;>intro _|refine aAh ?_|simp -dsimp only[↓RP,RQ,seval,QÁ,bkC,TYz,TYx,↓RW,NB]);have hTu:=hTu;refine qp (λ(w:Nat×Nat×Nat×Nat×(Nat→Int)×(Nat→Int)×(Nat→Nat→SV))=>w.1≤r∧(n2+87<w.2.2.1∧w.2.2.1<w.2.1)∧chX r u w.1 (u w.1) w.2.2.2.1 w.2.2.2.2.1 w.2.2.2.2.2.1∧rw3 w.2.2.2.1 w.2.2.2.2.1 w.2.2.2.2.2.1 w.2.2.2.2.2.2) (λw=>⟨[(2,.arr false false v.1 1 (λi _=>.val (.int .u8 (v.2 i:Nat)))),(3,.ptr 0 0),(7,.arr true false r 1 (λi _=>Ψ (Φ Γ (u i)))),(9,.ptr 35 0),(20,.arr true false r 1 (λi _=>Ψ (Φ Γ (T (i+1) - T i)))),(22,.ptr (n2+87) 0),(23,Ψ (Φ Γ (w.1:Nat)))],[(n2+87,.cells 48 [Ψ (Φ Γ 0),Ψ (Φ Γ (r:Nat)),.vec w.2.2.1 w.2.2.2.1 3,.val (.slice none 0 0),.val (.bool false),Ψ (Φ Γ c),Ψ (Φ Γ d),Ψ (Φ Γ st)]),(w.2.2.1,.rows 51 3 w.2.2.2.1 w.2.2.2.2.2.2),(35,.cells 97 [Ψ (Φ Γ (r:Nat)),Ψ (Φ Γ 100000),.vec xid r 4]),(xid,.rows 101 4 r xrow),(0,.cells 48 (bkC r nb f g q fav c d st))],w.2.1⟩) (λw=>r - w.1) (0,n2+91,n2+90,0,λ_=>0,λ_=>0,λ_ _=>.top) ⟨xb6 _,⟨Ωc,Ωc⟩,qqW,λi hi=>absurd hi (Nat.not_lt_zero i)⟩ (Weak.trans (Jr (b:=n2+87) (i:=2) (k:=3) (te:=51) (λ_ _=>.top) (by simp only[blk,if_true];rfl) Ωr) (weakSU (xa5 _) Ωd ?g2)) λw hw=>?_
 case g2=>((repeat' (refine SubHp.ent Ωo ?_));exact λq v hv=>Ωs)
 obtain⟨a,n3,bid,nx,fx,qx,brow⟩:=w;obtain⟨ha1,⟨hb1,hb2⟩,hch,hbr⟩:=hw;dsimp only at ha1 hb1 hb2 hch hbr;dsimp only;clear NB;have NB:=(⟨nmA hb2,nmA (Ω:xid<n3),nmA (Ω:n2+87<n3),nmE (Ω:bid≠0),nmE (Ω:bid≠35),nmE (Ω:bid≠xid),nmE (Ω:bid≠n2+87),nmE (Ω:xid≠n2+87),nmE (Ω:0≠n2+87),nmE (Ω:35≠n2+87),nmE (Ω:xid≠0),nmE (Ω:xid≠35),nmA (Ω:0<n3),nmA (Ω:35<n3)⟩:_∧_∧_∧_∧_∧_∧_∧_∧_∧_∧_∧_∧_∧_);by_cases haN:a<r
 ·have hlt:=decide_eq_true (Ω:((a:Nat):Int)<(r:Nat))
  have hTa:=hTu a haN;have hua:=hu1 a haN;have h50a:qf Tryz.prog 50 [haS (exH r u),I a,I a] (.tup [.agg [I (u a),I (u a)],I 0]):=by
   rcases c50 _ oE a a (xa5 _) haN with⟨D',E',hD',hE',h⟩|⟨hno,_⟩
   ·obtain⟨q1,q2⟩:=qnm oE haN hD' hE'
    rwa [q1,q2]at h
   ·exact absurd tE (hno _)
  (repeat' first|refine sD ?_ ?_<;>intro _|refine aAh ?_|simp -dsimp only[↓RP,RQ,seval,hlt,bkC,TYz,TYx,↓RW,NB,QÁ]);refine qk h50a (by simp only[SubL,and_true];exact⟨subE Ωp,zw,zw⟩) ΩT ?_;(repeat' first|refine sD ?_ ?_<;>intro _|refine aAh ?_|simp -dsimp only[↓RP,RQ,seval,QÁ,hTa,hlt,bkC,TYz,TYx,↓RW,NB]);refine qp (λ(w:Int×Nat×Nat×Nat×(Nat→Int)×(Nat→Int)×(Nat→Nat→SV))=>(0≤w.1∧w.1≤u a)∧(n2+87<w.2.2.1∧w.2.2.1<w.2.1)∧chX r u a w.1 w.2.2.2.1 w.2.2.2.2.1 w.2.2.2.2.2.1∧rw3 w.2.2.2.1 w.2.2.2.2.1 w.2.2.2.2.2.1 w.2.2.2.2.2.2) (λw=>⟨[(2,.arr false false v.1 1 (λi _=>.val (.int .u8 (v.2 i:Nat)))),(3,.ptr 0 0),(7,.arr true false r 1 (λi _=>Ψ (Φ Γ (u i)))),(9,.ptr 35 0),(20,.arr true false r 1 (λi _=>Ψ (Φ Γ (T (i+1) - T i)))),(22,.ptr (n2+87) 0),(23,Ψ (Φ Γ (a:Nat))),(26,Ψ (Φ Γ w.1))],[(n2+87,.cells 48 [Ψ (Φ Γ 0),Ψ (Φ Γ (r:Nat)),.vec w.2.2.1 w.2.2.2.1 3,.val (.slice none 0 0),.val (.bool false),Ψ (Φ Γ c),Ψ (Φ Γ d),Ψ (Φ Γ st)]),(w.2.2.1,.rows 51 3 w.2.2.2.1 w.2.2.2.2.2.2),(35,.cells 97 [Ψ (Φ Γ (r:Nat)),Ψ (Φ Γ 100000),.vec xid r 4]),(xid,.rows 101 4 r xrow),(0,.cells 48 (bkC r nb f g q fav c d st))],w.2.1⟩) (λw=>w.1.toNat) (u a,_,bid,nx,fx,qx,brow) ⟨⟨hua.1,Int.le_refl _⟩,⟨hb1,?k1⟩,hch,hbr⟩ (weakSU (xa5 _) Ωd ?k2) λw hw=>?_
  case k1=>dsimp only;omega
  case k2=>((repeat' (refine SubHp.ent Ωo ?_));exact λq v hv=>Ωs)
  clear hch hbr hb1 hb2;obtain⟨rem,n4,bid2,nx,fx,qx,brow⟩:=w;obtain⟨⟨hre1,hre2⟩,⟨hb3,hb4⟩,hch,hbr⟩:=hw;dsimp only at hre1 hre2 hb3 hb4 hch hbr;dsimp only;clear NB;have NB:=(⟨nmA hb4,nmA (Ω:xid<n4),nmA (Ω:n2+87<n4),nmE (Ω:bid2≠0),nmE (Ω:bid2≠35),nmE (Ω:bid2≠xid),nmE (Ω:bid2≠n2+87),nmE (Ω:xid≠n2+87),nmE (Ω:0≠n2+87),nmE (Ω:35≠n2+87),nmE (Ω:xid≠0),nmE (Ω:xid≠35),nmA (Ω:0<n4),nmA (Ω:35<n4)⟩:_∧_∧_∧_∧_∧_∧_∧_∧_∧_∧_∧_∧_∧_);have hnx:=qfb hu0 hre1 hch;by_cases hre:0<rem
  ·have dr:=decide_eq_true hre
   (repeat' first|refine sD ?_ ?_<;>intro _|refine aAh ?_|simp -dsimp only[↓RP,RQ,seval,dr,bkC,TYz,TYx,↓RW,NB,QÁ]);refine qk (c24 a (-1) (min rem 1000)) (by simp only[SubL,and_true];exact⟨zw,zw,zw⟩) (by simp[Fresh,FreshL,I,vM]) ?_;(repeat' first|refine sD ?_ ?_<;>intro _|refine aAh ?_|simp -dsimp only[↓RP,RQ,seval,vM,QÁ,bkC,TYz,TYx,↓RW,NB]);refine⟨⟨.inr trivial,xa5 _,λi j hi hj=>?l1,?l2⟩,by simp only[InK];omega,(rem - min rem 1000,_,n4+9,nx+1,vP fx nx (a:Nat),vP qx nx (min rem 1000),λi j=>if i<nx then brow i j else [Ψ (Φ Γ (a:Nat)),Ψ (Φ Γ (-1)),Ψ (Φ Γ (min rem 1000))].getD ((i - nx)*3+j) .top),⟨⟨Ωc,Ωc⟩,⟨?l3,?l4⟩,qkI haN hre hch,qkX hbr⟩,Ωc,weakSU (xa5 _) Ωd ?l6⟩
   case l1=>
    obtain rfl:i=0:=by omega
    rcases(Ω:j=0∨j=1∨j=2)with rfl|rfl|rfl<;>rfl
   case l2=>omega
   case l3=>dsimp only;omega
   case l4=>dsimp only;omega
   case l6=>dsimp only;((repeat' (refine SubHp.ent Ωo ?_));exact λq v hv=>Ωs)
  ·obtain rfl:rem=0:=by omega
   have dr:decide ((0:Int)<0)=false:=rfl;(repeat' first|refine sD ?_ ?_<;>intro _|refine aAh ?_|simp -dsimp only[↓RP,RQ,seval,dr,bkC,TYz,TYx,↓RW,NB,QÁ]);refine⟨(a+1,_,bid2,nx,fx,qx,brow),⟨haN,⟨hb3,?m1⟩,qkH hch,hbr⟩,Ωc,weakSU (xa5 _) Ωd ?m2⟩
   case m1=>dsimp only;omega
   case m2=>dsimp only;((repeat' (refine SubHp.ent Ωo ?_));exact λq v hv=>Ωs)
 obtain rfl:a=r:=by omega
 have hlt:=decide_eq_false (Ω:¬((a:Nat):Int)<(a:Nat));have hua:0≤u a:=by rw[hu];exact(yq f q (a:Nat) nb hq).1
 have hnx:=qfb hu0 hua hch;have h25x:=c25 a nx fx (λ_=>-1) qx false c d st Ω;by_cases hex:ckB a nx fx (λ_=>-1) qx c d st=0
 case neg=>
  have dx:=decide_eq_false hex;(repeat' first|refine sD ?_ ?_<;>intro _|refine aAh ?_|simp -dsimp only[↓RP,RQ,seval,hlt,bkC,TYz,TYx,↓RW,NB,QÁ]);refine qk h25x (by simp only[SubL,and_true];exact qff Ωp hbr) Ωae ?_;(repeat' first|refine sD ?_ ?_<;>intro _|refine aAh ?_|simp -dsimp only[↓RP,RQ,seval,QÁ,dx,bkC,TYz,TYx,↓RW,NB]);refine qk h43 ΩX ΩC ?_;repeat' first|refine sD ?_ ?_<;>intro _|refine aAh ?_|simp -dsimp only[↓RP,RQ,seval,QÁ,bkC,TYz,TYx,↓RW,NB]
 rw[hex]at h25x;have hnx1:=(ckB_ok.1 hex).2.1;have hfx:∀i,i<nx→0≤fx i∧fx i<(a:Nat):=λi hi=>(hch.1 i hi).1;have hqx:∀i,i<nx→1≤qx i∧qx i≤1000:=λi hi=>(hch.1 i hi).2;have hcF:∀k,k<a→cF f q nb (k:Nat)=cF fx qx nx (k:Nat):=λk hk=>by rw[hch.2 k,if_pos hk,hu];rfl
 have hsx:=qkF hf hfx hcF;have hgi:∀i,i<(G.getD 0 []).length→(G.getD 0 []).getD i 0<a:=λi hi=>by
  cases hG:G with
  |nil=>rw[hG]at hi;cases hi
  |cons g l=>
   rw[hG]at hi hgm;have hi':i<g.length:=hi;refine(hgm _).1 (List.mem_flatten.2 ⟨g,xd5,?_⟩);show g.getD i 0∈g;rw[xc6,xc7 hi'];exact List.getElem_mem _
 have hDx:Dl=dvl fx qx nx (λi=>(G.getD 0 []).getD i 0) (G.getD 0 []).length:=by
  rw[hDl];exact VL _ λi hi=>hcF _ (hgi i hi)
 have hDi:∀i,Dl.getD i 0<a:=λi=>by
  by_cases h:i<Dl.length
  ·have:Dl.getD i 0∈Dl:=by rw[xc6,xc7 h];exact List.getElem_mem _
   obtain⟨j,h1,h2,_⟩:=(wz f q nb (λi=>(G.getD 0 []).getD i 0) (Dl.getD i 0) (G.getD 0 []).length).1 (by rw[←hDl];exact this);rw[←h2];exact hgi j h1
  ·rw[xc6,List.getElem?_eq_none Ω];show 0<a;omega
 have hpn:∀i,pnF fx qx c d st nx Dl.length (Dl.getD i 0)=pnF f q c d st nb Dl.length (Dl.getD i 0):=λi=>(qgJ (hcF _ (hDi i)) hsx).symm;have h28x:=h28' nx fx qx false c d st;have hDlen:Dl.length≤8:=by
  have h1:=yW f q nb (λi=>(G.getD 0 []).getD i 0) (G.getD 0 []).length;rw[←hDl]at h1;have h2:(G.getD 0 []).length≤8:=by
   cases hG:G with
   |nil=>show 0≤8;omega
   |cons g l=>have:=(hgf g (by rw[hG];exact xd5)).2;show g.length≤8;omega
  omega
 have e19:decide ((19:Int)=0)=false:=rfl;have bkx:∀{hp:List (Nat×Blk)},blk hp bid=some (.rows 51 3 nx brow)→Go.Sx.Sub hp (bkS a nx fx (λ_=>-1) qx false c d st) (.agg [Ψ (Φ Γ 0),Ψ (Φ Γ (a:Nat)),.vec bid nx 3,.val (.slice none 0 0),.val (.bool false),Ψ (Φ Γ c),Ψ (Φ Γ d),Ψ (Φ Γ st)]):=λhb=>qff hb hbr;have hg8:∀g,g∈G→g.length≤8:=λg hg=>by have:=(hgf g hg).2;omega
 have hg1:∀g,g∈G→g≠[]∧g.Pairwise (· < ·):=λg hg=>(hgf g hg).1;obtain⟨dv,er,hfr,her,h34b,h34x,K,ca,cb,cc,hK5,hdv⟩:∃(dv:SV)(er:Int),Fresh (.tup [dv,I er])∧(er=0∨er=19)∧qf Tryz.prog 34 [bkS a nb f (λ_=>-1) q fav c d st,W6 false G] (.tup [dv,I er])∧qf Tryz.prog 34 [bkS a nx fx (λ_=>-1) qx false c d st,W6 false G] (.tup [dv,I er])∧∃(K:Nat)(ca cb cc:Nat→Int),K≤1000∧∀{hp:List (Nat×Blk)},Go.Sx.Sub hp (dvA K ca cb cc) dv:=by
  by_cases hD0:Dl=[]
  ·exact⟨_,_,by simp[Fresh,FreshL,I],.inr rfl,qqN a nb f q fav c d st Ω Ω hnb hf hq Ω Ω Ω G hgl hg8 hg1 hgn hgm Dl hDl hD0,qqN a nx fx qx false c d st Ω Ω hnx1 hfx hqx Ω Ω Ω G hgl hg8 hg1 hgn hgm Dl hDx hD0,0,λ_=>0,λ_=>0,λ_=>0,Ω,by simp[Go.Sx.Sub,dvA];rfl⟩
  ·have h34x:=qqO a nx fx qx false c d st Ω Ω hnx1 hfx hqx Ω Ω Ω G hgl hg8 hg1 hgn hgm Dl hDx hD0
   simp only[hpn]at h34x;exact⟨_,_,qgI,.inl rfl,qqO a nb f q fav c d st Ω Ω hnb hf hq Ω Ω Ω G hgl hg8 hg1 hgn hgm Dl hDl hD0,h34x,Dl.length,_,_,_,Ω,qnz⟩
 have h54:=c54 K ca cb cc hK5;(repeat' first|refine sD ?_ ?_<;>intro _|refine aAh ?_|simp -dsimp only[↓RP,RQ,seval,hlt,bkC,TYz,TYx,↓RW,NB,QÁ]);refine qk h25x (by simp only[SubL,and_true];exact bkx Ωp) Ωae ?_;(repeat' first|refine sD ?_ ?_<;>intro _|refine aAh ?_|simp -dsimp only[↓RP,RQ,seval,QÁ,bkC,TYz,TYx,↓RW,NB]);refine qk h28 (by simp only[SubL,and_true];exact⟨bkneg,by simp[Go.Sx.Sub]⟩) Kb ?_;(repeat' first|refine sD ?_ ?_<;>intro _|refine aAh ?_|simp -dsimp only[↓RP,RQ,seval,bkC,TYz,TYx,↓RW,NB,QÁ]);refine qk h34b (by simp only[SubL,and_true];exact⟨bkneg,W7⟩) hfr ?_;(repeat' first|refine sD ?_ ?_<;>intro _|refine aAh ?_|simp -dsimp only[↓RP,RQ,seval,QÁ,bkC,TYz,TYx,↓RW,NB]);refine qk h28x (by simp only[SubL,and_true];exact⟨bkx Ωp,by simp[Go.Sx.Sub]⟩) Kb ?_;(repeat' first|refine sD ?_ ?_<;>intro _|refine aAh ?_|simp -dsimp only[↓RP,RQ,seval,bkC,TYz,TYx,↓RW,NB,QÁ]);refine qk h34x (by simp only[SubL,and_true];exact⟨bkx Ωp,W7⟩) hfr ?_;rcases her with rfl|rfl
 all_goals (
  (repeat' first|refine sD ?_ ?_<;>intro _|refine aAh ?_|simp -dsimp only[↓RP,RQ,seval,QÁ,e19,bkC,TYz,TYx,↓RW,NB]);refine qk h54 (by simp only[SubL,and_true];exact⟨hdv,hdv⟩) ΩC ?_;(repeat' first|refine sD ?_ ?_<;>intro _|refine aAh ?_|simp -dsimp only[↓RP,RQ,seval,QÁ,bkC,TYz,TYx,↓RW,NB]);refine qk h43 ΩX ΩC ?_;(repeat' first|refine sD ?_ ?_<;>intro _|refine aAh ?_|simp -dsimp only[↓RP,RQ,seval,QÁ,bkC,TYz,TYx,↓RW,NB]))
end Go.Tn
end
