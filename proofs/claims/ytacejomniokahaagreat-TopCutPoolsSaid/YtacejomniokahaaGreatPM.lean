/- A part of the proof. -/
import Derived.Test.YtacejomniokahaaGreatPL
open Nat renaming le_refl→xa5,lt_irrefl→xb4
open List renaming append_nil→xd3,mem_append→xd4
set_option linter.unusedVariables false
set_option linter.unusedSimpArgs false
set_option maxRecDepth 1000000
set_option maxHeartbeats 16000000
section
namespace Go.Tn
open Go.Sx
variable{a n nb nx r:Nat}{f fx q qx u:Nat→Int}
def uF(f q:Nat→Int)(nb:Nat):Nat→Int:=λi=>cF f q nb (i:Nat)
theorem qeZ{a b:Nat→Int}:∀n,pfx (λi=>a i+b i) n=pfx a n+pfx b n
 |0=>rfl
 |n+1=>by show pfx _ n+(a n+b n)=(pfx a n+a n)+(pfx b n+b n);rw[qeZ n];omega
theorem qfa{x v:Int}:∀n:Nat,pfx (λi=>if x=(i:Nat)then v else 0) n=if 0≤x∧x<n then v else 0
 |0=>by rw[if_neg Ω];rfl
 |n+1=>by
  show pfx _ n+(if x=(n:Nat)then v else 0)=_;rw[qfa n];omega
theorem Jw{f q:Nat→Int}{n:Nat}:∀nb,(∀i,i<nb→0≤f i∧f i<n)→pfx (uF f q nb) n=sQ q nb
 |0,_=>by
  have:∀n,pfx (uF f q 0) n=0:=λn=>by
   induction n with
   |zero=>rfl
   |succ n ih=>show pfx _ n+0=0;omega
  exact this n
 |nb+1,h=>by
  show pfx (λi=>uF f q nb i+if f nb=(i:Nat)then q nb else 0) n=sQ q nb+q nb;rw[qeZ,Jw nb λi hi=>h i Ω,qfa,if_pos (h nb Ω)]
theorem Ka{u:Nat→Int}{a:Nat}:∀{b:Nat},a≤b→(∀i,i<b→0≤u i)→pfx u a≤pfx u b
 |0,h,_=>by rw[Nat.le_zero.1 h];omega
 |b+1,h,hu=>by
  by_cases e:a=b+1
  ·rw[e];omega
  ·have:=Ka (u:=u) (a:=a) (b:=b) Ω λi hi=>hu i Ω
   have:=hu b Ω;show _≤pfx u b+u b;omega
def cpT(n x y:Nat):Nat:=x % n+y %(n - x % n)
def cpS(n:Nat)(u:Nat→Int)(x y:Nat):Int:=pfx u (cpT n x y+1) - pfx u (x % n)
theorem qcQ{x y:Nat}(h:0<n):x % n≤cpT n x y∧cpT n x y<n:=by
 have h1:=Nat.mod_lt x h;have h2:=Nat.mod_lt y (Ω:0<n - x % n);unfold cpT;omega
def cpH(n k:Nat)(u:Nat→Int)(x y z:Nat→Nat):Ha:=⟨n,100000,k,λj=>x j % n,λj=>cpT n (x j) (y j),λj=>max 0 (cpS n u (x j) (y j) -(z j:Nat)),λj=>cpS n u (x j) (y j)+(z j:Nat)⟩
theorem qcR(hn:0<n)(hu:∀i,i<n→0≤u i)(hs:pfx u n≤100000)(x y:Nat):0≤cpS n u x y∧cpS n u x y≤100000:=by
 have h:=qcQ (x:=x) (y:=y) hn;have h1:=Ka (u:=u) (a:=x % n) (b:=cpT n x y+1) Ω λi hi=>hu i Ω;have h2:=Ka (u:=u) (a:=cpT n x y+1) (b:=n) Ω λi hi=>hu i Ω;have h3:=Ka (u:=u) (a:=0) (b:=x % n) Ω λi hi=>hu i Ω;have h4:pfx u 0=0:=rfl;unfold cpS;omega
theorem qpz{k:Nat}{x y z:Nat→Nat}(hn:2≤n∧n≤8)(hk:k≤10)(hu:∀i,i<n→0≤u i)(hs:pfx u n≤100000)(hz:∀j,j<k→z j<256):(cpH n k u x y z).Ok:=by
 refine⟨(by show 1≤n;omega),(by show n≤10;omega),hk,by show(0:Int)≤100000∧(100000:Int)≤1000000;omega,λj hj=>qcQ Ω,λj hj=>?_⟩;have:=qcR Ω hu hs (x j) (y j);have:=hz j hj;show 0≤max 0 (cpS n u (x j) (y j) -(z j:Nat))∧max 0 (cpS n u (x j) (y j) -(z j:Nat))≤cpS n u (x j) (y j)+(z j:Nat)∧cpS n u (x j) (y j)+(z j:Nat)≤10000000;omega
theorem W4(hu:∀i,i<n→0≤u i)(hs:pfx u n≤100000){i:Nat}(hi:i<n):0≤pfx u (i+1) - pfx u i∧pfx u (i+1) - pfx u i≤100000:=by
 have h1:=Ka (u:=u) (a:=i+1) (b:=n) Ω λi hi=>hu i Ω;have h3:=Ka (u:=u) (a:=0) (b:=i) Ω λi hi=>hu i Ω;have h4:pfx u 0=0:=rfl;have h5:pfx u (i+1)=pfx u i+u i:=rfl
 grind
theorem qnj{k:Nat}{x y z:Nat→Nat}(hn:2≤n)(hu:∀i,i<n→0≤u i)(hs:pfx u n≤100000):(cpH n k u x y z).Tru (pfx u):=by
 refine⟨λi hi=>W4 hu hs hi,λj hj=>?_⟩;have:=qcR (n:=n) Ω hu hs (x j) (y j);show max 0 (cpS n u (x j) (y j) -(z j:Nat))≤cpS n u (x j) (y j)∧cpS n u (x j) (y j)≤cpS n u (x j) (y j)+(z j:Nat);omega
def exH(n:Nat)(u:Nat→Int):Ha:=⟨n,100000,n,λj=>j,λj=>j,u,u⟩
theorem qpA(hn:2≤n∧n≤8)(hu:∀i,i<n→0≤u i)(hs:pfx u n≤100000):(exH n u).Ok:=by
 refine⟨(by show 1≤n;omega),(by show n≤10;omega),(by show n≤10;omega),by show(0:Int)≤100000∧(100000:Int)≤1000000;omega,λj hj=>⟨xa5 _,hj⟩,λj hj=>?_⟩;have:=W4 hu hs hj;have h5:pfx u (j+1)=pfx u j+u j:=rfl;show 0≤u j∧u j≤u j∧u j≤10000000;omega
theorem qnk(hu:∀i,i<n→0≤u i)(hs:pfx u n≤100000):(exH n u).Tru (pfx u):=
 ⟨λi hi=>W4 hu hs hi,λj hj=>by
  have h5:pfx u (j+1)=pfx u j+u j:=rfl;show u j≤pfx u (j+1) - pfx u j∧pfx u (j+1) - pfx u j≤u j;omega⟩
theorem qcS{F:Nat→Int}(h:(exH n u).Tru F){j:Nat}(hj:j<n):F (j+1) - F j=u j:=by
 have:u j≤F (j+1) - F j∧F (j+1) - F j≤u j:=h.2 j hj;omega
theorem qnl{h:Ha}(o:h.Ok){b:Nat}(hb:b<h.w)(hab:a≤b){D E F:Nat→Int}(hD:Lst h.C (h.w+1) a D)(hE:Lst h.C (h.w+1) (b+1) E)(hF:h.Tru F) : -E a≤F (b+1) - F a∧F (b+1) - F a≤D (b+1):=by
 have b1:=hD.2.2 _ (o.fea.2 hF) (b+1) Ω;have b2:=hE.2.2 _ (o.fea.2 hF) a Ω;omega
theorem qpB{h:Ha}{F:Nat→Int}(hF:h.Tru F):∀b,b≤h.w→0≤F b - F 0∧F b - F 0≤h.m*b
 |0,_=>by simp
 |b+1,hb=>by
  have h1:=qpB hF b Ω;have h2:=hF.1 b hb
  grind
theorem qnm(o:(exH n u).Ok)(hr:r<n){D E:Nat→Int}(hD:Lst (exH n u).C (n+1) r D)(hE:Lst (exH n u).C (n+1) (r+1) E) : -E r=u r∧D (r+1)=u r:=by
 have h1:=qcS (Lst.tru o hD) hr;have h2:=qcS (Lst.tru o hE) hr;have b1:=hD.1;have b2:=hE.1;omega
theorem VL{f q f' q':Nat→Int}{nb nb':Nat}{g:Nat→Nat}:∀K,(∀i,i<K→cF f q nb (g i:Nat)=cF f' q' nb' (g i:Nat))→dvl f q nb g K=dvl f' q' nb' g K
 |0,_=>rfl
 |K+1,h=>by
  rw[dvl,dvl,VL K λi hi=>h i Ω,h K Ω]
theorem qgJ{f' q':Nat→Int}{nb':Nat}{c d st:Int}{K:Nat}(h:cF f q nb (r:Nat)=cF f' q' nb' (r:Nat))(hs:sQ q nb=sQ q' nb'):pnF f q c d st nb K r=pnF f' q' c d st nb' K r:=by
 unfold pnF qM;rw[h,hs]
theorem qkF{f' q':Nat→Int}{nb':Nat}(h:∀i,i<nb→0≤f i∧f i<n)(h':∀i,i<nb'→0≤f' i∧f' i<n)(hu:∀r,r<n→cF f q nb (r:Nat)=cF f' q' nb' (r:Nat)):sQ q nb=sQ q' nb':=by
 rw[←Jw nb h,←Jw nb' h'];have:∀m,m≤n→pfx (uF f q nb) m=pfx (uF f' q' nb') m:=λm hm=>by
  induction m with
  |zero=>rfl
  |succ m ih=>show pfx _ m+uF f q nb m=pfx _ m+uF f' q' nb' m;rw[ih Ω];unfold uF;rw[hu m Ω]
 simp_all
def vP(f:Nat→Int)(nb:Nat)(x:Int):Nat→Int:=λi=>if i<nb then f i else x
theorem qnn{x y r:Int}:cF (vP f nb x) (vP q nb y) (nb+1) r=cF f q nb r+if x=r then y else 0:=by
 have e:∀(f:Nat→Int) x,vP f nb x nb=x:=λf x=>if_neg (xb4 _);rw[JR,VJ (f:=vP f nb x) (q:=vP q nb y) (f':=f) (q':=q) λi hi=>⟨if_pos hi,if_pos hi⟩,e,e]
theorem qkG{q:Nat→Int}:∀{nb:Nat},(∀i,i<nb→1≤q i)→(nb:Int)≤sQ q nb
 |0,_=>Int.le_refl 0
 |nb+1,h=>by
  have:=qkG (q:=q) (nb:=nb) λi hi=>h i Ω;have:=h nb Ω;show _≤sQ q nb+q nb;omega
def chX(n:Nat)(u:Nat→Int)(a:Nat)(rem:Int)(nx:Nat)(fx qx:Nat→Int):Prop:=(∀i,i<nx→(0≤fx i∧fx i<n)∧1≤qx i∧qx i≤1000)∧∀k:Nat,cF fx qx nx (k:Nat)=if k<a then u k else if k=a then u a - rem else 0
theorem qqW:chX n u 0 (u 0) 0 fx qx:=⟨λi hi=>absurd hi (Nat.not_lt_zero i),λk=>by
 rw[if_neg (Nat.not_lt_zero k)];split<;>(show(0:Int)=_;omega)⟩
theorem qkH(h:chX n u a 0 nx fx qx):chX n u (a+1) (u (a+1)) nx fx qx:=⟨h.1,λk=>by
 rw[h.2 k];by_cases c1:k<a
 ·omega
 ·rw[if_neg c1]
  by_cases c2:k=a
  ·rw[if_pos c2,if_pos Ω,c2];omega
  ·rw[if_neg c2,if_neg Ω]
   split<;>omega⟩
theorem qkI{rem:Int}(ha:a<n)(hr:0<rem)(h:chX n u a rem nx fx qx):chX n u a (rem - min rem 1000) (nx+1) (vP fx nx (a:Nat)) (vP qx nx (min rem 1000)):=by
 refine⟨λi hi=>?_,λk=>?_⟩
 ·unfold vP
  by_cases c:i<nx
  ·rw[if_pos c,if_pos c];exact h.1 i c
  ·omega
 ·rw[qnn,h.2 k]
  by_cases c1:k<a
  ·omega
  ·omega
theorem qaX{a b:Nat→Int}:∀{n:Nat},(∀i,i<n→a i≤b i)→pfx a n≤pfx b n
 |0,_=>Int.le_refl 0
 |n+1,h=>by
  have:=qaX (n:=n) λi hi=>h i Ω;have:=h n Ω;show pfx a n+a n≤pfx b n+b n;omega
theorem qfb{rem:Int}(hu:∀i,i<n→0≤u i)(hr:0≤rem)(h:chX n u a rem nx fx qx):(nx:Int)≤pfx u n:=by
 have h1:=qkG (q:=qx) (nb:=nx) λi hi=>(h.1 i hi).2.1;have h2:=Jw (f:=fx) (q:=qx) (n:=n) nx λi hi=>(h.1 i hi).1;have h3:=qaX (a:=uF fx qx nx) (b:=u) (n:=n) λk hk=>by
  have:=h.2 k;have:=hu k hk;unfold uF;by_cases c2:k=a
  ·subst c2;grind
  ·grind
 omega
theorem KW(v:Nat×(Nat→Nat))(k:Nat):∀m x,x∈fgp v k m↔x<m∧fky v x=k
 |0,x=>by simp[fgp]
 |m+1,x=>by
  rw[Jv,xd4,KW v k m x];constructor
  ·grind
  ·grind
theorem QM(v:Nat×(Nat→Nat))(k:Nat):∀m,(fgp v k m).Pairwise (· < ·)
 |0=>by simp[fgp]
 |m+1=>by
  rw[Jv,List.pairwise_append];refine⟨QM v k m,(by split<;>simp),λa ha b hb=>?_⟩;have:=((KW v k m a).1 ha).1;split at hb
  ·simp at hb;omega
  ·simp at hb
theorem W5(v:Nat×(Nat→Nat))(n:Nat):∀k x,x∈(fgs v n k).flatten↔x<n∧fky v x<k
 |0,x=>by simp[fgs]
 |k+1,x=>by
  rw[VK,List.flatten_append,xd4,W5 v n k x];have hm:=KW v k n x;split
  ·grind
  ·grind
theorem VM(v:Nat×(Nat→Nat))(n:Nat):∀k,(fgs v n k).flatten.Nodup
 |0=>by simp[fgs]
 |k+1=>by
  rw[VK,List.flatten_append];refine List.nodup_append.2 ⟨VM v n k,?_,λa ha b hb e=>?_⟩
  ·split
   ·simp
   ·simp only[List.flatten_cons,List.flatten_nil,xd3]
    exact(QM v k n).imp (λh=>by omega)
  ·have h1:=(W5 v n k a).1 ha
   split at hb
   ·simp at hb
   ·simp only[List.flatten_cons,List.flatten_nil,xd3]at hb
    have:=(KW v k n b).1 hb;rw[e]at h1;omega
theorem qaY(v:Nat×(Nat→Nat))(n:Nat):∀k g,g∈fgs v n k→(g≠[]∧g.Pairwise (· < ·))∧g.length≤n
 |0,g,h=>by simp[fgs]at h
 |k+1,g,h=>by
  rw[VK,xd4]at h;rcases h with h|h
  ·exact qaY v n k g h
  ·split at h
   ·simp at h
   ·rename_i e;rw[List.mem_singleton.1 h];exact⟨⟨e,QM v k n⟩,qeX v k n⟩
theorem qpC{v:Nat×(Nat→Nat)}(h:r<8):fky v r<8:=by
 unfold fky;split
 ·exact h
 ·omega
end Go.Tn
end
