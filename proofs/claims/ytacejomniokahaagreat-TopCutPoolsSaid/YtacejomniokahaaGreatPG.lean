/- A part of the proof. -/
import Derived.Test.YtacejomniokahaaGreatProg
import Derived.Test.YtacejomniokahaaGreatPE
import Derived.Test.YtacejomniokahaaGreatPF
import Derived.Test.YtacejomniokahaaGreatPC
open Nat renaming reduceMul→xa0,reduceAdd→xa1,reduceEqDiff→xa2,reduceLT→xa3,reduceLeDiff→xa4,le_refl→xa5,eq_of_beq_eq_true→xa6,le_of_ble_eq_true→xa7,zero_add→xb0,add_zero→xb1,add_assoc→xb2,lt_irrefl→xb4,zero_le→xb6,le_trans→xc1,le_succ→xc4
open List renaming getD_eq_getElem?_getD→xc6,getElem?_eq_getElem→xc7,length_append→xc8,getElem?_append_left→xc9,getElem?_append_right→xd0,mem_append→xd4,length_replicate→xd8,length_take→xd9,mem_singleton→xe0,length_map→xe1
open Bool renaming and_eq_true→xe6,false_eq_true→xe7,and_true→xf1,false_or→xf4
open Go.Sx.SV renaming val→Ψ
open Go.Value renaming int→Φ
open Go.IntKind renaming i64→Γ
set_option linter.unusedVariables false
set_option linter.unusedSimpArgs false
set_option linter.defProp false
set_option maxRecDepth 1000000
set_option maxHeartbeats 16000000
section
namespace Go.Tn
open Go.Proofs
open Go.Sx
def pc(m:Nat):Nat:=(m.testBit 0).toNat+(m.testBit 1).toNat+(m.testBit 2).toNat+(m.testBit 3).toNat+(m.testBit 4).toNat+(m.testBit 5).toNat+(m.testBit 6).toNat+(m.testBit 7).toNat
theorem qqC(H:List (Nat×Blk))(id oid n nn i j:Nat)(row:Nat→Nat→SV)(hn:n≤100000)(hnn:n≤nn)(hij:i<j)(hj:j≤n)(hb:blk H oid=some (.rows 3 1 nn row))(hid:oid<id)(hone:∀x,x<n→∃v:Int,row x 0=Ψ (Φ Γ v)) :
  EffVC Tryz.prog 186 [.vec oid n 1,Ψ (Φ Γ (i:Nat)),Ψ (Φ Γ (j:Nat))] H id (λhp' nid' res=>nid'=id+60∧res=.vec oid (n -(j - i)) 1∧∃r,(∀x,x<nn→r x 0=if n -(j - i)≤x∧x<n then Ψ (Φ Γ 0)else gO row i j (n - j) x 0)∧hp'=setBlk H oid (.rows 3 1 nn r)):=by
 refine wo (qV [(5,[(0,0)]),(6,[(0,0)])]) follows Tryz.func186 rfl Ωb Ωb (by rw[Tryz.ntmps186];simp) λout=>?_;have NB:=(nmA hid:_∧_);have hne:=decide_eq_false (Ω:¬((i:Nat):Int)=(j:Nat));(repeat' first|refine sD ?_ ?_<;>intro _|refine aAe ?_|simp -dsimp only[↓RP,RQ,xa0,reduceIte,reduceCtorEq,xa1,xa2,xa3,xa4,hne,hb,↓RY,NB,QÀ,qR]);have hvf:z9 ((j:Nat):Int) ((n:Nat):Int) oid 1=.que oid j (n - j) 1:=by
  unfold z9
  grind
 have hvt:z9 0 ((i:Nat):Int) oid 1=.vec oid i 1:=by unfold z9;rw[if_pos rfl];rfl
 have hd1:n -(j - i)=i+(n - j):=by omega
 have hone2:oneRows (n - j) 1 λx y=>row (j+x) y:=λx y hx hy=>by
  obtain rfl:y=0:=by omega
  obtain⟨v,hv⟩:=hone (j+x) Ω;show oneCell (row (j+x) 0)=true;rw[hv];rfl
 refine wq follows (λm st=>∃s0 hp,(m.testBit 6=false→hp=H)∧(m.testBit 6=true→hp=setBlk H oid (.rows 3 1 nn (gO row i j (n - j))))∧(m.testBit 7=false→s0=.vec oid n 1)∧(m.testBit 7=true→s0=.vec oid (i+(n - j)) 1)∧
  st=⟨[(0,s0),(1,Ψ (Φ Γ (i:Nat))),(2,Ψ (Φ Γ (j:Nat))),(7,Ψ (Φ Γ (n:Nat))),(20,up (m.testBit 0) (.vec oid n 1)),(21,up (m.testBit 1) (Ψ (Φ Γ (i:Nat)))),(22,up (m.testBit 2) (.vec oid i 1)),(23,up (m.testBit 3) (.vec oid n 1)),(24,up (m.testBit 4) (Ψ (Φ Γ (j:Nat)))),(25,up (m.testBit 5) (.que oid j (n - j) 1)),(26,up (m.testBit 6) (.vec oid (i+(n - j)) 1))],hp,id+13+pc m⟩) (ms:=[0,0,3,0,0,24,63,127]) Ωb Ωb (vm (fr':=[(0,.vec oid n 1),(1,Ψ (Φ Γ (i:Nat))),(2,Ψ (Φ Γ (j:Nat))),(7,Ψ (Φ Γ (n:Nat))),(20,.top),(21,.top),(22,.top),(23,.top),(24,.top),(25,.top),(26,.top)]) Ωd (SubHp.refl H)) ⟨_,_,λ_=>rfl,λh=>(by simp at h),λ_=>rfl,λh=>(by simp at h),by simp[pc,Go.Sx.up]⟩ (zZ ?_<|zZ ?_<|zZ ?_<|zZ ?_<|zZ ?_<|zZ ?_<|zZ ?_<|zZ ?_<|qbN) ?_
 ·rintro m st ⟨s0,hp,g1,g2,g3,g4,rfl⟩ hcl hbit hd
  refine⟨_,Weak.refl _ _,?_⟩;unfold opH;rw[zu];simp only[hbit,qZ,qN];have h7:m.testBit 7=false:=by
   cases h:m.testBit 7 with
   |false=>rfl
   |true=>have:=hcl 7 0 Ωq h;rw[hbit]at this;cases this
  rw[g3 h7];refine .inl ?_;(repeat' first|refine sD ?_ ?_<;>intro _|refine aAe ?_|simp -dsimp only[↓RP,RQ,xa0,reduceIte,reduceCtorEq,xa1,xa2,xa3,xa4,hvf,hvt,↓RY,NB,QÀ,qR]);refine⟨_,Weak.refl _ _,.vec oid n 1,hp,λh=>g1 Ωl,λh=>g2 Ωl,λh=>rfl,λh=>(by rw[tb,h7]at h;simp at h),?_⟩;have hpc:pc (m ||| 2^0)=pc m+1:=by unfold pc;simp only[Qqq,xa2,qZ,qN,reduceCtorEq,hbit,Bool.toNat_true,Bool.toNat_false]<;>omega
  rw[hpc];simp only[Qqq,xa2,qZ,qN,reduceCtorEq,hbit,xb2]
 ·rintro m st ⟨s0,hp,g1,g2,g3,g4,rfl⟩ hcl hbit hd
  refine⟨_,Weak.refl _ _,?_⟩;unfold opH;rw[zu];simp only[hbit,qZ,qN];refine .inl ?_;(repeat' first|refine sD ?_ ?_<;>intro _|refine aAe ?_|simp -dsimp only[↓RP,RQ,xa0,reduceIte,reduceCtorEq,xa1,xa2,xa3,xa4,hvf,hvt,↓RY,NB,QÀ,qR]);refine⟨_,Weak.refl _ _,s0,hp,λh=>g1 Ωl,λh=>g2 Ωl,λh=>g3 Ωl,λh=>g4 Ωl,?_⟩;have hpc:pc (m ||| 2^1)=pc m+1:=by unfold pc;simp only[Qqq,xa2,qZ,qN,reduceCtorEq,hbit,Bool.toNat_true,Bool.toNat_false]<;>omega
  rw[hpc];simp only[Qqq,xa2,qZ,qN,reduceCtorEq,hbit,xb2]
 ·rintro m st ⟨s0,hp,g1,g2,g3,g4,rfl⟩ hcl hbit hd
  have q0:=hd 0 Ωq Ωq;have q1:=hd 1 Ωq Ωq;refine⟨_,Weak.refl _ _,?_⟩;unfold opH;rw[zu];simp only[q0,q1,hbit,qZ,qN];refine .inl ?_;(repeat' first|refine sD ?_ ?_<;>intro _|refine aAe ?_|simp -dsimp only[↓RP,RQ,xa0,reduceIte,reduceCtorEq,xa1,xa2,xa3,xa4,hvf,hvt,↓RY,NB,QÀ,qR]);refine⟨_,Weak.refl _ _,s0,hp,λh=>g1 Ωl,λh=>g2 Ωl,λh=>g3 Ωl,λh=>g4 Ωl,?_⟩;have hpc:pc (m ||| 2^2)=pc m+1:=by unfold pc;simp only[Qqq,xa2,qZ,qN,reduceCtorEq,q0,q1,hbit,Bool.toNat_true,Bool.toNat_false]<;>omega
  rw[hpc];simp only[Qqq,xa2,qZ,qN,reduceCtorEq,q0,q1,hbit,xb2]
 ·rintro m st ⟨s0,hp,g1,g2,g3,g4,rfl⟩ hcl hbit hd
  refine⟨_,Weak.refl _ _,?_⟩;unfold opH;rw[zu];simp only[hbit,qZ,qN];have h7:m.testBit 7=false:=by
   cases h:m.testBit 7 with
   |false=>rfl
   |true=>have:=hcl 7 3 Ωq h;rw[hbit]at this;cases this
  rw[g3 h7];refine .inl ?_;(repeat' first|refine sD ?_ ?_<;>intro _|refine aAe ?_|simp -dsimp only[↓RP,RQ,xa0,reduceIte,reduceCtorEq,xa1,xa2,xa3,xa4,hvf,hvt,↓RY,NB,QÀ,qR]);refine⟨_,Weak.refl _ _,.vec oid n 1,hp,λh=>g1 Ωl,λh=>g2 Ωl,λh=>rfl,λh=>(by rw[tb,h7]at h;simp at h),?_⟩;have hpc:pc (m ||| 2^3)=pc m+1:=by unfold pc;simp only[Qqq,xa2,qZ,qN,reduceCtorEq,hbit,Bool.toNat_true,Bool.toNat_false]<;>omega
  rw[hpc];simp only[Qqq,xa2,qZ,qN,reduceCtorEq,hbit,xb2]
 ·rintro m st ⟨s0,hp,g1,g2,g3,g4,rfl⟩ hcl hbit hd
  refine⟨_,Weak.refl _ _,?_⟩;unfold opH;rw[zu];simp only[hbit,qZ,qN];refine .inl ?_;(repeat' first|refine sD ?_ ?_<;>intro _|refine aAe ?_|simp -dsimp only[↓RP,RQ,xa0,reduceIte,reduceCtorEq,xa1,xa2,xa3,xa4,hvf,hvt,↓RY,NB,QÀ,qR]);refine⟨_,Weak.refl _ _,s0,hp,λh=>g1 Ωl,λh=>g2 Ωl,λh=>g3 Ωl,λh=>g4 Ωl,?_⟩;have hpc:pc (m ||| 2^4)=pc m+1:=by unfold pc;simp only[Qqq,xa2,qZ,qN,reduceCtorEq,hbit,Bool.toNat_true,Bool.toNat_false]<;>omega
  rw[hpc];simp only[Qqq,xa2,qZ,qN,reduceCtorEq,hbit,xb2]
 ·rintro m st ⟨s0,hp,g1,g2,g3,g4,rfl⟩ hcl hbit hd
  have q3:=hd 3 Ωq Ωq;have q4:=hd 4 Ωq Ωq;refine⟨_,Weak.refl _ _,?_⟩;unfold opH;rw[zu];simp only[q3,q4,hbit,qZ,qN];refine .inl ?_;(repeat' first|refine sD ?_ ?_<;>intro _|refine aAe ?_|simp -dsimp only[↓RP,RQ,xa0,reduceIte,reduceCtorEq,xa1,xa2,xa3,xa4,hvf,hvt,↓RY,NB,QÀ,qR]);refine⟨_,Weak.refl _ _,s0,hp,λh=>g1 Ωl,λh=>g2 Ωl,λh=>g3 Ωl,λh=>g4 Ωl,?_⟩;have hpc:pc (m ||| 2^5)=pc m+1:=by unfold pc;simp only[Qqq,xa2,qZ,qN,reduceCtorEq,q3,q4,hbit,Bool.toNat_true,Bool.toNat_false]<;>omega
  rw[hpc];simp only[Qqq,xa2,qZ,qN,reduceCtorEq,q3,q4,hbit,xb2]
 ·rintro m st ⟨s0,hp,g1,g2,g3,g4,rfl⟩ hcl hbit hd
  have q2:=hd 2 Ωq Ωq;have q5:=hd 5 Ωq Ωq;refine⟨_,Weak.refl _ _,?_⟩;unfold opH;rw[zu];simp only[q2,q5,hbit,qZ,qN];rw[g1 hbit];refine .inr ⟨rfl,.inl (qmD (id:=oid) (i0:=i) (j0:=j) (n':=nn) (m:=n - j) (k:=1) (e:=3) (row:=row) qaj Ω rfl rfl hb Ω Ω hone2 ?_)⟩;refine⟨_,QA _ _ (id+13+(pc m+1)) (by simp only[St.putI];omega),s0,setBlk H oid (.rows 3 1 nn (gO row i j (n - j))),λh=>(by rw[tb]at h;simp at h),λh=>rfl,λh=>g3 Ωl,λh=>g4 Ωl,?_⟩;have hpc:pc (m ||| 2^6)=pc m+1:=by unfold pc;simp only[Qqq,xa2,qZ,qN,reduceCtorEq,q2,q5,hbit,Bool.toNat_true,Bool.toNat_false]<;>omega
  rw[show pc (m ||| 2^(0+1+1+1+1+1+1))=pc m+1 from hpc];simp only[xa1,Qqq,xa2,qZ,qN,reduceCtorEq,q2,q5,hbit,xb2];simp[St.putI,putIn]
 ·rintro m st ⟨s0,hp,g1,g2,g3,g4,rfl⟩ hcl hbit hd
  have q6:=hd 6 Ωq Ωq;refine⟨_,Weak.refl _ _,?_⟩;unfold opH;rw[zu];simp only[q6,hbit,qZ,qN];refine .inl ?_;(repeat' first|refine sD ?_ ?_<;>intro _|refine aAe ?_|simp -dsimp only[↓RP,RQ,xa0,reduceIte,reduceCtorEq,xa1,xa2,xa3,xa4,hvf,hvt,↓RY,NB,QÀ,qR]);refine⟨_,Weak.refl _ _,.vec oid (i+(n - j)) 1,hp,λh=>g1 Ωl,λh=>g2 Ωl,λh=>(by rw[tb]at h;simp at h),λh=>rfl,?_⟩;have hpc:pc (m ||| 2^7)=pc m+1:=by unfold pc;simp only[Qqq,xa2,qZ,qN,reduceCtorEq,q6,hbit,Bool.toNat_true,Bool.toNat_false]<;>omega
  rw[hpc];simp only[Qqq,xa2,qZ,qN,reduceCtorEq,q6,hbit,xb2]
 ·rintro m st' ⟨s0,hp,g1,g2,g3,g4,rfl⟩ hall
  have h7:=hall 7 Ωq;have h6:=hall 6 Ωq;rw[g2 h6,g4 h7];refine⟨_,Weak.refl _ _,?_⟩;have hpc:pc m=8:=by unfold pc;simp only[hall 0 Ωq,hall 1 Ωq,hall 2 Ωq,hall 3 Ωq,hall 4 Ωq,hall 5 Ωq,h6,h7];rfl
  rw[hpc];simp only[hall 0 Ωq,hall 1 Ωq,hall 2 Ωq,hall 3 Ωq,hall 4 Ωq,hall 5 Ωq,h6,h7,qZ];have eH:∀b,blk (setBlk H oid b) oid=some b:=λb=>qdU hb;(repeat' first|refine sD ?_ ?_<;>intro _|refine aAe ?_|simp -dsimp only[↓RP,RQ,xa0,reduceIte,reduceCtorEq,xa1,xa2,xa3,xa4,eH,↓RY,NB,QÀ,qR]);refine ZS (qK ?_);(repeat' first|refine sD ?_ ?_<;>intro _|refine aAe ?_|simp -dsimp only[↓RP,RQ,xa0,reduceIte,reduceCtorEq,xa1,xa2,xa3,xa4,eH,↓RY,NB,QÀ,qR]);refine qK ?_;(repeat' first|refine sD ?_ ?_<;>intro _|refine aAe ?_|simp -dsimp only[↓RP,RQ,xa0,reduceIte,reduceCtorEq,xa1,xa2,xa3,xa4,eH,↓RY,NB,QÀ,qR]);refine qK ?_;(repeat' first|refine sD ?_ ?_<;>intro _|refine aAe ?_|simp -dsimp only[↓RP,RQ,xa0,reduceIte,reduceCtorEq,xa1,xa2,xa3,xa4,eH,↓RY,NB,QÀ,qR]);refine qK ?_;(repeat' first|refine sD ?_ ?_<;>intro _|refine aAe ?_|simp -dsimp only[↓RP,RQ,xa0,reduceIte,reduceCtorEq,xa1,xa2,xa3,xa4,eH,↓RY,NB,QÀ,qR]);refine g7 rfl (qcA (id:=oid) (n:=i+(n - j)) (n':=nn) (l:=i+(n - j)) (h:=n) (k:=1) (e:=3) (row:=gO row i j (n - j)) (kl:=.i64) (kh:=.i64) qaj Ω rfl Ωag Ωag (eH _) Ω hnn ?_);refine qK ?_;(repeat' first|refine sD ?_ ?_<;>intro _|refine aAe ?_|simp -dsimp only[↓RP,RQ,xa0,reduceIte,reduceCtorEq,xa1,xa2,xa3,xa4,gH,eH,KN,↓RY,NB,QÀ,qR]);refine⟨⟨Ω,rfl⟩,?_⟩;refine⟨_,_,_,weakSU (nid':=id+60) Ω (fr':=[(0,_)]) ⟨.inr rfl,trivial⟩ (SubHp.refl _),rfl,by rw[hd1];rfl,_,λx hx=>?_,rfl⟩
  grind
end Go.Tn
end
section
namespace Go.Tn
open Go.Proofs
open Go.Sx
theorem qgG{P:Program}{O:Ctx}{op:Op}{st st2:St}{K:St→SV→Prop}(hw:Weak O st st2)(hn:st.nid≤st2.nid)(h:OpVC P O op st2 K):OpVC P O op st K:=by
 intro base okc ns r outs a w o ho hi;obtain⟨r',hi'⟩:=hw _ _ _ _ _ _ ⟨r,hi⟩;obtain⟨v,w',h1,st',r2,res,h2,h3,h4⟩:=h base okc ns r' outs a w o ho hi'
 grind
theorem u3:Tryz.prog.underlying 3=some (.int .i64):=by kernel_rfl
theorem qeB{P:Program}{O:Ctx}{t:TypeId}{x:Operand}{e:TypeId}{st:St}{K:St→SV→Prop}(ht:P.underlying t=some (.slice e))(hx:env (Go.Sx.look st.fr) x=.val (.slice none 0 0))(h:K st (Ψ (Φ Γ 0))):OpVC P O (.call ⟨.builtin .cap,#[x],#[t]⟩) st K:=by
 intro base okc ns r outs a w o ho hi;have hu:=hi.env x;rw[hx]at hu;generalize hex:a.eval x=u at hu;cases hu;refine⟨Φ Γ 0,w,?_,st,r,_,h,xa5 _,hi,.val _⟩;obtain⟨dst,op,type,pos,aft,guard⟩:=o;simp only[]at ho;subst ho;simp[execOp,Go.resolve,Go.invoke,Go.builtin,hex,Builtin.cap_,run_underlying ht,goInt]
theorem qrI(H:List (Nat×Blk))(id m:Nat)(hm:1≤m)(hm2:m≤100000)(hU:Under H id) :
  EffVC Tryz.prog 394 [.val (.slice none 0 0),Ψ (Φ Γ (m:Nat))] H id (λhp' nid' res=>nid'=id+60∧∃oid r,id≤oid∧oid<nid'∧hp'=(oid,.rows 3 1 m r) :: H∧res=.vec oid 0 1):=by
 refine wo (qV [(3,[(0,0)]),(5,[(0,0)])]) follows Tryz.func394 rfl Ωb Ωb (by rw[Tryz.ntmps394];simp) λout=>?_;have NB:True:=trivial;have h0:=decide_eq_false (Ω:¬((m:Nat):Int)<0);have h1:=decide_eq_true (Ω:(0:Int)<((m:Nat):Int));(repeat' first|refine sD ?_ ?_<;>intro _|refine aAf ?_|simp -dsimp only[↓RP,RQ,xa0,reduceIte,reduceCtorEq,xa1,xa2,xa3,xa4,h0,↓RY,NB,QÀ,qR]);refine ZS (qK ?_);(repeat' first|refine sD ?_ ?_<;>intro _|refine aAf ?_|simp -dsimp only[↓RP,RQ,xa0,reduceIte,reduceCtorEq,xa1,xa2,xa3,xa4,↓RY,NB,QÀ,qR]);refine qK ?_;(repeat' first|refine sD ?_ ?_<;>intro _|refine aAf ?_|simp -dsimp only[↓RP,RQ,xa0,reduceIte,reduceCtorEq,xa1,xa2,xa3,xa4,↓RY,NB,QÀ,qR]);refine g7 rfl (qeB (zF qaj).1 Ωag ?_);refine qK ?_;(repeat' first|refine sD ?_ ?_<;>intro _|refine aAf ?_|simp -dsimp only[↓RP,RQ,xa0,reduceIte,reduceCtorEq,xa1,xa2,xa3,xa4,↓RY,NB,QÀ,qR]);refine qK ?_;(repeat' first|refine sD ?_ ?_<;>intro _|refine aAf ?_|simp -dsimp only[↓RP,RQ,xa0,reduceIte,reduceCtorEq,xa1,xa2,xa3,xa4,↓RY,NB,QÀ,qR]);refine qK ?_;(repeat' first|refine sD ?_ ?_<;>intro _|refine aAf ?_|simp -dsimp only[↓RP,RQ,xa0,reduceIte,reduceCtorEq,xa1,xa2,xa3,xa4,↓RY,NB,QÀ,qR]);refine qK ?_;(repeat' first|refine sD ?_ ?_<;>intro _|refine aAf ?_|simp -dsimp only[↓RP,RQ,xa0,reduceIte,reduceCtorEq,xa1,xa2,xa3,xa4,↓RY,NB,QÀ,qR]);refine qK ?_;(repeat' first|refine sD ?_ ?_<;>intro _|refine aAf ?_|simp -dsimp only[↓RP,RQ,xa0,reduceIte,reduceCtorEq,xa1,xa2,xa3,xa4,gH,h1,↓RY,NB,QÀ,qR]);refine ZS (qK ?_);(repeat' first|refine sD ?_ ?_<;>intro _|refine aAf ?_|simp -dsimp only[↓RP,RQ,xa0,reduceIte,reduceCtorEq,xa1,xa2,xa3,xa4,↓RY,NB,QÀ,qR]);refine qK ?_;(repeat' first|refine sD ?_ ?_<;>intro _|refine aAf ?_|simp -dsimp only[↓RP,RQ,xa0,reduceIte,reduceCtorEq,xa1,xa2,xa3,xa4,↓RY,NB,QÀ,qR]);refine g7 rfl (qeB (zF qaj).1 Ωag ?_);refine qK ?_;(repeat' first|refine sD ?_ ?_<;>intro _|refine aAf ?_|simp -dsimp only[↓RP,RQ,xa0,reduceIte,reduceCtorEq,xa1,xa2,xa3,xa4,↓RY,NB,QÀ,qR]);refine qK ?_;(repeat' first|refine sD ?_ ?_<;>intro _|refine aAf ?_|simp -dsimp only[↓RP,RQ,xa0,reduceIte,reduceCtorEq,xa1,xa2,xa3,xa4,↓RY,NB,QÀ,qR]);refine g7 rfl (qgG (yU (t:=3) (k:=1) (d:=20) (λ_ _=>.top) (by simp[Go.Sx.look,putIn])) (xc4 _) (qih (id:=id+16) (row:=λ_ _=>.top) (n':=0) (n:=0) (m:=m) (kn:=.i64) (kq:=.i64) qaj ty3 ?hu3 ?hx ?hy ?hb (xa5 _) Ω (by rw[by3];omega) ?hid ?_))
 case hu3=>exact u3
 case hx=>simp[env,Go.Sx.look,putFr]
 case hy=>simp[env,Go.Sx.look,putFr,putIn]
 case hb=>simp[blk]
 case hid=>simp
 have hdr:dropBlk H (id+16)=H:=zg (hU.none Ω);have hvt:∀k,z9 0 0 k 1=.vec k 0 1:=λk=>by unfold z9;rw[if_pos rfl];rfl
 have hlt:(id+16:Nat)<id+17:=by omega
 simp only[dropBlk,if_true,hdr];refine qK ?_;(repeat' first|refine sD ?_ ?_<;>intro _|refine aAf ?_|simp -dsimp only[↓RP,RQ,xa0,reduceIte,reduceCtorEq,xa1,xa2,xa3,xa4,hvt,↓RY,NB,QÀ,qR]);refine qK ?_;(repeat' first|refine sD ?_ ?_<;>intro _|refine aAf ?_|simp -dsimp only[↓RP,RQ,xa0,reduceIte,reduceCtorEq,xa1,xa2,xa3,xa4,hvt,↓RY,NB,QÀ,qR]);refine qK ?_;(repeat' first|refine sD ?_ ?_<;>intro _|refine aAf ?_|simp -dsimp only[↓RP,RQ,xa0,reduceIte,reduceCtorEq,xa1,xa2,xa3,xa4,hvt,↓RY,NB,QÀ,qR]);refine qK ?_;(repeat' first|refine sD ?_ ?_<;>intro _|refine aAf ?_|simp -dsimp only[↓RP,RQ,xa0,reduceIte,reduceCtorEq,xa1,xa2,xa3,xa4,gH,hvt,↓RY,NB,QÀ,qR]);exact⟨_,_,_,weakSU (nid':=id+60) Ω (fr':=[(0,_)]) ⟨.inr rfl,trivial⟩ (SubHp.refl _),rfl,id+17,_,Ω,Ω,rfl,rfl⟩
def gS(L:Nat→List Int):Nat→List Int
 |0=>[]
 |k+1=>gS L k++L k
theorem kS(L:Nat→List Int)(k:Nat):gS L (k+1)=gS L k++L k:=rfl
theorem qeC(L:Nat→List Int){k n:Nat}(h:k≤n):(gS L k).length≤(gS L n).length:=by
 induction n with
 |zero=>obtain rfl:k=0:=by omega
        omega
 |succ n ih=>
  by_cases e:k=n+1
  ·simp_all
  ·have:=ih Ω;rw[kS,xc8];omega
def lls(n:Nat)(L:Nat→List Int):SV:=.arr false false n 1 (λi _=>.arr false false (L i).length 1 (λj _=>Ψ (Φ Γ ((L i).getD j 0))))
theorem qqD(n:Nat)(L:Nat→List Int)(hn:n≤10000)(h1:1≤(gS L n).length)(h2:(gS L n).length≤100000):zx Tryz.prog 359 [lls n L] (.rows 3 1 (gS L n).length (λx _=>Ψ (Φ Γ ((gS L n).getD x 0)))) (.vec 0 (gS L n).length 1):=by
 refine jJ Tryz.func359 rfl Ωb follows Ωb _ _ _ (by rw[Tryz.ntmps359];simp) (by simp[OldL,Old,lls]) ?_;unfold lls;(repeat' first|refine sD ?_ ?_<;>intro _|refine aA ?_|simp -dsimp only[↓RP,RQ,xa0,reduceIte,reduceCtorEq,xa1,xa2,xa3,xa4,kS,QU]);refine qp (λ(k:Nat)=>k≤n) (λk=>⟨[(0,.arr false false n 1 (λi _=>.arr false false (L i).length 1 (λj _=>Ψ (Φ Γ ((L i).getD j 0))))),(3,Ψ (Φ Γ ((gS L k).length:Nat))),(9,.arr false false n 1 (λi _=>.arr false false (L i).length 1 (λj _=>Ψ (Φ Γ ((L i).getD j 0))))),(10,Ψ (Φ Γ (n:Nat))),(11,Ψ (Φ Γ (k:Nat)))],[],10+20*k⟩) (λk=>n - k) 0 (xb6 _) (weakSU Ωg (by simp[qQ,Go.Sx.look,gS]) (SubHp.refl _)) λk hk=>?_;by_cases hkn:k<n
 ·have hlt:=decide_eq_true (Ω:((k:Nat):Int)<(n:Nat))
  have hle:=qeC L (k:=k+1) hkn;rw[kS,xc8]at hle;have hnn:=decide_eq_false (show ¬(((gS L k).length:Nat):Int)+((L k).length:Nat)<0 by omega);(repeat' first|refine sD ?_ ?_<;>intro _|refine aA ?_|simp -dsimp only[↓RP,RQ,xa0,reduceIte,reduceCtorEq,xa1,xa2,xa3,xa4,hlt,hnn,kS,QU]);refine⟨k+1,hkn,Ω,weakSU Ω (by simp[qQ,Go.Sx.look,kS]) (SubHp.refl _)⟩
 ·obtain rfl:n=k:=by omega
  have hlt:=decide_eq_false (Ω:¬((n:Nat):Int)<(n:Nat));(repeat' first|refine sD ?_ ?_<;>intro _|refine aA ?_|simp -dsimp only[↓RP,RQ,xa0,reduceIte,reduceCtorEq,xa1,xa2,xa3,xa4,hlt,kS,QU]);refine gG Ωr (qrI [] _ (gS L n).length h1 h2 Under.nil) λhp' nid' res hQ=>?_;obtain⟨rfl,oid,r0,q1,q2,rfl,rfl⟩:=hQ;(repeat' first|refine sD ?_ ?_<;>intro _|refine aA ?_|simp -dsimp only[↓RP,RQ,xa0,reduceIte,reduceCtorEq,xa1,xa2,xa3,xa4,kS,QU]);refine qp (λ(z:Nat×Nat×(Nat→Nat→SV))=>z.1≤n∧z.2.1<100+20*n+20*z.1∧∀x,x<(gS L z.1).length→z.2.2 x 0=Ψ (Φ Γ ((gS L z.1).getD x 0))) (λz=>⟨[(0,.arr false false n 1 (λi _=>.arr false false (L i).length 1 (λj _=>Ψ (Φ Γ ((L i).getD j 0))))),(6,.vec z.2.1 (gS L z.1).length 1),(25,.arr false false n 1 (λi _=>.arr false false (L i).length 1 (λj _=>Ψ (Φ Γ ((L i).getD j 0))))),(26,Ψ (Φ Γ (n:Nat))),(27,Ψ (Φ Γ (z.1:Nat)))],[(z.2.1,.rows 3 1 (gS L z.1).length z.2.2)],100+20*n+20*z.1⟩) (λz=>n - z.1) (0,oid,r0) ⟨xb6 _,Ωc,λx hx=>(by simp[gS]at hx)⟩ (weak [] [] ?hw1 ?hw2 ?hw3 rfl) λz hz=>?_
  case hw1=>(simp -dsimp only[↓RP,RQ,xa0,reduceIte,reduceCtorEq,xa1,xa2,xa3,xa4,gS]);all_goals (try simp[gS]);omega
  case hw2=>(simp -dsimp only[↓RP,RQ,xa0,reduceIte,reduceCtorEq,xa1,xa2,xa3,xa4,gS]);all_goals (try simp[gS]);omega
  case hw3=>(simp -dsimp only[↓RP,RQ,xa0,reduceIte,reduceCtorEq,xa1,xa2,xa3,xa4]);all_goals (try simp)
  obtain⟨k,oid1,r⟩:=z;obtain⟨z1,z2,z3⟩:=hz;dsimp only at z1 z2 z3;dsimp only;by_cases hkn:k<n
  ·have hlt:=decide_eq_true (Ω:((k:Nat):Int)<(n:Nat))
   have hle:=qeC L (k:=k+1) hkn;rw[kS,xc8]at hle;(repeat' first|refine sD ?_ ?_<;>intro _|refine aA ?_|simp -dsimp only[↓RP,RQ,xa0,reduceIte,reduceCtorEq,xa1,xa2,xa3,xa4,hlt,kS,QU]);refine⟨⟨⟨.inr trivial,xa5 _,Ω⟩,Ω⟩,by simp only[InK];omega,(k+1,100+20*n+20*k+1+3+2,_),⟨Ωc,Ωc,λx hx=>?_⟩,Ωc,weakSU Ωc (by simp[qQ,Go.Sx.look,kS]) (by dsimp only;rw[kS,xc8];exact SubHp.refl _)⟩;dsimp only at hx ⊢;rw[kS,xc8]at hx;rw[kS];by_cases e:x<(gS L k).length
   ·simp_all
   ·grind
  ·obtain rfl:n=k:=by omega
   have hlt:=decide_eq_false (Ω:¬((n:Nat):Int)<(n:Nat));(repeat' first|refine sD ?_ ?_<;>intro _|refine aA ?_|simp -dsimp only[↓RP,RQ,xa0,reduceIte,reduceCtorEq,xa1,xa2,xa3,xa4,hlt,kS,QU]);refine⟨oid1,_,by simp[blk];rfl,?_,?_⟩
   ·simp only[SubB,true_and]
    exact⟨xa5 _,λi j hi hj=>by
      obtain rfl:j=0:=by omega
      rw[z3 i hi];simp[Go.Sx.Sub]⟩
   ·simp[SubO]
end Go.Tn
end
section
namespace Go.Sx
open Go.Proofs
open Go.RowKit Go.Tn
noncomputable section
variable{ρ:Q}
theorem qkb{P:Program}{O:Ctx}{g:FuncId}{args pats:List SV}{b:Blk}{res:SV}{st:St}{K:St→SV→Prop}(hc:zx P g pats b res)(hs:NewOk st.hp pats args b res)(hk:K ⟨st.fr,(st.nid,b) :: st.hp,st.nid+1⟩ (setId st.nid res)):ky P O g args st K:=by
 intro base okc ns r outs a w vs hI hl ha;have hrun:(callFunc g vs).run P w=.ok (.enter g vs) w:=by
  obtain⟨⟨fn,hf,hname,hbody⟩,_⟩:=hc;have:fn.body.isNone=false:=by cases hb:fn.body<;>simp_all
  simp only[callFunc,Sem.run_bind,run_program,Result.andThen_ok,hf,hname,xe7,if_false,this,Sem.run_pure]
 refine⟨hrun,?_⟩;have := J5 (o := ⟨some 0, .move (.const undef), 0, "", #[], none⟩) (a := { a with tmps := #[undef] }) (Q := λ_ _ _ => False) hI.sat hl ha hc hs (id := st.nid) (xb4 _) (hp2 := (st.nid, b) :: st.hp) ΩS (λj hj => by simp only [blk]; rw [if_neg (Nat.ne_of_lt hj)])
  (K:=λa' w'=>∃st' r' res,K st' res∧st.nid≤st'.nid∧InvR O base okc ns st'.nid r' outs st' a w'∧Rep r' (· < st'.nid) (Gd base okc r' (· < st'.nid) st'.hp w') w' res (a'.tmps.getD 0 undef)) (λv w' r' hst hrep=>by
   rw[gD]at hst hrep;have h2:=(hI.step hst (λi x hx=>by
    simp only[blk]at hx;split at hx
    ·omega
    ·exact Nat.lt_succ_of_lt (hI.keys i x hx)) (xc4 _) (d:=none) (λt ht=>by cases ht) (.val undef)).nid (st.nid+1)
   exact⟨⟨st.fr,(st.nid,b) :: st.hp,st.nid+1⟩,r',_,hk,xc4 _,h2,by simpa[Act.put]using hrep⟩)
 rw[hrun,Oper.upon_enter]at this;refine this.mono λe w' h=>?_;cases e with
 |returned v=>
  obtain⟨st',r',res',h1,h2,h3,h4⟩:=h;exact⟨v,st',r',res',rfl,h1,h2,h3,by simpa[Act.put]using h4⟩
 |panicked c=>exact h.elim
 |outgrown=>obtain⟨_,_,h⟩:=h;exact h.elim
theorem qaF{H:List (Nat×Blk)}{x:SV}{obl:Prop}{n k:Nat}{row p:Nat→Nat→SV}(h:rowsOf H x=some (obl,n,k,row))(ho:obl)(hs:∀i j,i<n→j<k→Go.Sx.Sub H (p i j) (row i j)):Go.Sx.Sub H (.arr false false n k p) x:=by
 unfold rowsOf at h;split at h
 ·cases h
  unfold Go.Sx.Sub
  simp_all
 ·split at h
  ·rename_i hb
   cases h;obtain⟨h1,rfl⟩:=ho;simp only[Go.Sx.Sub,hb]
   simp_all
  ·cases h
 ·split at h
  ·rename_i hb
   cases h;obtain⟨h1,rfl⟩:=ho;simp only[Go.Sx.Sub,hb]
   simp_all
  ·cases h
 ·split at h
  ·rename_i hb
   cases h;simp only[Go.Sx.Sub,hb]
   simp_all
  ·cases h
 ·split at h
  ·rename_i hn
   cases h;simp only[Go.Sx.Sub]
   simp_all
  ·cases h
 ·cases h
def qpa(args:List SV)(hp:Tr 6 XB)(nid:Nat)(k:SV→Tr 6 XB→Nat→R):R:=
 match args with
 |[.vec id n 1,Ψ (Φ Γ (.ofNat i)),Ψ (Φ Γ (.ofNat j))]=>(match hp.find id with
  |some (.rows 3 1 nn l)=>ql 560 (Nat.ble (Nat.succ i) j) (ql 561 (Nat.ble j n) (ql 562 (Nat.ble n nn) (ql 563 (Nat.ble n 1000) (qez l (qm (n -(j - i)) λm=>gI (l.take i++(l.take n).drop j++List.replicate (j - i) (Ψ (Φ Γ (.ofNat 0)))++l.drop n) λl=>zf (some (.rows 3 1 nn l)) 22 hp id λhp=>k (.vec id m 1) hp nid)))))
  |_=>.bad 564 0)
 |_=>.bad 565 0
theorem qmE{l:List SV}{i j n nn x:Nat}(hl:l.length=nn)(hij:i<j)(hj:j≤n)(hn:n≤nn)(hx:x<nn):(l.take i++(l.take n).drop j++List.replicate (j - i) (Ψ (Φ Γ (.ofNat 0)))++l.drop n).getD x .top=if n -(j - i)≤x∧x<n then Ψ (Φ Γ 0)else if i≤x∧x<i+(n - j)then l.getD (j+(x - i)) .top else l.getD x .top:=by
 have l1:(l.take i).length=i:=by rw[xd9];omega
 have l2:((l.take n).drop j).length=n - j:=by rw[List.length_drop,xd9];omega
 have l3:(l.take i++(l.take n).drop j).length=n -(j - i):=by rw[xc8,l1,l2];omega
 have l4:(l.take i++(l.take n).drop j++List.replicate (j - i) (Ψ (Φ Γ (.ofNat 0)))).length=n:=by rw[xc8,l3,xd8];omega
 simp only[xc6];by_cases c1:n≤x
 ·rw[xd0 Ω,l4,List.getElem?_drop,if_neg Ω,if_neg Ω,show n+(x - n)=x by omega]
 ·rw[xc9 Ω]
  by_cases c2:n -(j - i)≤x
  ·rw[if_pos ⟨c2,Ω⟩,xd0 Ω,l3,List.getElem?_replicate,if_pos Ω];rfl
  ·rw[if_neg Ω,xc9 Ω]
   by_cases c3:i≤x
   ·rw[if_pos ⟨c3,Ω⟩,xd0 Ω,l1,List.getElem?_drop,List.getElem?_take_of_lt Ω]
   ·rw[if_neg Ω,xc9 Ω,List.getElem?_take_of_lt Ω]
theorem qmF:yb Tryz.prog 186 qpa:=by
 intro ρ LM O args hp k st K hH h hk;unfold qpa at h;split at h
 ·rename_i oid n i j
  split at h
  ·rename_i nn l hf
   obtain⟨a1,h⟩:=qe h;obtain⟨a2,h⟩:=qe h;obtain⟨a3,h⟩:=qe h;obtain⟨a4,h⟩:=qe h;obtain⟨h,b1⟩:=Jl h;rw[qj,qX]at h;obtain⟨hp1,p1,h⟩:=qC _ _ _ _ h;have hij:i<j:=xa7 a1;have hj:=xa7 a2;have hn:=xa7 a3;have hN:=xa7 a4;obtain⟨row,hb,lr,gr⟩:=hH.rows hf;rw[Nat.mul_one]at lr;intro base okc ns r outs a w vs hI hlen hv;have keys:=hI.keys;have hrow:∀x,x<nn→row x 0=l.getD x .top:=λx hx=>by
    simp_all
   have E:=qqC st.hp st.nid oid n nn i j row Ω hn hij hj hb (keys _ _ hb) (λx hx=>by rw[hrow x Ω];exact b1 x Ω);refine Ji (E O st.fr) (λst' sv hself hq=>?_) base okc ns r outs a w vs hI hlen hv;obtain⟨fr',hp',nid'⟩:=st';obtain⟨q0,q1,q2,rr,q3,q4⟩:=hq;simp only[]at q0 q1 q2 q4;subst q0 q1 q2 q4;have hval:∀x,x<nn→rr x 0=(l.take i++(l.take n).drop j++List.replicate (j - i) (Ψ (Φ Γ (.ofNat 0)))++l.drop n).getD x .top:=λx hx=>by
    rw[q3 x hx,qmE lr hij hj hn hx];by_cases c:n -(j - i)≤x∧x<n
    ·rw[if_pos c,if_pos c]
    ·rw[if_neg c,if_neg c]
     unfold gO;by_cases c2:i≤x∧x<i+(n - j)
     ·rw[if_pos c2,if_pos c2,hrow _ Ω]
     ·rw[if_neg c2,if_neg c2,hrow _ hx]
   refine⟨st.nid,setBlk st.hp oid (.rows 3 1 nn rr),.vec oid (n -(j - i)) 1,st.nid,rfl,xa5 _,λid x hx=>?_,?_,xa5 _,hk _ hp1 _ _ (λid b hbb=>?_) h⟩
   ·have hx':=hx
    rw[qq]at hx;split at hx
    ·rename_i e
     subst e;rw[hb]at hx;cases hx;refine⟨.inl ⟨keys _ _ hb,hx'⟩,rfl,rfl,xa5 _,λy z hy hz=>?_⟩;obtain rfl:z=0:=by omega
     rw[q3 y hy];split
     ·simp[Wk]
     ·unfold gO
      split
      ·rw[hrow _ Ω]
       obtain⟨v,hv⟩:=b1 (j+(y - i)) Ω;rw[hv];simp[Wk]
      ·rw[hrow _ hy]
       obtain⟨v,hv⟩:=b1 y Ω;rw[hv];simp[Wk]
    ·exact⟨.inl ⟨keys _ _ hx,hx'⟩,hself _ _ _ (xa5 _) _ _ hx⟩
   ·unfold Wk
    have:=keys _ _ hb;refine⟨this,?_,rfl,rfl⟩;simp only[ren];rw[if_neg Ω]
   ·rw[p1 id]at hbb
    rw[qq];by_cases e:id=oid
    ·rw[if_pos e]at hbb ⊢
     cases hbb;rw[hb];refine⟨_,rfl,rfl,rfl,rfl,?_,λy z hy hz=>?_⟩
     ·rw[xc8,xc8,xc8,xd9,List.length_drop,xd9,xd8,List.length_drop];omega
     ·obtain rfl:z=0:=by omega
      rw[Nat.mul_one,xb1];exact hval y hy
    ·rw[if_neg e]at hbb ⊢
     exact hH id b hbb
  ·cases h
 ·cases h
def qeD(l:List SV)(f:List Int→R):R:=(List.rec (motive:=λ_=>(List Int→R)→R) (λf=>f []) (λa _ ih f=>match a with
 |Ψ (Φ Γ x)=>YT x λx=>ih λl=>f (x :: l)
 |_=>.bad 570 0) l) f
theorem qaG:∀{l:List SV}{f:List Int→R},qeD l f=.ok ρ→∃m,f m=.ok ρ∧m.length=l.length∧∀j,j<l.length→l.getD j .top=Ψ (Φ Γ (m.getD j 0))
 |[],f,h=>⟨[],h,rfl,λj hj=>by cases hj⟩
 |a :: l,f,h=>by
  have h:(match (generalizing:=false) a with
   |Ψ (Φ Γ x)=>YT x λx=>qeD l λl=>f (x :: l)
   |_=>.bad 570 0)=(.ok ρ:R):=h
  split at h
  ·rename_i x _
   rw[jL]at h;obtain⟨m,h1,h2,h3⟩:=qaG h;refine⟨x :: m,h1,by simp[h2],λj hj=>?_⟩;cases j with
   |zero=>rfl
   |succ j=>exact h3 j (Nat.lt_of_succ_lt_succ hj)
  ·cases h
def qcB(hp:Tr 6 XB)(l:List SV)(f:List (List Int)→R):R:=(List.rec (motive:=λ_=>(List (List Int)→R)→R) (λf=>f []) (λa _ ih f=>Zh hp a λ_ k m=>ql 571 (Nat.beq k 1) (qeD m λx=>ih λl=>f (x :: l))) l) f
theorem VE{hp:Tr 6 XB}{LM:Nat→Option Loop}{H:List (Nat×Blk)}(hH:HRel LM hp H):∀{l:List SV}{f:List (List Int)→R},qcB hp l f=.ok ρ→∃L,f L=.ok ρ∧L.length=l.length∧∀i,i<l.length→Go.Sx.Sub H (.arr false false (L.getD i []).length 1 (λj _=>Ψ (Φ Γ ((L.getD i []).getD j 0)))) (l.getD i .top)
 |[],f,h=>⟨[],h,rfl,λj hj=>by cases hj⟩
 |a :: l,f,h=>by
  have h:Zh hp a (λ_ k m=>ql 571 (Nat.beq k 1) (qeD m λx=>qcB hp l λl=>f (x :: l)))=.ok ρ:=h;obtain⟨obl,n,k,row,m,h1,h2,h3,g1⟩:=vH hH h;obtain⟨e0,g2⟩:=qe g1;have e:=xa6 e0;clear h g1 e0;subst e;obtain⟨x,h,h4,h5⟩:=qaG g2;clear g2;obtain⟨L,h,h6,h7⟩:=VE hH h;refine⟨x :: L,h,by simp[h6],λi hi=>?_⟩;cases i with
  |zero=>
   show Go.Sx.Sub H (.arr false false x.length 1 (λj _=>Ψ (Φ Γ (x.getD j 0)))) a;have hx:x.length=n:=by rw[h4,h3.1,Nat.mul_one]
   rw[hx];refine qaF h1 h2 λy z hy hz=>?_;obtain rfl:z=0:=by omega
   have:=h3.2 y 0 hy Ω;rw[Nat.mul_one,xb1,h5 y Ω]at this;rw[this];simp[Go.Sx.Sub]
  |succ i=>exact h7 i (Nat.lt_of_succ_lt_succ hi)
theorem VF(L:List (List Int)):∀k,k≤L.length→gS (λi=>L.getD i []) k=(L.take k).flatten
 |0,_=>rfl
 |k+1,h=>by
  rw[kS,VF L k Ω,List.take_succ_eq_append_getElem Ω,List.flatten_append,xc6,xc7 Ω];simp
def svI(l:List Int):List SV:=l.map λn=>Ψ (Φ Γ n)
theorem qmG{l:List Int}{i:Nat}(h:i<l.length):(svI l).getD i .top=Ψ (Φ Γ (l.getD i 0)):=by
 unfold svI
 simp_all
def qpb(args:List SV)(hp:Tr 6 XB)(nid:Nat)(k:SV→Tr 6 XB→Nat→R):R:=
 match args with
 |[x]=>Zh hp x λn k1 l=>ql 572 (Nat.beq k1 1) (ql 573 (Nat.ble n 10000) (qcB hp l λL=>Qb (svI L.flatten) λo=>qm o.length λm=>ql 574 (Nat.ble 1 m) (ql 575 (Nat.ble m 100000) (qm nid λnid=>zf (some (.rows 3 1 m o)) 22 hp nid λhp=>qm (Nat.succ nid) λn2=>k (.vec nid m 1) hp n2))))
 |_=>.bad 576 0
theorem qmH:yb Tryz.prog 359 qpb:=by
 intro ρ LM O args hp k st K hH h hk;unfold qpb at h;split at h
 ·rename_i x
  obtain⟨obl,n,k1,row,l,h1,h2,h3,g1⟩:=vH hH h;obtain⟨e0,g2⟩:=qe g1;obtain⟨a1,g3⟩:=qe g2;have e:=xa6 e0;clear h g1 g2 e0;subst e;obtain⟨L,h,h6,h7⟩:=VE hH g3;clear g3;rw[ku,qj]at h;obtain⟨a2,h⟩:=qe h;obtain⟨a3,h⟩:=qe h;rw[qj]at h;obtain⟨hp1,p1,h⟩:=qC _ _ _ _ h;rw[qj]at h;have hn:=xa7 a1;have hm1:=xa7 a2;have hm2:=xa7 a3;have hLn:L.length=n:=by rw[h6,h3.1,Nat.mul_one]
  have hcat:gS (λi=>L.getD i []) n=L.flatten:=by
   rw[VF L n Ω,←hLn,List.take_length]
  have hsl:(svI L.flatten).length=L.flatten.length:=by unfold svI;rw[xe1]
  have C:=qqD n (λi=>L.getD i []) hn (by rw[hcat];omega) (by rw[hcat];omega);rw[hcat]at C;refine qkb C (.inl ⟨?_,by simp[FreshO],by simp[FreshB,Fresh]⟩) ?_
  ·simp only[SubL,and_true]
   exact qaF h1 h2 λi j hi hj=>by
    obtain rfl:j=0:=by omega
    have:=h3.2 i 0 hi Ω
    simp_all
  ·rw[show setId st.nid (.vec 0 L.flatten.length 1)=.vec st.nid (svI L.flatten).length 1 by simp[setId,hsl]]
   refine hk _ hp1 _ _ (λid b hb=>?_) h;rw[p1 id]at hb;simp only[blk];by_cases e:id=st.nid
   ·rw[if_pos e]at hb ⊢
    cases hb;refine⟨_,rfl,rfl,rfl,by rw[hsl],Ωg,λi j hi hj=>?_⟩;obtain rfl:j=0:=by omega
    rw[Nat.mul_one,xb1,qmG Ω]
   ·rw[if_neg e]at hb ⊢
    exact hH id b hb
 ·cases h
end
end Go.Sx
end
section
namespace Go.Tn
open Go.Proofs
open Go.Sx
theorem TYR:True∧qn Tryz.prog 165=some ⟨false,1,some [.map none],.map 213 2⟩∧qD Tryz.prog 165=some ⟨true,[.i .i64,.i .i64],Ψ (Φ Γ 0)⟩∧qn Tryz.prog 167=some ⟨true,16,some [Φ Γ 0,Φ Γ 0,.slice none 0 0,.slice none 0 0,.bool false,Φ Γ 0,Φ Γ 0,Φ Γ 0,Φ Γ 0,.map none,Φ Γ 0,Φ Γ 0,Φ Γ 0,Φ Γ 0,Φ Γ 0,Φ Γ 0],.struct [(0,8,some true),(8,1,some false),(9,1,some false),(10,6,some true)]⟩∧qt Tryz.prog 167=some [(0,8),(8,1),(9,1),(10,6)]∧qn Tryz.prog 213=some ⟨true,2,some [Φ Γ 0,Φ Γ 0],.struct [(0,1,some false),(1,1,some false)]⟩∧qt Tryz.prog 213=some [(0,1),(1,1)]∧qW Tryz.prog 213=some [.i .i64,.i .i64]∧qn Tryz.prog 57=some ⟨true,6,some [Φ Γ 0,Φ Γ 0,Φ Γ 0,Φ Γ 0,Φ Γ 0,Φ Γ 0],.struct [(0,1,some false),(1,1,some false),(2,1,some false),(3,1,some false),(4,1,some false),(5,1,some false)]⟩∧qt Tryz.prog 57=some [(0,1),(1,1),(2,1),(3,1),(4,1),(5,1)]∧qW Tryz.prog 57=some [.i .i64,.i .i64,.i .i64,.i .i64,.i .i64,.i .i64]∧qn Tryz.prog 160=some ⟨false,1,some [.pointer none],.other⟩∧qn Tryz.prog 402=some ⟨true,8,some [Φ Γ 0,Φ Γ 0,Φ Γ 0,Φ Γ 0,Φ Γ 0,Φ Γ 0,Φ Γ 0,Φ Γ 0],.array 8 2 1⟩∧qt Tryz.prog 402=some [(0,1),(1,1),(2,1),(3,1),(4,1),(5,1),(6,1),(7,1)]∧qW Tryz.prog 402=some [.i .i64,.i .i64,.i .i64,.i .i64,.i .i64,.i .i64,.i .i64,.i .i64]∧qF Tryz.prog 3=8:=⟨trivial,Ωb,Ωb,Ωb,Ωb,Ωb,Ωb,Ωb,Ωb,Ωb,Ωb,Ωb,Ωb,Ωb,Ωb,Ωb⟩
def tlL(n:Int)(nb:Nat)(f q:Nat→Int)(fav:Bool)(c d st:Int)(fv:Int)(M:SV)(a0 a1 a2 a3 a4 a5:Int):List SV:=[Ψ (Φ Γ 0),Ψ (Φ Γ n),za nb f (λ_=>-1) q,.val (.slice none 0 0),.val (.bool fav),Ψ (Φ Γ c),Ψ (Φ Γ d),Ψ (Φ Γ st),Ψ (Φ Γ fv),M,Ψ (Φ Γ a0),Ψ (Φ Γ a1),Ψ (Φ Γ a2),Ψ (Φ Γ a3),Ψ (Φ Γ a4),Ψ (Φ Γ a5)]
def tlR(n:Int)(nb:Nat)(f q:Nat→Int)(fav:Bool)(c d st:Int)(fv:Int)(M:SV)(a0 a1 a2 a3 a4 a5:Int):SV:=.ref false 16 (λj=>(tlL n nb f q fav c d st fv M a0 a1 a2 a3 a4 a5).getD j .top)
theorem s16{j:Nat}(h:j<16):j=0∨j=1∨j=2∨j=3∨j=4∨j=5∨j=6∨j=7∨j=8∨j=9∨j=10∨j=11∨j=12∨j=13∨j=14∨j=15:=by omega
theorem qnZ{P:SV→Prop}{n:Int}{nb:Nat}{f q:Nat→Int}{fav:Bool}{c d st:Int}{fv:Int}{M:SV}{a0 a1 a2 a3 a4 a5:Int}(hv:∀v,P (.val v))(hb:P (za nb f (λ_=>-1) q))(hM:P M):∀j,j<16→P ((tlL n nb f q fav c d st fv M a0 a1 a2 a3 a4 a5).getD j .top):=by
 intro j hj;rcases s16 hj with rfl|rfl|rfl|rfl|rfl|rfl|rfl|rfl|rfl|rfl|rfl|rfl|rfl|rfl|rfl|rfl<;>first|exact hb|exact hM|exact hv _
theorem qeE{n:Int}{nb:Nat}{f q:Nat→Int}{fav:Bool}{c d st:Int}{fv:Int}{M:SV}{a0 a1 a2 a3 a4 a5:Int}(hM:Old M):Old (tlR n nb f q fav c d st fv M a0 a1 a2 a3 a4 a5):=by
 simp only[tlR,Old];exact⟨trivial,qnZ (P:=Old) (λv=>by simp[Old]) (zy _ _ _ _) hM⟩
theorem qqE(x:Int):qf Tryz.prog 169 [(.val (.slice none 0 0)),I x] (I (-1)):=by
 refine qg Tryz.func169 rfl Ωb follows Ωb _ _ (by rw[Tryz.ntmps169];simp) Ωf ?_;have NB:True:=trivial;unfold I;(repeat' first|refine sD ?_ ?_<;>intro _|refine aAc ?_|simp -dsimp only[↓RP,RQ,seval,TYz,NB,QÁ,TYR]);refine qp (λ(_:Unit)=>True) (λ_=>⟨[(0,(.val (.slice none 0 0))),(1,Ψ (Φ Γ x)),(7,Ψ (Φ Γ 0)),(8,Ψ (Φ Γ 0))],[],10⟩) (λ_=>0) () trivial (weakSU Ω Ωd (SubHp.refl _)) λz hz=>?_;repeat' first|refine sD ?_ ?_<;>intro _|refine aAc ?_|simp -dsimp only[↓RP,RQ,seval,TYz,NB,QÁ,TYR]
 all_goals try exact ΩB
theorem qrJ(x:Int):qf Tryz.prog 79 [(.val (.slice none 0 0)),I x] (B false):=by
 refine qg Tryz.func79 rfl Ωb follows Ωb _ _ (by rw[Tryz.ntmps79];simp) Ωf ?_;have NB:True:=trivial;have h1:=qqE x;unfold I B;(repeat' first|refine sD ?_ ?_<;>intro _|refine aAc ?_|simp -dsimp only[↓RP,RQ,seval,TYz,NB,QÁ,TYR]);refine qk (h1) Ωe Ωa ?_;repeat' first|refine sD ?_ ?_<;>intro _|refine aAc ?_|simp -dsimp only[↓RP,RQ,seval,QÁ,TYz,NB,TYR]
 all_goals (refine wL ?_;simp)
theorem qkc(r:Int)(n:Int)(nb:Nat)(f q:Nat→Int)(fav:Bool)(c d st:Int)(fv:Int)(M:SV)(hM:Old M)(a0 a1 a2 a3 a4 a5:Int):qf Tryz.prog 256 [tlR n nb f q fav c d st fv M a0 a1 a2 a3 a4 a5,I r] (B false):=by
 refine qg Tryz.func256 rfl Ωb follows Ωb _ _ (by rw[Tryz.ntmps256];simp) ΩU ?_;have NB:True:=trivial;have h1:=qrJ r;unfold I B
 conv=>arg 4;unfold tlR tlL
 (repeat' first|refine sD ?_ ?_<;>intro _|refine aAc ?_|simp -dsimp only[↓RP,RQ,seval,TYz,NB,QÁ,TYR]);refine qk (h1) Ωe Ωa ?_;repeat' first|refine sD ?_ ?_<;>intro _|refine aAc ?_|simp -dsimp only[↓RP,RQ,seval,QÁ,TYz,NB,TYR]
theorem qqF(n:Nat)(nb:Nat)(f q:Nat→Int)(fav:Bool)(c d st:Int)(fv:Int)(M:SV)(hM:Old M)(a0 a1 a2 a3 a4 a5:Int)(hn1:1≤n)(hn:n≤8):zx Tryz.prog 184 [tlR n nb f q fav c d st fv M a0 a1 a2 a3 a4 a5] (.rows 3 1 n (λi _=>Ψ (Φ Γ (i:Nat)))) (.vec 0 n 1):=by
 refine jJ Tryz.func184 rfl Ωb follows Ωb _ _ _ (by rw[Tryz.ntmps184];simp) ΩU ?_;have NB:True:=trivial;unfold tlR tlL;(repeat' first|refine sD ?_ ?_<;>intro _|refine aAc ?_|simp -dsimp only[↓RP,RQ,seval,TYz,NB,QÁ,TYR]);refine qp (λ(z:Nat×(Nat→Nat→SV))=>z.1≤n∧∀x,x<z.1→z.2 x 0=Ψ (Φ Γ (x:Nat))) (λz=>⟨[(0,.ref false 16 (λj=>(tlL n nb f q fav c d st fv M a0 a1 a2 a3 a4 a5).getD j .top)),(3,.vec (60+25*z.1) z.1 1),(9,Ψ (Φ Γ (n:Nat))),(10,Ψ (Φ Γ (z.1:Nat)))],[(60+25*z.1,.rows 3 1 z.1 z.2)],60+25*z.1+10⟩) (λz=>n - z.1) (0,λ_ _=>.top) ⟨xb6 _,λx hx=>(by simp only[]at hx;omega)⟩ (weak [(60,none)] [] ?hw1 ?hw2 ?hw3) λz hz=>?_
 case hw1=>(simp -dsimp only[↓RP,RQ,seval,QV]);all_goals (try simp[QV]);all_goals exact qnZ (P:=λz=>Wk _ _ _ _ z z) (λv=>by simp[Wk]) (yI _ (zy _ _ _ _)) (yI _ hM)
 case hw2=>(simp -dsimp only[↓RP,RQ,seval,QV]);all_goals (try simp[QV])
 case hw3=>(simp -dsimp only[↓RP,RQ,seval,QV]);all_goals (try simp[QV])
 obtain⟨w,r⟩:=z;obtain⟨hw,hr⟩:=hz;dsimp only at hw hr ⊢;by_cases hwm:w<n
 ·have hlt:=decide_eq_true (Ω:((w:Nat):Int)<(n:Nat))
  obtain⟨n1,hn1⟩:∃n1,n1=60+25*w:=⟨_,rfl⟩;rw[←hn1];have h1:=qkc w n nb f q fav c d st fv M hM a0 a1 a2 a3 a4 a5;(repeat' first|refine sD ?_ ?_<;>intro _|refine aAc ?_|simp -dsimp only[↓RP,RQ,seval,hlt,TYz,NB,QÁ,TYR]);refine qk (h1) ΩL Ωa ?_;(repeat' first|refine sD ?_ ?_<;>intro _|refine aAc ?_|simp -dsimp only[↓RP,RQ,seval,QÁ,TYz,NB,TYR]);refine⟨⟨xa5 _,.inr trivial,Ω⟩,by simp only[InK];omega,(w+1,λi j=>if i<w then r i j else [Ψ (Φ Γ (w:Nat))].getD (i - w+j) .top),⟨hwm,λx hx=>?_⟩,Ωc,weakSU Ωc ?hs1 ?hs2⟩
  case hs1=>dsimp only;rw[show 60+25*(w+1)=n1+25 by omega];simp[qQ,Go.Sx.look]
  case hs2=>dsimp only;rw[show 60+25*(w+1)=n1+25 by omega];exact SubHp.cons (λ_ _ h=>by simp[blk]at h)
  dsimp only at hx ⊢;by_cases e:x<w
  ·rw[if_pos e];exact hr x e
  ·obtain rfl:x=w:=by omega
   rw[if_neg e];simp
 ·obtain rfl:n=w:=by omega
  have hlt:=decide_eq_false (Ω:¬((n:Nat):Int)<(n:Nat));(repeat' first|refine sD ?_ ?_<;>intro _|refine aAc ?_|simp -dsimp only[↓RP,RQ,seval,hlt,TYz,NB,QÁ,TYR]);refine⟨60+25*n,_,by simp[blk];rfl,?_,?_⟩
  ·simp only[SubB,true_and]
   exact⟨xa5 _,λi j hi hj=>by
     obtain rfl:j=0:=by omega
     rw[hr i hi];simp[Go.Sx.Sub]⟩
  ·simp[SubO]
def qaH(V:Nat→Int):List SV:=[.ref false 8 (λj=>Ψ (Φ Γ (V j)))]
theorem qaI(V:Nat→Int):OldL (qaH V):=by simp[qaH,OldL,Old]
def amx(V:Nat→Int):Nat→Nat
 |0=>0
 |w+1=>if V (amx V w)<V w then w else amx V w
theorem qeF(V:Nat→Int)(w:Nat):amx V (w+1)=if V (amx V w)<V w then w else amx V w:=rfl
theorem qkd(V:Nat→Int):∀w,1≤w→amx V w<w
 |0,h=>by omega
 |w+1,_=>by
  rw[qeF];by_cases e:w=0
  ·subst e;simp[amx]
  ·have:=qkd V w Ω
   split<;>omega
theorem qrK(r:Nat)(V:Nat→Int)(hr:r<8):qf Tryz.prog 291 (I r :: qaH V) (I (V r)):=by
 refine qg Tryz.func291 rfl Ωb follows Ωb _ _ (by rw[Tryz.ntmps291];simp[qaH]) (by simp only[OldL,qaI,and_true];simp[Old,I]) ?_;have NB:True:=trivial;unfold I qaH;repeat' first|refine sD ?_ ?_<;>intro _|refine aAc ?_|simp -dsimp only[↓RP,RQ,seval,TYz,NB,QÁ,TYR]
 all_goals omega
theorem qrL(n:Nat)(V:Nat→Int)(g:Nat)(caps:List SV)(ho:OldL caps)(h1:1≤n)(hn:n≤1000000)(hg:∀i,i<n→qf Tryz.prog g (I (i:Nat) :: caps) (I (V i)))(hV:∀i,i<n→0≤V i∧V i≤1000000):qf Tryz.prog 290 [qE n (λi=>(i:Nat)),.fn (.func g) [] caps] (I (amx V n)):=by
 refine qg Tryz.func290 rfl Ωb follows Ωb _ _ (by rw[Tryz.ntmps290];simp) (by simp[OldL,Old,qE,ho]) ?_;have NB:True:=trivial;unfold I qE;(repeat' first|refine sD ?_ ?_<;>intro _|refine aAc ?_|simp -dsimp only[↓RP,RQ,seval,TYz,NB,QÁ,TYR]);refine qp (λ(w:Nat)=>w≤n) (λw=>⟨[(1,.fn (.func g) [] caps),(5,Ψ (Φ Γ (amx V w:Nat))),(11,.arr false false n 1 (λi _=>Ψ (Φ Γ (i:Nat)))),(12,Ψ (Φ Γ (n:Nat))),(13,Ψ (Φ Γ (w:Nat)))],[],100+40*w⟩) (λw=>n - w) 0 (xb6 _) (weakSU Ω (by simp[qQ,Go.Sx.look,amx]) (SubHp.refl _)) λw hw=>?_;by_cases hwm:w<n
 ·have hlt:=decide_eq_true (Ω:((w:Nat):Int)<(n:Nat))
  have ham:amx V w<n:=by
   by_cases e:w=0
   ·subst e;simp only[amx];omega
   ·have:=qkd V w Ω;omega
  (repeat' first|refine sD ?_ ?_<;>intro _|refine aAc ?_|simp -dsimp only[↓RP,RQ,seval,hlt,TYz,NB,QÁ,TYR]);refine qk (hg w hwm) (by(simp -dsimp only[↓RP,RQ,seval,I,Go.Sx.SubL,Go.Sx.Sub]);all_goals (try simp[subL_refl caps ho])) Ωk ?_;(repeat' first|refine sD ?_ ?_<;>intro _|refine aAc ?_|simp -dsimp only[↓RP,RQ,seval,QÁ,TYz,NB,TYR]);refine qk (hg _ ham) (by(simp -dsimp only[↓RP,RQ,seval,I,Go.Sx.SubL,Go.Sx.Sub]);all_goals (try simp[subL_refl caps ho])) Ωk ?_;repeat' first|refine sD ?_ ?_<;>intro _|refine aAc ?_|simp -dsimp only[↓RP,RQ,seval,QÁ,TYz,NB,TYR]
  ·rename_i hc
   exact⟨w+1,hwm,Ω,weakSU Ω (by rw[qeF,if_pos hc];simp[qQ,Go.Sx.look]) (SubHp.refl _)⟩
  ·rename_i hc
   exact⟨w+1,hwm,Ω,weakSU Ω (by rw[qeF,if_neg hc];simp[qQ,Go.Sx.look]) (SubHp.refl _)⟩
 ·obtain rfl:n=w:=by omega
  have hlt:=decide_eq_false (Ω:¬((n:Nat):Int)<(n:Nat));repeat' first|refine sD ?_ ?_<;>intro _|refine aAc ?_|simp -dsimp only[↓RP,RQ,seval,hlt,TYz,NB,QÁ,TYR]
theorem qqG(x y:Int)(n:Int)(nb:Nat)(f q:Nat→Int)(fav:Bool)(c d st:Int)(fv:Int)(M:SV)(hM:Old M)(a0 a1 a2 a3 a4 a5:Int):qf Tryz.prog 129 [tlR n nb f q fav c d st fv M a0 a1 a2 a3 a4 a5,vM x (-1) y] (.tup [.agg [Ψ (Φ Γ x),Ψ (Φ Γ (-1))],B true]):=by
 refine qg Tryz.func129 rfl Ωb follows Ωb _ _ (by rw[Tryz.ntmps129];simp) ΩU ?_;have NB:True:=trivial;have h1:=qkc x n nb f q fav c d st fv M hM a0 a1 a2 a3 a4 a5;have h2:=qkc (-1) n nb f q fav c d st fv M hM a0 a1 a2 a3 a4 a5;unfold B vM
 conv=>arg 4;unfold tlR tlL
 (repeat' first|refine sD ?_ ?_<;>intro _|refine aAc ?_|simp -dsimp only[↓RP,RQ,seval,TYz,NB,QÁ,TYR]);refine qk (h1) ΩL Ωa ?_;(repeat' first|refine sD ?_ ?_<;>intro _|refine aAc ?_|simp -dsimp only[↓RP,RQ,seval,QÁ,TYz,NB,TYR]);refine qk (h2) ΩL Ωa ?_;repeat' first|refine sD ?_ ?_<;>intro _|refine aAc ?_|simp -dsimp only[↓RP,RQ,seval,QÁ,TYz,NB,TYR]
end Go.Tn
end
section
namespace Go.Tn
open Go.Proofs
open Go.Sx
variable{q:Nat→Int}{d:Int}{j nb:Nat}
def cF(f q:Nat→Int):Nat→Int→Int
 |0,_=>0
 |w+1,r=>cF f q w r+(if f w=r then q w else 0)
theorem JR(f q:Nat→Int)(w:Nat)(r:Int):cF f q (w+1) r=cF f q w r+(if f w=r then q w else 0):=rfl
theorem yq(f q:Nat→Int)(r:Int):∀w:Nat,(∀i,i<w→1≤q i∧q i≤1000)→0≤cF f q w r∧cF f q w r≤1000*w
 |0,_=>by simp[cF]
 |w+1,h=>by
  have h1:=yq f q r w λi hi=>h i Ω;have h2:=h w Ω;rw[JR];split<;>omega
def sQ(q:Nat→Int):Nat→Int
 |0=>0
 |w+1=>sQ q w+q w
theorem qke(q:Nat→Int)(w:Nat):sQ q (w+1)=sQ q w+q w:=rfl
theorem Zx(q:Nat→Int):∀w:Nat,(∀i,i<w→1≤q i∧q i≤1000)→0≤sQ q w∧sQ q w≤1000*w
 |0,_=>by simp[sQ]
 |w+1,h=>by
  have h1:=Zx q w λi hi=>h i Ω;have h2:=h w Ω;rw[qke];omega
def qM(q:Nat→Int)(d:Int)(nb:Nat):Int:=Int.tdiv (100*sQ q nb*d) 1000
theorem qcC(hnb:nb≤100)(hq:∀i,i<nb→1≤q i∧q i≤1000)(hd:0≤d∧d≤500):0≤100*sQ q nb*d∧100*sQ q nb*d≤50000*sQ q nb:=by
 have h:=Zx q nb hq;have h1:0≤100*sQ q nb*d:=Int.mul_nonneg Ω hd.1;have h2:100*sQ q nb*d≤100*sQ q nb*500:=Int.mul_le_mul_of_nonneg_left hd.2 Ω;omega
theorem Jm(hnb:nb≤100)(hq:∀i,i<nb→1≤q i∧q i≤1000)(hd:0≤d∧d≤500):0≤qM q d nb∧qM q d nb≤50*sQ q nb:=by
 have h:=qcC hnb hq hd;unfold qM;rw[Int.tdiv_eq_ediv_of_nonneg h.1];omega
def ks(a b:Int):Value:=.agg #[Φ Γ a,Φ Γ b]
theorem eqK_ks{a b c:Int}:eqK (ks a b) (ks c d)=true↔a=c∧b=d:=by
 simp[eqK,ks,jB,vX]
def uD(f:Nat→Int):Nat→Value→Bool
 |0=>λ_=>false
 |w+1=>qA (uD f w) (ks (f w) (-1))
def uG(f q:Nat→Int):Nat→Value→SV
 |0=>λ_=>.top
 |w+1=>qB (uG f q w) (ks (f w) (-1)) (Ψ (Φ Γ (cF f q (w+1) (f w))))
theorem qkf(f q:Nat→Int)(r:Int):∀w,uD f w (ks r (-1))=true→uG f q w (ks r (-1))=Ψ (Φ Γ (cF f q w r))
 |0,h=>by simp[uD]at h
 |w+1,h=>by
  by_cases e:f w=r
  ·have:eqK (ks (f w) (-1)) (ks r (-1))=true:=eqK_ks.2 ⟨e,rfl⟩
   simp only[uG,qB,this,svIte];rw[if_pos trivial,e]
  ·have:eqK (ks (f w) (-1)) (ks r (-1))=false:=by
    cases hb:eqK (ks (f w) (-1)) (ks r (-1))with
    |false=>rfl
    |true=>exact absurd (eqK_ks.1 hb).1 e
   simp only[uD,qA,this,xf4]at h;simp only[uG,qB,this,svIte];rw[if_neg Ωq,qkf f q r w h,JR f q w r,if_neg e,Int.add_zero]
theorem qoa(f q:Nat→Int)(r:Int):∀w,uD f w (ks r (-1))=false→cF f q w r=0
 |0,h=>rfl
 |w+1,h=>by
  by_cases e:f w=r
  ·have:eqK (ks (f w) (-1)) (ks r (-1))=true:=eqK_ks.2 ⟨e,rfl⟩
   simp[uD,qA,this]at h
  ·have:eqK (ks (f w) (-1)) (ks r (-1))=false:=by
    cases hb:eqK (ks (f w) (-1)) (ks r (-1))with
    |false=>rfl
    |true=>exact absurd (eqK_ks.1 hb).1 e
   simp only[uD,qA,this,xf4]at h;rw[JR,if_neg e,qoa f q r w h];rfl
def on8(V:Nat→Int):List SV:=[Ψ (Φ Γ (V 0)),Ψ (Φ Γ (V 1)),Ψ (Φ Γ (V 2)),Ψ (Φ Γ (V 3)),Ψ (Φ Γ (V 4)),Ψ (Φ Γ (V 5)),Ψ (Φ Γ (V 6)),Ψ (Φ Γ (V 7))]
theorem s8(h:j<8):j=0∨j=1∨j=2∨j=3∨j=4∨j=5∨j=6∨j=7:=by omega
theorem qeG(V:Nat→Int)(h:j<8):(on8 V)[j]? = some (Ψ (Φ Γ (V j))):=by
 rcases s8 h with rfl|rfl|rfl|rfl|rfl|rfl|rfl|rfl<;>rfl
theorem qmI(V:Nat→Int):(on8 V).length=8:=rfl
theorem qmJ(V:Nat→Int)(h:j<8)(x:Int):(on8 V).set j (Ψ (Φ Γ x))=on8 (upN V j x):=by
 rcases s8 h with rfl|rfl|rfl|rfl|rfl|rfl|rfl|rfl<;>rfl
def cV(f q:Nat→Int)(w:Nat):Nat→Int:=λj=>cF f q w j
theorem qrM(f q:Nat→Int)(w k:Nat)(h:f w=k):upN (cV f q w) k (cF f q w k+q w)=cV f q (w+1):=by
 funext j;unfold upN cV;rw[JR,h];by_cases e:j=k
 ·subst e;rw[if_pos rfl,if_pos rfl]
 ·rw[if_neg e,if_neg Ω];omega
theorem qqH(V:Nat→Int)(n:Nat)(h:∀j,j<n→V j=0):amx V n=0:=by
 induction n with
 |zero=>rfl
 |succ n ih=>
  rw[qeF,ih (λj hj=>h j Ω),if_neg];by_cases e:n=0
  ·subst e;omega
  ·rw[h 0 Ω,h n Ω];omega
theorem Z8{hp:List (Nat×Blk)}{tid:Nat}{n:Int}{f:Nat→Int}{fav:Bool}{c st:Int}{fv:Int}{M:SV}{a0 a1 a2 a3 a4 a5:Int}(h:blk hp tid=some (.cells 167 (tlL n nb f q fav c d st fv M a0 a1 a2 a3 a4 a5))):Go.Sx.Sub hp (tlR n nb f q fav c d st fv .top a0 a1 a2 a3 a4 a5) (.ptr tid 0):=by
 simp only[tlR,Go.Sx.Sub,h];intro j hj;refine⟨?_,by simp[tlL];omega⟩;rw[xb0];rcases s16 hj with rfl|rfl|rfl|rfl|rfl|rfl|rfl|rfl|rfl|rfl|rfl|rfl|rfl|rfl|rfl|rfl<;>first|exact trivial|rfl|exact qr _ (zy _ _ _ _)
theorem qmK{hp:List (Nat×Blk)}{i g:Nat}{V:Nat→Int}(h:blk hp i=some (.cells 402 (on8 V))):Go.Sx.Sub hp (.fn (.func g) [] (qaH V)) (.fn (.func g) [] [.ptr i 0]):=by
 simp only[Go.Sx.Sub,SubL,qaH,and_true,true_and,h];intro j hj;refine⟨?_,by simp[on8];omega⟩;rw[xb0,xc6,qeG _ hj];rfl
theorem WS(f q:Nat→Int)(w:Nat)(r:Int):svIte (uD f w (.agg #[Φ Γ r,Φ Γ (-1)])) (uG f q w (.agg #[Φ Γ r,Φ Γ (-1)])) (Ψ (Φ Γ 0))=Ψ (Φ Γ (cF f q w r)):=by
 show svIte (uD f w (ks r (-1))) (uG f q w (ks r (-1))) _=_;cases h:uD f w (ks r (-1))with
 |true=>simp only[svIte,if_true];exact qkf f q r w h
 |false=>simp only[svIte];rw[qoa f q r w h];rfl
theorem yV:Old .top:=by simp[Old]
theorem qkg(V:Nat→Int):List.take 8 (on8 V)=on8 V:=rfl
theorem qmL(V:Nat→Int):fitS [.i .i64,.i .i64,.i .i64,.i .i64,.i .i64,.i .i64,.i .i64,.i .i64] (on8 V)=true:=rfl
theorem qkh(V:Nat→Int):eqSVs (on8 V) [Ψ (Φ Γ 0),Ψ (Φ Γ 0),Ψ (Φ Γ 0),Ψ (Φ Γ 0),Ψ (Φ Γ 0),Ψ (Φ Γ 0),Ψ (Φ Γ 0),Ψ (Φ Γ 0)]=true↔∀j,j<8→V j=0:=by
 simp only[on8,eqSVs,eqV,xe6,decide_eq_true_eq,xf1,beq_iff_eq];constructor
 ·rintro⟨h0,h1,h2,h3,h4,h5,h6,h7⟩ j hj
  rcases s8 hj with rfl|rfl|rfl|rfl|rfl|rfl|rfl|rfl<;>assumption
 ·intro h
  exact⟨h 0 Ω,h 1 Ω,h 2 Ω,h 3 Ω,h 4 Ω,h 5 Ω,h 6 Ω,h 7 Ω⟩
theorem qrN(n nb:Nat)(f q:Nat→Int)(fav:Bool)(c d st:Int)(hn1:2≤n)(hn:n≤8)(hnb:nb≤100)(hf:∀i,i<nb→0≤f i∧f i<n)(hq:∀i,i<nb→1≤q i∧q i≤1000)(hc:0≤c∧c≤1000000)(hd:0≤d∧d≤500)(hst:1≤st∧st≤100)(id:Nat)(rest:List (Nat×Blk))(hr:Under rest id):EffVC Tryz.prog 188 [bkS n nb f (λ_=>-1) q fav c d st] rest id (λhp' nid' res=>
  ∃tid mid,id≤mid∧mid<tid∧tid<nid'∧hp'=(tid,.cells 167 (tlL n nb f q fav c d st (amx (cV f q nb) n:Nat) (.mp mid) (c+100*sQ q nb) 0 (qM q d nb) 0 0 (c+100*sQ q nb - qM q d nb))) ::(mid,.map (qh true [.i .i64,.i .i64]) (uD f nb) (uG f q nb)) :: rest∧res=.ptr tid 0):=by
 refine wo (qV [(21,[(0,0)])]) follows Tryz.func188 rfl Ωb Ωb (by rw[Tryz.ntmps188];simp) λout=>?_;have hr0:blk rest id=none:=hr.none (xa5 _);have NB:True:=trivial;unfold bkS za;(repeat' first|refine sD ?_ ?_<;>intro _|refine aAc ?_|simp -dsimp only[↓RP,RQ,seval,TYz,NB,QÀ,↓RY,hr0,TYR]);refine qp (λ(z:Nat×Nat)=>z.1≤nb∧id+11≤z.2) (λz=>⟨[(1,.ptr id 0),(2,.val (.pointer none)),(3,.ptr (id+8) 0),(4,.ptr (id+10) 0),(22,.arr false false nb 3 (λi j=>[Ψ (Φ Γ (f i)),Ψ (Φ Γ (-1)),Ψ (Φ Γ (q i))].getD j .top)),(23,Ψ (Φ Γ (nb:Nat))),(24,Ψ (Φ Γ (z.1:Nat)))],(id+10,.cells 402 (on8 (cV f q z.1))) ::(id+8,.cells 167 [Ψ (Φ Γ 0),Ψ (Φ Γ n),.arr false false nb 3 (λi j=>[Ψ (Φ Γ (f i)),Ψ (Φ Γ (-1)),Ψ (Φ Γ (q i))].getD j .top),.val (.slice none 0 0),.val (.bool fav),Ψ (Φ Γ c),Ψ (Φ Γ d),Ψ (Φ Γ st),Ψ (Φ Γ 0),.mp (id+3),Ψ (Φ Γ c),Ψ (Φ Γ 0),Ψ (Φ Γ 0),Ψ (Φ Γ 0),Ψ (Φ Γ 0),Ψ (Φ Γ 0)]) ::(id+3,.map (qh true [.i .i64,.i .i64]) (λ_=>false) (λ_=>.top)) ::(id,.cells 48 [Ψ (Φ Γ 0),Ψ (Φ Γ n),.arr false false nb 3 (λi j=>[Ψ (Φ Γ (f i)),Ψ (Φ Γ (-1)),Ψ (Φ Γ (q i))].getD j .top),.val (.slice none 0 0),.val (.bool fav),Ψ (Φ Γ c),Ψ (Φ Γ d),Ψ (Φ Γ st)]) :: rest,z.2⟩) (λz=>nb - z.1) (0,id+30) ⟨xb6 _,Ωc⟩ (weakSU Ωc Ωd (SubHp.refl _)) λz hz=>?_;obtain⟨w,nid⟩:=z;obtain⟨hw,hi⟩:=hz;dsimp only at hw hi ⊢;have NB:=(⟨nmA (Ω:id<nid),nmA (Ω:id+3<nid),nmA (Ω:id+8<nid),nmA (Ω:id+10<nid)⟩:_∧_∧_∧_);by_cases hwm:w<nb
 ·have hlt:=decide_eq_true (Ω:((w:Nat):Int)<(nb:Nat))
  obtain⟨b1,b2⟩:=hf w hwm;obtain⟨k,hk⟩:∃k:Nat,f w=k:=⟨(f w).toNat,Ω⟩;have k8:k<8:=by omega
  have h1:=qkc (f w) n nb f q fav c d st 0 .top yV c 0 0 0 0 0;have h2:=qkc (-1) n nb f q fav c d st 0 .top yV c 0 0 0 0 0;(repeat' first|refine sD ?_ ?_<;>intro _|refine aAc ?_|simp -dsimp only[↓RP,RQ,seval,hlt,za,TYz,NB,QÀ,↓RY,hr0,TYR]);refine qk (h1) (by simp only[SubL,and_true];refine⟨Z8 (M:=.mp (id+3)) (by simp[blk,NB];rfl),?_⟩;simp[I,Go.Sx.Sub]) Ωa ?_;(repeat' first|refine sD ?_ ?_<;>intro _|refine aAc ?_|simp -dsimp only[↓RP,RQ,seval,QÀ,TYz,NB,↓RY,hr0,TYR]);refine qk (h2) (by simp only[SubL,and_true];refine⟨Z8 (M:=.mp (id+3)) (by simp[blk,NB];rfl),?_⟩;simp[I,Go.Sx.Sub]) Ωa ?_;have hset:=qmJ (cV f q w) k8 (cF f q w k+q w);rw[qrM f q w k hk]at hset;have hb:=yq f q k w (λi hi=>hq i Ω);have hqw:=hq w hwm;have hget:(on8 (cV f q w))[k]? = some (Ψ (Φ Γ (cF f q w k))):=qeG (cV f q w) k8;(repeat' first|refine sD ?_ ?_<;>intro _|refine aAc ?_|simp -dsimp only[↓RP,RQ,seval,QÀ,hk,qmI,hget,hset,TYz,NB,↓RY,hr0,TYR]);refine⟨(w+1,_),⟨hwm,?_⟩,Ωc,weakSU (xa5 _) Ωd ?_⟩
  ·dsimp only;omega
  ·refine SubHp.skip ?_ (SubHp.refl _)
   simp only[blk];rw[if_neg Ω,if_neg Ω,if_neg Ω,if_neg Ω];exact hr.none Ω
 obtain rfl:nb=w:=by omega
 have hlt:=decide_eq_false (Ω:¬((nb:Nat):Int)<(nb:Nat));have h1:=qqF n nb f q fav c d st 0 .top yV c 0 0 0 0 0 Ω hn;(repeat' first|refine sD ?_ ?_<;>intro _|refine aAc ?_|simp -dsimp only[↓RP,RQ,seval,hlt,za,TYz,NB,QÀ,↓RY,hr0,TYR]);refine callN h1 (by simp only[SubL,and_true];exact Z8 (M:=.mp (id+3)) (by simp[blk,NB];rfl)) (by simp[FreshO]) Ωaj ?_;(repeat' first|refine sD ?_ ?_<;>intro _|refine aAc ?_|simp -dsimp only[↓RP,RQ,seval,hlt,za,TYz,NB,QÀ,↓RY,hr0,TYR]);refine⟨xa5 _,qmL _,?_⟩;rw[qkg];by_cases hz:∀j,j<8→cV f q nb j=0
 ·rw[(qkh _).2 hz]
  have hx:=qqH (cV f q nb) n (λj hj=>hz j Ω);repeat' first|refine sD ?_ ?_<;>intro _|refine aAc ?_|simp -dsimp only[↓RP,RQ,seval,TYz,NB,QÀ,↓RY,hr0,TYR]
  all_goals first|contradiction|(exfalso;omega)|skip
  refine qp (λ(z:Nat×Nat)=>z.1≤nb∧id+11≤z.2) (λz=>⟨[(1,.ptr id 0),(2,.val (.pointer none)),(3,.ptr (id+8) 0),(8,.fn (.func 129) [.ptr (id+8) 0] []),(69,.arr false false nb 3 (λi j=>[Ψ (Φ Γ (f i)),Ψ (Φ Γ (-1)),Ψ (Φ Γ (q i))].getD j .top)),(70,Ψ (Φ Γ (nb:Nat))),(71,Ψ (Φ Γ (z.1:Nat)))],(id+8,.cells 167 [Ψ (Φ Γ 0),Ψ (Φ Γ n),.arr false false nb 3 (λi j=>[Ψ (Φ Γ (f i)),Ψ (Φ Γ (-1)),Ψ (Φ Γ (q i))].getD j .top),.val (.slice none 0 0),.val (.bool fav),Ψ (Φ Γ c),Ψ (Φ Γ d),Ψ (Φ Γ st),Ψ (Φ Γ (amx (cV f q nb) n:Nat)),.mp (id+3),Ψ (Φ Γ (c+100*sQ q z.1)),Ψ (Φ Γ 0),Ψ (Φ Γ 0),Ψ (Φ Γ 0),Ψ (Φ Γ 0),Ψ (Φ Γ 0)]) ::(id+3,.map (qh true [.i .i64,.i .i64]) (uD f z.1) (uG f q z.1)) ::(id,.cells 48 [Ψ (Φ Γ 0),Ψ (Φ Γ n),.arr false false nb 3 (λi j=>[Ψ (Φ Γ (f i)),Ψ (Φ Γ (-1)),Ψ (Φ Γ (q i))].getD j .top),.val (.slice none 0 0),.val (.bool fav),Ψ (Φ Γ c),Ψ (Φ Γ d),Ψ (Φ Γ st)]) :: rest,z.2⟩) (λz=>nb - z.1) (0,nid+100) ⟨xb6 _,Ωc⟩ (weakSU Ωc Ωd ?hs1) λz hz2=>?_
  case hs1=>
   dsimp only;refine SubHp.skip ?_ (SubHp.skip ?_ ?_)
   ·simp only[blk]
    rw[if_neg Ω,if_neg Ω,if_neg Ω];exact hr.none Ω
   ·simp only[blk]
    rw[if_neg Ω,if_neg Ω,if_neg Ω];exact hr.none Ω
   ·rw[show c+100*sQ q 0=c by simp[sQ]];rw[hx];exact SubHp.refl _
  obtain⟨w,m1⟩:=z;obtain⟨hw2,hm⟩:=hz2;dsimp only at hw2 hm ⊢;clear NB;have NB:=(⟨nmA (Ω:id<m1),nmA (Ω:id+3<m1),nmA (Ω:id+8<m1),nmA (Ω:id+10<m1)⟩:_∧_∧_∧_);by_cases hwm2:w<nb
  ·have hlt2:=decide_eq_true (Ω:((w:Nat):Int)<(nb:Nat))
   have hb:=yq f q (f w) w (λi hi=>hq i Ω);have hqw:=hq w hwm2;have hsb:=Zx q w (λi hi=>hq i Ω);have hsS:=qke q w;have e1:c+100*sQ q w+100*q w=c+100*sQ q (w+1):=by rw[qke];omega
   have h129:=qqG (f w) (q w) n nb f q fav c d st (amx (cV f q nb) n:Nat) .top yV (c+100*sQ q (w+1)) 0 0 0 0 0;(repeat' first|refine sD ?_ ?_<;>intro _|refine aAc ?_|simp -dsimp only[↓RP,RQ,seval,hlt2,za,e1,TYz,NB,QÀ,↓RY,hr0,TYR]);refine qk (h129) (by simp only[SubL,and_true];refine⟨Z8 (M:=.mp (id+3)) (by simp[blk,NB];rfl),?_⟩;simp[vM,Go.Sx.Sub,SubL]) Ωa ?_;have hl:(if uD f w (Value.agg #[Value.int IntKind.i64 (f w),Value.int IntKind.i64 (-1)])=true then uG f q w (Value.agg #[Value.int IntKind.i64 (f w),Value.int IntKind.i64 (-1)])else SV.val (Value.int IntKind.i64 0))=Ψ (Φ Γ (cF f q w (f w))):=WS f q w (f w);(repeat' first|refine sD ?_ ?_<;>intro _|refine aAc ?_|simp -dsimp only[↓RP,RQ,seval,QÀ,TYz,NB,↓RY,hr0,TYR]);refine yj (q:=⟨9,10,11,103,104,165,97,.tmp 98,.tmp 102⟩) (far:=[]) follows ⟨Ωq,Ωq,Ωq,⟨_,rfl,rfl,rfl⟩,⟨_,rfl,rfl,rfl⟩,⟨_,rfl,rfl,rfl⟩⟩ Ωb ?_;(repeat' first|refine sD ?_ ?_<;>intro _|refine aAc ?_|simp -dsimp only[↓RP,RQ,seval,Zm,gJ,hl,EI.upd,or_self,or_false,or_true,true_or,false_or,↓reduceIte,TYz,NB,QÀ,↓RY,hr0,TYR]);refine⟨?_,λst2 hlk hbk hnid=>?_⟩
   ·intro mid hmid
    have hm3:id+3=mid:=by simpa[Go.Sx.look]using hmid
    subst hm3;refine⟨⟨_,_,_,by simp[blk,NB];exact⟨rfl,rfl,rfl⟩⟩,λa ha=>?_⟩;have ha3:a=96∨a=11∨a=100:=by simpa[Zn]using ha
    rcases ha3 with rfl|rfl|rfl<;>simp[Go.Sx.look,qT,NB]
    all_goals omega
   ·obtain⟨fr2,hp2,nid2⟩:=st2
    dsimp only at hlk hbk hnid ⊢;subst hnid;have l71:Go.Sx.look fr2 71=Ψ (Φ Γ (w:Nat)):=by rw[hlk];simp
    have l1:Go.Sx.look fr2 1=.ptr id 0:=by rw[hlk];simp
    have l2:Go.Sx.look fr2 2=.val (.pointer none):=by rw[hlk];simp
    have l3:Go.Sx.look fr2 3=.ptr (id+8) 0:=by rw[hlk];simp
    have l8:Go.Sx.look fr2 8=.fn (.func 129) [.ptr (id+8) 0] []:=by rw[hlk];simp
    have l69:Go.Sx.look fr2 69=.arr false false nb 3 (λi j=>[Ψ (Φ Γ (f i)),Ψ (Φ Γ (-1)),Ψ (Φ Γ (q i))].getD j .top):=by rw[hlk];simp
    have l70:Go.Sx.look fr2 70=Ψ (Φ Γ (nb:Nat)):=by rw[hlk];simp
    have e2:qB (uG f q w) (Value.agg #[Value.int IntKind.i64 (f w),Value.int IntKind.i64 (-1)]) (SV.val (Value.int IntKind.i64 (cF f q w (f w)+q w)))=uG f q (w+1):=by
     show _=qB (uG f q w) (ks (f w) (-1)) (Ψ (Φ Γ (cF f q (w+1) (f w))));rw[JR,if_pos rfl];rfl
    simp only[e1,e2]at hbk;(repeat' first|refine sD ?_ ?_<;>intro _|refine aAc ?_|simp -dsimp only[↓RP,RQ,seval,l71,TYz,NB,QÀ,↓RY,hr0,TYR]);refine⟨(w+1,m1+42),⟨hwm2,Ωc⟩,Ωc,weakSU (xa5 _) (by simp[qQ,Go.Sx.look,l1,l2,l3,l8,l69,l70]) (λj x hx=>?_)⟩;show blk hp2 j=some x;rw[hbk];refine SubHp.skip ?_ (SubHp.skip ?_ (SubHp.refl _)) j x hx
    ·simp only[blk]
     rw[if_neg Ω,if_neg Ω,if_neg Ω];exact hr.none Ω
    ·simp only[blk]
     rw[if_neg Ω,if_neg Ω,if_neg Ω];exact hr.none Ω
  obtain rfl:nb=w:=by omega
  have hlt2:=decide_eq_false (Ω:¬((nb:Nat):Int)<(nb:Nat));have hdu:=Jm Ω hq hd;have hsb:=Zx q nb hq;have e5:c+100*sQ q nb - c=100*sQ q nb:=by omega
  have e6:Int.tdiv (100*sQ q nb*d) 1000=qM q d nb:=rfl;have e7:=qcC Ω hq hd;(repeat' first|refine sD ?_ ?_<;>intro _|refine aAc ?_|simp -dsimp only[↓RP,RQ,seval,hlt2,e5,e6,Int.sub_zero,TYz,NB,QÀ,↓RY,hr0,TYR]);exact⟨_,m1+48,_,vm (fr':=[(0,_)]) ⟨.inr rfl,trivial⟩ (SubHp.cons (SubHp.cons (SubHp.skip hr0 (SubHp.refl _)))),id+8,id+3,Ω,Ω,Ω,rfl,rfl⟩
 ·rw[show eqSVs (on8 (cV f q nb)) _=false from by rw[Bool.eq_false_iff];exact λh=>hz ((qkh _).1 h)]
  have h2:=qrL n (cV f q nb) 291 (qaH (cV f q nb)) (qaI _) Ω Ω (λi hi=>qrK i (cV f q nb) Ω) (λi hi=>by have:=yq f q i nb hq;unfold cV;omega);repeat' first|refine sD ?_ ?_<;>intro _|refine aAc ?_|simp -dsimp only[↓RP,RQ,seval,TYz,NB,QÀ,↓RY,hr0,TYR]
  all_goals first|contradiction|(exfalso;omega)|skip
  refine qk (h2) (by simp only[SubL,and_true];refine⟨(by(simp -dsimp only[↓RP,RQ,seval,qE]);all_goals (try simp[Go.Sx.Sub,blk,NB])),?_⟩;exact qmK Ωp) Ωa ?_;(repeat' first|refine sD ?_ ?_<;>intro _|refine aAc ?_|simp -dsimp only[↓RP,RQ,seval,QÀ,TYz,NB,↓RY,hr0,TYR]);refine qp (λ(z:Nat×Nat)=>z.1≤nb∧id+11≤z.2) (λz=>⟨[(1,.ptr id 0),(2,.val (.pointer none)),(3,.ptr (id+8) 0),(8,.fn (.func 129) [.ptr (id+8) 0] []),(69,.arr false false nb 3 (λi j=>[Ψ (Φ Γ (f i)),Ψ (Φ Γ (-1)),Ψ (Φ Γ (q i))].getD j .top)),(70,Ψ (Φ Γ (nb:Nat))),(71,Ψ (Φ Γ (z.1:Nat)))],(id+8,.cells 167 [Ψ (Φ Γ 0),Ψ (Φ Γ n),.arr false false nb 3 (λi j=>[Ψ (Φ Γ (f i)),Ψ (Φ Γ (-1)),Ψ (Φ Γ (q i))].getD j .top),.val (.slice none 0 0),.val (.bool fav),Ψ (Φ Γ c),Ψ (Φ Γ d),Ψ (Φ Γ st),Ψ (Φ Γ (amx (cV f q nb) n:Nat)),.mp (id+3),Ψ (Φ Γ (c+100*sQ q z.1)),Ψ (Φ Γ 0),Ψ (Φ Γ 0),Ψ (Φ Γ 0),Ψ (Φ Γ 0),Ψ (Φ Γ 0)]) ::(id+3,.map (qh true [.i .i64,.i .i64]) (uD f z.1) (uG f q z.1)) ::(id,.cells 48 [Ψ (Φ Γ 0),Ψ (Φ Γ n),.arr false false nb 3 (λi j=>[Ψ (Φ Γ (f i)),Ψ (Φ Γ (-1)),Ψ (Φ Γ (q i))].getD j .top),.val (.slice none 0 0),.val (.bool fav),Ψ (Φ Γ c),Ψ (Φ Γ d),Ψ (Φ Γ st)]) :: rest,z.2⟩) (λz=>nb - z.1) (0,nid+100) ⟨xb6 _,Ωc⟩ (weakSU Ωc Ωd ?hs1) λz hz2=>?_
  case hs1=>
   dsimp only;refine SubHp.skip ?_ (SubHp.skip ?_ ?_)
   ·simp only[blk]
    rw[if_neg Ω,if_neg Ω,if_neg Ω];exact hr.none Ω
   ·simp only[blk]
    rw[if_neg Ω,if_neg Ω,if_neg Ω];exact hr.none Ω
   ·rw[show c+100*sQ q 0=c by simp[sQ]];exact SubHp.refl _
  obtain⟨w,m1⟩:=z;obtain⟨hw2,hm⟩:=hz2;dsimp only at hw2 hm ⊢;clear NB;have NB:=(⟨nmA (Ω:id<m1),nmA (Ω:id+3<m1),nmA (Ω:id+8<m1),nmA (Ω:id+10<m1)⟩:_∧_∧_∧_);by_cases hwm2:w<nb
  ·have hlt2:=decide_eq_true (Ω:((w:Nat):Int)<(nb:Nat))
   have hb:=yq f q (f w) w (λi hi=>hq i Ω);have hqw:=hq w hwm2;have hsb:=Zx q w (λi hi=>hq i Ω);have hsS:=qke q w;have e1:c+100*sQ q w+100*q w=c+100*sQ q (w+1):=by rw[qke];omega
   have h129:=qqG (f w) (q w) n nb f q fav c d st (amx (cV f q nb) n:Nat) .top yV (c+100*sQ q (w+1)) 0 0 0 0 0;(repeat' first|refine sD ?_ ?_<;>intro _|refine aAc ?_|simp -dsimp only[↓RP,RQ,seval,hlt2,za,e1,TYz,NB,QÀ,↓RY,hr0,TYR]);refine qk (h129) (by simp only[SubL,and_true];refine⟨Z8 (M:=.mp (id+3)) (by simp[blk,NB];rfl),?_⟩;simp[vM,Go.Sx.Sub,SubL]) Ωa ?_;have hl:(if uD f w (Value.agg #[Value.int IntKind.i64 (f w),Value.int IntKind.i64 (-1)])=true then uG f q w (Value.agg #[Value.int IntKind.i64 (f w),Value.int IntKind.i64 (-1)])else SV.val (Value.int IntKind.i64 0))=Ψ (Φ Γ (cF f q w (f w))):=WS f q w (f w);(repeat' first|refine sD ?_ ?_<;>intro _|refine aAc ?_|simp -dsimp only[↓RP,RQ,seval,QÀ,TYz,NB,↓RY,hr0,TYR]);refine yj (q:=⟨9,10,11,103,104,165,97,.tmp 98,.tmp 102⟩) (far:=[]) follows ⟨Ωq,Ωq,Ωq,⟨_,rfl,rfl,rfl⟩,⟨_,rfl,rfl,rfl⟩,⟨_,rfl,rfl,rfl⟩⟩ Ωb ?_;(repeat' first|refine sD ?_ ?_<;>intro _|refine aAc ?_|simp -dsimp only[↓RP,RQ,seval,Zm,gJ,hl,EI.upd,or_self,or_false,or_true,true_or,false_or,↓reduceIte,TYz,NB,QÀ,↓RY,hr0,TYR]);refine⟨?_,λst2 hlk hbk hnid=>?_⟩
   ·intro mid hmid
    have hm3:id+3=mid:=by simpa[Go.Sx.look]using hmid
    subst hm3;refine⟨⟨_,_,_,by simp[blk,NB];exact⟨rfl,rfl,rfl⟩⟩,λa ha=>?_⟩;have ha3:a=96∨a=11∨a=100:=by simpa[Zn]using ha
    rcases ha3 with rfl|rfl|rfl<;>simp[Go.Sx.look,qT,NB]
    all_goals omega
   ·obtain⟨fr2,hp2,nid2⟩:=st2
    dsimp only at hlk hbk hnid ⊢;subst hnid;have l71:Go.Sx.look fr2 71=Ψ (Φ Γ (w:Nat)):=by rw[hlk];simp
    have l1:Go.Sx.look fr2 1=.ptr id 0:=by rw[hlk];simp
    have l2:Go.Sx.look fr2 2=.val (.pointer none):=by rw[hlk];simp
    have l3:Go.Sx.look fr2 3=.ptr (id+8) 0:=by rw[hlk];simp
    have l8:Go.Sx.look fr2 8=.fn (.func 129) [.ptr (id+8) 0] []:=by rw[hlk];simp
    have l69:Go.Sx.look fr2 69=.arr false false nb 3 (λi j=>[Ψ (Φ Γ (f i)),Ψ (Φ Γ (-1)),Ψ (Φ Γ (q i))].getD j .top):=by rw[hlk];simp
    have l70:Go.Sx.look fr2 70=Ψ (Φ Γ (nb:Nat)):=by rw[hlk];simp
    have e2:qB (uG f q w) (Value.agg #[Value.int IntKind.i64 (f w),Value.int IntKind.i64 (-1)]) (SV.val (Value.int IntKind.i64 (cF f q w (f w)+q w)))=uG f q (w+1):=by
     show _=qB (uG f q w) (ks (f w) (-1)) (Ψ (Φ Γ (cF f q (w+1) (f w))));rw[JR,if_pos rfl];rfl
    simp only[e1,e2]at hbk;(repeat' first|refine sD ?_ ?_<;>intro _|refine aAc ?_|simp -dsimp only[↓RP,RQ,seval,l71,TYz,NB,QÀ,↓RY,hr0,TYR]);refine⟨(w+1,m1+42),⟨hwm2,Ωc⟩,Ωc,weakSU (xa5 _) (by simp[qQ,Go.Sx.look,l1,l2,l3,l8,l69,l70]) (λj x hx=>?_)⟩;show blk hp2 j=some x;rw[hbk];refine SubHp.skip ?_ (SubHp.skip ?_ (SubHp.refl _)) j x hx
    ·simp only[blk]
     rw[if_neg Ω,if_neg Ω,if_neg Ω];exact hr.none Ω
    ·simp only[blk]
     rw[if_neg Ω,if_neg Ω,if_neg Ω];exact hr.none Ω
  obtain rfl:nb=w:=by omega
  have hlt2:=decide_eq_false (Ω:¬((nb:Nat):Int)<(nb:Nat));have hdu:=Jm Ω hq hd;have hsb:=Zx q nb hq;have e5:c+100*sQ q nb - c=100*sQ q nb:=by omega
  have e6:Int.tdiv (100*sQ q nb*d) 1000=qM q d nb:=rfl;have e7:=qcC Ω hq hd;(repeat' first|refine sD ?_ ?_<;>intro _|refine aAc ?_|simp -dsimp only[↓RP,RQ,seval,hlt2,e5,e6,Int.sub_zero,TYz,NB,QÀ,↓RY,hr0,TYR]);exact⟨_,m1+48,_,vm (fr':=[(0,_)]) ⟨.inr rfl,trivial⟩ (SubHp.cons (SubHp.cons (SubHp.skip hr0 (SubHp.refl _)))),id+8,id+3,Ω,Ω,Ω,rfl,rfl⟩
end Go.Tn
end
section
namespace Go.Tn
open Go.Proofs
open Go.Sx
theorem qmM(n nb:Nat)(f q:Nat→Int)(fav:Bool)(c d st:Int)(hn1:2≤n)(hn:n≤8)(hnb:nb≤100)(hf:∀i,i<nb→0≤f i∧f i<n)(hq:∀i,i<nb→1≤q i∧q i≤1000)(hc:0≤c∧c≤1000000)(hd:0≤d∧d≤500)(hst:1≤st∧st≤100):ckB n nb f (λ_=>-1) q c d st=0:=
 ckB_ok.2 ⟨⟨⟨Ω,Ω⟩,hc,hd,hst.1,hst.2⟩,hnb,λi hi=>⟨hq i hi,hf i hi,rfl⟩⟩
theorem e95(n nb:Nat)(f q:Nat→Int)(fav:Bool)(c d st:Int)(hn1:2≤n)(hn:n≤8)(hnb:nb≤100)(hf:∀i,i<nb→0≤f i∧f i<n)(hq:∀i,i<nb→1≤q i∧q i≤1000)(hc:0≤c∧c≤1000000)(hd:0≤d∧d≤500)(hst:1≤st∧st≤100)(id:Nat)(rest:List (Nat×Blk))(hr:Under rest id):EffVC Tryz.prog 95 [bkS n nb f (λ_=>-1) q fav c d st] rest id (λhp' nid' res=>
  ∃tid mid,id≤mid∧mid<tid∧tid<nid'∧hp'=(tid,.cells 167 (tlL n nb f q fav c d st (amx (cV f q nb) n:Nat) (.mp mid) (c+100*sQ q nb) 0 (qM q d nb) 0 0 (c+100*sQ q nb - qM q d nb))) ::(mid,.map (qh true [.i .i64,.i .i64]) (uD f nb) (uG f q nb)) :: rest∧res=.tup [.ptr tid 0,I 0]):=by
 refine vu follows Tryz.func95 rfl Ωb Ωb (by rw[Tryz.ntmps95];simp) λout=>?_;have hr0:blk rest id=none:=hr.none (xa5 _);have NB:True:=trivial;have h1:=qrv n nb f (λ_=>-1) q fav c d st (qmM n nb f q fav c d st hn1 hn hnb hf hq hc hd hst);unfold bkS;(repeat' first|refine sD ?_ ?_<;>intro _|refine aAc ?_|simp -dsimp only[↓RP,RQ,seval,TYz,NB,QÀ,hr0,TYR]);refine qk (h1) (by simp only[SubL,and_true];exact qr _ (jf _ _ _ _ _ _ _ _ _)) Ωa ?_;(repeat' first|refine sD ?_ ?_<;>intro _|refine aAc ?_|simp -dsimp only[↓RP,RQ,seval,QÀ,TYz,NB,hr0,TYR]);refine gG Ωr (qrN n nb f q fav c d st hn1 hn hnb hf hq hc hd hst _ _ ((hr.mono (Nat.le_add_right id _)).cons Ω)) λhp' nid' res ⟨tid,mid,q1,q2,q3,q4,q5⟩=>?_;subst q4 q5;(repeat' first|refine sD ?_ ?_<;>intro _|refine aAc ?_|simp -dsimp only[↓RP,RQ,seval,TYz,NB,QÀ,hr0,TYR]);exact⟨_,_,_,vm (fr':=[(0,_)]) ⟨.inr rfl,trivial⟩ (SubHp.cons (SubHp.cons (SubHp.skip hr0 (SubHp.refl _)))),tid,mid,Ω,Ω,Ω,rfl,rfl⟩
theorem c91(nb:Nat)(n:Int)(f q:Nat→Int)(fav:Bool)(c d st:Int)(x y:Int):qf Tryz.prog 91 [bkS n nb f (λ_=>-1) q fav c d st,vM x (-1) y] (.tup [.agg [I x,I (-1)],B true]):=by
 refine qg Tryz.func91 rfl Ωb follows Ωb _ _ (by rw[Tryz.ntmps91];simp) Ωf ?_;have NB:True:=trivial;have hr0:True:=trivial;have h1:=qlU x;have h2:=qlU (-1);unfold bkS vM I B;(repeat' first|refine sD ?_ ?_<;>intro _|refine aAc ?_|simp -dsimp only[↓RP,RQ,seval,TYz,NB,QÀ,hr0,TYR]);refine qk (h1) Ω3 Ωa ?_;(repeat' first|refine sD ?_ ?_<;>intro _|refine aAc ?_|simp -dsimp only[↓RP,RQ,seval,QÀ,TYz,NB,hr0,TYR]);refine qk (h2) Ω3 Ωa ?_;repeat' first|refine sD ?_ ?_<;>intro _|refine aAc ?_|simp -dsimp only[↓RP,RQ,seval,QÀ,TYz,NB,hr0,TYR]
theorem c26(nb:Nat)(n:Int)(f q:Nat→Int)(fav:Bool)(c d st:Int)(r:Int)(hnb:nb≤100)(hq:∀i,i<nb→1≤q i∧q i≤1000):qf Tryz.prog 26 [bkS n nb f (λ_=>-1) q fav c d st,.agg [I r,I (-1)]] (I (cF f q nb r)):=by
 refine qg Tryz.func26 rfl Ωb follows Ωb _ _ (by rw[Tryz.ntmps26];simp) Ωf ?_;have NB:True:=trivial;have hr0:True:=trivial;unfold bkS I;(repeat' first|refine sD ?_ ?_<;>intro _|refine aAc ?_|simp -dsimp only[↓RP,RQ,seval,TYz,NB,QÀ,hr0,TYR]);refine qp (λ(w:Nat)=>w≤nb) (λw=>⟨[(2,.ptr 0 0),(3,.ptr 1 0),(5,Ψ (Φ Γ (cF f q w r))),(6,Ψ (Φ Γ (w:Nat)))],[(1,.cells 55 [Ψ (Φ Γ r),Ψ (Φ Γ (-1))]),(0,.cells 48 [Ψ (Φ Γ 0),Ψ (Φ Γ n),za nb f (λ_=>-1) q,.val (.slice none 0 0),.val (.bool fav),Ψ (Φ Γ c),Ψ (Φ Γ d),Ψ (Φ Γ st)])],100+60*w⟩) (λw=>nb - w) 0 (xb6 _) (weakSU Ω (by simp[qQ,Go.Sx.look,cF]) (SubHp.refl _)) λw hw=>?_;by_cases hwm:w<nb
 ·have hlt:=decide_eq_true (Ω:((w:Nat):Int)<(nb:Nat))
  obtain⟨n1,hn1⟩:∃n1,n1=100+60*w:=⟨_,rfl⟩;rw[←hn1];have NB:=(⟨nmA (Ω:0<n1),nmA (Ω:1<n1)⟩:_∧_);have h1:=c91 nb n f q fav c d st (f w) (q w);have hb:=yq f q r w (λi hi=>hq i Ω);have hqw:=hq w hwm;(repeat' first|refine sD ?_ ?_<;>intro _|refine aAc ?_|simp -dsimp only[↓RP,RQ,seval,hlt,za,TYz,NB,QÀ,hr0,TYR]);refine qk (h1) ΩD Ωa ?_;repeat' first|refine sD ?_ ?_<;>intro _|refine aAc ?_|simp -dsimp only[↓RP,RQ,seval,QÀ,za,TYz,NB,hr0,TYR]
  all_goals
   rename_i hc;refine⟨w+1,hwm,Ω,weakSU Ω (by simp[qQ,Go.Sx.look,JR,hc]) (SubHp.skip ?_ (SubHp.refl _))⟩;simp only[blk];rw[if_neg Ω,if_neg Ω]
 ·obtain rfl:nb=w:=by omega
  have hlt:=decide_eq_false (Ω:¬((nb:Nat):Int)<(nb:Nat));repeat' first|refine sD ?_ ?_<;>intro _|refine aAc ?_|simp -dsimp only[↓RP,RQ,seval,hlt,za,TYz,NB,QÀ,hr0,TYR]
end Go.Tn
end
section
namespace Go.Tn
open Go.Proofs
open Go.Sx
theorem qrO(m:Nat)(u:Nat→Int)(hm:m≤1000000)(hu:∀i,i+1<m→u i<u (i+1)):qf Tryz.prog 185 [qE m u] (B true):=by
 refine qg Tryz.func185 rfl Ωb follows Ωb _ _ (by rw[Tryz.ntmps185];simp) Ωf ?_;have NB:True:=trivial;have hr0:True:=trivial;unfold qE B;(repeat' first|refine sD ?_ ?_<;>intro _|refine aAc ?_|simp -dsimp only[↓RP,RQ,seval,TYz,NB,QÀ,hr0,TYR]);refine qp (λ(w:Nat)=>w≤m) (λw=>⟨[(0,.arr false false m 1 (λi _=>Ψ (Φ Γ (u i)))),(4,.arr false false m 1 (λi _=>Ψ (Φ Γ (u i)))),(5,Ψ (Φ Γ (m:Nat))),(6,Ψ (Φ Γ (w:Nat)))],[],40+30*w⟩) (λw=>m - w) 0 (xb6 _) (weakSU Ω Ωd (SubHp.refl _)) λw hw=>?_;by_cases hwm:w<m
 ·have hlt:=decide_eq_true (Ω:((w:Nat):Int)<(m:Nat))
  by_cases h0:w=0
  ·subst h0
   have dg:=decide_eq_false (Ω:¬(0:Int)<((0:Nat):Int));(repeat' first|refine sD ?_ ?_<;>intro _|refine aAc ?_|simp -dsimp only[↓RP,RQ,seval,hlt,dg,TYz,NB,QÀ,hr0,TYR]);exact⟨1,hwm,Ω,weakSU Ω Ωd (SubHp.refl _)⟩
  ·have dg:=decide_eq_true (Ω:(0:Int)<((w:Nat):Int))
   have hlt3:=hu (w - 1) Ω;rw[show w - 1+1=w by omega]at hlt3;have tn:Int.toNat ((w:Nat) - 1:Int)=w - 1:=by omega
   have dl:=decide_eq_false (Ω:¬u w≤u (w - 1));(repeat' first|refine sD ?_ ?_<;>intro _|refine aAc ?_|simp -dsimp only[↓RP,RQ,seval,hlt,dg,tn,dl,TYz,NB,QÀ,hr0,TYR]);refine⟨w+1,hwm,Ω,weakSU Ω Ωd (SubHp.refl _)⟩
 ·obtain rfl:m=w:=by omega
  have hlt:=decide_eq_false (Ω:¬((m:Nat):Int)<(m:Nat));repeat' first|refine sD ?_ ?_<;>intro _|refine aAc ?_|simp -dsimp only[↓RP,RQ,seval,hlt,TYz,NB,QÀ,hr0,TYR]
end Go.Tn
end
section
namespace Go.Tn
open Go.Sx
theorem qaJ(b:Nat→Bool):∀(k i:Nat),(∃j,i≤j∧j<i+k∧b j=true)→∃j:Nat,zK b i k=j∧i≤j∧j<i+k∧b j=true
 |0,i,⟨j,h1,h2,_⟩=>by omega
 |k+1,i,⟨j,h1,h2,h3⟩=>by
  show ∃j':Nat,(if b i=true then(i:Int)else zK b (i+1) k)=j'∧_;by_cases e:b i=true
  ·grind
  ·have hj:i+1≤j:=by
    grind
   obtain⟨j',q1,q2,q3,q4⟩:=qaJ b k (i+1) ⟨j,hj,Ω,h3⟩
   grind
theorem qpc{l:List Nat}{i:Nat}(h:l.Nodup)(hi:i<l.length)(x:Nat):x∈l.eraseIdx i↔x∈l∧x≠l[i]:=by
 rw[List.mem_eraseIdx_iff_getElem];constructor
 ·rintro⟨j,hj,hne,rfl⟩
  refine⟨List.getElem_mem _,λe=>hne ?_⟩;exact(List.getElem_inj h).1 e
 ·rintro⟨hm,hne⟩
  obtain⟨j,hj,rfl⟩:=List.getElem_of_mem hm
  grind
theorem qpd{l:List Nat}{i n nn:Nat}{row r:Nat→Nat→SV}(hn:n=l.length)(hi:i<n)(hnn:n≤nn)(h0:∀x (hx:x<l.length),row x 0=Ψ (Φ Γ (l[x]:Nat)))
  (hr:∀x,x<nn→r x 0=if n -(i+1 - i)≤x∧x<n then Ψ (Φ Γ 0)else gO row i (i+1) (n -(i+1)) x 0) :
  ∀x (hx:x<(l.eraseIdx i).length),r x 0=Ψ (Φ Γ ((l.eraseIdx i)[x]:Nat)):=by
 intro x hx;have hl:(l.eraseIdx i).length=l.length - 1:=List.length_eraseIdx_of_lt Ω;rw[hr x Ω,if_neg Ω];rw[List.getElem_eraseIdx];unfold gO;by_cases e:x<i
 ·grind
 ·grind
end Go.Tn
end
section
namespace Go.Tn
open Go.Proofs
open Go.Sx
variable{G:List (List Nat)}{g n:Nat}{L:List Nat}
def lft(n:Nat)(G:List (List Nat))(g w:Nat)(L:List Nat):Prop:=L.Nodup∧∀x,x∈L↔x<n∧x∉(G.take g).flatten++(G.getD g []).take w
def rwL(L:List Nat)(r:Nat→Nat→SV):Prop:=∀x (hx:x<L.length),r x 0=Ψ (Φ Γ (L[x]:Nat))
theorem qmN(hg:g<G.length):G=G.take g++G.getD g [] :: G.drop (g+1):=by
 rw[xc6,xc7 hg];show G=G.take g++G[g] :: G.drop (g+1);rw[←List.drop_eq_getElem_cons hg,List.take_append_drop]
theorem qpe{w:Nat}(hG2:G.flatten.Nodup)(hG3:∀x,x∈G.flatten↔x<n)(h:lft n G g w L)(hg:g<G.length)(hw:w<(G.getD g []).length):(G.getD g [])[w]∈L:=by
 have hs:=qmN hg;rw[h.2];have hm:(G.getD g [])[w]∈G.flatten:=List.mem_flatten.2 ⟨G.getD g [],by rw[xc6,xc7 hg];exact List.getElem_mem _,List.getElem_mem _⟩;refine⟨(hG3 _).1 hm,λhx=>?_⟩;rw[hs,List.flatten_append,List.flatten_cons]at hG2;rw[List.nodup_append]at hG2;obtain⟨_,h2,h3⟩:=hG2;rcases List.mem_append.1 hx with h4|h4
 ·exact h3 _ h4 _ (List.mem_append.2 (.inl (List.getElem_mem _))) rfl
 ·have h5:=(List.nodup_append.1 h2).1
  obtain⟨j,hj,e⟩:=List.getElem_of_mem h4;rw[xd9]at hj;rw[List.getElem_take]at e;have:=(List.getElem_inj h5).1 e;omega
theorem qki{w i:Nat}(h:lft n G g w L)(hw:w<(G.getD g []).length)(hi:i<L.length)(e:L[i]=(G.getD g [])[w]):lft n G g (w+1) (L.eraseIdx i):=by
 refine⟨h.1.sublist (List.eraseIdx_sublist _ _),λx=>?_⟩;rw[qpc h.1 hi,h.2,e,List.take_add_one,xc7 hw];simp only[xd4,Option.toList_some,xe0,not_or,ne_eq];constructor
 ·rintro⟨⟨h1,h2,h3⟩,h4⟩;exact⟨h1,h2,h3,h4⟩
 ·rintro⟨h1,h2,h3,h4⟩;exact⟨⟨h1,h2,h3⟩,h4⟩
theorem qgH(h:lft n G g (G.getD g []).length L)(hg:g<G.length):lft n G (g+1) 0 L:=by
 refine⟨h.1,λx=>?_⟩;have e:G.take (g+1)=G.take g++[G.getD g []]:=by
  rw[List.take_add_one,xc7 hg,xc6,xc7 hg];rfl
 rw[h.2,List.take_length,e,List.flatten_append];simp
theorem e92(n nb:Nat)(f q:Nat→Int)(fav:Bool)(c d st:Int)(hn1:2≤n)(hn:n≤8)(hnb:nb≤100)(hf:∀i,i<nb→0≤f i∧f i<n)(hq:∀i,i<nb→1≤q i∧q i≤1000)(hc:0≤c∧c≤1000000)(hd:0≤d∧d≤500)(hst:1≤st∧st≤100)(G:List (List Nat))(hG:G.length≤8)(hG0:∀g,g∈G→g.length≤8)(hG1:∀g,g∈G→g≠[]∧g.Pairwise (· < ·))(hG2:G.flatten.Nodup)(hG3:∀x,x∈G.flatten↔x<n)(id:Nat)(rest:List (Nat×Blk))(hr:Under rest id):EffVC Tryz.prog 92 [bkS n nb f (λ_=>-1) q fav c d st,.arr false false G.length 1 (λi _=>.arr false false (G.getD i []).length 1 (λj _=>Ψ (Φ Γ ((G.getD i []).getD j 0:Nat))))] rest id (λhp' nid' res=>
  ∃tid mid,id≤mid∧mid<tid∧tid<nid'∧hp'=(tid,.cells 167 (tlL n nb f q fav c d st (amx (cV f q nb) n:Nat) (.mp mid) (c+100*sQ q nb) 0 (qM q d nb) 0 0 (c+100*sQ q nb - qM q d nb))) ::(mid,.map (qh true [.i .i64,.i .i64]) (uD f nb) (uG f q nb)) :: rest∧res=.tup [.ptr tid 0,I 0]):=by
 refine vu follows Tryz.func92 rfl Ωb Ωb (by rw[Tryz.ntmps92];simp) λout=>?_;have hr0:blk rest id=none:=hr.none (xa5 _);have NB:True:=trivial;unfold bkS;(repeat' first|refine sD ?_ ?_<;>intro _|refine aAc ?_|simp -dsimp only[↓RP,RQ,seval,TYz,NB,QÀ,hr0,TYR]);refine gG Ωr (e95 n nb f q fav c d st hn1 hn hnb hf hq hc hd hst _ _ ((hr.mono (Nat.le_add_right id _)).cons Ω)) λhp' nid' res ⟨tid,mid,q1,q2,q3,q4,q5⟩=>?_;subst q4 q5;have h184:=qqF n nb f q fav c d st (amx (cV f q nb) n:Nat) .top yV (c+100*sQ q nb) 0 (qM q d nb) 0 0 (c+100*sQ q nb - qM q d nb) Ω hn;(repeat' first|refine sD ?_ ?_<;>intro _|refine aAc ?_|simp -dsimp only[↓RP,RQ,seval,TYz,NB,QÀ,hr0,TYR]);refine callN h184 (by simp only[SubL,and_true];exact Z8 (M:=.mp mid) ΩS) (by simp[FreshO]) Ωaj ?_;(repeat' first|refine sD ?_ ?_<;>intro _|refine aAc ?_|simp -dsimp only[↓RP,RQ,seval,TYz,NB,QÀ,hr0,TYR]);obtain⟨lid,hlid⟩:∃lid,lid=nid'+10:=⟨_,rfl⟩;rw[←hlid];refine qp (λ(z:Nat×List Nat×(Nat→Nat→SV)×Nat)=>z.1≤G.length∧lft n G z.1 0 z.2.1∧rwL z.2.1 z.2.2.1∧z.2.1.length≤n∧lid<z.2.2.2) (λz=>⟨[(1,.arr false false G.length 1 (λi _=>.arr false false (G.getD i []).length 1 (λj _=>Ψ (Φ Γ ((G.getD i []).getD j 0:Nat))))),(4,.val (.pointer none)),(5,Ψ (Φ Γ 0)),(6,.ptr tid 0),(8,.vec lid z.2.1.length 1),(24,.arr false false G.length 1 (λi _=>.arr false false (G.getD i []).length 1 (λj _=>Ψ (Φ Γ ((G.getD i []).getD j 0:Nat))))),(25,Ψ (Φ Γ (G.length:Nat))),(26,Ψ (Φ Γ (z.1:Nat)))],(lid,.rows 3 1 n z.2.2.1) ::(tid,.cells 167 (tlL n nb f q fav c d st (amx (cV f q nb) n:Nat) (.mp mid) (c+100*sQ q nb) 0 (qM q d nb) 0 0 (c+100*sQ q nb - qM q d nb))) ::(mid,.map (qh true [.i .i64,.i .i64]) (uD f nb) (uG f q nb)) :: rest,z.2.2.2⟩) (λz=>G.length - z.1) (0,List.range n,λi _=>Ψ (Φ Γ (i:Nat)),nid'+15) ⟨xb6 _,⟨List.nodup_range,λx=>Ωg⟩,λx hx=>Ωg,Ωg,Ωc⟩ (weakSU (xa5 _) Ωd (SubHp.cons (SubHp.cons (SubHp.cons (SubHp.skip hr0 (SubHp.refl _)))))) λz hz=>?_;obtain⟨g,L,r,n1⟩:=z;obtain⟨hg,hL,hrw,hLn,hn1'⟩:=hz;dsimp only at hg hL hrw hLn hn1' ⊢;have NB:=(⟨nmA (Ω:lid<n1),nmA (Ω:tid<n1),nmA (Ω:mid<n1),nmE (Ω:lid≠tid),nmE (Ω:lid≠mid),nmE (Ω:tid≠mid)⟩:_∧_∧_∧_∧_∧_);by_cases hgl:g<G.length
 ·have hlt:=decide_eq_true (Ω:((g:Nat):Int)<(G.length:Nat))
  obtain⟨gr,hgr⟩:∃gr,gr=G.getD g []:=⟨_,rfl⟩;have hmem:gr∈G:=by rw[hgr,xc6,xc7 hgl];exact List.getElem_mem _
  have⟨hne,hinc⟩:=hG1 gr hmem;have hpos:0<gr.length:=List.length_pos_iff.2 hne;have dl:=decide_eq_false (Ω:¬((gr.length:Nat):Int)=0);have hgrn:gr.length≤1000000:=by have:=hG0 gr hmem;omega
  have h185:=qrO gr.length (λj=>(gr.getD j 0:Nat)) hgrn (λi hi=>by
   have:=List.pairwise_iff_getElem.1 hinc i (i+1) Ω hi Ω;rw[xc6,xc6,xc7 Ω,xc7 hi];simpa using this)
  have hgr':=hgr.symm;(repeat' first|refine sD ?_ ?_<;>intro _|refine aAc ?_|simp -dsimp only[↓RP,RQ,seval,hlt,hgr',dl,TYz,NB,QÀ,hr0,TYR]);refine qk (h185) (by(simp -dsimp only[↓RP,RQ,seval,qE]);all_goals (try simp[Go.Sx.Sub])) Ωa ?_;(repeat' first|refine sD ?_ ?_<;>intro _|refine aAc ?_|simp -dsimp only[↓RP,RQ,seval,QÀ,hgr',dl,TYz,NB,hr0,TYR]);have ARR:True:=trivial;refine qp (λ(z:Nat×List Nat×(Nat→Nat→SV)×Nat)=>z.1≤gr.length∧lft n G g z.1 z.2.1∧rwL z.2.1 z.2.2.1∧z.2.1.length≤n∧lid<z.2.2.2) (λz=>⟨[(1,.arr false false G.length 1 (λi _=>.arr false false (G.getD i []).length 1 (λj _=>Ψ (Φ Γ ((G.getD i []).getD j 0:Nat))))),(4,.val (.pointer none)),(5,Ψ (Φ Γ 0)),(6,.ptr tid 0),(8,.vec lid z.2.1.length 1),(24,.arr false false G.length 1 (λi _=>.arr false false (G.getD i []).length 1 (λj _=>Ψ (Φ Γ ((G.getD i []).getD j 0:Nat))))),(25,Ψ (Φ Γ (G.length:Nat))),(26,Ψ (Φ Γ (g:Nat))),(38,.arr false false gr.length 1 (λj _=>Ψ (Φ Γ (gr.getD j 0:Nat)))),(39,Ψ (Φ Γ (gr.length:Nat))),(40,Ψ (Φ Γ (z.1:Nat)))],(lid,.rows 3 1 n z.2.2.1) ::(tid,.cells 167 (tlL n nb f q fav c d st (amx (cV f q nb) n:Nat) (.mp mid) (c+100*sQ q nb) 0 (qM q d nb) 0 0 (c+100*sQ q nb - qM q d nb))) ::(mid,.map (qh true [.i .i64,.i .i64]) (uD f nb) (uG f q nb)) :: rest,z.2.2.2⟩) (λz=>gr.length - z.1) (0,L,r,n1+40) ⟨xb6 _,hL,hrw,hLn,Ωc⟩ (weakSU Ωc Ωd (SubHp.refl _)) λz hz=>?_;clear NB;obtain⟨w,L2,r2,n2⟩:=z;obtain⟨hw,hL2,hrw2,hLn2,hn2⟩:=hz;dsimp only at hw hL2 hrw2 hLn2 hn2 ⊢;have NB:=(⟨nmA (Ω:lid<n2),nmA (Ω:tid<n2),nmA (Ω:mid<n2),nmE (Ω:lid≠tid),nmE (Ω:lid≠mid),nmE (Ω:tid≠mid)⟩:_∧_∧_∧_∧_∧_);by_cases hwl:w<gr.length
  ·have hlt2:=decide_eq_true (Ω:((w:Nat):Int)<(gr.length:Nat))
   have hin:=qpe hG2 hG3 hL2 hgl (w:=w) (by rw[←hgr];exact hwl);have hgw:(gr.getD w 0)∈L2:=by
    rw[xc6,xc7 hwl];subst hgr;exact hin
   obtain⟨p,hp,hpe⟩:=List.getElem_of_mem hgw;have h169:=qrl L2.length (λj=>(L2.getD j 0:Nat)) (gr.getD w 0:Nat) Ω;obtain⟨i,e1,_,e3,e4⟩:=qaJ (vAt (λj=>(L2.getD j 0:Nat)) (gr.getD w 0:Nat)) L2.length 0 ⟨p,xb6 _,Ω,by simp only[vAt,decide_eq_true_eq];rw[xc6 (l:=L2),xc7 hp,←hpe];rfl⟩;rw[e1]at h169;have hi:i<L2.length:=by omega
   have hie:L2[i]=(G.getD g [])[w]'(by rw[←hgr];exact hwl):=by
    simp only[vAt,decide_eq_true_eq]at e4;rw[xc6 (l:=L2),xc7 hi,xc6 (l:=gr),xc7 hwl]at e4;subst hgr;have e6:(((G.getD g [])[w]:Nat):Int)=(L2[i]:Nat):=e4;omega
   have dneg:=decide_eq_false (Ω:¬((i:Nat):Int)<0);have hle:L2.length -(i+1 - i)=(L2.eraseIdx i).length:=by rw[List.length_eraseIdx_of_lt hi];omega
   have k186:∀id',lid<id'→EffVC Tryz.prog 186 [.vec lid L2.length 1,Ψ (Φ Γ (i:Nat)),Ψ (Φ Γ ((i:Nat)+1))] ((lid,.rows 3 1 n r2) ::(tid,.cells 167 (tlL n nb f q fav c d st (amx (cV f q nb) n:Nat) (.mp mid) (c+100*sQ q nb) 0 (qM q d nb) 0 0 (c+100*sQ q nb - qM q d nb))) ::(mid,.map (qh true [.i .i64,.i .i64]) (uD f nb) (uG f q nb)) :: rest) id' (λhp' nid' res=>nid'=id'+60∧res=.vec lid (L2.length -(i+1 - i)) 1∧∃r,(∀x,x<n→r x 0=if L2.length -(i+1 - i)≤x∧x<L2.length then Ψ (Φ Γ 0)else gO r2 i (i+1) (L2.length -(i+1)) x 0)∧hp'=setBlk ((lid,.rows 3 1 n r2) ::(tid,.cells 167 (tlL n nb f q fav c d st (amx (cV f q nb) n:Nat) (.mp mid) (c+100*sQ q nb) 0 (qM q d nb) 0 0 (c+100*sQ q nb - qM q d nb))) ::(mid,.map (qh true [.i .i64,.i .i64]) (uD f nb) (uG f q nb)) :: rest) lid (.rows 3 1 n r)):=λid' h'=>by
    have:=qqC ((lid,.rows 3 1 n r2) ::(tid,.cells 167 (tlL n nb f q fav c d st (amx (cV f q nb) n:Nat) (.mp mid) (c+100*sQ q nb) 0 (qM q d nb) 0 0 (c+100*sQ q nb - qM q d nb))) ::(mid,.map (qh true [.i .i64,.i .i64]) (uD f nb) (uG f q nb)) :: rest) id' lid L2.length n i (i+1) r2 Ω hLn2 Ω Ω ΩS h' (λx hx=>⟨_,hrw2 x hx⟩);rw[show(((i+1:Nat)):Int)=(i:Nat)+1 by omega]at this;exact this
   (repeat' first|refine sD ?_ ?_<;>intro _|refine aAc ?_|simp -dsimp only[↓RP,RQ,seval,hlt2,TYz,NB,QÀ,hr0,TYR]);refine qk (h169) (by simp only[SubL,qE,I,Go.Sx.Sub,blk,if_true,true_and,and_true];exact⟨hLn2,λa b ha hb=>by(obtain rfl:b=0:=by omega);rw[hrw2 a ha,xc6,xc7 ha];rfl⟩) Ωa ?_;(repeat' first|refine sD ?_ ?_<;>intro _|refine aAc ?_|simp -dsimp only[↓RP,RQ,seval,QÀ,dneg,TYz,NB,hr0,TYR]);refine gG Ωr (k186 _ Ω) λhp' nid2 res ⟨qa,qb,r',qc,qd⟩=>?_;rw[hle]at qb;subst qa qb qd;(repeat' first|refine sD ?_ ?_<;>intro _|refine aAc ?_|simp -dsimp only[↓RP,RQ,seval,setBlk,TYz,NB,QÀ,hr0,TYR]);refine⟨(w+1,L2.eraseIdx i,r',_),⟨hwl,qki hL2 (by rw[←hgr];exact hwl) hi hie,qpd rfl hi hLn2 hrw2 qc,?hz3,?hz4⟩,Ωc,weakSU (xa5 _) Ωd (SubHp.refl _)⟩
   case hz3=>dsimp only;omega
   case hz4=>dsimp only;omega
  ·obtain rfl:w=gr.length:=by omega
   have hlt2:=decide_eq_false (Ω:¬((gr.length:Nat):Int)<(gr.length:Nat));(repeat' first|refine sD ?_ ?_<;>intro _|refine aAc ?_|simp -dsimp only[↓RP,RQ,seval,hlt2,TYz,NB,QÀ,hr0,TYR]);refine⟨(g+1,L2,r2,_),⟨hgl,qgH (by rw[←hgr];exact hL2) hgl,hrw2,hLn2,?hz1⟩,Ωc,weakSU (xa5 _) Ωd (SubHp.refl _)⟩;dsimp only;omega
 ·obtain rfl:g=G.length:=by omega
  have hlt:=decide_eq_false (Ω:¬((G.length:Nat):Int)<(G.length:Nat));have hL0:L=[]:=by
   refine List.eq_nil_iff_forall_not_mem.2 λx hx=>?_;have:=(hL.2 x).1 hx;rw[List.take_length]at this;exact this.2 (List.mem_append.2 (.inl ((hG3 x).2 this.1)))
  subst hL0;repeat' first|refine sD ?_ ?_<;>intro _|refine aAc ?_|simp -dsimp only[↓RP,RQ,seval,hlt,TYz,NB,QÀ,hr0,TYR]
  all_goals try exact ΩB
  exact⟨_,_,_,vm (fr':=[(0,_)]) ⟨.inr rfl,trivial⟩ (SubHp.skip (by simp only[blk];rw[if_neg Ω,if_neg Ω];exact hr.none Ω) (SubHp.refl _)),tid,mid,Ω,Ω,Ω,rfl,rfl⟩
end Go.Tn
end
section
namespace Go.Tn
open Go.Proofs
open Go.Sx
theorem qrP(a:Int):qf Tryz.prog 405 [I a] (B false):=by
 refine qg Tryz.func405 rfl Ωb follows Ωb _ _ (by rw[Tryz.ntmps405];simp) Ωf ?_;have NB:True:=trivial;have hr0:True:=trivial;unfold I B;repeat' first|refine sD ?_ ?_<;>intro _|refine aAc ?_|simp -dsimp only[↓RP,RQ,seval,TYz,NB,QÀ,hr0,TYR]
 all_goals (refine wL ?_;simp)
theorem qrQ(a b:Int):qf Tryz.prog 389 [I a,I b] (B (decide (a<b))):=by
 refine qg Tryz.func389 rfl Ωb follows Ωb _ _ (by rw[Tryz.ntmps389];simp) Ωf ?_;have NB:True:=trivial;have hr0:True:=trivial;have h1:=qrP a;unfold I B;(repeat' first|refine sD ?_ ?_<;>intro _|refine aAc ?_|simp -dsimp only[↓RP,RQ,seval,TYz,NB,QÀ,hr0,TYR]);refine qk (h1) Ω3 Ωa ?_;repeat' first|refine sD ?_ ?_<;>intro _|refine aAc ?_|simp -dsimp only[↓RP,RQ,seval,QÀ,TYz,NB,hr0,TYR]
theorem qrR(m:Nat)(u:Nat→Int)(h1:1≤m)(hm:m≤1000000)(hu:∀i,i+1<m→u i<u (i+1)):qf Tryz.prog 383 [qE m u,I 0,I m] (.tup []):=by
 refine qg Tryz.func383 rfl Ωb follows Ωb _ _ (by rw[Tryz.ntmps383];simp) Ωf ?_;have NB:True:=trivial;have hr0:True:=trivial;unfold qE I;(repeat' first|refine sD ?_ ?_<;>intro _|refine aAc ?_|simp -dsimp only[↓RP,RQ,seval,TYz,NB,QÀ,hr0,TYR]);refine qp (λ(w:Nat)=>1≤w∧w≤m) (λw=>⟨[(0,.arr false false m 1 (λi _=>Ψ (Φ Γ (u i)))),(1,Ψ (Φ Γ 0)),(2,Ψ (Φ Γ (m:Nat))),(6,Ψ (Φ Γ (w:Nat)))],[],40+60*w⟩) (λw=>m - w) 1 ⟨xa5 _,h1⟩ (weakSU Ω Ωd (SubHp.refl _)) λw hw=>?_;obtain⟨hw1,hw⟩:=hw;by_cases hwm:w<m
 ·have hlt:=decide_eq_true (Ω:((w:Nat):Int)<(m:Nat))
  (repeat' first|refine sD ?_ ?_<;>intro _|refine aAc ?_|simp -dsimp only[↓RP,RQ,seval,hlt,TYz,NB,QÀ,hr0,TYR]);refine qp (λ(_:Unit)=>True) (λ_=>⟨[(0,.arr false false m 1 (λi _=>Ψ (Φ Γ (u i)))),(1,Ψ (Φ Γ 0)),(2,Ψ (Φ Γ (m:Nat))),(6,Ψ (Φ Γ (w:Nat))),(7,Ψ (Φ Γ (w:Nat)))],[],60+60*w⟩) (λ_=>0) () trivial (weakSU Ω Ωd (SubHp.refl _)) λz hz=>?_;have dg:=decide_eq_true (Ω:(0:Int)<((w:Nat):Int));have hlt3:=hu (w - 1) Ω;rw[show w - 1+1=w by omega]at hlt3;have tn:Int.toNat ((w:Nat) - 1:Int)=w - 1:=by omega
  have dl:=decide_eq_false (Ω:¬u w<u (w - 1));have h389:=qrQ (u w) (u (w - 1));rw[dl]at h389;(repeat' first|refine sD ?_ ?_<;>intro _|refine aAc ?_|simp -dsimp only[↓RP,RQ,seval,hlt,dg,tn,TYz,NB,QÀ,hr0,TYR]);refine qk (h389) Ω3 Ωa ?_;(repeat' first|refine sD ?_ ?_<;>intro _|refine aAc ?_|simp -dsimp only[↓RP,RQ,seval,QÀ,TYz,NB,hr0,TYR]);refine⟨w+1,⟨Ω,hwm⟩,Ω,weakSU Ω Ωd (SubHp.refl _)⟩
 ·obtain rfl:m=w:=by omega
  have hlt:=decide_eq_false (Ω:¬((m:Nat):Int)<(m:Nat));repeat' first|refine sD ?_ ?_<;>intro _|refine aAc ?_|simp -dsimp only[↓RP,RQ,seval,hlt,TYz,NB,QÀ,hr0,TYR]
end Go.Tn
end
section
namespace Go.Tl
open Go.Proofs
open Go.Sx
theorem follows:Tryz.prog.follows .mixedOrders=true:=by kernel_rfl
theorem TYl:qn Tryz.prog 2=some { agg:=false,size:=1,zero:=some [Value.int IntKind.i64 (0)],d:=D.int IntKind.i64 }∧qn Tryz.prog 3=some { agg:=false,size:=1,zero:=some [Value.int IntKind.i64 (0)],d:=D.int IntKind.i64 }∧qn Tryz.prog 4=some { agg:=false,size:=1,zero:=some [Value.bool false],d:=D.bool }∧qn Tryz.prog 32=some { agg:=false,size:=1,zero:=some [Value.slice none 0 0],d:=D.slice 2 1 }∧qn Tryz.prog 43=some { agg:=false,size:=1,zero:=some [Value.slice none 0 0],d:=D.slice 32 1 }:=⟨Ωb,Ωb,Ωb,Ωb,Ωb⟩
theorem by2:qF Tryz.prog 2=8:=by kernel_rfl
def I(n:Int):SV:=Ψ (Φ Γ n)
def qE(n:Nat)(u:Nat→Int):SV:=.arr false false n 1 (λi _=>Ψ (Φ Γ (u i)))
theorem ya{a b:Int}(h:a=b):SV.val (Value.int IntKind.i64 a)=SV.val (Value.int IntKind.i64 b):=by rw[h]
def ge(f:Nat→Int):Nat→Int
 |0=>f 0
 |k+1=>min (ge f k) (f (k+1))
theorem Jn(f:Nat→Int):∀m k,k≤m→ge f m≤f k
 |0,k,h=>by
   have:k=0:=by omega
   subst this;exact Int.le_refl _
 |m+1,k,h=>by
  simp only[ge];by_cases e:k=m+1
  ·subst e;omega
  ·have:=Jn f m k Ω;omega
theorem Jo(f:Nat→Int):∀m,∃k,k≤m∧ge f m=f k
 |0=>⟨0,xa5 _,rfl⟩
 |m+1=>by
  obtain⟨k,hk,e⟩:=Jo f m;simp only[ge];by_cases h:f (m+1)≤ge f m
  ·exact⟨m+1,xa5 _,Ω⟩
  ·exact⟨k,Ω,Ω⟩
structure Curve where
 m:Nat
 u:Nat→Int
structure Curve.Fine(c:Curve):Prop where
 m1:1≤c.m
 m6:c.m≤6
 rg:∀i,i<c.m→0≤c.u i∧c.u i≤100
 up:∀i,i<c.m - 1→c.u i≤c.u (i+1)
def Curve.L1(c:Curve)(k:Nat):Int:=((k / c.m:Nat):Int)*c.u (c.m - 1)+(if 0<k % c.m then c.u (k % c.m - 1)else 0)
theorem qmO(c:Curve):c.L1 0=0:=by unfold Curve.L1;simp
def Ls(C:Nat→Curve):Nat→Nat→Int
 |0=>(C 0).L1
 |i+1=>λk=>ge (λp=>Ls C i (k - p)+(C (i+1)).L1 p) k
theorem Ls_le(C:Nat→Curve)(i k p:Nat)(hp:p≤k):Ls C (i+1) k≤Ls C i (k - p)+(C (i+1)).L1 p:=
 Jn (λp=>Ls C i (k - p)+(C (i+1)).L1 p) k p hp
theorem Ls_at(C:Nat→Curve)(i k:Nat):∃p,p≤k∧Ls C (i+1) k=Ls C i (k - p)+(C (i+1)).L1 p:=
 Jo (λp=>Ls C i (k - p)+(C (i+1)).L1 p) k
def Curve.sv(c:Curve):SV:=qE c.m c.u
theorem Curve.old(c:Curve):Old c.sv:=by simp[Old,Curve.sv,qE]
theorem tdN(k m:Nat):(k:Int).tdiv (m:Int)=((k / m:Nat):Int):=rfl
theorem tmN(k m:Nat):(k:Int).tmod (m:Int)=((k % m:Nat):Int):=rfl
theorem qob(c:Curve)(h:c.Fine)(k:Nat)(hk:k≤400):0≤((k / c.m:Nat):Int)*c.u (c.m - 1)∧((k / c.m:Nat):Int)*c.u (c.m - 1)≤40000:=by
 have h1:=h.m1;have h2:=h.rg (c.m - 1) Ω;have h3:k / c.m≤400:=xc1 (Nat.div_le_self _ _) hk;generalize k / c.m=q at h3 ⊢;have h4:((q:Nat):Int)*c.u (c.m - 1)≤((q:Nat):Int)*100:=Int.mul_le_mul_of_nonneg_left h2.2 Ω;have h5:0≤(q:Int)*c.u (c.m - 1):=Int.mul_nonneg Ω h2.1;omega
theorem qqI(c:Curve)(h:c.Fine)(k:Nat)(hk:k≤400):qf Tryz.prog 172 [c.sv,I k] (I (c.L1 k)):=by
 refine qg Tryz.func172 rfl Ωb follows Ωb _ _ (by rw[Tryz.ntmps172];simp) (by simp[OldL,c.old];simp[Old,I]) ?_;have h1:=h.m1;have h6:=h.m6;have hb:=qob c h k hk;have e1:(c.m:Int) - 1=((c.m - 1:Nat):Int):=by omega
 have hr:=Nat.mod_lt k h1;have hq:k / c.m≤400:=xc1 (Nat.div_le_self _ _) hk;have eL:c.L1 k=((k / c.m:Nat):Int)*c.u (c.m - 1)+(if 0<k % c.m then c.u (k % c.m - 1)else 0):=rfl;rw[eL];have hd:=tdN k c.m;have hm:=tmN k c.m;generalize k / c.m=q at *;generalize k % c.m=r at *;unfold I
 conv=>arg 4;unfold Curve.sv qE
 by_cases h0:0<r
 ·have e2:(r:Int) - 1=((r - 1:Nat):Int):=by omega
  have hu:=h.rg (r - 1) Ω;rw[if_pos h0];(repeat' (first|refine sD ?_ ?_<;>intro _|refine aA ?_|simp -dsimp only[↓RP,RQ,seval,e1,e2,hd,hm,TYl,Int.toNat_natCast,Tryz.results172]))
  all_goals first|(exfalso;omega)|(first|exact True.intro|(simp only[InK];omega)|omega|(simp only[InK,ne_eq,and_true,true_and];omega)|trivial)|skip
 ·rw[if_neg h0]
  (repeat' (first|refine sD ?_ ?_<;>intro _|refine aA ?_|simp -dsimp only[↓RP,RQ,seval,e1,hd,hm,TYl,Int.toNat_natCast,Tryz.results172]))
  all_goals first|(exfalso;omega)|(refine ya ?_;omega)|(first|exact True.intro|(simp only[InK];omega)|omega|(simp only[InK,ne_eq,and_true,true_and];omega)|trivial)|skip
def chn(n:Nat)(C:Nat→Curve):SV:=.arr false false n 1 (λi _=>.arr false false (C i).m 1 (λj _=>Ψ (Φ Γ ((C i).u j))))
theorem qmP(n:Nat)(C:Nat→Curve):Old (chn n C):=by simp[Old,chn]
theorem Zy(c:Curve)(h:c.Fine)(k:Nat)(hk:k≤400):0≤c.L1 k∧c.L1 k≤50000:=by
 have hb:=qob c h k hk;have h1:=h.m1;have hr:=Nat.mod_lt k h1;unfold Curve.L1;split
 ·have:=h.rg (k % c.m - 1) Ω;omega
 ·omega
theorem qaK(C:Nat→Curve):∀i,(∀j,j≤i→(C j).Fine)→∀k,k≤400→0≤Ls C i k∧Ls C i k≤50000
 |0,h,k,hk=>Zy _ (h 0 Ω) k hk
 |i+1,h,k,hk=>by
  obtain⟨p,hp,e⟩:=Ls_at C i k;have h1:=qaK C i (λj hj=>h j Ω);have h2:=Ls_le C i k 0 (xb6 _);rw[qmO,Nat.sub_zero]at h2;have h3:=h1 (k - p) Ω;have h4:=h1 k hk;have h5:=Zy _ (h (i+1) Ω) p Ω;omega
def z1(f:Nat→Int)(k j:Nat):Int:=if j<k then f j else 0
theorem qeH(f:Nat→Int)(j:Nat):z1 f 0 j=0:=by unfold z1;rw[if_neg Ω]
theorem qkj(f:Nat→Int)(k a:Nat):(if a=k then Ψ (Φ Γ (f k))else Ψ (Φ Γ (z1 f k a)))=Ψ (Φ Γ (z1 f (k+1) a)):=by
 unfold z1;by_cases e:a=k
 ·subst e;rw[if_pos rfl,if_pos Ω]
 ·rw[if_neg e]
  by_cases h:a<k
  ·rw[if_pos h,if_pos Ω]
  ·rw[if_neg h,if_neg Ω]
theorem qkk(f:Nat→Int)(k a:Nat)(h:a<k):z1 f k a=f a:=by unfold z1;rw[if_pos h]
theorem qrS(last:Nat)(hl:last≤1000000)(f:FuncId)(first caps:List SV)(hf:OldL first)(hc:OldL caps)(g:Nat→Int)(hg:∀k,k≤last→qf Tryz.prog f (first++I k :: caps) (I (g k))) :
  qf Tryz.prog 179 [I last,.fn (.func f) first caps] (I (ge g last)):=by
 refine qg Tryz.func179 rfl Ωb follows Ωb _ _ (by rw[Tryz.ntmps179];simp) (by simp only[OldL,Old,I,hf,hc,and_self]) ?_;unfold I;(repeat' (first|refine sD ?_ ?_<;>intro _|refine aA ?_|simp -dsimp only[↓RP,RQ,seval,TYl,Tryz.results179]));refine kf (hg 0 (xb6 _)) (subL_refl _ (Vd hf hc)) ?_;(repeat' (first|refine sD ?_ ?_<;>intro _|refine aA ?_|simp -dsimp only[↓RP,RQ,seval,I,TYl,Tryz.results179]));refine qp (λ(k:Nat)=>k≤last) (λk=>⟨[(0,Ψ (Φ Γ last)),(1,.fn (.func f) first caps),(5,Ψ (Φ Γ (ge g k))),(6,Ψ (Φ Γ ((k:Int)+1)))],[],0⟩) (λk=>last - k) 0 (xb6 _) (weak [] [] ?_ ?_ ?_) λk hk=>?_
 ·(simp -dsimp only[↓RP,RQ,seval,ge]);all_goals (try simp)
  exact⟨wkL_refl _ hf,wkL_refl _ hc⟩
 ·(simp -dsimp only[↓RP,RQ,seval])
 ·(simp -dsimp only[↓RP,RQ,seval])
 by_cases hlt:k<last
 ·have eP:(k:Int)+1=((k+1:Nat):Int):=by omega
  (repeat' (first|refine sD ?_ ?_<;>intro _|refine aA ?_|simp -dsimp only[↓RP,RQ,seval,eP,TYl,Tryz.results179]))
  all_goals try(exfalso;omega)
  refine kf (hg (k+1) hlt) (subL_refl _ (Vd hf hc)) ?_;(repeat' (first|refine sD ?_ ?_<;>intro _|refine aA ?_|simp -dsimp only[↓RP,RQ,seval,I,eP,TYl,Tryz.results179]));refine⟨k+1,hlt,Ω,weak [] [] ?_ ?_ ?_⟩
  ·(simp -dsimp only[↓RP,RQ,seval,ge]);all_goals (try simp)
   exact⟨wkL_refl _ hf,wkL_refl _ hc⟩
  ·(simp -dsimp only[↓RP,RQ,seval])
  ·(simp -dsimp only[↓RP,RQ,seval])
 ·have hke:k=last:=by omega
  subst hke;(repeat' (first|refine sD ?_ ?_<;>intro _|refine aA ?_|simp -dsimp only[↓RP,RQ,seval,TYl,Tryz.results179]))
  all_goals try(exfalso;omega)
theorem qrT(N:Nat)(f:Nat→Int)(c:Curve)(h:c.Fine)(k p:Nat)(hk:k<N)(hN:N≤401)(hp:p≤k)(hf:∀j,j≤k→0≤f j∧f j≤1000000) :
  qf Tryz.prog 284 [I p,.ref false 1 (λ_=>qE N f),.ref false 1 (λ_=>I k),.ref false 1 (λ_=>c.sv)] (I (f (k - p)+c.L1 p)):=by
 refine qg Tryz.func284 rfl Ωb follows Ωb _ _ (by rw[Tryz.ntmps284];simp) (by simp only[OldL,Old,c.old,I];simp[Old,qE]) ?_;have b1:=Zy c h p Ω;have b2:=hf (k - p) Ω;have er:(k:Int) -(p:Int)=((k - p:Nat):Int):=by omega
 unfold I
 conv=>arg 4;unfold Curve.sv qE
 (repeat' (first|refine sD ?_ ?_<;>intro _|refine aA ?_|simp -dsimp only[↓RP,RQ,seval,er,TYl,Int.toNat_natCast,Tryz.results284]));refine qk (qqI c h p Ω) (by(simp -dsimp only[↓RP,RQ,seval,Curve.sv,qE,I]);all_goals simp) Ωn ?_;(repeat' (first|refine sD ?_ ?_<;>intro _|refine aA ?_|simp -dsimp only[↓RP,RQ,seval,I,er,TYl,Int.toNat_natCast,Tryz.results284]))
 all_goals (first|exact True.intro|(simp only[InK];omega)|omega|(simp only[InK,ne_eq,and_true,true_and];omega)|trivial)
theorem c178(n:Nat)(C:Nat→Curve)(n1:1≤n)(n3:n≤3)(hC:∀i,i<n→(C i).Fine)(turns:Nat)(ht:turns≤400):zx Tryz.prog 178 [chn n C,I turns] (.rows 2 1 (turns+1) (λj _=>I (Ls C (n - 1) j))) (.vec 0 (turns+1) 1):=by
 refine jJ Tryz.func178 rfl Ωb follows Ωb _ _ _ (by rw[Tryz.ntmps178];simp) (by simp only[OldL,qmP,Old,I,and_self]) ?_;unfold I
 conv=>arg 4;unfold chn Curve.sv qE
 have eT:((turns:Int)+1).toNat=turns+1:=by omega
 (repeat' (first|refine sD ?_ ?_<;>intro _|refine aA ?_|simp -dsimp only[↓RP,RQ,seval,eT,by2,TYl,Int.toNat_natCast,Tryz.results178]));have eN:((n:Int) - 1).toNat=n - 1:=by omega
 refine qp (λ(k:Nat)=>k≤turns+1) (λk=>⟨[(0,.arr false false n 1 (λi _=>.arr false false (C i).m 1 (λj _=>Ψ (Φ Γ ((C i).u j))))),(1,Ψ (Φ Γ turns)),(5,.ptr 61 0),(15,Ψ (Φ Γ ((turns+1:Nat):Int))),(16,Ψ (Φ Γ k))],[(61,.cells 32 [.vec 60 (turns+1) 1]),(60,.rows 2 1 (turns+1) (λj _=>Ψ (Φ Γ (z1 (C 0).L1 k j))))],62⟩) (λk=>turns+1 - k) 0 (xb6 _) (weak [(61,some 4),(60,some 3)] [] ?_ ?_ ?_) λk hk=>?_
 ·(simp -dsimp only[↓RP,RQ,seval]);all_goals simp
 ·(simp -dsimp only[↓RP,RQ,seval,qeH]);all_goals (try simp)
 ·(simp -dsimp only[↓RP,RQ,seval]);all_goals simp
 by_cases hlt:k<turns+1
 ·have hL:=Zy (C 0) (hC 0 Ω) k Ω
  (repeat' (first|refine sD ?_ ?_<;>intro _|refine aA ?_|simp -dsimp only[↓RP,RQ,seval,I,eT,eN,by2,TYl,Int.toNat_natCast,Tryz.results178]))
  all_goals try(exfalso;omega)
  refine qk (qqI (C 0) (hC 0 Ω) k Ω) (by(simp -dsimp only[↓RP,RQ,seval,Curve.sv,qE,I]);all_goals simp) Ωn ?_;(repeat' (first|refine sD ?_ ?_<;>intro _|refine aA ?_|simp -dsimp only[↓RP,RQ,seval,I,eT,eN,by2,TYl,Int.toNat_natCast,Tryz.results178]));refine⟨k+1,Ω,Ω,weak [] [] ?_ ?_ ?_⟩
  ·(simp -dsimp only[↓RP,RQ,seval]);all_goals simp
  ·(simp -dsimp only[↓RP,RQ,seval]);all_goals (try simp)
   exact λa ha=>qkj (C 0).L1 k a
  ·(simp -dsimp only[↓RP,RQ,seval]);all_goals simp
 ·have hke:k=turns+1:=by omega
  subst hke;(repeat' (first|refine sD ?_ ?_<;>intro _|refine aA ?_|simp -dsimp only[↓RP,RQ,seval,I,eT,eN,by2,TYl,Int.toNat_natCast,Tryz.results178]))
  all_goals try(exfalso;omega)
  refine qp (λ(i:Nat)=>i<n) (λi=>⟨[(0,.arr false false n 1 (λi _=>.arr false false (C i).m 1 (λj _=>Ψ (Φ Γ ((C i).u j))))),(1,Ψ (Φ Γ turns)),(5,.ptr 61 0),(29,.arr false false (n - 1) 1 (λi _=>.arr false false (C (1+i)).m 1 (λj _=>Ψ (Φ Γ ((C (1+i)).u j))))),(30,Ψ (Φ Γ ((n - 1:Nat):Int))),(31,Ψ (Φ Γ i))],[(61,.cells 32 [.vec 60 (turns+1) 1]),(60,.rows 2 1 (turns+1) (λj _=>Ψ (Φ Γ (Ls C i j))))],62⟩) (λi=>n - i) 0 n1 (weak [] [] ?_ ?_ ?_) λi hi=>?_
  ·(simp -dsimp only[↓RP,RQ,seval]);all_goals simp
  ·(simp -dsimp only[↓RP,RQ,seval]);all_goals (try simp)
   exact λa ha=>qkk (C 0).L1 (turns+1) a ha
  ·(simp -dsimp only[↓RP,RQ,seval]);all_goals simp
  by_cases hin:i+1<n
  ·have e1i:1+i=i+1:=by omega
   (repeat' (first|refine sD ?_ ?_<;>intro _|refine aA ?_|simp -dsimp only[↓RP,RQ,seval,I,eT,eN,by2,TYl,Int.toNat_natCast,Tryz.results178]))
   all_goals try(exfalso;omega)
   refine qp (λ(k:Nat)=>k≤turns+1) (λk=>⟨[(0,.arr false false n 1 (λi _=>.arr false false (C i).m 1 (λj _=>Ψ (Φ Γ ((C i).u j))))),(1,Ψ (Φ Γ turns)),(5,.ptr 61 0),(29,.arr false false (n - 1) 1 (λi _=>.arr false false (C (1+i)).m 1 (λj _=>Ψ (Φ Γ ((C (1+i)).u j))))),(30,Ψ (Φ Γ ((n - 1:Nat):Int))),(31,Ψ (Φ Γ i)),(8,.ptr 62 0),(9,.vec 90 (turns+1) 1),(39,Ψ (Φ Γ ((turns+1:Nat):Int))),(40,Ψ (Φ Γ k))],[(90,.rows 2 1 (turns+1) (λj _=>Ψ (Φ Γ (z1 (Ls C (i+1)) k j)))),(62,.cells 32 [.arr false false (C (1+i)).m 1 (λj _=>Ψ (Φ Γ ((C (1+i)).u j)))]),(61,.cells 32 [.vec 60 (turns+1) 1]),(60,.rows 2 1 (turns+1) (λj _=>Ψ (Φ Γ (Ls C i j))))],91⟩) (λk=>turns+1 - k) 0 (xb6 _) (weak [(90,some 69),(62,some 65)] [] ?_ ?_ ?_) λk hk=>?_
   ·(simp -dsimp only[↓RP,RQ,seval]);all_goals simp
   ·(simp -dsimp only[↓RP,RQ,seval,qeH]);all_goals (try simp)
   ·(simp -dsimp only[↓RP,RQ,seval]);all_goals simp
   by_cases hlt:k<turns+1
   ·(repeat' (first|refine sD ?_ ?_<;>intro _|refine aA ?_|simp -dsimp only[↓RP,RQ,seval,I,eT,eN,by2,TYl,Int.toNat_natCast,Tryz.results178]))
    all_goals try(exfalso;omega)
    refine qk (qrS k Ω 284 [] [.ref false 1 (λ_=>qE (turns+1) (Ls C i)),.ref false 1 (λ_=>I k),.ref false 1 (λ_=>(C (1+i)).sv)] trivial (by simp[OldL,Old,Curve.sv,qE,I]) (λp=>Ls C i (k - p)+(C (1+i)).L1 p) λp hp=>qrT (turns+1) (Ls C i) (C (1+i)) (hC (1+i) Ω) k p hlt Ω hp λj hj=>?_) ?_ Ωn ?_
    ·have:=qaK C i (λj hj=>hC j Ω) j Ω;omega
    ·(simp -dsimp only[↓RP,RQ,seval,Curve.sv,qE,I]);all_goals (try simp)
     refine⟨?_,?_⟩
     ·(simp -dsimp only[↓RP,RQ,seval]);all_goals simp
     ·(simp -dsimp only[↓RP,RQ,seval]);all_goals simp
    have eF:ge (λp=>Ls C i (k - p)+(C (1+i)).L1 p) k=Ls C (i+1) k:=by rw[e1i];rfl
    (repeat' (first|refine sD ?_ ?_<;>intro _|refine aA ?_|simp -dsimp only[↓RP,RQ,seval,eF,I,eT,eN,by2,TYl,Int.toNat_natCast,Tryz.results178]));refine⟨k+1,Ω,Ω,weak [] [] ?_ ?_ ?_⟩
    ·(simp -dsimp only[↓RP,RQ,seval]);all_goals simp
    ·(simp -dsimp only[↓RP,RQ,seval]);all_goals (try simp)
     exact λa ha=>qkj (Ls C (i+1)) k a
    ·(simp -dsimp only[↓RP,RQ,seval]);all_goals simp
   ·have hke:k=turns+1:=by omega
    subst hke;(repeat' (first|refine sD ?_ ?_<;>intro _|refine aA ?_|simp -dsimp only[↓RP,RQ,seval,I,eT,eN,by2,TYl,Int.toNat_natCast,Tryz.results178]))
    all_goals try(exfalso;omega)
    refine⟨i+1,hin,Ω,weak [(60,some 90)] [] ?_ ?_ ?_⟩
    ·(simp -dsimp only[↓RP,RQ,seval]);all_goals simp
    ·(simp -dsimp only[↓RP,RQ,seval]);all_goals (try simp)
     exact λa ha=>qkk (Ls C (i+1)) (turns+1) a ha
    ·(simp -dsimp only[↓RP,RQ,seval]);all_goals simp
  ·have hie:i=n - 1:=by omega
   (repeat' (first|refine sD ?_ ?_<;>intro _|refine aA ?_|simp -dsimp only[↓RP,RQ,seval,I,eT,eN,by2,TYl,Int.toNat_natCast,Tryz.results178]))
   all_goals try(exfalso;omega)
   refine⟨60,_,rfl,?_,?_⟩
   ·(simp -dsimp only[↓RP,RQ,seval,I,hie]);all_goals simp
   ·(simp -dsimp only[↓RP,RQ,seval])
end Go.Tl
end
section
namespace Go.Sx
open Go.Proofs
noncomputable section
def cvU(i:Nat):Int:=Nat.rec 0 (λj _=>Nat.rec 2 (λ_ _=>4) j) i
def cvB:Go.Tl.Curve:=⟨3,cvU⟩
theorem qaL:cvB.Fine:=⟨Ωq,Ωq,λi hi=>by
 have hi:i<3:=hi
 match i,hi with
 |0,_=>decide
 |1,_=>decide
 |2,_=>decide,λi hi=>by
 have hi:i<2:=hi
 match i,hi with
 |0,_=>decide
 |1,_=>decide⟩
def gB(k:Nat):Nat:=4*(k / 3) - Bool.rec 0 2 (Nat.beq (k % 3) 0)
theorem Jp(k:Nat):cvB.L1 k=((4*(k / 3)+(if k % 3=2 then 2 else 0):Nat):Int):=by
 unfold Go.Tl.Curve.L1;show((k / 3:Nat):Int)*4+(if 0<k % 3 then cvU (k % 3 - 1)else 0)=_;have:k % 3=0∨k % 3=1∨k % 3=2:=by omega
 rcases this with h|h|h
 ·rw[h];simp;omega
 ·have e:cvU 0=0:=rfl
  rw[h];simp[e];omega
 ·have e:cvU 1=2:=rfl
  rw[h];simp[e];omega
theorem qoc(k:Nat):gB k=if k % 3=0 then 4*(k / 3) - 2 else 4*(k / 3):=by
 unfold gB;by_cases h:k % 3=0
 ·rw[if_pos h,h];rfl
 ·rw[if_neg h]
  have:Nat.beq (k % 3) 0=false:=by cases e:Nat.beq (k % 3) 0 with
   |false=>rfl
   |true=>exact absurd (xa6 e) h
  rw[this];rfl
theorem qqJ(k:Nat):Go.Tl.Ls (λ_=>cvB) 1 k=(gB k:Int):=by
 have h1:∀p,p≤k→(gB k:Int)≤cvB.L1 (k - p)+cvB.L1 p:=λp hp=>by
  rw[Jp,Jp,qoc];split<;>split<;>split<;>omega
 have h2:Go.Tl.Ls (λ_=>cvB) 1 k≤(gB k:Int):=by
  cases k with
  |zero=>decide
  |succ k=>
   have:=Go.Tl.Ls_le (λ_=>cvB) 0 (k+1) 1 Ω;refine Int.le_trans this ?_;show cvB.L1 (k+1 - 1)+cvB.L1 1≤_;rw[Jp,Jp,qoc];split<;>split<;>split<;>omega
 obtain⟨p,hp,e⟩:=Go.Tl.Ls_at (λ_=>cvB) 0 k;have h3:=h1 p hp;have e:Go.Tl.Ls (λ_=>cvB) 1 k=cvB.L1 (k - p)+cvB.L1 p:=e;omega
def qaM(j _:Nat):SV:=Ψ (Φ Γ (.ofNat (gB j)))
def lsN:Nat×List SV×(TypeId×Nat×Nat×List SV×SV):=(178,[Go.Tl.chn 2 (λ_=>cvB),Go.Tl.I 360],(2,1,361,wM qaM 1 361,.vec 0 361 1))
theorem qpf:qiu Tryz.prog 178 [Go.Tl.chn 2 (λ_=>cvB),Go.Tl.I 360] 2 1 361 (wM qaM 1 361) (.vec 0 361 1):=by
 refine⟨qaM,?_,jr _ _ _,by simp[FreshO],by simp[FreshB,Fresh,qaM]⟩;have h:=Go.Tl.c178 2 (λ_=>cvB) Ω Ω (λ_ _=>qaL) 360 Ω;have e:(λj (_:Nat)=>Go.Tl.I (Go.Tl.Ls (λ_=>cvB) (2 - 1) j))=qaM:=by
  funext j _;show Ψ (Φ Γ (Go.Tl.Ls (λ_=>cvB) 1 j))=_;rw[qqJ];rfl
 rw[e]at h;exact h
def g1B(k:Nat):Nat:=Nat.add (4*(k / 3)) (Bool.rec 0 2 (Nat.beq (k % 3) 2))
theorem qpg(k:Nat):cvB.L1 k=(g1B k:Int):=by
 rw[Jp];unfold g1B
 congr 1
 show _=4*(k / 3)+_
 congr 1
 by_cases h:k % 3=2
 ·rw[if_pos h,h];rfl
 ·rw[if_neg h]
  have:Nat.beq (k % 3) 2=false:=by cases e:Nat.beq (k % 3) 2 with
   |false=>rfl
   |true=>exact absurd (xa6 e) h
  rw[this]
def qaN(j _:Nat):SV:=Ψ (Φ Γ (.ofNat (g1B j)))
def l1N:Nat×List SV×(TypeId×Nat×Nat×List SV×SV):=(178,[Go.Tl.chn 1 (λ_=>cvB),Go.Tl.I 360],(2,1,361,wM qaN 1 361,.vec 0 361 1))
theorem qph:qiu Tryz.prog 178 [Go.Tl.chn 1 (λ_=>cvB),Go.Tl.I 360] 2 1 361 (wM qaN 1 361) (.vec 0 361 1):=by
 refine⟨qaN,?_,jr _ _ _,by simp[FreshO],by simp[FreshB,Fresh,qaN]⟩;have h:=Go.Tl.c178 1 (λ_=>cvB) Ω Ω (λ_ _=>qaL) 360 Ω;have e:(λj (_:Nat)=>Go.Tl.I (Go.Tl.Ls (λ_=>cvB) (1 - 1) j))=qaN:=by
  funext j _;show Ψ (Φ Γ (cvB.L1 j))=_;rw[qpg];rfl
 rw[e]at h;exact h
end
end Go.Sx
end
section
namespace Go.Sx
noncomputable section
def wI(n:Int):SV:=Ψ (Φ Γ n)
def qpi(l:List Int):Nat→Int:=List.rec (λ_=>0) (λa _ ih i=>Nat.rec a (λj _=>ih j) i) l
def liN(o:Bool)(n:Nat)(l:List Int):SV:=.arr o false n 1 (λi _=>Ψ (Φ Γ (qpi l i)))
def liA:SV:=liN false 3 [3,4,4]
def liB:SV:=liN false 3 [0,2,4]
def ch1:SV:=.arr false false 1 1 (λ_ _=>liB)
def ch2:SV:=.arr false false 2 1 (λ_ _=>liB)
def cW:Nat×List SV×SV:=(22,[liA,ch2],.tup [wI 4,wI 0])
def cL:Nat×List SV×SV:=(23,[liA,ch1],.tup [wI 2,wI 0])
def cB:Nat×List SV×SV:=(147,[liA,ch1],.tup [liN true 3 [4,5,7],wI 0])
end
end Go.Sx
end
section
namespace Go.Sx
noncomputable section
def hJ:SV:=.agg [liN false 3 [2,3,6]]
def z3:SV:=liN false 3 [0,0,0]
def qrU(l:List (List Int)):Nat→List Int:=List.rec (λ_=>[]) (λa _ ih i=>Nat.rec a (λj _=>ih j) i) l
def dSt:List (List Int):=[[0,0,0],[0,1,1],[1,0,1],[1,1,0],[0,2,2],[1,0,2],[1,2,0],[0,1,2],[2,0,2],[2,1,0],[0,2,1],[2,0,1],[2,2,0],[0,3,3],[1,0,3],[1,3,0],[0,1,3],[2,0,3],[0,3,1],[2,3,0],[0,2,3],[0,3,2],[0,1,4],[2,0,4],[0,2,4],[1,0,4],[0,3,4],[0,2,5],[1,0,5],[0,3,5],[0,1,5],[2,0,5],[0,3,6],[1,0,6],[0,1,6],[2,0,6],[0,2,6]]
def dLf:List Int:=[9,7,7,8,5,6,2,6,1,1,7,1,1,1,4,1,5,1,1,1,5,1,3,1,3,4,1,2,2,1,3,1,1,1,1,1,1]
def dJ:SV:=.arr true false 37 2 (λi j=>Nat.rec (liN true 3 (qrU dSt i)) (λ_ _=>wI (qpi dLf i)) j)
def c13J:Nat×List SV×SV:=(13,[hJ],.tup [.val (.slice none 0 0),wI 17])
def c135J:Nat×List SV×SV:=(135,[hJ,z3],.tup [dJ,wI 0])
def c138J:Nat×List SV×SV:=(138,[hJ,z3],.tup [liN true 8 [2,0,1,0,1,0,2,0],wI 0])
def qaO:Nat×List SV×SV:=(170,[liN false 0 []],liN true 0 [])
end
end Go.Sx
end
