/- A part of the proof. -/
import Derived.Test.YtacejomniokahaaGreatPI
import Derived.Test.YtacejomniokahaaGreatPJ
import Derived.Test.YtacejomniokahaaGreatPK
open Nat renaming reduceMul→xa0,reduceAdd→xa1,reduceEqDiff→xa2,reduceLT→xa3,reduceLeDiff→xa4,le_refl→xa5
set_option linter.unusedVariables false
set_option linter.unusedSimpArgs false
set_option maxRecDepth 1000000
set_option maxHeartbeats 16000000
section
namespace Go.Sx
open Go.Proofs
open Go.RowKit Go.Tn
noncomputable section
def plT:List (Nat×Nat×Sh):=[(145,1,.one 0),(151,1,.one 0),(216,1,.one 0),(235,1,.one 0),(134,2,.ag [1,0])]
def olT:List (Nat×(List SV→Tr 6 XB→Nat→(SV→Tr 6 XB→Nat→R)→R)):=[(163,qiV),(73,qiX),(262,qiZ),(186,qmW),(359,qmX)]
def X0:XP:=⟨flT,plT,olT,[qlQ],[lsN,l1N]⟩
theorem qpm(v:Value):qb Tryz.prog 145 [.val v] (.val v):=by
 refine qc Tryz.func145 rfl Ωb follows Ωb _ _ (by rw[Tryz.ntmps145];simp) (by simp[OldL,Old]) ?_;(simp -dsimp only[↓RP,RQ,implies_true,forall_const,xa0,reduceIte,reduceCtorEq,xa1,xa2,xa3,xa4,TY,Tryz.results145])
theorem qpn(v:Value):qb Tryz.prog 151 [.val v] (.val v):=by
 refine qc Tryz.func151 rfl Ωb follows Ωb _ _ (by rw[Tryz.ntmps151];simp) (by simp[OldL,Old]) ?_;(simp -dsimp only[↓RP,RQ,implies_true,forall_const,xa0,reduceIte,reduceCtorEq,xa1,xa2,xa3,xa4,TY,Tryz.results151])
theorem qpo(v:Value):qb Tryz.prog 216 [.val v] (.val v):=by
 refine qc Tryz.func216 rfl Ωb follows Ωb _ _ (by rw[Tryz.ntmps216];simp) (by simp[OldL,Old]) ?_;(simp -dsimp only[↓RP,RQ,implies_true,forall_const,xa0,reduceIte,reduceCtorEq,xa1,xa2,xa3,xa4,TY,Tryz.results216])
theorem qpp(v:Value):qb Tryz.prog 235 [.val v] (.val v):=by
 refine qc Tryz.func235 rfl Ωb follows Ωb _ _ (by rw[Tryz.ntmps235];simp) (by simp[OldL,Old]) ?_;(simp -dsimp only[↓RP,RQ,implies_true,forall_const,xa0,reduceIte,reduceCtorEq,xa1,xa2,xa3,xa4,TY,Tryz.results235])
theorem qpq:ZO Tryz.prog 134 2 (.ag [1,0]):=by
 refine qla ⟨_,Tryz.func134,Ωb,Ωb⟩ fun vs hv ho=>?_;obtain⟨a,b,rfl⟩:∃a b,vs = #[a,b]:=by
  obtain⟨l⟩:=vs
  match l,hv with
  |[a,b],_=>exact⟨a,b,rfl⟩
 have ha:=ho 0 Ωi;have hb:=ho 1 Ωi;have ha:a.oneCell'=true:=ha;have hb:b.oneCell'=true:=hb;have ea:oneCell (.val a)=true:=by cases a<;>first|rfl|cases ha
 have eb:oneCell (.val b)=true:=by cases b<;>first|rfl|cases hb
 show qb Tryz.prog 134 [.val a,.val b] (.agg [.val b,.val a]);refine qc Tryz.func134 rfl Ωb follows Ωb _ _ (by rw[Tryz.ntmps134];simp) (by simp[OldL,Old]) ?_;(simp -dsimp only[↓RP,RQ,implies_true,forall_const,xa0,reduceIte,reduceCtorEq,xa1,xa2,xa3,xa4,ea,eb,TY,Tryz.results134])
theorem qjc{P:Program}{O:Ctx}{t tr:TypeId}{x y:Operand}{o f:Bool}{k:Nat}{row:Nat→Nat→SV}{e:TypeId}{kk:Nat}{ag:Bool}{sz:Nat}{z0:Option (List Value)}{st:St}{K:St→SV→Prop}(ht:qk P t=some ⟨ag,sz,z0,.slice e kk⟩)(hx:env (look st.fr) x=.arr o f 0 k row)(hy:env (look st.fr) y=.val (.slice none 0 0))
  (h:∀b,K st (.val (.bool b))):OpVC P O (.binOp .eql t x y tr) st K:=by
 intro base okc ns r outs a w oo ho hi;have hu:=hi.env x;rw[hx]at hu;have hv:=hi.env y;rw[hy]at hv;generalize hex:a.eval x=u at hu;generalize hey:a.eval y=v at hv;cases hv;obtain⟨ad,cap,rfl⟩:∃ad cap,u=.slice ad 0 cap:=by cases hu<;>exact⟨_,_,rfl⟩
 obtain⟨z,hz,hr⟩:=jF (P:=P) (op:=.eql) (t:=t) (o:=True) (b:=ad.isNone) (v:=.slice none 0 0) (r:=r) (N:=(· < st.nid)) (G:=Gd base okc r (· < st.nid) st.hp w) (w:=w) (obl:=True) (sv:=.val (.bool ad.isNone)) (by unfold rNilS;simp only[nilSlice,ht]) trivial (u:=.slice ad 0 cap) (fun _=>⟨_,_,_,rfl,rfl⟩) (.val _) x y;refine⟨z,w,?_,st,r,_,h ad.isNone,xa5 _,hi,hr⟩;obtain⟨dst,op,type,pos,aft,guard⟩:=oo;simp only[]at ho;subst ho;simp only[execOp,hex,hey];rw[Sem.run_bind,hz];simp only[Result.andThen_ok,Sem.run_pure]
theorem qoo:qb Tryz.prog 170 [liN false 0 []] (liN true 0 []):=by
 refine ju (zW [(1,[(0,0)])]) Tryz.func170 rfl Ωb follows Ωb _ _ (by rw[Tryz.ntmps170];simp) (by simp[OldL,Old,liN]) ?_;unfold liN;(repeat' (first|refine sD ?_ ?_<;>intro _|refine aAa ?_|(simp -dsimp only[↓RP,RQ,implies_true,forall_const,xa0,reduceIte,reduceCtorEq,xa1,xa2,xa3,xa4,↓RY,QT,QN])));refine Zv (qz ?_);(repeat' (first|refine sD ?_ ?_<;>intro _|refine aAa ?_|(simp -dsimp only[↓RP,RQ,implies_true,forall_const,xa0,reduceIte,reduceCtorEq,xa1,xa2,xa3,xa4,↓RY,QT,QN])));refine gO rfl (qjc (e:=3) (kk:=1) (by exact YF) rfl rfl fun b=>?_);cases b
 ·(repeat' (first|refine sD ?_ ?_<;>intro _|refine aAa ?_|(simp -dsimp only[↓RP,RQ,implies_true,forall_const,xa0,reduceIte,reduceCtorEq,xa1,xa2,xa3,xa4,gu,↓RY,QT,QN])))
  exact fun i j hi=>absurd hi (Nat.not_lt_zero i)
 ·(repeat' (first|refine sD ?_ ?_<;>intro _|refine aAa ?_|(simp -dsimp only[↓RP,RQ,implies_true,forall_const,xa0,reduceIte,reduceCtorEq,xa1,xa2,xa3,xa4,gu,↓RY,QT,QN])))
theorem X0_ok:qiR Tryz.prog X0:=⟨qae,⟨Ky qpm,Ky qpn,Ky qpo,Ky qpp,qpq,trivial⟩,⟨qiW,qiY,qja,qll,qln,trivial⟩,⟨qoo,trivial⟩,⟨qmQ,qmS,trivial⟩⟩
end
end Go.Sx
end
