/- A part of the proof. -/
import Derived.Test.YtacejomniokahaaGreatPJ
import Derived.Test.YtacejomniokahaaGreatPK
open Nat renaming le_refl→xa5
set_option linter.unusedVariables false
set_option linter.unusedSimpArgs false
set_option maxRecDepth 1000000
set_option maxHeartbeats 16000000
section
namespace Go.Sx
open Go.Proofs
open Go.RowKit Go.Tn
noncomputable section
def plT:List (Nat×Nat×Sh):=[(145,1,.one 0),(151,1,.one 0),(216,1,.one 0),(235,1,.one 0),(134,2,.ag [1,0])]
def olT:List (Nat×(List SV→Tr 6 XB→Nat→(SV→Tr 6 XB→Nat→R)→R)):=[(163,qld),(73,qlf),(262,qlh),(186,qpw),(359,qpx)]
def X0:XP:=⟨flT,plT,olT,[qlo],[lsN,l1N]⟩
theorem qrY(v:Value):qb Tryz.prog 145 [.val v] (.val v):=by
 refine qc Tryz.func145 rfl Ωb follows Ωb _ _ (by rw[Tryz.ntmps145];simp) (by simp[OldL,Old]) ?_;(simp -dsimp only[↓RP,RQ,seval,TY,Tryz.results145])
theorem qrZ(v:Value):qb Tryz.prog 151 [.val v] (.val v):=by
 refine qc Tryz.func151 rfl Ωb follows Ωb _ _ (by rw[Tryz.ntmps151];simp) (by simp[OldL,Old]) ?_;(simp -dsimp only[↓RP,RQ,seval,TY,Tryz.results151])
theorem qsa(v:Value):qb Tryz.prog 216 [.val v] (.val v):=by
 refine qc Tryz.func216 rfl Ωb follows Ωb _ _ (by rw[Tryz.ntmps216];simp) (by simp[OldL,Old]) ?_;(simp -dsimp only[↓RP,RQ,seval,TY,Tryz.results216])
theorem qsb(v:Value):qb Tryz.prog 235 [.val v] (.val v):=by
 refine qc Tryz.func235 rfl Ωb follows Ωb _ _ (by rw[Tryz.ntmps235];simp) (by simp[OldL,Old]) ?_;(simp -dsimp only[↓RP,RQ,seval,TY,Tryz.results235])
theorem qsc:KJ Tryz.prog 134 2 (.ag [1,0]):=by
 refine qne ⟨_,Tryz.func134,Ωb,Ωb⟩ λvs hv ho=>?_;obtain⟨a,b,rfl⟩:∃a b,vs = #[a,b]:=by
  obtain⟨l⟩:=vs
  match l,hv with
  |[a,b],_=>exact⟨a,b,rfl⟩
 have ha:=ho 0 Ωj;have hb:=ho 1 Ωj;have ha:a.oneCell'=true:=ha;have hb:b.oneCell'=true:=hb;have ea:oneCell (.val a)=true:=by cases a<;>first|rfl|cases ha
 have eb:oneCell (.val b)=true:=by cases b<;>first|rfl|cases hb
 show qb Tryz.prog 134 [.val a,.val b] (.agg [.val b,.val a]);refine qc Tryz.func134 rfl Ωb follows Ωb _ _ (by rw[Tryz.ntmps134];simp) (by simp[OldL,Old]) ?_;(simp -dsimp only[↓RP,RQ,seval,ea,eb,TY,Tryz.results134])
theorem qlp{P:Program}{O:Ctx}{t tr:TypeId}{x y:Operand}{o f:Bool}{k:Nat}{row:Nat→Nat→SV}{e:TypeId}{kk:Nat}{ag:Bool}{sz:Nat}{z0:Option (List Value)}{st:St}{K:St→SV→Prop}(ht:qk P t=some ⟨ag,sz,z0,.slice e kk⟩)(hx:env (look st.fr) x=.arr o f 0 k row)(hy:env (look st.fr) y=.val (.slice none 0 0))
  (h:∀b,K st (.val (.bool b))):OpVC P O (.binOp .eql t x y tr) st K:=by
 intro base okc ns r outs a w oo ho hi;have hu:=hi.env x;rw[hx]at hu;have hv:=hi.env y;rw[hy]at hv;generalize hex:a.eval x=u at hu;generalize hey:a.eval y=v at hv;cases hv;obtain⟨ad,cap,rfl⟩:∃ad cap,u=.slice ad 0 cap:=by cases hu<;>exact⟨_,_,rfl⟩
 obtain⟨z,hz,hr⟩:=j1 (P:=P) (op:=.eql) (t:=t) (o:=True) (b:=ad.isNone) (v:=.slice none 0 0) (r:=r) (N:=(· < st.nid)) (G:=Gd base okc r (· < st.nid) st.hp w) (w:=w) (obl:=True) (sv:=.val (.bool ad.isNone)) (by unfold rNilS;simp only[nilSlice,ht]) trivial (u:=.slice ad 0 cap) (λ_=>⟨_,_,_,rfl,rfl⟩) (.val _) x y;refine⟨z,w,?_,st,r,_,h ad.isNone,xa5 _,hi,hr⟩;obtain⟨dst,op,type,pos,aft,guard⟩:=oo;simp only[]at ho;subst ho;simp only[execOp,hex,hey];rw[Sem.run_bind,hz];simp only[Result.andThen_ok,Sem.run_pure]
theorem qqZ:qb Tryz.prog 170 [liN false 0 []] (liN true 0 []):=by
 refine gp (qV [(1,[(0,0)])]) Tryz.func170 rfl Ωb follows Ωb _ _ (by rw[Tryz.ntmps170];simp) (by simp[OldL,Old,liN]) ?_;unfold liN;(repeat' first|refine sD ?_ ?_<;>intro _|refine aAb ?_|simp -dsimp only[↓RP,RQ,seval,↓RY,QT,QN]);refine Kq (qK ?_);(repeat' first|refine sD ?_ ?_<;>intro _|refine aAb ?_|simp -dsimp only[↓RP,RQ,seval,↓RY,QT,QN]);refine ju rfl (qlp (e:=3) (kk:=1) (by exact qbg) rfl rfl λb=>?_);cases b
 ·repeat' first|refine sD ?_ ?_<;>intro _|refine aAb ?_|simp -dsimp only[↓RP,RQ,seval,ji,↓RY,QT,QN]
  exact λi j hi=>absurd hi (Nat.not_lt_zero i)
 ·repeat' first|refine sD ?_ ?_<;>intro _|refine aAb ?_|simp -dsimp only[↓RP,RQ,seval,ji,↓RY,QT,QN]
theorem X0_ok:qgX Tryz.prog X0:=⟨Z6,⟨Gu qrY,Gu qrZ,Gu qsa,Gu qsb,qsc,trivial⟩,⟨qle,qlg,qli,qnp,qnr,trivial⟩,⟨qqZ,trivial⟩,⟨qpz,qpB,trivial⟩⟩
end
end Go.Sx
end
