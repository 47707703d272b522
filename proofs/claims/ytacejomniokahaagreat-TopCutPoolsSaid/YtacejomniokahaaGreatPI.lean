/- A part of the proof. -/
import Derived.Test.YtacejomniokahaaGreatPG
import Derived.Test.YtacejomniokahaaGreatPH
open Nat renaming le_refl→xa5
set_option linter.unusedVariables false
set_option linter.unusedSimpArgs false
set_option maxRecDepth 1000000
set_option maxHeartbeats 16000000
section
namespace Go.Sx
open Go.Proofs
open Go.RowKit Go.Tn
noncomputable section
def plT:List (Nat×Nat×Sh):=[(145,1,.one 0),(151,1,.one 0),(216,1,.one 0),(235,1,.one 0),(134,2,.ag [1,0])]
def olT:List (Nat×(List SV→Tr 6 XB→Nat→(SV→Tr 6 XB→Nat→R)→R)):=[(163,qjV),(73,qjX),(262,qjZ),(186,qpa),(359,qpb)]
def X0:XP:=⟨flT,plT,olT,[qaO],[lsN,l1N]⟩
theorem qrV(v:Value):qf Tryz.prog 145 [.val v] (.val v):=by
 refine qg Tryz.func145 rfl Ωb follows Ωb _ _ (by rw[Tryz.ntmps145];simp) ΩK ?_;(simp -dsimp only[↓RP,RQ,seval,TY,Tryz.results145])
theorem qrW(v:Value):qf Tryz.prog 151 [.val v] (.val v):=by
 refine qg Tryz.func151 rfl Ωb follows Ωb _ _ (by rw[Tryz.ntmps151];simp) ΩK ?_;(simp -dsimp only[↓RP,RQ,seval,TY,Tryz.results151])
theorem qrX(v:Value):qf Tryz.prog 216 [.val v] (.val v):=by
 refine qg Tryz.func216 rfl Ωb follows Ωb _ _ (by rw[Tryz.ntmps216];simp) ΩK ?_;(simp -dsimp only[↓RP,RQ,seval,TY,Tryz.results216])
theorem qrY(v:Value):qf Tryz.prog 235 [.val v] (.val v):=by
 refine qg Tryz.func235 rfl Ωb follows Ωb _ _ (by rw[Tryz.ntmps235];simp) ΩK ?_;(simp -dsimp only[↓RP,RQ,seval,TY,Tryz.results235])
theorem qrZ:Ke Tryz.prog 134 2 (.ag [1,0]):=by
 refine qmu ⟨_,Tryz.func134,Ωb,Ωb⟩ λvs hv ho=>?_;obtain⟨a,b,rfl⟩:∃a b,vs = #[a,b]:=by
  obtain⟨l⟩:=vs
  match l,hv with
  |[a,b],_=>exact⟨a,b,rfl⟩
 have ha:=ho 0 Ωg;have hb:=ho 1 Ωg;have ha:a.oneCell'=true:=ha;have hb:b.oneCell'=true:=hb;have ea:oneCell (.val a)=true:=by cases a<;>first|rfl|cases ha
 have eb:oneCell (.val b)=true:=by cases b<;>first|rfl|cases hb
 show qf Tryz.prog 134 [.val a,.val b] (.agg [.val b,.val a]);refine qg Tryz.func134 rfl Ωb follows Ωb _ _ (by rw[Tryz.ntmps134];simp) ΩK ?_;(simp -dsimp only[↓RP,RQ,seval,ea,eb,TY,Tryz.results134])
theorem qkl{P:Program}{O:Ctx}{t tr:TypeId}{x y:Operand}{o f:Bool}{k:Nat}{row:Nat→Nat→SV}{e:TypeId}{kk:Nat}{ag:Bool}{sz:Nat}{z0:Option (List Value)}{st:St}{K:St→SV→Prop}(ht:qn P t=some ⟨ag,sz,z0,.slice e kk⟩)(hx:env (look st.fr) x=.arr o f 0 k row)(hy:env (look st.fr) y=.val (.slice none 0 0))
  (h:∀b,K st (.val (.bool b))):OpVC P O (.binOp .eql t x y tr) st K:=by
 intro base okc ns r outs a w oo ho hi;have hu:=hi.env x;rw[hx]at hu;have hv:=hi.env y;rw[hy]at hv;generalize hex:a.eval x=u at hu;generalize hey:a.eval y=v at hv;cases hv;obtain⟨ad,cap,rfl⟩:∃ad cap,u=.slice ad 0 cap:=by cases hu<;>exact⟨_,_,rfl⟩
 obtain⟨z,hz,hr⟩:=jR (P:=P) (op:=.eql) (t:=t) (o:=True) (b:=ad.isNone) (v:=.slice none 0 0) (r:=r) (N:=(· < st.nid)) (G:=Gd base okc r (· < st.nid) st.hp w) (w:=w) (obl:=True) (sv:=.val (.bool ad.isNone)) (by unfold rNilS;simp only[nilSlice,ht]) trivial (u:=.slice ad 0 cap) (λ_=>⟨_,_,_,rfl,rfl⟩) (.val _) x y;refine⟨z,w,?_,st,r,_,h ad.isNone,xa5 _,hi,hr⟩;obtain⟨dst,op,type,pos,aft,guard⟩:=oo;simp only[]at ho;subst ho;simp only[execOp,hex,hey];rw[Sem.run_bind,hz];simp only[Result.andThen_ok,Sem.run_pure]
theorem qpj:qf Tryz.prog 170 [liN false 0 []] (liN true 0 []):=by
 refine kP (qV [(1,[(0,0)])]) Tryz.func170 rfl Ωb follows Ωb _ _ (by rw[Tryz.ntmps170];simp) (by simp[OldL,Old,liN]) ?_;unfold liN;(repeat' first|refine sD ?_ ?_<;>intro _|refine aAb ?_|simp -dsimp only[↓RP,RQ,seval,↓RY,QU]);refine ZS (qK ?_);(repeat' first|refine sD ?_ ?_<;>intro _|refine aAb ?_|simp -dsimp only[↓RP,RQ,seval,↓RY,QU]);refine g7 rfl (qkl (e:=3) (kk:=1) (by exact qaj) rfl rfl λb=>?_);cases b
 ·repeat' first|refine sD ?_ ?_<;>intro _|refine aAb ?_|simp -dsimp only[↓RP,RQ,seval,gH,↓RY,QU]
  exact λi j hi=>absurd hi (Nat.not_lt_zero i)
 ·repeat' first|refine sD ?_ ?_<;>intro _|refine aAb ?_|simp -dsimp only[↓RP,RQ,seval,gH,↓RY,QU]
theorem X0_ok:qax Tryz.prog X0:=⟨vd,⟨KQ qrV,KQ qrW,KQ qrX,KQ qrY,qrZ,trivial⟩,⟨qjW,qjY,qka,qmF,qmH,trivial⟩,⟨qpj,trivial⟩,⟨qpf,qph,trivial⟩⟩
end
end Go.Sx
end
