/- TopKeptLag: for every input the law returns true and leaves its arguments as they were; no conditions. -/
import Derived.Test.YtacejomniokahaaGreatRows
import Derived.Test.YtacejomniokahaaGreatPD
import Derived.Test.YtacejomniokahaaGreatPV
import Derived.Test.YtacejomniokahaaGreatPW
import Derived.Test.YtacejomniokahaaGreatPX
set_option linter.unusedVariables false
set_option linter.unusedSimpArgs false
set_option maxRecDepth 1000000
set_option maxHeartbeats 16000000
section
namespace Go.Proofs.YtacejomniokahaaGreat.TopKeptLag
open Go.ChangeShapes Go.WideShapes Go.ChangeAt Go.RowKit Go.Sx Go.Tn
theorem own:ownKnob Tryz.prog.godebug=none:=by kernel_rfl
set_option maxRecDepth 100000 in
theorem lifted(os:Os)(started:os.Started)(H:Type)(enc:TypeId×Value→H) :
  ReturnsInHanded {} Tryz.checked os 7 .any (Rows.topKeptLagSpec.pre6 enc Tryz.prog Tryz.f7 Rows.topKeptLagRow.domain false) (Rows.topKeptLagSpec.post enc Tryz.prog Tryz.f7 false true false false):=by
 refine returnsInHanded_of_change (C:=Tryz.checked) own started Ωa Tryz.func7
  (ChangeSpec.witness6 (enc:=enc) (C:=Tryz.checked) false ⟨#[],#[.slice none 0 0,.agg #[.int .u8 0,.int .u8 0,.int .u8 0,.int .u8 0]],[]⟩ 8 Ωa Ωa Ωa Ωa) ?_
 intro W base args ds gs before hval0 hW hcnd _;have hval:∀(j:Nat) t v,Tryz.f7.params[j]? = some t→args[j]? = some v→Value.okWide Tryz.prog W .any base t v:=hval0;have hW':=hW;obtain⟨p,q,hA0,hV,rfl,hfz,hnd⟩:=hW;have hA:DataW.TrodAll enc Tryz.prog W 0 (fun _=>true) true Tryz.f7.params.toList args.toList ds p:=hA0;rw[Tryz.params7]at hA hval;obtain⟨v0,vs0,d0,ds0,p0,ps0,e0,rfl,rfl,h0,hA⟩:=trodAll_cons hA;obtain⟨v1,vs1,d1,ds1,p1,ps1,rfl,rfl,rfl,h1,hA⟩:=trodAll_cons hA;obtain⟨rfl,rfl,rfl⟩:=trodAll_nil hA;obtain⟨rfl,rfl⟩:=trodVars_none hV;have e:args = #[v0,v1]:=by cases args;simp_all
 subst e;clear hA0 hval0;obtain⟨m0,u0,b0,r0⟩:=qjQ (hval 0 _ _ rfl rfl) h0;obtain⟨t1,b1,r1⟩:=qjR (hval 1 _ _ rfl rfl) h1;refine(qeZ (c7 m0 u0 b0 t1 (fun i hi=>by have:=qol (b1 i hi);omega)) (.cons r0 (.cons r1 .nil))).mono fun e W' ⟨he,hb⟩=>?_;subst he;exact⟨_,rfl,qhi Go.Tn.laid Ωa Ωa Tryz.underlying4 rfl rfl hW' hb⟩
theorem over:Rows.topKeptLagRow.holds Tryz.pinned (OpenSpec.ofChange Rows.topKeptLagSpec):=
 OpenClaim.holds_of_wide 7 Tryz.f7 rfl rfl rfl rfl rfl rfl rfl ⟨rfl,rfl,rfl,rfl,rfl⟩ rfl rfl rfl rfl rfl Ωa Tryz.func7 qnX
  (of_decide_eq_true Ωa) (by unfold Func.isWrapper;first|(rw[if_pos (by decide +kernel)];kernel_rfl)|(rw[if_neg (by decide +kernel)];exact⟨rfl,rfl⟩))
  (fun os started H enc _=>lifted os started H enc)
theorem proved:Rows.TopKeptLagSaid:=
 over
#print axioms proved
end Go.Proofs.YtacejomniokahaaGreat.TopKeptLag
end
