/- TopPulledPools: for every input the law returns true and leaves its arguments as they were; no conditions. -/
import Derived.Test.YtacejomniokahaaGreatRows
import Derived.Test.YtacejomniokahaaGreatPD
import Derived.Test.YtacejomniokahaaGreatPT
import Derived.Test.YtacejomniokahaaGreatPU
set_option linter.unusedVariables false
set_option linter.unusedSimpArgs false
set_option maxRecDepth 1000000
set_option maxHeartbeats 16000000
section
namespace Go.Proofs.YtacejomniokahaaGreat.TopPulledPools
open Go.ChangeShapes Go.WideShapes Go.ChangeAt Go.RowKit Go.Sx Go.Tn
theorem own:ownKnob Tryz.prog.godebug=none:=by kernel_rfl
set_option maxRecDepth 100000 in
theorem lifted(os:Os)(started:os.Started)(H:Type)(enc:TypeId×Value→H) :
  ReturnsInHanded {} Tryz.checked os 4 .any (Rows.topPulledPoolsSpec.pre6 enc Tryz.prog Tryz.f4 Rows.topPulledPoolsRow.domain false) (Rows.topPulledPoolsSpec.post enc Tryz.prog Tryz.f4 false true false false):=by
 refine returnsInHanded_of_change (C:=Tryz.checked) own started Ωd Tryz.func4
  (ChangeSpec.witness6 (enc:=enc) (C:=Tryz.checked) false ⟨#[],#[.agg #[.slice none 0 0],.slice none 0 0,.int .u8 0],[]⟩ 8 Ωd Ωd Ωd Ωd) ?_
 intro W base args ds gs before hval0 hW hcnd _;have hval:∀(j:Nat) t v,Tryz.f4.params[j]? = some t→args[j]? = some v→Value.okWide Tryz.prog W .any base t v:=hval0;have hW':=hW;obtain⟨p,q,hA0,hV,rfl,hfz,hnd⟩:=hW;have hA:DataW.TrodAll enc Tryz.prog W 0 (fun _=>true) true Tryz.f4.params.toList args.toList ds p:=hA0;rw[Tryz.params4]at hA hval;obtain⟨v0,vs0,d0,ds0,p0,ps0,e0,rfl,rfl,h0,hA⟩:=trodAll_cons hA;obtain⟨v1,vs1,d1,ds1,p1,ps1,rfl,rfl,rfl,h1,hA⟩:=trodAll_cons hA;obtain⟨v2,vs2,d2,ds2,p2,ps2,rfl,rfl,rfl,h2,hA⟩:=trodAll_cons hA;obtain⟨rfl,rfl,rfl⟩:=trodAll_nil hA;obtain⟨rfl,rfl⟩:=trodVars_none hV;have e:args = #[v0,v1,v2]:=by cases args;simp_all
 subst e;clear hA0 hval0;obtain⟨m0,u0,l0,r0⟩:=qhd (hval 0 _ _ rfl rfl) h0;obtain⟨m1,t1,b1,r1⟩:=qjU (hval 1 _ _ rfl rfl) h1;obtain⟨a2,b2,r2⟩:=qmo (hval 2 _ _ rfl rfl) h2;refine(qeO (c4 m0 u0 m1 t1 (fun i j hi hj=>qlD (b1 i j hi hj)) a2 (qlD b2)) (.cons r0 (.cons r1 (.cons r2 .nil)))).mono fun e W' ⟨he,hb⟩=>?_;subst he;exact⟨_,rfl,qgP Go.Tn.laid Ωd Ωd Tryz.underlying4 rfl rfl hW' hb⟩
theorem over:Rows.topPulledPoolsRow.holds Tryz.pinned (OpenSpec.ofChange Rows.topPulledPoolsSpec):=
 OpenClaim.holds_of_wide 4 Tryz.f4 rfl rfl rfl rfl rfl rfl rfl ⟨rfl,rfl,rfl,rfl,rfl⟩ rfl rfl rfl rfl rfl Ωd Tryz.func4 qnn
  (of_decide_eq_true Ωd) (by unfold Func.isWrapper;first|(rw[if_pos (by decide +kernel)];kernel_rfl)|(rw[if_neg (by decide +kernel)];exact⟨rfl,rfl⟩))
  (fun os started H enc _=>lifted os started H enc)
theorem proved:Rows.TopPulledPoolsSaid:=
 over
#print axioms proved
end Go.Proofs.YtacejomniokahaaGreat.TopPulledPools
end
