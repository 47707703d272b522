/- TopCutPools: for every input the law returns true and leaves its arguments as they were; no conditions. -/
import Derived.Test.YtacejomniokahaaGreatRows
import Derived.Test.YtacejomniokahaaGreatPD
import Derived.Test.YtacejomniokahaaGreatPY
import Derived.Test.YtacejomniokahaaGreatPZ
import Derived.Test.YtacejomniokahaaGreatPa
set_option linter.unusedVariables false
set_option linter.unusedSimpArgs false
set_option maxRecDepth 1000000
set_option maxHeartbeats 16000000
section
namespace Go.Proofs.YtacejomniokahaaGreat.TopCutPools
open Go.ChangeShapes Go.WideShapes Go.ChangeAt Go.RowKit Go.Sx Go.Tn
theorem own:ownKnob Tryz.prog.godebug=none:=by kernel_rfl
set_option maxRecDepth 100000 in
theorem lifted(os:Os)(started:os.Started)(H:Type)(enc:TypeId×Value→H) :
  ReturnsInHanded {} Tryz.checked os 8 .any (Rows.topCutPoolsSpec.pre6 enc Tryz.prog Tryz.f8 Rows.topCutPoolsRow.domain false) (Rows.topCutPoolsSpec.post enc Tryz.prog Tryz.f8 false true false false):=by
 refine returnsInHanded_of_change (C:=Tryz.checked) own started Ωb Tryz.func8
  (ChangeSpec.witness6 (enc:=enc) (C:=Tryz.checked) false ⟨#[],#[.agg #[.int .i64 0,.int .i64 0,.slice none 0 0,.slice none 0 0,.bool false,.int .i64 0,.int .i64 0,.int .i64 0],.slice none 0 0,.slice none 0 0],[]⟩ 8 Ωb Ωb Ωb Ωb) ?_
 intro W base args ds gs before hval0 hW hcnd _;have hval:∀(j:Nat) t v,Tryz.f8.params[j]? = some t→args[j]? = some v→Value.okWide Tryz.prog W .any base t v:=hval0;have hW':=hW;obtain⟨p,q,hA0,hV,rfl,hfz,hnd⟩:=hW;have hA:DataW.TrodAll enc Tryz.prog W 0 (fun _=>true) true Tryz.f8.params.toList args.toList ds p:=hA0;rw[Tryz.params8]at hA hval;obtain⟨v0,vs0,d0,ds0,p0,ps0,e0,rfl,rfl,h0,hA⟩:=trodAll_cons hA;obtain⟨v1,vs1,d1,ds1,p1,ps1,rfl,rfl,rfl,h1,hA⟩:=trodAll_cons hA;obtain⟨v2,vs2,d2,ds2,p2,ps2,rfl,rfl,rfl,h2,hA⟩:=trodAll_cons hA;obtain⟨rfl,rfl,rfl⟩:=trodAll_nil hA;obtain⟨rfl,rfl⟩:=trodVars_none hV;have e:args = #[v0,v1,v2]:=by cases args;simp_all
 subst e;clear hA0 hval0;obtain⟨k0,n0,nb0,f0,g0,q0,ns0,s0,fav0,c0,du0,st0,b0,r0⟩:=qkY (hval 0 _ _ rfl rfl) h0;obtain⟨m1,x1,y1,z1,b1,r1⟩:=qnD (hval 1 _ _ rfl rfl) h1;obtain⟨t2,b2,r2⟩:=qnC (hval 2 _ _ rfl rfl) h2;refine(qfT (c8 k0 n0 nb0 f0 g0 q0 ns0 s0 fav0 c0 du0 st0 m1 x1 y1 z1 t2 b1 b2) (.cons r0 (.cons r1 (.cons r2 .nil)))).mono fun e W' ⟨he,hb⟩=>?_;subst he;exact⟨_,rfl,qif Go.Tn.laid Ωb Ωb Tryz.underlying4 rfl rfl hW' hb⟩
theorem over:Rows.topCutPoolsRow.holds Tryz.pinned (OpenSpec.ofChange Rows.topCutPoolsSpec):=
 OpenClaim.holds_of_wide 8 Tryz.f8 rfl rfl rfl rfl rfl rfl rfl ⟨rfl,rfl,rfl,rfl,rfl⟩ rfl rfl rfl rfl rfl Ωb Tryz.func8 qpR
  (of_decide_eq_true Ωb) (by unfold Func.isWrapper;first|(rw[if_pos (by decide +kernel)];kernel_rfl)|(rw[if_neg (by decide +kernel)];exact⟨rfl,rfl⟩))
  (fun os started H enc _=>lifted os started H enc)
theorem proved:Rows.TopCutPoolsSaid:=
 over
#print axioms proved
end Go.Proofs.YtacejomniokahaaGreat.TopCutPools
end
