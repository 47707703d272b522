/- TopCutTickets: for every input the law returns true and leaves its arguments as they were; no conditions. -/
import Derived.Test.YtacejomniokahaaGreatRows
import Derived.Test.YtacejomniokahaaGreatPD
import Derived.Test.YtacejomniokahaaGreatPX
import Derived.Test.YtacejomniokahaaGreatPY
import Derived.Test.YtacejomniokahaaGreatPZ
set_option linter.unusedVariables false
set_option linter.unusedSimpArgs false
set_option maxRecDepth 1000000
set_option maxHeartbeats 16000000
section
namespace Go.Proofs.YtacejomniokahaaGreat.TopCutTickets
open Go.ChangeShapes Go.WideShapes Go.ChangeAt Go.RowKit Go.Sx Go.Tn
theorem own:ownKnob Tryz.prog.godebug=none:=by kernel_rfl
set_option maxRecDepth 100000 in
theorem lifted(os:Os)(started:os.Started)(H:Type)(enc:TypeId×Value→H) :
  ReturnsInHanded {} Tryz.checked os 9 .any (Rows.topCutTicketsSpec.pre6 enc Tryz.prog Tryz.f9 Rows.topCutTicketsRow.domain false) (Rows.topCutTicketsSpec.post enc Tryz.prog Tryz.f9 false true false false):=by
 refine returnsInHanded_of_change (C:=Tryz.checked) own started Ωc Tryz.func9
  (ChangeSpec.witness6 (enc:=enc) (C:=Tryz.checked) false ⟨#[],#[.agg #[.int .i64 0,.int .i64 0,.slice none 0 0],.int .u8 0],[]⟩ 8 Ωc Ωc Ωc Ωc) ?_
 intro W base args ds gs before hval0 hW hcnd _;have hval:∀(j:Nat) t v,Tryz.f9.params[j]? = some t→args[j]? = some v→Value.okWide Tryz.prog W .any base t v:=hval0;have hW':=hW;obtain⟨p,q,hA0,hV,rfl,hfz,hnd⟩:=hW;have hA:DataW.TrodAll enc Tryz.prog W 0 (fun _=>true) true Tryz.f9.params.toList args.toList ds p:=hA0;rw[Tryz.params9]at hA hval;obtain⟨v0,vs0,d0,ds0,p0,ps0,e0,rfl,rfl,h0,hA⟩:=trodAll_cons hA;obtain⟨v1,vs1,d1,ds1,p1,ps1,rfl,rfl,rfl,h1,hA⟩:=trodAll_cons hA;obtain⟨rfl,rfl,rfl⟩:=trodAll_nil hA;obtain⟨rfl,rfl⟩:=trodVars_none hV;have e:args = #[v0,v1]:=by cases args;simp_all
 subst e;clear hA0 hval0;obtain⟨n0,m0,k0,f0,t0,lo0,hi0,r0⟩:=qnm (hval 0 _ _ rfl rfl) h0;obtain⟨a1,b1,r1⟩:=qoj (hval 1 _ _ rfl rfl) h1;refine(qfS (c9 n0 m0 k0 f0 t0 lo0 hi0 a1 (qpO b1)) (.cons r0 (.cons r1 .nil))).mono fun e W' ⟨he,hb⟩=>?_;subst he;exact⟨_,rfl,qig Go.Tn.laid Ωc Ωc Tryz.underlying4 rfl rfl hW' hb⟩
theorem over:Rows.topCutTicketsRow.holds Tryz.pinned (OpenSpec.ofChange Rows.topCutTicketsSpec):=
 OpenClaim.holds_of_wide 9 Tryz.f9 rfl rfl rfl rfl rfl rfl rfl ⟨rfl,rfl,rfl,rfl,rfl⟩ rfl rfl rfl rfl rfl Ωc Tryz.func9 qpB
  (of_decide_eq_true Ωc) (by unfold Func.isWrapper;first|(rw[if_pos (by decide +kernel)];kernel_rfl)|(rw[if_neg (by decide +kernel)];exact⟨rfl,rfl⟩))
  (fun os started H enc _=>lifted os started H enc)
theorem proved:Rows.TopCutTicketsSaid:=
 over
#print axioms proved
end Go.Proofs.YtacejomniokahaaGreat.TopCutTickets
end
