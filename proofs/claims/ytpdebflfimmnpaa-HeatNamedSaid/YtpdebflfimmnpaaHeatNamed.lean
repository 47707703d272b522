/- HeatNamed: for every input the law returns true and leaves its arguments as they were; no conditions. -/
import Derived.Test.YtpdebflfimmnpaaRows
import Derived.Test.YtpdebflfimmnpaaHZ
import Derived.Test.YtpdebflfimmnpaaWHeatNamed
section
namespace Go.Proofs.Ytpdebflfimmnpaa.HeatNamed
open Go.ChangeShapes Go.WideShapes Go.ChangeAt Go.RowKit Go.Sx Go.He
set_option linter.unusedVariables false
set_option linter.unusedSimpArgs false
theorem own : ownKnob Try.prog.godebug = none := by kernel_rfl
set_option maxRecDepth 100000 in
theorem lifted (os : Os) (started : os.Started) (H : Type) (enc : TypeId × Value → H) :
  ReturnsInHanded {} Try.checked os 14 .any (Rows.heatNamedSpec.pre6 enc Try.prog Try.f14 Rows.heatNamedRow.domain false) (Rows.heatNamedSpec.post enc Try.prog Try.f14 false true false false) := by
 refine returnsInHanded_of_change (C := Try.checked) own started (by kernel_rfl) Try.func14
  (ChangeSpec.witness6 (enc := enc) (C := Try.checked) false ⟨#[], #[.agg #[.int .i64 0, .slice none 0 0], .int .u8 0, .int .u8 0, .slice none 0 0], []⟩ 8 (by kernel_rfl) (by kernel_rfl) (by kernel_rfl) (by kernel_rfl)) ?_
 intro W base args ds gs before hval0 hW hcnd _
 have hval : ∀ (j : Nat) t v, Try.f14.params[j]? = some t → args[j]? = some v → Value.okWide Try.prog W .any base t v := hval0
 have hW' := hW
 obtain ⟨p, q, hA0, hV, rfl, hfz, hnd⟩ := hW
 have hA : DataW.TrodAll enc Try.prog W 0 (fun _ => true) true Try.f14.params.toList args.toList ds p := hA0
 rw [Try.params14] at hA hval
 obtain ⟨v0, vs0, d0, ds0, p0, ps0, e0, rfl, rfl, h0, hA⟩ := trodAll_cons hA
 obtain ⟨v1, vs1, d1, ds1, p1, ps1, rfl, rfl, rfl, h1, hA⟩ := trodAll_cons hA
 obtain ⟨v2, vs2, d2, ds2, p2, ps2, rfl, rfl, rfl, h2, hA⟩ := trodAll_cons hA
 obtain ⟨v3, vs3, d3, ds3, p3, ps3, rfl, rfl, rfl, h3, hA⟩ := trodAll_cons hA
 obtain ⟨rfl, rfl, rfl⟩ := trodAll_nil hA
 obtain ⟨rfl, rfl⟩ := trodVars_none hV
 have e : args = #[v0, v1, v2, v3] := by cases args; simp_all
 subst e
 clear hA0 hval0
 obtain ⟨n0, m0, w0, r0⟩ := race_arg (hval 0 _ _ rfl rfl) h0
 obtain ⟨a1, b1, r1⟩ := u8_arg (hval 1 _ _ rfl rfl) h1
 obtain ⟨a2, b2, r2⟩ := u8_arg (hval 2 _ _ rfl rfl) h2
 obtain ⟨m3, a3, b3, r3⟩ := u8s_arg (hval 3 _ _ rfl rfl) h3
 refine (law_calls (c14 n0 m0 w0 a1 a2 (u8_in b1) (u8_in b2) m3 a3 (fun i hi => u8_in (b3 i hi))) (.cons r0 (.cons r1 (.cons r2 (.cons r3 .nil))))).mono fun e W' ⟨he, hb⟩ => ?_
 subst he
 exact ⟨_, rfl, law_post Go.He.laid (by kernel_rfl) (by kernel_rfl) Try.underlying4 rfl rfl hW' hb⟩
theorem over : Rows.heatNamedRow.holds Try.pinned (OpenSpec.ofChange Rows.heatNamedSpec) :=
 OpenClaim.holds_of_wide 14 Try.f14 rfl rfl rfl rfl rfl rfl rfl ⟨rfl, rfl, rfl, rfl, rfl⟩ rfl rfl rfl rfl rfl (by kernel_rfl) Try.func14 (by kernel_rfl)
  (of_decide_eq_true (by kernel_rfl)) (by unfold Func.isWrapper; first | (rw [if_pos (by decide +kernel)]; kernel_rfl) | (rw [if_neg (by decide +kernel)]; exact ⟨rfl, rfl⟩))
  (fun os started H enc _ => lifted os started H enc)
theorem proved : Rows.HeatNamedSaid :=
 over
#print axioms proved
end Go.Proofs.Ytpdebflfimmnpaa.HeatNamed
end
