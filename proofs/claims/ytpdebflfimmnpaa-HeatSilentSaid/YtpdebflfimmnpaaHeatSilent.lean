/- HeatSilent: for every input the law returns true and leaves its arguments as they were; no conditions. -/
import Derived.Test.YtpdebflfimmnpaaRows
import Derived.Test.YtpdebflfimmnpaaHZ
import Derived.Test.YtpdebflfimmnpaaWHeatSilent
section
namespace Go.Proofs.Ytpdebflfimmnpaa.HeatSilent
open Go.ChangeShapes Go.WideShapes Go.ChangeAt Go.RowKit Go.Sx Go.He
set_option linter.unusedVariables false
set_option linter.unusedSimpArgs false
theorem own : ownKnob Try.prog.godebug = none := by kernel_rfl
set_option maxRecDepth 100000 in
theorem lifted (os : Os) (started : os.Started) (H : Type) (enc : TypeId × Value → H) :
  ReturnsInHanded {} Try.checked os 15 .any (Rows.heatSilentSpec.pre6 enc Try.prog Try.f15 Rows.heatSilentRow.domain false) (Rows.heatSilentSpec.post enc Try.prog Try.f15 false true false false) := by
 refine returnsInHanded_of_change (C := Try.checked) own started (by kernel_rfl) Try.func15
  (ChangeSpec.witness6 (enc := enc) (C := Try.checked) false ⟨#[], #[.int .u8 0, .slice none 0 0], []⟩ 8 (by kernel_rfl) (by kernel_rfl) (by kernel_rfl) (by kernel_rfl)) ?_
 intro W base args ds gs before hval0 hW hcnd _
 have hval : ∀ (j : Nat) t v, Try.f15.params[j]? = some t → args[j]? = some v → Value.okWide Try.prog W .any base t v := hval0
 have hW' := hW
 obtain ⟨p, q, hA0, hV, rfl, hfz, hnd⟩ := hW
 have hA : DataW.TrodAll enc Try.prog W 0 (fun _ => true) true Try.f15.params.toList args.toList ds p := hA0
 rw [Try.params15] at hA hval
 obtain ⟨v0, vs0, d0, ds0, p0, ps0, e0, rfl, rfl, h0, hA⟩ := trodAll_cons hA
 obtain ⟨v1, vs1, d1, ds1, p1, ps1, rfl, rfl, rfl, h1, hA⟩ := trodAll_cons hA
 obtain ⟨rfl, rfl, rfl⟩ := trodAll_nil hA
 obtain ⟨rfl, rfl⟩ := trodVars_none hV
 have e : args = #[v0, v1] := by cases args; simp_all
 subst e
 clear hA0 hval0
 obtain ⟨a0, b0, r0⟩ := u8_arg (hval 0 _ _ rfl rfl) h0
 obtain ⟨m1, a1, b1, r1⟩ := u8s_arg (hval 1 _ _ rfl rfl) h1
 refine (law_calls (c15 a0 (u8_in b0) m1 a1 (fun i hi => u8_in (b1 i hi))) (.cons r0 (.cons r1 .nil))).mono fun e W' ⟨he, hb⟩ => ?_
 subst he
 exact ⟨_, rfl, law_post Go.He.laid (by kernel_rfl) (by kernel_rfl) Try.underlying4 rfl rfl hW' hb⟩
theorem over : Rows.heatSilentRow.holds Try.pinned (OpenSpec.ofChange Rows.heatSilentSpec) :=
 OpenClaim.holds_of_wide 15 Try.f15 rfl rfl rfl rfl rfl rfl rfl ⟨rfl, rfl, rfl, rfl, rfl⟩ rfl rfl rfl rfl rfl (by kernel_rfl) Try.func15 (by kernel_rfl)
  (of_decide_eq_true (by kernel_rfl)) (by unfold Func.isWrapper; first | (rw [if_pos (by decide +kernel)]; kernel_rfl) | (rw [if_neg (by decide +kernel)]; exact ⟨rfl, rfl⟩))
  (fun os started H enc _ => lifted os started H enc)
theorem proved : Rows.HeatSilentSaid :=
 over
#print axioms proved
end Go.Proofs.Ytpdebflfimmnpaa.HeatSilent
end
