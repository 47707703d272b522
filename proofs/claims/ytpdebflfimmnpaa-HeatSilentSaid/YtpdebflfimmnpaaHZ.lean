/- A part of the proof. -/
import Derived.Test.YtpdebflfimmnpaaEE
import Derived.Test.YtpdebflfimmnpaaHB
section
set_option linter.unusedVariables false
set_option linter.unusedSimpArgs false
set_option maxRecDepth 100000
namespace Go.He
open Go.Proofs
open Go.Sx Go.RowKit Go.ChangeShapes Go.WideShapes Go.ChangeAt
theorem laid : laidOutB Try.prog = true := by kernel_rfl
theorem ce5 : Try.prog.cellsOf 5 = 1 := by kernel_rfl
theorem u8_in {n : Int} (h : InK .u8 n) : 0 ≤ n ∧ n < 256 := by simp only [InK] at h; omega
section
variable {H : Type} {enc : TypeId × Value → H} {w : World}
theorem u8_arg {r : Reach} {b0 : Nat} {v : Value} {d : DataW H} {ps : List MemPlace} (hv : Value.okWide Try.prog w r b0 5 v) (h : DataW.Trod enc Try.prog w 0 (fun _ => true) true 5 v d ps) :
  ∃ n : Int, InK .u8 n ∧ Rep noR noN (Gin w) w (.val (.int .u8 n)) v := by
 obtain ⟨n, rfl⟩ := okWide_int Try.underlying5 hv
 obtain ⟨m, hm, hr⟩ := (Rd.int Try.underlying5).one rfl h
 cases hr
 exact ⟨n, hm, .val _⟩
theorem u8s_arg {r : Reach} {b0 : Nat} {v : Value} {d : DataW H} {ps : List MemPlace} (hv : Value.okWide Try.prog w r b0 47 v) (h : DataW.Trod enc Try.prog w 0 (fun _ => true) true 47 v d ps) :
  ∃ (m : Nat) (u : Nat → Int), (∀ i, i < m → InK .u8 (u i)) ∧ Rep noR noN (Gin w) w (.arr false false m 1 (fun i _ => .val (.int .u8 (u i)))) v := by
 obtain ⟨a, n, c, rfl⟩ := okWide_slice Try.underlying47 hv
 obtain ⟨x, hx, hr⟩ := (Rd.slice (α := Int) Try.underlying47 ce5 (by omega) (Rd.int Try.underlying5)).one rfl h
 exact ⟨x.1, x.2, fun i hi => hx.2 i hi, hr⟩
end
end Go.He
end
