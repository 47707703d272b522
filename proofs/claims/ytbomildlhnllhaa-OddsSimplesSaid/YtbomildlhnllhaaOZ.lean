/- A part of the proof. -/
import Derived.Test.YtbomildlhnllhaaEE
import Derived.Test.YtbomildlhnllhaaOE
section
set_option linter.unusedVariables false
set_option linter.unusedSimpArgs false
set_option maxRecDepth 100000
namespace Go.Od
open Go.Sx Go.RowKit Go.ChangeShapes Go.WideShapes Go.ChangeAt
theorem laid : laidOutB Go.Proofs.Try.prog = true := by kernel_rfl
theorem ce2 : Go.Proofs.Try.prog.cellsOf 2 = 1 := by kernel_rfl
theorem ce23 : Go.Proofs.Try.prog.cellsOf 23 = 2 := by kernel_rfl
section
variable {H : Type} {enc : TypeId × Value → H} {w : World}
theorem rd_i64 : Rd enc Go.Proofs.Try.prog w 2 1 (fun n : Int => InK .i64 n) (fun n _ => .val (.int .i64 n)) := Rd.int Go.Proofs.Try.underlying2
theorem rd_ratio : Rd enc Go.Proofs.Try.prog w 23 2 (fun _ : Fr => True) ff :=
  (Rd.struct Go.Proofs.Try.underlying23 ce23 (RdF.cons rd_i64 ce2 rfl (RdF.cons rd_i64 ce2 rfl RdF.nil (by simp)) (by simp)) (by simp [ce2, List.range_succ])).map (fun x => (⟨x.1, x.2.1⟩ : Fr)) (fun a _ => ⟨trivial, fun j hj => by
    have : j = 0 ∨ j = 1 := by omega
    rcases this with rfl | rfl <;> rfl⟩)
theorem ratio_arg {r : Reach} {b0 : Nat} {v : Value} {d : DataW H} {ps : List MemPlace} (hv : Value.okWide Go.Proofs.Try.prog w r b0 23 v) (h : DataW.Trod enc Go.Proofs.Try.prog w 0 (fun _ => true) true 23 v d ps) :
    ∃ a : Fr, Rep noR noN (Gin w) w (fsv a) v := by
  obtain ⟨cs, e, _⟩ := okWide_struct Go.Proofs.Try.underlying23 hv
  obtain ⟨p, _, hr⟩ := rd_ratio.agg e h
  exact ⟨p, hr⟩
end
end Go.Od
end
