/- A part of the proof. -/
import Derived.Test.YtbomildlhnllhaaEE
import Derived.Test.YtbomildlhnllhaaOE
section
set_option linter.unusedVariables false
set_option linter.unusedSimpArgs false
set_option maxRecDepth 100000
namespace Go.Od
open Go.Proofs
open Go.Sx Go.RowKit Go.ChangeShapes Go.WideShapes Go.ChangeAt
theorem laid : laidOutB Try.prog = true := by kernel_rfl
theorem ce2 : Try.prog.cellsOf 2 = 1 := by kernel_rfl
theorem ce34 : Try.prog.cellsOf 34 = 1 := by kernel_rfl
theorem ce36 : Try.prog.cellsOf 36 = 2 := by kernel_rfl
theorem ce66 : Try.prog.cellsOf 66 = 2 := by kernel_rfl
def pcl (p : Pl) : Nat → SV
 | 0 => rngs p.n p.lo p.hi
 | _ => I p.cut
section
variable {H : Type} {enc : TypeId × Value → H} {w : World}
theorem rd_i64 : Rd enc Try.prog w 2 1 (fun n : Int => InK .i64 n) (fun n _ => .val (.int .i64 n)) := Rd.int Try.underlying2
theorem rd_rg : Rd enc Try.prog w 66 2 (fun _ : Int × Int => True) (fun x j => .val (.int .i64 (if j = 0 then x.1 else x.2))) :=
 (Rd.struct Try.underlying66 ce66 (RdF.cons rd_i64 ce2 rfl (RdF.cons rd_i64 ce2 rfl RdF.nil (by simp)) (by simp)) (by simp [ce2, List.range_succ])).map (fun x => (x.1, x.2.1)) (fun a _ => ⟨trivial, fun j hj => by
  have : j = 0 ∨ j = 1 := by omega
  rcases this with rfl | rfl <;> rfl⟩)
theorem rd_rgs : Rd enc Try.prog w 34 1 (fun x : Nat × (Nat → Int × Int) => x.1 ≤ maxLen ∧ ∀ i, i < x.1 → True) (fun x _ => rngs x.1 (fun i => (x.2 i).1) (fun i => (x.2 i).2)) :=
 Rd.slice Try.underlying34 ce66 (by omega) rd_rg
theorem rd_pool : Rd enc Try.prog w 36 2 (fun p : Pl => p.n ≤ maxLen) pcl :=
 (Rd.struct Try.underlying36 ce36 (RdF.cons rd_rgs ce34 rfl (RdF.cons rd_i64 ce2 rfl RdF.nil (by simp)) (by simp)) (by simp [ce2, ce34, List.range_succ])).map
  (fun x => (⟨x.1.1, fun i => (x.1.2 i).1, fun i => (x.1.2 i).2, x.2.1⟩ : Pl)) (fun a ha => ⟨ha.1.1, fun j hj => by
  have : j = 0 ∨ j = 1 := by omega
  rcases this with rfl | rfl <;> rfl⟩)
theorem pool_arg {r : Reach} {b0 : Nat} {v : Value} {d : DataW H} {ps : List MemPlace} (hv : Value.okWide Try.prog w r b0 36 v) (h : DataW.Trod enc Try.prog w 0 (fun _ => true) true 36 v d ps) :
  ∃ p : Pl, Rep noR noN (Gin w) w p.sv v := by
 obtain ⟨cs, e, _⟩ := okWide_struct Try.underlying36 hv
 obtain ⟨p, _, hr⟩ := rd_pool.agg e h
 exact ⟨p, hr⟩
theorem int_arg {r : Reach} {b0 : Nat} {v : Value} {d : DataW H} {ps : List MemPlace} (hv : Value.okWide Try.prog w r b0 3 v) (h : DataW.Trod enc Try.prog w 0 (fun _ => true) true 3 v d ps) :
  ∃ n : Int, Rep noR noN (Gin w) w (I n) v := by
 obtain ⟨n, rfl⟩ := okWide_int Try.underlying3 hv
 obtain ⟨m, hm, hr⟩ := (Rd.int Try.underlying3).one rfl h
 cases hr
 exact ⟨n, .val _⟩
end
end Go.Od
end
section
set_option linter.unusedVariables false
set_option linter.unusedSimpArgs false
set_option maxRecDepth 100000
namespace Go.Od
open Go.Proofs
open Go.Sx Go.RowKit Go.ChangeShapes Go.WideShapes Go.ChangeAt
section
variable {H : Type} {enc : TypeId × Value → H} {w : World}
end
end Go.Od
end
