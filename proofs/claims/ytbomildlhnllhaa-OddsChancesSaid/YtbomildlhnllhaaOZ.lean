/- A part of the proof. -/
import Derived.Test.YtbomildlhnllhaaEE
import Derived.Test.YtbomildlhnllhaaOE
section
set_option linter.unusedVariables false
set_option linter.unusedSimpArgs false
set_option maxRecDepth 100000
namespace Go.Od
open Go.Proofs
open Go.Sx Go.RowKit Go.ChangeShapes Go.WideShapes Go.ChangeAt
theorem laid : laidOutB Try.prog = true := by kernel_rfl
theorem ce2 : Try.prog.cellsOf 2 = 1 := by kernel_rfl
theorem ce3 : Try.prog.cellsOf 3 = 1 := by kernel_rfl
theorem ce4 : Try.prog.cellsOf 4 = 1 := by kernel_rfl
theorem ce42 : Try.prog.cellsOf 42 = 1 := by kernel_rfl
theorem ce44 : Try.prog.cellsOf 44 = 2 := by kernel_rfl
theorem ce74 : Try.prog.cellsOf 74 = 4 := by kernel_rfl
def mcl (M : Mk) : Nat → SV
 | 0 => I M.run
 | _ => qts M.m M.q
section
variable {H : Type} {enc : TypeId × Value → H} {w : World}
theorem rd_i64 : Rd enc Try.prog w 2 1 (fun n : Int => InK .i64 n) (fun n _ => .val (.int .i64 n)) := Rd.int Try.underlying2
theorem rd_int : Rd enc Try.prog w 3 1 (fun n : Int => InK .i64 n) (fun n _ => .val (.int .i64 n)) := Rd.int Try.underlying3
theorem rd_bool : Rd enc Try.prog w 4 1 (fun b : Bool => True) (fun b _ => .val (.bool b)) := Rd.bool Try.underlying4
theorem rd_ints : Rd enc Try.prog w 45 1 (fun x : Nat × (Nat → Int) => x.1 ≤ maxLen ∧ ∀ i, i < x.1 → InK .i64 (x.2 i)) (fun x _ => ints x.1 x.2) :=
 Rd.slice Try.underlying45 ce2 (by omega) rd_i64
theorem rd_quote : Rd enc Try.prog w 74 4 (fun _ : Qt => True) qf :=
 (Rd.struct Try.underlying74 ce74 (RdF.cons rd_int ce3 rfl (RdF.cons rd_i64 ce2 rfl (RdF.cons rd_i64 ce2 rfl (RdF.cons rd_bool ce4 rfl RdF.nil (by simp)) (by simp)) (by simp)) (by simp)) (by simp [ce2, ce3, ce4, List.range_succ])).map
  (fun x => (⟨x.1, x.2.1, x.2.2.1, x.2.2.2.1⟩ : Qt)) (fun a ha => ⟨trivial, fun j hj => by
  have : j = 0 ∨ j = 1 ∨ j = 2 ∨ j = 3 := by omega
  rcases this with rfl | rfl | rfl | rfl <;> rfl⟩)
theorem rd_quotes : Rd enc Try.prog w 42 1 (fun x : Nat × (Nat → Qt) => x.1 ≤ maxLen ∧ ∀ i, i < x.1 → True) (fun x _ => qts x.1 x.2) :=
 have : Inhabited Qt := ⟨⟨0, 0, 0, false⟩⟩
 Rd.slice Try.underlying42 ce74 (by omega) rd_quote
theorem rd_market : Rd enc Try.prog w 44 2 (fun M : Mk => M.m ≤ maxLen) mcl :=
 (Rd.struct Try.underlying44 ce44 (RdF.cons rd_int ce3 rfl (RdF.cons rd_quotes ce42 rfl RdF.nil (by simp)) (by simp)) (by simp [ce3, ce42, List.range_succ])).map
  (fun x => (⟨x.1, x.2.1.1, x.2.1.2⟩ : Mk)) (fun a ha => ⟨ha.2.1.1, fun j hj => by
  have : j = 0 ∨ j = 1 := by omega
  rcases this with rfl | rfl <;> rfl⟩)
theorem market_arg {r : Reach} {b0 : Nat} {v : Value} {d : DataW H} {ps : List MemPlace} (hv : Value.okWide Try.prog w r b0 44 v) (h : DataW.Trod enc Try.prog w 0 (fun _ => true) true 44 v d ps) :
  ∃ M : Mk, Rep noR noN (Gin w) w M.sv v := by
 obtain ⟨cs, e, _⟩ := okWide_struct Try.underlying44 hv
 obtain ⟨p, _, hr⟩ := rd_market.agg e h
 exact ⟨p, hr⟩
theorem ints_arg {r : Reach} {b0 : Nat} {v : Value} {d : DataW H} {ps : List MemPlace} (hv : Value.okWide Try.prog w r b0 45 v) (h : DataW.Trod enc Try.prog w 0 (fun _ => true) true 45 v d ps) :
  ∃ (m : Nat) (u : Nat → Int), Rep noR noN (Gin w) w (ints m u) v := by
 obtain ⟨a, n, c, rfl⟩ := okWide_slice Try.underlying45 hv
 obtain ⟨x, _, hr⟩ := rd_ints.one rfl h
 exact ⟨x.1, x.2, hr⟩
end
end Go.Od
end
section
set_option linter.unusedVariables false
set_option linter.unusedSimpArgs false
set_option maxRecDepth 100000
namespace Go.Od
open Go.Proofs
open Go.Sx Go.RowKit Go.ChangeShapes Go.WideShapes Go.ChangeAt
section
variable {H : Type} {enc : TypeId × Value → H} {w : World}
end
end Go.Od
end
