/- A part of the proof. -/
import Derived.Test.YtbomildlhnllhaaEE
import Derived.Test.YtbomildlhnllhaaOE
section
set_option linter.unusedVariables false
set_option linter.unusedSimpArgs false
set_option maxRecDepth 100000
namespace Go.Od
open Go.Proofs
open Go.Sx Go.RowKit Go.ChangeShapes Go.WideShapes Go.ChangeAt
theorem laid : laidOutB Try.prog = true := by kernel_rfl
theorem ce2 : Try.prog.cellsOf 2 = 1 := by kernel_rfl
theorem ce34 : Try.prog.cellsOf 34 = 1 := by kernel_rfl
theorem ce36 : Try.prog.cellsOf 36 = 2 := by kernel_rfl
theorem ce66 : Try.prog.cellsOf 66 = 2 := by kernel_rfl
def pcl (p : Pl) : Nat → SV
 | 0 => rngs p.n p.lo p.hi
 | _ => I p.cut
section
variable {H : Type} {enc : TypeId × Value → H} {w : World}
theorem rd_i64 : Rd enc Try.prog w 2 1 (fun n : Int => InK .i64 n) (fun n _ => .val (.int .i64 n)) := Rd.int Try.underlying2
theorem rd_rg : Rd enc Try.prog w 66 2 (fun _ : Int × Int => True) (fun x j => .val (.int .i64 (if j = 0 then x.1 else x.2))) :=
 (Rd.struct Try.underlying66 ce66 (RdF.cons rd_i64 ce2 rfl (RdF.cons rd_i64 ce2 rfl RdF.nil (by simp)) (by simp)) (by simp [ce2, List.range_succ])).map (fun x => (x.1, x.2.1)) (fun a _ => ⟨trivial, fun j hj => by
  have : j = 0 ∨ j = 1 := by omega
  rcases this with rfl | rfl <;> rfl⟩)
theorem rd_rgs : Rd enc Try.prog w 34 1 (fun x : Nat × (Nat → Int × Int) => x.1 ≤ maxLen ∧ ∀ i, i < x.1 → True) (fun x _ => rngs x.1 (fun i => (x.2 i).1) (fun i => (x.2 i).2)) :=
 Rd.slice Try.underlying34 ce66 (by omega) rd_rg
theorem rd_pool : Rd enc Try.prog w 36 2 (fun p : Pl => p.n ≤ maxLen) pcl :=
 (Rd.struct Try.underlying36 ce36 (RdF.cons rd_rgs ce34 rfl (RdF.cons rd_i64 ce2 rfl RdF.nil (by simp)) (by simp)) (by simp [ce2, ce34, List.range_succ])).map
  (fun x => (⟨x.1.1, fun i => (x.1.2 i).1, fun i => (x.1.2 i).2, x.2.1⟩ : Pl)) (fun a ha => ⟨ha.1.1, fun j hj => by
  have : j = 0 ∨ j = 1 := by omega
  rcases this with rfl | rfl <;> rfl⟩)
theorem pool_arg {r : Reach} {b0 : Nat} {v : Value} {d : DataW H} {ps : List MemPlace} (hv : Value.okWide Try.prog w r b0 36 v) (h : DataW.Trod enc Try.prog w 0 (fun _ => true) true 36 v d ps) :
  ∃ p : Pl, Rep noR noN (Gin w) w p.sv v := by
 obtain ⟨cs, e, _⟩ := okWide_struct Try.underlying36 hv
 obtain ⟨p, _, hr⟩ := rd_pool.agg e h
 exact ⟨p, hr⟩
end
end Go.Od
end
section
set_option linter.unusedVariables false
set_option linter.unusedSimpArgs false
set_option maxRecDepth 100000
namespace Go.Od
open Go.Proofs
open Go.Sx Go.RowKit Go.ChangeShapes Go.WideShapes Go.ChangeAt
theorem u32_in {n : Int} (h : InK .u32 n) : 0 ≤ n ∧ n < 4294967296 := by simp only [InK] at h; omega
theorem u8_in {n : Int} (h : InK .u8 n) : 0 ≤ n ∧ n < 256 := by simp only [InK] at h; omega
theorem ce57 : Try.prog.cellsOf 57 = 1 := by kernel_rfl
theorem ce62 : Try.prog.cellsOf 62 = 2 * 1 := by kernel_rfl
section
variable {H : Type} {enc : TypeId × Value → H} {w : World}
theorem u8_arg {r : Reach} {b0 : Nat} {v : Value} {d : DataW H} {ps : List MemPlace} (hv : Value.okWide Try.prog w r b0 5 v) (h : DataW.Trod enc Try.prog w 0 (fun _ => true) true 5 v d ps) :
  ∃ n : Int, InK .u8 n ∧ Rep noR noN (Gin w) w (.val (.int .u8 n)) v := by
 obtain ⟨n, rfl⟩ := okWide_int Try.underlying5 hv
 obtain ⟨m, hm, hr⟩ := (Rd.int Try.underlying5).one rfl h
 cases hr
 exact ⟨n, hm, .val _⟩
theorem u32s_arg {r : Reach} {b0 : Nat} {v : Value} {d : DataW H} {ps : List MemPlace} (hv : Value.okWide Try.prog w r b0 54 v) (h : DataW.Trod enc Try.prog w 0 (fun _ => true) true 54 v d ps) :
  ∃ (m : Nat) (u : Nat → Int), (∀ i, i < m → InK .u32 (u i)) ∧ Rep noR noN (Gin w) w (.arr false false m 1 (fun i _ => .val (.int .u32 (u i)))) v := by
 obtain ⟨a, n, c, rfl⟩ := okWide_slice Try.underlying54 hv
 obtain ⟨x, hx, hr⟩ := (Rd.slice (α := Int) Try.underlying54 ce57 (by omega) (Rd.int Try.underlying57)).one rfl h
 exact ⟨x.1, x.2, fun i hi => hx.2 i hi, hr⟩
theorem arr2_arg {r : Reach} {b0 : Nat} {v : Value} {d : DataW H} {ps : List MemPlace} (hv : Value.okWide Try.prog w r b0 62 v) (h : DataW.Trod enc Try.prog w 0 (fun _ => true) true 62 v d ps) :
  ∃ a b : Int, InK .u32 a ∧ InK .u32 b ∧ Rep noR noN (Gin w) w (.agg [.val (.int .u32 a), .val (.int .u32 b)]) v := by
 simp only [Value.okWide, Try.underlying62] at hv
 obtain ⟨cs, e, _⟩ := hv
 obtain ⟨x, hx, hr⟩ := (Rd.array Try.underlying62 ce57 (by omega) ce62 (Rd.int Try.underlying57)).agg e h
 exact ⟨x 0, x 1, hx 0 (by omega), hx 1 (by omega), hr⟩
end
end Go.Od
end
