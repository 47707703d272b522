/- A part of the proof. -/
import Derived.Test.YtpdebflfimmnpaaEE
import Derived.Test.YtpdebflfimmnpaaHB
section
set_option linter.unusedVariables false
set_option linter.unusedSimpArgs false
set_option maxRecDepth 100000
namespace Go.He
open Go.Proofs
open Go.Sx Go.RowKit Go.ChangeShapes Go.WideShapes Go.ChangeAt
theorem laid : laidOutB Try.prog = true := by kernel_rfl
theorem ce3 : Try.prog.cellsOf 3 = 1 := by kernel_rfl
theorem ce5 : Try.prog.cellsOf 5 = 1 := by kernel_rfl
theorem ce22 : Try.prog.cellsOf 22 = 1 := by kernel_rfl
theorem ce24 : Try.prog.cellsOf 24 = 2 := by kernel_rfl
theorem ce39 : Try.prog.cellsOf 39 = 3 := by kernel_rfl
structure Rc where
 n : Int
 m : Nat
 w : Nat → Wd
def rcl (p : Rc) : Nat → SV
 | 0 => .val (.int .i64 p.n)
 | _ => wsv p.m p.w
theorem u8_in {n : Int} (h : InK .u8 n) : 0 ≤ n ∧ n < 256 := by simp only [InK] at h; omega
section
variable {H : Type} {enc : TypeId × Value → H} {w : World}
theorem rd_int : Rd enc Try.prog w 3 1 (fun n : Int => InK .i64 n) (fun n _ => .val (.int .i64 n)) := Rd.int Try.underlying3
theorem rd_word : Rd enc Try.prog w 39 3 (fun _ : Wd => True) wf :=
 (Rd.struct Try.underlying39 ce39 (RdF.cons rd_int ce3 rfl (RdF.cons rd_int ce3 rfl (RdF.cons rd_int ce3 rfl RdF.nil (by simp)) (by simp)) (by simp)) (by simp [ce3, List.range_succ])).map
  (fun x => (⟨x.1, x.2.1, x.2.2.1⟩ : Wd)) (fun a ha => ⟨trivial, fun j hj => by
  have : j = 0 ∨ j = 1 ∨ j = 2 := by omega
  rcases this with rfl | rfl | rfl <;> rfl⟩)
theorem rd_words : Rd enc Try.prog w 22 1 (fun x : Nat × (Nat → Wd) => x.1 ≤ maxLen ∧ ∀ i, i < x.1 → True) (fun x _ => wsv x.1 x.2) :=
 have : Inhabited Wd := ⟨⟨0, 0, 0⟩⟩
 Rd.slice Try.underlying22 ce39 (by omega) rd_word
theorem rd_race : Rd enc Try.prog w 24 2 (fun p : Rc => p.m ≤ maxLen) rcl :=
 (Rd.struct Try.underlying24 ce24 (RdF.cons rd_int ce3 rfl (RdF.cons rd_words ce22 rfl RdF.nil (by simp)) (by simp)) (by simp [ce3, ce22, List.range_succ])).map
  (fun x => (⟨x.1, x.2.1.1, x.2.1.2⟩ : Rc)) (fun a ha => ⟨ha.2.1.1, fun j hj => by
  have : j = 0 ∨ j = 1 := by omega
  rcases this with rfl | rfl <;> rfl⟩)
theorem race_arg {r : Reach} {b0 : Nat} {v : Value} {d : DataW H} {ps : List MemPlace} (hv : Value.okWide Try.prog w r b0 24 v) (h : DataW.Trod enc Try.prog w 0 (fun _ => true) true 24 v d ps) :
  ∃ (n : Int) (m : Nat) (z : Nat → Wd), Rep noR noN (Gin w) w (rsv n m z) v := by
 obtain ⟨cs, e, _⟩ := okWide_struct Try.underlying24 hv
 obtain ⟨p, _, hr⟩ := rd_race.agg e h
 exact ⟨p.n, p.m, p.w, hr⟩
theorem u8_arg {r : Reach} {b0 : Nat} {v : Value} {d : DataW H} {ps : List MemPlace} (hv : Value.okWide Try.prog w r b0 5 v) (h : DataW.Trod enc Try.prog w 0 (fun _ => true) true 5 v d ps) :
  ∃ n : Int, InK .u8 n ∧ Rep noR noN (Gin w) w (.val (.int .u8 n)) v := by
 obtain ⟨n, rfl⟩ := okWide_int Try.underlying5 hv
 obtain ⟨m, hm, hr⟩ := (Rd.int Try.underlying5).one rfl h
 cases hr
 exact ⟨n, hm, .val _⟩
theorem u8s_arg {r : Reach} {b0 : Nat} {v : Value} {d : DataW H} {ps : List MemPlace} (hv : Value.okWide Try.prog w r b0 47 v) (h : DataW.Trod enc Try.prog w 0 (fun _ => true) true 47 v d ps) :
  ∃ (m : Nat) (u : Nat → Int), (∀ i, i < m → InK .u8 (u i)) ∧ Rep noR noN (Gin w) w (.arr false false m 1 (fun i _ => .val (.int .u8 (u i)))) v := by
 obtain ⟨a, n, c, rfl⟩ := okWide_slice Try.underlying47 hv
 obtain ⟨x, hx, hr⟩ := (Rd.slice (α := Int) Try.underlying47 ce5 (by omega) (Rd.int Try.underlying5)).one rfl h
 exact ⟨x.1, x.2, fun i hi => hx.2 i hi, hr⟩
end
end Go.He
end
