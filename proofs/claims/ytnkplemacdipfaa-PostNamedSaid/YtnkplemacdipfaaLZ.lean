/- A part of the proof. -/
import Derived.Test.YtnkplemacdipfaaED
import Derived.Test.YtnkplemacdipfaaPC
section
set_option linter.unusedVariables false
set_option linter.unusedSimpArgs false
set_option maxRecDepth 100000
namespace Go.Po
open Go.Sx Go.RowKit Go.ChangeShapes Go.WideShapes Go.ChangeAt
theorem lo : laidOutB Go.Proofs.Try.prog = true := by kernel_rfl
theorem ce2 : Go.Proofs.Try.prog.cellsOf 2 = 1 := by kernel_rfl
theorem ce5 : Go.Proofs.Try.prog.cellsOf 5 = 1 := by kernel_rfl
theorem ce22 : Go.Proofs.Try.prog.cellsOf 22 = 1 := by kernel_rfl
theorem ce24 : Go.Proofs.Try.prog.cellsOf 24 = 5 := by kernel_rfl
theorem ce35 : Go.Proofs.Try.prog.cellsOf 35 = 2 := by kernel_rfl
section
variable {H : Type} {enc : TypeId × Value → H} {w : World}
theorem rd_i64 : Rd enc Go.Proofs.Try.prog w 2 1 (fun n : Int => InK .i64 n) (fun n _ => .val (.int .i64 n)) := Rd.int Go.Proofs.Try.underlying2
theorem rd_ints : Rd enc Go.Proofs.Try.prog w 25 1 (fun x : Nat × (Nat → Int) => x.1 ≤ maxLen ∧ ∀ i, i < x.1 → InK .i64 (x.2 i)) (fun x _ => ints x.1 x.2) :=
  Rd.slice Go.Proofs.Try.underlying25 ce2 (by omega) rd_i64
theorem rd_u8s : Rd enc Go.Proofs.Try.prog w 57 1 (fun x : Nat × (Nat → Int) => x.1 ≤ maxLen ∧ ∀ i, i < x.1 → InK .u8 (x.2 i)) (fun x _ => .arr false false x.1 1 (fun i _ => .val (.int .u8 (x.2 i)))) :=
  Rd.slice Go.Proofs.Try.underlying57 ce5 (by omega) (Rd.int Go.Proofs.Try.underlying5)
theorem rd_rg : Rd enc Go.Proofs.Try.prog w 35 2 (fun _ : Int × Int => True) (fun x j => .val (.int .i64 (if j = 0 then x.1 else x.2))) :=
  (Rd.struct Go.Proofs.Try.underlying35 ce35 (RdF.cons rd_i64 ce2 rfl (RdF.cons rd_i64 ce2 rfl RdF.nil (by simp)) (by simp)) (by simp [ce2, List.range_succ])).map (fun x => (x.1, x.2.1)) (fun a _ => ⟨trivial, fun j hj => by
    have : j = 0 ∨ j = 1 := by omega
    rcases this with rfl | rfl <;> rfl⟩)
theorem rd_rgs : Rd enc Go.Proofs.Try.prog w 22 1 (fun x : Nat × (Nat → Int × Int) => x.1 ≤ maxLen ∧ ∀ i, i < x.1 → True) (fun x _ => rngs x.1 (fun i => (x.2 i).1) (fun i => (x.2 i).2)) :=
  Rd.slice Go.Proofs.Try.underlying22 ce35 (by omega) rd_rg
theorem rd_pool : Rd enc Go.Proofs.Try.prog w 24 5 (fun p : Pool => p.n ≤ maxLen) pc :=
  (Rd.struct Go.Proofs.Try.underlying24 ce24 (RdF.cons rd_rgs ce22 rfl (RdF.cons rd_i64 ce2 rfl (RdF.cons rd_i64 ce2 rfl (RdF.cons rd_i64 ce2 rfl (RdF.cons rd_i64 ce2 rfl RdF.nil (by simp)) (by simp)) (by simp)) (by simp)) (by simp)) (by simp [ce2, ce22, List.range_succ])).map
    (fun x => (⟨x.1.1, fun i => (x.1.2 i).1, fun i => (x.1.2 i).2, x.2.1, x.2.2.1, x.2.2.2.1, x.2.2.2.2.1⟩ : Pool)) (fun a ha => ⟨ha.1.1, fun j hj => by
    have : j = 0 ∨ j = 1 ∨ j = 2 ∨ j = 3 ∨ j = 4 := by omega
    rcases this with rfl | rfl | rfl | rfl | rfl <;> rfl⟩)
theorem pool_arg {r : Reach} {b0 : Nat} {v : Value} {d : DataW H} {ps : List MemPlace} (hv : Value.okWide Go.Proofs.Try.prog w r b0 24 v) (h : DataW.Trod enc Go.Proofs.Try.prog w 0 (fun _ => true) true 24 v d ps) :
    ∃ p : Pool, Rep noR noN (Gin w) w p.sv v := by
  obtain ⟨cs, e, _⟩ := okWide_struct Go.Proofs.Try.underlying24 hv
  obtain ⟨p, _, hr⟩ := rd_pool.agg e h
  exact ⟨p, hr⟩
theorem ints_arg {r : Reach} {b0 : Nat} {v : Value} {d : DataW H} {ps : List MemPlace} (hv : Value.okWide Go.Proofs.Try.prog w r b0 25 v) (h : DataW.Trod enc Go.Proofs.Try.prog w 0 (fun _ => true) true 25 v d ps) :
    ∃ (m : Nat) (u : Nat → Int), Rep noR noN (Gin w) w (ints m u) v := by
  obtain ⟨a, n, c, rfl⟩ := okWide_slice Go.Proofs.Try.underlying25 hv
  obtain ⟨x, _, hr⟩ := rd_ints.one rfl h
  exact ⟨x.1, x.2, hr⟩
theorem u8s_arg {r : Reach} {b0 : Nat} {v : Value} {d : DataW H} {ps : List MemPlace} (hv : Value.okWide Go.Proofs.Try.prog w r b0 57 v) (h : DataW.Trod enc Go.Proofs.Try.prog w 0 (fun _ => true) true 57 v d ps) :
    ∃ (m : Nat) (u : Nat → Int), (∀ i, i < m → 0 ≤ u i ∧ u i ≤ 255) ∧ Rep noR noN (Gin w) w (.arr false false m 1 (fun i _ => .val (.int .u8 (u i)))) v := by
  obtain ⟨a, n, c, rfl⟩ := okWide_slice Go.Proofs.Try.underlying57 hv
  obtain ⟨x, hx, hr⟩ := rd_u8s.one rfl h
  exact ⟨x.1, x.2, fun i hi => hx.2 i hi, hr⟩
theorem int_arg {t : TypeId} {k : IntKind} (ht : Go.Proofs.Try.prog.underlying t = some (.int k)) {r : Reach} {b0 : Nat} {v : Value} {d : DataW H} {ps : List MemPlace} (hv : Value.okWide Go.Proofs.Try.prog w r b0 t v) (h : DataW.Trod enc Go.Proofs.Try.prog w 0 (fun _ => true) true t v d ps) :
    ∃ n : Int, InK k n ∧ Rep noR noN (Gin w) w (.val (.int k n)) v := by
  obtain ⟨n, rfl⟩ := okWide_int ht hv
  obtain ⟨m, hm, hr⟩ := (Rd.int ht).one rfl h
  cases hr
  exact ⟨n, hm, .val _⟩
theorem pools_arg {r : Reach} {b0 : Nat} {v : Value} {d : DataW H} {ps : List MemPlace} (hv : Value.okWide Go.Proofs.Try.prog w r b0 52 v) (h : DataW.Trod enc Go.Proofs.Try.prog w 0 (fun _ => true) true 52 v d ps) :
    ∃ (m : Nat) (P : Nat → Pool), Rep noR noN (Gin w) w (pools m P) v := by
  obtain ⟨a, n, c, rfl⟩ := okWide_slice Go.Proofs.Try.underlying52 hv
  have : Inhabited Pool := ⟨⟨0, fun _ => 0, fun _ => 0, 0, 0, 0, 0⟩⟩
  obtain ⟨x, _, hr⟩ := (Rd.slice Go.Proofs.Try.underlying52 ce24 (by omega) rd_pool).one rfl h
  exact ⟨x.1, x.2, hr⟩
theorem ce66 : Go.Proofs.Try.prog.cellsOf 66 = 2 * 1 := by kernel_rfl
theorem arr2_arg {r : Reach} {b0 : Nat} {v : Value} {d : DataW H} {ps : List MemPlace} (hv : Value.okWide Go.Proofs.Try.prog w r b0 66 v) (h : DataW.Trod enc Go.Proofs.Try.prog w 0 (fun _ => true) true 66 v d ps) :
    ∃ u : Nat → Int, (∀ i, i < 2 → 0 ≤ u i ∧ u i ≤ 255) ∧ Rep noR noN (Gin w) w (.agg [.val (.int .u8 (u 0)), .val (.int .u8 (u 1))]) v := by
  simp only [Value.okWide, Go.Proofs.Try.underlying66] at hv
  obtain ⟨cs, e, _⟩ := hv
  obtain ⟨x, hx, hr⟩ := (Rd.array Go.Proofs.Try.underlying66 ce5 (by omega) ce66 (Rd.int Go.Proofs.Try.underlying5)).agg e h
  exact ⟨x, fun i hi => hx i hi, hr⟩
end
end Go.Po
end
