/- A part of the proof. -/
import Derived.Test.YtnpannhbeapidaaEE
import Derived.Test.YtnpannhbeapidaaLA
section
set_option linter.unusedVariables false
set_option linter.unusedSimpArgs false
set_option maxRecDepth 100000
namespace Go.Lg
open Go.Sx Go.RowKit Go.ChangeShapes Go.WideShapes Go.ChangeAt
theorem lo : laidOutB Go.Proofs.Try.prog = true := by kernel_rfl
theorem ce2 : Go.Proofs.Try.prog.cellsOf 2 = 1 := by kernel_rfl
theorem ce5 : Go.Proofs.Try.prog.cellsOf 5 = 1 := by kernel_rfl
theorem ce22 : Go.Proofs.Try.prog.cellsOf 22 = 1 := by kernel_rfl
section
variable {H : Type} {enc : TypeId × Value → H} {w : World}
theorem rd_i64 : Rd enc Go.Proofs.Try.prog w 2 1 (fun n : Int => InK .i64 n) (fun n _ => .val (.int .i64 n)) := Rd.int Go.Proofs.Try.underlying2
theorem rd_curve : Rd enc Go.Proofs.Try.prog w 22 1 (fun c : Curve => c.m ≤ maxLen) (fun c _ => c.sv) :=
  (Rd.slice Go.Proofs.Try.underlying22 ce2 (by omega) rd_i64).map (fun x => (⟨x.1, x.2⟩ : Curve)) (fun a ha => ⟨ha.1, fun j hj => rfl⟩)
theorem curve_arg {r : Reach} {b0 : Nat} {v : Value} {d : DataW H} {ps : List MemPlace} (hv : Value.okWide Go.Proofs.Try.prog w r b0 22 v) (h : DataW.Trod enc Go.Proofs.Try.prog w 0 (fun _ => true) true 22 v d ps) :
    ∃ c : Curve, Rep noR noN (Gin w) w c.sv v := by
  obtain ⟨a, n, c, rfl⟩ := okWide_slice Go.Proofs.Try.underlying22 hv
  obtain ⟨x, _, hr⟩ := rd_curve.one rfl h
  exact ⟨x, hr⟩
theorem chn_arg {r : Reach} {b0 : Nat} {v : Value} {d : DataW H} {ps : List MemPlace} (hv : Value.okWide Go.Proofs.Try.prog w r b0 23 v) (h : DataW.Trod enc Go.Proofs.Try.prog w 0 (fun _ => true) true 23 v d ps) :
    ∃ (n : Nat) (C : Nat → Curve), Rep noR noN (Gin w) w (chn n C) v := by
  obtain ⟨a, n, c, rfl⟩ := okWide_slice Go.Proofs.Try.underlying23 hv
  have : Inhabited Curve := ⟨⟨0, fun _ => 0⟩⟩
  obtain ⟨x, _, hr⟩ := (Rd.slice Go.Proofs.Try.underlying23 ce22 (by omega) rd_curve).one rfl h
  exact ⟨x.1, x.2, hr⟩
theorem u8s_arg {r : Reach} {b0 : Nat} {v : Value} {d : DataW H} {ps : List MemPlace} (hv : Value.okWide Go.Proofs.Try.prog w r b0 51 v) (h : DataW.Trod enc Go.Proofs.Try.prog w 0 (fun _ => true) true 51 v d ps) :
    ∃ (m : Nat) (u : Nat → Int), (∀ i, i < m → 0 ≤ u i ∧ u i ≤ 255) ∧ Rep noR noN (Gin w) w (.arr false false m 1 (fun i _ => .val (.int .u8 (u i)))) v := by
  obtain ⟨a, n, c, rfl⟩ := okWide_slice Go.Proofs.Try.underlying51 hv
  obtain ⟨x, hx, hr⟩ := (Rd.slice (α := Int) Go.Proofs.Try.underlying51 ce5 (by omega) (Rd.int Go.Proofs.Try.underlying5)).one rfl h
  exact ⟨x.1, x.2, fun i hi => hx.2 i hi, hr⟩
theorem int_arg {r : Reach} {b0 : Nat} {v : Value} {d : DataW H} {ps : List MemPlace} (hv : Value.okWide Go.Proofs.Try.prog w r b0 3 v) (h : DataW.Trod enc Go.Proofs.Try.prog w 0 (fun _ => true) true 3 v d ps) :
    ∃ n : Int, Rep noR noN (Gin w) w (I n) v := by
  obtain ⟨n, rfl⟩ := okWide_int Go.Proofs.Try.underlying3 hv
  obtain ⟨m, hm, hr⟩ := (Rd.int Go.Proofs.Try.underlying3).one rfl h
  cases hr
  exact ⟨n, .val _⟩
theorem u8_arg {r : Reach} {b0 : Nat} {v : Value} {d : DataW H} {ps : List MemPlace} (hv : Value.okWide Go.Proofs.Try.prog w r b0 5 v) (h : DataW.Trod enc Go.Proofs.Try.prog w 0 (fun _ => true) true 5 v d ps) :
    ∃ n : Nat, n ≤ 255 ∧ Rep noR noN (Gin w) w (.val (.int .u8 n)) v := by
  obtain ⟨n, rfl⟩ := okWide_int Go.Proofs.Try.underlying5 hv
  obtain ⟨m, hm, hr⟩ := (Rd.int Go.Proofs.Try.underlying5).one rfl h
  cases hr
  obtain ⟨h1, h2⟩ := hm
  obtain ⟨k, rfl⟩ : ∃ k : Nat, n = k := ⟨n.toNat, by omega⟩
  exact ⟨k, by omega, .val _⟩
theorem bool_arg {r : Reach} {b0 : Nat} {v : Value} {d : DataW H} {ps : List MemPlace} (hv : Value.okWide Go.Proofs.Try.prog w r b0 4 v) (h : DataW.Trod enc Go.Proofs.Try.prog w 0 (fun _ => true) true 4 v d ps) :
    ∃ b : Bool, Rep noR noN (Gin w) w (B b) v := by
  obtain ⟨b, rfl⟩ := okWide_bool Go.Proofs.Try.underlying4 hv
  obtain ⟨x, _, hr⟩ := (Rd.bool Go.Proofs.Try.underlying4).one rfl h
  exact ⟨x, hr⟩
theorem ce69 : Go.Proofs.Try.prog.cellsOf 69 = 2 * 1 := by kernel_rfl
theorem arr2_arg {r : Reach} {b0 : Nat} {v : Value} {d : DataW H} {ps : List MemPlace} (hv : Value.okWide Go.Proofs.Try.prog w r b0 69 v) (h : DataW.Trod enc Go.Proofs.Try.prog w 0 (fun _ => true) true 69 v d ps) :
    ∃ a b : Nat, a ≤ 255 ∧ b ≤ 255 ∧ Rep noR noN (Gin w) w (.agg [.val (.int .u8 a), .val (.int .u8 b)]) v := by
  simp only [Value.okWide, Go.Proofs.Try.underlying69] at hv
  obtain ⟨cs, e, _⟩ := hv
  obtain ⟨x, hx, hr⟩ := (Rd.array Go.Proofs.Try.underlying69 ce5 (by omega) ce69 (Rd.int Go.Proofs.Try.underlying5)).agg e h
  have h0 := hx 0 (by omega)
  have h1 := hx 1 (by omega)
  obtain ⟨l0, l1⟩ := h0
  obtain ⟨k0, k1⟩ := h1
  refine ⟨(x 0).toNat, (x 1).toNat, by omega, by omega, ?_⟩
  rw [Int.toNat_of_nonneg l0, Int.toNat_of_nonneg k0]
  exact hr
end
end Go.Lg
end
