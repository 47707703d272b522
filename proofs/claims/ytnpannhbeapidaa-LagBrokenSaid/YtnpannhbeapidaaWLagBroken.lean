/- A part of the proof. -/
import Derived.Test.YtnpannhbeapidaaLJ
section
set_option linter.unusedSimpArgs false
set_option linter.unusedVariables false
set_option linter.defProp false
set_option maxRecDepth 100000
set_option maxHeartbeats 16000000
namespace Go.Lg
open Go.Sx
def brR (c : Curve) (b : Nat → Int) (i : Nat) : Int := (b i).tmod (c.u 0 + 2)
def brS (c : Curve) (b : Nat → Int) (p : Nat) (l : Nat → Int) (i : Nat) : Int := if 0 < p then brR c b i - min (brR c b i) ((l (i % p)).tmod 3) else brR c b i
theorem brR_rg (c : Curve) (hc : c.Fine) (b : Nat → Int) (i : Nat) (hb : 0 ≤ b i) : 0 ≤ brR c b i ∧ brR c b i ≤ 101 := by
  have h := hc.rg 0 hc.m1
  have h1 := Int.tmod_nonneg (c.u 0 + 2) hb
  have h2 := Int.tmod_lt_of_pos (b i) (show 0 < c.u 0 + 2 by omega)
  unfold brR; omega
theorem brS_rg (c : Curve) (hc : c.Fine) (b : Nat → Int) (p : Nat) (l : Nat → Int) (hl : ∀ j, j < p → 0 ≤ l j) (i : Nat) (hb : 0 ≤ b i) : 0 ≤ brS c b p l i ∧ brS c b p l i ≤ brR c b i := by
  have h := brR_rg c hc b i hb
  unfold brS
  split
  · rename_i hp
    have h1 := Int.tmod_nonneg 3 (hl (i % p) (Nat.mod_lt _ hp))
    omega
  · omega
theorem break_err {c a : Curve} (hc : c.Fine) (ha : Row a) : (breakV c a).2.2 = 5 ∨ (breakV c a).2.2 = 0 := by
  unfold breakV
  rw [if_pos (Curve.err_fine hc), if_pos (row_rErr ha)]
  unfold brkV
  split
  · exact .inl rfl
  · exact .inr rfl
def stB (c : Curve) (n : Nat) (b : Nat → Int) (p : Nat) (l : Nat → Int) (r s : Nat → Int) : Option Nat → St
  | some i => ⟨[(0, .arr false false c.m 1 (fun i _ => .val (.int .i64 (c.u i)))), (1, .arr false false n 1 (fun i _ => .val (.int .u8 (b i)))), (2, .arr false false p 1 (fun i _ => .val (.int .u8 (l i)))), (7, .vec 60 i 1), (8, .vec 61 i 1), (9, .val (.int .i64 i))], [(60, .rows 2 1 i (fun j _ => .val (.int .i64 (r j)))), (61, .rows 2 1 i (fun j _ => .val (.int .i64 (s j))))], 62⟩
  | none => ⟨[(0, .arr false false c.m 1 (fun i _ => .val (.int .i64 (c.u i)))), (1, .arr false false n 1 (fun i _ => .val (.int .u8 (b i)))), (7, .arr true false n 1 (fun i _ => .val (.int .i64 (r i)))), (8, .arr true false n 1 (fun i _ => .val (.int .i64 (s i)))), (9, .val (.int .i64 n))], [], 62⟩
theorem c10 (hw : Wk19) (c : Curve) (n : Nat) (b : Nat → Int) (hb : ∀ i, i < n → 0 ≤ b i ∧ b i ≤ 255) (p : Nat) (l : Nat → Int) (hl : ∀ i, i < p → 0 ≤ l i ∧ l i ≤ 255) : Contract Go.Proofs.Try.prog 10 [c.sv, u8s n b, u8s p l] (B true) := by
  refine contract_of Go.Proofs.Try.func10 rfl (by kernel_rfl) follows (by kernel_rfl) _ _ (by rw [Go.Proofs.Try.ntmps10]; simp) (by simp only [OldL, c.old, u8s_old, and_self, and_true, true_and]) ?_
  unfold B
  conv => arg 4; unfold Curve.sv ints u8s
  (repeat' (first | with_reducible refine splitVC_d (fun _ => ?_) (fun _ => ?_) | ((with_reducible refine And.intro ?_ ?_); focus (first | trivial | (simp only [InK]; omega) | omega | (simp only [InK, ne_eq, and_true, true_and]; omega))) | simp -dsimp only [↓RP, RQ0, RQ1, RQ2, RQ3, implies_true, forall_const, Nat.reduceMul, reduceIte, reduceCtorEq, Nat.reduceAdd, Nat.reduceEqDiff, Nat.reduceLT, Nat.reduceLeDiff, tup3, B, I, by2, ty5, ty51, decide_true, decide_false, Bool.not_true, Bool.not_false, eq_self, and_self, Nat.zero_add, Int.toNat_natCast, TY, Go.Proofs.Try.results10]))
  refine callVC (c51 c) (by (simp -dsimp only [↓RP, RQ0, RQ1, RQ2, RQ3, implies_true, forall_const, Nat.reduceMul, reduceIte, reduceCtorEq, Nat.reduceAdd, Nat.reduceEqDiff, Nat.reduceLT, Nat.reduceLeDiff, Curve.sv, ints, I, B]); all_goals (try simp)) (by (simp -dsimp only [↓RP, RQ0, RQ1, RQ2, RQ3, implies_true, forall_const, Nat.reduceMul, reduceIte, reduceCtorEq, Nat.reduceAdd, Nat.reduceEqDiff, Nat.reduceLT, Nat.reduceLeDiff, B])) ?_
  (repeat' (first | with_reducible refine splitVC_d (fun _ => ?_) (fun _ => ?_) | ((with_reducible refine And.intro ?_ ?_); focus (first | trivial | (simp only [InK]; omega) | omega | (simp only [InK, ne_eq, and_true, true_and]; omega))) | simp -dsimp only [↓RP, RQ0, RQ1, RQ2, RQ3, implies_true, forall_const, Nat.reduceMul, reduceIte, reduceCtorEq, Nat.reduceAdd, Nat.reduceEqDiff, Nat.reduceLT, Nat.reduceLeDiff, tup3, B, I, by2, ty5, ty51, decide_true, decide_false, Bool.not_true, Bool.not_false, eq_self, and_self, Nat.zero_add, Int.toNat_natCast, TY, Go.Proofs.Try.results10]))
  all_goals first | (refine callVC hw (by (simp -dsimp only [↓RP, RQ0, RQ1, RQ2, RQ3, implies_true, forall_const, Nat.reduceMul, reduceIte, reduceCtorEq, Nat.reduceAdd, Nat.reduceEqDiff, Nat.reduceLT, Nat.reduceLeDiff])) (by (simp -dsimp only [↓RP, RQ0, RQ1, RQ2, RQ3, implies_true, forall_const, Nat.reduceMul, reduceIte, reduceCtorEq, Nat.reduceAdd, Nat.reduceEqDiff, Nat.reduceLT, Nat.reduceLeDiff, B])) ?_; (repeat' (first | with_reducible refine splitVC_d (fun _ => ?_) (fun _ => ?_) | ((with_reducible refine And.intro ?_ ?_); focus (first | trivial | (simp only [InK]; omega) | omega | (simp only [InK, ne_eq, and_true, true_and]; omega))) | simp -dsimp only [↓RP, RQ0, RQ1, RQ2, RQ3, implies_true, forall_const, Nat.reduceMul, reduceIte, reduceCtorEq, Nat.reduceAdd, Nat.reduceEqDiff, Nat.reduceLT, Nat.reduceLeDiff, tup3, B, I, by2, ty5, ty51, decide_true, decide_false, Bool.not_true, Bool.not_false, eq_self, and_self, Nat.zero_add, Int.toNat_natCast, TY, Go.Proofs.Try.results10])); done) | skip
  rename_i h1 h2
  have hc := Curve.fine h1
  have hm6 := hc.m6
  have hm1 := hc.m1
  have hu0 := hc.rg 0 hm1
  have rr := fun i (hi : i < n) => brR_rg c hc b i (hb i hi).1
  have rs := fun i (hi : i < n) => brS_rg c hc b p l (fun j hj => (hl j hj).1) i (hb i hi).1
  have er : ∀ i, (b i).tmod (c.u 0 + 2) = brR c b i := fun i => rfl
  have es : ∀ i, brS c b p l i = if 0 < p then brR c b i - min (brR c b i) ((l (i % p)).tmod 3) else brR c b i := fun i => rfl
  have n20 : n ≤ 20 := by omega
  have ra : Row ⟨n, brR c b⟩ := ⟨by show n ≤ 60; omega, fun i hi => by have h := rr i hi; show 0 ≤ brR c b i ∧ brR c b i ≤ 10000; omega⟩
  have rs' : Row ⟨n, brS c b p l⟩ := ⟨by show n ≤ 60; omega, fun i hi => by have h := rr i hi; have h' := rs i hi; show 0 ≤ brS c b p l i ∧ brS c b p l i ≤ 10000; omega⟩
  generalize hR : brR c b = r at *
  generalize hSS : brS c b p l = s at *
  refine loop_vc (fun (x : Option Nat) => match x with | some i => i < n | none => True) (stB c n b p l r s) (fun x => match x with | some i => n - i + 1 | none => 0) (if 0 < n then some 0 else none) (by
    by_cases h0 : 0 < n
    · rw [if_pos h0]; exact h0
    · rw [if_neg h0]; trivial) ?_ fun x hx => ?_
  · by_cases h0 : 0 < n
    · rw [if_pos h0]
      refine weak [(60, none), (61, none)] [] ?_ ?_ ?_
      · (simp -dsimp only [↓RP, RQ0, RQ1, RQ2, RQ3, implies_true, forall_const, Nat.reduceMul, reduceIte, reduceCtorEq, Nat.reduceAdd, Nat.reduceEqDiff, Nat.reduceLT, Nat.reduceLeDiff, stB]); all_goals simp
      · (simp -dsimp only [↓RP, RQ0, RQ1, RQ2, RQ3, implies_true, forall_const, Nat.reduceMul, reduceIte, reduceCtorEq, Nat.reduceAdd, Nat.reduceEqDiff, Nat.reduceLT, Nat.reduceLeDiff, stB]); all_goals (try simp)
      · (simp -dsimp only [↓RP, RQ0, RQ1, RQ2, RQ3, implies_true, forall_const, Nat.reduceMul, reduceIte, reduceCtorEq, Nat.reduceAdd, Nat.reduceEqDiff, Nat.reduceLT, Nat.reduceLeDiff, stB]); all_goals simp
    · rw [if_neg h0]
      have : n = 0 := by omega
      subst this
      refine weak [] [] ?_ ?_ ?_
      · (simp -dsimp only [↓RP, RQ0, RQ1, RQ2, RQ3, implies_true, forall_const, Nat.reduceMul, reduceIte, reduceCtorEq, Nat.reduceAdd, Nat.reduceEqDiff, Nat.reduceLT, Nat.reduceLeDiff, stB]); all_goals simp
      · (simp -dsimp only [↓RP, RQ0, RQ1, RQ2, RQ3, implies_true, forall_const, Nat.reduceMul, reduceIte, reduceCtorEq, Nat.reduceAdd, Nat.reduceEqDiff, Nat.reduceLT, Nat.reduceLeDiff, stB]); all_goals (try simp)
      · (simp -dsimp only [↓RP, RQ0, RQ1, RQ2, RQ3, implies_true, forall_const, Nat.reduceMul, reduceIte, reduceCtorEq, Nat.reduceAdd, Nat.reduceEqDiff, Nat.reduceLT, Nat.reduceLeDiff, stB]); all_goals simp
  cases x with
  | some i =>
    have hi : i < n := hx
    have b0 := hb i hi
    have r0 := rr i hi
    have s0 := rs i hi
    have e1 := er i
    have e2 := es i
    by_cases hp0 : 0 < p
    · rw [if_pos hp0] at e2
      have hm := tmN i p
      have hml := Nat.mod_lt i hp0
      have l1 := hl (i % p) hml
      generalize i % p = z at *
      have t0 := Int.tmod_nonneg 3 l1.1
      have t1 := Int.tmod_lt_of_pos (l z) (show (0 : Int) < 3 by omega)
      conv => arg 4; unfold stB
      (repeat' (first | with_reducible refine splitVC_d (fun _ => ?_) (fun _ => ?_) | ((with_reducible refine And.intro ?_ ?_); focus (first | trivial | (simp only [InK]; omega) | omega | (simp only [InK, ne_eq, and_true, true_and]; omega))) | simp -dsimp only [↓RP, RQ0, RQ1, RQ2, RQ3, implies_true, forall_const, Nat.reduceMul, reduceIte, reduceCtorEq, Nat.reduceAdd, Nat.reduceEqDiff, Nat.reduceLT, Nat.reduceLeDiff, e1, hm, tup3, B, I, by2, ty5, ty51, decide_true, decide_false, Bool.not_true, Bool.not_false, eq_self, and_self, Nat.zero_add, Int.toNat_natCast, TY, Go.Proofs.Try.results10]))
      all_goals first | (exfalso; omega) | skip
      refine ⟨⟨by simp, Nat.le_refl _, fun a b ha hb => by rw [lit1 _ a b ha hb]; rfl, by omega⟩, ?_⟩
      (repeat' (first | with_reducible refine splitVC_d (fun _ => ?_) (fun _ => ?_) | ((with_reducible refine And.intro ?_ ?_); focus (first | trivial | (simp only [InK]; omega) | omega | (simp only [InK, ne_eq, and_true, true_and]; omega))) | simp -dsimp only [↓RP, RQ0, RQ1, RQ2, RQ3, implies_true, forall_const, Nat.reduceMul, reduceIte, reduceCtorEq, Nat.reduceAdd, Nat.reduceEqDiff, Nat.reduceLT, Nat.reduceLeDiff, e1, hm, tup3, B, I, by2, ty5, ty51, decide_true, decide_false, Bool.not_true, Bool.not_false, eq_self, and_self, Nat.zero_add, Int.toNat_natCast, TY, Go.Proofs.Try.results10]))
      all_goals first | (exfalso; omega) | skip
      simp only [← e2]
      refine ⟨⟨by simp, Nat.le_refl _, fun a b ha hb => by rw [lit1 _ a b ha hb]; rfl, by omega⟩, by (first | trivial | (simp only [InK]; omega) | omega | (simp only [InK, ne_eq, and_true, true_and]; omega)), ?_⟩
      by_cases hl2 : i + 1 < n
      · refine ⟨some (i + 1), hl2, by show n - (i + 1) + 1 < n - i + 1; omega, weak [(60, some 80), (61, some 102)] [] ?_ ?_ ?_⟩
        · (simp -dsimp only [↓RP, RQ0, RQ1, RQ2, RQ3, implies_true, forall_const, Nat.reduceMul, reduceIte, reduceCtorEq, Nat.reduceAdd, Nat.reduceEqDiff, Nat.reduceLT, Nat.reduceLeDiff, stB]); all_goals (try simp)
        · (simp -dsimp only [↓RP, RQ0, RQ1, RQ2, RQ3, implies_true, forall_const, Nat.reduceMul, reduceIte, reduceCtorEq, Nat.reduceAdd, Nat.reduceEqDiff, Nat.reduceLT, Nat.reduceLeDiff, stB]); all_goals (try simp)
          exact ⟨fun a h1 h2 => app2 (fun j => .val (.int .i64 (r j))) i a h1 h2, fun a h1 h2 => by exact app2 (fun j => .val (.int .i64 (s j))) i a h1 h2⟩
        · (simp -dsimp only [↓RP, RQ0, RQ1, RQ2, RQ3, implies_true, forall_const, Nat.reduceMul, reduceIte, reduceCtorEq, Nat.reduceAdd, Nat.reduceEqDiff, Nat.reduceLT, Nat.reduceLeDiff]); all_goals simp
      · have hn1 : n = i + 1 := by omega
        subst hn1
        refine ⟨none, trivial, by show 0 < _; omega, weak [] [80, 102] ?_ ?_ ?_⟩
        · (simp -dsimp only [↓RP, RQ0, RQ1, RQ2, RQ3, implies_true, forall_const, Nat.reduceMul, reduceIte, reduceCtorEq, Nat.reduceAdd, Nat.reduceEqDiff, Nat.reduceLT, Nat.reduceLeDiff, stB]); all_goals (try simp)
          exact ⟨fun a h1 h2 => app2 (fun j => .val (.int .i64 (r j))) i a h1 h2, fun a h1 h2 => by exact app2 (fun j => .val (.int .i64 (s j))) i a h1 h2⟩
        · (simp -dsimp only [↓RP, RQ0, RQ1, RQ2, RQ3, implies_true, forall_const, Nat.reduceMul, reduceIte, reduceCtorEq, Nat.reduceAdd, Nat.reduceEqDiff, Nat.reduceLT, Nat.reduceLeDiff, stB]); all_goals (try simp)
        · (simp -dsimp only [↓RP, RQ0, RQ1, RQ2, RQ3, implies_true, forall_const, Nat.reduceMul, reduceIte, reduceCtorEq, Nat.reduceAdd, Nat.reduceEqDiff, Nat.reduceLT, Nat.reduceLeDiff]); all_goals simp
    · rw [if_neg hp0] at e2
      conv => arg 4; unfold stB
      (repeat' (first | with_reducible refine splitVC_d (fun _ => ?_) (fun _ => ?_) | ((with_reducible refine And.intro ?_ ?_); focus (first | trivial | (simp only [InK]; omega) | omega | (simp only [InK, ne_eq, and_true, true_and]; omega))) | simp -dsimp only [↓RP, RQ0, RQ1, RQ2, RQ3, implies_true, forall_const, Nat.reduceMul, reduceIte, reduceCtorEq, Nat.reduceAdd, Nat.reduceEqDiff, Nat.reduceLT, Nat.reduceLeDiff, e1, tup3, B, I, by2, ty5, ty51, decide_true, decide_false, Bool.not_true, Bool.not_false, eq_self, and_self, Nat.zero_add, Int.toNat_natCast, TY, Go.Proofs.Try.results10]))
      all_goals first | (exfalso; omega) | skip
      refine ⟨⟨by simp, Nat.le_refl _, fun a b ha hb => by rw [lit1 _ a b ha hb]; rfl, by omega⟩, ?_⟩
      (repeat' (first | with_reducible refine splitVC_d (fun _ => ?_) (fun _ => ?_) | ((with_reducible refine And.intro ?_ ?_); focus (first | trivial | (simp only [InK]; omega) | omega | (simp only [InK, ne_eq, and_true, true_and]; omega))) | simp -dsimp only [↓RP, RQ0, RQ1, RQ2, RQ3, implies_true, forall_const, Nat.reduceMul, reduceIte, reduceCtorEq, Nat.reduceAdd, Nat.reduceEqDiff, Nat.reduceLT, Nat.reduceLeDiff, e1, tup3, B, I, by2, ty5, ty51, decide_true, decide_false, Bool.not_true, Bool.not_false, eq_self, and_self, Nat.zero_add, Int.toNat_natCast, TY, Go.Proofs.Try.results10]))
      all_goals first | (exfalso; omega) | skip
      refine ⟨⟨by simp, Nat.le_refl _, fun a b ha hb => by rw [lit1 _ a b ha hb]; rfl, by omega⟩, by (first | trivial | (simp only [InK]; omega) | omega | (simp only [InK, ne_eq, and_true, true_and]; omega)), ?_⟩
      by_cases hl2 : i + 1 < n
      · refine ⟨some (i + 1), hl2, by show n - (i + 1) + 1 < n - i + 1; omega, weak [(60, some 80), (61, some 88)] [] ?_ ?_ ?_⟩
        · (simp -dsimp only [↓RP, RQ0, RQ1, RQ2, RQ3, implies_true, forall_const, Nat.reduceMul, reduceIte, reduceCtorEq, Nat.reduceAdd, Nat.reduceEqDiff, Nat.reduceLT, Nat.reduceLeDiff, stB]); all_goals (try simp)
        · (simp -dsimp only [↓RP, RQ0, RQ1, RQ2, RQ3, implies_true, forall_const, Nat.reduceMul, reduceIte, reduceCtorEq, Nat.reduceAdd, Nat.reduceEqDiff, Nat.reduceLT, Nat.reduceLeDiff, stB]); all_goals (try simp)
          exact ⟨fun a h1 h2 => app2 (fun j => .val (.int .i64 (r j))) i a h1 h2, fun a h1 h2 => by rw [← e2]; exact app2 (fun j => .val (.int .i64 (s j))) i a h1 h2⟩
        · (simp -dsimp only [↓RP, RQ0, RQ1, RQ2, RQ3, implies_true, forall_const, Nat.reduceMul, reduceIte, reduceCtorEq, Nat.reduceAdd, Nat.reduceEqDiff, Nat.reduceLT, Nat.reduceLeDiff]); all_goals simp
      · have hn1 : n = i + 1 := by omega
        subst hn1
        refine ⟨none, trivial, by show 0 < _; omega, weak [] [80, 88] ?_ ?_ ?_⟩
        · (simp -dsimp only [↓RP, RQ0, RQ1, RQ2, RQ3, implies_true, forall_const, Nat.reduceMul, reduceIte, reduceCtorEq, Nat.reduceAdd, Nat.reduceEqDiff, Nat.reduceLT, Nat.reduceLeDiff, stB]); all_goals (try simp)
          exact ⟨fun a h1 h2 => app2 (fun j => .val (.int .i64 (r j))) i a h1 h2, fun a h1 h2 => by rw [← e2]; exact app2 (fun j => .val (.int .i64 (s j))) i a h1 h2⟩
        · (simp -dsimp only [↓RP, RQ0, RQ1, RQ2, RQ3, implies_true, forall_const, Nat.reduceMul, reduceIte, reduceCtorEq, Nat.reduceAdd, Nat.reduceEqDiff, Nat.reduceLT, Nat.reduceLeDiff, stB]); all_goals (try simp)
        · (simp -dsimp only [↓RP, RQ0, RQ1, RQ2, RQ3, implies_true, forall_const, Nat.reduceMul, reduceIte, reduceCtorEq, Nat.reduceAdd, Nat.reduceEqDiff, Nat.reduceLT, Nat.reduceLeDiff]); all_goals simp
  | none =>
    conv => arg 4; unfold stB
    (repeat' (first | with_reducible refine splitVC_d (fun _ => ?_) (fun _ => ?_) | ((with_reducible refine And.intro ?_ ?_); focus (first | trivial | (simp only [InK]; omega) | omega | (simp only [InK, ne_eq, and_true, true_and]; omega))) | simp -dsimp only [↓RP, RQ0, RQ1, RQ2, RQ3, implies_true, forall_const, Nat.reduceMul, reduceIte, reduceCtorEq, Nat.reduceAdd, Nat.reduceEqDiff, Nat.reduceLT, Nat.reduceLeDiff, tup3, B, I, by2, ty5, ty51, decide_true, decide_false, Bool.not_true, Bool.not_false, eq_self, and_self, Nat.zero_add, Int.toNat_natCast, TY, Go.Proofs.Try.results10]))
    all_goals first | (exfalso; omega) | skip
    rcases brkF_spec c ⟨n, r⟩ n 0 (by show 0 + n = n; omega) with ⟨e0, hno⟩ | ⟨g1, g2, g3, g4, g5, g6⟩
    · have hA : breakV c ⟨n, r⟩ = (0, 0, 5) := by
        unfold breakV
        rw [if_pos (Curve.err_fine hc), if_pos (row_rErr ra), show brkF c ⟨n, r⟩ 0 (Curve.mk n r).m = (0, 0) from e0]; rfl
      have hB : breakV c ⟨n, s⟩ = (0, 0, 5) := break_none hc rs' fun t k h1 h2 => by
        have q1 := of_decide_eq_false (hno t (Nat.zero_le _) k h1 h2)
        have q2 := sum_add s t k
        have q3 := sum_add r t k
        have q4 := sum_le (fun j => s (t + j)) (fun j => r (t + j)) k (fun j hj => (rs (t + j) (by have : t + k ≤ n := h2; omega)).2)
        show sumTo s (t + k) - sumTo s t ≤ c.M k
        have q1 : ¬ c.M k < sumTo r (t + k) - sumTo r t := q1
        omega
      refine callVC (m29 c ⟨n, r⟩ hc ra hA) (by (simp -dsimp only [↓RP, RQ0, RQ1, RQ2, RQ3, implies_true, forall_const, Nat.reduceMul, reduceIte, reduceCtorEq, Nat.reduceAdd, Nat.reduceEqDiff, Nat.reduceLT, Nat.reduceLeDiff, Curve.sv, ints, I, B]); all_goals (try simp)) (by (simp -dsimp only [↓RP, RQ0, RQ1, RQ2, RQ3, implies_true, forall_const, Nat.reduceMul, reduceIte, reduceCtorEq, Nat.reduceAdd, Nat.reduceEqDiff, Nat.reduceLT, Nat.reduceLeDiff, I])) ?_
      (repeat' (first | with_reducible refine splitVC_d (fun _ => ?_) (fun _ => ?_) | ((with_reducible refine And.intro ?_ ?_); focus (first | trivial | (simp only [InK]; omega) | omega | (simp only [InK, ne_eq, and_true, true_and]; omega))) | simp -dsimp only [↓RP, RQ0, RQ1, RQ2, RQ3, implies_true, forall_const, Nat.reduceMul, reduceIte, reduceCtorEq, Nat.reduceAdd, Nat.reduceEqDiff, Nat.reduceLT, Nat.reduceLeDiff, tup3, B, I, by2, ty5, ty51, decide_true, decide_false, Bool.not_true, Bool.not_false, eq_self, and_self, Nat.zero_add, Int.toNat_natCast, TY, Go.Proofs.Try.results10]))
      refine callVC (m29 c ⟨n, s⟩ hc rs' hB) (by (simp -dsimp only [↓RP, RQ0, RQ1, RQ2, RQ3, implies_true, forall_const, Nat.reduceMul, reduceIte, reduceCtorEq, Nat.reduceAdd, Nat.reduceEqDiff, Nat.reduceLT, Nat.reduceLeDiff, Curve.sv, ints, I, B]); all_goals (try simp)) (by (simp -dsimp only [↓RP, RQ0, RQ1, RQ2, RQ3, implies_true, forall_const, Nat.reduceMul, reduceIte, reduceCtorEq, Nat.reduceAdd, Nat.reduceEqDiff, Nat.reduceLT, Nat.reduceLeDiff, I])) ?_
      (repeat' (first | with_reducible refine splitVC_d (fun _ => ?_) (fun _ => ?_) | ((with_reducible refine And.intro ?_ ?_); focus (first | trivial | (simp only [InK]; omega) | omega | (simp only [InK, ne_eq, and_true, true_and]; omega))) | simp -dsimp only [↓RP, RQ0, RQ1, RQ2, RQ3, implies_true, forall_const, Nat.reduceMul, reduceIte, reduceCtorEq, Nat.reduceAdd, Nat.reduceEqDiff, Nat.reduceLT, Nat.reduceLeDiff, tup3, B, I, by2, ty5, ty51, decide_true, decide_false, Bool.not_true, Bool.not_false, eq_self, and_self, Nat.zero_add, Int.toNat_natCast, TY, Go.Proofs.Try.results10]))
      refine callVC hw (by (simp -dsimp only [↓RP, RQ0, RQ1, RQ2, RQ3, implies_true, forall_const, Nat.reduceMul, reduceIte, reduceCtorEq, Nat.reduceAdd, Nat.reduceEqDiff, Nat.reduceLT, Nat.reduceLeDiff])) (by (simp -dsimp only [↓RP, RQ0, RQ1, RQ2, RQ3, implies_true, forall_const, Nat.reduceMul, reduceIte, reduceCtorEq, Nat.reduceAdd, Nat.reduceEqDiff, Nat.reduceLT, Nat.reduceLeDiff, B])) ?_
      (repeat' (first | with_reducible refine splitVC_d (fun _ => ?_) (fun _ => ?_) | ((with_reducible refine And.intro ?_ ?_); focus (first | trivial | (simp only [InK]; omega) | omega | (simp only [InK, ne_eq, and_true, true_and]; omega))) | simp -dsimp only [↓RP, RQ0, RQ1, RQ2, RQ3, implies_true, forall_const, Nat.reduceMul, reduceIte, reduceCtorEq, Nat.reduceAdd, Nat.reduceEqDiff, Nat.reduceLT, Nat.reduceLeDiff, tup3, B, I, by2, ty5, ty51, decide_true, decide_false, Bool.not_true, Bool.not_false, eq_self, and_self, Nat.zero_add, Int.toNat_natCast, TY, Go.Proofs.Try.results10]))
    · have hA : breakV c ⟨n, r⟩ = (((brkF c ⟨n, r⟩ 0 n).1 : Int), ((brkF c ⟨n, r⟩ 0 n).2 : Int), 0) := by
        unfold breakV
        rw [if_pos (Curve.err_fine hc), if_pos (row_rErr ra)]
        show brkV (brkF c ⟨n, r⟩ 0 n) = _
        unfold brkV
        rw [if_neg (by omega)]
      generalize (brkF c ⟨n, r⟩ 0 n).1 = F at *
      generalize (brkF c ⟨n, r⟩ 0 n).2 = k at *
      have h29 := c29 c ⟨n, r⟩ (by omega) (by show n ≤ _; omega)
      rw [hA] at h29
      have h29s := c29 c ⟨n, s⟩ (by omega) (by show n ≤ _; omega)
      generalize breakV c ⟨n, s⟩ = vs at h29s
      obtain ⟨vs1, vs2, vs3⟩ := vs
      refine callVC h29 (by (simp -dsimp only [↓RP, RQ0, RQ1, RQ2, RQ3, implies_true, forall_const, Nat.reduceMul, reduceIte, reduceCtorEq, Nat.reduceAdd, Nat.reduceEqDiff, Nat.reduceLT, Nat.reduceLeDiff, Curve.sv, ints, I, B]); all_goals (try simp)) (by (simp -dsimp only [↓RP, RQ0, RQ1, RQ2, RQ3, implies_true, forall_const, Nat.reduceMul, reduceIte, reduceCtorEq, Nat.reduceAdd, Nat.reduceEqDiff, Nat.reduceLT, Nat.reduceLeDiff, tup3, I])) ?_
      (repeat' (first | with_reducible refine splitVC_d (fun _ => ?_) (fun _ => ?_) | ((with_reducible refine And.intro ?_ ?_); focus (first | trivial | (simp only [InK]; omega) | omega | (simp only [InK, ne_eq, and_true, true_and]; omega))) | simp -dsimp only [↓RP, RQ0, RQ1, RQ2, RQ3, implies_true, forall_const, Nat.reduceMul, reduceIte, reduceCtorEq, Nat.reduceAdd, Nat.reduceEqDiff, Nat.reduceLT, Nat.reduceLeDiff, tup3, B, I, by2, ty5, ty51, decide_true, decide_false, Bool.not_true, Bool.not_false, eq_self, and_self, Nat.zero_add, Int.toNat_natCast, TY, Go.Proofs.Try.results10]))
      refine callVC h29s (by (simp -dsimp only [↓RP, RQ0, RQ1, RQ2, RQ3, implies_true, forall_const, Nat.reduceMul, reduceIte, reduceCtorEq, Nat.reduceAdd, Nat.reduceEqDiff, Nat.reduceLT, Nat.reduceLeDiff, Curve.sv, ints, I, B]); all_goals (try simp)) (by (simp -dsimp only [↓RP, RQ0, RQ1, RQ2, RQ3, implies_true, forall_const, Nat.reduceMul, reduceIte, reduceCtorEq, Nat.reduceAdd, Nat.reduceEqDiff, Nat.reduceLT, Nat.reduceLeDiff, tup3, I])) ?_
      (repeat' (first | with_reducible refine splitVC_d (fun _ => ?_) (fun _ => ?_) | ((with_reducible refine And.intro ?_ ?_); focus (first | trivial | (simp only [InK]; omega) | omega | (simp only [InK, ne_eq, and_true, true_and]; omega))) | simp -dsimp only [↓RP, RQ0, RQ1, RQ2, RQ3, implies_true, forall_const, Nat.reduceMul, reduceIte, reduceCtorEq, Nat.reduceAdd, Nat.reduceEqDiff, Nat.reduceLT, Nat.reduceLeDiff, tup3, B, I, by2, ty5, ty51, decide_true, decide_false, Bool.not_true, Bool.not_false, eq_self, and_self, Nat.zero_add, Int.toNat_natCast, TY, Go.Proofs.Try.results10]))
      all_goals first | (exfalso; omega) | skip
      have g3 : F + k ≤ n := g3
      refine ⟨by (first | trivial | (simp only [InK]; omega) | omega | (simp only [InK, ne_eq, and_true, true_and]; omega)), ?_⟩
      have f1 : (F : Int) + k = ((F + k : Nat) : Int) := by omega
      have f2 : ((F + k : Nat) : Int) - 1 = ((F + k - 1 : Nat) : Int) := by omega
      have f3 : ((F + k : Nat) : Int) - (F : Int) = (k : Int) := by omega
      have f4 : ((F + k - 1 : Nat) : Int) - (F : Int) = ((k - 1 : Nat) : Int) := by omega
      have f5 : (k : Int) - 1 = ((k - 1 : Nat) : Int) := by omega
      have q1 := of_decide_eq_true g4
      have q1 : c.M k < sumTo r (F + k) - sumTo r F := q1
      have q2 := sum_add r F k
      have q3 := sum_add r F (k - 1)
      have q4 : sumTo (fun j => r (F + j)) (k - 1) ≤ c.M (k - 1) := by
        by_cases hk : k = 1
        · subst hk; exact Int.le_refl _
        · have q5 := of_decide_eq_false (g5 (k - 1) (by omega) (by omega))
          have q5 : ¬ c.M (k - 1) < sumTo r (F + (k - 1)) - sumTo r F := q5
          omega
      have b3 := sumTo_bound (fun j => r (F + j)) 101 k (fun j hj => rr (F + j) (by omega)) k (Nat.le_refl _)
      have b4 := sumTo_bound (fun j => r (F + j)) 101 k (fun j hj => rr (F + j) (by omega)) (k - 1) (by omega)
      have bM := M_bound hc k
      have bM1 := M_bound hc (k - 1)
      (repeat' (first | with_reducible refine splitVC_d (fun _ => ?_) (fun _ => ?_) | ((with_reducible refine And.intro ?_ ?_); focus (first | trivial | (simp only [InK]; omega) | omega | (simp only [InK, ne_eq, and_true, true_and]; omega))) | simp -dsimp only [↓RP, RQ0, RQ1, RQ2, RQ3, implies_true, forall_const, Nat.reduceMul, reduceIte, reduceCtorEq, Nat.reduceAdd, Nat.reduceEqDiff, Nat.reduceLT, Nat.reduceLeDiff, f1, f2, f3, f4, f5, tup3, B, I, by2, ty5, ty51, decide_true, decide_false, Bool.not_true, Bool.not_false, eq_self, and_self, Nat.zero_add, Int.toNat_natCast, TY, Go.Proofs.Try.results10]))
      all_goals first | (exfalso; omega) | skip
      refine callVC (m20 c hc k (by omega)) (by (simp -dsimp only [↓RP, RQ0, RQ1, RQ2, RQ3, implies_true, forall_const, Nat.reduceMul, reduceIte, reduceCtorEq, Nat.reduceAdd, Nat.reduceEqDiff, Nat.reduceLT, Nat.reduceLeDiff, Curve.sv, ints, I, B]); all_goals (try simp)) (by (simp -dsimp only [↓RP, RQ0, RQ1, RQ2, RQ3, implies_true, forall_const, Nat.reduceMul, reduceIte, reduceCtorEq, Nat.reduceAdd, Nat.reduceEqDiff, Nat.reduceLT, Nat.reduceLeDiff, I])) ?_
      (repeat' (first | with_reducible refine splitVC_d (fun _ => ?_) (fun _ => ?_) | ((with_reducible refine And.intro ?_ ?_); focus (first | trivial | (simp only [InK]; omega) | omega | (simp only [InK, ne_eq, and_true, true_and]; omega))) | simp -dsimp only [↓RP, RQ0, RQ1, RQ2, RQ3, implies_true, forall_const, Nat.reduceMul, reduceIte, reduceCtorEq, Nat.reduceAdd, Nat.reduceEqDiff, Nat.reduceLT, Nat.reduceLeDiff, f1, f2, f3, f4, f5, tup3, B, I, by2, ty5, ty51, decide_true, decide_false, Bool.not_true, Bool.not_false, eq_self, and_self, Nat.zero_add, Int.toNat_natCast, TY, Go.Proofs.Try.results10]))
      all_goals first | (exfalso; omega) | skip
      have hr2 : Row ⟨F + k - 1, r⟩ := ⟨by show F + k - 1 ≤ 60; omega, fun i hi => ra.rg i (by have hi : i < F + k - 1 := hi; show i < n; omega)⟩
      have h29b := c29 c ⟨F + k - 1, r⟩ (by omega) (by show F + k - 1 ≤ _; omega)
      have hbe := break_err hc hr2
      generalize breakV c ⟨F + k - 1, r⟩ = vb at h29b hbe
      obtain ⟨vb1, vb2, vb3⟩ := vb
      have hbe : vb3 = 5 ∨ vb3 = 0 := hbe
      refine callVC h29b (by (simp -dsimp only [↓RP, RQ0, RQ1, RQ2, RQ3, implies_true, forall_const, Nat.reduceMul, reduceIte, reduceCtorEq, Nat.reduceAdd, Nat.reduceEqDiff, Nat.reduceLT, Nat.reduceLeDiff, Curve.sv, ints, I, B]); all_goals (try simp)) (by (simp -dsimp only [↓RP, RQ0, RQ1, RQ2, RQ3, implies_true, forall_const, Nat.reduceMul, reduceIte, reduceCtorEq, Nat.reduceAdd, Nat.reduceEqDiff, Nat.reduceLT, Nat.reduceLeDiff, tup3, I])) ?_
      (repeat' (first | with_reducible refine splitVC_d (fun _ => ?_) (fun _ => ?_) | ((with_reducible refine And.intro ?_ ?_); focus (first | trivial | (simp only [InK]; omega) | omega | (simp only [InK, ne_eq, and_true, true_and]; omega))) | simp -dsimp only [↓RP, RQ0, RQ1, RQ2, RQ3, implies_true, forall_const, Nat.reduceMul, reduceIte, reduceCtorEq, Nat.reduceAdd, Nat.reduceEqDiff, Nat.reduceLT, Nat.reduceLeDiff, f1, f2, f3, f4, f5, tup3, B, I, by2, ty5, ty51, decide_true, decide_false, Bool.not_true, Bool.not_false, eq_self, and_self, Nat.zero_add, Int.toNat_natCast, TY, Go.Proofs.Try.results10]))
      all_goals first | (exfalso; omega) | skip
      refine callVC (c53 k (fun j => r (F + j)) (by omega) (fun i hi => by have := rr (F + i) (by omega); omega)) (by (simp -dsimp only [↓RP, RQ0, RQ1, RQ2, RQ3, implies_true, forall_const, Nat.reduceMul, reduceIte, reduceCtorEq, Nat.reduceAdd, Nat.reduceEqDiff, Nat.reduceLT, Nat.reduceLeDiff, Curve.sv, ints, I, B]); all_goals (try simp)) (by (simp -dsimp only [↓RP, RQ0, RQ1, RQ2, RQ3, implies_true, forall_const, Nat.reduceMul, reduceIte, reduceCtorEq, Nat.reduceAdd, Nat.reduceEqDiff, Nat.reduceLT, Nat.reduceLeDiff, I])) ?_
      (repeat' (first | with_reducible refine splitVC_d (fun _ => ?_) (fun _ => ?_) | ((with_reducible refine And.intro ?_ ?_); focus (first | trivial | (simp only [InK]; omega) | omega | (simp only [InK, ne_eq, and_true, true_and]; omega))) | simp -dsimp only [↓RP, RQ0, RQ1, RQ2, RQ3, implies_true, forall_const, Nat.reduceMul, reduceIte, reduceCtorEq, Nat.reduceAdd, Nat.reduceEqDiff, Nat.reduceLT, Nat.reduceLeDiff, f1, f2, f3, f4, f5, tup3, B, I, by2, ty5, ty51, decide_true, decide_false, Bool.not_true, Bool.not_false, eq_self, and_self, Nat.zero_add, Int.toNat_natCast, TY, Go.Proofs.Try.results10]))
      all_goals first | (exfalso; omega) | skip
      · refine loop_vc (fun (t : Nat) => t ≤ F) (fun t => ⟨[(0, .arr false false c.m 1 (fun i _ => .val (.int .i64 (c.u i)))), (7, .arr true false n 1 (fun i _ => .val (.int .i64 (r i)))), (11, .val (.int .i64 F)), (12, .val (.int .i64 k)), (21, .val (.int .i64 vb3)), (23, .val (.int .i64 t))], [], 0⟩) (fun t => F - t) 0 (Nat.zero_le _) (weak [] [] ?_ ?_ ?_) fun t ht => ?_
        · (simp -dsimp only [↓RP, RQ0, RQ1, RQ2, RQ3, implies_true, forall_const, Nat.reduceMul, reduceIte, reduceCtorEq, Nat.reduceAdd, Nat.reduceEqDiff, Nat.reduceLT, Nat.reduceLeDiff]); all_goals simp
        · (simp -dsimp only [↓RP, RQ0, RQ1, RQ2, RQ3, implies_true, forall_const, Nat.reduceMul, reduceIte, reduceCtorEq, Nat.reduceAdd, Nat.reduceEqDiff, Nat.reduceLT, Nat.reduceLeDiff])
        · (simp -dsimp only [↓RP, RQ0, RQ1, RQ2, RQ3, implies_true, forall_const, Nat.reduceMul, reduceIte, reduceCtorEq, Nat.reduceAdd, Nat.reduceEqDiff, Nat.reduceLT, Nat.reduceLeDiff])
        by_cases hlt : t < F
        · (repeat' (first | with_reducible refine splitVC_d (fun _ => ?_) (fun _ => ?_) | ((with_reducible refine And.intro ?_ ?_); focus (first | trivial | (simp only [InK]; omega) | omega | (simp only [InK, ne_eq, and_true, true_and]; omega))) | simp -dsimp only [↓RP, RQ0, RQ1, RQ2, RQ3, implies_true, forall_const, Nat.reduceMul, reduceIte, reduceCtorEq, Nat.reduceAdd, Nat.reduceEqDiff, Nat.reduceLT, Nat.reduceLeDiff, tup3, B, I, by2, ty5, ty51, decide_true, decide_false, Bool.not_true, Bool.not_false, eq_self, and_self, Nat.zero_add, Int.toNat_natCast, TY, Go.Proofs.Try.results10]))
          all_goals first | (exfalso; omega) | skip
          refine loop_vc (fun (m : Nat) => t + m ≤ n) (fun m => ⟨[(0, .arr false false c.m 1 (fun i _ => .val (.int .i64 (c.u i)))), (7, .arr true false n 1 (fun i _ => .val (.int .i64 (r i)))), (11, .val (.int .i64 F)), (12, .val (.int .i64 k)), (21, .val (.int .i64 vb3)), (23, .val (.int .i64 t)), (24, .val (.int .i64 ((m + 1 : Nat) : Int)))], [], 0⟩) (fun m => n - m) 0 (by omega) (weak [] [] ?_ ?_ ?_) fun m hm => ?_
          · (simp -dsimp only [↓RP, RQ0, RQ1, RQ2, RQ3, implies_true, forall_const, Nat.reduceMul, reduceIte, reduceCtorEq, Nat.reduceAdd, Nat.reduceEqDiff, Nat.reduceLT, Nat.reduceLeDiff]); all_goals simp
          · (simp -dsimp only [↓RP, RQ0, RQ1, RQ2, RQ3, implies_true, forall_const, Nat.reduceMul, reduceIte, reduceCtorEq, Nat.reduceAdd, Nat.reduceEqDiff, Nat.reduceLT, Nat.reduceLeDiff])
          · (simp -dsimp only [↓RP, RQ0, RQ1, RQ2, RQ3, implies_true, forall_const, Nat.reduceMul, reduceIte, reduceCtorEq, Nat.reduceAdd, Nat.reduceEqDiff, Nat.reduceLT, Nat.reduceLeDiff])
          have j1 : (t : Int) + ((m + 1 : Nat) : Int) = ((t + (m + 1) : Nat) : Int) := by omega
          have j2 : ((t + (m + 1) : Nat) : Int) - (t : Int) = ((m + 1 : Nat) : Int) := by omega
          have j3 : ((m + 1 : Nat) : Int) + 1 = ((m + 1 + 1 : Nat) : Int) := by omega
          by_cases hl2 : t + (m + 1) ≤ n
          · have z1 := of_decide_eq_false (g6 t (Nat.zero_le _) hlt (m + 1) (by omega) hl2)
            have z1 : ¬ c.M (m + 1) < sumTo r (t + (m + 1)) - sumTo r t := z1
            have z2 := sum_add r t (m + 1)
            (repeat' (first | with_reducible refine splitVC_d (fun _ => ?_) (fun _ => ?_) | ((with_reducible refine And.intro ?_ ?_); focus (first | trivial | (simp only [InK]; omega) | omega | (simp only [InK, ne_eq, and_true, true_and]; omega))) | simp -dsimp only [↓RP, RQ0, RQ1, RQ2, RQ3, implies_true, forall_const, Nat.reduceMul, reduceIte, reduceCtorEq, Nat.reduceAdd, Nat.reduceEqDiff, Nat.reduceLT, Nat.reduceLeDiff, j1, j2, j3, tup3, B, I, by2, ty5, ty51, decide_true, decide_false, Bool.not_true, Bool.not_false, eq_self, and_self, Nat.zero_add, Int.toNat_natCast, TY, Go.Proofs.Try.results10]))
            all_goals first | (exfalso; omega) | skip
            refine callVC (c53 (m + 1) (fun j => r (t + j)) (by omega) (fun i hi => by have := rr (t + i) (by omega); omega)) (by (simp -dsimp only [↓RP, RQ0, RQ1, RQ2, RQ3, implies_true, forall_const, Nat.reduceMul, reduceIte, reduceCtorEq, Nat.reduceAdd, Nat.reduceEqDiff, Nat.reduceLT, Nat.reduceLeDiff, Curve.sv, ints, I, B]); all_goals (try simp)) (by (simp -dsimp only [↓RP, RQ0, RQ1, RQ2, RQ3, implies_true, forall_const, Nat.reduceMul, reduceIte, reduceCtorEq, Nat.reduceAdd, Nat.reduceEqDiff, Nat.reduceLT, Nat.reduceLeDiff, I])) ?_
            (repeat' (first | with_reducible refine splitVC_d (fun _ => ?_) (fun _ => ?_) | ((with_reducible refine And.intro ?_ ?_); focus (first | trivial | (simp only [InK]; omega) | omega | (simp only [InK, ne_eq, and_true, true_and]; omega))) | simp -dsimp only [↓RP, RQ0, RQ1, RQ2, RQ3, implies_true, forall_const, Nat.reduceMul, reduceIte, reduceCtorEq, Nat.reduceAdd, Nat.reduceEqDiff, Nat.reduceLT, Nat.reduceLeDiff, j1, j2, j3, tup3, B, I, by2, ty5, ty51, decide_true, decide_false, Bool.not_true, Bool.not_false, eq_self, and_self, Nat.zero_add, Int.toNat_natCast, TY, Go.Proofs.Try.results10]))
            refine callN (c54 c hc (m + 1) (by omega)) (by (simp -dsimp only [↓RP, RQ0, RQ1, RQ2, RQ3, implies_true, forall_const, Nat.reduceMul, reduceIte, reduceCtorEq, Nat.reduceAdd, Nat.reduceEqDiff, Nat.reduceLT, Nat.reduceLeDiff, Curve.sv, ints, I, B]); all_goals (try simp)) (by (simp -dsimp only [↓RP, RQ0, RQ1, RQ2, RQ3, implies_true, forall_const, Nat.reduceMul, reduceIte, reduceCtorEq, Nat.reduceAdd, Nat.reduceEqDiff, Nat.reduceLT, Nat.reduceLeDiff, I]); all_goals simp) (by (simp -dsimp only [↓RP, RQ0, RQ1, RQ2, RQ3, implies_true, forall_const, Nat.reduceMul, reduceIte, reduceCtorEq, Nat.reduceAdd, Nat.reduceEqDiff, Nat.reduceLT, Nat.reduceLeDiff, I]); all_goals simp) ?_
            (repeat' (first | with_reducible refine splitVC_d (fun _ => ?_) (fun _ => ?_) | ((with_reducible refine And.intro ?_ ?_); focus (first | trivial | (simp only [InK]; omega) | omega | (simp only [InK, ne_eq, and_true, true_and]; omega))) | simp -dsimp only [↓RP, RQ0, RQ1, RQ2, RQ3, implies_true, forall_const, Nat.reduceMul, reduceIte, reduceCtorEq, Nat.reduceAdd, Nat.reduceEqDiff, Nat.reduceLT, Nat.reduceLeDiff, j1, j2, j3, tup3, B, I, by2, ty5, ty51, decide_true, decide_false, Bool.not_true, Bool.not_false, eq_self, and_self, Nat.zero_add, Int.toNat_natCast, TY, Go.Proofs.Try.results10]))
            all_goals first | (exfalso; omega) | skip
            refine ⟨m + 1, by omega, by omega, weak [] [] ?_ ?_ ?_⟩
            · (simp -dsimp only [↓RP, RQ0, RQ1, RQ2, RQ3, implies_true, forall_const, Nat.reduceMul, reduceIte, reduceCtorEq, Nat.reduceAdd, Nat.reduceEqDiff, Nat.reduceLT, Nat.reduceLeDiff]); all_goals simp
            · (simp -dsimp only [↓RP, RQ0, RQ1, RQ2, RQ3, implies_true, forall_const, Nat.reduceMul, reduceIte, reduceCtorEq, Nat.reduceAdd, Nat.reduceEqDiff, Nat.reduceLT, Nat.reduceLeDiff])
            · (simp -dsimp only [↓RP, RQ0, RQ1, RQ2, RQ3, implies_true, forall_const, Nat.reduceMul, reduceIte, reduceCtorEq, Nat.reduceAdd, Nat.reduceEqDiff, Nat.reduceLT, Nat.reduceLeDiff])
          · (repeat' (first | with_reducible refine splitVC_d (fun _ => ?_) (fun _ => ?_) | ((with_reducible refine And.intro ?_ ?_); focus (first | trivial | (simp only [InK]; omega) | omega | (simp only [InK, ne_eq, and_true, true_and]; omega))) | simp -dsimp only [↓RP, RQ0, RQ1, RQ2, RQ3, implies_true, forall_const, Nat.reduceMul, reduceIte, reduceCtorEq, Nat.reduceAdd, Nat.reduceEqDiff, Nat.reduceLT, Nat.reduceLeDiff, j1, j2, j3, tup3, B, I, by2, ty5, ty51, decide_true, decide_false, Bool.not_true, Bool.not_false, eq_self, and_self, Nat.zero_add, Int.toNat_natCast, TY, Go.Proofs.Try.results10]))
            all_goals first | (exfalso; omega) | skip
            refine ⟨t + 1, by omega, by omega, weak [] [] ?_ ?_ ?_⟩
            · (simp -dsimp only [↓RP, RQ0, RQ1, RQ2, RQ3, implies_true, forall_const, Nat.reduceMul, reduceIte, reduceCtorEq, Nat.reduceAdd, Nat.reduceEqDiff, Nat.reduceLT, Nat.reduceLeDiff]); all_goals simp
            · (simp -dsimp only [↓RP, RQ0, RQ1, RQ2, RQ3, implies_true, forall_const, Nat.reduceMul, reduceIte, reduceCtorEq, Nat.reduceAdd, Nat.reduceEqDiff, Nat.reduceLT, Nat.reduceLeDiff])
            · (simp -dsimp only [↓RP, RQ0, RQ1, RQ2, RQ3, implies_true, forall_const, Nat.reduceMul, reduceIte, reduceCtorEq, Nat.reduceAdd, Nat.reduceEqDiff, Nat.reduceLT, Nat.reduceLeDiff])
        · have hin : t = F := by omega
          subst hin
          (repeat' (first | with_reducible refine splitVC_d (fun _ => ?_) (fun _ => ?_) | ((with_reducible refine And.intro ?_ ?_); focus (first | trivial | (simp only [InK]; omega) | omega | (simp only [InK, ne_eq, and_true, true_and]; omega))) | simp -dsimp only [↓RP, RQ0, RQ1, RQ2, RQ3, implies_true, forall_const, Nat.reduceMul, reduceIte, reduceCtorEq, Nat.reduceAdd, Nat.reduceEqDiff, Nat.reduceLT, Nat.reduceLeDiff, f1, f2, f3, f4, f5, tup3, B, I, by2, ty5, ty51, decide_true, decide_false, Bool.not_true, Bool.not_false, eq_self, and_self, Nat.zero_add, Int.toNat_natCast, TY, Go.Proofs.Try.results10]))
          all_goals first | (exfalso; omega) | skip
          all_goals (refine callVC (c53 (k - 1) (fun j => r (t + j)) (by omega) (fun i hi => by have := rr (t + i) (by omega); omega)) (by (simp -dsimp only [↓RP, RQ0, RQ1, RQ2, RQ3, implies_true, forall_const, Nat.reduceMul, reduceIte, reduceCtorEq, Nat.reduceAdd, Nat.reduceEqDiff, Nat.reduceLT, Nat.reduceLeDiff, Curve.sv, ints, I, B]); all_goals (try simp)) (by (simp -dsimp only [↓RP, RQ0, RQ1, RQ2, RQ3, implies_true, forall_const, Nat.reduceMul, reduceIte, reduceCtorEq, Nat.reduceAdd, Nat.reduceEqDiff, Nat.reduceLT, Nat.reduceLeDiff, I])) ?_)
          all_goals (repeat' (first | with_reducible refine splitVC_d (fun _ => ?_) (fun _ => ?_) | ((with_reducible refine And.intro ?_ ?_); focus (first | trivial | (simp only [InK]; omega) | omega | (simp only [InK, ne_eq, and_true, true_and]; omega))) | simp -dsimp only [↓RP, RQ0, RQ1, RQ2, RQ3, implies_true, forall_const, Nat.reduceMul, reduceIte, reduceCtorEq, Nat.reduceAdd, Nat.reduceEqDiff, Nat.reduceLT, Nat.reduceLeDiff, f1, f2, f3, f4, f5, tup3, B, I, by2, ty5, ty51, decide_true, decide_false, Bool.not_true, Bool.not_false, eq_self, and_self, Nat.zero_add, Int.toNat_natCast, TY, Go.Proofs.Try.results10]))
          all_goals (refine callN (c54 c hc k (by omega)) (by (simp -dsimp only [↓RP, RQ0, RQ1, RQ2, RQ3, implies_true, forall_const, Nat.reduceMul, reduceIte, reduceCtorEq, Nat.reduceAdd, Nat.reduceEqDiff, Nat.reduceLT, Nat.reduceLeDiff, Curve.sv, ints, I, B]); all_goals (try simp)) (by (simp -dsimp only [↓RP, RQ0, RQ1, RQ2, RQ3, implies_true, forall_const, Nat.reduceMul, reduceIte, reduceCtorEq, Nat.reduceAdd, Nat.reduceEqDiff, Nat.reduceLT, Nat.reduceLeDiff, I]); all_goals simp) (by (simp -dsimp only [↓RP, RQ0, RQ1, RQ2, RQ3, implies_true, forall_const, Nat.reduceMul, reduceIte, reduceCtorEq, Nat.reduceAdd, Nat.reduceEqDiff, Nat.reduceLT, Nat.reduceLeDiff, I]); all_goals simp) ?_)
          all_goals (repeat' (first | with_reducible refine splitVC_d (fun _ => ?_) (fun _ => ?_) | ((with_reducible refine And.intro ?_ ?_); focus (first | trivial | (simp only [InK]; omega) | omega | (simp only [InK, ne_eq, and_true, true_and]; omega))) | simp -dsimp only [↓RP, RQ0, RQ1, RQ2, RQ3, implies_true, forall_const, Nat.reduceMul, reduceIte, reduceCtorEq, Nat.reduceAdd, Nat.reduceEqDiff, Nat.reduceLT, Nat.reduceLeDiff, f1, f2, f3, f4, f5, tup3, B, I, by2, ty5, ty51, decide_true, decide_false, Bool.not_true, Bool.not_false, eq_self, and_self, Nat.zero_add, Int.toNat_natCast, TY, Go.Proofs.Try.results10]))
          all_goals first | (exfalso; omega) | skip
          all_goals (refine callVC hw (by (simp -dsimp only [↓RP, RQ0, RQ1, RQ2, RQ3, implies_true, forall_const, Nat.reduceMul, reduceIte, reduceCtorEq, Nat.reduceAdd, Nat.reduceEqDiff, Nat.reduceLT, Nat.reduceLeDiff])) (by (simp -dsimp only [↓RP, RQ0, RQ1, RQ2, RQ3, implies_true, forall_const, Nat.reduceMul, reduceIte, reduceCtorEq, Nat.reduceAdd, Nat.reduceEqDiff, Nat.reduceLT, Nat.reduceLeDiff, B])) ?_)
          all_goals (repeat' (first | with_reducible refine splitVC_d (fun _ => ?_) (fun _ => ?_) | ((with_reducible refine And.intro ?_ ?_); focus (first | trivial | (simp only [InK]; omega) | omega | (simp only [InK, ne_eq, and_true, true_and]; omega))) | simp -dsimp only [↓RP, RQ0, RQ1, RQ2, RQ3, implies_true, forall_const, Nat.reduceMul, reduceIte, reduceCtorEq, Nat.reduceAdd, Nat.reduceEqDiff, Nat.reduceLT, Nat.reduceLeDiff, f1, f2, f3, f4, f5, tup3, B, I, by2, ty5, ty51, decide_true, decide_false, Bool.not_true, Bool.not_false, eq_self, and_self, Nat.zero_add, Int.toNat_natCast, TY, Go.Proofs.Try.results10]))
      all_goals (refine callVC (c53 (k - 1) (fun j => r (F + j)) (by omega) (fun i hi => by have := rr (F + i) (by omega); omega)) (by (simp -dsimp only [↓RP, RQ0, RQ1, RQ2, RQ3, implies_true, forall_const, Nat.reduceMul, reduceIte, reduceCtorEq, Nat.reduceAdd, Nat.reduceEqDiff, Nat.reduceLT, Nat.reduceLeDiff, Curve.sv, ints, I, B]); all_goals (try simp)) (by (simp -dsimp only [↓RP, RQ0, RQ1, RQ2, RQ3, implies_true, forall_const, Nat.reduceMul, reduceIte, reduceCtorEq, Nat.reduceAdd, Nat.reduceEqDiff, Nat.reduceLT, Nat.reduceLeDiff, I])) ?_)
      all_goals (repeat' (first | with_reducible refine splitVC_d (fun _ => ?_) (fun _ => ?_) | ((with_reducible refine And.intro ?_ ?_); focus (first | trivial | (simp only [InK]; omega) | omega | (simp only [InK, ne_eq, and_true, true_and]; omega))) | simp -dsimp only [↓RP, RQ0, RQ1, RQ2, RQ3, implies_true, forall_const, Nat.reduceMul, reduceIte, reduceCtorEq, Nat.reduceAdd, Nat.reduceEqDiff, Nat.reduceLT, Nat.reduceLeDiff, f1, f2, f3, f4, f5, tup3, B, I, by2, ty5, ty51, decide_true, decide_false, Bool.not_true, Bool.not_false, eq_self, and_self, Nat.zero_add, Int.toNat_natCast, TY, Go.Proofs.Try.results10]))
      all_goals (refine callN (c54 c hc k (by omega)) (by (simp -dsimp only [↓RP, RQ0, RQ1, RQ2, RQ3, implies_true, forall_const, Nat.reduceMul, reduceIte, reduceCtorEq, Nat.reduceAdd, Nat.reduceEqDiff, Nat.reduceLT, Nat.reduceLeDiff, Curve.sv, ints, I, B]); all_goals (try simp)) (by (simp -dsimp only [↓RP, RQ0, RQ1, RQ2, RQ3, implies_true, forall_const, Nat.reduceMul, reduceIte, reduceCtorEq, Nat.reduceAdd, Nat.reduceEqDiff, Nat.reduceLT, Nat.reduceLeDiff, I]); all_goals simp) (by (simp -dsimp only [↓RP, RQ0, RQ1, RQ2, RQ3, implies_true, forall_const, Nat.reduceMul, reduceIte, reduceCtorEq, Nat.reduceAdd, Nat.reduceEqDiff, Nat.reduceLT, Nat.reduceLeDiff, I]); all_goals simp) ?_)
      all_goals (repeat' (first | with_reducible refine splitVC_d (fun _ => ?_) (fun _ => ?_) | ((with_reducible refine And.intro ?_ ?_); focus (first | trivial | (simp only [InK]; omega) | omega | (simp only [InK, ne_eq, and_true, true_and]; omega))) | simp -dsimp only [↓RP, RQ0, RQ1, RQ2, RQ3, implies_true, forall_const, Nat.reduceMul, reduceIte, reduceCtorEq, Nat.reduceAdd, Nat.reduceEqDiff, Nat.reduceLT, Nat.reduceLeDiff, f1, f2, f3, f4, f5, tup3, B, I, by2, ty5, ty51, decide_true, decide_false, Bool.not_true, Bool.not_false, eq_self, and_self, Nat.zero_add, Int.toNat_natCast, TY, Go.Proofs.Try.results10]))
      all_goals first | (exfalso; omega) | skip
      all_goals (refine callVC hw (by (simp -dsimp only [↓RP, RQ0, RQ1, RQ2, RQ3, implies_true, forall_const, Nat.reduceMul, reduceIte, reduceCtorEq, Nat.reduceAdd, Nat.reduceEqDiff, Nat.reduceLT, Nat.reduceLeDiff])) (by (simp -dsimp only [↓RP, RQ0, RQ1, RQ2, RQ3, implies_true, forall_const, Nat.reduceMul, reduceIte, reduceCtorEq, Nat.reduceAdd, Nat.reduceEqDiff, Nat.reduceLT, Nat.reduceLeDiff, B])) ?_)
      all_goals (repeat' (first | with_reducible refine splitVC_d (fun _ => ?_) (fun _ => ?_) | ((with_reducible refine And.intro ?_ ?_); focus (first | trivial | (simp only [InK]; omega) | omega | (simp only [InK, ne_eq, and_true, true_and]; omega))) | simp -dsimp only [↓RP, RQ0, RQ1, RQ2, RQ3, implies_true, forall_const, Nat.reduceMul, reduceIte, reduceCtorEq, Nat.reduceAdd, Nat.reduceEqDiff, Nat.reduceLT, Nat.reduceLeDiff, f1, f2, f3, f4, f5, tup3, B, I, by2, ty5, ty51, decide_true, decide_false, Bool.not_true, Bool.not_false, eq_self, and_self, Nat.zero_add, Int.toNat_natCast, TY, Go.Proofs.Try.results10]))
end Go.Lg
end
