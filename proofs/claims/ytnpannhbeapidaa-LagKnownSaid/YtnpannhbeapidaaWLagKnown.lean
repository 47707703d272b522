/- A part of the proof. -/
import Derived.Test.YtnpannhbeapidaaLE
section
set_option linter.unusedSimpArgs false
set_option linter.unusedVariables false
set_option linter.defProp false
set_option maxRecDepth 100000
set_option maxHeartbeats 16000000
namespace Go.Lg
open Go.Sx
theorem app_cons {α : Type} (a : α) (l m : List α) : List.append (a :: l) m = a :: List.append l m := rfl
theorem app_nil {α : Type} (m : List α) : List.append [] m = m := rfl
theorem n20 : Contract Go.Proofs.Try.prog 20 [cA.sv, I 4] (.tup [I 7, I 0]) := by
  have := c20 cA (by decide) 4
  rwa [show mostV cA 4 = (7, 0) by decide +kernel] at this
theorem n22 : Contract Go.Proofs.Try.prog 22 [chn 1 ch1, I 4] (.tup [I 4, I 0]) := by
  have := c22 1 ch1 (by decide) 4
  rwa [show leastV 1 ch1 4 = (4, 0) by decide +kernel] at this
theorem n22b : Contract Go.Proofs.Try.prog 22 [chn 2 ch1, I 3] (.tup [I 2, I 0]) := by
  have := c22 2 ch1 (by decide) 3
  rwa [show leastV 2 ch1 3 = (2, 0) by decide +kernel] at this
theorem n24 : Contract Go.Proofs.Try.prog 24 [cB.sv, B false] (.tup [.agg [I 4, I 3], I 0]) := by
  have := c24 cB (by decide) false
  have e : rateV cB false = (.agg [I 4, I 3], 0) := by
    unfold rateV; rw [if_pos (show cB.err = 0 by decide +kernel), show cB.rate false = (4, 3) by decide +kernel]; rfl
  rwa [e] at this
theorem n29 : Contract Go.Proofs.Try.prog 29 [cA.sv, (cL [0, 0, 4]).sv] (.tup [I 2, I 1, I 0]) := by
  have := c29 cA (cL [0, 0, 4]) (by decide) (by decide)
  rwa [show breakV cA (cL [0, 0, 4]) = (2, 1, 0) by decide +kernel] at this
theorem n38 : Contract Go.Proofs.Try.prog 38 [cB.sv, cR.sv, cR.sv] (I 0) := by
  have := c38 cB cR cR (by decide) (by decide) (by decide)
  have e : checkAddV cB cR cR = 0 := by
    unfold checkAddV
    rw [if_pos (by decide +kernel), if_pos (by decide +kernel), if_pos (by decide +kernel)]
  rwa [e] at this
theorem n38b : Contract Go.Proofs.Try.prog 38 [cB.sv, cR.sv, (cL [4, 0, 0, 3, 1, 0]).sv] (I 14) := by
  have := c38 cB cR (cL [4, 0, 0, 3, 1, 0]) (by decide) (by decide) (by decide)
  have h : rowsV cR (cL [4, 0, 0, 3, 1, 0]) = 14 := by decide +kernel
  have e : checkAddV cB cR (cL [4, 0, 0, 3, 1, 0]) = 14 := by
    unfold checkAddV
    rw [if_pos (by decide +kernel), if_neg (by rw [h]; decide), h]
  rwa [e] at this
theorem n36 : Contract Go.Proofs.Try.prog 36 [cR.sv, (cL [0, 2, 2, 0, 2, 1]).sv] (.tup [I 0, I 0, I 18]) := by
  have := c36 cR (cL [0, 2, 2, 0, 2, 1]) (by decide) (by decide)
  have h : rowsV cR (cL [0, 2, 2, 0, 2, 1]) = 0 := by decide +kernel
  have e : seenV cR (cL [0, 2, 2, 0, 2, 1]) = (0, 0, 18) := by
    unfold seenV
    rw [if_pos h, if_neg (by decide +kernel)]
  rwa [e] at this
theorem n40 : Contract Go.Proofs.Try.prog 40 [cA.sv, chn 1 ch1] (.tup [I 3, I 0]) := by
  have := c40 cA 1 ch1 (by decide) (by decide)
  have e : waitV cA 1 ch1 = (3, 0) := by
    unfold waitV
    rw [if_pos (xask 1 (.inl rfl))]
    have h1 : waitB cA 1 ch1 ≤ 3 := bestTo_le _ 3 (by omega) 181 fun j hj => by
      have := xM j; have := xL j; rw [xl1]; omega
    have h2 : (3 : Int) ≤ waitB cA 1 ch1 := by
      have := le_bestTo (fun k => cA.M k - Lc 1 ch1 k) 181 1 (by omega)
      have e : cA.M 1 - Lc 1 ch1 1 = 3 := by decide +kernel
      exact e ▸ this
    rw [show waitB cA 1 ch1 = 3 by omega]
  rwa [e] at this
theorem n42 : Contract Go.Proofs.Try.prog 42 [cA.sv, chn 2 ch1] (.tup [I 3, I 0]) := by
  have := c42 cA 2 ch1 (by decide) (by decide)
  have e : lateV cA 2 ch1 = (3, 0) := by
    unfold lateV
    rw [if_pos (xask 2 (.inr rfl))]
    have h1 : lateB cA 2 ch1 ≤ 3 := bestTo_le _ 3 (by omega) 181 fun j hj => by
      have h := lateF_false cA.M (Lc 2 ch1) j (j + 3) (by omega)
      by_cases h2 : j + 3 < lateF cA.M (Lc 2 ch1) j
      · have h3 := h h2
        have := xM j; have := xL2 (j + 3); omega
      · omega
    have h2 : (3 : Int) ≤ lateB cA 2 ch1 := by
      have := le_bestTo (fun k => (lateF cA.M (Lc 2 ch1) k : Int) - k) 181 1 (by omega)
      have e : (lateF cA.M (Lc 2 ch1) 1 : Int) - (1 : Nat) = 3 := by decide +kernel
      exact e ▸ this
    rw [show lateB cA 2 ch1 = 3 by omega]
  rwa [e] at this
theorem n26 : Contract Go.Proofs.Try.prog 26 [(cL [3, 2]).sv] (I 16) := by
  have := c26 (cL [3, 2]) (by decide)
  rwa [show (cL [3, 2]).err = 16 by decide +kernel] at this
theorem c16 (hw : Contract Go.Proofs.Try.prog 19 [] (B true)) : Contract Go.Proofs.Try.prog 16 [] (B true) := by
  refine contract_of Go.Proofs.Try.func16 rfl (by kernel_rfl) follows (by kernel_rfl) _ _ (by rw [Go.Proofs.Try.ntmps16]; simp) (by simp only [OldL, and_self]) ?_
  unfold B
  (repeat' (first | with_reducible refine splitVC_d (fun _ => ?_) (fun _ => ?_) | ((with_reducible refine And.intro ?_ ?_); focus (first | trivial | (simp only [InK]; omega) | omega | (simp only [InK, ne_eq, and_true, true_and]; omega))) | simp -dsimp only [↓RP, RQ0, RQ1, RQ2, RQ3, implies_true, forall_const, Nat.reduceMul, reduceIte, reduceCtorEq, Nat.reduceAdd, Nat.reduceEqDiff, Nat.reduceLT, Nat.reduceLeDiff, TY, Go.Proofs.Try.results16]))
  refine callE (by rfl) (e60 _) fun hp' nid' res ⟨r1, r2, r3⟩ => ?_
  subst r1 r2 r3
  (repeat' (first | with_reducible refine splitVC_d (fun _ => ?_) (fun _ => ?_) | ((with_reducible refine And.intro ?_ ?_); focus (first | trivial | (simp only [InK]; omega) | omega | (simp only [InK, ne_eq, and_true, true_and]; omega))) | simp -dsimp only [↓RP, RQ0, RQ1, RQ2, RQ3, implies_true, forall_const, Nat.reduceMul, reduceIte, reduceCtorEq, Nat.reduceAdd, Nat.reduceEqDiff, Nat.reduceLT, Nat.reduceLeDiff, litR, I, B, Nat.zero_add, Int.reduceEq, decide_true, decide_false, Bool.not_true, Bool.not_false, eq_self, and_self, eq32, TY, Int.toNat_natCast, Go.Proofs.Try.results16]))
  refine callVC n20 (by (simp -dsimp only [↓RP, RQ0, RQ1, RQ2, RQ3, implies_true, forall_const, Nat.reduceMul, reduceIte, reduceCtorEq, Nat.reduceAdd, Nat.reduceEqDiff, Nat.reduceLT, Nat.reduceLeDiff, Curve.sv, ints, I, B]); all_goals (try simp); all_goals first | exact lit_fit _ | exact ⟨lit_fit _, lit_fit _⟩ | exact ⟨lit_fit _, lit_fit _, lit_fit _⟩ | exact lit_at [3, 1, 0, 3, 1, 0] | exact lit_at [0, 2, 2, 0, 2, 2] | exact lit_at [4, 5, 7] | skip) (by (simp -dsimp only [↓RP, RQ0, RQ1, RQ2, RQ3, implies_true, forall_const, Nat.reduceMul, reduceIte, reduceCtorEq, Nat.reduceAdd, Nat.reduceEqDiff, Nat.reduceLT, Nat.reduceLeDiff, I, B])) ?_
  (repeat' (first | with_reducible refine splitVC_d (fun _ => ?_) (fun _ => ?_) | ((with_reducible refine And.intro ?_ ?_); focus (first | trivial | (simp only [InK]; omega) | omega | (simp only [InK, ne_eq, and_true, true_and]; omega))) | simp -dsimp only [↓RP, RQ0, RQ1, RQ2, RQ3, implies_true, forall_const, Nat.reduceMul, reduceIte, reduceCtorEq, Nat.reduceAdd, Nat.reduceEqDiff, Nat.reduceLT, Nat.reduceLeDiff, litR, I, B, Nat.zero_add, Int.reduceEq, decide_true, decide_false, Bool.not_true, Bool.not_false, eq_self, and_self, eq32, TY, Int.toNat_natCast, Go.Proofs.Try.results16]))
  refine callVC n22 (by (simp -dsimp only [↓RP, RQ0, RQ1, RQ2, RQ3, implies_true, forall_const, Nat.reduceMul, reduceIte, reduceCtorEq, Nat.reduceAdd, Nat.reduceEqDiff, Nat.reduceLT, Nat.reduceLeDiff, chn, I, B]); exact ch_fit (b := 10) (by (simp -dsimp only [↓RP, RQ0, RQ1, RQ2, RQ3, implies_true, forall_const, Nat.reduceMul, reduceIte, reduceCtorEq, Nat.reduceAdd, Nat.reduceEqDiff, Nat.reduceLT, Nat.reduceLeDiff, Curve.sv, ints]); all_goals (try simp); all_goals exact lit_fit _) (fun i hi => by rcases i with _ | _ | i <;> first | rfl | omega)) (by (simp -dsimp only [↓RP, RQ0, RQ1, RQ2, RQ3, implies_true, forall_const, Nat.reduceMul, reduceIte, reduceCtorEq, Nat.reduceAdd, Nat.reduceEqDiff, Nat.reduceLT, Nat.reduceLeDiff, I, B])) ?_
  (repeat' (first | with_reducible refine splitVC_d (fun _ => ?_) (fun _ => ?_) | ((with_reducible refine And.intro ?_ ?_); focus (first | trivial | (simp only [InK]; omega) | omega | (simp only [InK, ne_eq, and_true, true_and]; omega))) | simp -dsimp only [↓RP, RQ0, RQ1, RQ2, RQ3, implies_true, forall_const, Nat.reduceMul, reduceIte, reduceCtorEq, Nat.reduceAdd, Nat.reduceEqDiff, Nat.reduceLT, Nat.reduceLeDiff, litR, I, B, Nat.zero_add, Int.reduceEq, decide_true, decide_false, Bool.not_true, Bool.not_false, eq_self, and_self, eq32, TY, Int.toNat_natCast, Go.Proofs.Try.results16]))
  refine callVC n22b (by (simp -dsimp only [↓RP, RQ0, RQ1, RQ2, RQ3, implies_true, forall_const, Nat.reduceMul, reduceIte, reduceCtorEq, Nat.reduceAdd, Nat.reduceEqDiff, Nat.reduceLT, Nat.reduceLeDiff, chn, I, B]); exact ch_fit (b := 10) (by (simp -dsimp only [↓RP, RQ0, RQ1, RQ2, RQ3, implies_true, forall_const, Nat.reduceMul, reduceIte, reduceCtorEq, Nat.reduceAdd, Nat.reduceEqDiff, Nat.reduceLT, Nat.reduceLeDiff, Curve.sv, ints]); all_goals (try simp); all_goals exact lit_fit _) (fun i hi => by rcases i with _ | _ | i <;> first | rfl | omega)) (by (simp -dsimp only [↓RP, RQ0, RQ1, RQ2, RQ3, implies_true, forall_const, Nat.reduceMul, reduceIte, reduceCtorEq, Nat.reduceAdd, Nat.reduceEqDiff, Nat.reduceLT, Nat.reduceLeDiff, I, B])) ?_
  (repeat' (first | with_reducible refine splitVC_d (fun _ => ?_) (fun _ => ?_) | ((with_reducible refine And.intro ?_ ?_); focus (first | trivial | (simp only [InK]; omega) | omega | (simp only [InK, ne_eq, and_true, true_and]; omega))) | simp -dsimp only [↓RP, RQ0, RQ1, RQ2, RQ3, implies_true, forall_const, Nat.reduceMul, reduceIte, reduceCtorEq, Nat.reduceAdd, Nat.reduceEqDiff, Nat.reduceLT, Nat.reduceLeDiff, litR, I, B, Nat.zero_add, Int.reduceEq, decide_true, decide_false, Bool.not_true, Bool.not_false, eq_self, and_self, eq32, TY, Int.toNat_natCast, Go.Proofs.Try.results16]))
  refine callVC n24 (by (simp -dsimp only [↓RP, RQ0, RQ1, RQ2, RQ3, implies_true, forall_const, Nat.reduceMul, reduceIte, reduceCtorEq, Nat.reduceAdd, Nat.reduceEqDiff, Nat.reduceLT, Nat.reduceLeDiff, Curve.sv, ints, I, B]); all_goals (try simp); all_goals first | exact lit_fit _ | exact ⟨lit_fit _, lit_fit _⟩ | exact ⟨lit_fit _, lit_fit _, lit_fit _⟩ | exact lit_at [3, 1, 0, 3, 1, 0] | exact lit_at [0, 2, 2, 0, 2, 2] | exact lit_at [4, 5, 7] | skip) (by (simp -dsimp only [↓RP, RQ0, RQ1, RQ2, RQ3, implies_true, forall_const, Nat.reduceMul, reduceIte, reduceCtorEq, Nat.reduceAdd, Nat.reduceEqDiff, Nat.reduceLT, Nat.reduceLeDiff, I, B])) ?_
  (repeat' (first | with_reducible refine splitVC_d (fun _ => ?_) (fun _ => ?_) | ((with_reducible refine And.intro ?_ ?_); focus (first | trivial | (simp only [InK]; omega) | omega | (simp only [InK, ne_eq, and_true, true_and]; omega))) | simp -dsimp only [↓RP, RQ0, RQ1, RQ2, RQ3, implies_true, forall_const, Nat.reduceMul, reduceIte, reduceCtorEq, Nat.reduceAdd, Nat.reduceEqDiff, Nat.reduceLT, Nat.reduceLeDiff, litR, I, B, Nat.zero_add, Int.reduceEq, decide_true, decide_false, Bool.not_true, Bool.not_false, eq_self, and_self, eq32, TY, Int.toNat_natCast, Go.Proofs.Try.results16]))
  refine callE (by rfl) (e61 _ _ _ _) fun hp' nid' res ⟨r1, r2, r3⟩ => ?_
  subst r1 r2 r3
  (repeat' (first | with_reducible refine splitVC_d (fun _ => ?_) (fun _ => ?_) | ((with_reducible refine And.intro ?_ ?_); focus (first | trivial | (simp only [InK]; omega) | omega | (simp only [InK, ne_eq, and_true, true_and]; omega))) | simp -dsimp only [↓RP, RQ0, RQ1, RQ2, RQ3, implies_true, forall_const, Nat.reduceMul, reduceIte, reduceCtorEq, Nat.reduceAdd, Nat.reduceEqDiff, Nat.reduceLT, Nat.reduceLeDiff, litR, I, B, Nat.zero_add, Int.reduceEq, decide_true, decide_false, Bool.not_true, Bool.not_false, eq_self, and_self, eq32, TY, Int.toNat_natCast, Go.Proofs.Try.results16]))
  refine callVC n29 (by (simp -dsimp only [↓RP, RQ0, RQ1, RQ2, RQ3, implies_true, forall_const, Nat.reduceMul, reduceIte, reduceCtorEq, Nat.reduceAdd, Nat.reduceEqDiff, Nat.reduceLT, Nat.reduceLeDiff, Curve.sv, ints, I, B]); all_goals (try simp); all_goals first | exact lit_fit _ | exact ⟨lit_fit _, lit_fit _⟩ | exact ⟨lit_fit _, lit_fit _, lit_fit _⟩ | exact lit_at [3, 1, 0, 3, 1, 0] | exact lit_at [0, 2, 2, 0, 2, 2] | exact lit_at [4, 5, 7] | skip) (by (simp -dsimp only [↓RP, RQ0, RQ1, RQ2, RQ3, implies_true, forall_const, Nat.reduceMul, reduceIte, reduceCtorEq, Nat.reduceAdd, Nat.reduceEqDiff, Nat.reduceLT, Nat.reduceLeDiff, I, B])) ?_
  (repeat' (first | with_reducible refine splitVC_d (fun _ => ?_) (fun _ => ?_) | ((with_reducible refine And.intro ?_ ?_); focus (first | trivial | (simp only [InK]; omega) | omega | (simp only [InK, ne_eq, and_true, true_and]; omega))) | simp -dsimp only [↓RP, RQ0, RQ1, RQ2, RQ3, implies_true, forall_const, Nat.reduceMul, reduceIte, reduceCtorEq, Nat.reduceAdd, Nat.reduceEqDiff, Nat.reduceLT, Nat.reduceLeDiff, litR, I, B, Nat.zero_add, Int.reduceEq, decide_true, decide_false, Bool.not_true, Bool.not_false, eq_self, and_self, eq32, TY, Int.toNat_natCast, Go.Proofs.Try.results16]))
  refine callVC n38 (by (simp -dsimp only [↓RP, RQ0, RQ1, RQ2, RQ3, implies_true, forall_const, Nat.reduceMul, reduceIte, reduceCtorEq, Nat.reduceAdd, Nat.reduceEqDiff, Nat.reduceLT, Nat.reduceLeDiff, Curve.sv, ints, I, B]); all_goals (try simp); all_goals first | exact lit_fit _ | exact ⟨lit_fit _, lit_fit _⟩ | exact ⟨lit_fit _, lit_fit _, lit_fit _⟩ | exact lit_at [3, 1, 0, 3, 1, 0] | exact lit_at [0, 2, 2, 0, 2, 2] | exact lit_at [4, 5, 7] | skip) (by (simp -dsimp only [↓RP, RQ0, RQ1, RQ2, RQ3, implies_true, forall_const, Nat.reduceMul, reduceIte, reduceCtorEq, Nat.reduceAdd, Nat.reduceEqDiff, Nat.reduceLT, Nat.reduceLeDiff, I, B])) ?_
  (repeat' (first | with_reducible refine splitVC_d (fun _ => ?_) (fun _ => ?_) | ((with_reducible refine And.intro ?_ ?_); focus (first | trivial | (simp only [InK]; omega) | omega | (simp only [InK, ne_eq, and_true, true_and]; omega))) | simp -dsimp only [↓RP, RQ0, RQ1, RQ2, RQ3, implies_true, forall_const, Nat.reduceMul, reduceIte, reduceCtorEq, Nat.reduceAdd, Nat.reduceEqDiff, Nat.reduceLT, Nat.reduceLeDiff, litR, I, B, Nat.zero_add, Int.reduceEq, decide_true, decide_false, Bool.not_true, Bool.not_false, eq_self, and_self, eq32, TY, Int.toNat_natCast, Go.Proofs.Try.results16]))
  refine callE (by rfl) (e61 _ _ _ _) fun hp' nid' res ⟨r1, r2, r3⟩ => ?_
  subst r1 r2 r3
  (repeat' (first | with_reducible refine splitVC_d (fun _ => ?_) (fun _ => ?_) | ((with_reducible refine And.intro ?_ ?_); focus (first | trivial | (simp only [InK]; omega) | omega | (simp only [InK, ne_eq, and_true, true_and]; omega))) | simp -dsimp only [↓RP, RQ0, RQ1, RQ2, RQ3, implies_true, forall_const, Nat.reduceMul, reduceIte, reduceCtorEq, Nat.reduceAdd, Nat.reduceEqDiff, Nat.reduceLT, Nat.reduceLeDiff, litR, I, B, Nat.zero_add, Int.reduceEq, decide_true, decide_false, Bool.not_true, Bool.not_false, eq_self, and_self, eq32, TY, Int.toNat_natCast, Go.Proofs.Try.results16]))
  refine callVC n38b (by (simp -dsimp only [↓RP, RQ0, RQ1, RQ2, RQ3, implies_true, forall_const, Nat.reduceMul, reduceIte, reduceCtorEq, Nat.reduceAdd, Nat.reduceEqDiff, Nat.reduceLT, Nat.reduceLeDiff, Curve.sv, ints, I, B]); all_goals (try simp); all_goals first | exact lit_fit _ | exact ⟨lit_fit _, lit_fit _⟩ | exact ⟨lit_fit _, lit_fit _, lit_fit _⟩ | exact lit_at [3, 1, 0, 3, 1, 0] | exact lit_at [0, 2, 2, 0, 2, 2] | exact lit_at [4, 5, 7] | skip) (by (simp -dsimp only [↓RP, RQ0, RQ1, RQ2, RQ3, implies_true, forall_const, Nat.reduceMul, reduceIte, reduceCtorEq, Nat.reduceAdd, Nat.reduceEqDiff, Nat.reduceLT, Nat.reduceLeDiff, I, B])) ?_
  (repeat' (first | with_reducible refine splitVC_d (fun _ => ?_) (fun _ => ?_) | ((with_reducible refine And.intro ?_ ?_); focus (first | trivial | (simp only [InK]; omega) | omega | (simp only [InK, ne_eq, and_true, true_and]; omega))) | simp -dsimp only [↓RP, RQ0, RQ1, RQ2, RQ3, implies_true, forall_const, Nat.reduceMul, reduceIte, reduceCtorEq, Nat.reduceAdd, Nat.reduceEqDiff, Nat.reduceLT, Nat.reduceLeDiff, litR, I, B, Nat.zero_add, Int.reduceEq, decide_true, decide_false, Bool.not_true, Bool.not_false, eq_self, and_self, eq32, TY, Int.toNat_natCast, Go.Proofs.Try.results16]))
  refine callE (by rfl) (e61 _ _ _ _) fun hp' nid' res ⟨r1, r2, r3⟩ => ?_
  subst r1 r2 r3
  (repeat' (first | with_reducible refine splitVC_d (fun _ => ?_) (fun _ => ?_) | ((with_reducible refine And.intro ?_ ?_); focus (first | trivial | (simp only [InK]; omega) | omega | (simp only [InK, ne_eq, and_true, true_and]; omega))) | simp -dsimp only [↓RP, RQ0, RQ1, RQ2, RQ3, implies_true, forall_const, Nat.reduceMul, reduceIte, reduceCtorEq, Nat.reduceAdd, Nat.reduceEqDiff, Nat.reduceLT, Nat.reduceLeDiff, litR, I, B, Nat.zero_add, Int.reduceEq, decide_true, decide_false, Bool.not_true, Bool.not_false, eq_self, and_self, eq32, TY, Int.toNat_natCast, Go.Proofs.Try.results16]))
  refine callVC n36 (by (simp -dsimp only [↓RP, RQ0, RQ1, RQ2, RQ3, implies_true, forall_const, Nat.reduceMul, reduceIte, reduceCtorEq, Nat.reduceAdd, Nat.reduceEqDiff, Nat.reduceLT, Nat.reduceLeDiff, Curve.sv, ints, I, B]); all_goals (try simp); all_goals first | exact lit_fit _ | exact ⟨lit_fit _, lit_fit _⟩ | exact ⟨lit_fit _, lit_fit _, lit_fit _⟩ | exact lit_at [3, 1, 0, 3, 1, 0] | exact lit_at [0, 2, 2, 0, 2, 2] | exact lit_at [4, 5, 7] | skip) (by (simp -dsimp only [↓RP, RQ0, RQ1, RQ2, RQ3, implies_true, forall_const, Nat.reduceMul, reduceIte, reduceCtorEq, Nat.reduceAdd, Nat.reduceEqDiff, Nat.reduceLT, Nat.reduceLeDiff, I, B])) ?_
  (repeat' (first | with_reducible refine splitVC_d (fun _ => ?_) (fun _ => ?_) | ((with_reducible refine And.intro ?_ ?_); focus (first | trivial | (simp only [InK]; omega) | omega | (simp only [InK, ne_eq, and_true, true_and]; omega))) | simp -dsimp (config := { maxSteps := 2000000 }) only [↓RP, RQ0, RQ1, RQ2, RQ3, implies_true, forall_const, Nat.reduceMul, reduceIte, reduceCtorEq, Nat.reduceAdd, Nat.reduceEqDiff, Nat.reduceLT, Nat.reduceLeDiff, litR, I, B, Nat.zero_add, Int.reduceEq, decide_true, decide_false, Bool.not_true, Bool.not_false, eq_self, and_self, eq32, TY, Int.toNat_natCast, Go.Proofs.Try.results16]))
  refine callVC n40 (by (simp -dsimp only [↓RP, RQ0, RQ1, RQ2, RQ3, implies_true, forall_const, Nat.reduceMul, reduceIte, reduceCtorEq, Nat.reduceAdd, Nat.reduceEqDiff, Nat.reduceLT, Nat.reduceLeDiff, chn, Curve.sv, ints, I, B]); refine ⟨by simp; exact lit_fit _, ?_⟩; refine ch_fit (b := 10) ?h ?hl; (case h => ((simp -dsimp only [↓RP, RQ0, RQ1, RQ2, RQ3, implies_true, forall_const, Nat.reduceMul, reduceIte, reduceCtorEq, Nat.reduceAdd, Nat.reduceEqDiff, Nat.reduceLT, Nat.reduceLeDiff, Curve.sv, ints]); all_goals (try simp); all_goals exact lit_fit _)); (case hl => intro i hi; rcases i with _ | _ | i <;> first | rfl | omega)) (by (simp -dsimp only [↓RP, RQ0, RQ1, RQ2, RQ3, implies_true, forall_const, Nat.reduceMul, reduceIte, reduceCtorEq, Nat.reduceAdd, Nat.reduceEqDiff, Nat.reduceLT, Nat.reduceLeDiff, I, B])) ?_
  (repeat' (first | with_reducible refine splitVC_d (fun _ => ?_) (fun _ => ?_) | ((with_reducible refine And.intro ?_ ?_); focus (first | trivial | (simp only [InK]; omega) | omega | (simp only [InK, ne_eq, and_true, true_and]; omega))) | simp -dsimp (config := { maxSteps := 2000000 }) only [↓RP, RQ0, RQ1, RQ2, RQ3, implies_true, forall_const, Nat.reduceMul, reduceIte, reduceCtorEq, Nat.reduceAdd, Nat.reduceEqDiff, Nat.reduceLT, Nat.reduceLeDiff, litR, I, B, Nat.zero_add, Int.reduceEq, decide_true, decide_false, Bool.not_true, Bool.not_false, eq_self, and_self, eq32, TY, Int.toNat_natCast, Go.Proofs.Try.results16]))
  refine callVC n42 (by (simp -dsimp only [↓RP, RQ0, RQ1, RQ2, RQ3, implies_true, forall_const, Nat.reduceMul, reduceIte, reduceCtorEq, Nat.reduceAdd, Nat.reduceEqDiff, Nat.reduceLT, Nat.reduceLeDiff, chn, Curve.sv, ints, I, B]); refine ⟨by simp; exact lit_fit _, ?_⟩; refine ch_fit (b := 10) ?h ?hl; (case h => ((simp -dsimp only [↓RP, RQ0, RQ1, RQ2, RQ3, implies_true, forall_const, Nat.reduceMul, reduceIte, reduceCtorEq, Nat.reduceAdd, Nat.reduceEqDiff, Nat.reduceLT, Nat.reduceLeDiff, Curve.sv, ints]); all_goals (try simp); all_goals exact lit_fit _)); (case hl => intro i hi; rcases i with _ | _ | i <;> first | rfl | omega)) (by (simp -dsimp only [↓RP, RQ0, RQ1, RQ2, RQ3, implies_true, forall_const, Nat.reduceMul, reduceIte, reduceCtorEq, Nat.reduceAdd, Nat.reduceEqDiff, Nat.reduceLT, Nat.reduceLeDiff, I, B])) ?_
  (repeat' (first | with_reducible refine splitVC_d (fun _ => ?_) (fun _ => ?_) | ((with_reducible refine And.intro ?_ ?_); focus (first | trivial | (simp only [InK]; omega) | omega | (simp only [InK, ne_eq, and_true, true_and]; omega))) | simp -dsimp (config := { maxSteps := 2000000 }) only [↓RP, RQ0, RQ1, RQ2, RQ3, implies_true, forall_const, Nat.reduceMul, reduceIte, reduceCtorEq, Nat.reduceAdd, Nat.reduceEqDiff, Nat.reduceLT, Nat.reduceLeDiff, litR, I, B, Nat.zero_add, Int.reduceEq, decide_true, decide_false, Bool.not_true, Bool.not_false, eq_self, and_self, eq32, TY, Int.toNat_natCast, Go.Proofs.Try.results16]))
  simp only [app_cons, app_nil]
  (repeat' (first | with_reducible refine splitVC_d (fun _ => ?_) (fun _ => ?_) | ((with_reducible refine And.intro ?_ ?_); focus (first | trivial | (simp only [InK]; omega) | omega | (simp only [InK, ne_eq, and_true, true_and]; omega))) | simp -dsimp (config := { maxSteps := 2000000 }) only [↓RP, RQ0, RQ1, RQ2, RQ3, implies_true, forall_const, Nat.reduceMul, reduceIte, reduceCtorEq, Nat.reduceAdd, Nat.reduceEqDiff, Nat.reduceLT, Nat.reduceLeDiff, litR, I, B, Nat.zero_add, Int.reduceEq, decide_true, decide_false, Bool.not_true, Bool.not_false, eq_self, and_self, eq32, TY, Int.toNat_natCast, Go.Proofs.Try.results16]))
  refine callE (by rfl) (e61 _ _ _ _) fun hp' nid' res ⟨r1, r2, r3⟩ => ?_
  subst r1 r2 r3
  (repeat' (first | with_reducible refine splitVC_d (fun _ => ?_) (fun _ => ?_) | ((with_reducible refine And.intro ?_ ?_); focus (first | trivial | (simp only [InK]; omega) | omega | (simp only [InK, ne_eq, and_true, true_and]; omega))) | simp -dsimp (config := { maxSteps := 2000000 }) only [↓RP, RQ0, RQ1, RQ2, RQ3, implies_true, forall_const, Nat.reduceMul, reduceIte, reduceCtorEq, Nat.reduceAdd, Nat.reduceEqDiff, Nat.reduceLT, Nat.reduceLeDiff, litR, I, B, Nat.zero_add, Int.reduceEq, decide_true, decide_false, Bool.not_true, Bool.not_false, eq_self, and_self, eq32, TY, Int.toNat_natCast, Go.Proofs.Try.results16]))
  refine callVC n26 (by (simp -dsimp only [↓RP, RQ0, RQ1, RQ2, RQ3, implies_true, forall_const, Nat.reduceMul, reduceIte, reduceCtorEq, Nat.reduceAdd, Nat.reduceEqDiff, Nat.reduceLT, Nat.reduceLeDiff, Curve.sv, ints, I, B]); all_goals (try simp); all_goals first | exact lit_fit _ | exact ⟨lit_fit _, lit_fit _⟩ | exact ⟨lit_fit _, lit_fit _, lit_fit _⟩ | exact lit_at [3, 1, 0, 3, 1, 0] | exact lit_at [0, 2, 2, 0, 2, 2] | exact lit_at [4, 5, 7] | skip) (by (simp -dsimp only [↓RP, RQ0, RQ1, RQ2, RQ3, implies_true, forall_const, Nat.reduceMul, reduceIte, reduceCtorEq, Nat.reduceAdd, Nat.reduceEqDiff, Nat.reduceLT, Nat.reduceLeDiff, I, B])) ?_
  (repeat' (first | with_reducible refine splitVC_d (fun _ => ?_) (fun _ => ?_) | ((with_reducible refine And.intro ?_ ?_); focus (first | trivial | (simp only [InK]; omega) | omega | (simp only [InK, ne_eq, and_true, true_and]; omega))) | simp -dsimp (config := { maxSteps := 2000000 }) only [↓RP, RQ0, RQ1, RQ2, RQ3, implies_true, forall_const, Nat.reduceMul, reduceIte, reduceCtorEq, Nat.reduceAdd, Nat.reduceEqDiff, Nat.reduceLT, Nat.reduceLeDiff, litR, I, B, Nat.zero_add, Int.reduceEq, decide_true, decide_false, Bool.not_true, Bool.not_false, eq_self, and_self, eq32, TY, Int.toNat_natCast, Go.Proofs.Try.results16]))
  refine callVC hw (by (simp -dsimp only [↓RP, RQ0, RQ1, RQ2, RQ3, implies_true, forall_const, Nat.reduceMul, reduceIte, reduceCtorEq, Nat.reduceAdd, Nat.reduceEqDiff, Nat.reduceLT, Nat.reduceLeDiff])) (by (simp -dsimp only [↓RP, RQ0, RQ1, RQ2, RQ3, implies_true, forall_const, Nat.reduceMul, reduceIte, reduceCtorEq, Nat.reduceAdd, Nat.reduceEqDiff, Nat.reduceLT, Nat.reduceLeDiff, I, B])) ?_
  (repeat' (first | with_reducible refine splitVC_d (fun _ => ?_) (fun _ => ?_) | ((with_reducible refine And.intro ?_ ?_); focus (first | trivial | (simp only [InK]; omega) | omega | (simp only [InK, ne_eq, and_true, true_and]; omega))) | simp -dsimp (config := { maxSteps := 2000000 }) only [↓RP, RQ0, RQ1, RQ2, RQ3, implies_true, forall_const, Nat.reduceMul, reduceIte, reduceCtorEq, Nat.reduceAdd, Nat.reduceEqDiff, Nat.reduceLT, Nat.reduceLeDiff, litR, I, B, Nat.zero_add, Int.reduceEq, decide_true, decide_false, Bool.not_true, Bool.not_false, eq_self, and_self, eq32, TY, Int.toNat_natCast, Go.Proofs.Try.results16]))
end Go.Lg
end
