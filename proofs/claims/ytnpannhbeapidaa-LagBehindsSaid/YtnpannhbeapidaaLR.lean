/- A part of the proof. -/
import Derived.Test.YtnpannhbeapidaaLA
import Derived.Test.YtnpannhbeapidaaLB
import Derived.Test.YtnpannhbeapidaaLC
import Derived.Test.YtnpannhbeapidaaLD
import Derived.Test.YtnpannhbeapidaaLE
section
set_option linter.unusedSimpArgs false
set_option linter.unusedVariables false
set_option maxRecDepth 100000
set_option maxHeartbeats 4000000
namespace Go.Lg
open Go.Sx
theorem c21 (c : Curve) (t : Int) : Contract Go.Proofs.Try.prog 21 [c.sv, I t] (.tup [I (mostV c t).1, I (mostV c t).2]) := by
  refine contract_of Go.Proofs.Try.func21 rfl (by kernel_rfl) follows (by kernel_rfl) _ _ (by rw [Go.Proofs.Try.ntmps21]; simp) (by simp [OldL, c.old]; simp [Old, I]) ?_
  unfold I
  conv => arg 4; unfold Curve.sv ints
  (repeat' (first | with_reducible refine splitVC_d (fun _ => ?_) (fun _ => ?_) | ((with_reducible refine And.intro ?_ ?_); focus (first | trivial | (simp only [InK]; omega) | omega | (simp only [InK, ne_eq, and_true, true_and]; omega))) | simp -dsimp only [↓RP, RQ0, RQ1, RQ2, RQ3, implies_true, forall_const, Nat.reduceMul, reduceIte, reduceCtorEq, Nat.reduceAdd, Nat.reduceEqDiff, Nat.reduceLT, Nat.reduceLeDiff, TY, Go.Proofs.Try.results21]))
  refine callVC (c27 c) (by (simp -dsimp only [↓RP, RQ0, RQ1, RQ2, RQ3, implies_true, forall_const, Nat.reduceMul, reduceIte, reduceCtorEq, Nat.reduceAdd, Nat.reduceEqDiff, Nat.reduceLT, Nat.reduceLeDiff, Curve.sv, ints, I]); all_goals simp) (by (simp -dsimp only [↓RP, RQ0, RQ1, RQ2, RQ3, implies_true, forall_const, Nat.reduceMul, reduceIte, reduceCtorEq, Nat.reduceAdd, Nat.reduceEqDiff, Nat.reduceLT, Nat.reduceLeDiff, I])) ?_
  (repeat' (first | with_reducible refine splitVC_d (fun _ => ?_) (fun _ => ?_) | ((with_reducible refine And.intro ?_ ?_); focus (first | trivial | (simp only [InK]; omega) | omega | (simp only [InK, ne_eq, and_true, true_and]; omega))) | simp -dsimp only [↓RP, RQ0, RQ1, RQ2, RQ3, implies_true, forall_const, Nat.reduceMul, reduceIte, reduceCtorEq, Nat.reduceAdd, Nat.reduceEqDiff, Nat.reduceLT, Nat.reduceLeDiff, I, TY, Go.Proofs.Try.results21]))
  · rename_i he ht
    unfold mostV
    rw [if_pos he, if_neg (by omega)]
    exact ⟨rfl, rfl⟩
  · rename_i he _ ht
    unfold mostV
    rw [if_pos he, if_neg (by omega)]
    exact ⟨rfl, rfl⟩
  · rename_i he h1 h2
    have hf := Curve.fine he
    obtain ⟨k, rfl⟩ : ∃ k : Nat, t = k := ⟨t.toNat, by omega⟩
    have e0 : mostV c k = (c.M k, 0) := by unfold mostV; rw [if_pos he, if_pos (by omega)]; rfl
    rw [e0]
    refine callN_old (c54 c hf k (by omega)) (by (simp -dsimp only [↓RP, RQ0, RQ1, RQ2, RQ3, implies_true, forall_const, Nat.reduceMul, reduceIte, reduceCtorEq, Nat.reduceAdd, Nat.reduceEqDiff, Nat.reduceLT, Nat.reduceLeDiff, Curve.sv, ints, I]); all_goals simp) (by (simp -dsimp only [↓RP, RQ0, RQ1, RQ2, RQ3, implies_true, forall_const, Nat.reduceMul, reduceIte, reduceCtorEq, Nat.reduceAdd, Nat.reduceEqDiff, Nat.reduceLT, Nat.reduceLeDiff, I]); all_goals simp) (by (simp -dsimp only [↓RP, RQ0, RQ1, RQ2, RQ3, implies_true, forall_const, Nat.reduceMul, reduceIte, reduceCtorEq, Nat.reduceAdd, Nat.reduceEqDiff, Nat.reduceLT, Nat.reduceLeDiff, I]); all_goals simp) ?_
    (repeat' (first | with_reducible refine splitVC_d (fun _ => ?_) (fun _ => ?_) | ((with_reducible refine And.intro ?_ ?_); focus (first | trivial | (simp only [InK]; omega) | omega | (simp only [InK, ne_eq, and_true, true_and]; omega))) | simp -dsimp only [↓RP, RQ0, RQ1, RQ2, RQ3, implies_true, forall_const, Nat.reduceMul, reduceIte, reduceCtorEq, Nat.reduceAdd, Nat.reduceEqDiff, Nat.reduceLT, Nat.reduceLeDiff, I, TY, Int.toNat_natCast, Go.Proofs.Try.results21]))
    all_goals first | (exfalso; omega) | skip
    all_goals omega
  · rename_i he
    refine callVC (c27 c) (by (simp -dsimp only [↓RP, RQ0, RQ1, RQ2, RQ3, implies_true, forall_const, Nat.reduceMul, reduceIte, reduceCtorEq, Nat.reduceAdd, Nat.reduceEqDiff, Nat.reduceLT, Nat.reduceLeDiff, Curve.sv, ints, I]); all_goals simp) (by (simp -dsimp only [↓RP, RQ0, RQ1, RQ2, RQ3, implies_true, forall_const, Nat.reduceMul, reduceIte, reduceCtorEq, Nat.reduceAdd, Nat.reduceEqDiff, Nat.reduceLT, Nat.reduceLeDiff, I])) ?_
    (repeat' (first | with_reducible refine splitVC_d (fun _ => ?_) (fun _ => ?_) | ((with_reducible refine And.intro ?_ ?_); focus (first | trivial | (simp only [InK]; omega) | omega | (simp only [InK, ne_eq, and_true, true_and]; omega))) | simp -dsimp only [↓RP, RQ0, RQ1, RQ2, RQ3, implies_true, forall_const, Nat.reduceMul, reduceIte, reduceCtorEq, Nat.reduceAdd, Nat.reduceEqDiff, Nat.reduceLT, Nat.reduceLeDiff, I, TY, Go.Proofs.Try.results21]))
    unfold mostV
    rw [if_neg he]
    exact ⟨rfl, rfl⟩
end Go.Lg
end
section
set_option linter.unusedSimpArgs false
set_option linter.unusedVariables false
set_option maxRecDepth 100000
set_option maxHeartbeats 4000000
namespace Go.Lg
open Go.Sx
theorem c23 (n : Nat) (C : Nat → Curve) (t : Int) : Contract Go.Proofs.Try.prog 23 [chn n C, I t] (.tup [I (leastV n C t).1, I (leastV n C t).2]) := by
  refine contract_of Go.Proofs.Try.func23 rfl (by kernel_rfl) follows (by kernel_rfl) _ _ (by rw [Go.Proofs.Try.ntmps23]; simp) (by simp only [OldL, chn_old, Old, I, and_self]) ?_
  unfold I
  conv => arg 4; unfold chn
  (repeat' (first | with_reducible refine splitVC_d (fun _ => ?_) (fun _ => ?_) | ((with_reducible refine And.intro ?_ ?_); focus (first | trivial | (simp only [InK]; omega) | omega | (simp only [InK, ne_eq, and_true, true_and]; omega))) | simp -dsimp only [↓RP, RQ0, RQ1, RQ2, RQ3, implies_true, forall_const, Nat.reduceMul, reduceIte, reduceCtorEq, Nat.reduceAdd, Nat.reduceEqDiff, Nat.reduceLT, Nat.reduceLeDiff, TY, Go.Proofs.Try.results23]))
  refine callVC (c55 n C) (by (simp -dsimp only [↓RP, RQ0, RQ1, RQ2, RQ3, implies_true, forall_const, Nat.reduceMul, reduceIte, reduceCtorEq, Nat.reduceAdd, Nat.reduceEqDiff, Nat.reduceLT, Nat.reduceLeDiff, chn, I]); all_goals simp) (by (simp -dsimp only [↓RP, RQ0, RQ1, RQ2, RQ3, implies_true, forall_const, Nat.reduceMul, reduceIte, reduceCtorEq, Nat.reduceAdd, Nat.reduceEqDiff, Nat.reduceLT, Nat.reduceLeDiff, I])) ?_
  (repeat' (first | with_reducible refine splitVC_d (fun _ => ?_) (fun _ => ?_) | ((with_reducible refine And.intro ?_ ?_); focus (first | trivial | (simp only [InK]; omega) | omega | (simp only [InK, ne_eq, and_true, true_and]; omega))) | simp -dsimp only [↓RP, RQ0, RQ1, RQ2, RQ3, implies_true, forall_const, Nat.reduceMul, reduceIte, reduceCtorEq, Nat.reduceAdd, Nat.reduceEqDiff, Nat.reduceLT, Nat.reduceLeDiff, I, TY, Go.Proofs.Try.results23]))
  · rename_i he ht
    unfold leastV
    rw [if_pos he, if_neg (by omega)]
    exact ⟨rfl, rfl⟩
  · rename_i he _ ht
    unfold leastV
    rw [if_pos he, if_neg (by omega)]
    exact ⟨rfl, rfl⟩
  · rename_i he h1 h2
    obtain ⟨n1, n3, hf⟩ := cErr_fine he
    obtain ⟨k, rfl⟩ : ∃ k : Nat, t = k := ⟨t.toNat, by omega⟩
    have e0 : leastV n C k = (Ls C (n - 1) k, 0) := by unfold leastV; rw [if_pos he, if_pos (by omega)]; rfl
    rw [e0]
    refine callN_old (c58 n C n1 n3 hf k (by omega)) (by (simp -dsimp only [↓RP, RQ0, RQ1, RQ2, RQ3, implies_true, forall_const, Nat.reduceMul, reduceIte, reduceCtorEq, Nat.reduceAdd, Nat.reduceEqDiff, Nat.reduceLT, Nat.reduceLeDiff, chn, I]); all_goals simp) (by (simp -dsimp only [↓RP, RQ0, RQ1, RQ2, RQ3, implies_true, forall_const, Nat.reduceMul, reduceIte, reduceCtorEq, Nat.reduceAdd, Nat.reduceEqDiff, Nat.reduceLT, Nat.reduceLeDiff, I]); all_goals simp) (by (simp -dsimp only [↓RP, RQ0, RQ1, RQ2, RQ3, implies_true, forall_const, Nat.reduceMul, reduceIte, reduceCtorEq, Nat.reduceAdd, Nat.reduceEqDiff, Nat.reduceLT, Nat.reduceLeDiff, I]); all_goals simp) ?_
    (repeat' (first | with_reducible refine splitVC_d (fun _ => ?_) (fun _ => ?_) | ((with_reducible refine And.intro ?_ ?_); focus (first | trivial | (simp only [InK]; omega) | omega | (simp only [InK, ne_eq, and_true, true_and]; omega))) | simp -dsimp only [↓RP, RQ0, RQ1, RQ2, RQ3, implies_true, forall_const, Nat.reduceMul, reduceIte, reduceCtorEq, Nat.reduceAdd, Nat.reduceEqDiff, Nat.reduceLT, Nat.reduceLeDiff, I, TY, Int.toNat_natCast, Go.Proofs.Try.results23]))
    all_goals first | (exfalso; omega) | skip
    all_goals omega
  · rename_i he
    refine callVC (c55 n C) (by (simp -dsimp only [↓RP, RQ0, RQ1, RQ2, RQ3, implies_true, forall_const, Nat.reduceMul, reduceIte, reduceCtorEq, Nat.reduceAdd, Nat.reduceEqDiff, Nat.reduceLT, Nat.reduceLeDiff, chn, I]); all_goals simp) (by (simp -dsimp only [↓RP, RQ0, RQ1, RQ2, RQ3, implies_true, forall_const, Nat.reduceMul, reduceIte, reduceCtorEq, Nat.reduceAdd, Nat.reduceEqDiff, Nat.reduceLT, Nat.reduceLeDiff, I])) ?_
    (repeat' (first | with_reducible refine splitVC_d (fun _ => ?_) (fun _ => ?_) | ((with_reducible refine And.intro ?_ ?_); focus (first | trivial | (simp only [InK]; omega) | omega | (simp only [InK, ne_eq, and_true, true_and]; omega))) | simp -dsimp only [↓RP, RQ0, RQ1, RQ2, RQ3, implies_true, forall_const, Nat.reduceMul, reduceIte, reduceCtorEq, Nat.reduceAdd, Nat.reduceEqDiff, Nat.reduceLT, Nat.reduceLeDiff, I, TY, Go.Proofs.Try.results23]))
    unfold leastV
    rw [if_neg he]
    exact ⟨rfl, rfl⟩
theorem c25 (c : Curve) (comes : Bool) : Contract Go.Proofs.Try.prog 25 [c.sv, B comes] (.tup [(rateV c comes).1, I (rateV c comes).2]) := by
  refine contract_of Go.Proofs.Try.func25 rfl (by kernel_rfl) follows (by kernel_rfl) _ _ (by rw [Go.Proofs.Try.ntmps25]; simp) (by simp [OldL, c.old]; simp [Old, B]) ?_
  unfold I B
  conv => arg 4; unfold Curve.sv ints
  (repeat' (first | with_reducible refine splitVC_d (fun _ => ?_) (fun _ => ?_) | ((with_reducible refine And.intro ?_ ?_); focus (first | trivial | (simp only [InK]; omega) | omega | (simp only [InK, ne_eq, and_true, true_and]; omega))) | simp -dsimp only [↓RP, RQ0, RQ1, RQ2, RQ3, implies_true, forall_const, Nat.reduceMul, reduceIte, reduceCtorEq, Nat.reduceAdd, Nat.reduceEqDiff, Nat.reduceLT, Nat.reduceLeDiff, TY, Go.Proofs.Try.results25]))
  refine callVC (c27 c) (by (simp -dsimp only [↓RP, RQ0, RQ1, RQ2, RQ3, implies_true, forall_const, Nat.reduceMul, reduceIte, reduceCtorEq, Nat.reduceAdd, Nat.reduceEqDiff, Nat.reduceLT, Nat.reduceLeDiff, Curve.sv, ints, I]); all_goals simp) (by (simp -dsimp only [↓RP, RQ0, RQ1, RQ2, RQ3, implies_true, forall_const, Nat.reduceMul, reduceIte, reduceCtorEq, Nat.reduceAdd, Nat.reduceEqDiff, Nat.reduceLT, Nat.reduceLeDiff, I])) ?_
  (repeat' (first | with_reducible refine splitVC_d (fun _ => ?_) (fun _ => ?_) | ((with_reducible refine And.intro ?_ ?_); focus (first | trivial | (simp only [InK]; omega) | omega | (simp only [InK, ne_eq, and_true, true_and]; omega))) | simp -dsimp only [↓RP, RQ0, RQ1, RQ2, RQ3, implies_true, forall_const, Nat.reduceMul, reduceIte, reduceCtorEq, Nat.reduceAdd, Nat.reduceEqDiff, Nat.reduceLT, Nat.reduceLeDiff, I, TY, Go.Proofs.Try.results25]))
  · rename_i he
    refine callVC (c68 c (Curve.fine he) comes) (by (simp -dsimp only [↓RP, RQ0, RQ1, RQ2, RQ3, implies_true, forall_const, Nat.reduceMul, reduceIte, reduceCtorEq, Nat.reduceAdd, Nat.reduceEqDiff, Nat.reduceLT, Nat.reduceLeDiff, Curve.sv, ints, I, B]); all_goals simp) (by (simp -dsimp only [↓RP, RQ0, RQ1, RQ2, RQ3, implies_true, forall_const, Nat.reduceMul, reduceIte, reduceCtorEq, Nat.reduceAdd, Nat.reduceEqDiff, Nat.reduceLT, Nat.reduceLeDiff, fsv, I])) ?_
    (repeat' (first | with_reducible refine splitVC_d (fun _ => ?_) (fun _ => ?_) | ((with_reducible refine And.intro ?_ ?_); focus (first | trivial | (simp only [InK]; omega) | omega | (simp only [InK, ne_eq, and_true, true_and]; omega))) | simp -dsimp only [↓RP, RQ0, RQ1, RQ2, RQ3, implies_true, forall_const, Nat.reduceMul, reduceIte, reduceCtorEq, Nat.reduceAdd, Nat.reduceEqDiff, Nat.reduceLT, Nat.reduceLeDiff, fsv, I, TY, Go.Proofs.Try.results25]))
    unfold rateV
    rw [if_pos he]
    (simp -dsimp only [↓RP, RQ0, RQ1, RQ2, RQ3, implies_true, forall_const, Nat.reduceMul, reduceIte, reduceCtorEq, Nat.reduceAdd, Nat.reduceEqDiff, Nat.reduceLT, Nat.reduceLeDiff, fsv, I])
  · rename_i he
    refine callVC (c27 c) (by (simp -dsimp only [↓RP, RQ0, RQ1, RQ2, RQ3, implies_true, forall_const, Nat.reduceMul, reduceIte, reduceCtorEq, Nat.reduceAdd, Nat.reduceEqDiff, Nat.reduceLT, Nat.reduceLeDiff, Curve.sv, ints, I]); all_goals simp) (by (simp -dsimp only [↓RP, RQ0, RQ1, RQ2, RQ3, implies_true, forall_const, Nat.reduceMul, reduceIte, reduceCtorEq, Nat.reduceAdd, Nat.reduceEqDiff, Nat.reduceLT, Nat.reduceLeDiff, I])) ?_
    (repeat' (first | with_reducible refine splitVC_d (fun _ => ?_) (fun _ => ?_) | ((with_reducible refine And.intro ?_ ?_); focus (first | trivial | (simp only [InK]; omega) | omega | (simp only [InK, ne_eq, and_true, true_and]; omega))) | simp -dsimp only [↓RP, RQ0, RQ1, RQ2, RQ3, implies_true, forall_const, Nat.reduceMul, reduceIte, reduceCtorEq, Nat.reduceAdd, Nat.reduceEqDiff, Nat.reduceLT, Nat.reduceLeDiff, I, TY, Go.Proofs.Try.results25]))
    unfold rateV
    rw [if_neg he]
    (simp -dsimp only [↓RP, RQ0, RQ1, RQ2, RQ3, implies_true, forall_const, Nat.reduceMul, reduceIte, reduceCtorEq, Nat.reduceAdd, Nat.reduceEqDiff, Nat.reduceLT, Nat.reduceLeDiff, I])
end Go.Lg
end
section
set_option linter.unusedSimpArgs false
set_option linter.unusedVariables false
set_option maxRecDepth 100000
set_option maxHeartbeats 4000000
namespace Go.Lg
open Go.Sx
theorem c30 (c a : Curve) : Contract Go.Proofs.Try.prog 30 [c.sv, a.sv] (tup3 (breakV c a)) := by
  refine contract_of Go.Proofs.Try.func30 rfl (by kernel_rfl) follows (by kernel_rfl) _ _ (by rw [Go.Proofs.Try.ntmps30]; simp) (by simp [OldL, c.old, a.old]) ?_
  unfold tup3 I
  conv => arg 4; unfold Curve.sv ints
  (repeat' (first | with_reducible refine splitVC_d (fun _ => ?_) (fun _ => ?_) | ((with_reducible refine And.intro ?_ ?_); focus (first | trivial | (simp only [InK]; omega) | omega | (simp only [InK, ne_eq, and_true, true_and]; omega))) | simp -dsimp only [↓RP, RQ0, RQ1, RQ2, RQ3, implies_true, forall_const, Nat.reduceMul, reduceIte, reduceCtorEq, Nat.reduceAdd, Nat.reduceEqDiff, Nat.reduceLT, Nat.reduceLeDiff, TY, Go.Proofs.Try.results30]))
  refine callVC (c27 c) (by (simp -dsimp only [↓RP, RQ0, RQ1, RQ2, RQ3, implies_true, forall_const, Nat.reduceMul, reduceIte, reduceCtorEq, Nat.reduceAdd, Nat.reduceEqDiff, Nat.reduceLT, Nat.reduceLeDiff, Curve.sv, ints, I]); all_goals simp) (by (simp -dsimp only [↓RP, RQ0, RQ1, RQ2, RQ3, implies_true, forall_const, Nat.reduceMul, reduceIte, reduceCtorEq, Nat.reduceAdd, Nat.reduceEqDiff, Nat.reduceLT, Nat.reduceLeDiff, I])) ?_
  (repeat' (first | with_reducible refine splitVC_d (fun _ => ?_) (fun _ => ?_) | ((with_reducible refine And.intro ?_ ?_); focus (first | trivial | (simp only [InK]; omega) | omega | (simp only [InK, ne_eq, and_true, true_and]; omega))) | simp -dsimp only [↓RP, RQ0, RQ1, RQ2, RQ3, implies_true, forall_const, Nat.reduceMul, reduceIte, reduceCtorEq, Nat.reduceAdd, Nat.reduceEqDiff, Nat.reduceLT, Nat.reduceLeDiff, I, TY, Go.Proofs.Try.results30]))
  rotate_left
  · rename_i he
    refine callVC (c27 c) (by (simp -dsimp only [↓RP, RQ0, RQ1, RQ2, RQ3, implies_true, forall_const, Nat.reduceMul, reduceIte, reduceCtorEq, Nat.reduceAdd, Nat.reduceEqDiff, Nat.reduceLT, Nat.reduceLeDiff, Curve.sv, ints, I]); all_goals simp) (by (simp -dsimp only [↓RP, RQ0, RQ1, RQ2, RQ3, implies_true, forall_const, Nat.reduceMul, reduceIte, reduceCtorEq, Nat.reduceAdd, Nat.reduceEqDiff, Nat.reduceLT, Nat.reduceLeDiff, I])) ?_
    (repeat' (first | with_reducible refine splitVC_d (fun _ => ?_) (fun _ => ?_) | ((with_reducible refine And.intro ?_ ?_); focus (first | trivial | (simp only [InK]; omega) | omega | (simp only [InK, ne_eq, and_true, true_and]; omega))) | simp -dsimp only [↓RP, RQ0, RQ1, RQ2, RQ3, implies_true, forall_const, Nat.reduceMul, reduceIte, reduceCtorEq, Nat.reduceAdd, Nat.reduceEqDiff, Nat.reduceLT, Nat.reduceLeDiff, I, TY, Go.Proofs.Try.results30]))
    unfold breakV
    rw [if_neg he]
    exact ⟨rfl, rfl, rfl⟩
  rename_i he
  have hf := Curve.fine he
  refine callVC (c72 a) (by (simp -dsimp only [↓RP, RQ0, RQ1, RQ2, RQ3, implies_true, forall_const, Nat.reduceMul, reduceIte, reduceCtorEq, Nat.reduceAdd, Nat.reduceEqDiff, Nat.reduceLT, Nat.reduceLeDiff, Curve.sv, ints, I]); all_goals simp) (by (simp -dsimp only [↓RP, RQ0, RQ1, RQ2, RQ3, implies_true, forall_const, Nat.reduceMul, reduceIte, reduceCtorEq, Nat.reduceAdd, Nat.reduceEqDiff, Nat.reduceLT, Nat.reduceLeDiff, I])) ?_
  (repeat' (first | with_reducible refine splitVC_d (fun _ => ?_) (fun _ => ?_) | ((with_reducible refine And.intro ?_ ?_); focus (first | trivial | (simp only [InK]; omega) | omega | (simp only [InK, ne_eq, and_true, true_and]; omega))) | simp -dsimp only [↓RP, RQ0, RQ1, RQ2, RQ3, implies_true, forall_const, Nat.reduceMul, reduceIte, reduceCtorEq, Nat.reduceAdd, Nat.reduceEqDiff, Nat.reduceLT, Nat.reduceLeDiff, I, TY, Go.Proofs.Try.results30]))
  rotate_left
  · rename_i hr
    refine callVC (c72 a) (by (simp -dsimp only [↓RP, RQ0, RQ1, RQ2, RQ3, implies_true, forall_const, Nat.reduceMul, reduceIte, reduceCtorEq, Nat.reduceAdd, Nat.reduceEqDiff, Nat.reduceLT, Nat.reduceLeDiff, Curve.sv, ints, I]); all_goals simp) (by (simp -dsimp only [↓RP, RQ0, RQ1, RQ2, RQ3, implies_true, forall_const, Nat.reduceMul, reduceIte, reduceCtorEq, Nat.reduceAdd, Nat.reduceEqDiff, Nat.reduceLT, Nat.reduceLeDiff, I])) ?_
    (repeat' (first | with_reducible refine splitVC_d (fun _ => ?_) (fun _ => ?_) | ((with_reducible refine And.intro ?_ ?_); focus (first | trivial | (simp only [InK]; omega) | omega | (simp only [InK, ne_eq, and_true, true_and]; omega))) | simp -dsimp only [↓RP, RQ0, RQ1, RQ2, RQ3, implies_true, forall_const, Nat.reduceMul, reduceIte, reduceCtorEq, Nat.reduceAdd, Nat.reduceEqDiff, Nat.reduceLT, Nat.reduceLeDiff, I, TY, Go.Proofs.Try.results30]))
    unfold breakV
    rw [if_pos he, if_neg hr]
    exact ⟨rfl, rfl, rfl⟩
  rename_i hr
  have ra := rErr_row hr
  have a60 := ra.m60
  have e0 : breakV c a = brkV (brkF c a 0 a.m) := by unfold breakV; rw [if_pos he, if_pos hr]
  rw [e0]
  refine callN_old (c54 c hf a.m (by omega)) (by (simp -dsimp only [↓RP, RQ0, RQ1, RQ2, RQ3, implies_true, forall_const, Nat.reduceMul, reduceIte, reduceCtorEq, Nat.reduceAdd, Nat.reduceEqDiff, Nat.reduceLT, Nat.reduceLeDiff, Curve.sv, ints, I]); all_goals simp) (by (simp -dsimp only [↓RP, RQ0, RQ1, RQ2, RQ3, implies_true, forall_const, Nat.reduceMul, reduceIte, reduceCtorEq, Nat.reduceAdd, Nat.reduceEqDiff, Nat.reduceLT, Nat.reduceLeDiff, I]); all_goals simp) (by (simp -dsimp only [↓RP, RQ0, RQ1, RQ2, RQ3, implies_true, forall_const, Nat.reduceMul, reduceIte, reduceCtorEq, Nat.reduceAdd, Nat.reduceEqDiff, Nat.reduceLT, Nat.reduceLeDiff, I]); all_goals simp) ?_
  (repeat' (first | with_reducible refine splitVC_d (fun _ => ?_) (fun _ => ?_) | ((with_reducible refine And.intro ?_ ?_); focus (first | trivial | (simp only [InK]; omega) | omega | (simp only [InK, ne_eq, and_true, true_and]; omega))) | simp -dsimp only [↓RP, RQ0, RQ1, RQ2, RQ3, implies_true, forall_const, Nat.reduceMul, reduceIte, reduceCtorEq, Nat.reduceAdd, Nat.reduceEqDiff, Nat.reduceLT, Nat.reduceLeDiff, I, TY, Int.toNat_natCast, Go.Proofs.Try.results30]))
  refine callN_old (c52 a (by omega) (fun i hi => by have := ra.rg i hi; omega)) (by (simp -dsimp only [↓RP, RQ0, RQ1, RQ2, RQ3, implies_true, forall_const, Nat.reduceMul, reduceIte, reduceCtorEq, Nat.reduceAdd, Nat.reduceEqDiff, Nat.reduceLT, Nat.reduceLeDiff, Curve.sv, ints, I]); all_goals simp) (by (simp -dsimp only [↓RP, RQ0, RQ1, RQ2, RQ3, implies_true, forall_const, Nat.reduceMul, reduceIte, reduceCtorEq, Nat.reduceAdd, Nat.reduceEqDiff, Nat.reduceLT, Nat.reduceLeDiff, I]); all_goals simp) (by (simp -dsimp only [↓RP, RQ0, RQ1, RQ2, RQ3, implies_true, forall_const, Nat.reduceMul, reduceIte, reduceCtorEq, Nat.reduceAdd, Nat.reduceEqDiff, Nat.reduceLT, Nat.reduceLeDiff, I]); all_goals simp) ?_
  (repeat' (first | with_reducible refine splitVC_d (fun _ => ?_) (fun _ => ?_) | ((with_reducible refine And.intro ?_ ?_); focus (first | trivial | (simp only [InK]; omega) | omega | (simp only [InK, ne_eq, and_true, true_and]; omega))) | simp -dsimp only [↓RP, RQ0, RQ1, RQ2, RQ3, implies_true, forall_const, Nat.reduceMul, reduceIte, reduceCtorEq, Nat.reduceAdd, Nat.reduceEqDiff, Nat.reduceLT, Nat.reduceLeDiff, I, TY, Int.toNat_natCast, Go.Proofs.Try.results30]))
  have hM := M_bound hf
  have hS := fun k hk => S_bound ra k hk
  refine loop_vc (fun (t : Nat) => t ≤ a.m ∧ brkF c a 0 a.m = brkF c a t (a.m - t)) (fun t => ⟨[(1, .arr false false a.m 1 (fun i _ => .val (.int .i64 (a.u i)))), (7, .vec 60 (a.m + 1) 1), (8, .vec 61 (a.m + 1) 1), (9, .val (.int .i64 t))], [(60, rowB (a.m + 1) c.M), (61, rowB (a.m + 1) a.S)], 62⟩) (fun t => a.m - t) 0 ⟨Nat.zero_le _, rfl⟩ (weak [(60, some 12), (61, some 14)] [] ?_ ?_ ?_) fun t ht => ?_
  · (simp -dsimp only [↓RP, RQ0, RQ1, RQ2, RQ3, implies_true, forall_const, Nat.reduceMul, reduceIte, reduceCtorEq, Nat.reduceAdd, Nat.reduceEqDiff, Nat.reduceLT, Nat.reduceLeDiff]); all_goals simp
  · (simp -dsimp only [↓RP, RQ0, RQ1, RQ2, RQ3, implies_true, forall_const, Nat.reduceMul, reduceIte, reduceCtorEq, Nat.reduceAdd, Nat.reduceEqDiff, Nat.reduceLT, Nat.reduceLeDiff]); all_goals simp
  · (simp -dsimp only [↓RP, RQ0, RQ1, RQ2, RQ3, implies_true, forall_const, Nat.reduceMul, reduceIte, reduceCtorEq, Nat.reduceAdd, Nat.reduceEqDiff, Nat.reduceLT, Nat.reduceLeDiff]); all_goals simp
  obtain ⟨ht, hb⟩ := ht
  by_cases hlt : t < a.m
  · have hb1 : a.m - t = (a.m - (t + 1)) + 1 := by omega
    rw [hb1] at hb
    (repeat' (first | with_reducible refine splitVC_d (fun _ => ?_) (fun _ => ?_) | ((with_reducible refine And.intro ?_ ?_); focus (first | trivial | (simp only [InK]; omega) | omega | (simp only [InK, ne_eq, and_true, true_and]; omega))) | simp -dsimp only [↓RP, RQ0, RQ1, RQ2, RQ3, implies_true, forall_const, Nat.reduceMul, reduceIte, reduceCtorEq, Nat.reduceAdd, Nat.reduceEqDiff, Nat.reduceLT, Nat.reduceLeDiff, I, TY, Int.toNat_natCast, Go.Proofs.Try.results30]))
    all_goals first | (exfalso; omega) | skip
    refine loop_vc (fun (k : Nat) => 1 ≤ k ∧ k ≤ a.m - t + 1 ∧ brkT c a t = fk1 (brkP c a t) k (a.m - t + 1 - k)) (fun k => ⟨[(1, .arr false false a.m 1 (fun i _ => .val (.int .i64 (a.u i)))), (7, .vec 60 (a.m + 1) 1), (8, .vec 61 (a.m + 1) 1), (9, .val (.int .i64 t)), (10, .val (.int .i64 k))], [(60, rowB (a.m + 1) c.M), (61, rowB (a.m + 1) a.S)], 62⟩) (fun k => a.m - t + 1 - k) 1 ⟨Nat.le_refl _, by omega, rfl⟩ (weak [] [] ?_ ?_ ?_) fun k hk => ?_
    · (simp -dsimp only [↓RP, RQ0, RQ1, RQ2, RQ3, implies_true, forall_const, Nat.reduceMul, reduceIte, reduceCtorEq, Nat.reduceAdd, Nat.reduceEqDiff, Nat.reduceLT, Nat.reduceLeDiff]); all_goals simp
    · (simp -dsimp only [↓RP, RQ0, RQ1, RQ2, RQ3, implies_true, forall_const, Nat.reduceMul, reduceIte, reduceCtorEq, Nat.reduceAdd, Nat.reduceEqDiff, Nat.reduceLT, Nat.reduceLeDiff]); all_goals simp
    · (simp -dsimp only [↓RP, RQ0, RQ1, RQ2, RQ3, implies_true, forall_const, Nat.reduceMul, reduceIte, reduceCtorEq, Nat.reduceAdd, Nat.reduceEqDiff, Nat.reduceLT, Nat.reduceLeDiff]); all_goals simp
    obtain ⟨hk1, hk2, hbt⟩ := hk
    have eTK : (t : Int) + (k : Int) = ((t + k : Nat) : Int) := rfl
    by_cases hkl : k ≤ a.m - t
    · have hk3 : a.m - t + 1 - k = (a.m - t - k) + 1 := by omega
      rw [hk3] at hbt
      have s1 := hS (t + k) (by omega)
      have s2 := hS t (by omega)
      have m1 := hM k
      (repeat' (first | with_reducible refine splitVC_d (fun _ => ?_) (fun _ => ?_) | ((with_reducible refine And.intro ?_ ?_); focus (first | trivial | (simp only [InK]; omega) | omega | (simp only [InK, ne_eq, and_true, true_and]; omega))) | simp -dsimp only [↓RP, RQ0, RQ1, RQ2, RQ3, implies_true, forall_const, Nat.reduceMul, reduceIte, reduceCtorEq, Nat.reduceAdd, Nat.reduceEqDiff, Nat.reduceLT, Nat.reduceLeDiff, eTK, I, TY, Int.toNat_natCast, Go.Proofs.Try.results30]))
      all_goals first | (exfalso; omega) | skip
      · rename_i hgt
        have hp : brkP c a t k = true := by unfold brkP; exact decide_eq_true hgt
        rw [fk1_pos _ _ _ hk1 hp] at hbt
        rw [hb, brkF_hit (by omega), hbt, brkV_hit hk1]
        exact ⟨rfl, rfl, rfl⟩
      · rename_i hgt
        have hp : brkP c a t k = false := by unfold brkP; exact decide_eq_false hgt
        rw [fk1_step _ _ _ hp] at hbt
        refine ⟨k + 1, ⟨by omega, by omega, by rw [hbt]; congr 1; omega⟩, by omega, weak [] [] ?_ ?_ ?_⟩
        · (simp -dsimp only [↓RP, RQ0, RQ1, RQ2, RQ3, implies_true, forall_const, Nat.reduceMul, reduceIte, reduceCtorEq, Nat.reduceAdd, Nat.reduceEqDiff, Nat.reduceLT, Nat.reduceLeDiff]); all_goals simp
        · (simp -dsimp only [↓RP, RQ0, RQ1, RQ2, RQ3, implies_true, forall_const, Nat.reduceMul, reduceIte, reduceCtorEq, Nat.reduceAdd, Nat.reduceEqDiff, Nat.reduceLT, Nat.reduceLeDiff]); all_goals simp
        · (simp -dsimp only [↓RP, RQ0, RQ1, RQ2, RQ3, implies_true, forall_const, Nat.reduceMul, reduceIte, reduceCtorEq, Nat.reduceAdd, Nat.reduceEqDiff, Nat.reduceLT, Nat.reduceLeDiff]); all_goals simp
    · have hk3 : a.m - t + 1 - k = 0 := by omega
      rw [hk3] at hbt
      rw [brkF_miss hbt] at hb
      (repeat' (first | with_reducible refine splitVC_d (fun _ => ?_) (fun _ => ?_) | ((with_reducible refine And.intro ?_ ?_); focus (first | trivial | (simp only [InK]; omega) | omega | (simp only [InK, ne_eq, and_true, true_and]; omega))) | simp -dsimp only [↓RP, RQ0, RQ1, RQ2, RQ3, implies_true, forall_const, Nat.reduceMul, reduceIte, reduceCtorEq, Nat.reduceAdd, Nat.reduceEqDiff, Nat.reduceLT, Nat.reduceLeDiff, eTK, I, TY, Int.toNat_natCast, Go.Proofs.Try.results30]))
      all_goals first | (exfalso; omega) | skip
      refine ⟨t + 1, ⟨by omega, hb⟩, by omega, weak [] [] ?_ ?_ ?_⟩
      · (simp -dsimp only [↓RP, RQ0, RQ1, RQ2, RQ3, implies_true, forall_const, Nat.reduceMul, reduceIte, reduceCtorEq, Nat.reduceAdd, Nat.reduceEqDiff, Nat.reduceLT, Nat.reduceLeDiff]); all_goals simp
      · (simp -dsimp only [↓RP, RQ0, RQ1, RQ2, RQ3, implies_true, forall_const, Nat.reduceMul, reduceIte, reduceCtorEq, Nat.reduceAdd, Nat.reduceEqDiff, Nat.reduceLT, Nat.reduceLeDiff]); all_goals simp
      · (simp -dsimp only [↓RP, RQ0, RQ1, RQ2, RQ3, implies_true, forall_const, Nat.reduceMul, reduceIte, reduceCtorEq, Nat.reduceAdd, Nat.reduceEqDiff, Nat.reduceLT, Nat.reduceLeDiff]); all_goals simp
  · have hte : t = a.m := by omega
    subst hte
    rw [Nat.sub_self] at hb
    have e1 : brkV (brkF c a 0 a.m) = (0, 0, 5) := by rw [hb]; rfl
    rw [e1]
    (repeat' (first | with_reducible refine splitVC_d (fun _ => ?_) (fun _ => ?_) | ((with_reducible refine And.intro ?_ ?_); focus (first | trivial | (simp only [InK]; omega) | omega | (simp only [InK, ne_eq, and_true, true_and]; omega))) | simp -dsimp only [↓RP, RQ0, RQ1, RQ2, RQ3, implies_true, forall_const, Nat.reduceMul, reduceIte, reduceCtorEq, Nat.reduceAdd, Nat.reduceEqDiff, Nat.reduceLT, Nat.reduceLeDiff, I, TY, Int.toNat_natCast, Go.Proofs.Try.results30]))
    all_goals first | (exfalso; omega) | skip
end Go.Lg
end
section
set_option linter.unusedSimpArgs false
set_option linter.unusedVariables false
set_option maxRecDepth 100000
set_option maxHeartbeats 4000000
namespace Go.Lg
open Go.Sx
theorem c32e (c : Curve) (t : Int) (h : cameE c t ≠ 0) : Contract Go.Proofs.Try.prog 32 [c.sv, I t] (.tup [nilS, I (cameE c t)]) := by
  refine contract_of Go.Proofs.Try.func32 rfl (by kernel_rfl) follows (by kernel_rfl) _ _ (by rw [Go.Proofs.Try.ntmps32]; simp) (by simp [OldL, c.old]; simp [Old, I]) ?_
  unfold I
  conv => arg 4; unfold Curve.sv ints
  (repeat' (first | with_reducible refine splitVC_d (fun _ => ?_) (fun _ => ?_) | ((with_reducible refine And.intro ?_ ?_); focus (first | trivial | (simp only [InK]; omega) | omega | (simp only [InK, ne_eq, and_true, true_and]; omega))) | simp -dsimp only [↓RP, RQ0, RQ1, RQ2, RQ3, implies_true, forall_const, Nat.reduceMul, reduceIte, reduceCtorEq, Nat.reduceAdd, Nat.reduceEqDiff, Nat.reduceLT, Nat.reduceLeDiff, TY, Go.Proofs.Try.results32]))
  refine callVC (c27 c) (by (simp -dsimp only [↓RP, RQ0, RQ1, RQ2, RQ3, implies_true, forall_const, Nat.reduceMul, reduceIte, reduceCtorEq, Nat.reduceAdd, Nat.reduceEqDiff, Nat.reduceLT, Nat.reduceLeDiff, Curve.sv, ints, I]); all_goals simp) (by (simp -dsimp only [↓RP, RQ0, RQ1, RQ2, RQ3, implies_true, forall_const, Nat.reduceMul, reduceIte, reduceCtorEq, Nat.reduceAdd, Nat.reduceEqDiff, Nat.reduceLT, Nat.reduceLeDiff, I])) ?_
  (repeat' (first | with_reducible refine splitVC_d (fun _ => ?_) (fun _ => ?_) | ((with_reducible refine And.intro ?_ ?_); focus (first | trivial | (simp only [InK]; omega) | omega | (simp only [InK, ne_eq, and_true, true_and]; omega))) | simp -dsimp only [↓RP, RQ0, RQ1, RQ2, RQ3, implies_true, forall_const, Nat.reduceMul, reduceIte, reduceCtorEq, Nat.reduceAdd, Nat.reduceEqDiff, Nat.reduceLT, Nat.reduceLeDiff, I, TY, Go.Proofs.Try.results32]))
  · rename_i he ht
    rw [cameE_rg he (by omega)]
  · rename_i he _ ht
    rw [cameE_rg he (by omega)]
  · rename_i he h1 h2
    exact absurd (by unfold cameE; rw [if_pos he, if_pos (by omega)]) h
  · rename_i he
    refine callVC (c27 c) (by (simp -dsimp only [↓RP, RQ0, RQ1, RQ2, RQ3, implies_true, forall_const, Nat.reduceMul, reduceIte, reduceCtorEq, Nat.reduceAdd, Nat.reduceEqDiff, Nat.reduceLT, Nat.reduceLeDiff, Curve.sv, ints, I]); all_goals simp) (by (simp -dsimp only [↓RP, RQ0, RQ1, RQ2, RQ3, implies_true, forall_const, Nat.reduceMul, reduceIte, reduceCtorEq, Nat.reduceAdd, Nat.reduceEqDiff, Nat.reduceLT, Nat.reduceLeDiff, I])) ?_
    (repeat' (first | with_reducible refine splitVC_d (fun _ => ?_) (fun _ => ?_) | ((with_reducible refine And.intro ?_ ?_); focus (first | trivial | (simp only [InK]; omega) | omega | (simp only [InK, ne_eq, and_true, true_and]; omega))) | simp -dsimp only [↓RP, RQ0, RQ1, RQ2, RQ3, implies_true, forall_const, Nat.reduceMul, reduceIte, reduceCtorEq, Nat.reduceAdd, Nat.reduceEqDiff, Nat.reduceLT, Nat.reduceLeDiff, I, TY, Go.Proofs.Try.results32]))
    rw [cameE_err he]
theorem c32 (c : Curve) (h : c.Fine) (t : Nat) (ht : t ≤ 60) : ContractN Go.Proofs.Try.prog 32 [c.sv, I t] (.rows 2 1 t (fun j _ => I (c.M (j + 1) - c.M j))) (.tup [.vec 0 t 1, I 0]) := by
  refine contractN_of Go.Proofs.Try.func32 rfl (by kernel_rfl) follows (by kernel_rfl) _ _ _ (by rw [Go.Proofs.Try.ntmps32]; simp) (by simp [OldL, c.old]; simp [Old, I]) ?_
  unfold I
  have he := Curve.err_fine h
  have hM := M_bound h
  conv => arg 4; unfold Curve.sv ints
  (repeat' (first | with_reducible refine splitVC_d (fun _ => ?_) (fun _ => ?_) | ((with_reducible refine And.intro ?_ ?_); focus (first | trivial | (simp only [InK]; omega) | omega | (simp only [InK, ne_eq, and_true, true_and]; omega))) | simp -dsimp only [↓RP, RQ0, RQ1, RQ2, RQ3, implies_true, forall_const, Nat.reduceMul, reduceIte, reduceCtorEq, Nat.reduceAdd, Nat.reduceEqDiff, Nat.reduceLT, Nat.reduceLeDiff, TY, Go.Proofs.Try.results32]))
  refine callVC (c27 c) (by (simp -dsimp only [↓RP, RQ0, RQ1, RQ2, RQ3, implies_true, forall_const, Nat.reduceMul, reduceIte, reduceCtorEq, Nat.reduceAdd, Nat.reduceEqDiff, Nat.reduceLT, Nat.reduceLeDiff, Curve.sv, ints, I]); all_goals simp) (by (simp -dsimp only [↓RP, RQ0, RQ1, RQ2, RQ3, implies_true, forall_const, Nat.reduceMul, reduceIte, reduceCtorEq, Nat.reduceAdd, Nat.reduceEqDiff, Nat.reduceLT, Nat.reduceLeDiff, I])) ?_
  (repeat' (first | with_reducible refine splitVC_d (fun _ => ?_) (fun _ => ?_) | ((with_reducible refine And.intro ?_ ?_); focus (first | trivial | (simp only [InK]; omega) | omega | (simp only [InK, ne_eq, and_true, true_and]; omega))) | simp -dsimp only [↓RP, RQ0, RQ1, RQ2, RQ3, implies_true, forall_const, Nat.reduceMul, reduceIte, reduceCtorEq, Nat.reduceAdd, Nat.reduceEqDiff, Nat.reduceLT, Nat.reduceLeDiff, I, he, decide_true, Bool.not_true, TY, Go.Proofs.Try.results32]))
  all_goals first | (exfalso; omega) | skip
  refine callN_old (c54 c h t (by omega)) (by (simp -dsimp only [↓RP, RQ0, RQ1, RQ2, RQ3, implies_true, forall_const, Nat.reduceMul, reduceIte, reduceCtorEq, Nat.reduceAdd, Nat.reduceEqDiff, Nat.reduceLT, Nat.reduceLeDiff, Curve.sv, ints, I]); all_goals simp) (by (simp -dsimp only [↓RP, RQ0, RQ1, RQ2, RQ3, implies_true, forall_const, Nat.reduceMul, reduceIte, reduceCtorEq, Nat.reduceAdd, Nat.reduceEqDiff, Nat.reduceLT, Nat.reduceLeDiff, I]); all_goals simp) (by (simp -dsimp only [↓RP, RQ0, RQ1, RQ2, RQ3, implies_true, forall_const, Nat.reduceMul, reduceIte, reduceCtorEq, Nat.reduceAdd, Nat.reduceEqDiff, Nat.reduceLT, Nat.reduceLeDiff, I]); all_goals simp) ?_
  (repeat' (first | with_reducible refine splitVC_d (fun _ => ?_) (fun _ => ?_) | ((with_reducible refine And.intro ?_ ?_); focus (first | trivial | (simp only [InK]; omega) | omega | (simp only [InK, ne_eq, and_true, true_and]; omega))) | simp -dsimp only [↓RP, RQ0, RQ1, RQ2, RQ3, implies_true, forall_const, Nat.reduceMul, reduceIte, reduceCtorEq, Nat.reduceAdd, Nat.reduceEqDiff, Nat.reduceLT, Nat.reduceLeDiff, I, TY, Int.toNat_natCast, Go.Proofs.Try.results32]))
  all_goals first | (exfalso; omega) | skip
  refine loop_vc (fun (i : Nat) => i ≤ t) (fun i => ⟨[(1, .val (.int .i64 t)), (6, .vec 60 (t + 1) 1), (7, .vec 61 i 1), (8, .val (.int .i64 ((i : Int) + 1)))], [(61, rowB i (fun j => c.M (j + 1) - c.M j)), (60, rowB (t + 1) c.M)], 62⟩) (fun i => t - i) 0 (Nat.zero_le _) (weak [(60, some 13), (61, none)] [] ?_ ?_ ?_) fun i hi => ?_
  · (simp -dsimp only [↓RP, RQ0, RQ1, RQ2, RQ3, implies_true, forall_const, Nat.reduceMul, reduceIte, reduceCtorEq, Nat.reduceAdd, Nat.reduceEqDiff, Nat.reduceLT, Nat.reduceLeDiff]); all_goals simp
  · (simp -dsimp only [↓RP, RQ0, RQ1, RQ2, RQ3, implies_true, forall_const, Nat.reduceMul, reduceIte, reduceCtorEq, Nat.reduceAdd, Nat.reduceEqDiff, Nat.reduceLT, Nat.reduceLeDiff]); all_goals simp
  · (simp -dsimp only [↓RP, RQ0, RQ1, RQ2, RQ3, implies_true, forall_const, Nat.reduceMul, reduceIte, reduceCtorEq, Nat.reduceAdd, Nat.reduceEqDiff, Nat.reduceLT, Nat.reduceLeDiff]); all_goals simp
  by_cases hlt : i < t
  · have eP : (i : Int) + 1 = ((i + 1 : Nat) : Int) := by omega
    have eM : ((i + 1 : Nat) : Int) - 1 = (i : Int) := by omega
    have m1 := hM i
    have m2 := hM (i + 1)
    (repeat' (first | with_reducible refine splitVC_d (fun _ => ?_) (fun _ => ?_) | ((with_reducible refine And.intro ?_ ?_); focus (first | trivial | (simp only [InK]; omega) | omega | (simp only [InK, ne_eq, and_true, true_and]; omega))) | simp -dsimp only [↓RP, RQ0, RQ1, RQ2, RQ3, implies_true, forall_const, Nat.reduceMul, reduceIte, reduceCtorEq, Nat.reduceAdd, Nat.reduceEqDiff, Nat.reduceLT, Nat.reduceLeDiff, eP, eM, by2, I, TY, Int.toNat_natCast, Go.Proofs.Try.results32]))
    all_goals first | (exfalso; omega) | skip
    refine ⟨⟨.inr trivial, Nat.le_refl _, fun a b ha hb => by rw [lit1 _ a b ha hb]; rfl, by omega⟩, by (first | trivial | (simp only [InK]; omega) | omega | (simp only [InK, ne_eq, and_true, true_and]; omega)), i + 1, by omega, by omega, weak [(61, some 77)] [] ?_ ?_ ?_⟩
    · (simp -dsimp only [↓RP, RQ0, RQ1, RQ2, RQ3, implies_true, forall_const, Nat.reduceMul, reduceIte, reduceCtorEq, Nat.reduceAdd, Nat.reduceEqDiff, Nat.reduceLT, Nat.reduceLeDiff]); all_goals simp
    · (simp -dsimp only [↓RP, RQ0, RQ1, RQ2, RQ3, implies_true, forall_const, Nat.reduceMul, reduceIte, reduceCtorEq, Nat.reduceAdd, Nat.reduceEqDiff, Nat.reduceLT, Nat.reduceLeDiff]); all_goals (try simp)
      exact fun a h1 h2 => app2 (fun j => .val (.int .i64 (c.M (j + 1) - c.M j))) i a h1 h2
    · (simp -dsimp only [↓RP, RQ0, RQ1, RQ2, RQ3, implies_true, forall_const, Nat.reduceMul, reduceIte, reduceCtorEq, Nat.reduceAdd, Nat.reduceEqDiff, Nat.reduceLT, Nat.reduceLeDiff]); all_goals simp
  · have hie : i = t := by omega
    subst hie
    (repeat' (first | with_reducible refine splitVC_d (fun _ => ?_) (fun _ => ?_) | ((with_reducible refine And.intro ?_ ?_); focus (first | trivial | (simp only [InK]; omega) | omega | (simp only [InK, ne_eq, and_true, true_and]; omega))) | simp -dsimp only [↓RP, RQ0, RQ1, RQ2, RQ3, implies_true, forall_const, Nat.reduceMul, reduceIte, reduceCtorEq, Nat.reduceAdd, Nat.reduceEqDiff, Nat.reduceLT, Nat.reduceLeDiff, I, TY, Int.toNat_natCast, Go.Proofs.Try.results32]))
    all_goals first | (exfalso; omega) | skip
    refine ⟨61, _, rfl, ?_, ?_⟩
    · (simp -dsimp only [↓RP, RQ0, RQ1, RQ2, RQ3, implies_true, forall_const, Nat.reduceMul, reduceIte, reduceCtorEq, Nat.reduceAdd, Nat.reduceEqDiff, Nat.reduceLT, Nat.reduceLeDiff]); all_goals (try simp)
    · (simp -dsimp only [↓RP, RQ0, RQ1, RQ2, RQ3, implies_true, forall_const, Nat.reduceMul, reduceIte, reduceCtorEq, Nat.reduceAdd, Nat.reduceEqDiff, Nat.reduceLT, Nat.reduceLeDiff])
end Go.Lg
end
section
set_option linter.unusedSimpArgs false
set_option linter.unusedVariables false
set_option maxRecDepth 100000
set_option maxHeartbeats 4000000
namespace Go.Lg
open Go.Sx
theorem c35e (c a : Curve) (h : addedE c a ≠ 0) : Contract Go.Proofs.Try.prog 35 [c.sv, a.sv] (.tup [nilS, I (addedE c a)]) := by
  refine contract_of Go.Proofs.Try.func35 rfl (by kernel_rfl) follows (by kernel_rfl) _ _ (by rw [Go.Proofs.Try.ntmps35]; simp) (by simp [OldL, c.old, a.old]) ?_
  unfold I
  conv => arg 4; unfold Curve.sv ints
  (repeat' (first | with_reducible refine splitVC_d (fun _ => ?_) (fun _ => ?_) | ((with_reducible refine And.intro ?_ ?_); focus (first | trivial | (simp only [InK]; omega) | omega | (simp only [InK, ne_eq, and_true, true_and]; omega))) | simp -dsimp only [↓RP, RQ0, RQ1, RQ2, RQ3, implies_true, forall_const, Nat.reduceMul, reduceIte, reduceCtorEq, Nat.reduceAdd, Nat.reduceEqDiff, Nat.reduceLT, Nat.reduceLeDiff, TY, Go.Proofs.Try.results35]))
  refine callVC (c27 c) (by (simp -dsimp only [↓RP, RQ0, RQ1, RQ2, RQ3, implies_true, forall_const, Nat.reduceMul, reduceIte, reduceCtorEq, Nat.reduceAdd, Nat.reduceEqDiff, Nat.reduceLT, Nat.reduceLeDiff, Curve.sv, ints, I]); all_goals simp) (by (simp -dsimp only [↓RP, RQ0, RQ1, RQ2, RQ3, implies_true, forall_const, Nat.reduceMul, reduceIte, reduceCtorEq, Nat.reduceAdd, Nat.reduceEqDiff, Nat.reduceLT, Nat.reduceLeDiff, I])) ?_
  (repeat' (first | with_reducible refine splitVC_d (fun _ => ?_) (fun _ => ?_) | ((with_reducible refine And.intro ?_ ?_); focus (first | trivial | (simp only [InK]; omega) | omega | (simp only [InK, ne_eq, and_true, true_and]; omega))) | simp -dsimp only [↓RP, RQ0, RQ1, RQ2, RQ3, implies_true, forall_const, Nat.reduceMul, reduceIte, reduceCtorEq, Nat.reduceAdd, Nat.reduceEqDiff, Nat.reduceLT, Nat.reduceLeDiff, I, TY, Go.Proofs.Try.results35]))
  rotate_left
  · rename_i he
    refine callVC (c27 c) (by (simp -dsimp only [↓RP, RQ0, RQ1, RQ2, RQ3, implies_true, forall_const, Nat.reduceMul, reduceIte, reduceCtorEq, Nat.reduceAdd, Nat.reduceEqDiff, Nat.reduceLT, Nat.reduceLeDiff, Curve.sv, ints, I]); all_goals simp) (by (simp -dsimp only [↓RP, RQ0, RQ1, RQ2, RQ3, implies_true, forall_const, Nat.reduceMul, reduceIte, reduceCtorEq, Nat.reduceAdd, Nat.reduceEqDiff, Nat.reduceLT, Nat.reduceLeDiff, I])) ?_
    (repeat' (first | with_reducible refine splitVC_d (fun _ => ?_) (fun _ => ?_) | ((with_reducible refine And.intro ?_ ?_); focus (first | trivial | (simp only [InK]; omega) | omega | (simp only [InK, ne_eq, and_true, true_and]; omega))) | simp -dsimp only [↓RP, RQ0, RQ1, RQ2, RQ3, implies_true, forall_const, Nat.reduceMul, reduceIte, reduceCtorEq, Nat.reduceAdd, Nat.reduceEqDiff, Nat.reduceLT, Nat.reduceLeDiff, I, TY, Go.Proofs.Try.results35]))
    rw [addedE_err he]
  rename_i he
  rw [addedE_row he] at h ⊢
  refine callVC (c72 a) (by (simp -dsimp only [↓RP, RQ0, RQ1, RQ2, RQ3, implies_true, forall_const, Nat.reduceMul, reduceIte, reduceCtorEq, Nat.reduceAdd, Nat.reduceEqDiff, Nat.reduceLT, Nat.reduceLeDiff, Curve.sv, ints, I]); all_goals simp) (by (simp -dsimp only [↓RP, RQ0, RQ1, RQ2, RQ3, implies_true, forall_const, Nat.reduceMul, reduceIte, reduceCtorEq, Nat.reduceAdd, Nat.reduceEqDiff, Nat.reduceLT, Nat.reduceLeDiff, I])) ?_
  (repeat' (first | with_reducible refine splitVC_d (fun _ => ?_) (fun _ => ?_) | ((with_reducible refine And.intro ?_ ?_); focus (first | trivial | (simp only [InK]; omega) | omega | (simp only [InK, ne_eq, and_true, true_and]; omega))) | simp -dsimp only [↓RP, RQ0, RQ1, RQ2, RQ3, implies_true, forall_const, Nat.reduceMul, reduceIte, reduceCtorEq, Nat.reduceAdd, Nat.reduceEqDiff, Nat.reduceLT, Nat.reduceLeDiff, I, TY, Go.Proofs.Try.results35]))
  · rename_i hr
    exact absurd hr h
  · rename_i hr
    refine callVC (c72 a) (by (simp -dsimp only [↓RP, RQ0, RQ1, RQ2, RQ3, implies_true, forall_const, Nat.reduceMul, reduceIte, reduceCtorEq, Nat.reduceAdd, Nat.reduceEqDiff, Nat.reduceLT, Nat.reduceLeDiff, Curve.sv, ints, I]); all_goals simp) (by (simp -dsimp only [↓RP, RQ0, RQ1, RQ2, RQ3, implies_true, forall_const, Nat.reduceMul, reduceIte, reduceCtorEq, Nat.reduceAdd, Nat.reduceEqDiff, Nat.reduceLT, Nat.reduceLeDiff, I])) ?_
    (repeat' (first | with_reducible refine splitVC_d (fun _ => ?_) (fun _ => ?_) | ((with_reducible refine And.intro ?_ ?_); focus (first | trivial | (simp only [InK]; omega) | omega | (simp only [InK, ne_eq, and_true, true_and]; omega))) | simp -dsimp only [↓RP, RQ0, RQ1, RQ2, RQ3, implies_true, forall_const, Nat.reduceMul, reduceIte, reduceCtorEq, Nat.reduceAdd, Nat.reduceEqDiff, Nat.reduceLT, Nat.reduceLeDiff, I, TY, Go.Proofs.Try.results35]))
theorem c35 (c a : Curve) (hc : c.Fine) (ha : Row a) : ContractN Go.Proofs.Try.prog 35 [c.sv, a.sv] (.rows 2 1 a.m (fun j _ => I (addS c a (j + 1) - addS c a j))) (.tup [.vec 0 a.m 1, I 0]) := by
  refine contractN_of Go.Proofs.Try.func35 rfl (by kernel_rfl) follows (by kernel_rfl) _ _ _ (by rw [Go.Proofs.Try.ntmps35]; simp) (by simp [OldL, c.old, a.old]) ?_
  unfold I
  have he := Curve.err_fine hc
  have hr := row_rErr ha
  have a60 := ha.m60
  conv => arg 4; unfold Curve.sv ints
  (repeat' (first | with_reducible refine splitVC_d (fun _ => ?_) (fun _ => ?_) | ((with_reducible refine And.intro ?_ ?_); focus (first | trivial | (simp only [InK]; omega) | omega | (simp only [InK, ne_eq, and_true, true_and]; omega))) | simp -dsimp only [↓RP, RQ0, RQ1, RQ2, RQ3, implies_true, forall_const, Nat.reduceMul, reduceIte, reduceCtorEq, Nat.reduceAdd, Nat.reduceEqDiff, Nat.reduceLT, Nat.reduceLeDiff, TY, Go.Proofs.Try.results35]))
  refine callVC (c27 c) (by (simp -dsimp only [↓RP, RQ0, RQ1, RQ2, RQ3, implies_true, forall_const, Nat.reduceMul, reduceIte, reduceCtorEq, Nat.reduceAdd, Nat.reduceEqDiff, Nat.reduceLT, Nat.reduceLeDiff, Curve.sv, ints, I]); all_goals simp) (by (simp -dsimp only [↓RP, RQ0, RQ1, RQ2, RQ3, implies_true, forall_const, Nat.reduceMul, reduceIte, reduceCtorEq, Nat.reduceAdd, Nat.reduceEqDiff, Nat.reduceLT, Nat.reduceLeDiff, I])) ?_
  (repeat' (first | with_reducible refine splitVC_d (fun _ => ?_) (fun _ => ?_) | ((with_reducible refine And.intro ?_ ?_); focus (first | trivial | (simp only [InK]; omega) | omega | (simp only [InK, ne_eq, and_true, true_and]; omega))) | simp -dsimp only [↓RP, RQ0, RQ1, RQ2, RQ3, implies_true, forall_const, Nat.reduceMul, reduceIte, reduceCtorEq, Nat.reduceAdd, Nat.reduceEqDiff, Nat.reduceLT, Nat.reduceLeDiff, I, he, decide_true, Bool.not_true, TY, Go.Proofs.Try.results35]))
  refine callVC (c72 a) (by (simp -dsimp only [↓RP, RQ0, RQ1, RQ2, RQ3, implies_true, forall_const, Nat.reduceMul, reduceIte, reduceCtorEq, Nat.reduceAdd, Nat.reduceEqDiff, Nat.reduceLT, Nat.reduceLeDiff, Curve.sv, ints, I]); all_goals simp) (by (simp -dsimp only [↓RP, RQ0, RQ1, RQ2, RQ3, implies_true, forall_const, Nat.reduceMul, reduceIte, reduceCtorEq, Nat.reduceAdd, Nat.reduceEqDiff, Nat.reduceLT, Nat.reduceLeDiff, I])) ?_
  (repeat' (first | with_reducible refine splitVC_d (fun _ => ?_) (fun _ => ?_) | ((with_reducible refine And.intro ?_ ?_); focus (first | trivial | (simp only [InK]; omega) | omega | (simp only [InK, ne_eq, and_true, true_and]; omega))) | simp -dsimp only [↓RP, RQ0, RQ1, RQ2, RQ3, implies_true, forall_const, Nat.reduceMul, reduceIte, reduceCtorEq, Nat.reduceAdd, Nat.reduceEqDiff, Nat.reduceLT, Nat.reduceLeDiff, I, hr, decide_true, Bool.not_true, TY, Go.Proofs.Try.results35]))
  refine callN_old (c52 a (by omega) (fun i hi => by have := ha.rg i hi; omega)) (by (simp -dsimp only [↓RP, RQ0, RQ1, RQ2, RQ3, implies_true, forall_const, Nat.reduceMul, reduceIte, reduceCtorEq, Nat.reduceAdd, Nat.reduceEqDiff, Nat.reduceLT, Nat.reduceLeDiff, Curve.sv, ints, I]); all_goals simp) (by (simp -dsimp only [↓RP, RQ0, RQ1, RQ2, RQ3, implies_true, forall_const, Nat.reduceMul, reduceIte, reduceCtorEq, Nat.reduceAdd, Nat.reduceEqDiff, Nat.reduceLT, Nat.reduceLeDiff, I]); all_goals simp) (by (simp -dsimp only [↓RP, RQ0, RQ1, RQ2, RQ3, implies_true, forall_const, Nat.reduceMul, reduceIte, reduceCtorEq, Nat.reduceAdd, Nat.reduceEqDiff, Nat.reduceLT, Nat.reduceLeDiff, I]); all_goals simp) ?_
  (repeat' (first | with_reducible refine splitVC_d (fun _ => ?_) (fun _ => ?_) | ((with_reducible refine And.intro ?_ ?_); focus (first | trivial | (simp only [InK]; omega) | omega | (simp only [InK, ne_eq, and_true, true_and]; omega))) | simp -dsimp only [↓RP, RQ0, RQ1, RQ2, RQ3, implies_true, forall_const, Nat.reduceMul, reduceIte, reduceCtorEq, Nat.reduceAdd, Nat.reduceEqDiff, Nat.reduceLT, Nat.reduceLeDiff, I, TY, Int.toNat_natCast, Go.Proofs.Try.results35]))
  refine callN (c58 1 (fun _ => c) (Nat.le_refl _) (by omega) (fun i hi => hc) a.m (by omega)) ?_ (by (simp -dsimp only [↓RP, RQ0, RQ1, RQ2, RQ3, implies_true, forall_const, Nat.reduceMul, reduceIte, reduceCtorEq, Nat.reduceAdd, Nat.reduceEqDiff, Nat.reduceLT, Nat.reduceLeDiff, I]); all_goals simp) (by (simp -dsimp only [↓RP, RQ0, RQ1, RQ2, RQ3, implies_true, forall_const, Nat.reduceMul, reduceIte, reduceCtorEq, Nat.reduceAdd, Nat.reduceEqDiff, Nat.reduceLT, Nat.reduceLeDiff, I]); all_goals simp) ?_
  · (simp -dsimp only [↓RP, RQ0, RQ1, RQ2, RQ3, implies_true, forall_const, Nat.reduceMul, reduceIte, reduceCtorEq, Nat.reduceAdd, Nat.reduceEqDiff, Nat.reduceLT, Nat.reduceLeDiff, chn, I])
    intro i j hi hj
    rw [lit1 _ i j hi hj]
    exact sub_refl _ c.old
  (repeat' (first | with_reducible refine splitVC_d (fun _ => ?_) (fun _ => ?_) | ((with_reducible refine And.intro ?_ ?_); focus (first | trivial | (simp only [InK]; omega) | omega | (simp only [InK, ne_eq, and_true, true_and]; omega))) | simp -dsimp only [↓RP, RQ0, RQ1, RQ2, RQ3, implies_true, forall_const, Nat.reduceMul, reduceIte, reduceCtorEq, Nat.reduceAdd, Nat.reduceEqDiff, Nat.reduceLT, Nat.reduceLeDiff, I, TY, Int.toNat_natCast, Go.Proofs.Try.results35]))
  refine callN (c57 (a.m + 1) a.S c.L1 (by omega) (by omega) (fun i hi => by have := S_bound ha i (by omega); omega) (fun i hi => by have := L1_bound c hc i (by omega); omega)) (by (simp -dsimp only [↓RP, RQ0, RQ1, RQ2, RQ3, implies_true, forall_const, Nat.reduceMul, reduceIte, reduceCtorEq, Nat.reduceAdd, Nat.reduceEqDiff, Nat.reduceLT, Nat.reduceLeDiff, ints, I]); all_goals (try simp); all_goals exact fun _ _ => rfl) (by (simp -dsimp only [↓RP, RQ0, RQ1, RQ2, RQ3, implies_true, forall_const, Nat.reduceMul, reduceIte, reduceCtorEq, Nat.reduceAdd, Nat.reduceEqDiff, Nat.reduceLT, Nat.reduceLeDiff, I]); all_goals simp) (by (simp -dsimp only [↓RP, RQ0, RQ1, RQ2, RQ3, implies_true, forall_const, Nat.reduceMul, reduceIte, reduceCtorEq, Nat.reduceAdd, Nat.reduceEqDiff, Nat.reduceLT, Nat.reduceLeDiff, I]); all_goals simp) ?_
  (repeat' (first | with_reducible refine splitVC_d (fun _ => ?_) (fun _ => ?_) | ((with_reducible refine And.intro ?_ ?_); focus (first | trivial | (simp only [InK]; omega) | omega | (simp only [InK, ne_eq, and_true, true_and]; omega))) | simp -dsimp only [↓RP, RQ0, RQ1, RQ2, RQ3, implies_true, forall_const, Nat.reduceMul, reduceIte, reduceCtorEq, Nat.reduceAdd, Nat.reduceEqDiff, Nat.reduceLT, Nat.reduceLeDiff, I, TY, Int.toNat_natCast, Go.Proofs.Try.results35]))
  refine loop_vc (fun (i : Nat) => i ≤ a.m) (fun i => ⟨[(6, .vec 60 (a.m + 1) 1), (7, .vec 61 i 1), (8, .val (.int .i64 ((i : Int) + 1)))], [(61, rowB i (fun j => addS c a (j + 1) - addS c a j)), (60, rowB (a.m + 1) (addS c a))], 62⟩) (fun i => a.m - i) 0 (Nat.zero_le _) (weak [(60, some 15), (61, none)] [] ?_ ?_ ?_) fun i hi => ?_
  · (simp -dsimp only [↓RP, RQ0, RQ1, RQ2, RQ3, implies_true, forall_const, Nat.reduceMul, reduceIte, reduceCtorEq, Nat.reduceAdd, Nat.reduceEqDiff, Nat.reduceLT, Nat.reduceLeDiff]); all_goals simp
  · (simp -dsimp only [↓RP, RQ0, RQ1, RQ2, RQ3, implies_true, forall_const, Nat.reduceMul, reduceIte, reduceCtorEq, Nat.reduceAdd, Nat.reduceEqDiff, Nat.reduceLT, Nat.reduceLeDiff]); all_goals (try simp)
    all_goals exact fun _ _ => rfl
  · (simp -dsimp only [↓RP, RQ0, RQ1, RQ2, RQ3, implies_true, forall_const, Nat.reduceMul, reduceIte, reduceCtorEq, Nat.reduceAdd, Nat.reduceEqDiff, Nat.reduceLT, Nat.reduceLeDiff]); all_goals simp
  by_cases hlt : i < a.m
  · have eP : (i : Int) + 1 = ((i + 1 : Nat) : Int) := by omega
    have eM : ((i + 1 : Nat) : Int) - 1 = (i : Int) := by omega
    have m1 := addS_bound hc ha i (by omega)
    have m2 := addS_bound hc ha (i + 1) (by omega)
    (repeat' (first | with_reducible refine splitVC_d (fun _ => ?_) (fun _ => ?_) | ((with_reducible refine And.intro ?_ ?_); focus (first | trivial | (simp only [InK]; omega) | omega | (simp only [InK, ne_eq, and_true, true_and]; omega))) | simp -dsimp only [↓RP, RQ0, RQ1, RQ2, RQ3, implies_true, forall_const, Nat.reduceMul, reduceIte, reduceCtorEq, Nat.reduceAdd, Nat.reduceEqDiff, Nat.reduceLT, Nat.reduceLeDiff, eP, eM, by2, I, TY, Int.toNat_natCast, Go.Proofs.Try.results35]))
    all_goals first | (exfalso; omega) | skip
    refine ⟨⟨.inr trivial, Nat.le_refl _, fun a b ha hb => by rw [lit1 _ a b ha hb]; rfl, by omega⟩, by (first | trivial | (simp only [InK]; omega) | omega | (simp only [InK, ne_eq, and_true, true_and]; omega)), i + 1, by omega, by omega, weak [(61, some 78)] [] ?_ ?_ ?_⟩
    · (simp -dsimp only [↓RP, RQ0, RQ1, RQ2, RQ3, implies_true, forall_const, Nat.reduceMul, reduceIte, reduceCtorEq, Nat.reduceAdd, Nat.reduceEqDiff, Nat.reduceLT, Nat.reduceLeDiff]); all_goals simp
    · (simp -dsimp only [↓RP, RQ0, RQ1, RQ2, RQ3, implies_true, forall_const, Nat.reduceMul, reduceIte, reduceCtorEq, Nat.reduceAdd, Nat.reduceEqDiff, Nat.reduceLT, Nat.reduceLeDiff]); all_goals (try simp)
      exact fun b h1 h2 => app2 (fun j => .val (.int .i64 (addS c a (j + 1) - addS c a j))) i b h1 h2
    · (simp -dsimp only [↓RP, RQ0, RQ1, RQ2, RQ3, implies_true, forall_const, Nat.reduceMul, reduceIte, reduceCtorEq, Nat.reduceAdd, Nat.reduceEqDiff, Nat.reduceLT, Nat.reduceLeDiff]); all_goals simp
  · have hie : i = a.m := by omega
    subst hie
    (repeat' (first | with_reducible refine splitVC_d (fun _ => ?_) (fun _ => ?_) | ((with_reducible refine And.intro ?_ ?_); focus (first | trivial | (simp only [InK]; omega) | omega | (simp only [InK, ne_eq, and_true, true_and]; omega))) | simp -dsimp only [↓RP, RQ0, RQ1, RQ2, RQ3, implies_true, forall_const, Nat.reduceMul, reduceIte, reduceCtorEq, Nat.reduceAdd, Nat.reduceEqDiff, Nat.reduceLT, Nat.reduceLeDiff, I, TY, Int.toNat_natCast, Go.Proofs.Try.results35]))
    all_goals first | (exfalso; omega) | skip
    refine ⟨61, _, rfl, ?_, ?_⟩
    · (simp -dsimp only [↓RP, RQ0, RQ1, RQ2, RQ3, implies_true, forall_const, Nat.reduceMul, reduceIte, reduceCtorEq, Nat.reduceAdd, Nat.reduceEqDiff, Nat.reduceLT, Nat.reduceLeDiff]); all_goals (try simp)
    · (simp -dsimp only [↓RP, RQ0, RQ1, RQ2, RQ3, implies_true, forall_const, Nat.reduceMul, reduceIte, reduceCtorEq, Nat.reduceAdd, Nat.reduceEqDiff, Nat.reduceLT, Nat.reduceLeDiff])
end Go.Lg
end
section
set_option linter.unusedSimpArgs false
set_option linter.unusedVariables false
set_option maxRecDepth 100000
set_option maxHeartbeats 4000000
namespace Go.Lg
open Go.Sx
theorem c37 (a d : Curve) : Contract Go.Proofs.Try.prog 37 [a.sv, d.sv] (tup3 (seenV a d)) := by
  refine contract_of Go.Proofs.Try.func37 rfl (by kernel_rfl) follows (by kernel_rfl) _ _ (by rw [Go.Proofs.Try.ntmps37]; simp) (by simp [OldL, a.old, d.old]) ?_
  unfold tup3 I
  conv => arg 4; unfold Curve.sv ints
  (repeat' (first | with_reducible refine splitVC_d (fun _ => ?_) (fun _ => ?_) | ((with_reducible refine And.intro ?_ ?_); focus (first | trivial | (simp only [InK]; omega) | omega | (simp only [InK, ne_eq, and_true, true_and]; omega))) | simp -dsimp only [↓RP, RQ0, RQ1, RQ2, RQ3, implies_true, forall_const, Nat.reduceMul, reduceIte, reduceCtorEq, Nat.reduceAdd, Nat.reduceEqDiff, Nat.reduceLT, Nat.reduceLeDiff, TY, Go.Proofs.Try.results37]))
  refine callVC (c76 a d) (by (simp -dsimp only [↓RP, RQ0, RQ1, RQ2, RQ3, implies_true, forall_const, Nat.reduceMul, reduceIte, reduceCtorEq, Nat.reduceAdd, Nat.reduceEqDiff, Nat.reduceLT, Nat.reduceLeDiff, Curve.sv, ints, I]); all_goals simp) (by (simp -dsimp only [↓RP, RQ0, RQ1, RQ2, RQ3, implies_true, forall_const, Nat.reduceMul, reduceIte, reduceCtorEq, Nat.reduceAdd, Nat.reduceEqDiff, Nat.reduceLT, Nat.reduceLeDiff, I])) ?_
  (repeat' (first | with_reducible refine splitVC_d (fun _ => ?_) (fun _ => ?_) | ((with_reducible refine And.intro ?_ ?_); focus (first | trivial | (simp only [InK]; omega) | omega | (simp only [InK, ne_eq, and_true, true_and]; omega))) | simp -dsimp only [↓RP, RQ0, RQ1, RQ2, RQ3, implies_true, forall_const, Nat.reduceMul, reduceIte, reduceCtorEq, Nat.reduceAdd, Nat.reduceEqDiff, Nat.reduceLT, Nat.reduceLeDiff, I, TY, Go.Proofs.Try.results37]))
  rotate_left
  · rename_i hr
    refine callVC (c76 a d) (by (simp -dsimp only [↓RP, RQ0, RQ1, RQ2, RQ3, implies_true, forall_const, Nat.reduceMul, reduceIte, reduceCtorEq, Nat.reduceAdd, Nat.reduceEqDiff, Nat.reduceLT, Nat.reduceLeDiff, Curve.sv, ints, I]); all_goals simp) (by (simp -dsimp only [↓RP, RQ0, RQ1, RQ2, RQ3, implies_true, forall_const, Nat.reduceMul, reduceIte, reduceCtorEq, Nat.reduceAdd, Nat.reduceEqDiff, Nat.reduceLT, Nat.reduceLeDiff, I])) ?_
    (repeat' (first | with_reducible refine splitVC_d (fun _ => ?_) (fun _ => ?_) | ((with_reducible refine And.intro ?_ ?_); focus (first | trivial | (simp only [InK]; omega) | omega | (simp only [InK, ne_eq, and_true, true_and]; omega))) | simp -dsimp only [↓RP, RQ0, RQ1, RQ2, RQ3, implies_true, forall_const, Nat.reduceMul, reduceIte, reduceCtorEq, Nat.reduceAdd, Nat.reduceEqDiff, Nat.reduceLT, Nat.reduceLeDiff, I, TY, Go.Proofs.Try.results37]))
    unfold seenV; rw [if_neg hr]
    exact ⟨rfl, rfl, rfl⟩
  rename_i hr
  have e0 : seenV a d = if a.S a.m = d.S a.m then (waitTo a d (a.m + 1), lateTo a d (a.m + 1), 0) else (0, 0, 18) := by unfold seenV; rw [if_pos hr]
  rw [e0]
  obtain ⟨ha, hd, hm, hnm⟩ := rowsV_ok hr
  have a60 := ha.m60
  have d60 := hd.m60
  refine callN_old (c52 a (by omega) (fun i hi => by have := ha.rg i hi; omega)) (by (simp -dsimp only [↓RP, RQ0, RQ1, RQ2, RQ3, implies_true, forall_const, Nat.reduceMul, reduceIte, reduceCtorEq, Nat.reduceAdd, Nat.reduceEqDiff, Nat.reduceLT, Nat.reduceLeDiff, Curve.sv, ints, I]); all_goals simp) (by (simp -dsimp only [↓RP, RQ0, RQ1, RQ2, RQ3, implies_true, forall_const, Nat.reduceMul, reduceIte, reduceCtorEq, Nat.reduceAdd, Nat.reduceEqDiff, Nat.reduceLT, Nat.reduceLeDiff, I]); all_goals simp) (by (simp -dsimp only [↓RP, RQ0, RQ1, RQ2, RQ3, implies_true, forall_const, Nat.reduceMul, reduceIte, reduceCtorEq, Nat.reduceAdd, Nat.reduceEqDiff, Nat.reduceLT, Nat.reduceLeDiff, I]); all_goals simp) ?_
  (repeat' (first | with_reducible refine splitVC_d (fun _ => ?_) (fun _ => ?_) | ((with_reducible refine And.intro ?_ ?_); focus (first | trivial | (simp only [InK]; omega) | omega | (simp only [InK, ne_eq, and_true, true_and]; omega))) | simp -dsimp only [↓RP, RQ0, RQ1, RQ2, RQ3, implies_true, forall_const, Nat.reduceMul, reduceIte, reduceCtorEq, Nat.reduceAdd, Nat.reduceEqDiff, Nat.reduceLT, Nat.reduceLeDiff, I, TY, Int.toNat_natCast, Go.Proofs.Try.results37]))
  refine callN_old (c52 d (by omega) (fun i hi => by have := hd.rg i hi; omega)) (by (simp -dsimp only [↓RP, RQ0, RQ1, RQ2, RQ3, implies_true, forall_const, Nat.reduceMul, reduceIte, reduceCtorEq, Nat.reduceAdd, Nat.reduceEqDiff, Nat.reduceLT, Nat.reduceLeDiff, Curve.sv, ints, I]); all_goals simp) (by (simp -dsimp only [↓RP, RQ0, RQ1, RQ2, RQ3, implies_true, forall_const, Nat.reduceMul, reduceIte, reduceCtorEq, Nat.reduceAdd, Nat.reduceEqDiff, Nat.reduceLT, Nat.reduceLeDiff, I]); all_goals simp) (by (simp -dsimp only [↓RP, RQ0, RQ1, RQ2, RQ3, implies_true, forall_const, Nat.reduceMul, reduceIte, reduceCtorEq, Nat.reduceAdd, Nat.reduceEqDiff, Nat.reduceLT, Nat.reduceLeDiff, I]); all_goals simp) ?_
  have eM : ((a.m + 1 : Nat) : Int) - 1 = (a.m : Int) := by omega
  have hS : sumTo d.u a.m ≤ sumTo a.u a.m := hnm a.m (by omega)
  (repeat' (first | with_reducible refine splitVC_d (fun _ => ?_) (fun _ => ?_) | ((with_reducible refine And.intro ?_ ?_); focus (first | trivial | (simp only [InK]; omega) | omega | (simp only [InK, ne_eq, and_true, true_and]; omega))) | simp -dsimp only [↓RP, RQ0, RQ1, RQ2, RQ3, implies_true, forall_const, Nat.reduceMul, reduceIte, reduceCtorEq, Nat.reduceAdd, Nat.reduceEqDiff, Nat.reduceLT, Nat.reduceLeDiff, eM, I, TY, Int.toNat_natCast, Go.Proofs.Try.results37]))
  all_goals first | (exfalso; omega) | skip
  · rename_i hlt
    rw [if_neg (show ¬ sumTo a.u a.m = sumTo d.u a.m by omega)]
    exact ⟨rfl, rfl, rfl⟩
  rename_i hlt
  have he : a.S a.m = d.S a.m := show sumTo a.u a.m = sumTo d.u a.m by omega
  rw [if_pos he]
  have hSa := fun k hk => S_bound ha k hk
  have hSd := fun k hk => S_bound hd k hk
  refine loop_vc (fun (t : Nat) => t ≤ a.m + 1) (fun t => ⟨[(7, .vec 60 (a.m + 1) 1), (8, .vec 61 (d.m + 1) 1), (9, .val (.int .i64 a.m)), (11, .val (.int .i64 (lateTo a d t))), (12, .val (.int .i64 t)), (10, .val (.int .i64 (waitTo a d t)))], [(61, rowB (d.m + 1) d.S), (60, rowB (a.m + 1) a.S)], 62⟩) (fun t => a.m + 1 - t) 0 (Nat.zero_le _) (weak [(60, some 8), (61, some 10)] [] ?_ ?_ ?_) fun t ht => ?_
  · (simp -dsimp only [↓RP, RQ0, RQ1, RQ2, RQ3, implies_true, forall_const, Nat.reduceMul, reduceIte, reduceCtorEq, Nat.reduceAdd, Nat.reduceEqDiff, Nat.reduceLT, Nat.reduceLeDiff, waitTo, lateTo]); all_goals simp
  · (simp -dsimp only [↓RP, RQ0, RQ1, RQ2, RQ3, implies_true, forall_const, Nat.reduceMul, reduceIte, reduceCtorEq, Nat.reduceAdd, Nat.reduceEqDiff, Nat.reduceLT, Nat.reduceLeDiff]); all_goals simp
  · (simp -dsimp only [↓RP, RQ0, RQ1, RQ2, RQ3, implies_true, forall_const, Nat.reduceMul, reduceIte, reduceCtorEq, Nat.reduceAdd, Nat.reduceEqDiff, Nat.reduceLT, Nat.reduceLeDiff]); all_goals simp
  by_cases hlt : t < a.m + 1
  · obtain ⟨f1, f2, f3, f4⟩ := atF_spec ha he t (by omega)
    have w1 := waitTo_bound ha hd hm t (by omega)
    have w2 := lateTo_bound ha he t (by omega)
    have b1 := hSa t (by omega)
    have b2 := hSd t (by omega)
    have eW : waitTo a d (t + 1) = max (waitTo a d t) (a.S t - d.S t) := rfl
    have eL : lateTo a d (t + 1) = max (lateTo a d t) ((atF a d t : Int) - t) := rfl
    (repeat' (first | with_reducible refine splitVC_d (fun _ => ?_) (fun _ => ?_) | ((with_reducible refine And.intro ?_ ?_); focus (first | trivial | (simp only [InK]; omega) | omega | (simp only [InK, ne_eq, and_true, true_and]; omega))) | simp -dsimp only [↓RP, RQ0, RQ1, RQ2, RQ3, implies_true, forall_const, Nat.reduceMul, reduceIte, reduceCtorEq, Nat.reduceAdd, Nat.reduceEqDiff, Nat.reduceLT, Nat.reduceLeDiff, I, TY, Int.toNat_natCast, Go.Proofs.Try.results37]))
    all_goals first | (exfalso; omega) | skip
    refine loop_vc (fun (n : Nat) => t + n ≤ atF a d t) (fun n => ⟨[(7, .vec 60 (a.m + 1) 1), (8, .vec 61 (d.m + 1) 1), (9, .val (.int .i64 a.m)), (11, .val (.int .i64 (lateTo a d t))), (12, .val (.int .i64 t)), (10, .val (.int .i64 (waitTo a d (t + 1)))), (13, .val (.int .i64 n))], [(61, rowB (d.m + 1) d.S), (60, rowB (a.m + 1) a.S)], 62⟩) (fun n => atF a d t - (t + n)) 0 (by omega) (weak [] [] ?_ ?_ ?_) fun n hn => ?_
    · (simp -dsimp only [↓RP, RQ0, RQ1, RQ2, RQ3, implies_true, forall_const, Nat.reduceMul, reduceIte, reduceCtorEq, Nat.reduceAdd, Nat.reduceEqDiff, Nat.reduceLT, Nat.reduceLeDiff, eW]); all_goals simp
    · (simp -dsimp only [↓RP, RQ0, RQ1, RQ2, RQ3, implies_true, forall_const, Nat.reduceMul, reduceIte, reduceCtorEq, Nat.reduceAdd, Nat.reduceEqDiff, Nat.reduceLT, Nat.reduceLeDiff]); all_goals simp
    · (simp -dsimp only [↓RP, RQ0, RQ1, RQ2, RQ3, implies_true, forall_const, Nat.reduceMul, reduceIte, reduceCtorEq, Nat.reduceAdd, Nat.reduceEqDiff, Nat.reduceLT, Nat.reduceLeDiff]); all_goals simp
    have eTN : (t : Int) + (n : Int) = ((t + n : Nat) : Int) := rfl
    have b3 := hSd (t + n) (by omega)
    by_cases hne : t + n < atF a d t
    · have f5 := f4 (t + n) (by omega) hne
      (repeat' (first | with_reducible refine splitVC_d (fun _ => ?_) (fun _ => ?_) | ((with_reducible refine And.intro ?_ ?_); focus (first | trivial | (simp only [InK]; omega) | omega | (simp only [InK, ne_eq, and_true, true_and]; omega))) | simp -dsimp only [↓RP, RQ0, RQ1, RQ2, RQ3, implies_true, forall_const, Nat.reduceMul, reduceIte, reduceCtorEq, Nat.reduceAdd, Nat.reduceEqDiff, Nat.reduceLT, Nat.reduceLeDiff, eTN, I, TY, Int.toNat_natCast, Go.Proofs.Try.results37]))
      all_goals first | (exfalso; omega) | skip
      refine ⟨n + 1, by omega, by omega, weak [] [] ?_ ?_ ?_⟩
      · (simp -dsimp only [↓RP, RQ0, RQ1, RQ2, RQ3, implies_true, forall_const, Nat.reduceMul, reduceIte, reduceCtorEq, Nat.reduceAdd, Nat.reduceEqDiff, Nat.reduceLT, Nat.reduceLeDiff]); all_goals simp
      · (simp -dsimp only [↓RP, RQ0, RQ1, RQ2, RQ3, implies_true, forall_const, Nat.reduceMul, reduceIte, reduceCtorEq, Nat.reduceAdd, Nat.reduceEqDiff, Nat.reduceLT, Nat.reduceLeDiff]); all_goals simp
      · (simp -dsimp only [↓RP, RQ0, RQ1, RQ2, RQ3, implies_true, forall_const, Nat.reduceMul, reduceIte, reduceCtorEq, Nat.reduceAdd, Nat.reduceEqDiff, Nat.reduceLT, Nat.reduceLeDiff]); all_goals simp
    · have hne : t + n = atF a d t := by omega
      have f6 : a.S t ≤ d.S (t + n) := by rw [hne]; exact f3
      have eN : (n : Int) = (atF a d t : Int) - t := by omega
      (repeat' (first | with_reducible refine splitVC_d (fun _ => ?_) (fun _ => ?_) | ((with_reducible refine And.intro ?_ ?_); focus (first | trivial | (simp only [InK]; omega) | omega | (simp only [InK, ne_eq, and_true, true_and]; omega))) | simp -dsimp only [↓RP, RQ0, RQ1, RQ2, RQ3, implies_true, forall_const, Nat.reduceMul, reduceIte, reduceCtorEq, Nat.reduceAdd, Nat.reduceEqDiff, Nat.reduceLT, Nat.reduceLeDiff, eTN, I, TY, Int.toNat_natCast, Go.Proofs.Try.results37]))
      all_goals first | (exfalso; omega) | skip
      refine ⟨t + 1, by omega, by omega, weak [] [] ?_ ?_ ?_⟩
      · (simp -dsimp only [↓RP, RQ0, RQ1, RQ2, RQ3, implies_true, forall_const, Nat.reduceMul, reduceIte, reduceCtorEq, Nat.reduceAdd, Nat.reduceEqDiff, Nat.reduceLT, Nat.reduceLeDiff, eL, ← eN]); all_goals simp
      · (simp -dsimp only [↓RP, RQ0, RQ1, RQ2, RQ3, implies_true, forall_const, Nat.reduceMul, reduceIte, reduceCtorEq, Nat.reduceAdd, Nat.reduceEqDiff, Nat.reduceLT, Nat.reduceLeDiff]); all_goals simp
      · (simp -dsimp only [↓RP, RQ0, RQ1, RQ2, RQ3, implies_true, forall_const, Nat.reduceMul, reduceIte, reduceCtorEq, Nat.reduceAdd, Nat.reduceEqDiff, Nat.reduceLT, Nat.reduceLeDiff]); all_goals simp
  · have hte : t = a.m + 1 := by omega
    subst hte
    (repeat' (first | with_reducible refine splitVC_d (fun _ => ?_) (fun _ => ?_) | ((with_reducible refine And.intro ?_ ?_); focus (first | trivial | (simp only [InK]; omega) | omega | (simp only [InK, ne_eq, and_true, true_and]; omega))) | simp -dsimp only [↓RP, RQ0, RQ1, RQ2, RQ3, implies_true, forall_const, Nat.reduceMul, reduceIte, reduceCtorEq, Nat.reduceAdd, Nat.reduceEqDiff, Nat.reduceLT, Nat.reduceLeDiff, I, TY, Int.toNat_natCast, Go.Proofs.Try.results37]))
    all_goals first | (exfalso; omega) | skip
end Go.Lg
end
section
set_option linter.unusedSimpArgs false
set_option linter.unusedVariables false
set_option maxRecDepth 100000
set_option maxHeartbeats 4000000
namespace Go.Lg
open Go.Sx
theorem c41 (c : Curve) (n : Nat) (C : Nat → Curve) : Contract Go.Proofs.Try.prog 41 [c.sv, chn n C] (.tup [I (waitV c n C).1, I (waitV c n C).2]) := by
  refine contract_of Go.Proofs.Try.func41 rfl (by kernel_rfl) follows (by kernel_rfl) _ _ (by rw [Go.Proofs.Try.ntmps41]; simp) (by simp only [OldL, c.old, chn_old, and_self]) ?_
  unfold I
  conv => arg 4; unfold chn Curve.sv ints
  (repeat' (first | with_reducible refine splitVC_d (fun _ => ?_) (fun _ => ?_) | ((with_reducible refine And.intro ?_ ?_); focus (first | trivial | (simp only [InK]; omega) | omega | (simp only [InK, ne_eq, and_true, true_and]; omega))) | simp -dsimp only [↓RP, RQ0, RQ1, RQ2, RQ3, implies_true, forall_const, Nat.reduceMul, reduceIte, reduceCtorEq, Nat.reduceAdd, Nat.reduceEqDiff, Nat.reduceLT, Nat.reduceLeDiff, TY, Go.Proofs.Try.results41]))
  refine callVC (c59 c n C) (by (simp -dsimp only [↓RP, RQ0, RQ1, RQ2, RQ3, implies_true, forall_const, Nat.reduceMul, reduceIte, reduceCtorEq, Nat.reduceAdd, Nat.reduceEqDiff, Nat.reduceLT, Nat.reduceLeDiff, Curve.sv, ints, chn, I]); all_goals simp) (by (simp -dsimp only [↓RP, RQ0, RQ1, RQ2, RQ3, implies_true, forall_const, Nat.reduceMul, reduceIte, reduceCtorEq, Nat.reduceAdd, Nat.reduceEqDiff, Nat.reduceLT, Nat.reduceLeDiff, I])) ?_
  (repeat' (first | with_reducible refine splitVC_d (fun _ => ?_) (fun _ => ?_) | ((with_reducible refine And.intro ?_ ?_); focus (first | trivial | (simp only [InK]; omega) | omega | (simp only [InK, ne_eq, and_true, true_and]; omega))) | simp -dsimp only [↓RP, RQ0, RQ1, RQ2, RQ3, implies_true, forall_const, Nat.reduceMul, reduceIte, reduceCtorEq, Nat.reduceAdd, Nat.reduceEqDiff, Nat.reduceLT, Nat.reduceLeDiff, I, TY, Go.Proofs.Try.results41]))
  rotate_left
  · rename_i he
    refine callVC (c59 c n C) (by (simp -dsimp only [↓RP, RQ0, RQ1, RQ2, RQ3, implies_true, forall_const, Nat.reduceMul, reduceIte, reduceCtorEq, Nat.reduceAdd, Nat.reduceEqDiff, Nat.reduceLT, Nat.reduceLeDiff, Curve.sv, ints, chn, I]); all_goals simp) (by (simp -dsimp only [↓RP, RQ0, RQ1, RQ2, RQ3, implies_true, forall_const, Nat.reduceMul, reduceIte, reduceCtorEq, Nat.reduceAdd, Nat.reduceEqDiff, Nat.reduceLT, Nat.reduceLeDiff, I])) ?_
    (repeat' (first | with_reducible refine splitVC_d (fun _ => ?_) (fun _ => ?_) | ((with_reducible refine And.intro ?_ ?_); focus (first | trivial | (simp only [InK]; omega) | omega | (simp only [InK, ne_eq, and_true, true_and]; omega))) | simp -dsimp only [↓RP, RQ0, RQ1, RQ2, RQ3, implies_true, forall_const, Nat.reduceMul, reduceIte, reduceCtorEq, Nat.reduceAdd, Nat.reduceEqDiff, Nat.reduceLT, Nat.reduceLeDiff, I, TY, Go.Proofs.Try.results41]))
    unfold waitV; rw [if_neg he]
    exact ⟨rfl, rfl⟩
  rename_i he
  have ha := ask_ok he
  have e0 : waitV c n C = (waitB c n C, 0) := by unfold waitV; rw [if_pos he]
  rw [e0]
  refine callN_old (c54 c ha.fine 180 (by omega)) (by (simp -dsimp only [↓RP, RQ0, RQ1, RQ2, RQ3, implies_true, forall_const, Nat.reduceMul, reduceIte, reduceCtorEq, Nat.reduceAdd, Nat.reduceEqDiff, Nat.reduceLT, Nat.reduceLeDiff, Curve.sv, ints, I]); all_goals simp) (by (simp -dsimp only [↓RP, RQ0, RQ1, RQ2, RQ3, implies_true, forall_const, Nat.reduceMul, reduceIte, reduceCtorEq, Nat.reduceAdd, Nat.reduceEqDiff, Nat.reduceLT, Nat.reduceLeDiff, I]); all_goals simp) (by (simp -dsimp only [↓RP, RQ0, RQ1, RQ2, RQ3, implies_true, forall_const, Nat.reduceMul, reduceIte, reduceCtorEq, Nat.reduceAdd, Nat.reduceEqDiff, Nat.reduceLT, Nat.reduceLeDiff, I]); all_goals simp) ?_
  (repeat' (first | with_reducible refine splitVC_d (fun _ => ?_) (fun _ => ?_) | ((with_reducible refine And.intro ?_ ?_); focus (first | trivial | (simp only [InK]; omega) | omega | (simp only [InK, ne_eq, and_true, true_and]; omega))) | simp -dsimp only [↓RP, RQ0, RQ1, RQ2, RQ3, implies_true, forall_const, Nat.reduceMul, reduceIte, reduceCtorEq, Nat.reduceAdd, Nat.reduceEqDiff, Nat.reduceLT, Nat.reduceLeDiff, I, TY, Int.toNat_natCast, Go.Proofs.Try.results41]))
  refine callN_old (c58 n C ha.n1 ha.n3 ha.fines 180 (by omega)) (by (simp -dsimp only [↓RP, RQ0, RQ1, RQ2, RQ3, implies_true, forall_const, Nat.reduceMul, reduceIte, reduceCtorEq, Nat.reduceAdd, Nat.reduceEqDiff, Nat.reduceLT, Nat.reduceLeDiff, chn, I]); all_goals simp) (by (simp -dsimp only [↓RP, RQ0, RQ1, RQ2, RQ3, implies_true, forall_const, Nat.reduceMul, reduceIte, reduceCtorEq, Nat.reduceAdd, Nat.reduceEqDiff, Nat.reduceLT, Nat.reduceLeDiff, I]); all_goals simp) (by (simp -dsimp only [↓RP, RQ0, RQ1, RQ2, RQ3, implies_true, forall_const, Nat.reduceMul, reduceIte, reduceCtorEq, Nat.reduceAdd, Nat.reduceEqDiff, Nat.reduceLT, Nat.reduceLeDiff, I]); all_goals simp) ?_
  (repeat' (first | with_reducible refine splitVC_d (fun _ => ?_) (fun _ => ?_) | ((with_reducible refine And.intro ?_ ?_); focus (first | trivial | (simp only [InK]; omega) | omega | (simp only [InK, ne_eq, and_true, true_and]; omega))) | simp -dsimp only [↓RP, RQ0, RQ1, RQ2, RQ3, implies_true, forall_const, Nat.reduceMul, reduceIte, reduceCtorEq, Nat.reduceAdd, Nat.reduceEqDiff, Nat.reduceLT, Nat.reduceLeDiff, I, TY, Int.toNat_natCast, Go.Proofs.Try.results41]))
  have hM := M_bound ha.fine
  have hL := fun k hk => Lc_bound ha k hk
  have hb : ∀ k, k ≤ 181 → 0 ≤ bestTo (fun k => c.M k - Lc n C k) k ∧ bestTo (fun k => c.M k - Lc n C k) k ≤ 100000 := fun k hk => ⟨bestTo_nonneg _ _, bestTo_le _ _ (by omega) k fun j hj => by have := hM j; have := hL j (by omega); show c.M j - Lc n C j ≤ 100000; omega⟩
  refine loop_vc (fun (k : Nat) => k ≤ 181) (fun k => ⟨[(6, .vec 60 181 1), (7, .vec 61 181 1), (8, .val (.int .i64 (bestTo (fun k => c.M k - Lc n C k) k))), (9, .val (.int .i64 k))], [(60, rowB 181 c.M), (61, rowB 181 (Lc n C))], 62⟩) (fun k => 181 - k) 0 (Nat.zero_le _) (weak [(60, some 7), (61, some 9)] [] ?_ ?_ ?_) fun k hk => ?_
  · (simp -dsimp only [↓RP, RQ0, RQ1, RQ2, RQ3, implies_true, forall_const, Nat.reduceMul, reduceIte, reduceCtorEq, Nat.reduceAdd, Nat.reduceEqDiff, Nat.reduceLT, Nat.reduceLeDiff, bestTo]); all_goals simp
  · (simp -dsimp only [↓RP, RQ0, RQ1, RQ2, RQ3, implies_true, forall_const, Nat.reduceMul, reduceIte, reduceCtorEq, Nat.reduceAdd, Nat.reduceEqDiff, Nat.reduceLT, Nat.reduceLeDiff]); all_goals (try simp)
    all_goals exact fun _ _ => rfl
  · (simp -dsimp only [↓RP, RQ0, RQ1, RQ2, RQ3, implies_true, forall_const, Nat.reduceMul, reduceIte, reduceCtorEq, Nat.reduceAdd, Nat.reduceEqDiff, Nat.reduceLT, Nat.reduceLeDiff]); all_goals simp
  by_cases hlt : k < 181
  · have b1 := hM k
    have b2 := hL k (by omega)
    have b3 := hb k hk
    have eB : bestTo (fun k => c.M k - Lc n C k) (k + 1) = max (bestTo (fun k => c.M k - Lc n C k) k) (c.M k - Lc n C k) := rfl
    (repeat' (first | with_reducible refine splitVC_d (fun _ => ?_) (fun _ => ?_) | ((with_reducible refine And.intro ?_ ?_); focus (first | trivial | (simp only [InK]; omega) | omega | (simp only [InK, ne_eq, and_true, true_and]; omega))) | simp -dsimp only [↓RP, RQ0, RQ1, RQ2, RQ3, implies_true, forall_const, Nat.reduceMul, reduceIte, reduceCtorEq, Nat.reduceAdd, Nat.reduceEqDiff, Nat.reduceLT, Nat.reduceLeDiff, I, TY, Int.toNat_natCast, Go.Proofs.Try.results41]))
    all_goals first | (exfalso; omega) | skip
    refine ⟨k + 1, by omega, by omega, weak [] [] ?_ ?_ ?_⟩
    · (simp -dsimp only [↓RP, RQ0, RQ1, RQ2, RQ3, implies_true, forall_const, Nat.reduceMul, reduceIte, reduceCtorEq, Nat.reduceAdd, Nat.reduceEqDiff, Nat.reduceLT, Nat.reduceLeDiff, eB]); all_goals simp
    · (simp -dsimp only [↓RP, RQ0, RQ1, RQ2, RQ3, implies_true, forall_const, Nat.reduceMul, reduceIte, reduceCtorEq, Nat.reduceAdd, Nat.reduceEqDiff, Nat.reduceLT, Nat.reduceLeDiff]); all_goals simp
    · (simp -dsimp only [↓RP, RQ0, RQ1, RQ2, RQ3, implies_true, forall_const, Nat.reduceMul, reduceIte, reduceCtorEq, Nat.reduceAdd, Nat.reduceEqDiff, Nat.reduceLT, Nat.reduceLeDiff]); all_goals simp
  · have hke : k = 181 := by omega
    subst hke
    (repeat' (first | with_reducible refine splitVC_d (fun _ => ?_) (fun _ => ?_) | ((with_reducible refine And.intro ?_ ?_); focus (first | trivial | (simp only [InK]; omega) | omega | (simp only [InK, ne_eq, and_true, true_and]; omega))) | simp -dsimp only [↓RP, RQ0, RQ1, RQ2, RQ3, implies_true, forall_const, Nat.reduceMul, reduceIte, reduceCtorEq, Nat.reduceAdd, Nat.reduceEqDiff, Nat.reduceLT, Nat.reduceLeDiff, I, TY, Int.toNat_natCast, Go.Proofs.Try.results41]))
    all_goals first | (exfalso; omega) | skip
    all_goals rfl
theorem c43 (c : Curve) (n : Nat) (C : Nat → Curve) : Contract Go.Proofs.Try.prog 43 [c.sv, chn n C] (.tup [I (lateV c n C).1, I (lateV c n C).2]) := by
  refine contract_of Go.Proofs.Try.func43 rfl (by kernel_rfl) follows (by kernel_rfl) _ _ (by rw [Go.Proofs.Try.ntmps43]; simp) (by simp only [OldL, c.old, chn_old, and_self]) ?_
  unfold I
  conv => arg 4; unfold chn Curve.sv ints
  (repeat' (first | with_reducible refine splitVC_d (fun _ => ?_) (fun _ => ?_) | ((with_reducible refine And.intro ?_ ?_); focus (first | trivial | (simp only [InK]; omega) | omega | (simp only [InK, ne_eq, and_true, true_and]; omega))) | simp -dsimp only [↓RP, RQ0, RQ1, RQ2, RQ3, implies_true, forall_const, Nat.reduceMul, reduceIte, reduceCtorEq, Nat.reduceAdd, Nat.reduceEqDiff, Nat.reduceLT, Nat.reduceLeDiff, TY, Go.Proofs.Try.results43]))
  refine callVC (c59 c n C) (by (simp -dsimp only [↓RP, RQ0, RQ1, RQ2, RQ3, implies_true, forall_const, Nat.reduceMul, reduceIte, reduceCtorEq, Nat.reduceAdd, Nat.reduceEqDiff, Nat.reduceLT, Nat.reduceLeDiff, Curve.sv, ints, chn, I]); all_goals simp) (by (simp -dsimp only [↓RP, RQ0, RQ1, RQ2, RQ3, implies_true, forall_const, Nat.reduceMul, reduceIte, reduceCtorEq, Nat.reduceAdd, Nat.reduceEqDiff, Nat.reduceLT, Nat.reduceLeDiff, I])) ?_
  (repeat' (first | with_reducible refine splitVC_d (fun _ => ?_) (fun _ => ?_) | ((with_reducible refine And.intro ?_ ?_); focus (first | trivial | (simp only [InK]; omega) | omega | (simp only [InK, ne_eq, and_true, true_and]; omega))) | simp -dsimp only [↓RP, RQ0, RQ1, RQ2, RQ3, implies_true, forall_const, Nat.reduceMul, reduceIte, reduceCtorEq, Nat.reduceAdd, Nat.reduceEqDiff, Nat.reduceLT, Nat.reduceLeDiff, I, TY, Go.Proofs.Try.results43]))
  rotate_left
  · rename_i he
    refine callVC (c59 c n C) (by (simp -dsimp only [↓RP, RQ0, RQ1, RQ2, RQ3, implies_true, forall_const, Nat.reduceMul, reduceIte, reduceCtorEq, Nat.reduceAdd, Nat.reduceEqDiff, Nat.reduceLT, Nat.reduceLeDiff, Curve.sv, ints, chn, I]); all_goals simp) (by (simp -dsimp only [↓RP, RQ0, RQ1, RQ2, RQ3, implies_true, forall_const, Nat.reduceMul, reduceIte, reduceCtorEq, Nat.reduceAdd, Nat.reduceEqDiff, Nat.reduceLT, Nat.reduceLeDiff, I])) ?_
    (repeat' (first | with_reducible refine splitVC_d (fun _ => ?_) (fun _ => ?_) | ((with_reducible refine And.intro ?_ ?_); focus (first | trivial | (simp only [InK]; omega) | omega | (simp only [InK, ne_eq, and_true, true_and]; omega))) | simp -dsimp only [↓RP, RQ0, RQ1, RQ2, RQ3, implies_true, forall_const, Nat.reduceMul, reduceIte, reduceCtorEq, Nat.reduceAdd, Nat.reduceEqDiff, Nat.reduceLT, Nat.reduceLeDiff, I, TY, Go.Proofs.Try.results43]))
    unfold lateV; rw [if_neg he]
    exact ⟨rfl, rfl⟩
  rename_i he
  have ha := ask_ok he
  have e0 : lateV c n C = (lateB c n C, 0) := by unfold lateV; rw [if_pos he]
  rw [e0]
  refine callN_old (c54 c ha.fine 180 (by omega)) (by (simp -dsimp only [↓RP, RQ0, RQ1, RQ2, RQ3, implies_true, forall_const, Nat.reduceMul, reduceIte, reduceCtorEq, Nat.reduceAdd, Nat.reduceEqDiff, Nat.reduceLT, Nat.reduceLeDiff, Curve.sv, ints, I]); all_goals simp) (by (simp -dsimp only [↓RP, RQ0, RQ1, RQ2, RQ3, implies_true, forall_const, Nat.reduceMul, reduceIte, reduceCtorEq, Nat.reduceAdd, Nat.reduceEqDiff, Nat.reduceLT, Nat.reduceLeDiff, I]); all_goals simp) (by (simp -dsimp only [↓RP, RQ0, RQ1, RQ2, RQ3, implies_true, forall_const, Nat.reduceMul, reduceIte, reduceCtorEq, Nat.reduceAdd, Nat.reduceEqDiff, Nat.reduceLT, Nat.reduceLeDiff, I]); all_goals simp) ?_
  (repeat' (first | with_reducible refine splitVC_d (fun _ => ?_) (fun _ => ?_) | ((with_reducible refine And.intro ?_ ?_); focus (first | trivial | (simp only [InK]; omega) | omega | (simp only [InK, ne_eq, and_true, true_and]; omega))) | simp -dsimp only [↓RP, RQ0, RQ1, RQ2, RQ3, implies_true, forall_const, Nat.reduceMul, reduceIte, reduceCtorEq, Nat.reduceAdd, Nat.reduceEqDiff, Nat.reduceLT, Nat.reduceLeDiff, I, TY, Int.toNat_natCast, Go.Proofs.Try.results43]))
  refine callN_old (c58 n C ha.n1 ha.n3 ha.fines 360 (by omega)) (by (simp -dsimp only [↓RP, RQ0, RQ1, RQ2, RQ3, implies_true, forall_const, Nat.reduceMul, reduceIte, reduceCtorEq, Nat.reduceAdd, Nat.reduceEqDiff, Nat.reduceLT, Nat.reduceLeDiff, chn, I]); all_goals simp) (by (simp -dsimp only [↓RP, RQ0, RQ1, RQ2, RQ3, implies_true, forall_const, Nat.reduceMul, reduceIte, reduceCtorEq, Nat.reduceAdd, Nat.reduceEqDiff, Nat.reduceLT, Nat.reduceLeDiff, I]); all_goals simp) (by (simp -dsimp only [↓RP, RQ0, RQ1, RQ2, RQ3, implies_true, forall_const, Nat.reduceMul, reduceIte, reduceCtorEq, Nat.reduceAdd, Nat.reduceEqDiff, Nat.reduceLT, Nat.reduceLeDiff, I]); all_goals simp) ?_
  (repeat' (first | with_reducible refine splitVC_d (fun _ => ?_) (fun _ => ?_) | ((with_reducible refine And.intro ?_ ?_); focus (first | trivial | (simp only [InK]; omega) | omega | (simp only [InK, ne_eq, and_true, true_and]; omega))) | simp -dsimp only [↓RP, RQ0, RQ1, RQ2, RQ3, implies_true, forall_const, Nat.reduceMul, reduceIte, reduceCtorEq, Nat.reduceAdd, Nat.reduceEqDiff, Nat.reduceLT, Nat.reduceLeDiff, I, TY, Int.toNat_natCast, Go.Proofs.Try.results43]))
  have hM := M_bound ha.fine
  have hL := fun k hk => Lc_bound ha k hk
  have hb : ∀ k, k ≤ 181 → 0 ≤ bestTo (fun k => (lateF c.M (Lc n C) k : Int) - k) k ∧ bestTo (fun k => (lateF c.M (Lc n C) k : Int) - k) k ≤ 400 := fun k hk => ⟨bestTo_nonneg _ _, bestTo_le _ _ (by omega) k fun j hj => by have := lateF_range c.M (Lc n C) j (by omega); show (lateF c.M (Lc n C) j : Int) - j ≤ 400; omega⟩
  refine loop_vc (fun (k : Nat) => k ≤ 181) (fun k => ⟨[(6, .vec 60 181 1), (7, .vec 61 361 1), (8, .val (.int .i64 (bestTo (fun k => (lateF c.M (Lc n C) k : Int) - k) k))), (9, .val (.int .i64 k))], [(60, rowB 181 c.M), (61, rowB 361 (Lc n C))], 62⟩) (fun k => 181 - k) 0 (Nat.zero_le _) (weak [(60, some 7), (61, some 9)] [] ?_ ?_ ?_) fun k hk => ?_
  · (simp -dsimp only [↓RP, RQ0, RQ1, RQ2, RQ3, implies_true, forall_const, Nat.reduceMul, reduceIte, reduceCtorEq, Nat.reduceAdd, Nat.reduceEqDiff, Nat.reduceLT, Nat.reduceLeDiff, bestTo]); all_goals simp
  · (simp -dsimp only [↓RP, RQ0, RQ1, RQ2, RQ3, implies_true, forall_const, Nat.reduceMul, reduceIte, reduceCtorEq, Nat.reduceAdd, Nat.reduceEqDiff, Nat.reduceLT, Nat.reduceLeDiff]); all_goals (try simp)
    all_goals exact fun _ _ => rfl
  · (simp -dsimp only [↓RP, RQ0, RQ1, RQ2, RQ3, implies_true, forall_const, Nat.reduceMul, reduceIte, reduceCtorEq, Nat.reduceAdd, Nat.reduceEqDiff, Nat.reduceLT, Nat.reduceLeDiff]); all_goals simp
  by_cases hlt : k < 181
  · have b1 := hM k
    have b3 := hb k hk
    obtain ⟨f1, f2⟩ := lateF_range c.M (Lc n C) k (by omega)
    have eB : bestTo (fun k => (lateF c.M (Lc n C) k : Int) - k) (k + 1) = max (bestTo (fun k => (lateF c.M (Lc n C) k : Int) - k) k) ((lateF c.M (Lc n C) k : Int) - k) := rfl
    (repeat' (first | with_reducible refine splitVC_d (fun _ => ?_) (fun _ => ?_) | ((with_reducible refine And.intro ?_ ?_); focus (first | trivial | (simp only [InK]; omega) | omega | (simp only [InK, ne_eq, and_true, true_and]; omega))) | simp -dsimp only [↓RP, RQ0, RQ1, RQ2, RQ3, implies_true, forall_const, Nat.reduceMul, reduceIte, reduceCtorEq, Nat.reduceAdd, Nat.reduceEqDiff, Nat.reduceLT, Nat.reduceLeDiff, I, TY, Int.toNat_natCast, Go.Proofs.Try.results43]))
    all_goals first | (exfalso; omega) | skip
    refine loop_vc (fun (j : Nat) => k + j ≤ lateF c.M (Lc n C) k) (fun j => ⟨[(6, .vec 60 181 1), (7, .vec 61 361 1), (8, .val (.int .i64 (bestTo (fun k => (lateF c.M (Lc n C) k : Int) - k) k))), (9, .val (.int .i64 k)), (10, .val (.int .i64 j))], [(60, rowB 181 c.M), (61, rowB 361 (Lc n C))], 62⟩) (fun j => lateF c.M (Lc n C) k - (k + j)) 0 (by omega) (weak [] [] ?_ ?_ ?_) fun j hj => ?_
    · (simp -dsimp only [↓RP, RQ0, RQ1, RQ2, RQ3, implies_true, forall_const, Nat.reduceMul, reduceIte, reduceCtorEq, Nat.reduceAdd, Nat.reduceEqDiff, Nat.reduceLT, Nat.reduceLeDiff]); all_goals simp
    · (simp -dsimp only [↓RP, RQ0, RQ1, RQ2, RQ3, implies_true, forall_const, Nat.reduceMul, reduceIte, reduceCtorEq, Nat.reduceAdd, Nat.reduceEqDiff, Nat.reduceLT, Nat.reduceLeDiff]); all_goals simp
    · (simp -dsimp only [↓RP, RQ0, RQ1, RQ2, RQ3, implies_true, forall_const, Nat.reduceMul, reduceIte, reduceCtorEq, Nat.reduceAdd, Nat.reduceEqDiff, Nat.reduceLT, Nat.reduceLeDiff]); all_goals simp
    have eKJ : (k : Int) + (j : Int) = ((k + j : Nat) : Int) := rfl
    have b2 := hL (k + j) (by omega)
    by_cases hjl : k + j < lateF c.M (Lc n C) k
    · have f3 := lateF_false c.M (Lc n C) k (k + j) (by omega) hjl
      (repeat' (first | with_reducible refine splitVC_d (fun _ => ?_) (fun _ => ?_) | ((with_reducible refine And.intro ?_ ?_); focus (first | trivial | (simp only [InK]; omega) | omega | (simp only [InK, ne_eq, and_true, true_and]; omega))) | simp -dsimp only [↓RP, RQ0, RQ1, RQ2, RQ3, implies_true, forall_const, Nat.reduceMul, reduceIte, reduceCtorEq, Nat.reduceAdd, Nat.reduceEqDiff, Nat.reduceLT, Nat.reduceLeDiff, eKJ, I, TY, Int.toNat_natCast, Go.Proofs.Try.results43]))
      all_goals first | (exfalso; omega) | skip
      refine ⟨j + 1, by omega, by omega, weak [] [] ?_ ?_ ?_⟩
      · (simp -dsimp only [↓RP, RQ0, RQ1, RQ2, RQ3, implies_true, forall_const, Nat.reduceMul, reduceIte, reduceCtorEq, Nat.reduceAdd, Nat.reduceEqDiff, Nat.reduceLT, Nat.reduceLeDiff]); all_goals simp
      · (simp -dsimp only [↓RP, RQ0, RQ1, RQ2, RQ3, implies_true, forall_const, Nat.reduceMul, reduceIte, reduceCtorEq, Nat.reduceAdd, Nat.reduceEqDiff, Nat.reduceLT, Nat.reduceLeDiff]); all_goals simp
      · (simp -dsimp only [↓RP, RQ0, RQ1, RQ2, RQ3, implies_true, forall_const, Nat.reduceMul, reduceIte, reduceCtorEq, Nat.reduceAdd, Nat.reduceEqDiff, Nat.reduceLT, Nat.reduceLeDiff]); all_goals simp
    · have hje : k + j = lateF c.M (Lc n C) k := by omega
      have eJ : (j : Int) = (lateF c.M (Lc n C) k : Int) - k := by omega
      have f4 : k + j < 360 → c.M k ≤ Lc n C (k + j) := fun h => by rw [hje] at h ⊢; exact lateF_true c.M (Lc n C) k (by omega) h
      (repeat' (first | with_reducible refine splitVC_d (fun _ => ?_) (fun _ => ?_) | ((with_reducible refine And.intro ?_ ?_); focus (first | trivial | (simp only [InK]; omega) | omega | (simp only [InK, ne_eq, and_true, true_and]; omega))) | simp -dsimp only [↓RP, RQ0, RQ1, RQ2, RQ3, implies_true, forall_const, Nat.reduceMul, reduceIte, reduceCtorEq, Nat.reduceAdd, Nat.reduceEqDiff, Nat.reduceLT, Nat.reduceLeDiff, eKJ, I, TY, Int.toNat_natCast, Go.Proofs.Try.results43]))
      all_goals first | (exfalso; omega) | skip
      all_goals
        refine ⟨k + 1, by omega, by omega, weak [] [] ?_ ?_ ?_⟩
        · (simp -dsimp only [↓RP, RQ0, RQ1, RQ2, RQ3, implies_true, forall_const, Nat.reduceMul, reduceIte, reduceCtorEq, Nat.reduceAdd, Nat.reduceEqDiff, Nat.reduceLT, Nat.reduceLeDiff, eB, ← eJ]); all_goals simp
        · (simp -dsimp only [↓RP, RQ0, RQ1, RQ2, RQ3, implies_true, forall_const, Nat.reduceMul, reduceIte, reduceCtorEq, Nat.reduceAdd, Nat.reduceEqDiff, Nat.reduceLT, Nat.reduceLeDiff]); all_goals simp
        · (simp -dsimp only [↓RP, RQ0, RQ1, RQ2, RQ3, implies_true, forall_const, Nat.reduceMul, reduceIte, reduceCtorEq, Nat.reduceAdd, Nat.reduceEqDiff, Nat.reduceLT, Nat.reduceLeDiff]); all_goals simp
  · have hke : k = 181 := by omega
    subst hke
    (repeat' (first | with_reducible refine splitVC_d (fun _ => ?_) (fun _ => ?_) | ((with_reducible refine And.intro ?_ ?_); focus (first | trivial | (simp only [InK]; omega) | omega | (simp only [InK, ne_eq, and_true, true_and]; omega))) | simp -dsimp only [↓RP, RQ0, RQ1, RQ2, RQ3, implies_true, forall_const, Nat.reduceMul, reduceIte, reduceCtorEq, Nat.reduceAdd, Nat.reduceEqDiff, Nat.reduceLT, Nat.reduceLeDiff, I, TY, Int.toNat_natCast, Go.Proofs.Try.results43]))
    all_goals first | (exfalso; omega) | skip
    all_goals rfl
theorem c45e (c : Curve) (n : Nat) (C : Nat → Curve) (h : askE c n C ≠ 0) : Contract Go.Proofs.Try.prog 45 [c.sv, chn n C] (.tup [nilS, I (askE c n C)]) := by
  refine contract_of Go.Proofs.Try.func45 rfl (by kernel_rfl) follows (by kernel_rfl) _ _ (by rw [Go.Proofs.Try.ntmps45]; simp) (by simp only [OldL, c.old, chn_old, and_self]) ?_
  unfold I
  conv => arg 4; unfold chn Curve.sv ints
  (repeat' (first | with_reducible refine splitVC_d (fun _ => ?_) (fun _ => ?_) | ((with_reducible refine And.intro ?_ ?_); focus (first | trivial | (simp only [InK]; omega) | omega | (simp only [InK, ne_eq, and_true, true_and]; omega))) | simp -dsimp only [↓RP, RQ0, RQ1, RQ2, RQ3, implies_true, forall_const, Nat.reduceMul, reduceIte, reduceCtorEq, Nat.reduceAdd, Nat.reduceEqDiff, Nat.reduceLT, Nat.reduceLeDiff, TY, Go.Proofs.Try.results45]))
  refine callVC (c59 c n C) (by (simp -dsimp only [↓RP, RQ0, RQ1, RQ2, RQ3, implies_true, forall_const, Nat.reduceMul, reduceIte, reduceCtorEq, Nat.reduceAdd, Nat.reduceEqDiff, Nat.reduceLT, Nat.reduceLeDiff, Curve.sv, ints, chn, I]); all_goals simp) (by (simp -dsimp only [↓RP, RQ0, RQ1, RQ2, RQ3, implies_true, forall_const, Nat.reduceMul, reduceIte, reduceCtorEq, Nat.reduceAdd, Nat.reduceEqDiff, Nat.reduceLT, Nat.reduceLeDiff, I])) ?_
  (repeat' (first | with_reducible refine splitVC_d (fun _ => ?_) (fun _ => ?_) | ((with_reducible refine And.intro ?_ ?_); focus (first | trivial | (simp only [InK]; omega) | omega | (simp only [InK, ne_eq, and_true, true_and]; omega))) | simp -dsimp only [↓RP, RQ0, RQ1, RQ2, RQ3, implies_true, forall_const, Nat.reduceMul, reduceIte, reduceCtorEq, Nat.reduceAdd, Nat.reduceEqDiff, Nat.reduceLT, Nat.reduceLeDiff, I, TY, Go.Proofs.Try.results45]))
  · rename_i he; exact absurd he h
  · refine callVC (c59 c n C) (by (simp -dsimp only [↓RP, RQ0, RQ1, RQ2, RQ3, implies_true, forall_const, Nat.reduceMul, reduceIte, reduceCtorEq, Nat.reduceAdd, Nat.reduceEqDiff, Nat.reduceLT, Nat.reduceLeDiff, Curve.sv, ints, chn, I]); all_goals simp) (by (simp -dsimp only [↓RP, RQ0, RQ1, RQ2, RQ3, implies_true, forall_const, Nat.reduceMul, reduceIte, reduceCtorEq, Nat.reduceAdd, Nat.reduceEqDiff, Nat.reduceLT, Nat.reduceLeDiff, I])) ?_
    (repeat' (first | with_reducible refine splitVC_d (fun _ => ?_) (fun _ => ?_) | ((with_reducible refine And.intro ?_ ?_); focus (first | trivial | (simp only [InK]; omega) | omega | (simp only [InK, ne_eq, and_true, true_and]; omega))) | simp -dsimp only [↓RP, RQ0, RQ1, RQ2, RQ3, implies_true, forall_const, Nat.reduceMul, reduceIte, reduceCtorEq, Nat.reduceAdd, Nat.reduceEqDiff, Nat.reduceLT, Nat.reduceLeDiff, I, TY, Go.Proofs.Try.results45]))
theorem c45 (c : Curve) (n : Nat) (C : Nat → Curve) (he : askE c n C = 0) : ContractN Go.Proofs.Try.prog 45 [c.sv, chn n C] (.rows 2 1 c.m (fun j _ => I (behB c n C (j + 1)))) (.tup [.vec 0 c.m 1, I 0]) := by
  refine contractN_of Go.Proofs.Try.func45 rfl (by kernel_rfl) follows (by kernel_rfl) _ _ _ (by rw [Go.Proofs.Try.ntmps45]; simp) (by simp only [OldL, c.old, chn_old, and_self]) ?_
  have ha := ask_ok he
  have hm6 := ha.fine.m6
  unfold I
  conv => arg 4; unfold chn Curve.sv ints
  (repeat' (first | with_reducible refine splitVC_d (fun _ => ?_) (fun _ => ?_) | ((with_reducible refine And.intro ?_ ?_); focus (first | trivial | (simp only [InK]; omega) | omega | (simp only [InK, ne_eq, and_true, true_and]; omega))) | simp -dsimp only [↓RP, RQ0, RQ1, RQ2, RQ3, implies_true, forall_const, Nat.reduceMul, reduceIte, reduceCtorEq, Nat.reduceAdd, Nat.reduceEqDiff, Nat.reduceLT, Nat.reduceLeDiff, TY, Go.Proofs.Try.results45]))
  refine callVC (c59 c n C) (by (simp -dsimp only [↓RP, RQ0, RQ1, RQ2, RQ3, implies_true, forall_const, Nat.reduceMul, reduceIte, reduceCtorEq, Nat.reduceAdd, Nat.reduceEqDiff, Nat.reduceLT, Nat.reduceLeDiff, Curve.sv, ints, chn, I]); all_goals simp) (by (simp -dsimp only [↓RP, RQ0, RQ1, RQ2, RQ3, implies_true, forall_const, Nat.reduceMul, reduceIte, reduceCtorEq, Nat.reduceAdd, Nat.reduceEqDiff, Nat.reduceLT, Nat.reduceLeDiff, I])) ?_
  (repeat' (first | with_reducible refine splitVC_d (fun _ => ?_) (fun _ => ?_) | ((with_reducible refine And.intro ?_ ?_); focus (first | trivial | (simp only [InK]; omega) | omega | (simp only [InK, ne_eq, and_true, true_and]; omega))) | simp -dsimp only [↓RP, RQ0, RQ1, RQ2, RQ3, implies_true, forall_const, Nat.reduceMul, reduceIte, reduceCtorEq, Nat.reduceAdd, Nat.reduceEqDiff, Nat.reduceLT, Nat.reduceLeDiff, I, he, decide_true, Bool.not_true, TY, Go.Proofs.Try.results45]))
  refine callN_old (c54 c ha.fine 186 (by omega)) (by (simp -dsimp only [↓RP, RQ0, RQ1, RQ2, RQ3, implies_true, forall_const, Nat.reduceMul, reduceIte, reduceCtorEq, Nat.reduceAdd, Nat.reduceEqDiff, Nat.reduceLT, Nat.reduceLeDiff, Curve.sv, ints, I]); all_goals simp) (by (simp -dsimp only [↓RP, RQ0, RQ1, RQ2, RQ3, implies_true, forall_const, Nat.reduceMul, reduceIte, reduceCtorEq, Nat.reduceAdd, Nat.reduceEqDiff, Nat.reduceLT, Nat.reduceLeDiff, I]); all_goals simp) (by (simp -dsimp only [↓RP, RQ0, RQ1, RQ2, RQ3, implies_true, forall_const, Nat.reduceMul, reduceIte, reduceCtorEq, Nat.reduceAdd, Nat.reduceEqDiff, Nat.reduceLT, Nat.reduceLeDiff, I]); all_goals simp) ?_
  (repeat' (first | with_reducible refine splitVC_d (fun _ => ?_) (fun _ => ?_) | ((with_reducible refine And.intro ?_ ?_); focus (first | trivial | (simp only [InK]; omega) | omega | (simp only [InK, ne_eq, and_true, true_and]; omega))) | simp -dsimp only [↓RP, RQ0, RQ1, RQ2, RQ3, implies_true, forall_const, Nat.reduceMul, reduceIte, reduceCtorEq, Nat.reduceAdd, Nat.reduceEqDiff, Nat.reduceLT, Nat.reduceLeDiff, I, TY, Int.toNat_natCast, Go.Proofs.Try.results45]))
  refine callN_old (c58 n C ha.n1 ha.n3 ha.fines 180 (by omega)) (by (simp -dsimp only [↓RP, RQ0, RQ1, RQ2, RQ3, implies_true, forall_const, Nat.reduceMul, reduceIte, reduceCtorEq, Nat.reduceAdd, Nat.reduceEqDiff, Nat.reduceLT, Nat.reduceLeDiff, chn, I]); all_goals simp) (by (simp -dsimp only [↓RP, RQ0, RQ1, RQ2, RQ3, implies_true, forall_const, Nat.reduceMul, reduceIte, reduceCtorEq, Nat.reduceAdd, Nat.reduceEqDiff, Nat.reduceLT, Nat.reduceLeDiff, I]); all_goals simp) (by (simp -dsimp only [↓RP, RQ0, RQ1, RQ2, RQ3, implies_true, forall_const, Nat.reduceMul, reduceIte, reduceCtorEq, Nat.reduceAdd, Nat.reduceEqDiff, Nat.reduceLT, Nat.reduceLeDiff, I]); all_goals simp) ?_
  (repeat' (first | with_reducible refine splitVC_d (fun _ => ?_) (fun _ => ?_) | ((with_reducible refine And.intro ?_ ?_); focus (first | trivial | (simp only [InK]; omega) | omega | (simp only [InK, ne_eq, and_true, true_and]; omega))) | simp -dsimp only [↓RP, RQ0, RQ1, RQ2, RQ3, implies_true, forall_const, Nat.reduceMul, reduceIte, reduceCtorEq, Nat.reduceAdd, Nat.reduceEqDiff, Nat.reduceLT, Nat.reduceLeDiff, I, TY, Int.toNat_natCast, Go.Proofs.Try.results45]))
  have hM := M_bound ha.fine
  have hL := fun k hk => Lc_bound ha k hk
  have hb : ∀ i u, i ≤ 6 → u ≤ 181 → 0 ≤ bestTo (fun u => c.M (i + u) - Lc n C u) u ∧ bestTo (fun u => c.M (i + u) - Lc n C u) u ≤ 100000 := fun i u hi hu => ⟨bestTo_nonneg _ _, bestTo_le _ _ (by omega) u fun j hj => by have := hM (i + j); have := hL j (by omega); show c.M (i + j) - Lc n C j ≤ 100000; omega⟩
  refine loop_vc (fun (i : Nat) => i ≤ c.m) (fun i => ⟨[(0, .arr false false c.m 1 (fun i _ => .val (.int .i64 (c.u i)))), (6, .vec 60 187 1), (7, .vec 61 181 1), (8, .vec 62 i 1), (9, .val (.int .i64 ((i : Int) + 1)))], [(60, rowB 187 c.M), (61, rowB 181 (Lc n C)), (62, rowB i (fun j => behB c n C (j + 1)))], 63⟩) (fun i => c.m - i) 0 (Nat.zero_le _) (weak [(60, some 7), (61, some 9), (62, none)] [] ?_ ?_ ?_) fun i hi => ?_
  · (simp -dsimp only [↓RP, RQ0, RQ1, RQ2, RQ3, implies_true, forall_const, Nat.reduceMul, reduceIte, reduceCtorEq, Nat.reduceAdd, Nat.reduceEqDiff, Nat.reduceLT, Nat.reduceLeDiff]); all_goals simp
  · (simp -dsimp only [↓RP, RQ0, RQ1, RQ2, RQ3, implies_true, forall_const, Nat.reduceMul, reduceIte, reduceCtorEq, Nat.reduceAdd, Nat.reduceEqDiff, Nat.reduceLT, Nat.reduceLeDiff]); all_goals (try simp)
    all_goals exact fun _ _ => rfl
  · (simp -dsimp only [↓RP, RQ0, RQ1, RQ2, RQ3, implies_true, forall_const, Nat.reduceMul, reduceIte, reduceCtorEq, Nat.reduceAdd, Nat.reduceEqDiff, Nat.reduceLT, Nat.reduceLeDiff]); all_goals simp
  by_cases hlt : i < c.m
  · have eP : (i : Int) + 1 = ((i + 1 : Nat) : Int) := by omega
    (repeat' (first | with_reducible refine splitVC_d (fun _ => ?_) (fun _ => ?_) | ((with_reducible refine And.intro ?_ ?_); focus (first | trivial | (simp only [InK]; omega) | omega | (simp only [InK, ne_eq, and_true, true_and]; omega))) | simp -dsimp only [↓RP, RQ0, RQ1, RQ2, RQ3, implies_true, forall_const, Nat.reduceMul, reduceIte, reduceCtorEq, Nat.reduceAdd, Nat.reduceEqDiff, Nat.reduceLT, Nat.reduceLeDiff, eP, I, TY, Int.toNat_natCast, Go.Proofs.Try.results45]))
    all_goals first | (exfalso; omega) | skip
    refine loop_vc (fun (u : Nat) => u ≤ 181) (fun u => ⟨[(0, .arr false false c.m 1 (fun i _ => .val (.int .i64 (c.u i)))), (6, .vec 60 187 1), (7, .vec 61 181 1), (8, .vec 62 i 1), (9, .val (.int .i64 ((i + 1 : Nat) : Int))), (10, .val (.int .i64 (bestTo (fun u => c.M (i + 1 + u) - Lc n C u) u))), (11, .val (.int .i64 u))], [(60, rowB 187 c.M), (61, rowB 181 (Lc n C)), (62, rowB i (fun j => behB c n C (j + 1)))], 63⟩) (fun u => 181 - u) 0 (Nat.zero_le _) (weak [] [] ?_ ?_ ?_) fun u hu => ?_
    · (simp -dsimp only [↓RP, RQ0, RQ1, RQ2, RQ3, implies_true, forall_const, Nat.reduceMul, reduceIte, reduceCtorEq, Nat.reduceAdd, Nat.reduceEqDiff, Nat.reduceLT, Nat.reduceLeDiff, bestTo]); all_goals simp
    · (simp -dsimp only [↓RP, RQ0, RQ1, RQ2, RQ3, implies_true, forall_const, Nat.reduceMul, reduceIte, reduceCtorEq, Nat.reduceAdd, Nat.reduceEqDiff, Nat.reduceLT, Nat.reduceLeDiff]); all_goals simp
    · (simp -dsimp only [↓RP, RQ0, RQ1, RQ2, RQ3, implies_true, forall_const, Nat.reduceMul, reduceIte, reduceCtorEq, Nat.reduceAdd, Nat.reduceEqDiff, Nat.reduceLT, Nat.reduceLeDiff]); all_goals simp
    by_cases hul : u < 181
    · have eIU : ((i + 1 : Nat) : Int) + (u : Int) = ((i + 1 + u : Nat) : Int) := rfl
      have b1 := hM (i + 1 + u)
      have b2 := hL u (by omega)
      have b3 := hb (i + 1) u (by omega) hu
      have eB : bestTo (fun u => c.M (i + 1 + u) - Lc n C u) (u + 1) = max (bestTo (fun u => c.M (i + 1 + u) - Lc n C u) u) (c.M (i + 1 + u) - Lc n C u) := rfl
      (repeat' (first | with_reducible refine splitVC_d (fun _ => ?_) (fun _ => ?_) | ((with_reducible refine And.intro ?_ ?_); focus (first | trivial | (simp only [InK]; omega) | omega | (simp only [InK, ne_eq, and_true, true_and]; omega))) | simp -dsimp only [↓RP, RQ0, RQ1, RQ2, RQ3, implies_true, forall_const, Nat.reduceMul, reduceIte, reduceCtorEq, Nat.reduceAdd, Nat.reduceEqDiff, Nat.reduceLT, Nat.reduceLeDiff, eIU, I, TY, Int.toNat_natCast, Go.Proofs.Try.results45]))
      all_goals first | (exfalso; omega) | skip
      refine ⟨u + 1, by omega, by omega, weak [] [] ?_ ?_ ?_⟩
      · (simp -dsimp only [↓RP, RQ0, RQ1, RQ2, RQ3, implies_true, forall_const, Nat.reduceMul, reduceIte, reduceCtorEq, Nat.reduceAdd, Nat.reduceEqDiff, Nat.reduceLT, Nat.reduceLeDiff, eB]); all_goals simp
      · (simp -dsimp only [↓RP, RQ0, RQ1, RQ2, RQ3, implies_true, forall_const, Nat.reduceMul, reduceIte, reduceCtorEq, Nat.reduceAdd, Nat.reduceEqDiff, Nat.reduceLT, Nat.reduceLeDiff]); all_goals simp
      · (simp -dsimp only [↓RP, RQ0, RQ1, RQ2, RQ3, implies_true, forall_const, Nat.reduceMul, reduceIte, reduceCtorEq, Nat.reduceAdd, Nat.reduceEqDiff, Nat.reduceLT, Nat.reduceLeDiff]); all_goals simp
    · have hue : u = 181 := by omega
      subst hue
      have b3 := hb (i + 1) 181 (by omega) (by omega)
      have eH : bestTo (fun u => c.M (i + 1 + u) - Lc n C u) 181 = behB c n C (i + 1) := rfl
      (repeat' (first | with_reducible refine splitVC_d (fun _ => ?_) (fun _ => ?_) | ((with_reducible refine And.intro ?_ ?_); focus (first | trivial | (simp only [InK]; omega) | omega | (simp only [InK, ne_eq, and_true, true_and]; omega))) | simp -dsimp only [↓RP, RQ0, RQ1, RQ2, RQ3, implies_true, forall_const, Nat.reduceMul, reduceIte, reduceCtorEq, Nat.reduceAdd, Nat.reduceEqDiff, Nat.reduceLT, Nat.reduceLeDiff, eH, by2, I, TY, Int.toNat_natCast, Go.Proofs.Try.results45]))
      all_goals first | (exfalso; omega) | skip
      refine ⟨⟨.inr trivial, Nat.le_refl _, fun a b ha hb => by rw [lit1 _ a b ha hb]; rfl, by omega⟩, by (first | trivial | (simp only [InK]; omega) | omega | (simp only [InK, ne_eq, and_true, true_and]; omega)), i + 1, by omega, by omega, weak [(62, some 68)] [] ?_ ?_ ?_⟩
      · (simp -dsimp only [↓RP, RQ0, RQ1, RQ2, RQ3, implies_true, forall_const, Nat.reduceMul, reduceIte, reduceCtorEq, Nat.reduceAdd, Nat.reduceEqDiff, Nat.reduceLT, Nat.reduceLeDiff]); all_goals simp
      · (simp -dsimp only [↓RP, RQ0, RQ1, RQ2, RQ3, implies_true, forall_const, Nat.reduceMul, reduceIte, reduceCtorEq, Nat.reduceAdd, Nat.reduceEqDiff, Nat.reduceLT, Nat.reduceLeDiff]); all_goals (try simp)
        exact fun b h1 h2 => app2 (fun j => .val (.int .i64 (behB c n C (j + 1)))) i b h1 h2
      · (simp -dsimp only [↓RP, RQ0, RQ1, RQ2, RQ3, implies_true, forall_const, Nat.reduceMul, reduceIte, reduceCtorEq, Nat.reduceAdd, Nat.reduceEqDiff, Nat.reduceLT, Nat.reduceLeDiff]); all_goals simp
  · have hie : i = c.m := by omega
    subst hie
    (repeat' (first | with_reducible refine splitVC_d (fun _ => ?_) (fun _ => ?_) | ((with_reducible refine And.intro ?_ ?_); focus (first | trivial | (simp only [InK]; omega) | omega | (simp only [InK, ne_eq, and_true, true_and]; omega))) | simp -dsimp only [↓RP, RQ0, RQ1, RQ2, RQ3, implies_true, forall_const, Nat.reduceMul, reduceIte, reduceCtorEq, Nat.reduceAdd, Nat.reduceEqDiff, Nat.reduceLT, Nat.reduceLeDiff, I, TY, Int.toNat_natCast, Go.Proofs.Try.results45]))
    all_goals first | (exfalso; omega) | skip
    refine ⟨62, _, rfl, ?_, ?_⟩
    · (simp -dsimp only [↓RP, RQ0, RQ1, RQ2, RQ3, implies_true, forall_const, Nat.reduceMul, reduceIte, reduceCtorEq, Nat.reduceAdd, Nat.reduceEqDiff, Nat.reduceLT, Nat.reduceLeDiff]); all_goals (try simp)
    · (simp -dsimp only [↓RP, RQ0, RQ1, RQ2, RQ3, implies_true, forall_const, Nat.reduceMul, reduceIte, reduceCtorEq, Nat.reduceAdd, Nat.reduceEqDiff, Nat.reduceLT, Nat.reduceLeDiff])
end Go.Lg
end
