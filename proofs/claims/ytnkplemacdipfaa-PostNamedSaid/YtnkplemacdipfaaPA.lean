/- A part of the proof. -/
import Derived.Test.YtnkplemacdipfaaProg
import Derived.Test.YtnkplemacdipfaaED
section
set_option linter.unusedSimpArgs false
set_option linter.unusedVariables false
namespace Go.Po
open Go.Sx
theorem follows : Go.Proofs.Try.prog.follows .mixedOrders = true := by kernel_rfl
theorem ty2 : tyOf Go.Proofs.Try.prog 2 = some ⟨false, 1, some [.int .i64 0], .int .i64⟩ := by kernel_rfl
theorem ty3 : tyOf Go.Proofs.Try.prog 3 = some ⟨false, 1, some [.int .i64 0], .int .i64⟩ := by kernel_rfl
theorem ty4 : tyOf Go.Proofs.Try.prog 4 = some ⟨false, 1, some [.bool false], .bool⟩ := by kernel_rfl
theorem ty22 : tyOf Go.Proofs.Try.prog 22 = some ⟨false, 1, some [.slice none 0 0], .slice 35 2⟩ := by kernel_rfl
theorem ty24 : tyOf Go.Proofs.Try.prog 24 = some ⟨true, 5, some [.slice none 0 0, .int .i64 0, .int .i64 0, .int .i64 0, .int .i64 0], .struct [(0, 1, some false), (1, 1, some false), (2, 1, some false), (3, 1, some false), (4, 1, some false)]⟩ := by kernel_rfl
theorem ty25 : tyOf Go.Proofs.Try.prog 25 = some ⟨false, 1, some [.slice none 0 0], .slice 2 1⟩ := by kernel_rfl
theorem ty28 : tyOf Go.Proofs.Try.prog 28 = some ⟨false, 1, some [.int .i64 0], .int .i64⟩ := by kernel_rfl
theorem ty35 : tyOf Go.Proofs.Try.prog 35 = some ⟨true, 2, some [.int .i64 0, .int .i64 0], .struct [(0, 1, some false), (1, 1, some false)]⟩ := by kernel_rfl
structure Pool where
  n : Nat
  lo : Nat → Int
  hi : Nat → Int
  per : Int
  pence : Int
  keep : Int
  step : Int
def I (n : Int) : SV := .val (.int .i64 n)
def ints (n : Nat) (u : Nat → Int) : SV := .arr false false n 1 (fun i _ => .val (.int .i64 (u i)))
def rngs (n : Nat) (lo hi : Nat → Int) : SV := .arr false false n 2 (fun i j => .val (.int .i64 (if j = 0 then lo i else hi i)))
def Pool.sv (p : Pool) : SV := .agg [rngs p.n p.lo p.hi, I p.per, I p.pence, I p.keep, I p.step]
theorem Pool.old (p : Pool) : Old p.sv := by simp [Old, OldL, Pool.sv, rngs, I]
structure Pool.Fine (p : Pool) : Prop where
  n2 : 2 ≤ p.n
  n8 : p.n ≤ 8
  per1 : 1 ≤ p.per
  per2 : p.per ≤ 10000
  pence1 : 0 ≤ p.pence
  pence2 : p.pence ≤ p.per
  keep1 : 0 ≤ p.keep
  keep2 : p.keep ≤ 100000
  step1 : 1 ≤ p.step
  step2 : p.step ≤ 100
  rg : ∀ i, i < p.n → 0 ≤ p.lo i ∧ p.lo i ≤ p.hi i ∧ p.hi i ≤ 200
def Pool.err (p : Pool) : Int :=
  if p.n < 2 ∨ 8 < p.n then 6
  else if p.per < 1 ∨ 10000 < p.per ∨ p.pence < 0 ∨ p.per < p.pence ∨ p.keep < 0 ∨ 100000 < p.keep ∨ p.step < 1 ∨ 100 < p.step then 3
  else if ∀ i, i < p.n → 0 ≤ p.lo i ∧ p.lo i ≤ p.hi i ∧ p.hi i ≤ 200 then 0 else 3
set_option pp.maxSteps 6000
set_option maxRecDepth 100000
set_option maxHeartbeats 4000000
theorem c50 (p : Pool) (h : p.Fine) (units : Int) (h7 : 0 ≤ units) (h8 : units ≤ 10000) :
   Contract Go.Proofs.Try.prog 50 [p.sv, I units] (I (100 * units - (100 * units).tdiv p.per * p.pence - p.keep)) := by
  refine contract_of Go.Proofs.Try.func50 rfl (by kernel_rfl) follows (by kernel_rfl) _ _ (by rw [Go.Proofs.Try.ntmps50]; simp) (by simp [OldL, p.old]; simp [Old, I]) ?_
  unfold Pool.sv rngs I
  (simp -dsimp only [↓RP, RQ0, RQ1, RQ2, RQ3, implies_true, forall_const, Nat.reduceMul, reduceIte, reduceCtorEq, Nat.reduceAdd, Nat.reduceEqDiff, Nat.reduceLT, Nat.reduceLeDiff, ty2, ty24, Go.Proofs.Try.results50])
  have h1 : 0 ≤ (100 * units).tdiv p.per := Int.tdiv_nonneg (by omega) (by have := h.per1; omega)
  have h2 : (100 * units).tdiv p.per * p.per ≤ 100 * units := by
    have := Int.tmod_add_tdiv_mul (100 * units) p.per
    have := Int.tmod_nonneg p.per (show 0 ≤ 100 * units by omega)
    omega
  have h3 : (100 * units).tdiv p.per * p.pence ≤ (100 * units).tdiv p.per * p.per := Int.mul_le_mul_of_nonneg_left h.pence2 h1
  have h4 : 0 ≤ (100 * units).tdiv p.per * p.pence := Int.mul_nonneg h1 h.pence1
  have h5 : (100 * units).tdiv p.per ≤ 100 * units := by
    have := Int.mul_le_mul_of_nonneg_left h.per1 h1
    omega
  obtain ⟨g1, g2, g3, g4, g5, g6, g7, g8, g9, g10, g11⟩ := h
  (repeat ((with_reducible refine And.intro ?_ ?_); focus (first | trivial | (simp only [InK]; omega) | omega | (simp only [InK, ne_eq, and_true, true_and]; omega))))
  (first | trivial | (simp only [InK]; omega) | omega | (simp only [InK, ne_eq, and_true, true_and]; omega))
theorem I_eq {a b : Int} (h : a = b) : SV.val (Value.int IntKind.i64 a) = SV.val (Value.int IntKind.i64 b) := by rw [h]
theorem c25 (p : Pool) : Contract Go.Proofs.Try.prog 25 [p.sv] (I p.err) := by
  refine contract_of Go.Proofs.Try.func25 rfl (by kernel_rfl) follows (by kernel_rfl) _ _ (by rw [Go.Proofs.Try.ntmps25]; simp) (by simp [OldL, p.old]) ?_
  unfold Pool.sv rngs I
  (repeat' (first | with_reducible refine splitVC_d (fun _ => ?_) (fun _ => ?_) | ((with_reducible refine And.intro ?_ ?_); focus (first | trivial | (simp only [InK]; omega) | omega | (simp only [InK, ne_eq, and_true, true_and]; omega))) | simp -dsimp only [↓RP, RQ0, RQ1, RQ2, RQ3, implies_true, forall_const, Nat.reduceMul, reduceIte, reduceCtorEq, Nat.reduceAdd, Nat.reduceEqDiff, Nat.reduceLT, Nat.reduceLeDiff, ty2, ty3, ty4, ty22, ty24, ty25, ty28, ty35, Go.Proofs.Try.results25]))
  all_goals first | (refine I_eq ?_; unfold Pool.err; (repeat' split) <;> omega) | skip
  refine loop_vc (fun i => i ≤ p.n ∧ ∀ j, j < i → 0 ≤ p.lo j ∧ p.lo j ≤ p.hi j ∧ p.hi j ≤ 200) (fun i => ⟨[(1, .ptr 0 0), (3, .val (.int .i64 i))], [(0, .cells 24 [.arr false false p.n 2 (fun i j => .val (.int .i64 (if j = 0 then p.lo i else p.hi i))), .val (.int .i64 p.per), .val (.int .i64 p.pence), .val (.int .i64 p.keep), .val (.int .i64 p.step)])], 1⟩) (fun i => p.n - i) 0 ⟨Nat.zero_le _, fun j hj => by omega⟩ (weak [] [] ?_ ?_ ?_) fun i hi => ?_
  · (simp -dsimp only [↓RP, RQ0, RQ1, RQ2, RQ3, implies_true, forall_const, Nat.reduceMul, reduceIte, reduceCtorEq, Nat.reduceAdd, Nat.reduceEqDiff, Nat.reduceLT, Nat.reduceLeDiff]); simp
  · (simp -dsimp only [↓RP, RQ0, RQ1, RQ2, RQ3, implies_true, forall_const, Nat.reduceMul, reduceIte, reduceCtorEq, Nat.reduceAdd, Nat.reduceEqDiff, Nat.reduceLT, Nat.reduceLeDiff]); simp
  · (simp -dsimp only [↓RP, RQ0, RQ1, RQ2, RQ3, implies_true, forall_const, Nat.reduceMul, reduceIte, reduceCtorEq, Nat.reduceAdd, Nat.reduceEqDiff, Nat.reduceLT, Nat.reduceLeDiff])
  (repeat' (first | with_reducible refine splitVC_d (fun _ => ?_) (fun _ => ?_) | ((with_reducible refine And.intro ?_ ?_); focus (first | trivial | (simp only [InK]; omega) | omega | (simp only [InK, ne_eq, and_true, true_and]; omega))) | simp -dsimp only [↓RP, RQ0, RQ1, RQ2, RQ3, implies_true, forall_const, Nat.reduceMul, reduceIte, reduceCtorEq, Nat.reduceAdd, Nat.reduceEqDiff, Nat.reduceLT, Nat.reduceLeDiff, ty2, ty3, ty4, ty22, ty24, ty25, ty28, ty35, Go.Proofs.Try.results25]))
  all_goals first
    | (refine I_eq ?_; unfold Pool.err; rw [if_neg (by omega), if_neg (by omega), if_neg (fun h => by have h2 := h i (by omega); omega)])
    | (refine I_eq ?_; unfold Pool.err; rw [if_neg (by omega), if_neg (by omega), if_pos (fun j hj => hi.2 j (by omega))])
    | skip
  refine ⟨i + 1, ⟨by omega, fun j hj => ?_⟩, by omega, weak [] [] ?_ ?_ ?_⟩
  · by_cases e : j = i
    · subst e; omega
    · exact hi.2 j (by omega)
  · (simp -dsimp only [↓RP, RQ0, RQ1, RQ2, RQ3, implies_true, forall_const, Nat.reduceMul, reduceIte, reduceCtorEq, Nat.reduceAdd, Nat.reduceEqDiff, Nat.reduceLT, Nat.reduceLeDiff]); simp
  · (simp -dsimp only [↓RP, RQ0, RQ1, RQ2, RQ3, implies_true, forall_const, Nat.reduceMul, reduceIte, reduceCtorEq, Nat.reduceAdd, Nat.reduceEqDiff, Nat.reduceLT, Nat.reduceLeDiff]); simp
  · (simp -dsimp only [↓RP, RQ0, RQ1, RQ2, RQ3, implies_true, forall_const, Nat.reduceMul, reduceIte, reduceCtorEq, Nat.reduceAdd, Nat.reduceEqDiff, Nat.reduceLT, Nat.reduceLeDiff])
end Go.Po
end
section
set_option linter.unusedSimpArgs false
set_option linter.unusedVariables false
set_option maxRecDepth 100000
set_option maxHeartbeats 4000000
namespace Go.Po
open Go.Sx
def B (b : Bool) : SV := .val (.bool b)
theorem B_eq {a b : Bool} (h : a = b) : SV.val (Value.bool a) = SV.val (Value.bool b) := by rw [h]
theorem c47 (p : Pool) (h : p.Fine) (n : Int) : Contract Go.Proofs.Try.prog 47 [p.sv, I n] (B (decide (0 ≤ n ∧ n ≤ 100000 ∧ n.tmod p.step = 0))) := by
  refine contract_of Go.Proofs.Try.func47 rfl (by kernel_rfl) follows (by kernel_rfl) _ _ (by rw [Go.Proofs.Try.ntmps47]; simp) (by simp [OldL, p.old]; simp [Old, I]) ?_
  have hs := h.step1
  unfold Pool.sv rngs I B
  (repeat' (first | with_reducible refine splitVC_d (fun _ => ?_) (fun _ => ?_) | ((with_reducible refine And.intro ?_ ?_); focus (first | trivial | (simp only [InK]; omega) | omega | (simp only [InK, ne_eq, and_true, true_and]; omega))) | simp -dsimp only [↓RP, RQ0, RQ1, RQ2, RQ3, implies_true, forall_const, Nat.reduceMul, reduceIte, reduceCtorEq, Nat.reduceAdd, Nat.reduceEqDiff, Nat.reduceLT, Nat.reduceLeDiff, ty2, ty3, ty4, ty22, ty24, ty25, ty28, ty35, Go.Proofs.Try.results47]))
  all_goals first
    | (refine B_eq ?_; symm; exact decide_eq_false (by omega))
    | (refine B_eq ?_; exact decide_eq_decide.2 (by omega))
theorem c51 (u : Nat → Int) (n : Nat) (s : Nat → Int) (hn : n ≤ 1000) (hu : ∀ i, i < n → 0 ≤ u i ∧ u i ≤ 10000) (h0 : s 0 = 0) (hs : ∀ i, i < n → s (i + 1) = s i + u i) (hb : ∀ i, i ≤ n → 0 ≤ s i ∧ s i ≤ 10000 * i) :
   Contract Go.Proofs.Try.prog 51 [ints n u] (I (s n)) := by
  refine contract_of Go.Proofs.Try.func51 rfl (by kernel_rfl) follows (by kernel_rfl) _ _ (by rw [Go.Proofs.Try.ntmps51]; simp) (by simp [OldL, Old, ints]) ?_
  unfold ints I
  (simp -dsimp only [↓RP, RQ0, RQ1, RQ2, RQ3, implies_true, forall_const, Nat.reduceMul, reduceIte, reduceCtorEq, Nat.reduceAdd, Nat.reduceEqDiff, Nat.reduceLT, Nat.reduceLeDiff, ty2, ty25])
  refine loop_vc (fun i => i ≤ n) (fun i => ⟨[(0, .arr false false n 1 (fun i _ => .val (.int .i64 (u i)))), (3, .val (.int .i64 (s i))), (4, .val (.int .i64 i))], [], 0⟩) (fun i => n - i) 0 (Nat.zero_le _) (weak [] [] ?_ ?_ ?_) fun i hi => ?_
  · (simp -dsimp only [↓RP, RQ0, RQ1, RQ2, RQ3, implies_true, forall_const, Nat.reduceMul, reduceIte, reduceCtorEq, Nat.reduceAdd, Nat.reduceEqDiff, Nat.reduceLT, Nat.reduceLeDiff, h0]); simp
  · (simp -dsimp only [↓RP, RQ0, RQ1, RQ2, RQ3, implies_true, forall_const, Nat.reduceMul, reduceIte, reduceCtorEq, Nat.reduceAdd, Nat.reduceEqDiff, Nat.reduceLT, Nat.reduceLeDiff])
  · (simp -dsimp only [↓RP, RQ0, RQ1, RQ2, RQ3, implies_true, forall_const, Nat.reduceMul, reduceIte, reduceCtorEq, Nat.reduceAdd, Nat.reduceEqDiff, Nat.reduceLT, Nat.reduceLeDiff])
  have h1 := hb i hi
  by_cases h : i < n
  · have h2 := hu i h
    (repeat' (first | with_reducible refine splitVC_d (fun _ => ?_) (fun _ => ?_) | ((with_reducible refine And.intro ?_ ?_); focus (first | trivial | (simp only [InK]; omega) | omega | (simp only [InK, ne_eq, and_true, true_and]; omega))) | simp -dsimp only [↓RP, RQ0, RQ1, RQ2, RQ3, implies_true, forall_const, Nat.reduceMul, reduceIte, reduceCtorEq, Nat.reduceAdd, Nat.reduceEqDiff, Nat.reduceLT, Nat.reduceLeDiff, ty2, ty25, Go.Proofs.Try.results51]))
    · refine ⟨i + 1, by omega, by omega, weak [] [] ?_ ?_ ?_⟩
      · (simp -dsimp only [↓RP, RQ0, RQ1, RQ2, RQ3, implies_true, forall_const, Nat.reduceMul, reduceIte, reduceCtorEq, Nat.reduceAdd, Nat.reduceEqDiff, Nat.reduceLT, Nat.reduceLeDiff, hs i h]); simp
      · (simp -dsimp only [↓RP, RQ0, RQ1, RQ2, RQ3, implies_true, forall_const, Nat.reduceMul, reduceIte, reduceCtorEq, Nat.reduceAdd, Nat.reduceEqDiff, Nat.reduceLT, Nat.reduceLeDiff])
      · (simp -dsimp only [↓RP, RQ0, RQ1, RQ2, RQ3, implies_true, forall_const, Nat.reduceMul, reduceIte, reduceCtorEq, Nat.reduceAdd, Nat.reduceEqDiff, Nat.reduceLT, Nat.reduceLeDiff])
    · omega
  · (repeat' (first | with_reducible refine splitVC_d (fun _ => ?_) (fun _ => ?_) | ((with_reducible refine And.intro ?_ ?_); focus (first | trivial | (simp only [InK]; omega) | omega | (simp only [InK, ne_eq, and_true, true_and]; omega))) | simp -dsimp only [↓RP, RQ0, RQ1, RQ2, RQ3, implies_true, forall_const, Nat.reduceMul, reduceIte, reduceCtorEq, Nat.reduceAdd, Nat.reduceEqDiff, Nat.reduceLT, Nat.reduceLeDiff, ty2, ty25, Go.Proofs.Try.results51]))
    · omega
    · have : i = n := by omega
      rw [this]
def Pool.asked (p : Pool) (r d : Int) : Int :=
  if p.err = 0 then (if r < 0 ∨ p.n ≤ r then 2 else if 0 ≤ d ∧ d ≤ 100000 ∧ d.tmod p.step = 0 then 0 else 3) else p.err
theorem Pool.fine {p : Pool} (h : p.err = 0) : p.Fine := by
  unfold Pool.err at h
  split at h
  · omega
  · split at h
    · omega
    · split at h
      · rename_i h1 h2 h3
        exact ⟨by omega, by omega, by omega, by omega, by omega, by omega, by omega, by omega, by omega, by omega, h3⟩
      · omega
theorem c59 (p : Pool) (r d : Int) : Contract Go.Proofs.Try.prog 59 [p.sv, I r, I d] (I (p.asked r d)) := by
  refine contract_of Go.Proofs.Try.func59 rfl (by kernel_rfl) follows (by kernel_rfl) _ _ (by rw [Go.Proofs.Try.ntmps59]; simp) (by simp [OldL, p.old]; simp [Old, I]) ?_
  unfold I
  conv => arg 4; unfold Pool.sv rngs I
  (repeat' (first | with_reducible refine splitVC_d (fun _ => ?_) (fun _ => ?_) | ((with_reducible refine And.intro ?_ ?_); focus (first | trivial | (simp only [InK]; omega) | omega | (simp only [InK, ne_eq, and_true, true_and]; omega))) | simp -dsimp only [↓RP, RQ0, RQ1, RQ2, RQ3, implies_true, forall_const, Nat.reduceMul, reduceIte, reduceCtorEq, Nat.reduceAdd, Nat.reduceEqDiff, Nat.reduceLT, Nat.reduceLeDiff, ty2, ty3, ty4, ty22, ty24, ty25, ty28, ty35, Go.Proofs.Try.results59]))
  refine callVC (c25 p) (by (simp -dsimp only [↓RP, RQ0, RQ1, RQ2, RQ3, implies_true, forall_const, Nat.reduceMul, reduceIte, reduceCtorEq, Nat.reduceAdd, Nat.reduceEqDiff, Nat.reduceLT, Nat.reduceLeDiff, Pool.sv, rngs, I]); simp) (by (simp -dsimp only [↓RP, RQ0, RQ1, RQ2, RQ3, implies_true, forall_const, Nat.reduceMul, reduceIte, reduceCtorEq, Nat.reduceAdd, Nat.reduceEqDiff, Nat.reduceLT, Nat.reduceLeDiff, I])) ?_
  (repeat' (first | with_reducible refine splitVC_d (fun _ => ?_) (fun _ => ?_) | ((with_reducible refine And.intro ?_ ?_); focus (first | trivial | (simp only [InK]; omega) | omega | (simp only [InK, ne_eq, and_true, true_and]; omega))) | simp -dsimp only [↓RP, RQ0, RQ1, RQ2, RQ3, implies_true, forall_const, Nat.reduceMul, reduceIte, reduceCtorEq, Nat.reduceAdd, Nat.reduceEqDiff, Nat.reduceLT, Nat.reduceLeDiff, I, ty2, ty3, ty4, ty22, ty24, ty25, ty28, ty35, Go.Proofs.Try.results59]))
  · refine I_eq ?_
    unfold Pool.asked
    rw [if_pos (by assumption), if_pos (by omega)]
  · refine I_eq ?_
    unfold Pool.asked
    rw [if_pos (by assumption), if_pos (by omega)]
  · rename_i h0 h1 h2
    refine callVC (c47 p (Pool.fine h0) d) (by (simp -dsimp only [↓RP, RQ0, RQ1, RQ2, RQ3, implies_true, forall_const, Nat.reduceMul, reduceIte, reduceCtorEq, Nat.reduceAdd, Nat.reduceEqDiff, Nat.reduceLT, Nat.reduceLeDiff, Pool.sv, rngs, I]); simp) (by (simp -dsimp only [↓RP, RQ0, RQ1, RQ2, RQ3, implies_true, forall_const, Nat.reduceMul, reduceIte, reduceCtorEq, Nat.reduceAdd, Nat.reduceEqDiff, Nat.reduceLT, Nat.reduceLeDiff, B])) ?_
    (repeat' (first | with_reducible refine splitVC_d (fun _ => ?_) (fun _ => ?_) | ((with_reducible refine And.intro ?_ ?_); focus (first | trivial | (simp only [InK]; omega) | omega | (simp only [InK, ne_eq, and_true, true_and]; omega))) | simp -dsimp only [↓RP, RQ0, RQ1, RQ2, RQ3, implies_true, forall_const, Nat.reduceMul, reduceIte, reduceCtorEq, Nat.reduceAdd, Nat.reduceEqDiff, Nat.reduceLT, Nat.reduceLeDiff, B, I, ty2, ty3, ty4, ty22, ty24, ty25, ty28, ty35, Go.Proofs.Try.results59]))
    · rename_i h3
      refine I_eq ?_
      unfold Pool.asked
      rw [if_pos h0, if_neg (by omega), if_pos h3]
    · rename_i h3
      refine I_eq ?_
      unfold Pool.asked
      rw [if_pos h0, if_neg (by omega), if_neg h3]
  · rename_i h0
    refine callVC (c25 p) (by (simp -dsimp only [↓RP, RQ0, RQ1, RQ2, RQ3, implies_true, forall_const, Nat.reduceMul, reduceIte, reduceCtorEq, Nat.reduceAdd, Nat.reduceEqDiff, Nat.reduceLT, Nat.reduceLeDiff, Pool.sv, rngs, I]); simp) (by (simp -dsimp only [↓RP, RQ0, RQ1, RQ2, RQ3, implies_true, forall_const, Nat.reduceMul, reduceIte, reduceCtorEq, Nat.reduceAdd, Nat.reduceEqDiff, Nat.reduceLT, Nat.reduceLeDiff, I])) ?_
    (repeat' (first | with_reducible refine splitVC_d (fun _ => ?_) (fun _ => ?_) | ((with_reducible refine And.intro ?_ ?_); focus (first | trivial | (simp only [InK]; omega) | omega | (simp only [InK, ne_eq, and_true, true_and]; omega))) | simp -dsimp only [↓RP, RQ0, RQ1, RQ2, RQ3, implies_true, forall_const, Nat.reduceMul, reduceIte, reduceCtorEq, Nat.reduceAdd, Nat.reduceEqDiff, Nat.reduceLT, Nat.reduceLeDiff, I, ty2, ty3, ty4, ty22, ty24, ty25, ty28, ty35, Go.Proofs.Try.results59]))
    refine I_eq ?_
    unfold Pool.asked
    rw [if_neg h0]
end Go.Po
end
section
set_option linter.unusedSimpArgs false
set_option linter.unusedVariables false
set_option maxRecDepth 100000
set_option maxHeartbeats 4000000
namespace Go.Po
open Go.Sx
def Pool.tr (p : Pool) (m : Nat) (u : Nat → Int) : Int :=
  if m = p.n then (if ∀ i, i < p.n → p.lo i ≤ u i ∧ u i ≤ p.hi i then 0 else 16) else 15
theorem c57 (p : Pool) (h : p.Fine) (m : Nat) (u : Nat → Int) : Contract Go.Proofs.Try.prog 57 [p.sv, ints m u] (I (p.tr m u)) := by
  refine contract_of Go.Proofs.Try.func57 rfl (by kernel_rfl) follows (by kernel_rfl) _ _ (by rw [Go.Proofs.Try.ntmps57]; simp) (by simp [OldL, p.old]; simp [Old, ints]) ?_
  have h8 := h.n8
  unfold Pool.sv rngs I ints
  (repeat' (first | with_reducible refine splitVC_d (fun _ => ?_) (fun _ => ?_) | ((with_reducible refine And.intro ?_ ?_); focus (first | trivial | (simp only [InK]; omega) | omega | (simp only [InK, ne_eq, and_true, true_and]; omega))) | simp -dsimp only [↓RP, RQ0, RQ1, RQ2, RQ3, implies_true, forall_const, Nat.reduceMul, reduceIte, reduceCtorEq, Nat.reduceAdd, Nat.reduceEqDiff, Nat.reduceLT, Nat.reduceLeDiff, ty2, ty3, ty4, ty22, ty24, ty25, ty28, ty35, Go.Proofs.Try.results57]))
  · rename_i hm
    refine loop_vc (fun i => i ≤ p.n ∧ ∀ j, j < i → p.lo j ≤ u j ∧ u j ≤ p.hi j) (fun i => ⟨[(1, .arr false false m 1 (fun i _ => .val (.int .i64 (u i)))), (2, .ptr 0 0), (5, .val (.int .i64 i))], [(0, .cells 24 [.arr false false p.n 2 (fun i j => .val (.int .i64 (if j = 0 then p.lo i else p.hi i))), .val (.int .i64 p.per), .val (.int .i64 p.pence), .val (.int .i64 p.keep), .val (.int .i64 p.step)])], 1⟩) (fun i => p.n - i) 0 ⟨Nat.zero_le _, fun j hj => by omega⟩ (weak [] [] ?_ ?_ ?_) fun i hi => ?_
    · (simp -dsimp only [↓RP, RQ0, RQ1, RQ2, RQ3, implies_true, forall_const, Nat.reduceMul, reduceIte, reduceCtorEq, Nat.reduceAdd, Nat.reduceEqDiff, Nat.reduceLT, Nat.reduceLeDiff]); simp
    · (simp -dsimp only [↓RP, RQ0, RQ1, RQ2, RQ3, implies_true, forall_const, Nat.reduceMul, reduceIte, reduceCtorEq, Nat.reduceAdd, Nat.reduceEqDiff, Nat.reduceLT, Nat.reduceLeDiff]); simp
    · (simp -dsimp only [↓RP, RQ0, RQ1, RQ2, RQ3, implies_true, forall_const, Nat.reduceMul, reduceIte, reduceCtorEq, Nat.reduceAdd, Nat.reduceEqDiff, Nat.reduceLT, Nat.reduceLeDiff])
    (repeat' (first | with_reducible refine splitVC_d (fun _ => ?_) (fun _ => ?_) | ((with_reducible refine And.intro ?_ ?_); focus (first | trivial | (simp only [InK]; omega) | omega | (simp only [InK, ne_eq, and_true, true_and]; omega))) | simp -dsimp only [↓RP, RQ0, RQ1, RQ2, RQ3, implies_true, forall_const, Nat.reduceMul, reduceIte, reduceCtorEq, Nat.reduceAdd, Nat.reduceEqDiff, Nat.reduceLT, Nat.reduceLeDiff, ty2, ty3, ty4, ty22, ty24, ty25, ty28, ty35, Go.Proofs.Try.results57]))
    all_goals first
      | (refine I_eq ?_; unfold Pool.tr; rw [if_pos (by omega), if_neg (fun h => by have h2 := h i (by omega); omega)])
      | (refine I_eq ?_; unfold Pool.tr; rw [if_pos (by omega), if_pos (fun j hj => hi.2 j (by omega))])
      | omega
      | skip
    refine ⟨i + 1, ⟨by omega, fun j hj => ?_⟩, by omega, weak [] [] ?_ ?_ ?_⟩
    · by_cases e : j = i
      · subst e; omega
      · exact hi.2 j (by omega)
    · (simp -dsimp only [↓RP, RQ0, RQ1, RQ2, RQ3, implies_true, forall_const, Nat.reduceMul, reduceIte, reduceCtorEq, Nat.reduceAdd, Nat.reduceEqDiff, Nat.reduceLT, Nat.reduceLeDiff]); simp
    · (simp -dsimp only [↓RP, RQ0, RQ1, RQ2, RQ3, implies_true, forall_const, Nat.reduceMul, reduceIte, reduceCtorEq, Nat.reduceAdd, Nat.reduceEqDiff, Nat.reduceLT, Nat.reduceLeDiff]); simp
    · (simp -dsimp only [↓RP, RQ0, RQ1, RQ2, RQ3, implies_true, forall_const, Nat.reduceMul, reduceIte, reduceCtorEq, Nat.reduceAdd, Nat.reduceEqDiff, Nat.reduceLT, Nat.reduceLeDiff])
  · refine I_eq ?_
    unfold Pool.tr
    rw [if_neg (by omega)]
def sumTo (u : Nat → Int) : Nat → Int
  | 0 => 0
  | i + 1 => sumTo u i + u i
theorem sumTo_bound (u : Nat → Int) (c : Int) (n : Nat) (h : ∀ i, i < n → 0 ≤ u i ∧ u i ≤ c) : ∀ i, i ≤ n → 0 ≤ sumTo u i ∧ sumTo u i ≤ c * i
  | 0, _ => by simp [sumTo]
  | i + 1, hi => by
    have h1 := sumTo_bound u c n h i (by omega)
    have h2 := h i (by omega)
    have h3 : c * ((i + 1 : Nat) : Int) = c * i + c := by rw [Int.natCast_add, Int.mul_add]; simp
    rw [h3]
    simp only [sumTo]; omega
def Pool.net (p : Pool) (units : Int) : Int := 100 * units - (100 * units).tdiv p.per * p.pence - p.keep
theorem Pool.net_bound {p : Pool} (h : p.Fine) {units : Int} (h7 : 0 ≤ units) (h8 : units ≤ 10000) : -100000 ≤ p.net units ∧ p.net units ≤ 1000000 := by
  have h1 : 0 ≤ (100 * units).tdiv p.per := Int.tdiv_nonneg (by omega) (by have := h.per1; omega)
  have h2 : (100 * units).tdiv p.per * p.per ≤ 100 * units := by
    have := Int.tmod_add_tdiv_mul (100 * units) p.per
    have := Int.tmod_nonneg p.per (show 0 ≤ 100 * units by omega)
    omega
  have h3 : (100 * units).tdiv p.per * p.pence ≤ (100 * units).tdiv p.per * p.per := Int.mul_le_mul_of_nonneg_left h.pence2 h1
  have h4 : 0 ≤ (100 * units).tdiv p.per * p.pence := Int.mul_nonneg h1 h.pence1
  have := h.keep1
  have := h.keep2
  unfold Pool.net
  omega
structure Pool.Truth (p : Pool) (m : Nat) (u : Nat → Int) : Prop where
  n : m = p.n
  rg : ∀ i, i < p.n → p.lo i ≤ u i ∧ u i ≤ p.hi i
theorem Pool.truth {p : Pool} {m : Nat} {u : Nat → Int} (h : p.tr m u = 0) : p.Truth m u := by
  unfold Pool.tr at h
  split at h
  · split at h
    · exact ⟨by assumption, by assumption⟩
    · omega
  · omega
theorem Pool.Truth.u {p : Pool} {m : Nat} {u : Nat → Int} (h : p.Truth m u) (hf : p.Fine) : ∀ i, i < m → 0 ≤ u i ∧ u i ≤ 200 := fun i hi => by
  have h1 := h.rg i (by have := h.n; omega)
  have h2 := hf.rg i (by have := h.n; omega)
  omega
theorem Pool.Truth.sum {p : Pool} {m : Nat} {u : Nat → Int} (h : p.Truth m u) (hf : p.Fine) : 0 ≤ sumTo u m ∧ sumTo u m ≤ 1600 := by
  have h1 := sumTo_bound u 200 m (h.u hf) m (Nat.le_refl _)
  have h2 := h.n
  have h3 := hf.n8
  omega
theorem c51' (u : Nat → Int) (n : Nat) (hn : n ≤ 1000) (hu : ∀ i, i < n → 0 ≤ u i ∧ u i ≤ 10000) : Contract Go.Proofs.Try.prog 51 [ints n u] (I (sumTo u n)) :=
  c51 u n (sumTo u) hn hu rfl (fun i hi => rfl) (sumTo_bound u 10000 n hu)
theorem c60 (p : Pool) (h : p.Fine) (m : Nat) (u : Nat → Int) (ht : p.Truth m u) (r d : Int) (h1 : 0 ≤ r) (h2 : r < m) (h3 : 0 ≤ d) (h4 : d ≤ 100000) :
    Contract Go.Proofs.Try.prog 60 [p.sv, ints m u, I r, I d] (I (p.net (sumTo u m) - d * u r.toNat)) := by
  refine contract_of Go.Proofs.Try.func60 rfl (by kernel_rfl) follows (by kernel_rfl) _ _ (by rw [Go.Proofs.Try.ntmps60]; simp) (by simp [OldL, p.old]; simp [Old, I, ints]) ?_
  have g0 := ht.n
  have g1 := h.n8
  have g2 := ht.u h
  have g3 := ht.sum h
  have g4 := Pool.net_bound h g3.1 (by omega)
  have g5 := g2 r.toNat (by omega)
  have g6 : 0 ≤ d * u r.toNat := Int.mul_nonneg h3 g5.1
  have g7 : d * u r.toNat ≤ 100000 * 200 := Int.mul_le_mul h4 g5.2 g5.1 (by omega)
  unfold Pool.sv rngs I ints
  (repeat' (first | with_reducible refine splitVC_d (fun _ => ?_) (fun _ => ?_) | ((with_reducible refine And.intro ?_ ?_); focus (first | trivial | (simp only [InK]; omega) | omega | (simp only [InK, ne_eq, and_true, true_and]; omega))) | simp -dsimp only [↓RP, RQ0, RQ1, RQ2, RQ3, implies_true, forall_const, Nat.reduceMul, reduceIte, reduceCtorEq, Nat.reduceAdd, Nat.reduceEqDiff, Nat.reduceLT, Nat.reduceLeDiff, ty2, ty3, ty4, ty22, ty24, ty25, ty28, ty35, Go.Proofs.Try.results60]))
  refine callVC (c51' u m (by omega) (fun i hi => by have := g2 i hi; omega)) (by (simp -dsimp only [↓RP, RQ0, RQ1, RQ2, RQ3, implies_true, forall_const, Nat.reduceMul, reduceIte, reduceCtorEq, Nat.reduceAdd, Nat.reduceEqDiff, Nat.reduceLT, Nat.reduceLeDiff, ints]); simp) (by (simp -dsimp only [↓RP, RQ0, RQ1, RQ2, RQ3, implies_true, forall_const, Nat.reduceMul, reduceIte, reduceCtorEq, Nat.reduceAdd, Nat.reduceEqDiff, Nat.reduceLT, Nat.reduceLeDiff, I])) ?_
  (repeat' (first | with_reducible refine splitVC_d (fun _ => ?_) (fun _ => ?_) | ((with_reducible refine And.intro ?_ ?_); focus (first | trivial | (simp only [InK]; omega) | omega | (simp only [InK, ne_eq, and_true, true_and]; omega))) | simp -dsimp only [↓RP, RQ0, RQ1, RQ2, RQ3, implies_true, forall_const, Nat.reduceMul, reduceIte, reduceCtorEq, Nat.reduceAdd, Nat.reduceEqDiff, Nat.reduceLT, Nat.reduceLeDiff, I, ty2, ty3, ty4, ty22, ty24, ty25, ty28, ty35, Go.Proofs.Try.results60]))
  refine callVC (c50 p h (sumTo u m) g3.1 (by omega)) (by (simp -dsimp only [↓RP, RQ0, RQ1, RQ2, RQ3, implies_true, forall_const, Nat.reduceMul, reduceIte, reduceCtorEq, Nat.reduceAdd, Nat.reduceEqDiff, Nat.reduceLT, Nat.reduceLeDiff, Pool.sv, rngs, I]); simp) (by (simp -dsimp only [↓RP, RQ0, RQ1, RQ2, RQ3, implies_true, forall_const, Nat.reduceMul, reduceIte, reduceCtorEq, Nat.reduceAdd, Nat.reduceEqDiff, Nat.reduceLT, Nat.reduceLeDiff, I])) ?_
  (repeat' (first | with_reducible refine splitVC_d (fun _ => ?_) (fun _ => ?_) | ((with_reducible refine And.intro ?_ ?_); focus (first | trivial | (simp only [InK]; omega) | omega | (simp only [InK, ne_eq, and_true, true_and]; omega))) | simp -dsimp only [↓RP, RQ0, RQ1, RQ2, RQ3, implies_true, forall_const, Nat.reduceMul, reduceIte, reduceCtorEq, Nat.reduceAdd, Nat.reduceEqDiff, Nat.reduceLT, Nat.reduceLeDiff, I, ty2, ty3, ty4, ty22, ty24, ty25, ty28, ty35, Go.Proofs.Try.results60]))
  unfold Pool.net at *
  exact ⟨by (first | trivial | (simp only [InK]; omega) | omega | (simp only [InK, ne_eq, and_true, true_and]; omega)), rfl⟩
def Pool.netE (p : Pool) (m : Nat) (u : Nat → Int) : Int := if p.err = 0 then p.tr m u else p.err
def Pool.netV (p : Pool) (m : Nat) (u : Nat → Int) : Int := if p.netE m u = 0 then p.net (sumTo u m) else 0
theorem tup2 {a b c d : Int} (h : a = c) (h2 : b = d) : SV.val (Value.int IntKind.i64 a) = SV.val (Value.int IntKind.i64 c) ∧ SV.val (Value.int IntKind.i64 b) = SV.val (Value.int IntKind.i64 d) := by rw [h, h2]; exact ⟨rfl, rfl⟩
theorem c21 (p : Pool) (m : Nat) (u : Nat → Int) : Contract Go.Proofs.Try.prog 21 [p.sv, ints m u] (.tup [I (p.netV m u), I (p.netE m u)]) := by
  refine contract_of Go.Proofs.Try.func21 rfl (by kernel_rfl) follows (by kernel_rfl) _ _ (by rw [Go.Proofs.Try.ntmps21]; simp) (by simp [OldL, p.old]; simp [Old, ints]) ?_
  unfold I
  conv => arg 4; unfold Pool.sv rngs I ints
  (repeat' (first | with_reducible refine splitVC_d (fun _ => ?_) (fun _ => ?_) | ((with_reducible refine And.intro ?_ ?_); focus (first | trivial | (simp only [InK]; omega) | omega | (simp only [InK, ne_eq, and_true, true_and]; omega))) | simp -dsimp only [↓RP, RQ0, RQ1, RQ2, RQ3, implies_true, forall_const, Nat.reduceMul, reduceIte, reduceCtorEq, Nat.reduceAdd, Nat.reduceEqDiff, Nat.reduceLT, Nat.reduceLeDiff, ty2, ty3, ty4, ty22, ty24, ty25, ty28, ty35, Go.Proofs.Try.results21]))
  refine callVC (c25 p) (by (simp -dsimp only [↓RP, RQ0, RQ1, RQ2, RQ3, implies_true, forall_const, Nat.reduceMul, reduceIte, reduceCtorEq, Nat.reduceAdd, Nat.reduceEqDiff, Nat.reduceLT, Nat.reduceLeDiff, Pool.sv, rngs, I]); simp) (by (simp -dsimp only [↓RP, RQ0, RQ1, RQ2, RQ3, implies_true, forall_const, Nat.reduceMul, reduceIte, reduceCtorEq, Nat.reduceAdd, Nat.reduceEqDiff, Nat.reduceLT, Nat.reduceLeDiff, I])) ?_
  (repeat' (first | with_reducible refine splitVC_d (fun _ => ?_) (fun _ => ?_) | ((with_reducible refine And.intro ?_ ?_); focus (first | trivial | (simp only [InK]; omega) | omega | (simp only [InK, ne_eq, and_true, true_and]; omega))) | simp -dsimp only [↓RP, RQ0, RQ1, RQ2, RQ3, implies_true, forall_const, Nat.reduceMul, reduceIte, reduceCtorEq, Nat.reduceAdd, Nat.reduceEqDiff, Nat.reduceLT, Nat.reduceLeDiff, I, ty2, ty3, ty4, ty22, ty24, ty25, ty28, ty35, Go.Proofs.Try.results21]))
  · rename_i h0
    have hf := Pool.fine h0
    refine callVC (c57 p hf m u) (by (simp -dsimp only [↓RP, RQ0, RQ1, RQ2, RQ3, implies_true, forall_const, Nat.reduceMul, reduceIte, reduceCtorEq, Nat.reduceAdd, Nat.reduceEqDiff, Nat.reduceLT, Nat.reduceLeDiff, Pool.sv, rngs, I, ints]); simp) (by (simp -dsimp only [↓RP, RQ0, RQ1, RQ2, RQ3, implies_true, forall_const, Nat.reduceMul, reduceIte, reduceCtorEq, Nat.reduceAdd, Nat.reduceEqDiff, Nat.reduceLT, Nat.reduceLeDiff, I])) ?_
    (repeat' (first | with_reducible refine splitVC_d (fun _ => ?_) (fun _ => ?_) | ((with_reducible refine And.intro ?_ ?_); focus (first | trivial | (simp only [InK]; omega) | omega | (simp only [InK, ne_eq, and_true, true_and]; omega))) | simp -dsimp only [↓RP, RQ0, RQ1, RQ2, RQ3, implies_true, forall_const, Nat.reduceMul, reduceIte, reduceCtorEq, Nat.reduceAdd, Nat.reduceEqDiff, Nat.reduceLT, Nat.reduceLeDiff, I, ty2, ty3, ty4, ty22, ty24, ty25, ty28, ty35, Go.Proofs.Try.results21]))
    · rename_i h1
      have ht := Pool.truth h1
      have g3 := ht.sum hf
      refine callVC (c51' u m (by have := ht.n; have := hf.n8; omega) (fun i hi => by have := ht.u hf i hi; omega)) (by (simp -dsimp only [↓RP, RQ0, RQ1, RQ2, RQ3, implies_true, forall_const, Nat.reduceMul, reduceIte, reduceCtorEq, Nat.reduceAdd, Nat.reduceEqDiff, Nat.reduceLT, Nat.reduceLeDiff, ints]); simp) (by (simp -dsimp only [↓RP, RQ0, RQ1, RQ2, RQ3, implies_true, forall_const, Nat.reduceMul, reduceIte, reduceCtorEq, Nat.reduceAdd, Nat.reduceEqDiff, Nat.reduceLT, Nat.reduceLeDiff, I])) ?_
      (repeat' (first | with_reducible refine splitVC_d (fun _ => ?_) (fun _ => ?_) | ((with_reducible refine And.intro ?_ ?_); focus (first | trivial | (simp only [InK]; omega) | omega | (simp only [InK, ne_eq, and_true, true_and]; omega))) | simp -dsimp only [↓RP, RQ0, RQ1, RQ2, RQ3, implies_true, forall_const, Nat.reduceMul, reduceIte, reduceCtorEq, Nat.reduceAdd, Nat.reduceEqDiff, Nat.reduceLT, Nat.reduceLeDiff, I, ty2, ty3, ty4, ty22, ty24, ty25, ty28, ty35, Go.Proofs.Try.results21]))
      refine callVC (c50 p hf (sumTo u m) g3.1 (by omega)) (by (simp -dsimp only [↓RP, RQ0, RQ1, RQ2, RQ3, implies_true, forall_const, Nat.reduceMul, reduceIte, reduceCtorEq, Nat.reduceAdd, Nat.reduceEqDiff, Nat.reduceLT, Nat.reduceLeDiff, Pool.sv, rngs, I]); simp) (by (simp -dsimp only [↓RP, RQ0, RQ1, RQ2, RQ3, implies_true, forall_const, Nat.reduceMul, reduceIte, reduceCtorEq, Nat.reduceAdd, Nat.reduceEqDiff, Nat.reduceLT, Nat.reduceLeDiff, I])) ?_
      (repeat' (first | with_reducible refine splitVC_d (fun _ => ?_) (fun _ => ?_) | ((with_reducible refine And.intro ?_ ?_); focus (first | trivial | (simp only [InK]; omega) | omega | (simp only [InK, ne_eq, and_true, true_and]; omega))) | simp -dsimp only [↓RP, RQ0, RQ1, RQ2, RQ3, implies_true, forall_const, Nat.reduceMul, reduceIte, reduceCtorEq, Nat.reduceAdd, Nat.reduceEqDiff, Nat.reduceLT, Nat.reduceLeDiff, I, ty2, ty3, ty4, ty22, ty24, ty25, ty28, ty35, Go.Proofs.Try.results21]))
      exact tup2 (by simp [Pool.netV, Pool.netE, h0, h1, Pool.net]) (by simp [Pool.netE, h0, h1])
    · rename_i h1
      refine callVC (c57 p hf m u) (by (simp -dsimp only [↓RP, RQ0, RQ1, RQ2, RQ3, implies_true, forall_const, Nat.reduceMul, reduceIte, reduceCtorEq, Nat.reduceAdd, Nat.reduceEqDiff, Nat.reduceLT, Nat.reduceLeDiff, Pool.sv, rngs, I, ints]); simp) (by (simp -dsimp only [↓RP, RQ0, RQ1, RQ2, RQ3, implies_true, forall_const, Nat.reduceMul, reduceIte, reduceCtorEq, Nat.reduceAdd, Nat.reduceEqDiff, Nat.reduceLT, Nat.reduceLeDiff, I])) ?_
      (repeat' (first | with_reducible refine splitVC_d (fun _ => ?_) (fun _ => ?_) | ((with_reducible refine And.intro ?_ ?_); focus (first | trivial | (simp only [InK]; omega) | omega | (simp only [InK, ne_eq, and_true, true_and]; omega))) | simp -dsimp only [↓RP, RQ0, RQ1, RQ2, RQ3, implies_true, forall_const, Nat.reduceMul, reduceIte, reduceCtorEq, Nat.reduceAdd, Nat.reduceEqDiff, Nat.reduceLT, Nat.reduceLeDiff, I, ty2, ty3, ty4, ty22, ty24, ty25, ty28, ty35, Go.Proofs.Try.results21]))
      exact tup2 (by simp [Pool.netV, Pool.netE, h0, h1]) (by simp [Pool.netE, h0])
  · rename_i h0
    refine callVC (c25 p) (by (simp -dsimp only [↓RP, RQ0, RQ1, RQ2, RQ3, implies_true, forall_const, Nat.reduceMul, reduceIte, reduceCtorEq, Nat.reduceAdd, Nat.reduceEqDiff, Nat.reduceLT, Nat.reduceLeDiff, Pool.sv, rngs, I]); simp) (by (simp -dsimp only [↓RP, RQ0, RQ1, RQ2, RQ3, implies_true, forall_const, Nat.reduceMul, reduceIte, reduceCtorEq, Nat.reduceAdd, Nat.reduceEqDiff, Nat.reduceLT, Nat.reduceLeDiff, I])) ?_
    (repeat' (first | with_reducible refine splitVC_d (fun _ => ?_) (fun _ => ?_) | ((with_reducible refine And.intro ?_ ?_); focus (first | trivial | (simp only [InK]; omega) | omega | (simp only [InK, ne_eq, and_true, true_and]; omega))) | simp -dsimp only [↓RP, RQ0, RQ1, RQ2, RQ3, implies_true, forall_const, Nat.reduceMul, reduceIte, reduceCtorEq, Nat.reduceAdd, Nat.reduceEqDiff, Nat.reduceLT, Nat.reduceLeDiff, I, ty2, ty3, ty4, ty22, ty24, ty25, ty28, ty35, Go.Proofs.Try.results21]))
    exact tup2 (by simp [Pool.netV, Pool.netE, h0]) (by simp [Pool.netE, h0])
end Go.Po
end
section
set_option linter.unusedSimpArgs false
set_option linter.unusedVariables false
set_option maxRecDepth 100000
set_option maxHeartbeats 4000000
namespace Go.Po
open Go.Sx
def Pool.leftE (p : Pool) (m : Nat) (u : Nat → Int) (r d : Int) : Int := if p.asked r d = 0 then p.tr m u else p.asked r d
def Pool.leftV (p : Pool) (m : Nat) (u : Nat → Int) (r d : Int) : Int := if p.leftE m u r d = 0 then p.net (sumTo u m) - d * u r.toNat else 0
theorem Pool.ask {p : Pool} {r d : Int} (h : p.asked r d = 0) : p.err = 0 ∧ 0 ≤ r ∧ r < p.n ∧ 0 ≤ d ∧ d ≤ 100000 ∧ d.tmod p.step = 0 := by
  unfold Pool.asked at h
  split at h
  · split at h
    · omega
    · split at h
      · rename_i h1 h2 h3; exact ⟨h1, by omega, by omega, h3.1, h3.2.1, h3.2.2⟩
      · omega
  · rename_i h1; exact absurd h h1
theorem c23 (p : Pool) (m : Nat) (u : Nat → Int) (r d : Int) : Contract Go.Proofs.Try.prog 23 [p.sv, ints m u, I r, I d] (.tup [I (p.leftV m u r d), I (p.leftE m u r d)]) := by
  refine contract_of Go.Proofs.Try.func23 rfl (by kernel_rfl) follows (by kernel_rfl) _ _ (by rw [Go.Proofs.Try.ntmps23]; simp) (by simp [OldL, p.old]; simp [Old, ints, I]) ?_
  unfold I
  conv => arg 4; unfold Pool.sv rngs I ints
  (repeat' (first | with_reducible refine splitVC_d (fun _ => ?_) (fun _ => ?_) | ((with_reducible refine And.intro ?_ ?_); focus (first | trivial | (simp only [InK]; omega) | omega | (simp only [InK, ne_eq, and_true, true_and]; omega))) | simp -dsimp only [↓RP, RQ0, RQ1, RQ2, RQ3, implies_true, forall_const, Nat.reduceMul, reduceIte, reduceCtorEq, Nat.reduceAdd, Nat.reduceEqDiff, Nat.reduceLT, Nat.reduceLeDiff, ty2, ty3, ty4, ty22, ty24, ty25, ty28, ty35, Go.Proofs.Try.results23]))
  refine callVC (c59 p r d) (by (simp -dsimp only [↓RP, RQ0, RQ1, RQ2, RQ3, implies_true, forall_const, Nat.reduceMul, reduceIte, reduceCtorEq, Nat.reduceAdd, Nat.reduceEqDiff, Nat.reduceLT, Nat.reduceLeDiff, Pool.sv, rngs, I]); simp) (by (simp -dsimp only [↓RP, RQ0, RQ1, RQ2, RQ3, implies_true, forall_const, Nat.reduceMul, reduceIte, reduceCtorEq, Nat.reduceAdd, Nat.reduceEqDiff, Nat.reduceLT, Nat.reduceLeDiff, I])) ?_
  (repeat' (first | with_reducible refine splitVC_d (fun _ => ?_) (fun _ => ?_) | ((with_reducible refine And.intro ?_ ?_); focus (first | trivial | (simp only [InK]; omega) | omega | (simp only [InK, ne_eq, and_true, true_and]; omega))) | simp -dsimp only [↓RP, RQ0, RQ1, RQ2, RQ3, implies_true, forall_const, Nat.reduceMul, reduceIte, reduceCtorEq, Nat.reduceAdd, Nat.reduceEqDiff, Nat.reduceLT, Nat.reduceLeDiff, I, ty2, ty3, ty4, ty22, ty24, ty25, ty28, ty35, Go.Proofs.Try.results23]))
  · rename_i h0
    have hk := Pool.ask h0
    have hf := Pool.fine hk.1
    refine callVC (c57 p hf m u) (by (simp -dsimp only [↓RP, RQ0, RQ1, RQ2, RQ3, implies_true, forall_const, Nat.reduceMul, reduceIte, reduceCtorEq, Nat.reduceAdd, Nat.reduceEqDiff, Nat.reduceLT, Nat.reduceLeDiff, Pool.sv, rngs, I, ints]); simp) (by (simp -dsimp only [↓RP, RQ0, RQ1, RQ2, RQ3, implies_true, forall_const, Nat.reduceMul, reduceIte, reduceCtorEq, Nat.reduceAdd, Nat.reduceEqDiff, Nat.reduceLT, Nat.reduceLeDiff, I])) ?_
    (repeat' (first | with_reducible refine splitVC_d (fun _ => ?_) (fun _ => ?_) | ((with_reducible refine And.intro ?_ ?_); focus (first | trivial | (simp only [InK]; omega) | omega | (simp only [InK, ne_eq, and_true, true_and]; omega))) | simp -dsimp only [↓RP, RQ0, RQ1, RQ2, RQ3, implies_true, forall_const, Nat.reduceMul, reduceIte, reduceCtorEq, Nat.reduceAdd, Nat.reduceEqDiff, Nat.reduceLT, Nat.reduceLeDiff, I, ty2, ty3, ty4, ty22, ty24, ty25, ty28, ty35, Go.Proofs.Try.results23]))
    · rename_i h1
      have ht := Pool.truth h1
      refine callVC (c60 p hf m u ht r d hk.2.1 (by have := ht.n; omega) hk.2.2.2.1 hk.2.2.2.2.1) (by (simp -dsimp only [↓RP, RQ0, RQ1, RQ2, RQ3, implies_true, forall_const, Nat.reduceMul, reduceIte, reduceCtorEq, Nat.reduceAdd, Nat.reduceEqDiff, Nat.reduceLT, Nat.reduceLeDiff, Pool.sv, rngs, I, ints]); simp) (by (simp -dsimp only [↓RP, RQ0, RQ1, RQ2, RQ3, implies_true, forall_const, Nat.reduceMul, reduceIte, reduceCtorEq, Nat.reduceAdd, Nat.reduceEqDiff, Nat.reduceLT, Nat.reduceLeDiff, I])) ?_
      (repeat' (first | with_reducible refine splitVC_d (fun _ => ?_) (fun _ => ?_) | ((with_reducible refine And.intro ?_ ?_); focus (first | trivial | (simp only [InK]; omega) | omega | (simp only [InK, ne_eq, and_true, true_and]; omega))) | simp -dsimp only [↓RP, RQ0, RQ1, RQ2, RQ3, implies_true, forall_const, Nat.reduceMul, reduceIte, reduceCtorEq, Nat.reduceAdd, Nat.reduceEqDiff, Nat.reduceLT, Nat.reduceLeDiff, I, ty2, ty3, ty4, ty22, ty24, ty25, ty28, ty35, Go.Proofs.Try.results23]))
      exact tup2 (by simp [Pool.leftV, Pool.leftE, h0, h1]) (by simp [Pool.leftE, h0, h1])
    · rename_i h1
      refine callVC (c57 p hf m u) (by (simp -dsimp only [↓RP, RQ0, RQ1, RQ2, RQ3, implies_true, forall_const, Nat.reduceMul, reduceIte, reduceCtorEq, Nat.reduceAdd, Nat.reduceEqDiff, Nat.reduceLT, Nat.reduceLeDiff, Pool.sv, rngs, I, ints]); simp) (by (simp -dsimp only [↓RP, RQ0, RQ1, RQ2, RQ3, implies_true, forall_const, Nat.reduceMul, reduceIte, reduceCtorEq, Nat.reduceAdd, Nat.reduceEqDiff, Nat.reduceLT, Nat.reduceLeDiff, I])) ?_
      (repeat' (first | with_reducible refine splitVC_d (fun _ => ?_) (fun _ => ?_) | ((with_reducible refine And.intro ?_ ?_); focus (first | trivial | (simp only [InK]; omega) | omega | (simp only [InK, ne_eq, and_true, true_and]; omega))) | simp -dsimp only [↓RP, RQ0, RQ1, RQ2, RQ3, implies_true, forall_const, Nat.reduceMul, reduceIte, reduceCtorEq, Nat.reduceAdd, Nat.reduceEqDiff, Nat.reduceLT, Nat.reduceLeDiff, I, ty2, ty3, ty4, ty22, ty24, ty25, ty28, ty35, Go.Proofs.Try.results23]))
      exact tup2 (by simp [Pool.leftV, Pool.leftE, h0, h1]) (by simp [Pool.leftE, h0])
  · rename_i h0
    refine callVC (c59 p r d) (by (simp -dsimp only [↓RP, RQ0, RQ1, RQ2, RQ3, implies_true, forall_const, Nat.reduceMul, reduceIte, reduceCtorEq, Nat.reduceAdd, Nat.reduceEqDiff, Nat.reduceLT, Nat.reduceLeDiff, Pool.sv, rngs, I]); simp) (by (simp -dsimp only [↓RP, RQ0, RQ1, RQ2, RQ3, implies_true, forall_const, Nat.reduceMul, reduceIte, reduceCtorEq, Nat.reduceAdd, Nat.reduceEqDiff, Nat.reduceLT, Nat.reduceLeDiff, I])) ?_
    (repeat' (first | with_reducible refine splitVC_d (fun _ => ?_) (fun _ => ?_) | ((with_reducible refine And.intro ?_ ?_); focus (first | trivial | (simp only [InK]; omega) | omega | (simp only [InK, ne_eq, and_true, true_and]; omega))) | simp -dsimp only [↓RP, RQ0, RQ1, RQ2, RQ3, implies_true, forall_const, Nat.reduceMul, reduceIte, reduceCtorEq, Nat.reduceAdd, Nat.reduceEqDiff, Nat.reduceLT, Nat.reduceLeDiff, I, ty2, ty3, ty4, ty22, ty24, ty25, ty28, ty35, Go.Proofs.Try.results23]))
    exact tup2 (by simp [Pool.leftV, Pool.leftE, h0]) (by simp [Pool.leftE, h0])
def ex (v : Nat → Int) (r : Int) : Nat → Int := fun i => if (i : Int) = r then 0 else v i
def rg (lo hi : Int) : SV := .agg [I lo, I hi]
theorem pl35 : placesOf Go.Proofs.Try.prog 35 = some [(0, 1), (1, 1)] := by kernel_rfl
theorem ex_bound {p : Pool} (h : p.Fine) (r : Int) : (∀ i, i < p.n → 0 ≤ ex p.lo r i ∧ ex p.lo r i ≤ 200) ∧ (∀ i, i < p.n → 0 ≤ ex p.hi r i ∧ ex p.hi r i ≤ 200) := by
  refine ⟨fun i hi => ?_, fun i hi => ?_⟩ <;> (have := h.rg i hi; unfold ex; split <;> omega)
theorem c84 (p : Pool) (h : p.Fine) (r : Int) : Contract Go.Proofs.Try.prog 84 [p.sv, I r] (rg (sumTo (ex p.lo r) p.n) (sumTo (ex p.hi r) p.n)) := by
  refine contract_of Go.Proofs.Try.func84 rfl (by kernel_rfl) follows (by kernel_rfl) _ _ (by rw [Go.Proofs.Try.ntmps84]; simp) (by simp [OldL, p.old]; simp [Old, I]) ?_
  have h8 := h.n8
  have hb1 := sumTo_bound _ 200 p.n (ex_bound h r).1
  have hb2 := sumTo_bound _ 200 p.n (ex_bound h r).2
  unfold Pool.sv rngs I
  (repeat' (first | with_reducible refine splitVC_d (fun _ => ?_) (fun _ => ?_) | ((with_reducible refine And.intro ?_ ?_); focus (first | trivial | (simp only [InK]; omega) | omega | (simp only [InK, ne_eq, and_true, true_and]; omega))) | simp -dsimp only [↓RP, RQ0, RQ1, RQ2, RQ3, implies_true, forall_const, Nat.reduceMul, reduceIte, reduceCtorEq, Nat.reduceAdd, Nat.reduceEqDiff, Nat.reduceLT, Nat.reduceLeDiff, ty2, ty3, ty4, ty22, ty24, ty25, ty28, ty35, pl35, Go.Proofs.Try.results84]))
  refine loop_vc (fun i => i ≤ p.n) (fun i => ⟨[(1, .val (.int .i64 r)), (2, .ptr 0 0), (4, .ptr 1 0), (5, .ptr 3 0), (6, .val (.int .i64 i))], [(3, .cells 35 [.val (.int .i64 (sumTo (ex p.lo r) i)), .val (.int .i64 (sumTo (ex p.hi r) i))]), (1, .cells 35 [.val (.int .i64 0), .val (.int .i64 0)]), (0, .cells 24 [.arr false false p.n 2 (fun i j => .val (.int .i64 (if j = 0 then p.lo i else p.hi i))), .val (.int .i64 p.per), .val (.int .i64 p.pence), .val (.int .i64 p.keep), .val (.int .i64 p.step)])], 4⟩) (fun i => p.n - i) 0 (Nat.zero_le _) (weak [] [] ?_ ?_ ?_) fun i hi => ?_
  · (simp -dsimp only [↓RP, RQ0, RQ1, RQ2, RQ3, implies_true, forall_const, Nat.reduceMul, reduceIte, reduceCtorEq, Nat.reduceAdd, Nat.reduceEqDiff, Nat.reduceLT, Nat.reduceLeDiff, sumTo]); simp
  · (simp -dsimp only [↓RP, RQ0, RQ1, RQ2, RQ3, implies_true, forall_const, Nat.reduceMul, reduceIte, reduceCtorEq, Nat.reduceAdd, Nat.reduceEqDiff, Nat.reduceLT, Nat.reduceLeDiff, sumTo]); simp
  · (simp -dsimp only [↓RP, RQ0, RQ1, RQ2, RQ3, implies_true, forall_const, Nat.reduceMul, reduceIte, reduceCtorEq, Nat.reduceAdd, Nat.reduceEqDiff, Nat.reduceLT, Nat.reduceLeDiff]); simp
  have g1 := hb1 i hi
  have g2 := hb2 i hi
  by_cases hlt : i < p.n
  · have g3 := (ex_bound h r).1 i hlt
    have g4 := (ex_bound h r).2 i hlt
    have g5 := h.rg i hlt
    (repeat' (first | with_reducible refine splitVC_d (fun _ => ?_) (fun _ => ?_) | ((with_reducible refine And.intro ?_ ?_); focus (first | trivial | (simp only [InK]; omega) | omega | (simp only [InK, ne_eq, and_true, true_and]; omega))) | simp -dsimp only [↓RP, RQ0, RQ1, RQ2, RQ3, implies_true, forall_const, Nat.reduceMul, reduceIte, reduceCtorEq, Nat.reduceAdd, Nat.reduceEqDiff, Nat.reduceLT, Nat.reduceLeDiff, ty2, ty3, ty4, ty22, ty24, ty25, ty28, ty35, pl35, Go.Proofs.Try.results84]))
    · rename_i h1
      refine ⟨i + 1, by omega, by omega, weak [] [] ?_ ?_ ?_⟩
      · (simp -dsimp only [↓RP, RQ0, RQ1, RQ2, RQ3, implies_true, forall_const, Nat.reduceMul, reduceIte, reduceCtorEq, Nat.reduceAdd, Nat.reduceEqDiff, Nat.reduceLT, Nat.reduceLeDiff, sumTo, Go.Po.ex, h1]); simp; omega
      · (simp -dsimp only [↓RP, RQ0, RQ1, RQ2, RQ3, implies_true, forall_const, Nat.reduceMul, reduceIte, reduceCtorEq, Nat.reduceAdd, Nat.reduceEqDiff, Nat.reduceLT, Nat.reduceLeDiff, sumTo, Go.Po.ex, h1]); simp
      · (simp -dsimp only [↓RP, RQ0, RQ1, RQ2, RQ3, implies_true, forall_const, Nat.reduceMul, reduceIte, reduceCtorEq, Nat.reduceAdd, Nat.reduceEqDiff, Nat.reduceLT, Nat.reduceLeDiff]); simp
    · rename_i h1
      refine ⟨i + 1, by omega, by omega, weak [] [] ?_ ?_ ?_⟩
      · (simp -dsimp only [↓RP, RQ0, RQ1, RQ2, RQ3, implies_true, forall_const, Nat.reduceMul, reduceIte, reduceCtorEq, Nat.reduceAdd, Nat.reduceEqDiff, Nat.reduceLT, Nat.reduceLeDiff, sumTo, Go.Po.ex, h1]); simp
      · (simp -dsimp only [↓RP, RQ0, RQ1, RQ2, RQ3, implies_true, forall_const, Nat.reduceMul, reduceIte, reduceCtorEq, Nat.reduceAdd, Nat.reduceEqDiff, Nat.reduceLT, Nat.reduceLeDiff, sumTo, Go.Po.ex, h1]); simp
      · (simp -dsimp only [↓RP, RQ0, RQ1, RQ2, RQ3, implies_true, forall_const, Nat.reduceMul, reduceIte, reduceCtorEq, Nat.reduceAdd, Nat.reduceEqDiff, Nat.reduceLT, Nat.reduceLeDiff]); simp
    · omega
  · have e : i = p.n := by omega
    (repeat' (first | with_reducible refine splitVC_d (fun _ => ?_) (fun _ => ?_) | ((with_reducible refine And.intro ?_ ?_); focus (first | trivial | (simp only [InK]; omega) | omega | (simp only [InK, ne_eq, and_true, true_and]; omega))) | simp -dsimp only [↓RP, RQ0, RQ1, RQ2, RQ3, implies_true, forall_const, Nat.reduceMul, reduceIte, reduceCtorEq, Nat.reduceAdd, Nat.reduceEqDiff, Nat.reduceLT, Nat.reduceLeDiff, ty2, ty3, ty4, ty22, ty24, ty25, ty28, ty35, pl35, Go.Proofs.Try.results84]))
    all_goals first
      | (exfalso; omega)
      | skip
    rw [e]
    (simp -dsimp only [↓RP, RQ0, RQ1, RQ2, RQ3, implies_true, forall_const, Nat.reduceMul, reduceIte, reduceCtorEq, Nat.reduceAdd, Nat.reduceEqDiff, Nat.reduceLT, Nat.reduceLeDiff, Go.Po.rg, I])
end Go.Po
end
section
set_option linter.unusedSimpArgs false
set_option linter.unusedVariables false
set_option maxRecDepth 100000
set_option maxHeartbeats 4000000
namespace Go.Po
open Go.Sx
def foldMin (f : Nat → Int) : Nat → Int
  | 0 => f 0
  | k + 1 => min (foldMin f k) (f (k + 1))
def foldMax (f : Nat → Int) : Nat → Int
  | 0 => f 0
  | k + 1 => max (foldMax f k) (f (k + 1))
def Pool.olo (p : Pool) (r : Int) : Int := sumTo (ex p.lo r) p.n
def Pool.ohi (p : Pool) (r : Int) : Int := sumTo (ex p.hi r) p.n
def Pool.ta (p : Pool) (r : Int) : Int := p.lo r.toNat + p.olo r
def Pool.tb (p : Pool) (r : Int) : Int := p.hi r.toNat + p.ohi r
def Pool.lowAt (p : Pool) (r d : Int) (k : Nat) : Int := p.net (p.ta r + k) - d * min (p.hi r.toNat) (p.ta r + k - p.olo r)
def Pool.highAt (p : Pool) (r d : Int) (k : Nat) : Int := p.net (p.ta r + k) - d * max (p.lo r.toNat) (p.ta r + k - p.ohi r)
def Pool.num (p : Pool) (r : Int) : Nat := (p.tb r - p.ta r).toNat
def Pool.sLo (p : Pool) (r d : Int) : Int := foldMin (p.lowAt r d) (p.num r)
def Pool.sHi (p : Pool) (r d : Int) : Int := foldMax (p.highAt r d) (p.num r)
theorem sumTo_le (u v : Nat → Int) (n : Nat) (h : ∀ i, i < n → u i ≤ v i) : ∀ i, i ≤ n → sumTo u i ≤ sumTo v i
  | 0, _ => by simp [sumTo]
  | i + 1, hi => by
    have h1 := sumTo_le u v n h i (by omega)
    have h2 := h i (by omega)
    simp only [sumTo]; omega
theorem sum_le (p : Pool) (h : p.Fine) (r : Int) : sumTo (ex p.lo r) p.n ≤ sumTo (ex p.hi r) p.n :=
  sumTo_le _ _ p.n (fun i hi => by have := h.rg i hi; unfold ex; split <;> omega) p.n (Nat.le_refl _)
theorem c50' (p : Pool) (h : p.Fine) (units : Int) (h7 : 0 ≤ units) (h8 : units ≤ 10000) : Contract Go.Proofs.Try.prog 50 [p.sv, I units] (I (p.net units)) := c50 p h units h7 h8
def loK (f : Nat → Int) : Nat → Int
  | 0 => 0
  | k + 1 => foldMin f k
def hiK (f : Nat → Int) : Nat → Int
  | 0 => 0
  | k + 1 => foldMax f k
theorem c68 (p : Pool) (h : p.Fine) (r d : Int) (h1 : 0 ≤ r) (h2 : r < p.n) (h3 : 0 ≤ d) (h4 : d ≤ 100000) : Contract Go.Proofs.Try.prog 68 [p.sv, I r, I d] (rg (p.sLo r d) (p.sHi r d)) := by
  refine contract_of Go.Proofs.Try.func68 rfl (by kernel_rfl) follows (by kernel_rfl) _ _ (by rw [Go.Proofs.Try.ntmps68]; simp) (by simp [OldL, p.old]; simp [Old, I]) ?_
  have h8 := h.n8
  have hb1 := sumTo_bound _ 200 p.n (ex_bound h r).1 p.n (Nat.le_refl _)
  have hb2 := sumTo_bound _ 200 p.n (ex_bound h r).2 p.n (Nat.le_refl _)
  have g5 := h.rg r.toNat (by omega)
  unfold I
  conv => arg 4; unfold Pool.sv rngs I
  (repeat' (first | with_reducible refine splitVC_d (fun _ => ?_) (fun _ => ?_) | ((with_reducible refine And.intro ?_ ?_); focus (first | trivial | (simp only [InK]; omega) | omega | (simp only [InK, ne_eq, and_true, true_and]; omega))) | simp -dsimp only [↓RP, RQ0, RQ1, RQ2, RQ3, implies_true, forall_const, Nat.reduceMul, reduceIte, reduceCtorEq, Nat.reduceAdd, Nat.reduceEqDiff, Nat.reduceLT, Nat.reduceLeDiff, ty2, ty3, ty4, ty22, ty24, ty25, ty28, ty35, pl35, Go.Proofs.Try.results68]))
  refine callVC (c84 p h r) (by (simp -dsimp only [↓RP, RQ0, RQ1, RQ2, RQ3, implies_true, forall_const, Nat.reduceMul, reduceIte, reduceCtorEq, Nat.reduceAdd, Nat.reduceEqDiff, Nat.reduceLT, Nat.reduceLeDiff, Pool.sv, rngs, I]); simp) (by (simp -dsimp only [↓RP, RQ0, RQ1, RQ2, RQ3, implies_true, forall_const, Nat.reduceMul, reduceIte, reduceCtorEq, Nat.reduceAdd, Nat.reduceEqDiff, Nat.reduceLT, Nat.reduceLeDiff, Go.Po.rg, I])) ?_
  (repeat' (first | with_reducible refine splitVC_d (fun _ => ?_) (fun _ => ?_) | ((with_reducible refine And.intro ?_ ?_); focus (first | trivial | (simp only [InK]; omega) | omega | (simp only [InK, ne_eq, and_true, true_and]; omega))) | simp -dsimp only [↓RP, RQ0, RQ1, RQ2, RQ3, implies_true, forall_const, Nat.reduceMul, reduceIte, reduceCtorEq, Nat.reduceAdd, Nat.reduceEqDiff, Nat.reduceLT, Nat.reduceLeDiff, Go.Po.rg, I, ty2, ty3, ty4, ty22, ty24, ty25, ty28, ty35, pl35, Go.Proofs.Try.results68]))
  have hN : (p.num r : Int) = p.tb r - p.ta r := by unfold Pool.num Pool.tb Pool.ta Pool.olo Pool.ohi at *; have := sum_le p h r; omega
  refine loop_vc (fun k => k ≤ p.num r + 1) (fun k => ⟨[(2, .val (.int .i64 d)), (3, .ptr 0 0), (6, .ptr 1 0), (7, .ptr 10 0), (8, .ptr 11 0), (9, .ptr 15 0), (10, .val (.bool (decide (0 < k)))), (11, .val (.int .i64 (p.ta r + k)))],
    [(15, .cells 35 [.val (.int .i64 (loK (p.lowAt r d) k)), .val (.int .i64 (hiK (p.highAt r d) k))]), (11, .cells 35 [.val (.int .i64 (p.olo r)), .val (.int .i64 (p.ohi r))]), (10, .cells 35 [.val (.int .i64 (p.lo r.toNat)), .val (.int .i64 (p.hi r.toNat))]),
      (1, .cells 35 [.val (.int .i64 0), .val (.int .i64 0)]), (0, .cells 24 [.arr false false p.n 2 (fun i j => .val (.int .i64 (if j = 0 then p.lo i else p.hi i))), .val (.int .i64 p.per), .val (.int .i64 p.pence), .val (.int .i64 p.keep), .val (.int .i64 p.step)])], 16⟩) (fun k => p.num r + 1 - k) 0 (Nat.zero_le _) (weak [] [] ?_ ?_ ?_) fun k hk => ?_
  · (simp -dsimp only [↓RP, RQ0, RQ1, RQ2, RQ3, implies_true, forall_const, Nat.reduceMul, reduceIte, reduceCtorEq, Nat.reduceAdd, Nat.reduceEqDiff, Nat.reduceLT, Nat.reduceLeDiff, Pool.ta, Pool.olo]); simp
  · (simp -dsimp only [↓RP, RQ0, RQ1, RQ2, RQ3, implies_true, forall_const, Nat.reduceMul, reduceIte, reduceCtorEq, Nat.reduceAdd, Nat.reduceEqDiff, Nat.reduceLT, Nat.reduceLeDiff, loK, hiK, Pool.olo, Pool.ohi]); simp
  · (simp -dsimp only [↓RP, RQ0, RQ1, RQ2, RQ3, implies_true, forall_const, Nat.reduceMul, reduceIte, reduceCtorEq, Nat.reduceAdd, Nat.reduceEqDiff, Nat.reduceLT, Nat.reduceLeDiff]); simp
  have g6 : p.ta r = p.lo r.toNat + p.olo r := rfl
  have g7 : p.tb r = p.hi r.toNat + p.ohi r := rfl
  have g8 : 0 ≤ p.olo r ∧ p.olo r ≤ 1600 := by unfold Pool.olo; omega
  have g9 : 0 ≤ p.ohi r ∧ p.ohi r ≤ 1600 := by unfold Pool.ohi; omega
  by_cases hlt : k ≤ p.num r
  · have m1 : 0 ≤ min (p.hi r.toNat) (p.ta r + k - p.olo r) ∧ min (p.hi r.toNat) (p.ta r + k - p.olo r) ≤ 200 := by omega
    have m2 : 0 ≤ max (p.lo r.toNat) (p.ta r + k - p.ohi r) ∧ max (p.lo r.toNat) (p.ta r + k - p.ohi r) ≤ 200 := by omega
    have n1 := Pool.net_bound h (units := p.ta r + k) (by omega) (by omega)
    have d1 : 0 ≤ d * min (p.hi r.toNat) (p.ta r + k - p.olo r) := Int.mul_nonneg h3 m1.1
    have d2 : d * min (p.hi r.toNat) (p.ta r + k - p.olo r) ≤ 100000 * 200 := Int.mul_le_mul h4 m1.2 m1.1 (by omega)
    have d3 : 0 ≤ d * max (p.lo r.toNat) (p.ta r + k - p.ohi r) := Int.mul_nonneg h3 m2.1
    have d4 : d * max (p.lo r.toNat) (p.ta r + k - p.ohi r) ≤ 100000 * 200 := Int.mul_le_mul h4 m2.2 m2.1 (by omega)
    (repeat' (first | with_reducible refine splitVC_d (fun _ => ?_) (fun _ => ?_) | ((with_reducible refine And.intro ?_ ?_); focus (first | trivial | (simp only [InK]; omega) | omega | (simp only [InK, ne_eq, and_true, true_and]; omega))) | simp -dsimp only [↓RP, RQ0, RQ1, RQ2, RQ3, implies_true, forall_const, Nat.reduceMul, reduceIte, reduceCtorEq, Nat.reduceAdd, Nat.reduceEqDiff, Nat.reduceLT, Nat.reduceLeDiff, ty2, ty3, ty4, ty22, ty24, ty25, ty28, ty35, pl35, Go.Proofs.Try.results68]))
    · refine callVC (c50' p h (p.ta r + k) (by omega) (by omega)) (by (simp -dsimp only [↓RP, RQ0, RQ1, RQ2, RQ3, implies_true, forall_const, Nat.reduceMul, reduceIte, reduceCtorEq, Nat.reduceAdd, Nat.reduceEqDiff, Nat.reduceLT, Nat.reduceLeDiff, Pool.sv, rngs, I]); simp) (by (simp -dsimp only [↓RP, RQ0, RQ1, RQ2, RQ3, implies_true, forall_const, Nat.reduceMul, reduceIte, reduceCtorEq, Nat.reduceAdd, Nat.reduceEqDiff, Nat.reduceLT, Nat.reduceLeDiff, I])) ?_
      (repeat' (first | with_reducible refine splitVC_d (fun _ => ?_) (fun _ => ?_) | ((with_reducible refine And.intro ?_ ?_); focus (first | trivial | (simp only [InK]; omega) | omega | (simp only [InK, ne_eq, and_true, true_and]; omega))) | simp -dsimp only [↓RP, RQ0, RQ1, RQ2, RQ3, implies_true, forall_const, Nat.reduceMul, reduceIte, reduceCtorEq, Nat.reduceAdd, Nat.reduceEqDiff, Nat.reduceLT, Nat.reduceLeDiff, I, ty2, ty3, ty4, ty22, ty24, ty25, ty28, ty35, pl35, Go.Proofs.Try.results68]))
      · rename_i hk0
        obtain ⟨k, rfl⟩ : ∃ j, k = j + 1 := ⟨k - 1, by omega⟩
        refine ⟨k + 1 + 1, by omega, by omega, weak [] [] ?_ ?_ ?_⟩
        · (simp -dsimp only [↓RP, RQ0, RQ1, RQ2, RQ3, implies_true, forall_const, Nat.reduceMul, reduceIte, reduceCtorEq, Nat.reduceAdd, Nat.reduceEqDiff, Nat.reduceLT, Nat.reduceLeDiff]); simp; omega
        · (simp -dsimp only [↓RP, RQ0, RQ1, RQ2, RQ3, implies_true, forall_const, Nat.reduceMul, reduceIte, reduceCtorEq, Nat.reduceAdd, Nat.reduceEqDiff, Nat.reduceLT, Nat.reduceLeDiff, loK, hiK, foldMin, foldMax, Pool.lowAt, Pool.highAt]); simp
        · (simp -dsimp only [↓RP, RQ0, RQ1, RQ2, RQ3, implies_true, forall_const, Nat.reduceMul, reduceIte, reduceCtorEq, Nat.reduceAdd, Nat.reduceEqDiff, Nat.reduceLT, Nat.reduceLeDiff]); simp
      · rename_i hk0
        obtain rfl : k = 0 := by omega
        refine ⟨0 + 1, by omega, by omega, weak [] [] ?_ ?_ ?_⟩
        · (simp -dsimp only [↓RP, RQ0, RQ1, RQ2, RQ3, implies_true, forall_const, Nat.reduceMul, reduceIte, reduceCtorEq, Nat.reduceAdd, Nat.reduceEqDiff, Nat.reduceLT, Nat.reduceLeDiff]); simp
        · (simp -dsimp only [↓RP, RQ0, RQ1, RQ2, RQ3, implies_true, forall_const, Nat.reduceMul, reduceIte, reduceCtorEq, Nat.reduceAdd, Nat.reduceEqDiff, Nat.reduceLT, Nat.reduceLeDiff, loK, hiK, foldMin, foldMax, Pool.lowAt, Pool.highAt]); simp
        · (simp -dsimp only [↓RP, RQ0, RQ1, RQ2, RQ3, implies_true, forall_const, Nat.reduceMul, reduceIte, reduceCtorEq, Nat.reduceAdd, Nat.reduceEqDiff, Nat.reduceLT, Nat.reduceLeDiff]); simp
    · exfalso; omega
  · obtain rfl : k = p.num r + 1 := by omega
    (repeat' (first | with_reducible refine splitVC_d (fun _ => ?_) (fun _ => ?_) | ((with_reducible refine And.intro ?_ ?_); focus (first | trivial | (simp only [InK]; omega) | omega | (simp only [InK, ne_eq, and_true, true_and]; omega))) | simp -dsimp only [↓RP, RQ0, RQ1, RQ2, RQ3, implies_true, forall_const, Nat.reduceMul, reduceIte, reduceCtorEq, Nat.reduceAdd, Nat.reduceEqDiff, Nat.reduceLT, Nat.reduceLeDiff, ty2, ty3, ty4, ty22, ty24, ty25, ty28, ty35, pl35, Go.Proofs.Try.results68]))
    · exfalso; omega
    · (simp -dsimp only [↓RP, RQ0, RQ1, RQ2, RQ3, implies_true, forall_const, Nat.reduceMul, reduceIte, reduceCtorEq, Nat.reduceAdd, Nat.reduceEqDiff, Nat.reduceLT, Nat.reduceLeDiff, Go.Po.rg, I, loK, hiK, Pool.sLo, Pool.sHi])
end Go.Po
end
section
set_option linter.unusedSimpArgs false
set_option linter.unusedVariables false
set_option maxRecDepth 100000
set_option maxHeartbeats 4000000
namespace Go.Po
open Go.Sx
def Pool.chE (p : Pool) (m : Nat) (u : Nat → Int) (r d : Int) : Int := if p.leftE m u r d = 0 then (if 0 ≤ p.leftV m u r d then 14 else 0) else p.leftE m u r d
theorem c40 (p : Pool) (m : Nat) (u : Nat → Int) (r d : Int) : Contract Go.Proofs.Try.prog 40 [p.sv, I r, I d, ints m u] (I (p.chE m u r d)) := by
  refine contract_of Go.Proofs.Try.func40 rfl (by kernel_rfl) follows (by kernel_rfl) _ _ (by rw [Go.Proofs.Try.ntmps40]; simp) (by simp [OldL, p.old]; simp [Old, ints, I]) ?_
  unfold I
  conv => arg 4; unfold Pool.sv rngs I ints
  (repeat' (first | with_reducible refine splitVC_d (fun _ => ?_) (fun _ => ?_) | ((with_reducible refine And.intro ?_ ?_); focus (first | trivial | (simp only [InK]; omega) | omega | (simp only [InK, ne_eq, and_true, true_and]; omega))) | simp -dsimp only [↓RP, RQ0, RQ1, RQ2, RQ3, implies_true, forall_const, Nat.reduceMul, reduceIte, reduceCtorEq, Nat.reduceAdd, Nat.reduceEqDiff, Nat.reduceLT, Nat.reduceLeDiff, ty2, ty3, ty4, ty22, ty24, ty25, ty28, ty35, Go.Proofs.Try.results40]))
  refine callVC (c23 p m u r d) (by (simp -dsimp only [↓RP, RQ0, RQ1, RQ2, RQ3, implies_true, forall_const, Nat.reduceMul, reduceIte, reduceCtorEq, Nat.reduceAdd, Nat.reduceEqDiff, Nat.reduceLT, Nat.reduceLeDiff, Pool.sv, rngs, I, ints]); simp) (by (simp -dsimp only [↓RP, RQ0, RQ1, RQ2, RQ3, implies_true, forall_const, Nat.reduceMul, reduceIte, reduceCtorEq, Nat.reduceAdd, Nat.reduceEqDiff, Nat.reduceLT, Nat.reduceLeDiff, I])) ?_
  (repeat' (first | with_reducible refine splitVC_d (fun _ => ?_) (fun _ => ?_) | ((with_reducible refine And.intro ?_ ?_); focus (first | trivial | (simp only [InK]; omega) | omega | (simp only [InK, ne_eq, and_true, true_and]; omega))) | simp -dsimp only [↓RP, RQ0, RQ1, RQ2, RQ3, implies_true, forall_const, Nat.reduceMul, reduceIte, reduceCtorEq, Nat.reduceAdd, Nat.reduceEqDiff, Nat.reduceLT, Nat.reduceLeDiff, I, ty2, ty3, ty4, ty22, ty24, ty25, ty28, ty35, Go.Proofs.Try.results40]))
  · rename_i h0 h1
    exact I_eq (by simp [Pool.chE, h0, h1])
  · rename_i h0 h1
    exact I_eq (by simp [Pool.chE, h0, h1])
  · rename_i h0
    exact I_eq (by simp [Pool.chE, h0])
def Pool.reE (p : Pool) (r d : Int) : Int := if p.asked r d = 0 then (if 0 ≤ p.sLo r d then 5 else 0) else p.asked r d
theorem c38 (p : Pool) (r d : Int) : Contract Go.Proofs.Try.prog 38 [p.sv, I r, I d] (I (p.reE r d)) := by
  refine contract_of Go.Proofs.Try.func38 rfl (by kernel_rfl) follows (by kernel_rfl) _ _ (by rw [Go.Proofs.Try.ntmps38]; simp) (by simp [OldL, p.old]; simp [Old, I]) ?_
  unfold I
  conv => arg 4; unfold Pool.sv rngs I
  (repeat' (first | with_reducible refine splitVC_d (fun _ => ?_) (fun _ => ?_) | ((with_reducible refine And.intro ?_ ?_); focus (first | trivial | (simp only [InK]; omega) | omega | (simp only [InK, ne_eq, and_true, true_and]; omega))) | simp -dsimp only [↓RP, RQ0, RQ1, RQ2, RQ3, implies_true, forall_const, Nat.reduceMul, reduceIte, reduceCtorEq, Nat.reduceAdd, Nat.reduceEqDiff, Nat.reduceLT, Nat.reduceLeDiff, ty2, ty3, ty4, ty22, ty24, ty25, ty28, ty35, Go.Proofs.Try.results38]))
  refine callVC (c59 p r d) (by (simp -dsimp only [↓RP, RQ0, RQ1, RQ2, RQ3, implies_true, forall_const, Nat.reduceMul, reduceIte, reduceCtorEq, Nat.reduceAdd, Nat.reduceEqDiff, Nat.reduceLT, Nat.reduceLeDiff, Pool.sv, rngs, I]); simp) (by (simp -dsimp only [↓RP, RQ0, RQ1, RQ2, RQ3, implies_true, forall_const, Nat.reduceMul, reduceIte, reduceCtorEq, Nat.reduceAdd, Nat.reduceEqDiff, Nat.reduceLT, Nat.reduceLeDiff, I])) ?_
  (repeat' (first | with_reducible refine splitVC_d (fun _ => ?_) (fun _ => ?_) | ((with_reducible refine And.intro ?_ ?_); focus (first | trivial | (simp only [InK]; omega) | omega | (simp only [InK, ne_eq, and_true, true_and]; omega))) | simp -dsimp only [↓RP, RQ0, RQ1, RQ2, RQ3, implies_true, forall_const, Nat.reduceMul, reduceIte, reduceCtorEq, Nat.reduceAdd, Nat.reduceEqDiff, Nat.reduceLT, Nat.reduceLeDiff, I, ty2, ty3, ty4, ty22, ty24, ty25, ty28, ty35, Go.Proofs.Try.results38]))
  · rename_i h0
    have hk := Pool.ask h0
    refine callVC (c68 p (Pool.fine hk.1) r d hk.2.1 hk.2.2.1 hk.2.2.2.1 hk.2.2.2.2.1) (by (simp -dsimp only [↓RP, RQ0, RQ1, RQ2, RQ3, implies_true, forall_const, Nat.reduceMul, reduceIte, reduceCtorEq, Nat.reduceAdd, Nat.reduceEqDiff, Nat.reduceLT, Nat.reduceLeDiff, Pool.sv, rngs, I]); simp) (by (simp -dsimp only [↓RP, RQ0, RQ1, RQ2, RQ3, implies_true, forall_const, Nat.reduceMul, reduceIte, reduceCtorEq, Nat.reduceAdd, Nat.reduceEqDiff, Nat.reduceLT, Nat.reduceLeDiff, Go.Po.rg, I])) ?_
    (repeat' (first | with_reducible refine splitVC_d (fun _ => ?_) (fun _ => ?_) | ((with_reducible refine And.intro ?_ ?_); focus (first | trivial | (simp only [InK]; omega) | omega | (simp only [InK, ne_eq, and_true, true_and]; omega))) | simp -dsimp only [↓RP, RQ0, RQ1, RQ2, RQ3, implies_true, forall_const, Nat.reduceMul, reduceIte, reduceCtorEq, Nat.reduceAdd, Nat.reduceEqDiff, Nat.reduceLT, Nat.reduceLeDiff, Go.Po.rg, I, ty2, ty3, ty4, ty22, ty24, ty25, ty28, ty35, Go.Proofs.Try.results38]))
    · rename_i h1
      exact I_eq (by simp [Pool.reE, h0, h1])
    · rename_i h1
      exact I_eq (by simp [Pool.reE, h0, h1])
  · rename_i h0
    refine callVC (c59 p r d) (by (simp -dsimp only [↓RP, RQ0, RQ1, RQ2, RQ3, implies_true, forall_const, Nat.reduceMul, reduceIte, reduceCtorEq, Nat.reduceAdd, Nat.reduceEqDiff, Nat.reduceLT, Nat.reduceLeDiff, Pool.sv, rngs, I]); simp) (by (simp -dsimp only [↓RP, RQ0, RQ1, RQ2, RQ3, implies_true, forall_const, Nat.reduceMul, reduceIte, reduceCtorEq, Nat.reduceAdd, Nat.reduceEqDiff, Nat.reduceLT, Nat.reduceLeDiff, I])) ?_
    (repeat' (first | with_reducible refine splitVC_d (fun _ => ?_) (fun _ => ?_) | ((with_reducible refine And.intro ?_ ?_); focus (first | trivial | (simp only [InK]; omega) | omega | (simp only [InK, ne_eq, and_true, true_and]; omega))) | simp -dsimp only [↓RP, RQ0, RQ1, RQ2, RQ3, implies_true, forall_const, Nat.reduceMul, reduceIte, reduceCtorEq, Nat.reduceAdd, Nat.reduceEqDiff, Nat.reduceLT, Nat.reduceLeDiff, I, ty2, ty3, ty4, ty22, ty24, ty25, ty28, ty35, Go.Proofs.Try.results38]))
    exact I_eq (by simp [Pool.reE, h0])
def Pool.spLo (p : Pool) (r d : Int) : Int := if p.asked r d = 0 then p.sLo r d else 0
def Pool.spHi (p : Pool) (r d : Int) : Int := if p.asked r d = 0 then p.sHi r d else 0
theorem c27 (p : Pool) (r d : Int) : Contract Go.Proofs.Try.prog 27 [p.sv, I r, I d] (.tup [Go.Po.rg (p.spLo r d) (p.spHi r d), I (p.asked r d)]) := by
  refine contract_of Go.Proofs.Try.func27 rfl (by kernel_rfl) follows (by kernel_rfl) _ _ (by rw [Go.Proofs.Try.ntmps27]; simp) (by simp [OldL, p.old]; simp [Old, I]) ?_
  unfold I
  conv => arg 4; unfold Pool.sv rngs I
  (repeat' (first | with_reducible refine splitVC_d (fun _ => ?_) (fun _ => ?_) | ((with_reducible refine And.intro ?_ ?_); focus (first | trivial | (simp only [InK]; omega) | omega | (simp only [InK, ne_eq, and_true, true_and]; omega))) | simp -dsimp only [↓RP, RQ0, RQ1, RQ2, RQ3, implies_true, forall_const, Nat.reduceMul, reduceIte, reduceCtorEq, Nat.reduceAdd, Nat.reduceEqDiff, Nat.reduceLT, Nat.reduceLeDiff, ty2, ty3, ty4, ty22, ty24, ty25, ty28, ty35, pl35, Go.Proofs.Try.results27]))
  refine callVC (c59 p r d) (by (simp -dsimp only [↓RP, RQ0, RQ1, RQ2, RQ3, implies_true, forall_const, Nat.reduceMul, reduceIte, reduceCtorEq, Nat.reduceAdd, Nat.reduceEqDiff, Nat.reduceLT, Nat.reduceLeDiff, Pool.sv, rngs, I]); simp) (by (simp -dsimp only [↓RP, RQ0, RQ1, RQ2, RQ3, implies_true, forall_const, Nat.reduceMul, reduceIte, reduceCtorEq, Nat.reduceAdd, Nat.reduceEqDiff, Nat.reduceLT, Nat.reduceLeDiff, I])) ?_
  (repeat' (first | with_reducible refine splitVC_d (fun _ => ?_) (fun _ => ?_) | ((with_reducible refine And.intro ?_ ?_); focus (first | trivial | (simp only [InK]; omega) | omega | (simp only [InK, ne_eq, and_true, true_and]; omega))) | simp -dsimp only [↓RP, RQ0, RQ1, RQ2, RQ3, implies_true, forall_const, Nat.reduceMul, reduceIte, reduceCtorEq, Nat.reduceAdd, Nat.reduceEqDiff, Nat.reduceLT, Nat.reduceLeDiff, I, ty2, ty3, ty4, ty22, ty24, ty25, ty28, ty35, pl35, Go.Proofs.Try.results27]))
  · rename_i h0
    have hk := Pool.ask h0
    refine callVC (c68 p (Pool.fine hk.1) r d hk.2.1 hk.2.2.1 hk.2.2.2.1 hk.2.2.2.2.1) (by (simp -dsimp only [↓RP, RQ0, RQ1, RQ2, RQ3, implies_true, forall_const, Nat.reduceMul, reduceIte, reduceCtorEq, Nat.reduceAdd, Nat.reduceEqDiff, Nat.reduceLT, Nat.reduceLeDiff, Pool.sv, rngs, I]); simp) (by (simp -dsimp only [↓RP, RQ0, RQ1, RQ2, RQ3, implies_true, forall_const, Nat.reduceMul, reduceIte, reduceCtorEq, Nat.reduceAdd, Nat.reduceEqDiff, Nat.reduceLT, Nat.reduceLeDiff, Go.Po.rg, I])) ?_
    (repeat' (first | with_reducible refine splitVC_d (fun _ => ?_) (fun _ => ?_) | ((with_reducible refine And.intro ?_ ?_); focus (first | trivial | (simp only [InK]; omega) | omega | (simp only [InK, ne_eq, and_true, true_and]; omega))) | simp -dsimp only [↓RP, RQ0, RQ1, RQ2, RQ3, implies_true, forall_const, Nat.reduceMul, reduceIte, reduceCtorEq, Nat.reduceAdd, Nat.reduceEqDiff, Nat.reduceLT, Nat.reduceLeDiff, Go.Po.rg, I, ty2, ty3, ty4, ty22, ty24, ty25, ty28, ty35, pl35, Go.Proofs.Try.results27]))
    simp [Pool.spLo, Pool.spHi, h0]
  · rename_i h0
    refine callVC (c59 p r d) (by (simp -dsimp only [↓RP, RQ0, RQ1, RQ2, RQ3, implies_true, forall_const, Nat.reduceMul, reduceIte, reduceCtorEq, Nat.reduceAdd, Nat.reduceEqDiff, Nat.reduceLT, Nat.reduceLeDiff, Pool.sv, rngs, I]); simp) (by (simp -dsimp only [↓RP, RQ0, RQ1, RQ2, RQ3, implies_true, forall_const, Nat.reduceMul, reduceIte, reduceCtorEq, Nat.reduceAdd, Nat.reduceEqDiff, Nat.reduceLT, Nat.reduceLeDiff, I])) ?_
    (repeat' (first | with_reducible refine splitVC_d (fun _ => ?_) (fun _ => ?_) | ((with_reducible refine And.intro ?_ ?_); focus (first | trivial | (simp only [InK]; omega) | omega | (simp only [InK, ne_eq, and_true, true_and]; omega))) | simp -dsimp only [↓RP, RQ0, RQ1, RQ2, RQ3, implies_true, forall_const, Nat.reduceMul, reduceIte, reduceCtorEq, Nat.reduceAdd, Nat.reduceEqDiff, Nat.reduceLT, Nat.reduceLeDiff, Go.Po.rg, I, ty2, ty3, ty4, ty22, ty24, ty25, ty28, ty35, pl35, Go.Proofs.Try.results27]))
    simp [Pool.spLo, Pool.spHi, h0]
theorem foldMin_bound (f : Nat → Int) (a b : Int) (n : Nat) (h : ∀ k, k ≤ n → a ≤ f k ∧ f k ≤ b) : ∀ k, k ≤ n → a ≤ foldMin f k ∧ foldMin f k ≤ b
  | 0, hk => h 0 hk
  | k + 1, hk => by
    have h1 := foldMin_bound f a b n h k (by omega)
    have h2 := h (k + 1) hk
    simp only [foldMin]; omega
theorem lowAt_bound (p : Pool) (h : p.Fine) (r d : Int) (h1 : 0 ≤ r) (h2 : r < p.n) (h3 : 0 ≤ d) (h4 : d ≤ 100000) (k : Nat) (hlt : k ≤ p.num r) : -30000000 ≤ p.lowAt r d k ∧ p.lowAt r d k ≤ 1000000 := by
  have h8 := h.n8
  have hb1 := sumTo_bound _ 200 p.n (ex_bound h r).1 p.n (Nat.le_refl _)
  have hb2 := sumTo_bound _ 200 p.n (ex_bound h r).2 p.n (Nat.le_refl _)
  have g5 := h.rg r.toNat (by omega)
  have hN : (p.num r : Int) = p.tb r - p.ta r := by unfold Pool.num Pool.tb Pool.ta Pool.olo Pool.ohi at *; have := sum_le p h r; omega
  have g6 : p.ta r = p.lo r.toNat + p.olo r := rfl
  have g7 : p.tb r = p.hi r.toNat + p.ohi r := rfl
  have g8 : 0 ≤ p.olo r ∧ p.olo r ≤ 1600 := by unfold Pool.olo; omega
  have g9 : 0 ≤ p.ohi r ∧ p.ohi r ≤ 1600 := by unfold Pool.ohi; omega
  have m1 : 0 ≤ min (p.hi r.toNat) (p.ta r + k - p.olo r) ∧ min (p.hi r.toNat) (p.ta r + k - p.olo r) ≤ 200 := by omega
  have n1 := Pool.net_bound h (units := p.ta r + k) (by omega) (by omega)
  have d1 : 0 ≤ d * min (p.hi r.toNat) (p.ta r + k - p.olo r) := Int.mul_nonneg h3 m1.1
  have d2 : d * min (p.hi r.toNat) (p.ta r + k - p.olo r) ≤ 100000 * 200 := Int.mul_le_mul h4 m1.2 m1.1 (by omega)
  unfold Pool.lowAt
  omega
theorem sLo_bound (p : Pool) (h : p.Fine) (r d : Int) (h1 : 0 ≤ r) (h2 : r < p.n) (h3 : 0 ≤ d) (h4 : d ≤ 100000) : -30000000 ≤ p.sLo r d ∧ p.sLo r d ≤ 1000000 :=
  foldMin_bound _ _ _ _ (lowAt_bound p h r d h1 h2 h3 h4) _ (Nat.le_refl _)
def Pool.needV (p : Pool) (r d : Int) : Int := if p.asked r d = 0 then max 0 (- p.sLo r d) else 0
theorem c29 (p : Pool) (r d : Int) : Contract Go.Proofs.Try.prog 29 [p.sv, I r, I d] (.tup [I (p.needV r d), I (p.asked r d)]) := by
  refine contract_of Go.Proofs.Try.func29 rfl (by kernel_rfl) follows (by kernel_rfl) _ _ (by rw [Go.Proofs.Try.ntmps29]; simp) (by simp [OldL, p.old]; simp [Old, I]) ?_
  unfold I
  conv => arg 4; unfold Pool.sv rngs I
  (repeat' (first | with_reducible refine splitVC_d (fun _ => ?_) (fun _ => ?_) | ((with_reducible refine And.intro ?_ ?_); focus (first | trivial | (simp only [InK]; omega) | omega | (simp only [InK, ne_eq, and_true, true_and]; omega))) | simp -dsimp only [↓RP, RQ0, RQ1, RQ2, RQ3, implies_true, forall_const, Nat.reduceMul, reduceIte, reduceCtorEq, Nat.reduceAdd, Nat.reduceEqDiff, Nat.reduceLT, Nat.reduceLeDiff, ty2, ty3, ty4, ty22, ty24, ty25, ty28, ty35, pl35, Go.Proofs.Try.results29]))
  refine callVC (c59 p r d) (by (simp -dsimp only [↓RP, RQ0, RQ1, RQ2, RQ3, implies_true, forall_const, Nat.reduceMul, reduceIte, reduceCtorEq, Nat.reduceAdd, Nat.reduceEqDiff, Nat.reduceLT, Nat.reduceLeDiff, Pool.sv, rngs, I]); simp) (by (simp -dsimp only [↓RP, RQ0, RQ1, RQ2, RQ3, implies_true, forall_const, Nat.reduceMul, reduceIte, reduceCtorEq, Nat.reduceAdd, Nat.reduceEqDiff, Nat.reduceLT, Nat.reduceLeDiff, I])) ?_
  (repeat' (first | with_reducible refine splitVC_d (fun _ => ?_) (fun _ => ?_) | ((with_reducible refine And.intro ?_ ?_); focus (first | trivial | (simp only [InK]; omega) | omega | (simp only [InK, ne_eq, and_true, true_and]; omega))) | simp -dsimp only [↓RP, RQ0, RQ1, RQ2, RQ3, implies_true, forall_const, Nat.reduceMul, reduceIte, reduceCtorEq, Nat.reduceAdd, Nat.reduceEqDiff, Nat.reduceLT, Nat.reduceLeDiff, I, ty2, ty3, ty4, ty22, ty24, ty25, ty28, ty35, pl35, Go.Proofs.Try.results29]))
  · rename_i h0
    have hk := Pool.ask h0
    have hb := sLo_bound p (Pool.fine hk.1) r d hk.2.1 hk.2.2.1 hk.2.2.2.1 hk.2.2.2.2.1
    refine callVC (c68 p (Pool.fine hk.1) r d hk.2.1 hk.2.2.1 hk.2.2.2.1 hk.2.2.2.2.1) (by (simp -dsimp only [↓RP, RQ0, RQ1, RQ2, RQ3, implies_true, forall_const, Nat.reduceMul, reduceIte, reduceCtorEq, Nat.reduceAdd, Nat.reduceEqDiff, Nat.reduceLT, Nat.reduceLeDiff, Pool.sv, rngs, I]); simp) (by (simp -dsimp only [↓RP, RQ0, RQ1, RQ2, RQ3, implies_true, forall_const, Nat.reduceMul, reduceIte, reduceCtorEq, Nat.reduceAdd, Nat.reduceEqDiff, Nat.reduceLT, Nat.reduceLeDiff, Go.Po.rg, I])) ?_
    (repeat' (first | with_reducible refine splitVC_d (fun _ => ?_) (fun _ => ?_) | ((with_reducible refine And.intro ?_ ?_); focus (first | trivial | (simp only [InK]; omega) | omega | (simp only [InK, ne_eq, and_true, true_and]; omega))) | simp -dsimp only [↓RP, RQ0, RQ1, RQ2, RQ3, implies_true, forall_const, Nat.reduceMul, reduceIte, reduceCtorEq, Nat.reduceAdd, Nat.reduceEqDiff, Nat.reduceLT, Nat.reduceLeDiff, Go.Po.rg, I, ty2, ty3, ty4, ty22, ty24, ty25, ty28, ty35, pl35, Go.Proofs.Try.results29]))
    simp [Pool.needV, h0]
  · rename_i h0
    refine callVC (c59 p r d) (by (simp -dsimp only [↓RP, RQ0, RQ1, RQ2, RQ3, implies_true, forall_const, Nat.reduceMul, reduceIte, reduceCtorEq, Nat.reduceAdd, Nat.reduceEqDiff, Nat.reduceLT, Nat.reduceLeDiff, Pool.sv, rngs, I]); simp) (by (simp -dsimp only [↓RP, RQ0, RQ1, RQ2, RQ3, implies_true, forall_const, Nat.reduceMul, reduceIte, reduceCtorEq, Nat.reduceAdd, Nat.reduceEqDiff, Nat.reduceLT, Nat.reduceLeDiff, I])) ?_
    (repeat' (first | with_reducible refine splitVC_d (fun _ => ?_) (fun _ => ?_) | ((with_reducible refine And.intro ?_ ?_); focus (first | trivial | (simp only [InK]; omega) | omega | (simp only [InK, ne_eq, and_true, true_and]; omega))) | simp -dsimp only [↓RP, RQ0, RQ1, RQ2, RQ3, implies_true, forall_const, Nat.reduceMul, reduceIte, reduceCtorEq, Nat.reduceAdd, Nat.reduceEqDiff, Nat.reduceLT, Nat.reduceLeDiff, Go.Po.rg, I, ty2, ty3, ty4, ty22, ty24, ty25, ty28, ty35, pl35, Go.Proofs.Try.results29]))
    simp [Pool.needV, h0]
end Go.Po
end
section
set_option linter.unusedSimpArgs false
set_option linter.unusedVariables false
set_option maxRecDepth 100000
set_option maxHeartbeats 4000000
namespace Go.Po
open Go.Sx
def Pool.netAt (p : Pool) (r : Int) (k : Nat) : Int := p.net (p.ta r + k)
def Pool.mostAt (p : Pool) (r : Int) (k : Nat) : Int := min (p.hi r.toNat) (p.ta r + k - p.olo r)
def Pool.bestTo (p : Pool) (r : Int) : Nat → Int
  | 0 => 100000
  | k + 1 => if 0 < p.mostAt r k then min (p.bestTo r k) ((p.netAt r k).tdiv (p.mostAt r k)) else p.bestTo r k
def Pool.div (p : Pool) (r : Int) : Int := if ∀ k, k < p.num r + 1 → 0 ≤ p.netAt r k then (p.bestTo r (p.num r + 1)).tdiv p.step * p.step else -1
theorem tdiv_le (a b : Int) (h : 0 ≤ a) (h1 : 1 ≤ b) : 0 ≤ a.tdiv b ∧ a.tdiv b ≤ a ∧ 0 ≤ a.tdiv b * b ∧ a.tdiv b * b ≤ a := by
  have h2 : 0 ≤ a.tdiv b := Int.tdiv_nonneg h (by omega)
  have h3 := Int.tmod_add_tdiv_mul a b
  have h4 := Int.tmod_nonneg b h
  have h5 := Int.mul_le_mul_of_nonneg_left h1 h2
  have h6 := Int.mul_nonneg h2 (show 0 ≤ b by omega)
  omega
theorem best_bound (p : Pool) (r : Int) : ∀ k, (∀ j, j < k → 0 ≤ p.netAt r j) → 0 ≤ p.bestTo r k ∧ p.bestTo r k ≤ 100000
  | 0, h => by simp [Pool.bestTo]
  | k + 1, h => by
    have h1 := best_bound p r k fun j hj => h j (by omega)
    have h2 := h k (by omega)
    unfold Pool.bestTo
    split
    · have := tdiv_le (p.netAt r k) (p.mostAt r k) h2 (by omega)
      omega
    · exact h1
theorem c72 (p : Pool) (h : p.Fine) (r : Int) (h1 : 0 ≤ r) (h2 : r < p.n) : Contract Go.Proofs.Try.prog 72 [p.sv, I r] (I (p.div r)) := by
  refine contract_of Go.Proofs.Try.func72 rfl (by kernel_rfl) follows (by kernel_rfl) _ _ (by rw [Go.Proofs.Try.ntmps72]; simp) (by simp [OldL, p.old]; simp [Old, I]) ?_
  have h8 := h.n8
  have hs := h.step1
  have hb1 := sumTo_bound _ 200 p.n (ex_bound h r).1 p.n (Nat.le_refl _)
  have hb2 := sumTo_bound _ 200 p.n (ex_bound h r).2 p.n (Nat.le_refl _)
  have g5 := h.rg r.toNat (by omega)
  have hN : (p.num r : Int) = p.tb r - p.ta r := by unfold Pool.num Pool.tb Pool.ta Pool.olo Pool.ohi at *; have := sum_le p h r; omega
  unfold I
  conv => arg 4; unfold Pool.sv rngs I
  (repeat' (first | with_reducible refine splitVC_d (fun _ => ?_) (fun _ => ?_) | ((with_reducible refine And.intro ?_ ?_); focus (first | trivial | (simp only [InK]; omega) | omega | (simp only [InK, ne_eq, and_true, true_and]; omega))) | simp -dsimp only [↓RP, RQ0, RQ1, RQ2, RQ3, implies_true, forall_const, Nat.reduceMul, reduceIte, reduceCtorEq, Nat.reduceAdd, Nat.reduceEqDiff, Nat.reduceLT, Nat.reduceLeDiff, ty2, ty3, ty4, ty22, ty24, ty25, ty28, ty35, pl35, Go.Proofs.Try.results72]))
  refine callVC (c84 p h r) (by (simp -dsimp only [↓RP, RQ0, RQ1, RQ2, RQ3, implies_true, forall_const, Nat.reduceMul, reduceIte, reduceCtorEq, Nat.reduceAdd, Nat.reduceEqDiff, Nat.reduceLT, Nat.reduceLeDiff, Pool.sv, rngs, I]); simp) (by (simp -dsimp only [↓RP, RQ0, RQ1, RQ2, RQ3, implies_true, forall_const, Nat.reduceMul, reduceIte, reduceCtorEq, Nat.reduceAdd, Nat.reduceEqDiff, Nat.reduceLT, Nat.reduceLeDiff, Go.Po.rg, I])) ?_
  (repeat' (first | with_reducible refine splitVC_d (fun _ => ?_) (fun _ => ?_) | ((with_reducible refine And.intro ?_ ?_); focus (first | trivial | (simp only [InK]; omega) | omega | (simp only [InK, ne_eq, and_true, true_and]; omega))) | simp -dsimp only [↓RP, RQ0, RQ1, RQ2, RQ3, implies_true, forall_const, Nat.reduceMul, reduceIte, reduceCtorEq, Nat.reduceAdd, Nat.reduceEqDiff, Nat.reduceLT, Nat.reduceLeDiff, Go.Po.rg, I, ty2, ty3, ty4, ty22, ty24, ty25, ty28, ty35, pl35, Go.Proofs.Try.results72]))
  refine loop_vc (fun k => k ≤ p.num r + 1 ∧ ∀ j, j < k → 0 ≤ p.netAt r j) (fun k => ⟨[(2, .ptr 0 0), (5, .ptr 10 0), (6, .ptr 11 0), (7, .val (.int .i64 (p.bestTo r k))), (8, .val (.int .i64 (p.ta r + k)))],
    [(11, .cells 35 [.val (.int .i64 (p.olo r)), .val (.int .i64 (p.ohi r))]), (10, .cells 35 [.val (.int .i64 (p.lo r.toNat)), .val (.int .i64 (p.hi r.toNat))]),
      (0, .cells 24 [.arr false false p.n 2 (fun i j => .val (.int .i64 (if j = 0 then p.lo i else p.hi i))), .val (.int .i64 p.per), .val (.int .i64 p.pence), .val (.int .i64 p.keep), .val (.int .i64 p.step)])], 16⟩) (fun k => p.num r + 1 - k) 0 ⟨Nat.zero_le _, fun j hj => by omega⟩ (weak [] [] ?_ ?_ ?_) fun k hk => ?_
  · (simp -dsimp only [↓RP, RQ0, RQ1, RQ2, RQ3, implies_true, forall_const, Nat.reduceMul, reduceIte, reduceCtorEq, Nat.reduceAdd, Nat.reduceEqDiff, Nat.reduceLT, Nat.reduceLeDiff, Pool.ta, Pool.olo, Pool.bestTo]); simp
  · (simp -dsimp only [↓RP, RQ0, RQ1, RQ2, RQ3, implies_true, forall_const, Nat.reduceMul, reduceIte, reduceCtorEq, Nat.reduceAdd, Nat.reduceEqDiff, Nat.reduceLT, Nat.reduceLeDiff, Pool.olo, Pool.ohi]); simp
  · (simp -dsimp only [↓RP, RQ0, RQ1, RQ2, RQ3, implies_true, forall_const, Nat.reduceMul, reduceIte, reduceCtorEq, Nat.reduceAdd, Nat.reduceEqDiff, Nat.reduceLT, Nat.reduceLeDiff]); simp
  obtain ⟨hk, hpos⟩ := hk
  have hbest := best_bound p r k hpos
  have g6 : p.ta r = p.lo r.toNat + p.olo r := rfl
  have g7 : p.tb r = p.hi r.toNat + p.ohi r := rfl
  have g8 : 0 ≤ p.olo r ∧ p.olo r ≤ 1600 := by unfold Pool.olo; omega
  have g9 : 0 ≤ p.ohi r ∧ p.ohi r ≤ 1600 := by unfold Pool.ohi; omega
  by_cases hlt : k ≤ p.num r
  · have m1 : 0 ≤ min (p.hi r.toNat) (p.ta r + k - p.olo r) ∧ min (p.hi r.toNat) (p.ta r + k - p.olo r) ≤ 200 := by omega
    have n1 := Pool.net_bound h (units := p.ta r + k) (by omega) (by omega)
    (repeat' (first | with_reducible refine splitVC_d (fun _ => ?_) (fun _ => ?_) | ((with_reducible refine And.intro ?_ ?_); focus (first | trivial | (simp only [InK]; omega) | omega | (simp only [InK, ne_eq, and_true, true_and]; omega))) | simp -dsimp only [↓RP, RQ0, RQ1, RQ2, RQ3, implies_true, forall_const, Nat.reduceMul, reduceIte, reduceCtorEq, Nat.reduceAdd, Nat.reduceEqDiff, Nat.reduceLT, Nat.reduceLeDiff, ty2, ty3, ty4, ty22, ty24, ty25, ty28, ty35, pl35, Go.Proofs.Try.results72]))
    · refine callVC (c50' p h (p.ta r + k) (by omega) (by omega)) (by (simp -dsimp only [↓RP, RQ0, RQ1, RQ2, RQ3, implies_true, forall_const, Nat.reduceMul, reduceIte, reduceCtorEq, Nat.reduceAdd, Nat.reduceEqDiff, Nat.reduceLT, Nat.reduceLeDiff, Pool.sv, rngs, I]); simp) (by (simp -dsimp only [↓RP, RQ0, RQ1, RQ2, RQ3, implies_true, forall_const, Nat.reduceMul, reduceIte, reduceCtorEq, Nat.reduceAdd, Nat.reduceEqDiff, Nat.reduceLT, Nat.reduceLeDiff, I])) ?_
      (repeat' (first | with_reducible refine splitVC_d (fun _ => ?_) (fun _ => ?_) | ((with_reducible refine And.intro ?_ ?_); focus (first | trivial | (simp only [InK]; omega) | omega | (simp only [InK, ne_eq, and_true, true_and]; omega))) | simp -dsimp only [↓RP, RQ0, RQ1, RQ2, RQ3, implies_true, forall_const, Nat.reduceMul, reduceIte, reduceCtorEq, Nat.reduceAdd, Nat.reduceEqDiff, Nat.reduceLT, Nat.reduceLeDiff, I, ty2, ty3, ty4, ty22, ty24, ty25, ty28, ty35, pl35, Go.Proofs.Try.results72]))
      · rename_i hneg
        refine I_eq ?_
        unfold Pool.div
        rw [if_neg (fun hh => by have h9 := hh k (by omega); unfold Pool.netAt at h9; omega)]
      · rename_i hnn hm
        have q := tdiv_le (p.net (p.ta r + k)) (min (p.hi r.toNat) (p.ta r + k - p.olo r)) (by omega) (by omega)
        refine ⟨⟨by omega, by (first | trivial | (simp only [InK]; omega) | omega | (simp only [InK, ne_eq, and_true, true_and]; omega))⟩, by (first | trivial | (simp only [InK]; omega) | omega | (simp only [InK, ne_eq, and_true, true_and]; omega)), k + 1, ⟨by omega, fun j hj => ?_⟩, by omega, weak [] [] ?_ ?_ ?_⟩
        · by_cases e : j = k
          · subst e; unfold Pool.netAt; omega
          · exact hpos j (by omega)
        · have e : p.bestTo r (k + 1) = min (p.bestTo r k) ((p.net (p.ta r + k)).tdiv (min (p.hi r.toNat) (p.ta r + k - p.olo r))) := by
            show (if 0 < p.mostAt r k then _ else _) = _
            rw [if_pos (show 0 < p.mostAt r k from hm)]; rfl
          (simp -dsimp only [↓RP, RQ0, RQ1, RQ2, RQ3, implies_true, forall_const, Nat.reduceMul, reduceIte, reduceCtorEq, Nat.reduceAdd, Nat.reduceEqDiff, Nat.reduceLT, Nat.reduceLeDiff, e]); simp; omega
        · (simp -dsimp only [↓RP, RQ0, RQ1, RQ2, RQ3, implies_true, forall_const, Nat.reduceMul, reduceIte, reduceCtorEq, Nat.reduceAdd, Nat.reduceEqDiff, Nat.reduceLT, Nat.reduceLeDiff]); simp
        · (simp -dsimp only [↓RP, RQ0, RQ1, RQ2, RQ3, implies_true, forall_const, Nat.reduceMul, reduceIte, reduceCtorEq, Nat.reduceAdd, Nat.reduceEqDiff, Nat.reduceLT, Nat.reduceLeDiff]); simp
      · rename_i hnn hm
        refine ⟨k + 1, ⟨by omega, fun j hj => ?_⟩, by omega, weak [] [] ?_ ?_ ?_⟩
        · by_cases e : j = k
          · subst e; unfold Pool.netAt; omega
          · exact hpos j (by omega)
        · have e : p.bestTo r (k + 1) = p.bestTo r k := by
            show (if 0 < p.mostAt r k then _ else _) = _
            rw [if_neg (show ¬ 0 < p.mostAt r k from hm)]
          (simp -dsimp only [↓RP, RQ0, RQ1, RQ2, RQ3, implies_true, forall_const, Nat.reduceMul, reduceIte, reduceCtorEq, Nat.reduceAdd, Nat.reduceEqDiff, Nat.reduceLT, Nat.reduceLeDiff, e]); simp; omega
        · (simp -dsimp only [↓RP, RQ0, RQ1, RQ2, RQ3, implies_true, forall_const, Nat.reduceMul, reduceIte, reduceCtorEq, Nat.reduceAdd, Nat.reduceEqDiff, Nat.reduceLT, Nat.reduceLeDiff]); simp
        · (simp -dsimp only [↓RP, RQ0, RQ1, RQ2, RQ3, implies_true, forall_const, Nat.reduceMul, reduceIte, reduceCtorEq, Nat.reduceAdd, Nat.reduceEqDiff, Nat.reduceLT, Nat.reduceLeDiff]); simp
    · exfalso; omega
  · obtain rfl : k = p.num r + 1 := by omega
    have q := tdiv_le (p.bestTo r (p.num r + 1)) p.step hbest.1 hs
    (repeat' (first | with_reducible refine splitVC_d (fun _ => ?_) (fun _ => ?_) | ((with_reducible refine And.intro ?_ ?_); focus (first | trivial | (simp only [InK]; omega) | omega | (simp only [InK, ne_eq, and_true, true_and]; omega))) | simp -dsimp only [↓RP, RQ0, RQ1, RQ2, RQ3, implies_true, forall_const, Nat.reduceMul, reduceIte, reduceCtorEq, Nat.reduceAdd, Nat.reduceEqDiff, Nat.reduceLT, Nat.reduceLeDiff, ty2, ty3, ty4, ty22, ty24, ty25, ty28, ty35, pl35, Go.Proofs.Try.results72]))
    · exfalso; omega
    · refine I_eq ?_
      unfold Pool.div
      rw [if_pos hpos]
end Go.Po
end
section
set_option linter.unusedSimpArgs false
set_option linter.unusedVariables false
set_option maxRecDepth 100000
set_option maxHeartbeats 4000000
namespace Go.Po
open Go.Sx
def Pool.divE (p : Pool) (r : Int) : Int := if p.asked r 0 = 0 then (if p.div r < 0 then 19 else 0) else p.asked r 0
def Pool.divV (p : Pool) (r : Int) : Int := if p.divE r = 0 then p.div r else 0
theorem c33 (p : Pool) (r : Int) : Contract Go.Proofs.Try.prog 33 [p.sv, I r] (.tup [I (p.divV r), I (p.divE r)]) := by
  refine contract_of Go.Proofs.Try.func33 rfl (by kernel_rfl) follows (by kernel_rfl) _ _ (by rw [Go.Proofs.Try.ntmps33]; simp) (by simp [OldL, p.old]; simp [Old, I]) ?_
  unfold I
  conv => arg 4; unfold Pool.sv rngs I
  (repeat' (first | with_reducible refine splitVC_d (fun _ => ?_) (fun _ => ?_) | ((with_reducible refine And.intro ?_ ?_); focus (first | trivial | (simp only [InK]; omega) | omega | (simp only [InK, ne_eq, and_true, true_and]; omega))) | simp -dsimp only [↓RP, RQ0, RQ1, RQ2, RQ3, implies_true, forall_const, Nat.reduceMul, reduceIte, reduceCtorEq, Nat.reduceAdd, Nat.reduceEqDiff, Nat.reduceLT, Nat.reduceLeDiff, ty2, ty3, ty4, ty22, ty24, ty25, ty28, ty35, pl35, Go.Proofs.Try.results33]))
  refine callVC (c59 p r 0) (by (simp -dsimp only [↓RP, RQ0, RQ1, RQ2, RQ3, implies_true, forall_const, Nat.reduceMul, reduceIte, reduceCtorEq, Nat.reduceAdd, Nat.reduceEqDiff, Nat.reduceLT, Nat.reduceLeDiff, Pool.sv, rngs, I]); simp) (by (simp -dsimp only [↓RP, RQ0, RQ1, RQ2, RQ3, implies_true, forall_const, Nat.reduceMul, reduceIte, reduceCtorEq, Nat.reduceAdd, Nat.reduceEqDiff, Nat.reduceLT, Nat.reduceLeDiff, I])) ?_
  (repeat' (first | with_reducible refine splitVC_d (fun _ => ?_) (fun _ => ?_) | ((with_reducible refine And.intro ?_ ?_); focus (first | trivial | (simp only [InK]; omega) | omega | (simp only [InK, ne_eq, and_true, true_and]; omega))) | simp -dsimp only [↓RP, RQ0, RQ1, RQ2, RQ3, implies_true, forall_const, Nat.reduceMul, reduceIte, reduceCtorEq, Nat.reduceAdd, Nat.reduceEqDiff, Nat.reduceLT, Nat.reduceLeDiff, I, ty2, ty3, ty4, ty22, ty24, ty25, ty28, ty35, pl35, Go.Proofs.Try.results33]))
  · rename_i h0
    have hk := Pool.ask h0
    refine callVC (c72 p (Pool.fine hk.1) r hk.2.1 hk.2.2.1) (by (simp -dsimp only [↓RP, RQ0, RQ1, RQ2, RQ3, implies_true, forall_const, Nat.reduceMul, reduceIte, reduceCtorEq, Nat.reduceAdd, Nat.reduceEqDiff, Nat.reduceLT, Nat.reduceLeDiff, Pool.sv, rngs, I]); simp) (by (simp -dsimp only [↓RP, RQ0, RQ1, RQ2, RQ3, implies_true, forall_const, Nat.reduceMul, reduceIte, reduceCtorEq, Nat.reduceAdd, Nat.reduceEqDiff, Nat.reduceLT, Nat.reduceLeDiff, I])) ?_
    (repeat' (first | with_reducible refine splitVC_d (fun _ => ?_) (fun _ => ?_) | ((with_reducible refine And.intro ?_ ?_); focus (first | trivial | (simp only [InK]; omega) | omega | (simp only [InK, ne_eq, and_true, true_and]; omega))) | simp -dsimp only [↓RP, RQ0, RQ1, RQ2, RQ3, implies_true, forall_const, Nat.reduceMul, reduceIte, reduceCtorEq, Nat.reduceAdd, Nat.reduceEqDiff, Nat.reduceLT, Nat.reduceLeDiff, I, ty2, ty3, ty4, ty22, ty24, ty25, ty28, ty35, pl35, Go.Proofs.Try.results33]))
    · rename_i h1
      simp [Pool.divV, Pool.divE, h0, h1]
    · rename_i h1
      refine callVC (c72 p (Pool.fine hk.1) r hk.2.1 hk.2.2.1) (by (simp -dsimp only [↓RP, RQ0, RQ1, RQ2, RQ3, implies_true, forall_const, Nat.reduceMul, reduceIte, reduceCtorEq, Nat.reduceAdd, Nat.reduceEqDiff, Nat.reduceLT, Nat.reduceLeDiff, Pool.sv, rngs, I]); simp) (by (simp -dsimp only [↓RP, RQ0, RQ1, RQ2, RQ3, implies_true, forall_const, Nat.reduceMul, reduceIte, reduceCtorEq, Nat.reduceAdd, Nat.reduceEqDiff, Nat.reduceLT, Nat.reduceLeDiff, I])) ?_
      (repeat' (first | with_reducible refine splitVC_d (fun _ => ?_) (fun _ => ?_) | ((with_reducible refine And.intro ?_ ?_); focus (first | trivial | (simp only [InK]; omega) | omega | (simp only [InK, ne_eq, and_true, true_and]; omega))) | simp -dsimp only [↓RP, RQ0, RQ1, RQ2, RQ3, implies_true, forall_const, Nat.reduceMul, reduceIte, reduceCtorEq, Nat.reduceAdd, Nat.reduceEqDiff, Nat.reduceLT, Nat.reduceLeDiff, I, ty2, ty3, ty4, ty22, ty24, ty25, ty28, ty35, pl35, Go.Proofs.Try.results33]))
      simp [Pool.divV, Pool.divE, h0, h1]
  · rename_i h0
    refine callVC (c59 p r 0) (by (simp -dsimp only [↓RP, RQ0, RQ1, RQ2, RQ3, implies_true, forall_const, Nat.reduceMul, reduceIte, reduceCtorEq, Nat.reduceAdd, Nat.reduceEqDiff, Nat.reduceLT, Nat.reduceLeDiff, Pool.sv, rngs, I]); simp) (by (simp -dsimp only [↓RP, RQ0, RQ1, RQ2, RQ3, implies_true, forall_const, Nat.reduceMul, reduceIte, reduceCtorEq, Nat.reduceAdd, Nat.reduceEqDiff, Nat.reduceLT, Nat.reduceLeDiff, I])) ?_
    (repeat' (first | with_reducible refine splitVC_d (fun _ => ?_) (fun _ => ?_) | ((with_reducible refine And.intro ?_ ?_); focus (first | trivial | (simp only [InK]; omega) | omega | (simp only [InK, ne_eq, and_true, true_and]; omega))) | simp -dsimp only [↓RP, RQ0, RQ1, RQ2, RQ3, implies_true, forall_const, Nat.reduceMul, reduceIte, reduceCtorEq, Nat.reduceAdd, Nat.reduceEqDiff, Nat.reduceLT, Nat.reduceLeDiff, I, ty2, ty3, ty4, ty22, ty24, ty25, ty28, ty35, pl35, Go.Proofs.Try.results33]))
    simp [Pool.divV, Pool.divE, h0]
end Go.Po
end
section
set_option linter.unusedSimpArgs false
set_option linter.unusedVariables false
set_option maxRecDepth 100000
set_option maxHeartbeats 4000000
namespace Go.Po
open Go.Sx
def fstI (b : Nat → Bool) (i : Nat) : Nat → Int
  | 0 => -1
  | k + 1 => if b i = true then i else fstI b (i + 1) k
theorem fstI_lt (b : Nat → Bool) : ∀ (k i : Nat), fstI b i k < 0 ↔ ∀ j, i ≤ j → j < i + k → b j = false
  | 0, i => by simp [fstI]; intro j h1 h2; omega
  | k + 1, i => by
    simp only [fstI]
    split
    · rename_i h
      constructor
      · intro h'; omega
      · intro h'; have := h' i (by omega) (by omega); rw [h] at this; cases this
    · rename_i h
      rw [fstI_lt b k (i + 1)]
      constructor
      · intro h' j h1 h2
        by_cases e : j = i
        · subst e; simpa using h
        · exact h' j (by omega) (by omega)
      · intro h' j h1 h2; exact h' j (by omega) (by omega)
def cap2 (lo hi : Int) : SV := .fn (.func 78) [] [.ref false 1 (fun _ => I lo), .ref false 1 (fun _ => I hi)]
theorem c78 (n lo hi : Int) : Contract Go.Proofs.Try.prog 78 [I n, .ref false 1 (fun _ => I lo), .ref false 1 (fun _ => I hi)] (B (decide (n < lo) || decide (hi < n))) := by
  refine contract_of Go.Proofs.Try.func78 rfl (by kernel_rfl) follows (by kernel_rfl) _ _ (by rw [Go.Proofs.Try.ntmps78]; simp) (by simp [OldL, Old, I]) ?_
  unfold I B
  (repeat' (first | with_reducible refine splitVC_d (fun _ => ?_) (fun _ => ?_) | ((with_reducible refine And.intro ?_ ?_); focus (first | trivial | (simp only [InK]; omega) | omega | (simp only [InK, ne_eq, and_true, true_and]; omega))) | simp -dsimp only [↓RP, RQ0, RQ1, RQ2, RQ3, implies_true, forall_const, Nat.reduceMul, reduceIte, reduceCtorEq, Nat.reduceAdd, Nat.reduceEqDiff, Nat.reduceLT, Nat.reduceLeDiff, ty2, ty4, Go.Proofs.Try.results78]))
  all_goals (refine B_eq ?_; rw [Bool.eq_iff_iff]; simp; omega)
theorem c86 (m : Nat) (u : Nat → Int) (lo hi' : Int) (hm : m ≤ 1000000) : Contract Go.Proofs.Try.prog 86 [ints m u, cap2 lo hi'] (I (fstI (fun i => decide (u i < lo) || decide (hi' < u i)) 0 m)) := by
  refine contract_of Go.Proofs.Try.func86 rfl (by kernel_rfl) follows (by kernel_rfl) _ _ (by rw [Go.Proofs.Try.ntmps86]; simp) (by simp [OldL, Old, ints, cap2, I]) ?_
  unfold ints cap2 I
  (simp -dsimp only [↓RP, RQ0, RQ1, RQ2, RQ3, implies_true, forall_const, Nat.reduceMul, reduceIte, reduceCtorEq, Nat.reduceAdd, Nat.reduceEqDiff, Nat.reduceLT, Nat.reduceLeDiff, ty2, ty25, Go.Proofs.Try.results86])
  refine loop_vc (fun i => i ≤ m ∧ fstI (fun i => decide (u i < lo) || decide (hi' < u i)) 0 m = fstI (fun i => decide (u i < lo) || decide (hi' < u i)) i (m - i)) (fun i => ⟨[(0, .arr false false m 1 (fun i _ => .val (.int .i64 (u i)))), (1, .fn (.func 78) [] [.ref false 1 (fun _ => .val (.int .i64 lo)), .ref false 1 (fun _ => .val (.int .i64 hi'))]), (7, .val (.int .i64 m)), (8, .val (.int .i64 i))], [], 0⟩) (fun i => m - i) 0 ⟨Nat.zero_le _, rfl⟩ (weak [] [] ?_ ?_ ?_) fun i hi => ?_
  · (simp -dsimp only [↓RP, RQ0, RQ1, RQ2, RQ3, implies_true, forall_const, Nat.reduceMul, reduceIte, reduceCtorEq, Nat.reduceAdd, Nat.reduceEqDiff, Nat.reduceLT, Nat.reduceLeDiff]); simp
  · (simp -dsimp only [↓RP, RQ0, RQ1, RQ2, RQ3, implies_true, forall_const, Nat.reduceMul, reduceIte, reduceCtorEq, Nat.reduceAdd, Nat.reduceEqDiff, Nat.reduceLT, Nat.reduceLeDiff])
  · (simp -dsimp only [↓RP, RQ0, RQ1, RQ2, RQ3, implies_true, forall_const, Nat.reduceMul, reduceIte, reduceCtorEq, Nat.reduceAdd, Nat.reduceEqDiff, Nat.reduceLT, Nat.reduceLeDiff])
  obtain ⟨hi, he⟩ := hi
  have e1 : ∀ k, m - i = k + 1 → fstI (fun i => decide (u i < lo) || decide (hi' < u i)) i (m - i) = if (decide (u i < lo) || decide (hi' < u i)) = true then (i : Int) else fstI (fun i => decide (u i < lo) || decide (hi' < u i)) (i + 1) k := fun k hk => by rw [hk]; rfl
  (repeat' (first | with_reducible refine splitVC_d (fun _ => ?_) (fun _ => ?_) | ((with_reducible refine And.intro ?_ ?_); focus (first | trivial | (simp only [InK]; omega) | omega | (simp only [InK, ne_eq, and_true, true_and]; omega))) | simp -dsimp only [↓RP, RQ0, RQ1, RQ2, RQ3, implies_true, forall_const, Nat.reduceMul, reduceIte, reduceCtorEq, Nat.reduceAdd, Nat.reduceEqDiff, Nat.reduceLT, Nat.reduceLeDiff, ty2, ty25, Go.Proofs.Try.results86]))
  · rename_i hlt
    have e2 := e1 (m - (i + 1)) (by omega)
    refine callVC (c78 (u i) lo hi') (by (simp -dsimp only [↓RP, RQ0, RQ1, RQ2, RQ3, implies_true, forall_const, Nat.reduceMul, reduceIte, reduceCtorEq, Nat.reduceAdd, Nat.reduceEqDiff, Nat.reduceLT, Nat.reduceLeDiff, I]); simp) (by (simp -dsimp only [↓RP, RQ0, RQ1, RQ2, RQ3, implies_true, forall_const, Nat.reduceMul, reduceIte, reduceCtorEq, Nat.reduceAdd, Nat.reduceEqDiff, Nat.reduceLT, Nat.reduceLeDiff, B])) ?_
    (repeat' (first | with_reducible refine splitVC_d (fun _ => ?_) (fun _ => ?_) | ((with_reducible refine And.intro ?_ ?_); focus (first | trivial | (simp only [InK]; omega) | omega | (simp only [InK, ne_eq, and_true, true_and]; omega))) | simp -dsimp only [↓RP, RQ0, RQ1, RQ2, RQ3, implies_true, forall_const, Nat.reduceMul, reduceIte, reduceCtorEq, Nat.reduceAdd, Nat.reduceEqDiff, Nat.reduceLT, Nat.reduceLeDiff, B, ty2, ty25, Go.Proofs.Try.results86]))
    · rename_i h
      refine I_eq ?_
      rw [he, e2, if_pos (by simp [h])]
    · rename_i h1 h2
      refine I_eq ?_
      rw [he, e2, if_pos (by simp [h2])]
    · rename_i h1 h2
      refine ⟨i + 1, ⟨by omega, ?_⟩, by omega, weak [] [] ?_ ?_ ?_⟩
      · rw [he, e2, if_neg (by simp; omega)]
      · (simp -dsimp only [↓RP, RQ0, RQ1, RQ2, RQ3, implies_true, forall_const, Nat.reduceMul, reduceIte, reduceCtorEq, Nat.reduceAdd, Nat.reduceEqDiff, Nat.reduceLT, Nat.reduceLeDiff]); simp
      · (simp -dsimp only [↓RP, RQ0, RQ1, RQ2, RQ3, implies_true, forall_const, Nat.reduceMul, reduceIte, reduceCtorEq, Nat.reduceAdd, Nat.reduceEqDiff, Nat.reduceLT, Nat.reduceLeDiff])
      · (simp -dsimp only [↓RP, RQ0, RQ1, RQ2, RQ3, implies_true, forall_const, Nat.reduceMul, reduceIte, reduceCtorEq, Nat.reduceAdd, Nat.reduceEqDiff, Nat.reduceLT, Nat.reduceLeDiff])
  · rename_i hlt
    refine I_eq ?_
    have : m - i = 0 := by omega
    rw [he, this]; rfl
def allIn (u : Nat → Int) (m : Nat) (lo hi : Int) : Prop := ∀ i, i < m → lo ≤ u i ∧ u i ≤ hi
instance (u : Nat → Int) (m : Nat) (lo hi : Int) : Decidable (allIn u m lo hi) := by unfold allIn; infer_instance
theorem allIn_iff (u : Nat → Int) (m : Nat) (lo hi : Int) : fstI (fun i => decide (u i < lo) || decide (hi < u i)) 0 m < 0 ↔ allIn u m lo hi := by
  rw [fstI_lt]
  constructor
  · intro h i hi'
    have := h i (by omega) (by omega)
    simp at this; omega
  · intro h j _ hj
    have := h j (by omega)
    simp; omega
theorem c77 (m : Nat) (u : Nat → Int) (lo hi : Int) (hm : m ≤ 1000000) : Contract Go.Proofs.Try.prog 77 [ints m u, cap2 lo hi] (B (!decide (allIn u m lo hi))) := by
  refine contract_of Go.Proofs.Try.func77 rfl (by kernel_rfl) follows (by kernel_rfl) _ _ (by rw [Go.Proofs.Try.ntmps77]; simp) (by simp [OldL, Old, ints, cap2, I]) ?_
  unfold ints cap2 I B
  (simp -dsimp only [↓RP, RQ0, RQ1, RQ2, RQ3, implies_true, forall_const, Nat.reduceMul, reduceIte, reduceCtorEq, Nat.reduceAdd, Nat.reduceEqDiff, Nat.reduceLT, Nat.reduceLeDiff, ty2, ty25, Go.Proofs.Try.results77])
  refine callVC (c86 m u lo hi hm) (by (simp -dsimp only [↓RP, RQ0, RQ1, RQ2, RQ3, implies_true, forall_const, Nat.reduceMul, reduceIte, reduceCtorEq, Nat.reduceAdd, Nat.reduceEqDiff, Nat.reduceLT, Nat.reduceLeDiff, ints, cap2, I]); simp) (by (simp -dsimp only [↓RP, RQ0, RQ1, RQ2, RQ3, implies_true, forall_const, Nat.reduceMul, reduceIte, reduceCtorEq, Nat.reduceAdd, Nat.reduceEqDiff, Nat.reduceLT, Nat.reduceLeDiff, I])) ?_
  (repeat' (first | with_reducible refine splitVC_d (fun _ => ?_) (fun _ => ?_) | ((with_reducible refine And.intro ?_ ?_); focus (first | trivial | (simp only [InK]; omega) | omega | (simp only [InK, ne_eq, and_true, true_and]; omega))) | simp -dsimp only [↓RP, RQ0, RQ1, RQ2, RQ3, implies_true, forall_const, Nat.reduceMul, reduceIte, reduceCtorEq, Nat.reduceAdd, Nat.reduceEqDiff, Nat.reduceLT, Nat.reduceLeDiff, I, ty2, ty25, Go.Proofs.Try.results77]))
  refine B_eq ?_
  rw [Bool.eq_iff_iff]; simp [← allIn_iff]
theorem c62 (m : Nat) (u : Nat → Int) (lo hi : Int) (hm : m ≤ 1000000) : Contract Go.Proofs.Try.prog 62 [I lo, I hi, ints m u] (B (decide (allIn u m lo hi))) := by
  refine contract_of Go.Proofs.Try.func62 rfl (by kernel_rfl) follows (by kernel_rfl) _ _ (by rw [Go.Proofs.Try.ntmps62]; simp) (by simp [OldL, Old, ints, I]) ?_
  unfold ints I B
  (simp -dsimp only [↓RP, RQ0, RQ1, RQ2, RQ3, implies_true, forall_const, Nat.reduceMul, reduceIte, reduceCtorEq, Nat.reduceAdd, Nat.reduceEqDiff, Nat.reduceLT, Nat.reduceLeDiff, ty2, ty25, Go.Proofs.Try.results62])
  refine callVC (c77 m u lo hi hm) (by (simp -dsimp only [↓RP, RQ0, RQ1, RQ2, RQ3, implies_true, forall_const, Nat.reduceMul, reduceIte, reduceCtorEq, Nat.reduceAdd, Nat.reduceEqDiff, Nat.reduceLT, Nat.reduceLeDiff, ints, cap2, I]); simp) (by (simp -dsimp only [↓RP, RQ0, RQ1, RQ2, RQ3, implies_true, forall_const, Nat.reduceMul, reduceIte, reduceCtorEq, Nat.reduceAdd, Nat.reduceEqDiff, Nat.reduceLT, Nat.reduceLeDiff, B])) ?_
  (repeat' (first | with_reducible refine splitVC_d (fun _ => ?_) (fun _ => ?_) | ((with_reducible refine And.intro ?_ ?_); focus (first | trivial | (simp only [InK]; omega) | omega | (simp only [InK, ne_eq, and_true, true_and]; omega))) | simp -dsimp only [↓RP, RQ0, RQ1, RQ2, RQ3, implies_true, forall_const, Nat.reduceMul, reduceIte, reduceCtorEq, Nat.reduceAdd, Nat.reduceEqDiff, Nat.reduceLT, Nat.reduceLeDiff, B, ty2, ty25, Go.Proofs.Try.results62]))
  simp
end Go.Po
end
section
set_option linter.unusedSimpArgs false
set_option linter.unusedVariables false
set_option maxRecDepth 100000
set_option maxHeartbeats 4000000
namespace Go.Po
open Go.Sx
theorem c62_1 (x lo hi : Int) : Contract Go.Proofs.Try.prog 62 [I lo, I hi, ints 1 (fun _ => x)] (B (decide (lo ≤ x ∧ x ≤ hi))) := by
  have := c62 1 (fun _ => x) lo hi (by omega)
  have e : allIn (fun _ => x) 1 lo hi ↔ (lo ≤ x ∧ x ≤ hi) := ⟨fun h => h 0 (by omega), fun h i _ => h⟩
  simpa [e] using this
theorem c62_2 (x y lo hi : Int) : Contract Go.Proofs.Try.prog 62 [I lo, I hi, ints 2 (fun i => if i = 0 then x else y)] (B (decide ((lo ≤ x ∧ x ≤ hi) ∧ (lo ≤ y ∧ y ≤ hi)))) := by
  have := c62 2 (fun i => if i = 0 then x else y) lo hi (by omega)
  have e : allIn (fun i => if i = 0 then x else y) 2 lo hi ↔ ((lo ≤ x ∧ x ≤ hi) ∧ (lo ≤ y ∧ y ≤ hi)) := ⟨fun h => ⟨by have := h 0 (by omega); simpa using this, by have := h 1 (by omega); simpa using this⟩, fun h i hi => by
    by_cases e : i = 0
    · subst e; simpa using h.1
    · simpa [e] using h.2⟩
  simpa [e] using this
theorem lit2 (x y : Int) : ∀ (i : Nat), i < 2 → [SV.val (.int .i64 x), SV.val (.int .i64 y)][i]?.getD SV.top = SV.val (.int .i64 (if i = 0 then x else y))
  | 0, _ => rfl
  | 1, _ => rfl
def badR (lo hi : Int) : Prop := hi < lo ∨ ¬ ((0 ≤ lo ∧ lo ≤ 200) ∧ (0 ≤ hi ∧ hi ≤ 200))
instance (lo hi : Int) : Decidable (badR lo hi) := by unfold badR; infer_instance
theorem c61 (lo hi : Int) : Contract Go.Proofs.Try.prog 61 [rg lo hi] (B (decide (badR lo hi))) := by
  refine contract_of Go.Proofs.Try.func61 rfl (by kernel_rfl) follows (by kernel_rfl) _ _ (by rw [Go.Proofs.Try.ntmps61]; simp) (by simp [OldL, Old, rg, I]) ?_
  unfold rg I B
  (repeat' (first | with_reducible refine splitVC_d (fun _ => ?_) (fun _ => ?_) | ((with_reducible refine And.intro ?_ ?_); focus (first | trivial | (simp only [InK]; omega) | omega | (simp only [InK, ne_eq, and_true, true_and]; omega))) | simp -dsimp only [↓RP, RQ0, RQ1, RQ2, RQ3, implies_true, forall_const, Nat.reduceMul, reduceIte, reduceCtorEq, Nat.reduceAdd, Nat.reduceEqDiff, Nat.reduceLT, Nat.reduceLeDiff, ty2, ty4, ty25, ty35, pl35, Go.Proofs.Try.results61]))
  · rename_i h
    refine B_eq ?_; symm; exact decide_eq_true (.inl h)
  · refine callVC (c62_2 lo hi 0 200) (by (simp -dsimp only [↓RP, RQ0, RQ1, RQ2, RQ3, implies_true, forall_const, Nat.reduceMul, reduceIte, reduceCtorEq, Nat.reduceAdd, Nat.reduceEqDiff, Nat.reduceLT, Nat.reduceLeDiff, ints, I]); simp; exact lit2 _ _) (by (simp -dsimp only [↓RP, RQ0, RQ1, RQ2, RQ3, implies_true, forall_const, Nat.reduceMul, reduceIte, reduceCtorEq, Nat.reduceAdd, Nat.reduceEqDiff, Nat.reduceLT, Nat.reduceLeDiff, B])) ?_
    (repeat' (first | with_reducible refine splitVC_d (fun _ => ?_) (fun _ => ?_) | ((with_reducible refine And.intro ?_ ?_); focus (first | trivial | (simp only [InK]; omega) | omega | (simp only [InK, ne_eq, and_true, true_and]; omega))) | simp -dsimp only [↓RP, RQ0, RQ1, RQ2, RQ3, implies_true, forall_const, Nat.reduceMul, reduceIte, reduceCtorEq, Nat.reduceAdd, Nat.reduceEqDiff, Nat.reduceLT, Nat.reduceLeDiff, B, ty2, ty4, ty25, ty35, pl35, Go.Proofs.Try.results61]))
    refine B_eq ?_
    rw [Bool.eq_iff_iff]; simp [badR]; omega
theorem c79 (m : Nat) (lo hi : Nat → Int) (hm : m ≤ 1000000) : Contract Go.Proofs.Try.prog 79 [rngs m lo hi, .fn (.func 61) [] []] (I (fstI (fun i => decide (badR (lo i) (hi i))) 0 m)) := by
  refine contract_of Go.Proofs.Try.func79 rfl (by kernel_rfl) follows (by kernel_rfl) _ _ (by rw [Go.Proofs.Try.ntmps79]; simp) (by simp [OldL, Old, rngs]) ?_
  unfold rngs I
  (simp -dsimp only [↓RP, RQ0, RQ1, RQ2, RQ3, implies_true, forall_const, Nat.reduceMul, reduceIte, reduceCtorEq, Nat.reduceAdd, Nat.reduceEqDiff, Nat.reduceLT, Nat.reduceLeDiff, ty2, ty22, ty35, pl35, Go.Proofs.Try.results79])
  refine loop_vc (fun i => i ≤ m ∧ fstI (fun i => decide (badR (lo i) (hi i))) 0 m = fstI (fun i => decide (badR (lo i) (hi i))) i (m - i)) (fun i => ⟨[(0, .arr false false m 2 (fun i j => .val (.int .i64 (if j = 0 then lo i else hi i)))), (1, .fn (.func 61) [] []), (7, .val (.int .i64 m)), (8, .val (.int .i64 i))], [], 0⟩) (fun i => m - i) 0 ⟨Nat.zero_le _, rfl⟩ (weak [] [] ?_ ?_ ?_) fun i hi => ?_
  · (simp -dsimp only [↓RP, RQ0, RQ1, RQ2, RQ3, implies_true, forall_const, Nat.reduceMul, reduceIte, reduceCtorEq, Nat.reduceAdd, Nat.reduceEqDiff, Nat.reduceLT, Nat.reduceLeDiff]); simp
  · (simp -dsimp only [↓RP, RQ0, RQ1, RQ2, RQ3, implies_true, forall_const, Nat.reduceMul, reduceIte, reduceCtorEq, Nat.reduceAdd, Nat.reduceEqDiff, Nat.reduceLT, Nat.reduceLeDiff])
  · (simp -dsimp only [↓RP, RQ0, RQ1, RQ2, RQ3, implies_true, forall_const, Nat.reduceMul, reduceIte, reduceCtorEq, Nat.reduceAdd, Nat.reduceEqDiff, Nat.reduceLT, Nat.reduceLeDiff])
  obtain ⟨hi, he⟩ := hi
  rename_i hi'
  have e1 : ∀ k, m - i = k + 1 → fstI (fun i => decide (badR (lo i) (hi' i))) i (m - i) = if decide (badR (lo i) (hi' i)) = true then (i : Int) else fstI (fun i => decide (badR (lo i) (hi' i))) (i + 1) k := fun k hk => by rw [hk]; rfl
  (repeat' (first | with_reducible refine splitVC_d (fun _ => ?_) (fun _ => ?_) | ((with_reducible refine And.intro ?_ ?_); focus (first | trivial | (simp only [InK]; omega) | omega | (simp only [InK, ne_eq, and_true, true_and]; omega))) | simp -dsimp only [↓RP, RQ0, RQ1, RQ2, RQ3, implies_true, forall_const, Nat.reduceMul, reduceIte, reduceCtorEq, Nat.reduceAdd, Nat.reduceEqDiff, Nat.reduceLT, Nat.reduceLeDiff, ty2, ty22, ty35, pl35, Go.Proofs.Try.results79]))
  · rename_i hlt
    have e2 := e1 (m - (i + 1)) (by omega)
    refine callVC (c61 (lo i) (hi' i)) (by (simp -dsimp only [↓RP, RQ0, RQ1, RQ2, RQ3, implies_true, forall_const, Nat.reduceMul, reduceIte, reduceCtorEq, Nat.reduceAdd, Nat.reduceEqDiff, Nat.reduceLT, Nat.reduceLeDiff, rg, I])) (by (simp -dsimp only [↓RP, RQ0, RQ1, RQ2, RQ3, implies_true, forall_const, Nat.reduceMul, reduceIte, reduceCtorEq, Nat.reduceAdd, Nat.reduceEqDiff, Nat.reduceLT, Nat.reduceLeDiff, B])) ?_
    (repeat' (first | with_reducible refine splitVC_d (fun _ => ?_) (fun _ => ?_) | ((with_reducible refine And.intro ?_ ?_); focus (first | trivial | (simp only [InK]; omega) | omega | (simp only [InK, ne_eq, and_true, true_and]; omega))) | simp -dsimp only [↓RP, RQ0, RQ1, RQ2, RQ3, implies_true, forall_const, Nat.reduceMul, reduceIte, reduceCtorEq, Nat.reduceAdd, Nat.reduceEqDiff, Nat.reduceLT, Nat.reduceLeDiff, B, ty2, ty22, ty35, pl35, Go.Proofs.Try.results79]))
    · rename_i h
      refine I_eq ?_
      rw [he, e2, if_pos (by simp [h])]
    · rename_i h1
      refine ⟨i + 1, ⟨by omega, ?_⟩, by omega, weak [] [] ?_ ?_ ?_⟩
      · rw [he, e2, if_neg (by simp [h1])]
      · (simp -dsimp only [↓RP, RQ0, RQ1, RQ2, RQ3, implies_true, forall_const, Nat.reduceMul, reduceIte, reduceCtorEq, Nat.reduceAdd, Nat.reduceEqDiff, Nat.reduceLT, Nat.reduceLeDiff]); simp
      · (simp -dsimp only [↓RP, RQ0, RQ1, RQ2, RQ3, implies_true, forall_const, Nat.reduceMul, reduceIte, reduceCtorEq, Nat.reduceAdd, Nat.reduceEqDiff, Nat.reduceLT, Nat.reduceLeDiff])
      · (simp -dsimp only [↓RP, RQ0, RQ1, RQ2, RQ3, implies_true, forall_const, Nat.reduceMul, reduceIte, reduceCtorEq, Nat.reduceAdd, Nat.reduceEqDiff, Nat.reduceLT, Nat.reduceLeDiff])
  · rename_i hlt
    refine I_eq ?_
    have : m - i = 0 := by omega
    rw [he, this]; rfl
def allR (lo hi : Nat → Int) (m : Nat) : Prop := ∀ i, i < m → 0 ≤ lo i ∧ lo i ≤ hi i ∧ hi i ≤ 200
instance (lo hi : Nat → Int) (m : Nat) : Decidable (allR lo hi m) := by unfold allR; infer_instance
theorem allR_iff (lo hi : Nat → Int) (m : Nat) : fstI (fun i => decide (badR (lo i) (hi i))) 0 m < 0 ↔ allR lo hi m := by
  rw [fstI_lt]
  constructor
  · intro h i hi'
    have := h i (by omega) (by omega)
    simp [badR] at this; omega
  · intro h j _ hj
    have := h j (by omega)
    simp [badR]; omega
theorem c63 (m : Nat) (lo hi : Nat → Int) (hm : m ≤ 1000000) : Contract Go.Proofs.Try.prog 63 [rngs m lo hi, .fn (.func 61) [] []] (B (!decide (allR lo hi m))) := by
  refine contract_of Go.Proofs.Try.func63 rfl (by kernel_rfl) follows (by kernel_rfl) _ _ (by rw [Go.Proofs.Try.ntmps63]; simp) (by simp [OldL, Old, rngs]) ?_
  unfold rngs B
  (simp -dsimp only [↓RP, RQ0, RQ1, RQ2, RQ3, implies_true, forall_const, Nat.reduceMul, reduceIte, reduceCtorEq, Nat.reduceAdd, Nat.reduceEqDiff, Nat.reduceLT, Nat.reduceLeDiff, ty2, ty22, Go.Proofs.Try.results63])
  refine callVC (c79 m lo hi hm) (by (simp -dsimp only [↓RP, RQ0, RQ1, RQ2, RQ3, implies_true, forall_const, Nat.reduceMul, reduceIte, reduceCtorEq, Nat.reduceAdd, Nat.reduceEqDiff, Nat.reduceLT, Nat.reduceLeDiff, rngs, I]); simp) (by (simp -dsimp only [↓RP, RQ0, RQ1, RQ2, RQ3, implies_true, forall_const, Nat.reduceMul, reduceIte, reduceCtorEq, Nat.reduceAdd, Nat.reduceEqDiff, Nat.reduceLT, Nat.reduceLeDiff, I])) ?_
  (repeat' (first | with_reducible refine splitVC_d (fun _ => ?_) (fun _ => ?_) | ((with_reducible refine And.intro ?_ ?_); focus (first | trivial | (simp only [InK]; omega) | omega | (simp only [InK, ne_eq, and_true, true_and]; omega))) | simp -dsimp only [↓RP, RQ0, RQ1, RQ2, RQ3, implies_true, forall_const, Nat.reduceMul, reduceIte, reduceCtorEq, Nat.reduceAdd, Nat.reduceEqDiff, Nat.reduceLT, Nat.reduceLeDiff, I, ty2, ty22, Go.Proofs.Try.results63]))
  refine B_eq ?_
  rw [Bool.eq_iff_iff]; simp [← allR_iff]
theorem c24 (p : Pool) (hn : p.n ≤ 1000000) : Contract Go.Proofs.Try.prog 24 [p.sv] (I p.err) := by
  refine contract_of Go.Proofs.Try.func24 rfl (by kernel_rfl) follows (by kernel_rfl) _ _ (by rw [Go.Proofs.Try.ntmps24]; simp) (by simp [OldL, p.old]) ?_
  unfold I
  conv => arg 4; unfold Pool.sv rngs I
  (repeat' (first | with_reducible refine splitVC_d (fun _ => ?_) (fun _ => ?_) | ((with_reducible refine And.intro ?_ ?_); focus (first | trivial | (simp only [InK]; omega) | omega | (simp only [InK, ne_eq, and_true, true_and]; omega))) | simp -dsimp only [↓RP, RQ0, RQ1, RQ2, RQ3, implies_true, forall_const, Nat.reduceMul, reduceIte, reduceCtorEq, Nat.reduceAdd, Nat.reduceEqDiff, Nat.reduceLT, Nat.reduceLeDiff, ty2, ty4, ty22, ty24, ty25, ty28, ty35, pl35, Go.Proofs.Try.results24]))
  refine callVC (c62_1 p.n 2 8) (by (simp -dsimp only [↓RP, RQ0, RQ1, RQ2, RQ3, implies_true, forall_const, Nat.reduceMul, reduceIte, reduceCtorEq, Nat.reduceAdd, Nat.reduceEqDiff, Nat.reduceLT, Nat.reduceLeDiff, ints, I]); simp) (by (simp -dsimp only [↓RP, RQ0, RQ1, RQ2, RQ3, implies_true, forall_const, Nat.reduceMul, reduceIte, reduceCtorEq, Nat.reduceAdd, Nat.reduceEqDiff, Nat.reduceLT, Nat.reduceLeDiff, B])) ?_
  (repeat' (first | with_reducible refine splitVC_d (fun _ => ?_) (fun _ => ?_) | ((with_reducible refine And.intro ?_ ?_); focus (first | trivial | (simp only [InK]; omega) | omega | (simp only [InK, ne_eq, and_true, true_and]; omega))) | simp -dsimp only [↓RP, RQ0, RQ1, RQ2, RQ3, implies_true, forall_const, Nat.reduceMul, reduceIte, reduceCtorEq, Nat.reduceAdd, Nat.reduceEqDiff, Nat.reduceLT, Nat.reduceLeDiff, B, ty2, ty4, ty22, ty24, ty25, ty28, ty35, pl35, Go.Proofs.Try.results24]))
  rotate_left
  · refine I_eq ?_; unfold Pool.err; rw [if_pos (by omega)]
  rename_i h1
  refine callVC (c62_1 p.per 1 10000) (by (simp -dsimp only [↓RP, RQ0, RQ1, RQ2, RQ3, implies_true, forall_const, Nat.reduceMul, reduceIte, reduceCtorEq, Nat.reduceAdd, Nat.reduceEqDiff, Nat.reduceLT, Nat.reduceLeDiff, ints, I]); simp) (by (simp -dsimp only [↓RP, RQ0, RQ1, RQ2, RQ3, implies_true, forall_const, Nat.reduceMul, reduceIte, reduceCtorEq, Nat.reduceAdd, Nat.reduceEqDiff, Nat.reduceLT, Nat.reduceLeDiff, B])) ?_
  (repeat' (first | with_reducible refine splitVC_d (fun _ => ?_) (fun _ => ?_) | ((with_reducible refine And.intro ?_ ?_); focus (first | trivial | (simp only [InK]; omega) | omega | (simp only [InK, ne_eq, and_true, true_and]; omega))) | simp -dsimp only [↓RP, RQ0, RQ1, RQ2, RQ3, implies_true, forall_const, Nat.reduceMul, reduceIte, reduceCtorEq, Nat.reduceAdd, Nat.reduceEqDiff, Nat.reduceLT, Nat.reduceLeDiff, B, ty2, ty4, ty22, ty24, ty25, ty28, ty35, pl35, Go.Proofs.Try.results24]))
  rotate_left
  · refine I_eq ?_; unfold Pool.err; rw [if_neg (by omega), if_pos (by omega)]
  rename_i h2
  refine callVC (c62_1 p.pence 0 p.per) (by (simp -dsimp only [↓RP, RQ0, RQ1, RQ2, RQ3, implies_true, forall_const, Nat.reduceMul, reduceIte, reduceCtorEq, Nat.reduceAdd, Nat.reduceEqDiff, Nat.reduceLT, Nat.reduceLeDiff, ints, I]); simp) (by (simp -dsimp only [↓RP, RQ0, RQ1, RQ2, RQ3, implies_true, forall_const, Nat.reduceMul, reduceIte, reduceCtorEq, Nat.reduceAdd, Nat.reduceEqDiff, Nat.reduceLT, Nat.reduceLeDiff, B])) ?_
  (repeat' (first | with_reducible refine splitVC_d (fun _ => ?_) (fun _ => ?_) | ((with_reducible refine And.intro ?_ ?_); focus (first | trivial | (simp only [InK]; omega) | omega | (simp only [InK, ne_eq, and_true, true_and]; omega))) | simp -dsimp only [↓RP, RQ0, RQ1, RQ2, RQ3, implies_true, forall_const, Nat.reduceMul, reduceIte, reduceCtorEq, Nat.reduceAdd, Nat.reduceEqDiff, Nat.reduceLT, Nat.reduceLeDiff, B, ty2, ty4, ty22, ty24, ty25, ty28, ty35, pl35, Go.Proofs.Try.results24]))
  rotate_left
  · refine I_eq ?_; unfold Pool.err; rw [if_neg (by omega), if_pos (by omega)]
  rename_i h3
  refine callVC (c62_1 p.keep 0 100000) (by (simp -dsimp only [↓RP, RQ0, RQ1, RQ2, RQ3, implies_true, forall_const, Nat.reduceMul, reduceIte, reduceCtorEq, Nat.reduceAdd, Nat.reduceEqDiff, Nat.reduceLT, Nat.reduceLeDiff, ints, I]); simp) (by (simp -dsimp only [↓RP, RQ0, RQ1, RQ2, RQ3, implies_true, forall_const, Nat.reduceMul, reduceIte, reduceCtorEq, Nat.reduceAdd, Nat.reduceEqDiff, Nat.reduceLT, Nat.reduceLeDiff, B])) ?_
  (repeat' (first | with_reducible refine splitVC_d (fun _ => ?_) (fun _ => ?_) | ((with_reducible refine And.intro ?_ ?_); focus (first | trivial | (simp only [InK]; omega) | omega | (simp only [InK, ne_eq, and_true, true_and]; omega))) | simp -dsimp only [↓RP, RQ0, RQ1, RQ2, RQ3, implies_true, forall_const, Nat.reduceMul, reduceIte, reduceCtorEq, Nat.reduceAdd, Nat.reduceEqDiff, Nat.reduceLT, Nat.reduceLeDiff, B, ty2, ty4, ty22, ty24, ty25, ty28, ty35, pl35, Go.Proofs.Try.results24]))
  rotate_left
  · refine I_eq ?_; unfold Pool.err; rw [if_neg (by omega), if_pos (by omega)]
  rename_i h4
  refine callVC (c62_1 p.step 1 100) (by (simp -dsimp only [↓RP, RQ0, RQ1, RQ2, RQ3, implies_true, forall_const, Nat.reduceMul, reduceIte, reduceCtorEq, Nat.reduceAdd, Nat.reduceEqDiff, Nat.reduceLT, Nat.reduceLeDiff, ints, I]); simp) (by (simp -dsimp only [↓RP, RQ0, RQ1, RQ2, RQ3, implies_true, forall_const, Nat.reduceMul, reduceIte, reduceCtorEq, Nat.reduceAdd, Nat.reduceEqDiff, Nat.reduceLT, Nat.reduceLeDiff, B])) ?_
  (repeat' (first | with_reducible refine splitVC_d (fun _ => ?_) (fun _ => ?_) | ((with_reducible refine And.intro ?_ ?_); focus (first | trivial | (simp only [InK]; omega) | omega | (simp only [InK, ne_eq, and_true, true_and]; omega))) | simp -dsimp only [↓RP, RQ0, RQ1, RQ2, RQ3, implies_true, forall_const, Nat.reduceMul, reduceIte, reduceCtorEq, Nat.reduceAdd, Nat.reduceEqDiff, Nat.reduceLT, Nat.reduceLeDiff, B, ty2, ty4, ty22, ty24, ty25, ty28, ty35, pl35, Go.Proofs.Try.results24]))
  rotate_left
  · refine I_eq ?_; unfold Pool.err; rw [if_neg (by omega), if_pos (by omega)]
  rename_i h5
  refine callVC (c63 p.n p.lo p.hi hn) (by (simp -dsimp only [↓RP, RQ0, RQ1, RQ2, RQ3, implies_true, forall_const, Nat.reduceMul, reduceIte, reduceCtorEq, Nat.reduceAdd, Nat.reduceEqDiff, Nat.reduceLT, Nat.reduceLeDiff, rngs]); simp) (by (simp -dsimp only [↓RP, RQ0, RQ1, RQ2, RQ3, implies_true, forall_const, Nat.reduceMul, reduceIte, reduceCtorEq, Nat.reduceAdd, Nat.reduceEqDiff, Nat.reduceLT, Nat.reduceLeDiff, B])) ?_
  (repeat' (first | with_reducible refine splitVC_d (fun _ => ?_) (fun _ => ?_) | ((with_reducible refine And.intro ?_ ?_); focus (first | trivial | (simp only [InK]; omega) | omega | (simp only [InK, ne_eq, and_true, true_and]; omega))) | simp -dsimp only [↓RP, RQ0, RQ1, RQ2, RQ3, implies_true, forall_const, Nat.reduceMul, reduceIte, reduceCtorEq, Nat.reduceAdd, Nat.reduceEqDiff, Nat.reduceLT, Nat.reduceLeDiff, B, ty2, ty4, ty22, ty24, ty25, ty28, ty35, pl35, Go.Proofs.Try.results24]))
  · rename_i h6
    refine I_eq ?_; unfold Pool.err; rw [if_neg (by omega), if_neg (by omega)]; exact (if_pos h6).symm
  · rename_i h6
    refine I_eq ?_; unfold Pool.err; rw [if_neg (by omega), if_neg (by omega)]; exact (if_neg h6).symm
theorem c58 (p : Pool) (hn : p.n ≤ 1000000) (r d : Int) : Contract Go.Proofs.Try.prog 58 [p.sv, I r, I d] (I (p.asked r d)) := by
  refine contract_of Go.Proofs.Try.func58 rfl (by kernel_rfl) follows (by kernel_rfl) _ _ (by rw [Go.Proofs.Try.ntmps58]; simp) (by simp [OldL, p.old]; simp [Old, I]) ?_
  unfold I
  conv => arg 4; unfold Pool.sv rngs I
  (repeat' (first | with_reducible refine splitVC_d (fun _ => ?_) (fun _ => ?_) | ((with_reducible refine And.intro ?_ ?_); focus (first | trivial | (simp only [InK]; omega) | omega | (simp only [InK, ne_eq, and_true, true_and]; omega))) | simp -dsimp only [↓RP, RQ0, RQ1, RQ2, RQ3, implies_true, forall_const, Nat.reduceMul, reduceIte, reduceCtorEq, Nat.reduceAdd, Nat.reduceEqDiff, Nat.reduceLT, Nat.reduceLeDiff, ty2, ty3, ty4, ty22, ty24, ty25, ty28, ty35, pl35, Go.Proofs.Try.results58]))
  refine callVC (c24 p hn) (by (simp -dsimp only [↓RP, RQ0, RQ1, RQ2, RQ3, implies_true, forall_const, Nat.reduceMul, reduceIte, reduceCtorEq, Nat.reduceAdd, Nat.reduceEqDiff, Nat.reduceLT, Nat.reduceLeDiff, Pool.sv, rngs, I]); simp) (by (simp -dsimp only [↓RP, RQ0, RQ1, RQ2, RQ3, implies_true, forall_const, Nat.reduceMul, reduceIte, reduceCtorEq, Nat.reduceAdd, Nat.reduceEqDiff, Nat.reduceLT, Nat.reduceLeDiff, I])) ?_
  (repeat' (first | with_reducible refine splitVC_d (fun _ => ?_) (fun _ => ?_) | ((with_reducible refine And.intro ?_ ?_); focus (first | trivial | (simp only [InK]; omega) | omega | (simp only [InK, ne_eq, and_true, true_and]; omega))) | simp -dsimp only [↓RP, RQ0, RQ1, RQ2, RQ3, implies_true, forall_const, Nat.reduceMul, reduceIte, reduceCtorEq, Nat.reduceAdd, Nat.reduceEqDiff, Nat.reduceLT, Nat.reduceLeDiff, I, ty2, ty3, ty4, ty22, ty24, ty25, ty28, ty35, pl35, Go.Proofs.Try.results58]))
  · rename_i h0 h1
    refine I_eq ?_; unfold Pool.asked; rw [if_pos h0, if_pos (by omega)]
  · rename_i h0 h1 h2
    refine I_eq ?_; unfold Pool.asked; rw [if_pos h0, if_pos (by omega)]
  · rename_i h0 h1 h2
    have hs := (Pool.fine h0).step1
    refine callVC (c62_1 d 0 100000) (by (simp -dsimp only [↓RP, RQ0, RQ1, RQ2, RQ3, implies_true, forall_const, Nat.reduceMul, reduceIte, reduceCtorEq, Nat.reduceAdd, Nat.reduceEqDiff, Nat.reduceLT, Nat.reduceLeDiff, ints, I]); simp) (by (simp -dsimp only [↓RP, RQ0, RQ1, RQ2, RQ3, implies_true, forall_const, Nat.reduceMul, reduceIte, reduceCtorEq, Nat.reduceAdd, Nat.reduceEqDiff, Nat.reduceLT, Nat.reduceLeDiff, B])) ?_
    (repeat' (first | with_reducible refine splitVC_d (fun _ => ?_) (fun _ => ?_) | ((with_reducible refine And.intro ?_ ?_); focus (first | trivial | (simp only [InK]; omega) | omega | (simp only [InK, ne_eq, and_true, true_and]; omega))) | simp -dsimp only [↓RP, RQ0, RQ1, RQ2, RQ3, implies_true, forall_const, Nat.reduceMul, reduceIte, reduceCtorEq, Nat.reduceAdd, Nat.reduceEqDiff, Nat.reduceLT, Nat.reduceLeDiff, B, ty2, ty3, ty4, ty22, ty24, ty25, ty28, ty35, pl35, Go.Proofs.Try.results58]))
    · rename_i h3 h4
      refine I_eq ?_; unfold Pool.asked; rw [if_pos h0, if_neg (by omega), if_pos (by omega)]
    · rename_i h3 h4
      refine I_eq ?_; unfold Pool.asked; rw [if_pos h0, if_neg (by omega), if_neg (by omega)]
    · rename_i h3
      refine I_eq ?_; unfold Pool.asked; rw [if_pos h0, if_neg (by omega), if_neg (by omega)]
  · rename_i h0
    refine I_eq ?_; unfold Pool.asked; rw [if_neg h0]
theorem c54 (p : Pool) (h : p.Fine) (m : Nat) (u : Nat → Int) : Contract Go.Proofs.Try.prog 54 [p.sv, ints m u] (I (p.tr m u)) := by
  refine contract_of Go.Proofs.Try.func54 rfl (by kernel_rfl) follows (by kernel_rfl) _ _ (by rw [Go.Proofs.Try.ntmps54]; simp) (by simp [OldL, p.old]; simp [Old, ints]) ?_
  have h8 := h.n8
  unfold Pool.sv rngs I ints
  (repeat' (first | with_reducible refine splitVC_d (fun _ => ?_) (fun _ => ?_) | ((with_reducible refine And.intro ?_ ?_); focus (first | trivial | (simp only [InK]; omega) | omega | (simp only [InK, ne_eq, and_true, true_and]; omega))) | simp -dsimp only [↓RP, RQ0, RQ1, RQ2, RQ3, implies_true, forall_const, Nat.reduceMul, reduceIte, reduceCtorEq, Nat.reduceAdd, Nat.reduceEqDiff, Nat.reduceLT, Nat.reduceLeDiff, ty2, ty3, ty4, ty22, ty24, ty25, ty28, ty35, pl35, Go.Proofs.Try.results54]))
  · rename_i hm
    refine loop_vc (fun i => i ≤ p.n ∧ ∀ j, j < i → p.lo j ≤ u j ∧ u j ≤ p.hi j) (fun i => ⟨[(1, .arr false false m 1 (fun i _ => .val (.int .i64 (u i)))), (2, .ptr 0 0), (14, .arr false false p.n 2 (fun i j => .val (.int .i64 (if j = 0 then p.lo i else p.hi i)))), (15, .val (.int .i64 p.n)), (16, .val (.int .i64 i))], [(0, .cells 24 [.arr false false p.n 2 (fun i j => .val (.int .i64 (if j = 0 then p.lo i else p.hi i))), .val (.int .i64 p.per), .val (.int .i64 p.pence), .val (.int .i64 p.keep), .val (.int .i64 p.step)])], 12⟩) (fun i => p.n - i) 0 ⟨Nat.zero_le _, fun j hj => by omega⟩ (weak [] [] ?_ ?_ ?_) fun i hi => ?_
    · (simp -dsimp only [↓RP, RQ0, RQ1, RQ2, RQ3, implies_true, forall_const, Nat.reduceMul, reduceIte, reduceCtorEq, Nat.reduceAdd, Nat.reduceEqDiff, Nat.reduceLT, Nat.reduceLeDiff]); simp
    · (simp -dsimp only [↓RP, RQ0, RQ1, RQ2, RQ3, implies_true, forall_const, Nat.reduceMul, reduceIte, reduceCtorEq, Nat.reduceAdd, Nat.reduceEqDiff, Nat.reduceLT, Nat.reduceLeDiff]); simp
    · (simp -dsimp only [↓RP, RQ0, RQ1, RQ2, RQ3, implies_true, forall_const, Nat.reduceMul, reduceIte, reduceCtorEq, Nat.reduceAdd, Nat.reduceEqDiff, Nat.reduceLT, Nat.reduceLeDiff])
    (repeat' (first | with_reducible refine splitVC_d (fun _ => ?_) (fun _ => ?_) | ((with_reducible refine And.intro ?_ ?_); focus (first | trivial | (simp only [InK]; omega) | omega | (simp only [InK, ne_eq, and_true, true_and]; omega))) | simp -dsimp only [↓RP, RQ0, RQ1, RQ2, RQ3, implies_true, forall_const, Nat.reduceMul, reduceIte, reduceCtorEq, Nat.reduceAdd, Nat.reduceEqDiff, Nat.reduceLT, Nat.reduceLeDiff, ty2, ty3, ty4, ty22, ty24, ty25, ty28, ty35, pl35, Go.Proofs.Try.results54]))
    · rename_i hlt
      refine callVC (c62_1 (u i) (p.lo i) (p.hi i)) (by (simp -dsimp only [↓RP, RQ0, RQ1, RQ2, RQ3, implies_true, forall_const, Nat.reduceMul, reduceIte, reduceCtorEq, Nat.reduceAdd, Nat.reduceEqDiff, Nat.reduceLT, Nat.reduceLeDiff, ints, I]); simp) (by (simp -dsimp only [↓RP, RQ0, RQ1, RQ2, RQ3, implies_true, forall_const, Nat.reduceMul, reduceIte, reduceCtorEq, Nat.reduceAdd, Nat.reduceEqDiff, Nat.reduceLT, Nat.reduceLeDiff, B])) ?_
      (repeat' (first | with_reducible refine splitVC_d (fun _ => ?_) (fun _ => ?_) | ((with_reducible refine And.intro ?_ ?_); focus (first | trivial | (simp only [InK]; omega) | omega | (simp only [InK, ne_eq, and_true, true_and]; omega))) | simp -dsimp only [↓RP, RQ0, RQ1, RQ2, RQ3, implies_true, forall_const, Nat.reduceMul, reduceIte, reduceCtorEq, Nat.reduceAdd, Nat.reduceEqDiff, Nat.reduceLT, Nat.reduceLeDiff, B, ty2, ty3, ty4, ty22, ty24, ty25, ty28, ty35, pl35, Go.Proofs.Try.results54]))
      · rename_i h1
        refine ⟨i + 1, ⟨by omega, fun j hj => ?_⟩, by omega, weak [] [] ?_ ?_ ?_⟩
        · by_cases e : j = i
          · subst e; omega
          · exact hi.2 j (by omega)
        · (simp -dsimp only [↓RP, RQ0, RQ1, RQ2, RQ3, implies_true, forall_const, Nat.reduceMul, reduceIte, reduceCtorEq, Nat.reduceAdd, Nat.reduceEqDiff, Nat.reduceLT, Nat.reduceLeDiff]); simp
        · (simp -dsimp only [↓RP, RQ0, RQ1, RQ2, RQ3, implies_true, forall_const, Nat.reduceMul, reduceIte, reduceCtorEq, Nat.reduceAdd, Nat.reduceEqDiff, Nat.reduceLT, Nat.reduceLeDiff]); simp
        · (simp -dsimp only [↓RP, RQ0, RQ1, RQ2, RQ3, implies_true, forall_const, Nat.reduceMul, reduceIte, reduceCtorEq, Nat.reduceAdd, Nat.reduceEqDiff, Nat.reduceLT, Nat.reduceLeDiff])
      · rename_i h1
        refine I_eq ?_; unfold Pool.tr; rw [if_pos (by omega), if_neg (fun h => by have h2 := h i (by omega); omega)]
    · refine I_eq ?_; unfold Pool.tr; rw [if_pos (by omega), if_pos (fun j hj => hi.2 j (by omega))]
  · refine I_eq ?_
    unfold Pool.tr
    rw [if_neg (by omega)]
theorem c55 (p : Pool) (h : p.Fine) (units : Int) (h7 : 0 ≤ units) (h8 : units ≤ 10000) : Contract Go.Proofs.Try.prog 55 [p.sv, I units] (I (p.net units)) := by
  refine contract_of Go.Proofs.Try.func55 rfl (by kernel_rfl) follows (by kernel_rfl) _ _ (by rw [Go.Proofs.Try.ntmps55]; simp) (by simp [OldL, p.old]; simp [Old, I]) ?_
  unfold Pool.sv rngs I
  have h1 : 0 ≤ (100 * units).tdiv p.per := Int.tdiv_nonneg (by omega) (by have := h.per1; omega)
  have h2 : (100 * units).tdiv p.per * p.per ≤ 100 * units := by
    have := Int.tmod_add_tdiv_mul (100 * units) p.per
    have := Int.tmod_nonneg p.per (show 0 ≤ 100 * units by omega)
    omega
  have h3 : (100 * units).tdiv p.per * p.pence ≤ (100 * units).tdiv p.per * p.per := Int.mul_le_mul_of_nonneg_left h.pence2 h1
  have h4 : 0 ≤ (100 * units).tdiv p.per * p.pence := Int.mul_nonneg h1 h.pence1
  have h5 : (100 * units).tdiv p.per ≤ 100 * units := by
    have := Int.mul_le_mul_of_nonneg_left h.per1 h1
    omega
  obtain ⟨g1, g2, g3, g4, g5, g6, g7, g8, g9, g10, g11⟩ := h
  (repeat' (first | with_reducible refine splitVC_d (fun _ => ?_) (fun _ => ?_) | ((with_reducible refine And.intro ?_ ?_); focus (first | trivial | (simp only [InK]; omega) | omega | (simp only [InK, ne_eq, and_true, true_and]; omega))) | simp -dsimp only [↓RP, RQ0, RQ1, RQ2, RQ3, implies_true, forall_const, Nat.reduceMul, reduceIte, reduceCtorEq, Nat.reduceAdd, Nat.reduceEqDiff, Nat.reduceLT, Nat.reduceLeDiff, ty2, ty3, ty4, ty22, ty24, ty25, ty28, ty35, pl35, Go.Proofs.Try.results55]))
  all_goals first | (first | trivial | (simp only [InK]; omega) | omega | (simp only [InK, ne_eq, and_true, true_and]; omega)) | rfl | trace_state
theorem c56 (u : Nat → Int) (n : Nat) (hn : n ≤ 1000) (hu : ∀ i, i < n → 0 ≤ u i ∧ u i ≤ 10000) : Contract Go.Proofs.Try.prog 56 [ints n u] (I (sumTo u n)) := by
  refine contract_of Go.Proofs.Try.func56 rfl (by kernel_rfl) follows (by kernel_rfl) _ _ (by rw [Go.Proofs.Try.ntmps56]; simp) (by simp [OldL, Old, ints]) ?_
  have hb := sumTo_bound u 10000 n hu
  unfold ints I
  (simp -dsimp only [↓RP, RQ0, RQ1, RQ2, RQ3, implies_true, forall_const, Nat.reduceMul, reduceIte, reduceCtorEq, Nat.reduceAdd, Nat.reduceEqDiff, Nat.reduceLT, Nat.reduceLeDiff, ty2, ty3, ty4, ty22, ty24, ty25, ty28, ty35, pl35, Go.Proofs.Try.results56])
  refine loop_vc (fun i => i ≤ n) (fun i => ⟨[(3, .val (.int .i64 (sumTo u i))), (6, .arr false false n 1 (fun i _ => .val (.int .i64 (u i)))), (7, .val (.int .i64 n)), (8, .val (.int .i64 i))], [], 0⟩) (fun i => n - i) 0 (Nat.zero_le _) (weak [] [] ?_ ?_ ?_) fun i hi => ?_
  · (simp -dsimp only [↓RP, RQ0, RQ1, RQ2, RQ3, implies_true, forall_const, Nat.reduceMul, reduceIte, reduceCtorEq, Nat.reduceAdd, Nat.reduceEqDiff, Nat.reduceLT, Nat.reduceLeDiff, sumTo]); simp
  · (simp -dsimp only [↓RP, RQ0, RQ1, RQ2, RQ3, implies_true, forall_const, Nat.reduceMul, reduceIte, reduceCtorEq, Nat.reduceAdd, Nat.reduceEqDiff, Nat.reduceLT, Nat.reduceLeDiff])
  · (simp -dsimp only [↓RP, RQ0, RQ1, RQ2, RQ3, implies_true, forall_const, Nat.reduceMul, reduceIte, reduceCtorEq, Nat.reduceAdd, Nat.reduceEqDiff, Nat.reduceLT, Nat.reduceLeDiff])
  have h1 := hb i hi
  (repeat' (first | with_reducible refine splitVC_d (fun _ => ?_) (fun _ => ?_) | ((with_reducible refine And.intro ?_ ?_); focus (first | trivial | (simp only [InK]; omega) | omega | (simp only [InK, ne_eq, and_true, true_and]; omega))) | simp -dsimp only [↓RP, RQ0, RQ1, RQ2, RQ3, implies_true, forall_const, Nat.reduceMul, reduceIte, reduceCtorEq, Nat.reduceAdd, Nat.reduceEqDiff, Nat.reduceLT, Nat.reduceLeDiff, ty2, ty3, ty4, ty22, ty24, ty25, ty28, ty35, pl35, Go.Proofs.Try.results56]))
  · rename_i h
    have h2 := hu i (by omega)
    refine ⟨by (first | trivial | (simp only [InK]; omega) | omega | (simp only [InK, ne_eq, and_true, true_and]; omega)), by (first | trivial | (simp only [InK]; omega) | omega | (simp only [InK, ne_eq, and_true, true_and]; omega)), i + 1, by omega, by omega, weak [] [] ?_ ?_ ?_⟩
    · (simp -dsimp only [↓RP, RQ0, RQ1, RQ2, RQ3, implies_true, forall_const, Nat.reduceMul, reduceIte, reduceCtorEq, Nat.reduceAdd, Nat.reduceEqDiff, Nat.reduceLT, Nat.reduceLeDiff, sumTo]); simp
    · (simp -dsimp only [↓RP, RQ0, RQ1, RQ2, RQ3, implies_true, forall_const, Nat.reduceMul, reduceIte, reduceCtorEq, Nat.reduceAdd, Nat.reduceEqDiff, Nat.reduceLT, Nat.reduceLeDiff])
    · (simp -dsimp only [↓RP, RQ0, RQ1, RQ2, RQ3, implies_true, forall_const, Nat.reduceMul, reduceIte, reduceCtorEq, Nat.reduceAdd, Nat.reduceEqDiff, Nat.reduceLT, Nat.reduceLeDiff])
  · rename_i h
    have : i = n := by omega
    rw [this]
end Go.Po
end
section
set_option linter.unusedSimpArgs false
set_option linter.unusedVariables false
set_option maxRecDepth 100000
set_option maxHeartbeats 4000000
namespace Go.Po
open Go.Sx
theorem c20 (p : Pool) (hn : p.n ≤ 1000000) (m : Nat) (u : Nat → Int) : Contract Go.Proofs.Try.prog 20 [p.sv, ints m u] (.tup [I (p.netV m u), I (p.netE m u)]) := by
  refine contract_of Go.Proofs.Try.func20 rfl (by kernel_rfl) follows (by kernel_rfl) _ _ (by rw [Go.Proofs.Try.ntmps20]; simp) (by simp [OldL, p.old]; simp [Old, ints]) ?_
  unfold I
  conv => arg 4; unfold Pool.sv rngs I ints
  (repeat' (first | with_reducible refine splitVC_d (fun _ => ?_) (fun _ => ?_) | ((with_reducible refine And.intro ?_ ?_); focus (first | trivial | (simp only [InK]; omega) | omega | (simp only [InK, ne_eq, and_true, true_and]; omega))) | simp -dsimp only [↓RP, RQ0, RQ1, RQ2, RQ3, implies_true, forall_const, Nat.reduceMul, reduceIte, reduceCtorEq, Nat.reduceAdd, Nat.reduceEqDiff, Nat.reduceLT, Nat.reduceLeDiff, ty2, ty3, ty4, ty22, ty24, ty25, ty28, ty35, pl35, Go.Proofs.Try.results20]))
  refine callVC (c24 p hn) (by (simp -dsimp only [↓RP, RQ0, RQ1, RQ2, RQ3, implies_true, forall_const, Nat.reduceMul, reduceIte, reduceCtorEq, Nat.reduceAdd, Nat.reduceEqDiff, Nat.reduceLT, Nat.reduceLeDiff, Pool.sv, rngs, I]); simp) (by (simp -dsimp only [↓RP, RQ0, RQ1, RQ2, RQ3, implies_true, forall_const, Nat.reduceMul, reduceIte, reduceCtorEq, Nat.reduceAdd, Nat.reduceEqDiff, Nat.reduceLT, Nat.reduceLeDiff, I])) ?_
  (repeat' (first | with_reducible refine splitVC_d (fun _ => ?_) (fun _ => ?_) | ((with_reducible refine And.intro ?_ ?_); focus (first | trivial | (simp only [InK]; omega) | omega | (simp only [InK, ne_eq, and_true, true_and]; omega))) | simp -dsimp only [↓RP, RQ0, RQ1, RQ2, RQ3, implies_true, forall_const, Nat.reduceMul, reduceIte, reduceCtorEq, Nat.reduceAdd, Nat.reduceEqDiff, Nat.reduceLT, Nat.reduceLeDiff, I, ty2, ty3, ty4, ty22, ty24, ty25, ty28, ty35, pl35, Go.Proofs.Try.results20]))
  · rename_i h0
    have hf := Pool.fine h0
    refine callVC (c54 p hf m u) (by (simp -dsimp only [↓RP, RQ0, RQ1, RQ2, RQ3, implies_true, forall_const, Nat.reduceMul, reduceIte, reduceCtorEq, Nat.reduceAdd, Nat.reduceEqDiff, Nat.reduceLT, Nat.reduceLeDiff, Pool.sv, rngs, I, ints]); simp) (by (simp -dsimp only [↓RP, RQ0, RQ1, RQ2, RQ3, implies_true, forall_const, Nat.reduceMul, reduceIte, reduceCtorEq, Nat.reduceAdd, Nat.reduceEqDiff, Nat.reduceLT, Nat.reduceLeDiff, I])) ?_
    (repeat' (first | with_reducible refine splitVC_d (fun _ => ?_) (fun _ => ?_) | ((with_reducible refine And.intro ?_ ?_); focus (first | trivial | (simp only [InK]; omega) | omega | (simp only [InK, ne_eq, and_true, true_and]; omega))) | simp -dsimp only [↓RP, RQ0, RQ1, RQ2, RQ3, implies_true, forall_const, Nat.reduceMul, reduceIte, reduceCtorEq, Nat.reduceAdd, Nat.reduceEqDiff, Nat.reduceLT, Nat.reduceLeDiff, I, ty2, ty3, ty4, ty22, ty24, ty25, ty28, ty35, pl35, Go.Proofs.Try.results20]))
    · rename_i h1
      have ht := Pool.truth h1
      have g3 := ht.sum hf
      refine callVC (c56 u m (by have := ht.n; have := hf.n8; omega) (fun i hi => by have := ht.u hf i hi; omega)) (by (simp -dsimp only [↓RP, RQ0, RQ1, RQ2, RQ3, implies_true, forall_const, Nat.reduceMul, reduceIte, reduceCtorEq, Nat.reduceAdd, Nat.reduceEqDiff, Nat.reduceLT, Nat.reduceLeDiff, ints]); simp) (by (simp -dsimp only [↓RP, RQ0, RQ1, RQ2, RQ3, implies_true, forall_const, Nat.reduceMul, reduceIte, reduceCtorEq, Nat.reduceAdd, Nat.reduceEqDiff, Nat.reduceLT, Nat.reduceLeDiff, I])) ?_
      (repeat' (first | with_reducible refine splitVC_d (fun _ => ?_) (fun _ => ?_) | ((with_reducible refine And.intro ?_ ?_); focus (first | trivial | (simp only [InK]; omega) | omega | (simp only [InK, ne_eq, and_true, true_and]; omega))) | simp -dsimp only [↓RP, RQ0, RQ1, RQ2, RQ3, implies_true, forall_const, Nat.reduceMul, reduceIte, reduceCtorEq, Nat.reduceAdd, Nat.reduceEqDiff, Nat.reduceLT, Nat.reduceLeDiff, I, ty2, ty3, ty4, ty22, ty24, ty25, ty28, ty35, pl35, Go.Proofs.Try.results20]))
      refine callVC (c55 p hf (sumTo u m) g3.1 (by omega)) (by (simp -dsimp only [↓RP, RQ0, RQ1, RQ2, RQ3, implies_true, forall_const, Nat.reduceMul, reduceIte, reduceCtorEq, Nat.reduceAdd, Nat.reduceEqDiff, Nat.reduceLT, Nat.reduceLeDiff, Pool.sv, rngs, I]); simp) (by (simp -dsimp only [↓RP, RQ0, RQ1, RQ2, RQ3, implies_true, forall_const, Nat.reduceMul, reduceIte, reduceCtorEq, Nat.reduceAdd, Nat.reduceEqDiff, Nat.reduceLT, Nat.reduceLeDiff, I])) ?_
      (repeat' (first | with_reducible refine splitVC_d (fun _ => ?_) (fun _ => ?_) | ((with_reducible refine And.intro ?_ ?_); focus (first | trivial | (simp only [InK]; omega) | omega | (simp only [InK, ne_eq, and_true, true_and]; omega))) | simp -dsimp only [↓RP, RQ0, RQ1, RQ2, RQ3, implies_true, forall_const, Nat.reduceMul, reduceIte, reduceCtorEq, Nat.reduceAdd, Nat.reduceEqDiff, Nat.reduceLT, Nat.reduceLeDiff, I, ty2, ty3, ty4, ty22, ty24, ty25, ty28, ty35, pl35, Go.Proofs.Try.results20]))
      exact tup2 (by simp [Pool.netV, Pool.netE, h0, h1]) (by simp [Pool.netE, h0, h1])
    · rename_i h1
      exact tup2 (by simp [Pool.netV, Pool.netE, h0, h1]) (by simp [Pool.netE, h0])
  · rename_i h0
    exact tup2 (by simp [Pool.netV, Pool.netE, h0]) (by simp [Pool.netE, h0])
theorem c22 (p : Pool) (hn : p.n ≤ 1000000) (m : Nat) (u : Nat → Int) (r d : Int) : Contract Go.Proofs.Try.prog 22 [p.sv, ints m u, I r, I d] (.tup [I (p.leftV m u r d), I (p.leftE m u r d)]) := by
  refine contract_of Go.Proofs.Try.func22 rfl (by kernel_rfl) follows (by kernel_rfl) _ _ (by rw [Go.Proofs.Try.ntmps22]; simp) (by simp [OldL, p.old]; simp [Old, ints, I]) ?_
  unfold I
  conv => arg 4; unfold Pool.sv rngs I ints
  (repeat' (first | with_reducible refine splitVC_d (fun _ => ?_) (fun _ => ?_) | ((with_reducible refine And.intro ?_ ?_); focus (first | trivial | (simp only [InK]; omega) | omega | (simp only [InK, ne_eq, and_true, true_and]; omega))) | simp -dsimp only [↓RP, RQ0, RQ1, RQ2, RQ3, implies_true, forall_const, Nat.reduceMul, reduceIte, reduceCtorEq, Nat.reduceAdd, Nat.reduceEqDiff, Nat.reduceLT, Nat.reduceLeDiff, ty2, ty3, ty4, ty22, ty24, ty25, ty28, ty35, pl35, Go.Proofs.Try.results22]))
  refine callVC (c58 p hn r d) (by (simp -dsimp only [↓RP, RQ0, RQ1, RQ2, RQ3, implies_true, forall_const, Nat.reduceMul, reduceIte, reduceCtorEq, Nat.reduceAdd, Nat.reduceEqDiff, Nat.reduceLT, Nat.reduceLeDiff, Pool.sv, rngs, I]); simp) (by (simp -dsimp only [↓RP, RQ0, RQ1, RQ2, RQ3, implies_true, forall_const, Nat.reduceMul, reduceIte, reduceCtorEq, Nat.reduceAdd, Nat.reduceEqDiff, Nat.reduceLT, Nat.reduceLeDiff, I])) ?_
  (repeat' (first | with_reducible refine splitVC_d (fun _ => ?_) (fun _ => ?_) | ((with_reducible refine And.intro ?_ ?_); focus (first | trivial | (simp only [InK]; omega) | omega | (simp only [InK, ne_eq, and_true, true_and]; omega))) | simp -dsimp only [↓RP, RQ0, RQ1, RQ2, RQ3, implies_true, forall_const, Nat.reduceMul, reduceIte, reduceCtorEq, Nat.reduceAdd, Nat.reduceEqDiff, Nat.reduceLT, Nat.reduceLeDiff, I, ty2, ty3, ty4, ty22, ty24, ty25, ty28, ty35, pl35, Go.Proofs.Try.results22]))
  · rename_i h0
    have hk := Pool.ask h0
    have hf := Pool.fine hk.1
    refine callVC (c54 p hf m u) (by (simp -dsimp only [↓RP, RQ0, RQ1, RQ2, RQ3, implies_true, forall_const, Nat.reduceMul, reduceIte, reduceCtorEq, Nat.reduceAdd, Nat.reduceEqDiff, Nat.reduceLT, Nat.reduceLeDiff, Pool.sv, rngs, I, ints]); simp) (by (simp -dsimp only [↓RP, RQ0, RQ1, RQ2, RQ3, implies_true, forall_const, Nat.reduceMul, reduceIte, reduceCtorEq, Nat.reduceAdd, Nat.reduceEqDiff, Nat.reduceLT, Nat.reduceLeDiff, I])) ?_
    (repeat' (first | with_reducible refine splitVC_d (fun _ => ?_) (fun _ => ?_) | ((with_reducible refine And.intro ?_ ?_); focus (first | trivial | (simp only [InK]; omega) | omega | (simp only [InK, ne_eq, and_true, true_and]; omega))) | simp -dsimp only [↓RP, RQ0, RQ1, RQ2, RQ3, implies_true, forall_const, Nat.reduceMul, reduceIte, reduceCtorEq, Nat.reduceAdd, Nat.reduceEqDiff, Nat.reduceLT, Nat.reduceLeDiff, I, ty2, ty3, ty4, ty22, ty24, ty25, ty28, ty35, pl35, Go.Proofs.Try.results22]))
    · rename_i h1
      have ht := Pool.truth h1
      have g3 := ht.sum hf
      have g0 := ht.n
      have g4 := Pool.net_bound hf g3.1 (by omega)
      have g5 := ht.u hf r.toNat (by omega)
      have g6 : 0 ≤ d * u r.toNat := Int.mul_nonneg hk.2.2.2.1 g5.1
      have g7 : d * u r.toNat ≤ 100000 * 200 := Int.mul_le_mul hk.2.2.2.2.1 g5.2 g5.1 (by omega)
      refine callVC (c56 u m (by have := ht.n; have := hf.n8; omega) (fun i hi => by have := ht.u hf i hi; omega)) (by (simp -dsimp only [↓RP, RQ0, RQ1, RQ2, RQ3, implies_true, forall_const, Nat.reduceMul, reduceIte, reduceCtorEq, Nat.reduceAdd, Nat.reduceEqDiff, Nat.reduceLT, Nat.reduceLeDiff, ints]); simp) (by (simp -dsimp only [↓RP, RQ0, RQ1, RQ2, RQ3, implies_true, forall_const, Nat.reduceMul, reduceIte, reduceCtorEq, Nat.reduceAdd, Nat.reduceEqDiff, Nat.reduceLT, Nat.reduceLeDiff, I])) ?_
      (repeat' (first | with_reducible refine splitVC_d (fun _ => ?_) (fun _ => ?_) | ((with_reducible refine And.intro ?_ ?_); focus (first | trivial | (simp only [InK]; omega) | omega | (simp only [InK, ne_eq, and_true, true_and]; omega))) | simp -dsimp only [↓RP, RQ0, RQ1, RQ2, RQ3, implies_true, forall_const, Nat.reduceMul, reduceIte, reduceCtorEq, Nat.reduceAdd, Nat.reduceEqDiff, Nat.reduceLT, Nat.reduceLeDiff, I, ty2, ty3, ty4, ty22, ty24, ty25, ty28, ty35, pl35, Go.Proofs.Try.results22]))
      refine callVC (c55 p hf (sumTo u m) g3.1 (by omega)) (by (simp -dsimp only [↓RP, RQ0, RQ1, RQ2, RQ3, implies_true, forall_const, Nat.reduceMul, reduceIte, reduceCtorEq, Nat.reduceAdd, Nat.reduceEqDiff, Nat.reduceLT, Nat.reduceLeDiff, Pool.sv, rngs, I]); simp) (by (simp -dsimp only [↓RP, RQ0, RQ1, RQ2, RQ3, implies_true, forall_const, Nat.reduceMul, reduceIte, reduceCtorEq, Nat.reduceAdd, Nat.reduceEqDiff, Nat.reduceLT, Nat.reduceLeDiff, I])) ?_
      (repeat' (first | with_reducible refine splitVC_d (fun _ => ?_) (fun _ => ?_) | ((with_reducible refine And.intro ?_ ?_); focus (first | trivial | (simp only [InK]; omega) | omega | (simp only [InK, ne_eq, and_true, true_and]; omega))) | simp -dsimp only [↓RP, RQ0, RQ1, RQ2, RQ3, implies_true, forall_const, Nat.reduceMul, reduceIte, reduceCtorEq, Nat.reduceAdd, Nat.reduceEqDiff, Nat.reduceLT, Nat.reduceLeDiff, I, ty2, ty3, ty4, ty22, ty24, ty25, ty28, ty35, pl35, Go.Proofs.Try.results22]))
      exact tup2 (by simp [Pool.leftV, Pool.leftE, h0, h1]) (by simp [Pool.leftE, h0, h1])
    · rename_i h1
      exact tup2 (by simp [Pool.leftV, Pool.leftE, h0, h1]) (by simp [Pool.leftE, h0])
  · rename_i h0
    exact tup2 (by simp [Pool.leftV, Pool.leftE, h0]) (by simp [Pool.leftE, h0])
theorem c39 (p : Pool) (hn : p.n ≤ 1000000) (m : Nat) (u : Nat → Int) (r d : Int) : Contract Go.Proofs.Try.prog 39 [p.sv, I r, I d, ints m u] (I (p.chE m u r d)) := by
  refine contract_of Go.Proofs.Try.func39 rfl (by kernel_rfl) follows (by kernel_rfl) _ _ (by rw [Go.Proofs.Try.ntmps39]; simp) (by simp [OldL, p.old]; simp [Old, ints, I]) ?_
  unfold I
  conv => arg 4; unfold Pool.sv rngs I ints
  (repeat' (first | with_reducible refine splitVC_d (fun _ => ?_) (fun _ => ?_) | ((with_reducible refine And.intro ?_ ?_); focus (first | trivial | (simp only [InK]; omega) | omega | (simp only [InK, ne_eq, and_true, true_and]; omega))) | simp -dsimp only [↓RP, RQ0, RQ1, RQ2, RQ3, implies_true, forall_const, Nat.reduceMul, reduceIte, reduceCtorEq, Nat.reduceAdd, Nat.reduceEqDiff, Nat.reduceLT, Nat.reduceLeDiff, ty2, ty3, ty4, ty22, ty24, ty25, ty28, ty35, pl35, Go.Proofs.Try.results39]))
  refine callVC (c22 p hn m u r d) (by (simp -dsimp only [↓RP, RQ0, RQ1, RQ2, RQ3, implies_true, forall_const, Nat.reduceMul, reduceIte, reduceCtorEq, Nat.reduceAdd, Nat.reduceEqDiff, Nat.reduceLT, Nat.reduceLeDiff, Pool.sv, rngs, I, ints]); simp) (by (simp -dsimp only [↓RP, RQ0, RQ1, RQ2, RQ3, implies_true, forall_const, Nat.reduceMul, reduceIte, reduceCtorEq, Nat.reduceAdd, Nat.reduceEqDiff, Nat.reduceLT, Nat.reduceLeDiff, I])) ?_
  (repeat' (first | with_reducible refine splitVC_d (fun _ => ?_) (fun _ => ?_) | ((with_reducible refine And.intro ?_ ?_); focus (first | trivial | (simp only [InK]; omega) | omega | (simp only [InK, ne_eq, and_true, true_and]; omega))) | simp -dsimp only [↓RP, RQ0, RQ1, RQ2, RQ3, implies_true, forall_const, Nat.reduceMul, reduceIte, reduceCtorEq, Nat.reduceAdd, Nat.reduceEqDiff, Nat.reduceLT, Nat.reduceLeDiff, I, ty2, ty3, ty4, ty22, ty24, ty25, ty28, ty35, pl35, Go.Proofs.Try.results39]))
  · rename_i h0 h1
    exact I_eq (by simp [Pool.chE, h0, h1])
  · rename_i h0 h1
    exact I_eq (by simp [Pool.chE, h0, h1])
  · rename_i h0
    exact I_eq (by simp [Pool.chE, h0])
end Go.Po
end
