/- A part of the proof. -/
import Derived.Test.YtnkplemacdipfaaPB
import Derived.Test.YtnkplemacdipfaaPA
section
set_option linter.unusedSimpArgs false
set_option linter.unusedVariables false
set_option maxRecDepth 100000
set_option maxHeartbeats 8000000
namespace Go.Po
open Go.Sx
abbrev deskB (p : Pool) (r : Int) : Blk := .cells 112 (dk p r (upto p.lo p.n) (upto p.hi p.n) p.netsV)
theorem c64e (p : Pool) (hn : p.n ≤ 1000000) (r d : Int) (h : p.asked r d ≠ 0) : Contract Go.Proofs.Try.prog 64 [p.sv, I r, I d] (.tup [.val (.pointer none), I (p.asked r d)]) := by
  refine contract_of Go.Proofs.Try.func64 rfl (by kernel_rfl) follows (by kernel_rfl) _ _ (by rw [Go.Proofs.Try.ntmps64]; simp) (by simp [OldL, p.old]; simp [Old, I]) ?_
  unfold I
  conv => arg 4; unfold Pool.sv rngs I
  (repeat' (first | with_reducible refine splitVC_d (fun _ => ?_) (fun _ => ?_) | ((with_reducible refine And.intro ?_ ?_); focus (first | trivial | (simp only [InK]; omega) | omega | (simp only [InK, ne_eq, and_true, true_and]; omega))) | simp -dsimp only [↓RP, RQ0, RQ1, RQ2, RQ3, implies_true, forall_const, Nat.reduceMul, reduceIte, reduceCtorEq, Nat.reduceAdd, Nat.reduceEqDiff, Nat.reduceLT, Nat.reduceLeDiff, ty2, ty3, ty24, ty28, ty84, Go.Proofs.Try.results64]))
  refine callVC (c58 p hn r d) (by (simp -dsimp only [↓RP, RQ0, RQ1, RQ2, RQ3, implies_true, forall_const, Nat.reduceMul, reduceIte, reduceCtorEq, Nat.reduceAdd, Nat.reduceEqDiff, Nat.reduceLT, Nat.reduceLeDiff, Pool.sv, rngs, I]); all_goals simp) (by (simp -dsimp only [↓RP, RQ0, RQ1, RQ2, RQ3, implies_true, forall_const, Nat.reduceMul, reduceIte, reduceCtorEq, Nat.reduceAdd, Nat.reduceEqDiff, Nat.reduceLT, Nat.reduceLeDiff, I])) ?_
  (repeat' (first | with_reducible refine splitVC_d (fun _ => ?_) (fun _ => ?_) | ((with_reducible refine And.intro ?_ ?_); focus (first | trivial | (simp only [InK]; omega) | omega | (simp only [InK, ne_eq, and_true, true_and]; omega))) | simp -dsimp only [↓RP, RQ0, RQ1, RQ2, RQ3, implies_true, forall_const, Nat.reduceMul, reduceIte, reduceCtorEq, Nat.reduceAdd, Nat.reduceEqDiff, Nat.reduceLT, Nat.reduceLeDiff, ty2, ty3, ty24, ty28, ty84, I, Go.Proofs.Try.results64]))
  all_goals first | (exfalso; omega) | skip
theorem c64o (p : Pool) (hn : p.n ≤ 1000000) (r d : Int) (h : p.asked r d = 0) (hf : p.Fine) : ContractN Go.Proofs.Try.prog 64 [p.sv, I r, I d] (deskB p r) (.tup [.ptr 0 0, I 0]) := by
  refine contractN_of Go.Proofs.Try.func64 rfl (by kernel_rfl) follows (by kernel_rfl) _ _ _ (by rw [Go.Proofs.Try.ntmps64]; simp) (by simp [OldL, p.old]; simp [Old, I]) ?_
  conv => arg 4; unfold Pool.sv rngs I
  (repeat' (first | with_reducible refine splitVC_d (fun _ => ?_) (fun _ => ?_) | ((with_reducible refine And.intro ?_ ?_); focus (first | trivial | (simp only [InK]; omega) | omega | (simp only [InK, ne_eq, and_true, true_and]; omega))) | simp -dsimp only [↓RP, RQ0, RQ1, RQ2, RQ3, implies_true, forall_const, Nat.reduceMul, reduceIte, reduceCtorEq, Nat.reduceAdd, Nat.reduceEqDiff, Nat.reduceLT, Nat.reduceLeDiff, ty2, ty3, ty24, ty28, ty84, Go.Proofs.Try.results64]))
  refine callVC (c58 p hn r d) (by (simp -dsimp only [↓RP, RQ0, RQ1, RQ2, RQ3, implies_true, forall_const, Nat.reduceMul, reduceIte, reduceCtorEq, Nat.reduceAdd, Nat.reduceEqDiff, Nat.reduceLT, Nat.reduceLeDiff, Pool.sv, rngs, I]); all_goals simp) (by (simp -dsimp only [↓RP, RQ0, RQ1, RQ2, RQ3, implies_true, forall_const, Nat.reduceMul, reduceIte, reduceCtorEq, Nat.reduceAdd, Nat.reduceEqDiff, Nat.reduceLT, Nat.reduceLeDiff, I])) ?_
  rw [h]
  (repeat' (first | with_reducible refine splitVC_d (fun _ => ?_) (fun _ => ?_) | ((with_reducible refine And.intro ?_ ?_); focus (first | trivial | (simp only [InK]; omega) | omega | (simp only [InK, ne_eq, and_true, true_and]; omega))) | simp -dsimp only [↓RP, RQ0, RQ1, RQ2, RQ3, implies_true, forall_const, Nat.reduceMul, reduceIte, reduceCtorEq, Nat.reduceAdd, Nat.reduceEqDiff, Nat.reduceLT, Nat.reduceLeDiff, ty2, ty3, ty24, ty28, ty84, I, Go.Proofs.Try.results64]))
  · refine callN_old (c74 p hf r) (by (simp -dsimp only [↓RP, RQ0, RQ1, RQ2, RQ3, implies_true, forall_const, Nat.reduceMul, reduceIte, reduceCtorEq, Nat.reduceAdd, Nat.reduceEqDiff, Nat.reduceLT, Nat.reduceLeDiff, Pool.sv, rngs, I]); all_goals simp) (by simp [ClO]) (by simp [ClB, ClL, Cl, dk, rngs, I, Pool.netsV, gN]) ?_
    (repeat' (first | with_reducible refine splitVC_d (fun _ => ?_) (fun _ => ?_) | ((with_reducible refine And.intro ?_ ?_); focus (first | trivial | (simp only [InK]; omega) | omega | (simp only [InK, ne_eq, and_true, true_and]; omega))) | simp -dsimp only [↓RP, RQ0, RQ1, RQ2, RQ3, implies_true, forall_const, Nat.reduceMul, reduceIte, reduceCtorEq, Nat.reduceAdd, Nat.reduceEqDiff, Nat.reduceLT, Nat.reduceLeDiff, ty2, ty3, ty24, ty28, ty84, I, Go.Proofs.Try.results64]))
    refine ⟨12, _, rfl, ?_, ?_⟩
    · (simp -dsimp only [↓RP, RQ0, RQ1, RQ2, RQ3, implies_true, forall_const, Nat.reduceMul, reduceIte, reduceCtorEq, Nat.reduceAdd, Nat.reduceEqDiff, Nat.reduceLT, Nat.reduceLeDiff, dk, rngs, I, Pool.netsV, gN])
      all_goals simp
    · (simp -dsimp only [↓RP, RQ0, RQ1, RQ2, RQ3, implies_true, forall_const, Nat.reduceMul, reduceIte, reduceCtorEq, Nat.reduceAdd, Nat.reduceEqDiff, Nat.reduceLT, Nat.reduceLeDiff])
  · rename_i hx; exact absurd trivial hx
end Go.Po
end
section
set_option linter.unusedSimpArgs false
set_option linter.unusedVariables false
set_option maxRecDepth 100000
set_option maxHeartbeats 8000000
namespace Go.Po
open Go.Sx
theorem D_fits {hp : List (Nat × Blk)} {id : Nat} (p : Pool) (r : Nat) (h : blk hp id = some (deskB p r)) : Go.Sx.Sub hp (D p r) (.ptr id 0) := by
  simp only [D, Go.Sx.Sub, h]
  intro j hj
  have : j = 0 ∨ j = 1 ∨ j = 2 ∨ j = 3 ∨ j = 4 ∨ j = 5 ∨ j = 6 ∨ j = 7 ∨ j = 8 ∨ j = 9 ∨ j = 10 ∨ j = 11 ∨ j = 12 ∨ j = 13 ∨ j = 14 ∨ j = 15 ∨ j = 16 ∨ j = 17 ∨ j = 18 ∨ j = 19 ∨ j = 20 ∨ j = 21 ∨ j = 22 := by omega
  rcases this with rfl | rfl | rfl | rfl | rfl | rfl | rfl | rfl | rfl | rfl | rfl | rfl | rfl | rfl | rfl | rfl | rfl | rfl | rfl | rfl | rfl | rfl | rfl
  all_goals simp [dkR, dk, Go.Sx.Sub, rngs, I, Pool.netsO, Pool.netsV, gN]
def Pool.bst (p : Pool) (r : Nat) (d : Int) : Int := p.lf (p.tAll (p.iB r d)) (p.tFew r (p.iB r d)) d
theorem c26e (p : Pool) (hn : p.n ≤ 1000000) (r d : Int) (h : p.asked r d ≠ 0) : Contract Go.Proofs.Try.prog 26 [p.sv, I r, I d] (.tup [rg 0 0, I (p.asked r d)]) := by
  refine contract_of Go.Proofs.Try.func26 rfl (by kernel_rfl) follows (by kernel_rfl) _ _ (by rw [Go.Proofs.Try.ntmps26]; simp) (by simp [OldL, p.old]; simp [Old, I]) ?_
  unfold I
  conv => arg 4; unfold Pool.sv rngs I
  (repeat' (first | with_reducible refine splitVC_d (fun _ => ?_) (fun _ => ?_) | ((with_reducible refine And.intro ?_ ?_); focus (first | trivial | (simp only [InK]; omega) | omega | (simp only [InK, ne_eq, and_true, true_and]; omega))) | simp -dsimp only [↓RP, RQ0, RQ1, RQ2, RQ3, implies_true, forall_const, Nat.reduceMul, reduceIte, reduceCtorEq, Nat.reduceAdd, Nat.reduceEqDiff, Nat.reduceLT, Nat.reduceLeDiff, ty2, ty3, ty24, ty28, ty35, pl35, ty84, Go.Proofs.Try.results26]))
  refine callVC (c64e p hn r d h) (by (simp -dsimp only [↓RP, RQ0, RQ1, RQ2, RQ3, implies_true, forall_const, Nat.reduceMul, reduceIte, reduceCtorEq, Nat.reduceAdd, Nat.reduceEqDiff, Nat.reduceLT, Nat.reduceLeDiff, Pool.sv, rngs, I]); all_goals simp) (by (simp -dsimp only [↓RP, RQ0, RQ1, RQ2, RQ3, implies_true, forall_const, Nat.reduceMul, reduceIte, reduceCtorEq, Nat.reduceAdd, Nat.reduceEqDiff, Nat.reduceLT, Nat.reduceLeDiff, I])) ?_
  (repeat' (first | with_reducible refine splitVC_d (fun _ => ?_) (fun _ => ?_) | ((with_reducible refine And.intro ?_ ?_); focus (first | trivial | (simp only [InK]; omega) | omega | (simp only [InK, ne_eq, and_true, true_and]; omega))) | simp -dsimp only [↓RP, RQ0, RQ1, RQ2, RQ3, implies_true, forall_const, Nat.reduceMul, reduceIte, reduceCtorEq, Nat.reduceAdd, Nat.reduceEqDiff, Nat.reduceLT, Nat.reduceLeDiff, ty2, ty3, ty24, ty28, ty35, pl35, ty84, I, Go.Po.rg, Go.Proofs.Try.results26]))
  all_goals first | (exfalso; omega) | skip
theorem asked_ok {p : Pool} {r d : Int} (h : p.asked r d = 0) : p.Fine ∧ 0 ≤ r ∧ r < p.n ∧ 0 ≤ d ∧ d ≤ 100000 := by
  unfold Pool.asked at h
  split at h
  · rename_i he
    split at h
    · omega
    · split at h
      · rename_i h1 h2
        exact ⟨Pool.fine he, by omega, by omega, by omega, by omega⟩
      · omega
  · omega
theorem c26o (p : Pool) (hn : p.n ≤ 1000000) (r : Nat) (d : Int) (h : p.asked r d = 0) : Contract Go.Proofs.Try.prog 26 [p.sv, I r, I d] (.tup [rg (p.wst r d) (p.bst r d), I 0]) := by
  obtain ⟨hf, hr0, hr1, hd0, hd1⟩ := asked_ok h
  have hr : r < p.n := by omega
  have hb := t_bounds p hf r (p.iW r d) hr (iW_lt p r d)
  have hb2 := t_bounds p hf r (p.iB r d) hr (iB_lt p r d)
  refine contract_of Go.Proofs.Try.func26 rfl (by kernel_rfl) follows (by kernel_rfl) _ _ (by rw [Go.Proofs.Try.ntmps26]; simp) (by simp [OldL, p.old]; simp [Old, I]) ?_
  conv => arg 4; unfold Pool.sv rngs I
  (repeat' (first | with_reducible refine splitVC_d (fun _ => ?_) (fun _ => ?_) | ((with_reducible refine And.intro ?_ ?_); focus (first | trivial | (simp only [InK]; omega) | omega | (simp only [InK, ne_eq, and_true, true_and]; omega))) | simp -dsimp only [↓RP, RQ0, RQ1, RQ2, RQ3, implies_true, forall_const, Nat.reduceMul, reduceIte, reduceCtorEq, Nat.reduceAdd, Nat.reduceEqDiff, Nat.reduceLT, Nat.reduceLeDiff, ty2, ty3, ty24, ty28, ty35, pl35, ty84, Go.Proofs.Try.results26]))
  refine callN_old (c64o p hn r d h hf) (by (simp -dsimp only [↓RP, RQ0, RQ1, RQ2, RQ3, implies_true, forall_const, Nat.reduceMul, reduceIte, reduceCtorEq, Nat.reduceAdd, Nat.reduceEqDiff, Nat.reduceLT, Nat.reduceLeDiff, Pool.sv, rngs, I]); all_goals simp) (by simp [ClO, ClOL, I]) (by simp [ClB, ClL, Cl, dk, rngs, I, Pool.netsV, gN]) ?_
  (repeat' (first | with_reducible refine splitVC_d (fun _ => ?_) (fun _ => ?_) | ((with_reducible refine And.intro ?_ ?_); focus (first | trivial | (simp only [InK]; omega) | omega | (simp only [InK, ne_eq, and_true, true_and]; omega))) | simp -dsimp only [↓RP, RQ0, RQ1, RQ2, RQ3, implies_true, forall_const, Nat.reduceMul, reduceIte, reduceCtorEq, Nat.reduceAdd, Nat.reduceEqDiff, Nat.reduceLT, Nat.reduceLeDiff, ty2, ty3, ty24, ty28, ty35, pl35, ty84, I, Go.Proofs.Try.results26]))
  refine callVC (c65 p hf r hr d hd0 hd1) (by simp only [SubL]; exact ⟨D_fits p r (by rfl), by (simp -dsimp only [↓RP, RQ0, RQ1, RQ2, RQ3, implies_true, forall_const, Nat.reduceMul, reduceIte, reduceCtorEq, Nat.reduceAdd, Nat.reduceEqDiff, Nat.reduceLT, Nat.reduceLeDiff, I])⟩) (by (simp -dsimp only [↓RP, RQ0, RQ1, RQ2, RQ3, implies_true, forall_const, Nat.reduceMul, reduceIte, reduceCtorEq, Nat.reduceAdd, Nat.reduceEqDiff, Nat.reduceLT, Nat.reduceLeDiff, Pool.tot, tot, I])) ?_
  (repeat' (first | with_reducible refine splitVC_d (fun _ => ?_) (fun _ => ?_) | ((with_reducible refine And.intro ?_ ?_); focus (first | trivial | (simp only [InK]; omega) | omega | (simp only [InK, ne_eq, and_true, true_and]; omega))) | simp -dsimp only [↓RP, RQ0, RQ1, RQ2, RQ3, implies_true, forall_const, Nat.reduceMul, reduceIte, reduceCtorEq, Nat.reduceAdd, Nat.reduceEqDiff, Nat.reduceLT, Nat.reduceLeDiff, ty2, ty3, ty24, ty28, ty35, pl35, ty84, ty88, I, Pool.tot, tot, Go.Proofs.Try.results26]))
  refine callVC (c66 p hf r hr d hd0 hd1) (by simp only [SubL]; exact ⟨D_fits p r (by rfl), by (simp -dsimp only [↓RP, RQ0, RQ1, RQ2, RQ3, implies_true, forall_const, Nat.reduceMul, reduceIte, reduceCtorEq, Nat.reduceAdd, Nat.reduceEqDiff, Nat.reduceLT, Nat.reduceLeDiff, I])⟩) (by (simp -dsimp only [↓RP, RQ0, RQ1, RQ2, RQ3, implies_true, forall_const, Nat.reduceMul, reduceIte, reduceCtorEq, Nat.reduceAdd, Nat.reduceEqDiff, Nat.reduceLT, Nat.reduceLeDiff, Pool.tot, tot, I])) ?_
  (repeat' (first | with_reducible refine splitVC_d (fun _ => ?_) (fun _ => ?_) | ((with_reducible refine And.intro ?_ ?_); focus (first | trivial | (simp only [InK]; omega) | omega | (simp only [InK, ne_eq, and_true, true_and]; omega))) | simp -dsimp only [↓RP, RQ0, RQ1, RQ2, RQ3, implies_true, forall_const, Nat.reduceMul, reduceIte, reduceCtorEq, Nat.reduceAdd, Nat.reduceEqDiff, Nat.reduceLT, Nat.reduceLeDiff, ty2, ty3, ty24, ty28, ty35, pl35, ty84, ty88, I, Pool.tot, tot, Go.Proofs.Try.results26]))
  · refine callVC (c67 p hf r (p.tAll (p.iW r d)) (p.tMost r (p.iW r d)) (p.tFew r (p.iW r d)) (p.tMost r (p.iW r d)) d (by omega) (by omega) hd0 hd1 (by omega) (by omega)) (by simp only [SubL]; exact ⟨D_fits p r (by rfl), by (simp -dsimp only [↓RP, RQ0, RQ1, RQ2, RQ3, implies_true, forall_const, Nat.reduceMul, reduceIte, reduceCtorEq, Nat.reduceAdd, Nat.reduceEqDiff, Nat.reduceLT, Nat.reduceLeDiff, tot, I])⟩) (by (simp -dsimp only [↓RP, RQ0, RQ1, RQ2, RQ3, implies_true, forall_const, Nat.reduceMul, reduceIte, reduceCtorEq, Nat.reduceAdd, Nat.reduceEqDiff, Nat.reduceLT, Nat.reduceLeDiff, I])) ?_
    (repeat' (first | with_reducible refine splitVC_d (fun _ => ?_) (fun _ => ?_) | ((with_reducible refine And.intro ?_ ?_); focus (first | trivial | (simp only [InK]; omega) | omega | (simp only [InK, ne_eq, and_true, true_and]; omega))) | simp -dsimp only [↓RP, RQ0, RQ1, RQ2, RQ3, implies_true, forall_const, Nat.reduceMul, reduceIte, reduceCtorEq, Nat.reduceAdd, Nat.reduceEqDiff, Nat.reduceLT, Nat.reduceLeDiff, ty2, ty3, ty24, ty28, ty35, pl35, ty84, ty88, I, Pool.tot, tot, Go.Proofs.Try.results26]))
    refine callVC (c67 p hf r (p.tAll (p.iB r d)) (p.tMost r (p.iB r d)) (p.tFew r (p.iB r d)) (p.tFew r (p.iB r d)) d (by omega) (by omega) hd0 hd1 (by omega) (by omega)) (by simp only [SubL]; exact ⟨D_fits p r (by rfl), by (simp -dsimp only [↓RP, RQ0, RQ1, RQ2, RQ3, implies_true, forall_const, Nat.reduceMul, reduceIte, reduceCtorEq, Nat.reduceAdd, Nat.reduceEqDiff, Nat.reduceLT, Nat.reduceLeDiff, tot, I])⟩) (by (simp -dsimp only [↓RP, RQ0, RQ1, RQ2, RQ3, implies_true, forall_const, Nat.reduceMul, reduceIte, reduceCtorEq, Nat.reduceAdd, Nat.reduceEqDiff, Nat.reduceLT, Nat.reduceLeDiff, I])) ?_
    (repeat' (first | with_reducible refine splitVC_d (fun _ => ?_) (fun _ => ?_) | ((with_reducible refine And.intro ?_ ?_); focus (first | trivial | (simp only [InK]; omega) | omega | (simp only [InK, ne_eq, and_true, true_and]; omega))) | simp -dsimp only [↓RP, RQ0, RQ1, RQ2, RQ3, implies_true, forall_const, Nat.reduceMul, reduceIte, reduceCtorEq, Nat.reduceAdd, Nat.reduceEqDiff, Nat.reduceLT, Nat.reduceLeDiff, ty2, ty3, ty24, ty28, ty35, pl35, ty84, ty88, I, Pool.tot, tot, Go.Po.rg, Go.Proofs.Try.results26]))
    rfl
  · rename_i hx; exact absurd trivial hx
end Go.Po
end
section
set_option linter.unusedSimpArgs false
set_option linter.unusedVariables false
set_option maxRecDepth 100000
set_option maxHeartbeats 8000000
namespace Go.Po
open Go.Sx
theorem c28e (p : Pool) (hn : p.n ≤ 1000000) (r d : Int) (h : p.asked r d ≠ 0) : Contract Go.Proofs.Try.prog 28 [p.sv, I r, I d] (.tup [I 0, I (p.asked r d)]) := by
  refine contract_of Go.Proofs.Try.func28 rfl (by kernel_rfl) follows (by kernel_rfl) _ _ (by rw [Go.Proofs.Try.ntmps28]; simp) (by simp [OldL, p.old]; simp [Old, I]) ?_
  unfold I
  conv => arg 4; unfold Pool.sv rngs I
  (repeat' (first | with_reducible refine splitVC_d (fun _ => ?_) (fun _ => ?_) | ((with_reducible refine And.intro ?_ ?_); focus (first | trivial | (simp only [InK]; omega) | omega | (simp only [InK, ne_eq, and_true, true_and]; omega))) | simp -dsimp only [↓RP, RQ0, RQ1, RQ2, RQ3, implies_true, forall_const, Nat.reduceMul, reduceIte, reduceCtorEq, Nat.reduceAdd, Nat.reduceEqDiff, Nat.reduceLT, Nat.reduceLeDiff, ty2, ty3, ty24, ty28, ty35, pl35, ty84, Go.Proofs.Try.results28]))
  refine callVC (c26e p hn r d h) (by (simp -dsimp only [↓RP, RQ0, RQ1, RQ2, RQ3, implies_true, forall_const, Nat.reduceMul, reduceIte, reduceCtorEq, Nat.reduceAdd, Nat.reduceEqDiff, Nat.reduceLT, Nat.reduceLeDiff, Pool.sv, rngs, I]); all_goals simp) (by (simp -dsimp only [↓RP, RQ0, RQ1, RQ2, RQ3, implies_true, forall_const, Nat.reduceMul, reduceIte, reduceCtorEq, Nat.reduceAdd, Nat.reduceEqDiff, Nat.reduceLT, Nat.reduceLeDiff, I, Go.Po.rg])) ?_
  (repeat' (first | with_reducible refine splitVC_d (fun _ => ?_) (fun _ => ?_) | ((with_reducible refine And.intro ?_ ?_); focus (first | trivial | (simp only [InK]; omega) | omega | (simp only [InK, ne_eq, and_true, true_and]; omega))) | simp -dsimp only [↓RP, RQ0, RQ1, RQ2, RQ3, implies_true, forall_const, Nat.reduceMul, reduceIte, reduceCtorEq, Nat.reduceAdd, Nat.reduceEqDiff, Nat.reduceLT, Nat.reduceLeDiff, ty2, ty3, ty24, ty28, ty35, pl35, ty84, I, Go.Po.rg, Go.Proofs.Try.results28]))
  all_goals first | (exfalso; omega) | skip
theorem wst_bound (p : Pool) (h : p.Fine) (r : Nat) (hr : r < p.n) (d : Int) (h3 : 0 ≤ d) (h4 : d ≤ 100000) : -100000000 ≤ p.wst r d ∧ p.wst r d ≤ 100000000 := by
  have hb := t_bounds p h r (p.iW r d) hr (iW_lt p r d)
  have hL := LH p h
  have g5 := p.net_bound h (units := p.tAll (p.iW r d)) (by omega) (by omega)
  have g6 : d * p.tMost r (p.iW r d) ≤ d * 200 := Int.mul_le_mul_of_nonneg_left (by omega) h3
  have g7 : 0 ≤ d * p.tMost r (p.iW r d) := Int.mul_nonneg h3 (by omega)
  unfold Pool.wst Pool.wW Pool.lf
  omega
theorem c28o (p : Pool) (hn : p.n ≤ 1000000) (r : Nat) (d : Int) (h : p.asked r d = 0) : Contract Go.Proofs.Try.prog 28 [p.sv, I r, I d] (.tup [I (max 0 (-p.wst r d)), I 0]) := by
  obtain ⟨hf, hr0, hr1, hd0, hd1⟩ := asked_ok h
  have hb := wst_bound p hf r (by omega) d hd0 hd1
  refine contract_of Go.Proofs.Try.func28 rfl (by kernel_rfl) follows (by kernel_rfl) _ _ (by rw [Go.Proofs.Try.ntmps28]; simp) (by simp [OldL, p.old]; simp [Old, I]) ?_
  unfold I
  conv => arg 4; unfold Pool.sv rngs I
  (repeat' (first | with_reducible refine splitVC_d (fun _ => ?_) (fun _ => ?_) | ((with_reducible refine And.intro ?_ ?_); focus (first | trivial | (simp only [InK]; omega) | omega | (simp only [InK, ne_eq, and_true, true_and]; omega))) | simp -dsimp only [↓RP, RQ0, RQ1, RQ2, RQ3, implies_true, forall_const, Nat.reduceMul, reduceIte, reduceCtorEq, Nat.reduceAdd, Nat.reduceEqDiff, Nat.reduceLT, Nat.reduceLeDiff, ty2, ty3, ty24, ty28, ty35, pl35, ty84, Go.Proofs.Try.results28]))
  refine callVC (c26o p hn r d h) (by (simp -dsimp only [↓RP, RQ0, RQ1, RQ2, RQ3, implies_true, forall_const, Nat.reduceMul, reduceIte, reduceCtorEq, Nat.reduceAdd, Nat.reduceEqDiff, Nat.reduceLT, Nat.reduceLeDiff, Pool.sv, rngs, I]); all_goals simp) (by (simp -dsimp only [↓RP, RQ0, RQ1, RQ2, RQ3, implies_true, forall_const, Nat.reduceMul, reduceIte, reduceCtorEq, Nat.reduceAdd, Nat.reduceEqDiff, Nat.reduceLT, Nat.reduceLeDiff, I, Go.Po.rg])) ?_
  (repeat' (first | with_reducible refine splitVC_d (fun _ => ?_) (fun _ => ?_) | ((with_reducible refine And.intro ?_ ?_); focus (first | trivial | (simp only [InK]; omega) | omega | (simp only [InK, ne_eq, and_true, true_and]; omega))) | simp -dsimp only [↓RP, RQ0, RQ1, RQ2, RQ3, implies_true, forall_const, Nat.reduceMul, reduceIte, reduceCtorEq, Nat.reduceAdd, Nat.reduceEqDiff, Nat.reduceLT, Nat.reduceLeDiff, ty2, ty3, ty24, ty28, ty35, pl35, ty84, I, Go.Po.rg, Go.Proofs.Try.results28]))
  · refine I_eq ?_
    omega
  · rename_i hx; exact absurd trivial hx
end Go.Po
end
section
set_option linter.unusedSimpArgs false
set_option linter.unusedVariables false
set_option maxRecDepth 100000
set_option maxHeartbeats 8000000
namespace Go.Po
open Go.Sx
theorem c32e (p : Pool) (hn : p.n ≤ 1000000) (r : Int) (h : p.asked r 0 ≠ 0) : Contract Go.Proofs.Try.prog 32 [p.sv, I r] (.tup [I 0, I (p.asked r 0)]) := by
  refine contract_of Go.Proofs.Try.func32 rfl (by kernel_rfl) follows (by kernel_rfl) _ _ (by rw [Go.Proofs.Try.ntmps32]; simp) (by simp [OldL, p.old]; simp [Old, I]) ?_
  unfold I
  conv => arg 4; unfold Pool.sv rngs I
  (repeat' (first | with_reducible refine splitVC_d (fun _ => ?_) (fun _ => ?_) | ((with_reducible refine And.intro ?_ ?_); focus (first | trivial | (simp only [InK]; omega) | omega | (simp only [InK, ne_eq, and_true, true_and]; omega))) | simp -dsimp only [↓RP, RQ0, RQ1, RQ2, RQ3, implies_true, forall_const, Nat.reduceMul, reduceIte, reduceCtorEq, Nat.reduceAdd, Nat.reduceEqDiff, Nat.reduceLT, Nat.reduceLeDiff, ty2, ty3, ty24, ty28, ty84, Go.Proofs.Try.results32]))
  refine callVC (c64e p hn r 0 h) (by (simp -dsimp only [↓RP, RQ0, RQ1, RQ2, RQ3, implies_true, forall_const, Nat.reduceMul, reduceIte, reduceCtorEq, Nat.reduceAdd, Nat.reduceEqDiff, Nat.reduceLT, Nat.reduceLeDiff, Pool.sv, rngs, I]); all_goals simp) (by (simp -dsimp only [↓RP, RQ0, RQ1, RQ2, RQ3, implies_true, forall_const, Nat.reduceMul, reduceIte, reduceCtorEq, Nat.reduceAdd, Nat.reduceEqDiff, Nat.reduceLT, Nat.reduceLeDiff, I])) ?_
  (repeat' (first | with_reducible refine splitVC_d (fun _ => ?_) (fun _ => ?_) | ((with_reducible refine And.intro ?_ ?_); focus (first | trivial | (simp only [InK]; omega) | omega | (simp only [InK, ne_eq, and_true, true_and]; omega))) | simp -dsimp only [↓RP, RQ0, RQ1, RQ2, RQ3, implies_true, forall_const, Nat.reduceMul, reduceIte, reduceCtorEq, Nat.reduceAdd, Nat.reduceEqDiff, Nat.reduceLT, Nat.reduceLeDiff, ty2, ty3, ty24, ty28, ty84, I, Go.Proofs.Try.results32]))
  all_goals first | (exfalso; omega) | skip
theorem c32p (p : Pool) (hn : p.n ≤ 1000000) (r : Nat) (h : p.asked r 0 = 0) (hw : p.wst r 0 < 0) : Contract Go.Proofs.Try.prog 32 [p.sv, I r] (.tup [I 0, I 19]) := by
  obtain ⟨hf, hr0, hr1, hd0, hd1⟩ := asked_ok h
  have hr : r < p.n := by omega
  refine contract_of Go.Proofs.Try.func32 rfl (by kernel_rfl) follows (by kernel_rfl) _ _ (by rw [Go.Proofs.Try.ntmps32]; simp) (by simp [OldL, p.old]; simp [Old, I]) ?_
  unfold I
  conv => arg 4; unfold Pool.sv rngs I
  (repeat' (first | with_reducible refine splitVC_d (fun _ => ?_) (fun _ => ?_) | ((with_reducible refine And.intro ?_ ?_); focus (first | trivial | (simp only [InK]; omega) | omega | (simp only [InK, ne_eq, and_true, true_and]; omega))) | simp -dsimp only [↓RP, RQ0, RQ1, RQ2, RQ3, implies_true, forall_const, Nat.reduceMul, reduceIte, reduceCtorEq, Nat.reduceAdd, Nat.reduceEqDiff, Nat.reduceLT, Nat.reduceLeDiff, ty2, ty3, ty24, ty28, ty84, Go.Proofs.Try.results32]))
  refine callN_old (c64o p hn r 0 h hf) (by (simp -dsimp only [↓RP, RQ0, RQ1, RQ2, RQ3, implies_true, forall_const, Nat.reduceMul, reduceIte, reduceCtorEq, Nat.reduceAdd, Nat.reduceEqDiff, Nat.reduceLT, Nat.reduceLeDiff, Pool.sv, rngs, I]); all_goals simp) (by simp [ClO, ClOL, I]) (by simp [ClB, ClL, Cl, dk, rngs, I, Pool.netsV, gN]) ?_
  (repeat' (first | with_reducible refine splitVC_d (fun _ => ?_) (fun _ => ?_) | ((with_reducible refine And.intro ?_ ?_); focus (first | trivial | (simp only [InK]; omega) | omega | (simp only [InK, ne_eq, and_true, true_and]; omega))) | simp -dsimp only [↓RP, RQ0, RQ1, RQ2, RQ3, implies_true, forall_const, Nat.reduceMul, reduceIte, reduceCtorEq, Nat.reduceAdd, Nat.reduceEqDiff, Nat.reduceLT, Nat.reduceLeDiff, ty2, ty3, ty24, ty28, ty84, I, Go.Proofs.Try.results32]))
  rotate_left
  · exfalso; rename_i hx; exact hx trivial
  refine callVC (c70 p hf r hr 0 (by omega) (by omega)) (by simp only [SubL]; exact ⟨D_fits p r (by rfl), by (simp -dsimp only [↓RP, RQ0, RQ1, RQ2, RQ3, implies_true, forall_const, Nat.reduceMul, reduceIte, reduceCtorEq, Nat.reduceAdd, Nat.reduceEqDiff, Nat.reduceLT, Nat.reduceLeDiff, I])⟩) (by (simp -dsimp only [↓RP, RQ0, RQ1, RQ2, RQ3, implies_true, forall_const, Nat.reduceMul, reduceIte, reduceCtorEq, Nat.reduceAdd, Nat.reduceEqDiff, Nat.reduceLT, Nat.reduceLeDiff, I])) ?_
  (repeat' (first | with_reducible refine splitVC_d (fun _ => ?_) (fun _ => ?_) | ((with_reducible refine And.intro ?_ ?_); focus (first | trivial | (simp only [InK]; omega) | omega | (simp only [InK, ne_eq, and_true, true_and]; omega))) | simp -dsimp only [↓RP, RQ0, RQ1, RQ2, RQ3, implies_true, forall_const, Nat.reduceMul, reduceIte, reduceCtorEq, Nat.reduceAdd, Nat.reduceEqDiff, Nat.reduceLT, Nat.reduceLeDiff, ty2, ty3, ty24, ty28, ty84, I, Go.Proofs.Try.results32]))
  all_goals first | (exfalso; omega) | skip
theorem c32o (p : Pool) (hn : p.n ≤ 1000000) (r : Nat) (h : p.asked r 0 = 0) (hw : 0 ≤ p.wst r 0) (g : Int) (hg : p.G r g) : Contract Go.Proofs.Try.prog 32 [p.sv, I r] (.tup [I (g * p.step), I 0]) := by
  obtain ⟨hf, hr0, hr1, hd0, hd1⟩ := asked_ok h
  have hr : r < p.n := by omega
  refine contract_of Go.Proofs.Try.func32 rfl (by kernel_rfl) follows (by kernel_rfl) _ _ (by rw [Go.Proofs.Try.ntmps32]; simp) (by simp [OldL, p.old]; simp [Old, I]) ?_
  unfold I
  conv => arg 4; unfold Pool.sv rngs I
  (repeat' (first | with_reducible refine splitVC_d (fun _ => ?_) (fun _ => ?_) | ((with_reducible refine And.intro ?_ ?_); focus (first | trivial | (simp only [InK]; omega) | omega | (simp only [InK, ne_eq, and_true, true_and]; omega))) | simp -dsimp only [↓RP, RQ0, RQ1, RQ2, RQ3, implies_true, forall_const, Nat.reduceMul, reduceIte, reduceCtorEq, Nat.reduceAdd, Nat.reduceEqDiff, Nat.reduceLT, Nat.reduceLeDiff, ty2, ty3, ty24, ty28, ty84, Go.Proofs.Try.results32]))
  refine callN_old (c64o p hn r 0 h hf) (by (simp -dsimp only [↓RP, RQ0, RQ1, RQ2, RQ3, implies_true, forall_const, Nat.reduceMul, reduceIte, reduceCtorEq, Nat.reduceAdd, Nat.reduceEqDiff, Nat.reduceLT, Nat.reduceLeDiff, Pool.sv, rngs, I]); all_goals simp) (by simp [ClO, ClOL, I]) (by simp [ClB, ClL, Cl, dk, rngs, I, Pool.netsV, gN]) ?_
  (repeat' (first | with_reducible refine splitVC_d (fun _ => ?_) (fun _ => ?_) | ((with_reducible refine And.intro ?_ ?_); focus (first | trivial | (simp only [InK]; omega) | omega | (simp only [InK, ne_eq, and_true, true_and]; omega))) | simp -dsimp only [↓RP, RQ0, RQ1, RQ2, RQ3, implies_true, forall_const, Nat.reduceMul, reduceIte, reduceCtorEq, Nat.reduceAdd, Nat.reduceEqDiff, Nat.reduceLT, Nat.reduceLeDiff, ty2, ty3, ty24, ty28, ty84, I, Go.Proofs.Try.results32]))
  rotate_left
  · exfalso; rename_i hx; exact hx trivial
  refine callVC (c70 p hf r hr 0 (by omega) (by omega)) (by simp only [SubL]; exact ⟨D_fits p r (by rfl), by (simp -dsimp only [↓RP, RQ0, RQ1, RQ2, RQ3, implies_true, forall_const, Nat.reduceMul, reduceIte, reduceCtorEq, Nat.reduceAdd, Nat.reduceEqDiff, Nat.reduceLT, Nat.reduceLeDiff, I])⟩) (by (simp -dsimp only [↓RP, RQ0, RQ1, RQ2, RQ3, implies_true, forall_const, Nat.reduceMul, reduceIte, reduceCtorEq, Nat.reduceAdd, Nat.reduceEqDiff, Nat.reduceLT, Nat.reduceLeDiff, I])) ?_
  (repeat' (first | with_reducible refine splitVC_d (fun _ => ?_) (fun _ => ?_) | ((with_reducible refine And.intro ?_ ?_); focus (first | trivial | (simp only [InK]; omega) | omega | (simp only [InK, ne_eq, and_true, true_and]; omega))) | simp -dsimp only [↓RP, RQ0, RQ1, RQ2, RQ3, implies_true, forall_const, Nat.reduceMul, reduceIte, reduceCtorEq, Nat.reduceAdd, Nat.reduceEqDiff, Nat.reduceLT, Nat.reduceLeDiff, ty2, ty3, ty24, ty28, ty84, I, Go.Proofs.Try.results32]))
  all_goals first | (exfalso; omega) | skip
  refine callVC (c71 p hf r hr g hg) (by simp only [SubL]; exact ⟨D_fits p r (by rfl), trivial⟩) (by (simp -dsimp only [↓RP, RQ0, RQ1, RQ2, RQ3, implies_true, forall_const, Nat.reduceMul, reduceIte, reduceCtorEq, Nat.reduceAdd, Nat.reduceEqDiff, Nat.reduceLT, Nat.reduceLeDiff, I])) ?_
  (repeat' (first | with_reducible refine splitVC_d (fun _ => ?_) (fun _ => ?_) | ((with_reducible refine And.intro ?_ ?_); focus (first | trivial | (simp only [InK]; omega) | omega | (simp only [InK, ne_eq, and_true, true_and]; omega))) | simp -dsimp only [↓RP, RQ0, RQ1, RQ2, RQ3, implies_true, forall_const, Nat.reduceMul, reduceIte, reduceCtorEq, Nat.reduceAdd, Nat.reduceEqDiff, Nat.reduceLT, Nat.reduceLeDiff, ty2, ty3, ty24, ty28, ty84, I, Go.Proofs.Try.results32]))
end Go.Po
end
section
set_option linter.unusedSimpArgs false
set_option linter.unusedVariables false
set_option maxRecDepth 100000
set_option maxHeartbeats 4000000
namespace Go.Po
open Go.Sx
theorem c35e (p : Pool) (h : p.err ≠ 0) : Contract Go.Proofs.Try.prog 35 [p.sv] (.tup [.val (.slice none 0 0), I p.err]) := by
  refine contract_of Go.Proofs.Try.func35 rfl (by kernel_rfl) follows (by kernel_rfl) _ _ (by rw [Go.Proofs.Try.ntmps35]; simp) (by simp [OldL, p.old]) ?_
  unfold I
  conv => arg 4; unfold Pool.sv rngs I
  (repeat' (first | with_reducible refine splitVC_d (fun _ => ?_) (fun _ => ?_) | ((with_reducible refine And.intro ?_ ?_); focus (first | trivial | (simp only [InK]; omega) | omega | (simp only [InK, ne_eq, and_true, true_and]; omega))) | simp -dsimp only [↓RP, RQ0, RQ1, RQ2, RQ3, implies_true, forall_const, Nat.reduceMul, reduceIte, reduceCtorEq, Nat.reduceAdd, Nat.reduceEqDiff, Nat.reduceLT, Nat.reduceLeDiff, ty2, ty3, ty22, ty24, ty25, ty28, Go.Proofs.Try.results35]))
  refine callVC (c25 p) (by (simp -dsimp only [↓RP, RQ0, RQ1, RQ2, RQ3, implies_true, forall_const, Nat.reduceMul, reduceIte, reduceCtorEq, Nat.reduceAdd, Nat.reduceEqDiff, Nat.reduceLT, Nat.reduceLeDiff, Pool.sv, rngs, I]); simp) (by (simp -dsimp only [↓RP, RQ0, RQ1, RQ2, RQ3, implies_true, forall_const, Nat.reduceMul, reduceIte, reduceCtorEq, Nat.reduceAdd, Nat.reduceEqDiff, Nat.reduceLT, Nat.reduceLeDiff, I])) ?_
  (repeat' (first | with_reducible refine splitVC_d (fun _ => ?_) (fun _ => ?_) | ((with_reducible refine And.intro ?_ ?_); focus (first | trivial | (simp only [InK]; omega) | omega | (simp only [InK, ne_eq, and_true, true_and]; omega))) | simp -dsimp only [↓RP, RQ0, RQ1, RQ2, RQ3, implies_true, forall_const, Nat.reduceMul, reduceIte, reduceCtorEq, Nat.reduceAdd, Nat.reduceEqDiff, Nat.reduceLT, Nat.reduceLeDiff, I, ty2, ty3, ty22, ty24, ty25, ty28, Go.Proofs.Try.results35]))
  · exfalso; exact h (by assumption)
  · refine callVC (c25 p) (by (simp -dsimp only [↓RP, RQ0, RQ1, RQ2, RQ3, implies_true, forall_const, Nat.reduceMul, reduceIte, reduceCtorEq, Nat.reduceAdd, Nat.reduceEqDiff, Nat.reduceLT, Nat.reduceLeDiff, Pool.sv, rngs, I]); simp) (by (simp -dsimp only [↓RP, RQ0, RQ1, RQ2, RQ3, implies_true, forall_const, Nat.reduceMul, reduceIte, reduceCtorEq, Nat.reduceAdd, Nat.reduceEqDiff, Nat.reduceLT, Nat.reduceLeDiff, I])) ?_
    (repeat' (first | with_reducible refine splitVC_d (fun _ => ?_) (fun _ => ?_) | ((with_reducible refine And.intro ?_ ?_); focus (first | trivial | (simp only [InK]; omega) | omega | (simp only [InK, ne_eq, and_true, true_and]; omega))) | simp -dsimp only [↓RP, RQ0, RQ1, RQ2, RQ3, implies_true, forall_const, Nat.reduceMul, reduceIte, reduceCtorEq, Nat.reduceAdd, Nat.reduceEqDiff, Nat.reduceLT, Nat.reduceLeDiff, I, ty2, ty3, ty22, ty24, ty25, ty28, Go.Proofs.Try.results35]))
abbrev pB (p : Pool) : Blk := .cells 24 [.arr false false p.n 2 (fun i j => .val (.int .i64 (if j = 0 then p.lo i else p.hi i))), .val (.int .i64 p.per), .val (.int .i64 p.pence), .val (.int .i64 p.keep), .val (.int .i64 p.step)]
theorem by2 : bytesOf Go.Proofs.Try.prog 2 = 8 := by kernel_rfl
theorem lit1 (a : SV) (i j : Nat) (hi : i < 1) (hj : j < 1) : [a].getD (i + j) .top = a := by
  have : i + j = 0 := by omega
  rw [this]; rfl
theorem app1 (f : Nat → SV) (i a b : Nat) (ha : a < i + 1) (hb : b < 1) : (if a < i then f a else [f i].getD (a - i + b) .top) = f a := by
  split
  · rfl
  · have h1 : a - i + b = 0 := by omega
    have h2 : a = i := by omega
    subst h2
    rw [h1]; rfl
theorem app2 (f : Nat → SV) (i a : Nat) (ha : a < i + 1) (hb : i ≤ a) : [f i][a - i]?.getD .top = f a := by
  have h2 : a = i := by omega
  subst h2
  rw [Nat.sub_self]; rfl
theorem c35p (p : Pool) (h : p.err = 0) (k : Nat) (hk : k < p.n) (hlt : ∀ j : Nat, j < k → 0 ≤ p.div j) (hb : p.div k < 0) : Contract Go.Proofs.Try.prog 35 [p.sv] (.tup [.val (.slice none 0 0), I 19]) := by
  refine contract_of Go.Proofs.Try.func35 rfl (by kernel_rfl) follows (by kernel_rfl) _ _ (by rw [Go.Proofs.Try.ntmps35]; simp) (by simp [OldL, p.old]) ?_
  have hf := Pool.fine h
  have h8 := hf.n8
  unfold I
  conv => arg 4; unfold Pool.sv rngs I
  (repeat' (first | with_reducible refine splitVC_d (fun _ => ?_) (fun _ => ?_) | ((with_reducible refine And.intro ?_ ?_); focus (first | trivial | (simp only [InK]; omega) | omega | (simp only [InK, ne_eq, and_true, true_and]; omega))) | simp -dsimp only [↓RP, RQ0, RQ1, RQ2, RQ3, implies_true, forall_const, Nat.reduceMul, reduceIte, reduceCtorEq, Nat.reduceAdd, Nat.reduceEqDiff, Nat.reduceLT, Nat.reduceLeDiff, ty2, ty3, ty22, ty24, ty25, ty28, Go.Proofs.Try.results35]))
  refine callVC (c25 p) (by (simp -dsimp only [↓RP, RQ0, RQ1, RQ2, RQ3, implies_true, forall_const, Nat.reduceMul, reduceIte, reduceCtorEq, Nat.reduceAdd, Nat.reduceEqDiff, Nat.reduceLT, Nat.reduceLeDiff, Pool.sv, rngs, I]); simp) (by (simp -dsimp only [↓RP, RQ0, RQ1, RQ2, RQ3, implies_true, forall_const, Nat.reduceMul, reduceIte, reduceCtorEq, Nat.reduceAdd, Nat.reduceEqDiff, Nat.reduceLT, Nat.reduceLeDiff, I])) ?_
  rw [h]
  (repeat' (first | with_reducible refine splitVC_d (fun _ => ?_) (fun _ => ?_) | ((with_reducible refine And.intro ?_ ?_); focus (first | trivial | (simp only [InK]; omega) | omega | (simp only [InK, ne_eq, and_true, true_and]; omega))) | simp -dsimp only [↓RP, RQ0, RQ1, RQ2, RQ3, implies_true, forall_const, Nat.reduceMul, reduceIte, reduceCtorEq, Nat.reduceAdd, Nat.reduceEqDiff, Nat.reduceLT, Nat.reduceLeDiff, I, ty2, ty3, ty22, ty24, ty25, ty28, Go.Proofs.Try.results35]))
  rotate_left
  · exfalso; rename_i hx; exact hx trivial
  refine loop_vc (fun i => i ≤ k) (fun i => ⟨[(1, .ptr 0 0), (4, .vec 50 i 1), (5, .val (.int .i64 i))], [(50, .rows 2 1 i (fun j _ => .val (.int .i64 (p.div j)))), (0, pB p)], 51⟩) (fun i => p.n - i) 0 (Nat.zero_le _) (weak [(50, none)] [] ?_ ?_ ?_) fun i hi => ?_
  · (simp -dsimp only [↓RP, RQ0, RQ1, RQ2, RQ3, implies_true, forall_const, Nat.reduceMul, reduceIte, reduceCtorEq, Nat.reduceAdd, Nat.reduceEqDiff, Nat.reduceLT, Nat.reduceLeDiff]); all_goals simp
  · (simp -dsimp only [↓RP, RQ0, RQ1, RQ2, RQ3, implies_true, forall_const, Nat.reduceMul, reduceIte, reduceCtorEq, Nat.reduceAdd, Nat.reduceEqDiff, Nat.reduceLT, Nat.reduceLeDiff]); all_goals simp
  · (simp -dsimp only [↓RP, RQ0, RQ1, RQ2, RQ3, implies_true, forall_const, Nat.reduceMul, reduceIte, reduceCtorEq, Nat.reduceAdd, Nat.reduceEqDiff, Nat.reduceLT, Nat.reduceLeDiff]); all_goals simp
  (repeat' (first | with_reducible refine splitVC_d (fun _ => ?_) (fun _ => ?_) | ((with_reducible refine And.intro ?_ ?_); focus (first | trivial | (simp only [InK]; omega) | omega | (simp only [InK, ne_eq, and_true, true_and]; omega))) | simp -dsimp only [↓RP, RQ0, RQ1, RQ2, RQ3, implies_true, forall_const, Nat.reduceMul, reduceIte, reduceCtorEq, Nat.reduceAdd, Nat.reduceEqDiff, Nat.reduceLT, Nat.reduceLeDiff, I, ty2, ty3, ty22, ty24, ty25, ty28, Go.Proofs.Try.results35]))
  refine callVC (c72 p hf i (by omega) (by omega)) (by (simp -dsimp only [↓RP, RQ0, RQ1, RQ2, RQ3, implies_true, forall_const, Nat.reduceMul, reduceIte, reduceCtorEq, Nat.reduceAdd, Nat.reduceEqDiff, Nat.reduceLT, Nat.reduceLeDiff, Pool.sv, rngs, I]); simp) (by (simp -dsimp only [↓RP, RQ0, RQ1, RQ2, RQ3, implies_true, forall_const, Nat.reduceMul, reduceIte, reduceCtorEq, Nat.reduceAdd, Nat.reduceEqDiff, Nat.reduceLT, Nat.reduceLeDiff, I])) ?_
  (repeat' (first | with_reducible refine splitVC_d (fun _ => ?_) (fun _ => ?_) | ((with_reducible refine And.intro ?_ ?_); focus (first | trivial | (simp only [InK]; omega) | omega | (simp only [InK, ne_eq, and_true, true_and]; omega))) | simp -dsimp only [↓RP, RQ0, RQ1, RQ2, RQ3, implies_true, forall_const, Nat.reduceMul, reduceIte, reduceCtorEq, Nat.reduceAdd, Nat.reduceEqDiff, Nat.reduceLT, Nat.reduceLeDiff, I, ty2, ty3, ty22, ty24, ty25, ty28, Go.Proofs.Try.results35]))
  refine callVC (c72 p hf i (by omega) (by omega)) (by (simp -dsimp only [↓RP, RQ0, RQ1, RQ2, RQ3, implies_true, forall_const, Nat.reduceMul, reduceIte, reduceCtorEq, Nat.reduceAdd, Nat.reduceEqDiff, Nat.reduceLT, Nat.reduceLeDiff, Pool.sv, rngs, I]); simp) (by (simp -dsimp only [↓RP, RQ0, RQ1, RQ2, RQ3, implies_true, forall_const, Nat.reduceMul, reduceIte, reduceCtorEq, Nat.reduceAdd, Nat.reduceEqDiff, Nat.reduceLT, Nat.reduceLeDiff, I])) ?_
  (repeat' (first | with_reducible refine splitVC_d (fun _ => ?_) (fun _ => ?_) | ((with_reducible refine And.intro ?_ ?_); focus (first | trivial | (simp only [InK]; omega) | omega | (simp only [InK, ne_eq, and_true, true_and]; omega))) | simp -dsimp only [↓RP, RQ0, RQ1, RQ2, RQ3, implies_true, forall_const, Nat.reduceMul, reduceIte, reduceCtorEq, Nat.reduceAdd, Nat.reduceEqDiff, Nat.reduceLT, Nat.reduceLeDiff, I, ty2, ty3, ty22, ty24, ty25, ty28, by2, Go.Proofs.Try.results35]))
  · refine ⟨⟨by simp, by omega, fun a b ha hb => by rw [lit1 _ a b ha hb]; rfl, by omega⟩, by (first | trivial | (simp only [InK]; omega) | omega | (simp only [InK, ne_eq, and_true, true_and]; omega)), i + 1, ?_, by omega, weak [(50, some 65)] [] ?_ ?_ ?_⟩
    · have : i ≠ k := fun e => by subst e; omega
      omega
    · (simp -dsimp only [↓RP, RQ0, RQ1, RQ2, RQ3, implies_true, forall_const, Nat.reduceMul, reduceIte, reduceCtorEq, Nat.reduceAdd, Nat.reduceEqDiff, Nat.reduceLT, Nat.reduceLeDiff]); all_goals simp
    · (simp -dsimp only [↓RP, RQ0, RQ1, RQ2, RQ3, implies_true, forall_const, Nat.reduceMul, reduceIte, reduceCtorEq, Nat.reduceAdd, Nat.reduceEqDiff, Nat.reduceLT, Nat.reduceLeDiff]); all_goals simp
      exact fun a h1 h2 => app2 (fun j => .val (.int .i64 (p.div j))) i a h1 h2
    · (simp -dsimp only [↓RP, RQ0, RQ1, RQ2, RQ3, implies_true, forall_const, Nat.reduceMul, reduceIte, reduceCtorEq, Nat.reduceAdd, Nat.reduceEqDiff, Nat.reduceLT, Nat.reduceLeDiff]); all_goals simp
  · exfalso; omega
theorem c35o (p : Pool) (h : p.err = 0) (hlt : ∀ j : Nat, j < p.n → 0 ≤ p.div j) : ContractN Go.Proofs.Try.prog 35 [p.sv] (.rows 2 1 p.n (fun j _ => I (p.div j))) (.tup [.vec 0 p.n 1, I 0]) := by
  refine contractN_of Go.Proofs.Try.func35 rfl (by kernel_rfl) follows (by kernel_rfl) _ _ _ (by rw [Go.Proofs.Try.ntmps35]; simp) (by simp [OldL, p.old]) ?_
  have hf := Pool.fine h
  have h8 := hf.n8
  unfold I
  conv => arg 4; unfold Pool.sv rngs I
  (repeat' (first | with_reducible refine splitVC_d (fun _ => ?_) (fun _ => ?_) | ((with_reducible refine And.intro ?_ ?_); focus (first | trivial | (simp only [InK]; omega) | omega | (simp only [InK, ne_eq, and_true, true_and]; omega))) | simp -dsimp only [↓RP, RQ0, RQ1, RQ2, RQ3, implies_true, forall_const, Nat.reduceMul, reduceIte, reduceCtorEq, Nat.reduceAdd, Nat.reduceEqDiff, Nat.reduceLT, Nat.reduceLeDiff, ty2, ty3, ty22, ty24, ty25, ty28, Go.Proofs.Try.results35]))
  refine callVC (c25 p) (by (simp -dsimp only [↓RP, RQ0, RQ1, RQ2, RQ3, implies_true, forall_const, Nat.reduceMul, reduceIte, reduceCtorEq, Nat.reduceAdd, Nat.reduceEqDiff, Nat.reduceLT, Nat.reduceLeDiff, Pool.sv, rngs, I]); simp) (by (simp -dsimp only [↓RP, RQ0, RQ1, RQ2, RQ3, implies_true, forall_const, Nat.reduceMul, reduceIte, reduceCtorEq, Nat.reduceAdd, Nat.reduceEqDiff, Nat.reduceLT, Nat.reduceLeDiff, I])) ?_
  rw [h]
  (repeat' (first | with_reducible refine splitVC_d (fun _ => ?_) (fun _ => ?_) | ((with_reducible refine And.intro ?_ ?_); focus (first | trivial | (simp only [InK]; omega) | omega | (simp only [InK, ne_eq, and_true, true_and]; omega))) | simp -dsimp only [↓RP, RQ0, RQ1, RQ2, RQ3, implies_true, forall_const, Nat.reduceMul, reduceIte, reduceCtorEq, Nat.reduceAdd, Nat.reduceEqDiff, Nat.reduceLT, Nat.reduceLeDiff, I, ty2, ty3, ty22, ty24, ty25, ty28, Go.Proofs.Try.results35]))
  rotate_left
  · exfalso; rename_i hx; exact hx trivial
  refine loop_vc (fun i => i ≤ p.n) (fun i => ⟨[(1, .ptr 0 0), (4, .vec 50 i 1), (5, .val (.int .i64 i))], [(50, .rows 2 1 i (fun j _ => .val (.int .i64 (p.div j)))), (0, pB p)], 51⟩) (fun i => p.n - i) 0 (Nat.zero_le _) (weak [(50, none)] [] ?_ ?_ ?_) fun i hi => ?_
  · (simp -dsimp only [↓RP, RQ0, RQ1, RQ2, RQ3, implies_true, forall_const, Nat.reduceMul, reduceIte, reduceCtorEq, Nat.reduceAdd, Nat.reduceEqDiff, Nat.reduceLT, Nat.reduceLeDiff]); all_goals simp
  · (simp -dsimp only [↓RP, RQ0, RQ1, RQ2, RQ3, implies_true, forall_const, Nat.reduceMul, reduceIte, reduceCtorEq, Nat.reduceAdd, Nat.reduceEqDiff, Nat.reduceLT, Nat.reduceLeDiff]); all_goals simp
  · (simp -dsimp only [↓RP, RQ0, RQ1, RQ2, RQ3, implies_true, forall_const, Nat.reduceMul, reduceIte, reduceCtorEq, Nat.reduceAdd, Nat.reduceEqDiff, Nat.reduceLT, Nat.reduceLeDiff]); all_goals simp
  (repeat' (first | with_reducible refine splitVC_d (fun _ => ?_) (fun _ => ?_) | ((with_reducible refine And.intro ?_ ?_); focus (first | trivial | (simp only [InK]; omega) | omega | (simp only [InK, ne_eq, and_true, true_and]; omega))) | simp -dsimp only [↓RP, RQ0, RQ1, RQ2, RQ3, implies_true, forall_const, Nat.reduceMul, reduceIte, reduceCtorEq, Nat.reduceAdd, Nat.reduceEqDiff, Nat.reduceLT, Nat.reduceLeDiff, I, ty2, ty3, ty22, ty24, ty25, ty28, Go.Proofs.Try.results35]))
  · refine callVC (c72 p hf i (by omega) (by omega)) (by (simp -dsimp only [↓RP, RQ0, RQ1, RQ2, RQ3, implies_true, forall_const, Nat.reduceMul, reduceIte, reduceCtorEq, Nat.reduceAdd, Nat.reduceEqDiff, Nat.reduceLT, Nat.reduceLeDiff, Pool.sv, rngs, I]); simp) (by (simp -dsimp only [↓RP, RQ0, RQ1, RQ2, RQ3, implies_true, forall_const, Nat.reduceMul, reduceIte, reduceCtorEq, Nat.reduceAdd, Nat.reduceEqDiff, Nat.reduceLT, Nat.reduceLeDiff, I])) ?_
    (repeat' (first | with_reducible refine splitVC_d (fun _ => ?_) (fun _ => ?_) | ((with_reducible refine And.intro ?_ ?_); focus (first | trivial | (simp only [InK]; omega) | omega | (simp only [InK, ne_eq, and_true, true_and]; omega))) | simp -dsimp only [↓RP, RQ0, RQ1, RQ2, RQ3, implies_true, forall_const, Nat.reduceMul, reduceIte, reduceCtorEq, Nat.reduceAdd, Nat.reduceEqDiff, Nat.reduceLT, Nat.reduceLeDiff, I, ty2, ty3, ty22, ty24, ty25, ty28, Go.Proofs.Try.results35]))
    · rename_i hneg
      exfalso; have := hlt i (by omega); omega
    refine callVC (c72 p hf i (by omega) (by omega)) (by (simp -dsimp only [↓RP, RQ0, RQ1, RQ2, RQ3, implies_true, forall_const, Nat.reduceMul, reduceIte, reduceCtorEq, Nat.reduceAdd, Nat.reduceEqDiff, Nat.reduceLT, Nat.reduceLeDiff, Pool.sv, rngs, I]); simp) (by (simp -dsimp only [↓RP, RQ0, RQ1, RQ2, RQ3, implies_true, forall_const, Nat.reduceMul, reduceIte, reduceCtorEq, Nat.reduceAdd, Nat.reduceEqDiff, Nat.reduceLT, Nat.reduceLeDiff, I])) ?_
    (repeat' (first | with_reducible refine splitVC_d (fun _ => ?_) (fun _ => ?_) | ((with_reducible refine And.intro ?_ ?_); focus (first | trivial | (simp only [InK]; omega) | omega | (simp only [InK, ne_eq, and_true, true_and]; omega))) | simp -dsimp only [↓RP, RQ0, RQ1, RQ2, RQ3, implies_true, forall_const, Nat.reduceMul, reduceIte, reduceCtorEq, Nat.reduceAdd, Nat.reduceEqDiff, Nat.reduceLT, Nat.reduceLeDiff, I, ty2, ty3, ty22, ty24, ty25, ty28, by2, Go.Proofs.Try.results35]))
    refine ⟨⟨by simp, by omega, fun a b ha hb => by rw [lit1 _ a b ha hb]; rfl, by omega⟩, by (first | trivial | (simp only [InK]; omega) | omega | (simp only [InK, ne_eq, and_true, true_and]; omega)), i + 1, by omega, by omega, weak [(50, some 65)] [] ?_ ?_ ?_⟩
    · (simp -dsimp only [↓RP, RQ0, RQ1, RQ2, RQ3, implies_true, forall_const, Nat.reduceMul, reduceIte, reduceCtorEq, Nat.reduceAdd, Nat.reduceEqDiff, Nat.reduceLT, Nat.reduceLeDiff]); all_goals simp
    · (simp -dsimp only [↓RP, RQ0, RQ1, RQ2, RQ3, implies_true, forall_const, Nat.reduceMul, reduceIte, reduceCtorEq, Nat.reduceAdd, Nat.reduceEqDiff, Nat.reduceLT, Nat.reduceLeDiff]); all_goals simp
      exact fun a h1 h2 => app2 (fun j => .val (.int .i64 (p.div j))) i a h1 h2
    · (simp -dsimp only [↓RP, RQ0, RQ1, RQ2, RQ3, implies_true, forall_const, Nat.reduceMul, reduceIte, reduceCtorEq, Nat.reduceAdd, Nat.reduceEqDiff, Nat.reduceLT, Nat.reduceLeDiff]); all_goals simp
  · have e : i = p.n := by omega
    subst e
    refine ⟨50, _, rfl, ?_, ?_⟩
    · (simp -dsimp only [↓RP, RQ0, RQ1, RQ2, RQ3, implies_true, forall_const, Nat.reduceMul, reduceIte, reduceCtorEq, Nat.reduceAdd, Nat.reduceEqDiff, Nat.reduceLT, Nat.reduceLeDiff]); all_goals simp
    · (simp -dsimp only [↓RP, RQ0, RQ1, RQ2, RQ3, implies_true, forall_const, Nat.reduceMul, reduceIte, reduceCtorEq, Nat.reduceAdd, Nat.reduceEqDiff, Nat.reduceLT, Nat.reduceLeDiff])
def Pool.same (p q : Pool) : Prop := p.per = q.per ∧ p.pence = q.pence ∧ p.keep = q.keep ∧ p.step = q.step ∧ p.n = q.n
instance (p q : Pool) : Decidable (p.same q) := by unfold Pool.same; infer_instance
theorem c75 (p q : Pool) : Contract Go.Proofs.Try.prog 75 [p.sv, q.sv] (B (decide (p.same q))) := by
  refine contract_of Go.Proofs.Try.func75 rfl (by kernel_rfl) follows (by kernel_rfl) _ _ (by rw [Go.Proofs.Try.ntmps75]; simp) (by simp [OldL, p.old, q.old]) ?_
  unfold B
  conv => arg 4; unfold Pool.sv rngs I
  (repeat' (first | with_reducible refine splitVC_d (fun _ => ?_) (fun _ => ?_) | ((with_reducible refine And.intro ?_ ?_); focus (first | trivial | (simp only [InK]; omega) | omega | (simp only [InK, ne_eq, and_true, true_and]; omega))) | simp -dsimp only [↓RP, RQ0, RQ1, RQ2, RQ3, implies_true, forall_const, Nat.reduceMul, reduceIte, reduceCtorEq, Nat.reduceAdd, Nat.reduceEqDiff, Nat.reduceLT, Nat.reduceLeDiff, ty2, ty3, ty4, ty22, ty24, Go.Proofs.Try.results75]))
  all_goals (refine B_eq ?_; rw [Bool.eq_iff_iff]; simp [Pool.same, *]; try omega)
def Pool.inside (p q : Pool) : Prop := ∀ i, i < p.n → q.lo i ≤ p.lo i ∧ p.hi i ≤ q.hi i
instance (p q : Pool) : Decidable (p.inside q) := by unfold Pool.inside; infer_instance
theorem c76 (p q : Pool) (hn : p.n ≤ q.n) (hm : p.n ≤ 1000000) : Contract Go.Proofs.Try.prog 76 [p.sv, q.sv] (B (decide (p.inside q))) := by
  refine contract_of Go.Proofs.Try.func76 rfl (by kernel_rfl) follows (by kernel_rfl) _ _ (by rw [Go.Proofs.Try.ntmps76]; simp) (by simp [OldL, p.old, q.old]) ?_
  unfold B
  conv => arg 4; unfold Pool.sv rngs I
  (repeat' (first | with_reducible refine splitVC_d (fun _ => ?_) (fun _ => ?_) | ((with_reducible refine And.intro ?_ ?_); focus (first | trivial | (simp only [InK]; omega) | omega | (simp only [InK, ne_eq, and_true, true_and]; omega))) | simp -dsimp only [↓RP, RQ0, RQ1, RQ2, RQ3, implies_true, forall_const, Nat.reduceMul, reduceIte, reduceCtorEq, Nat.reduceAdd, Nat.reduceEqDiff, Nat.reduceLT, Nat.reduceLeDiff, ty2, ty3, ty4, ty22, ty24, ty35, Go.Proofs.Try.results76]))
  refine loop_vc (fun i => i ≤ p.n ∧ ∀ j, j < i → q.lo j ≤ p.lo j ∧ p.hi j ≤ q.hi j) (fun i => ⟨[(2, .ptr 0 0), (3, .ptr 1 0), (5, .val (.int .i64 i))], [(1, pB q), (0, pB p)], 2⟩) (fun i => p.n - i) 0 ⟨Nat.zero_le _, fun j hj => by omega⟩ (weak [] [] ?_ ?_ ?_) fun i hi => ?_
  · (simp -dsimp only [↓RP, RQ0, RQ1, RQ2, RQ3, implies_true, forall_const, Nat.reduceMul, reduceIte, reduceCtorEq, Nat.reduceAdd, Nat.reduceEqDiff, Nat.reduceLT, Nat.reduceLeDiff]); all_goals simp
  · (simp -dsimp only [↓RP, RQ0, RQ1, RQ2, RQ3, implies_true, forall_const, Nat.reduceMul, reduceIte, reduceCtorEq, Nat.reduceAdd, Nat.reduceEqDiff, Nat.reduceLT, Nat.reduceLeDiff]); all_goals simp
  · (simp -dsimp only [↓RP, RQ0, RQ1, RQ2, RQ3, implies_true, forall_const, Nat.reduceMul, reduceIte, reduceCtorEq, Nat.reduceAdd, Nat.reduceEqDiff, Nat.reduceLT, Nat.reduceLeDiff]); all_goals simp
  (repeat' (first | with_reducible refine splitVC_d (fun _ => ?_) (fun _ => ?_) | ((with_reducible refine And.intro ?_ ?_); focus (first | trivial | (simp only [InK]; omega) | omega | (simp only [InK, ne_eq, and_true, true_and]; omega))) | simp -dsimp only [↓RP, RQ0, RQ1, RQ2, RQ3, implies_true, forall_const, Nat.reduceMul, reduceIte, reduceCtorEq, Nat.reduceAdd, Nat.reduceEqDiff, Nat.reduceLT, Nat.reduceLeDiff, I, ty2, ty3, ty4, ty22, ty24, ty35, Go.Proofs.Try.results76]))
  · refine B_eq ?_; symm; exact decide_eq_false fun h => by have := h i (by omega); omega
  · refine B_eq ?_; symm; exact decide_eq_false fun h => by have := h i (by omega); omega
  · refine ⟨i + 1, ⟨by omega, fun j hj => ?_⟩, by omega, weak [] [] ?_ ?_ ?_⟩
    · by_cases e : j = i
      · subst e; omega
      · exact hi.2 j (by omega)
    · (simp -dsimp only [↓RP, RQ0, RQ1, RQ2, RQ3, implies_true, forall_const, Nat.reduceMul, reduceIte, reduceCtorEq, Nat.reduceAdd, Nat.reduceEqDiff, Nat.reduceLT, Nat.reduceLeDiff]); all_goals simp
    · (simp -dsimp only [↓RP, RQ0, RQ1, RQ2, RQ3, implies_true, forall_const, Nat.reduceMul, reduceIte, reduceCtorEq, Nat.reduceAdd, Nat.reduceEqDiff, Nat.reduceLT, Nat.reduceLeDiff]); all_goals simp
    · (simp -dsimp only [↓RP, RQ0, RQ1, RQ2, RQ3, implies_true, forall_const, Nat.reduceMul, reduceIte, reduceCtorEq, Nat.reduceAdd, Nat.reduceEqDiff, Nat.reduceLT, Nat.reduceLeDiff]); all_goals simp
  · refine B_eq ?_; symm; exact decide_eq_true fun j hj => hi.2 j (by omega)
end Go.Po
end
section
set_option linter.unusedSimpArgs false
set_option linter.unusedVariables false
set_option maxRecDepth 100000
set_option maxHeartbeats 4000000
namespace Go.Po
open Go.Sx
theorem ty52 : tyOf Go.Proofs.Try.prog 52 = some ⟨false, 1, some [.slice none 0 0], .slice 24 5⟩ := by kernel_rfl
def pc (p : Pool) : Nat → SV
  | 0 => .arr false false p.n 2 (fun i j => .val (.int .i64 (if j = 0 then p.lo i else p.hi i)))
  | 1 => .val (.int .i64 p.per)
  | 2 => .val (.int .i64 p.pence)
  | 3 => .val (.int .i64 p.keep)
  | 4 => .val (.int .i64 p.step)
  | _ => .top
theorem pc0 (p : Pool) : pc p 0 = .arr false false p.n 2 (fun i j => .val (.int .i64 (if j = 0 then p.lo i else p.hi i))) := rfl
theorem pc1 (p : Pool) : pc p 1 = .val (.int .i64 p.per) := rfl
theorem pc2 (p : Pool) : pc p 2 = .val (.int .i64 p.pence) := rfl
theorem pc3 (p : Pool) : pc p 3 = .val (.int .i64 p.keep) := rfl
theorem pc4 (p : Pool) : pc p 4 = .val (.int .i64 p.step) := rfl
theorem pc_old (p : Pool) (j : Nat) : Old (pc p j) := by
  unfold pc
  split <;> simp [Old]
def pools (m : Nat) (P : Nat → Pool) : SV := .arr false false m 5 (fun i j => pc (P i) j)
theorem pools_old (m : Nat) (P : Nat → Pool) : Old (pools m P) := by simp only [pools, Old, true_and]; exact fun i j _ _ => pc_old _ _
theorem fstI_at (b : Nat → Bool) : ∀ (k i t : Nat), i ≤ t → t < i + k → (∀ j, i ≤ j → j < t → b j = false) → b t = true → fstI b i k = t
  | 0, i, t, h1, h2, _, _ => by omega
  | k + 1, i, t, h1, h2, h3, h4 => by
    simp only [fstI]
    by_cases e : i = t
    · subst e; rw [if_pos h4]
    · rw [if_neg (by rw [h3 i (by omega) (by omega)]; simp)]
      exact fstI_at b k (i + 1) t (by omega) (by omega) (fun j hj hj' => h3 j (by omega) hj') h4
theorem fstI_no (b : Nat → Bool) : ∀ (k i : Nat), (∀ j, i ≤ j → j < i + k → b j = false) → fstI b i k = -1
  | 0, i, _ => rfl
  | k + 1, i, h => by
    simp only [fstI]
    rw [if_neg (by rw [h i (by omega) (by omega)]; simp)]
    exact fstI_no b k (i + 1) fun j h1 h2 => h j (by omega) (by omega)
def badP (P : Nat → Pool) (i : Nat) : Bool := decide ((P i).err ≠ 0)
def safeP (P : Nat → Pool) (r d : Int) (i : Nat) : Bool := decide (0 ≤ (P i).sLo r d)
def whenE (m : Nat) (P : Nat → Pool) (r d : Int) : Int :=
  if m < 1 ∨ 20 < m then 6
  else if 0 ≤ fstI (badP P) 0 m then (P (fstI (badP P) 0 m).toNat).err
  else if ∀ i, i < m → (P i).same (P 0) then
    (if ∀ i, i < m - 1 → (P (i + 1)).inside (P i) then
      (if (P 0).asked r d = 0 then (if fstI (safeP P r d) 0 m < 0 then 12 else 0) else (P 0).asked r d)
    else 16)
  else 15
def whenV (m : Nat) (P : Nat → Pool) (r d : Int) : Int := if whenE m P r d = 0 then fstI (safeP P r d) 0 m else 0
theorem wk_pc {hp : List (Nat × Blk)} {mm : Nat → Option Nat} {nn : Nat} {sl : Nat → Bool} (p : Pool) (j : Nat) : Wk hp mm nn sl (pc p j) (pc p j) = True := eq_true (wk_refl _ (pc_old p j))
theorem same_refl (p : Pool) : p.same p := ⟨rfl, rfl, rfl, rfl, rfl⟩
theorem c42 (m : Nat) (P : Nat → Pool) (r d : Int) (hm : m ≤ 1000000) : Contract Go.Proofs.Try.prog 42 [pools m P, I r, I d] (.tup [I (whenV m P r d), I (whenE m P r d)]) := by
  refine contract_of Go.Proofs.Try.func42 rfl (by kernel_rfl) follows (by kernel_rfl) _ _ (by rw [Go.Proofs.Try.ntmps42]; simp) (by simp only [OldL, pools_old]; simp [Old, I]) ?_
  unfold I
  conv => arg 4; unfold pools
  (repeat' (first | with_reducible refine splitVC_d (fun _ => ?_) (fun _ => ?_) | ((with_reducible refine And.intro ?_ ?_); focus (first | trivial | (simp only [InK]; omega) | omega | (simp only [InK, ne_eq, and_true, true_and]; omega))) | simp -dsimp only [↓RP, RQ0, RQ1, RQ2, RQ3, implies_true, forall_const, Nat.reduceMul, reduceIte, reduceCtorEq, Nat.reduceAdd, Nat.reduceEqDiff, Nat.reduceLT, Nat.reduceLeDiff, ty2, ty3, ty4, ty22, ty24, ty28, ty52, Go.Proofs.Try.results42]))
  · rename_i h
    have e : whenE m P r d = 6 := by unfold whenE; rw [if_pos (by omega)]
    exact tup2 (by simp [whenV, e]) (by simp [e])
  · rename_i h
    have e : whenE m P r d = 6 := by unfold whenE; rw [if_pos (by omega)]
    exact tup2 (by simp [whenV, e]) (by simp [e])
  rename_i hm1 hm2
  refine loop_vc (fun i => i ≤ m ∧ ∀ j, j < i → (P j).err = 0) (fun i => ⟨[(0, .arr false false m 5 (fun i j => pc (P i) j)), (1, .val (.int .i64 r)), (2, .val (.int .i64 d)), (8, .val (.int .i64 i))], [], 0⟩) (fun i => m - i) 0 ⟨Nat.zero_le _, fun j hj => by omega⟩ (weak [] [] ?_ ?_ ?_) fun i hi => ?_
  · (simp -dsimp only [↓RP, RQ0, RQ1, RQ2, RQ3, implies_true, forall_const, Nat.reduceMul, reduceIte, reduceCtorEq, Nat.reduceAdd, Nat.reduceEqDiff, Nat.reduceLT, Nat.reduceLeDiff, wk_pc]); simp
  · (simp -dsimp only [↓RP, RQ0, RQ1, RQ2, RQ3, implies_true, forall_const, Nat.reduceMul, reduceIte, reduceCtorEq, Nat.reduceAdd, Nat.reduceEqDiff, Nat.reduceLT, Nat.reduceLeDiff])
  · (simp -dsimp only [↓RP, RQ0, RQ1, RQ2, RQ3, implies_true, forall_const, Nat.reduceMul, reduceIte, reduceCtorEq, Nat.reduceAdd, Nat.reduceEqDiff, Nat.reduceLT, Nat.reduceLeDiff])
  have eE : ∀ k : Nat, k < m → (∀ j, j < k → (P j).err = 0) → (P k).err ≠ 0 → whenE m P r d = (P k).err := fun k hk h1 h2 => by
    have := fstI_at (badP P) m 0 k (by omega) (by omega) (fun j _ hj => by simp [badP, h1 j hj]) (by simp [badP, h2])
    unfold whenE
    rw [if_neg (by omega), this, if_pos (by omega)]
    simp
  (repeat' (first | with_reducible refine splitVC_d (fun _ => ?_) (fun _ => ?_) | ((with_reducible refine And.intro ?_ ?_); focus (first | trivial | (simp only [InK]; omega) | omega | (simp only [InK, ne_eq, and_true, true_and]; omega))) | simp -dsimp only [↓RP, RQ0, RQ1, RQ2, RQ3, implies_true, forall_const, Nat.reduceMul, reduceIte, reduceCtorEq, Nat.reduceAdd, Nat.reduceEqDiff, Nat.reduceLT, Nat.reduceLeDiff, ty2, ty3, ty4, ty22, ty24, ty28, ty52, pc0, pc1, pc2, pc3, pc4, sel, Go.Proofs.Try.results42]))
  · refine callVC (c25 (P i)) (by (simp -dsimp only [↓RP, RQ0, RQ1, RQ2, RQ3, implies_true, forall_const, Nat.reduceMul, reduceIte, reduceCtorEq, Nat.reduceAdd, Nat.reduceEqDiff, Nat.reduceLT, Nat.reduceLeDiff, Pool.sv, rngs, I]); simp) (by (simp -dsimp only [↓RP, RQ0, RQ1, RQ2, RQ3, implies_true, forall_const, Nat.reduceMul, reduceIte, reduceCtorEq, Nat.reduceAdd, Nat.reduceEqDiff, Nat.reduceLT, Nat.reduceLeDiff, I])) ?_
    (repeat' (first | with_reducible refine splitVC_d (fun _ => ?_) (fun _ => ?_) | ((with_reducible refine And.intro ?_ ?_); focus (first | trivial | (simp only [InK]; omega) | omega | (simp only [InK, ne_eq, and_true, true_and]; omega))) | simp -dsimp only [↓RP, RQ0, RQ1, RQ2, RQ3, implies_true, forall_const, Nat.reduceMul, reduceIte, reduceCtorEq, Nat.reduceAdd, Nat.reduceEqDiff, Nat.reduceLT, Nat.reduceLeDiff, I, ty2, ty3, ty4, ty22, ty24, ty28, ty52, pc0, pc1, pc2, pc3, pc4, sel, Go.Proofs.Try.results42]))
    · rename_i h0
      refine ⟨i + 1, ⟨by omega, fun j hj => ?_⟩, by omega, weak [] [] ?_ ?_ ?_⟩
      · by_cases e : j = i
        · subst e; exact h0
        · exact hi.2 j (by omega)
      · (simp -dsimp only [↓RP, RQ0, RQ1, RQ2, RQ3, implies_true, forall_const, Nat.reduceMul, reduceIte, reduceCtorEq, Nat.reduceAdd, Nat.reduceEqDiff, Nat.reduceLT, Nat.reduceLeDiff, wk_pc]); simp
      · (simp -dsimp only [↓RP, RQ0, RQ1, RQ2, RQ3, implies_true, forall_const, Nat.reduceMul, reduceIte, reduceCtorEq, Nat.reduceAdd, Nat.reduceEqDiff, Nat.reduceLT, Nat.reduceLeDiff])
      · (simp -dsimp only [↓RP, RQ0, RQ1, RQ2, RQ3, implies_true, forall_const, Nat.reduceMul, reduceIte, reduceCtorEq, Nat.reduceAdd, Nat.reduceEqDiff, Nat.reduceLT, Nat.reduceLeDiff])
    · rename_i h0
      refine callVC (c25 (P i)) (by (simp -dsimp only [↓RP, RQ0, RQ1, RQ2, RQ3, implies_true, forall_const, Nat.reduceMul, reduceIte, reduceCtorEq, Nat.reduceAdd, Nat.reduceEqDiff, Nat.reduceLT, Nat.reduceLeDiff, Pool.sv, rngs, I]); simp) (by (simp -dsimp only [↓RP, RQ0, RQ1, RQ2, RQ3, implies_true, forall_const, Nat.reduceMul, reduceIte, reduceCtorEq, Nat.reduceAdd, Nat.reduceEqDiff, Nat.reduceLT, Nat.reduceLeDiff, I])) ?_
      (repeat' (first | with_reducible refine splitVC_d (fun _ => ?_) (fun _ => ?_) | ((with_reducible refine And.intro ?_ ?_); focus (first | trivial | (simp only [InK]; omega) | omega | (simp only [InK, ne_eq, and_true, true_and]; omega))) | simp -dsimp only [↓RP, RQ0, RQ1, RQ2, RQ3, implies_true, forall_const, Nat.reduceMul, reduceIte, reduceCtorEq, Nat.reduceAdd, Nat.reduceEqDiff, Nat.reduceLT, Nat.reduceLeDiff, I, ty2, ty3, ty4, ty22, ty24, ty28, ty52, pc0, pc1, pc2, pc3, pc4, sel, Go.Proofs.Try.results42]))
      have e := eE i (by omega) hi.2 h0
      exact tup2 (by unfold whenV; rw [e, if_neg h0]) e.symm
  have hall : ∀ j, j < m → (P j).err = 0 := fun j hj => hi.2 j (by omega)
  have eB : fstI (badP P) 0 m = -1 := fstI_no _ _ _ fun j _ hj => by simp [badP, hall j (by omega)]
  have hfine : ∀ j, j < m → (P j).Fine := fun j hj => Pool.fine (hall j hj)
  have eW : whenE m P r d = if ∀ i, i < m → (P i).same (P 0) then
    (if ∀ i, i < m - 1 → (P (i + 1)).inside (P i) then
      (if (P 0).asked r d = 0 then (if fstI (safeP P r d) 0 m < 0 then 12 else 0) else (P 0).asked r d)
    else 16)
  else 15 := by
    unfold whenE
    rw [if_neg (by omega), eB, if_neg (by omega)]
  clear eE eB hi
  refine loop_vc (fun i => 1 ≤ i ∧ i ≤ m ∧ ∀ j, j < i → (P j).same (P 0)) (fun i => ⟨[(0, .arr false false m 5 (fun i j => pc (P i) j)), (1, .val (.int .i64 r)), (2, .val (.int .i64 d)), (9, .val (.int .i64 i))], [], 0⟩) (fun i => m - i) 1 ⟨by omega, by omega, fun j hj => by
      have : j = 0 := by omega
      subst this; exact same_refl _⟩ (weak [] [] ?_ ?_ ?_) fun i hi => ?_
  · (simp -dsimp only [↓RP, RQ0, RQ1, RQ2, RQ3, implies_true, forall_const, Nat.reduceMul, reduceIte, reduceCtorEq, Nat.reduceAdd, Nat.reduceEqDiff, Nat.reduceLT, Nat.reduceLeDiff, wk_pc]); simp
  · (simp -dsimp only [↓RP, RQ0, RQ1, RQ2, RQ3, implies_true, forall_const, Nat.reduceMul, reduceIte, reduceCtorEq, Nat.reduceAdd, Nat.reduceEqDiff, Nat.reduceLT, Nat.reduceLeDiff])
  · (simp -dsimp only [↓RP, RQ0, RQ1, RQ2, RQ3, implies_true, forall_const, Nat.reduceMul, reduceIte, reduceCtorEq, Nat.reduceAdd, Nat.reduceEqDiff, Nat.reduceLT, Nat.reduceLeDiff])
  (repeat' (first | with_reducible refine splitVC_d (fun _ => ?_) (fun _ => ?_) | ((with_reducible refine And.intro ?_ ?_); focus (first | trivial | (simp only [InK]; omega) | omega | (simp only [InK, ne_eq, and_true, true_and]; omega))) | simp -dsimp only [↓RP, RQ0, RQ1, RQ2, RQ3, implies_true, forall_const, Nat.reduceMul, reduceIte, reduceCtorEq, Nat.reduceAdd, Nat.reduceEqDiff, Nat.reduceLT, Nat.reduceLeDiff, ty2, ty3, ty4, ty22, ty24, ty28, ty52, pc0, pc1, pc2, pc3, pc4, sel, Int.toNat_zero, Go.Proofs.Try.results42]))
  · refine callVC (c75 (P i) (P 0)) (by (simp -dsimp only [↓RP, RQ0, RQ1, RQ2, RQ3, implies_true, forall_const, Nat.reduceMul, reduceIte, reduceCtorEq, Nat.reduceAdd, Nat.reduceEqDiff, Nat.reduceLT, Nat.reduceLeDiff, Pool.sv, rngs, I]); simp) (by (simp -dsimp only [↓RP, RQ0, RQ1, RQ2, RQ3, implies_true, forall_const, Nat.reduceMul, reduceIte, reduceCtorEq, Nat.reduceAdd, Nat.reduceEqDiff, Nat.reduceLT, Nat.reduceLeDiff, B])) ?_
    (repeat' (first | with_reducible refine splitVC_d (fun _ => ?_) (fun _ => ?_) | ((with_reducible refine And.intro ?_ ?_); focus (first | trivial | (simp only [InK]; omega) | omega | (simp only [InK, ne_eq, and_true, true_and]; omega))) | simp -dsimp only [↓RP, RQ0, RQ1, RQ2, RQ3, implies_true, forall_const, Nat.reduceMul, reduceIte, reduceCtorEq, Nat.reduceAdd, Nat.reduceEqDiff, Nat.reduceLT, Nat.reduceLeDiff, B, ty2, ty3, ty4, ty22, ty24, ty28, ty52, pc0, pc1, pc2, pc3, pc4, sel, Go.Proofs.Try.results42]))
    · rename_i h0
      refine ⟨i + 1, ⟨by omega, by omega, fun j hj => ?_⟩, by omega, weak [] [] ?_ ?_ ?_⟩
      · by_cases e : j = i
        · subst e; exact h0
        · exact hi.2.2 j (by omega)
      · (simp -dsimp only [↓RP, RQ0, RQ1, RQ2, RQ3, implies_true, forall_const, Nat.reduceMul, reduceIte, reduceCtorEq, Nat.reduceAdd, Nat.reduceEqDiff, Nat.reduceLT, Nat.reduceLeDiff, wk_pc]); simp
      · (simp -dsimp only [↓RP, RQ0, RQ1, RQ2, RQ3, implies_true, forall_const, Nat.reduceMul, reduceIte, reduceCtorEq, Nat.reduceAdd, Nat.reduceEqDiff, Nat.reduceLT, Nat.reduceLeDiff])
      · (simp -dsimp only [↓RP, RQ0, RQ1, RQ2, RQ3, implies_true, forall_const, Nat.reduceMul, reduceIte, reduceCtorEq, Nat.reduceAdd, Nat.reduceEqDiff, Nat.reduceLT, Nat.reduceLeDiff])
    · rename_i h0
      have e : whenE m P r d = 15 := by rw [eW, if_neg fun h => h0 (h i (by omega))]
      exact tup2 (by simp [whenV, e]) (by simp [e])
  have hsame : ∀ j, j < m → (P j).same (P 0) := fun j hj => hi.2.2 j (by omega)
  rw [if_pos hsame] at eW
  clear hi
  refine loop_vc (fun i => 1 ≤ i ∧ i ≤ m ∧ ∀ j, j < i - 1 → (P (j + 1)).inside (P j)) (fun i => ⟨[(0, .arr false false m 5 (fun i j => pc (P i) j)), (1, .val (.int .i64 r)), (2, .val (.int .i64 d)), (10, .val (.int .i64 i))], [], 0⟩) (fun i => m - i) 1 ⟨by omega, by omega, fun j hj => by omega⟩ (weak [] [] ?_ ?_ ?_) fun i hi => ?_
  · (simp -dsimp only [↓RP, RQ0, RQ1, RQ2, RQ3, implies_true, forall_const, Nat.reduceMul, reduceIte, reduceCtorEq, Nat.reduceAdd, Nat.reduceEqDiff, Nat.reduceLT, Nat.reduceLeDiff, wk_pc]); simp
  · (simp -dsimp only [↓RP, RQ0, RQ1, RQ2, RQ3, implies_true, forall_const, Nat.reduceMul, reduceIte, reduceCtorEq, Nat.reduceAdd, Nat.reduceEqDiff, Nat.reduceLT, Nat.reduceLeDiff])
  · (simp -dsimp only [↓RP, RQ0, RQ1, RQ2, RQ3, implies_true, forall_const, Nat.reduceMul, reduceIte, reduceCtorEq, Nat.reduceAdd, Nat.reduceEqDiff, Nat.reduceLT, Nat.reduceLeDiff])
  obtain ⟨k, rfl⟩ : ∃ k, i = k + 1 := ⟨i - 1, by omega⟩
  have ek : ((k + 1 : Nat) : Int) - 1 = (k : Int) := by omega
  (repeat' (first | with_reducible refine splitVC_d (fun _ => ?_) (fun _ => ?_) | ((with_reducible refine And.intro ?_ ?_); focus (first | trivial | (simp only [InK]; omega) | omega | (simp only [InK, ne_eq, and_true, true_and]; omega))) | simp -dsimp only [↓RP, RQ0, RQ1, RQ2, RQ3, implies_true, forall_const, Nat.reduceMul, reduceIte, reduceCtorEq, Nat.reduceAdd, Nat.reduceEqDiff, Nat.reduceLT, Nat.reduceLeDiff, ty2, ty3, ty4, ty22, ty24, ty28, ty52, pc0, pc1, pc2, pc3, pc4, sel, ek, Int.toNat_natCast, Go.Proofs.Try.results42]))
  · have hk := hfine (k + 1) (by omega)
    have hs1 := (hsame (k + 1) (by omega)).2.2.2.2
    have hs2 := (hsame k (by omega)).2.2.2.2
    refine callVC (c76 (P (k + 1)) (P k) (by omega) (by have := hk.n8; omega)) (by (simp -dsimp only [↓RP, RQ0, RQ1, RQ2, RQ3, implies_true, forall_const, Nat.reduceMul, reduceIte, reduceCtorEq, Nat.reduceAdd, Nat.reduceEqDiff, Nat.reduceLT, Nat.reduceLeDiff, Pool.sv, rngs, I]); simp) (by (simp -dsimp only [↓RP, RQ0, RQ1, RQ2, RQ3, implies_true, forall_const, Nat.reduceMul, reduceIte, reduceCtorEq, Nat.reduceAdd, Nat.reduceEqDiff, Nat.reduceLT, Nat.reduceLeDiff, B])) ?_
    (repeat' (first | with_reducible refine splitVC_d (fun _ => ?_) (fun _ => ?_) | ((with_reducible refine And.intro ?_ ?_); focus (first | trivial | (simp only [InK]; omega) | omega | (simp only [InK, ne_eq, and_true, true_and]; omega))) | simp -dsimp only [↓RP, RQ0, RQ1, RQ2, RQ3, implies_true, forall_const, Nat.reduceMul, reduceIte, reduceCtorEq, Nat.reduceAdd, Nat.reduceEqDiff, Nat.reduceLT, Nat.reduceLeDiff, B, ty2, ty3, ty4, ty22, ty24, ty28, ty52, pc0, pc1, pc2, pc3, pc4, sel, Go.Proofs.Try.results42]))
    · rename_i h0
      refine ⟨k + 2, ⟨by omega, by omega, fun j hj => ?_⟩, by omega, weak [] [] ?_ ?_ ?_⟩
      · by_cases e : j = k
        · subst e; exact h0
        · exact hi.2.2 j (by omega)
      · (simp -dsimp only [↓RP, RQ0, RQ1, RQ2, RQ3, implies_true, forall_const, Nat.reduceMul, reduceIte, reduceCtorEq, Nat.reduceAdd, Nat.reduceEqDiff, Nat.reduceLT, Nat.reduceLeDiff, wk_pc]); simp
        all_goals omega
      · (simp -dsimp only [↓RP, RQ0, RQ1, RQ2, RQ3, implies_true, forall_const, Nat.reduceMul, reduceIte, reduceCtorEq, Nat.reduceAdd, Nat.reduceEqDiff, Nat.reduceLT, Nat.reduceLeDiff])
      · (simp -dsimp only [↓RP, RQ0, RQ1, RQ2, RQ3, implies_true, forall_const, Nat.reduceMul, reduceIte, reduceCtorEq, Nat.reduceAdd, Nat.reduceEqDiff, Nat.reduceLT, Nat.reduceLeDiff])
    · rename_i h0
      have e : whenE m P r d = 16 := by rw [eW, if_neg fun h => h0 (h k (by omega))]
      exact tup2 (by simp [whenV, e]) (by simp [e])
  have hin : ∀ j, j < m - 1 → (P (j + 1)).inside (P j) := fun j hj => hi.2.2 j (by omega)
  rw [if_pos hin] at eW
  clear hi
  refine callVC (c59 (P 0) r d) (by (simp -dsimp only [↓RP, RQ0, RQ1, RQ2, RQ3, implies_true, forall_const, Nat.reduceMul, reduceIte, reduceCtorEq, Nat.reduceAdd, Nat.reduceEqDiff, Nat.reduceLT, Nat.reduceLeDiff, Pool.sv, rngs, I]); simp) (by (simp -dsimp only [↓RP, RQ0, RQ1, RQ2, RQ3, implies_true, forall_const, Nat.reduceMul, reduceIte, reduceCtorEq, Nat.reduceAdd, Nat.reduceEqDiff, Nat.reduceLT, Nat.reduceLeDiff, I])) ?_
  (repeat' (first | with_reducible refine splitVC_d (fun _ => ?_) (fun _ => ?_) | ((with_reducible refine And.intro ?_ ?_); focus (first | trivial | (simp only [InK]; omega) | omega | (simp only [InK, ne_eq, and_true, true_and]; omega))) | simp -dsimp only [↓RP, RQ0, RQ1, RQ2, RQ3, implies_true, forall_const, Nat.reduceMul, reduceIte, reduceCtorEq, Nat.reduceAdd, Nat.reduceEqDiff, Nat.reduceLT, Nat.reduceLeDiff, I, ty2, ty3, ty4, ty22, ty24, ty28, ty52, pc0, pc1, pc2, pc3, pc4, sel, Int.toNat_zero, Go.Proofs.Try.results42]))
  rotate_left
  · rename_i h0
    refine callVC (c59 (P 0) r d) (by (simp -dsimp only [↓RP, RQ0, RQ1, RQ2, RQ3, implies_true, forall_const, Nat.reduceMul, reduceIte, reduceCtorEq, Nat.reduceAdd, Nat.reduceEqDiff, Nat.reduceLT, Nat.reduceLeDiff, Pool.sv, rngs, I]); simp) (by (simp -dsimp only [↓RP, RQ0, RQ1, RQ2, RQ3, implies_true, forall_const, Nat.reduceMul, reduceIte, reduceCtorEq, Nat.reduceAdd, Nat.reduceEqDiff, Nat.reduceLT, Nat.reduceLeDiff, I])) ?_
    (repeat' (first | with_reducible refine splitVC_d (fun _ => ?_) (fun _ => ?_) | ((with_reducible refine And.intro ?_ ?_); focus (first | trivial | (simp only [InK]; omega) | omega | (simp only [InK, ne_eq, and_true, true_and]; omega))) | simp -dsimp only [↓RP, RQ0, RQ1, RQ2, RQ3, implies_true, forall_const, Nat.reduceMul, reduceIte, reduceCtorEq, Nat.reduceAdd, Nat.reduceEqDiff, Nat.reduceLT, Nat.reduceLeDiff, I, ty2, ty3, ty4, ty22, ty24, ty28, ty52, pc0, pc1, pc2, pc3, pc4, sel, Int.toNat_zero, Go.Proofs.Try.results42]))
    rw [if_neg h0] at eW
    exact tup2 (by unfold whenV; rw [eW, if_neg h0]) eW.symm
  rename_i h0
  rw [if_pos h0] at eW
  have hA := asked_ok h0
  refine loop_vc (fun i => i ≤ m ∧ ∀ j, j < i → (P j).sLo r d < 0) (fun i => ⟨[(0, .arr false false m 5 (fun i j => pc (P i) j)), (1, .val (.int .i64 r)), (2, .val (.int .i64 d)), (11, .val (.int .i64 i))], [], 0⟩) (fun i => m - i) 0 ⟨by omega, fun j hj => by omega⟩ (weak [] [] ?_ ?_ ?_) fun i hi => ?_
  · (simp -dsimp only [↓RP, RQ0, RQ1, RQ2, RQ3, implies_true, forall_const, Nat.reduceMul, reduceIte, reduceCtorEq, Nat.reduceAdd, Nat.reduceEqDiff, Nat.reduceLT, Nat.reduceLeDiff, wk_pc]); simp
  · (simp -dsimp only [↓RP, RQ0, RQ1, RQ2, RQ3, implies_true, forall_const, Nat.reduceMul, reduceIte, reduceCtorEq, Nat.reduceAdd, Nat.reduceEqDiff, Nat.reduceLT, Nat.reduceLeDiff])
  · (simp -dsimp only [↓RP, RQ0, RQ1, RQ2, RQ3, implies_true, forall_const, Nat.reduceMul, reduceIte, reduceCtorEq, Nat.reduceAdd, Nat.reduceEqDiff, Nat.reduceLT, Nat.reduceLeDiff])
  (repeat' (first | with_reducible refine splitVC_d (fun _ => ?_) (fun _ => ?_) | ((with_reducible refine And.intro ?_ ?_); focus (first | trivial | (simp only [InK]; omega) | omega | (simp only [InK, ne_eq, and_true, true_and]; omega))) | simp -dsimp only [↓RP, RQ0, RQ1, RQ2, RQ3, implies_true, forall_const, Nat.reduceMul, reduceIte, reduceCtorEq, Nat.reduceAdd, Nat.reduceEqDiff, Nat.reduceLT, Nat.reduceLeDiff, ty2, ty3, ty4, ty22, ty24, ty28, ty52, pc0, pc1, pc2, pc3, pc4, sel, Int.toNat_natCast, Go.Proofs.Try.results42]))
  · have hk := hfine i (by omega)
    have hs1 := (hsame i (by omega)).2.2.2.2
    refine callVC (c68 (P i) hk r d (by omega) (by omega) (by omega) (by omega)) (by (simp -dsimp only [↓RP, RQ0, RQ1, RQ2, RQ3, implies_true, forall_const, Nat.reduceMul, reduceIte, reduceCtorEq, Nat.reduceAdd, Nat.reduceEqDiff, Nat.reduceLT, Nat.reduceLeDiff, Pool.sv, rngs, I]); simp) (by (simp -dsimp only [↓RP, RQ0, RQ1, RQ2, RQ3, implies_true, forall_const, Nat.reduceMul, reduceIte, reduceCtorEq, Nat.reduceAdd, Nat.reduceEqDiff, Nat.reduceLT, Nat.reduceLeDiff, rg, I])) ?_
    (repeat' (first | with_reducible refine splitVC_d (fun _ => ?_) (fun _ => ?_) | ((with_reducible refine And.intro ?_ ?_); focus (first | trivial | (simp only [InK]; omega) | omega | (simp only [InK, ne_eq, and_true, true_and]; omega))) | simp -dsimp only [↓RP, RQ0, RQ1, RQ2, RQ3, implies_true, forall_const, Nat.reduceMul, reduceIte, reduceCtorEq, Nat.reduceAdd, Nat.reduceEqDiff, Nat.reduceLT, Nat.reduceLeDiff, rg, I, ty2, ty3, ty4, ty22, ty24, ty28, ty35, pl35, ty52, pc0, pc1, pc2, pc3, pc4, sel, Go.Proofs.Try.results42]))
    · rename_i h1
      have e := fstI_at (safeP P r d) m 0 i (by omega) (by omega) (fun j _ hj => by simp [safeP, hi.2 j hj]) (by simp [safeP, h1])
      rw [e, if_neg (by omega)] at eW
      exact tup2 (by unfold whenV; rw [eW, if_pos rfl, e]) eW.symm
    · rename_i h1
      refine ⟨i + 1, ⟨by omega, fun j hj => ?_⟩, by omega, weak [] [] ?_ ?_ ?_⟩
      · by_cases e : j = i
        · subst e; omega
        · exact hi.2 j (by omega)
      · (simp -dsimp only [↓RP, RQ0, RQ1, RQ2, RQ3, implies_true, forall_const, Nat.reduceMul, reduceIte, reduceCtorEq, Nat.reduceAdd, Nat.reduceEqDiff, Nat.reduceLT, Nat.reduceLeDiff, wk_pc]); simp
      · (simp -dsimp only [↓RP, RQ0, RQ1, RQ2, RQ3, implies_true, forall_const, Nat.reduceMul, reduceIte, reduceCtorEq, Nat.reduceAdd, Nat.reduceEqDiff, Nat.reduceLT, Nat.reduceLeDiff])
      · (simp -dsimp only [↓RP, RQ0, RQ1, RQ2, RQ3, implies_true, forall_const, Nat.reduceMul, reduceIte, reduceCtorEq, Nat.reduceAdd, Nat.reduceEqDiff, Nat.reduceLT, Nat.reduceLeDiff])
  · have e := fstI_no (safeP P r d) m 0 fun j _ hj => by simp [safeP, hi.2 j (by omega)]
    rw [e, if_pos (by omega)] at eW
    exact tup2 (by simp [whenV, eW]) eW.symm
end Go.Po
end
section
set_option linter.unusedSimpArgs false
set_option linter.unusedVariables false
set_option maxRecDepth 100000
set_option maxHeartbeats 8000000
namespace Go.Po
open Go.Sx
theorem c85 (n : Nat) (u : Nat → Int) (hn : 0 < n) (hm : n ≤ 1000000) : ContractN Go.Proofs.Try.prog 85 [ints n u] (.rows 2 1 n (fun i _ => I (u i))) (.vec 0 n 1) := by
  refine contractN_of Go.Proofs.Try.func85 rfl (by kernel_rfl) follows (by kernel_rfl) _ _ _ (by rw [Go.Proofs.Try.ntmps85]; simp) (by simp [OldL, Old, ints]) ?_
  unfold ints I
  (repeat' (first | with_reducible refine splitVC_d (fun _ => ?_) (fun _ => ?_) | ((with_reducible refine And.intro ?_ ?_); focus (first | trivial | (simp only [InK]; omega) | omega | (simp only [InK, ne_eq, and_true, true_and]; omega))) | simp -dsimp only [↓RP, RQ0, RQ1, RQ2, RQ3, implies_true, forall_const, Nat.reduceMul, reduceIte, reduceCtorEq, Nat.reduceAdd, Nat.reduceEqDiff, Nat.reduceLT, Nat.reduceLeDiff, ty2, ty25, by2, Go.Proofs.Try.results85]))
  refine ⟨⟨.inr trivial, hm⟩, 5, _, rfl, ?_, ?_⟩
  · (simp -dsimp only [↓RP, RQ0, RQ1, RQ2, RQ3, implies_true, forall_const, Nat.reduceMul, reduceIte, reduceCtorEq, Nat.reduceAdd, Nat.reduceEqDiff, Nat.reduceLT, Nat.reduceLeDiff]); all_goals simp
  · (simp -dsimp only [↓RP, RQ0, RQ1, RQ2, RQ3, implies_true, forall_const, Nat.reduceMul, reduceIte, reduceCtorEq, Nat.reduceAdd, Nat.reduceEqDiff, Nat.reduceLT, Nat.reduceLeDiff])
def Pool.lft (p : Pool) (r : Nat) (all most : Int) : Nat → Int
  | 0 => all - sumTo (fun i => if i = r then most else p.lo i) p.n
  | i + 1 => if i = r then p.lft r all most i else p.lft r all most i - min (p.lft r all most i) (p.hi i - p.lo i)
def Pool.tru (p : Pool) (r : Nat) (all most : Int) (i : Nat) : Int := if i = r then most else p.lo i + min (p.lft r all most i) (p.hi i - p.lo i)
def Pool.trk (p : Pool) (r : Nat) (all most : Int) (k i : Nat) : Int := if i = r then most else if i < k then p.lo i + min (p.lft r all most i) (p.hi i - p.lo i) else p.lo i
theorem c69 (p : Pool) (h : p.Fine) (r : Nat) (hr : r < p.n) (all most few : Int) (h1 : 0 ≤ all) (h2 : all ≤ 1600) (h3 : 0 ≤ most) (h4 : most ≤ 200) : ContractN Go.Proofs.Try.prog 69 [D p r, tot all most few] (.rows 2 1 p.n (fun i _ => I (p.tru r all most i))) (.vec 0 p.n 1) := by
  refine contractN_of Go.Proofs.Try.func69 rfl (by kernel_rfl) follows (by kernel_rfl) _ _ _ (by rw [Go.Proofs.Try.ntmps69]; simp) (by simp only [OldL, D_old]; simp [Old, OldL, tot, I]) ?_
  have h8 := h.n8
  conv => arg 4; unfold D tot I
  (repeat' (first | with_reducible refine splitVC_d (fun _ => ?_) (fun _ => ?_) | ((with_reducible refine And.intro ?_ ?_); focus (first | trivial | (simp only [InK]; omega) | omega | (simp only [InK, ne_eq, and_true, true_and]; omega))) | simp -dsimp only [↓RP, RQ0, RQ1, RQ2, RQ3, implies_true, forall_const, Nat.reduceMul, reduceIte, reduceCtorEq, Nat.reduceAdd, Nat.reduceEqDiff, Nat.reduceLT, Nat.reduceLeDiff, ty2, ty3, ty22, ty24, ty25, ty84, ty88, ty109, ty112, dkR_0, dkR_5, Int.toNat_natCast, rngs, I, Go.Proofs.Try.results69]))
  have hlo : ∀ i j, i < p.n → j < 1 → dkR p r (6 + (i + j)) = .val (.int .i64 (p.lo i)) := fun i j hi hj => by
    rw [lo_sub p r i j (by omega) hj, upto, if_pos hi]
  refine callN (c85 p.n p.lo (by omega) (by omega)) (by (simp -dsimp only [↓RP, RQ0, RQ1, RQ2, RQ3, implies_true, forall_const, Nat.reduceMul, reduceIte, reduceCtorEq, Nat.reduceAdd, Nat.reduceEqDiff, Nat.reduceLT, Nat.reduceLeDiff, ints]); exact ⟨fun h => h, fun h => h, hlo⟩) (by simp [FreshO]) (by simp [FreshB, Fresh, I]) ?_
  (repeat' (first | with_reducible refine splitVC_d (fun _ => ?_) (fun _ => ?_) | ((with_reducible refine And.intro ?_ ?_); focus (first | trivial | (simp only [InK]; omega) | omega | (simp only [InK, ne_eq, and_true, true_and]; omega))) | simp -dsimp only [↓RP, RQ0, RQ1, RQ2, RQ3, implies_true, forall_const, Nat.reduceMul, reduceIte, reduceCtorEq, Nat.reduceAdd, Nat.reduceEqDiff, Nat.reduceLT, Nat.reduceLeDiff, ty2, ty3, ty22, ty24, ty25, ty84, ty88, ty109, ty112, dkR_0, dkR_5, Int.toNat_natCast, rngs, I, Go.Proofs.Try.results69]))
  refine callVC (c56 (fun i => if i = r then most else p.lo i) p.n (by omega) (fun i hi => by have := h.rg i hi; split <;> omega)) ?_ (by (simp -dsimp only [↓RP, RQ0, RQ1, RQ2, RQ3, implies_true, forall_const, Nat.reduceMul, reduceIte, reduceCtorEq, Nat.reduceAdd, Nat.reduceEqDiff, Nat.reduceLT, Nat.reduceLeDiff, I])) ?_
  · (simp -dsimp only [↓RP, RQ0, RQ1, RQ2, RQ3, implies_true, forall_const, Nat.reduceMul, reduceIte, reduceCtorEq, Nat.reduceAdd, Nat.reduceEqDiff, Nat.reduceLT, Nat.reduceLeDiff, ints])
    refine ⟨Nat.le_refl _, fun i j hi hj => ?_⟩
    by_cases e : i = r
    · rw [if_pos ⟨e, by omega⟩, if_pos e]
    · rw [if_neg (fun h => e h.1), if_neg e]
  have hs0 := sumTo_bound (fun i => if i = r then most else p.lo i) 200 p.n (fun i hi => by have := h.rg i hi; split <;> omega) p.n (Nat.le_refl _)
  have hl : ∀ k, k ≤ p.n → -2000 ≤ p.lft r all most k ∧ p.lft r all most k ≤ 2000 := by
    intro k
    induction k with
    | zero => intro _; simp only [Pool.lft]; omega
    | succ k ih =>
      intro hk
      have h1 := ih (by omega)
      have h2 := h.rg k (by omega)
      simp only [Pool.lft]
      split <;> omega
  (repeat' (first | with_reducible refine splitVC_d (fun _ => ?_) (fun _ => ?_) | ((with_reducible refine And.intro ?_ ?_); focus (first | trivial | (simp only [InK]; omega) | omega | (simp only [InK, ne_eq, and_true, true_and]; omega))) | simp -dsimp only [↓RP, RQ0, RQ1, RQ2, RQ3, implies_true, forall_const, Nat.reduceMul, reduceIte, reduceCtorEq, Nat.reduceAdd, Nat.reduceEqDiff, Nat.reduceLT, Nat.reduceLeDiff, ty2, ty3, ty22, ty24, ty25, ty84, ty88, ty109, ty112, dkR_0, dkR_5, Int.toNat_natCast, rngs, I, Go.Proofs.Try.results69]))
  refine loop_vc (fun k => k ≤ p.n) (fun k => ⟨[(0, .ref false 23 (dkR p r)), (5, .vec 12 p.n 1), (6, .val (.int .i64 (p.lft r all most k))), (34, .val (.int .i64 p.n)), (35, .val (.int .i64 k))], [(12, .rows 2 1 p.n (fun i _ => .val (.int .i64 (p.trk r all most k i))))], 13⟩) (fun k => p.n - k) 0 (Nat.zero_le _) (weak [] [] ?_ ?_ ?_) fun k hk => ?_
  · (simp -dsimp only [↓RP, RQ0, RQ1, RQ2, RQ3, implies_true, forall_const, Nat.reduceMul, reduceIte, reduceCtorEq, Nat.reduceAdd, Nat.reduceEqDiff, Nat.reduceLT, Nat.reduceLeDiff, Pool.lft]); all_goals simp
    exact fun j hj => wk_refl _ (by have := D_old p r; simp only [D, Old, true_and] at this; exact this j hj)
  · (simp -dsimp only [↓RP, RQ0, RQ1, RQ2, RQ3, implies_true, forall_const, Nat.reduceMul, reduceIte, reduceCtorEq, Nat.reduceAdd, Nat.reduceEqDiff, Nat.reduceLT, Nat.reduceLeDiff, Pool.trk]); all_goals simp
    intro i hi
    split <;> rfl
  · (simp -dsimp only [↓RP, RQ0, RQ1, RQ2, RQ3, implies_true, forall_const, Nat.reduceMul, reduceIte, reduceCtorEq, Nat.reduceAdd, Nat.reduceEqDiff, Nat.reduceLT, Nat.reduceLeDiff]); all_goals simp
  have hkl := hl k hk
  by_cases hlt : k < p.n
  · have hhi := dkR_hi p r k (by omega)
    rw [upto, if_pos hlt] at hhi
    have h2 := h.rg k hlt
    unfold I at hhi
    (repeat' (first | with_reducible refine splitVC_d (fun _ => ?_) (fun _ => ?_) | ((with_reducible refine And.intro ?_ ?_); focus (first | trivial | (simp only [InK]; omega) | omega | (simp only [InK, ne_eq, and_true, true_and]; omega))) | simp -dsimp only [↓RP, RQ0, RQ1, RQ2, RQ3, implies_true, forall_const, Nat.reduceMul, reduceIte, reduceCtorEq, Nat.reduceAdd, Nat.reduceEqDiff, Nat.reduceLT, Nat.reduceLeDiff, ty2, ty3, ty22, ty24, ty25, ty84, ty88, ty109, ty112, dkR_0, dkR_5, hhi, Int.toNat_natCast, rngs, I, Nat.mul_one, Go.Proofs.Try.results69]))
    · rename_i _ hkr
      have hkr : k = r := by omega
      refine ⟨k + 1, by omega, by omega, weak [] [] ?_ ?_ ?_⟩
      · (simp -dsimp only [↓RP, RQ0, RQ1, RQ2, RQ3, implies_true, forall_const, Nat.reduceMul, reduceIte, reduceCtorEq, Nat.reduceAdd, Nat.reduceEqDiff, Nat.reduceLT, Nat.reduceLeDiff, Pool.lft]); all_goals simp [hkr]
        exact fun j hj => wk_refl _ (by have := D_old p r; simp only [D, Old, true_and] at this; exact this j hj)
      · (simp -dsimp only [↓RP, RQ0, RQ1, RQ2, RQ3, implies_true, forall_const, Nat.reduceMul, reduceIte, reduceCtorEq, Nat.reduceAdd, Nat.reduceEqDiff, Nat.reduceLT, Nat.reduceLeDiff]); all_goals simp
        intro i hi
        unfold Pool.trk
        by_cases e : i = r
        · rw [if_pos e, if_pos e]
        · rw [if_neg e, if_neg e]
          by_cases e2 : i < k
          · rw [if_pos e2, if_pos (by omega)]
          · rw [if_neg e2, if_neg (by omega)]
      · (simp -dsimp only [↓RP, RQ0, RQ1, RQ2, RQ3, implies_true, forall_const, Nat.reduceMul, reduceIte, reduceCtorEq, Nat.reduceAdd, Nat.reduceEqDiff, Nat.reduceLT, Nat.reduceLeDiff]); all_goals simp
    · rename_i _ hkr
      have hkr : k ≠ r := by omega
      have et : p.trk r all most k k = p.lo k := by unfold Pool.trk; rw [if_neg hkr, if_neg (by omega)]
      rw [et]
      (repeat ((with_reducible refine And.intro ?_ ?_); focus (first | trivial | (simp only [InK]; omega) | omega | (simp only [InK, ne_eq, and_true, true_and]; omega))))
      refine ⟨k + 1, by omega, by omega, weak [] [] ?_ ?_ ?_⟩
      · (simp -dsimp only [↓RP, RQ0, RQ1, RQ2, RQ3, implies_true, forall_const, Nat.reduceMul, reduceIte, reduceCtorEq, Nat.reduceAdd, Nat.reduceEqDiff, Nat.reduceLT, Nat.reduceLeDiff, Pool.lft]); all_goals simp [hkr]
        exact fun j hj => wk_refl _ (by have := D_old p r; simp only [D, Old, true_and] at this; exact this j hj)
      · (simp -dsimp only [↓RP, RQ0, RQ1, RQ2, RQ3, implies_true, forall_const, Nat.reduceMul, reduceIte, reduceCtorEq, Nat.reduceAdd, Nat.reduceEqDiff, Nat.reduceLT, Nat.reduceLeDiff]); all_goals simp
        intro i hi
        unfold Pool.trk
        by_cases e : i = r
        · rw [if_pos e, if_neg (by omega), if_pos e]
        · rw [if_neg e]
          by_cases e2 : i = k
          · subst e2
            rw [if_pos rfl, if_neg e, if_pos (by omega)]
          · rw [if_neg e2, if_neg e]
            by_cases e3 : i < k
            · rw [if_pos e3, if_pos (by omega)]
            · rw [if_neg e3, if_neg (by omega)]
      · (simp -dsimp only [↓RP, RQ0, RQ1, RQ2, RQ3, implies_true, forall_const, Nat.reduceMul, reduceIte, reduceCtorEq, Nat.reduceAdd, Nat.reduceEqDiff, Nat.reduceLT, Nat.reduceLeDiff]); all_goals simp
    · exfalso; omega
  · have e : k = p.n := by omega
    subst e
    (repeat' (first | with_reducible refine splitVC_d (fun _ => ?_) (fun _ => ?_) | ((with_reducible refine And.intro ?_ ?_); focus (first | trivial | (simp only [InK]; omega) | omega | (simp only [InK, ne_eq, and_true, true_and]; omega))) | simp -dsimp only [↓RP, RQ0, RQ1, RQ2, RQ3, implies_true, forall_const, Nat.reduceMul, reduceIte, reduceCtorEq, Nat.reduceAdd, Nat.reduceEqDiff, Nat.reduceLT, Nat.reduceLeDiff, ty2, ty3, ty22, ty24, ty25, ty84, ty88, ty109, ty112, dkR_0, dkR_5, Int.toNat_natCast, rngs, I, Go.Proofs.Try.results69]))
    all_goals first | (exfalso; omega) | skip
    refine ⟨12, _, rfl, ?_, ?_⟩
    · (simp -dsimp only [↓RP, RQ0, RQ1, RQ2, RQ3, implies_true, forall_const, Nat.reduceMul, reduceIte, reduceCtorEq, Nat.reduceAdd, Nat.reduceEqDiff, Nat.reduceLT, Nat.reduceLeDiff]); all_goals simp
      intro i hi
      unfold Pool.trk Pool.tru
      rw [if_pos hi]
    · (simp -dsimp only [↓RP, RQ0, RQ1, RQ2, RQ3, implies_true, forall_const, Nat.reduceMul, reduceIte, reduceCtorEq, Nat.reduceAdd, Nat.reduceEqDiff, Nat.reduceLT, Nat.reduceLeDiff])
end Go.Po
end
section
set_option linter.unusedSimpArgs false
set_option linter.unusedVariables false
namespace Go.Po
open Go.Sx
theorem sumTo_congr (u v : Nat → Int) (n : Nat) (h : ∀ i, i < n → u i = v i) : sumTo u n = sumTo v n := by
  induction n with
  | zero => rfl
  | succ n ih => simp only [sumTo]; rw [ih fun i hi => h i (by omega), h n (by omega)]
theorem sumTo_upto' (u : Nat → Int) (n m : Nat) : sumTo (upto u n) (n + m) = sumTo u n := by
  induction m with
  | zero => exact sumTo_congr _ _ _ fun i hi => by simp only [upto]; rw [if_pos (by omega)]
  | succ m ih =>
    rw [← Nat.add_assoc]
    simp only [sumTo]
    rw [ih, upto, if_neg (by omega)]
    omega
theorem sumTo_upto (u : Nat → Int) (n : Nat) (h : n ≤ 8) : sumTo (upto u n) 8 = sumTo u n := by
  have := sumTo_upto' u n (8 - n)
  rwa [show n + (8 - n) = 8 by omega] at this
theorem sumTo_ex' (u : Nat → Int) (r : Nat) : ∀ n, sumTo u n = (if r < n then u r else 0) + sumTo (ex u r) n
  | 0 => by simp [sumTo]
  | n + 1 => by
    have := sumTo_ex' u r n
    simp only [sumTo]
    by_cases e : n = r
    · subst e
      have h0 : ex u n n = 0 := by simp [ex]
      rw [h0, if_pos (show n < n + 1 by omega)]
      rw [if_neg (show ¬ n < n by omega)] at this
      omega
    · have h0 : ex u r n = u n := by unfold ex; rw [if_neg (by omega)]
      rw [h0]
      by_cases h : r < n
      · rw [if_pos h] at this; rw [if_pos (show r < n + 1 by omega)]; omega
      · rw [if_neg h] at this; rw [if_neg (show ¬ r < n + 1 by omega)]; omega
theorem sumTo_ex (u : Nat → Int) (r n : Nat) (h : r < n) : sumTo u n = u r + sumTo (ex u r) n := by
  have := sumTo_ex' u r n
  rwa [if_pos h] at this
theorem L_ta (p : Pool) (h : p.Fine) (r : Nat) (hr : r < p.n) : p.L = p.ta r ∧ p.H = p.tb r := by
  unfold Pool.L Pool.H Pool.ta Pool.tb Pool.olo Pool.ohi
  rw [sumTo_upto _ _ h.n8, sumTo_upto _ _ h.n8]
  exact ⟨sumTo_ex p.lo r p.n hr, sumTo_ex p.hi r p.n hr⟩
theorem foldMin_am (f : Nat → Int) : ∀ m, foldMin f m = f (am f m)
  | 0 => rfl
  | m + 1 => by
    simp only [foldMin, am, foldMin_am f m]
    split <;> omega
theorem foldMax_neg (f : Nat → Int) : ∀ m, foldMax f m = -foldMin (fun k => -f k) m
  | 0 => by simp [foldMax, foldMin]
  | m + 1 => by
    simp only [foldMin, foldMax, foldMax_neg f m]
    omega
theorem foldMin_congr (f g : Nat → Int) : ∀ m, (∀ k, k ≤ m → f k = g k) → foldMin f m = foldMin g m
  | 0, h => h 0 (Nat.le_refl _)
  | m + 1, h => by simp only [foldMin]; rw [foldMin_congr f g m fun k hk => h k (by omega), h (m + 1) (Nat.le_refl _)]
theorem tN_num (p : Pool) (h : p.Fine) (r : Nat) (hr : r < p.n) : p.tN - 1 = p.num r := by
  obtain ⟨e1, e2⟩ := L_ta p h r hr
  unfold Pool.tN Pool.num
  rw [e1, e2]; omega
theorem wW_low (p : Pool) (h : p.Fine) (r : Nat) (hr : r < p.n) (d : Int) (k : Nat) : p.wW r d k = p.lowAt r d k := by
  obtain ⟨e1, e2⟩ := L_ta p h r hr
  unfold Pool.wW Pool.lowAt Pool.lf Pool.tAll Pool.tMost Pool.tAll
  rw [e1]
  have : p.ta r - p.lo r = p.olo r := by unfold Pool.ta; rw [Int.toNat_natCast]; omega
  rw [this, Int.toNat_natCast]
theorem wB_high (p : Pool) (h : p.Fine) (r : Nat) (hr : r < p.n) (d : Int) (k : Nat) : p.wB r d k = -p.highAt r d k := by
  obtain ⟨e1, e2⟩ := L_ta p h r hr
  unfold Pool.wB Pool.highAt Pool.lf Pool.tAll Pool.tFew Pool.tAll
  rw [e1, e2]
  have : p.tb r - p.hi r = p.ohi r := by unfold Pool.tb; rw [Int.toNat_natCast]; omega
  rw [this, Int.toNat_natCast]
theorem wst_sLo (p : Pool) (h : p.Fine) (r : Nat) (hr : r < p.n) (d : Int) : p.wst r d = p.sLo r d := by
  unfold Pool.wst Pool.iW Pool.sLo
  rw [← foldMin_am (p.wW r d), tN_num p h r hr]
  exact foldMin_congr _ _ _ fun k _ => wW_low p h r hr d k
theorem bst_sHi (p : Pool) (h : p.Fine) (r : Nat) (hr : r < p.n) (d : Int) : p.bst r d = p.sHi r d := by
  have e : p.bst r d = -p.wB r d (p.iB r d) := by unfold Pool.bst Pool.wB; omega
  rw [e]
  unfold Pool.iB Pool.sHi
  rw [← foldMin_am (p.wB r d), tN_num p h r hr, foldMax_neg]
  rw [foldMin_congr _ _ _ fun k _ => wB_high p h r hr d k]
theorem sLo_iff (p : Pool) (r d c : Int) : c ≤ p.sLo r d ↔ ∀ k, k < p.num r + 1 → c ≤ p.lowAt r d k := by
  unfold Pool.sLo
  generalize p.num r = m
  induction m with
  | zero =>
    constructor
    · intro h k hk
      have : k = 0 := by omega
      subst this; exact h
    · intro h; exact h 0 (by omega)
  | succ m ih =>
    simp only [foldMin]
    rw [Int.le_min, ih]
    constructor
    · rintro ⟨h1, h2⟩ k hk
      by_cases e : k = m + 1
      · subst e; exact h2
      · exact h1 k (by omega)
    · intro h; exact ⟨fun k hk => h k (by omega), h (m + 1) (by omega)⟩
theorem lowAt_net (p : Pool) (r d : Int) (k : Nat) : p.lowAt r d k = p.netAt r k - d * p.mostAt r k := rfl
theorem most_nonneg (p : Pool) (h : p.Fine) (r : Nat) (hr : r < p.n) (k : Nat) : 0 ≤ p.mostAt r k := by
  have h1 := h.rg r hr
  unfold Pool.mostAt Pool.ta
  rw [Int.toNat_natCast]
  omega
theorem bestTo_iff (p : Pool) (h : p.Fine) (r : Nat) (hr : r < p.n) (d : Int) (h0 : 0 ≤ d) (h1 : d ≤ 100000) : ∀ m, (∀ k, k < m → 0 ≤ p.netAt r k) → (d ≤ p.bestTo r m ↔ ∀ k, k < m → 0 ≤ p.lowAt r d k)
  | 0, _ => by simp [Pool.bestTo, h1]
  | m + 1, hn => by
    have ih := bestTo_iff p h r hr d h0 h1 m fun k hk => hn k (by omega)
    have hm := most_nonneg p h r hr m
    have hnm := hn m (by omega)
    have key : 0 < p.mostAt r m → (d ≤ (p.netAt r m).tdiv (p.mostAt r m) ↔ 0 ≤ p.lowAt r d m) := fun hp => by
      rw [lowAt_net, Int.tdiv_eq_ediv_of_nonneg hnm, Int.le_ediv_iff_mul_le hp]
      omega
    have step : (∀ k, k < m + 1 → 0 ≤ p.lowAt r d k) ↔ ((∀ k, k < m → 0 ≤ p.lowAt r d k) ∧ 0 ≤ p.lowAt r d m) := by
      constructor
      · intro H; exact ⟨fun k hk => H k (by omega), H m (by omega)⟩
      · rintro ⟨H1, H2⟩ k hk
        by_cases e : k = m
        · subst e; exact H2
        · exact H1 k (by omega)
    rw [step, ← ih]
    simp only [Pool.bestTo]
    by_cases hp : 0 < p.mostAt r m
    · rw [if_pos hp, Int.le_min, key hp]
    · rw [if_neg hp]
      have e0 : p.mostAt r m = 0 := by omega
      have : 0 ≤ p.lowAt r d m := by rw [lowAt_net, e0]; omega
      constructor
      · intro H; exact ⟨H, this⟩
      · intro H; exact H.1
theorem net0_iff (p : Pool) (r : Nat) : 0 ≤ p.sLo r 0 ↔ ∀ k, k < p.num r + 1 → 0 ≤ p.netAt r k := by
  rw [sLo_iff]
  constructor
  · intro H k hk; have := H k hk; rw [lowAt_net] at this; omega
  · intro H k hk; rw [lowAt_net]; have := H k hk; omega
theorem div_neg (p : Pool) (h : p.Fine) (r : Nat) (hr : r < p.n) : p.div r < 0 ↔ p.sLo r 0 < 0 := by
  unfold Pool.div
  have hs := h.step1
  by_cases H : ∀ k, k < p.num r + 1 → 0 ≤ p.netAt r k
  · rw [if_pos H]
    have hb := best_bound p r (p.num r + 1) H
    have := tdiv_le _ p.step hb.1 hs
    have := (net0_iff p r).2 H
    omega
  · rw [if_neg H]
    have : ¬ 0 ≤ p.sLo r 0 := fun h => H ((net0_iff p r).1 h)
    omega
theorem safe_iff (p : Pool) (h : p.Fine) (r : Nat) (hr : r < p.n) (h0 : 0 ≤ p.sLo r 0) (d : Int) (hd0 : 0 ≤ d) (hd1 : d ≤ 100000) : 0 ≤ p.sLo r d ↔ d ≤ p.bestTo r (p.num r + 1) := by
  rw [bestTo_iff p h r hr d hd0 hd1 _ ((net0_iff p r).1 h0), sLo_iff]
theorem div_eq (p : Pool) (h : p.Fine) (r : Nat) (hr : r < p.n) (h0 : 0 ≤ p.sLo r 0) : p.div r = (p.bestTo r (p.num r + 1)).tdiv p.step * p.step := by
  unfold Pool.div
  rw [if_pos ((net0_iff p r).1 h0)]
theorem div_G (p : Pool) (h : p.Fine) (r : Nat) (hr : r < p.n) (h0 : 0 ≤ p.sLo r 0) : p.G r ((p.bestTo r (p.num r + 1)).tdiv p.step) := by
  have hs := h.step1
  have hb := best_bound p r (p.num r + 1) ((net0_iff p r).1 h0)
  have ht := tdiv_le _ p.step hb.1 hs
  have hM0 : 0 ≤ Int.tdiv 100000 p.step := Int.tdiv_nonneg (by omega) (by omega)
  have hMs : Int.tdiv 100000 p.step * p.step ≤ 100000 := (tdiv_le 100000 p.step (by omega) hs).2.2.2
  refine ⟨ht.1, ?_, ?_, ?_⟩
  · rw [Int.tdiv_eq_ediv_of_nonneg hb.1, Int.tdiv_eq_ediv_of_nonneg (by omega)]
    exact Int.ediv_le_ediv (by omega) hb.2
  · right
    rw [wst_sLo p h r hr]
    exact (safe_iff p h r hr h0 _ ht.2.2.1 (by omega)).2 ht.2.2.2
  · intro j hj hjM
    rw [wst_sLo p h r hr]
    have hj0 : 0 ≤ j * p.step := Int.mul_nonneg (by omega) (by omega)
    have hj1 : j * p.step ≤ 100000 := Int.le_trans (Int.mul_le_mul_of_nonneg_right hjM (by omega)) hMs
    have hlt : p.bestTo r (p.num r + 1) < j * p.step := by
      rw [Int.tdiv_eq_ediv_of_nonneg hb.1] at hj
      exact (Int.ediv_lt_iff_lt_mul (by omega)).1 hj
    have := (safe_iff p h r hr h0 (j * p.step) hj0 hj1)
    omega
end Go.Po
end
section
set_option linter.unusedSimpArgs false
set_option linter.unusedVariables false
set_option maxRecDepth 100000
set_option maxHeartbeats 8000000
namespace Go.Po
open Go.Sx
theorem c26 (p : Pool) (hn : p.n ≤ 1000000) (r d : Int) : Contract Go.Proofs.Try.prog 26 [p.sv, I r, I d] (.tup [rg (p.spLo r d) (p.spHi r d), I (p.asked r d)]) := by
  by_cases h : p.asked r d = 0
  · obtain ⟨hf, h0, h1, _, _⟩ := asked_ok h
    have e : r = (r.toNat : Int) := by omega
    have := c26o p hn r.toNat d (by rw [← e]; exact h)
    rw [wst_sLo p hf _ (by omega), bst_sHi p hf _ (by omega), ← e] at this
    unfold Pool.spLo Pool.spHi
    rw [h, if_pos rfl, if_pos rfl]; exact this
  · have := c26e p hn r d h
    unfold Pool.spLo Pool.spHi
    rw [if_neg h, if_neg h]; exact this
theorem c28 (p : Pool) (hn : p.n ≤ 1000000) (r d : Int) : Contract Go.Proofs.Try.prog 28 [p.sv, I r, I d] (.tup [I (p.needV r d), I (p.asked r d)]) := by
  by_cases h : p.asked r d = 0
  · obtain ⟨hf, h0, h1, _, _⟩ := asked_ok h
    have e : r = (r.toNat : Int) := by omega
    have := c28o p hn r.toNat d (by rw [← e]; exact h)
    rw [wst_sLo p hf _ (by omega), ← e] at this
    unfold Pool.needV
    rw [h, if_pos rfl]; exact this
  · have := c28e p hn r d h
    unfold Pool.needV
    rw [if_neg h]; exact this
theorem c32 (p : Pool) (hn : p.n ≤ 1000000) (r : Int) : Contract Go.Proofs.Try.prog 32 [p.sv, I r] (.tup [I (p.divV r), I (p.divE r)]) := by
  by_cases h : p.asked r 0 = 0
  · obtain ⟨hf, h0, h1, _, _⟩ := asked_ok h
    obtain ⟨k, rfl⟩ : ∃ k : Nat, r = (k : Int) := ⟨r.toNat, by omega⟩
    have hk : k < p.n := by omega
    by_cases hs : p.sLo k 0 < 0
    · have := c32p p hn k h (by rw [wst_sLo p hf _ hk]; exact hs)
      have e : p.divE k = 19 := by unfold Pool.divE; rw [if_pos h, if_pos ((div_neg p hf k hk).2 hs)]
      unfold Pool.divV
      rw [e]; exact this
    · have h00 : 0 ≤ p.sLo k 0 := by omega
      have := c32o p hn k h (by rw [wst_sLo p hf _ hk]; exact h00) _ (div_G p hf k hk h00)
      have hd : ¬ p.div k < 0 := fun h => hs ((div_neg p hf k hk).1 h)
      have e : p.divE k = 0 := by unfold Pool.divE; rw [if_pos h, if_neg hd]
      unfold Pool.divV
      rw [e, if_pos rfl, div_eq p hf k hk h00]; exact this
  · have := c32e p hn r h
    have e : p.divE r = p.asked r 0 := by unfold Pool.divE; rw [if_neg h]
    unfold Pool.divV
    rw [e, if_neg h]; exact this
def Pool.wt (p : Pool) (r : Nat) (d : Int) (i : Nat) : Int := p.tru r (p.tAll (p.iW r d)) (p.tMost r (p.iW r d)) i
theorem c30e (p : Pool) (hn : p.n ≤ 1000000) (r d : Int) (h : p.asked r d ≠ 0) : Contract Go.Proofs.Try.prog 30 [p.sv, I r, I d] (.tup [.val (.slice none 0 0), I 0, I (p.asked r d)]) := by
  refine contract_of Go.Proofs.Try.func30 rfl (by kernel_rfl) follows (by kernel_rfl) _ _ (by rw [Go.Proofs.Try.ntmps30]; simp) (by simp [OldL, p.old]; simp [Old, I]) ?_
  unfold I
  conv => arg 4; unfold Pool.sv rngs I
  (repeat' (first | with_reducible refine splitVC_d (fun _ => ?_) (fun _ => ?_) | ((with_reducible refine And.intro ?_ ?_); focus (first | trivial | (simp only [InK]; omega) | omega | (simp only [InK, ne_eq, and_true, true_and]; omega))) | simp -dsimp only [↓RP, RQ0, RQ1, RQ2, RQ3, implies_true, forall_const, Nat.reduceMul, reduceIte, reduceCtorEq, Nat.reduceAdd, Nat.reduceEqDiff, Nat.reduceLT, Nat.reduceLeDiff, ty2, ty3, ty24, ty25, ty28, ty84, Go.Proofs.Try.results30]))
  refine callVC (c64e p hn r d h) (by (simp -dsimp only [↓RP, RQ0, RQ1, RQ2, RQ3, implies_true, forall_const, Nat.reduceMul, reduceIte, reduceCtorEq, Nat.reduceAdd, Nat.reduceEqDiff, Nat.reduceLT, Nat.reduceLeDiff, Pool.sv, rngs, I]); all_goals simp) (by (simp -dsimp only [↓RP, RQ0, RQ1, RQ2, RQ3, implies_true, forall_const, Nat.reduceMul, reduceIte, reduceCtorEq, Nat.reduceAdd, Nat.reduceEqDiff, Nat.reduceLT, Nat.reduceLeDiff, I])) ?_
  (repeat' (first | with_reducible refine splitVC_d (fun _ => ?_) (fun _ => ?_) | ((with_reducible refine And.intro ?_ ?_); focus (first | trivial | (simp only [InK]; omega) | omega | (simp only [InK, ne_eq, and_true, true_and]; omega))) | simp -dsimp only [↓RP, RQ0, RQ1, RQ2, RQ3, implies_true, forall_const, Nat.reduceMul, reduceIte, reduceCtorEq, Nat.reduceAdd, Nat.reduceEqDiff, Nat.reduceLT, Nat.reduceLeDiff, ty2, ty3, ty24, ty25, ty28, ty84, I, Go.Proofs.Try.results30]))
  all_goals first | (exfalso; omega) | skip
theorem c30o (p : Pool) (hn : p.n ≤ 1000000) (r : Nat) (d : Int) (h : p.asked r d = 0) : ContractN Go.Proofs.Try.prog 30 [p.sv, I r, I d] (.rows 2 1 p.n (fun i _ => I (p.wt r d i))) (.tup [.vec 0 p.n 1, I (p.sLo r d), I 0]) := by
  obtain ⟨hf, hr0, hr1, hd0, hd1⟩ := asked_ok h
  have hr : r < p.n := by omega
  have hb := t_bounds p hf r (p.iW r d) hr (iW_lt p r d)
  have hLH := LH p hf
  refine contractN_of Go.Proofs.Try.func30 rfl (by kernel_rfl) follows (by kernel_rfl) _ _ _ (by rw [Go.Proofs.Try.ntmps30]; simp) (by simp [OldL, p.old]; simp [Old, I]) ?_
  conv => arg 4; unfold Pool.sv rngs I
  (repeat' (first | with_reducible refine splitVC_d (fun _ => ?_) (fun _ => ?_) | ((with_reducible refine And.intro ?_ ?_); focus (first | trivial | (simp only [InK]; omega) | omega | (simp only [InK, ne_eq, and_true, true_and]; omega))) | simp -dsimp only [↓RP, RQ0, RQ1, RQ2, RQ3, implies_true, forall_const, Nat.reduceMul, reduceIte, reduceCtorEq, Nat.reduceAdd, Nat.reduceEqDiff, Nat.reduceLT, Nat.reduceLeDiff, ty2, ty3, ty24, ty25, ty28, ty84, ty88, Go.Proofs.Try.results30]))
  refine callN_old (c64o p hn r d h hf) (by (simp -dsimp only [↓RP, RQ0, RQ1, RQ2, RQ3, implies_true, forall_const, Nat.reduceMul, reduceIte, reduceCtorEq, Nat.reduceAdd, Nat.reduceEqDiff, Nat.reduceLT, Nat.reduceLeDiff, Pool.sv, rngs, I]); all_goals simp) (by simp [ClO, ClOL, I]) (by simp [ClB, ClL, Cl, dk, rngs, I, Pool.netsV, gN]) ?_
  (repeat' (first | with_reducible refine splitVC_d (fun _ => ?_) (fun _ => ?_) | ((with_reducible refine And.intro ?_ ?_); focus (first | trivial | (simp only [InK]; omega) | omega | (simp only [InK, ne_eq, and_true, true_and]; omega))) | simp -dsimp only [↓RP, RQ0, RQ1, RQ2, RQ3, implies_true, forall_const, Nat.reduceMul, reduceIte, reduceCtorEq, Nat.reduceAdd, Nat.reduceEqDiff, Nat.reduceLT, Nat.reduceLeDiff, ty2, ty3, ty24, ty25, ty28, ty84, ty88, I, Go.Proofs.Try.results30]))
  rotate_left
  · rename_i hx; exact absurd trivial hx
  refine callVC (c65 p hf r hr d hd0 hd1) (by simp only [SubL]; exact ⟨D_fits p r (by rfl), by (simp -dsimp only [↓RP, RQ0, RQ1, RQ2, RQ3, implies_true, forall_const, Nat.reduceMul, reduceIte, reduceCtorEq, Nat.reduceAdd, Nat.reduceEqDiff, Nat.reduceLT, Nat.reduceLeDiff, I])⟩) (by (simp -dsimp only [↓RP, RQ0, RQ1, RQ2, RQ3, implies_true, forall_const, Nat.reduceMul, reduceIte, reduceCtorEq, Nat.reduceAdd, Nat.reduceEqDiff, Nat.reduceLT, Nat.reduceLeDiff, Pool.tot, tot, I])) ?_
  (repeat' (first | with_reducible refine splitVC_d (fun _ => ?_) (fun _ => ?_) | ((with_reducible refine And.intro ?_ ?_); focus (first | trivial | (simp only [InK]; omega) | omega | (simp only [InK, ne_eq, and_true, true_and]; omega))) | simp -dsimp only [↓RP, RQ0, RQ1, RQ2, RQ3, implies_true, forall_const, Nat.reduceMul, reduceIte, reduceCtorEq, Nat.reduceAdd, Nat.reduceEqDiff, Nat.reduceLT, Nat.reduceLeDiff, ty2, ty3, ty24, ty25, ty28, ty84, ty88, I, Pool.tot, tot, Go.Proofs.Try.results30]))
  refine callN (c69 p hf r hr (p.tAll (p.iW r d)) (p.tMost r (p.iW r d)) (p.tFew r (p.iW r d)) (by omega) (by omega) (by omega) (by omega)) (by simp only [SubL]; exact ⟨D_fits p r (by rfl), by (simp -dsimp only [↓RP, RQ0, RQ1, RQ2, RQ3, implies_true, forall_const, Nat.reduceMul, reduceIte, reduceCtorEq, Nat.reduceAdd, Nat.reduceEqDiff, Nat.reduceLT, Nat.reduceLeDiff, tot, I])⟩) (by simp [FreshO]) (by simp [FreshB, Fresh, I]) ?_
  (repeat' (first | with_reducible refine splitVC_d (fun _ => ?_) (fun _ => ?_) | ((with_reducible refine And.intro ?_ ?_); focus (first | trivial | (simp only [InK]; omega) | omega | (simp only [InK, ne_eq, and_true, true_and]; omega))) | simp -dsimp only [↓RP, RQ0, RQ1, RQ2, RQ3, implies_true, forall_const, Nat.reduceMul, reduceIte, reduceCtorEq, Nat.reduceAdd, Nat.reduceEqDiff, Nat.reduceLT, Nat.reduceLeDiff, ty2, ty3, ty24, ty25, ty28, ty84, ty88, I, Pool.tot, tot, Go.Proofs.Try.results30]))
  refine callVC (c67 p hf r (p.tAll (p.iW r d)) (p.tMost r (p.iW r d)) (p.tFew r (p.iW r d)) (p.tMost r (p.iW r d)) d (by omega) (by omega) hd0 hd1 (by omega) (by omega)) (by simp only [SubL]; exact ⟨D_fits p r (by rfl), by (simp -dsimp only [↓RP, RQ0, RQ1, RQ2, RQ3, implies_true, forall_const, Nat.reduceMul, reduceIte, reduceCtorEq, Nat.reduceAdd, Nat.reduceEqDiff, Nat.reduceLT, Nat.reduceLeDiff, tot, I])⟩) (by (simp -dsimp only [↓RP, RQ0, RQ1, RQ2, RQ3, implies_true, forall_const, Nat.reduceMul, reduceIte, reduceCtorEq, Nat.reduceAdd, Nat.reduceEqDiff, Nat.reduceLT, Nat.reduceLeDiff, I])) ?_
  (repeat' (first | with_reducible refine splitVC_d (fun _ => ?_) (fun _ => ?_) | ((with_reducible refine And.intro ?_ ?_); focus (first | trivial | (simp only [InK]; omega) | omega | (simp only [InK, ne_eq, and_true, true_and]; omega))) | simp -dsimp only [↓RP, RQ0, RQ1, RQ2, RQ3, implies_true, forall_const, Nat.reduceMul, reduceIte, reduceCtorEq, Nat.reduceAdd, Nat.reduceEqDiff, Nat.reduceLT, Nat.reduceLeDiff, ty2, ty3, ty24, ty25, ty28, ty84, ty88, I, Pool.tot, tot, Go.Proofs.Try.results30]))
  have ew := wst_sLo p hf r hr d
  unfold Pool.wst Pool.wW at ew
  rw [ew]
  refine ⟨22, _, rfl, ?_, ?_⟩
  · (simp -dsimp only [↓RP, RQ0, RQ1, RQ2, RQ3, implies_true, forall_const, Nat.reduceMul, reduceIte, reduceCtorEq, Nat.reduceAdd, Nat.reduceEqDiff, Nat.reduceLT, Nat.reduceLeDiff, Pool.wt]); all_goals simp
  · (simp -dsimp only [↓RP, RQ0, RQ1, RQ2, RQ3, implies_true, forall_const, Nat.reduceMul, reduceIte, reduceCtorEq, Nat.reduceAdd, Nat.reduceEqDiff, Nat.reduceLT, Nat.reduceLeDiff])
theorem c37e (p : Pool) (hn : p.n ≤ 1000000) (r d : Int) (h : p.asked r d ≠ 0) : Contract Go.Proofs.Try.prog 37 [p.sv, I r, I d] (.tup [.val (.slice none 0 0), I (p.asked r d)]) := by
  refine contract_of Go.Proofs.Try.func37 rfl (by kernel_rfl) follows (by kernel_rfl) _ _ (by rw [Go.Proofs.Try.ntmps37]; simp) (by simp [OldL, p.old]; simp [Old, I]) ?_
  unfold I
  conv => arg 4; unfold Pool.sv rngs I
  (repeat' (first | with_reducible refine splitVC_d (fun _ => ?_) (fun _ => ?_) | ((with_reducible refine And.intro ?_ ?_); focus (first | trivial | (simp only [InK]; omega) | omega | (simp only [InK, ne_eq, and_true, true_and]; omega))) | simp -dsimp only [↓RP, RQ0, RQ1, RQ2, RQ3, implies_true, forall_const, Nat.reduceMul, reduceIte, reduceCtorEq, Nat.reduceAdd, Nat.reduceEqDiff, Nat.reduceLT, Nat.reduceLeDiff, ty2, ty3, ty24, ty25, ty28, ty84, Go.Proofs.Try.results37]))
  refine callVC (c64e p hn r d h) (by (simp -dsimp only [↓RP, RQ0, RQ1, RQ2, RQ3, implies_true, forall_const, Nat.reduceMul, reduceIte, reduceCtorEq, Nat.reduceAdd, Nat.reduceEqDiff, Nat.reduceLT, Nat.reduceLeDiff, Pool.sv, rngs, I]); all_goals simp) (by (simp -dsimp only [↓RP, RQ0, RQ1, RQ2, RQ3, implies_true, forall_const, Nat.reduceMul, reduceIte, reduceCtorEq, Nat.reduceAdd, Nat.reduceEqDiff, Nat.reduceLT, Nat.reduceLeDiff, I])) ?_
  (repeat' (first | with_reducible refine splitVC_d (fun _ => ?_) (fun _ => ?_) | ((with_reducible refine And.intro ?_ ?_); focus (first | trivial | (simp only [InK]; omega) | omega | (simp only [InK, ne_eq, and_true, true_and]; omega))) | simp -dsimp only [↓RP, RQ0, RQ1, RQ2, RQ3, implies_true, forall_const, Nat.reduceMul, reduceIte, reduceCtorEq, Nat.reduceAdd, Nat.reduceEqDiff, Nat.reduceLT, Nat.reduceLeDiff, ty2, ty3, ty24, ty25, ty28, ty84, I, Go.Proofs.Try.results37]))
  all_goals first | (exfalso; omega) | skip
theorem c37n (p : Pool) (hn : p.n ≤ 1000000) (r : Nat) (d : Int) (h : p.asked r d = 0) (hs : 0 ≤ p.sLo r d) : Contract Go.Proofs.Try.prog 37 [p.sv, I r, I d] (.tup [.val (.slice none 0 0), I 5]) := by
  obtain ⟨hf, hr0, hr1, hd0, hd1⟩ := asked_ok h
  have hr : r < p.n := by omega
  have ew := wst_sLo p hf r hr d
  refine contract_of Go.Proofs.Try.func37 rfl (by kernel_rfl) follows (by kernel_rfl) _ _ (by rw [Go.Proofs.Try.ntmps37]; simp) (by simp [OldL, p.old]; simp [Old, I]) ?_
  unfold I
  conv => arg 4; unfold Pool.sv rngs I
  (repeat' (first | with_reducible refine splitVC_d (fun _ => ?_) (fun _ => ?_) | ((with_reducible refine And.intro ?_ ?_); focus (first | trivial | (simp only [InK]; omega) | omega | (simp only [InK, ne_eq, and_true, true_and]; omega))) | simp -dsimp only [↓RP, RQ0, RQ1, RQ2, RQ3, implies_true, forall_const, Nat.reduceMul, reduceIte, reduceCtorEq, Nat.reduceAdd, Nat.reduceEqDiff, Nat.reduceLT, Nat.reduceLeDiff, ty2, ty3, ty24, ty25, ty28, ty84, Go.Proofs.Try.results37]))
  refine callN_old (c64o p hn r d h hf) (by (simp -dsimp only [↓RP, RQ0, RQ1, RQ2, RQ3, implies_true, forall_const, Nat.reduceMul, reduceIte, reduceCtorEq, Nat.reduceAdd, Nat.reduceEqDiff, Nat.reduceLT, Nat.reduceLeDiff, Pool.sv, rngs, I]); all_goals simp) (by simp [ClO, ClOL, I]) (by simp [ClB, ClL, Cl, dk, rngs, I, Pool.netsV, gN]) ?_
  (repeat' (first | with_reducible refine splitVC_d (fun _ => ?_) (fun _ => ?_) | ((with_reducible refine And.intro ?_ ?_); focus (first | trivial | (simp only [InK]; omega) | omega | (simp only [InK, ne_eq, and_true, true_and]; omega))) | simp -dsimp only [↓RP, RQ0, RQ1, RQ2, RQ3, implies_true, forall_const, Nat.reduceMul, reduceIte, reduceCtorEq, Nat.reduceAdd, Nat.reduceEqDiff, Nat.reduceLT, Nat.reduceLeDiff, ty2, ty3, ty24, ty25, ty28, ty84, I, Go.Proofs.Try.results37]))
  rotate_left
  · rename_i hx; exact absurd trivial hx
  refine callVC (c70 p hf r hr d hd0 hd1) (by simp only [SubL]; exact ⟨D_fits p r (by rfl), by (simp -dsimp only [↓RP, RQ0, RQ1, RQ2, RQ3, implies_true, forall_const, Nat.reduceMul, reduceIte, reduceCtorEq, Nat.reduceAdd, Nat.reduceEqDiff, Nat.reduceLT, Nat.reduceLeDiff, I])⟩) (by (simp -dsimp only [↓RP, RQ0, RQ1, RQ2, RQ3, implies_true, forall_const, Nat.reduceMul, reduceIte, reduceCtorEq, Nat.reduceAdd, Nat.reduceEqDiff, Nat.reduceLT, Nat.reduceLeDiff, I])) ?_
  (repeat' (first | with_reducible refine splitVC_d (fun _ => ?_) (fun _ => ?_) | ((with_reducible refine And.intro ?_ ?_); focus (first | trivial | (simp only [InK]; omega) | omega | (simp only [InK, ne_eq, and_true, true_and]; omega))) | simp -dsimp only [↓RP, RQ0, RQ1, RQ2, RQ3, implies_true, forall_const, Nat.reduceMul, reduceIte, reduceCtorEq, Nat.reduceAdd, Nat.reduceEqDiff, Nat.reduceLT, Nat.reduceLeDiff, ty2, ty3, ty24, ty25, ty28, ty84, I, Go.Proofs.Try.results37]))
  all_goals first | (exfalso; omega) | skip
theorem c37o (p : Pool) (hn : p.n ≤ 1000000) (r : Nat) (d : Int) (h : p.asked r d = 0) (hs : p.sLo r d < 0) : ContractN Go.Proofs.Try.prog 37 [p.sv, I r, I d] (.rows 2 1 p.n (fun i _ => I (p.wt r d i))) (.tup [.vec 0 p.n 1, I 0]) := by
  obtain ⟨hf, hr0, hr1, hd0, hd1⟩ := asked_ok h
  have hr : r < p.n := by omega
  have hb := t_bounds p hf r (p.iW r d) hr (iW_lt p r d)
  have hLH := LH p hf
  have ew := wst_sLo p hf r hr d
  refine contractN_of Go.Proofs.Try.func37 rfl (by kernel_rfl) follows (by kernel_rfl) _ _ _ (by rw [Go.Proofs.Try.ntmps37]; simp) (by simp [OldL, p.old]; simp [Old, I]) ?_
  conv => arg 4; unfold Pool.sv rngs I
  (repeat' (first | with_reducible refine splitVC_d (fun _ => ?_) (fun _ => ?_) | ((with_reducible refine And.intro ?_ ?_); focus (first | trivial | (simp only [InK]; omega) | omega | (simp only [InK, ne_eq, and_true, true_and]; omega))) | simp -dsimp only [↓RP, RQ0, RQ1, RQ2, RQ3, implies_true, forall_const, Nat.reduceMul, reduceIte, reduceCtorEq, Nat.reduceAdd, Nat.reduceEqDiff, Nat.reduceLT, Nat.reduceLeDiff, ty2, ty3, ty24, ty25, ty28, ty84, ty88, Go.Proofs.Try.results37]))
  refine callN_old (c64o p hn r d h hf) (by (simp -dsimp only [↓RP, RQ0, RQ1, RQ2, RQ3, implies_true, forall_const, Nat.reduceMul, reduceIte, reduceCtorEq, Nat.reduceAdd, Nat.reduceEqDiff, Nat.reduceLT, Nat.reduceLeDiff, Pool.sv, rngs, I]); all_goals simp) (by simp [ClO, ClOL, I]) (by simp [ClB, ClL, Cl, dk, rngs, I, Pool.netsV, gN]) ?_
  (repeat' (first | with_reducible refine splitVC_d (fun _ => ?_) (fun _ => ?_) | ((with_reducible refine And.intro ?_ ?_); focus (first | trivial | (simp only [InK]; omega) | omega | (simp only [InK, ne_eq, and_true, true_and]; omega))) | simp -dsimp only [↓RP, RQ0, RQ1, RQ2, RQ3, implies_true, forall_const, Nat.reduceMul, reduceIte, reduceCtorEq, Nat.reduceAdd, Nat.reduceEqDiff, Nat.reduceLT, Nat.reduceLeDiff, ty2, ty3, ty24, ty25, ty28, ty84, ty88, I, Go.Proofs.Try.results37]))
  rotate_left
  · rename_i hx; exact absurd trivial hx
  refine callVC (c70 p hf r hr d hd0 hd1) (by simp only [SubL]; exact ⟨D_fits p r (by rfl), by (simp -dsimp only [↓RP, RQ0, RQ1, RQ2, RQ3, implies_true, forall_const, Nat.reduceMul, reduceIte, reduceCtorEq, Nat.reduceAdd, Nat.reduceEqDiff, Nat.reduceLT, Nat.reduceLeDiff, I])⟩) (by (simp -dsimp only [↓RP, RQ0, RQ1, RQ2, RQ3, implies_true, forall_const, Nat.reduceMul, reduceIte, reduceCtorEq, Nat.reduceAdd, Nat.reduceEqDiff, Nat.reduceLT, Nat.reduceLeDiff, I])) ?_
  (repeat' (first | with_reducible refine splitVC_d (fun _ => ?_) (fun _ => ?_) | ((with_reducible refine And.intro ?_ ?_); focus (first | trivial | (simp only [InK]; omega) | omega | (simp only [InK, ne_eq, and_true, true_and]; omega))) | simp -dsimp only [↓RP, RQ0, RQ1, RQ2, RQ3, implies_true, forall_const, Nat.reduceMul, reduceIte, reduceCtorEq, Nat.reduceAdd, Nat.reduceEqDiff, Nat.reduceLT, Nat.reduceLeDiff, ty2, ty3, ty24, ty25, ty28, ty84, ty88, I, Go.Proofs.Try.results37]))
  · exfalso; omega
  refine callVC (c65 p hf r hr d hd0 hd1) (by simp only [SubL]; exact ⟨D_fits p r (by rfl), by (simp -dsimp only [↓RP, RQ0, RQ1, RQ2, RQ3, implies_true, forall_const, Nat.reduceMul, reduceIte, reduceCtorEq, Nat.reduceAdd, Nat.reduceEqDiff, Nat.reduceLT, Nat.reduceLeDiff, I])⟩) (by (simp -dsimp only [↓RP, RQ0, RQ1, RQ2, RQ3, implies_true, forall_const, Nat.reduceMul, reduceIte, reduceCtorEq, Nat.reduceAdd, Nat.reduceEqDiff, Nat.reduceLT, Nat.reduceLeDiff, Pool.tot, tot, I])) ?_
  (repeat' (first | with_reducible refine splitVC_d (fun _ => ?_) (fun _ => ?_) | ((with_reducible refine And.intro ?_ ?_); focus (first | trivial | (simp only [InK]; omega) | omega | (simp only [InK, ne_eq, and_true, true_and]; omega))) | simp -dsimp only [↓RP, RQ0, RQ1, RQ2, RQ3, implies_true, forall_const, Nat.reduceMul, reduceIte, reduceCtorEq, Nat.reduceAdd, Nat.reduceEqDiff, Nat.reduceLT, Nat.reduceLeDiff, ty2, ty3, ty24, ty25, ty28, ty84, ty88, I, Pool.tot, tot, Go.Proofs.Try.results37]))
  refine callN (c69 p hf r hr (p.tAll (p.iW r d)) (p.tMost r (p.iW r d)) (p.tFew r (p.iW r d)) (by omega) (by omega) (by omega) (by omega)) (by simp only [SubL]; exact ⟨D_fits p r (by rfl), by (simp -dsimp only [↓RP, RQ0, RQ1, RQ2, RQ3, implies_true, forall_const, Nat.reduceMul, reduceIte, reduceCtorEq, Nat.reduceAdd, Nat.reduceEqDiff, Nat.reduceLT, Nat.reduceLeDiff, tot, I])⟩) (by simp [FreshO]) (by simp [FreshB, Fresh, I]) ?_
  (repeat' (first | with_reducible refine splitVC_d (fun _ => ?_) (fun _ => ?_) | ((with_reducible refine And.intro ?_ ?_); focus (first | trivial | (simp only [InK]; omega) | omega | (simp only [InK, ne_eq, and_true, true_and]; omega))) | simp -dsimp only [↓RP, RQ0, RQ1, RQ2, RQ3, implies_true, forall_const, Nat.reduceMul, reduceIte, reduceCtorEq, Nat.reduceAdd, Nat.reduceEqDiff, Nat.reduceLT, Nat.reduceLeDiff, ty2, ty3, ty24, ty25, ty28, ty84, ty88, I, Pool.tot, tot, Go.Proofs.Try.results37]))
  refine ⟨23, _, rfl, ?_, ?_⟩
  · (simp -dsimp only [↓RP, RQ0, RQ1, RQ2, RQ3, implies_true, forall_const, Nat.reduceMul, reduceIte, reduceCtorEq, Nat.reduceAdd, Nat.reduceEqDiff, Nat.reduceLT, Nat.reduceLeDiff, Pool.wt]); all_goals simp
  · (simp -dsimp only [↓RP, RQ0, RQ1, RQ2, RQ3, implies_true, forall_const, Nat.reduceMul, reduceIte, reduceCtorEq, Nat.reduceAdd, Nat.reduceEqDiff, Nat.reduceLT, Nat.reduceLeDiff])
end Go.Po
end
section
set_option linter.unusedSimpArgs false
set_option linter.unusedVariables false
set_option maxRecDepth 100000
set_option maxHeartbeats 8000000
namespace Go.Po
open Go.Sx
theorem c34e (p : Pool) (hn : p.n ≤ 1000000) (h : p.err ≠ 0) : Contract Go.Proofs.Try.prog 34 [p.sv] (.tup [.val (.slice none 0 0), I p.err]) := by
  refine contract_of Go.Proofs.Try.func34 rfl (by kernel_rfl) follows (by kernel_rfl) _ _ (by rw [Go.Proofs.Try.ntmps34]; simp) (by simp [OldL, p.old]) ?_
  unfold I
  conv => arg 4; unfold Pool.sv rngs I
  (repeat' (first | with_reducible refine splitVC_d (fun _ => ?_) (fun _ => ?_) | ((with_reducible refine And.intro ?_ ?_); focus (first | trivial | (simp only [InK]; omega) | omega | (simp only [InK, ne_eq, and_true, true_and]; omega))) | simp -dsimp only [↓RP, RQ0, RQ1, RQ2, RQ3, implies_true, forall_const, Nat.reduceMul, reduceIte, reduceCtorEq, Nat.reduceAdd, Nat.reduceEqDiff, Nat.reduceLT, Nat.reduceLeDiff, ty2, ty3, ty22, ty24, ty25, ty28, Go.Proofs.Try.results34]))
  refine callVC (c24 p hn) (by (simp -dsimp only [↓RP, RQ0, RQ1, RQ2, RQ3, implies_true, forall_const, Nat.reduceMul, reduceIte, reduceCtorEq, Nat.reduceAdd, Nat.reduceEqDiff, Nat.reduceLT, Nat.reduceLeDiff, Pool.sv, rngs, I]); simp) (by (simp -dsimp only [↓RP, RQ0, RQ1, RQ2, RQ3, implies_true, forall_const, Nat.reduceMul, reduceIte, reduceCtorEq, Nat.reduceAdd, Nat.reduceEqDiff, Nat.reduceLT, Nat.reduceLeDiff, I])) ?_
  (repeat' (first | with_reducible refine splitVC_d (fun _ => ?_) (fun _ => ?_) | ((with_reducible refine And.intro ?_ ?_); focus (first | trivial | (simp only [InK]; omega) | omega | (simp only [InK, ne_eq, and_true, true_and]; omega))) | simp -dsimp only [↓RP, RQ0, RQ1, RQ2, RQ3, implies_true, forall_const, Nat.reduceMul, reduceIte, reduceCtorEq, Nat.reduceAdd, Nat.reduceEqDiff, Nat.reduceLT, Nat.reduceLeDiff, I, ty2, ty3, ty22, ty24, ty25, ty28, Go.Proofs.Try.results34]))
  · exfalso; exact h (by assumption)
theorem divE_ok {p : Pool} (h : p.err = 0) {k : Nat} (hk : k < p.n) (hd : 0 ≤ p.div k) : p.divE k = 0 ∧ p.divV k = p.div k := by
  have ha : p.asked k 0 = 0 := by
    unfold Pool.asked
    rw [if_pos h, if_neg (by omega), if_pos ⟨by omega, by omega, by simp⟩]
  have e : p.divE k = 0 := by unfold Pool.divE; rw [if_pos ha, if_neg (by omega)]
  exact ⟨e, by unfold Pool.divV; rw [e, if_pos rfl]⟩
theorem divE_no {p : Pool} (h : p.err = 0) {k : Nat} (hk : k < p.n) (hd : p.div k < 0) : p.divE k = 19 ∧ p.divV k = 0 := by
  have ha : p.asked k 0 = 0 := by
    unfold Pool.asked
    rw [if_pos h, if_neg (by omega), if_pos ⟨by omega, by omega, by simp⟩]
  have e : p.divE k = 19 := by unfold Pool.divE; rw [if_pos ha, if_pos hd]
  exact ⟨e, by unfold Pool.divV; rw [e, if_neg (by omega)]⟩
theorem c34p (p : Pool) (h : p.err = 0) (k : Nat) (hk : k < p.n) (hlt : ∀ j : Nat, j < k → 0 ≤ p.div j) (hb : p.div k < 0) : Contract Go.Proofs.Try.prog 34 [p.sv] (.tup [.val (.slice none 0 0), I 19]) := by
  refine contract_of Go.Proofs.Try.func34 rfl (by kernel_rfl) follows (by kernel_rfl) _ _ (by rw [Go.Proofs.Try.ntmps34]; simp) (by simp [OldL, p.old]) ?_
  have hf := Pool.fine h
  have h8 := hf.n8
  unfold I
  conv => arg 4; unfold Pool.sv rngs I
  (repeat' (first | with_reducible refine splitVC_d (fun _ => ?_) (fun _ => ?_) | ((with_reducible refine And.intro ?_ ?_); focus (first | trivial | (simp only [InK]; omega) | omega | (simp only [InK, ne_eq, and_true, true_and]; omega))) | simp -dsimp only [↓RP, RQ0, RQ1, RQ2, RQ3, implies_true, forall_const, Nat.reduceMul, reduceIte, reduceCtorEq, Nat.reduceAdd, Nat.reduceEqDiff, Nat.reduceLT, Nat.reduceLeDiff, ty2, ty3, ty22, ty24, ty25, ty28, Go.Proofs.Try.results34]))
  refine callVC (c24 p (by omega)) (by (simp -dsimp only [↓RP, RQ0, RQ1, RQ2, RQ3, implies_true, forall_const, Nat.reduceMul, reduceIte, reduceCtorEq, Nat.reduceAdd, Nat.reduceEqDiff, Nat.reduceLT, Nat.reduceLeDiff, Pool.sv, rngs, I]); simp) (by (simp -dsimp only [↓RP, RQ0, RQ1, RQ2, RQ3, implies_true, forall_const, Nat.reduceMul, reduceIte, reduceCtorEq, Nat.reduceAdd, Nat.reduceEqDiff, Nat.reduceLT, Nat.reduceLeDiff, I])) ?_
  rw [h]
  (repeat' (first | with_reducible refine splitVC_d (fun _ => ?_) (fun _ => ?_) | ((with_reducible refine And.intro ?_ ?_); focus (first | trivial | (simp only [InK]; omega) | omega | (simp only [InK, ne_eq, and_true, true_and]; omega))) | simp -dsimp only [↓RP, RQ0, RQ1, RQ2, RQ3, implies_true, forall_const, Nat.reduceMul, reduceIte, reduceCtorEq, Nat.reduceAdd, Nat.reduceEqDiff, Nat.reduceLT, Nat.reduceLeDiff, I, ty2, ty3, ty22, ty24, ty25, ty28, Go.Proofs.Try.results34]))
  rotate_left
  · exfalso; rename_i hx; exact hx trivial
  refine loop_vc (fun i => i ≤ k) (fun i => ⟨[(1, .ptr 0 0), (5, .vec 80 i 1), (17, .val (.int .i64 p.n)), (18, .val (.int .i64 i))], [(80, .rows 2 1 i (fun j _ => .val (.int .i64 (p.div j)))), (0, pB p)], 81⟩) (fun i => p.n - i) 0 (Nat.zero_le _) (weak [(80, none)] [] ?_ ?_ ?_) fun i hi => ?_
  · (simp -dsimp only [↓RP, RQ0, RQ1, RQ2, RQ3, implies_true, forall_const, Nat.reduceMul, reduceIte, reduceCtorEq, Nat.reduceAdd, Nat.reduceEqDiff, Nat.reduceLT, Nat.reduceLeDiff]); all_goals simp
  · (simp -dsimp only [↓RP, RQ0, RQ1, RQ2, RQ3, implies_true, forall_const, Nat.reduceMul, reduceIte, reduceCtorEq, Nat.reduceAdd, Nat.reduceEqDiff, Nat.reduceLT, Nat.reduceLeDiff]); all_goals simp
  · (simp -dsimp only [↓RP, RQ0, RQ1, RQ2, RQ3, implies_true, forall_const, Nat.reduceMul, reduceIte, reduceCtorEq, Nat.reduceAdd, Nat.reduceEqDiff, Nat.reduceLT, Nat.reduceLeDiff]); all_goals simp
  (repeat' (first | with_reducible refine splitVC_d (fun _ => ?_) (fun _ => ?_) | ((with_reducible refine And.intro ?_ ?_); focus (first | trivial | (simp only [InK]; omega) | omega | (simp only [InK, ne_eq, and_true, true_and]; omega))) | simp -dsimp only [↓RP, RQ0, RQ1, RQ2, RQ3, implies_true, forall_const, Nat.reduceMul, reduceIte, reduceCtorEq, Nat.reduceAdd, Nat.reduceEqDiff, Nat.reduceLT, Nat.reduceLeDiff, I, ty2, ty3, ty22, ty24, ty25, ty28, Go.Proofs.Try.results34]))
  refine callVC (c32 p (by omega) i) (by (simp -dsimp only [↓RP, RQ0, RQ1, RQ2, RQ3, implies_true, forall_const, Nat.reduceMul, reduceIte, reduceCtorEq, Nat.reduceAdd, Nat.reduceEqDiff, Nat.reduceLT, Nat.reduceLeDiff, Pool.sv, rngs, I]); simp) (by (simp -dsimp only [↓RP, RQ0, RQ1, RQ2, RQ3, implies_true, forall_const, Nat.reduceMul, reduceIte, reduceCtorEq, Nat.reduceAdd, Nat.reduceEqDiff, Nat.reduceLT, Nat.reduceLeDiff, I])) ?_
  by_cases e : i = k
  · subst e
    rw [(divE_no h hk hb).1, (divE_no h hk hb).2]
    (repeat' (first | with_reducible refine splitVC_d (fun _ => ?_) (fun _ => ?_) | ((with_reducible refine And.intro ?_ ?_); focus (first | trivial | (simp only [InK]; omega) | omega | (simp only [InK, ne_eq, and_true, true_and]; omega))) | simp -dsimp only [↓RP, RQ0, RQ1, RQ2, RQ3, implies_true, forall_const, Nat.reduceMul, reduceIte, reduceCtorEq, Nat.reduceAdd, Nat.reduceEqDiff, Nat.reduceLT, Nat.reduceLeDiff, I, ty2, ty3, ty22, ty24, ty25, ty28, by2, Go.Proofs.Try.results34]))
    exfalso; omega
  · have hi' := hlt i (by omega)
    rw [(divE_ok h (by omega) hi').1, (divE_ok h (by omega) hi').2]
    (repeat' (first | with_reducible refine splitVC_d (fun _ => ?_) (fun _ => ?_) | ((with_reducible refine And.intro ?_ ?_); focus (first | trivial | (simp only [InK]; omega) | omega | (simp only [InK, ne_eq, and_true, true_and]; omega))) | simp -dsimp only [↓RP, RQ0, RQ1, RQ2, RQ3, implies_true, forall_const, Nat.reduceMul, reduceIte, reduceCtorEq, Nat.reduceAdd, Nat.reduceEqDiff, Nat.reduceLT, Nat.reduceLeDiff, I, ty2, ty3, ty22, ty24, ty25, ty28, by2, Go.Proofs.Try.results34]))
    · refine ⟨⟨Nat.le_refl _, .inr trivial, by omega⟩, by (first | trivial | (simp only [InK]; omega) | omega | (simp only [InK, ne_eq, and_true, true_and]; omega)), i + 1, by omega, by omega, weak [(80, some 102)] [] ?_ ?_ ?_⟩
      · (simp -dsimp only [↓RP, RQ0, RQ1, RQ2, RQ3, implies_true, forall_const, Nat.reduceMul, reduceIte, reduceCtorEq, Nat.reduceAdd, Nat.reduceEqDiff, Nat.reduceLT, Nat.reduceLeDiff]); all_goals simp
      · (simp -dsimp only [↓RP, RQ0, RQ1, RQ2, RQ3, implies_true, forall_const, Nat.reduceMul, reduceIte, reduceCtorEq, Nat.reduceAdd, Nat.reduceEqDiff, Nat.reduceLT, Nat.reduceLeDiff]); all_goals simp
        exact fun a h1 h2 => app2 (fun j => .val (.int .i64 (p.div j))) i a h1 h2
      · (simp -dsimp only [↓RP, RQ0, RQ1, RQ2, RQ3, implies_true, forall_const, Nat.reduceMul, reduceIte, reduceCtorEq, Nat.reduceAdd, Nat.reduceEqDiff, Nat.reduceLT, Nat.reduceLeDiff]); all_goals simp
    · rename_i hx; exact absurd trivial hx
  · exfalso; omega
theorem c34o (p : Pool) (h : p.err = 0) (hlt : ∀ j : Nat, j < p.n → 0 ≤ p.div j) : ContractN Go.Proofs.Try.prog 34 [p.sv] (.rows 2 1 p.n (fun j _ => I (p.div j))) (.tup [.vec 0 p.n 1, I 0]) := by
  refine contractN_of Go.Proofs.Try.func34 rfl (by kernel_rfl) follows (by kernel_rfl) _ _ _ (by rw [Go.Proofs.Try.ntmps34]; simp) (by simp [OldL, p.old]) ?_
  have hf := Pool.fine h
  have h8 := hf.n8
  unfold I
  conv => arg 4; unfold Pool.sv rngs I
  (repeat' (first | with_reducible refine splitVC_d (fun _ => ?_) (fun _ => ?_) | ((with_reducible refine And.intro ?_ ?_); focus (first | trivial | (simp only [InK]; omega) | omega | (simp only [InK, ne_eq, and_true, true_and]; omega))) | simp -dsimp only [↓RP, RQ0, RQ1, RQ2, RQ3, implies_true, forall_const, Nat.reduceMul, reduceIte, reduceCtorEq, Nat.reduceAdd, Nat.reduceEqDiff, Nat.reduceLT, Nat.reduceLeDiff, ty2, ty3, ty22, ty24, ty25, ty28, Go.Proofs.Try.results34]))
  refine callVC (c24 p (by omega)) (by (simp -dsimp only [↓RP, RQ0, RQ1, RQ2, RQ3, implies_true, forall_const, Nat.reduceMul, reduceIte, reduceCtorEq, Nat.reduceAdd, Nat.reduceEqDiff, Nat.reduceLT, Nat.reduceLeDiff, Pool.sv, rngs, I]); simp) (by (simp -dsimp only [↓RP, RQ0, RQ1, RQ2, RQ3, implies_true, forall_const, Nat.reduceMul, reduceIte, reduceCtorEq, Nat.reduceAdd, Nat.reduceEqDiff, Nat.reduceLT, Nat.reduceLeDiff, I])) ?_
  rw [h]
  (repeat' (first | with_reducible refine splitVC_d (fun _ => ?_) (fun _ => ?_) | ((with_reducible refine And.intro ?_ ?_); focus (first | trivial | (simp only [InK]; omega) | omega | (simp only [InK, ne_eq, and_true, true_and]; omega))) | simp -dsimp only [↓RP, RQ0, RQ1, RQ2, RQ3, implies_true, forall_const, Nat.reduceMul, reduceIte, reduceCtorEq, Nat.reduceAdd, Nat.reduceEqDiff, Nat.reduceLT, Nat.reduceLeDiff, I, ty2, ty3, ty22, ty24, ty25, ty28, Go.Proofs.Try.results34]))
  rotate_left
  · exfalso; rename_i hx; exact hx trivial
  refine loop_vc (fun i => i ≤ p.n) (fun i => ⟨[(1, .ptr 0 0), (5, .vec 80 i 1), (17, .val (.int .i64 p.n)), (18, .val (.int .i64 i))], [(80, .rows 2 1 i (fun j _ => .val (.int .i64 (p.div j)))), (0, pB p)], 81⟩) (fun i => p.n - i) 0 (Nat.zero_le _) (weak [(80, none)] [] ?_ ?_ ?_) fun i hi => ?_
  · (simp -dsimp only [↓RP, RQ0, RQ1, RQ2, RQ3, implies_true, forall_const, Nat.reduceMul, reduceIte, reduceCtorEq, Nat.reduceAdd, Nat.reduceEqDiff, Nat.reduceLT, Nat.reduceLeDiff]); all_goals simp
  · (simp -dsimp only [↓RP, RQ0, RQ1, RQ2, RQ3, implies_true, forall_const, Nat.reduceMul, reduceIte, reduceCtorEq, Nat.reduceAdd, Nat.reduceEqDiff, Nat.reduceLT, Nat.reduceLeDiff]); all_goals simp
  · (simp -dsimp only [↓RP, RQ0, RQ1, RQ2, RQ3, implies_true, forall_const, Nat.reduceMul, reduceIte, reduceCtorEq, Nat.reduceAdd, Nat.reduceEqDiff, Nat.reduceLT, Nat.reduceLeDiff]); all_goals simp
  by_cases e : i < p.n
  · have hi' := hlt i (by omega)
    (repeat' (first | with_reducible refine splitVC_d (fun _ => ?_) (fun _ => ?_) | ((with_reducible refine And.intro ?_ ?_); focus (first | trivial | (simp only [InK]; omega) | omega | (simp only [InK, ne_eq, and_true, true_and]; omega))) | simp -dsimp only [↓RP, RQ0, RQ1, RQ2, RQ3, implies_true, forall_const, Nat.reduceMul, reduceIte, reduceCtorEq, Nat.reduceAdd, Nat.reduceEqDiff, Nat.reduceLT, Nat.reduceLeDiff, I, ty2, ty3, ty22, ty24, ty25, ty28, Go.Proofs.Try.results34]))
    · refine callVC (c32 p (by omega) i) (by (simp -dsimp only [↓RP, RQ0, RQ1, RQ2, RQ3, implies_true, forall_const, Nat.reduceMul, reduceIte, reduceCtorEq, Nat.reduceAdd, Nat.reduceEqDiff, Nat.reduceLT, Nat.reduceLeDiff, Pool.sv, rngs, I]); simp) (by (simp -dsimp only [↓RP, RQ0, RQ1, RQ2, RQ3, implies_true, forall_const, Nat.reduceMul, reduceIte, reduceCtorEq, Nat.reduceAdd, Nat.reduceEqDiff, Nat.reduceLT, Nat.reduceLeDiff, I])) ?_
      rw [(divE_ok h (by omega) hi').1, (divE_ok h (by omega) hi').2]
      (repeat' (first | with_reducible refine splitVC_d (fun _ => ?_) (fun _ => ?_) | ((with_reducible refine And.intro ?_ ?_); focus (first | trivial | (simp only [InK]; omega) | omega | (simp only [InK, ne_eq, and_true, true_and]; omega))) | simp -dsimp only [↓RP, RQ0, RQ1, RQ2, RQ3, implies_true, forall_const, Nat.reduceMul, reduceIte, reduceCtorEq, Nat.reduceAdd, Nat.reduceEqDiff, Nat.reduceLT, Nat.reduceLeDiff, I, ty2, ty3, ty22, ty24, ty25, ty28, by2, Go.Proofs.Try.results34]))
      · refine ⟨⟨Nat.le_refl _, .inr trivial, by omega⟩, by (first | trivial | (simp only [InK]; omega) | omega | (simp only [InK, ne_eq, and_true, true_and]; omega)), i + 1, by omega, by omega, weak [(80, some 102)] [] ?_ ?_ ?_⟩
        · (simp -dsimp only [↓RP, RQ0, RQ1, RQ2, RQ3, implies_true, forall_const, Nat.reduceMul, reduceIte, reduceCtorEq, Nat.reduceAdd, Nat.reduceEqDiff, Nat.reduceLT, Nat.reduceLeDiff]); all_goals simp
        · (simp -dsimp only [↓RP, RQ0, RQ1, RQ2, RQ3, implies_true, forall_const, Nat.reduceMul, reduceIte, reduceCtorEq, Nat.reduceAdd, Nat.reduceEqDiff, Nat.reduceLT, Nat.reduceLeDiff]); all_goals simp
          exact fun a h1 h2 => app2 (fun j => .val (.int .i64 (p.div j))) i a h1 h2
        · (simp -dsimp only [↓RP, RQ0, RQ1, RQ2, RQ3, implies_true, forall_const, Nat.reduceMul, reduceIte, reduceCtorEq, Nat.reduceAdd, Nat.reduceEqDiff, Nat.reduceLT, Nat.reduceLeDiff]); all_goals simp
      · rename_i hx; exact absurd trivial hx
    all_goals first | (exfalso; omega) | skip
  · have e : i = p.n := by omega
    subst e
    (repeat' (first | with_reducible refine splitVC_d (fun _ => ?_) (fun _ => ?_) | ((with_reducible refine And.intro ?_ ?_); focus (first | trivial | (simp only [InK]; omega) | omega | (simp only [InK, ne_eq, and_true, true_and]; omega))) | simp -dsimp only [↓RP, RQ0, RQ1, RQ2, RQ3, implies_true, forall_const, Nat.reduceMul, reduceIte, reduceCtorEq, Nat.reduceAdd, Nat.reduceEqDiff, Nat.reduceLT, Nat.reduceLeDiff, I, ty2, ty3, ty22, ty24, ty25, ty28, by2, Go.Proofs.Try.results34]))
    all_goals first | (exfalso; omega) | skip
    refine ⟨⟨Nat.le_refl _, .inr trivial, Nat.le_refl _⟩, 84, _, rfl, ?_, ?_⟩
    · (simp -dsimp only [↓RP, RQ0, RQ1, RQ2, RQ3, implies_true, forall_const, Nat.reduceMul, reduceIte, reduceCtorEq, Nat.reduceAdd, Nat.reduceEqDiff, Nat.reduceLT, Nat.reduceLeDiff]); all_goals simp
      exact fun j h1 h2 => absurd h2 (by omega)
    · (simp -dsimp only [↓RP, RQ0, RQ1, RQ2, RQ3, implies_true, forall_const, Nat.reduceMul, reduceIte, reduceCtorEq, Nat.reduceAdd, Nat.reduceEqDiff, Nat.reduceLT, Nat.reduceLeDiff])
end Go.Po
end
