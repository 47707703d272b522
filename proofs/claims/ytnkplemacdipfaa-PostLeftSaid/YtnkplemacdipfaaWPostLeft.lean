/- A part of the proof. -/
import Derived.Test.YtnkplemacdipfaaLB
import Derived.Test.YtnkplemacdipfaaED
section
set_option linter.unusedSimpArgs false
set_option linter.unusedVariables false
set_option maxRecDepth 100000
set_option maxHeartbeats 16000000
namespace Go.Po
open Go.Sx
theorem c10 (hw : Wk19) (p : Pool) (rr : Int) (hr0 : 0 ≤ rr) (hr1 : rr ≤ 255) (b : Int) (hb0 : 0 ≤ b) (hb1 : b ≤ 4294967295) (b2 : Int) (hb20 : 0 ≤ b2) (hb21 : b2 ≤ 4294967295) (m : Nat) (u : Nat → Int) (hu : ∀ i, i < m → 0 ≤ u i ∧ u i ≤ 255) : Contract Go.Proofs.Try.prog 10 [p.sv, .val (.int .u8 rr), .val (.int .u32 b), .val (.int .u32 b2), by8 m u] (B true) := by
  refine contract_of Go.Proofs.Try.func10 rfl (by kernel_rfl) follows (by kernel_rfl) _ _ (by rw [Go.Proofs.Try.ntmps10]; simp) (by simp only [OldL]; simp [Pool.old, pools_old, Old, ints, I, by8]) ?_
  unfold B
  conv => arg 4; unfold Pool.sv rngs I by8
  simp only [List.append_eq, List.cons_append, List.nil_append]
  (repeat' (first | with_reducible refine splitVC_d (fun _ => ?_) (fun _ => ?_) | ((with_reducible refine And.intro ?_ ?_); focus (first | trivial | (simp only [InK]; omega) | omega | (simp only [InK, ne_eq, and_true, true_and]; omega))) | simp -dsimp only [↓RP, RQ0, RQ1, RQ2, RQ3, implies_true, forall_const, Nat.reduceMul, reduceIte, reduceCtorEq, Nat.reduceAdd, Nat.reduceEqDiff, Nat.reduceLT, Nat.reduceLeDiff, B, I, rg, Nat.zero_add, ty2, ty3, ty4, ty5, ty22, ty24, ty25, ty28, ty35, pl35, eq35, ty52, ty56, ty57, Int.reduceEq, decide_true, decide_false, Bool.not_true, Bool.not_false, eq_self, Go.Proofs.Try.results10]))
  refine callVC (c43 p) (by (simp -dsimp only [↓RP, RQ0, RQ1, RQ2, RQ3, implies_true, forall_const, Nat.reduceMul, reduceIte, reduceCtorEq, Nat.reduceAdd, Nat.reduceEqDiff, Nat.reduceLT, Nat.reduceLeDiff, Pool.sv, rngs, I, ints]); all_goals (try simp)) (by (simp -dsimp only [↓RP, RQ0, RQ1, RQ2, RQ3, implies_true, forall_const, Nat.reduceMul, reduceIte, reduceCtorEq, Nat.reduceAdd, Nat.reduceEqDiff, Nat.reduceLT, Nat.reduceLeDiff, B, I, rg])) ?_
  (repeat' (first | with_reducible refine splitVC_d (fun _ => ?_) (fun _ => ?_) | ((with_reducible refine And.intro ?_ ?_); focus (first | trivial | (simp only [InK]; omega) | omega | (simp only [InK, ne_eq, and_true, true_and]; omega))) | simp -dsimp only [↓RP, RQ0, RQ1, RQ2, RQ3, implies_true, forall_const, Nat.reduceMul, reduceIte, reduceCtorEq, Nat.reduceAdd, Nat.reduceEqDiff, Nat.reduceLT, Nat.reduceLeDiff, B, I, rg, Nat.zero_add, ty2, ty3, ty4, ty5, ty22, ty24, ty25, ty28, ty35, pl35, eq35, ty52, ty56, ty57, Int.reduceEq, decide_true, decide_false, Bool.not_true, Bool.not_false, eq_self, Go.Proofs.Try.results10]))
  · refine callVC hw (by (simp -dsimp only [↓RP, RQ0, RQ1, RQ2, RQ3, implies_true, forall_const, Nat.reduceMul, reduceIte, reduceCtorEq, Nat.reduceAdd, Nat.reduceEqDiff, Nat.reduceLT, Nat.reduceLeDiff])) (by (simp -dsimp only [↓RP, RQ0, RQ1, RQ2, RQ3, implies_true, forall_const, Nat.reduceMul, reduceIte, reduceCtorEq, Nat.reduceAdd, Nat.reduceEqDiff, Nat.reduceLT, Nat.reduceLeDiff, B])) ?_
    (repeat' (first | with_reducible refine splitVC_d (fun _ => ?_) (fun _ => ?_) | ((with_reducible refine And.intro ?_ ?_); focus (first | trivial | (simp only [InK]; omega) | omega | (simp only [InK, ne_eq, and_true, true_and]; omega))) | simp -dsimp only [↓RP, RQ0, RQ1, RQ2, RQ3, implies_true, forall_const, Nat.reduceMul, reduceIte, reduceCtorEq, Nat.reduceAdd, Nat.reduceEqDiff, Nat.reduceLT, Nat.reduceLeDiff, B, I, rg, Nat.zero_add, ty2, ty3, ty4, ty5, ty22, ty24, ty25, ty28, ty35, pl35, eq35, ty52, ty56, ty57, Int.reduceEq, decide_true, decide_false, Bool.not_true, Bool.not_false, eq_self, Go.Proofs.Try.results10]))
  rotate_left
  · refine callVC hw (by (simp -dsimp only [↓RP, RQ0, RQ1, RQ2, RQ3, implies_true, forall_const, Nat.reduceMul, reduceIte, reduceCtorEq, Nat.reduceAdd, Nat.reduceEqDiff, Nat.reduceLT, Nat.reduceLeDiff])) (by (simp -dsimp only [↓RP, RQ0, RQ1, RQ2, RQ3, implies_true, forall_const, Nat.reduceMul, reduceIte, reduceCtorEq, Nat.reduceAdd, Nat.reduceEqDiff, Nat.reduceLT, Nat.reduceLeDiff, B])) ?_
    (repeat' (first | with_reducible refine splitVC_d (fun _ => ?_) (fun _ => ?_) | ((with_reducible refine And.intro ?_ ?_); focus (first | trivial | (simp only [InK]; omega) | omega | (simp only [InK, ne_eq, and_true, true_and]; omega))) | simp -dsimp only [↓RP, RQ0, RQ1, RQ2, RQ3, implies_true, forall_const, Nat.reduceMul, reduceIte, reduceCtorEq, Nat.reduceAdd, Nat.reduceEqDiff, Nat.reduceLT, Nat.reduceLeDiff, B, I, rg, Nat.zero_add, ty2, ty3, ty4, ty5, ty22, ty24, ty25, ty28, ty35, pl35, eq35, ty52, ty56, ty57, Int.reduceEq, decide_true, decide_false, Bool.not_true, Bool.not_false, eq_self, Go.Proofs.Try.results10]))
  rename_i hfi hm
  obtain ⟨he, hf, h8, h2⟩ := fine_err hfi
  have hn : p.n ≤ 1000000 := by omega
  have ek := tmod_nat rr p.n hr0
  have hk : rr.toNat % p.n < p.n := Nat.mod_lt _ (by omega)
  generalize rr.toNat % p.n = k at ek hk
  obtain ⟨ha, hD0, hD1⟩ := pen_ok p he k hk b hb0
  obtain ⟨ha2, hE0, hE1⟩ := pen_ok p he k hk b2 hb20
  have hD : b.tmod (Int.tdiv 100000 p.step + 1) * p.step = p.pen b := rfl
  have hE : b2.tmod (Int.tdiv 100000 p.step + 1) * p.step = p.pen b2 := rfl
  have ht := byT_truth p hf m u hu
  have huk := ht.u hf k hk
  have hag : p.asked k (max (p.pen b) (p.pen b2)) = 0 := by
    rcases Int.le_total (p.pen b) (p.pen b2) with h | h
    · rw [Int.max_eq_right h]; exact ha2
    · rw [Int.max_eq_left h]; exact ha
  have hG0 : p.pen b ≤ max (p.pen b) (p.pen b2) := Int.le_max_left _ _
  have hG1 : max (p.pen b) (p.pen b2) ≤ 100000 := by omega
  generalize hG : max (p.pen b) (p.pen b2) = G at *
  have hw1 := truth_within p hf _ ht k hk (p.pen b) hD0
  have hw2 := truth_within p hf _ ht k hk G (by omega)
  have hm1 := sLo_mono p hf k hk _ _ hG0
  have hm2 := sHi_mono p hf k hk _ _ hG0
  obtain ⟨l1, l2, _, _⟩ := lv_left p _ k (p.pen b) ha ht
  obtain ⟨q1, q2, _, _⟩ := lv_left p _ k G hag ht
  obtain ⟨n1, n2⟩ := netE_ok p he _ ht
  have es : p.spLo k (p.pen b) = p.sLo k (p.pen b) := by unfold Pool.spLo; rw [if_pos ha]
  have es2 : p.spHi k (p.pen b) = p.sHi k (p.pen b) := by unfold Pool.spHi; rw [if_pos ha]
  have es3 : p.spLo k G = p.sLo k G := by unfold Pool.spLo; rw [if_pos hag]
  have es4 : p.spHi k G = p.sHi k G := by unfold Pool.spHi; rw [if_pos hag]
  have hXY : p.lv (p.byT m u) k G ≤ p.lv (p.byT m u) k (p.pen b) := by
    unfold Pool.lv
    have : p.pen b * p.byT m u k ≤ G * p.byT m u k := Int.mul_le_mul_of_nonneg_right hG0 huk.1
    omega
  have hwl := wt_leftL p k (p.pen b) ha
  have hs := ht.sum hf
  have hnb := Pool.net_bound hf hs.1 (by omega)
  have hm6 : 0 ≤ p.pen b * p.byT m u k := Int.mul_nonneg hD0 huk.1
  have hm7 : p.pen b * p.byT m u k ≤ 100000 * 200 := Int.mul_le_mul hD1 huk.2 huk.1 (by omega)
  generalize hX : p.lv (p.byT m u) k (p.pen b) = X at *
  generalize hY : p.lv (p.byT m u) k G = Y at *
  unfold Pool.lv at hX hY
  rw [hX] at hw1
  rw [hY] at hw2
  obtain ⟨w1, w2⟩ := hw1
  obtain ⟨w3, w4⟩ := hw2
  (repeat' (first | with_reducible refine splitVC_d (fun _ => ?_) (fun _ => ?_) | ((with_reducible refine And.intro ?_ ?_); focus (first | trivial | (simp only [InK]; omega) | omega | (simp only [InK, ne_eq, and_true, true_and]; omega))) | simp -dsimp only [↓RP, RQ0, RQ1, RQ2, RQ3, implies_true, forall_const, Nat.reduceMul, reduceIte, reduceCtorEq, Nat.reduceAdd, Nat.reduceEqDiff, Nat.reduceLT, Nat.reduceLeDiff, ek, B, I, rg, Nat.zero_add, ty2, ty3, ty4, ty5, ty22, ty24, ty25, ty28, ty35, pl35, eq35, ty52, ty56, ty57, Int.reduceEq, decide_true, decide_false, Bool.not_true, Bool.not_false, eq_self, Go.Proofs.Try.results10]))
  refine callVC (c44 p hf b hb0 hb1) (by (simp -dsimp only [↓RP, RQ0, RQ1, RQ2, RQ3, implies_true, forall_const, Nat.reduceMul, reduceIte, reduceCtorEq, Nat.reduceAdd, Nat.reduceEqDiff, Nat.reduceLT, Nat.reduceLeDiff, Pool.sv, rngs, I, ints]); all_goals (try simp)) (by (simp -dsimp only [↓RP, RQ0, RQ1, RQ2, RQ3, implies_true, forall_const, Nat.reduceMul, reduceIte, reduceCtorEq, Nat.reduceAdd, Nat.reduceEqDiff, Nat.reduceLT, Nat.reduceLeDiff, B, I, rg])) ?_
  rw [hD]
  (repeat' (first | with_reducible refine splitVC_d (fun _ => ?_) (fun _ => ?_) | ((with_reducible refine And.intro ?_ ?_); focus (first | trivial | (simp only [InK]; omega) | omega | (simp only [InK, ne_eq, and_true, true_and]; omega))) | simp -dsimp only [↓RP, RQ0, RQ1, RQ2, RQ3, implies_true, forall_const, Nat.reduceMul, reduceIte, reduceCtorEq, Nat.reduceAdd, Nat.reduceEqDiff, Nat.reduceLT, Nat.reduceLeDiff, ek, hD, hE, hG, hX, Int.toNat_natCast, w1, w2, w3, w4, hXY, hm1, hm2, B, I, rg, Nat.zero_add, ty2, ty3, ty4, ty5, ty22, ty24, ty25, ty28, ty35, pl35, eq35, ty52, ty56, ty57, Int.reduceEq, decide_true, decide_false, Bool.not_true, Bool.not_false, eq_self, Go.Proofs.Try.results10]))
  refine callN (c45 p hf m u (by omega) hu) (by (simp -dsimp only [↓RP, RQ0, RQ1, RQ2, RQ3, implies_true, forall_const, Nat.reduceMul, reduceIte, reduceCtorEq, Nat.reduceAdd, Nat.reduceEqDiff, Nat.reduceLT, Nat.reduceLeDiff, Pool.sv, rngs, I, ints, by8]); all_goals (try simp)) (by simp [FreshO, FreshOL, I]) (by simp [FreshB, Fresh, I]) ?_
  (repeat' (first | with_reducible refine splitVC_d (fun _ => ?_) (fun _ => ?_) | ((with_reducible refine And.intro ?_ ?_); focus (first | trivial | (simp only [InK]; omega) | omega | (simp only [InK, ne_eq, and_true, true_and]; omega))) | simp -dsimp only [↓RP, RQ0, RQ1, RQ2, RQ3, implies_true, forall_const, Nat.reduceMul, reduceIte, reduceCtorEq, Nat.reduceAdd, Nat.reduceEqDiff, Nat.reduceLT, Nat.reduceLeDiff, ek, hD, hE, hG, hX, Int.toNat_natCast, w1, w2, w3, w4, hXY, hm1, hm2, B, I, rg, Nat.zero_add, ty2, ty3, ty4, ty5, ty22, ty24, ty25, ty28, ty35, pl35, eq35, ty52, ty56, ty57, Int.reduceEq, decide_true, decide_false, Bool.not_true, Bool.not_false, eq_self, Go.Proofs.Try.results10]))
  refine callVC (c44 p hf b2 hb20 hb21) (by (simp -dsimp only [↓RP, RQ0, RQ1, RQ2, RQ3, implies_true, forall_const, Nat.reduceMul, reduceIte, reduceCtorEq, Nat.reduceAdd, Nat.reduceEqDiff, Nat.reduceLT, Nat.reduceLeDiff, Pool.sv, rngs, I, ints]); all_goals (try simp)) (by (simp -dsimp only [↓RP, RQ0, RQ1, RQ2, RQ3, implies_true, forall_const, Nat.reduceMul, reduceIte, reduceCtorEq, Nat.reduceAdd, Nat.reduceEqDiff, Nat.reduceLT, Nat.reduceLeDiff, B, I, rg])) ?_
  rw [hE]
  (repeat' (first | with_reducible refine splitVC_d (fun _ => ?_) (fun _ => ?_) | ((with_reducible refine And.intro ?_ ?_); focus (first | trivial | (simp only [InK]; omega) | omega | (simp only [InK, ne_eq, and_true, true_and]; omega))) | simp -dsimp only [↓RP, RQ0, RQ1, RQ2, RQ3, implies_true, forall_const, Nat.reduceMul, reduceIte, reduceCtorEq, Nat.reduceAdd, Nat.reduceEqDiff, Nat.reduceLT, Nat.reduceLeDiff, ek, hD, hE, hG, hX, Int.toNat_natCast, w1, w2, w3, w4, hXY, hm1, hm2, B, I, rg, Nat.zero_add, ty2, ty3, ty4, ty5, ty22, ty24, ty25, ty28, ty35, pl35, eq35, ty52, ty56, ty57, Int.reduceEq, decide_true, decide_false, Bool.not_true, Bool.not_false, eq_self, Go.Proofs.Try.results10]))
  refine callVC (c26 p hn k (p.pen b)) (by (simp -dsimp only [↓RP, RQ0, RQ1, RQ2, RQ3, implies_true, forall_const, Nat.reduceMul, reduceIte, reduceCtorEq, Nat.reduceAdd, Nat.reduceEqDiff, Nat.reduceLT, Nat.reduceLeDiff, Pool.sv, rngs, I, ints]); all_goals (try simp)) (by (simp -dsimp only [↓RP, RQ0, RQ1, RQ2, RQ3, implies_true, forall_const, Nat.reduceMul, reduceIte, reduceCtorEq, Nat.reduceAdd, Nat.reduceEqDiff, Nat.reduceLT, Nat.reduceLeDiff, B, I, rg])) ?_
  rw [es, es2, ha]
  (repeat' (first | with_reducible refine splitVC_d (fun _ => ?_) (fun _ => ?_) | ((with_reducible refine And.intro ?_ ?_); focus (first | trivial | (simp only [InK]; omega) | omega | (simp only [InK, ne_eq, and_true, true_and]; omega))) | simp -dsimp only [↓RP, RQ0, RQ1, RQ2, RQ3, implies_true, forall_const, Nat.reduceMul, reduceIte, reduceCtorEq, Nat.reduceAdd, Nat.reduceEqDiff, Nat.reduceLT, Nat.reduceLeDiff, ek, hD, hE, hG, hX, Int.toNat_natCast, w1, w2, w3, w4, hXY, hm1, hm2, B, I, rg, Nat.zero_add, ty2, ty3, ty4, ty5, ty22, ty24, ty25, ty28, ty35, pl35, eq35, ty52, ty56, ty57, Int.reduceEq, decide_true, decide_false, Bool.not_true, Bool.not_false, eq_self, Go.Proofs.Try.results10]))
  refine callVC (c26 p hn k G) (by (simp -dsimp only [↓RP, RQ0, RQ1, RQ2, RQ3, implies_true, forall_const, Nat.reduceMul, reduceIte, reduceCtorEq, Nat.reduceAdd, Nat.reduceEqDiff, Nat.reduceLT, Nat.reduceLeDiff, Pool.sv, rngs, I, ints]); all_goals (try simp)) (by (simp -dsimp only [↓RP, RQ0, RQ1, RQ2, RQ3, implies_true, forall_const, Nat.reduceMul, reduceIte, reduceCtorEq, Nat.reduceAdd, Nat.reduceEqDiff, Nat.reduceLT, Nat.reduceLeDiff, B, I, rg])) ?_
  rw [es3, es4, hag]
  (repeat' (first | with_reducible refine splitVC_d (fun _ => ?_) (fun _ => ?_) | ((with_reducible refine And.intro ?_ ?_); focus (first | trivial | (simp only [InK]; omega) | omega | (simp only [InK, ne_eq, and_true, true_and]; omega))) | simp -dsimp only [↓RP, RQ0, RQ1, RQ2, RQ3, implies_true, forall_const, Nat.reduceMul, reduceIte, reduceCtorEq, Nat.reduceAdd, Nat.reduceEqDiff, Nat.reduceLT, Nat.reduceLeDiff, ek, hD, hE, hG, hX, Int.toNat_natCast, w1, w2, w3, w4, hXY, hm1, hm2, B, I, rg, Nat.zero_add, ty2, ty3, ty4, ty5, ty22, ty24, ty25, ty28, ty35, pl35, eq35, ty52, ty56, ty57, Int.reduceEq, decide_true, decide_false, Bool.not_true, Bool.not_false, eq_self, Go.Proofs.Try.results10]))
  refine callVC (c22 p hn p.n (p.byT m u) k (p.pen b)) (by (simp -dsimp only [↓RP, RQ0, RQ1, RQ2, RQ3, implies_true, forall_const, Nat.reduceMul, reduceIte, reduceCtorEq, Nat.reduceAdd, Nat.reduceEqDiff, Nat.reduceLT, Nat.reduceLeDiff, Pool.sv, rngs, I, ints]); all_goals (try simp)) (by (simp -dsimp only [↓RP, RQ0, RQ1, RQ2, RQ3, implies_true, forall_const, Nat.reduceMul, reduceIte, reduceCtorEq, Nat.reduceAdd, Nat.reduceEqDiff, Nat.reduceLT, Nat.reduceLeDiff, B, I, rg])) ?_
  rw [l1, l2]
  (repeat' (first | with_reducible refine splitVC_d (fun _ => ?_) (fun _ => ?_) | ((with_reducible refine And.intro ?_ ?_); focus (first | trivial | (simp only [InK]; omega) | omega | (simp only [InK, ne_eq, and_true, true_and]; omega))) | simp -dsimp only [↓RP, RQ0, RQ1, RQ2, RQ3, implies_true, forall_const, Nat.reduceMul, reduceIte, reduceCtorEq, Nat.reduceAdd, Nat.reduceEqDiff, Nat.reduceLT, Nat.reduceLeDiff, ek, hD, hE, hG, hX, Int.toNat_natCast, w1, w2, w3, w4, hXY, hm1, hm2, B, I, rg, Nat.zero_add, ty2, ty3, ty4, ty5, ty22, ty24, ty25, ty28, ty35, pl35, eq35, ty52, ty56, ty57, Int.reduceEq, decide_true, decide_false, Bool.not_true, Bool.not_false, eq_self, Go.Proofs.Try.results10]))
  refine callVC (c22 p hn p.n (p.byT m u) k G) (by (simp -dsimp only [↓RP, RQ0, RQ1, RQ2, RQ3, implies_true, forall_const, Nat.reduceMul, reduceIte, reduceCtorEq, Nat.reduceAdd, Nat.reduceEqDiff, Nat.reduceLT, Nat.reduceLeDiff, Pool.sv, rngs, I, ints]); all_goals (try simp)) (by (simp -dsimp only [↓RP, RQ0, RQ1, RQ2, RQ3, implies_true, forall_const, Nat.reduceMul, reduceIte, reduceCtorEq, Nat.reduceAdd, Nat.reduceEqDiff, Nat.reduceLT, Nat.reduceLeDiff, B, I, rg])) ?_
  rw [q1, q2]
  (repeat' (first | with_reducible refine splitVC_d (fun _ => ?_) (fun _ => ?_) | ((with_reducible refine And.intro ?_ ?_); focus (first | trivial | (simp only [InK]; omega) | omega | (simp only [InK, ne_eq, and_true, true_and]; omega))) | simp -dsimp only [↓RP, RQ0, RQ1, RQ2, RQ3, implies_true, forall_const, Nat.reduceMul, reduceIte, reduceCtorEq, Nat.reduceAdd, Nat.reduceEqDiff, Nat.reduceLT, Nat.reduceLeDiff, ek, hD, hE, hG, hX, Int.toNat_natCast, w1, w2, w3, w4, hXY, hm1, hm2, B, I, rg, Nat.zero_add, ty2, ty3, ty4, ty5, ty22, ty24, ty25, ty28, ty35, pl35, eq35, ty52, ty56, ty57, Int.reduceEq, decide_true, decide_false, Bool.not_true, Bool.not_false, eq_self, Go.Proofs.Try.results10]))
  refine callN (c30o p hn k (p.pen b) ha) (by (simp -dsimp only [↓RP, RQ0, RQ1, RQ2, RQ3, implies_true, forall_const, Nat.reduceMul, reduceIte, reduceCtorEq, Nat.reduceAdd, Nat.reduceEqDiff, Nat.reduceLT, Nat.reduceLeDiff, Pool.sv, rngs, I, ints]); all_goals (try simp)) (by simp [FreshO, FreshOL, I]) (by simp [FreshB, Fresh, I]) ?_
  (repeat' (first | with_reducible refine splitVC_d (fun _ => ?_) (fun _ => ?_) | ((with_reducible refine And.intro ?_ ?_); focus (first | trivial | (simp only [InK]; omega) | omega | (simp only [InK, ne_eq, and_true, true_and]; omega))) | simp -dsimp only [↓RP, RQ0, RQ1, RQ2, RQ3, implies_true, forall_const, Nat.reduceMul, reduceIte, reduceCtorEq, Nat.reduceAdd, Nat.reduceEqDiff, Nat.reduceLT, Nat.reduceLeDiff, ek, hD, hE, hG, hX, Int.toNat_natCast, w1, w2, w3, w4, hXY, hm1, hm2, B, I, rg, Nat.zero_add, ty2, ty3, ty4, ty5, ty22, ty24, ty25, ty28, ty35, pl35, eq35, ty52, ty56, ty57, Int.reduceEq, decide_true, decide_false, Bool.not_true, Bool.not_false, eq_self, Go.Proofs.Try.results10]))
  refine callVC (c20 p hn p.n (p.byT m u)) (by (simp -dsimp only [↓RP, RQ0, RQ1, RQ2, RQ3, implies_true, forall_const, Nat.reduceMul, reduceIte, reduceCtorEq, Nat.reduceAdd, Nat.reduceEqDiff, Nat.reduceLT, Nat.reduceLeDiff, Pool.sv, rngs, I, ints]); all_goals (try simp)) (by (simp -dsimp only [↓RP, RQ0, RQ1, RQ2, RQ3, implies_true, forall_const, Nat.reduceMul, reduceIte, reduceCtorEq, Nat.reduceAdd, Nat.reduceEqDiff, Nat.reduceLT, Nat.reduceLeDiff, B, I, rg])) ?_
  rw [n1, n2]
  (repeat' (first | with_reducible refine splitVC_d (fun _ => ?_) (fun _ => ?_) | ((with_reducible refine And.intro ?_ ?_); focus (first | trivial | (simp only [InK]; omega) | omega | (simp only [InK, ne_eq, and_true, true_and]; omega))) | simp -dsimp (config := { maxSteps := 2000000 }) only [↓RP, RQ0, RQ1, RQ2, RQ3, implies_true, forall_const, Nat.reduceMul, reduceIte, reduceCtorEq, Nat.reduceAdd, Nat.reduceEqDiff, Nat.reduceLT, Nat.reduceLeDiff, ek, hD, hE, hG, hX, Int.toNat_natCast, w1, w2, w3, w4, hXY, hm1, hm2, B, I, rg, Nat.zero_add, ty2, ty3, ty4, ty5, ty22, ty24, ty25, ty28, ty35, pl35, eq35, ty52, ty56, ty57, Int.reduceEq, decide_true, decide_false, Bool.not_true, Bool.not_false, eq_self, Go.Proofs.Try.results10]))
  refine callVC (c31 p p.n (p.wt k (p.pen b)) k (p.pen b)) (by (simp -dsimp only [↓RP, RQ0, RQ1, RQ2, RQ3, implies_true, forall_const, Nat.reduceMul, reduceIte, reduceCtorEq, Nat.reduceAdd, Nat.reduceEqDiff, Nat.reduceLT, Nat.reduceLeDiff, Pool.sv, rngs, I, ints]); all_goals (try simp)) (by (simp -dsimp only [↓RP, RQ0, RQ1, RQ2, RQ3, implies_true, forall_const, Nat.reduceMul, reduceIte, reduceCtorEq, Nat.reduceAdd, Nat.reduceEqDiff, Nat.reduceLT, Nat.reduceLeDiff, B, I, rg])) ?_
  rw [hwl]
  (repeat' (first | with_reducible refine splitVC_d (fun _ => ?_) (fun _ => ?_) | ((with_reducible refine And.intro ?_ ?_); focus (first | trivial | (simp only [InK]; omega) | omega | (simp only [InK, ne_eq, and_true, true_and]; omega))) | simp -dsimp (config := { maxSteps := 2000000 }) only [↓RP, RQ0, RQ1, RQ2, RQ3, implies_true, forall_const, Nat.reduceMul, reduceIte, reduceCtorEq, Nat.reduceAdd, Nat.reduceEqDiff, Nat.reduceLT, Nat.reduceLeDiff, ek, hD, hE, hG, hX, Int.toNat_natCast, w1, w2, w3, w4, hXY, hm1, hm2, B, I, rg, Nat.zero_add, ty2, ty3, ty4, ty5, ty22, ty24, ty25, ty28, ty35, pl35, eq35, ty52, ty56, ty57, Int.reduceEq, decide_true, decide_false, Bool.not_true, Bool.not_false, eq_self, Go.Proofs.Try.results10]))
  refine callVC hw (by (simp -dsimp only [↓RP, RQ0, RQ1, RQ2, RQ3, implies_true, forall_const, Nat.reduceMul, reduceIte, reduceCtorEq, Nat.reduceAdd, Nat.reduceEqDiff, Nat.reduceLT, Nat.reduceLeDiff])) (by (simp -dsimp only [↓RP, RQ0, RQ1, RQ2, RQ3, implies_true, forall_const, Nat.reduceMul, reduceIte, reduceCtorEq, Nat.reduceAdd, Nat.reduceEqDiff, Nat.reduceLT, Nat.reduceLeDiff, B])) ?_
  (repeat' (first | with_reducible refine splitVC_d (fun _ => ?_) (fun _ => ?_) | ((with_reducible refine And.intro ?_ ?_); focus (first | trivial | (simp only [InK]; omega) | omega | (simp only [InK, ne_eq, and_true, true_and]; omega))) | simp -dsimp only [↓RP, RQ0, RQ1, RQ2, RQ3, implies_true, forall_const, Nat.reduceMul, reduceIte, reduceCtorEq, Nat.reduceAdd, Nat.reduceEqDiff, Nat.reduceLT, Nat.reduceLeDiff, ek, hD, hE, hG, hX, Int.toNat_natCast, w1, w2, w3, w4, hXY, hm1, hm2, B, I, rg, Nat.zero_add, ty2, ty3, ty4, ty5, ty22, ty24, ty25, ty28, ty35, pl35, eq35, ty52, ty56, ty57, Int.reduceEq, decide_true, decide_false, Bool.not_true, Bool.not_false, eq_self, Go.Proofs.Try.results10]))
end Go.Po
end
