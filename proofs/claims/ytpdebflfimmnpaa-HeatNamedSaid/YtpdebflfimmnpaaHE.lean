/- A part of the proof. -/
import Derived.Test.YtpdebflfimmnpaaHD
section
set_option linter.unusedSimpArgs false
set_option linter.unusedVariables false
set_option linter.defProp false
set_option maxRecDepth 100000
set_option maxHeartbeats 16000000
namespace Go.He
open Go.Proofs
open Go.Sx
theorem fol_len (w : Nat → Wd) (c : Nat → Int) (r : Int) : ∀ j, (fol w c r j).length ≤ 2
 | 0 => by simp [fol]
 | j + 1 => lnk_len _ _
theorem fol_S (w : Nat → Wd) (c : Nat → Int) (r : Int) (j : Nat) : fol w c r (j + 1) = lnk (w (c j).toNat) (fol w c r j) := rfl
theorem fol_0 (w : Nat → Wd) (c : Nat → Int) (r : Int) : fol w c r 0 = [r] := rfl
theorem lk1 (x : Int) : ∀ (i : Nat), i < 1 → [SV.val (.int .i64 x)][i]?.getD SV.top = SV.val (.int .i64 ([x][i]?.getD 0)) := by
 intro i hi
 obtain rfl : i = 0 := by omega
 rfl
theorem lk2 (x y : Int) : ∀ (i : Nat), i < 2 → (if i < 1 then [SV.val (.int .i64 x)][i]?.getD SV.top else [SV.val (.int .i64 y)][i - 1]?.getD SV.top) = SV.val (.int .i64 ([x, y][i]?.getD 0)) := by
 intro i hi
 have : i = 0 ∨ i = 1 := by omega
 rcases this with rfl | rfl <;> rfl
theorem c69 (N : Int) (m : Nat) (w : Nat → Wd) (r : Int) (k : Nat) (c : Nat → Int) (hk : k ≤ 1000) (hc : ∀ i, i < k → 0 ≤ c i ∧ c i < m) : Contract Try.prog 69 [pref N m w, I r, ints k c] (.arr true false (fol w c r k).length 1 (fun i _ => .val (.int .i64 ((fol w c r k).getD i 0)))) := by
 refine contract_of Try.func69 rfl (by kernel_rfl) follows (by kernel_rfl) _ _ (by rw [Try.ntmps69]; simp) (by simp [OldL, Old, QV, pref, ints, I]) ?_
 unfold pref ints I
 (repeat' (first | with_reducible (first | apply splitVC_d <;> intro _ | apply splitVC <;> intro _) | ((with_reducible refine And.intro ?_ ?_); focus (first | exact True.intro | omega | (simp only [InK, ne_eq, and_true, true_and]; omega) | (and_intros <;> first | exact .inr trivial | exact Nat.le_refl _ | exact one1 _ | exact one5 _ _ _ _ _ | omega) | trivial)) | (simp -dsimp only [↓RP, RQ, Nat.reduceMul, reduceIte, reduceCtorEq, Nat.reduceAdd, Nat.reduceEqDiff, Nat.reduceLT, Nat.reduceLeDiff, QW, Try.results69])))
 refine loop_vc (fun (j : Nat) => j ≤ k) (fun j => ⟨[(0, .ref false 2 (fun j => rf N m w j)), (7, .arr true false (fol w c r j).length 1 (fun i _ => .val (.int .i64 ((fol w c r j).getD i 0)))), (14, .arr false false k 1 (fun i _ => .val (.int .i64 (c i)))), (15, .val (.int .i64 (k : Nat))), (16, .val (.int .i64 (j : Nat)))], [], 20⟩) (fun j => k - j) 0 (Nat.zero_le _) (weak [] [2] ?_ ?_ ?_) fun j hj => ?_
 iterate 3 focus ((simp -dsimp only [↓RP, RQ, Nat.reduceMul, reduceIte, reduceCtorEq, Nat.reduceAdd, Nat.reduceEqDiff, Nat.reduceLT, Nat.reduceLeDiff, QV, fol_0]); all_goals (try simp [fol_0, QV, Go.Sx.Wk, isIn, blk]); all_goals first | exact lk1 _ | skip)
 by_cases hlt : j < k
 ·have hcj := hc j hlt
  have hl := fol_len w c r j
  obtain ⟨x, hx⟩ : ∃ x, w (c j).toNat = x := ⟨_, rfl⟩
  obtain ⟨L, hL⟩ : ∃ L, fol w c r j = L := ⟨_, rfl⟩
  rw [hL] at hl
  have ⟨l1, l2, l3, l4⟩ := lnk_4 x L
  have eS : lnk x L = fol w c r (j + 1) := by rw [← hx, ← hL, fol_S]
  rw [eS] at l1 l2 l3 l4
  by_cases ha : x.a ∈ L
  ·have fa := decide_eq_true ha
   by_cases hk : x.k = 1
   ·have fk := decide_eq_true hk
    by_cases hb : x.b ∈ L
    ·have fb := decide_eq_true hb
     have e := l1 ha ⟨hk, hb⟩
     (repeat' (first | with_reducible (first | apply splitVC_d <;> intro _ | apply splitVC <;> intro _) | ((with_reducible refine And.intro ?_ ?_); focus (first | exact True.intro | omega | (simp only [InK, ne_eq, and_true, true_and]; omega) | (and_intros <;> first | exact .inr trivial | exact Nat.le_refl _ | exact one1 _ | exact one5 _ _ _ _ _ | omega) | trivial)) | (simp -dsimp only [↓RP, RQ, Nat.reduceMul, reduceIte, reduceCtorEq, Nat.reduceAdd, Nat.reduceEqDiff, Nat.reduceLT, Nat.reduceLeDiff, hx, hL, fk, QW, Try.results69])))
     refine callVC (c68L L x.a (by omega)) (by (simp -dsimp only [↓RP, RQ, Nat.reduceMul, reduceIte, reduceCtorEq, Nat.reduceAdd, Nat.reduceEqDiff, Nat.reduceLT, Nat.reduceLeDiff, QV, lsv, ints, I]); all_goals (try simp [QV])) (by (simp -dsimp only [↓RP, RQ, Nat.reduceMul, reduceIte, reduceCtorEq, Nat.reduceAdd, Nat.reduceEqDiff, Nat.reduceLT, Nat.reduceLeDiff, QX]); all_goals (try simp [QV])) ?_
     (repeat' (first | with_reducible (first | apply splitVC_d <;> intro _ | apply splitVC <;> intro _) | ((with_reducible refine And.intro ?_ ?_); focus (first | exact True.intro | omega | (simp only [InK, ne_eq, and_true, true_and]; omega) | (and_intros <;> first | exact .inr trivial | exact Nat.le_refl _ | exact one1 _ | exact one5 _ _ _ _ _ | omega) | trivial)) | (simp -dsimp only [↓RP, RQ, Nat.reduceMul, reduceIte, reduceCtorEq, Nat.reduceAdd, Nat.reduceEqDiff, Nat.reduceLT, Nat.reduceLeDiff, hx, hL, fa, fk, fb, QW, Try.results69])))
     refine callVC (c68L L x.b (by omega)) (by (simp -dsimp only [↓RP, RQ, Nat.reduceMul, reduceIte, reduceCtorEq, Nat.reduceAdd, Nat.reduceEqDiff, Nat.reduceLT, Nat.reduceLeDiff, QV, lsv, ints, I]); all_goals (try simp [QV])) (by (simp -dsimp only [↓RP, RQ, Nat.reduceMul, reduceIte, reduceCtorEq, Nat.reduceAdd, Nat.reduceEqDiff, Nat.reduceLT, Nat.reduceLeDiff, QX]); all_goals (try simp [QV])) ?_
     (repeat' (first | with_reducible (first | apply splitVC_d <;> intro _ | apply splitVC <;> intro _) | ((with_reducible refine And.intro ?_ ?_); focus (first | exact True.intro | omega | (simp only [InK, ne_eq, and_true, true_and]; omega) | (and_intros <;> first | exact .inr trivial | exact Nat.le_refl _ | exact one1 _ | exact one5 _ _ _ _ _ | omega) | trivial)) | (simp -dsimp only [↓RP, RQ, Nat.reduceMul, reduceIte, reduceCtorEq, Nat.reduceAdd, Nat.reduceEqDiff, Nat.reduceLT, Nat.reduceLeDiff, hx, hL, fa, fk, fb, QW, Try.results69])))
     all_goals try (exfalso; omega)
     refine ⟨j + 1, by omega, by omega, weak [] [58] ?_ ?_ ?_⟩
     ·(simp -dsimp only [↓RP, RQ, Nat.reduceMul, reduceIte, reduceCtorEq, Nat.reduceAdd, Nat.reduceEqDiff, Nat.reduceLT, Nat.reduceLeDiff, QV, e]); all_goals (try simp [e, QV, Go.Sx.Wk, isIn, blk]); all_goals first | exact lk1 _ | exact lk2 _ _ | skip
     ·(simp -dsimp only [↓RP, RQ, Nat.reduceMul, reduceIte, reduceCtorEq, Nat.reduceAdd, Nat.reduceEqDiff, Nat.reduceLT, Nat.reduceLeDiff, QV, e]); all_goals (try simp [e, QV]); all_goals first | exact lk1 _ | exact lk2 _ _ | skip
     ·(simp -dsimp only [↓RP, RQ, Nat.reduceMul, reduceIte, reduceCtorEq, Nat.reduceAdd, Nat.reduceEqDiff, Nat.reduceLT, Nat.reduceLeDiff, QV]); all_goals (try simp [QV])
    ·have fb := decide_eq_false hb
     have e := l2 ha (fun h => hb h.2)
     (repeat' (first | with_reducible (first | apply splitVC_d <;> intro _ | apply splitVC <;> intro _) | ((with_reducible refine And.intro ?_ ?_); focus (first | exact True.intro | omega | (simp only [InK, ne_eq, and_true, true_and]; omega) | (and_intros <;> first | exact .inr trivial | exact Nat.le_refl _ | exact one1 _ | exact one5 _ _ _ _ _ | omega) | trivial)) | (simp -dsimp only [↓RP, RQ, Nat.reduceMul, reduceIte, reduceCtorEq, Nat.reduceAdd, Nat.reduceEqDiff, Nat.reduceLT, Nat.reduceLeDiff, hx, hL, fk, QW, Try.results69])))
     refine callVC (c68L L x.a (by omega)) (by (simp -dsimp only [↓RP, RQ, Nat.reduceMul, reduceIte, reduceCtorEq, Nat.reduceAdd, Nat.reduceEqDiff, Nat.reduceLT, Nat.reduceLeDiff, QV, lsv, ints, I]); all_goals (try simp [QV])) (by (simp -dsimp only [↓RP, RQ, Nat.reduceMul, reduceIte, reduceCtorEq, Nat.reduceAdd, Nat.reduceEqDiff, Nat.reduceLT, Nat.reduceLeDiff, QX]); all_goals (try simp [QV])) ?_
     (repeat' (first | with_reducible (first | apply splitVC_d <;> intro _ | apply splitVC <;> intro _) | ((with_reducible refine And.intro ?_ ?_); focus (first | exact True.intro | omega | (simp only [InK, ne_eq, and_true, true_and]; omega) | (and_intros <;> first | exact .inr trivial | exact Nat.le_refl _ | exact one1 _ | exact one5 _ _ _ _ _ | omega) | trivial)) | (simp -dsimp only [↓RP, RQ, Nat.reduceMul, reduceIte, reduceCtorEq, Nat.reduceAdd, Nat.reduceEqDiff, Nat.reduceLT, Nat.reduceLeDiff, hx, hL, fa, fk, fb, QW, Try.results69])))
     refine callVC (c68L L x.b (by omega)) (by (simp -dsimp only [↓RP, RQ, Nat.reduceMul, reduceIte, reduceCtorEq, Nat.reduceAdd, Nat.reduceEqDiff, Nat.reduceLT, Nat.reduceLeDiff, QV, lsv, ints, I]); all_goals (try simp [QV])) (by (simp -dsimp only [↓RP, RQ, Nat.reduceMul, reduceIte, reduceCtorEq, Nat.reduceAdd, Nat.reduceEqDiff, Nat.reduceLT, Nat.reduceLeDiff, QX]); all_goals (try simp [QV])) ?_
     (repeat' (first | with_reducible (first | apply splitVC_d <;> intro _ | apply splitVC <;> intro _) | ((with_reducible refine And.intro ?_ ?_); focus (first | exact True.intro | omega | (simp only [InK, ne_eq, and_true, true_and]; omega) | (and_intros <;> first | exact .inr trivial | exact Nat.le_refl _ | exact one1 _ | exact one5 _ _ _ _ _ | omega) | trivial)) | (simp -dsimp only [↓RP, RQ, Nat.reduceMul, reduceIte, reduceCtorEq, Nat.reduceAdd, Nat.reduceEqDiff, Nat.reduceLT, Nat.reduceLeDiff, hx, hL, fa, fk, fb, QW, Try.results69])))
     all_goals try (exfalso; omega)
     refine ⟨j + 1, by omega, by omega, weak [] [43] ?_ ?_ ?_⟩
     ·(simp -dsimp only [↓RP, RQ, Nat.reduceMul, reduceIte, reduceCtorEq, Nat.reduceAdd, Nat.reduceEqDiff, Nat.reduceLT, Nat.reduceLeDiff, QV, e]); all_goals (try simp [e, QV, Go.Sx.Wk, isIn, blk]); all_goals first | exact lk1 _ | exact lk2 _ _ | skip
     ·(simp -dsimp only [↓RP, RQ, Nat.reduceMul, reduceIte, reduceCtorEq, Nat.reduceAdd, Nat.reduceEqDiff, Nat.reduceLT, Nat.reduceLeDiff, QV, e]); all_goals (try simp [e, QV]); all_goals first | exact lk1 _ | exact lk2 _ _ | skip
     ·(simp -dsimp only [↓RP, RQ, Nat.reduceMul, reduceIte, reduceCtorEq, Nat.reduceAdd, Nat.reduceEqDiff, Nat.reduceLT, Nat.reduceLeDiff, QV]); all_goals (try simp [QV])
   ·have fk := decide_eq_false hk
    have e := l2 ha (fun h => hk h.1)
    (repeat' (first | with_reducible (first | apply splitVC_d <;> intro _ | apply splitVC <;> intro _) | ((with_reducible refine And.intro ?_ ?_); focus (first | exact True.intro | omega | (simp only [InK, ne_eq, and_true, true_and]; omega) | (and_intros <;> first | exact .inr trivial | exact Nat.le_refl _ | exact one1 _ | exact one5 _ _ _ _ _ | omega) | trivial)) | (simp -dsimp only [↓RP, RQ, Nat.reduceMul, reduceIte, reduceCtorEq, Nat.reduceAdd, Nat.reduceEqDiff, Nat.reduceLT, Nat.reduceLeDiff, hx, hL, fk, QW, Try.results69])))
    refine callVC (c68L L x.a (by omega)) (by (simp -dsimp only [↓RP, RQ, Nat.reduceMul, reduceIte, reduceCtorEq, Nat.reduceAdd, Nat.reduceEqDiff, Nat.reduceLT, Nat.reduceLeDiff, QV, lsv, ints, I]); all_goals (try simp [QV])) (by (simp -dsimp only [↓RP, RQ, Nat.reduceMul, reduceIte, reduceCtorEq, Nat.reduceAdd, Nat.reduceEqDiff, Nat.reduceLT, Nat.reduceLeDiff, QX]); all_goals (try simp [QV])) ?_
    (repeat' (first | with_reducible (first | apply splitVC_d <;> intro _ | apply splitVC <;> intro _) | ((with_reducible refine And.intro ?_ ?_); focus (first | exact True.intro | omega | (simp only [InK, ne_eq, and_true, true_and]; omega) | (and_intros <;> first | exact .inr trivial | exact Nat.le_refl _ | exact one1 _ | exact one5 _ _ _ _ _ | omega) | trivial)) | (simp -dsimp only [↓RP, RQ, Nat.reduceMul, reduceIte, reduceCtorEq, Nat.reduceAdd, Nat.reduceEqDiff, Nat.reduceLT, Nat.reduceLeDiff, hx, hL, fa, fk, QW, Try.results69])))
    all_goals try (exfalso; omega)
    refine ⟨j + 1, by omega, by omega, weak [] [43] ?_ ?_ ?_⟩
    ·(simp -dsimp only [↓RP, RQ, Nat.reduceMul, reduceIte, reduceCtorEq, Nat.reduceAdd, Nat.reduceEqDiff, Nat.reduceLT, Nat.reduceLeDiff, QV, e]); all_goals (try simp [e, QV, Go.Sx.Wk, isIn, blk]); all_goals first | exact lk1 _ | exact lk2 _ _ | skip
    ·(simp -dsimp only [↓RP, RQ, Nat.reduceMul, reduceIte, reduceCtorEq, Nat.reduceAdd, Nat.reduceEqDiff, Nat.reduceLT, Nat.reduceLeDiff, QV, e]); all_goals (try simp [e, QV]); all_goals first | exact lk1 _ | exact lk2 _ _ | skip
    ·(simp -dsimp only [↓RP, RQ, Nat.reduceMul, reduceIte, reduceCtorEq, Nat.reduceAdd, Nat.reduceEqDiff, Nat.reduceLT, Nat.reduceLeDiff, QV]); all_goals (try simp [QV])
  ·have fa := decide_eq_false ha
   by_cases hk : x.k = 1
   ·have fk := decide_eq_true hk
    by_cases hb : x.b ∈ L
    ·have fb := decide_eq_true hb
     have e := l3 ha ⟨hk, hb⟩
     (repeat' (first | with_reducible (first | apply splitVC_d <;> intro _ | apply splitVC <;> intro _) | ((with_reducible refine And.intro ?_ ?_); focus (first | exact True.intro | omega | (simp only [InK, ne_eq, and_true, true_and]; omega) | (and_intros <;> first | exact .inr trivial | exact Nat.le_refl _ | exact one1 _ | exact one5 _ _ _ _ _ | omega) | trivial)) | (simp -dsimp only [↓RP, RQ, Nat.reduceMul, reduceIte, reduceCtorEq, Nat.reduceAdd, Nat.reduceEqDiff, Nat.reduceLT, Nat.reduceLeDiff, hx, hL, fk, QW, Try.results69])))
     refine callVC (c68L L x.a (by omega)) (by (simp -dsimp only [↓RP, RQ, Nat.reduceMul, reduceIte, reduceCtorEq, Nat.reduceAdd, Nat.reduceEqDiff, Nat.reduceLT, Nat.reduceLeDiff, QV, lsv, ints, I]); all_goals (try simp [QV])) (by (simp -dsimp only [↓RP, RQ, Nat.reduceMul, reduceIte, reduceCtorEq, Nat.reduceAdd, Nat.reduceEqDiff, Nat.reduceLT, Nat.reduceLeDiff, QX]); all_goals (try simp [QV])) ?_
     (repeat' (first | with_reducible (first | apply splitVC_d <;> intro _ | apply splitVC <;> intro _) | ((with_reducible refine And.intro ?_ ?_); focus (first | exact True.intro | omega | (simp only [InK, ne_eq, and_true, true_and]; omega) | (and_intros <;> first | exact .inr trivial | exact Nat.le_refl _ | exact one1 _ | exact one5 _ _ _ _ _ | omega) | trivial)) | (simp -dsimp only [↓RP, RQ, Nat.reduceMul, reduceIte, reduceCtorEq, Nat.reduceAdd, Nat.reduceEqDiff, Nat.reduceLT, Nat.reduceLeDiff, hx, hL, fa, fk, fb, QW, Try.results69])))
     refine callVC (c68L L x.b (by omega)) (by (simp -dsimp only [↓RP, RQ, Nat.reduceMul, reduceIte, reduceCtorEq, Nat.reduceAdd, Nat.reduceEqDiff, Nat.reduceLT, Nat.reduceLeDiff, QV, lsv, ints, I]); all_goals (try simp [QV])) (by (simp -dsimp only [↓RP, RQ, Nat.reduceMul, reduceIte, reduceCtorEq, Nat.reduceAdd, Nat.reduceEqDiff, Nat.reduceLT, Nat.reduceLeDiff, QX]); all_goals (try simp [QV])) ?_
     (repeat' (first | with_reducible (first | apply splitVC_d <;> intro _ | apply splitVC <;> intro _) | ((with_reducible refine And.intro ?_ ?_); focus (first | exact True.intro | omega | (simp only [InK, ne_eq, and_true, true_and]; omega) | (and_intros <;> first | exact .inr trivial | exact Nat.le_refl _ | exact one1 _ | exact one5 _ _ _ _ _ | omega) | trivial)) | (simp -dsimp only [↓RP, RQ, Nat.reduceMul, reduceIte, reduceCtorEq, Nat.reduceAdd, Nat.reduceEqDiff, Nat.reduceLT, Nat.reduceLeDiff, hx, hL, fa, fk, fb, QW, Try.results69])))
     all_goals try (exfalso; omega)
     refine ⟨j + 1, by omega, by omega, weak [] [52] ?_ ?_ ?_⟩
     ·(simp -dsimp only [↓RP, RQ, Nat.reduceMul, reduceIte, reduceCtorEq, Nat.reduceAdd, Nat.reduceEqDiff, Nat.reduceLT, Nat.reduceLeDiff, QV, e]); all_goals (try simp [e, QV, Go.Sx.Wk, isIn, blk]); all_goals first | exact lk1 _ | exact lk2 _ _ | skip
     ·(simp -dsimp only [↓RP, RQ, Nat.reduceMul, reduceIte, reduceCtorEq, Nat.reduceAdd, Nat.reduceEqDiff, Nat.reduceLT, Nat.reduceLeDiff, QV, e]); all_goals (try simp [e, QV]); all_goals first | exact lk1 _ | exact lk2 _ _ | skip
     ·(simp -dsimp only [↓RP, RQ, Nat.reduceMul, reduceIte, reduceCtorEq, Nat.reduceAdd, Nat.reduceEqDiff, Nat.reduceLT, Nat.reduceLeDiff, QV]); all_goals (try simp [QV])
    ·have fb := decide_eq_false hb
     have e := l4 ha (fun h => hb h.2)
     (repeat' (first | with_reducible (first | apply splitVC_d <;> intro _ | apply splitVC <;> intro _) | ((with_reducible refine And.intro ?_ ?_); focus (first | exact True.intro | omega | (simp only [InK, ne_eq, and_true, true_and]; omega) | (and_intros <;> first | exact .inr trivial | exact Nat.le_refl _ | exact one1 _ | exact one5 _ _ _ _ _ | omega) | trivial)) | (simp -dsimp only [↓RP, RQ, Nat.reduceMul, reduceIte, reduceCtorEq, Nat.reduceAdd, Nat.reduceEqDiff, Nat.reduceLT, Nat.reduceLeDiff, hx, hL, fk, QW, Try.results69])))
     refine callVC (c68L L x.a (by omega)) (by (simp -dsimp only [↓RP, RQ, Nat.reduceMul, reduceIte, reduceCtorEq, Nat.reduceAdd, Nat.reduceEqDiff, Nat.reduceLT, Nat.reduceLeDiff, QV, lsv, ints, I]); all_goals (try simp [QV])) (by (simp -dsimp only [↓RP, RQ, Nat.reduceMul, reduceIte, reduceCtorEq, Nat.reduceAdd, Nat.reduceEqDiff, Nat.reduceLT, Nat.reduceLeDiff, QX]); all_goals (try simp [QV])) ?_
     (repeat' (first | with_reducible (first | apply splitVC_d <;> intro _ | apply splitVC <;> intro _) | ((with_reducible refine And.intro ?_ ?_); focus (first | exact True.intro | omega | (simp only [InK, ne_eq, and_true, true_and]; omega) | (and_intros <;> first | exact .inr trivial | exact Nat.le_refl _ | exact one1 _ | exact one5 _ _ _ _ _ | omega) | trivial)) | (simp -dsimp only [↓RP, RQ, Nat.reduceMul, reduceIte, reduceCtorEq, Nat.reduceAdd, Nat.reduceEqDiff, Nat.reduceLT, Nat.reduceLeDiff, hx, hL, fa, fk, fb, QW, Try.results69])))
     refine callVC (c68L L x.b (by omega)) (by (simp -dsimp only [↓RP, RQ, Nat.reduceMul, reduceIte, reduceCtorEq, Nat.reduceAdd, Nat.reduceEqDiff, Nat.reduceLT, Nat.reduceLeDiff, QV, lsv, ints, I]); all_goals (try simp [QV])) (by (simp -dsimp only [↓RP, RQ, Nat.reduceMul, reduceIte, reduceCtorEq, Nat.reduceAdd, Nat.reduceEqDiff, Nat.reduceLT, Nat.reduceLeDiff, QX]); all_goals (try simp [QV])) ?_
     (repeat' (first | with_reducible (first | apply splitVC_d <;> intro _ | apply splitVC <;> intro _) | ((with_reducible refine And.intro ?_ ?_); focus (first | exact True.intro | omega | (simp only [InK, ne_eq, and_true, true_and]; omega) | (and_intros <;> first | exact .inr trivial | exact Nat.le_refl _ | exact one1 _ | exact one5 _ _ _ _ _ | omega) | trivial)) | (simp -dsimp only [↓RP, RQ, Nat.reduceMul, reduceIte, reduceCtorEq, Nat.reduceAdd, Nat.reduceEqDiff, Nat.reduceLT, Nat.reduceLeDiff, hx, hL, fa, fk, fb, QW, Try.results69])))
     all_goals try (exfalso; omega)
     refine ⟨j + 1, by omega, by omega, weak [] [] ?_ ?_ ?_⟩
     ·(simp -dsimp only [↓RP, RQ, Nat.reduceMul, reduceIte, reduceCtorEq, Nat.reduceAdd, Nat.reduceEqDiff, Nat.reduceLT, Nat.reduceLeDiff, QV, e]); all_goals (try simp [e, QV, Go.Sx.Wk, isIn, blk]); all_goals first | exact lk1 _ | exact lk2 _ _ | skip
     ·(simp -dsimp only [↓RP, RQ, Nat.reduceMul, reduceIte, reduceCtorEq, Nat.reduceAdd, Nat.reduceEqDiff, Nat.reduceLT, Nat.reduceLeDiff, QV, e]); all_goals (try simp [e, QV]); all_goals first | exact lk1 _ | exact lk2 _ _ | skip
     ·(simp -dsimp only [↓RP, RQ, Nat.reduceMul, reduceIte, reduceCtorEq, Nat.reduceAdd, Nat.reduceEqDiff, Nat.reduceLT, Nat.reduceLeDiff, QV]); all_goals (try simp [QV])
   ·have fk := decide_eq_false hk
    have e := l4 ha (fun h => hk h.1)
    (repeat' (first | with_reducible (first | apply splitVC_d <;> intro _ | apply splitVC <;> intro _) | ((with_reducible refine And.intro ?_ ?_); focus (first | exact True.intro | omega | (simp only [InK, ne_eq, and_true, true_and]; omega) | (and_intros <;> first | exact .inr trivial | exact Nat.le_refl _ | exact one1 _ | exact one5 _ _ _ _ _ | omega) | trivial)) | (simp -dsimp only [↓RP, RQ, Nat.reduceMul, reduceIte, reduceCtorEq, Nat.reduceAdd, Nat.reduceEqDiff, Nat.reduceLT, Nat.reduceLeDiff, hx, hL, fk, QW, Try.results69])))
    refine callVC (c68L L x.a (by omega)) (by (simp -dsimp only [↓RP, RQ, Nat.reduceMul, reduceIte, reduceCtorEq, Nat.reduceAdd, Nat.reduceEqDiff, Nat.reduceLT, Nat.reduceLeDiff, QV, lsv, ints, I]); all_goals (try simp [QV])) (by (simp -dsimp only [↓RP, RQ, Nat.reduceMul, reduceIte, reduceCtorEq, Nat.reduceAdd, Nat.reduceEqDiff, Nat.reduceLT, Nat.reduceLeDiff, QX]); all_goals (try simp [QV])) ?_
    (repeat' (first | with_reducible (first | apply splitVC_d <;> intro _ | apply splitVC <;> intro _) | ((with_reducible refine And.intro ?_ ?_); focus (first | exact True.intro | omega | (simp only [InK, ne_eq, and_true, true_and]; omega) | (and_intros <;> first | exact .inr trivial | exact Nat.le_refl _ | exact one1 _ | exact one5 _ _ _ _ _ | omega) | trivial)) | (simp -dsimp only [↓RP, RQ, Nat.reduceMul, reduceIte, reduceCtorEq, Nat.reduceAdd, Nat.reduceEqDiff, Nat.reduceLT, Nat.reduceLeDiff, hx, hL, fa, fk, QW, Try.results69])))
    all_goals try (exfalso; omega)
    refine ⟨j + 1, by omega, by omega, weak [] [] ?_ ?_ ?_⟩
    ·(simp -dsimp only [↓RP, RQ, Nat.reduceMul, reduceIte, reduceCtorEq, Nat.reduceAdd, Nat.reduceEqDiff, Nat.reduceLT, Nat.reduceLeDiff, QV, e]); all_goals (try simp [e, QV, Go.Sx.Wk, isIn, blk]); all_goals first | exact lk1 _ | exact lk2 _ _ | skip
    ·(simp -dsimp only [↓RP, RQ, Nat.reduceMul, reduceIte, reduceCtorEq, Nat.reduceAdd, Nat.reduceEqDiff, Nat.reduceLT, Nat.reduceLeDiff, QV, e]); all_goals (try simp [e, QV]); all_goals first | exact lk1 _ | exact lk2 _ _ | skip
    ·(simp -dsimp only [↓RP, RQ, Nat.reduceMul, reduceIte, reduceCtorEq, Nat.reduceAdd, Nat.reduceEqDiff, Nat.reduceLT, Nat.reduceLeDiff, QV]); all_goals (try simp [QV])
 ·obtain rfl : j = k := by omega
  (repeat' (first | with_reducible (first | apply splitVC_d <;> intro _ | apply splitVC <;> intro _) | ((with_reducible refine And.intro ?_ ?_); focus (first | exact True.intro | omega | (simp only [InK, ne_eq, and_true, true_and]; omega) | (and_intros <;> first | exact .inr trivial | exact Nat.le_refl _ | exact one1 _ | exact one5 _ _ _ _ _ | omega) | trivial)) | (simp -dsimp only [↓RP, RQ, Nat.reduceMul, reduceIte, reduceCtorEq, Nat.reduceAdd, Nat.reduceEqDiff, Nat.reduceLT, Nat.reduceLeDiff, QW, Try.results69])))
  all_goals try (exfalso; omega)
  all_goals simp
theorem c67 (N : Int) (m : Nat) (w : Nat → Wd) (i : Int) (h0 : 0 ≤ i) (h1 : i < m) : Contract Try.prog 67 [I i, pref N m w] (B (decide ((w i.toNat).k = 0))) := by
 refine contract_of Try.func67 rfl (by kernel_rfl) follows (by kernel_rfl) _ _ (by rw [Try.ntmps67]; simp) (by simp [OldL, Old, QV, pref, I]) ?_
 unfold pref I B
 (repeat' (first | with_reducible (first | apply splitVC_d <;> intro _ | apply splitVC <;> intro _) | ((with_reducible refine And.intro ?_ ?_); focus (first | exact True.intro | omega | (simp only [InK, ne_eq, and_true, true_and]; omega) | trivial)) | (simp -dsimp only [↓RP, RQ, Nat.reduceMul, reduceIte, reduceCtorEq, Nat.reduceAdd, Nat.reduceEqDiff, Nat.reduceLT, Nat.reduceLeDiff, QW, Try.results67])))
 all_goals first | omega | skip
def stC (w : Nat → Wd) (c : Nat → Int) (k : Nat) : Prop := anyI (fun i => decide ((w (c i).toNat).k = 0)) k
instance (w : Nat → Wd) (c : Nat → Int) (k : Nat) : Decidable (stC w c k) := by unfold stC; infer_instance
def bkC (w : Nat → Wd) (c : Nat → Int) (k n : Nat) : Prop := anyI (fun r => decide ((r : Int) ∈ fol w c r k)) n
instance (w : Nat → Wd) (c : Nat → Int) (k n : Nat) : Decidable (bkC w c k n) := by unfold bkC; infer_instance
def ckC (N : Int) (m : Nat) (w : Nat → Wd) (k : Nat) (c : Nat → Int) : Int := if ckR N m w ≠ 0 then ckR N m w else if ¬ (1 ≤ k ∧ k ≤ 12) then 6 else if ¬ allIn c k 0 ((m : Int) - 1) then 3 else if ¬ stC w c k then 16 else if bkC w c k N.toNat then 0 else 16
theorem c29 (N : Int) (m : Nat) (w : Nat → Wd) (hm : m ≤ 1000000) (k : Nat) (c : Nat → Int) (hk : k ≤ 1000) : Contract Try.prog 29 [rsv N m w, ints k c] (I (ckC N m w k c)) := by
 refine contract_of Try.func29 rfl (by kernel_rfl) follows (by kernel_rfl) _ _ (by rw [Try.ntmps29]; simp) (by simp [OldL, Old, QV, rsv, ints]) ?_
 unfold ckC
 by_cases he : ckR N m w = 0
 ·rw [if_neg (by omega)]
  have ⟨n2, n5, _, _⟩ := ckR_ok he
  obtain ⟨n, rfl⟩ : ∃ n : Nat, N = n := ⟨N.toNat, by omega⟩
  rw [Int.toNat_natCast]
  unfold rsv ints I
  (repeat' (first | with_reducible (first | apply splitVC_d <;> intro _ | apply splitVC <;> intro _) | ((with_reducible refine And.intro ?_ ?_); focus (first | exact True.intro | omega | (simp only [InK, ne_eq, and_true, true_and]; omega) | trivial)) | (simp -dsimp only [↓RP, RQ, Nat.reduceMul, reduceIte, reduceCtorEq, Nat.reduceAdd, Nat.reduceEqDiff, Nat.reduceLT, Nat.reduceLeDiff, QW, Try.results29])))
  refine callVC_old (c56 n m w hm he) (by (simp -dsimp only [↓RP, RQ, Nat.reduceMul, reduceIte, reduceCtorEq, Nat.reduceAdd, Nat.reduceEqDiff, Nat.reduceLT, Nat.reduceLeDiff, QX]); all_goals (try simp [QV, Go.Sx.Sub, Go.Sx.SubL]); all_goals (try exact lit2 _ _)) ?_
  (repeat' (first | with_reducible (first | apply splitVC_d <;> intro _ | apply splitVC <;> intro _) | ((with_reducible refine And.intro ?_ ?_); focus (first | exact True.intro | omega | (simp only [InK, ne_eq, and_true, true_and]; omega) | trivial)) | (simp -dsimp only [↓RP, RQ, Nat.reduceMul, reduceIte, reduceCtorEq, Nat.reduceAdd, Nat.reduceEqDiff, Nat.reduceLT, Nat.reduceLeDiff, QW, Try.results29])))
  refine callVC (c51_1 k 1 12) ?_ ?_ ?_; iterate 2 focus ((simp -dsimp only [↓RP, RQ, Nat.reduceMul, reduceIte, reduceCtorEq, Nat.reduceAdd, Nat.reduceEqDiff, Nat.reduceLT, Nat.reduceLeDiff, QX]); all_goals (try simp [QV, Go.Sx.Sub, Go.Sx.SubL]); all_goals (try exact lit2 _ _))
  (repeat' (first | with_reducible (first | apply splitVC_d <;> intro _ | apply splitVC <;> intro _) | ((with_reducible refine And.intro ?_ ?_); focus (first | exact True.intro | omega | (simp only [InK, ne_eq, and_true, true_and]; omega) | trivial)) | (simp -dsimp only [↓RP, RQ, Nat.reduceMul, reduceIte, reduceCtorEq, Nat.reduceAdd, Nat.reduceEqDiff, Nat.reduceLT, Nat.reduceLeDiff, QW, Try.results29])))
  ·rename_i h1
   rw [if_neg (show ¬ ¬ (1 ≤ k ∧ k ≤ 12) by omega)]
   refine callVC (c51 k c 0 ((m : Int) - 1) (by omega)) ?_ ?_ ?_; iterate 2 focus ((simp -dsimp only [↓RP, RQ, Nat.reduceMul, reduceIte, reduceCtorEq, Nat.reduceAdd, Nat.reduceEqDiff, Nat.reduceLT, Nat.reduceLeDiff, QX]); all_goals (try simp [QV, Go.Sx.Sub, Go.Sx.SubL]); all_goals (try exact lit2 _ _))
   (repeat' (first | with_reducible (first | apply splitVC_d <;> intro _ | apply splitVC <;> intro _) | ((with_reducible refine And.intro ?_ ?_); focus (first | exact True.intro | omega | (simp only [InK, ne_eq, and_true, true_and]; omega) | trivial)) | (simp -dsimp only [↓RP, RQ, Nat.reduceMul, reduceIte, reduceCtorEq, Nat.reduceAdd, Nat.reduceEqDiff, Nat.reduceLT, Nat.reduceLeDiff, QW, Try.results29])))
   ·rename_i h2
    rw [if_neg (show ¬ ¬ allIn c k 0 ((m : Int) - 1) from fun h => h h2)]
    refine callVC (c66 k c 67 [pref n m w] (by simp [OldL, Old, QV, pref]) (fun i => decide ((w (c i).toNat).k = 0)) (by omega) fun i hi => c67 n m w (c i) (by have := h2 i hi; omega) (by have := h2 i hi; omega)) (by (simp -dsimp only [↓RP, RQ, Nat.reduceMul, reduceIte, reduceCtorEq, Nat.reduceAdd, Nat.reduceEqDiff, Nat.reduceLT, Nat.reduceLeDiff, QV, ints, pref]); all_goals (try simp [QV, Go.Sx.Sub, Go.Sx.SubL])) (by (simp -dsimp only [↓RP, RQ, Nat.reduceMul, reduceIte, reduceCtorEq, Nat.reduceAdd, Nat.reduceEqDiff, Nat.reduceLT, Nat.reduceLeDiff, QX]); all_goals (try simp [QV])) ?_
    (repeat' (first | with_reducible (first | apply splitVC_d <;> intro _ | apply splitVC <;> intro _) | ((with_reducible refine And.intro ?_ ?_); focus (first | exact True.intro | omega | (simp only [InK, ne_eq, and_true, true_and]; omega) | trivial)) | (simp -dsimp only [↓RP, RQ, Nat.reduceMul, reduceIte, reduceCtorEq, Nat.reduceAdd, Nat.reduceEqDiff, Nat.reduceLT, Nat.reduceLeDiff, QW, Try.results29])))
    ·rename_i h3
     rw [if_neg (show ¬ ¬ stC w c k from fun h => h h3)]
     refine loop_vc (fun (r : Nat) => r ≤ n ∧ ∀ s, s < r → ¬ (s : Int) ∈ fol w c s k) (fun r => ⟨[(1, .arr false false k 1 (fun i _ => .val (.int .i64 (c i)))), (2, .ptr 0 0), (5, .ref true 2 (fun j => rf n m w j)), (37, .val (.int .i64 (n : Nat))), (38, .val (.int .i64 (r : Nat)))], [(0, .cells 24 [.val (.int .i64 (n : Nat)), .arr false false m 3 (fun i j => wf (w i) j)])], 60⟩) (fun r => n - r) 0 ⟨Nat.zero_le _, fun j hj => by omega⟩ (weak [] [] ?_ ?_ ?_) fun r hr => ?_
     iterate 3 focus ((simp -dsimp only [↓RP, RQ, Nat.reduceMul, reduceIte, reduceCtorEq, Nat.reduceAdd, Nat.reduceEqDiff, Nat.reduceLT, Nat.reduceLeDiff, QV]); all_goals (try simp [QV]))
     obtain ⟨hr, hno⟩ := hr
     by_cases hlt : r < n
     ·have hl := fol_len w c r k
      (repeat' (first | with_reducible (first | apply splitVC_d <;> intro _ | apply splitVC <;> intro _) | ((with_reducible refine And.intro ?_ ?_); focus (first | exact True.intro | omega | (simp only [InK, ne_eq, and_true, true_and]; omega) | trivial)) | (simp -dsimp only [↓RP, RQ, Nat.reduceMul, reduceIte, reduceCtorEq, Nat.reduceAdd, Nat.reduceEqDiff, Nat.reduceLT, Nat.reduceLeDiff, QW, Try.results29])))
      all_goals try (exfalso; omega)
      refine callVC (c69 n m w r k c hk fun i hi => by have := h2 i hi; omega) ?_ ?_ ?_; iterate 2 focus ((simp -dsimp only [↓RP, RQ, Nat.reduceMul, reduceIte, reduceCtorEq, Nat.reduceAdd, Nat.reduceEqDiff, Nat.reduceLT, Nat.reduceLeDiff, QX]); all_goals (try simp [QV, Go.Sx.Sub, Go.Sx.SubL]); all_goals (try exact lit2 _ _))
      (repeat' (first | with_reducible (first | apply splitVC_d <;> intro _ | apply splitVC <;> intro _) | ((with_reducible refine And.intro ?_ ?_); focus (first | exact True.intro | omega | (simp only [InK, ne_eq, and_true, true_and]; omega) | trivial)) | (simp -dsimp only [↓RP, RQ, Nat.reduceMul, reduceIte, reduceCtorEq, Nat.reduceAdd, Nat.reduceEqDiff, Nat.reduceLT, Nat.reduceLeDiff, QW, Try.results29])))
      refine callVC (c68L (fol w c r k) r (by omega)) (by (simp -dsimp only [↓RP, RQ, Nat.reduceMul, reduceIte, reduceCtorEq, Nat.reduceAdd, Nat.reduceEqDiff, Nat.reduceLT, Nat.reduceLeDiff, QV, lsv, ints, I]); all_goals (try simp [QV])) (by (simp -dsimp only [↓RP, RQ, Nat.reduceMul, reduceIte, reduceCtorEq, Nat.reduceAdd, Nat.reduceEqDiff, Nat.reduceLT, Nat.reduceLeDiff, QX]); all_goals (try simp [QV])) ?_
      (repeat' (first | with_reducible (first | apply splitVC_d <;> intro _ | apply splitVC <;> intro _) | ((with_reducible refine And.intro ?_ ?_); focus (first | exact True.intro | omega | (simp only [InK, ne_eq, and_true, true_and]; omega) | trivial)) | (simp -dsimp only [↓RP, RQ, Nat.reduceMul, reduceIte, reduceCtorEq, Nat.reduceAdd, Nat.reduceEqDiff, Nat.reduceLT, Nat.reduceLeDiff, QW, Try.results29])))
      all_goals try (exfalso; omega)
      ·rename_i hin
       refine I_eq ?_
       rw [if_pos (show bkC w c k n from ⟨r, hlt, decide_eq_true hin⟩)]
      ·rename_i hin
       refine ⟨r + 1, ⟨by omega, fun s hs => (Nat.lt_or_eq_of_le (Nat.le_of_lt_succ hs)).elim (hno s) fun e => e ▸ hin⟩, by omega, weak [] [] ?_ ?_ ?_⟩
       iterate 3 focus ((simp -dsimp only [↓RP, RQ, Nat.reduceMul, reduceIte, reduceCtorEq, Nat.reduceAdd, Nat.reduceEqDiff, Nat.reduceLT, Nat.reduceLeDiff, QV]); all_goals (try simp [QV]))
     ·obtain rfl : r = n := by omega
      (repeat' (first | with_reducible (first | apply splitVC_d <;> intro _ | apply splitVC <;> intro _) | ((with_reducible refine And.intro ?_ ?_); focus (first | exact True.intro | omega | (simp only [InK, ne_eq, and_true, true_and]; omega) | trivial)) | (simp -dsimp only [↓RP, RQ, Nat.reduceMul, reduceIte, reduceCtorEq, Nat.reduceAdd, Nat.reduceEqDiff, Nat.reduceLT, Nat.reduceLeDiff, QW, Try.results29])))
      all_goals try (exfalso; omega)
      refine I_eq ?_
      rw [if_neg]
      rintro ⟨s, hs, hb⟩
      exact hno s hs (of_decide_eq_true hb)
    ·rename_i h3
     refine I_eq ?_
     rw [if_pos (show ¬ stC w c k from h3)]
   ·rename_i h2
    refine I_eq ?_
    rw [if_pos h2]
  ·rename_i h1
   refine I_eq ?_
   rw [if_pos (by omega)]
 ·rw [if_pos he]
  have hd : (!decide (ckR N m w = 0)) = true := by simp [he]
  unfold rsv ints I
  (repeat' (first | with_reducible (first | apply splitVC_d <;> intro _ | apply splitVC <;> intro _) | ((with_reducible refine And.intro ?_ ?_); focus (first | exact True.intro | omega | (simp only [InK, ne_eq, and_true, true_and]; omega) | trivial)) | (simp -dsimp only [↓RP, RQ, Nat.reduceMul, reduceIte, reduceCtorEq, Nat.reduceAdd, Nat.reduceEqDiff, Nat.reduceLT, Nat.reduceLeDiff, hd, QW, Try.results29])))
  refine callVC_old (c56e N m w hm he) (by (simp -dsimp only [↓RP, RQ, Nat.reduceMul, reduceIte, reduceCtorEq, Nat.reduceAdd, Nat.reduceEqDiff, Nat.reduceLT, Nat.reduceLeDiff, QX]); all_goals (try simp [QV, Go.Sx.Sub, Go.Sx.SubL]); all_goals (try exact lit2 _ _)) ?_
  (repeat' (first | with_reducible (first | apply splitVC_d <;> intro _ | apply splitVC <;> intro _) | ((with_reducible refine And.intro ?_ ?_); focus (first | exact True.intro | omega | (simp only [InK, ne_eq, and_true, true_and]; omega) | trivial)) | (simp -dsimp only [↓RP, RQ, Nat.reduceMul, reduceIte, reduceCtorEq, Nat.reduceAdd, Nat.reduceEqDiff, Nat.reduceLT, Nat.reduceLeDiff, hd, QW, Try.results29])))
end Go.He
end
section
set_option linter.unusedSimpArgs false
set_option linter.unusedVariables false
set_option linter.defProp false
set_option maxRecDepth 100000
set_option maxHeartbeats 16000000
namespace Go.He
open Go.Proofs
open Go.Sx
def stB (w : Nat → Wd) (c : Nat → Int) (i : Nat) : Bool := decide (stC w c i)
theorem stB_S (w : Nat → Wd) (c : Nat → Int) (i : Nat) : stB w c (i + 1) = (stB w c i || decide ((w (c i).toNat).k = 0)) := by
 unfold stB
 rw [Bool.eq_iff_iff, Bool.or_eq_true, decide_eq_true_eq, decide_eq_true_eq, decide_eq_true_eq]
 constructor
 ·rintro ⟨j, hj, hb⟩
  by_cases e : j = i
  ·subst e; exact .inr (of_decide_eq_true hb)
  ·exact .inl ⟨j, by omega, hb⟩
 ·rintro (⟨j, hj, hb⟩ | h)
  ·exact ⟨j, by omega, hb⟩
  ·exact ⟨i, by omega, decide_eq_true h⟩
theorem stB_0 (w : Nat → Wd) (c : Nat → Int) : stB w c 0 = false := decide_eq_false fun ⟨j, hj, _⟩ => by omega
theorem c30 (N : Int) (m : Nat) (w : Nat → Wd) (hm : m ≤ 1000000) (k : Nat) (c : Nat → Int) (hk : k ≤ 1000) : Contract Try.prog 30 [rsv N m w, ints k c] (I (ckC N m w k c)) := by
 refine contract_of Try.func30 rfl (by kernel_rfl) follows (by kernel_rfl) _ _ (by rw [Try.ntmps30]; simp) (by simp [OldL, Old, QV, rsv, ints]) ?_
 unfold ckC
 by_cases he : ckR N m w = 0
 ·rw [if_neg (by omega)]
  have ⟨n2, n5, _, _⟩ := ckR_ok he
  obtain ⟨n, rfl⟩ : ∃ n : Nat, N = n := ⟨N.toNat, by omega⟩
  rw [Int.toNat_natCast]
  have hd : (!decide (ckR (n : Int) m w = 0)) = false := by simp [he]
  unfold rsv ints I
  by_cases h1 : 1 ≤ k ∧ k ≤ 12
  ·rw [if_neg (show ¬ ¬ (1 ≤ k ∧ k ≤ 12) by omega)]
   (repeat' (first | with_reducible (first | apply splitVC_d <;> intro _ | apply splitVC <;> intro _) | ((with_reducible refine And.intro ?_ ?_); focus (first | exact True.intro | omega | (simp only [InK, ne_eq, and_true, true_and]; omega) | trivial)) | (simp -dsimp only [↓RP, RQ, Nat.reduceMul, reduceIte, reduceCtorEq, Nat.reduceAdd, Nat.reduceEqDiff, Nat.reduceLT, Nat.reduceLeDiff, QW, Try.results30])))
   refine callVC (c20 n m w hm) ?_ ?_ ?_; iterate 2 focus ((simp -dsimp only [↓RP, RQ, Nat.reduceMul, reduceIte, reduceCtorEq, Nat.reduceAdd, Nat.reduceEqDiff, Nat.reduceLT, Nat.reduceLeDiff, QX]); all_goals (try simp [QV, Go.Sx.Sub, Go.Sx.SubL]); all_goals (try exact lit2 _ _))
   (repeat' (first | with_reducible (first | apply splitVC_d <;> intro _ | apply splitVC <;> intro _) | ((with_reducible refine And.intro ?_ ?_); focus (first | exact True.intro | omega | (simp only [InK, ne_eq, and_true, true_and]; omega) | trivial)) | (simp -dsimp only [↓RP, RQ, Nat.reduceMul, reduceIte, reduceCtorEq, Nat.reduceAdd, Nat.reduceEqDiff, Nat.reduceLT, Nat.reduceLeDiff, hd, QW, Try.results30])))
   all_goals try (exfalso; omega)
   refine loop_vc (fun (i : Nat) => i ≤ k ∧ ∀ j, j < i → 0 ≤ c j ∧ c j ≤ (m : Int) - 1) (fun i => ⟨[(1, .arr false false k 1 (fun i _ => .val (.int .i64 (c i)))), (2, .ptr 0 0), (5, .val (.bool (stB w c i))), (6, .val (.int .i64 (i : Nat)))], [(0, .cells 24 [.val (.int .i64 (n : Nat)), .arr false false m 3 (fun i j => wf (w i) j)])], 60⟩) (fun i => k - i) 0 ⟨Nat.zero_le _, fun j hj => by omega⟩ (weak [] [] ?_ ?_ ?_) fun i hi => ?_
   iterate 3 focus ((simp -dsimp only [↓RP, RQ, Nat.reduceMul, reduceIte, reduceCtorEq, Nat.reduceAdd, Nat.reduceEqDiff, Nat.reduceLT, Nat.reduceLeDiff, QV, stB_0]); all_goals (try simp [QV, stB_0]))
   obtain ⟨hi, hal⟩ := hi
   by_cases hlt : i < k
   ·by_cases hc : 0 ≤ c i ∧ c i < m
    ·have eS := stB_S w c i
     cases hs : stB w c i with
     | true =>
      rw [hs, Bool.true_or] at eS
      (repeat' (first | with_reducible (first | apply splitVC_d <;> intro _ | apply splitVC <;> intro _) | ((with_reducible refine And.intro ?_ ?_); focus (first | exact True.intro | omega | (simp only [InK, ne_eq, and_true, true_and]; omega) | trivial)) | (simp -dsimp only [↓RP, RQ, Nat.reduceMul, reduceIte, reduceCtorEq, Nat.reduceAdd, Nat.reduceEqDiff, Nat.reduceLT, Nat.reduceLeDiff, QW, Try.results30])))
      all_goals try (exfalso; omega)
      refine ⟨i + 1, ⟨by omega, fun j hj => (Nat.lt_or_eq_of_le (Nat.le_of_lt_succ hj)).elim (hal j) fun e => e ▸ (by omega)⟩, by omega, weak [] [] ?_ ?_ ?_⟩
      iterate 3 focus ((simp -dsimp only [↓RP, RQ, Nat.reduceMul, reduceIte, reduceCtorEq, Nat.reduceAdd, Nat.reduceEqDiff, Nat.reduceLT, Nat.reduceLeDiff, QV, eS]); all_goals (try simp [QV, eS]))
     | false =>
      rw [hs, Bool.false_or] at eS
      (repeat' (first | with_reducible (first | apply splitVC_d <;> intro _ | apply splitVC <;> intro _) | ((with_reducible refine And.intro ?_ ?_); focus (first | exact True.intro | omega | (simp only [InK, ne_eq, and_true, true_and]; omega) | trivial)) | (simp -dsimp only [↓RP, RQ, Nat.reduceMul, reduceIte, reduceCtorEq, Nat.reduceAdd, Nat.reduceEqDiff, Nat.reduceLT, Nat.reduceLeDiff, QW, Try.results30])))
      all_goals try (exfalso; omega)
      all_goals (
       refine ⟨i + 1, ⟨by omega, fun j hj => (Nat.lt_or_eq_of_le (Nat.le_of_lt_succ hj)).elim (hal j) fun e => e ▸ (by omega)⟩, by omega, weak [] [] ?_ ?_ ?_⟩
       iterate 2 focus ((simp -dsimp only [↓RP, RQ, Nat.reduceMul, reduceIte, reduceCtorEq, Nat.reduceAdd, Nat.reduceEqDiff, Nat.reduceLT, Nat.reduceLeDiff, QV, eS]); all_goals (try simp [QV, eS]))
       ·(simp -dsimp only [↓RP, RQ, Nat.reduceMul, reduceIte, reduceCtorEq, Nat.reduceAdd, Nat.reduceEqDiff, Nat.reduceLT, Nat.reduceLeDiff, QV, eS]); all_goals (try simp [QV, eS]))
    ·(repeat' (first | with_reducible (first | apply splitVC_d <;> intro _ | apply splitVC <;> intro _) | ((with_reducible refine And.intro ?_ ?_); focus (first | exact True.intro | omega | (simp only [InK, ne_eq, and_true, true_and]; omega) | trivial)) | (simp -dsimp only [↓RP, RQ, Nat.reduceMul, reduceIte, reduceCtorEq, Nat.reduceAdd, Nat.reduceEqDiff, Nat.reduceLT, Nat.reduceLeDiff, QW, Try.results30])))
     all_goals try (exfalso; omega)
     all_goals (
      refine I_eq ?_
      rw [if_pos (show ¬ allIn c k 0 ((m : Int) - 1) from fun h => hc (by have := h i hlt; omega))])
   ·obtain rfl : i = k := by omega
    rw [if_neg (show ¬ ¬ allIn c i 0 ((m : Int) - 1) from fun h => h hal)]
    by_cases hst : stC w c i
    ·rw [if_neg (show ¬ ¬ stC w c i from fun h => h hst)]
     have hsb : stB w c i = true := decide_eq_true hst
     (repeat' (first | with_reducible (first | apply splitVC_d <;> intro _ | apply splitVC <;> intro _) | ((with_reducible refine And.intro ?_ ?_); focus (first | exact True.intro | omega | (simp only [InK, ne_eq, and_true, true_and]; omega) | trivial)) | (simp -dsimp only [↓RP, RQ, Nat.reduceMul, reduceIte, reduceCtorEq, Nat.reduceAdd, Nat.reduceEqDiff, Nat.reduceLT, Nat.reduceLeDiff, hsb, QW, Try.results30])))
     all_goals try (exfalso; omega)
     refine loop_vc (fun (r : Nat) => r ≤ n ∧ ∀ s, s < r → ¬ (s : Int) ∈ fol w c s i) (fun r => ⟨[(1, .arr false false i 1 (fun i _ => .val (.int .i64 (c i)))), (2, .ptr 0 0), (5, .val (.bool true)), (7, .val (.int .i64 (r : Nat)))], [(0, .cells 24 [.val (.int .i64 (n : Nat)), .arr false false m 3 (fun i j => wf (w i) j)])], 60⟩) (fun r => n - r) 0 ⟨Nat.zero_le _, fun j hj => by omega⟩ (weak [] [] ?_ ?_ ?_) fun r hr => ?_
     iterate 3 focus ((simp -dsimp only [↓RP, RQ, Nat.reduceMul, reduceIte, reduceCtorEq, Nat.reduceAdd, Nat.reduceEqDiff, Nat.reduceLT, Nat.reduceLeDiff, QV, hsb]); all_goals (try simp [QV, hsb]))
     obtain ⟨hr, hno⟩ := hr
     by_cases hltr : r < n
     ·(repeat' (first | with_reducible (first | apply splitVC_d <;> intro _ | apply splitVC <;> intro _) | ((with_reducible refine And.intro ?_ ?_); focus (first | exact True.intro | omega | (simp only [InK, ne_eq, and_true, true_and]; omega) | trivial)) | (simp -dsimp only [↓RP, RQ, Nat.reduceMul, reduceIte, reduceCtorEq, Nat.reduceAdd, Nat.reduceEqDiff, Nat.reduceLT, Nat.reduceLeDiff, QW, Try.results30])))
      all_goals try (exfalso; omega)
      refine loop_vc (fun (j : Nat) => j ≤ i) (fun j => ⟨[(1, .arr false false i 1 (fun i _ => .val (.int .i64 (c i)))), (2, .ptr 0 0), (5, .val (.bool true)), (7, .val (.int .i64 (r : Nat))), (8, .arr true false (fol w c r j).length 1 (fun i _ => .val (.int .i64 ((fol w c r j).getD i 0)))), (9, .val (.int .i64 (j : Nat)))], [(0, .cells 24 [.val (.int .i64 (n : Nat)), .arr false false m 3 (fun i j => wf (w i) j)])], 80⟩) (fun j => i - j) 0 (Nat.zero_le _) (weak [] [68] ?_ ?_ ?_) fun j hj => ?_
      iterate 3 focus ((simp -dsimp only [↓RP, RQ, Nat.reduceMul, reduceIte, reduceCtorEq, Nat.reduceAdd, Nat.reduceEqDiff, Nat.reduceLT, Nat.reduceLeDiff, QV, fol_0]); all_goals (try simp [fol_0, QV, Go.Sx.Wk, isIn, blk]); all_goals first | exact lk1 _ | skip)
      have hl := fol_len w c r j
      by_cases hltj : j < i
      ·have hcj := hal j hltj
       (repeat' (first | with_reducible (first | apply splitVC_d <;> intro _ | apply splitVC <;> intro _) | ((with_reducible refine And.intro ?_ ?_); focus (first | exact True.intro | omega | (simp only [InK, ne_eq, and_true, true_and]; omega) | trivial)) | (simp -dsimp only [↓RP, RQ, Nat.reduceMul, reduceIte, reduceCtorEq, Nat.reduceAdd, Nat.reduceEqDiff, Nat.reduceLT, Nat.reduceLeDiff, QW, Try.results30])))
       all_goals try (exfalso; omega)
       refine callVC (c70 (w (c j).toNat) (fol w c r j) (by omega)) (by (simp -dsimp only [↓RP, RQ, Nat.reduceMul, reduceIte, reduceCtorEq, Nat.reduceAdd, Nat.reduceEqDiff, Nat.reduceLT, Nat.reduceLeDiff, QV, lsv, wag]); all_goals (try simp [QV, Go.Sx.Sub, Go.Sx.SubL])) (by (simp -dsimp only [↓RP, RQ, Nat.reduceMul, reduceIte, reduceCtorEq, Nat.reduceAdd, Nat.reduceEqDiff, Nat.reduceLT, Nat.reduceLeDiff, QX]); all_goals (try simp [QV])) ?_
       rw [← fol_S]
       (repeat' (first | with_reducible (first | apply splitVC_d <;> intro _ | apply splitVC <;> intro _) | ((with_reducible refine And.intro ?_ ?_); focus (first | exact True.intro | omega | (simp only [InK, ne_eq, and_true, true_and]; omega) | trivial)) | (simp -dsimp only [↓RP, RQ, Nat.reduceMul, reduceIte, reduceCtorEq, Nat.reduceAdd, Nat.reduceEqDiff, Nat.reduceLT, Nat.reduceLeDiff, QW, Try.results30])))
       all_goals try (exfalso; omega)
       refine ⟨j + 1, by omega, by omega, weak [] [] ?_ ?_ ?_⟩
       iterate 3 focus ((simp -dsimp only [↓RP, RQ, Nat.reduceMul, reduceIte, reduceCtorEq, Nat.reduceAdd, Nat.reduceEqDiff, Nat.reduceLT, Nat.reduceLeDiff, QV]); all_goals (try simp [QV]))
      ·obtain rfl : j = i := by omega
       (repeat' (first | with_reducible (first | apply splitVC_d <;> intro _ | apply splitVC <;> intro _) | ((with_reducible refine And.intro ?_ ?_); focus (first | exact True.intro | omega | (simp only [InK, ne_eq, and_true, true_and]; omega) | trivial)) | (simp -dsimp only [↓RP, RQ, Nat.reduceMul, reduceIte, reduceCtorEq, Nat.reduceAdd, Nat.reduceEqDiff, Nat.reduceLT, Nat.reduceLeDiff, QW, Try.results30])))
       all_goals try (exfalso; omega)
       refine callVC (c71L (fol w c r j) r (by omega)) (by (simp -dsimp only [↓RP, RQ, Nat.reduceMul, reduceIte, reduceCtorEq, Nat.reduceAdd, Nat.reduceEqDiff, Nat.reduceLT, Nat.reduceLeDiff, QV, lsv, ints, I]); all_goals (try simp [QV])) (by (simp -dsimp only [↓RP, RQ, Nat.reduceMul, reduceIte, reduceCtorEq, Nat.reduceAdd, Nat.reduceEqDiff, Nat.reduceLT, Nat.reduceLeDiff, QX]); all_goals (try simp [QV])) ?_
       (repeat' (first | with_reducible (first | apply splitVC_d <;> intro _ | apply splitVC <;> intro _) | ((with_reducible refine And.intro ?_ ?_); focus (first | exact True.intro | omega | (simp only [InK, ne_eq, and_true, true_and]; omega) | trivial)) | (simp -dsimp only [↓RP, RQ, Nat.reduceMul, reduceIte, reduceCtorEq, Nat.reduceAdd, Nat.reduceEqDiff, Nat.reduceLT, Nat.reduceLeDiff, QW, Try.results30])))
       all_goals try (exfalso; omega)
       ·rename_i hin
        refine I_eq ?_
        rw [if_pos (show bkC w c j n from ⟨r, hltr, decide_eq_true hin⟩)]
       ·rename_i hin
        refine ⟨r + 1, ⟨by omega, fun s hs => (Nat.lt_or_eq_of_le (Nat.le_of_lt_succ hs)).elim (hno s) fun e => e ▸ hin⟩, by omega, weak [] [] ?_ ?_ ?_⟩
        iterate 3 focus ((simp -dsimp only [↓RP, RQ, Nat.reduceMul, reduceIte, reduceCtorEq, Nat.reduceAdd, Nat.reduceEqDiff, Nat.reduceLT, Nat.reduceLeDiff, QV]); all_goals (try simp [QV]))
     ·obtain rfl : r = n := by omega
      (repeat' (first | with_reducible (first | apply splitVC_d <;> intro _ | apply splitVC <;> intro _) | ((with_reducible refine And.intro ?_ ?_); focus (first | exact True.intro | omega | (simp only [InK, ne_eq, and_true, true_and]; omega) | trivial)) | (simp -dsimp only [↓RP, RQ, Nat.reduceMul, reduceIte, reduceCtorEq, Nat.reduceAdd, Nat.reduceEqDiff, Nat.reduceLT, Nat.reduceLeDiff, QW, Try.results30])))
      all_goals try (exfalso; omega)
      refine I_eq ?_
      rw [if_neg]
      rintro ⟨s, hs, hb⟩
      exact hno s hs (of_decide_eq_true hb)
    ·rw [if_pos (show ¬ stC w c i from hst)]
     have hsb : stB w c i = false := decide_eq_false hst
     (repeat' (first | with_reducible (first | apply splitVC_d <;> intro _ | apply splitVC <;> intro _) | ((with_reducible refine And.intro ?_ ?_); focus (first | exact True.intro | omega | (simp only [InK, ne_eq, and_true, true_and]; omega) | trivial)) | (simp -dsimp only [↓RP, RQ, Nat.reduceMul, reduceIte, reduceCtorEq, Nat.reduceAdd, Nat.reduceEqDiff, Nat.reduceLT, Nat.reduceLeDiff, hsb, QW, Try.results30])))
     all_goals try (exfalso; omega)
     refine loop_vc (fun (r : Nat) => r = 0) (fun r => ⟨[(2, .ptr 0 0), (5, .val (.bool false)), (7, .val (.int .i64 (r : Nat)))], [(0, .cells 24 [.val (.int .i64 (n : Nat)), .arr false false m 3 (fun i j => wf (w i) j)])], 60⟩) (fun r => 1 - r) 0 rfl (weak [] [] ?_ ?_ ?_) fun r hr => ?_
     iterate 3 focus ((simp -dsimp only [↓RP, RQ, Nat.reduceMul, reduceIte, reduceCtorEq, Nat.reduceAdd, Nat.reduceEqDiff, Nat.reduceLT, Nat.reduceLeDiff, QV, hsb]); all_goals (try simp [QV, hsb]))
     subst hr
     (repeat' (first | with_reducible (first | apply splitVC_d <;> intro _ | apply splitVC <;> intro _) | ((with_reducible refine And.intro ?_ ?_); focus (first | exact True.intro | omega | (simp only [InK, ne_eq, and_true, true_and]; omega) | trivial)) | (simp -dsimp only [↓RP, RQ, Nat.reduceMul, reduceIte, reduceCtorEq, Nat.reduceAdd, Nat.reduceEqDiff, Nat.reduceLT, Nat.reduceLeDiff, QW, Try.results30])))
     all_goals try (exfalso; omega)
  ·rw [if_pos h1]
   (repeat' (first | with_reducible (first | apply splitVC_d <;> intro _ | apply splitVC <;> intro _) | ((with_reducible refine And.intro ?_ ?_); focus (first | exact True.intro | omega | (simp only [InK, ne_eq, and_true, true_and]; omega) | trivial)) | (simp -dsimp only [↓RP, RQ, Nat.reduceMul, reduceIte, reduceCtorEq, Nat.reduceAdd, Nat.reduceEqDiff, Nat.reduceLT, Nat.reduceLeDiff, QW, Try.results30])))
   refine callVC (c20 n m w hm) ?_ ?_ ?_; iterate 2 focus ((simp -dsimp only [↓RP, RQ, Nat.reduceMul, reduceIte, reduceCtorEq, Nat.reduceAdd, Nat.reduceEqDiff, Nat.reduceLT, Nat.reduceLeDiff, QX]); all_goals (try simp [QV, Go.Sx.Sub, Go.Sx.SubL]); all_goals (try exact lit2 _ _))
   (repeat' (first | with_reducible (first | apply splitVC_d <;> intro _ | apply splitVC <;> intro _) | ((with_reducible refine And.intro ?_ ?_); focus (first | exact True.intro | omega | (simp only [InK, ne_eq, and_true, true_and]; omega) | trivial)) | (simp -dsimp only [↓RP, RQ, Nat.reduceMul, reduceIte, reduceCtorEq, Nat.reduceAdd, Nat.reduceEqDiff, Nat.reduceLT, Nat.reduceLeDiff, hd, QW, Try.results30])))
   all_goals try (exfalso; omega)
 ·rw [if_pos he]
  have hd : (!decide (ckR N m w = 0)) = true := by simp [he]
  unfold rsv ints I
  (repeat' (first | with_reducible (first | apply splitVC_d <;> intro _ | apply splitVC <;> intro _) | ((with_reducible refine And.intro ?_ ?_); focus (first | exact True.intro | omega | (simp only [InK, ne_eq, and_true, true_and]; omega) | trivial)) | (simp -dsimp only [↓RP, RQ, Nat.reduceMul, reduceIte, reduceCtorEq, Nat.reduceAdd, Nat.reduceEqDiff, Nat.reduceLT, Nat.reduceLeDiff, hd, QW, Try.results30])))
  refine callVC (c20 N m w hm) ?_ ?_ ?_; iterate 2 focus ((simp -dsimp only [↓RP, RQ, Nat.reduceMul, reduceIte, reduceCtorEq, Nat.reduceAdd, Nat.reduceEqDiff, Nat.reduceLT, Nat.reduceLeDiff, QX]); all_goals (try simp [QV, Go.Sx.Sub, Go.Sx.SubL]); all_goals (try exact lit2 _ _))
  (repeat' (first | with_reducible (first | apply splitVC_d <;> intro _ | apply splitVC <;> intro _) | ((with_reducible refine And.intro ?_ ?_); focus (first | exact True.intro | omega | (simp only [InK, ne_eq, and_true, true_and]; omega) | trivial)) | (simp -dsimp only [↓RP, RQ, Nat.reduceMul, reduceIte, reduceCtorEq, Nat.reduceAdd, Nat.reduceEqDiff, Nat.reduceLT, Nat.reduceLeDiff, hd, QW, Try.results30])))
  refine callVC (c20 N m w hm) ?_ ?_ ?_; iterate 2 focus ((simp -dsimp only [↓RP, RQ, Nat.reduceMul, reduceIte, reduceCtorEq, Nat.reduceAdd, Nat.reduceEqDiff, Nat.reduceLT, Nat.reduceLeDiff, QX]); all_goals (try simp [QV, Go.Sx.Sub, Go.Sx.SubL]); all_goals (try exact lit2 _ _))
  (repeat' (first | with_reducible (first | apply splitVC_d <;> intro _ | apply splitVC <;> intro _) | ((with_reducible refine And.intro ?_ ?_); focus (first | exact True.intro | omega | (simp only [InK, ne_eq, and_true, true_and]; omega) | trivial)) | (simp -dsimp only [↓RP, RQ, Nat.reduceMul, reduceIte, reduceCtorEq, Nat.reduceAdd, Nat.reduceEqDiff, Nat.reduceLT, Nat.reduceLeDiff, hd, QW, Try.results30])))
end Go.He
end
