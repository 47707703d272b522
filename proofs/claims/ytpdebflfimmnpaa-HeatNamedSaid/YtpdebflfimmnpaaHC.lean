/- A part of the proof. -/
import Derived.Test.YtpdebflfimmnpaaHB
import Derived.Test.YtpdebflfimmnpaaHA
import Derived.Test.YtpdebflfimmnpaaEG
section
set_option linter.unusedSimpArgs false
set_option linter.unusedVariables false
set_option linter.defProp false
set_option maxRecDepth 100000
set_option maxHeartbeats 16000000
namespace Go.He
open Go.Proofs
open Go.Sx
def sub (b : Nat → Bool) (k : Nat) : List Nat := lst b k
theorem subL_app {hp : List (Nat × Blk)} {b b' : List SV} : ∀ {a a' : List SV}, SubL hp a a' → SubL hp b b' → SubL hp (a ++ b) (a' ++ b')
 | [], a', h, h2 => by simp only [SubL] at h; subst h; exact h2
 | x :: a, [], h, _ => by simp [SubL] at h
 | x :: a, y :: a', h, h2 => by simp only [SubL] at h; simp only [List.cons_append, SubL]; exact ⟨h.1, subL_app h.2 h2⟩
theorem lst_0 (b : Nat → Bool) : lst b 0 = [] := rfl
theorem sub_S (b : Nat → Bool) (k : Nat) : lst b (k + 1) = if b k = true then lst b k ++ [k] else lst b k := rfl
theorem getD_app (l : List Nat) (x i : Nat) : (l ++ [x]).getD i 0 = if i < l.length then l.getD i 0 else if i = l.length then x else 0 := by
 rw [List.getD_eq_getElem?_getD, List.getD_eq_getElem?_getD]
 by_cases h : i < l.length
 ·rw [if_pos h, List.getElem?_append_left h]
 ·rw [if_neg h, List.getElem?_append_right (by omega)]
  by_cases e : i = l.length
  ·rw [if_pos e, e]; simp
  ·rw [if_neg e, List.getElem?_eq_none (by simp; omega)]; rfl
theorem app_len (l : List Nat) (x : Nat) : (l ++ [x]).length = l.length + 1 := by simp
theorem one1 (a : Int) : ∀ (i j : Nat), i < 1 → j < 1 → oneCell ([.val (.int .i64 a)].getD (i + j) SV.top) = true := by
 intro i j hi hj
 obtain rfl : i = 0 := by omega
 obtain rfl : j = 0 := by omega
 rfl
theorem one3 (a b c : Int) : ∀ (i j : Nat), i < 1 → j < 3 → oneCell ([.val (.int .i64 a), .val (.int .i64 b), .val (.int .i64 c)].getD (i * 3 + j) SV.top) = true := by
 intro i j hi hj
 obtain rfl : i = 0 := by omega
 rcases three hj with rfl | rfl | rfl <;> rfl
theorem one5 (a b c d e : Int) : ∀ (i j : Nat), i < 1 → j < 5 → oneCell ([.val (.int .i64 a), .val (.int .i64 b), .val (.int .i64 c), .val (.int .i64 d), .val (.int .i64 e)].getD (i * 5 + j) SV.top) = true := by
 intro i j hi hj
 obtain rfl : i = 0 := by omega
 rcases five hj with rfl | rfl | rfl | rfl | rfl <;> rfl
theorem grow5 (u : Nat → Nat → Int) (L : List Nat) (k : Nat) : ∀ (i j : Nat), i < L.length + 1 → j < 5 → (if i < L.length then SV.val (.int .i64 (u (L[i]?.getD 0) j)) else [SV.val (.int .i64 (u k 0)), SV.val (.int .i64 (u k 1)), SV.val (.int .i64 (u k 2)), SV.val (.int .i64 (u k 3)), SV.val (.int .i64 (u k 4))][(i - L.length) * 5 + j]?.getD SV.top) = SV.val (.int .i64 (u (if i < L.length then L[i]?.getD 0 else if i = L.length then k else 0) j)) := by
 intro i j hi hj
 by_cases h : i < L.length
 ·rw [if_pos h, if_pos h]
 ·obtain rfl : i = L.length := by omega
  rw [if_neg h, if_neg h, if_pos rfl, Nat.sub_self, Nat.zero_mul, Nat.zero_add]
  rcases five hj with rfl | rfl | rfl | rfl | rfl <;> rfl
theorem grow1 (u : Nat → Int) (L : List Nat) (k : Nat) : ∀ (i : Nat), i < L.length + 1 → (if i < L.length then SV.val (.int .i64 (u (L[i]?.getD 0))) else [SV.val (.int .i64 (u k))][i - L.length]?.getD SV.top) = SV.val (.int .i64 (u (if i < L.length then L[i]?.getD 0 else if i = L.length then k else 0))) := by
 intro i hi
 by_cases h : i < L.length
 ·rw [if_pos h, if_pos h]
 ·obtain rfl : i = L.length := by omega
  rw [if_neg h, if_neg h, if_pos rfl, Nat.sub_self]; rfl
theorem c86 (m : Nat) (u : Nat → Nat → Int) (g : Nat) (fs caps : List SV) (hs : OldL fs) (ho : OldL caps) (b : Nat → Bool) (hm : m ≤ 100000) (hg : ∀ i, i < m → Contract Try.prog g (fs ++ .agg (pl (u i)) :: caps) (B (b i))) : Contract Try.prog 86 [arrs m u, .fn (.func g) fs caps] (.arr true false (lst b m).length 5 (fun i j => .val (.int .i64 (u ((lst b m).getD i 0) j)))) := by
 refine contract_of Try.func86 rfl (by kernel_rfl) follows (by kernel_rfl) _ _ (by rw [Try.ntmps86]; simp) (by simp [OldL, Old, QV, ints, arrs, I, hs, ho]) ?_
 conv => arg 4; unfold arrs
 (repeat' (first | with_reducible (first | apply splitVC_d <;> intro _ | apply splitVC <;> intro _) | ((with_reducible refine And.intro ?_ ?_); focus (first | exact True.intro | omega | (simp only [InK, ne_eq, and_true, true_and]; omega) | (and_intros <;> first | exact .inr trivial | exact Nat.le_refl _ | exact one1 _ | exact one5 _ _ _ _ _ | omega) | trivial)) | (simp -dsimp only [↓RP, RQ, Nat.reduceMul, reduceIte, reduceCtorEq, Nat.reduceAdd, Nat.reduceEqDiff, Nat.reduceLT, Nat.reduceLeDiff, getD_app, app_len, QW, Try.results86])))
 refine loop_vc (fun (k : Nat) => k ≤ m) (fun (k : Nat) => ⟨[(0, .arr false false m 5 (fun i j => .val (.int .i64 (u i j)))), (1, .fn (.func g) fs caps), (5, .vec 60 (lst b k).length 5), (8, .arr false false m 5 (fun i j => .val (.int .i64 (u i j)))), (9, .val (.int .i64 (m : Nat))), (10, .val (.int .i64 (k : Nat)))], [(60, .rows 73 5 (lst b k).length (fun i j => .val (.int .i64 (u ((lst b k).getD i 0) j))))], 61⟩) (fun k => m - k) 0 (Nat.zero_le _) (weak [(60, none)] [] ?_ ?_ ?_) fun k hk => ?_
 iterate 3 focus ((simp -dsimp only [↓RP, RQ, Nat.reduceMul, reduceIte, reduceCtorEq, Nat.reduceAdd, Nat.reduceEqDiff, Nat.reduceLT, Nat.reduceLeDiff, QV, lst]); all_goals (try simp [wkL_refl caps ho, wkL_refl fs hs, QV]))
 by_cases hlt : k < m
 ·have hl := lst_len b k
  (repeat' (first | with_reducible (first | apply splitVC_d <;> intro _ | apply splitVC <;> intro _) | ((with_reducible refine And.intro ?_ ?_); focus (first | exact True.intro | omega | (simp only [InK, ne_eq, and_true, true_and]; omega) | (and_intros <;> first | exact .inr trivial | exact Nat.le_refl _ | exact one1 _ | exact one5 _ _ _ _ _ | omega) | trivial)) | (simp -dsimp only [↓RP, RQ, Nat.reduceMul, reduceIte, reduceCtorEq, Nat.reduceAdd, Nat.reduceEqDiff, Nat.reduceLT, Nat.reduceLeDiff, getD_app, app_len, QW, Try.results86])))
  all_goals try (exfalso; omega)
  refine callVC (hg k hlt) (by refine subL_app (subL_refl fs hs) ?_; (simp -dsimp only [↓RP, RQ, Nat.reduceMul, reduceIte, reduceCtorEq, Nat.reduceAdd, Nat.reduceEqDiff, Nat.reduceLT, Nat.reduceLeDiff, QV, I, pl]); all_goals (try simp [subL_refl caps ho, QV])) (by (simp -dsimp only [↓RP, RQ, Nat.reduceMul, reduceIte, reduceCtorEq, Nat.reduceAdd, Nat.reduceEqDiff, Nat.reduceLT, Nat.reduceLeDiff, B])) ?_
  (repeat' (first | with_reducible (first | apply splitVC_d <;> intro _ | apply splitVC <;> intro _) | ((with_reducible refine And.intro ?_ ?_); focus (first | exact True.intro | omega | (simp only [InK, ne_eq, and_true, true_and]; omega) | (and_intros <;> first | exact .inr trivial | exact Nat.le_refl _ | exact one1 _ | exact one5 _ _ _ _ _ | omega) | trivial)) | (simp -dsimp only [↓RP, RQ, Nat.reduceMul, reduceIte, reduceCtorEq, Nat.reduceAdd, Nat.reduceEqDiff, Nat.reduceLT, Nat.reduceLeDiff, getD_app, app_len, QW, Try.results86])))
  all_goals try (exfalso; omega)
  ·rename_i h
   have e := sub_S b k
   rw [if_pos h] at e
   refine ⟨k + 1, by omega, by omega, weak [(60, some 72)] [] ?_ ?_ ?_⟩
   ·(simp -dsimp only [↓RP, RQ, Nat.reduceMul, reduceIte, reduceCtorEq, Nat.reduceAdd, Nat.reduceEqDiff, Nat.reduceLT, Nat.reduceLeDiff, QV, e, app_len, getD_app]); all_goals (try simp [e, app_len, getD_app, wkL_refl caps ho, wkL_refl fs hs, QV])
    all_goals first | exact grow5 u _ k | exact grow1 u _ k | skip
   ·(simp -dsimp only [↓RP, RQ, Nat.reduceMul, reduceIte, reduceCtorEq, Nat.reduceAdd, Nat.reduceEqDiff, Nat.reduceLT, Nat.reduceLeDiff, QV, e, app_len, getD_app]); all_goals (try simp [e, app_len, getD_app, wkL_refl caps ho, wkL_refl fs hs, QV])
    all_goals first | exact grow5 u _ k | exact grow1 u _ k | skip
   ·(simp -dsimp only [↓RP, RQ, Nat.reduceMul, reduceIte, reduceCtorEq, Nat.reduceAdd, Nat.reduceEqDiff, Nat.reduceLT, Nat.reduceLeDiff, QV, e, app_len, getD_app]); all_goals (try simp [e, app_len, getD_app, wkL_refl caps ho, wkL_refl fs hs, QV])
    all_goals first | exact grow5 u _ k | exact grow1 u _ k | skip
  ·rename_i h
   have e := sub_S b k
   rw [if_neg (by simp [h])] at e
   refine ⟨k + 1, by omega, by omega, weak [] [] ?_ ?_ ?_⟩
   iterate 3 focus ((simp -dsimp only [↓RP, RQ, Nat.reduceMul, reduceIte, reduceCtorEq, Nat.reduceAdd, Nat.reduceEqDiff, Nat.reduceLT, Nat.reduceLeDiff, QV, e]); all_goals (try simp [e, wkL_refl caps ho, wkL_refl fs hs, QV]))
 ·obtain rfl : k = m := by omega
  (repeat' (first | with_reducible (first | apply splitVC_d <;> intro _ | apply splitVC <;> intro _) | ((with_reducible refine And.intro ?_ ?_); focus (first | exact True.intro | omega | (simp only [InK, ne_eq, and_true, true_and]; omega) | (and_intros <;> first | exact .inr trivial | exact Nat.le_refl _ | exact one1 _ | exact one5 _ _ _ _ _ | omega) | trivial)) | (simp -dsimp only [↓RP, RQ, Nat.reduceMul, reduceIte, reduceCtorEq, Nat.reduceAdd, Nat.reduceEqDiff, Nat.reduceLT, Nat.reduceLeDiff, getD_app, app_len, QW, Try.results86])))
  all_goals first | (exfalso; omega) | exact Nat.le_refl _ | skip
theorem c94 (m : Nat) (u : Nat → Int) (g : Nat) (fs caps : List SV) (hs : OldL fs) (ho : OldL caps) (b : Nat → Bool) (hm : m ≤ 100000) (hg : ∀ i, i < m → Contract Try.prog g (fs ++ .val (.int .i64 (u i)) :: caps) (B (b i))) : Contract Try.prog 94 [ints m u, .fn (.func g) fs caps] (.arr true false (lst b m).length 1 (fun i j => .val (.int .i64 (u ((lst b m).getD i 0))))) := by
 refine contract_of Try.func94 rfl (by kernel_rfl) follows (by kernel_rfl) _ _ (by rw [Try.ntmps94]; simp) (by simp [OldL, Old, QV, ints, arrs, I, hs, ho]) ?_
 conv => arg 4; unfold ints
 (repeat' (first | with_reducible (first | apply splitVC_d <;> intro _ | apply splitVC <;> intro _) | ((with_reducible refine And.intro ?_ ?_); focus (first | exact True.intro | omega | (simp only [InK, ne_eq, and_true, true_and]; omega) | (and_intros <;> first | exact .inr trivial | exact Nat.le_refl _ | exact one1 _ | exact one5 _ _ _ _ _ | omega) | trivial)) | (simp -dsimp only [↓RP, RQ, Nat.reduceMul, reduceIte, reduceCtorEq, Nat.reduceAdd, Nat.reduceEqDiff, Nat.reduceLT, Nat.reduceLeDiff, getD_app, app_len, QW, Try.results94])))
 refine loop_vc (fun (k : Nat) => k ≤ m) (fun (k : Nat) => ⟨[(0, .arr false false m 1 (fun i j => .val (.int .i64 (u i)))), (1, .fn (.func g) fs caps), (5, .vec 60 (lst b k).length 1), (8, .arr false false m 1 (fun i j => .val (.int .i64 (u i)))), (9, .val (.int .i64 (m : Nat))), (10, .val (.int .i64 (k : Nat)))], [(60, .rows 3 1 (lst b k).length (fun i j => .val (.int .i64 (u ((lst b k).getD i 0)))))], 61⟩) (fun k => m - k) 0 (Nat.zero_le _) (weak [(60, none)] [] ?_ ?_ ?_) fun k hk => ?_
 iterate 3 focus ((simp -dsimp only [↓RP, RQ, Nat.reduceMul, reduceIte, reduceCtorEq, Nat.reduceAdd, Nat.reduceEqDiff, Nat.reduceLT, Nat.reduceLeDiff, QV, lst]); all_goals (try simp [wkL_refl caps ho, wkL_refl fs hs, QV]))
 by_cases hlt : k < m
 ·have hl := lst_len b k
  (repeat' (first | with_reducible (first | apply splitVC_d <;> intro _ | apply splitVC <;> intro _) | ((with_reducible refine And.intro ?_ ?_); focus (first | exact True.intro | omega | (simp only [InK, ne_eq, and_true, true_and]; omega) | (and_intros <;> first | exact .inr trivial | exact Nat.le_refl _ | exact one1 _ | exact one5 _ _ _ _ _ | omega) | trivial)) | (simp -dsimp only [↓RP, RQ, Nat.reduceMul, reduceIte, reduceCtorEq, Nat.reduceAdd, Nat.reduceEqDiff, Nat.reduceLT, Nat.reduceLeDiff, getD_app, app_len, QW, Try.results94])))
  all_goals try (exfalso; omega)
  refine callVC (hg k hlt) (by refine subL_app (subL_refl fs hs) ?_; (simp -dsimp only [↓RP, RQ, Nat.reduceMul, reduceIte, reduceCtorEq, Nat.reduceAdd, Nat.reduceEqDiff, Nat.reduceLT, Nat.reduceLeDiff, QV, I, pl]); all_goals (try simp [subL_refl caps ho, QV])) (by (simp -dsimp only [↓RP, RQ, Nat.reduceMul, reduceIte, reduceCtorEq, Nat.reduceAdd, Nat.reduceEqDiff, Nat.reduceLT, Nat.reduceLeDiff, B])) ?_
  (repeat' (first | with_reducible (first | apply splitVC_d <;> intro _ | apply splitVC <;> intro _) | ((with_reducible refine And.intro ?_ ?_); focus (first | exact True.intro | omega | (simp only [InK, ne_eq, and_true, true_and]; omega) | (and_intros <;> first | exact .inr trivial | exact Nat.le_refl _ | exact one1 _ | exact one5 _ _ _ _ _ | omega) | trivial)) | (simp -dsimp only [↓RP, RQ, Nat.reduceMul, reduceIte, reduceCtorEq, Nat.reduceAdd, Nat.reduceEqDiff, Nat.reduceLT, Nat.reduceLeDiff, getD_app, app_len, QW, Try.results94])))
  all_goals try (exfalso; omega)
  ·rename_i h
   have e := sub_S b k
   rw [if_pos h] at e
   refine ⟨k + 1, by omega, by omega, weak [(60, some 71)] [] ?_ ?_ ?_⟩
   ·(simp -dsimp only [↓RP, RQ, Nat.reduceMul, reduceIte, reduceCtorEq, Nat.reduceAdd, Nat.reduceEqDiff, Nat.reduceLT, Nat.reduceLeDiff, QV, e, app_len, getD_app]); all_goals (try simp [e, app_len, getD_app, wkL_refl caps ho, wkL_refl fs hs, QV])
    all_goals first | exact grow5 u _ k | exact grow1 u _ k | skip
   ·(simp -dsimp only [↓RP, RQ, Nat.reduceMul, reduceIte, reduceCtorEq, Nat.reduceAdd, Nat.reduceEqDiff, Nat.reduceLT, Nat.reduceLeDiff, QV, e, app_len, getD_app]); all_goals (try simp [e, app_len, getD_app, wkL_refl caps ho, wkL_refl fs hs, QV])
    all_goals first | exact grow5 u _ k | exact grow1 u _ k | skip
   ·(simp -dsimp only [↓RP, RQ, Nat.reduceMul, reduceIte, reduceCtorEq, Nat.reduceAdd, Nat.reduceEqDiff, Nat.reduceLT, Nat.reduceLeDiff, QV, e, app_len, getD_app]); all_goals (try simp [e, app_len, getD_app, wkL_refl caps ho, wkL_refl fs hs, QV])
    all_goals first | exact grow5 u _ k | exact grow1 u _ k | skip
  ·rename_i h
   have e := sub_S b k
   rw [if_neg (by simp [h])] at e
   refine ⟨k + 1, by omega, by omega, weak [] [] ?_ ?_ ?_⟩
   iterate 3 focus ((simp -dsimp only [↓RP, RQ, Nat.reduceMul, reduceIte, reduceCtorEq, Nat.reduceAdd, Nat.reduceEqDiff, Nat.reduceLT, Nat.reduceLeDiff, QV, e]); all_goals (try simp [e, wkL_refl caps ho, wkL_refl fs hs, QV]))
 ·obtain rfl : k = m := by omega
  (repeat' (first | with_reducible (first | apply splitVC_d <;> intro _ | apply splitVC <;> intro _) | ((with_reducible refine And.intro ?_ ?_); focus (first | exact True.intro | omega | (simp only [InK, ne_eq, and_true, true_and]; omega) | (and_intros <;> first | exact .inr trivial | exact Nat.le_refl _ | exact one1 _ | exact one5 _ _ _ _ _ | omega) | trivial)) | (simp -dsimp only [↓RP, RQ, Nat.reduceMul, reduceIte, reduceCtorEq, Nat.reduceAdd, Nat.reduceEqDiff, Nat.reduceLT, Nat.reduceLeDiff, getD_app, app_len, QW, Try.results94])))
  all_goals first | (exfalso; omega) | exact Nat.le_refl _ | skip
end Go.He
end
section
set_option linter.unusedSimpArgs false
set_option linter.unusedVariables false
set_option linter.defProp false
set_option maxRecDepth 100000
set_option maxHeartbeats 16000000
namespace Go.He
open Go.Proofs
open Go.Sx
theorem eq5_fin (n t : Nat) : (n ≤ 5) → decide (eq5 (Dg n t) (rkU (Dg n t) n n)) = okF n t := fun h => by
 unfold okF
 rw [Bool.eq_iff_iff, decide_eq_true_eq, decide_eq_true_eq]
 unfold eq5 Fin rkU
 constructor
 ·intro h i hi
  have := h i (by omega)
  rwa [if_pos hi] at this
 ·intro h i hi
  by_cases e : i < n
  ·rw [if_pos e]; exact h i e
  ·rw [if_neg e]; unfold Dg; rw [if_neg e]
theorem c93 (n : Nat) (hn1 : 1 ≤ n) (h5 : n ≤ 5) (m : Nat) (w : Nat → Wd) : Contract Try.prog 93 [.val (.slice none 0 0), .fn (.func 85) [] [.ref false 1 (fun _ => .ref false 2 (fun j => rf n m w j))]] (.arr true false (fins n).length 5 (fun i j => .val (.int .i64 (Dg n ((fins n).getD i 0) j)))) := by
 refine contract_of Try.func93 rfl (by kernel_rfl) follows (by kernel_rfl) _ _ (by rw [Try.ntmps93]; simp) (by simp [OldL, Old, QV]) ?_
 have hpw := pow5 h5
 have eq5_fin := fun t => eq5_fin n t h5
 (repeat' (first | with_reducible (first | apply splitVC_d <;> intro _ | apply splitVC <;> intro _) | ((with_reducible refine And.intro ?_ ?_); focus (first | exact True.intro | omega | (simp only [InK, ne_eq, and_true, true_and]; omega) | (and_intros <;> first | exact .inr trivial | exact Nat.le_refl _ | exact one1 _ | exact one5 _ _ _ _ _ | omega) | trivial)) | (simp -dsimp only [↓RP, RQ, Nat.reduceMul, reduceIte, reduceCtorEq, Nat.reduceAdd, Nat.reduceEqDiff, Nat.reduceLT, Nat.reduceLeDiff, getD_app, app_len, Try.results85, QW, Try.results93])))
 refine rangeIH (ps := [7]) follows (handAt 6) (by rfl) Try.func85 rfl (by kernel_rfl) (by kernel_rfl) (by rw [Try.results85]) (by rw [Try.ntmps85]; simp) fun out L R => ?_
 (repeat' (first | with_reducible (first | apply splitVC_d <;> intro _ | apply splitVC <;> intro _) | ((with_reducible refine And.intro ?_ ?_); focus (first | exact True.intro | omega | (simp only [InK, ne_eq, and_true, true_and]; omega) | (and_intros <;> first | exact .inr trivial | exact Nat.le_refl _ | exact one1 _ | exact one5 _ _ _ _ _ | omega) | trivial)) | (simp -dsimp only [↓RP, RQ, Nat.reduceMul, reduceIte, reduceCtorEq, Nat.reduceAdd, Nat.reduceEqDiff, Nat.reduceLT, Nat.reduceLeDiff, getD_app, app_len, Try.results85, QW, Try.results93])))
 refine loop_vc (fun (i : Nat) => i ≤ n) (fun i => ⟨[(0, .yld 3), (1, .ref false 1 (fun _ => .ref false 2 (fun j => rf n m w j))), (3, .ptr 4 0), (10, .val (.int .i64 (n : Nat))), (11, .val (.int .i64 (i : Nat)))], [(4, .cells 73 (pl (one0 i))), (3, .loop L .ready), (0, .cells 83 [.val (.slice none 0 0)])], 20⟩) (fun i => n - i) 0 (Nat.zero_le _) (weak [] [] ?_ ?_ ?_ rfl) fun i hi => ?_
 iterate 3 focus ((simp -dsimp only [↓RP, RQ, Nat.reduceMul, reduceIte, reduceCtorEq, Nat.reduceAdd, Nat.reduceEqDiff, Nat.reduceLT, Nat.reduceLeDiff, QV, pl, one0]); all_goals (try simp [QV]))
 by_cases hlt : i < n
 ·have hi5 : i < 5 := by omega
  (repeat' (first | with_reducible (first | apply splitVC_d <;> intro _ | apply splitVC <;> intro _) | ((with_reducible refine And.intro ?_ ?_); focus (first | exact True.intro | omega | (simp only [InK, ne_eq, and_true, true_and]; omega) | (and_intros <;> first | exact .inr trivial | exact Nat.le_refl _ | exact one1 _ | exact one5 _ _ _ _ _ | omega) | trivial)) | (simp -dsimp only [↓RP, RQ, Nat.reduceMul, reduceIte, reduceCtorEq, Nat.reduceAdd, Nat.reduceEqDiff, Nat.reduceLT, Nat.reduceLeDiff, one0_S, getD_app, app_len, Try.results85, QW, Try.results93])))
  all_goals try (exfalso; omega)
  refine ⟨i + 1, by omega, by omega, weak [] [] ?_ ?_ ?_ rfl⟩
  iterate 3 focus ((simp -dsimp only [↓RP, RQ, Nat.reduceMul, reduceIte, reduceCtorEq, Nat.reduceAdd, Nat.reduceEqDiff, Nat.reduceLT, Nat.reduceLeDiff, QV]); all_goals (try simp [QV]))
 have hin : n = i := by omega
 subst hin
 (repeat' (first | with_reducible (first | apply splitVC_d <;> intro _ | apply splitVC <;> intro _) | ((with_reducible refine And.intro ?_ ?_); focus (first | exact True.intro | omega | (simp only [InK, ne_eq, and_true, true_and]; omega) | (and_intros <;> first | exact .inr trivial | exact Nat.le_refl _ | exact one1 _ | exact one5 _ _ _ _ _ | omega) | trivial)) | (simp -dsimp only [↓RP, RQ, Nat.reduceMul, reduceIte, reduceCtorEq, Nat.reduceAdd, Nat.reduceEqDiff, Nat.reduceLT, Nat.reduceLeDiff, getD_app, app_len, Try.results85, QW, Try.results93])))
 all_goals try (exfalso; omega)
 refine loop_vc (fun (t : Nat) => t < n ^ n) (fun t => ⟨[(0, .yld 3), (1, .ref false 1 (fun _ => .ref false 2 (fun j => rf n m w j))), (3, .ptr 4 0)], [(4, .cells 73 (pl (Dg n t))), (3, .loop L .ready), (60, .rows 73 5 (lst (okF n) t).length (fun i j => .val (.int .i64 (Dg n ((lst (okF n) t).getD i 0) j)))), (0, .cells 83 [.vec 60 (lst (okF n) t).length 5])], 61⟩) (fun t => n ^ n - t) 0 (pow_pos' hn1) (weak [(60, none)] [] ?_ ?_ ?_ rfl) fun t ht => ?_
 iterate 3 focus ((simp -dsimp only [↓RP, RQ, Nat.reduceMul, reduceIte, reduceCtorEq, Nat.reduceAdd, Nat.reduceEqDiff, Nat.reduceLT, Nat.reduceLeDiff, QV, one0_n, lst_0, app_len, getD_app]); all_goals (try simp [one0_n, QV, lst_0, app_len, getD_app]))
 have hlen := lst_len (okF n) t
 (repeat' (first | with_reducible (first | apply splitVC_d <;> intro _ | apply splitVC <;> intro _) | ((with_reducible refine And.intro ?_ ?_); focus (first | exact True.intro | omega | (simp only [InK, ne_eq, and_true, true_and]; omega) | (and_intros <;> first | exact .inr trivial | exact Nat.le_refl _ | exact one1 _ | exact one5 _ _ _ _ _ | omega) | trivial)) | (simp -dsimp only [↓RP, RQ, Nat.reduceMul, reduceIte, reduceCtorEq, Nat.reduceAdd, Nat.reduceEqDiff, Nat.reduceLT, Nat.reduceLeDiff, pl_fit, getD_app, app_len, Try.results85, QW, Try.results93])))
 refine tailRegion follows 8 (by kernel_rfl) ?_
 simp only [List.take_succ_cons, List.take_zero, List.drop_succ_cons, List.drop_zero]
 (repeat' (first | with_reducible (first | apply splitVC_d <;> intro _ | apply splitVC <;> intro _) | ((with_reducible refine And.intro ?_ ?_); focus (first | exact True.intro | omega | (simp only [InK, ne_eq, and_true, true_and]; omega) | (and_intros <;> first | exact .inr trivial | exact Nat.le_refl _ | exact one1 _ | exact one5 _ _ _ _ _ | omega) | trivial)) | (simp -dsimp only [↓RP, RQ, Nat.reduceMul, reduceIte, reduceCtorEq, Nat.reduceAdd, Nat.reduceEqDiff, Nat.reduceLT, Nat.reduceLeDiff, pl_fit, getD_app, app_len, Try.results85, QW, Try.results93])))
 refine callVC (c57 n h5 m w (Dg n t)) ?_ ?_ ?_; iterate 2 focus ((simp -dsimp only [↓RP, RQ, Nat.reduceMul, reduceIte, reduceCtorEq, Nat.reduceAdd, Nat.reduceEqDiff, Nat.reduceLT, Nat.reduceLeDiff, QX]); all_goals (try simp [QV, Go.Sx.Sub, Go.Sx.SubL]); all_goals (try exact lit2 _ _))
 cases hok : okF n t with
 | true =>
  have e := sub_S (okF n) t
  rw [if_pos hok] at e
  (repeat' (first | with_reducible (first | apply splitVC_d <;> intro _ | apply splitVC <;> intro _) | ((with_reducible refine And.intro ?_ ?_); focus (first | exact True.intro | omega | (simp only [InK, ne_eq, and_true, true_and]; omega) | (and_intros <;> first | exact .inr trivial | exact Nat.le_refl _ | exact one1 _ | exact one5 _ _ _ _ _ | omega) | trivial)) | (simp -dsimp only [↓RP, RQ, Nat.reduceMul, reduceIte, reduceCtorEq, Nat.reduceAdd, Nat.reduceEqDiff, Nat.reduceLT, Nat.reduceLeDiff, eq5_fin, hok, getD_app, app_len, Try.results85, QW, Try.results93])))
  refine yieldIT follows trivial R (by rfl) (by rfl) fun out2 => ?_
  (repeat' (first | with_reducible (first | apply splitVC_d <;> intro _ | apply splitVC <;> intro _) | ((with_reducible refine And.intro ?_ ?_); focus (first | exact True.intro | omega | (simp only [InK, ne_eq, and_true, true_and]; omega) | (and_intros <;> first | exact .inr trivial | exact Nat.le_refl _ | exact one1 _ | exact one5 _ _ _ _ _ | omega) | trivial)) | (simp -dsimp only [↓RP, RQ, Nat.reduceMul, reduceIte, reduceCtorEq, Nat.reduceAdd, Nat.reduceEqDiff, Nat.reduceLT, Nat.reduceLeDiff, getD_app, app_len, Try.results85, QW, Try.results93])))
  (repeat' (first | with_reducible (first | apply splitVC_d <;> intro _ | apply splitVC <;> intro _) | ((with_reducible refine And.intro ?_ ?_); focus (first | exact True.intro | omega | (simp only [InK, ne_eq, and_true, true_and]; omega) | (and_intros <;> first | exact .inr trivial | exact Nat.le_refl _ | exact one1 _ | exact one5 _ _ _ _ _ | omega) | trivial)) | (simp -dsimp only [↓RP, RQ, Nat.reduceMul, reduceIte, reduceCtorEq, Nat.reduceAdd, Nat.reduceEqDiff, Nat.reduceLT, Nat.reduceLeDiff, getD_app, app_len, Try.results85, QW, Try.results93])))
  all_goals try (exfalso; omega)
  refine loop_vc (fun (c : Nat) => c ≤ n ∧ ∀ j, c ≤ j → j < n → Dg n t j = n) (fun c => ⟨[(0, .yld 3), (1, .ref false 1 (fun _ => .ref false 2 (fun j => rf n m w j))), (3, .ptr 4 0), (5, .val (.int .i64 ((c : Int) - 1)))], [(4, .cells 73 (pl (nxF n t c))), (3, .loop L .ready), (60, .rows 73 5 (lst (okF n) (t + 1)).length (fun i j => .val (.int .i64 (Dg n ((lst (okF n) (t + 1)).getD i 0) j)))), (0, .cells 83 [.vec 60 (lst (okF n) (t + 1)).length 5])], 200⟩) (fun c => c) n ⟨Nat.le_refl _, fun j hj => by omega⟩ (weak [(60, some 74)] [] ?_ ?_ ?_ rfl) fun c hc => ?_
  iterate 3 focus ((simp -dsimp only [↓RP, RQ, Nat.reduceMul, reduceIte, reduceCtorEq, Nat.reduceAdd, Nat.reduceEqDiff, Nat.reduceLT, Nat.reduceLeDiff, QV, nxF_n, lst_0, app_len, getD_app, e]); all_goals (try simp [nxF_n, QV, lst_0, app_len, getD_app, e]); all_goals first | exact grow5 (Dg n) _ _ | skip)
  obtain ⟨hc, hl⟩ := hc
  cases c with
  | zero =>
   have hlast := all_last hn1 ht hl
   (repeat' (first | with_reducible (first | apply splitVC_d <;> intro _ | apply splitVC <;> intro _) | ((with_reducible refine And.intro ?_ ?_); focus (first | exact True.intro | omega | (simp only [InK, ne_eq, and_true, true_and]; omega) | (and_intros <;> first | exact .inr trivial | exact Nat.le_refl _ | exact one1 _ | exact one5 _ _ _ _ _ | omega) | trivial)) | (simp -dsimp only [↓RP, RQ, Nat.reduceMul, reduceIte, reduceCtorEq, Nat.reduceAdd, Nat.reduceEqDiff, Nat.reduceLT, Nat.reduceLeDiff, getD_app, app_len, Try.results85, QW, Try.results93])))
   all_goals try (exfalso; omega)
   simp only [hlast]
   exact ⟨rfl, Nat.le_refl _, fun _ _ _ _ => rfl⟩
  | succ c =>
   have hc5 : c < 5 := by omega
   have hcn : c < n := by omega
   have b := Dg_bd (n := n) (t := t) hcn
   have ec : ((c + 1 : Nat) : Int) - 1 = (c : Int) := by omega
   by_cases hd : Dg n t c = n
   ·have hdb : decide (Dg n t c = n) = true := decide_eq_true hd
    (repeat' (first | with_reducible (first | apply splitVC_d <;> intro _ | apply splitVC <;> intro _) | ((with_reducible refine And.intro ?_ ?_); focus (first | exact True.intro | omega | (simp only [InK, ne_eq, and_true, true_and]; omega) | (and_intros <;> first | exact .inr trivial | exact Nat.le_refl _ | exact one1 _ | exact one5 _ _ _ _ _ | omega) | trivial)) | (simp -dsimp only [↓RP, RQ, Nat.reduceMul, reduceIte, reduceCtorEq, Nat.reduceAdd, Nat.reduceEqDiff, Nat.reduceLT, Nat.reduceLeDiff, ec, pl_get (nxF n t (c + 1)) hc5, nxF_at, nxF_S hcn, hdb, getD_app, app_len, Try.results85, QW, Try.results93])))
    all_goals try (exfalso; omega)
    refine ⟨c, ⟨by omega, fun j h1 h2 => ?_⟩, by omega, weak [] [] ?_ ?_ ?_ rfl⟩
    ·by_cases e : j = c
     ·subst e; exact hd
     ·exact hl j (by omega) h2
    ·(simp -dsimp only [↓RP, RQ, Nat.reduceMul, reduceIte, reduceCtorEq, Nat.reduceAdd, Nat.reduceEqDiff, Nat.reduceLT, Nat.reduceLeDiff, QV]); all_goals (try (simp [QV])); all_goals (try omega)
    ·(simp -dsimp only [↓RP, RQ, Nat.reduceMul, reduceIte, reduceCtorEq, Nat.reduceAdd, Nat.reduceEqDiff, Nat.reduceLT, Nat.reduceLeDiff, QV, lst_0, app_len, getD_app]); all_goals (try simp [QV, lst_0, app_len, getD_app])
    ·(simp -dsimp only [↓RP, RQ, Nat.reduceMul, reduceIte, reduceCtorEq, Nat.reduceAdd, Nat.reduceEqDiff, Nat.reduceLT, Nat.reduceLeDiff, QV]); all_goals (try simp [QV])
   ·have hm := Dg_more hcn ht hd
    have hdb : decide (Dg n t c = n) = false := decide_eq_false hd
    (repeat' (first | with_reducible (first | apply splitVC_d <;> intro _ | apply splitVC <;> intro _) | ((with_reducible refine And.intro ?_ ?_); focus (first | exact True.intro | omega | (simp only [InK, ne_eq, and_true, true_and]; omega) | (and_intros <;> first | exact .inr trivial | exact Nat.le_refl _ | exact one1 _ | exact one5 _ _ _ _ _ | omega) | trivial)) | (simp -dsimp only [↓RP, RQ, Nat.reduceMul, reduceIte, reduceCtorEq, Nat.reduceAdd, Nat.reduceEqDiff, Nat.reduceLT, Nat.reduceLeDiff, ec, pl_get (nxF n t (c + 1)) hc5, nxF_at, hdb, nxF_up hcn (fun j h1 h2 => hl j (by omega) h2) hd, getD_app, app_len, Try.results85, QW, Try.results93])))
    all_goals try (exfalso; omega)
    refine ⟨t + 1, hm, by omega, weak [] [] ?_ ?_ ?_ rfl⟩
    ·(simp -dsimp only [↓RP, RQ, Nat.reduceMul, reduceIte, reduceCtorEq, Nat.reduceAdd, Nat.reduceEqDiff, Nat.reduceLT, Nat.reduceLeDiff, QV]); all_goals (try simp [QV])
    ·(simp -dsimp only [↓RP, RQ, Nat.reduceMul, reduceIte, reduceCtorEq, Nat.reduceAdd, Nat.reduceEqDiff, Nat.reduceLT, Nat.reduceLeDiff, QV, lst_0, app_len, getD_app]); all_goals (try simp [QV, lst_0, app_len, getD_app])
    ·(simp -dsimp only [↓RP, RQ, Nat.reduceMul, reduceIte, reduceCtorEq, Nat.reduceAdd, Nat.reduceEqDiff, Nat.reduceLT, Nat.reduceLeDiff, QV]); all_goals (try simp [QV])
 | false =>
  have e := sub_S (okF n) t
  rw [if_neg (by simp [hok])] at e
  (repeat' (first | with_reducible (first | apply splitVC_d <;> intro _ | apply splitVC <;> intro _) | ((with_reducible refine And.intro ?_ ?_); focus (first | exact True.intro | omega | (simp only [InK, ne_eq, and_true, true_and]; omega) | (and_intros <;> first | exact .inr trivial | exact Nat.le_refl _ | exact one1 _ | exact one5 _ _ _ _ _ | omega) | trivial)) | (simp -dsimp only [↓RP, RQ, Nat.reduceMul, reduceIte, reduceCtorEq, Nat.reduceAdd, Nat.reduceEqDiff, Nat.reduceLT, Nat.reduceLeDiff, eq5_fin, hok, getD_app, app_len, Try.results85, QW, Try.results93])))
  all_goals try (exfalso; omega)
  refine loop_vc (fun (c : Nat) => c ≤ n ∧ ∀ j, c ≤ j → j < n → Dg n t j = n) (fun c => ⟨[(0, .yld 3), (1, .ref false 1 (fun _ => .ref false 2 (fun j => rf n m w j))), (3, .ptr 4 0), (5, .val (.int .i64 ((c : Int) - 1)))], [(4, .cells 73 (pl (nxF n t c))), (3, .loop L .ready), (60, .rows 73 5 (lst (okF n) (t + 1)).length (fun i j => .val (.int .i64 (Dg n ((lst (okF n) (t + 1)).getD i 0) j)))), (0, .cells 83 [.vec 60 (lst (okF n) (t + 1)).length 5])], 200⟩) (fun c => c) n ⟨Nat.le_refl _, fun j hj => by omega⟩ (weak [] [] ?_ ?_ ?_ rfl) fun c hc => ?_
  iterate 3 focus ((simp -dsimp only [↓RP, RQ, Nat.reduceMul, reduceIte, reduceCtorEq, Nat.reduceAdd, Nat.reduceEqDiff, Nat.reduceLT, Nat.reduceLeDiff, QV, nxF_n, lst_0, app_len, getD_app, e]); all_goals (try simp [nxF_n, QV, lst_0, app_len, getD_app, e]); all_goals first | exact grow5 (Dg n) _ _ | skip)
  obtain ⟨hc, hl⟩ := hc
  cases c with
  | zero =>
   have hlast := all_last hn1 ht hl
   (repeat' (first | with_reducible (first | apply splitVC_d <;> intro _ | apply splitVC <;> intro _) | ((with_reducible refine And.intro ?_ ?_); focus (first | exact True.intro | omega | (simp only [InK, ne_eq, and_true, true_and]; omega) | (and_intros <;> first | exact .inr trivial | exact Nat.le_refl _ | exact one1 _ | exact one5 _ _ _ _ _ | omega) | trivial)) | (simp -dsimp only [↓RP, RQ, Nat.reduceMul, reduceIte, reduceCtorEq, Nat.reduceAdd, Nat.reduceEqDiff, Nat.reduceLT, Nat.reduceLeDiff, getD_app, app_len, Try.results85, QW, Try.results93])))
   all_goals try (exfalso; omega)
   simp only [hlast]
   exact ⟨rfl, Nat.le_refl _, fun _ _ _ _ => rfl⟩
  | succ c =>
   have hc5 : c < 5 := by omega
   have hcn : c < n := by omega
   have b := Dg_bd (n := n) (t := t) hcn
   have ec : ((c + 1 : Nat) : Int) - 1 = (c : Int) := by omega
   by_cases hd : Dg n t c = n
   ·have hdb : decide (Dg n t c = n) = true := decide_eq_true hd
    (repeat' (first | with_reducible (first | apply splitVC_d <;> intro _ | apply splitVC <;> intro _) | ((with_reducible refine And.intro ?_ ?_); focus (first | exact True.intro | omega | (simp only [InK, ne_eq, and_true, true_and]; omega) | (and_intros <;> first | exact .inr trivial | exact Nat.le_refl _ | exact one1 _ | exact one5 _ _ _ _ _ | omega) | trivial)) | (simp -dsimp only [↓RP, RQ, Nat.reduceMul, reduceIte, reduceCtorEq, Nat.reduceAdd, Nat.reduceEqDiff, Nat.reduceLT, Nat.reduceLeDiff, ec, pl_get (nxF n t (c + 1)) hc5, nxF_at, nxF_S hcn, hdb, getD_app, app_len, Try.results85, QW, Try.results93])))
    all_goals try (exfalso; omega)
    refine ⟨c, ⟨by omega, fun j h1 h2 => ?_⟩, by omega, weak [] [] ?_ ?_ ?_ rfl⟩
    ·by_cases e : j = c
     ·subst e; exact hd
     ·exact hl j (by omega) h2
    ·(simp -dsimp only [↓RP, RQ, Nat.reduceMul, reduceIte, reduceCtorEq, Nat.reduceAdd, Nat.reduceEqDiff, Nat.reduceLT, Nat.reduceLeDiff, QV]); all_goals (try (simp [QV])); all_goals (try omega)
    ·(simp -dsimp only [↓RP, RQ, Nat.reduceMul, reduceIte, reduceCtorEq, Nat.reduceAdd, Nat.reduceEqDiff, Nat.reduceLT, Nat.reduceLeDiff, QV, lst_0, app_len, getD_app]); all_goals (try simp [QV, lst_0, app_len, getD_app])
    ·(simp -dsimp only [↓RP, RQ, Nat.reduceMul, reduceIte, reduceCtorEq, Nat.reduceAdd, Nat.reduceEqDiff, Nat.reduceLT, Nat.reduceLeDiff, QV]); all_goals (try simp [QV])
   ·have hm := Dg_more hcn ht hd
    have hdb : decide (Dg n t c = n) = false := decide_eq_false hd
    (repeat' (first | with_reducible (first | apply splitVC_d <;> intro _ | apply splitVC <;> intro _) | ((with_reducible refine And.intro ?_ ?_); focus (first | exact True.intro | omega | (simp only [InK, ne_eq, and_true, true_and]; omega) | (and_intros <;> first | exact .inr trivial | exact Nat.le_refl _ | exact one1 _ | exact one5 _ _ _ _ _ | omega) | trivial)) | (simp -dsimp only [↓RP, RQ, Nat.reduceMul, reduceIte, reduceCtorEq, Nat.reduceAdd, Nat.reduceEqDiff, Nat.reduceLT, Nat.reduceLeDiff, ec, pl_get (nxF n t (c + 1)) hc5, nxF_at, hdb, nxF_up hcn (fun j h1 h2 => hl j (by omega) h2) hd, getD_app, app_len, Try.results85, QW, Try.results93])))
    all_goals try (exfalso; omega)
    refine ⟨t + 1, hm, by omega, weak [] [] ?_ ?_ ?_ rfl⟩
    ·(simp -dsimp only [↓RP, RQ, Nat.reduceMul, reduceIte, reduceCtorEq, Nat.reduceAdd, Nat.reduceEqDiff, Nat.reduceLT, Nat.reduceLeDiff, QV]); all_goals (try simp [QV])
    ·(simp -dsimp only [↓RP, RQ, Nat.reduceMul, reduceIte, reduceCtorEq, Nat.reduceAdd, Nat.reduceEqDiff, Nat.reduceLT, Nat.reduceLeDiff, QV, lst_0, app_len, getD_app]); all_goals (try simp [QV, lst_0, app_len, getD_app])
    ·(simp -dsimp only [↓RP, RQ, Nat.reduceMul, reduceIte, reduceCtorEq, Nat.reduceAdd, Nat.reduceEqDiff, Nat.reduceLT, Nat.reduceLeDiff, QV]); all_goals (try simp [QV])
end Go.He
end
section
set_option linter.unusedSimpArgs false
set_option linter.unusedVariables false
set_option linter.defProp false
set_option maxRecDepth 100000
set_option maxHeartbeats 16000000
namespace Go.He
open Go.Proofs
open Go.Sx
theorem c61 (n : Int) (m : Nat) (w : Nat → Wd) : Contract Try.prog 61 [pref n m w] (.fn (.func 85) [] [.ref true 1 (fun _ => .ref false 2 (fun j => rf n m w j))]) := by
 refine contract_of Try.func61 rfl (by kernel_rfl) follows (by kernel_rfl) _ _ (by rw [Try.ntmps61]; simp) (by simp [OldL, Old, QV, psv, rsv, pref, wag, wsv, ints, arrs, I, B]) ?_
 unfold pref
 (repeat' (first | with_reducible (first | apply splitVC_d <;> intro _ | apply splitVC <;> intro _) | ((with_reducible refine And.intro ?_ ?_); focus (first | exact True.intro | omega | (simp only [InK, ne_eq, and_true, true_and]; omega) | trivial)) | (simp -dsimp only [↓RP, RQ, Nat.reduceMul, reduceIte, reduceCtorEq, Nat.reduceAdd, Nat.reduceEqDiff, Nat.reduceLT, Nat.reduceLeDiff, QW, Try.results61])))
 all_goals simp [QV, Go.Sx.Sub]
theorem c87 (n : Nat) (hn1 : 1 ≤ n) (h5 : n ≤ 5) (m : Nat) (w : Nat → Wd) : Contract Try.prog 87 [.fn (.func 85) [] [.ref false 1 (fun _ => .ref false 2 (fun j => rf n m w j))]] (.arr true false (fins n).length 5 (fun i j => .val (.int .i64 (Dg n ((fins n).getD i 0) j)))) := by
 refine contract_of Try.func87 rfl (by kernel_rfl) follows (by kernel_rfl) _ _ (by rw [Try.ntmps87]; simp) (by simp [OldL, Old, QV]) ?_
 (repeat' (first | with_reducible (first | apply splitVC_d <;> intro _ | apply splitVC <;> intro _) | ((with_reducible refine And.intro ?_ ?_); focus (first | exact True.intro | omega | (simp only [InK, ne_eq, and_true, true_and]; omega) | trivial)) | (with_reducible refine callVC (c93 n hn1 h5 m w) ?_ ?_ ?_; iterate 2 focus ((simp -dsimp only [↓RP, RQ, Nat.reduceMul, reduceIte, reduceCtorEq, Nat.reduceAdd, Nat.reduceEqDiff, Nat.reduceLT, Nat.reduceLeDiff, QX]); all_goals (try simp [QV, Go.Sx.Sub, Go.Sx.SubL]); all_goals (try exact lit2 _ _))) | (simp -dsimp only [↓RP, RQ, Nat.reduceMul, reduceIte, reduceCtorEq, Nat.reduceAdd, Nat.reduceEqDiff, Nat.reduceLT, Nat.reduceLeDiff, QW, Try.results87])))
 all_goals simp [QV]
def agI (w : Nat → Wd) (m n : Nat) (i : Nat) : Bool := decide (agr w m (Dg n ((fins n).getD i 0)))
theorem lst_map (q : Nat → Bool) (L : List Nat) : ∀ k : Nat, k ≤ L.length → (lst (fun i => q (L.getD i 0)) k).map (fun i => L.getD i 0) = (L.take k).filter q
 | 0, _ => rfl
 | k + 1, h => by
  have ih := lst_map q L k (by omega)
  have e : L.take (k + 1) = L.take k ++ [L.getD k 0] := by
   rw [List.take_add_one, List.getD_eq_getElem?_getD]
   have : k < L.length := by omega
   simp [this]
  rw [e, List.filter_append, ← ih]
  simp only [lst]
  by_cases hq : q (L.getD k 0) = true
  ·rw [if_pos hq, List.map_append]; simp only [List.map_cons, List.map_nil, List.filter_cons, List.filter_nil]; rw [if_pos hq]
  ·rw [if_neg hq]; simp only [List.filter_cons, List.filter_nil]; rw [if_neg hq, List.append_nil]
theorem ag_map (w : Nat → Wd) (m n : Nat) : (lst (agI w m n) (fins n).length).map (fun i => (fins n).getD i 0) = agrs w m n := by
 have := lst_map (fun t => decide (agr w m (Dg n t))) (fins n) (fins n).length (Nat.le_refl _)
 rw [List.take_length] at this
 have e : agI w m n = fun i => (fun t => decide (agr w m (Dg n t))) ((fins n).getD i 0) := rfl
 rw [e, this]
 unfold fins agrs
 rw [filter_lst]
 rfl
theorem ag_len (w : Nat → Wd) (m n : Nat) : (lst (agI w m n) (fins n).length).length = (agrs w m n).length := by rw [← ag_map, List.length_map]
theorem ag_get (w : Nat → Wd) (m n i : Nat) (h : i < (agrs w m n).length) : (fins n).getD ((lst (agI w m n) (fins n).length).getD i 0) 0 = (agrs w m n).getD i 0 := by
 have e := ag_map w m n
 have h2 : i < (lst (agI w m n) (fins n).length).length := by rw [ag_len]; exact h
 have := congrArg (fun l => l[i]?) e
 simp only [List.getElem?_map] at this
 rw [List.getD_eq_getElem?_getD (l := agrs w m n), ← this, List.getElem?_eq_getElem h2]
 simp [h2]
theorem fins_len {n : Nat} (h5 : n ≤ 5) : (fins n).length ≤ 3125 := Nat.le_trans (lst_len _ _) (pow5 h5)
theorem agrs_len {w : Nat → Wd} {m n : Nat} (h5 : n ≤ 5) : (agrs w m n).length ≤ 3125 := Nat.le_trans (lst_len _ _) (pow5 h5)
theorem c64 (n : Nat) (hn1 : 1 ≤ n) (h5 : n ≤ 5) (m : Nat) (hm : m ≤ 1000000) (w : Nat → Wd) (hw : Fit w m n) : Contract Try.prog 64 [pref n m w] (.arr true false (agrs w m n).length 5 (fun i j => .val (.int .i64 (Dg n ((agrs w m n).getD i 0) j)))) := by
 refine contract_of Try.func64 rfl (by kernel_rfl) follows (by kernel_rfl) _ _ (by rw [Try.ntmps64]; simp) (by simp [OldL, Old, QV, psv, rsv, pref, wag, wsv, ints, arrs, I, B]) ?_
 unfold pref
 (repeat' (first | with_reducible (first | apply splitVC_d <;> intro _ | apply splitVC <;> intro _) | ((with_reducible refine And.intro ?_ ?_); focus (first | exact True.intro | omega | (simp only [InK, ne_eq, and_true, true_and]; omega) | trivial)) | (simp -dsimp only [↓RP, RQ, Nat.reduceMul, reduceIte, reduceCtorEq, Nat.reduceAdd, Nat.reduceEqDiff, Nat.reduceLT, Nat.reduceLeDiff, QW, Try.results64])))
 refine callVC_old (c61 n m w) (by (simp -dsimp only [↓RP, RQ, Nat.reduceMul, reduceIte, reduceCtorEq, Nat.reduceAdd, Nat.reduceEqDiff, Nat.reduceLT, Nat.reduceLeDiff, QX]); all_goals (try simp [QV, Go.Sx.Sub, Go.Sx.SubL]); all_goals (try exact lit2 _ _)) ?_
 (repeat' (first | with_reducible (first | apply splitVC_d <;> intro _ | apply splitVC <;> intro _) | ((with_reducible refine And.intro ?_ ?_); focus (first | exact True.intro | omega | (simp only [InK, ne_eq, and_true, true_and]; omega) | trivial)) | (simp -dsimp only [↓RP, RQ, Nat.reduceMul, reduceIte, reduceCtorEq, Nat.reduceAdd, Nat.reduceEqDiff, Nat.reduceLT, Nat.reduceLeDiff, QW, Try.results64])))
 refine callVC (c87 n hn1 h5 m w) ?_ ?_ ?_; iterate 2 focus ((simp -dsimp only [↓RP, RQ, Nat.reduceMul, reduceIte, reduceCtorEq, Nat.reduceAdd, Nat.reduceEqDiff, Nat.reduceLT, Nat.reduceLeDiff, QX]); all_goals (try simp [QV, Go.Sx.Sub, Go.Sx.SubL]); all_goals (try exact lit2 _ _))
 (repeat' (first | with_reducible (first | apply splitVC_d <;> intro _ | apply splitVC <;> intro _) | ((with_reducible refine And.intro ?_ ?_); focus (first | exact True.intro | omega | (simp only [InK, ne_eq, and_true, true_and]; omega) | trivial)) | (simp -dsimp only [↓RP, RQ, Nat.reduceMul, reduceIte, reduceCtorEq, Nat.reduceAdd, Nat.reduceEqDiff, Nat.reduceLT, Nat.reduceLeDiff, QW, Try.results64])))
 refine callVC (c86 (fins n).length (fun i j => Dg n ((fins n).getD i 0) j) 58 [pref n m w] [] (by simp [OldL, Old, QV, pref]) trivial (agI w m n) (by have := fins_len h5; omega) fun i _ => c58 n (by omega) m hm w hw (Dg n ((fins n).getD i 0))) (by (simp -dsimp only [↓RP, RQ, Nat.reduceMul, reduceIte, reduceCtorEq, Nat.reduceAdd, Nat.reduceEqDiff, Nat.reduceLT, Nat.reduceLeDiff, QV, arrs, pref]); all_goals (try simp [QV, Go.Sx.Sub, Go.Sx.SubL])) (by (simp -dsimp only [↓RP, RQ, Nat.reduceMul, reduceIte, reduceCtorEq, Nat.reduceAdd, Nat.reduceEqDiff, Nat.reduceLT, Nat.reduceLeDiff, QX]); all_goals (try simp [QV])) ?_
 (repeat' (first | with_reducible (first | apply splitVC_d <;> intro _ | apply splitVC <;> intro _) | ((with_reducible refine And.intro ?_ ?_); focus (first | exact True.intro | omega | (simp only [InK, ne_eq, and_true, true_and]; omega) | trivial)) | (simp -dsimp only [↓RP, RQ, Nat.reduceMul, reduceIte, reduceCtorEq, Nat.reduceAdd, Nat.reduceEqDiff, Nat.reduceLT, Nat.reduceLeDiff, QW, Try.results64])))
 all_goals (rw [ag_len]; simp only [Nat.le_refl, true_and])
 all_goals exact fun i j hi hj => by rw [ag_get w m n i hi]
theorem c72 (n : Nat) (hn1 : 1 ≤ n) (h5 : n ≤ 5) (m : Nat) (hm : m ≤ 1000000) (w : Nat → Wd) (hw : Fit w m n) : Contract Try.prog 72 [pref n m w] (.tup [.arr true false (agrs w m n).length 5 (fun i j => .val (.int .i64 (Dg n ((agrs w m n).getD i 0) j))), I (if (agrs w m n).length = 0 then 22 else 0)]) := by
 refine contract_of Try.func72 rfl (by kernel_rfl) follows (by kernel_rfl) _ _ (by rw [Try.ntmps72]; simp) (by simp [OldL, Old, QV, psv, rsv, pref, wag, wsv, ints, arrs, I, B]) ?_
 unfold pref I
 (repeat' (first | with_reducible (first | apply splitVC_d <;> intro _ | apply splitVC <;> intro _) | ((with_reducible refine And.intro ?_ ?_); focus (first | exact True.intro | omega | (simp only [InK, ne_eq, and_true, true_and]; omega) | trivial)) | (with_reducible refine callVC (c64 n hn1 h5 m hm w hw) ?_ ?_ ?_; iterate 2 focus ((simp -dsimp only [↓RP, RQ, Nat.reduceMul, reduceIte, reduceCtorEq, Nat.reduceAdd, Nat.reduceEqDiff, Nat.reduceLT, Nat.reduceLeDiff, QX]); all_goals (try simp [QV, Go.Sx.Sub, Go.Sx.SubL]); all_goals (try exact lit2 _ _))) | (simp -dsimp only [↓RP, RQ, Nat.reduceMul, reduceIte, reduceCtorEq, Nat.reduceAdd, Nat.reduceEqDiff, Nat.reduceLT, Nat.reduceLeDiff, QW, Try.results72])))
 all_goals first | (refine I_eq ?_; rw [if_pos (by omega)]) | (refine I_eq ?_; rw [if_neg (by omega)])
end Go.He
end
section
set_option linter.unusedSimpArgs false
set_option linter.unusedVariables false
set_option linter.defProp false
set_option maxRecDepth 100000
set_option maxHeartbeats 16000000
namespace Go.He
open Go.Proofs
open Go.Sx
theorem c62 (a : Nat) (h1 : 1 ≤ a) (h2 : a ≤ 100000) (u : Nat → Int) : Contract Try.prog 62 [ints a u] (.arr true false a 1 (fun i _ => .val (.int .i64 (u i)))) := by
 refine contract_of Try.func62 rfl (by kernel_rfl) follows (by kernel_rfl) _ _ (by rw [Try.ntmps62]; simp) (by simp [OldL, Old, QV, psv, rsv, pref, wag, wsv, ints, arrs, I, B]) ?_
 unfold ints
 (repeat' (first | with_reducible (first | apply splitVC_d <;> intro _ | apply splitVC <;> intro _) | ((with_reducible refine And.intro ?_ ?_); focus (first | exact True.intro | omega | (simp only [InK, ne_eq, and_true, true_and]; omega) | (and_intros <;> first | exact .inr trivial | omega) | trivial)) | (simp -dsimp only [↓RP, RQ, Nat.reduceMul, reduceIte, reduceCtorEq, Nat.reduceAdd, Nat.reduceEqDiff, Nat.reduceLT, Nat.reduceLeDiff, QW, Try.results62])))
 all_goals (intro i j hi hj; simp)
end Go.He
end
