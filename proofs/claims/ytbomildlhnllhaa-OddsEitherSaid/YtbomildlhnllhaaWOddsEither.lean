/- A part of the proof. -/
import Derived.Test.YtbomildlhnllhaaOI
import Derived.Test.YtbomildlhnllhaaOJ
section
set_option linter.unusedSimpArgs false
set_option linter.unusedVariables false
set_option linter.defProp false
set_option maxRecDepth 100000
set_option maxHeartbeats 16000000
namespace Go.Od
open Go.Proofs
open Go.Sx
theorem TYx : True ∧ tyOf Try.prog 54 = some ⟨false, 1, some [.slice none 0 0], .slice 57 1⟩ ∧ tyOf Try.prog 57 = some ⟨false, 1, some [.int .u32 0], .int .u32⟩ := ⟨trivial, by kernel_rfl, by kernel_rfl⟩
def u32s (k : Nat) (u : Nat → Int) : SV := .arr false false k 1 (fun i _ => .val (.int .u32 (u i)))
def numV (k : Nat) (u : Nat → Int) (top : Int) (i : Nat) : Int := if 0 < k then (u (i % k)).tmod (top + 1) else 0
theorem c45 (M : Mk) : Contract Try.prog 45 [M.sv] (B (decide (M.err = 0))) := by
  refine contract_of Try.func45 rfl (by kernel_rfl) follows (by kernel_rfl) _ _ (by rw [Try.ntmps45]; simp) (by simp only [OldL, Mk.old, and_self]) ?_
  unfold B
  conv => arg 4; unfold Mk.sv qts I
  (repeat' (first | with_reducible refine splitVC_d (fun _ => ?_) (fun _ => ?_) | with_reducible refine splitVC (fun _ => ?_) (fun _ => ?_) | ((with_reducible refine And.intro ?_ ?_); focus (first | exact True.intro | (simp only [InK]; omega) | omega | (simp only [InK, ne_eq, and_true, true_and]; omega) | exact ⟨.inr trivial, Nat.le_refl _, one1 _, by omega⟩ | exact ⟨.inr trivial, Nat.le_refl _, one1 _, by omega, by kernel_rfl⟩ | trivial)) | (simp -dsimp only [↓RP, RQ, implies_true, forall_const, Nat.reduceMul, reduceIte, reduceCtorEq, Nat.reduceAdd, Nat.reduceEqDiff, Nat.reduceLT, Nat.reduceLeDiff, Int.reduceEq, Int.reduceNeg, RZ, eq_self, TYx, TYq, TYp, TYm, TYn, TYw, fsv, B, I, by2, TY, Try.results45])))
  refine callVC (c32 M) (by (simp -dsimp only [↓RP, RQ, implies_true, forall_const, Nat.reduceMul, reduceIte, reduceCtorEq, Nat.reduceAdd, Nat.reduceEqDiff, Nat.reduceLT, Nat.reduceLeDiff, Mk.sv, qts, I]); all_goals (try simp [sub_q])) (by (simp -dsimp only [↓RP, RQ, implies_true, forall_const, Nat.reduceMul, reduceIte, reduceCtorEq, Nat.reduceAdd, Nat.reduceEqDiff, Nat.reduceLT, Nat.reduceLeDiff, B])) ?_
  (repeat' (first | with_reducible refine splitVC_d (fun _ => ?_) (fun _ => ?_) | with_reducible refine splitVC (fun _ => ?_) (fun _ => ?_) | ((with_reducible refine And.intro ?_ ?_); focus (first | exact True.intro | (simp only [InK]; omega) | omega | (simp only [InK, ne_eq, and_true, true_and]; omega) | exact ⟨.inr trivial, Nat.le_refl _, one1 _, by omega⟩ | exact ⟨.inr trivial, Nat.le_refl _, one1 _, by omega, by kernel_rfl⟩ | trivial)) | (simp -dsimp only [↓RP, RQ, implies_true, forall_const, Nat.reduceMul, reduceIte, reduceCtorEq, Nat.reduceAdd, Nat.reduceEqDiff, Nat.reduceLT, Nat.reduceLeDiff, Int.reduceEq, Int.reduceNeg, RZ, eq_self, TYx, TYq, TYp, TYm, TYn, TYw, fsv, B, I, by2, TY, Try.results45])))
  · refine B_eq ?_
    symm
    exact decide_eq_false fun h => by have := (Mk.fine h).m12; omega
  refine callVC (c36 M) (by (simp -dsimp only [↓RP, RQ, implies_true, forall_const, Nat.reduceMul, reduceIte, reduceCtorEq, Nat.reduceAdd, Nat.reduceEqDiff, Nat.reduceLT, Nat.reduceLeDiff, Mk.sv, qts, I]); all_goals (try simp [sub_q])) (by (simp -dsimp only [↓RP, RQ, implies_true, forall_const, Nat.reduceMul, reduceIte, reduceCtorEq, Nat.reduceAdd, Nat.reduceEqDiff, Nat.reduceLT, Nat.reduceLeDiff, fsv, I])) ?_
  (repeat' (first | with_reducible refine splitVC_d (fun _ => ?_) (fun _ => ?_) | with_reducible refine splitVC (fun _ => ?_) (fun _ => ?_) | ((with_reducible refine And.intro ?_ ?_); focus (first | exact True.intro | (simp only [InK]; omega) | omega | (simp only [InK, ne_eq, and_true, true_and]; omega) | exact ⟨.inr trivial, Nat.le_refl _, one1 _, by omega⟩ | exact ⟨.inr trivial, Nat.le_refl _, one1 _, by omega, by kernel_rfl⟩ | trivial)) | (simp -dsimp only [↓RP, RQ, implies_true, forall_const, Nat.reduceMul, reduceIte, reduceCtorEq, Nat.reduceAdd, Nat.reduceEqDiff, Nat.reduceLT, Nat.reduceLeDiff, Int.reduceEq, Int.reduceNeg, RZ, eq_self, TYx, TYq, TYp, TYm, TYn, TYw, fsv, B, I, by2, TY, Try.results45])))
def st46 (m k : Nat) (u : Nat → Int) (top : Int) (z : Nat) : St :=
  match z with
  | 0 => ⟨[(0, .val (.int .i64 m)), (1, .arr false false k 1 (fun i _ => .val (.int .u32 (u i)))), (2, .val (.int .i64 top)), (6, .val (.slice none 0 0)), (7, .val (.slice none 0 0)), (8, .val (.int .i64 0))], [], 20⟩
  | i + 1 => ⟨[(0, .val (.int .i64 m)), (1, .arr false false k 1 (fun i _ => .val (.int .u32 (u i)))), (2, .val (.int .i64 top)), (6, .val (.slice none 0 0)), (7, .vec 60 (i + 1) 1), (8, .val (.int .i64 (i + 1 : Nat)))], [(60, .rows 2 1 (i + 1) (fun a _ => .val (.int .i64 (numV k u top a))))], 61⟩
theorem st46_0 (m k : Nat) (u : Nat → Int) (top : Int) : st46 m k u top 0 = ⟨[(0, .val (.int .i64 m)), (1, .arr false false k 1 (fun i _ => .val (.int .u32 (u i)))), (2, .val (.int .i64 top)), (6, .val (.slice none 0 0)), (7, .val (.slice none 0 0)), (8, .val (.int .i64 0))], [], 20⟩ := rfl
theorem st46_s (m k : Nat) (u : Nat → Int) (top : Int) (i : Nat) : st46 m k u top (i + 1) = ⟨[(0, .val (.int .i64 m)), (1, .arr false false k 1 (fun i _ => .val (.int .u32 (u i)))), (2, .val (.int .i64 top)), (6, .val (.slice none 0 0)), (7, .vec 60 (i + 1) 1), (8, .val (.int .i64 (i + 1 : Nat)))], [(60, .rows 2 1 (i + 1) (fun a _ => .val (.int .i64 (numV k u top a))))], 61⟩ := rfl
theorem lst46 (k : Nat) (u : Nat → Int) (top : Int) (i : Nat) : ∀ j, j < i + 1 + 1 → i + 1 ≤ j → [SV.val (Value.int IntKind.i64 (numV k u top (i + 1)))][j - (i + 1)]?.getD SV.top = SV.val (Value.int IntKind.i64 (numV k u top j)) := by
  intro j h1 h2
  obtain rfl : j = i + 1 := by omega
  rw [Nat.sub_self]; rfl
theorem lst46z (i : Nat) : ∀ j, j < i + 1 + 1 → i + 1 ≤ j → [SV.val (Value.int IntKind.i64 0)][j - (i + 1)]?.getD SV.top = SV.val (Value.int IntKind.i64 0) := by
  intro j h1 h2
  obtain rfl : j = i + 1 := by omega
  rw [Nat.sub_self]; rfl
theorem c46 (m k : Nat) (hm2 : m ≤ 1000) (u : Nat → Int) (hu : ∀ i, i < k → 0 ≤ u i ∧ u i < 4294967296) (top : Int) (ht : 0 ≤ top ∧ top ≤ 1000000000) : Contract Try.prog 46 [I m, u32s k u, I top] (.arr true false m 1 (fun i _ => .val (.int .i64 (numV k u top i)))) := by
  refine contract_of Try.func46 rfl (by kernel_rfl) follows (by kernel_rfl) _ _ (by rw [Try.ntmps46]; simp) (by simp [OldL, Old, u32s, I]) ?_
  conv => arg 4; unfold u32s I
  (repeat' (first | with_reducible refine splitVC_d (fun _ => ?_) (fun _ => ?_) | with_reducible refine splitVC (fun _ => ?_) (fun _ => ?_) | ((with_reducible refine And.intro ?_ ?_); focus (first | exact True.intro | (simp only [InK]; omega) | omega | (simp only [InK, ne_eq, and_true, true_and]; omega) | exact ⟨.inr trivial, Nat.le_refl _, one1 _, by omega⟩ | exact ⟨.inr trivial, Nat.le_refl _, one1 _, by omega, by kernel_rfl⟩ | trivial)) | (simp -dsimp only [↓RP, RQ, implies_true, forall_const, Nat.reduceMul, reduceIte, reduceCtorEq, Nat.reduceAdd, Nat.reduceEqDiff, Nat.reduceLT, Nat.reduceLeDiff, Int.reduceEq, Int.reduceNeg, RZ, eq_self, TYx, TYq, TYp, TYm, TYn, TYw, fsv, B, I, by2, TY, Try.results46])))
  refine loop_vc (fun i => i ≤ m) (st46 m k u top) (fun i => m - i) 0 (Nat.zero_le _) (weak [] [] ?_ ?_ ?_) fun i hi => ?_
  · (simp -dsimp only [↓RP, RQ, implies_true, forall_const, Nat.reduceMul, reduceIte, reduceCtorEq, Nat.reduceAdd, Nat.reduceEqDiff, Nat.reduceLT, Nat.reduceLeDiff, st46]); all_goals (try simp [wk_q])
  · (simp -dsimp only [↓RP, RQ, implies_true, forall_const, Nat.reduceMul, reduceIte, reduceCtorEq, Nat.reduceAdd, Nat.reduceEqDiff, Nat.reduceLT, Nat.reduceLeDiff, st46]); all_goals (try simp [wk_q])
  · (simp -dsimp only [↓RP, RQ, implies_true, forall_const, Nat.reduceMul, reduceIte, reduceCtorEq, Nat.reduceAdd, Nat.reduceEqDiff, Nat.reduceLT, Nat.reduceLeDiff, st46]); all_goals (try simp [wk_q])
  by_cases hlt : i < m
  · by_cases hk : 0 < k
    · have hb := hu (i % k) (Nat.mod_lt _ hk)
      have et : ((i : Nat) : Int).tmod (k : Nat) = ((i % k : Nat) : Int) := rfl
      have ev : (u (i % k)).tmod (top + 1) = numV k u top i := by unfold numV; rw [if_pos hk]
      have hlt2 := Nat.mod_lt i hk
      have b1 : InK .i64 (u (i % k)) := by simp only [InK]; omega
      cases i with
      | zero =>
        have et : Int.tmod 0 (k : Nat) = ((0 % k : Nat) : Int) := rfl
        rw [st46_0]
        (repeat' (first | with_reducible refine splitVC_d (fun _ => ?_) (fun _ => ?_) | with_reducible refine splitVC (fun _ => ?_) (fun _ => ?_) | ((with_reducible refine And.intro ?_ ?_); focus (first | exact True.intro | (simp only [InK]; omega) | omega | (simp only [InK, ne_eq, and_true, true_and]; omega) | exact ⟨.inr trivial, Nat.le_refl _, one1 _, by omega⟩ | exact ⟨.inr trivial, Nat.le_refl _, one1 _, by omega, by kernel_rfl⟩ | trivial)) | (simp -dsimp only [↓RP, RQ, implies_true, forall_const, Nat.reduceMul, reduceIte, reduceCtorEq, Nat.reduceAdd, Nat.reduceEqDiff, Nat.reduceLT, Nat.reduceLeDiff, et, ev, Int.reduceEq, Int.reduceNeg, RZ, eq_self, TYx, TYq, TYp, TYm, TYn, TYw, fsv, B, I, by2, TY, Try.results46])))
        all_goals first | (exfalso; omega) | skip
        refine ⟨0 + 1, by omega, by omega, weak [(60, some 42)] [] ?_ ?_ ?_⟩
        all_goals ((simp -dsimp only [↓RP, RQ, implies_true, forall_const, Nat.reduceMul, reduceIte, reduceCtorEq, Nat.reduceAdd, Nat.reduceEqDiff, Nat.reduceLT, Nat.reduceLeDiff, st46]); all_goals (try simp [wk_q]))
      | succ i =>
        rw [st46_s]
        (repeat' (first | with_reducible refine splitVC_d (fun _ => ?_) (fun _ => ?_) | with_reducible refine splitVC (fun _ => ?_) (fun _ => ?_) | ((with_reducible refine And.intro ?_ ?_); focus (first | exact True.intro | (simp only [InK]; omega) | omega | (simp only [InK, ne_eq, and_true, true_and]; omega) | exact ⟨.inr trivial, Nat.le_refl _, one1 _, by omega⟩ | exact ⟨.inr trivial, Nat.le_refl _, one1 _, by omega, by kernel_rfl⟩ | trivial)) | (simp -dsimp only [↓RP, RQ, implies_true, forall_const, Nat.reduceMul, reduceIte, reduceCtorEq, Nat.reduceAdd, Nat.reduceEqDiff, Nat.reduceLT, Nat.reduceLeDiff, et, ev, Int.reduceEq, Int.reduceNeg, RZ, eq_self, TYx, TYq, TYp, TYm, TYn, TYw, fsv, B, I, by2, TY, Try.results46])))
        all_goals first | (exfalso; omega) | skip
        refine ⟨i + 1 + 1, by omega, by omega, weak [(60, some 83)] [] ?_ ?_ ?_⟩
        all_goals ((simp -dsimp only [↓RP, RQ, implies_true, forall_const, Nat.reduceMul, reduceIte, reduceCtorEq, Nat.reduceAdd, Nat.reduceEqDiff, Nat.reduceLT, Nat.reduceLeDiff, st46]); all_goals (try simp [wk_q]))
        all_goals exact lst46 _ _ _ _
    · obtain rfl : k = 0 := by omega
      have ev : ∀ i, numV 0 u top i = 0 := fun i => by unfold numV; rw [if_neg (by omega)]
      cases i with
      | zero =>
        rw [st46_0]
        (repeat' (first | with_reducible refine splitVC_d (fun _ => ?_) (fun _ => ?_) | with_reducible refine splitVC (fun _ => ?_) (fun _ => ?_) | ((with_reducible refine And.intro ?_ ?_); focus (first | exact True.intro | (simp only [InK]; omega) | omega | (simp only [InK, ne_eq, and_true, true_and]; omega) | exact ⟨.inr trivial, Nat.le_refl _, one1 _, by omega⟩ | exact ⟨.inr trivial, Nat.le_refl _, one1 _, by omega, by kernel_rfl⟩ | trivial)) | (simp -dsimp only [↓RP, RQ, implies_true, forall_const, Nat.reduceMul, reduceIte, reduceCtorEq, Nat.reduceAdd, Nat.reduceEqDiff, Nat.reduceLT, Nat.reduceLeDiff, Int.reduceEq, Int.reduceNeg, RZ, eq_self, TYx, TYq, TYp, TYm, TYn, TYw, fsv, B, I, by2, TY, Try.results46])))
        all_goals first | (exfalso; omega) | skip
        refine ⟨0 + 1, by omega, by omega, weak [(60, some 30)] [] ?_ ?_ ?_⟩
        all_goals ((simp -dsimp only [↓RP, RQ, implies_true, forall_const, Nat.reduceMul, reduceIte, reduceCtorEq, Nat.reduceAdd, Nat.reduceEqDiff, Nat.reduceLT, Nat.reduceLeDiff, st46, ev]); all_goals (try simp [wk_q, ev]))
      | succ i =>
        rw [st46_s]
        (repeat' (first | with_reducible refine splitVC_d (fun _ => ?_) (fun _ => ?_) | with_reducible refine splitVC (fun _ => ?_) (fun _ => ?_) | ((with_reducible refine And.intro ?_ ?_); focus (first | exact True.intro | (simp only [InK]; omega) | omega | (simp only [InK, ne_eq, and_true, true_and]; omega) | exact ⟨.inr trivial, Nat.le_refl _, one1 _, by omega⟩ | exact ⟨.inr trivial, Nat.le_refl _, one1 _, by omega, by kernel_rfl⟩ | trivial)) | (simp -dsimp only [↓RP, RQ, implies_true, forall_const, Nat.reduceMul, reduceIte, reduceCtorEq, Nat.reduceAdd, Nat.reduceEqDiff, Nat.reduceLT, Nat.reduceLeDiff, Int.reduceEq, Int.reduceNeg, RZ, eq_self, TYx, TYq, TYp, TYm, TYn, TYw, fsv, B, I, by2, TY, Try.results46])))
        all_goals first | (exfalso; omega) | skip
        refine ⟨i + 1 + 1, by omega, by omega, weak [(60, some 71)] [] ?_ ?_ ?_⟩
        all_goals ((simp -dsimp only [↓RP, RQ, implies_true, forall_const, Nat.reduceMul, reduceIte, reduceCtorEq, Nat.reduceAdd, Nat.reduceEqDiff, Nat.reduceLT, Nat.reduceLeDiff, st46, ev]); all_goals (try simp [wk_q, ev]))
        all_goals exact lst46z _
  · obtain rfl : i = m := by omega
    cases i with
    | zero =>
      rw [st46_0]
      (repeat' (first | with_reducible refine splitVC_d (fun _ => ?_) (fun _ => ?_) | with_reducible refine splitVC (fun _ => ?_) (fun _ => ?_) | ((with_reducible refine And.intro ?_ ?_); focus (first | exact True.intro | (simp only [InK]; omega) | omega | (simp only [InK, ne_eq, and_true, true_and]; omega) | exact ⟨.inr trivial, Nat.le_refl _, one1 _, by omega⟩ | exact ⟨.inr trivial, Nat.le_refl _, one1 _, by omega, by kernel_rfl⟩ | trivial)) | (simp -dsimp only [↓RP, RQ, implies_true, forall_const, Nat.reduceMul, reduceIte, reduceCtorEq, Nat.reduceAdd, Nat.reduceEqDiff, Nat.reduceLT, Nat.reduceLeDiff, Int.reduceEq, Int.reduceNeg, RZ, eq_self, TYx, TYq, TYp, TYm, TYn, TYw, fsv, B, I, by2, TY, Try.results46])))
      all_goals first | (exfalso; omega) | skip
    | succ i =>
      rw [st46_s]
      (repeat' (first | with_reducible refine splitVC_d (fun _ => ?_) (fun _ => ?_) | with_reducible refine splitVC (fun _ => ?_) (fun _ => ?_) | ((with_reducible refine And.intro ?_ ?_); focus (first | exact True.intro | (simp only [InK]; omega) | omega | (simp only [InK, ne_eq, and_true, true_and]; omega) | exact ⟨.inr trivial, Nat.le_refl _, one1 _, by omega⟩ | exact ⟨.inr trivial, Nat.le_refl _, one1 _, by omega, by kernel_rfl⟩ | trivial)) | (simp -dsimp only [↓RP, RQ, implies_true, forall_const, Nat.reduceMul, reduceIte, reduceCtorEq, Nat.reduceAdd, Nat.reduceEqDiff, Nat.reduceLT, Nat.reduceLeDiff, Int.reduceEq, Int.reduceNeg, RZ, eq_self, TYx, TYq, TYp, TYm, TYn, TYw, fsv, B, I, by2, TY, Try.results46])))
      all_goals first | (exfalso; omega) | skip
      exact Nat.le_refl _
end Go.Od
end
section
set_option linter.unusedSimpArgs false
set_option linter.unusedVariables false
set_option linter.defProp false
set_option maxRecDepth 100000
set_option maxHeartbeats 16000000
namespace Go.Od
open Go.Proofs
open Go.Sx
theorem chE_20 {M : Mk} (he : M.err = 0) {l : List Nat} (h : sureV M = some l) (k : Nat) (c : Nat → Int) : ¬ M.chE k c = 0 := fun h0 => not_both h0 (sure_ck he h)
theorem ckS_14 {M : Mk} (he : M.err = 0) {r : Nat} (h : sureV M = none) (hS : Stop M.lo M.hi M.run.toNat r) {s : Nat → Int} (hs : allS s M.m) : M.ckS M.m s = 14 := by
  have hf := Mk.fine he
  have hF := fair_of hf (sure_none.1 h)
  have h0 := fair_ok he hF hS
  have hst : M.stk M.m s = 0 := by unfold Mk.stk; rw [if_pos he, if_pos rfl, if_pos hs]
  unfold Mk.ckS
  rw [if_pos hst, if_neg]
  intro hw
  refine not_both h0 (j := M.m) (s := s) ?_
  unfold Mk.ckS
  rw [if_pos hst, if_pos hw]
theorem numV_bd (k : Nat) (u : Nat → Int) (hu : ∀ i, i < k → 0 ≤ u i ∧ u i < 4294967296) (top : Int) (ht : 0 ≤ top) (i : Nat) : 0 ≤ numV k u top i ∧ numV k u top i ≤ top := by
  unfold numV
  split
  · rename_i hk
    have := hu (i % k) (Nat.mod_lt _ hk)
    have h1 := Int.tmod_nonneg (top + 1) this.1
    have h2 := Int.tmod_lt_of_pos (u (i % k)) (show 0 < top + 1 by omega)
    omega
  · omega
theorem red_pos {x : Int} (h : 0 < x) : 0 < (red ⟨x, 2520⟩).n ∧ 1 ≤ (red ⟨x, 2520⟩).d := by
  have ⟨s1, s2, s3, s4⟩ := red_spec (a := ⟨x, 2520⟩) (by show (0 : Int) < 2520; omega)
  have s3 : (red ⟨x, 2520⟩).n * 2520 = x * (red ⟨x, 2520⟩).d := s3
  have := Int.mul_pos h s1
  omega
theorem c8 (M : Mk) (a : Nat) (u : Nat → Int) (hu : ∀ i, i < a → 0 ≤ u i ∧ u i < 4294967296) (b : Nat) (v : Nat → Int) (hv : ∀ i, i < b → 0 ≤ v i ∧ v i < 4294967296) : Contract Try.prog 8 [M.sv, u32s a u, u32s b v] (B true) := by
  refine contract_of Try.func8 rfl (by kernel_rfl) follows (by kernel_rfl) _ _ (by rw [Try.ntmps8]; simp) (by simp only [OldL, Mk.old, and_self, true_and, and_true]; simp [Old, u32s, I]) ?_
  unfold B
  conv => arg 4; unfold Mk.sv qts u32s I
  by_cases he : M.err = 0
  rotate_left
  · (repeat' (first | with_reducible refine splitVC_d (fun _ => ?_) (fun _ => ?_) | with_reducible refine splitVC (fun _ => ?_) (fun _ => ?_) | ((with_reducible refine And.intro ?_ ?_); focus (first | exact True.intro | (simp only [InK]; omega) | omega | (simp only [InK, ne_eq, and_true, true_and]; omega) | trivial)) | (simp -dsimp only [↓RP, RQ, implies_true, forall_const, Nat.reduceMul, reduceIte, reduceCtorEq, Nat.reduceAdd, Nat.reduceEqDiff, Nat.reduceLT, Nat.reduceLeDiff, he, Int.reduceEq, Int.reduceNeg, RZ, eq_self, eq23, TYq, TYp, TYm, TYn, TYw, TYx, fsv, B, I, by2, TY, Try.results8])))
    refine callVC (c45 M) ?_ ?_ ?_; iterate 2 focus ((simp -dsimp only [↓RP, RQ, implies_true, forall_const, Nat.reduceMul, reduceIte, reduceCtorEq, Nat.reduceAdd, Nat.reduceEqDiff, Nat.reduceLT, Nat.reduceLeDiff, Pl.svT, Pl.sv, rngs, Mk.svT, Mk.sv, qts, fsv, Go.Od.ints, u32s, I, B]); all_goals (try simp [sub_q, fresh_q]); all_goals (try exact fun i hi => by rcases i with _ | _ | _ | i <;> first | rfl | omega))
    (repeat' (first | with_reducible refine splitVC_d (fun _ => ?_) (fun _ => ?_) | with_reducible refine splitVC (fun _ => ?_) (fun _ => ?_) | ((with_reducible refine And.intro ?_ ?_); focus (first | exact True.intro | (simp only [InK]; omega) | omega | (simp only [InK, ne_eq, and_true, true_and]; omega) | trivial)) | (simp -dsimp only [↓RP, RQ, implies_true, forall_const, Nat.reduceMul, reduceIte, reduceCtorEq, Nat.reduceAdd, Nat.reduceEqDiff, Nat.reduceLT, Nat.reduceLeDiff, he, Int.reduceEq, Int.reduceNeg, RZ, eq_self, eq23, TYq, TYp, TYm, TYn, TYw, TYx, fsv, B, I, by2, TY, Try.results8])))
    refine callVC c22 ?_ ?_ ?_; iterate 2 focus ((simp -dsimp only [↓RP, RQ, implies_true, forall_const, Nat.reduceMul, reduceIte, reduceCtorEq, Nat.reduceAdd, Nat.reduceEqDiff, Nat.reduceLT, Nat.reduceLeDiff, Pl.svT, Pl.sv, rngs, Mk.svT, Mk.sv, qts, fsv, Go.Od.ints, u32s, I, B]); all_goals (try simp [sub_q, fresh_q]); all_goals (try exact fun i hi => by rcases i with _ | _ | _ | i <;> first | rfl | omega))
    (repeat' (first | with_reducible refine splitVC_d (fun _ => ?_) (fun _ => ?_) | with_reducible refine splitVC (fun _ => ?_) (fun _ => ?_) | ((with_reducible refine And.intro ?_ ?_); focus (first | exact True.intro | (simp only [InK]; omega) | omega | (simp only [InK, ne_eq, and_true, true_and]; omega) | trivial)) | (simp -dsimp only [↓RP, RQ, implies_true, forall_const, Nat.reduceMul, reduceIte, reduceCtorEq, Nat.reduceAdd, Nat.reduceEqDiff, Nat.reduceLT, Nat.reduceLeDiff, he, Int.reduceEq, Int.reduceNeg, RZ, eq_self, eq23, TYq, TYp, TYm, TYn, TYw, TYx, fsv, B, I, by2, TY, Try.results8])))
  (repeat' (first | with_reducible refine splitVC_d (fun _ => ?_) (fun _ => ?_) | with_reducible refine splitVC (fun _ => ?_) (fun _ => ?_) | ((with_reducible refine And.intro ?_ ?_); focus (first | exact True.intro | (simp only [InK]; omega) | omega | (simp only [InK, ne_eq, and_true, true_and]; omega) | trivial)) | (simp -dsimp only [↓RP, RQ, implies_true, forall_const, Nat.reduceMul, reduceIte, reduceCtorEq, Nat.reduceAdd, Nat.reduceEqDiff, Nat.reduceLT, Nat.reduceLeDiff, he, Int.reduceEq, Int.reduceNeg, RZ, eq_self, eq23, TYq, TYp, TYm, TYn, TYw, TYx, fsv, B, I, by2, TY, Try.results8])))
  refine callVC (c45 M) ?_ ?_ ?_; iterate 2 focus ((simp -dsimp only [↓RP, RQ, implies_true, forall_const, Nat.reduceMul, reduceIte, reduceCtorEq, Nat.reduceAdd, Nat.reduceEqDiff, Nat.reduceLT, Nat.reduceLeDiff, Pl.svT, Pl.sv, rngs, Mk.svT, Mk.sv, qts, fsv, Go.Od.ints, u32s, I, B]); all_goals (try simp [sub_q, fresh_q]); all_goals (try exact fun i hi => by rcases i with _ | _ | _ | i <;> first | rfl | omega))
  (repeat' (first | with_reducible refine splitVC_d (fun _ => ?_) (fun _ => ?_) | with_reducible refine splitVC (fun _ => ?_) (fun _ => ?_) | ((with_reducible refine And.intro ?_ ?_); focus (first | exact True.intro | (simp only [InK]; omega) | omega | (simp only [InK, ne_eq, and_true, true_and]; omega) | trivial)) | (simp -dsimp only [↓RP, RQ, implies_true, forall_const, Nat.reduceMul, reduceIte, reduceCtorEq, Nat.reduceAdd, Nat.reduceEqDiff, Nat.reduceLT, Nat.reduceLeDiff, he, Int.reduceEq, Int.reduceNeg, RZ, eq_self, eq23, TYq, TYp, TYm, TYn, TYw, TYx, fsv, B, I, by2, TY, Try.results8])))
  all_goals first | (refine callVC c22 ?_ ?_ ?_; (iterate 2 focus ((simp -dsimp only [↓RP, RQ, implies_true, forall_const, Nat.reduceMul, reduceIte, reduceCtorEq, Nat.reduceAdd, Nat.reduceEqDiff, Nat.reduceLT, Nat.reduceLeDiff, Pl.svT, Pl.sv, rngs, Mk.svT, Mk.sv, qts, fsv, Go.Od.ints, u32s, I, B]); all_goals (try simp [sub_q, fresh_q]); all_goals (try exact fun i hi => by rcases i with _ | _ | _ | i <;> first | rfl | omega))); (repeat' (first | with_reducible refine splitVC_d (fun _ => ?_) (fun _ => ?_) | with_reducible refine splitVC (fun _ => ?_) (fun _ => ?_) | ((with_reducible refine And.intro ?_ ?_); focus (first | exact True.intro | (simp only [InK]; omega) | omega | (simp only [InK, ne_eq, and_true, true_and]; omega) | trivial)) | (simp -dsimp only [↓RP, RQ, implies_true, forall_const, Nat.reduceMul, reduceIte, reduceCtorEq, Nat.reduceAdd, Nat.reduceEqDiff, Nat.reduceLT, Nat.reduceLeDiff, Int.reduceEq, Int.reduceNeg, RZ, eq_self, eq23, TYq, TYp, TYm, TYn, TYw, TYx, fsv, B, I, by2, TY, Try.results8]))); done) | skip
  have hf := Mk.fine he
  have hr1 := hf.r1
  have hr5 := hf.r5
  have hm12 := hf.m12
  have er : M.run = (M.run.toNat : Nat) := by omega
  have n1 := c46 M.m a (by omega) u hu 1000 (by omega)
  have n2 := c46 M.run.toNat b (by omega) v hv 1000 (by omega)
  rw [← er] at n2
  have hs1 : allS (numV a u 1000) M.m := fun i _ => by have := numV_bd a u hu 1000 (by omega) i; omega
  cases hs : sureV M with
  | some l =>
    have h37 := c37 M M.m (by omega) (fun i => stR M.q l (aL M.q l l.length) l.length i)
    have h38 := c38 M M.m (fun i => stR M.q l (aL M.q l l.length) l.length i)
    rw [sure_ck he hs] at h37 h38
    have h20 := chE_20 he hs M.run.toNat (numV b v 1000)
    refine callVC (c39s M hf l hs) ?_ ?_ ?_; iterate 2 focus ((simp -dsimp only [↓RP, RQ, implies_true, forall_const, Nat.reduceMul, reduceIte, reduceCtorEq, Nat.reduceAdd, Nat.reduceEqDiff, Nat.reduceLT, Nat.reduceLeDiff, Pl.svT, Pl.sv, rngs, Mk.svT, Mk.sv, qts, fsv, Go.Od.ints, u32s, I, B]); all_goals (try simp [sub_q, fresh_q]); all_goals (try exact fun i hi => by rcases i with _ | _ | _ | i <;> first | rfl | omega))
    (repeat' (first | with_reducible refine splitVC_d (fun _ => ?_) (fun _ => ?_) | with_reducible refine splitVC (fun _ => ?_) (fun _ => ?_) | ((with_reducible refine And.intro ?_ ?_); focus (first | exact True.intro | (simp only [InK]; omega) | omega | (simp only [InK, ne_eq, and_true, true_and]; omega) | trivial)) | (simp -dsimp only [↓RP, RQ, implies_true, forall_const, Nat.reduceMul, reduceIte, reduceCtorEq, Nat.reduceAdd, Nat.reduceEqDiff, Nat.reduceLT, Nat.reduceLeDiff, nilV, h20, Int.reduceEq, Int.reduceNeg, RZ, eq_self, eq23, TYq, TYp, TYm, TYn, TYw, TYx, fsv, B, I, by2, TY, Try.results8])))
    refine callVC (c40n M hf l hs) ?_ ?_ ?_; iterate 2 focus ((simp -dsimp only [↓RP, RQ, implies_true, forall_const, Nat.reduceMul, reduceIte, reduceCtorEq, Nat.reduceAdd, Nat.reduceEqDiff, Nat.reduceLT, Nat.reduceLeDiff, Pl.svT, Pl.sv, rngs, Mk.svT, Mk.sv, qts, fsv, Go.Od.ints, u32s, I, B]); all_goals (try simp [sub_q, fresh_q]); all_goals (try exact fun i hi => by rcases i with _ | _ | _ | i <;> first | rfl | omega))
    (repeat' (first | with_reducible refine splitVC_d (fun _ => ?_) (fun _ => ?_) | with_reducible refine splitVC (fun _ => ?_) (fun _ => ?_) | ((with_reducible refine And.intro ?_ ?_); focus (first | exact True.intro | (simp only [InK]; omega) | omega | (simp only [InK, ne_eq, and_true, true_and]; omega) | trivial)) | (simp -dsimp only [↓RP, RQ, implies_true, forall_const, Nat.reduceMul, reduceIte, reduceCtorEq, Nat.reduceAdd, Nat.reduceEqDiff, Nat.reduceLT, Nat.reduceLeDiff, nilV, h20, Int.reduceEq, Int.reduceNeg, RZ, eq_self, eq23, TYq, TYp, TYm, TYn, TYw, TYx, fsv, B, I, by2, TY, Try.results8])))
    refine callVC n1 ?_ ?_ ?_; iterate 2 focus ((simp -dsimp only [↓RP, RQ, implies_true, forall_const, Nat.reduceMul, reduceIte, reduceCtorEq, Nat.reduceAdd, Nat.reduceEqDiff, Nat.reduceLT, Nat.reduceLeDiff, Pl.svT, Pl.sv, rngs, Mk.svT, Mk.sv, qts, fsv, Go.Od.ints, u32s, I, B]); all_goals (try simp [sub_q, fresh_q]); all_goals (try exact fun i hi => by rcases i with _ | _ | _ | i <;> first | rfl | omega))
    (repeat' (first | with_reducible refine splitVC_d (fun _ => ?_) (fun _ => ?_) | with_reducible refine splitVC (fun _ => ?_) (fun _ => ?_) | ((with_reducible refine And.intro ?_ ?_); focus (first | exact True.intro | (simp only [InK]; omega) | omega | (simp only [InK, ne_eq, and_true, true_and]; omega) | trivial)) | (simp -dsimp only [↓RP, RQ, implies_true, forall_const, Nat.reduceMul, reduceIte, reduceCtorEq, Nat.reduceAdd, Nat.reduceEqDiff, Nat.reduceLT, Nat.reduceLeDiff, nilV, h20, Int.reduceEq, Int.reduceNeg, RZ, eq_self, eq23, TYq, TYp, TYm, TYn, TYw, TYx, fsv, B, I, by2, TY, Try.results8])))
    refine callVC n2 ?_ ?_ ?_; iterate 2 focus ((simp -dsimp only [↓RP, RQ, implies_true, forall_const, Nat.reduceMul, reduceIte, reduceCtorEq, Nat.reduceAdd, Nat.reduceEqDiff, Nat.reduceLT, Nat.reduceLeDiff, Pl.svT, Pl.sv, rngs, Mk.svT, Mk.sv, qts, fsv, Go.Od.ints, u32s, I, B]); all_goals (try simp [sub_q, fresh_q]); all_goals (try exact fun i hi => by rcases i with _ | _ | _ | i <;> first | rfl | omega))
    (repeat' (first | with_reducible refine splitVC_d (fun _ => ?_) (fun _ => ?_) | with_reducible refine splitVC (fun _ => ?_) (fun _ => ?_) | ((with_reducible refine And.intro ?_ ?_); focus (first | exact True.intro | (simp only [InK]; omega) | omega | (simp only [InK, ne_eq, and_true, true_and]; omega) | trivial)) | (simp -dsimp only [↓RP, RQ, implies_true, forall_const, Nat.reduceMul, reduceIte, reduceCtorEq, Nat.reduceAdd, Nat.reduceEqDiff, Nat.reduceLT, Nat.reduceLeDiff, nilV, h20, Int.reduceEq, Int.reduceNeg, RZ, eq_self, eq23, TYq, TYp, TYm, TYn, TYw, TYx, fsv, B, I, by2, TY, Try.results8])))
    refine callVC (c37 M M.m (by omega) (numV a u 1000)) ?_ ?_ ?_; iterate 2 focus ((simp -dsimp only [↓RP, RQ, implies_true, forall_const, Nat.reduceMul, reduceIte, reduceCtorEq, Nat.reduceAdd, Nat.reduceEqDiff, Nat.reduceLT, Nat.reduceLeDiff, Pl.svT, Pl.sv, rngs, Mk.svT, Mk.sv, qts, fsv, Go.Od.ints, u32s, I, B]); all_goals (try simp [sub_q, fresh_q]); all_goals (try exact fun i hi => by rcases i with _ | _ | _ | i <;> first | rfl | omega))
    (repeat' (first | with_reducible refine splitVC_d (fun _ => ?_) (fun _ => ?_) | with_reducible refine splitVC (fun _ => ?_) (fun _ => ?_) | ((with_reducible refine And.intro ?_ ?_); focus (first | exact True.intro | (simp only [InK]; omega) | omega | (simp only [InK, ne_eq, and_true, true_and]; omega) | trivial)) | (simp -dsimp only [↓RP, RQ, implies_true, forall_const, Nat.reduceMul, reduceIte, reduceCtorEq, Nat.reduceAdd, Nat.reduceEqDiff, Nat.reduceLT, Nat.reduceLeDiff, nilV, h20, Int.reduceEq, Int.reduceNeg, RZ, eq_self, eq23, TYq, TYp, TYm, TYn, TYw, TYx, fsv, B, I, by2, TY, Try.results8])))
    refine callVC (c43 M M.run.toNat (by omega) (numV b v 1000)) ?_ ?_ ?_; iterate 2 focus ((simp -dsimp only [↓RP, RQ, implies_true, forall_const, Nat.reduceMul, reduceIte, reduceCtorEq, Nat.reduceAdd, Nat.reduceEqDiff, Nat.reduceLT, Nat.reduceLeDiff, Pl.svT, Pl.sv, rngs, Mk.svT, Mk.sv, qts, fsv, Go.Od.ints, u32s, I, B]); all_goals (try simp [sub_q, fresh_q]); all_goals (try exact fun i hi => by rcases i with _ | _ | _ | i <;> first | rfl | omega))
    (repeat' (first | with_reducible refine splitVC_d (fun _ => ?_) (fun _ => ?_) | with_reducible refine splitVC (fun _ => ?_) (fun _ => ?_) | ((with_reducible refine And.intro ?_ ?_); focus (first | exact True.intro | (simp only [InK]; omega) | omega | (simp only [InK, ne_eq, and_true, true_and]; omega) | trivial)) | (simp -dsimp only [↓RP, RQ, implies_true, forall_const, Nat.reduceMul, reduceIte, reduceCtorEq, Nat.reduceAdd, Nat.reduceEqDiff, Nat.reduceLT, Nat.reduceLeDiff, nilV, h20, Int.reduceEq, Int.reduceNeg, RZ, eq_self, eq23, TYq, TYp, TYm, TYn, TYw, TYx, fsv, B, I, by2, TY, Try.results8])))
    refine callVC h37 ?_ ?_ ?_; iterate 2 focus ((simp -dsimp only [↓RP, RQ, implies_true, forall_const, Nat.reduceMul, reduceIte, reduceCtorEq, Nat.reduceAdd, Nat.reduceEqDiff, Nat.reduceLT, Nat.reduceLeDiff, Pl.svT, Pl.sv, rngs, Mk.svT, Mk.sv, qts, fsv, Go.Od.ints, u32s, I, B]); all_goals (try simp [sub_q, fresh_q]); all_goals (try exact fun i hi => by rcases i with _ | _ | _ | i <;> first | rfl | omega))
    (repeat' (first | with_reducible refine splitVC_d (fun _ => ?_) (fun _ => ?_) | with_reducible refine splitVC (fun _ => ?_) (fun _ => ?_) | ((with_reducible refine And.intro ?_ ?_); focus (first | exact True.intro | (simp only [InK]; omega) | omega | (simp only [InK, ne_eq, and_true, true_and]; omega) | trivial)) | (simp -dsimp only [↓RP, RQ, implies_true, forall_const, Nat.reduceMul, reduceIte, reduceCtorEq, Nat.reduceAdd, Nat.reduceEqDiff, Nat.reduceLT, Nat.reduceLeDiff, nilV, h20, Int.reduceEq, Int.reduceNeg, RZ, eq_self, eq23, TYq, TYp, TYm, TYn, TYw, TYx, fsv, B, I, by2, TY, Try.results8])))
    refine callVC h38 ?_ ?_ ?_; iterate 2 focus ((simp -dsimp only [↓RP, RQ, implies_true, forall_const, Nat.reduceMul, reduceIte, reduceCtorEq, Nat.reduceAdd, Nat.reduceEqDiff, Nat.reduceLT, Nat.reduceLeDiff, Pl.svT, Pl.sv, rngs, Mk.svT, Mk.sv, qts, fsv, Go.Od.ints, u32s, I, B]); all_goals (try simp [sub_q, fresh_q]); all_goals (try exact fun i hi => by rcases i with _ | _ | _ | i <;> first | rfl | omega))
    (repeat' (first | with_reducible refine splitVC_d (fun _ => ?_) (fun _ => ?_) | with_reducible refine splitVC (fun _ => ?_) (fun _ => ?_) | ((with_reducible refine And.intro ?_ ?_); focus (first | exact True.intro | (simp only [InK]; omega) | omega | (simp only [InK, ne_eq, and_true, true_and]; omega) | trivial)) | (simp -dsimp only [↓RP, RQ, implies_true, forall_const, Nat.reduceMul, reduceIte, reduceCtorEq, Nat.reduceAdd, Nat.reduceEqDiff, Nat.reduceLT, Nat.reduceLeDiff, nilV, h20, Int.reduceEq, Int.reduceNeg, RZ, eq_self, eq23, TYq, TYp, TYm, TYn, TYw, TYx, fsv, B, I, by2, TY, Try.results8])))
    refine loop_vc (fun r => r ≤ M.run.toNat) (fun r => ⟨[(3, .ptr 0 0), (6, .val (.bool false)), (7, .arr true false M.m 1 (fun i _ => .val (.int .i64 (stR M.q l (aL M.q l l.length) l.length i)))), (15, .val (.int .i64 (r : Nat)))], [(0, .cells 44 [.val (.int .i64 M.run), .arr false false M.m 4 (fun i j => qf (M.q i) j)])], 1⟩) (fun r => M.run.toNat - r) 0 (Nat.zero_le _) (weak [] [] ?_ ?_ ?_) fun r hr => ?_
    · (simp -dsimp only [↓RP, RQ, implies_true, forall_const, Nat.reduceMul, reduceIte, reduceCtorEq, Nat.reduceAdd, Nat.reduceEqDiff, Nat.reduceLT, Nat.reduceLeDiff]); all_goals (try simp [wk_q])
    · (simp -dsimp only [↓RP, RQ, implies_true, forall_const, Nat.reduceMul, reduceIte, reduceCtorEq, Nat.reduceAdd, Nat.reduceEqDiff, Nat.reduceLT, Nat.reduceLeDiff]); all_goals (try simp [wk_q])
    · (simp -dsimp only [↓RP, RQ, implies_true, forall_const, Nat.reduceMul, reduceIte, reduceCtorEq, Nat.reduceAdd, Nat.reduceEqDiff, Nat.reduceLT, Nat.reduceLeDiff]); all_goals (try simp [wk_q])
    have hstk := (ckS_win (sure_ck he hs)).2.2.1
    by_cases hlt : r < M.run.toNat
    · have hp := sure_pos hf hs hlt
      have h33 := c33 M M.m (by omega) (fun i => stR M.q l (aL M.q l l.length) l.length i) r
      rw [Mk.net_0 (by unfold Mk.stk; rw [if_pos he, if_pos rfl, if_pos hstk]) (by omega)] at h33
      have ⟨r1, r2⟩ := red_pos hp
      generalize red ⟨netT M.q (fun i => stR M.q l (aL M.q l l.length) l.length i) r M.m, 2520⟩ = x at *
      (repeat' (first | with_reducible refine splitVC_d (fun _ => ?_) (fun _ => ?_) | with_reducible refine splitVC (fun _ => ?_) (fun _ => ?_) | ((with_reducible refine And.intro ?_ ?_); focus (first | exact True.intro | (simp only [InK]; omega) | omega | (simp only [InK, ne_eq, and_true, true_and]; omega) | trivial)) | (simp -dsimp only [↓RP, RQ, implies_true, forall_const, Nat.reduceMul, reduceIte, reduceCtorEq, Nat.reduceAdd, Nat.reduceEqDiff, Nat.reduceLT, Nat.reduceLeDiff, Int.reduceEq, Int.reduceNeg, RZ, eq_self, eq23, TYq, TYp, TYm, TYn, TYw, TYx, fsv, B, I, by2, TY, Try.results8])))
      refine callVC h33 ?_ ?_ ?_; iterate 2 focus ((simp -dsimp only [↓RP, RQ, implies_true, forall_const, Nat.reduceMul, reduceIte, reduceCtorEq, Nat.reduceAdd, Nat.reduceEqDiff, Nat.reduceLT, Nat.reduceLeDiff, Pl.svT, Pl.sv, rngs, Mk.svT, Mk.sv, qts, fsv, Go.Od.ints, u32s, I, B]); all_goals (try simp [sub_q, fresh_q]); all_goals (try exact fun i hi => by rcases i with _ | _ | _ | i <;> first | rfl | omega))
      (repeat' (first | with_reducible refine splitVC_d (fun _ => ?_) (fun _ => ?_) | with_reducible refine splitVC (fun _ => ?_) (fun _ => ?_) | ((with_reducible refine And.intro ?_ ?_); focus (first | exact True.intro | (simp only [InK]; omega) | omega | (simp only [InK, ne_eq, and_true, true_and]; omega) | trivial)) | (simp -dsimp only [↓RP, RQ, implies_true, forall_const, Nat.reduceMul, reduceIte, reduceCtorEq, Nat.reduceAdd, Nat.reduceEqDiff, Nat.reduceLT, Nat.reduceLeDiff, Int.reduceEq, Int.reduceNeg, RZ, eq_self, eq23, TYq, TYp, TYm, TYn, TYw, TYx, fsv, B, I, by2, TY, Try.results8])))
      all_goals first | (exfalso; omega) | skip
      refine ⟨r + 1, by omega, by omega, weak [] [] ?_ ?_ ?_⟩
      all_goals ((simp -dsimp only [↓RP, RQ, implies_true, forall_const, Nat.reduceMul, reduceIte, reduceCtorEq, Nat.reduceAdd, Nat.reduceEqDiff, Nat.reduceLT, Nat.reduceLeDiff]); all_goals (try simp [wk_q]))
    · obtain rfl : r = M.run.toNat := by omega
      (repeat' (first | with_reducible refine splitVC_d (fun _ => ?_) (fun _ => ?_) | with_reducible refine splitVC (fun _ => ?_) (fun _ => ?_) | ((with_reducible refine And.intro ?_ ?_); focus (first | exact True.intro | (simp only [InK]; omega) | omega | (simp only [InK, ne_eq, and_true, true_and]; omega) | trivial)) | (simp -dsimp only [↓RP, RQ, implies_true, forall_const, Nat.reduceMul, reduceIte, reduceCtorEq, Nat.reduceAdd, Nat.reduceEqDiff, Nat.reduceLT, Nat.reduceLeDiff, Int.reduceEq, Int.reduceNeg, RZ, eq_self, eq23, TYq, TYp, TYm, TYn, TYw, TYx, fsv, B, I, by2, TY, Try.results8])))
      all_goals first | (exfalso; omega) | skip
      refine callVC c22 ?_ ?_ ?_; iterate 2 focus ((simp -dsimp only [↓RP, RQ, implies_true, forall_const, Nat.reduceMul, reduceIte, reduceCtorEq, Nat.reduceAdd, Nat.reduceEqDiff, Nat.reduceLT, Nat.reduceLeDiff, Pl.svT, Pl.sv, rngs, Mk.svT, Mk.sv, qts, fsv, Go.Od.ints, u32s, I, B]); all_goals (try simp [sub_q, fresh_q]); all_goals (try exact fun i hi => by rcases i with _ | _ | _ | i <;> first | rfl | omega))
      (repeat' (first | with_reducible refine splitVC_d (fun _ => ?_) (fun _ => ?_) | with_reducible refine splitVC (fun _ => ?_) (fun _ => ?_) | ((with_reducible refine And.intro ?_ ?_); focus (first | exact True.intro | (simp only [InK]; omega) | omega | (simp only [InK, ne_eq, and_true, true_and]; omega) | trivial)) | (simp -dsimp only [↓RP, RQ, implies_true, forall_const, Nat.reduceMul, reduceIte, reduceCtorEq, Nat.reduceAdd, Nat.reduceEqDiff, Nat.reduceLT, Nat.reduceLeDiff, Int.reduceEq, Int.reduceNeg, RZ, eq_self, eq23, TYq, TYp, TYm, TYn, TYw, TYx, fsv, B, I, by2, TY, Try.results8])))
      all_goals trace_state
  | none =>
    have hfB := sure_none.1 hs
    have hF := fair_of hf hfB
    obtain ⟨r, hS⟩ := hF.stop
    have h43 := c43 M M.run.toNat (by omega) (chI (ownF M.lo M.hi M.run.toNat r) (aD (ownF M.lo M.hi M.run.toNat r) M.run.toNat))
    have h44 := c44 M M.run.toNat (chI (ownF M.lo M.hi M.run.toNat r) (aD (ownF M.lo M.hi M.run.toNat r) M.run.toNat))
    rw [fair_ok he hF hS] at h43 h44
    have h37 := c37 M M.m (by omega) (numV a u 1000)
    rw [ckS_14 he hs hS hs1] at h37
    refine callVC (c39n M hf hs) ?_ ?_ ?_; iterate 2 focus ((simp -dsimp only [↓RP, RQ, implies_true, forall_const, Nat.reduceMul, reduceIte, reduceCtorEq, Nat.reduceAdd, Nat.reduceEqDiff, Nat.reduceLT, Nat.reduceLeDiff, Pl.svT, Pl.sv, rngs, Mk.svT, Mk.sv, qts, fsv, Go.Od.ints, u32s, I, B]); all_goals (try simp [sub_q, fresh_q]); all_goals (try exact fun i hi => by rcases i with _ | _ | _ | i <;> first | rfl | omega))
    (repeat' (first | with_reducible refine splitVC_d (fun _ => ?_) (fun _ => ?_) | with_reducible refine splitVC (fun _ => ?_) (fun _ => ?_) | ((with_reducible refine And.intro ?_ ?_); focus (first | exact True.intro | (simp only [InK]; omega) | omega | (simp only [InK, ne_eq, and_true, true_and]; omega) | trivial)) | (simp -dsimp only [↓RP, RQ, implies_true, forall_const, Nat.reduceMul, reduceIte, reduceCtorEq, Nat.reduceAdd, Nat.reduceEqDiff, Nat.reduceLT, Nat.reduceLeDiff, nilV, Int.reduceEq, Int.reduceNeg, RZ, eq_self, eq23, TYq, TYp, TYm, TYn, TYw, TYx, fsv, B, I, by2, TY, Try.results8])))
    refine callVC (c40s M hf hs r hS) ?_ ?_ ?_; iterate 2 focus ((simp -dsimp only [↓RP, RQ, implies_true, forall_const, Nat.reduceMul, reduceIte, reduceCtorEq, Nat.reduceAdd, Nat.reduceEqDiff, Nat.reduceLT, Nat.reduceLeDiff, Pl.svT, Pl.sv, rngs, Mk.svT, Mk.sv, qts, fsv, Go.Od.ints, u32s, I, B]); all_goals (try simp [sub_q, fresh_q]); all_goals (try exact fun i hi => by rcases i with _ | _ | _ | i <;> first | rfl | omega))
    (repeat' (first | with_reducible refine splitVC_d (fun _ => ?_) (fun _ => ?_) | with_reducible refine splitVC (fun _ => ?_) (fun _ => ?_) | ((with_reducible refine And.intro ?_ ?_); focus (first | exact True.intro | (simp only [InK]; omega) | omega | (simp only [InK, ne_eq, and_true, true_and]; omega) | trivial)) | (simp -dsimp only [↓RP, RQ, implies_true, forall_const, Nat.reduceMul, reduceIte, reduceCtorEq, Nat.reduceAdd, Nat.reduceEqDiff, Nat.reduceLT, Nat.reduceLeDiff, nilV, Int.reduceEq, Int.reduceNeg, RZ, eq_self, eq23, TYq, TYp, TYm, TYn, TYw, TYx, fsv, B, I, by2, TY, Try.results8])))
    refine callVC n1 ?_ ?_ ?_; iterate 2 focus ((simp -dsimp only [↓RP, RQ, implies_true, forall_const, Nat.reduceMul, reduceIte, reduceCtorEq, Nat.reduceAdd, Nat.reduceEqDiff, Nat.reduceLT, Nat.reduceLeDiff, Pl.svT, Pl.sv, rngs, Mk.svT, Mk.sv, qts, fsv, Go.Od.ints, u32s, I, B]); all_goals (try simp [sub_q, fresh_q]); all_goals (try exact fun i hi => by rcases i with _ | _ | _ | i <;> first | rfl | omega))
    (repeat' (first | with_reducible refine splitVC_d (fun _ => ?_) (fun _ => ?_) | with_reducible refine splitVC (fun _ => ?_) (fun _ => ?_) | ((with_reducible refine And.intro ?_ ?_); focus (first | exact True.intro | (simp only [InK]; omega) | omega | (simp only [InK, ne_eq, and_true, true_and]; omega) | trivial)) | (simp -dsimp only [↓RP, RQ, implies_true, forall_const, Nat.reduceMul, reduceIte, reduceCtorEq, Nat.reduceAdd, Nat.reduceEqDiff, Nat.reduceLT, Nat.reduceLeDiff, nilV, Int.reduceEq, Int.reduceNeg, RZ, eq_self, eq23, TYq, TYp, TYm, TYn, TYw, TYx, fsv, B, I, by2, TY, Try.results8])))
    refine callVC n2 ?_ ?_ ?_; iterate 2 focus ((simp -dsimp only [↓RP, RQ, implies_true, forall_const, Nat.reduceMul, reduceIte, reduceCtorEq, Nat.reduceAdd, Nat.reduceEqDiff, Nat.reduceLT, Nat.reduceLeDiff, Pl.svT, Pl.sv, rngs, Mk.svT, Mk.sv, qts, fsv, Go.Od.ints, u32s, I, B]); all_goals (try simp [sub_q, fresh_q]); all_goals (try exact fun i hi => by rcases i with _ | _ | _ | i <;> first | rfl | omega))
    (repeat' (first | with_reducible refine splitVC_d (fun _ => ?_) (fun _ => ?_) | with_reducible refine splitVC (fun _ => ?_) (fun _ => ?_) | ((with_reducible refine And.intro ?_ ?_); focus (first | exact True.intro | (simp only [InK]; omega) | omega | (simp only [InK, ne_eq, and_true, true_and]; omega) | trivial)) | (simp -dsimp only [↓RP, RQ, implies_true, forall_const, Nat.reduceMul, reduceIte, reduceCtorEq, Nat.reduceAdd, Nat.reduceEqDiff, Nat.reduceLT, Nat.reduceLeDiff, nilV, Int.reduceEq, Int.reduceNeg, RZ, eq_self, eq23, TYq, TYp, TYm, TYn, TYw, TYx, fsv, B, I, by2, TY, Try.results8])))
    refine callVC h37 ?_ ?_ ?_; iterate 2 focus ((simp -dsimp only [↓RP, RQ, implies_true, forall_const, Nat.reduceMul, reduceIte, reduceCtorEq, Nat.reduceAdd, Nat.reduceEqDiff, Nat.reduceLT, Nat.reduceLeDiff, Pl.svT, Pl.sv, rngs, Mk.svT, Mk.sv, qts, fsv, Go.Od.ints, u32s, I, B]); all_goals (try simp [sub_q, fresh_q]); all_goals (try exact fun i hi => by rcases i with _ | _ | _ | i <;> first | rfl | omega))
    (repeat' (first | with_reducible refine splitVC_d (fun _ => ?_) (fun _ => ?_) | with_reducible refine splitVC (fun _ => ?_) (fun _ => ?_) | ((with_reducible refine And.intro ?_ ?_); focus (first | exact True.intro | (simp only [InK]; omega) | omega | (simp only [InK, ne_eq, and_true, true_and]; omega) | trivial)) | (simp -dsimp only [↓RP, RQ, implies_true, forall_const, Nat.reduceMul, reduceIte, reduceCtorEq, Nat.reduceAdd, Nat.reduceEqDiff, Nat.reduceLT, Nat.reduceLeDiff, nilV, Int.reduceEq, Int.reduceNeg, RZ, eq_self, eq23, TYq, TYp, TYm, TYn, TYw, TYx, fsv, B, I, by2, TY, Try.results8])))
    refine callVC (c43 M M.run.toNat (by omega) (numV b v 1000)) ?_ ?_ ?_; iterate 2 focus ((simp -dsimp only [↓RP, RQ, implies_true, forall_const, Nat.reduceMul, reduceIte, reduceCtorEq, Nat.reduceAdd, Nat.reduceEqDiff, Nat.reduceLT, Nat.reduceLeDiff, Pl.svT, Pl.sv, rngs, Mk.svT, Mk.sv, qts, fsv, Go.Od.ints, u32s, I, B]); all_goals (try simp [sub_q, fresh_q]); all_goals (try exact fun i hi => by rcases i with _ | _ | _ | i <;> first | rfl | omega))
    (repeat' (first | with_reducible refine splitVC_d (fun _ => ?_) (fun _ => ?_) | with_reducible refine splitVC (fun _ => ?_) (fun _ => ?_) | ((with_reducible refine And.intro ?_ ?_); focus (first | exact True.intro | (simp only [InK]; omega) | omega | (simp only [InK, ne_eq, and_true, true_and]; omega) | trivial)) | (simp -dsimp only [↓RP, RQ, implies_true, forall_const, Nat.reduceMul, reduceIte, reduceCtorEq, Nat.reduceAdd, Nat.reduceEqDiff, Nat.reduceLT, Nat.reduceLeDiff, nilV, Int.reduceEq, Int.reduceNeg, RZ, eq_self, eq23, TYq, TYp, TYm, TYn, TYw, TYx, fsv, B, I, by2, TY, Try.results8])))
    refine callVC h43 ?_ ?_ ?_; iterate 2 focus ((simp -dsimp only [↓RP, RQ, implies_true, forall_const, Nat.reduceMul, reduceIte, reduceCtorEq, Nat.reduceAdd, Nat.reduceEqDiff, Nat.reduceLT, Nat.reduceLeDiff, Pl.svT, Pl.sv, rngs, Mk.svT, Mk.sv, qts, fsv, Go.Od.ints, u32s, I, B]); all_goals (try simp [sub_q, fresh_q]); all_goals (try exact fun i hi => by rcases i with _ | _ | _ | i <;> first | rfl | omega))
    (repeat' (first | with_reducible refine splitVC_d (fun _ => ?_) (fun _ => ?_) | with_reducible refine splitVC (fun _ => ?_) (fun _ => ?_) | ((with_reducible refine And.intro ?_ ?_); focus (first | exact True.intro | (simp only [InK]; omega) | omega | (simp only [InK, ne_eq, and_true, true_and]; omega) | trivial)) | (simp -dsimp only [↓RP, RQ, implies_true, forall_const, Nat.reduceMul, reduceIte, reduceCtorEq, Nat.reduceAdd, Nat.reduceEqDiff, Nat.reduceLT, Nat.reduceLeDiff, nilV, Int.reduceEq, Int.reduceNeg, RZ, eq_self, eq23, TYq, TYp, TYm, TYn, TYw, TYx, fsv, B, I, by2, TY, Try.results8])))
    refine callVC h44 ?_ ?_ ?_; iterate 2 focus ((simp -dsimp only [↓RP, RQ, implies_true, forall_const, Nat.reduceMul, reduceIte, reduceCtorEq, Nat.reduceAdd, Nat.reduceEqDiff, Nat.reduceLT, Nat.reduceLeDiff, Pl.svT, Pl.sv, rngs, Mk.svT, Mk.sv, qts, fsv, Go.Od.ints, u32s, I, B]); all_goals (try simp [sub_q, fresh_q]); all_goals (try exact fun i hi => by rcases i with _ | _ | _ | i <;> first | rfl | omega))
    (repeat' (first | with_reducible refine splitVC_d (fun _ => ?_) (fun _ => ?_) | with_reducible refine splitVC (fun _ => ?_) (fun _ => ?_) | ((with_reducible refine And.intro ?_ ?_); focus (first | exact True.intro | (simp only [InK]; omega) | omega | (simp only [InK, ne_eq, and_true, true_and]; omega) | trivial)) | (simp -dsimp only [↓RP, RQ, implies_true, forall_const, Nat.reduceMul, reduceIte, reduceCtorEq, Nat.reduceAdd, Nat.reduceEqDiff, Nat.reduceLT, Nat.reduceLeDiff, nilV, Int.reduceEq, Int.reduceNeg, RZ, eq_self, eq23, TYq, TYp, TYm, TYn, TYw, TYx, fsv, B, I, by2, TY, Try.results8])))
    refine callVC c22 ?_ ?_ ?_; iterate 2 focus ((simp -dsimp only [↓RP, RQ, implies_true, forall_const, Nat.reduceMul, reduceIte, reduceCtorEq, Nat.reduceAdd, Nat.reduceEqDiff, Nat.reduceLT, Nat.reduceLeDiff, Pl.svT, Pl.sv, rngs, Mk.svT, Mk.sv, qts, fsv, Go.Od.ints, u32s, I, B]); all_goals (try simp [sub_q, fresh_q]); all_goals (try exact fun i hi => by rcases i with _ | _ | _ | i <;> first | rfl | omega))
    (repeat' (first | with_reducible refine splitVC_d (fun _ => ?_) (fun _ => ?_) | with_reducible refine splitVC (fun _ => ?_) (fun _ => ?_) | ((with_reducible refine And.intro ?_ ?_); focus (first | exact True.intro | (simp only [InK]; omega) | omega | (simp only [InK, ne_eq, and_true, true_and]; omega) | trivial)) | (simp -dsimp only [↓RP, RQ, implies_true, forall_const, Nat.reduceMul, reduceIte, reduceCtorEq, Nat.reduceAdd, Nat.reduceEqDiff, Nat.reduceLT, Nat.reduceLeDiff, nilV, Int.reduceEq, Int.reduceNeg, RZ, eq_self, eq23, TYq, TYp, TYm, TYn, TYw, TYx, fsv, B, I, by2, TY, Try.results8])))
    all_goals trace_state
end Go.Od
end
