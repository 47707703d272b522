/- A part of the proof. -/
import Derived.Test.YtbomildlhnllhaaOI
import Derived.Test.YtbomildlhnllhaaOJ
import Derived.Test.YtbomildlhnllhaaOK
import Derived.Test.YtbomildlhnllhaaEF
section
set_option linter.unusedSimpArgs false
set_option linter.unusedVariables false
set_option linter.defProp false
set_option maxRecDepth 100000
set_option maxHeartbeats 16000000
namespace Go.Od
open Go.Proofs
open Go.Sx
theorem TYx : True ∧ tyOf Try.prog 54 = some ⟨false, 1, some [.slice none 0 0], .slice 57 1⟩ ∧ tyOf Try.prog 57 = some ⟨false, 1, some [.int .u32 0], .int .u32⟩ := ⟨trivial, by kernel_rfl, by kernel_rfl⟩
def u32s (k : Nat) (u : Nat → Int) : SV := .arr false false k 1 (fun i _ => .val (.int .u32 (u i)))
def numV (k : Nat) (u : Nat → Int) (top : Int) (i : Nat) : Int := if 0 < k then (u (i % k)).tmod (top + 1) else 0
theorem c45 (M : Mk) : Contract Try.prog 45 [M.sv] (B (decide (M.err = 0))) := by
  refine contract_of Try.func45 rfl (by kernel_rfl) follows (by kernel_rfl) _ _ (by rw [Try.ntmps45]; simp) (by simp only [OldL, Mk.old, and_self]) ?_
  unfold B
  conv => arg 4; unfold Mk.sv qts I
  (repeat' (first | with_reducible refine splitVC_d (fun _ => ?_) (fun _ => ?_) | with_reducible refine splitVC (fun _ => ?_) (fun _ => ?_) | ((with_reducible refine And.intro ?_ ?_); focus (first | exact True.intro | (simp only [InK]; omega) | omega | (simp only [InK, ne_eq, and_true, true_and]; omega) | exact ⟨.inr trivial, Nat.le_refl _, one1 _, by omega⟩ | exact ⟨.inr trivial, Nat.le_refl _, one1 _, by omega, by kernel_rfl⟩ | trivial)) | (simp -dsimp only [↓RP, RQ, implies_true, forall_const, Nat.reduceMul, reduceIte, reduceCtorEq, Nat.reduceAdd, Nat.reduceEqDiff, Nat.reduceLT, Nat.reduceLeDiff, Int.reduceEq, Int.reduceNeg, RZ, eq_self, TYx, TYq, TYp, TYm, TYn, TYw, fsv, B, I, by2, TY, Try.results45])))
  refine callVC (c32 M) (by (simp -dsimp only [↓RP, RQ, implies_true, forall_const, Nat.reduceMul, reduceIte, reduceCtorEq, Nat.reduceAdd, Nat.reduceEqDiff, Nat.reduceLT, Nat.reduceLeDiff, Mk.sv, qts, I]); all_goals (try simp [sub_q])) (by (simp -dsimp only [↓RP, RQ, implies_true, forall_const, Nat.reduceMul, reduceIte, reduceCtorEq, Nat.reduceAdd, Nat.reduceEqDiff, Nat.reduceLT, Nat.reduceLeDiff, B])) ?_
  (repeat' (first | with_reducible refine splitVC_d (fun _ => ?_) (fun _ => ?_) | with_reducible refine splitVC (fun _ => ?_) (fun _ => ?_) | ((with_reducible refine And.intro ?_ ?_); focus (first | exact True.intro | (simp only [InK]; omega) | omega | (simp only [InK, ne_eq, and_true, true_and]; omega) | exact ⟨.inr trivial, Nat.le_refl _, one1 _, by omega⟩ | exact ⟨.inr trivial, Nat.le_refl _, one1 _, by omega, by kernel_rfl⟩ | trivial)) | (simp -dsimp only [↓RP, RQ, implies_true, forall_const, Nat.reduceMul, reduceIte, reduceCtorEq, Nat.reduceAdd, Nat.reduceEqDiff, Nat.reduceLT, Nat.reduceLeDiff, Int.reduceEq, Int.reduceNeg, RZ, eq_self, TYx, TYq, TYp, TYm, TYn, TYw, fsv, B, I, by2, TY, Try.results45])))
  · refine B_eq ?_
    symm
    exact decide_eq_false fun h => by have := (Mk.fine h).m12; omega
  refine callVC (c36 M) (by (simp -dsimp only [↓RP, RQ, implies_true, forall_const, Nat.reduceMul, reduceIte, reduceCtorEq, Nat.reduceAdd, Nat.reduceEqDiff, Nat.reduceLT, Nat.reduceLeDiff, Mk.sv, qts, I]); all_goals (try simp [sub_q])) (by (simp -dsimp only [↓RP, RQ, implies_true, forall_const, Nat.reduceMul, reduceIte, reduceCtorEq, Nat.reduceAdd, Nat.reduceEqDiff, Nat.reduceLT, Nat.reduceLeDiff, fsv, I])) ?_
  (repeat' (first | with_reducible refine splitVC_d (fun _ => ?_) (fun _ => ?_) | with_reducible refine splitVC (fun _ => ?_) (fun _ => ?_) | ((with_reducible refine And.intro ?_ ?_); focus (first | exact True.intro | (simp only [InK]; omega) | omega | (simp only [InK, ne_eq, and_true, true_and]; omega) | exact ⟨.inr trivial, Nat.le_refl _, one1 _, by omega⟩ | exact ⟨.inr trivial, Nat.le_refl _, one1 _, by omega, by kernel_rfl⟩ | trivial)) | (simp -dsimp only [↓RP, RQ, implies_true, forall_const, Nat.reduceMul, reduceIte, reduceCtorEq, Nat.reduceAdd, Nat.reduceEqDiff, Nat.reduceLT, Nat.reduceLeDiff, Int.reduceEq, Int.reduceNeg, RZ, eq_self, TYx, TYq, TYp, TYm, TYn, TYw, fsv, B, I, by2, TY, Try.results45])))
def st46 (m k : Nat) (u : Nat → Int) (top : Int) (z : Nat) : St :=
  match z with
  | 0 => ⟨[(0, .val (.int .i64 m)), (1, .arr false false k 1 (fun i _ => .val (.int .u32 (u i)))), (2, .val (.int .i64 top)), (6, .val (.slice none 0 0)), (7, .val (.slice none 0 0)), (8, .val (.int .i64 0))], [], 20⟩
  | i + 1 => ⟨[(0, .val (.int .i64 m)), (1, .arr false false k 1 (fun i _ => .val (.int .u32 (u i)))), (2, .val (.int .i64 top)), (6, .val (.slice none 0 0)), (7, .vec 60 (i + 1) 1), (8, .val (.int .i64 (i + 1 : Nat)))], [(60, .rows 2 1 (i + 1) (fun a _ => .val (.int .i64 (numV k u top a))))], 61⟩
theorem st46_0 (m k : Nat) (u : Nat → Int) (top : Int) : st46 m k u top 0 = ⟨[(0, .val (.int .i64 m)), (1, .arr false false k 1 (fun i _ => .val (.int .u32 (u i)))), (2, .val (.int .i64 top)), (6, .val (.slice none 0 0)), (7, .val (.slice none 0 0)), (8, .val (.int .i64 0))], [], 20⟩ := rfl
theorem st46_s (m k : Nat) (u : Nat → Int) (top : Int) (i : Nat) : st46 m k u top (i + 1) = ⟨[(0, .val (.int .i64 m)), (1, .arr false false k 1 (fun i _ => .val (.int .u32 (u i)))), (2, .val (.int .i64 top)), (6, .val (.slice none 0 0)), (7, .vec 60 (i + 1) 1), (8, .val (.int .i64 (i + 1 : Nat)))], [(60, .rows 2 1 (i + 1) (fun a _ => .val (.int .i64 (numV k u top a))))], 61⟩ := rfl
theorem lst46 (k : Nat) (u : Nat → Int) (top : Int) (i : Nat) : ∀ j, j < i + 1 + 1 → i + 1 ≤ j → [SV.val (Value.int IntKind.i64 (numV k u top (i + 1)))][j - (i + 1)]?.getD SV.top = SV.val (Value.int IntKind.i64 (numV k u top j)) := by
  intro j h1 h2
  obtain rfl : j = i + 1 := by omega
  rw [Nat.sub_self]; rfl
theorem lst46z (i : Nat) : ∀ j, j < i + 1 + 1 → i + 1 ≤ j → [SV.val (Value.int IntKind.i64 0)][j - (i + 1)]?.getD SV.top = SV.val (Value.int IntKind.i64 0) := by
  intro j h1 h2
  obtain rfl : j = i + 1 := by omega
  rw [Nat.sub_self]; rfl
theorem c46 (m k : Nat) (hm2 : m ≤ 1000) (u : Nat → Int) (hu : ∀ i, i < k → 0 ≤ u i ∧ u i < 4294967296) (top : Int) (ht : 0 ≤ top ∧ top ≤ 1000000000) : Contract Try.prog 46 [I m, u32s k u, I top] (.arr true false m 1 (fun i _ => .val (.int .i64 (numV k u top i)))) := by
  refine contract_of Try.func46 rfl (by kernel_rfl) follows (by kernel_rfl) _ _ (by rw [Try.ntmps46]; simp) (by simp [OldL, Old, u32s, I]) ?_
  conv => arg 4; unfold u32s I
  (repeat' (first | with_reducible refine splitVC_d (fun _ => ?_) (fun _ => ?_) | with_reducible refine splitVC (fun _ => ?_) (fun _ => ?_) | ((with_reducible refine And.intro ?_ ?_); focus (first | exact True.intro | (simp only [InK]; omega) | omega | (simp only [InK, ne_eq, and_true, true_and]; omega) | exact ⟨.inr trivial, Nat.le_refl _, one1 _, by omega⟩ | exact ⟨.inr trivial, Nat.le_refl _, one1 _, by omega, by kernel_rfl⟩ | trivial)) | (simp -dsimp only [↓RP, RQ, implies_true, forall_const, Nat.reduceMul, reduceIte, reduceCtorEq, Nat.reduceAdd, Nat.reduceEqDiff, Nat.reduceLT, Nat.reduceLeDiff, Int.reduceEq, Int.reduceNeg, RZ, eq_self, TYx, TYq, TYp, TYm, TYn, TYw, fsv, B, I, by2, TY, Try.results46])))
  refine loop_vc (fun i => i ≤ m) (st46 m k u top) (fun i => m - i) 0 (Nat.zero_le _) (weak [] [] ?_ ?_ ?_) fun i hi => ?_
  · (simp -dsimp only [↓RP, RQ, implies_true, forall_const, Nat.reduceMul, reduceIte, reduceCtorEq, Nat.reduceAdd, Nat.reduceEqDiff, Nat.reduceLT, Nat.reduceLeDiff, st46]); all_goals (try simp [wk_q])
  · (simp -dsimp only [↓RP, RQ, implies_true, forall_const, Nat.reduceMul, reduceIte, reduceCtorEq, Nat.reduceAdd, Nat.reduceEqDiff, Nat.reduceLT, Nat.reduceLeDiff, st46]); all_goals (try simp [wk_q])
  · (simp -dsimp only [↓RP, RQ, implies_true, forall_const, Nat.reduceMul, reduceIte, reduceCtorEq, Nat.reduceAdd, Nat.reduceEqDiff, Nat.reduceLT, Nat.reduceLeDiff, st46]); all_goals (try simp [wk_q])
  by_cases hlt : i < m
  · by_cases hk : 0 < k
    · have hb := hu (i % k) (Nat.mod_lt _ hk)
      have et : ((i : Nat) : Int).tmod (k : Nat) = ((i % k : Nat) : Int) := rfl
      have ev : (u (i % k)).tmod (top + 1) = numV k u top i := by unfold numV; rw [if_pos hk]
      have hlt2 := Nat.mod_lt i hk
      have b1 : InK .i64 (u (i % k)) := by simp only [InK]; omega
      cases i with
      | zero =>
        have et : Int.tmod 0 (k : Nat) = ((0 % k : Nat) : Int) := rfl
        rw [st46_0]
        (repeat' (first | with_reducible refine splitVC_d (fun _ => ?_) (fun _ => ?_) | with_reducible refine splitVC (fun _ => ?_) (fun _ => ?_) | ((with_reducible refine And.intro ?_ ?_); focus (first | exact True.intro | (simp only [InK]; omega) | omega | (simp only [InK, ne_eq, and_true, true_and]; omega) | exact ⟨.inr trivial, Nat.le_refl _, one1 _, by omega⟩ | exact ⟨.inr trivial, Nat.le_refl _, one1 _, by omega, by kernel_rfl⟩ | trivial)) | (simp -dsimp only [↓RP, RQ, implies_true, forall_const, Nat.reduceMul, reduceIte, reduceCtorEq, Nat.reduceAdd, Nat.reduceEqDiff, Nat.reduceLT, Nat.reduceLeDiff, et, ev, Int.reduceEq, Int.reduceNeg, RZ, eq_self, TYx, TYq, TYp, TYm, TYn, TYw, fsv, B, I, by2, TY, Try.results46])))
        all_goals first | (exfalso; omega) | skip
        refine ⟨0 + 1, by omega, by omega, weak [(60, some 42)] [] ?_ ?_ ?_⟩
        all_goals ((simp -dsimp only [↓RP, RQ, implies_true, forall_const, Nat.reduceMul, reduceIte, reduceCtorEq, Nat.reduceAdd, Nat.reduceEqDiff, Nat.reduceLT, Nat.reduceLeDiff, st46]); all_goals (try simp [wk_q]))
      | succ i =>
        rw [st46_s]
        (repeat' (first | with_reducible refine splitVC_d (fun _ => ?_) (fun _ => ?_) | with_reducible refine splitVC (fun _ => ?_) (fun _ => ?_) | ((with_reducible refine And.intro ?_ ?_); focus (first | exact True.intro | (simp only [InK]; omega) | omega | (simp only [InK, ne_eq, and_true, true_and]; omega) | exact ⟨.inr trivial, Nat.le_refl _, one1 _, by omega⟩ | exact ⟨.inr trivial, Nat.le_refl _, one1 _, by omega, by kernel_rfl⟩ | trivial)) | (simp -dsimp only [↓RP, RQ, implies_true, forall_const, Nat.reduceMul, reduceIte, reduceCtorEq, Nat.reduceAdd, Nat.reduceEqDiff, Nat.reduceLT, Nat.reduceLeDiff, et, ev, Int.reduceEq, Int.reduceNeg, RZ, eq_self, TYx, TYq, TYp, TYm, TYn, TYw, fsv, B, I, by2, TY, Try.results46])))
        all_goals first | (exfalso; omega) | skip
        refine ⟨i + 1 + 1, by omega, by omega, weak [(60, some 83)] [] ?_ ?_ ?_⟩
        all_goals ((simp -dsimp only [↓RP, RQ, implies_true, forall_const, Nat.reduceMul, reduceIte, reduceCtorEq, Nat.reduceAdd, Nat.reduceEqDiff, Nat.reduceLT, Nat.reduceLeDiff, st46]); all_goals (try simp [wk_q]))
        all_goals exact lst46 _ _ _ _
    · obtain rfl : k = 0 := by omega
      have ev : ∀ i, numV 0 u top i = 0 := fun i => by unfold numV; rw [if_neg (by omega)]
      cases i with
      | zero =>
        rw [st46_0]
        (repeat' (first | with_reducible refine splitVC_d (fun _ => ?_) (fun _ => ?_) | with_reducible refine splitVC (fun _ => ?_) (fun _ => ?_) | ((with_reducible refine And.intro ?_ ?_); focus (first | exact True.intro | (simp only [InK]; omega) | omega | (simp only [InK, ne_eq, and_true, true_and]; omega) | exact ⟨.inr trivial, Nat.le_refl _, one1 _, by omega⟩ | exact ⟨.inr trivial, Nat.le_refl _, one1 _, by omega, by kernel_rfl⟩ | trivial)) | (simp -dsimp only [↓RP, RQ, implies_true, forall_const, Nat.reduceMul, reduceIte, reduceCtorEq, Nat.reduceAdd, Nat.reduceEqDiff, Nat.reduceLT, Nat.reduceLeDiff, Int.reduceEq, Int.reduceNeg, RZ, eq_self, TYx, TYq, TYp, TYm, TYn, TYw, fsv, B, I, by2, TY, Try.results46])))
        all_goals first | (exfalso; omega) | skip
        refine ⟨0 + 1, by omega, by omega, weak [(60, some 30)] [] ?_ ?_ ?_⟩
        all_goals ((simp -dsimp only [↓RP, RQ, implies_true, forall_const, Nat.reduceMul, reduceIte, reduceCtorEq, Nat.reduceAdd, Nat.reduceEqDiff, Nat.reduceLT, Nat.reduceLeDiff, st46, ev]); all_goals (try simp [wk_q, ev]))
      | succ i =>
        rw [st46_s]
        (repeat' (first | with_reducible refine splitVC_d (fun _ => ?_) (fun _ => ?_) | with_reducible refine splitVC (fun _ => ?_) (fun _ => ?_) | ((with_reducible refine And.intro ?_ ?_); focus (first | exact True.intro | (simp only [InK]; omega) | omega | (simp only [InK, ne_eq, and_true, true_and]; omega) | exact ⟨.inr trivial, Nat.le_refl _, one1 _, by omega⟩ | exact ⟨.inr trivial, Nat.le_refl _, one1 _, by omega, by kernel_rfl⟩ | trivial)) | (simp -dsimp only [↓RP, RQ, implies_true, forall_const, Nat.reduceMul, reduceIte, reduceCtorEq, Nat.reduceAdd, Nat.reduceEqDiff, Nat.reduceLT, Nat.reduceLeDiff, Int.reduceEq, Int.reduceNeg, RZ, eq_self, TYx, TYq, TYp, TYm, TYn, TYw, fsv, B, I, by2, TY, Try.results46])))
        all_goals first | (exfalso; omega) | skip
        refine ⟨i + 1 + 1, by omega, by omega, weak [(60, some 71)] [] ?_ ?_ ?_⟩
        all_goals ((simp -dsimp only [↓RP, RQ, implies_true, forall_const, Nat.reduceMul, reduceIte, reduceCtorEq, Nat.reduceAdd, Nat.reduceEqDiff, Nat.reduceLT, Nat.reduceLeDiff, st46, ev]); all_goals (try simp [wk_q, ev]))
        all_goals exact lst46z _
  · obtain rfl : i = m := by omega
    cases i with
    | zero =>
      rw [st46_0]
      (repeat' (first | with_reducible refine splitVC_d (fun _ => ?_) (fun _ => ?_) | with_reducible refine splitVC (fun _ => ?_) (fun _ => ?_) | ((with_reducible refine And.intro ?_ ?_); focus (first | exact True.intro | (simp only [InK]; omega) | omega | (simp only [InK, ne_eq, and_true, true_and]; omega) | exact ⟨.inr trivial, Nat.le_refl _, one1 _, by omega⟩ | exact ⟨.inr trivial, Nat.le_refl _, one1 _, by omega, by kernel_rfl⟩ | trivial)) | (simp -dsimp only [↓RP, RQ, implies_true, forall_const, Nat.reduceMul, reduceIte, reduceCtorEq, Nat.reduceAdd, Nat.reduceEqDiff, Nat.reduceLT, Nat.reduceLeDiff, Int.reduceEq, Int.reduceNeg, RZ, eq_self, TYx, TYq, TYp, TYm, TYn, TYw, fsv, B, I, by2, TY, Try.results46])))
      all_goals first | (exfalso; omega) | skip
    | succ i =>
      rw [st46_s]
      (repeat' (first | with_reducible refine splitVC_d (fun _ => ?_) (fun _ => ?_) | with_reducible refine splitVC (fun _ => ?_) (fun _ => ?_) | ((with_reducible refine And.intro ?_ ?_); focus (first | exact True.intro | (simp only [InK]; omega) | omega | (simp only [InK, ne_eq, and_true, true_and]; omega) | exact ⟨.inr trivial, Nat.le_refl _, one1 _, by omega⟩ | exact ⟨.inr trivial, Nat.le_refl _, one1 _, by omega, by kernel_rfl⟩ | trivial)) | (simp -dsimp only [↓RP, RQ, implies_true, forall_const, Nat.reduceMul, reduceIte, reduceCtorEq, Nat.reduceAdd, Nat.reduceEqDiff, Nat.reduceLT, Nat.reduceLeDiff, Int.reduceEq, Int.reduceNeg, RZ, eq_self, TYx, TYq, TYp, TYm, TYn, TYw, fsv, B, I, by2, TY, Try.results46])))
      all_goals first | (exfalso; omega) | skip
      exact Nat.le_refl _
end Go.Od
end
section
set_option linter.unusedSimpArgs false
set_option linter.unusedVariables false
set_option linter.defProp false
set_option maxRecDepth 100000
set_option maxHeartbeats 16000000
namespace Go.Od
open Go.Proofs
open Go.Sx
def U8 (n : Int) : SV := .val (.int .u8 n)
end Go.Od
end
section
set_option linter.unusedSimpArgs false
set_option linter.unusedVariables false
set_option linter.defProp false
set_option maxRecDepth 100000
set_option maxHeartbeats 16000000
namespace Go.Od
open Go.Proofs
open Go.Sx
theorem cfB {f : FuncId} {ag : List SV} {p : Prop} [Decidable p] (h : Contract Try.prog f ag (B (decide p))) (hp : ¬ p) : Contract Try.prog f ag (B false) := by rwa [decide_eq_false hp] at h
theorem InK_mul {a b A B : Int} (a0 : -A ≤ a) (a1 : a ≤ A) (A0 : 0 ≤ A) (b0 : 0 ≤ b) (b1 : b ≤ B) (h : A * B ≤ 9000000000000000000) : InK .i64 (a * b) := by
  have ⟨h1, h2⟩ := mul_inn a b A B a0 a1 A0 b0 b1
  simp only [InK]; omega
end Go.Od
end
section
set_option linter.unusedSimpArgs false
set_option linter.unusedVariables false
set_option linter.defProp false
set_option maxRecDepth 100000
set_option maxHeartbeats 16000000
namespace Go.Od
open Go.Proofs
open Go.Sx
theorem TY62 : True ∧ tyOf Try.prog 62 = some ⟨true, 2, some [.int .u32 0, .int .u32 0], .array 2 57 1⟩ ∧ tyOf Try.prog 63 = some ⟨false, 1, some [.int .u16 0], .int .u16⟩ := ⟨trivial, by kernel_rfl, by kernel_rfl⟩
end Go.Od
end
section
set_option linter.unusedSimpArgs false
set_option linter.unusedVariables false
set_option linter.defProp false
set_option maxRecDepth 100000
set_option maxHeartbeats 16000000
namespace Go.Od
open Go.Proofs
open Go.Sx
end Go.Od
end
section
set_option linter.unusedSimpArgs false
set_option linter.unusedVariables false
set_option linter.defProp false
set_option maxRecDepth 100000
set_option maxHeartbeats 16000000
namespace Go.Od
open Go.Proofs
open Go.Sx
theorem by66 : bytesOf Try.prog 66 = 16 := by kernel_rfl
theorem one22 (a b : Int) : ∀ i j, i < 1 → j < 2 → oneCell ([SV.val (.int .i64 a), SV.val (.int .i64 b)].getD (i * 2 + j) SV.top) = true := by
  intro i j h1 h2
  obtain rfl : i = 0 := by omega
  have : j = 0 ∨ j = 1 := by omega
  rcases this with rfl | rfl <;> rfl
end Go.Od
end
section
set_option linter.unusedSimpArgs false
set_option linter.unusedVariables false
set_option linter.defProp false
set_option maxRecDepth 100000
set_option maxHeartbeats 16000000
namespace Go.Od
open Go.Proofs
open Go.Sx
end Go.Od
end
section
set_option linter.unusedSimpArgs false
set_option linter.unusedVariables false
set_option linter.defProp false
set_option maxRecDepth 100000
set_option maxHeartbeats 16000000
namespace Go.Od
open Go.Proofs
open Go.Sx
theorem by74 : bytesOf Try.prog 74 = 32 := by kernel_rfl
theorem one4 (q : Qt) : ∀ (i j : Nat), i < 1 → j < 4 → oneCell ([SV.val (.int .i64 q.r), SV.val (.int .i64 q.n), SV.val (.int .i64 q.d), SV.val (.bool q.l)].getD (i * 4 + j) SV.top) = true := by
  intro i j hi hj
  obtain rfl : i = 0 := by omega
  have : j = 0 ∨ j = 1 ∨ j = 2 ∨ j = 3 := by omega
  rcases this with rfl | rfl | rfl | rfl <;> rfl
end Go.Od
end
section
set_option linter.unusedSimpArgs false
set_option linter.unusedVariables false
set_option linter.defProp false
set_option maxRecDepth 100000
set_option maxHeartbeats 16000000
namespace Go.Od
open Go.Proofs
open Go.Sx
theorem lstA (t : Nat → Int) (i : Nat) : ∀ j, j < i + 1 + 1 → i + 1 ≤ j → [SV.val (Value.int IntKind.i64 (t (i + 1)))][j - (i + 1)]?.getD SV.top = SV.val (Value.int IntKind.i64 (t j)) := by
  intro j h1 h2
  obtain rfl : j = i + 1 := by omega
  rw [Nat.sub_self]; rfl
end Go.Od
end
section
set_option linter.unusedSimpArgs false
set_option linter.unusedVariables false
set_option linter.defProp false
set_option maxRecDepth 100000
set_option maxHeartbeats 16000000
namespace Go.Od
open Go.Proofs
open Go.Sx
def stT (p : Pl) (M : Mk) (kb : Nat) (u : Nat → Int) (t : Int) (kk : Nat) (z : Nat) : St :=
  match z with
  | 0 => ⟨[(2, .arr false false kb 1 (fun i _ => .val (.int .u32 (u i)))), (5, .ptr 0 0), (6, .ptr 1 0), (10, .val (.bool false)), (11, .val (.int .i64 t)), (12, .val (.int .i64 (kk : Nat))), (13, .ptr 60 0), (14, .val (.int .i64 0))], [(60, .cells 36 [.val (.slice none 0 0), .val (.int .i64 p.cut)]), (1, .cells 44 [.val (.int .i64 M.run), .arr false false M.m 4 (fun i j => qf (M.q i) j)]), (0, .cells 36 [.arr false false p.n 2 (fun i j => .val (.int .i64 (if j = 0 then p.lo i else p.hi i))), .val (.int .i64 p.cut)])], 62⟩
  | i + 1 => ⟨[(2, .arr false false kb 1 (fun i _ => .val (.int .u32 (u i)))), (5, .ptr 0 0), (6, .ptr 1 0), (10, .val (.bool false)), (11, .val (.int .i64 t)), (12, .val (.int .i64 (kk : Nat))), (13, .ptr 60 0), (14, .val (.int .i64 (i + 1 : Nat)))], [(61, .rows 66 2 (i + 1) (fun a b => .val (.int .i64 (if b = 0 then t * p.lo a else t * p.hi a)))), (60, .cells 36 [.vec 61 (i + 1) 2, .val (.int .i64 p.cut)]), (1, .cells 44 [.val (.int .i64 M.run), .arr false false M.m 4 (fun i j => qf (M.q i) j)]), (0, .cells 36 [.arr false false p.n 2 (fun i j => .val (.int .i64 (if j = 0 then p.lo i else p.hi i))), .val (.int .i64 p.cut)])], 62⟩
theorem stT_0 (p : Pl) (M : Mk) (kb : Nat) (u : Nat → Int) (t : Int) (kk : Nat) : stT p M kb u t kk 0 = ⟨[(2, .arr false false kb 1 (fun i _ => .val (.int .u32 (u i)))), (5, .ptr 0 0), (6, .ptr 1 0), (10, .val (.bool false)), (11, .val (.int .i64 t)), (12, .val (.int .i64 (kk : Nat))), (13, .ptr 60 0), (14, .val (.int .i64 0))], [(60, .cells 36 [.val (.slice none 0 0), .val (.int .i64 p.cut)]), (1, .cells 44 [.val (.int .i64 M.run), .arr false false M.m 4 (fun i j => qf (M.q i) j)]), (0, .cells 36 [.arr false false p.n 2 (fun i j => .val (.int .i64 (if j = 0 then p.lo i else p.hi i))), .val (.int .i64 p.cut)])], 62⟩ := rfl
theorem stT_s (p : Pl) (M : Mk) (kb : Nat) (u : Nat → Int) (t : Int) (kk : Nat) (i : Nat) : stT p M kb u t kk (i + 1) = ⟨[(2, .arr false false kb 1 (fun i _ => .val (.int .u32 (u i)))), (5, .ptr 0 0), (6, .ptr 1 0), (10, .val (.bool false)), (11, .val (.int .i64 t)), (12, .val (.int .i64 (kk : Nat))), (13, .ptr 60 0), (14, .val (.int .i64 (i + 1 : Nat)))], [(61, .rows 66 2 (i + 1) (fun a b => .val (.int .i64 (if b = 0 then t * p.lo a else t * p.hi a)))), (60, .cells 36 [.vec 61 (i + 1) 2, .val (.int .i64 p.cut)]), (1, .cells 44 [.val (.int .i64 M.run), .arr false false M.m 4 (fun i j => qf (M.q i) j)]), (0, .cells 36 [.arr false false p.n 2 (fun i j => .val (.int .i64 (if j = 0 then p.lo i else p.hi i))), .val (.int .i64 p.cut)])], 62⟩ := rfl
def stU (M : Mk) (t : Int) (s : Nat → Int) (z : Nat) : St :=
  match z with
  | 0 => ⟨[(6, .ptr 1 0), (10, .val (.bool false)), (11, .val (.int .i64 t)), (21, .arr true false M.m 1 (fun i _ => .val (.int .i64 (s i)))), (22, .val (.slice none 0 0)), (23, .ptr 60 0), (24, .val (.int .i64 0))], [(60, .cells 44 [.val (.int .i64 M.run), .val (.slice none 0 0)]), (1, .cells 44 [.val (.int .i64 M.run), .arr false false M.m 4 (fun i j => qf (M.q i) j)])], 64⟩
  | i + 1 => ⟨[(6, .ptr 1 0), (10, .val (.bool false)), (11, .val (.int .i64 t)), (21, .arr true false M.m 1 (fun i _ => .val (.int .i64 (s i)))), (22, .vec 62 (i + 1) 1), (23, .ptr 60 0), (24, .val (.int .i64 (i + 1 : Nat)))], [(63, .rows 74 4 (i + 1) (fun a b => qf (M.q a).turn b)), (62, .rows 2 1 (i + 1) (fun a _ => .val (.int .i64 (t * s a)))), (60, .cells 44 [.val (.int .i64 M.run), .vec 63 (i + 1) 4]), (1, .cells 44 [.val (.int .i64 M.run), .arr false false M.m 4 (fun i j => qf (M.q i) j)])], 64⟩
theorem stU_0 (M : Mk) (t : Int) (s : Nat → Int) : stU M t s 0 = ⟨[(6, .ptr 1 0), (10, .val (.bool false)), (11, .val (.int .i64 t)), (21, .arr true false M.m 1 (fun i _ => .val (.int .i64 (s i)))), (22, .val (.slice none 0 0)), (23, .ptr 60 0), (24, .val (.int .i64 0))], [(60, .cells 44 [.val (.int .i64 M.run), .val (.slice none 0 0)]), (1, .cells 44 [.val (.int .i64 M.run), .arr false false M.m 4 (fun i j => qf (M.q i) j)])], 64⟩ := rfl
theorem stU_s (M : Mk) (t : Int) (s : Nat → Int) (i : Nat) : stU M t s (i + 1) = ⟨[(6, .ptr 1 0), (10, .val (.bool false)), (11, .val (.int .i64 t)), (21, .arr true false M.m 1 (fun i _ => .val (.int .i64 (s i)))), (22, .vec 62 (i + 1) 1), (23, .ptr 60 0), (24, .val (.int .i64 (i + 1 : Nat)))], [(63, .rows 74 4 (i + 1) (fun a b => qf (M.q a).turn b)), (62, .rows 2 1 (i + 1) (fun a _ => .val (.int .i64 (t * s a)))), (60, .cells 44 [.val (.int .i64 M.run), .vec 63 (i + 1) 4]), (1, .cells 44 [.val (.int .i64 M.run), .arr false false M.m 4 (fun i j => qf (M.q i) j)])], 64⟩ := rfl
def stV (M : Mk) (t : Int) (s : Nat → Int) (r : Nat) : St := ⟨[(6, .ptr 1 0), (10, .val (.bool false)), (11, .val (.int .i64 t)), (21, .arr true false M.m 1 (fun i _ => .val (.int .i64 (s i)))), (22, .arr true false M.m 1 (fun i _ => .val (.int .i64 (t * s i)))), (23, .ptr 60 0), (26, .val (.int .i64 (r : Nat)))], [(60, .cells 44 [.val (.int .i64 M.run), .arr true false M.m 4 (fun a b => qf (M.q a).turn b)]), (1, .cells 44 [.val (.int .i64 M.run), .arr false false M.m 4 (fun i j => qf (M.q i) j)])], 64⟩
theorem lstT0 (p : Pl) (t : Int) (n : Nat) : ∀ i j : Nat, i = 0 → j < 2 → [SV.val (Value.int IntKind.i64 (t * p.lo 0)), SV.val (Value.int IntKind.i64 (t * p.hi 0))][i * 2 + j]?.getD SV.top = SV.val (Value.int IntKind.i64 (if j = 0 then t * p.lo i else t * p.hi i)) := by
  rintro i j rfl hj
  have : j = 0 ∨ j = 1 := by omega
  rcases this with rfl | rfl <;> rfl
theorem lstT (p : Pl) (t : Int) (n i : Nat) : ∀ a j : Nat, a < i + 1 + 1 → j < 2 → i + 1 ≤ a → [SV.val (Value.int IntKind.i64 (t * p.lo (i + 1))), SV.val (Value.int IntKind.i64 (t * p.hi (i + 1)))][(a - (i + 1)) * 2 + j]?.getD SV.top = SV.val (Value.int IntKind.i64 (if j = 0 then t * p.lo a else t * p.hi a)) := by
  intro a j h1 hj h2
  obtain rfl : a = i + 1 := by omega
  rw [Nat.sub_self, Nat.zero_mul, Nat.zero_add]
  have : j = 0 ∨ j = 1 := by omega
  rcases this with rfl | rfl <;> rfl
theorem red_tn {t x A : Int} (ht : 1 ≤ t) (h : -A ≤ t * x ∧ t * x ≤ A) : -A ≤ t * (red ⟨x, 2520⟩).n ∧ t * (red ⟨x, 2520⟩).n ≤ A := by
  have ⟨s1, s2, s3, s4⟩ := red_spec (a := ⟨x, 2520⟩) (by show (0 : Int) < 2520; omega)
  have s4 : (red ⟨x, 2520⟩).d ≤ 2520 := s4
  have s3 : (red ⟨x, 2520⟩).n * 2520 = x * (red ⟨x, 2520⟩).d := s3
  generalize (red ⟨x, 2520⟩).n = n at *
  generalize (red ⟨x, 2520⟩).d = d at *
  have e : t * n * 2520 = t * x * d := by
    have : t * n * 2520 = t * (n * 2520) := by grind
    rw [this, s3]; grind
  generalize t * n = y at *
  generalize t * x = z at *
  constructor
  · refine Int.not_lt.1 fun hc => ?_
    have e1 : -A * d ≤ z * d := Int.mul_le_mul_of_nonneg_right h.1 (by omega)
    have e2 : A * d ≤ A * 2520 := Int.mul_le_mul_of_nonneg_left s4 (by omega)
    have e3 : -A * d = -(A * d) := by grind
    omega
  · refine Int.not_lt.1 fun hc => ?_
    have e1 : z * d ≤ A * d := Int.mul_le_mul_of_nonneg_right h.2 (by omega)
    have e2 : A * d ≤ A * 2520 := Int.mul_le_mul_of_nonneg_left s4 (by omega)
    omega
theorem lstG (hp : List (Nat × Blk)) (rn : Nat → Option Nat) (n : Nat) (sl : Nat → Bool) (f : Nat → Qt) (x : Nat) : ∀ a b, a < x + 1 + 1 → b < 4 → Wk hp rn n sl (qf (f a) b) (if a < x + 1 then qf (f a) b else [SV.val (.int .i64 (f (x + 1)).r), SV.val (.int .i64 (f (x + 1)).n), SV.val (.int .i64 (f (x + 1)).d), SV.val (.bool (f (x + 1)).l)][(a - (x + 1)) * 4 + b]?.getD SV.top) := by
  intro a b h1 h2
  by_cases e : a < x + 1
  · rw [if_pos e]; exact wk_q _ _ _ _ _ _
  · rw [if_neg e]
    obtain rfl : a = x + 1 := by omega
    rw [Nat.sub_self, Nat.zero_mul, Nat.zero_add]
    have : b = 0 ∨ b = 1 ∨ b = 2 ∨ b = 3 := by omega
    rcases this with rfl | rfl | rfl | rfl <;> exact wk_q hp rn n sl (f (x + 1)) _
theorem lstG0 (hp : List (Nat × Blk)) (rn : Nat → Option Nat) (n : Nat) (sl : Nat → Bool) (f : Nat → Qt) : ∀ a b, a = 0 → b < 4 → Wk hp rn n sl (qf (f a) b) ([SV.val (.int .i64 (f 0).r), SV.val (.int .i64 (f 0).n), SV.val (.int .i64 (f 0).d), SV.val (.bool (f 0).l)][a * 4 + b]?.getD SV.top) := by
  rintro a b rfl h2
  have : b = 0 ∨ b = 1 ∨ b = 2 ∨ b = 3 := by omega
  rcases this with rfl | rfl | rfl | rfl <;> exact wk_q hp rn n sl (f 0) _
theorem numV_bd2 (k : Nat) (u : Nat → Int) (hu : ∀ i, i < k → 0 ≤ u i ∧ u i < 4294967296) (top : Int) (ht : 0 ≤ top) (i : Nat) : 0 ≤ numV k u top i ∧ numV k u top i ≤ top := by
  unfold numV
  split
  · rename_i hk
    have := hu (i % k) (Nat.mod_lt _ hk)
    have h1 := Int.tmod_nonneg (top + 1) this.1
    have h2 := Int.tmod_lt_of_pos (u (i % k)) (show 0 < top + 1 by omega)
    omega
  · omega
theorem Pl.times_lo {p : Pl} (hf : p.Fine) {t : Int} (h1 : 1 ≤ t) (h2 : t ≤ 9) {i : Nat} (hi : i < p.n) : InK .i64 (t * p.lo i) ∧ InK .i64 (t * p.hi i) := by
  have ⟨a, b, c⟩ := hf.rg i hi
  exact ⟨InK_mul (A := 9) (B := 1000000) (by omega) (by omega) (by omega) (by omega) (by omega) (by omega), InK_mul (A := 9) (B := 1000000) (by omega) (by omega) (by omega) (by omega) (by omega) (by omega)⟩
theorem c14 (p : Pl) (M : Mk) (kb : Nat) (u : Nat → Int) (hu : ∀ i, i < kb → 0 ≤ u i ∧ u i < 4294967296) (runner times : Int) (h0 : 0 ≤ runner ∧ runner < 256) (h1 : 0 ≤ times ∧ times < 256) : Contract Try.prog 14 [p.sv, M.sv, u32s kb u, U8 runner, U8 times] (B true) := by
  refine contract_of Try.func14 rfl (by kernel_rfl) follows (by kernel_rfl) _ _ (by rw [Try.ntmps14]; simp) (by simp only [OldL, Pl.old, Mk.old, and_self, true_and, and_true]; simp [Old, OldL, u32s, U8, I]) ?_
  unfold B
  conv => arg 4; unfold Pl.sv rngs Mk.sv qts u32s U8 I
  by_cases he : p.err = 0
  rotate_left
  · have er := he
    have es := he
    (repeat' (first | with_reducible refine splitVC_d (fun _ => ?_) (fun _ => ?_) | with_reducible refine splitVC (fun _ => ?_) (fun _ => ?_) | ((with_reducible refine And.intro ?_ ?_); focus (first | exact True.intro | (simp only [InK]; omega) | omega | (simp only [InK, ne_eq, and_true, true_and]; omega) | trivial)) | (simp -dsimp only [↓RP, RQ, implies_true, forall_const, Nat.reduceMul, reduceIte, reduceCtorEq, Nat.reduceAdd, Nat.reduceEqDiff, Nat.reduceLT, Nat.reduceLeDiff, Int.reduceEq, Int.reduceNeg, RZ, eq_self, eq23, TYq, TYp, TYm, TYn, TYw, TYx, TY62, by66, by74, QF, er, es, fsv, B, I, by2, TY, Try.results14])))
    refine callVC (c25 p) ?_ ?_ ?_; iterate 2 focus ((simp -dsimp only [↓RP, RQ, implies_true, forall_const, Nat.reduceMul, reduceIte, reduceCtorEq, Nat.reduceAdd, Nat.reduceEqDiff, Nat.reduceLT, Nat.reduceLeDiff, Pl.times, Mk.turn, Pl.sv, rngs, Mk.sv, qts, qsv, fsv, Go.Od.ints, u32s, I, B]); all_goals (try simp [sub_q]); all_goals (try omega))
    (repeat' (first | with_reducible refine splitVC_d (fun _ => ?_) (fun _ => ?_) | with_reducible refine splitVC (fun _ => ?_) (fun _ => ?_) | ((with_reducible refine And.intro ?_ ?_); focus (first | exact True.intro | (simp only [InK]; omega) | omega | (simp only [InK, ne_eq, and_true, true_and]; omega) | trivial)) | (simp -dsimp only [↓RP, RQ, implies_true, forall_const, Nat.reduceMul, reduceIte, reduceCtorEq, Nat.reduceAdd, Nat.reduceEqDiff, Nat.reduceLT, Nat.reduceLeDiff, Int.reduceEq, Int.reduceNeg, RZ, eq_self, eq23, TYq, TYp, TYm, TYn, TYw, TYx, TY62, by66, by74, QF, er, es, fsv, B, I, by2, TY, Try.results14])))
    all_goals first | (refine callVC c22 ?_ ?_ ?_; (iterate 2 focus ((simp -dsimp only [↓RP, RQ, implies_true, forall_const, Nat.reduceMul, reduceIte, reduceCtorEq, Nat.reduceAdd, Nat.reduceEqDiff, Nat.reduceLT, Nat.reduceLeDiff, Pl.times, Mk.turn, Pl.sv, rngs, Mk.sv, qts, qsv, fsv, Go.Od.ints, u32s, I, B]); all_goals (try simp [sub_q]); all_goals (try omega))); (repeat' (first | with_reducible refine splitVC_d (fun _ => ?_) (fun _ => ?_) | with_reducible refine splitVC (fun _ => ?_) (fun _ => ?_) | ((with_reducible refine And.intro ?_ ?_); focus (first | exact True.intro | (simp only [InK]; omega) | omega | (simp only [InK, ne_eq, and_true, true_and]; omega) | trivial)) | (simp -dsimp only [↓RP, RQ, implies_true, forall_const, Nat.reduceMul, reduceIte, reduceCtorEq, Nat.reduceAdd, Nat.reduceEqDiff, Nat.reduceLT, Nat.reduceLeDiff, Int.reduceEq, Int.reduceNeg, RZ, eq_self, eq23, TYq, TYp, TYm, TYn, TYw, TYx, TY62, by66, by74, QF, er, es, fsv, B, I, by2, TY, Try.results14]))); done) | skip
    refine callVC (c31 p) ?_ ?_ ?_; iterate 2 focus ((simp -dsimp only [↓RP, RQ, implies_true, forall_const, Nat.reduceMul, reduceIte, reduceCtorEq, Nat.reduceAdd, Nat.reduceEqDiff, Nat.reduceLT, Nat.reduceLeDiff, Pl.times, Mk.turn, Pl.sv, rngs, Mk.sv, qts, qsv, fsv, Go.Od.ints, u32s, I, B]); all_goals (try simp [sub_q]); all_goals (try omega))
    (repeat' (first | with_reducible refine splitVC_d (fun _ => ?_) (fun _ => ?_) | with_reducible refine splitVC (fun _ => ?_) (fun _ => ?_) | ((with_reducible refine And.intro ?_ ?_); focus (first | exact True.intro | (simp only [InK]; omega) | omega | (simp only [InK, ne_eq, and_true, true_and]; omega) | trivial)) | (simp -dsimp only [↓RP, RQ, implies_true, forall_const, Nat.reduceMul, reduceIte, reduceCtorEq, Nat.reduceAdd, Nat.reduceEqDiff, Nat.reduceLT, Nat.reduceLeDiff, he, Int.reduceEq, Int.reduceNeg, RZ, eq_self, eq23, TYq, TYp, TYm, TYn, TYw, TYx, TY62, by66, by74, QF, er, es, fsv, B, I, by2, TY, Try.results14])))
    all_goals (refine callVC c22 ?_ ?_ ?_; (iterate 2 focus ((simp -dsimp only [↓RP, RQ, implies_true, forall_const, Nat.reduceMul, reduceIte, reduceCtorEq, Nat.reduceAdd, Nat.reduceEqDiff, Nat.reduceLT, Nat.reduceLeDiff, Pl.times, Mk.turn, Pl.sv, rngs, Mk.sv, qts, qsv, fsv, Go.Od.ints, u32s, I, B]); all_goals (try simp [sub_q]); all_goals (try omega))); (repeat' (first | with_reducible refine splitVC_d (fun _ => ?_) (fun _ => ?_) | with_reducible refine splitVC (fun _ => ?_) (fun _ => ?_) | ((with_reducible refine And.intro ?_ ?_); focus (first | exact True.intro | (simp only [InK]; omega) | omega | (simp only [InK, ne_eq, and_true, true_and]; omega) | trivial)) | (simp -dsimp only [↓RP, RQ, implies_true, forall_const, Nat.reduceMul, reduceIte, reduceCtorEq, Nat.reduceAdd, Nat.reduceEqDiff, Nat.reduceLT, Nat.reduceLeDiff, Int.reduceEq, Int.reduceNeg, RZ, eq_self, eq23, TYq, TYp, TYm, TYn, TYw, TYx, TY62, by66, by74, QF, er, es, fsv, B, I, by2, TY, Try.results14]))))
  have hf := Pl.fine he
  have hn1 := hf.n1
  have hn8 := hf.n8
  obtain ⟨kk, er, hk⟩ : ∃ k : Nat, runner.tmod (p.n : Nat) = k ∧ k < p.n := by
    have a := Int.tmod_nonneg (p.n : Nat) h0.1
    have b := Int.tmod_lt_of_pos runner (show (0 : Int) < (p.n : Nat) by omega)
    exact ⟨(runner.tmod (p.n : Nat)).toNat, by omega, by omega⟩
  have ⟨n0, n1⟩ : 0 ≤ times.tmod 9 ∧ times.tmod 9 < 9 := ⟨Int.tmod_nonneg _ h1.1, Int.tmod_lt_of_pos _ (by omega)⟩
  obtain ⟨t, es⟩ : ∃ x, 1 + times.tmod 9 = x := ⟨_, rfl⟩
  have t1 : 1 ≤ t := by omega
  have t9 : t ≤ 9 := by omega
  have c31 := Go.Od.c31 p
  rw [he] at c31
  (repeat' (first | with_reducible refine splitVC_d (fun _ => ?_) (fun _ => ?_) | with_reducible refine splitVC (fun _ => ?_) (fun _ => ?_) | ((with_reducible refine And.intro ?_ ?_); focus (first | exact True.intro | (simp only [InK]; omega) | omega | (simp only [InK, ne_eq, and_true, true_and]; omega) | trivial)) | (simp -dsimp only [↓RP, RQ, implies_true, forall_const, Nat.reduceMul, reduceIte, reduceCtorEq, Nat.reduceAdd, Nat.reduceEqDiff, Nat.reduceLT, Nat.reduceLeDiff, Int.reduceEq, Int.reduceNeg, RZ, eq_self, eq23, TYq, TYp, TYm, TYn, TYw, TYx, TY62, by66, by74, QF, er, es, fsv, B, I, by2, TY, Try.results14])))
  refine callVC (cfB (c25 p) (by omega)) ?_ ?_ ?_; iterate 2 focus ((simp -dsimp only [↓RP, RQ, implies_true, forall_const, Nat.reduceMul, reduceIte, reduceCtorEq, Nat.reduceAdd, Nat.reduceEqDiff, Nat.reduceLT, Nat.reduceLeDiff, Pl.times, Mk.turn, Pl.sv, rngs, Mk.sv, qts, qsv, fsv, Go.Od.ints, u32s, I, B]); all_goals (try simp [sub_q]); all_goals (try omega))
  (repeat' (first | with_reducible refine splitVC_d (fun _ => ?_) (fun _ => ?_) | with_reducible refine splitVC (fun _ => ?_) (fun _ => ?_) | ((with_reducible refine And.intro ?_ ?_); focus (first | exact True.intro | (simp only [InK]; omega) | omega | (simp only [InK, ne_eq, and_true, true_and]; omega) | trivial)) | (simp -dsimp only [↓RP, RQ, implies_true, forall_const, Nat.reduceMul, reduceIte, reduceCtorEq, Nat.reduceAdd, Nat.reduceEqDiff, Nat.reduceLT, Nat.reduceLeDiff, Int.reduceEq, Int.reduceNeg, RZ, eq_self, eq23, TYq, TYp, TYm, TYn, TYw, TYx, TY62, by66, by74, QF, er, es, fsv, B, I, by2, TY, Try.results14])))
  refine callVC c31 ?_ ?_ ?_; iterate 2 focus ((simp -dsimp only [↓RP, RQ, implies_true, forall_const, Nat.reduceMul, reduceIte, reduceCtorEq, Nat.reduceAdd, Nat.reduceEqDiff, Nat.reduceLT, Nat.reduceLeDiff, Pl.times, Mk.turn, Pl.sv, rngs, Mk.sv, qts, qsv, fsv, Go.Od.ints, u32s, I, B]); all_goals (try simp [sub_q]); all_goals (try omega))
  (repeat' (first | with_reducible refine splitVC_d (fun _ => ?_) (fun _ => ?_) | with_reducible refine splitVC (fun _ => ?_) (fun _ => ?_) | ((with_reducible refine And.intro ?_ ?_); focus (first | exact True.intro | (simp only [InK]; omega) | omega | (simp only [InK, ne_eq, and_true, true_and]; omega) | trivial)) | (simp -dsimp only [↓RP, RQ, implies_true, forall_const, Nat.reduceMul, reduceIte, reduceCtorEq, Nat.reduceAdd, Nat.reduceEqDiff, Nat.reduceLT, Nat.reduceLeDiff, Int.reduceEq, Int.reduceNeg, RZ, eq_self, eq23, TYq, TYp, TYm, TYn, TYw, TYx, TY62, by66, by74, QF, er, es, fsv, B, I, by2, TY, Try.results14])))
  refine callVC (c45 M) ?_ ?_ ?_; iterate 2 focus ((simp -dsimp only [↓RP, RQ, implies_true, forall_const, Nat.reduceMul, reduceIte, reduceCtorEq, Nat.reduceAdd, Nat.reduceEqDiff, Nat.reduceLT, Nat.reduceLeDiff, Pl.times, Mk.turn, Pl.sv, rngs, Mk.sv, qts, qsv, fsv, Go.Od.ints, u32s, I, B]); all_goals (try simp [sub_q]); all_goals (try omega))
  (repeat' (first | with_reducible refine splitVC_d (fun _ => ?_) (fun _ => ?_) | with_reducible refine splitVC (fun _ => ?_) (fun _ => ?_) | ((with_reducible refine And.intro ?_ ?_); focus (first | exact True.intro | (simp only [InK]; omega) | omega | (simp only [InK, ne_eq, and_true, true_and]; omega) | trivial)) | (simp -dsimp only [↓RP, RQ, implies_true, forall_const, Nat.reduceMul, reduceIte, reduceCtorEq, Nat.reduceAdd, Nat.reduceEqDiff, Nat.reduceLT, Nat.reduceLeDiff, Int.reduceEq, Int.reduceNeg, RZ, eq_self, eq23, TYq, TYp, TYm, TYn, TYw, TYx, TY62, by66, by74, QF, er, es, fsv, B, I, by2, TY, Try.results14])))
  all_goals first | (refine callVC c22 ?_ ?_ ?_; (iterate 2 focus ((simp -dsimp only [↓RP, RQ, implies_true, forall_const, Nat.reduceMul, reduceIte, reduceCtorEq, Nat.reduceAdd, Nat.reduceEqDiff, Nat.reduceLT, Nat.reduceLeDiff, Pl.times, Mk.turn, Pl.sv, rngs, Mk.sv, qts, qsv, fsv, Go.Od.ints, u32s, I, B]); all_goals (try simp [sub_q]); all_goals (try omega))); (repeat' (first | with_reducible refine splitVC_d (fun _ => ?_) (fun _ => ?_) | with_reducible refine splitVC (fun _ => ?_) (fun _ => ?_) | ((with_reducible refine And.intro ?_ ?_); focus (first | exact True.intro | (simp only [InK]; omega) | omega | (simp only [InK, ne_eq, and_true, true_and]; omega) | trivial)) | (simp -dsimp only [↓RP, RQ, implies_true, forall_const, Nat.reduceMul, reduceIte, reduceCtorEq, Nat.reduceAdd, Nat.reduceEqDiff, Nat.reduceLT, Nat.reduceLeDiff, Int.reduceEq, Int.reduceNeg, RZ, eq_self, eq23, TYq, TYp, TYm, TYn, TYw, TYx, TY62, by66, by74, QF, er, es, fsv, B, I, by2, TY, Try.results14]))); done) | skip
  have hm : M.err = 0 := by assumption
  have hM := Mk.fine hm
  have hm12 := hM.m12
  have hr1 := hM.r1
  have hr5 := hM.r5
  refine loop_vc (fun i => i ≤ p.n) (stT p M kb u t kk) (fun i => p.n - i) 0 (Nat.zero_le _) (weak [(0, some 0), (1, some 1), (60, some 35)] [] ?_ ?_ ?_) fun i hi => ?_
  · (simp -dsimp only [↓RP, RQ, implies_true, forall_const, Nat.reduceMul, reduceIte, reduceCtorEq, Nat.reduceAdd, Nat.reduceEqDiff, Nat.reduceLT, Nat.reduceLeDiff, stT]); all_goals (try simp [wk_q])
  · (simp -dsimp only [↓RP, RQ, implies_true, forall_const, Nat.reduceMul, reduceIte, reduceCtorEq, Nat.reduceAdd, Nat.reduceEqDiff, Nat.reduceLT, Nat.reduceLeDiff, stT]); all_goals (try simp [wk_q])
  · (simp -dsimp only [↓RP, RQ, implies_true, forall_const, Nat.reduceMul, reduceIte, reduceCtorEq, Nat.reduceAdd, Nat.reduceEqDiff, Nat.reduceLT, Nat.reduceLeDiff, stT]); all_goals (try simp [wk_q])
  by_cases hlt : i < p.n
  · have ⟨b1, b2⟩ := Pl.times_lo hf t1 t9 hlt
    cases i with
    | zero =>
      rw [stT_0]
      (repeat' (first | with_reducible refine splitVC_d (fun _ => ?_) (fun _ => ?_) | with_reducible refine splitVC (fun _ => ?_) (fun _ => ?_) | ((with_reducible refine And.intro ?_ ?_); focus (first | exact True.intro | (simp only [InK]; omega) | omega | (simp only [InK, ne_eq, and_true, true_and]; omega) | exact ⟨.inr trivial, Nat.le_refl _, one1 _, by omega⟩ | exact ⟨.inr trivial, Nat.le_refl _, one22 _ _, by omega⟩ | exact ⟨.inr trivial, Nat.le_refl _, one4 _, by omega⟩ | exact ⟨.inr trivial, Nat.le_refl _, one1 _, by omega, by kernel_rfl⟩ | trivial)) | (simp -dsimp only [↓RP, RQ, implies_true, forall_const, Nat.reduceMul, reduceIte, reduceCtorEq, Nat.reduceAdd, Nat.reduceEqDiff, Nat.reduceLT, Nat.reduceLeDiff, b1, b2, Int.reduceEq, Int.reduceNeg, RZ, eq_self, eq23, TYq, TYp, TYm, TYn, TYw, TYx, TY62, by66, by74, QF, er, es, fsv, B, I, by2, TY, Try.results14])))
      all_goals first | (exfalso; omega) | skip
      refine ⟨0 + 1, by omega, by omega, weak [(0, some 0), (1, some 1), (60, some 60), (61, some 87)] [] ?_ ?_ ?_⟩
      all_goals ((simp -dsimp only [↓RP, RQ, implies_true, forall_const, Nat.reduceMul, reduceIte, reduceCtorEq, Nat.reduceAdd, Nat.reduceEqDiff, Nat.reduceLT, Nat.reduceLeDiff, stT]); all_goals (try simp [wk_q]))
      all_goals exact lstT0 _ _ 0
    | succ i =>
      rw [stT_s]
      (repeat' (first | with_reducible refine splitVC_d (fun _ => ?_) (fun _ => ?_) | with_reducible refine splitVC (fun _ => ?_) (fun _ => ?_) | ((with_reducible refine And.intro ?_ ?_); focus (first | exact True.intro | (simp only [InK]; omega) | omega | (simp only [InK, ne_eq, and_true, true_and]; omega) | exact ⟨.inr trivial, Nat.le_refl _, one1 _, by omega⟩ | exact ⟨.inr trivial, Nat.le_refl _, one22 _ _, by omega⟩ | exact ⟨.inr trivial, Nat.le_refl _, one4 _, by omega⟩ | exact ⟨.inr trivial, Nat.le_refl _, one1 _, by omega, by kernel_rfl⟩ | trivial)) | (simp -dsimp only [↓RP, RQ, implies_true, forall_const, Nat.reduceMul, reduceIte, reduceCtorEq, Nat.reduceAdd, Nat.reduceEqDiff, Nat.reduceLT, Nat.reduceLeDiff, b1, b2, Int.reduceEq, Int.reduceNeg, RZ, eq_self, eq23, TYq, TYp, TYm, TYn, TYw, TYx, TY62, by66, by74, QF, er, es, fsv, B, I, by2, TY, Try.results14])))
      all_goals first | (exfalso; omega) | skip
      refine ⟨i + 1 + 1, by omega, by omega, weak [(0, some 0), (1, some 1), (60, some 60), (61, some 87)] [] ?_ ?_ ?_⟩
      all_goals ((simp -dsimp only [↓RP, RQ, implies_true, forall_const, Nat.reduceMul, reduceIte, reduceCtorEq, Nat.reduceAdd, Nat.reduceEqDiff, Nat.reduceLT, Nat.reduceLeDiff, stT]); all_goals (try simp [wk_q]))
      all_goals exact lstT _ _ 0 _
  · obtain rfl : p.n = i := by omega
    obtain ⟨j, ej⟩ : ∃ j, p.n = j + 1 := ⟨p.n - 1, by omega⟩
    rw [show stT p M kb u t kk p.n = stT p M kb u t kk (j + 1) by rw [ej], stT_s]
    have n1 := c46 M.m kb (by omega) u hu 1000000 (by omega)
    have hsb := fun i => numV_bd2 kb u hu 1000000 (by omega) i
    generalize numV kb u 1000000 = s at *
    have c31u := Go.Od.c31 (p.times t)
    have c26a := Go.Od.c26 p kk
    have c26b := Go.Od.c26 (p.times t) kk
    have hts := fun h => Pl.times_span hf (t := t) h t1 hk
    obtain ⟨v, ev⟩ : ∃ v, p.span kk = v := ⟨_, rfl⟩
    rw [ev] at c26a hts
    clear ev
    apply shareLoop (P := Try.prog) (O := ⟨[], 0, false, noFar⟩) (fun (r : Nat) => r = 0) (fun r => stV M t s r)
    case main =>
      intro key3
      apply shareLoop (P := Try.prog) (O := ⟨[], 0, false, noFar⟩) (fun (x : Nat) => x = 0) (fun x => stU M t s x)
      case main =>
        intro key2
        by_cases hup : (p.times t).err = 0
        · rw [hup] at c31u
          rw [hts hup] at c26b
          (repeat' (first | with_reducible refine splitVC_d (fun _ => ?_) (fun _ => ?_) | with_reducible refine splitVC (fun _ => ?_) (fun _ => ?_) | ((with_reducible refine And.intro ?_ ?_); focus (first | exact True.intro | (simp only [InK]; omega) | omega | (simp only [InK, ne_eq, and_true, true_and]; omega) | trivial)) | (simp -dsimp only [↓RP, RQ, implies_true, forall_const, Nat.reduceMul, reduceIte, reduceCtorEq, Nat.reduceAdd, Nat.reduceEqDiff, Nat.reduceLT, Nat.reduceLeDiff, Int.reduceEq, Int.reduceNeg, RZ, eq_self, eq23, TYq, TYp, TYm, TYn, TYw, TYx, TY62, by66, by74, QF, er, es, fsv, B, I, by2, TY, Try.results14])))
          all_goals first | (exfalso; omega) | skip
          refine callVC c31u ?_ ?_ ?_; iterate 2 focus ((simp -dsimp only [↓RP, RQ, implies_true, forall_const, Nat.reduceMul, reduceIte, reduceCtorEq, Nat.reduceAdd, Nat.reduceEqDiff, Nat.reduceLT, Nat.reduceLeDiff, Pl.times, Mk.turn, Pl.sv, rngs, Mk.sv, qts, qsv, fsv, Go.Od.ints, u32s, I, B]); all_goals (try simp [sub_q]); all_goals (try omega))
          (repeat' (first | with_reducible refine splitVC_d (fun _ => ?_) (fun _ => ?_) | with_reducible refine splitVC (fun _ => ?_) (fun _ => ?_) | ((with_reducible refine And.intro ?_ ?_); focus (first | exact True.intro | (simp only [InK]; omega) | omega | (simp only [InK, ne_eq, and_true, true_and]; omega) | trivial)) | (simp -dsimp only [↓RP, RQ, implies_true, forall_const, Nat.reduceMul, reduceIte, reduceCtorEq, Nat.reduceAdd, Nat.reduceEqDiff, Nat.reduceLT, Nat.reduceLeDiff, Int.reduceEq, Int.reduceNeg, RZ, eq_self, eq23, TYq, TYp, TYm, TYn, TYw, TYx, TY62, by66, by74, QF, er, es, fsv, B, I, by2, TY, Try.results14])))
          refine callVC c26a ?_ ?_ ?_; iterate 2 focus ((simp -dsimp only [↓RP, RQ, implies_true, forall_const, Nat.reduceMul, reduceIte, reduceCtorEq, Nat.reduceAdd, Nat.reduceEqDiff, Nat.reduceLT, Nat.reduceLeDiff, Pl.times, Mk.turn, Pl.sv, rngs, Mk.sv, qts, qsv, fsv, Go.Od.ints, u32s, I, B]); all_goals (try simp [sub_q]); all_goals (try omega))
          (repeat' (first | with_reducible refine splitVC_d (fun _ => ?_) (fun _ => ?_) | with_reducible refine splitVC (fun _ => ?_) (fun _ => ?_) | ((with_reducible refine And.intro ?_ ?_); focus (first | exact True.intro | (simp only [InK]; omega) | omega | (simp only [InK, ne_eq, and_true, true_and]; omega) | trivial)) | (simp -dsimp only [↓RP, RQ, implies_true, forall_const, Nat.reduceMul, reduceIte, reduceCtorEq, Nat.reduceAdd, Nat.reduceEqDiff, Nat.reduceLT, Nat.reduceLeDiff, Int.reduceEq, Int.reduceNeg, RZ, eq_self, eq23, TYq, TYp, TYm, TYn, TYw, TYx, TY62, by66, by74, QF, er, es, fsv, B, I, by2, TY, Try.results14])))
          refine callVC c26b ?_ ?_ ?_; iterate 2 focus ((simp -dsimp only [↓RP, RQ, implies_true, forall_const, Nat.reduceMul, reduceIte, reduceCtorEq, Nat.reduceAdd, Nat.reduceEqDiff, Nat.reduceLT, Nat.reduceLeDiff, Pl.times, Mk.turn, Pl.sv, rngs, Mk.sv, qts, qsv, fsv, Go.Od.ints, u32s, I, B]); all_goals (try simp [sub_q]); all_goals (try omega))
          (repeat' (first | with_reducible refine splitVC_d (fun _ => ?_) (fun _ => ?_) | with_reducible refine splitVC (fun _ => ?_) (fun _ => ?_) | ((with_reducible refine And.intro ?_ ?_); focus (first | exact True.intro | (simp only [InK]; omega) | omega | (simp only [InK, ne_eq, and_true, true_and]; omega) | trivial)) | (simp -dsimp only [↓RP, RQ, implies_true, forall_const, Nat.reduceMul, reduceIte, reduceCtorEq, Nat.reduceAdd, Nat.reduceEqDiff, Nat.reduceLT, Nat.reduceLeDiff, Int.reduceEq, Int.reduceNeg, RZ, eq_self, eq23, TYq, TYp, TYm, TYn, TYw, TYx, TY62, by66, by74, QF, er, es, fsv, B, I, by2, TY, Try.results14])))
          refine callVC n1 ?_ ?_ ?_; iterate 2 focus ((simp -dsimp only [↓RP, RQ, implies_true, forall_const, Nat.reduceMul, reduceIte, reduceCtorEq, Nat.reduceAdd, Nat.reduceEqDiff, Nat.reduceLT, Nat.reduceLeDiff, Pl.times, Mk.turn, Pl.sv, rngs, Mk.sv, qts, qsv, fsv, Go.Od.ints, u32s, I, B]); all_goals (try simp [sub_q]); all_goals (try omega))
          (repeat' (first | with_reducible refine splitVC_d (fun _ => ?_) (fun _ => ?_) | with_reducible refine splitVC (fun _ => ?_) (fun _ => ?_) | ((with_reducible refine And.intro ?_ ?_); focus (first | exact True.intro | (simp only [InK]; omega) | omega | (simp only [InK, ne_eq, and_true, true_and]; omega) | trivial)) | (simp -dsimp only [↓RP, RQ, implies_true, forall_const, Nat.reduceMul, reduceIte, reduceCtorEq, Nat.reduceAdd, Nat.reduceEqDiff, Nat.reduceLT, Nat.reduceLeDiff, Int.reduceEq, Int.reduceNeg, RZ, eq_self, eq23, TYq, TYp, TYm, TYn, TYw, TYx, TY62, by66, by74, QF, er, es, fsv, B, I, by2, TY, Try.results14])))
          refine LoopOr.weak (key2 0 rfl) ?_
          rw [stU_0]
          refine weak [(1, some 1), (60, some 117)] [] ?_ ?_ ?_
          all_goals ((simp -dsimp only [↓RP, RQ, implies_true, forall_const, Nat.reduceMul, reduceIte, reduceCtorEq, Nat.reduceAdd, Nat.reduceEqDiff, Nat.reduceLT, Nat.reduceLeDiff]); all_goals (try simp [wk_q]))
        · skip
          (repeat' (first | with_reducible refine splitVC_d (fun _ => ?_) (fun _ => ?_) | with_reducible refine splitVC (fun _ => ?_) (fun _ => ?_) | ((with_reducible refine And.intro ?_ ?_); focus (first | exact True.intro | (simp only [InK]; omega) | omega | (simp only [InK, ne_eq, and_true, true_and]; omega) | trivial)) | (simp -dsimp only [↓RP, RQ, implies_true, forall_const, Nat.reduceMul, reduceIte, reduceCtorEq, Nat.reduceAdd, Nat.reduceEqDiff, Nat.reduceLT, Nat.reduceLeDiff, Int.reduceEq, Int.reduceNeg, RZ, eq_self, eq23, TYq, TYp, TYm, TYn, TYw, TYx, TY62, by66, by74, QF, er, es, fsv, B, I, by2, TY, Try.results14])))
          all_goals first | (exfalso; omega) | skip
          refine callVC c31u ?_ ?_ ?_; iterate 2 focus ((simp -dsimp only [↓RP, RQ, implies_true, forall_const, Nat.reduceMul, reduceIte, reduceCtorEq, Nat.reduceAdd, Nat.reduceEqDiff, Nat.reduceLT, Nat.reduceLeDiff, Pl.times, Mk.turn, Pl.sv, rngs, Mk.sv, qts, qsv, fsv, Go.Od.ints, u32s, I, B]); all_goals (try simp [sub_q]); all_goals (try omega))
          (repeat' (first | with_reducible refine splitVC_d (fun _ => ?_) (fun _ => ?_) | with_reducible refine splitVC (fun _ => ?_) (fun _ => ?_) | ((with_reducible refine And.intro ?_ ?_); focus (first | exact True.intro | (simp only [InK]; omega) | omega | (simp only [InK, ne_eq, and_true, true_and]; omega) | trivial)) | (simp -dsimp only [↓RP, RQ, implies_true, forall_const, Nat.reduceMul, reduceIte, reduceCtorEq, Nat.reduceAdd, Nat.reduceEqDiff, Nat.reduceLT, Nat.reduceLeDiff, hup, Int.reduceEq, Int.reduceNeg, RZ, eq_self, eq23, TYq, TYp, TYm, TYn, TYw, TYx, TY62, by66, by74, QF, er, es, fsv, B, I, by2, TY, Try.results14])))
          refine callVC n1 ?_ ?_ ?_; iterate 2 focus ((simp -dsimp only [↓RP, RQ, implies_true, forall_const, Nat.reduceMul, reduceIte, reduceCtorEq, Nat.reduceAdd, Nat.reduceEqDiff, Nat.reduceLT, Nat.reduceLeDiff, Pl.times, Mk.turn, Pl.sv, rngs, Mk.sv, qts, qsv, fsv, Go.Od.ints, u32s, I, B]); all_goals (try simp [sub_q]); all_goals (try omega))
          (repeat' (first | with_reducible refine splitVC_d (fun _ => ?_) (fun _ => ?_) | with_reducible refine splitVC (fun _ => ?_) (fun _ => ?_) | ((with_reducible refine And.intro ?_ ?_); focus (first | exact True.intro | (simp only [InK]; omega) | omega | (simp only [InK, ne_eq, and_true, true_and]; omega) | trivial)) | (simp -dsimp only [↓RP, RQ, implies_true, forall_const, Nat.reduceMul, reduceIte, reduceCtorEq, Nat.reduceAdd, Nat.reduceEqDiff, Nat.reduceLT, Nat.reduceLeDiff, Int.reduceEq, Int.reduceNeg, RZ, eq_self, eq23, TYq, TYp, TYm, TYn, TYw, TYx, TY62, by66, by74, QF, er, es, fsv, B, I, by2, TY, Try.results14])))
          refine LoopOr.weak (key2 0 rfl) ?_
          rw [stU_0]
          refine weak [(1, some 1), (60, some 80)] [] ?_ ?_ ?_
          all_goals ((simp -dsimp only [↓RP, RQ, implies_true, forall_const, Nat.reduceMul, reduceIte, reduceCtorEq, Nat.reduceAdd, Nat.reduceEqDiff, Nat.reduceLT, Nat.reduceLeDiff]); all_goals (try simp [wk_q]))
      case key =>
        rintro _ rfl
        refine loop_vc (fun i => i ≤ M.m) (stU M t s) (fun i => M.m - i) 0 (Nat.zero_le _) (Weak.refl _ _) fun i hi => ?_
        by_cases hlt : i < M.m
        · have hq := hM.od i hlt
          have hr := hM.st i hlt
          have hsi := hsb i
          have b1 : InK .i64 (t * s i) := InK_mul (A := 9) (B := 1000000) (by omega) (by omega) (by omega) (by omega) (by omega) (by omega)
          have k58 : Contract Try.prog 58 [I (M.q i).r, I (M.q i).n, I (M.q i).d, B (!(M.q i).l)] (qsv (M.q i).turn) := c58 (M.q i).turn
          cases i with
          | zero =>
            rw [stU_0]
            (repeat' (first | with_reducible refine splitVC_d (fun _ => ?_) (fun _ => ?_) | with_reducible refine splitVC (fun _ => ?_) (fun _ => ?_) | ((with_reducible refine And.intro ?_ ?_); focus (first | exact True.intro | (simp only [InK]; omega) | omega | (simp only [InK, ne_eq, and_true, true_and]; omega) | exact ⟨.inr trivial, Nat.le_refl _, one1 _, by omega⟩ | exact ⟨.inr trivial, Nat.le_refl _, one22 _ _, by omega⟩ | exact ⟨.inr trivial, Nat.le_refl _, one4 _, by omega⟩ | exact ⟨.inr trivial, Nat.le_refl _, one1 _, by omega, by kernel_rfl⟩ | trivial)) | (simp -dsimp only [↓RP, RQ, implies_true, forall_const, Nat.reduceMul, reduceIte, reduceCtorEq, Nat.reduceAdd, Nat.reduceEqDiff, Nat.reduceLT, Nat.reduceLeDiff, b1, Int.reduceEq, Int.reduceNeg, RZ, eq_self, eq23, TYq, TYp, TYm, TYn, TYw, TYx, TY62, by66, by74, QF, er, es, fsv, B, I, by2, TY, Try.results14])))
            all_goals first | (exfalso; omega) | skip
            refine callVC k58 ?_ ?_ ?_; iterate 2 focus ((simp -dsimp only [↓RP, RQ, implies_true, forall_const, Nat.reduceMul, reduceIte, reduceCtorEq, Nat.reduceAdd, Nat.reduceEqDiff, Nat.reduceLT, Nat.reduceLeDiff, Pl.times, Mk.turn, Pl.sv, rngs, Mk.sv, qts, qsv, fsv, Go.Od.ints, u32s, I, B]); all_goals (try simp [sub_q]); all_goals (try omega))
            (repeat' (first | with_reducible refine splitVC_d (fun _ => ?_) (fun _ => ?_) | with_reducible refine splitVC (fun _ => ?_) (fun _ => ?_) | ((with_reducible refine And.intro ?_ ?_); focus (first | exact True.intro | (simp only [InK]; omega) | omega | (simp only [InK, ne_eq, and_true, true_and]; omega) | exact ⟨.inr trivial, Nat.le_refl _, one1 _, by omega⟩ | exact ⟨.inr trivial, Nat.le_refl _, one22 _ _, by omega⟩ | exact ⟨.inr trivial, Nat.le_refl _, one4 _, by omega⟩ | exact ⟨.inr trivial, Nat.le_refl _, one1 _, by omega, by kernel_rfl⟩ | trivial)) | (simp -dsimp only [↓RP, RQ, implies_true, forall_const, Nat.reduceMul, reduceIte, reduceCtorEq, Nat.reduceAdd, Nat.reduceEqDiff, Nat.reduceLT, Nat.reduceLeDiff, qsv, Int.reduceEq, Int.reduceNeg, RZ, eq_self, eq23, TYq, TYp, TYm, TYn, TYw, TYx, TY62, by66, by74, QF, er, es, fsv, B, I, by2, TY, Try.results14])))
            all_goals first | (exfalso; omega) | skip
            refine ⟨0 + 1, by omega, by omega, weak [(1, some 1), (60, some 60), (62, some 76), (63, some 98)] [] ?_ ?_ ?_⟩
            all_goals ((simp -dsimp only [↓RP, RQ, implies_true, forall_const, Nat.reduceMul, reduceIte, reduceCtorEq, Nat.reduceAdd, Nat.reduceEqDiff, Nat.reduceLT, Nat.reduceLeDiff, stU]); all_goals (try simp [wk_q]))
            all_goals exact lstG0 _ _ _ _ (fun i => (M.q i).turn)
          | succ i =>
            rw [stU_s]
            (repeat' (first | with_reducible refine splitVC_d (fun _ => ?_) (fun _ => ?_) | with_reducible refine splitVC (fun _ => ?_) (fun _ => ?_) | ((with_reducible refine And.intro ?_ ?_); focus (first | exact True.intro | (simp only [InK]; omega) | omega | (simp only [InK, ne_eq, and_true, true_and]; omega) | exact ⟨.inr trivial, Nat.le_refl _, one1 _, by omega⟩ | exact ⟨.inr trivial, Nat.le_refl _, one22 _ _, by omega⟩ | exact ⟨.inr trivial, Nat.le_refl _, one4 _, by omega⟩ | exact ⟨.inr trivial, Nat.le_refl _, one1 _, by omega, by kernel_rfl⟩ | trivial)) | (simp -dsimp only [↓RP, RQ, implies_true, forall_const, Nat.reduceMul, reduceIte, reduceCtorEq, Nat.reduceAdd, Nat.reduceEqDiff, Nat.reduceLT, Nat.reduceLeDiff, b1, Int.reduceEq, Int.reduceNeg, RZ, eq_self, eq23, TYq, TYp, TYm, TYn, TYw, TYx, TY62, by66, by74, QF, er, es, fsv, B, I, by2, TY, Try.results14])))
            all_goals first | (exfalso; omega) | skip
            refine callVC k58 ?_ ?_ ?_; iterate 2 focus ((simp -dsimp only [↓RP, RQ, implies_true, forall_const, Nat.reduceMul, reduceIte, reduceCtorEq, Nat.reduceAdd, Nat.reduceEqDiff, Nat.reduceLT, Nat.reduceLeDiff, Pl.times, Mk.turn, Pl.sv, rngs, Mk.sv, qts, qsv, fsv, Go.Od.ints, u32s, I, B]); all_goals (try simp [sub_q]); all_goals (try omega))
            (repeat' (first | with_reducible refine splitVC_d (fun _ => ?_) (fun _ => ?_) | with_reducible refine splitVC (fun _ => ?_) (fun _ => ?_) | ((with_reducible refine And.intro ?_ ?_); focus (first | exact True.intro | (simp only [InK]; omega) | omega | (simp only [InK, ne_eq, and_true, true_and]; omega) | exact ⟨.inr trivial, Nat.le_refl _, one1 _, by omega⟩ | exact ⟨.inr trivial, Nat.le_refl _, one22 _ _, by omega⟩ | exact ⟨.inr trivial, Nat.le_refl _, one4 _, by omega⟩ | exact ⟨.inr trivial, Nat.le_refl _, one1 _, by omega, by kernel_rfl⟩ | trivial)) | (simp -dsimp only [↓RP, RQ, implies_true, forall_const, Nat.reduceMul, reduceIte, reduceCtorEq, Nat.reduceAdd, Nat.reduceEqDiff, Nat.reduceLT, Nat.reduceLeDiff, qsv, Int.reduceEq, Int.reduceNeg, RZ, eq_self, eq23, TYq, TYp, TYm, TYn, TYw, TYx, TY62, by66, by74, QF, er, es, fsv, B, I, by2, TY, Try.results14])))
            all_goals first | (exfalso; omega) | skip
            refine ⟨i + 1 + 1, by omega, by omega, weak [(1, some 1), (60, some 60), (62, some 76), (63, some 98)] [] ?_ ?_ ?_⟩
            all_goals ((simp -dsimp only [↓RP, RQ, implies_true, forall_const, Nat.reduceMul, reduceIte, reduceCtorEq, Nat.reduceAdd, Nat.reduceEqDiff, Nat.reduceLT, Nat.reduceLeDiff, stU]); all_goals (try simp [wk_q]))
            all_goals exact ⟨lstG _ _ _ _ (fun i => (M.q i).turn) _, lstA (fun i => t * s i) _⟩
        · obtain rfl : M.m = i := by omega
          by_cases hz : M.m = 0
          · rw [show stU M t s M.m = stU M t s 0 by rw [hz], stU_0]
            (repeat' (first | with_reducible refine splitVC_d (fun _ => ?_) (fun _ => ?_) | with_reducible refine splitVC (fun _ => ?_) (fun _ => ?_) | ((with_reducible refine And.intro ?_ ?_); focus (first | exact True.intro | (simp only [InK]; omega) | omega | (simp only [InK, ne_eq, and_true, true_and]; omega) | trivial)) | (simp -dsimp only [↓RP, RQ, implies_true, forall_const, Nat.reduceMul, reduceIte, reduceCtorEq, Nat.reduceAdd, Nat.reduceEqDiff, Nat.reduceLT, Nat.reduceLeDiff, hz, Int.reduceEq, Int.reduceNeg, RZ, eq_self, eq23, TYq, TYp, TYm, TYn, TYw, TYx, TY62, by66, by74, QF, er, es, fsv, B, I, by2, TY, Try.results14])))
            all_goals first | (exfalso; omega) | skip
            refine LoopOr.weak (key3 0 rfl) ?_
            unfold stV
            refine weak [(1, some 1), (60, some 60)] [] ?_ ?_ ?_
            all_goals ((simp -dsimp only [↓RP, RQ, implies_true, forall_const, Nat.reduceMul, reduceIte, reduceCtorEq, Nat.reduceAdd, Nat.reduceEqDiff, Nat.reduceLT, Nat.reduceLeDiff]); all_goals (try simp [wk_q, hz]))
            all_goals trace_state
          · obtain ⟨j, ej⟩ : ∃ j, M.m = j + 1 := ⟨M.m - 1, by omega⟩
            rw [show stU M t s M.m = stU M t s (j + 1) by rw [ej], stU_s]
            (repeat' (first | with_reducible refine splitVC_d (fun _ => ?_) (fun _ => ?_) | with_reducible refine splitVC (fun _ => ?_) (fun _ => ?_) | ((with_reducible refine And.intro ?_ ?_); focus (first | exact True.intro | (simp only [InK]; omega) | omega | (simp only [InK, ne_eq, and_true, true_and]; omega) | trivial)) | (simp -dsimp only [↓RP, RQ, implies_true, forall_const, Nat.reduceMul, reduceIte, reduceCtorEq, Nat.reduceAdd, Nat.reduceEqDiff, Nat.reduceLT, Nat.reduceLeDiff, Int.reduceEq, Int.reduceNeg, RZ, eq_self, eq23, TYq, TYp, TYm, TYn, TYw, TYx, TY62, by66, by74, QF, er, es, fsv, B, I, by2, TY, Try.results14])))
            all_goals first | (exfalso; omega) | skip
            refine LoopOr.weak (key3 0 rfl) ?_
            unfold stV
            refine weak [(1, some 1), (60, some 60)] [62, 63] ?_ ?_ ?_
            all_goals ((simp -dsimp only [↓RP, RQ, implies_true, forall_const, Nat.reduceMul, reduceIte, reduceCtorEq, Nat.reduceAdd, Nat.reduceEqDiff, Nat.reduceLT, Nat.reduceLeDiff]); all_goals (try simp [wk_q]))
            all_goals omega
    case key =>
      rintro _ rfl
      refine loop_vc (fun r => r ≤ M.run.toNat) (stV M t s) (fun r => M.run.toNat - r) 0 (Nat.zero_le _) (Weak.refl _ _) fun r hr => ?_
      by_cases hlt : r < M.run.toNat
      · have hs1 : allS s M.m := fun i _ => by have := hsb i; omega
        have hs2 : allS (fun i => t * s i) M.m := fun i _ => by
          have := hsb i
          have a := Int.mul_nonneg (show 0 ≤ t by omega) this.1
          have b : t * s i ≤ 9 * 1000000 := Int.mul_le_mul t9 this.2 this.1 (by omega)
          show 0 ≤ t * s i ∧ t * s i ≤ 1099511627776
          omega
        have k1 := c33 M M.m (by omega) s r
        have k2 := c33 M M.m (by omega) (fun i => t * s i) r
        have k3 := c33 M.turn M.m (by omega) s r
        have k4 := c59 M hM s hs1 r
        rw [Mk.net_0 (by unfold Mk.stk; rw [if_pos hm, if_pos rfl, if_pos hs1]) (by omega)] at k1
        rw [Mk.net_0 (by unfold Mk.stk; rw [if_pos hm, if_pos rfl, if_pos hs2]) (by omega)] at k2
        rw [Mk.net_0 (by unfold Mk.stk; rw [if_pos (Mk.turn_err hm), if_pos (show M.m = M.turn.m from rfl), if_pos hs1]) (by show ¬ ((r : Int) < 0 ∨ M.run ≤ (r : Int)); omega)] at k3
        rw [net_times] at k2
        rw [show netT M.turn.q s r M.turn.m = -netT M.q s r M.m from net_turn, red_neg] at k3
        have bd1 := netT_bd (w := r) hM.od hs1
        have bd2 := netT_bd (w := r) hM.od hs2
        rw [net_times] at bd2
        generalize netT M.q s r M.m = N at *
        rw [red_times] at k2
        have ⟨q1, q2, q3, q4⟩ := red_bd2 (A := 6317354008549785600) (x := N) (by omega)
        have q5 := red_tn (A := 6317354008549785600) t1 (show -6317354008549785600 ≤ t * N ∧ t * N ≤ 6317354008549785600 by omega)
        have k5 := c52w ⟨N, 2520⟩ (by show (0 : Int) < 2520; omega) (by show (2520 : Int) ≤ _; omega) (by show _ ≤ N; omega) (by show N ≤ _; omega)
        generalize red ⟨N, 2520⟩ = a at *
        have k6 := c52w ⟨t * a.n, a.d⟩ (by show 0 < a.d; omega) (by show a.d ≤ _; omega) (by show _ ≤ t * a.n; omega) (by show t * a.n ≤ _; omega)
        have k7 := c50 (-a.n) a.d
        have i1 : InK .i64 (t * a.n) := by simp only [InK]; omega
        have i2 : InK .i64 (-a.n) := by simp only [InK]; omega
        generalize red ⟨t * a.n, a.d⟩ = b at *
        simp only [] at k1 k2 k3 k5 k6
        clear bd1 bd2 hs1 hs2
        unfold stV
        (repeat' (first | with_reducible refine splitVC_d (fun _ => ?_) (fun _ => ?_) | with_reducible refine splitVC (fun _ => ?_) (fun _ => ?_) | ((with_reducible refine And.intro ?_ ?_); focus (first | exact True.intro | (simp only [InK]; omega) | omega | (simp only [InK, ne_eq, and_true, true_and]; omega) | trivial)) | (simp -dsimp only [↓RP, RQ, implies_true, forall_const, Nat.reduceMul, reduceIte, reduceCtorEq, Nat.reduceAdd, Nat.reduceEqDiff, Nat.reduceLT, Nat.reduceLeDiff, Int.reduceEq, Int.reduceNeg, RZ, eq_self, eq23, TYq, TYp, TYm, TYn, TYw, TYx, TY62, by66, by74, QF, er, es, fsv, B, I, by2, TY, Try.results14])))
        refine callVC k1 ?_ ?_ ?_; iterate 2 focus ((simp -dsimp only [↓RP, RQ, implies_true, forall_const, Nat.reduceMul, reduceIte, reduceCtorEq, Nat.reduceAdd, Nat.reduceEqDiff, Nat.reduceLT, Nat.reduceLeDiff, Pl.times, Mk.turn, Pl.sv, rngs, Mk.sv, qts, qsv, fsv, Go.Od.ints, u32s, I, B]); all_goals (try simp [sub_q]); all_goals (try omega))
        (repeat' (first | with_reducible refine splitVC_d (fun _ => ?_) (fun _ => ?_) | with_reducible refine splitVC (fun _ => ?_) (fun _ => ?_) | ((with_reducible refine And.intro ?_ ?_); focus (first | exact True.intro | (simp only [InK]; omega) | omega | (simp only [InK, ne_eq, and_true, true_and]; omega) | trivial)) | (simp -dsimp only [↓RP, RQ, implies_true, forall_const, Nat.reduceMul, reduceIte, reduceCtorEq, Nat.reduceAdd, Nat.reduceEqDiff, Nat.reduceLT, Nat.reduceLeDiff, i1, i2, Int.zero_sub, Int.reduceEq, Int.reduceNeg, RZ, eq_self, eq23, TYq, TYp, TYm, TYn, TYw, TYx, TY62, by66, by74, QF, er, es, fsv, B, I, by2, TY, Try.results14])))
        refine callVC k2 ?_ ?_ ?_; iterate 2 focus ((simp -dsimp only [↓RP, RQ, implies_true, forall_const, Nat.reduceMul, reduceIte, reduceCtorEq, Nat.reduceAdd, Nat.reduceEqDiff, Nat.reduceLT, Nat.reduceLeDiff, Pl.times, Mk.turn, Pl.sv, rngs, Mk.sv, qts, qsv, fsv, Go.Od.ints, u32s, I, B]); all_goals (try simp [sub_q]); all_goals (try omega))
        (repeat' (first | with_reducible refine splitVC_d (fun _ => ?_) (fun _ => ?_) | with_reducible refine splitVC (fun _ => ?_) (fun _ => ?_) | ((with_reducible refine And.intro ?_ ?_); focus (first | exact True.intro | (simp only [InK]; omega) | omega | (simp only [InK, ne_eq, and_true, true_and]; omega) | trivial)) | (simp -dsimp only [↓RP, RQ, implies_true, forall_const, Nat.reduceMul, reduceIte, reduceCtorEq, Nat.reduceAdd, Nat.reduceEqDiff, Nat.reduceLT, Nat.reduceLeDiff, i1, i2, Int.zero_sub, Int.reduceEq, Int.reduceNeg, RZ, eq_self, eq23, TYq, TYp, TYm, TYn, TYw, TYx, TY62, by66, by74, QF, er, es, fsv, B, I, by2, TY, Try.results14])))
        refine callVC k3 ?_ ?_ ?_; iterate 2 focus ((simp -dsimp only [↓RP, RQ, implies_true, forall_const, Nat.reduceMul, reduceIte, reduceCtorEq, Nat.reduceAdd, Nat.reduceEqDiff, Nat.reduceLT, Nat.reduceLeDiff, Pl.times, Mk.turn, Pl.sv, rngs, Mk.sv, qts, qsv, fsv, Go.Od.ints, u32s, I, B]); all_goals (try simp [sub_q]); all_goals (try omega))
        (repeat' (first | with_reducible refine splitVC_d (fun _ => ?_) (fun _ => ?_) | with_reducible refine splitVC (fun _ => ?_) (fun _ => ?_) | ((with_reducible refine And.intro ?_ ?_); focus (first | exact True.intro | (simp only [InK]; omega) | omega | (simp only [InK, ne_eq, and_true, true_and]; omega) | trivial)) | (simp -dsimp only [↓RP, RQ, implies_true, forall_const, Nat.reduceMul, reduceIte, reduceCtorEq, Nat.reduceAdd, Nat.reduceEqDiff, Nat.reduceLT, Nat.reduceLeDiff, i1, i2, Int.zero_sub, Int.reduceEq, Int.reduceNeg, RZ, eq_self, eq23, TYq, TYp, TYm, TYn, TYw, TYx, TY62, by66, by74, QF, er, es, fsv, B, I, by2, TY, Try.results14])))
        refine callVC k4 ?_ ?_ ?_; iterate 2 focus ((simp -dsimp only [↓RP, RQ, implies_true, forall_const, Nat.reduceMul, reduceIte, reduceCtorEq, Nat.reduceAdd, Nat.reduceEqDiff, Nat.reduceLT, Nat.reduceLeDiff, Pl.times, Mk.turn, Pl.sv, rngs, Mk.sv, qts, qsv, fsv, Go.Od.ints, u32s, I, B]); all_goals (try simp [sub_q]); all_goals (try omega))
        (repeat' (first | with_reducible refine splitVC_d (fun _ => ?_) (fun _ => ?_) | with_reducible refine splitVC (fun _ => ?_) (fun _ => ?_) | ((with_reducible refine And.intro ?_ ?_); focus (first | exact True.intro | (simp only [InK]; omega) | omega | (simp only [InK, ne_eq, and_true, true_and]; omega) | trivial)) | (simp -dsimp only [↓RP, RQ, implies_true, forall_const, Nat.reduceMul, reduceIte, reduceCtorEq, Nat.reduceAdd, Nat.reduceEqDiff, Nat.reduceLT, Nat.reduceLeDiff, i1, i2, Int.zero_sub, Int.reduceEq, Int.reduceNeg, RZ, eq_self, eq23, TYq, TYp, TYm, TYn, TYw, TYx, TY62, by66, by74, QF, er, es, fsv, B, I, by2, TY, Try.results14])))
        refine callVC k5 ?_ ?_ ?_; iterate 2 focus ((simp -dsimp only [↓RP, RQ, implies_true, forall_const, Nat.reduceMul, reduceIte, reduceCtorEq, Nat.reduceAdd, Nat.reduceEqDiff, Nat.reduceLT, Nat.reduceLeDiff, Pl.times, Mk.turn, Pl.sv, rngs, Mk.sv, qts, qsv, fsv, Go.Od.ints, u32s, I, B]); all_goals (try simp [sub_q]); all_goals (try omega))
        (repeat' (first | with_reducible refine splitVC_d (fun _ => ?_) (fun _ => ?_) | with_reducible refine splitVC (fun _ => ?_) (fun _ => ?_) | ((with_reducible refine And.intro ?_ ?_); focus (first | exact True.intro | (simp only [InK]; omega) | omega | (simp only [InK, ne_eq, and_true, true_and]; omega) | trivial)) | (simp -dsimp only [↓RP, RQ, implies_true, forall_const, Nat.reduceMul, reduceIte, reduceCtorEq, Nat.reduceAdd, Nat.reduceEqDiff, Nat.reduceLT, Nat.reduceLeDiff, i1, i2, Int.zero_sub, Int.reduceEq, Int.reduceNeg, RZ, eq_self, eq23, TYq, TYp, TYm, TYn, TYw, TYx, TY62, by66, by74, QF, er, es, fsv, B, I, by2, TY, Try.results14])))
        refine callVC k6 ?_ ?_ ?_; iterate 2 focus ((simp -dsimp only [↓RP, RQ, implies_true, forall_const, Nat.reduceMul, reduceIte, reduceCtorEq, Nat.reduceAdd, Nat.reduceEqDiff, Nat.reduceLT, Nat.reduceLeDiff, Pl.times, Mk.turn, Pl.sv, rngs, Mk.sv, qts, qsv, fsv, Go.Od.ints, u32s, I, B]); all_goals (try simp [sub_q]); all_goals (try omega))
        (repeat' (first | with_reducible refine splitVC_d (fun _ => ?_) (fun _ => ?_) | with_reducible refine splitVC (fun _ => ?_) (fun _ => ?_) | ((with_reducible refine And.intro ?_ ?_); focus (first | exact True.intro | (simp only [InK]; omega) | omega | (simp only [InK, ne_eq, and_true, true_and]; omega) | trivial)) | (simp -dsimp only [↓RP, RQ, implies_true, forall_const, Nat.reduceMul, reduceIte, reduceCtorEq, Nat.reduceAdd, Nat.reduceEqDiff, Nat.reduceLT, Nat.reduceLeDiff, i1, i2, Int.zero_sub, Int.reduceEq, Int.reduceNeg, RZ, eq_self, eq23, TYq, TYp, TYm, TYn, TYw, TYx, TY62, by66, by74, QF, er, es, fsv, B, I, by2, TY, Try.results14])))
        refine callVC k7 ?_ ?_ ?_; iterate 2 focus ((simp -dsimp only [↓RP, RQ, implies_true, forall_const, Nat.reduceMul, reduceIte, reduceCtorEq, Nat.reduceAdd, Nat.reduceEqDiff, Nat.reduceLT, Nat.reduceLeDiff, Pl.times, Mk.turn, Pl.sv, rngs, Mk.sv, qts, qsv, fsv, Go.Od.ints, u32s, I, B]); all_goals (try simp [sub_q]); all_goals (try omega))
        (repeat' (first | with_reducible refine splitVC_d (fun _ => ?_) (fun _ => ?_) | with_reducible refine splitVC (fun _ => ?_) (fun _ => ?_) | ((with_reducible refine And.intro ?_ ?_); focus (first | exact True.intro | (simp only [InK]; omega) | omega | (simp only [InK, ne_eq, and_true, true_and]; omega) | trivial)) | (simp -dsimp only [↓RP, RQ, implies_true, forall_const, Nat.reduceMul, reduceIte, reduceCtorEq, Nat.reduceAdd, Nat.reduceEqDiff, Nat.reduceLT, Nat.reduceLeDiff, i1, i2, Int.zero_sub, Int.reduceEq, Int.reduceNeg, RZ, eq_self, eq23, TYq, TYp, TYm, TYn, TYw, TYx, TY62, by66, by74, QF, er, es, fsv, B, I, by2, TY, Try.results14])))
        all_goals first | (exfalso; omega) | skip
        refine ⟨r + 1, by omega, by omega, weak [(1, some 1), (60, some 60)] [] ?_ ?_ ?_⟩
        all_goals ((simp -dsimp only [↓RP, RQ, implies_true, forall_const, Nat.reduceMul, reduceIte, reduceCtorEq, Nat.reduceAdd, Nat.reduceEqDiff, Nat.reduceLT, Nat.reduceLeDiff, stV]); all_goals (try simp [wk_q]))
        all_goals trace_state
      · unfold stV
        (repeat' (first | with_reducible refine splitVC_d (fun _ => ?_) (fun _ => ?_) | with_reducible refine splitVC (fun _ => ?_) (fun _ => ?_) | ((with_reducible refine And.intro ?_ ?_); focus (first | exact True.intro | (simp only [InK]; omega) | omega | (simp only [InK, ne_eq, and_true, true_and]; omega) | trivial)) | (simp -dsimp only [↓RP, RQ, implies_true, forall_const, Nat.reduceMul, reduceIte, reduceCtorEq, Nat.reduceAdd, Nat.reduceEqDiff, Nat.reduceLT, Nat.reduceLeDiff, Int.reduceEq, Int.reduceNeg, RZ, eq_self, eq23, TYq, TYp, TYm, TYn, TYw, TYx, TY62, by66, by74, QF, er, es, fsv, B, I, by2, TY, Try.results14])))
        all_goals first | (exfalso; omega) | skip
        refine callVC c22 ?_ ?_ ?_; iterate 2 focus ((simp -dsimp only [↓RP, RQ, implies_true, forall_const, Nat.reduceMul, reduceIte, reduceCtorEq, Nat.reduceAdd, Nat.reduceEqDiff, Nat.reduceLT, Nat.reduceLeDiff, Pl.times, Mk.turn, Pl.sv, rngs, Mk.sv, qts, qsv, fsv, Go.Od.ints, u32s, I, B]); all_goals (try simp [sub_q]); all_goals (try omega))
        (repeat' (first | with_reducible refine splitVC_d (fun _ => ?_) (fun _ => ?_) | with_reducible refine splitVC (fun _ => ?_) (fun _ => ?_) | ((with_reducible refine And.intro ?_ ?_); focus (first | exact True.intro | (simp only [InK]; omega) | omega | (simp only [InK, ne_eq, and_true, true_and]; omega) | trivial)) | (simp -dsimp only [↓RP, RQ, implies_true, forall_const, Nat.reduceMul, reduceIte, reduceCtorEq, Nat.reduceAdd, Nat.reduceEqDiff, Nat.reduceLT, Nat.reduceLeDiff, Int.reduceEq, Int.reduceNeg, RZ, eq_self, eq23, TYq, TYp, TYm, TYn, TYw, TYx, TY62, by66, by74, QF, er, es, fsv, B, I, by2, TY, Try.results14])))
        all_goals trace_state
end Go.Od
end
