/- A part of the proof. -/
import Derived.Test.YtbomildlhnllhaaOI
import Derived.Test.YtbomildlhnllhaaOJ
import Derived.Test.YtbomildlhnllhaaOK
import Derived.Test.YtbomildlhnllhaaEF
section
set_option linter.unusedSimpArgs false
set_option linter.unusedVariables false
set_option linter.defProp false
set_option maxRecDepth 100000
set_option maxHeartbeats 16000000
namespace Go.Od
open Go.Proofs
open Go.Sx
theorem TYx : True ∧ tyOf Try.prog 54 = some ⟨false, 1, some [.slice none 0 0], .slice 57 1⟩ ∧ tyOf Try.prog 57 = some ⟨false, 1, some [.int .u32 0], .int .u32⟩ := ⟨trivial, by kernel_rfl, by kernel_rfl⟩
end Go.Od
end
section
set_option linter.unusedSimpArgs false
set_option linter.unusedVariables false
set_option linter.defProp false
set_option maxRecDepth 100000
set_option maxHeartbeats 16000000
namespace Go.Od
open Go.Proofs
open Go.Sx
end Go.Od
end
section
set_option linter.unusedSimpArgs false
set_option linter.unusedVariables false
set_option linter.defProp false
set_option maxRecDepth 100000
set_option maxHeartbeats 16000000
namespace Go.Od
open Go.Proofs
open Go.Sx
theorem ctB {f : FuncId} {ag : List SV} {p : Prop} [Decidable p] (h : Contract Try.prog f ag (B (decide p))) (hp : p) : Contract Try.prog f ag (B true) := by rwa [decide_eq_true hp] at h
theorem cfB {f : FuncId} {ag : List SV} {p : Prop} [Decidable p] (h : Contract Try.prog f ag (B (decide p))) (hp : ¬ p) : Contract Try.prog f ag (B false) := by rwa [decide_eq_false hp] at h
theorem InK_mul {a b A B : Int} (a0 : -A ≤ a) (a1 : a ≤ A) (A0 : 0 ≤ A) (b0 : 0 ≤ b) (b1 : b ≤ B) (h : A * B ≤ 9000000000000000000) : InK .i64 (a * b) := by
  have ⟨h1, h2⟩ := mul_inn a b A B a0 a1 A0 b0 b1
  simp only [InK]; omega
end Go.Od
end
section
set_option linter.unusedSimpArgs false
set_option linter.unusedVariables false
set_option linter.defProp false
set_option maxRecDepth 100000
set_option maxHeartbeats 16000000
namespace Go.Od
open Go.Proofs
open Go.Sx
theorem TY62 : True ∧ tyOf Try.prog 62 = some ⟨true, 2, some [.int .u32 0, .int .u32 0], .array 2 57 1⟩ ∧ tyOf Try.prog 63 = some ⟨false, 1, some [.int .u16 0], .int .u16⟩ := ⟨trivial, by kernel_rfl, by kernel_rfl⟩
def U16 (n : Int) : SV := .val (.int .u16 n)
end Go.Od
end
section
set_option linter.unusedSimpArgs false
set_option linter.unusedVariables false
set_option linter.defProp false
set_option maxRecDepth 100000
set_option maxHeartbeats 16000000
namespace Go.Od
open Go.Proofs
open Go.Sx
theorem c53 (r : Fr) : Contract Try.prog 53 [fsv r] (B (decide (saneF r))) := by
  refine contract_of Try.func53 rfl (by kernel_rfl) follows (by kernel_rfl) _ _ (by rw [Try.ntmps53]; simp) (by simp only [OldL, fsv_old, and_self]) ?_
  unfold B
  conv => arg 4; unfold fsv I
  (repeat' (first | with_reducible refine splitVC_d (fun _ => ?_) (fun _ => ?_) | with_reducible refine splitVC (fun _ => ?_) (fun _ => ?_) | ((with_reducible refine And.intro ?_ ?_); focus (first | exact True.intro | (simp only [InK]; omega) | omega | (simp only [InK, ne_eq, and_true, true_and]; omega) | exact ⟨.inr trivial, Nat.le_refl _, one1 _, by omega⟩ | exact ⟨.inr trivial, Nat.le_refl _, one1 _, by omega, by kernel_rfl⟩ | trivial)) | (simp -dsimp only [↓RP, RQ, implies_true, forall_const, Nat.reduceMul, reduceIte, reduceCtorEq, Nat.reduceAdd, Nat.reduceEqDiff, Nat.reduceLT, Nat.reduceLeDiff, Int.reduceEq, Int.reduceNeg, RZ, eq_self, eq23, TYq, TYp, TYm, TYn, TYw, TYx, fsv, B, I, by2, TY, Try.results53])))
  all_goals refine B_eq ?_
  · rw [Bool.eq_iff_iff, decide_eq_true_iff, decide_eq_true_iff]
    exact ⟨fun h => ⟨⟨by omega, by omega⟩, by omega, h⟩, fun h => h.2.2⟩
  all_goals (symm; refine decide_eq_false fun h => ?_; have := h.1; have := h.2; omega)
theorem sane_lt {a b : Fr} (ha : saneF a) (hb : saneF b) : InK .i64 (a.n * b.d) ∧ InK .i64 (b.n * a.d) := by
  have ⟨⟨a1, a2⟩, a3, a4⟩ := ha
  have ⟨⟨b1, b2⟩, b3, b4⟩ := hb
  exact ⟨InK_mul (A := 8000000000) (B := 1000000000) (by omega) (by omega) (by omega) (by omega) (by omega) (by omega), InK_mul (A := 8000000000) (B := 1000000000) (by omega) (by omega) (by omega) (by omega) (by omega) (by omega)⟩
end Go.Od
end
section
set_option linter.unusedSimpArgs false
set_option linter.unusedVariables false
set_option linter.defProp false
set_option maxRecDepth 100000
set_option maxHeartbeats 16000000
namespace Go.Od
open Go.Proofs
open Go.Sx
theorem by66 : bytesOf Try.prog 66 = 16 := by kernel_rfl
theorem lst55 (t : Nat → Int) (i : Nat) : ∀ a b, a < i + 1 + 1 → b < 2 → i + 1 ≤ a → [SV.val (Value.int IntKind.i64 (t (i + 1))), SV.val (Value.int IntKind.i64 (t (i + 1)))][(a - (i + 1)) * 2 + b]?.getD SV.top = SV.val (Value.int IntKind.i64 (t a)) := by
  intro a b h1 h2 h3
  obtain rfl : a = i + 1 := by omega
  rw [Nat.sub_self, Nat.zero_mul, Nat.zero_add]
  have : b = 0 ∨ b = 1 := by omega
  rcases this with rfl | rfl <;> rfl
theorem one22 (a b : Int) : ∀ i j, i < 1 → j < 2 → oneCell ([SV.val (.int .i64 a), SV.val (.int .i64 b)].getD (i * 2 + j) SV.top) = true := by
  intro i j h1 h2
  obtain rfl : i = 0 := by omega
  have : j = 0 ∨ j = 1 := by omega
  rcases this with rfl | rfl <;> rfl
def st55 (m : Nat) (t : Nat → Int) (cut : Int) (z : Nat) : St :=
  match z with
  | 0 => ⟨[(0, .arr false false m 1 (fun i _ => .val (.int .i64 (t i)))), (1, .val (.int .i64 cut)), (4, .ptr 0 0), (5, .ptr 3 0), (6, .val (.int .i64 0))], [(3, .cells 36 [.val (.slice none 0 0), .val (.int .i64 cut)]), (0, .cells 36 [.val (.slice none 0 0), .val (.int .i64 0)])], 20⟩
  | i + 1 => ⟨[(0, .arr false false m 1 (fun i _ => .val (.int .i64 (t i)))), (1, .val (.int .i64 cut)), (4, .ptr 0 0), (5, .ptr 3 0), (6, .val (.int .i64 (i + 1 : Nat)))], [(60, .rows 66 2 (i + 1) (fun a _ => .val (.int .i64 (t a)))), (3, .cells 36 [.vec 60 (i + 1) 2, .val (.int .i64 cut)]), (0, .cells 36 [.val (.slice none 0 0), .val (.int .i64 0)])], 61⟩
theorem st55_0 (m : Nat) (t : Nat → Int) (cut : Int) : st55 m t cut 0 = ⟨[(0, .arr false false m 1 (fun i _ => .val (.int .i64 (t i)))), (1, .val (.int .i64 cut)), (4, .ptr 0 0), (5, .ptr 3 0), (6, .val (.int .i64 0))], [(3, .cells 36 [.val (.slice none 0 0), .val (.int .i64 cut)]), (0, .cells 36 [.val (.slice none 0 0), .val (.int .i64 0)])], 20⟩ := rfl
theorem st55_s (m : Nat) (t : Nat → Int) (cut : Int) (i : Nat) : st55 m t cut (i + 1) = ⟨[(0, .arr false false m 1 (fun i _ => .val (.int .i64 (t i)))), (1, .val (.int .i64 cut)), (4, .ptr 0 0), (5, .ptr 3 0), (6, .val (.int .i64 (i + 1 : Nat)))], [(60, .rows 66 2 (i + 1) (fun a _ => .val (.int .i64 (t a)))), (3, .cells 36 [.vec 60 (i + 1) 2, .val (.int .i64 cut)]), (0, .cells 36 [.val (.slice none 0 0), .val (.int .i64 0)])], 61⟩ := rfl
theorem c55 (m : Nat) (hm0 : 1 ≤ m) (hm : m ≤ 1000) (t : Nat → Int) (cut : Int) : Contract Try.prog 55 [ints m t, I cut] (.agg [.arr true false m 2 (fun i _ => .val (.int .i64 (t i))), I cut]) := by
  refine contract_of Try.func55 rfl (by kernel_rfl) follows (by kernel_rfl) _ _ (by rw [Try.ntmps55]; simp) (by simp [OldL, Old, Go.Od.ints, I]) ?_
  conv => arg 4; unfold Go.Od.ints I
  (repeat' (first | with_reducible refine splitVC_d (fun _ => ?_) (fun _ => ?_) | with_reducible refine splitVC (fun _ => ?_) (fun _ => ?_) | ((with_reducible refine And.intro ?_ ?_); focus (first | exact True.intro | (simp only [InK]; omega) | omega | (simp only [InK, ne_eq, and_true, true_and]; omega) | exact ⟨.inr trivial, Nat.le_refl _, one22 _ _, by omega, by kernel_rfl⟩ | exact ⟨.inr trivial, Nat.le_refl _, one22 _ _, by omega⟩ | exact ⟨.inr trivial, Nat.le_refl _, one1 _, by omega⟩ | exact ⟨.inr trivial, Nat.le_refl _, one1 _, by omega, by kernel_rfl⟩ | exact ⟨.inr trivial, Nat.le_refl _, one2 _ _, by omega⟩ | exact ⟨.inr trivial, Nat.le_refl _, one2 _ _, by omega, by kernel_rfl⟩ | trivial)) | (simp -dsimp only [↓RP, RQ, implies_true, forall_const, Nat.reduceMul, reduceIte, reduceCtorEq, Nat.reduceAdd, Nat.reduceEqDiff, Nat.reduceLT, Nat.reduceLeDiff, Int.reduceEq, Int.reduceNeg, RZ, eq_self, eq23, TYq, TYp, TYm, TYn, TYw, TYx, by66, fsv, B, I, by2, TY, Try.results55])))
  refine loop_vc (fun i => i ≤ m) (st55 m t cut) (fun i => m - i) 0 (Nat.zero_le _) (weak [] [] ?_ ?_ ?_) fun i hi => ?_
  · (simp -dsimp only [↓RP, RQ, implies_true, forall_const, Nat.reduceMul, reduceIte, reduceCtorEq, Nat.reduceAdd, Nat.reduceEqDiff, Nat.reduceLT, Nat.reduceLeDiff, st55]); all_goals (try simp [wk_q])
  · (simp -dsimp only [↓RP, RQ, implies_true, forall_const, Nat.reduceMul, reduceIte, reduceCtorEq, Nat.reduceAdd, Nat.reduceEqDiff, Nat.reduceLT, Nat.reduceLeDiff, st55]); all_goals (try simp [wk_q])
  · (simp -dsimp only [↓RP, RQ, implies_true, forall_const, Nat.reduceMul, reduceIte, reduceCtorEq, Nat.reduceAdd, Nat.reduceEqDiff, Nat.reduceLT, Nat.reduceLeDiff, st55]); all_goals (try simp [wk_q])
  by_cases hlt : i < m
  · cases i with
    | zero =>
      rw [st55_0]
      (repeat' (first | with_reducible refine splitVC_d (fun _ => ?_) (fun _ => ?_) | with_reducible refine splitVC (fun _ => ?_) (fun _ => ?_) | ((with_reducible refine And.intro ?_ ?_); focus (first | exact True.intro | (simp only [InK]; omega) | omega | (simp only [InK, ne_eq, and_true, true_and]; omega) | exact ⟨.inr trivial, Nat.le_refl _, one22 _ _, by omega, by kernel_rfl⟩ | exact ⟨.inr trivial, Nat.le_refl _, one22 _ _, by omega⟩ | exact ⟨.inr trivial, Nat.le_refl _, one1 _, by omega⟩ | exact ⟨.inr trivial, Nat.le_refl _, one1 _, by omega, by kernel_rfl⟩ | exact ⟨.inr trivial, Nat.le_refl _, one2 _ _, by omega⟩ | exact ⟨.inr trivial, Nat.le_refl _, one2 _ _, by omega, by kernel_rfl⟩ | trivial)) | (simp -dsimp only [↓RP, RQ, implies_true, forall_const, Nat.reduceMul, reduceIte, reduceCtorEq, Nat.reduceAdd, Nat.reduceEqDiff, Nat.reduceLT, Nat.reduceLeDiff, Int.reduceEq, Int.reduceNeg, RZ, eq_self, eq23, TYq, TYp, TYm, TYn, TYw, TYx, by66, fsv, B, I, by2, TY, Try.results55])))
      all_goals first | (exfalso; omega) | skip
      refine ⟨0 + 1, by omega, by omega, weak [(60, some 36)] [] ?_ ?_ ?_⟩
      all_goals ((simp -dsimp only [↓RP, RQ, implies_true, forall_const, Nat.reduceMul, reduceIte, reduceCtorEq, Nat.reduceAdd, Nat.reduceEqDiff, Nat.reduceLT, Nat.reduceLeDiff, st55]); all_goals (try simp [wk_q]))
      all_goals (intro a b h1 h2; subst h1; have : b = 0 ∨ b = 1 := (by omega); rcases this with rfl | rfl <;> rfl)
    | succ i =>
      rw [st55_s]
      (repeat' (first | with_reducible refine splitVC_d (fun _ => ?_) (fun _ => ?_) | with_reducible refine splitVC (fun _ => ?_) (fun _ => ?_) | ((with_reducible refine And.intro ?_ ?_); focus (first | exact True.intro | (simp only [InK]; omega) | omega | (simp only [InK, ne_eq, and_true, true_and]; omega) | exact ⟨.inr trivial, Nat.le_refl _, one22 _ _, by omega, by kernel_rfl⟩ | exact ⟨.inr trivial, Nat.le_refl _, one22 _ _, by omega⟩ | exact ⟨.inr trivial, Nat.le_refl _, one1 _, by omega⟩ | exact ⟨.inr trivial, Nat.le_refl _, one1 _, by omega, by kernel_rfl⟩ | exact ⟨.inr trivial, Nat.le_refl _, one2 _ _, by omega⟩ | exact ⟨.inr trivial, Nat.le_refl _, one2 _ _, by omega, by kernel_rfl⟩ | trivial)) | (simp -dsimp only [↓RP, RQ, implies_true, forall_const, Nat.reduceMul, reduceIte, reduceCtorEq, Nat.reduceAdd, Nat.reduceEqDiff, Nat.reduceLT, Nat.reduceLeDiff, Int.reduceEq, Int.reduceNeg, RZ, eq_self, eq23, TYq, TYp, TYm, TYn, TYw, TYx, by66, fsv, B, I, by2, TY, Try.results55])))
      all_goals first | (exfalso; omega) | skip
      refine ⟨i + 1 + 1, by omega, by omega, weak [(60, some 77)] [] ?_ ?_ ?_⟩
      all_goals ((simp -dsimp only [↓RP, RQ, implies_true, forall_const, Nat.reduceMul, reduceIte, reduceCtorEq, Nat.reduceAdd, Nat.reduceEqDiff, Nat.reduceLT, Nat.reduceLeDiff, st55]); all_goals (try simp [wk_q]))
      all_goals exact lst55 _ _
  · obtain rfl : i = m := by omega
    obtain ⟨j, rfl⟩ : ∃ j, i = j + 1 := ⟨i - 1, by omega⟩
    rw [st55_s]
    (repeat' (first | with_reducible refine splitVC_d (fun _ => ?_) (fun _ => ?_) | with_reducible refine splitVC (fun _ => ?_) (fun _ => ?_) | ((with_reducible refine And.intro ?_ ?_); focus (first | exact True.intro | (simp only [InK]; omega) | omega | (simp only [InK, ne_eq, and_true, true_and]; omega) | exact ⟨.inr trivial, Nat.le_refl _, one22 _ _, by omega, by kernel_rfl⟩ | exact ⟨.inr trivial, Nat.le_refl _, one22 _ _, by omega⟩ | exact ⟨.inr trivial, Nat.le_refl _, one1 _, by omega⟩ | exact ⟨.inr trivial, Nat.le_refl _, one1 _, by omega, by kernel_rfl⟩ | exact ⟨.inr trivial, Nat.le_refl _, one2 _ _, by omega⟩ | exact ⟨.inr trivial, Nat.le_refl _, one2 _ _, by omega, by kernel_rfl⟩ | trivial)) | (simp -dsimp only [↓RP, RQ, implies_true, forall_const, Nat.reduceMul, reduceIte, reduceCtorEq, Nat.reduceAdd, Nat.reduceEqDiff, Nat.reduceLT, Nat.reduceLeDiff, Int.reduceEq, Int.reduceNeg, RZ, eq_self, eq23, TYq, TYp, TYm, TYn, TYw, TYx, by66, fsv, B, I, by2, TY, Try.results55])))
    all_goals first | (exfalso; omega) | skip
    all_goals exact Nat.le_refl _
end Go.Od
end
section
set_option linter.unusedSimpArgs false
set_option linter.unusedVariables false
set_option linter.defProp false
set_option maxRecDepth 100000
set_option maxHeartbeats 16000000
namespace Go.Od
open Go.Proofs
open Go.Sx
theorem ask_0 {p : Pl} (hf : p.Fine) {k : Nat} (hk : k < p.n) : p.ask k = 0 := by unfold Pl.ask; rw [if_pos hf.err, if_neg (by omega)]
end Go.Od
end
section
set_option linter.unusedSimpArgs false
set_option linter.unusedVariables false
set_option linter.defProp false
set_option maxRecDepth 100000
set_option maxHeartbeats 16000000
namespace Go.Od
open Go.Proofs
open Go.Sx
theorem by74 : bytesOf Try.prog 74 = 32 := by kernel_rfl
theorem one4 (q : Qt) : ∀ (i j : Nat), i < 1 → j < 4 → oneCell ([SV.val (.int .i64 q.r), SV.val (.int .i64 q.n), SV.val (.int .i64 q.d), SV.val (.bool q.l)].getD (i * 4 + j) SV.top) = true := by
  intro i j hi hj
  obtain rfl : i = 0 := by omega
  have : j = 0 ∨ j = 1 ∨ j = 2 ∨ j = 3 := by omega
  rcases this with rfl | rfl | rfl | rfl <;> rfl
end Go.Od
end
section
set_option linter.unusedSimpArgs false
set_option linter.unusedVariables false
set_option linter.defProp false
set_option maxRecDepth 100000
set_option maxHeartbeats 16000000
namespace Go.Od
open Go.Proofs
open Go.Sx
theorem TY72 : True ∧ tyOf Try.prog 72 = some ⟨false, 1, some [.slice none 0 0], .slice 5 1⟩ := ⟨trivial, by kernel_rfl⟩
def U8S (k : Nat) (u : Nat → Int) : SV := .arr false false k 1 (fun i _ => .val (.int .u8 (u i)))
def t12 (u : Nat → Int) (i : Nat) : Int := 1 + (u i).tmod 10
def stA (k : Nat) (u t : Nat → Int) (cut : Int) (z : Nat) : St :=
  match z with
  | 0 => ⟨[(0, .arr false false k 1 (fun i _ => .val (.int .u8 (u i)))), (1, .val (.int .u16 cut)), (4, .val (.bool false)), (5, .val (.slice none 0 0)), (6, .val (.int .i64 0))], [], 20⟩
  | i + 1 => ⟨[(0, .arr false false k 1 (fun i _ => .val (.int .u8 (u i)))), (1, .val (.int .u16 cut)), (4, .val (.bool false)), (5, .vec 60 (i + 1) 1), (6, .val (.int .i64 (i + 1 : Nat)))], [(60, .rows 2 1 (i + 1) (fun a _ => .val (.int .i64 (t a))))], 61⟩
theorem stA_0 (k : Nat) (u t : Nat → Int) (cut : Int) : stA k u t cut 0 = ⟨[(0, .arr false false k 1 (fun i _ => .val (.int .u8 (u i)))), (1, .val (.int .u16 cut)), (4, .val (.bool false)), (5, .val (.slice none 0 0)), (6, .val (.int .i64 0))], [], 20⟩ := rfl
theorem stA_s (k : Nat) (u t : Nat → Int) (cut : Int) (i : Nat) : stA k u t cut (i + 1) = ⟨[(0, .arr false false k 1 (fun i _ => .val (.int .u8 (u i)))), (1, .val (.int .u16 cut)), (4, .val (.bool false)), (5, .vec 60 (i + 1) 1), (6, .val (.int .i64 (i + 1 : Nat)))], [(60, .rows 2 1 (i + 1) (fun a _ => .val (.int .i64 (t a))))], 61⟩ := rfl
def stB (k : Nat) (u t : Nat → Int) (cm : Int) (z : Nat) : St :=
  match z with
  | 0 => ⟨[(0, .arr false false k 1 (fun i _ => .val (.int .u8 (u i)))), (4, .val (.bool false)), (5, .vec 60 k 1), (7, .val (.int .i64 cm)), (8, .ptr 61 0), (9, .val (.int .i64 0))], [(61, .cells 44 [.val (.int .i64 (k : Nat)), .val (.slice none 0 0)]), (60, .rows 2 1 k (fun a _ => .val (.int .i64 (t a))))], 63⟩
  | i + 1 => ⟨[(0, .arr false false k 1 (fun i _ => .val (.int .u8 (u i)))), (4, .val (.bool false)), (5, .vec 60 k 1), (7, .val (.int .i64 cm)), (8, .ptr 61 0), (9, .val (.int .i64 (i + 1 : Nat)))], [(62, .rows 74 4 (i + 1) (fun a b => qf (ktQ t k a) b)), (61, .cells 44 [.val (.int .i64 (k : Nat)), .vec 62 (i + 1) 4]), (60, .rows 2 1 k (fun a _ => .val (.int .i64 (t a))))], 63⟩
theorem stB_0 (k : Nat) (u t : Nat → Int) (cm : Int) : stB k u t cm 0 = ⟨[(0, .arr false false k 1 (fun i _ => .val (.int .u8 (u i)))), (4, .val (.bool false)), (5, .vec 60 k 1), (7, .val (.int .i64 cm)), (8, .ptr 61 0), (9, .val (.int .i64 0))], [(61, .cells 44 [.val (.int .i64 (k : Nat)), .val (.slice none 0 0)]), (60, .rows 2 1 k (fun a _ => .val (.int .i64 (t a))))], 63⟩ := rfl
theorem stB_s (k : Nat) (u t : Nat → Int) (cm : Int) (i : Nat) : stB k u t cm (i + 1) = ⟨[(0, .arr false false k 1 (fun i _ => .val (.int .u8 (u i)))), (4, .val (.bool false)), (5, .vec 60 k 1), (7, .val (.int .i64 cm)), (8, .ptr 61 0), (9, .val (.int .i64 (i + 1 : Nat)))], [(62, .rows 74 4 (i + 1) (fun a b => qf (ktQ t k a) b)), (61, .cells 44 [.val (.int .i64 (k : Nat)), .vec 62 (i + 1) 4]), (60, .rows 2 1 k (fun a _ => .val (.int .i64 (t a))))], 63⟩ := rfl
theorem lstB (t : Nat → Int) (n i : Nat) : ∀ a b, a < i + 1 + 1 → b < 4 → i + 1 ≤ a → [SV.val (.int .i64 (ktQ t n (i + 1)).r), SV.val (.int .i64 (ktQ t n (i + 1)).n), SV.val (.int .i64 (ktQ t n (i + 1)).d), SV.val (.bool (ktQ t n (i + 1)).l)][(a - (i + 1)) * 4 + b]?.getD SV.top = qf (ktQ t n a) b := by
  intro a b h1 h2 h3
  obtain rfl : a = i + 1 := by omega
  rw [Nat.sub_self, Nat.zero_mul, Nat.zero_add]
  have : b = 0 ∨ b = 1 ∨ b = 2 ∨ b = 3 := by omega
  rcases this with rfl | rfl | rfl | rfl <;> rfl
theorem lstW (hp : List (Nat × Blk)) (rn : Nat → Option Nat) (n : Nat) (sl : Nat → Bool) (t : Nat → Int) (k x : Nat) : ∀ a b, a < x + 1 + 1 → b < 4 → Wk hp rn n sl (qf (ktQ t k a) b) (if a < x + 1 then qf (ktQ t k a) b else [SV.val (.int .i64 (ktQ t k (x + 1)).r), SV.val (.int .i64 (ktQ t k (x + 1)).n), SV.val (.int .i64 (ktQ t k (x + 1)).d), SV.val (.bool (ktQ t k (x + 1)).l)][(a - (x + 1)) * 4 + b]?.getD SV.top) := by
  intro a b h1 h2
  by_cases e : a < x + 1
  · rw [if_pos e]; exact wk_q _ _ _ _ _ _
  · rw [if_neg e, lstB t k x a b h1 h2 (by omega)]; exact wk_q _ _ _ _ _ _
theorem lstW0 (hp : List (Nat × Blk)) (rn : Nat → Option Nat) (n : Nat) (sl : Nat → Bool) (t : Nat → Int) (k : Nat) : ∀ a b, a = 0 → b < 4 → Wk hp rn n sl (qf (ktQ t k a) b) ([SV.val (.int .i64 (ktQ t k 0).r), SV.val (.int .i64 (ktQ t k 0).n), SV.val (.int .i64 (ktQ t k 0).d), SV.val (.bool (ktQ t k 0).l)][a * 4 + b]?.getD SV.top) := by
  rintro a b rfl h2
  have : b = 0 ∨ b = 1 ∨ b = 2 ∨ b = 3 := by omega
  rcases this with rfl | rfl | rfl | rfl <;> exact wk_q hp rn n sl (ktQ t k 0) _
theorem lstA (t : Nat → Int) (i : Nat) : ∀ j, j < i + 1 + 1 → i + 1 ≤ j → [SV.val (Value.int IntKind.i64 (t (i + 1)))][j - (i + 1)]?.getD SV.top = SV.val (Value.int IntKind.i64 (t j)) := by
  intro j h1 h2
  obtain rfl : j = i + 1 := by omega
  rw [Nat.sub_self]; rfl
theorem c12 (k : Nat) (u : Nat → Int) (hu : ∀ i, i < k → 0 ≤ u i ∧ u i < 256) (cut : Int) (hcut : 0 ≤ cut ∧ cut < 65536) : Contract Try.prog 12 [U8S k u, U16 cut] (B true) := by
  refine contract_of Try.func12 rfl (by kernel_rfl) follows (by kernel_rfl) _ _ (by rw [Try.ntmps12]; simp) (by simp [OldL, Old, U8S, U16]) ?_
  unfold B
  conv => arg 4; unfold U8S U16
  by_cases hk : 1 ≤ k ∧ k ≤ 5
  rotate_left
  · (repeat' (first | with_reducible refine splitVC_d (fun _ => ?_) (fun _ => ?_) | with_reducible refine splitVC (fun _ => ?_) (fun _ => ?_) | ((with_reducible refine And.intro ?_ ?_); focus (first | exact True.intro | (simp only [InK]; omega) | omega | (simp only [InK, ne_eq, and_true, true_and]; omega) | exact ⟨.inr trivial, Nat.le_refl _, one1 _, by omega⟩ | exact ⟨.inr trivial, Nat.le_refl _, one4 _, by omega⟩ | exact ⟨.inr trivial, Nat.le_refl _, one1 _, by omega, by kernel_rfl⟩ | trivial)) | (simp -dsimp only [↓RP, RQ, implies_true, forall_const, Nat.reduceMul, reduceIte, reduceCtorEq, Nat.reduceAdd, Nat.reduceEqDiff, Nat.reduceLT, Nat.reduceLeDiff, Int.reduceEq, Int.reduceNeg, RZ, eq_self, eq23, TYq, TYp, TYm, TYn, TYw, TYx, TY62, TY72, by66, by74, QF, fsv, B, I, by2, TY, Try.results12])))
    all_goals first | (refine callVC c22 ?_ ?_ ?_; (iterate 2 focus ((simp -dsimp only [↓RP, RQ, implies_true, forall_const, Nat.reduceMul, reduceIte, reduceCtorEq, Nat.reduceAdd, Nat.reduceEqDiff, Nat.reduceLT, Nat.reduceLeDiff, kn, ktM, ktQ, Pl.sv, rngs, Mk.sv, qts, qsv, fsv, Go.Od.ints, I, B]); all_goals (try simp [sub_q]); all_goals (try omega))); (repeat' (first | with_reducible refine splitVC_d (fun _ => ?_) (fun _ => ?_) | with_reducible refine splitVC (fun _ => ?_) (fun _ => ?_) | ((with_reducible refine And.intro ?_ ?_); focus (first | exact True.intro | (simp only [InK]; omega) | omega | (simp only [InK, ne_eq, and_true, true_and]; omega) | exact ⟨.inr trivial, Nat.le_refl _, one1 _, by omega⟩ | exact ⟨.inr trivial, Nat.le_refl _, one4 _, by omega⟩ | exact ⟨.inr trivial, Nat.le_refl _, one1 _, by omega, by kernel_rfl⟩ | trivial)) | (simp -dsimp only [↓RP, RQ, implies_true, forall_const, Nat.reduceMul, reduceIte, reduceCtorEq, Nat.reduceAdd, Nat.reduceEqDiff, Nat.reduceLT, Nat.reduceLeDiff, Int.reduceEq, Int.reduceNeg, RZ, eq_self, eq23, TYq, TYp, TYm, TYn, TYw, TYx, TY62, TY72, by66, by74, QF, fsv, B, I, by2, TY, Try.results12]))); done) | (exfalso; omega) | skip
  have hT : Tru (t12 u) k := ⟨hk.1, hk.2, fun i hi => by
    have := hu i hi
    have a := Int.tmod_nonneg 10 this.1
    have b := Int.tmod_lt_of_pos (u i) (show (0 : Int) < 10 by omega)
    unfold t12; omega⟩
  have et : ∀ i, 1 + (u i).tmod 10 = t12 u i := fun _ => rfl
  have c0 := Int.tmod_nonneg 501 hcut.1
  have c1 := Int.tmod_lt_of_pos cut (show (0 : Int) < 501 by omega)
  obtain ⟨cm, ec⟩ : ∃ x, cut.tmod 501 = x := ⟨_, rfl⟩
  rw [ec] at c0 c1
  generalize t12 u = t at *
  (repeat' (first | with_reducible refine splitVC_d (fun _ => ?_) (fun _ => ?_) | with_reducible refine splitVC (fun _ => ?_) (fun _ => ?_) | ((with_reducible refine And.intro ?_ ?_); focus (first | exact True.intro | (simp only [InK]; omega) | omega | (simp only [InK, ne_eq, and_true, true_and]; omega) | exact ⟨.inr trivial, Nat.le_refl _, one1 _, by omega⟩ | exact ⟨.inr trivial, Nat.le_refl _, one4 _, by omega⟩ | exact ⟨.inr trivial, Nat.le_refl _, one1 _, by omega, by kernel_rfl⟩ | trivial)) | (simp -dsimp only [↓RP, RQ, implies_true, forall_const, Nat.reduceMul, reduceIte, reduceCtorEq, Nat.reduceAdd, Nat.reduceEqDiff, Nat.reduceLT, Nat.reduceLeDiff, Int.reduceEq, Int.reduceNeg, RZ, eq_self, eq23, TYq, TYp, TYm, TYn, TYw, TYx, TY62, TY72, by66, by74, QF, fsv, B, I, by2, TY, Try.results12])))
  all_goals first | (exfalso; omega) | skip
  refine loop_vc (fun i => i ≤ k) (stA k u t cut) (fun i => k - i) 0 (Nat.zero_le _) (weak [] [] ?_ ?_ ?_) fun i hi => ?_
  · (simp -dsimp only [↓RP, RQ, implies_true, forall_const, Nat.reduceMul, reduceIte, reduceCtorEq, Nat.reduceAdd, Nat.reduceEqDiff, Nat.reduceLT, Nat.reduceLeDiff, stA]); all_goals (try simp [wk_q])
  · (simp -dsimp only [↓RP, RQ, implies_true, forall_const, Nat.reduceMul, reduceIte, reduceCtorEq, Nat.reduceAdd, Nat.reduceEqDiff, Nat.reduceLT, Nat.reduceLeDiff, stA]); all_goals (try simp [wk_q])
  · (simp -dsimp only [↓RP, RQ, implies_true, forall_const, Nat.reduceMul, reduceIte, reduceCtorEq, Nat.reduceAdd, Nat.reduceEqDiff, Nat.reduceLT, Nat.reduceLeDiff, stA]); all_goals (try simp [wk_q])
  by_cases hlt : i < k
  · have hb := hu i hlt
    have ht := hT.t i hlt
    have b1 : InK .i64 (u i) := by simp only [InK]; omega
    have b2 := et i
    have b3 : InK .i64 (t i) := by simp only [InK]; omega
    cases i with
    | zero =>
      rw [stA_0]
      (repeat' (first | with_reducible refine splitVC_d (fun _ => ?_) (fun _ => ?_) | with_reducible refine splitVC (fun _ => ?_) (fun _ => ?_) | ((with_reducible refine And.intro ?_ ?_); focus (first | exact True.intro | (simp only [InK]; omega) | omega | (simp only [InK, ne_eq, and_true, true_and]; omega) | exact ⟨.inr trivial, Nat.le_refl _, one1 _, by omega⟩ | exact ⟨.inr trivial, Nat.le_refl _, one4 _, by omega⟩ | exact ⟨.inr trivial, Nat.le_refl _, one1 _, by omega, by kernel_rfl⟩ | trivial)) | (simp -dsimp only [↓RP, RQ, implies_true, forall_const, Nat.reduceMul, reduceIte, reduceCtorEq, Nat.reduceAdd, Nat.reduceEqDiff, Nat.reduceLT, Nat.reduceLeDiff, et, b1, b3, Int.reduceEq, Int.reduceNeg, RZ, eq_self, eq23, TYq, TYp, TYm, TYn, TYw, TYx, TY62, TY72, by66, by74, QF, fsv, B, I, by2, TY, Try.results12])))
      all_goals first | (exfalso; omega) | skip
      refine ⟨0 + 1, by omega, by omega, weak [(60, some 33)] [] ?_ ?_ ?_⟩
      all_goals ((simp -dsimp only [↓RP, RQ, implies_true, forall_const, Nat.reduceMul, reduceIte, reduceCtorEq, Nat.reduceAdd, Nat.reduceEqDiff, Nat.reduceLT, Nat.reduceLeDiff, stA]); all_goals (try simp [wk_q]))
    | succ i =>
      rw [stA_s]
      (repeat' (first | with_reducible refine splitVC_d (fun _ => ?_) (fun _ => ?_) | with_reducible refine splitVC (fun _ => ?_) (fun _ => ?_) | ((with_reducible refine And.intro ?_ ?_); focus (first | exact True.intro | (simp only [InK]; omega) | omega | (simp only [InK, ne_eq, and_true, true_and]; omega) | exact ⟨.inr trivial, Nat.le_refl _, one1 _, by omega⟩ | exact ⟨.inr trivial, Nat.le_refl _, one4 _, by omega⟩ | exact ⟨.inr trivial, Nat.le_refl _, one1 _, by omega, by kernel_rfl⟩ | trivial)) | (simp -dsimp only [↓RP, RQ, implies_true, forall_const, Nat.reduceMul, reduceIte, reduceCtorEq, Nat.reduceAdd, Nat.reduceEqDiff, Nat.reduceLT, Nat.reduceLeDiff, et, b1, b3, Int.reduceEq, Int.reduceNeg, RZ, eq_self, eq23, TYq, TYp, TYm, TYn, TYw, TYx, TY62, TY72, by66, by74, QF, fsv, B, I, by2, TY, Try.results12])))
      all_goals first | (exfalso; omega) | skip
      refine ⟨i + 1 + 1, by omega, by omega, weak [(60, some 74)] [] ?_ ?_ ?_⟩
      all_goals ((simp -dsimp only [↓RP, RQ, implies_true, forall_const, Nat.reduceMul, reduceIte, reduceCtorEq, Nat.reduceAdd, Nat.reduceEqDiff, Nat.reduceLT, Nat.reduceLeDiff, stA]); all_goals (try simp [wk_q]))
      all_goals exact lstA _ _
  · obtain rfl : i = k := by omega
    obtain ⟨j, ej⟩ : ∃ j, i = j + 1 := ⟨i - 1, by omega⟩
    rw [show stA i u t cut i = stA i u t cut (j + 1) by rw [ej], stA_s]
    (repeat' (first | with_reducible refine splitVC_d (fun _ => ?_) (fun _ => ?_) | with_reducible refine splitVC (fun _ => ?_) (fun _ => ?_) | ((with_reducible refine And.intro ?_ ?_); focus (first | exact True.intro | (simp only [InK]; omega) | omega | (simp only [InK, ne_eq, and_true, true_and]; omega) | exact ⟨.inr trivial, Nat.le_refl _, one1 _, by omega⟩ | exact ⟨.inr trivial, Nat.le_refl _, one4 _, by omega⟩ | exact ⟨.inr trivial, Nat.le_refl _, one1 _, by omega, by kernel_rfl⟩ | trivial)) | (simp -dsimp only [↓RP, RQ, implies_true, forall_const, Nat.reduceMul, reduceIte, reduceCtorEq, Nat.reduceAdd, Nat.reduceEqDiff, Nat.reduceLT, Nat.reduceLeDiff, ec, Int.reduceEq, Int.reduceNeg, RZ, eq_self, eq23, TYq, TYp, TYm, TYn, TYw, TYx, TY62, TY72, by66, by74, QF, fsv, B, I, by2, TY, Try.results12])))
    all_goals first | (exfalso; omega) | skip
    refine loop_vc (fun x => x ≤ i) (stB i u t cm) (fun x => i - x) 0 (Nat.zero_le _) (weak [(60, some 60), (61, some 72)] [] ?_ ?_ ?_) fun x hx => ?_
    · (simp -dsimp only [↓RP, RQ, implies_true, forall_const, Nat.reduceMul, reduceIte, reduceCtorEq, Nat.reduceAdd, Nat.reduceEqDiff, Nat.reduceLT, Nat.reduceLeDiff, stB]); all_goals (try simp [wk_q]); all_goals omega
    · (simp -dsimp only [↓RP, RQ, implies_true, forall_const, Nat.reduceMul, reduceIte, reduceCtorEq, Nat.reduceAdd, Nat.reduceEqDiff, Nat.reduceLT, Nat.reduceLeDiff, stB]); all_goals (try simp [wk_q]); all_goals omega
    · (simp -dsimp only [↓RP, RQ, implies_true, forall_const, Nat.reduceMul, reduceIte, reduceCtorEq, Nat.reduceAdd, Nat.reduceEqDiff, Nat.reduceLT, Nat.reduceLeDiff, stB]); all_goals (try simp [wk_q]); all_goals omega
    clear et ec hcut hu
    by_cases hlt : x < i
    · have ht := hT.t x hlt
      have fa := kn_fine hT (cut := 0) (by omega)
      have fb := kn_fine hT (cut := cm) (by omega)
      have za : ¬ (kn i t 0).lo x = 0 := by show ¬ t x = 0; omega
      have zb : ¬ (kn i t cm).lo x = 0 := by show ¬ t x = 0; omega
      have ca := c55 i hk.1 (by omega) t 0
      have cb := c55 i hk.1 (by omega) t cm
      have da := c26 (kn i t 0) x
      have db := c26 (kn i t cm) x
      rw [Pl.span_0 (ask_0 fa hlt) za, kn_span] at da
      rw [Pl.span_0 (ask_0 fb hlt) zb, kn_span] at db
      have ⟨r1, r2, r3, r4, _⟩ := hT.odd hlt
      have ⟨s1, s2, s3⟩ := hT.cut (cut := cm) (by omega) hlt
      have hq : Contract Try.prog 58 [I x, I (oddV (t x) (sumTo t i) 0).n, I (oddV (t x) (sumTo t i) 0).d, B false] (qsv (ktQ t i x)) := c58 (ktQ t i x)
      have k53 := ctB (c53 _) s1
      have k49 := cfB (c49 _ _ (sane_lt s2 s1).1 (sane_lt s2 s1).2) s3
      clear s1 s2 s3 fa fb za zb
      simp only [] at da db
      generalize oddV (t x) (sumTo t i) 0 = r at *
      generalize oddV (t x) (sumTo t i) cm = s at *
      have e1 : ¬ r.d < 1 := by omega
      have e2 : ¬ 10 < r.d := by omega
      have e3 : ¬ r.n < 0 := by omega
      have e4 : ¬ 190 < r.n := by omega
      cases x with
      | zero =>
        rw [stB_0]
        (repeat' (first | with_reducible refine splitVC_d (fun _ => ?_) (fun _ => ?_) | with_reducible refine splitVC (fun _ => ?_) (fun _ => ?_) | ((with_reducible refine And.intro ?_ ?_); focus (first | exact True.intro | (simp only [InK]; omega) | omega | (simp only [InK, ne_eq, and_true, true_and]; omega) | exact ⟨.inr trivial, Nat.le_refl _, one1 _, by omega⟩ | exact ⟨.inr trivial, Nat.le_refl _, one4 _, by omega⟩ | exact ⟨.inr trivial, Nat.le_refl _, one1 _, by omega, by kernel_rfl⟩ | trivial)) | (simp -dsimp only [↓RP, RQ, implies_true, forall_const, Nat.reduceMul, reduceIte, reduceCtorEq, Nat.reduceAdd, Nat.reduceEqDiff, Nat.reduceLT, Nat.reduceLeDiff, Int.reduceEq, Int.reduceNeg, RZ, eq_self, eq23, TYq, TYp, TYm, TYn, TYw, TYx, TY62, TY72, by66, by74, QF, fsv, B, I, by2, TY, Try.results12])))
        refine callVC ca ?_ ?_ ?_; iterate 2 focus ((simp -dsimp only [↓RP, RQ, implies_true, forall_const, Nat.reduceMul, reduceIte, reduceCtorEq, Nat.reduceAdd, Nat.reduceEqDiff, Nat.reduceLT, Nat.reduceLeDiff, kn, ktM, ktQ, Pl.sv, rngs, Mk.sv, qts, qsv, fsv, Go.Od.ints, I, B]); all_goals (try simp [sub_q]); all_goals (try omega))
        (repeat' (first | with_reducible refine splitVC_d (fun _ => ?_) (fun _ => ?_) | with_reducible refine splitVC (fun _ => ?_) (fun _ => ?_) | ((with_reducible refine And.intro ?_ ?_); focus (first | exact True.intro | (simp only [InK]; omega) | omega | (simp only [InK, ne_eq, and_true, true_and]; omega) | exact ⟨.inr trivial, Nat.le_refl _, one1 _, by omega⟩ | exact ⟨.inr trivial, Nat.le_refl _, one4 _, by omega⟩ | exact ⟨.inr trivial, Nat.le_refl _, one1 _, by omega, by kernel_rfl⟩ | trivial)) | (simp -dsimp only [↓RP, RQ, implies_true, forall_const, Nat.reduceMul, reduceIte, reduceCtorEq, Nat.reduceAdd, Nat.reduceEqDiff, Nat.reduceLT, Nat.reduceLeDiff, e1, e2, e3, e4, qsv, Int.reduceEq, Int.reduceNeg, RZ, eq_self, eq23, TYq, TYp, TYm, TYn, TYw, TYx, TY62, TY72, by66, by74, QF, fsv, B, I, by2, TY, Try.results12])))
        refine callVC da ?_ ?_ ?_; iterate 2 focus ((simp -dsimp only [↓RP, RQ, implies_true, forall_const, Nat.reduceMul, reduceIte, reduceCtorEq, Nat.reduceAdd, Nat.reduceEqDiff, Nat.reduceLT, Nat.reduceLeDiff, kn, ktM, ktQ, Pl.sv, rngs, Mk.sv, qts, qsv, fsv, Go.Od.ints, I, B]); all_goals (try simp [sub_q]); all_goals (try omega))
        (repeat' (first | with_reducible refine splitVC_d (fun _ => ?_) (fun _ => ?_) | with_reducible refine splitVC (fun _ => ?_) (fun _ => ?_) | ((with_reducible refine And.intro ?_ ?_); focus (first | exact True.intro | (simp only [InK]; omega) | omega | (simp only [InK, ne_eq, and_true, true_and]; omega) | exact ⟨.inr trivial, Nat.le_refl _, one1 _, by omega⟩ | exact ⟨.inr trivial, Nat.le_refl _, one4 _, by omega⟩ | exact ⟨.inr trivial, Nat.le_refl _, one1 _, by omega, by kernel_rfl⟩ | trivial)) | (simp -dsimp only [↓RP, RQ, implies_true, forall_const, Nat.reduceMul, reduceIte, reduceCtorEq, Nat.reduceAdd, Nat.reduceEqDiff, Nat.reduceLT, Nat.reduceLeDiff, e1, e2, e3, e4, qsv, Int.reduceEq, Int.reduceNeg, RZ, eq_self, eq23, TYq, TYp, TYm, TYn, TYw, TYx, TY62, TY72, by66, by74, QF, fsv, B, I, by2, TY, Try.results12])))
        refine callVC hq ?_ ?_ ?_; iterate 2 focus ((simp -dsimp only [↓RP, RQ, implies_true, forall_const, Nat.reduceMul, reduceIte, reduceCtorEq, Nat.reduceAdd, Nat.reduceEqDiff, Nat.reduceLT, Nat.reduceLeDiff, kn, ktM, ktQ, Pl.sv, rngs, Mk.sv, qts, qsv, fsv, Go.Od.ints, I, B]); all_goals (try simp [sub_q]); all_goals (try omega))
        (repeat' (first | with_reducible refine splitVC_d (fun _ => ?_) (fun _ => ?_) | with_reducible refine splitVC (fun _ => ?_) (fun _ => ?_) | ((with_reducible refine And.intro ?_ ?_); focus (first | exact True.intro | (simp only [InK]; omega) | omega | (simp only [InK, ne_eq, and_true, true_and]; omega) | exact ⟨.inr trivial, Nat.le_refl _, one1 _, by omega⟩ | exact ⟨.inr trivial, Nat.le_refl _, one4 _, by omega⟩ | exact ⟨.inr trivial, Nat.le_refl _, one1 _, by omega, by kernel_rfl⟩ | trivial)) | (simp -dsimp only [↓RP, RQ, implies_true, forall_const, Nat.reduceMul, reduceIte, reduceCtorEq, Nat.reduceAdd, Nat.reduceEqDiff, Nat.reduceLT, Nat.reduceLeDiff, e1, e2, e3, e4, qsv, Int.reduceEq, Int.reduceNeg, RZ, eq_self, eq23, TYq, TYp, TYm, TYn, TYw, TYx, TY62, TY72, by66, by74, QF, fsv, B, I, by2, TY, Try.results12])))
        refine callVC cb ?_ ?_ ?_; iterate 2 focus ((simp -dsimp only [↓RP, RQ, implies_true, forall_const, Nat.reduceMul, reduceIte, reduceCtorEq, Nat.reduceAdd, Nat.reduceEqDiff, Nat.reduceLT, Nat.reduceLeDiff, kn, ktM, ktQ, Pl.sv, rngs, Mk.sv, qts, qsv, fsv, Go.Od.ints, I, B]); all_goals (try simp [sub_q]); all_goals (try omega))
        (repeat' (first | with_reducible refine splitVC_d (fun _ => ?_) (fun _ => ?_) | with_reducible refine splitVC (fun _ => ?_) (fun _ => ?_) | ((with_reducible refine And.intro ?_ ?_); focus (first | exact True.intro | (simp only [InK]; omega) | omega | (simp only [InK, ne_eq, and_true, true_and]; omega) | exact ⟨.inr trivial, Nat.le_refl _, one1 _, by omega⟩ | exact ⟨.inr trivial, Nat.le_refl _, one4 _, by omega⟩ | exact ⟨.inr trivial, Nat.le_refl _, one1 _, by omega, by kernel_rfl⟩ | trivial)) | (simp -dsimp only [↓RP, RQ, implies_true, forall_const, Nat.reduceMul, reduceIte, reduceCtorEq, Nat.reduceAdd, Nat.reduceEqDiff, Nat.reduceLT, Nat.reduceLeDiff, e1, e2, e3, e4, qsv, Int.reduceEq, Int.reduceNeg, RZ, eq_self, eq23, TYq, TYp, TYm, TYn, TYw, TYx, TY62, TY72, by66, by74, QF, fsv, B, I, by2, TY, Try.results12])))
        refine callVC db ?_ ?_ ?_; iterate 2 focus ((simp -dsimp only [↓RP, RQ, implies_true, forall_const, Nat.reduceMul, reduceIte, reduceCtorEq, Nat.reduceAdd, Nat.reduceEqDiff, Nat.reduceLT, Nat.reduceLeDiff, kn, ktM, ktQ, Pl.sv, rngs, Mk.sv, qts, qsv, fsv, Go.Od.ints, I, B]); all_goals (try simp [sub_q]); all_goals (try omega))
        (repeat' (first | with_reducible refine splitVC_d (fun _ => ?_) (fun _ => ?_) | with_reducible refine splitVC (fun _ => ?_) (fun _ => ?_) | ((with_reducible refine And.intro ?_ ?_); focus (first | exact True.intro | (simp only [InK]; omega) | omega | (simp only [InK, ne_eq, and_true, true_and]; omega) | exact ⟨.inr trivial, Nat.le_refl _, one1 _, by omega⟩ | exact ⟨.inr trivial, Nat.le_refl _, one4 _, by omega⟩ | exact ⟨.inr trivial, Nat.le_refl _, one1 _, by omega, by kernel_rfl⟩ | trivial)) | (simp -dsimp only [↓RP, RQ, implies_true, forall_const, Nat.reduceMul, reduceIte, reduceCtorEq, Nat.reduceAdd, Nat.reduceEqDiff, Nat.reduceLT, Nat.reduceLeDiff, e1, e2, e3, e4, qsv, Int.reduceEq, Int.reduceNeg, RZ, eq_self, eq23, TYq, TYp, TYm, TYn, TYw, TYx, TY62, TY72, by66, by74, QF, fsv, B, I, by2, TY, Try.results12])))
        refine callVC k53 ?_ ?_ ?_; iterate 2 focus ((simp -dsimp only [↓RP, RQ, implies_true, forall_const, Nat.reduceMul, reduceIte, reduceCtorEq, Nat.reduceAdd, Nat.reduceEqDiff, Nat.reduceLT, Nat.reduceLeDiff, kn, ktM, ktQ, Pl.sv, rngs, Mk.sv, qts, qsv, fsv, Go.Od.ints, I, B]); all_goals (try simp [sub_q]); all_goals (try omega))
        (repeat' (first | with_reducible refine splitVC_d (fun _ => ?_) (fun _ => ?_) | with_reducible refine splitVC (fun _ => ?_) (fun _ => ?_) | ((with_reducible refine And.intro ?_ ?_); focus (first | exact True.intro | (simp only [InK]; omega) | omega | (simp only [InK, ne_eq, and_true, true_and]; omega) | exact ⟨.inr trivial, Nat.le_refl _, one1 _, by omega⟩ | exact ⟨.inr trivial, Nat.le_refl _, one4 _, by omega⟩ | exact ⟨.inr trivial, Nat.le_refl _, one1 _, by omega, by kernel_rfl⟩ | trivial)) | (simp -dsimp only [↓RP, RQ, implies_true, forall_const, Nat.reduceMul, reduceIte, reduceCtorEq, Nat.reduceAdd, Nat.reduceEqDiff, Nat.reduceLT, Nat.reduceLeDiff, e1, e2, e3, e4, qsv, Int.reduceEq, Int.reduceNeg, RZ, eq_self, eq23, TYq, TYp, TYm, TYn, TYw, TYx, TY62, TY72, by66, by74, QF, fsv, B, I, by2, TY, Try.results12])))
        refine callVC k49 ?_ ?_ ?_; iterate 2 focus ((simp -dsimp only [↓RP, RQ, implies_true, forall_const, Nat.reduceMul, reduceIte, reduceCtorEq, Nat.reduceAdd, Nat.reduceEqDiff, Nat.reduceLT, Nat.reduceLeDiff, kn, ktM, ktQ, Pl.sv, rngs, Mk.sv, qts, qsv, fsv, Go.Od.ints, I, B]); all_goals (try simp [sub_q]); all_goals (try omega))
        (repeat' (first | with_reducible refine splitVC_d (fun _ => ?_) (fun _ => ?_) | with_reducible refine splitVC (fun _ => ?_) (fun _ => ?_) | ((with_reducible refine And.intro ?_ ?_); focus (first | exact True.intro | (simp only [InK]; omega) | omega | (simp only [InK, ne_eq, and_true, true_and]; omega) | exact ⟨.inr trivial, Nat.le_refl _, one1 _, by omega⟩ | exact ⟨.inr trivial, Nat.le_refl _, one4 _, by omega⟩ | exact ⟨.inr trivial, Nat.le_refl _, one1 _, by omega, by kernel_rfl⟩ | trivial)) | (simp -dsimp only [↓RP, RQ, implies_true, forall_const, Nat.reduceMul, reduceIte, reduceCtorEq, Nat.reduceAdd, Nat.reduceEqDiff, Nat.reduceLT, Nat.reduceLeDiff, e1, e2, e3, e4, qsv, Int.reduceEq, Int.reduceNeg, RZ, eq_self, eq23, TYq, TYp, TYm, TYn, TYw, TYx, TY62, TY72, by66, by74, QF, fsv, B, I, by2, TY, Try.results12])))
        all_goals first | (exfalso; omega) | skip
        refine ⟨0 + 1, by omega, by omega, weak [(60, some 60), (61, some 61), (62, some 111)] [] ?_ ?_ ?_⟩
        all_goals ((simp -dsimp only [↓RP, RQ, implies_true, forall_const, Nat.reduceMul, reduceIte, reduceCtorEq, Nat.reduceAdd, Nat.reduceEqDiff, Nat.reduceLT, Nat.reduceLeDiff, stB]); all_goals (try simp [wk_q]))
        all_goals exact lstW0 _ _ _ _ _ _
      | succ x =>
        rw [stB_s]
        (repeat' (first | with_reducible refine splitVC_d (fun _ => ?_) (fun _ => ?_) | with_reducible refine splitVC (fun _ => ?_) (fun _ => ?_) | ((with_reducible refine And.intro ?_ ?_); focus (first | exact True.intro | (simp only [InK]; omega) | omega | (simp only [InK, ne_eq, and_true, true_and]; omega) | exact ⟨.inr trivial, Nat.le_refl _, one1 _, by omega⟩ | exact ⟨.inr trivial, Nat.le_refl _, one4 _, by omega⟩ | exact ⟨.inr trivial, Nat.le_refl _, one1 _, by omega, by kernel_rfl⟩ | trivial)) | (simp -dsimp only [↓RP, RQ, implies_true, forall_const, Nat.reduceMul, reduceIte, reduceCtorEq, Nat.reduceAdd, Nat.reduceEqDiff, Nat.reduceLT, Nat.reduceLeDiff, Int.reduceEq, Int.reduceNeg, RZ, eq_self, eq23, TYq, TYp, TYm, TYn, TYw, TYx, TY62, TY72, by66, by74, QF, fsv, B, I, by2, TY, Try.results12])))
        refine callVC ca ?_ ?_ ?_; iterate 2 focus ((simp -dsimp only [↓RP, RQ, implies_true, forall_const, Nat.reduceMul, reduceIte, reduceCtorEq, Nat.reduceAdd, Nat.reduceEqDiff, Nat.reduceLT, Nat.reduceLeDiff, kn, ktM, ktQ, Pl.sv, rngs, Mk.sv, qts, qsv, fsv, Go.Od.ints, I, B]); all_goals (try simp [sub_q]); all_goals (try omega))
        (repeat' (first | with_reducible refine splitVC_d (fun _ => ?_) (fun _ => ?_) | with_reducible refine splitVC (fun _ => ?_) (fun _ => ?_) | ((with_reducible refine And.intro ?_ ?_); focus (first | exact True.intro | (simp only [InK]; omega) | omega | (simp only [InK, ne_eq, and_true, true_and]; omega) | exact ⟨.inr trivial, Nat.le_refl _, one1 _, by omega⟩ | exact ⟨.inr trivial, Nat.le_refl _, one4 _, by omega⟩ | exact ⟨.inr trivial, Nat.le_refl _, one1 _, by omega, by kernel_rfl⟩ | trivial)) | (simp -dsimp only [↓RP, RQ, implies_true, forall_const, Nat.reduceMul, reduceIte, reduceCtorEq, Nat.reduceAdd, Nat.reduceEqDiff, Nat.reduceLT, Nat.reduceLeDiff, e1, e2, e3, e4, qsv, Int.reduceEq, Int.reduceNeg, RZ, eq_self, eq23, TYq, TYp, TYm, TYn, TYw, TYx, TY62, TY72, by66, by74, QF, fsv, B, I, by2, TY, Try.results12])))
        refine callVC da ?_ ?_ ?_; iterate 2 focus ((simp -dsimp only [↓RP, RQ, implies_true, forall_const, Nat.reduceMul, reduceIte, reduceCtorEq, Nat.reduceAdd, Nat.reduceEqDiff, Nat.reduceLT, Nat.reduceLeDiff, kn, ktM, ktQ, Pl.sv, rngs, Mk.sv, qts, qsv, fsv, Go.Od.ints, I, B]); all_goals (try simp [sub_q]); all_goals (try omega))
        (repeat' (first | with_reducible refine splitVC_d (fun _ => ?_) (fun _ => ?_) | with_reducible refine splitVC (fun _ => ?_) (fun _ => ?_) | ((with_reducible refine And.intro ?_ ?_); focus (first | exact True.intro | (simp only [InK]; omega) | omega | (simp only [InK, ne_eq, and_true, true_and]; omega) | exact ⟨.inr trivial, Nat.le_refl _, one1 _, by omega⟩ | exact ⟨.inr trivial, Nat.le_refl _, one4 _, by omega⟩ | exact ⟨.inr trivial, Nat.le_refl _, one1 _, by omega, by kernel_rfl⟩ | trivial)) | (simp -dsimp only [↓RP, RQ, implies_true, forall_const, Nat.reduceMul, reduceIte, reduceCtorEq, Nat.reduceAdd, Nat.reduceEqDiff, Nat.reduceLT, Nat.reduceLeDiff, e1, e2, e3, e4, qsv, Int.reduceEq, Int.reduceNeg, RZ, eq_self, eq23, TYq, TYp, TYm, TYn, TYw, TYx, TY62, TY72, by66, by74, QF, fsv, B, I, by2, TY, Try.results12])))
        refine callVC hq ?_ ?_ ?_; iterate 2 focus ((simp -dsimp only [↓RP, RQ, implies_true, forall_const, Nat.reduceMul, reduceIte, reduceCtorEq, Nat.reduceAdd, Nat.reduceEqDiff, Nat.reduceLT, Nat.reduceLeDiff, kn, ktM, ktQ, Pl.sv, rngs, Mk.sv, qts, qsv, fsv, Go.Od.ints, I, B]); all_goals (try simp [sub_q]); all_goals (try omega))
        (repeat' (first | with_reducible refine splitVC_d (fun _ => ?_) (fun _ => ?_) | with_reducible refine splitVC (fun _ => ?_) (fun _ => ?_) | ((with_reducible refine And.intro ?_ ?_); focus (first | exact True.intro | (simp only [InK]; omega) | omega | (simp only [InK, ne_eq, and_true, true_and]; omega) | exact ⟨.inr trivial, Nat.le_refl _, one1 _, by omega⟩ | exact ⟨.inr trivial, Nat.le_refl _, one4 _, by omega⟩ | exact ⟨.inr trivial, Nat.le_refl _, one1 _, by omega, by kernel_rfl⟩ | trivial)) | (simp -dsimp only [↓RP, RQ, implies_true, forall_const, Nat.reduceMul, reduceIte, reduceCtorEq, Nat.reduceAdd, Nat.reduceEqDiff, Nat.reduceLT, Nat.reduceLeDiff, e1, e2, e3, e4, qsv, Int.reduceEq, Int.reduceNeg, RZ, eq_self, eq23, TYq, TYp, TYm, TYn, TYw, TYx, TY62, TY72, by66, by74, QF, fsv, B, I, by2, TY, Try.results12])))
        refine callVC cb ?_ ?_ ?_; iterate 2 focus ((simp -dsimp only [↓RP, RQ, implies_true, forall_const, Nat.reduceMul, reduceIte, reduceCtorEq, Nat.reduceAdd, Nat.reduceEqDiff, Nat.reduceLT, Nat.reduceLeDiff, kn, ktM, ktQ, Pl.sv, rngs, Mk.sv, qts, qsv, fsv, Go.Od.ints, I, B]); all_goals (try simp [sub_q]); all_goals (try omega))
        (repeat' (first | with_reducible refine splitVC_d (fun _ => ?_) (fun _ => ?_) | with_reducible refine splitVC (fun _ => ?_) (fun _ => ?_) | ((with_reducible refine And.intro ?_ ?_); focus (first | exact True.intro | (simp only [InK]; omega) | omega | (simp only [InK, ne_eq, and_true, true_and]; omega) | exact ⟨.inr trivial, Nat.le_refl _, one1 _, by omega⟩ | exact ⟨.inr trivial, Nat.le_refl _, one4 _, by omega⟩ | exact ⟨.inr trivial, Nat.le_refl _, one1 _, by omega, by kernel_rfl⟩ | trivial)) | (simp -dsimp only [↓RP, RQ, implies_true, forall_const, Nat.reduceMul, reduceIte, reduceCtorEq, Nat.reduceAdd, Nat.reduceEqDiff, Nat.reduceLT, Nat.reduceLeDiff, e1, e2, e3, e4, qsv, Int.reduceEq, Int.reduceNeg, RZ, eq_self, eq23, TYq, TYp, TYm, TYn, TYw, TYx, TY62, TY72, by66, by74, QF, fsv, B, I, by2, TY, Try.results12])))
        refine callVC db ?_ ?_ ?_; iterate 2 focus ((simp -dsimp only [↓RP, RQ, implies_true, forall_const, Nat.reduceMul, reduceIte, reduceCtorEq, Nat.reduceAdd, Nat.reduceEqDiff, Nat.reduceLT, Nat.reduceLeDiff, kn, ktM, ktQ, Pl.sv, rngs, Mk.sv, qts, qsv, fsv, Go.Od.ints, I, B]); all_goals (try simp [sub_q]); all_goals (try omega))
        (repeat' (first | with_reducible refine splitVC_d (fun _ => ?_) (fun _ => ?_) | with_reducible refine splitVC (fun _ => ?_) (fun _ => ?_) | ((with_reducible refine And.intro ?_ ?_); focus (first | exact True.intro | (simp only [InK]; omega) | omega | (simp only [InK, ne_eq, and_true, true_and]; omega) | exact ⟨.inr trivial, Nat.le_refl _, one1 _, by omega⟩ | exact ⟨.inr trivial, Nat.le_refl _, one4 _, by omega⟩ | exact ⟨.inr trivial, Nat.le_refl _, one1 _, by omega, by kernel_rfl⟩ | trivial)) | (simp -dsimp only [↓RP, RQ, implies_true, forall_const, Nat.reduceMul, reduceIte, reduceCtorEq, Nat.reduceAdd, Nat.reduceEqDiff, Nat.reduceLT, Nat.reduceLeDiff, e1, e2, e3, e4, qsv, Int.reduceEq, Int.reduceNeg, RZ, eq_self, eq23, TYq, TYp, TYm, TYn, TYw, TYx, TY62, TY72, by66, by74, QF, fsv, B, I, by2, TY, Try.results12])))
        refine callVC k53 ?_ ?_ ?_; iterate 2 focus ((simp -dsimp only [↓RP, RQ, implies_true, forall_const, Nat.reduceMul, reduceIte, reduceCtorEq, Nat.reduceAdd, Nat.reduceEqDiff, Nat.reduceLT, Nat.reduceLeDiff, kn, ktM, ktQ, Pl.sv, rngs, Mk.sv, qts, qsv, fsv, Go.Od.ints, I, B]); all_goals (try simp [sub_q]); all_goals (try omega))
        (repeat' (first | with_reducible refine splitVC_d (fun _ => ?_) (fun _ => ?_) | with_reducible refine splitVC (fun _ => ?_) (fun _ => ?_) | ((with_reducible refine And.intro ?_ ?_); focus (first | exact True.intro | (simp only [InK]; omega) | omega | (simp only [InK, ne_eq, and_true, true_and]; omega) | exact ⟨.inr trivial, Nat.le_refl _, one1 _, by omega⟩ | exact ⟨.inr trivial, Nat.le_refl _, one4 _, by omega⟩ | exact ⟨.inr trivial, Nat.le_refl _, one1 _, by omega, by kernel_rfl⟩ | trivial)) | (simp -dsimp only [↓RP, RQ, implies_true, forall_const, Nat.reduceMul, reduceIte, reduceCtorEq, Nat.reduceAdd, Nat.reduceEqDiff, Nat.reduceLT, Nat.reduceLeDiff, e1, e2, e3, e4, qsv, Int.reduceEq, Int.reduceNeg, RZ, eq_self, eq23, TYq, TYp, TYm, TYn, TYw, TYx, TY62, TY72, by66, by74, QF, fsv, B, I, by2, TY, Try.results12])))
        refine callVC k49 ?_ ?_ ?_; iterate 2 focus ((simp -dsimp only [↓RP, RQ, implies_true, forall_const, Nat.reduceMul, reduceIte, reduceCtorEq, Nat.reduceAdd, Nat.reduceEqDiff, Nat.reduceLT, Nat.reduceLeDiff, kn, ktM, ktQ, Pl.sv, rngs, Mk.sv, qts, qsv, fsv, Go.Od.ints, I, B]); all_goals (try simp [sub_q]); all_goals (try omega))
        (repeat' (first | with_reducible refine splitVC_d (fun _ => ?_) (fun _ => ?_) | with_reducible refine splitVC (fun _ => ?_) (fun _ => ?_) | ((with_reducible refine And.intro ?_ ?_); focus (first | exact True.intro | (simp only [InK]; omega) | omega | (simp only [InK, ne_eq, and_true, true_and]; omega) | exact ⟨.inr trivial, Nat.le_refl _, one1 _, by omega⟩ | exact ⟨.inr trivial, Nat.le_refl _, one4 _, by omega⟩ | exact ⟨.inr trivial, Nat.le_refl _, one1 _, by omega, by kernel_rfl⟩ | trivial)) | (simp -dsimp only [↓RP, RQ, implies_true, forall_const, Nat.reduceMul, reduceIte, reduceCtorEq, Nat.reduceAdd, Nat.reduceEqDiff, Nat.reduceLT, Nat.reduceLeDiff, e1, e2, e3, e4, qsv, Int.reduceEq, Int.reduceNeg, RZ, eq_self, eq23, TYq, TYp, TYm, TYn, TYw, TYx, TY62, TY72, by66, by74, QF, fsv, B, I, by2, TY, Try.results12])))
        all_goals first | (exfalso; omega) | skip
        refine ⟨x + 1 + 1, by omega, by omega, weak [(60, some 60), (61, some 61), (62, some 111)] [] ?_ ?_ ?_⟩
        all_goals ((simp -dsimp only [↓RP, RQ, implies_true, forall_const, Nat.reduceMul, reduceIte, reduceCtorEq, Nat.reduceAdd, Nat.reduceEqDiff, Nat.reduceLT, Nat.reduceLeDiff, stB]); all_goals (try simp [wk_q]))
        all_goals exact lstW _ _ _ _ _ _ _
    · obtain rfl : x = i := by omega
      obtain ⟨j, ej⟩ : ∃ j, x = j + 1 := ⟨x - 1, by omega⟩
      rw [show stB x u t cm x = stB x u t cm (j + 1) by rw [ej], stB_s]
      (repeat' (first | with_reducible refine splitVC_d (fun _ => ?_) (fun _ => ?_) | with_reducible refine splitVC (fun _ => ?_) (fun _ => ?_) | ((with_reducible refine And.intro ?_ ?_); focus (first | exact True.intro | (simp only [InK]; omega) | omega | (simp only [InK, ne_eq, and_true, true_and]; omega) | exact ⟨.inr trivial, Nat.le_refl _, one1 _, by omega⟩ | exact ⟨.inr trivial, Nat.le_refl _, one4 _, by omega⟩ | exact ⟨.inr trivial, Nat.le_refl _, one1 _, by omega, by kernel_rfl⟩ | trivial)) | (simp -dsimp only [↓RP, RQ, implies_true, forall_const, Nat.reduceMul, reduceIte, reduceCtorEq, Nat.reduceAdd, Nat.reduceEqDiff, Nat.reduceLT, Nat.reduceLeDiff, Int.reduceEq, Int.reduceNeg, RZ, eq_self, eq23, TYq, TYp, TYm, TYn, TYw, TYx, TY62, TY72, by66, by74, QF, fsv, B, I, by2, TY, Try.results12])))
      all_goals first | (exfalso; omega) | skip
      refine loop_vc (fun y => y ≤ x) (fun y => ⟨[(0, .arr false false x 1 (fun i _ => .val (.int .u8 (u i)))), (4, .val (.bool false)), (5, .vec 60 x 1), (8, .ptr 61 0), (15, .val (.int .i64 (y : Nat)))], [(62, .rows 74 4 (j + 1) (fun a b => qf (ktQ t x a) b)), (61, .cells 44 [.val (.int .i64 (x : Nat)), .vec 62 (j + 1) 4]), (60, .rows 2 1 x (fun a _ => .val (.int .i64 (t a))))], 63⟩) (fun y => x - y) 0 (Nat.zero_le _) (weak [(60, some 60), (61, some 61), (62, some 62)] [] ?_ ?_ ?_) fun y hy => ?_
      · (simp -dsimp only [↓RP, RQ, implies_true, forall_const, Nat.reduceMul, reduceIte, reduceCtorEq, Nat.reduceAdd, Nat.reduceEqDiff, Nat.reduceLT, Nat.reduceLeDiff]); all_goals (try simp [wk_q])
      · (simp -dsimp only [↓RP, RQ, implies_true, forall_const, Nat.reduceMul, reduceIte, reduceCtorEq, Nat.reduceAdd, Nat.reduceEqDiff, Nat.reduceLT, Nat.reduceLeDiff]); all_goals (try simp [wk_q])
      · (simp -dsimp only [↓RP, RQ, implies_true, forall_const, Nat.reduceMul, reduceIte, reduceCtorEq, Nat.reduceAdd, Nat.reduceEqDiff, Nat.reduceLT, Nat.reduceLeDiff]); all_goals (try simp [wk_q])
      have fk := hT.fine
      by_cases hlt : y < x
      · have k33 := c33 (ktM t x) x (by omega) t y
        rw [hT.netV hlt] at k33
        (repeat' (first | with_reducible refine splitVC_d (fun _ => ?_) (fun _ => ?_) | with_reducible refine splitVC (fun _ => ?_) (fun _ => ?_) | ((with_reducible refine And.intro ?_ ?_); focus (first | exact True.intro | (simp only [InK]; omega) | omega | (simp only [InK, ne_eq, and_true, true_and]; omega) | exact ⟨.inr trivial, Nat.le_refl _, one1 _, by omega⟩ | exact ⟨.inr trivial, Nat.le_refl _, one4 _, by omega⟩ | exact ⟨.inr trivial, Nat.le_refl _, one1 _, by omega, by kernel_rfl⟩ | trivial)) | (simp -dsimp only [↓RP, RQ, implies_true, forall_const, Nat.reduceMul, reduceIte, reduceCtorEq, Nat.reduceAdd, Nat.reduceEqDiff, Nat.reduceLT, Nat.reduceLeDiff, Int.reduceEq, Int.reduceNeg, RZ, eq_self, eq23, TYq, TYp, TYm, TYn, TYw, TYx, TY62, TY72, by66, by74, QF, fsv, B, I, by2, TY, Try.results12])))
        refine callVC k33 ?_ ?_ ?_; iterate 2 focus ((simp -dsimp only [↓RP, RQ, implies_true, forall_const, Nat.reduceMul, reduceIte, reduceCtorEq, Nat.reduceAdd, Nat.reduceEqDiff, Nat.reduceLT, Nat.reduceLeDiff, kn, ktM, ktQ, Pl.sv, rngs, Mk.sv, qts, qsv, fsv, Go.Od.ints, I, B]); all_goals (try simp [sub_q]); all_goals (try omega))
        (repeat' (first | with_reducible refine splitVC_d (fun _ => ?_) (fun _ => ?_) | with_reducible refine splitVC (fun _ => ?_) (fun _ => ?_) | ((with_reducible refine And.intro ?_ ?_); focus (first | exact True.intro | (simp only [InK]; omega) | omega | (simp only [InK, ne_eq, and_true, true_and]; omega) | exact ⟨.inr trivial, Nat.le_refl _, one1 _, by omega⟩ | exact ⟨.inr trivial, Nat.le_refl _, one4 _, by omega⟩ | exact ⟨.inr trivial, Nat.le_refl _, one1 _, by omega, by kernel_rfl⟩ | trivial)) | (simp -dsimp only [↓RP, RQ, implies_true, forall_const, Nat.reduceMul, reduceIte, reduceCtorEq, Nat.reduceAdd, Nat.reduceEqDiff, Nat.reduceLT, Nat.reduceLeDiff, Int.reduceEq, Int.reduceNeg, RZ, eq_self, eq23, TYq, TYp, TYm, TYn, TYw, TYx, TY62, TY72, by66, by74, QF, fsv, B, I, by2, TY, Try.results12])))
        refine callVC (c50 0 1) ?_ ?_ ?_; iterate 2 focus ((simp -dsimp only [↓RP, RQ, implies_true, forall_const, Nat.reduceMul, reduceIte, reduceCtorEq, Nat.reduceAdd, Nat.reduceEqDiff, Nat.reduceLT, Nat.reduceLeDiff, kn, ktM, ktQ, Pl.sv, rngs, Mk.sv, qts, qsv, fsv, Go.Od.ints, I, B]); all_goals (try simp [sub_q]); all_goals (try omega))
        (repeat' (first | with_reducible refine splitVC_d (fun _ => ?_) (fun _ => ?_) | with_reducible refine splitVC (fun _ => ?_) (fun _ => ?_) | ((with_reducible refine And.intro ?_ ?_); focus (first | exact True.intro | (simp only [InK]; omega) | omega | (simp only [InK, ne_eq, and_true, true_and]; omega) | exact ⟨.inr trivial, Nat.le_refl _, one1 _, by omega⟩ | exact ⟨.inr trivial, Nat.le_refl _, one4 _, by omega⟩ | exact ⟨.inr trivial, Nat.le_refl _, one1 _, by omega, by kernel_rfl⟩ | trivial)) | (simp -dsimp only [↓RP, RQ, implies_true, forall_const, Nat.reduceMul, reduceIte, reduceCtorEq, Nat.reduceAdd, Nat.reduceEqDiff, Nat.reduceLT, Nat.reduceLeDiff, Int.reduceEq, Int.reduceNeg, RZ, eq_self, eq23, TYq, TYp, TYm, TYn, TYw, TYx, TY62, TY72, by66, by74, QF, fsv, B, I, by2, TY, Try.results12])))
        all_goals first | (exfalso; omega) | skip
        refine ⟨y + 1, by omega, by omega, weak [(60, some 60), (61, some 61), (62, some 62)] [] ?_ ?_ ?_⟩
        all_goals ((simp -dsimp only [↓RP, RQ, implies_true, forall_const, Nat.reduceMul, reduceIte, reduceCtorEq, Nat.reduceAdd, Nat.reduceEqDiff, Nat.reduceLT, Nat.reduceLeDiff]); all_goals (try simp [wk_q]))
      · have k39 := c39n (ktM t x) fk hT.none
        have k43 := c43 (ktM t x) x (by omega) t
        have k37 := c37 (ktM t x) x (by omega) t
        rw [hT.chE] at k43
        rw [hT.ckS] at k37
        (repeat' (first | with_reducible refine splitVC_d (fun _ => ?_) (fun _ => ?_) | with_reducible refine splitVC (fun _ => ?_) (fun _ => ?_) | ((with_reducible refine And.intro ?_ ?_); focus (first | exact True.intro | (simp only [InK]; omega) | omega | (simp only [InK, ne_eq, and_true, true_and]; omega) | exact ⟨.inr trivial, Nat.le_refl _, one1 _, by omega⟩ | exact ⟨.inr trivial, Nat.le_refl _, one4 _, by omega⟩ | exact ⟨.inr trivial, Nat.le_refl _, one1 _, by omega, by kernel_rfl⟩ | trivial)) | (simp -dsimp only [↓RP, RQ, implies_true, forall_const, Nat.reduceMul, reduceIte, reduceCtorEq, Nat.reduceAdd, Nat.reduceEqDiff, Nat.reduceLT, Nat.reduceLeDiff, Int.reduceEq, Int.reduceNeg, RZ, eq_self, eq23, TYq, TYp, TYm, TYn, TYw, TYx, TY62, TY72, by66, by74, QF, fsv, B, I, by2, TY, Try.results12])))
        all_goals first | (exfalso; omega) | skip
        refine callVC k39 ?_ ?_ ?_; iterate 2 focus ((simp -dsimp only [↓RP, RQ, implies_true, forall_const, Nat.reduceMul, reduceIte, reduceCtorEq, Nat.reduceAdd, Nat.reduceEqDiff, Nat.reduceLT, Nat.reduceLeDiff, kn, ktM, ktQ, Pl.sv, rngs, Mk.sv, qts, qsv, fsv, Go.Od.ints, I, B]); all_goals (try simp [sub_q]); all_goals (try omega))
        (repeat' (first | with_reducible refine splitVC_d (fun _ => ?_) (fun _ => ?_) | with_reducible refine splitVC (fun _ => ?_) (fun _ => ?_) | ((with_reducible refine And.intro ?_ ?_); focus (first | exact True.intro | (simp only [InK]; omega) | omega | (simp only [InK, ne_eq, and_true, true_and]; omega) | exact ⟨.inr trivial, Nat.le_refl _, one1 _, by omega⟩ | exact ⟨.inr trivial, Nat.le_refl _, one4 _, by omega⟩ | exact ⟨.inr trivial, Nat.le_refl _, one1 _, by omega, by kernel_rfl⟩ | trivial)) | (simp -dsimp only [↓RP, RQ, implies_true, forall_const, Nat.reduceMul, reduceIte, reduceCtorEq, Nat.reduceAdd, Nat.reduceEqDiff, Nat.reduceLT, Nat.reduceLeDiff, nilV, Int.reduceEq, Int.reduceNeg, RZ, eq_self, eq23, TYq, TYp, TYm, TYn, TYw, TYx, TY62, TY72, by66, by74, QF, fsv, B, I, by2, TY, Try.results12])))
        refine callVC k43 ?_ ?_ ?_; iterate 2 focus ((simp -dsimp only [↓RP, RQ, implies_true, forall_const, Nat.reduceMul, reduceIte, reduceCtorEq, Nat.reduceAdd, Nat.reduceEqDiff, Nat.reduceLT, Nat.reduceLeDiff, kn, ktM, ktQ, Pl.sv, rngs, Mk.sv, qts, qsv, fsv, Go.Od.ints, I, B]); all_goals (try simp [sub_q]); all_goals (try omega))
        (repeat' (first | with_reducible refine splitVC_d (fun _ => ?_) (fun _ => ?_) | with_reducible refine splitVC (fun _ => ?_) (fun _ => ?_) | ((with_reducible refine And.intro ?_ ?_); focus (first | exact True.intro | (simp only [InK]; omega) | omega | (simp only [InK, ne_eq, and_true, true_and]; omega) | exact ⟨.inr trivial, Nat.le_refl _, one1 _, by omega⟩ | exact ⟨.inr trivial, Nat.le_refl _, one4 _, by omega⟩ | exact ⟨.inr trivial, Nat.le_refl _, one1 _, by omega, by kernel_rfl⟩ | trivial)) | (simp -dsimp only [↓RP, RQ, implies_true, forall_const, Nat.reduceMul, reduceIte, reduceCtorEq, Nat.reduceAdd, Nat.reduceEqDiff, Nat.reduceLT, Nat.reduceLeDiff, Int.reduceEq, Int.reduceNeg, RZ, eq_self, eq23, TYq, TYp, TYm, TYn, TYw, TYx, TY62, TY72, by66, by74, QF, fsv, B, I, by2, TY, Try.results12])))
        refine callVC k37 ?_ ?_ ?_; iterate 2 focus ((simp -dsimp only [↓RP, RQ, implies_true, forall_const, Nat.reduceMul, reduceIte, reduceCtorEq, Nat.reduceAdd, Nat.reduceEqDiff, Nat.reduceLT, Nat.reduceLeDiff, kn, ktM, ktQ, Pl.sv, rngs, Mk.sv, qts, qsv, fsv, Go.Od.ints, I, B]); all_goals (try simp [sub_q]); all_goals (try omega))
        (repeat' (first | with_reducible refine splitVC_d (fun _ => ?_) (fun _ => ?_) | with_reducible refine splitVC (fun _ => ?_) (fun _ => ?_) | ((with_reducible refine And.intro ?_ ?_); focus (first | exact True.intro | (simp only [InK]; omega) | omega | (simp only [InK, ne_eq, and_true, true_and]; omega) | exact ⟨.inr trivial, Nat.le_refl _, one1 _, by omega⟩ | exact ⟨.inr trivial, Nat.le_refl _, one4 _, by omega⟩ | exact ⟨.inr trivial, Nat.le_refl _, one1 _, by omega, by kernel_rfl⟩ | trivial)) | (simp -dsimp only [↓RP, RQ, implies_true, forall_const, Nat.reduceMul, reduceIte, reduceCtorEq, Nat.reduceAdd, Nat.reduceEqDiff, Nat.reduceLT, Nat.reduceLeDiff, Int.reduceEq, Int.reduceNeg, RZ, eq_self, eq23, TYq, TYp, TYm, TYn, TYw, TYx, TY62, TY72, by66, by74, QF, fsv, B, I, by2, TY, Try.results12])))
        refine callVC c22 ?_ ?_ ?_; iterate 2 focus ((simp -dsimp only [↓RP, RQ, implies_true, forall_const, Nat.reduceMul, reduceIte, reduceCtorEq, Nat.reduceAdd, Nat.reduceEqDiff, Nat.reduceLT, Nat.reduceLeDiff, kn, ktM, ktQ, Pl.sv, rngs, Mk.sv, qts, qsv, fsv, Go.Od.ints, I, B]); all_goals (try simp [sub_q]); all_goals (try omega))
        (repeat' (first | with_reducible refine splitVC_d (fun _ => ?_) (fun _ => ?_) | with_reducible refine splitVC (fun _ => ?_) (fun _ => ?_) | ((with_reducible refine And.intro ?_ ?_); focus (first | exact True.intro | (simp only [InK]; omega) | omega | (simp only [InK, ne_eq, and_true, true_and]; omega) | exact ⟨.inr trivial, Nat.le_refl _, one1 _, by omega⟩ | exact ⟨.inr trivial, Nat.le_refl _, one4 _, by omega⟩ | exact ⟨.inr trivial, Nat.le_refl _, one1 _, by omega, by kernel_rfl⟩ | trivial)) | (simp -dsimp only [↓RP, RQ, implies_true, forall_const, Nat.reduceMul, reduceIte, reduceCtorEq, Nat.reduceAdd, Nat.reduceEqDiff, Nat.reduceLT, Nat.reduceLeDiff, Int.reduceEq, Int.reduceNeg, RZ, eq_self, eq23, TYq, TYp, TYm, TYn, TYw, TYx, TY62, TY72, by66, by74, QF, fsv, B, I, by2, TY, Try.results12])))
        all_goals trace_state
end Go.Od
end
