/- A part of the proof. -/
import Derived.Test.YtbomildlhnllhaaOC
section
set_option linter.unusedSimpArgs false
set_option linter.unusedVariables false
set_option linter.defProp false
set_option maxRecDepth 100000
set_option maxHeartbeats 16000000
namespace Go.Od
open Go.Proofs
open Go.Sx
theorem TYm : True ∧ tyOf Try.prog 42 = some ⟨false, 1, some [.slice none 0 0], .slice 74 4⟩ ∧ tyOf Try.prog 44 = some ⟨true, 2, some [.int .i64 0, .slice none 0 0], .struct [(0, 1, some false), (1, 1, some false)]⟩ ∧ tyOf Try.prog 74 = some ⟨true, 4, some [.int .i64 0, .int .i64 0, .int .i64 0, .bool false], .struct [(0, 1, some false), (1, 1, some false), (2, 1, some false), (3, 1, some false)]⟩ ∧ placesOf Try.prog 44 = some [(0, 1), (1, 1)] ∧ placesOf Try.prog 74 = some [(0, 1), (1, 1), (2, 1), (3, 1)] :=
 ⟨trivial, by kernel_rfl, by kernel_rfl, by kernel_rfl, by kernel_rfl, by kernel_rfl⟩
structure Qt where
 r : Int
 n : Int
 d : Int
 l : Bool
def qf (q : Qt) : Nat → SV
 | 0 => .val (.int .i64 q.r)
 | 1 => .val (.int .i64 q.n)
 | 2 => .val (.int .i64 q.d)
 | _ => .val (.bool q.l)
theorem QF : True ∧ (∀ q, qf q 0 = .val (.int .i64 q.r)) ∧ (∀ q, qf q 1 = .val (.int .i64 q.n)) ∧ (∀ q, qf q 2 = .val (.int .i64 q.d)) ∧ (∀ q, qf q 3 = .val (.bool q.l)) := ⟨trivial, fun _ => rfl, fun _ => rfl, fun _ => rfl, fun _ => rfl⟩
theorem sub_q (hp : List (Nat × Blk)) (q : Qt) : ∀ j, Go.Sx.Sub hp (qf q j) (qf q j)
 | 0 => by simp [qf, Go.Sx.Sub]
 | 1 => by simp [qf, Go.Sx.Sub]
 | 2 => by simp [qf, Go.Sx.Sub]
 | _ + 3 => by simp [qf, Go.Sx.Sub]
theorem wk_q (hp : List (Nat × Blk)) (rn : Nat → Option Nat) (n : Nat) (sl : Nat → Bool) (q : Qt) : ∀ j, Wk hp rn n sl (qf q j) (qf q j)
 | 0 => by simp [qf, Wk]
 | 1 => by simp [qf, Wk]
 | 2 => by simp [qf, Wk]
 | _ + 3 => by simp [qf, Wk]
structure Mk where
 run : Int
 m : Nat
 q : Nat → Qt
def qts (m : Nat) (q : Nat → Qt) : SV := .arr false false m 4 (fun i j => qf (q i) j)
def qsv (q : Qt) : SV := .agg [I q.r, I q.n, I q.d, B q.l]
def Mk.sv (M : Mk) : SV := .agg [I M.run, qts M.m M.q]
theorem qf_old (q : Qt) : ∀ j, Old (qf q j)
 | 0 => by simp [qf, Old]
 | 1 => by simp [qf, Old]
 | 2 => by simp [qf, Old]
 | _ + 3 => by simp [qf, Old]
theorem qts_old (m : Nat) (q : Nat → Qt) : Old (qts m q) := by
 simp only [qts, Old]
 exact ⟨trivial, fun i j _ _ => qf_old _ _⟩
theorem Mk.old (M : Mk) : Old M.sv := by
 simp only [Mk.sv, Old, OldL, qts_old, and_true]
 simp [I, Old]
theorem qsv_old (q : Qt) : Old (qsv q) := by simp [qsv, Old, OldL, I, B]
def okS (run : Int) (q : Nat → Qt) (m : Nat) : Prop := ∀ i, i < m → 0 ≤ (q i).r ∧ (q i).r < run
def okO (q : Nat → Qt) (m : Nat) : Prop := ∀ i, i < m → (0 ≤ (q i).n ∧ (q i).n ≤ 190) ∧ 1 ≤ (q i).d ∧ (q i).d ≤ 10
instance (run : Int) (q : Nat → Qt) (m : Nat) : Decidable (okS run q m) := by unfold okS; infer_instance
instance (q : Nat → Qt) (m : Nat) : Decidable (okO q m) := by unfold okO; infer_instance
def Mk.err (M : Mk) : Int := if M.run < 1 ∨ 5 < M.run ∨ 12 < M.m then 6 else if okS M.run M.q M.m then (if okO M.q M.m then 0 else 3) else 2
structure Mk.Fine (M : Mk) : Prop where
 r1 : 1 ≤ M.run
 r5 : M.run ≤ 5
 m12 : M.m ≤ 12
 st : okS M.run M.q M.m
 od : okO M.q M.m
theorem Mk.fine {M : Mk} (h : M.err = 0) : M.Fine := by
 unfold Mk.err at h
 split at h
 ·cases h
 ·rename_i h1
  split at h
  ·rename_i h2
   split at h
   ·rename_i h3; exact ⟨by omega, by omega, by omega, h2, h3⟩
   ·cases h
  ·cases h
theorem Mk.Fine.err {M : Mk} (h : M.Fine) : M.err = 0 := by
 have := h.r1; have := h.r5; have := h.m12
 unfold Mk.err; rw [if_neg (by omega), if_pos h.st, if_pos h.od]
theorem Mk.err_6 {M : Mk} (h : M.run < 1 ∨ 5 < M.run ∨ 12 < M.m) : 6 = M.err := by unfold Mk.err; rw [if_pos h]
theorem Mk.err_2 {M : Mk} (h : ¬ (M.run < 1 ∨ 5 < M.run ∨ 12 < M.m)) (h2 : ¬ okS M.run M.q M.m) : 2 = M.err := by unfold Mk.err; rw [if_neg h, if_neg h2]
theorem Mk.err_3 {M : Mk} (h : ¬ (M.run < 1 ∨ 5 < M.run ∨ 12 < M.m)) (h2 : okS M.run M.q M.m) (h3 : ¬ okO M.q M.m) : 3 = M.err := by unfold Mk.err; rw [if_neg h, if_pos h2, if_neg h3]
theorem Mk.err_0 {M : Mk} (h : ¬ (M.run < 1 ∨ 5 < M.run ∨ 12 < M.m)) (h2 : okS M.run M.q M.m) (h3 : okO M.q M.m) : 0 = M.err := by unfold Mk.err; rw [if_neg h, if_pos h2, if_pos h3]
theorem c36 (M : Mk) : Contract Try.prog 36 [M.sv] (I M.err) := by
 refine contract_of Try.func36 rfl (by kernel_rfl) follows (by kernel_rfl) _ _ (by rw [Try.ntmps36]; simp) (by simp only [OldL, Mk.old, and_self]) ?_
 unfold I
 conv => arg 4; unfold Mk.sv qts I
 (repeat' (first | with_reducible refine splitVC_d (fun _ => ?_) (fun _ => ?_) | ((with_reducible refine And.intro ?_ ?_); focus (first | exact True.intro | omega | (simp only [InK, ne_eq, and_true, true_and]; omega) | trivial)) | (simp -dsimp only [↓RP, RQ, implies_true, forall_const, Nat.reduceMul, reduceIte, reduceCtorEq, Nat.reduceAdd, Nat.reduceEqDiff, Nat.reduceLT, Nat.reduceLeDiff, TYm, QF, fsv, B, I, by2, RZ, eq_self, TY, Try.results36])))
 all_goals first | (refine I_eq (Mk.err_6 ?_); omega) | skip
 refine loop_vc (fun i => i ≤ M.m ∧ okS M.run M.q i) (fun i => ⟨[(1, .ptr 0 0), (2, .val (.int .i64 0)), (3, .val (.int .i64 i))], [(0, .cells 44 [.val (.int .i64 M.run), .arr false false M.m 4 (fun i j => qf (M.q i) j)])], 20⟩) (fun i => M.m - i) 0 ⟨Nat.zero_le _, fun j hj => by omega⟩ (weak [] [] ?_ ?_ ?_) fun i hi => ?_
 ·(simp -dsimp only [↓RP, RQ, implies_true, forall_const, Nat.reduceMul, reduceIte, reduceCtorEq, Nat.reduceAdd, Nat.reduceEqDiff, Nat.reduceLT, Nat.reduceLeDiff]); all_goals (try simp [wk_q])
 ·(simp -dsimp only [↓RP, RQ, implies_true, forall_const, Nat.reduceMul, reduceIte, reduceCtorEq, Nat.reduceAdd, Nat.reduceEqDiff, Nat.reduceLT, Nat.reduceLeDiff]); all_goals (try simp [wk_q])
 ·(simp -dsimp only [↓RP, RQ, implies_true, forall_const, Nat.reduceMul, reduceIte, reduceCtorEq, Nat.reduceAdd, Nat.reduceEqDiff, Nat.reduceLT, Nat.reduceLeDiff]); all_goals (try simp [wk_q])
 (repeat' (first | with_reducible refine splitVC_d (fun _ => ?_) (fun _ => ?_) | ((with_reducible refine And.intro ?_ ?_); focus (first | exact True.intro | omega | (simp only [InK, ne_eq, and_true, true_and]; omega) | trivial)) | (simp -dsimp only [↓RP, RQ, implies_true, forall_const, Nat.reduceMul, reduceIte, reduceCtorEq, Nat.reduceAdd, Nat.reduceEqDiff, Nat.reduceLT, Nat.reduceLeDiff, TYm, QF, fsv, B, I, by2, RZ, eq_self, TY, Try.results36])))
 all_goals first | (refine I_eq (Mk.err_2 (by omega) fun h => ?_); have h2 := h i (by omega); omega) | skip
 ·refine ⟨i + 1, ⟨by omega, fun j hj => ?_⟩, by omega, weak [] [] ?_ ?_ ?_⟩
  ·by_cases e : j = i
   ·subst e; omega
   ·exact hi.2 j (by omega)
  ·(simp -dsimp only [↓RP, RQ, implies_true, forall_const, Nat.reduceMul, reduceIte, reduceCtorEq, Nat.reduceAdd, Nat.reduceEqDiff, Nat.reduceLT, Nat.reduceLeDiff]); all_goals (try simp [wk_q])
  ·(simp -dsimp only [↓RP, RQ, implies_true, forall_const, Nat.reduceMul, reduceIte, reduceCtorEq, Nat.reduceAdd, Nat.reduceEqDiff, Nat.reduceLT, Nat.reduceLeDiff]); all_goals (try simp [wk_q])
  ·(simp -dsimp only [↓RP, RQ, implies_true, forall_const, Nat.reduceMul, reduceIte, reduceCtorEq, Nat.reduceAdd, Nat.reduceEqDiff, Nat.reduceLT, Nat.reduceLeDiff]); all_goals (try simp [wk_q])
 have hS : okS M.run M.q M.m := by
  have e : i = M.m := by omega
  exact e ▸ hi.2
 clear hi
 refine loop_vc (fun i => i ≤ M.m ∧ okO M.q i) (fun i => ⟨[(1, .ptr 0 0), (2, .val (.int .i64 0)), (4, .val (.int .i64 i))], [(0, .cells 44 [.val (.int .i64 M.run), .arr false false M.m 4 (fun i j => qf (M.q i) j)])], 60⟩) (fun i => M.m - i) 0 ⟨Nat.zero_le _, fun j hj => by omega⟩ (weak [] [] ?_ ?_ ?_) fun i hi => ?_
 ·(simp -dsimp only [↓RP, RQ, implies_true, forall_const, Nat.reduceMul, reduceIte, reduceCtorEq, Nat.reduceAdd, Nat.reduceEqDiff, Nat.reduceLT, Nat.reduceLeDiff]); all_goals (try simp [wk_q])
 ·(simp -dsimp only [↓RP, RQ, implies_true, forall_const, Nat.reduceMul, reduceIte, reduceCtorEq, Nat.reduceAdd, Nat.reduceEqDiff, Nat.reduceLT, Nat.reduceLeDiff]); all_goals (try simp [wk_q])
 ·(simp -dsimp only [↓RP, RQ, implies_true, forall_const, Nat.reduceMul, reduceIte, reduceCtorEq, Nat.reduceAdd, Nat.reduceEqDiff, Nat.reduceLT, Nat.reduceLeDiff]); all_goals (try simp [wk_q])
 (repeat' (first | with_reducible refine splitVC_d (fun _ => ?_) (fun _ => ?_) | ((with_reducible refine And.intro ?_ ?_); focus (first | exact True.intro | omega | (simp only [InK, ne_eq, and_true, true_and]; omega) | trivial)) | (simp -dsimp only [↓RP, RQ, implies_true, forall_const, Nat.reduceMul, reduceIte, reduceCtorEq, Nat.reduceAdd, Nat.reduceEqDiff, Nat.reduceLT, Nat.reduceLeDiff, TYm, QF, fsv, B, I, by2, RZ, eq_self, TY, Try.results36])))
 all_goals first | (refine I_eq (Mk.err_3 (by omega) hS fun h => ?_); have h2 := h i (by omega); omega) | (refine I_eq (Mk.err_0 (by omega) hS ?_); have e : i = M.m := (by omega); exact e ▸ hi.2) | skip
 ·refine ⟨i + 1, ⟨by omega, fun j hj => ?_⟩, by omega, weak [] [] ?_ ?_ ?_⟩
  ·by_cases e : j = i
   ·subst e; omega
   ·exact hi.2 j (by omega)
  ·(simp -dsimp only [↓RP, RQ, implies_true, forall_const, Nat.reduceMul, reduceIte, reduceCtorEq, Nat.reduceAdd, Nat.reduceEqDiff, Nat.reduceLT, Nat.reduceLeDiff]); all_goals (try simp [wk_q])
  ·(simp -dsimp only [↓RP, RQ, implies_true, forall_const, Nat.reduceMul, reduceIte, reduceCtorEq, Nat.reduceAdd, Nat.reduceEqDiff, Nat.reduceLT, Nat.reduceLeDiff]); all_goals (try simp [wk_q])
  ·(simp -dsimp only [↓RP, RQ, implies_true, forall_const, Nat.reduceMul, reduceIte, reduceCtorEq, Nat.reduceAdd, Nat.reduceEqDiff, Nat.reduceLT, Nat.reduceLeDiff]); all_goals (try simp [wk_q])
theorem c83 (q : Qt) : Contract Try.prog 83 [qsv q] (B (decide (¬ ((0 ≤ q.n ∧ q.n ≤ 190) ∧ 1 ≤ q.d ∧ q.d ≤ 10)))) := by
 refine contract_of Try.func83 rfl (by kernel_rfl) follows (by kernel_rfl) _ _ (by rw [Try.ntmps83]; simp) (by simp only [OldL, qsv_old, and_self]) ?_
 unfold qsv I B
 (repeat' (first | with_reducible refine splitVC_d (fun _ => ?_) (fun _ => ?_) | ((with_reducible refine And.intro ?_ ?_); focus (first | exact True.intro | omega | (simp only [InK, ne_eq, and_true, true_and]; omega) | trivial)) | (simp -dsimp only [↓RP, RQ, implies_true, forall_const, Nat.reduceMul, reduceIte, reduceCtorEq, Nat.reduceAdd, Nat.reduceEqDiff, Nat.reduceLT, Nat.reduceLeDiff, TYm, QF, fsv, B, I, by2, RZ, eq_self, TY, Try.results83])))
 refine callVC (c67_1 q.n 0 190) (by (simp -dsimp only [↓RP, RQ, implies_true, forall_const, Nat.reduceMul, reduceIte, reduceCtorEq, Nat.reduceAdd, Nat.reduceEqDiff, Nat.reduceLT, Nat.reduceLeDiff, Go.Od.ints, I]); all_goals (try simp)) (by (simp -dsimp only [↓RP, RQ, implies_true, forall_const, Nat.reduceMul, reduceIte, reduceCtorEq, Nat.reduceAdd, Nat.reduceEqDiff, Nat.reduceLT, Nat.reduceLeDiff, B])) ?_
 (repeat' (first | with_reducible refine splitVC_d (fun _ => ?_) (fun _ => ?_) | ((with_reducible refine And.intro ?_ ?_); focus (first | exact True.intro | omega | (simp only [InK, ne_eq, and_true, true_and]; omega) | trivial)) | (simp -dsimp only [↓RP, RQ, implies_true, forall_const, Nat.reduceMul, reduceIte, reduceCtorEq, Nat.reduceAdd, Nat.reduceEqDiff, Nat.reduceLT, Nat.reduceLeDiff, TYm, QF, fsv, B, I, by2, RZ, eq_self, TY, Try.results83])))
 rotate_left
 ·rename_i h
  refine B_eq ?_; symm; exact decide_eq_true (by omega)
 rename_i h
 refine callVC (c67_1 q.d 1 10) (by (simp -dsimp only [↓RP, RQ, implies_true, forall_const, Nat.reduceMul, reduceIte, reduceCtorEq, Nat.reduceAdd, Nat.reduceEqDiff, Nat.reduceLT, Nat.reduceLeDiff, Go.Od.ints, I]); all_goals (try simp)) (by (simp -dsimp only [↓RP, RQ, implies_true, forall_const, Nat.reduceMul, reduceIte, reduceCtorEq, Nat.reduceAdd, Nat.reduceEqDiff, Nat.reduceLT, Nat.reduceLeDiff, B])) ?_
 (repeat' (first | with_reducible refine splitVC_d (fun _ => ?_) (fun _ => ?_) | ((with_reducible refine And.intro ?_ ?_); focus (first | exact True.intro | omega | (simp only [InK, ne_eq, and_true, true_and]; omega) | trivial)) | (simp -dsimp only [↓RP, RQ, implies_true, forall_const, Nat.reduceMul, reduceIte, reduceCtorEq, Nat.reduceAdd, Nat.reduceEqDiff, Nat.reduceLT, Nat.reduceLeDiff, TYm, QF, fsv, B, I, by2, RZ, eq_self, TY, Try.results83])))
 all_goals (refine B_eq ?_; rw [Bool.eq_iff_iff]; simp; omega)
theorem c82 (q : Qt) (run : Int) : Contract Try.prog 82 [qsv q, .ref false 1 (fun _ => I run)] (B (decide (¬ (0 ≤ q.r ∧ q.r < run)))) := by
 refine contract_of Try.func82 rfl (by kernel_rfl) follows (by kernel_rfl) _ _ (by rw [Try.ntmps82]; simp) (by simp only [OldL, qsv_old, and_self, true_and]; simp [Old, I]) ?_
 unfold qsv I B
 (repeat' (first | with_reducible refine splitVC_d (fun _ => ?_) (fun _ => ?_) | ((with_reducible refine And.intro ?_ ?_); focus (first | exact True.intro | omega | (simp only [InK, ne_eq, and_true, true_and]; omega) | trivial)) | (simp -dsimp only [↓RP, RQ, implies_true, forall_const, Nat.reduceMul, reduceIte, reduceCtorEq, Nat.reduceAdd, Nat.reduceEqDiff, Nat.reduceLT, Nat.reduceLeDiff, TYm, QF, fsv, B, I, by2, RZ, eq_self, TY, Try.results82])))
 all_goals (refine B_eq ?_; rw [Bool.eq_iff_iff]; simp; omega)
theorem c95a (m : Nat) (q : Nat → Qt) (run : Int) (hm : m ≤ 1000000) : Contract Try.prog 95 [qts m q, .fn (.func 82) [] [.ref false 1 (fun _ => I run)]] (I (fstI (fun i => decide (¬ (0 ≤ (q i).r ∧ (q i).r < run))) 0 m)) := by
 refine contract_of Try.func95 rfl (by kernel_rfl) follows (by kernel_rfl) _ _ (by rw [Try.ntmps95]; simp) (by simp only [OldL, qts_old, and_self, true_and]; simp [Old, OldL, I]) ?_
 unfold qts I
 (repeat' (first | with_reducible refine splitVC_d (fun _ => ?_) (fun _ => ?_) | ((with_reducible refine And.intro ?_ ?_); focus (first | exact True.intro | omega | (simp only [InK, ne_eq, and_true, true_and]; omega) | trivial)) | (simp -dsimp only [↓RP, RQ, implies_true, forall_const, Nat.reduceMul, reduceIte, reduceCtorEq, Nat.reduceAdd, Nat.reduceEqDiff, Nat.reduceLT, Nat.reduceLeDiff, TYm, QF, fsv, B, I, by2, RZ, eq_self, TY, Try.results95])))
 refine loop_vc (fun i => i ≤ m ∧ fstI (fun i => decide (¬ (0 ≤ (q i).r ∧ (q i).r < run))) 0 m = fstI (fun i => decide (¬ (0 ≤ (q i).r ∧ (q i).r < run))) i (m - i)) (fun i => ⟨[(0, .arr false false m 4 (fun i j => qf (q i) j)), (1, .fn (.func 82) [] [.ref false 1 (fun _ => .val (.int .i64 run))]), (7, .val (.int .i64 m)), (8, .val (.int .i64 i))], [], 20⟩) (fun i => m - i) 0 ⟨Nat.zero_le _, rfl⟩ (weak [] [] ?_ ?_ ?_) fun i hi => ?_
 ·(simp -dsimp only [↓RP, RQ, implies_true, forall_const, Nat.reduceMul, reduceIte, reduceCtorEq, Nat.reduceAdd, Nat.reduceEqDiff, Nat.reduceLT, Nat.reduceLeDiff]); all_goals (try simp [wk_q])
 ·(simp -dsimp only [↓RP, RQ, implies_true, forall_const, Nat.reduceMul, reduceIte, reduceCtorEq, Nat.reduceAdd, Nat.reduceEqDiff, Nat.reduceLT, Nat.reduceLeDiff])
 ·(simp -dsimp only [↓RP, RQ, implies_true, forall_const, Nat.reduceMul, reduceIte, reduceCtorEq, Nat.reduceAdd, Nat.reduceEqDiff, Nat.reduceLT, Nat.reduceLeDiff]); all_goals (try simp)
 obtain ⟨hi, he⟩ := hi
 have e1 : ∀ k, m - i = k + 1 → fstI (fun i => decide (¬ (0 ≤ (q i).r ∧ (q i).r < run))) i (m - i) = if (decide (¬ (0 ≤ (q i).r ∧ (q i).r < run))) = true then (i : Int) else fstI (fun i => decide (¬ (0 ≤ (q i).r ∧ (q i).r < run))) (i + 1) k := fun k hk => by rw [hk]; rfl
 (repeat' (first | with_reducible refine splitVC_d (fun _ => ?_) (fun _ => ?_) | ((with_reducible refine And.intro ?_ ?_); focus (first | exact True.intro | omega | (simp only [InK, ne_eq, and_true, true_and]; omega) | trivial)) | (simp -dsimp only [↓RP, RQ, implies_true, forall_const, Nat.reduceMul, reduceIte, reduceCtorEq, Nat.reduceAdd, Nat.reduceEqDiff, Nat.reduceLT, Nat.reduceLeDiff, TYm, QF, fsv, B, I, by2, RZ, eq_self, TY, Try.results95])))
 ·rename_i hlt
  have e2 := e1 (m - (i + 1)) (by omega)
  refine callVC (c82 (q i) run) (by (simp -dsimp only [↓RP, RQ, implies_true, forall_const, Nat.reduceMul, reduceIte, reduceCtorEq, Nat.reduceAdd, Nat.reduceEqDiff, Nat.reduceLT, Nat.reduceLeDiff, qsv, I, B]); all_goals (try simp)) (by (simp -dsimp only [↓RP, RQ, implies_true, forall_const, Nat.reduceMul, reduceIte, reduceCtorEq, Nat.reduceAdd, Nat.reduceEqDiff, Nat.reduceLT, Nat.reduceLeDiff, B])) ?_
  (repeat' (first | with_reducible refine splitVC_d (fun _ => ?_) (fun _ => ?_) | ((with_reducible refine And.intro ?_ ?_); focus (first | exact True.intro | omega | (simp only [InK, ne_eq, and_true, true_and]; omega) | trivial)) | (simp -dsimp only [↓RP, RQ, implies_true, forall_const, Nat.reduceMul, reduceIte, reduceCtorEq, Nat.reduceAdd, Nat.reduceEqDiff, Nat.reduceLT, Nat.reduceLeDiff, TYm, QF, fsv, B, I, by2, RZ, eq_self, TY, Try.results95])))
  ·rename_i h
   refine I_eq ?_; rw [he, e2, if_pos (decide_eq_true h)]
  ·rename_i h
   refine ⟨i + 1, ⟨by omega, ?_⟩, by omega, weak [] [] ?_ ?_ ?_⟩
   ·rw [he, e2, if_neg (by rw [decide_eq_true_eq]; exact h)]
   ·(simp -dsimp only [↓RP, RQ, implies_true, forall_const, Nat.reduceMul, reduceIte, reduceCtorEq, Nat.reduceAdd, Nat.reduceEqDiff, Nat.reduceLT, Nat.reduceLeDiff]); all_goals (try simp [wk_q])
   ·(simp -dsimp only [↓RP, RQ, implies_true, forall_const, Nat.reduceMul, reduceIte, reduceCtorEq, Nat.reduceAdd, Nat.reduceEqDiff, Nat.reduceLT, Nat.reduceLeDiff])
   ·(simp -dsimp only [↓RP, RQ, implies_true, forall_const, Nat.reduceMul, reduceIte, reduceCtorEq, Nat.reduceAdd, Nat.reduceEqDiff, Nat.reduceLT, Nat.reduceLeDiff]); all_goals (try simp)
 ·rename_i hlt
  refine I_eq ?_
  have : m - i = 0 := by omega
  rw [he, this]; rfl
theorem bada_iff (m : Nat) (q : Nat → Qt) (run : Int) : fstI (fun i => decide (¬ (0 ≤ (q i).r ∧ (q i).r < run))) 0 m < 0 ↔ okS run q m := by
 rw [fstI_lt]
 constructor
 ·intro h i hi'
  have := h i (by omega) (by omega)
  simp at this
  omega
 ·intro h j _ hj
  have := h j (by omega)
  simp; omega
theorem c84a (m : Nat) (q : Nat → Qt) (run : Int) (hm : m ≤ 1000000) : Contract Try.prog 84 [qts m q, .fn (.func 82) [] [.ref false 1 (fun _ => I run)]] (B (!decide (okS run q m))) := by
 refine contract_of Try.func84 rfl (by kernel_rfl) follows (by kernel_rfl) _ _ (by rw [Try.ntmps84]; simp) (by simp only [OldL, qts_old, and_self, true_and]; simp [Old, OldL, I]) ?_
 unfold qts B
 (repeat' (first | with_reducible refine splitVC_d (fun _ => ?_) (fun _ => ?_) | ((with_reducible refine And.intro ?_ ?_); focus (first | exact True.intro | omega | (simp only [InK, ne_eq, and_true, true_and]; omega) | trivial)) | (simp -dsimp only [↓RP, RQ, implies_true, forall_const, Nat.reduceMul, reduceIte, reduceCtorEq, Nat.reduceAdd, Nat.reduceEqDiff, Nat.reduceLT, Nat.reduceLeDiff, TYm, QF, fsv, B, I, by2, RZ, eq_self, TY, Try.results84])))
 refine callVC (c95a m q run hm) (by (simp -dsimp only [↓RP, RQ, implies_true, forall_const, Nat.reduceMul, reduceIte, reduceCtorEq, Nat.reduceAdd, Nat.reduceEqDiff, Nat.reduceLT, Nat.reduceLeDiff, qts, I]); all_goals (try simp [sub_q])) (by (simp -dsimp only [↓RP, RQ, implies_true, forall_const, Nat.reduceMul, reduceIte, reduceCtorEq, Nat.reduceAdd, Nat.reduceEqDiff, Nat.reduceLT, Nat.reduceLeDiff, I])) ?_
 (repeat' (first | with_reducible refine splitVC_d (fun _ => ?_) (fun _ => ?_) | ((with_reducible refine And.intro ?_ ?_); focus (first | exact True.intro | omega | (simp only [InK, ne_eq, and_true, true_and]; omega) | trivial)) | (simp -dsimp only [↓RP, RQ, implies_true, forall_const, Nat.reduceMul, reduceIte, reduceCtorEq, Nat.reduceAdd, Nat.reduceEqDiff, Nat.reduceLT, Nat.reduceLeDiff, TYm, QF, fsv, B, I, by2, RZ, eq_self, TY, Try.results84])))
 all_goals (refine B_eq ?_; rw [Bool.eq_iff_iff]; simp [← bada_iff])
theorem c95b (m : Nat) (q : Nat → Qt) (hm : m ≤ 1000000) : Contract Try.prog 95 [qts m q, .fn (.func 83) [] []] (I (fstI (fun i => decide (¬ ((0 ≤ (q i).n ∧ (q i).n ≤ 190) ∧ 1 ≤ (q i).d ∧ (q i).d ≤ 10))) 0 m)) := by
 refine contract_of Try.func95 rfl (by kernel_rfl) follows (by kernel_rfl) _ _ (by rw [Try.ntmps95]; simp) (by simp only [OldL, qts_old, and_self, true_and]; simp [Old, OldL, I]) ?_
 unfold qts I
 (repeat' (first | with_reducible refine splitVC_d (fun _ => ?_) (fun _ => ?_) | ((with_reducible refine And.intro ?_ ?_); focus (first | exact True.intro | omega | (simp only [InK, ne_eq, and_true, true_and]; omega) | trivial)) | (simp -dsimp only [↓RP, RQ, implies_true, forall_const, Nat.reduceMul, reduceIte, reduceCtorEq, Nat.reduceAdd, Nat.reduceEqDiff, Nat.reduceLT, Nat.reduceLeDiff, TYm, QF, fsv, B, I, by2, RZ, eq_self, TY, Try.results95])))
 refine loop_vc (fun i => i ≤ m ∧ fstI (fun i => decide (¬ ((0 ≤ (q i).n ∧ (q i).n ≤ 190) ∧ 1 ≤ (q i).d ∧ (q i).d ≤ 10))) 0 m = fstI (fun i => decide (¬ ((0 ≤ (q i).n ∧ (q i).n ≤ 190) ∧ 1 ≤ (q i).d ∧ (q i).d ≤ 10))) i (m - i)) (fun i => ⟨[(0, .arr false false m 4 (fun i j => qf (q i) j)), (1, .fn (.func 83) [] []), (7, .val (.int .i64 m)), (8, .val (.int .i64 i))], [], 20⟩) (fun i => m - i) 0 ⟨Nat.zero_le _, rfl⟩ (weak [] [] ?_ ?_ ?_) fun i hi => ?_
 ·(simp -dsimp only [↓RP, RQ, implies_true, forall_const, Nat.reduceMul, reduceIte, reduceCtorEq, Nat.reduceAdd, Nat.reduceEqDiff, Nat.reduceLT, Nat.reduceLeDiff]); all_goals (try simp [wk_q])
 ·(simp -dsimp only [↓RP, RQ, implies_true, forall_const, Nat.reduceMul, reduceIte, reduceCtorEq, Nat.reduceAdd, Nat.reduceEqDiff, Nat.reduceLT, Nat.reduceLeDiff])
 ·(simp -dsimp only [↓RP, RQ, implies_true, forall_const, Nat.reduceMul, reduceIte, reduceCtorEq, Nat.reduceAdd, Nat.reduceEqDiff, Nat.reduceLT, Nat.reduceLeDiff]); all_goals (try simp)
 obtain ⟨hi, he⟩ := hi
 have e1 : ∀ k, m - i = k + 1 → fstI (fun i => decide (¬ ((0 ≤ (q i).n ∧ (q i).n ≤ 190) ∧ 1 ≤ (q i).d ∧ (q i).d ≤ 10))) i (m - i) = if (decide (¬ ((0 ≤ (q i).n ∧ (q i).n ≤ 190) ∧ 1 ≤ (q i).d ∧ (q i).d ≤ 10))) = true then (i : Int) else fstI (fun i => decide (¬ ((0 ≤ (q i).n ∧ (q i).n ≤ 190) ∧ 1 ≤ (q i).d ∧ (q i).d ≤ 10))) (i + 1) k := fun k hk => by rw [hk]; rfl
 (repeat' (first | with_reducible refine splitVC_d (fun _ => ?_) (fun _ => ?_) | ((with_reducible refine And.intro ?_ ?_); focus (first | exact True.intro | omega | (simp only [InK, ne_eq, and_true, true_and]; omega) | trivial)) | (simp -dsimp only [↓RP, RQ, implies_true, forall_const, Nat.reduceMul, reduceIte, reduceCtorEq, Nat.reduceAdd, Nat.reduceEqDiff, Nat.reduceLT, Nat.reduceLeDiff, TYm, QF, fsv, B, I, by2, RZ, eq_self, TY, Try.results95])))
 ·rename_i hlt
  have e2 := e1 (m - (i + 1)) (by omega)
  refine callVC (c83 (q i)) (by (simp -dsimp only [↓RP, RQ, implies_true, forall_const, Nat.reduceMul, reduceIte, reduceCtorEq, Nat.reduceAdd, Nat.reduceEqDiff, Nat.reduceLT, Nat.reduceLeDiff, qsv, I, B]); all_goals (try simp)) (by (simp -dsimp only [↓RP, RQ, implies_true, forall_const, Nat.reduceMul, reduceIte, reduceCtorEq, Nat.reduceAdd, Nat.reduceEqDiff, Nat.reduceLT, Nat.reduceLeDiff, B])) ?_
  (repeat' (first | with_reducible refine splitVC_d (fun _ => ?_) (fun _ => ?_) | ((with_reducible refine And.intro ?_ ?_); focus (first | exact True.intro | omega | (simp only [InK, ne_eq, and_true, true_and]; omega) | trivial)) | (simp -dsimp only [↓RP, RQ, implies_true, forall_const, Nat.reduceMul, reduceIte, reduceCtorEq, Nat.reduceAdd, Nat.reduceEqDiff, Nat.reduceLT, Nat.reduceLeDiff, TYm, QF, fsv, B, I, by2, RZ, eq_self, TY, Try.results95])))
  ·rename_i h
   refine I_eq ?_; rw [he, e2, if_pos (decide_eq_true h)]
  ·rename_i h
   refine ⟨i + 1, ⟨by omega, ?_⟩, by omega, weak [] [] ?_ ?_ ?_⟩
   ·rw [he, e2, if_neg (by rw [decide_eq_true_eq]; exact h)]
   ·(simp -dsimp only [↓RP, RQ, implies_true, forall_const, Nat.reduceMul, reduceIte, reduceCtorEq, Nat.reduceAdd, Nat.reduceEqDiff, Nat.reduceLT, Nat.reduceLeDiff]); all_goals (try simp [wk_q])
   ·(simp -dsimp only [↓RP, RQ, implies_true, forall_const, Nat.reduceMul, reduceIte, reduceCtorEq, Nat.reduceAdd, Nat.reduceEqDiff, Nat.reduceLT, Nat.reduceLeDiff])
   ·(simp -dsimp only [↓RP, RQ, implies_true, forall_const, Nat.reduceMul, reduceIte, reduceCtorEq, Nat.reduceAdd, Nat.reduceEqDiff, Nat.reduceLT, Nat.reduceLeDiff]); all_goals (try simp)
 ·rename_i hlt
  refine I_eq ?_
  have : m - i = 0 := by omega
  rw [he, this]; rfl
theorem badb_iff (m : Nat) (q : Nat → Qt) : fstI (fun i => decide (¬ ((0 ≤ (q i).n ∧ (q i).n ≤ 190) ∧ 1 ≤ (q i).d ∧ (q i).d ≤ 10))) 0 m < 0 ↔ okO q m := by
 rw [fstI_lt]
 constructor
 ·intro h i hi'
  have := h i (by omega) (by omega)
  simp at this
  omega
 ·intro h j _ hj
  have := h j (by omega)
  simp; omega
theorem c84b (m : Nat) (q : Nat → Qt) (hm : m ≤ 1000000) : Contract Try.prog 84 [qts m q, .fn (.func 83) [] []] (B (!decide (okO q m))) := by
 refine contract_of Try.func84 rfl (by kernel_rfl) follows (by kernel_rfl) _ _ (by rw [Try.ntmps84]; simp) (by simp only [OldL, qts_old, and_self, true_and]; simp [Old, OldL, I]) ?_
 unfold qts B
 (repeat' (first | with_reducible refine splitVC_d (fun _ => ?_) (fun _ => ?_) | ((with_reducible refine And.intro ?_ ?_); focus (first | exact True.intro | omega | (simp only [InK, ne_eq, and_true, true_and]; omega) | trivial)) | (simp -dsimp only [↓RP, RQ, implies_true, forall_const, Nat.reduceMul, reduceIte, reduceCtorEq, Nat.reduceAdd, Nat.reduceEqDiff, Nat.reduceLT, Nat.reduceLeDiff, TYm, QF, fsv, B, I, by2, RZ, eq_self, TY, Try.results84])))
 refine callVC (c95b m q hm) (by (simp -dsimp only [↓RP, RQ, implies_true, forall_const, Nat.reduceMul, reduceIte, reduceCtorEq, Nat.reduceAdd, Nat.reduceEqDiff, Nat.reduceLT, Nat.reduceLeDiff, qts, I]); all_goals (try simp [sub_q])) (by (simp -dsimp only [↓RP, RQ, implies_true, forall_const, Nat.reduceMul, reduceIte, reduceCtorEq, Nat.reduceAdd, Nat.reduceEqDiff, Nat.reduceLT, Nat.reduceLeDiff, I])) ?_
 (repeat' (first | with_reducible refine splitVC_d (fun _ => ?_) (fun _ => ?_) | ((with_reducible refine And.intro ?_ ?_); focus (first | exact True.intro | omega | (simp only [InK, ne_eq, and_true, true_and]; omega) | trivial)) | (simp -dsimp only [↓RP, RQ, implies_true, forall_const, Nat.reduceMul, reduceIte, reduceCtorEq, Nat.reduceAdd, Nat.reduceEqDiff, Nat.reduceLT, Nat.reduceLeDiff, TYm, QF, fsv, B, I, by2, RZ, eq_self, TY, Try.results84])))
 all_goals (refine B_eq ?_; rw [Bool.eq_iff_iff]; simp [← badb_iff])
theorem c35 (M : Mk) : Contract Try.prog 35 [M.sv] (I M.err) := by
 refine contract_of Try.func35 rfl (by kernel_rfl) follows (by kernel_rfl) _ _ (by rw [Try.ntmps35]; simp) (by simp only [OldL, Mk.old, and_self]) ?_
 unfold I
 conv => arg 4; unfold Mk.sv qts I
 (repeat' (first | with_reducible refine splitVC_d (fun _ => ?_) (fun _ => ?_) | ((with_reducible refine And.intro ?_ ?_); focus (first | exact True.intro | omega | (simp only [InK, ne_eq, and_true, true_and]; omega) | trivial)) | (simp -dsimp only [↓RP, RQ, implies_true, forall_const, Nat.reduceMul, reduceIte, reduceCtorEq, Nat.reduceAdd, Nat.reduceEqDiff, Nat.reduceLT, Nat.reduceLeDiff, TYm, QF, fsv, B, I, by2, RZ, eq_self, TY, Try.results35])))
 refine callVC (c67_1 M.run 1 5) (by (simp -dsimp only [↓RP, RQ, implies_true, forall_const, Nat.reduceMul, reduceIte, reduceCtorEq, Nat.reduceAdd, Nat.reduceEqDiff, Nat.reduceLT, Nat.reduceLeDiff, Go.Od.ints, I]); all_goals (try simp)) (by (simp -dsimp only [↓RP, RQ, implies_true, forall_const, Nat.reduceMul, reduceIte, reduceCtorEq, Nat.reduceAdd, Nat.reduceEqDiff, Nat.reduceLT, Nat.reduceLeDiff, B])) ?_
 (repeat' (first | with_reducible refine splitVC_d (fun _ => ?_) (fun _ => ?_) | ((with_reducible refine And.intro ?_ ?_); focus (first | exact True.intro | omega | (simp only [InK, ne_eq, and_true, true_and]; omega) | trivial)) | (simp -dsimp only [↓RP, RQ, implies_true, forall_const, Nat.reduceMul, reduceIte, reduceCtorEq, Nat.reduceAdd, Nat.reduceEqDiff, Nat.reduceLT, Nat.reduceLeDiff, TYm, QF, fsv, B, I, by2, RZ, eq_self, TY, Try.results35])))
 all_goals first | (refine I_eq (Mk.err_6 ?_); omega) | skip
 refine callVC (c84a M.m M.q M.run (by omega)) (by (simp -dsimp only [↓RP, RQ, implies_true, forall_const, Nat.reduceMul, reduceIte, reduceCtorEq, Nat.reduceAdd, Nat.reduceEqDiff, Nat.reduceLT, Nat.reduceLeDiff, qts, I]); all_goals (try simp [sub_q])) (by (simp -dsimp only [↓RP, RQ, implies_true, forall_const, Nat.reduceMul, reduceIte, reduceCtorEq, Nat.reduceAdd, Nat.reduceEqDiff, Nat.reduceLT, Nat.reduceLeDiff, B])) ?_
 (repeat' (first | with_reducible refine splitVC_d (fun _ => ?_) (fun _ => ?_) | ((with_reducible refine And.intro ?_ ?_); focus (first | exact True.intro | omega | (simp only [InK, ne_eq, and_true, true_and]; omega) | trivial)) | (simp -dsimp only [↓RP, RQ, implies_true, forall_const, Nat.reduceMul, reduceIte, reduceCtorEq, Nat.reduceAdd, Nat.reduceEqDiff, Nat.reduceLT, Nat.reduceLeDiff, TYm, QF, fsv, B, I, by2, RZ, eq_self, TY, Try.results35])))
 rotate_left
 ·refine I_eq (Mk.err_2 (by omega) (by assumption))
 rename_i hS
 refine callVC (c84b M.m M.q (by omega)) (by (simp -dsimp only [↓RP, RQ, implies_true, forall_const, Nat.reduceMul, reduceIte, reduceCtorEq, Nat.reduceAdd, Nat.reduceEqDiff, Nat.reduceLT, Nat.reduceLeDiff, qts, I]); all_goals (try simp [sub_q])) (by (simp -dsimp only [↓RP, RQ, implies_true, forall_const, Nat.reduceMul, reduceIte, reduceCtorEq, Nat.reduceAdd, Nat.reduceEqDiff, Nat.reduceLT, Nat.reduceLeDiff, B])) ?_
 (repeat' (first | with_reducible refine splitVC_d (fun _ => ?_) (fun _ => ?_) | ((with_reducible refine And.intro ?_ ?_); focus (first | exact True.intro | omega | (simp only [InK, ne_eq, and_true, true_and]; omega) | trivial)) | (simp -dsimp only [↓RP, RQ, implies_true, forall_const, Nat.reduceMul, reduceIte, reduceCtorEq, Nat.reduceAdd, Nat.reduceEqDiff, Nat.reduceLT, Nat.reduceLeDiff, TYm, QF, fsv, B, I, by2, RZ, eq_self, TY, Try.results35])))
 all_goals first | exact I_eq (Mk.err_3 (by omega) hS (by assumption)) | exact I_eq (Mk.err_0 (by omega) hS (by assumption)) | trace_state
end Go.Od
end
section
set_option linter.unusedSimpArgs false
set_option linter.unusedVariables false
set_option linter.defProp false
set_option maxRecDepth 100000
set_option maxHeartbeats 16000000
namespace Go.Od
open Go.Proofs
open Go.Sx
theorem eq120 : eqInfo Try.prog 120 = some [.i .i64, .b] := by kernel_rfl
theorem TYn : True ∧ tyOf Try.prog 118 = some ⟨true, 23, some [.int .i64 0, .slice none 0 0, .int .i64 0, .int .i64 0, .int .i64 0, .int .i64 0, .int .i64 0, .int .i64 0, .int .i64 0, .int .i64 0, .int .i64 0, .int .i64 0, .int .i64 0, .int .i64 0, .int .i64 0, .int .i64 0, .int .i64 0, .int .i64 0, .int .i64 0, .int .i64 0, .int .i64 0, .int .i64 0, .map none], .struct [(0, 2, some true), (2, 10, some true), (12, 10, some true), (22, 1, some false)]⟩ ∧ tyOf Try.prog 120 = some ⟨true, 2, some [.int .i64 0, .bool false], .struct [(0, 1, some false), (1, 1, some false)]⟩ ∧ placesOf Try.prog 120 = some [(0, 1), (1, 1)] ∧ eqInfo Try.prog 120 = some [.i .i64, .b] := ⟨trivial, by kernel_rfl, by kernel_rfl, by kernel_rfl, eq120⟩
def wonX (q : Qt) (s w : Int) : Int := if q.r = w then (2520 : Int).tdiv q.d * q.n * s else -2520 * s
def wonV (q : Qt) (s w : Int) : Int := if q.l = true then -wonX q s w else wonX q s w
def netT (q : Nat → Qt) (s : Nat → Int) (w : Int) : Nat → Int
 | 0 => 0
 | i + 1 => netT q s w i + wonV (q i) (s i) w
theorem dq {d : Int} (h1 : 1 ≤ d) : 0 ≤ (2520 : Int).tdiv d ∧ (2520 : Int).tdiv d ≤ 2520 := by
 have h := tdiv_spec (a := 2520) (b := d) (by omega) (by omega)
 have h2 : (2520 : Int).tdiv d * 1 ≤ (2520 : Int).tdiv d * d := mul_le h.1 h1
 omega
theorem wonX_bd {q : Qt} {s w : Int} (hq : (0 ≤ q.n ∧ q.n ≤ 190) ∧ 1 ≤ q.d ∧ q.d ≤ 10) (hs : 0 ≤ s ∧ s ≤ 1099511627776) : -526446167379148800 ≤ wonX q s w ∧ wonX q s w ≤ 526446167379148800 := by
 unfold wonX
 split
 ·have ⟨d0, d1⟩ := dq hq.2.1
  have m1 := mul_in ((2520 : Int).tdiv q.d) q.n 2520 190 d0 hq.1.1 d1 hq.1.2
  have m2 := mul_in ((2520 : Int).tdiv q.d * q.n) s 478800 1099511627776 m1.1 hs.1 (by omega) hs.2
  omega
 ·omega
theorem netT_bd {q : Nat → Qt} {s : Nat → Int} {w : Int} : ∀ {m : Nat}, okO q m → (∀ i, i < m → 0 ≤ s i ∧ s i ≤ 1099511627776) → -(526446167379148800 * m) ≤ netT q s w m ∧ netT q s w m ≤ 526446167379148800 * m
 | 0, _, _ => by simp [netT]
 | m + 1, hq, hs => by
  have ih := netT_bd (q := q) (s := s) (w := w) (m := m) (fun i hi => hq i (by omega)) (fun i hi => hs i (by omega))
  have h := wonX_bd (w := w) (hq m (by omega)) (hs m (by omega))
  simp only [netT, wonV]
  split <;> omega
def dkf (run : Int) (m : Nat) (q : Nat → Qt) : Nat → SV
 | 0 => .val (.int .i64 run)
 | _ => .arr false false m 4 (fun i j => qf (q i) j)
theorem DKF : True ∧ (∀ run m q, dkf run m q 0 = .val (.int .i64 run)) ∧ (∀ run m q, dkf run m q 1 = .arr false false m 4 (fun i j => qf (q i) j)) := ⟨trivial, fun _ _ _ => rfl, fun _ _ _ => rfl⟩
theorem dkf_old (run : Int) (m : Nat) (q : Nat → Qt) : ∀ j, Old (dkf run m q j)
 | 0 => by simp [dkf, Old]
 | _ + 1 => qts_old m q
def allS (s : Nat → Int) (m : Nat) : Prop := ∀ i, i < m → 0 ≤ s i ∧ s i ≤ 1099511627776
instance (s : Nat → Int) (m : Nat) : Decidable (allS s m) := by unfold allS; infer_instance
theorem c80 (M : Mk) (hf : M.Fine) (s : Nat → Int) (hs : allS s M.m) (w : Int) : Contract Try.prog 80 [.ref false 2 (dkf M.run M.m M.q), ints M.m s, I w] (I (netT M.q s w M.m)) := by
 refine contract_of Try.func80 rfl (by kernel_rfl) follows (by kernel_rfl) _ _ (by rw [Try.ntmps80]; simp) (by simp only [OldL, Old, ints, I, and_self, and_true, true_and]; exact ⟨fun j _ => dkf_old _ _ _ j, fun _ _ _ _ => trivial⟩) ?_
 have hm := hf.m12
 conv => arg 4; unfold ints I
 (repeat' (first | with_reducible refine splitVC_d (fun _ => ?_) (fun _ => ?_) | with_reducible refine splitVC (fun _ => ?_) (fun _ => ?_) | ((with_reducible refine And.intro ?_ ?_); focus (first | exact True.intro | omega | (simp only [InK, ne_eq, and_true, true_and]; omega) | trivial)) | (simp -dsimp only [↓RP, RQ, implies_true, forall_const, Nat.reduceMul, reduceIte, reduceCtorEq, Nat.reduceAdd, Nat.reduceEqDiff, Nat.reduceLT, Nat.reduceLeDiff, TYm, TYn, QF, DKF, fsv, B, I, by2, RZ, eq_self, TY, Try.results80])))
 refine loop_vc (fun i => i ≤ M.m) (fun i => ⟨[(0, .ref false 2 (dkf M.run M.m M.q)), (1, .arr false false M.m 1 (fun i _ => .val (.int .i64 (s i)))), (2, .val (.int .i64 w)), (6, .val (.int .i64 0)), (7, .val (.int .i64 (netT M.q s w i))), (15, .arr false false M.m 4 (fun i j => qf (M.q i) j)), (16, .val (.int .i64 M.m)), (17, .val (.int .i64 i))], [], 40⟩) (fun i => M.m - i) 0 (Nat.zero_le _) (weak [] [] ?_ ?_ ?_) fun i hi => ?_
 ·(simp -dsimp only [↓RP, RQ, implies_true, forall_const, Nat.reduceMul, reduceIte, reduceCtorEq, Nat.reduceAdd, Nat.reduceEqDiff, Nat.reduceLT, Nat.reduceLeDiff, netT, DKF]); all_goals (try simp [wk_q, netT])
  all_goals (try (intro j hj; (have : j = 0 ∨ j = 1 := (by omega)); rcases this with rfl | rfl <;> simp [dkf, Wk, wk_q]))
 ·(simp -dsimp only [↓RP, RQ, implies_true, forall_const, Nat.reduceMul, reduceIte, reduceCtorEq, Nat.reduceAdd, Nat.reduceEqDiff, Nat.reduceLT, Nat.reduceLeDiff]); all_goals (try simp [wk_q])
 ·(simp -dsimp only [↓RP, RQ, implies_true, forall_const, Nat.reduceMul, reduceIte, reduceCtorEq, Nat.reduceAdd, Nat.reduceEqDiff, Nat.reduceLT, Nat.reduceLeDiff]); all_goals (try simp)
 have nb := netT_bd (w := w) (m := i) (fun j hj => hf.od j (by omega)) fun j hj => hs j (by omega)
 by_cases hlt : i < M.m
 ·have hq := hf.od i hlt
  have hsi := hs i hlt
  have ⟨d0, d1⟩ := dq hq.2.1
  have m1 := mul_in ((2520 : Int).tdiv (M.q i).d) (M.q i).n 2520 190 d0 hq.1.1 d1 hq.1.2
  have m2 := mul_in ((2520 : Int).tdiv (M.q i).d * (M.q i).n) (s i) 478800 1099511627776 m1.1 hsi.1 (by omega) hsi.2
  have hs' : netT M.q s w (i + 1) = netT M.q s w i + wonV (M.q i) (s i) w := rfl
  unfold wonV wonX at hs'
  cases hl : (M.q i).l
  all_goals rw [hl] at hs'
  all_goals (repeat' (first | with_reducible refine splitVC_d (fun _ => ?_) (fun _ => ?_) | with_reducible refine splitVC (fun _ => ?_) (fun _ => ?_) | ((with_reducible refine And.intro ?_ ?_); focus (first | exact True.intro | omega | (simp only [InK, ne_eq, and_true, true_and]; omega) | trivial)) | (simp -dsimp only [↓RP, RQ, implies_true, forall_const, Nat.reduceMul, reduceIte, reduceCtorEq, Nat.reduceAdd, Nat.reduceEqDiff, Nat.reduceLT, Nat.reduceLeDiff, hl, TYm, TYn, QF, DKF, fsv, B, I, by2, RZ, eq_self, TY, Try.results80])))
  all_goals first | (exfalso; omega) | skip
  all_goals first
   | (rw [if_neg (by decide), if_pos (by assumption)] at hs')
   | (rw [if_neg (by decide), if_neg (by assumption)] at hs')
   | (rw [if_pos rfl, if_pos (by assumption)] at hs')
   | (rw [if_pos rfl, if_neg (by assumption)] at hs')
   | skip
  all_goals (refine ⟨i + 1, by omega, by omega, weak [] [] ?_ ?_ ?_⟩)
  all_goals ((simp -dsimp only [↓RP, RQ, implies_true, forall_const, Nat.reduceMul, reduceIte, reduceCtorEq, Nat.reduceAdd, Nat.reduceEqDiff, Nat.reduceLT, Nat.reduceLeDiff, DKF]); all_goals (try simp [hs', wk_q]))
  all_goals (try omega)
  all_goals (try (intro j hj; (have : j = 0 ∨ j = 1 := (by omega)); rcases this with rfl | rfl <;> simp [dkf, Wk, wk_q]))
 ·have e : i = M.m := by omega
  subst e
  (repeat' (first | with_reducible refine splitVC_d (fun _ => ?_) (fun _ => ?_) | with_reducible refine splitVC (fun _ => ?_) (fun _ => ?_) | ((with_reducible refine And.intro ?_ ?_); focus (first | exact True.intro | omega | (simp only [InK, ne_eq, and_true, true_and]; omega) | trivial)) | (simp -dsimp only [↓RP, RQ, implies_true, forall_const, Nat.reduceMul, reduceIte, reduceCtorEq, Nat.reduceAdd, Nat.reduceEqDiff, Nat.reduceLT, Nat.reduceLeDiff, TYm, TYn, QF, DKF, fsv, B, I, by2, RZ, eq_self, TY, Try.results80])))
  all_goals first | (exfalso; omega) | skip
theorem c59 (M : Mk) (hf : M.Fine) (s : Nat → Int) (hs : allS s M.m) (w : Int) : Contract Try.prog 59 [M.sv, ints M.m s, I w] (I (netT M.q s w M.m)) := by
 refine contract_of Try.func59 rfl (by kernel_rfl) follows (by kernel_rfl) _ _ (by rw [Try.ntmps59]; simp) (by simp only [OldL, Mk.old, true_and]; simp [Old, ints, I]) ?_
 have hm := hf.m12
 conv => arg 4; unfold Mk.sv qts ints I
 (repeat' (first | with_reducible refine splitVC_d (fun _ => ?_) (fun _ => ?_) | with_reducible refine splitVC (fun _ => ?_) (fun _ => ?_) | ((with_reducible refine And.intro ?_ ?_); focus (first | exact True.intro | omega | (simp only [InK, ne_eq, and_true, true_and]; omega) | trivial)) | (simp -dsimp only [↓RP, RQ, implies_true, forall_const, Nat.reduceMul, reduceIte, reduceCtorEq, Nat.reduceAdd, Nat.reduceEqDiff, Nat.reduceLT, Nat.reduceLeDiff, TYm, TYn, QF, DKF, fsv, B, I, by2, RZ, eq_self, TY, Try.results59])))
 refine loop_vc (fun i => i ≤ M.m) (fun i => ⟨[(1, .arr false false M.m 1 (fun i _ => .val (.int .i64 (s i)))), (2, .val (.int .i64 w)), (3, .ptr 0 0), (6, .val (.int .i64 0)), (7, .val (.int .i64 (netT M.q s w i))), (8, .val (.int .i64 i))], [(0, .cells 44 [.val (.int .i64 M.run), .arr false false M.m 4 (fun i j => qf (M.q i) j)])], 40⟩) (fun i => M.m - i) 0 (Nat.zero_le _) (weak [] [] ?_ ?_ ?_) fun i hi => ?_
 ·(simp -dsimp only [↓RP, RQ, implies_true, forall_const, Nat.reduceMul, reduceIte, reduceCtorEq, Nat.reduceAdd, Nat.reduceEqDiff, Nat.reduceLT, Nat.reduceLeDiff, netT, DKF]); all_goals (try simp [wk_q, netT])
  all_goals (try (intro j hj; (have : j = 0 ∨ j = 1 := (by omega)); rcases this with rfl | rfl <;> simp [dkf, Wk, wk_q]))
 ·(simp -dsimp only [↓RP, RQ, implies_true, forall_const, Nat.reduceMul, reduceIte, reduceCtorEq, Nat.reduceAdd, Nat.reduceEqDiff, Nat.reduceLT, Nat.reduceLeDiff]); all_goals (try simp [wk_q])
 ·(simp -dsimp only [↓RP, RQ, implies_true, forall_const, Nat.reduceMul, reduceIte, reduceCtorEq, Nat.reduceAdd, Nat.reduceEqDiff, Nat.reduceLT, Nat.reduceLeDiff]); all_goals (try simp)
 have nb := netT_bd (w := w) (m := i) (fun j hj => hf.od j (by omega)) fun j hj => hs j (by omega)
 by_cases hlt : i < M.m
 ·have hq := hf.od i hlt
  have hsi := hs i hlt
  have ⟨d0, d1⟩ := dq hq.2.1
  have m1 := mul_in ((2520 : Int).tdiv (M.q i).d) (M.q i).n 2520 190 d0 hq.1.1 d1 hq.1.2
  have m2 := mul_in ((2520 : Int).tdiv (M.q i).d * (M.q i).n) (s i) 478800 1099511627776 m1.1 hsi.1 (by omega) hsi.2
  have hs' : netT M.q s w (i + 1) = netT M.q s w i + wonV (M.q i) (s i) w := rfl
  unfold wonV wonX at hs'
  cases hl : (M.q i).l
  all_goals rw [hl] at hs'
  all_goals (repeat' (first | with_reducible refine splitVC_d (fun _ => ?_) (fun _ => ?_) | with_reducible refine splitVC (fun _ => ?_) (fun _ => ?_) | ((with_reducible refine And.intro ?_ ?_); focus (first | exact True.intro | omega | (simp only [InK, ne_eq, and_true, true_and]; omega) | trivial)) | (simp -dsimp only [↓RP, RQ, implies_true, forall_const, Nat.reduceMul, reduceIte, reduceCtorEq, Nat.reduceAdd, Nat.reduceEqDiff, Nat.reduceLT, Nat.reduceLeDiff, hl, TYm, TYn, QF, DKF, fsv, B, I, by2, RZ, eq_self, TY, Try.results59])))
  all_goals first | (exfalso; omega) | skip
  all_goals first
   | (rw [if_neg (by decide), if_pos (by assumption)] at hs')
   | (rw [if_neg (by decide), if_neg (by assumption)] at hs')
   | (rw [if_pos rfl, if_pos (by assumption)] at hs')
   | (rw [if_pos rfl, if_neg (by assumption)] at hs')
   | skip
  all_goals (refine ⟨i + 1, by omega, by omega, weak [] [] ?_ ?_ ?_⟩)
  all_goals ((simp -dsimp only [↓RP, RQ, implies_true, forall_const, Nat.reduceMul, reduceIte, reduceCtorEq, Nat.reduceAdd, Nat.reduceEqDiff, Nat.reduceLT, Nat.reduceLeDiff, DKF]); all_goals (try simp [hs', wk_q]))
  all_goals (try omega)
  all_goals (try (intro j hj; (have : j = 0 ∨ j = 1 := (by omega)); rcases this with rfl | rfl <;> simp [dkf, Wk, wk_q]))
 ·have e : i = M.m := by omega
  subst e
  (repeat' (first | with_reducible refine splitVC_d (fun _ => ?_) (fun _ => ?_) | with_reducible refine splitVC (fun _ => ?_) (fun _ => ?_) | ((with_reducible refine And.intro ?_ ?_); focus (first | exact True.intro | omega | (simp only [InK, ne_eq, and_true, true_and]; omega) | trivial)) | (simp -dsimp only [↓RP, RQ, implies_true, forall_const, Nat.reduceMul, reduceIte, reduceCtorEq, Nat.reduceAdd, Nat.reduceEqDiff, Nat.reduceLT, Nat.reduceLeDiff, TYm, TYn, QF, DKF, fsv, B, I, by2, RZ, eq_self, TY, Try.results59])))
  all_goals first | (exfalso; omega) | skip
end Go.Od
end
section
set_option linter.unusedSimpArgs false
set_option linter.unusedVariables false
set_option linter.defProp false
set_option maxRecDepth 100000
set_option maxHeartbeats 16000000
namespace Go.Od
open Go.Proofs
open Go.Sx
def Mk.stk (M : Mk) (k : Nat) (s : Nat → Int) : Int := if M.err = 0 then (if k = M.m then (if allS s k then 0 else 3) else 15) else M.err
theorem Mk.stk_no {M : Mk} {k : Nat} {s : Nat → Int} (h : ¬ M.err = 0) : M.err = M.stk k s := by unfold Mk.stk; rw [if_neg h]
theorem Mk.stk_15 {M : Mk} {k : Nat} {s : Nat → Int} (h : M.err = 0) (h2 : ¬ k = M.m) : 15 = M.stk k s := by unfold Mk.stk; rw [if_pos h, if_neg h2]
theorem Mk.stk_3 {M : Mk} {k : Nat} {s : Nat → Int} (h : M.err = 0) (h2 : k = M.m) (h3 : ¬ allS s k) : 3 = M.stk k s := by unfold Mk.stk; rw [if_pos h, if_pos h2, if_neg h3]
theorem Mk.stk_0 {M : Mk} {k : Nat} {s : Nat → Int} (h : M.err = 0) (h2 : k = M.m) (h3 : allS s k) : 0 = M.stk k s := by unfold Mk.stk; rw [if_pos h, if_pos h2, if_pos h3]
theorem Mk.stk_iff {M : Mk} {k : Nat} {s : Nat → Int} : M.stk k s = 0 ↔ M.err = 0 ∧ k = M.m ∧ allS s k := by
 unfold Mk.stk
 split
 ·split
  ·split <;> simp_all
  ·simp_all
 ·simp_all
theorem c81 (M : Mk) (k : Nat) (s : Nat → Int) : Contract Try.prog 81 [M.sv, ints k s] (I (M.stk k s)) := by
 refine contract_of Try.func81 rfl (by kernel_rfl) follows (by kernel_rfl) _ _ (by rw [Try.ntmps81]; simp) (by simp only [OldL, Mk.old, true_and]; simp [Old, ints]) ?_
 conv => arg 4; unfold Mk.sv qts ints I
 (repeat' (first | with_reducible refine splitVC_d (fun _ => ?_) (fun _ => ?_) | with_reducible refine splitVC (fun _ => ?_) (fun _ => ?_) | ((with_reducible refine And.intro ?_ ?_); focus (first | exact True.intro | omega | (simp only [InK, ne_eq, and_true, true_and]; omega) | trivial)) | (simp -dsimp only [↓RP, RQ, implies_true, forall_const, Nat.reduceMul, reduceIte, reduceCtorEq, Nat.reduceAdd, Nat.reduceEqDiff, Nat.reduceLT, Nat.reduceLeDiff, TYm, QF, fsv, B, I, by2, RZ, eq_self, TY, Try.results81])))
 refine callVC (c36 M) (by (simp -dsimp only [↓RP, RQ, implies_true, forall_const, Nat.reduceMul, reduceIte, reduceCtorEq, Nat.reduceAdd, Nat.reduceEqDiff, Nat.reduceLT, Nat.reduceLeDiff, Mk.sv, qts, I]); all_goals (try simp [sub_q])) (by (simp -dsimp only [↓RP, RQ, implies_true, forall_const, Nat.reduceMul, reduceIte, reduceCtorEq, Nat.reduceAdd, Nat.reduceEqDiff, Nat.reduceLT, Nat.reduceLeDiff, fsv, I])) ?_
 by_cases he : M.err = 0
 rotate_left
 ·(repeat' (first | with_reducible refine splitVC_d (fun _ => ?_) (fun _ => ?_) | with_reducible refine splitVC (fun _ => ?_) (fun _ => ?_) | ((with_reducible refine And.intro ?_ ?_); focus (first | exact True.intro | omega | (simp only [InK, ne_eq, and_true, true_and]; omega) | trivial)) | (simp -dsimp only [↓RP, RQ, implies_true, forall_const, Nat.reduceMul, reduceIte, reduceCtorEq, Nat.reduceAdd, Nat.reduceEqDiff, Nat.reduceLT, Nat.reduceLeDiff, TYm, QF, fsv, B, I, by2, RZ, eq_self, TY, Try.results81])))
  all_goals first | (exfalso; omega) | skip
  refine callVC (c36 M) (by (simp -dsimp only [↓RP, RQ, implies_true, forall_const, Nat.reduceMul, reduceIte, reduceCtorEq, Nat.reduceAdd, Nat.reduceEqDiff, Nat.reduceLT, Nat.reduceLeDiff, Mk.sv, qts, I]); all_goals (try simp [sub_q])) (by (simp -dsimp only [↓RP, RQ, implies_true, forall_const, Nat.reduceMul, reduceIte, reduceCtorEq, Nat.reduceAdd, Nat.reduceEqDiff, Nat.reduceLT, Nat.reduceLeDiff, fsv, I])) ?_
  (repeat' (first | with_reducible refine splitVC_d (fun _ => ?_) (fun _ => ?_) | with_reducible refine splitVC (fun _ => ?_) (fun _ => ?_) | ((with_reducible refine And.intro ?_ ?_); focus (first | exact True.intro | omega | (simp only [InK, ne_eq, and_true, true_and]; omega) | trivial)) | (simp -dsimp only [↓RP, RQ, implies_true, forall_const, Nat.reduceMul, reduceIte, reduceCtorEq, Nat.reduceAdd, Nat.reduceEqDiff, Nat.reduceLT, Nat.reduceLeDiff, TYm, QF, fsv, B, I, by2, RZ, eq_self, TY, Try.results81])))
  all_goals exact I_eq (Mk.stk_no he)
 rw [he]
 (repeat' (first | with_reducible refine splitVC_d (fun _ => ?_) (fun _ => ?_) | with_reducible refine splitVC (fun _ => ?_) (fun _ => ?_) | ((with_reducible refine And.intro ?_ ?_); focus (first | exact True.intro | omega | (simp only [InK, ne_eq, and_true, true_and]; omega) | trivial)) | (simp -dsimp only [↓RP, RQ, implies_true, forall_const, Nat.reduceMul, reduceIte, reduceCtorEq, Nat.reduceAdd, Nat.reduceEqDiff, Nat.reduceLT, Nat.reduceLeDiff, TYm, QF, fsv, B, I, by2, RZ, eq_self, TY, Try.results81])))
 all_goals first | (exfalso; omega) | skip
 rotate_left
 ·exact I_eq (Mk.stk_15 he (by omega))
 have hk : k = M.m := by omega
 have hm12 := (Mk.fine he).m12
 refine loop_vc (fun i => i ≤ k ∧ allS s i) (fun i => ⟨[(1, .arr false false k 1 (fun i _ => .val (.int .i64 (s i)))), (4, .val (.int .i64 0)), (5, .val (.int .i64 i))], [], 40⟩) (fun i => k - i) 0 ⟨Nat.zero_le _, fun j hj => by omega⟩ (weak [] [] ?_ ?_ ?_) fun i hi => ?_
 ·(simp -dsimp only [↓RP, RQ, implies_true, forall_const, Nat.reduceMul, reduceIte, reduceCtorEq, Nat.reduceAdd, Nat.reduceEqDiff, Nat.reduceLT, Nat.reduceLeDiff]); all_goals (try simp [wk_q])
 ·(simp -dsimp only [↓RP, RQ, implies_true, forall_const, Nat.reduceMul, reduceIte, reduceCtorEq, Nat.reduceAdd, Nat.reduceEqDiff, Nat.reduceLT, Nat.reduceLeDiff]); all_goals (try simp [wk_q])
 ·(simp -dsimp only [↓RP, RQ, implies_true, forall_const, Nat.reduceMul, reduceIte, reduceCtorEq, Nat.reduceAdd, Nat.reduceEqDiff, Nat.reduceLT, Nat.reduceLeDiff]); all_goals (try simp [wk_q])
 (repeat' (first | with_reducible refine splitVC_d (fun _ => ?_) (fun _ => ?_) | with_reducible refine splitVC (fun _ => ?_) (fun _ => ?_) | ((with_reducible refine And.intro ?_ ?_); focus (first | exact True.intro | omega | (simp only [InK, ne_eq, and_true, true_and]; omega) | trivial)) | (simp -dsimp only [↓RP, RQ, implies_true, forall_const, Nat.reduceMul, reduceIte, reduceCtorEq, Nat.reduceAdd, Nat.reduceEqDiff, Nat.reduceLT, Nat.reduceLeDiff, TYm, QF, fsv, B, I, by2, RZ, eq_self, TY, Try.results81])))
 all_goals first
  | (refine I_eq (Mk.stk_3 he hk fun h => ?_); have h2 := h i (by omega); omega)
  | (refine I_eq (Mk.stk_0 he hk ?_); have e : i = k := (by omega); exact e ▸ hi.2)
  | skip
 refine ⟨i + 1, ⟨by omega, fun j hj => ?_⟩, by omega, weak [] [] ?_ ?_ ?_⟩
 ·by_cases e : j = i
  ·subst e; omega
  ·exact hi.2 j (by omega)
 ·(simp -dsimp only [↓RP, RQ, implies_true, forall_const, Nat.reduceMul, reduceIte, reduceCtorEq, Nat.reduceAdd, Nat.reduceEqDiff, Nat.reduceLT, Nat.reduceLeDiff]); all_goals (try simp [wk_q])
 ·(simp -dsimp only [↓RP, RQ, implies_true, forall_const, Nat.reduceMul, reduceIte, reduceCtorEq, Nat.reduceAdd, Nat.reduceEqDiff, Nat.reduceLT, Nat.reduceLeDiff]); all_goals (try simp [wk_q])
 ·(simp -dsimp only [↓RP, RQ, implies_true, forall_const, Nat.reduceMul, reduceIte, reduceCtorEq, Nat.reduceAdd, Nat.reduceEqDiff, Nat.reduceLT, Nat.reduceLeDiff]); all_goals (try simp [wk_q])
def fairQ (q : Qt) (c : Nat → Int) (all : Int) : Prop := if q.l = true then all * q.d ≤ c q.r.toNat * (q.d + q.n) else c q.r.toNat * (q.d + q.n) ≤ all * q.d
instance (q : Qt) (c : Nat → Int) (all : Int) : Decidable (fairQ q c all) := by unfold fairQ; infer_instance
def fairC (q : Nat → Qt) (c : Nat → Int) (all : Int) (m : Nat) : Prop := ∀ i, i < m → fairQ (q i) c all
instance (q : Nat → Qt) (c : Nat → Int) (all : Int) (m : Nat) : Decidable (fairC q c all m) := by unfold fairC; infer_instance
def okC (c : Nat → Int) (k : Nat) : Prop := allS c k ∧ (1 ≤ sumTo c k ∧ sumTo c k ≤ 1099511627776)
instance (c : Nat → Int) (k : Nat) : Decidable (okC c k) := by unfold okC; infer_instance
def Mk.chE (M : Mk) (k : Nat) (c : Nat → Int) : Int := if M.err = 0 then (if (k : Int) = M.run then (if okC c k then (if fairC M.q c (sumTo c k) M.m then 0 else 20) else 3) else 15) else M.err
theorem Mk.chE_no {M : Mk} {k : Nat} {c : Nat → Int} (h : ¬ M.err = 0) : M.err = M.chE k c := by unfold Mk.chE; rw [if_neg h]
theorem Mk.chE_15 {M : Mk} {k : Nat} {c : Nat → Int} (h : M.err = 0) (h2 : ¬ (k : Int) = M.run) : 15 = M.chE k c := by unfold Mk.chE; rw [if_pos h, if_neg h2]
theorem Mk.chE_3 {M : Mk} {k : Nat} {c : Nat → Int} (h : M.err = 0) (h2 : (k : Int) = M.run) (h3 : ¬ okC c k) : 3 = M.chE k c := by unfold Mk.chE; rw [if_pos h, if_pos h2, if_neg h3]
theorem Mk.chE_20 {M : Mk} {k : Nat} {c : Nat → Int} (h : M.err = 0) (h2 : (k : Int) = M.run) (h3 : okC c k) (h4 : ¬ fairC M.q c (sumTo c k) M.m) : 20 = M.chE k c := by unfold Mk.chE; rw [if_pos h, if_pos h2, if_pos h3, if_neg h4]
theorem Mk.chE_0 {M : Mk} {k : Nat} {c : Nat → Int} (h : M.err = 0) (h2 : (k : Int) = M.run) (h3 : okC c k) (h4 : fairC M.q c (sumTo c k) M.m) : 0 = M.chE k c := by unfold Mk.chE; rw [if_pos h, if_pos h2, if_pos h3, if_pos h4]
theorem c90 (k : Nat) (hk : k ≤ 20) (c : Nat → Int) (hc : allS c k) : Contract Try.prog 90 [ints k c] (I (sumTo c k)) := by
 refine contract_of Try.func90 rfl (by kernel_rfl) follows (by kernel_rfl) _ _ (by rw [Try.ntmps90]; simp) (by simp [OldL, Old, ints]) ?_
 conv => arg 4; unfold ints I
 (repeat' (first | with_reducible refine splitVC_d (fun _ => ?_) (fun _ => ?_) | with_reducible refine splitVC (fun _ => ?_) (fun _ => ?_) | ((with_reducible refine And.intro ?_ ?_); focus (first | exact True.intro | omega | (simp only [InK, ne_eq, and_true, true_and]; omega) | trivial)) | (simp -dsimp only [↓RP, RQ, implies_true, forall_const, Nat.reduceMul, reduceIte, reduceCtorEq, Nat.reduceAdd, Nat.reduceEqDiff, Nat.reduceLT, Nat.reduceLeDiff, TYm, QF, fsv, B, I, by2, RZ, eq_self, TY, Try.results90])))
 refine loop_vc (fun i => i ≤ k) (fun i => ⟨[(3, .val (.int .i64 (sumTo c i))), (6, .arr false false k 1 (fun i _ => .val (.int .i64 (c i)))), (7, .val (.int .i64 k)), (8, .val (.int .i64 i))], [], 40⟩) (fun i => k - i) 0 (Nat.zero_le _) (weak [] [] ?_ ?_ ?_) fun i hi => ?_
 ·(simp -dsimp only [↓RP, RQ, implies_true, forall_const, Nat.reduceMul, reduceIte, reduceCtorEq, Nat.reduceAdd, Nat.reduceEqDiff, Nat.reduceLT, Nat.reduceLeDiff, sumTo]); all_goals (try simp [sumTo])
 ·(simp -dsimp only [↓RP, RQ, implies_true, forall_const, Nat.reduceMul, reduceIte, reduceCtorEq, Nat.reduceAdd, Nat.reduceEqDiff, Nat.reduceLT, Nat.reduceLeDiff]); all_goals (try simp)
 ·(simp -dsimp only [↓RP, RQ, implies_true, forall_const, Nat.reduceMul, reduceIte, reduceCtorEq, Nat.reduceAdd, Nat.reduceEqDiff, Nat.reduceLT, Nat.reduceLeDiff]); all_goals (try simp)
 have sb := sumTo_bd (u := c) (A := 1099511627776) (n := i) fun j hj => hc j (by omega)
 by_cases hlt : i < k
 ·have hci := hc i hlt
  (repeat' (first | with_reducible refine splitVC_d (fun _ => ?_) (fun _ => ?_) | with_reducible refine splitVC (fun _ => ?_) (fun _ => ?_) | ((with_reducible refine And.intro ?_ ?_); focus (first | exact True.intro | omega | (simp only [InK, ne_eq, and_true, true_and]; omega) | trivial)) | (simp -dsimp only [↓RP, RQ, implies_true, forall_const, Nat.reduceMul, reduceIte, reduceCtorEq, Nat.reduceAdd, Nat.reduceEqDiff, Nat.reduceLT, Nat.reduceLeDiff, TYm, QF, fsv, B, I, by2, RZ, eq_self, TY, Try.results90])))
  all_goals first | (exfalso; omega) | skip
  refine ⟨i + 1, by omega, by omega, weak [] [] ?_ ?_ ?_⟩
  ·(simp -dsimp only [↓RP, RQ, implies_true, forall_const, Nat.reduceMul, reduceIte, reduceCtorEq, Nat.reduceAdd, Nat.reduceEqDiff, Nat.reduceLT, Nat.reduceLeDiff, sumTo]); all_goals (try simp)
  ·(simp -dsimp only [↓RP, RQ, implies_true, forall_const, Nat.reduceMul, reduceIte, reduceCtorEq, Nat.reduceAdd, Nat.reduceEqDiff, Nat.reduceLT, Nat.reduceLeDiff]); all_goals (try simp)
  ·(simp -dsimp only [↓RP, RQ, implies_true, forall_const, Nat.reduceMul, reduceIte, reduceCtorEq, Nat.reduceAdd, Nat.reduceEqDiff, Nat.reduceLT, Nat.reduceLeDiff]); all_goals (try simp)
 ·have e : i = k := by omega
  subst e
  (repeat' (first | with_reducible refine splitVC_d (fun _ => ?_) (fun _ => ?_) | with_reducible refine splitVC (fun _ => ?_) (fun _ => ?_) | ((with_reducible refine And.intro ?_ ?_); focus (first | exact True.intro | omega | (simp only [InK, ne_eq, and_true, true_and]; omega) | trivial)) | (simp -dsimp only [↓RP, RQ, implies_true, forall_const, Nat.reduceMul, reduceIte, reduceCtorEq, Nat.reduceAdd, Nat.reduceEqDiff, Nat.reduceLT, Nat.reduceLeDiff, TYm, QF, fsv, B, I, by2, RZ, eq_self, TY, Try.results90])))
  all_goals first | (exfalso; omega) | skip
theorem c43 (M : Mk) (k : Nat) (hk6 : k ≤ 1000000) (c : Nat → Int) : Contract Try.prog 43 [M.sv, ints k c] (I (M.chE k c)) := by
 refine contract_of Try.func43 rfl (by kernel_rfl) follows (by kernel_rfl) _ _ (by rw [Try.ntmps43]; simp) (by simp only [OldL, Mk.old, true_and]; simp [Old, ints]) ?_
 conv => arg 4; unfold Mk.sv qts ints I
 (repeat' (first | with_reducible refine splitVC_d (fun _ => ?_) (fun _ => ?_) | with_reducible refine splitVC (fun _ => ?_) (fun _ => ?_) | ((with_reducible refine And.intro ?_ ?_); focus (first | exact True.intro | omega | (simp only [InK, ne_eq, and_true, true_and]; omega) | trivial)) | (simp -dsimp only [↓RP, RQ, implies_true, forall_const, Nat.reduceMul, reduceIte, reduceCtorEq, Nat.reduceAdd, Nat.reduceEqDiff, Nat.reduceLT, Nat.reduceLeDiff, TYm, QF, fsv, B, I, by2, RZ, eq_self, TY, Try.results43])))
 refine callVC (c35 M) (by (simp -dsimp only [↓RP, RQ, implies_true, forall_const, Nat.reduceMul, reduceIte, reduceCtorEq, Nat.reduceAdd, Nat.reduceEqDiff, Nat.reduceLT, Nat.reduceLeDiff, Mk.sv, qts, I]); all_goals (try simp [sub_q])) (by (simp -dsimp only [↓RP, RQ, implies_true, forall_const, Nat.reduceMul, reduceIte, reduceCtorEq, Nat.reduceAdd, Nat.reduceEqDiff, Nat.reduceLT, Nat.reduceLeDiff, fsv, I])) ?_
 by_cases he : M.err = 0
 rotate_left
 ·(repeat' (first | with_reducible refine splitVC_d (fun _ => ?_) (fun _ => ?_) | with_reducible refine splitVC (fun _ => ?_) (fun _ => ?_) | ((with_reducible refine And.intro ?_ ?_); focus (first | exact True.intro | omega | (simp only [InK, ne_eq, and_true, true_and]; omega) | trivial)) | (simp -dsimp only [↓RP, RQ, implies_true, forall_const, Nat.reduceMul, reduceIte, reduceCtorEq, Nat.reduceAdd, Nat.reduceEqDiff, Nat.reduceLT, Nat.reduceLeDiff, TYm, QF, fsv, B, I, by2, RZ, eq_self, TY, Try.results43])))
  all_goals first | (exfalso; omega) | skip
  all_goals exact I_eq (Mk.chE_no he)
 have hf := Mk.fine he
 rw [he]
 (repeat' (first | with_reducible refine splitVC_d (fun _ => ?_) (fun _ => ?_) | with_reducible refine splitVC (fun _ => ?_) (fun _ => ?_) | ((with_reducible refine And.intro ?_ ?_); focus (first | exact True.intro | omega | (simp only [InK, ne_eq, and_true, true_and]; omega) | trivial)) | (simp -dsimp only [↓RP, RQ, implies_true, forall_const, Nat.reduceMul, reduceIte, reduceCtorEq, Nat.reduceAdd, Nat.reduceEqDiff, Nat.reduceLT, Nat.reduceLeDiff, TYm, QF, fsv, B, I, by2, RZ, eq_self, TY, Try.results43])))
 all_goals first | (exfalso; omega) | skip
 rotate_left
 ·exact I_eq (Mk.chE_15 he (by omega))
 have hk : (k : Int) = M.run := by omega
 have hr5 := hf.r5
 have hm12 := hf.m12
 refine callVC (c67 k c 0 1099511627776 hk6) (by (simp -dsimp only [↓RP, RQ, implies_true, forall_const, Nat.reduceMul, reduceIte, reduceCtorEq, Nat.reduceAdd, Nat.reduceEqDiff, Nat.reduceLT, Nat.reduceLeDiff, Go.Od.ints, I]); all_goals (try simp)) (by (simp -dsimp only [↓RP, RQ, implies_true, forall_const, Nat.reduceMul, reduceIte, reduceCtorEq, Nat.reduceAdd, Nat.reduceEqDiff, Nat.reduceLT, Nat.reduceLeDiff, B])) ?_
 (repeat' (first | with_reducible refine splitVC_d (fun _ => ?_) (fun _ => ?_) | with_reducible refine splitVC (fun _ => ?_) (fun _ => ?_) | ((with_reducible refine And.intro ?_ ?_); focus (first | exact True.intro | omega | (simp only [InK, ne_eq, and_true, true_and]; omega) | trivial)) | (simp -dsimp only [↓RP, RQ, implies_true, forall_const, Nat.reduceMul, reduceIte, reduceCtorEq, Nat.reduceAdd, Nat.reduceEqDiff, Nat.reduceLT, Nat.reduceLeDiff, TYm, QF, fsv, B, I, by2, RZ, eq_self, TY, Try.results43])))
 rotate_left
 ·exact I_eq (Mk.chE_3 he hk fun h => by have := h.1; contradiction)
 rename_i ha
 have ha : allS c k := ha
 refine callVC (c90 k (by omega) c ha) (by (simp -dsimp only [↓RP, RQ, implies_true, forall_const, Nat.reduceMul, reduceIte, reduceCtorEq, Nat.reduceAdd, Nat.reduceEqDiff, Nat.reduceLT, Nat.reduceLeDiff, Go.Od.ints, I]); all_goals (try simp)) (by (simp -dsimp only [↓RP, RQ, implies_true, forall_const, Nat.reduceMul, reduceIte, reduceCtorEq, Nat.reduceAdd, Nat.reduceEqDiff, Nat.reduceLT, Nat.reduceLeDiff, fsv, I])) ?_
 (repeat' (first | with_reducible refine splitVC_d (fun _ => ?_) (fun _ => ?_) | with_reducible refine splitVC (fun _ => ?_) (fun _ => ?_) | ((with_reducible refine And.intro ?_ ?_); focus (first | exact True.intro | omega | (simp only [InK, ne_eq, and_true, true_and]; omega) | trivial)) | (simp -dsimp only [↓RP, RQ, implies_true, forall_const, Nat.reduceMul, reduceIte, reduceCtorEq, Nat.reduceAdd, Nat.reduceEqDiff, Nat.reduceLT, Nat.reduceLeDiff, TYm, QF, fsv, B, I, by2, RZ, eq_self, TY, Try.results43])))
 refine callVC (c67_1 (sumTo c k) 1 1099511627776) (by (simp -dsimp only [↓RP, RQ, implies_true, forall_const, Nat.reduceMul, reduceIte, reduceCtorEq, Nat.reduceAdd, Nat.reduceEqDiff, Nat.reduceLT, Nat.reduceLeDiff, Go.Od.ints, I]); all_goals (try simp)) (by (simp -dsimp only [↓RP, RQ, implies_true, forall_const, Nat.reduceMul, reduceIte, reduceCtorEq, Nat.reduceAdd, Nat.reduceEqDiff, Nat.reduceLT, Nat.reduceLeDiff, B])) ?_
 (repeat' (first | with_reducible refine splitVC_d (fun _ => ?_) (fun _ => ?_) | with_reducible refine splitVC (fun _ => ?_) (fun _ => ?_) | ((with_reducible refine And.intro ?_ ?_); focus (first | exact True.intro | omega | (simp only [InK, ne_eq, and_true, true_and]; omega) | trivial)) | (simp -dsimp only [↓RP, RQ, implies_true, forall_const, Nat.reduceMul, reduceIte, reduceCtorEq, Nat.reduceAdd, Nat.reduceEqDiff, Nat.reduceLT, Nat.reduceLeDiff, TYm, QF, fsv, B, I, by2, RZ, eq_self, TY, Try.results43])))
 rotate_left
 ·rename_i h; exact I_eq (Mk.chE_3 he hk fun h2 => h h2.2)
 rename_i h1
 have hok : okC c k := ⟨ha, h1⟩
 refine callVC (c90 k (by omega) c ha) (by (simp -dsimp only [↓RP, RQ, implies_true, forall_const, Nat.reduceMul, reduceIte, reduceCtorEq, Nat.reduceAdd, Nat.reduceEqDiff, Nat.reduceLT, Nat.reduceLeDiff, Go.Od.ints, I]); all_goals (try simp)) (by (simp -dsimp only [↓RP, RQ, implies_true, forall_const, Nat.reduceMul, reduceIte, reduceCtorEq, Nat.reduceAdd, Nat.reduceEqDiff, Nat.reduceLT, Nat.reduceLeDiff, fsv, I])) ?_
 (repeat' (first | with_reducible refine splitVC_d (fun _ => ?_) (fun _ => ?_) | with_reducible refine splitVC (fun _ => ?_) (fun _ => ?_) | ((with_reducible refine And.intro ?_ ?_); focus (first | exact True.intro | omega | (simp only [InK, ne_eq, and_true, true_and]; omega) | trivial)) | (simp -dsimp only [↓RP, RQ, implies_true, forall_const, Nat.reduceMul, reduceIte, reduceCtorEq, Nat.reduceAdd, Nat.reduceEqDiff, Nat.reduceLT, Nat.reduceLeDiff, TYm, QF, fsv, B, I, by2, RZ, eq_self, TY, Try.results43])))
 refine loop_vc (fun i => i ≤ M.m ∧ fairC M.q c (sumTo c k) i) (fun i => ⟨[(1, .arr false false k 1 (fun i _ => .val (.int .i64 (c i)))), (6, .val (.int .i64 (sumTo c k))), (36, .arr false false M.m 4 (fun i j => qf (M.q i) j)), (37, .val (.int .i64 M.m)), (38, .val (.int .i64 i))], [], 80⟩) (fun i => M.m - i) 0 ⟨Nat.zero_le _, fun j hj => by omega⟩ (weak [] [] ?_ ?_ ?_) fun i hi => ?_
 ·(simp -dsimp only [↓RP, RQ, implies_true, forall_const, Nat.reduceMul, reduceIte, reduceCtorEq, Nat.reduceAdd, Nat.reduceEqDiff, Nat.reduceLT, Nat.reduceLeDiff]); all_goals (try simp [wk_q])
 ·(simp -dsimp only [↓RP, RQ, implies_true, forall_const, Nat.reduceMul, reduceIte, reduceCtorEq, Nat.reduceAdd, Nat.reduceEqDiff, Nat.reduceLT, Nat.reduceLeDiff]); all_goals (try simp [wk_q])
 ·(simp -dsimp only [↓RP, RQ, implies_true, forall_const, Nat.reduceMul, reduceIte, reduceCtorEq, Nat.reduceAdd, Nat.reduceEqDiff, Nat.reduceLT, Nat.reduceLeDiff]); all_goals (try simp [wk_q])
 by_cases hlt : i < M.m
 ·have hq := hf.od i hlt
  have hr := hf.st i hlt
  have hc := hok.1 (M.q i).r.toNat (by omega)
  have m1 := mul_in (c (M.q i).r.toNat) ((M.q i).d + (M.q i).n) 1099511627776 200 hc.1 (by omega) hc.2 (by omega)
  have m2 := mul_in (sumTo c k) (M.q i).d 1099511627776 10 (by omega) (by omega) (by omega) (by omega)
  have hF : fairQ (M.q i) c (sumTo c k) ↔ if (M.q i).l = true then sumTo c k * (M.q i).d ≤ c (M.q i).r.toNat * ((M.q i).d + (M.q i).n) else c (M.q i).r.toNat * ((M.q i).d + (M.q i).n) ≤ sumTo c k * (M.q i).d := Iff.rfl
  have hno : ¬ fairQ (M.q i) c (sumTo c k) → SV.val (.int .i64 20) = SV.val (.int .i64 (M.chE k c)) := fun h => I_eq (Mk.chE_20 he hk hok fun h2 => h (h2 i hlt))
  have hyes : fairQ (M.q i) c (sumTo c k) → fairC M.q c (sumTo c k) (i + 1) := fun h j hj => by
   by_cases e : j = i
   ·subst e; exact h
   ·exact hi.2 j (by omega)
  cases hl : (M.q i).l
  all_goals rw [hl] at hF
  ·rw [if_neg (by decide)] at hF
   (repeat' (first | with_reducible refine splitVC_d (fun _ => ?_) (fun _ => ?_) | with_reducible refine splitVC (fun _ => ?_) (fun _ => ?_) | ((with_reducible refine And.intro ?_ ?_); focus (first | exact True.intro | omega | (simp only [InK, ne_eq, and_true, true_and]; omega) | trivial)) | (simp -dsimp only [↓RP, RQ, implies_true, forall_const, Nat.reduceMul, reduceIte, reduceCtorEq, Nat.reduceAdd, Nat.reduceEqDiff, Nat.reduceLT, Nat.reduceLeDiff, hl, TYm, QF, fsv, B, I, by2, RZ, eq_self, TY, Try.results43])))
   all_goals first | (exfalso; omega) | (refine hno fun h => ?_; have h3 := hF.1 h; omega) | skip
   all_goals (refine ⟨i + 1, ⟨by omega, hyes (hF.2 (by omega))⟩, by omega, weak [] [] ?_ ?_ ?_⟩)
   all_goals ((simp -dsimp only [↓RP, RQ, implies_true, forall_const, Nat.reduceMul, reduceIte, reduceCtorEq, Nat.reduceAdd, Nat.reduceEqDiff, Nat.reduceLT, Nat.reduceLeDiff]); all_goals (try simp [wk_q]))
  ·rw [if_pos rfl] at hF
   (repeat' (first | with_reducible refine splitVC_d (fun _ => ?_) (fun _ => ?_) | with_reducible refine splitVC (fun _ => ?_) (fun _ => ?_) | ((with_reducible refine And.intro ?_ ?_); focus (first | exact True.intro | omega | (simp only [InK, ne_eq, and_true, true_and]; omega) | trivial)) | (simp -dsimp only [↓RP, RQ, implies_true, forall_const, Nat.reduceMul, reduceIte, reduceCtorEq, Nat.reduceAdd, Nat.reduceEqDiff, Nat.reduceLT, Nat.reduceLeDiff, hl, TYm, QF, fsv, B, I, by2, RZ, eq_self, TY, Try.results43])))
   all_goals first | (exfalso; omega) | (refine hno fun h => ?_; have h3 := hF.1 h; omega) | skip
   all_goals (refine ⟨i + 1, ⟨by omega, hyes (hF.2 (by omega))⟩, by omega, weak [] [] ?_ ?_ ?_⟩)
   all_goals ((simp -dsimp only [↓RP, RQ, implies_true, forall_const, Nat.reduceMul, reduceIte, reduceCtorEq, Nat.reduceAdd, Nat.reduceEqDiff, Nat.reduceLT, Nat.reduceLeDiff]); all_goals (try simp [wk_q]))
 ·have e : i = M.m := by omega
  (repeat' (first | with_reducible refine splitVC_d (fun _ => ?_) (fun _ => ?_) | with_reducible refine splitVC (fun _ => ?_) (fun _ => ?_) | ((with_reducible refine And.intro ?_ ?_); focus (first | exact True.intro | omega | (simp only [InK, ne_eq, and_true, true_and]; omega) | trivial)) | (simp -dsimp only [↓RP, RQ, implies_true, forall_const, Nat.reduceMul, reduceIte, reduceCtorEq, Nat.reduceAdd, Nat.reduceEqDiff, Nat.reduceLT, Nat.reduceLeDiff, TYm, QF, fsv, B, I, by2, RZ, eq_self, TY, Try.results43])))
  all_goals first | (exfalso; omega) | skip
  exact I_eq (Mk.chE_0 he hk hok (e ▸ hi.2))
theorem c44 (M : Mk) (k : Nat) (c : Nat → Int) : Contract Try.prog 44 [M.sv, ints k c] (I (M.chE k c)) := by
 refine contract_of Try.func44 rfl (by kernel_rfl) follows (by kernel_rfl) _ _ (by rw [Try.ntmps44]; simp) (by simp only [OldL, Mk.old, true_and]; simp [Old, ints]) ?_
 conv => arg 4; unfold Mk.sv qts ints I
 (repeat' (first | with_reducible refine splitVC_d (fun _ => ?_) (fun _ => ?_) | with_reducible refine splitVC (fun _ => ?_) (fun _ => ?_) | ((with_reducible refine And.intro ?_ ?_); focus (first | exact True.intro | omega | (simp only [InK, ne_eq, and_true, true_and]; omega) | trivial)) | (simp -dsimp only [↓RP, RQ, implies_true, forall_const, Nat.reduceMul, reduceIte, reduceCtorEq, Nat.reduceAdd, Nat.reduceEqDiff, Nat.reduceLT, Nat.reduceLeDiff, TYm, QF, fsv, B, I, by2, RZ, eq_self, TY, Try.results44])))
 refine callVC (c36 M) (by (simp -dsimp only [↓RP, RQ, implies_true, forall_const, Nat.reduceMul, reduceIte, reduceCtorEq, Nat.reduceAdd, Nat.reduceEqDiff, Nat.reduceLT, Nat.reduceLeDiff, Mk.sv, qts, I]); all_goals (try simp [sub_q])) (by (simp -dsimp only [↓RP, RQ, implies_true, forall_const, Nat.reduceMul, reduceIte, reduceCtorEq, Nat.reduceAdd, Nat.reduceEqDiff, Nat.reduceLT, Nat.reduceLeDiff, fsv, I])) ?_
 by_cases he : M.err = 0
 rotate_left
 ·(repeat' (first | with_reducible refine splitVC_d (fun _ => ?_) (fun _ => ?_) | with_reducible refine splitVC (fun _ => ?_) (fun _ => ?_) | ((with_reducible refine And.intro ?_ ?_); focus (first | exact True.intro | omega | (simp only [InK, ne_eq, and_true, true_and]; omega) | trivial)) | (simp -dsimp only [↓RP, RQ, implies_true, forall_const, Nat.reduceMul, reduceIte, reduceCtorEq, Nat.reduceAdd, Nat.reduceEqDiff, Nat.reduceLT, Nat.reduceLeDiff, TYm, QF, fsv, B, I, by2, RZ, eq_self, TY, Try.results44])))
  all_goals first | (exfalso; omega) | skip
  refine callVC (c36 M) (by (simp -dsimp only [↓RP, RQ, implies_true, forall_const, Nat.reduceMul, reduceIte, reduceCtorEq, Nat.reduceAdd, Nat.reduceEqDiff, Nat.reduceLT, Nat.reduceLeDiff, Mk.sv, qts, I]); all_goals (try simp [sub_q])) (by (simp -dsimp only [↓RP, RQ, implies_true, forall_const, Nat.reduceMul, reduceIte, reduceCtorEq, Nat.reduceAdd, Nat.reduceEqDiff, Nat.reduceLT, Nat.reduceLeDiff, fsv, I])) ?_
  (repeat' (first | with_reducible refine splitVC_d (fun _ => ?_) (fun _ => ?_) | with_reducible refine splitVC (fun _ => ?_) (fun _ => ?_) | ((with_reducible refine And.intro ?_ ?_); focus (first | exact True.intro | omega | (simp only [InK, ne_eq, and_true, true_and]; omega) | trivial)) | (simp -dsimp only [↓RP, RQ, implies_true, forall_const, Nat.reduceMul, reduceIte, reduceCtorEq, Nat.reduceAdd, Nat.reduceEqDiff, Nat.reduceLT, Nat.reduceLeDiff, TYm, QF, fsv, B, I, by2, RZ, eq_self, TY, Try.results44])))
  all_goals exact I_eq (Mk.chE_no he)
 have hf := Mk.fine he
 rw [he]
 (repeat' (first | with_reducible refine splitVC_d (fun _ => ?_) (fun _ => ?_) | with_reducible refine splitVC (fun _ => ?_) (fun _ => ?_) | ((with_reducible refine And.intro ?_ ?_); focus (first | exact True.intro | omega | (simp only [InK, ne_eq, and_true, true_and]; omega) | trivial)) | (simp -dsimp only [↓RP, RQ, implies_true, forall_const, Nat.reduceMul, reduceIte, reduceCtorEq, Nat.reduceAdd, Nat.reduceEqDiff, Nat.reduceLT, Nat.reduceLeDiff, TYm, QF, fsv, B, I, by2, RZ, eq_self, TY, Try.results44])))
 all_goals first | (exfalso; omega) | skip
 rotate_left
 ·exact I_eq (Mk.chE_15 he (by omega))
 have hk : (k : Int) = M.run := by omega
 have hr5 := hf.r5
 have hm12 := hf.m12
 refine loop_vc (fun i => i ≤ k ∧ allS c i) (fun i => ⟨[(1, .arr false false k 1 (fun i _ => .val (.int .i64 (c i)))), (2, .ptr 0 0), (5, .val (.int .i64 (sumTo c i))), (6, .val (.int .i64 i))], [(0, .cells 44 [.val (.int .i64 M.run), .arr false false M.m 4 (fun i j => qf (M.q i) j)])], 60⟩) (fun i => k - i) 0 ⟨Nat.zero_le _, fun j hj => by omega⟩ (weak [] [] ?_ ?_ ?_) fun i hi => ?_
 ·(simp -dsimp only [↓RP, RQ, implies_true, forall_const, Nat.reduceMul, reduceIte, reduceCtorEq, Nat.reduceAdd, Nat.reduceEqDiff, Nat.reduceLT, Nat.reduceLeDiff, sumTo]); all_goals (try simp [sumTo])
 ·(simp -dsimp only [↓RP, RQ, implies_true, forall_const, Nat.reduceMul, reduceIte, reduceCtorEq, Nat.reduceAdd, Nat.reduceEqDiff, Nat.reduceLT, Nat.reduceLeDiff]); all_goals (try simp [wk_q])
 ·(simp -dsimp only [↓RP, RQ, implies_true, forall_const, Nat.reduceMul, reduceIte, reduceCtorEq, Nat.reduceAdd, Nat.reduceEqDiff, Nat.reduceLT, Nat.reduceLeDiff]); all_goals (try simp)
 have sb := sumTo_bd (u := c) (A := 1099511627776) (n := i) fun j hj => hi.2 j (by omega)
 by_cases hlt : i < k
 ·(repeat' (first | with_reducible refine splitVC_d (fun _ => ?_) (fun _ => ?_) | with_reducible refine splitVC (fun _ => ?_) (fun _ => ?_) | ((with_reducible refine And.intro ?_ ?_); focus (first | exact True.intro | omega | (simp only [InK, ne_eq, and_true, true_and]; omega) | trivial)) | (simp -dsimp only [↓RP, RQ, implies_true, forall_const, Nat.reduceMul, reduceIte, reduceCtorEq, Nat.reduceAdd, Nat.reduceEqDiff, Nat.reduceLT, Nat.reduceLeDiff, TYm, QF, fsv, B, I, by2, RZ, eq_self, TY, Try.results44])))
  all_goals first
   | (exfalso; omega)
   | (refine I_eq (Mk.chE_3 he hk fun h => ?_); have h2 := h.1 i (by omega); omega)
   | skip
  refine ⟨i + 1, ⟨by omega, fun j hj => ?_⟩, by omega, weak [] [] ?_ ?_ ?_⟩
  ·by_cases e : j = i
   ·subst e; omega
   ·exact hi.2 j (by omega)
  ·(simp -dsimp only [↓RP, RQ, implies_true, forall_const, Nat.reduceMul, reduceIte, reduceCtorEq, Nat.reduceAdd, Nat.reduceEqDiff, Nat.reduceLT, Nat.reduceLeDiff, sumTo]); all_goals (try simp)
  ·(simp -dsimp only [↓RP, RQ, implies_true, forall_const, Nat.reduceMul, reduceIte, reduceCtorEq, Nat.reduceAdd, Nat.reduceEqDiff, Nat.reduceLT, Nat.reduceLeDiff]); all_goals (try simp [wk_q])
  ·(simp -dsimp only [↓RP, RQ, implies_true, forall_const, Nat.reduceMul, reduceIte, reduceCtorEq, Nat.reduceAdd, Nat.reduceEqDiff, Nat.reduceLT, Nat.reduceLeDiff]); all_goals (try simp)
 have e : k = i := by omega
 subst e
 have ha := hi.2
 clear hi
 (repeat' (first | with_reducible refine splitVC_d (fun _ => ?_) (fun _ => ?_) | with_reducible refine splitVC (fun _ => ?_) (fun _ => ?_) | ((with_reducible refine And.intro ?_ ?_); focus (first | exact True.intro | omega | (simp only [InK, ne_eq, and_true, true_and]; omega) | trivial)) | (simp -dsimp only [↓RP, RQ, implies_true, forall_const, Nat.reduceMul, reduceIte, reduceCtorEq, Nat.reduceAdd, Nat.reduceEqDiff, Nat.reduceLT, Nat.reduceLeDiff, TYm, QF, fsv, B, I, by2, RZ, eq_self, TY, Try.results44])))
 all_goals first | (exfalso; omega) | (refine I_eq (Mk.chE_3 he hk fun h => ?_); have := h.2; omega) | skip
 have hok : okC c k := ⟨ha, by omega⟩
 refine loop_vc (fun i => i ≤ M.m ∧ fairC M.q c (sumTo c k) i) (fun i => ⟨[(1, .arr false false k 1 (fun i _ => .val (.int .i64 (c i)))), (2, .ptr 0 0), (5, .val (.int .i64 (sumTo c k))), (7, .val (.int .i64 i))], [(0, .cells 44 [.val (.int .i64 M.run), .arr false false M.m 4 (fun i j => qf (M.q i) j)])], 80⟩) (fun i => M.m - i) 0 ⟨Nat.zero_le _, fun j hj => by omega⟩ (weak [] [] ?_ ?_ ?_) fun i hi => ?_
 ·(simp -dsimp only [↓RP, RQ, implies_true, forall_const, Nat.reduceMul, reduceIte, reduceCtorEq, Nat.reduceAdd, Nat.reduceEqDiff, Nat.reduceLT, Nat.reduceLeDiff]); all_goals (try simp [wk_q])
 ·(simp -dsimp only [↓RP, RQ, implies_true, forall_const, Nat.reduceMul, reduceIte, reduceCtorEq, Nat.reduceAdd, Nat.reduceEqDiff, Nat.reduceLT, Nat.reduceLeDiff]); all_goals (try simp [wk_q])
 ·(simp -dsimp only [↓RP, RQ, implies_true, forall_const, Nat.reduceMul, reduceIte, reduceCtorEq, Nat.reduceAdd, Nat.reduceEqDiff, Nat.reduceLT, Nat.reduceLeDiff]); all_goals (try simp [wk_q])
 by_cases hlt : i < M.m
 ·have hq := hf.od i hlt
  have hr := hf.st i hlt
  have hc := hok.1 (M.q i).r.toNat (by omega)
  have m1 := mul_in (c (M.q i).r.toNat) ((M.q i).d + (M.q i).n) 1099511627776 200 hc.1 (by omega) hc.2 (by omega)
  have m2 := mul_in (sumTo c k) (M.q i).d 1099511627776 10 (by omega) (by omega) (by omega) (by omega)
  have hF : fairQ (M.q i) c (sumTo c k) ↔ if (M.q i).l = true then sumTo c k * (M.q i).d ≤ c (M.q i).r.toNat * ((M.q i).d + (M.q i).n) else c (M.q i).r.toNat * ((M.q i).d + (M.q i).n) ≤ sumTo c k * (M.q i).d := Iff.rfl
  have hno : ¬ fairQ (M.q i) c (sumTo c k) → SV.val (.int .i64 20) = SV.val (.int .i64 (M.chE k c)) := fun h => I_eq (Mk.chE_20 he hk hok fun h2 => h (h2 i hlt))
  have hyes : fairQ (M.q i) c (sumTo c k) → fairC M.q c (sumTo c k) (i + 1) := fun h j hj => by
   by_cases e : j = i
   ·subst e; exact h
   ·exact hi.2 j (by omega)
  cases hl : (M.q i).l
  all_goals rw [hl] at hF
  ·rw [if_neg (by decide)] at hF
   (repeat' (first | with_reducible refine splitVC_d (fun _ => ?_) (fun _ => ?_) | with_reducible refine splitVC (fun _ => ?_) (fun _ => ?_) | ((with_reducible refine And.intro ?_ ?_); focus (first | exact True.intro | omega | (simp only [InK, ne_eq, and_true, true_and]; omega) | trivial)) | (simp -dsimp only [↓RP, RQ, implies_true, forall_const, Nat.reduceMul, reduceIte, reduceCtorEq, Nat.reduceAdd, Nat.reduceEqDiff, Nat.reduceLT, Nat.reduceLeDiff, hl, TYm, QF, fsv, B, I, by2, RZ, eq_self, TY, Try.results44])))
   all_goals first | (exfalso; omega) | (refine hno fun h => ?_; have h3 := hF.1 h; omega) | skip
   all_goals (refine ⟨i + 1, ⟨by omega, hyes (hF.2 (by omega))⟩, by omega, weak [] [] ?_ ?_ ?_⟩)
   all_goals ((simp -dsimp only [↓RP, RQ, implies_true, forall_const, Nat.reduceMul, reduceIte, reduceCtorEq, Nat.reduceAdd, Nat.reduceEqDiff, Nat.reduceLT, Nat.reduceLeDiff]); all_goals (try simp [wk_q]))
  ·rw [if_pos rfl] at hF
   (repeat' (first | with_reducible refine splitVC_d (fun _ => ?_) (fun _ => ?_) | with_reducible refine splitVC (fun _ => ?_) (fun _ => ?_) | ((with_reducible refine And.intro ?_ ?_); focus (first | exact True.intro | omega | (simp only [InK, ne_eq, and_true, true_and]; omega) | trivial)) | (simp -dsimp only [↓RP, RQ, implies_true, forall_const, Nat.reduceMul, reduceIte, reduceCtorEq, Nat.reduceAdd, Nat.reduceEqDiff, Nat.reduceLT, Nat.reduceLeDiff, hl, TYm, QF, fsv, B, I, by2, RZ, eq_self, TY, Try.results44])))
   all_goals first | (exfalso; omega) | (refine hno fun h => ?_; have h3 := hF.1 h; omega) | skip
   all_goals (refine ⟨i + 1, ⟨by omega, hyes (hF.2 (by omega))⟩, by omega, weak [] [] ?_ ?_ ?_⟩)
   all_goals ((simp -dsimp only [↓RP, RQ, implies_true, forall_const, Nat.reduceMul, reduceIte, reduceCtorEq, Nat.reduceAdd, Nat.reduceEqDiff, Nat.reduceLT, Nat.reduceLeDiff]); all_goals (try simp [wk_q]))
 ·have e : i = M.m := by omega
  (repeat' (first | with_reducible refine splitVC_d (fun _ => ?_) (fun _ => ?_) | with_reducible refine splitVC (fun _ => ?_) (fun _ => ?_) | ((with_reducible refine And.intro ?_ ?_); focus (first | exact True.intro | omega | (simp only [InK, ne_eq, and_true, true_and]; omega) | trivial)) | (simp -dsimp only [↓RP, RQ, implies_true, forall_const, Nat.reduceMul, reduceIte, reduceCtorEq, Nat.reduceAdd, Nat.reduceEqDiff, Nat.reduceLT, Nat.reduceLeDiff, TYm, QF, fsv, B, I, by2, RZ, eq_self, TY, Try.results44])))
  all_goals first | (exfalso; omega) | skip
  exact I_eq (Mk.chE_0 he hk hok (e ▸ hi.2))
end Go.Od
end
