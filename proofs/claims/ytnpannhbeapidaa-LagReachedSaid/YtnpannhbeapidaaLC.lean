/- A part of the proof. -/
import Derived.Test.YtnpannhbeapidaaLB
section
set_option linter.unusedSimpArgs false
set_option linter.unusedVariables false
set_option maxRecDepth 100000
set_option maxHeartbeats 4000000
namespace Go.Lg
open Go.Sx
def w1 (A L : Nat → Int) (t j : Nat) : Int := if j < t then lz A L j else A j
def w2 (A L : Nat → Int) (t U j : Nat) : Int := if j < t then lz A L j else if j = t then lzTo A L t U else A j
theorem w1_zero (A L : Nat → Int) (j : Nat) : w1 A L 0 j = A j := by unfold w1; rw [if_neg (by omega)]
theorem w1_w2 (A L : Nat → Int) (t j : Nat) : w1 A L t j = w2 A L t 0 j := by
  unfold w1 w2
  by_cases e : j < t
  · rw [if_pos e, if_pos e]
  · rw [if_neg e, if_neg e]
    by_cases e2 : j = t
    · subst e2; rw [if_pos rfl]; rfl
    · rw [if_neg e2]
theorem w2_at (A L : Nat → Int) (t U : Nat) : w2 A L t U t = lzTo A L t U := by unfold w2; rw [if_neg (by omega), if_pos rfl]
theorem w2_end (A L : Nat → Int) (t j : Nat) : w2 A L t t j = w1 A L (t + 1) j := by
  unfold w1 w2
  by_cases e : j < t
  · rw [if_pos e, if_pos (by omega)]
  · rw [if_neg e]
    by_cases e2 : j = t
    · subst e2; rw [if_pos rfl, if_pos (by omega)]; rfl
    · rw [if_neg e2, if_neg (by omega)]
theorem w2_put (A L : Nat → Int) (t U a : Nat) : (if a = t then SV.val (.int .i64 (lzTo A L t (U + 1))) else .val (.int .i64 (w2 A L t U a))) = .val (.int .i64 (w2 A L t (U + 1) a)) := by
  unfold w2
  by_cases e : a = t
  · subst e; rw [if_pos rfl, if_neg (by omega), if_pos rfl]
  · rw [if_neg e, if_neg e, if_neg e]
theorem w1_end (A L : Nat → Int) (t j : Nat) (h : j < t) : w1 A L t j = lz A L j := by unfold w1; rw [if_pos h]
theorem c74 (c : Curve) (h : c.Fine) (N : Nat) (A : Nat → Int) (hN : N ≤ 400) (hA : ∀ i, i < N → 0 ≤ A i ∧ A i ≤ 1000000000) : ContractN Go.Proofs.Try.prog 74 [c.sv, ints N A] (.rows 2 1 N (fun j _ => I (lz A c.L1 j))) (.vec 0 N 1) := by
  refine contractN_of Go.Proofs.Try.func74 rfl (by kernel_rfl) follows (by kernel_rfl) _ _ _ (by rw [Go.Proofs.Try.ntmps74]; simp) (by simp [OldL, Old, c.old, ints]) ?_
  unfold I
  conv => arg 4; unfold Curve.sv ints
  have hL : ∀ i, i < N → 0 ≤ c.L1 i ∧ c.L1 i ≤ 1000000000 := fun i hi => by have := L1_bound c h i (by omega); omega
  (repeat' (first | with_reducible refine splitVC_d (fun _ => ?_) (fun _ => ?_) | ((with_reducible refine And.intro ?_ ?_); focus (first | trivial | (simp only [InK]; omega) | omega | (simp only [InK, ne_eq, and_true, true_and]; omega))) | simp -dsimp only [↓RP, RQ0, RQ1, RQ2, RQ3, implies_true, forall_const, Nat.reduceMul, reduceIte, reduceCtorEq, Nat.reduceAdd, Nat.reduceEqDiff, Nat.reduceLT, Nat.reduceLeDiff, by2, TY, Int.toNat_natCast, Go.Proofs.Try.results74]))
  refine ⟨⟨.inr trivial, Nat.le_refl _⟩, ?_⟩
  refine loop_vc (fun (t : Nat) => t ≤ N) (fun t => ⟨[(0, .arr false false c.m 1 (fun i _ => .val (.int .i64 (c.u i)))), (1, .arr false false N 1 (fun i _ => .val (.int .i64 (A i)))), (5, .vec 60 N 1), (15, .val (.int .i64 N)), (16, .val (.int .i64 t))], [(60, .rows 2 1 N (fun j _ => .val (.int .i64 (w1 A c.L1 t j))))], 61⟩) (fun t => N - t) 0 (Nat.zero_le _) (weak [(60, some 3)] [] ?_ ?_ ?_) fun t ht => ?_
  · (simp -dsimp only [↓RP, RQ0, RQ1, RQ2, RQ3, implies_true, forall_const, Nat.reduceMul, reduceIte, reduceCtorEq, Nat.reduceAdd, Nat.reduceEqDiff, Nat.reduceLT, Nat.reduceLeDiff]); all_goals simp
  · (simp -dsimp only [↓RP, RQ0, RQ1, RQ2, RQ3, implies_true, forall_const, Nat.reduceMul, reduceIte, reduceCtorEq, Nat.reduceAdd, Nat.reduceEqDiff, Nat.reduceLT, Nat.reduceLeDiff, w1_zero]); all_goals (try simp)
    exact fun a h1 h2 => absurd h1 (by omega)
  · (simp -dsimp only [↓RP, RQ0, RQ1, RQ2, RQ3, implies_true, forall_const, Nat.reduceMul, reduceIte, reduceCtorEq, Nat.reduceAdd, Nat.reduceEqDiff, Nat.reduceLT, Nat.reduceLeDiff]); all_goals simp
  by_cases hlt : t < N
  · (repeat' (first | with_reducible refine splitVC_d (fun _ => ?_) (fun _ => ?_) | ((with_reducible refine And.intro ?_ ?_); focus (first | trivial | (simp only [InK]; omega) | omega | (simp only [InK, ne_eq, and_true, true_and]; omega))) | simp -dsimp only [↓RP, RQ0, RQ1, RQ2, RQ3, implies_true, forall_const, Nat.reduceMul, reduceIte, reduceCtorEq, Nat.reduceAdd, Nat.reduceEqDiff, Nat.reduceLT, Nat.reduceLeDiff, I, by2, TY, Int.toNat_natCast, Go.Proofs.Try.results74]))
    all_goals first | (exfalso; omega) | skip
    refine loop_vc (fun (U : Nat) => U ≤ t) (fun U => ⟨[(0, .arr false false c.m 1 (fun i _ => .val (.int .i64 (c.u i)))), (1, .arr false false N 1 (fun i _ => .val (.int .i64 (A i)))), (5, .vec 60 N 1), (15, .val (.int .i64 N)), (16, .val (.int .i64 t)), (6, .val (.int .i64 t)), (19, .val (.int .i64 t)), (20, .val (.int .i64 U))], [(60, .rows 2 1 N (fun j _ => .val (.int .i64 (w2 A c.L1 t U j))))], 61⟩) (fun U => t - U) 0 (Nat.zero_le _) (weak [] [] ?_ ?_ ?_) fun U hU => ?_
    · (simp -dsimp only [↓RP, RQ0, RQ1, RQ2, RQ3, implies_true, forall_const, Nat.reduceMul, reduceIte, reduceCtorEq, Nat.reduceAdd, Nat.reduceEqDiff, Nat.reduceLT, Nat.reduceLeDiff]); all_goals simp
    · (simp -dsimp only [↓RP, RQ0, RQ1, RQ2, RQ3, implies_true, forall_const, Nat.reduceMul, reduceIte, reduceCtorEq, Nat.reduceAdd, Nat.reduceEqDiff, Nat.reduceLT, Nat.reduceLeDiff, w1_w2]); all_goals (try simp)
    · (simp -dsimp only [↓RP, RQ0, RQ1, RQ2, RQ3, implies_true, forall_const, Nat.reduceMul, reduceIte, reduceCtorEq, Nat.reduceAdd, Nat.reduceEqDiff, Nat.reduceLT, Nat.reduceLeDiff]); all_goals simp
    by_cases hU2 : U < t
    · have er : (t : Int) - (U : Int) = ((t - U : Nat) : Int) := by omega
      have b0 := lzTo_bound A c.L1 N t hlt hA hL U hU
      have b1 := hA U (by omega)
      have b2 := L1_bound c h (t - U) (by omega)
      have e1 := w2_at A c.L1 t U
      have e2 : lzTo A c.L1 t (U + 1) = min (lzTo A c.L1 t U) (A U + c.L1 (t - U)) := rfl
      (repeat' (first | with_reducible refine splitVC_d (fun _ => ?_) (fun _ => ?_) | ((with_reducible refine And.intro ?_ ?_); focus (first | trivial | (simp only [InK]; omega) | omega | (simp only [InK, ne_eq, and_true, true_and]; omega))) | simp -dsimp only [↓RP, RQ0, RQ1, RQ2, RQ3, implies_true, forall_const, Nat.reduceMul, reduceIte, reduceCtorEq, Nat.reduceAdd, Nat.reduceEqDiff, Nat.reduceLT, Nat.reduceLeDiff, er, e1, I, by2, TY, Int.toNat_natCast, Go.Proofs.Try.results74]))
      all_goals first | (exfalso; omega) | skip
      refine callVC (c87 c h (t - U) (by omega)) (by (simp -dsimp only [↓RP, RQ0, RQ1, RQ2, RQ3, implies_true, forall_const, Nat.reduceMul, reduceIte, reduceCtorEq, Nat.reduceAdd, Nat.reduceEqDiff, Nat.reduceLT, Nat.reduceLeDiff, Curve.sv, ints, I]); all_goals simp) (by (simp -dsimp only [↓RP, RQ0, RQ1, RQ2, RQ3, implies_true, forall_const, Nat.reduceMul, reduceIte, reduceCtorEq, Nat.reduceAdd, Nat.reduceEqDiff, Nat.reduceLT, Nat.reduceLeDiff, I])) ?_
      (repeat' (first | with_reducible refine splitVC_d (fun _ => ?_) (fun _ => ?_) | ((with_reducible refine And.intro ?_ ?_); focus (first | trivial | (simp only [InK]; omega) | omega | (simp only [InK, ne_eq, and_true, true_and]; omega))) | simp -dsimp only [↓RP, RQ0, RQ1, RQ2, RQ3, implies_true, forall_const, Nat.reduceMul, reduceIte, reduceCtorEq, Nat.reduceAdd, Nat.reduceEqDiff, Nat.reduceLT, Nat.reduceLeDiff, er, e1, I, by2, TY, Int.toNat_natCast, Go.Proofs.Try.results74]))
      all_goals first | (exfalso; omega) | skip
      refine ⟨U + 1, by omega, by omega, weak [] [] ?_ ?_ ?_⟩
      · (simp -dsimp only [↓RP, RQ0, RQ1, RQ2, RQ3, implies_true, forall_const, Nat.reduceMul, reduceIte, reduceCtorEq, Nat.reduceAdd, Nat.reduceEqDiff, Nat.reduceLT, Nat.reduceLeDiff]); all_goals simp
      · (simp -dsimp only [↓RP, RQ0, RQ1, RQ2, RQ3, implies_true, forall_const, Nat.reduceMul, reduceIte, reduceCtorEq, Nat.reduceAdd, Nat.reduceEqDiff, Nat.reduceLT, Nat.reduceLeDiff]); all_goals (try simp)
        rw [← e2]
        exact fun a ha => w2_put A c.L1 t U a
      · (simp -dsimp only [↓RP, RQ0, RQ1, RQ2, RQ3, implies_true, forall_const, Nat.reduceMul, reduceIte, reduceCtorEq, Nat.reduceAdd, Nat.reduceEqDiff, Nat.reduceLT, Nat.reduceLeDiff]); all_goals simp
    · have hUe : U = t := by omega
      subst hUe
      (repeat' (first | with_reducible refine splitVC_d (fun _ => ?_) (fun _ => ?_) | ((with_reducible refine And.intro ?_ ?_); focus (first | trivial | (simp only [InK]; omega) | omega | (simp only [InK, ne_eq, and_true, true_and]; omega))) | simp -dsimp only [↓RP, RQ0, RQ1, RQ2, RQ3, implies_true, forall_const, Nat.reduceMul, reduceIte, reduceCtorEq, Nat.reduceAdd, Nat.reduceEqDiff, Nat.reduceLT, Nat.reduceLeDiff, I, by2, TY, Int.toNat_natCast, Go.Proofs.Try.results74]))
      all_goals first | (exfalso; omega) | skip
      refine ⟨U + 1, by omega, by omega, weak [] [] ?_ ?_ ?_⟩
      · (simp -dsimp only [↓RP, RQ0, RQ1, RQ2, RQ3, implies_true, forall_const, Nat.reduceMul, reduceIte, reduceCtorEq, Nat.reduceAdd, Nat.reduceEqDiff, Nat.reduceLT, Nat.reduceLeDiff]); all_goals simp
      · (simp -dsimp only [↓RP, RQ0, RQ1, RQ2, RQ3, implies_true, forall_const, Nat.reduceMul, reduceIte, reduceCtorEq, Nat.reduceAdd, Nat.reduceEqDiff, Nat.reduceLT, Nat.reduceLeDiff, w2_end]); all_goals (try simp)
      · (simp -dsimp only [↓RP, RQ0, RQ1, RQ2, RQ3, implies_true, forall_const, Nat.reduceMul, reduceIte, reduceCtorEq, Nat.reduceAdd, Nat.reduceEqDiff, Nat.reduceLT, Nat.reduceLeDiff]); all_goals simp
  · have hte : t = N := by omega
    subst hte
    (repeat' (first | with_reducible refine splitVC_d (fun _ => ?_) (fun _ => ?_) | ((with_reducible refine And.intro ?_ ?_); focus (first | trivial | (simp only [InK]; omega) | omega | (simp only [InK, ne_eq, and_true, true_and]; omega))) | simp -dsimp only [↓RP, RQ0, RQ1, RQ2, RQ3, implies_true, forall_const, Nat.reduceMul, reduceIte, reduceCtorEq, Nat.reduceAdd, Nat.reduceEqDiff, Nat.reduceLT, Nat.reduceLeDiff, I, by2, TY, Int.toNat_natCast, Go.Proofs.Try.results74]))
    all_goals first | (exfalso; omega) | skip
    refine ⟨60, _, rfl, ?_, ?_⟩
    · (simp -dsimp only [↓RP, RQ0, RQ1, RQ2, RQ3, implies_true, forall_const, Nat.reduceMul, reduceIte, reduceCtorEq, Nat.reduceAdd, Nat.reduceEqDiff, Nat.reduceLT, Nat.reduceLeDiff, I]); all_goals (try simp)
      exact fun a ha => w1_end _ _ _ _ ha
    · (simp -dsimp only [↓RP, RQ0, RQ1, RQ2, RQ3, implies_true, forall_const, Nat.reduceMul, reduceIte, reduceCtorEq, Nat.reduceAdd, Nat.reduceEqDiff, Nat.reduceLT, Nat.reduceLeDiff])
structure Row (c : Curve) : Prop where
  m60 : c.m ≤ 60
  rg : ∀ i, i < c.m → 0 ≤ c.u i ∧ c.u i ≤ 10000
theorem rErr_row {c : Curve} (h : c.rErr = 0) : Row c := by
  unfold Curve.rErr at h
  split at h
  · omega
  · split at h
    · rename_i h1 h2; exact ⟨by omega, h2⟩
    · omega
theorem row_rErr {c : Curve} (h : Row c) : c.rErr = 0 := by
  have := h.m60
  unfold Curve.rErr
  rw [if_neg (by omega), if_pos h.rg]
abbrev Curve.S (c : Curve) : Nat → Int := sumTo c.u
theorem S_bound {c : Curve} (h : Row c) (k : Nat) (hk : k ≤ c.m) : 0 ≤ c.S k ∧ c.S k ≤ 600000 := by
  have h1 := sumTo_ok c.u 10000 (by omega) c.m h.rg k hk
  have h2 := h.m60
  show 0 ≤ sumTo c.u k ∧ sumTo c.u k ≤ 600000
  omega
def notMore (a d : Curve) : Prop := ∀ t, t < a.m + 1 → d.S t ≤ a.S t
instance (a d : Curve) : Decidable (notMore a d) := by unfold notMore; infer_instance
def rowsV (a d : Curve) : Int := if a.rErr = 0 then (if d.rErr = 0 then (if a.m = d.m then (if notMore a d then 0 else 14) else 15) else d.rErr) else a.rErr
theorem c76 (a d : Curve) : Contract Go.Proofs.Try.prog 76 [a.sv, d.sv] (I (rowsV a d)) := by
  refine contract_of Go.Proofs.Try.func76 rfl (by kernel_rfl) follows (by kernel_rfl) _ _ (by rw [Go.Proofs.Try.ntmps76]; simp) (by simp [OldL, a.old, d.old]) ?_
  unfold I
  conv => arg 4; unfold Curve.sv ints
  (repeat' (first | with_reducible refine splitVC_d (fun _ => ?_) (fun _ => ?_) | ((with_reducible refine And.intro ?_ ?_); focus (first | trivial | (simp only [InK]; omega) | omega | (simp only [InK, ne_eq, and_true, true_and]; omega))) | simp -dsimp only [↓RP, RQ0, RQ1, RQ2, RQ3, implies_true, forall_const, Nat.reduceMul, reduceIte, reduceCtorEq, Nat.reduceAdd, Nat.reduceEqDiff, Nat.reduceLT, Nat.reduceLeDiff, TY, Int.toNat_natCast, Go.Proofs.Try.results76]))
  refine callVC (c72 a) (by (simp -dsimp only [↓RP, RQ0, RQ1, RQ2, RQ3, implies_true, forall_const, Nat.reduceMul, reduceIte, reduceCtorEq, Nat.reduceAdd, Nat.reduceEqDiff, Nat.reduceLT, Nat.reduceLeDiff, Curve.sv, ints, I]); all_goals simp) (by (simp -dsimp only [↓RP, RQ0, RQ1, RQ2, RQ3, implies_true, forall_const, Nat.reduceMul, reduceIte, reduceCtorEq, Nat.reduceAdd, Nat.reduceEqDiff, Nat.reduceLT, Nat.reduceLeDiff, I])) ?_
  (repeat' (first | with_reducible refine splitVC_d (fun _ => ?_) (fun _ => ?_) | ((with_reducible refine And.intro ?_ ?_); focus (first | trivial | (simp only [InK]; omega) | omega | (simp only [InK, ne_eq, and_true, true_and]; omega))) | simp -dsimp only [↓RP, RQ0, RQ1, RQ2, RQ3, implies_true, forall_const, Nat.reduceMul, reduceIte, reduceCtorEq, Nat.reduceAdd, Nat.reduceEqDiff, Nat.reduceLT, Nat.reduceLeDiff, I, TY, Int.toNat_natCast, Go.Proofs.Try.results76]))
  rotate_left
  · rename_i ha
    refine callVC (c72 a) (by (simp -dsimp only [↓RP, RQ0, RQ1, RQ2, RQ3, implies_true, forall_const, Nat.reduceMul, reduceIte, reduceCtorEq, Nat.reduceAdd, Nat.reduceEqDiff, Nat.reduceLT, Nat.reduceLeDiff, Curve.sv, ints, I]); all_goals simp) (by (simp -dsimp only [↓RP, RQ0, RQ1, RQ2, RQ3, implies_true, forall_const, Nat.reduceMul, reduceIte, reduceCtorEq, Nat.reduceAdd, Nat.reduceEqDiff, Nat.reduceLT, Nat.reduceLeDiff, I])) ?_
    (repeat' (first | with_reducible refine splitVC_d (fun _ => ?_) (fun _ => ?_) | ((with_reducible refine And.intro ?_ ?_); focus (first | trivial | (simp only [InK]; omega) | omega | (simp only [InK, ne_eq, and_true, true_and]; omega))) | simp -dsimp only [↓RP, RQ0, RQ1, RQ2, RQ3, implies_true, forall_const, Nat.reduceMul, reduceIte, reduceCtorEq, Nat.reduceAdd, Nat.reduceEqDiff, Nat.reduceLT, Nat.reduceLeDiff, I, by2, TY, Int.toNat_natCast, Go.Proofs.Try.results76]))
    refine I_eq ?_; unfold rowsV; rw [if_neg ha]
  rename_i ha
  refine callVC (c72 d) (by (simp -dsimp only [↓RP, RQ0, RQ1, RQ2, RQ3, implies_true, forall_const, Nat.reduceMul, reduceIte, reduceCtorEq, Nat.reduceAdd, Nat.reduceEqDiff, Nat.reduceLT, Nat.reduceLeDiff, Curve.sv, ints, I]); all_goals simp) (by (simp -dsimp only [↓RP, RQ0, RQ1, RQ2, RQ3, implies_true, forall_const, Nat.reduceMul, reduceIte, reduceCtorEq, Nat.reduceAdd, Nat.reduceEqDiff, Nat.reduceLT, Nat.reduceLeDiff, I])) ?_
  (repeat' (first | with_reducible refine splitVC_d (fun _ => ?_) (fun _ => ?_) | ((with_reducible refine And.intro ?_ ?_); focus (first | trivial | (simp only [InK]; omega) | omega | (simp only [InK, ne_eq, and_true, true_and]; omega))) | simp -dsimp only [↓RP, RQ0, RQ1, RQ2, RQ3, implies_true, forall_const, Nat.reduceMul, reduceIte, reduceCtorEq, Nat.reduceAdd, Nat.reduceEqDiff, Nat.reduceLT, Nat.reduceLeDiff, I, by2, TY, Int.toNat_natCast, Go.Proofs.Try.results76]))
  rotate_left 2
  · rename_i hd
    refine callVC (c72 d) (by (simp -dsimp only [↓RP, RQ0, RQ1, RQ2, RQ3, implies_true, forall_const, Nat.reduceMul, reduceIte, reduceCtorEq, Nat.reduceAdd, Nat.reduceEqDiff, Nat.reduceLT, Nat.reduceLeDiff, Curve.sv, ints, I]); all_goals simp) (by (simp -dsimp only [↓RP, RQ0, RQ1, RQ2, RQ3, implies_true, forall_const, Nat.reduceMul, reduceIte, reduceCtorEq, Nat.reduceAdd, Nat.reduceEqDiff, Nat.reduceLT, Nat.reduceLeDiff, I])) ?_
    (repeat' (first | with_reducible refine splitVC_d (fun _ => ?_) (fun _ => ?_) | ((with_reducible refine And.intro ?_ ?_); focus (first | trivial | (simp only [InK]; omega) | omega | (simp only [InK, ne_eq, and_true, true_and]; omega))) | simp -dsimp only [↓RP, RQ0, RQ1, RQ2, RQ3, implies_true, forall_const, Nat.reduceMul, reduceIte, reduceCtorEq, Nat.reduceAdd, Nat.reduceEqDiff, Nat.reduceLT, Nat.reduceLeDiff, I, by2, TY, Int.toNat_natCast, Go.Proofs.Try.results76]))
    refine I_eq ?_; unfold rowsV; rw [if_pos ha, if_neg hd]
  rotate_left
  · rename_i hd hm
    refine I_eq ?_; unfold rowsV; rw [if_pos ha, if_pos hd, if_neg (by omega)]
  rename_i hd hm
  have ra := rErr_row ha
  have rd := rErr_row hd
  have a60 := ra.m60
  have d60 := rd.m60
  have hm : a.m = d.m := by omega
  have e0 : rowsV a d = if notMore a d then 0 else 14 := by unfold rowsV; rw [if_pos ha, if_pos hd, if_pos hm]
  rw [e0]
  refine callN_old (c52 a (by omega) (fun i hi => by have := ra.rg i hi; omega)) (by (simp -dsimp only [↓RP, RQ0, RQ1, RQ2, RQ3, implies_true, forall_const, Nat.reduceMul, reduceIte, reduceCtorEq, Nat.reduceAdd, Nat.reduceEqDiff, Nat.reduceLT, Nat.reduceLeDiff, Curve.sv, ints, I]); all_goals simp) (by (simp -dsimp only [↓RP, RQ0, RQ1, RQ2, RQ3, implies_true, forall_const, Nat.reduceMul, reduceIte, reduceCtorEq, Nat.reduceAdd, Nat.reduceEqDiff, Nat.reduceLT, Nat.reduceLeDiff, I]); all_goals simp) (by (simp -dsimp only [↓RP, RQ0, RQ1, RQ2, RQ3, implies_true, forall_const, Nat.reduceMul, reduceIte, reduceCtorEq, Nat.reduceAdd, Nat.reduceEqDiff, Nat.reduceLT, Nat.reduceLeDiff, I]); all_goals simp) ?_
  (repeat' (first | with_reducible refine splitVC_d (fun _ => ?_) (fun _ => ?_) | ((with_reducible refine And.intro ?_ ?_); focus (first | trivial | (simp only [InK]; omega) | omega | (simp only [InK, ne_eq, and_true, true_and]; omega))) | simp -dsimp only [↓RP, RQ0, RQ1, RQ2, RQ3, implies_true, forall_const, Nat.reduceMul, reduceIte, reduceCtorEq, Nat.reduceAdd, Nat.reduceEqDiff, Nat.reduceLT, Nat.reduceLeDiff, I, by2, TY, Int.toNat_natCast, Go.Proofs.Try.results76]))
  refine callN_old (c52 d (by omega) (fun i hi => by have := rd.rg i hi; omega)) (by (simp -dsimp only [↓RP, RQ0, RQ1, RQ2, RQ3, implies_true, forall_const, Nat.reduceMul, reduceIte, reduceCtorEq, Nat.reduceAdd, Nat.reduceEqDiff, Nat.reduceLT, Nat.reduceLeDiff, Curve.sv, ints, I]); all_goals simp) (by (simp -dsimp only [↓RP, RQ0, RQ1, RQ2, RQ3, implies_true, forall_const, Nat.reduceMul, reduceIte, reduceCtorEq, Nat.reduceAdd, Nat.reduceEqDiff, Nat.reduceLT, Nat.reduceLeDiff, I]); all_goals simp) (by (simp -dsimp only [↓RP, RQ0, RQ1, RQ2, RQ3, implies_true, forall_const, Nat.reduceMul, reduceIte, reduceCtorEq, Nat.reduceAdd, Nat.reduceEqDiff, Nat.reduceLT, Nat.reduceLeDiff, I]); all_goals simp) ?_
  (repeat' (first | with_reducible refine splitVC_d (fun _ => ?_) (fun _ => ?_) | ((with_reducible refine And.intro ?_ ?_); focus (first | trivial | (simp only [InK]; omega) | omega | (simp only [InK, ne_eq, and_true, true_and]; omega))) | simp -dsimp only [↓RP, RQ0, RQ1, RQ2, RQ3, implies_true, forall_const, Nat.reduceMul, reduceIte, reduceCtorEq, Nat.reduceAdd, Nat.reduceEqDiff, Nat.reduceLT, Nat.reduceLeDiff, I, by2, TY, Int.toNat_natCast, Go.Proofs.Try.results76]))
  refine loop_vc (fun (t : Nat) => t ≤ a.m + 1 ∧ ∀ j, j < t → d.S j ≤ a.S j) (fun t => ⟨[(5, .vec 60 (a.m + 1) 1), (6, .vec 61 (d.m + 1) 1), (7, .val (.int .i64 t))], [(60, .rows 2 1 (a.m + 1) (fun j _ => .val (.int .i64 (sumTo a.u j)))), (61, .rows 2 1 (d.m + 1) (fun j _ => .val (.int .i64 (sumTo d.u j))))], 62⟩) (fun t => a.m + 1 - t) 0 ⟨Nat.zero_le _, fun j hj => by omega⟩ (weak [(60, some 13), (61, some 15)] [] ?_ ?_ ?_) fun t ht => ?_
  · (simp -dsimp only [↓RP, RQ0, RQ1, RQ2, RQ3, implies_true, forall_const, Nat.reduceMul, reduceIte, reduceCtorEq, Nat.reduceAdd, Nat.reduceEqDiff, Nat.reduceLT, Nat.reduceLeDiff]); all_goals simp
  · (simp -dsimp only [↓RP, RQ0, RQ1, RQ2, RQ3, implies_true, forall_const, Nat.reduceMul, reduceIte, reduceCtorEq, Nat.reduceAdd, Nat.reduceEqDiff, Nat.reduceLT, Nat.reduceLeDiff]); all_goals simp
  · (simp -dsimp only [↓RP, RQ0, RQ1, RQ2, RQ3, implies_true, forall_const, Nat.reduceMul, reduceIte, reduceCtorEq, Nat.reduceAdd, Nat.reduceEqDiff, Nat.reduceLT, Nat.reduceLeDiff]); all_goals simp
  obtain ⟨ht, hj⟩ := ht
  by_cases hlt : t < a.m + 1
  · (repeat' (first | with_reducible refine splitVC_d (fun _ => ?_) (fun _ => ?_) | ((with_reducible refine And.intro ?_ ?_); focus (first | trivial | (simp only [InK]; omega) | omega | (simp only [InK, ne_eq, and_true, true_and]; omega))) | simp -dsimp only [↓RP, RQ0, RQ1, RQ2, RQ3, implies_true, forall_const, Nat.reduceMul, reduceIte, reduceCtorEq, Nat.reduceAdd, Nat.reduceEqDiff, Nat.reduceLT, Nat.reduceLeDiff, I, by2, TY, Int.toNat_natCast, Go.Proofs.Try.results76]))
    all_goals first | (exfalso; omega) | skip
    · rename_i hgt
      refine I_eq ?_
      rw [if_neg (fun h => by have : sumTo d.u t ≤ sumTo a.u t := h t hlt; omega)]
    · rename_i hgt
      refine ⟨t + 1, ⟨by omega, fun j hj2 => ?_⟩, by omega, weak [] [] ?_ ?_ ?_⟩
      · by_cases e : j = t
        · subst e; show sumTo d.u j ≤ sumTo a.u j; omega
        · exact hj j (by omega)
      · (simp -dsimp only [↓RP, RQ0, RQ1, RQ2, RQ3, implies_true, forall_const, Nat.reduceMul, reduceIte, reduceCtorEq, Nat.reduceAdd, Nat.reduceEqDiff, Nat.reduceLT, Nat.reduceLeDiff]); all_goals simp
      · (simp -dsimp only [↓RP, RQ0, RQ1, RQ2, RQ3, implies_true, forall_const, Nat.reduceMul, reduceIte, reduceCtorEq, Nat.reduceAdd, Nat.reduceEqDiff, Nat.reduceLT, Nat.reduceLeDiff]); all_goals simp
      · (simp -dsimp only [↓RP, RQ0, RQ1, RQ2, RQ3, implies_true, forall_const, Nat.reduceMul, reduceIte, reduceCtorEq, Nat.reduceAdd, Nat.reduceEqDiff, Nat.reduceLT, Nat.reduceLeDiff]); all_goals simp
  · have hte : t = a.m + 1 := by omega
    subst hte
    rw [if_pos (show notMore a d from hj)]
    (repeat' (first | with_reducible refine splitVC_d (fun _ => ?_) (fun _ => ?_) | ((with_reducible refine And.intro ?_ ?_); focus (first | trivial | (simp only [InK]; omega) | omega | (simp only [InK, ne_eq, and_true, true_and]; omega))) | simp -dsimp only [↓RP, RQ0, RQ1, RQ2, RQ3, implies_true, forall_const, Nat.reduceMul, reduceIte, reduceCtorEq, Nat.reduceAdd, Nat.reduceEqDiff, Nat.reduceLT, Nat.reduceLeDiff, I, by2, TY, Int.toNat_natCast, Go.Proofs.Try.results76]))
    all_goals first | (exfalso; omega) | skip
end Go.Lg
end
section
set_option linter.unusedSimpArgs false
set_option linter.unusedVariables false
set_option maxRecDepth 100000
set_option maxHeartbeats 4000000
namespace Go.Lg
open Go.Sx
def two (a d : Curve) (i : Nat) : Curve := if i = 0 then a else d
theorem two_sub (a d : Curve) (i j : Nat) (hi : i < 2) (hj : j < 1) : [a.sv, d.sv].getD (i + j) .top = (two a d i).sv := by
  have : j = 0 := by omega
  subst this
  have : i = 0 ∨ i = 1 := by omega
  rcases this with rfl | rfl <;> rfl
def pr2 (a d : Curve) : Int := if a.rErr = 0 then (if d.rErr = 0 then 0 else d.rErr) else a.rErr
theorem pr2_zero {a d : Curve} (h : pr2 a d = 0) : a.rErr = 0 ∧ d.rErr = 0 := by
  unfold pr2 at h
  split at h
  · rename_i ha
    split at h
    · rename_i hd; exact ⟨ha, hd⟩
    · contradiction
  · contradiction
theorem pr2_ne {a d : Curve} (h : ¬ pr2 a d = 0) : rowsV a d = pr2 a d := by
  unfold pr2 at h ⊢
  unfold rowsV
  by_cases ha : a.rErr = 0
  · rw [if_pos ha] at h ⊢
    rw [if_pos ha]
    by_cases hd : d.rErr = 0
    · rw [if_pos hd] at h; contradiction
    · rw [if_neg hd, if_neg hd]
  · rw [if_neg ha, if_neg ha]
theorem fstR_two (a d : Curve) : fstR (two a d) 0 2 = pr2 a d := by
  show (if (two a d 0).rErr = 0 then (if (two a d 1).rErr = 0 then 0 else (two a d 1).rErr) else (two a d 0).rErr) = _
  rfl
theorem fstR_one (a : Curve) : fstR (fun _ => a) 0 1 = a.rErr := by
  show (if a.rErr = 0 then 0 else a.rErr) = _
  split
  · rename_i h; exact h.symm
  · rfl
abbrev rowB (N : Nat) (f : Nat → Int) : Blk := .rows 2 1 N (fun j _ => .val (.int .i64 (f j)))
theorem e75 (a d : Curve) (ha : a.m ≤ 1000000) (hd : d.m ≤ 1000000) (id : Nat) : EffVC Go.Proofs.Try.prog 75 [a.sv, d.sv] [] id (fun hp' nid' res =>
    (rowsV a d ≠ 0 ∧ hp' = [] ∧ id ≤ nid' ∧ res = .tup [.val (.slice none 0 0), .val (.slice none 0 0), I (rowsV a d)]) ∨
    (rowsV a d = 0 ∧ ∃ ia ib, ia ≠ ib ∧ ia < nid' ∧ ib < nid' ∧ id ≤ ia ∧ id ≤ ib ∧ hp' = [(ib, rowB (a.m + 1) d.S), (ia, rowB (a.m + 1) a.S)] ∧ res = .tup [.vec ia (a.m + 1) 1, .vec ib (a.m + 1) 1, I 0])) := by
  refine eff_of follows Go.Proofs.Try.func75 rfl (by kernel_rfl) (by kernel_rfl) (by rw [Go.Proofs.Try.ntmps75]; simp) fun out => ?_
  unfold Curve.sv ints
  (repeat' (first | with_reducible refine splitVC_d (fun _ => ?_) (fun _ => ?_) | ((with_reducible refine And.intro ?_ ?_); focus (first | trivial | (simp only [InK]; omega) | omega | (simp only [InK, ne_eq, and_true, true_and]; omega))) | simp -dsimp only [↓RP, RQ0, RQ1, RQ2, RQ3, implies_true, forall_const, Nat.reduceMul, reduceIte, reduceCtorEq, Nat.reduceAdd, Nat.reduceEqDiff, Nat.reduceLT, Nat.reduceLeDiff, self_F1, self_F2, Nat.add_zero, Nat.add_assoc, TY, Int.toNat_natCast, effK_ret, effK_normal, Go.Proofs.Try.results75]))
  refine callVC (c70 2 (two a d) (by omega) (fun i hi => by
    have : i = 0 ∨ i = 1 := by omega
    rcases this with rfl | rfl
    · exact ha
    · exact hd)) ?_ (by (simp -dsimp only [↓RP, RQ0, RQ1, RQ2, RQ3, implies_true, forall_const, Nat.reduceMul, reduceIte, reduceCtorEq, Nat.reduceAdd, Nat.reduceEqDiff, Nat.reduceLT, Nat.reduceLeDiff, I])) ?_
  · (simp -dsimp only [↓RP, RQ0, RQ1, RQ2, RQ3, implies_true, forall_const, Nat.reduceMul, reduceIte, reduceCtorEq, Nat.reduceAdd, Nat.reduceEqDiff, Nat.reduceLT, Nat.reduceLeDiff, chn])
    intro i j hi hj
    have := two_sub a d i j hi hj
    unfold Curve.sv ints at this
    rw [this]
    exact sub_refl _ (two a d i).old
  rw [fstR_two]
  (repeat' (first | with_reducible refine splitVC_d (fun _ => ?_) (fun _ => ?_) | ((with_reducible refine And.intro ?_ ?_); focus (first | trivial | (simp only [InK]; omega) | omega | (simp only [InK, ne_eq, and_true, true_and]; omega))) | simp -dsimp only [↓RP, RQ0, RQ1, RQ2, RQ3, implies_true, forall_const, Nat.reduceMul, reduceIte, reduceCtorEq, Nat.reduceAdd, Nat.reduceEqDiff, Nat.reduceLT, Nat.reduceLeDiff, I, self_F1, self_F2, Nat.add_zero, Nat.add_assoc, Nat.add_lt_add_iff_left, TY, Int.toNat_natCast, effK_ret, effK_normal, Go.Proofs.Try.results75]))
  rotate_left 2
  · rename_i hp
    refine ⟨[], _, _, weakS (fr' := [(0, _)]) ⟨.inr rfl, trivial⟩ (fun k x hx => by simp [blk] at hx), .inl ⟨?_, rfl, by omega, ?_⟩⟩
    · rw [pr2_ne hp]; exact hp
    · rw [pr2_ne hp]; rfl
  rotate_left
  · rename_i hp hm
    obtain ⟨h1, h2⟩ := pr2_zero hp
    have e0 : rowsV a d = 15 := by unfold rowsV; rw [if_pos h1, if_pos h2, if_neg (by omega)]
    refine ⟨[], _, _, weakS (fr' := [(0, _)]) ⟨.inr rfl, trivial⟩ (fun k x hx => by simp [blk] at hx), .inl ⟨?_, rfl, by omega, ?_⟩⟩
    · rw [e0]; omega
    · rw [e0]; rfl
  rename_i hp hm
  obtain ⟨h1, h2⟩ := pr2_zero hp
  have ra := rErr_row h1
  have rd := rErr_row h2
  have a60 := ra.m60
  have d60 := rd.m60
  have hm : a.m = d.m := by omega
  have e0 : rowsV a d = if notMore a d then 0 else 14 := by unfold rowsV; rw [if_pos h1, if_pos h2, if_pos hm]
  refine callN_old (c71 a (by omega) (fun i hi => by have := ra.rg i hi; omega)) (by (simp -dsimp only [↓RP, RQ0, RQ1, RQ2, RQ3, implies_true, forall_const, Nat.reduceMul, reduceIte, reduceCtorEq, Nat.reduceAdd, Nat.reduceEqDiff, Nat.reduceLT, Nat.reduceLeDiff, Curve.sv, ints, I]); all_goals simp) (by (simp -dsimp only [↓RP, RQ0, RQ1, RQ2, RQ3, implies_true, forall_const, Nat.reduceMul, reduceIte, reduceCtorEq, Nat.reduceAdd, Nat.reduceEqDiff, Nat.reduceLT, Nat.reduceLeDiff, I]); all_goals simp) (by (simp -dsimp only [↓RP, RQ0, RQ1, RQ2, RQ3, implies_true, forall_const, Nat.reduceMul, reduceIte, reduceCtorEq, Nat.reduceAdd, Nat.reduceEqDiff, Nat.reduceLT, Nat.reduceLeDiff, I]); all_goals simp) ?_
  (repeat' (first | with_reducible refine splitVC_d (fun _ => ?_) (fun _ => ?_) | ((with_reducible refine And.intro ?_ ?_); focus (first | trivial | (simp only [InK]; omega) | omega | (simp only [InK, ne_eq, and_true, true_and]; omega))) | simp -dsimp only [↓RP, RQ0, RQ1, RQ2, RQ3, implies_true, forall_const, Nat.reduceMul, reduceIte, reduceCtorEq, Nat.reduceAdd, Nat.reduceEqDiff, Nat.reduceLT, Nat.reduceLeDiff, I, self_F1, self_F2, Nat.add_zero, Nat.add_assoc, Nat.add_lt_add_iff_left, TY, Int.toNat_natCast, effK_ret, effK_normal, Go.Proofs.Try.results75]))
  refine callN_old (c71 d (by omega) (fun i hi => by have := rd.rg i hi; omega)) (by (simp -dsimp only [↓RP, RQ0, RQ1, RQ2, RQ3, implies_true, forall_const, Nat.reduceMul, reduceIte, reduceCtorEq, Nat.reduceAdd, Nat.reduceEqDiff, Nat.reduceLT, Nat.reduceLeDiff, Curve.sv, ints, I]); all_goals simp) (by (simp -dsimp only [↓RP, RQ0, RQ1, RQ2, RQ3, implies_true, forall_const, Nat.reduceMul, reduceIte, reduceCtorEq, Nat.reduceAdd, Nat.reduceEqDiff, Nat.reduceLT, Nat.reduceLeDiff, I]); all_goals simp) (by (simp -dsimp only [↓RP, RQ0, RQ1, RQ2, RQ3, implies_true, forall_const, Nat.reduceMul, reduceIte, reduceCtorEq, Nat.reduceAdd, Nat.reduceEqDiff, Nat.reduceLT, Nat.reduceLeDiff, I]); all_goals simp) ?_
  (repeat' (first | with_reducible refine splitVC_d (fun _ => ?_) (fun _ => ?_) | ((with_reducible refine And.intro ?_ ?_); focus (first | trivial | (simp only [InK]; omega) | omega | (simp only [InK, ne_eq, and_true, true_and]; omega))) | simp -dsimp only [↓RP, RQ0, RQ1, RQ2, RQ3, implies_true, forall_const, Nat.reduceMul, reduceIte, reduceCtorEq, Nat.reduceAdd, Nat.reduceEqDiff, Nat.reduceLT, Nat.reduceLeDiff, I, self_F1, self_F2, Nat.add_zero, Nat.add_assoc, Nat.add_lt_add_iff_left, TY, Int.toNat_natCast, effK_ret, effK_normal, Go.Proofs.Try.results75]))
  refine loop_vc (fun (x : Nat × Nat) => x.1 ≤ a.m + 1 ∧ id + 22 ≤ x.2 ∧ ∀ j, j < x.1 → d.S j ≤ a.S j) (fun x => ⟨[(8, .vec (id + 18) (a.m + 1) 1), (9, .vec (id + 20) (d.m + 1) 1), (30, .val (.int .i64 ((a.m + 1 : Nat) : Int))), (31, .val (.int .i64 x.1))], [(id + 20, rowB (d.m + 1) d.S), (id + 18, rowB (a.m + 1) a.S)], x.2⟩) (fun x => a.m + 1 - x.1) (0, _) ⟨Nat.zero_le _, ?_, fun j hj => by simp only [] at hj; omega⟩ (weakS ?_ ?_) fun x hx => ?_
  rotate_left
  · simp [SubFr, Go.Sx.look]
  · refine SubHp.cons (SubHp.cons (fun k x hx => by simp [blk] at hx))
  rotate_left
  · simp only []; omega
  obtain ⟨t, nid⟩ := x
  obtain ⟨ht, hn, hj⟩ := hx
  replace ht : t ≤ a.m + 1 := ht
  replace hn : id + 22 ≤ nid := hn
  replace hj : ∀ j, j < t → d.S j ≤ a.S j := hj
  by_cases hlt : t < a.m + 1
  · (repeat' (first | with_reducible refine splitVC_d (fun _ => ?_) (fun _ => ?_) | ((with_reducible refine And.intro ?_ ?_); focus (first | trivial | (simp only [InK]; omega) | omega | (simp only [InK, ne_eq, and_true, true_and]; omega))) | simp -dsimp only [↓RP, RQ0, RQ1, RQ2, RQ3, implies_true, forall_const, Nat.reduceMul, reduceIte, reduceCtorEq, Nat.reduceAdd, Nat.reduceEqDiff, Nat.reduceLT, Nat.reduceLeDiff, I, self_F1, self_F2, Nat.add_zero, Nat.add_assoc, Nat.add_lt_add_iff_left, TY, Int.toNat_natCast, effK_ret, effK_normal, Go.Proofs.Try.results75]))
    all_goals first | (exfalso; omega) | skip
    · rename_i hgt
      have hnm : ¬ notMore a d := fun h => by have : d.S t ≤ a.S t := h t hlt; omega
      rw [if_neg hnm] at e0
      refine ⟨[], _, _, weakS (fr' := [(0, _)]) ⟨.inr rfl, trivial⟩ (fun k x hx => by simp [blk] at hx), .inl ⟨?_, rfl, by omega, ?_⟩⟩
      · rw [e0]; omega
      · rw [e0]; rfl
    · rename_i hgt
      refine ⟨(t + 1, _), ⟨by simp only []; omega, ?_, fun j hj2 => ?_⟩, by simp only []; omega, weakS ?_ ?_⟩
      rotate_left 2
      · simp [SubFr, Go.Sx.look]
      · exact SubHp.refl _
      · simp only []; omega
      · by_cases e : j = t
        · subst e; show d.S j ≤ a.S j; omega
        · exact hj j (by simp only [] at hj2; omega)
  · have hte : t = a.m + 1 := by omega
    subst hte
    rw [if_pos (show notMore a d from hj)] at e0
    (repeat' (first | with_reducible refine splitVC_d (fun _ => ?_) (fun _ => ?_) | ((with_reducible refine And.intro ?_ ?_); focus (first | trivial | (simp only [InK]; omega) | omega | (simp only [InK, ne_eq, and_true, true_and]; omega))) | simp -dsimp only [↓RP, RQ0, RQ1, RQ2, RQ3, implies_true, forall_const, Nat.reduceMul, reduceIte, reduceCtorEq, Nat.reduceAdd, Nat.reduceEqDiff, Nat.reduceLT, Nat.reduceLeDiff, I, self_F1, self_F2, Nat.add_zero, Nat.add_assoc, Nat.add_lt_add_iff_left, TY, Int.toNat_natCast, effK_ret, effK_normal, Go.Proofs.Try.results75]))
    all_goals first | (exfalso; omega) | skip
    refine ⟨_, _, _, weakS (fr' := [(0, _)]) ⟨.inr rfl, trivial⟩ (SubHp.refl _), .inr ⟨e0, id + 18, id + 20, by omega, by omega, by omega, by omega, by omega, ?_, ?_⟩⟩
    · rw [hm]
    · rw [hm]; rfl
end Go.Lg
end
section
set_option linter.unusedSimpArgs false
set_option linter.unusedVariables false
set_option maxRecDepth 100000
set_option maxHeartbeats 4000000
namespace Go.Lg
open Go.Sx
def fk1 (P : Nat → Bool) (i : Nat) : Nat → Nat
  | 0 => 0
  | n + 1 => if P i = true then i else fk1 P (i + 1) n
def brkP (c a : Curve) (t k : Nat) : Bool := decide (c.M k < sumTo a.u (t + k) - sumTo a.u t)
def brkT (c a : Curve) (t : Nat) : Nat := fk1 (brkP c a t) 1 (a.m - t)
def brkF (c a : Curve) (t : Nat) : Nat → Nat × Nat
  | 0 => (0, 0)
  | n + 1 => if brkT c a t = 0 then brkF c a (t + 1) n else (t, brkT c a t)
def brkV (p : Nat × Nat) : Int × Int × Int := if p.2 = 0 then (0, 0, 5) else ((p.1 : Int), (p.2 : Int), 0)
def breakV (c a : Curve) : Int × Int × Int := if c.err = 0 then (if a.rErr = 0 then brkV (brkF c a 0 a.m) else (0, 0, a.rErr)) else (0, 0, c.err)
theorem fk1_pos (P : Nat → Bool) : ∀ n i, 1 ≤ i → P i = true → fk1 P i (n + 1) = i := fun n i _ h => by simp only [fk1, h, if_true]
theorem fk1_step (P : Nat → Bool) (n i : Nat) (h : P i = false) : fk1 P i (n + 1) = fk1 P (i + 1) n := by simp only [fk1, h]; rfl
theorem brkF_hit {c a : Curve} {t n : Nat} (h : brkT c a t ≠ 0) : brkF c a t (n + 1) = (t, brkT c a t) := by simp only [brkF]; rw [if_neg h]
theorem brkF_miss {c a : Curve} {t n : Nat} (h : brkT c a t = 0) : brkF c a t (n + 1) = brkF c a (t + 1) n := by simp only [brkF]; rw [if_pos h]
theorem brkV_hit {t k : Nat} (h : 1 ≤ k) : brkV (t, k) = ((t : Int), (k : Int), 0) := by unfold brkV; rw [if_neg (by simp only []; omega)]
def tup3 (x : Int × Int × Int) : SV := .tup [I x.1, I x.2.1, I x.2.2]
theorem c29 (c a : Curve) (hm : c.m ≤ 1000000) (hm2 : a.m ≤ 1000000) : Contract Go.Proofs.Try.prog 29 [c.sv, a.sv] (tup3 (breakV c a)) := by
  refine contract_ofF (handAt 16) Go.Proofs.Try.func29 rfl (by kernel_rfl) follows (by kernel_rfl) _ _ (by rw [Go.Proofs.Try.ntmps29]; simp) (by simp [OldL, c.old, a.old]) ?_
  unfold tup3 I
  conv => arg 4; unfold Curve.sv ints
  (repeat' (first | with_reducible refine splitVC_d (fun _ => ?_) (fun _ => ?_) | ((with_reducible refine And.intro ?_ ?_); focus (first | trivial | (simp only [InK]; omega) | omega | (simp only [InK, ne_eq, and_true, true_and]; omega))) | simp -dsimp only [↓RP, RQ0, RQ1, RQ2, RQ3, implies_true, forall_const, Nat.reduceMul, reduceIte, reduceCtorEq, Nat.reduceAdd, Nat.reduceEqDiff, Nat.reduceLT, Nat.reduceLeDiff, TY, Go.Proofs.Try.results29]))
  refine callVC (c26 c hm) (by (simp -dsimp only [↓RP, RQ0, RQ1, RQ2, RQ3, implies_true, forall_const, Nat.reduceMul, reduceIte, reduceCtorEq, Nat.reduceAdd, Nat.reduceEqDiff, Nat.reduceLT, Nat.reduceLeDiff, Curve.sv, ints, I]); all_goals simp) (by (simp -dsimp only [↓RP, RQ0, RQ1, RQ2, RQ3, implies_true, forall_const, Nat.reduceMul, reduceIte, reduceCtorEq, Nat.reduceAdd, Nat.reduceEqDiff, Nat.reduceLT, Nat.reduceLeDiff, I])) ?_
  (repeat' (first | with_reducible refine splitVC_d (fun _ => ?_) (fun _ => ?_) | ((with_reducible refine And.intro ?_ ?_); focus (first | trivial | (simp only [InK]; omega) | omega | (simp only [InK, ne_eq, and_true, true_and]; omega))) | simp -dsimp only [↓RP, RQ0, RQ1, RQ2, RQ3, implies_true, forall_const, Nat.reduceMul, reduceIte, reduceCtorEq, Nat.reduceAdd, Nat.reduceEqDiff, Nat.reduceLT, Nat.reduceLeDiff, I, TY, Go.Proofs.Try.results29]))
  rotate_left
  · rename_i he
    unfold breakV
    rw [if_neg he]
    exact ⟨rfl, rfl, rfl⟩
  rename_i he
  have hf := Curve.fine he
  refine callVC (c70 1 (fun _ => a) (by omega) (fun i hi => hm2)) ?_ (by (simp -dsimp only [↓RP, RQ0, RQ1, RQ2, RQ3, implies_true, forall_const, Nat.reduceMul, reduceIte, reduceCtorEq, Nat.reduceAdd, Nat.reduceEqDiff, Nat.reduceLT, Nat.reduceLeDiff, I])) ?_
  · (simp -dsimp only [↓RP, RQ0, RQ1, RQ2, RQ3, implies_true, forall_const, Nat.reduceMul, reduceIte, reduceCtorEq, Nat.reduceAdd, Nat.reduceEqDiff, Nat.reduceLT, Nat.reduceLeDiff, chn])
    intro i j hi hj
    rw [lit1 _ i j hi hj]
    exact sub_refl _ a.old
  rw [fstR_one]
  (repeat' (first | with_reducible refine splitVC_d (fun _ => ?_) (fun _ => ?_) | ((with_reducible refine And.intro ?_ ?_); focus (first | trivial | (simp only [InK]; omega) | omega | (simp only [InK, ne_eq, and_true, true_and]; omega))) | simp -dsimp only [↓RP, RQ0, RQ1, RQ2, RQ3, implies_true, forall_const, Nat.reduceMul, reduceIte, reduceCtorEq, Nat.reduceAdd, Nat.reduceEqDiff, Nat.reduceLT, Nat.reduceLeDiff, I, TY, Go.Proofs.Try.results29]))
  rotate_left
  · rename_i hr
    unfold breakV
    rw [if_pos he, if_neg hr]
    exact ⟨rfl, rfl, rfl⟩
  rename_i hr
  have ra := rErr_row hr
  have a60 := ra.m60
  have e0 : breakV c a = brkV (brkF c a 0 a.m) := by unfold breakV; rw [if_pos he, if_pos hr]
  rw [e0]
  refine callE (by rfl) (EffVC.sub (hp2 := []) (fun k x hx => by simp [blk] at hx) (e63 c hf _)) fun hp' nid0 res ⟨bid, mid, top0, hbm, q2, q3, q4, q5, ht0, q7, q8⟩ => ?_
  subst q7 q8
  (repeat' (first | with_reducible refine splitVC_d (fun _ => ?_) (fun _ => ?_) | ((with_reducible refine And.intro ?_ ?_); focus (first | trivial | (simp only [InK]; omega) | omega | (simp only [InK, ne_eq, and_true, true_and]; omega))) | simp -dsimp only [↓RP, RQ0, RQ1, RQ2, RQ3, implies_true, forall_const, Nat.reduceMul, reduceIte, reduceCtorEq, Nat.reduceAdd, Nat.reduceEqDiff, Nat.reduceLT, Nat.reduceLeDiff, TY, Go.Proofs.Try.results29]))
  refine callN_old (c71 a (by omega) (fun i hi => by have := ra.rg i hi; omega)) (by (simp -dsimp only [↓RP, RQ0, RQ1, RQ2, RQ3, implies_true, forall_const, Nat.reduceMul, reduceIte, reduceCtorEq, Nat.reduceAdd, Nat.reduceEqDiff, Nat.reduceLT, Nat.reduceLeDiff, Curve.sv, ints, I]); all_goals simp) (by (simp -dsimp only [↓RP, RQ0, RQ1, RQ2, RQ3, implies_true, forall_const, Nat.reduceMul, reduceIte, reduceCtorEq, Nat.reduceAdd, Nat.reduceEqDiff, Nat.reduceLT, Nat.reduceLeDiff, I]); all_goals simp) (by (simp -dsimp only [↓RP, RQ0, RQ1, RQ2, RQ3, implies_true, forall_const, Nat.reduceMul, reduceIte, reduceCtorEq, Nat.reduceAdd, Nat.reduceEqDiff, Nat.reduceLT, Nat.reduceLeDiff, I]); all_goals simp) ?_
  (repeat' (first | with_reducible refine splitVC_d (fun _ => ?_) (fun _ => ?_) | ((with_reducible refine And.intro ?_ ?_); focus (first | trivial | (simp only [InK]; omega) | omega | (simp only [InK, ne_eq, and_true, true_and]; omega))) | simp -dsimp only [↓RP, RQ0, RQ1, RQ2, RQ3, implies_true, forall_const, Nat.reduceMul, reduceIte, reduceCtorEq, Nat.reduceAdd, Nat.reduceEqDiff, Nat.reduceLT, Nat.reduceLeDiff, I, TY, Int.toNat_natCast, Nat.add_assoc, Go.Proofs.Try.results29]))
  have hM := M_bound hf
  have hS := fun k hk => S_bound ra k hk
  obtain ⟨ia, hia⟩ : ∃ ia, ia = nid0 + 3 := ⟨_, rfl⟩
  obtain ⟨n0, hn0⟩ : ∃ n0, n0 = nid0 + 4 := ⟨_, rfl⟩
  have h13 : bid ≠ ia := by omega
  have h23 : mid ≠ ia := by omega
  rw [← hia]
  refine loop_vc (fun (x : Nat × Nat × Nat) => x.1 ≤ a.m ∧ x.2.1 ≤ 400 ∧ n0 ≤ x.2.2 ∧ brkF c a 0 a.m = brkF c a x.1 (a.m - x.1)) (fun x => ⟨[(1, .arr false false a.m 1 (fun i _ => .val (.int .i64 (a.u i)))), (10, .vec ia (a.m + 1) 1), (11, .fn (.func 64) [.ptr bid 0] []), (12, .val (.int .i64 0)), (13, .val (.int .i64 0)), (34, .val (.int .i64 a.m)), (35, .val (.int .i64 x.1))], (bid, bdC c mid true x.2.1) :: (mid, bdM c x.2.1) :: (ia, rowB (a.m + 1) a.S) :: [], x.2.2⟩) (fun x => a.m - x.1) (0, top0, _) ⟨Nat.zero_le _, ht0, ?_, rfl⟩ (weakS ?_ ?_) fun x hx => ?_
  rotate_left
  · simp [SubFr, Go.Sx.look]
  · intro k x hx
    by_cases h1 : k = bid
    · subst h1
      simp [blk] at hx
      simp [blk, h13, ← hx]
    · by_cases h2 : k = mid
      · subst h2
        simp [blk, h1] at hx
        simp [blk, h1, h23, ← hx]
      · simp [blk, h1, h2] at hx
        simp [blk, hx]
  rotate_left
  · simp only []; omega
  obtain ⟨t, top, nid⟩ := x
  obtain ⟨ht, htop, hn, hb⟩ := hx
  replace ht : t ≤ a.m := ht
  replace htop : top ≤ 400 := htop
  replace hn : n0 ≤ nid := hn
  replace hb : brkF c a 0 a.m = brkF c a t (a.m - t) := hb
  have NB := names3 (a := bid) (b := mid) (c := ia) (n := nid) hbm h13 h23 (by omega) (by omega) (by omega)
  by_cases hlt : t < a.m
  · have hb1 : a.m - t = (a.m - (t + 1)) + 1 := by omega
    rw [hb1] at hb
    (repeat' (first | with_reducible refine splitVC_d (fun _ => ?_) (fun _ => ?_) | ((with_reducible refine And.intro ?_ ?_); focus (first | trivial | (simp only [InK]; omega) | omega | (simp only [InK, ne_eq, and_true, true_and]; omega))) | simp -dsimp only [↓RP, RQ0, RQ1, RQ2, RQ3, implies_true, forall_const, Nat.reduceMul, reduceIte, reduceCtorEq, Nat.reduceAdd, Nat.reduceEqDiff, Nat.reduceLT, Nat.reduceLeDiff, NB, I, B, Nat.add_zero, Nat.add_assoc, TY, Int.toNat_natCast, Go.Proofs.Try.results29]))
    all_goals first | (exfalso; omega) | skip
    refine loop_vc (fun (x : Nat × Nat × Nat) => (1 ≤ x.1 ∧ x.1 ≤ a.m - t + 1 ∧ brkT c a t = fk1 (brkP c a t) x.1 (a.m - t + 1 - x.1)) ∧ x.2.1 ≤ 400 ∧ n0 ≤ x.2.2) (fun x => ⟨[(1, .arr false false a.m 1 (fun i _ => .val (.int .i64 (a.u i)))), (10, .vec ia (a.m + 1) 1), (11, .fn (.func 64) [.ptr bid 0] []), (12, .val (.int .i64 0)), (13, .val (.int .i64 0)), (34, .val (.int .i64 a.m)), (35, .val (.int .i64 t)), (14, .val (.int .i64 t)), (15, .val (.int .i64 x.1))], (bid, bdC c mid true x.2.1) :: (mid, bdM c x.2.1) :: (ia, rowB (a.m + 1) a.S) :: [], x.2.2⟩) (fun x => a.m - t + 1 - x.1) (1, top, _) ⟨⟨Nat.le_refl _, by simp only []; omega, rfl⟩, htop, ?_⟩ (weakS ?_ ?_) fun x hx => ?_
    rotate_left
    · simp [SubFr, Go.Sx.look]
    · exact SubHp.refl _
    rotate_left
    · simp only []; omega
    obtain ⟨k, top, nid⟩ := x
    obtain ⟨⟨hk1, hk2, hbt⟩, htop, hn⟩ := hx
    replace hk1 : 1 ≤ k := hk1
    replace hk2 : k ≤ a.m - t + 1 := hk2
    replace htop : top ≤ 400 := htop
    replace hn : n0 ≤ nid := hn
    replace hbt : brkT c a t = fk1 (brkP c a t) k (a.m - t + 1 - k) := hbt
    have NB := names3 (a := bid) (b := mid) (c := ia) (n := nid) hbm h13 h23 (by omega) (by omega) (by omega)
    have eTK : (t : Int) + (k : Int) = ((t + k : Nat) : Int) := rfl
    by_cases hkl : k ≤ a.m - t
    · have hk3 : a.m - t + 1 - k = (a.m - t - k) + 1 := by omega
      rw [hk3] at hbt
      have s1 : 0 ≤ sumTo a.u (t + k) ∧ sumTo a.u (t + k) ≤ 600000 := hS (t + k) (by omega)
      have s2 : 0 ≤ sumTo a.u t ∧ sumTo a.u t ≤ 600000 := hS t (by omega)
      have m1 := hM k
      (repeat' (first | with_reducible refine splitVC_d (fun _ => ?_) (fun _ => ?_) | ((with_reducible refine And.intro ?_ ?_); focus (first | trivial | (simp only [InK]; omega) | omega | (simp only [InK, ne_eq, and_true, true_and]; omega))) | simp -dsimp only [↓RP, RQ0, RQ1, RQ2, RQ3, implies_true, forall_const, Nat.reduceMul, reduceIte, reduceCtorEq, Nat.reduceAdd, Nat.reduceEqDiff, Nat.reduceLT, Nat.reduceLeDiff, eTK, NB, I, B, Nat.add_zero, Nat.add_assoc, TY, Int.toNat_natCast, Go.Proofs.Try.results29]))
      all_goals first | (exfalso; omega) | skip
      refine rawRegion follows (fun m st => ∃ (top nid : Nat), top ≤ 400 ∧ n0 ≤ nid ∧ st = ⟨[(1, .arr false false a.m 1 (fun i _ => .val (.int .i64 (a.u i)))), (10, .vec ia (a.m + 1) 1), (11, .fn (.func 64) [.ptr bid 0] []), (12, .val (.int .i64 0)), (13, .val (.int .i64 0)), (14, .val (.int .i64 t)), (15, .val (.int .i64 k)), (34, .val (.int .i64 a.m)), (35, .val (.int .i64 t)), (46, up (m.testBit 0) (.vec ia (a.m + 1) 1)), (47, up (m.testBit 1) (.val (.int .i64 t))), (48, up (m.testBit 2) (.val (.int .i64 k))), (49, up (m.testBit 3) (.val (.int .i64 ((t + k : Nat) : Int)))), (50, up (m.testBit 4) (.elt ia 1 (t + k) 0)), (51, up (m.testBit 5) (.val (.int .i64 (sumTo a.u (t + k))))), (52, up (m.testBit 6) (.vec ia (a.m + 1) 1)), (53, up (m.testBit 7) (.val (.int .i64 t))), (54, up (m.testBit 8) (.elt ia 1 t 0)), (55, up (m.testBit 9) (.val (.int .i64 (sumTo a.u t)))), (56, up (m.testBit 10) (.val (.int .i64 (sumTo a.u (t + k) - sumTo a.u t)))), (57, up (m.testBit 11) (.fn (.func 64) [.ptr bid 0] [])), (58, up (m.testBit 12) (.val (.int .i64 k))), (59, up (m.testBit 13) (.val (.int .i64 (c.M k)))), (60, up (m.testBit 14) (.val (.bool (decide (c.M k < sumTo a.u (t + k) - sumTo a.u t)))))], (bid, bdC c mid true top) :: (mid, bdM c top) :: (ia, rowB (a.m + 1) a.S) :: [], nid⟩) (ms := [0, 0, 0, 6, 15, 31, 0, 0, 192, 448, 1023, 0, 0, 6144, 16383]) (by kernel_rfl) (by kernel_rfl) (weakS (by simp [SubFr, Go.Sx.look, Go.Sx.up]) (SubHp.refl _)) ⟨top, _, htop, by omega, rfl⟩ (stepsH_cons ?_ <| stepsH_cons ?_ <| stepsH_cons ?_ <| stepsH_cons ?_ <| stepsH_cons ?_ <| stepsH_cons ?_ <| stepsH_cons ?_ <| stepsH_cons ?_ <| stepsH_cons ?_ <| stepsH_cons ?_ <| stepsH_cons ?_ <| stepsH_cons ?_ <| stepsH_cons ?_ <| stepsH_cons ?_ <| stepsH_cons ?_ <| stepsH_nil) ?_
      · rintro m st ⟨top, nid, ht, hn, rfl⟩ hcl hbit hd
        have NB := names3 (a := bid) (b := mid) (c := ia) (n := nid) hbm h13 h23 (by omega) (by omega) (by omega)
        unfold opH
        rw [guardVC_none]
        simp only [hbit, up_true, up_false]
        refine .inl ?_
        (simp -dsimp only [↓RP, RQ0, RQ1, RQ2, RQ3, implies_true, forall_const, Nat.reduceMul, reduceIte, reduceCtorEq, Nat.reduceAdd, Nat.reduceEqDiff, Nat.reduceLT, Nat.reduceLeDiff, eTK, I, B, NB, Nat.add_zero, Nat.add_assoc, TY, Int.toNat_natCast, Go.Proofs.Try.results29])
        try refine ⟨by (first | trivial | (simp only [InK]; omega) | omega | (simp only [InK, ne_eq, and_true, true_and]; omega)), ?_⟩
        refine ⟨_, Weak.refl _ _, top, nid + 1, ht, by omega, ?_⟩
        simp only [tb, Nat.reduceEqDiff, Nat.succ_ne_self, Nat.zero_ne_one, Nat.one_ne_zero, decide_false, decide_true, Bool.or_false, Bool.or_true, Bool.false_or, up_true, up_false, hbit]
      · rintro m st ⟨top, nid, ht, hn, rfl⟩ hcl hbit hd
        have NB := names3 (a := bid) (b := mid) (c := ia) (n := nid) hbm h13 h23 (by omega) (by omega) (by omega)
        unfold opH
        rw [guardVC_none]
        simp only [hbit, up_true, up_false]
        refine .inl ?_
        (simp -dsimp only [↓RP, RQ0, RQ1, RQ2, RQ3, implies_true, forall_const, Nat.reduceMul, reduceIte, reduceCtorEq, Nat.reduceAdd, Nat.reduceEqDiff, Nat.reduceLT, Nat.reduceLeDiff, eTK, I, B, NB, Nat.add_zero, Nat.add_assoc, TY, Int.toNat_natCast, Go.Proofs.Try.results29])
        try refine ⟨by (first | trivial | (simp only [InK]; omega) | omega | (simp only [InK, ne_eq, and_true, true_and]; omega)), ?_⟩
        refine ⟨_, Weak.refl _ _, top, nid + 1, ht, by omega, ?_⟩
        simp only [tb, Nat.reduceEqDiff, Nat.succ_ne_self, Nat.zero_ne_one, Nat.one_ne_zero, decide_false, decide_true, Bool.or_false, Bool.or_true, Bool.false_or, up_true, up_false, hbit]
      · rintro m st ⟨top, nid, ht, hn, rfl⟩ hcl hbit hd
        have NB := names3 (a := bid) (b := mid) (c := ia) (n := nid) hbm h13 h23 (by omega) (by omega) (by omega)
        unfold opH
        rw [guardVC_none]
        simp only [hbit, up_true, up_false]
        refine .inl ?_
        (simp -dsimp only [↓RP, RQ0, RQ1, RQ2, RQ3, implies_true, forall_const, Nat.reduceMul, reduceIte, reduceCtorEq, Nat.reduceAdd, Nat.reduceEqDiff, Nat.reduceLT, Nat.reduceLeDiff, eTK, I, B, NB, Nat.add_zero, Nat.add_assoc, TY, Int.toNat_natCast, Go.Proofs.Try.results29])
        try refine ⟨by (first | trivial | (simp only [InK]; omega) | omega | (simp only [InK, ne_eq, and_true, true_and]; omega)), ?_⟩
        refine ⟨_, Weak.refl _ _, top, nid + 1, ht, by omega, ?_⟩
        simp only [tb, Nat.reduceEqDiff, Nat.succ_ne_self, Nat.zero_ne_one, Nat.one_ne_zero, decide_false, decide_true, Bool.or_false, Bool.or_true, Bool.false_or, up_true, up_false, hbit]
      · rintro m st ⟨top, nid, ht, hn, rfl⟩ hcl hbit hd
        have q1 := hd 1 (by decide) (by decide)
        have q2 := hd 2 (by decide) (by decide)
        have NB := names3 (a := bid) (b := mid) (c := ia) (n := nid) hbm h13 h23 (by omega) (by omega) (by omega)
        unfold opH
        rw [guardVC_none]
        simp only [q1, q2, hbit, up_true, up_false]
        refine .inl ?_
        (simp -dsimp only [↓RP, RQ0, RQ1, RQ2, RQ3, implies_true, forall_const, Nat.reduceMul, reduceIte, reduceCtorEq, Nat.reduceAdd, Nat.reduceEqDiff, Nat.reduceLT, Nat.reduceLeDiff, eTK, I, B, NB, Nat.add_zero, Nat.add_assoc, TY, Int.toNat_natCast, Go.Proofs.Try.results29])
        try refine ⟨by (first | trivial | (simp only [InK]; omega) | omega | (simp only [InK, ne_eq, and_true, true_and]; omega)), ?_⟩
        refine ⟨_, Weak.refl _ _, top, nid + 1, ht, by omega, ?_⟩
        simp only [tb, Nat.reduceEqDiff, Nat.succ_ne_self, Nat.zero_ne_one, Nat.one_ne_zero, decide_false, decide_true, Bool.or_false, Bool.or_true, Bool.false_or, up_true, up_false, q1, q2, hbit]
      · rintro m st ⟨top, nid, ht, hn, rfl⟩ hcl hbit hd
        have q0 := hd 0 (by decide) (by decide)
        have q3 := hd 3 (by decide) (by decide)
        have NB := names3 (a := bid) (b := mid) (c := ia) (n := nid) hbm h13 h23 (by omega) (by omega) (by omega)
        unfold opH
        rw [guardVC_none]
        simp only [q0, q3, hbit, up_true, up_false]
        refine .inl ?_
        (simp -dsimp only [↓RP, RQ0, RQ1, RQ2, RQ3, implies_true, forall_const, Nat.reduceMul, reduceIte, reduceCtorEq, Nat.reduceAdd, Nat.reduceEqDiff, Nat.reduceLT, Nat.reduceLeDiff, eTK, I, B, NB, Nat.add_zero, Nat.add_assoc, TY, Int.toNat_natCast, Go.Proofs.Try.results29])
        try refine ⟨by (first | trivial | (simp only [InK]; omega) | omega | (simp only [InK, ne_eq, and_true, true_and]; omega)), ?_⟩
        refine ⟨_, Weak.refl _ _, top, nid + 1, ht, by omega, ?_⟩
        simp only [tb, Nat.reduceEqDiff, Nat.succ_ne_self, Nat.zero_ne_one, Nat.one_ne_zero, decide_false, decide_true, Bool.or_false, Bool.or_true, Bool.false_or, up_true, up_false, q0, q3, hbit]
      · rintro m st ⟨top, nid, ht, hn, rfl⟩ hcl hbit hd
        have q4 := hd 4 (by decide) (by decide)
        have NB := names3 (a := bid) (b := mid) (c := ia) (n := nid) hbm h13 h23 (by omega) (by omega) (by omega)
        unfold opH
        rw [guardVC_none]
        simp only [q4, hbit, up_true, up_false]
        refine .inl ?_
        (simp -dsimp only [↓RP, RQ0, RQ1, RQ2, RQ3, implies_true, forall_const, Nat.reduceMul, reduceIte, reduceCtorEq, Nat.reduceAdd, Nat.reduceEqDiff, Nat.reduceLT, Nat.reduceLeDiff, eTK, I, B, NB, Nat.add_zero, Nat.add_assoc, TY, Int.toNat_natCast, Go.Proofs.Try.results29])
        try refine ⟨by (first | trivial | (simp only [InK]; omega) | omega | (simp only [InK, ne_eq, and_true, true_and]; omega)), ?_⟩
        refine ⟨_, Weak.refl _ _, top, nid + 1, ht, by omega, ?_⟩
        simp only [tb, Nat.reduceEqDiff, Nat.succ_ne_self, Nat.zero_ne_one, Nat.one_ne_zero, decide_false, decide_true, Bool.or_false, Bool.or_true, Bool.false_or, up_true, up_false, q4, hbit]
      · rintro m st ⟨top, nid, ht, hn, rfl⟩ hcl hbit hd
        have NB := names3 (a := bid) (b := mid) (c := ia) (n := nid) hbm h13 h23 (by omega) (by omega) (by omega)
        unfold opH
        rw [guardVC_none]
        simp only [hbit, up_true, up_false]
        refine .inl ?_
        (simp -dsimp only [↓RP, RQ0, RQ1, RQ2, RQ3, implies_true, forall_const, Nat.reduceMul, reduceIte, reduceCtorEq, Nat.reduceAdd, Nat.reduceEqDiff, Nat.reduceLT, Nat.reduceLeDiff, eTK, I, B, NB, Nat.add_zero, Nat.add_assoc, TY, Int.toNat_natCast, Go.Proofs.Try.results29])
        try refine ⟨by (first | trivial | (simp only [InK]; omega) | omega | (simp only [InK, ne_eq, and_true, true_and]; omega)), ?_⟩
        refine ⟨_, Weak.refl _ _, top, nid + 1, ht, by omega, ?_⟩
        simp only [tb, Nat.reduceEqDiff, Nat.succ_ne_self, Nat.zero_ne_one, Nat.one_ne_zero, decide_false, decide_true, Bool.or_false, Bool.or_true, Bool.false_or, up_true, up_false, hbit]
      · rintro m st ⟨top, nid, ht, hn, rfl⟩ hcl hbit hd
        have NB := names3 (a := bid) (b := mid) (c := ia) (n := nid) hbm h13 h23 (by omega) (by omega) (by omega)
        unfold opH
        rw [guardVC_none]
        simp only [hbit, up_true, up_false]
        refine .inl ?_
        (simp -dsimp only [↓RP, RQ0, RQ1, RQ2, RQ3, implies_true, forall_const, Nat.reduceMul, reduceIte, reduceCtorEq, Nat.reduceAdd, Nat.reduceEqDiff, Nat.reduceLT, Nat.reduceLeDiff, eTK, I, B, NB, Nat.add_zero, Nat.add_assoc, TY, Int.toNat_natCast, Go.Proofs.Try.results29])
        try refine ⟨by (first | trivial | (simp only [InK]; omega) | omega | (simp only [InK, ne_eq, and_true, true_and]; omega)), ?_⟩
        refine ⟨_, Weak.refl _ _, top, nid + 1, ht, by omega, ?_⟩
        simp only [tb, Nat.reduceEqDiff, Nat.succ_ne_self, Nat.zero_ne_one, Nat.one_ne_zero, decide_false, decide_true, Bool.or_false, Bool.or_true, Bool.false_or, up_true, up_false, hbit]
      · rintro m st ⟨top, nid, ht, hn, rfl⟩ hcl hbit hd
        have q6 := hd 6 (by decide) (by decide)
        have q7 := hd 7 (by decide) (by decide)
        have NB := names3 (a := bid) (b := mid) (c := ia) (n := nid) hbm h13 h23 (by omega) (by omega) (by omega)
        unfold opH
        rw [guardVC_none]
        simp only [q6, q7, hbit, up_true, up_false]
        refine .inl ?_
        (simp -dsimp only [↓RP, RQ0, RQ1, RQ2, RQ3, implies_true, forall_const, Nat.reduceMul, reduceIte, reduceCtorEq, Nat.reduceAdd, Nat.reduceEqDiff, Nat.reduceLT, Nat.reduceLeDiff, eTK, I, B, NB, Nat.add_zero, Nat.add_assoc, TY, Int.toNat_natCast, Go.Proofs.Try.results29])
        try refine ⟨by (first | trivial | (simp only [InK]; omega) | omega | (simp only [InK, ne_eq, and_true, true_and]; omega)), ?_⟩
        refine ⟨_, Weak.refl _ _, top, nid + 1, ht, by omega, ?_⟩
        simp only [tb, Nat.reduceEqDiff, Nat.succ_ne_self, Nat.zero_ne_one, Nat.one_ne_zero, decide_false, decide_true, Bool.or_false, Bool.or_true, Bool.false_or, up_true, up_false, q6, q7, hbit]
      · rintro m st ⟨top, nid, ht, hn, rfl⟩ hcl hbit hd
        have q8 := hd 8 (by decide) (by decide)
        have NB := names3 (a := bid) (b := mid) (c := ia) (n := nid) hbm h13 h23 (by omega) (by omega) (by omega)
        unfold opH
        rw [guardVC_none]
        simp only [q8, hbit, up_true, up_false]
        refine .inl ?_
        (simp -dsimp only [↓RP, RQ0, RQ1, RQ2, RQ3, implies_true, forall_const, Nat.reduceMul, reduceIte, reduceCtorEq, Nat.reduceAdd, Nat.reduceEqDiff, Nat.reduceLT, Nat.reduceLeDiff, eTK, I, B, NB, Nat.add_zero, Nat.add_assoc, TY, Int.toNat_natCast, Go.Proofs.Try.results29])
        try refine ⟨by (first | trivial | (simp only [InK]; omega) | omega | (simp only [InK, ne_eq, and_true, true_and]; omega)), ?_⟩
        refine ⟨_, Weak.refl _ _, top, nid + 1, ht, by omega, ?_⟩
        simp only [tb, Nat.reduceEqDiff, Nat.succ_ne_self, Nat.zero_ne_one, Nat.one_ne_zero, decide_false, decide_true, Bool.or_false, Bool.or_true, Bool.false_or, up_true, up_false, q8, hbit]
      · rintro m st ⟨top, nid, ht, hn, rfl⟩ hcl hbit hd
        have q5 := hd 5 (by decide) (by decide)
        have q9 := hd 9 (by decide) (by decide)
        have NB := names3 (a := bid) (b := mid) (c := ia) (n := nid) hbm h13 h23 (by omega) (by omega) (by omega)
        unfold opH
        rw [guardVC_none]
        simp only [q5, q9, hbit, up_true, up_false]
        refine .inl ?_
        (simp -dsimp only [↓RP, RQ0, RQ1, RQ2, RQ3, implies_true, forall_const, Nat.reduceMul, reduceIte, reduceCtorEq, Nat.reduceAdd, Nat.reduceEqDiff, Nat.reduceLT, Nat.reduceLeDiff, eTK, I, B, NB, Nat.add_zero, Nat.add_assoc, TY, Int.toNat_natCast, Go.Proofs.Try.results29])
        try refine ⟨by (first | trivial | (simp only [InK]; omega) | omega | (simp only [InK, ne_eq, and_true, true_and]; omega)), ?_⟩
        refine ⟨_, Weak.refl _ _, top, nid + 1, ht, by omega, ?_⟩
        simp only [tb, Nat.reduceEqDiff, Nat.succ_ne_self, Nat.zero_ne_one, Nat.one_ne_zero, decide_false, decide_true, Bool.or_false, Bool.or_true, Bool.false_or, up_true, up_false, q5, q9, hbit]
      · rintro m st ⟨top, nid, ht, hn, rfl⟩ hcl hbit hd
        have NB := names3 (a := bid) (b := mid) (c := ia) (n := nid) hbm h13 h23 (by omega) (by omega) (by omega)
        unfold opH
        rw [guardVC_none]
        simp only [hbit, up_true, up_false]
        refine .inl ?_
        (simp -dsimp only [↓RP, RQ0, RQ1, RQ2, RQ3, implies_true, forall_const, Nat.reduceMul, reduceIte, reduceCtorEq, Nat.reduceAdd, Nat.reduceEqDiff, Nat.reduceLT, Nat.reduceLeDiff, eTK, I, B, NB, Nat.add_zero, Nat.add_assoc, TY, Int.toNat_natCast, Go.Proofs.Try.results29])
        try refine ⟨by (first | trivial | (simp only [InK]; omega) | omega | (simp only [InK, ne_eq, and_true, true_and]; omega)), ?_⟩
        refine ⟨_, Weak.refl _ _, top, nid + 1, ht, by omega, ?_⟩
        simp only [tb, Nat.reduceEqDiff, Nat.succ_ne_self, Nat.zero_ne_one, Nat.one_ne_zero, decide_false, decide_true, Bool.or_false, Bool.or_true, Bool.false_or, up_true, up_false, hbit]
      · rintro m st ⟨top, nid, ht, hn, rfl⟩ hcl hbit hd
        have NB := names3 (a := bid) (b := mid) (c := ia) (n := nid) hbm h13 h23 (by omega) (by omega) (by omega)
        unfold opH
        rw [guardVC_none]
        simp only [hbit, up_true, up_false]
        refine .inl ?_
        (simp -dsimp only [↓RP, RQ0, RQ1, RQ2, RQ3, implies_true, forall_const, Nat.reduceMul, reduceIte, reduceCtorEq, Nat.reduceAdd, Nat.reduceEqDiff, Nat.reduceLT, Nat.reduceLeDiff, eTK, I, B, NB, Nat.add_zero, Nat.add_assoc, TY, Int.toNat_natCast, Go.Proofs.Try.results29])
        try refine ⟨by (first | trivial | (simp only [InK]; omega) | omega | (simp only [InK, ne_eq, and_true, true_and]; omega)), ?_⟩
        refine ⟨_, Weak.refl _ _, top, nid + 1, ht, by omega, ?_⟩
        simp only [tb, Nat.reduceEqDiff, Nat.succ_ne_self, Nat.zero_ne_one, Nat.one_ne_zero, decide_false, decide_true, Bool.or_false, Bool.or_true, Bool.false_or, up_true, up_false, hbit]
      · rintro m st ⟨top, nid, ht, hn, rfl⟩ hcl hbit hd
        have q11 := hd 11 (by decide) (by decide)
        have q12 := hd 12 (by decide) (by decide)
        have NB := names3 (a := bid) (b := mid) (c := ia) (n := nid) hbm h13 h23 (by omega) (by omega) (by omega)
        unfold opH
        rw [guardVC_none]
        simp only [q11, q12, hbit, up_true, up_false]
        refine .inl ?_
        (simp -dsimp only [↓RP, RQ0, RQ1, RQ2, RQ3, implies_true, forall_const, Nat.reduceMul, reduceIte, reduceCtorEq, Nat.reduceAdd, Nat.reduceEqDiff, Nat.reduceLT, Nat.reduceLeDiff, eTK, I, B, NB, Nat.add_zero, Nat.add_assoc, TY, Int.toNat_natCast, Go.Proofs.Try.results29])
        refine callE trivial (e64 c hf true top k ht (by omega) bid mid _ [(ia, rowB (a.m + 1) a.S)] hbm (by omega) (by omega) (Under.nil.cons (by omega))) fun hp' nid' res ⟨top', ht', r1, hn', r2⟩ => ?_
        subst r1 r2
        (simp -dsimp only [↓RP, RQ0, RQ1, RQ2, RQ3, implies_true, forall_const, Nat.reduceMul, reduceIte, reduceCtorEq, Nat.reduceAdd, Nat.reduceEqDiff, Nat.reduceLT, Nat.reduceLeDiff, eTK, I, B, NB, Nat.add_zero, Nat.add_assoc, TY, Int.toNat_natCast, Go.Proofs.Try.results29])
        refine ⟨_, Weak.refl _ _, top', nid' + 1, ht', by omega, ?_⟩
        simp only [tb, Nat.reduceEqDiff, Nat.succ_ne_self, Nat.zero_ne_one, Nat.one_ne_zero, decide_false, decide_true, Bool.or_false, Bool.or_true, Bool.false_or, up_true, up_false, q11, q12, hbit]
      · rintro m st ⟨top, nid, ht, hn, rfl⟩ hcl hbit hd
        have q10 := hd 10 (by decide) (by decide)
        have q13 := hd 13 (by decide) (by decide)
        have NB := names3 (a := bid) (b := mid) (c := ia) (n := nid) hbm h13 h23 (by omega) (by omega) (by omega)
        unfold opH
        rw [guardVC_none]
        simp only [q10, q13, hbit, up_true, up_false]
        refine .inl ?_
        (simp -dsimp only [↓RP, RQ0, RQ1, RQ2, RQ3, implies_true, forall_const, Nat.reduceMul, reduceIte, reduceCtorEq, Nat.reduceAdd, Nat.reduceEqDiff, Nat.reduceLT, Nat.reduceLeDiff, eTK, I, B, NB, Nat.add_zero, Nat.add_assoc, TY, Int.toNat_natCast, Go.Proofs.Try.results29])
        try refine ⟨by (first | trivial | (simp only [InK]; omega) | omega | (simp only [InK, ne_eq, and_true, true_and]; omega)), ?_⟩
        refine ⟨_, Weak.refl _ _, top, nid + 1, ht, by omega, ?_⟩
        simp only [tb, Nat.reduceEqDiff, Nat.succ_ne_self, Nat.zero_ne_one, Nat.one_ne_zero, decide_false, decide_true, Bool.or_false, Bool.or_true, Bool.false_or, up_true, up_false, q10, q13, hbit]
      · rintro m st' ⟨top, nid, ht, hn, rfl⟩ hall
        simp only [hall 0 (by decide), hall 1 (by decide), hall 2 (by decide), hall 3 (by decide), hall 4 (by decide), hall 5 (by decide), hall 6 (by decide), hall 7 (by decide), hall 8 (by decide), hall 9 (by decide), hall 10 (by decide), hall 11 (by decide), hall 12 (by decide), hall 13 (by decide), hall 14 (by decide), up_true]
        have NB := names3 (a := bid) (b := mid) (c := ia) (n := nid) hbm h13 h23 (by omega) (by omega) (by omega)
        (repeat' (first | with_reducible refine splitVC_d (fun _ => ?_) (fun _ => ?_) | ((with_reducible refine And.intro ?_ ?_); focus (first | trivial | (simp only [InK]; omega) | omega | (simp only [InK, ne_eq, and_true, true_and]; omega))) | simp -dsimp only [↓RP, RQ0, RQ1, RQ2, RQ3, implies_true, forall_const, Nat.reduceMul, reduceIte, reduceCtorEq, Nat.reduceAdd, Nat.reduceEqDiff, Nat.reduceLT, Nat.reduceLeDiff, NB, I, B, Nat.add_zero, Nat.add_assoc, TY, Int.toNat_natCast, Go.Proofs.Try.results29]))
        all_goals first | (exfalso; omega) | skip
        · rename_i hgt _
          have hp : brkP c a t k = true := by unfold brkP; exact decide_eq_true hgt
          rw [fk1_pos _ _ _ hk1 hp] at hbt
          rw [hb, brkF_hit (by omega), hbt, brkV_hit hk1]
          exact ⟨rfl, rfl, rfl⟩
        · rename_i hgt
          have hp : brkP c a t k = false := by unfold brkP; exact decide_eq_false hgt
          rw [fk1_step _ _ _ hp] at hbt
          refine ⟨(k + 1, top, _), ⟨⟨by simp only []; omega, by simp only []; omega, by rw [hbt]; congr 1; simp only []; omega⟩, ht, ?_⟩, by simp only []; omega, weakS ?_ ?_⟩
          rotate_left
          · simp [SubFr, Go.Sx.look]
          · exact SubHp.refl _
          · simp only []; omega
    · have hk3 : a.m - t + 1 - k = 0 := by omega
      rw [hk3] at hbt
      rw [brkF_miss hbt] at hb
      (repeat' (first | with_reducible refine splitVC_d (fun _ => ?_) (fun _ => ?_) | ((with_reducible refine And.intro ?_ ?_); focus (first | trivial | (simp only [InK]; omega) | omega | (simp only [InK, ne_eq, and_true, true_and]; omega))) | simp -dsimp only [↓RP, RQ0, RQ1, RQ2, RQ3, implies_true, forall_const, Nat.reduceMul, reduceIte, reduceCtorEq, Nat.reduceAdd, Nat.reduceEqDiff, Nat.reduceLT, Nat.reduceLeDiff, eTK, NB, I, B, Nat.add_zero, Nat.add_assoc, TY, Int.toNat_natCast, Go.Proofs.Try.results29]))
      all_goals first | (exfalso; omega) | skip
      refine ⟨(t + 1, top, _), ⟨by simp only []; omega, htop, ?_, hb⟩, by simp only []; omega, weakS ?_ ?_⟩
      rotate_left
      · simp [SubFr, Go.Sx.look]
      · exact SubHp.refl _
      · simp only []; omega
  · have hte : t = a.m := by omega
    subst hte
    rw [Nat.sub_self] at hb
    have e1 : brkV (brkF c a 0 a.m) = (0, 0, 5) := by rw [hb]; rfl
    rw [e1]
    (repeat' (first | with_reducible refine splitVC_d (fun _ => ?_) (fun _ => ?_) | ((with_reducible refine And.intro ?_ ?_); focus (first | trivial | (simp only [InK]; omega) | omega | (simp only [InK, ne_eq, and_true, true_and]; omega))) | simp -dsimp only [↓RP, RQ0, RQ1, RQ2, RQ3, implies_true, forall_const, Nat.reduceMul, reduceIte, reduceCtorEq, Nat.reduceAdd, Nat.reduceEqDiff, Nat.reduceLT, Nat.reduceLeDiff, NB, I, B, Nat.add_zero, Nat.add_assoc, TY, Int.toNat_natCast, Go.Proofs.Try.results29]))
    all_goals first | (exfalso; omega) | (rename_i hq; exact absurd trivial hq) | skip
end Go.Lg
end
section
set_option linter.unusedSimpArgs false
set_option linter.unusedVariables false
set_option maxRecDepth 100000
set_option maxHeartbeats 4000000
namespace Go.Lg
open Go.Sx
abbrev nilS : SV := .val (.slice none 0 0)
def cameE (c : Curve) (t : Int) : Int := if c.err = 0 then (if 0 ≤ t ∧ t ≤ 60 then 0 else 3) else c.err
theorem cameE_err {c : Curve} {t : Int} (h : ¬ c.err = 0) : cameE c t = c.err := by unfold cameE; rw [if_neg h]
theorem cameE_rg {c : Curve} {t : Int} (h : c.err = 0) (h2 : ¬ (0 ≤ t ∧ t ≤ 60)) : cameE c t = 3 := by unfold cameE; rw [if_pos h, if_neg h2]
theorem cameE_ok {c : Curve} {t : Int} (h : cameE c t = 0) : c.Fine ∧ 0 ≤ t ∧ t ≤ 60 := by
  unfold cameE at h
  split at h
  · rename_i he
    split at h
    · rename_i ht; exact ⟨Curve.fine he, ht.1, ht.2⟩
    · contradiction
  · contradiction
theorem c31e (c : Curve) (hm : c.m ≤ 1000000) (t : Int) (h : cameE c t ≠ 0) : Contract Go.Proofs.Try.prog 31 [c.sv, I t] (.tup [nilS, I (cameE c t)]) := by
  refine contract_of Go.Proofs.Try.func31 rfl (by kernel_rfl) follows (by kernel_rfl) _ _ (by rw [Go.Proofs.Try.ntmps31]; simp) (by simp [OldL, c.old]; simp [Old, I]) ?_
  unfold I
  conv => arg 4; unfold Curve.sv ints
  (repeat' (first | with_reducible refine splitVC_d (fun _ => ?_) (fun _ => ?_) | ((with_reducible refine And.intro ?_ ?_); focus (first | trivial | (simp only [InK]; omega) | omega | (simp only [InK, ne_eq, and_true, true_and]; omega))) | simp -dsimp only [↓RP, RQ0, RQ1, RQ2, RQ3, implies_true, forall_const, Nat.reduceMul, reduceIte, reduceCtorEq, Nat.reduceAdd, Nat.reduceEqDiff, Nat.reduceLT, Nat.reduceLeDiff, TY, Go.Proofs.Try.results31]))
  refine callVC (c26 c hm) (by (simp -dsimp only [↓RP, RQ0, RQ1, RQ2, RQ3, implies_true, forall_const, Nat.reduceMul, reduceIte, reduceCtorEq, Nat.reduceAdd, Nat.reduceEqDiff, Nat.reduceLT, Nat.reduceLeDiff, Curve.sv, ints, I]); all_goals simp) (by (simp -dsimp only [↓RP, RQ0, RQ1, RQ2, RQ3, implies_true, forall_const, Nat.reduceMul, reduceIte, reduceCtorEq, Nat.reduceAdd, Nat.reduceEqDiff, Nat.reduceLT, Nat.reduceLeDiff, I])) ?_
  (repeat' (first | with_reducible refine splitVC_d (fun _ => ?_) (fun _ => ?_) | ((with_reducible refine And.intro ?_ ?_); focus (first | trivial | (simp only [InK]; omega) | omega | (simp only [InK, ne_eq, and_true, true_and]; omega))) | simp -dsimp only [↓RP, RQ0, RQ1, RQ2, RQ3, implies_true, forall_const, Nat.reduceMul, reduceIte, reduceCtorEq, Nat.reduceAdd, Nat.reduceEqDiff, Nat.reduceLT, Nat.reduceLeDiff, I, TY, Go.Proofs.Try.results31]))
  rotate_left
  · rename_i he
    rw [cameE_err he]
  rename_i he
  refine callVC (c62_1 t 0 60) (by (simp -dsimp only [↓RP, RQ0, RQ1, RQ2, RQ3, implies_true, forall_const, Nat.reduceMul, reduceIte, reduceCtorEq, Nat.reduceAdd, Nat.reduceEqDiff, Nat.reduceLT, Nat.reduceLeDiff, ints, I]); all_goals simp) (by (simp -dsimp only [↓RP, RQ0, RQ1, RQ2, RQ3, implies_true, forall_const, Nat.reduceMul, reduceIte, reduceCtorEq, Nat.reduceAdd, Nat.reduceEqDiff, Nat.reduceLT, Nat.reduceLeDiff, B])) ?_
  (repeat' (first | with_reducible refine splitVC_d (fun _ => ?_) (fun _ => ?_) | ((with_reducible refine And.intro ?_ ?_); focus (first | trivial | (simp only [InK]; omega) | omega | (simp only [InK, ne_eq, and_true, true_and]; omega))) | simp -dsimp only [↓RP, RQ0, RQ1, RQ2, RQ3, implies_true, forall_const, Nat.reduceMul, reduceIte, reduceCtorEq, Nat.reduceAdd, Nat.reduceEqDiff, Nat.reduceLT, Nat.reduceLeDiff, B, TY, Go.Proofs.Try.results31]))
  · rename_i ht
    exact absurd (by unfold cameE; rw [if_pos he, if_pos ht]) h
  · rename_i ht
    rw [cameE_rg he ht]
theorem sub_rot {i g b m : Nat} {X Y B M : Blk} (h1 : i ≠ b) (h2 : i ≠ m) (h3 : g ≠ b) (h4 : g ≠ m) : SubHp ((i, X) :: (g, Y) :: (b, B) :: (m, M) :: []) ((b, B) :: (m, M) :: (i, X) :: []) := fun k x hx => by
  simp only [blk] at hx ⊢
  by_cases e1 : k = b
  · subst e1
    rw [if_pos rfl] at hx
    rw [if_neg (Ne.symm h1), if_neg (Ne.symm h3), if_pos rfl]; exact hx
  · rw [if_neg e1] at hx
    by_cases e2 : k = m
    · subst e2
      rw [if_pos rfl] at hx
      rw [if_neg (Ne.symm h2), if_neg (Ne.symm h4), if_neg e1, if_pos rfl]; exact hx
    · rw [if_neg e2] at hx
      by_cases e3 : k = i
      · rw [if_pos e3] at hx ⊢; exact hx
      · rw [if_neg e3] at hx; cases hx
def c31inv (c : Curve) (T bid mid : Nat) : Nat × Nat × Nat × Nat → St
  | (0, top, nid, _) => ⟨[(7, .ptr bid 0), (8, nilS), (24, .val (.int .i64 ((T : Int) + 1))), (25, .val (.int .i64 0))], (bid, bdC c mid true top) :: (mid, bdM c top) :: [], nid⟩
  | (t + 1, top, nid, ia) => ⟨[(7, .ptr bid 0), (8, .vec ia (t + 1) 1), (24, .val (.int .i64 ((T : Int) + 1))), (25, .val (.int .i64 ((t + 1 : Nat) : Int)))], (bid, bdC c mid true top) :: (mid, bdM c top) :: (ia, rowB (t + 1) c.M) :: [], nid⟩
theorem c31 (c : Curve) (h : c.Fine) (T : Nat) (hT : T ≤ 60) : ContractN Go.Proofs.Try.prog 31 [c.sv, I T] (.rows 2 1 T (fun j _ => I (c.M (j + 1) - c.M j))) (.tup [.vec 0 T 1, I 0]) := by
  refine contractN_of Go.Proofs.Try.func31 rfl (by kernel_rfl) follows (by kernel_rfl) _ _ _ (by rw [Go.Proofs.Try.ntmps31]; simp) (by simp [OldL, c.old]; simp [Old, I]) ?_
  unfold I
  have he := Curve.err_fine h
  have hM := M_bound h
  have hm := h.m6
  conv => arg 4; unfold Curve.sv ints
  (repeat' (first | with_reducible refine splitVC_d (fun _ => ?_) (fun _ => ?_) | ((with_reducible refine And.intro ?_ ?_); focus (first | trivial | (simp only [InK]; omega) | omega | (simp only [InK, ne_eq, and_true, true_and]; omega))) | simp -dsimp only [↓RP, RQ0, RQ1, RQ2, RQ3, implies_true, forall_const, Nat.reduceMul, reduceIte, reduceCtorEq, Nat.reduceAdd, Nat.reduceEqDiff, Nat.reduceLT, Nat.reduceLeDiff, TY, Go.Proofs.Try.results31]))
  refine callVC (c26 c (by omega)) (by (simp -dsimp only [↓RP, RQ0, RQ1, RQ2, RQ3, implies_true, forall_const, Nat.reduceMul, reduceIte, reduceCtorEq, Nat.reduceAdd, Nat.reduceEqDiff, Nat.reduceLT, Nat.reduceLeDiff, Curve.sv, ints, I]); all_goals simp) (by (simp -dsimp only [↓RP, RQ0, RQ1, RQ2, RQ3, implies_true, forall_const, Nat.reduceMul, reduceIte, reduceCtorEq, Nat.reduceAdd, Nat.reduceEqDiff, Nat.reduceLT, Nat.reduceLeDiff, I])) ?_
  (repeat' (first | with_reducible refine splitVC_d (fun _ => ?_) (fun _ => ?_) | ((with_reducible refine And.intro ?_ ?_); focus (first | trivial | (simp only [InK]; omega) | omega | (simp only [InK, ne_eq, and_true, true_and]; omega))) | simp -dsimp only [↓RP, RQ0, RQ1, RQ2, RQ3, implies_true, forall_const, Nat.reduceMul, reduceIte, reduceCtorEq, Nat.reduceAdd, Nat.reduceEqDiff, Nat.reduceLT, Nat.reduceLeDiff, I, he, decide_true, Bool.not_true, TY, Go.Proofs.Try.results31]))
  refine callVC (c62_1 T 0 60) (by (simp -dsimp only [↓RP, RQ0, RQ1, RQ2, RQ3, implies_true, forall_const, Nat.reduceMul, reduceIte, reduceCtorEq, Nat.reduceAdd, Nat.reduceEqDiff, Nat.reduceLT, Nat.reduceLeDiff, ints, I]); all_goals simp) (by (simp -dsimp only [↓RP, RQ0, RQ1, RQ2, RQ3, implies_true, forall_const, Nat.reduceMul, reduceIte, reduceCtorEq, Nat.reduceAdd, Nat.reduceEqDiff, Nat.reduceLT, Nat.reduceLeDiff, B])) ?_
  (repeat' (first | with_reducible refine splitVC_d (fun _ => ?_) (fun _ => ?_) | ((with_reducible refine And.intro ?_ ?_); focus (first | trivial | (simp only [InK]; omega) | omega | (simp only [InK, ne_eq, and_true, true_and]; omega))) | simp -dsimp only [↓RP, RQ0, RQ1, RQ2, RQ3, implies_true, forall_const, Nat.reduceMul, reduceIte, reduceCtorEq, Nat.reduceAdd, Nat.reduceEqDiff, Nat.reduceLT, Nat.reduceLeDiff, B, TY, Go.Proofs.Try.results31]))
  all_goals first | (exfalso; omega) | skip
  refine callE (by rfl) (EffVC.sub (hp2 := []) (fun k x hx => by simp [blk] at hx) (e63 c h _)) fun hp' nid0 res ⟨bid, mid, top0, hbm, q2, q3, q4, q5, ht0, q7, q8⟩ => ?_
  subst q7 q8
  (repeat' (first | with_reducible refine splitVC_d (fun _ => ?_) (fun _ => ?_) | ((with_reducible refine And.intro ?_ ?_); focus (first | trivial | (simp only [InK]; omega) | omega | (simp only [InK, ne_eq, and_true, true_and]; omega))) | simp -dsimp only [↓RP, RQ0, RQ1, RQ2, RQ3, implies_true, forall_const, Nat.reduceMul, reduceIte, reduceCtorEq, Nat.reduceAdd, Nat.reduceEqDiff, Nat.reduceLT, Nat.reduceLeDiff, TY, Go.Proofs.Try.results31]))
  all_goals first | (exfalso; omega) | skip
  refine loop_vc (fun (x : Nat × Nat × Nat × Nat) => x.1 ≤ T + 1 ∧ x.2.1 ≤ 400 ∧ nid0 ≤ x.2.2.1 ∧ (0 < x.1 → x.2.2.2 ≠ bid ∧ x.2.2.2 ≠ mid ∧ x.2.2.2 < x.2.2.1)) (c31inv c T bid mid) (fun x => T + 1 - x.1) (0, top0, _, 0) ⟨Nat.zero_le _, ht0, ?_, fun h => absurd h (Nat.lt_irrefl 0)⟩ (weakS ?_ ?_) fun x hx => ?_
  rotate_left
  · simp [SubFr, Go.Sx.look]
  · exact SubHp.refl _
  rotate_left
  · simp only []; omega
  obtain ⟨t, top, nid, ia⟩ := x
  obtain ⟨ht, htop, hn, hia⟩ := hx
  replace ht : t ≤ T + 1 := ht
  replace htop : top ≤ 400 := htop
  replace hn : nid0 ≤ nid := hn
  replace hia : 0 < t → ia ≠ bid ∧ ia ≠ mid ∧ ia < nid := hia
  by_cases hlt : t < T + 1
  · cases t with
    | zero =>
      simp only [c31inv]
      have NB := names2 (a := bid) (b := mid) (n := nid) hbm (by omega) (by omega)
      (repeat' (first | with_reducible refine splitVC_d (fun _ => ?_) (fun _ => ?_) | ((with_reducible refine And.intro ?_ ?_); focus (first | trivial | (simp only [InK]; omega) | omega | (simp only [InK, ne_eq, and_true, true_and]; omega))) | simp -dsimp only [↓RP, RQ0, RQ1, RQ2, RQ3, implies_true, forall_const, Nat.reduceMul, reduceIte, reduceCtorEq, Nat.reduceAdd, Nat.reduceEqDiff, Nat.reduceLT, Nat.reduceLeDiff, NB, I, TY, Int.toNat_natCast, Nat.add_zero, Nat.add_assoc, Go.Proofs.Try.results31]))
      all_goals first | (exfalso; omega) | skip
      refine callE (by rfl) (e64 c h true top 0 htop (by omega) bid mid _ [] hbm (by omega) (by omega) Under.nil) fun hp' nid' res ⟨top', ht', r1, hn', r2⟩ => ?_
      subst r1 r2
      have NB2 := names2 (a := bid) (b := mid) (n := nid') hbm (by omega) (by omega)
      (repeat' (first | with_reducible refine splitVC_d (fun _ => ?_) (fun _ => ?_) | ((with_reducible refine And.intro ?_ ?_); focus (first | trivial | (simp only [InK]; omega) | omega | (simp only [InK, ne_eq, and_true, true_and]; omega))) | simp -dsimp only [↓RP, RQ0, RQ1, RQ2, RQ3, implies_true, forall_const, Nat.reduceMul, reduceIte, reduceCtorEq, Nat.reduceAdd, Nat.reduceEqDiff, Nat.reduceLT, Nat.reduceLeDiff, NB2, by2, self_F1, self_F2, I, TY, Int.toNat_natCast, Nat.add_zero, Nat.add_assoc, Go.Proofs.Try.results31]))
      all_goals first | (exfalso; omega) | skip
      refine ⟨(1, top', _, nid' + 5), ⟨by simp only []; omega, ht', ?_, ?_⟩, by simp only []; omega, Weak.trans (weakR (id := nid' + 5) (row' := fun j _ => .val (.int .i64 (c.M j))) (blk_head _ _ _) ?_) (weakS ?_ ?_)⟩
      rotate_left 2
      · intro i j hi hj
        have : i = 0 := by omega
        subst this
        rw [lit1 _ 0 j (by omega) hj]
      · simp [SubFr, Go.Sx.look]
      · (simp -dsimp only [↓RP, RQ0, RQ1, RQ2, RQ3, implies_true, forall_const, Nat.reduceMul, reduceIte, reduceCtorEq, Nat.reduceAdd, Nat.reduceEqDiff, Nat.reduceLT, Nat.reduceLeDiff, self_F1, self_F2])
        exact sub_rot (by omega) (by omega) (by omega) (by omega)
      · simp only []; omega
      · simp only []; omega
    | succ t =>
      obtain ⟨i1, i2, i3⟩ := hia (by omega)
      simp only [c31inv]
      have NB := names3 (a := bid) (b := mid) (c := ia) (n := nid) hbm (Ne.symm i1) (Ne.symm i2) (by omega) (by omega) (by omega)
      (repeat' (first | with_reducible refine splitVC_d (fun _ => ?_) (fun _ => ?_) | ((with_reducible refine And.intro ?_ ?_); focus (first | trivial | (simp only [InK]; omega) | omega | (simp only [InK, ne_eq, and_true, true_and]; omega))) | simp -dsimp only [↓RP, RQ0, RQ1, RQ2, RQ3, implies_true, forall_const, Nat.reduceMul, reduceIte, reduceCtorEq, Nat.reduceAdd, Nat.reduceEqDiff, Nat.reduceLT, Nat.reduceLeDiff, NB, I, TY, Int.toNat_natCast, Nat.add_zero, Nat.add_assoc, Go.Proofs.Try.results31]))
      all_goals first | (exfalso; omega) | skip
      refine callE (by rfl) (e64 c h true top (t + 1) htop (by omega) bid mid _ [(ia, rowB (t + 1) c.M)] hbm (by omega) (by omega) (Under.nil.cons (by omega))) fun hp' nid' res ⟨top', ht', r1, hn', r2⟩ => ?_
      subst r1 r2
      have NB2 := names3 (a := bid) (b := mid) (c := ia) (n := nid') hbm (Ne.symm i1) (Ne.symm i2) (by omega) (by omega) (by omega)
      have m1 := hM (t + 1)
      (repeat' (first | with_reducible refine splitVC_d (fun _ => ?_) (fun _ => ?_) | ((with_reducible refine And.intro ?_ ?_); focus (first | trivial | (simp only [InK]; omega) | omega | (simp only [InK, ne_eq, and_true, true_and]; omega))) | simp -dsimp only [↓RP, RQ0, RQ1, RQ2, RQ3, implies_true, forall_const, Nat.reduceMul, reduceIte, reduceCtorEq, Nat.reduceAdd, Nat.reduceEqDiff, Nat.reduceLT, Nat.reduceLeDiff, NB2, by2, self_F1, self_F2, I, TY, Int.toNat_natCast, Nat.add_zero, Nat.add_assoc, Go.Proofs.Try.results31]))
      all_goals first | (exfalso; omega) | skip
      refine ⟨⟨.inr trivial, Nat.le_refl _, fun a b ha hb => by rw [lit1 _ a b ha hb]; rfl, by omega⟩, by (first | trivial | (simp only [InK]; omega) | omega | (simp only [InK, ne_eq, and_true, true_and]; omega)), ?_⟩
      refine ⟨(t + 2, top', _, nid' + 5), ⟨by simp only []; omega, ht', ?_, ?_⟩, by simp only []; omega, Weak.trans (weakR (id := nid' + 5) (row' := fun j _ => .val (.int .i64 (c.M j))) (blk_head _ _ _) ?_) (weakS ?_ ?_)⟩
      rotate_left 2
      · intro i j hi hj
        have j0 : j = 0 := by omega
        subst j0
        by_cases e : i < t + 1
        · rw [if_pos e]
        · rw [if_neg e]
          have : i = t + 1 := by omega
          subst this
          rw [Nat.sub_self]; rfl
      · simp [SubFr, Go.Sx.look]
      · (simp -dsimp only [↓RP, RQ0, RQ1, RQ2, RQ3, implies_true, forall_const, Nat.reduceMul, reduceIte, reduceCtorEq, Nat.reduceAdd, Nat.reduceEqDiff, Nat.reduceLT, Nat.reduceLeDiff, self_F1, self_F2])
        exact sub_rot (by omega) (by omega) (by omega) (by omega)
      · simp only []; omega
      · simp only []; omega
  · have hte : t = T + 1 := by omega
    subst hte
    obtain ⟨i1, i2, i3⟩ := hia (by omega)
    simp only [c31inv]
    have NB := names3 (a := bid) (b := mid) (c := ia) (n := nid) hbm (Ne.symm i1) (Ne.symm i2) (by omega) (by omega) (by omega)
    (repeat' (first | with_reducible refine splitVC_d (fun _ => ?_) (fun _ => ?_) | ((with_reducible refine And.intro ?_ ?_); focus (first | trivial | (simp only [InK]; omega) | omega | (simp only [InK, ne_eq, and_true, true_and]; omega))) | simp -dsimp only [↓RP, RQ0, RQ1, RQ2, RQ3, implies_true, forall_const, Nat.reduceMul, reduceIte, reduceCtorEq, Nat.reduceAdd, Nat.reduceEqDiff, Nat.reduceLT, Nat.reduceLeDiff, NB, I, TY, Int.toNat_natCast, Nat.add_zero, Nat.add_assoc, Go.Proofs.Try.results31]))
    all_goals first | (exfalso; omega) | skip
    refine callN (c73 (T + 1) c.M (by omega) (fun i hi => by have := hM i; omega)) (by (simp -dsimp only [↓RP, RQ0, RQ1, RQ2, RQ3, implies_true, forall_const, Nat.reduceMul, reduceIte, reduceCtorEq, Nat.reduceAdd, Nat.reduceEqDiff, Nat.reduceLT, Nat.reduceLeDiff, ints, I, NB]); all_goals simp) (by (simp -dsimp only [↓RP, RQ0, RQ1, RQ2, RQ3, implies_true, forall_const, Nat.reduceMul, reduceIte, reduceCtorEq, Nat.reduceAdd, Nat.reduceEqDiff, Nat.reduceLT, Nat.reduceLeDiff, I]); all_goals simp) (by (simp -dsimp only [↓RP, RQ0, RQ1, RQ2, RQ3, implies_true, forall_const, Nat.reduceMul, reduceIte, reduceCtorEq, Nat.reduceAdd, Nat.reduceEqDiff, Nat.reduceLT, Nat.reduceLeDiff, I]); all_goals simp) ?_
    (repeat' (first | with_reducible refine splitVC_d (fun _ => ?_) (fun _ => ?_) | ((with_reducible refine And.intro ?_ ?_); focus (first | trivial | (simp only [InK]; omega) | omega | (simp only [InK, ne_eq, and_true, true_and]; omega))) | simp -dsimp only [↓RP, RQ0, RQ1, RQ2, RQ3, implies_true, forall_const, Nat.reduceMul, reduceIte, reduceCtorEq, Nat.reduceAdd, Nat.reduceEqDiff, Nat.reduceLT, Nat.reduceLeDiff, NB, I, TY, Int.toNat_natCast, Nat.add_zero, Nat.add_assoc, Nat.add_sub_cancel, Go.Proofs.Try.results31]))
    refine ⟨nid + 2, _, blk_head _ _ _, ?_, ?_⟩
    · (simp -dsimp only [↓RP, RQ0, RQ1, RQ2, RQ3, implies_true, forall_const, Nat.reduceMul, reduceIte, reduceCtorEq, Nat.reduceAdd, Nat.reduceEqDiff, Nat.reduceLT, Nat.reduceLeDiff]); all_goals (try simp)
    · (simp -dsimp only [↓RP, RQ0, RQ1, RQ2, RQ3, implies_true, forall_const, Nat.reduceMul, reduceIte, reduceCtorEq, Nat.reduceAdd, Nat.reduceEqDiff, Nat.reduceLT, Nat.reduceLeDiff])
end Go.Lg
end
section
set_option linter.unusedSimpArgs false
set_option linter.unusedVariables false
set_option maxRecDepth 100000
set_option maxHeartbeats 4000000
namespace Go.Lg
open Go.Sx
def addedE (c a : Curve) : Int := if c.err = 0 then a.rErr else c.err
theorem addedE_err {c a : Curve} (h : ¬ c.err = 0) : addedE c a = c.err := by unfold addedE; rw [if_neg h]
theorem addedE_row {c a : Curve} (h : c.err = 0) : addedE c a = a.rErr := by unfold addedE; rw [if_pos h]
theorem addedE_ok {c a : Curve} (h : addedE c a = 0) : c.Fine ∧ Row a := by
  unfold addedE at h
  split at h
  · rename_i he; exact ⟨Curve.fine he, rErr_row h⟩
  · contradiction
def addS (c a : Curve) (t : Nat) : Int := lz a.S c.L1 t
theorem addS_bound {c a : Curve} (hc : c.Fine) (ha : Row a) (t : Nat) (ht : t < a.m + 1) : 0 ≤ addS c a t ∧ addS c a t ≤ 1000000000 := by
  have h60 := ha.m60
  exact lzTo_bound a.S c.L1 (a.m + 1) t ht (fun i hi => by have := S_bound ha i (by omega); omega) (fun i hi => by have := L1_bound c hc i (by omega); omega) t (Nat.le_refl _)
theorem c34e (c a : Curve) (hm : c.m ≤ 1000000) (hm2 : a.m ≤ 1000000) (h : addedE c a ≠ 0) : Contract Go.Proofs.Try.prog 34 [c.sv, a.sv] (.tup [nilS, I (addedE c a)]) := by
  refine contract_of Go.Proofs.Try.func34 rfl (by kernel_rfl) follows (by kernel_rfl) _ _ (by rw [Go.Proofs.Try.ntmps34]; simp) (by simp [OldL, c.old, a.old]) ?_
  unfold I
  conv => arg 4; unfold Curve.sv ints
  (repeat' (first | with_reducible refine splitVC_d (fun _ => ?_) (fun _ => ?_) | ((with_reducible refine And.intro ?_ ?_); focus (first | trivial | (simp only [InK]; omega) | omega | (simp only [InK, ne_eq, and_true, true_and]; omega))) | simp -dsimp only [↓RP, RQ0, RQ1, RQ2, RQ3, implies_true, forall_const, Nat.reduceMul, reduceIte, reduceCtorEq, Nat.reduceAdd, Nat.reduceEqDiff, Nat.reduceLT, Nat.reduceLeDiff, TY, Go.Proofs.Try.results34]))
  refine callVC (c26 c hm) (by (simp -dsimp only [↓RP, RQ0, RQ1, RQ2, RQ3, implies_true, forall_const, Nat.reduceMul, reduceIte, reduceCtorEq, Nat.reduceAdd, Nat.reduceEqDiff, Nat.reduceLT, Nat.reduceLeDiff, Curve.sv, ints, I]); all_goals simp) (by (simp -dsimp only [↓RP, RQ0, RQ1, RQ2, RQ3, implies_true, forall_const, Nat.reduceMul, reduceIte, reduceCtorEq, Nat.reduceAdd, Nat.reduceEqDiff, Nat.reduceLT, Nat.reduceLeDiff, I])) ?_
  (repeat' (first | with_reducible refine splitVC_d (fun _ => ?_) (fun _ => ?_) | ((with_reducible refine And.intro ?_ ?_); focus (first | trivial | (simp only [InK]; omega) | omega | (simp only [InK, ne_eq, and_true, true_and]; omega))) | simp -dsimp only [↓RP, RQ0, RQ1, RQ2, RQ3, implies_true, forall_const, Nat.reduceMul, reduceIte, reduceCtorEq, Nat.reduceAdd, Nat.reduceEqDiff, Nat.reduceLT, Nat.reduceLeDiff, I, TY, Go.Proofs.Try.results34]))
  rotate_left
  · rename_i he
    rw [addedE_err he]
  rename_i he
  rw [addedE_row he] at h ⊢
  refine callVC (c70 1 (fun _ => a) (by omega) (fun i hi => hm2)) ?_ (by (simp -dsimp only [↓RP, RQ0, RQ1, RQ2, RQ3, implies_true, forall_const, Nat.reduceMul, reduceIte, reduceCtorEq, Nat.reduceAdd, Nat.reduceEqDiff, Nat.reduceLT, Nat.reduceLeDiff, I])) ?_
  · (simp -dsimp only [↓RP, RQ0, RQ1, RQ2, RQ3, implies_true, forall_const, Nat.reduceMul, reduceIte, reduceCtorEq, Nat.reduceAdd, Nat.reduceEqDiff, Nat.reduceLT, Nat.reduceLeDiff, chn])
    intro i j hi hj
    rw [lit1 _ i j hi hj]
    exact sub_refl _ a.old
  rw [fstR_one]
  (repeat' (first | with_reducible refine splitVC_d (fun _ => ?_) (fun _ => ?_) | ((with_reducible refine And.intro ?_ ?_); focus (first | trivial | (simp only [InK]; omega) | omega | (simp only [InK, ne_eq, and_true, true_and]; omega))) | simp -dsimp only [↓RP, RQ0, RQ1, RQ2, RQ3, implies_true, forall_const, Nat.reduceMul, reduceIte, reduceCtorEq, Nat.reduceAdd, Nat.reduceEqDiff, Nat.reduceLT, Nat.reduceLeDiff, I, TY, Go.Proofs.Try.results34]))
  rename_i hr
  exact absurd hr h
theorem c34 (c a : Curve) (hc : c.Fine) (ha : Row a) : ContractN Go.Proofs.Try.prog 34 [c.sv, a.sv] (.rows 2 1 a.m (fun j _ => I (addS c a (j + 1) - addS c a j))) (.tup [.vec 0 a.m 1, I 0]) := by
  refine contractN_of Go.Proofs.Try.func34 rfl (by kernel_rfl) follows (by kernel_rfl) _ _ _ (by rw [Go.Proofs.Try.ntmps34]; simp) (by simp [OldL, c.old, a.old]) ?_
  unfold I
  have he := Curve.err_fine hc
  have hr := row_rErr ha
  have hm := hc.m6
  have a60 := ha.m60
  conv => arg 4; unfold Curve.sv ints
  (repeat' (first | with_reducible refine splitVC_d (fun _ => ?_) (fun _ => ?_) | ((with_reducible refine And.intro ?_ ?_); focus (first | trivial | (simp only [InK]; omega) | omega | (simp only [InK, ne_eq, and_true, true_and]; omega))) | simp -dsimp only [↓RP, RQ0, RQ1, RQ2, RQ3, implies_true, forall_const, Nat.reduceMul, reduceIte, reduceCtorEq, Nat.reduceAdd, Nat.reduceEqDiff, Nat.reduceLT, Nat.reduceLeDiff, TY, Go.Proofs.Try.results34]))
  refine callVC (c26 c (by omega)) (by (simp -dsimp only [↓RP, RQ0, RQ1, RQ2, RQ3, implies_true, forall_const, Nat.reduceMul, reduceIte, reduceCtorEq, Nat.reduceAdd, Nat.reduceEqDiff, Nat.reduceLT, Nat.reduceLeDiff, Curve.sv, ints, I]); all_goals simp) (by (simp -dsimp only [↓RP, RQ0, RQ1, RQ2, RQ3, implies_true, forall_const, Nat.reduceMul, reduceIte, reduceCtorEq, Nat.reduceAdd, Nat.reduceEqDiff, Nat.reduceLT, Nat.reduceLeDiff, I])) ?_
  (repeat' (first | with_reducible refine splitVC_d (fun _ => ?_) (fun _ => ?_) | ((with_reducible refine And.intro ?_ ?_); focus (first | trivial | (simp only [InK]; omega) | omega | (simp only [InK, ne_eq, and_true, true_and]; omega))) | simp -dsimp only [↓RP, RQ0, RQ1, RQ2, RQ3, implies_true, forall_const, Nat.reduceMul, reduceIte, reduceCtorEq, Nat.reduceAdd, Nat.reduceEqDiff, Nat.reduceLT, Nat.reduceLeDiff, I, he, decide_true, Bool.not_true, TY, Go.Proofs.Try.results34]))
  refine callVC (c70 1 (fun _ => a) (by omega) (fun i hi => by omega)) ?_ (by (simp -dsimp only [↓RP, RQ0, RQ1, RQ2, RQ3, implies_true, forall_const, Nat.reduceMul, reduceIte, reduceCtorEq, Nat.reduceAdd, Nat.reduceEqDiff, Nat.reduceLT, Nat.reduceLeDiff, I])) ?_
  · (simp -dsimp only [↓RP, RQ0, RQ1, RQ2, RQ3, implies_true, forall_const, Nat.reduceMul, reduceIte, reduceCtorEq, Nat.reduceAdd, Nat.reduceEqDiff, Nat.reduceLT, Nat.reduceLeDiff, chn])
    intro i j hi hj
    rw [lit1 _ i j hi hj]
    exact sub_refl _ a.old
  rw [fstR_one]
  (repeat' (first | with_reducible refine splitVC_d (fun _ => ?_) (fun _ => ?_) | ((with_reducible refine And.intro ?_ ?_); focus (first | trivial | (simp only [InK]; omega) | omega | (simp only [InK, ne_eq, and_true, true_and]; omega))) | simp -dsimp only [↓RP, RQ0, RQ1, RQ2, RQ3, implies_true, forall_const, Nat.reduceMul, reduceIte, reduceCtorEq, Nat.reduceAdd, Nat.reduceEqDiff, Nat.reduceLT, Nat.reduceLeDiff, I, hr, decide_true, Bool.not_true, TY, Go.Proofs.Try.results34]))
  refine callN_old (c71 a (by omega) (fun i hi => by have := ha.rg i hi; omega)) (by (simp -dsimp only [↓RP, RQ0, RQ1, RQ2, RQ3, implies_true, forall_const, Nat.reduceMul, reduceIte, reduceCtorEq, Nat.reduceAdd, Nat.reduceEqDiff, Nat.reduceLT, Nat.reduceLeDiff, Curve.sv, ints, I]); all_goals simp) (by (simp -dsimp only [↓RP, RQ0, RQ1, RQ2, RQ3, implies_true, forall_const, Nat.reduceMul, reduceIte, reduceCtorEq, Nat.reduceAdd, Nat.reduceEqDiff, Nat.reduceLT, Nat.reduceLeDiff, I]); all_goals simp) (by (simp -dsimp only [↓RP, RQ0, RQ1, RQ2, RQ3, implies_true, forall_const, Nat.reduceMul, reduceIte, reduceCtorEq, Nat.reduceAdd, Nat.reduceEqDiff, Nat.reduceLT, Nat.reduceLeDiff, I]); all_goals simp) ?_
  (repeat' (first | with_reducible refine splitVC_d (fun _ => ?_) (fun _ => ?_) | ((with_reducible refine And.intro ?_ ?_); focus (first | trivial | (simp only [InK]; omega) | omega | (simp only [InK, ne_eq, and_true, true_and]; omega))) | simp -dsimp only [↓RP, RQ0, RQ1, RQ2, RQ3, implies_true, forall_const, Nat.reduceMul, reduceIte, reduceCtorEq, Nat.reduceAdd, Nat.reduceEqDiff, Nat.reduceLT, Nat.reduceLeDiff, I, TY, Int.toNat_natCast, Go.Proofs.Try.results34]))
  refine callN (c74 c hc (a.m + 1) a.S (by omega) (fun i hi => by have := S_bound ha i (by omega); omega)) (by (simp -dsimp only [↓RP, RQ0, RQ1, RQ2, RQ3, implies_true, forall_const, Nat.reduceMul, reduceIte, reduceCtorEq, Nat.reduceAdd, Nat.reduceEqDiff, Nat.reduceLT, Nat.reduceLeDiff, Curve.sv, ints, I]); all_goals simp) (by (simp -dsimp only [↓RP, RQ0, RQ1, RQ2, RQ3, implies_true, forall_const, Nat.reduceMul, reduceIte, reduceCtorEq, Nat.reduceAdd, Nat.reduceEqDiff, Nat.reduceLT, Nat.reduceLeDiff, I]); all_goals simp) (by (simp -dsimp only [↓RP, RQ0, RQ1, RQ2, RQ3, implies_true, forall_const, Nat.reduceMul, reduceIte, reduceCtorEq, Nat.reduceAdd, Nat.reduceEqDiff, Nat.reduceLT, Nat.reduceLeDiff, I]); all_goals simp) ?_
  (repeat' (first | with_reducible refine splitVC_d (fun _ => ?_) (fun _ => ?_) | ((with_reducible refine And.intro ?_ ?_); focus (first | trivial | (simp only [InK]; omega) | omega | (simp only [InK, ne_eq, and_true, true_and]; omega))) | simp -dsimp only [↓RP, RQ0, RQ1, RQ2, RQ3, implies_true, forall_const, Nat.reduceMul, reduceIte, reduceCtorEq, Nat.reduceAdd, Nat.reduceEqDiff, Nat.reduceLT, Nat.reduceLeDiff, I, TY, Int.toNat_natCast, Go.Proofs.Try.results34]))
  refine callN (c73 (a.m + 1) (addS c a) (by omega) (fun i hi => addS_bound hc ha i hi)) (by (simp -dsimp only [↓RP, RQ0, RQ1, RQ2, RQ3, implies_true, forall_const, Nat.reduceMul, reduceIte, reduceCtorEq, Nat.reduceAdd, Nat.reduceEqDiff, Nat.reduceLT, Nat.reduceLeDiff, ints, I]); all_goals (try simp); all_goals exact fun _ _ => rfl) (by (simp -dsimp only [↓RP, RQ0, RQ1, RQ2, RQ3, implies_true, forall_const, Nat.reduceMul, reduceIte, reduceCtorEq, Nat.reduceAdd, Nat.reduceEqDiff, Nat.reduceLT, Nat.reduceLeDiff, I]); all_goals simp) (by (simp -dsimp only [↓RP, RQ0, RQ1, RQ2, RQ3, implies_true, forall_const, Nat.reduceMul, reduceIte, reduceCtorEq, Nat.reduceAdd, Nat.reduceEqDiff, Nat.reduceLT, Nat.reduceLeDiff, I]); all_goals simp) ?_
  (repeat' (first | with_reducible refine splitVC_d (fun _ => ?_) (fun _ => ?_) | ((with_reducible refine And.intro ?_ ?_); focus (first | trivial | (simp only [InK]; omega) | omega | (simp only [InK, ne_eq, and_true, true_and]; omega))) | simp -dsimp only [↓RP, RQ0, RQ1, RQ2, RQ3, implies_true, forall_const, Nat.reduceMul, reduceIte, reduceCtorEq, Nat.reduceAdd, Nat.reduceEqDiff, Nat.reduceLT, Nat.reduceLeDiff, I, TY, Int.toNat_natCast, Nat.add_sub_cancel, Go.Proofs.Try.results34]))
  refine ⟨17, _, rfl, ?_, ?_⟩
  · (simp -dsimp only [↓RP, RQ0, RQ1, RQ2, RQ3, implies_true, forall_const, Nat.reduceMul, reduceIte, reduceCtorEq, Nat.reduceAdd, Nat.reduceEqDiff, Nat.reduceLT, Nat.reduceLeDiff]); all_goals (try simp)
  · (simp -dsimp only [↓RP, RQ0, RQ1, RQ2, RQ3, implies_true, forall_const, Nat.reduceMul, reduceIte, reduceCtorEq, Nat.reduceAdd, Nat.reduceEqDiff, Nat.reduceLT, Nat.reduceLeDiff])
def checkAddV (c a d : Curve) : Int := if c.err = 0 then (if rowsV a d = 0 then (if ∀ t, t < a.m + 1 → addS c a t ≤ d.S t then 0 else 18) else rowsV a d) else c.err
theorem rowsV_ok {a d : Curve} (h : rowsV a d = 0) : Row a ∧ Row d ∧ a.m = d.m ∧ notMore a d := by
  unfold rowsV at h
  split at h
  · rename_i h1
    split at h
    · rename_i h2
      split at h
      · rename_i h3
        split at h
        · rename_i h4; exact ⟨rErr_row h1, rErr_row h2, h3, h4⟩
        · contradiction
      · contradiction
    · contradiction
  · contradiction
theorem c39 (c a d : Curve) : Contract Go.Proofs.Try.prog 39 [c.sv, a.sv, d.sv] (I (checkAddV c a d)) := by
  refine contract_of Go.Proofs.Try.func39 rfl (by kernel_rfl) follows (by kernel_rfl) _ _ (by rw [Go.Proofs.Try.ntmps39]; simp) (by simp [OldL, c.old, a.old, d.old]) ?_
  unfold I
  conv => arg 4; unfold Curve.sv ints
  (repeat' (first | with_reducible refine splitVC_d (fun _ => ?_) (fun _ => ?_) | ((with_reducible refine And.intro ?_ ?_); focus (first | trivial | (simp only [InK]; omega) | omega | (simp only [InK, ne_eq, and_true, true_and]; omega))) | simp -dsimp only [↓RP, RQ0, RQ1, RQ2, RQ3, implies_true, forall_const, Nat.reduceMul, reduceIte, reduceCtorEq, Nat.reduceAdd, Nat.reduceEqDiff, Nat.reduceLT, Nat.reduceLeDiff, TY, Go.Proofs.Try.results39]))
  refine callVC (c27 c) (by (simp -dsimp only [↓RP, RQ0, RQ1, RQ2, RQ3, implies_true, forall_const, Nat.reduceMul, reduceIte, reduceCtorEq, Nat.reduceAdd, Nat.reduceEqDiff, Nat.reduceLT, Nat.reduceLeDiff, Curve.sv, ints, I]); all_goals simp) (by (simp -dsimp only [↓RP, RQ0, RQ1, RQ2, RQ3, implies_true, forall_const, Nat.reduceMul, reduceIte, reduceCtorEq, Nat.reduceAdd, Nat.reduceEqDiff, Nat.reduceLT, Nat.reduceLeDiff, I])) ?_
  (repeat' (first | with_reducible refine splitVC_d (fun _ => ?_) (fun _ => ?_) | ((with_reducible refine And.intro ?_ ?_); focus (first | trivial | (simp only [InK]; omega) | omega | (simp only [InK, ne_eq, and_true, true_and]; omega))) | simp -dsimp only [↓RP, RQ0, RQ1, RQ2, RQ3, implies_true, forall_const, Nat.reduceMul, reduceIte, reduceCtorEq, Nat.reduceAdd, Nat.reduceEqDiff, Nat.reduceLT, Nat.reduceLeDiff, I, TY, Go.Proofs.Try.results39]))
  rotate_left
  · rename_i he
    refine callVC (c27 c) (by (simp -dsimp only [↓RP, RQ0, RQ1, RQ2, RQ3, implies_true, forall_const, Nat.reduceMul, reduceIte, reduceCtorEq, Nat.reduceAdd, Nat.reduceEqDiff, Nat.reduceLT, Nat.reduceLeDiff, Curve.sv, ints, I]); all_goals simp) (by (simp -dsimp only [↓RP, RQ0, RQ1, RQ2, RQ3, implies_true, forall_const, Nat.reduceMul, reduceIte, reduceCtorEq, Nat.reduceAdd, Nat.reduceEqDiff, Nat.reduceLT, Nat.reduceLeDiff, I])) ?_
    (repeat' (first | with_reducible refine splitVC_d (fun _ => ?_) (fun _ => ?_) | ((with_reducible refine And.intro ?_ ?_); focus (first | trivial | (simp only [InK]; omega) | omega | (simp only [InK, ne_eq, and_true, true_and]; omega))) | simp -dsimp only [↓RP, RQ0, RQ1, RQ2, RQ3, implies_true, forall_const, Nat.reduceMul, reduceIte, reduceCtorEq, Nat.reduceAdd, Nat.reduceEqDiff, Nat.reduceLT, Nat.reduceLeDiff, I, TY, Go.Proofs.Try.results39]))
    refine I_eq ?_; unfold checkAddV; rw [if_neg he]
  rename_i he
  have hc := Curve.fine he
  refine callVC (c76 a d) (by (simp -dsimp only [↓RP, RQ0, RQ1, RQ2, RQ3, implies_true, forall_const, Nat.reduceMul, reduceIte, reduceCtorEq, Nat.reduceAdd, Nat.reduceEqDiff, Nat.reduceLT, Nat.reduceLeDiff, Curve.sv, ints, I]); all_goals simp) (by (simp -dsimp only [↓RP, RQ0, RQ1, RQ2, RQ3, implies_true, forall_const, Nat.reduceMul, reduceIte, reduceCtorEq, Nat.reduceAdd, Nat.reduceEqDiff, Nat.reduceLT, Nat.reduceLeDiff, I])) ?_
  (repeat' (first | with_reducible refine splitVC_d (fun _ => ?_) (fun _ => ?_) | ((with_reducible refine And.intro ?_ ?_); focus (first | trivial | (simp only [InK]; omega) | omega | (simp only [InK, ne_eq, and_true, true_and]; omega))) | simp -dsimp only [↓RP, RQ0, RQ1, RQ2, RQ3, implies_true, forall_const, Nat.reduceMul, reduceIte, reduceCtorEq, Nat.reduceAdd, Nat.reduceEqDiff, Nat.reduceLT, Nat.reduceLeDiff, I, TY, Go.Proofs.Try.results39]))
  rotate_left
  · rename_i hr
    refine callVC (c76 a d) (by (simp -dsimp only [↓RP, RQ0, RQ1, RQ2, RQ3, implies_true, forall_const, Nat.reduceMul, reduceIte, reduceCtorEq, Nat.reduceAdd, Nat.reduceEqDiff, Nat.reduceLT, Nat.reduceLeDiff, Curve.sv, ints, I]); all_goals simp) (by (simp -dsimp only [↓RP, RQ0, RQ1, RQ2, RQ3, implies_true, forall_const, Nat.reduceMul, reduceIte, reduceCtorEq, Nat.reduceAdd, Nat.reduceEqDiff, Nat.reduceLT, Nat.reduceLeDiff, I])) ?_
    (repeat' (first | with_reducible refine splitVC_d (fun _ => ?_) (fun _ => ?_) | ((with_reducible refine And.intro ?_ ?_); focus (first | trivial | (simp only [InK]; omega) | omega | (simp only [InK, ne_eq, and_true, true_and]; omega))) | simp -dsimp only [↓RP, RQ0, RQ1, RQ2, RQ3, implies_true, forall_const, Nat.reduceMul, reduceIte, reduceCtorEq, Nat.reduceAdd, Nat.reduceEqDiff, Nat.reduceLT, Nat.reduceLeDiff, I, TY, Go.Proofs.Try.results39]))
    refine I_eq ?_; unfold checkAddV; rw [if_pos he, if_neg hr]
  rename_i hr
  have e0 : checkAddV c a d = if ∀ t, t < a.m + 1 → addS c a t ≤ d.S t then 0 else 18 := by unfold checkAddV; rw [if_pos he, if_pos hr]
  rw [e0]
  obtain ⟨ha, hd, hm, hnm⟩ := rowsV_ok hr
  have a60 := ha.m60
  have d60 := hd.m60
  refine callN_old (c52 a (by omega) (fun i hi => by have := ha.rg i hi; omega)) (by (simp -dsimp only [↓RP, RQ0, RQ1, RQ2, RQ3, implies_true, forall_const, Nat.reduceMul, reduceIte, reduceCtorEq, Nat.reduceAdd, Nat.reduceEqDiff, Nat.reduceLT, Nat.reduceLeDiff, Curve.sv, ints, I]); all_goals simp) (by (simp -dsimp only [↓RP, RQ0, RQ1, RQ2, RQ3, implies_true, forall_const, Nat.reduceMul, reduceIte, reduceCtorEq, Nat.reduceAdd, Nat.reduceEqDiff, Nat.reduceLT, Nat.reduceLeDiff, I]); all_goals simp) (by (simp -dsimp only [↓RP, RQ0, RQ1, RQ2, RQ3, implies_true, forall_const, Nat.reduceMul, reduceIte, reduceCtorEq, Nat.reduceAdd, Nat.reduceEqDiff, Nat.reduceLT, Nat.reduceLeDiff, I]); all_goals simp) ?_
  (repeat' (first | with_reducible refine splitVC_d (fun _ => ?_) (fun _ => ?_) | ((with_reducible refine And.intro ?_ ?_); focus (first | trivial | (simp only [InK]; omega) | omega | (simp only [InK, ne_eq, and_true, true_and]; omega))) | simp -dsimp only [↓RP, RQ0, RQ1, RQ2, RQ3, implies_true, forall_const, Nat.reduceMul, reduceIte, reduceCtorEq, Nat.reduceAdd, Nat.reduceEqDiff, Nat.reduceLT, Nat.reduceLeDiff, I, TY, Int.toNat_natCast, Go.Proofs.Try.results39]))
  refine callN (c58 1 (fun _ => c) (Nat.le_refl _) (by omega) (fun i hi => hc) a.m (by omega)) ?_ (by (simp -dsimp only [↓RP, RQ0, RQ1, RQ2, RQ3, implies_true, forall_const, Nat.reduceMul, reduceIte, reduceCtorEq, Nat.reduceAdd, Nat.reduceEqDiff, Nat.reduceLT, Nat.reduceLeDiff, I]); all_goals simp) (by (simp -dsimp only [↓RP, RQ0, RQ1, RQ2, RQ3, implies_true, forall_const, Nat.reduceMul, reduceIte, reduceCtorEq, Nat.reduceAdd, Nat.reduceEqDiff, Nat.reduceLT, Nat.reduceLeDiff, I]); all_goals simp) ?_
  · (simp -dsimp only [↓RP, RQ0, RQ1, RQ2, RQ3, implies_true, forall_const, Nat.reduceMul, reduceIte, reduceCtorEq, Nat.reduceAdd, Nat.reduceEqDiff, Nat.reduceLT, Nat.reduceLeDiff, chn, I])
    intro i j hi hj
    rw [lit1 _ i j hi hj]
    exact sub_refl _ c.old
  (repeat' (first | with_reducible refine splitVC_d (fun _ => ?_) (fun _ => ?_) | ((with_reducible refine And.intro ?_ ?_); focus (first | trivial | (simp only [InK]; omega) | omega | (simp only [InK, ne_eq, and_true, true_and]; omega))) | simp -dsimp only [↓RP, RQ0, RQ1, RQ2, RQ3, implies_true, forall_const, Nat.reduceMul, reduceIte, reduceCtorEq, Nat.reduceAdd, Nat.reduceEqDiff, Nat.reduceLT, Nat.reduceLeDiff, I, TY, Int.toNat_natCast, Go.Proofs.Try.results39]))
  refine callN (c57 (a.m + 1) a.S c.L1 (by omega) (by omega) (fun i hi => by have := S_bound ha i (by omega); omega) (fun i hi => by have := L1_bound c hc i (by omega); omega)) (by (simp -dsimp only [↓RP, RQ0, RQ1, RQ2, RQ3, implies_true, forall_const, Nat.reduceMul, reduceIte, reduceCtorEq, Nat.reduceAdd, Nat.reduceEqDiff, Nat.reduceLT, Nat.reduceLeDiff, ints, I]); all_goals (try simp); all_goals exact fun _ _ => rfl) (by (simp -dsimp only [↓RP, RQ0, RQ1, RQ2, RQ3, implies_true, forall_const, Nat.reduceMul, reduceIte, reduceCtorEq, Nat.reduceAdd, Nat.reduceEqDiff, Nat.reduceLT, Nat.reduceLeDiff, I]); all_goals simp) (by (simp -dsimp only [↓RP, RQ0, RQ1, RQ2, RQ3, implies_true, forall_const, Nat.reduceMul, reduceIte, reduceCtorEq, Nat.reduceAdd, Nat.reduceEqDiff, Nat.reduceLT, Nat.reduceLeDiff, I]); all_goals simp) ?_
  (repeat' (first | with_reducible refine splitVC_d (fun _ => ?_) (fun _ => ?_) | ((with_reducible refine And.intro ?_ ?_); focus (first | trivial | (simp only [InK]; omega) | omega | (simp only [InK, ne_eq, and_true, true_and]; omega))) | simp -dsimp only [↓RP, RQ0, RQ1, RQ2, RQ3, implies_true, forall_const, Nat.reduceMul, reduceIte, reduceCtorEq, Nat.reduceAdd, Nat.reduceEqDiff, Nat.reduceLT, Nat.reduceLeDiff, I, TY, Int.toNat_natCast, Go.Proofs.Try.results39]))
  refine callN_old (c52 d (by omega) (fun i hi => by have := hd.rg i hi; omega)) (by (simp -dsimp only [↓RP, RQ0, RQ1, RQ2, RQ3, implies_true, forall_const, Nat.reduceMul, reduceIte, reduceCtorEq, Nat.reduceAdd, Nat.reduceEqDiff, Nat.reduceLT, Nat.reduceLeDiff, Curve.sv, ints, I]); all_goals simp) (by (simp -dsimp only [↓RP, RQ0, RQ1, RQ2, RQ3, implies_true, forall_const, Nat.reduceMul, reduceIte, reduceCtorEq, Nat.reduceAdd, Nat.reduceEqDiff, Nat.reduceLT, Nat.reduceLeDiff, I]); all_goals simp) (by (simp -dsimp only [↓RP, RQ0, RQ1, RQ2, RQ3, implies_true, forall_const, Nat.reduceMul, reduceIte, reduceCtorEq, Nat.reduceAdd, Nat.reduceEqDiff, Nat.reduceLT, Nat.reduceLeDiff, I]); all_goals simp) ?_
  (repeat' (first | with_reducible refine splitVC_d (fun _ => ?_) (fun _ => ?_) | ((with_reducible refine And.intro ?_ ?_); focus (first | trivial | (simp only [InK]; omega) | omega | (simp only [InK, ne_eq, and_true, true_and]; omega))) | simp -dsimp only [↓RP, RQ0, RQ1, RQ2, RQ3, implies_true, forall_const, Nat.reduceMul, reduceIte, reduceCtorEq, Nat.reduceAdd, Nat.reduceEqDiff, Nat.reduceLT, Nat.reduceLeDiff, I, TY, Int.toNat_natCast, Go.Proofs.Try.results39]))
  refine loop_vc (fun (i : Nat) => i ≤ a.m + 1 ∧ ∀ j, j < i → addS c a j ≤ d.S j) (fun i => ⟨[(7, .vec 60 (a.m + 1) 1), (8, .vec 61 (d.m + 1) 1), (9, .val (.int .i64 i))], [(61, rowB (d.m + 1) d.S), (60, rowB (a.m + 1) (addS c a))], 62⟩) (fun i => a.m + 1 - i) 0 ⟨Nat.zero_le _, fun j hj => absurd hj (Nat.not_lt_zero _)⟩ (weak [(60, some 15), (61, some 18)] [] ?_ ?_ ?_) fun i hi => ?_
  · (simp -dsimp only [↓RP, RQ0, RQ1, RQ2, RQ3, implies_true, forall_const, Nat.reduceMul, reduceIte, reduceCtorEq, Nat.reduceAdd, Nat.reduceEqDiff, Nat.reduceLT, Nat.reduceLeDiff]); all_goals simp
  · (simp -dsimp only [↓RP, RQ0, RQ1, RQ2, RQ3, implies_true, forall_const, Nat.reduceMul, reduceIte, reduceCtorEq, Nat.reduceAdd, Nat.reduceEqDiff, Nat.reduceLT, Nat.reduceLeDiff]); all_goals (try simp)
    all_goals exact fun _ _ => rfl
  · (simp -dsimp only [↓RP, RQ0, RQ1, RQ2, RQ3, implies_true, forall_const, Nat.reduceMul, reduceIte, reduceCtorEq, Nat.reduceAdd, Nat.reduceEqDiff, Nat.reduceLT, Nat.reduceLeDiff]); all_goals simp
  obtain ⟨hi, hj⟩ := hi
  by_cases hlt : i < a.m + 1
  · (repeat' (first | with_reducible refine splitVC_d (fun _ => ?_) (fun _ => ?_) | ((with_reducible refine And.intro ?_ ?_); focus (first | trivial | (simp only [InK]; omega) | omega | (simp only [InK, ne_eq, and_true, true_and]; omega))) | simp -dsimp only [↓RP, RQ0, RQ1, RQ2, RQ3, implies_true, forall_const, Nat.reduceMul, reduceIte, reduceCtorEq, Nat.reduceAdd, Nat.reduceEqDiff, Nat.reduceLT, Nat.reduceLeDiff, I, TY, Int.toNat_natCast, Go.Proofs.Try.results39]))
    all_goals first | (exfalso; omega) | skip
    · rename_i hgt
      refine I_eq ?_
      rw [if_neg (fun h => by have := h i hlt; omega)]
    · rename_i hgt
      refine ⟨i + 1, ⟨by omega, fun j hj2 => ?_⟩, by omega, weak [] [] ?_ ?_ ?_⟩
      · by_cases e : j = i
        · subst e; omega
        · exact hj j (by omega)
      · (simp -dsimp only [↓RP, RQ0, RQ1, RQ2, RQ3, implies_true, forall_const, Nat.reduceMul, reduceIte, reduceCtorEq, Nat.reduceAdd, Nat.reduceEqDiff, Nat.reduceLT, Nat.reduceLeDiff]); all_goals simp
      · (simp -dsimp only [↓RP, RQ0, RQ1, RQ2, RQ3, implies_true, forall_const, Nat.reduceMul, reduceIte, reduceCtorEq, Nat.reduceAdd, Nat.reduceEqDiff, Nat.reduceLT, Nat.reduceLeDiff]); all_goals simp
      · (simp -dsimp only [↓RP, RQ0, RQ1, RQ2, RQ3, implies_true, forall_const, Nat.reduceMul, reduceIte, reduceCtorEq, Nat.reduceAdd, Nat.reduceEqDiff, Nat.reduceLT, Nat.reduceLeDiff]); all_goals simp
  · have hie : i = a.m + 1 := by omega
    subst hie
    rw [if_pos hj]
    (repeat' (first | with_reducible refine splitVC_d (fun _ => ?_) (fun _ => ?_) | ((with_reducible refine And.intro ?_ ?_); focus (first | trivial | (simp only [InK]; omega) | omega | (simp only [InK, ne_eq, and_true, true_and]; omega))) | simp -dsimp only [↓RP, RQ0, RQ1, RQ2, RQ3, implies_true, forall_const, Nat.reduceMul, reduceIte, reduceCtorEq, Nat.reduceAdd, Nat.reduceEqDiff, Nat.reduceLT, Nat.reduceLeDiff, I, TY, Int.toNat_natCast, Go.Proofs.Try.results39]))
    all_goals first | (exfalso; omega) | skip
end Go.Lg
end
section
set_option linter.unusedSimpArgs false
set_option linter.unusedVariables false
set_option maxRecDepth 100000
set_option maxHeartbeats 4000000
namespace Go.Lg
open Go.Sx
theorem c38 (c a d : Curve) (hm : c.m ≤ 1000000) (hm2 : a.m ≤ 1000000) (hm3 : d.m ≤ 1000000) : Contract Go.Proofs.Try.prog 38 [c.sv, a.sv, d.sv] (I (checkAddV c a d)) := by
  refine contract_of Go.Proofs.Try.func38 rfl (by kernel_rfl) follows (by kernel_rfl) _ _ (by rw [Go.Proofs.Try.ntmps38]; simp) (by simp [OldL, c.old, a.old, d.old]) ?_
  unfold I
  conv => arg 4; unfold Curve.sv ints
  (repeat' (first | with_reducible refine splitVC_d (fun _ => ?_) (fun _ => ?_) | ((with_reducible refine And.intro ?_ ?_); focus (first | trivial | (simp only [InK]; omega) | omega | (simp only [InK, ne_eq, and_true, true_and]; omega))) | simp -dsimp only [↓RP, RQ0, RQ1, RQ2, RQ3, implies_true, forall_const, Nat.reduceMul, reduceIte, reduceCtorEq, Nat.reduceAdd, Nat.reduceEqDiff, Nat.reduceLT, Nat.reduceLeDiff, TY, Go.Proofs.Try.results38]))
  refine callVC (c26 c hm) (by (simp -dsimp only [↓RP, RQ0, RQ1, RQ2, RQ3, implies_true, forall_const, Nat.reduceMul, reduceIte, reduceCtorEq, Nat.reduceAdd, Nat.reduceEqDiff, Nat.reduceLT, Nat.reduceLeDiff, Curve.sv, ints, I]); all_goals simp) (by (simp -dsimp only [↓RP, RQ0, RQ1, RQ2, RQ3, implies_true, forall_const, Nat.reduceMul, reduceIte, reduceCtorEq, Nat.reduceAdd, Nat.reduceEqDiff, Nat.reduceLT, Nat.reduceLeDiff, I])) ?_
  (repeat' (first | with_reducible refine splitVC_d (fun _ => ?_) (fun _ => ?_) | ((with_reducible refine And.intro ?_ ?_); focus (first | trivial | (simp only [InK]; omega) | omega | (simp only [InK, ne_eq, and_true, true_and]; omega))) | simp -dsimp only [↓RP, RQ0, RQ1, RQ2, RQ3, implies_true, forall_const, Nat.reduceMul, reduceIte, reduceCtorEq, Nat.reduceAdd, Nat.reduceEqDiff, Nat.reduceLT, Nat.reduceLeDiff, I, TY, Go.Proofs.Try.results38]))
  rotate_left
  · rename_i he
    refine I_eq ?_; unfold checkAddV; rw [if_neg he]
  rename_i he
  have hc := Curve.fine he
  refine callE (by rfl) (e75 a d hm2 hm3 _) fun hp' nid0 res hq => ?_
  rcases hq with ⟨hr, r1, r2, r3⟩ | ⟨hr, ia, ib, hab, h1, h2, h3, h4, r1, r2⟩
  · subst r1 r3
    (repeat' (first | with_reducible refine splitVC_d (fun _ => ?_) (fun _ => ?_) | ((with_reducible refine And.intro ?_ ?_); focus (first | trivial | (simp only [InK]; omega) | omega | (simp only [InK, ne_eq, and_true, true_and]; omega))) | simp -dsimp only [↓RP, RQ0, RQ1, RQ2, RQ3, implies_true, forall_const, Nat.reduceMul, reduceIte, reduceCtorEq, Nat.reduceAdd, Nat.reduceEqDiff, Nat.reduceLT, Nat.reduceLeDiff, I, TY, Go.Proofs.Try.results38]))
    · rename_i h0
      exact absurd h0 hr
    · refine I_eq ?_; unfold checkAddV; rw [if_pos he, if_neg hr]
  subst r1 r2
  have e0 : checkAddV c a d = if ∀ t, t < a.m + 1 → addS c a t ≤ d.S t then 0 else 18 := by unfold checkAddV; rw [if_pos he, if_pos hr]
  rw [e0]
  obtain ⟨ha, hd, hm, hnm⟩ := rowsV_ok hr
  have a60 := ha.m60
  have d60 := hd.m60
  have NB := names2 (a := ia) (b := ib) (n := nid0) hab h1 h2
  (repeat' (first | with_reducible refine splitVC_d (fun _ => ?_) (fun _ => ?_) | ((with_reducible refine And.intro ?_ ?_); focus (first | trivial | (simp only [InK]; omega) | omega | (simp only [InK, ne_eq, and_true, true_and]; omega))) | simp -dsimp only [↓RP, RQ0, RQ1, RQ2, RQ3, implies_true, forall_const, Nat.reduceMul, reduceIte, reduceCtorEq, Nat.reduceAdd, Nat.reduceEqDiff, Nat.reduceLT, Nat.reduceLeDiff, NB, I, decide_true, Bool.not_true, TY, Int.toNat_natCast, Nat.add_zero, Nat.add_assoc, Go.Proofs.Try.results38]))
  refine callN (c74 c hc (a.m + 1) a.S (by omega) (fun i hi => by have := S_bound ha i (by omega); omega)) (by (simp -dsimp only [↓RP, RQ0, RQ1, RQ2, RQ3, implies_true, forall_const, Nat.reduceMul, reduceIte, reduceCtorEq, Nat.reduceAdd, Nat.reduceEqDiff, Nat.reduceLT, Nat.reduceLeDiff, NB, Curve.sv, ints, I]); all_goals simp) (by (simp -dsimp only [↓RP, RQ0, RQ1, RQ2, RQ3, implies_true, forall_const, Nat.reduceMul, reduceIte, reduceCtorEq, Nat.reduceAdd, Nat.reduceEqDiff, Nat.reduceLT, Nat.reduceLeDiff, I]); all_goals simp) (by (simp -dsimp only [↓RP, RQ0, RQ1, RQ2, RQ3, implies_true, forall_const, Nat.reduceMul, reduceIte, reduceCtorEq, Nat.reduceAdd, Nat.reduceEqDiff, Nat.reduceLT, Nat.reduceLeDiff, I]); all_goals simp) ?_
  (repeat' (first | with_reducible refine splitVC_d (fun _ => ?_) (fun _ => ?_) | ((with_reducible refine And.intro ?_ ?_); focus (first | trivial | (simp only [InK]; omega) | omega | (simp only [InK, ne_eq, and_true, true_and]; omega))) | simp -dsimp only [↓RP, RQ0, RQ1, RQ2, RQ3, implies_true, forall_const, Nat.reduceMul, reduceIte, reduceCtorEq, Nat.reduceAdd, Nat.reduceEqDiff, Nat.reduceLT, Nat.reduceLeDiff, NB, I, TY, Int.toNat_natCast, Nat.add_zero, Nat.add_assoc, Go.Proofs.Try.results38]))
  obtain ⟨iz, hiz⟩ : ∃ iz, iz = nid0 + 14 := ⟨_, rfl⟩
  rw [← hiz]
  refine loop_vc (fun (x : Nat × Nat) => x.1 ≤ a.m + 1 ∧ nid0 + 15 ≤ x.2 ∧ ∀ j, j < x.1 → addS c a j ≤ d.S j) (fun x => ⟨[(9, .vec ib (a.m + 1) 1), (30, .vec iz (a.m + 1) 1), (31, .val (.int .i64 ((a.m + 1 : Nat) : Int))), (32, .val (.int .i64 x.1))], [(iz, rowB (a.m + 1) (addS c a)), (ib, rowB (a.m + 1) d.S), (ia, rowB (a.m + 1) a.S)], x.2⟩) (fun x => a.m + 1 - x.1) (0, _) ⟨Nat.zero_le _, ?_, fun j hj => absurd hj (Nat.not_lt_zero _)⟩ (weakS ?_ ?_) fun x hx => ?_
  rotate_left
  · simp [SubFr, Go.Sx.look]
  · exact SubHp.refl _
  rotate_left
  · simp only []; omega
  obtain ⟨i, nid⟩ := x
  obtain ⟨hi, hn, hj⟩ := hx
  replace hi : i ≤ a.m + 1 := hi
  replace hn : nid0 + 15 ≤ nid := hn
  replace hj : ∀ j, j < i → addS c a j ≤ d.S j := hj
  have NB := names3 (a := iz) (b := ib) (c := ia) (n := nid) (by omega) (by omega) (by omega) (by omega) (by omega) (by omega)
  by_cases hlt : i < a.m + 1
  · (repeat' (first | with_reducible refine splitVC_d (fun _ => ?_) (fun _ => ?_) | ((with_reducible refine And.intro ?_ ?_); focus (first | trivial | (simp only [InK]; omega) | omega | (simp only [InK, ne_eq, and_true, true_and]; omega))) | simp -dsimp only [↓RP, RQ0, RQ1, RQ2, RQ3, implies_true, forall_const, Nat.reduceMul, reduceIte, reduceCtorEq, Nat.reduceAdd, Nat.reduceEqDiff, Nat.reduceLT, Nat.reduceLeDiff, NB, I, TY, Int.toNat_natCast, Nat.add_zero, Nat.add_assoc, Go.Proofs.Try.results38]))
    all_goals first | (exfalso; omega) | skip
    · rename_i hgt
      refine I_eq ?_
      rw [if_neg (fun h => by have := h i hlt; omega)]
    · rename_i hgt
      refine ⟨(i + 1, _), ⟨by simp only []; omega, ?_, fun j hj2 => ?_⟩, by simp only []; omega, weakS ?_ ?_⟩
      rotate_left 2
      · simp [SubFr, Go.Sx.look]
      · exact SubHp.refl _
      · simp only []; omega
      · by_cases e : j = i
        · subst e; omega
        · exact hj j (by simp only [] at hj2; omega)
  · have hie : i = a.m + 1 := by omega
    subst hie
    rw [if_pos hj]
    (repeat' (first | with_reducible refine splitVC_d (fun _ => ?_) (fun _ => ?_) | ((with_reducible refine And.intro ?_ ?_); focus (first | trivial | (simp only [InK]; omega) | omega | (simp only [InK, ne_eq, and_true, true_and]; omega))) | simp -dsimp only [↓RP, RQ0, RQ1, RQ2, RQ3, implies_true, forall_const, Nat.reduceMul, reduceIte, reduceCtorEq, Nat.reduceAdd, Nat.reduceEqDiff, Nat.reduceLT, Nat.reduceLeDiff, NB, I, TY, Int.toNat_natCast, Nat.add_zero, Nat.add_assoc, Go.Proofs.Try.results38]))
    all_goals first | (exfalso; omega) | skip
def fstG (P : Nat → Bool) (i : Nat) : Nat → Nat
  | 0 => i
  | n + 1 => if P i = true then i else fstG P (i + 1) n
theorem fstG_spec (P : Nat → Bool) : ∀ n i, (∃ j, i ≤ j ∧ j < i + n ∧ P j = true) → i ≤ fstG P i n ∧ fstG P i n < i + n ∧ P (fstG P i n) = true ∧ ∀ j, i ≤ j → j < fstG P i n → P j = false
  | 0, i, ⟨j, h1, h2, _⟩ => by omega
  | n + 1, i, ⟨j, h1, h2, h3⟩ => by
    simp only [fstG]
    by_cases h : P i = true
    · rw [if_pos h]
      exact ⟨Nat.le_refl _, by omega, h, fun j a b => by omega⟩
    · rw [if_neg h]
      have hji : i + 1 ≤ j := by
        by_cases e : j = i
        · subst e; exact absurd h3 h
        · omega
      obtain ⟨a, b, c, d⟩ := fstG_spec P n (i + 1) ⟨j, hji, by omega, h3⟩
      refine ⟨by omega, by omega, c, fun j' h1 h2 => ?_⟩
      by_cases e : j' = i
      · subst e; simpa using h
      · exact d j' (by omega) h2
def atF (a d : Curve) (t : Nat) : Nat := fstG (fun j => decide (a.S t ≤ d.S j)) t (a.m + 1 - t)
def waitTo (a d : Curve) : Nat → Int
  | 0 => 0
  | k + 1 => max (waitTo a d k) (a.S k - d.S k)
def lateTo (a d : Curve) : Nat → Int
  | 0 => 0
  | k + 1 => max (lateTo a d k) ((atF a d k : Int) - k)
def seenV (a d : Curve) : Int × Int × Int := if rowsV a d = 0 then (if a.S a.m = d.S a.m then (waitTo a d (a.m + 1), lateTo a d (a.m + 1), 0) else (0, 0, 18)) else (0, 0, rowsV a d)
theorem S_mono1 {a : Curve} (h : Row a) (k : Nat) (hk : k < a.m) : a.S k ≤ a.S (k + 1) := by
  have := h.rg k hk
  show sumTo a.u k ≤ sumTo a.u k + a.u k
  omega
theorem S_mono {a : Curve} (h : Row a) : ∀ j i, i ≤ j → j ≤ a.m → a.S i ≤ a.S j
  | 0, i, hi, _ => by have : i = 0 := by omega
                      subst this; exact Int.le_refl _
  | j + 1, i, hi, hj => by
    by_cases e : i = j + 1
    · subst e; exact Int.le_refl _
    · exact Int.le_trans (S_mono h j i (by omega) (by omega)) (S_mono1 h j (by omega))
theorem atF_spec {a d : Curve} (ha : Row a) (he : a.S a.m = d.S a.m) (t : Nat) (ht : t ≤ a.m) : t ≤ atF a d t ∧ atF a d t ≤ a.m ∧ a.S t ≤ d.S (atF a d t) ∧ ∀ j, t ≤ j → j < atF a d t → d.S j < a.S t := by
  obtain ⟨h1, h2, h3, h4⟩ := fstG_spec (fun j => decide (a.S t ≤ d.S j)) (a.m + 1 - t) t ⟨a.m, ht, by omega, decide_eq_true (by rw [← he]; exact S_mono ha a.m t ht (Nat.le_refl _))⟩
  refine ⟨h1, by unfold atF; omega, of_decide_eq_true h3, fun j a b => ?_⟩
  have := of_decide_eq_false (h4 j a b)
  omega
theorem atF_le {a d : Curve} (ha : Row a) (he : a.S a.m = d.S a.m) (t j : Nat) (ht : t ≤ a.m) (hj : t ≤ j) (h : a.S t ≤ d.S j) : atF a d t ≤ j := by
  obtain ⟨h1, h2, h3, h4⟩ := atF_spec ha he t ht
  refine Classical.byContradiction fun hlt => ?_
  have := h4 j hj (by omega)
  omega
theorem atF_mono {a d : Curve} (ha : Row a) (he : a.S a.m = d.S a.m) (t : Nat) (ht : t + 1 ≤ a.m) : atF a d t ≤ atF a d (t + 1) := by
  obtain ⟨h1, h2, h3, h4⟩ := atF_spec ha he (t + 1) ht
  exact atF_le ha he t _ (by omega) (by omega) (Int.le_trans (S_mono1 ha t (by omega)) h3)
theorem waitTo_bound {a d : Curve} (ha : Row a) (hd : Row d) (hm : a.m = d.m) : ∀ k, k ≤ a.m + 1 → 0 ≤ waitTo a d k ∧ waitTo a d k ≤ 600000
  | 0, _ => by simp [waitTo]
  | k + 1, hk => by
    have h1 := waitTo_bound ha hd hm k (by omega)
    have h2 := S_bound ha k (by omega)
    have h3 := S_bound hd k (by omega)
    simp only [waitTo]
    omega
theorem lateTo_bound {a d : Curve} (ha : Row a) (he : a.S a.m = d.S a.m) : ∀ k, k ≤ a.m + 1 → 0 ≤ lateTo a d k ∧ lateTo a d k ≤ 60
  | 0, _ => by simp [lateTo]
  | k + 1, hk => by
    have h1 := lateTo_bound ha he k (by omega)
    obtain ⟨h2, h3, _, _⟩ := atF_spec ha he k (by omega)
    have h60 := ha.m60
    simp only [lateTo]
    omega
def atP (a d : Curve) : Nat → Nat
  | 0 => 0
  | t + 1 => atF a d t
theorem atP_le {a d : Curve} (ha : Row a) (he : a.S a.m = d.S a.m) : ∀ t, t ≤ a.m → atP a d t ≤ atF a d t
  | 0, _ => Nat.zero_le _
  | t + 1, h => atF_mono ha he t h
theorem c36 (a d : Curve) (hm2 : a.m ≤ 1000000) (hm3 : d.m ≤ 1000000) : Contract Go.Proofs.Try.prog 36 [a.sv, d.sv] (tup3 (seenV a d)) := by
  refine contract_of Go.Proofs.Try.func36 rfl (by kernel_rfl) follows (by kernel_rfl) _ _ (by rw [Go.Proofs.Try.ntmps36]; simp) (by simp [OldL, a.old, d.old]) ?_
  unfold tup3 I
  conv => arg 4; unfold Curve.sv ints
  (repeat' (first | with_reducible refine splitVC_d (fun _ => ?_) (fun _ => ?_) | ((with_reducible refine And.intro ?_ ?_); focus (first | trivial | (simp only [InK]; omega) | omega | (simp only [InK, ne_eq, and_true, true_and]; omega))) | simp -dsimp only [↓RP, RQ0, RQ1, RQ2, RQ3, implies_true, forall_const, Nat.reduceMul, reduceIte, reduceCtorEq, Nat.reduceAdd, Nat.reduceEqDiff, Nat.reduceLT, Nat.reduceLeDiff, TY, Go.Proofs.Try.results36]))
  refine callE (by rfl) (e75 a d hm2 hm3 _) fun hp' nid0 res hq => ?_
  rcases hq with ⟨hr, r1, r2, r3⟩ | ⟨hr, ia, ib, hab, h1, h2, h3, h4, r1, r2⟩
  · subst r1 r3
    (repeat' (first | with_reducible refine splitVC_d (fun _ => ?_) (fun _ => ?_) | ((with_reducible refine And.intro ?_ ?_); focus (first | trivial | (simp only [InK]; omega) | omega | (simp only [InK, ne_eq, and_true, true_and]; omega))) | simp -dsimp only [↓RP, RQ0, RQ1, RQ2, RQ3, implies_true, forall_const, Nat.reduceMul, reduceIte, reduceCtorEq, Nat.reduceAdd, Nat.reduceEqDiff, Nat.reduceLT, Nat.reduceLeDiff, I, TY, Go.Proofs.Try.results36]))
    · rename_i h0
      exact absurd h0 hr
    · unfold seenV; rw [if_neg hr]
      exact ⟨rfl, rfl, rfl⟩
  subst r1 r2
  have e0 : seenV a d = if a.S a.m = d.S a.m then (waitTo a d (a.m + 1), lateTo a d (a.m + 1), 0) else (0, 0, 18) := by unfold seenV; rw [if_pos hr]
  rw [e0]
  obtain ⟨ha, hd, hm, hnm⟩ := rowsV_ok hr
  have a60 := ha.m60
  have d60 := hd.m60
  have NB := names2 (a := ia) (b := ib) (n := nid0) hab h1 h2
  (repeat' (first | with_reducible refine splitVC_d (fun _ => ?_) (fun _ => ?_) | ((with_reducible refine And.intro ?_ ?_); focus (first | trivial | (simp only [InK]; omega) | omega | (simp only [InK, ne_eq, and_true, true_and]; omega))) | simp -dsimp only [↓RP, RQ0, RQ1, RQ2, RQ3, implies_true, forall_const, Nat.reduceMul, reduceIte, reduceCtorEq, Nat.reduceAdd, Nat.reduceEqDiff, Nat.reduceLT, Nat.reduceLeDiff, decide_true, Bool.not_true, NB, I, TY, Int.toNat_natCast, Nat.add_zero, Nat.add_assoc, Go.Proofs.Try.results36]))
  all_goals first | (exfalso; omega) | skip
  rotate_left
  · rename_i he
    rw [if_neg he]
    exact ⟨rfl, rfl, rfl⟩
  rename_i he
  rw [if_pos he]
  have hSa := fun k hk => S_bound ha k hk
  have hSd := fun k hk => S_bound hd k hk
  refine loop_vc (fun (x : Nat × Nat) => x.1 ≤ a.m + 1 ∧ nid0 ≤ x.2) (fun x => ⟨[(7, .vec ia (a.m + 1) 1), (8, .vec ib (a.m + 1) 1), (11, .val (.int .i64 (lateTo a d x.1))), (38, .val (.int .i64 ((a.m + 1 : Nat) : Int))), (39, .val (.int .i64 x.1)), (10, .val (.int .i64 (waitTo a d x.1))), (12, .val (.int .i64 (atP a d x.1)))], [(ib, rowB (a.m + 1) d.S), (ia, rowB (a.m + 1) a.S)], x.2⟩) (fun x => a.m + 1 - x.1) (0, _) ⟨Nat.zero_le _, ?_⟩ (weakS ?_ ?_) fun x hx => ?_
  rotate_left
  · simp [SubFr, Go.Sx.look, lateTo, waitTo, atP]
  · exact SubHp.refl _
  rotate_left
  · simp only []; omega
  obtain ⟨t, nid⟩ := x
  obtain ⟨ht, hn⟩ := hx
  replace ht : t ≤ a.m + 1 := ht
  replace hn : nid0 ≤ nid := hn
  have NB := names2 (a := ia) (b := ib) (n := nid) hab (by omega) (by omega)
  by_cases hlt : t < a.m + 1
  · obtain ⟨f1, f2, f3, f4⟩ := atF_spec ha he t (by omega)
    have w1 := waitTo_bound ha hd hm t (by omega)
    have w2 := lateTo_bound ha he t (by omega)
    have b1 := hSa t (by omega)
    have b2 := hSd t (by omega)
    have eW : waitTo a d (t + 1) = max (waitTo a d t) (a.S t - d.S t) := rfl
    have eL : lateTo a d (t + 1) = max (lateTo a d t) ((atF a d t : Int) - t) := rfl
    have hp := atP_le ha he t (by omega)
    (repeat' (first | with_reducible refine splitVC_d (fun _ => ?_) (fun _ => ?_) | ((with_reducible refine And.intro ?_ ?_); focus (first | trivial | (simp only [InK]; omega) | omega | (simp only [InK, ne_eq, and_true, true_and]; omega))) | simp -dsimp only [↓RP, RQ0, RQ1, RQ2, RQ3, implies_true, forall_const, Nat.reduceMul, reduceIte, reduceCtorEq, Nat.reduceAdd, Nat.reduceEqDiff, Nat.reduceLT, Nat.reduceLeDiff, NB, I, TY, Int.toNat_natCast, Nat.add_zero, Nat.add_assoc, Go.Proofs.Try.results36]))
    all_goals first | (exfalso; omega) | skip
    refine loop_vc (fun (x : Nat × Nat) => x.1 ≤ atF a d t ∧ nid0 ≤ x.2) (fun x => ⟨[(7, .vec ia (a.m + 1) 1), (8, .vec ib (a.m + 1) 1), (11, .val (.int .i64 (lateTo a d t))), (38, .val (.int .i64 ((a.m + 1 : Nat) : Int))), (39, .val (.int .i64 t)), (10, .val (.int .i64 (waitTo a d (t + 1)))), (12, .val (.int .i64 x.1)), (13, .val (.int .i64 t))], [(ib, rowB (a.m + 1) d.S), (ia, rowB (a.m + 1) a.S)], x.2⟩) (fun x => atF a d t - x.1) (atP a d t, _) ⟨hp, ?_⟩ (weakS ?_ ?_) fun x hx => ?_
    rotate_left
    · simp [SubFr, Go.Sx.look, eW]
    · exact SubHp.refl _
    rotate_left
    · simp only []; omega
    obtain ⟨x, nid⟩ := x
    obtain ⟨hx, hn⟩ := hx
    replace hx : x ≤ atF a d t := hx
    replace hn : nid0 ≤ nid := hn
    have NB := names2 (a := ia) (b := ib) (n := nid) hab (by omega) (by omega)
    have b3 := hSd x (by omega)
    (repeat' (first | with_reducible refine splitVC_d (fun _ => ?_) (fun _ => ?_) | ((with_reducible refine And.intro ?_ ?_); focus (first | trivial | (simp only [InK]; omega) | omega | (simp only [InK, ne_eq, and_true, true_and]; omega))) | simp -dsimp only [↓RP, RQ0, RQ1, RQ2, RQ3, implies_true, forall_const, Nat.reduceMul, reduceIte, reduceCtorEq, Nat.reduceAdd, Nat.reduceEqDiff, Nat.reduceLT, Nat.reduceLeDiff, NB, I, TY, Int.toNat_natCast, Nat.add_zero, Nat.add_assoc, Go.Proofs.Try.results36]))
    all_goals first | (exfalso; omega) | skip
    · rename_i hxt
      refine ⟨(x + 1, _), ⟨by simp only []; omega, ?_⟩, by simp only []; omega, weakS ?_ ?_⟩
      rotate_left
      · simp [SubFr, Go.Sx.look]
      · exact SubHp.refl _
      · simp only []; omega
    · rename_i hxt hdx
      have hne : x ≠ atF a d t := fun e => by rw [← e] at f3; omega
      refine ⟨(x + 1, _), ⟨by simp only []; omega, ?_⟩, by simp only []; omega, weakS ?_ ?_⟩
      rotate_left
      · simp [SubFr, Go.Sx.look]
      · exact SubHp.refl _
      · simp only []; omega
    · rename_i hxt hdx _
      have hxe : x = atF a d t := Nat.le_antisymm hx (atF_le ha he t x (by omega) (by omega) (by omega))
      refine ⟨(t + 1, _), ⟨by simp only []; omega, ?_⟩, by simp only []; omega, weakS ?_ ?_⟩
      rotate_left
      · simp only [SubFr, Go.Sx.look, eL, ← hxe, show atP a d (t + 1) = x from hxe.symm]
        simp
      · exact SubHp.refl _
      · simp only []; omega
  · have hte : t = a.m + 1 := by omega
    subst hte
    (repeat' (first | with_reducible refine splitVC_d (fun _ => ?_) (fun _ => ?_) | ((with_reducible refine And.intro ?_ ?_); focus (first | trivial | (simp only [InK]; omega) | omega | (simp only [InK, ne_eq, and_true, true_and]; omega))) | simp -dsimp only [↓RP, RQ0, RQ1, RQ2, RQ3, implies_true, forall_const, Nat.reduceMul, reduceIte, reduceCtorEq, Nat.reduceAdd, Nat.reduceEqDiff, Nat.reduceLT, Nat.reduceLeDiff, NB, I, TY, Int.toNat_natCast, Nat.add_zero, Nat.add_assoc, Go.Proofs.Try.results36]))
    all_goals first | (exfalso; omega) | skip
end Go.Lg
end
