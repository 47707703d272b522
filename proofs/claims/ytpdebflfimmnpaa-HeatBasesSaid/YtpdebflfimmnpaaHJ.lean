/- A part of the proof. -/
import Derived.Test.YtpdebflfimmnpaaHI
import Derived.Test.YtpdebflfimmnpaaHC
section
set_option linter.unusedSimpArgs false
set_option linter.unusedVariables false
set_option linter.defProp false
set_option maxRecDepth 100000
set_option maxHeartbeats 16000000
namespace Go.He
open Go.Proofs
open Go.Sx
def baP (N : Int) (m : Nat) (w : Nat → Wd) : List Nat := baseP (MsL w m N.toNat (N.toNat ^ N.toNat)) m
def baL (N : Int) (m : Nat) (w : Nat → Wd) : List Nat := if ckR N m w = 0 ∧ (agrs w m N.toNat).length ≠ 0 then baP N m w else []
theorem ba_bad {N : Int} {m : Nat} {w : Nat → Wd} (h : ckR N m w ≠ 0) : baL N m w = [] := by unfold baL; rw [if_neg (fun h' => h h'.1)]
theorem ba_none {n m : Nat} {w : Nat → Wd} (h0 : (agrs w m n).length = 0) : baL n m w = [] := by unfold baL; rw [Int.toNat_natCast, if_neg (fun h' => h'.2 h0)]
theorem ba_some {n m : Nat} {w : Nat → Wd} (h : ckR n m w = 0) (h0 : (agrs w m n).length ≠ 0) : baL n m w = baseP (MsL w m n (n ^ n)) m := by unfold baL; rw [Int.toNat_natCast, if_pos ⟨h, h0⟩]; rfl
theorem inc_len {l : List Nat} {m : Nat} (h : Inc l 0 m) : l.length ≤ m := by
 by_cases e : l = []
 ·rw [e]; exact Nat.zero_le _
 ·have := h.len e; omega
theorem baP_len {w : Nat → Wd} {m n : Nat} : (baseP (MsL w m n (n ^ n)) m).length ≤ m := inc_len (base_bst (MsL_msk w m n)).inc
theorem c38 (N : Int) (m : Nat) (w : Nat → Wd) (hm : m ≤ 1000000) : Contract Try.prog 38 [rsv N m w] (.tup [nsv (baL N m w), I (fnE N m w)]) := by
 refine contract_of Try.func38 rfl (by kernel_rfl) follows (by kernel_rfl) _ _ (by rw [Try.ntmps38]; simp) (by simp [OldL, Old, QV, rsv, ints]) ?_
 by_cases he : ckR N m w = 0
 ·have ⟨n2, n5, m12, _⟩ := ckR_ok he
  obtain ⟨n, rfl⟩ : ∃ n : Nat, N = n := ⟨N.toNat, by omega⟩
  have hw := ckR_fit he
  by_cases h0 : (agrs w m n).length = 0
  ·have fe : decide ((if (agrs w m n).length = 0 then (22 : Int) else 0) = 0) = false := by rw [if_pos h0]; rfl
   rw [ba_none h0, (fn_none he h0).2]
   unfold rsv I
   (repeat' (first | with_reducible (first | apply splitVC_d <;> intro _ | apply splitVC <;> intro _) | ((with_reducible refine And.intro ?_ ?_); focus (first | exact True.intro | omega | (simp only [InK, ne_eq, and_true, true_and]; omega) | trivial)) | (simp -dsimp only [↓RP, RQ, Nat.reduceMul, reduceIte, reduceCtorEq, Nat.reduceAdd, Nat.reduceEqDiff, Nat.reduceLT, Nat.reduceLeDiff, nsv, QW, Try.results38])))
   refine callVC_old (c56 n m w hm he) (by (simp -dsimp only [↓RP, RQ, Nat.reduceMul, reduceIte, reduceCtorEq, Nat.reduceAdd, Nat.reduceEqDiff, Nat.reduceLT, Nat.reduceLeDiff, QX]); all_goals (try simp [QV, Go.Sx.Sub, Go.Sx.SubL]); all_goals (try exact lit2 _ _)) ?_
   (repeat' (first | with_reducible (first | apply splitVC_d <;> intro _ | apply splitVC <;> intro _) | ((with_reducible refine And.intro ?_ ?_); focus (first | exact True.intro | omega | (simp only [InK, ne_eq, and_true, true_and]; omega) | trivial)) | (simp -dsimp only [↓RP, RQ, Nat.reduceMul, reduceIte, reduceCtorEq, Nat.reduceAdd, Nat.reduceEqDiff, Nat.reduceLT, Nat.reduceLeDiff, nsv, QW, Try.results38])))
   refine callVC (c72 n (by omega) (by omega) m hm w hw) ?_ ?_ ?_; iterate 2 focus ((simp -dsimp only [↓RP, RQ, Nat.reduceMul, reduceIte, reduceCtorEq, Nat.reduceAdd, Nat.reduceEqDiff, Nat.reduceLT, Nat.reduceLeDiff, QX]); all_goals (try simp [QV, Go.Sx.Sub, Go.Sx.SubL]); all_goals (try exact lit2 _ _))
   (repeat' (first | with_reducible (first | apply splitVC_d <;> intro _ | apply splitVC <;> intro _) | ((with_reducible refine And.intro ?_ ?_); focus (first | exact True.intro | omega | (simp only [InK, ne_eq, and_true, true_and]; omega) | trivial)) | (simp -dsimp only [↓RP, RQ, Nat.reduceMul, reduceIte, reduceCtorEq, Nat.reduceAdd, Nat.reduceEqDiff, Nat.reduceLT, Nat.reduceLeDiff, h0, nsv, QW, Try.results38])))
   all_goals try (exfalso; omega)
  ·rw [ba_some he h0, (fn_some he h0).2]
   have hbl := baP_len (w := w) (m := m) (n := n)
   unfold rsv I
   (repeat' (first | with_reducible (first | apply splitVC_d <;> intro _ | apply splitVC <;> intro _) | ((with_reducible refine And.intro ?_ ?_); focus (first | exact True.intro | omega | (simp only [InK, ne_eq, and_true, true_and]; omega) | trivial)) | (simp -dsimp only [↓RP, RQ, Nat.reduceMul, reduceIte, reduceCtorEq, Nat.reduceAdd, Nat.reduceEqDiff, Nat.reduceLT, Nat.reduceLeDiff, nsv, QW, Try.results38])))
   refine callVC_old (c56 n m w hm he) (by (simp -dsimp only [↓RP, RQ, Nat.reduceMul, reduceIte, reduceCtorEq, Nat.reduceAdd, Nat.reduceEqDiff, Nat.reduceLT, Nat.reduceLeDiff, QX]); all_goals (try simp [QV, Go.Sx.Sub, Go.Sx.SubL]); all_goals (try exact lit2 _ _)) ?_
   (repeat' (first | with_reducible (first | apply splitVC_d <;> intro _ | apply splitVC <;> intro _) | ((with_reducible refine And.intro ?_ ?_); focus (first | exact True.intro | omega | (simp only [InK, ne_eq, and_true, true_and]; omega) | trivial)) | (simp -dsimp only [↓RP, RQ, Nat.reduceMul, reduceIte, reduceCtorEq, Nat.reduceAdd, Nat.reduceEqDiff, Nat.reduceLT, Nat.reduceLeDiff, nsv, QW, Try.results38])))
   refine callVC (c72 n (by omega) (by omega) m hm w hw) ?_ ?_ ?_; iterate 2 focus ((simp -dsimp only [↓RP, RQ, Nat.reduceMul, reduceIte, reduceCtorEq, Nat.reduceAdd, Nat.reduceEqDiff, Nat.reduceLT, Nat.reduceLeDiff, QX]); all_goals (try simp [QV, Go.Sx.Sub, Go.Sx.SubL]); all_goals (try exact lit2 _ _))
   (repeat' (first | with_reducible (first | apply splitVC_d <;> intro _ | apply splitVC <;> intro _) | ((with_reducible refine And.intro ?_ ?_); focus (first | exact True.intro | omega | (simp only [InK, ne_eq, and_true, true_and]; omega) | trivial)) | (simp -dsimp only [↓RP, RQ, Nat.reduceMul, reduceIte, reduceCtorEq, Nat.reduceAdd, Nat.reduceEqDiff, Nat.reduceLT, Nat.reduceLeDiff, h0, nsv, QW, Try.results38])))
   all_goals try (exfalso; omega)
   refine callVC (c79 n (by omega) (by omega) m (by omega) w hw) (by (simp -dsimp only [↓RP, RQ, Nat.reduceMul, reduceIte, reduceCtorEq, Nat.reduceAdd, Nat.reduceEqDiff, Nat.reduceLT, Nat.reduceLeDiff, QX]); all_goals (try simp [QV, Go.Sx.Sub, Go.Sx.SubL]); all_goals (try exact lit2 _ _)) (by (simp -dsimp only [↓RP, RQ, Nat.reduceMul, reduceIte, reduceCtorEq, Nat.reduceAdd, Nat.reduceEqDiff, Nat.reduceLT, Nat.reduceLeDiff, nsv, B]); all_goals (try simp [QV])) ?_
   (repeat' (first | with_reducible (first | apply splitVC_d <;> intro _ | apply splitVC <;> intro _) | ((with_reducible refine And.intro ?_ ?_); focus (first | exact True.intro | omega | (simp only [InK, ne_eq, and_true, true_and]; omega) | trivial)) | (simp -dsimp only [↓RP, RQ, Nat.reduceMul, reduceIte, reduceCtorEq, Nat.reduceAdd, Nat.reduceEqDiff, Nat.reduceLT, Nat.reduceLeDiff, nsv, QW, Try.results38])))
   all_goals first | (exfalso; omega) | exact fun h => h | skip
 ·rw [ba_bad he, (fn_bad he).2]
  have hd : (!decide (ckR N m w = 0)) = true := by simp [he]
  unfold rsv I
  (repeat' (first | with_reducible (first | apply splitVC_d <;> intro _ | apply splitVC <;> intro _) | ((with_reducible refine And.intro ?_ ?_); focus (first | exact True.intro | omega | (simp only [InK, ne_eq, and_true, true_and]; omega) | trivial)) | (simp -dsimp only [↓RP, RQ, Nat.reduceMul, reduceIte, reduceCtorEq, Nat.reduceAdd, Nat.reduceEqDiff, Nat.reduceLT, Nat.reduceLeDiff, hd, nsv, QW, Try.results38])))
  refine callVC_old (c56e N m w hm he) (by (simp -dsimp only [↓RP, RQ, Nat.reduceMul, reduceIte, reduceCtorEq, Nat.reduceAdd, Nat.reduceEqDiff, Nat.reduceLT, Nat.reduceLeDiff, QX]); all_goals (try simp [QV, Go.Sx.Sub, Go.Sx.SubL]); all_goals (try exact lit2 _ _)) ?_
  (repeat' (first | with_reducible (first | apply splitVC_d <;> intro _ | apply splitVC <;> intro _) | ((with_reducible refine And.intro ?_ ?_); focus (first | exact True.intro | omega | (simp only [InK, ne_eq, and_true, true_and]; omega) | trivial)) | (simp -dsimp only [↓RP, RQ, Nat.reduceMul, reduceIte, reduceCtorEq, Nat.reduceAdd, Nat.reduceEqDiff, Nat.reduceLT, Nat.reduceLeDiff, hd, nsv, QW, Try.results38])))
theorem lex_at : ∀ (i : Nat) (a b : List Nat), a.length = b.length → i < a.length → (∀ j, j < i → a.getD j 0 = b.getD j 0) → a.getD i 0 ≠ b.getD i 0 → lexLt a b = decide (a.getD i 0 < b.getD i 0)
 | _, [], _, _, h, _, _ => by simp at h
 | _, _ :: _, [], h, _, _, _ => by simp at h
 | 0, x :: a, y :: b, _, _, _, h => by
  have h : x ≠ y := by simpa using h
  simp only [lexLt]; rw [if_neg h]; rfl
 | i + 1, x :: a, y :: b, hl, hi, he, h => by
  have h0 : x = y := by simpa using he 0 (by omega)
  simp only [lexLt]; rw [if_pos h0]
  exact lex_at i a b (by simpa using hl) (by simpa using hi) (fun j hj => by simpa using he (j + 1) (by omega)) (by simpa using h)
theorem lex_no : ∀ (a b : List Nat), a.length = b.length → (∀ j, j < a.length → a.getD j 0 = b.getD j 0) → lexLt a b = false
 | [], _, _, _ => by simp [lexLt]
 | _ :: _, [], h, _ => by simp at h
 | x :: a, y :: b, hl, he => by
  have h0 : x = y := by simpa using he 0 (by simp)
  simp only [lexLt]; rw [if_pos h0]
  exact lex_no a b (by simpa using hl) (fun j hj => by simpa using he (j + 1) (by simp; omega))
theorem c81 (a b : List Nat) (ha : a.length ≤ 1000) (hb : b.length ≤ 1000) : Contract Try.prog 81 [nar a, nar b] (B (befo a b)) := by
 refine contract_of Try.func81 rfl (by kernel_rfl) follows (by kernel_rfl) _ _ (by rw [Try.ntmps81]; simp) (by simp [OldL, Old, QV, nar]) ?_
 unfold nar B befo
 by_cases hl : a.length = b.length
 ·rw [if_pos hl]
  have f1 := decide_eq_true (show ((a.length : Nat) : Int) = ((b.length : Nat) : Int) by omega)
  (repeat' (first | with_reducible (first | apply splitVC_d <;> intro _ | apply splitVC <;> intro _) | ((with_reducible refine And.intro ?_ ?_); focus (first | exact True.intro | omega | (simp only [InK, ne_eq, and_true, true_and]; omega) | trivial)) | (simp -dsimp only [↓RP, RQ, Nat.reduceMul, reduceIte, reduceCtorEq, Nat.reduceAdd, Nat.reduceEqDiff, Nat.reduceLT, Nat.reduceLeDiff, f1, nar, QW, Try.results81])))
  all_goals try (exfalso; omega)
  refine loop_vc (fun (i : Nat) => i ≤ a.length ∧ ∀ j, j < i → a.getD j 0 = b.getD j 0) (fun i => ⟨[(0, .arr false false a.length 1 (fun i _ => .val (.int .i64 (a.getD i 0 : Nat)))), (1, .arr false false b.length 1 (fun i _ => .val (.int .i64 (b.getD i 0 : Nat)))), (5, .val (.int .i64 (i : Nat)))], [], 20⟩) (fun i => a.length - i) 0 ⟨Nat.zero_le _, fun j hj => by omega⟩ (weak [] [] ?_ ?_ ?_) fun i hi => ?_
  iterate 3 focus ((simp -dsimp only [↓RP, RQ, Nat.reduceMul, reduceIte, reduceCtorEq, Nat.reduceAdd, Nat.reduceEqDiff, Nat.reduceLT, Nat.reduceLeDiff, QV]); all_goals (try simp [QV]))
  obtain ⟨hi, he⟩ := hi
  by_cases hlt : i < a.length
  ·have hlb : i < b.length := by omega
   by_cases hq : a.getD i 0 = b.getD i 0
   ·have f2 := decide_eq_true (show ((a.getD i 0 : Nat) : Int) = ((b.getD i 0 : Nat) : Int) by omega)
    (repeat' (first | with_reducible (first | apply splitVC_d <;> intro _ | apply splitVC <;> intro _) | ((with_reducible refine And.intro ?_ ?_); focus (first | exact True.intro | omega | (simp only [InK, ne_eq, and_true, true_and]; omega) | trivial)) | (simp -dsimp only [↓RP, RQ, Nat.reduceMul, reduceIte, reduceCtorEq, Nat.reduceAdd, Nat.reduceEqDiff, Nat.reduceLT, Nat.reduceLeDiff, f2, nar, QW, Try.results81])))
    all_goals try (exfalso; omega)
    refine ⟨i + 1, ⟨by omega, fun j hj => ?_⟩, by omega, weak [] [] ?_ ?_ ?_⟩
    ·by_cases e : j = i
     ·subst e; exact hq
     ·exact he j (by omega)
    iterate 3 focus ((simp -dsimp only [↓RP, RQ, Nat.reduceMul, reduceIte, reduceCtorEq, Nat.reduceAdd, Nat.reduceEqDiff, Nat.reduceLT, Nat.reduceLeDiff, QV]); all_goals (try simp [QV]))
   ·have f2 := decide_eq_false (show ¬ ((a.getD i 0 : Nat) : Int) = ((b.getD i 0 : Nat) : Int) by omega)
    rw [lex_at i a b hl hlt he hq]
    (repeat' (first | with_reducible (first | apply splitVC_d <;> intro _ | apply splitVC <;> intro _) | ((with_reducible refine And.intro ?_ ?_); focus (first | exact True.intro | omega | (simp only [InK, ne_eq, and_true, true_and]; omega) | trivial)) | (simp -dsimp only [↓RP, RQ, Nat.reduceMul, reduceIte, reduceCtorEq, Nat.reduceAdd, Nat.reduceEqDiff, Nat.reduceLT, Nat.reduceLeDiff, f2, nar, QW, Try.results81])))
    all_goals try (exfalso; omega)
    all_goals (refine B_eq ?_; rw [Bool.eq_iff_iff, decide_eq_true_eq, decide_eq_true_eq]; omega)
  ·rw [lex_no a b hl fun j hj => he j (by omega)]
   (repeat' (first | with_reducible (first | apply splitVC_d <;> intro _ | apply splitVC <;> intro _) | ((with_reducible refine And.intro ?_ ?_); focus (first | exact True.intro | omega | (simp only [InK, ne_eq, and_true, true_and]; omega) | trivial)) | (simp -dsimp only [↓RP, RQ, Nat.reduceMul, reduceIte, reduceCtorEq, Nat.reduceAdd, Nat.reduceEqDiff, Nat.reduceLT, Nat.reduceLeDiff, nar, QW, Try.results81])))
   all_goals try (exfalso; omega)
 ·rw [if_neg hl]
  have f1 := decide_eq_false (show ¬ ((a.length : Nat) : Int) = ((b.length : Nat) : Int) by omega)
  (repeat' (first | with_reducible (first | apply splitVC_d <;> intro _ | apply splitVC <;> intro _) | ((with_reducible refine And.intro ?_ ?_); focus (first | exact True.intro | omega | (simp only [InK, ne_eq, and_true, true_and]; omega) | trivial)) | (simp -dsimp only [↓RP, RQ, Nat.reduceMul, reduceIte, reduceCtorEq, Nat.reduceAdd, Nat.reduceEqDiff, Nat.reduceLT, Nat.reduceLeDiff, f1, nar, QW, Try.results81])))
  all_goals try (exfalso; omega)
  all_goals (refine B_eq ?_; rw [Bool.eq_iff_iff, decide_eq_true_eq, decide_eq_true_eq]; omega)
end Go.He
end
section
set_option linter.unusedSimpArgs false
set_option linter.unusedVariables false
set_option linter.defProp false
set_option maxRecDepth 100000
set_option maxHeartbeats 16000000
namespace Go.He
open Go.Proofs
open Go.Sx
theorem bits_more {s K : Nat} (h : s / 2 ^ K = 0) : ∀ m, K ≤ m → bitsL s m = bitsL s K := by
 intro m hm
 obtain ⟨d, rfl⟩ : ∃ d, m = K + d := ⟨m - K, by omega⟩
 clear hm
 induction d with
 | zero => rfl
 | succ d ih =>
  have hb : s.testBit (K + d) = false := by
   refine Nat.testBit_lt_two_pow ?_
   have h1 : s < 2 ^ K := by
    rcases Nat.div_eq_zero_iff.1 h with h | h
    ·exact absurd h (by have := Nat.two_pow_pos K; omega)
    ·exact h
   exact Nat.lt_of_lt_of_le h1 (Nat.pow_le_pow_right (by decide) (by omega))
  show lst _ (K + d + 1) = _
  simp only [lst]
  rw [if_neg (by simp [hb])]
  exact ih
theorem bitsL_S (s k : Nat) : bitsL s (k + 1) = if s.testBit k = true then bitsL s k ++ [k] else bitsL s k := rfl
theorem bitsL_0 (s : Nat) : bitsL s 0 = [] := rfl
theorem bitsL_len (s m : Nat) : (bitsL s m).length ≤ m := lst_len _ _
theorem fdivN (s i : Nat) : ((s : Nat) : Int).fdiv (2 ^ i) = ((s / 2 ^ i : Nat) : Int) := by
 rw [Int.fdiv_eq_ediv_of_nonneg _ (Int.le_of_lt (Int.pow_pos (by decide)))]
 have e : ((2 : Int) ^ i) = ((2 ^ i : Nat) : Int) := by simp
 rw [e, ← Int.natCast_ediv]
theorem and1 (s i : Nat) : decide (((s / 2 ^ i &&& 1 : Nat) : Int) = 1) = s.testBit i := by
 rw [Nat.testBit_eq_decide_div_mod_eq, Nat.and_one_is_mod, Bool.eq_iff_iff, decide_eq_true_eq, decide_eq_true_eq]
 omega
theorem c47 (s m : Nat) (hm : m ≤ 12) (hs : s < 2 ^ m) : Contract Try.prog 47 [I s] (nsv (bitsL s m)) := by
 refine contract_of Try.func47 rfl (by kernel_rfl) follows (by kernel_rfl) _ _ (by rw [Try.ntmps47]; simp) (by simp [OldL, Old, QV, I]) ?_
 have h4 : s < 4096 := Nat.lt_of_lt_of_le hs (Nat.pow_le_pow_right (n := 2) (by decide) hm)
 unfold I
 (repeat' (first | with_reducible (first | apply splitVC_d <;> intro _ | apply splitVC <;> intro _) | ((with_reducible refine And.intro ?_ ?_); focus (first | exact True.intro | omega | (simp only [InK, ne_eq, and_true, true_and]; omega) | (and_intros <;> first | exact .inr trivial | exact Nat.le_refl _ | exact one1 _ | exact one5 _ _ _ _ _ | exact .inl rfl | omega) | trivial)) | (simp -dsimp only [↓RP, RQ, Nat.reduceMul, reduceIte, reduceCtorEq, Nat.reduceAdd, Nat.reduceEqDiff, Nat.reduceLT, Nat.reduceLeDiff, getD_app, app_len, nsv, fdivN, and1, QW, Try.results47])))
 all_goals try (exfalso; omega)
 refine loop_vc (fun (i : Nat) => i ≤ m) (fun i => ⟨[(0, .val (.int .i64 (s : Nat))), (3, .vec 60 (bitsL s i).length 1), (4, .val (.int .i64 (i : Nat)))], [(60, .rows 3 1 (bitsL s i).length (fun y _ => .val (.int .i64 ((bitsL s i).getD y 0 : Nat))))], 80⟩) (fun i => m - i) 0 (Nat.zero_le _) (weak [(60, none)] [] ?_ ?_ ?_) fun i hi => ?_
 iterate 3 focus ((simp -dsimp only [↓RP, RQ, Nat.reduceMul, reduceIte, reduceCtorEq, Nat.reduceAdd, Nat.reduceEqDiff, Nat.reduceLT, Nat.reduceLeDiff, QV, bitsL_0]); all_goals (try simp [QV, bitsL_0]))
 have hbl := bitsL_len s i
 have hd := Nat.div_le_self s (2 ^ i)
 have hb6 : i ≤ IntKind.i64.bits := by show i ≤ 64; omega
 obtain ⟨D, hD⟩ : ∃ D, s / 2 ^ i = D := ⟨_, rfl⟩
 have hA : D &&& 1 ≤ 1 := Nat.and_le_right
 by_cases hz : D = 0
 ·have e := bits_more (hD.trans hz) m hi
  rw [e]
  have f0 := decide_eq_false (show ¬ (0 : Int) < ((D : Nat) : Int) by omega)
  rw [hD] at hd
  (repeat' (first | with_reducible (first | apply splitVC_d <;> intro _ | apply splitVC <;> intro _) | ((with_reducible refine And.intro ?_ ?_); focus (first | exact True.intro | omega | (simp only [InK, ne_eq, and_true, true_and]; omega) | (and_intros <;> first | exact .inr trivial | exact Nat.le_refl _ | exact one1 _ | exact one5 _ _ _ _ _ | exact .inl rfl | omega) | trivial)) | (simp -dsimp only [↓RP, RQ, Nat.reduceMul, reduceIte, reduceCtorEq, Nat.reduceAdd, Nat.reduceEqDiff, Nat.reduceLT, Nat.reduceLeDiff, hD, f0, getD_app, app_len, nsv, fdivN, and1, QW, Try.results47])))
  all_goals try (exfalso; omega)
  exact Nat.le_refl _
 ·have f0 := decide_eq_true (show (0 : Int) < ((D : Nat) : Int) by omega)
  have him : i < m := by
   refine Classical.byContradiction fun hc => hz ?_
   have : i = m := by omega
   subst this
   rw [← hD]; exact Nat.div_eq_of_lt hs
  have ha1 := and1 s i
  rw [hD] at hd ha1
  cases ht : s.testBit i with
  | true =>
   have e := bitsL_S s i
   rw [if_pos ht] at e
   rw [ht] at ha1
   (repeat' (first | with_reducible (first | apply splitVC_d <;> intro _ | apply splitVC <;> intro _) | ((with_reducible refine And.intro ?_ ?_); focus (first | exact True.intro | omega | (simp only [InK, ne_eq, and_true, true_and]; omega) | (and_intros <;> first | exact .inr trivial | exact Nat.le_refl _ | exact one1 _ | exact one5 _ _ _ _ _ | exact .inl rfl | omega) | trivial)) | (simp -dsimp only [↓RP, RQ, Nat.reduceMul, reduceIte, reduceCtorEq, Nat.reduceAdd, Nat.reduceEqDiff, Nat.reduceLT, Nat.reduceLeDiff, hD, f0, ha1, getD_app, app_len, nsv, fdivN, and1, QW, Try.results47])))
   all_goals try (exfalso; omega)
   refine ⟨i + 1, by omega, by omega, weak [(60, some 92)] [] ?_ ?_ ?_⟩
   ·(simp -dsimp only [↓RP, RQ, Nat.reduceMul, reduceIte, reduceCtorEq, Nat.reduceAdd, Nat.reduceEqDiff, Nat.reduceLT, Nat.reduceLeDiff, QV, e, app_len, getD_app]); all_goals (try simp [QV, e, app_len, getD_app])
   ·(simp -dsimp only [↓RP, RQ, Nat.reduceMul, reduceIte, reduceCtorEq, Nat.reduceAdd, Nat.reduceEqDiff, Nat.reduceLT, Nat.reduceLeDiff, QV, e, app_len, getD_app]); all_goals (try simp [QV, e, app_len, getD_app]); all_goals first | exact growN _ _ | skip
   ·(simp -dsimp only [↓RP, RQ, Nat.reduceMul, reduceIte, reduceCtorEq, Nat.reduceAdd, Nat.reduceEqDiff, Nat.reduceLT, Nat.reduceLeDiff, QV]); all_goals (try simp [QV])
  | false =>
   have e := bitsL_S s i
   rw [if_neg (by simp [ht])] at e
   rw [ht] at ha1
   (repeat' (first | with_reducible (first | apply splitVC_d <;> intro _ | apply splitVC <;> intro _) | ((with_reducible refine And.intro ?_ ?_); focus (first | exact True.intro | omega | (simp only [InK, ne_eq, and_true, true_and]; omega) | (and_intros <;> first | exact .inr trivial | exact Nat.le_refl _ | exact one1 _ | exact one5 _ _ _ _ _ | exact .inl rfl | omega) | trivial)) | (simp -dsimp only [↓RP, RQ, Nat.reduceMul, reduceIte, reduceCtorEq, Nat.reduceAdd, Nat.reduceEqDiff, Nat.reduceLT, Nat.reduceLeDiff, hD, f0, ha1, getD_app, app_len, nsv, fdivN, and1, QW, Try.results47])))
   all_goals try (exfalso; omega)
   refine ⟨i + 1, by omega, by omega, weak [] [] ?_ ?_ ?_⟩
   iterate 2 focus ((simp -dsimp only [↓RP, RQ, Nat.reduceMul, reduceIte, reduceCtorEq, Nat.reduceAdd, Nat.reduceEqDiff, Nat.reduceLT, Nat.reduceLeDiff, QV, e]); all_goals (try simp [QV, e]))
   ·(simp -dsimp only [↓RP, RQ, Nat.reduceMul, reduceIte, reduceCtorEq, Nat.reduceAdd, Nat.reduceEqDiff, Nat.reduceLT, Nat.reduceLeDiff, QV]); all_goals (try simp [QV])
def usL (w : Nat → Wd) (m n : Nat) : List Nat := (fins n).map fun t => mk w (Dg n t) m
theorem agrs0 (w : Nat → Wd) (n : Nat) : agrs w 0 n = fins n := lst_congr fun t _ => by
 unfold okA; rw [decide_eq_true (show agr w 0 (Dg n t) from fun i hi => absurd hi (Nat.not_lt_zero _))]; simp
theorem growT (L : List Nat) (k t : Nat) : ∀ (i : Nat), i < t + 1 → (if i < t then SV.val (.int .i64 (L[i]?.getD 0 : Nat)) else [SV.val (.int .i64 (k : Nat))][i - t]?.getD SV.top) = SV.val (.int .i64 ((if i < t then L[i]?.getD 0 else if i = t then k else 0 : Nat) : Nat)) := by
 intro i hi
 by_cases h : i < t
 ·rw [if_pos h, if_pos h]
 ·obtain rfl : i = t := by omega
  rw [if_neg h, if_neg h, if_pos rfl, Nat.sub_self]; rfl
theorem usL_len (w : Nat → Wd) (m n : Nat) : (usL w m n).length = (fins n).length := List.length_map ..
theorem fit0 (w : Nat → Wd) (n : Int) : Fit w 0 n := ⟨fun i h => absurd h (Nat.not_lt_zero _), fun i h => absurd h (Nat.not_lt_zero _), fun i h => absurd h (Nat.not_lt_zero _), fun i h => absurd h (Nat.not_lt_zero _)⟩
def usT (w : Nat → Wd) (m n t : Nat) : List Nat := ((fins n).take t).map fun t => mk w (Dg n t) m
theorem usT_len {w : Nat → Wd} {m n t : Nat} (h : t ≤ (fins n).length) : (usT w m n t).length = t := by unfold usT; rw [List.length_map, List.length_take]; omega
theorem usT_S {w : Nat → Wd} {m n t : Nat} (h : t < (fins n).length) : usT w m n (t + 1) = usT w m n t ++ [mk w (Dg n ((fins n).getD t 0)) m] := by
 unfold usT
 rw [List.take_add_one, List.map_append, List.getElem?_eq_getElem h, List.getD_eq_getElem?_getD, List.getElem?_eq_getElem h]; rfl
theorem usT_all (w : Nat → Wd) (m n : Nat) : usT w m n (fins n).length = usL w m n := by unfold usT usL; rw [List.take_length]
theorem c80 (n : Nat) (hn1 : 1 ≤ n) (h5 : n ≤ 5) (m : Nat) (hm : m ≤ 12) (w : Nat → Wd) (hw : Fit w m n) : Contract Try.prog 80 [rsv n m w] (nsv (usL w m n)) := by
 refine contract_of Try.func80 rfl (by kernel_rfl) follows (by kernel_rfl) _ _ (by rw [Try.ntmps80]; simp) (by simp [OldL, Old, QV, rsv]) ?_
 have hfl := fins_len h5
 unfold rsv
 (repeat' (first | with_reducible (first | apply splitVC_d <;> intro _ | apply splitVC <;> intro _) | ((with_reducible refine And.intro ?_ ?_); focus (first | exact True.intro | omega | (simp only [InK, ne_eq, and_true, true_and]; omega) | (and_intros <;> first | exact .inr trivial | exact Nat.le_refl _ | exact one1 _ | exact one5 _ _ _ _ _ | exact .inl rfl | omega) | trivial)) | (simp -dsimp only [↓RP, RQ, Nat.reduceMul, reduceIte, reduceCtorEq, Nat.reduceAdd, Nat.reduceEqDiff, Nat.reduceLT, Nat.reduceLeDiff, getD_app, app_len, nsv, agrs0, QW, Try.results80])))
 refine callVC (c63 n (by omega) (by omega) 0 (by omega) w (fit0 w n)) (by (simp -dsimp only [↓RP, RQ, Nat.reduceMul, reduceIte, reduceCtorEq, Nat.reduceAdd, Nat.reduceEqDiff, Nat.reduceLT, Nat.reduceLeDiff, QV, rsv]); all_goals (try simp [QV, Go.Sx.Sub, Go.Sx.SubL])) (by (simp -dsimp only [↓RP, RQ, Nat.reduceMul, reduceIte, reduceCtorEq, Nat.reduceAdd, Nat.reduceEqDiff, Nat.reduceLT, Nat.reduceLeDiff, QX]); all_goals (try simp [QV])) ?_
 (repeat' (first | with_reducible (first | apply splitVC_d <;> intro _ | apply splitVC <;> intro _) | ((with_reducible refine And.intro ?_ ?_); focus (first | exact True.intro | omega | (simp only [InK, ne_eq, and_true, true_and]; omega) | (and_intros <;> first | exact .inr trivial | exact Nat.le_refl _ | exact one1 _ | exact one5 _ _ _ _ _ | exact .inl rfl | omega) | trivial)) | (simp -dsimp only [↓RP, RQ, Nat.reduceMul, reduceIte, reduceCtorEq, Nat.reduceAdd, Nat.reduceEqDiff, Nat.reduceLT, Nat.reduceLeDiff, getD_app, app_len, nsv, agrs0, QW, Try.results80])))
 all_goals try (exfalso; omega)
 refine loop_vc (fun (t : Nat) => t ≤ (fins n).length) (fun t => ⟨[(1, .ptr 0 0), (3, .arr true false (fins n).length 1 (fun i _ => .arr true false n 1 (fun j _ => .val (.int .i64 (Dg n ((fins n).getD i 0) j))))), (4, .vec 60 t 1), (5, .val (.int .i64 (t : Nat)))], [(0, .cells 24 [.val (.int .i64 (n : Nat)), .arr false false m 3 (fun i j => wf (w i) j)]), (60, .rows 3 1 t (fun y _ => .val (.int .i64 ((usT w m n t).getD y 0 : Nat))))], 80⟩) (fun t => (fins n).length - t) 0 (Nat.zero_le _) (weak [(60, none)] [] ?_ ?_ ?_) fun t ht => ?_
 iterate 3 focus ((simp -dsimp only [↓RP, RQ, Nat.reduceMul, reduceIte, reduceCtorEq, Nat.reduceAdd, Nat.reduceEqDiff, Nat.reduceLT, Nat.reduceLeDiff, QV, agrs0]); all_goals (try simp [QV, agrs0]))
 have hul := usT_len (w := w) (m := m) ht
 by_cases hlt : t < (fins n).length
 ·(repeat' (first | with_reducible (first | apply splitVC_d <;> intro _ | apply splitVC <;> intro _) | ((with_reducible refine And.intro ?_ ?_); focus (first | exact True.intro | omega | (simp only [InK, ne_eq, and_true, true_and]; omega) | (and_intros <;> first | exact .inr trivial | exact Nat.le_refl _ | exact one1 _ | exact one5 _ _ _ _ _ | exact .inl rfl | omega) | trivial)) | (simp -dsimp only [↓RP, RQ, Nat.reduceMul, reduceIte, reduceCtorEq, Nat.reduceAdd, Nat.reduceEqDiff, Nat.reduceLT, Nat.reduceLeDiff, getD_app, app_len, nsv, agrs0, QW, Try.results80])))
  all_goals try (exfalso; omega)
  refine loop_vc (fun (k : Nat) => k ≤ m) (fun k => ⟨[(1, .ptr 0 0), (3, .arr true false (fins n).length 1 (fun i _ => .arr true false n 1 (fun j _ => .val (.int .i64 (Dg n ((fins n).getD i 0) j))))), (4, .vec 60 t 1), (5, .val (.int .i64 (t : Nat))), (6, .val (.int .i64 (mk w (Dg n ((fins n).getD t 0)) k : Nat))), (7, .val (.int .i64 (k : Nat)))], [(0, .cells 24 [.val (.int .i64 (n : Nat)), .arr false false m 3 (fun i j => wf (w i) j)]), (60, .rows 3 1 t (fun y _ => .val (.int .i64 ((usT w m n t).getD y 0 : Nat))))], 120⟩) (fun k => m - k) 0 (Nat.zero_le _) (weak [] [] ?_ ?_ ?_) fun k hk => ?_
  iterate 3 focus ((simp -dsimp only [↓RP, RQ, Nat.reduceMul, reduceIte, reduceCtorEq, Nat.reduceAdd, Nat.reduceEqDiff, Nat.reduceLT, Nat.reduceLeDiff, QV, mk]); all_goals (try simp [QV, mk]))
  by_cases hlk : k < m
  ·have ha := hw.a k hlk
   have hb := hw.b k hlk
   have hp2 := pow_4095 (show k < 12 by omega)
   have hml := mk_4095 w (Dg n ((fins n).getD t 0)) (show k ≤ 12 by omega)
   have hml1 := mk_4095 w (Dg n ((fins n).getD t 0)) (show k + 1 ≤ 12 by omega)
   have hpc : (2 : Int) ^ k = ((2 ^ k : Nat) : Int) := by simp
   obtain ⟨P, hP⟩ : ∃ P, (2 : Nat) ^ k = P := ⟨_, rfl⟩
   have hp3 : P ≤ 2048 := hP ▸ hp2
   rw [hP] at hpc
   have hbits : k ≤ IntKind.i64.bits := by show k ≤ 64; omega
   (repeat' (first | with_reducible (first | apply splitVC_d <;> intro _ | apply splitVC <;> intro _) | ((with_reducible refine And.intro ?_ ?_); focus (first | exact True.intro | omega | (simp only [InK, ne_eq, and_true, true_and]; omega) | (and_intros <;> first | exact .inr trivial | exact Nat.le_refl _ | exact one1 _ | exact one5 _ _ _ _ _ | exact .inl rfl | omega) | trivial)) | (simp -dsimp only [↓RP, RQ, Nat.reduceMul, reduceIte, reduceCtorEq, Nat.reduceAdd, Nat.reduceEqDiff, Nat.reduceLT, Nat.reduceLeDiff, getD_app, app_len, nsv, agrs0, QW, Try.results80])))
   all_goals try (exfalso; omega)
   refine callVC (c76 n (Dg n ((fins n).getD t 0)) (w k) (by omega) (by omega)) (by (simp -dsimp only [↓RP, RQ, Nat.reduceMul, reduceIte, reduceCtorEq, Nat.reduceAdd, Nat.reduceEqDiff, Nat.reduceLT, Nat.reduceLeDiff, QV, ints, wag]); all_goals (try simp [QV, Go.Sx.Sub, Go.Sx.SubL])) (by (simp -dsimp only [↓RP, RQ, Nat.reduceMul, reduceIte, reduceCtorEq, Nat.reduceAdd, Nat.reduceEqDiff, Nat.reduceLT, Nat.reduceLeDiff, QX]); all_goals (try simp [QV])) ?_
   by_cases hs : says (w k) (fun y => Dg n ((fins n).getD t 0) y.toNat)
   ·have fs := decide_eq_true hs
    have em : mk w (Dg n ((fins n).getD t 0)) (k + 1) = mk w (Dg n ((fins n).getD t 0)) k := by rw [mk_S, if_pos hs]
    (repeat' (first | with_reducible (first | apply splitVC_d <;> intro _ | apply splitVC <;> intro _) | ((with_reducible refine And.intro ?_ ?_); focus (first | exact True.intro | omega | (simp only [InK, ne_eq, and_true, true_and]; omega) | (and_intros <;> first | exact .inr trivial | exact Nat.le_refl _ | exact one1 _ | exact one5 _ _ _ _ _ | exact .inl rfl | omega) | trivial)) | (simp -dsimp only [↓RP, RQ, Nat.reduceMul, reduceIte, reduceCtorEq, Nat.reduceAdd, Nat.reduceEqDiff, Nat.reduceLT, Nat.reduceLeDiff, fs, getD_app, app_len, nsv, agrs0, QW, Try.results80])))
    all_goals try (exfalso; omega)
    refine ⟨k + 1, by omega, by omega, weak [] [] ?_ ?_ ?_⟩
    ·(simp -dsimp only [↓RP, RQ, Nat.reduceMul, reduceIte, reduceCtorEq, Nat.reduceAdd, Nat.reduceEqDiff, Nat.reduceLT, Nat.reduceLeDiff, QV, em]); all_goals (try simp [QV, em])
    iterate 2 focus ((simp -dsimp only [↓RP, RQ, Nat.reduceMul, reduceIte, reduceCtorEq, Nat.reduceAdd, Nat.reduceEqDiff, Nat.reduceLT, Nat.reduceLeDiff, QV]); all_goals (try simp [QV]))
   ·have fs := decide_eq_false hs
    have em : mk w (Dg n ((fins n).getD t 0)) (k + 1) = mk w (Dg n ((fins n).getD t 0)) k + P := by rw [mk_S, if_neg hs, hP]
    (repeat' (first | with_reducible (first | apply splitVC_d <;> intro _ | apply splitVC <;> intro _) | ((with_reducible refine And.intro ?_ ?_); focus (first | exact True.intro | omega | (simp only [InK, ne_eq, and_true, true_and]; omega) | (and_intros <;> first | exact .inr trivial | exact Nat.le_refl _ | exact one1 _ | exact one5 _ _ _ _ _ | exact .inl rfl | omega) | trivial)) | (simp -dsimp only [↓RP, RQ, Nat.reduceMul, reduceIte, reduceCtorEq, Nat.reduceAdd, Nat.reduceEqDiff, Nat.reduceLT, Nat.reduceLeDiff, fs, hpc, getD_app, app_len, nsv, agrs0, QW, Try.results80])))
    all_goals try (exfalso; omega)
    refine ⟨k + 1, by omega, by omega, weak [] [] ?_ ?_ ?_⟩
    ·(simp -dsimp only [↓RP, RQ, Nat.reduceMul, reduceIte, reduceCtorEq, Nat.reduceAdd, Nat.reduceEqDiff, Nat.reduceLT, Nat.reduceLeDiff, QV, em, hpc]); all_goals (try simp [QV, em, hpc])
    iterate 2 focus ((simp -dsimp only [↓RP, RQ, Nat.reduceMul, reduceIte, reduceCtorEq, Nat.reduceAdd, Nat.reduceEqDiff, Nat.reduceLT, Nat.reduceLeDiff, QV]); all_goals (try simp [QV]))
  ·have hkm : m = k := by omega
   subst hkm
   have e := usT_S (w := w) (m := m) hlt
   (repeat' (first | with_reducible (first | apply splitVC_d <;> intro _ | apply splitVC <;> intro _) | ((with_reducible refine And.intro ?_ ?_); focus (first | exact True.intro | omega | (simp only [InK, ne_eq, and_true, true_and]; omega) | (and_intros <;> first | exact .inr trivial | exact Nat.le_refl _ | exact one1 _ | exact one5 _ _ _ _ _ | exact .inl rfl | omega) | trivial)) | (simp -dsimp only [↓RP, RQ, Nat.reduceMul, reduceIte, reduceCtorEq, Nat.reduceAdd, Nat.reduceEqDiff, Nat.reduceLT, Nat.reduceLeDiff, getD_app, app_len, nsv, agrs0, QW, Try.results80])))
   all_goals try (exfalso; omega)
   refine ⟨t + 1, by omega, by omega, weak [(60, some 128)] [] ?_ ?_ ?_⟩
   ·(simp -dsimp only [↓RP, RQ, Nat.reduceMul, reduceIte, reduceCtorEq, Nat.reduceAdd, Nat.reduceEqDiff, Nat.reduceLT, Nat.reduceLeDiff, QV, e, app_len, getD_app, hul]); all_goals (try simp [QV, e, app_len, getD_app, hul])
   ·(simp -dsimp only [↓RP, RQ, Nat.reduceMul, reduceIte, reduceCtorEq, Nat.reduceAdd, Nat.reduceEqDiff, Nat.reduceLT, Nat.reduceLeDiff, QV, e, app_len, getD_app, hul]); all_goals (try simp [QV, e, app_len, getD_app, hul]); all_goals first | exact growT _ _ t | skip
   ·(simp -dsimp only [↓RP, RQ, Nat.reduceMul, reduceIte, reduceCtorEq, Nat.reduceAdd, Nat.reduceEqDiff, Nat.reduceLT, Nat.reduceLeDiff, QV]); all_goals (try simp [QV])
 ·have htt : (fins n).length = t := by omega
  subst htt
  rw [← usT_all]
  (repeat' (first | with_reducible (first | apply splitVC_d <;> intro _ | apply splitVC <;> intro _) | ((with_reducible refine And.intro ?_ ?_); focus (first | exact True.intro | omega | (simp only [InK, ne_eq, and_true, true_and]; omega) | (and_intros <;> first | exact .inr trivial | exact Nat.le_refl _ | exact one1 _ | exact one5 _ _ _ _ _ | exact .inl rfl | omega) | trivial)) | (simp -dsimp only [↓RP, RQ, Nat.reduceMul, reduceIte, reduceCtorEq, Nat.reduceAdd, Nat.reduceEqDiff, Nat.reduceLT, Nat.reduceLeDiff, getD_app, app_len, nsv, agrs0, QW, Try.results80])))
  all_goals try (exfalso; omega)
  exact Nat.le_of_eq hul
def goodB (us : List Nat) (s j : Nat) : Bool := decide (∀ i, i < j → us.getD i 0 = 0 ∨ us.getD i 0 &&& s ≠ 0)
theorem goodB_0 (us : List Nat) (s : Nat) : goodB us s 0 = true := decide_eq_true fun i h => absurd h (Nat.not_lt_zero _)
theorem goodB_S {us : List Nat} {s j : Nat} (h : goodB us s j = true) : goodB us s (j + 1) = decide (us.getD j 0 = 0 ∨ us.getD j 0 &&& s ≠ 0) := by
 unfold goodB at *
 have h := of_decide_eq_true h
 rw [Bool.eq_iff_iff, decide_eq_true_eq, decide_eq_true_eq]
 constructor
 ·intro a; exact a j (by omega)
 ·intro a i hi
  by_cases e : i = j
  ·subst e; exact a
  ·exact h i (by omega)
theorem goodB_all {us : List Nat} {s : Nat} (h : goodB us s us.length = true) : goodS us s := by
 intro x hx
 obtain ⟨i, hi, rfl⟩ := mem_getD hx
 exact of_decide_eq_true h i hi
theorem goodB_no {us : List Nat} {s j : Nat} (hj : j ≤ us.length) (h : goodB us s j = false) : ¬ goodS us s := fun hg => by
 have := of_decide_eq_false h
 exact this fun i hi => hg _ (getD_mem (by omega))
theorem refB_S (us : List Nat) (m s : Nat) : refB us m (s + 1) = if goodS us s ∧ befo (bitsL s m) (refB us m s) = true then bitsL s m else refB us m s := rfl
theorem refB_0 (us : List Nat) (m : Nat) : refB us m 0 = bitsL (2 ^ m - 1) m := rfl
theorem refB_len (us : List Nat) (m : Nat) : ∀ s, (refB us m s).length ≤ m
 | 0 => bitsL_len _ _
 | s + 1 => by rw [refB_S]; split; exact bitsL_len _ _; exact refB_len us m s
theorem usL_lt {w : Nat → Wd} {m n x : Nat} (h : x ∈ usL w m n) : x < 2 ^ m := by
 obtain ⟨t, _, rfl⟩ := List.mem_map.1 h
 exact mk_lt _ _ _
theorem us_ms (w : Nat → Wd) (m n : Nat) : ∀ x, x ∈ MsL w m n (n ^ n) ↔ x ≠ 0 ∧ x ∈ usL w m n := fun x => by
 rw [MsL_msk w m n x]
 unfold usL
 rw [List.mem_map]
 exact ⟨fun ⟨a, t, b, c⟩ => ⟨a, t, b, c.symm⟩, fun ⟨a, t, b, c⟩ => ⟨a, t, b, c.symm⟩⟩
theorem ref_base (w : Nat → Wd) (m n : Nat) : refB (usL w m n) m (2 ^ m) = baseP (MsL w m n (n ^ n)) m := base_same (fun _ h => usL_lt h) (us_ms w m n)
theorem c39 (N : Int) (m : Nat) (w : Nat → Wd) (hm : m ≤ 1000000) : Contract Try.prog 39 [rsv N m w] (.tup [nsv (baL N m w), I (fnE N m w)]) := by
 refine contract_of Try.func39 rfl (by kernel_rfl) follows (by kernel_rfl) _ _ (by rw [Try.ntmps39]; simp) (by simp [OldL, Old, QV, rsv, ints]) ?_
 by_cases he : ckR N m w = 0
 ·have ⟨n2, n5, m12, _⟩ := ckR_ok he
  obtain ⟨n, rfl⟩ : ∃ n : Nat, N = n := ⟨N.toNat, by omega⟩
  have hw := ckR_fit he
  have hd : (!decide (ckR (n : Int) m w = 0)) = false := by simp [he]
  have hp2 : (2 : Nat) ^ m ≤ 4096 := Nat.pow_le_pow_right (n := 2) (by decide) m12
  have hp1 : 1 ≤ (2 : Nat) ^ m := Nat.two_pow_pos m
  have hpc : (2 : Int) ^ m = ((2 ^ m : Nat) : Int) := by simp
  have hbits : m ≤ IntKind.i64.bits := by show m ≤ 64; omega
  obtain ⟨P, hP⟩ : ∃ P, (2 : Nat) ^ m = P := ⟨_, rfl⟩
  rw [hP] at hpc hp2 hp1
  have hal := agrs_len (w := w) (m := m) (n := n) (by omega)
  by_cases h0 : (agrs w m n).length = 0
  ·have f0 := decide_eq_true (show (((agrs w m n).length : Nat) : Int) = 0 by omega)
   rw [ba_none h0, (fn_none he h0).2]
   unfold rsv I
   (repeat' (first | with_reducible (first | apply splitVC_d <;> intro _ | apply splitVC <;> intro _) | ((with_reducible refine And.intro ?_ ?_); focus (first | exact True.intro | omega | (simp only [InK, ne_eq, and_true, true_and]; omega) | trivial)) | (simp -dsimp only [↓RP, RQ, Nat.reduceMul, reduceIte, reduceCtorEq, Nat.reduceAdd, Nat.reduceEqDiff, Nat.reduceLT, Nat.reduceLeDiff, nsv, QW, Try.results39])))
   refine callVC (c20 n m w hm) ?_ ?_ ?_; iterate 2 focus ((simp -dsimp only [↓RP, RQ, Nat.reduceMul, reduceIte, reduceCtorEq, Nat.reduceAdd, Nat.reduceEqDiff, Nat.reduceLT, Nat.reduceLeDiff, QX]); all_goals (try simp [QV, Go.Sx.Sub, Go.Sx.SubL]); all_goals (try exact lit2 _ _))
   (repeat' (first | with_reducible (first | apply splitVC_d <;> intro _ | apply splitVC <;> intro _) | ((with_reducible refine And.intro ?_ ?_); focus (first | exact True.intro | omega | (simp only [InK, ne_eq, and_true, true_and]; omega) | trivial)) | (simp -dsimp only [↓RP, RQ, Nat.reduceMul, reduceIte, reduceCtorEq, Nat.reduceAdd, Nat.reduceEqDiff, Nat.reduceLT, Nat.reduceLeDiff, hd, nsv, QW, Try.results39])))
   refine callVC (c63 n (by omega) (by omega) m hm w hw) ?_ ?_ ?_; iterate 2 focus ((simp -dsimp only [↓RP, RQ, Nat.reduceMul, reduceIte, reduceCtorEq, Nat.reduceAdd, Nat.reduceEqDiff, Nat.reduceLT, Nat.reduceLeDiff, QX]); all_goals (try simp [QV, Go.Sx.Sub, Go.Sx.SubL]); all_goals (try exact lit2 _ _))
   (repeat' (first | with_reducible (first | apply splitVC_d <;> intro _ | apply splitVC <;> intro _) | ((with_reducible refine And.intro ?_ ?_); focus (first | exact True.intro | omega | (simp only [InK, ne_eq, and_true, true_and]; omega) | trivial)) | (simp -dsimp only [↓RP, RQ, Nat.reduceMul, reduceIte, reduceCtorEq, Nat.reduceAdd, Nat.reduceEqDiff, Nat.reduceLT, Nat.reduceLeDiff, f0, nsv, QW, Try.results39])))
   all_goals try (exfalso; omega)
  ·rw [ba_some he h0, (fn_some he h0).2, ← ref_base, hP]
   have f0 := decide_eq_false (show ¬ (((agrs w m n).length : Nat) : Int) = 0 by omega)
   unfold rsv I
   (repeat' (first | with_reducible (first | apply splitVC_d <;> intro _ | apply splitVC <;> intro _) | ((with_reducible refine And.intro ?_ ?_); focus (first | exact True.intro | omega | (simp only [InK, ne_eq, and_true, true_and]; omega) | trivial)) | (simp -dsimp only [↓RP, RQ, Nat.reduceMul, reduceIte, reduceCtorEq, Nat.reduceAdd, Nat.reduceEqDiff, Nat.reduceLT, Nat.reduceLeDiff, nsv, QW, Try.results39])))
   refine callVC (c20 n m w hm) ?_ ?_ ?_; iterate 2 focus ((simp -dsimp only [↓RP, RQ, Nat.reduceMul, reduceIte, reduceCtorEq, Nat.reduceAdd, Nat.reduceEqDiff, Nat.reduceLT, Nat.reduceLeDiff, QX]); all_goals (try simp [QV, Go.Sx.Sub, Go.Sx.SubL]); all_goals (try exact lit2 _ _))
   (repeat' (first | with_reducible (first | apply splitVC_d <;> intro _ | apply splitVC <;> intro _) | ((with_reducible refine And.intro ?_ ?_); focus (first | exact True.intro | omega | (simp only [InK, ne_eq, and_true, true_and]; omega) | trivial)) | (simp -dsimp only [↓RP, RQ, Nat.reduceMul, reduceIte, reduceCtorEq, Nat.reduceAdd, Nat.reduceEqDiff, Nat.reduceLT, Nat.reduceLeDiff, hd, nsv, QW, Try.results39])))
   refine callVC (c63 n (by omega) (by omega) m hm w hw) ?_ ?_ ?_; iterate 2 focus ((simp -dsimp only [↓RP, RQ, Nat.reduceMul, reduceIte, reduceCtorEq, Nat.reduceAdd, Nat.reduceEqDiff, Nat.reduceLT, Nat.reduceLeDiff, QX]); all_goals (try simp [QV, Go.Sx.Sub, Go.Sx.SubL]); all_goals (try exact lit2 _ _))
   (repeat' (first | with_reducible (first | apply splitVC_d <;> intro _ | apply splitVC <;> intro _) | ((with_reducible refine And.intro ?_ ?_); focus (first | exact True.intro | omega | (simp only [InK, ne_eq, and_true, true_and]; omega) | trivial)) | (simp -dsimp only [↓RP, RQ, Nat.reduceMul, reduceIte, reduceCtorEq, Nat.reduceAdd, Nat.reduceEqDiff, Nat.reduceLT, Nat.reduceLeDiff, f0, nsv, QW, Try.results39])))
   all_goals try (exfalso; omega)
   (repeat' (first | with_reducible (first | apply splitVC_d <;> intro _ | apply splitVC <;> intro _) | ((with_reducible refine And.intro ?_ ?_); focus (first | exact True.intro | omega | (simp only [InK, ne_eq, and_true, true_and]; omega) | trivial)) | (simp -dsimp only [↓RP, RQ, Nat.reduceMul, reduceIte, reduceCtorEq, Nat.reduceAdd, Nat.reduceEqDiff, Nat.reduceLT, Nat.reduceLeDiff, hpc, nsv, QW, Try.results39])))
   all_goals try (exfalso; omega)
   refine callVC (c80 n (by omega) (by omega) m (by omega) w hw) (by (simp -dsimp only [↓RP, RQ, Nat.reduceMul, reduceIte, reduceCtorEq, Nat.reduceAdd, Nat.reduceEqDiff, Nat.reduceLT, Nat.reduceLeDiff, QV, rsv]); all_goals (try simp [QV])) (by (simp -dsimp only [↓RP, RQ, Nat.reduceMul, reduceIte, reduceCtorEq, Nat.reduceAdd, Nat.reduceEqDiff, Nat.reduceLT, Nat.reduceLeDiff, nsv, B]); all_goals (try simp [QV])) ?_
   have hul : (usL w m n).length ≤ 3125 := by rw [usL_len]; exact fins_len (by omega)
   have hux : ∀ x, x ∈ usL w m n → x < P := fun x hx => hP ▸ usL_lt hx
   obtain ⟨U, hU⟩ : ∃ U, usL w m n = U := ⟨_, rfl⟩
   rw [hU] at hul hux ⊢
   (repeat' (first | with_reducible (first | apply splitVC_d <;> intro _ | apply splitVC <;> intro _) | ((with_reducible refine And.intro ?_ ?_); focus (first | exact True.intro | omega | (simp only [InK, ne_eq, and_true, true_and]; omega) | trivial)) | (simp -dsimp only [↓RP, RQ, Nat.reduceMul, reduceIte, reduceCtorEq, Nat.reduceAdd, Nat.reduceEqDiff, Nat.reduceLT, Nat.reduceLeDiff, hpc, nsv, QW, Try.results39])))
   all_goals try (exfalso; omega)
   refine callVC (c47 (P - 1) m (by omega) (by omega)) (by (simp -dsimp only [↓RP, RQ, Nat.reduceMul, reduceIte, reduceCtorEq, Nat.reduceAdd, Nat.reduceEqDiff, Nat.reduceLT, Nat.reduceLeDiff, QV, I]); all_goals (try simp [QV]); omega) (by (simp -dsimp only [↓RP, RQ, Nat.reduceMul, reduceIte, reduceCtorEq, Nat.reduceAdd, Nat.reduceEqDiff, Nat.reduceLT, Nat.reduceLeDiff, nsv, B]); all_goals (try simp [QV])) ?_
   have hr0 : refB U m 0 = bitsL (P - 1) m := by rw [refB_0, hP]
   have hr00 : bitsL (P - 1) m = refB U m 0 := hr0.symm
   have hbl0 := bitsL_len (P - 1) m
   (repeat' (first | with_reducible (first | apply splitVC_d <;> intro _ | apply splitVC <;> intro _) | ((with_reducible refine And.intro ?_ ?_); focus (first | exact True.intro | omega | (simp only [InK, ne_eq, and_true, true_and]; omega) | trivial)) | (simp -dsimp only [↓RP, RQ, Nat.reduceMul, reduceIte, reduceCtorEq, Nat.reduceAdd, Nat.reduceEqDiff, Nat.reduceLT, Nat.reduceLeDiff, hpc, nsv, QW, Try.results39])))
   all_goals try (exfalso; omega)
   refine loop_vc (fun (s : Nat) => s ≤ P) (fun s => ⟨[(1, .ptr 0 0), (4, .arr true false (U).length 1 (fun i _ => .val (.int .i64 ((U).getD i 0 : Nat)))), (5, .arr true false (refB U m s).length 1 (fun i _ => .val (.int .i64 ((refB U m s).getD i 0 : Nat)))), (6, .val (.int .i64 (s : Nat)))], [(0, .cells 24 [.val (.int .i64 (n : Nat)), .arr false false m 3 (fun i j => wf (w i) j)])], 60⟩) (fun s => P - s) 0 (Nat.zero_le _) (weak [] [] ?_ ?_ ?_) fun s hs => ?_
   iterate 3 focus ((simp -dsimp only [↓RP, RQ, Nat.reduceMul, reduceIte, reduceCtorEq, Nat.reduceAdd, Nat.reduceEqDiff, Nat.reduceLT, Nat.reduceLeDiff, QV, hr0]); all_goals (try simp [QV, hr0]))
   have hrl := refB_len U m s
   by_cases hlt : s < P
   ·have hbl := bitsL_len s m
    (repeat' (first | with_reducible (first | apply splitVC_d <;> intro _ | apply splitVC <;> intro _) | ((with_reducible refine And.intro ?_ ?_); focus (first | exact True.intro | omega | (simp only [InK, ne_eq, and_true, true_and]; omega) | trivial)) | (simp -dsimp only [↓RP, RQ, Nat.reduceMul, reduceIte, reduceCtorEq, Nat.reduceAdd, Nat.reduceEqDiff, Nat.reduceLT, Nat.reduceLeDiff, hpc, nsv, QW, Try.results39])))
    all_goals try (exfalso; omega)
    refine loop_vc (fun (j : Nat) => j ≤ U.length) (fun j => ⟨[(1, .ptr 0 0), (4, .arr true false (U).length 1 (fun i _ => .val (.int .i64 ((U).getD i 0 : Nat)))), (5, .arr true false (refB U m s).length 1 (fun i _ => .val (.int .i64 ((refB U m s).getD i 0 : Nat)))), (6, .val (.int .i64 (s : Nat))), (7, .val (.bool (goodB U s j))), (8, .val (.int .i64 (j : Nat)))], [(0, .cells 24 [.val (.int .i64 (n : Nat)), .arr false false m 3 (fun i j => wf (w i) j)])], 80⟩) (fun j => U.length - j) 0 (Nat.zero_le _) (weak [] [] ?_ ?_ ?_) fun j hj => ?_
    iterate 3 focus ((simp -dsimp only [↓RP, RQ, Nat.reduceMul, reduceIte, reduceCtorEq, Nat.reduceAdd, Nat.reduceEqDiff, Nat.reduceLT, Nat.reduceLeDiff, QV, goodB_0]); all_goals (try simp [QV, goodB_0]))
    cases hg : goodB U s j with
    | false =>
     have hgs := goodB_no hj hg
     have e : refB U m (s + 1) = refB U m s := by rw [refB_S, if_neg (fun h => hgs h.1)]
     by_cases hjl : j < U.length
     ·have f1 := decide_eq_true (show ((j : Nat) : Int) < ((U.length : Nat) : Int) by omega)
      (repeat' (first | with_reducible (first | apply splitVC_d <;> intro _ | apply splitVC <;> intro _) | ((with_reducible refine And.intro ?_ ?_); focus (first | exact True.intro | omega | (simp only [InK, ne_eq, and_true, true_and]; omega) | trivial)) | (simp -dsimp only [↓RP, RQ, Nat.reduceMul, reduceIte, reduceCtorEq, Nat.reduceAdd, Nat.reduceEqDiff, Nat.reduceLT, Nat.reduceLeDiff, hpc, f1, hg, nsv, QW, Try.results39])))
      all_goals try (exfalso; omega)
      refine ⟨s + 1, by omega, by omega, weak [] [] ?_ ?_ ?_⟩
      ·(simp -dsimp only [↓RP, RQ, Nat.reduceMul, reduceIte, reduceCtorEq, Nat.reduceAdd, Nat.reduceEqDiff, Nat.reduceLT, Nat.reduceLeDiff, QV, e]); all_goals (try simp [QV, e])
      iterate 2 focus ((simp -dsimp only [↓RP, RQ, Nat.reduceMul, reduceIte, reduceCtorEq, Nat.reduceAdd, Nat.reduceEqDiff, Nat.reduceLT, Nat.reduceLeDiff, QV]); all_goals (try simp [QV]))
     ·have f1 := decide_eq_false (show ¬ ((j : Nat) : Int) < ((U.length : Nat) : Int) by omega)
      (repeat' (first | with_reducible (first | apply splitVC_d <;> intro _ | apply splitVC <;> intro _) | ((with_reducible refine And.intro ?_ ?_); focus (first | exact True.intro | omega | (simp only [InK, ne_eq, and_true, true_and]; omega) | trivial)) | (simp -dsimp only [↓RP, RQ, Nat.reduceMul, reduceIte, reduceCtorEq, Nat.reduceAdd, Nat.reduceEqDiff, Nat.reduceLT, Nat.reduceLeDiff, hpc, f1, hg, nsv, QW, Try.results39])))
      all_goals try (exfalso; omega)
      refine ⟨s + 1, by omega, by omega, weak [] [] ?_ ?_ ?_⟩
      ·(simp -dsimp only [↓RP, RQ, Nat.reduceMul, reduceIte, reduceCtorEq, Nat.reduceAdd, Nat.reduceEqDiff, Nat.reduceLT, Nat.reduceLeDiff, QV, e]); all_goals (try simp [QV, e])
      iterate 2 focus ((simp -dsimp only [↓RP, RQ, Nat.reduceMul, reduceIte, reduceCtorEq, Nat.reduceAdd, Nat.reduceEqDiff, Nat.reduceLT, Nat.reduceLeDiff, QV]); all_goals (try simp [QV]))
    | true =>
     by_cases hjl : j < U.length
     ·have f1 := decide_eq_true (show ((j : Nat) : Int) < ((U.length : Nat) : Int) by omega)
      have eg := goodB_S hg
      have hu := hux _ (getD_mem hjl)
      obtain ⟨u, huu⟩ : ∃ u, U.getD j 0 = u := ⟨_, rfl⟩
      rw [huu] at eg hu
      by_cases hu0 : u = 0
      ·have f2 := decide_eq_true (show ((u : Nat) : Int) = 0 by omega)
       rw [decide_eq_true (Or.inl hu0)] at eg
       (repeat' (first | with_reducible (first | apply splitVC_d <;> intro _ | apply splitVC <;> intro _) | ((with_reducible refine And.intro ?_ ?_); focus (first | exact True.intro | omega | (simp only [InK, ne_eq, and_true, true_and]; omega) | trivial)) | (simp -dsimp only [↓RP, RQ, Nat.reduceMul, reduceIte, reduceCtorEq, Nat.reduceAdd, Nat.reduceEqDiff, Nat.reduceLT, Nat.reduceLeDiff, f1, hg, huu, f2, nsv, QW, Try.results39])))
       all_goals try (exfalso; omega)
       refine ⟨j + 1, by omega, by omega, weak [] [] ?_ ?_ ?_⟩
       ·(simp -dsimp only [↓RP, RQ, Nat.reduceMul, reduceIte, reduceCtorEq, Nat.reduceAdd, Nat.reduceEqDiff, Nat.reduceLT, Nat.reduceLeDiff, QV, eg]); all_goals (try simp [QV, eg])
       iterate 2 focus ((simp -dsimp only [↓RP, RQ, Nat.reduceMul, reduceIte, reduceCtorEq, Nat.reduceAdd, Nat.reduceEqDiff, Nat.reduceLT, Nat.reduceLeDiff, QV]); all_goals (try simp [QV]))
      ·have f2 := decide_eq_false (show ¬ ((u : Nat) : Int) = 0 by omega)
       have hle : u &&& s ≤ u := Nat.and_le_left
       by_cases hus : u &&& s = 0
       ·have f3 := decide_eq_true (show (((u &&& s : Nat)) : Int) = 0 by omega)
        rw [decide_eq_false (show ¬ (u = 0 ∨ u &&& s ≠ 0) from fun h => h.elim hu0 (fun h => h hus))] at eg
        (repeat' (first | with_reducible (first | apply splitVC_d <;> intro _ | apply splitVC <;> intro _) | ((with_reducible refine And.intro ?_ ?_); focus (first | exact True.intro | omega | (simp only [InK, ne_eq, and_true, true_and]; omega) | trivial)) | (simp -dsimp only [↓RP, RQ, Nat.reduceMul, reduceIte, reduceCtorEq, Nat.reduceAdd, Nat.reduceEqDiff, Nat.reduceLT, Nat.reduceLeDiff, f1, hg, huu, f2, f3, nsv, QW, Try.results39])))
        all_goals try (exfalso; omega)
        refine ⟨j + 1, by omega, by omega, weak [] [] ?_ ?_ ?_⟩
        ·(simp -dsimp only [↓RP, RQ, Nat.reduceMul, reduceIte, reduceCtorEq, Nat.reduceAdd, Nat.reduceEqDiff, Nat.reduceLT, Nat.reduceLeDiff, QV, eg]); all_goals (try simp [QV, eg])
        iterate 2 focus ((simp -dsimp only [↓RP, RQ, Nat.reduceMul, reduceIte, reduceCtorEq, Nat.reduceAdd, Nat.reduceEqDiff, Nat.reduceLT, Nat.reduceLeDiff, QV]); all_goals (try simp [QV]))
       ·have f3 := decide_eq_false (show ¬ (((u &&& s : Nat)) : Int) = 0 by omega)
        rw [decide_eq_true (show (u = 0 ∨ u &&& s ≠ 0) from .inr hus)] at eg
        (repeat' (first | with_reducible (first | apply splitVC_d <;> intro _ | apply splitVC <;> intro _) | ((with_reducible refine And.intro ?_ ?_); focus (first | exact True.intro | omega | (simp only [InK, ne_eq, and_true, true_and]; omega) | trivial)) | (simp -dsimp only [↓RP, RQ, Nat.reduceMul, reduceIte, reduceCtorEq, Nat.reduceAdd, Nat.reduceEqDiff, Nat.reduceLT, Nat.reduceLeDiff, f1, hg, huu, f2, f3, nsv, QW, Try.results39])))
        all_goals try (exfalso; omega)
        refine ⟨j + 1, by omega, by omega, weak [] [] ?_ ?_ ?_⟩
        ·(simp -dsimp only [↓RP, RQ, Nat.reduceMul, reduceIte, reduceCtorEq, Nat.reduceAdd, Nat.reduceEqDiff, Nat.reduceLT, Nat.reduceLeDiff, QV, eg]); all_goals (try simp [QV, eg])
        iterate 2 focus ((simp -dsimp only [↓RP, RQ, Nat.reduceMul, reduceIte, reduceCtorEq, Nat.reduceAdd, Nat.reduceEqDiff, Nat.reduceLT, Nat.reduceLeDiff, QV]); all_goals (try simp [QV]))
     ·have f1 := decide_eq_false (show ¬ ((j : Nat) : Int) < ((U.length : Nat) : Int) by omega)
      have hgs : goodS U s := goodB_all (by rw [show U.length = j by omega]; exact hg)
      (repeat' (first | with_reducible (first | apply splitVC_d <;> intro _ | apply splitVC <;> intro _) | ((with_reducible refine And.intro ?_ ?_); focus (first | exact True.intro | omega | (simp only [InK, ne_eq, and_true, true_and]; omega) | trivial)) | (simp -dsimp only [↓RP, RQ, Nat.reduceMul, reduceIte, reduceCtorEq, Nat.reduceAdd, Nat.reduceEqDiff, Nat.reduceLT, Nat.reduceLeDiff, hpc, f1, hg, nsv, QW, Try.results39])))
      all_goals try (exfalso; omega)
      refine callVC (c47 s m (by omega) (by omega)) (by (simp -dsimp only [↓RP, RQ, Nat.reduceMul, reduceIte, reduceCtorEq, Nat.reduceAdd, Nat.reduceEqDiff, Nat.reduceLT, Nat.reduceLeDiff, QV, I]); all_goals (try simp [QV])) (by (simp -dsimp only [↓RP, RQ, Nat.reduceMul, reduceIte, reduceCtorEq, Nat.reduceAdd, Nat.reduceEqDiff, Nat.reduceLT, Nat.reduceLeDiff, nsv, B]); all_goals (try simp [QV])) ?_
      (repeat' (first | with_reducible (first | apply splitVC_d <;> intro _ | apply splitVC <;> intro _) | ((with_reducible refine And.intro ?_ ?_); focus (first | exact True.intro | omega | (simp only [InK, ne_eq, and_true, true_and]; omega) | trivial)) | (simp -dsimp only [↓RP, RQ, Nat.reduceMul, reduceIte, reduceCtorEq, Nat.reduceAdd, Nat.reduceEqDiff, Nat.reduceLT, Nat.reduceLeDiff, hpc, f1, hg, nsv, QW, Try.results39])))
      all_goals try (exfalso; omega)
      refine callVC (c81 (bitsL s m) (refB U m s) (by omega) (by omega)) (by (simp -dsimp only [↓RP, RQ, Nat.reduceMul, reduceIte, reduceCtorEq, Nat.reduceAdd, Nat.reduceEqDiff, Nat.reduceLT, Nat.reduceLeDiff, QV, nar]); all_goals (try simp [QV, Go.Sx.Sub, Go.Sx.SubL])) (by (simp -dsimp only [↓RP, RQ, Nat.reduceMul, reduceIte, reduceCtorEq, Nat.reduceAdd, Nat.reduceEqDiff, Nat.reduceLT, Nat.reduceLeDiff, QX]); all_goals (try simp [QV])) ?_
      cases hbf : befo (bitsL s m) (refB U m s) with
      | true =>
       have e : refB U m (s + 1) = bitsL s m := by rw [refB_S, if_pos ⟨hgs, hbf⟩]
       (repeat' (first | with_reducible (first | apply splitVC_d <;> intro _ | apply splitVC <;> intro _) | ((with_reducible refine And.intro ?_ ?_); focus (first | exact True.intro | omega | (simp only [InK, ne_eq, and_true, true_and]; omega) | trivial)) | (simp -dsimp only [↓RP, RQ, Nat.reduceMul, reduceIte, reduceCtorEq, Nat.reduceAdd, Nat.reduceEqDiff, Nat.reduceLT, Nat.reduceLeDiff, hpc, f1, hg, nsv, QW, Try.results39])))
       all_goals try (exfalso; omega)
       refine callVC (c47 s m (by omega) (by omega)) (by (simp -dsimp only [↓RP, RQ, Nat.reduceMul, reduceIte, reduceCtorEq, Nat.reduceAdd, Nat.reduceEqDiff, Nat.reduceLT, Nat.reduceLeDiff, QV, I]); all_goals (try simp [QV])) (by (simp -dsimp only [↓RP, RQ, Nat.reduceMul, reduceIte, reduceCtorEq, Nat.reduceAdd, Nat.reduceEqDiff, Nat.reduceLT, Nat.reduceLeDiff, nsv, B]); all_goals (try simp [QV])) ?_
       (repeat' (first | with_reducible (first | apply splitVC_d <;> intro _ | apply splitVC <;> intro _) | ((with_reducible refine And.intro ?_ ?_); focus (first | exact True.intro | omega | (simp only [InK, ne_eq, and_true, true_and]; omega) | trivial)) | (simp -dsimp only [↓RP, RQ, Nat.reduceMul, reduceIte, reduceCtorEq, Nat.reduceAdd, Nat.reduceEqDiff, Nat.reduceLT, Nat.reduceLeDiff, hpc, f1, hg, nsv, QW, Try.results39])))
       all_goals try (exfalso; omega)
       refine ⟨s + 1, by omega, by omega, weak [] [] ?_ ?_ ?_⟩
       ·(simp -dsimp only [↓RP, RQ, Nat.reduceMul, reduceIte, reduceCtorEq, Nat.reduceAdd, Nat.reduceEqDiff, Nat.reduceLT, Nat.reduceLeDiff, QV, e]); all_goals (try simp [QV, e])
       iterate 2 focus ((simp -dsimp only [↓RP, RQ, Nat.reduceMul, reduceIte, reduceCtorEq, Nat.reduceAdd, Nat.reduceEqDiff, Nat.reduceLT, Nat.reduceLeDiff, QV]); all_goals (try simp [QV]))
      | false =>
       have e : refB U m (s + 1) = refB U m s := by rw [refB_S, if_neg (fun h => by rw [hbf] at h; cases h.2)]
       (repeat' (first | with_reducible (first | apply splitVC_d <;> intro _ | apply splitVC <;> intro _) | ((with_reducible refine And.intro ?_ ?_); focus (first | exact True.intro | omega | (simp only [InK, ne_eq, and_true, true_and]; omega) | trivial)) | (simp -dsimp only [↓RP, RQ, Nat.reduceMul, reduceIte, reduceCtorEq, Nat.reduceAdd, Nat.reduceEqDiff, Nat.reduceLT, Nat.reduceLeDiff, hpc, f1, hg, nsv, QW, Try.results39])))
       all_goals try (exfalso; omega)
       refine ⟨s + 1, by omega, by omega, weak [] [] ?_ ?_ ?_⟩
       ·(simp -dsimp only [↓RP, RQ, Nat.reduceMul, reduceIte, reduceCtorEq, Nat.reduceAdd, Nat.reduceEqDiff, Nat.reduceLT, Nat.reduceLeDiff, QV, e]); all_goals (try simp [QV, e])
       iterate 2 focus ((simp -dsimp only [↓RP, RQ, Nat.reduceMul, reduceIte, reduceCtorEq, Nat.reduceAdd, Nat.reduceEqDiff, Nat.reduceLT, Nat.reduceLeDiff, QV]); all_goals (try simp [QV]))
   ·have hsp : P = s := by omega
    subst hsp
    (repeat' (first | with_reducible (first | apply splitVC_d <;> intro _ | apply splitVC <;> intro _) | ((with_reducible refine And.intro ?_ ?_); focus (first | exact True.intro | omega | (simp only [InK, ne_eq, and_true, true_and]; omega) | trivial)) | (simp -dsimp only [↓RP, RQ, Nat.reduceMul, reduceIte, reduceCtorEq, Nat.reduceAdd, Nat.reduceEqDiff, Nat.reduceLT, Nat.reduceLeDiff, hpc, nsv, QW, Try.results39])))
    all_goals try (exfalso; omega)
    exact fun h => h
 ·rw [ba_bad he, (fn_bad he).2]
  have hd : (!decide (ckR N m w = 0)) = true := by simp [he]
  unfold rsv I
  (repeat' (first | with_reducible (first | apply splitVC_d <;> intro _ | apply splitVC <;> intro _) | ((with_reducible refine And.intro ?_ ?_); focus (first | exact True.intro | omega | (simp only [InK, ne_eq, and_true, true_and]; omega) | trivial)) | (simp -dsimp only [↓RP, RQ, Nat.reduceMul, reduceIte, reduceCtorEq, Nat.reduceAdd, Nat.reduceEqDiff, Nat.reduceLT, Nat.reduceLeDiff, hd, nsv, QW, Try.results39])))
  refine callVC (c20 N m w hm) ?_ ?_ ?_; iterate 2 focus ((simp -dsimp only [↓RP, RQ, Nat.reduceMul, reduceIte, reduceCtorEq, Nat.reduceAdd, Nat.reduceEqDiff, Nat.reduceLT, Nat.reduceLeDiff, QX]); all_goals (try simp [QV, Go.Sx.Sub, Go.Sx.SubL]); all_goals (try exact lit2 _ _))
  (repeat' (first | with_reducible (first | apply splitVC_d <;> intro _ | apply splitVC <;> intro _) | ((with_reducible refine And.intro ?_ ?_); focus (first | exact True.intro | omega | (simp only [InK, ne_eq, and_true, true_and]; omega) | trivial)) | (simp -dsimp only [↓RP, RQ, Nat.reduceMul, reduceIte, reduceCtorEq, Nat.reduceAdd, Nat.reduceEqDiff, Nat.reduceLT, Nat.reduceLeDiff, hd, nsv, QW, Try.results39])))
  refine callVC (c20 N m w hm) ?_ ?_ ?_; iterate 2 focus ((simp -dsimp only [↓RP, RQ, Nat.reduceMul, reduceIte, reduceCtorEq, Nat.reduceAdd, Nat.reduceEqDiff, Nat.reduceLT, Nat.reduceLeDiff, QX]); all_goals (try simp [QV, Go.Sx.Sub, Go.Sx.SubL]); all_goals (try exact lit2 _ _))
  (repeat' (first | with_reducible (first | apply splitVC_d <;> intro _ | apply splitVC <;> intro _) | ((with_reducible refine And.intro ?_ ?_); focus (first | exact True.intro | omega | (simp only [InK, ne_eq, and_true, true_and]; omega) | trivial)) | (simp -dsimp only [↓RP, RQ, Nat.reduceMul, reduceIte, reduceCtorEq, Nat.reduceAdd, Nat.reduceEqDiff, Nat.reduceLT, Nat.reduceLeDiff, hd, nsv, QW, Try.results39])))
end Go.He
end
