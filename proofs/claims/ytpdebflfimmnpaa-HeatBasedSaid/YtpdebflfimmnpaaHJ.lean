/- A part of the proof. -/
import Derived.Test.YtpdebflfimmnpaaHI
import Derived.Test.YtpdebflfimmnpaaHC
section
set_option linter.unusedSimpArgs false
set_option linter.unusedVariables false
set_option linter.defProp false
set_option maxRecDepth 100000
set_option maxHeartbeats 16000000
namespace Go.He
open Go.Proofs
open Go.Sx
def baP (N : Int) (m : Nat) (w : Nat → Wd) : List Nat := baseP (MsL w m N.toNat (N.toNat ^ N.toNat)) m
def baL (N : Int) (m : Nat) (w : Nat → Wd) : List Nat := if ckR N m w = 0 ∧ (agrs w m N.toNat).length ≠ 0 then baP N m w else []
theorem ba_bad {N : Int} {m : Nat} {w : Nat → Wd} (h : ckR N m w ≠ 0) : baL N m w = [] := by unfold baL; rw [if_neg (fun h' => h h'.1)]
theorem ba_none {n m : Nat} {w : Nat → Wd} (h0 : (agrs w m n).length = 0) : baL n m w = [] := by unfold baL; rw [Int.toNat_natCast, if_neg (fun h' => h'.2 h0)]
theorem ba_some {n m : Nat} {w : Nat → Wd} (h : ckR n m w = 0) (h0 : (agrs w m n).length ≠ 0) : baL n m w = baseP (MsL w m n (n ^ n)) m := by unfold baL; rw [Int.toNat_natCast, if_pos ⟨h, h0⟩]; rfl
theorem inc_len {l : List Nat} {m : Nat} (h : Inc l 0 m) : l.length ≤ m := by
 by_cases e : l = []
 ·rw [e]; exact Nat.zero_le _
 ·have := h.len e; omega
theorem baP_len {w : Nat → Wd} {m n : Nat} : (baseP (MsL w m n (n ^ n)) m).length ≤ m := inc_len (base_bst (MsL_msk w m n)).inc
theorem c38 (N : Int) (m : Nat) (w : Nat → Wd) (hm : m ≤ 1000000) : Contract Try.prog 38 [rsv N m w] (.tup [nsv (baL N m w), I (fnE N m w)]) := by
 refine contract_of Try.func38 rfl (by kernel_rfl) follows (by kernel_rfl) _ _ (by rw [Try.ntmps38]; simp) (by simp [OldL, Old, QV, rsv, ints]) ?_
 by_cases he : ckR N m w = 0
 ·have ⟨n2, n5, m12, _⟩ := ckR_ok he
  obtain ⟨n, rfl⟩ : ∃ n : Nat, N = n := ⟨N.toNat, by omega⟩
  have hw := ckR_fit he
  by_cases h0 : (agrs w m n).length = 0
  ·have fe : decide ((if (agrs w m n).length = 0 then (22 : Int) else 0) = 0) = false := by rw [if_pos h0]; rfl
   rw [ba_none h0, (fn_none he h0).2]
   unfold rsv I
   (repeat' (first | with_reducible (first | apply splitVC_d <;> intro _ | apply splitVC <;> intro _) | ((with_reducible refine And.intro ?_ ?_); focus (first | exact True.intro | omega | (simp only [InK, ne_eq, and_true, true_and]; omega) | trivial)) | (simp -dsimp only [↓RP, RQ, Nat.reduceMul, reduceIte, reduceCtorEq, Nat.reduceAdd, Nat.reduceEqDiff, Nat.reduceLT, Nat.reduceLeDiff, nsv, QW, Try.results38])))
   refine callVC_old (c56 n m w hm he) (by (simp -dsimp only [↓RP, RQ, Nat.reduceMul, reduceIte, reduceCtorEq, Nat.reduceAdd, Nat.reduceEqDiff, Nat.reduceLT, Nat.reduceLeDiff, QX]); all_goals (try simp [QV, Go.Sx.Sub, Go.Sx.SubL]); all_goals (try exact lit2 _ _)) ?_
   (repeat' (first | with_reducible (first | apply splitVC_d <;> intro _ | apply splitVC <;> intro _) | ((with_reducible refine And.intro ?_ ?_); focus (first | exact True.intro | omega | (simp only [InK, ne_eq, and_true, true_and]; omega) | trivial)) | (simp -dsimp only [↓RP, RQ, Nat.reduceMul, reduceIte, reduceCtorEq, Nat.reduceAdd, Nat.reduceEqDiff, Nat.reduceLT, Nat.reduceLeDiff, nsv, QW, Try.results38])))
   refine callVC (c72 n (by omega) (by omega) m hm w hw) ?_ ?_ ?_; iterate 2 focus ((simp -dsimp only [↓RP, RQ, Nat.reduceMul, reduceIte, reduceCtorEq, Nat.reduceAdd, Nat.reduceEqDiff, Nat.reduceLT, Nat.reduceLeDiff, QX]); all_goals (try simp [QV, Go.Sx.Sub, Go.Sx.SubL]); all_goals (try exact lit2 _ _))
   (repeat' (first | with_reducible (first | apply splitVC_d <;> intro _ | apply splitVC <;> intro _) | ((with_reducible refine And.intro ?_ ?_); focus (first | exact True.intro | omega | (simp only [InK, ne_eq, and_true, true_and]; omega) | trivial)) | (simp -dsimp only [↓RP, RQ, Nat.reduceMul, reduceIte, reduceCtorEq, Nat.reduceAdd, Nat.reduceEqDiff, Nat.reduceLT, Nat.reduceLeDiff, h0, nsv, QW, Try.results38])))
   all_goals try (exfalso; omega)
  ·rw [ba_some he h0, (fn_some he h0).2]
   have hbl := baP_len (w := w) (m := m) (n := n)
   unfold rsv I
   (repeat' (first | with_reducible (first | apply splitVC_d <;> intro _ | apply splitVC <;> intro _) | ((with_reducible refine And.intro ?_ ?_); focus (first | exact True.intro | omega | (simp only [InK, ne_eq, and_true, true_and]; omega) | trivial)) | (simp -dsimp only [↓RP, RQ, Nat.reduceMul, reduceIte, reduceCtorEq, Nat.reduceAdd, Nat.reduceEqDiff, Nat.reduceLT, Nat.reduceLeDiff, nsv, QW, Try.results38])))
   refine callVC_old (c56 n m w hm he) (by (simp -dsimp only [↓RP, RQ, Nat.reduceMul, reduceIte, reduceCtorEq, Nat.reduceAdd, Nat.reduceEqDiff, Nat.reduceLT, Nat.reduceLeDiff, QX]); all_goals (try simp [QV, Go.Sx.Sub, Go.Sx.SubL]); all_goals (try exact lit2 _ _)) ?_
   (repeat' (first | with_reducible (first | apply splitVC_d <;> intro _ | apply splitVC <;> intro _) | ((with_reducible refine And.intro ?_ ?_); focus (first | exact True.intro | omega | (simp only [InK, ne_eq, and_true, true_and]; omega) | trivial)) | (simp -dsimp only [↓RP, RQ, Nat.reduceMul, reduceIte, reduceCtorEq, Nat.reduceAdd, Nat.reduceEqDiff, Nat.reduceLT, Nat.reduceLeDiff, nsv, QW, Try.results38])))
   refine callVC (c72 n (by omega) (by omega) m hm w hw) ?_ ?_ ?_; iterate 2 focus ((simp -dsimp only [↓RP, RQ, Nat.reduceMul, reduceIte, reduceCtorEq, Nat.reduceAdd, Nat.reduceEqDiff, Nat.reduceLT, Nat.reduceLeDiff, QX]); all_goals (try simp [QV, Go.Sx.Sub, Go.Sx.SubL]); all_goals (try exact lit2 _ _))
   (repeat' (first | with_reducible (first | apply splitVC_d <;> intro _ | apply splitVC <;> intro _) | ((with_reducible refine And.intro ?_ ?_); focus (first | exact True.intro | omega | (simp only [InK, ne_eq, and_true, true_and]; omega) | trivial)) | (simp -dsimp only [↓RP, RQ, Nat.reduceMul, reduceIte, reduceCtorEq, Nat.reduceAdd, Nat.reduceEqDiff, Nat.reduceLT, Nat.reduceLeDiff, h0, nsv, QW, Try.results38])))
   all_goals try (exfalso; omega)
   refine callVC (c79 n (by omega) (by omega) m (by omega) w hw) (by (simp -dsimp only [↓RP, RQ, Nat.reduceMul, reduceIte, reduceCtorEq, Nat.reduceAdd, Nat.reduceEqDiff, Nat.reduceLT, Nat.reduceLeDiff, QX]); all_goals (try simp [QV, Go.Sx.Sub, Go.Sx.SubL]); all_goals (try exact lit2 _ _)) (by (simp -dsimp only [↓RP, RQ, Nat.reduceMul, reduceIte, reduceCtorEq, Nat.reduceAdd, Nat.reduceEqDiff, Nat.reduceLT, Nat.reduceLeDiff, nsv, B]); all_goals (try simp [QV])) ?_
   (repeat' (first | with_reducible (first | apply splitVC_d <;> intro _ | apply splitVC <;> intro _) | ((with_reducible refine And.intro ?_ ?_); focus (first | exact True.intro | omega | (simp only [InK, ne_eq, and_true, true_and]; omega) | trivial)) | (simp -dsimp only [↓RP, RQ, Nat.reduceMul, reduceIte, reduceCtorEq, Nat.reduceAdd, Nat.reduceEqDiff, Nat.reduceLT, Nat.reduceLeDiff, nsv, QW, Try.results38])))
   all_goals first | (exfalso; omega) | exact fun h => h | skip
 ·rw [ba_bad he, (fn_bad he).2]
  have hd : (!decide (ckR N m w = 0)) = true := by simp [he]
  unfold rsv I
  (repeat' (first | with_reducible (first | apply splitVC_d <;> intro _ | apply splitVC <;> intro _) | ((with_reducible refine And.intro ?_ ?_); focus (first | exact True.intro | omega | (simp only [InK, ne_eq, and_true, true_and]; omega) | trivial)) | (simp -dsimp only [↓RP, RQ, Nat.reduceMul, reduceIte, reduceCtorEq, Nat.reduceAdd, Nat.reduceEqDiff, Nat.reduceLT, Nat.reduceLeDiff, hd, nsv, QW, Try.results38])))
  refine callVC_old (c56e N m w hm he) (by (simp -dsimp only [↓RP, RQ, Nat.reduceMul, reduceIte, reduceCtorEq, Nat.reduceAdd, Nat.reduceEqDiff, Nat.reduceLT, Nat.reduceLeDiff, QX]); all_goals (try simp [QV, Go.Sx.Sub, Go.Sx.SubL]); all_goals (try exact lit2 _ _)) ?_
  (repeat' (first | with_reducible (first | apply splitVC_d <;> intro _ | apply splitVC <;> intro _) | ((with_reducible refine And.intro ?_ ?_); focus (first | exact True.intro | omega | (simp only [InK, ne_eq, and_true, true_and]; omega) | trivial)) | (simp -dsimp only [↓RP, RQ, Nat.reduceMul, reduceIte, reduceCtorEq, Nat.reduceAdd, Nat.reduceEqDiff, Nat.reduceLT, Nat.reduceLeDiff, hd, nsv, QW, Try.results38])))
end Go.He
end
section
set_option linter.unusedSimpArgs false
set_option linter.unusedVariables false
set_option linter.defProp false
set_option maxRecDepth 100000
set_option maxHeartbeats 16000000
namespace Go.He
open Go.Proofs
open Go.Sx
theorem bits_more {s K : Nat} (h : s / 2 ^ K = 0) : ∀ m, K ≤ m → bitsL s m = bitsL s K := by
 intro m hm
 obtain ⟨d, rfl⟩ : ∃ d, m = K + d := ⟨m - K, by omega⟩
 clear hm
 induction d with
 | zero => rfl
 | succ d ih =>
  have hb : s.testBit (K + d) = false := by
   refine Nat.testBit_lt_two_pow ?_
   have h1 : s < 2 ^ K := by
    rcases Nat.div_eq_zero_iff.1 h with h | h
    ·exact absurd h (by have := Nat.two_pow_pos K; omega)
    ·exact h
   exact Nat.lt_of_lt_of_le h1 (Nat.pow_le_pow_right (by decide) (by omega))
  show lst _ (K + d + 1) = _
  simp only [lst]
  rw [if_neg (by simp [hb])]
  exact ih
theorem bitsL_S (s k : Nat) : bitsL s (k + 1) = if s.testBit k = true then bitsL s k ++ [k] else bitsL s k := rfl
theorem bitsL_0 (s : Nat) : bitsL s 0 = [] := rfl
theorem bitsL_len (s m : Nat) : (bitsL s m).length ≤ m := lst_len _ _
theorem fdivN (s i : Nat) : ((s : Nat) : Int).fdiv (2 ^ i) = ((s / 2 ^ i : Nat) : Int) := by
 rw [Int.fdiv_eq_ediv_of_nonneg _ (Int.le_of_lt (Int.pow_pos (by decide)))]
 have e : ((2 : Int) ^ i) = ((2 ^ i : Nat) : Int) := by simp
 rw [e, ← Int.natCast_ediv]
theorem and1 (s i : Nat) : decide (((s / 2 ^ i &&& 1 : Nat) : Int) = 1) = s.testBit i := by
 rw [Nat.testBit_eq_decide_div_mod_eq, Nat.and_one_is_mod, Bool.eq_iff_iff, decide_eq_true_eq, decide_eq_true_eq]
 omega
theorem c47 (s m : Nat) (hm : m ≤ 12) (hs : s < 2 ^ m) : Contract Try.prog 47 [I s] (nsv (bitsL s m)) := by
 refine contract_of Try.func47 rfl (by kernel_rfl) follows (by kernel_rfl) _ _ (by rw [Try.ntmps47]; simp) (by simp [OldL, Old, QV, I]) ?_
 have h4 : s < 4096 := Nat.lt_of_lt_of_le hs (Nat.pow_le_pow_right (n := 2) (by decide) hm)
 unfold I
 (repeat' (first | with_reducible (first | apply splitVC_d <;> intro _ | apply splitVC <;> intro _) | ((with_reducible refine And.intro ?_ ?_); focus (first | exact True.intro | omega | (simp only [InK, ne_eq, and_true, true_and]; omega) | (and_intros <;> first | exact .inr trivial | exact Nat.le_refl _ | exact one1 _ | exact one5 _ _ _ _ _ | exact .inl rfl | omega) | trivial)) | (simp -dsimp only [↓RP, RQ, Nat.reduceMul, reduceIte, reduceCtorEq, Nat.reduceAdd, Nat.reduceEqDiff, Nat.reduceLT, Nat.reduceLeDiff, getD_app, app_len, nsv, fdivN, and1, QW, Try.results47])))
 all_goals try (exfalso; omega)
 refine loop_vc (fun (i : Nat) => i ≤ m) (fun i => ⟨[(0, .val (.int .i64 (s : Nat))), (3, .vec 60 (bitsL s i).length 1), (4, .val (.int .i64 (i : Nat)))], [(60, .rows 3 1 (bitsL s i).length (fun y _ => .val (.int .i64 ((bitsL s i).getD y 0 : Nat))))], 80⟩) (fun i => m - i) 0 (Nat.zero_le _) (weak [(60, none)] [] ?_ ?_ ?_) fun i hi => ?_
 iterate 3 focus ((simp -dsimp only [↓RP, RQ, Nat.reduceMul, reduceIte, reduceCtorEq, Nat.reduceAdd, Nat.reduceEqDiff, Nat.reduceLT, Nat.reduceLeDiff, QV, bitsL_0]); all_goals (try simp [QV, bitsL_0]))
 have hbl := bitsL_len s i
 have hd := Nat.div_le_self s (2 ^ i)
 have hb6 : i ≤ IntKind.i64.bits := by show i ≤ 64; omega
 obtain ⟨D, hD⟩ : ∃ D, s / 2 ^ i = D := ⟨_, rfl⟩
 have hA : D &&& 1 ≤ 1 := Nat.and_le_right
 by_cases hz : D = 0
 ·have e := bits_more (hD.trans hz) m hi
  rw [e]
  have f0 := decide_eq_false (show ¬ (0 : Int) < ((D : Nat) : Int) by omega)
  rw [hD] at hd
  (repeat' (first | with_reducible (first | apply splitVC_d <;> intro _ | apply splitVC <;> intro _) | ((with_reducible refine And.intro ?_ ?_); focus (first | exact True.intro | omega | (simp only [InK, ne_eq, and_true, true_and]; omega) | (and_intros <;> first | exact .inr trivial | exact Nat.le_refl _ | exact one1 _ | exact one5 _ _ _ _ _ | exact .inl rfl | omega) | trivial)) | (simp -dsimp only [↓RP, RQ, Nat.reduceMul, reduceIte, reduceCtorEq, Nat.reduceAdd, Nat.reduceEqDiff, Nat.reduceLT, Nat.reduceLeDiff, hD, f0, getD_app, app_len, nsv, fdivN, and1, QW, Try.results47])))
  all_goals try (exfalso; omega)
  exact Nat.le_refl _
 ·have f0 := decide_eq_true (show (0 : Int) < ((D : Nat) : Int) by omega)
  have him : i < m := by
   refine Classical.byContradiction fun hc => hz ?_
   have : i = m := by omega
   subst this
   rw [← hD]; exact Nat.div_eq_of_lt hs
  have ha1 := and1 s i
  rw [hD] at hd ha1
  cases ht : s.testBit i with
  | true =>
   have e := bitsL_S s i
   rw [if_pos ht] at e
   rw [ht] at ha1
   (repeat' (first | with_reducible (first | apply splitVC_d <;> intro _ | apply splitVC <;> intro _) | ((with_reducible refine And.intro ?_ ?_); focus (first | exact True.intro | omega | (simp only [InK, ne_eq, and_true, true_and]; omega) | (and_intros <;> first | exact .inr trivial | exact Nat.le_refl _ | exact one1 _ | exact one5 _ _ _ _ _ | exact .inl rfl | omega) | trivial)) | (simp -dsimp only [↓RP, RQ, Nat.reduceMul, reduceIte, reduceCtorEq, Nat.reduceAdd, Nat.reduceEqDiff, Nat.reduceLT, Nat.reduceLeDiff, hD, f0, ha1, getD_app, app_len, nsv, fdivN, and1, QW, Try.results47])))
   all_goals try (exfalso; omega)
   refine ⟨i + 1, by omega, by omega, weak [(60, some 92)] [] ?_ ?_ ?_⟩
   ·(simp -dsimp only [↓RP, RQ, Nat.reduceMul, reduceIte, reduceCtorEq, Nat.reduceAdd, Nat.reduceEqDiff, Nat.reduceLT, Nat.reduceLeDiff, QV, e, app_len, getD_app]); all_goals (try simp [QV, e, app_len, getD_app])
   ·(simp -dsimp only [↓RP, RQ, Nat.reduceMul, reduceIte, reduceCtorEq, Nat.reduceAdd, Nat.reduceEqDiff, Nat.reduceLT, Nat.reduceLeDiff, QV, e, app_len, getD_app]); all_goals (try simp [QV, e, app_len, getD_app]); all_goals first | exact growN _ _ | skip
   ·(simp -dsimp only [↓RP, RQ, Nat.reduceMul, reduceIte, reduceCtorEq, Nat.reduceAdd, Nat.reduceEqDiff, Nat.reduceLT, Nat.reduceLeDiff, QV]); all_goals (try simp [QV])
  | false =>
   have e := bitsL_S s i
   rw [if_neg (by simp [ht])] at e
   rw [ht] at ha1
   (repeat' (first | with_reducible (first | apply splitVC_d <;> intro _ | apply splitVC <;> intro _) | ((with_reducible refine And.intro ?_ ?_); focus (first | exact True.intro | omega | (simp only [InK, ne_eq, and_true, true_and]; omega) | (and_intros <;> first | exact .inr trivial | exact Nat.le_refl _ | exact one1 _ | exact one5 _ _ _ _ _ | exact .inl rfl | omega) | trivial)) | (simp -dsimp only [↓RP, RQ, Nat.reduceMul, reduceIte, reduceCtorEq, Nat.reduceAdd, Nat.reduceEqDiff, Nat.reduceLT, Nat.reduceLeDiff, hD, f0, ha1, getD_app, app_len, nsv, fdivN, and1, QW, Try.results47])))
   all_goals try (exfalso; omega)
   refine ⟨i + 1, by omega, by omega, weak [] [] ?_ ?_ ?_⟩
   iterate 2 focus ((simp -dsimp only [↓RP, RQ, Nat.reduceMul, reduceIte, reduceCtorEq, Nat.reduceAdd, Nat.reduceEqDiff, Nat.reduceLT, Nat.reduceLeDiff, QV, e]); all_goals (try simp [QV, e]))
   ·(simp -dsimp only [↓RP, RQ, Nat.reduceMul, reduceIte, reduceCtorEq, Nat.reduceAdd, Nat.reduceEqDiff, Nat.reduceLT, Nat.reduceLeDiff, QV]); all_goals (try simp [QV])
end Go.He
end
