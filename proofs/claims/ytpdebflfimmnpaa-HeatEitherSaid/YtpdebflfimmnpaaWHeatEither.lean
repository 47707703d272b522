/- A part of the proof. -/
import Derived.Test.YtpdebflfimmnpaaHK
section
set_option linter.unusedSimpArgs false
set_option linter.unusedVariables false
set_option linter.defProp false
set_option maxRecDepth 100000
set_option maxHeartbeats 16000000
namespace Go.He
open Go.Proofs
open Go.Sx
theorem same_r (a : Nat) (u : Nat → Int) : decide (sameI a u a u) = true := decide_eq_true ⟨rfl, fun _ _ => rfl⟩
theorem nle20 {m : Nat} (h : ¬ 20 < m) : m ≤ 1000000 := by omega
end Go.He
end
section
set_option linter.unusedSimpArgs false
set_option linter.unusedVariables false
set_option linter.defProp false
set_option maxRecDepth 100000
set_option maxHeartbeats 16000000
namespace Go.He
open Go.Proofs
open Go.Sx
theorem ci_some {n m : Nat} {w : Nat → Wd} (h : ckR n m w = 0) : (ciL n m w).length = shN w m n m := by
 unfold ciL; rw [if_pos h, Int.toNat_natCast]; exact cO_len (ckR_fit h)
theorem ci_e {n m : Nat} {w : Nat → Wd} (h : ckR n m w = 0) : ciE n m w = if shN w m n m = 0 then 11 else 0 := by
 unfold ciE; rw [if_neg (by omega), Int.toNat_natCast, cO_len (ckR_fit h)]
theorem ci_ck {n m : Nat} {w : Nat → Wd} (h : ckR n m w = 0) (h0 : shN w m n m ≠ 0) : ckC n m w (ciL n m w).length (fun i => ((ciL n m w).getD i 0 : Nat)) = 0 := by
 have ⟨_, n5, m12, _⟩ := ckR_ok h
 have hw := ckR_fit h
 have hl := ci_some h
 have hle := short_le (w := w) (m := m) (n := n)
 have e : ciL n m w = cO w m n n := by unfold ciL; rw [if_pos h, Int.toNat_natCast]
 rw [e] at hl ⊢
 have hne : cO w m n n ≠ [] := fun h => by rw [h] at hl; exact h0 hl.symm
 obtain ⟨hc, hb⟩ := cO_circ hw hne
 unfold ckC
 rw [if_neg (by omega), if_neg (fun h => h (by omega)), if_neg, if_neg, if_pos]
 ·obtain ⟨r, r1, r2, r3⟩ := hc.back
  refine ⟨r.toNat, by omega, decide_eq_true ?_⟩
  have er : ((r.toNat : Nat) : Int) = r := by omega
  rw [er]; exact r3
 ·refine fun h => h ?_
  obtain ⟨i, i1, i2⟩ := hc.strict
  exact ⟨i, i1, decide_eq_true i2⟩
 ·refine fun h => h fun i hi => ?_
  have := hb i hi
  show 0 ≤ cF (cO w m n n) i ∧ cF (cO w m n n) i ≤ (m : Int) - 1
  omega
end Go.He
end
section
set_option linter.unusedSimpArgs false
set_option linter.unusedVariables false
set_option linter.defProp false
set_option maxRecDepth 100000
set_option maxHeartbeats 16000000
namespace Go.He
open Go.Proofs
open Go.Sx
theorem c42 (N : Int) (m : Nat) (w : Nat → Wd) : Contract Try.prog 42 [rsv N m w] (B (decide (ckR N m w = 0))) := by
 refine contract_of Try.func42 rfl (by kernel_rfl) follows (by kernel_rfl) _ _ (by rw [Try.ntmps42]; simp) (by simp [OldL, Old, QV, rsv]) ?_
 unfold rsv B
 (repeat' (first | with_reducible (first | apply splitVC_d <;> intro _ | apply splitVC <;> intro _) | ((with_reducible refine And.intro ?_ ?_); focus (first | exact True.intro | omega | (simp only [InK, ne_eq, and_true, true_and]; omega) | (and_intros <;> first | exact .inr trivial | exact Nat.le_refl _ | exact one1 _ | exact one5 _ _ _ _ _ | exact one3 _ _ _ | exact .inl rfl | omega) | trivial)) | (simp -dsimp only [↓RP, RQ, Nat.reduceMul, reduceIte, reduceCtorEq, Nat.reduceAdd, Nat.reduceEqDiff, Nat.reduceLT, Nat.reduceLeDiff, Int.reduceEq, Int.reduceNeg, Int.reduceLT, Int.reduceLE, rsT, QW, Try.results42])))
 refine callVC (c17 N m w) (by (simp -dsimp only [↓RP, RQ, Nat.reduceMul, reduceIte, reduceCtorEq, Nat.reduceAdd, Nat.reduceEqDiff, Nat.reduceLT, Nat.reduceLeDiff, QV, rsv, ints, I, B, wag]); all_goals (try simp [QV, Go.Sx.Sub, Go.Sx.SubL, wf_sub])) (by (simp -dsimp only [↓RP, RQ, Nat.reduceMul, reduceIte, reduceCtorEq, Nat.reduceAdd, Nat.reduceEqDiff, Nat.reduceLT, Nat.reduceLeDiff, QV, rsT, nsv, rgv, I, B, wag]); all_goals (try simp [QV])) ?_
 by_cases h20 : 20 < m
 ·have f0 := decide_eq_true h20
  have hn : ckR N m w ≠ 0 := fun h => by have := (ckR_ok h).2.2.1; omega
  have fe := decide_eq_false hn
  (repeat' (first | with_reducible (first | apply splitVC_d <;> intro _ | apply splitVC <;> intro _) | ((with_reducible refine And.intro ?_ ?_); focus (first | exact True.intro | omega | (simp only [InK, ne_eq, and_true, true_and]; omega) | (and_intros <;> first | exact .inr trivial | exact Nat.le_refl _ | exact one1 _ | exact one5 _ _ _ _ _ | exact one3 _ _ _ | exact .inl rfl | omega) | trivial)) | (simp -dsimp only [↓RP, RQ, Nat.reduceMul, reduceIte, reduceCtorEq, Nat.reduceAdd, Nat.reduceEqDiff, Nat.reduceLT, Nat.reduceLeDiff, f0, fe, Int.reduceEq, Int.reduceNeg, Int.reduceLT, Int.reduceLE, rsT, QW, Try.results42])))
  all_goals try (exfalso; omega)
 ·have f0 := decide_eq_false h20
  (repeat' (first | with_reducible (first | apply splitVC_d <;> intro _ | apply splitVC <;> intro _) | ((with_reducible refine And.intro ?_ ?_); focus (first | exact True.intro | omega | (simp only [InK, ne_eq, and_true, true_and]; omega) | (and_intros <;> first | exact .inr trivial | exact Nat.le_refl _ | exact one1 _ | exact one5 _ _ _ _ _ | exact one3 _ _ _ | exact .inl rfl | omega) | trivial)) | (simp -dsimp only [↓RP, RQ, Nat.reduceMul, reduceIte, reduceCtorEq, Nat.reduceAdd, Nat.reduceEqDiff, Nat.reduceLT, Nat.reduceLeDiff, f0, Int.reduceEq, Int.reduceNeg, Int.reduceLT, Int.reduceLE, rsT, QW, Try.results42])))
  all_goals try (exfalso; omega)
  refine callVC (c20 N m w (nle20 h20)) (by (simp -dsimp only [↓RP, RQ, Nat.reduceMul, reduceIte, reduceCtorEq, Nat.reduceAdd, Nat.reduceEqDiff, Nat.reduceLT, Nat.reduceLeDiff, QV, rsv, ints, I, B, wag]); all_goals (try simp [QV, Go.Sx.Sub, Go.Sx.SubL, wf_sub])) (by (simp -dsimp only [↓RP, RQ, Nat.reduceMul, reduceIte, reduceCtorEq, Nat.reduceAdd, Nat.reduceEqDiff, Nat.reduceLT, Nat.reduceLeDiff, QV, rsT, nsv, rgv, I, B, wag]); all_goals (try simp [QV])) ?_
  (repeat' (first | with_reducible (first | apply splitVC_d <;> intro _ | apply splitVC <;> intro _) | ((with_reducible refine And.intro ?_ ?_); focus (first | exact True.intro | omega | (simp only [InK, ne_eq, and_true, true_and]; omega) | (and_intros <;> first | exact .inr trivial | exact Nat.le_refl _ | exact one1 _ | exact one5 _ _ _ _ _ | exact one3 _ _ _ | exact .inl rfl | omega) | trivial)) | (simp -dsimp only [↓RP, RQ, Nat.reduceMul, reduceIte, reduceCtorEq, Nat.reduceAdd, Nat.reduceEqDiff, Nat.reduceLT, Nat.reduceLeDiff, f0, Int.reduceEq, Int.reduceNeg, Int.reduceLT, Int.reduceLE, rsT, QW, Try.results42])))
  all_goals try (exfalso; omega)
theorem tm {x : Int} (h : 0 ≤ x) (n : Nat) : x.tmod (n : Int) = ((x.toNat % n : Nat) : Int) := by
 obtain ⟨k, rfl⟩ : ∃ k : Nat, x = k := ⟨x.toNat, by omega⟩
 rw [Int.toNat_natCast, Int.tmod_eq_emod_of_nonneg (by omega)]; rfl
end Go.He
end
section
set_option linter.unusedSimpArgs false
set_option linter.unusedVariables false
set_option linter.defProp false
set_option maxRecDepth 100000
set_option maxHeartbeats 16000000
namespace Go.He
open Go.Proofs
open Go.Sx
end Go.He
end
section
set_option linter.unusedSimpArgs false
set_option linter.unusedVariables false
set_option linter.defProp false
set_option maxRecDepth 100000
set_option maxHeartbeats 16000000
namespace Go.He
open Go.Proofs
open Go.Sx
end Go.He
end
section
set_option linter.unusedSimpArgs false
set_option linter.unusedVariables false
set_option linter.defProp false
set_option maxRecDepth 100000
set_option maxHeartbeats 16000000
namespace Go.He
open Go.Proofs
open Go.Sx
def vF (l : Nat) (p : Nat → Int) (i : Nat) : Int := if l = 0 then (i : Nat) else p (i % l)
def vK (l : Nat) (p : Nat → Int) (k i : Nat) : Int := if i < k then vF l p i else 0
def rK (f : Nat → Int) (n k i : Nat) : Int := if i < k then rk f n i else 0
theorem vK0 (l : Nat) (p : Nat → Int) (i : Nat) : vK l p 0 i = 0 := by unfold vK; rw [if_neg (Nat.not_lt_zero i)]
theorem vK_n (l : Nat) (p : Nat → Int) {n i : Nat} (h : i < n) : vK l p n i = vF l p i := by unfold vK; rw [if_pos h]
theorem vk_row {l : Nat} {p : Nat → Int} {n k : Nat} {v : Int} (e : vF l p k = v) : ∀ (i : Nat), i < n → (if i = k then SV.val (.int .i64 v) else SV.val (.int .i64 (vK l p k i))) = SV.val (.int .i64 (vK l p (k + 1) i)) := by
 intro i _
 unfold vK
 by_cases c : i = k
 ·subst c; rw [if_pos rfl, if_pos (by omega), e]
 ·rw [if_neg c]
  by_cases d : i < k
  ·rw [if_pos d, if_pos (by omega)]
  ·rw [if_neg d, if_neg (by omega)]
def rM (f : Nat → Int) (n i j y : Nat) : Int := if y = i then rkN f i j else rK f n i y
theorem rK0 (f : Nat → Int) (n i : Nat) : rK f n 0 i = 0 := by unfold rK; rw [if_neg (Nat.not_lt_zero i)]
theorem rM_n (f : Nat → Int) (n i y : Nat) : rM f n i n y = rK f n (i + 1) y := by
 unfold rM rK
 by_cases e : y = i
 ·subst e; rw [if_pos rfl, if_pos (by omega)]; rfl
 ·rw [if_neg e]
  by_cases d : y < i
  ·rw [if_pos d, if_pos (by omega)]
  ·rw [if_neg d, if_neg (by omega)]
theorem rm_0 (f : Nat → Int) (n i : Nat) : ∀ (y : Nat), y < n → (if y = i then SV.val (.int .i64 1) else SV.val (.int .i64 (rK f n i y))) = SV.val (.int .i64 (rM f n i 0 y)) := by
 intro y _
 unfold rM
 by_cases e : y = i
 ·rw [if_pos e, if_pos e]; rfl
 ·rw [if_neg e, if_neg e]
theorem rM_i (f : Nat → Int) (n i j : Nat) : rM f n i j i = rkN f i j := if_pos rfl
theorem rM_S (f : Nat → Int) (n i j y : Nat) : rM f n i (j + 1) y = if y = i then (if f j < f i then rkN f i j + 1 else rkN f i j) else rM f n i j y := by
 unfold rM
 by_cases e : y = i
 ·rw [if_pos e, if_pos e]; rfl
 ·rw [if_neg e, if_neg e, if_neg e]
theorem c43 (n : Nat) (h2 : 2 ≤ n) (h5 : n ≤ 5) (l : Nat) (p : Nat → Int) (hl : l ≤ 1000000) (hp : ∀ i, i < l → 0 ≤ p i ∧ p i < 256) : Contract Try.prog 43 [I n, .arr false false l 1 (fun i _ => .val (.int .u8 (p i)))] (.arr true false n 1 (fun i _ => .val (.int .i64 (rk (vF l p) n i)))) := by
 refine contract_of Try.func43 rfl (by kernel_rfl) follows (by kernel_rfl) _ _ (by rw [Try.ntmps43]; simp) (by simp [OldL, Old, QV, I]) ?_
 unfold I
 (repeat' (first | with_reducible (first | apply splitVC_d <;> intro _ | apply splitVC <;> intro _) | ((with_reducible refine And.intro ?_ ?_); focus (first | exact True.intro | omega | (simp only [InK, ne_eq, and_true, true_and]; omega) | (and_intros <;> first | exact .inr trivial | exact Nat.le_refl _ | exact one1 _ | exact one5 _ _ _ _ _ | exact one3 _ _ _ | exact .inl rfl | omega) | trivial)) | (simp -dsimp only [↓RP, RQ, Nat.reduceMul, reduceIte, reduceCtorEq, Nat.reduceAdd, Nat.reduceEqDiff, Nat.reduceLT, Nat.reduceLeDiff, same_r, rsT, Int.reduceEq, Int.reduceNeg, Int.reduceLT, Int.reduceLE, nsv, rgv, QW, Try.results43])))
 all_goals try (exfalso; omega)
 refine loop_vc (fun (k : Nat) => k ≤ n) (fun k => ⟨[(0, .val (.int .i64 (n : Nat))), (1, .arr false false l 1 (fun i _ => .val (.int .u8 (p i)))), (5, .vec 60 n 1), (6, .val (.int .i64 (k : Nat)))], [(60, .rows 3 1 n (fun i _ => .val (.int .i64 (vK l p k i))))], 80⟩) (fun k => n - k) 0 (Nat.zero_le _) (weak [(60, some 2)] [] ?_ ?_ ?_) fun k hk => ?_
 iterate 3 focus ((simp -dsimp only [↓RP, RQ, Nat.reduceMul, reduceIte, reduceCtorEq, Nat.reduceAdd, Nat.reduceEqDiff, Nat.reduceLT, Nat.reduceLeDiff, QV, vK0]); all_goals (try simp [QV, vK0]))
 by_cases hlt : k < n
 ·by_cases h0 : l = 0
  ·have f0 := decide_eq_false (show ¬ (0 : Int) < ((l : Nat) : Int) by omega)
   have ev : vF l p k = (k : Nat) := by unfold vF; rw [if_pos h0]
   (repeat' (first | with_reducible (first | apply splitVC_d <;> intro _ | apply splitVC <;> intro _) | ((with_reducible refine And.intro ?_ ?_); focus (first | exact True.intro | omega | (simp only [InK, ne_eq, and_true, true_and]; omega) | (and_intros <;> first | exact .inr trivial | exact Nat.le_refl _ | exact one1 _ | exact one5 _ _ _ _ _ | exact one3 _ _ _ | exact .inl rfl | omega) | trivial)) | (simp -dsimp only [↓RP, RQ, Nat.reduceMul, reduceIte, reduceCtorEq, Nat.reduceAdd, Nat.reduceEqDiff, Nat.reduceLT, Nat.reduceLeDiff, f0, same_r, rsT, Int.reduceEq, Int.reduceNeg, Int.reduceLT, Int.reduceLE, nsv, rgv, QW, Try.results43])))
   all_goals try (exfalso; omega)
   refine ⟨k + 1, by omega, by omega, weak [] [] ?_ ?_ ?_⟩
   ·(simp -dsimp only [↓RP, RQ, Nat.reduceMul, reduceIte, reduceCtorEq, Nat.reduceAdd, Nat.reduceEqDiff, Nat.reduceLT, Nat.reduceLeDiff, QV]); all_goals (try simp [QV])
   ·(simp -dsimp only [↓RP, RQ, Nat.reduceMul, reduceIte, reduceCtorEq, Nat.reduceAdd, Nat.reduceEqDiff, Nat.reduceLT, Nat.reduceLeDiff, QV]); all_goals (try simp [QV]); exact vk_row ev
   ·(simp -dsimp only [↓RP, RQ, Nat.reduceMul, reduceIte, reduceCtorEq, Nat.reduceAdd, Nat.reduceEqDiff, Nat.reduceLT, Nat.reduceLeDiff, QV]); all_goals (try simp [QV])
  ·have f0 := decide_eq_true (show (0 : Int) < ((l : Nat) : Int) by omega)
   have hml := Nat.mod_lt k (show 0 < l by omega)
   have hpk := hp _ hml
   have ev : vF l p k = p (k % l) := by unfold vF; rw [if_neg h0]
   have em : ((k : Nat) : Int).tmod ((l : Nat) : Int) = ((k % l : Nat) : Int) := by have := tm (x := ((k : Nat) : Int)) (by omega) l; rwa [Int.toNat_natCast] at this
   (repeat' (first | with_reducible (first | apply splitVC_d <;> intro _ | apply splitVC <;> intro _) | ((with_reducible refine And.intro ?_ ?_); focus (first | exact True.intro | omega | (simp only [InK, ne_eq, and_true, true_and]; omega) | (and_intros <;> first | exact .inr trivial | exact Nat.le_refl _ | exact one1 _ | exact one5 _ _ _ _ _ | exact one3 _ _ _ | exact .inl rfl | omega) | trivial)) | (simp -dsimp only [↓RP, RQ, Nat.reduceMul, reduceIte, reduceCtorEq, Nat.reduceAdd, Nat.reduceEqDiff, Nat.reduceLT, Nat.reduceLeDiff, f0, em, same_r, rsT, Int.reduceEq, Int.reduceNeg, Int.reduceLT, Int.reduceLE, nsv, rgv, QW, Try.results43])))
   all_goals try (exfalso; omega)
   refine ⟨k + 1, by omega, by omega, weak [] [] ?_ ?_ ?_⟩
   ·(simp -dsimp only [↓RP, RQ, Nat.reduceMul, reduceIte, reduceCtorEq, Nat.reduceAdd, Nat.reduceEqDiff, Nat.reduceLT, Nat.reduceLeDiff, QV]); all_goals (try simp [QV])
   ·(simp -dsimp only [↓RP, RQ, Nat.reduceMul, reduceIte, reduceCtorEq, Nat.reduceAdd, Nat.reduceEqDiff, Nat.reduceLT, Nat.reduceLeDiff, QV]); all_goals (try simp [QV]); (intro i hi; rw [← vk_row (n := n) ev i hi]; by_cases e : i = k <;> simp [e])
   ·(simp -dsimp only [↓RP, RQ, Nat.reduceMul, reduceIte, reduceCtorEq, Nat.reduceAdd, Nat.reduceEqDiff, Nat.reduceLT, Nat.reduceLeDiff, QV]); all_goals (try simp [QV])
 ·have hkn : n = k := by omega
  subst hkn
  (repeat' (first | with_reducible (first | apply splitVC_d <;> intro _ | apply splitVC <;> intro _) | ((with_reducible refine And.intro ?_ ?_); focus (first | exact True.intro | omega | (simp only [InK, ne_eq, and_true, true_and]; omega) | (and_intros <;> first | exact .inr trivial | exact Nat.le_refl _ | exact one1 _ | exact one5 _ _ _ _ _ | exact one3 _ _ _ | exact .inl rfl | omega) | trivial)) | (simp -dsimp only [↓RP, RQ, Nat.reduceMul, reduceIte, reduceCtorEq, Nat.reduceAdd, Nat.reduceEqDiff, Nat.reduceLT, Nat.reduceLeDiff, same_r, rsT, Int.reduceEq, Int.reduceNeg, Int.reduceLT, Int.reduceLE, nsv, rgv, QW, Try.results43])))
  all_goals try (exfalso; omega)
  refine loop_vc (fun (i : Nat) => i ≤ n) (fun i => ⟨[(0, .val (.int .i64 (n : Nat))), (5, .vec 60 n 1), (7, .vec 61 n 1), (8, .val (.int .i64 (i : Nat)))], [(61, .rows 3 1 n (fun y _ => .val (.int .i64 (rK (vF l p) n i y)))), (60, .rows 3 1 n (fun i _ => .val (.int .i64 (vK l p n i))))], 200⟩) (fun i => n - i) 0 (Nat.zero_le _) (weak [(61, some 84)] [] ?_ ?_ ?_) fun i hi => ?_
  iterate 3 focus ((simp -dsimp only [↓RP, RQ, Nat.reduceMul, reduceIte, reduceCtorEq, Nat.reduceAdd, Nat.reduceEqDiff, Nat.reduceLT, Nat.reduceLeDiff, QV, rK0]); all_goals (try simp [QV, rK0]))
  by_cases hli : i < n
  ·(repeat' (first | with_reducible (first | apply splitVC_d <;> intro _ | apply splitVC <;> intro _) | ((with_reducible refine And.intro ?_ ?_); focus (first | exact True.intro | omega | (simp only [InK, ne_eq, and_true, true_and]; omega) | (and_intros <;> first | exact .inr trivial | exact Nat.le_refl _ | exact one1 _ | exact one5 _ _ _ _ _ | exact one3 _ _ _ | exact .inl rfl | omega) | trivial)) | (simp -dsimp only [↓RP, RQ, Nat.reduceMul, reduceIte, reduceCtorEq, Nat.reduceAdd, Nat.reduceEqDiff, Nat.reduceLT, Nat.reduceLeDiff, same_r, rsT, Int.reduceEq, Int.reduceNeg, Int.reduceLT, Int.reduceLE, nsv, rgv, QW, Try.results43])))
   all_goals try (exfalso; omega)
   refine loop_vc (fun (j : Nat) => j ≤ n) (fun j => ⟨[(0, .val (.int .i64 (n : Nat))), (5, .vec 60 n 1), (7, .vec 61 n 1), (8, .val (.int .i64 (i : Nat))), (9, .val (.int .i64 (j : Nat)))], [(61, .rows 3 1 n (fun y _ => .val (.int .i64 (rM (vF l p) n i j y)))), (60, .rows 3 1 n (fun i _ => .val (.int .i64 (vK l p n i))))], 260⟩) (fun j => n - j) 0 (Nat.zero_le _) (weak [] [] ?_ ?_ ?_) fun j hj => ?_
   iterate 3 focus ((simp -dsimp only [↓RP, RQ, Nat.reduceMul, reduceIte, reduceCtorEq, Nat.reduceAdd, Nat.reduceEqDiff, Nat.reduceLT, Nat.reduceLeDiff, QV]); all_goals (try simp [QV]); all_goals first | exact rm_0 _ _ _ | skip)
   have hb := rkN_bd (vF l p) i j
   by_cases hlj : j < n
   ·by_cases hc : vF l p j < vF l p i
    ·have f1 := decide_eq_true hc
     (repeat' (first | with_reducible (first | apply splitVC_d <;> intro _ | apply splitVC <;> intro _) | ((with_reducible refine And.intro ?_ ?_); focus (first | exact True.intro | omega | (simp only [InK, ne_eq, and_true, true_and]; omega) | (and_intros <;> first | exact .inr trivial | exact Nat.le_refl _ | exact one1 _ | exact one5 _ _ _ _ _ | exact one3 _ _ _ | exact .inl rfl | omega) | trivial)) | (simp -dsimp only [↓RP, RQ, Nat.reduceMul, reduceIte, reduceCtorEq, Nat.reduceAdd, Nat.reduceEqDiff, Nat.reduceLT, Nat.reduceLeDiff, vK_n l p hlj, vK_n l p hli, f1, rM_i, same_r, rsT, Int.reduceEq, Int.reduceNeg, Int.reduceLT, Int.reduceLE, nsv, rgv, QW, Try.results43])))
     all_goals try (exfalso; omega)
     refine ⟨j + 1, by omega, by omega, weak [] [] ?_ ?_ ?_⟩
     ·(simp -dsimp only [↓RP, RQ, Nat.reduceMul, reduceIte, reduceCtorEq, Nat.reduceAdd, Nat.reduceEqDiff, Nat.reduceLT, Nat.reduceLeDiff, QV]); all_goals (try simp [QV])
     ·(simp -dsimp only [↓RP, RQ, Nat.reduceMul, reduceIte, reduceCtorEq, Nat.reduceAdd, Nat.reduceEqDiff, Nat.reduceLT, Nat.reduceLeDiff, QV]); all_goals (try simp [QV]); (intro y hy; rw [rM_S]; by_cases e : y = i <;> simp [e, hc])
     ·(simp -dsimp only [↓RP, RQ, Nat.reduceMul, reduceIte, reduceCtorEq, Nat.reduceAdd, Nat.reduceEqDiff, Nat.reduceLT, Nat.reduceLeDiff, QV]); all_goals (try simp [QV])
    ·have f1 := decide_eq_false hc
     (repeat' (first | with_reducible (first | apply splitVC_d <;> intro _ | apply splitVC <;> intro _) | ((with_reducible refine And.intro ?_ ?_); focus (first | exact True.intro | omega | (simp only [InK, ne_eq, and_true, true_and]; omega) | (and_intros <;> first | exact .inr trivial | exact Nat.le_refl _ | exact one1 _ | exact one5 _ _ _ _ _ | exact one3 _ _ _ | exact .inl rfl | omega) | trivial)) | (simp -dsimp only [↓RP, RQ, Nat.reduceMul, reduceIte, reduceCtorEq, Nat.reduceAdd, Nat.reduceEqDiff, Nat.reduceLT, Nat.reduceLeDiff, vK_n l p hlj, vK_n l p hli, f1, same_r, rsT, Int.reduceEq, Int.reduceNeg, Int.reduceLT, Int.reduceLE, nsv, rgv, QW, Try.results43])))
     all_goals try (exfalso; omega)
     refine ⟨j + 1, by omega, by omega, weak [] [] ?_ ?_ ?_⟩
     ·(simp -dsimp only [↓RP, RQ, Nat.reduceMul, reduceIte, reduceCtorEq, Nat.reduceAdd, Nat.reduceEqDiff, Nat.reduceLT, Nat.reduceLeDiff, QV]); all_goals (try simp [QV])
     ·(simp -dsimp only [↓RP, RQ, Nat.reduceMul, reduceIte, reduceCtorEq, Nat.reduceAdd, Nat.reduceEqDiff, Nat.reduceLT, Nat.reduceLeDiff, QV]); all_goals (try simp [QV]); (intro y hy; rw [rM_S]; by_cases e : y = i <;> simp [e, hc, rM_i])
     ·(simp -dsimp only [↓RP, RQ, Nat.reduceMul, reduceIte, reduceCtorEq, Nat.reduceAdd, Nat.reduceEqDiff, Nat.reduceLT, Nat.reduceLeDiff, QV]); all_goals (try simp [QV])
   ·have hjn : n = j := by omega
    subst hjn
    (repeat' (first | with_reducible (first | apply splitVC_d <;> intro _ | apply splitVC <;> intro _) | ((with_reducible refine And.intro ?_ ?_); focus (first | exact True.intro | omega | (simp only [InK, ne_eq, and_true, true_and]; omega) | (and_intros <;> first | exact .inr trivial | exact Nat.le_refl _ | exact one1 _ | exact one5 _ _ _ _ _ | exact one3 _ _ _ | exact .inl rfl | omega) | trivial)) | (simp -dsimp only [↓RP, RQ, Nat.reduceMul, reduceIte, reduceCtorEq, Nat.reduceAdd, Nat.reduceEqDiff, Nat.reduceLT, Nat.reduceLeDiff, same_r, rsT, Int.reduceEq, Int.reduceNeg, Int.reduceLT, Int.reduceLE, nsv, rgv, QW, Try.results43])))
    all_goals try (exfalso; omega)
    refine ⟨i + 1, by omega, by omega, weak [] [] ?_ ?_ ?_⟩
    iterate 2 focus ((simp -dsimp only [↓RP, RQ, Nat.reduceMul, reduceIte, reduceCtorEq, Nat.reduceAdd, Nat.reduceEqDiff, Nat.reduceLT, Nat.reduceLeDiff, QV, rM_n]); all_goals (try simp [QV, rM_n]))
    ·(simp -dsimp only [↓RP, RQ, Nat.reduceMul, reduceIte, reduceCtorEq, Nat.reduceAdd, Nat.reduceEqDiff, Nat.reduceLT, Nat.reduceLeDiff, QV]); all_goals (try simp [QV])
  ·have hin : n = i := by omega
   subst hin
   (repeat' (first | with_reducible (first | apply splitVC_d <;> intro _ | apply splitVC <;> intro _) | ((with_reducible refine And.intro ?_ ?_); focus (first | exact True.intro | omega | (simp only [InK, ne_eq, and_true, true_and]; omega) | (and_intros <;> first | exact .inr trivial | exact Nat.le_refl _ | exact one1 _ | exact one5 _ _ _ _ _ | exact one3 _ _ _ | exact .inl rfl | omega) | trivial)) | (simp -dsimp only [↓RP, RQ, Nat.reduceMul, reduceIte, reduceCtorEq, Nat.reduceAdd, Nat.reduceEqDiff, Nat.reduceLT, Nat.reduceLeDiff, same_r, rsT, Int.reduceEq, Int.reduceNeg, Int.reduceLT, Int.reduceLE, nsv, rgv, QW, Try.results43])))
   all_goals try (exfalso; omega)
   intro y j hy hj
   unfold rK; rw [if_pos hy]
end Go.He
end
section
set_option linter.unusedSimpArgs false
set_option linter.unusedVariables false
set_option linter.defProp false
set_option maxRecDepth 100000
set_option maxHeartbeats 16000000
namespace Go.He
open Go.Proofs
open Go.Sx
theorem ckF_fin {n m : Nat} {w : Nat → Wd} (h : ckR n m w = 0) {f : Nat → Int} (hf : Fin f n) : ckF n m w n f = if agr w m f then 0 else 22 := by
 unfold ckF
 rw [if_neg (fun e => e h), if_neg (fun e => e rfl), if_neg (fun e => e hf)]
 by_cases c : agr w m f
 ·rw [if_neg (fun e => e c), if_pos c]
 ·rw [if_pos c, if_neg c]
theorem fin_in {n m : Nat} {w : Nat → Wd} (hw : Fit w m n) {f : Nat → Int} (hf : Fin f n) (ha : agr w m f) : ∃ t, t ∈ agrs w m n ∧ ∀ i, i < n → Dg n t i = f i := by
 obtain ⟨t, t1, t2, t3, t4⟩ := fin_num hw hf ha
 exact ⟨t, mem_lst.2 ⟨t1, okA_iff.2 ⟨t2, t3⟩⟩, t4⟩
end Go.He
end
section
set_option linter.unusedSimpArgs false
set_option linter.unusedVariables false
set_option linter.defProp false
set_option maxRecDepth 100000
set_option maxHeartbeats 16000000
namespace Go.He
open Go.Proofs
open Go.Sx
theorem ei_circ {n m : Nat} {w : Nat → Wd} {k : Nat} {c : Nat → Int} (he : ckR n m w = 0) (t1 : (agrs w m n).length ≠ 0) : ckC n m w k c ≠ 0 := by
 intro h
 have hL : agrs w m n ≠ [] := fun e => t1 (by rw [e]; rfl)
 obtain ⟨t, ht⟩ := List.exists_mem_of_ne_nil _ hL
 have ha := (okA_iff.1 (mem_lst.1 ht).2).2
 unfold ckC at h
 rw [if_neg (fun e => e he)] at h
 by_cases h1 : 1 ≤ k ∧ k ≤ 12
 ·rw [if_neg (fun e => e h1)] at h
  by_cases h2 : allIn c k 0 ((m : Int) - 1)
  ·rw [if_neg (fun e => e h2)] at h
   by_cases h3 : stC w c k
   ·rw [if_neg (fun e => e h3)] at h
    by_cases h4 : bkC w c k (n : Int).toNat
    ·obtain ⟨i, i1, i2⟩ := h3
     obtain ⟨r, r1, r2⟩ := h4
     rw [Int.toNat_natCast] at r1
     have hc : Circ w n k c := ⟨⟨i, i1, of_decide_eq_true i2⟩, ⟨r, by omega, by omega, of_decide_eq_true r2⟩⟩
     exact circ_no hc (fun j hj => by have := h2 j hj; omega) ha
    ·rw [if_neg h4] at h; omega
   ·rw [if_pos h3] at h; omega
  ·rw [if_pos h2] at h; omega
 ·rw [if_pos h1] at h; omega
theorem ei_fin {n m : Nat} {w : Nat → Wd} (he : ckR n m w = 0) (t1 : (agrs w m n).length ≠ 0) : ckF n m w n (fnF n m w) = 0 := by
 have ht : (agrs w m n).getD 0 0 ∈ agrs w m n := getD_mem (by omega)
 have ⟨h1, h2⟩ := okA_iff.1 (mem_lst.1 ht).2
 have e : fnF n m w = Dg n ((agrs w m n).getD 0 0) := by unfold fnF; rw [Int.toNat_natCast]
 rw [e, ckF_fin he h1, if_pos h2]
theorem c8 (N : Int) (m : Nat) (w : Nat → Wd) (l : Nat) (p : Nat → Int) (hp : ∀ i, i < l → 0 ≤ p i ∧ p i < 256) (k : Nat) (c : Nat → Int) : Contract Try.prog 8 [rsv N m w, .arr false false l 1 (fun i _ => .val (.int .u8 (p i))), ints k c] (B true) := by
 refine contract_of Try.func8 rfl (by kernel_rfl) follows (by kernel_rfl) _ _ (by rw [Try.ntmps8]; simp) (by simp [OldL, Old, QV, rsv, ints]) ?_
 unfold rsv ints B
 (repeat' (first | with_reducible (first | apply splitVC_d <;> intro _ | apply splitVC <;> intro _) | ((with_reducible refine And.intro ?_ ?_); focus (first | exact True.intro | omega | (simp only [InK, ne_eq, and_true, true_and]; omega) | (and_intros <;> first | exact .inr trivial | exact Nat.le_refl _ | exact one1 _ | exact one5 _ _ _ _ _ | exact one3 _ _ _ | exact .inl rfl | omega) | trivial)) | (simp -dsimp only [↓RP, RQ, Nat.reduceMul, reduceIte, reduceCtorEq, Nat.reduceAdd, Nat.reduceEqDiff, Nat.reduceLT, Nat.reduceLeDiff, same_r, rsT, Int.reduceEq, Int.reduceNeg, Int.reduceLT, Int.reduceLE, nsv, rgv, wag, QW, Try.results8])))
 refine callVC (c42 N m w) (by (simp -dsimp only [↓RP, RQ, Nat.reduceMul, reduceIte, reduceCtorEq, Nat.reduceAdd, Nat.reduceEqDiff, Nat.reduceLT, Nat.reduceLeDiff, QV, rsv, ints, I, B, wag]); all_goals (try simp [QV, Go.Sx.Sub, Go.Sx.SubL, wf_sub])) (by (simp -dsimp only [↓RP, RQ, Nat.reduceMul, reduceIte, reduceCtorEq, Nat.reduceAdd, Nat.reduceEqDiff, Nat.reduceLT, Nat.reduceLeDiff, QV, rsT, nsv, rgv, I, B, wag]); all_goals (try simp [QV])) ?_
 by_cases he : ckR N m w = 0
 rotate_left
 ·have f0 := decide_eq_false he
  (repeat' (first | with_reducible (first | apply splitVC_d <;> intro _ | apply splitVC <;> intro _) | ((with_reducible refine And.intro ?_ ?_); focus (first | exact True.intro | omega | (simp only [InK, ne_eq, and_true, true_and]; omega) | (and_intros <;> first | exact .inr trivial | exact Nat.le_refl _ | exact one1 _ | exact one5 _ _ _ _ _ | exact one3 _ _ _ | exact .inl rfl | omega) | trivial)) | (simp -dsimp only [↓RP, RQ, Nat.reduceMul, reduceIte, reduceCtorEq, Nat.reduceAdd, Nat.reduceEqDiff, Nat.reduceLT, Nat.reduceLeDiff, f0, same_r, rsT, Int.reduceEq, Int.reduceNeg, Int.reduceLT, Int.reduceLE, nsv, rgv, wag, QW, Try.results8])))
  all_goals try (exfalso; omega)
  refine callVC (c18) (by (simp -dsimp only [↓RP, RQ, Nat.reduceMul, reduceIte, reduceCtorEq, Nat.reduceAdd, Nat.reduceEqDiff, Nat.reduceLT, Nat.reduceLeDiff, QV, rsv, ints, I, B, wag]); all_goals (try simp [QV, Go.Sx.Sub, Go.Sx.SubL, wf_sub])) (by (simp -dsimp only [↓RP, RQ, Nat.reduceMul, reduceIte, reduceCtorEq, Nat.reduceAdd, Nat.reduceEqDiff, Nat.reduceLT, Nat.reduceLeDiff, QV, rsT, nsv, rgv, I, B, wag]); all_goals (try simp [QV])) ?_
  (repeat' (first | with_reducible (first | apply splitVC_d <;> intro _ | apply splitVC <;> intro _) | ((with_reducible refine And.intro ?_ ?_); focus (first | exact True.intro | omega | (simp only [InK, ne_eq, and_true, true_and]; omega) | (and_intros <;> first | exact .inr trivial | exact Nat.le_refl _ | exact one1 _ | exact one5 _ _ _ _ _ | exact one3 _ _ _ | exact .inl rfl | omega) | trivial)) | (simp -dsimp only [↓RP, RQ, Nat.reduceMul, reduceIte, reduceCtorEq, Nat.reduceAdd, Nat.reduceEqDiff, Nat.reduceLT, Nat.reduceLeDiff, f0, same_r, rsT, Int.reduceEq, Int.reduceNeg, Int.reduceLT, Int.reduceLE, nsv, rgv, wag, QW, Try.results8])))
  all_goals try (exfalso; omega)
 have ⟨n2, n5, m12, _⟩ := ckR_ok he
 obtain ⟨n, rfl⟩ : ∃ n : Nat, N = n := ⟨N.toNat, by omega⟩
 have f0 := decide_eq_true he
 by_cases hl : 20 < l
 ·have f1 := decide_eq_true (show (20 : Int) < ((l : Nat) : Int) by omega)
  (repeat' (first | with_reducible (first | apply splitVC_d <;> intro _ | apply splitVC <;> intro _) | ((with_reducible refine And.intro ?_ ?_); focus (first | exact True.intro | omega | (simp only [InK, ne_eq, and_true, true_and]; omega) | (and_intros <;> first | exact .inr trivial | exact Nat.le_refl _ | exact one1 _ | exact one5 _ _ _ _ _ | exact one3 _ _ _ | exact .inl rfl | omega) | trivial)) | (simp -dsimp only [↓RP, RQ, Nat.reduceMul, reduceIte, reduceCtorEq, Nat.reduceAdd, Nat.reduceEqDiff, Nat.reduceLT, Nat.reduceLeDiff, f0, f1, same_r, rsT, Int.reduceEq, Int.reduceNeg, Int.reduceLT, Int.reduceLE, nsv, rgv, wag, QW, Try.results8])))
  all_goals try (exfalso; omega)
  refine callVC (c18) (by (simp -dsimp only [↓RP, RQ, Nat.reduceMul, reduceIte, reduceCtorEq, Nat.reduceAdd, Nat.reduceEqDiff, Nat.reduceLT, Nat.reduceLeDiff, QV, rsv, ints, I, B, wag]); all_goals (try simp [QV, Go.Sx.Sub, Go.Sx.SubL, wf_sub])) (by (simp -dsimp only [↓RP, RQ, Nat.reduceMul, reduceIte, reduceCtorEq, Nat.reduceAdd, Nat.reduceEqDiff, Nat.reduceLT, Nat.reduceLeDiff, QV, rsT, nsv, rgv, I, B, wag]); all_goals (try simp [QV])) ?_
  (repeat' (first | with_reducible (first | apply splitVC_d <;> intro _ | apply splitVC <;> intro _) | ((with_reducible refine And.intro ?_ ?_); focus (first | exact True.intro | omega | (simp only [InK, ne_eq, and_true, true_and]; omega) | (and_intros <;> first | exact .inr trivial | exact Nat.le_refl _ | exact one1 _ | exact one5 _ _ _ _ _ | exact one3 _ _ _ | exact .inl rfl | omega) | trivial)) | (simp -dsimp only [↓RP, RQ, Nat.reduceMul, reduceIte, reduceCtorEq, Nat.reduceAdd, Nat.reduceEqDiff, Nat.reduceLT, Nat.reduceLeDiff, f0, same_r, rsT, Int.reduceEq, Int.reduceNeg, Int.reduceLT, Int.reduceLE, nsv, rgv, wag, QW, Try.results8])))
  all_goals try (exfalso; omega)
 have f1 := decide_eq_false (show ¬ (20 : Int) < ((l : Nat) : Int) by omega)
 by_cases hk : 20 < k
 ·have f2 := decide_eq_true (show (20 : Int) < ((k : Nat) : Int) by omega)
  (repeat' (first | with_reducible (first | apply splitVC_d <;> intro _ | apply splitVC <;> intro _) | ((with_reducible refine And.intro ?_ ?_); focus (first | exact True.intro | omega | (simp only [InK, ne_eq, and_true, true_and]; omega) | (and_intros <;> first | exact .inr trivial | exact Nat.le_refl _ | exact one1 _ | exact one5 _ _ _ _ _ | exact one3 _ _ _ | exact .inl rfl | omega) | trivial)) | (simp -dsimp only [↓RP, RQ, Nat.reduceMul, reduceIte, reduceCtorEq, Nat.reduceAdd, Nat.reduceEqDiff, Nat.reduceLT, Nat.reduceLeDiff, f0, f1, f2, same_r, rsT, Int.reduceEq, Int.reduceNeg, Int.reduceLT, Int.reduceLE, nsv, rgv, wag, QW, Try.results8])))
  all_goals try (exfalso; omega)
  refine callVC (c18) (by (simp -dsimp only [↓RP, RQ, Nat.reduceMul, reduceIte, reduceCtorEq, Nat.reduceAdd, Nat.reduceEqDiff, Nat.reduceLT, Nat.reduceLeDiff, QV, rsv, ints, I, B, wag]); all_goals (try simp [QV, Go.Sx.Sub, Go.Sx.SubL, wf_sub])) (by (simp -dsimp only [↓RP, RQ, Nat.reduceMul, reduceIte, reduceCtorEq, Nat.reduceAdd, Nat.reduceEqDiff, Nat.reduceLT, Nat.reduceLeDiff, QV, rsT, nsv, rgv, I, B, wag]); all_goals (try simp [QV])) ?_
  (repeat' (first | with_reducible (first | apply splitVC_d <;> intro _ | apply splitVC <;> intro _) | ((with_reducible refine And.intro ?_ ?_); focus (first | exact True.intro | omega | (simp only [InK, ne_eq, and_true, true_and]; omega) | (and_intros <;> first | exact .inr trivial | exact Nat.le_refl _ | exact one1 _ | exact one5 _ _ _ _ _ | exact one3 _ _ _ | exact .inl rfl | omega) | trivial)) | (simp -dsimp only [↓RP, RQ, Nat.reduceMul, reduceIte, reduceCtorEq, Nat.reduceAdd, Nat.reduceEqDiff, Nat.reduceLT, Nat.reduceLeDiff, f0, same_r, rsT, Int.reduceEq, Int.reduceNeg, Int.reduceLT, Int.reduceLE, nsv, rgv, wag, QW, Try.results8])))
  all_goals try (exfalso; omega)
 have f2 := decide_eq_false (show ¬ (20 : Int) < ((k : Nat) : Int) by omega)
 have hfin := rk_fin (vF l p) n
 have hck := ckF_fin he hfin
 have h0 := agrs_iff (ckR_fit he)
 have hs0 := short_0 (ckR_fit he)
 have hl2 := ci_some he
 have hE := ci_e he
 have h23 := c23 n m w (by omega)
 have h28 := c28 n m w (by omega)
 have h21 := c21 n m w (by omega) n (rk (vF l p) n) (by omega)
 have q43 := c43 n (by omega) (by omega) l p (by omega) hp
 have h29 := c29 n m w (by omega) k c (by omega)
 have h30 := c30 n m w (by omega) k c (by omega)
 (repeat' (first | with_reducible (first | apply splitVC_d <;> intro _ | apply splitVC <;> intro _) | ((with_reducible refine And.intro ?_ ?_); focus (first | exact True.intro | omega | (simp only [InK, ne_eq, and_true, true_and]; omega) | (and_intros <;> first | exact .inr trivial | exact Nat.le_refl _ | exact one1 _ | exact one5 _ _ _ _ _ | exact one3 _ _ _ | exact .inl rfl | omega) | trivial)) | (simp -dsimp only [↓RP, RQ, Nat.reduceMul, reduceIte, reduceCtorEq, Nat.reduceAdd, Nat.reduceEqDiff, Nat.reduceLT, Nat.reduceLeDiff, f0, f1, f2, same_r, rsT, Int.reduceEq, Int.reduceNeg, Int.reduceLT, Int.reduceLE, nsv, rgv, wag, QW, Try.results8])))
 all_goals try (exfalso; omega)
 by_cases t1 : (agrs w m n).length = 0
 ·have hna : ¬ agr w m (rk (vF l p) n) := fun h => by
   obtain ⟨t, ht, _⟩ := fin_in (ckR_fit he) hfin h
   have := List.length_pos_of_mem ht
   omega
  rw [hck, if_neg hna] at h21
  rw [(fn_none he t1).1, (fn_none he t1).2] at h23
  have hn0 : shN w m n m ≠ 0 := fun h => hs0.1 h (h0.1 t1)
  have hcc := ci_ck he hn0
  have hln : (ciL n m w).length ≤ 1000 := by have := short_le (w := w) (m := m) (n := n); omega
  rw [if_neg hn0] at hE
  rw [hE] at h28
  have x29 := c29 n m w (by omega) (ciL n m w).length (fun i => ((ciL n m w).getD i 0 : Nat)) hln
  have x30 := c30 n m w (by omega) (ciL n m w).length (fun i => ((ciL n m w).getD i 0 : Nat)) hln
  rw [hcc] at x29 x30
  generalize ckC n m w k c = E4 at *
  generalize ciL n m w = L at *
  generalize (rk (vF l p) n) = F at *
  have g1 : decide (((0 : Nat) : Int) = 0) = true := rfl
  refine callVC (h23) (by (simp -dsimp only [↓RP, RQ, Nat.reduceMul, reduceIte, reduceCtorEq, Nat.reduceAdd, Nat.reduceEqDiff, Nat.reduceLT, Nat.reduceLeDiff, QV, rsv, ints, I, B, wag]); all_goals (try simp [QV, Go.Sx.Sub, Go.Sx.SubL, wf_sub])) (by (simp -dsimp only [↓RP, RQ, Nat.reduceMul, reduceIte, reduceCtorEq, Nat.reduceAdd, Nat.reduceEqDiff, Nat.reduceLT, Nat.reduceLeDiff, QV, rsT, nsv, rgv, I, B, wag]); all_goals (try simp [QV])) ?_
  (repeat' (first | with_reducible (first | apply splitVC_d <;> intro _ | apply splitVC <;> intro _) | ((with_reducible refine And.intro ?_ ?_); focus (first | exact True.intro | omega | (simp only [InK, ne_eq, and_true, true_and]; omega) | (and_intros <;> first | exact .inr trivial | exact Nat.le_refl _ | exact one1 _ | exact one5 _ _ _ _ _ | exact one3 _ _ _ | exact .inl rfl | omega) | trivial)) | (simp -dsimp only [↓RP, RQ, Nat.reduceMul, reduceIte, reduceCtorEq, Nat.reduceAdd, Nat.reduceEqDiff, Nat.reduceLT, Nat.reduceLeDiff, g1, same_r, rsT, Int.reduceEq, Int.reduceNeg, Int.reduceLT, Int.reduceLE, nsv, rgv, wag, QW, Try.results8])))
  all_goals try (exfalso; omega)
  refine callVC (h28) (by (simp -dsimp only [↓RP, RQ, Nat.reduceMul, reduceIte, reduceCtorEq, Nat.reduceAdd, Nat.reduceEqDiff, Nat.reduceLT, Nat.reduceLeDiff, QV, rsv, ints, I, B, wag]); all_goals (try simp [QV, Go.Sx.Sub, Go.Sx.SubL, wf_sub])) (by (simp -dsimp only [↓RP, RQ, Nat.reduceMul, reduceIte, reduceCtorEq, Nat.reduceAdd, Nat.reduceEqDiff, Nat.reduceLT, Nat.reduceLeDiff, QV, rsT, nsv, rgv, I, B, wag]); all_goals (try simp [QV])) ?_
  (repeat' (first | with_reducible (first | apply splitVC_d <;> intro _ | apply splitVC <;> intro _) | ((with_reducible refine And.intro ?_ ?_); focus (first | exact True.intro | omega | (simp only [InK, ne_eq, and_true, true_and]; omega) | (and_intros <;> first | exact .inr trivial | exact Nat.le_refl _ | exact one1 _ | exact one5 _ _ _ _ _ | exact one3 _ _ _ | exact .inl rfl | omega) | trivial)) | (simp -dsimp only [↓RP, RQ, Nat.reduceMul, reduceIte, reduceCtorEq, Nat.reduceAdd, Nat.reduceEqDiff, Nat.reduceLT, Nat.reduceLeDiff, g1, same_r, rsT, Int.reduceEq, Int.reduceNeg, Int.reduceLT, Int.reduceLE, nsv, rgv, wag, QW, Try.results8])))
  all_goals try (exfalso; omega)
  refine callVC (q43) (by (simp -dsimp only [↓RP, RQ, Nat.reduceMul, reduceIte, reduceCtorEq, Nat.reduceAdd, Nat.reduceEqDiff, Nat.reduceLT, Nat.reduceLeDiff, QV, rsv, ints, I, B, wag]); all_goals (try simp [QV, Go.Sx.Sub, Go.Sx.SubL, wf_sub])) (by (simp -dsimp only [↓RP, RQ, Nat.reduceMul, reduceIte, reduceCtorEq, Nat.reduceAdd, Nat.reduceEqDiff, Nat.reduceLT, Nat.reduceLeDiff, QV, rsT, nsv, rgv, I, B, wag]); all_goals (try simp [QV])) ?_
  (repeat' (first | with_reducible (first | apply splitVC_d <;> intro _ | apply splitVC <;> intro _) | ((with_reducible refine And.intro ?_ ?_); focus (first | exact True.intro | omega | (simp only [InK, ne_eq, and_true, true_and]; omega) | (and_intros <;> first | exact .inr trivial | exact Nat.le_refl _ | exact one1 _ | exact one5 _ _ _ _ _ | exact one3 _ _ _ | exact .inl rfl | omega) | trivial)) | (simp -dsimp only [↓RP, RQ, Nat.reduceMul, reduceIte, reduceCtorEq, Nat.reduceAdd, Nat.reduceEqDiff, Nat.reduceLT, Nat.reduceLeDiff, g1, same_r, rsT, Int.reduceEq, Int.reduceNeg, Int.reduceLT, Int.reduceLE, nsv, rgv, wag, QW, Try.results8])))
  all_goals try (exfalso; omega)
  refine callVC (h21) (by (simp -dsimp only [↓RP, RQ, Nat.reduceMul, reduceIte, reduceCtorEq, Nat.reduceAdd, Nat.reduceEqDiff, Nat.reduceLT, Nat.reduceLeDiff, QV, rsv, ints, I, B, wag]); all_goals (try simp [QV, Go.Sx.Sub, Go.Sx.SubL, wf_sub])) (by (simp -dsimp only [↓RP, RQ, Nat.reduceMul, reduceIte, reduceCtorEq, Nat.reduceAdd, Nat.reduceEqDiff, Nat.reduceLT, Nat.reduceLeDiff, QV, rsT, nsv, rgv, I, B, wag]); all_goals (try simp [QV])) ?_
  (repeat' (first | with_reducible (first | apply splitVC_d <;> intro _ | apply splitVC <;> intro _) | ((with_reducible refine And.intro ?_ ?_); focus (first | exact True.intro | omega | (simp only [InK, ne_eq, and_true, true_and]; omega) | (and_intros <;> first | exact .inr trivial | exact Nat.le_refl _ | exact one1 _ | exact one5 _ _ _ _ _ | exact one3 _ _ _ | exact .inl rfl | omega) | trivial)) | (simp -dsimp only [↓RP, RQ, Nat.reduceMul, reduceIte, reduceCtorEq, Nat.reduceAdd, Nat.reduceEqDiff, Nat.reduceLT, Nat.reduceLeDiff, g1, same_r, rsT, Int.reduceEq, Int.reduceNeg, Int.reduceLT, Int.reduceLE, nsv, rgv, wag, QW, Try.results8])))
  all_goals try (exfalso; omega)
  refine callVC (h29) (by (simp -dsimp only [↓RP, RQ, Nat.reduceMul, reduceIte, reduceCtorEq, Nat.reduceAdd, Nat.reduceEqDiff, Nat.reduceLT, Nat.reduceLeDiff, QV, rsv, ints, I, B, wag]); all_goals (try simp [QV, Go.Sx.Sub, Go.Sx.SubL, wf_sub])) (by (simp -dsimp only [↓RP, RQ, Nat.reduceMul, reduceIte, reduceCtorEq, Nat.reduceAdd, Nat.reduceEqDiff, Nat.reduceLT, Nat.reduceLeDiff, QV, rsT, nsv, rgv, I, B, wag]); all_goals (try simp [QV])) ?_
  (repeat' (first | with_reducible (first | apply splitVC_d <;> intro _ | apply splitVC <;> intro _) | ((with_reducible refine And.intro ?_ ?_); focus (first | exact True.intro | omega | (simp only [InK, ne_eq, and_true, true_and]; omega) | (and_intros <;> first | exact .inr trivial | exact Nat.le_refl _ | exact one1 _ | exact one5 _ _ _ _ _ | exact one3 _ _ _ | exact .inl rfl | omega) | trivial)) | (simp -dsimp only [↓RP, RQ, Nat.reduceMul, reduceIte, reduceCtorEq, Nat.reduceAdd, Nat.reduceEqDiff, Nat.reduceLT, Nat.reduceLeDiff, g1, same_r, rsT, Int.reduceEq, Int.reduceNeg, Int.reduceLT, Int.reduceLE, nsv, rgv, wag, QW, Try.results8])))
  all_goals try (exfalso; omega)
  refine callVC (x29) (by (simp -dsimp only [↓RP, RQ, Nat.reduceMul, reduceIte, reduceCtorEq, Nat.reduceAdd, Nat.reduceEqDiff, Nat.reduceLT, Nat.reduceLeDiff, QV, rsv, ints, nsv, I, B, wag]); all_goals (try simp [QV, Go.Sx.Sub, Go.Sx.SubL, wf_sub])) (by (simp -dsimp only [↓RP, RQ, Nat.reduceMul, reduceIte, reduceCtorEq, Nat.reduceAdd, Nat.reduceEqDiff, Nat.reduceLT, Nat.reduceLeDiff, QV, I]); all_goals (try simp [QV])) ?_
  (repeat' (first | with_reducible (first | apply splitVC_d <;> intro _ | apply splitVC <;> intro _) | ((with_reducible refine And.intro ?_ ?_); focus (first | exact True.intro | omega | (simp only [InK, ne_eq, and_true, true_and]; omega) | (and_intros <;> first | exact .inr trivial | exact Nat.le_refl _ | exact one1 _ | exact one5 _ _ _ _ _ | exact one3 _ _ _ | exact .inl rfl | omega) | trivial)) | (simp -dsimp only [↓RP, RQ, Nat.reduceMul, reduceIte, reduceCtorEq, Nat.reduceAdd, Nat.reduceEqDiff, Nat.reduceLT, Nat.reduceLeDiff, g1, same_r, rsT, Int.reduceEq, Int.reduceNeg, Int.reduceLT, Int.reduceLE, nsv, rgv, wag, QW, Try.results8])))
  all_goals try (exfalso; omega)
  refine callVC (x30) (by (simp -dsimp only [↓RP, RQ, Nat.reduceMul, reduceIte, reduceCtorEq, Nat.reduceAdd, Nat.reduceEqDiff, Nat.reduceLT, Nat.reduceLeDiff, QV, rsv, ints, nsv, I, B, wag]); all_goals (try simp [QV, Go.Sx.Sub, Go.Sx.SubL, wf_sub])) (by (simp -dsimp only [↓RP, RQ, Nat.reduceMul, reduceIte, reduceCtorEq, Nat.reduceAdd, Nat.reduceEqDiff, Nat.reduceLT, Nat.reduceLeDiff, QV, I]); all_goals (try simp [QV])) ?_
  (repeat' (first | with_reducible (first | apply splitVC_d <;> intro _ | apply splitVC <;> intro _) | ((with_reducible refine And.intro ?_ ?_); focus (first | exact True.intro | omega | (simp only [InK, ne_eq, and_true, true_and]; omega) | (and_intros <;> first | exact .inr trivial | exact Nat.le_refl _ | exact one1 _ | exact one5 _ _ _ _ _ | exact one3 _ _ _ | exact .inl rfl | omega) | trivial)) | (simp -dsimp only [↓RP, RQ, Nat.reduceMul, reduceIte, reduceCtorEq, Nat.reduceAdd, Nat.reduceEqDiff, Nat.reduceLT, Nat.reduceLeDiff, g1, same_r, rsT, Int.reduceEq, Int.reduceNeg, Int.reduceLT, Int.reduceLE, nsv, rgv, wag, QW, Try.results8])))
  all_goals try (exfalso; omega)
  refine callVC (c18) (by (simp -dsimp only [↓RP, RQ, Nat.reduceMul, reduceIte, reduceCtorEq, Nat.reduceAdd, Nat.reduceEqDiff, Nat.reduceLT, Nat.reduceLeDiff, QV, rsv, ints, I, B, wag]); all_goals (try simp [QV, Go.Sx.Sub, Go.Sx.SubL, wf_sub])) (by (simp -dsimp only [↓RP, RQ, Nat.reduceMul, reduceIte, reduceCtorEq, Nat.reduceAdd, Nat.reduceEqDiff, Nat.reduceLT, Nat.reduceLeDiff, QV, rsT, nsv, rgv, I, B, wag]); all_goals (try simp [QV])) ?_
  (repeat' (first | with_reducible (first | apply splitVC_d <;> intro _ | apply splitVC <;> intro _) | ((with_reducible refine And.intro ?_ ?_); focus (first | exact True.intro | omega | (simp only [InK, ne_eq, and_true, true_and]; omega) | (and_intros <;> first | exact .inr trivial | exact Nat.le_refl _ | exact one1 _ | exact one5 _ _ _ _ _ | exact one3 _ _ _ | exact .inl rfl | omega) | trivial)) | (simp -dsimp only [↓RP, RQ, Nat.reduceMul, reduceIte, reduceCtorEq, Nat.reduceAdd, Nat.reduceEqDiff, Nat.reduceLT, Nat.reduceLeDiff, g1, same_r, rsT, Int.reduceEq, Int.reduceNeg, Int.reduceLT, Int.reduceLE, nsv, rgv, wag, QW, Try.results8])))
  all_goals try (exfalso; omega)
 ·have hn0 : shN w m n m = 0 := hs0.2 fun h => t1 (h0.2 h)
  rw [hn0] at hl2
  rw [if_pos hn0] at hE
  rw [hE] at h28
  have h4 := ei_circ (k := k) (c := c) he t1
  have hf := ei_fin he t1
  rw [(fn_some he t1).1, (fn_some he t1).2] at h23
  have x21 := c21 n m w (by omega) n (fnF n m w) (by omega)
  have x22 := c22 n m w (by omega) n (fnF n m w) (by omega)
  rw [hf] at x21 x22
  generalize fnF n m w = F at *
  generalize ckF n m w n (rk (vF l p) n) = E3 at *
  generalize ckC n m w k c = E4 at *
  generalize ciL n m w = L at *
  have g1 := decide_eq_true (show ((L.length : Nat) : Int) = 0 by omega)
  have g2 := decide_eq_false h4
  refine callVC (h23) (by (simp -dsimp only [↓RP, RQ, Nat.reduceMul, reduceIte, reduceCtorEq, Nat.reduceAdd, Nat.reduceEqDiff, Nat.reduceLT, Nat.reduceLeDiff, QV, rsv, ints, I, B, wag]); all_goals (try simp [QV, Go.Sx.Sub, Go.Sx.SubL, wf_sub])) (by (simp -dsimp only [↓RP, RQ, Nat.reduceMul, reduceIte, reduceCtorEq, Nat.reduceAdd, Nat.reduceEqDiff, Nat.reduceLT, Nat.reduceLeDiff, QV, rsT, nsv, rgv, I, B, wag]); all_goals (try simp [QV])) ?_
  (repeat' (first | with_reducible (first | apply splitVC_d <;> intro _ | apply splitVC <;> intro _) | ((with_reducible refine And.intro ?_ ?_); focus (first | exact True.intro | omega | (simp only [InK, ne_eq, and_true, true_and]; omega) | (and_intros <;> first | exact .inr trivial | exact Nat.le_refl _ | exact one1 _ | exact one5 _ _ _ _ _ | exact one3 _ _ _ | exact .inl rfl | omega) | trivial)) | (simp -dsimp only [↓RP, RQ, Nat.reduceMul, reduceIte, reduceCtorEq, Nat.reduceAdd, Nat.reduceEqDiff, Nat.reduceLT, Nat.reduceLeDiff, g1, g2, same_r, rsT, Int.reduceEq, Int.reduceNeg, Int.reduceLT, Int.reduceLE, nsv, rgv, wag, QW, Try.results8])))
  all_goals try (exfalso; omega)
  refine callVC (h28) (by (simp -dsimp only [↓RP, RQ, Nat.reduceMul, reduceIte, reduceCtorEq, Nat.reduceAdd, Nat.reduceEqDiff, Nat.reduceLT, Nat.reduceLeDiff, QV, rsv, ints, I, B, wag]); all_goals (try simp [QV, Go.Sx.Sub, Go.Sx.SubL, wf_sub])) (by (simp -dsimp only [↓RP, RQ, Nat.reduceMul, reduceIte, reduceCtorEq, Nat.reduceAdd, Nat.reduceEqDiff, Nat.reduceLT, Nat.reduceLeDiff, QV, rsT, nsv, rgv, I, B, wag]); all_goals (try simp [QV])) ?_
  (repeat' (first | with_reducible (first | apply splitVC_d <;> intro _ | apply splitVC <;> intro _) | ((with_reducible refine And.intro ?_ ?_); focus (first | exact True.intro | omega | (simp only [InK, ne_eq, and_true, true_and]; omega) | (and_intros <;> first | exact .inr trivial | exact Nat.le_refl _ | exact one1 _ | exact one5 _ _ _ _ _ | exact one3 _ _ _ | exact .inl rfl | omega) | trivial)) | (simp -dsimp only [↓RP, RQ, Nat.reduceMul, reduceIte, reduceCtorEq, Nat.reduceAdd, Nat.reduceEqDiff, Nat.reduceLT, Nat.reduceLeDiff, g1, g2, same_r, rsT, Int.reduceEq, Int.reduceNeg, Int.reduceLT, Int.reduceLE, nsv, rgv, wag, QW, Try.results8])))
  all_goals try (exfalso; omega)
  refine callVC (q43) (by (simp -dsimp only [↓RP, RQ, Nat.reduceMul, reduceIte, reduceCtorEq, Nat.reduceAdd, Nat.reduceEqDiff, Nat.reduceLT, Nat.reduceLeDiff, QV, rsv, ints, I, B, wag]); all_goals (try simp [QV, Go.Sx.Sub, Go.Sx.SubL, wf_sub])) (by (simp -dsimp only [↓RP, RQ, Nat.reduceMul, reduceIte, reduceCtorEq, Nat.reduceAdd, Nat.reduceEqDiff, Nat.reduceLT, Nat.reduceLeDiff, QV, rsT, nsv, rgv, I, B, wag]); all_goals (try simp [QV])) ?_
  (repeat' (first | with_reducible (first | apply splitVC_d <;> intro _ | apply splitVC <;> intro _) | ((with_reducible refine And.intro ?_ ?_); focus (first | exact True.intro | omega | (simp only [InK, ne_eq, and_true, true_and]; omega) | (and_intros <;> first | exact .inr trivial | exact Nat.le_refl _ | exact one1 _ | exact one5 _ _ _ _ _ | exact one3 _ _ _ | exact .inl rfl | omega) | trivial)) | (simp -dsimp only [↓RP, RQ, Nat.reduceMul, reduceIte, reduceCtorEq, Nat.reduceAdd, Nat.reduceEqDiff, Nat.reduceLT, Nat.reduceLeDiff, g1, g2, same_r, rsT, Int.reduceEq, Int.reduceNeg, Int.reduceLT, Int.reduceLE, nsv, rgv, wag, QW, Try.results8])))
  all_goals try (exfalso; omega)
  refine callVC (h21) (by (simp -dsimp only [↓RP, RQ, Nat.reduceMul, reduceIte, reduceCtorEq, Nat.reduceAdd, Nat.reduceEqDiff, Nat.reduceLT, Nat.reduceLeDiff, QV, rsv, ints, I, B, wag]); all_goals (try simp [QV, Go.Sx.Sub, Go.Sx.SubL, wf_sub])) (by (simp -dsimp only [↓RP, RQ, Nat.reduceMul, reduceIte, reduceCtorEq, Nat.reduceAdd, Nat.reduceEqDiff, Nat.reduceLT, Nat.reduceLeDiff, QV, rsT, nsv, rgv, I, B, wag]); all_goals (try simp [QV])) ?_
  (repeat' (first | with_reducible (first | apply splitVC_d <;> intro _ | apply splitVC <;> intro _) | ((with_reducible refine And.intro ?_ ?_); focus (first | exact True.intro | omega | (simp only [InK, ne_eq, and_true, true_and]; omega) | (and_intros <;> first | exact .inr trivial | exact Nat.le_refl _ | exact one1 _ | exact one5 _ _ _ _ _ | exact one3 _ _ _ | exact .inl rfl | omega) | trivial)) | (simp -dsimp only [↓RP, RQ, Nat.reduceMul, reduceIte, reduceCtorEq, Nat.reduceAdd, Nat.reduceEqDiff, Nat.reduceLT, Nat.reduceLeDiff, g1, g2, same_r, rsT, Int.reduceEq, Int.reduceNeg, Int.reduceLT, Int.reduceLE, nsv, rgv, wag, QW, Try.results8])))
  all_goals try (exfalso; omega)
  refine callVC (h29) (by (simp -dsimp only [↓RP, RQ, Nat.reduceMul, reduceIte, reduceCtorEq, Nat.reduceAdd, Nat.reduceEqDiff, Nat.reduceLT, Nat.reduceLeDiff, QV, rsv, ints, I, B, wag]); all_goals (try simp [QV, Go.Sx.Sub, Go.Sx.SubL, wf_sub])) (by (simp -dsimp only [↓RP, RQ, Nat.reduceMul, reduceIte, reduceCtorEq, Nat.reduceAdd, Nat.reduceEqDiff, Nat.reduceLT, Nat.reduceLeDiff, QV, rsT, nsv, rgv, I, B, wag]); all_goals (try simp [QV])) ?_
  (repeat' (first | with_reducible (first | apply splitVC_d <;> intro _ | apply splitVC <;> intro _) | ((with_reducible refine And.intro ?_ ?_); focus (first | exact True.intro | omega | (simp only [InK, ne_eq, and_true, true_and]; omega) | (and_intros <;> first | exact .inr trivial | exact Nat.le_refl _ | exact one1 _ | exact one5 _ _ _ _ _ | exact one3 _ _ _ | exact .inl rfl | omega) | trivial)) | (simp -dsimp only [↓RP, RQ, Nat.reduceMul, reduceIte, reduceCtorEq, Nat.reduceAdd, Nat.reduceEqDiff, Nat.reduceLT, Nat.reduceLeDiff, g1, g2, same_r, rsT, Int.reduceEq, Int.reduceNeg, Int.reduceLT, Int.reduceLE, nsv, rgv, wag, QW, Try.results8])))
  all_goals try (exfalso; omega)
  refine callVC (h30) (by (simp -dsimp only [↓RP, RQ, Nat.reduceMul, reduceIte, reduceCtorEq, Nat.reduceAdd, Nat.reduceEqDiff, Nat.reduceLT, Nat.reduceLeDiff, QV, rsv, ints, I, B, wag]); all_goals (try simp [QV, Go.Sx.Sub, Go.Sx.SubL, wf_sub])) (by (simp -dsimp only [↓RP, RQ, Nat.reduceMul, reduceIte, reduceCtorEq, Nat.reduceAdd, Nat.reduceEqDiff, Nat.reduceLT, Nat.reduceLeDiff, QV, rsT, nsv, rgv, I, B, wag]); all_goals (try simp [QV])) ?_
  (repeat' (first | with_reducible (first | apply splitVC_d <;> intro _ | apply splitVC <;> intro _) | ((with_reducible refine And.intro ?_ ?_); focus (first | exact True.intro | omega | (simp only [InK, ne_eq, and_true, true_and]; omega) | (and_intros <;> first | exact .inr trivial | exact Nat.le_refl _ | exact one1 _ | exact one5 _ _ _ _ _ | exact one3 _ _ _ | exact .inl rfl | omega) | trivial)) | (simp -dsimp only [↓RP, RQ, Nat.reduceMul, reduceIte, reduceCtorEq, Nat.reduceAdd, Nat.reduceEqDiff, Nat.reduceLT, Nat.reduceLeDiff, g1, g2, same_r, rsT, Int.reduceEq, Int.reduceNeg, Int.reduceLT, Int.reduceLE, nsv, rgv, wag, QW, Try.results8])))
  all_goals try (exfalso; omega)
  refine callVC (x21) (by (simp -dsimp only [↓RP, RQ, Nat.reduceMul, reduceIte, reduceCtorEq, Nat.reduceAdd, Nat.reduceEqDiff, Nat.reduceLT, Nat.reduceLeDiff, QV, rsv, ints, nsv, I, B, wag]); all_goals (try simp [QV, Go.Sx.Sub, Go.Sx.SubL, wf_sub])) (by (simp -dsimp only [↓RP, RQ, Nat.reduceMul, reduceIte, reduceCtorEq, Nat.reduceAdd, Nat.reduceEqDiff, Nat.reduceLT, Nat.reduceLeDiff, QV, I]); all_goals (try simp [QV])) ?_
  (repeat' (first | with_reducible (first | apply splitVC_d <;> intro _ | apply splitVC <;> intro _) | ((with_reducible refine And.intro ?_ ?_); focus (first | exact True.intro | omega | (simp only [InK, ne_eq, and_true, true_and]; omega) | (and_intros <;> first | exact .inr trivial | exact Nat.le_refl _ | exact one1 _ | exact one5 _ _ _ _ _ | exact one3 _ _ _ | exact .inl rfl | omega) | trivial)) | (simp -dsimp only [↓RP, RQ, Nat.reduceMul, reduceIte, reduceCtorEq, Nat.reduceAdd, Nat.reduceEqDiff, Nat.reduceLT, Nat.reduceLeDiff, g1, g2, same_r, rsT, Int.reduceEq, Int.reduceNeg, Int.reduceLT, Int.reduceLE, nsv, rgv, wag, QW, Try.results8])))
  all_goals try (exfalso; omega)
  refine callVC (x22) (by (simp -dsimp only [↓RP, RQ, Nat.reduceMul, reduceIte, reduceCtorEq, Nat.reduceAdd, Nat.reduceEqDiff, Nat.reduceLT, Nat.reduceLeDiff, QV, rsv, ints, nsv, I, B, wag]); all_goals (try simp [QV, Go.Sx.Sub, Go.Sx.SubL, wf_sub])) (by (simp -dsimp only [↓RP, RQ, Nat.reduceMul, reduceIte, reduceCtorEq, Nat.reduceAdd, Nat.reduceEqDiff, Nat.reduceLT, Nat.reduceLeDiff, QV, I]); all_goals (try simp [QV])) ?_
  (repeat' (first | with_reducible (first | apply splitVC_d <;> intro _ | apply splitVC <;> intro _) | ((with_reducible refine And.intro ?_ ?_); focus (first | exact True.intro | omega | (simp only [InK, ne_eq, and_true, true_and]; omega) | (and_intros <;> first | exact .inr trivial | exact Nat.le_refl _ | exact one1 _ | exact one5 _ _ _ _ _ | exact one3 _ _ _ | exact .inl rfl | omega) | trivial)) | (simp -dsimp only [↓RP, RQ, Nat.reduceMul, reduceIte, reduceCtorEq, Nat.reduceAdd, Nat.reduceEqDiff, Nat.reduceLT, Nat.reduceLeDiff, g1, g2, same_r, rsT, Int.reduceEq, Int.reduceNeg, Int.reduceLT, Int.reduceLE, nsv, rgv, wag, QW, Try.results8])))
  all_goals try (exfalso; omega)
  refine callVC (c18) (by (simp -dsimp only [↓RP, RQ, Nat.reduceMul, reduceIte, reduceCtorEq, Nat.reduceAdd, Nat.reduceEqDiff, Nat.reduceLT, Nat.reduceLeDiff, QV, rsv, ints, I, B, wag]); all_goals (try simp [QV, Go.Sx.Sub, Go.Sx.SubL, wf_sub])) (by (simp -dsimp only [↓RP, RQ, Nat.reduceMul, reduceIte, reduceCtorEq, Nat.reduceAdd, Nat.reduceEqDiff, Nat.reduceLT, Nat.reduceLeDiff, QV, rsT, nsv, rgv, I, B, wag]); all_goals (try simp [QV])) ?_
  (repeat' (first | with_reducible (first | apply splitVC_d <;> intro _ | apply splitVC <;> intro _) | ((with_reducible refine And.intro ?_ ?_); focus (first | exact True.intro | omega | (simp only [InK, ne_eq, and_true, true_and]; omega) | (and_intros <;> first | exact .inr trivial | exact Nat.le_refl _ | exact one1 _ | exact one5 _ _ _ _ _ | exact one3 _ _ _ | exact .inl rfl | omega) | trivial)) | (simp -dsimp only [↓RP, RQ, Nat.reduceMul, reduceIte, reduceCtorEq, Nat.reduceAdd, Nat.reduceEqDiff, Nat.reduceLT, Nat.reduceLeDiff, g1, g2, same_r, rsT, Int.reduceEq, Int.reduceNeg, Int.reduceLT, Int.reduceLE, nsv, rgv, wag, QW, Try.results8])))
  all_goals try (exfalso; omega)
end Go.He
end
