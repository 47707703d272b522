/- A part of the proof. -/
import Derived.Test.YtpdebflfimmnpaaHK
section
set_option linter.unusedSimpArgs false
set_option linter.unusedVariables false
set_option linter.defProp false
set_option maxRecDepth 100000
set_option maxHeartbeats 16000000
namespace Go.He
open Go.Proofs
open Go.Sx
theorem same_r (a : Nat) (u : Nat → Int) : decide (sameI a u a u) = true := decide_eq_true ⟨rfl, fun _ _ => rfl⟩
end Go.He
end
section
set_option linter.unusedSimpArgs false
set_option linter.unusedVariables false
set_option linter.defProp false
set_option maxRecDepth 100000
set_option maxHeartbeats 16000000
namespace Go.He
open Go.Proofs
open Go.Sx
end Go.He
end
section
set_option linter.unusedSimpArgs false
set_option linter.unusedVariables false
set_option linter.defProp false
set_option maxRecDepth 100000
set_option maxHeartbeats 16000000
namespace Go.He
open Go.Proofs
open Go.Sx
theorem tm {x : Int} (h : 0 ≤ x) (n : Nat) : x.tmod (n : Int) = ((x.toNat % n : Nat) : Int) := by
 obtain ⟨k, rfl⟩ : ∃ k : Nat, x = k := ⟨x.toNat, by omega⟩
 rw [Int.toNat_natCast, Int.tmod_eq_emod_of_nonneg (by omega)]; rfl
end Go.He
end
section
set_option linter.unusedSimpArgs false
set_option linter.unusedVariables false
set_option linter.defProp false
set_option maxRecDepth 100000
set_option maxHeartbeats 16000000
namespace Go.He
open Go.Proofs
open Go.Sx
theorem fin2 : (fins 2).length = 3 := by kernel_rfl
theorem fin3 : (fins 3).length = 13 := by kernel_rfl
theorem fin4 : (fins 4).length = 75 := by kernel_rfl
theorem fin5 : (fins 5).length = 541 := by kernel_rfl
theorem fins_541 {n : Nat} (h2 : 2 ≤ n) (h5 : n ≤ 5) : (fins n).length ≤ 541 := by
 have : n = 2 ∨ n = 3 ∨ n = 4 ∨ n = 5 := by omega
 rcases this with rfl | rfl | rfl | rfl
 ·rw [fin2]; omega
 ·rw [fin3]; omega
 ·rw [fin4]; omega
 ·rw [fin5]; omega
theorem agrs_541 {w : Nat → Wd} {m n : Nat} (h2 : 2 ≤ n) (h5 : n ≤ 5) : (agrs w m n).length ≤ 541 :=
 Nat.le_trans (lst_mono fun t _ h => by unfold okA at h; rw [Bool.and_eq_true] at h; exact h.1) (fins_541 h2 h5)
theorem cn_ok {n m : Nat} {w : Nat → Wd} (h : ckR n m w = 0) : cnV n m w = ((agrs w m n).length : Nat) := by unfold cnV; rw [if_pos h, Int.toNat_natCast]
end Go.He
end
section
set_option linter.unusedSimpArgs false
set_option linter.unusedVariables false
set_option linter.defProp false
set_option maxRecDepth 100000
set_option maxHeartbeats 16000000
namespace Go.He
open Go.Proofs
open Go.Sx
end Go.He
end
section
set_option linter.unusedSimpArgs false
set_option linter.unusedVariables false
set_option linter.defProp false
set_option maxRecDepth 100000
set_option maxHeartbeats 16000000
namespace Go.He
open Go.Proofs
open Go.Sx
def vF (l : Nat) (p : Nat → Int) (i : Nat) : Int := if l = 0 then (i : Nat) else p (i % l)
def vK (l : Nat) (p : Nat → Int) (k i : Nat) : Int := if i < k then vF l p i else 0
def rK (f : Nat → Int) (n k i : Nat) : Int := if i < k then rk f n i else 0
theorem vK0 (l : Nat) (p : Nat → Int) (i : Nat) : vK l p 0 i = 0 := by unfold vK; rw [if_neg (Nat.not_lt_zero i)]
theorem vK_n (l : Nat) (p : Nat → Int) {n i : Nat} (h : i < n) : vK l p n i = vF l p i := by unfold vK; rw [if_pos h]
theorem vk_row {l : Nat} {p : Nat → Int} {n k : Nat} {v : Int} (e : vF l p k = v) : ∀ (i : Nat), i < n → (if i = k then SV.val (.int .i64 v) else SV.val (.int .i64 (vK l p k i))) = SV.val (.int .i64 (vK l p (k + 1) i)) := by
 intro i _
 unfold vK
 by_cases c : i = k
 ·subst c; rw [if_pos rfl, if_pos (by omega), e]
 ·rw [if_neg c]
  by_cases d : i < k
  ·rw [if_pos d, if_pos (by omega)]
  ·rw [if_neg d, if_neg (by omega)]
def rM (f : Nat → Int) (n i j y : Nat) : Int := if y = i then rkN f i j else rK f n i y
theorem rK0 (f : Nat → Int) (n i : Nat) : rK f n 0 i = 0 := by unfold rK; rw [if_neg (Nat.not_lt_zero i)]
theorem rM_n (f : Nat → Int) (n i y : Nat) : rM f n i n y = rK f n (i + 1) y := by
 unfold rM rK
 by_cases e : y = i
 ·subst e; rw [if_pos rfl, if_pos (by omega)]; rfl
 ·rw [if_neg e]
  by_cases d : y < i
  ·rw [if_pos d, if_pos (by omega)]
  ·rw [if_neg d, if_neg (by omega)]
theorem rm_0 (f : Nat → Int) (n i : Nat) : ∀ (y : Nat), y < n → (if y = i then SV.val (.int .i64 1) else SV.val (.int .i64 (rK f n i y))) = SV.val (.int .i64 (rM f n i 0 y)) := by
 intro y _
 unfold rM
 by_cases e : y = i
 ·rw [if_pos e, if_pos e]; rfl
 ·rw [if_neg e, if_neg e]
theorem rM_i (f : Nat → Int) (n i j : Nat) : rM f n i j i = rkN f i j := if_pos rfl
theorem rM_S (f : Nat → Int) (n i j y : Nat) : rM f n i (j + 1) y = if y = i then (if f j < f i then rkN f i j + 1 else rkN f i j) else rM f n i j y := by
 unfold rM
 by_cases e : y = i
 ·rw [if_pos e, if_pos e]; rfl
 ·rw [if_neg e, if_neg e, if_neg e]
theorem c43 (n : Nat) (h2 : 2 ≤ n) (h5 : n ≤ 5) (l : Nat) (p : Nat → Int) (hl : l ≤ 1000000) (hp : ∀ i, i < l → 0 ≤ p i ∧ p i < 256) : Contract Try.prog 43 [I n, .arr false false l 1 (fun i _ => .val (.int .u8 (p i)))] (.arr true false n 1 (fun i _ => .val (.int .i64 (rk (vF l p) n i)))) := by
 refine contract_of Try.func43 rfl (by kernel_rfl) follows (by kernel_rfl) _ _ (by rw [Try.ntmps43]; simp) (by simp [OldL, Old, QV, I]) ?_
 unfold I
 (repeat' (first | with_reducible (first | apply splitVC_d <;> intro _ | apply splitVC <;> intro _) | ((with_reducible refine And.intro ?_ ?_); focus (first | exact True.intro | omega | (simp only [InK, ne_eq, and_true, true_and]; omega) | (and_intros <;> first | exact .inr trivial | exact Nat.le_refl _ | exact one1 _ | exact one5 _ _ _ _ _ | exact one3 _ _ _ | exact .inl rfl | omega) | trivial)) | (simp -dsimp only [↓RP, RQ, Nat.reduceMul, reduceIte, reduceCtorEq, Nat.reduceAdd, Nat.reduceEqDiff, Nat.reduceLT, Nat.reduceLeDiff, same_r, rsT, Int.reduceEq, Int.reduceNeg, Int.reduceLT, Int.reduceLE, nsv, rgv, QW, Try.results43])))
 all_goals try (exfalso; omega)
 refine loop_vc (fun (k : Nat) => k ≤ n) (fun k => ⟨[(0, .val (.int .i64 (n : Nat))), (1, .arr false false l 1 (fun i _ => .val (.int .u8 (p i)))), (5, .vec 60 n 1), (6, .val (.int .i64 (k : Nat)))], [(60, .rows 3 1 n (fun i _ => .val (.int .i64 (vK l p k i))))], 80⟩) (fun k => n - k) 0 (Nat.zero_le _) (weak [(60, some 2)] [] ?_ ?_ ?_) fun k hk => ?_
 iterate 3 focus ((simp -dsimp only [↓RP, RQ, Nat.reduceMul, reduceIte, reduceCtorEq, Nat.reduceAdd, Nat.reduceEqDiff, Nat.reduceLT, Nat.reduceLeDiff, QV, vK0]); all_goals (try simp [QV, vK0]))
 by_cases hlt : k < n
 ·by_cases h0 : l = 0
  ·have f0 := decide_eq_false (show ¬ (0 : Int) < ((l : Nat) : Int) by omega)
   have ev : vF l p k = (k : Nat) := by unfold vF; rw [if_pos h0]
   (repeat' (first | with_reducible (first | apply splitVC_d <;> intro _ | apply splitVC <;> intro _) | ((with_reducible refine And.intro ?_ ?_); focus (first | exact True.intro | omega | (simp only [InK, ne_eq, and_true, true_and]; omega) | (and_intros <;> first | exact .inr trivial | exact Nat.le_refl _ | exact one1 _ | exact one5 _ _ _ _ _ | exact one3 _ _ _ | exact .inl rfl | omega) | trivial)) | (simp -dsimp only [↓RP, RQ, Nat.reduceMul, reduceIte, reduceCtorEq, Nat.reduceAdd, Nat.reduceEqDiff, Nat.reduceLT, Nat.reduceLeDiff, f0, same_r, rsT, Int.reduceEq, Int.reduceNeg, Int.reduceLT, Int.reduceLE, nsv, rgv, QW, Try.results43])))
   all_goals try (exfalso; omega)
   refine ⟨k + 1, by omega, by omega, weak [] [] ?_ ?_ ?_⟩
   ·(simp -dsimp only [↓RP, RQ, Nat.reduceMul, reduceIte, reduceCtorEq, Nat.reduceAdd, Nat.reduceEqDiff, Nat.reduceLT, Nat.reduceLeDiff, QV]); all_goals (try simp [QV])
   ·(simp -dsimp only [↓RP, RQ, Nat.reduceMul, reduceIte, reduceCtorEq, Nat.reduceAdd, Nat.reduceEqDiff, Nat.reduceLT, Nat.reduceLeDiff, QV]); all_goals (try simp [QV]); exact vk_row ev
   ·(simp -dsimp only [↓RP, RQ, Nat.reduceMul, reduceIte, reduceCtorEq, Nat.reduceAdd, Nat.reduceEqDiff, Nat.reduceLT, Nat.reduceLeDiff, QV]); all_goals (try simp [QV])
  ·have f0 := decide_eq_true (show (0 : Int) < ((l : Nat) : Int) by omega)
   have hml := Nat.mod_lt k (show 0 < l by omega)
   have hpk := hp _ hml
   have ev : vF l p k = p (k % l) := by unfold vF; rw [if_neg h0]
   have em : ((k : Nat) : Int).tmod ((l : Nat) : Int) = ((k % l : Nat) : Int) := by have := tm (x := ((k : Nat) : Int)) (by omega) l; rwa [Int.toNat_natCast] at this
   (repeat' (first | with_reducible (first | apply splitVC_d <;> intro _ | apply splitVC <;> intro _) | ((with_reducible refine And.intro ?_ ?_); focus (first | exact True.intro | omega | (simp only [InK, ne_eq, and_true, true_and]; omega) | (and_intros <;> first | exact .inr trivial | exact Nat.le_refl _ | exact one1 _ | exact one5 _ _ _ _ _ | exact one3 _ _ _ | exact .inl rfl | omega) | trivial)) | (simp -dsimp only [↓RP, RQ, Nat.reduceMul, reduceIte, reduceCtorEq, Nat.reduceAdd, Nat.reduceEqDiff, Nat.reduceLT, Nat.reduceLeDiff, f0, em, same_r, rsT, Int.reduceEq, Int.reduceNeg, Int.reduceLT, Int.reduceLE, nsv, rgv, QW, Try.results43])))
   all_goals try (exfalso; omega)
   refine ⟨k + 1, by omega, by omega, weak [] [] ?_ ?_ ?_⟩
   ·(simp -dsimp only [↓RP, RQ, Nat.reduceMul, reduceIte, reduceCtorEq, Nat.reduceAdd, Nat.reduceEqDiff, Nat.reduceLT, Nat.reduceLeDiff, QV]); all_goals (try simp [QV])
   ·(simp -dsimp only [↓RP, RQ, Nat.reduceMul, reduceIte, reduceCtorEq, Nat.reduceAdd, Nat.reduceEqDiff, Nat.reduceLT, Nat.reduceLeDiff, QV]); all_goals (try simp [QV]); (intro i hi; rw [← vk_row (n := n) ev i hi]; by_cases e : i = k <;> simp [e])
   ·(simp -dsimp only [↓RP, RQ, Nat.reduceMul, reduceIte, reduceCtorEq, Nat.reduceAdd, Nat.reduceEqDiff, Nat.reduceLT, Nat.reduceLeDiff, QV]); all_goals (try simp [QV])
 ·have hkn : n = k := by omega
  subst hkn
  (repeat' (first | with_reducible (first | apply splitVC_d <;> intro _ | apply splitVC <;> intro _) | ((with_reducible refine And.intro ?_ ?_); focus (first | exact True.intro | omega | (simp only [InK, ne_eq, and_true, true_and]; omega) | (and_intros <;> first | exact .inr trivial | exact Nat.le_refl _ | exact one1 _ | exact one5 _ _ _ _ _ | exact one3 _ _ _ | exact .inl rfl | omega) | trivial)) | (simp -dsimp only [↓RP, RQ, Nat.reduceMul, reduceIte, reduceCtorEq, Nat.reduceAdd, Nat.reduceEqDiff, Nat.reduceLT, Nat.reduceLeDiff, same_r, rsT, Int.reduceEq, Int.reduceNeg, Int.reduceLT, Int.reduceLE, nsv, rgv, QW, Try.results43])))
  all_goals try (exfalso; omega)
  refine loop_vc (fun (i : Nat) => i ≤ n) (fun i => ⟨[(0, .val (.int .i64 (n : Nat))), (5, .vec 60 n 1), (7, .vec 61 n 1), (8, .val (.int .i64 (i : Nat)))], [(61, .rows 3 1 n (fun y _ => .val (.int .i64 (rK (vF l p) n i y)))), (60, .rows 3 1 n (fun i _ => .val (.int .i64 (vK l p n i))))], 200⟩) (fun i => n - i) 0 (Nat.zero_le _) (weak [(61, some 84)] [] ?_ ?_ ?_) fun i hi => ?_
  iterate 3 focus ((simp -dsimp only [↓RP, RQ, Nat.reduceMul, reduceIte, reduceCtorEq, Nat.reduceAdd, Nat.reduceEqDiff, Nat.reduceLT, Nat.reduceLeDiff, QV, rK0]); all_goals (try simp [QV, rK0]))
  by_cases hli : i < n
  ·(repeat' (first | with_reducible (first | apply splitVC_d <;> intro _ | apply splitVC <;> intro _) | ((with_reducible refine And.intro ?_ ?_); focus (first | exact True.intro | omega | (simp only [InK, ne_eq, and_true, true_and]; omega) | (and_intros <;> first | exact .inr trivial | exact Nat.le_refl _ | exact one1 _ | exact one5 _ _ _ _ _ | exact one3 _ _ _ | exact .inl rfl | omega) | trivial)) | (simp -dsimp only [↓RP, RQ, Nat.reduceMul, reduceIte, reduceCtorEq, Nat.reduceAdd, Nat.reduceEqDiff, Nat.reduceLT, Nat.reduceLeDiff, same_r, rsT, Int.reduceEq, Int.reduceNeg, Int.reduceLT, Int.reduceLE, nsv, rgv, QW, Try.results43])))
   all_goals try (exfalso; omega)
   refine loop_vc (fun (j : Nat) => j ≤ n) (fun j => ⟨[(0, .val (.int .i64 (n : Nat))), (5, .vec 60 n 1), (7, .vec 61 n 1), (8, .val (.int .i64 (i : Nat))), (9, .val (.int .i64 (j : Nat)))], [(61, .rows 3 1 n (fun y _ => .val (.int .i64 (rM (vF l p) n i j y)))), (60, .rows 3 1 n (fun i _ => .val (.int .i64 (vK l p n i))))], 260⟩) (fun j => n - j) 0 (Nat.zero_le _) (weak [] [] ?_ ?_ ?_) fun j hj => ?_
   iterate 3 focus ((simp -dsimp only [↓RP, RQ, Nat.reduceMul, reduceIte, reduceCtorEq, Nat.reduceAdd, Nat.reduceEqDiff, Nat.reduceLT, Nat.reduceLeDiff, QV]); all_goals (try simp [QV]); all_goals first | exact rm_0 _ _ _ | skip)
   have hb := rkN_bd (vF l p) i j
   by_cases hlj : j < n
   ·by_cases hc : vF l p j < vF l p i
    ·have f1 := decide_eq_true hc
     (repeat' (first | with_reducible (first | apply splitVC_d <;> intro _ | apply splitVC <;> intro _) | ((with_reducible refine And.intro ?_ ?_); focus (first | exact True.intro | omega | (simp only [InK, ne_eq, and_true, true_and]; omega) | (and_intros <;> first | exact .inr trivial | exact Nat.le_refl _ | exact one1 _ | exact one5 _ _ _ _ _ | exact one3 _ _ _ | exact .inl rfl | omega) | trivial)) | (simp -dsimp only [↓RP, RQ, Nat.reduceMul, reduceIte, reduceCtorEq, Nat.reduceAdd, Nat.reduceEqDiff, Nat.reduceLT, Nat.reduceLeDiff, vK_n l p hlj, vK_n l p hli, f1, rM_i, same_r, rsT, Int.reduceEq, Int.reduceNeg, Int.reduceLT, Int.reduceLE, nsv, rgv, QW, Try.results43])))
     all_goals try (exfalso; omega)
     refine ⟨j + 1, by omega, by omega, weak [] [] ?_ ?_ ?_⟩
     ·(simp -dsimp only [↓RP, RQ, Nat.reduceMul, reduceIte, reduceCtorEq, Nat.reduceAdd, Nat.reduceEqDiff, Nat.reduceLT, Nat.reduceLeDiff, QV]); all_goals (try simp [QV])
     ·(simp -dsimp only [↓RP, RQ, Nat.reduceMul, reduceIte, reduceCtorEq, Nat.reduceAdd, Nat.reduceEqDiff, Nat.reduceLT, Nat.reduceLeDiff, QV]); all_goals (try simp [QV]); (intro y hy; rw [rM_S]; by_cases e : y = i <;> simp [e, hc])
     ·(simp -dsimp only [↓RP, RQ, Nat.reduceMul, reduceIte, reduceCtorEq, Nat.reduceAdd, Nat.reduceEqDiff, Nat.reduceLT, Nat.reduceLeDiff, QV]); all_goals (try simp [QV])
    ·have f1 := decide_eq_false hc
     (repeat' (first | with_reducible (first | apply splitVC_d <;> intro _ | apply splitVC <;> intro _) | ((with_reducible refine And.intro ?_ ?_); focus (first | exact True.intro | omega | (simp only [InK, ne_eq, and_true, true_and]; omega) | (and_intros <;> first | exact .inr trivial | exact Nat.le_refl _ | exact one1 _ | exact one5 _ _ _ _ _ | exact one3 _ _ _ | exact .inl rfl | omega) | trivial)) | (simp -dsimp only [↓RP, RQ, Nat.reduceMul, reduceIte, reduceCtorEq, Nat.reduceAdd, Nat.reduceEqDiff, Nat.reduceLT, Nat.reduceLeDiff, vK_n l p hlj, vK_n l p hli, f1, same_r, rsT, Int.reduceEq, Int.reduceNeg, Int.reduceLT, Int.reduceLE, nsv, rgv, QW, Try.results43])))
     all_goals try (exfalso; omega)
     refine ⟨j + 1, by omega, by omega, weak [] [] ?_ ?_ ?_⟩
     ·(simp -dsimp only [↓RP, RQ, Nat.reduceMul, reduceIte, reduceCtorEq, Nat.reduceAdd, Nat.reduceEqDiff, Nat.reduceLT, Nat.reduceLeDiff, QV]); all_goals (try simp [QV])
     ·(simp -dsimp only [↓RP, RQ, Nat.reduceMul, reduceIte, reduceCtorEq, Nat.reduceAdd, Nat.reduceEqDiff, Nat.reduceLT, Nat.reduceLeDiff, QV]); all_goals (try simp [QV]); (intro y hy; rw [rM_S]; by_cases e : y = i <;> simp [e, hc, rM_i])
     ·(simp -dsimp only [↓RP, RQ, Nat.reduceMul, reduceIte, reduceCtorEq, Nat.reduceAdd, Nat.reduceEqDiff, Nat.reduceLT, Nat.reduceLeDiff, QV]); all_goals (try simp [QV])
   ·have hjn : n = j := by omega
    subst hjn
    (repeat' (first | with_reducible (first | apply splitVC_d <;> intro _ | apply splitVC <;> intro _) | ((with_reducible refine And.intro ?_ ?_); focus (first | exact True.intro | omega | (simp only [InK, ne_eq, and_true, true_and]; omega) | (and_intros <;> first | exact .inr trivial | exact Nat.le_refl _ | exact one1 _ | exact one5 _ _ _ _ _ | exact one3 _ _ _ | exact .inl rfl | omega) | trivial)) | (simp -dsimp only [↓RP, RQ, Nat.reduceMul, reduceIte, reduceCtorEq, Nat.reduceAdd, Nat.reduceEqDiff, Nat.reduceLT, Nat.reduceLeDiff, same_r, rsT, Int.reduceEq, Int.reduceNeg, Int.reduceLT, Int.reduceLE, nsv, rgv, QW, Try.results43])))
    all_goals try (exfalso; omega)
    refine ⟨i + 1, by omega, by omega, weak [] [] ?_ ?_ ?_⟩
    iterate 2 focus ((simp -dsimp only [↓RP, RQ, Nat.reduceMul, reduceIte, reduceCtorEq, Nat.reduceAdd, Nat.reduceEqDiff, Nat.reduceLT, Nat.reduceLeDiff, QV, rM_n]); all_goals (try simp [QV, rM_n]))
    ·(simp -dsimp only [↓RP, RQ, Nat.reduceMul, reduceIte, reduceCtorEq, Nat.reduceAdd, Nat.reduceEqDiff, Nat.reduceLT, Nat.reduceLeDiff, QV]); all_goals (try simp [QV])
  ·have hin : n = i := by omega
   subst hin
   (repeat' (first | with_reducible (first | apply splitVC_d <;> intro _ | apply splitVC <;> intro _) | ((with_reducible refine And.intro ?_ ?_); focus (first | exact True.intro | omega | (simp only [InK, ne_eq, and_true, true_and]; omega) | (and_intros <;> first | exact .inr trivial | exact Nat.le_refl _ | exact one1 _ | exact one5 _ _ _ _ _ | exact one3 _ _ _ | exact .inl rfl | omega) | trivial)) | (simp -dsimp only [↓RP, RQ, Nat.reduceMul, reduceIte, reduceCtorEq, Nat.reduceAdd, Nat.reduceEqDiff, Nat.reduceLT, Nat.reduceLeDiff, same_r, rsT, Int.reduceEq, Int.reduceNeg, Int.reduceLT, Int.reduceLE, nsv, rgv, QW, Try.results43])))
   all_goals try (exfalso; omega)
   intro y j hy hj
   unfold rK; rw [if_pos hy]
end Go.He
end
section
set_option linter.unusedSimpArgs false
set_option linter.unusedVariables false
set_option linter.defProp false
set_option maxRecDepth 100000
set_option maxHeartbeats 16000000
namespace Go.He
open Go.Proofs
open Go.Sx
theorem ckF_fin {n m : Nat} {w : Nat → Wd} (h : ckR n m w = 0) {f : Nat → Int} (hf : Fin f n) : ckF n m w n f = if agr w m f then 0 else 22 := by
 unfold ckF
 rw [if_neg (fun e => e h), if_neg (fun e => e rfl), if_neg (fun e => e hf)]
 by_cases c : agr w m f
 ·rw [if_neg (fun e => e c), if_pos c]
 ·rw [if_pos c, if_neg c]
end Go.He
end
section
set_option linter.unusedSimpArgs false
set_option linter.unusedVariables false
set_option linter.defProp false
set_option maxRecDepth 100000
set_option maxHeartbeats 16000000
namespace Go.He
open Go.Sx
theorem ba_inc {n m : Nat} {w : Nat → Wd} : Inc (baseP (MsL w m n (n ^ n)) m) 0 m := (base_bst (MsL_msk w m n)).inc
end Go.He
end
section
set_option linter.unusedSimpArgs false
set_option linter.unusedVariables false
set_option linter.defProp false
set_option maxRecDepth 100000
set_option maxHeartbeats 16000000
namespace Go.He
open Go.Sx
theorem ck_sil {n : Nat} (h2 : 2 ≤ n) (h5 : n ≤ 5) (w : Nat → Wd) : ckR n 0 w = 0 := by
 unfold ckR
 rw [if_neg (fun h => h ⟨by omega, by omega⟩), if_neg (by omega), if_neg]
 rintro ⟨i, hi, _⟩
 omega
theorem agrs_sil (w : Nat → Wd) (n : Nat) : agrs w 0 n = fins n := by
 unfold agrs fins
 exact lst_congr fun t _ => by
  have : agr w 0 (Dg n t) := fun i hi => absurd hi (Nat.not_lt_zero i)
  unfold okA
  rw [decide_eq_true this, Bool.and_true]
theorem four {n : Nat} (h2 : 2 ≤ n) (h5 : n ≤ 5) : n = 2 ∨ n = 3 ∨ n = 4 ∨ n = 5 := by omega
theorem fst2 : (fins 2).getD 0 0 = 0 := by kernel_rfl
theorem fst3 : (fins 3).getD 0 0 = 0 := by kernel_rfl
theorem fst4 : (fins 4).getD 0 0 = 0 := by kernel_rfl
theorem fst5 : (fins 5).getD 0 0 = 0 := by kernel_rfl
theorem fins_fst {n : Nat} (h2 : 2 ≤ n) (h5 : n ≤ 5) : (fins n).getD 0 0 = 0 := by
 rcases four h2 h5 with rfl | rfl | rfl | rfl
 ·exact fst2
 ·exact fst3
 ·exact fst4
 ·exact fst5
theorem sil_fn {n : Nat} (h2 : 2 ≤ n) (h5 : n ≤ 5) (w : Nat → Wd) {i : Nat} (hi : i < n) : fnF n 0 w i = 1 := by
 unfold fnF
 rw [Int.toNat_natCast, agrs_sil, fins_fst h2 h5]
 unfold Dg dg
 rw [if_pos hi, Nat.zero_div, Nat.zero_mod]; rfl
theorem sil_ck {n : Nat} (h2 : 2 ≤ n) (h5 : n ≤ 5) (w : Nat → Wd) {f : Nat → Int} (hf : Fin f n) : ckF n 0 w n f = 0 := by
 rw [ckF_fin (ck_sil h2 h5 w) hf, if_pos]
 exact fun i hi => absurd hi (Nat.not_lt_zero i)
theorem sil_ba {n : Nat} (h2 : 2 ≤ n) (h5 : n ≤ 5) (w : Nat → Wd) : (baL n 0 w).length = 0 := by
 unfold baL
 split
 ·have := inc_len (ba_inc (n := n) (m := 0) (w := w))
  unfold baP
  rw [Int.toNat_natCast]; omega
 ·rfl
end Go.He
end
section
set_option linter.unusedSimpArgs false
set_option linter.unusedVariables false
set_option linter.defProp false
set_option maxRecDepth 100000
set_option maxHeartbeats 16000000
namespace Go.He
open Go.Proofs
open Go.Sx
def wZ (i : Nat) : Wd := ⟨0, 0, 0⟩
def wantN (n : Nat) : Int := ([3, 13, 75, 541] : List Int).getD (n - 2) 0
theorem fins_want {n : Nat} (h2 : 2 ≤ n) (h5 : n ≤ 5) : ((fins n).length : Int) = wantN n := by
 rcases four h2 h5 with rfl | rfl | rfl | rfl
 ·rw [fin2]; rfl
 ·rw [fin3]; rfl
 ·rw [fin4]; rfl
 ·rw [fin5]; rfl
theorem want_0 {n : Nat} (h2 : 2 ≤ n) (h5 : n ≤ 5) : wantN n ≠ 0 := by
 rcases four h2 h5 with rfl | rfl | rfl | rfl <;> decide
def wv (i : Nat) : Int := ([3, 13, 75, 541] : List Int).getD i 0
theorem wv_row : ∀ (i : Nat), i < 4 → [SV.val (.int .i64 3), SV.val (.int .i64 13), SV.val (.int .i64 75), SV.val (.int .i64 541)][i]?.getD SV.top = .val (.int .i64 (wv i)) := by
 intro i hi
 have : i = 0 ∨ i = 1 ∨ i = 2 ∨ i = 3 := by omega
 rcases this with rfl | rfl | rfl | rfl <;> rfl
theorem want_row (n : Nat) (h2 : 2 ≤ n) (h5 : n ≤ 5) : wv ((n : Int) - 2).toNat = wantN n := by
 rcases four h2 h5 with rfl | rfl | rfl | rfl <;> rfl
theorem c15 (x : Int) (hx : 0 ≤ x ∧ x < 256) (l : Nat) (p : Nat → Int) (hp : ∀ i, i < l → 0 ≤ p i ∧ p i < 256) : Contract Try.prog 15 [.val (.int .u8 x), .arr false false l 1 (fun i _ => .val (.int .u8 (p i)))] (B true) := by
 refine contract_of Try.func15 rfl (by kernel_rfl) follows (by kernel_rfl) _ _ (by rw [Try.ntmps15]; simp) (by simp [OldL, Old, QV]) ?_
 unfold B
 by_cases hl : 20 < l
 ·have f1 := decide_eq_true (show (20 : Int) < ((l : Nat) : Int) by omega)
  (repeat' (first | with_reducible (first | apply splitVC_d <;> intro _ | apply splitVC <;> intro _) | ((with_reducible refine And.intro ?_ ?_); focus (first | exact True.intro | omega | (simp only [InK, ne_eq, and_true, true_and]; omega) | (and_intros <;> first | exact .inr trivial | exact Nat.le_refl _ | exact one1 _ | exact one5 _ _ _ _ _ | exact one3 _ _ _ | exact .inl rfl | omega) | trivial)) | (simp -dsimp only [↓RP, RQ, Nat.reduceMul, reduceIte, reduceCtorEq, Nat.reduceAdd, Nat.reduceEqDiff, Nat.reduceLT, Nat.reduceLeDiff, f1, same_r, rsT, Int.reduceEq, Int.reduceNeg, Int.reduceLT, Int.reduceLE, nsv, rgv, wag, QW, Try.results15])))
  all_goals try (exfalso; omega)
  refine callVC (c18) (by (simp -dsimp only [↓RP, RQ, Nat.reduceMul, reduceIte, reduceCtorEq, Nat.reduceAdd, Nat.reduceEqDiff, Nat.reduceLT, Nat.reduceLeDiff, QV, rsv, ints, I, B, wag]); all_goals (try simp [QV, Go.Sx.Sub, Go.Sx.SubL, wf_sub])) (by (simp -dsimp only [↓RP, RQ, Nat.reduceMul, reduceIte, reduceCtorEq, Nat.reduceAdd, Nat.reduceEqDiff, Nat.reduceLT, Nat.reduceLeDiff, QV, rsT, nsv, rgv, I, B, wag]); all_goals (try simp [QV])) ?_
  (repeat' (first | with_reducible (first | apply splitVC_d <;> intro _ | apply splitVC <;> intro _) | ((with_reducible refine And.intro ?_ ?_); focus (first | exact True.intro | omega | (simp only [InK, ne_eq, and_true, true_and]; omega) | (and_intros <;> first | exact .inr trivial | exact Nat.le_refl _ | exact one1 _ | exact one5 _ _ _ _ _ | exact one3 _ _ _ | exact .inl rfl | omega) | trivial)) | (simp -dsimp only [↓RP, RQ, Nat.reduceMul, reduceIte, reduceCtorEq, Nat.reduceAdd, Nat.reduceEqDiff, Nat.reduceLT, Nat.reduceLeDiff, f1, same_r, rsT, Int.reduceEq, Int.reduceNeg, Int.reduceLT, Int.reduceLE, nsv, rgv, wag, QW, Try.results15])))
  all_goals try (exfalso; omega)
 have f1 := decide_eq_false (show ¬ (20 : Int) < ((l : Nat) : Int) by omega)
 have hm4 := Nat.mod_lt x.toNat (show 0 < 4 by omega)
 have e1 : x.tmod 4 = ((x.toNat % 4 : Nat) : Int) := tm hx.1 4
 obtain ⟨n, hn⟩ : ∃ n : Nat, n = 2 + x.toNat % 4 := ⟨_, rfl⟩
 have e2 : (2 : Int) + ((x.toNat % 4 : Nat) : Int) = (n : Int) := by omega
 have he := ck_sil (n := n) (by omega) (by omega) wZ
 have h25 := c25 n 0 wZ (by omega)
 have h23 := c23 n 0 wZ (by omega)
 have h38 := c38 n 0 wZ (by omega)
 have hT : ((agrs wZ 0 n).length : Int) = wantN n := by rw [agrs_sil]; exact fins_want (by omega) (by omega)
 have hT0 : (agrs wZ 0 n).length ≠ 0 := by intro h; rw [h] at hT; exact want_0 (n := n) (by omega) (by omega) hT.symm
 have hT5 := agrs_541 (w := wZ) (m := 0) (n := n) (by omega) (by omega)
 rw [cn_ok he, he] at h25
 rw [(fn_some he hT0).1, (fn_some he hT0).2] at h23
 rw [(fn_some he hT0).2] at h38
 have hb0 := sil_ba (n := n) (by omega) (by omega) wZ
 have g0 := decide_eq_true (show (((baL n 0 wZ).length : Nat) : Int) = 0 by omega)
 have hF : ∀ i, i < n → fnF n 0 wZ i = 1 := fun i hi => sil_fn (by omega) (by omega) wZ hi
 have gs : decide (sameI n (fnF n 0 wZ) n (fun _ => 1)) = true := decide_eq_true ⟨rfl, hF⟩
 have h27 := c27 n (fnF n 0 wZ) n (fun _ => 1) (by omega)
 rw [gs] at h27
 have hfin := rk_fin (vF l p) n
 have q43 := c43 n (by omega) (by omega) l p (by omega) hp
 have h21 := c21 n 0 wZ (by omega) n (rk (vF l p) n) (by omega)
 rw [sil_ck (by omega) (by omega) wZ hfin] at h21
 generalize baL n 0 wZ = L at *
 generalize fnF n 0 wZ = F at *
 generalize rk (vF l p) n = G at *
 generalize (agrs wZ 0 n).length = T at *
 (repeat' (first | with_reducible (first | apply splitVC_d <;> intro _ | apply splitVC <;> intro _) | ((with_reducible refine And.intro ?_ ?_); focus (first | exact True.intro | omega | (simp only [InK, ne_eq, and_true, true_and]; omega) | (and_intros <;> first | exact .inr trivial | exact Nat.le_refl _ | exact one1 _ | exact one5 _ _ _ _ _ | exact one3 _ _ _ | exact .inl rfl | omega) | trivial)) | (simp -dsimp only [↓RP, RQ, Nat.reduceMul, reduceIte, reduceCtorEq, Nat.reduceAdd, Nat.reduceEqDiff, Nat.reduceLT, Nat.reduceLeDiff, f1, e1, e2, same_r, rsT, Int.reduceEq, Int.reduceNeg, Int.reduceLT, Int.reduceLE, nsv, rgv, wag, QW, Try.results15])))
 all_goals try (exfalso; omega)
 refine callVC (h25) (by (simp -dsimp only [↓RP, RQ, Nat.reduceMul, reduceIte, reduceCtorEq, Nat.reduceAdd, Nat.reduceEqDiff, Nat.reduceLT, Nat.reduceLeDiff, QV, rsv, ints, I, B, wag]); all_goals (try simp [QV, Go.Sx.Sub, Go.Sx.SubL, wf_sub])) (by (simp -dsimp only [↓RP, RQ, Nat.reduceMul, reduceIte, reduceCtorEq, Nat.reduceAdd, Nat.reduceEqDiff, Nat.reduceLT, Nat.reduceLeDiff, QV, rsT, nsv, rgv, I, B, wag]); all_goals (try simp [QV])) ?_
 (repeat' (first | with_reducible (first | apply splitVC_d <;> intro _ | apply splitVC <;> intro _) | ((with_reducible refine And.intro ?_ ?_); focus (first | exact True.intro | omega | (simp only [InK, ne_eq, and_true, true_and]; omega) | (and_intros <;> first | exact .inr trivial | exact Nat.le_refl _ | exact one1 _ | exact one5 _ _ _ _ _ | exact one3 _ _ _ | exact .inl rfl | omega) | trivial)) | (simp -dsimp only [↓RP, RQ, Nat.reduceMul, reduceIte, reduceCtorEq, Nat.reduceAdd, Nat.reduceEqDiff, Nat.reduceLT, Nat.reduceLeDiff, e1, e2, same_r, rsT, Int.reduceEq, Int.reduceNeg, Int.reduceLT, Int.reduceLE, nsv, rgv, wag, QW, Try.results15])))
 all_goals try (exfalso; omega)
 refine callVC (h23) (by (simp -dsimp only [↓RP, RQ, Nat.reduceMul, reduceIte, reduceCtorEq, Nat.reduceAdd, Nat.reduceEqDiff, Nat.reduceLT, Nat.reduceLeDiff, QV, rsv, ints, I, B, wag]); all_goals (try simp [QV, Go.Sx.Sub, Go.Sx.SubL, wf_sub])) (by (simp -dsimp only [↓RP, RQ, Nat.reduceMul, reduceIte, reduceCtorEq, Nat.reduceAdd, Nat.reduceEqDiff, Nat.reduceLT, Nat.reduceLeDiff, QV, rsT, nsv, rgv, I, B, wag]); all_goals (try simp [QV])) ?_
 (repeat' (first | with_reducible (first | apply splitVC_d <;> intro _ | apply splitVC <;> intro _) | ((with_reducible refine And.intro ?_ ?_); focus (first | exact True.intro | omega | (simp only [InK, ne_eq, and_true, true_and]; omega) | (and_intros <;> first | exact .inr trivial | exact Nat.le_refl _ | exact one1 _ | exact one5 _ _ _ _ _ | exact one3 _ _ _ | exact .inl rfl | omega) | trivial)) | (simp -dsimp only [↓RP, RQ, Nat.reduceMul, reduceIte, reduceCtorEq, Nat.reduceAdd, Nat.reduceEqDiff, Nat.reduceLT, Nat.reduceLeDiff, e1, e2, same_r, rsT, Int.reduceEq, Int.reduceNeg, Int.reduceLT, Int.reduceLE, nsv, rgv, wag, QW, Try.results15])))
 all_goals try (exfalso; omega)
 refine callVC (h38) (by (simp -dsimp only [↓RP, RQ, Nat.reduceMul, reduceIte, reduceCtorEq, Nat.reduceAdd, Nat.reduceEqDiff, Nat.reduceLT, Nat.reduceLeDiff, QV, rsv, ints, I, B, wag]); all_goals (try simp [QV, Go.Sx.Sub, Go.Sx.SubL, wf_sub])) (by (simp -dsimp only [↓RP, RQ, Nat.reduceMul, reduceIte, reduceCtorEq, Nat.reduceAdd, Nat.reduceEqDiff, Nat.reduceLT, Nat.reduceLeDiff, QV, rsT, nsv, rgv, I, B, wag]); all_goals (try simp [QV])) ?_
 (repeat' (first | with_reducible (first | apply splitVC_d <;> intro _ | apply splitVC <;> intro _) | ((with_reducible refine And.intro ?_ ?_); focus (first | exact True.intro | omega | (simp only [InK, ne_eq, and_true, true_and]; omega) | (and_intros <;> first | exact .inr trivial | exact Nat.le_refl _ | exact one1 _ | exact one5 _ _ _ _ _ | exact one3 _ _ _ | exact .inl rfl | omega) | trivial)) | (simp -dsimp only [↓RP, RQ, Nat.reduceMul, reduceIte, reduceCtorEq, Nat.reduceAdd, Nat.reduceEqDiff, Nat.reduceLT, Nat.reduceLeDiff, e1, e2, same_r, rsT, Int.reduceEq, Int.reduceNeg, Int.reduceLT, Int.reduceLE, nsv, rgv, wag, QW, Try.results15])))
 all_goals try (exfalso; omega)
 refine loop_vc (fun (k : Nat) => k ≤ n) (fun k => ⟨[(1, .arr false false l 1 (fun i _ => .val (.int .u8 (p i)))), (5, .val (.int .i64 (n : Nat))), (6, .ptr 11 0), (7, .vec 13 4 1), (8, .val (.int .i64 (T : Nat))), (9, .val (.int .i64 0)), (10, .arr true false n 1 (fun i _ => .val (.int .i64 (F i)))), (11, .val (.int .i64 0)), (12, nsv L), (13, .val (.int .i64 0)), (14, .vec 37 n 1), (15, .val (.int .i64 (k : Nat)))], [(11, .cells 24 [.val (.int .i64 (n : Nat)), .val (.slice none 0 0)]), (13, .rows 3 1 4 (fun i _ => .val (.int .i64 (wv i)))), (37, .rows 3 1 n (fun i _ => .val (.int .i64 (if i < k then 1 else 0))))], 40⟩) (fun k => n - k) 0 (Nat.zero_le _) (weak [] [] ?_ ?_ ?_) fun k hk => ?_
 iterate 3 focus ((simp -dsimp only [↓RP, RQ, Nat.reduceMul, reduceIte, reduceCtorEq, Nat.reduceAdd, Nat.reduceEqDiff, Nat.reduceLT, Nat.reduceLeDiff, QV, nsv]); all_goals (try simp [QV]); all_goals first | exact wv_row | skip)
 by_cases hlt : k < n
 ·(repeat' (first | with_reducible (first | apply splitVC_d <;> intro _ | apply splitVC <;> intro _) | ((with_reducible refine And.intro ?_ ?_); focus (first | exact True.intro | omega | (simp only [InK, ne_eq, and_true, true_and]; omega) | (and_intros <;> first | exact .inr trivial | exact Nat.le_refl _ | exact one1 _ | exact one5 _ _ _ _ _ | exact one3 _ _ _ | exact .inl rfl | omega) | trivial)) | (simp -dsimp only [↓RP, RQ, Nat.reduceMul, reduceIte, reduceCtorEq, Nat.reduceAdd, Nat.reduceEqDiff, Nat.reduceLT, Nat.reduceLeDiff, same_r, rsT, Int.reduceEq, Int.reduceNeg, Int.reduceLT, Int.reduceLE, nsv, rgv, wag, QW, Try.results15])))
  all_goals try (exfalso; omega)
  refine ⟨k + 1, by omega, by omega, weak [] [] ?_ ?_ ?_⟩
  ·(simp -dsimp only [↓RP, RQ, Nat.reduceMul, reduceIte, reduceCtorEq, Nat.reduceAdd, Nat.reduceEqDiff, Nat.reduceLT, Nat.reduceLeDiff, QV, nsv]); all_goals (try simp [QV])
  ·(simp -dsimp only [↓RP, RQ, Nat.reduceMul, reduceIte, reduceCtorEq, Nat.reduceAdd, Nat.reduceEqDiff, Nat.reduceLT, Nat.reduceLeDiff, QV]); all_goals (try simp [QV])
   intro i hi
   by_cases c : i = k
   ·rw [if_pos c, if_pos (by omega)]
   ·rw [if_neg c]
    by_cases d : i < k
    ·rw [if_pos d, if_pos (by omega)]
    ·rw [if_neg d, if_neg (by omega)]
  ·(simp -dsimp only [↓RP, RQ, Nat.reduceMul, reduceIte, reduceCtorEq, Nat.reduceAdd, Nat.reduceEqDiff, Nat.reduceLT, Nat.reduceLeDiff, QV]); all_goals (try simp [QV])
 ·have hkn : n = k := by omega
  subst hkn
  have ew := want_row n (by omega) (by omega)
  have gT := decide_eq_true hT
  (repeat' (first | with_reducible (first | apply splitVC_d <;> intro _ | apply splitVC <;> intro _) | ((with_reducible refine And.intro ?_ ?_); focus (first | exact True.intro | omega | (simp only [InK, ne_eq, and_true, true_and]; omega) | (and_intros <;> first | exact .inr trivial | exact Nat.le_refl _ | exact one1 _ | exact one5 _ _ _ _ _ | exact one3 _ _ _ | exact .inl rfl | omega) | trivial)) | (simp -dsimp only [↓RP, RQ, Nat.reduceMul, reduceIte, reduceCtorEq, Nat.reduceAdd, Nat.reduceEqDiff, Nat.reduceLT, Nat.reduceLeDiff, ew, gT, g0, same_r, rsT, Int.reduceEq, Int.reduceNeg, Int.reduceLT, Int.reduceLE, nsv, rgv, wag, QW, Try.results15])))
  all_goals try (exfalso; omega)
  refine callVC h27 (by (simp -dsimp only [↓RP, RQ, Nat.reduceMul, reduceIte, reduceCtorEq, Nat.reduceAdd, Nat.reduceEqDiff, Nat.reduceLT, Nat.reduceLeDiff, QV, ints]); all_goals (try simp [QV, Go.Sx.Sub, Go.Sx.SubL])) (by (simp -dsimp only [↓RP, RQ, Nat.reduceMul, reduceIte, reduceCtorEq, Nat.reduceAdd, Nat.reduceEqDiff, Nat.reduceLT, Nat.reduceLeDiff, QV, B])) ?_
  (repeat' (first | with_reducible (first | apply splitVC_d <;> intro _ | apply splitVC <;> intro _) | ((with_reducible refine And.intro ?_ ?_); focus (first | exact True.intro | omega | (simp only [InK, ne_eq, and_true, true_and]; omega) | (and_intros <;> first | exact .inr trivial | exact Nat.le_refl _ | exact one1 _ | exact one5 _ _ _ _ _ | exact one3 _ _ _ | exact .inl rfl | omega) | trivial)) | (simp -dsimp only [↓RP, RQ, Nat.reduceMul, reduceIte, reduceCtorEq, Nat.reduceAdd, Nat.reduceEqDiff, Nat.reduceLT, Nat.reduceLeDiff, ew, gT, g0, same_r, rsT, Int.reduceEq, Int.reduceNeg, Int.reduceLT, Int.reduceLE, nsv, rgv, wag, QW, Try.results15])))
  all_goals try (exfalso; omega)
  refine callVC (q43) (by (simp -dsimp only [↓RP, RQ, Nat.reduceMul, reduceIte, reduceCtorEq, Nat.reduceAdd, Nat.reduceEqDiff, Nat.reduceLT, Nat.reduceLeDiff, QV, rsv, ints, I, B, wag]); all_goals (try simp [QV, Go.Sx.Sub, Go.Sx.SubL, wf_sub])) (by (simp -dsimp only [↓RP, RQ, Nat.reduceMul, reduceIte, reduceCtorEq, Nat.reduceAdd, Nat.reduceEqDiff, Nat.reduceLT, Nat.reduceLeDiff, QV, rsT, nsv, rgv, I, B, wag]); all_goals (try simp [QV])) ?_
  (repeat' (first | with_reducible (first | apply splitVC_d <;> intro _ | apply splitVC <;> intro _) | ((with_reducible refine And.intro ?_ ?_); focus (first | exact True.intro | omega | (simp only [InK, ne_eq, and_true, true_and]; omega) | (and_intros <;> first | exact .inr trivial | exact Nat.le_refl _ | exact one1 _ | exact one5 _ _ _ _ _ | exact one3 _ _ _ | exact .inl rfl | omega) | trivial)) | (simp -dsimp only [↓RP, RQ, Nat.reduceMul, reduceIte, reduceCtorEq, Nat.reduceAdd, Nat.reduceEqDiff, Nat.reduceLT, Nat.reduceLeDiff, ew, gT, g0, same_r, rsT, Int.reduceEq, Int.reduceNeg, Int.reduceLT, Int.reduceLE, nsv, rgv, wag, QW, Try.results15])))
  all_goals try (exfalso; omega)
  refine callVC (h21) (by (simp -dsimp only [↓RP, RQ, Nat.reduceMul, reduceIte, reduceCtorEq, Nat.reduceAdd, Nat.reduceEqDiff, Nat.reduceLT, Nat.reduceLeDiff, QV, rsv, ints, I, B, wag]); all_goals (try simp [QV, Go.Sx.Sub, Go.Sx.SubL, wf_sub])) (by (simp -dsimp only [↓RP, RQ, Nat.reduceMul, reduceIte, reduceCtorEq, Nat.reduceAdd, Nat.reduceEqDiff, Nat.reduceLT, Nat.reduceLeDiff, QV, rsT, nsv, rgv, I, B, wag]); all_goals (try simp [QV])) ?_
  (repeat' (first | with_reducible (first | apply splitVC_d <;> intro _ | apply splitVC <;> intro _) | ((with_reducible refine And.intro ?_ ?_); focus (first | exact True.intro | omega | (simp only [InK, ne_eq, and_true, true_and]; omega) | (and_intros <;> first | exact .inr trivial | exact Nat.le_refl _ | exact one1 _ | exact one5 _ _ _ _ _ | exact one3 _ _ _ | exact .inl rfl | omega) | trivial)) | (simp -dsimp only [↓RP, RQ, Nat.reduceMul, reduceIte, reduceCtorEq, Nat.reduceAdd, Nat.reduceEqDiff, Nat.reduceLT, Nat.reduceLeDiff, ew, gT, g0, same_r, rsT, Int.reduceEq, Int.reduceNeg, Int.reduceLT, Int.reduceLE, nsv, rgv, wag, QW, Try.results15])))
  all_goals try (exfalso; omega)
  refine callVC (c18) (by (simp -dsimp only [↓RP, RQ, Nat.reduceMul, reduceIte, reduceCtorEq, Nat.reduceAdd, Nat.reduceEqDiff, Nat.reduceLT, Nat.reduceLeDiff, QV, rsv, ints, I, B, wag]); all_goals (try simp [QV, Go.Sx.Sub, Go.Sx.SubL, wf_sub])) (by (simp -dsimp only [↓RP, RQ, Nat.reduceMul, reduceIte, reduceCtorEq, Nat.reduceAdd, Nat.reduceEqDiff, Nat.reduceLT, Nat.reduceLeDiff, QV, rsT, nsv, rgv, I, B, wag]); all_goals (try simp [QV])) ?_
  (repeat' (first | with_reducible (first | apply splitVC_d <;> intro _ | apply splitVC <;> intro _) | ((with_reducible refine And.intro ?_ ?_); focus (first | exact True.intro | omega | (simp only [InK, ne_eq, and_true, true_and]; omega) | (and_intros <;> first | exact .inr trivial | exact Nat.le_refl _ | exact one1 _ | exact one5 _ _ _ _ _ | exact one3 _ _ _ | exact .inl rfl | omega) | trivial)) | (simp -dsimp only [↓RP, RQ, Nat.reduceMul, reduceIte, reduceCtorEq, Nat.reduceAdd, Nat.reduceEqDiff, Nat.reduceLT, Nat.reduceLeDiff, ew, gT, g0, same_r, rsT, Int.reduceEq, Int.reduceNeg, Int.reduceLT, Int.reduceLE, nsv, rgv, wag, QW, Try.results15])))
  all_goals try (exfalso; omega)
end Go.He
end
