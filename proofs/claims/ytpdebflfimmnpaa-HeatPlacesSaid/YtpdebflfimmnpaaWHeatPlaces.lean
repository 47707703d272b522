/- A part of the proof. -/
import Derived.Test.YtpdebflfimmnpaaHK
section
set_option linter.unusedSimpArgs false
set_option linter.unusedVariables false
set_option linter.defProp false
set_option maxRecDepth 100000
set_option maxHeartbeats 16000000
namespace Go.He
open Go.Proofs
open Go.Sx
theorem same_r (a : Nat) (u : Nat → Int) : decide (sameI a u a u) = true := decide_eq_true ⟨rfl, fun _ _ => rfl⟩
theorem nle20 {m : Nat} (h : ¬ 20 < m) : m ≤ 1000000 := by omega
end Go.He
end
section
set_option linter.unusedSimpArgs false
set_option linter.unusedVariables false
set_option linter.defProp false
set_option maxRecDepth 100000
set_option maxHeartbeats 16000000
namespace Go.He
open Go.Proofs
open Go.Sx
theorem c42 (N : Int) (m : Nat) (w : Nat → Wd) : Contract Try.prog 42 [rsv N m w] (B (decide (ckR N m w = 0))) := by
 refine contract_of Try.func42 rfl (by kernel_rfl) follows (by kernel_rfl) _ _ (by rw [Try.ntmps42]; simp) (by simp [OldL, Old, QV, rsv]) ?_
 unfold rsv B
 (repeat' (first | with_reducible (first | apply splitVC_d <;> intro _ | apply splitVC <;> intro _) | ((with_reducible refine And.intro ?_ ?_); focus (first | exact True.intro | omega | (simp only [InK, ne_eq, and_true, true_and]; omega) | (and_intros <;> first | exact .inr trivial | exact Nat.le_refl _ | exact one1 _ | exact one5 _ _ _ _ _ | exact one3 _ _ _ | exact .inl rfl | omega) | trivial)) | (simp -dsimp only [↓RP, RQ, Nat.reduceMul, reduceIte, reduceCtorEq, Nat.reduceAdd, Nat.reduceEqDiff, Nat.reduceLT, Nat.reduceLeDiff, Int.reduceEq, Int.reduceNeg, Int.reduceLT, Int.reduceLE, rsT, QW, Try.results42])))
 refine callVC (c17 N m w) (by (simp -dsimp only [↓RP, RQ, Nat.reduceMul, reduceIte, reduceCtorEq, Nat.reduceAdd, Nat.reduceEqDiff, Nat.reduceLT, Nat.reduceLeDiff, QV, rsv, ints, I, B, wag]); all_goals (try simp [QV, Go.Sx.Sub, Go.Sx.SubL, wf_sub])) (by (simp -dsimp only [↓RP, RQ, Nat.reduceMul, reduceIte, reduceCtorEq, Nat.reduceAdd, Nat.reduceEqDiff, Nat.reduceLT, Nat.reduceLeDiff, QV, rsT, nsv, rgv, I, B, wag]); all_goals (try simp [QV])) ?_
 by_cases h20 : 20 < m
 ·have f0 := decide_eq_true h20
  have hn : ckR N m w ≠ 0 := fun h => by have := (ckR_ok h).2.2.1; omega
  have fe := decide_eq_false hn
  (repeat' (first | with_reducible (first | apply splitVC_d <;> intro _ | apply splitVC <;> intro _) | ((with_reducible refine And.intro ?_ ?_); focus (first | exact True.intro | omega | (simp only [InK, ne_eq, and_true, true_and]; omega) | (and_intros <;> first | exact .inr trivial | exact Nat.le_refl _ | exact one1 _ | exact one5 _ _ _ _ _ | exact one3 _ _ _ | exact .inl rfl | omega) | trivial)) | (simp -dsimp only [↓RP, RQ, Nat.reduceMul, reduceIte, reduceCtorEq, Nat.reduceAdd, Nat.reduceEqDiff, Nat.reduceLT, Nat.reduceLeDiff, f0, fe, Int.reduceEq, Int.reduceNeg, Int.reduceLT, Int.reduceLE, rsT, QW, Try.results42])))
  all_goals try (exfalso; omega)
 ·have f0 := decide_eq_false h20
  (repeat' (first | with_reducible (first | apply splitVC_d <;> intro _ | apply splitVC <;> intro _) | ((with_reducible refine And.intro ?_ ?_); focus (first | exact True.intro | omega | (simp only [InK, ne_eq, and_true, true_and]; omega) | (and_intros <;> first | exact .inr trivial | exact Nat.le_refl _ | exact one1 _ | exact one5 _ _ _ _ _ | exact one3 _ _ _ | exact .inl rfl | omega) | trivial)) | (simp -dsimp only [↓RP, RQ, Nat.reduceMul, reduceIte, reduceCtorEq, Nat.reduceAdd, Nat.reduceEqDiff, Nat.reduceLT, Nat.reduceLeDiff, f0, Int.reduceEq, Int.reduceNeg, Int.reduceLT, Int.reduceLE, rsT, QW, Try.results42])))
  all_goals try (exfalso; omega)
  refine callVC (c20 N m w (nle20 h20)) (by (simp -dsimp only [↓RP, RQ, Nat.reduceMul, reduceIte, reduceCtorEq, Nat.reduceAdd, Nat.reduceEqDiff, Nat.reduceLT, Nat.reduceLeDiff, QV, rsv, ints, I, B, wag]); all_goals (try simp [QV, Go.Sx.Sub, Go.Sx.SubL, wf_sub])) (by (simp -dsimp only [↓RP, RQ, Nat.reduceMul, reduceIte, reduceCtorEq, Nat.reduceAdd, Nat.reduceEqDiff, Nat.reduceLT, Nat.reduceLeDiff, QV, rsT, nsv, rgv, I, B, wag]); all_goals (try simp [QV])) ?_
  (repeat' (first | with_reducible (first | apply splitVC_d <;> intro _ | apply splitVC <;> intro _) | ((with_reducible refine And.intro ?_ ?_); focus (first | exact True.intro | omega | (simp only [InK, ne_eq, and_true, true_and]; omega) | (and_intros <;> first | exact .inr trivial | exact Nat.le_refl _ | exact one1 _ | exact one5 _ _ _ _ _ | exact one3 _ _ _ | exact .inl rfl | omega) | trivial)) | (simp -dsimp only [↓RP, RQ, Nat.reduceMul, reduceIte, reduceCtorEq, Nat.reduceAdd, Nat.reduceEqDiff, Nat.reduceLT, Nat.reduceLeDiff, f0, Int.reduceEq, Int.reduceNeg, Int.reduceLT, Int.reduceLE, rsT, QW, Try.results42])))
  all_goals try (exfalso; omega)
def pkW (n : Nat) (x y z : Int) : Wd := ⟨(x.toNat % n : Nat), ((x.toNat % n + 1 + y.toNat % (n - 1)) % n : Nat), (z.toNat % 3 : Nat)⟩
theorem tm {x : Int} (h : 0 ≤ x) (n : Nat) : x.tmod (n : Int) = ((x.toNat % n : Nat) : Int) := by
 obtain ⟨k, rfl⟩ : ∃ k : Nat, x = k := ⟨x.toNat, by omega⟩
 rw [Int.toNat_natCast, Int.tmod_eq_emod_of_nonneg (by omega)]; rfl
theorem pkW_ok {n : Nat} (h2 : 2 ≤ n) (x y z : Int) : okW n (pkW n x y z) := by
 have h1 := Nat.mod_lt x.toNat (show 0 < n by omega)
 have h3 := Nat.mod_lt y.toNat (show 0 < n - 1 by omega)
 have h4 := Nat.mod_lt (x.toNat % n + 1 + y.toNat % (n - 1)) (show 0 < n by omega)
 have h5 := Nat.mod_lt z.toNat (show 0 < 3 by omega)
 have key : ∀ a d : Nat, a < n → 1 ≤ d → d < n → (a + d) % n ≠ a := fun a d ha h1 hd => by
  by_cases c : a + d < n
  ·rw [Nat.mod_eq_of_lt c]; omega
  ·rw [Nat.mod_eq_sub_mod (by omega), Nat.mod_eq_of_lt (by omega)]; omega
 have hk := key _ (1 + y.toNat % (n - 1)) h1 (by omega) (by omega)
 rw [← Nat.add_assoc] at hk
 unfold okW pkW
 refine ⟨⟨by simp only; omega, by simp only; omega⟩, ⟨by simp only; omega, by simp only; omega⟩, ?_, by simp only; omega, by simp only; omega⟩
 simp only
 omega
theorem c44 (n : Nat) (h2 : 2 ≤ n) (h5 : n ≤ 5) (m : Nat) (w : Nat → Wd) (x y z : Int) (hx : 0 ≤ x ∧ x < 256) (hy : 0 ≤ y ∧ y < 256) (hz : 0 ≤ z ∧ z < 256) : Contract Try.prog 44 [rsv n m w, .val (.int .u8 x), .val (.int .u8 y), .val (.int .u8 z)] (wag (pkW n x y z)) := by
 refine contract_of Try.func44 rfl (by kernel_rfl) follows (by kernel_rfl) _ _ (by rw [Try.ntmps44]; simp) (by simp [OldL, Old, QV, rsv]) ?_
 have e1 : x.tmod (n : Int) = ((x.toNat % n : Nat) : Int) := tm hx.1 n
 have e2 : y.tmod ((n : Int) - 1) = ((y.toNat % (n - 1) : Nat) : Int) := by rw [show (n : Int) - 1 = ((n - 1 : Nat) : Int) by omega]; exact tm hy.1 (n - 1)
 have e3 : z.tmod 3 = ((z.toNat % 3 : Nat) : Int) := tm hz.1 3
 have e4 : (((x.toNat % n : Nat) : Int) + 1 + ((y.toNat % (n - 1) : Nat) : Int)).tmod (n : Int) = (((x.toNat % n + 1 + y.toNat % (n - 1)) % n : Nat) : Int) := by
  have := tm (x := ((x.toNat % n + 1 + y.toNat % (n - 1) : Nat) : Int)) (by omega) n
  rw [Int.toNat_natCast] at this
  rw [← this]; congr 1
 have h1 := Nat.mod_lt x.toNat (show 0 < n by omega)
 have h3 := Nat.mod_lt y.toNat (show 0 < n - 1 by omega)
 unfold rsv
 (repeat' (first | with_reducible (first | apply splitVC_d <;> intro _ | apply splitVC <;> intro _) | ((with_reducible refine And.intro ?_ ?_); focus (first | exact True.intro | omega | (simp only [InK, ne_eq, and_true, true_and]; omega) | (and_intros <;> first | exact .inr trivial | exact Nat.le_refl _ | exact one1 _ | exact one5 _ _ _ _ _ | exact one3 _ _ _ | exact .inl rfl | omega) | trivial)) | (simp -dsimp only [↓RP, RQ, Nat.reduceMul, reduceIte, reduceCtorEq, Nat.reduceAdd, Nat.reduceEqDiff, Nat.reduceLT, Nat.reduceLeDiff, e1, e2, e3, e4, Int.reduceEq, Int.reduceNeg, Int.reduceLT, Int.reduceLE, rsT, QW, Try.results44])))
 all_goals try (exfalso; omega)
 refine callVC (c46 ((x.toNat % n : Nat) : Int) ((z.toNat % 3 : Nat) : Int) (((x.toNat % n + 1 + y.toNat % (n - 1)) % n : Nat) : Int)) (by (simp -dsimp only [↓RP, RQ, Nat.reduceMul, reduceIte, reduceCtorEq, Nat.reduceAdd, Nat.reduceEqDiff, Nat.reduceLT, Nat.reduceLeDiff, QV, rsv, ints, I, B, wag]); all_goals (try simp [QV, Go.Sx.Sub, Go.Sx.SubL, wf_sub])) (by (simp -dsimp only [↓RP, RQ, Nat.reduceMul, reduceIte, reduceCtorEq, Nat.reduceAdd, Nat.reduceEqDiff, Nat.reduceLT, Nat.reduceLeDiff, QV, rsT, nsv, rgv, I, B, wag]); all_goals (try simp [QV])) ?_
 (repeat' (first | with_reducible (first | apply splitVC_d <;> intro _ | apply splitVC <;> intro _) | ((with_reducible refine And.intro ?_ ?_); focus (first | exact True.intro | omega | (simp only [InK, ne_eq, and_true, true_and]; omega) | (and_intros <;> first | exact .inr trivial | exact Nat.le_refl _ | exact one1 _ | exact one5 _ _ _ _ _ | exact one3 _ _ _ | exact .inl rfl | omega) | trivial)) | (simp -dsimp only [↓RP, RQ, Nat.reduceMul, reduceIte, reduceCtorEq, Nat.reduceAdd, Nat.reduceEqDiff, Nat.reduceLT, Nat.reduceLeDiff, wag, pkW, e1, e2, e3, e4, Int.reduceEq, Int.reduceNeg, Int.reduceLT, Int.reduceLE, rsT, QW, Try.results44])))
 all_goals try (exfalso; omega)
end Go.He
end
section
set_option linter.unusedSimpArgs false
set_option linter.unusedVariables false
set_option linter.defProp false
set_option maxRecDepth 100000
set_option maxHeartbeats 16000000
namespace Go.He
open Go.Proofs
open Go.Sx
end Go.He
end
section
set_option linter.unusedSimpArgs false
set_option linter.unusedVariables false
set_option linter.defProp false
set_option maxRecDepth 100000
set_option maxHeartbeats 16000000
namespace Go.He
open Go.Proofs
open Go.Sx
theorem pl_4 {n m R : Nat} {w : Nat → Wd} (h : ckR n m w = 0) (hr : R < n) (h0 : (agrs w m n).length ≠ 0) : plV n m w (R : Nat) = (loP n (agrs w m n) R, hiP n (agrs w m n) R) ∧ kdE n m w (bdP n (R : Nat)) = 0 := by
 have hb : bdP n (R : Nat) = 0 := by unfold bdP; rw [if_pos (by omega)]
 have e := (kd_4 (p := fun _ => true) h hb h0).1
 refine ⟨?_, e⟩
 unfold plV
 rw [if_pos e, Int.toNat_natCast, Int.toNat_natCast]
theorem pl_3 {n m R : Nat} {w : Nat → Wd} (h : ckR n m w = 0) (hr : R < n) (h0 : (agrs w m n).length = 0) : kdE n m w (bdP n (R : Nat)) = 22 := by
 have hb : bdP n (R : Nat) = 0 := by unfold bdP; rw [if_pos (by omega)]
 exact (kd_3 (p := fun _ => true) h hb h0).1
end Go.He
end
section
set_option linter.unusedSimpArgs false
set_option linter.unusedVariables false
set_option linter.defProp false
set_option maxRecDepth 100000
set_option maxHeartbeats 16000000
namespace Go.He
open Go.Proofs
open Go.Sx
def vF (l : Nat) (p : Nat → Int) (i : Nat) : Int := if l = 0 then (i : Nat) else p (i % l)
def vK (l : Nat) (p : Nat → Int) (k i : Nat) : Int := if i < k then vF l p i else 0
def rK (f : Nat → Int) (n k i : Nat) : Int := if i < k then rk f n i else 0
theorem vK0 (l : Nat) (p : Nat → Int) (i : Nat) : vK l p 0 i = 0 := by unfold vK; rw [if_neg (Nat.not_lt_zero i)]
theorem vK_n (l : Nat) (p : Nat → Int) {n i : Nat} (h : i < n) : vK l p n i = vF l p i := by unfold vK; rw [if_pos h]
theorem vk_row {l : Nat} {p : Nat → Int} {n k : Nat} {v : Int} (e : vF l p k = v) : ∀ (i : Nat), i < n → (if i = k then SV.val (.int .i64 v) else SV.val (.int .i64 (vK l p k i))) = SV.val (.int .i64 (vK l p (k + 1) i)) := by
 intro i _
 unfold vK
 by_cases c : i = k
 ·subst c; rw [if_pos rfl, if_pos (by omega), e]
 ·rw [if_neg c]
  by_cases d : i < k
  ·rw [if_pos d, if_pos (by omega)]
  ·rw [if_neg d, if_neg (by omega)]
def rM (f : Nat → Int) (n i j y : Nat) : Int := if y = i then rkN f i j else rK f n i y
theorem rK0 (f : Nat → Int) (n i : Nat) : rK f n 0 i = 0 := by unfold rK; rw [if_neg (Nat.not_lt_zero i)]
theorem rM_n (f : Nat → Int) (n i y : Nat) : rM f n i n y = rK f n (i + 1) y := by
 unfold rM rK
 by_cases e : y = i
 ·subst e; rw [if_pos rfl, if_pos (by omega)]; rfl
 ·rw [if_neg e]
  by_cases d : y < i
  ·rw [if_pos d, if_pos (by omega)]
  ·rw [if_neg d, if_neg (by omega)]
theorem rm_0 (f : Nat → Int) (n i : Nat) : ∀ (y : Nat), y < n → (if y = i then SV.val (.int .i64 1) else SV.val (.int .i64 (rK f n i y))) = SV.val (.int .i64 (rM f n i 0 y)) := by
 intro y _
 unfold rM
 by_cases e : y = i
 ·rw [if_pos e, if_pos e]; rfl
 ·rw [if_neg e, if_neg e]
theorem rM_i (f : Nat → Int) (n i j : Nat) : rM f n i j i = rkN f i j := if_pos rfl
theorem rM_S (f : Nat → Int) (n i j y : Nat) : rM f n i (j + 1) y = if y = i then (if f j < f i then rkN f i j + 1 else rkN f i j) else rM f n i j y := by
 unfold rM
 by_cases e : y = i
 ·rw [if_pos e, if_pos e]; rfl
 ·rw [if_neg e, if_neg e, if_neg e]
theorem c43 (n : Nat) (h2 : 2 ≤ n) (h5 : n ≤ 5) (l : Nat) (p : Nat → Int) (hl : l ≤ 1000000) (hp : ∀ i, i < l → 0 ≤ p i ∧ p i < 256) : Contract Try.prog 43 [I n, .arr false false l 1 (fun i _ => .val (.int .u8 (p i)))] (.arr true false n 1 (fun i _ => .val (.int .i64 (rk (vF l p) n i)))) := by
 refine contract_of Try.func43 rfl (by kernel_rfl) follows (by kernel_rfl) _ _ (by rw [Try.ntmps43]; simp) (by simp [OldL, Old, QV, I]) ?_
 unfold I
 (repeat' (first | with_reducible (first | apply splitVC_d <;> intro _ | apply splitVC <;> intro _) | ((with_reducible refine And.intro ?_ ?_); focus (first | exact True.intro | omega | (simp only [InK, ne_eq, and_true, true_and]; omega) | (and_intros <;> first | exact .inr trivial | exact Nat.le_refl _ | exact one1 _ | exact one5 _ _ _ _ _ | exact one3 _ _ _ | exact .inl rfl | omega) | trivial)) | (simp -dsimp only [↓RP, RQ, Nat.reduceMul, reduceIte, reduceCtorEq, Nat.reduceAdd, Nat.reduceEqDiff, Nat.reduceLT, Nat.reduceLeDiff, same_r, rsT, Int.reduceEq, Int.reduceNeg, Int.reduceLT, Int.reduceLE, nsv, rgv, QW, Try.results43])))
 all_goals try (exfalso; omega)
 refine loop_vc (fun (k : Nat) => k ≤ n) (fun k => ⟨[(0, .val (.int .i64 (n : Nat))), (1, .arr false false l 1 (fun i _ => .val (.int .u8 (p i)))), (5, .vec 60 n 1), (6, .val (.int .i64 (k : Nat)))], [(60, .rows 3 1 n (fun i _ => .val (.int .i64 (vK l p k i))))], 80⟩) (fun k => n - k) 0 (Nat.zero_le _) (weak [(60, some 2)] [] ?_ ?_ ?_) fun k hk => ?_
 iterate 3 focus ((simp -dsimp only [↓RP, RQ, Nat.reduceMul, reduceIte, reduceCtorEq, Nat.reduceAdd, Nat.reduceEqDiff, Nat.reduceLT, Nat.reduceLeDiff, QV, vK0]); all_goals (try simp [QV, vK0]))
 by_cases hlt : k < n
 ·by_cases h0 : l = 0
  ·have f0 := decide_eq_false (show ¬ (0 : Int) < ((l : Nat) : Int) by omega)
   have ev : vF l p k = (k : Nat) := by unfold vF; rw [if_pos h0]
   (repeat' (first | with_reducible (first | apply splitVC_d <;> intro _ | apply splitVC <;> intro _) | ((with_reducible refine And.intro ?_ ?_); focus (first | exact True.intro | omega | (simp only [InK, ne_eq, and_true, true_and]; omega) | (and_intros <;> first | exact .inr trivial | exact Nat.le_refl _ | exact one1 _ | exact one5 _ _ _ _ _ | exact one3 _ _ _ | exact .inl rfl | omega) | trivial)) | (simp -dsimp only [↓RP, RQ, Nat.reduceMul, reduceIte, reduceCtorEq, Nat.reduceAdd, Nat.reduceEqDiff, Nat.reduceLT, Nat.reduceLeDiff, f0, same_r, rsT, Int.reduceEq, Int.reduceNeg, Int.reduceLT, Int.reduceLE, nsv, rgv, QW, Try.results43])))
   all_goals try (exfalso; omega)
   refine ⟨k + 1, by omega, by omega, weak [] [] ?_ ?_ ?_⟩
   ·(simp -dsimp only [↓RP, RQ, Nat.reduceMul, reduceIte, reduceCtorEq, Nat.reduceAdd, Nat.reduceEqDiff, Nat.reduceLT, Nat.reduceLeDiff, QV]); all_goals (try simp [QV])
   ·(simp -dsimp only [↓RP, RQ, Nat.reduceMul, reduceIte, reduceCtorEq, Nat.reduceAdd, Nat.reduceEqDiff, Nat.reduceLT, Nat.reduceLeDiff, QV]); all_goals (try simp [QV]); exact vk_row ev
   ·(simp -dsimp only [↓RP, RQ, Nat.reduceMul, reduceIte, reduceCtorEq, Nat.reduceAdd, Nat.reduceEqDiff, Nat.reduceLT, Nat.reduceLeDiff, QV]); all_goals (try simp [QV])
  ·have f0 := decide_eq_true (show (0 : Int) < ((l : Nat) : Int) by omega)
   have hml := Nat.mod_lt k (show 0 < l by omega)
   have hpk := hp _ hml
   have ev : vF l p k = p (k % l) := by unfold vF; rw [if_neg h0]
   have em : ((k : Nat) : Int).tmod ((l : Nat) : Int) = ((k % l : Nat) : Int) := by have := tm (x := ((k : Nat) : Int)) (by omega) l; rwa [Int.toNat_natCast] at this
   (repeat' (first | with_reducible (first | apply splitVC_d <;> intro _ | apply splitVC <;> intro _) | ((with_reducible refine And.intro ?_ ?_); focus (first | exact True.intro | omega | (simp only [InK, ne_eq, and_true, true_and]; omega) | (and_intros <;> first | exact .inr trivial | exact Nat.le_refl _ | exact one1 _ | exact one5 _ _ _ _ _ | exact one3 _ _ _ | exact .inl rfl | omega) | trivial)) | (simp -dsimp only [↓RP, RQ, Nat.reduceMul, reduceIte, reduceCtorEq, Nat.reduceAdd, Nat.reduceEqDiff, Nat.reduceLT, Nat.reduceLeDiff, f0, em, same_r, rsT, Int.reduceEq, Int.reduceNeg, Int.reduceLT, Int.reduceLE, nsv, rgv, QW, Try.results43])))
   all_goals try (exfalso; omega)
   refine ⟨k + 1, by omega, by omega, weak [] [] ?_ ?_ ?_⟩
   ·(simp -dsimp only [↓RP, RQ, Nat.reduceMul, reduceIte, reduceCtorEq, Nat.reduceAdd, Nat.reduceEqDiff, Nat.reduceLT, Nat.reduceLeDiff, QV]); all_goals (try simp [QV])
   ·(simp -dsimp only [↓RP, RQ, Nat.reduceMul, reduceIte, reduceCtorEq, Nat.reduceAdd, Nat.reduceEqDiff, Nat.reduceLT, Nat.reduceLeDiff, QV]); all_goals (try simp [QV]); (intro i hi; rw [← vk_row (n := n) ev i hi]; by_cases e : i = k <;> simp [e])
   ·(simp -dsimp only [↓RP, RQ, Nat.reduceMul, reduceIte, reduceCtorEq, Nat.reduceAdd, Nat.reduceEqDiff, Nat.reduceLT, Nat.reduceLeDiff, QV]); all_goals (try simp [QV])
 ·have hkn : n = k := by omega
  subst hkn
  (repeat' (first | with_reducible (first | apply splitVC_d <;> intro _ | apply splitVC <;> intro _) | ((with_reducible refine And.intro ?_ ?_); focus (first | exact True.intro | omega | (simp only [InK, ne_eq, and_true, true_and]; omega) | (and_intros <;> first | exact .inr trivial | exact Nat.le_refl _ | exact one1 _ | exact one5 _ _ _ _ _ | exact one3 _ _ _ | exact .inl rfl | omega) | trivial)) | (simp -dsimp only [↓RP, RQ, Nat.reduceMul, reduceIte, reduceCtorEq, Nat.reduceAdd, Nat.reduceEqDiff, Nat.reduceLT, Nat.reduceLeDiff, same_r, rsT, Int.reduceEq, Int.reduceNeg, Int.reduceLT, Int.reduceLE, nsv, rgv, QW, Try.results43])))
  all_goals try (exfalso; omega)
  refine loop_vc (fun (i : Nat) => i ≤ n) (fun i => ⟨[(0, .val (.int .i64 (n : Nat))), (5, .vec 60 n 1), (7, .vec 61 n 1), (8, .val (.int .i64 (i : Nat)))], [(61, .rows 3 1 n (fun y _ => .val (.int .i64 (rK (vF l p) n i y)))), (60, .rows 3 1 n (fun i _ => .val (.int .i64 (vK l p n i))))], 200⟩) (fun i => n - i) 0 (Nat.zero_le _) (weak [(61, some 84)] [] ?_ ?_ ?_) fun i hi => ?_
  iterate 3 focus ((simp -dsimp only [↓RP, RQ, Nat.reduceMul, reduceIte, reduceCtorEq, Nat.reduceAdd, Nat.reduceEqDiff, Nat.reduceLT, Nat.reduceLeDiff, QV, rK0]); all_goals (try simp [QV, rK0]))
  by_cases hli : i < n
  ·(repeat' (first | with_reducible (first | apply splitVC_d <;> intro _ | apply splitVC <;> intro _) | ((with_reducible refine And.intro ?_ ?_); focus (first | exact True.intro | omega | (simp only [InK, ne_eq, and_true, true_and]; omega) | (and_intros <;> first | exact .inr trivial | exact Nat.le_refl _ | exact one1 _ | exact one5 _ _ _ _ _ | exact one3 _ _ _ | exact .inl rfl | omega) | trivial)) | (simp -dsimp only [↓RP, RQ, Nat.reduceMul, reduceIte, reduceCtorEq, Nat.reduceAdd, Nat.reduceEqDiff, Nat.reduceLT, Nat.reduceLeDiff, same_r, rsT, Int.reduceEq, Int.reduceNeg, Int.reduceLT, Int.reduceLE, nsv, rgv, QW, Try.results43])))
   all_goals try (exfalso; omega)
   refine loop_vc (fun (j : Nat) => j ≤ n) (fun j => ⟨[(0, .val (.int .i64 (n : Nat))), (5, .vec 60 n 1), (7, .vec 61 n 1), (8, .val (.int .i64 (i : Nat))), (9, .val (.int .i64 (j : Nat)))], [(61, .rows 3 1 n (fun y _ => .val (.int .i64 (rM (vF l p) n i j y)))), (60, .rows 3 1 n (fun i _ => .val (.int .i64 (vK l p n i))))], 260⟩) (fun j => n - j) 0 (Nat.zero_le _) (weak [] [] ?_ ?_ ?_) fun j hj => ?_
   iterate 3 focus ((simp -dsimp only [↓RP, RQ, Nat.reduceMul, reduceIte, reduceCtorEq, Nat.reduceAdd, Nat.reduceEqDiff, Nat.reduceLT, Nat.reduceLeDiff, QV]); all_goals (try simp [QV]); all_goals first | exact rm_0 _ _ _ | skip)
   have hb := rkN_bd (vF l p) i j
   by_cases hlj : j < n
   ·by_cases hc : vF l p j < vF l p i
    ·have f1 := decide_eq_true hc
     (repeat' (first | with_reducible (first | apply splitVC_d <;> intro _ | apply splitVC <;> intro _) | ((with_reducible refine And.intro ?_ ?_); focus (first | exact True.intro | omega | (simp only [InK, ne_eq, and_true, true_and]; omega) | (and_intros <;> first | exact .inr trivial | exact Nat.le_refl _ | exact one1 _ | exact one5 _ _ _ _ _ | exact one3 _ _ _ | exact .inl rfl | omega) | trivial)) | (simp -dsimp only [↓RP, RQ, Nat.reduceMul, reduceIte, reduceCtorEq, Nat.reduceAdd, Nat.reduceEqDiff, Nat.reduceLT, Nat.reduceLeDiff, vK_n l p hlj, vK_n l p hli, f1, rM_i, same_r, rsT, Int.reduceEq, Int.reduceNeg, Int.reduceLT, Int.reduceLE, nsv, rgv, QW, Try.results43])))
     all_goals try (exfalso; omega)
     refine ⟨j + 1, by omega, by omega, weak [] [] ?_ ?_ ?_⟩
     ·(simp -dsimp only [↓RP, RQ, Nat.reduceMul, reduceIte, reduceCtorEq, Nat.reduceAdd, Nat.reduceEqDiff, Nat.reduceLT, Nat.reduceLeDiff, QV]); all_goals (try simp [QV])
     ·(simp -dsimp only [↓RP, RQ, Nat.reduceMul, reduceIte, reduceCtorEq, Nat.reduceAdd, Nat.reduceEqDiff, Nat.reduceLT, Nat.reduceLeDiff, QV]); all_goals (try simp [QV]); (intro y hy; rw [rM_S]; by_cases e : y = i <;> simp [e, hc])
     ·(simp -dsimp only [↓RP, RQ, Nat.reduceMul, reduceIte, reduceCtorEq, Nat.reduceAdd, Nat.reduceEqDiff, Nat.reduceLT, Nat.reduceLeDiff, QV]); all_goals (try simp [QV])
    ·have f1 := decide_eq_false hc
     (repeat' (first | with_reducible (first | apply splitVC_d <;> intro _ | apply splitVC <;> intro _) | ((with_reducible refine And.intro ?_ ?_); focus (first | exact True.intro | omega | (simp only [InK, ne_eq, and_true, true_and]; omega) | (and_intros <;> first | exact .inr trivial | exact Nat.le_refl _ | exact one1 _ | exact one5 _ _ _ _ _ | exact one3 _ _ _ | exact .inl rfl | omega) | trivial)) | (simp -dsimp only [↓RP, RQ, Nat.reduceMul, reduceIte, reduceCtorEq, Nat.reduceAdd, Nat.reduceEqDiff, Nat.reduceLT, Nat.reduceLeDiff, vK_n l p hlj, vK_n l p hli, f1, same_r, rsT, Int.reduceEq, Int.reduceNeg, Int.reduceLT, Int.reduceLE, nsv, rgv, QW, Try.results43])))
     all_goals try (exfalso; omega)
     refine ⟨j + 1, by omega, by omega, weak [] [] ?_ ?_ ?_⟩
     ·(simp -dsimp only [↓RP, RQ, Nat.reduceMul, reduceIte, reduceCtorEq, Nat.reduceAdd, Nat.reduceEqDiff, Nat.reduceLT, Nat.reduceLeDiff, QV]); all_goals (try simp [QV])
     ·(simp -dsimp only [↓RP, RQ, Nat.reduceMul, reduceIte, reduceCtorEq, Nat.reduceAdd, Nat.reduceEqDiff, Nat.reduceLT, Nat.reduceLeDiff, QV]); all_goals (try simp [QV]); (intro y hy; rw [rM_S]; by_cases e : y = i <;> simp [e, hc, rM_i])
     ·(simp -dsimp only [↓RP, RQ, Nat.reduceMul, reduceIte, reduceCtorEq, Nat.reduceAdd, Nat.reduceEqDiff, Nat.reduceLT, Nat.reduceLeDiff, QV]); all_goals (try simp [QV])
   ·have hjn : n = j := by omega
    subst hjn
    (repeat' (first | with_reducible (first | apply splitVC_d <;> intro _ | apply splitVC <;> intro _) | ((with_reducible refine And.intro ?_ ?_); focus (first | exact True.intro | omega | (simp only [InK, ne_eq, and_true, true_and]; omega) | (and_intros <;> first | exact .inr trivial | exact Nat.le_refl _ | exact one1 _ | exact one5 _ _ _ _ _ | exact one3 _ _ _ | exact .inl rfl | omega) | trivial)) | (simp -dsimp only [↓RP, RQ, Nat.reduceMul, reduceIte, reduceCtorEq, Nat.reduceAdd, Nat.reduceEqDiff, Nat.reduceLT, Nat.reduceLeDiff, same_r, rsT, Int.reduceEq, Int.reduceNeg, Int.reduceLT, Int.reduceLE, nsv, rgv, QW, Try.results43])))
    all_goals try (exfalso; omega)
    refine ⟨i + 1, by omega, by omega, weak [] [] ?_ ?_ ?_⟩
    iterate 2 focus ((simp -dsimp only [↓RP, RQ, Nat.reduceMul, reduceIte, reduceCtorEq, Nat.reduceAdd, Nat.reduceEqDiff, Nat.reduceLT, Nat.reduceLeDiff, QV, rM_n]); all_goals (try simp [QV, rM_n]))
    ·(simp -dsimp only [↓RP, RQ, Nat.reduceMul, reduceIte, reduceCtorEq, Nat.reduceAdd, Nat.reduceEqDiff, Nat.reduceLT, Nat.reduceLeDiff, QV]); all_goals (try simp [QV])
  ·have hin : n = i := by omega
   subst hin
   (repeat' (first | with_reducible (first | apply splitVC_d <;> intro _ | apply splitVC <;> intro _) | ((with_reducible refine And.intro ?_ ?_); focus (first | exact True.intro | omega | (simp only [InK, ne_eq, and_true, true_and]; omega) | (and_intros <;> first | exact .inr trivial | exact Nat.le_refl _ | exact one1 _ | exact one5 _ _ _ _ _ | exact one3 _ _ _ | exact .inl rfl | omega) | trivial)) | (simp -dsimp only [↓RP, RQ, Nat.reduceMul, reduceIte, reduceCtorEq, Nat.reduceAdd, Nat.reduceEqDiff, Nat.reduceLT, Nat.reduceLeDiff, same_r, rsT, Int.reduceEq, Int.reduceNeg, Int.reduceLT, Int.reduceLE, nsv, rgv, QW, Try.results43])))
   all_goals try (exfalso; omega)
   intro y j hy hj
   unfold rK; rw [if_pos hy]
end Go.He
end
section
set_option linter.unusedSimpArgs false
set_option linter.unusedVariables false
set_option linter.defProp false
set_option maxRecDepth 100000
set_option maxHeartbeats 16000000
namespace Go.He
open Go.Proofs
open Go.Sx
theorem pl_4i {n m : Nat} {r : Int} {w : Nat → Wd} (h : ckR n m w = 0) (hr : 0 ≤ r ∧ r < n) (h0 : (agrs w m n).length ≠ 0) : plV n m w r = (loP n (agrs w m n) r.toNat, hiP n (agrs w m n) r.toNat) ∧ kdE n m w (bdP n r) = 0 := by
 obtain ⟨R, rfl⟩ : ∃ R : Nat, r = R := ⟨r.toNat, by omega⟩
 rw [Int.toNat_natCast]
 exact pl_4 h (by omega) h0
theorem pl_3i {n m : Nat} {r : Int} {w : Nat → Wd} (h : ckR n m w = 0) (hr : 0 ≤ r ∧ r < n) (h0 : (agrs w m n).length = 0) : kdE n m w (bdP n r) = 22 := by
 obtain ⟨R, rfl⟩ : ∃ R : Nat, r = R := ⟨r.toNat, by omega⟩
 exact pl_3 h (by omega) h0
theorem ckF_fin {n m : Nat} {w : Nat → Wd} (h : ckR n m w = 0) {f : Nat → Int} (hf : Fin f n) : ckF n m w n f = if agr w m f then 0 else 22 := by
 unfold ckF
 rw [if_neg (fun e => e h), if_neg (fun e => e rfl), if_neg (fun e => e hf)]
 by_cases c : agr w m f
 ·rw [if_neg (fun e => e c), if_pos c]
 ·rw [if_pos c, if_neg c]
theorem fin_in {n m : Nat} {w : Nat → Wd} (hw : Fit w m n) {f : Nat → Int} (hf : Fin f n) (ha : agr w m f) : ∃ t, t ∈ agrs w m n ∧ ∀ i, i < n → Dg n t i = f i := by
 obtain ⟨t, t1, t2, t3, t4⟩ := fin_num hw hf ha
 exact ⟨t, mem_lst.2 ⟨t1, okA_iff.2 ⟨t2, t3⟩⟩, t4⟩
theorem kq_2 {n : Nat} {L : List Nat} {r : Int} {P : Int} (hr : r.toNat < n) (h0 : L.length ≠ 0) : decide (kindV (L.filter (pQ n r P)).length L.length = 2) = decide (hiP n L r.toNat ≤ P) := by
 have p := plc hr (fun e => h0 (by rw [e]; rfl) : L ≠ [])
 rw [Bool.eq_iff_iff, decide_eq_true_eq, decide_eq_true_eq, kindV_2 h0, List.length_filter_eq_length_iff]
 obtain ⟨b, b1, b2⟩ := p.ge'
 constructor
 ·intro h; have := h b b1; unfold pQ at this; rw [decide_eq_true_eq] at this; omega
 ·intro h t ht; have := p.ge t ht; unfold pQ; rw [decide_eq_true_eq]; omega
theorem kq_0 {n : Nat} {L : List Nat} {r : Int} {P : Int} (hr : r.toNat < n) (h0 : L.length ≠ 0) : decide (kindV (L.filter (pQ n r P)).length L.length = 0) = decide (P < loP n L r.toNat) := by
 have p := plc hr (fun e => h0 (by rw [e]; rfl) : L ≠ [])
 rw [Bool.eq_iff_iff, decide_eq_true_eq, decide_eq_true_eq, kindV_0, List.length_eq_zero_iff, List.filter_eq_nil_iff]
 obtain ⟨b, b1, b2⟩ := p.le'
 constructor
 ·intro h; have := h b b1; unfold pQ at this; rw [decide_eq_true_eq] at this; omega
 ·intro h t ht; have := p.le t ht; unfold pQ; rw [decide_eq_true_eq]; omega
theorem kw_lt {n : Nat} {L : List Nat} {x : Wd} (hk : x.k = 0) (ha : x.a.toNat < n) (hb : x.b.toNat < n) (h0 : L.length ≠ 0) (h : kindV (L.filter (pW n x)).length L.length = 2) : loP n L x.a.toNat < loP n L x.b.toNat ∧ hiP n L x.a.toNat < hiP n L x.b.toNat := by
 have hL : L ≠ [] := fun e => h0 (by rw [e]; rfl)
 have p := plc ha hL
 have q := plc hb hL
 rw [kindV_2 h0, List.length_filter_eq_length_iff] at h
 have hs : ∀ t, t ∈ L → Dg n t x.a.toNat < Dg n t x.b.toNat := fun t ht => by
  have this : says x (fun y => Dg n t y.toNat) := of_decide_eq_true (h t ht)
  unfold says at this
  rw [if_pos hk] at this
  exact this
 obtain ⟨t, t1, t2⟩ := q.le'
 obtain ⟨u, u1, u2⟩ := p.ge'
 have := hs t t1
 have := p.le t t1
 have := hs u u1
 have := q.ge u u1
 omega
theorem plc_bd {n : Nat} {L : List Nat} {r : Nat} (hr : r < n) (hL : L ≠ []) : 1 ≤ loP n L r ∧ loP n L r ≤ hiP n L r ∧ hiP n L r ≤ n := by
 have p := plc hr hL
 obtain ⟨t, t1, t2⟩ := p.le'
 obtain ⟨u, u1, u2⟩ := p.ge'
 have := Dg_bd (n := n) (t := t) hr
 have := Dg_bd (n := n) (t := u) hr
 have := p.ge t t1
 omega
theorem pkW_k (n : Nat) (x y : Int) : (pkW n x y 0).k = 0 := rfl
theorem c11 (N : Int) (m : Nat) (w : Nat → Wd) (l : Nat) (p : Nat → Int) (hp : ∀ i, i < l → 0 ≤ p i ∧ p i < 256) (x y z : Int) (hx : 0 ≤ x ∧ x < 256) (hy : 0 ≤ y ∧ y < 256) (hz : 0 ≤ z ∧ z < 256) : Contract Try.prog 11 [rsv N m w, .arr false false l 1 (fun i _ => .val (.int .u8 (p i))), .val (.int .u8 x), .val (.int .u8 y), .val (.int .u8 z)] (B true) := by
 refine contract_of Try.func11 rfl (by kernel_rfl) follows (by kernel_rfl) _ _ (by rw [Try.ntmps11]; simp) (by simp [OldL, Old, QV, rsv]) ?_
 unfold rsv B
 (repeat' (first | with_reducible (first | apply splitVC_d <;> intro _ | apply splitVC <;> intro _) | ((with_reducible refine And.intro ?_ ?_); focus (first | exact True.intro | omega | (simp only [InK, ne_eq, and_true, true_and]; omega) | (and_intros <;> first | exact .inr trivial | exact Nat.le_refl _ | exact one1 _ | exact one5 _ _ _ _ _ | exact one3 _ _ _ | exact .inl rfl | omega) | trivial)) | (simp -dsimp only [↓RP, RQ, Nat.reduceMul, reduceIte, reduceCtorEq, Nat.reduceAdd, Nat.reduceEqDiff, Nat.reduceLT, Nat.reduceLeDiff, same_r, rsT, Int.reduceEq, Int.reduceNeg, Int.reduceLT, Int.reduceLE, nsv, rgv, wag, QW, Try.results11])))
 refine callVC (c42 N m w) (by (simp -dsimp only [↓RP, RQ, Nat.reduceMul, reduceIte, reduceCtorEq, Nat.reduceAdd, Nat.reduceEqDiff, Nat.reduceLT, Nat.reduceLeDiff, QV, rsv, ints, I, B, wag]); all_goals (try simp [QV, Go.Sx.Sub, Go.Sx.SubL, wf_sub])) (by (simp -dsimp only [↓RP, RQ, Nat.reduceMul, reduceIte, reduceCtorEq, Nat.reduceAdd, Nat.reduceEqDiff, Nat.reduceLT, Nat.reduceLeDiff, QV, rsT, nsv, rgv, I, B, wag]); all_goals (try simp [QV])) ?_
 by_cases he : ckR N m w = 0
 rotate_left
 ·have f0 := decide_eq_false he
  (repeat' (first | with_reducible (first | apply splitVC_d <;> intro _ | apply splitVC <;> intro _) | ((with_reducible refine And.intro ?_ ?_); focus (first | exact True.intro | omega | (simp only [InK, ne_eq, and_true, true_and]; omega) | (and_intros <;> first | exact .inr trivial | exact Nat.le_refl _ | exact one1 _ | exact one5 _ _ _ _ _ | exact one3 _ _ _ | exact .inl rfl | omega) | trivial)) | (simp -dsimp only [↓RP, RQ, Nat.reduceMul, reduceIte, reduceCtorEq, Nat.reduceAdd, Nat.reduceEqDiff, Nat.reduceLT, Nat.reduceLeDiff, f0, same_r, rsT, Int.reduceEq, Int.reduceNeg, Int.reduceLT, Int.reduceLE, nsv, rgv, wag, QW, Try.results11])))
  all_goals try (exfalso; omega)
  refine callVC (c18) (by (simp -dsimp only [↓RP, RQ, Nat.reduceMul, reduceIte, reduceCtorEq, Nat.reduceAdd, Nat.reduceEqDiff, Nat.reduceLT, Nat.reduceLeDiff, QV, rsv, ints, I, B, wag]); all_goals (try simp [QV, Go.Sx.Sub, Go.Sx.SubL, wf_sub])) (by (simp -dsimp only [↓RP, RQ, Nat.reduceMul, reduceIte, reduceCtorEq, Nat.reduceAdd, Nat.reduceEqDiff, Nat.reduceLT, Nat.reduceLeDiff, QV, rsT, nsv, rgv, I, B, wag]); all_goals (try simp [QV])) ?_
  (repeat' (first | with_reducible (first | apply splitVC_d <;> intro _ | apply splitVC <;> intro _) | ((with_reducible refine And.intro ?_ ?_); focus (first | exact True.intro | omega | (simp only [InK, ne_eq, and_true, true_and]; omega) | (and_intros <;> first | exact .inr trivial | exact Nat.le_refl _ | exact one1 _ | exact one5 _ _ _ _ _ | exact one3 _ _ _ | exact .inl rfl | omega) | trivial)) | (simp -dsimp only [↓RP, RQ, Nat.reduceMul, reduceIte, reduceCtorEq, Nat.reduceAdd, Nat.reduceEqDiff, Nat.reduceLT, Nat.reduceLeDiff, f0, same_r, rsT, Int.reduceEq, Int.reduceNeg, Int.reduceLT, Int.reduceLE, nsv, rgv, wag, QW, Try.results11])))
  all_goals try (exfalso; omega)
 have ⟨n2, n5, m12, _⟩ := ckR_ok he
 obtain ⟨n, rfl⟩ : ∃ n : Nat, N = n := ⟨N.toNat, by omega⟩
 have f0 := decide_eq_true he
 by_cases hl : 20 < l
 ·have f1 := decide_eq_true (show (20 : Int) < ((l : Nat) : Int) by omega)
  (repeat' (first | with_reducible (first | apply splitVC_d <;> intro _ | apply splitVC <;> intro _) | ((with_reducible refine And.intro ?_ ?_); focus (first | exact True.intro | omega | (simp only [InK, ne_eq, and_true, true_and]; omega) | (and_intros <;> first | exact .inr trivial | exact Nat.le_refl _ | exact one1 _ | exact one5 _ _ _ _ _ | exact one3 _ _ _ | exact .inl rfl | omega) | trivial)) | (simp -dsimp only [↓RP, RQ, Nat.reduceMul, reduceIte, reduceCtorEq, Nat.reduceAdd, Nat.reduceEqDiff, Nat.reduceLT, Nat.reduceLeDiff, f0, f1, same_r, rsT, Int.reduceEq, Int.reduceNeg, Int.reduceLT, Int.reduceLE, nsv, rgv, wag, QW, Try.results11])))
  all_goals try (exfalso; omega)
  refine callVC (c18) (by (simp -dsimp only [↓RP, RQ, Nat.reduceMul, reduceIte, reduceCtorEq, Nat.reduceAdd, Nat.reduceEqDiff, Nat.reduceLT, Nat.reduceLeDiff, QV, rsv, ints, I, B, wag]); all_goals (try simp [QV, Go.Sx.Sub, Go.Sx.SubL, wf_sub])) (by (simp -dsimp only [↓RP, RQ, Nat.reduceMul, reduceIte, reduceCtorEq, Nat.reduceAdd, Nat.reduceEqDiff, Nat.reduceLT, Nat.reduceLeDiff, QV, rsT, nsv, rgv, I, B, wag]); all_goals (try simp [QV])) ?_
  (repeat' (first | with_reducible (first | apply splitVC_d <;> intro _ | apply splitVC <;> intro _) | ((with_reducible refine And.intro ?_ ?_); focus (first | exact True.intro | omega | (simp only [InK, ne_eq, and_true, true_and]; omega) | (and_intros <;> first | exact .inr trivial | exact Nat.le_refl _ | exact one1 _ | exact one5 _ _ _ _ _ | exact one3 _ _ _ | exact .inl rfl | omega) | trivial)) | (simp -dsimp only [↓RP, RQ, Nat.reduceMul, reduceIte, reduceCtorEq, Nat.reduceAdd, Nat.reduceEqDiff, Nat.reduceLT, Nat.reduceLeDiff, f0, same_r, rsT, Int.reduceEq, Int.reduceNeg, Int.reduceLT, Int.reduceLE, nsv, rgv, wag, QW, Try.results11])))
  all_goals try (exfalso; omega)
 have f1 := decide_eq_false (show ¬ (20 : Int) < ((l : Nat) : Int) by omega)
 have hw := ckR_fit he
 have hxp := pkW_ok (n := n) (by omega) x y 0
 have hxk := pkW_k n x y
 have q44 := c44 n (by omega) (by omega) m w x y 0 hx hy (by omega)
 generalize pkW n x y 0 = X at *
 obtain ⟨⟨a0, a1⟩, ⟨b0, b1⟩, hne, _⟩ := id hxp
 have hbd : bdW n X = 0 := by unfold bdW; rw [if_pos hxp]
 have hzm := Nat.mod_lt z.toNat (show 0 < n by omega)
 have ez : z.tmod (n : Int) = ((z.toNat % n : Nat) : Int) := tm hz.1 n
 have hbq : bdQ n X.a (1 + ((z.toNat % n : Nat) : Int)) = 0 := by unfold bdQ; rw [if_pos ⟨a0, a1⟩, if_pos (by omega)]
 have hfin := rk_fin (vF l p) n
 have hck := ckF_fin he hfin
 have h22 := c22 n m w (by omega) n (rk (vF l p) n) (by omega)
 have q43 := c43 n (by omega) (by omega) l p (by omega) hp
 have h34a := c34 n m w (by omega) X.a
 have h34b := c34 n m w (by omega) X.b
 have h32 := c32 n m w (by omega) X
 have h36 := c36 n m w (by omega) X.a (1 + ((z.toNat % n : Nat) : Int))
 rw [Int.toNat_natCast] at h32 h36
 (repeat' (first | with_reducible (first | apply splitVC_d <;> intro _ | apply splitVC <;> intro _) | ((with_reducible refine And.intro ?_ ?_); focus (first | exact True.intro | omega | (simp only [InK, ne_eq, and_true, true_and]; omega) | (and_intros <;> first | exact .inr trivial | exact Nat.le_refl _ | exact one1 _ | exact one5 _ _ _ _ _ | exact one3 _ _ _ | exact .inl rfl | omega) | trivial)) | (simp -dsimp only [↓RP, RQ, Nat.reduceMul, reduceIte, reduceCtorEq, Nat.reduceAdd, Nat.reduceEqDiff, Nat.reduceLT, Nat.reduceLeDiff, f0, f1, same_r, rsT, Int.reduceEq, Int.reduceNeg, Int.reduceLT, Int.reduceLE, nsv, rgv, wag, QW, Try.results11])))
 all_goals try (exfalso; omega)
 refine callVC (q44) (by (simp -dsimp only [↓RP, RQ, Nat.reduceMul, reduceIte, reduceCtorEq, Nat.reduceAdd, Nat.reduceEqDiff, Nat.reduceLT, Nat.reduceLeDiff, QV, rsv, ints, I, B, wag]); all_goals (try simp [QV, Go.Sx.Sub, Go.Sx.SubL, wf_sub])) (by (simp -dsimp only [↓RP, RQ, Nat.reduceMul, reduceIte, reduceCtorEq, Nat.reduceAdd, Nat.reduceEqDiff, Nat.reduceLT, Nat.reduceLeDiff, QV, rsT, nsv, rgv, I, B, wag]); all_goals (try simp [QV])) ?_
 (repeat' (first | with_reducible (first | apply splitVC_d <;> intro _ | apply splitVC <;> intro _) | ((with_reducible refine And.intro ?_ ?_); focus (first | exact True.intro | omega | (simp only [InK, ne_eq, and_true, true_and]; omega) | (and_intros <;> first | exact .inr trivial | exact Nat.le_refl _ | exact one1 _ | exact one5 _ _ _ _ _ | exact one3 _ _ _ | exact .inl rfl | omega) | trivial)) | (simp -dsimp only [↓RP, RQ, Nat.reduceMul, reduceIte, reduceCtorEq, Nat.reduceAdd, Nat.reduceEqDiff, Nat.reduceLT, Nat.reduceLeDiff, f0, f1, ez, same_r, rsT, Int.reduceEq, Int.reduceNeg, Int.reduceLT, Int.reduceLE, nsv, rgv, wag, QW, Try.results11])))
 all_goals try (exfalso; omega)
 by_cases t1 : (agrs w m n).length = 0
 ·have hna : ¬ agr w m (rk (vF l p) n) := fun h => by
   obtain ⟨t, ht, _⟩ := fin_in hw hfin h
   have := List.length_pos_of_mem ht
   omega
  rw [hck, if_neg hna] at h22
  rw [(kd_3 (p := pW n X) he hbd t1).1, (kd_3 (p := pW n X) he hbd t1).2] at h32
  rw [(kd_3 (p := pQ n X.a (1 + ((z.toNat % n : Nat) : Int))) he hbq t1).1, (kd_3 (p := pQ n X.a (1 + ((z.toNat % n : Nat) : Int))) he hbq t1).2] at h36
  rw [pl_3i he ⟨a0, a1⟩ t1] at h34a
  rw [pl_3i he ⟨b0, b1⟩ t1] at h34b
  generalize (rk (vF l p) n) = F at *
  generalize plV n m w X.a = q1 at *
  generalize plV n m w X.b = q2 at *
  refine callVC (h34a) (by (simp -dsimp only [↓RP, RQ, Nat.reduceMul, reduceIte, reduceCtorEq, Nat.reduceAdd, Nat.reduceEqDiff, Nat.reduceLT, Nat.reduceLeDiff, QV, rsv, ints, I, B, wag]); all_goals (try simp [QV, Go.Sx.Sub, Go.Sx.SubL, wf_sub])) (by (simp -dsimp only [↓RP, RQ, Nat.reduceMul, reduceIte, reduceCtorEq, Nat.reduceAdd, Nat.reduceEqDiff, Nat.reduceLT, Nat.reduceLeDiff, QV, rsT, nsv, rgv, I, B, wag]); all_goals (try simp [QV])) ?_
  (repeat' (first | with_reducible (first | apply splitVC_d <;> intro _ | apply splitVC <;> intro _) | ((with_reducible refine And.intro ?_ ?_); focus (first | exact True.intro | omega | (simp only [InK, ne_eq, and_true, true_and]; omega) | (and_intros <;> first | exact .inr trivial | exact Nat.le_refl _ | exact one1 _ | exact one5 _ _ _ _ _ | exact one3 _ _ _ | exact .inl rfl | omega) | trivial)) | (simp -dsimp only [↓RP, RQ, Nat.reduceMul, reduceIte, reduceCtorEq, Nat.reduceAdd, Nat.reduceEqDiff, Nat.reduceLT, Nat.reduceLeDiff, ez, same_r, rsT, Int.reduceEq, Int.reduceNeg, Int.reduceLT, Int.reduceLE, nsv, rgv, wag, QW, Try.results11])))
  all_goals try (exfalso; omega)
  refine callVC (h34b) (by (simp -dsimp only [↓RP, RQ, Nat.reduceMul, reduceIte, reduceCtorEq, Nat.reduceAdd, Nat.reduceEqDiff, Nat.reduceLT, Nat.reduceLeDiff, QV, rsv, ints, I, B, wag]); all_goals (try simp [QV, Go.Sx.Sub, Go.Sx.SubL, wf_sub])) (by (simp -dsimp only [↓RP, RQ, Nat.reduceMul, reduceIte, reduceCtorEq, Nat.reduceAdd, Nat.reduceEqDiff, Nat.reduceLT, Nat.reduceLeDiff, QV, rsT, nsv, rgv, I, B, wag]); all_goals (try simp [QV])) ?_
  (repeat' (first | with_reducible (first | apply splitVC_d <;> intro _ | apply splitVC <;> intro _) | ((with_reducible refine And.intro ?_ ?_); focus (first | exact True.intro | omega | (simp only [InK, ne_eq, and_true, true_and]; omega) | (and_intros <;> first | exact .inr trivial | exact Nat.le_refl _ | exact one1 _ | exact one5 _ _ _ _ _ | exact one3 _ _ _ | exact .inl rfl | omega) | trivial)) | (simp -dsimp only [↓RP, RQ, Nat.reduceMul, reduceIte, reduceCtorEq, Nat.reduceAdd, Nat.reduceEqDiff, Nat.reduceLT, Nat.reduceLeDiff, ez, same_r, rsT, Int.reduceEq, Int.reduceNeg, Int.reduceLT, Int.reduceLE, nsv, rgv, wag, QW, Try.results11])))
  all_goals try (exfalso; omega)
  refine callVC (h32) (by (simp -dsimp only [↓RP, RQ, Nat.reduceMul, reduceIte, reduceCtorEq, Nat.reduceAdd, Nat.reduceEqDiff, Nat.reduceLT, Nat.reduceLeDiff, QV, rsv, ints, I, B, wag]); all_goals (try simp [QV, Go.Sx.Sub, Go.Sx.SubL, wf_sub])) (by (simp -dsimp only [↓RP, RQ, Nat.reduceMul, reduceIte, reduceCtorEq, Nat.reduceAdd, Nat.reduceEqDiff, Nat.reduceLT, Nat.reduceLeDiff, QV, rsT, nsv, rgv, I, B, wag]); all_goals (try simp [QV])) ?_
  (repeat' (first | with_reducible (first | apply splitVC_d <;> intro _ | apply splitVC <;> intro _) | ((with_reducible refine And.intro ?_ ?_); focus (first | exact True.intro | omega | (simp only [InK, ne_eq, and_true, true_and]; omega) | (and_intros <;> first | exact .inr trivial | exact Nat.le_refl _ | exact one1 _ | exact one5 _ _ _ _ _ | exact one3 _ _ _ | exact .inl rfl | omega) | trivial)) | (simp -dsimp only [↓RP, RQ, Nat.reduceMul, reduceIte, reduceCtorEq, Nat.reduceAdd, Nat.reduceEqDiff, Nat.reduceLT, Nat.reduceLeDiff, ez, same_r, rsT, Int.reduceEq, Int.reduceNeg, Int.reduceLT, Int.reduceLE, nsv, rgv, wag, QW, Try.results11])))
  all_goals try (exfalso; omega)
  refine callVC (h36) (by (simp -dsimp only [↓RP, RQ, Nat.reduceMul, reduceIte, reduceCtorEq, Nat.reduceAdd, Nat.reduceEqDiff, Nat.reduceLT, Nat.reduceLeDiff, QV, rsv, ints, I, B, wag]); all_goals (try simp [QV, Go.Sx.Sub, Go.Sx.SubL, wf_sub])) (by (simp -dsimp only [↓RP, RQ, Nat.reduceMul, reduceIte, reduceCtorEq, Nat.reduceAdd, Nat.reduceEqDiff, Nat.reduceLT, Nat.reduceLeDiff, QV, rsT, nsv, rgv, I, B, wag]); all_goals (try simp [QV])) ?_
  (repeat' (first | with_reducible (first | apply splitVC_d <;> intro _ | apply splitVC <;> intro _) | ((with_reducible refine And.intro ?_ ?_); focus (first | exact True.intro | omega | (simp only [InK, ne_eq, and_true, true_and]; omega) | (and_intros <;> first | exact .inr trivial | exact Nat.le_refl _ | exact one1 _ | exact one5 _ _ _ _ _ | exact one3 _ _ _ | exact .inl rfl | omega) | trivial)) | (simp -dsimp only [↓RP, RQ, Nat.reduceMul, reduceIte, reduceCtorEq, Nat.reduceAdd, Nat.reduceEqDiff, Nat.reduceLT, Nat.reduceLeDiff, ez, same_r, rsT, Int.reduceEq, Int.reduceNeg, Int.reduceLT, Int.reduceLE, nsv, rgv, wag, QW, Try.results11])))
  all_goals try (exfalso; omega)
  refine callVC (q43) (by (simp -dsimp only [↓RP, RQ, Nat.reduceMul, reduceIte, reduceCtorEq, Nat.reduceAdd, Nat.reduceEqDiff, Nat.reduceLT, Nat.reduceLeDiff, QV, rsv, ints, I, B, wag]); all_goals (try simp [QV, Go.Sx.Sub, Go.Sx.SubL, wf_sub])) (by (simp -dsimp only [↓RP, RQ, Nat.reduceMul, reduceIte, reduceCtorEq, Nat.reduceAdd, Nat.reduceEqDiff, Nat.reduceLT, Nat.reduceLeDiff, QV, rsT, nsv, rgv, I, B, wag]); all_goals (try simp [QV])) ?_
  (repeat' (first | with_reducible (first | apply splitVC_d <;> intro _ | apply splitVC <;> intro _) | ((with_reducible refine And.intro ?_ ?_); focus (first | exact True.intro | omega | (simp only [InK, ne_eq, and_true, true_and]; omega) | (and_intros <;> first | exact .inr trivial | exact Nat.le_refl _ | exact one1 _ | exact one5 _ _ _ _ _ | exact one3 _ _ _ | exact .inl rfl | omega) | trivial)) | (simp -dsimp only [↓RP, RQ, Nat.reduceMul, reduceIte, reduceCtorEq, Nat.reduceAdd, Nat.reduceEqDiff, Nat.reduceLT, Nat.reduceLeDiff, ez, same_r, rsT, Int.reduceEq, Int.reduceNeg, Int.reduceLT, Int.reduceLE, nsv, rgv, wag, QW, Try.results11])))
  all_goals try (exfalso; omega)
  refine callVC (h22) (by (simp -dsimp only [↓RP, RQ, Nat.reduceMul, reduceIte, reduceCtorEq, Nat.reduceAdd, Nat.reduceEqDiff, Nat.reduceLT, Nat.reduceLeDiff, QV, rsv, ints, I, B, wag]); all_goals (try simp [QV, Go.Sx.Sub, Go.Sx.SubL, wf_sub])) (by (simp -dsimp only [↓RP, RQ, Nat.reduceMul, reduceIte, reduceCtorEq, Nat.reduceAdd, Nat.reduceEqDiff, Nat.reduceLT, Nat.reduceLeDiff, QV, rsT, nsv, rgv, I, B, wag]); all_goals (try simp [QV])) ?_
  (repeat' (first | with_reducible (first | apply splitVC_d <;> intro _ | apply splitVC <;> intro _) | ((with_reducible refine And.intro ?_ ?_); focus (first | exact True.intro | omega | (simp only [InK, ne_eq, and_true, true_and]; omega) | (and_intros <;> first | exact .inr trivial | exact Nat.le_refl _ | exact one1 _ | exact one5 _ _ _ _ _ | exact one3 _ _ _ | exact .inl rfl | omega) | trivial)) | (simp -dsimp only [↓RP, RQ, Nat.reduceMul, reduceIte, reduceCtorEq, Nat.reduceAdd, Nat.reduceEqDiff, Nat.reduceLT, Nat.reduceLeDiff, ez, same_r, rsT, Int.reduceEq, Int.reduceNeg, Int.reduceLT, Int.reduceLE, nsv, rgv, wag, QW, Try.results11])))
  all_goals try (exfalso; omega)
  refine callVC (c18) (by (simp -dsimp only [↓RP, RQ, Nat.reduceMul, reduceIte, reduceCtorEq, Nat.reduceAdd, Nat.reduceEqDiff, Nat.reduceLT, Nat.reduceLeDiff, QV, rsv, ints, I, B, wag]); all_goals (try simp [QV, Go.Sx.Sub, Go.Sx.SubL, wf_sub])) (by (simp -dsimp only [↓RP, RQ, Nat.reduceMul, reduceIte, reduceCtorEq, Nat.reduceAdd, Nat.reduceEqDiff, Nat.reduceLT, Nat.reduceLeDiff, QV, rsT, nsv, rgv, I, B, wag]); all_goals (try simp [QV])) ?_
  (repeat' (first | with_reducible (first | apply splitVC_d <;> intro _ | apply splitVC <;> intro _) | ((with_reducible refine And.intro ?_ ?_); focus (first | exact True.intro | omega | (simp only [InK, ne_eq, and_true, true_and]; omega) | (and_intros <;> first | exact .inr trivial | exact Nat.le_refl _ | exact one1 _ | exact one5 _ _ _ _ _ | exact one3 _ _ _ | exact .inl rfl | omega) | trivial)) | (simp -dsimp only [↓RP, RQ, Nat.reduceMul, reduceIte, reduceCtorEq, Nat.reduceAdd, Nat.reduceEqDiff, Nat.reduceLT, Nat.reduceLeDiff, same_r, rsT, Int.reduceEq, Int.reduceNeg, Int.reduceLT, Int.reduceLE, nsv, rgv, wag, QW, Try.results11])))
  all_goals try (exfalso; omega)
 ·have hL : agrs w m n ≠ [] := fun e => t1 (by rw [e]; rfl)
  have hA := plc_bd (n := n) (L := agrs w m n) (r := X.a.toNat) (by omega) hL
  have k2 := kq_2 (n := n) (L := agrs w m n) (r := X.a) (P := (1 + ((z.toNat % n : Nat) : Int))) (by omega) t1
  have k0 := kq_0 (n := n) (L := agrs w m n) (r := X.a) (P := (1 + ((z.toNat % n : Nat) : Int))) (by omega) t1
  have kw := kw_lt (n := n) (L := agrs w m n) hxk (by omega) (by omega) t1
  have hin : agr w m (rk (vF l p) n) → loP n (agrs w m n) X.a.toNat ≤ (rk (vF l p) n) X.a.toNat ∧ (rk (vF l p) n) X.a.toNat ≤ hiP n (agrs w m n) X.a.toNat := fun h => by
   obtain ⟨t, ht, e⟩ := fin_in hw hfin h
   have p := plc (n := n) (L := agrs w m n) (r := X.a.toNat) (by omega) hL
   rw [← e _ (by omega)]
   exact ⟨p.le t ht, p.ge t ht⟩
  rw [(kd_4 (p := pW n X) he hbd t1).1, (kd_4 (p := pW n X) he hbd t1).2] at h32
  rw [(kd_4 (p := pQ n X.a (1 + ((z.toNat % n : Nat) : Int))) he hbq t1).1, (kd_4 (p := pQ n X.a (1 + ((z.toNat % n : Nat) : Int))) he hbq t1).2] at h36
  rw [(pl_4i he ⟨a0, a1⟩ t1).1, (pl_4i he ⟨a0, a1⟩ t1).2] at h34a
  rw [(pl_4i he ⟨b0, b1⟩ t1).1, (pl_4i he ⟨b0, b1⟩ t1).2] at h34b
  rw [hck] at h22
  have hGb := hfin
  generalize (rk (vF l p) n) = F at *
  generalize loP n (agrs w m n) X.a.toNat = lo at *
  generalize hiP n (agrs w m n) X.a.toNat = hi at *
  generalize loP n (agrs w m n) X.b.toNat = lo2 at *
  generalize hiP n (agrs w m n) X.b.toNat = hi2 at *
  generalize kindV ((agrs w m n).filter (pW n X)).length (agrs w m n).length = kW at *
  generalize kindV ((agrs w m n).filter (pQ n X.a (1 + ((z.toNat % n : Nat) : Int)))).length (agrs w m n).length = kQ at *
  have g1 := decide_eq_false (show ¬ lo < 1 by omega)
  have g2 := decide_eq_false (show ¬ hi < lo by omega)
  have g3 := decide_eq_false (show ¬ (n : Int) < hi by omega)
  by_cases hag : agr w m F
  ·rw [if_pos hag] at h22
   obtain ⟨i1, i2⟩ := hin hag
   have g4 := decide_eq_false (show ¬ F X.a.toNat < lo by omega)
   have g5 := decide_eq_false (show ¬ hi < F X.a.toNat by omega)
   by_cases hk : kW = 2
   ·obtain ⟨l1, l2⟩ := kw hk
    have g6 := decide_eq_true hk
    have g7 := decide_eq_true l1
    have g8 := decide_eq_true l2
    refine callVC (h34a) (by (simp -dsimp only [↓RP, RQ, Nat.reduceMul, reduceIte, reduceCtorEq, Nat.reduceAdd, Nat.reduceEqDiff, Nat.reduceLT, Nat.reduceLeDiff, QV, rsv, ints, I, B, wag]); all_goals (try simp [QV, Go.Sx.Sub, Go.Sx.SubL, wf_sub])) (by (simp -dsimp only [↓RP, RQ, Nat.reduceMul, reduceIte, reduceCtorEq, Nat.reduceAdd, Nat.reduceEqDiff, Nat.reduceLT, Nat.reduceLeDiff, QV, rsT, nsv, rgv, I, B, wag]); all_goals (try simp [QV])) ?_
    (repeat' (first | with_reducible (first | apply splitVC_d <;> intro _ | apply splitVC <;> intro _) | ((with_reducible refine And.intro ?_ ?_); focus (first | exact True.intro | omega | (simp only [InK, ne_eq, and_true, true_and]; omega) | (and_intros <;> first | exact .inr trivial | exact Nat.le_refl _ | exact one1 _ | exact one5 _ _ _ _ _ | exact one3 _ _ _ | exact .inl rfl | omega) | trivial)) | (simp -dsimp only [↓RP, RQ, Nat.reduceMul, reduceIte, reduceCtorEq, Nat.reduceAdd, Nat.reduceEqDiff, Nat.reduceLT, Nat.reduceLeDiff, g1, g2, g3, k2, k0, ez, g4, g5, g6, g7, g8, same_r, rsT, Int.reduceEq, Int.reduceNeg, Int.reduceLT, Int.reduceLE, nsv, rgv, wag, QW, Try.results11])))
    all_goals try (exfalso; omega)
    refine callVC (h34b) (by (simp -dsimp only [↓RP, RQ, Nat.reduceMul, reduceIte, reduceCtorEq, Nat.reduceAdd, Nat.reduceEqDiff, Nat.reduceLT, Nat.reduceLeDiff, QV, rsv, ints, I, B, wag]); all_goals (try simp [QV, Go.Sx.Sub, Go.Sx.SubL, wf_sub])) (by (simp -dsimp only [↓RP, RQ, Nat.reduceMul, reduceIte, reduceCtorEq, Nat.reduceAdd, Nat.reduceEqDiff, Nat.reduceLT, Nat.reduceLeDiff, QV, rsT, nsv, rgv, I, B, wag]); all_goals (try simp [QV])) ?_
    (repeat' (first | with_reducible (first | apply splitVC_d <;> intro _ | apply splitVC <;> intro _) | ((with_reducible refine And.intro ?_ ?_); focus (first | exact True.intro | omega | (simp only [InK, ne_eq, and_true, true_and]; omega) | (and_intros <;> first | exact .inr trivial | exact Nat.le_refl _ | exact one1 _ | exact one5 _ _ _ _ _ | exact one3 _ _ _ | exact .inl rfl | omega) | trivial)) | (simp -dsimp only [↓RP, RQ, Nat.reduceMul, reduceIte, reduceCtorEq, Nat.reduceAdd, Nat.reduceEqDiff, Nat.reduceLT, Nat.reduceLeDiff, g1, g2, g3, k2, k0, ez, g4, g5, g6, g7, g8, same_r, rsT, Int.reduceEq, Int.reduceNeg, Int.reduceLT, Int.reduceLE, nsv, rgv, wag, QW, Try.results11])))
    all_goals try (exfalso; omega)
    refine callVC (h32) (by (simp -dsimp only [↓RP, RQ, Nat.reduceMul, reduceIte, reduceCtorEq, Nat.reduceAdd, Nat.reduceEqDiff, Nat.reduceLT, Nat.reduceLeDiff, QV, rsv, ints, I, B, wag]); all_goals (try simp [QV, Go.Sx.Sub, Go.Sx.SubL, wf_sub])) (by (simp -dsimp only [↓RP, RQ, Nat.reduceMul, reduceIte, reduceCtorEq, Nat.reduceAdd, Nat.reduceEqDiff, Nat.reduceLT, Nat.reduceLeDiff, QV, rsT, nsv, rgv, I, B, wag]); all_goals (try simp [QV])) ?_
    (repeat' (first | with_reducible (first | apply splitVC_d <;> intro _ | apply splitVC <;> intro _) | ((with_reducible refine And.intro ?_ ?_); focus (first | exact True.intro | omega | (simp only [InK, ne_eq, and_true, true_and]; omega) | (and_intros <;> first | exact .inr trivial | exact Nat.le_refl _ | exact one1 _ | exact one5 _ _ _ _ _ | exact one3 _ _ _ | exact .inl rfl | omega) | trivial)) | (simp -dsimp only [↓RP, RQ, Nat.reduceMul, reduceIte, reduceCtorEq, Nat.reduceAdd, Nat.reduceEqDiff, Nat.reduceLT, Nat.reduceLeDiff, g1, g2, g3, k2, k0, ez, g4, g5, g6, g7, g8, same_r, rsT, Int.reduceEq, Int.reduceNeg, Int.reduceLT, Int.reduceLE, nsv, rgv, wag, QW, Try.results11])))
    all_goals try (exfalso; omega)
    refine callVC (h36) (by (simp -dsimp only [↓RP, RQ, Nat.reduceMul, reduceIte, reduceCtorEq, Nat.reduceAdd, Nat.reduceEqDiff, Nat.reduceLT, Nat.reduceLeDiff, QV, rsv, ints, I, B, wag]); all_goals (try simp [QV, Go.Sx.Sub, Go.Sx.SubL, wf_sub])) (by (simp -dsimp only [↓RP, RQ, Nat.reduceMul, reduceIte, reduceCtorEq, Nat.reduceAdd, Nat.reduceEqDiff, Nat.reduceLT, Nat.reduceLeDiff, QV, rsT, nsv, rgv, I, B, wag]); all_goals (try simp [QV])) ?_
    (repeat' (first | with_reducible (first | apply splitVC_d <;> intro _ | apply splitVC <;> intro _) | ((with_reducible refine And.intro ?_ ?_); focus (first | exact True.intro | omega | (simp only [InK, ne_eq, and_true, true_and]; omega) | (and_intros <;> first | exact .inr trivial | exact Nat.le_refl _ | exact one1 _ | exact one5 _ _ _ _ _ | exact one3 _ _ _ | exact .inl rfl | omega) | trivial)) | (simp -dsimp only [↓RP, RQ, Nat.reduceMul, reduceIte, reduceCtorEq, Nat.reduceAdd, Nat.reduceEqDiff, Nat.reduceLT, Nat.reduceLeDiff, g1, g2, g3, k2, k0, ez, g4, g5, g6, g7, g8, same_r, rsT, Int.reduceEq, Int.reduceNeg, Int.reduceLT, Int.reduceLE, nsv, rgv, wag, QW, Try.results11])))
    all_goals try (exfalso; omega)
    refine callVC (q43) (by (simp -dsimp only [↓RP, RQ, Nat.reduceMul, reduceIte, reduceCtorEq, Nat.reduceAdd, Nat.reduceEqDiff, Nat.reduceLT, Nat.reduceLeDiff, QV, rsv, ints, I, B, wag]); all_goals (try simp [QV, Go.Sx.Sub, Go.Sx.SubL, wf_sub])) (by (simp -dsimp only [↓RP, RQ, Nat.reduceMul, reduceIte, reduceCtorEq, Nat.reduceAdd, Nat.reduceEqDiff, Nat.reduceLT, Nat.reduceLeDiff, QV, rsT, nsv, rgv, I, B, wag]); all_goals (try simp [QV])) ?_
    (repeat' (first | with_reducible (first | apply splitVC_d <;> intro _ | apply splitVC <;> intro _) | ((with_reducible refine And.intro ?_ ?_); focus (first | exact True.intro | omega | (simp only [InK, ne_eq, and_true, true_and]; omega) | (and_intros <;> first | exact .inr trivial | exact Nat.le_refl _ | exact one1 _ | exact one5 _ _ _ _ _ | exact one3 _ _ _ | exact .inl rfl | omega) | trivial)) | (simp -dsimp only [↓RP, RQ, Nat.reduceMul, reduceIte, reduceCtorEq, Nat.reduceAdd, Nat.reduceEqDiff, Nat.reduceLT, Nat.reduceLeDiff, g1, g2, g3, k2, k0, ez, g4, g5, g6, g7, g8, same_r, rsT, Int.reduceEq, Int.reduceNeg, Int.reduceLT, Int.reduceLE, nsv, rgv, wag, QW, Try.results11])))
    all_goals try (exfalso; omega)
    refine callVC (h22) (by (simp -dsimp only [↓RP, RQ, Nat.reduceMul, reduceIte, reduceCtorEq, Nat.reduceAdd, Nat.reduceEqDiff, Nat.reduceLT, Nat.reduceLeDiff, QV, rsv, ints, I, B, wag]); all_goals (try simp [QV, Go.Sx.Sub, Go.Sx.SubL, wf_sub])) (by (simp -dsimp only [↓RP, RQ, Nat.reduceMul, reduceIte, reduceCtorEq, Nat.reduceAdd, Nat.reduceEqDiff, Nat.reduceLT, Nat.reduceLeDiff, QV, rsT, nsv, rgv, I, B, wag]); all_goals (try simp [QV])) ?_
    (repeat' (first | with_reducible (first | apply splitVC_d <;> intro _ | apply splitVC <;> intro _) | ((with_reducible refine And.intro ?_ ?_); focus (first | exact True.intro | omega | (simp only [InK, ne_eq, and_true, true_and]; omega) | (and_intros <;> first | exact .inr trivial | exact Nat.le_refl _ | exact one1 _ | exact one5 _ _ _ _ _ | exact one3 _ _ _ | exact .inl rfl | omega) | trivial)) | (simp -dsimp only [↓RP, RQ, Nat.reduceMul, reduceIte, reduceCtorEq, Nat.reduceAdd, Nat.reduceEqDiff, Nat.reduceLT, Nat.reduceLeDiff, g1, g2, g3, k2, k0, ez, g4, g5, g6, g7, g8, same_r, rsT, Int.reduceEq, Int.reduceNeg, Int.reduceLT, Int.reduceLE, nsv, rgv, wag, QW, Try.results11])))
    all_goals try (exfalso; omega)
    refine callVC (c18) (by (simp -dsimp only [↓RP, RQ, Nat.reduceMul, reduceIte, reduceCtorEq, Nat.reduceAdd, Nat.reduceEqDiff, Nat.reduceLT, Nat.reduceLeDiff, QV, rsv, ints, I, B, wag]); all_goals (try simp [QV, Go.Sx.Sub, Go.Sx.SubL, wf_sub])) (by (simp -dsimp only [↓RP, RQ, Nat.reduceMul, reduceIte, reduceCtorEq, Nat.reduceAdd, Nat.reduceEqDiff, Nat.reduceLT, Nat.reduceLeDiff, QV, rsT, nsv, rgv, I, B, wag]); all_goals (try simp [QV])) ?_
    (repeat' (first | with_reducible (first | apply splitVC_d <;> intro _ | apply splitVC <;> intro _) | ((with_reducible refine And.intro ?_ ?_); focus (first | exact True.intro | omega | (simp only [InK, ne_eq, and_true, true_and]; omega) | (and_intros <;> first | exact .inr trivial | exact Nat.le_refl _ | exact one1 _ | exact one5 _ _ _ _ _ | exact one3 _ _ _ | exact .inl rfl | omega) | trivial)) | (simp -dsimp only [↓RP, RQ, Nat.reduceMul, reduceIte, reduceCtorEq, Nat.reduceAdd, Nat.reduceEqDiff, Nat.reduceLT, Nat.reduceLeDiff, g1, g2, g3, k2, k0, ez, g4, g5, g6, g7, g8, same_r, rsT, Int.reduceEq, Int.reduceNeg, Int.reduceLT, Int.reduceLE, nsv, rgv, wag, QW, Try.results11])))
    all_goals try (exfalso; omega)
   ·have g6 := decide_eq_false hk
    refine callVC (h34a) (by (simp -dsimp only [↓RP, RQ, Nat.reduceMul, reduceIte, reduceCtorEq, Nat.reduceAdd, Nat.reduceEqDiff, Nat.reduceLT, Nat.reduceLeDiff, QV, rsv, ints, I, B, wag]); all_goals (try simp [QV, Go.Sx.Sub, Go.Sx.SubL, wf_sub])) (by (simp -dsimp only [↓RP, RQ, Nat.reduceMul, reduceIte, reduceCtorEq, Nat.reduceAdd, Nat.reduceEqDiff, Nat.reduceLT, Nat.reduceLeDiff, QV, rsT, nsv, rgv, I, B, wag]); all_goals (try simp [QV])) ?_
    (repeat' (first | with_reducible (first | apply splitVC_d <;> intro _ | apply splitVC <;> intro _) | ((with_reducible refine And.intro ?_ ?_); focus (first | exact True.intro | omega | (simp only [InK, ne_eq, and_true, true_and]; omega) | (and_intros <;> first | exact .inr trivial | exact Nat.le_refl _ | exact one1 _ | exact one5 _ _ _ _ _ | exact one3 _ _ _ | exact .inl rfl | omega) | trivial)) | (simp -dsimp only [↓RP, RQ, Nat.reduceMul, reduceIte, reduceCtorEq, Nat.reduceAdd, Nat.reduceEqDiff, Nat.reduceLT, Nat.reduceLeDiff, g1, g2, g3, k2, k0, ez, g4, g5, g6, same_r, rsT, Int.reduceEq, Int.reduceNeg, Int.reduceLT, Int.reduceLE, nsv, rgv, wag, QW, Try.results11])))
    all_goals try (exfalso; omega)
    refine callVC (h34b) (by (simp -dsimp only [↓RP, RQ, Nat.reduceMul, reduceIte, reduceCtorEq, Nat.reduceAdd, Nat.reduceEqDiff, Nat.reduceLT, Nat.reduceLeDiff, QV, rsv, ints, I, B, wag]); all_goals (try simp [QV, Go.Sx.Sub, Go.Sx.SubL, wf_sub])) (by (simp -dsimp only [↓RP, RQ, Nat.reduceMul, reduceIte, reduceCtorEq, Nat.reduceAdd, Nat.reduceEqDiff, Nat.reduceLT, Nat.reduceLeDiff, QV, rsT, nsv, rgv, I, B, wag]); all_goals (try simp [QV])) ?_
    (repeat' (first | with_reducible (first | apply splitVC_d <;> intro _ | apply splitVC <;> intro _) | ((with_reducible refine And.intro ?_ ?_); focus (first | exact True.intro | omega | (simp only [InK, ne_eq, and_true, true_and]; omega) | (and_intros <;> first | exact .inr trivial | exact Nat.le_refl _ | exact one1 _ | exact one5 _ _ _ _ _ | exact one3 _ _ _ | exact .inl rfl | omega) | trivial)) | (simp -dsimp only [↓RP, RQ, Nat.reduceMul, reduceIte, reduceCtorEq, Nat.reduceAdd, Nat.reduceEqDiff, Nat.reduceLT, Nat.reduceLeDiff, g1, g2, g3, k2, k0, ez, g4, g5, g6, same_r, rsT, Int.reduceEq, Int.reduceNeg, Int.reduceLT, Int.reduceLE, nsv, rgv, wag, QW, Try.results11])))
    all_goals try (exfalso; omega)
    refine callVC (h32) (by (simp -dsimp only [↓RP, RQ, Nat.reduceMul, reduceIte, reduceCtorEq, Nat.reduceAdd, Nat.reduceEqDiff, Nat.reduceLT, Nat.reduceLeDiff, QV, rsv, ints, I, B, wag]); all_goals (try simp [QV, Go.Sx.Sub, Go.Sx.SubL, wf_sub])) (by (simp -dsimp only [↓RP, RQ, Nat.reduceMul, reduceIte, reduceCtorEq, Nat.reduceAdd, Nat.reduceEqDiff, Nat.reduceLT, Nat.reduceLeDiff, QV, rsT, nsv, rgv, I, B, wag]); all_goals (try simp [QV])) ?_
    (repeat' (first | with_reducible (first | apply splitVC_d <;> intro _ | apply splitVC <;> intro _) | ((with_reducible refine And.intro ?_ ?_); focus (first | exact True.intro | omega | (simp only [InK, ne_eq, and_true, true_and]; omega) | (and_intros <;> first | exact .inr trivial | exact Nat.le_refl _ | exact one1 _ | exact one5 _ _ _ _ _ | exact one3 _ _ _ | exact .inl rfl | omega) | trivial)) | (simp -dsimp only [↓RP, RQ, Nat.reduceMul, reduceIte, reduceCtorEq, Nat.reduceAdd, Nat.reduceEqDiff, Nat.reduceLT, Nat.reduceLeDiff, g1, g2, g3, k2, k0, ez, g4, g5, g6, same_r, rsT, Int.reduceEq, Int.reduceNeg, Int.reduceLT, Int.reduceLE, nsv, rgv, wag, QW, Try.results11])))
    all_goals try (exfalso; omega)
    refine callVC (h36) (by (simp -dsimp only [↓RP, RQ, Nat.reduceMul, reduceIte, reduceCtorEq, Nat.reduceAdd, Nat.reduceEqDiff, Nat.reduceLT, Nat.reduceLeDiff, QV, rsv, ints, I, B, wag]); all_goals (try simp [QV, Go.Sx.Sub, Go.Sx.SubL, wf_sub])) (by (simp -dsimp only [↓RP, RQ, Nat.reduceMul, reduceIte, reduceCtorEq, Nat.reduceAdd, Nat.reduceEqDiff, Nat.reduceLT, Nat.reduceLeDiff, QV, rsT, nsv, rgv, I, B, wag]); all_goals (try simp [QV])) ?_
    (repeat' (first | with_reducible (first | apply splitVC_d <;> intro _ | apply splitVC <;> intro _) | ((with_reducible refine And.intro ?_ ?_); focus (first | exact True.intro | omega | (simp only [InK, ne_eq, and_true, true_and]; omega) | (and_intros <;> first | exact .inr trivial | exact Nat.le_refl _ | exact one1 _ | exact one5 _ _ _ _ _ | exact one3 _ _ _ | exact .inl rfl | omega) | trivial)) | (simp -dsimp only [↓RP, RQ, Nat.reduceMul, reduceIte, reduceCtorEq, Nat.reduceAdd, Nat.reduceEqDiff, Nat.reduceLT, Nat.reduceLeDiff, g1, g2, g3, k2, k0, ez, g4, g5, g6, same_r, rsT, Int.reduceEq, Int.reduceNeg, Int.reduceLT, Int.reduceLE, nsv, rgv, wag, QW, Try.results11])))
    all_goals try (exfalso; omega)
    refine callVC (q43) (by (simp -dsimp only [↓RP, RQ, Nat.reduceMul, reduceIte, reduceCtorEq, Nat.reduceAdd, Nat.reduceEqDiff, Nat.reduceLT, Nat.reduceLeDiff, QV, rsv, ints, I, B, wag]); all_goals (try simp [QV, Go.Sx.Sub, Go.Sx.SubL, wf_sub])) (by (simp -dsimp only [↓RP, RQ, Nat.reduceMul, reduceIte, reduceCtorEq, Nat.reduceAdd, Nat.reduceEqDiff, Nat.reduceLT, Nat.reduceLeDiff, QV, rsT, nsv, rgv, I, B, wag]); all_goals (try simp [QV])) ?_
    (repeat' (first | with_reducible (first | apply splitVC_d <;> intro _ | apply splitVC <;> intro _) | ((with_reducible refine And.intro ?_ ?_); focus (first | exact True.intro | omega | (simp only [InK, ne_eq, and_true, true_and]; omega) | (and_intros <;> first | exact .inr trivial | exact Nat.le_refl _ | exact one1 _ | exact one5 _ _ _ _ _ | exact one3 _ _ _ | exact .inl rfl | omega) | trivial)) | (simp -dsimp only [↓RP, RQ, Nat.reduceMul, reduceIte, reduceCtorEq, Nat.reduceAdd, Nat.reduceEqDiff, Nat.reduceLT, Nat.reduceLeDiff, g1, g2, g3, k2, k0, ez, g4, g5, g6, same_r, rsT, Int.reduceEq, Int.reduceNeg, Int.reduceLT, Int.reduceLE, nsv, rgv, wag, QW, Try.results11])))
    all_goals try (exfalso; omega)
    refine callVC (h22) (by (simp -dsimp only [↓RP, RQ, Nat.reduceMul, reduceIte, reduceCtorEq, Nat.reduceAdd, Nat.reduceEqDiff, Nat.reduceLT, Nat.reduceLeDiff, QV, rsv, ints, I, B, wag]); all_goals (try simp [QV, Go.Sx.Sub, Go.Sx.SubL, wf_sub])) (by (simp -dsimp only [↓RP, RQ, Nat.reduceMul, reduceIte, reduceCtorEq, Nat.reduceAdd, Nat.reduceEqDiff, Nat.reduceLT, Nat.reduceLeDiff, QV, rsT, nsv, rgv, I, B, wag]); all_goals (try simp [QV])) ?_
    (repeat' (first | with_reducible (first | apply splitVC_d <;> intro _ | apply splitVC <;> intro _) | ((with_reducible refine And.intro ?_ ?_); focus (first | exact True.intro | omega | (simp only [InK, ne_eq, and_true, true_and]; omega) | (and_intros <;> first | exact .inr trivial | exact Nat.le_refl _ | exact one1 _ | exact one5 _ _ _ _ _ | exact one3 _ _ _ | exact .inl rfl | omega) | trivial)) | (simp -dsimp only [↓RP, RQ, Nat.reduceMul, reduceIte, reduceCtorEq, Nat.reduceAdd, Nat.reduceEqDiff, Nat.reduceLT, Nat.reduceLeDiff, g1, g2, g3, k2, k0, ez, g4, g5, g6, same_r, rsT, Int.reduceEq, Int.reduceNeg, Int.reduceLT, Int.reduceLE, nsv, rgv, wag, QW, Try.results11])))
    all_goals try (exfalso; omega)
    refine callVC (c18) (by (simp -dsimp only [↓RP, RQ, Nat.reduceMul, reduceIte, reduceCtorEq, Nat.reduceAdd, Nat.reduceEqDiff, Nat.reduceLT, Nat.reduceLeDiff, QV, rsv, ints, I, B, wag]); all_goals (try simp [QV, Go.Sx.Sub, Go.Sx.SubL, wf_sub])) (by (simp -dsimp only [↓RP, RQ, Nat.reduceMul, reduceIte, reduceCtorEq, Nat.reduceAdd, Nat.reduceEqDiff, Nat.reduceLT, Nat.reduceLeDiff, QV, rsT, nsv, rgv, I, B, wag]); all_goals (try simp [QV])) ?_
    (repeat' (first | with_reducible (first | apply splitVC_d <;> intro _ | apply splitVC <;> intro _) | ((with_reducible refine And.intro ?_ ?_); focus (first | exact True.intro | omega | (simp only [InK, ne_eq, and_true, true_and]; omega) | (and_intros <;> first | exact .inr trivial | exact Nat.le_refl _ | exact one1 _ | exact one5 _ _ _ _ _ | exact one3 _ _ _ | exact .inl rfl | omega) | trivial)) | (simp -dsimp only [↓RP, RQ, Nat.reduceMul, reduceIte, reduceCtorEq, Nat.reduceAdd, Nat.reduceEqDiff, Nat.reduceLT, Nat.reduceLeDiff, g1, g2, g3, k2, k0, ez, g4, g5, g6, same_r, rsT, Int.reduceEq, Int.reduceNeg, Int.reduceLT, Int.reduceLE, nsv, rgv, wag, QW, Try.results11])))
    all_goals try (exfalso; omega)
  ·rw [if_neg hag] at h22
   by_cases hk : kW = 2
   ·obtain ⟨l1, l2⟩ := kw hk
    have g6 := decide_eq_true hk
    have g7 := decide_eq_true l1
    have g8 := decide_eq_true l2
    refine callVC (h34a) (by (simp -dsimp only [↓RP, RQ, Nat.reduceMul, reduceIte, reduceCtorEq, Nat.reduceAdd, Nat.reduceEqDiff, Nat.reduceLT, Nat.reduceLeDiff, QV, rsv, ints, I, B, wag]); all_goals (try simp [QV, Go.Sx.Sub, Go.Sx.SubL, wf_sub])) (by (simp -dsimp only [↓RP, RQ, Nat.reduceMul, reduceIte, reduceCtorEq, Nat.reduceAdd, Nat.reduceEqDiff, Nat.reduceLT, Nat.reduceLeDiff, QV, rsT, nsv, rgv, I, B, wag]); all_goals (try simp [QV])) ?_
    (repeat' (first | with_reducible (first | apply splitVC_d <;> intro _ | apply splitVC <;> intro _) | ((with_reducible refine And.intro ?_ ?_); focus (first | exact True.intro | omega | (simp only [InK, ne_eq, and_true, true_and]; omega) | (and_intros <;> first | exact .inr trivial | exact Nat.le_refl _ | exact one1 _ | exact one5 _ _ _ _ _ | exact one3 _ _ _ | exact .inl rfl | omega) | trivial)) | (simp -dsimp only [↓RP, RQ, Nat.reduceMul, reduceIte, reduceCtorEq, Nat.reduceAdd, Nat.reduceEqDiff, Nat.reduceLT, Nat.reduceLeDiff, g1, g2, g3, k2, k0, ez, g6, g7, g8, same_r, rsT, Int.reduceEq, Int.reduceNeg, Int.reduceLT, Int.reduceLE, nsv, rgv, wag, QW, Try.results11])))
    all_goals try (exfalso; omega)
    refine callVC (h34b) (by (simp -dsimp only [↓RP, RQ, Nat.reduceMul, reduceIte, reduceCtorEq, Nat.reduceAdd, Nat.reduceEqDiff, Nat.reduceLT, Nat.reduceLeDiff, QV, rsv, ints, I, B, wag]); all_goals (try simp [QV, Go.Sx.Sub, Go.Sx.SubL, wf_sub])) (by (simp -dsimp only [↓RP, RQ, Nat.reduceMul, reduceIte, reduceCtorEq, Nat.reduceAdd, Nat.reduceEqDiff, Nat.reduceLT, Nat.reduceLeDiff, QV, rsT, nsv, rgv, I, B, wag]); all_goals (try simp [QV])) ?_
    (repeat' (first | with_reducible (first | apply splitVC_d <;> intro _ | apply splitVC <;> intro _) | ((with_reducible refine And.intro ?_ ?_); focus (first | exact True.intro | omega | (simp only [InK, ne_eq, and_true, true_and]; omega) | (and_intros <;> first | exact .inr trivial | exact Nat.le_refl _ | exact one1 _ | exact one5 _ _ _ _ _ | exact one3 _ _ _ | exact .inl rfl | omega) | trivial)) | (simp -dsimp only [↓RP, RQ, Nat.reduceMul, reduceIte, reduceCtorEq, Nat.reduceAdd, Nat.reduceEqDiff, Nat.reduceLT, Nat.reduceLeDiff, g1, g2, g3, k2, k0, ez, g6, g7, g8, same_r, rsT, Int.reduceEq, Int.reduceNeg, Int.reduceLT, Int.reduceLE, nsv, rgv, wag, QW, Try.results11])))
    all_goals try (exfalso; omega)
    refine callVC (h32) (by (simp -dsimp only [↓RP, RQ, Nat.reduceMul, reduceIte, reduceCtorEq, Nat.reduceAdd, Nat.reduceEqDiff, Nat.reduceLT, Nat.reduceLeDiff, QV, rsv, ints, I, B, wag]); all_goals (try simp [QV, Go.Sx.Sub, Go.Sx.SubL, wf_sub])) (by (simp -dsimp only [↓RP, RQ, Nat.reduceMul, reduceIte, reduceCtorEq, Nat.reduceAdd, Nat.reduceEqDiff, Nat.reduceLT, Nat.reduceLeDiff, QV, rsT, nsv, rgv, I, B, wag]); all_goals (try simp [QV])) ?_
    (repeat' (first | with_reducible (first | apply splitVC_d <;> intro _ | apply splitVC <;> intro _) | ((with_reducible refine And.intro ?_ ?_); focus (first | exact True.intro | omega | (simp only [InK, ne_eq, and_true, true_and]; omega) | (and_intros <;> first | exact .inr trivial | exact Nat.le_refl _ | exact one1 _ | exact one5 _ _ _ _ _ | exact one3 _ _ _ | exact .inl rfl | omega) | trivial)) | (simp -dsimp only [↓RP, RQ, Nat.reduceMul, reduceIte, reduceCtorEq, Nat.reduceAdd, Nat.reduceEqDiff, Nat.reduceLT, Nat.reduceLeDiff, g1, g2, g3, k2, k0, ez, g6, g7, g8, same_r, rsT, Int.reduceEq, Int.reduceNeg, Int.reduceLT, Int.reduceLE, nsv, rgv, wag, QW, Try.results11])))
    all_goals try (exfalso; omega)
    refine callVC (h36) (by (simp -dsimp only [↓RP, RQ, Nat.reduceMul, reduceIte, reduceCtorEq, Nat.reduceAdd, Nat.reduceEqDiff, Nat.reduceLT, Nat.reduceLeDiff, QV, rsv, ints, I, B, wag]); all_goals (try simp [QV, Go.Sx.Sub, Go.Sx.SubL, wf_sub])) (by (simp -dsimp only [↓RP, RQ, Nat.reduceMul, reduceIte, reduceCtorEq, Nat.reduceAdd, Nat.reduceEqDiff, Nat.reduceLT, Nat.reduceLeDiff, QV, rsT, nsv, rgv, I, B, wag]); all_goals (try simp [QV])) ?_
    (repeat' (first | with_reducible (first | apply splitVC_d <;> intro _ | apply splitVC <;> intro _) | ((with_reducible refine And.intro ?_ ?_); focus (first | exact True.intro | omega | (simp only [InK, ne_eq, and_true, true_and]; omega) | (and_intros <;> first | exact .inr trivial | exact Nat.le_refl _ | exact one1 _ | exact one5 _ _ _ _ _ | exact one3 _ _ _ | exact .inl rfl | omega) | trivial)) | (simp -dsimp only [↓RP, RQ, Nat.reduceMul, reduceIte, reduceCtorEq, Nat.reduceAdd, Nat.reduceEqDiff, Nat.reduceLT, Nat.reduceLeDiff, g1, g2, g3, k2, k0, ez, g6, g7, g8, same_r, rsT, Int.reduceEq, Int.reduceNeg, Int.reduceLT, Int.reduceLE, nsv, rgv, wag, QW, Try.results11])))
    all_goals try (exfalso; omega)
    refine callVC (q43) (by (simp -dsimp only [↓RP, RQ, Nat.reduceMul, reduceIte, reduceCtorEq, Nat.reduceAdd, Nat.reduceEqDiff, Nat.reduceLT, Nat.reduceLeDiff, QV, rsv, ints, I, B, wag]); all_goals (try simp [QV, Go.Sx.Sub, Go.Sx.SubL, wf_sub])) (by (simp -dsimp only [↓RP, RQ, Nat.reduceMul, reduceIte, reduceCtorEq, Nat.reduceAdd, Nat.reduceEqDiff, Nat.reduceLT, Nat.reduceLeDiff, QV, rsT, nsv, rgv, I, B, wag]); all_goals (try simp [QV])) ?_
    (repeat' (first | with_reducible (first | apply splitVC_d <;> intro _ | apply splitVC <;> intro _) | ((with_reducible refine And.intro ?_ ?_); focus (first | exact True.intro | omega | (simp only [InK, ne_eq, and_true, true_and]; omega) | (and_intros <;> first | exact .inr trivial | exact Nat.le_refl _ | exact one1 _ | exact one5 _ _ _ _ _ | exact one3 _ _ _ | exact .inl rfl | omega) | trivial)) | (simp -dsimp only [↓RP, RQ, Nat.reduceMul, reduceIte, reduceCtorEq, Nat.reduceAdd, Nat.reduceEqDiff, Nat.reduceLT, Nat.reduceLeDiff, g1, g2, g3, k2, k0, ez, g6, g7, g8, same_r, rsT, Int.reduceEq, Int.reduceNeg, Int.reduceLT, Int.reduceLE, nsv, rgv, wag, QW, Try.results11])))
    all_goals try (exfalso; omega)
    refine callVC (h22) (by (simp -dsimp only [↓RP, RQ, Nat.reduceMul, reduceIte, reduceCtorEq, Nat.reduceAdd, Nat.reduceEqDiff, Nat.reduceLT, Nat.reduceLeDiff, QV, rsv, ints, I, B, wag]); all_goals (try simp [QV, Go.Sx.Sub, Go.Sx.SubL, wf_sub])) (by (simp -dsimp only [↓RP, RQ, Nat.reduceMul, reduceIte, reduceCtorEq, Nat.reduceAdd, Nat.reduceEqDiff, Nat.reduceLT, Nat.reduceLeDiff, QV, rsT, nsv, rgv, I, B, wag]); all_goals (try simp [QV])) ?_
    (repeat' (first | with_reducible (first | apply splitVC_d <;> intro _ | apply splitVC <;> intro _) | ((with_reducible refine And.intro ?_ ?_); focus (first | exact True.intro | omega | (simp only [InK, ne_eq, and_true, true_and]; omega) | (and_intros <;> first | exact .inr trivial | exact Nat.le_refl _ | exact one1 _ | exact one5 _ _ _ _ _ | exact one3 _ _ _ | exact .inl rfl | omega) | trivial)) | (simp -dsimp only [↓RP, RQ, Nat.reduceMul, reduceIte, reduceCtorEq, Nat.reduceAdd, Nat.reduceEqDiff, Nat.reduceLT, Nat.reduceLeDiff, g1, g2, g3, k2, k0, ez, g6, g7, g8, same_r, rsT, Int.reduceEq, Int.reduceNeg, Int.reduceLT, Int.reduceLE, nsv, rgv, wag, QW, Try.results11])))
    all_goals try (exfalso; omega)
    refine callVC (c18) (by (simp -dsimp only [↓RP, RQ, Nat.reduceMul, reduceIte, reduceCtorEq, Nat.reduceAdd, Nat.reduceEqDiff, Nat.reduceLT, Nat.reduceLeDiff, QV, rsv, ints, I, B, wag]); all_goals (try simp [QV, Go.Sx.Sub, Go.Sx.SubL, wf_sub])) (by (simp -dsimp only [↓RP, RQ, Nat.reduceMul, reduceIte, reduceCtorEq, Nat.reduceAdd, Nat.reduceEqDiff, Nat.reduceLT, Nat.reduceLeDiff, QV, rsT, nsv, rgv, I, B, wag]); all_goals (try simp [QV])) ?_
    (repeat' (first | with_reducible (first | apply splitVC_d <;> intro _ | apply splitVC <;> intro _) | ((with_reducible refine And.intro ?_ ?_); focus (first | exact True.intro | omega | (simp only [InK, ne_eq, and_true, true_and]; omega) | (and_intros <;> first | exact .inr trivial | exact Nat.le_refl _ | exact one1 _ | exact one5 _ _ _ _ _ | exact one3 _ _ _ | exact .inl rfl | omega) | trivial)) | (simp -dsimp only [↓RP, RQ, Nat.reduceMul, reduceIte, reduceCtorEq, Nat.reduceAdd, Nat.reduceEqDiff, Nat.reduceLT, Nat.reduceLeDiff, g1, g2, g3, k2, k0, ez, g6, g7, g8, same_r, rsT, Int.reduceEq, Int.reduceNeg, Int.reduceLT, Int.reduceLE, nsv, rgv, wag, QW, Try.results11])))
    all_goals try (exfalso; omega)
   ·have g6 := decide_eq_false hk
    refine callVC (h34a) (by (simp -dsimp only [↓RP, RQ, Nat.reduceMul, reduceIte, reduceCtorEq, Nat.reduceAdd, Nat.reduceEqDiff, Nat.reduceLT, Nat.reduceLeDiff, QV, rsv, ints, I, B, wag]); all_goals (try simp [QV, Go.Sx.Sub, Go.Sx.SubL, wf_sub])) (by (simp -dsimp only [↓RP, RQ, Nat.reduceMul, reduceIte, reduceCtorEq, Nat.reduceAdd, Nat.reduceEqDiff, Nat.reduceLT, Nat.reduceLeDiff, QV, rsT, nsv, rgv, I, B, wag]); all_goals (try simp [QV])) ?_
    (repeat' (first | with_reducible (first | apply splitVC_d <;> intro _ | apply splitVC <;> intro _) | ((with_reducible refine And.intro ?_ ?_); focus (first | exact True.intro | omega | (simp only [InK, ne_eq, and_true, true_and]; omega) | (and_intros <;> first | exact .inr trivial | exact Nat.le_refl _ | exact one1 _ | exact one5 _ _ _ _ _ | exact one3 _ _ _ | exact .inl rfl | omega) | trivial)) | (simp -dsimp only [↓RP, RQ, Nat.reduceMul, reduceIte, reduceCtorEq, Nat.reduceAdd, Nat.reduceEqDiff, Nat.reduceLT, Nat.reduceLeDiff, g1, g2, g3, k2, k0, ez, g6, same_r, rsT, Int.reduceEq, Int.reduceNeg, Int.reduceLT, Int.reduceLE, nsv, rgv, wag, QW, Try.results11])))
    all_goals try (exfalso; omega)
    refine callVC (h34b) (by (simp -dsimp only [↓RP, RQ, Nat.reduceMul, reduceIte, reduceCtorEq, Nat.reduceAdd, Nat.reduceEqDiff, Nat.reduceLT, Nat.reduceLeDiff, QV, rsv, ints, I, B, wag]); all_goals (try simp [QV, Go.Sx.Sub, Go.Sx.SubL, wf_sub])) (by (simp -dsimp only [↓RP, RQ, Nat.reduceMul, reduceIte, reduceCtorEq, Nat.reduceAdd, Nat.reduceEqDiff, Nat.reduceLT, Nat.reduceLeDiff, QV, rsT, nsv, rgv, I, B, wag]); all_goals (try simp [QV])) ?_
    (repeat' (first | with_reducible (first | apply splitVC_d <;> intro _ | apply splitVC <;> intro _) | ((with_reducible refine And.intro ?_ ?_); focus (first | exact True.intro | omega | (simp only [InK, ne_eq, and_true, true_and]; omega) | (and_intros <;> first | exact .inr trivial | exact Nat.le_refl _ | exact one1 _ | exact one5 _ _ _ _ _ | exact one3 _ _ _ | exact .inl rfl | omega) | trivial)) | (simp -dsimp only [↓RP, RQ, Nat.reduceMul, reduceIte, reduceCtorEq, Nat.reduceAdd, Nat.reduceEqDiff, Nat.reduceLT, Nat.reduceLeDiff, g1, g2, g3, k2, k0, ez, g6, same_r, rsT, Int.reduceEq, Int.reduceNeg, Int.reduceLT, Int.reduceLE, nsv, rgv, wag, QW, Try.results11])))
    all_goals try (exfalso; omega)
    refine callVC (h32) (by (simp -dsimp only [↓RP, RQ, Nat.reduceMul, reduceIte, reduceCtorEq, Nat.reduceAdd, Nat.reduceEqDiff, Nat.reduceLT, Nat.reduceLeDiff, QV, rsv, ints, I, B, wag]); all_goals (try simp [QV, Go.Sx.Sub, Go.Sx.SubL, wf_sub])) (by (simp -dsimp only [↓RP, RQ, Nat.reduceMul, reduceIte, reduceCtorEq, Nat.reduceAdd, Nat.reduceEqDiff, Nat.reduceLT, Nat.reduceLeDiff, QV, rsT, nsv, rgv, I, B, wag]); all_goals (try simp [QV])) ?_
    (repeat' (first | with_reducible (first | apply splitVC_d <;> intro _ | apply splitVC <;> intro _) | ((with_reducible refine And.intro ?_ ?_); focus (first | exact True.intro | omega | (simp only [InK, ne_eq, and_true, true_and]; omega) | (and_intros <;> first | exact .inr trivial | exact Nat.le_refl _ | exact one1 _ | exact one5 _ _ _ _ _ | exact one3 _ _ _ | exact .inl rfl | omega) | trivial)) | (simp -dsimp only [↓RP, RQ, Nat.reduceMul, reduceIte, reduceCtorEq, Nat.reduceAdd, Nat.reduceEqDiff, Nat.reduceLT, Nat.reduceLeDiff, g1, g2, g3, k2, k0, ez, g6, same_r, rsT, Int.reduceEq, Int.reduceNeg, Int.reduceLT, Int.reduceLE, nsv, rgv, wag, QW, Try.results11])))
    all_goals try (exfalso; omega)
    refine callVC (h36) (by (simp -dsimp only [↓RP, RQ, Nat.reduceMul, reduceIte, reduceCtorEq, Nat.reduceAdd, Nat.reduceEqDiff, Nat.reduceLT, Nat.reduceLeDiff, QV, rsv, ints, I, B, wag]); all_goals (try simp [QV, Go.Sx.Sub, Go.Sx.SubL, wf_sub])) (by (simp -dsimp only [↓RP, RQ, Nat.reduceMul, reduceIte, reduceCtorEq, Nat.reduceAdd, Nat.reduceEqDiff, Nat.reduceLT, Nat.reduceLeDiff, QV, rsT, nsv, rgv, I, B, wag]); all_goals (try simp [QV])) ?_
    (repeat' (first | with_reducible (first | apply splitVC_d <;> intro _ | apply splitVC <;> intro _) | ((with_reducible refine And.intro ?_ ?_); focus (first | exact True.intro | omega | (simp only [InK, ne_eq, and_true, true_and]; omega) | (and_intros <;> first | exact .inr trivial | exact Nat.le_refl _ | exact one1 _ | exact one5 _ _ _ _ _ | exact one3 _ _ _ | exact .inl rfl | omega) | trivial)) | (simp -dsimp only [↓RP, RQ, Nat.reduceMul, reduceIte, reduceCtorEq, Nat.reduceAdd, Nat.reduceEqDiff, Nat.reduceLT, Nat.reduceLeDiff, g1, g2, g3, k2, k0, ez, g6, same_r, rsT, Int.reduceEq, Int.reduceNeg, Int.reduceLT, Int.reduceLE, nsv, rgv, wag, QW, Try.results11])))
    all_goals try (exfalso; omega)
    refine callVC (q43) (by (simp -dsimp only [↓RP, RQ, Nat.reduceMul, reduceIte, reduceCtorEq, Nat.reduceAdd, Nat.reduceEqDiff, Nat.reduceLT, Nat.reduceLeDiff, QV, rsv, ints, I, B, wag]); all_goals (try simp [QV, Go.Sx.Sub, Go.Sx.SubL, wf_sub])) (by (simp -dsimp only [↓RP, RQ, Nat.reduceMul, reduceIte, reduceCtorEq, Nat.reduceAdd, Nat.reduceEqDiff, Nat.reduceLT, Nat.reduceLeDiff, QV, rsT, nsv, rgv, I, B, wag]); all_goals (try simp [QV])) ?_
    (repeat' (first | with_reducible (first | apply splitVC_d <;> intro _ | apply splitVC <;> intro _) | ((with_reducible refine And.intro ?_ ?_); focus (first | exact True.intro | omega | (simp only [InK, ne_eq, and_true, true_and]; omega) | (and_intros <;> first | exact .inr trivial | exact Nat.le_refl _ | exact one1 _ | exact one5 _ _ _ _ _ | exact one3 _ _ _ | exact .inl rfl | omega) | trivial)) | (simp -dsimp only [↓RP, RQ, Nat.reduceMul, reduceIte, reduceCtorEq, Nat.reduceAdd, Nat.reduceEqDiff, Nat.reduceLT, Nat.reduceLeDiff, g1, g2, g3, k2, k0, ez, g6, same_r, rsT, Int.reduceEq, Int.reduceNeg, Int.reduceLT, Int.reduceLE, nsv, rgv, wag, QW, Try.results11])))
    all_goals try (exfalso; omega)
    refine callVC (h22) (by (simp -dsimp only [↓RP, RQ, Nat.reduceMul, reduceIte, reduceCtorEq, Nat.reduceAdd, Nat.reduceEqDiff, Nat.reduceLT, Nat.reduceLeDiff, QV, rsv, ints, I, B, wag]); all_goals (try simp [QV, Go.Sx.Sub, Go.Sx.SubL, wf_sub])) (by (simp -dsimp only [↓RP, RQ, Nat.reduceMul, reduceIte, reduceCtorEq, Nat.reduceAdd, Nat.reduceEqDiff, Nat.reduceLT, Nat.reduceLeDiff, QV, rsT, nsv, rgv, I, B, wag]); all_goals (try simp [QV])) ?_
    (repeat' (first | with_reducible (first | apply splitVC_d <;> intro _ | apply splitVC <;> intro _) | ((with_reducible refine And.intro ?_ ?_); focus (first | exact True.intro | omega | (simp only [InK, ne_eq, and_true, true_and]; omega) | (and_intros <;> first | exact .inr trivial | exact Nat.le_refl _ | exact one1 _ | exact one5 _ _ _ _ _ | exact one3 _ _ _ | exact .inl rfl | omega) | trivial)) | (simp -dsimp only [↓RP, RQ, Nat.reduceMul, reduceIte, reduceCtorEq, Nat.reduceAdd, Nat.reduceEqDiff, Nat.reduceLT, Nat.reduceLeDiff, g1, g2, g3, k2, k0, ez, g6, same_r, rsT, Int.reduceEq, Int.reduceNeg, Int.reduceLT, Int.reduceLE, nsv, rgv, wag, QW, Try.results11])))
    all_goals try (exfalso; omega)
    refine callVC (c18) (by (simp -dsimp only [↓RP, RQ, Nat.reduceMul, reduceIte, reduceCtorEq, Nat.reduceAdd, Nat.reduceEqDiff, Nat.reduceLT, Nat.reduceLeDiff, QV, rsv, ints, I, B, wag]); all_goals (try simp [QV, Go.Sx.Sub, Go.Sx.SubL, wf_sub])) (by (simp -dsimp only [↓RP, RQ, Nat.reduceMul, reduceIte, reduceCtorEq, Nat.reduceAdd, Nat.reduceEqDiff, Nat.reduceLT, Nat.reduceLeDiff, QV, rsT, nsv, rgv, I, B, wag]); all_goals (try simp [QV])) ?_
    (repeat' (first | with_reducible (first | apply splitVC_d <;> intro _ | apply splitVC <;> intro _) | ((with_reducible refine And.intro ?_ ?_); focus (first | exact True.intro | omega | (simp only [InK, ne_eq, and_true, true_and]; omega) | (and_intros <;> first | exact .inr trivial | exact Nat.le_refl _ | exact one1 _ | exact one5 _ _ _ _ _ | exact one3 _ _ _ | exact .inl rfl | omega) | trivial)) | (simp -dsimp only [↓RP, RQ, Nat.reduceMul, reduceIte, reduceCtorEq, Nat.reduceAdd, Nat.reduceEqDiff, Nat.reduceLT, Nat.reduceLeDiff, g1, g2, g3, k2, k0, ez, g6, same_r, rsT, Int.reduceEq, Int.reduceNeg, Int.reduceLT, Int.reduceLE, nsv, rgv, wag, QW, Try.results11])))
    all_goals try (exfalso; omega)
end Go.He
end
