/- A part of the proof. -/
import Derived.Test.YtpdebflfimmnpaaHK
section
set_option linter.unusedSimpArgs false
set_option linter.unusedVariables false
set_option linter.defProp false
set_option maxRecDepth 100000
set_option maxHeartbeats 16000000
namespace Go.He
open Go.Proofs
open Go.Sx
theorem same_r (a : Nat) (u : Nat → Int) : decide (sameI a u a u) = true := decide_eq_true ⟨rfl, fun _ _ => rfl⟩
theorem nle20 {m : Nat} (h : ¬ 20 < m) : m ≤ 1000000 := by omega
end Go.He
end
section
set_option linter.unusedSimpArgs false
set_option linter.unusedVariables false
set_option linter.defProp false
set_option maxRecDepth 100000
set_option maxHeartbeats 16000000
namespace Go.He
open Go.Proofs
open Go.Sx
theorem c42 (N : Int) (m : Nat) (w : Nat → Wd) : Contract Try.prog 42 [rsv N m w] (B (decide (ckR N m w = 0))) := by
 refine contract_of Try.func42 rfl (by kernel_rfl) follows (by kernel_rfl) _ _ (by rw [Try.ntmps42]; simp) (by simp [OldL, Old, QV, rsv]) ?_
 unfold rsv B
 (repeat' (first | with_reducible (first | apply splitVC_d <;> intro _ | apply splitVC <;> intro _) | ((with_reducible refine And.intro ?_ ?_); focus (first | exact True.intro | omega | (simp only [InK, ne_eq, and_true, true_and]; omega) | (and_intros <;> first | exact .inr trivial | exact Nat.le_refl _ | exact one1 _ | exact one5 _ _ _ _ _ | exact one3 _ _ _ | exact .inl rfl | omega) | trivial)) | (simp -dsimp only [↓RP, RQ, Nat.reduceMul, reduceIte, reduceCtorEq, Nat.reduceAdd, Nat.reduceEqDiff, Nat.reduceLT, Nat.reduceLeDiff, Int.reduceEq, Int.reduceNeg, Int.reduceLT, Int.reduceLE, rsT, QW, Try.results42])))
 refine callVC (c17 N m w) (by (simp -dsimp only [↓RP, RQ, Nat.reduceMul, reduceIte, reduceCtorEq, Nat.reduceAdd, Nat.reduceEqDiff, Nat.reduceLT, Nat.reduceLeDiff, QV, rsv, ints, I, B, wag]); all_goals (try simp [QV, Go.Sx.Sub, Go.Sx.SubL, wf_sub])) (by (simp -dsimp only [↓RP, RQ, Nat.reduceMul, reduceIte, reduceCtorEq, Nat.reduceAdd, Nat.reduceEqDiff, Nat.reduceLT, Nat.reduceLeDiff, QV, rsT, nsv, rgv, I, B, wag]); all_goals (try simp [QV])) ?_
 by_cases h20 : 20 < m
 ·have f0 := decide_eq_true h20
  have hn : ckR N m w ≠ 0 := fun h => by have := (ckR_ok h).2.2.1; omega
  have fe := decide_eq_false hn
  (repeat' (first | with_reducible (first | apply splitVC_d <;> intro _ | apply splitVC <;> intro _) | ((with_reducible refine And.intro ?_ ?_); focus (first | exact True.intro | omega | (simp only [InK, ne_eq, and_true, true_and]; omega) | (and_intros <;> first | exact .inr trivial | exact Nat.le_refl _ | exact one1 _ | exact one5 _ _ _ _ _ | exact one3 _ _ _ | exact .inl rfl | omega) | trivial)) | (simp -dsimp only [↓RP, RQ, Nat.reduceMul, reduceIte, reduceCtorEq, Nat.reduceAdd, Nat.reduceEqDiff, Nat.reduceLT, Nat.reduceLeDiff, f0, fe, Int.reduceEq, Int.reduceNeg, Int.reduceLT, Int.reduceLE, rsT, QW, Try.results42])))
  all_goals try (exfalso; omega)
 ·have f0 := decide_eq_false h20
  (repeat' (first | with_reducible (first | apply splitVC_d <;> intro _ | apply splitVC <;> intro _) | ((with_reducible refine And.intro ?_ ?_); focus (first | exact True.intro | omega | (simp only [InK, ne_eq, and_true, true_and]; omega) | (and_intros <;> first | exact .inr trivial | exact Nat.le_refl _ | exact one1 _ | exact one5 _ _ _ _ _ | exact one3 _ _ _ | exact .inl rfl | omega) | trivial)) | (simp -dsimp only [↓RP, RQ, Nat.reduceMul, reduceIte, reduceCtorEq, Nat.reduceAdd, Nat.reduceEqDiff, Nat.reduceLT, Nat.reduceLeDiff, f0, Int.reduceEq, Int.reduceNeg, Int.reduceLT, Int.reduceLE, rsT, QW, Try.results42])))
  all_goals try (exfalso; omega)
  refine callVC (c20 N m w (nle20 h20)) (by (simp -dsimp only [↓RP, RQ, Nat.reduceMul, reduceIte, reduceCtorEq, Nat.reduceAdd, Nat.reduceEqDiff, Nat.reduceLT, Nat.reduceLeDiff, QV, rsv, ints, I, B, wag]); all_goals (try simp [QV, Go.Sx.Sub, Go.Sx.SubL, wf_sub])) (by (simp -dsimp only [↓RP, RQ, Nat.reduceMul, reduceIte, reduceCtorEq, Nat.reduceAdd, Nat.reduceEqDiff, Nat.reduceLT, Nat.reduceLeDiff, QV, rsT, nsv, rgv, I, B, wag]); all_goals (try simp [QV])) ?_
  (repeat' (first | with_reducible (first | apply splitVC_d <;> intro _ | apply splitVC <;> intro _) | ((with_reducible refine And.intro ?_ ?_); focus (first | exact True.intro | omega | (simp only [InK, ne_eq, and_true, true_and]; omega) | (and_intros <;> first | exact .inr trivial | exact Nat.le_refl _ | exact one1 _ | exact one5 _ _ _ _ _ | exact one3 _ _ _ | exact .inl rfl | omega) | trivial)) | (simp -dsimp only [↓RP, RQ, Nat.reduceMul, reduceIte, reduceCtorEq, Nat.reduceAdd, Nat.reduceEqDiff, Nat.reduceLT, Nat.reduceLeDiff, f0, Int.reduceEq, Int.reduceNeg, Int.reduceLT, Int.reduceLE, rsT, QW, Try.results42])))
  all_goals try (exfalso; omega)
def pkW (n : Nat) (x y z : Int) : Wd := ⟨(x.toNat % n : Nat), ((x.toNat % n + 1 + y.toNat % (n - 1)) % n : Nat), (z.toNat % 3 : Nat)⟩
theorem tm {x : Int} (h : 0 ≤ x) (n : Nat) : x.tmod (n : Int) = ((x.toNat % n : Nat) : Int) := by
 obtain ⟨k, rfl⟩ : ∃ k : Nat, x = k := ⟨x.toNat, by omega⟩
 rw [Int.toNat_natCast, Int.tmod_eq_emod_of_nonneg (by omega)]; rfl
theorem pkW_ok {n : Nat} (h2 : 2 ≤ n) (x y z : Int) : okW n (pkW n x y z) := by
 have h1 := Nat.mod_lt x.toNat (show 0 < n by omega)
 have h3 := Nat.mod_lt y.toNat (show 0 < n - 1 by omega)
 have h4 := Nat.mod_lt (x.toNat % n + 1 + y.toNat % (n - 1)) (show 0 < n by omega)
 have h5 := Nat.mod_lt z.toNat (show 0 < 3 by omega)
 have key : ∀ a d : Nat, a < n → 1 ≤ d → d < n → (a + d) % n ≠ a := fun a d ha h1 hd => by
  by_cases c : a + d < n
  ·rw [Nat.mod_eq_of_lt c]; omega
  ·rw [Nat.mod_eq_sub_mod (by omega), Nat.mod_eq_of_lt (by omega)]; omega
 have hk := key _ (1 + y.toNat % (n - 1)) h1 (by omega) (by omega)
 rw [← Nat.add_assoc] at hk
 unfold okW pkW
 refine ⟨⟨by simp only; omega, by simp only; omega⟩, ⟨by simp only; omega, by simp only; omega⟩, ?_, by simp only; omega, by simp only; omega⟩
 simp only
 omega
theorem c44 (n : Nat) (h2 : 2 ≤ n) (h5 : n ≤ 5) (m : Nat) (w : Nat → Wd) (x y z : Int) (hx : 0 ≤ x ∧ x < 256) (hy : 0 ≤ y ∧ y < 256) (hz : 0 ≤ z ∧ z < 256) : Contract Try.prog 44 [rsv n m w, .val (.int .u8 x), .val (.int .u8 y), .val (.int .u8 z)] (wag (pkW n x y z)) := by
 refine contract_of Try.func44 rfl (by kernel_rfl) follows (by kernel_rfl) _ _ (by rw [Try.ntmps44]; simp) (by simp [OldL, Old, QV, rsv]) ?_
 have e1 : x.tmod (n : Int) = ((x.toNat % n : Nat) : Int) := tm hx.1 n
 have e2 : y.tmod ((n : Int) - 1) = ((y.toNat % (n - 1) : Nat) : Int) := by rw [show (n : Int) - 1 = ((n - 1 : Nat) : Int) by omega]; exact tm hy.1 (n - 1)
 have e3 : z.tmod 3 = ((z.toNat % 3 : Nat) : Int) := tm hz.1 3
 have e4 : (((x.toNat % n : Nat) : Int) + 1 + ((y.toNat % (n - 1) : Nat) : Int)).tmod (n : Int) = (((x.toNat % n + 1 + y.toNat % (n - 1)) % n : Nat) : Int) := by
  have := tm (x := ((x.toNat % n + 1 + y.toNat % (n - 1) : Nat) : Int)) (by omega) n
  rw [Int.toNat_natCast] at this
  rw [← this]; congr 1
 have h1 := Nat.mod_lt x.toNat (show 0 < n by omega)
 have h3 := Nat.mod_lt y.toNat (show 0 < n - 1 by omega)
 unfold rsv
 (repeat' (first | with_reducible (first | apply splitVC_d <;> intro _ | apply splitVC <;> intro _) | ((with_reducible refine And.intro ?_ ?_); focus (first | exact True.intro | omega | (simp only [InK, ne_eq, and_true, true_and]; omega) | (and_intros <;> first | exact .inr trivial | exact Nat.le_refl _ | exact one1 _ | exact one5 _ _ _ _ _ | exact one3 _ _ _ | exact .inl rfl | omega) | trivial)) | (simp -dsimp only [↓RP, RQ, Nat.reduceMul, reduceIte, reduceCtorEq, Nat.reduceAdd, Nat.reduceEqDiff, Nat.reduceLT, Nat.reduceLeDiff, e1, e2, e3, e4, Int.reduceEq, Int.reduceNeg, Int.reduceLT, Int.reduceLE, rsT, QW, Try.results44])))
 all_goals try (exfalso; omega)
 refine callVC (c46 ((x.toNat % n : Nat) : Int) ((z.toNat % 3 : Nat) : Int) (((x.toNat % n + 1 + y.toNat % (n - 1)) % n : Nat) : Int)) (by (simp -dsimp only [↓RP, RQ, Nat.reduceMul, reduceIte, reduceCtorEq, Nat.reduceAdd, Nat.reduceEqDiff, Nat.reduceLT, Nat.reduceLeDiff, QV, rsv, ints, I, B, wag]); all_goals (try simp [QV, Go.Sx.Sub, Go.Sx.SubL, wf_sub])) (by (simp -dsimp only [↓RP, RQ, Nat.reduceMul, reduceIte, reduceCtorEq, Nat.reduceAdd, Nat.reduceEqDiff, Nat.reduceLT, Nat.reduceLeDiff, QV, rsT, nsv, rgv, I, B, wag]); all_goals (try simp [QV])) ?_
 (repeat' (first | with_reducible (first | apply splitVC_d <;> intro _ | apply splitVC <;> intro _) | ((with_reducible refine And.intro ?_ ?_); focus (first | exact True.intro | omega | (simp only [InK, ne_eq, and_true, true_and]; omega) | (and_intros <;> first | exact .inr trivial | exact Nat.le_refl _ | exact one1 _ | exact one5 _ _ _ _ _ | exact one3 _ _ _ | exact .inl rfl | omega) | trivial)) | (simp -dsimp only [↓RP, RQ, Nat.reduceMul, reduceIte, reduceCtorEq, Nat.reduceAdd, Nat.reduceEqDiff, Nat.reduceLT, Nat.reduceLeDiff, wag, pkW, e1, e2, e3, e4, Int.reduceEq, Int.reduceNeg, Int.reduceLT, Int.reduceLE, rsT, QW, Try.results44])))
 all_goals try (exfalso; omega)
theorem one_wf (x : Wd) : ∀ j, oneCell (wf x j) = true
 | 0 => rfl
 | 1 => rfl
 | _ + 2 => rfl
def snW (m : Nat) (w : Nat → Wd) (x : Wd) (i : Nat) : Wd := if i < m then w i else x
theorem c45 (N : Int) (m : Nat) (w : Nat → Wd) (x : Wd) (hm : m ≤ 999999) : Contract Try.prog 45 [rsv N m w, wag x] (rsT N (m + 1) (snW m w x)) := by
 refine contract_ofF (farL [(1, [(0, 0)])]) Try.func45 rfl (by kernel_rfl) follows (by kernel_rfl) _ _ (by rw [Try.ntmps45]; simp) (by simp [OldL, Old, QV, rsv, wag]) ?_
 unfold rsv wag rsT
 (repeat' (first | with_reducible (first | apply splitVC_d <;> intro _ | apply splitVC <;> intro _) | ((with_reducible refine And.intro ?_ ?_); focus (first | exact True.intro | omega | (simp only [InK, ne_eq, and_true, true_and]; omega) | (and_intros <;> first | exact .inr trivial | exact Nat.le_refl _ | exact one1 _ | exact one5 _ _ _ _ _ | exact one3 _ _ _ | exact .inl rfl | omega) | trivial)) | (simp -dsimp only [↓RP, RQ, Nat.reduceMul, reduceIte, reduceCtorEq, Nat.reduceAdd, Nat.reduceEqDiff, Nat.reduceLT, Nat.reduceLeDiff, ↓RW, Int.reduceEq, Int.reduceNeg, Int.reduceLT, Int.reduceLE, rsT, QW, Try.results45])))
 all_goals (refine growRegion follows [(5, 7), (5, 10), (3, 7), (3, 10)] (by kernel_rfl) ?_)
 (repeat' (first | with_reducible (first | apply splitVC_d <;> intro _ | apply splitVC <;> intro _) | ((with_reducible refine And.intro ?_ ?_); focus (first | exact True.intro | omega | (simp only [InK, ne_eq, and_true, true_and]; omega) | (and_intros <;> first | exact .inr trivial | exact Nat.le_refl _ | exact one1 _ | exact one5 _ _ _ _ _ | exact one3 _ _ _ | exact .inl rfl | omega) | trivial)) | (simp -dsimp only [↓RP, RQ, Nat.reduceMul, reduceIte, reduceCtorEq, Nat.reduceAdd, Nat.reduceEqDiff, Nat.reduceLT, Nat.reduceLeDiff, ↓RW, Int.reduceEq, Int.reduceNeg, Int.reduceLT, Int.reduceLE, rsT, QW, Try.results45])))
 refine ⟨⟨.inr trivial, fun i j _ hj => one_wf (w i) j, by omega⟩, ⟨.inr trivial, Nat.le_refl _, one3 _ _ _, by omega⟩, Nat.le_refl _, fun i j hi hj => ?_⟩
 unfold snW
 by_cases h : i < m
 ·rw [if_pos h, if_pos h, if_neg (Nat.not_lt_zero i), Nat.sub_zero, wf_sub]; trivial
 ·obtain rfl : i = m := by omega
  rw [if_neg h, if_neg h, Nat.sub_self]
  rcases three hj with rfl | rfl | rfl <;> simp [wf, Go.Sx.Sub]
end Go.He
end
section
set_option linter.unusedSimpArgs false
set_option linter.unusedVariables false
set_option linter.defProp false
set_option maxRecDepth 100000
set_option maxHeartbeats 16000000
namespace Go.He
open Go.Proofs
open Go.Sx
theorem fin2 : (fins 2).length = 3 := by kernel_rfl
theorem fin3 : (fins 3).length = 13 := by kernel_rfl
theorem fin4 : (fins 4).length = 75 := by kernel_rfl
theorem fin5 : (fins 5).length = 541 := by kernel_rfl
theorem fins_541 {n : Nat} (h2 : 2 ≤ n) (h5 : n ≤ 5) : (fins n).length ≤ 541 := by
 have : n = 2 ∨ n = 3 ∨ n = 4 ∨ n = 5 := by omega
 rcases this with rfl | rfl | rfl | rfl
 ·rw [fin2]; omega
 ·rw [fin3]; omega
 ·rw [fin4]; omega
 ·rw [fin5]; omega
theorem agrs_541 {w : Nat → Wd} {m n : Nat} (h2 : 2 ≤ n) (h5 : n ≤ 5) : (agrs w m n).length ≤ 541 :=
 Nat.le_trans (lst_mono fun t _ h => by unfold okA at h; rw [Bool.and_eq_true] at h; exact h.1) (fins_541 h2 h5)
theorem ck_sn {n m : Nat} {w : Nat → Wd} {x : Wd} (h : ckR n m w = 0) (hm : m < 12) (hx : okW n x) : ckR n (m + 1) (snW m w x) = 0 := by
 have ⟨n2, n5, _, hw⟩ := ckR_ok h
 unfold ckR
 rw [if_neg (fun h => h ⟨n2, n5⟩), if_neg (by omega), if_neg]
 rintro ⟨i, hi, hb⟩
 have hb : ¬ okW n (snW m w x i) := by simpa using hb
 unfold snW at hb
 by_cases c : i < m
 ·rw [if_pos c] at hb; exact hb (hw i c)
 ·rw [if_neg c] at hb; exact hb hx
theorem sn_agr {w : Nat → Wd} {m : Nat} {x : Wd} {f : Nat → Int} : agr (snW m w x) (m + 1) f ↔ agr w m f ∧ says x (fun y => f y.toNat) := by
 constructor
 ·intro h
  refine ⟨fun i hi => ?_, ?_⟩
  ·have := h i (by omega); unfold snW at this; rwa [if_pos hi] at this
  ·have := h m (by omega); unfold snW at this; rwa [if_neg (Nat.lt_irrefl m)] at this
 ·rintro ⟨h1, h2⟩ i hi
  unfold snW
  by_cases c : i < m
  ·rw [if_pos c]; exact h1 i c
  ·rw [if_neg c]; exact h2
theorem agrs_sn (w : Nat → Wd) (m n : Nat) (x : Wd) : agrs (snW m w x) (m + 1) n = (agrs w m n).filter (pW n x) := by
 unfold agrs
 rw [filter_lst]
 refine lst_congr fun t _ => ?_
 rw [Bool.eq_iff_iff, Bool.and_eq_true, okA_iff, okA_iff, sn_agr]
 unfold pW
 rw [decide_eq_true_eq]
 exact ⟨fun ⟨a, b, c⟩ => ⟨⟨a, b⟩, c⟩, fun ⟨⟨a, b⟩, c⟩ => ⟨a, b, c⟩⟩
theorem cn_ok {n m : Nat} {w : Nat → Wd} (h : ckR n m w = 0) : cnV n m w = ((agrs w m n).length : Nat) := by unfold cnV; rw [if_pos h, Int.toNat_natCast]
def cM (w : Nat → Wd) (m n : Nat) (x : Wd) : Nat := ((agrs w m n).filter (pW n x)).length
theorem c25s {n m : Nat} {w : Nat → Wd} {x : Wd} (h : ckR n m w = 0) (hm : m < 12) (hx : okW n x) : Contract Try.prog 25 [rsv n (m + 1) (snW m w x)] (.tup [I (cM w m n x : Nat), I 0]) := by
 have := c25 n (m + 1) (snW m w x) (by omega)
 rw [cn_ok (ck_sn h hm hx), ck_sn h hm hx, agrs_sn] at this
 exact this
theorem cM_le (w : Nat → Wd) (m n : Nat) (x : Wd) : cM w m n x ≤ (agrs w m n).length := List.length_filter_le _ _
theorem cM_three (w : Nat → Wd) (m n : Nat) (a b : Int) : cM w m n ⟨a, b, 0⟩ + cM w m n ⟨a, b, 1⟩ + cM w m n ⟨b, a, 0⟩ = (agrs w m n).length := by
 unfold cM agrs
 rw [filter_lst, filter_lst, filter_lst]
 refine lst_three (fun t _ hp => ?_) (fun t _ hp => ?_)
 ·rw [hp]
  simp only [Bool.true_and, pW, says]
  have h3 : Dg n t a.toNat < Dg n t b.toNat ∨ Dg n t a.toNat = Dg n t b.toNat ∨ Dg n t b.toNat < Dg n t a.toNat := by omega
  rcases h3 with h | h | h
  ·refine .inl ⟨?_, ?_, ?_⟩ <;> simp <;> omega
  ·refine .inr (.inl ⟨?_, ?_, ?_⟩) <;> simp <;> omega
  ·refine .inr (.inr ⟨?_, ?_, ?_⟩) <;> simp <;> omega
 ·rw [hp]; exact ⟨rfl, rfl, rfl⟩
theorem ok3 {n : Int} {x : Wd} (h : okW n x) : okW n ⟨x.a, x.b, 0⟩ ∧ okW n ⟨x.a, x.b, 1⟩ ∧ okW n ⟨x.b, x.a, 0⟩ := by
 obtain ⟨h1, h2, h3, h4⟩ := h
 exact ⟨⟨h1, h2, h3, by simp only; omega⟩, ⟨h1, h2, h3, by simp only; omega⟩, ⟨h2, h1, fun e => h3 e.symm, by simp only; omega⟩⟩
theorem kd2 {s a : Nat} (h : a ≠ 0) : decide (kindV s a = 2) = decide ((s : Int) = (a : Int)) := by
 rw [Bool.eq_iff_iff, decide_eq_true_eq, decide_eq_true_eq, kindV_2 h]; omega
theorem kd0 (s a : Nat) : decide (kindV s a = 0) = decide ((s : Int) = 0) := by
 rw [Bool.eq_iff_iff, decide_eq_true_eq, decide_eq_true_eq, kindV_0]; omega
theorem c9 (N : Int) (m : Nat) (w : Nat → Wd) (x y z : Int) (hx : 0 ≤ x ∧ x < 256) (hy : 0 ≤ y ∧ y < 256) (hz : 0 ≤ z ∧ z < 256) : Contract Try.prog 9 [rsv N m w, .val (.int .u8 x), .val (.int .u8 y), .val (.int .u8 z)] (B true) := by
 refine contract_of Try.func9 rfl (by kernel_rfl) follows (by kernel_rfl) _ _ (by rw [Try.ntmps9]; simp) (by simp [OldL, Old, QV, rsv]) ?_
 unfold rsv B
 (repeat' (first | with_reducible (first | apply splitVC_d <;> intro _ | apply splitVC <;> intro _) | ((with_reducible refine And.intro ?_ ?_); focus (first | exact True.intro | omega | (simp only [InK, ne_eq, and_true, true_and]; omega) | (and_intros <;> first | exact .inr trivial | exact Nat.le_refl _ | exact one1 _ | exact one5 _ _ _ _ _ | exact one3 _ _ _ | exact .inl rfl | omega) | trivial)) | (simp -dsimp only [↓RP, RQ, Nat.reduceMul, reduceIte, reduceCtorEq, Nat.reduceAdd, Nat.reduceEqDiff, Nat.reduceLT, Nat.reduceLeDiff, same_r, rsT, Int.reduceEq, Int.reduceNeg, Int.reduceLT, Int.reduceLE, nsv, rgv, wag, QW, Try.results9])))
 refine callVC (c42 N m w) (by (simp -dsimp only [↓RP, RQ, Nat.reduceMul, reduceIte, reduceCtorEq, Nat.reduceAdd, Nat.reduceEqDiff, Nat.reduceLT, Nat.reduceLeDiff, QV, rsv, ints, I, B, wag]); all_goals (try simp [QV, Go.Sx.Sub, Go.Sx.SubL, wf_sub])) (by (simp -dsimp only [↓RP, RQ, Nat.reduceMul, reduceIte, reduceCtorEq, Nat.reduceAdd, Nat.reduceEqDiff, Nat.reduceLT, Nat.reduceLeDiff, QV, rsT, nsv, rgv, I, B, wag]); all_goals (try simp [QV])) ?_
 by_cases he : ckR N m w = 0
 rotate_left
 ·have f0 := decide_eq_false he
  (repeat' (first | with_reducible (first | apply splitVC_d <;> intro _ | apply splitVC <;> intro _) | ((with_reducible refine And.intro ?_ ?_); focus (first | exact True.intro | omega | (simp only [InK, ne_eq, and_true, true_and]; omega) | (and_intros <;> first | exact .inr trivial | exact Nat.le_refl _ | exact one1 _ | exact one5 _ _ _ _ _ | exact one3 _ _ _ | exact .inl rfl | omega) | trivial)) | (simp -dsimp only [↓RP, RQ, Nat.reduceMul, reduceIte, reduceCtorEq, Nat.reduceAdd, Nat.reduceEqDiff, Nat.reduceLT, Nat.reduceLeDiff, f0, same_r, rsT, Int.reduceEq, Int.reduceNeg, Int.reduceLT, Int.reduceLE, nsv, rgv, wag, QW, Try.results9])))
  all_goals try (exfalso; omega)
  refine callVC (c18) (by (simp -dsimp only [↓RP, RQ, Nat.reduceMul, reduceIte, reduceCtorEq, Nat.reduceAdd, Nat.reduceEqDiff, Nat.reduceLT, Nat.reduceLeDiff, QV, rsv, ints, I, B, wag]); all_goals (try simp [QV, Go.Sx.Sub, Go.Sx.SubL, wf_sub])) (by (simp -dsimp only [↓RP, RQ, Nat.reduceMul, reduceIte, reduceCtorEq, Nat.reduceAdd, Nat.reduceEqDiff, Nat.reduceLT, Nat.reduceLeDiff, QV, rsT, nsv, rgv, I, B, wag]); all_goals (try simp [QV])) ?_
  (repeat' (first | with_reducible (first | apply splitVC_d <;> intro _ | apply splitVC <;> intro _) | ((with_reducible refine And.intro ?_ ?_); focus (first | exact True.intro | omega | (simp only [InK, ne_eq, and_true, true_and]; omega) | (and_intros <;> first | exact .inr trivial | exact Nat.le_refl _ | exact one1 _ | exact one5 _ _ _ _ _ | exact one3 _ _ _ | exact .inl rfl | omega) | trivial)) | (simp -dsimp only [↓RP, RQ, Nat.reduceMul, reduceIte, reduceCtorEq, Nat.reduceAdd, Nat.reduceEqDiff, Nat.reduceLT, Nat.reduceLeDiff, f0, same_r, rsT, Int.reduceEq, Int.reduceNeg, Int.reduceLT, Int.reduceLE, nsv, rgv, wag, QW, Try.results9])))
  all_goals try (exfalso; omega)
 have ⟨n2, n5, m12, _⟩ := ckR_ok he
 obtain ⟨n, rfl⟩ : ∃ n : Nat, N = n := ⟨N.toNat, by omega⟩
 have f0 := decide_eq_true he
 by_cases hm : 12 ≤ m
 ·have f1 := decide_eq_true (show (12 : Int) ≤ ((m : Nat) : Int) by omega)
  (repeat' (first | with_reducible (first | apply splitVC_d <;> intro _ | apply splitVC <;> intro _) | ((with_reducible refine And.intro ?_ ?_); focus (first | exact True.intro | omega | (simp only [InK, ne_eq, and_true, true_and]; omega) | (and_intros <;> first | exact .inr trivial | exact Nat.le_refl _ | exact one1 _ | exact one5 _ _ _ _ _ | exact one3 _ _ _ | exact .inl rfl | omega) | trivial)) | (simp -dsimp only [↓RP, RQ, Nat.reduceMul, reduceIte, reduceCtorEq, Nat.reduceAdd, Nat.reduceEqDiff, Nat.reduceLT, Nat.reduceLeDiff, f0, f1, same_r, rsT, Int.reduceEq, Int.reduceNeg, Int.reduceLT, Int.reduceLE, nsv, rgv, wag, QW, Try.results9])))
  all_goals try (exfalso; omega)
  refine callVC (c18) (by (simp -dsimp only [↓RP, RQ, Nat.reduceMul, reduceIte, reduceCtorEq, Nat.reduceAdd, Nat.reduceEqDiff, Nat.reduceLT, Nat.reduceLeDiff, QV, rsv, ints, I, B, wag]); all_goals (try simp [QV, Go.Sx.Sub, Go.Sx.SubL, wf_sub])) (by (simp -dsimp only [↓RP, RQ, Nat.reduceMul, reduceIte, reduceCtorEq, Nat.reduceAdd, Nat.reduceEqDiff, Nat.reduceLT, Nat.reduceLeDiff, QV, rsT, nsv, rgv, I, B, wag]); all_goals (try simp [QV])) ?_
  (repeat' (first | with_reducible (first | apply splitVC_d <;> intro _ | apply splitVC <;> intro _) | ((with_reducible refine And.intro ?_ ?_); focus (first | exact True.intro | omega | (simp only [InK, ne_eq, and_true, true_and]; omega) | (and_intros <;> first | exact .inr trivial | exact Nat.le_refl _ | exact one1 _ | exact one5 _ _ _ _ _ | exact one3 _ _ _ | exact .inl rfl | omega) | trivial)) | (simp -dsimp only [↓RP, RQ, Nat.reduceMul, reduceIte, reduceCtorEq, Nat.reduceAdd, Nat.reduceEqDiff, Nat.reduceLT, Nat.reduceLeDiff, f0, same_r, rsT, Int.reduceEq, Int.reduceNeg, Int.reduceLT, Int.reduceLE, nsv, rgv, wag, QW, Try.results9])))
  all_goals try (exfalso; omega)
 have f1 := decide_eq_false (show ¬ (12 : Int) ≤ ((m : Nat) : Int) by omega)
 have hp := pkW_ok (n := n) (by omega) x y z
 have hT := agrs_541 (w := w) (m := m) (n := n) (by omega) (by omega)
 have hbd : bdW n (pkW n x y z) = 0 := by unfold bdW; rw [if_pos hp]
 (repeat' (first | with_reducible (first | apply splitVC_d <;> intro _ | apply splitVC <;> intro _) | ((with_reducible refine And.intro ?_ ?_); focus (first | exact True.intro | omega | (simp only [InK, ne_eq, and_true, true_and]; omega) | (and_intros <;> first | exact .inr trivial | exact Nat.le_refl _ | exact one1 _ | exact one5 _ _ _ _ _ | exact one3 _ _ _ | exact .inl rfl | omega) | trivial)) | (simp -dsimp only [↓RP, RQ, Nat.reduceMul, reduceIte, reduceCtorEq, Nat.reduceAdd, Nat.reduceEqDiff, Nat.reduceLT, Nat.reduceLeDiff, f0, f1, same_r, rsT, Int.reduceEq, Int.reduceNeg, Int.reduceLT, Int.reduceLE, nsv, rgv, wag, QW, Try.results9])))
 all_goals try (exfalso; omega)
 refine callVC (c44 n (by omega) (by omega) m w x y z hx hy hz) (by (simp -dsimp only [↓RP, RQ, Nat.reduceMul, reduceIte, reduceCtorEq, Nat.reduceAdd, Nat.reduceEqDiff, Nat.reduceLT, Nat.reduceLeDiff, QV, rsv, ints, I, B, wag]); all_goals (try simp [QV, Go.Sx.Sub, Go.Sx.SubL, wf_sub])) (by (simp -dsimp only [↓RP, RQ, Nat.reduceMul, reduceIte, reduceCtorEq, Nat.reduceAdd, Nat.reduceEqDiff, Nat.reduceLT, Nat.reduceLeDiff, QV, rsT, nsv, rgv, I, B, wag]); all_goals (try simp [QV])) ?_
 (repeat' (first | with_reducible (first | apply splitVC_d <;> intro _ | apply splitVC <;> intro _) | ((with_reducible refine And.intro ?_ ?_); focus (first | exact True.intro | omega | (simp only [InK, ne_eq, and_true, true_and]; omega) | (and_intros <;> first | exact .inr trivial | exact Nat.le_refl _ | exact one1 _ | exact one5 _ _ _ _ _ | exact one3 _ _ _ | exact .inl rfl | omega) | trivial)) | (simp -dsimp only [↓RP, RQ, Nat.reduceMul, reduceIte, reduceCtorEq, Nat.reduceAdd, Nat.reduceEqDiff, Nat.reduceLT, Nat.reduceLeDiff, f0, same_r, rsT, Int.reduceEq, Int.reduceNeg, Int.reduceLT, Int.reduceLE, nsv, rgv, wag, QW, Try.results9])))
 all_goals try (exfalso; omega)
 have h25 := c25 n m w (by omega)
 rw [cn_ok he, he] at h25
 have h32 := c32 n m w (by omega) (pkW n x y z)
 rw [Int.toNat_natCast] at h32
 by_cases h0 : (agrs w m n).length = 0
 ·rw [(kd_3 (p := pW n (pkW n x y z)) he hbd h0).1, (kd_3 (p := pW n (pkW n x y z)) he hbd h0).2] at h32
  rw [h0] at h25
  have g0 : decide ((0 : Int) < ((0 : Nat) : Int)) = false := rfl
  refine callVC (h32) (by (simp -dsimp only [↓RP, RQ, Nat.reduceMul, reduceIte, reduceCtorEq, Nat.reduceAdd, Nat.reduceEqDiff, Nat.reduceLT, Nat.reduceLeDiff, QV, rsv, ints, I, B, wag]); all_goals (try simp [QV, Go.Sx.Sub, Go.Sx.SubL, wf_sub])) (by (simp -dsimp only [↓RP, RQ, Nat.reduceMul, reduceIte, reduceCtorEq, Nat.reduceAdd, Nat.reduceEqDiff, Nat.reduceLT, Nat.reduceLeDiff, QV, rsT, nsv, rgv, I, B, wag]); all_goals (try simp [QV])) ?_
  (repeat' (first | with_reducible (first | apply splitVC_d <;> intro _ | apply splitVC <;> intro _) | ((with_reducible refine And.intro ?_ ?_); focus (first | exact True.intro | omega | (simp only [InK, ne_eq, and_true, true_and]; omega) | (and_intros <;> first | exact .inr trivial | exact Nat.le_refl _ | exact one1 _ | exact one5 _ _ _ _ _ | exact one3 _ _ _ | exact .inl rfl | omega) | trivial)) | (simp -dsimp only [↓RP, RQ, Nat.reduceMul, reduceIte, reduceCtorEq, Nat.reduceAdd, Nat.reduceEqDiff, Nat.reduceLT, Nat.reduceLeDiff, g0, same_r, rsT, Int.reduceEq, Int.reduceNeg, Int.reduceLT, Int.reduceLE, nsv, rgv, wag, QW, Try.results9])))
  all_goals try (exfalso; omega)
  refine callVC (h25) (by (simp -dsimp only [↓RP, RQ, Nat.reduceMul, reduceIte, reduceCtorEq, Nat.reduceAdd, Nat.reduceEqDiff, Nat.reduceLT, Nat.reduceLeDiff, QV, rsv, ints, I, B, wag]); all_goals (try simp [QV, Go.Sx.Sub, Go.Sx.SubL, wf_sub])) (by (simp -dsimp only [↓RP, RQ, Nat.reduceMul, reduceIte, reduceCtorEq, Nat.reduceAdd, Nat.reduceEqDiff, Nat.reduceLT, Nat.reduceLeDiff, QV, rsT, nsv, rgv, I, B, wag]); all_goals (try simp [QV])) ?_
  (repeat' (first | with_reducible (first | apply splitVC_d <;> intro _ | apply splitVC <;> intro _) | ((with_reducible refine And.intro ?_ ?_); focus (first | exact True.intro | omega | (simp only [InK, ne_eq, and_true, true_and]; omega) | (and_intros <;> first | exact .inr trivial | exact Nat.le_refl _ | exact one1 _ | exact one5 _ _ _ _ _ | exact one3 _ _ _ | exact .inl rfl | omega) | trivial)) | (simp -dsimp only [↓RP, RQ, Nat.reduceMul, reduceIte, reduceCtorEq, Nat.reduceAdd, Nat.reduceEqDiff, Nat.reduceLT, Nat.reduceLeDiff, g0, same_r, rsT, Int.reduceEq, Int.reduceNeg, Int.reduceLT, Int.reduceLE, nsv, rgv, wag, QW, Try.results9])))
  all_goals try (exfalso; omega)
  refine callVC (c18) (by (simp -dsimp only [↓RP, RQ, Nat.reduceMul, reduceIte, reduceCtorEq, Nat.reduceAdd, Nat.reduceEqDiff, Nat.reduceLT, Nat.reduceLeDiff, QV, rsv, ints, I, B, wag]); all_goals (try simp [QV, Go.Sx.Sub, Go.Sx.SubL, wf_sub])) (by (simp -dsimp only [↓RP, RQ, Nat.reduceMul, reduceIte, reduceCtorEq, Nat.reduceAdd, Nat.reduceEqDiff, Nat.reduceLT, Nat.reduceLeDiff, QV, rsT, nsv, rgv, I, B, wag]); all_goals (try simp [QV])) ?_
  (repeat' (first | with_reducible (first | apply splitVC_d <;> intro _ | apply splitVC <;> intro _) | ((with_reducible refine And.intro ?_ ?_); focus (first | exact True.intro | omega | (simp only [InK, ne_eq, and_true, true_and]; omega) | (and_intros <;> first | exact .inr trivial | exact Nat.le_refl _ | exact one1 _ | exact one5 _ _ _ _ _ | exact one3 _ _ _ | exact .inl rfl | omega) | trivial)) | (simp -dsimp only [↓RP, RQ, Nat.reduceMul, reduceIte, reduceCtorEq, Nat.reduceAdd, Nat.reduceEqDiff, Nat.reduceLT, Nat.reduceLeDiff, same_r, rsT, Int.reduceEq, Int.reduceNeg, Int.reduceLT, Int.reduceLE, nsv, rgv, wag, QW, Try.results9])))
  all_goals try (exfalso; omega)
 ·rw [(kd_4 (p := pW n (pkW n x y z)) he hbd h0).1, (kd_4 (p := pW n (pkW n x y z)) he hbd h0).2] at h32
  have hle := cM_le w m n (pkW n x y z)
  have h3 := cM_three w m n (pkW n x y z).a (pkW n x y z).b
  obtain ⟨o1, o2, o3⟩ := ok3 hp
  have q0 := c25s he (by omega) hp
  have q1 := c25s he (by omega) o1
  have q2 := c25s he (by omega) o2
  have q3 := c25s he (by omega) o3
  change Contract _ _ _ (.tup [I (kindV (cM w m n (pkW n x y z)) (agrs w m n).length), _]) at h32
  have hk2 := kd2 (s := cM w m n (pkW n x y z)) h0
  have hk0 := kd0 (cM w m n (pkW n x y z)) (agrs w m n).length
  generalize cM w m n (pkW n x y z) = A at *
  generalize cM w m n ⟨(pkW n x y z).a, (pkW n x y z).b, 0⟩ = A1 at *
  generalize cM w m n ⟨(pkW n x y z).a, (pkW n x y z).b, 1⟩ = A2 at *
  generalize cM w m n ⟨(pkW n x y z).b, (pkW n x y z).a, 0⟩ = A3 at *
  generalize (agrs w m n).length = T at *
  have g0 := decide_eq_true (show (0 : Int) < (T : Int) by omega)
  have l := decide_eq_false (show ¬ ((A : Nat) : Int) < 0 by omega)
  have u := decide_eq_false (show ¬ (541 : Int) < ((A : Nat) : Int) by omega)
  have l1 := decide_eq_false (show ¬ ((A1 : Nat) : Int) < 0 by omega)
  have u1 := decide_eq_false (show ¬ (541 : Int) < ((A1 : Nat) : Int) by omega)
  have l2 := decide_eq_false (show ¬ ((A2 : Nat) : Int) < 0 by omega)
  have u2 := decide_eq_false (show ¬ (541 : Int) < ((A2 : Nat) : Int) by omega)
  have l3 := decide_eq_false (show ¬ ((A3 : Nat) : Int) < 0 by omega)
  have u3 := decide_eq_false (show ¬ (541 : Int) < ((A3 : Nat) : Int) by omega)
  have g3 := decide_eq_true (show (A1 : Int) + (A2 : Int) + (A3 : Int) = (T : Int) by omega)
  refine callVC (h32) (by (simp -dsimp only [↓RP, RQ, Nat.reduceMul, reduceIte, reduceCtorEq, Nat.reduceAdd, Nat.reduceEqDiff, Nat.reduceLT, Nat.reduceLeDiff, QV, rsv, ints, I, B, wag]); all_goals (try simp [QV, Go.Sx.Sub, Go.Sx.SubL, wf_sub])) (by (simp -dsimp only [↓RP, RQ, Nat.reduceMul, reduceIte, reduceCtorEq, Nat.reduceAdd, Nat.reduceEqDiff, Nat.reduceLT, Nat.reduceLeDiff, QV, rsT, nsv, rgv, I, B, wag]); all_goals (try simp [QV])) ?_
  (repeat' (first | with_reducible (first | apply splitVC_d <;> intro _ | apply splitVC <;> intro _) | ((with_reducible refine And.intro ?_ ?_); focus (first | exact True.intro | omega | (simp only [InK, ne_eq, and_true, true_and]; omega) | (and_intros <;> first | exact .inr trivial | exact Nat.le_refl _ | exact one1 _ | exact one5 _ _ _ _ _ | exact one3 _ _ _ | exact .inl rfl | omega) | trivial)) | (simp -dsimp only [↓RP, RQ, Nat.reduceMul, reduceIte, reduceCtorEq, Nat.reduceAdd, Nat.reduceEqDiff, Nat.reduceLT, Nat.reduceLeDiff, g0, same_r, rsT, Int.reduceEq, Int.reduceNeg, Int.reduceLT, Int.reduceLE, nsv, rgv, wag, QW, Try.results9])))
  all_goals try (exfalso; omega)
  refine callVC (h25) (by (simp -dsimp only [↓RP, RQ, Nat.reduceMul, reduceIte, reduceCtorEq, Nat.reduceAdd, Nat.reduceEqDiff, Nat.reduceLT, Nat.reduceLeDiff, QV, rsv, ints, I, B, wag]); all_goals (try simp [QV, Go.Sx.Sub, Go.Sx.SubL, wf_sub])) (by (simp -dsimp only [↓RP, RQ, Nat.reduceMul, reduceIte, reduceCtorEq, Nat.reduceAdd, Nat.reduceEqDiff, Nat.reduceLT, Nat.reduceLeDiff, QV, rsT, nsv, rgv, I, B, wag]); all_goals (try simp [QV])) ?_
  (repeat' (first | with_reducible (first | apply splitVC_d <;> intro _ | apply splitVC <;> intro _) | ((with_reducible refine And.intro ?_ ?_); focus (first | exact True.intro | omega | (simp only [InK, ne_eq, and_true, true_and]; omega) | (and_intros <;> first | exact .inr trivial | exact Nat.le_refl _ | exact one1 _ | exact one5 _ _ _ _ _ | exact one3 _ _ _ | exact .inl rfl | omega) | trivial)) | (simp -dsimp only [↓RP, RQ, Nat.reduceMul, reduceIte, reduceCtorEq, Nat.reduceAdd, Nat.reduceEqDiff, Nat.reduceLT, Nat.reduceLeDiff, g0, same_r, rsT, Int.reduceEq, Int.reduceNeg, Int.reduceLT, Int.reduceLE, nsv, rgv, wag, QW, Try.results9])))
  all_goals try (exfalso; omega)
  refine callVC (c45 n m w (pkW n x y z) (by omega)) (by (simp -dsimp only [↓RP, RQ, Nat.reduceMul, reduceIte, reduceCtorEq, Nat.reduceAdd, Nat.reduceEqDiff, Nat.reduceLT, Nat.reduceLeDiff, QV, rsv, ints, I, B, wag]); all_goals (try simp [QV, Go.Sx.Sub, Go.Sx.SubL, wf_sub])) (by (simp -dsimp only [↓RP, RQ, Nat.reduceMul, reduceIte, reduceCtorEq, Nat.reduceAdd, Nat.reduceEqDiff, Nat.reduceLT, Nat.reduceLeDiff, QV, rsT, nsv, rgv, I, B, wag]); all_goals (try simp [QV])) ?_
  (repeat' (first | with_reducible (first | apply splitVC_d <;> intro _ | apply splitVC <;> intro _) | ((with_reducible refine And.intro ?_ ?_); focus (first | exact True.intro | omega | (simp only [InK, ne_eq, and_true, true_and]; omega) | (and_intros <;> first | exact .inr trivial | exact Nat.le_refl _ | exact one1 _ | exact one5 _ _ _ _ _ | exact one3 _ _ _ | exact .inl rfl | omega) | trivial)) | (simp -dsimp only [↓RP, RQ, Nat.reduceMul, reduceIte, reduceCtorEq, Nat.reduceAdd, Nat.reduceEqDiff, Nat.reduceLT, Nat.reduceLeDiff, same_r, rsT, Int.reduceEq, Int.reduceNeg, Int.reduceLT, Int.reduceLE, nsv, rgv, wag, QW, Try.results9])))
  all_goals try (exfalso; omega)
  refine callVC (q0) (by (simp -dsimp only [↓RP, RQ, Nat.reduceMul, reduceIte, reduceCtorEq, Nat.reduceAdd, Nat.reduceEqDiff, Nat.reduceLT, Nat.reduceLeDiff, QV, rsv, ints, I, B, wag]); all_goals (try simp [QV, Go.Sx.Sub, Go.Sx.SubL, wf_sub])) (by (simp -dsimp only [↓RP, RQ, Nat.reduceMul, reduceIte, reduceCtorEq, Nat.reduceAdd, Nat.reduceEqDiff, Nat.reduceLT, Nat.reduceLeDiff, QV, rsT, nsv, rgv, I, B, wag]); all_goals (try simp [QV])) ?_
  (repeat' (first | with_reducible (first | apply splitVC_d <;> intro _ | apply splitVC <;> intro _) | ((with_reducible refine And.intro ?_ ?_); focus (first | exact True.intro | omega | (simp only [InK, ne_eq, and_true, true_and]; omega) | (and_intros <;> first | exact .inr trivial | exact Nat.le_refl _ | exact one1 _ | exact one5 _ _ _ _ _ | exact one3 _ _ _ | exact .inl rfl | omega) | trivial)) | (simp -dsimp only [↓RP, RQ, Nat.reduceMul, reduceIte, reduceCtorEq, Nat.reduceAdd, Nat.reduceEqDiff, Nat.reduceLT, Nat.reduceLeDiff, same_r, rsT, Int.reduceEq, Int.reduceNeg, Int.reduceLT, Int.reduceLE, nsv, rgv, wag, QW, Try.results9])))
  all_goals try (exfalso; omega)
  refine callVC (c46 (pkW n x y z).a 0 (pkW n x y z).b) (by (simp -dsimp only [↓RP, RQ, Nat.reduceMul, reduceIte, reduceCtorEq, Nat.reduceAdd, Nat.reduceEqDiff, Nat.reduceLT, Nat.reduceLeDiff, QV, rsv, ints, I, B, wag]); all_goals (try simp [QV, Go.Sx.Sub, Go.Sx.SubL, wf_sub])) (by (simp -dsimp only [↓RP, RQ, Nat.reduceMul, reduceIte, reduceCtorEq, Nat.reduceAdd, Nat.reduceEqDiff, Nat.reduceLT, Nat.reduceLeDiff, QV, rsT, nsv, rgv, I, B, wag]); all_goals (try simp [QV])) ?_
  (repeat' (first | with_reducible (first | apply splitVC_d <;> intro _ | apply splitVC <;> intro _) | ((with_reducible refine And.intro ?_ ?_); focus (first | exact True.intro | omega | (simp only [InK, ne_eq, and_true, true_and]; omega) | (and_intros <;> first | exact .inr trivial | exact Nat.le_refl _ | exact one1 _ | exact one5 _ _ _ _ _ | exact one3 _ _ _ | exact .inl rfl | omega) | trivial)) | (simp -dsimp only [↓RP, RQ, Nat.reduceMul, reduceIte, reduceCtorEq, Nat.reduceAdd, Nat.reduceEqDiff, Nat.reduceLT, Nat.reduceLeDiff, same_r, rsT, Int.reduceEq, Int.reduceNeg, Int.reduceLT, Int.reduceLE, nsv, rgv, wag, QW, Try.results9])))
  all_goals try (exfalso; omega)
  refine callVC (c45 n m w ⟨(pkW n x y z).a, (pkW n x y z).b, 0⟩ (by omega)) (by (simp -dsimp only [↓RP, RQ, Nat.reduceMul, reduceIte, reduceCtorEq, Nat.reduceAdd, Nat.reduceEqDiff, Nat.reduceLT, Nat.reduceLeDiff, QV, rsv, ints, I, B, wag]); all_goals (try simp [QV, Go.Sx.Sub, Go.Sx.SubL, wf_sub])) (by (simp -dsimp only [↓RP, RQ, Nat.reduceMul, reduceIte, reduceCtorEq, Nat.reduceAdd, Nat.reduceEqDiff, Nat.reduceLT, Nat.reduceLeDiff, QV, rsT, nsv, rgv, I, B, wag]); all_goals (try simp [QV])) ?_
  (repeat' (first | with_reducible (first | apply splitVC_d <;> intro _ | apply splitVC <;> intro _) | ((with_reducible refine And.intro ?_ ?_); focus (first | exact True.intro | omega | (simp only [InK, ne_eq, and_true, true_and]; omega) | (and_intros <;> first | exact .inr trivial | exact Nat.le_refl _ | exact one1 _ | exact one5 _ _ _ _ _ | exact one3 _ _ _ | exact .inl rfl | omega) | trivial)) | (simp -dsimp only [↓RP, RQ, Nat.reduceMul, reduceIte, reduceCtorEq, Nat.reduceAdd, Nat.reduceEqDiff, Nat.reduceLT, Nat.reduceLeDiff, same_r, rsT, Int.reduceEq, Int.reduceNeg, Int.reduceLT, Int.reduceLE, nsv, rgv, wag, QW, Try.results9])))
  all_goals try (exfalso; omega)
  refine callVC (q1) (by (simp -dsimp only [↓RP, RQ, Nat.reduceMul, reduceIte, reduceCtorEq, Nat.reduceAdd, Nat.reduceEqDiff, Nat.reduceLT, Nat.reduceLeDiff, QV, rsv, ints, I, B, wag]); all_goals (try simp [QV, Go.Sx.Sub, Go.Sx.SubL, wf_sub])) (by (simp -dsimp only [↓RP, RQ, Nat.reduceMul, reduceIte, reduceCtorEq, Nat.reduceAdd, Nat.reduceEqDiff, Nat.reduceLT, Nat.reduceLeDiff, QV, rsT, nsv, rgv, I, B, wag]); all_goals (try simp [QV])) ?_
  (repeat' (first | with_reducible (first | apply splitVC_d <;> intro _ | apply splitVC <;> intro _) | ((with_reducible refine And.intro ?_ ?_); focus (first | exact True.intro | omega | (simp only [InK, ne_eq, and_true, true_and]; omega) | (and_intros <;> first | exact .inr trivial | exact Nat.le_refl _ | exact one1 _ | exact one5 _ _ _ _ _ | exact one3 _ _ _ | exact .inl rfl | omega) | trivial)) | (simp -dsimp only [↓RP, RQ, Nat.reduceMul, reduceIte, reduceCtorEq, Nat.reduceAdd, Nat.reduceEqDiff, Nat.reduceLT, Nat.reduceLeDiff, same_r, rsT, Int.reduceEq, Int.reduceNeg, Int.reduceLT, Int.reduceLE, nsv, rgv, wag, QW, Try.results9])))
  all_goals try (exfalso; omega)
  refine callVC (c46 (pkW n x y z).a 1 (pkW n x y z).b) (by (simp -dsimp only [↓RP, RQ, Nat.reduceMul, reduceIte, reduceCtorEq, Nat.reduceAdd, Nat.reduceEqDiff, Nat.reduceLT, Nat.reduceLeDiff, QV, rsv, ints, I, B, wag]); all_goals (try simp [QV, Go.Sx.Sub, Go.Sx.SubL, wf_sub])) (by (simp -dsimp only [↓RP, RQ, Nat.reduceMul, reduceIte, reduceCtorEq, Nat.reduceAdd, Nat.reduceEqDiff, Nat.reduceLT, Nat.reduceLeDiff, QV, rsT, nsv, rgv, I, B, wag]); all_goals (try simp [QV])) ?_
  (repeat' (first | with_reducible (first | apply splitVC_d <;> intro _ | apply splitVC <;> intro _) | ((with_reducible refine And.intro ?_ ?_); focus (first | exact True.intro | omega | (simp only [InK, ne_eq, and_true, true_and]; omega) | (and_intros <;> first | exact .inr trivial | exact Nat.le_refl _ | exact one1 _ | exact one5 _ _ _ _ _ | exact one3 _ _ _ | exact .inl rfl | omega) | trivial)) | (simp -dsimp only [↓RP, RQ, Nat.reduceMul, reduceIte, reduceCtorEq, Nat.reduceAdd, Nat.reduceEqDiff, Nat.reduceLT, Nat.reduceLeDiff, same_r, rsT, Int.reduceEq, Int.reduceNeg, Int.reduceLT, Int.reduceLE, nsv, rgv, wag, QW, Try.results9])))
  all_goals try (exfalso; omega)
  refine callVC (c45 n m w ⟨(pkW n x y z).a, (pkW n x y z).b, 1⟩ (by omega)) (by (simp -dsimp only [↓RP, RQ, Nat.reduceMul, reduceIte, reduceCtorEq, Nat.reduceAdd, Nat.reduceEqDiff, Nat.reduceLT, Nat.reduceLeDiff, QV, rsv, ints, I, B, wag]); all_goals (try simp [QV, Go.Sx.Sub, Go.Sx.SubL, wf_sub])) (by (simp -dsimp only [↓RP, RQ, Nat.reduceMul, reduceIte, reduceCtorEq, Nat.reduceAdd, Nat.reduceEqDiff, Nat.reduceLT, Nat.reduceLeDiff, QV, rsT, nsv, rgv, I, B, wag]); all_goals (try simp [QV])) ?_
  (repeat' (first | with_reducible (first | apply splitVC_d <;> intro _ | apply splitVC <;> intro _) | ((with_reducible refine And.intro ?_ ?_); focus (first | exact True.intro | omega | (simp only [InK, ne_eq, and_true, true_and]; omega) | (and_intros <;> first | exact .inr trivial | exact Nat.le_refl _ | exact one1 _ | exact one5 _ _ _ _ _ | exact one3 _ _ _ | exact .inl rfl | omega) | trivial)) | (simp -dsimp only [↓RP, RQ, Nat.reduceMul, reduceIte, reduceCtorEq, Nat.reduceAdd, Nat.reduceEqDiff, Nat.reduceLT, Nat.reduceLeDiff, same_r, rsT, Int.reduceEq, Int.reduceNeg, Int.reduceLT, Int.reduceLE, nsv, rgv, wag, QW, Try.results9])))
  all_goals try (exfalso; omega)
  refine callVC (q2) (by (simp -dsimp only [↓RP, RQ, Nat.reduceMul, reduceIte, reduceCtorEq, Nat.reduceAdd, Nat.reduceEqDiff, Nat.reduceLT, Nat.reduceLeDiff, QV, rsv, ints, I, B, wag]); all_goals (try simp [QV, Go.Sx.Sub, Go.Sx.SubL, wf_sub])) (by (simp -dsimp only [↓RP, RQ, Nat.reduceMul, reduceIte, reduceCtorEq, Nat.reduceAdd, Nat.reduceEqDiff, Nat.reduceLT, Nat.reduceLeDiff, QV, rsT, nsv, rgv, I, B, wag]); all_goals (try simp [QV])) ?_
  (repeat' (first | with_reducible (first | apply splitVC_d <;> intro _ | apply splitVC <;> intro _) | ((with_reducible refine And.intro ?_ ?_); focus (first | exact True.intro | omega | (simp only [InK, ne_eq, and_true, true_and]; omega) | (and_intros <;> first | exact .inr trivial | exact Nat.le_refl _ | exact one1 _ | exact one5 _ _ _ _ _ | exact one3 _ _ _ | exact .inl rfl | omega) | trivial)) | (simp -dsimp only [↓RP, RQ, Nat.reduceMul, reduceIte, reduceCtorEq, Nat.reduceAdd, Nat.reduceEqDiff, Nat.reduceLT, Nat.reduceLeDiff, same_r, rsT, Int.reduceEq, Int.reduceNeg, Int.reduceLT, Int.reduceLE, nsv, rgv, wag, QW, Try.results9])))
  all_goals try (exfalso; omega)
  refine callVC (c46 (pkW n x y z).b 0 (pkW n x y z).a) (by (simp -dsimp only [↓RP, RQ, Nat.reduceMul, reduceIte, reduceCtorEq, Nat.reduceAdd, Nat.reduceEqDiff, Nat.reduceLT, Nat.reduceLeDiff, QV, rsv, ints, I, B, wag]); all_goals (try simp [QV, Go.Sx.Sub, Go.Sx.SubL, wf_sub])) (by (simp -dsimp only [↓RP, RQ, Nat.reduceMul, reduceIte, reduceCtorEq, Nat.reduceAdd, Nat.reduceEqDiff, Nat.reduceLT, Nat.reduceLeDiff, QV, rsT, nsv, rgv, I, B, wag]); all_goals (try simp [QV])) ?_
  (repeat' (first | with_reducible (first | apply splitVC_d <;> intro _ | apply splitVC <;> intro _) | ((with_reducible refine And.intro ?_ ?_); focus (first | exact True.intro | omega | (simp only [InK, ne_eq, and_true, true_and]; omega) | (and_intros <;> first | exact .inr trivial | exact Nat.le_refl _ | exact one1 _ | exact one5 _ _ _ _ _ | exact one3 _ _ _ | exact .inl rfl | omega) | trivial)) | (simp -dsimp only [↓RP, RQ, Nat.reduceMul, reduceIte, reduceCtorEq, Nat.reduceAdd, Nat.reduceEqDiff, Nat.reduceLT, Nat.reduceLeDiff, same_r, rsT, Int.reduceEq, Int.reduceNeg, Int.reduceLT, Int.reduceLE, nsv, rgv, wag, QW, Try.results9])))
  all_goals try (exfalso; omega)
  refine callVC (c45 n m w ⟨(pkW n x y z).b, (pkW n x y z).a, 0⟩ (by omega)) (by (simp -dsimp only [↓RP, RQ, Nat.reduceMul, reduceIte, reduceCtorEq, Nat.reduceAdd, Nat.reduceEqDiff, Nat.reduceLT, Nat.reduceLeDiff, QV, rsv, ints, I, B, wag]); all_goals (try simp [QV, Go.Sx.Sub, Go.Sx.SubL, wf_sub])) (by (simp -dsimp only [↓RP, RQ, Nat.reduceMul, reduceIte, reduceCtorEq, Nat.reduceAdd, Nat.reduceEqDiff, Nat.reduceLT, Nat.reduceLeDiff, QV, rsT, nsv, rgv, I, B, wag]); all_goals (try simp [QV])) ?_
  (repeat' (first | with_reducible (first | apply splitVC_d <;> intro _ | apply splitVC <;> intro _) | ((with_reducible refine And.intro ?_ ?_); focus (first | exact True.intro | omega | (simp only [InK, ne_eq, and_true, true_and]; omega) | (and_intros <;> first | exact .inr trivial | exact Nat.le_refl _ | exact one1 _ | exact one5 _ _ _ _ _ | exact one3 _ _ _ | exact .inl rfl | omega) | trivial)) | (simp -dsimp only [↓RP, RQ, Nat.reduceMul, reduceIte, reduceCtorEq, Nat.reduceAdd, Nat.reduceEqDiff, Nat.reduceLT, Nat.reduceLeDiff, same_r, rsT, Int.reduceEq, Int.reduceNeg, Int.reduceLT, Int.reduceLE, nsv, rgv, wag, QW, Try.results9])))
  all_goals try (exfalso; omega)
  refine callVC (q3) (by (simp -dsimp only [↓RP, RQ, Nat.reduceMul, reduceIte, reduceCtorEq, Nat.reduceAdd, Nat.reduceEqDiff, Nat.reduceLT, Nat.reduceLeDiff, QV, rsv, ints, I, B, wag]); all_goals (try simp [QV, Go.Sx.Sub, Go.Sx.SubL, wf_sub])) (by (simp -dsimp only [↓RP, RQ, Nat.reduceMul, reduceIte, reduceCtorEq, Nat.reduceAdd, Nat.reduceEqDiff, Nat.reduceLT, Nat.reduceLeDiff, QV, rsT, nsv, rgv, I, B, wag]); all_goals (try simp [QV])) ?_
  (repeat' (first | with_reducible (first | apply splitVC_d <;> intro _ | apply splitVC <;> intro _) | ((with_reducible refine And.intro ?_ ?_); focus (first | exact True.intro | omega | (simp only [InK, ne_eq, and_true, true_and]; omega) | (and_intros <;> first | exact .inr trivial | exact Nat.le_refl _ | exact one1 _ | exact one5 _ _ _ _ _ | exact one3 _ _ _ | exact .inl rfl | omega) | trivial)) | (simp -dsimp only [↓RP, RQ, Nat.reduceMul, reduceIte, reduceCtorEq, Nat.reduceAdd, Nat.reduceEqDiff, Nat.reduceLT, Nat.reduceLeDiff, hk2, hk0, l, u, l1, u1, l2, u2, l3, u3, g3, same_r, rsT, Int.reduceEq, Int.reduceNeg, Int.reduceLT, Int.reduceLE, nsv, rgv, wag, QW, Try.results9])))
  all_goals try (exfalso; omega)
  refine callVC (c18) (by (simp -dsimp only [↓RP, RQ, Nat.reduceMul, reduceIte, reduceCtorEq, Nat.reduceAdd, Nat.reduceEqDiff, Nat.reduceLT, Nat.reduceLeDiff, QV, rsv, ints, I, B, wag]); all_goals (try simp [QV, Go.Sx.Sub, Go.Sx.SubL, wf_sub])) (by (simp -dsimp only [↓RP, RQ, Nat.reduceMul, reduceIte, reduceCtorEq, Nat.reduceAdd, Nat.reduceEqDiff, Nat.reduceLT, Nat.reduceLeDiff, QV, rsT, nsv, rgv, I, B, wag]); all_goals (try simp [QV])) ?_
  (repeat' (first | with_reducible (first | apply splitVC_d <;> intro _ | apply splitVC <;> intro _) | ((with_reducible refine And.intro ?_ ?_); focus (first | exact True.intro | omega | (simp only [InK, ne_eq, and_true, true_and]; omega) | (and_intros <;> first | exact .inr trivial | exact Nat.le_refl _ | exact one1 _ | exact one5 _ _ _ _ _ | exact one3 _ _ _ | exact .inl rfl | omega) | trivial)) | (simp -dsimp only [↓RP, RQ, Nat.reduceMul, reduceIte, reduceCtorEq, Nat.reduceAdd, Nat.reduceEqDiff, Nat.reduceLT, Nat.reduceLeDiff, same_r, rsT, Int.reduceEq, Int.reduceNeg, Int.reduceLT, Int.reduceLE, nsv, rgv, wag, QW, Try.results9])))
  all_goals try (exfalso; omega)
end Go.He
end
