/- A part of the proof. -/
import Derived.Test.YtpdebflfimmnpaaHJ
import Derived.Test.YtpdebflfimmnpaaEF
import Derived.Test.YtpdebflfimmnpaaHH
import Derived.Test.YtpdebflfimmnpaaHG
import Derived.Test.YtpdebflfimmnpaaHF
section
set_option linter.unusedSimpArgs false
set_option linter.unusedVariables false
set_option linter.defProp false
set_option maxRecDepth 100000
set_option maxHeartbeats 16000000
namespace Go.He
open Go.Proofs
open Go.Sx
theorem growW (w : Nat → Wd) (b : List Nat) (k : Nat) : ∀ (i j : Nat), i < k + 1 → j < 3 → (if i < k then wf (onlyW w b i) j else [SV.val (.int .i64 (w (b.getD k 0)).a), SV.val (.int .i64 (w (b.getD k 0)).b), SV.val (.int .i64 (w (b.getD k 0)).k)][(i - k) * 3 + j]?.getD SV.top) = wf (onlyW w b i) j := by
 intro i j hi hj
 by_cases h : i < k
 ·rw [if_pos h]
 ·obtain rfl : i = k := by omega
  rw [if_neg h, Nat.sub_self, Nat.zero_mul, Nat.zero_add]
  rcases three hj with rfl | rfl | rfl <;> rfl
def incB (m : Nat) (u : Nat → Int) (k : Nat) : Prop := ∀ i, i < k → 0 ≤ u i ∧ u i < m ∧ (0 < i → u (i - 1) < u i)
instance (m : Nat) (u : Nat → Int) (k : Nat) : Decidable (incB m u k) := by unfold incB; infer_instance
theorem incB_S {m : Nat} {u : Nat → Int} {k : Nat} (h : incB m u k) : incB m u (k + 1) ↔ 0 ≤ u k ∧ u k < m ∧ (0 < k → u (k - 1) < u k) := by
 constructor
 ·intro a; exact a k (by omega)
 ·intro a i hi
  by_cases e : i = k
  ·subst e; exact a
  ·exact h i (by omega)
theorem incB_le {m : Nat} {u : Nat → Int} {k l : Nat} (hk : k ≤ l) (h : incB m u l) : incB m u k := fun i hi => h i (by omega)
def natL (l : Nat) (u : Nat → Int) : List Nat := (List.range l).map fun i => (u i).toNat
theorem natL_len (l : Nat) (u : Nat → Int) : (natL l u).length = l := by unfold natL; simp
theorem natL_get {l : Nat} {u : Nat → Int} {i : Nat} (h : i < l) : (natL l u).getD i 0 = (u i).toNat := by unfold natL; rw [List.getD_eq_getElem?_getD]; simp [h]
theorem natL_lt {m l : Nat} {u : Nat → Int} (h : incB m u l) : ∀ a, a ∈ natL l u → a < m := fun a ha => by
 obtain ⟨i, hi, rfl⟩ := List.mem_map.1 ha
 have := h i (List.mem_range.1 hi)
 omega
def ckB (N : Int) (m : Nat) (w : Nat → Wd) (l : Nat) (u : Nat → Int) : Int :=
 if ckR N m w ≠ 0 then ckR N m w else if ¬ incB m u l then 3 else if (agrs w m N.toNat).length = 0 then 22 else if (agrs (onlyW w (natL l u)) l N.toNat).length = (agrs w m N.toNat).length then 0 else 5
theorem ckB_err {N : Int} {m : Nat} {w : Nat → Wd} {l : Nat} {u : Nat → Int} (h : ckR N m w ≠ 0) : ckB N m w l u = ckR N m w := by unfold ckB; rw [if_pos h]
theorem ckB_bad {N : Int} {m : Nat} {w : Nat → Wd} {l : Nat} {u : Nat → Int} (h : ckR N m w = 0) (h2 : ¬ incB m u l) : ckB N m w l u = 3 := by unfold ckB; rw [if_neg (by omega), if_pos h2]
theorem ckB_ok {n m : Nat} {w : Nat → Wd} {l : Nat} {u : Nat → Int} (h : ckR n m w = 0) (h2 : incB m u l) : ckB n m w l u = if (agrs w m n).length = 0 then 22 else if (agrs (onlyW w (natL l u)) l n).length = (agrs w m n).length then 0 else 5 := by unfold ckB; rw [if_neg (by omega), if_neg (fun h => h h2), Int.toNat_natCast]
theorem only_fit {w : Nat → Wd} {m : Nat} {n : Int} (hw : Fit w m n) {b : List Nat} (hb : ∀ a, a ∈ b → a < m) : Fit (onlyW w b) b.length n :=
 ⟨fun i h => hw.a _ (hb _ (getD_mem h)), fun i h => hw.b _ (hb _ (getD_mem h)), fun i h => hw.ne _ (hb _ (getD_mem h)), fun i h => hw.k _ (hb _ (getD_mem h))⟩
theorem incB_len {m : Nat} {u : Nat → Int} : ∀ {k : Nat}, incB m u k → 0 < k → (k : Int) ≤ u (k - 1) + 1
 | 0, _, h => by omega
 | 1, h, _ => by have := (h 0 (by omega)).1; simpa using (by omega : (1 : Int) ≤ u 0 + 1)
 | k + 2, h, _ => by
  have ih := incB_len (incB_le (show k + 1 ≤ k + 2 by omega) h) (by omega)
  have := (h (k + 1) (by omega)).2.2 (by omega)
  have e1 : u (k + 1 - 1) = u k := rfl
  have e2 : u (k + 2 - 1) = u (k + 1) := rfl
  rw [e1] at ih this
  rw [e2]
  omega
theorem incB_m {m : Nat} {u : Nat → Int} {k : Nat} (h : incB m u k) : k ≤ m := by
 by_cases h0 : k = 0
 ·omega
 ·have a := incB_len h (by omega)
  have b := (h (k - 1) (by omega)).2.1
  omega
end Go.He
end
section
set_option linter.unusedSimpArgs false
set_option linter.unusedVariables false
set_option linter.defProp false
set_option maxRecDepth 100000
set_option maxHeartbeats 16000000
namespace Go.He
open Go.Proofs
open Go.Sx
def frB (u : Nat → Int) (i : Nat) : Int := if i = 0 then 0 else u (i - 1) + 1
theorem frB_S (u : Nat → Int) (i : Nat) : frB u (i + 1) = u i + 1 := rfl
theorem frB_0 (u : Nat → Int) : frB u 0 = 0 := rfl
theorem incB_fr {m : Nat} {u : Nat → Int} {i : Nat} (h : incB m u i) : incB m u (i + 1) ↔ frB u i ≤ u i ∧ u i ≤ (m : Int) - 1 := by
 rw [incB_S h]
 cases i with
 | zero => rw [frB_0]; constructor; exact fun a => ⟨a.1, by omega⟩; exact fun a => ⟨a.1, by omega, fun h => by omega⟩
 | succ i =>
  have hp := (h i (by omega)).1
  have e : u (i + 1 - 1) = u i := rfl
  rw [frB_S, e]
  constructor
  ·exact fun a => ⟨by have := a.2.2 (by omega); omega, by omega⟩
  ·exact fun a => ⟨by omega, by omega, fun _ => by omega⟩
theorem c40 (N : Int) (m : Nat) (w : Nat → Wd) (hm : m ≤ 1000000) (l : Nat) (u : Nat → Int) (hl : l ≤ 1000) : Contract Try.prog 40 [rsv N m w, ints l u] (I (ckB N m w l u)) := by
 refine contract_ofF (farL [(12, [(0, 0)])]) Try.func40 rfl (by kernel_rfl) follows (by kernel_rfl) _ _ (by rw [Try.ntmps40]; simp) (by simp [OldL, Old, QV, rsv, ints]) ?_
 by_cases he : ckR N m w = 0
 ·have ⟨n2, n5, m12, _⟩ := ckR_ok he
  obtain ⟨n, rfl⟩ : ∃ n : Nat, N = n := ⟨N.toNat, by omega⟩
  have hw := ckR_fit he
  have hal := agrs_len (w := w) (m := m) (n := n) (by omega)
  unfold rsv ints I
  (repeat' (first | with_reducible (first | apply splitVC_d <;> intro _ | apply splitVC <;> intro _) | ((with_reducible refine And.intro ?_ ?_); focus (first | exact True.intro | omega | (simp only [InK, ne_eq, and_true, true_and]; omega) | (and_intros <;> first | exact .inr trivial | exact Nat.le_refl _ | exact one1 _ | exact one5 _ _ _ _ _ | exact one3 _ _ _ | exact .inl rfl | omega) | trivial)) | (simp -dsimp only [↓RP, RQ, Nat.reduceMul, reduceIte, reduceCtorEq, Nat.reduceAdd, Nat.reduceEqDiff, Nat.reduceLT, Nat.reduceLeDiff, ↓RW, QW, Try.results40])))
  refine callVC_old (c56 n m w hm he) (by (simp -dsimp only [↓RP, RQ, Nat.reduceMul, reduceIte, reduceCtorEq, Nat.reduceAdd, Nat.reduceEqDiff, Nat.reduceLT, Nat.reduceLeDiff, QX]); all_goals (try simp [QV, Go.Sx.Sub, Go.Sx.SubL]); all_goals (try exact lit2 _ _)) ?_
  (repeat' (first | with_reducible (first | apply splitVC_d <;> intro _ | apply splitVC <;> intro _) | ((with_reducible refine And.intro ?_ ?_); focus (first | exact True.intro | omega | (simp only [InK, ne_eq, and_true, true_and]; omega) | (and_intros <;> first | exact .inr trivial | exact Nat.le_refl _ | exact one1 _ | exact one5 _ _ _ _ _ | exact one3 _ _ _ | exact .inl rfl | omega) | trivial)) | (simp -dsimp only [↓RP, RQ, Nat.reduceMul, reduceIte, reduceCtorEq, Nat.reduceAdd, Nat.reduceEqDiff, Nat.reduceLT, Nat.reduceLeDiff, ↓RW, QW, Try.results40])))
  all_goals try (exfalso; omega)
  refine loop_vc (fun (i : Nat) => i ≤ l ∧ incB m u i) (fun i => ⟨[(2, .ptr 0 0), (5, .ref true 2 (fun j => rf n m w j)), (7, .ptr 15 0), (8, .val (.int .i64 (frB u i))), (25, .arr false false l 1 (fun i _ => .val (.int .i64 (u i)))), (26, .val (.int .i64 (l : Nat))), (27, .val (.int .i64 (i : Nat)))], [(15, .cells 98 [.val (.int .i64 (n : Nat)), .vec 60 i 3]), (60, .rows 39 3 i (fun a b => wf (onlyW w (natL l u) a) b)), (0, .cells 24 [.val (.int .i64 (n : Nat)), .arr false false m 3 (fun i j => wf (w i) j)])], 80⟩) (fun i => l - i) 0 ⟨Nat.zero_le _, fun i h => absurd h (Nat.not_lt_zero _)⟩ (weak [(60, none)] [] ?_ ?_ ?_) fun i hi => ?_
  iterate 3 focus ((simp -dsimp only [↓RP, RQ, Nat.reduceMul, reduceIte, reduceCtorEq, Nat.reduceAdd, Nat.reduceEqDiff, Nat.reduceLT, Nat.reduceLeDiff, QV, frB_0]); all_goals (try simp [QV, frB_0]))
  obtain ⟨hi, hi2⟩ := hi
  by_cases hlt : i < l
  ·have hS := incB_fr hi2
   (repeat' (first | with_reducible (first | apply splitVC_d <;> intro _ | apply splitVC <;> intro _) | ((with_reducible refine And.intro ?_ ?_); focus (first | exact True.intro | omega | (simp only [InK, ne_eq, and_true, true_and]; omega) | (and_intros <;> first | exact .inr trivial | exact Nat.le_refl _ | exact one1 _ | exact one5 _ _ _ _ _ | exact one3 _ _ _ | exact .inl rfl | omega) | trivial)) | (simp -dsimp only [↓RP, RQ, Nat.reduceMul, reduceIte, reduceCtorEq, Nat.reduceAdd, Nat.reduceEqDiff, Nat.reduceLT, Nat.reduceLeDiff, ↓RW, QW, Try.results40])))
   all_goals try (exfalso; omega)
   refine callVC (c51_1 (u i) (frB u i) ((m : Int) - 1)) (by (simp -dsimp only [↓RP, RQ, Nat.reduceMul, reduceIte, reduceCtorEq, Nat.reduceAdd, Nat.reduceEqDiff, Nat.reduceLT, Nat.reduceLeDiff, QV, ints, I]); all_goals (try simp [QV, Go.Sx.Sub, Go.Sx.SubL])) (by (simp -dsimp only [↓RP, RQ, Nat.reduceMul, reduceIte, reduceCtorEq, Nat.reduceAdd, Nat.reduceEqDiff, Nat.reduceLT, Nat.reduceLeDiff, QX]); all_goals (try simp [QV])) ?_
   by_cases hc : frB u i ≤ u i ∧ u i ≤ (m : Int) - 1
   ·have f1 := decide_eq_true hc
    have hyes := hS.2 hc
    have hr := hyes i (by omega)
    have eg := natL_get (u := u) hlt
    have hum : (u i).toNat < m := by omega
    (repeat' (first | with_reducible (first | apply splitVC_d <;> intro _ | apply splitVC <;> intro _) | ((with_reducible refine And.intro ?_ ?_); focus (first | exact True.intro | omega | (simp only [InK, ne_eq, and_true, true_and]; omega) | (and_intros <;> first | exact .inr trivial | exact Nat.le_refl _ | exact one1 _ | exact one5 _ _ _ _ _ | exact one3 _ _ _ | exact .inl rfl | omega) | trivial)) | (simp -dsimp only [↓RP, RQ, Nat.reduceMul, reduceIte, reduceCtorEq, Nat.reduceAdd, Nat.reduceEqDiff, Nat.reduceLT, Nat.reduceLeDiff, f1, ↓RW, QW, Try.results40])))
    all_goals first | (exfalso; omega) | omega | skip
    all_goals (refine growRegion follows [] (by kernel_rfl) ?_)
    (repeat' (first | with_reducible (first | apply splitVC_d <;> intro _ | apply splitVC <;> intro _) | ((with_reducible refine And.intro ?_ ?_); focus (first | exact True.intro | omega | (simp only [InK, ne_eq, and_true, true_and]; omega) | (and_intros <;> first | exact .inr trivial | exact Nat.le_refl _ | exact one1 _ | exact one5 _ _ _ _ _ | exact one3 _ _ _ | exact .inl rfl | omega) | trivial)) | (simp -dsimp only [↓RP, RQ, Nat.reduceMul, reduceIte, reduceCtorEq, Nat.reduceAdd, Nat.reduceEqDiff, Nat.reduceLT, Nat.reduceLeDiff, ↓RW, QW, Try.results40])))
    all_goals first | (exfalso; omega) | omega | skip
    refine ⟨i + 1, ⟨by omega, hyes⟩, by omega, weak [(60, some 108)] [] ?_ ?_ ?_⟩
    ·(simp -dsimp only [↓RP, RQ, Nat.reduceMul, reduceIte, reduceCtorEq, Nat.reduceAdd, Nat.reduceEqDiff, Nat.reduceLT, Nat.reduceLeDiff, QV, frB_S]); all_goals (try simp [QV, frB_S])
    ·(simp -dsimp only [↓RP, RQ, Nat.reduceMul, reduceIte, reduceCtorEq, Nat.reduceAdd, Nat.reduceEqDiff, Nat.reduceLT, Nat.reduceLeDiff, QV]); all_goals (try simp [QV]); all_goals (intro a j ha hj; have e := growW w (natL l u) i a j ha hj; rw [eg] at e; rw [e]; simp only [wf_wk])
    ·(simp -dsimp only [↓RP, RQ, Nat.reduceMul, reduceIte, reduceCtorEq, Nat.reduceAdd, Nat.reduceEqDiff, Nat.reduceLT, Nat.reduceLeDiff, QV]); all_goals (try simp [QV])
   ·have f1 := decide_eq_false hc
    rw [ckB_bad he (fun h => hc (hS.1 (incB_le (by omega) h)))]
    (repeat' (first | with_reducible (first | apply splitVC_d <;> intro _ | apply splitVC <;> intro _) | ((with_reducible refine And.intro ?_ ?_); focus (first | exact True.intro | omega | (simp only [InK, ne_eq, and_true, true_and]; omega) | (and_intros <;> first | exact .inr trivial | exact Nat.le_refl _ | exact one1 _ | exact one5 _ _ _ _ _ | exact one3 _ _ _ | exact .inl rfl | omega) | trivial)) | (simp -dsimp only [↓RP, RQ, Nat.reduceMul, reduceIte, reduceCtorEq, Nat.reduceAdd, Nat.reduceEqDiff, Nat.reduceLT, Nat.reduceLeDiff, f1, ↓RW, QW, Try.results40])))
    all_goals try (exfalso; omega)
  ·have hkl : l = i := by omega
   subst hkl
   have hli := incB_m hi2
   have hnl := natL_len l u
   have hlt' := natL_lt hi2
   have hwo := only_fit hw hlt'
   rw [hnl] at hwo
   have hao := agrs_len (w := onlyW w (natL l u)) (m := l) (n := n) (by omega)
   have hle := only_le (w := w) (n := n) hlt'
   rw [hnl] at hle
   rw [ckB_ok he hi2]
   (repeat' (first | with_reducible (first | apply splitVC_d <;> intro _ | apply splitVC <;> intro _) | ((with_reducible refine And.intro ?_ ?_); focus (first | exact True.intro | omega | (simp only [InK, ne_eq, and_true, true_and]; omega) | (and_intros <;> first | exact .inr trivial | exact Nat.le_refl _ | exact one1 _ | exact one5 _ _ _ _ _ | exact one3 _ _ _ | exact .inl rfl | omega) | trivial)) | (simp -dsimp only [↓RP, RQ, Nat.reduceMul, reduceIte, reduceCtorEq, Nat.reduceAdd, Nat.reduceEqDiff, Nat.reduceLT, Nat.reduceLeDiff, ↓RW, QW, Try.results40])))
   all_goals try (exfalso; omega)
   refine callVC (c72 n (by omega) (by omega) m hm w hw) ?_ ?_ ?_; iterate 2 focus ((simp -dsimp only [↓RP, RQ, Nat.reduceMul, reduceIte, reduceCtorEq, Nat.reduceAdd, Nat.reduceEqDiff, Nat.reduceLT, Nat.reduceLeDiff, QX]); all_goals (try simp [QV, Go.Sx.Sub, Go.Sx.SubL]); all_goals (try exact lit2 _ _))
   by_cases h0 : (agrs w m n).length = 0
   ·rw [if_pos h0]
    (repeat' (first | with_reducible (first | apply splitVC_d <;> intro _ | apply splitVC <;> intro _) | ((with_reducible refine And.intro ?_ ?_); focus (first | exact True.intro | omega | (simp only [InK, ne_eq, and_true, true_and]; omega) | (and_intros <;> first | exact .inr trivial | exact Nat.le_refl _ | exact one1 _ | exact one5 _ _ _ _ _ | exact one3 _ _ _ | exact .inl rfl | omega) | trivial)) | (simp -dsimp only [↓RP, RQ, Nat.reduceMul, reduceIte, reduceCtorEq, Nat.reduceAdd, Nat.reduceEqDiff, Nat.reduceLT, Nat.reduceLeDiff, h0, ↓RW, QW, Try.results40])))
    all_goals try (exfalso; omega)
   ·rw [if_neg h0]
    (repeat' (first | with_reducible (first | apply splitVC_d <;> intro _ | apply splitVC <;> intro _) | ((with_reducible refine And.intro ?_ ?_); focus (first | exact True.intro | omega | (simp only [InK, ne_eq, and_true, true_and]; omega) | (and_intros <;> first | exact .inr trivial | exact Nat.le_refl _ | exact one1 _ | exact one5 _ _ _ _ _ | exact one3 _ _ _ | exact .inl rfl | omega) | trivial)) | (simp -dsimp only [↓RP, RQ, Nat.reduceMul, reduceIte, reduceCtorEq, Nat.reduceAdd, Nat.reduceEqDiff, Nat.reduceLT, Nat.reduceLeDiff, h0, ↓RW, QW, Try.results40])))
    all_goals try (exfalso; omega)
    refine callVC (c64 n (by omega) (by omega) l (by omega) (onlyW w (natL l u)) hwo) (by (simp -dsimp only [↓RP, RQ, Nat.reduceMul, reduceIte, reduceCtorEq, Nat.reduceAdd, Nat.reduceEqDiff, Nat.reduceLT, Nat.reduceLeDiff, QV, pref]); all_goals (try simp [QV, Go.Sx.Sub, Go.Sx.SubL])) (by (simp -dsimp only [↓RP, RQ, Nat.reduceMul, reduceIte, reduceCtorEq, Nat.reduceAdd, Nat.reduceEqDiff, Nat.reduceLT, Nat.reduceLeDiff, QX]); all_goals (try simp [QV])) ?_
    by_cases h1 : (agrs (onlyW w (natL l u)) l n).length = (agrs w m n).length
    ·have f1 := decide_eq_false (show ¬ (((agrs w m n).length : Nat) : Int) < (((agrs (onlyW w (natL l u)) l n).length : Nat) : Int) by omega)
     rw [if_pos h1]
     (repeat' (first | with_reducible (first | apply splitVC_d <;> intro _ | apply splitVC <;> intro _) | ((with_reducible refine And.intro ?_ ?_); focus (first | exact True.intro | omega | (simp only [InK, ne_eq, and_true, true_and]; omega) | (and_intros <;> first | exact .inr trivial | exact Nat.le_refl _ | exact one1 _ | exact one5 _ _ _ _ _ | exact one3 _ _ _ | exact .inl rfl | omega) | trivial)) | (simp -dsimp only [↓RP, RQ, Nat.reduceMul, reduceIte, reduceCtorEq, Nat.reduceAdd, Nat.reduceEqDiff, Nat.reduceLT, Nat.reduceLeDiff, h0, f1, ↓RW, QW, Try.results40])))
     all_goals try (exfalso; omega)
    ·have f1 := decide_eq_true (show (((agrs w m n).length : Nat) : Int) < (((agrs (onlyW w (natL l u)) l n).length : Nat) : Int) by omega)
     rw [if_neg h1]
     (repeat' (first | with_reducible (first | apply splitVC_d <;> intro _ | apply splitVC <;> intro _) | ((with_reducible refine And.intro ?_ ?_); focus (first | exact True.intro | omega | (simp only [InK, ne_eq, and_true, true_and]; omega) | (and_intros <;> first | exact .inr trivial | exact Nat.le_refl _ | exact one1 _ | exact one5 _ _ _ _ _ | exact one3 _ _ _ | exact .inl rfl | omega) | trivial)) | (simp -dsimp only [↓RP, RQ, Nat.reduceMul, reduceIte, reduceCtorEq, Nat.reduceAdd, Nat.reduceEqDiff, Nat.reduceLT, Nat.reduceLeDiff, h0, f1, ↓RW, QW, Try.results40])))
     all_goals try (exfalso; omega)
 ·rw [ckB_err he]
  have hd : (!decide (ckR N m w = 0)) = true := by simp [he]
  unfold rsv ints I
  (repeat' (first | with_reducible (first | apply splitVC_d <;> intro _ | apply splitVC <;> intro _) | ((with_reducible refine And.intro ?_ ?_); focus (first | exact True.intro | omega | (simp only [InK, ne_eq, and_true, true_and]; omega) | (and_intros <;> first | exact .inr trivial | exact Nat.le_refl _ | exact one1 _ | exact one5 _ _ _ _ _ | exact one3 _ _ _ | exact .inl rfl | omega) | trivial)) | (simp -dsimp only [↓RP, RQ, Nat.reduceMul, reduceIte, reduceCtorEq, Nat.reduceAdd, Nat.reduceEqDiff, Nat.reduceLT, Nat.reduceLeDiff, hd, ↓RW, QW, Try.results40])))
  refine callVC_old (c56e N m w hm he) (by (simp -dsimp only [↓RP, RQ, Nat.reduceMul, reduceIte, reduceCtorEq, Nat.reduceAdd, Nat.reduceEqDiff, Nat.reduceLT, Nat.reduceLeDiff, QX]); all_goals (try simp [QV, Go.Sx.Sub, Go.Sx.SubL]); all_goals (try exact lit2 _ _)) ?_
  (repeat' (first | with_reducible (first | apply splitVC_d <;> intro _ | apply splitVC <;> intro _) | ((with_reducible refine And.intro ?_ ?_); focus (first | exact True.intro | omega | (simp only [InK, ne_eq, and_true, true_and]; omega) | (and_intros <;> first | exact .inr trivial | exact Nat.le_refl _ | exact one1 _ | exact one5 _ _ _ _ _ | exact one3 _ _ _ | exact .inl rfl | omega) | trivial)) | (simp -dsimp only [↓RP, RQ, Nat.reduceMul, reduceIte, reduceCtorEq, Nat.reduceAdd, Nat.reduceEqDiff, Nat.reduceLT, Nat.reduceLeDiff, hd, ↓RW, QW, Try.results40])))
end Go.He
end
section
set_option linter.unusedSimpArgs false
set_option linter.unusedVariables false
set_option linter.defProp false
set_option maxRecDepth 100000
set_option maxHeartbeats 16000000
namespace Go.He
open Go.Proofs
open Go.Sx
def rsT (n : Int) (m : Nat) (w : Nat → Wd) : SV := .agg [.val (.int .i64 n), .arr true false m 3 (fun i j => wf (w i) j)]
theorem c46 (a k b : Int) : Contract Try.prog 46 [I a, I k, I b] (wag ⟨a, b, k⟩) := by
 refine contract_of Try.func46 rfl (by kernel_rfl) follows (by kernel_rfl) _ _ (by rw [Try.ntmps46]; simp) (by simp [OldL, Old, QV, I]) ?_
 unfold wag I
 (repeat' (first | with_reducible (first | apply splitVC_d <;> intro _ | apply splitVC <;> intro _) | ((with_reducible refine And.intro ?_ ?_); focus (first | exact True.intro | omega | (simp only [InK, ne_eq, and_true, true_and]; omega) | trivial)) | (simp -dsimp only [↓RP, RQ, Nat.reduceMul, reduceIte, reduceCtorEq, Nat.reduceAdd, Nat.reduceEqDiff, Nat.reduceLT, Nat.reduceLeDiff, QW, Try.results46])))
def wR (i : Nat) : Wd := if i = 0 then ⟨0, 1, 0⟩ else if i = 1 then ⟨2, 1, 2⟩ else ⟨1, 2, 0⟩
def wO (i : Nat) : Wd := if i = 0 then ⟨0, 1, 0⟩ else if i = 1 then ⟨1, 2, 0⟩ else ⟨0, 2, 0⟩
def li (l : List Int) (i : Nat) : Int := l.getD i 0
theorem k21a : ckF 3 2 wR 3 (li [1, 2, 2]) = 0 := by kernel_rfl
theorem k21b : ckF 3 2 wR 3 (li [1, 2, 1]) = 16 := by kernel_rfl
theorem k21c : ckF 3 2 wR 3 (li [2, 1, 3]) = 22 := by kernel_rfl
theorem k23e : fnE 3 2 wR = 0 := by kernel_rfl
theorem k23l : fnL 3 2 wR = 3 := by kernel_rfl
theorem k25a : cnV 3 2 wR = 4 := by kernel_rfl
theorem kra : ckR 3 2 wR = 0 := by kernel_rfl
theorem k25b : cnV 3 3 wR = 0 := by kernel_rfl
theorem krb : ckR 3 3 wR = 0 := by kernel_rfl
theorem k29a : ckC 3 3 wR 2 (li [1, 2]) = 0 := by kernel_rfl
theorem k29b : ckC 3 3 wR 2 (li [0, 1]) = 16 := by kernel_rfl
theorem k28l : ciL 3 3 wR = [2, 1] := by kernel_rfl
theorem k28e : ciE 3 3 wR = 0 := by kernel_rfl
theorem k28f : ciE 3 2 wR = 11 := by kernel_rfl
theorem k28g : ciL 3 2 wR = [] := by kernel_rfl
theorem k32a : kdA 3 2 wR (bdW 3 ⟨0, 2, 0⟩) (pW (Int.toNat 3) ⟨0, 2, 0⟩) = 1 := by kernel_rfl
theorem k32e : kdE 3 2 wR (bdW 3 ⟨0, 2, 0⟩) = 0 := by kernel_rfl
theorem k32f : kdE 3 3 wR (bdW 3 ⟨0, 1, 0⟩) = 22 := by kernel_rfl
theorem k34a : plV 3 2 wR 1 = (2, 3) := by kernel_rfl
theorem k34e : kdE 3 2 wR (bdP 3 1) = 0 := by kernel_rfl
theorem k36a : kdA 3 2 wR (bdQ 3 0 2) (pQ (Int.toNat 3) 0 2) = 2 := by kernel_rfl
theorem k36e : kdE 3 2 wR (bdQ 3 0 2) = 0 := by kernel_rfl
theorem k38a : baL 3 3 wO = [0, 1] := by kernel_rfl
theorem k38e : fnE 3 3 wO = 0 := by kernel_rfl
theorem k40a : ckB 3 3 wO 2 (li [0, 2]) = 5 := by kernel_rfl
theorem k27b : decide (sameI 2 (fun i => (([0, 1] : List Nat).getD i 0 : Nat)) 2 (li [0, 1])) = true := by kernel_rfl
theorem k30 : ckC 3 3 wR 2 (fun i => (([2, 1] : List Nat).getD i 0 : Nat)) = 0 := by kernel_rfl
theorem k27a : decide (sameI 3 (fnF 3 2 wR) 3 (li [1, 2, 2])) = true := by kernel_rfl
end Go.He
end
section
set_option linter.unusedSimpArgs false
set_option linter.unusedVariables false
set_option linter.defProp false
set_option maxRecDepth 100000
set_option maxHeartbeats 16000000
namespace Go.He
open Go.Proofs
open Go.Sx
theorem c50  : Contract Try.prog 50 [] (rsT 3 3 wO) := by
 refine contract_of Try.func50 rfl (by kernel_rfl) follows (by kernel_rfl) _ _ (by rw [Try.ntmps50]; simp) (by simp [OldL]) ?_
 unfold rsT
 (repeat' (first | with_reducible (first | apply splitVC_d <;> intro _ | apply splitVC <;> intro _) | ((with_reducible refine And.intro ?_ ?_); focus (first | exact True.intro | omega | (simp only [InK, ne_eq, and_true, true_and]; omega) | (and_intros <;> first | exact .inr trivial | exact Nat.le_refl _ | exact one1 _ | exact one5 _ _ _ _ _ | exact one3 _ _ _ | exact .inl rfl | omega) | trivial)) | (simp -dsimp only [↓RP, RQ, Nat.reduceMul, reduceIte, reduceCtorEq, Nat.reduceAdd, Nat.reduceEqDiff, Nat.reduceLT, Nat.reduceLeDiff, wag, QW, Try.results50])))
 refine callVC (c46 (0) (0) (1)) ?_ ?_ ?_; iterate 2 focus ((simp -dsimp only [↓RP, RQ, Nat.reduceMul, reduceIte, reduceCtorEq, Nat.reduceAdd, Nat.reduceEqDiff, Nat.reduceLT, Nat.reduceLeDiff, QV, wag, I]); all_goals (try simp [QV]))
 (repeat' (first | with_reducible (first | apply splitVC_d <;> intro _ | apply splitVC <;> intro _) | ((with_reducible refine And.intro ?_ ?_); focus (first | exact True.intro | omega | (simp only [InK, ne_eq, and_true, true_and]; omega) | (and_intros <;> first | exact .inr trivial | exact Nat.le_refl _ | exact one1 _ | exact one5 _ _ _ _ _ | exact one3 _ _ _ | exact .inl rfl | omega) | trivial)) | (simp -dsimp only [↓RP, RQ, Nat.reduceMul, reduceIte, reduceCtorEq, Nat.reduceAdd, Nat.reduceEqDiff, Nat.reduceLT, Nat.reduceLeDiff, wag, QW, Try.results50])))
 refine callVC (c46 (1) (0) (2)) ?_ ?_ ?_; iterate 2 focus ((simp -dsimp only [↓RP, RQ, Nat.reduceMul, reduceIte, reduceCtorEq, Nat.reduceAdd, Nat.reduceEqDiff, Nat.reduceLT, Nat.reduceLeDiff, QV, wag, I]); all_goals (try simp [QV]))
 (repeat' (first | with_reducible (first | apply splitVC_d <;> intro _ | apply splitVC <;> intro _) | ((with_reducible refine And.intro ?_ ?_); focus (first | exact True.intro | omega | (simp only [InK, ne_eq, and_true, true_and]; omega) | (and_intros <;> first | exact .inr trivial | exact Nat.le_refl _ | exact one1 _ | exact one5 _ _ _ _ _ | exact one3 _ _ _ | exact .inl rfl | omega) | trivial)) | (simp -dsimp only [↓RP, RQ, Nat.reduceMul, reduceIte, reduceCtorEq, Nat.reduceAdd, Nat.reduceEqDiff, Nat.reduceLT, Nat.reduceLeDiff, wag, QW, Try.results50])))
 refine callVC (c46 (0) (0) (2)) ?_ ?_ ?_; iterate 2 focus ((simp -dsimp only [↓RP, RQ, Nat.reduceMul, reduceIte, reduceCtorEq, Nat.reduceAdd, Nat.reduceEqDiff, Nat.reduceLT, Nat.reduceLeDiff, QV, wag, I]); all_goals (try simp [QV]))
 (repeat' (first | with_reducible (first | apply splitVC_d <;> intro _ | apply splitVC <;> intro _) | ((with_reducible refine And.intro ?_ ?_); focus (first | exact True.intro | omega | (simp only [InK, ne_eq, and_true, true_and]; omega) | (and_intros <;> first | exact .inr trivial | exact Nat.le_refl _ | exact one1 _ | exact one5 _ _ _ _ _ | exact one3 _ _ _ | exact .inl rfl | omega) | trivial)) | (simp -dsimp only [↓RP, RQ, Nat.reduceMul, reduceIte, reduceCtorEq, Nat.reduceAdd, Nat.reduceEqDiff, Nat.reduceLT, Nat.reduceLeDiff, wag, QW, Try.results50])))
 intro i j hi hj
 rcases three hi with rfl | rfl | rfl <;> rcases three hj with rfl | rfl | rfl <;> simp [wf, wO, Go.Sx.Sub]
theorem c49 (b : Bool) : Contract Try.prog 49 [B b] (rsT 3 (if b = true then 3 else 2) wR) := by
 refine contract_ofF (farL [(3, [(0, 0)])]) Try.func49 rfl (by kernel_rfl) follows (by kernel_rfl) _ _ (by rw [Try.ntmps49]; simp) (by simp [OldL, Old, B]) ?_
 unfold rsT B
 (repeat' (first | with_reducible (first | apply splitVC_d <;> intro _ | apply splitVC <;> intro _) | ((with_reducible refine And.intro ?_ ?_); focus (first | exact True.intro | omega | (simp only [InK, ne_eq, and_true, true_and]; omega) | (and_intros <;> first | exact .inr trivial | exact Nat.le_refl _ | exact one1 _ | exact one5 _ _ _ _ _ | exact one3 _ _ _ | exact .inl rfl | omega) | trivial)) | (simp -dsimp only [↓RP, RQ, Nat.reduceMul, reduceIte, reduceCtorEq, Nat.reduceAdd, Nat.reduceEqDiff, Nat.reduceLT, Nat.reduceLeDiff, wag, ↓RW, QW, Try.results49])))
 refine callVC (c46 (0) (0) (1)) ?_ ?_ ?_; iterate 2 focus ((simp -dsimp only [↓RP, RQ, Nat.reduceMul, reduceIte, reduceCtorEq, Nat.reduceAdd, Nat.reduceEqDiff, Nat.reduceLT, Nat.reduceLeDiff, QV, wag, I]); all_goals (try simp [QV]))
 (repeat' (first | with_reducible (first | apply splitVC_d <;> intro _ | apply splitVC <;> intro _) | ((with_reducible refine And.intro ?_ ?_); focus (first | exact True.intro | omega | (simp only [InK, ne_eq, and_true, true_and]; omega) | (and_intros <;> first | exact .inr trivial | exact Nat.le_refl _ | exact one1 _ | exact one5 _ _ _ _ _ | exact one3 _ _ _ | exact .inl rfl | omega) | trivial)) | (simp -dsimp only [↓RP, RQ, Nat.reduceMul, reduceIte, reduceCtorEq, Nat.reduceAdd, Nat.reduceEqDiff, Nat.reduceLT, Nat.reduceLeDiff, wag, ↓RW, QW, Try.results49])))
 refine callVC (c46 (2) (2) (1)) ?_ ?_ ?_; iterate 2 focus ((simp -dsimp only [↓RP, RQ, Nat.reduceMul, reduceIte, reduceCtorEq, Nat.reduceAdd, Nat.reduceEqDiff, Nat.reduceLT, Nat.reduceLeDiff, QV, wag, I]); all_goals (try simp [QV]))
 cases b with
 | false =>
  (repeat' (first | with_reducible (first | apply splitVC_d <;> intro _ | apply splitVC <;> intro _) | ((with_reducible refine And.intro ?_ ?_); focus (first | exact True.intro | omega | (simp only [InK, ne_eq, and_true, true_and]; omega) | (and_intros <;> first | exact .inr trivial | exact Nat.le_refl _ | exact one1 _ | exact one5 _ _ _ _ _ | exact one3 _ _ _ | exact .inl rfl | omega) | trivial)) | (simp -dsimp only [↓RP, RQ, Nat.reduceMul, reduceIte, reduceCtorEq, Nat.reduceAdd, Nat.reduceEqDiff, Nat.reduceLT, Nat.reduceLeDiff, wag, ↓RW, QW, Try.results49])))
  intro i j hi hj
  have hi2 : i = 0 ∨ i = 1 := by omega
  rcases hi2 with rfl | rfl <;> rcases three hj with rfl | rfl | rfl <;> simp [wf, wR, Go.Sx.Sub]
 | true =>
  (repeat' (first | with_reducible (first | apply splitVC_d <;> intro _ | apply splitVC <;> intro _) | ((with_reducible refine And.intro ?_ ?_); focus (first | exact True.intro | omega | (simp only [InK, ne_eq, and_true, true_and]; omega) | (and_intros <;> first | exact .inr trivial | exact Nat.le_refl _ | exact one1 _ | exact one5 _ _ _ _ _ | exact one3 _ _ _ | exact .inl rfl | omega) | trivial)) | (simp -dsimp only [↓RP, RQ, Nat.reduceMul, reduceIte, reduceCtorEq, Nat.reduceAdd, Nat.reduceEqDiff, Nat.reduceLT, Nat.reduceLeDiff, wag, ↓RW, QW, Try.results49])))
  all_goals (refine growRegion follows [] (by kernel_rfl) ?_)
  (repeat' (first | with_reducible (first | apply splitVC_d <;> intro _ | apply splitVC <;> intro _) | ((with_reducible refine And.intro ?_ ?_); focus (first | exact True.intro | omega | (simp only [InK, ne_eq, and_true, true_and]; omega) | (and_intros <;> first | exact .inr trivial | exact Nat.le_refl _ | exact one1 _ | exact one5 _ _ _ _ _ | exact one3 _ _ _ | exact .inl rfl | omega) | trivial)) | (simp -dsimp only [↓RP, RQ, Nat.reduceMul, reduceIte, reduceCtorEq, Nat.reduceAdd, Nat.reduceEqDiff, Nat.reduceLT, Nat.reduceLeDiff, wag, ↓RW, QW, Try.results49])))
  refine callVC (c46 (1) (0) (2)) ?_ ?_ ?_; iterate 2 focus ((simp -dsimp only [↓RP, RQ, Nat.reduceMul, reduceIte, reduceCtorEq, Nat.reduceAdd, Nat.reduceEqDiff, Nat.reduceLT, Nat.reduceLeDiff, QV, wag, I]); all_goals (try simp [QV]))
  (repeat' (first | with_reducible (first | apply splitVC_d <;> intro _ | apply splitVC <;> intro _) | ((with_reducible refine And.intro ?_ ?_); focus (first | exact True.intro | omega | (simp only [InK, ne_eq, and_true, true_and]; omega) | (and_intros <;> first | exact .inr trivial | exact Nat.le_refl _ | exact one1 _ | exact one5 _ _ _ _ _ | exact one3 _ _ _ | exact .inl rfl | omega) | trivial)) | (simp -dsimp only [↓RP, RQ, Nat.reduceMul, reduceIte, reduceCtorEq, Nat.reduceAdd, Nat.reduceEqDiff, Nat.reduceLT, Nat.reduceLeDiff, wag, ↓RW, QW, Try.results49])))
  intro i j hi hj
  rcases three hi with rfl | rfl | rfl <;> rcases three hj with rfl | rfl | rfl <;> simp [wf, wR, Go.Sx.Sub]
end Go.He
end
section
set_option linter.unusedSimpArgs false
set_option linter.unusedVariables false
set_option linter.defProp false
set_option maxRecDepth 100000
set_option maxHeartbeats 16000000
namespace Go.He
open Go.Proofs
open Go.Sx
theorem c18  : Contract Try.prog 18 [] (B true) := by
 refine contract_of Try.func18 rfl (by kernel_rfl) follows (by kernel_rfl) _ _ (by rw [Try.ntmps18]; simp) (by simp only [OldL]) ?_
 have h49a : Contract Try.prog 49 [B false] (rsT 3 2 wR) := c49 false
 have h49b : Contract Try.prog 49 [B true] (rsT 3 3 wR) := c49 true
 have h21a := c21 3 2 wR (by omega) 3 (li [1, 2, 2]) (by omega)
 rw [k21a] at h21a
 have h21b := c21 3 2 wR (by omega) 3 (li [1, 2, 1]) (by omega)
 rw [k21b] at h21b
 have h21c := c21 3 2 wR (by omega) 3 (li [2, 1, 3]) (by omega)
 rw [k21c] at h21c
 have h23 := c23 3 2 wR (by omega)
 rw [k23l] at h23
 rw [k23e] at h23
 have h25a := c25 3 2 wR (by omega)
 rw [k25a] at h25a
 rw [kra] at h25a
 have h25b := c25 3 3 wR (by omega)
 rw [k25b] at h25b
 rw [krb] at h25b
 have h29a := c29 3 3 wR (by omega) 2 (li [1, 2]) (by omega)
 rw [k29a] at h29a
 have h29b := c29 3 3 wR (by omega) 2 (li [0, 1]) (by omega)
 rw [k29b] at h29b
 have h28a := c28 3 3 wR (by omega)
 rw [k28l] at h28a
 rw [k28e] at h28a
 have h28b := c28 3 2 wR (by omega)
 rw [k28g] at h28b
 rw [k28f] at h28b
 have h32a := c32 3 2 wR (by omega) ⟨0, 2, 0⟩
 rw [k32a] at h32a
 rw [k32e] at h32a
 have h32b := c32 3 3 wR (by omega) ⟨0, 1, 0⟩
 rw [k32f] at h32b
 have h34 := c34 3 2 wR (by omega) 1
 rw [k34a] at h34
 rw [k34e] at h34
 have h36 := c36 3 2 wR (by omega) 0 2
 rw [k36a] at h36
 rw [k36e] at h36
 have h38 := c38 3 3 wO (by omega)
 rw [k38a] at h38
 rw [k38e] at h38
 have h27a := c27 3 (fnF 3 2 wR) 3 (li [1, 2, 2]) (by omega)
 rw [k27a] at h27a
 have h27b := c27 2 (fun i => (([0, 1] : List Nat).getD i 0 : Nat)) 2 (li [0, 1]) (by omega)
 rw [k27b] at h27b
 have h30 := c30 3 3 wR (by omega) 2 (fun i => (([2, 1] : List Nat).getD i 0 : Nat)) (by omega)
 rw [k30] at h30
 have h40 := c40 3 3 wO (by omega) 2 (li [0, 2]) (by omega)
 rw [k40a] at h40
 unfold B
 (repeat' (first | with_reducible (first | apply splitVC_d <;> intro _ | apply splitVC <;> intro _) | ((with_reducible refine And.intro ?_ ?_); focus (first | exact True.intro | omega | (simp only [InK, ne_eq, and_true, true_and]; omega) | (and_intros <;> first | exact .inr trivial | exact Nat.le_refl _ | exact one1 _ | exact one5 _ _ _ _ _ | exact one3 _ _ _ | exact .inl rfl | omega) | trivial)) | (simp -dsimp only [↓RP, RQ, Nat.reduceMul, reduceIte, reduceCtorEq, Nat.reduceAdd, Nat.reduceEqDiff, Nat.reduceLT, Nat.reduceLeDiff, rsT, Int.reduceEq, Int.reduceNeg, Int.reduceLT, Int.reduceLE, nsv, rgv, QW, Try.results18])))
 refine callVC h49a (by (simp -dsimp only [↓RP, RQ, Nat.reduceMul, reduceIte, reduceCtorEq, Nat.reduceAdd, Nat.reduceEqDiff, Nat.reduceLT, Nat.reduceLeDiff, QV, rsv, ints, I, B, wag]); all_goals (try simp [QV, Go.Sx.Sub, Go.Sx.SubL, wf_sub, li]); all_goals (try exact fun i hi => by rcases i with _ | _ | _ | i <;> first | rfl | omega)) (by (simp -dsimp only [↓RP, RQ, Nat.reduceMul, reduceIte, reduceCtorEq, Nat.reduceAdd, Nat.reduceEqDiff, Nat.reduceLT, Nat.reduceLeDiff, QV, rsT, nsv, rgv, I, B, wag]); all_goals (try simp [QV])) ?_
 (repeat' (first | with_reducible (first | apply splitVC_d <;> intro _ | apply splitVC <;> intro _) | ((with_reducible refine And.intro ?_ ?_); focus (first | exact True.intro | omega | (simp only [InK, ne_eq, and_true, true_and]; omega) | (and_intros <;> first | exact .inr trivial | exact Nat.le_refl _ | exact one1 _ | exact one5 _ _ _ _ _ | exact one3 _ _ _ | exact .inl rfl | omega) | trivial)) | (simp -dsimp only [↓RP, RQ, Nat.reduceMul, reduceIte, reduceCtorEq, Nat.reduceAdd, Nat.reduceEqDiff, Nat.reduceLT, Nat.reduceLeDiff, rsT, Int.reduceEq, Int.reduceNeg, Int.reduceLT, Int.reduceLE, nsv, rgv, QW, Try.results18])))
 refine callVC h49b (by (simp -dsimp only [↓RP, RQ, Nat.reduceMul, reduceIte, reduceCtorEq, Nat.reduceAdd, Nat.reduceEqDiff, Nat.reduceLT, Nat.reduceLeDiff, QV, rsv, ints, I, B, wag]); all_goals (try simp [QV, Go.Sx.Sub, Go.Sx.SubL, wf_sub, li]); all_goals (try exact fun i hi => by rcases i with _ | _ | _ | i <;> first | rfl | omega)) (by (simp -dsimp only [↓RP, RQ, Nat.reduceMul, reduceIte, reduceCtorEq, Nat.reduceAdd, Nat.reduceEqDiff, Nat.reduceLT, Nat.reduceLeDiff, QV, rsT, nsv, rgv, I, B, wag]); all_goals (try simp [QV])) ?_
 (repeat' (first | with_reducible (first | apply splitVC_d <;> intro _ | apply splitVC <;> intro _) | ((with_reducible refine And.intro ?_ ?_); focus (first | exact True.intro | omega | (simp only [InK, ne_eq, and_true, true_and]; omega) | (and_intros <;> first | exact .inr trivial | exact Nat.le_refl _ | exact one1 _ | exact one5 _ _ _ _ _ | exact one3 _ _ _ | exact .inl rfl | omega) | trivial)) | (simp -dsimp only [↓RP, RQ, Nat.reduceMul, reduceIte, reduceCtorEq, Nat.reduceAdd, Nat.reduceEqDiff, Nat.reduceLT, Nat.reduceLeDiff, rsT, Int.reduceEq, Int.reduceNeg, Int.reduceLT, Int.reduceLE, nsv, rgv, QW, Try.results18])))
 refine callVC c50 (by (simp -dsimp only [↓RP, RQ, Nat.reduceMul, reduceIte, reduceCtorEq, Nat.reduceAdd, Nat.reduceEqDiff, Nat.reduceLT, Nat.reduceLeDiff, QV, rsv, ints, I, B, wag]); all_goals (try simp [QV, Go.Sx.Sub, Go.Sx.SubL, wf_sub, li]); all_goals (try exact fun i hi => by rcases i with _ | _ | _ | i <;> first | rfl | omega)) (by (simp -dsimp only [↓RP, RQ, Nat.reduceMul, reduceIte, reduceCtorEq, Nat.reduceAdd, Nat.reduceEqDiff, Nat.reduceLT, Nat.reduceLeDiff, QV, rsT, nsv, rgv, I, B, wag]); all_goals (try simp [QV])) ?_
 (repeat' (first | with_reducible (first | apply splitVC_d <;> intro _ | apply splitVC <;> intro _) | ((with_reducible refine And.intro ?_ ?_); focus (first | exact True.intro | omega | (simp only [InK, ne_eq, and_true, true_and]; omega) | (and_intros <;> first | exact .inr trivial | exact Nat.le_refl _ | exact one1 _ | exact one5 _ _ _ _ _ | exact one3 _ _ _ | exact .inl rfl | omega) | trivial)) | (simp -dsimp only [↓RP, RQ, Nat.reduceMul, reduceIte, reduceCtorEq, Nat.reduceAdd, Nat.reduceEqDiff, Nat.reduceLT, Nat.reduceLeDiff, rsT, Int.reduceEq, Int.reduceNeg, Int.reduceLT, Int.reduceLE, nsv, rgv, QW, Try.results18])))
 refine callVC h21a (by (simp -dsimp only [↓RP, RQ, Nat.reduceMul, reduceIte, reduceCtorEq, Nat.reduceAdd, Nat.reduceEqDiff, Nat.reduceLT, Nat.reduceLeDiff, QV, rsv, ints, I, B, wag]); all_goals (try simp [QV, Go.Sx.Sub, Go.Sx.SubL, wf_sub, li]); all_goals (try exact fun i hi => by rcases i with _ | _ | _ | i <;> first | rfl | omega)) (by (simp -dsimp only [↓RP, RQ, Nat.reduceMul, reduceIte, reduceCtorEq, Nat.reduceAdd, Nat.reduceEqDiff, Nat.reduceLT, Nat.reduceLeDiff, QV, rsT, nsv, rgv, I, B, wag]); all_goals (try simp [QV])) ?_
 (repeat' (first | with_reducible (first | apply splitVC_d <;> intro _ | apply splitVC <;> intro _) | ((with_reducible refine And.intro ?_ ?_); focus (first | exact True.intro | omega | (simp only [InK, ne_eq, and_true, true_and]; omega) | (and_intros <;> first | exact .inr trivial | exact Nat.le_refl _ | exact one1 _ | exact one5 _ _ _ _ _ | exact one3 _ _ _ | exact .inl rfl | omega) | trivial)) | (simp -dsimp only [↓RP, RQ, Nat.reduceMul, reduceIte, reduceCtorEq, Nat.reduceAdd, Nat.reduceEqDiff, Nat.reduceLT, Nat.reduceLeDiff, rsT, Int.reduceEq, Int.reduceNeg, Int.reduceLT, Int.reduceLE, nsv, rgv, QW, Try.results18])))
 refine callVC h21b (by (simp -dsimp only [↓RP, RQ, Nat.reduceMul, reduceIte, reduceCtorEq, Nat.reduceAdd, Nat.reduceEqDiff, Nat.reduceLT, Nat.reduceLeDiff, QV, rsv, ints, I, B, wag]); all_goals (try simp [QV, Go.Sx.Sub, Go.Sx.SubL, wf_sub, li]); all_goals (try exact fun i hi => by rcases i with _ | _ | _ | i <;> first | rfl | omega)) (by (simp -dsimp only [↓RP, RQ, Nat.reduceMul, reduceIte, reduceCtorEq, Nat.reduceAdd, Nat.reduceEqDiff, Nat.reduceLT, Nat.reduceLeDiff, QV, rsT, nsv, rgv, I, B, wag]); all_goals (try simp [QV])) ?_
 (repeat' (first | with_reducible (first | apply splitVC_d <;> intro _ | apply splitVC <;> intro _) | ((with_reducible refine And.intro ?_ ?_); focus (first | exact True.intro | omega | (simp only [InK, ne_eq, and_true, true_and]; omega) | (and_intros <;> first | exact .inr trivial | exact Nat.le_refl _ | exact one1 _ | exact one5 _ _ _ _ _ | exact one3 _ _ _ | exact .inl rfl | omega) | trivial)) | (simp -dsimp only [↓RP, RQ, Nat.reduceMul, reduceIte, reduceCtorEq, Nat.reduceAdd, Nat.reduceEqDiff, Nat.reduceLT, Nat.reduceLeDiff, rsT, Int.reduceEq, Int.reduceNeg, Int.reduceLT, Int.reduceLE, nsv, rgv, QW, Try.results18])))
 refine callVC h21c (by (simp -dsimp only [↓RP, RQ, Nat.reduceMul, reduceIte, reduceCtorEq, Nat.reduceAdd, Nat.reduceEqDiff, Nat.reduceLT, Nat.reduceLeDiff, QV, rsv, ints, I, B, wag]); all_goals (try simp [QV, Go.Sx.Sub, Go.Sx.SubL, wf_sub, li]); all_goals (try exact fun i hi => by rcases i with _ | _ | _ | i <;> first | rfl | omega)) (by (simp -dsimp only [↓RP, RQ, Nat.reduceMul, reduceIte, reduceCtorEq, Nat.reduceAdd, Nat.reduceEqDiff, Nat.reduceLT, Nat.reduceLeDiff, QV, rsT, nsv, rgv, I, B, wag]); all_goals (try simp [QV])) ?_
 (repeat' (first | with_reducible (first | apply splitVC_d <;> intro _ | apply splitVC <;> intro _) | ((with_reducible refine And.intro ?_ ?_); focus (first | exact True.intro | omega | (simp only [InK, ne_eq, and_true, true_and]; omega) | (and_intros <;> first | exact .inr trivial | exact Nat.le_refl _ | exact one1 _ | exact one5 _ _ _ _ _ | exact one3 _ _ _ | exact .inl rfl | omega) | trivial)) | (simp -dsimp only [↓RP, RQ, Nat.reduceMul, reduceIte, reduceCtorEq, Nat.reduceAdd, Nat.reduceEqDiff, Nat.reduceLT, Nat.reduceLeDiff, rsT, Int.reduceEq, Int.reduceNeg, Int.reduceLT, Int.reduceLE, nsv, rgv, QW, Try.results18])))
 refine callVC h23 (by (simp -dsimp only [↓RP, RQ, Nat.reduceMul, reduceIte, reduceCtorEq, Nat.reduceAdd, Nat.reduceEqDiff, Nat.reduceLT, Nat.reduceLeDiff, QV, rsv, ints, I, B, wag]); all_goals (try simp [QV, Go.Sx.Sub, Go.Sx.SubL, wf_sub, li]); all_goals (try exact fun i hi => by rcases i with _ | _ | _ | i <;> first | rfl | omega)) (by (simp -dsimp only [↓RP, RQ, Nat.reduceMul, reduceIte, reduceCtorEq, Nat.reduceAdd, Nat.reduceEqDiff, Nat.reduceLT, Nat.reduceLeDiff, QV, rsT, nsv, rgv, I, B, wag]); all_goals (try simp [QV])) ?_
 (repeat' (first | with_reducible (first | apply splitVC_d <;> intro _ | apply splitVC <;> intro _) | ((with_reducible refine And.intro ?_ ?_); focus (first | exact True.intro | omega | (simp only [InK, ne_eq, and_true, true_and]; omega) | (and_intros <;> first | exact .inr trivial | exact Nat.le_refl _ | exact one1 _ | exact one5 _ _ _ _ _ | exact one3 _ _ _ | exact .inl rfl | omega) | trivial)) | (simp -dsimp only [↓RP, RQ, Nat.reduceMul, reduceIte, reduceCtorEq, Nat.reduceAdd, Nat.reduceEqDiff, Nat.reduceLT, Nat.reduceLeDiff, rsT, Int.reduceEq, Int.reduceNeg, Int.reduceLT, Int.reduceLE, nsv, rgv, QW, Try.results18])))
 refine callVC h25a (by (simp -dsimp only [↓RP, RQ, Nat.reduceMul, reduceIte, reduceCtorEq, Nat.reduceAdd, Nat.reduceEqDiff, Nat.reduceLT, Nat.reduceLeDiff, QV, rsv, ints, I, B, wag]); all_goals (try simp [QV, Go.Sx.Sub, Go.Sx.SubL, wf_sub, li]); all_goals (try exact fun i hi => by rcases i with _ | _ | _ | i <;> first | rfl | omega)) (by (simp -dsimp only [↓RP, RQ, Nat.reduceMul, reduceIte, reduceCtorEq, Nat.reduceAdd, Nat.reduceEqDiff, Nat.reduceLT, Nat.reduceLeDiff, QV, rsT, nsv, rgv, I, B, wag]); all_goals (try simp [QV])) ?_
 (repeat' (first | with_reducible (first | apply splitVC_d <;> intro _ | apply splitVC <;> intro _) | ((with_reducible refine And.intro ?_ ?_); focus (first | exact True.intro | omega | (simp only [InK, ne_eq, and_true, true_and]; omega) | (and_intros <;> first | exact .inr trivial | exact Nat.le_refl _ | exact one1 _ | exact one5 _ _ _ _ _ | exact one3 _ _ _ | exact .inl rfl | omega) | trivial)) | (simp -dsimp only [↓RP, RQ, Nat.reduceMul, reduceIte, reduceCtorEq, Nat.reduceAdd, Nat.reduceEqDiff, Nat.reduceLT, Nat.reduceLeDiff, rsT, Int.reduceEq, Int.reduceNeg, Int.reduceLT, Int.reduceLE, nsv, rgv, QW, Try.results18])))
 refine callVC h25b (by (simp -dsimp only [↓RP, RQ, Nat.reduceMul, reduceIte, reduceCtorEq, Nat.reduceAdd, Nat.reduceEqDiff, Nat.reduceLT, Nat.reduceLeDiff, QV, rsv, ints, I, B, wag]); all_goals (try simp [QV, Go.Sx.Sub, Go.Sx.SubL, wf_sub, li]); all_goals (try exact fun i hi => by rcases i with _ | _ | _ | i <;> first | rfl | omega)) (by (simp -dsimp only [↓RP, RQ, Nat.reduceMul, reduceIte, reduceCtorEq, Nat.reduceAdd, Nat.reduceEqDiff, Nat.reduceLT, Nat.reduceLeDiff, QV, rsT, nsv, rgv, I, B, wag]); all_goals (try simp [QV])) ?_
 (repeat' (first | with_reducible (first | apply splitVC_d <;> intro _ | apply splitVC <;> intro _) | ((with_reducible refine And.intro ?_ ?_); focus (first | exact True.intro | omega | (simp only [InK, ne_eq, and_true, true_and]; omega) | (and_intros <;> first | exact .inr trivial | exact Nat.le_refl _ | exact one1 _ | exact one5 _ _ _ _ _ | exact one3 _ _ _ | exact .inl rfl | omega) | trivial)) | (simp -dsimp only [↓RP, RQ, Nat.reduceMul, reduceIte, reduceCtorEq, Nat.reduceAdd, Nat.reduceEqDiff, Nat.reduceLT, Nat.reduceLeDiff, rsT, Int.reduceEq, Int.reduceNeg, Int.reduceLT, Int.reduceLE, nsv, rgv, QW, Try.results18])))
 refine callVC h29a (by (simp -dsimp only [↓RP, RQ, Nat.reduceMul, reduceIte, reduceCtorEq, Nat.reduceAdd, Nat.reduceEqDiff, Nat.reduceLT, Nat.reduceLeDiff, QV, rsv, ints, I, B, wag]); all_goals (try simp [QV, Go.Sx.Sub, Go.Sx.SubL, wf_sub, li]); all_goals (try exact fun i hi => by rcases i with _ | _ | _ | i <;> first | rfl | omega)) (by (simp -dsimp only [↓RP, RQ, Nat.reduceMul, reduceIte, reduceCtorEq, Nat.reduceAdd, Nat.reduceEqDiff, Nat.reduceLT, Nat.reduceLeDiff, QV, rsT, nsv, rgv, I, B, wag]); all_goals (try simp [QV])) ?_
 (repeat' (first | with_reducible (first | apply splitVC_d <;> intro _ | apply splitVC <;> intro _) | ((with_reducible refine And.intro ?_ ?_); focus (first | exact True.intro | omega | (simp only [InK, ne_eq, and_true, true_and]; omega) | (and_intros <;> first | exact .inr trivial | exact Nat.le_refl _ | exact one1 _ | exact one5 _ _ _ _ _ | exact one3 _ _ _ | exact .inl rfl | omega) | trivial)) | (simp -dsimp only [↓RP, RQ, Nat.reduceMul, reduceIte, reduceCtorEq, Nat.reduceAdd, Nat.reduceEqDiff, Nat.reduceLT, Nat.reduceLeDiff, rsT, Int.reduceEq, Int.reduceNeg, Int.reduceLT, Int.reduceLE, nsv, rgv, QW, Try.results18])))
 refine callVC h29b (by (simp -dsimp only [↓RP, RQ, Nat.reduceMul, reduceIte, reduceCtorEq, Nat.reduceAdd, Nat.reduceEqDiff, Nat.reduceLT, Nat.reduceLeDiff, QV, rsv, ints, I, B, wag]); all_goals (try simp [QV, Go.Sx.Sub, Go.Sx.SubL, wf_sub, li]); all_goals (try exact fun i hi => by rcases i with _ | _ | _ | i <;> first | rfl | omega)) (by (simp -dsimp only [↓RP, RQ, Nat.reduceMul, reduceIte, reduceCtorEq, Nat.reduceAdd, Nat.reduceEqDiff, Nat.reduceLT, Nat.reduceLeDiff, QV, rsT, nsv, rgv, I, B, wag]); all_goals (try simp [QV])) ?_
 (repeat' (first | with_reducible (first | apply splitVC_d <;> intro _ | apply splitVC <;> intro _) | ((with_reducible refine And.intro ?_ ?_); focus (first | exact True.intro | omega | (simp only [InK, ne_eq, and_true, true_and]; omega) | (and_intros <;> first | exact .inr trivial | exact Nat.le_refl _ | exact one1 _ | exact one5 _ _ _ _ _ | exact one3 _ _ _ | exact .inl rfl | omega) | trivial)) | (simp -dsimp only [↓RP, RQ, Nat.reduceMul, reduceIte, reduceCtorEq, Nat.reduceAdd, Nat.reduceEqDiff, Nat.reduceLT, Nat.reduceLeDiff, rsT, Int.reduceEq, Int.reduceNeg, Int.reduceLT, Int.reduceLE, nsv, rgv, QW, Try.results18])))
 refine callVC h28a (by (simp -dsimp only [↓RP, RQ, Nat.reduceMul, reduceIte, reduceCtorEq, Nat.reduceAdd, Nat.reduceEqDiff, Nat.reduceLT, Nat.reduceLeDiff, QV, rsv, ints, I, B, wag]); all_goals (try simp [QV, Go.Sx.Sub, Go.Sx.SubL, wf_sub, li]); all_goals (try exact fun i hi => by rcases i with _ | _ | _ | i <;> first | rfl | omega)) (by (simp -dsimp only [↓RP, RQ, Nat.reduceMul, reduceIte, reduceCtorEq, Nat.reduceAdd, Nat.reduceEqDiff, Nat.reduceLT, Nat.reduceLeDiff, QV, rsT, nsv, rgv, I, B, wag]); all_goals (try simp [QV])) ?_
 (repeat' (first | with_reducible (first | apply splitVC_d <;> intro _ | apply splitVC <;> intro _) | ((with_reducible refine And.intro ?_ ?_); focus (first | exact True.intro | omega | (simp only [InK, ne_eq, and_true, true_and]; omega) | (and_intros <;> first | exact .inr trivial | exact Nat.le_refl _ | exact one1 _ | exact one5 _ _ _ _ _ | exact one3 _ _ _ | exact .inl rfl | omega) | trivial)) | (simp -dsimp only [↓RP, RQ, Nat.reduceMul, reduceIte, reduceCtorEq, Nat.reduceAdd, Nat.reduceEqDiff, Nat.reduceLT, Nat.reduceLeDiff, rsT, Int.reduceEq, Int.reduceNeg, Int.reduceLT, Int.reduceLE, nsv, rgv, QW, Try.results18])))
 refine callVC h28b (by (simp -dsimp only [↓RP, RQ, Nat.reduceMul, reduceIte, reduceCtorEq, Nat.reduceAdd, Nat.reduceEqDiff, Nat.reduceLT, Nat.reduceLeDiff, QV, rsv, ints, I, B, wag]); all_goals (try simp [QV, Go.Sx.Sub, Go.Sx.SubL, wf_sub, li]); all_goals (try exact fun i hi => by rcases i with _ | _ | _ | i <;> first | rfl | omega)) (by (simp -dsimp only [↓RP, RQ, Nat.reduceMul, reduceIte, reduceCtorEq, Nat.reduceAdd, Nat.reduceEqDiff, Nat.reduceLT, Nat.reduceLeDiff, QV, rsT, nsv, rgv, I, B, wag]); all_goals (try simp [QV])) ?_
 (repeat' (first | with_reducible (first | apply splitVC_d <;> intro _ | apply splitVC <;> intro _) | ((with_reducible refine And.intro ?_ ?_); focus (first | exact True.intro | omega | (simp only [InK, ne_eq, and_true, true_and]; omega) | (and_intros <;> first | exact .inr trivial | exact Nat.le_refl _ | exact one1 _ | exact one5 _ _ _ _ _ | exact one3 _ _ _ | exact .inl rfl | omega) | trivial)) | (simp -dsimp only [↓RP, RQ, Nat.reduceMul, reduceIte, reduceCtorEq, Nat.reduceAdd, Nat.reduceEqDiff, Nat.reduceLT, Nat.reduceLeDiff, rsT, Int.reduceEq, Int.reduceNeg, Int.reduceLT, Int.reduceLE, nsv, rgv, QW, Try.results18])))
 refine callVC (c46 (0) (0) (2)) ?_ ?_ ?_; iterate 2 focus ((simp -dsimp only [↓RP, RQ, Nat.reduceMul, reduceIte, reduceCtorEq, Nat.reduceAdd, Nat.reduceEqDiff, Nat.reduceLT, Nat.reduceLeDiff, QV, wag, I]); all_goals (try simp [QV]))
 (repeat' (first | with_reducible (first | apply splitVC_d <;> intro _ | apply splitVC <;> intro _) | ((with_reducible refine And.intro ?_ ?_); focus (first | exact True.intro | omega | (simp only [InK, ne_eq, and_true, true_and]; omega) | (and_intros <;> first | exact .inr trivial | exact Nat.le_refl _ | exact one1 _ | exact one5 _ _ _ _ _ | exact one3 _ _ _ | exact .inl rfl | omega) | trivial)) | (simp -dsimp only [↓RP, RQ, Nat.reduceMul, reduceIte, reduceCtorEq, Nat.reduceAdd, Nat.reduceEqDiff, Nat.reduceLT, Nat.reduceLeDiff, rsT, Int.reduceEq, Int.reduceNeg, Int.reduceLT, Int.reduceLE, nsv, rgv, QW, Try.results18])))
 refine callVC h32a (by (simp -dsimp only [↓RP, RQ, Nat.reduceMul, reduceIte, reduceCtorEq, Nat.reduceAdd, Nat.reduceEqDiff, Nat.reduceLT, Nat.reduceLeDiff, QV, rsv, ints, I, B, wag]); all_goals (try simp [QV, Go.Sx.Sub, Go.Sx.SubL, wf_sub, li]); all_goals (try exact fun i hi => by rcases i with _ | _ | _ | i <;> first | rfl | omega)) (by (simp -dsimp only [↓RP, RQ, Nat.reduceMul, reduceIte, reduceCtorEq, Nat.reduceAdd, Nat.reduceEqDiff, Nat.reduceLT, Nat.reduceLeDiff, QV, rsT, nsv, rgv, I, B, wag]); all_goals (try simp [QV])) ?_
 (repeat' (first | with_reducible (first | apply splitVC_d <;> intro _ | apply splitVC <;> intro _) | ((with_reducible refine And.intro ?_ ?_); focus (first | exact True.intro | omega | (simp only [InK, ne_eq, and_true, true_and]; omega) | (and_intros <;> first | exact .inr trivial | exact Nat.le_refl _ | exact one1 _ | exact one5 _ _ _ _ _ | exact one3 _ _ _ | exact .inl rfl | omega) | trivial)) | (simp -dsimp only [↓RP, RQ, Nat.reduceMul, reduceIte, reduceCtorEq, Nat.reduceAdd, Nat.reduceEqDiff, Nat.reduceLT, Nat.reduceLeDiff, rsT, Int.reduceEq, Int.reduceNeg, Int.reduceLT, Int.reduceLE, nsv, rgv, QW, Try.results18])))
 refine callVC (c46 (0) (0) (1)) ?_ ?_ ?_; iterate 2 focus ((simp -dsimp only [↓RP, RQ, Nat.reduceMul, reduceIte, reduceCtorEq, Nat.reduceAdd, Nat.reduceEqDiff, Nat.reduceLT, Nat.reduceLeDiff, QV, wag, I]); all_goals (try simp [QV]))
 (repeat' (first | with_reducible (first | apply splitVC_d <;> intro _ | apply splitVC <;> intro _) | ((with_reducible refine And.intro ?_ ?_); focus (first | exact True.intro | omega | (simp only [InK, ne_eq, and_true, true_and]; omega) | (and_intros <;> first | exact .inr trivial | exact Nat.le_refl _ | exact one1 _ | exact one5 _ _ _ _ _ | exact one3 _ _ _ | exact .inl rfl | omega) | trivial)) | (simp -dsimp only [↓RP, RQ, Nat.reduceMul, reduceIte, reduceCtorEq, Nat.reduceAdd, Nat.reduceEqDiff, Nat.reduceLT, Nat.reduceLeDiff, rsT, Int.reduceEq, Int.reduceNeg, Int.reduceLT, Int.reduceLE, nsv, rgv, QW, Try.results18])))
 refine callVC h32b (by (simp -dsimp only [↓RP, RQ, Nat.reduceMul, reduceIte, reduceCtorEq, Nat.reduceAdd, Nat.reduceEqDiff, Nat.reduceLT, Nat.reduceLeDiff, QV, rsv, ints, I, B, wag]); all_goals (try simp [QV, Go.Sx.Sub, Go.Sx.SubL, wf_sub, li]); all_goals (try exact fun i hi => by rcases i with _ | _ | _ | i <;> first | rfl | omega)) (by (simp -dsimp only [↓RP, RQ, Nat.reduceMul, reduceIte, reduceCtorEq, Nat.reduceAdd, Nat.reduceEqDiff, Nat.reduceLT, Nat.reduceLeDiff, QV, rsT, nsv, rgv, I, B, wag]); all_goals (try simp [QV])) ?_
 (repeat' (first | with_reducible (first | apply splitVC_d <;> intro _ | apply splitVC <;> intro _) | ((with_reducible refine And.intro ?_ ?_); focus (first | exact True.intro | omega | (simp only [InK, ne_eq, and_true, true_and]; omega) | (and_intros <;> first | exact .inr trivial | exact Nat.le_refl _ | exact one1 _ | exact one5 _ _ _ _ _ | exact one3 _ _ _ | exact .inl rfl | omega) | trivial)) | (simp -dsimp only [↓RP, RQ, Nat.reduceMul, reduceIte, reduceCtorEq, Nat.reduceAdd, Nat.reduceEqDiff, Nat.reduceLT, Nat.reduceLeDiff, rsT, Int.reduceEq, Int.reduceNeg, Int.reduceLT, Int.reduceLE, nsv, rgv, QW, Try.results18])))
 refine callVC h34 (by (simp -dsimp only [↓RP, RQ, Nat.reduceMul, reduceIte, reduceCtorEq, Nat.reduceAdd, Nat.reduceEqDiff, Nat.reduceLT, Nat.reduceLeDiff, QV, rsv, ints, I, B, wag]); all_goals (try simp [QV, Go.Sx.Sub, Go.Sx.SubL, wf_sub, li]); all_goals (try exact fun i hi => by rcases i with _ | _ | _ | i <;> first | rfl | omega)) (by (simp -dsimp only [↓RP, RQ, Nat.reduceMul, reduceIte, reduceCtorEq, Nat.reduceAdd, Nat.reduceEqDiff, Nat.reduceLT, Nat.reduceLeDiff, QV, rsT, nsv, rgv, I, B, wag]); all_goals (try simp [QV])) ?_
 (repeat' (first | with_reducible (first | apply splitVC_d <;> intro _ | apply splitVC <;> intro _) | ((with_reducible refine And.intro ?_ ?_); focus (first | exact True.intro | omega | (simp only [InK, ne_eq, and_true, true_and]; omega) | (and_intros <;> first | exact .inr trivial | exact Nat.le_refl _ | exact one1 _ | exact one5 _ _ _ _ _ | exact one3 _ _ _ | exact .inl rfl | omega) | trivial)) | (simp -dsimp only [↓RP, RQ, Nat.reduceMul, reduceIte, reduceCtorEq, Nat.reduceAdd, Nat.reduceEqDiff, Nat.reduceLT, Nat.reduceLeDiff, rsT, Int.reduceEq, Int.reduceNeg, Int.reduceLT, Int.reduceLE, nsv, rgv, QW, Try.results18])))
 refine callVC h36 (by (simp -dsimp only [↓RP, RQ, Nat.reduceMul, reduceIte, reduceCtorEq, Nat.reduceAdd, Nat.reduceEqDiff, Nat.reduceLT, Nat.reduceLeDiff, QV, rsv, ints, I, B, wag]); all_goals (try simp [QV, Go.Sx.Sub, Go.Sx.SubL, wf_sub, li]); all_goals (try exact fun i hi => by rcases i with _ | _ | _ | i <;> first | rfl | omega)) (by (simp -dsimp only [↓RP, RQ, Nat.reduceMul, reduceIte, reduceCtorEq, Nat.reduceAdd, Nat.reduceEqDiff, Nat.reduceLT, Nat.reduceLeDiff, QV, rsT, nsv, rgv, I, B, wag]); all_goals (try simp [QV])) ?_
 (repeat' (first | with_reducible (first | apply splitVC_d <;> intro _ | apply splitVC <;> intro _) | ((with_reducible refine And.intro ?_ ?_); focus (first | exact True.intro | omega | (simp only [InK, ne_eq, and_true, true_and]; omega) | (and_intros <;> first | exact .inr trivial | exact Nat.le_refl _ | exact one1 _ | exact one5 _ _ _ _ _ | exact one3 _ _ _ | exact .inl rfl | omega) | trivial)) | (simp -dsimp only [↓RP, RQ, Nat.reduceMul, reduceIte, reduceCtorEq, Nat.reduceAdd, Nat.reduceEqDiff, Nat.reduceLT, Nat.reduceLeDiff, rsT, Int.reduceEq, Int.reduceNeg, Int.reduceLT, Int.reduceLE, nsv, rgv, QW, Try.results18])))
 refine callVC h38 (by (simp -dsimp only [↓RP, RQ, Nat.reduceMul, reduceIte, reduceCtorEq, Nat.reduceAdd, Nat.reduceEqDiff, Nat.reduceLT, Nat.reduceLeDiff, QV, rsv, ints, I, B, wag]); all_goals (try simp [QV, Go.Sx.Sub, Go.Sx.SubL, wf_sub, li]); all_goals (try exact fun i hi => by rcases i with _ | _ | _ | i <;> first | rfl | omega)) (by (simp -dsimp only [↓RP, RQ, Nat.reduceMul, reduceIte, reduceCtorEq, Nat.reduceAdd, Nat.reduceEqDiff, Nat.reduceLT, Nat.reduceLeDiff, QV, rsT, nsv, rgv, I, B, wag]); all_goals (try simp [QV])) ?_
 (repeat' (first | with_reducible (first | apply splitVC_d <;> intro _ | apply splitVC <;> intro _) | ((with_reducible refine And.intro ?_ ?_); focus (first | exact True.intro | omega | (simp only [InK, ne_eq, and_true, true_and]; omega) | (and_intros <;> first | exact .inr trivial | exact Nat.le_refl _ | exact one1 _ | exact one5 _ _ _ _ _ | exact one3 _ _ _ | exact .inl rfl | omega) | trivial)) | (simp -dsimp only [↓RP, RQ, Nat.reduceMul, reduceIte, reduceCtorEq, Nat.reduceAdd, Nat.reduceEqDiff, Nat.reduceLT, Nat.reduceLeDiff, rsT, Int.reduceEq, Int.reduceNeg, Int.reduceLT, Int.reduceLE, nsv, rgv, QW, Try.results18])))
 refine callVC h40 (by (simp -dsimp only [↓RP, RQ, Nat.reduceMul, reduceIte, reduceCtorEq, Nat.reduceAdd, Nat.reduceEqDiff, Nat.reduceLT, Nat.reduceLeDiff, QV, rsv, ints, I, B, wag]); all_goals (try simp [QV, Go.Sx.Sub, Go.Sx.SubL, wf_sub, li]); all_goals (try exact fun i hi => by rcases i with _ | _ | _ | i <;> first | rfl | omega)) (by (simp -dsimp only [↓RP, RQ, Nat.reduceMul, reduceIte, reduceCtorEq, Nat.reduceAdd, Nat.reduceEqDiff, Nat.reduceLT, Nat.reduceLeDiff, QV, rsT, nsv, rgv, I, B, wag]); all_goals (try simp [QV])) ?_
 (repeat' (first | with_reducible (first | apply splitVC_d <;> intro _ | apply splitVC <;> intro _) | ((with_reducible refine And.intro ?_ ?_); focus (first | exact True.intro | omega | (simp only [InK, ne_eq, and_true, true_and]; omega) | (and_intros <;> first | exact .inr trivial | exact Nat.le_refl _ | exact one1 _ | exact one5 _ _ _ _ _ | exact one3 _ _ _ | exact .inl rfl | omega) | trivial)) | (simp -dsimp only [↓RP, RQ, Nat.reduceMul, reduceIte, reduceCtorEq, Nat.reduceAdd, Nat.reduceEqDiff, Nat.reduceLT, Nat.reduceLeDiff, rsT, Int.reduceEq, Int.reduceNeg, Int.reduceLT, Int.reduceLE, nsv, rgv, QW, Try.results18])))
 refine callVC h27a (by (simp -dsimp only [↓RP, RQ, Nat.reduceMul, reduceIte, reduceCtorEq, Nat.reduceAdd, Nat.reduceEqDiff, Nat.reduceLT, Nat.reduceLeDiff, QV, rsv, ints, I, B, wag]); all_goals (try simp [QV, Go.Sx.Sub, Go.Sx.SubL, wf_sub, li]); all_goals (try exact fun i hi => by rcases i with _ | _ | _ | i <;> first | rfl | omega)) (by (simp -dsimp only [↓RP, RQ, Nat.reduceMul, reduceIte, reduceCtorEq, Nat.reduceAdd, Nat.reduceEqDiff, Nat.reduceLT, Nat.reduceLeDiff, QV, rsT, nsv, rgv, I, B, wag]); all_goals (try simp [QV])) ?_
 (repeat' (first | with_reducible (first | apply splitVC_d <;> intro _ | apply splitVC <;> intro _) | ((with_reducible refine And.intro ?_ ?_); focus (first | exact True.intro | omega | (simp only [InK, ne_eq, and_true, true_and]; omega) | (and_intros <;> first | exact .inr trivial | exact Nat.le_refl _ | exact one1 _ | exact one5 _ _ _ _ _ | exact one3 _ _ _ | exact .inl rfl | omega) | trivial)) | (simp -dsimp only [↓RP, RQ, Nat.reduceMul, reduceIte, reduceCtorEq, Nat.reduceAdd, Nat.reduceEqDiff, Nat.reduceLT, Nat.reduceLeDiff, rsT, Int.reduceEq, Int.reduceNeg, Int.reduceLT, Int.reduceLE, nsv, rgv, QW, Try.results18])))
 refine callVC h30 (by (simp -dsimp only [↓RP, RQ, Nat.reduceMul, reduceIte, reduceCtorEq, Nat.reduceAdd, Nat.reduceEqDiff, Nat.reduceLT, Nat.reduceLeDiff, QV, rsv, ints, I, B, wag]); all_goals (try simp [QV, Go.Sx.Sub, Go.Sx.SubL, wf_sub, li]); all_goals (try exact fun i hi => by rcases i with _ | _ | _ | i <;> first | rfl | omega)) (by (simp -dsimp only [↓RP, RQ, Nat.reduceMul, reduceIte, reduceCtorEq, Nat.reduceAdd, Nat.reduceEqDiff, Nat.reduceLT, Nat.reduceLeDiff, QV, rsT, nsv, rgv, I, B, wag]); all_goals (try simp [QV])) ?_
 (repeat' (first | with_reducible (first | apply splitVC_d <;> intro _ | apply splitVC <;> intro _) | ((with_reducible refine And.intro ?_ ?_); focus (first | exact True.intro | omega | (simp only [InK, ne_eq, and_true, true_and]; omega) | (and_intros <;> first | exact .inr trivial | exact Nat.le_refl _ | exact one1 _ | exact one5 _ _ _ _ _ | exact one3 _ _ _ | exact .inl rfl | omega) | trivial)) | (simp -dsimp only [↓RP, RQ, Nat.reduceMul, reduceIte, reduceCtorEq, Nat.reduceAdd, Nat.reduceEqDiff, Nat.reduceLT, Nat.reduceLeDiff, rsT, Int.reduceEq, Int.reduceNeg, Int.reduceLT, Int.reduceLE, nsv, rgv, QW, Try.results18])))
 refine callVC h27b (by (simp -dsimp only [↓RP, RQ, Nat.reduceMul, reduceIte, reduceCtorEq, Nat.reduceAdd, Nat.reduceEqDiff, Nat.reduceLT, Nat.reduceLeDiff, QV, rsv, ints, I, B, wag]); all_goals (try simp [QV, Go.Sx.Sub, Go.Sx.SubL, wf_sub, li]); all_goals (try exact fun i hi => by rcases i with _ | _ | _ | i <;> first | rfl | omega)) (by (simp -dsimp only [↓RP, RQ, Nat.reduceMul, reduceIte, reduceCtorEq, Nat.reduceAdd, Nat.reduceEqDiff, Nat.reduceLT, Nat.reduceLeDiff, QV, rsT, nsv, rgv, I, B, wag]); all_goals (try simp [QV])) ?_
 (repeat' (first | with_reducible (first | apply splitVC_d <;> intro _ | apply splitVC <;> intro _) | ((with_reducible refine And.intro ?_ ?_); focus (first | exact True.intro | omega | (simp only [InK, ne_eq, and_true, true_and]; omega) | (and_intros <;> first | exact .inr trivial | exact Nat.le_refl _ | exact one1 _ | exact one5 _ _ _ _ _ | exact one3 _ _ _ | exact .inl rfl | omega) | trivial)) | (simp -dsimp only [↓RP, RQ, Nat.reduceMul, reduceIte, reduceCtorEq, Nat.reduceAdd, Nat.reduceEqDiff, Nat.reduceLT, Nat.reduceLeDiff, rsT, Int.reduceEq, Int.reduceNeg, Int.reduceLT, Int.reduceLE, nsv, rgv, QW, Try.results18])))
 all_goals (exfalso; omega)
end Go.He
end
