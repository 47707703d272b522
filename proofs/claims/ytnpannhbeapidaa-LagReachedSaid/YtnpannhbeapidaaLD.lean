/- A part of the proof. -/
import Derived.Test.YtnpannhbeapidaaLC
section
set_option linter.unusedSimpArgs false
set_option linter.unusedVariables false
set_option maxRecDepth 100000
set_option maxHeartbeats 4000000
namespace Go.Lg
open Go.Sx
def bestTo (f : Nat → Int) : Nat → Int
  | 0 => 0
  | k + 1 => max (bestTo f k) (f k)
theorem bestTo_nonneg (f : Nat → Int) : ∀ k, 0 ≤ bestTo f k
  | 0 => Int.le_refl _
  | k + 1 => by have := bestTo_nonneg f k; simp only [bestTo]; omega
theorem bestTo_le (f : Nat → Int) (b : Int) (hb : 0 ≤ b) : ∀ k, (∀ j, j < k → f j ≤ b) → bestTo f k ≤ b
  | 0, _ => hb
  | k + 1, h => by
    have h1 := bestTo_le f b hb k (fun j hj => h j (by omega))
    have h2 := h k (by omega)
    simp only [bestTo]; omega
theorem le_bestTo (f : Nat → Int) : ∀ k j, j < k → f j ≤ bestTo f k
  | 0, j, h => by omega
  | k + 1, j, h => by
    simp only [bestTo]
    by_cases e : j = k
    · subst e; omega
    · have := le_bestTo f k j (by omega); omega
theorem bestTo_at (f : Nat → Int) : ∀ k, bestTo f k = 0 ∨ ∃ j, j < k ∧ bestTo f k = f j
  | 0 => .inl rfl
  | k + 1 => by
    simp only [bestTo]
    by_cases h : f k ≤ bestTo f k
    · rw [Int.max_eq_left h]
      rcases bestTo_at f k with h1 | ⟨j, h1, h2⟩
      · exact .inl h1
      · exact .inr ⟨j, by omega, h2⟩
    · rw [Int.max_eq_right (by omega)]
      exact .inr ⟨k, by omega, rfl⟩
theorem bestTo_congr (f g : Nat → Int) : ∀ k, (∀ j, j < k → f j = g j) → bestTo f k = bestTo g k
  | 0, _ => rfl
  | k + 1, h => by simp only [bestTo]; rw [bestTo_congr f g k (fun j hj => h j (by omega)), h k (by omega)]
theorem bestTo_min (f : Nat → Int) (k : Nat) : bestTo f (k + 1) = max 0 (-(foldMin (fun j => -(f j)) k)) := by
  apply Int.le_antisymm
  · refine bestTo_le f _ (by omega) (k + 1) fun j hj => ?_
    have : foldMin (fun j => -(f j)) k ≤ -(f j) := foldMin_le (fun j => -(f j)) k j (by omega)
    omega
  · have h0 := bestTo_nonneg f (k + 1)
    obtain ⟨j, hj, e⟩ := foldMin_at (fun j => -(f j)) k
    have h1 := le_bestTo f (k + 1) j (by omega)
    have e : foldMin (fun j => -(f j)) k = -(f j) := e
    omega
def Lc (n : Nat) (C : Nat → Curve) : Nat → Int := Ls C (n - 1)
def lateF (M L : Nat → Int) (k : Nat) : Nat := fstG (fun j => decide (M k ≤ L j)) k (360 - k)
theorem fstG_range (P : Nat → Bool) : ∀ n i, i ≤ fstG P i n ∧ fstG P i n ≤ i + n
  | 0, i => ⟨Nat.le_refl _, Nat.le_refl _⟩
  | n + 1, i => by
    simp only [fstG]
    split
    · omega
    · have := fstG_range P n (i + 1); omega
theorem fstG_false (P : Nat → Bool) : ∀ n i j, i ≤ j → j < fstG P i n → P j = false
  | 0, i, j, h1, h2 => by simp only [fstG] at h2; omega
  | n + 1, i, j, h1, h2 => by
    simp only [fstG] at h2
    split at h2
    · omega
    · rename_i h
      by_cases e : j = i
      · subst e; simpa using h
      · exact fstG_false P n (i + 1) j (by omega) h2
theorem fstG_true (P : Nat → Bool) : ∀ n i, fstG P i n < i + n → P (fstG P i n) = true
  | 0, i, h => by simp only [fstG] at h; omega
  | n + 1, i, h => by
    simp only [fstG] at h ⊢
    split
    · rename_i hp; exact hp
    · rename_i hp
      rw [if_neg hp] at h
      exact fstG_true P n (i + 1) (by omega)
theorem lateF_range (M L : Nat → Int) (k : Nat) (hk : k ≤ 360) : k ≤ lateF M L k ∧ lateF M L k ≤ 360 := by
  have := fstG_range (fun j => decide (M k ≤ L j)) (360 - k) k
  unfold lateF; omega
theorem lateF_false (M L : Nat → Int) (k j : Nat) (h1 : k ≤ j) (h2 : j < lateF M L k) : L j < M k := by
  have := of_decide_eq_false (fstG_false _ _ _ j h1 h2)
  omega
theorem lateF_true (M L : Nat → Int) (k : Nat) (hk : k ≤ 360) (h : lateF M L k < 360) : M k ≤ L (lateF M L k) := of_decide_eq_true (fstG_true (fun j => decide (M k ≤ L j)) (360 - k) k (by unfold lateF at h; omega))
def waitB (c : Curve) (n : Nat) (C : Nat → Curve) : Int := bestTo (fun k => c.M k - Lc n C k) 181
def lateB (c : Curve) (n : Nat) (C : Nat → Curve) : Int := bestTo (fun k => (lateF c.M (Lc n C) k : Int) - k) 181
def behB (c : Curve) (n : Nat) (C : Nat → Curve) (k : Nat) : Int := bestTo (fun u => c.M (k + u) - Lc n C u) 181
def waitV (c : Curve) (n : Nat) (C : Nat → Curve) : Int × Int := if askE c n C = 0 then (waitB c n C, 0) else (0, askE c n C)
def lateV (c : Curve) (n : Nat) (C : Nat → Curve) : Int × Int := if askE c n C = 0 then (lateB c n C, 0) else (0, askE c n C)
structure Ask (c : Curve) (n : Nat) (C : Nat → Curve) : Prop where
  fine : c.Fine
  n1 : 1 ≤ n
  n3 : n ≤ 3
  fines : ∀ i, i < n → (C i).Fine
  fast : ¬ slowE c n C
theorem ask_ok {c : Curve} {n : Nat} {C : Nat → Curve} (h : askE c n C = 0) : Ask c n C := by
  unfold askE at h
  split at h
  · rename_i h1
    split at h
    · rename_i h2
      split at h
      · contradiction
      · rename_i h3
        obtain ⟨a, b, d⟩ := cErr_fine h2
        exact ⟨Curve.fine h1, a, b, d, h3⟩
    · contradiction
  · contradiction
theorem Lc_bound {c : Curve} {n : Nat} {C : Nat → Curve} (h : Ask c n C) (k : Nat) (hk : k ≤ 400) : 0 ≤ Lc n C k ∧ Lc n C k ≤ 50000 := Ls_bound C (n - 1) (fun j hj => h.fines j (by have := h.n1; omega)) k hk
end Go.Lg
end
section
set_option linter.unusedSimpArgs false
set_option linter.unusedVariables false
set_option maxRecDepth 100000
set_option maxHeartbeats 4000000
namespace Go.Lg
open Go.Sx
theorem ty24 : tyOf Go.Proofs.Try.prog 24 = some ⟨false, 1, some [.nilFunc], .other⟩ := by kernel_rfl
def ow (q : Nat × Nat) : Nat → SV
  | 0 => I q.1
  | _ => I q.2
def owS (q : Nat × Nat) : SV := .ref false 2 (ow q)
theorem owS_old (q : Nat × Nat) : Old (owS q) := by
  simp only [owS, Old, true_and]
  intro j hj
  have : j = 0 ∨ j = 1 := by omega
  rcases this with rfl | rfl <;> simp [ow, I, Old]
theorem c95 (c : Curve) (h : c.Fine) (q : Nat × Nat) (h1 : q.1 ≤ 100000) (h2 : q.2 ≤ 100000) : Contract Go.Proofs.Try.prog 95 [c.sv, owS q] (B (decide (fless (c.rate false) q))) := by
  refine contract_of Go.Proofs.Try.func95 rfl (by kernel_rfl) follows (by kernel_rfl) _ _ (by rw [Go.Proofs.Try.ntmps95]; simp) (by simp only [OldL, c.old, owS_old, and_self]) ?_
  have hb := rate_bound c h false
  unfold B
  conv => arg 4; unfold owS Curve.sv ints
  (repeat' (first | with_reducible refine splitVC_d (fun _ => ?_) (fun _ => ?_) | ((with_reducible refine And.intro ?_ ?_); focus (first | trivial | (simp only [InK]; omega) | omega | (simp only [InK, ne_eq, and_true, true_and]; omega))) | simp -dsimp only [↓RP, RQ0, RQ1, RQ2, RQ3, implies_true, forall_const, Nat.reduceMul, reduceIte, reduceCtorEq, Nat.reduceAdd, Nat.reduceEqDiff, Nat.reduceLT, Nat.reduceLeDiff, ow, I, TY, Go.Proofs.Try.results95]))
  refine callVC (c67 c h false) (by (simp -dsimp only [↓RP, RQ0, RQ1, RQ2, RQ3, implies_true, forall_const, Nat.reduceMul, reduceIte, reduceCtorEq, Nat.reduceAdd, Nat.reduceEqDiff, Nat.reduceLT, Nat.reduceLeDiff, Curve.sv, ints, I, B]); all_goals simp) (by (simp -dsimp only [↓RP, RQ0, RQ1, RQ2, RQ3, implies_true, forall_const, Nat.reduceMul, reduceIte, reduceCtorEq, Nat.reduceAdd, Nat.reduceEqDiff, Nat.reduceLT, Nat.reduceLeDiff, fsv, I])) ?_
  (repeat' (first | with_reducible refine splitVC_d (fun _ => ?_) (fun _ => ?_) | ((with_reducible refine And.intro ?_ ?_); focus (first | trivial | (simp only [InK]; omega) | omega | (simp only [InK, ne_eq, and_true, true_and]; omega))) | simp -dsimp only [↓RP, RQ0, RQ1, RQ2, RQ3, implies_true, forall_const, Nat.reduceMul, reduceIte, reduceCtorEq, Nat.reduceAdd, Nat.reduceEqDiff, Nat.reduceLT, Nat.reduceLeDiff, ow, fsv, I, TY, Go.Proofs.Try.results95]))
  refine callVC (c91 q.1 q.2 (c.rate false).1 (c.rate false).2 (by omega) (by omega) (by omega) (by omega)) (by (simp -dsimp only [↓RP, RQ0, RQ1, RQ2, RQ3, implies_true, forall_const, Nat.reduceMul, reduceIte, reduceCtorEq, Nat.reduceAdd, Nat.reduceEqDiff, Nat.reduceLT, Nat.reduceLeDiff, I]); all_goals simp) (by (simp -dsimp only [↓RP, RQ0, RQ1, RQ2, RQ3, implies_true, forall_const, Nat.reduceMul, reduceIte, reduceCtorEq, Nat.reduceAdd, Nat.reduceEqDiff, Nat.reduceLT, Nat.reduceLeDiff, B])) ?_
  (repeat' (first | with_reducible refine splitVC_d (fun _ => ?_) (fun _ => ?_) | ((with_reducible refine And.intro ?_ ?_); focus (first | trivial | (simp only [InK]; omega) | omega | (simp only [InK, ne_eq, and_true, true_and]; omega))) | simp -dsimp only [↓RP, RQ0, RQ1, RQ2, RQ3, implies_true, forall_const, Nat.reduceMul, reduceIte, reduceCtorEq, Nat.reduceAdd, Nat.reduceEqDiff, Nat.reduceLT, Nat.reduceLeDiff, B, I, TY, Go.Proofs.Try.results95]))
  rfl
theorem c100 (n : Nat) (hn : n ≤ 1000) (C : Nat → Curve) (f : FuncId) (caps : List SV) (hc : OldL caps) (b : Nat → Bool) (hb : ∀ i, i < n → Contract Go.Proofs.Try.prog f ((C i).sv :: caps) (B (b i))) :
    Contract Go.Proofs.Try.prog 100 [chn n C, .fn (.func f) [] caps] (I (fstI b 0 n)) := by
  refine contract_of Go.Proofs.Try.func100 rfl (by kernel_rfl) follows (by kernel_rfl) _ _ (by rw [Go.Proofs.Try.ntmps100]; simp) (by simp only [OldL, Old, chn_old, hc, and_self]) ?_
  unfold I
  conv => arg 4; unfold chn
  (repeat' (first | with_reducible refine splitVC_d (fun _ => ?_) (fun _ => ?_) | ((with_reducible refine And.intro ?_ ?_); focus (first | trivial | (simp only [InK]; omega) | omega | (simp only [InK, ne_eq, and_true, true_and]; omega))) | simp -dsimp only [↓RP, RQ0, RQ1, RQ2, RQ3, implies_true, forall_const, Nat.reduceMul, reduceIte, reduceCtorEq, Nat.reduceAdd, Nat.reduceEqDiff, Nat.reduceLT, Nat.reduceLeDiff, ty24, TY, Go.Proofs.Try.results100]))
  refine loop_vc (fun (i : Nat) => i ≤ n ∧ fstI b 0 n = fstI b i (n - i)) (fun i => ⟨[(0, .arr false false n 1 (fun i _ => .arr false false (C i).m 1 (fun j _ => .val (.int .i64 ((C i).u j))))), (1, .fn (.func f) [] caps), (7, .val (.int .i64 n)), (8, .val (.int .i64 i))], [], 0⟩) (fun i => n - i) 0 ⟨Nat.zero_le _, rfl⟩ (weak [] [] ?_ ?_ ?_) fun i hi => ?_
  · (simp -dsimp only [↓RP, RQ0, RQ1, RQ2, RQ3, implies_true, forall_const, Nat.reduceMul, reduceIte, reduceCtorEq, Nat.reduceAdd, Nat.reduceEqDiff, Nat.reduceLT, Nat.reduceLeDiff]); all_goals (try simp)
    all_goals exact wkL_refl _ hc
  · (simp -dsimp only [↓RP, RQ0, RQ1, RQ2, RQ3, implies_true, forall_const, Nat.reduceMul, reduceIte, reduceCtorEq, Nat.reduceAdd, Nat.reduceEqDiff, Nat.reduceLT, Nat.reduceLeDiff])
  · (simp -dsimp only [↓RP, RQ0, RQ1, RQ2, RQ3, implies_true, forall_const, Nat.reduceMul, reduceIte, reduceCtorEq, Nat.reduceAdd, Nat.reduceEqDiff, Nat.reduceLT, Nat.reduceLeDiff])
  obtain ⟨hi, he⟩ := hi
  by_cases hlt : i < n
  · have es : fstI b i (n - i) = if b i = true then (i : Int) else fstI b (i + 1) (n - (i + 1)) := by
      rw [show n - i = (n - (i + 1)) + 1 by omega]; rfl
    (repeat' (first | with_reducible refine splitVC_d (fun _ => ?_) (fun _ => ?_) | ((with_reducible refine And.intro ?_ ?_); focus (first | trivial | (simp only [InK]; omega) | omega | (simp only [InK, ne_eq, and_true, true_and]; omega))) | simp -dsimp only [↓RP, RQ0, RQ1, RQ2, RQ3, implies_true, forall_const, Nat.reduceMul, reduceIte, reduceCtorEq, Nat.reduceAdd, Nat.reduceEqDiff, Nat.reduceLT, Nat.reduceLeDiff, ty24, TY, Int.toNat_natCast, Go.Proofs.Try.results100]))
    all_goals first | (exfalso; omega) | skip
    refine callVC_old (hb i hlt) (by (simp -dsimp only [↓RP, RQ0, RQ1, RQ2, RQ3, implies_true, forall_const, Nat.reduceMul, reduceIte, reduceCtorEq, Nat.reduceAdd, Nat.reduceEqDiff, Nat.reduceLT, Nat.reduceLeDiff, Curve.sv, ints]); exact ⟨by simp, subL_refl _ hc⟩) ?_
    rcases Bool.eq_false_or_eq_true (b i) with hbi | hbi
    · rw [if_pos hbi] at es
      (repeat' (first | with_reducible refine splitVC_d (fun _ => ?_) (fun _ => ?_) | ((with_reducible refine And.intro ?_ ?_); focus (first | trivial | (simp only [InK]; omega) | omega | (simp only [InK, ne_eq, and_true, true_and]; omega))) | simp -dsimp only [↓RP, RQ0, RQ1, RQ2, RQ3, implies_true, forall_const, Nat.reduceMul, reduceIte, reduceCtorEq, Nat.reduceAdd, Nat.reduceEqDiff, Nat.reduceLT, Nat.reduceLeDiff, hbi, B, ty24, TY, Int.toNat_natCast, Go.Proofs.Try.results100]))
      refine I_eq ?_
      rw [he, es]
    · rw [if_neg (by rw [hbi]; simp)] at es
      (repeat' (first | with_reducible refine splitVC_d (fun _ => ?_) (fun _ => ?_) | ((with_reducible refine And.intro ?_ ?_); focus (first | trivial | (simp only [InK]; omega) | omega | (simp only [InK, ne_eq, and_true, true_and]; omega))) | simp -dsimp only [↓RP, RQ0, RQ1, RQ2, RQ3, implies_true, forall_const, Nat.reduceMul, reduceIte, reduceCtorEq, Nat.reduceAdd, Nat.reduceEqDiff, Nat.reduceLT, Nat.reduceLeDiff, hbi, B, ty24, TY, Int.toNat_natCast, Go.Proofs.Try.results100]))
      all_goals first | (exfalso; omega) | skip
      refine ⟨i + 1, ⟨by omega, by rw [he, es]⟩, by omega, weak [] [] ?_ ?_ ?_⟩
      · (simp -dsimp only [↓RP, RQ0, RQ1, RQ2, RQ3, implies_true, forall_const, Nat.reduceMul, reduceIte, reduceCtorEq, Nat.reduceAdd, Nat.reduceEqDiff, Nat.reduceLT, Nat.reduceLeDiff]); all_goals (try simp)
        all_goals exact wkL_refl _ hc
      · (simp -dsimp only [↓RP, RQ0, RQ1, RQ2, RQ3, implies_true, forall_const, Nat.reduceMul, reduceIte, reduceCtorEq, Nat.reduceAdd, Nat.reduceEqDiff, Nat.reduceLT, Nat.reduceLeDiff])
      · (simp -dsimp only [↓RP, RQ0, RQ1, RQ2, RQ3, implies_true, forall_const, Nat.reduceMul, reduceIte, reduceCtorEq, Nat.reduceAdd, Nat.reduceEqDiff, Nat.reduceLT, Nat.reduceLeDiff])
  · have hin : i = n := by omega
    subst hin
    (repeat' (first | with_reducible refine splitVC_d (fun _ => ?_) (fun _ => ?_) | ((with_reducible refine And.intro ?_ ?_); focus (first | trivial | (simp only [InK]; omega) | omega | (simp only [InK, ne_eq, and_true, true_and]; omega))) | simp -dsimp only [↓RP, RQ0, RQ1, RQ2, RQ3, implies_true, forall_const, Nat.reduceMul, reduceIte, reduceCtorEq, Nat.reduceAdd, Nat.reduceEqDiff, Nat.reduceLT, Nat.reduceLeDiff, ty24, TY, Int.toNat_natCast, Go.Proofs.Try.results100]))
    all_goals first | (exfalso; omega) | skip
    refine I_eq ?_
    rw [he, Nat.sub_self]; rfl
theorem c94 (n : Nat) (hn : n ≤ 1000) (C : Nat → Curve) (f : FuncId) (caps : List SV) (hc : OldL caps) (b : Nat → Bool) (hb : ∀ i, i < n → Contract Go.Proofs.Try.prog f ((C i).sv :: caps) (B (b i))) :
    Contract Go.Proofs.Try.prog 94 [chn n C, .fn (.func f) [] caps] (B (decide (0 ≤ fstI b 0 n))) := by
  refine contract_of Go.Proofs.Try.func94 rfl (by kernel_rfl) follows (by kernel_rfl) _ _ (by rw [Go.Proofs.Try.ntmps94]; simp) (by simp only [OldL, Old, chn_old, hc, and_self]) ?_
  unfold B
  conv => arg 4; unfold chn
  (repeat' (first | with_reducible refine splitVC_d (fun _ => ?_) (fun _ => ?_) | ((with_reducible refine And.intro ?_ ?_); focus (first | trivial | (simp only [InK]; omega) | omega | (simp only [InK, ne_eq, and_true, true_and]; omega))) | simp -dsimp only [↓RP, RQ0, RQ1, RQ2, RQ3, implies_true, forall_const, Nat.reduceMul, reduceIte, reduceCtorEq, Nat.reduceAdd, Nat.reduceEqDiff, Nat.reduceLT, Nat.reduceLeDiff, ty24, TY, Go.Proofs.Try.results94]))
  refine callVC_old (c100 n hn C f caps hc b hb) (by (simp -dsimp only [↓RP, RQ0, RQ1, RQ2, RQ3, implies_true, forall_const, Nat.reduceMul, reduceIte, reduceCtorEq, Nat.reduceAdd, Nat.reduceEqDiff, Nat.reduceLT, Nat.reduceLeDiff, chn]); exact ⟨by simp, subL_refl _ hc⟩) ?_
  (repeat' (first | with_reducible refine splitVC_d (fun _ => ?_) (fun _ => ?_) | ((with_reducible refine And.intro ?_ ?_); focus (first | trivial | (simp only [InK]; omega) | omega | (simp only [InK, ne_eq, and_true, true_and]; omega))) | simp -dsimp only [↓RP, RQ0, RQ1, RQ2, RQ3, implies_true, forall_const, Nat.reduceMul, reduceIte, reduceCtorEq, Nat.reduceAdd, Nat.reduceEqDiff, Nat.reduceLT, Nat.reduceLeDiff, I, ty24, TY, Go.Proofs.Try.results94]))
theorem slow_iff (c : Curve) (n : Nat) (C : Nat → Curve) : decide (0 ≤ fstI (fun i => decide (fless ((C i).rate false) (c.rate true))) 0 n) = decide (slowE c n C) := by
  rw [Bool.eq_iff_iff]
  simp only [decide_eq_true_eq]
  constructor
  · intro h
    refine Classical.byContradiction fun hno => ?_
    have : fstI (fun i => decide (fless ((C i).rate false) (c.rate true))) 0 n < 0 := (fstI_lt _ n 0).2 fun j _ hj => decide_eq_false fun hf => hno ⟨j, by omega, hf⟩
    omega
  · rintro ⟨i, hi, hf⟩
    refine Classical.byContradiction fun hno => ?_
    have := (fstI_lt (fun i => decide (fless ((C i).rate false) (c.rate true))) n 0).1 (by omega) i (Nat.zero_le _) (by omega)
    simp [hf] at this
theorem sub_rot0 {i b m : Nat} {X B M : Blk} (h1 : i ≠ b) (h2 : i ≠ m) : SubHp ((i, X) :: (b, B) :: (m, M) :: []) ((b, B) :: (m, M) :: (i, X) :: []) := fun k x hx => by
  simp only [blk] at hx ⊢
  by_cases e1 : k = b
  · subst e1
    rw [if_pos rfl] at hx
    rw [if_neg (Ne.symm h1), if_pos rfl]; exact hx
  · rw [if_neg e1] at hx
    by_cases e2 : k = m
    · subst e2
      rw [if_pos rfl] at hx
      rw [if_neg (Ne.symm h2), if_neg e1, if_pos rfl]; exact hx
    · rw [if_neg e2] at hx
      by_cases e3 : k = i
      · rw [if_pos e3] at hx ⊢; exact hx
      · rw [if_neg e3] at hx; cases hx
theorem e77 (c : Curve) (n : Nat) (C : Nat → Curve) (hm : c.m ≤ 1000000) (hC : ∀ i, i < n → (C i).m ≤ 1000000) (id : Nat) : EffVC Go.Proofs.Try.prog 77 [c.sv, chn n C] [] id (fun hp' nid' res =>
    (askE c n C ≠ 0 ∧ hp' = [] ∧ id ≤ nid' ∧ res = .tup [.val (.pointer none), nilS, I (askE c n C)]) ∨
    (askE c n C = 0 ∧ ∃ bid mid il top, bid ≠ mid ∧ bid ≠ il ∧ mid ≠ il ∧ bid < nid' ∧ mid < nid' ∧ il < nid' ∧ id ≤ bid ∧ id ≤ mid ∧ id ≤ il ∧ top ≤ 400 ∧ hp' = (bid, bdC c mid true top) :: (mid, bdM c top) :: (il, rowB 361 (Lc n C)) :: [] ∧ res = .tup [.ptr bid 0, .vec il 361 1, I 0])) := by
  refine eff_of follows Go.Proofs.Try.func77 rfl (by kernel_rfl) (by kernel_rfl) (by rw [Go.Proofs.Try.ntmps77]; simp) fun out => ?_
  unfold chn Curve.sv ints
  (repeat' (first | with_reducible refine splitVC_d (fun _ => ?_) (fun _ => ?_) | ((with_reducible refine And.intro ?_ ?_); focus (first | trivial | (simp only [InK]; omega) | omega | (simp only [InK, ne_eq, and_true, true_and]; omega))) | simp -dsimp only [↓RP, RQ0, RQ1, RQ2, RQ3, implies_true, forall_const, Nat.reduceMul, reduceIte, reduceCtorEq, Nat.reduceAdd, Nat.reduceEqDiff, Nat.reduceLT, Nat.reduceLeDiff, self_F1, self_F2, Nat.add_zero, Nat.add_assoc, TY, Int.toNat_natCast, effK_ret, effK_normal, Go.Proofs.Try.results77]))
  refine callVC (c26 c hm) (by (simp -dsimp only [↓RP, RQ0, RQ1, RQ2, RQ3, implies_true, forall_const, Nat.reduceMul, reduceIte, reduceCtorEq, Nat.reduceAdd, Nat.reduceEqDiff, Nat.reduceLT, Nat.reduceLeDiff, Curve.sv, ints, I]); all_goals simp) (by (simp -dsimp only [↓RP, RQ0, RQ1, RQ2, RQ3, implies_true, forall_const, Nat.reduceMul, reduceIte, reduceCtorEq, Nat.reduceAdd, Nat.reduceEqDiff, Nat.reduceLT, Nat.reduceLeDiff, I])) ?_
  (repeat' (first | with_reducible refine splitVC_d (fun _ => ?_) (fun _ => ?_) | ((with_reducible refine And.intro ?_ ?_); focus (first | trivial | (simp only [InK]; omega) | omega | (simp only [InK, ne_eq, and_true, true_and]; omega))) | simp -dsimp only [↓RP, RQ0, RQ1, RQ2, RQ3, implies_true, forall_const, Nat.reduceMul, reduceIte, reduceCtorEq, Nat.reduceAdd, Nat.reduceEqDiff, Nat.reduceLT, Nat.reduceLeDiff, I, self_F1, self_F2, Nat.add_zero, Nat.add_assoc, TY, Int.toNat_natCast, effK_ret, effK_normal, Go.Proofs.Try.results77]))
  rotate_left
  · rename_i he
    have e0 : askE c n C = c.err := by unfold askE; rw [if_neg he]
    refine ⟨_, _, _, weakS (fr' := [(0, _)]) ⟨.inr rfl, trivial⟩ (SubHp.refl _), .inl ⟨by rw [e0]; exact he, rfl, by omega, by rw [e0]; rfl⟩⟩
  rename_i he
  have hf := Curve.fine he
  refine callVC (c65 n C hC) (by (simp -dsimp only [↓RP, RQ0, RQ1, RQ2, RQ3, implies_true, forall_const, Nat.reduceMul, reduceIte, reduceCtorEq, Nat.reduceAdd, Nat.reduceEqDiff, Nat.reduceLT, Nat.reduceLeDiff, chn, I]); all_goals simp) (by (simp -dsimp only [↓RP, RQ0, RQ1, RQ2, RQ3, implies_true, forall_const, Nat.reduceMul, reduceIte, reduceCtorEq, Nat.reduceAdd, Nat.reduceEqDiff, Nat.reduceLT, Nat.reduceLeDiff, I])) ?_
  (repeat' (first | with_reducible refine splitVC_d (fun _ => ?_) (fun _ => ?_) | ((with_reducible refine And.intro ?_ ?_); focus (first | trivial | (simp only [InK]; omega) | omega | (simp only [InK, ne_eq, and_true, true_and]; omega))) | simp -dsimp only [↓RP, RQ0, RQ1, RQ2, RQ3, implies_true, forall_const, Nat.reduceMul, reduceIte, reduceCtorEq, Nat.reduceAdd, Nat.reduceEqDiff, Nat.reduceLT, Nat.reduceLeDiff, I, self_F1, self_F2, Nat.add_zero, Nat.add_assoc, TY, Int.toNat_natCast, effK_ret, effK_normal, Go.Proofs.Try.results77]))
  rotate_left
  · rename_i hce
    have e0 : askE c n C = cErr n C := by unfold askE; rw [if_pos he, if_neg hce]
    refine ⟨_, _, _, weakS (fr' := [(0, _)]) ⟨.inr rfl, trivial⟩ (SubHp.refl _), .inl ⟨by rw [e0]; exact hce, rfl, by omega, by rw [e0]; rfl⟩⟩
  rename_i hce
  obtain ⟨n1, n3, hfs⟩ := cErr_fine hce
  have e0 : askE c n C = if slowE c n C then 18 else 0 := by unfold askE; rw [if_pos he, if_pos hce]
  have hb := rate_bound c hf true
  refine callVC (c67 c hf true) (by (simp -dsimp only [↓RP, RQ0, RQ1, RQ2, RQ3, implies_true, forall_const, Nat.reduceMul, reduceIte, reduceCtorEq, Nat.reduceAdd, Nat.reduceEqDiff, Nat.reduceLT, Nat.reduceLeDiff, Curve.sv, ints, I, B]); all_goals simp) (by (simp -dsimp only [↓RP, RQ0, RQ1, RQ2, RQ3, implies_true, forall_const, Nat.reduceMul, reduceIte, reduceCtorEq, Nat.reduceAdd, Nat.reduceEqDiff, Nat.reduceLT, Nat.reduceLeDiff, fsv, I])) ?_
  (repeat' (first | with_reducible refine splitVC_d (fun _ => ?_) (fun _ => ?_) | ((with_reducible refine And.intro ?_ ?_); focus (first | trivial | (simp only [InK]; omega) | omega | (simp only [InK, ne_eq, and_true, true_and]; omega))) | simp -dsimp only [↓RP, RQ0, RQ1, RQ2, RQ3, implies_true, forall_const, Nat.reduceMul, reduceIte, reduceCtorEq, Nat.reduceAdd, Nat.reduceEqDiff, Nat.reduceLT, Nat.reduceLeDiff, fsv, I, self_F1, self_F2, Nat.add_zero, Nat.add_assoc, TY, Int.toNat_natCast, effK_ret, effK_normal, Go.Proofs.Try.results77]))
  refine callVC (c94 n (by omega) C 95 [owS (c.rate true)] ⟨owS_old _, trivial⟩ (fun i => decide (fless ((C i).rate false) (c.rate true))) fun i hi => c95 (C i) (hfs i hi) (c.rate true) hb.1 hb.2) ?_ (by (simp -dsimp only [↓RP, RQ0, RQ1, RQ2, RQ3, implies_true, forall_const, Nat.reduceMul, reduceIte, reduceCtorEq, Nat.reduceAdd, Nat.reduceEqDiff, Nat.reduceLT, Nat.reduceLeDiff, B])) ?_
  · (simp -dsimp only [↓RP, RQ0, RQ1, RQ2, RQ3, implies_true, forall_const, Nat.reduceMul, reduceIte, reduceCtorEq, Nat.reduceAdd, Nat.reduceEqDiff, Nat.reduceLT, Nat.reduceLeDiff, chn, owS])
    refine ⟨⟨fun h => h, fun h => h, fun _ _ _ _ h => h⟩, fun j hj => ⟨?_, hj⟩⟩
    have : j = 0 ∨ j = 1 := by omega
    rcases this with rfl | rfl <;> exact rfl
  rw [slow_iff]
  (repeat' (first | with_reducible refine splitVC_d (fun _ => ?_) (fun _ => ?_) | ((with_reducible refine And.intro ?_ ?_); focus (first | trivial | (simp only [InK]; omega) | omega | (simp only [InK, ne_eq, and_true, true_and]; omega))) | simp -dsimp only [↓RP, RQ0, RQ1, RQ2, RQ3, implies_true, forall_const, Nat.reduceMul, reduceIte, reduceCtorEq, Nat.reduceAdd, Nat.reduceEqDiff, Nat.reduceLT, Nat.reduceLeDiff, B, I, self_F1, self_F2, Nat.add_zero, Nat.add_assoc, TY, Int.toNat_natCast, effK_ret, effK_normal, Go.Proofs.Try.results77]))
  · rename_i hs
    rw [if_pos hs] at e0
    refine ⟨[], _, _, weakS (fr' := [(0, _)]) ⟨.inr rfl, trivial⟩ (fun k x hx => by simp [blk] at hx), .inl ⟨by rw [e0]; omega, rfl, by omega, by rw [e0]; rfl⟩⟩
  rename_i hs
  rw [if_neg hs] at e0
  refine callE (by rfl) (EffVC.sub (hp2 := []) (fun k x hx => by simp [blk] at hx) (e63 c hf _)) fun hp' nid0 res ⟨bid, mid, top, hbm, q2, q3, q4, q5, ht0, q7, q8⟩ => ?_
  subst q7 q8
  (repeat' (first | with_reducible refine splitVC_d (fun _ => ?_) (fun _ => ?_) | ((with_reducible refine And.intro ?_ ?_); focus (first | trivial | (simp only [InK]; omega) | omega | (simp only [InK, ne_eq, and_true, true_and]; omega))) | simp -dsimp only [↓RP, RQ0, RQ1, RQ2, RQ3, implies_true, forall_const, Nat.reduceMul, reduceIte, reduceCtorEq, Nat.reduceAdd, Nat.reduceEqDiff, Nat.reduceLT, Nat.reduceLeDiff, I, self_F1, self_F2, Nat.add_zero, Nat.add_assoc, TY, Int.toNat_natCast, effK_ret, effK_normal, Go.Proofs.Try.results77]))
  refine callN_old (c66 n C n1 n3 hfs 360 (by omega)) (by (simp -dsimp only [↓RP, RQ0, RQ1, RQ2, RQ3, implies_true, forall_const, Nat.reduceMul, reduceIte, reduceCtorEq, Nat.reduceAdd, Nat.reduceEqDiff, Nat.reduceLT, Nat.reduceLeDiff, chn, I]); all_goals simp) (by (simp -dsimp only [↓RP, RQ0, RQ1, RQ2, RQ3, implies_true, forall_const, Nat.reduceMul, reduceIte, reduceCtorEq, Nat.reduceAdd, Nat.reduceEqDiff, Nat.reduceLT, Nat.reduceLeDiff, I]); all_goals simp) (by (simp -dsimp only [↓RP, RQ0, RQ1, RQ2, RQ3, implies_true, forall_const, Nat.reduceMul, reduceIte, reduceCtorEq, Nat.reduceAdd, Nat.reduceEqDiff, Nat.reduceLT, Nat.reduceLeDiff, I]); all_goals simp) ?_
  (repeat' (first | with_reducible refine splitVC_d (fun _ => ?_) (fun _ => ?_) | ((with_reducible refine And.intro ?_ ?_); focus (first | trivial | (simp only [InK]; omega) | omega | (simp only [InK, ne_eq, and_true, true_and]; omega))) | simp -dsimp only [↓RP, RQ0, RQ1, RQ2, RQ3, implies_true, forall_const, Nat.reduceMul, reduceIte, reduceCtorEq, Nat.reduceAdd, Nat.reduceEqDiff, Nat.reduceLT, Nat.reduceLeDiff, I, self_F1, self_F2, Nat.add_zero, Nat.add_assoc, TY, Int.toNat_natCast, effK_ret, effK_normal, Go.Proofs.Try.results77]))
  refine ⟨_, _, _, weakS (fr' := [(0, _)]) ⟨.inr rfl, trivial⟩ (sub_rot0 (by omega) (by omega)), .inr ⟨by omega, bid, mid, nid0 + 3, top, hbm, by omega, by omega, by omega, by omega, by omega, by omega, by omega, by omega, ht0, rfl, rfl⟩⟩
end Go.Lg
end
section
set_option linter.unusedSimpArgs false
set_option linter.unusedVariables false
set_option maxRecDepth 100000
set_option maxHeartbeats 4000000
namespace Go.Lg
open Go.Sx
def Clo (c : Curve) (bid mid : Nat) (rest : List (Nat × Blk)) (f : FuncId) (caps : List SV) (g : Nat → Int) (last : Nat) : Prop :=
  ∀ k, k ≤ last → ∀ top, top ≤ 400 → ∀ id, Under rest id → bid < id → mid < id → EffVC Go.Proofs.Try.prog f (I k :: caps) ((bid, bdC c mid true top) :: (mid, bdM c top) :: rest) id
    (fun hp' nid' res => ∃ top', top' ≤ 400 ∧ hp' = (bid, bdC c mid true top') :: (mid, bdM c top') :: rest ∧ id ≤ nid' ∧ res = I (g k))
theorem e88 (c : Curve) (bid mid : Nat) (rest : List (Nat × Blk)) (f : FuncId) (caps : List SV) (g : Nat → Int) (last : Nat) (hl : last ≤ 1000000) (hg : Clo c bid mid rest f caps g last) (top : Nat) (ht : top ≤ 400) (id : Nat) (hr : Under rest id) (hb : bid < id) (hm : mid < id) :
    EffVC Go.Proofs.Try.prog 88 [I last, .fn (.func f) [] caps] ((bid, bdC c mid true top) :: (mid, bdM c top) :: rest) id (fun hp' nid' res => ∃ top', top' ≤ 400 ∧ hp' = (bid, bdC c mid true top') :: (mid, bdM c top') :: rest ∧ id ≤ nid' ∧ res = I (foldMin g last)) := by
  refine eff_of follows Go.Proofs.Try.func88 rfl (by kernel_rfl) (by kernel_rfl) (by rw [Go.Proofs.Try.ntmps88]; simp) fun out => ?_
  unfold I
  (repeat' (first | with_reducible refine splitVC_d (fun _ => ?_) (fun _ => ?_) | ((with_reducible refine And.intro ?_ ?_); focus (first | trivial | (simp only [InK]; omega) | omega | (simp only [InK, ne_eq, and_true, true_and]; omega))) | simp -dsimp only [↓RP, RQ0, RQ1, RQ2, RQ3, implies_true, forall_const, Nat.reduceMul, reduceIte, reduceCtorEq, Nat.reduceAdd, Nat.reduceEqDiff, Nat.reduceLT, Nat.reduceLeDiff, TY, Nat.add_assoc, effK_ret, effK_normal, List.nil_append, Go.Proofs.Try.results88]))
  refine callE (by rfl) (hg 0 (Nat.zero_le _) top ht _ (hr.mono (by omega)) (by omega) (by omega)) fun hp' nid0 res ⟨top', ht', r1, hn', r2⟩ => ?_
  subst r1 r2
  (repeat' (first | with_reducible refine splitVC_d (fun _ => ?_) (fun _ => ?_) | ((with_reducible refine And.intro ?_ ?_); focus (first | trivial | (simp only [InK]; omega) | omega | (simp only [InK, ne_eq, and_true, true_and]; omega))) | simp -dsimp only [↓RP, RQ0, RQ1, RQ2, RQ3, implies_true, forall_const, Nat.reduceMul, reduceIte, reduceCtorEq, Nat.reduceAdd, Nat.reduceEqDiff, Nat.reduceLT, Nat.reduceLeDiff, I, TY, Nat.add_assoc, effK_ret, effK_normal, Go.Proofs.Try.results88]))
  refine loop_vc (fun (x : Nat × Nat × Nat) => x.1 ≤ last ∧ x.2.1 ≤ 400 ∧ id ≤ x.2.2) (fun x => ⟨[(0, .val (.int .i64 last)), (1, .fn (.func f) [] caps), (5, .val (.int .i64 (foldMin g x.1))), (6, .val (.int .i64 ((x.1 : Int) + 1)))], (bid, bdC c mid true x.2.1) :: (mid, bdM c x.2.1) :: rest, x.2.2⟩) (fun x => last - x.1) (0, top', _) ⟨Nat.zero_le _, ht', ?_⟩ (weakS ?_ ?_) fun x hx => ?_
  rotate_left
  · simp [SubFr, Go.Sx.look, foldMin]
  · exact SubHp.refl _
  rotate_left
  · simp only []; omega
  obtain ⟨k, top, nid⟩ := x
  obtain ⟨hk, ht, hn⟩ := hx
  replace hk : k ≤ last := hk
  replace ht : top ≤ 400 := ht
  replace hn : id ≤ nid := hn
  by_cases hlt : k < last
  · have eP : (k : Int) + 1 = ((k + 1 : Nat) : Int) := by omega
    (repeat' (first | with_reducible refine splitVC_d (fun _ => ?_) (fun _ => ?_) | ((with_reducible refine And.intro ?_ ?_); focus (first | trivial | (simp only [InK]; omega) | omega | (simp only [InK, ne_eq, and_true, true_and]; omega))) | simp -dsimp only [↓RP, RQ0, RQ1, RQ2, RQ3, implies_true, forall_const, Nat.reduceMul, reduceIte, reduceCtorEq, Nat.reduceAdd, Nat.reduceEqDiff, Nat.reduceLT, Nat.reduceLeDiff, eP, TY, Nat.add_assoc, effK_ret, effK_normal, List.nil_append, Go.Proofs.Try.results88]))
    all_goals first | (exfalso; omega) | skip
    refine callE (by rfl) (hg (k + 1) hlt top ht _ (hr.mono (by omega)) (by omega) (by omega)) fun hp' nid0 res ⟨top', ht', r1, hn', r2⟩ => ?_
    subst r1 r2
    (repeat' (first | with_reducible refine splitVC_d (fun _ => ?_) (fun _ => ?_) | ((with_reducible refine And.intro ?_ ?_); focus (first | trivial | (simp only [InK]; omega) | omega | (simp only [InK, ne_eq, and_true, true_and]; omega))) | simp -dsimp only [↓RP, RQ0, RQ1, RQ2, RQ3, implies_true, forall_const, Nat.reduceMul, reduceIte, reduceCtorEq, Nat.reduceAdd, Nat.reduceEqDiff, Nat.reduceLT, Nat.reduceLeDiff, I, eP, TY, Nat.add_assoc, effK_ret, effK_normal, Go.Proofs.Try.results88]))
    all_goals first | (exfalso; omega) | skip
    refine ⟨(k + 1, top', _), ⟨hlt, ht', ?_⟩, by simp only []; omega, weakS ?_ ?_⟩
    rotate_left
    · simp [SubFr, Go.Sx.look, foldMin]
    · exact SubHp.refl _
    · simp only []; omega
  · have hke : k = last := by omega
    subst hke
    (repeat' (first | with_reducible refine splitVC_d (fun _ => ?_) (fun _ => ?_) | ((with_reducible refine And.intro ?_ ?_); focus (first | trivial | (simp only [InK]; omega) | omega | (simp only [InK, ne_eq, and_true, true_and]; omega))) | simp -dsimp only [↓RP, RQ0, RQ1, RQ2, RQ3, implies_true, forall_const, Nat.reduceMul, reduceIte, reduceCtorEq, Nat.reduceAdd, Nat.reduceEqDiff, Nat.reduceLT, Nat.reduceLeDiff, TY, Nat.add_assoc, effK_ret, effK_normal, Go.Proofs.Try.results88]))
    all_goals first | (exfalso; omega) | skip
    refine ⟨_, _, _, weakS (fr' := [(0, _)]) ⟨.inr rfl, trivial⟩ (SubHp.refl _), top, ht, rfl, by omega, rfl⟩
theorem e96 (c : Curve) (bid mid : Nat) (rest : List (Nat × Blk)) (f : FuncId) (caps : List SV) (g : Nat → Int) (last cid : Nat) (hg : Clo c bid mid rest f caps g last) (hbd : ∀ k, k ≤ last → -1000000 ≤ g k ∧ g k ≤ 1000000) (h1 : cid ≠ bid) (h2 : cid ≠ mid) (hc : blk rest cid = some (.cells 79 [.fn (.func f) [] caps])) : Clo c bid mid rest 96 [.ptr cid 0] (fun k => -(g k)) last := by
  intro k hk top ht id hr hb hm
  refine eff_of follows Go.Proofs.Try.func96 rfl (by kernel_rfl) (by kernel_rfl) (by rw [Go.Proofs.Try.ntmps96]; simp) fun out => ?_
  have D : (cid = bid) = False ∧ (cid = mid) = False := ⟨by simp [h1], by simp [h2]⟩
  have b1 := hbd k hk
  unfold I
  (repeat' (first | with_reducible refine splitVC_d (fun _ => ?_) (fun _ => ?_) | ((with_reducible refine And.intro ?_ ?_); focus (first | trivial | (simp only [InK]; omega) | omega | (simp only [InK, ne_eq, and_true, true_and]; omega))) | simp -dsimp only [↓RP, RQ0, RQ1, RQ2, RQ3, implies_true, forall_const, Nat.reduceMul, reduceIte, reduceCtorEq, Nat.reduceAdd, Nat.reduceEqDiff, Nat.reduceLT, Nat.reduceLeDiff, D, hc, TY, Nat.add_zero, Nat.add_assoc, effK_ret, effK_normal, List.nil_append, Go.Proofs.Try.results96]))
  refine callE (by rfl) (hg k hk top ht _ (hr.mono (by omega)) (by omega) (by omega)) fun hp' nid0 res ⟨top', ht', r1, hn', r2⟩ => ?_
  subst r1 r2
  (repeat' (first | with_reducible refine splitVC_d (fun _ => ?_) (fun _ => ?_) | ((with_reducible refine And.intro ?_ ?_); focus (first | trivial | (simp only [InK]; omega) | omega | (simp only [InK, ne_eq, and_true, true_and]; omega))) | simp -dsimp only [↓RP, RQ0, RQ1, RQ2, RQ3, implies_true, forall_const, Nat.reduceMul, reduceIte, reduceCtorEq, Nat.reduceAdd, Nat.reduceEqDiff, Nat.reduceLT, Nat.reduceLeDiff, I, TY, Nat.add_assoc, effK_ret, effK_normal, Go.Proofs.Try.results96]))
  refine ⟨_, _, _, weakS (fr' := [(0, _)]) ⟨.inr rfl, trivial⟩ (SubHp.refl _), top', ht', rfl, by omega, I_eq (Int.zero_sub _)⟩
theorem sub_swap3 {i b m : Nat} {X B M : Blk} {rest : List (Nat × Blk)} (h1 : i ≠ b) (h2 : i ≠ m) : SubHp ((i, X) :: (b, B) :: (m, M) :: rest) ((b, B) :: (m, M) :: (i, X) :: rest) := fun k x hx => by
  simp only [blk] at hx ⊢
  by_cases e1 : k = b
  · subst e1
    rw [if_pos rfl] at hx
    rw [if_neg (Ne.symm h1), if_pos rfl]; exact hx
  · rw [if_neg e1] at hx
    by_cases e2 : k = m
    · subst e2
      rw [if_pos rfl] at hx
      rw [if_neg (Ne.symm h2), if_neg e1, if_pos rfl]; exact hx
    · rw [if_neg e2] at hx
      rw [if_neg e1, if_neg e2]
      exact hx
theorem e78 (c : Curve) (bid mid : Nat) (hbm : bid ≠ mid) (rest : List (Nat × Blk)) (f : FuncId) (caps : List SV) (g : Nat → Int) (last : Nat) (hl : last ≤ 1000000) (top : Nat) (ht : top ≤ 400) (id : Nat) (hr : Under rest id) (hb : bid < id) (hm : mid < id)
    (hg : ∀ cid X, id ≤ cid → Clo c bid mid ((cid, X) :: rest) f caps g last) (hbd : ∀ k, k ≤ last → -1000000 ≤ g k ∧ g k ≤ 1000000) :
    EffVC Go.Proofs.Try.prog 78 [I last, .fn (.func f) [] caps] ((bid, bdC c mid true top) :: (mid, bdM c top) :: rest) id (fun hp' nid' res => ∃ top', top' ≤ 400 ∧ hp' = (bid, bdC c mid true top') :: (mid, bdM c top') :: rest ∧ id ≤ nid' ∧ res = I (bestTo g (last + 1))) := by
  refine eff_of follows Go.Proofs.Try.func78 rfl (by kernel_rfl) (by kernel_rfl) (by rw [Go.Proofs.Try.ntmps78]; simp) fun out => ?_
  have NB := names2 hbm hb hm
  unfold I
  (repeat' (first | with_reducible refine splitVC_d (fun _ => ?_) (fun _ => ?_) | ((with_reducible refine And.intro ?_ ?_); focus (first | trivial | (simp only [InK]; omega) | omega | (simp only [InK, ne_eq, and_true, true_and]; omega))) | simp -dsimp only [↓RP, RQ0, RQ1, RQ2, RQ3, implies_true, forall_const, Nat.reduceMul, reduceIte, reduceCtorEq, Nat.reduceAdd, Nat.reduceEqDiff, Nat.reduceLT, Nat.reduceLeDiff, NB, TY, Nat.add_zero, Nat.add_assoc, effK_ret, effK_normal, Go.Proofs.Try.results78]))
  refine callE (by rfl) (EffVC.sub (sub_swap3 (by omega) (by omega)) (e88 c bid mid ((id, .cells 79 [.fn (.func f) [] caps]) :: rest) 96 [.ptr id 0] (fun k => -(g k)) last hl (e96 c bid mid _ f caps g last id (hg id _ (Nat.le_refl _)) hbd (by omega) (by omega) (blk_head _ _ _)) top ht _ ((hr.mono (by omega)).cons (by omega)) (by omega) (by omega))) fun hp' nid0 res ⟨top', ht', r1, hn', r2⟩ => ?_
  subst r1 r2
  have b0 : -1000000 ≤ foldMin (fun k => -(g k)) last ∧ foldMin (fun k => -(g k)) last ≤ 1000000 := by
    obtain ⟨j, hj, e⟩ := foldMin_at (fun k => -(g k)) last
    have := hbd j hj
    have e : foldMin (fun k => -(g k)) last = -(g j) := e
    omega
  have e1 := bestTo_min g last
  (repeat' (first | with_reducible refine splitVC_d (fun _ => ?_) (fun _ => ?_) | ((with_reducible refine And.intro ?_ ?_); focus (first | trivial | (simp only [InK]; omega) | omega | (simp only [InK, ne_eq, and_true, true_and]; omega))) | simp -dsimp only [↓RP, RQ0, RQ1, RQ2, RQ3, implies_true, forall_const, Nat.reduceMul, reduceIte, reduceCtorEq, Nat.reduceAdd, Nat.reduceEqDiff, Nat.reduceLT, Nat.reduceLeDiff, I, TY, Nat.add_assoc, effK_ret, effK_normal, Go.Proofs.Try.results78]))
  refine ⟨_, _, _, weakS (fr' := [(0, _)]) ⟨.inr rfl, trivial⟩ (SubHp.cons (SubHp.cons (SubHp.skip (hr.none (Nat.le_refl _)) (SubHp.refl _)))), top', ht', rfl, by omega, I_eq (by rw [Int.zero_sub, e1])⟩
theorem e79 (c : Curve) (hf : c.Fine) (L : Nat → Int) (hL : ∀ k, k ≤ 360 → 0 ≤ L k ∧ L k ≤ 50000) (bid mid : Nat) (hbm : bid ≠ mid) (rest : List (Nat × Blk)) (cb cl il : Nat) (d : cb ≠ bid ∧ cb ≠ mid ∧ cl ≠ bid ∧ cl ≠ mid ∧ il ≠ bid ∧ il ≠ mid) (hcb : blk rest cb = some (.cells 77 [.ptr bid 0])) (hcl : blk rest cl = some (.cells 22 [.vec il 361 1])) (hil : blk rest il = some (rowB 361 L)) :
    Clo c bid mid rest 79 [.ptr cb 0, .ptr cl 0] (fun k => c.M k - L k) 180 := by
  intro k hk top ht id hr hb hm
  refine eff_ofF (handAt 1) follows Go.Proofs.Try.func79 rfl (by kernel_rfl) (by kernel_rfl) (by rw [Go.Proofs.Try.ntmps79]; simp) fun out => ?_
  have D : (cb = bid) = False ∧ (cb = mid) = False ∧ (cl = bid) = False ∧ (cl = mid) = False ∧ (il = bid) = False ∧ (il = mid) = False ∧ blk rest cb = some (.cells 77 [.ptr bid 0]) ∧ blk rest cl = some (.cells 22 [.vec il 361 1]) ∧ blk rest il = some (rowB 361 L) := ⟨by simp [d], by simp [d], by simp [d], by simp [d], by simp [d], by simp [d], hcb, hcl, hil⟩
  have NB : True := trivial
  have m1 := M_bound hf k
  have l1 := hL k (by omega)
  unfold I
  (repeat' (first | with_reducible refine splitVC_d (fun _ => ?_) (fun _ => ?_) | ((with_reducible refine And.intro ?_ ?_); focus (first | trivial | (simp only [InK]; omega) | omega | (simp only [InK, ne_eq, and_true, true_and]; omega))) | simp -dsimp only [↓RP, RQ0, RQ1, RQ2, RQ3, implies_true, forall_const, Nat.reduceMul, reduceIte, reduceCtorEq, Nat.reduceAdd, Nat.reduceEqDiff, Nat.reduceLT, Nat.reduceLeDiff, NB, D, I, Nat.add_zero, Nat.add_assoc, TY, Int.toNat_natCast, effK_ret, effK_normal, Go.Proofs.Try.results79]))
  refine rawRegion follows (fun m st => ∃ (top nid : Nat), top ≤ 400 ∧ id ≤ nid ∧ st = ⟨[(0, .val (.int .i64 (k))), (1, .ptr cb 0), (2, .ptr cl 0), (5, up (m.testBit 0) (.ptr bid 0)), (6, up (m.testBit 1) (.val (.int .i64 (k)))), (7, up (m.testBit 2) (.val (.int .i64 (c.M k)))), (8, up (m.testBit 3) (.vec il 361 1)), (9, up (m.testBit 4) (.val (.int .i64 (k)))), (10, up (m.testBit 5) (.elt il 1 k 0)), (11, up (m.testBit 6) (.val (.int .i64 (L k)))), (12, up (m.testBit 7) (.val (.int .i64 (c.M k - L k)))), (4, up (m.testBit 8) (.val (.int .i64 (c.M k - L k))))], (bid, bdC c mid true top) :: (mid, bdM c top) :: rest, nid⟩) (ms := [0, 0, 3, 0, 0, 24, 56, 127, 255]) (by kernel_rfl) (by kernel_rfl) (weakS (by simp [SubFr, Go.Sx.look, Go.Sx.up]) (SubHp.refl _)) ⟨top, _, ht, by omega, rfl⟩ (stepsH_cons ?_ <| stepsH_cons ?_ <| stepsH_cons ?_ <| stepsH_cons ?_ <| stepsH_cons ?_ <| stepsH_cons ?_ <| stepsH_cons ?_ <| stepsH_cons ?_ <| stepsH_cons ?_ <| stepsH_nil) ?_
  · rintro m st ⟨top, nid, ht, hn, rfl⟩ hcl hbit hd
    unfold opH
    rw [guardVC_none]
    simp only [hbit, up_true, up_false]
    refine .inl ?_
    (simp -dsimp only [↓RP, RQ0, RQ1, RQ2, RQ3, implies_true, forall_const, Nat.reduceMul, reduceIte, reduceCtorEq, Nat.reduceAdd, Nat.reduceEqDiff, Nat.reduceLT, Nat.reduceLeDiff, NB, D, I, Nat.add_zero, Nat.add_assoc, TY, Int.toNat_natCast, effK_ret, effK_normal, Go.Proofs.Try.results79])
    try refine ⟨by (first | trivial | (simp only [InK]; omega) | omega | (simp only [InK, ne_eq, and_true, true_and]; omega)), ?_⟩
    refine ⟨_, Weak.refl _ _, top, nid + 1, ht, by omega, ?_⟩
    simp only [tb, Nat.reduceEqDiff, Nat.succ_ne_self, Nat.zero_ne_one, Nat.one_ne_zero, decide_false, decide_true, Bool.or_false, Bool.or_true, Bool.false_or, up_true, up_false, hbit]
  · rintro m st ⟨top, nid, ht, hn, rfl⟩ hcl hbit hd
    unfold opH
    rw [guardVC_none]
    simp only [hbit, up_true, up_false]
    refine .inl ?_
    (simp -dsimp only [↓RP, RQ0, RQ1, RQ2, RQ3, implies_true, forall_const, Nat.reduceMul, reduceIte, reduceCtorEq, Nat.reduceAdd, Nat.reduceEqDiff, Nat.reduceLT, Nat.reduceLeDiff, NB, D, I, Nat.add_zero, Nat.add_assoc, TY, Int.toNat_natCast, effK_ret, effK_normal, Go.Proofs.Try.results79])
    try refine ⟨by (first | trivial | (simp only [InK]; omega) | omega | (simp only [InK, ne_eq, and_true, true_and]; omega)), ?_⟩
    refine ⟨_, Weak.refl _ _, top, nid + 1, ht, by omega, ?_⟩
    simp only [tb, Nat.reduceEqDiff, Nat.succ_ne_self, Nat.zero_ne_one, Nat.one_ne_zero, decide_false, decide_true, Bool.or_false, Bool.or_true, Bool.false_or, up_true, up_false, hbit]
  · rintro m st ⟨top, nid, ht, hn, rfl⟩ hcl hbit hd
    have q0 := hd 0 (by decide) (by decide)
    have q1 := hd 1 (by decide) (by decide)
    unfold opH
    rw [guardVC_none]
    simp only [q0, q1, hbit, up_true, up_false]
    refine .inl ?_
    (simp -dsimp only [↓RP, RQ0, RQ1, RQ2, RQ3, implies_true, forall_const, Nat.reduceMul, reduceIte, reduceCtorEq, Nat.reduceAdd, Nat.reduceEqDiff, Nat.reduceLT, Nat.reduceLeDiff, NB, D, I, Nat.add_zero, Nat.add_assoc, TY, Int.toNat_natCast, effK_ret, effK_normal, Go.Proofs.Try.results79])
    refine callE trivial (e64 c hf true top k ht (by omega) bid mid _ rest hbm (by omega) (by omega) (hr.mono (by omega))) fun hp' nid' res ⟨top', ht', r1, hn', r2⟩ => ?_
    subst r1 r2
    (simp -dsimp only [↓RP, RQ0, RQ1, RQ2, RQ3, implies_true, forall_const, Nat.reduceMul, reduceIte, reduceCtorEq, Nat.reduceAdd, Nat.reduceEqDiff, Nat.reduceLT, Nat.reduceLeDiff, NB, D, I, Nat.add_zero, Nat.add_assoc, TY, Int.toNat_natCast, effK_ret, effK_normal, Go.Proofs.Try.results79])
    refine ⟨_, Weak.refl _ _, top', nid' + 1, ht', by omega, ?_⟩
    simp only [tb, Nat.reduceEqDiff, Nat.succ_ne_self, Nat.zero_ne_one, Nat.one_ne_zero, decide_false, decide_true, Bool.or_false, Bool.or_true, Bool.false_or, up_true, up_false, q0, q1, hbit]
  · rintro m st ⟨top, nid, ht, hn, rfl⟩ hcl hbit hd
    unfold opH
    rw [guardVC_none]
    simp only [hbit, up_true, up_false]
    refine .inl ?_
    (simp -dsimp only [↓RP, RQ0, RQ1, RQ2, RQ3, implies_true, forall_const, Nat.reduceMul, reduceIte, reduceCtorEq, Nat.reduceAdd, Nat.reduceEqDiff, Nat.reduceLT, Nat.reduceLeDiff, NB, D, I, Nat.add_zero, Nat.add_assoc, TY, Int.toNat_natCast, effK_ret, effK_normal, Go.Proofs.Try.results79])
    try refine ⟨by (first | trivial | (simp only [InK]; omega) | omega | (simp only [InK, ne_eq, and_true, true_and]; omega)), ?_⟩
    refine ⟨_, Weak.refl _ _, top, nid + 1, ht, by omega, ?_⟩
    simp only [tb, Nat.reduceEqDiff, Nat.succ_ne_self, Nat.zero_ne_one, Nat.one_ne_zero, decide_false, decide_true, Bool.or_false, Bool.or_true, Bool.false_or, up_true, up_false, hbit]
  · rintro m st ⟨top, nid, ht, hn, rfl⟩ hcl hbit hd
    unfold opH
    rw [guardVC_none]
    simp only [hbit, up_true, up_false]
    refine .inl ?_
    (simp -dsimp only [↓RP, RQ0, RQ1, RQ2, RQ3, implies_true, forall_const, Nat.reduceMul, reduceIte, reduceCtorEq, Nat.reduceAdd, Nat.reduceEqDiff, Nat.reduceLT, Nat.reduceLeDiff, NB, D, I, Nat.add_zero, Nat.add_assoc, TY, Int.toNat_natCast, effK_ret, effK_normal, Go.Proofs.Try.results79])
    try refine ⟨by (first | trivial | (simp only [InK]; omega) | omega | (simp only [InK, ne_eq, and_true, true_and]; omega)), ?_⟩
    refine ⟨_, Weak.refl _ _, top, nid + 1, ht, by omega, ?_⟩
    simp only [tb, Nat.reduceEqDiff, Nat.succ_ne_self, Nat.zero_ne_one, Nat.one_ne_zero, decide_false, decide_true, Bool.or_false, Bool.or_true, Bool.false_or, up_true, up_false, hbit]
  · rintro m st ⟨top, nid, ht, hn, rfl⟩ hcl hbit hd
    have q3 := hd 3 (by decide) (by decide)
    have q4 := hd 4 (by decide) (by decide)
    unfold opH
    rw [guardVC_none]
    simp only [q3, q4, hbit, up_true, up_false]
    refine .inl ?_
    (simp -dsimp only [↓RP, RQ0, RQ1, RQ2, RQ3, implies_true, forall_const, Nat.reduceMul, reduceIte, reduceCtorEq, Nat.reduceAdd, Nat.reduceEqDiff, Nat.reduceLT, Nat.reduceLeDiff, NB, D, I, Nat.add_zero, Nat.add_assoc, TY, Int.toNat_natCast, effK_ret, effK_normal, Go.Proofs.Try.results79])
    try refine ⟨by (first | trivial | (simp only [InK]; omega) | omega | (simp only [InK, ne_eq, and_true, true_and]; omega)), ?_⟩
    refine ⟨_, Weak.refl _ _, top, nid + 1, ht, by omega, ?_⟩
    simp only [tb, Nat.reduceEqDiff, Nat.succ_ne_self, Nat.zero_ne_one, Nat.one_ne_zero, decide_false, decide_true, Bool.or_false, Bool.or_true, Bool.false_or, up_true, up_false, q3, q4, hbit]
  · rintro m st ⟨top, nid, ht, hn, rfl⟩ hcl hbit hd
    have q5 := hd 5 (by decide) (by decide)
    unfold opH
    rw [guardVC_none]
    simp only [q5, hbit, up_true, up_false]
    refine .inl ?_
    (simp -dsimp only [↓RP, RQ0, RQ1, RQ2, RQ3, implies_true, forall_const, Nat.reduceMul, reduceIte, reduceCtorEq, Nat.reduceAdd, Nat.reduceEqDiff, Nat.reduceLT, Nat.reduceLeDiff, NB, D, I, Nat.add_zero, Nat.add_assoc, TY, Int.toNat_natCast, effK_ret, effK_normal, Go.Proofs.Try.results79])
    try refine ⟨by (first | trivial | (simp only [InK]; omega) | omega | (simp only [InK, ne_eq, and_true, true_and]; omega)), ?_⟩
    refine ⟨_, Weak.refl _ _, top, nid + 1, ht, by omega, ?_⟩
    simp only [tb, Nat.reduceEqDiff, Nat.succ_ne_self, Nat.zero_ne_one, Nat.one_ne_zero, decide_false, decide_true, Bool.or_false, Bool.or_true, Bool.false_or, up_true, up_false, q5, hbit]
  · rintro m st ⟨top, nid, ht, hn, rfl⟩ hcl hbit hd
    have q2 := hd 2 (by decide) (by decide)
    have q6 := hd 6 (by decide) (by decide)
    unfold opH
    rw [guardVC_none]
    simp only [q2, q6, hbit, up_true, up_false]
    refine .inl ?_
    (simp -dsimp only [↓RP, RQ0, RQ1, RQ2, RQ3, implies_true, forall_const, Nat.reduceMul, reduceIte, reduceCtorEq, Nat.reduceAdd, Nat.reduceEqDiff, Nat.reduceLT, Nat.reduceLeDiff, NB, D, I, Nat.add_zero, Nat.add_assoc, TY, Int.toNat_natCast, effK_ret, effK_normal, Go.Proofs.Try.results79])
    try refine ⟨by (first | trivial | (simp only [InK]; omega) | omega | (simp only [InK, ne_eq, and_true, true_and]; omega)), ?_⟩
    refine ⟨_, Weak.refl _ _, top, nid + 1, ht, by omega, ?_⟩
    simp only [tb, Nat.reduceEqDiff, Nat.succ_ne_self, Nat.zero_ne_one, Nat.one_ne_zero, decide_false, decide_true, Bool.or_false, Bool.or_true, Bool.false_or, up_true, up_false, q2, q6, hbit]
  · rintro m st ⟨top, nid, ht, hn, rfl⟩ hcl hbit hd
    have q7 := hd 7 (by decide) (by decide)
    unfold opH
    rw [guardVC_none]
    simp only [q7, hbit, up_true, up_false]
    refine .inl ?_
    (simp -dsimp only [↓RP, RQ0, RQ1, RQ2, RQ3, implies_true, forall_const, Nat.reduceMul, reduceIte, reduceCtorEq, Nat.reduceAdd, Nat.reduceEqDiff, Nat.reduceLT, Nat.reduceLeDiff, NB, D, I, Nat.add_zero, Nat.add_assoc, TY, Int.toNat_natCast, effK_ret, effK_normal, Go.Proofs.Try.results79])
    try refine ⟨by (first | trivial | (simp only [InK]; omega) | omega | (simp only [InK, ne_eq, and_true, true_and]; omega)), ?_⟩
    refine ⟨_, Weak.refl _ _, top, nid + 1, ht, by omega, ?_⟩
    simp only [tb, Nat.reduceEqDiff, Nat.succ_ne_self, Nat.zero_ne_one, Nat.one_ne_zero, decide_false, decide_true, Bool.or_false, Bool.or_true, Bool.false_or, up_true, up_false, q7, hbit]
  · rintro m st' ⟨top, nid, ht, hn, rfl⟩ hall
    simp only [hall 0 (by decide), hall 1 (by decide), hall 2 (by decide), hall 3 (by decide), hall 4 (by decide), hall 5 (by decide), hall 6 (by decide), hall 7 (by decide), hall 8 (by decide), up_true]
    (repeat' (first | with_reducible refine splitVC_d (fun _ => ?_) (fun _ => ?_) | ((with_reducible refine And.intro ?_ ?_); focus (first | trivial | (simp only [InK]; omega) | omega | (simp only [InK, ne_eq, and_true, true_and]; omega))) | simp -dsimp only [↓RP, RQ0, RQ1, RQ2, RQ3, implies_true, forall_const, Nat.reduceMul, reduceIte, reduceCtorEq, Nat.reduceAdd, Nat.reduceEqDiff, Nat.reduceLT, Nat.reduceLeDiff, NB, D, I, Nat.add_zero, Nat.add_assoc, TY, Int.toNat_natCast, effK_ret, effK_normal, Go.Proofs.Try.results79]))
    refine ⟨_, _, _, weakS (fr' := [(0, _)]) ⟨.inr rfl, trivial⟩ (SubHp.refl _), top, ht, rfl, by omega, rfl⟩
theorem e81 (c : Curve) (hf : c.Fine) (L : Nat → Int) (hL : ∀ k, k ≤ 360 → 0 ≤ L k ∧ L k ≤ 50000) (bid mid : Nat) (hbm : bid ≠ mid) (rest : List (Nat × Blk)) (cb cl il ci : Nat) (d : cb ≠ bid ∧ cb ≠ mid ∧ cl ≠ bid ∧ cl ≠ mid ∧ il ≠ bid ∧ il ≠ mid) (d2 : ci ≠ bid ∧ ci ≠ mid) (i i1 : Nat) (hi : i ≤ 6) (hi1 : i1 = i + 1) (hci : blk rest ci = some (.cells 3 [.val (.int .i64 i)])) (hcb : blk rest cb = some (.cells 77 [.ptr bid 0])) (hcl : blk rest cl = some (.cells 22 [.vec il 361 1])) (hil : blk rest il = some (rowB 361 L)) :
    Clo c bid mid rest 81 [.ptr cb 0, .ptr ci 0, .ptr cl 0] (fun k => c.M (i1 + k) - L k) 180 := by
  intro k hk top ht id hr hb hm
  refine eff_ofF (handAt 1) follows Go.Proofs.Try.func81 rfl (by kernel_rfl) (by kernel_rfl) (by rw [Go.Proofs.Try.ntmps81]; simp) fun out => ?_
  have D : (cb = bid) = False ∧ (cb = mid) = False ∧ (cl = bid) = False ∧ (cl = mid) = False ∧ (il = bid) = False ∧ (il = mid) = False ∧ (ci = bid) = False ∧ (ci = mid) = False ∧ blk rest ci = some (.cells 3 [.val (.int .i64 i)]) ∧ blk rest cb = some (.cells 77 [.ptr bid 0]) ∧ blk rest cl = some (.cells 22 [.vec il 361 1]) ∧ blk rest il = some (rowB 361 L) := ⟨by simp [d], by simp [d], by simp [d], by simp [d], by simp [d], by simp [d], by simp [d2], by simp [d2], hci, hcb, hcl, hil⟩
  have NB : True := trivial
  have m1 := M_bound hf (i1 + k)
  have l1 := hL k (by omega)
  have eI : (i : Int) + 1 = (i1 : Int) := by omega
  have eIK : (i1 : Int) + (k : Int) = ((i1 + k : Nat) : Int) := rfl
  unfold I
  (repeat' (first | with_reducible refine splitVC_d (fun _ => ?_) (fun _ => ?_) | ((with_reducible refine And.intro ?_ ?_); focus (first | trivial | (simp only [InK]; omega) | omega | (simp only [InK, ne_eq, and_true, true_and]; omega))) | simp -dsimp only [↓RP, RQ0, RQ1, RQ2, RQ3, implies_true, forall_const, Nat.reduceMul, reduceIte, reduceCtorEq, Nat.reduceAdd, Nat.reduceEqDiff, Nat.reduceLT, Nat.reduceLeDiff, eI, eIK, NB, D, I, Nat.add_zero, Nat.add_assoc, TY, Int.toNat_natCast, effK_ret, effK_normal, Go.Proofs.Try.results81]))
  refine rawRegion follows (fun m st => ∃ (top nid : Nat), top ≤ 400 ∧ id ≤ nid ∧ st = ⟨[(0, .val (.int .i64 (k))), (1, .ptr cb 0), (2, .ptr ci 0), (3, .ptr cl 0), (6, up (m.testBit 0) (.ptr bid 0)), (7, up (m.testBit 1) (.val (.int .i64 (i)))), (8, up (m.testBit 2) (.val (.int .i64 ((i1 : Int))))), (9, up (m.testBit 3) (.val (.int .i64 (k)))), (10, up (m.testBit 4) (.val (.int .i64 (((i1 + k : Nat) : Int))))), (11, up (m.testBit 5) (.val (.int .i64 (c.M (i1 + k))))), (12, up (m.testBit 6) (.vec il 361 1)), (13, up (m.testBit 7) (.val (.int .i64 (k)))), (14, up (m.testBit 8) (.elt il 1 k 0)), (15, up (m.testBit 9) (.val (.int .i64 (L k)))), (16, up (m.testBit 10) (.val (.int .i64 (c.M (i1 + k) - L k)))), (5, up (m.testBit 11) (.val (.int .i64 (c.M (i1 + k) - L k))))], (bid, bdC c mid true top) :: (mid, bdM c top) :: rest, nid⟩) (ms := [0, 0, 2, 0, 14, 31, 0, 0, 192, 448, 1023, 2047]) (by kernel_rfl) (by kernel_rfl) (weakS (by simp [SubFr, Go.Sx.look, Go.Sx.up]) (SubHp.refl _)) ⟨top, _, ht, by omega, rfl⟩ (stepsH_cons ?_ <| stepsH_cons ?_ <| stepsH_cons ?_ <| stepsH_cons ?_ <| stepsH_cons ?_ <| stepsH_cons ?_ <| stepsH_cons ?_ <| stepsH_cons ?_ <| stepsH_cons ?_ <| stepsH_cons ?_ <| stepsH_cons ?_ <| stepsH_cons ?_ <| stepsH_nil) ?_
  · rintro m st ⟨top, nid, ht, hn, rfl⟩ hcl hbit hd
    unfold opH
    rw [guardVC_none]
    simp only [hbit, up_true, up_false]
    refine .inl ?_
    (simp -dsimp only [↓RP, RQ0, RQ1, RQ2, RQ3, implies_true, forall_const, Nat.reduceMul, reduceIte, reduceCtorEq, Nat.reduceAdd, Nat.reduceEqDiff, Nat.reduceLT, Nat.reduceLeDiff, eI, eIK, NB, D, I, Nat.add_zero, Nat.add_assoc, TY, Int.toNat_natCast, effK_ret, effK_normal, Go.Proofs.Try.results81])
    try refine ⟨by (first | trivial | (simp only [InK]; omega) | omega | (simp only [InK, ne_eq, and_true, true_and]; omega)), ?_⟩
    refine ⟨_, Weak.refl _ _, top, nid + 1, ht, by omega, ?_⟩
    simp only [tb, Nat.reduceEqDiff, Nat.succ_ne_self, Nat.zero_ne_one, Nat.one_ne_zero, decide_false, decide_true, Bool.or_false, Bool.or_true, Bool.false_or, up_true, up_false, hbit]
  · rintro m st ⟨top, nid, ht, hn, rfl⟩ hcl hbit hd
    unfold opH
    rw [guardVC_none]
    simp only [hbit, up_true, up_false]
    refine .inl ?_
    (simp -dsimp only [↓RP, RQ0, RQ1, RQ2, RQ3, implies_true, forall_const, Nat.reduceMul, reduceIte, reduceCtorEq, Nat.reduceAdd, Nat.reduceEqDiff, Nat.reduceLT, Nat.reduceLeDiff, eI, eIK, NB, D, I, Nat.add_zero, Nat.add_assoc, TY, Int.toNat_natCast, effK_ret, effK_normal, Go.Proofs.Try.results81])
    try refine ⟨by (first | trivial | (simp only [InK]; omega) | omega | (simp only [InK, ne_eq, and_true, true_and]; omega)), ?_⟩
    refine ⟨_, Weak.refl _ _, top, nid + 1, ht, by omega, ?_⟩
    simp only [tb, Nat.reduceEqDiff, Nat.succ_ne_self, Nat.zero_ne_one, Nat.one_ne_zero, decide_false, decide_true, Bool.or_false, Bool.or_true, Bool.false_or, up_true, up_false, hbit]
  · rintro m st ⟨top, nid, ht, hn, rfl⟩ hcl hbit hd
    have q1 := hd 1 (by decide) (by decide)
    unfold opH
    rw [guardVC_none]
    simp only [q1, hbit, up_true, up_false]
    refine .inl ?_
    (simp -dsimp only [↓RP, RQ0, RQ1, RQ2, RQ3, implies_true, forall_const, Nat.reduceMul, reduceIte, reduceCtorEq, Nat.reduceAdd, Nat.reduceEqDiff, Nat.reduceLT, Nat.reduceLeDiff, eI, eIK, NB, D, I, Nat.add_zero, Nat.add_assoc, TY, Int.toNat_natCast, effK_ret, effK_normal, Go.Proofs.Try.results81])
    try refine ⟨by (first | trivial | (simp only [InK]; omega) | omega | (simp only [InK, ne_eq, and_true, true_and]; omega)), ?_⟩
    refine ⟨_, Weak.refl _ _, top, nid + 1, ht, by omega, ?_⟩
    simp only [tb, Nat.reduceEqDiff, Nat.succ_ne_self, Nat.zero_ne_one, Nat.one_ne_zero, decide_false, decide_true, Bool.or_false, Bool.or_true, Bool.false_or, up_true, up_false, q1, hbit]
  · rintro m st ⟨top, nid, ht, hn, rfl⟩ hcl hbit hd
    unfold opH
    rw [guardVC_none]
    simp only [hbit, up_true, up_false]
    refine .inl ?_
    (simp -dsimp only [↓RP, RQ0, RQ1, RQ2, RQ3, implies_true, forall_const, Nat.reduceMul, reduceIte, reduceCtorEq, Nat.reduceAdd, Nat.reduceEqDiff, Nat.reduceLT, Nat.reduceLeDiff, eI, eIK, NB, D, I, Nat.add_zero, Nat.add_assoc, TY, Int.toNat_natCast, effK_ret, effK_normal, Go.Proofs.Try.results81])
    try refine ⟨by (first | trivial | (simp only [InK]; omega) | omega | (simp only [InK, ne_eq, and_true, true_and]; omega)), ?_⟩
    refine ⟨_, Weak.refl _ _, top, nid + 1, ht, by omega, ?_⟩
    simp only [tb, Nat.reduceEqDiff, Nat.succ_ne_self, Nat.zero_ne_one, Nat.one_ne_zero, decide_false, decide_true, Bool.or_false, Bool.or_true, Bool.false_or, up_true, up_false, hbit]
  · rintro m st ⟨top, nid, ht, hn, rfl⟩ hcl hbit hd
    have q2 := hd 2 (by decide) (by decide)
    have q3 := hd 3 (by decide) (by decide)
    unfold opH
    rw [guardVC_none]
    simp only [q2, q3, hbit, up_true, up_false]
    refine .inl ?_
    (simp -dsimp only [↓RP, RQ0, RQ1, RQ2, RQ3, implies_true, forall_const, Nat.reduceMul, reduceIte, reduceCtorEq, Nat.reduceAdd, Nat.reduceEqDiff, Nat.reduceLT, Nat.reduceLeDiff, eI, eIK, NB, D, I, Nat.add_zero, Nat.add_assoc, TY, Int.toNat_natCast, effK_ret, effK_normal, Go.Proofs.Try.results81])
    try refine ⟨by (first | trivial | (simp only [InK]; omega) | omega | (simp only [InK, ne_eq, and_true, true_and]; omega)), ?_⟩
    refine ⟨_, Weak.refl _ _, top, nid + 1, ht, by omega, ?_⟩
    simp only [tb, Nat.reduceEqDiff, Nat.succ_ne_self, Nat.zero_ne_one, Nat.one_ne_zero, decide_false, decide_true, Bool.or_false, Bool.or_true, Bool.false_or, up_true, up_false, q2, q3, hbit]
  · rintro m st ⟨top, nid, ht, hn, rfl⟩ hcl hbit hd
    have q0 := hd 0 (by decide) (by decide)
    have q4 := hd 4 (by decide) (by decide)
    unfold opH
    rw [guardVC_none]
    simp only [q0, q4, hbit, up_true, up_false]
    refine .inl ?_
    (simp -dsimp only [↓RP, RQ0, RQ1, RQ2, RQ3, implies_true, forall_const, Nat.reduceMul, reduceIte, reduceCtorEq, Nat.reduceAdd, Nat.reduceEqDiff, Nat.reduceLT, Nat.reduceLeDiff, eI, eIK, NB, D, I, Nat.add_zero, Nat.add_assoc, TY, Int.toNat_natCast, effK_ret, effK_normal, Go.Proofs.Try.results81])
    refine callE trivial (e64 c hf true top (i1 + k) ht (by omega) bid mid _ rest hbm (by omega) (by omega) (hr.mono (by omega))) fun hp' nid' res ⟨top', ht', r1, hn', r2⟩ => ?_
    subst r1 r2
    (simp -dsimp only [↓RP, RQ0, RQ1, RQ2, RQ3, implies_true, forall_const, Nat.reduceMul, reduceIte, reduceCtorEq, Nat.reduceAdd, Nat.reduceEqDiff, Nat.reduceLT, Nat.reduceLeDiff, eI, eIK, NB, D, I, Nat.add_zero, Nat.add_assoc, TY, Int.toNat_natCast, effK_ret, effK_normal, Go.Proofs.Try.results81])
    refine ⟨_, Weak.refl _ _, top', nid' + 1, ht', by omega, ?_⟩
    simp only [tb, Nat.reduceEqDiff, Nat.succ_ne_self, Nat.zero_ne_one, Nat.one_ne_zero, decide_false, decide_true, Bool.or_false, Bool.or_true, Bool.false_or, up_true, up_false, q0, q4, hbit]
  · rintro m st ⟨top, nid, ht, hn, rfl⟩ hcl hbit hd
    unfold opH
    rw [guardVC_none]
    simp only [hbit, up_true, up_false]
    refine .inl ?_
    (simp -dsimp only [↓RP, RQ0, RQ1, RQ2, RQ3, implies_true, forall_const, Nat.reduceMul, reduceIte, reduceCtorEq, Nat.reduceAdd, Nat.reduceEqDiff, Nat.reduceLT, Nat.reduceLeDiff, eI, eIK, NB, D, I, Nat.add_zero, Nat.add_assoc, TY, Int.toNat_natCast, effK_ret, effK_normal, Go.Proofs.Try.results81])
    try refine ⟨by (first | trivial | (simp only [InK]; omega) | omega | (simp only [InK, ne_eq, and_true, true_and]; omega)), ?_⟩
    refine ⟨_, Weak.refl _ _, top, nid + 1, ht, by omega, ?_⟩
    simp only [tb, Nat.reduceEqDiff, Nat.succ_ne_self, Nat.zero_ne_one, Nat.one_ne_zero, decide_false, decide_true, Bool.or_false, Bool.or_true, Bool.false_or, up_true, up_false, hbit]
  · rintro m st ⟨top, nid, ht, hn, rfl⟩ hcl hbit hd
    unfold opH
    rw [guardVC_none]
    simp only [hbit, up_true, up_false]
    refine .inl ?_
    (simp -dsimp only [↓RP, RQ0, RQ1, RQ2, RQ3, implies_true, forall_const, Nat.reduceMul, reduceIte, reduceCtorEq, Nat.reduceAdd, Nat.reduceEqDiff, Nat.reduceLT, Nat.reduceLeDiff, eI, eIK, NB, D, I, Nat.add_zero, Nat.add_assoc, TY, Int.toNat_natCast, effK_ret, effK_normal, Go.Proofs.Try.results81])
    try refine ⟨by (first | trivial | (simp only [InK]; omega) | omega | (simp only [InK, ne_eq, and_true, true_and]; omega)), ?_⟩
    refine ⟨_, Weak.refl _ _, top, nid + 1, ht, by omega, ?_⟩
    simp only [tb, Nat.reduceEqDiff, Nat.succ_ne_self, Nat.zero_ne_one, Nat.one_ne_zero, decide_false, decide_true, Bool.or_false, Bool.or_true, Bool.false_or, up_true, up_false, hbit]
  · rintro m st ⟨top, nid, ht, hn, rfl⟩ hcl hbit hd
    have q6 := hd 6 (by decide) (by decide)
    have q7 := hd 7 (by decide) (by decide)
    unfold opH
    rw [guardVC_none]
    simp only [q6, q7, hbit, up_true, up_false]
    refine .inl ?_
    (simp -dsimp only [↓RP, RQ0, RQ1, RQ2, RQ3, implies_true, forall_const, Nat.reduceMul, reduceIte, reduceCtorEq, Nat.reduceAdd, Nat.reduceEqDiff, Nat.reduceLT, Nat.reduceLeDiff, eI, eIK, NB, D, I, Nat.add_zero, Nat.add_assoc, TY, Int.toNat_natCast, effK_ret, effK_normal, Go.Proofs.Try.results81])
    try refine ⟨by (first | trivial | (simp only [InK]; omega) | omega | (simp only [InK, ne_eq, and_true, true_and]; omega)), ?_⟩
    refine ⟨_, Weak.refl _ _, top, nid + 1, ht, by omega, ?_⟩
    simp only [tb, Nat.reduceEqDiff, Nat.succ_ne_self, Nat.zero_ne_one, Nat.one_ne_zero, decide_false, decide_true, Bool.or_false, Bool.or_true, Bool.false_or, up_true, up_false, q6, q7, hbit]
  · rintro m st ⟨top, nid, ht, hn, rfl⟩ hcl hbit hd
    have q8 := hd 8 (by decide) (by decide)
    unfold opH
    rw [guardVC_none]
    simp only [q8, hbit, up_true, up_false]
    refine .inl ?_
    (simp -dsimp only [↓RP, RQ0, RQ1, RQ2, RQ3, implies_true, forall_const, Nat.reduceMul, reduceIte, reduceCtorEq, Nat.reduceAdd, Nat.reduceEqDiff, Nat.reduceLT, Nat.reduceLeDiff, eI, eIK, NB, D, I, Nat.add_zero, Nat.add_assoc, TY, Int.toNat_natCast, effK_ret, effK_normal, Go.Proofs.Try.results81])
    try refine ⟨by (first | trivial | (simp only [InK]; omega) | omega | (simp only [InK, ne_eq, and_true, true_and]; omega)), ?_⟩
    refine ⟨_, Weak.refl _ _, top, nid + 1, ht, by omega, ?_⟩
    simp only [tb, Nat.reduceEqDiff, Nat.succ_ne_self, Nat.zero_ne_one, Nat.one_ne_zero, decide_false, decide_true, Bool.or_false, Bool.or_true, Bool.false_or, up_true, up_false, q8, hbit]
  · rintro m st ⟨top, nid, ht, hn, rfl⟩ hcl hbit hd
    have q5 := hd 5 (by decide) (by decide)
    have q9 := hd 9 (by decide) (by decide)
    unfold opH
    rw [guardVC_none]
    simp only [q5, q9, hbit, up_true, up_false]
    refine .inl ?_
    (simp -dsimp only [↓RP, RQ0, RQ1, RQ2, RQ3, implies_true, forall_const, Nat.reduceMul, reduceIte, reduceCtorEq, Nat.reduceAdd, Nat.reduceEqDiff, Nat.reduceLT, Nat.reduceLeDiff, eI, eIK, NB, D, I, Nat.add_zero, Nat.add_assoc, TY, Int.toNat_natCast, effK_ret, effK_normal, Go.Proofs.Try.results81])
    try refine ⟨by (first | trivial | (simp only [InK]; omega) | omega | (simp only [InK, ne_eq, and_true, true_and]; omega)), ?_⟩
    refine ⟨_, Weak.refl _ _, top, nid + 1, ht, by omega, ?_⟩
    simp only [tb, Nat.reduceEqDiff, Nat.succ_ne_self, Nat.zero_ne_one, Nat.one_ne_zero, decide_false, decide_true, Bool.or_false, Bool.or_true, Bool.false_or, up_true, up_false, q5, q9, hbit]
  · rintro m st ⟨top, nid, ht, hn, rfl⟩ hcl hbit hd
    have q10 := hd 10 (by decide) (by decide)
    unfold opH
    rw [guardVC_none]
    simp only [q10, hbit, up_true, up_false]
    refine .inl ?_
    (simp -dsimp only [↓RP, RQ0, RQ1, RQ2, RQ3, implies_true, forall_const, Nat.reduceMul, reduceIte, reduceCtorEq, Nat.reduceAdd, Nat.reduceEqDiff, Nat.reduceLT, Nat.reduceLeDiff, eI, eIK, NB, D, I, Nat.add_zero, Nat.add_assoc, TY, Int.toNat_natCast, effK_ret, effK_normal, Go.Proofs.Try.results81])
    try refine ⟨by (first | trivial | (simp only [InK]; omega) | omega | (simp only [InK, ne_eq, and_true, true_and]; omega)), ?_⟩
    refine ⟨_, Weak.refl _ _, top, nid + 1, ht, by omega, ?_⟩
    simp only [tb, Nat.reduceEqDiff, Nat.succ_ne_self, Nat.zero_ne_one, Nat.one_ne_zero, decide_false, decide_true, Bool.or_false, Bool.or_true, Bool.false_or, up_true, up_false, q10, hbit]
  · rintro m st' ⟨top, nid, ht, hn, rfl⟩ hall
    simp only [hall 0 (by decide), hall 1 (by decide), hall 2 (by decide), hall 3 (by decide), hall 4 (by decide), hall 5 (by decide), hall 6 (by decide), hall 7 (by decide), hall 8 (by decide), hall 9 (by decide), hall 10 (by decide), hall 11 (by decide), up_true]
    (repeat' (first | with_reducible refine splitVC_d (fun _ => ?_) (fun _ => ?_) | ((with_reducible refine And.intro ?_ ?_); focus (first | trivial | (simp only [InK]; omega) | omega | (simp only [InK, ne_eq, and_true, true_and]; omega))) | simp -dsimp only [↓RP, RQ0, RQ1, RQ2, RQ3, implies_true, forall_const, Nat.reduceMul, reduceIte, reduceCtorEq, Nat.reduceAdd, Nat.reduceEqDiff, Nat.reduceLT, Nat.reduceLeDiff, eI, eIK, NB, D, I, Nat.add_zero, Nat.add_assoc, TY, Int.toNat_natCast, effK_ret, effK_normal, Go.Proofs.Try.results81]))
    refine ⟨_, _, _, weakS (fr' := [(0, _)]) ⟨.inr rfl, trivial⟩ (SubHp.refl _), top, ht, rfl, by omega, rfl⟩
theorem e80 (c : Curve) (hf : c.Fine) (L : Nat → Int) (hL : ∀ k, k ≤ 360 → 0 ≤ L k ∧ L k ≤ 50000) (bid mid : Nat) (hbm : bid ≠ mid) (rest : List (Nat × Blk)) (cb cl il : Nat) (d : cb ≠ bid ∧ cb ≠ mid ∧ cl ≠ bid ∧ cl ≠ mid ∧ il ≠ bid ∧ il ≠ mid) (hcb : blk rest cb = some (.cells 77 [.ptr bid 0])) (hcl : blk rest cl = some (.cells 22 [.vec il 361 1])) (hil : blk rest il = some (rowB 361 L)) :
    Clo c bid mid rest 80 [.ptr cl 0, .ptr cb 0] (fun k => (lateF c.M L k : Int) - k) 180 := by
  intro k hk top ht id hr hb hm
  refine eff_ofF (handAt 2) follows Go.Proofs.Try.func80 rfl (by kernel_rfl) (by kernel_rfl) (by rw [Go.Proofs.Try.ntmps80]; simp) fun out => ?_
  have D : (cb = bid) = False ∧ (cb = mid) = False ∧ (cl = bid) = False ∧ (cl = mid) = False ∧ (il = bid) = False ∧ (il = mid) = False ∧ blk rest cb = some (.cells 77 [.ptr bid 0]) ∧ blk rest cl = some (.cells 22 [.vec il 361 1]) ∧ blk rest il = some (rowB 361 L) := ⟨by simp [d], by simp [d], by simp [d], by simp [d], by simp [d], by simp [d], hcb, hcl, hil⟩
  have NB : True := trivial
  obtain ⟨f1, f2⟩ := lateF_range c.M L k (by omega)
  unfold I
  (repeat' (first | with_reducible refine splitVC_d (fun _ => ?_) (fun _ => ?_) | ((with_reducible refine And.intro ?_ ?_); focus (first | trivial | (simp only [InK]; omega) | omega | (simp only [InK, ne_eq, and_true, true_and]; omega))) | simp -dsimp only [↓RP, RQ0, RQ1, RQ2, RQ3, implies_true, forall_const, Nat.reduceMul, reduceIte, reduceCtorEq, Nat.reduceAdd, Nat.reduceEqDiff, Nat.reduceLT, Nat.reduceLeDiff, NB, D, I, Nat.add_zero, Nat.add_assoc, TY, Int.toNat_natCast, effK_ret, effK_normal, Go.Proofs.Try.results80]))
  refine loop_vc (fun (x : Nat × Nat × Nat) => k ≤ x.1 ∧ x.1 ≤ lateF c.M L k ∧ x.2.1 ≤ 400 ∧ id ≤ x.2.2) (fun x => ⟨[(0, .val (.int .i64 k)), (1, .ptr cl 0), (2, .ptr cb 0), (5, .val (.int .i64 x.1))], (bid, bdC c mid true x.2.1) :: (mid, bdM c x.2.1) :: rest, x.2.2⟩) (fun x => lateF c.M L k - x.1) (k, top, _) ⟨Nat.le_refl _, f1, ht, ?_⟩ (weakS ?_ ?_) fun x hx => ?_
  rotate_left
  · simp [SubFr, Go.Sx.look]
  · exact SubHp.refl _
  rotate_left
  · simp only []; omega
  obtain ⟨ax, top, nid⟩ := x
  obtain ⟨hka, hat, htop, hn⟩ := hx
  replace hka : k ≤ ax := hka
  replace hat : ax ≤ lateF c.M L k := hat
  replace htop : top ≤ 400 := htop
  replace hn : id ≤ nid := hn
  have l1 := hL ax (by omega)
  have m1 := M_bound hf k
  have e361 : ((361 : Nat) : Int) = 361 := rfl
  have eA : (ax : Int) + 1 = ((ax + 1 : Nat) : Int) := rfl
  by_cases hg : ax + 1 < 361
  · have hgd : decide (((ax + 1 : Nat) : Int) < 361) = true := decide_eq_true (by omega)
    (repeat' (first | with_reducible refine splitVC_d (fun _ => ?_) (fun _ => ?_) | ((with_reducible refine And.intro ?_ ?_); focus (first | trivial | (simp only [InK]; omega) | omega | (simp only [InK, ne_eq, and_true, true_and]; omega))) | simp -dsimp only [↓RP, RQ0, RQ1, RQ2, RQ3, implies_true, forall_const, Nat.reduceMul, reduceIte, reduceCtorEq, Nat.reduceAdd, Nat.reduceEqDiff, Nat.reduceLT, Nat.reduceLeDiff, e361, eA, hgd, NB, D, I, Nat.add_zero, Nat.add_assoc, TY, Int.toNat_natCast, effK_ret, effK_normal, Go.Proofs.Try.results80]))
    ·
      refine rawRegion follows (fun m st => ∃ (top nid : Nat), top ≤ 400 ∧ id ≤ nid ∧ st = ⟨[(0, .val (.int .i64 (k))), (1, .ptr cl 0), (2, .ptr cb 0), (5, .val (.int .i64 (ax))), (7, up (m.testBit 0) (.val (.int .i64 (ax)))), (8, up (m.testBit 1) (.val (.int .i64 (((ax + 1 : Nat) : Int))))), (9, up (m.testBit 2) (.vec il 361 1)), (10, up (m.testBit 3) (.val (.int .i64 (361)))), (11, up (m.testBit 4) (.val (.bool true))), (12, up (m.testBit 5) (.val (.bool true))), (13, up (m.testBit 6) (.vec il 361 1)), (14, up (m.testBit 7) (.val (.int .i64 (ax)))), (15, up (m.testBit 8) (.elt il 1 ax 0)), (16, up (m.testBit 9) (.val (.int .i64 (L ax)))), (17, up (m.testBit 10) (.ptr bid 0)), (18, up (m.testBit 11) (.val (.int .i64 (k)))), (19, up (m.testBit 12) (.val (.int .i64 (c.M k)))), (20, up (m.testBit 13) (.val (.bool (decide (L ax < c.M k))))), (21, up (m.testBit 14) (.val (.bool (decide (L ax < c.M k)))))], (bid, bdC c mid true top) :: (mid, bdM c top) :: rest, nid⟩) (ms := [0, 1, 0, 4, 15, 31, 63, 63, 255, 511, 63, 63, 3135, 8191, 16383]) (by kernel_rfl) (by kernel_rfl) (weakS (by simp [SubFr, Go.Sx.look, Go.Sx.up]) (SubHp.refl _)) ⟨top, _, htop, hn, rfl⟩ (stepsH_cons ?_ <| stepsH_cons ?_ <| stepsH_cons ?_ <| stepsH_cons ?_ <| stepsH_cons ?_ <| stepsH_cons ?_ <| stepsH_cons ?_ <| stepsH_cons ?_ <| stepsH_cons ?_ <| stepsH_cons ?_ <| stepsH_cons ?_ <| stepsH_cons ?_ <| stepsH_cons ?_ <| stepsH_cons ?_ <| stepsH_cons ?_ <| stepsH_nil) ?_
      · rintro m st ⟨top, nid, ht, hn, rfl⟩ hcl hbit hd
        unfold opH
        rw [guardVC_none]
        simp only [hbit, up_true, up_false]
        refine .inl ?_
        (simp -dsimp only [↓RP, RQ0, RQ1, RQ2, RQ3, implies_true, forall_const, Nat.reduceMul, reduceIte, reduceCtorEq, Nat.reduceAdd, Nat.reduceEqDiff, Nat.reduceLT, Nat.reduceLeDiff, e361, eA, hgd, NB, D, I, Nat.add_zero, Nat.add_assoc, TY, Int.toNat_natCast, effK_ret, effK_normal, Go.Proofs.Try.results80])
        try refine ⟨by (first | trivial | (simp only [InK]; omega) | omega | (simp only [InK, ne_eq, and_true, true_and]; omega)), ?_⟩
        refine ⟨_, Weak.refl _ _, top, nid + 1, ht, by omega, ?_⟩
        simp only [tb, Nat.reduceEqDiff, Nat.succ_ne_self, Nat.zero_ne_one, Nat.one_ne_zero, decide_false, decide_true, Bool.or_false, Bool.or_true, Bool.false_or, up_true, up_false, hbit]
      · rintro m st ⟨top, nid, ht, hn, rfl⟩ hcl hbit hd
        have q0 := hd 0 (by decide) (by decide)
        unfold opH
        rw [guardVC_none]
        simp only [q0, hbit, up_true, up_false]
        refine .inl ?_
        (simp -dsimp only [↓RP, RQ0, RQ1, RQ2, RQ3, implies_true, forall_const, Nat.reduceMul, reduceIte, reduceCtorEq, Nat.reduceAdd, Nat.reduceEqDiff, Nat.reduceLT, Nat.reduceLeDiff, e361, eA, hgd, NB, D, I, Nat.add_zero, Nat.add_assoc, TY, Int.toNat_natCast, effK_ret, effK_normal, Go.Proofs.Try.results80])
        try refine ⟨by (first | trivial | (simp only [InK]; omega) | omega | (simp only [InK, ne_eq, and_true, true_and]; omega)), ?_⟩
        refine ⟨_, Weak.refl _ _, top, nid + 1, ht, by omega, ?_⟩
        simp only [tb, Nat.reduceEqDiff, Nat.succ_ne_self, Nat.zero_ne_one, Nat.one_ne_zero, decide_false, decide_true, Bool.or_false, Bool.or_true, Bool.false_or, up_true, up_false, q0, hbit]
      · rintro m st ⟨top, nid, ht, hn, rfl⟩ hcl hbit hd
        unfold opH
        rw [guardVC_none]
        simp only [hbit, up_true, up_false]
        refine .inl ?_
        (simp -dsimp only [↓RP, RQ0, RQ1, RQ2, RQ3, implies_true, forall_const, Nat.reduceMul, reduceIte, reduceCtorEq, Nat.reduceAdd, Nat.reduceEqDiff, Nat.reduceLT, Nat.reduceLeDiff, e361, eA, hgd, NB, D, I, Nat.add_zero, Nat.add_assoc, TY, Int.toNat_natCast, effK_ret, effK_normal, Go.Proofs.Try.results80])
        try refine ⟨by (first | trivial | (simp only [InK]; omega) | omega | (simp only [InK, ne_eq, and_true, true_and]; omega)), ?_⟩
        refine ⟨_, Weak.refl _ _, top, nid + 1, ht, by omega, ?_⟩
        simp only [tb, Nat.reduceEqDiff, Nat.succ_ne_self, Nat.zero_ne_one, Nat.one_ne_zero, decide_false, decide_true, Bool.or_false, Bool.or_true, Bool.false_or, up_true, up_false, hbit]
      · rintro m st ⟨top, nid, ht, hn, rfl⟩ hcl hbit hd
        have q2 := hd 2 (by decide) (by decide)
        unfold opH
        rw [guardVC_none]
        simp only [q2, hbit, up_true, up_false]
        refine .inl ?_
        (simp -dsimp only [↓RP, RQ0, RQ1, RQ2, RQ3, implies_true, forall_const, Nat.reduceMul, reduceIte, reduceCtorEq, Nat.reduceAdd, Nat.reduceEqDiff, Nat.reduceLT, Nat.reduceLeDiff, e361, eA, hgd, NB, D, I, Nat.add_zero, Nat.add_assoc, TY, Int.toNat_natCast, effK_ret, effK_normal, Go.Proofs.Try.results80])
        try refine ⟨by (first | trivial | (simp only [InK]; omega) | omega | (simp only [InK, ne_eq, and_true, true_and]; omega)), ?_⟩
        refine ⟨_, Weak.refl _ _, top, nid + 1, ht, by omega, ?_⟩
        simp only [tb, Nat.reduceEqDiff, Nat.succ_ne_self, Nat.zero_ne_one, Nat.one_ne_zero, decide_false, decide_true, Bool.or_false, Bool.or_true, Bool.false_or, up_true, up_false, q2, hbit]
      · rintro m st ⟨top, nid, ht, hn, rfl⟩ hcl hbit hd
        have q1 := hd 1 (by decide) (by decide)
        have q3 := hd 3 (by decide) (by decide)
        unfold opH
        rw [guardVC_none]
        simp only [q1, q3, hbit, up_true, up_false]
        refine .inl ?_
        (simp -dsimp only [↓RP, RQ0, RQ1, RQ2, RQ3, implies_true, forall_const, Nat.reduceMul, reduceIte, reduceCtorEq, Nat.reduceAdd, Nat.reduceEqDiff, Nat.reduceLT, Nat.reduceLeDiff, e361, eA, hgd, NB, D, I, Nat.add_zero, Nat.add_assoc, TY, Int.toNat_natCast, effK_ret, effK_normal, Go.Proofs.Try.results80])
        try refine ⟨by (first | trivial | (simp only [InK]; omega) | omega | (simp only [InK, ne_eq, and_true, true_and]; omega)), ?_⟩
        refine ⟨_, Weak.refl _ _, top, nid + 1, ht, by omega, ?_⟩
        simp only [tb, Nat.reduceEqDiff, Nat.succ_ne_self, Nat.zero_ne_one, Nat.one_ne_zero, decide_false, decide_true, Bool.or_false, Bool.or_true, Bool.false_or, up_true, up_false, q1, q3, hbit]
      · rintro m st ⟨top, nid, ht, hn, rfl⟩ hcl hbit hd
        have q4 := hd 4 (by decide) (by decide)
        unfold opH
        rw [guardVC_none]
        simp only [q4, hbit, up_true, up_false]
        refine .inl ?_
        (simp -dsimp only [↓RP, RQ0, RQ1, RQ2, RQ3, implies_true, forall_const, Nat.reduceMul, reduceIte, reduceCtorEq, Nat.reduceAdd, Nat.reduceEqDiff, Nat.reduceLT, Nat.reduceLeDiff, e361, eA, hgd, NB, D, I, Nat.add_zero, Nat.add_assoc, TY, Int.toNat_natCast, effK_ret, effK_normal, Go.Proofs.Try.results80])
        try refine ⟨by (first | trivial | (simp only [InK]; omega) | omega | (simp only [InK, ne_eq, and_true, true_and]; omega)), ?_⟩
        refine ⟨_, Weak.refl _ _, top, nid + 1, ht, by omega, ?_⟩
        simp only [tb, Nat.reduceEqDiff, Nat.succ_ne_self, Nat.zero_ne_one, Nat.one_ne_zero, decide_false, decide_true, Bool.or_false, Bool.or_true, Bool.false_or, up_true, up_false, q4, hbit]
      · rintro m st ⟨top, nid, ht, hn, rfl⟩ hcl hbit hd
        have q5 := hd 5 (by decide) (by decide)
        unfold opH
        simp only [q5, hbit, up_true, up_false]
        (simp -dsimp only [↓RP, RQ0, RQ1, RQ2, RQ3, implies_true, forall_const, Nat.reduceMul, reduceIte, reduceCtorEq, Nat.reduceAdd, Nat.reduceEqDiff, Nat.reduceLT, Nat.reduceLeDiff, e361, eA, hgd, NB, D, I, Nat.add_zero, Nat.add_assoc, TY, Int.toNat_natCast, effK_ret, effK_normal, Go.Proofs.Try.results80])
        refine .inl ?_
        try (simp -dsimp only [↓RP, RQ0, RQ1, RQ2, RQ3, implies_true, forall_const, Nat.reduceMul, reduceIte, reduceCtorEq, Nat.reduceAdd, Nat.reduceEqDiff, Nat.reduceLT, Nat.reduceLeDiff, e361, eA, hgd, NB, D, I, Nat.add_zero, Nat.add_assoc, TY, Int.toNat_natCast, effK_ret, effK_normal, Go.Proofs.Try.results80])
        try refine ⟨by (first | trivial | (simp only [InK]; omega) | omega | (simp only [InK, ne_eq, and_true, true_and]; omega)), ?_⟩
        refine ⟨_, Weak.refl _ _, top, nid + 1, ht, by omega, ?_⟩
        simp only [tb, Nat.reduceEqDiff, Nat.succ_ne_self, Nat.zero_ne_one, Nat.one_ne_zero, decide_false, decide_true, Bool.or_false, Bool.or_true, Bool.false_or, up_true, up_false, q5, hbit]
      · rintro m st ⟨top, nid, ht, hn, rfl⟩ hcl hbit hd
        have q5 := hd 5 (by decide) (by decide)
        unfold opH
        simp only [q5, hbit, up_true, up_false]
        (simp -dsimp only [↓RP, RQ0, RQ1, RQ2, RQ3, implies_true, forall_const, Nat.reduceMul, reduceIte, reduceCtorEq, Nat.reduceAdd, Nat.reduceEqDiff, Nat.reduceLT, Nat.reduceLeDiff, e361, eA, hgd, NB, D, I, Nat.add_zero, Nat.add_assoc, TY, Int.toNat_natCast, effK_ret, effK_normal, Go.Proofs.Try.results80])
        refine .inl ?_
        try (simp -dsimp only [↓RP, RQ0, RQ1, RQ2, RQ3, implies_true, forall_const, Nat.reduceMul, reduceIte, reduceCtorEq, Nat.reduceAdd, Nat.reduceEqDiff, Nat.reduceLT, Nat.reduceLeDiff, e361, eA, hgd, NB, D, I, Nat.add_zero, Nat.add_assoc, TY, Int.toNat_natCast, effK_ret, effK_normal, Go.Proofs.Try.results80])
        try refine ⟨by (first | trivial | (simp only [InK]; omega) | omega | (simp only [InK, ne_eq, and_true, true_and]; omega)), ?_⟩
        refine ⟨_, Weak.refl _ _, top, nid + 1, ht, by omega, ?_⟩
        simp only [tb, Nat.reduceEqDiff, Nat.succ_ne_self, Nat.zero_ne_one, Nat.one_ne_zero, decide_false, decide_true, Bool.or_false, Bool.or_true, Bool.false_or, up_true, up_false, q5, hbit]
      · rintro m st ⟨top, nid, ht, hn, rfl⟩ hcl hbit hd
        have q6 := hd 6 (by decide) (by decide)
        have q7 := hd 7 (by decide) (by decide)
        have q5 := hd 5 (by decide) (by decide)
        unfold opH
        simp only [q6, q7, q5, hbit, up_true, up_false]
        (simp -dsimp only [↓RP, RQ0, RQ1, RQ2, RQ3, implies_true, forall_const, Nat.reduceMul, reduceIte, reduceCtorEq, Nat.reduceAdd, Nat.reduceEqDiff, Nat.reduceLT, Nat.reduceLeDiff, e361, eA, hgd, NB, D, I, Nat.add_zero, Nat.add_assoc, TY, Int.toNat_natCast, effK_ret, effK_normal, Go.Proofs.Try.results80])
        refine .inl ?_
        try (simp -dsimp only [↓RP, RQ0, RQ1, RQ2, RQ3, implies_true, forall_const, Nat.reduceMul, reduceIte, reduceCtorEq, Nat.reduceAdd, Nat.reduceEqDiff, Nat.reduceLT, Nat.reduceLeDiff, e361, eA, hgd, NB, D, I, Nat.add_zero, Nat.add_assoc, TY, Int.toNat_natCast, effK_ret, effK_normal, Go.Proofs.Try.results80])
        try refine ⟨by (first | trivial | (simp only [InK]; omega) | omega | (simp only [InK, ne_eq, and_true, true_and]; omega)), ?_⟩
        refine ⟨_, Weak.refl _ _, top, nid + 1, ht, by omega, ?_⟩
        simp only [tb, Nat.reduceEqDiff, Nat.succ_ne_self, Nat.zero_ne_one, Nat.one_ne_zero, decide_false, decide_true, Bool.or_false, Bool.or_true, Bool.false_or, up_true, up_false, q6, q7, q5, hbit]
      · rintro m st ⟨top, nid, ht, hn, rfl⟩ hcl hbit hd
        have q8 := hd 8 (by decide) (by decide)
        have q5 := hd 5 (by decide) (by decide)
        unfold opH
        simp only [q8, q5, hbit, up_true, up_false]
        (simp -dsimp only [↓RP, RQ0, RQ1, RQ2, RQ3, implies_true, forall_const, Nat.reduceMul, reduceIte, reduceCtorEq, Nat.reduceAdd, Nat.reduceEqDiff, Nat.reduceLT, Nat.reduceLeDiff, e361, eA, hgd, NB, D, I, Nat.add_zero, Nat.add_assoc, TY, Int.toNat_natCast, effK_ret, effK_normal, Go.Proofs.Try.results80])
        refine .inl ?_
        try (simp -dsimp only [↓RP, RQ0, RQ1, RQ2, RQ3, implies_true, forall_const, Nat.reduceMul, reduceIte, reduceCtorEq, Nat.reduceAdd, Nat.reduceEqDiff, Nat.reduceLT, Nat.reduceLeDiff, e361, eA, hgd, NB, D, I, Nat.add_zero, Nat.add_assoc, TY, Int.toNat_natCast, effK_ret, effK_normal, Go.Proofs.Try.results80])
        try refine ⟨by (first | trivial | (simp only [InK]; omega) | omega | (simp only [InK, ne_eq, and_true, true_and]; omega)), ?_⟩
        refine ⟨_, Weak.refl _ _, top, nid + 1, ht, by omega, ?_⟩
        simp only [tb, Nat.reduceEqDiff, Nat.succ_ne_self, Nat.zero_ne_one, Nat.one_ne_zero, decide_false, decide_true, Bool.or_false, Bool.or_true, Bool.false_or, up_true, up_false, q8, q5, hbit]
      · rintro m st ⟨top, nid, ht, hn, rfl⟩ hcl hbit hd
        have q5 := hd 5 (by decide) (by decide)
        unfold opH
        simp only [q5, hbit, up_true, up_false]
        (simp -dsimp only [↓RP, RQ0, RQ1, RQ2, RQ3, implies_true, forall_const, Nat.reduceMul, reduceIte, reduceCtorEq, Nat.reduceAdd, Nat.reduceEqDiff, Nat.reduceLT, Nat.reduceLeDiff, e361, eA, hgd, NB, D, I, Nat.add_zero, Nat.add_assoc, TY, Int.toNat_natCast, effK_ret, effK_normal, Go.Proofs.Try.results80])
        refine .inl ?_
        try (simp -dsimp only [↓RP, RQ0, RQ1, RQ2, RQ3, implies_true, forall_const, Nat.reduceMul, reduceIte, reduceCtorEq, Nat.reduceAdd, Nat.reduceEqDiff, Nat.reduceLT, Nat.reduceLeDiff, e361, eA, hgd, NB, D, I, Nat.add_zero, Nat.add_assoc, TY, Int.toNat_natCast, effK_ret, effK_normal, Go.Proofs.Try.results80])
        try refine ⟨by (first | trivial | (simp only [InK]; omega) | omega | (simp only [InK, ne_eq, and_true, true_and]; omega)), ?_⟩
        refine ⟨_, Weak.refl _ _, top, nid + 1, ht, by omega, ?_⟩
        simp only [tb, Nat.reduceEqDiff, Nat.succ_ne_self, Nat.zero_ne_one, Nat.one_ne_zero, decide_false, decide_true, Bool.or_false, Bool.or_true, Bool.false_or, up_true, up_false, q5, hbit]
      · rintro m st ⟨top, nid, ht, hn, rfl⟩ hcl hbit hd
        have q5 := hd 5 (by decide) (by decide)
        unfold opH
        simp only [q5, hbit, up_true, up_false]
        (simp -dsimp only [↓RP, RQ0, RQ1, RQ2, RQ3, implies_true, forall_const, Nat.reduceMul, reduceIte, reduceCtorEq, Nat.reduceAdd, Nat.reduceEqDiff, Nat.reduceLT, Nat.reduceLeDiff, e361, eA, hgd, NB, D, I, Nat.add_zero, Nat.add_assoc, TY, Int.toNat_natCast, effK_ret, effK_normal, Go.Proofs.Try.results80])
        refine .inl ?_
        try (simp -dsimp only [↓RP, RQ0, RQ1, RQ2, RQ3, implies_true, forall_const, Nat.reduceMul, reduceIte, reduceCtorEq, Nat.reduceAdd, Nat.reduceEqDiff, Nat.reduceLT, Nat.reduceLeDiff, e361, eA, hgd, NB, D, I, Nat.add_zero, Nat.add_assoc, TY, Int.toNat_natCast, effK_ret, effK_normal, Go.Proofs.Try.results80])
        try refine ⟨by (first | trivial | (simp only [InK]; omega) | omega | (simp only [InK, ne_eq, and_true, true_and]; omega)), ?_⟩
        refine ⟨_, Weak.refl _ _, top, nid + 1, ht, by omega, ?_⟩
        simp only [tb, Nat.reduceEqDiff, Nat.succ_ne_self, Nat.zero_ne_one, Nat.one_ne_zero, decide_false, decide_true, Bool.or_false, Bool.or_true, Bool.false_or, up_true, up_false, q5, hbit]
      · rintro m st ⟨top, nid, ht, hn, rfl⟩ hcl hbit hd
        have q10 := hd 10 (by decide) (by decide)
        have q11 := hd 11 (by decide) (by decide)
        have q5 := hd 5 (by decide) (by decide)
        unfold opH
        simp only [q10, q11, q5, hbit, up_true, up_false]
        (simp -dsimp only [↓RP, RQ0, RQ1, RQ2, RQ3, implies_true, forall_const, Nat.reduceMul, reduceIte, reduceCtorEq, Nat.reduceAdd, Nat.reduceEqDiff, Nat.reduceLT, Nat.reduceLeDiff, e361, eA, hgd, NB, D, I, Nat.add_zero, Nat.add_assoc, TY, Int.toNat_natCast, effK_ret, effK_normal, Go.Proofs.Try.results80])
        refine .inl ?_
        try (simp -dsimp only [↓RP, RQ0, RQ1, RQ2, RQ3, implies_true, forall_const, Nat.reduceMul, reduceIte, reduceCtorEq, Nat.reduceAdd, Nat.reduceEqDiff, Nat.reduceLT, Nat.reduceLeDiff, e361, eA, hgd, NB, D, I, Nat.add_zero, Nat.add_assoc, TY, Int.toNat_natCast, effK_ret, effK_normal, Go.Proofs.Try.results80])
        refine callE trivial (e64 c hf true top k ht (by omega) bid mid _ rest hbm (by omega) (by omega) (hr.mono (by omega))) fun hp' nid' res ⟨top', ht', r1, hn', r2⟩ => ?_
        subst r1 r2
        (simp -dsimp only [↓RP, RQ0, RQ1, RQ2, RQ3, implies_true, forall_const, Nat.reduceMul, reduceIte, reduceCtorEq, Nat.reduceAdd, Nat.reduceEqDiff, Nat.reduceLT, Nat.reduceLeDiff, e361, eA, hgd, NB, D, I, Nat.add_zero, Nat.add_assoc, TY, Int.toNat_natCast, effK_ret, effK_normal, Go.Proofs.Try.results80])
        refine ⟨_, Weak.refl _ _, top', nid' + 1, ht', by omega, ?_⟩
        simp only [tb, Nat.reduceEqDiff, Nat.succ_ne_self, Nat.zero_ne_one, Nat.one_ne_zero, decide_false, decide_true, Bool.or_false, Bool.or_true, Bool.false_or, up_true, up_false, q10, q11, q5, hbit]
      · rintro m st ⟨top, nid, ht, hn, rfl⟩ hcl hbit hd
        have q9 := hd 9 (by decide) (by decide)
        have q12 := hd 12 (by decide) (by decide)
        have q5 := hd 5 (by decide) (by decide)
        unfold opH
        simp only [q9, q12, q5, hbit, up_true, up_false]
        (simp -dsimp only [↓RP, RQ0, RQ1, RQ2, RQ3, implies_true, forall_const, Nat.reduceMul, reduceIte, reduceCtorEq, Nat.reduceAdd, Nat.reduceEqDiff, Nat.reduceLT, Nat.reduceLeDiff, e361, eA, hgd, NB, D, I, Nat.add_zero, Nat.add_assoc, TY, Int.toNat_natCast, effK_ret, effK_normal, Go.Proofs.Try.results80])
        refine .inl ?_
        try (simp -dsimp only [↓RP, RQ0, RQ1, RQ2, RQ3, implies_true, forall_const, Nat.reduceMul, reduceIte, reduceCtorEq, Nat.reduceAdd, Nat.reduceEqDiff, Nat.reduceLT, Nat.reduceLeDiff, e361, eA, hgd, NB, D, I, Nat.add_zero, Nat.add_assoc, TY, Int.toNat_natCast, effK_ret, effK_normal, Go.Proofs.Try.results80])
        try refine ⟨by (first | trivial | (simp only [InK]; omega) | omega | (simp only [InK, ne_eq, and_true, true_and]; omega)), ?_⟩
        refine ⟨_, Weak.refl _ _, top, nid + 1, ht, by omega, ?_⟩
        simp only [tb, Nat.reduceEqDiff, Nat.succ_ne_self, Nat.zero_ne_one, Nat.one_ne_zero, decide_false, decide_true, Bool.or_false, Bool.or_true, Bool.false_or, up_true, up_false, q9, q12, q5, hbit]
      · rintro m st ⟨top, nid, ht, hn, rfl⟩ hcl hbit hd
        have q5 := hd 5 (by decide) (by decide)
        have q13 := hd 13 (by decide) (by decide)
        unfold opH
        rw [guardVC_none]
        simp only [q5, q13, hbit, up_true, up_false]
        refine .inl ?_
        (simp -dsimp only [↓RP, RQ0, RQ1, RQ2, RQ3, implies_true, forall_const, Nat.reduceMul, reduceIte, reduceCtorEq, Nat.reduceAdd, Nat.reduceEqDiff, Nat.reduceLT, Nat.reduceLeDiff, e361, eA, hgd, NB, D, I, Nat.add_zero, Nat.add_assoc, TY, Int.toNat_natCast, effK_ret, effK_normal, Go.Proofs.Try.results80])
        try refine ⟨by (first | trivial | (simp only [InK]; omega) | omega | (simp only [InK, ne_eq, and_true, true_and]; omega)), ?_⟩
        refine ⟨_, Weak.refl _ _, top, nid + 1, ht, by omega, ?_⟩
        simp only [tb, Nat.reduceEqDiff, Nat.succ_ne_self, Nat.zero_ne_one, Nat.one_ne_zero, decide_false, decide_true, Bool.or_false, Bool.or_true, Bool.false_or, up_true, up_false, q5, q13, hbit]
      · rintro m st' ⟨top, nid, ht, hn, rfl⟩ hall
        simp only [hall 0 (by decide), hall 1 (by decide), hall 2 (by decide), hall 3 (by decide), hall 4 (by decide), hall 5 (by decide), hall 6 (by decide), hall 7 (by decide), hall 8 (by decide), hall 9 (by decide), hall 10 (by decide), hall 11 (by decide), hall 12 (by decide), hall 13 (by decide), hall 14 (by decide), up_true]
        (repeat' (first | with_reducible refine splitVC_d (fun _ => ?_) (fun _ => ?_) | ((with_reducible refine And.intro ?_ ?_); focus (first | trivial | (simp only [InK]; omega) | omega | (simp only [InK, ne_eq, and_true, true_and]; omega))) | simp -dsimp only [↓RP, RQ0, RQ1, RQ2, RQ3, implies_true, forall_const, Nat.reduceMul, reduceIte, reduceCtorEq, Nat.reduceAdd, Nat.reduceEqDiff, Nat.reduceLT, Nat.reduceLeDiff, e361, eA, hgd, NB, D, I, Nat.add_zero, Nat.add_assoc, TY, Int.toNat_natCast, effK_ret, effK_normal, Go.Proofs.Try.results80]))
        all_goals first | (exfalso; omega) | skip
        · rename_i hlt
          have hne : ax ≠ lateF c.M L k := fun e => by rw [e] at hlt; have := lateF_true c.M L k (by omega) (by omega); omega
          refine ⟨(ax + 1, top, _), ⟨by simp only []; omega, by simp only []; omega, ht, ?_⟩, by simp only []; omega, weakS ?_ ?_⟩
          rotate_left
          · simp [SubFr, Go.Sx.look]
          · exact SubHp.refl _
          · simp only []; omega
        · rename_i hlt
          have hae : ax = lateF c.M L k := Nat.le_antisymm hat (Nat.le_of_not_lt fun h => hlt (lateF_false c.M L k ax hka h))
          refine ⟨_, _, _, weakS (fr' := [(0, _)]) ⟨.inr rfl, trivial⟩ (SubHp.refl _), top, ht, rfl, by omega, by rw [← hae]; rfl⟩
  · have hgd : decide (((ax + 1 : Nat) : Int) < 361) = false := decide_eq_false (by omega)
    (repeat' (first | with_reducible refine splitVC_d (fun _ => ?_) (fun _ => ?_) | ((with_reducible refine And.intro ?_ ?_); focus (first | trivial | (simp only [InK]; omega) | omega | (simp only [InK, ne_eq, and_true, true_and]; omega))) | simp -dsimp only [↓RP, RQ0, RQ1, RQ2, RQ3, implies_true, forall_const, Nat.reduceMul, reduceIte, reduceCtorEq, Nat.reduceAdd, Nat.reduceEqDiff, Nat.reduceLT, Nat.reduceLeDiff, e361, eA, hgd, NB, D, I, Nat.add_zero, Nat.add_assoc, TY, Int.toNat_natCast, effK_ret, effK_normal, Go.Proofs.Try.results80]))
    ·
      refine rawRegion follows (fun m st => ∃ (top nid : Nat), top ≤ 400 ∧ id ≤ nid ∧ st = ⟨[(0, .val (.int .i64 (k))), (1, .ptr cl 0), (2, .ptr cb 0), (5, .val (.int .i64 (ax))), (7, up (m.testBit 0) (.val (.int .i64 (ax)))), (8, up (m.testBit 1) (.val (.int .i64 (((ax + 1 : Nat) : Int))))), (9, up (m.testBit 2) (.vec il 361 1)), (10, up (m.testBit 3) (.val (.int .i64 (361)))), (11, up (m.testBit 4) (.val (.bool false))), (12, up (m.testBit 5) (.val (.bool false))), (13, up (m.testBit 6) (undefSV)), (14, up (m.testBit 7) (undefSV)), (15, up (m.testBit 8) (undefSV)), (16, up (m.testBit 9) (undefSV)), (17, up (m.testBit 10) (undefSV)), (18, up (m.testBit 11) (undefSV)), (19, up (m.testBit 12) (undefSV)), (20, up (m.testBit 13) (undefSV)), (21, up (m.testBit 14) (.val (.bool false)))], (bid, bdC c mid true top) :: (mid, bdM c top) :: rest, nid⟩) (ms := [0, 1, 0, 4, 15, 31, 63, 63, 255, 511, 63, 63, 3135, 8191, 16383]) (by kernel_rfl) (by kernel_rfl) (weakS (by simp [SubFr, Go.Sx.look, Go.Sx.up]) (SubHp.refl _)) ⟨top, _, htop, hn, rfl⟩ (stepsH_cons ?_ <| stepsH_cons ?_ <| stepsH_cons ?_ <| stepsH_cons ?_ <| stepsH_cons ?_ <| stepsH_cons ?_ <| stepsH_cons ?_ <| stepsH_cons ?_ <| stepsH_cons ?_ <| stepsH_cons ?_ <| stepsH_cons ?_ <| stepsH_cons ?_ <| stepsH_cons ?_ <| stepsH_cons ?_ <| stepsH_cons ?_ <| stepsH_nil) ?_
      · rintro m st ⟨top, nid, ht, hn, rfl⟩ hcl hbit hd
        unfold opH
        rw [guardVC_none]
        simp only [hbit, up_true, up_false]
        refine .inl ?_
        (simp -dsimp only [↓RP, RQ0, RQ1, RQ2, RQ3, implies_true, forall_const, Nat.reduceMul, reduceIte, reduceCtorEq, Nat.reduceAdd, Nat.reduceEqDiff, Nat.reduceLT, Nat.reduceLeDiff, e361, eA, hgd, NB, D, I, Nat.add_zero, Nat.add_assoc, TY, Int.toNat_natCast, effK_ret, effK_normal, Go.Proofs.Try.results80])
        try refine ⟨by (first | trivial | (simp only [InK]; omega) | omega | (simp only [InK, ne_eq, and_true, true_and]; omega)), ?_⟩
        refine ⟨_, Weak.refl _ _, top, nid + 1, ht, by omega, ?_⟩
        simp only [tb, Nat.reduceEqDiff, Nat.succ_ne_self, Nat.zero_ne_one, Nat.one_ne_zero, decide_false, decide_true, Bool.or_false, Bool.or_true, Bool.false_or, up_true, up_false, hbit]
      · rintro m st ⟨top, nid, ht, hn, rfl⟩ hcl hbit hd
        have q0 := hd 0 (by decide) (by decide)
        unfold opH
        rw [guardVC_none]
        simp only [q0, hbit, up_true, up_false]
        refine .inl ?_
        (simp -dsimp only [↓RP, RQ0, RQ1, RQ2, RQ3, implies_true, forall_const, Nat.reduceMul, reduceIte, reduceCtorEq, Nat.reduceAdd, Nat.reduceEqDiff, Nat.reduceLT, Nat.reduceLeDiff, e361, eA, hgd, NB, D, I, Nat.add_zero, Nat.add_assoc, TY, Int.toNat_natCast, effK_ret, effK_normal, Go.Proofs.Try.results80])
        try refine ⟨by (first | trivial | (simp only [InK]; omega) | omega | (simp only [InK, ne_eq, and_true, true_and]; omega)), ?_⟩
        refine ⟨_, Weak.refl _ _, top, nid + 1, ht, by omega, ?_⟩
        simp only [tb, Nat.reduceEqDiff, Nat.succ_ne_self, Nat.zero_ne_one, Nat.one_ne_zero, decide_false, decide_true, Bool.or_false, Bool.or_true, Bool.false_or, up_true, up_false, q0, hbit]
      · rintro m st ⟨top, nid, ht, hn, rfl⟩ hcl hbit hd
        unfold opH
        rw [guardVC_none]
        simp only [hbit, up_true, up_false]
        refine .inl ?_
        (simp -dsimp only [↓RP, RQ0, RQ1, RQ2, RQ3, implies_true, forall_const, Nat.reduceMul, reduceIte, reduceCtorEq, Nat.reduceAdd, Nat.reduceEqDiff, Nat.reduceLT, Nat.reduceLeDiff, e361, eA, hgd, NB, D, I, Nat.add_zero, Nat.add_assoc, TY, Int.toNat_natCast, effK_ret, effK_normal, Go.Proofs.Try.results80])
        try refine ⟨by (first | trivial | (simp only [InK]; omega) | omega | (simp only [InK, ne_eq, and_true, true_and]; omega)), ?_⟩
        refine ⟨_, Weak.refl _ _, top, nid + 1, ht, by omega, ?_⟩
        simp only [tb, Nat.reduceEqDiff, Nat.succ_ne_self, Nat.zero_ne_one, Nat.one_ne_zero, decide_false, decide_true, Bool.or_false, Bool.or_true, Bool.false_or, up_true, up_false, hbit]
      · rintro m st ⟨top, nid, ht, hn, rfl⟩ hcl hbit hd
        have q2 := hd 2 (by decide) (by decide)
        unfold opH
        rw [guardVC_none]
        simp only [q2, hbit, up_true, up_false]
        refine .inl ?_
        (simp -dsimp only [↓RP, RQ0, RQ1, RQ2, RQ3, implies_true, forall_const, Nat.reduceMul, reduceIte, reduceCtorEq, Nat.reduceAdd, Nat.reduceEqDiff, Nat.reduceLT, Nat.reduceLeDiff, e361, eA, hgd, NB, D, I, Nat.add_zero, Nat.add_assoc, TY, Int.toNat_natCast, effK_ret, effK_normal, Go.Proofs.Try.results80])
        try refine ⟨by (first | trivial | (simp only [InK]; omega) | omega | (simp only [InK, ne_eq, and_true, true_and]; omega)), ?_⟩
        refine ⟨_, Weak.refl _ _, top, nid + 1, ht, by omega, ?_⟩
        simp only [tb, Nat.reduceEqDiff, Nat.succ_ne_self, Nat.zero_ne_one, Nat.one_ne_zero, decide_false, decide_true, Bool.or_false, Bool.or_true, Bool.false_or, up_true, up_false, q2, hbit]
      · rintro m st ⟨top, nid, ht, hn, rfl⟩ hcl hbit hd
        have q1 := hd 1 (by decide) (by decide)
        have q3 := hd 3 (by decide) (by decide)
        unfold opH
        rw [guardVC_none]
        simp only [q1, q3, hbit, up_true, up_false]
        refine .inl ?_
        (simp -dsimp only [↓RP, RQ0, RQ1, RQ2, RQ3, implies_true, forall_const, Nat.reduceMul, reduceIte, reduceCtorEq, Nat.reduceAdd, Nat.reduceEqDiff, Nat.reduceLT, Nat.reduceLeDiff, e361, eA, hgd, NB, D, I, Nat.add_zero, Nat.add_assoc, TY, Int.toNat_natCast, effK_ret, effK_normal, Go.Proofs.Try.results80])
        try refine ⟨by (first | trivial | (simp only [InK]; omega) | omega | (simp only [InK, ne_eq, and_true, true_and]; omega)), ?_⟩
        refine ⟨_, Weak.refl _ _, top, nid + 1, ht, by omega, ?_⟩
        simp only [tb, Nat.reduceEqDiff, Nat.succ_ne_self, Nat.zero_ne_one, Nat.one_ne_zero, decide_false, decide_true, Bool.or_false, Bool.or_true, Bool.false_or, up_true, up_false, q1, q3, hbit]
      · rintro m st ⟨top, nid, ht, hn, rfl⟩ hcl hbit hd
        have q4 := hd 4 (by decide) (by decide)
        unfold opH
        rw [guardVC_none]
        simp only [q4, hbit, up_true, up_false]
        refine .inl ?_
        (simp -dsimp only [↓RP, RQ0, RQ1, RQ2, RQ3, implies_true, forall_const, Nat.reduceMul, reduceIte, reduceCtorEq, Nat.reduceAdd, Nat.reduceEqDiff, Nat.reduceLT, Nat.reduceLeDiff, e361, eA, hgd, NB, D, I, Nat.add_zero, Nat.add_assoc, TY, Int.toNat_natCast, effK_ret, effK_normal, Go.Proofs.Try.results80])
        try refine ⟨by (first | trivial | (simp only [InK]; omega) | omega | (simp only [InK, ne_eq, and_true, true_and]; omega)), ?_⟩
        refine ⟨_, Weak.refl _ _, top, nid + 1, ht, by omega, ?_⟩
        simp only [tb, Nat.reduceEqDiff, Nat.succ_ne_self, Nat.zero_ne_one, Nat.one_ne_zero, decide_false, decide_true, Bool.or_false, Bool.or_true, Bool.false_or, up_true, up_false, q4, hbit]
      · rintro m st ⟨top, nid, ht, hn, rfl⟩ hcl hbit hd
        have q5 := hd 5 (by decide) (by decide)
        unfold opH
        simp only [q5, hbit, up_true, up_false]
        (simp -dsimp only [↓RP, RQ0, RQ1, RQ2, RQ3, implies_true, forall_const, Nat.reduceMul, reduceIte, reduceCtorEq, Nat.reduceAdd, Nat.reduceEqDiff, Nat.reduceLT, Nat.reduceLeDiff, e361, eA, hgd, NB, D, I, Nat.add_zero, Nat.add_assoc, TY, Int.toNat_natCast, effK_ret, effK_normal, Go.Proofs.Try.results80])
        refine ⟨_, Weak.refl _ _, top, nid, ht, hn, ?_⟩
        simp only [tb, Nat.reduceEqDiff, Nat.succ_ne_self, Nat.zero_ne_one, Nat.one_ne_zero, decide_false, decide_true, Bool.or_false, Bool.or_true, Bool.false_or, up_true, up_false, q5, hbit]
      · rintro m st ⟨top, nid, ht, hn, rfl⟩ hcl hbit hd
        have q5 := hd 5 (by decide) (by decide)
        unfold opH
        simp only [q5, hbit, up_true, up_false]
        (simp -dsimp only [↓RP, RQ0, RQ1, RQ2, RQ3, implies_true, forall_const, Nat.reduceMul, reduceIte, reduceCtorEq, Nat.reduceAdd, Nat.reduceEqDiff, Nat.reduceLT, Nat.reduceLeDiff, e361, eA, hgd, NB, D, I, Nat.add_zero, Nat.add_assoc, TY, Int.toNat_natCast, effK_ret, effK_normal, Go.Proofs.Try.results80])
        refine ⟨_, Weak.refl _ _, top, nid, ht, hn, ?_⟩
        simp only [tb, Nat.reduceEqDiff, Nat.succ_ne_self, Nat.zero_ne_one, Nat.one_ne_zero, decide_false, decide_true, Bool.or_false, Bool.or_true, Bool.false_or, up_true, up_false, q5, hbit]
      · rintro m st ⟨top, nid, ht, hn, rfl⟩ hcl hbit hd
        have q6 := hd 6 (by decide) (by decide)
        have q7 := hd 7 (by decide) (by decide)
        have q5 := hd 5 (by decide) (by decide)
        unfold opH
        simp only [q6, q7, q5, hbit, up_true, up_false]
        (simp -dsimp only [↓RP, RQ0, RQ1, RQ2, RQ3, implies_true, forall_const, Nat.reduceMul, reduceIte, reduceCtorEq, Nat.reduceAdd, Nat.reduceEqDiff, Nat.reduceLT, Nat.reduceLeDiff, e361, eA, hgd, NB, D, I, Nat.add_zero, Nat.add_assoc, TY, Int.toNat_natCast, effK_ret, effK_normal, Go.Proofs.Try.results80])
        refine ⟨_, Weak.refl _ _, top, nid, ht, hn, ?_⟩
        simp only [tb, Nat.reduceEqDiff, Nat.succ_ne_self, Nat.zero_ne_one, Nat.one_ne_zero, decide_false, decide_true, Bool.or_false, Bool.or_true, Bool.false_or, up_true, up_false, q6, q7, q5, hbit]
      · rintro m st ⟨top, nid, ht, hn, rfl⟩ hcl hbit hd
        have q8 := hd 8 (by decide) (by decide)
        have q5 := hd 5 (by decide) (by decide)
        unfold opH
        simp only [q8, q5, hbit, up_true, up_false]
        (simp -dsimp only [↓RP, RQ0, RQ1, RQ2, RQ3, implies_true, forall_const, Nat.reduceMul, reduceIte, reduceCtorEq, Nat.reduceAdd, Nat.reduceEqDiff, Nat.reduceLT, Nat.reduceLeDiff, e361, eA, hgd, NB, D, I, Nat.add_zero, Nat.add_assoc, TY, Int.toNat_natCast, effK_ret, effK_normal, Go.Proofs.Try.results80])
        refine ⟨_, Weak.refl _ _, top, nid, ht, hn, ?_⟩
        simp only [tb, Nat.reduceEqDiff, Nat.succ_ne_self, Nat.zero_ne_one, Nat.one_ne_zero, decide_false, decide_true, Bool.or_false, Bool.or_true, Bool.false_or, up_true, up_false, q8, q5, hbit]
      · rintro m st ⟨top, nid, ht, hn, rfl⟩ hcl hbit hd
        have q5 := hd 5 (by decide) (by decide)
        unfold opH
        simp only [q5, hbit, up_true, up_false]
        (simp -dsimp only [↓RP, RQ0, RQ1, RQ2, RQ3, implies_true, forall_const, Nat.reduceMul, reduceIte, reduceCtorEq, Nat.reduceAdd, Nat.reduceEqDiff, Nat.reduceLT, Nat.reduceLeDiff, e361, eA, hgd, NB, D, I, Nat.add_zero, Nat.add_assoc, TY, Int.toNat_natCast, effK_ret, effK_normal, Go.Proofs.Try.results80])
        refine ⟨_, Weak.refl _ _, top, nid, ht, hn, ?_⟩
        simp only [tb, Nat.reduceEqDiff, Nat.succ_ne_self, Nat.zero_ne_one, Nat.one_ne_zero, decide_false, decide_true, Bool.or_false, Bool.or_true, Bool.false_or, up_true, up_false, q5, hbit]
      · rintro m st ⟨top, nid, ht, hn, rfl⟩ hcl hbit hd
        have q5 := hd 5 (by decide) (by decide)
        unfold opH
        simp only [q5, hbit, up_true, up_false]
        (simp -dsimp only [↓RP, RQ0, RQ1, RQ2, RQ3, implies_true, forall_const, Nat.reduceMul, reduceIte, reduceCtorEq, Nat.reduceAdd, Nat.reduceEqDiff, Nat.reduceLT, Nat.reduceLeDiff, e361, eA, hgd, NB, D, I, Nat.add_zero, Nat.add_assoc, TY, Int.toNat_natCast, effK_ret, effK_normal, Go.Proofs.Try.results80])
        refine ⟨_, Weak.refl _ _, top, nid, ht, hn, ?_⟩
        simp only [tb, Nat.reduceEqDiff, Nat.succ_ne_self, Nat.zero_ne_one, Nat.one_ne_zero, decide_false, decide_true, Bool.or_false, Bool.or_true, Bool.false_or, up_true, up_false, q5, hbit]
      · rintro m st ⟨top, nid, ht, hn, rfl⟩ hcl hbit hd
        have q10 := hd 10 (by decide) (by decide)
        have q11 := hd 11 (by decide) (by decide)
        have q5 := hd 5 (by decide) (by decide)
        unfold opH
        simp only [q10, q11, q5, hbit, up_true, up_false]
        (simp -dsimp only [↓RP, RQ0, RQ1, RQ2, RQ3, implies_true, forall_const, Nat.reduceMul, reduceIte, reduceCtorEq, Nat.reduceAdd, Nat.reduceEqDiff, Nat.reduceLT, Nat.reduceLeDiff, e361, eA, hgd, NB, D, I, Nat.add_zero, Nat.add_assoc, TY, Int.toNat_natCast, effK_ret, effK_normal, Go.Proofs.Try.results80])
        refine ⟨_, Weak.refl _ _, top, nid, ht, hn, ?_⟩
        simp only [tb, Nat.reduceEqDiff, Nat.succ_ne_self, Nat.zero_ne_one, Nat.one_ne_zero, decide_false, decide_true, Bool.or_false, Bool.or_true, Bool.false_or, up_true, up_false, q10, q11, q5, hbit]
      · rintro m st ⟨top, nid, ht, hn, rfl⟩ hcl hbit hd
        have q9 := hd 9 (by decide) (by decide)
        have q12 := hd 12 (by decide) (by decide)
        have q5 := hd 5 (by decide) (by decide)
        unfold opH
        simp only [q9, q12, q5, hbit, up_true, up_false]
        (simp -dsimp only [↓RP, RQ0, RQ1, RQ2, RQ3, implies_true, forall_const, Nat.reduceMul, reduceIte, reduceCtorEq, Nat.reduceAdd, Nat.reduceEqDiff, Nat.reduceLT, Nat.reduceLeDiff, e361, eA, hgd, NB, D, I, Nat.add_zero, Nat.add_assoc, TY, Int.toNat_natCast, effK_ret, effK_normal, Go.Proofs.Try.results80])
        refine ⟨_, Weak.refl _ _, top, nid, ht, hn, ?_⟩
        simp only [tb, Nat.reduceEqDiff, Nat.succ_ne_self, Nat.zero_ne_one, Nat.one_ne_zero, decide_false, decide_true, Bool.or_false, Bool.or_true, Bool.false_or, up_true, up_false, q9, q12, q5, hbit]
      · rintro m st ⟨top, nid, ht, hn, rfl⟩ hcl hbit hd
        have q5 := hd 5 (by decide) (by decide)
        have q13 := hd 13 (by decide) (by decide)
        unfold opH
        rw [guardVC_none]
        simp only [q5, q13, hbit, up_true, up_false]
        refine .inl ?_
        (simp -dsimp only [↓RP, RQ0, RQ1, RQ2, RQ3, implies_true, forall_const, Nat.reduceMul, reduceIte, reduceCtorEq, Nat.reduceAdd, Nat.reduceEqDiff, Nat.reduceLT, Nat.reduceLeDiff, e361, eA, hgd, NB, D, I, Nat.add_zero, Nat.add_assoc, TY, Int.toNat_natCast, effK_ret, effK_normal, Go.Proofs.Try.results80])
        try refine ⟨by (first | trivial | (simp only [InK]; omega) | omega | (simp only [InK, ne_eq, and_true, true_and]; omega)), ?_⟩
        refine ⟨_, Weak.refl _ _, top, nid + 1, ht, by omega, ?_⟩
        simp only [tb, Nat.reduceEqDiff, Nat.succ_ne_self, Nat.zero_ne_one, Nat.one_ne_zero, decide_false, decide_true, Bool.or_false, Bool.or_true, Bool.false_or, up_true, up_false, q5, q13, hbit]
      · rintro m st' ⟨top, nid, ht, hn, rfl⟩ hall
        simp only [hall 0 (by decide), hall 1 (by decide), hall 2 (by decide), hall 3 (by decide), hall 4 (by decide), hall 5 (by decide), hall 6 (by decide), hall 7 (by decide), hall 8 (by decide), hall 9 (by decide), hall 10 (by decide), hall 11 (by decide), hall 12 (by decide), hall 13 (by decide), hall 14 (by decide), up_true]
        (repeat' (first | with_reducible refine splitVC_d (fun _ => ?_) (fun _ => ?_) | ((with_reducible refine And.intro ?_ ?_); focus (first | trivial | (simp only [InK]; omega) | omega | (simp only [InK, ne_eq, and_true, true_and]; omega))) | simp -dsimp only [↓RP, RQ0, RQ1, RQ2, RQ3, implies_true, forall_const, Nat.reduceMul, reduceIte, reduceCtorEq, Nat.reduceAdd, Nat.reduceEqDiff, Nat.reduceLT, Nat.reduceLeDiff, e361, eA, hgd, NB, D, I, Nat.add_zero, Nat.add_assoc, TY, Int.toNat_natCast, effK_ret, effK_normal, Go.Proofs.Try.results80]))
        all_goals first | (exfalso; omega) | skip
        have hae : ax = lateF c.M L k := by omega
        refine ⟨_, _, _, weakS (fr' := [(0, _)]) ⟨.inr rfl, trivial⟩ (SubHp.refl _), top, ht, rfl, by omega, by rw [← hae]; rfl⟩
end Go.Lg
end
section
set_option linter.unusedSimpArgs false
set_option linter.unusedVariables false
set_option maxRecDepth 100000
set_option maxHeartbeats 4000000
namespace Go.Lg
open Go.Sx
theorem sub_two {a e b m : Nat} {X E B M : Blk} {rest : List (Nat × Blk)} (h1 : a ≠ b) (h2 : a ≠ m) (h3 : e ≠ b) (h4 : e ≠ m) : SubHp ((a, X) :: (e, E) :: (b, B) :: (m, M) :: rest) ((b, B) :: (m, M) :: (a, X) :: (e, E) :: rest) := fun k x hx => by
  simp only [blk] at hx ⊢
  by_cases e1 : k = b
  · subst e1
    rw [if_pos rfl] at hx
    rw [if_neg (Ne.symm h1), if_neg (Ne.symm h3), if_pos rfl]; exact hx
  · rw [if_neg e1] at hx
    by_cases e2 : k = m
    · subst e2
      rw [if_pos rfl] at hx
      rw [if_neg (Ne.symm h2), if_neg (Ne.symm h4), if_neg e1, if_pos rfl]; exact hx
    · rw [if_neg e2] at hx
      rw [if_neg e1, if_neg e2]
      exact hx
theorem c40 (c : Curve) (n : Nat) (C : Nat → Curve) (hm : c.m ≤ 1000000) (hC : ∀ i, i < n → (C i).m ≤ 1000000) : Contract Go.Proofs.Try.prog 40 [c.sv, chn n C] (.tup [I (waitV c n C).1, I (waitV c n C).2]) := by
  refine contract_of Go.Proofs.Try.func40 rfl (by kernel_rfl) follows (by kernel_rfl) _ _ (by rw [Go.Proofs.Try.ntmps40]; simp) (by simp only [OldL, c.old, chn_old, and_self]) ?_
  unfold I
  conv => arg 4; unfold chn Curve.sv ints
  (repeat' (first | with_reducible refine splitVC_d (fun _ => ?_) (fun _ => ?_) | ((with_reducible refine And.intro ?_ ?_); focus (first | trivial | (simp only [InK]; omega) | omega | (simp only [InK, ne_eq, and_true, true_and]; omega))) | simp -dsimp only [↓RP, RQ0, RQ1, RQ2, RQ3, implies_true, forall_const, Nat.reduceMul, reduceIte, reduceCtorEq, Nat.reduceAdd, Nat.reduceEqDiff, Nat.reduceLT, Nat.reduceLeDiff, TY, Go.Proofs.Try.results40]))
  refine callE (by rfl) (e77 c n C hm hC _) fun hp' nid0 res hq => ?_
  rcases hq with ⟨he, r1, r2, r3⟩ | ⟨he, bid, mid, il, top, h12, h13, h23, hb, hmi, hi, _, _, _, htop, r1, r2⟩
  · subst r1 r3
    (repeat' (first | with_reducible refine splitVC_d (fun _ => ?_) (fun _ => ?_) | ((with_reducible refine And.intro ?_ ?_); focus (first | trivial | (simp only [InK]; omega) | omega | (simp only [InK, ne_eq, and_true, true_and]; omega))) | simp -dsimp only [↓RP, RQ0, RQ1, RQ2, RQ3, implies_true, forall_const, Nat.reduceMul, reduceIte, reduceCtorEq, Nat.reduceAdd, Nat.reduceEqDiff, Nat.reduceLT, Nat.reduceLeDiff, I, TY, self_F1, self_F2, Nat.add_zero, Nat.add_assoc, Go.Proofs.Try.results40]))
    · rename_i h0
      exact absurd h0 he
    · unfold waitV; rw [if_neg he]
      exact ⟨rfl, rfl⟩
  subst r1 r2
  have ha := ask_ok he
  have e0 : waitV c n C = (waitB c n C, 0) := by unfold waitV; rw [if_pos he]
  rw [e0]
  have NB := names3 (a := bid) (b := mid) (c := il) (n := nid0) h12 h13 h23 (by omega) (by omega) (by omega)
  (repeat' (first | with_reducible refine splitVC_d (fun _ => ?_) (fun _ => ?_) | ((with_reducible refine And.intro ?_ ?_); focus (first | trivial | (simp only [InK]; omega) | omega | (simp only [InK, ne_eq, and_true, true_and]; omega))) | simp -dsimp only [↓RP, RQ0, RQ1, RQ2, RQ3, implies_true, forall_const, Nat.reduceMul, reduceIte, reduceCtorEq, Nat.reduceAdd, Nat.reduceEqDiff, Nat.reduceLT, Nat.reduceLeDiff, NB, decide_true, Bool.not_true, I, TY, self_F1, self_F2, Nat.add_zero, Nat.add_assoc, Go.Proofs.Try.results40]))
  have hL := fun k (hk : k ≤ 360) => Lc_bound ha k (by omega)
  have hM := M_bound ha.fine
  have x1 : ∀ cid X, nid0 + 15 ≤ cid → blk ((cid, X) :: (nid0 + 8, Blk.cells 22 [.vec il 361 1]) :: (nid0 + 7, Blk.cells 77 [.ptr bid 0]) :: (il, rowB 361 (Lc n C)) :: []) (nid0 + 7) = some (Blk.cells 77 [.ptr bid 0]) := fun cid X h => by
    simp only [blk]
    rw [if_neg (by omega), if_neg (by omega), if_pos trivial]
  have x2 : ∀ cid X, nid0 + 15 ≤ cid → blk ((cid, X) :: (nid0 + 8, Blk.cells 22 [.vec il 361 1]) :: (nid0 + 7, Blk.cells 77 [.ptr bid 0]) :: (il, rowB 361 (Lc n C)) :: []) (nid0 + 8) = some (Blk.cells 22 [.vec il 361 1]) := fun cid X h => by
    simp only [blk]
    rw [if_neg (by omega), if_pos trivial]
  have x3 : ∀ cid X, nid0 + 15 ≤ cid → blk ((cid, X) :: (nid0 + 8, Blk.cells 22 [.vec il 361 1]) :: (nid0 + 7, Blk.cells 77 [.ptr bid 0]) :: (il, rowB 361 (Lc n C)) :: []) il = some (rowB 361 (Lc n C)) := fun cid X h => by
    simp only [blk]
    rw [if_neg (by omega), if_neg (by omega), if_neg (by omega), if_pos trivial]
  refine callE (by rfl) (EffVC.sub (sub_two (by omega) (by omega) (by omega) (by omega)) (e78 c bid mid h12 ((nid0 + 8, .cells 22 [.vec il 361 1]) :: (nid0 + 7, .cells 77 [.ptr bid 0]) :: (il, rowB 361 (Lc n C)) :: []) 79 [.ptr (nid0 + 7) 0, .ptr (nid0 + 8) 0] (fun k => c.M k - Lc n C k) 180 (by omega) top htop _ (((Under.nil.cons (by omega)).cons (by omega)).cons (by omega)) (by omega) (by omega) (fun cid X hcid => e79 c ha.fine (Lc n C) hL bid mid h12 _ (nid0 + 7) (nid0 + 8) il ⟨by omega, by omega, by omega, by omega, by omega, by omega⟩ (x1 cid X hcid) (x2 cid X hcid) (x3 cid X hcid)) (fun k hk => ?_))) fun hp' nid1 res ⟨top', ht', r1, hn', r2⟩ => ?_
  · have := hM k; have := hL k (by omega); show -1000000 ≤ c.M k - Lc n C k ∧ c.M k - Lc n C k ≤ 1000000; omega
  subst r1 r2
  (repeat' (first | with_reducible refine splitVC_d (fun _ => ?_) (fun _ => ?_) | ((with_reducible refine And.intro ?_ ?_); focus (first | trivial | (simp only [InK]; omega) | omega | (simp only [InK, ne_eq, and_true, true_and]; omega))) | simp -dsimp only [↓RP, RQ0, RQ1, RQ2, RQ3, implies_true, forall_const, Nat.reduceMul, reduceIte, reduceCtorEq, Nat.reduceAdd, Nat.reduceEqDiff, Nat.reduceLT, Nat.reduceLeDiff, I, TY, self_F1, self_F2, Nat.add_zero, Nat.add_assoc, Go.Proofs.Try.results40]))
  rfl
theorem c42 (c : Curve) (n : Nat) (C : Nat → Curve) (hm : c.m ≤ 1000000) (hC : ∀ i, i < n → (C i).m ≤ 1000000) : Contract Go.Proofs.Try.prog 42 [c.sv, chn n C] (.tup [I (lateV c n C).1, I (lateV c n C).2]) := by
  refine contract_of Go.Proofs.Try.func42 rfl (by kernel_rfl) follows (by kernel_rfl) _ _ (by rw [Go.Proofs.Try.ntmps42]; simp) (by simp only [OldL, c.old, chn_old, and_self]) ?_
  unfold I
  conv => arg 4; unfold chn Curve.sv ints
  (repeat' (first | with_reducible refine splitVC_d (fun _ => ?_) (fun _ => ?_) | ((with_reducible refine And.intro ?_ ?_); focus (first | trivial | (simp only [InK]; omega) | omega | (simp only [InK, ne_eq, and_true, true_and]; omega))) | simp -dsimp only [↓RP, RQ0, RQ1, RQ2, RQ3, implies_true, forall_const, Nat.reduceMul, reduceIte, reduceCtorEq, Nat.reduceAdd, Nat.reduceEqDiff, Nat.reduceLT, Nat.reduceLeDiff, TY, Go.Proofs.Try.results42]))
  refine callE (by rfl) (e77 c n C hm hC _) fun hp' nid0 res hq => ?_
  rcases hq with ⟨he, r1, r2, r3⟩ | ⟨he, bid, mid, il, top, h12, h13, h23, hb, hmi, hi, _, _, _, htop, r1, r2⟩
  · subst r1 r3
    (repeat' (first | with_reducible refine splitVC_d (fun _ => ?_) (fun _ => ?_) | ((with_reducible refine And.intro ?_ ?_); focus (first | trivial | (simp only [InK]; omega) | omega | (simp only [InK, ne_eq, and_true, true_and]; omega))) | simp -dsimp only [↓RP, RQ0, RQ1, RQ2, RQ3, implies_true, forall_const, Nat.reduceMul, reduceIte, reduceCtorEq, Nat.reduceAdd, Nat.reduceEqDiff, Nat.reduceLT, Nat.reduceLeDiff, I, TY, self_F1, self_F2, Nat.add_zero, Nat.add_assoc, Go.Proofs.Try.results42]))
    · rename_i h0
      exact absurd h0 he
    · unfold lateV; rw [if_neg he]
      exact ⟨rfl, rfl⟩
  subst r1 r2
  have ha := ask_ok he
  have e0 : lateV c n C = (lateB c n C, 0) := by unfold lateV; rw [if_pos he]
  rw [e0]
  have NB := names3 (a := bid) (b := mid) (c := il) (n := nid0) h12 h13 h23 (by omega) (by omega) (by omega)
  (repeat' (first | with_reducible refine splitVC_d (fun _ => ?_) (fun _ => ?_) | ((with_reducible refine And.intro ?_ ?_); focus (first | trivial | (simp only [InK]; omega) | omega | (simp only [InK, ne_eq, and_true, true_and]; omega))) | simp -dsimp only [↓RP, RQ0, RQ1, RQ2, RQ3, implies_true, forall_const, Nat.reduceMul, reduceIte, reduceCtorEq, Nat.reduceAdd, Nat.reduceEqDiff, Nat.reduceLT, Nat.reduceLeDiff, NB, decide_true, Bool.not_true, I, TY, self_F1, self_F2, Nat.add_zero, Nat.add_assoc, Go.Proofs.Try.results42]))
  have hL := fun k (hk : k ≤ 360) => Lc_bound ha k (by omega)
  have hM := M_bound ha.fine
  have x1 : ∀ cid X, nid0 + 15 ≤ cid → blk ((cid, X) :: (nid0 + 8, Blk.cells 22 [.vec il 361 1]) :: (nid0 + 7, Blk.cells 77 [.ptr bid 0]) :: (il, rowB 361 (Lc n C)) :: []) (nid0 + 7) = some (Blk.cells 77 [.ptr bid 0]) := fun cid X h => by
    simp only [blk]
    rw [if_neg (by omega), if_neg (by omega), if_pos trivial]
  have x2 : ∀ cid X, nid0 + 15 ≤ cid → blk ((cid, X) :: (nid0 + 8, Blk.cells 22 [.vec il 361 1]) :: (nid0 + 7, Blk.cells 77 [.ptr bid 0]) :: (il, rowB 361 (Lc n C)) :: []) (nid0 + 8) = some (Blk.cells 22 [.vec il 361 1]) := fun cid X h => by
    simp only [blk]
    rw [if_neg (by omega), if_pos trivial]
  have x3 : ∀ cid X, nid0 + 15 ≤ cid → blk ((cid, X) :: (nid0 + 8, Blk.cells 22 [.vec il 361 1]) :: (nid0 + 7, Blk.cells 77 [.ptr bid 0]) :: (il, rowB 361 (Lc n C)) :: []) il = some (rowB 361 (Lc n C)) := fun cid X h => by
    simp only [blk]
    rw [if_neg (by omega), if_neg (by omega), if_neg (by omega), if_pos trivial]
  refine callE (by rfl) (EffVC.sub (sub_two (by omega) (by omega) (by omega) (by omega)) (e78 c bid mid h12 ((nid0 + 8, .cells 22 [.vec il 361 1]) :: (nid0 + 7, .cells 77 [.ptr bid 0]) :: (il, rowB 361 (Lc n C)) :: []) 80 [.ptr (nid0 + 8) 0, .ptr (nid0 + 7) 0] (fun k => (lateF c.M (Lc n C) k : Int) - k) 180 (by omega) top htop _ (((Under.nil.cons (by omega)).cons (by omega)).cons (by omega)) (by omega) (by omega) (fun cid X hcid => e80 c ha.fine (Lc n C) hL bid mid h12 _ (nid0 + 7) (nid0 + 8) il ⟨by omega, by omega, by omega, by omega, by omega, by omega⟩ (x1 cid X hcid) (x2 cid X hcid) (x3 cid X hcid)) (fun k hk => ?_))) fun hp' nid1 res ⟨top', ht', r1, hn', r2⟩ => ?_
  · have := lateF_range c.M (Lc n C) k (by omega); show -1000000 ≤ (lateF c.M (Lc n C) k : Int) - k ∧ (lateF c.M (Lc n C) k : Int) - k ≤ 1000000; omega
  subst r1 r2
  (repeat' (first | with_reducible refine splitVC_d (fun _ => ?_) (fun _ => ?_) | ((with_reducible refine And.intro ?_ ?_); focus (first | trivial | (simp only [InK]; omega) | omega | (simp only [InK, ne_eq, and_true, true_and]; omega))) | simp -dsimp only [↓RP, RQ0, RQ1, RQ2, RQ3, implies_true, forall_const, Nat.reduceMul, reduceIte, reduceCtorEq, Nat.reduceAdd, Nat.reduceEqDiff, Nat.reduceLT, Nat.reduceLeDiff, I, TY, self_F1, self_F2, Nat.add_zero, Nat.add_assoc, Go.Proofs.Try.results42]))
  rfl
end Go.Lg
end
section
set_option linter.unusedSimpArgs false
set_option linter.unusedVariables false
set_option maxRecDepth 100000
set_option maxHeartbeats 4000000
namespace Go.Lg
open Go.Sx
theorem c44e (c : Curve) (n : Nat) (C : Nat → Curve) (hm : c.m ≤ 1000000) (hC : ∀ i, i < n → (C i).m ≤ 1000000) (h : askE c n C ≠ 0) : Contract Go.Proofs.Try.prog 44 [c.sv, chn n C] (.tup [nilS, I (askE c n C)]) := by
  refine contract_of Go.Proofs.Try.func44 rfl (by kernel_rfl) follows (by kernel_rfl) _ _ (by rw [Go.Proofs.Try.ntmps44]; simp) (by simp only [OldL, c.old, chn_old, and_self]) ?_
  unfold I
  conv => arg 4; unfold chn Curve.sv ints
  (repeat' (first | with_reducible refine splitVC_d (fun _ => ?_) (fun _ => ?_) | ((with_reducible refine And.intro ?_ ?_); focus (first | trivial | (simp only [InK]; omega) | omega | (simp only [InK, ne_eq, and_true, true_and]; omega))) | simp -dsimp only [↓RP, RQ0, RQ1, RQ2, RQ3, implies_true, forall_const, Nat.reduceMul, reduceIte, reduceCtorEq, Nat.reduceAdd, Nat.reduceEqDiff, Nat.reduceLT, Nat.reduceLeDiff, TY, Go.Proofs.Try.results44]))
  refine callE (by rfl) (e77 c n C hm hC _) fun hp' nid0 res hq => ?_
  rcases hq with ⟨he, r1, r2, r3⟩ | ⟨he, bid, mid, il, top, h12, h13, h23, hb, hmi, hi, _, _, _, htop, r1, r2⟩
  · subst r1 r3
    (repeat' (first | with_reducible refine splitVC_d (fun _ => ?_) (fun _ => ?_) | ((with_reducible refine And.intro ?_ ?_); focus (first | trivial | (simp only [InK]; omega) | omega | (simp only [InK, ne_eq, and_true, true_and]; omega))) | simp -dsimp only [↓RP, RQ0, RQ1, RQ2, RQ3, implies_true, forall_const, Nat.reduceMul, reduceIte, reduceCtorEq, Nat.reduceAdd, Nat.reduceEqDiff, Nat.reduceLT, Nat.reduceLeDiff, I, TY, self_F1, self_F2, Nat.add_zero, Nat.add_assoc, Go.Proofs.Try.results44]))
    rename_i h0
    exact absurd h0 he
  · exact absurd he h
abbrev restB (bid cb cl il : Nat) (L : Nat → Int) (tail : List (Nat × Blk)) : List (Nat × Blk) := (cl, .cells 22 [.vec il 361 1]) :: (cb, .cells 77 [.ptr bid 0]) :: (il, rowB 361 L) :: tail
theorem beh_clo (c : Curve) (hf : c.Fine) (L : Nat → Int) (hL : ∀ k, k ≤ 360 → 0 ≤ L k ∧ L k ≤ 50000) (bid mid : Nat) (hbm : bid ≠ mid) (cb cl il ci cid : Nat) (X : Blk) (tail : List (Nat × Blk)) (d : cb ≠ bid ∧ cb ≠ mid ∧ cl ≠ bid ∧ cl ≠ mid ∧ il ≠ bid ∧ il ≠ mid) (d2 : ci ≠ bid ∧ ci ≠ mid)
    (d3 : cl ≠ cb ∧ cl ≠ il ∧ cb ≠ il ∧ ci ≠ cl ∧ ci ≠ cb ∧ ci ≠ il ∧ cid ≠ ci ∧ cid ≠ cl ∧ cid ≠ cb ∧ cid ≠ il) (i i1 : Nat) (hi : i ≤ 6) (hi1 : i1 = i + 1) :
    Clo c bid mid ((cid, X) :: (ci, .cells 3 [.val (.int .i64 i)]) :: restB bid cb cl il L tail) 81 [.ptr cb 0, .ptr ci 0, .ptr cl 0] (fun k => c.M (i1 + k) - L k) 180 := by
  refine e81 c hf L hL bid mid hbm _ cb cl il ci d d2 i i1 hi hi1 ?_ ?_ ?_ ?_
  · simp only [blk]; rw [if_neg (by omega), if_pos trivial]
  · simp only [blk]; rw [if_neg (by omega), if_neg (by omega), if_neg (by omega), if_pos trivial]
  · simp only [blk]; rw [if_neg (by omega), if_neg (by omega), if_pos trivial]
  · simp only [blk]; rw [if_neg (by omega), if_neg (by omega), if_neg (by omega), if_neg (by omega), if_pos trivial]
theorem sub_beh {p q z b m cl cb il : Nat} {X Y Z B M E F G : Blk} (d : p ≠ b ∧ p ≠ m ∧ p ≠ cl ∧ p ≠ cb ∧ p ≠ il ∧ q ≠ b ∧ q ≠ m ∧ q ≠ cl ∧ q ≠ cb ∧ q ≠ il ∧ z ≠ cl ∧ z ≠ cb ∧ z ≠ il ∧ b ≠ m ∧ b ≠ cl ∧ b ≠ cb ∧ b ≠ il ∧ m ≠ cl ∧ m ≠ cb ∧ m ≠ il ∧ cl ≠ cb ∧ cl ≠ il ∧ cb ≠ il) :
    SubHp ((p, X) :: (q, Y) :: (b, B) :: (m, M) :: (z, Z) :: (cl, E) :: (cb, F) :: (il, G) :: []) ((b, B) :: (m, M) :: (cl, E) :: (cb, F) :: (il, G) :: (p, X) :: []) := fun k x hx => by
  simp only [blk] at hx ⊢
  by_cases e_b : k = b
  · rw [if_pos e_b] at hx
    rw [if_neg (by omega), if_neg (by omega), if_pos e_b]; exact hx
  rw [if_neg e_b] at hx
  by_cases e_m : k = m
  · rw [if_pos e_m] at hx
    rw [if_neg (by omega), if_neg (by omega), if_neg (by omega), if_pos e_m]; exact hx
  rw [if_neg e_m] at hx
  by_cases e_cl : k = cl
  · rw [if_pos e_cl] at hx
    rw [if_neg (by omega), if_neg (by omega), if_neg (by omega), if_neg (by omega), if_neg (by omega), if_pos e_cl]; exact hx
  rw [if_neg e_cl] at hx
  by_cases e_cb : k = cb
  · rw [if_pos e_cb] at hx
    rw [if_neg (by omega), if_neg (by omega), if_neg (by omega), if_neg (by omega), if_neg (by omega), if_neg (by omega), if_pos e_cb]; exact hx
  rw [if_neg e_cb] at hx
  by_cases e_il : k = il
  · rw [if_pos e_il] at hx
    rw [if_neg (by omega), if_neg (by omega), if_neg (by omega), if_neg (by omega), if_neg (by omega), if_neg (by omega), if_neg (by omega), if_pos e_il]; exact hx
  rw [if_neg e_il] at hx
  by_cases e_p : k = p
  · rw [if_pos e_p] at hx ⊢; exact hx
  · rw [if_neg e_p] at hx; cases hx
def c44inv (c : Curve) (n : Nat) (C : Nat → Curve) (bid mid cb cl il : Nat) : Nat × Nat × Nat × Nat → St
  | (0, top, nid, _) => ⟨[(6, .ptr cb 0), (7, .ptr cl 0), (9, nilS), (22, .val (.int .i64 c.m)), (23, .val (.int .i64 0))], (bid, bdC c mid true top) :: (mid, bdM c top) :: restB bid cb cl il (Lc n C) [], nid⟩
  | (i + 1, top, nid, ib) => ⟨[(6, .ptr cb 0), (7, .ptr cl 0), (9, .vec ib (i + 1) 1), (22, .val (.int .i64 c.m)), (23, .val (.int .i64 ((i + 1 : Nat) : Int)))], (bid, bdC c mid true top) :: (mid, bdM c top) :: restB bid cb cl il (Lc n C) [(ib, rowB (i + 1) (fun j => behB c n C (j + 1)))], nid⟩
theorem c44 (c : Curve) (n : Nat) (C : Nat → Curve) (hC : ∀ i, i < n → (C i).m ≤ 1000000) (he : askE c n C = 0) : ContractN Go.Proofs.Try.prog 44 [c.sv, chn n C] (.rows 2 1 c.m (fun j _ => I (behB c n C (j + 1)))) (.tup [.vec 0 c.m 1, I 0]) := by
  refine contractN_of Go.Proofs.Try.func44 rfl (by kernel_rfl) follows (by kernel_rfl) _ _ _ (by rw [Go.Proofs.Try.ntmps44]; simp) (by simp only [OldL, c.old, chn_old, and_self]) ?_
  have ha := ask_ok he
  have hm6 := ha.fine.m6
  have hm1 := ha.fine.m1
  unfold I
  conv => arg 4; unfold chn Curve.sv ints
  (repeat' (first | with_reducible refine splitVC_d (fun _ => ?_) (fun _ => ?_) | ((with_reducible refine And.intro ?_ ?_); focus (first | trivial | (simp only [InK]; omega) | omega | (simp only [InK, ne_eq, and_true, true_and]; omega))) | simp -dsimp only [↓RP, RQ0, RQ1, RQ2, RQ3, implies_true, forall_const, Nat.reduceMul, reduceIte, reduceCtorEq, Nat.reduceAdd, Nat.reduceEqDiff, Nat.reduceLT, Nat.reduceLeDiff, TY, Go.Proofs.Try.results44]))
  refine callE (by rfl) (e77 c n C (by omega) hC _) fun hp' nid0 res hq => ?_
  rcases hq with ⟨hne, r1, r2, r3⟩ | ⟨_, bid, mid, il, top, h12, h13, h23, hb, hmi, hi, _, _, _, htop, r1, r2⟩
  · exact absurd he hne
  subst r1 r2
  have NB := names3 (a := bid) (b := mid) (c := il) (n := nid0) h12 h13 h23 (by omega) (by omega) (by omega)
  (repeat' (first | with_reducible refine splitVC_d (fun _ => ?_) (fun _ => ?_) | ((with_reducible refine And.intro ?_ ?_); focus (first | trivial | (simp only [InK]; omega) | omega | (simp only [InK, ne_eq, and_true, true_and]; omega))) | simp -dsimp only [↓RP, RQ0, RQ1, RQ2, RQ3, implies_true, forall_const, Nat.reduceMul, reduceIte, reduceCtorEq, Nat.reduceAdd, Nat.reduceEqDiff, Nat.reduceLT, Nat.reduceLeDiff, NB, decide_true, Bool.not_true, I, TY, self_F1, self_F2, Nat.add_zero, Nat.add_assoc, Go.Proofs.Try.results44]))
  have hL := fun k (hk : k ≤ 360) => Lc_bound ha k (by omega)
  have hM := M_bound ha.fine
  obtain ⟨cb, hcb⟩ : ∃ cb, cb = nid0 + 7 := ⟨_, rfl⟩
  obtain ⟨cl, hcl⟩ : ∃ cl, cl = nid0 + 8 := ⟨_, rfl⟩
  rw [← hcb, ← hcl]
  refine loop_vc (fun (x : Nat × Nat × Nat × Nat) => x.1 ≤ c.m ∧ x.2.1 ≤ 400 ∧ nid0 + 9 ≤ x.2.2.1 ∧ (0 < x.1 → x.2.2.2 ≠ bid ∧ x.2.2.2 ≠ mid ∧ x.2.2.2 ≠ cb ∧ x.2.2.2 ≠ cl ∧ x.2.2.2 ≠ il ∧ x.2.2.2 < x.2.2.1)) (c44inv c n C bid mid cb cl il) (fun x => c.m - x.1) (0, top, _, 0) ⟨Nat.zero_le _, htop, ?_, fun h => absurd h (Nat.lt_irrefl 0)⟩ (weakS ?_ ?_) fun x hx => ?_
  rotate_left
  · simp [SubFr, Go.Sx.look]
  · exact sub_two (by omega) (by omega) (by omega) (by omega)
  rotate_left
  · simp only []; omega
  obtain ⟨i, top, nid, ib⟩ := x
  obtain ⟨hi6, htop, hn, hib⟩ := hx
  replace hi6 : i ≤ c.m := hi6
  replace htop : top ≤ 400 := htop
  replace hn : nid0 + 9 ≤ nid := hn
  replace hib : 0 < i → ib ≠ bid ∧ ib ≠ mid ∧ ib ≠ cb ∧ ib ≠ cl ∧ ib ≠ il ∧ ib < nid := hib
  have NB := names3 (a := bid) (b := mid) (c := il) (n := nid) h12 h13 h23 (by omega) (by omega) (by omega)
  have NB2 := names2 (a := cb) (b := cl) (n := nid) (by omega) (by omega) (by omega)
  by_cases hlt : i < c.m
  · cases i with
    | zero =>
      simp only [c44inv]
      have hmM : -1000000 ≤ (0 : Int) := by omega
      (repeat' (first | with_reducible refine splitVC_d (fun _ => ?_) (fun _ => ?_) | ((with_reducible refine And.intro ?_ ?_); focus (first | trivial | (simp only [InK]; omega) | omega | (simp only [InK, ne_eq, and_true, true_and]; omega))) | simp -dsimp only [↓RP, RQ0, RQ1, RQ2, RQ3, implies_true, forall_const, Nat.reduceMul, reduceIte, reduceCtorEq, Nat.reduceAdd, Nat.reduceEqDiff, Nat.reduceLT, Nat.reduceLeDiff, NB, NB2, I, TY, Int.toNat_natCast, self_F1, self_F2, Nat.add_zero, Nat.add_assoc, Go.Proofs.Try.results44]))
      all_goals first | (exfalso; clear h12 h13 h23 hib; omega) | skip
      refine callE (by rfl) (EffVC.sub (sub_swap3 (by omega) (by omega)) (e78 c bid mid h12 (((nid + 2), .cells 3 [.val (.int .i64 (0 : Nat))]) :: restB bid cb cl il (Lc n C) []) 81 [.ptr cb 0, .ptr (nid + 2) 0, .ptr cl 0] (fun k => c.M (0 + 1 + k) - Lc n C k) 180 (by omega) top htop _ ((((Under.nil.cons (by omega)).cons (by omega)).cons (by omega)).cons (by omega)) (by omega) (by omega) (fun cid X hcid => beh_clo c ha.fine (Lc n C) hL bid mid h12 cb cl il (nid + 2) cid X [] ⟨by omega, by omega, by omega, by omega, Ne.symm h13, Ne.symm h23⟩ ⟨by omega, by omega⟩ ⟨by omega, by omega, by omega, by omega, by omega, by omega, by omega, by omega, by omega, by omega⟩ 0 (0 + 1) (by omega) rfl) (fun k hk => ?_))) fun hp' nid1 res ⟨top', ht', r1, hn', r2⟩ => ?_
      · have := hM (0 + 1 + k); have := hL k (by omega); show -1000000 ≤ c.M (0 + 1 + k) - Lc n C k ∧ c.M (0 + 1 + k) - Lc n C k ≤ 1000000; omega
      subst r1 r2
      have eB : bestTo (fun k => c.M (0 + 1 + k) - Lc n C k) (180 + 1) = behB c n C (0 + 1) := rfl
      rw [eB]
      have NB1 := names3 (a := bid) (b := mid) (c := il) (n := nid1) h12 h13 h23 (by omega) (by omega) (by omega)
      have NB2 := names2 (a := cb) (b := cl) (n := nid1) (by omega) (by omega) (by omega)
      have NB3 := ne_l (show nid + 2 < nid1 by omega)
      (repeat' (first | with_reducible refine splitVC_d (fun _ => ?_) (fun _ => ?_) | ((with_reducible refine And.intro ?_ ?_); focus (first | trivial | (simp only [InK]; omega) | omega | (simp only [InK, ne_eq, and_true, true_and]; omega))) | simp -dsimp only [↓RP, RQ0, RQ1, RQ2, RQ3, implies_true, forall_const, Nat.reduceMul, reduceIte, reduceCtorEq, Nat.reduceAdd, Nat.reduceEqDiff, Nat.reduceLT, Nat.reduceLeDiff, NB1, NB2, NB3, restB, I, by2, TY, Int.toNat_natCast, self_F1, self_F2, Nat.add_zero, Nat.add_assoc, Go.Proofs.Try.results44]))
      all_goals first | (exfalso; clear h12 h13 h23 hib; omega) | skip
      refine ⟨(1, top', _, nid1 + 4), ⟨by simp only []; omega, ht', ?_, fun _ => ?_⟩, by simp only []; omega, Weak.trans (weakR (id := nid1 + 4) (row' := fun j _ => .val (.int .i64 (behB c n C (j + 1)))) (blk_head _ _ _) ?_) (weakS ?_ ?_)⟩
      rotate_left 2
      · intro a j ha hj
        have : a = 0 := by omega
        subst this
        rw [lit1 _ 0 j (by omega) hj]
      · simp [SubFr, Go.Sx.look]
      · (simp -dsimp only [↓RP, RQ0, RQ1, RQ2, RQ3, implies_true, forall_const, Nat.reduceMul, reduceIte, reduceCtorEq, Nat.reduceAdd, Nat.reduceEqDiff, Nat.reduceLT, Nat.reduceLeDiff, self_F1, self_F2])
        exact sub_beh ⟨by omega, by omega, by omega, by omega, by omega, by omega, by omega, by omega, by omega, by omega, by omega, by omega, by omega, h12, by omega, by omega, h13, by omega, by omega, h23, by omega, by omega, by omega⟩
      · simp only []; omega
      · exact ⟨by simp only []; omega, by simp only []; omega, by simp only []; omega, by simp only []; omega, by simp only []; omega, by simp only []; omega⟩
    | succ i =>
      obtain ⟨j1, j2, j3, j4, j5, j6⟩ := hib (by omega)
      simp only [c44inv]
      have eP : ((i + 1 : Nat) : Int) + 1 = ((i + 1 + 1 : Nat) : Int) := rfl
      have hmM : -1000000 ≤ (0 : Int) := by omega
      (repeat' (first | with_reducible refine splitVC_d (fun _ => ?_) (fun _ => ?_) | ((with_reducible refine And.intro ?_ ?_); focus (first | trivial | (simp only [InK]; omega) | omega | (simp only [InK, ne_eq, and_true, true_and]; omega))) | simp -dsimp only [↓RP, RQ0, RQ1, RQ2, RQ3, implies_true, forall_const, Nat.reduceMul, reduceIte, reduceCtorEq, Nat.reduceAdd, Nat.reduceEqDiff, Nat.reduceLT, Nat.reduceLeDiff, NB, NB2, I, TY, Int.toNat_natCast, self_F1, self_F2, Nat.add_zero, Nat.add_assoc, Go.Proofs.Try.results44]))
      all_goals first | (exfalso; clear h12 h13 h23 hib j1 j2 j3 j4 j5; omega) | skip
      refine callE (by rfl) (EffVC.sub (sub_swap3 (by omega) (by omega)) (e78 c bid mid h12 (((nid + 2), .cells 3 [.val (.int .i64 ((i + 1) : Nat))]) :: restB bid cb cl il (Lc n C) [(ib, rowB (i + 1) (fun j => behB c n C (j + 1)))]) 81 [.ptr cb 0, .ptr (nid + 2) 0, .ptr cl 0] (fun k => c.M ((i + 1) + 1 + k) - Lc n C k) 180 (by omega) top htop _ (((((Under.nil.cons (by omega)).cons (by omega)).cons (by omega)).cons (by omega)).cons (by omega)) (by omega) (by omega) (fun cid X hcid => beh_clo c ha.fine (Lc n C) hL bid mid h12 cb cl il (nid + 2) cid X [(ib, rowB (i + 1) (fun j => behB c n C (j + 1)))] ⟨by omega, by omega, by omega, by omega, Ne.symm h13, Ne.symm h23⟩ ⟨by omega, by omega⟩ ⟨by omega, by omega, by omega, by omega, by omega, by omega, by omega, by omega, by omega, by omega⟩ (i + 1) ((i + 1) + 1) (by omega) rfl) (fun k hk => ?_))) fun hp' nid1 res ⟨top', ht', r1, hn', r2⟩ => ?_
      · have := hM ((i + 1) + 1 + k); have := hL k (by omega); show -1000000 ≤ c.M ((i + 1) + 1 + k) - Lc n C k ∧ c.M ((i + 1) + 1 + k) - Lc n C k ≤ 1000000; omega
      subst r1 r2
      have eB : bestTo (fun k => c.M ((i + 1) + 1 + k) - Lc n C k) (180 + 1) = behB c n C ((i + 1) + 1) := rfl
      rw [eB]
      have NB1 := names3 (a := bid) (b := mid) (c := il) (n := nid1) h12 h13 h23 (by omega) (by omega) (by omega)
      have NB2 := names2 (a := cb) (b := cl) (n := nid1) (by omega) (by omega) (by omega)
      have NB3 := names2 (a := nid + 2) (b := ib) (n := nid1) (by omega) (by omega) (by omega)
      have NB4 : (ib = bid) = False ∧ (bid = ib) = False ∧ (ib = mid) = False ∧ (mid = ib) = False ∧ (ib = cb) = False ∧ (cb = ib) = False ∧ (ib = cl) = False ∧ (cl = ib) = False ∧ (ib = il) = False ∧ (il = ib) = False := ⟨by simp [j1], by simp [Ne.symm j1], by simp [j2], by simp [Ne.symm j2], by simp [j3], by simp [Ne.symm j3], by simp [j4], by simp [Ne.symm j4], by simp [j5], by simp [Ne.symm j5]⟩
      (repeat' (first | with_reducible refine splitVC_d (fun _ => ?_) (fun _ => ?_) | ((with_reducible refine And.intro ?_ ?_); focus (first | trivial | (simp only [InK]; omega) | omega | (simp only [InK, ne_eq, and_true, true_and]; omega))) | simp -dsimp only [↓RP, RQ0, RQ1, RQ2, RQ3, implies_true, forall_const, Nat.reduceMul, reduceIte, reduceCtorEq, Nat.reduceAdd, Nat.reduceEqDiff, Nat.reduceLT, Nat.reduceLeDiff, NB4, NB1, NB2, NB3, restB, I, by2, TY, Int.toNat_natCast, self_F1, self_F2, Nat.add_zero, Nat.add_assoc, Go.Proofs.Try.results44]))
      all_goals first | (exfalso; clear h12 h13 h23 hib j1 j2 j3 j4 j5; omega) | skip
      refine ⟨⟨.inr trivial, Nat.le_refl _, fun a b ha hb => by rw [lit1 _ a b ha hb]; rfl, by omega⟩, by (first | trivial | (simp only [InK]; omega) | omega | (simp only [InK, ne_eq, and_true, true_and]; omega)), ?_⟩
      refine ⟨(i + 2, top', _, nid1 + 4), ⟨by simp only []; omega, ht', ?_, fun _ => ?_⟩, by simp only []; omega, Weak.trans (weakR (id := nid1 + 4) (row' := fun j _ => .val (.int .i64 (behB c n C (j + 1)))) (blk_head _ _ _) ?_) (weakS ?_ ?_)⟩
      rotate_left 2
      · intro a j ha hj
        have j0 : j = 0 := by omega
        subst j0
        by_cases e : a < i + 1
        · rw [if_pos e]
        · rw [if_neg e]
          have : a = i + 1 := by omega
          subst this
          rw [Nat.sub_self]; rfl
      · simp [SubFr, Go.Sx.look]
      · (simp -dsimp only [↓RP, RQ0, RQ1, RQ2, RQ3, implies_true, forall_const, Nat.reduceMul, reduceIte, reduceCtorEq, Nat.reduceAdd, Nat.reduceEqDiff, Nat.reduceLT, Nat.reduceLeDiff, self_F1, self_F2])
        exact sub_beh ⟨by omega, by omega, by omega, by omega, by omega, by omega, by omega, by omega, by omega, by omega, by omega, by omega, by omega, h12, by omega, by omega, h13, by omega, by omega, h23, by omega, by omega, by omega⟩
      · simp only []; omega
      · exact ⟨by simp only []; omega, by simp only []; omega, by simp only []; omega, by simp only []; omega, by simp only []; omega, by simp only []; omega⟩
  · have hie : i = c.m := by omega
    cases i with
    | zero => omega
    | succ i =>
      obtain ⟨j1, j2, j3, j4, j5, j6⟩ := hib (by omega)
      simp only [c44inv]
      rw [← hie]
      (repeat' (first | with_reducible refine splitVC_d (fun _ => ?_) (fun _ => ?_) | ((with_reducible refine And.intro ?_ ?_); focus (first | trivial | (simp only [InK]; omega) | omega | (simp only [InK, ne_eq, and_true, true_and]; omega))) | simp -dsimp only [↓RP, RQ0, RQ1, RQ2, RQ3, implies_true, forall_const, Nat.reduceMul, reduceIte, reduceCtorEq, Nat.reduceAdd, Nat.reduceEqDiff, Nat.reduceLT, Nat.reduceLeDiff, NB, NB2, I, TY, Int.toNat_natCast, self_F1, self_F2, Nat.add_zero, Nat.add_assoc, Go.Proofs.Try.results44]))
      all_goals first | (exfalso; clear h12 h13 h23 hib j1 j2 j3 j4 j5; omega) | skip
      refine ⟨ib, rowB (i + 1) (fun j => behB c n C (j + 1)), ?_, ?_, ?_⟩
      · simp only [blk]
        rw [if_neg j1, if_neg j2, if_neg j4, if_neg j3, if_neg j5, if_pos trivial]
      · (simp -dsimp only [↓RP, RQ0, RQ1, RQ2, RQ3, implies_true, forall_const, Nat.reduceMul, reduceIte, reduceCtorEq, Nat.reduceAdd, Nat.reduceEqDiff, Nat.reduceLT, Nat.reduceLeDiff]); all_goals (try simp)
      · (simp -dsimp only [↓RP, RQ0, RQ1, RQ2, RQ3, implies_true, forall_const, Nat.reduceMul, reduceIte, reduceCtorEq, Nat.reduceAdd, Nat.reduceEqDiff, Nat.reduceLT, Nat.reduceLeDiff])
end Go.Lg
end
