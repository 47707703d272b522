/- A part of the proof. -/
import Derived.Test.YtnpannhbeapidaaProg
import Derived.Test.YtnpannhbeapidaaED
import Derived.Test.YtnpannhbeapidaaEE
section
set_option linter.unusedSimpArgs false
set_option linter.unusedVariables false
namespace Go.Lg
open Go.Sx
def foldMin (f : Nat → Int) : Nat → Int
  | 0 => f 0
  | k + 1 => min (foldMin f k) (f (k + 1))
theorem foldMin_le (f : Nat → Int) : ∀ m k, k ≤ m → foldMin f m ≤ f k
  | 0, k, h => by have : k = 0 := by omega
                  subst this; exact Int.le_refl _
  | m + 1, k, h => by
    simp only [foldMin]
    by_cases e : k = m + 1
    · subst e; omega
    · have := foldMin_le f m k (by omega); omega
theorem foldMin_at (f : Nat → Int) : ∀ m, ∃ k, k ≤ m ∧ foldMin f m = f k
  | 0 => ⟨0, Nat.le_refl _, rfl⟩
  | m + 1 => by
    obtain ⟨k, hk, e⟩ := foldMin_at f m
    simp only [foldMin]
    by_cases h : f (m + 1) ≤ foldMin f m
    · exact ⟨m + 1, Nat.le_refl _, by omega⟩
    · exact ⟨k, by omega, by omega⟩
theorem le_foldMin (f : Nat → Int) (m : Nat) (c : Int) (h : ∀ k, k ≤ m → c ≤ f k) : c ≤ foldMin f m := by
  obtain ⟨k, hk, e⟩ := foldMin_at f m
  rw [e]; exact h k hk
theorem foldMin_congr (f g : Nat → Int) : ∀ m, (∀ k, k ≤ m → f k = g k) → foldMin f m = foldMin g m
  | 0, h => h 0 (Nat.le_refl _)
  | m + 1, h => by
    simp only [foldMin]
    rw [foldMin_congr f g m (fun k hk => h k (by omega)), h (m + 1) (Nat.le_refl _)]
structure Curve where
  m : Nat
  u : Nat → Int
structure Curve.Fine (c : Curve) : Prop where
  m1 : 1 ≤ c.m
  m6 : c.m ≤ 6
  rg : ∀ i, i < c.m → 0 ≤ c.u i ∧ c.u i ≤ 100
  up : ∀ i, i < c.m - 1 → c.u i ≤ c.u (i + 1)
def Curve.err (c : Curve) : Int :=
  if c.m < 1 ∨ 6 < c.m then 6 else if ∀ i, i < c.m → 0 ≤ c.u i ∧ c.u i ≤ 100 then (if ∀ i, i < c.m - 1 → c.u i ≤ c.u (i + 1) then 0 else 16) else 3
theorem Curve.fine {c : Curve} (h : c.err = 0) : c.Fine := by
  unfold Curve.err at h
  split at h
  · omega
  · split at h
    · split at h
      · rename_i h1 h2 h3
        exact ⟨by omega, by omega, h2, h3⟩
      · omega
    · omega
theorem Curve.err_fine {c : Curve} (h : c.Fine) : c.err = 0 := by
  have h1 := h.m1
  have h2 := h.m6
  unfold Curve.err
  rw [if_neg (by omega), if_pos h.rg, if_pos h.up]
theorem Curve.Fine.mono {c : Curve} (h : c.Fine) : ∀ j i, i ≤ j → j < c.m → c.u i ≤ c.u j
  | 0, i, hi, _ => by have : i = 0 := by omega
                      subst this; exact Int.le_refl _
  | j + 1, i, hi, hj => by
    by_cases e : i = j + 1
    · subst e; exact Int.le_refl _
    · exact Int.le_trans (h.mono j i (by omega) (by omega)) (h.up j (by omega))
def Curve.tab (c : Curve) : Nat → Nat → Int
  | 0 => fun _ => 0
  | k + 1 => fun j => if j = k + 1 then foldMin (fun p => c.tab k (k - p) + c.u p) (min c.m (k + 1) - 1) else c.tab k j
def Curve.M (c : Curve) (k : Nat) : Int := c.tab k k
theorem tab_lo (c : Curve) : ∀ k j, j ≤ k → c.tab k j = c.M j
  | 0, j, h => by have : j = 0 := by omega
                  subst this; rfl
  | k + 1, j, h => by
    by_cases e : j = k + 1
    · subst e; rfl
    · have := tab_lo c k j (by omega)
      rw [← this]
      show (if j = k + 1 then _ else c.tab k j) = c.tab k j
      rw [if_neg e]
theorem M_zero (c : Curve) : c.M 0 = 0 := rfl
theorem M_succ (c : Curve) (k : Nat) : c.M (k + 1) = foldMin (fun p => c.M (k - p) + c.u p) (min c.m (k + 1) - 1) := by
  show (if k + 1 = k + 1 then foldMin (fun p => c.tab k (k - p) + c.u p) (min c.m (k + 1) - 1) else c.tab k (k + 1)) = _
  rw [if_pos rfl]
  exact foldMin_congr _ _ _ fun p _ => by rw [tab_lo c k (k - p) (by omega)]
section
variable {c : Curve} (h : c.Fine)
include h
omit h in
theorem M_le (k p : Nat) (hp : p < c.m) (hk : p ≤ k) : c.M (k + 1) ≤ c.M (k - p) + c.u p := by
  rw [M_succ]
  exact foldMin_le (fun p => c.M (k - p) + c.u p) _ p (by omega)
theorem M_at (k : Nat) : ∃ p, p < c.m ∧ p ≤ k ∧ c.M (k + 1) = c.M (k - p) + c.u p := by
  obtain ⟨p, hp, e⟩ := foldMin_at (fun p => c.M (k - p) + c.u p) (min c.m (k + 1) - 1)
  have := h.m1
  exact ⟨p, by omega, by omega, by rw [M_succ, e]⟩
theorem M_bound : ∀ k, 0 ≤ c.M k ∧ c.M k ≤ 100 * k := by
  intro k
  induction k using Nat.strongRecOn with
  | _ k ih =>
    cases k with
    | zero => rw [M_zero]; omega
    | succ k =>
      obtain ⟨p, h1, h2, e⟩ := M_at h k
      have i1 := ih (k - p) (by omega)
      have i2 := h.rg p h1
      rw [e]
      omega
theorem M_mono1 (k : Nat) : c.M k ≤ c.M (k + 1) := by
  obtain ⟨p, h1, h2, e⟩ := M_at h k
  rw [e]
  by_cases hp : p = 0
  · subst hp
    have := (h.rg 0 h1).1
    rw [Nat.sub_zero]
    omega
  · obtain ⟨k', rfl⟩ : ∃ k', k = k' + 1 := ⟨k - 1, by omega⟩
    have i1 := M_le (c := c) k' (p - 1) (by omega) (by omega)
    have i2 := h.up (p - 1) (by omega)
    rw [show p - 1 + 1 = p by omega] at i2
    rw [show k' + 1 - p = k' - (p - 1) by omega]
    omega
theorem M_mono : ∀ j i, i ≤ j → c.M i ≤ c.M j
  | 0, i, hi => by have : i = 0 := by omega
                   subst this; exact Int.le_refl _
  | j + 1, i, hi => by
    by_cases e : i = j + 1
    · subst e; exact Int.le_refl _
    · exact Int.le_trans (M_mono j i (by omega)) (M_mono1 h j)
theorem M_sub (a : Nat) : ∀ b, c.M (a + b) ≤ c.M a + c.M b := by
  intro b
  induction b using Nat.strongRecOn with
  | _ b ih =>
    cases b with
    | zero => rw [M_zero]; simp
    | succ b =>
      obtain ⟨p, h1, h2, e⟩ := M_at h b
      have i1 := ih (b - p) (by omega)
      have i2 := M_le (c := c) (a + b) p h1 (by omega)
      rw [show a + b - p = a + (b - p) by omega] at i2
      rw [show a + (b + 1) = a + b + 1 by omega, e]
      omega
end
def Curve.L1 (c : Curve) (k : Nat) : Int := ((k / c.m : Nat) : Int) * c.u (c.m - 1) + (if 0 < k % c.m then c.u (k % c.m - 1) else 0)
theorem L1_zero (c : Curve) : c.L1 0 = 0 := by unfold Curve.L1; simp
def Ls (C : Nat → Curve) : Nat → Nat → Int
  | 0 => (C 0).L1
  | i + 1 => fun k => foldMin (fun p => Ls C i (k - p) + (C (i + 1)).L1 p) k
end Go.Lg
end
section
set_option linter.unusedSimpArgs false
set_option linter.unusedVariables false
namespace Go.Lg
open Go.Sx
theorem L1_eq (c : Curve) (q r : Nat) (hr : r < c.m) : c.L1 (c.m * q + r) = q * c.u (c.m - 1) + (if 0 < r then c.u (r - 1) else 0) := by
  unfold Curve.L1
  rw [Nat.mul_add_div (by omega), Nat.div_eq_of_lt hr, Nat.mul_add_mod, Nat.mod_eq_of_lt hr, Nat.add_zero]
theorem split_k (c : Curve) (h : c.Fine) (k : Nat) : ∃ q r, r < c.m ∧ k = c.m * q + r :=
  ⟨k / c.m, k % c.m, Nat.mod_lt _ h.m1, (Nat.div_add_mod k c.m).symm⟩
theorem L1_nonneg (c : Curve) (h : c.Fine) (k : Nat) : 0 ≤ c.L1 k := by
  obtain ⟨q, r, hr, rfl⟩ := split_k c h k
  rw [L1_eq c q r hr]
  have h1 := h.m1
  have h2 := (h.rg (c.m - 1) (by omega)).1
  have h3 : 0 ≤ (q : Int) * c.u (c.m - 1) := Int.mul_nonneg (by omega) h2
  split
  · have := (h.rg (r - 1) (by omega)).1; omega
  · omega
theorem L1_mono1 (c : Curve) (h : c.Fine) (k : Nat) : c.L1 k ≤ c.L1 (k + 1) := by
  obtain ⟨q, r, hr, rfl⟩ := split_k c h k
  have h1 := h.m1
  rw [L1_eq c q r hr]
  by_cases e : r + 1 < c.m
  · rw [show c.m * q + r + 1 = c.m * q + (r + 1) by omega, L1_eq c q (r + 1) e, if_pos (show 0 < r + 1 by omega), Nat.add_sub_cancel]
    split
    · have := h.mono r (r - 1) (by omega) (by omega); omega
    · have := (h.rg r (by omega)).1; omega
  · have e2 : c.m * q + r + 1 = c.m * (q + 1) + 0 := by rw [Nat.mul_add]; omega
    rw [e2, L1_eq c (q + 1) 0 h1, if_neg (Nat.lt_irrefl 0)]
    have e3 : ((q + 1 : Nat) : Int) * c.u (c.m - 1) = (q : Int) * c.u (c.m - 1) + c.u (c.m - 1) := by
      rw [show ((q + 1 : Nat) : Int) = (q : Int) + 1 by omega, Int.add_mul, Int.one_mul]
    rw [e3]
    split
    · have := h.mono (c.m - 1) (r - 1) (by omega) (by omega); omega
    · have := (h.rg (c.m - 1) (by omega)).1; omega
theorem mono_of {f : Nat → Int} (h : ∀ k, f k ≤ f (k + 1)) : ∀ j i, i ≤ j → f i ≤ f j
  | 0, i, hi => by have : i = 0 := by omega
                   subst this; exact Int.le_refl _
  | j + 1, i, hi => by
    by_cases e : i = j + 1
    · subst e; exact Int.le_refl _
    · exact Int.le_trans (mono_of h j i (by omega)) (h j)
theorem Ls_zero (C : Nat → Curve) : ∀ i, Ls C i 0 = 0
  | 0 => L1_zero _
  | i + 1 => by
    show foldMin (fun p => Ls C i (0 - p) + (C (i + 1)).L1 p) 0 = 0
    show Ls C i (0 - 0) + (C (i + 1)).L1 0 = 0
    rw [Nat.sub_zero, Ls_zero C i, L1_zero]; rfl
theorem Ls_le (C : Nat → Curve) (i k p : Nat) (hp : p ≤ k) : Ls C (i + 1) k ≤ Ls C i (k - p) + (C (i + 1)).L1 p :=
  foldMin_le (fun p => Ls C i (k - p) + (C (i + 1)).L1 p) k p hp
theorem Ls_at (C : Nat → Curve) (i k : Nat) : ∃ p, p ≤ k ∧ Ls C (i + 1) k = Ls C i (k - p) + (C (i + 1)).L1 p :=
  foldMin_at (fun p => Ls C i (k - p) + (C (i + 1)).L1 p) k
theorem Ls_nonneg (C : Nat → Curve) : ∀ i, (∀ j, j ≤ i → (C j).Fine) → ∀ k, 0 ≤ Ls C i k
  | 0, h, k => L1_nonneg _ (h 0 (by omega)) k
  | i + 1, h, k => by
    obtain ⟨p, hp, e⟩ := Ls_at C i k
    have h1 := Ls_nonneg C i (fun j hj => h j (by omega)) (k - p)
    have h2 := L1_nonneg _ (h (i + 1) (by omega)) p
    omega
theorem Ls_mono1 (C : Nat → Curve) : ∀ i, (∀ j, j ≤ i → (C j).Fine) → ∀ k, Ls C i k ≤ Ls C i (k + 1)
  | 0, h, k => L1_mono1 _ (h 0 (by omega)) k
  | i + 1, h, k => by
    obtain ⟨p, hp, e⟩ := Ls_at C i (k + 1)
    rw [e]
    by_cases hk : p ≤ k
    · have h1 := Ls_le C i k p hk
      have h2 := Ls_mono1 C i (fun j hj => h j (by omega)) (k - p)
      rw [show k - p + 1 = k + 1 - p by omega] at h2
      omega
    · have hpk : p = k + 1 := by omega
      subst hpk
      have h1 := Ls_le C i k k (Nat.le_refl _)
      have h2 := L1_mono1 _ (h (i + 1) (by omega)) k
      rw [Nat.sub_self] at h1
      rw [Nat.sub_self]
      omega
end Go.Lg
end
section
set_option linter.unusedSimpArgs false
set_option linter.unusedVariables false
set_option maxRecDepth 100000
set_option maxHeartbeats 4000000
namespace Go.Lg
open Go.Sx
theorem follows : Go.Proofs.Try.prog.follows .mixedOrders = true := by kernel_rfl
theorem ty2 : tyOf Go.Proofs.Try.prog 2 = some ⟨false, 1, some [.int .i64 0], .int .i64⟩ := by kernel_rfl
theorem ty3 : tyOf Go.Proofs.Try.prog 3 = some ⟨false, 1, some [.int .i64 0], .int .i64⟩ := by kernel_rfl
theorem ty4 : tyOf Go.Proofs.Try.prog 4 = some ⟨false, 1, some [.bool false], .bool⟩ := by kernel_rfl
theorem ty5 : tyOf Go.Proofs.Try.prog 5 = some ⟨false, 1, some [.int .u8 0], .int .u8⟩ := by kernel_rfl
theorem ty22 : tyOf Go.Proofs.Try.prog 22 = some ⟨false, 1, some [.slice none 0 0], .slice 2 1⟩ := by kernel_rfl
def I (n : Int) : SV := .val (.int .i64 n)
def B (b : Bool) : SV := .val (.bool b)
def ints (n : Nat) (u : Nat → Int) : SV := .arr false false n 1 (fun i _ => .val (.int .i64 (u i)))
theorem I_eq {a b : Int} (h : a = b) : SV.val (Value.int IntKind.i64 a) = SV.val (Value.int IntKind.i64 b) := by rw [h]
theorem B_eq {a b : Bool} (h : a = b) : SV.val (Value.bool a) = SV.val (Value.bool b) := by rw [h]
def fstI (b : Nat → Bool) (i : Nat) : Nat → Int
  | 0 => -1
  | k + 1 => if b i = true then i else fstI b (i + 1) k
theorem fstI_lt (b : Nat → Bool) : ∀ (k i : Nat), fstI b i k < 0 ↔ ∀ j, i ≤ j → j < i + k → b j = false
  | 0, i => by simp [fstI]; intro j h1 h2; omega
  | k + 1, i => by
    simp only [fstI]
    split
    · rename_i h
      constructor
      · intro h'; omega
      · intro h'; have := h' i (by omega) (by omega); rw [h] at this; cases this
    · rename_i h
      rw [fstI_lt b k (i + 1)]
      constructor
      · intro h' j h1 h2
        by_cases e : j = i
        · subst e; simpa using h
        · exact h' j (by omega) (by omega)
      · intro h' j h1 h2; exact h' j (by omega) (by omega)
def cap2 (lo hi : Int) : SV := .fn (.func 85) [] [.ref false 1 (fun _ => I lo), .ref false 1 (fun _ => I hi)]
theorem c85 (n lo hi : Int) : Contract Go.Proofs.Try.prog 85 [I n, .ref false 1 (fun _ => I lo), .ref false 1 (fun _ => I hi)] (B (decide (n < lo) || decide (hi < n))) := by
  refine contract_of Go.Proofs.Try.func85 rfl (by kernel_rfl) follows (by kernel_rfl) _ _ (by rw [Go.Proofs.Try.ntmps85]; simp) (by simp [OldL, Old, I]) ?_
  unfold I B
  (repeat' (first | with_reducible refine splitVC_d (fun _ => ?_) (fun _ => ?_) | ((with_reducible refine And.intro ?_ ?_); focus (first | trivial | (simp only [InK]; omega) | omega | (simp only [InK, ne_eq, and_true, true_and]; omega))) | simp -dsimp only [↓RP, RQ0, RQ1, RQ2, RQ3, implies_true, forall_const, Nat.reduceMul, reduceIte, reduceCtorEq, Nat.reduceAdd, Nat.reduceEqDiff, Nat.reduceLT, Nat.reduceLeDiff, ty2, ty4, Go.Proofs.Try.results85]))
  all_goals (refine B_eq ?_; rw [Bool.eq_iff_iff]; simp; omega)
theorem c97 (m : Nat) (u : Nat → Int) (lo hi' : Int) (hm : m ≤ 1000000) : Contract Go.Proofs.Try.prog 97 [ints m u, cap2 lo hi'] (I (fstI (fun i => decide (u i < lo) || decide (hi' < u i)) 0 m)) := by
  refine contract_of Go.Proofs.Try.func97 rfl (by kernel_rfl) follows (by kernel_rfl) _ _ (by rw [Go.Proofs.Try.ntmps97]; simp) (by simp [OldL, Old, ints, cap2, I]) ?_
  unfold ints cap2 I
  (simp -dsimp only [↓RP, RQ0, RQ1, RQ2, RQ3, implies_true, forall_const, Nat.reduceMul, reduceIte, reduceCtorEq, Nat.reduceAdd, Nat.reduceEqDiff, Nat.reduceLT, Nat.reduceLeDiff, ty2, ty22, Go.Proofs.Try.results97])
  refine loop_vc (fun i => i ≤ m ∧ fstI (fun i => decide (u i < lo) || decide (hi' < u i)) 0 m = fstI (fun i => decide (u i < lo) || decide (hi' < u i)) i (m - i)) (fun i => ⟨[(0, .arr false false m 1 (fun i _ => .val (.int .i64 (u i)))), (1, .fn (.func 85) [] [.ref false 1 (fun _ => .val (.int .i64 lo)), .ref false 1 (fun _ => .val (.int .i64 hi'))]), (7, .val (.int .i64 m)), (8, .val (.int .i64 i))], [], 0⟩) (fun i => m - i) 0 ⟨Nat.zero_le _, rfl⟩ (weak [] [] ?_ ?_ ?_) fun i hi => ?_
  · (simp -dsimp only [↓RP, RQ0, RQ1, RQ2, RQ3, implies_true, forall_const, Nat.reduceMul, reduceIte, reduceCtorEq, Nat.reduceAdd, Nat.reduceEqDiff, Nat.reduceLT, Nat.reduceLeDiff]); simp
  · (simp -dsimp only [↓RP, RQ0, RQ1, RQ2, RQ3, implies_true, forall_const, Nat.reduceMul, reduceIte, reduceCtorEq, Nat.reduceAdd, Nat.reduceEqDiff, Nat.reduceLT, Nat.reduceLeDiff])
  · (simp -dsimp only [↓RP, RQ0, RQ1, RQ2, RQ3, implies_true, forall_const, Nat.reduceMul, reduceIte, reduceCtorEq, Nat.reduceAdd, Nat.reduceEqDiff, Nat.reduceLT, Nat.reduceLeDiff])
  obtain ⟨hi, he⟩ := hi
  have e1 : ∀ k, m - i = k + 1 → fstI (fun i => decide (u i < lo) || decide (hi' < u i)) i (m - i) = if (decide (u i < lo) || decide (hi' < u i)) = true then (i : Int) else fstI (fun i => decide (u i < lo) || decide (hi' < u i)) (i + 1) k := fun k hk => by rw [hk]; rfl
  (repeat' (first | with_reducible refine splitVC_d (fun _ => ?_) (fun _ => ?_) | ((with_reducible refine And.intro ?_ ?_); focus (first | trivial | (simp only [InK]; omega) | omega | (simp only [InK, ne_eq, and_true, true_and]; omega))) | simp -dsimp only [↓RP, RQ0, RQ1, RQ2, RQ3, implies_true, forall_const, Nat.reduceMul, reduceIte, reduceCtorEq, Nat.reduceAdd, Nat.reduceEqDiff, Nat.reduceLT, Nat.reduceLeDiff, ty2, ty22, Go.Proofs.Try.results97]))
  · rename_i hlt
    have e2 := e1 (m - (i + 1)) (by omega)
    refine callVC (c85 (u i) lo hi') (by (simp -dsimp only [↓RP, RQ0, RQ1, RQ2, RQ3, implies_true, forall_const, Nat.reduceMul, reduceIte, reduceCtorEq, Nat.reduceAdd, Nat.reduceEqDiff, Nat.reduceLT, Nat.reduceLeDiff, I]); simp) (by (simp -dsimp only [↓RP, RQ0, RQ1, RQ2, RQ3, implies_true, forall_const, Nat.reduceMul, reduceIte, reduceCtorEq, Nat.reduceAdd, Nat.reduceEqDiff, Nat.reduceLT, Nat.reduceLeDiff, B])) ?_
    (repeat' (first | with_reducible refine splitVC_d (fun _ => ?_) (fun _ => ?_) | ((with_reducible refine And.intro ?_ ?_); focus (first | trivial | (simp only [InK]; omega) | omega | (simp only [InK, ne_eq, and_true, true_and]; omega))) | simp -dsimp only [↓RP, RQ0, RQ1, RQ2, RQ3, implies_true, forall_const, Nat.reduceMul, reduceIte, reduceCtorEq, Nat.reduceAdd, Nat.reduceEqDiff, Nat.reduceLT, Nat.reduceLeDiff, B, ty2, ty22, Go.Proofs.Try.results97]))
    · rename_i h
      refine I_eq ?_
      rw [he, e2, if_pos (by simp [h])]
    · rename_i h1 h2
      refine I_eq ?_
      rw [he, e2, if_pos (by simp [h2])]
    · rename_i h1 h2
      refine ⟨i + 1, ⟨by omega, ?_⟩, by omega, weak [] [] ?_ ?_ ?_⟩
      · rw [he, e2, if_neg (by simp; omega)]
      · (simp -dsimp only [↓RP, RQ0, RQ1, RQ2, RQ3, implies_true, forall_const, Nat.reduceMul, reduceIte, reduceCtorEq, Nat.reduceAdd, Nat.reduceEqDiff, Nat.reduceLT, Nat.reduceLeDiff]); simp
      · (simp -dsimp only [↓RP, RQ0, RQ1, RQ2, RQ3, implies_true, forall_const, Nat.reduceMul, reduceIte, reduceCtorEq, Nat.reduceAdd, Nat.reduceEqDiff, Nat.reduceLT, Nat.reduceLeDiff])
      · (simp -dsimp only [↓RP, RQ0, RQ1, RQ2, RQ3, implies_true, forall_const, Nat.reduceMul, reduceIte, reduceCtorEq, Nat.reduceAdd, Nat.reduceEqDiff, Nat.reduceLT, Nat.reduceLeDiff])
  · rename_i hlt
    refine I_eq ?_
    have : m - i = 0 := by omega
    rw [he, this]; rfl
def allIn (u : Nat → Int) (m : Nat) (lo hi : Int) : Prop := ∀ i, i < m → lo ≤ u i ∧ u i ≤ hi
instance (u : Nat → Int) (m : Nat) (lo hi : Int) : Decidable (allIn u m lo hi) := by unfold allIn; infer_instance
theorem allIn_iff (u : Nat → Int) (m : Nat) (lo hi : Int) : fstI (fun i => decide (u i < lo) || decide (hi < u i)) 0 m < 0 ↔ allIn u m lo hi := by
  rw [fstI_lt]
  constructor
  · intro h i hi'
    have := h i (by omega) (by omega)
    simp at this; omega
  · intro h j _ hj
    have := h j (by omega)
    simp; omega
theorem c84 (m : Nat) (u : Nat → Int) (lo hi : Int) (hm : m ≤ 1000000) : Contract Go.Proofs.Try.prog 84 [ints m u, cap2 lo hi] (B (!decide (allIn u m lo hi))) := by
  refine contract_of Go.Proofs.Try.func84 rfl (by kernel_rfl) follows (by kernel_rfl) _ _ (by rw [Go.Proofs.Try.ntmps84]; simp) (by simp [OldL, Old, ints, cap2, I]) ?_
  unfold ints cap2 I B
  (simp -dsimp only [↓RP, RQ0, RQ1, RQ2, RQ3, implies_true, forall_const, Nat.reduceMul, reduceIte, reduceCtorEq, Nat.reduceAdd, Nat.reduceEqDiff, Nat.reduceLT, Nat.reduceLeDiff, ty2, ty22, Go.Proofs.Try.results84])
  refine callVC (c97 m u lo hi hm) (by (simp -dsimp only [↓RP, RQ0, RQ1, RQ2, RQ3, implies_true, forall_const, Nat.reduceMul, reduceIte, reduceCtorEq, Nat.reduceAdd, Nat.reduceEqDiff, Nat.reduceLT, Nat.reduceLeDiff, ints, cap2, I]); simp) (by (simp -dsimp only [↓RP, RQ0, RQ1, RQ2, RQ3, implies_true, forall_const, Nat.reduceMul, reduceIte, reduceCtorEq, Nat.reduceAdd, Nat.reduceEqDiff, Nat.reduceLT, Nat.reduceLeDiff, I])) ?_
  (repeat' (first | with_reducible refine splitVC_d (fun _ => ?_) (fun _ => ?_) | ((with_reducible refine And.intro ?_ ?_); focus (first | trivial | (simp only [InK]; omega) | omega | (simp only [InK, ne_eq, and_true, true_and]; omega))) | simp -dsimp only [↓RP, RQ0, RQ1, RQ2, RQ3, implies_true, forall_const, Nat.reduceMul, reduceIte, reduceCtorEq, Nat.reduceAdd, Nat.reduceEqDiff, Nat.reduceLT, Nat.reduceLeDiff, I, ty2, ty22, Go.Proofs.Try.results84]))
  refine B_eq ?_
  rw [Bool.eq_iff_iff]; simp [← allIn_iff]
theorem c62 (m : Nat) (u : Nat → Int) (lo hi : Int) (hm : m ≤ 1000000) : Contract Go.Proofs.Try.prog 62 [I lo, I hi, ints m u] (B (decide (allIn u m lo hi))) := by
  refine contract_of Go.Proofs.Try.func62 rfl (by kernel_rfl) follows (by kernel_rfl) _ _ (by rw [Go.Proofs.Try.ntmps62]; simp) (by simp [OldL, Old, ints, I]) ?_
  unfold ints I B
  (simp -dsimp only [↓RP, RQ0, RQ1, RQ2, RQ3, implies_true, forall_const, Nat.reduceMul, reduceIte, reduceCtorEq, Nat.reduceAdd, Nat.reduceEqDiff, Nat.reduceLT, Nat.reduceLeDiff, ty2, ty22, Go.Proofs.Try.results62])
  refine callVC (c84 m u lo hi hm) (by (simp -dsimp only [↓RP, RQ0, RQ1, RQ2, RQ3, implies_true, forall_const, Nat.reduceMul, reduceIte, reduceCtorEq, Nat.reduceAdd, Nat.reduceEqDiff, Nat.reduceLT, Nat.reduceLeDiff, ints, cap2, I]); simp) (by (simp -dsimp only [↓RP, RQ0, RQ1, RQ2, RQ3, implies_true, forall_const, Nat.reduceMul, reduceIte, reduceCtorEq, Nat.reduceAdd, Nat.reduceEqDiff, Nat.reduceLT, Nat.reduceLeDiff, B])) ?_
  (repeat' (first | with_reducible refine splitVC_d (fun _ => ?_) (fun _ => ?_) | ((with_reducible refine And.intro ?_ ?_); focus (first | trivial | (simp only [InK]; omega) | omega | (simp only [InK, ne_eq, and_true, true_and]; omega))) | simp -dsimp only [↓RP, RQ0, RQ1, RQ2, RQ3, implies_true, forall_const, Nat.reduceMul, reduceIte, reduceCtorEq, Nat.reduceAdd, Nat.reduceEqDiff, Nat.reduceLT, Nat.reduceLeDiff, B, ty2, ty22, Go.Proofs.Try.results62]))
  simp
theorem c62_1 (x lo hi : Int) : Contract Go.Proofs.Try.prog 62 [I lo, I hi, ints 1 (fun _ => x)] (B (decide (lo ≤ x ∧ x ≤ hi))) := by
  have := c62 1 (fun _ => x) lo hi (by omega)
  have e : allIn (fun _ => x) 1 lo hi ↔ (lo ≤ x ∧ x ≤ hi) := ⟨fun h => h 0 (by omega), fun h i _ => h⟩
  simpa [e] using this
theorem c62_2 (x y lo hi : Int) : Contract Go.Proofs.Try.prog 62 [I lo, I hi, ints 2 (fun i => if i = 0 then x else y)] (B (decide ((lo ≤ x ∧ x ≤ hi) ∧ (lo ≤ y ∧ y ≤ hi)))) := by
  have := c62 2 (fun i => if i = 0 then x else y) lo hi (by omega)
  have e : allIn (fun i => if i = 0 then x else y) 2 lo hi ↔ ((lo ≤ x ∧ x ≤ hi) ∧ (lo ≤ y ∧ y ≤ hi)) := ⟨fun h => ⟨by have := h 0 (by omega); simpa using this, by have := h 1 (by omega); simpa using this⟩, fun h i hi => by
    by_cases e : i = 0
    · subst e; simpa using h.1
    · simpa [e] using h.2⟩
  simpa [e] using this
theorem lit2 (x y : Int) : ∀ (i : Nat), i < 2 → [SV.val (.int .i64 x), SV.val (.int .i64 y)][i]?.getD SV.top = SV.val (.int .i64 (if i = 0 then x else y))
  | 0, _ => rfl
  | 1, _ => rfl
end Go.Lg
end
section
set_option linter.unusedSimpArgs false
set_option linter.unusedVariables false
set_option maxRecDepth 100000
set_option maxHeartbeats 4000000
namespace Go.Lg
open Go.Sx
theorem ty27 : tyOf Go.Proofs.Try.prog 27 = some ⟨false, 1, some [.int .i64 0], .int .i64⟩ := by kernel_rfl
def Curve.sv (c : Curve) : SV := ints c.m c.u
theorem Curve.old (c : Curve) : Old c.sv := by simp [Old, Curve.sv, ints]
theorem tdN (k m : Nat) : (k : Int).tdiv (m : Int) = ((k / m : Nat) : Int) := rfl
theorem tmN (k m : Nat) : (k : Int).tmod (m : Int) = ((k % m : Nat) : Int) := rfl
theorem c27 (c : Curve) : Contract Go.Proofs.Try.prog 27 [c.sv] (I c.err) := by
  refine contract_of Go.Proofs.Try.func27 rfl (by kernel_rfl) follows (by kernel_rfl) _ _ (by rw [Go.Proofs.Try.ntmps27]; simp) (by simp [OldL, c.old]) ?_
  unfold I
  conv => arg 4; unfold Curve.sv ints
  (repeat' (first | with_reducible refine splitVC_d (fun _ => ?_) (fun _ => ?_) | ((with_reducible refine And.intro ?_ ?_); focus (first | trivial | (simp only [InK]; omega) | omega | (simp only [InK, ne_eq, and_true, true_and]; omega))) | simp -dsimp only [↓RP, RQ0, RQ1, RQ2, RQ3, implies_true, forall_const, Nat.reduceMul, reduceIte, reduceCtorEq, Nat.reduceAdd, Nat.reduceEqDiff, Nat.reduceLT, Nat.reduceLeDiff, ty2, ty3, ty4, ty22, ty27, Go.Proofs.Try.results27]))
  all_goals first | (refine I_eq ?_; unfold Curve.err; rw [if_pos (by omega)]; done) | skip
  rename_i hm1 hm2
  refine loop_vc (fun i => i ≤ c.m ∧ ∀ j, j < i → 0 ≤ c.u j ∧ c.u j ≤ 100) (fun i => ⟨[(0, .arr false false c.m 1 (fun i _ => .val (.int .i64 (c.u i)))), (3, .val (.int .i64 i))], [], 0⟩) (fun i => c.m - i) 0 ⟨Nat.zero_le _, fun j hj => by omega⟩ (weak [] [] ?_ ?_ ?_) fun i hi => ?_
  · (simp -dsimp only [↓RP, RQ0, RQ1, RQ2, RQ3, implies_true, forall_const, Nat.reduceMul, reduceIte, reduceCtorEq, Nat.reduceAdd, Nat.reduceEqDiff, Nat.reduceLT, Nat.reduceLeDiff]); all_goals simp
  · (simp -dsimp only [↓RP, RQ0, RQ1, RQ2, RQ3, implies_true, forall_const, Nat.reduceMul, reduceIte, reduceCtorEq, Nat.reduceAdd, Nat.reduceEqDiff, Nat.reduceLT, Nat.reduceLeDiff])
  · (simp -dsimp only [↓RP, RQ0, RQ1, RQ2, RQ3, implies_true, forall_const, Nat.reduceMul, reduceIte, reduceCtorEq, Nat.reduceAdd, Nat.reduceEqDiff, Nat.reduceLT, Nat.reduceLeDiff])
  obtain ⟨hi, hj⟩ := hi
  have bad : ∀ i, i < c.m → (c.u i < 0 ∨ 100 < c.u i) → c.err = 3 := fun i h1 h2 => by
    unfold Curve.err
    rw [if_neg (by omega), if_neg (fun h => by have := h i h1; omega)]
  by_cases hlt : i < c.m
  · (repeat' (first | with_reducible refine splitVC_d (fun _ => ?_) (fun _ => ?_) | ((with_reducible refine And.intro ?_ ?_); focus (first | trivial | (simp only [InK]; omega) | omega | (simp only [InK, ne_eq, and_true, true_and]; omega))) | simp -dsimp only [↓RP, RQ0, RQ1, RQ2, RQ3, implies_true, forall_const, Nat.reduceMul, reduceIte, reduceCtorEq, Nat.reduceAdd, Nat.reduceEqDiff, Nat.reduceLT, Nat.reduceLeDiff, ty2, ty3, ty4, ty22, ty27, Int.toNat_natCast, Go.Proofs.Try.results27]))
    all_goals first | (exfalso; omega) | (refine (I_eq ?_ : _); rw [bad i hlt (by omega)]; done) | skip
    refine ⟨i + 1, ⟨by omega, fun j hj2 => ?_⟩, by omega, weak [] [] ?_ ?_ ?_⟩
    · by_cases e : j = i
      · subst e; omega
      · exact hj j (by omega)
    · (simp -dsimp only [↓RP, RQ0, RQ1, RQ2, RQ3, implies_true, forall_const, Nat.reduceMul, reduceIte, reduceCtorEq, Nat.reduceAdd, Nat.reduceEqDiff, Nat.reduceLT, Nat.reduceLeDiff]); all_goals simp
    · (simp -dsimp only [↓RP, RQ0, RQ1, RQ2, RQ3, implies_true, forall_const, Nat.reduceMul, reduceIte, reduceCtorEq, Nat.reduceAdd, Nat.reduceEqDiff, Nat.reduceLT, Nat.reduceLeDiff])
    · (simp -dsimp only [↓RP, RQ0, RQ1, RQ2, RQ3, implies_true, forall_const, Nat.reduceMul, reduceIte, reduceCtorEq, Nat.reduceAdd, Nat.reduceEqDiff, Nat.reduceLT, Nat.reduceLeDiff])
  have hin : i = c.m := by omega
  subst hin
  (repeat' (first | with_reducible refine splitVC_d (fun _ => ?_) (fun _ => ?_) | ((with_reducible refine And.intro ?_ ?_); focus (first | trivial | (simp only [InK]; omega) | omega | (simp only [InK, ne_eq, and_true, true_and]; omega))) | simp -dsimp only [↓RP, RQ0, RQ1, RQ2, RQ3, implies_true, forall_const, Nat.reduceMul, reduceIte, reduceCtorEq, Nat.reduceAdd, Nat.reduceEqDiff, Nat.reduceLT, Nat.reduceLeDiff, ty2, ty3, ty4, ty22, ty27, Int.toNat_natCast, Go.Proofs.Try.results27]))
  all_goals first | (exfalso; omega) | skip
  refine loop_vc (fun i => 1 ≤ i ∧ i ≤ c.m ∧ ∀ j, j < i - 1 → c.u j ≤ c.u (j + 1)) (fun i => ⟨[(0, .arr false false c.m 1 (fun i _ => .val (.int .i64 (c.u i)))), (4, .val (.int .i64 i))], [], 0⟩) (fun i => c.m - i) 1 ⟨Nat.le_refl _, by omega, fun j hj => by omega⟩ (weak [] [] ?_ ?_ ?_) fun i hi => ?_
  · (simp -dsimp only [↓RP, RQ0, RQ1, RQ2, RQ3, implies_true, forall_const, Nat.reduceMul, reduceIte, reduceCtorEq, Nat.reduceAdd, Nat.reduceEqDiff, Nat.reduceLT, Nat.reduceLeDiff]); all_goals simp
  · (simp -dsimp only [↓RP, RQ0, RQ1, RQ2, RQ3, implies_true, forall_const, Nat.reduceMul, reduceIte, reduceCtorEq, Nat.reduceAdd, Nat.reduceEqDiff, Nat.reduceLT, Nat.reduceLeDiff])
  · (simp -dsimp only [↓RP, RQ0, RQ1, RQ2, RQ3, implies_true, forall_const, Nat.reduceMul, reduceIte, reduceCtorEq, Nat.reduceAdd, Nat.reduceEqDiff, Nat.reduceLT, Nat.reduceLeDiff])
  obtain ⟨hi1, hi, hk⟩ := hi
  have er : (fun (k : Nat) => (k : Int) - 1) i = ((i - 1 : Nat) : Int) := by show (i : Int) - 1 = _; omega
  have er2 : (i : Int) - 1 = ((i - 1 : Nat) : Int) := by omega
  by_cases hlt : i < c.m
  · (repeat' (first | with_reducible refine splitVC_d (fun _ => ?_) (fun _ => ?_) | ((with_reducible refine And.intro ?_ ?_); focus (first | trivial | (simp only [InK]; omega) | omega | (simp only [InK, ne_eq, and_true, true_and]; omega))) | simp -dsimp only [↓RP, RQ0, RQ1, RQ2, RQ3, implies_true, forall_const, Nat.reduceMul, reduceIte, reduceCtorEq, Nat.reduceAdd, Nat.reduceEqDiff, Nat.reduceLT, Nat.reduceLeDiff, er2, ty2, ty3, ty4, ty22, ty27, Int.toNat_natCast, Go.Proofs.Try.results27]))
    all_goals first | (exfalso; omega) | (first | trivial | (simp only [InK]; omega) | omega | (simp only [InK, ne_eq, and_true, true_and]; omega)) | skip
    · refine I_eq ?_
      unfold Curve.err
      rw [if_neg (by omega), if_pos hj, if_neg (fun h => by have := h (i - 1) (by omega); rw [show i - 1 + 1 = i by omega] at this; omega)]
    refine ⟨i + 1, ⟨by omega, by omega, fun j hj2 => ?_⟩, by omega, weak [] [] ?_ ?_ ?_⟩
    · by_cases e : j = i - 1
      · subst e; rw [show i - 1 + 1 = i by omega]; omega
      · exact hk j (by omega)
    · (simp -dsimp only [↓RP, RQ0, RQ1, RQ2, RQ3, implies_true, forall_const, Nat.reduceMul, reduceIte, reduceCtorEq, Nat.reduceAdd, Nat.reduceEqDiff, Nat.reduceLT, Nat.reduceLeDiff]); all_goals simp
    · (simp -dsimp only [↓RP, RQ0, RQ1, RQ2, RQ3, implies_true, forall_const, Nat.reduceMul, reduceIte, reduceCtorEq, Nat.reduceAdd, Nat.reduceEqDiff, Nat.reduceLT, Nat.reduceLeDiff])
    · (simp -dsimp only [↓RP, RQ0, RQ1, RQ2, RQ3, implies_true, forall_const, Nat.reduceMul, reduceIte, reduceCtorEq, Nat.reduceAdd, Nat.reduceEqDiff, Nat.reduceLT, Nat.reduceLeDiff])
  · have hin : i = c.m := by omega
    subst hin
    have e0 : c.err = 0 := by
      unfold Curve.err
      rw [if_neg (by omega), if_pos hj, if_pos hk]
    (repeat' (first | with_reducible refine splitVC_d (fun _ => ?_) (fun _ => ?_) | ((with_reducible refine And.intro ?_ ?_); focus (first | trivial | (simp only [InK]; omega) | omega | (simp only [InK, ne_eq, and_true, true_and]; omega))) | simp -dsimp only [↓RP, RQ0, RQ1, RQ2, RQ3, implies_true, forall_const, Nat.reduceMul, reduceIte, reduceCtorEq, Nat.reduceAdd, Nat.reduceEqDiff, Nat.reduceLT, Nat.reduceLeDiff, ty2, ty3, ty4, ty22, ty27, Int.toNat_natCast, Go.Proofs.Try.results27]))
    all_goals first | (exfalso; omega) | (refine I_eq ?_; omega) | (first | trivial | (simp only [InK]; omega) | omega | (simp only [InK, ne_eq, and_true, true_and]; omega)) | skip
theorem L1_ok (c : Curve) (h : c.Fine) (k : Nat) (hk : k ≤ 400) : 0 ≤ ((k / c.m : Nat) : Int) * c.u (c.m - 1) ∧ ((k / c.m : Nat) : Int) * c.u (c.m - 1) ≤ 40000 := by
  have h1 := h.m1
  have h2 := h.rg (c.m - 1) (by omega)
  have h3 : k / c.m ≤ 400 := Nat.le_trans (Nat.div_le_self _ _) hk
  generalize k / c.m = q at h3 ⊢
  have h4 : ((q : Nat) : Int) * c.u (c.m - 1) ≤ ((q : Nat) : Int) * 100 := Int.mul_le_mul_of_nonneg_left h2.2 (by omega)
  have h5 : 0 ≤ (q : Int) * c.u (c.m - 1) := Int.mul_nonneg (by omega) h2.1
  omega
theorem c82 (c : Curve) (h : c.Fine) (k : Nat) (hk : k ≤ 400) : Contract Go.Proofs.Try.prog 82 [c.sv, I k] (I (c.L1 k)) := by
  refine contract_of Go.Proofs.Try.func82 rfl (by kernel_rfl) follows (by kernel_rfl) _ _ (by rw [Go.Proofs.Try.ntmps82]; simp) (by simp [OldL, c.old]; simp [Old, I]) ?_
  have h1 := h.m1
  have h6 := h.m6
  have hb := L1_ok c h k hk
  have e1 : (c.m : Int) - 1 = ((c.m - 1 : Nat) : Int) := by omega
  have hr := Nat.mod_lt k h1
  have hq : k / c.m ≤ 400 := Nat.le_trans (Nat.div_le_self _ _) hk
  have eL : c.L1 k = ((k / c.m : Nat) : Int) * c.u (c.m - 1) + (if 0 < k % c.m then c.u (k % c.m - 1) else 0) := rfl
  rw [eL]
  have hd := tdN k c.m
  have hm := tmN k c.m
  generalize k / c.m = q at *
  generalize k % c.m = r at *
  unfold I
  conv => arg 4; unfold Curve.sv ints
  by_cases h0 : 0 < r
  · have e2 : (r : Int) - 1 = ((r - 1 : Nat) : Int) := by omega
    have hu := h.rg (r - 1) (by omega)
    rw [if_pos h0]
    (repeat' (first | with_reducible refine splitVC_d (fun _ => ?_) (fun _ => ?_) | ((with_reducible refine And.intro ?_ ?_); focus (first | trivial | (simp only [InK]; omega) | omega | (simp only [InK, ne_eq, and_true, true_and]; omega))) | simp -dsimp only [↓RP, RQ0, RQ1, RQ2, RQ3, implies_true, forall_const, Nat.reduceMul, reduceIte, reduceCtorEq, Nat.reduceAdd, Nat.reduceEqDiff, Nat.reduceLT, Nat.reduceLeDiff, e1, e2, hd, hm, ty2, ty3, ty4, ty22, ty27, Int.toNat_natCast, Go.Proofs.Try.results82]))
    all_goals first | (exfalso; omega) | (first | trivial | (simp only [InK]; omega) | omega | (simp only [InK, ne_eq, and_true, true_and]; omega)) | skip
  · rw [if_neg h0]
    (repeat' (first | with_reducible refine splitVC_d (fun _ => ?_) (fun _ => ?_) | ((with_reducible refine And.intro ?_ ?_); focus (first | trivial | (simp only [InK]; omega) | omega | (simp only [InK, ne_eq, and_true, true_and]; omega))) | simp -dsimp only [↓RP, RQ0, RQ1, RQ2, RQ3, implies_true, forall_const, Nat.reduceMul, reduceIte, reduceCtorEq, Nat.reduceAdd, Nat.reduceEqDiff, Nat.reduceLT, Nat.reduceLeDiff, e1, hd, hm, ty2, ty3, ty4, ty22, ty27, Int.toNat_natCast, Go.Proofs.Try.results82]))
    all_goals first | (exfalso; omega) | (refine I_eq ?_; omega) | (first | trivial | (simp only [InK]; omega) | omega | (simp only [InK, ne_eq, and_true, true_and]; omega)) | skip
theorem c87 (c : Curve) (h : c.Fine) (k : Nat) (hk : k ≤ 400) : Contract Go.Proofs.Try.prog 87 [c.sv, I k] (I (c.L1 k)) := by
  refine contract_of Go.Proofs.Try.func87 rfl (by kernel_rfl) follows (by kernel_rfl) _ _ (by rw [Go.Proofs.Try.ntmps87]; simp) (by simp [OldL, c.old]; simp [Old, I]) ?_
  have h1 := h.m1
  have h6 := h.m6
  have hb := L1_ok c h k hk
  have e1 : (c.m : Int) - 1 = ((c.m - 1 : Nat) : Int) := by omega
  have hr := Nat.mod_lt k h1
  have hq : k / c.m ≤ 400 := Nat.le_trans (Nat.div_le_self _ _) hk
  have eL : c.L1 k = ((k / c.m : Nat) : Int) * c.u (c.m - 1) + (if 0 < k % c.m then c.u (k % c.m - 1) else 0) := rfl
  rw [eL]
  have hd := tdN k c.m
  have hm := tmN k c.m
  generalize k / c.m = q at *
  generalize k % c.m = r at *
  unfold I
  conv => arg 4; unfold Curve.sv ints
  by_cases h0 : 0 < r
  · have e2 : (r : Int) - 1 = ((r - 1 : Nat) : Int) := by omega
    have hu := h.rg (r - 1) (by omega)
    rw [if_pos h0]
    (repeat' (first | with_reducible refine splitVC_d (fun _ => ?_) (fun _ => ?_) | ((with_reducible refine And.intro ?_ ?_); focus (first | trivial | (simp only [InK]; omega) | omega | (simp only [InK, ne_eq, and_true, true_and]; omega))) | simp -dsimp only [↓RP, RQ0, RQ1, RQ2, RQ3, implies_true, forall_const, Nat.reduceMul, reduceIte, reduceCtorEq, Nat.reduceAdd, Nat.reduceEqDiff, Nat.reduceLT, Nat.reduceLeDiff, e1, e2, hd, hm, ty2, ty3, ty4, ty22, ty27, Int.toNat_natCast, Go.Proofs.Try.results87]))
    all_goals first | (exfalso; omega) | (first | trivial | (simp only [InK]; omega) | omega | (simp only [InK, ne_eq, and_true, true_and]; omega)) | skip
  · rw [if_neg h0]
    (repeat' (first | with_reducible refine splitVC_d (fun _ => ?_) (fun _ => ?_) | ((with_reducible refine And.intro ?_ ?_); focus (first | trivial | (simp only [InK]; omega) | omega | (simp only [InK, ne_eq, and_true, true_and]; omega))) | simp -dsimp only [↓RP, RQ0, RQ1, RQ2, RQ3, implies_true, forall_const, Nat.reduceMul, reduceIte, reduceCtorEq, Nat.reduceAdd, Nat.reduceEqDiff, Nat.reduceLT, Nat.reduceLeDiff, e1, hd, hm, ty2, ty3, ty4, ty22, ty27, Int.toNat_natCast, Go.Proofs.Try.results87]))
    all_goals first | (exfalso; omega) | (refine I_eq ?_; omega) | (first | trivial | (simp only [InK]; omega) | omega | (simp only [InK, ne_eq, and_true, true_and]; omega)) | skip
end Go.Lg
end
section
set_option linter.unusedSimpArgs false
set_option linter.unusedVariables false
set_option maxRecDepth 100000
set_option maxHeartbeats 4000000
namespace Go.Lg
open Go.Sx
theorem ty32 : tyOf Go.Proofs.Try.prog 32 = some ⟨true, 2, some [.int .i64 0, .int .i64 0], .struct [(0, 1, some false), (1, 1, some false)]⟩ := by kernel_rfl
theorem pl32 : placesOf Go.Proofs.Try.prog 32 = some [(0, 1), (1, 1)] := by kernel_rfl
theorem c99 (n : Int) : Contract Go.Proofs.Try.prog 99 [I n] (B false) := by
  refine contract_of Go.Proofs.Try.func99 rfl (by kernel_rfl) follows (by kernel_rfl) _ _ (by rw [Go.Proofs.Try.ntmps99]; simp) (by simp [OldL, Old, I]) ?_
  unfold I B
  (repeat' (first | with_reducible refine splitVC_d (fun _ => ?_) (fun _ => ?_) | ((with_reducible refine And.intro ?_ ?_); focus (first | trivial | (simp only [InK]; omega) | omega | (simp only [InK, ne_eq, and_true, true_and]; omega))) | simp -dsimp only [↓RP, RQ0, RQ1, RQ2, RQ3, implies_true, forall_const, Nat.reduceMul, reduceIte, reduceCtorEq, Nat.reduceAdd, Nat.reduceEqDiff, Nat.reduceLT, Nat.reduceLeDiff, ty2, ty4, Go.Proofs.Try.results99]))
  all_goals simp
theorem c93 (a b : Int) : Contract Go.Proofs.Try.prog 93 [I a, I b] (B (decide (a < b))) := by
  refine contract_of Go.Proofs.Try.func93 rfl (by kernel_rfl) follows (by kernel_rfl) _ _ (by rw [Go.Proofs.Try.ntmps93]; simp) (by simp [OldL, Old, I]) ?_
  unfold I B
  (repeat' (first | with_reducible refine splitVC_d (fun _ => ?_) (fun _ => ?_) | ((with_reducible refine And.intro ?_ ?_); focus (first | trivial | (simp only [InK]; omega) | omega | (simp only [InK, ne_eq, and_true, true_and]; omega))) | simp -dsimp only [↓RP, RQ0, RQ1, RQ2, RQ3, implies_true, forall_const, Nat.reduceMul, reduceIte, reduceCtorEq, Nat.reduceAdd, Nat.reduceEqDiff, Nat.reduceLT, Nat.reduceLeDiff, ty2, ty4, Go.Proofs.Try.results93]))
  refine callVC (c99 a) (by (simp -dsimp only [↓RP, RQ0, RQ1, RQ2, RQ3, implies_true, forall_const, Nat.reduceMul, reduceIte, reduceCtorEq, Nat.reduceAdd, Nat.reduceEqDiff, Nat.reduceLT, Nat.reduceLeDiff, I])) (by (simp -dsimp only [↓RP, RQ0, RQ1, RQ2, RQ3, implies_true, forall_const, Nat.reduceMul, reduceIte, reduceCtorEq, Nat.reduceAdd, Nat.reduceEqDiff, Nat.reduceLT, Nat.reduceLeDiff, B])) ?_
  (repeat' (first | with_reducible refine splitVC_d (fun _ => ?_) (fun _ => ?_) | ((with_reducible refine And.intro ?_ ?_); focus (first | trivial | (simp only [InK]; omega) | omega | (simp only [InK, ne_eq, and_true, true_and]; omega))) | simp -dsimp only [↓RP, RQ0, RQ1, RQ2, RQ3, implies_true, forall_const, Nat.reduceMul, reduceIte, reduceCtorEq, Nat.reduceAdd, Nat.reduceEqDiff, Nat.reduceLT, Nat.reduceLeDiff, B, ty2, ty4, Go.Proofs.Try.results93]))
def upL (u : Nat → Int) (m : Nat) : Prop := ∀ i, i < m - 1 → u i ≤ u (i + 1)
instance (u : Nat → Int) (m : Nat) : Decidable (upL u m) := by unfold upL; infer_instance
theorem c69 (m : Nat) (u : Nat → Int) (h1 : 1 ≤ m) (h2 : m ≤ 1000000) : Contract Go.Proofs.Try.prog 69 [ints m u] (B (decide (upL u m))) := by
  refine contract_of Go.Proofs.Try.func69 rfl (by kernel_rfl) follows (by kernel_rfl) _ _ (by rw [Go.Proofs.Try.ntmps69]; simp) (by simp [OldL, Old, ints]) ?_
  unfold B
  conv => arg 4; unfold ints
  (repeat' (first | with_reducible refine splitVC_d (fun _ => ?_) (fun _ => ?_) | ((with_reducible refine And.intro ?_ ?_); focus (first | trivial | (simp only [InK]; omega) | omega | (simp only [InK, ne_eq, and_true, true_and]; omega))) | simp -dsimp only [↓RP, RQ0, RQ1, RQ2, RQ3, implies_true, forall_const, Nat.reduceMul, reduceIte, reduceCtorEq, Nat.reduceAdd, Nat.reduceEqDiff, Nat.reduceLT, Nat.reduceLeDiff, ty2, ty3, ty4, ty22, Go.Proofs.Try.results69]))
  refine loop_vc (fun i => i ≤ m - 1 ∧ ∀ j, i ≤ j → j < m - 1 → u j ≤ u (j + 1)) (fun i => ⟨[(0, .arr false false m 1 (fun i _ => .val (.int .i64 (u i)))), (3, .val (.int .i64 i))], [], 0⟩) (fun i => i) (m - 1) ⟨Nat.le_refl _, fun j a b => by omega⟩ (weak [] [] ?_ ?_ ?_) fun i hi => ?_
  · (simp -dsimp only [↓RP, RQ0, RQ1, RQ2, RQ3, implies_true, forall_const, Nat.reduceMul, reduceIte, reduceCtorEq, Nat.reduceAdd, Nat.reduceEqDiff, Nat.reduceLT, Nat.reduceLeDiff]); all_goals (try simp)
    all_goals omega
  · (simp -dsimp only [↓RP, RQ0, RQ1, RQ2, RQ3, implies_true, forall_const, Nat.reduceMul, reduceIte, reduceCtorEq, Nat.reduceAdd, Nat.reduceEqDiff, Nat.reduceLT, Nat.reduceLeDiff])
  · (simp -dsimp only [↓RP, RQ0, RQ1, RQ2, RQ3, implies_true, forall_const, Nat.reduceMul, reduceIte, reduceCtorEq, Nat.reduceAdd, Nat.reduceEqDiff, Nat.reduceLT, Nat.reduceLeDiff])
  obtain ⟨hi, hj⟩ := hi
  by_cases h0 : 0 < i
  · have e2 : (i : Int) - 1 = ((i - 1 : Nat) : Int) := by omega
    (repeat' (first | with_reducible refine splitVC_d (fun _ => ?_) (fun _ => ?_) | ((with_reducible refine And.intro ?_ ?_); focus (first | trivial | (simp only [InK]; omega) | omega | (simp only [InK, ne_eq, and_true, true_and]; omega))) | simp -dsimp only [↓RP, RQ0, RQ1, RQ2, RQ3, implies_true, forall_const, Nat.reduceMul, reduceIte, reduceCtorEq, Nat.reduceAdd, Nat.reduceEqDiff, Nat.reduceLT, Nat.reduceLeDiff, e2, ty2, ty3, ty4, ty22, Int.toNat_natCast, Go.Proofs.Try.results69]))
    all_goals first | (exfalso; omega) | skip
    refine callVC (c93 (u i) (u (i - 1))) (by (simp -dsimp only [↓RP, RQ0, RQ1, RQ2, RQ3, implies_true, forall_const, Nat.reduceMul, reduceIte, reduceCtorEq, Nat.reduceAdd, Nat.reduceEqDiff, Nat.reduceLT, Nat.reduceLeDiff, I])) (by (simp -dsimp only [↓RP, RQ0, RQ1, RQ2, RQ3, implies_true, forall_const, Nat.reduceMul, reduceIte, reduceCtorEq, Nat.reduceAdd, Nat.reduceEqDiff, Nat.reduceLT, Nat.reduceLeDiff, B])) ?_
    (repeat' (first | with_reducible refine splitVC_d (fun _ => ?_) (fun _ => ?_) | ((with_reducible refine And.intro ?_ ?_); focus (first | trivial | (simp only [InK]; omega) | omega | (simp only [InK, ne_eq, and_true, true_and]; omega))) | simp -dsimp only [↓RP, RQ0, RQ1, RQ2, RQ3, implies_true, forall_const, Nat.reduceMul, reduceIte, reduceCtorEq, Nat.reduceAdd, Nat.reduceEqDiff, Nat.reduceLT, Nat.reduceLeDiff, B, e2, ty2, ty3, ty4, ty22, Int.toNat_natCast, Go.Proofs.Try.results69]))
    · refine B_eq ?_
      rw [eq_comm, decide_eq_false_iff_not]
      intro h
      have := h (i - 1) (by omega)
      rw [show i - 1 + 1 = i by omega] at this
      omega
    · refine ⟨i - 1, ⟨by omega, fun j a b => ?_⟩, by omega, weak [] [] ?_ ?_ ?_⟩
      · by_cases e : j = i - 1
        · subst e; rw [show i - 1 + 1 = i by omega]; omega
        · exact hj j (by omega) b
      · (simp -dsimp only [↓RP, RQ0, RQ1, RQ2, RQ3, implies_true, forall_const, Nat.reduceMul, reduceIte, reduceCtorEq, Nat.reduceAdd, Nat.reduceEqDiff, Nat.reduceLT, Nat.reduceLeDiff]); all_goals simp
      · (simp -dsimp only [↓RP, RQ0, RQ1, RQ2, RQ3, implies_true, forall_const, Nat.reduceMul, reduceIte, reduceCtorEq, Nat.reduceAdd, Nat.reduceEqDiff, Nat.reduceLT, Nat.reduceLeDiff])
      · (simp -dsimp only [↓RP, RQ0, RQ1, RQ2, RQ3, implies_true, forall_const, Nat.reduceMul, reduceIte, reduceCtorEq, Nat.reduceAdd, Nat.reduceEqDiff, Nat.reduceLT, Nat.reduceLeDiff])
  · have hin : i = 0 := by omega
    subst hin
    (repeat' (first | with_reducible refine splitVC_d (fun _ => ?_) (fun _ => ?_) | ((with_reducible refine And.intro ?_ ?_); focus (first | trivial | (simp only [InK]; omega) | omega | (simp only [InK, ne_eq, and_true, true_and]; omega))) | simp -dsimp only [↓RP, RQ0, RQ1, RQ2, RQ3, implies_true, forall_const, Nat.reduceMul, reduceIte, reduceCtorEq, Nat.reduceAdd, Nat.reduceEqDiff, Nat.reduceLT, Nat.reduceLeDiff, ty2, ty3, ty4, ty22, Int.toNat_natCast, Go.Proofs.Try.results69]))
    all_goals first | (exfalso; omega) | (refine B_eq ?_; rw [eq_comm, decide_eq_true_iff]; exact fun j h => hj j (Nat.zero_le _) h) | skip
theorem c26 (c : Curve) (hm : c.m ≤ 1000000) : Contract Go.Proofs.Try.prog 26 [c.sv] (I c.err) := by
  refine contract_of Go.Proofs.Try.func26 rfl (by kernel_rfl) follows (by kernel_rfl) _ _ (by rw [Go.Proofs.Try.ntmps26]; simp) (by simp [OldL, c.old]) ?_
  unfold I
  conv => arg 4; unfold Curve.sv ints
  (repeat' (first | with_reducible refine splitVC_d (fun _ => ?_) (fun _ => ?_) | ((with_reducible refine And.intro ?_ ?_); focus (first | trivial | (simp only [InK]; omega) | omega | (simp only [InK, ne_eq, and_true, true_and]; omega))) | simp -dsimp only [↓RP, RQ0, RQ1, RQ2, RQ3, implies_true, forall_const, Nat.reduceMul, reduceIte, reduceCtorEq, Nat.reduceAdd, Nat.reduceEqDiff, Nat.reduceLT, Nat.reduceLeDiff, ty2, ty3, ty4, ty22, ty27, Go.Proofs.Try.results26]))
  refine callVC (c62_1 c.m 1 6) (by (simp -dsimp only [↓RP, RQ0, RQ1, RQ2, RQ3, implies_true, forall_const, Nat.reduceMul, reduceIte, reduceCtorEq, Nat.reduceAdd, Nat.reduceEqDiff, Nat.reduceLT, Nat.reduceLeDiff, ints, I]); all_goals simp) (by (simp -dsimp only [↓RP, RQ0, RQ1, RQ2, RQ3, implies_true, forall_const, Nat.reduceMul, reduceIte, reduceCtorEq, Nat.reduceAdd, Nat.reduceEqDiff, Nat.reduceLT, Nat.reduceLeDiff, B])) ?_
  (repeat' (first | with_reducible refine splitVC_d (fun _ => ?_) (fun _ => ?_) | ((with_reducible refine And.intro ?_ ?_); focus (first | trivial | (simp only [InK]; omega) | omega | (simp only [InK, ne_eq, and_true, true_and]; omega))) | simp -dsimp only [↓RP, RQ0, RQ1, RQ2, RQ3, implies_true, forall_const, Nat.reduceMul, reduceIte, reduceCtorEq, Nat.reduceAdd, Nat.reduceEqDiff, Nat.reduceLT, Nat.reduceLeDiff, B, ty2, ty3, ty4, ty22, ty27, Go.Proofs.Try.results26]))
  rotate_left
  · refine I_eq ?_; unfold Curve.err; rw [if_pos (by omega)]
  rename_i h1
  refine callVC (c62 c.m c.u 0 100 hm) (by (simp -dsimp only [↓RP, RQ0, RQ1, RQ2, RQ3, implies_true, forall_const, Nat.reduceMul, reduceIte, reduceCtorEq, Nat.reduceAdd, Nat.reduceEqDiff, Nat.reduceLT, Nat.reduceLeDiff, ints, I]); all_goals simp) (by (simp -dsimp only [↓RP, RQ0, RQ1, RQ2, RQ3, implies_true, forall_const, Nat.reduceMul, reduceIte, reduceCtorEq, Nat.reduceAdd, Nat.reduceEqDiff, Nat.reduceLT, Nat.reduceLeDiff, B])) ?_
  (repeat' (first | with_reducible refine splitVC_d (fun _ => ?_) (fun _ => ?_) | ((with_reducible refine And.intro ?_ ?_); focus (first | trivial | (simp only [InK]; omega) | omega | (simp only [InK, ne_eq, and_true, true_and]; omega))) | simp -dsimp only [↓RP, RQ0, RQ1, RQ2, RQ3, implies_true, forall_const, Nat.reduceMul, reduceIte, reduceCtorEq, Nat.reduceAdd, Nat.reduceEqDiff, Nat.reduceLT, Nat.reduceLeDiff, B, ty2, ty3, ty4, ty22, ty27, Go.Proofs.Try.results26]))
  rotate_left
  · rename_i h2
    refine I_eq ?_; unfold Curve.err; rw [if_neg (by omega), if_neg (show ¬ (∀ i, i < c.m → 0 ≤ c.u i ∧ c.u i ≤ 100) from h2)]
  rename_i h2
  refine callVC (c69 c.m c.u (by omega) hm) (by (simp -dsimp only [↓RP, RQ0, RQ1, RQ2, RQ3, implies_true, forall_const, Nat.reduceMul, reduceIte, reduceCtorEq, Nat.reduceAdd, Nat.reduceEqDiff, Nat.reduceLT, Nat.reduceLeDiff, ints, I]); all_goals simp) (by (simp -dsimp only [↓RP, RQ0, RQ1, RQ2, RQ3, implies_true, forall_const, Nat.reduceMul, reduceIte, reduceCtorEq, Nat.reduceAdd, Nat.reduceEqDiff, Nat.reduceLT, Nat.reduceLeDiff, B])) ?_
  (repeat' (first | with_reducible refine splitVC_d (fun _ => ?_) (fun _ => ?_) | ((with_reducible refine And.intro ?_ ?_); focus (first | trivial | (simp only [InK]; omega) | omega | (simp only [InK, ne_eq, and_true, true_and]; omega))) | simp -dsimp only [↓RP, RQ0, RQ1, RQ2, RQ3, implies_true, forall_const, Nat.reduceMul, reduceIte, reduceCtorEq, Nat.reduceAdd, Nat.reduceEqDiff, Nat.reduceLT, Nat.reduceLeDiff, B, ty2, ty3, ty4, ty22, ty27, Go.Proofs.Try.results26]))
  · rename_i h3
    refine I_eq ?_; unfold Curve.err; rw [if_neg (by omega), if_pos (show ∀ i, i < c.m → 0 ≤ c.u i ∧ c.u i ≤ 100 from h2), if_pos (show ∀ i, i < c.m - 1 → c.u i ≤ c.u (i + 1) from h3)]
  · rename_i h3
    refine I_eq ?_; unfold Curve.err; rw [if_neg (by omega), if_pos (show ∀ i, i < c.m → 0 ≤ c.u i ∧ c.u i ≤ 100 from h2), if_neg (show ¬ (∀ i, i < c.m - 1 → c.u i ≤ c.u (i + 1)) from h3)]
def frac (a b : Nat) : SV := .agg [I ((a / Nat.gcd a b : Nat) : Int), I ((b / Nat.gcd a b : Nat) : Int)]
theorem c92 (a b : Nat) (ha : a ≤ 100000) (hb1 : 1 ≤ b) (hb : b ≤ 100000) : Contract Go.Proofs.Try.prog 92 [I a, I b] (frac a b) := by
  refine contract_of Go.Proofs.Try.func92 rfl (by kernel_rfl) follows (by kernel_rfl) _ _ (by rw [Go.Proofs.Try.ntmps92]; simp) (by simp [OldL, Old, I]) ?_
  unfold frac
  conv => arg 4; unfold I
  (repeat' (first | with_reducible refine splitVC_d (fun _ => ?_) (fun _ => ?_) | ((with_reducible refine And.intro ?_ ?_); focus (first | trivial | (simp only [InK]; omega) | omega | (simp only [InK, ne_eq, and_true, true_and]; omega))) | simp -dsimp only [↓RP, RQ0, RQ1, RQ2, RQ3, implies_true, forall_const, Nat.reduceMul, reduceIte, reduceCtorEq, Nat.reduceAdd, Nat.reduceEqDiff, Nat.reduceLT, Nat.reduceLeDiff, ty2, ty3, ty4, ty22, ty32, pl32, Go.Proofs.Try.results92]))
  refine loop_vc (fun (q : Nat × Nat) => Nat.gcd q.1 q.2 = Nat.gcd a b ∧ q.1 ≤ 100000 ∧ q.2 ≤ 100000) (fun q => ⟨[(0, .val (.int .i64 a)), (1, .val (.int .i64 b)), (4, .ptr 0 0), (5, .val (.int .i64 q.1)), (6, .val (.int .i64 q.2))], [(0, .cells 32 [.val (.int .i64 0), .val (.int .i64 0)])], 5⟩) (fun q => q.2) (a, b) ⟨rfl, ha, hb⟩ (weak [] [] ?_ ?_ ?_) fun q hq => ?_
  · (simp -dsimp only [↓RP, RQ0, RQ1, RQ2, RQ3, implies_true, forall_const, Nat.reduceMul, reduceIte, reduceCtorEq, Nat.reduceAdd, Nat.reduceEqDiff, Nat.reduceLT, Nat.reduceLeDiff]); all_goals simp
  · (simp -dsimp only [↓RP, RQ0, RQ1, RQ2, RQ3, implies_true, forall_const, Nat.reduceMul, reduceIte, reduceCtorEq, Nat.reduceAdd, Nat.reduceEqDiff, Nat.reduceLT, Nat.reduceLeDiff]); all_goals simp
  · (simp -dsimp only [↓RP, RQ0, RQ1, RQ2, RQ3, implies_true, forall_const, Nat.reduceMul, reduceIte, reduceCtorEq, Nat.reduceAdd, Nat.reduceEqDiff, Nat.reduceLT, Nat.reduceLeDiff]); all_goals simp
  obtain ⟨x, y⟩ := q
  obtain ⟨hg, hx, hy⟩ := hq
  have hg : Nat.gcd x y = Nat.gcd a b := hg
  have hx : x ≤ 100000 := hx
  have hy : y ≤ 100000 := hy
  by_cases h0 : 0 < y
  · have hm := tmN x y
    have hlt := Nat.mod_lt x h0
    have hg2 : Nat.gcd y (x % y) = Nat.gcd a b := by rw [Nat.gcd_comm, ← Nat.gcd_rec, Nat.gcd_comm, hg]
    generalize x % y = z at hm hlt hg2
    (repeat' (first | with_reducible refine splitVC_d (fun _ => ?_) (fun _ => ?_) | ((with_reducible refine And.intro ?_ ?_); focus (first | trivial | (simp only [InK]; omega) | omega | (simp only [InK, ne_eq, and_true, true_and]; omega))) | simp -dsimp only [↓RP, RQ0, RQ1, RQ2, RQ3, implies_true, forall_const, Nat.reduceMul, reduceIte, reduceCtorEq, Nat.reduceAdd, Nat.reduceEqDiff, Nat.reduceLT, Nat.reduceLeDiff, hm, ty2, ty3, ty4, ty22, ty32, pl32, Int.toNat_natCast, Go.Proofs.Try.results92]))
    all_goals first | (exfalso; omega) | skip
    refine ⟨(y, z), ⟨hg2, hy, by show z ≤ 100000; omega⟩, hlt, weak [] [] ?_ ?_ ?_⟩
    · (simp -dsimp only [↓RP, RQ0, RQ1, RQ2, RQ3, implies_true, forall_const, Nat.reduceMul, reduceIte, reduceCtorEq, Nat.reduceAdd, Nat.reduceEqDiff, Nat.reduceLT, Nat.reduceLeDiff]); all_goals simp
    · (simp -dsimp only [↓RP, RQ0, RQ1, RQ2, RQ3, implies_true, forall_const, Nat.reduceMul, reduceIte, reduceCtorEq, Nat.reduceAdd, Nat.reduceEqDiff, Nat.reduceLT, Nat.reduceLeDiff]); all_goals simp
    · (simp -dsimp only [↓RP, RQ0, RQ1, RQ2, RQ3, implies_true, forall_const, Nat.reduceMul, reduceIte, reduceCtorEq, Nat.reduceAdd, Nat.reduceEqDiff, Nat.reduceLT, Nat.reduceLeDiff]); all_goals simp
  · have hy0 : y = 0 := by omega
    subst hy0
    rw [Nat.gcd_zero_right] at hg
    have hp : 1 ≤ x := by rw [hg]; exact Nat.gcd_pos_of_pos_right a hb1
    have d1 := tdN a x
    have d2 := tdN b x
    have l1 : a / x ≤ 100000 := Nat.le_trans (Nat.div_le_self _ _) ha
    have l2 : b / x ≤ 100000 := Nat.le_trans (Nat.div_le_self _ _) hb
    rw [← hg]
    generalize a / x = u at *
    generalize b / x = v at *
    (repeat' (first | with_reducible refine splitVC_d (fun _ => ?_) (fun _ => ?_) | ((with_reducible refine And.intro ?_ ?_); focus (first | trivial | (simp only [InK]; omega) | omega | (simp only [InK, ne_eq, and_true, true_and]; omega))) | simp -dsimp only [↓RP, RQ0, RQ1, RQ2, RQ3, implies_true, forall_const, Nat.reduceMul, reduceIte, reduceCtorEq, Nat.reduceAdd, Nat.reduceEqDiff, Nat.reduceLT, Nat.reduceLeDiff, d1, d2, I, ty2, ty3, ty4, ty22, ty32, pl32, Int.toNat_natCast, Go.Proofs.Try.results92]))
    all_goals first | (exfalso; omega) | (first | trivial | (simp only [InK]; omega) | omega | (simp only [InK, ne_eq, and_true, true_and]; omega)) | skip
theorem c90 (a b : Nat) (ha : a ≤ 100000) (hb1 : 1 ≤ b) (hb : b ≤ 100000) : Contract Go.Proofs.Try.prog 90 [I a, I b] (frac a b) := by
  refine contract_of Go.Proofs.Try.func90 rfl (by kernel_rfl) follows (by kernel_rfl) _ _ (by rw [Go.Proofs.Try.ntmps90]; simp) (by simp [OldL, Old, I]) ?_
  unfold frac
  conv => arg 4; unfold I
  (repeat' (first | with_reducible refine splitVC_d (fun _ => ?_) (fun _ => ?_) | ((with_reducible refine And.intro ?_ ?_); focus (first | trivial | (simp only [InK]; omega) | omega | (simp only [InK, ne_eq, and_true, true_and]; omega))) | simp -dsimp only [↓RP, RQ0, RQ1, RQ2, RQ3, implies_true, forall_const, Nat.reduceMul, reduceIte, reduceCtorEq, Nat.reduceAdd, Nat.reduceEqDiff, Nat.reduceLT, Nat.reduceLeDiff, ty2, ty3, ty4, ty22, ty32, pl32, Go.Proofs.Try.results90]))
  refine loop_vc (fun (q : Nat × Nat) => Nat.gcd q.1 q.2 = Nat.gcd a b ∧ q.1 ≤ 100000 ∧ q.2 ≤ 100000) (fun q => ⟨[(0, .val (.int .i64 a)), (1, .val (.int .i64 b)), (4, .ptr 0 0), (5, .val (.int .i64 q.1)), (6, .val (.int .i64 q.2))], [(0, .cells 32 [.val (.int .i64 0), .val (.int .i64 0)])], 5⟩) (fun q => q.2) (a, b) ⟨rfl, ha, hb⟩ (weak [] [] ?_ ?_ ?_) fun q hq => ?_
  · (simp -dsimp only [↓RP, RQ0, RQ1, RQ2, RQ3, implies_true, forall_const, Nat.reduceMul, reduceIte, reduceCtorEq, Nat.reduceAdd, Nat.reduceEqDiff, Nat.reduceLT, Nat.reduceLeDiff]); all_goals simp
  · (simp -dsimp only [↓RP, RQ0, RQ1, RQ2, RQ3, implies_true, forall_const, Nat.reduceMul, reduceIte, reduceCtorEq, Nat.reduceAdd, Nat.reduceEqDiff, Nat.reduceLT, Nat.reduceLeDiff]); all_goals simp
  · (simp -dsimp only [↓RP, RQ0, RQ1, RQ2, RQ3, implies_true, forall_const, Nat.reduceMul, reduceIte, reduceCtorEq, Nat.reduceAdd, Nat.reduceEqDiff, Nat.reduceLT, Nat.reduceLeDiff]); all_goals simp
  obtain ⟨x, y⟩ := q
  obtain ⟨hg, hx, hy⟩ := hq
  have hg : Nat.gcd x y = Nat.gcd a b := hg
  have hx : x ≤ 100000 := hx
  have hy : y ≤ 100000 := hy
  by_cases h0 : 0 < y
  · have hm := tmN x y
    have hlt := Nat.mod_lt x h0
    have hg2 : Nat.gcd y (x % y) = Nat.gcd a b := by rw [Nat.gcd_comm, ← Nat.gcd_rec, Nat.gcd_comm, hg]
    generalize x % y = z at hm hlt hg2
    (repeat' (first | with_reducible refine splitVC_d (fun _ => ?_) (fun _ => ?_) | ((with_reducible refine And.intro ?_ ?_); focus (first | trivial | (simp only [InK]; omega) | omega | (simp only [InK, ne_eq, and_true, true_and]; omega))) | simp -dsimp only [↓RP, RQ0, RQ1, RQ2, RQ3, implies_true, forall_const, Nat.reduceMul, reduceIte, reduceCtorEq, Nat.reduceAdd, Nat.reduceEqDiff, Nat.reduceLT, Nat.reduceLeDiff, hm, ty2, ty3, ty4, ty22, ty32, pl32, Int.toNat_natCast, Go.Proofs.Try.results90]))
    all_goals first | (exfalso; omega) | skip
    refine ⟨(y, z), ⟨hg2, hy, by show z ≤ 100000; omega⟩, hlt, weak [] [] ?_ ?_ ?_⟩
    · (simp -dsimp only [↓RP, RQ0, RQ1, RQ2, RQ3, implies_true, forall_const, Nat.reduceMul, reduceIte, reduceCtorEq, Nat.reduceAdd, Nat.reduceEqDiff, Nat.reduceLT, Nat.reduceLeDiff]); all_goals simp
    · (simp -dsimp only [↓RP, RQ0, RQ1, RQ2, RQ3, implies_true, forall_const, Nat.reduceMul, reduceIte, reduceCtorEq, Nat.reduceAdd, Nat.reduceEqDiff, Nat.reduceLT, Nat.reduceLeDiff]); all_goals simp
    · (simp -dsimp only [↓RP, RQ0, RQ1, RQ2, RQ3, implies_true, forall_const, Nat.reduceMul, reduceIte, reduceCtorEq, Nat.reduceAdd, Nat.reduceEqDiff, Nat.reduceLT, Nat.reduceLeDiff]); all_goals simp
  · have hy0 : y = 0 := by omega
    subst hy0
    rw [Nat.gcd_zero_right] at hg
    have hp : 1 ≤ x := by rw [hg]; exact Nat.gcd_pos_of_pos_right a hb1
    have d1 := tdN a x
    have d2 := tdN b x
    have l1 : a / x ≤ 100000 := Nat.le_trans (Nat.div_le_self _ _) ha
    have l2 : b / x ≤ 100000 := Nat.le_trans (Nat.div_le_self _ _) hb
    rw [← hg]
    generalize a / x = u at *
    generalize b / x = v at *
    (repeat' (first | with_reducible refine splitVC_d (fun _ => ?_) (fun _ => ?_) | ((with_reducible refine And.intro ?_ ?_); focus (first | trivial | (simp only [InK]; omega) | omega | (simp only [InK, ne_eq, and_true, true_and]; omega))) | simp -dsimp only [↓RP, RQ0, RQ1, RQ2, RQ3, implies_true, forall_const, Nat.reduceMul, reduceIte, reduceCtorEq, Nat.reduceAdd, Nat.reduceEqDiff, Nat.reduceLT, Nat.reduceLeDiff, d1, d2, I, ty2, ty3, ty4, ty22, ty32, pl32, Int.toNat_natCast, Go.Proofs.Try.results90]))
    all_goals first | (exfalso; omega) | (first | trivial | (simp only [InK]; omega) | omega | (simp only [InK, ne_eq, and_true, true_and]; omega)) | skip
end Go.Lg
end
section
set_option linter.unusedSimpArgs false
set_option linter.unusedVariables false
set_option maxRecDepth 100000
set_option maxHeartbeats 4000000
namespace Go.Lg
open Go.Sx
theorem c83 (a b c d : Int) (ha : 0 ≤ a ∧ a ≤ 100000) (hb : 0 ≤ b ∧ b ≤ 100000) (hc : 0 ≤ c ∧ c ≤ 100000) (hd : 0 ≤ d ∧ d ≤ 100000) : Contract Go.Proofs.Try.prog 83 [.agg [I a, I b], .agg [I c, I d]] (B (decide (a * d < c * b))) := by
  refine contract_of Go.Proofs.Try.func83 rfl (by kernel_rfl) follows (by kernel_rfl) _ _ (by rw [Go.Proofs.Try.ntmps83]; simp) (by simp [OldL, Old, I]) ?_
  have h1 : 0 ≤ a * d := Int.mul_nonneg ha.1 hd.1
  have h2 : a * d ≤ 100000 * 100000 := Int.mul_le_mul ha.2 hd.2 hd.1 (by omega)
  have h3 : 0 ≤ c * b := Int.mul_nonneg hc.1 hb.1
  have h4 : c * b ≤ 100000 * 100000 := Int.mul_le_mul hc.2 hb.2 hb.1 (by omega)
  unfold I B
  (repeat' (first | with_reducible refine splitVC_d (fun _ => ?_) (fun _ => ?_) | ((with_reducible refine And.intro ?_ ?_); focus (first | trivial | (simp only [InK]; omega) | omega | (simp only [InK, ne_eq, and_true, true_and]; omega))) | simp -dsimp only [↓RP, RQ0, RQ1, RQ2, RQ3, implies_true, forall_const, Nat.reduceMul, reduceIte, reduceCtorEq, Nat.reduceAdd, Nat.reduceEqDiff, Nat.reduceLT, Nat.reduceLeDiff, ty2, ty3, ty4, ty32, pl32, Go.Proofs.Try.results83]))
  all_goals first | (first | trivial | (simp only [InK]; omega) | omega | (simp only [InK, ne_eq, and_true, true_and]; omega)) | skip
theorem c91 (a b c d : Int) (ha : 0 ≤ a ∧ a ≤ 100000) (hb : 0 ≤ b ∧ b ≤ 100000) (hc : 0 ≤ c ∧ c ≤ 100000) (hd : 0 ≤ d ∧ d ≤ 100000) : Contract Go.Proofs.Try.prog 91 [.agg [I a, I b], .agg [I c, I d]] (B (decide (c * b < a * d))) := by
  refine contract_of Go.Proofs.Try.func91 rfl (by kernel_rfl) follows (by kernel_rfl) _ _ (by rw [Go.Proofs.Try.ntmps91]; simp) (by simp [OldL, Old, I]) ?_
  have h1 : 0 ≤ a * d := Int.mul_nonneg ha.1 hd.1
  have h2 : a * d ≤ 100000 * 100000 := Int.mul_le_mul ha.2 hd.2 hd.1 (by omega)
  have h3 : 0 ≤ c * b := Int.mul_nonneg hc.1 hb.1
  have h4 : c * b ≤ 100000 * 100000 := Int.mul_le_mul hc.2 hb.2 hb.1 (by omega)
  unfold I B
  (repeat' (first | with_reducible refine splitVC_d (fun _ => ?_) (fun _ => ?_) | ((with_reducible refine And.intro ?_ ?_); focus (first | trivial | (simp only [InK]; omega) | omega | (simp only [InK, ne_eq, and_true, true_and]; omega))) | simp -dsimp only [↓RP, RQ0, RQ1, RQ2, RQ3, implies_true, forall_const, Nat.reduceMul, reduceIte, reduceCtorEq, Nat.reduceAdd, Nat.reduceEqDiff, Nat.reduceLT, Nat.reduceLeDiff, ty2, ty3, ty4, ty32, pl32, Go.Proofs.Try.results91]))
  all_goals first | (first | trivial | (simp only [InK]; omega) | omega | (simp only [InK, ne_eq, and_true, true_and]; omega)) | skip
end Go.Lg
end
section
set_option linter.unusedSimpArgs false
set_option linter.unusedVariables false
set_option maxRecDepth 100000
set_option maxHeartbeats 4000000
namespace Go.Lg
open Go.Sx
theorem by2 : bytesOf Go.Proofs.Try.prog 2 = 8 := by kernel_rfl
def Curve.rErr (c : Curve) : Int := if 60 < c.m then 6 else if ∀ i, i < c.m → 0 ≤ c.u i ∧ c.u i ≤ 10000 then 0 else 3
theorem c72 (c : Curve) : Contract Go.Proofs.Try.prog 72 [c.sv] (I c.rErr) := by
  refine contract_of Go.Proofs.Try.func72 rfl (by kernel_rfl) follows (by kernel_rfl) _ _ (by rw [Go.Proofs.Try.ntmps72]; simp) (by simp [OldL, c.old]) ?_
  unfold I
  conv => arg 4; unfold Curve.sv ints
  (repeat' (first | with_reducible refine splitVC_d (fun _ => ?_) (fun _ => ?_) | ((with_reducible refine And.intro ?_ ?_); focus (first | trivial | (simp only [InK]; omega) | omega | (simp only [InK, ne_eq, and_true, true_and]; omega))) | simp -dsimp only [↓RP, RQ0, RQ1, RQ2, RQ3, implies_true, forall_const, Nat.reduceMul, reduceIte, reduceCtorEq, Nat.reduceAdd, Nat.reduceEqDiff, Nat.reduceLT, Nat.reduceLeDiff, ty2, ty3, ty4, ty22, ty27, Go.Proofs.Try.results72]))
  all_goals first | (refine I_eq ?_; unfold Curve.rErr; rw [if_pos (by omega)]; done) | skip
  rename_i hm1
  refine loop_vc (fun i => i ≤ c.m ∧ ∀ j, j < i → 0 ≤ c.u j ∧ c.u j ≤ 10000) (fun i => ⟨[(0, .arr false false c.m 1 (fun i _ => .val (.int .i64 (c.u i)))), (3, .val (.int .i64 i))], [], 0⟩) (fun i => c.m - i) 0 ⟨Nat.zero_le _, fun j hj => by omega⟩ (weak [] [] ?_ ?_ ?_) fun i hi => ?_
  · (simp -dsimp only [↓RP, RQ0, RQ1, RQ2, RQ3, implies_true, forall_const, Nat.reduceMul, reduceIte, reduceCtorEq, Nat.reduceAdd, Nat.reduceEqDiff, Nat.reduceLT, Nat.reduceLeDiff]); all_goals simp
  · (simp -dsimp only [↓RP, RQ0, RQ1, RQ2, RQ3, implies_true, forall_const, Nat.reduceMul, reduceIte, reduceCtorEq, Nat.reduceAdd, Nat.reduceEqDiff, Nat.reduceLT, Nat.reduceLeDiff])
  · (simp -dsimp only [↓RP, RQ0, RQ1, RQ2, RQ3, implies_true, forall_const, Nat.reduceMul, reduceIte, reduceCtorEq, Nat.reduceAdd, Nat.reduceEqDiff, Nat.reduceLT, Nat.reduceLeDiff])
  obtain ⟨hi, hj⟩ := hi
  have bad : ∀ i, i < c.m → (c.u i < 0 ∨ 10000 < c.u i) → c.rErr = 3 := fun i h1 h2 => by
    unfold Curve.rErr
    rw [if_neg (by omega), if_neg (fun h => by have := h i h1; omega)]
  by_cases hlt : i < c.m
  · (repeat' (first | with_reducible refine splitVC_d (fun _ => ?_) (fun _ => ?_) | ((with_reducible refine And.intro ?_ ?_); focus (first | trivial | (simp only [InK]; omega) | omega | (simp only [InK, ne_eq, and_true, true_and]; omega))) | simp -dsimp only [↓RP, RQ0, RQ1, RQ2, RQ3, implies_true, forall_const, Nat.reduceMul, reduceIte, reduceCtorEq, Nat.reduceAdd, Nat.reduceEqDiff, Nat.reduceLT, Nat.reduceLeDiff, ty2, ty3, ty4, ty22, ty27, Int.toNat_natCast, Go.Proofs.Try.results72]))
    all_goals first | (exfalso; omega) | (refine (I_eq ?_ : _); rw [bad i hlt (by omega)]; done) | skip
    refine ⟨i + 1, ⟨by omega, fun j hj2 => ?_⟩, by omega, weak [] [] ?_ ?_ ?_⟩
    · by_cases e : j = i
      · subst e; omega
      · exact hj j (by omega)
    · (simp -dsimp only [↓RP, RQ0, RQ1, RQ2, RQ3, implies_true, forall_const, Nat.reduceMul, reduceIte, reduceCtorEq, Nat.reduceAdd, Nat.reduceEqDiff, Nat.reduceLT, Nat.reduceLeDiff]); all_goals simp
    · (simp -dsimp only [↓RP, RQ0, RQ1, RQ2, RQ3, implies_true, forall_const, Nat.reduceMul, reduceIte, reduceCtorEq, Nat.reduceAdd, Nat.reduceEqDiff, Nat.reduceLT, Nat.reduceLeDiff])
    · (simp -dsimp only [↓RP, RQ0, RQ1, RQ2, RQ3, implies_true, forall_const, Nat.reduceMul, reduceIte, reduceCtorEq, Nat.reduceAdd, Nat.reduceEqDiff, Nat.reduceLT, Nat.reduceLeDiff])
  have hin : i = c.m := by omega
  subst hin
  have e0 : c.rErr = 0 := by
    unfold Curve.rErr
    rw [if_neg (by omega), if_pos hj]
  (repeat' (first | with_reducible refine splitVC_d (fun _ => ?_) (fun _ => ?_) | ((with_reducible refine And.intro ?_ ?_); focus (first | trivial | (simp only [InK]; omega) | omega | (simp only [InK, ne_eq, and_true, true_and]; omega))) | simp -dsimp only [↓RP, RQ0, RQ1, RQ2, RQ3, implies_true, forall_const, Nat.reduceMul, reduceIte, reduceCtorEq, Nat.reduceAdd, Nat.reduceEqDiff, Nat.reduceLT, Nat.reduceLeDiff, ty2, ty3, ty4, ty22, ty27, Int.toNat_natCast, Go.Proofs.Try.results72]))
  all_goals first | (exfalso; omega) | (refine I_eq ?_; omega) | skip
def sumTo (u : Nat → Int) : Nat → Int
  | 0 => 0
  | i + 1 => sumTo u i + u i
theorem sumTo_bound (u : Nat → Int) (c : Int) (n : Nat) (h : ∀ i, i < n → 0 ≤ u i ∧ u i ≤ c) : ∀ i, i ≤ n → 0 ≤ sumTo u i ∧ sumTo u i ≤ c * i
  | 0, _ => by simp [sumTo]
  | i + 1, hi => by
    have h1 := sumTo_bound u c n h i (by omega)
    have h2 := h i (by omega)
    have e : c * ((i + 1 : Nat) : Int) = c * (i : Int) + c := by rw [show ((i + 1 : Nat) : Int) = (i : Int) + 1 by omega, Int.mul_add, Int.mul_one]
    rw [e]
    simp only [sumTo]
    omega
theorem lit1 (a : SV) (i j : Nat) (hi : i < 1) (hj : j < 1) : [a].getD (i + j) .top = a := by
  have : i + j = 0 := by omega
  rw [this]; rfl
theorem app2 (f : Nat → SV) (i a : Nat) (ha : a < i + 1) (hb : i ≤ a) : [f i][a - i]?.getD .top = f a := by
  have h2 : a = i := by omega
  subst h2
  rw [Nat.sub_self]; rfl
theorem c52 (c : Curve) (hm : c.m ≤ 1000) (hu : ∀ i, i < c.m → 0 ≤ c.u i ∧ c.u i ≤ 1000000) : ContractN Go.Proofs.Try.prog 52 [c.sv] (.rows 2 1 (c.m + 1) (fun j _ => I (sumTo c.u j))) (.vec 0 (c.m + 1) 1) := by
  refine contractN_of Go.Proofs.Try.func52 rfl (by kernel_rfl) follows (by kernel_rfl) _ _ _ (by rw [Go.Proofs.Try.ntmps52]; simp) (by simp [OldL, c.old]) ?_
  have hb := sumTo_bound c.u 1000000 c.m hu
  unfold I
  conv => arg 4; unfold Curve.sv ints
  (repeat' (first | with_reducible refine splitVC_d (fun _ => ?_) (fun _ => ?_) | ((with_reducible refine And.intro ?_ ?_); focus (first | trivial | (simp only [InK]; omega) | omega | (simp only [InK, ne_eq, and_true, true_and]; omega))) | simp -dsimp only [↓RP, RQ0, RQ1, RQ2, RQ3, implies_true, forall_const, Nat.reduceMul, reduceIte, reduceCtorEq, Nat.reduceAdd, Nat.reduceEqDiff, Nat.reduceLT, Nat.reduceLeDiff, by2, ty2, ty3, ty4, ty22, ty27, Go.Proofs.Try.results52]))
  refine loop_vc (fun i => i ≤ c.m) (fun i => ⟨[(0, .arr false false c.m 1 (fun i _ => .val (.int .i64 (c.u i)))), (3, .vec 60 (i + 1) 1), (4, .val (.int .i64 i))], [(60, .rows 2 1 (i + 1) (fun j _ => .val (.int .i64 (sumTo c.u j))))], 61⟩) (fun i => c.m - i) 0 (Nat.zero_le _) (weak [(60, some 1)] [] ?_ ?_ ?_) fun i hi => ?_
  · (simp -dsimp only [↓RP, RQ0, RQ1, RQ2, RQ3, implies_true, forall_const, Nat.reduceMul, reduceIte, reduceCtorEq, Nat.reduceAdd, Nat.reduceEqDiff, Nat.reduceLT, Nat.reduceLeDiff]); all_goals simp
  · (simp -dsimp only [↓RP, RQ0, RQ1, RQ2, RQ3, implies_true, forall_const, Nat.reduceMul, reduceIte, reduceCtorEq, Nat.reduceAdd, Nat.reduceEqDiff, Nat.reduceLT, Nat.reduceLeDiff]); all_goals (try simp [sumTo])
  · (simp -dsimp only [↓RP, RQ0, RQ1, RQ2, RQ3, implies_true, forall_const, Nat.reduceMul, reduceIte, reduceCtorEq, Nat.reduceAdd, Nat.reduceEqDiff, Nat.reduceLT, Nat.reduceLeDiff]); all_goals simp
  by_cases hlt : i < c.m
  · have h1 := hb i hi
    have h2 := hu i hlt
    have h3 : sumTo c.u (i + 1) = sumTo c.u i + c.u i := rfl
    have h4 := hb (i + 1) (by omega)
    rw [h3] at h4
    (repeat' (first | with_reducible refine splitVC_d (fun _ => ?_) (fun _ => ?_) | ((with_reducible refine And.intro ?_ ?_); focus (first | trivial | (simp only [InK]; omega) | omega | (simp only [InK, ne_eq, and_true, true_and]; omega))) | simp -dsimp only [↓RP, RQ0, RQ1, RQ2, RQ3, implies_true, forall_const, Nat.reduceMul, reduceIte, reduceCtorEq, Nat.reduceAdd, Nat.reduceEqDiff, Nat.reduceLT, Nat.reduceLeDiff, by2, ty2, ty3, ty4, ty22, ty27, Int.toNat_natCast, Go.Proofs.Try.results52]))
    all_goals first | (exfalso; omega) | skip
    refine ⟨⟨by simp, by omega, fun a b ha hb => by rw [lit1 _ a b ha hb]; rfl, by omega⟩, by (first | trivial | (simp only [InK]; omega) | omega | (simp only [InK, ne_eq, and_true, true_and]; omega)), i + 1, by omega, by omega, weak [(60, some 76)] [] ?_ ?_ ?_⟩
    · (simp -dsimp only [↓RP, RQ0, RQ1, RQ2, RQ3, implies_true, forall_const, Nat.reduceMul, reduceIte, reduceCtorEq, Nat.reduceAdd, Nat.reduceEqDiff, Nat.reduceLT, Nat.reduceLeDiff]); all_goals simp
    · (simp -dsimp only [↓RP, RQ0, RQ1, RQ2, RQ3, implies_true, forall_const, Nat.reduceMul, reduceIte, reduceCtorEq, Nat.reduceAdd, Nat.reduceEqDiff, Nat.reduceLT, Nat.reduceLeDiff]); all_goals simp
      exact fun a h1 h2 => app2 (fun j => .val (.int .i64 (sumTo c.u j))) (i + 1) a h1 h2
    · (simp -dsimp only [↓RP, RQ0, RQ1, RQ2, RQ3, implies_true, forall_const, Nat.reduceMul, reduceIte, reduceCtorEq, Nat.reduceAdd, Nat.reduceEqDiff, Nat.reduceLT, Nat.reduceLeDiff]); all_goals simp
  have hin : i = c.m := by omega
  subst hin
  (repeat' (first | with_reducible refine splitVC_d (fun _ => ?_) (fun _ => ?_) | ((with_reducible refine And.intro ?_ ?_); focus (first | trivial | (simp only [InK]; omega) | omega | (simp only [InK, ne_eq, and_true, true_and]; omega))) | simp -dsimp only [↓RP, RQ0, RQ1, RQ2, RQ3, implies_true, forall_const, Nat.reduceMul, reduceIte, reduceCtorEq, Nat.reduceAdd, Nat.reduceEqDiff, Nat.reduceLT, Nat.reduceLeDiff, by2, ty2, ty3, ty4, ty22, ty27, Int.toNat_natCast, Go.Proofs.Try.results52]))
  all_goals first | (exfalso; omega) | skip
  refine ⟨60, _, rfl, ?_, ?_⟩
  · (simp -dsimp only [↓RP, RQ0, RQ1, RQ2, RQ3, implies_true, forall_const, Nat.reduceMul, reduceIte, reduceCtorEq, Nat.reduceAdd, Nat.reduceEqDiff, Nat.reduceLT, Nat.reduceLeDiff, I]); all_goals simp
  · (simp -dsimp only [↓RP, RQ0, RQ1, RQ2, RQ3, implies_true, forall_const, Nat.reduceMul, reduceIte, reduceCtorEq, Nat.reduceAdd, Nat.reduceEqDiff, Nat.reduceLT, Nat.reduceLeDiff])
end Go.Lg
end
section
set_option linter.unusedSimpArgs false
set_option linter.unusedVariables false
set_option maxRecDepth 100000
set_option maxHeartbeats 4000000
namespace Go.Lg
open Go.Sx
def Curve.rt (c : Curve) (i : Nat) : Nat × Nat := ((c.u i).toNat / Nat.gcd (c.u i).toNat (i + 1), (i + 1) / Nat.gcd (c.u i).toNat (i + 1))
def fsv (q : Nat × Nat) : SV := .agg [I q.1, I q.2]
def fless (p q : Nat × Nat) : Prop := (p.1 : Int) * q.2 < (q.1 : Int) * p.2
instance (p q : Nat × Nat) : Decidable (fless p q) := by unfold fless; infer_instance
def Curve.rateTo (c : Curve) : Nat → Nat × Nat
  | 0 => c.rt (c.m - 1)
  | i + 1 => if fless (c.rt i) (c.rateTo i) then c.rt i else c.rateTo i
def Curve.rate (c : Curve) (comes : Bool) : Nat × Nat := if comes then c.rateTo c.m else c.rt (c.m - 1)
theorem rt_bound (c : Curve) (h : c.Fine) (i : Nat) (hi : i < c.m) : (c.rt i).1 ≤ 100000 ∧ (c.rt i).2 ≤ 100000 := by
  have h1 := h.rg i hi
  have h2 := h.m6
  constructor
  · refine Nat.le_trans (Nat.div_le_self _ _) ?_; omega
  · refine Nat.le_trans (Nat.div_le_self _ _) ?_; omega
theorem rateTo_bound (c : Curve) (h : c.Fine) : ∀ i, i ≤ c.m → (c.rateTo i).1 ≤ 100000 ∧ (c.rateTo i).2 ≤ 100000
  | 0, _ => rt_bound c h (c.m - 1) (by have := h.m1; omega)
  | i + 1, hi => by
    simp only [Curve.rateTo]
    split
    · exact rt_bound c h i (by omega)
    · exact rateTo_bound c h i (by omega)
theorem k92 (c : Curve) (h : c.Fine) (i : Nat) (hi : i < c.m) : Contract Go.Proofs.Try.prog 92 [I (c.u i), I (i + 1)] (fsv (c.rt i)) := by
  have h1 := h.rg i hi
  have h2 := h.m6
  have := c92 (c.u i).toNat (i + 1) (by omega) (by omega) (by omega)
  rw [Int.toNat_of_nonneg h1.1] at this
  exact this
theorem k90 (c : Curve) (h : c.Fine) (i : Nat) (hi : i < c.m) : Contract Go.Proofs.Try.prog 90 [I (c.u i), I (i + 1)] (fsv (c.rt i)) := by
  have h1 := h.rg i hi
  have h2 := h.m6
  have := c90 (c.u i).toNat (i + 1) (by omega) (by omega) (by omega)
  rw [Int.toNat_of_nonneg h1.1] at this
  exact this
end Go.Lg
end
section
set_option linter.unusedSimpArgs false
set_option linter.unusedVariables false
set_option maxRecDepth 100000
set_option maxHeartbeats 4000000
namespace Go.Lg
open Go.Sx
theorem c68 (c : Curve) (h : c.Fine) (comes : Bool) : Contract Go.Proofs.Try.prog 68 [c.sv, B comes] (fsv (c.rate comes)) := by
  refine contract_of Go.Proofs.Try.func68 rfl (by kernel_rfl) follows (by kernel_rfl) _ _ (by rw [Go.Proofs.Try.ntmps68]; simp) (by simp [OldL, c.old]; simp [Old, B]) ?_
  have h1 := h.m1
  have h6 := h.m6
  have e1 : (c.m : Int) - 1 = ((c.m - 1 : Nat) : Int) := by omega
  unfold fsv I
  conv => arg 4; unfold Curve.sv ints B
  (repeat' (first | with_reducible refine splitVC_d (fun _ => ?_) (fun _ => ?_) | ((with_reducible refine And.intro ?_ ?_); focus (first | trivial | (simp only [InK]; omega) | omega | (simp only [InK, ne_eq, and_true, true_and]; omega))) | simp -dsimp only [↓RP, RQ0, RQ1, RQ2, RQ3, implies_true, forall_const, Nat.reduceMul, reduceIte, reduceCtorEq, Nat.reduceAdd, Nat.reduceEqDiff, Nat.reduceLT, Nat.reduceLeDiff, e1, ty2, ty3, ty4, ty22, ty32, pl32, Int.toNat_natCast, Go.Proofs.Try.results68]))
  have k := k92 c h (c.m - 1) (by omega)
  rw [show ((c.m - 1 : Nat) : Int) + 1 = (c.m : Int) by omega] at k
  refine callVC k (by (simp -dsimp only [↓RP, RQ0, RQ1, RQ2, RQ3, implies_true, forall_const, Nat.reduceMul, reduceIte, reduceCtorEq, Nat.reduceAdd, Nat.reduceEqDiff, Nat.reduceLT, Nat.reduceLeDiff, I]); all_goals simp) (by (simp -dsimp only [↓RP, RQ0, RQ1, RQ2, RQ3, implies_true, forall_const, Nat.reduceMul, reduceIte, reduceCtorEq, Nat.reduceAdd, Nat.reduceEqDiff, Nat.reduceLT, Nat.reduceLeDiff, fsv, I])) ?_
  (repeat' (first | with_reducible refine splitVC_d (fun _ => ?_) (fun _ => ?_) | ((with_reducible refine And.intro ?_ ?_); focus (first | trivial | (simp only [InK]; omega) | omega | (simp only [InK, ne_eq, and_true, true_and]; omega))) | simp -dsimp only [↓RP, RQ0, RQ1, RQ2, RQ3, implies_true, forall_const, Nat.reduceMul, reduceIte, reduceCtorEq, Nat.reduceAdd, Nat.reduceEqDiff, Nat.reduceLT, Nat.reduceLeDiff, fsv, I, e1, ty2, ty3, ty4, ty22, ty32, pl32, Int.toNat_natCast, Go.Proofs.Try.results68]))
  cases comes with
  | false =>
    refine loop_vc (fun (i : Nat) => i = 0) (fun i => ⟨[(0, .arr false false c.m 1 (fun i _ => .val (.int .i64 (c.u i)))), (1, .val (.bool false)), (4, .ptr 0 0), (5, .ptr 10 0), (6, .val (.int .i64 i))], [(10, .cells 32 [.val (.int .i64 (c.rt (c.m - 1)).1), .val (.int .i64 (c.rt (c.m - 1)).2)]), (0, .cells 32 [.val (.int .i64 0), .val (.int .i64 0)])], 13⟩) (fun i => i) 0 rfl (weak [] [] ?_ ?_ ?_) fun i hi => ?_
    · (simp -dsimp only [↓RP, RQ0, RQ1, RQ2, RQ3, implies_true, forall_const, Nat.reduceMul, reduceIte, reduceCtorEq, Nat.reduceAdd, Nat.reduceEqDiff, Nat.reduceLT, Nat.reduceLeDiff]); all_goals simp
    · (simp -dsimp only [↓RP, RQ0, RQ1, RQ2, RQ3, implies_true, forall_const, Nat.reduceMul, reduceIte, reduceCtorEq, Nat.reduceAdd, Nat.reduceEqDiff, Nat.reduceLT, Nat.reduceLeDiff]); all_goals simp
    · (simp -dsimp only [↓RP, RQ0, RQ1, RQ2, RQ3, implies_true, forall_const, Nat.reduceMul, reduceIte, reduceCtorEq, Nat.reduceAdd, Nat.reduceEqDiff, Nat.reduceLT, Nat.reduceLeDiff]); all_goals simp
    subst hi
    have er : c.rate false = c.rt (c.m - 1) := rfl
    rw [er]
    (repeat' (first | with_reducible refine splitVC_d (fun _ => ?_) (fun _ => ?_) | ((with_reducible refine And.intro ?_ ?_); focus (first | trivial | (simp only [InK]; omega) | omega | (simp only [InK, ne_eq, and_true, true_and]; omega))) | simp -dsimp only [↓RP, RQ0, RQ1, RQ2, RQ3, implies_true, forall_const, Nat.reduceMul, reduceIte, reduceCtorEq, Nat.reduceAdd, Nat.reduceEqDiff, Nat.reduceLT, Nat.reduceLeDiff, fsv, I, e1, ty2, ty3, ty4, ty22, ty32, pl32, Int.toNat_natCast, Go.Proofs.Try.results68]))
  | true =>
    refine loop_vc (fun (i : Nat) => i ≤ c.m) (fun i => ⟨[(0, .arr false false c.m 1 (fun i _ => .val (.int .i64 (c.u i)))), (1, .val (.bool true)), (4, .ptr 0 0), (5, .ptr 10 0), (6, .val (.int .i64 i))], [(10, .cells 32 [.val (.int .i64 (c.rateTo i).1), .val (.int .i64 (c.rateTo i).2)]), (0, .cells 32 [.val (.int .i64 0), .val (.int .i64 0)])], 13⟩) (fun i => c.m - i) 0 (Nat.zero_le _) (weak [] [] ?_ ?_ ?_) fun i hi => ?_
    · (simp -dsimp only [↓RP, RQ0, RQ1, RQ2, RQ3, implies_true, forall_const, Nat.reduceMul, reduceIte, reduceCtorEq, Nat.reduceAdd, Nat.reduceEqDiff, Nat.reduceLT, Nat.reduceLeDiff]); all_goals simp
    · (simp -dsimp only [↓RP, RQ0, RQ1, RQ2, RQ3, implies_true, forall_const, Nat.reduceMul, reduceIte, reduceCtorEq, Nat.reduceAdd, Nat.reduceEqDiff, Nat.reduceLT, Nat.reduceLeDiff]); all_goals (try simp [Curve.rateTo])
    · (simp -dsimp only [↓RP, RQ0, RQ1, RQ2, RQ3, implies_true, forall_const, Nat.reduceMul, reduceIte, reduceCtorEq, Nat.reduceAdd, Nat.reduceEqDiff, Nat.reduceLT, Nat.reduceLeDiff]); all_goals simp
    by_cases hlt : i < c.m
    · have hb1 := rt_bound c h i hlt
      have hb2 := rateTo_bound c h i hi
      have er : c.rateTo (i + 1) = if fless (c.rt i) (c.rateTo i) then c.rt i else c.rateTo i := rfl
      (repeat' (first | with_reducible refine splitVC_d (fun _ => ?_) (fun _ => ?_) | ((with_reducible refine And.intro ?_ ?_); focus (first | trivial | (simp only [InK]; omega) | omega | (simp only [InK, ne_eq, and_true, true_and]; omega))) | simp -dsimp only [↓RP, RQ0, RQ1, RQ2, RQ3, implies_true, forall_const, Nat.reduceMul, reduceIte, reduceCtorEq, Nat.reduceAdd, Nat.reduceEqDiff, Nat.reduceLT, Nat.reduceLeDiff, fsv, I, e1, ty2, ty3, ty4, ty22, ty32, pl32, Int.toNat_natCast, Go.Proofs.Try.results68]))
      all_goals first | (exfalso; omega) | skip
      refine callVC (k92 c h i hlt) (by (simp -dsimp only [↓RP, RQ0, RQ1, RQ2, RQ3, implies_true, forall_const, Nat.reduceMul, reduceIte, reduceCtorEq, Nat.reduceAdd, Nat.reduceEqDiff, Nat.reduceLT, Nat.reduceLeDiff, I]); all_goals simp) (by (simp -dsimp only [↓RP, RQ0, RQ1, RQ2, RQ3, implies_true, forall_const, Nat.reduceMul, reduceIte, reduceCtorEq, Nat.reduceAdd, Nat.reduceEqDiff, Nat.reduceLT, Nat.reduceLeDiff, fsv, I])) ?_
      (repeat' (first | with_reducible refine splitVC_d (fun _ => ?_) (fun _ => ?_) | ((with_reducible refine And.intro ?_ ?_); focus (first | trivial | (simp only [InK]; omega) | omega | (simp only [InK, ne_eq, and_true, true_and]; omega))) | simp -dsimp only [↓RP, RQ0, RQ1, RQ2, RQ3, implies_true, forall_const, Nat.reduceMul, reduceIte, reduceCtorEq, Nat.reduceAdd, Nat.reduceEqDiff, Nat.reduceLT, Nat.reduceLeDiff, fsv, I, e1, ty2, ty3, ty4, ty22, ty32, pl32, Int.toNat_natCast, Go.Proofs.Try.results68]))
      refine callVC (c83 (c.rt i).1 (c.rt i).2 (c.rateTo i).1 (c.rateTo i).2 (by omega) (by omega) (by omega) (by omega)) (by (simp -dsimp only [↓RP, RQ0, RQ1, RQ2, RQ3, implies_true, forall_const, Nat.reduceMul, reduceIte, reduceCtorEq, Nat.reduceAdd, Nat.reduceEqDiff, Nat.reduceLT, Nat.reduceLeDiff, I]); all_goals simp) (by (simp -dsimp only [↓RP, RQ0, RQ1, RQ2, RQ3, implies_true, forall_const, Nat.reduceMul, reduceIte, reduceCtorEq, Nat.reduceAdd, Nat.reduceEqDiff, Nat.reduceLT, Nat.reduceLeDiff, B])) ?_
      (repeat' (first | with_reducible refine splitVC_d (fun _ => ?_) (fun _ => ?_) | ((with_reducible refine And.intro ?_ ?_); focus (first | trivial | (simp only [InK]; omega) | omega | (simp only [InK, ne_eq, and_true, true_and]; omega))) | simp -dsimp only [↓RP, RQ0, RQ1, RQ2, RQ3, implies_true, forall_const, Nat.reduceMul, reduceIte, reduceCtorEq, Nat.reduceAdd, Nat.reduceEqDiff, Nat.reduceLT, Nat.reduceLeDiff, B, fsv, I, e1, ty2, ty3, ty4, ty22, ty32, pl32, Int.toNat_natCast, Go.Proofs.Try.results68]))
      · rename_i hf
        rw [if_pos (show fless (c.rt i) (c.rateTo i) from hf)] at er
        refine ⟨i + 1, by omega, by omega, weak [] [] ?_ ?_ ?_⟩
        · (simp -dsimp only [↓RP, RQ0, RQ1, RQ2, RQ3, implies_true, forall_const, Nat.reduceMul, reduceIte, reduceCtorEq, Nat.reduceAdd, Nat.reduceEqDiff, Nat.reduceLT, Nat.reduceLeDiff]); all_goals simp
        · (simp -dsimp only [↓RP, RQ0, RQ1, RQ2, RQ3, implies_true, forall_const, Nat.reduceMul, reduceIte, reduceCtorEq, Nat.reduceAdd, Nat.reduceEqDiff, Nat.reduceLT, Nat.reduceLeDiff, er]); all_goals simp
        · (simp -dsimp only [↓RP, RQ0, RQ1, RQ2, RQ3, implies_true, forall_const, Nat.reduceMul, reduceIte, reduceCtorEq, Nat.reduceAdd, Nat.reduceEqDiff, Nat.reduceLT, Nat.reduceLeDiff]); all_goals simp
      · rename_i hf
        rw [if_neg (show ¬ fless (c.rt i) (c.rateTo i) from hf)] at er
        refine ⟨i + 1, by omega, by omega, weak [] [] ?_ ?_ ?_⟩
        · (simp -dsimp only [↓RP, RQ0, RQ1, RQ2, RQ3, implies_true, forall_const, Nat.reduceMul, reduceIte, reduceCtorEq, Nat.reduceAdd, Nat.reduceEqDiff, Nat.reduceLT, Nat.reduceLeDiff]); all_goals simp
        · (simp -dsimp only [↓RP, RQ0, RQ1, RQ2, RQ3, implies_true, forall_const, Nat.reduceMul, reduceIte, reduceCtorEq, Nat.reduceAdd, Nat.reduceEqDiff, Nat.reduceLT, Nat.reduceLeDiff, er]); all_goals simp
        · (simp -dsimp only [↓RP, RQ0, RQ1, RQ2, RQ3, implies_true, forall_const, Nat.reduceMul, reduceIte, reduceCtorEq, Nat.reduceAdd, Nat.reduceEqDiff, Nat.reduceLT, Nat.reduceLeDiff]); all_goals simp
    · have hin : i = c.m := by omega
      subst hin
      have er : c.rate true = c.rateTo c.m := rfl
      rw [er]
      (repeat' (first | with_reducible refine splitVC_d (fun _ => ?_) (fun _ => ?_) | ((with_reducible refine And.intro ?_ ?_); focus (first | trivial | (simp only [InK]; omega) | omega | (simp only [InK, ne_eq, and_true, true_and]; omega))) | simp -dsimp only [↓RP, RQ0, RQ1, RQ2, RQ3, implies_true, forall_const, Nat.reduceMul, reduceIte, reduceCtorEq, Nat.reduceAdd, Nat.reduceEqDiff, Nat.reduceLT, Nat.reduceLeDiff, fsv, I, e1, ty2, ty3, ty4, ty22, ty32, pl32, Int.toNat_natCast, Go.Proofs.Try.results68]))
      all_goals first | (exfalso; omega) | skip
end Go.Lg
end
section
set_option linter.unusedSimpArgs false
set_option linter.unusedVariables false
set_option maxRecDepth 100000
set_option maxHeartbeats 4000000
namespace Go.Lg
open Go.Sx
theorem c67 (c : Curve) (h : c.Fine) (comes : Bool) : Contract Go.Proofs.Try.prog 67 [c.sv, B comes] (fsv (c.rate comes)) := by
  refine contract_of Go.Proofs.Try.func67 rfl (by kernel_rfl) follows (by kernel_rfl) _ _ (by rw [Go.Proofs.Try.ntmps67]; simp) (by simp [OldL, c.old]; simp [Old, B]) ?_
  have h1 := h.m1
  have h6 := h.m6
  have e1 : (c.m : Int) - 1 = ((c.m - 1 : Nat) : Int) := by omega
  unfold fsv I
  conv => arg 4; unfold Curve.sv ints B
  (repeat' (first | with_reducible refine splitVC_d (fun _ => ?_) (fun _ => ?_) | ((with_reducible refine And.intro ?_ ?_); focus (first | trivial | (simp only [InK]; omega) | omega | (simp only [InK, ne_eq, and_true, true_and]; omega))) | simp -dsimp only [↓RP, RQ0, RQ1, RQ2, RQ3, implies_true, forall_const, Nat.reduceMul, reduceIte, reduceCtorEq, Nat.reduceAdd, Nat.reduceEqDiff, Nat.reduceLT, Nat.reduceLeDiff, e1, ty2, ty3, ty4, ty22, ty32, pl32, Int.toNat_natCast, Go.Proofs.Try.results67]))
  have k := k90 c h (c.m - 1) (by omega)
  rw [show ((c.m - 1 : Nat) : Int) + 1 = (c.m : Int) by omega] at k
  refine callVC k (by (simp -dsimp only [↓RP, RQ0, RQ1, RQ2, RQ3, implies_true, forall_const, Nat.reduceMul, reduceIte, reduceCtorEq, Nat.reduceAdd, Nat.reduceEqDiff, Nat.reduceLT, Nat.reduceLeDiff, I]); all_goals simp) (by (simp -dsimp only [↓RP, RQ0, RQ1, RQ2, RQ3, implies_true, forall_const, Nat.reduceMul, reduceIte, reduceCtorEq, Nat.reduceAdd, Nat.reduceEqDiff, Nat.reduceLT, Nat.reduceLeDiff, fsv, I])) ?_
  (repeat' (first | with_reducible refine splitVC_d (fun _ => ?_) (fun _ => ?_) | ((with_reducible refine And.intro ?_ ?_); focus (first | trivial | (simp only [InK]; omega) | omega | (simp only [InK, ne_eq, and_true, true_and]; omega))) | simp -dsimp only [↓RP, RQ0, RQ1, RQ2, RQ3, implies_true, forall_const, Nat.reduceMul, reduceIte, reduceCtorEq, Nat.reduceAdd, Nat.reduceEqDiff, Nat.reduceLT, Nat.reduceLeDiff, fsv, I, e1, ty2, ty3, ty4, ty22, ty32, pl32, Int.toNat_natCast, Go.Proofs.Try.results67]))
  cases comes with
  | false =>
    refine loop_vc (fun (i : Nat) => i ≤ c.m) (fun i => ⟨[(0, .arr false false c.m 1 (fun i _ => .val (.int .i64 (c.u i)))), (1, .val (.bool false)), (4, .ptr 0 0), (5, .ptr 10 0), (18, .arr false false c.m 1 (fun i _ => .val (.int .i64 (c.u i)))), (19, .val (.int .i64 c.m)), (20, .val (.int .i64 i))], [(10, .cells 32 [.val (.int .i64 (c.rt (c.m - 1)).1), .val (.int .i64 (c.rt (c.m - 1)).2)]), (0, .cells 32 [.val (.int .i64 0), .val (.int .i64 0)])], 15⟩) (fun i => c.m - i) 0 (Nat.zero_le _) (weak [] [] ?_ ?_ ?_) fun i hi => ?_
    · (simp -dsimp only [↓RP, RQ0, RQ1, RQ2, RQ3, implies_true, forall_const, Nat.reduceMul, reduceIte, reduceCtorEq, Nat.reduceAdd, Nat.reduceEqDiff, Nat.reduceLT, Nat.reduceLeDiff]); all_goals simp
    · (simp -dsimp only [↓RP, RQ0, RQ1, RQ2, RQ3, implies_true, forall_const, Nat.reduceMul, reduceIte, reduceCtorEq, Nat.reduceAdd, Nat.reduceEqDiff, Nat.reduceLT, Nat.reduceLeDiff]); all_goals (try simp [Curve.rateTo])
    · (simp -dsimp only [↓RP, RQ0, RQ1, RQ2, RQ3, implies_true, forall_const, Nat.reduceMul, reduceIte, reduceCtorEq, Nat.reduceAdd, Nat.reduceEqDiff, Nat.reduceLT, Nat.reduceLeDiff]); all_goals simp
    by_cases hlt : i < c.m
    · have hb1 := rt_bound c h i hlt
      (repeat' (first | with_reducible refine splitVC_d (fun _ => ?_) (fun _ => ?_) | ((with_reducible refine And.intro ?_ ?_); focus (first | trivial | (simp only [InK]; omega) | omega | (simp only [InK, ne_eq, and_true, true_and]; omega))) | simp -dsimp only [↓RP, RQ0, RQ1, RQ2, RQ3, implies_true, forall_const, Nat.reduceMul, reduceIte, reduceCtorEq, Nat.reduceAdd, Nat.reduceEqDiff, Nat.reduceLT, Nat.reduceLeDiff, fsv, I, e1, ty2, ty3, ty4, ty22, ty32, pl32, Int.toNat_natCast, Go.Proofs.Try.results67]))
      all_goals first | (exfalso; omega) | skip
      refine callVC (k90 c h i hlt) (by (simp -dsimp only [↓RP, RQ0, RQ1, RQ2, RQ3, implies_true, forall_const, Nat.reduceMul, reduceIte, reduceCtorEq, Nat.reduceAdd, Nat.reduceEqDiff, Nat.reduceLT, Nat.reduceLeDiff, I]); all_goals simp) (by (simp -dsimp only [↓RP, RQ0, RQ1, RQ2, RQ3, implies_true, forall_const, Nat.reduceMul, reduceIte, reduceCtorEq, Nat.reduceAdd, Nat.reduceEqDiff, Nat.reduceLT, Nat.reduceLeDiff, fsv, I])) ?_
      (repeat' (first | with_reducible refine splitVC_d (fun _ => ?_) (fun _ => ?_) | ((with_reducible refine And.intro ?_ ?_); focus (first | trivial | (simp only [InK]; omega) | omega | (simp only [InK, ne_eq, and_true, true_and]; omega))) | simp -dsimp only [↓RP, RQ0, RQ1, RQ2, RQ3, implies_true, forall_const, Nat.reduceMul, reduceIte, reduceCtorEq, Nat.reduceAdd, Nat.reduceEqDiff, Nat.reduceLT, Nat.reduceLeDiff, fsv, I, e1, ty2, ty3, ty4, ty22, ty32, pl32, Int.toNat_natCast, Go.Proofs.Try.results67]))
      refine ⟨i + 1, by omega, by omega, weak [] [] ?_ ?_ ?_⟩
      · (simp -dsimp only [↓RP, RQ0, RQ1, RQ2, RQ3, implies_true, forall_const, Nat.reduceMul, reduceIte, reduceCtorEq, Nat.reduceAdd, Nat.reduceEqDiff, Nat.reduceLT, Nat.reduceLeDiff]); all_goals simp
      · (simp -dsimp only [↓RP, RQ0, RQ1, RQ2, RQ3, implies_true, forall_const, Nat.reduceMul, reduceIte, reduceCtorEq, Nat.reduceAdd, Nat.reduceEqDiff, Nat.reduceLT, Nat.reduceLeDiff]); all_goals simp
      · (simp -dsimp only [↓RP, RQ0, RQ1, RQ2, RQ3, implies_true, forall_const, Nat.reduceMul, reduceIte, reduceCtorEq, Nat.reduceAdd, Nat.reduceEqDiff, Nat.reduceLT, Nat.reduceLeDiff]); all_goals simp
    · have hin : i = c.m := by omega
      subst hin
      have er : c.rate false = c.rt (c.m - 1) := rfl
      rw [er]
      (repeat' (first | with_reducible refine splitVC_d (fun _ => ?_) (fun _ => ?_) | ((with_reducible refine And.intro ?_ ?_); focus (first | trivial | (simp only [InK]; omega) | omega | (simp only [InK, ne_eq, and_true, true_and]; omega))) | simp -dsimp only [↓RP, RQ0, RQ1, RQ2, RQ3, implies_true, forall_const, Nat.reduceMul, reduceIte, reduceCtorEq, Nat.reduceAdd, Nat.reduceEqDiff, Nat.reduceLT, Nat.reduceLeDiff, fsv, I, e1, ty2, ty3, ty4, ty22, ty32, pl32, Int.toNat_natCast, Go.Proofs.Try.results67]))
      all_goals first | (exfalso; omega) | skip
  | true =>
    refine loop_vc (fun (i : Nat) => i ≤ c.m) (fun i => ⟨[(0, .arr false false c.m 1 (fun i _ => .val (.int .i64 (c.u i)))), (1, .val (.bool true)), (4, .ptr 0 0), (5, .ptr 10 0), (18, .arr false false c.m 1 (fun i _ => .val (.int .i64 (c.u i)))), (19, .val (.int .i64 c.m)), (20, .val (.int .i64 i))], [(10, .cells 32 [.val (.int .i64 (c.rateTo i).1), .val (.int .i64 (c.rateTo i).2)]), (0, .cells 32 [.val (.int .i64 0), .val (.int .i64 0)])], 15⟩) (fun i => c.m - i) 0 (Nat.zero_le _) (weak [] [] ?_ ?_ ?_) fun i hi => ?_
    · (simp -dsimp only [↓RP, RQ0, RQ1, RQ2, RQ3, implies_true, forall_const, Nat.reduceMul, reduceIte, reduceCtorEq, Nat.reduceAdd, Nat.reduceEqDiff, Nat.reduceLT, Nat.reduceLeDiff]); all_goals simp
    · (simp -dsimp only [↓RP, RQ0, RQ1, RQ2, RQ3, implies_true, forall_const, Nat.reduceMul, reduceIte, reduceCtorEq, Nat.reduceAdd, Nat.reduceEqDiff, Nat.reduceLT, Nat.reduceLeDiff]); all_goals (try simp [Curve.rateTo])
    · (simp -dsimp only [↓RP, RQ0, RQ1, RQ2, RQ3, implies_true, forall_const, Nat.reduceMul, reduceIte, reduceCtorEq, Nat.reduceAdd, Nat.reduceEqDiff, Nat.reduceLT, Nat.reduceLeDiff]); all_goals simp
    by_cases hlt : i < c.m
    · have hb1 := rt_bound c h i hlt
      have hb2 := rateTo_bound c h i hi
      have er : c.rateTo (i + 1) = if fless (c.rt i) (c.rateTo i) then c.rt i else c.rateTo i := rfl
      (repeat' (first | with_reducible refine splitVC_d (fun _ => ?_) (fun _ => ?_) | ((with_reducible refine And.intro ?_ ?_); focus (first | trivial | (simp only [InK]; omega) | omega | (simp only [InK, ne_eq, and_true, true_and]; omega))) | simp -dsimp only [↓RP, RQ0, RQ1, RQ2, RQ3, implies_true, forall_const, Nat.reduceMul, reduceIte, reduceCtorEq, Nat.reduceAdd, Nat.reduceEqDiff, Nat.reduceLT, Nat.reduceLeDiff, fsv, I, e1, ty2, ty3, ty4, ty22, ty32, pl32, Int.toNat_natCast, Go.Proofs.Try.results67]))
      all_goals first | (exfalso; omega) | skip
      refine callVC (k90 c h i hlt) (by (simp -dsimp only [↓RP, RQ0, RQ1, RQ2, RQ3, implies_true, forall_const, Nat.reduceMul, reduceIte, reduceCtorEq, Nat.reduceAdd, Nat.reduceEqDiff, Nat.reduceLT, Nat.reduceLeDiff, I]); all_goals simp) (by (simp -dsimp only [↓RP, RQ0, RQ1, RQ2, RQ3, implies_true, forall_const, Nat.reduceMul, reduceIte, reduceCtorEq, Nat.reduceAdd, Nat.reduceEqDiff, Nat.reduceLT, Nat.reduceLeDiff, fsv, I])) ?_
      (repeat' (first | with_reducible refine splitVC_d (fun _ => ?_) (fun _ => ?_) | ((with_reducible refine And.intro ?_ ?_); focus (first | trivial | (simp only [InK]; omega) | omega | (simp only [InK, ne_eq, and_true, true_and]; omega))) | simp -dsimp only [↓RP, RQ0, RQ1, RQ2, RQ3, implies_true, forall_const, Nat.reduceMul, reduceIte, reduceCtorEq, Nat.reduceAdd, Nat.reduceEqDiff, Nat.reduceLT, Nat.reduceLeDiff, fsv, I, e1, ty2, ty3, ty4, ty22, ty32, pl32, Int.toNat_natCast, Go.Proofs.Try.results67]))
      refine callVC (c91 (c.rateTo i).1 (c.rateTo i).2 (c.rt i).1 (c.rt i).2 (by omega) (by omega) (by omega) (by omega)) (by (simp -dsimp only [↓RP, RQ0, RQ1, RQ2, RQ3, implies_true, forall_const, Nat.reduceMul, reduceIte, reduceCtorEq, Nat.reduceAdd, Nat.reduceEqDiff, Nat.reduceLT, Nat.reduceLeDiff, I]); all_goals simp) (by (simp -dsimp only [↓RP, RQ0, RQ1, RQ2, RQ3, implies_true, forall_const, Nat.reduceMul, reduceIte, reduceCtorEq, Nat.reduceAdd, Nat.reduceEqDiff, Nat.reduceLT, Nat.reduceLeDiff, B])) ?_
      (repeat' (first | with_reducible refine splitVC_d (fun _ => ?_) (fun _ => ?_) | ((with_reducible refine And.intro ?_ ?_); focus (first | trivial | (simp only [InK]; omega) | omega | (simp only [InK, ne_eq, and_true, true_and]; omega))) | simp -dsimp only [↓RP, RQ0, RQ1, RQ2, RQ3, implies_true, forall_const, Nat.reduceMul, reduceIte, reduceCtorEq, Nat.reduceAdd, Nat.reduceEqDiff, Nat.reduceLT, Nat.reduceLeDiff, B, fsv, I, e1, ty2, ty3, ty4, ty22, ty32, pl32, Int.toNat_natCast, Go.Proofs.Try.results67]))
      · rename_i hf
        rw [if_pos (show fless (c.rt i) (c.rateTo i) from hf)] at er
        refine ⟨i + 1, by omega, by omega, weak [] [] ?_ ?_ ?_⟩
        · (simp -dsimp only [↓RP, RQ0, RQ1, RQ2, RQ3, implies_true, forall_const, Nat.reduceMul, reduceIte, reduceCtorEq, Nat.reduceAdd, Nat.reduceEqDiff, Nat.reduceLT, Nat.reduceLeDiff]); all_goals simp
        · (simp -dsimp only [↓RP, RQ0, RQ1, RQ2, RQ3, implies_true, forall_const, Nat.reduceMul, reduceIte, reduceCtorEq, Nat.reduceAdd, Nat.reduceEqDiff, Nat.reduceLT, Nat.reduceLeDiff, er]); all_goals simp
        · (simp -dsimp only [↓RP, RQ0, RQ1, RQ2, RQ3, implies_true, forall_const, Nat.reduceMul, reduceIte, reduceCtorEq, Nat.reduceAdd, Nat.reduceEqDiff, Nat.reduceLT, Nat.reduceLeDiff]); all_goals simp
      · rename_i hf
        rw [if_neg (show ¬ fless (c.rt i) (c.rateTo i) from hf)] at er
        refine ⟨i + 1, by omega, by omega, weak [] [] ?_ ?_ ?_⟩
        · (simp -dsimp only [↓RP, RQ0, RQ1, RQ2, RQ3, implies_true, forall_const, Nat.reduceMul, reduceIte, reduceCtorEq, Nat.reduceAdd, Nat.reduceEqDiff, Nat.reduceLT, Nat.reduceLeDiff]); all_goals simp
        · (simp -dsimp only [↓RP, RQ0, RQ1, RQ2, RQ3, implies_true, forall_const, Nat.reduceMul, reduceIte, reduceCtorEq, Nat.reduceAdd, Nat.reduceEqDiff, Nat.reduceLT, Nat.reduceLeDiff, er]); all_goals simp
        · (simp -dsimp only [↓RP, RQ0, RQ1, RQ2, RQ3, implies_true, forall_const, Nat.reduceMul, reduceIte, reduceCtorEq, Nat.reduceAdd, Nat.reduceEqDiff, Nat.reduceLT, Nat.reduceLeDiff]); all_goals simp
    · have hin : i = c.m := by omega
      subst hin
      have er : c.rate true = c.rateTo c.m := rfl
      rw [er]
      (repeat' (first | with_reducible refine splitVC_d (fun _ => ?_) (fun _ => ?_) | ((with_reducible refine And.intro ?_ ?_); focus (first | trivial | (simp only [InK]; omega) | omega | (simp only [InK, ne_eq, and_true, true_and]; omega))) | simp -dsimp only [↓RP, RQ0, RQ1, RQ2, RQ3, implies_true, forall_const, Nat.reduceMul, reduceIte, reduceCtorEq, Nat.reduceAdd, Nat.reduceEqDiff, Nat.reduceLT, Nat.reduceLeDiff, fsv, I, e1, ty2, ty3, ty4, ty22, ty32, pl32, Int.toNat_natCast, Go.Proofs.Try.results67]))
      all_goals first | (exfalso; omega) | skip
end Go.Lg
end
section
set_option linter.unusedSimpArgs false
set_option linter.unusedVariables false
set_option maxRecDepth 100000
set_option maxHeartbeats 4000000
namespace Go.Lg
open Go.Sx
theorem ty23 : tyOf Go.Proofs.Try.prog 23 = some ⟨false, 1, some [.slice none 0 0], .slice 22 1⟩ := by kernel_rfl
def chn (n : Nat) (C : Nat → Curve) : SV := .arr false false n 1 (fun i _ => .arr false false (C i).m 1 (fun j _ => .val (.int .i64 ((C i).u j))))
theorem chn_old (n : Nat) (C : Nat → Curve) : Old (chn n C) := by simp [Old, chn]
def fstE (C : Nat → Curve) (i : Nat) : Nat → Int
  | 0 => 0
  | k + 1 => if (C i).err = 0 then fstE C (i + 1) k else (C i).err
def cErr (n : Nat) (C : Nat → Curve) : Int := if n < 1 ∨ 3 < n then 6 else fstE C 0 n
theorem c55 (n : Nat) (C : Nat → Curve) : Contract Go.Proofs.Try.prog 55 [chn n C] (I (cErr n C)) := by
  refine contract_of Go.Proofs.Try.func55 rfl (by kernel_rfl) follows (by kernel_rfl) _ _ (by rw [Go.Proofs.Try.ntmps55]; simp) (by simp only [OldL, chn_old, and_self]) ?_
  unfold I
  conv => arg 4; unfold chn
  (repeat' (first | with_reducible refine splitVC_d (fun _ => ?_) (fun _ => ?_) | ((with_reducible refine And.intro ?_ ?_); focus (first | trivial | (simp only [InK]; omega) | omega | (simp only [InK, ne_eq, and_true, true_and]; omega))) | simp -dsimp only [↓RP, RQ0, RQ1, RQ2, RQ3, implies_true, forall_const, Nat.reduceMul, reduceIte, reduceCtorEq, Nat.reduceAdd, Nat.reduceEqDiff, Nat.reduceLT, Nat.reduceLeDiff, ty2, ty3, ty4, ty22, ty23, ty27, Int.toNat_natCast, Go.Proofs.Try.results55]))
  all_goals first | (refine I_eq ?_; unfold cErr; rw [if_pos (by omega)]; done) | skip
  rename_i h1 h2
  have e0 : cErr n C = fstE C 0 n := by unfold cErr; rw [if_neg (by omega)]
  rw [e0]
  refine loop_vc (fun (i : Nat) => i ≤ n ∧ fstE C 0 n = fstE C i (n - i)) (fun i => ⟨[(0, .arr false false n 1 (fun i _ => .arr false false (C i).m 1 (fun j _ => .val (.int .i64 ((C i).u j))))), (3, .val (.int .i64 i))], [], 0⟩) (fun i => n - i) 0 ⟨Nat.zero_le _, rfl⟩ (weak [] [] ?_ ?_ ?_) fun i hi => ?_
  · (simp -dsimp only [↓RP, RQ0, RQ1, RQ2, RQ3, implies_true, forall_const, Nat.reduceMul, reduceIte, reduceCtorEq, Nat.reduceAdd, Nat.reduceEqDiff, Nat.reduceLT, Nat.reduceLeDiff]); all_goals simp
  · (simp -dsimp only [↓RP, RQ0, RQ1, RQ2, RQ3, implies_true, forall_const, Nat.reduceMul, reduceIte, reduceCtorEq, Nat.reduceAdd, Nat.reduceEqDiff, Nat.reduceLT, Nat.reduceLeDiff])
  · (simp -dsimp only [↓RP, RQ0, RQ1, RQ2, RQ3, implies_true, forall_const, Nat.reduceMul, reduceIte, reduceCtorEq, Nat.reduceAdd, Nat.reduceEqDiff, Nat.reduceLT, Nat.reduceLeDiff])
  obtain ⟨hi, he⟩ := hi
  by_cases hlt : i < n
  · have es : fstE C i (n - i) = if (C i).err = 0 then fstE C (i + 1) (n - (i + 1)) else (C i).err := by
      rw [show n - i = (n - (i + 1)) + 1 by omega]; rfl
    (repeat' (first | with_reducible refine splitVC_d (fun _ => ?_) (fun _ => ?_) | ((with_reducible refine And.intro ?_ ?_); focus (first | trivial | (simp only [InK]; omega) | omega | (simp only [InK, ne_eq, and_true, true_and]; omega))) | simp -dsimp only [↓RP, RQ0, RQ1, RQ2, RQ3, implies_true, forall_const, Nat.reduceMul, reduceIte, reduceCtorEq, Nat.reduceAdd, Nat.reduceEqDiff, Nat.reduceLT, Nat.reduceLeDiff, ty2, ty3, ty4, ty22, ty23, ty27, Int.toNat_natCast, Go.Proofs.Try.results55]))
    all_goals first | (exfalso; omega) | skip
    refine callVC (c27 (C i)) (by (simp -dsimp only [↓RP, RQ0, RQ1, RQ2, RQ3, implies_true, forall_const, Nat.reduceMul, reduceIte, reduceCtorEq, Nat.reduceAdd, Nat.reduceEqDiff, Nat.reduceLT, Nat.reduceLeDiff, Curve.sv, ints, I]); all_goals simp) (by (simp -dsimp only [↓RP, RQ0, RQ1, RQ2, RQ3, implies_true, forall_const, Nat.reduceMul, reduceIte, reduceCtorEq, Nat.reduceAdd, Nat.reduceEqDiff, Nat.reduceLT, Nat.reduceLeDiff, I])) ?_
    (repeat' (first | with_reducible refine splitVC_d (fun _ => ?_) (fun _ => ?_) | ((with_reducible refine And.intro ?_ ?_); focus (first | trivial | (simp only [InK]; omega) | omega | (simp only [InK, ne_eq, and_true, true_and]; omega))) | simp -dsimp only [↓RP, RQ0, RQ1, RQ2, RQ3, implies_true, forall_const, Nat.reduceMul, reduceIte, reduceCtorEq, Nat.reduceAdd, Nat.reduceEqDiff, Nat.reduceLT, Nat.reduceLeDiff, I, ty2, ty3, ty4, ty22, ty23, ty27, Int.toNat_natCast, Go.Proofs.Try.results55]))
    · rename_i hz
      rw [if_pos hz] at es
      refine ⟨i + 1, ⟨by omega, by rw [he, es]⟩, by omega, weak [] [] ?_ ?_ ?_⟩
      · (simp -dsimp only [↓RP, RQ0, RQ1, RQ2, RQ3, implies_true, forall_const, Nat.reduceMul, reduceIte, reduceCtorEq, Nat.reduceAdd, Nat.reduceEqDiff, Nat.reduceLT, Nat.reduceLeDiff]); all_goals simp
      · (simp -dsimp only [↓RP, RQ0, RQ1, RQ2, RQ3, implies_true, forall_const, Nat.reduceMul, reduceIte, reduceCtorEq, Nat.reduceAdd, Nat.reduceEqDiff, Nat.reduceLT, Nat.reduceLeDiff])
      · (simp -dsimp only [↓RP, RQ0, RQ1, RQ2, RQ3, implies_true, forall_const, Nat.reduceMul, reduceIte, reduceCtorEq, Nat.reduceAdd, Nat.reduceEqDiff, Nat.reduceLT, Nat.reduceLeDiff])
    · rename_i hz
      rw [if_neg hz] at es
      refine callVC (c27 (C i)) (by (simp -dsimp only [↓RP, RQ0, RQ1, RQ2, RQ3, implies_true, forall_const, Nat.reduceMul, reduceIte, reduceCtorEq, Nat.reduceAdd, Nat.reduceEqDiff, Nat.reduceLT, Nat.reduceLeDiff, Curve.sv, ints, I]); all_goals simp) (by (simp -dsimp only [↓RP, RQ0, RQ1, RQ2, RQ3, implies_true, forall_const, Nat.reduceMul, reduceIte, reduceCtorEq, Nat.reduceAdd, Nat.reduceEqDiff, Nat.reduceLT, Nat.reduceLeDiff, I])) ?_
      (repeat' (first | with_reducible refine splitVC_d (fun _ => ?_) (fun _ => ?_) | ((with_reducible refine And.intro ?_ ?_); focus (first | trivial | (simp only [InK]; omega) | omega | (simp only [InK, ne_eq, and_true, true_and]; omega))) | simp -dsimp only [↓RP, RQ0, RQ1, RQ2, RQ3, implies_true, forall_const, Nat.reduceMul, reduceIte, reduceCtorEq, Nat.reduceAdd, Nat.reduceEqDiff, Nat.reduceLT, Nat.reduceLeDiff, I, ty2, ty3, ty4, ty22, ty23, ty27, Int.toNat_natCast, Go.Proofs.Try.results55]))
      all_goals first | (refine I_eq ?_; rw [he, es]; done) | skip
  · have hin : i = n := by omega
    subst hin
    rw [he, Nat.sub_self]
    (repeat' (first | with_reducible refine splitVC_d (fun _ => ?_) (fun _ => ?_) | ((with_reducible refine And.intro ?_ ?_); focus (first | trivial | (simp only [InK]; omega) | omega | (simp only [InK, ne_eq, and_true, true_and]; omega))) | simp -dsimp only [↓RP, RQ0, RQ1, RQ2, RQ3, implies_true, forall_const, Nat.reduceMul, reduceIte, reduceCtorEq, Nat.reduceAdd, Nat.reduceEqDiff, Nat.reduceLT, Nat.reduceLeDiff, ty2, ty3, ty4, ty22, ty23, ty27, Int.toNat_natCast, Go.Proofs.Try.results55]))
    all_goals first | (exfalso; omega) | rfl | skip
end Go.Lg
end
section
set_option linter.unusedSimpArgs false
set_option linter.unusedVariables false
set_option maxRecDepth 100000
set_option maxHeartbeats 4000000
namespace Go.Lg
open Go.Sx
theorem c65 (n : Nat) (C : Nat → Curve) (hC : ∀ i, i < n → (C i).m ≤ 1000000) : Contract Go.Proofs.Try.prog 65 [chn n C] (I (cErr n C)) := by
  refine contract_of Go.Proofs.Try.func65 rfl (by kernel_rfl) follows (by kernel_rfl) _ _ (by rw [Go.Proofs.Try.ntmps65]; simp) (by simp only [OldL, chn_old, and_self]) ?_
  unfold I
  conv => arg 4; unfold chn
  (repeat' (first | with_reducible refine splitVC_d (fun _ => ?_) (fun _ => ?_) | ((with_reducible refine And.intro ?_ ?_); focus (first | trivial | (simp only [InK]; omega) | omega | (simp only [InK, ne_eq, and_true, true_and]; omega))) | simp -dsimp only [↓RP, RQ0, RQ1, RQ2, RQ3, implies_true, forall_const, Nat.reduceMul, reduceIte, reduceCtorEq, Nat.reduceAdd, Nat.reduceEqDiff, Nat.reduceLT, Nat.reduceLeDiff, ty2, ty3, ty4, ty22, ty23, ty27, Int.toNat_natCast, Go.Proofs.Try.results65]))
  refine callVC (c62_1 n 1 3) (by (simp -dsimp only [↓RP, RQ0, RQ1, RQ2, RQ3, implies_true, forall_const, Nat.reduceMul, reduceIte, reduceCtorEq, Nat.reduceAdd, Nat.reduceEqDiff, Nat.reduceLT, Nat.reduceLeDiff, ints, I]); all_goals simp) (by (simp -dsimp only [↓RP, RQ0, RQ1, RQ2, RQ3, implies_true, forall_const, Nat.reduceMul, reduceIte, reduceCtorEq, Nat.reduceAdd, Nat.reduceEqDiff, Nat.reduceLT, Nat.reduceLeDiff, B])) ?_
  (repeat' (first | with_reducible refine splitVC_d (fun _ => ?_) (fun _ => ?_) | ((with_reducible refine And.intro ?_ ?_); focus (first | trivial | (simp only [InK]; omega) | omega | (simp only [InK, ne_eq, and_true, true_and]; omega))) | simp -dsimp only [↓RP, RQ0, RQ1, RQ2, RQ3, implies_true, forall_const, Nat.reduceMul, reduceIte, reduceCtorEq, Nat.reduceAdd, Nat.reduceEqDiff, Nat.reduceLT, Nat.reduceLeDiff, B, ty2, ty3, ty4, ty22, ty23, ty27, Int.toNat_natCast, Go.Proofs.Try.results65]))
  rotate_left
  · refine I_eq ?_; unfold cErr; rw [if_pos (by omega)]
  rename_i h1
  have e0 : cErr n C = fstE C 0 n := by unfold cErr; rw [if_neg (by omega)]
  rw [e0]
  refine loop_vc (fun (i : Nat) => i ≤ n ∧ fstE C 0 n = fstE C i (n - i)) (fun i => ⟨[(11, .arr false false n 1 (fun i _ => .arr false false (C i).m 1 (fun j _ => .val (.int .i64 ((C i).u j))))), (12, .val (.int .i64 n)), (13, .val (.int .i64 i))], [], 0⟩) (fun i => n - i) 0 ⟨Nat.zero_le _, rfl⟩ (weak [] [] ?_ ?_ ?_) fun i hi => ?_
  · (simp -dsimp only [↓RP, RQ0, RQ1, RQ2, RQ3, implies_true, forall_const, Nat.reduceMul, reduceIte, reduceCtorEq, Nat.reduceAdd, Nat.reduceEqDiff, Nat.reduceLT, Nat.reduceLeDiff]); all_goals simp
  · (simp -dsimp only [↓RP, RQ0, RQ1, RQ2, RQ3, implies_true, forall_const, Nat.reduceMul, reduceIte, reduceCtorEq, Nat.reduceAdd, Nat.reduceEqDiff, Nat.reduceLT, Nat.reduceLeDiff])
  · (simp -dsimp only [↓RP, RQ0, RQ1, RQ2, RQ3, implies_true, forall_const, Nat.reduceMul, reduceIte, reduceCtorEq, Nat.reduceAdd, Nat.reduceEqDiff, Nat.reduceLT, Nat.reduceLeDiff])
  obtain ⟨hi, he⟩ := hi
  by_cases hlt : i < n
  · have es : fstE C i (n - i) = if (C i).err = 0 then fstE C (i + 1) (n - (i + 1)) else (C i).err := by
      rw [show n - i = (n - (i + 1)) + 1 by omega]; rfl
    (repeat' (first | with_reducible refine splitVC_d (fun _ => ?_) (fun _ => ?_) | ((with_reducible refine And.intro ?_ ?_); focus (first | trivial | (simp only [InK]; omega) | omega | (simp only [InK, ne_eq, and_true, true_and]; omega))) | simp -dsimp only [↓RP, RQ0, RQ1, RQ2, RQ3, implies_true, forall_const, Nat.reduceMul, reduceIte, reduceCtorEq, Nat.reduceAdd, Nat.reduceEqDiff, Nat.reduceLT, Nat.reduceLeDiff, ty2, ty3, ty4, ty22, ty23, ty27, Int.toNat_natCast, Go.Proofs.Try.results65]))
    all_goals first | (exfalso; omega) | skip
    refine callVC (c26 (C i) (hC i hlt)) (by (simp -dsimp only [↓RP, RQ0, RQ1, RQ2, RQ3, implies_true, forall_const, Nat.reduceMul, reduceIte, reduceCtorEq, Nat.reduceAdd, Nat.reduceEqDiff, Nat.reduceLT, Nat.reduceLeDiff, Curve.sv, ints, I]); all_goals simp) (by (simp -dsimp only [↓RP, RQ0, RQ1, RQ2, RQ3, implies_true, forall_const, Nat.reduceMul, reduceIte, reduceCtorEq, Nat.reduceAdd, Nat.reduceEqDiff, Nat.reduceLT, Nat.reduceLeDiff, I])) ?_
    (repeat' (first | with_reducible refine splitVC_d (fun _ => ?_) (fun _ => ?_) | ((with_reducible refine And.intro ?_ ?_); focus (first | trivial | (simp only [InK]; omega) | omega | (simp only [InK, ne_eq, and_true, true_and]; omega))) | simp -dsimp only [↓RP, RQ0, RQ1, RQ2, RQ3, implies_true, forall_const, Nat.reduceMul, reduceIte, reduceCtorEq, Nat.reduceAdd, Nat.reduceEqDiff, Nat.reduceLT, Nat.reduceLeDiff, I, ty2, ty3, ty4, ty22, ty23, ty27, Int.toNat_natCast, Go.Proofs.Try.results65]))
    · rename_i hz
      rw [if_pos hz] at es
      refine ⟨i + 1, ⟨by omega, by rw [he, es]⟩, by omega, weak [] [] ?_ ?_ ?_⟩
      · (simp -dsimp only [↓RP, RQ0, RQ1, RQ2, RQ3, implies_true, forall_const, Nat.reduceMul, reduceIte, reduceCtorEq, Nat.reduceAdd, Nat.reduceEqDiff, Nat.reduceLT, Nat.reduceLeDiff]); all_goals simp
      · (simp -dsimp only [↓RP, RQ0, RQ1, RQ2, RQ3, implies_true, forall_const, Nat.reduceMul, reduceIte, reduceCtorEq, Nat.reduceAdd, Nat.reduceEqDiff, Nat.reduceLT, Nat.reduceLeDiff])
      · (simp -dsimp only [↓RP, RQ0, RQ1, RQ2, RQ3, implies_true, forall_const, Nat.reduceMul, reduceIte, reduceCtorEq, Nat.reduceAdd, Nat.reduceEqDiff, Nat.reduceLT, Nat.reduceLeDiff])
    · rename_i hz
      rw [if_neg hz] at es
      all_goals first | (refine I_eq ?_; rw [he, es]; done) | skip
  · have hin : i = n := by omega
    subst hin
    rw [he, Nat.sub_self]
    (repeat' (first | with_reducible refine splitVC_d (fun _ => ?_) (fun _ => ?_) | ((with_reducible refine And.intro ?_ ?_); focus (first | trivial | (simp only [InK]; omega) | omega | (simp only [InK, ne_eq, and_true, true_and]; omega))) | simp -dsimp only [↓RP, RQ0, RQ1, RQ2, RQ3, implies_true, forall_const, Nat.reduceMul, reduceIte, reduceCtorEq, Nat.reduceAdd, Nat.reduceEqDiff, Nat.reduceLT, Nat.reduceLeDiff, ty2, ty3, ty4, ty22, ty23, ty27, Int.toNat_natCast, Go.Proofs.Try.results65]))
    all_goals first | (exfalso; omega) | rfl | skip
end Go.Lg
end
section
set_option linter.unusedSimpArgs false
set_option linter.unusedVariables false
set_option maxRecDepth 100000
set_option maxHeartbeats 4000000
namespace Go.Lg
open Go.Sx
def bst (c : Curve) (k : Nat) : Nat → Int
  | 0 => -1
  | P + 1 => foldMin (fun p => c.M (k - p) + c.u p) P
theorem bst_end (c : Curve) (h : c.Fine) (k : Nat) : bst c k (min c.m (k + 1)) = c.M (k + 1) := by
  have h1 := h.m1
  rw [M_succ]
  obtain ⟨P, e⟩ : ∃ P, min c.m (k + 1) = P + 1 := ⟨min c.m (k + 1) - 1, by omega⟩
  rw [e]; rfl
theorem bst_step (c : Curve) (h : c.Fine) (k P : Nat) (hP : P < c.m) : bst c k (P + 1) = (if bst c k P < 0 ∨ c.M (k - P) + c.u P < bst c k P then c.M (k - P) + c.u P else bst c k P) := by
  cases P with
  | zero =>
    show c.M (k - 0) + c.u 0 = _
    rw [if_pos (.inl (show (-1 : Int) < 0 by omega))]
  | succ Q =>
    show min (foldMin (fun p => c.M (k - p) + c.u p) Q) (c.M (k - (Q + 1)) + c.u (Q + 1)) = _
    have h0 : 0 ≤ foldMin (fun p => c.M (k - p) + c.u p) Q := le_foldMin _ _ _ fun p hp => by
      have h1 := (M_bound h (k - p)).1
      have h2 := (h.rg p (by omega)).1
      omega
    have e : bst c k (Q + 1) = foldMin (fun p => c.M (k - p) + c.u p) Q := rfl
    rw [e]
    generalize foldMin (fun p => c.M (k - p) + c.u p) Q = b at *
    split <;> omega
theorem bst_bound (c : Curve) (h : c.Fine) (k P : Nat) (hP : P ≤ c.m) (hk : k ≤ 400) : -1 ≤ bst c k P ∧ bst c k P ≤ 50000 := by
  cases P with
  | zero => show -1 ≤ (-1 : Int) ∧ (-1 : Int) ≤ 50000; omega
  | succ Q =>
    obtain ⟨p, hp, e⟩ := foldMin_at (fun p => c.M (k - p) + c.u p) Q
    have e2 : bst c k (Q + 1) = foldMin (fun p => c.M (k - p) + c.u p) Q := rfl
    have h1 := M_bound h (k - p)
    have h2 := h.rg p (by omega)
    rw [e2, e]
    omega
theorem c54 (c : Curve) (h : c.Fine) (turns : Nat) (ht : turns ≤ 400) : ContractN Go.Proofs.Try.prog 54 [c.sv, I turns] (.rows 2 1 (turns + 1) (fun j _ => I (c.M j))) (.vec 0 (turns + 1) 1) := by
  refine contractN_of Go.Proofs.Try.func54 rfl (by kernel_rfl) follows (by kernel_rfl) _ _ _ (by rw [Go.Proofs.Try.ntmps54]; simp) (by simp [OldL, c.old]; simp [Old, I]) ?_
  have h1 := h.m1
  have h6 := h.m6
  unfold I
  conv => arg 4; unfold Curve.sv ints
  (repeat' (first | with_reducible refine splitVC_d (fun _ => ?_) (fun _ => ?_) | ((with_reducible refine And.intro ?_ ?_); focus (first | trivial | (simp only [InK]; omega) | omega | (simp only [InK, ne_eq, and_true, true_and]; omega))) | simp -dsimp only [↓RP, RQ0, RQ1, RQ2, RQ3, implies_true, forall_const, Nat.reduceMul, reduceIte, reduceCtorEq, Nat.reduceAdd, Nat.reduceEqDiff, Nat.reduceLT, Nat.reduceLeDiff, by2, ty2, ty3, ty4, ty22, Int.toNat_natCast, Go.Proofs.Try.results54]))
  refine loop_vc (fun (i : Nat) => i ≤ turns) (fun i => ⟨[(0, .arr false false c.m 1 (fun i _ => .val (.int .i64 (c.u i)))), (1, .val (.int .i64 turns)), (5, .vec 60 (i + 1) 1), (6, .val (.int .i64 ((i : Int) + 1)))], [(60, .rows 2 1 (i + 1) (fun j _ => .val (.int .i64 (c.M j))))], 61⟩) (fun i => turns - i) 0 (Nat.zero_le _) (weak [(60, some 1)] [] ?_ ?_ ?_) fun i hi => ?_
  · (simp -dsimp only [↓RP, RQ0, RQ1, RQ2, RQ3, implies_true, forall_const, Nat.reduceMul, reduceIte, reduceCtorEq, Nat.reduceAdd, Nat.reduceEqDiff, Nat.reduceLT, Nat.reduceLeDiff]); all_goals simp
  · (simp -dsimp only [↓RP, RQ0, RQ1, RQ2, RQ3, implies_true, forall_const, Nat.reduceMul, reduceIte, reduceCtorEq, Nat.reduceAdd, Nat.reduceEqDiff, Nat.reduceLT, Nat.reduceLeDiff]); all_goals (try simp [M_zero])
  · (simp -dsimp only [↓RP, RQ0, RQ1, RQ2, RQ3, implies_true, forall_const, Nat.reduceMul, reduceIte, reduceCtorEq, Nat.reduceAdd, Nat.reduceEqDiff, Nat.reduceLT, Nat.reduceLeDiff]); all_goals simp
  by_cases hlt : i < turns
  · (repeat' (first | with_reducible refine splitVC_d (fun _ => ?_) (fun _ => ?_) | ((with_reducible refine And.intro ?_ ?_); focus (first | trivial | (simp only [InK]; omega) | omega | (simp only [InK, ne_eq, and_true, true_and]; omega))) | simp -dsimp only [↓RP, RQ0, RQ1, RQ2, RQ3, implies_true, forall_const, Nat.reduceMul, reduceIte, reduceCtorEq, Nat.reduceAdd, Nat.reduceEqDiff, Nat.reduceLT, Nat.reduceLeDiff, by2, ty2, ty3, ty4, ty22, Int.toNat_natCast, Go.Proofs.Try.results54]))
    all_goals first | (exfalso; omega) | skip
    refine loop_vc (fun (P : Nat) => P ≤ min c.m (i + 1)) (fun P => ⟨[(0, .arr false false c.m 1 (fun i _ => .val (.int .i64 (c.u i)))), (1, .val (.int .i64 turns)), (5, .vec 60 (i + 1) 1), (6, .val (.int .i64 ((i : Int) + 1))), (7, .val (.int .i64 (bst c i P))), (8, .val (.int .i64 ((P : Int) + 1)))], [(60, .rows 2 1 (i + 1) (fun j _ => .val (.int .i64 (c.M j))))], 90⟩) (fun P => min c.m (i + 1) - P) 0 (Nat.zero_le _) (weak [] [] ?_ ?_ ?_) fun P hP => ?_
    · (simp -dsimp only [↓RP, RQ0, RQ1, RQ2, RQ3, implies_true, forall_const, Nat.reduceMul, reduceIte, reduceCtorEq, Nat.reduceAdd, Nat.reduceEqDiff, Nat.reduceLT, Nat.reduceLeDiff]); all_goals (try simp [bst])
    · (simp -dsimp only [↓RP, RQ0, RQ1, RQ2, RQ3, implies_true, forall_const, Nat.reduceMul, reduceIte, reduceCtorEq, Nat.reduceAdd, Nat.reduceEqDiff, Nat.reduceLT, Nat.reduceLeDiff]); all_goals simp
    · (simp -dsimp only [↓RP, RQ0, RQ1, RQ2, RQ3, implies_true, forall_const, Nat.reduceMul, reduceIte, reduceCtorEq, Nat.reduceAdd, Nat.reduceEqDiff, Nat.reduceLT, Nat.reduceLeDiff]); all_goals simp
    have hb := bst_bound c h i P (by omega) (by omega)
    by_cases hP2 : P < min c.m (i + 1)
    · have e1 : (i : Int) + 1 - ((P : Int) + 1) = ((i - P : Nat) : Int) := by omega
      have e2 : (P : Int) + 1 - 1 = (P : Int) := by omega
      have m1 := M_bound h (i - P)
      have m2 := h.rg P (by omega)
      have hs := bst_step c h i P (by omega)
      (repeat' (first | with_reducible refine splitVC_d (fun _ => ?_) (fun _ => ?_) | ((with_reducible refine And.intro ?_ ?_); focus (first | trivial | (simp only [InK]; omega) | omega | (simp only [InK, ne_eq, and_true, true_and]; omega))) | simp -dsimp only [↓RP, RQ0, RQ1, RQ2, RQ3, implies_true, forall_const, Nat.reduceMul, reduceIte, reduceCtorEq, Nat.reduceAdd, Nat.reduceEqDiff, Nat.reduceLT, Nat.reduceLeDiff, e1, e2, by2, ty2, ty3, ty4, ty22, Int.toNat_natCast, Go.Proofs.Try.results54]))
      all_goals first | (exfalso; omega) | skip
      · rw [if_pos (by omega)] at hs
        refine ⟨P + 1, by omega, by omega, weak [] [] ?_ ?_ ?_⟩
        · (simp -dsimp only [↓RP, RQ0, RQ1, RQ2, RQ3, implies_true, forall_const, Nat.reduceMul, reduceIte, reduceCtorEq, Nat.reduceAdd, Nat.reduceEqDiff, Nat.reduceLT, Nat.reduceLeDiff, hs]); all_goals simp
        · (simp -dsimp only [↓RP, RQ0, RQ1, RQ2, RQ3, implies_true, forall_const, Nat.reduceMul, reduceIte, reduceCtorEq, Nat.reduceAdd, Nat.reduceEqDiff, Nat.reduceLT, Nat.reduceLeDiff]); all_goals simp
        · (simp -dsimp only [↓RP, RQ0, RQ1, RQ2, RQ3, implies_true, forall_const, Nat.reduceMul, reduceIte, reduceCtorEq, Nat.reduceAdd, Nat.reduceEqDiff, Nat.reduceLT, Nat.reduceLeDiff]); all_goals simp
      · rw [if_pos (by omega)] at hs
        refine ⟨P + 1, by omega, by omega, weak [] [] ?_ ?_ ?_⟩
        · (simp -dsimp only [↓RP, RQ0, RQ1, RQ2, RQ3, implies_true, forall_const, Nat.reduceMul, reduceIte, reduceCtorEq, Nat.reduceAdd, Nat.reduceEqDiff, Nat.reduceLT, Nat.reduceLeDiff, hs]); all_goals simp
        · (simp -dsimp only [↓RP, RQ0, RQ1, RQ2, RQ3, implies_true, forall_const, Nat.reduceMul, reduceIte, reduceCtorEq, Nat.reduceAdd, Nat.reduceEqDiff, Nat.reduceLT, Nat.reduceLeDiff]); all_goals simp
        · (simp -dsimp only [↓RP, RQ0, RQ1, RQ2, RQ3, implies_true, forall_const, Nat.reduceMul, reduceIte, reduceCtorEq, Nat.reduceAdd, Nat.reduceEqDiff, Nat.reduceLT, Nat.reduceLeDiff]); all_goals simp
      · rw [if_neg (by omega)] at hs
        refine ⟨P + 1, by omega, by omega, weak [] [] ?_ ?_ ?_⟩
        · (simp -dsimp only [↓RP, RQ0, RQ1, RQ2, RQ3, implies_true, forall_const, Nat.reduceMul, reduceIte, reduceCtorEq, Nat.reduceAdd, Nat.reduceEqDiff, Nat.reduceLT, Nat.reduceLeDiff, hs]); all_goals simp
        · (simp -dsimp only [↓RP, RQ0, RQ1, RQ2, RQ3, implies_true, forall_const, Nat.reduceMul, reduceIte, reduceCtorEq, Nat.reduceAdd, Nat.reduceEqDiff, Nat.reduceLT, Nat.reduceLeDiff]); all_goals simp
        · (simp -dsimp only [↓RP, RQ0, RQ1, RQ2, RQ3, implies_true, forall_const, Nat.reduceMul, reduceIte, reduceCtorEq, Nat.reduceAdd, Nat.reduceEqDiff, Nat.reduceLT, Nat.reduceLeDiff]); all_goals simp
    · have hPe : P = min c.m (i + 1) := by omega
      have hbe := bst_end c h i
      rw [← hPe] at hbe
      rw [hbe] at hb
      (repeat' (first | with_reducible refine splitVC_d (fun _ => ?_) (fun _ => ?_) | ((with_reducible refine And.intro ?_ ?_); focus (first | trivial | (simp only [InK]; omega) | omega | (simp only [InK, ne_eq, and_true, true_and]; omega))) | simp -dsimp only [↓RP, RQ0, RQ1, RQ2, RQ3, implies_true, forall_const, Nat.reduceMul, reduceIte, reduceCtorEq, Nat.reduceAdd, Nat.reduceEqDiff, Nat.reduceLT, Nat.reduceLeDiff, hbe, by2, ty2, ty3, ty4, ty22, Int.toNat_natCast, Go.Proofs.Try.results54]))
      all_goals first | (exfalso; omega) | skip
      all_goals (refine ⟨⟨by simp, by omega, fun a b ha hb => by rw [lit1 _ a b ha hb]; rfl, by omega⟩, by (first | trivial | (simp only [InK]; omega) | omega | (simp only [InK, ne_eq, and_true, true_and]; omega)), i + 1, by omega, by omega, weak [(60, some 102)] [] ?_ ?_ ?_⟩)
      all_goals ((simp -dsimp only [↓RP, RQ0, RQ1, RQ2, RQ3, implies_true, forall_const, Nat.reduceMul, reduceIte, reduceCtorEq, Nat.reduceAdd, Nat.reduceEqDiff, Nat.reduceLT, Nat.reduceLeDiff]); all_goals (try simp))
      all_goals exact fun a h1 h2 => app2 (fun j => .val (.int .i64 (c.M j))) (i + 1) a h1 h2
  · have hin : i = turns := by omega
    subst hin
    (repeat' (first | with_reducible refine splitVC_d (fun _ => ?_) (fun _ => ?_) | ((with_reducible refine And.intro ?_ ?_); focus (first | trivial | (simp only [InK]; omega) | omega | (simp only [InK, ne_eq, and_true, true_and]; omega))) | simp -dsimp only [↓RP, RQ0, RQ1, RQ2, RQ3, implies_true, forall_const, Nat.reduceMul, reduceIte, reduceCtorEq, Nat.reduceAdd, Nat.reduceEqDiff, Nat.reduceLT, Nat.reduceLeDiff, by2, ty2, ty3, ty4, ty22, Int.toNat_natCast, Go.Proofs.Try.results54]))
    all_goals first | (exfalso; omega) | skip
    refine ⟨60, _, rfl, ?_, ?_⟩
    · (simp -dsimp only [↓RP, RQ0, RQ1, RQ2, RQ3, implies_true, forall_const, Nat.reduceMul, reduceIte, reduceCtorEq, Nat.reduceAdd, Nat.reduceEqDiff, Nat.reduceLT, Nat.reduceLeDiff, I]); all_goals simp
    · (simp -dsimp only [↓RP, RQ0, RQ1, RQ2, RQ3, implies_true, forall_const, Nat.reduceMul, reduceIte, reduceCtorEq, Nat.reduceAdd, Nat.reduceEqDiff, Nat.reduceLT, Nat.reduceLeDiff])
end Go.Lg
end
section
set_option linter.unusedSimpArgs false
set_option linter.unusedVariables false
set_option maxRecDepth 100000
set_option maxHeartbeats 4000000
namespace Go.Lg
open Go.Sx
theorem fstE_zero (C : Nat → Curve) : ∀ k i, fstE C i k = 0 → ∀ j, i ≤ j → j < i + k → (C j).err = 0
  | 0, i, _, j, h1, h2 => by omega
  | k + 1, i, h, j, h1, h2 => by
    simp only [fstE] at h
    split at h
    · rename_i he
      by_cases e : j = i
      · subst e; exact he
      · exact fstE_zero C k (i + 1) h j (by omega) (by omega)
    · contradiction
theorem cErr_fine {n : Nat} {C : Nat → Curve} (h : cErr n C = 0) : 1 ≤ n ∧ n ≤ 3 ∧ ∀ i, i < n → (C i).Fine := by
  unfold cErr at h
  split at h
  · omega
  · exact ⟨by omega, by omega, fun i hi => Curve.fine (fstE_zero C n 0 h i (by omega) (by omega))⟩
def slowE (c : Curve) (n : Nat) (C : Nat → Curve) : Prop := ∃ i, i < n ∧ fless ((C i).rate false) (c.rate true)
instance (c : Curve) (n : Nat) (C : Nat → Curve) : Decidable (slowE c n C) := by unfold slowE; infer_instance
def askE (c : Curve) (n : Nat) (C : Nat → Curve) : Int := if c.err = 0 then (if cErr n C = 0 then (if slowE c n C then 18 else 0) else cErr n C) else c.err
theorem rate_bound (c : Curve) (h : c.Fine) (b : Bool) : (c.rate b).1 ≤ 100000 ∧ (c.rate b).2 ≤ 100000 := by
  cases b
  · exact rt_bound c h (c.m - 1) (by have := h.m1; omega)
  · exact rateTo_bound c h c.m (Nat.le_refl _)
end Go.Lg
end
section
set_option linter.unusedSimpArgs false
set_option linter.unusedVariables false
set_option maxRecDepth 100000
set_option maxHeartbeats 4000000
namespace Go.Lg
open Go.Sx
theorem c59 (c : Curve) (n : Nat) (C : Nat → Curve) : Contract Go.Proofs.Try.prog 59 [c.sv, chn n C] (I (askE c n C)) := by
  refine contract_of Go.Proofs.Try.func59 rfl (by kernel_rfl) follows (by kernel_rfl) _ _ (by rw [Go.Proofs.Try.ntmps59]; simp) (by simp only [OldL, chn_old, c.old, and_self]) ?_
  unfold I
  conv => arg 4; unfold chn Curve.sv ints
  (repeat' (first | with_reducible refine splitVC_d (fun _ => ?_) (fun _ => ?_) | ((with_reducible refine And.intro ?_ ?_); focus (first | trivial | (simp only [InK]; omega) | omega | (simp only [InK, ne_eq, and_true, true_and]; omega))) | simp -dsimp only [↓RP, RQ0, RQ1, RQ2, RQ3, implies_true, forall_const, Nat.reduceMul, reduceIte, reduceCtorEq, Nat.reduceAdd, Nat.reduceEqDiff, Nat.reduceLT, Nat.reduceLeDiff, ty2, ty3, ty4, ty22, ty23, ty27, ty32, Int.toNat_natCast, Go.Proofs.Try.results59]))
  refine callVC (c27 c) (by (simp -dsimp only [↓RP, RQ0, RQ1, RQ2, RQ3, implies_true, forall_const, Nat.reduceMul, reduceIte, reduceCtorEq, Nat.reduceAdd, Nat.reduceEqDiff, Nat.reduceLT, Nat.reduceLeDiff, Curve.sv, ints, I]); all_goals simp) (by (simp -dsimp only [↓RP, RQ0, RQ1, RQ2, RQ3, implies_true, forall_const, Nat.reduceMul, reduceIte, reduceCtorEq, Nat.reduceAdd, Nat.reduceEqDiff, Nat.reduceLT, Nat.reduceLeDiff, I])) ?_
  (repeat' (first | with_reducible refine splitVC_d (fun _ => ?_) (fun _ => ?_) | ((with_reducible refine And.intro ?_ ?_); focus (first | trivial | (simp only [InK]; omega) | omega | (simp only [InK, ne_eq, and_true, true_and]; omega))) | simp -dsimp only [↓RP, RQ0, RQ1, RQ2, RQ3, implies_true, forall_const, Nat.reduceMul, reduceIte, reduceCtorEq, Nat.reduceAdd, Nat.reduceEqDiff, Nat.reduceLT, Nat.reduceLeDiff, I, ty2, ty3, ty4, ty22, ty23, ty27, ty32, Int.toNat_natCast, Go.Proofs.Try.results59]))
  rotate_left
  · rename_i h0
    refine callVC (c27 c) (by (simp -dsimp only [↓RP, RQ0, RQ1, RQ2, RQ3, implies_true, forall_const, Nat.reduceMul, reduceIte, reduceCtorEq, Nat.reduceAdd, Nat.reduceEqDiff, Nat.reduceLT, Nat.reduceLeDiff, Curve.sv, ints, I]); all_goals simp) (by (simp -dsimp only [↓RP, RQ0, RQ1, RQ2, RQ3, implies_true, forall_const, Nat.reduceMul, reduceIte, reduceCtorEq, Nat.reduceAdd, Nat.reduceEqDiff, Nat.reduceLT, Nat.reduceLeDiff, I])) ?_
    (repeat' (first | with_reducible refine splitVC_d (fun _ => ?_) (fun _ => ?_) | ((with_reducible refine And.intro ?_ ?_); focus (first | trivial | (simp only [InK]; omega) | omega | (simp only [InK, ne_eq, and_true, true_and]; omega))) | simp -dsimp only [↓RP, RQ0, RQ1, RQ2, RQ3, implies_true, forall_const, Nat.reduceMul, reduceIte, reduceCtorEq, Nat.reduceAdd, Nat.reduceEqDiff, Nat.reduceLT, Nat.reduceLeDiff, I, ty2, ty3, ty4, ty22, ty23, ty27, ty32, Int.toNat_natCast, Go.Proofs.Try.results59]))
    all_goals (refine I_eq ?_; unfold askE; rw [if_neg h0])
  rename_i h0
  refine callVC (c55 n C) (by (simp -dsimp only [↓RP, RQ0, RQ1, RQ2, RQ3, implies_true, forall_const, Nat.reduceMul, reduceIte, reduceCtorEq, Nat.reduceAdd, Nat.reduceEqDiff, Nat.reduceLT, Nat.reduceLeDiff, chn, I]); all_goals simp) (by (simp -dsimp only [↓RP, RQ0, RQ1, RQ2, RQ3, implies_true, forall_const, Nat.reduceMul, reduceIte, reduceCtorEq, Nat.reduceAdd, Nat.reduceEqDiff, Nat.reduceLT, Nat.reduceLeDiff, I])) ?_
  (repeat' (first | with_reducible refine splitVC_d (fun _ => ?_) (fun _ => ?_) | ((with_reducible refine And.intro ?_ ?_); focus (first | trivial | (simp only [InK]; omega) | omega | (simp only [InK, ne_eq, and_true, true_and]; omega))) | simp -dsimp only [↓RP, RQ0, RQ1, RQ2, RQ3, implies_true, forall_const, Nat.reduceMul, reduceIte, reduceCtorEq, Nat.reduceAdd, Nat.reduceEqDiff, Nat.reduceLT, Nat.reduceLeDiff, I, ty2, ty3, ty4, ty22, ty23, ty27, ty32, Int.toNat_natCast, Go.Proofs.Try.results59]))
  rotate_left
  · rename_i hc
    refine callVC (c55 n C) (by (simp -dsimp only [↓RP, RQ0, RQ1, RQ2, RQ3, implies_true, forall_const, Nat.reduceMul, reduceIte, reduceCtorEq, Nat.reduceAdd, Nat.reduceEqDiff, Nat.reduceLT, Nat.reduceLeDiff, chn, I]); all_goals simp) (by (simp -dsimp only [↓RP, RQ0, RQ1, RQ2, RQ3, implies_true, forall_const, Nat.reduceMul, reduceIte, reduceCtorEq, Nat.reduceAdd, Nat.reduceEqDiff, Nat.reduceLT, Nat.reduceLeDiff, I])) ?_
    (repeat' (first | with_reducible refine splitVC_d (fun _ => ?_) (fun _ => ?_) | ((with_reducible refine And.intro ?_ ?_); focus (first | trivial | (simp only [InK]; omega) | omega | (simp only [InK, ne_eq, and_true, true_and]; omega))) | simp -dsimp only [↓RP, RQ0, RQ1, RQ2, RQ3, implies_true, forall_const, Nat.reduceMul, reduceIte, reduceCtorEq, Nat.reduceAdd, Nat.reduceEqDiff, Nat.reduceLT, Nat.reduceLeDiff, I, ty2, ty3, ty4, ty22, ty23, ty27, ty32, Int.toNat_natCast, Go.Proofs.Try.results59]))
    all_goals (refine I_eq ?_; unfold askE; rw [if_pos h0, if_neg hc])
  rename_i hc
  have hf := Curve.fine h0
  obtain ⟨n1, n3, hC⟩ := cErr_fine hc
  have e0 : askE c n C = (if slowE c n C then 18 else 0) := by unfold askE; rw [if_pos h0, if_pos hc]
  rw [e0]
  have b2 := rate_bound c hf true
  refine loop_vc (fun (i : Nat) => i ≤ n ∧ ∀ j, j < i → ¬ fless ((C j).rate false) (c.rate true)) (fun i => ⟨[(0, .arr false false c.m 1 (fun i _ => .val (.int .i64 (c.u i)))), (1, .arr false false n 1 (fun i _ => .arr false false (C i).m 1 (fun j _ => .val (.int .i64 ((C i).u j))))), (5, .val (.int .i64 i))], [], 0⟩) (fun i => n - i) 0 ⟨Nat.zero_le _, fun j hj => by omega⟩ (weak [] [] ?_ ?_ ?_) fun i hi => ?_
  · (simp -dsimp only [↓RP, RQ0, RQ1, RQ2, RQ3, implies_true, forall_const, Nat.reduceMul, reduceIte, reduceCtorEq, Nat.reduceAdd, Nat.reduceEqDiff, Nat.reduceLT, Nat.reduceLeDiff]); all_goals simp
  · (simp -dsimp only [↓RP, RQ0, RQ1, RQ2, RQ3, implies_true, forall_const, Nat.reduceMul, reduceIte, reduceCtorEq, Nat.reduceAdd, Nat.reduceEqDiff, Nat.reduceLT, Nat.reduceLeDiff])
  · (simp -dsimp only [↓RP, RQ0, RQ1, RQ2, RQ3, implies_true, forall_const, Nat.reduceMul, reduceIte, reduceCtorEq, Nat.reduceAdd, Nat.reduceEqDiff, Nat.reduceLT, Nat.reduceLeDiff])
  obtain ⟨hi, hj⟩ := hi
  by_cases hlt : i < n
  · have b1 := rate_bound (C i) (hC i hlt) false
    (repeat' (first | with_reducible refine splitVC_d (fun _ => ?_) (fun _ => ?_) | ((with_reducible refine And.intro ?_ ?_); focus (first | trivial | (simp only [InK]; omega) | omega | (simp only [InK, ne_eq, and_true, true_and]; omega))) | simp -dsimp only [↓RP, RQ0, RQ1, RQ2, RQ3, implies_true, forall_const, Nat.reduceMul, reduceIte, reduceCtorEq, Nat.reduceAdd, Nat.reduceEqDiff, Nat.reduceLT, Nat.reduceLeDiff, ty2, ty3, ty4, ty22, ty23, ty27, ty32, Int.toNat_natCast, Go.Proofs.Try.results59]))
    all_goals first | (exfalso; omega) | skip
    refine callVC (c68 (C i) (hC i hlt) false) (by (simp -dsimp only [↓RP, RQ0, RQ1, RQ2, RQ3, implies_true, forall_const, Nat.reduceMul, reduceIte, reduceCtorEq, Nat.reduceAdd, Nat.reduceEqDiff, Nat.reduceLT, Nat.reduceLeDiff, Curve.sv, ints, I, B]); all_goals simp) (by (simp -dsimp only [↓RP, RQ0, RQ1, RQ2, RQ3, implies_true, forall_const, Nat.reduceMul, reduceIte, reduceCtorEq, Nat.reduceAdd, Nat.reduceEqDiff, Nat.reduceLT, Nat.reduceLeDiff, fsv, I])) ?_
    (repeat' (first | with_reducible refine splitVC_d (fun _ => ?_) (fun _ => ?_) | ((with_reducible refine And.intro ?_ ?_); focus (first | trivial | (simp only [InK]; omega) | omega | (simp only [InK, ne_eq, and_true, true_and]; omega))) | simp -dsimp only [↓RP, RQ0, RQ1, RQ2, RQ3, implies_true, forall_const, Nat.reduceMul, reduceIte, reduceCtorEq, Nat.reduceAdd, Nat.reduceEqDiff, Nat.reduceLT, Nat.reduceLeDiff, fsv, I, ty2, ty3, ty4, ty22, ty23, ty27, ty32, Int.toNat_natCast, Go.Proofs.Try.results59]))
    refine callVC (c68 c hf true) (by (simp -dsimp only [↓RP, RQ0, RQ1, RQ2, RQ3, implies_true, forall_const, Nat.reduceMul, reduceIte, reduceCtorEq, Nat.reduceAdd, Nat.reduceEqDiff, Nat.reduceLT, Nat.reduceLeDiff, Curve.sv, ints, I, B]); all_goals simp) (by (simp -dsimp only [↓RP, RQ0, RQ1, RQ2, RQ3, implies_true, forall_const, Nat.reduceMul, reduceIte, reduceCtorEq, Nat.reduceAdd, Nat.reduceEqDiff, Nat.reduceLT, Nat.reduceLeDiff, fsv, I])) ?_
    (repeat' (first | with_reducible refine splitVC_d (fun _ => ?_) (fun _ => ?_) | ((with_reducible refine And.intro ?_ ?_); focus (first | trivial | (simp only [InK]; omega) | omega | (simp only [InK, ne_eq, and_true, true_and]; omega))) | simp -dsimp only [↓RP, RQ0, RQ1, RQ2, RQ3, implies_true, forall_const, Nat.reduceMul, reduceIte, reduceCtorEq, Nat.reduceAdd, Nat.reduceEqDiff, Nat.reduceLT, Nat.reduceLeDiff, fsv, I, ty2, ty3, ty4, ty22, ty23, ty27, ty32, Int.toNat_natCast, Go.Proofs.Try.results59]))
    refine callVC (c83 ((C i).rate false).1 ((C i).rate false).2 (c.rate true).1 (c.rate true).2 (by omega) (by omega) (by omega) (by omega)) (by (simp -dsimp only [↓RP, RQ0, RQ1, RQ2, RQ3, implies_true, forall_const, Nat.reduceMul, reduceIte, reduceCtorEq, Nat.reduceAdd, Nat.reduceEqDiff, Nat.reduceLT, Nat.reduceLeDiff, I]); all_goals simp) (by (simp -dsimp only [↓RP, RQ0, RQ1, RQ2, RQ3, implies_true, forall_const, Nat.reduceMul, reduceIte, reduceCtorEq, Nat.reduceAdd, Nat.reduceEqDiff, Nat.reduceLT, Nat.reduceLeDiff, B])) ?_
    (repeat' (first | with_reducible refine splitVC_d (fun _ => ?_) (fun _ => ?_) | ((with_reducible refine And.intro ?_ ?_); focus (first | trivial | (simp only [InK]; omega) | omega | (simp only [InK, ne_eq, and_true, true_and]; omega))) | simp -dsimp only [↓RP, RQ0, RQ1, RQ2, RQ3, implies_true, forall_const, Nat.reduceMul, reduceIte, reduceCtorEq, Nat.reduceAdd, Nat.reduceEqDiff, Nat.reduceLT, Nat.reduceLeDiff, B, I, ty2, ty3, ty4, ty22, ty23, ty27, ty32, Int.toNat_natCast, Go.Proofs.Try.results59]))
    · rename_i hs
      refine I_eq ?_
      rw [if_pos (show slowE c n C from ⟨i, hlt, hs⟩)]
    · rename_i hs
      refine ⟨i + 1, ⟨by omega, fun j hj2 => ?_⟩, by omega, weak [] [] ?_ ?_ ?_⟩
      · by_cases e : j = i
        · subst e; exact hs
        · exact hj j (by omega)
      · (simp -dsimp only [↓RP, RQ0, RQ1, RQ2, RQ3, implies_true, forall_const, Nat.reduceMul, reduceIte, reduceCtorEq, Nat.reduceAdd, Nat.reduceEqDiff, Nat.reduceLT, Nat.reduceLeDiff]); all_goals simp
      · (simp -dsimp only [↓RP, RQ0, RQ1, RQ2, RQ3, implies_true, forall_const, Nat.reduceMul, reduceIte, reduceCtorEq, Nat.reduceAdd, Nat.reduceEqDiff, Nat.reduceLT, Nat.reduceLeDiff])
      · (simp -dsimp only [↓RP, RQ0, RQ1, RQ2, RQ3, implies_true, forall_const, Nat.reduceMul, reduceIte, reduceCtorEq, Nat.reduceAdd, Nat.reduceEqDiff, Nat.reduceLT, Nat.reduceLeDiff])
  · have hin : i = n := by omega
    subst hin
    rw [if_neg (show ¬ slowE c i C from fun ⟨j, h1, h2⟩ => hj j h1 h2)]
    (repeat' (first | with_reducible refine splitVC_d (fun _ => ?_) (fun _ => ?_) | ((with_reducible refine And.intro ?_ ?_); focus (first | trivial | (simp only [InK]; omega) | omega | (simp only [InK, ne_eq, and_true, true_and]; omega))) | simp -dsimp only [↓RP, RQ0, RQ1, RQ2, RQ3, implies_true, forall_const, Nat.reduceMul, reduceIte, reduceCtorEq, Nat.reduceAdd, Nat.reduceEqDiff, Nat.reduceLT, Nat.reduceLeDiff, ty2, ty3, ty4, ty22, ty23, ty27, ty32, Int.toNat_natCast, Go.Proofs.Try.results59]))
    all_goals first | (exfalso; omega) | rfl | skip
end Go.Lg
end
section
set_option linter.unusedSimpArgs false
set_option linter.unusedVariables false
set_option maxRecDepth 100000
set_option maxHeartbeats 4000000
namespace Go.Lg
open Go.Sx
def lzTo (A L : Nat → Int) (t : Nat) : Nat → Int
  | 0 => A t
  | U + 1 => min (lzTo A L t U) (A U + L (t - U))
def lz (A L : Nat → Int) (t : Nat) : Int := lzTo A L t t
theorem lzTo_bound (A L : Nat → Int) (m t : Nat) (ht : t < m) (hA : ∀ i, i < m → 0 ≤ A i ∧ A i ≤ 1000000000) (hL : ∀ i, i < m → 0 ≤ L i ∧ L i ≤ 1000000000) : ∀ U, U ≤ t → 0 ≤ lzTo A L t U ∧ lzTo A L t U ≤ 1000000000
  | 0, _ => hA t ht
  | U + 1, h => by
    have h1 := lzTo_bound A L m t ht hA hL U (by omega)
    have h2 := hA U (by omega)
    have h3 := hL (t - U) (by omega)
    simp only [lzTo]
    omega
theorem c57 (m : Nat) (A L : Nat → Int) (m1 : 1 ≤ m) (m2 : m ≤ 1000) (hA : ∀ i, i < m → 0 ≤ A i ∧ A i ≤ 1000000000) (hL : ∀ i, i < m → 0 ≤ L i ∧ L i ≤ 1000000000) : ContractN Go.Proofs.Try.prog 57 [ints m A, ints m L] (.rows 2 1 m (fun j _ => I (lz A L j))) (.vec 0 m 1) := by
  refine contractN_of Go.Proofs.Try.func57 rfl (by kernel_rfl) follows (by kernel_rfl) _ _ _ (by rw [Go.Proofs.Try.ntmps57]; simp) (by simp [OldL, Old, ints]) ?_
  unfold I
  conv => arg 4; unfold ints
  (repeat' (first | with_reducible refine splitVC_d (fun _ => ?_) (fun _ => ?_) | ((with_reducible refine And.intro ?_ ?_); focus (first | trivial | (simp only [InK]; omega) | omega | (simp only [InK, ne_eq, and_true, true_and]; omega))) | simp -dsimp only [↓RP, RQ0, RQ1, RQ2, RQ3, implies_true, forall_const, Nat.reduceMul, reduceIte, reduceCtorEq, Nat.reduceAdd, Nat.reduceEqDiff, Nat.reduceLT, Nat.reduceLeDiff, by2, ty2, ty3, ty4, ty22, Int.toNat_natCast, Go.Proofs.Try.results57]))
  refine loop_vc (fun (i : Nat) => i ≤ m) (fun i => ⟨[(0, .arr false false m 1 (fun i _ => .val (.int .i64 (A i)))), (1, .arr false false m 1 (fun i _ => .val (.int .i64 (L i)))), (5, .vec 60 i 1), (6, .val (.int .i64 i))], [(60, .rows 2 1 i (fun j _ => .val (.int .i64 (lz A L j))))], 61⟩) (fun i => m - i) 0 (Nat.zero_le _) (weak [(60, none)] [] ?_ ?_ ?_) fun i hi => ?_
  · (simp -dsimp only [↓RP, RQ0, RQ1, RQ2, RQ3, implies_true, forall_const, Nat.reduceMul, reduceIte, reduceCtorEq, Nat.reduceAdd, Nat.reduceEqDiff, Nat.reduceLT, Nat.reduceLeDiff]); all_goals simp
  · (simp -dsimp only [↓RP, RQ0, RQ1, RQ2, RQ3, implies_true, forall_const, Nat.reduceMul, reduceIte, reduceCtorEq, Nat.reduceAdd, Nat.reduceEqDiff, Nat.reduceLT, Nat.reduceLeDiff]); all_goals simp
  · (simp -dsimp only [↓RP, RQ0, RQ1, RQ2, RQ3, implies_true, forall_const, Nat.reduceMul, reduceIte, reduceCtorEq, Nat.reduceAdd, Nat.reduceEqDiff, Nat.reduceLT, Nat.reduceLeDiff]); all_goals simp
  by_cases hlt : i < m
  · have a0 := hA i hlt
    (repeat' (first | with_reducible refine splitVC_d (fun _ => ?_) (fun _ => ?_) | ((with_reducible refine And.intro ?_ ?_); focus (first | trivial | (simp only [InK]; omega) | omega | (simp only [InK, ne_eq, and_true, true_and]; omega))) | simp -dsimp only [↓RP, RQ0, RQ1, RQ2, RQ3, implies_true, forall_const, Nat.reduceMul, reduceIte, reduceCtorEq, Nat.reduceAdd, Nat.reduceEqDiff, Nat.reduceLT, Nat.reduceLeDiff, by2, ty2, ty3, ty4, ty22, Int.toNat_natCast, Go.Proofs.Try.results57]))
    all_goals first | (exfalso; omega) | skip
    refine loop_vc (fun (U : Nat) => U ≤ i) (fun U => ⟨[(0, .arr false false m 1 (fun i _ => .val (.int .i64 (A i)))), (1, .arr false false m 1 (fun i _ => .val (.int .i64 (L i)))), (5, .vec 60 i 1), (6, .val (.int .i64 i)), (7, .val (.int .i64 (lzTo A L i U))), (8, .val (.int .i64 U))], [(60, .rows 2 1 i (fun j _ => .val (.int .i64 (lz A L j))))], 90⟩) (fun U => i - U) 0 (Nat.zero_le _) (weak [] [] ?_ ?_ ?_) fun U hU => ?_
    · (simp -dsimp only [↓RP, RQ0, RQ1, RQ2, RQ3, implies_true, forall_const, Nat.reduceMul, reduceIte, reduceCtorEq, Nat.reduceAdd, Nat.reduceEqDiff, Nat.reduceLT, Nat.reduceLeDiff]); all_goals (try simp [lzTo])
    · (simp -dsimp only [↓RP, RQ0, RQ1, RQ2, RQ3, implies_true, forall_const, Nat.reduceMul, reduceIte, reduceCtorEq, Nat.reduceAdd, Nat.reduceEqDiff, Nat.reduceLT, Nat.reduceLeDiff]); all_goals simp
    · (simp -dsimp only [↓RP, RQ0, RQ1, RQ2, RQ3, implies_true, forall_const, Nat.reduceMul, reduceIte, reduceCtorEq, Nat.reduceAdd, Nat.reduceEqDiff, Nat.reduceLT, Nat.reduceLeDiff]); all_goals simp
    have hb := lzTo_bound A L m i hlt hA hL U hU
    by_cases hU2 : U < i
    · have e1 : (i : Int) - (U : Int) = ((i - U : Nat) : Int) := by omega
      have a1 := hA U (by omega)
      have a2 := hL (i - U) (by omega)
      have hs : lzTo A L i (U + 1) = min (lzTo A L i U) (A U + L (i - U)) := rfl
      (repeat' (first | with_reducible refine splitVC_d (fun _ => ?_) (fun _ => ?_) | ((with_reducible refine And.intro ?_ ?_); focus (first | trivial | (simp only [InK]; omega) | omega | (simp only [InK, ne_eq, and_true, true_and]; omega))) | simp -dsimp only [↓RP, RQ0, RQ1, RQ2, RQ3, implies_true, forall_const, Nat.reduceMul, reduceIte, reduceCtorEq, Nat.reduceAdd, Nat.reduceEqDiff, Nat.reduceLT, Nat.reduceLeDiff, e1, by2, ty2, ty3, ty4, ty22, Int.toNat_natCast, Go.Proofs.Try.results57]))
      all_goals first | (exfalso; omega) | skip
      refine ⟨U + 1, by omega, by omega, weak [] [] ?_ ?_ ?_⟩
      · (simp -dsimp only [↓RP, RQ0, RQ1, RQ2, RQ3, implies_true, forall_const, Nat.reduceMul, reduceIte, reduceCtorEq, Nat.reduceAdd, Nat.reduceEqDiff, Nat.reduceLT, Nat.reduceLeDiff, hs]); all_goals simp
      · (simp -dsimp only [↓RP, RQ0, RQ1, RQ2, RQ3, implies_true, forall_const, Nat.reduceMul, reduceIte, reduceCtorEq, Nat.reduceAdd, Nat.reduceEqDiff, Nat.reduceLT, Nat.reduceLeDiff]); all_goals simp
      · (simp -dsimp only [↓RP, RQ0, RQ1, RQ2, RQ3, implies_true, forall_const, Nat.reduceMul, reduceIte, reduceCtorEq, Nat.reduceAdd, Nat.reduceEqDiff, Nat.reduceLT, Nat.reduceLeDiff]); all_goals simp
    · have hUe : U = i := by omega
      subst hUe
      have hz : lzTo A L U U = lz A L U := rfl
      (repeat' (first | with_reducible refine splitVC_d (fun _ => ?_) (fun _ => ?_) | ((with_reducible refine And.intro ?_ ?_); focus (first | trivial | (simp only [InK]; omega) | omega | (simp only [InK, ne_eq, and_true, true_and]; omega))) | simp -dsimp only [↓RP, RQ0, RQ1, RQ2, RQ3, implies_true, forall_const, Nat.reduceMul, reduceIte, reduceCtorEq, Nat.reduceAdd, Nat.reduceEqDiff, Nat.reduceLT, Nat.reduceLeDiff, hz, by2, ty2, ty3, ty4, ty22, Int.toNat_natCast, Go.Proofs.Try.results57]))
      all_goals first | (exfalso; omega) | skip
      refine ⟨⟨by simp, by omega, fun a b ha hb => by rw [lit1 _ a b ha hb]; rfl, by omega⟩, by (first | trivial | (simp only [InK]; omega) | omega | (simp only [InK, ne_eq, and_true, true_and]; omega)), U + 1, by omega, by omega, weak [(60, some 96)] [] ?_ ?_ ?_⟩
      · (simp -dsimp only [↓RP, RQ0, RQ1, RQ2, RQ3, implies_true, forall_const, Nat.reduceMul, reduceIte, reduceCtorEq, Nat.reduceAdd, Nat.reduceEqDiff, Nat.reduceLT, Nat.reduceLeDiff]); all_goals simp
      · (simp -dsimp only [↓RP, RQ0, RQ1, RQ2, RQ3, implies_true, forall_const, Nat.reduceMul, reduceIte, reduceCtorEq, Nat.reduceAdd, Nat.reduceEqDiff, Nat.reduceLT, Nat.reduceLeDiff]); all_goals (try simp)
        exact fun a h1 h2 => app2 (fun j => .val (.int .i64 (lz A L j))) U a h1 h2
      · (simp -dsimp only [↓RP, RQ0, RQ1, RQ2, RQ3, implies_true, forall_const, Nat.reduceMul, reduceIte, reduceCtorEq, Nat.reduceAdd, Nat.reduceEqDiff, Nat.reduceLT, Nat.reduceLeDiff]); all_goals simp
  · have hin : i = m := by omega
    subst hin
    (repeat' (first | with_reducible refine splitVC_d (fun _ => ?_) (fun _ => ?_) | ((with_reducible refine And.intro ?_ ?_); focus (first | trivial | (simp only [InK]; omega) | omega | (simp only [InK, ne_eq, and_true, true_and]; omega))) | simp -dsimp only [↓RP, RQ0, RQ1, RQ2, RQ3, implies_true, forall_const, Nat.reduceMul, reduceIte, reduceCtorEq, Nat.reduceAdd, Nat.reduceEqDiff, Nat.reduceLT, Nat.reduceLeDiff, by2, ty2, ty3, ty4, ty22, Int.toNat_natCast, Go.Proofs.Try.results57]))
    all_goals first | (exfalso; omega) | skip
    refine ⟨60, _, rfl, ?_, ?_⟩
    · (simp -dsimp only [↓RP, RQ0, RQ1, RQ2, RQ3, implies_true, forall_const, Nat.reduceMul, reduceIte, reduceCtorEq, Nat.reduceAdd, Nat.reduceEqDiff, Nat.reduceLT, Nat.reduceLeDiff, I]); all_goals simp
    · (simp -dsimp only [↓RP, RQ0, RQ1, RQ2, RQ3, implies_true, forall_const, Nat.reduceMul, reduceIte, reduceCtorEq, Nat.reduceAdd, Nat.reduceEqDiff, Nat.reduceLT, Nat.reduceLeDiff])
end Go.Lg
end
section
set_option linter.unusedSimpArgs false
set_option linter.unusedVariables false
set_option maxRecDepth 100000
set_option maxHeartbeats 4000000
namespace Go.Lg
open Go.Sx
def sameL (m : Nat) (u : Nat → Int) (n : Nat) (v : Nat → Int) : Prop := m = n ∧ ∀ i, i < m → u i = v i
instance (m : Nat) (u : Nat → Int) (n : Nat) (v : Nat → Int) : Decidable (sameL m u n v) := by unfold sameL; infer_instance
theorem c33 (m : Nat) (u : Nat → Int) (n : Nat) (v : Nat → Int) (hm : m ≤ 1000000) : Contract Go.Proofs.Try.prog 33 [ints m u, ints n v] (B (decide (sameL m u n v))) := by
  refine contract_of Go.Proofs.Try.func33 rfl (by kernel_rfl) follows (by kernel_rfl) _ _ (by rw [Go.Proofs.Try.ntmps33]; simp) (by simp [OldL, Old, ints]) ?_
  unfold ints B
  (repeat' (first | with_reducible refine splitVC_d (fun _ => ?_) (fun _ => ?_) | ((with_reducible refine And.intro ?_ ?_); focus (first | trivial | (simp only [InK]; omega) | omega | (simp only [InK, ne_eq, and_true, true_and]; omega))) | simp -dsimp only [↓RP, RQ0, RQ1, RQ2, RQ3, implies_true, forall_const, Nat.reduceMul, reduceIte, reduceCtorEq, Nat.reduceAdd, Nat.reduceEqDiff, Nat.reduceLT, Nat.reduceLeDiff, ty2, ty3, ty4, ty22, Go.Proofs.Try.results33]))
  · rename_i hmn
    refine loop_vc (fun i => i ≤ m ∧ ∀ j, j < i → u j = v j) (fun i => ⟨[(0, .arr false false m 1 fun i _ => .val (.int .i64 (u i))), (1, .arr false false n 1 fun i _ => .val (.int .i64 (v i))), (5, .val (.int .i64 i))], [], 0⟩) (fun i => m - i) 0 ⟨by omega, fun j hj => by omega⟩ (weak [] [] ?_ ?_ ?_) fun i hi => ?_
    · (simp -dsimp only [↓RP, RQ0, RQ1, RQ2, RQ3, implies_true, forall_const, Nat.reduceMul, reduceIte, reduceCtorEq, Nat.reduceAdd, Nat.reduceEqDiff, Nat.reduceLT, Nat.reduceLeDiff]); all_goals simp
    · (simp -dsimp only [↓RP, RQ0, RQ1, RQ2, RQ3, implies_true, forall_const, Nat.reduceMul, reduceIte, reduceCtorEq, Nat.reduceAdd, Nat.reduceEqDiff, Nat.reduceLT, Nat.reduceLeDiff])
    · (simp -dsimp only [↓RP, RQ0, RQ1, RQ2, RQ3, implies_true, forall_const, Nat.reduceMul, reduceIte, reduceCtorEq, Nat.reduceAdd, Nat.reduceEqDiff, Nat.reduceLT, Nat.reduceLeDiff])
    (repeat' (first | with_reducible refine splitVC_d (fun _ => ?_) (fun _ => ?_) | ((with_reducible refine And.intro ?_ ?_); focus (first | trivial | (simp only [InK]; omega) | omega | (simp only [InK, ne_eq, and_true, true_and]; omega))) | simp -dsimp only [↓RP, RQ0, RQ1, RQ2, RQ3, implies_true, forall_const, Nat.reduceMul, reduceIte, reduceCtorEq, Nat.reduceAdd, Nat.reduceEqDiff, Nat.reduceLT, Nat.reduceLeDiff, ty2, ty3, ty4, ty22, Go.Proofs.Try.results33]))
    · rename_i h1 h2
      refine ⟨i + 1, ⟨by omega, fun j hj => ?_⟩, by omega, weak [] [] ?_ ?_ ?_⟩
      · by_cases e : j = i
        · subst e; exact h2
        · exact hi.2 j (by omega)
      · (simp -dsimp only [↓RP, RQ0, RQ1, RQ2, RQ3, implies_true, forall_const, Nat.reduceMul, reduceIte, reduceCtorEq, Nat.reduceAdd, Nat.reduceEqDiff, Nat.reduceLT, Nat.reduceLeDiff]); all_goals simp
      · (simp -dsimp only [↓RP, RQ0, RQ1, RQ2, RQ3, implies_true, forall_const, Nat.reduceMul, reduceIte, reduceCtorEq, Nat.reduceAdd, Nat.reduceEqDiff, Nat.reduceLT, Nat.reduceLeDiff])
      · (simp -dsimp only [↓RP, RQ0, RQ1, RQ2, RQ3, implies_true, forall_const, Nat.reduceMul, reduceIte, reduceCtorEq, Nat.reduceAdd, Nat.reduceEqDiff, Nat.reduceLT, Nat.reduceLeDiff])
    · rename_i h1 h2
      refine B_eq ?_; symm; exact decide_eq_false fun e => h2 (e.2 i (by omega))
    · rename_i h1
      refine B_eq ?_; symm; exact decide_eq_true ⟨by omega, fun j hj => hi.2 j (by omega)⟩
  · rename_i hmn
    refine B_eq ?_; symm; exact decide_eq_false fun e => hmn (by rw [e.1])
end Go.Lg
end
section
set_option linter.unusedSimpArgs false
set_option linter.unusedVariables false
set_option linter.defProp false
set_option maxRecDepth 100000
set_option maxHeartbeats 4000000
namespace Go.Lg
open Go.Sx
theorem ty77 : tyOf Go.Proofs.Try.prog 77 = some ⟨false, 1, some [.pointer none], .other⟩ := by kernel_rfl
theorem ty79 : tyOf Go.Proofs.Try.prog 79 = some ⟨false, 1, some [.nilFunc], .other⟩ := by kernel_rfl
theorem ty93 : tyOf Go.Proofs.Try.prog 93 = some ⟨true, 1, some [.slice none 0 0], .struct [(0, 1, some false)]⟩ := by kernel_rfl
theorem pl93 : placesOf Go.Proofs.Try.prog 93 = some [(0, 1)] := by kernel_rfl
theorem ty95 : tyOf Go.Proofs.Try.prog 95 = some ⟨true, 1, some [.int .i64 0], .struct [(0, 1, some false)]⟩ := by kernel_rfl
theorem pl95 : placesOf Go.Proofs.Try.prog 95 = some [(0, 1)] := by kernel_rfl
theorem eq95 : eqInfo Go.Proofs.Try.prog 95 = some [.i .i64] := by kernel_rfl
theorem ty96 : tyOf Go.Proofs.Try.prog 96 = some ⟨false, 1, some [.map none], .map 95 2⟩ := by kernel_rfl
theorem mi96 : mapInfo Go.Proofs.Try.prog 96 = some ⟨true, [.i .i64], .int .i64 0⟩ := by kernel_rfl
theorem ty98 : tyOf Go.Proofs.Try.prog 98 = some ⟨true, 7, some [.int .i64 0, .int .i64 0, .int .i64 0, .int .i64 0, .int .i64 0, .int .i64 0, .int .i64 0], .array 7 2 1⟩ := by kernel_rfl
theorem pl98 : placesOf Go.Proofs.Try.prog 98 = some [(0, 1), (1, 1), (2, 1), (3, 1), (4, 1), (5, 1), (6, 1)] := by kernel_rfl
theorem eq98 : eqInfo Go.Proofs.Try.prog 98 = some [.i .i64, .i .i64, .i .i64, .i .i64, .i .i64, .i .i64, .i .i64] := by kernel_rfl
theorem ty100 : tyOf Go.Proofs.Try.prog 100 = some ⟨true, 10, some [.slice none 0 0, .map none, .int .i64 0, .int .i64 0, .int .i64 0, .int .i64 0, .int .i64 0, .int .i64 0, .int .i64 0, .int .i64 0], .struct [(0, 1, some true), (1, 1, some false), (2, 7, some true), (9, 1, some false)]⟩ := by kernel_rfl
theorem pl100 : placesOf Go.Proofs.Try.prog 100 = some [(0, 1), (1, 1), (2, 7), (9, 1)] := by kernel_rfl
theorem ty102 : tyOf Go.Proofs.Try.prog 102 = some ⟨false, 1, some [.nilFunc], .other⟩ := by kernel_rfl
theorem ty108 : tyOf Go.Proofs.Try.prog 108 = some ⟨false, 1, some [.nilFunc], .other⟩ := by kernel_rfl
def TY :=
  And.intro ty2 <| And.intro ty3 <| And.intro ty4 <| And.intro ty22 <| And.intro ty23 <| And.intro ty27 <| And.intro ty32 <| And.intro pl32 <| And.intro ty77 <| And.intro ty79 <| And.intro ty93 <| And.intro pl93 <| And.intro ty95 <| And.intro pl95 <| And.intro eq95 <| And.intro ty96 <|
  And.intro mi96 <| And.intro ty98 <| And.intro pl98 <| And.intro eq98 <| And.intro ty100 <| And.intro pl100 <| And.intro ty102 ty108
def bk (n : Int) : Value := .agg #[.int .i64 n]
def k1 (v : Value) : Int := match v with | .agg cs => (match cs.toList with | [.int _ n] => n | _ => -1) | _ => -1
abbrev kf : Value → Bool := keyFit true [.i .i64]
theorem k1_bk (n : Int) : k1 (bk n) = n := rfl
theorem kf_bk (n : Int) : kf (bk n) = true := rfl
theorem fit_mk_int {cs : Array Value} (h : fitL [.i .i64] cs.toList = true) : ∃ n, #[Value.int .i64 n] = cs := by
  obtain ⟨l⟩ := cs
  cases l with
  | nil => simp [fitL] at h
  | cons x l =>
    cases l with
    | cons y l => simp [fitL] at h
    | nil =>
      simp [fitL] at h
      cases x <;> simp [lfOk] at h
      subst h
      exact ⟨_, rfl⟩
theorem kf_mk {v : Value} (h : kf v = true) : ∃ n, v = bk n := by
  unfold kf keyFit at h
  cases v <;> simp at h
  rename_i cs
  obtain ⟨n, hn⟩ := fit_mk_int h
  exact ⟨n, by unfold bk; rw [← hn]⟩
theorem eqK_bk (m n : Int) : eqK (bk m) (bk n) = decide (m = n) := by simp [eqK, bk, seqVs, seqV]
theorem eqK_bk' (m : Int) (v : Value) : eqK (bk m) v = (kf v && decide (m = k1 v)) := by
  cases h : kf v with
  | true =>
    obtain ⟨n, rfl⟩ := kf_mk h
    rw [eqK_bk]; rfl
  | false =>
    cases h2 : eqK (bk m) v with
    | false => rfl
    | true => rw [← eqK_eq h2, kf_bk] at h; cases h
def kdom (T : Nat) (v : Value) : Bool := kf v && (decide (0 ≤ k1 v) && (decide (k1 v = 0) || (decide ((T : Int) - 12 < k1 v) && decide (k1 v ≤ T))))
def kget (c : Curve) (v : Value) : SV := I (c.M (k1 v).toNat)
theorem kdom_zero : putDom (fun _ => false) (bk 0) = kdom 0 := by
  funext v
  unfold putDom kdom
  rw [eqK_bk']
  cases kf v
  · rfl
  · rw [Bool.eq_iff_iff]; simp; omega
theorem kdom_zero0 : kdom 0 (bk 0) = true := by rfl
theorem kdom_step (T : Nat) (h : T + 1 ≠ 12) : cutDom (putDom (kdom T) (bk ((T : Int) + 1))) (bk ((T : Int) + 1 - 12)) = kdom (T + 1) := by
  funext v
  unfold cutDom putDom kdom
  rw [eqK_bk', eqK_bk']
  cases kf v
  · rfl
  · rw [Bool.eq_iff_iff]; simp; omega
theorem kdom_step12 (T : Nat) (h : T + 1 = 12) : putDom (kdom T) (bk ((T : Int) + 1)) = kdom (T + 1) := by
  funext v
  unfold putDom kdom
  rw [eqK_bk']
  cases kf v
  · rfl
  · rw [Bool.eq_iff_iff]; simp; omega
theorem kdom_at (T t : Nat) (h : t = 0 ∨ (T < t + 12 ∧ t ≤ T)) : kdom T (bk t) = true := by
  unfold kdom
  rw [kf_bk, k1_bk]; simp; omega
theorem kget_at (c : Curve) (t : Nat) : kget c (bk t) = I (c.M t) := by
  unfold kget; rw [k1_bk]; rfl
theorem kget_put (c : Curve) (t : Nat) : putGet (kget c) (bk t) (I (c.M t)) = kget c := by
  funext v
  unfold putGet
  rw [eqK_bk']
  cases hv : kf v with
  | false => simp [svIte]
  | true =>
    obtain ⟨n, rfl⟩ := kf_mk hv
    rw [k1_bk]
    by_cases e : (t : Int) = n
    · subst e; simp [svIte, kget_at]
    · simp [svIte, e]
theorem kget_put2 (c : Curve) (x : SV) (t : Nat) : putGet (putGet (kget c) (bk t) x) (bk t) (I (c.M t)) = kget c := by
  funext v
  unfold putGet
  rw [eqK_bk']
  cases hv : kf v with
  | false => simp [svIte]
  | true =>
    obtain ⟨n, rfl⟩ := kf_mk hv
    rw [k1_bk]
    by_cases e : (t : Int) = n
    · subst e; simp [svIte, kget_at]
    · simp [svIte, e]
theorem ne_l {a n : Nat} (h : a < n) (k : Nat) : (a = n + k) = False := by simp; omega
theorem ne_r {a n : Nat} (h : a < n) (k : Nat) : (n + k = a) = False := by simp; omega
theorem ne_0 {a n : Nat} (h : a < n) : (a = n) = False := by simp; omega
theorem ne_1 {a n : Nat} (h : a < n) : (n = a) = False := by simp; omega
theorem names2 {a b n : Nat} (hab : a ≠ b) (ha : a < n) (hb : b < n) : ((a = b) = False ∧ (b = a) = False) ∧ ((∀ k, (a = n + k) = False) ∧ (∀ k, (n + k = a) = False) ∧ (a = n) = False ∧ (n = a) = False) ∧ ((∀ k, (b = n + k) = False) ∧ (∀ k, (n + k = b) = False) ∧ (b = n) = False ∧ (n = b) = False) :=
  ⟨⟨by simp [hab], by simp [Ne.symm hab]⟩, ⟨ne_l ha, ne_r ha, ne_0 ha, ne_1 ha⟩, ⟨ne_l hb, ne_r hb, ne_0 hb, ne_1 hb⟩⟩
theorem names3 {a b c n : Nat} (hab : a ≠ b) (hac : a ≠ c) (hbc : b ≠ c) (ha : a < n) (hb : b < n) (hc : c < n) : (((a = b) = False ∧ (b = a) = False) ∧ ((a = c) = False ∧ (c = a) = False) ∧ ((b = c) = False ∧ (c = b) = False)) ∧ ((∀ k, (a = n + k) = False) ∧ (∀ k, (n + k = a) = False) ∧ (a = n) = False ∧ (n = a) = False) ∧ ((∀ k, (b = n + k) = False) ∧ (∀ k, (n + k = b) = False) ∧ (b = n) = False ∧ (n = b) = False) ∧ ((∀ k, (c = n + k) = False) ∧ (∀ k, (n + k = c) = False) ∧ (c = n) = False ∧ (n = c) = False) :=
  ⟨⟨⟨by simp [hab], by simp [Ne.symm hab]⟩, ⟨by simp [hac], by simp [Ne.symm hac]⟩, ⟨by simp [hbc], by simp [Ne.symm hbc]⟩⟩, ⟨ne_l ha, ne_r ha, ne_0 ha, ne_1 ha⟩, ⟨ne_l hb, ne_r hb, ne_0 hb, ne_1 hb⟩, ⟨ne_l hc, ne_r hc, ne_0 hc, ne_1 hc⟩⟩
theorem self_F1 (n k : Nat) : (n + (k + 1) = n) = False := by simp
theorem self_F2 (n k : Nat) : (n = n + (k + 1)) = False := by simp
theorem blk_head (i : Nat) (b : Blk) (l : List (Nat × Blk)) : blk ((i, b) :: l) i = some b := by simp [blk]
theorem dropBlk_none {l : List (Nat × Blk)} {j : Nat} (h : blk l j = none) : dropBlk l j = l := by
  induction l with
  | nil => rfl
  | cons p l ih =>
    obtain ⟨i, b⟩ := p
    simp only [blk] at h
    split at h
    · cases h
    · rename_i hne
      simp only [dropBlk]
      rw [if_neg hne, ih h]
def Under (l : List (Nat × Blk)) (n : Nat) : Prop := ∀ k x, blk l k = some x → k < n
theorem Under.none {l : List (Nat × Blk)} {n : Nat} (h : Under l n) {k : Nat} (hk : n ≤ k) : blk l k = none := by
  cases hb : blk l k with
  | none => rfl
  | some x => have := h k x hb; omega
theorem Under.drop {l : List (Nat × Blk)} {n : Nat} (h : Under l n) {m : Nat} (hm : n ≤ m) (k : Nat) : dropBlk l (m + k) = l := dropBlk_none (h.none (by omega))
theorem Under.drop0 {l : List (Nat × Blk)} {n : Nat} (h : Under l n) {m : Nat} (hm : n ≤ m) : dropBlk l m = l := dropBlk_none (h.none hm)
theorem Under.mono {l : List (Nat × Blk)} {n m : Nat} (h : Under l n) (hm : n ≤ m) : Under l m := fun k x hx => Nat.lt_of_lt_of_le (h k x hx) hm
theorem Under.cons {l : List (Nat × Blk)} {n i : Nat} {b : Blk} (h : Under l n) (hi : i < n) : Under ((i, b) :: l) n := fun k x hx => by
  simp only [blk] at hx
  split at hx
  · omega
  · exact h k x hx
theorem Under.nil {n : Nat} : Under [] n := fun k x hx => by simp [blk] at hx
theorem SubHp.cons {l l' : List (Nat × Blk)} {i : Nat} {b : Blk} (h : SubHp l l') : SubHp ((i, b) :: l) ((i, b) :: l') := fun k x hx => by
  simp only [blk] at hx ⊢
  split
  · rename_i e; rw [if_pos e] at hx; exact hx
  · rename_i e; rw [if_neg e] at hx; exact h k x hx
theorem SubHp.skip {l l' : List (Nat × Blk)} {i : Nat} {b : Blk} (hb : blk l' i = none) (h : SubHp l l') : SubHp ((i, b) :: l) l' := fun k x hx => by
  simp only [blk]
  split
  · rename_i e; subst e; rw [hb] at hx; cases hx
  · exact h k x hx
end Go.Lg
end
