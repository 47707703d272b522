/- A part of the proof. -/
import Derived.Test.YtnpannhbeapidaaLJ
import Derived.Test.YtnpannhbeapidaaLD
section
set_option linter.unusedSimpArgs false
set_option linter.unusedVariables false
set_option linter.defProp false
set_option maxRecDepth 100000
set_option maxHeartbeats 16000000
namespace Go.Lg
open Go.Sx
theorem foldMin_mono (f g : Nat → Int) : ∀ m, (∀ k, k ≤ m → f k ≤ g k) → foldMin f m ≤ foldMin g m
  | 0, h => h 0 (Nat.le_refl _)
  | m + 1, h => by
    have h1 := foldMin_mono f g m (fun k hk => h k (by omega))
    have h2 := h (m + 1) (Nat.le_refl _)
    simp only [foldMin]; omega
theorem M_more (c d : Curve) (hm : c.m = d.m) (hu : ∀ i, i < c.m → c.u i ≤ d.u i) (m1 : 1 ≤ c.m) : ∀ k, c.M k ≤ d.M k := by
  intro k
  induction k using Nat.strongRecOn with
  | _ k ih =>
    cases k with
    | zero => rw [M_zero, M_zero]; exact Int.le_refl _
    | succ k =>
      rw [M_succ, M_succ, ← hm]
      refine foldMin_mono _ _ _ fun p hp => ?_
      have h1 := ih (k - p) (by omega)
      have h2 := hu p (by omega)
      omega
theorem L1_less (c d : Curve) (hm : c.m = d.m) (hu : ∀ i, i < c.m → c.u i ≤ d.u i) (m1 : 1 ≤ c.m) (k : Nat) : c.L1 k ≤ d.L1 k := by
  unfold Curve.L1
  rw [← hm]
  have h1 := Int.mul_le_mul_of_nonneg_left (hu (c.m - 1) (by omega)) (show (0 : Int) ≤ ((k / c.m : Nat) : Int) from Int.natCast_nonneg _)
  have h2 := Nat.mod_lt k m1
  split
  · have h3 := hu (k % c.m - 1) (by omega); omega
  · omega
theorem Ls_less (C D : Nat → Curve) : ∀ i, (∀ j, j ≤ i → ∀ k, (C j).L1 k ≤ (D j).L1 k) → ∀ k, Ls C i k ≤ Ls D i k
  | 0, h, k => h 0 (by omega) k
  | i + 1, h, k => foldMin_mono _ _ k fun p hp => by
    have h1 := Ls_less C D i (fun j hj => h j (by omega)) (k - p)
    have h2 := h (i + 1) (by omega) p
    omega
theorem Ls_congr (C D : Nat → Curve) : ∀ i, (∀ j, j ≤ i → C j = D j) → Ls C i = Ls D i
  | 0, h => by show (C 0).L1 = (D 0).L1; rw [h 0 (by omega)]
  | i + 1, h => by
    show (fun k => foldMin (fun p => Ls C i (k - p) + (C (i + 1)).L1 p) k) = (fun k => foldMin (fun p => Ls D i (k - p) + (D (i + 1)).L1 p) k)
    rw [Ls_congr C D i (fun j hj => h j (by omega)), h (i + 1) (by omega)]
theorem bestTo_mono (f g : Nat → Int) : ∀ k, (∀ j, j < k → f j ≤ g j) → bestTo f k ≤ bestTo g k
  | 0, _ => Int.le_refl _
  | k + 1, h => by
    have h1 := bestTo_mono f g k (fun j hj => h j (by omega))
    have h2 := h k (by omega)
    simp only [bestTo]; omega
theorem fstG_mono (P Q : Nat → Bool) (h : ∀ j, Q j = true → P j = true) : ∀ n i, fstG P i n ≤ fstG Q i n
  | 0, i => Nat.le_refl _
  | n + 1, i => by
    simp only [fstG]
    by_cases hq : Q i = true
    · rw [if_pos hq, if_pos (h i hq)]; exact Nat.le_refl _
    · rw [if_neg hq]
      have h1 := fstG_mono P Q h n (i + 1)
      have h2 := fstG_range Q n (i + 1)
      split
      · omega
      · exact h1
structure Worse (c : Curve) (n : Nat) (C : Nat → Curve) (c' : Curve) (n' : Nat) (C' : Nat → Curve) : Prop where
  m : ∀ k, c.M k ≤ c'.M k
  l : ∀ k, Lc n' C' k ≤ Lc n C k
theorem Worse.wait {c c' : Curve} {n n' : Nat} {C C' : Nat → Curve} (h : Worse c n C c' n' C') : waitB c n C ≤ waitB c' n' C' :=
  bestTo_mono _ _ _ fun j _ => by have := h.m j; have := h.l j; omega
theorem Worse.late {c c' : Curve} {n n' : Nat} {C C' : Nat → Curve} (h : Worse c n C c' n' C') : lateB c n C ≤ lateB c' n' C' :=
  bestTo_mono _ _ _ fun k _ => by
    have h1 : lateF c.M (Lc n C) k ≤ lateF c'.M (Lc n' C') k := fstG_mono _ _ (fun j hj => by
      have hj := of_decide_eq_true hj
      have := h.m k; have := h.l j
      exact decide_eq_true (by omega)) _ _
    omega
def upT (c : Curve) (f d t j : Nat) : Int := if f ≤ j ∧ j < t then min 100 (c.u j + d) else c.u j
def slT (c : Curve) (d t j : Nat) : Int := if j < t then max 0 (c.u j - d) else c.u j
theorem upT_put (c : Curve) (f d t a : Nat) (hf : f ≤ t) : (if a = t then SV.val (.int .i64 (min 100 (c.u t + d))) else .val (.int .i64 (upT c f d t a))) = .val (.int .i64 (upT c f d (t + 1) a)) := by
  unfold upT
  by_cases e : a = t
  · subst e; rw [if_pos rfl, if_pos (by omega)]
  · rw [if_neg e]
    by_cases h : f ≤ a ∧ a < t
    · rw [if_pos h, if_pos (by omega)]
    · rw [if_neg h, if_neg (by omega)]
theorem slT_put (c : Curve) (d t a : Nat) : (if a = t then SV.val (.int .i64 (max 0 (c.u t - d))) else .val (.int .i64 (slT c d t a))) = .val (.int .i64 (slT c d (t + 1) a)) := by
  unfold slT
  by_cases e : a = t
  · subst e; rw [if_pos rfl, if_pos (by omega)]
  · rw [if_neg e]
    by_cases h : a < t
    · rw [if_pos h, if_pos (by omega)]
    · rw [if_neg h, if_neg (by omega)]
theorem upT_at (c : Curve) (f d t : Nat) : upT c f d t t = c.u t := by unfold upT; rw [if_neg (by omega)]
theorem slT_at (c : Curve) (d t : Nat) : slT c d t t = c.u t := by unfold slT; rw [if_neg (by omega)]
theorem upT_lo (c : Curve) (f d j : Nat) : upT c f d f j = c.u j := by unfold upT; rw [if_neg (by omega)]
theorem slT_lo (c : Curve) (d j : Nat) : slT c d 0 j = c.u j := by unfold slT; rw [if_neg (by omega)]
def upC (c : Curve) (f d : Nat) : Curve := ⟨c.m, upT c f d c.m⟩
def slC (c : Curve) (d r : Nat) : Curve := ⟨c.m, slT c d (r + 1)⟩
def exch (C : Nat → Curve) (x : Curve) (j : Nat) : Curve := if j = 0 then x else C j
def wide1 (n : Nat) (C : Nat → Curve) (x : Curve) (j : Nat) : Curve := if j < n then C j else x
theorem worse_up (c : Curve) (hc : c.Fine) (n : Nat) (C : Nat → Curve) (f d : Nat) : Worse c n C (upC c f d) n C :=
  ⟨M_more c (upC c f d) rfl (fun i hi => by
    have := hc.rg i hi
    show c.u i ≤ upT c f d c.m i
    unfold upT
    split <;> omega) hc.m1, fun k => Int.le_refl _⟩
theorem worse_slow (c : Curve) (n : Nat) (C : Nat → Curve) (n1 : 1 ≤ n) (hC : ∀ i, i < n → (C i).Fine) (d r : Nat) : Worse c n C c n (exch C (slC (C 0) d r)) :=
  ⟨fun k => Int.le_refl _, fun k => Ls_less _ _ (n - 1) (fun j hj k => by
    have h0 := hC 0 (by omega)
    unfold exch
    split
    · rename_i e
      subst e
      refine L1_less (slC (C 0) d r) (C 0) rfl (fun i hi => ?_) h0.m1 k
      have := h0.rg i hi
      show slT (C 0) d (r + 1) i ≤ _
      unfold slT
      split <;> omega
    · exact Int.le_refl _) k⟩
theorem worse_wide (c : Curve) (n : Nat) (C : Nat → Curve) (n1 : 1 ≤ n) (x : Curve) : Worse c n C c (n + 1) (wide1 n C x) :=
  ⟨fun k => Int.le_refl _, fun k => by
    obtain ⟨i, rfl⟩ : ∃ i, n = i + 1 := ⟨n - 1, by omega⟩
    show Ls (wide1 (i + 1) C x) (i + 1) k ≤ Ls C i k
    have h1 := Ls_le (wide1 (i + 1) C x) i k 0 (Nat.zero_le _)
    rw [L1_zero, Nat.sub_zero, Ls_congr (wide1 (i + 1) C x) C i (fun j hj => by unfold wide1; rw [if_pos (by omega)])] at h1
    omega⟩
end Go.Lg
end
section
set_option linter.unusedSimpArgs false
set_option linter.unusedVariables false
set_option linter.defProp false
set_option maxRecDepth 100000
set_option maxHeartbeats 16000000
namespace Go.Lg
open Go.Sx
theorem ty69 : tyOf Go.Proofs.Try.prog 69 = some ⟨true, 2, some [.int .u8 0, .int .u8 0], .array 2 5 1⟩ := by kernel_rfl
theorem pl69 : placesOf Go.Proofs.Try.prog 69 = some [(0, 1), (1, 1)] := by kernel_rfl
theorem ty70 : tyOf Go.Proofs.Try.prog 70 = some ⟨false, 1, some [.slice none 0 0], .slice 23 1⟩ := by kernel_rfl
theorem by22 : bytesOf Go.Proofs.Try.prog 22 = 24 := by kernel_rfl
theorem by23 : bytesOf Go.Proofs.Try.prog 23 = 24 := by kernel_rfl
theorem tm9 (a : Nat) : (a : Int).tmod 9 = ((a % 9 : Nat) : Int) := rfl
def csM (c : Curve) (f d i : Nat) : Curve := if i = 0 then upC c f d else c
def nsM (n i : Nat) : Nat := if i = 2 then n + 1 else n
def CsM (n : Nat) (C : Nat → Curve) (e r : Nat) (x : Curve) (i : Nat) : Nat → Curve := if i = 1 then exch C (slC (C 0) e r) else if i = 2 then wide1 n C x else C
theorem worseM (c : Curve) (hc : c.Fine) (n : Nat) (C : Nat → Curve) (n1 : 1 ≤ n) (hC : ∀ i, i < n → (C i).Fine) (f d e r : Nat) (x : Curve) (i : Nat) (hi : i < 3) : Worse c n C (csM c f d i) (nsM n i) (CsM n C e r x i) := by
  unfold csM nsM CsM
  rcases i with _ | _ | _ | i
  · exact worse_up c hc n C f d
  · exact worse_slow c n C n1 hC e r
  · exact worse_wide c n C n1 x
  · omega
theorem c14 (hw : Wk19) (c : Curve) (n : Nat) (C : Nat → Curve) (a0 a1 b0 b1 : Nat) (ha0 : a0 ≤ 255) (ha1 : a1 ≤ 255) (hb0 : b0 ≤ 255) (hb1 : b1 ≤ 255) (x : Curve) : Contract Go.Proofs.Try.prog 14 [c.sv, chn n C, .agg [.val (.int .u8 a0), .val (.int .u8 a1)], .agg [.val (.int .u8 b0), .val (.int .u8 b1)], x.sv] (B true) := by
  refine contract_of Go.Proofs.Try.func14 rfl (by kernel_rfl) follows (by kernel_rfl) _ _ (by rw [Go.Proofs.Try.ntmps14]; simp) (by simp only [OldL, c.old, x.old, chn_old, and_self, and_true, true_and]; simp [Old, OldL]) ?_
  unfold B
  conv => arg 4; unfold chn Curve.sv ints
  (repeat' (first | with_reducible refine splitVC_d (fun _ => ?_) (fun _ => ?_) | ((with_reducible refine And.intro ?_ ?_); focus (first | exact True.intro | (simp only [InK]; omega) | omega | (simp only [InK, ne_eq, and_true, true_and]; omega) | trivial)) | (simp -dsimp only [↓RP, RQ0, RQ1, RQ2, RQ3, implies_true, forall_const, Nat.reduceMul, reduceIte, reduceCtorEq, Nat.reduceAdd, Nat.reduceEqDiff, Nat.reduceLT, Nat.reduceLeDiff, ty69, pl69, ty70, by23, by22, tup3, B, I, by2, ty5, ty51, decide_true, decide_false, Bool.not_true, Bool.not_false, eq_self, and_self, Nat.zero_add, Int.toNat_natCast, TY, Go.Proofs.Try.results14])))
  refine callVC (c46 c n C) (by (simp -dsimp only [↓RP, RQ0, RQ1, RQ2, RQ3, implies_true, forall_const, Nat.reduceMul, reduceIte, reduceCtorEq, Nat.reduceAdd, Nat.reduceEqDiff, Nat.reduceLT, Nat.reduceLeDiff, chn, Curve.sv, ints, I, B]); all_goals (try simp); all_goals exact fun _ _ => rfl) (by (simp -dsimp only [↓RP, RQ0, RQ1, RQ2, RQ3, implies_true, forall_const, Nat.reduceMul, reduceIte, reduceCtorEq, Nat.reduceAdd, Nat.reduceEqDiff, Nat.reduceLT, Nat.reduceLeDiff, B])) ?_
  (repeat' (first | with_reducible refine splitVC_d (fun _ => ?_) (fun _ => ?_) | ((with_reducible refine And.intro ?_ ?_); focus (first | exact True.intro | (simp only [InK]; omega) | omega | (simp only [InK, ne_eq, and_true, true_and]; omega) | trivial)) | (simp -dsimp only [↓RP, RQ0, RQ1, RQ2, RQ3, implies_true, forall_const, Nat.reduceMul, reduceIte, reduceCtorEq, Nat.reduceAdd, Nat.reduceEqDiff, Nat.reduceLT, Nat.reduceLeDiff, ty69, pl69, ty70, by23, by22, tup3, B, I, by2, ty5, ty51, decide_true, decide_false, Bool.not_true, Bool.not_false, eq_self, and_self, Nat.zero_add, Int.toNat_natCast, TY, Go.Proofs.Try.results14])))
  all_goals first | (refine callVC hw (by (simp -dsimp only [↓RP, RQ0, RQ1, RQ2, RQ3, implies_true, forall_const, Nat.reduceMul, reduceIte, reduceCtorEq, Nat.reduceAdd, Nat.reduceEqDiff, Nat.reduceLT, Nat.reduceLeDiff])) (by (simp -dsimp only [↓RP, RQ0, RQ1, RQ2, RQ3, implies_true, forall_const, Nat.reduceMul, reduceIte, reduceCtorEq, Nat.reduceAdd, Nat.reduceEqDiff, Nat.reduceLT, Nat.reduceLeDiff, B])) ?_; (repeat' (first | with_reducible refine splitVC_d (fun _ => ?_) (fun _ => ?_) | ((with_reducible refine And.intro ?_ ?_); focus (first | exact True.intro | (simp only [InK]; omega) | omega | (simp only [InK, ne_eq, and_true, true_and]; omega) | trivial)) | (simp -dsimp only [↓RP, RQ0, RQ1, RQ2, RQ3, implies_true, forall_const, Nat.reduceMul, reduceIte, reduceCtorEq, Nat.reduceAdd, Nat.reduceEqDiff, Nat.reduceLT, Nat.reduceLeDiff, by22, tup3, B, I, by2, ty5, ty51, decide_true, decide_false, Bool.not_true, Bool.not_false, eq_self, and_self, Nat.zero_add, Int.toNat_natCast, TY, Go.Proofs.Try.results14]))); done) | skip
  rename_i h1
  refine callVC (c17 x) (by (simp -dsimp only [↓RP, RQ0, RQ1, RQ2, RQ3, implies_true, forall_const, Nat.reduceMul, reduceIte, reduceCtorEq, Nat.reduceAdd, Nat.reduceEqDiff, Nat.reduceLT, Nat.reduceLeDiff, Curve.sv, ints, I, B]); all_goals (try simp)) (by (simp -dsimp only [↓RP, RQ0, RQ1, RQ2, RQ3, implies_true, forall_const, Nat.reduceMul, reduceIte, reduceCtorEq, Nat.reduceAdd, Nat.reduceEqDiff, Nat.reduceLT, Nat.reduceLeDiff, B])) ?_
  (repeat' (first | with_reducible refine splitVC_d (fun _ => ?_) (fun _ => ?_) | ((with_reducible refine And.intro ?_ ?_); focus (first | exact True.intro | (simp only [InK]; omega) | omega | (simp only [InK, ne_eq, and_true, true_and]; omega) | trivial)) | (simp -dsimp only [↓RP, RQ0, RQ1, RQ2, RQ3, implies_true, forall_const, Nat.reduceMul, reduceIte, reduceCtorEq, Nat.reduceAdd, Nat.reduceEqDiff, Nat.reduceLT, Nat.reduceLeDiff, ty69, pl69, ty70, by23, by22, tup3, B, I, by2, ty5, ty51, decide_true, decide_false, Bool.not_true, Bool.not_false, eq_self, and_self, Nat.zero_add, Int.toNat_natCast, TY, Go.Proofs.Try.results14])))
  all_goals first | (refine callVC hw (by (simp -dsimp only [↓RP, RQ0, RQ1, RQ2, RQ3, implies_true, forall_const, Nat.reduceMul, reduceIte, reduceCtorEq, Nat.reduceAdd, Nat.reduceEqDiff, Nat.reduceLT, Nat.reduceLeDiff])) (by (simp -dsimp only [↓RP, RQ0, RQ1, RQ2, RQ3, implies_true, forall_const, Nat.reduceMul, reduceIte, reduceCtorEq, Nat.reduceAdd, Nat.reduceEqDiff, Nat.reduceLT, Nat.reduceLeDiff, B])) ?_; (repeat' (first | with_reducible refine splitVC_d (fun _ => ?_) (fun _ => ?_) | ((with_reducible refine And.intro ?_ ?_); focus (first | exact True.intro | (simp only [InK]; omega) | omega | (simp only [InK, ne_eq, and_true, true_and]; omega) | trivial)) | (simp -dsimp only [↓RP, RQ0, RQ1, RQ2, RQ3, implies_true, forall_const, Nat.reduceMul, reduceIte, reduceCtorEq, Nat.reduceAdd, Nat.reduceEqDiff, Nat.reduceLT, Nat.reduceLeDiff, by22, tup3, B, I, by2, ty5, ty51, decide_true, decide_false, Bool.not_true, Bool.not_false, eq_self, and_self, Nat.zero_add, Int.toNat_natCast, TY, Go.Proofs.Try.results14]))); done) | skip
  rename_i h2
  have hA := ask_ok h1
  have hc := hA.fine
  have hm6 := hc.m6
  have hm1 := hc.m1
  have n1 := hA.n1
  have n3 := hA.n3
  have hC0 := hA.fines 0 (by omega)
  have h01 := hC0.m1
  have h06 := hC0.m6
  have k40 := c40 c n C (by omega) (fun i hi => by have := (hA.fines i hi).m6; omega)
  have k42 := c42 c n C (by omega) (fun i hi => by have := (hA.fines i hi).m6; omega)
  rw [show waitV c n C = (waitB c n C, 0) by unfold waitV; rw [if_pos h1]] at k40
  rw [show lateV c n C = (lateB c n C, 0) by unfold lateV; rw [if_pos h1]] at k42
  refine callVC k40 (by (simp -dsimp only [↓RP, RQ0, RQ1, RQ2, RQ3, implies_true, forall_const, Nat.reduceMul, reduceIte, reduceCtorEq, Nat.reduceAdd, Nat.reduceEqDiff, Nat.reduceLT, Nat.reduceLeDiff, chn, Curve.sv, ints, I, B]); all_goals (try simp); all_goals exact fun _ _ => rfl) (by (simp -dsimp only [↓RP, RQ0, RQ1, RQ2, RQ3, implies_true, forall_const, Nat.reduceMul, reduceIte, reduceCtorEq, Nat.reduceAdd, Nat.reduceEqDiff, Nat.reduceLT, Nat.reduceLeDiff, I])) ?_
  (repeat' (first | with_reducible refine splitVC_d (fun _ => ?_) (fun _ => ?_) | ((with_reducible refine And.intro ?_ ?_); focus (first | exact True.intro | (simp only [InK]; omega) | omega | (simp only [InK, ne_eq, and_true, true_and]; omega) | trivial)) | (simp -dsimp only [↓RP, RQ0, RQ1, RQ2, RQ3, implies_true, forall_const, Nat.reduceMul, reduceIte, reduceCtorEq, Nat.reduceAdd, Nat.reduceEqDiff, Nat.reduceLT, Nat.reduceLeDiff, ty69, pl69, ty70, by23, by22, tup3, B, I, by2, ty5, ty51, decide_true, decide_false, Bool.not_true, Bool.not_false, eq_self, and_self, Nat.zero_add, Int.toNat_natCast, TY, Go.Proofs.Try.results14])))
  refine callVC k42 (by (simp -dsimp only [↓RP, RQ0, RQ1, RQ2, RQ3, implies_true, forall_const, Nat.reduceMul, reduceIte, reduceCtorEq, Nat.reduceAdd, Nat.reduceEqDiff, Nat.reduceLT, Nat.reduceLeDiff, chn, Curve.sv, ints, I, B]); all_goals (try simp); all_goals exact fun _ _ => rfl) (by (simp -dsimp only [↓RP, RQ0, RQ1, RQ2, RQ3, implies_true, forall_const, Nat.reduceMul, reduceIte, reduceCtorEq, Nat.reduceAdd, Nat.reduceEqDiff, Nat.reduceLT, Nat.reduceLeDiff, I])) ?_
  have ef := tmN b0 c.m
  have er := tmN b1 (C 0).m
  have ed := tm9 a0
  have ee := tm9 a1
  have lf := Nat.mod_lt b0 hm1
  have lr := Nat.mod_lt b1 h01
  have hW := fun f d e r i hi => worseM c hc n C n1 (fun i hi => hA.fines i hi) f d e r x i hi
  generalize b0 % c.m = f at *
  generalize b1 % (C 0).m = r at *
  have ld := Nat.mod_lt a0 (show 0 < 9 by omega)
  have le := Nat.mod_lt a1 (show 0 < 9 by omega)
  generalize a0 % 9 = d at *
  generalize a1 % 9 = e at *
  generalize hwt : waitB c n C = wt at *
  generalize hlt0 : lateB c n C = lt at *
  (repeat' (first | with_reducible refine splitVC_d (fun _ => ?_) (fun _ => ?_) | ((with_reducible refine And.intro ?_ ?_); focus (first | exact True.intro | (simp only [InK]; omega) | omega | (simp only [InK, ne_eq, and_true, true_and]; omega) | trivial)) | (simp -dsimp only [↓RP, RQ0, RQ1, RQ2, RQ3, implies_true, forall_const, Nat.reduceMul, reduceIte, reduceCtorEq, Nat.reduceAdd, Nat.reduceEqDiff, Nat.reduceLT, Nat.reduceLeDiff, ef, Nat.not_lt_zero, Nat.sub_zero, if_false, ty69, pl69, ty70, by23, by22, tup3, B, I, by2, ty5, ty51, decide_true, decide_false, Bool.not_true, Bool.not_false, eq_self, and_self, Nat.zero_add, Int.toNat_natCast, TY, Go.Proofs.Try.results14])))
  refine ⟨⟨.inr trivial, by omega⟩, ⟨by omega, by simp⟩, by (first | trivial | (simp only [InK]; omega) | omega | (simp only [InK, ne_eq, and_true, true_and]; omega)), by omega, ?_⟩
  refine loop_vc (fun (t : Nat) => f ≤ t ∧ t ≤ c.m) (fun t => ⟨[(0, .arr false false c.m 1 (fun i _ => .val (.int .i64 (c.u i)))), (1, .arr false false n 1 (fun i _ => .arr false false (C i).m 1 (fun j _ => .val (.int .i64 ((C i).u j))))), (4, .arr false false x.m 1 (fun i _ => .val (.int .i64 (x.u i)))), (7, .ptr 60 0), (8, .ptr 61 0), (11, .val (.int .i64 wt)), (13, .val (.int .i64 lt)), (15, .vec 62 c.m 1), (16, .val (.int .i64 t))], [(60, .cells 69 [.val (.int .u8 a0), .val (.int .u8 a1)]), (61, .cells 69 [.val (.int .u8 b0), .val (.int .u8 b1)]), (62, .rows 2 1 c.m (fun j _ => .val (.int .i64 (upT c f d t j))))], 65⟩) (fun t => c.m - t) f ⟨Nat.le_refl _, by omega⟩ (weak [(60, some 0), (61, some 1), (62, some 35)] [] ?_ ?_ ?_) fun t ht => ?_
  · (simp -dsimp only [↓RP, RQ0, RQ1, RQ2, RQ3, implies_true, forall_const, Nat.reduceMul, reduceIte, reduceCtorEq, Nat.reduceAdd, Nat.reduceEqDiff, Nat.reduceLT, Nat.reduceLeDiff]); all_goals simp
  · (simp -dsimp only [↓RP, RQ0, RQ1, RQ2, RQ3, implies_true, forall_const, Nat.reduceMul, reduceIte, reduceCtorEq, Nat.reduceAdd, Nat.reduceEqDiff, Nat.reduceLT, Nat.reduceLeDiff]); all_goals (try simp [upT_lo])
  · (simp -dsimp only [↓RP, RQ0, RQ1, RQ2, RQ3, implies_true, forall_const, Nat.reduceMul, reduceIte, reduceCtorEq, Nat.reduceAdd, Nat.reduceEqDiff, Nat.reduceLT, Nat.reduceLeDiff]); all_goals simp
  obtain ⟨ht1, ht2⟩ := ht
  by_cases hlt : t < c.m
  · have u0 := hc.rg t hlt
    have hu := upT_at c f d t
    (repeat' (first | with_reducible refine splitVC_d (fun _ => ?_) (fun _ => ?_) | ((with_reducible refine And.intro ?_ ?_); focus (first | exact True.intro | (simp only [InK]; omega) | omega | (simp only [InK, ne_eq, and_true, true_and]; omega) | trivial)) | (simp -dsimp only [↓RP, RQ0, RQ1, RQ2, RQ3, implies_true, forall_const, Nat.reduceMul, reduceIte, reduceCtorEq, Nat.reduceAdd, Nat.reduceEqDiff, Nat.reduceLT, Nat.reduceLeDiff, hu, ed, ty69, pl69, ty70, by23, by22, tup3, B, I, by2, ty5, ty51, decide_true, decide_false, Bool.not_true, Bool.not_false, eq_self, and_self, Nat.zero_add, Int.toNat_natCast, TY, Go.Proofs.Try.results14])))
    all_goals first | (exfalso; omega) | skip
    refine ⟨t + 1, ⟨by omega, by omega⟩, by omega, weak [] [] ?_ ?_ ?_⟩
    · (simp -dsimp only [↓RP, RQ0, RQ1, RQ2, RQ3, implies_true, forall_const, Nat.reduceMul, reduceIte, reduceCtorEq, Nat.reduceAdd, Nat.reduceEqDiff, Nat.reduceLT, Nat.reduceLeDiff]); all_goals simp
    · (simp -dsimp only [↓RP, RQ0, RQ1, RQ2, RQ3, implies_true, forall_const, Nat.reduceMul, reduceIte, reduceCtorEq, Nat.reduceAdd, Nat.reduceEqDiff, Nat.reduceLT, Nat.reduceLeDiff]); all_goals (try simp)
      exact fun a ha => upT_put c f d t a ht1
    · (simp -dsimp only [↓RP, RQ0, RQ1, RQ2, RQ3, implies_true, forall_const, Nat.reduceMul, reduceIte, reduceCtorEq, Nat.reduceAdd, Nat.reduceEqDiff, Nat.reduceLT, Nat.reduceLeDiff]); all_goals simp
  have hin : t = c.m := by omega
  subst hin
  (repeat' (first | with_reducible refine splitVC_d (fun _ => ?_) (fun _ => ?_) | ((with_reducible refine And.intro ?_ ?_); focus (first | exact True.intro | (simp only [InK]; omega) | omega | (simp only [InK, ne_eq, and_true, true_and]; omega) | trivial)) | (simp -dsimp only [↓RP, RQ0, RQ1, RQ2, RQ3, implies_true, forall_const, Nat.reduceMul, reduceIte, reduceCtorEq, Nat.reduceAdd, Nat.reduceEqDiff, Nat.reduceLT, Nat.reduceLeDiff, Nat.not_lt_zero, Nat.sub_zero, if_false, ty69, pl69, ty70, by23, by22, tup3, B, I, by2, ty5, ty51, decide_true, decide_false, Bool.not_true, Bool.not_false, eq_self, and_self, Nat.zero_add, Int.toNat_natCast, TY, Go.Proofs.Try.results14])))
  all_goals first | (exfalso; omega) | skip
  refine ⟨⟨.inr trivial, by omega⟩, ⟨by omega, by omega⟩, ⟨.inr trivial, by omega⟩, ⟨by omega, by omega⟩, by omega, ?_⟩
  refine loop_vc (fun (t : Nat) => t ≤ r + 1) (fun t => ⟨[(0, .arr false false c.m 1 (fun i _ => .val (.int .i64 (c.u i)))), (1, .arr false false n 1 (fun i _ => .arr false false (C i).m 1 (fun j _ => .val (.int .i64 ((C i).u j))))), (4, .arr false false x.m 1 (fun i _ => .val (.int .i64 (x.u i)))), (7, .ptr 60 0), (8, .ptr 61 0), (11, .val (.int .i64 wt)), (13, .val (.int .i64 lt)), (15, .vec 62 c.m 1), (17, .vec 63 n 1), (18, .val (.int .i64 t))], [(60, .cells 69 [.val (.int .u8 a0), .val (.int .u8 a1)]), (61, .cells 69 [.val (.int .u8 b0), .val (.int .u8 b1)]), (62, .rows 2 1 c.m (fun j _ => .val (.int .i64 (upT c f d c.m j)))), (63, .rows 22 1 n (fun j _ => if j = 0 then .vec 64 (C 0).m 1 else .arr false false (C j).m 1 (fun a _ => .val (.int .i64 ((C j).u a))))), (64, .rows 2 1 (C 0).m (fun j _ => .val (.int .i64 (slT (C 0) e t j))))], 65⟩) (fun t => r + 1 - t) 0 (Nat.zero_le _) (weak [(60, some 60), (61, some 61), (62, some 62), (63, some 71), (64, some 78)] [] ?_ ?_ ?_) fun t ht => ?_
  · (simp -dsimp only [↓RP, RQ0, RQ1, RQ2, RQ3, implies_true, forall_const, Nat.reduceMul, reduceIte, reduceCtorEq, Nat.reduceAdd, Nat.reduceEqDiff, Nat.reduceLT, Nat.reduceLeDiff]); all_goals simp
  · (simp -dsimp only [↓RP, RQ0, RQ1, RQ2, RQ3, implies_true, forall_const, Nat.reduceMul, reduceIte, reduceCtorEq, Nat.reduceAdd, Nat.reduceEqDiff, Nat.reduceLT, Nat.reduceLeDiff]); all_goals (try simp [slT_lo])
    intro j hj
    by_cases e0 : j = 0 <;> simp [e0, Wk, ren]
  · (simp -dsimp only [↓RP, RQ0, RQ1, RQ2, RQ3, implies_true, forall_const, Nat.reduceMul, reduceIte, reduceCtorEq, Nat.reduceAdd, Nat.reduceEqDiff, Nat.reduceLT, Nat.reduceLeDiff]); all_goals simp
  by_cases hl2 : t < r + 1
  · have u0 := hC0.rg t (by omega)
    have hu := slT_at (C 0) e t
    (repeat' (first | with_reducible refine splitVC_d (fun _ => ?_) (fun _ => ?_) | ((with_reducible refine And.intro ?_ ?_); focus (first | exact True.intro | (simp only [InK]; omega) | omega | (simp only [InK, ne_eq, and_true, true_and]; omega) | trivial)) | (simp -dsimp only [↓RP, RQ0, RQ1, RQ2, RQ3, implies_true, forall_const, Nat.reduceMul, reduceIte, reduceCtorEq, Nat.reduceAdd, Nat.reduceEqDiff, Nat.reduceLT, Nat.reduceLeDiff, hu, ee, er, Int.toNat_one, ty69, pl69, ty70, by23, by22, tup3, B, I, by2, ty5, ty51, decide_true, decide_false, Bool.not_true, Bool.not_false, eq_self, and_self, Nat.zero_add, Int.toNat_natCast, TY, Go.Proofs.Try.results14])))
    all_goals first | (exfalso; omega) | skip
    refine ⟨t + 1, by omega, by omega, weak [] [] ?_ ?_ ?_⟩
    · (simp -dsimp only [↓RP, RQ0, RQ1, RQ2, RQ3, implies_true, forall_const, Nat.reduceMul, reduceIte, reduceCtorEq, Nat.reduceAdd, Nat.reduceEqDiff, Nat.reduceLT, Nat.reduceLeDiff]); all_goals simp
    · (simp -dsimp only [↓RP, RQ0, RQ1, RQ2, RQ3, implies_true, forall_const, Nat.reduceMul, reduceIte, reduceCtorEq, Nat.reduceAdd, Nat.reduceEqDiff, Nat.reduceLT, Nat.reduceLeDiff]); all_goals (try simp)
      refine ⟨fun j hj => ?_, fun a ha => slT_put (C 0) e t a⟩
      by_cases e0 : j = 0 <;> simp [e0, Wk, ren]
    · (simp -dsimp only [↓RP, RQ0, RQ1, RQ2, RQ3, implies_true, forall_const, Nat.reduceMul, reduceIte, reduceCtorEq, Nat.reduceAdd, Nat.reduceEqDiff, Nat.reduceLT, Nat.reduceLeDiff]); all_goals simp
  have hin2 : t = r + 1 := by omega
  subst hin2
  (repeat' (first | with_reducible refine splitVC_d (fun _ => ?_) (fun _ => ?_) | ((with_reducible refine And.intro ?_ ?_); focus (first | exact True.intro | (simp only [InK]; omega) | omega | (simp only [InK, ne_eq, and_true, true_and]; omega) | trivial)) | (simp -dsimp only [↓RP, RQ0, RQ1, RQ2, RQ3, implies_true, forall_const, Nat.reduceMul, reduceIte, reduceCtorEq, Nat.reduceAdd, Nat.reduceEqDiff, Nat.reduceLT, Nat.reduceLeDiff, er, Int.toNat_one, Nat.not_lt_zero, Nat.sub_zero, if_false, ty69, pl69, ty70, by23, by22, tup3, B, I, by2, ty5, ty51, decide_true, decide_false, Bool.not_true, Bool.not_false, eq_self, and_self, Nat.zero_add, Int.toNat_natCast, TY, Go.Proofs.Try.results14])))
  all_goals first | (exfalso; omega) | skip
  refine ⟨⟨.inr trivial, by omega⟩, ⟨.inr trivial, Nat.le_refl _, fun a b ha hb => by rw [lit1 _ a b ha hb]; rfl, by omega⟩, ?_⟩
  refine loop_vc (fun (i : Nat) => i ≤ 3) (fun i => ⟨[(11, .val (.int .i64 wt)), (13, .val (.int .i64 lt)), (20, .vec 160 3 1), (21, .vec 161 3 1), (22, .val (.int .i64 i))], [(160, .rows 22 1 3 (fun j _ => .arr false false (csM c f d j).m 1 (fun a _ => .val (.int .i64 ((csM c f d j).u a))))), (161, .rows 23 1 3 (fun j _ => .arr false false (nsM n j) 1 (fun a _ => .arr false false (CsM n C e r x j a).m 1 (fun q _ => .val (.int .i64 ((CsM n C e r x j a).u q))))))], 162⟩) (fun i => 3 - i) 0 (Nat.zero_le _) (weak [(160, some 85), (161, some 89)] [62, 63, 64, 80] ?_ ?_ ?_) fun i hi => ?_
  · (simp -dsimp only [↓RP, RQ0, RQ1, RQ2, RQ3, implies_true, forall_const, Nat.reduceMul, reduceIte, reduceCtorEq, Nat.reduceAdd, Nat.reduceEqDiff, Nat.reduceLT, Nat.reduceLeDiff]); all_goals simp
  · (simp -dsimp only [↓RP, RQ0, RQ1, RQ2, RQ3, implies_true, forall_const, Nat.reduceMul, reduceIte, reduceCtorEq, Nat.reduceAdd, Nat.reduceEqDiff, Nat.reduceLT, Nat.reduceLeDiff]); all_goals (try simp)
    refine ⟨fun i hi => ?_, fun i hi => ?_⟩
    · rcases i with _ | _ | _ | i
      · simp [csM, upC, Wk, blk, isIn]
      · simp [csM, Wk]
      · simp [csM, Wk]
      · omega
    · rcases i with _ | _ | _ | i
      · simp [nsM, CsM, Wk]
      · simp [nsM, CsM, Wk, blk, isIn]
        intro a ha
        by_cases e0 : a = 0
        · subst e0; simp [exch, slC, Wk, blk, isIn]
        · simp [exch, e0, Wk]
      · simp [nsM, CsM, Wk, blk, isIn]
        intro a ha
        by_cases e0 : a < n
        · simp [wide1, e0, Wk]
        · have e1 : a = n := by omega
          subst e1; simp [wide1, Wk]
      · omega
  · (simp -dsimp only [↓RP, RQ0, RQ1, RQ2, RQ3, implies_true, forall_const, Nat.reduceMul, reduceIte, reduceCtorEq, Nat.reduceAdd, Nat.reduceEqDiff, Nat.reduceLT, Nat.reduceLeDiff]); all_goals simp
  by_cases hl3 : i < 3
  · have hWi := hW f d e r i hl3
    have hWa := hWi.wait
    have hWb := hWi.late
    rw [hwt] at hWa
    rw [hlt0] at hWb
    generalize csM c f d = cs at *
    generalize nsM n = ns at *
    generalize CsM n C e r x = Cs at *
    (repeat' (first | with_reducible refine splitVC_d (fun _ => ?_) (fun _ => ?_) | ((with_reducible refine And.intro ?_ ?_); focus (first | exact True.intro | (simp only [InK]; omega) | omega | (simp only [InK, ne_eq, and_true, true_and]; omega) | trivial)) | (simp -dsimp only [↓RP, RQ0, RQ1, RQ2, RQ3, implies_true, forall_const, Nat.reduceMul, reduceIte, reduceCtorEq, Nat.reduceAdd, Nat.reduceEqDiff, Nat.reduceLT, Nat.reduceLeDiff, ty70, by23, by22, tup3, B, I, by2, ty5, ty51, decide_true, decide_false, Bool.not_true, Bool.not_false, eq_self, and_self, Nat.zero_add, Int.toNat_natCast, TY, Go.Proofs.Try.results14])))
    all_goals first | (exfalso; omega) | skip
    refine callVC (c27 (cs i)) (by (simp -dsimp only [↓RP, RQ0, RQ1, RQ2, RQ3, implies_true, forall_const, Nat.reduceMul, reduceIte, reduceCtorEq, Nat.reduceAdd, Nat.reduceEqDiff, Nat.reduceLT, Nat.reduceLeDiff, Curve.sv, ints, I, B]); all_goals (try simp)) (by (simp -dsimp only [↓RP, RQ0, RQ1, RQ2, RQ3, implies_true, forall_const, Nat.reduceMul, reduceIte, reduceCtorEq, Nat.reduceAdd, Nat.reduceEqDiff, Nat.reduceLT, Nat.reduceLeDiff, I])) ?_
    by_cases h5 : (cs i).err = 0
    rotate_left
    · (repeat' (first | with_reducible refine splitVC_d (fun _ => ?_) (fun _ => ?_) | ((with_reducible refine And.intro ?_ ?_); focus (first | exact True.intro | (simp only [InK]; omega) | omega | (simp only [InK, ne_eq, and_true, true_and]; omega) | trivial)) | (simp -dsimp only [↓RP, RQ0, RQ1, RQ2, RQ3, implies_true, forall_const, Nat.reduceMul, reduceIte, reduceCtorEq, Nat.reduceAdd, Nat.reduceEqDiff, Nat.reduceLT, Nat.reduceLeDiff, h5, ty70, by23, by22, tup3, B, I, by2, ty5, ty51, decide_true, decide_false, Bool.not_true, Bool.not_false, eq_self, and_self, Nat.zero_add, Int.toNat_natCast, TY, Go.Proofs.Try.results14])))
      refine ⟨i + 1, by omega, by omega, weak [] [] ?_ ?_ ?_⟩
      · (simp -dsimp only [↓RP, RQ0, RQ1, RQ2, RQ3, implies_true, forall_const, Nat.reduceMul, reduceIte, reduceCtorEq, Nat.reduceAdd, Nat.reduceEqDiff, Nat.reduceLT, Nat.reduceLeDiff]); all_goals simp
      · (simp -dsimp only [↓RP, RQ0, RQ1, RQ2, RQ3, implies_true, forall_const, Nat.reduceMul, reduceIte, reduceCtorEq, Nat.reduceAdd, Nat.reduceEqDiff, Nat.reduceLT, Nat.reduceLeDiff]); all_goals (try simp)
      · (simp -dsimp only [↓RP, RQ0, RQ1, RQ2, RQ3, implies_true, forall_const, Nat.reduceMul, reduceIte, reduceCtorEq, Nat.reduceAdd, Nat.reduceEqDiff, Nat.reduceLT, Nat.reduceLeDiff]); all_goals simp
    (repeat' (first | with_reducible refine splitVC_d (fun _ => ?_) (fun _ => ?_) | ((with_reducible refine And.intro ?_ ?_); focus (first | exact True.intro | (simp only [InK]; omega) | omega | (simp only [InK, ne_eq, and_true, true_and]; omega) | trivial)) | (simp -dsimp only [↓RP, RQ0, RQ1, RQ2, RQ3, implies_true, forall_const, Nat.reduceMul, reduceIte, reduceCtorEq, Nat.reduceAdd, Nat.reduceEqDiff, Nat.reduceLT, Nat.reduceLeDiff, h5, ty70, by23, by22, tup3, B, I, by2, ty5, ty51, decide_true, decide_false, Bool.not_true, Bool.not_false, eq_self, and_self, Nat.zero_add, Int.toNat_natCast, TY, Go.Proofs.Try.results14])))
    all_goals first | (exfalso; omega) | skip
    refine callVC (c55 (ns i) (Cs i)) (by (simp -dsimp only [↓RP, RQ0, RQ1, RQ2, RQ3, implies_true, forall_const, Nat.reduceMul, reduceIte, reduceCtorEq, Nat.reduceAdd, Nat.reduceEqDiff, Nat.reduceLT, Nat.reduceLeDiff, chn, Curve.sv, ints, I, B]); all_goals (try simp); all_goals exact fun _ _ => rfl) (by (simp -dsimp only [↓RP, RQ0, RQ1, RQ2, RQ3, implies_true, forall_const, Nat.reduceMul, reduceIte, reduceCtorEq, Nat.reduceAdd, Nat.reduceEqDiff, Nat.reduceLT, Nat.reduceLeDiff, I])) ?_
    by_cases h6 : cErr (ns i) (Cs i) = 0
    rotate_left
    · (repeat' (first | with_reducible refine splitVC_d (fun _ => ?_) (fun _ => ?_) | ((with_reducible refine And.intro ?_ ?_); focus (first | exact True.intro | (simp only [InK]; omega) | omega | (simp only [InK, ne_eq, and_true, true_and]; omega) | trivial)) | (simp -dsimp only [↓RP, RQ0, RQ1, RQ2, RQ3, implies_true, forall_const, Nat.reduceMul, reduceIte, reduceCtorEq, Nat.reduceAdd, Nat.reduceEqDiff, Nat.reduceLT, Nat.reduceLeDiff, h6, ty70, by23, by22, tup3, B, I, by2, ty5, ty51, decide_true, decide_false, Bool.not_true, Bool.not_false, eq_self, and_self, Nat.zero_add, Int.toNat_natCast, TY, Go.Proofs.Try.results14])))
      refine ⟨i + 1, by omega, by omega, weak [] [] ?_ ?_ ?_⟩
      · (simp -dsimp only [↓RP, RQ0, RQ1, RQ2, RQ3, implies_true, forall_const, Nat.reduceMul, reduceIte, reduceCtorEq, Nat.reduceAdd, Nat.reduceEqDiff, Nat.reduceLT, Nat.reduceLeDiff]); all_goals simp
      · (simp -dsimp only [↓RP, RQ0, RQ1, RQ2, RQ3, implies_true, forall_const, Nat.reduceMul, reduceIte, reduceCtorEq, Nat.reduceAdd, Nat.reduceEqDiff, Nat.reduceLT, Nat.reduceLeDiff]); all_goals (try simp)
      · (simp -dsimp only [↓RP, RQ0, RQ1, RQ2, RQ3, implies_true, forall_const, Nat.reduceMul, reduceIte, reduceCtorEq, Nat.reduceAdd, Nat.reduceEqDiff, Nat.reduceLT, Nat.reduceLeDiff]); all_goals simp
    (repeat' (first | with_reducible refine splitVC_d (fun _ => ?_) (fun _ => ?_) | ((with_reducible refine And.intro ?_ ?_); focus (first | exact True.intro | (simp only [InK]; omega) | omega | (simp only [InK, ne_eq, and_true, true_and]; omega) | trivial)) | (simp -dsimp only [↓RP, RQ0, RQ1, RQ2, RQ3, implies_true, forall_const, Nat.reduceMul, reduceIte, reduceCtorEq, Nat.reduceAdd, Nat.reduceEqDiff, Nat.reduceLT, Nat.reduceLeDiff, h6, ty70, by23, by22, tup3, B, I, by2, ty5, ty51, decide_true, decide_false, Bool.not_true, Bool.not_false, eq_self, and_self, Nat.zero_add, Int.toNat_natCast, TY, Go.Proofs.Try.results14])))
    all_goals first | (exfalso; omega) | skip
    have f5 := Curve.fine h5
    have f6 := (cErr_fine h6).2.2
    have m6 := f5.m6
    have k40 := c40 (cs i) (ns i) (Cs i) (by omega) (fun j hj => by have := (f6 j hj).m6; omega)
    have k42 := c42 (cs i) (ns i) (Cs i) (by omega) (fun j hj => by have := (f6 j hj).m6; omega)
    have hE : askE (cs i) (ns i) (Cs i) = 0 ∨ askE (cs i) (ns i) (Cs i) = 18 := by
      unfold askE
      rw [if_pos h5, if_pos h6]
      split
      · exact .inr rfl
      · exact .inl rfl
    rcases hE with hE | hE
    · rw [show waitV (cs i) (ns i) (Cs i) = (waitB (cs i) (ns i) (Cs i), 0) by unfold waitV; rw [if_pos hE]] at k40
      rw [show lateV (cs i) (ns i) (Cs i) = (lateB (cs i) (ns i) (Cs i), 0) by unfold lateV; rw [if_pos hE]] at k42
      refine callVC k40 (by (simp -dsimp only [↓RP, RQ0, RQ1, RQ2, RQ3, implies_true, forall_const, Nat.reduceMul, reduceIte, reduceCtorEq, Nat.reduceAdd, Nat.reduceEqDiff, Nat.reduceLT, Nat.reduceLeDiff, chn, Curve.sv, ints, I, B]); all_goals (try simp); all_goals exact fun _ _ => rfl) (by (simp -dsimp only [↓RP, RQ0, RQ1, RQ2, RQ3, implies_true, forall_const, Nat.reduceMul, reduceIte, reduceCtorEq, Nat.reduceAdd, Nat.reduceEqDiff, Nat.reduceLT, Nat.reduceLeDiff, I])) ?_
      (repeat' (first | with_reducible refine splitVC_d (fun _ => ?_) (fun _ => ?_) | ((with_reducible refine And.intro ?_ ?_); focus (first | exact True.intro | (simp only [InK]; omega) | omega | (simp only [InK, ne_eq, and_true, true_and]; omega) | trivial)) | (simp -dsimp only [↓RP, RQ0, RQ1, RQ2, RQ3, implies_true, forall_const, Nat.reduceMul, reduceIte, reduceCtorEq, Nat.reduceAdd, Nat.reduceEqDiff, Nat.reduceLT, Nat.reduceLeDiff, ty70, by23, by22, tup3, B, I, by2, ty5, ty51, decide_true, decide_false, Bool.not_true, Bool.not_false, eq_self, and_self, Nat.zero_add, Int.toNat_natCast, TY, Go.Proofs.Try.results14])))
      all_goals first | (exfalso; omega) | skip
      refine callVC k42 (by (simp -dsimp only [↓RP, RQ0, RQ1, RQ2, RQ3, implies_true, forall_const, Nat.reduceMul, reduceIte, reduceCtorEq, Nat.reduceAdd, Nat.reduceEqDiff, Nat.reduceLT, Nat.reduceLeDiff, chn, Curve.sv, ints, I, B]); all_goals (try simp); all_goals exact fun _ _ => rfl) (by (simp -dsimp only [↓RP, RQ0, RQ1, RQ2, RQ3, implies_true, forall_const, Nat.reduceMul, reduceIte, reduceCtorEq, Nat.reduceAdd, Nat.reduceEqDiff, Nat.reduceLT, Nat.reduceLeDiff, I])) ?_
      (repeat' (first | with_reducible refine splitVC_d (fun _ => ?_) (fun _ => ?_) | ((with_reducible refine And.intro ?_ ?_); focus (first | exact True.intro | (simp only [InK]; omega) | omega | (simp only [InK, ne_eq, and_true, true_and]; omega) | trivial)) | (simp -dsimp only [↓RP, RQ0, RQ1, RQ2, RQ3, implies_true, forall_const, Nat.reduceMul, reduceIte, reduceCtorEq, Nat.reduceAdd, Nat.reduceEqDiff, Nat.reduceLT, Nat.reduceLeDiff, ty70, by23, by22, tup3, B, I, by2, ty5, ty51, decide_true, decide_false, Bool.not_true, Bool.not_false, eq_self, and_self, Nat.zero_add, Int.toNat_natCast, TY, Go.Proofs.Try.results14])))
      all_goals first | (exfalso; omega) | skip
      refine ⟨i + 1, by omega, by omega, weak [] [] ?_ ?_ ?_⟩
      · (simp -dsimp only [↓RP, RQ0, RQ1, RQ2, RQ3, implies_true, forall_const, Nat.reduceMul, reduceIte, reduceCtorEq, Nat.reduceAdd, Nat.reduceEqDiff, Nat.reduceLT, Nat.reduceLeDiff]); all_goals simp
      · (simp -dsimp only [↓RP, RQ0, RQ1, RQ2, RQ3, implies_true, forall_const, Nat.reduceMul, reduceIte, reduceCtorEq, Nat.reduceAdd, Nat.reduceEqDiff, Nat.reduceLT, Nat.reduceLeDiff]); all_goals (try simp)
      · (simp -dsimp only [↓RP, RQ0, RQ1, RQ2, RQ3, implies_true, forall_const, Nat.reduceMul, reduceIte, reduceCtorEq, Nat.reduceAdd, Nat.reduceEqDiff, Nat.reduceLT, Nat.reduceLeDiff]); all_goals simp
    · rw [show waitV (cs i) (ns i) (Cs i) = (0, 18) by unfold waitV; rw [if_neg (by omega), hE]] at k40
      rw [show lateV (cs i) (ns i) (Cs i) = (0, 18) by unfold lateV; rw [if_neg (by omega), hE]] at k42
      refine callVC k40 (by (simp -dsimp only [↓RP, RQ0, RQ1, RQ2, RQ3, implies_true, forall_const, Nat.reduceMul, reduceIte, reduceCtorEq, Nat.reduceAdd, Nat.reduceEqDiff, Nat.reduceLT, Nat.reduceLeDiff, chn, Curve.sv, ints, I, B]); all_goals (try simp); all_goals exact fun _ _ => rfl) (by (simp -dsimp only [↓RP, RQ0, RQ1, RQ2, RQ3, implies_true, forall_const, Nat.reduceMul, reduceIte, reduceCtorEq, Nat.reduceAdd, Nat.reduceEqDiff, Nat.reduceLT, Nat.reduceLeDiff, I])) ?_
      (repeat' (first | with_reducible refine splitVC_d (fun _ => ?_) (fun _ => ?_) | ((with_reducible refine And.intro ?_ ?_); focus (first | exact True.intro | (simp only [InK]; omega) | omega | (simp only [InK, ne_eq, and_true, true_and]; omega) | trivial)) | (simp -dsimp only [↓RP, RQ0, RQ1, RQ2, RQ3, implies_true, forall_const, Nat.reduceMul, reduceIte, reduceCtorEq, Nat.reduceAdd, Nat.reduceEqDiff, Nat.reduceLT, Nat.reduceLeDiff, ty70, by23, by22, tup3, B, I, by2, ty5, ty51, decide_true, decide_false, Bool.not_true, Bool.not_false, eq_self, and_self, Nat.zero_add, Int.toNat_natCast, TY, Go.Proofs.Try.results14])))
      all_goals first | (exfalso; omega) | skip
      refine callVC k42 (by (simp -dsimp only [↓RP, RQ0, RQ1, RQ2, RQ3, implies_true, forall_const, Nat.reduceMul, reduceIte, reduceCtorEq, Nat.reduceAdd, Nat.reduceEqDiff, Nat.reduceLT, Nat.reduceLeDiff, chn, Curve.sv, ints, I, B]); all_goals (try simp); all_goals exact fun _ _ => rfl) (by (simp -dsimp only [↓RP, RQ0, RQ1, RQ2, RQ3, implies_true, forall_const, Nat.reduceMul, reduceIte, reduceCtorEq, Nat.reduceAdd, Nat.reduceEqDiff, Nat.reduceLT, Nat.reduceLeDiff, I])) ?_
      (repeat' (first | with_reducible refine splitVC_d (fun _ => ?_) (fun _ => ?_) | ((with_reducible refine And.intro ?_ ?_); focus (first | exact True.intro | (simp only [InK]; omega) | omega | (simp only [InK, ne_eq, and_true, true_and]; omega) | trivial)) | (simp -dsimp only [↓RP, RQ0, RQ1, RQ2, RQ3, implies_true, forall_const, Nat.reduceMul, reduceIte, reduceCtorEq, Nat.reduceAdd, Nat.reduceEqDiff, Nat.reduceLT, Nat.reduceLeDiff, ty70, by23, by22, tup3, B, I, by2, ty5, ty51, decide_true, decide_false, Bool.not_true, Bool.not_false, eq_self, and_self, Nat.zero_add, Int.toNat_natCast, TY, Go.Proofs.Try.results14])))
      all_goals first | (exfalso; omega) | skip
      refine ⟨i + 1, by omega, by omega, weak [] [] ?_ ?_ ?_⟩
      · (simp -dsimp only [↓RP, RQ0, RQ1, RQ2, RQ3, implies_true, forall_const, Nat.reduceMul, reduceIte, reduceCtorEq, Nat.reduceAdd, Nat.reduceEqDiff, Nat.reduceLT, Nat.reduceLeDiff]); all_goals simp
      · (simp -dsimp only [↓RP, RQ0, RQ1, RQ2, RQ3, implies_true, forall_const, Nat.reduceMul, reduceIte, reduceCtorEq, Nat.reduceAdd, Nat.reduceEqDiff, Nat.reduceLT, Nat.reduceLeDiff]); all_goals (try simp)
      · (simp -dsimp only [↓RP, RQ0, RQ1, RQ2, RQ3, implies_true, forall_const, Nat.reduceMul, reduceIte, reduceCtorEq, Nat.reduceAdd, Nat.reduceEqDiff, Nat.reduceLT, Nat.reduceLeDiff]); all_goals simp
  · (repeat' (first | with_reducible refine splitVC_d (fun _ => ?_) (fun _ => ?_) | ((with_reducible refine And.intro ?_ ?_); focus (first | exact True.intro | (simp only [InK]; omega) | omega | (simp only [InK, ne_eq, and_true, true_and]; omega) | trivial)) | (simp -dsimp only [↓RP, RQ0, RQ1, RQ2, RQ3, implies_true, forall_const, Nat.reduceMul, reduceIte, reduceCtorEq, Nat.reduceAdd, Nat.reduceEqDiff, Nat.reduceLT, Nat.reduceLeDiff, ty70, by23, by22, tup3, B, I, by2, ty5, ty51, decide_true, decide_false, Bool.not_true, Bool.not_false, eq_self, and_self, Nat.zero_add, Int.toNat_natCast, TY, Go.Proofs.Try.results14])))
    all_goals first | (exfalso; omega) | skip
    refine callVC hw (by (simp -dsimp only [↓RP, RQ0, RQ1, RQ2, RQ3, implies_true, forall_const, Nat.reduceMul, reduceIte, reduceCtorEq, Nat.reduceAdd, Nat.reduceEqDiff, Nat.reduceLT, Nat.reduceLeDiff])) (by (simp -dsimp only [↓RP, RQ0, RQ1, RQ2, RQ3, implies_true, forall_const, Nat.reduceMul, reduceIte, reduceCtorEq, Nat.reduceAdd, Nat.reduceEqDiff, Nat.reduceLT, Nat.reduceLeDiff, B])) ?_
    (repeat' (first | with_reducible refine splitVC_d (fun _ => ?_) (fun _ => ?_) | ((with_reducible refine And.intro ?_ ?_); focus (first | exact True.intro | (simp only [InK]; omega) | omega | (simp only [InK, ne_eq, and_true, true_and]; omega) | trivial)) | (simp -dsimp only [↓RP, RQ0, RQ1, RQ2, RQ3, implies_true, forall_const, Nat.reduceMul, reduceIte, reduceCtorEq, Nat.reduceAdd, Nat.reduceEqDiff, Nat.reduceLT, Nat.reduceLeDiff, by22, tup3, B, I, by2, ty5, ty51, decide_true, decide_false, Bool.not_true, Bool.not_false, eq_self, and_self, Nat.zero_add, Int.toNat_natCast, TY, Go.Proofs.Try.results14])))
end Go.Lg
end
