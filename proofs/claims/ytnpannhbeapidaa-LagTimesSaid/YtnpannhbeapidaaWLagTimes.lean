/- A part of the proof. -/
import Derived.Test.YtnpannhbeapidaaLJ
import Derived.Test.YtnpannhbeapidaaLD
section
set_option linter.unusedSimpArgs false
set_option linter.unusedVariables false
set_option linter.defProp false
set_option maxRecDepth 100000
set_option maxHeartbeats 16000000
namespace Go.Lg
open Go.Sx
def Curve.sc (T : Nat) (c : Curve) : Curve := ⟨c.m, fun i => (T : Int) * c.u i⟩
theorem sc_m (T : Nat) (c : Curve) : (c.sc T).m = c.m := rfl
theorem sc_u (T : Nat) (c : Curve) (i : Nat) : (c.sc T).u i = T * c.u i := rfl
theorem mul_le_iff (T : Nat) (hT : 1 ≤ T) (a b : Int) : (T : Int) * a ≤ T * b ↔ a ≤ b :=
  ⟨fun h => Int.le_of_mul_le_mul_left h (by omega), fun h => Int.mul_le_mul_of_nonneg_left h (by omega)⟩
theorem mul_min (T : Nat) (hT : 1 ≤ T) (a b : Int) : (T : Int) * min a b = min ((T : Int) * a) (T * b) := by
  have h := mul_le_iff T hT a b
  by_cases hab : a ≤ b
  · rw [Int.min_eq_left hab, Int.min_eq_left (h.2 hab)]
  · have h2 : ¬ (T : Int) * a ≤ T * b := fun x => hab (h.1 x)
    rw [Int.min_eq_right (by omega), Int.min_eq_right (by omega)]
theorem foldMin_sc (T : Nat) (hT : 1 ≤ T) (f : Nat → Int) : ∀ m, foldMin (fun k => (T : Int) * f k) m = T * foldMin f m
  | 0 => rfl
  | m + 1 => by simp only [foldMin]; rw [foldMin_sc T hT f m, mul_min T hT]
theorem M_sc (T : Nat) (hT : 1 ≤ T) (c : Curve) : ∀ k, (c.sc T).M k = T * c.M k := by
  intro k
  induction k using Nat.strongRecOn with
  | _ k ih =>
    cases k with
    | zero => simp [M_zero]
    | succ k =>
      rw [M_succ, M_succ, sc_m, ← foldMin_sc T hT]
      refine foldMin_congr _ _ _ fun p hp => ?_
      rw [ih (k - p) (by omega), sc_u, Int.mul_add]
theorem L1_sc (T : Nat) (c : Curve) (k : Nat) : (c.sc T).L1 k = T * c.L1 k := by
  unfold Curve.L1
  rw [sc_m, Int.mul_add]
  congr 1
  · rw [sc_u, ← Int.mul_assoc, ← Int.mul_assoc, Int.mul_comm _ (T : Int)]
  · split
    · rw [sc_u]
    · simp
theorem Ls_sc (T : Nat) (hT : 1 ≤ T) (C : Nat → Curve) : ∀ i k, Ls (fun j => (C j).sc T) i k = T * Ls C i k
  | 0, k => L1_sc T (C 0) k
  | i + 1, k => by
    show foldMin (fun p => Ls (fun j => (C j).sc T) i (k - p) + ((C (i + 1)).sc T).L1 p) k = T * foldMin (fun p => Ls C i (k - p) + (C (i + 1)).L1 p) k
    rw [← foldMin_sc T hT]
    exact foldMin_congr _ _ _ fun p _ => by rw [Ls_sc T hT C i (k - p), L1_sc, Int.mul_add]
theorem Lc_sc (T : Nat) (hT : 1 ≤ T) (n : Nat) (C : Nat → Curve) (k : Nat) : Lc n (fun j => (C j).sc T) k = T * Lc n C k := Ls_sc T hT C (n - 1) k
theorem bestTo_sc (T : Nat) (hT : 1 ≤ T) (f : Nat → Int) : ∀ k, bestTo (fun j => (T : Int) * f j) k = T * bestTo f k
  | 0 => by simp [bestTo]
  | k + 1 => by
    simp only [bestTo]
    rw [bestTo_sc T hT f k]
    have h := mul_le_iff T hT (bestTo f k) (f k)
    by_cases hab : bestTo f k ≤ f k
    · rw [Int.max_eq_right hab, Int.max_eq_right (h.2 hab)]
    · have h2 : ¬ (T : Int) * bestTo f k ≤ T * f k := fun x => hab (h.1 x)
      rw [Int.max_eq_left (by omega), Int.max_eq_left (by omega)]
theorem waitB_sc (T : Nat) (hT : 1 ≤ T) (c : Curve) (n : Nat) (C : Nat → Curve) : waitB (c.sc T) n (fun j => (C j).sc T) = T * waitB c n C := by
  unfold waitB
  rw [← bestTo_sc T hT]
  exact bestTo_congr _ _ _ fun j _ => by rw [M_sc T hT, Lc_sc T hT, Int.mul_sub]
theorem behB_sc (T : Nat) (hT : 1 ≤ T) (c : Curve) (n : Nat) (C : Nat → Curve) (k : Nat) : behB (c.sc T) n (fun j => (C j).sc T) k = T * behB c n C k := by
  unfold behB
  rw [← bestTo_sc T hT]
  exact bestTo_congr _ _ _ fun j _ => by rw [M_sc T hT, Lc_sc T hT, Int.mul_sub]
theorem lateB_sc (T : Nat) (hT : 1 ≤ T) (c : Curve) (n : Nat) (C : Nat → Curve) : lateB (c.sc T) n (fun j => (C j).sc T) = lateB c n C := by
  unfold lateB
  refine bestTo_congr _ _ _ fun k _ => ?_
  have e : lateF (c.sc T).M (Lc n (fun j => (C j).sc T)) k = lateF c.M (Lc n C) k := by
    unfold lateF
    congr 1
    funext j
    rw [M_sc T hT, Lc_sc T hT]
    exact decide_eq_decide.2 (mul_le_iff T hT _ _)
  rw [e]
theorem lt_iff_mul {k a b : Int} (hk : 0 < k) : k * a < k * b ↔ a < b :=
  ⟨fun h => Int.lt_of_mul_lt_mul_left h (by omega), fun h => Int.mul_lt_mul_of_pos_left h hk⟩
theorem fless_iff (c d : Curve) (hc : c.Fine) (hd : d.Fine) (i j : Nat) (hi : i < c.m) (hj : j < d.m) : fless (c.rt i) (d.rt j) ↔ c.u i * (j + 1 : Nat) < d.u j * (i + 1 : Nat) := by
  have ⟨e1, p1⟩ := rt_eq c hc i hi
  have ⟨e2, p2⟩ := rt_eq d hd j hj
  unfold fless
  generalize (c.rt i).1 = a at *
  generalize (c.rt i).2 = b at *
  generalize (d.rt j).1 = x at *
  generalize (d.rt j).2 = y at *
  generalize c.u i = u at *
  generalize d.u j = v at *
  generalize hs : (i + 1 : Nat) = s at *
  generalize ht : (j + 1 : Nat) = t at *
  have f1 : ((s : Int) * t) * (a * y) = ((b : Int) * y) * (u * t) := by
    have g : ((s : Int) * t) * (a * y) = (a * s) * (t * y) := by ac_rfl
    rw [g, e1]; ac_rfl
  have f2 : ((s : Int) * t) * (x * b) = ((b : Int) * y) * (v * s) := by
    have g : ((s : Int) * t) * (x * b) = (x * t) * (s * b) := by ac_rfl
    rw [g, e2]; ac_rfl
  have k1 : (0 : Int) < (s : Int) * t := Int.mul_pos (by omega) (by omega)
  have k2 : (0 : Int) < (b : Int) * y := Int.mul_pos (by omega) (by omega)
  rw [← lt_iff_mul k1, f1, f2, lt_iff_mul k2]
theorem rateTo_sc (T : Nat) (hT : 1 ≤ T) (c : Curve) (hc : c.Fine) (hd : (c.sc T).Fine) : ∀ i, i ≤ c.m → ∃ p, p < c.m ∧ c.rateTo i = c.rt p ∧ (c.sc T).rateTo i = (c.sc T).rt p
  | 0, _ => ⟨c.m - 1, by have := hc.m1; omega, rfl, rfl⟩
  | i + 1, hi => by
    obtain ⟨p, h1, h2, h3⟩ := rateTo_sc T hT c hc hd i (by omega)
    have e1 := fless_iff c c hc hc i p (by omega) h1
    have e2 := fless_iff (c.sc T) (c.sc T) hd hd i p (by rw [sc_m]; omega) (by rw [sc_m]; omega)
    have e3 : fless ((c.sc T).rt i) ((c.sc T).rt p) ↔ fless (c.rt i) (c.rt p) := by
      rw [e1, e2, sc_u, sc_u, Int.mul_assoc, Int.mul_assoc, lt_iff_mul (by omega)]
    simp only [Curve.rateTo]
    rw [h2, h3]
    by_cases hf : fless (c.rt i) (c.rt p)
    · rw [if_pos hf, if_pos (e3.2 hf)]
      exact ⟨i, by omega, rfl, rfl⟩
    · rw [if_neg hf, if_neg (fun x => hf (e3.1 x))]
      exact ⟨p, h1, rfl, rfl⟩
theorem slow_sc (T : Nat) (hT : 1 ≤ T) (c : Curve) (hc : c.Fine) (hd : (c.sc T).Fine) (n : Nat) (C : Nat → Curve) (hC : ∀ i, i < n → (C i).Fine) (hD : ∀ i, i < n → ((C i).sc T).Fine) : slowE (c.sc T) n (fun j => (C j).sc T) ↔ slowE c n C := by
  obtain ⟨p, h1, h2, h3⟩ := rateTo_sc T hT c hc hd c.m (Nat.le_refl _)
  have key : ∀ i, i < n → (fless (((C i).sc T).rate false) ((c.sc T).rate true) ↔ fless ((C i).rate false) (c.rate true)) := fun i hi => by
    have a1 := (hC i hi).m1
    have r1 : c.rate true = c.rt p := h2
    have r2 : (c.sc T).rate true = (c.sc T).rt p := h3
    have r3 : (C i).rate false = (C i).rt ((C i).m - 1) := rfl
    have r4 : ((C i).sc T).rate false = ((C i).sc T).rt ((C i).m - 1) := rfl
    rw [r1, r2, r3, r4, fless_iff (C i) c (hC i hi) hc _ _ (by omega) h1, fless_iff ((C i).sc T) (c.sc T) (hD i hi) hd _ _ (by rw [sc_m]; omega) (by rw [sc_m]; omega), sc_u, sc_u, Int.mul_assoc, Int.mul_assoc, lt_iff_mul (by omega)]
  unfold slowE
  constructor
  · rintro ⟨i, h4, h5⟩; exact ⟨i, h4, (key i h4).1 h5⟩
  · rintro ⟨i, h4, h5⟩; exact ⟨i, h4, (key i h4).2 h5⟩
theorem ask_sc (T : Nat) (hT : 1 ≤ T) (c : Curve) (n : Nat) (C : Nat → Curve) (h1 : c.err = 0) (h2 : cErr n C = 0) (h3 : (c.sc T).err = 0) (h4 : cErr n (fun j => (C j).sc T) = 0) : askE (c.sc T) n (fun j => (C j).sc T) = askE c n C := by
  have hs := slow_sc T hT c (Curve.fine h1) (Curve.fine h3) n C (cErr_fine h2).2.2 (cErr_fine h4).2.2
  unfold askE
  rw [if_pos h1, if_pos h2, if_pos h3, if_pos h4]
  by_cases hx : slowE c n C
  · rw [if_pos hx, if_pos (hs.2 hx)]
  · rw [if_neg hx, if_neg (fun x => hx (hs.1 x))]
end Go.Lg
end
section
set_option linter.unusedSimpArgs false
set_option linter.unusedVariables false
set_option linter.defProp false
set_option maxRecDepth 100000
set_option maxHeartbeats 16000000
namespace Go.Lg
open Go.Sx
theorem tm5 (a : Nat) : (1 : Int) + (a : Int).tmod 5 = ((a % 5 + 1 : Nat) : Int) := by
  have : (a : Int).tmod 5 = ((a % 5 : Nat) : Int) := rfl
  rw [this]; omega
theorem tm201 (a : Nat) : (a : Int).tmod 201 = ((a % 201 : Nat) : Int) := rfl
theorem mul_bd (T : Nat) (hT : T ≤ 5) (x b : Int) (h0 : 0 ≤ x) (h1 : x ≤ b) : 0 ≤ (T : Int) * x ∧ (T : Int) * x ≤ 5 * b :=
  ⟨Int.mul_nonneg (by omega) h0, Int.le_trans (Int.mul_le_mul_of_nonneg_left h1 (by omega)) (Int.mul_le_mul_of_nonneg_right (by omega) (by omega))⟩
theorem m22 (n : Nat) (C : Nat → Curve) (h : cErr n C = 0) (k : Nat) (hk : k ≤ 200) : Contract Go.Proofs.Try.prog 22 [chn n C, I k] (.tup [I (Lc n C k), I 0]) := by
  have h2 := c22 n C (fun i hi => by have := ((cErr_fine h).2.2 i hi).m6; omega) k
  have e : leastV n C k = (Lc n C k, 0) := by
    unfold leastV; rw [if_pos h, if_pos (by omega), Int.toNat_natCast]; rfl
  rwa [e] at h2
theorem waitV_sc (T : Nat) (hT : 1 ≤ T) (c : Curve) (n : Nat) (C : Nat → Curve) (ha : askE (c.sc T) n (fun j => (C j).sc T) = askE c n C) : waitV (c.sc T) n (fun j => (C j).sc T) = (T * (waitV c n C).1, askE c n C) := by
  unfold waitV
  rw [ha]
  by_cases h : askE c n C = 0
  · rw [if_pos h, if_pos h, waitB_sc T hT, h]
  · rw [if_neg h, if_neg h]; simp
theorem waitV_2 (c : Curve) (n : Nat) (C : Nat → Curve) : (waitV c n C).2 = askE c n C := by
  unfold waitV
  by_cases h : askE c n C = 0
  · rw [if_pos h, h]
  · rw [if_neg h]
theorem lateV_2 (c : Curve) (n : Nat) (C : Nat → Curve) : (lateV c n C).2 = askE c n C := by
  unfold lateV
  by_cases h : askE c n C = 0
  · rw [if_pos h, h]
  · rw [if_neg h]
theorem lateV_sc (T : Nat) (hT : 1 ≤ T) (c : Curve) (n : Nat) (C : Nat → Curve) (ha : askE (c.sc T) n (fun j => (C j).sc T) = askE c n C) : lateV (c.sc T) n (fun j => (C j).sc T) = lateV c n C := by
  unfold lateV
  rw [ha, lateB_sc T hT]
theorem waitV_bd (c : Curve) (n : Nat) (C : Nat → Curve) : 0 ≤ (waitV c n C).1 ∧ (waitV c n C).1 ≤ 100000 := by
  unfold waitV
  by_cases h : askE c n C = 0
  · rw [if_pos h]
    have ha := ask_ok h
    exact ⟨bestTo_nonneg _ _, bestTo_le _ _ (by omega) 181 fun j hj => by
      have h1 := M_bound ha.fine j
      have h2 := (Lc_bound ha j (by omega)).1
      show c.M j - Lc n C j ≤ 100000
      omega⟩
  · rw [if_neg h]; exact ⟨Int.le_refl _, by show (0 : Int) ≤ 100000; omega⟩
theorem beh_bd (c : Curve) (n : Nat) (C : Nat → Curve) (h : Ask c n C) (k : Nat) (hk : k ≤ 10) : 0 ≤ behB c n C k ∧ behB c n C k ≤ 100000 :=
  ⟨bestTo_nonneg _ _, bestTo_le _ _ (by omega) 181 fun j hj => by
    have h1 := M_bound h.fine (k + j)
    have h2 := (Lc_bound h j (by omega)).1
    show c.M (k + j) - Lc n C j ≤ 100000
    omega⟩
theorem m40z : Contract Go.Proofs.Try.prog 40 [(Curve.mk 0 (fun _ => 0)).sv, chn 0 (fun _ => ⟨0, fun _ => 0⟩)] (.tup [I 0, I 6]) := by
  have := c40 ⟨0, fun _ => 0⟩ 0 (fun _ => ⟨0, fun _ => 0⟩) (by show 0 ≤ 1000000; omega) (fun i hi => by omega)
  rwa [show waitV ⟨0, fun _ => 0⟩ 0 (fun _ => ⟨0, fun _ => 0⟩) = (0, 6) by decide +kernel] at this
theorem by22 : bytesOf Go.Proofs.Try.prog 22 = 24 := by kernel_rfl
def stT (c : Curve) (n : Nat) (C : Nat → Curve) (T k i : Nat) : Option Nat → St
  | some a => ⟨[(0, .arr false false c.m 1 (fun i _ => .val (.int .i64 (c.u i)))), (1, .arr false false n 1 (fun i _ => .arr false false (C i).m 1 (fun j _ => .val (.int .i64 ((C i).u j))))), (9, .val (.int .i64 T)), (10, .val (.int .i64 k)), (11, .vec 60 c.m 1), (12, .vec 61 i 1), (14, .val (.int .i64 i)), (15, .vec 62 a 1), (16, .val (.int .i64 a))], [(60, .rows 2 1 c.m (fun j _ => .val (.int .i64 ((T : Int) * c.u j)))), (61, .rows 22 1 i (fun j _ => .arr true false (C j).m 1 (fun a _ => .val (.int .i64 ((T : Int) * (C j).u a))))), (62, .rows 2 1 a (fun j _ => .val (.int .i64 ((T : Int) * (C i).u j))))], 63⟩
  | none => ⟨[(0, .arr false false c.m 1 (fun i _ => .val (.int .i64 (c.u i)))), (1, .arr false false n 1 (fun i _ => .arr false false (C i).m 1 (fun j _ => .val (.int .i64 ((C i).u j))))), (9, .val (.int .i64 T)), (10, .val (.int .i64 k)), (11, .vec 60 c.m 1), (12, .vec 61 i 1), (14, .val (.int .i64 i)), (15, .arr true false (C i).m 1 (fun j _ => .val (.int .i64 ((T : Int) * (C i).u j)))), (16, .val (.int .i64 (C i).m))], [(60, .rows 2 1 c.m (fun j _ => .val (.int .i64 ((T : Int) * c.u j)))), (61, .rows 22 1 i (fun j _ => .arr true false (C j).m 1 (fun a _ => .val (.int .i64 ((T : Int) * (C j).u a)))))], 63⟩
theorem c15 (hw : Wk19) (c : Curve) (n : Nat) (C : Nat → Curve) (x : Nat) (hx : x ≤ 255) (y : Nat) (hy : y ≤ 255) : Contract Go.Proofs.Try.prog 15 [c.sv, chn n C, .val (.int .u8 x), .val (.int .u8 y)] (B true) := by
  refine contract_of Go.Proofs.Try.func15 rfl (by kernel_rfl) follows (by kernel_rfl) _ _ (by rw [Go.Proofs.Try.ntmps15]; simp) (by simp only [OldL, c.old, chn_old, and_self, and_true, true_and]; simp [Old]) ?_
  unfold B
  conv => arg 4; unfold chn Curve.sv ints
  (repeat' (first | with_reducible refine splitVC_d (fun _ => ?_) (fun _ => ?_) | ((with_reducible refine And.intro ?_ ?_); focus (first | exact True.intro | (simp only [InK]; omega) | omega | (simp only [InK, ne_eq, and_true, true_and]; omega) | trivial)) | (simp -dsimp only [↓RP, RQ0, RQ1, RQ2, RQ3, implies_true, forall_const, Nat.reduceMul, reduceIte, reduceCtorEq, Nat.reduceAdd, Nat.reduceEqDiff, Nat.reduceLT, Nat.reduceLeDiff, sc_m, sc_u, tup3, B, I, by2, ty5, ty51, decide_true, decide_false, Bool.not_true, Bool.not_false, eq_self, and_self, Nat.zero_add, Int.toNat_natCast, TY, Go.Proofs.Try.results15])))
  refine callVC (c51 c) (by (simp -dsimp only [↓RP, RQ0, RQ1, RQ2, RQ3, implies_true, forall_const, Nat.reduceMul, reduceIte, reduceCtorEq, Nat.reduceAdd, Nat.reduceEqDiff, Nat.reduceLT, Nat.reduceLeDiff, Curve.sv, ints, I, B]); all_goals (try simp)) (by (simp -dsimp only [↓RP, RQ0, RQ1, RQ2, RQ3, implies_true, forall_const, Nat.reduceMul, reduceIte, reduceCtorEq, Nat.reduceAdd, Nat.reduceEqDiff, Nat.reduceLT, Nat.reduceLeDiff, B])) ?_
  (repeat' (first | with_reducible refine splitVC_d (fun _ => ?_) (fun _ => ?_) | ((with_reducible refine And.intro ?_ ?_); focus (first | exact True.intro | (simp only [InK]; omega) | omega | (simp only [InK, ne_eq, and_true, true_and]; omega) | trivial)) | (simp -dsimp only [↓RP, RQ0, RQ1, RQ2, RQ3, implies_true, forall_const, Nat.reduceMul, reduceIte, reduceCtorEq, Nat.reduceAdd, Nat.reduceEqDiff, Nat.reduceLT, Nat.reduceLeDiff, sc_m, sc_u, tup3, B, I, by2, ty5, ty51, decide_true, decide_false, Bool.not_true, Bool.not_false, eq_self, and_self, Nat.zero_add, Int.toNat_natCast, TY, Go.Proofs.Try.results15])))
  all_goals first | (refine callVC hw (by (simp -dsimp only [↓RP, RQ0, RQ1, RQ2, RQ3, implies_true, forall_const, Nat.reduceMul, reduceIte, reduceCtorEq, Nat.reduceAdd, Nat.reduceEqDiff, Nat.reduceLT, Nat.reduceLeDiff])) (by (simp -dsimp only [↓RP, RQ0, RQ1, RQ2, RQ3, implies_true, forall_const, Nat.reduceMul, reduceIte, reduceCtorEq, Nat.reduceAdd, Nat.reduceEqDiff, Nat.reduceLT, Nat.reduceLeDiff, B])) ?_; (repeat' (first | with_reducible refine splitVC_d (fun _ => ?_) (fun _ => ?_) | ((with_reducible refine And.intro ?_ ?_); focus (first | exact True.intro | (simp only [InK]; omega) | omega | (simp only [InK, ne_eq, and_true, true_and]; omega) | trivial)) | (simp -dsimp only [↓RP, RQ0, RQ1, RQ2, RQ3, implies_true, forall_const, Nat.reduceMul, reduceIte, reduceCtorEq, Nat.reduceAdd, Nat.reduceEqDiff, Nat.reduceLT, Nat.reduceLeDiff, sc_m, sc_u, tup3, B, I, by2, ty5, ty51, decide_true, decide_false, Bool.not_true, Bool.not_false, eq_self, and_self, Nat.zero_add, Int.toNat_natCast, TY, Go.Proofs.Try.results15]))); done) | skip
  rename_i h1
  refine callVC (c18 n C) (by (simp -dsimp only [↓RP, RQ0, RQ1, RQ2, RQ3, implies_true, forall_const, Nat.reduceMul, reduceIte, reduceCtorEq, Nat.reduceAdd, Nat.reduceEqDiff, Nat.reduceLT, Nat.reduceLeDiff, chn, Curve.sv, ints, I, B]); all_goals (try simp); all_goals exact fun _ _ => rfl) (by (simp -dsimp only [↓RP, RQ0, RQ1, RQ2, RQ3, implies_true, forall_const, Nat.reduceMul, reduceIte, reduceCtorEq, Nat.reduceAdd, Nat.reduceEqDiff, Nat.reduceLT, Nat.reduceLeDiff, B])) ?_
  (repeat' (first | with_reducible refine splitVC_d (fun _ => ?_) (fun _ => ?_) | ((with_reducible refine And.intro ?_ ?_); focus (first | exact True.intro | (simp only [InK]; omega) | omega | (simp only [InK, ne_eq, and_true, true_and]; omega) | trivial)) | (simp -dsimp only [↓RP, RQ0, RQ1, RQ2, RQ3, implies_true, forall_const, Nat.reduceMul, reduceIte, reduceCtorEq, Nat.reduceAdd, Nat.reduceEqDiff, Nat.reduceLT, Nat.reduceLeDiff, sc_m, sc_u, tup3, B, I, by2, ty5, ty51, decide_true, decide_false, Bool.not_true, Bool.not_false, eq_self, and_self, Nat.zero_add, Int.toNat_natCast, TY, Go.Proofs.Try.results15])))
  all_goals first | (refine callVC hw (by (simp -dsimp only [↓RP, RQ0, RQ1, RQ2, RQ3, implies_true, forall_const, Nat.reduceMul, reduceIte, reduceCtorEq, Nat.reduceAdd, Nat.reduceEqDiff, Nat.reduceLT, Nat.reduceLeDiff])) (by (simp -dsimp only [↓RP, RQ0, RQ1, RQ2, RQ3, implies_true, forall_const, Nat.reduceMul, reduceIte, reduceCtorEq, Nat.reduceAdd, Nat.reduceEqDiff, Nat.reduceLT, Nat.reduceLeDiff, B])) ?_; (repeat' (first | with_reducible refine splitVC_d (fun _ => ?_) (fun _ => ?_) | ((with_reducible refine And.intro ?_ ?_); focus (first | exact True.intro | (simp only [InK]; omega) | omega | (simp only [InK, ne_eq, and_true, true_and]; omega) | trivial)) | (simp -dsimp only [↓RP, RQ0, RQ1, RQ2, RQ3, implies_true, forall_const, Nat.reduceMul, reduceIte, reduceCtorEq, Nat.reduceAdd, Nat.reduceEqDiff, Nat.reduceLT, Nat.reduceLeDiff, sc_m, sc_u, tup3, B, I, by2, ty5, ty51, decide_true, decide_false, Bool.not_true, Bool.not_false, eq_self, and_self, Nat.zero_add, Int.toNat_natCast, TY, Go.Proofs.Try.results15]))); done) | skip
  rename_i h2
  refine callVC (c55 n C) (by (simp -dsimp only [↓RP, RQ0, RQ1, RQ2, RQ3, implies_true, forall_const, Nat.reduceMul, reduceIte, reduceCtorEq, Nat.reduceAdd, Nat.reduceEqDiff, Nat.reduceLT, Nat.reduceLeDiff, chn, Curve.sv, ints, I, B]); all_goals (try simp); all_goals exact fun _ _ => rfl) (by (simp -dsimp only [↓RP, RQ0, RQ1, RQ2, RQ3, implies_true, forall_const, Nat.reduceMul, reduceIte, reduceCtorEq, Nat.reduceAdd, Nat.reduceEqDiff, Nat.reduceLT, Nat.reduceLeDiff, I])) ?_
  (repeat' (first | with_reducible refine splitVC_d (fun _ => ?_) (fun _ => ?_) | ((with_reducible refine And.intro ?_ ?_); focus (first | exact True.intro | (simp only [InK]; omega) | omega | (simp only [InK, ne_eq, and_true, true_and]; omega) | trivial)) | (simp -dsimp only [↓RP, RQ0, RQ1, RQ2, RQ3, implies_true, forall_const, Nat.reduceMul, reduceIte, reduceCtorEq, Nat.reduceAdd, Nat.reduceEqDiff, Nat.reduceLT, Nat.reduceLeDiff, sc_m, sc_u, tup3, B, I, by2, ty5, ty51, decide_true, decide_false, Bool.not_true, Bool.not_false, eq_self, and_self, Nat.zero_add, Int.toNat_natCast, TY, Go.Proofs.Try.results15])))
  all_goals first | (refine callVC hw (by (simp -dsimp only [↓RP, RQ0, RQ1, RQ2, RQ3, implies_true, forall_const, Nat.reduceMul, reduceIte, reduceCtorEq, Nat.reduceAdd, Nat.reduceEqDiff, Nat.reduceLT, Nat.reduceLeDiff])) (by (simp -dsimp only [↓RP, RQ0, RQ1, RQ2, RQ3, implies_true, forall_const, Nat.reduceMul, reduceIte, reduceCtorEq, Nat.reduceAdd, Nat.reduceEqDiff, Nat.reduceLT, Nat.reduceLeDiff, B])) ?_; (repeat' (first | with_reducible refine splitVC_d (fun _ => ?_) (fun _ => ?_) | ((with_reducible refine And.intro ?_ ?_); focus (first | exact True.intro | (simp only [InK]; omega) | omega | (simp only [InK, ne_eq, and_true, true_and]; omega) | trivial)) | (simp -dsimp only [↓RP, RQ0, RQ1, RQ2, RQ3, implies_true, forall_const, Nat.reduceMul, reduceIte, reduceCtorEq, Nat.reduceAdd, Nat.reduceEqDiff, Nat.reduceLT, Nat.reduceLeDiff, sc_m, sc_u, tup3, B, I, by2, ty5, ty51, decide_true, decide_false, Bool.not_true, Bool.not_false, eq_self, and_self, Nat.zero_add, Int.toNat_natCast, TY, Go.Proofs.Try.results15]))); done) | skip
  rename_i h3
  have hc := Curve.fine h1
  have ⟨n1, n3, hC⟩ := cErr_fine h3
  have hm6 := hc.m6
  have eT := tm5 x
  have ek := tm201 y
  have hT1 : 1 ≤ x % 5 + 1 := by omega
  have hT5 : x % 5 + 1 ≤ 5 := by omega
  have hk : y % 201 ≤ 200 := by omega
  generalize x % 5 + 1 = T at *
  generalize y % 201 = k at *
  (repeat' (first | with_reducible refine splitVC_d (fun _ => ?_) (fun _ => ?_) | ((with_reducible refine And.intro ?_ ?_); focus (first | exact True.intro | (simp only [InK]; omega) | omega | (simp only [InK, ne_eq, and_true, true_and]; omega) | trivial)) | (simp -dsimp only [↓RP, RQ0, RQ1, RQ2, RQ3, implies_true, forall_const, Nat.reduceMul, reduceIte, reduceCtorEq, Nat.reduceAdd, Nat.reduceEqDiff, Nat.reduceLT, Nat.reduceLeDiff, eT, ek, sc_m, sc_u, tup3, B, I, by2, ty5, ty51, decide_true, decide_false, Bool.not_true, Bool.not_false, eq_self, and_self, Nat.zero_add, Int.toNat_natCast, TY, Go.Proofs.Try.results15])))
  refine loop_vc (fun (i : Nat) => i ≤ c.m) (fun i => ⟨[(0, .arr false false c.m 1 (fun i _ => .val (.int .i64 (c.u i)))), (1, .arr false false n 1 (fun i _ => .arr false false (C i).m 1 (fun j _ => .val (.int .i64 ((C i).u j))))), (9, .val (.int .i64 T)), (10, .val (.int .i64 k)), (11, .vec 60 i 1), (12, .val (.slice none 0 0)), (13, .val (.int .i64 i))], [(60, .rows 2 1 i (fun j _ => .val (.int .i64 ((T : Int) * c.u j))))], 61⟩) (fun i => c.m - i) 0 (Nat.zero_le _) (weak [(60, none)] [] ?_ ?_ ?_) fun i hi => ?_
  · (simp -dsimp only [↓RP, RQ0, RQ1, RQ2, RQ3, implies_true, forall_const, Nat.reduceMul, reduceIte, reduceCtorEq, Nat.reduceAdd, Nat.reduceEqDiff, Nat.reduceLT, Nat.reduceLeDiff]); all_goals simp
  · (simp -dsimp only [↓RP, RQ0, RQ1, RQ2, RQ3, implies_true, forall_const, Nat.reduceMul, reduceIte, reduceCtorEq, Nat.reduceAdd, Nat.reduceEqDiff, Nat.reduceLT, Nat.reduceLeDiff]); all_goals (try simp)
  · (simp -dsimp only [↓RP, RQ0, RQ1, RQ2, RQ3, implies_true, forall_const, Nat.reduceMul, reduceIte, reduceCtorEq, Nat.reduceAdd, Nat.reduceEqDiff, Nat.reduceLT, Nat.reduceLeDiff]); all_goals simp
  by_cases hlt : i < c.m
  · have b0 := hc.rg i hlt
    have b1 := mul_bd T hT5 _ 100 b0.1 b0.2
    (repeat' (first | with_reducible refine splitVC_d (fun _ => ?_) (fun _ => ?_) | ((with_reducible refine And.intro ?_ ?_); focus (first | exact True.intro | (simp only [InK]; omega) | omega | (simp only [InK, ne_eq, and_true, true_and]; omega) | trivial)) | (simp -dsimp only [↓RP, RQ0, RQ1, RQ2, RQ3, implies_true, forall_const, Nat.reduceMul, reduceIte, reduceCtorEq, Nat.reduceAdd, Nat.reduceEqDiff, Nat.reduceLT, Nat.reduceLeDiff, sc_m, sc_u, tup3, B, I, by2, ty5, ty51, decide_true, decide_false, Bool.not_true, Bool.not_false, eq_self, and_self, Nat.zero_add, Int.toNat_natCast, TY, Go.Proofs.Try.results15])))
    all_goals first | (exfalso; omega) | skip
    refine ⟨⟨by simp, Nat.le_refl _, fun a b ha hb => by rw [lit1 _ a b ha hb]; rfl, by omega⟩, by (first | trivial | (simp only [InK]; omega) | omega | (simp only [InK, ne_eq, and_true, true_and]; omega)), i + 1, by omega, by omega, weak [(60, some 73)] [] ?_ ?_ ?_⟩
    · (simp -dsimp only [↓RP, RQ0, RQ1, RQ2, RQ3, implies_true, forall_const, Nat.reduceMul, reduceIte, reduceCtorEq, Nat.reduceAdd, Nat.reduceEqDiff, Nat.reduceLT, Nat.reduceLeDiff]); all_goals simp
    · (simp -dsimp only [↓RP, RQ0, RQ1, RQ2, RQ3, implies_true, forall_const, Nat.reduceMul, reduceIte, reduceCtorEq, Nat.reduceAdd, Nat.reduceEqDiff, Nat.reduceLT, Nat.reduceLeDiff]); all_goals (try simp)
      exact fun a h1 h2 => app2 (fun j => .val (.int .i64 ((T : Int) * c.u j))) i a h1 h2
    · (simp -dsimp only [↓RP, RQ0, RQ1, RQ2, RQ3, implies_true, forall_const, Nat.reduceMul, reduceIte, reduceCtorEq, Nat.reduceAdd, Nat.reduceEqDiff, Nat.reduceLT, Nat.reduceLeDiff]); all_goals simp
  have hin : i = c.m := by omega
  clear hlt hi
  subst hin
  (repeat' (first | with_reducible refine splitVC_d (fun _ => ?_) (fun _ => ?_) | ((with_reducible refine And.intro ?_ ?_); focus (first | exact True.intro | (simp only [InK]; omega) | omega | (simp only [InK, ne_eq, and_true, true_and]; omega) | trivial)) | (simp -dsimp only [↓RP, RQ0, RQ1, RQ2, RQ3, implies_true, forall_const, Nat.reduceMul, reduceIte, reduceCtorEq, Nat.reduceAdd, Nat.reduceEqDiff, Nat.reduceLT, Nat.reduceLeDiff, sc_m, sc_u, tup3, B, I, by2, ty5, ty51, decide_true, decide_false, Bool.not_true, Bool.not_false, eq_self, and_self, Nat.zero_add, Int.toNat_natCast, TY, Go.Proofs.Try.results15])))
  all_goals first | (exfalso; omega) | skip
  refine loop_vc (fun (i : Nat) => i ≤ n) (fun i => ⟨[(0, .arr false false c.m 1 (fun i _ => .val (.int .i64 (c.u i)))), (1, .arr false false n 1 (fun i _ => .arr false false (C i).m 1 (fun j _ => .val (.int .i64 ((C i).u j))))), (9, .val (.int .i64 T)), (10, .val (.int .i64 k)), (11, .vec 60 c.m 1), (12, .vec 61 i 1), (14, .val (.int .i64 i))], [(60, .rows 2 1 c.m (fun j _ => .val (.int .i64 ((T : Int) * c.u j)))), (61, .rows 22 1 i (fun j _ => .arr true false (C j).m 1 (fun a _ => .val (.int .i64 ((T : Int) * (C j).u a)))))], 62⟩) (fun i => n - i) 0 (Nat.zero_le _) (weak [(60, some 60), (61, none)] [] ?_ ?_ ?_) fun i hi => ?_
  · (simp -dsimp only [↓RP, RQ0, RQ1, RQ2, RQ3, implies_true, forall_const, Nat.reduceMul, reduceIte, reduceCtorEq, Nat.reduceAdd, Nat.reduceEqDiff, Nat.reduceLT, Nat.reduceLeDiff])
    all_goals simp
  · (simp -dsimp only [↓RP, RQ0, RQ1, RQ2, RQ3, implies_true, forall_const, Nat.reduceMul, reduceIte, reduceCtorEq, Nat.reduceAdd, Nat.reduceEqDiff, Nat.reduceLT, Nat.reduceLeDiff]); all_goals (try simp)
  · (simp -dsimp only [↓RP, RQ0, RQ1, RQ2, RQ3, implies_true, forall_const, Nat.reduceMul, reduceIte, reduceCtorEq, Nat.reduceAdd, Nat.reduceEqDiff, Nat.reduceLT, Nat.reduceLeDiff]); all_goals simp
  by_cases hlt2 : i < n
  · have hf := hC i hlt2
    have f1 := hf.m1
    have f6 := hf.m6
    (repeat' (first | with_reducible refine splitVC_d (fun _ => ?_) (fun _ => ?_) | ((with_reducible refine And.intro ?_ ?_); focus (first | exact True.intro | (simp only [InK]; omega) | omega | (simp only [InK, ne_eq, and_true, true_and]; omega) | trivial)) | (simp -dsimp only [↓RP, RQ0, RQ1, RQ2, RQ3, implies_true, forall_const, Nat.reduceMul, reduceIte, reduceCtorEq, Nat.reduceAdd, Nat.reduceEqDiff, Nat.reduceLT, Nat.reduceLeDiff, sc_m, sc_u, tup3, B, I, by2, ty5, ty51, decide_true, decide_false, Bool.not_true, Bool.not_false, eq_self, and_self, Nat.zero_add, Int.toNat_natCast, TY, Go.Proofs.Try.results15])))
    all_goals first | (exfalso; omega) | skip
    refine loop_vc (fun (q : Option Nat) => match q with | some a => a < (C i).m | none => True) (stT c n C T k i) (fun q => match q with | some a => (C i).m - a + 1 | none => 0) (some 0) f1 (weak [(60, some 60), (61, some 61), (62, none)] [] ?_ ?_ ?_) fun q hq => ?_
    · (simp -dsimp only [↓RP, RQ0, RQ1, RQ2, RQ3, implies_true, forall_const, Nat.reduceMul, reduceIte, reduceCtorEq, Nat.reduceAdd, Nat.reduceEqDiff, Nat.reduceLT, Nat.reduceLeDiff, stT]); all_goals simp
    · (simp -dsimp only [↓RP, RQ0, RQ1, RQ2, RQ3, implies_true, forall_const, Nat.reduceMul, reduceIte, reduceCtorEq, Nat.reduceAdd, Nat.reduceEqDiff, Nat.reduceLT, Nat.reduceLeDiff, stT]); all_goals (try simp)
    · (simp -dsimp only [↓RP, RQ0, RQ1, RQ2, RQ3, implies_true, forall_const, Nat.reduceMul, reduceIte, reduceCtorEq, Nat.reduceAdd, Nat.reduceEqDiff, Nat.reduceLT, Nat.reduceLeDiff, stT]); all_goals simp
    cases q with
    | some a =>
      have ha : a < (C i).m := hq
      have b0 := hf.rg a ha
      have b1 := mul_bd T hT5 _ 100 b0.1 b0.2
      conv => arg 4; unfold stT
      (repeat' (first | with_reducible refine splitVC_d (fun _ => ?_) (fun _ => ?_) | ((with_reducible refine And.intro ?_ ?_); focus (first | exact True.intro | (simp only [InK]; omega) | omega | (simp only [InK, ne_eq, and_true, true_and]; omega) | trivial)) | (simp -dsimp only [↓RP, RQ0, RQ1, RQ2, RQ3, implies_true, forall_const, Nat.reduceMul, reduceIte, reduceCtorEq, Nat.reduceAdd, Nat.reduceEqDiff, Nat.reduceLT, Nat.reduceLeDiff, sc_m, sc_u, tup3, B, I, by2, ty5, ty51, decide_true, decide_false, Bool.not_true, Bool.not_false, eq_self, and_self, Nat.zero_add, Int.toNat_natCast, TY, Go.Proofs.Try.results15])))
      all_goals first | (exfalso; omega) | skip
      refine ⟨⟨by simp, Nat.le_refl _, fun a b ha hb => by rw [lit1 _ a b ha hb]; rfl, by omega⟩, by (first | trivial | (simp only [InK]; omega) | omega | (simp only [InK, ne_eq, and_true, true_and]; omega)), ?_⟩
      by_cases hl2 : a + 1 < (C i).m
      · refine ⟨some (a + 1), hl2, by show (C i).m - (a + 1) + 1 < (C i).m - a + 1; omega, weak [(60, some 60), (61, some 61), (62, some 81)] [] ?_ ?_ ?_⟩
        · (simp -dsimp only [↓RP, RQ0, RQ1, RQ2, RQ3, implies_true, forall_const, Nat.reduceMul, reduceIte, reduceCtorEq, Nat.reduceAdd, Nat.reduceEqDiff, Nat.reduceLT, Nat.reduceLeDiff, stT]); all_goals (try simp)
        · (simp -dsimp only [↓RP, RQ0, RQ1, RQ2, RQ3, implies_true, forall_const, Nat.reduceMul, reduceIte, reduceCtorEq, Nat.reduceAdd, Nat.reduceEqDiff, Nat.reduceLT, Nat.reduceLeDiff, stT]); all_goals (try simp)
          exact fun x h1 h2 => app2 (fun j => .val (.int .i64 ((T : Int) * (C i).u j))) a x h1 h2
        · (simp -dsimp only [↓RP, RQ0, RQ1, RQ2, RQ3, implies_true, forall_const, Nat.reduceMul, reduceIte, reduceCtorEq, Nat.reduceAdd, Nat.reduceEqDiff, Nat.reduceLT, Nat.reduceLeDiff]); all_goals simp
      · have hn1 : (C i).m = a + 1 := by omega
        refine ⟨none, trivial, by show 0 < _; omega, weak [(60, some 60), (61, some 61)] [81] ?_ ?_ ?_⟩
        · (simp -dsimp only [↓RP, RQ0, RQ1, RQ2, RQ3, implies_true, forall_const, Nat.reduceMul, reduceIte, reduceCtorEq, Nat.reduceAdd, Nat.reduceEqDiff, Nat.reduceLT, Nat.reduceLeDiff, stT, hn1]); all_goals (try simp)
          all_goals (try exact fun x h1 h2 => app2 (fun j => .val (.int .i64 ((T : Int) * (C i).u j))) a x h1 h2)
        · (simp -dsimp only [↓RP, RQ0, RQ1, RQ2, RQ3, implies_true, forall_const, Nat.reduceMul, reduceIte, reduceCtorEq, Nat.reduceAdd, Nat.reduceEqDiff, Nat.reduceLT, Nat.reduceLeDiff, stT, hn1]); all_goals (try simp)
        · (simp -dsimp only [↓RP, RQ0, RQ1, RQ2, RQ3, implies_true, forall_const, Nat.reduceMul, reduceIte, reduceCtorEq, Nat.reduceAdd, Nat.reduceEqDiff, Nat.reduceLT, Nat.reduceLeDiff]); all_goals simp
    | none =>
      conv => arg 4; unfold stT
      (repeat' (first | with_reducible refine splitVC_d (fun _ => ?_) (fun _ => ?_) | ((with_reducible refine And.intro ?_ ?_); focus (first | exact True.intro | (simp only [InK]; omega) | omega | (simp only [InK, ne_eq, and_true, true_and]; omega) | trivial)) | (simp -dsimp only [↓RP, RQ0, RQ1, RQ2, RQ3, implies_true, forall_const, Nat.reduceMul, reduceIte, reduceCtorEq, Nat.reduceAdd, Nat.reduceEqDiff, Nat.reduceLT, Nat.reduceLeDiff, sc_m, sc_u, tup3, B, I, by2, ty5, ty51, decide_true, decide_false, Bool.not_true, Bool.not_false, eq_self, and_self, Nat.zero_add, Int.toNat_natCast, TY, Go.Proofs.Try.results15])))
      all_goals first | (exfalso; omega) | skip
      refine ⟨⟨by simp, Nat.le_refl _, fun a b ha hb => by rw [lit1 _ a b ha hb]; rfl, by omega, by rw [by22]; omega⟩, by (first | trivial | (simp only [InK]; omega) | omega | (simp only [InK, ne_eq, and_true, true_and]; omega)), i + 1, by omega, by omega, weak [(60, some 60), (61, some 73)] [] ?_ ?_ ?_⟩
      · (simp -dsimp only [↓RP, RQ0, RQ1, RQ2, RQ3, implies_true, forall_const, Nat.reduceMul, reduceIte, reduceCtorEq, Nat.reduceAdd, Nat.reduceEqDiff, Nat.reduceLT, Nat.reduceLeDiff]); all_goals simp
      · (simp -dsimp only [↓RP, RQ0, RQ1, RQ2, RQ3, implies_true, forall_const, Nat.reduceMul, reduceIte, reduceCtorEq, Nat.reduceAdd, Nat.reduceEqDiff, Nat.reduceLT, Nat.reduceLeDiff]); all_goals (try simp)
        intro a h1
        by_cases e : a < i
        · simp [e, Wk]
        · have e2 : a = i := by omega
          subst e2
          simp [Wk]
      · (simp -dsimp only [↓RP, RQ0, RQ1, RQ2, RQ3, implies_true, forall_const, Nat.reduceMul, reduceIte, reduceCtorEq, Nat.reduceAdd, Nat.reduceEqDiff, Nat.reduceLT, Nat.reduceLeDiff]); all_goals simp
  have hin2 : i = n := by omega
  subst hin2
  (repeat' (first | with_reducible refine splitVC_d (fun _ => ?_) (fun _ => ?_) | ((with_reducible refine And.intro ?_ ?_); focus (first | exact True.intro | (simp only [InK]; omega) | omega | (simp only [InK, ne_eq, and_true, true_and]; omega) | trivial)) | (simp -dsimp only [↓RP, RQ0, RQ1, RQ2, RQ3, implies_true, forall_const, Nat.reduceMul, reduceIte, reduceCtorEq, Nat.reduceAdd, Nat.reduceEqDiff, Nat.reduceLT, Nat.reduceLeDiff, sc_m, sc_u, tup3, B, I, by2, ty5, ty51, decide_true, decide_false, Bool.not_true, Bool.not_false, eq_self, and_self, Nat.zero_add, Int.toNat_natCast, TY, Go.Proofs.Try.results15])))
  all_goals first | (exfalso; omega) | skip
  by_cases h5 : (c.sc T).err = 0
  rotate_left
  · refine callVC (c27 (c.sc T)) (by (simp -dsimp only [↓RP, RQ0, RQ1, RQ2, RQ3, implies_true, forall_const, Nat.reduceMul, reduceIte, reduceCtorEq, Nat.reduceAdd, Nat.reduceEqDiff, Nat.reduceLT, Nat.reduceLeDiff, sc_m, sc_u, Curve.sv, ints, I, B]); all_goals (try simp)) (by (simp -dsimp only [↓RP, RQ0, RQ1, RQ2, RQ3, implies_true, forall_const, Nat.reduceMul, reduceIte, reduceCtorEq, Nat.reduceAdd, Nat.reduceEqDiff, Nat.reduceLT, Nat.reduceLeDiff, I])) ?_
    (repeat' (first | with_reducible refine splitVC_d (fun _ => ?_) (fun _ => ?_) | ((with_reducible refine And.intro ?_ ?_); focus (first | exact True.intro | (simp only [InK]; omega) | omega | (simp only [InK, ne_eq, and_true, true_and]; omega) | trivial)) | (simp -dsimp only [↓RP, RQ0, RQ1, RQ2, RQ3, implies_true, forall_const, Nat.reduceMul, reduceIte, reduceCtorEq, Nat.reduceAdd, Nat.reduceEqDiff, Nat.reduceLT, Nat.reduceLeDiff, h5, sc_m, sc_u, tup3, B, I, by2, ty5, ty51, decide_true, decide_false, Bool.not_true, Bool.not_false, eq_self, and_self, Nat.zero_add, Int.toNat_natCast, TY, Go.Proofs.Try.results15])))
    refine callVC hw (by (simp -dsimp only [↓RP, RQ0, RQ1, RQ2, RQ3, implies_true, forall_const, Nat.reduceMul, reduceIte, reduceCtorEq, Nat.reduceAdd, Nat.reduceEqDiff, Nat.reduceLT, Nat.reduceLeDiff])) (by (simp -dsimp only [↓RP, RQ0, RQ1, RQ2, RQ3, implies_true, forall_const, Nat.reduceMul, reduceIte, reduceCtorEq, Nat.reduceAdd, Nat.reduceEqDiff, Nat.reduceLT, Nat.reduceLeDiff, B])) ?_
    (repeat' (first | with_reducible refine splitVC_d (fun _ => ?_) (fun _ => ?_) | ((with_reducible refine And.intro ?_ ?_); focus (first | exact True.intro | (simp only [InK]; omega) | omega | (simp only [InK, ne_eq, and_true, true_and]; omega) | trivial)) | (simp -dsimp only [↓RP, RQ0, RQ1, RQ2, RQ3, implies_true, forall_const, Nat.reduceMul, reduceIte, reduceCtorEq, Nat.reduceAdd, Nat.reduceEqDiff, Nat.reduceLT, Nat.reduceLeDiff, sc_m, sc_u, tup3, B, I, by2, ty5, ty51, decide_true, decide_false, Bool.not_true, Bool.not_false, eq_self, and_self, Nat.zero_add, Int.toNat_natCast, TY, Go.Proofs.Try.results15])))
  refine callVC (c27 (c.sc T)) (by (simp -dsimp only [↓RP, RQ0, RQ1, RQ2, RQ3, implies_true, forall_const, Nat.reduceMul, reduceIte, reduceCtorEq, Nat.reduceAdd, Nat.reduceEqDiff, Nat.reduceLT, Nat.reduceLeDiff, sc_m, sc_u, Curve.sv, ints, I, B]); all_goals (try simp)) (by (simp -dsimp only [↓RP, RQ0, RQ1, RQ2, RQ3, implies_true, forall_const, Nat.reduceMul, reduceIte, reduceCtorEq, Nat.reduceAdd, Nat.reduceEqDiff, Nat.reduceLT, Nat.reduceLeDiff, I])) ?_
  (repeat' (first | with_reducible refine splitVC_d (fun _ => ?_) (fun _ => ?_) | ((with_reducible refine And.intro ?_ ?_); focus (first | exact True.intro | (simp only [InK]; omega) | omega | (simp only [InK, ne_eq, and_true, true_and]; omega) | trivial)) | (simp -dsimp only [↓RP, RQ0, RQ1, RQ2, RQ3, implies_true, forall_const, Nat.reduceMul, reduceIte, reduceCtorEq, Nat.reduceAdd, Nat.reduceEqDiff, Nat.reduceLT, Nat.reduceLeDiff, h5, sc_m, sc_u, tup3, B, I, by2, ty5, ty51, decide_true, decide_false, Bool.not_true, Bool.not_false, eq_self, and_self, Nat.zero_add, Int.toNat_natCast, TY, Go.Proofs.Try.results15])))
  by_cases h6 : cErr i (fun j => (C j).sc T) = 0
  rotate_left
  · refine callVC (c55 i (fun j => (C j).sc T)) (by (simp -dsimp only [↓RP, RQ0, RQ1, RQ2, RQ3, implies_true, forall_const, Nat.reduceMul, reduceIte, reduceCtorEq, Nat.reduceAdd, Nat.reduceEqDiff, Nat.reduceLT, Nat.reduceLeDiff, sc_m, sc_u, chn, Curve.sv, ints, I, B]); all_goals (try simp); all_goals (try exact fun _ _ => rfl)) (by (simp -dsimp only [↓RP, RQ0, RQ1, RQ2, RQ3, implies_true, forall_const, Nat.reduceMul, reduceIte, reduceCtorEq, Nat.reduceAdd, Nat.reduceEqDiff, Nat.reduceLT, Nat.reduceLeDiff, I])) ?_
    (repeat' (first | with_reducible refine splitVC_d (fun _ => ?_) (fun _ => ?_) | ((with_reducible refine And.intro ?_ ?_); focus (first | exact True.intro | (simp only [InK]; omega) | omega | (simp only [InK, ne_eq, and_true, true_and]; omega) | trivial)) | (simp -dsimp only [↓RP, RQ0, RQ1, RQ2, RQ3, implies_true, forall_const, Nat.reduceMul, reduceIte, reduceCtorEq, Nat.reduceAdd, Nat.reduceEqDiff, Nat.reduceLT, Nat.reduceLeDiff, h6, sc_m, sc_u, tup3, B, I, by2, ty5, ty51, decide_true, decide_false, Bool.not_true, Bool.not_false, eq_self, and_self, Nat.zero_add, Int.toNat_natCast, TY, Go.Proofs.Try.results15])))
    refine callVC hw (by (simp -dsimp only [↓RP, RQ0, RQ1, RQ2, RQ3, implies_true, forall_const, Nat.reduceMul, reduceIte, reduceCtorEq, Nat.reduceAdd, Nat.reduceEqDiff, Nat.reduceLT, Nat.reduceLeDiff])) (by (simp -dsimp only [↓RP, RQ0, RQ1, RQ2, RQ3, implies_true, forall_const, Nat.reduceMul, reduceIte, reduceCtorEq, Nat.reduceAdd, Nat.reduceEqDiff, Nat.reduceLT, Nat.reduceLeDiff, B])) ?_
    (repeat' (first | with_reducible refine splitVC_d (fun _ => ?_) (fun _ => ?_) | ((with_reducible refine And.intro ?_ ?_); focus (first | exact True.intro | (simp only [InK]; omega) | omega | (simp only [InK, ne_eq, and_true, true_and]; omega) | trivial)) | (simp -dsimp only [↓RP, RQ0, RQ1, RQ2, RQ3, implies_true, forall_const, Nat.reduceMul, reduceIte, reduceCtorEq, Nat.reduceAdd, Nat.reduceEqDiff, Nat.reduceLT, Nat.reduceLeDiff, sc_m, sc_u, tup3, B, I, by2, ty5, ty51, decide_true, decide_false, Bool.not_true, Bool.not_false, eq_self, and_self, Nat.zero_add, Int.toNat_natCast, TY, Go.Proofs.Try.results15])))
  refine callVC (c55 i (fun j => (C j).sc T)) (by (simp -dsimp only [↓RP, RQ0, RQ1, RQ2, RQ3, implies_true, forall_const, Nat.reduceMul, reduceIte, reduceCtorEq, Nat.reduceAdd, Nat.reduceEqDiff, Nat.reduceLT, Nat.reduceLeDiff, sc_m, sc_u, chn, Curve.sv, ints, I, B]); all_goals (try simp); all_goals (try exact fun _ _ => rfl)) (by (simp -dsimp only [↓RP, RQ0, RQ1, RQ2, RQ3, implies_true, forall_const, Nat.reduceMul, reduceIte, reduceCtorEq, Nat.reduceAdd, Nat.reduceEqDiff, Nat.reduceLT, Nat.reduceLeDiff, I])) ?_
  (repeat' (first | with_reducible refine splitVC_d (fun _ => ?_) (fun _ => ?_) | ((with_reducible refine And.intro ?_ ?_); focus (first | exact True.intro | (simp only [InK]; omega) | omega | (simp only [InK, ne_eq, and_true, true_and]; omega) | trivial)) | (simp -dsimp only [↓RP, RQ0, RQ1, RQ2, RQ3, implies_true, forall_const, Nat.reduceMul, reduceIte, reduceCtorEq, Nat.reduceAdd, Nat.reduceEqDiff, Nat.reduceLT, Nat.reduceLeDiff, h6, sc_m, sc_u, tup3, B, I, by2, ty5, ty51, decide_true, decide_false, Bool.not_true, Bool.not_false, eq_self, and_self, Nat.zero_add, Int.toNat_natCast, TY, Go.Proofs.Try.results15])))
  have hd := Curve.fine h5
  have hD := (cErr_fine h6).2.2
  have ha := ask_sc T hT1 c i C h1 h3 h5 h6
  have k20 := m20 (c.sc T) hd k hk
  rw [M_sc T hT1] at k20
  have k22 := m22 i (fun j => (C j).sc T) h6 k hk
  rw [Lc_sc T hT1] at k22
  have bM := M_bound hc k
  have bL := Ls_bound C (i - 1) (fun j hj => hC j (by omega)) k (by omega)
  have bL : 0 ≤ Lc i C k ∧ Lc i C k ≤ 50000 := bL
  have bM2 := mul_bd T hT5 (c.M k) 20000 bM.1 (by omega)
  have bL2 := mul_bd T hT5 (Lc i C k) 50000 bL.1 bL.2
  refine callVC (m20 c hc k hk) (by (simp -dsimp only [↓RP, RQ0, RQ1, RQ2, RQ3, implies_true, forall_const, Nat.reduceMul, reduceIte, reduceCtorEq, Nat.reduceAdd, Nat.reduceEqDiff, Nat.reduceLT, Nat.reduceLeDiff, Curve.sv, ints, I, B]); all_goals (try simp)) (by (simp -dsimp only [↓RP, RQ0, RQ1, RQ2, RQ3, implies_true, forall_const, Nat.reduceMul, reduceIte, reduceCtorEq, Nat.reduceAdd, Nat.reduceEqDiff, Nat.reduceLT, Nat.reduceLeDiff, I])) ?_
  (repeat' (first | with_reducible refine splitVC_d (fun _ => ?_) (fun _ => ?_) | ((with_reducible refine And.intro ?_ ?_); focus (first | exact True.intro | (simp only [InK]; omega) | omega | (simp only [InK, ne_eq, and_true, true_and]; omega) | trivial)) | (simp -dsimp only [↓RP, RQ0, RQ1, RQ2, RQ3, implies_true, forall_const, Nat.reduceMul, reduceIte, reduceCtorEq, Nat.reduceAdd, Nat.reduceEqDiff, Nat.reduceLT, Nat.reduceLeDiff, sc_m, sc_u, tup3, B, I, by2, ty5, ty51, decide_true, decide_false, Bool.not_true, Bool.not_false, eq_self, and_self, Nat.zero_add, Int.toNat_natCast, TY, Go.Proofs.Try.results15])))
  refine callVC k20 (by (simp -dsimp only [↓RP, RQ0, RQ1, RQ2, RQ3, implies_true, forall_const, Nat.reduceMul, reduceIte, reduceCtorEq, Nat.reduceAdd, Nat.reduceEqDiff, Nat.reduceLT, Nat.reduceLeDiff, sc_m, sc_u, Curve.sv, ints, I, B]); all_goals (try simp)) (by (simp -dsimp only [↓RP, RQ0, RQ1, RQ2, RQ3, implies_true, forall_const, Nat.reduceMul, reduceIte, reduceCtorEq, Nat.reduceAdd, Nat.reduceEqDiff, Nat.reduceLT, Nat.reduceLeDiff, I])) ?_
  (repeat' (first | with_reducible refine splitVC_d (fun _ => ?_) (fun _ => ?_) | ((with_reducible refine And.intro ?_ ?_); focus (first | exact True.intro | (simp only [InK]; omega) | omega | (simp only [InK, ne_eq, and_true, true_and]; omega) | trivial)) | (simp -dsimp only [↓RP, RQ0, RQ1, RQ2, RQ3, implies_true, forall_const, Nat.reduceMul, reduceIte, reduceCtorEq, Nat.reduceAdd, Nat.reduceEqDiff, Nat.reduceLT, Nat.reduceLeDiff, sc_m, sc_u, tup3, B, I, by2, ty5, ty51, decide_true, decide_false, Bool.not_true, Bool.not_false, eq_self, and_self, Nat.zero_add, Int.toNat_natCast, TY, Go.Proofs.Try.results15])))
  refine callVC (m22 i C h3 k hk) (by (simp -dsimp only [↓RP, RQ0, RQ1, RQ2, RQ3, implies_true, forall_const, Nat.reduceMul, reduceIte, reduceCtorEq, Nat.reduceAdd, Nat.reduceEqDiff, Nat.reduceLT, Nat.reduceLeDiff, chn, Curve.sv, ints, I, B]); all_goals (try simp); all_goals exact fun _ _ => rfl) (by (simp -dsimp only [↓RP, RQ0, RQ1, RQ2, RQ3, implies_true, forall_const, Nat.reduceMul, reduceIte, reduceCtorEq, Nat.reduceAdd, Nat.reduceEqDiff, Nat.reduceLT, Nat.reduceLeDiff, I])) ?_
  (repeat' (first | with_reducible refine splitVC_d (fun _ => ?_) (fun _ => ?_) | ((with_reducible refine And.intro ?_ ?_); focus (first | exact True.intro | (simp only [InK]; omega) | omega | (simp only [InK, ne_eq, and_true, true_and]; omega) | trivial)) | (simp -dsimp only [↓RP, RQ0, RQ1, RQ2, RQ3, implies_true, forall_const, Nat.reduceMul, reduceIte, reduceCtorEq, Nat.reduceAdd, Nat.reduceEqDiff, Nat.reduceLT, Nat.reduceLeDiff, sc_m, sc_u, tup3, B, I, by2, ty5, ty51, decide_true, decide_false, Bool.not_true, Bool.not_false, eq_self, and_self, Nat.zero_add, Int.toNat_natCast, TY, Go.Proofs.Try.results15])))
  refine callVC k22 (by (simp -dsimp only [↓RP, RQ0, RQ1, RQ2, RQ3, implies_true, forall_const, Nat.reduceMul, reduceIte, reduceCtorEq, Nat.reduceAdd, Nat.reduceEqDiff, Nat.reduceLT, Nat.reduceLeDiff, sc_m, sc_u, chn, Curve.sv, ints, I, B]); all_goals (try simp); all_goals (try exact fun _ _ => rfl)) (by (simp -dsimp only [↓RP, RQ0, RQ1, RQ2, RQ3, implies_true, forall_const, Nat.reduceMul, reduceIte, reduceCtorEq, Nat.reduceAdd, Nat.reduceEqDiff, Nat.reduceLT, Nat.reduceLeDiff, I])) ?_
  (repeat' (first | with_reducible refine splitVC_d (fun _ => ?_) (fun _ => ?_) | ((with_reducible refine And.intro ?_ ?_); focus (first | exact True.intro | (simp only [InK]; omega) | omega | (simp only [InK, ne_eq, and_true, true_and]; omega) | trivial)) | (simp -dsimp only [↓RP, RQ0, RQ1, RQ2, RQ3, implies_true, forall_const, Nat.reduceMul, reduceIte, reduceCtorEq, Nat.reduceAdd, Nat.reduceEqDiff, Nat.reduceLT, Nat.reduceLeDiff, sc_m, sc_u, tup3, B, I, by2, ty5, ty51, decide_true, decide_false, Bool.not_true, Bool.not_false, eq_self, and_self, Nat.zero_add, Int.toNat_natCast, TY, Go.Proofs.Try.results15])))
  all_goals first | (exfalso; omega) | skip
  have k40 := c40 c i C (by omega) (fun j hj => by have := (hC j hj).m6; omega)
  have k40s := c40 (c.sc T) i (fun j => (C j).sc T) (by rw [sc_m]; omega) (fun j hj => by have := (hC j hj).m6; rw [sc_m]; omega)
  have k42 := c42 c i C (by omega) (fun j hj => by have := (hC j hj).m6; omega)
  have k42s := c42 (c.sc T) i (fun j => (C j).sc T) (by rw [sc_m]; omega) (fun j hj => by have := (hC j hj).m6; rw [sc_m]; omega)
  rw [waitV_sc T hT1 c i C ha] at k40s
  rw [lateV_sc T hT1 c i C ha] at k42s
  rw [waitV_2] at k40
  rw [lateV_2] at k42 k42s
  have bW := waitV_bd c i C
  have bW2 := mul_bd T hT5 _ _ bW.1 bW.2
  refine callVC k40 (by (simp -dsimp only [↓RP, RQ0, RQ1, RQ2, RQ3, implies_true, forall_const, Nat.reduceMul, reduceIte, reduceCtorEq, Nat.reduceAdd, Nat.reduceEqDiff, Nat.reduceLT, Nat.reduceLeDiff, chn, Curve.sv, ints, I, B]); all_goals (try simp); all_goals exact fun _ _ => rfl) (by (simp -dsimp only [↓RP, RQ0, RQ1, RQ2, RQ3, implies_true, forall_const, Nat.reduceMul, reduceIte, reduceCtorEq, Nat.reduceAdd, Nat.reduceEqDiff, Nat.reduceLT, Nat.reduceLeDiff, I])) ?_
  (repeat' (first | with_reducible refine splitVC_d (fun _ => ?_) (fun _ => ?_) | ((with_reducible refine And.intro ?_ ?_); focus (first | exact True.intro | (simp only [InK]; omega) | omega | (simp only [InK, ne_eq, and_true, true_and]; omega) | trivial)) | (simp -dsimp only [↓RP, RQ0, RQ1, RQ2, RQ3, implies_true, forall_const, Nat.reduceMul, reduceIte, reduceCtorEq, Nat.reduceAdd, Nat.reduceEqDiff, Nat.reduceLT, Nat.reduceLeDiff, sc_m, sc_u, tup3, B, I, by2, ty5, ty51, decide_true, decide_false, Bool.not_true, Bool.not_false, eq_self, and_self, Nat.zero_add, Int.toNat_natCast, TY, Go.Proofs.Try.results15])))
  all_goals first | (exfalso; omega) | skip
  refine callVC m40z (by (simp -dsimp only [↓RP, RQ0, RQ1, RQ2, RQ3, implies_true, forall_const, Nat.reduceMul, reduceIte, reduceCtorEq, Nat.reduceAdd, Nat.reduceEqDiff, Nat.reduceLT, Nat.reduceLeDiff, sc_m, sc_u, chn, Curve.sv, ints, I, B]); all_goals (try simp); all_goals (try exact fun _ _ => rfl)) (by (simp -dsimp only [↓RP, RQ0, RQ1, RQ2, RQ3, implies_true, forall_const, Nat.reduceMul, reduceIte, reduceCtorEq, Nat.reduceAdd, Nat.reduceEqDiff, Nat.reduceLT, Nat.reduceLeDiff, I])) ?_
  (repeat' (first | with_reducible refine splitVC_d (fun _ => ?_) (fun _ => ?_) | ((with_reducible refine And.intro ?_ ?_); focus (first | exact True.intro | (simp only [InK]; omega) | omega | (simp only [InK, ne_eq, and_true, true_and]; omega) | trivial)) | (simp -dsimp only [↓RP, RQ0, RQ1, RQ2, RQ3, implies_true, forall_const, Nat.reduceMul, reduceIte, reduceCtorEq, Nat.reduceAdd, Nat.reduceEqDiff, Nat.reduceLT, Nat.reduceLeDiff, sc_m, sc_u, tup3, B, I, by2, ty5, ty51, decide_true, decide_false, Bool.not_true, Bool.not_false, eq_self, and_self, Nat.zero_add, Int.toNat_natCast, TY, Go.Proofs.Try.results15])))
  all_goals first | (exfalso; omega) | skip
  refine callVC k40s (by (simp -dsimp only [↓RP, RQ0, RQ1, RQ2, RQ3, implies_true, forall_const, Nat.reduceMul, reduceIte, reduceCtorEq, Nat.reduceAdd, Nat.reduceEqDiff, Nat.reduceLT, Nat.reduceLeDiff, sc_m, sc_u, chn, Curve.sv, ints, I, B]); all_goals (try simp); all_goals (try exact fun _ _ => rfl)) (by (simp -dsimp only [↓RP, RQ0, RQ1, RQ2, RQ3, implies_true, forall_const, Nat.reduceMul, reduceIte, reduceCtorEq, Nat.reduceAdd, Nat.reduceEqDiff, Nat.reduceLT, Nat.reduceLeDiff, I])) ?_
  (repeat' (first | with_reducible refine splitVC_d (fun _ => ?_) (fun _ => ?_) | ((with_reducible refine And.intro ?_ ?_); focus (first | exact True.intro | (simp only [InK]; omega) | omega | (simp only [InK, ne_eq, and_true, true_and]; omega) | trivial)) | (simp -dsimp only [↓RP, RQ0, RQ1, RQ2, RQ3, implies_true, forall_const, Nat.reduceMul, reduceIte, reduceCtorEq, Nat.reduceAdd, Nat.reduceEqDiff, Nat.reduceLT, Nat.reduceLeDiff, sc_m, sc_u, tup3, B, I, by2, ty5, ty51, decide_true, decide_false, Bool.not_true, Bool.not_false, eq_self, and_self, Nat.zero_add, Int.toNat_natCast, TY, Go.Proofs.Try.results15])))
  refine callVC k42 (by (simp -dsimp only [↓RP, RQ0, RQ1, RQ2, RQ3, implies_true, forall_const, Nat.reduceMul, reduceIte, reduceCtorEq, Nat.reduceAdd, Nat.reduceEqDiff, Nat.reduceLT, Nat.reduceLeDiff, chn, Curve.sv, ints, I, B]); all_goals (try simp); all_goals exact fun _ _ => rfl) (by (simp -dsimp only [↓RP, RQ0, RQ1, RQ2, RQ3, implies_true, forall_const, Nat.reduceMul, reduceIte, reduceCtorEq, Nat.reduceAdd, Nat.reduceEqDiff, Nat.reduceLT, Nat.reduceLeDiff, I])) ?_
  (repeat' (first | with_reducible refine splitVC_d (fun _ => ?_) (fun _ => ?_) | ((with_reducible refine And.intro ?_ ?_); focus (first | exact True.intro | (simp only [InK]; omega) | omega | (simp only [InK, ne_eq, and_true, true_and]; omega) | trivial)) | (simp -dsimp only [↓RP, RQ0, RQ1, RQ2, RQ3, implies_true, forall_const, Nat.reduceMul, reduceIte, reduceCtorEq, Nat.reduceAdd, Nat.reduceEqDiff, Nat.reduceLT, Nat.reduceLeDiff, sc_m, sc_u, tup3, B, I, by2, ty5, ty51, decide_true, decide_false, Bool.not_true, Bool.not_false, eq_self, and_self, Nat.zero_add, Int.toNat_natCast, TY, Go.Proofs.Try.results15])))
  refine callVC k42s (by (simp -dsimp only [↓RP, RQ0, RQ1, RQ2, RQ3, implies_true, forall_const, Nat.reduceMul, reduceIte, reduceCtorEq, Nat.reduceAdd, Nat.reduceEqDiff, Nat.reduceLT, Nat.reduceLeDiff, sc_m, sc_u, chn, Curve.sv, ints, I, B]); all_goals (try simp); all_goals (try exact fun _ _ => rfl)) (by (simp -dsimp only [↓RP, RQ0, RQ1, RQ2, RQ3, implies_true, forall_const, Nat.reduceMul, reduceIte, reduceCtorEq, Nat.reduceAdd, Nat.reduceEqDiff, Nat.reduceLT, Nat.reduceLeDiff, I])) ?_
  (repeat' (first | with_reducible refine splitVC_d (fun _ => ?_) (fun _ => ?_) | ((with_reducible refine And.intro ?_ ?_); focus (first | exact True.intro | (simp only [InK]; omega) | omega | (simp only [InK, ne_eq, and_true, true_and]; omega) | trivial)) | (simp -dsimp only [↓RP, RQ0, RQ1, RQ2, RQ3, implies_true, forall_const, Nat.reduceMul, reduceIte, reduceCtorEq, Nat.reduceAdd, Nat.reduceEqDiff, Nat.reduceLT, Nat.reduceLeDiff, sc_m, sc_u, tup3, B, I, by2, ty5, ty51, decide_true, decide_false, Bool.not_true, Bool.not_false, eq_self, and_self, Nat.zero_add, Int.toNat_natCast, TY, Go.Proofs.Try.results15])))
  clear bM bL bM2 bL2
  by_cases h7 : askE c i C = 0
  · have hA := ask_ok h7
    have h8 : askE (c.sc T) i (fun j => (C j).sc T) = 0 := by rw [ha, h7]
    have k44 := c44 c i C (fun j hj => by have := (hC j hj).m6; omega) h7
    have k44s := c44 (c.sc T) i (fun j => (C j).sc T) (fun j hj => by have := (hC j hj).m6; rw [sc_m]; omega) h8
    simp only [behB_sc T hT1, sc_m] at k44s
    refine callN k44 (by (simp -dsimp only [↓RP, RQ0, RQ1, RQ2, RQ3, implies_true, forall_const, Nat.reduceMul, reduceIte, reduceCtorEq, Nat.reduceAdd, Nat.reduceEqDiff, Nat.reduceLT, Nat.reduceLeDiff, chn, Curve.sv, ints, I, B]); all_goals (try simp); all_goals exact fun _ _ => rfl) (by (simp -dsimp only [↓RP, RQ0, RQ1, RQ2, RQ3, implies_true, forall_const, Nat.reduceMul, reduceIte, reduceCtorEq, Nat.reduceAdd, Nat.reduceEqDiff, Nat.reduceLT, Nat.reduceLeDiff, I]); all_goals simp) (by (simp -dsimp only [↓RP, RQ0, RQ1, RQ2, RQ3, implies_true, forall_const, Nat.reduceMul, reduceIte, reduceCtorEq, Nat.reduceAdd, Nat.reduceEqDiff, Nat.reduceLT, Nat.reduceLeDiff, I]); all_goals simp) ?_
    (repeat' (first | with_reducible refine splitVC_d (fun _ => ?_) (fun _ => ?_) | ((with_reducible refine And.intro ?_ ?_); focus (first | exact True.intro | (simp only [InK]; omega) | omega | (simp only [InK, ne_eq, and_true, true_and]; omega) | trivial)) | (simp -dsimp only [↓RP, RQ0, RQ1, RQ2, RQ3, implies_true, forall_const, Nat.reduceMul, reduceIte, reduceCtorEq, Nat.reduceAdd, Nat.reduceEqDiff, Nat.reduceLT, Nat.reduceLeDiff, sc_m, sc_u, tup3, B, I, by2, ty5, ty51, decide_true, decide_false, Bool.not_true, Bool.not_false, eq_self, and_self, Nat.zero_add, Int.toNat_natCast, TY, Go.Proofs.Try.results15])))
    refine callN k44s (by (simp -dsimp only [↓RP, RQ0, RQ1, RQ2, RQ3, implies_true, forall_const, Nat.reduceMul, reduceIte, reduceCtorEq, Nat.reduceAdd, Nat.reduceEqDiff, Nat.reduceLT, Nat.reduceLeDiff, sc_m, sc_u, chn, Curve.sv, ints, I, B]); all_goals (try simp); all_goals (try exact fun _ _ => rfl)) (by (simp -dsimp only [↓RP, RQ0, RQ1, RQ2, RQ3, implies_true, forall_const, Nat.reduceMul, reduceIte, reduceCtorEq, Nat.reduceAdd, Nat.reduceEqDiff, Nat.reduceLT, Nat.reduceLeDiff, I]); all_goals simp) (by (simp -dsimp only [↓RP, RQ0, RQ1, RQ2, RQ3, implies_true, forall_const, Nat.reduceMul, reduceIte, reduceCtorEq, Nat.reduceAdd, Nat.reduceEqDiff, Nat.reduceLT, Nat.reduceLeDiff, I]); all_goals simp) ?_
    (repeat' (first | with_reducible refine splitVC_d (fun _ => ?_) (fun _ => ?_) | ((with_reducible refine And.intro ?_ ?_); focus (first | exact True.intro | (simp only [InK]; omega) | omega | (simp only [InK, ne_eq, and_true, true_and]; omega) | trivial)) | (simp -dsimp only [↓RP, RQ0, RQ1, RQ2, RQ3, implies_true, forall_const, Nat.reduceMul, reduceIte, reduceCtorEq, Nat.reduceAdd, Nat.reduceEqDiff, Nat.reduceLT, Nat.reduceLeDiff, h7, sc_m, sc_u, tup3, B, I, by2, ty5, ty51, decide_true, decide_false, Bool.not_true, Bool.not_false, eq_self, and_self, Nat.zero_add, Int.toNat_natCast, TY, Go.Proofs.Try.results15])))
    all_goals first | (exfalso; omega) | skip
    have bB := fun j (hj : j ≤ 10) => beh_bd c i C hA j hj
    clear k40 k40s k42 k42s k44 k44s k20 k22
    refine loop_vc (fun (j : Nat) => j ≤ c.m) (fun j => ⟨[(9, .val (.int .i64 T)), (29, .vec 61 c.m 1), (31, .vec 62 c.m 1), (33, .val (.int .i64 j))], [(61, .rows 2 1 c.m (fun j _ => .val (.int .i64 (behB c i C (j + 1))))), (62, .rows 2 1 c.m (fun j _ => .val (.int .i64 ((T : Int) * behB c i C (j + 1)))))], 63⟩) (fun j => c.m - j) 0 (Nat.zero_le _) (weak [(61, some 184), (62, some 192)] [] ?_ ?_ ?_) fun j hj => ?_
    · (simp -dsimp only [↓RP, RQ0, RQ1, RQ2, RQ3, implies_true, forall_const, Nat.reduceMul, reduceIte, reduceCtorEq, Nat.reduceAdd, Nat.reduceEqDiff, Nat.reduceLT, Nat.reduceLeDiff]); all_goals simp
    · (simp -dsimp only [↓RP, RQ0, RQ1, RQ2, RQ3, implies_true, forall_const, Nat.reduceMul, reduceIte, reduceCtorEq, Nat.reduceAdd, Nat.reduceEqDiff, Nat.reduceLT, Nat.reduceLeDiff]); all_goals (try simp)
    · (simp -dsimp only [↓RP, RQ0, RQ1, RQ2, RQ3, implies_true, forall_const, Nat.reduceMul, reduceIte, reduceCtorEq, Nat.reduceAdd, Nat.reduceEqDiff, Nat.reduceLT, Nat.reduceLeDiff]); all_goals simp
    by_cases hlj : j < c.m
    · have b1 := bB (j + 1) (by omega)
      have b2 := mul_bd T hT5 _ _ b1.1 b1.2
      (repeat' (first | with_reducible refine splitVC_d (fun _ => ?_) (fun _ => ?_) | ((with_reducible refine And.intro ?_ ?_); focus (first | exact True.intro | (simp only [InK]; omega) | omega | (simp only [InK, ne_eq, and_true, true_and]; omega) | trivial)) | (simp -dsimp only [↓RP, RQ0, RQ1, RQ2, RQ3, implies_true, forall_const, Nat.reduceMul, reduceIte, reduceCtorEq, Nat.reduceAdd, Nat.reduceEqDiff, Nat.reduceLT, Nat.reduceLeDiff, sc_m, sc_u, tup3, B, I, by2, ty5, ty51, decide_true, decide_false, Bool.not_true, Bool.not_false, eq_self, and_self, Nat.zero_add, Int.toNat_natCast, TY, Go.Proofs.Try.results15])))
      all_goals first | (exfalso; omega) | skip
      refine ⟨j + 1, by omega, by omega, weak [] [] ?_ ?_ ?_⟩
      · (simp -dsimp only [↓RP, RQ0, RQ1, RQ2, RQ3, implies_true, forall_const, Nat.reduceMul, reduceIte, reduceCtorEq, Nat.reduceAdd, Nat.reduceEqDiff, Nat.reduceLT, Nat.reduceLeDiff]); all_goals simp
      · (simp -dsimp only [↓RP, RQ0, RQ1, RQ2, RQ3, implies_true, forall_const, Nat.reduceMul, reduceIte, reduceCtorEq, Nat.reduceAdd, Nat.reduceEqDiff, Nat.reduceLT, Nat.reduceLeDiff]); all_goals (try simp)
      · (simp -dsimp only [↓RP, RQ0, RQ1, RQ2, RQ3, implies_true, forall_const, Nat.reduceMul, reduceIte, reduceCtorEq, Nat.reduceAdd, Nat.reduceEqDiff, Nat.reduceLT, Nat.reduceLeDiff]); all_goals simp
    · (repeat' (first | with_reducible refine splitVC_d (fun _ => ?_) (fun _ => ?_) | ((with_reducible refine And.intro ?_ ?_); focus (first | exact True.intro | (simp only [InK]; omega) | omega | (simp only [InK, ne_eq, and_true, true_and]; omega) | trivial)) | (simp -dsimp only [↓RP, RQ0, RQ1, RQ2, RQ3, implies_true, forall_const, Nat.reduceMul, reduceIte, reduceCtorEq, Nat.reduceAdd, Nat.reduceEqDiff, Nat.reduceLT, Nat.reduceLeDiff, sc_m, sc_u, tup3, B, I, by2, ty5, ty51, decide_true, decide_false, Bool.not_true, Bool.not_false, eq_self, and_self, Nat.zero_add, Int.toNat_natCast, TY, Go.Proofs.Try.results15])))
      all_goals first | (exfalso; omega) | skip
      refine callVC hw (by (simp -dsimp only [↓RP, RQ0, RQ1, RQ2, RQ3, implies_true, forall_const, Nat.reduceMul, reduceIte, reduceCtorEq, Nat.reduceAdd, Nat.reduceEqDiff, Nat.reduceLT, Nat.reduceLeDiff])) (by (simp -dsimp only [↓RP, RQ0, RQ1, RQ2, RQ3, implies_true, forall_const, Nat.reduceMul, reduceIte, reduceCtorEq, Nat.reduceAdd, Nat.reduceEqDiff, Nat.reduceLT, Nat.reduceLeDiff, B])) ?_
      (repeat' (first | with_reducible refine splitVC_d (fun _ => ?_) (fun _ => ?_) | ((with_reducible refine And.intro ?_ ?_); focus (first | exact True.intro | (simp only [InK]; omega) | omega | (simp only [InK, ne_eq, and_true, true_and]; omega) | trivial)) | (simp -dsimp only [↓RP, RQ0, RQ1, RQ2, RQ3, implies_true, forall_const, Nat.reduceMul, reduceIte, reduceCtorEq, Nat.reduceAdd, Nat.reduceEqDiff, Nat.reduceLT, Nat.reduceLeDiff, sc_m, sc_u, tup3, B, I, by2, ty5, ty51, decide_true, decide_false, Bool.not_true, Bool.not_false, eq_self, and_self, Nat.zero_add, Int.toNat_natCast, TY, Go.Proofs.Try.results15])))
  · have h8 : askE (c.sc T) i (fun j => (C j).sc T) ≠ 0 := by rw [ha]; exact h7
    have k44 := c44e c i C (by omega) (fun j hj => by have := (hC j hj).m6; omega) h7
    have k44s := c44e (c.sc T) i (fun j => (C j).sc T) (by rw [sc_m]; omega) (fun j hj => by have := (hC j hj).m6; rw [sc_m]; omega) h8
    rw [ha] at k44s
    refine callVC k44 (by (simp -dsimp only [↓RP, RQ0, RQ1, RQ2, RQ3, implies_true, forall_const, Nat.reduceMul, reduceIte, reduceCtorEq, Nat.reduceAdd, Nat.reduceEqDiff, Nat.reduceLT, Nat.reduceLeDiff, chn, Curve.sv, ints, I, B]); all_goals (try simp); all_goals exact fun _ _ => rfl) (by (simp -dsimp only [↓RP, RQ0, RQ1, RQ2, RQ3, implies_true, forall_const, Nat.reduceMul, reduceIte, reduceCtorEq, Nat.reduceAdd, Nat.reduceEqDiff, Nat.reduceLT, Nat.reduceLeDiff, I])) ?_
    (repeat' (first | with_reducible refine splitVC_d (fun _ => ?_) (fun _ => ?_) | ((with_reducible refine And.intro ?_ ?_); focus (first | exact True.intro | (simp only [InK]; omega) | omega | (simp only [InK, ne_eq, and_true, true_and]; omega) | trivial)) | (simp -dsimp only [↓RP, RQ0, RQ1, RQ2, RQ3, implies_true, forall_const, Nat.reduceMul, reduceIte, reduceCtorEq, Nat.reduceAdd, Nat.reduceEqDiff, Nat.reduceLT, Nat.reduceLeDiff, sc_m, sc_u, tup3, B, I, by2, ty5, ty51, decide_true, decide_false, Bool.not_true, Bool.not_false, eq_self, and_self, Nat.zero_add, Int.toNat_natCast, TY, Go.Proofs.Try.results15])))
    refine callVC k44s (by (simp -dsimp only [↓RP, RQ0, RQ1, RQ2, RQ3, implies_true, forall_const, Nat.reduceMul, reduceIte, reduceCtorEq, Nat.reduceAdd, Nat.reduceEqDiff, Nat.reduceLT, Nat.reduceLeDiff, sc_m, sc_u, chn, Curve.sv, ints, I, B]); all_goals (try simp); all_goals (try exact fun _ _ => rfl)) (by (simp -dsimp only [↓RP, RQ0, RQ1, RQ2, RQ3, implies_true, forall_const, Nat.reduceMul, reduceIte, reduceCtorEq, Nat.reduceAdd, Nat.reduceEqDiff, Nat.reduceLT, Nat.reduceLeDiff, I])) ?_
    (repeat' (first | with_reducible refine splitVC_d (fun _ => ?_) (fun _ => ?_) | ((with_reducible refine And.intro ?_ ?_); focus (first | exact True.intro | (simp only [InK]; omega) | omega | (simp only [InK, ne_eq, and_true, true_and]; omega) | trivial)) | (simp -dsimp only [↓RP, RQ0, RQ1, RQ2, RQ3, implies_true, forall_const, Nat.reduceMul, reduceIte, reduceCtorEq, Nat.reduceAdd, Nat.reduceEqDiff, Nat.reduceLT, Nat.reduceLeDiff, sc_m, sc_u, tup3, B, I, by2, ty5, ty51, decide_true, decide_false, Bool.not_true, Bool.not_false, eq_self, and_self, Nat.zero_add, Int.toNat_natCast, TY, Go.Proofs.Try.results15])))
    all_goals first | (exfalso; omega) | skip
    clear k40 k40s k42 k42s k44 k44s k20 k22
    refine loop_vc (fun (j : Nat) => j = 0) (fun j => ⟨[(9, .val (.int .i64 T)), (29, .val (.slice none 0 0)), (31, .val (.slice none 0 0)), (33, .val (.int .i64 j))], [], 63⟩) (fun j => 0) 0 rfl (weak [] [] ?_ ?_ ?_) fun j hj => ?_
    · (simp -dsimp only [↓RP, RQ0, RQ1, RQ2, RQ3, implies_true, forall_const, Nat.reduceMul, reduceIte, reduceCtorEq, Nat.reduceAdd, Nat.reduceEqDiff, Nat.reduceLT, Nat.reduceLeDiff]); all_goals simp
    · (simp -dsimp only [↓RP, RQ0, RQ1, RQ2, RQ3, implies_true, forall_const, Nat.reduceMul, reduceIte, reduceCtorEq, Nat.reduceAdd, Nat.reduceEqDiff, Nat.reduceLT, Nat.reduceLeDiff])
    · (simp -dsimp only [↓RP, RQ0, RQ1, RQ2, RQ3, implies_true, forall_const, Nat.reduceMul, reduceIte, reduceCtorEq, Nat.reduceAdd, Nat.reduceEqDiff, Nat.reduceLT, Nat.reduceLeDiff])
    subst hj
    (repeat' (first | with_reducible refine splitVC_d (fun _ => ?_) (fun _ => ?_) | ((with_reducible refine And.intro ?_ ?_); focus (first | exact True.intro | (simp only [InK]; omega) | omega | (simp only [InK, ne_eq, and_true, true_and]; omega) | trivial)) | (simp -dsimp only [↓RP, RQ0, RQ1, RQ2, RQ3, implies_true, forall_const, Nat.reduceMul, reduceIte, reduceCtorEq, Nat.reduceAdd, Nat.reduceEqDiff, Nat.reduceLT, Nat.reduceLeDiff, sc_m, sc_u, tup3, B, I, by2, ty5, ty51, decide_true, decide_false, Bool.not_true, Bool.not_false, eq_self, and_self, Nat.zero_add, Int.toNat_natCast, TY, Go.Proofs.Try.results15])))
    all_goals first | (exfalso; omega) | skip
    refine callVC hw (by (simp -dsimp only [↓RP, RQ0, RQ1, RQ2, RQ3, implies_true, forall_const, Nat.reduceMul, reduceIte, reduceCtorEq, Nat.reduceAdd, Nat.reduceEqDiff, Nat.reduceLT, Nat.reduceLeDiff])) (by (simp -dsimp only [↓RP, RQ0, RQ1, RQ2, RQ3, implies_true, forall_const, Nat.reduceMul, reduceIte, reduceCtorEq, Nat.reduceAdd, Nat.reduceEqDiff, Nat.reduceLT, Nat.reduceLeDiff, B])) ?_
    (repeat' (first | with_reducible refine splitVC_d (fun _ => ?_) (fun _ => ?_) | ((with_reducible refine And.intro ?_ ?_); focus (first | exact True.intro | (simp only [InK]; omega) | omega | (simp only [InK, ne_eq, and_true, true_and]; omega) | trivial)) | (simp -dsimp only [↓RP, RQ0, RQ1, RQ2, RQ3, implies_true, forall_const, Nat.reduceMul, reduceIte, reduceCtorEq, Nat.reduceAdd, Nat.reduceEqDiff, Nat.reduceLT, Nat.reduceLeDiff, sc_m, sc_u, tup3, B, I, by2, ty5, ty51, decide_true, decide_false, Bool.not_true, Bool.not_false, eq_self, and_self, Nat.zero_add, Int.toNat_natCast, TY, Go.Proofs.Try.results15])))
end Go.Lg
end
