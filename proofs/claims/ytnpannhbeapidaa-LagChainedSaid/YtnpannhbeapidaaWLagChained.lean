/- A part of the proof. -/
import Derived.Test.YtnpannhbeapidaaLJ
import Derived.Test.YtnpannhbeapidaaLD
import Derived.Test.YtnpannhbeapidaaLA
section
set_option linter.unusedSimpArgs false
set_option linter.unusedVariables false
set_option linter.defProp false
set_option maxRecDepth 100000
set_option maxHeartbeats 16000000
namespace Go.Lg
open Go.Sx
def rv (n : Nat) (C : Nat → Curve) (j : Nat) : Curve := C (n - 1 - j)
theorem Lc_rv (n : Nat) (C : Nat → Curve) (n1 : 1 ≤ n) (n3 : n ≤ 3) : Lc n (rv n C) = Lc n C := by
  funext k
  rcases n with _ | _ | _ | _ | n
  · omega
  · rfl
  · show conv (C 1).L1 (C 0).L1 k = conv (C 0).L1 (C 1).L1 k
    exact conv_comm _ _ k
  · show conv (conv (C 2).L1 (C 1).L1) (C 0).L1 k = conv (conv (C 0).L1 (C 1).L1) (C 2).L1 k
    rw [conv_comm, conv_assoc]
    exact conv_congr _ _ _ _ k (fun _ _ => rfl) (fun j _ => conv_comm _ _ j)
  · omega
theorem fstE_all (C : Nat → Curve) : ∀ k i, (∀ j, i ≤ j → j < i + k → (C j).err = 0) → fstE C i k = 0
  | 0, i, _ => rfl
  | k + 1, i, h => by
    simp only [fstE]
    rw [if_pos (h i (Nat.le_refl _) (by omega))]
    exact fstE_all C k (i + 1) (fun j h1 h2 => h j (by omega) (by omega))
theorem cErr_all (n : Nat) (C : Nat → Curve) (n1 : 1 ≤ n) (n3 : n ≤ 3) (h : ∀ i, i < n → (C i).Fine) : cErr n C = 0 := by
  unfold cErr
  rw [if_neg (by omega)]
  exact fstE_all C n 0 (fun j _ h2 => Curve.err_fine (h j (by omega)))
theorem ask_rv (c : Curve) (n : Nat) (C : Nat → Curve) (hc : c.err = 0) (h : cErr n C = 0) : askE c n (rv n C) = askE c n C := by
  have ⟨n1, n3, hC⟩ := cErr_fine h
  have h2 := cErr_all n (rv n C) n1 n3 (fun i hi => hC (n - 1 - i) (by omega))
  have hs : slowE c n (rv n C) ↔ slowE c n C := by
    unfold slowE
    constructor
    · rintro ⟨i, h3, h4⟩; exact ⟨n - 1 - i, by omega, h4⟩
    · rintro ⟨i, h3, h4⟩
      refine ⟨n - 1 - i, by omega, ?_⟩
      unfold rv
      rw [show n - 1 - (n - 1 - i) = i by omega]
      exact h4
  unfold askE
  rw [if_pos hc, if_pos hc, if_pos h2, if_pos h]
  by_cases hx : slowE c n C
  · rw [if_pos hx, if_pos (hs.2 hx)]
  · rw [if_neg hx, if_neg (fun x => hx (hs.1 x))]
theorem waitV_rv (c : Curve) (n : Nat) (C : Nat → Curve) (hc : c.err = 0) (h : cErr n C = 0) : waitV c n (rv n C) = waitV c n C := by
  have ⟨n1, n3, _⟩ := cErr_fine h
  unfold waitV waitB
  rw [ask_rv c n C hc h, Lc_rv n C n1 n3]
theorem lateV_rv (c : Curve) (n : Nat) (C : Nat → Curve) (hc : c.err = 0) (h : cErr n C = 0) : lateV c n (rv n C) = lateV c n C := by
  have ⟨n1, n3, _⟩ := cErr_fine h
  unfold lateV lateB
  rw [ask_rv c n C hc h, Lc_rv n C n1 n3]
def tl (C : Nat → Curve) (j : Nat) : Curve := C (1 + j)
theorem Lc_parts (n : Nat) (C : Nat → Curve) (n2 : 2 ≤ n) (n3 : n ≤ 3) (k : Nat) : Lc n C k = conv (C 0).L1 (Lc (n - 1) (tl C)) k := by
  rcases n with _ | _ | _ | _ | n
  · omega
  · omega
  · rfl
  · show conv (conv (C 0).L1 (C 1).L1) (C 2).L1 k = conv (C 0).L1 (conv (C 1).L1 (C 2).L1) k
    exact conv_assoc _ _ _ k
  · omega
def nextC (c : Curve) (C : Nat → Curve) : Curve := ⟨c.m, fun i => behB c 1 C (i + 1)⟩
theorem next_more (c : Curve) (hc : c.Fine) (C : Nat → Curve) (hn : (nextC c C).Fine) : ∀ k, c.M k ≤ (nextC c C).M k := by
  intro k
  induction k using Nat.strongRecOn with
  | _ k ih =>
    cases k with
    | zero => rw [M_zero, M_zero]; exact Int.le_refl _
    | succ k =>
      obtain ⟨p, h1, h2, e⟩ := M_at hn k
      have h3 := ih (k - p) (by omega)
      have h4 : c.M (p + 1) ≤ (nextC c C).u p := by
        have h : c.M (p + 1 + 0) - Lc 1 C 0 ≤ behB c 1 C (p + 1) := le_bestTo (fun u => c.M (p + 1 + u) - Lc 1 C u) 181 0 (by omega)
        rw [show Lc 1 C 0 = 0 from Ls_zero C 0] at h
        show c.M (p + 1) ≤ behB c 1 C (p + 1)
        rw [Nat.add_zero] at h
        omega
      have h5 := M_sub hc (k - p) (p + 1)
      rw [show k - p + (p + 1) = k + 1 by omega] at h5
      omega
theorem late_parts (c : Curve) (n : Nat) (C : Nat → Curve) (h : Ask c n C) (h1 : Ask c 1 C) (n2 : 2 ≤ n) (h2 : Ask (nextC c C) (n - 1) (tl C)) : lateB c n C ≤ lateB c 1 C + lateB (nextC c C) (n - 1) (tl C) := by
  have b1 := lateB_20 h1
  have b2 := lateB_20 h2
  have n3 := h.n3
  have s1 := lateB_says h1
  have s2 := lateB_says h2
  obtain ⟨x, hx⟩ : ∃ x : Nat, lateB c 1 C = x := ⟨(lateB c 1 C).toNat, by omega⟩
  obtain ⟨y, hy⟩ : ∃ y : Nat, lateB (nextC c C) (n - 1) (tl C) = y := ⟨(lateB (nextC c C) (n - 1) (tl C)).toNat, by omega⟩
  rw [hx] at s1 b1 ⊢
  rw [hy] at s2 b2 ⊢
  have hn := next_more c h.fine C h2.fine
  refine bestTo_le _ _ (by omega) 181 fun k hk => ?_
  have key : c.M k ≤ Lc n C (k + x + y) := by
    rw [Lc_parts n C n2 n3]
    refine le_conv _ _ _ _ fun p q e => ?_
    have z1 : 0 ≤ (C 0).L1 p := L1_nonneg _ (h1.fines 0 (by omega)) p
    have z2 : 0 ≤ Lc (n - 1) (tl C) q := Ls_nonneg (tl C) (n - 1 - 1) (fun j hj => h2.fines j (by omega)) q
    by_cases c1 : k + x ≤ p
    · have : c.M k ≤ (C 0).L1 p := s1 k p (by omega) (by omega)
      omega
    · by_cases c2 : k + y ≤ q
      · have t1 := s2 k q (by omega) (by omega)
        have t2 := hn k
        omega
      · have t1 : c.M (p - x) ≤ (C 0).L1 p := s1 (p - x) p (by omega) (by omega)
        have t2 := s2 (q - y) q (by omega) (by omega)
        have t3 := hn (q - y)
        have t4 := M_sub h.fine (p - x) (q - y)
        rw [show p - x + (q - y) = k by omega] at t4
        omega
  by_cases hl : k + x + y < lateF c.M (Lc n C) k
  · have := lateF_false c.M (Lc n C) k (k + x + y) (by omega) hl
    omega
  · omega
theorem ask_one (c : Curve) (n : Nat) (C : Nat → Curve) (h : Ask c n C) : askE c 1 C = 0 := by
  have n1 := h.n1
  unfold askE
  rw [if_pos (Curve.err_fine h.fine), if_pos (cErr_all 1 C (by omega) (by omega) (fun i hi => h.fines i (by omega))), if_neg]
  rintro ⟨i, h1, h2⟩
  exact h.fast ⟨i, by omega, h2⟩
end Go.Lg
end
section
set_option linter.unusedSimpArgs false
set_option linter.unusedVariables false
set_option linter.defProp false
set_option maxRecDepth 100000
set_option maxHeartbeats 16000000
namespace Go.Lg
open Go.Sx
theorem tm201' (a : Nat) : (a : Int).tmod 201 = ((a % 201 : Nat) : Int) := rfl
theorem by22 : bytesOf Go.Proofs.Try.prog 22 = 24 := by kernel_rfl
theorem c33s' (m : Nat) (u v : Nat → Int) (hm : m ≤ 1000000) (h : ∀ i, i < m → u i = v i) : Contract Go.Proofs.Try.prog 33 [ints m u, ints m v] (B true) := by
  have := c33 m u m v hm
  rwa [decide_eq_true (show sameL m u m v from ⟨rfl, h⟩)] at this
theorem m22' (n : Nat) (C : Nat → Curve) (h : cErr n C = 0) (k : Nat) (hk : k ≤ 200) : Contract Go.Proofs.Try.prog 22 [chn n C, I k] (.tup [I (Lc n C k), I 0]) := by
  have h2 := c22 n C (fun i hi => by have := ((cErr_fine h).2.2 i hi).m6; omega) k
  have e : leastV n C k = (Lc n C k, 0) := by
    unfold leastV; rw [if_pos h, if_pos (by omega), Int.toNat_natCast]; rfl
  rwa [e] at h2
theorem c12 (hw : Wk19) (c : Curve) (n : Nat) (C : Nat → Curve) (m : Nat) (b : Nat → Int) (hb : ∀ i, i < m → 0 ≤ b i ∧ b i ≤ 255) (z : Nat) (hz : z ≤ 255) : Contract Go.Proofs.Try.prog 12 [c.sv, chn n C, u8s m b, .val (.int .u8 z)] (B true) := by
  refine contract_of Go.Proofs.Try.func12 rfl (by kernel_rfl) follows (by kernel_rfl) _ _ (by rw [Go.Proofs.Try.ntmps12]; simp) (by simp only [OldL, c.old, u8s_old, chn_old, and_self, and_true, true_and]; simp [Old]) ?_
  unfold B
  conv => arg 4; unfold chn Curve.sv ints u8s
  (repeat' (first | with_reducible refine splitVC_d (fun _ => ?_) (fun _ => ?_) | ((with_reducible refine And.intro ?_ ?_); focus (first | exact True.intro | (simp only [InK]; omega) | omega | (simp only [InK, ne_eq, and_true, true_and]; omega) | trivial)) | (simp -dsimp only [↓RP, RQ0, RQ1, RQ2, RQ3, implies_true, forall_const, Nat.reduceMul, reduceIte, reduceCtorEq, Nat.reduceAdd, Nat.reduceEqDiff, Nat.reduceLT, Nat.reduceLeDiff, by22, tup3, B, I, by2, ty5, ty51, decide_true, decide_false, Bool.not_true, Bool.not_false, eq_self, and_self, Nat.zero_add, Int.toNat_natCast, TY, Go.Proofs.Try.results12])))
  refine callVC (c51 c) (by (simp -dsimp only [↓RP, RQ0, RQ1, RQ2, RQ3, implies_true, forall_const, Nat.reduceMul, reduceIte, reduceCtorEq, Nat.reduceAdd, Nat.reduceEqDiff, Nat.reduceLT, Nat.reduceLeDiff, Curve.sv, ints, I, B]); all_goals (try simp)) (by (simp -dsimp only [↓RP, RQ0, RQ1, RQ2, RQ3, implies_true, forall_const, Nat.reduceMul, reduceIte, reduceCtorEq, Nat.reduceAdd, Nat.reduceEqDiff, Nat.reduceLT, Nat.reduceLeDiff, B])) ?_
  (repeat' (first | with_reducible refine splitVC_d (fun _ => ?_) (fun _ => ?_) | ((with_reducible refine And.intro ?_ ?_); focus (first | exact True.intro | (simp only [InK]; omega) | omega | (simp only [InK, ne_eq, and_true, true_and]; omega) | trivial)) | (simp -dsimp only [↓RP, RQ0, RQ1, RQ2, RQ3, implies_true, forall_const, Nat.reduceMul, reduceIte, reduceCtorEq, Nat.reduceAdd, Nat.reduceEqDiff, Nat.reduceLT, Nat.reduceLeDiff, by22, tup3, B, I, by2, ty5, ty51, decide_true, decide_false, Bool.not_true, Bool.not_false, eq_self, and_self, Nat.zero_add, Int.toNat_natCast, TY, Go.Proofs.Try.results12])))
  all_goals first | (refine callVC hw (by (simp -dsimp only [↓RP, RQ0, RQ1, RQ2, RQ3, implies_true, forall_const, Nat.reduceMul, reduceIte, reduceCtorEq, Nat.reduceAdd, Nat.reduceEqDiff, Nat.reduceLT, Nat.reduceLeDiff])) (by (simp -dsimp only [↓RP, RQ0, RQ1, RQ2, RQ3, implies_true, forall_const, Nat.reduceMul, reduceIte, reduceCtorEq, Nat.reduceAdd, Nat.reduceEqDiff, Nat.reduceLT, Nat.reduceLeDiff, B])) ?_; (repeat' (first | with_reducible refine splitVC_d (fun _ => ?_) (fun _ => ?_) | ((with_reducible refine And.intro ?_ ?_); focus (first | exact True.intro | (simp only [InK]; omega) | omega | (simp only [InK, ne_eq, and_true, true_and]; omega) | trivial)) | (simp -dsimp only [↓RP, RQ0, RQ1, RQ2, RQ3, implies_true, forall_const, Nat.reduceMul, reduceIte, reduceCtorEq, Nat.reduceAdd, Nat.reduceEqDiff, Nat.reduceLT, Nat.reduceLeDiff, by22, tup3, B, I, by2, ty5, ty51, decide_true, decide_false, Bool.not_true, Bool.not_false, eq_self, and_self, Nat.zero_add, Int.toNat_natCast, TY, Go.Proofs.Try.results12]))); done) | skip
  rename_i h1
  refine callVC (c18 n C) (by (simp -dsimp only [↓RP, RQ0, RQ1, RQ2, RQ3, implies_true, forall_const, Nat.reduceMul, reduceIte, reduceCtorEq, Nat.reduceAdd, Nat.reduceEqDiff, Nat.reduceLT, Nat.reduceLeDiff, chn, Curve.sv, ints, I, B]); all_goals (try simp); all_goals exact fun _ _ => rfl) (by (simp -dsimp only [↓RP, RQ0, RQ1, RQ2, RQ3, implies_true, forall_const, Nat.reduceMul, reduceIte, reduceCtorEq, Nat.reduceAdd, Nat.reduceEqDiff, Nat.reduceLT, Nat.reduceLeDiff, B])) ?_
  (repeat' (first | with_reducible refine splitVC_d (fun _ => ?_) (fun _ => ?_) | ((with_reducible refine And.intro ?_ ?_); focus (first | exact True.intro | (simp only [InK]; omega) | omega | (simp only [InK, ne_eq, and_true, true_and]; omega) | trivial)) | (simp -dsimp only [↓RP, RQ0, RQ1, RQ2, RQ3, implies_true, forall_const, Nat.reduceMul, reduceIte, reduceCtorEq, Nat.reduceAdd, Nat.reduceEqDiff, Nat.reduceLT, Nat.reduceLeDiff, by22, tup3, B, I, by2, ty5, ty51, decide_true, decide_false, Bool.not_true, Bool.not_false, eq_self, and_self, Nat.zero_add, Int.toNat_natCast, TY, Go.Proofs.Try.results12])))
  all_goals first | (refine callVC hw (by (simp -dsimp only [↓RP, RQ0, RQ1, RQ2, RQ3, implies_true, forall_const, Nat.reduceMul, reduceIte, reduceCtorEq, Nat.reduceAdd, Nat.reduceEqDiff, Nat.reduceLT, Nat.reduceLeDiff])) (by (simp -dsimp only [↓RP, RQ0, RQ1, RQ2, RQ3, implies_true, forall_const, Nat.reduceMul, reduceIte, reduceCtorEq, Nat.reduceAdd, Nat.reduceEqDiff, Nat.reduceLT, Nat.reduceLeDiff, B])) ?_; (repeat' (first | with_reducible refine splitVC_d (fun _ => ?_) (fun _ => ?_) | ((with_reducible refine And.intro ?_ ?_); focus (first | exact True.intro | (simp only [InK]; omega) | omega | (simp only [InK, ne_eq, and_true, true_and]; omega) | trivial)) | (simp -dsimp only [↓RP, RQ0, RQ1, RQ2, RQ3, implies_true, forall_const, Nat.reduceMul, reduceIte, reduceCtorEq, Nat.reduceAdd, Nat.reduceEqDiff, Nat.reduceLT, Nat.reduceLeDiff, by22, tup3, B, I, by2, ty5, ty51, decide_true, decide_false, Bool.not_true, Bool.not_false, eq_self, and_self, Nat.zero_add, Int.toNat_natCast, TY, Go.Proofs.Try.results12]))); done) | skip
  rename_i h2
  refine callVC (c55 n C) (by (simp -dsimp only [↓RP, RQ0, RQ1, RQ2, RQ3, implies_true, forall_const, Nat.reduceMul, reduceIte, reduceCtorEq, Nat.reduceAdd, Nat.reduceEqDiff, Nat.reduceLT, Nat.reduceLeDiff, chn, Curve.sv, ints, I, B]); all_goals (try simp); all_goals exact fun _ _ => rfl) (by (simp -dsimp only [↓RP, RQ0, RQ1, RQ2, RQ3, implies_true, forall_const, Nat.reduceMul, reduceIte, reduceCtorEq, Nat.reduceAdd, Nat.reduceEqDiff, Nat.reduceLT, Nat.reduceLeDiff, I])) ?_
  (repeat' (first | with_reducible refine splitVC_d (fun _ => ?_) (fun _ => ?_) | ((with_reducible refine And.intro ?_ ?_); focus (first | exact True.intro | (simp only [InK]; omega) | omega | (simp only [InK, ne_eq, and_true, true_and]; omega) | trivial)) | (simp -dsimp only [↓RP, RQ0, RQ1, RQ2, RQ3, implies_true, forall_const, Nat.reduceMul, reduceIte, reduceCtorEq, Nat.reduceAdd, Nat.reduceEqDiff, Nat.reduceLT, Nat.reduceLeDiff, by22, tup3, B, I, by2, ty5, ty51, decide_true, decide_false, Bool.not_true, Bool.not_false, eq_self, and_self, Nat.zero_add, Int.toNat_natCast, TY, Go.Proofs.Try.results12])))
  all_goals first | (refine callVC hw (by (simp -dsimp only [↓RP, RQ0, RQ1, RQ2, RQ3, implies_true, forall_const, Nat.reduceMul, reduceIte, reduceCtorEq, Nat.reduceAdd, Nat.reduceEqDiff, Nat.reduceLT, Nat.reduceLeDiff])) (by (simp -dsimp only [↓RP, RQ0, RQ1, RQ2, RQ3, implies_true, forall_const, Nat.reduceMul, reduceIte, reduceCtorEq, Nat.reduceAdd, Nat.reduceEqDiff, Nat.reduceLT, Nat.reduceLeDiff, B])) ?_; (repeat' (first | with_reducible refine splitVC_d (fun _ => ?_) (fun _ => ?_) | ((with_reducible refine And.intro ?_ ?_); focus (first | exact True.intro | (simp only [InK]; omega) | omega | (simp only [InK, ne_eq, and_true, true_and]; omega) | trivial)) | (simp -dsimp only [↓RP, RQ0, RQ1, RQ2, RQ3, implies_true, forall_const, Nat.reduceMul, reduceIte, reduceCtorEq, Nat.reduceAdd, Nat.reduceEqDiff, Nat.reduceLT, Nat.reduceLeDiff, by22, tup3, B, I, by2, ty5, ty51, decide_true, decide_false, Bool.not_true, Bool.not_false, eq_self, and_self, Nat.zero_add, Int.toNat_natCast, TY, Go.Proofs.Try.results12]))); done) | skip
  rename_i h3 h4
  have hc := Curve.fine h1
  have ⟨n1, n3, hC⟩ := cErr_fine h3
  have hm6 := hc.m6
  have m20 : m ≤ 20 := by omega
  refine loop_vc (fun (i : Nat) => i ≤ m) (fun i => ⟨[(0, .arr false false c.m 1 (fun i _ => .val (.int .i64 (c.u i)))), (1, .arr false false n 1 (fun i _ => .arr false false (C i).m 1 (fun j _ => .val (.int .i64 ((C i).u j))))), (2, .arr false false m 1 (fun i _ => .val (.int .u8 (b i)))), (3, .val (.int .u8 z)), (9, .vec 60 i 1), (10, .val (.int .i64 i))], [(60, .rows 2 1 i (fun j _ => .val (.int .i64 (b j))))], 61⟩) (fun i => m - i) 0 (Nat.zero_le _) (weak [(60, none)] [] ?_ ?_ ?_) fun i hi => ?_
  · (simp -dsimp only [↓RP, RQ0, RQ1, RQ2, RQ3, implies_true, forall_const, Nat.reduceMul, reduceIte, reduceCtorEq, Nat.reduceAdd, Nat.reduceEqDiff, Nat.reduceLT, Nat.reduceLeDiff]); all_goals simp
  · (simp -dsimp only [↓RP, RQ0, RQ1, RQ2, RQ3, implies_true, forall_const, Nat.reduceMul, reduceIte, reduceCtorEq, Nat.reduceAdd, Nat.reduceEqDiff, Nat.reduceLT, Nat.reduceLeDiff]); all_goals (try simp)
  · (simp -dsimp only [↓RP, RQ0, RQ1, RQ2, RQ3, implies_true, forall_const, Nat.reduceMul, reduceIte, reduceCtorEq, Nat.reduceAdd, Nat.reduceEqDiff, Nat.reduceLT, Nat.reduceLeDiff]); all_goals simp
  by_cases hlt : i < m
  · have b0 := hb i hlt
    (repeat' (first | with_reducible refine splitVC_d (fun _ => ?_) (fun _ => ?_) | ((with_reducible refine And.intro ?_ ?_); focus (first | exact True.intro | (simp only [InK]; omega) | omega | (simp only [InK, ne_eq, and_true, true_and]; omega) | trivial)) | (simp -dsimp only [↓RP, RQ0, RQ1, RQ2, RQ3, implies_true, forall_const, Nat.reduceMul, reduceIte, reduceCtorEq, Nat.reduceAdd, Nat.reduceEqDiff, Nat.reduceLT, Nat.reduceLeDiff, by22, tup3, B, I, by2, ty5, ty51, decide_true, decide_false, Bool.not_true, Bool.not_false, eq_self, and_self, Nat.zero_add, Int.toNat_natCast, TY, Go.Proofs.Try.results12])))
    all_goals first | (exfalso; omega) | skip
    refine ⟨⟨by simp, Nat.le_refl _, fun a b ha hb => by rw [lit1 _ a b ha hb]; rfl, by omega⟩, by (first | trivial | (simp only [InK]; omega) | omega | (simp only [InK, ne_eq, and_true, true_and]; omega)), i + 1, by omega, by omega, weak [(60, some 72)] [] ?_ ?_ ?_⟩
    · (simp -dsimp only [↓RP, RQ0, RQ1, RQ2, RQ3, implies_true, forall_const, Nat.reduceMul, reduceIte, reduceCtorEq, Nat.reduceAdd, Nat.reduceEqDiff, Nat.reduceLT, Nat.reduceLeDiff]); all_goals simp
    · (simp -dsimp only [↓RP, RQ0, RQ1, RQ2, RQ3, implies_true, forall_const, Nat.reduceMul, reduceIte, reduceCtorEq, Nat.reduceAdd, Nat.reduceEqDiff, Nat.reduceLT, Nat.reduceLeDiff]); all_goals (try simp)
      exact fun a h1 h2 => app2 (fun j => .val (.int .i64 (b j))) i a h1 h2
    · (simp -dsimp only [↓RP, RQ0, RQ1, RQ2, RQ3, implies_true, forall_const, Nat.reduceMul, reduceIte, reduceCtorEq, Nat.reduceAdd, Nat.reduceEqDiff, Nat.reduceLT, Nat.reduceLeDiff]); all_goals simp
  have hin : i = m := by omega
  clear hlt hi
  subst hin
  have ra : Row ⟨i, b⟩ := ⟨by show i ≤ 60; omega, fun j hj => by have := hb j hj; show 0 ≤ b j ∧ b j ≤ 10000; omega⟩
  have sb : (Curve.mk i b).S i ≤ 10000 := by
    have := sumTo_bound b 255 i hb i (Nat.le_refl _)
    show sumTo b i ≤ 10000; omega
  have k56 := c56 n C ⟨i, b⟩ n1 (by omega) hC ra sb
  have rT := thrR_row ⟨i, b⟩ C ra sb n (fun j hj => hC j hj)
  have sT := thrR_S ⟨i, b⟩ C n
  have k52 := m52 _ rT
  rw [sT] at k52
  have k52a := m52 _ ra
  have hS := fun t ht => S_bound ra t ht
  have hL := fun k (hk : k ≤ 400) => Ls_bound C (n - 1) (fun j hj => hC j (by omega)) k hk
  have k57 := c57 (i + 1) (sumTo b) (Lc n C) (by omega) (by omega) (fun t ht => by have h5 : 0 ≤ sumTo b t ∧ sumTo b t ≤ 600000 := hS t (by show t ≤ i; omega); omega) (fun t ht => by have h5 : 0 ≤ Lc n C t ∧ Lc n C t ≤ 50000 := hL t (by omega); omega)
  have heq : ∀ t, lz (sumTo b) (Lc n C) t = thr (sumTo b) C n t := fun t => by
    rw [lz_conv _ (Lc n C) (Ls_zero C (n - 1)), thr_Lc _ _ _ _ n1]
  have k33 := c33s' (i + 1) (lz (sumTo b) (Lc n C)) (thr (sumTo b) C n) (by omega) (fun t _ => heq t)
  (repeat' (first | with_reducible refine splitVC_d (fun _ => ?_) (fun _ => ?_) | ((with_reducible refine And.intro ?_ ?_); focus (first | exact True.intro | (simp only [InK]; omega) | omega | (simp only [InK, ne_eq, and_true, true_and]; omega) | trivial)) | (simp -dsimp only [↓RP, RQ0, RQ1, RQ2, RQ3, implies_true, forall_const, Nat.reduceMul, reduceIte, reduceCtorEq, Nat.reduceAdd, Nat.reduceEqDiff, Nat.reduceLT, Nat.reduceLeDiff, by22, tup3, B, I, by2, ty5, ty51, decide_true, decide_false, Bool.not_true, Bool.not_false, eq_self, and_self, Nat.zero_add, Int.toNat_natCast, TY, Go.Proofs.Try.results12])))
  all_goals first | (exfalso; omega) | skip
  refine callVC k56 (by (simp -dsimp only [↓RP, RQ0, RQ1, RQ2, RQ3, implies_true, forall_const, Nat.reduceMul, reduceIte, reduceCtorEq, Nat.reduceAdd, Nat.reduceEqDiff, Nat.reduceLT, Nat.reduceLeDiff, chn, Curve.sv, ints, I, B]); all_goals (try simp); all_goals (try exact fun _ _ => rfl)) (by (simp -dsimp only [↓RP, RQ0, RQ1, RQ2, RQ3, implies_true, forall_const, Nat.reduceMul, reduceIte, reduceCtorEq, Nat.reduceAdd, Nat.reduceEqDiff, Nat.reduceLT, Nat.reduceLeDiff, I, B])) ?_
  (repeat' (first | with_reducible refine splitVC_d (fun _ => ?_) (fun _ => ?_) | ((with_reducible refine And.intro ?_ ?_); focus (first | exact True.intro | (simp only [InK]; omega) | omega | (simp only [InK, ne_eq, and_true, true_and]; omega) | trivial)) | (simp -dsimp only [↓RP, RQ0, RQ1, RQ2, RQ3, implies_true, forall_const, Nat.reduceMul, reduceIte, reduceCtorEq, Nat.reduceAdd, Nat.reduceEqDiff, Nat.reduceLT, Nat.reduceLeDiff, by22, tup3, B, I, by2, ty5, ty51, decide_true, decide_false, Bool.not_true, Bool.not_false, eq_self, and_self, Nat.zero_add, Int.toNat_natCast, TY, Go.Proofs.Try.results12])))
  refine callN k52a (by (simp -dsimp only [↓RP, RQ0, RQ1, RQ2, RQ3, implies_true, forall_const, Nat.reduceMul, reduceIte, reduceCtorEq, Nat.reduceAdd, Nat.reduceEqDiff, Nat.reduceLT, Nat.reduceLeDiff, Curve.sv, ints, I, B]); all_goals (try simp)) (by (simp -dsimp only [↓RP, RQ0, RQ1, RQ2, RQ3, implies_true, forall_const, Nat.reduceMul, reduceIte, reduceCtorEq, Nat.reduceAdd, Nat.reduceEqDiff, Nat.reduceLT, Nat.reduceLeDiff, I]); all_goals simp) (by (simp -dsimp only [↓RP, RQ0, RQ1, RQ2, RQ3, implies_true, forall_const, Nat.reduceMul, reduceIte, reduceCtorEq, Nat.reduceAdd, Nat.reduceEqDiff, Nat.reduceLT, Nat.reduceLeDiff, I]); all_goals simp) ?_
  (repeat' (first | with_reducible refine splitVC_d (fun _ => ?_) (fun _ => ?_) | ((with_reducible refine And.intro ?_ ?_); focus (first | exact True.intro | (simp only [InK]; omega) | omega | (simp only [InK, ne_eq, and_true, true_and]; omega) | trivial)) | (simp -dsimp only [↓RP, RQ0, RQ1, RQ2, RQ3, implies_true, forall_const, Nat.reduceMul, reduceIte, reduceCtorEq, Nat.reduceAdd, Nat.reduceEqDiff, Nat.reduceLT, Nat.reduceLeDiff, by22, tup3, B, I, by2, ty5, ty51, decide_true, decide_false, Bool.not_true, Bool.not_false, eq_self, and_self, Nat.zero_add, Int.toNat_natCast, TY, Go.Proofs.Try.results12])))
  refine callN (c58 n C n1 n3 hC i (by omega)) (by (simp -dsimp only [↓RP, RQ0, RQ1, RQ2, RQ3, implies_true, forall_const, Nat.reduceMul, reduceIte, reduceCtorEq, Nat.reduceAdd, Nat.reduceEqDiff, Nat.reduceLT, Nat.reduceLeDiff, chn, Curve.sv, ints, I, B]); all_goals (try simp); all_goals exact fun _ _ => rfl) (by (simp -dsimp only [↓RP, RQ0, RQ1, RQ2, RQ3, implies_true, forall_const, Nat.reduceMul, reduceIte, reduceCtorEq, Nat.reduceAdd, Nat.reduceEqDiff, Nat.reduceLT, Nat.reduceLeDiff, I]); all_goals simp) (by (simp -dsimp only [↓RP, RQ0, RQ1, RQ2, RQ3, implies_true, forall_const, Nat.reduceMul, reduceIte, reduceCtorEq, Nat.reduceAdd, Nat.reduceEqDiff, Nat.reduceLT, Nat.reduceLeDiff, I]); all_goals simp) ?_
  (repeat' (first | with_reducible refine splitVC_d (fun _ => ?_) (fun _ => ?_) | ((with_reducible refine And.intro ?_ ?_); focus (first | exact True.intro | (simp only [InK]; omega) | omega | (simp only [InK, ne_eq, and_true, true_and]; omega) | trivial)) | (simp -dsimp only [↓RP, RQ0, RQ1, RQ2, RQ3, implies_true, forall_const, Nat.reduceMul, reduceIte, reduceCtorEq, Nat.reduceAdd, Nat.reduceEqDiff, Nat.reduceLT, Nat.reduceLeDiff, by22, tup3, B, I, by2, ty5, ty51, decide_true, decide_false, Bool.not_true, Bool.not_false, eq_self, and_self, Nat.zero_add, Int.toNat_natCast, TY, Go.Proofs.Try.results12])))
  refine callN k57 (by (simp -dsimp only [↓RP, RQ0, RQ1, RQ2, RQ3, implies_true, forall_const, Nat.reduceMul, reduceIte, reduceCtorEq, Nat.reduceAdd, Nat.reduceEqDiff, Nat.reduceLT, Nat.reduceLeDiff, ints, I, B]); all_goals (try simp); all_goals (try exact fun _ _ => rfl)) (by (simp -dsimp only [↓RP, RQ0, RQ1, RQ2, RQ3, implies_true, forall_const, Nat.reduceMul, reduceIte, reduceCtorEq, Nat.reduceAdd, Nat.reduceEqDiff, Nat.reduceLT, Nat.reduceLeDiff, I]); all_goals simp) (by (simp -dsimp only [↓RP, RQ0, RQ1, RQ2, RQ3, implies_true, forall_const, Nat.reduceMul, reduceIte, reduceCtorEq, Nat.reduceAdd, Nat.reduceEqDiff, Nat.reduceLT, Nat.reduceLeDiff, I]); all_goals simp) ?_
  (repeat' (first | with_reducible refine splitVC_d (fun _ => ?_) (fun _ => ?_) | ((with_reducible refine And.intro ?_ ?_); focus (first | exact True.intro | (simp only [InK]; omega) | omega | (simp only [InK, ne_eq, and_true, true_and]; omega) | trivial)) | (simp -dsimp only [↓RP, RQ0, RQ1, RQ2, RQ3, implies_true, forall_const, Nat.reduceMul, reduceIte, reduceCtorEq, Nat.reduceAdd, Nat.reduceEqDiff, Nat.reduceLT, Nat.reduceLeDiff, by22, tup3, B, I, by2, ty5, ty51, decide_true, decide_false, Bool.not_true, Bool.not_false, eq_self, and_self, Nat.zero_add, Int.toNat_natCast, TY, Go.Proofs.Try.results12])))
  refine callN k52 (by (simp -dsimp only [↓RP, RQ0, RQ1, RQ2, RQ3, implies_true, forall_const, Nat.reduceMul, reduceIte, reduceCtorEq, Nat.reduceAdd, Nat.reduceEqDiff, Nat.reduceLT, Nat.reduceLeDiff, thrR, Curve.sv, ints, I, B]); all_goals (try simp)) (by (simp -dsimp only [↓RP, RQ0, RQ1, RQ2, RQ3, implies_true, forall_const, Nat.reduceMul, reduceIte, reduceCtorEq, Nat.reduceAdd, Nat.reduceEqDiff, Nat.reduceLT, Nat.reduceLeDiff, I]); all_goals simp) (by (simp -dsimp only [↓RP, RQ0, RQ1, RQ2, RQ3, implies_true, forall_const, Nat.reduceMul, reduceIte, reduceCtorEq, Nat.reduceAdd, Nat.reduceEqDiff, Nat.reduceLT, Nat.reduceLeDiff, I]); all_goals simp) ?_
  (repeat' (first | with_reducible refine splitVC_d (fun _ => ?_) (fun _ => ?_) | ((with_reducible refine And.intro ?_ ?_); focus (first | exact True.intro | (simp only [InK]; omega) | omega | (simp only [InK, ne_eq, and_true, true_and]; omega) | trivial)) | (simp -dsimp only [↓RP, RQ0, RQ1, RQ2, RQ3, implies_true, forall_const, Nat.reduceMul, reduceIte, reduceCtorEq, Nat.reduceAdd, Nat.reduceEqDiff, Nat.reduceLT, Nat.reduceLeDiff, thrR, by22, tup3, B, I, by2, ty5, ty51, decide_true, decide_false, Bool.not_true, Bool.not_false, eq_self, and_self, Nat.zero_add, Int.toNat_natCast, TY, Go.Proofs.Try.results12])))
  refine callVC k33 (by (simp -dsimp only [↓RP, RQ0, RQ1, RQ2, RQ3, implies_true, forall_const, Nat.reduceMul, reduceIte, reduceCtorEq, Nat.reduceAdd, Nat.reduceEqDiff, Nat.reduceLT, Nat.reduceLeDiff, ints, I, B]); all_goals (try simp)) (by (simp -dsimp only [↓RP, RQ0, RQ1, RQ2, RQ3, implies_true, forall_const, Nat.reduceMul, reduceIte, reduceCtorEq, Nat.reduceAdd, Nat.reduceEqDiff, Nat.reduceLT, Nat.reduceLeDiff, B])) ?_
  (repeat' (first | with_reducible refine splitVC_d (fun _ => ?_) (fun _ => ?_) | ((with_reducible refine And.intro ?_ ?_); focus (first | exact True.intro | (simp only [InK]; omega) | omega | (simp only [InK, ne_eq, and_true, true_and]; omega) | trivial)) | (simp -dsimp only [↓RP, RQ0, RQ1, RQ2, RQ3, implies_true, forall_const, Nat.reduceMul, reduceIte, reduceCtorEq, Nat.reduceAdd, Nat.reduceEqDiff, Nat.reduceLT, Nat.reduceLeDiff, by22, tup3, B, I, by2, ty5, ty51, decide_true, decide_false, Bool.not_true, Bool.not_false, eq_self, and_self, Nat.zero_add, Int.toNat_natCast, TY, Go.Proofs.Try.results12])))
  all_goals first | (exfalso; omega) | skip
  refine loop_vc (fun (j : Nat) => j ≤ n) (fun j => ⟨[(0, .arr false false c.m 1 (fun i _ => .val (.int .i64 (c.u i)))), (1, .arr false false n 1 (fun i _ => .arr false false (C i).m 1 (fun j _ => .val (.int .i64 ((C i).u j))))), (3, .val (.int .u8 z)), (15, .vec 60 j 1), (16, .val (.int .i64 ((n : Int) - 1 - j)))], [(60, .rows 22 1 j (fun a _ => .arr false false (rv n C a).m 1 (fun q _ => .val (.int .i64 ((rv n C a).u q)))))], 61⟩) (fun j => n - j) 0 (Nat.zero_le _) (weak [(60, none)] [] ?_ ?_ ?_) fun j hj => ?_
  · (simp -dsimp only [↓RP, RQ0, RQ1, RQ2, RQ3, implies_true, forall_const, Nat.reduceMul, reduceIte, reduceCtorEq, Nat.reduceAdd, Nat.reduceEqDiff, Nat.reduceLT, Nat.reduceLeDiff]); all_goals (try simp)
  · (simp -dsimp only [↓RP, RQ0, RQ1, RQ2, RQ3, implies_true, forall_const, Nat.reduceMul, reduceIte, reduceCtorEq, Nat.reduceAdd, Nat.reduceEqDiff, Nat.reduceLT, Nat.reduceLeDiff]); all_goals (try simp)
  · (simp -dsimp only [↓RP, RQ0, RQ1, RQ2, RQ3, implies_true, forall_const, Nat.reduceMul, reduceIte, reduceCtorEq, Nat.reduceAdd, Nat.reduceEqDiff, Nat.reduceLT, Nat.reduceLeDiff]); all_goals simp
  by_cases hlj : j < n
  · have e1 : (n : Int) - 1 - (j : Int) = ((n - 1 - j : Nat) : Int) := by omega
    have e2 : ((n - 1 - j : Nat) : Int) - 1 = (n : Int) - 1 - ((j : Int) + 1) := by omega
    (repeat' (first | with_reducible refine splitVC_d (fun _ => ?_) (fun _ => ?_) | ((with_reducible refine And.intro ?_ ?_); focus (first | exact True.intro | (simp only [InK]; omega) | omega | (simp only [InK, ne_eq, and_true, true_and]; omega) | trivial)) | (simp -dsimp only [↓RP, RQ0, RQ1, RQ2, RQ3, implies_true, forall_const, Nat.reduceMul, reduceIte, reduceCtorEq, Nat.reduceAdd, Nat.reduceEqDiff, Nat.reduceLT, Nat.reduceLeDiff, e1, by22, tup3, B, I, by2, ty5, ty51, decide_true, decide_false, Bool.not_true, Bool.not_false, eq_self, and_self, Nat.zero_add, Int.toNat_natCast, TY, Go.Proofs.Try.results12])))
    all_goals first | (exfalso; omega) | skip
    refine ⟨⟨by simp, Nat.le_refl _, fun a b ha hb => by rw [lit1 _ a b ha hb]; rfl, by omega⟩, by (first | trivial | (simp only [InK]; omega) | omega | (simp only [InK, ne_eq, and_true, true_and]; omega)), j + 1, by omega, by omega, weak [(60, some 69)] [] ?_ ?_ ?_⟩
    · (simp -dsimp only [↓RP, RQ0, RQ1, RQ2, RQ3, implies_true, forall_const, Nat.reduceMul, reduceIte, reduceCtorEq, Nat.reduceAdd, Nat.reduceEqDiff, Nat.reduceLT, Nat.reduceLeDiff])
      all_goals (try simp)
      all_goals (try omega)
    · (simp -dsimp only [↓RP, RQ0, RQ1, RQ2, RQ3, implies_true, forall_const, Nat.reduceMul, reduceIte, reduceCtorEq, Nat.reduceAdd, Nat.reduceEqDiff, Nat.reduceLT, Nat.reduceLeDiff]); all_goals (try simp)
      intro a h1
      by_cases e0 : a < j
      · simp [e0, rv, Wk]
      · have e3 : a = j := by omega
        subst e3; simp [rv, Wk]
    · (simp -dsimp only [↓RP, RQ0, RQ1, RQ2, RQ3, implies_true, forall_const, Nat.reduceMul, reduceIte, reduceCtorEq, Nat.reduceAdd, Nat.reduceEqDiff, Nat.reduceLT, Nat.reduceLeDiff]); all_goals simp
  have hin2 : n = j := by omega
  clear hlj hj
  subst hin2
  clear heq k33 k52 k52a k56 k57 sT rT hL hS
  have ek := tm201' z
  have hk : z % 201 ≤ 200 := by omega
  generalize z % 201 = k at *
  have h3r := cErr_all n (rv n C) n1 n3 (fun i hi => hC (n - 1 - i) (by omega))
  have k22r := m22' n (rv n C) h3r k hk
  rw [Lc_rv n C n1 n3] at k22r
  have k40 := c40 c n C (by omega) (fun j hj => by have := (hC j hj).m6; omega)
  have k42 := c42 c n C (by omega) (fun j hj => by have := (hC j hj).m6; omega)
  have k40r := c40 c n (rv n C) (by omega) (fun j hj => by have := (hC (n - 1 - j) (by omega)).m6; show (C (n - 1 - j)).m ≤ _; omega)
  have k42r := c42 c n (rv n C) (by omega) (fun j hj => by have := (hC (n - 1 - j) (by omega)).m6; show (C (n - 1 - j)).m ≤ _; omega)
  rw [waitV_rv c n C h1 h3] at k40r
  rw [lateV_rv c n C h1 h3] at k42r
  (repeat' (first | with_reducible refine splitVC_d (fun _ => ?_) (fun _ => ?_) | ((with_reducible refine And.intro ?_ ?_); focus (first | exact True.intro | (simp only [InK]; omega) | omega | (simp only [InK, ne_eq, and_true, true_and]; omega) | trivial)) | (simp -dsimp only [↓RP, RQ0, RQ1, RQ2, RQ3, implies_true, forall_const, Nat.reduceMul, reduceIte, reduceCtorEq, Nat.reduceAdd, Nat.reduceEqDiff, Nat.reduceLT, Nat.reduceLeDiff, ek, by22, tup3, B, I, by2, ty5, ty51, decide_true, decide_false, Bool.not_true, Bool.not_false, eq_self, and_self, Nat.zero_add, Int.toNat_natCast, TY, Go.Proofs.Try.results12])))
  all_goals first | (exfalso; omega) | skip
  refine callVC (m22' n C h3 k hk) (by (simp -dsimp only [↓RP, RQ0, RQ1, RQ2, RQ3, implies_true, forall_const, Nat.reduceMul, reduceIte, reduceCtorEq, Nat.reduceAdd, Nat.reduceEqDiff, Nat.reduceLT, Nat.reduceLeDiff, chn, Curve.sv, ints, I, B]); all_goals (try simp); all_goals exact fun _ _ => rfl) (by (simp -dsimp only [↓RP, RQ0, RQ1, RQ2, RQ3, implies_true, forall_const, Nat.reduceMul, reduceIte, reduceCtorEq, Nat.reduceAdd, Nat.reduceEqDiff, Nat.reduceLT, Nat.reduceLeDiff, I])) ?_
  (repeat' (first | with_reducible refine splitVC_d (fun _ => ?_) (fun _ => ?_) | ((with_reducible refine And.intro ?_ ?_); focus (first | exact True.intro | (simp only [InK]; omega) | omega | (simp only [InK, ne_eq, and_true, true_and]; omega) | trivial)) | (simp -dsimp only [↓RP, RQ0, RQ1, RQ2, RQ3, implies_true, forall_const, Nat.reduceMul, reduceIte, reduceCtorEq, Nat.reduceAdd, Nat.reduceEqDiff, Nat.reduceLT, Nat.reduceLeDiff, by22, tup3, B, I, by2, ty5, ty51, decide_true, decide_false, Bool.not_true, Bool.not_false, eq_self, and_self, Nat.zero_add, Int.toNat_natCast, TY, Go.Proofs.Try.results12])))
  refine callVC k22r (by (simp -dsimp only [↓RP, RQ0, RQ1, RQ2, RQ3, implies_true, forall_const, Nat.reduceMul, reduceIte, reduceCtorEq, Nat.reduceAdd, Nat.reduceEqDiff, Nat.reduceLT, Nat.reduceLeDiff, chn, Curve.sv, ints, I, B]); all_goals (try simp); all_goals exact fun _ _ => rfl) (by (simp -dsimp only [↓RP, RQ0, RQ1, RQ2, RQ3, implies_true, forall_const, Nat.reduceMul, reduceIte, reduceCtorEq, Nat.reduceAdd, Nat.reduceEqDiff, Nat.reduceLT, Nat.reduceLeDiff, I])) ?_
  (repeat' (first | with_reducible refine splitVC_d (fun _ => ?_) (fun _ => ?_) | ((with_reducible refine And.intro ?_ ?_); focus (first | exact True.intro | (simp only [InK]; omega) | omega | (simp only [InK, ne_eq, and_true, true_and]; omega) | trivial)) | (simp -dsimp only [↓RP, RQ0, RQ1, RQ2, RQ3, implies_true, forall_const, Nat.reduceMul, reduceIte, reduceCtorEq, Nat.reduceAdd, Nat.reduceEqDiff, Nat.reduceLT, Nat.reduceLeDiff, by22, tup3, B, I, by2, ty5, ty51, decide_true, decide_false, Bool.not_true, Bool.not_false, eq_self, and_self, Nat.zero_add, Int.toNat_natCast, TY, Go.Proofs.Try.results12])))
  by_cases he : askE c n C = 0
  · rw [show waitV c n C = (waitB c n C, 0) by unfold waitV; rw [if_pos he]] at k40 k40r
    rw [show lateV c n C = (lateB c n C, 0) by unfold lateV; rw [if_pos he]] at k42 k42r
    refine callVC k40 (by (simp -dsimp only [↓RP, RQ0, RQ1, RQ2, RQ3, implies_true, forall_const, Nat.reduceMul, reduceIte, reduceCtorEq, Nat.reduceAdd, Nat.reduceEqDiff, Nat.reduceLT, Nat.reduceLeDiff, chn, Curve.sv, ints, I, B]); all_goals (try simp); all_goals exact fun _ _ => rfl) (by (simp -dsimp only [↓RP, RQ0, RQ1, RQ2, RQ3, implies_true, forall_const, Nat.reduceMul, reduceIte, reduceCtorEq, Nat.reduceAdd, Nat.reduceEqDiff, Nat.reduceLT, Nat.reduceLeDiff, I])) ?_
    (repeat' (first | with_reducible refine splitVC_d (fun _ => ?_) (fun _ => ?_) | ((with_reducible refine And.intro ?_ ?_); focus (first | exact True.intro | (simp only [InK]; omega) | omega | (simp only [InK, ne_eq, and_true, true_and]; omega) | trivial)) | (simp -dsimp only [↓RP, RQ0, RQ1, RQ2, RQ3, implies_true, forall_const, Nat.reduceMul, reduceIte, reduceCtorEq, Nat.reduceAdd, Nat.reduceEqDiff, Nat.reduceLT, Nat.reduceLeDiff, by22, tup3, B, I, by2, ty5, ty51, decide_true, decide_false, Bool.not_true, Bool.not_false, eq_self, and_self, Nat.zero_add, Int.toNat_natCast, TY, Go.Proofs.Try.results12])))
    refine callVC k40r (by (simp -dsimp only [↓RP, RQ0, RQ1, RQ2, RQ3, implies_true, forall_const, Nat.reduceMul, reduceIte, reduceCtorEq, Nat.reduceAdd, Nat.reduceEqDiff, Nat.reduceLT, Nat.reduceLeDiff, chn, Curve.sv, ints, I, B]); all_goals (try simp); all_goals exact fun _ _ => rfl) (by (simp -dsimp only [↓RP, RQ0, RQ1, RQ2, RQ3, implies_true, forall_const, Nat.reduceMul, reduceIte, reduceCtorEq, Nat.reduceAdd, Nat.reduceEqDiff, Nat.reduceLT, Nat.reduceLeDiff, I])) ?_
    (repeat' (first | with_reducible refine splitVC_d (fun _ => ?_) (fun _ => ?_) | ((with_reducible refine And.intro ?_ ?_); focus (first | exact True.intro | (simp only [InK]; omega) | omega | (simp only [InK, ne_eq, and_true, true_and]; omega) | trivial)) | (simp -dsimp only [↓RP, RQ0, RQ1, RQ2, RQ3, implies_true, forall_const, Nat.reduceMul, reduceIte, reduceCtorEq, Nat.reduceAdd, Nat.reduceEqDiff, Nat.reduceLT, Nat.reduceLeDiff, by22, tup3, B, I, by2, ty5, ty51, decide_true, decide_false, Bool.not_true, Bool.not_false, eq_self, and_self, Nat.zero_add, Int.toNat_natCast, TY, Go.Proofs.Try.results12])))
    refine callVC k42 (by (simp -dsimp only [↓RP, RQ0, RQ1, RQ2, RQ3, implies_true, forall_const, Nat.reduceMul, reduceIte, reduceCtorEq, Nat.reduceAdd, Nat.reduceEqDiff, Nat.reduceLT, Nat.reduceLeDiff, chn, Curve.sv, ints, I, B]); all_goals (try simp); all_goals exact fun _ _ => rfl) (by (simp -dsimp only [↓RP, RQ0, RQ1, RQ2, RQ3, implies_true, forall_const, Nat.reduceMul, reduceIte, reduceCtorEq, Nat.reduceAdd, Nat.reduceEqDiff, Nat.reduceLT, Nat.reduceLeDiff, I])) ?_
    (repeat' (first | with_reducible refine splitVC_d (fun _ => ?_) (fun _ => ?_) | ((with_reducible refine And.intro ?_ ?_); focus (first | exact True.intro | (simp only [InK]; omega) | omega | (simp only [InK, ne_eq, and_true, true_and]; omega) | trivial)) | (simp -dsimp only [↓RP, RQ0, RQ1, RQ2, RQ3, implies_true, forall_const, Nat.reduceMul, reduceIte, reduceCtorEq, Nat.reduceAdd, Nat.reduceEqDiff, Nat.reduceLT, Nat.reduceLeDiff, by22, tup3, B, I, by2, ty5, ty51, decide_true, decide_false, Bool.not_true, Bool.not_false, eq_self, and_self, Nat.zero_add, Int.toNat_natCast, TY, Go.Proofs.Try.results12])))
    refine callVC k42r (by (simp -dsimp only [↓RP, RQ0, RQ1, RQ2, RQ3, implies_true, forall_const, Nat.reduceMul, reduceIte, reduceCtorEq, Nat.reduceAdd, Nat.reduceEqDiff, Nat.reduceLT, Nat.reduceLeDiff, chn, Curve.sv, ints, I, B]); all_goals (try simp); all_goals exact fun _ _ => rfl) (by (simp -dsimp only [↓RP, RQ0, RQ1, RQ2, RQ3, implies_true, forall_const, Nat.reduceMul, reduceIte, reduceCtorEq, Nat.reduceAdd, Nat.reduceEqDiff, Nat.reduceLT, Nat.reduceLeDiff, I])) ?_
    (repeat' (first | with_reducible refine splitVC_d (fun _ => ?_) (fun _ => ?_) | ((with_reducible refine And.intro ?_ ?_); focus (first | exact True.intro | (simp only [InK]; omega) | omega | (simp only [InK, ne_eq, and_true, true_and]; omega) | trivial)) | (simp -dsimp only [↓RP, RQ0, RQ1, RQ2, RQ3, implies_true, forall_const, Nat.reduceMul, reduceIte, reduceCtorEq, Nat.reduceAdd, Nat.reduceEqDiff, Nat.reduceLT, Nat.reduceLeDiff, by22, tup3, B, I, by2, ty5, ty51, decide_true, decide_false, Bool.not_true, Bool.not_false, eq_self, and_self, Nat.zero_add, Int.toNat_natCast, TY, Go.Proofs.Try.results12])))
    all_goals first | (exfalso; omega) | skip
    all_goals first | (refine callVC hw (by (simp -dsimp only [↓RP, RQ0, RQ1, RQ2, RQ3, implies_true, forall_const, Nat.reduceMul, reduceIte, reduceCtorEq, Nat.reduceAdd, Nat.reduceEqDiff, Nat.reduceLT, Nat.reduceLeDiff])) (by (simp -dsimp only [↓RP, RQ0, RQ1, RQ2, RQ3, implies_true, forall_const, Nat.reduceMul, reduceIte, reduceCtorEq, Nat.reduceAdd, Nat.reduceEqDiff, Nat.reduceLT, Nat.reduceLeDiff, B])) ?_; (repeat' (first | with_reducible refine splitVC_d (fun _ => ?_) (fun _ => ?_) | ((with_reducible refine And.intro ?_ ?_); focus (first | exact True.intro | (simp only [InK]; omega) | omega | (simp only [InK, ne_eq, and_true, true_and]; omega) | trivial)) | (simp -dsimp only [↓RP, RQ0, RQ1, RQ2, RQ3, implies_true, forall_const, Nat.reduceMul, reduceIte, reduceCtorEq, Nat.reduceAdd, Nat.reduceEqDiff, Nat.reduceLT, Nat.reduceLeDiff, by22, tup3, B, I, by2, ty5, ty51, decide_true, decide_false, Bool.not_true, Bool.not_false, eq_self, and_self, Nat.zero_add, Int.toNat_natCast, TY, Go.Proofs.Try.results12]))); done) | skip
    rename_i n2
    have hA := ask_ok he
    have hA1e := ask_one c n C hA
    have hA1 := ask_ok hA1e
    have f1 := c42 c 1 C (by omega) (fun j hj => by have := (hC j (by omega)).m6; omega)
    rw [show lateV c 1 C = (lateB c 1 C, 0) by unfold lateV; rw [if_pos hA1e]] at f1
    have f2 := c44 c 1 C (fun j hj => by have := (hC j (by omega)).m6; omega) hA1e
    have b1 := lateB_20 hA1
    refine callVC f1 (by (simp -dsimp only [↓RP, RQ0, RQ1, RQ2, RQ3, implies_true, forall_const, Nat.reduceMul, reduceIte, reduceCtorEq, Nat.reduceAdd, Nat.reduceEqDiff, Nat.reduceLT, Nat.reduceLeDiff, chn, Curve.sv, ints, I, B]); all_goals (try simp); all_goals exact fun _ _ => rfl) (by (simp -dsimp only [↓RP, RQ0, RQ1, RQ2, RQ3, implies_true, forall_const, Nat.reduceMul, reduceIte, reduceCtorEq, Nat.reduceAdd, Nat.reduceEqDiff, Nat.reduceLT, Nat.reduceLeDiff, I])) ?_
    (repeat' (first | with_reducible refine splitVC_d (fun _ => ?_) (fun _ => ?_) | ((with_reducible refine And.intro ?_ ?_); focus (first | exact True.intro | (simp only [InK]; omega) | omega | (simp only [InK, ne_eq, and_true, true_and]; omega) | trivial)) | (simp -dsimp only [↓RP, RQ0, RQ1, RQ2, RQ3, implies_true, forall_const, Nat.reduceMul, reduceIte, reduceCtorEq, Nat.reduceAdd, Nat.reduceEqDiff, Nat.reduceLT, Nat.reduceLeDiff, by22, tup3, B, I, by2, ty5, ty51, decide_true, decide_false, Bool.not_true, Bool.not_false, eq_self, and_self, Nat.zero_add, Int.toNat_natCast, TY, Go.Proofs.Try.results12])))
    refine callN f2 (by (simp -dsimp only [↓RP, RQ0, RQ1, RQ2, RQ3, implies_true, forall_const, Nat.reduceMul, reduceIte, reduceCtorEq, Nat.reduceAdd, Nat.reduceEqDiff, Nat.reduceLT, Nat.reduceLeDiff, chn, Curve.sv, ints, I, B]); all_goals (try simp); all_goals exact fun _ _ => rfl) (by (simp -dsimp only [↓RP, RQ0, RQ1, RQ2, RQ3, implies_true, forall_const, Nat.reduceMul, reduceIte, reduceCtorEq, Nat.reduceAdd, Nat.reduceEqDiff, Nat.reduceLT, Nat.reduceLeDiff, I]); all_goals simp) (by (simp -dsimp only [↓RP, RQ0, RQ1, RQ2, RQ3, implies_true, forall_const, Nat.reduceMul, reduceIte, reduceCtorEq, Nat.reduceAdd, Nat.reduceEqDiff, Nat.reduceLT, Nat.reduceLeDiff, I]); all_goals simp) ?_
    (repeat' (first | with_reducible refine splitVC_d (fun _ => ?_) (fun _ => ?_) | ((with_reducible refine And.intro ?_ ?_); focus (first | exact True.intro | (simp only [InK]; omega) | omega | (simp only [InK, ne_eq, and_true, true_and]; omega) | trivial)) | (simp -dsimp only [↓RP, RQ0, RQ1, RQ2, RQ3, implies_true, forall_const, Nat.reduceMul, reduceIte, reduceCtorEq, Nat.reduceAdd, Nat.reduceEqDiff, Nat.reduceLT, Nat.reduceLeDiff, by22, tup3, B, I, by2, ty5, ty51, decide_true, decide_false, Bool.not_true, Bool.not_false, eq_self, and_self, Nat.zero_add, Int.toNat_natCast, TY, Go.Proofs.Try.results12])))
    all_goals first | (exfalso; omega) | skip
    have e9 : ((n : Int) - 1).toNat = n - 1 := by omega
    by_cases h5 : (nextC c C).err = 0
    rotate_left
    · refine callVC (c27 (nextC c C)) (by (simp -dsimp only [↓RP, RQ0, RQ1, RQ2, RQ3, implies_true, forall_const, Nat.reduceMul, reduceIte, reduceCtorEq, Nat.reduceAdd, Nat.reduceEqDiff, Nat.reduceLT, Nat.reduceLeDiff, nextC, Curve.sv, ints, I, B]); all_goals (try simp)) (by (simp -dsimp only [↓RP, RQ0, RQ1, RQ2, RQ3, implies_true, forall_const, Nat.reduceMul, reduceIte, reduceCtorEq, Nat.reduceAdd, Nat.reduceEqDiff, Nat.reduceLT, Nat.reduceLeDiff, I])) ?_
      (repeat' (first | with_reducible refine splitVC_d (fun _ => ?_) (fun _ => ?_) | ((with_reducible refine And.intro ?_ ?_); focus (first | exact True.intro | (simp only [InK]; omega) | omega | (simp only [InK, ne_eq, and_true, true_and]; omega) | trivial)) | (simp -dsimp only [↓RP, RQ0, RQ1, RQ2, RQ3, implies_true, forall_const, Nat.reduceMul, reduceIte, reduceCtorEq, Nat.reduceAdd, Nat.reduceEqDiff, Nat.reduceLT, Nat.reduceLeDiff, h5, by22, tup3, B, I, by2, ty5, ty51, decide_true, decide_false, Bool.not_true, Bool.not_false, eq_self, and_self, Nat.zero_add, Int.toNat_natCast, TY, Go.Proofs.Try.results12])))
      refine callVC hw (by (simp -dsimp only [↓RP, RQ0, RQ1, RQ2, RQ3, implies_true, forall_const, Nat.reduceMul, reduceIte, reduceCtorEq, Nat.reduceAdd, Nat.reduceEqDiff, Nat.reduceLT, Nat.reduceLeDiff])) (by (simp -dsimp only [↓RP, RQ0, RQ1, RQ2, RQ3, implies_true, forall_const, Nat.reduceMul, reduceIte, reduceCtorEq, Nat.reduceAdd, Nat.reduceEqDiff, Nat.reduceLT, Nat.reduceLeDiff, B])) ?_
      (repeat' (first | with_reducible refine splitVC_d (fun _ => ?_) (fun _ => ?_) | ((with_reducible refine And.intro ?_ ?_); focus (first | exact True.intro | (simp only [InK]; omega) | omega | (simp only [InK, ne_eq, and_true, true_and]; omega) | trivial)) | (simp -dsimp only [↓RP, RQ0, RQ1, RQ2, RQ3, implies_true, forall_const, Nat.reduceMul, reduceIte, reduceCtorEq, Nat.reduceAdd, Nat.reduceEqDiff, Nat.reduceLT, Nat.reduceLeDiff, by22, tup3, B, I, by2, ty5, ty51, decide_true, decide_false, Bool.not_true, Bool.not_false, eq_self, and_self, Nat.zero_add, Int.toNat_natCast, TY, Go.Proofs.Try.results12])))
    refine callVC (c27 (nextC c C)) (by (simp -dsimp only [↓RP, RQ0, RQ1, RQ2, RQ3, implies_true, forall_const, Nat.reduceMul, reduceIte, reduceCtorEq, Nat.reduceAdd, Nat.reduceEqDiff, Nat.reduceLT, Nat.reduceLeDiff, nextC, Curve.sv, ints, I, B]); all_goals (try simp)) (by (simp -dsimp only [↓RP, RQ0, RQ1, RQ2, RQ3, implies_true, forall_const, Nat.reduceMul, reduceIte, reduceCtorEq, Nat.reduceAdd, Nat.reduceEqDiff, Nat.reduceLT, Nat.reduceLeDiff, I])) ?_
    (repeat' (first | with_reducible refine splitVC_d (fun _ => ?_) (fun _ => ?_) | ((with_reducible refine And.intro ?_ ?_); focus (first | exact True.intro | (simp only [InK]; omega) | omega | (simp only [InK, ne_eq, and_true, true_and]; omega) | trivial)) | (simp -dsimp only [↓RP, RQ0, RQ1, RQ2, RQ3, implies_true, forall_const, Nat.reduceMul, reduceIte, reduceCtorEq, Nat.reduceAdd, Nat.reduceEqDiff, Nat.reduceLT, Nat.reduceLeDiff, h5, e9, Int.toNat_one, by22, tup3, B, I, by2, ty5, ty51, decide_true, decide_false, Bool.not_true, Bool.not_false, eq_self, and_self, Nat.zero_add, Int.toNat_natCast, TY, Go.Proofs.Try.results12])))
    all_goals first | (exfalso; omega) | skip
    by_cases h6 : askE (nextC c C) (n - 1) (tl C) = 0
    rotate_left
    · refine callVC (c59 (nextC c C) (n - 1) (tl C)) (by (simp -dsimp only [↓RP, RQ0, RQ1, RQ2, RQ3, implies_true, forall_const, Nat.reduceMul, reduceIte, reduceCtorEq, Nat.reduceAdd, Nat.reduceEqDiff, Nat.reduceLT, Nat.reduceLeDiff, nextC, tl, chn, Curve.sv, ints, I, B]); all_goals (try simp); all_goals (try exact fun _ _ => rfl)) (by (simp -dsimp only [↓RP, RQ0, RQ1, RQ2, RQ3, implies_true, forall_const, Nat.reduceMul, reduceIte, reduceCtorEq, Nat.reduceAdd, Nat.reduceEqDiff, Nat.reduceLT, Nat.reduceLeDiff, I])) ?_
      (repeat' (first | with_reducible refine splitVC_d (fun _ => ?_) (fun _ => ?_) | ((with_reducible refine And.intro ?_ ?_); focus (first | exact True.intro | (simp only [InK]; omega) | omega | (simp only [InK, ne_eq, and_true, true_and]; omega) | trivial)) | (simp -dsimp only [↓RP, RQ0, RQ1, RQ2, RQ3, implies_true, forall_const, Nat.reduceMul, reduceIte, reduceCtorEq, Nat.reduceAdd, Nat.reduceEqDiff, Nat.reduceLT, Nat.reduceLeDiff, h6, by22, tup3, B, I, by2, ty5, ty51, decide_true, decide_false, Bool.not_true, Bool.not_false, eq_self, and_self, Nat.zero_add, Int.toNat_natCast, TY, Go.Proofs.Try.results12])))
      refine callVC hw (by (simp -dsimp only [↓RP, RQ0, RQ1, RQ2, RQ3, implies_true, forall_const, Nat.reduceMul, reduceIte, reduceCtorEq, Nat.reduceAdd, Nat.reduceEqDiff, Nat.reduceLT, Nat.reduceLeDiff])) (by (simp -dsimp only [↓RP, RQ0, RQ1, RQ2, RQ3, implies_true, forall_const, Nat.reduceMul, reduceIte, reduceCtorEq, Nat.reduceAdd, Nat.reduceEqDiff, Nat.reduceLT, Nat.reduceLeDiff, B])) ?_
      (repeat' (first | with_reducible refine splitVC_d (fun _ => ?_) (fun _ => ?_) | ((with_reducible refine And.intro ?_ ?_); focus (first | exact True.intro | (simp only [InK]; omega) | omega | (simp only [InK, ne_eq, and_true, true_and]; omega) | trivial)) | (simp -dsimp only [↓RP, RQ0, RQ1, RQ2, RQ3, implies_true, forall_const, Nat.reduceMul, reduceIte, reduceCtorEq, Nat.reduceAdd, Nat.reduceEqDiff, Nat.reduceLT, Nat.reduceLeDiff, by22, tup3, B, I, by2, ty5, ty51, decide_true, decide_false, Bool.not_true, Bool.not_false, eq_self, and_self, Nat.zero_add, Int.toNat_natCast, TY, Go.Proofs.Try.results12])))
    refine callVC (c59 (nextC c C) (n - 1) (tl C)) (by (simp -dsimp only [↓RP, RQ0, RQ1, RQ2, RQ3, implies_true, forall_const, Nat.reduceMul, reduceIte, reduceCtorEq, Nat.reduceAdd, Nat.reduceEqDiff, Nat.reduceLT, Nat.reduceLeDiff, nextC, tl, chn, Curve.sv, ints, I, B]); all_goals (try simp); all_goals (try exact fun _ _ => rfl)) (by (simp -dsimp only [↓RP, RQ0, RQ1, RQ2, RQ3, implies_true, forall_const, Nat.reduceMul, reduceIte, reduceCtorEq, Nat.reduceAdd, Nat.reduceEqDiff, Nat.reduceLT, Nat.reduceLeDiff, I])) ?_
    (repeat' (first | with_reducible refine splitVC_d (fun _ => ?_) (fun _ => ?_) | ((with_reducible refine And.intro ?_ ?_); focus (first | exact True.intro | (simp only [InK]; omega) | omega | (simp only [InK, ne_eq, and_true, true_and]; omega) | trivial)) | (simp -dsimp only [↓RP, RQ0, RQ1, RQ2, RQ3, implies_true, forall_const, Nat.reduceMul, reduceIte, reduceCtorEq, Nat.reduceAdd, Nat.reduceEqDiff, Nat.reduceLT, Nat.reduceLeDiff, h6, e9, Int.toNat_one, by22, tup3, B, I, by2, ty5, ty51, decide_true, decide_false, Bool.not_true, Bool.not_false, eq_self, and_self, Nat.zero_add, Int.toNat_natCast, TY, Go.Proofs.Try.results12])))
    all_goals first | (exfalso; omega) | skip
    have hA2 := ask_ok h6
    have k42n := c42 (nextC c C) (n - 1) (tl C) (by have := hA2.fine.m6; omega) (fun j hj => by have := (hA2.fines j hj).m6; omega)
    rw [show lateV (nextC c C) (n - 1) (tl C) = (lateB (nextC c C) (n - 1) (tl C), 0) by unfold lateV; rw [if_pos h6]] at k42n
    have hlp := late_parts c n C hA hA1 (by omega) hA2
    have b2 := lateB_20 hA2
    refine callVC k42n (by (simp -dsimp only [↓RP, RQ0, RQ1, RQ2, RQ3, implies_true, forall_const, Nat.reduceMul, reduceIte, reduceCtorEq, Nat.reduceAdd, Nat.reduceEqDiff, Nat.reduceLT, Nat.reduceLeDiff, nextC, tl, chn, Curve.sv, ints, I, B]); all_goals (try simp); all_goals (try exact fun _ _ => rfl)) (by (simp -dsimp only [↓RP, RQ0, RQ1, RQ2, RQ3, implies_true, forall_const, Nat.reduceMul, reduceIte, reduceCtorEq, Nat.reduceAdd, Nat.reduceEqDiff, Nat.reduceLT, Nat.reduceLeDiff, I])) ?_
    (repeat' (first | with_reducible refine splitVC_d (fun _ => ?_) (fun _ => ?_) | ((with_reducible refine And.intro ?_ ?_); focus (first | exact True.intro | (simp only [InK]; omega) | omega | (simp only [InK, ne_eq, and_true, true_and]; omega) | trivial)) | (simp -dsimp only [↓RP, RQ0, RQ1, RQ2, RQ3, implies_true, forall_const, Nat.reduceMul, reduceIte, reduceCtorEq, Nat.reduceAdd, Nat.reduceEqDiff, Nat.reduceLT, Nat.reduceLeDiff, by22, tup3, B, I, by2, ty5, ty51, decide_true, decide_false, Bool.not_true, Bool.not_false, eq_self, and_self, Nat.zero_add, Int.toNat_natCast, TY, Go.Proofs.Try.results12])))
    all_goals first | (exfalso; omega) | skip
    refine callVC hw (by (simp -dsimp only [↓RP, RQ0, RQ1, RQ2, RQ3, implies_true, forall_const, Nat.reduceMul, reduceIte, reduceCtorEq, Nat.reduceAdd, Nat.reduceEqDiff, Nat.reduceLT, Nat.reduceLeDiff])) (by (simp -dsimp only [↓RP, RQ0, RQ1, RQ2, RQ3, implies_true, forall_const, Nat.reduceMul, reduceIte, reduceCtorEq, Nat.reduceAdd, Nat.reduceEqDiff, Nat.reduceLT, Nat.reduceLeDiff, B])) ?_
    (repeat' (first | with_reducible refine splitVC_d (fun _ => ?_) (fun _ => ?_) | ((with_reducible refine And.intro ?_ ?_); focus (first | exact True.intro | (simp only [InK]; omega) | omega | (simp only [InK, ne_eq, and_true, true_and]; omega) | trivial)) | (simp -dsimp only [↓RP, RQ0, RQ1, RQ2, RQ3, implies_true, forall_const, Nat.reduceMul, reduceIte, reduceCtorEq, Nat.reduceAdd, Nat.reduceEqDiff, Nat.reduceLT, Nat.reduceLeDiff, by22, tup3, B, I, by2, ty5, ty51, decide_true, decide_false, Bool.not_true, Bool.not_false, eq_self, and_self, Nat.zero_add, Int.toNat_natCast, TY, Go.Proofs.Try.results12])))
  · have he18 : askE c n C = 18 := by
      unfold askE at he ⊢
      rw [if_pos h1, if_pos h3] at he ⊢
      by_cases hx : slowE c n C
      · rw [if_pos hx]
      · rw [if_neg hx] at he; exact absurd rfl he
    rw [show waitV c n C = (0, 18) by unfold waitV; rw [if_neg he, he18]] at k40 k40r
    rw [show lateV c n C = (0, 18) by unfold lateV; rw [if_neg he, he18]] at k42 k42r
    refine callVC k40 (by (simp -dsimp only [↓RP, RQ0, RQ1, RQ2, RQ3, implies_true, forall_const, Nat.reduceMul, reduceIte, reduceCtorEq, Nat.reduceAdd, Nat.reduceEqDiff, Nat.reduceLT, Nat.reduceLeDiff, chn, Curve.sv, ints, I, B]); all_goals (try simp); all_goals exact fun _ _ => rfl) (by (simp -dsimp only [↓RP, RQ0, RQ1, RQ2, RQ3, implies_true, forall_const, Nat.reduceMul, reduceIte, reduceCtorEq, Nat.reduceAdd, Nat.reduceEqDiff, Nat.reduceLT, Nat.reduceLeDiff, I])) ?_
    (repeat' (first | with_reducible refine splitVC_d (fun _ => ?_) (fun _ => ?_) | ((with_reducible refine And.intro ?_ ?_); focus (first | exact True.intro | (simp only [InK]; omega) | omega | (simp only [InK, ne_eq, and_true, true_and]; omega) | trivial)) | (simp -dsimp only [↓RP, RQ0, RQ1, RQ2, RQ3, implies_true, forall_const, Nat.reduceMul, reduceIte, reduceCtorEq, Nat.reduceAdd, Nat.reduceEqDiff, Nat.reduceLT, Nat.reduceLeDiff, by22, tup3, B, I, by2, ty5, ty51, decide_true, decide_false, Bool.not_true, Bool.not_false, eq_self, and_self, Nat.zero_add, Int.toNat_natCast, TY, Go.Proofs.Try.results12])))
    refine callVC k40r (by (simp -dsimp only [↓RP, RQ0, RQ1, RQ2, RQ3, implies_true, forall_const, Nat.reduceMul, reduceIte, reduceCtorEq, Nat.reduceAdd, Nat.reduceEqDiff, Nat.reduceLT, Nat.reduceLeDiff, chn, Curve.sv, ints, I, B]); all_goals (try simp); all_goals exact fun _ _ => rfl) (by (simp -dsimp only [↓RP, RQ0, RQ1, RQ2, RQ3, implies_true, forall_const, Nat.reduceMul, reduceIte, reduceCtorEq, Nat.reduceAdd, Nat.reduceEqDiff, Nat.reduceLT, Nat.reduceLeDiff, I])) ?_
    (repeat' (first | with_reducible refine splitVC_d (fun _ => ?_) (fun _ => ?_) | ((with_reducible refine And.intro ?_ ?_); focus (first | exact True.intro | (simp only [InK]; omega) | omega | (simp only [InK, ne_eq, and_true, true_and]; omega) | trivial)) | (simp -dsimp only [↓RP, RQ0, RQ1, RQ2, RQ3, implies_true, forall_const, Nat.reduceMul, reduceIte, reduceCtorEq, Nat.reduceAdd, Nat.reduceEqDiff, Nat.reduceLT, Nat.reduceLeDiff, by22, tup3, B, I, by2, ty5, ty51, decide_true, decide_false, Bool.not_true, Bool.not_false, eq_self, and_self, Nat.zero_add, Int.toNat_natCast, TY, Go.Proofs.Try.results12])))
    refine callVC k42 (by (simp -dsimp only [↓RP, RQ0, RQ1, RQ2, RQ3, implies_true, forall_const, Nat.reduceMul, reduceIte, reduceCtorEq, Nat.reduceAdd, Nat.reduceEqDiff, Nat.reduceLT, Nat.reduceLeDiff, chn, Curve.sv, ints, I, B]); all_goals (try simp); all_goals exact fun _ _ => rfl) (by (simp -dsimp only [↓RP, RQ0, RQ1, RQ2, RQ3, implies_true, forall_const, Nat.reduceMul, reduceIte, reduceCtorEq, Nat.reduceAdd, Nat.reduceEqDiff, Nat.reduceLT, Nat.reduceLeDiff, I])) ?_
    (repeat' (first | with_reducible refine splitVC_d (fun _ => ?_) (fun _ => ?_) | ((with_reducible refine And.intro ?_ ?_); focus (first | exact True.intro | (simp only [InK]; omega) | omega | (simp only [InK, ne_eq, and_true, true_and]; omega) | trivial)) | (simp -dsimp only [↓RP, RQ0, RQ1, RQ2, RQ3, implies_true, forall_const, Nat.reduceMul, reduceIte, reduceCtorEq, Nat.reduceAdd, Nat.reduceEqDiff, Nat.reduceLT, Nat.reduceLeDiff, by22, tup3, B, I, by2, ty5, ty51, decide_true, decide_false, Bool.not_true, Bool.not_false, eq_self, and_self, Nat.zero_add, Int.toNat_natCast, TY, Go.Proofs.Try.results12])))
    refine callVC k42r (by (simp -dsimp only [↓RP, RQ0, RQ1, RQ2, RQ3, implies_true, forall_const, Nat.reduceMul, reduceIte, reduceCtorEq, Nat.reduceAdd, Nat.reduceEqDiff, Nat.reduceLT, Nat.reduceLeDiff, chn, Curve.sv, ints, I, B]); all_goals (try simp); all_goals exact fun _ _ => rfl) (by (simp -dsimp only [↓RP, RQ0, RQ1, RQ2, RQ3, implies_true, forall_const, Nat.reduceMul, reduceIte, reduceCtorEq, Nat.reduceAdd, Nat.reduceEqDiff, Nat.reduceLT, Nat.reduceLeDiff, I])) ?_
    (repeat' (first | with_reducible refine splitVC_d (fun _ => ?_) (fun _ => ?_) | ((with_reducible refine And.intro ?_ ?_); focus (first | exact True.intro | (simp only [InK]; omega) | omega | (simp only [InK, ne_eq, and_true, true_and]; omega) | trivial)) | (simp -dsimp only [↓RP, RQ0, RQ1, RQ2, RQ3, implies_true, forall_const, Nat.reduceMul, reduceIte, reduceCtorEq, Nat.reduceAdd, Nat.reduceEqDiff, Nat.reduceLT, Nat.reduceLeDiff, by22, tup3, B, I, by2, ty5, ty51, decide_true, decide_false, Bool.not_true, Bool.not_false, eq_self, and_self, Nat.zero_add, Int.toNat_natCast, TY, Go.Proofs.Try.results12])))
    all_goals first | (exfalso; omega) | skip
    refine callVC hw (by (simp -dsimp only [↓RP, RQ0, RQ1, RQ2, RQ3, implies_true, forall_const, Nat.reduceMul, reduceIte, reduceCtorEq, Nat.reduceAdd, Nat.reduceEqDiff, Nat.reduceLT, Nat.reduceLeDiff])) (by (simp -dsimp only [↓RP, RQ0, RQ1, RQ2, RQ3, implies_true, forall_const, Nat.reduceMul, reduceIte, reduceCtorEq, Nat.reduceAdd, Nat.reduceEqDiff, Nat.reduceLT, Nat.reduceLeDiff, B])) ?_
    (repeat' (first | with_reducible refine splitVC_d (fun _ => ?_) (fun _ => ?_) | ((with_reducible refine And.intro ?_ ?_); focus (first | exact True.intro | (simp only [InK]; omega) | omega | (simp only [InK, ne_eq, and_true, true_and]; omega) | trivial)) | (simp -dsimp only [↓RP, RQ0, RQ1, RQ2, RQ3, implies_true, forall_const, Nat.reduceMul, reduceIte, reduceCtorEq, Nat.reduceAdd, Nat.reduceEqDiff, Nat.reduceLT, Nat.reduceLeDiff, by22, tup3, B, I, by2, ty5, ty51, decide_true, decide_false, Bool.not_true, Bool.not_false, eq_self, and_self, Nat.zero_add, Int.toNat_natCast, TY, Go.Proofs.Try.results12])))
end Go.Lg
end
