/- A part of the proof. -/
import Derived.Test.YtnpannhbeapidaaLA
import Derived.Test.YtnpannhbeapidaaLD
section
set_option linter.unusedSimpArgs false
set_option linter.unusedVariables false
set_option linter.defProp false
set_option maxRecDepth 100000
set_option maxHeartbeats 4000000
namespace Go.Lg
open Go.Sx
theorem c17 (c : Curve) : Contract Go.Proofs.Try.prog 17 [c.sv] (B (decide (12 < c.m))) := by
  refine contract_of Go.Proofs.Try.func17 rfl (by kernel_rfl) follows (by kernel_rfl) _ _ (by rw [Go.Proofs.Try.ntmps17]; simp) (by simp only [OldL, c.old, and_self]) ?_
  unfold B
  conv => arg 4; unfold Curve.sv ints
  (repeat' (first | with_reducible refine splitVC_d (fun _ => ?_) (fun _ => ?_) | ((with_reducible refine And.intro ?_ ?_); focus (first | trivial | (simp only [InK]; omega) | omega | (simp only [InK, ne_eq, and_true, true_and]; omega))) | simp -dsimp only [↓RP, RQ0, RQ1, RQ2, RQ3, implies_true, forall_const, Nat.reduceMul, reduceIte, reduceCtorEq, Nat.reduceAdd, Nat.reduceEqDiff, Nat.reduceLT, Nat.reduceLeDiff, TY, Go.Proofs.Try.results17]))
  refine B_eq ?_; rw [decide_eq_decide]; omega
theorem c28 (c : Curve) : Contract Go.Proofs.Try.prog 28 [c.sv] (B (decide (70 < c.m))) := by
  refine contract_of Go.Proofs.Try.func28 rfl (by kernel_rfl) follows (by kernel_rfl) _ _ (by rw [Go.Proofs.Try.ntmps28]; simp) (by simp only [OldL, c.old, and_self]) ?_
  unfold B
  conv => arg 4; unfold Curve.sv ints
  (repeat' (first | with_reducible refine splitVC_d (fun _ => ?_) (fun _ => ?_) | ((with_reducible refine And.intro ?_ ?_); focus (first | trivial | (simp only [InK]; omega) | omega | (simp only [InK, ne_eq, and_true, true_and]; omega))) | simp -dsimp only [↓RP, RQ0, RQ1, RQ2, RQ3, implies_true, forall_const, Nat.reduceMul, reduceIte, reduceCtorEq, Nat.reduceAdd, Nat.reduceEqDiff, Nat.reduceLT, Nat.reduceLeDiff, TY, Go.Proofs.Try.results28]))
  refine B_eq ?_; rw [decide_eq_decide]; omega
def wideP (n : Nat) (C : Nat → Curve) : Prop := 6 < n ∨ ∃ i, i < n ∧ 12 < (C i).m
instance (n : Nat) (C : Nat → Curve) : Decidable (wideP n C) := by unfold wideP; infer_instance
theorem e61 (b n : Nat) (hp : List (Nat × Blk)) (id : Nat) : EffVC Go.Proofs.Try.prog 61 [.vec b n 1] hp id (fun hp' nid' res => hp' = hp ∧ nid' = id + 3 ∧ res = .vec b n 1) := by
  refine eff_of follows Go.Proofs.Try.func61 rfl (by kernel_rfl) (by kernel_rfl) (by rw [Go.Proofs.Try.ntmps61]; simp) fun out => ?_
  (repeat' (first | with_reducible refine splitVC_d (fun _ => ?_) (fun _ => ?_) | ((with_reducible refine And.intro ?_ ?_); focus (first | trivial | (simp only [InK]; omega) | omega | (simp only [InK, ne_eq, and_true, true_and]; omega))) | simp -dsimp only [↓RP, RQ0, RQ1, RQ2, RQ3, implies_true, forall_const, Nat.reduceMul, reduceIte, reduceCtorEq, Nat.reduceAdd, Nat.reduceEqDiff, Nat.reduceLT, Nat.reduceLeDiff, self_F1, self_F2, Nat.add_zero, Nat.add_assoc, TY, Int.toNat_natCast, effK_ret, effK_normal, Go.Proofs.Try.results61]))
  exact ⟨_, _, _, weakS (fr' := [(0, _)]) ⟨.inr rfl, trivial⟩ (SubHp.refl _), rfl, rfl, rfl⟩
theorem c18 (n : Nat) (C : Nat → Curve) : Contract Go.Proofs.Try.prog 18 [chn n C] (B (decide (wideP n C))) := by
  refine contract_of Go.Proofs.Try.func18 rfl (by kernel_rfl) follows (by kernel_rfl) _ _ (by rw [Go.Proofs.Try.ntmps18]; simp) (by simp only [OldL, chn_old, and_self]) ?_
  unfold B
  conv => arg 4; unfold chn
  (repeat' (first | with_reducible refine splitVC_d (fun _ => ?_) (fun _ => ?_) | ((with_reducible refine And.intro ?_ ?_); focus (first | trivial | (simp only [InK]; omega) | omega | (simp only [InK, ne_eq, and_true, true_and]; omega))) | simp -dsimp only [↓RP, RQ0, RQ1, RQ2, RQ3, implies_true, forall_const, Nat.reduceMul, reduceIte, reduceCtorEq, Nat.reduceAdd, Nat.reduceEqDiff, Nat.reduceLT, Nat.reduceLeDiff, TY, Int.toNat_natCast, Go.Proofs.Try.results18]))
  · refine B_eq ?_; symm; exact decide_eq_true (.inl (by omega))
  refine loop_vc (fun (i : Nat) => i ≤ n ∧ ∀ j, j < i → ¬ 12 < (C j).m) (fun i => ⟨[(0, .arr false false n 1 (fun i _ => .arr false false (C i).m 1 (fun j _ => .val (.int .i64 ((C i).u j))))), (3, .val (.int .i64 i))], [], 0⟩) (fun i => n - i) 0 ⟨Nat.zero_le _, fun j hj => by omega⟩ (weak [] [] ?_ ?_ ?_) fun i hi => ?_
  · (simp -dsimp only [↓RP, RQ0, RQ1, RQ2, RQ3, implies_true, forall_const, Nat.reduceMul, reduceIte, reduceCtorEq, Nat.reduceAdd, Nat.reduceEqDiff, Nat.reduceLT, Nat.reduceLeDiff]); all_goals simp
  · (simp -dsimp only [↓RP, RQ0, RQ1, RQ2, RQ3, implies_true, forall_const, Nat.reduceMul, reduceIte, reduceCtorEq, Nat.reduceAdd, Nat.reduceEqDiff, Nat.reduceLT, Nat.reduceLeDiff])
  · (simp -dsimp only [↓RP, RQ0, RQ1, RQ2, RQ3, implies_true, forall_const, Nat.reduceMul, reduceIte, reduceCtorEq, Nat.reduceAdd, Nat.reduceEqDiff, Nat.reduceLT, Nat.reduceLeDiff])
  obtain ⟨hi, he⟩ := hi
  by_cases hlt : i < n
  · (repeat' (first | with_reducible refine splitVC_d (fun _ => ?_) (fun _ => ?_) | ((with_reducible refine And.intro ?_ ?_); focus (first | trivial | (simp only [InK]; omega) | omega | (simp only [InK, ne_eq, and_true, true_and]; omega))) | simp -dsimp only [↓RP, RQ0, RQ1, RQ2, RQ3, implies_true, forall_const, Nat.reduceMul, reduceIte, reduceCtorEq, Nat.reduceAdd, Nat.reduceEqDiff, Nat.reduceLT, Nat.reduceLeDiff, TY, Int.toNat_natCast, Go.Proofs.Try.results18]))
    all_goals first | (exfalso; omega) | skip
    refine callVC (c17 (C i)) (by (simp -dsimp only [↓RP, RQ0, RQ1, RQ2, RQ3, implies_true, forall_const, Nat.reduceMul, reduceIte, reduceCtorEq, Nat.reduceAdd, Nat.reduceEqDiff, Nat.reduceLT, Nat.reduceLeDiff, Curve.sv, ints, I]); all_goals simp) (by (simp -dsimp only [↓RP, RQ0, RQ1, RQ2, RQ3, implies_true, forall_const, Nat.reduceMul, reduceIte, reduceCtorEq, Nat.reduceAdd, Nat.reduceEqDiff, Nat.reduceLT, Nat.reduceLeDiff, B])) ?_
    (repeat' (first | with_reducible refine splitVC_d (fun _ => ?_) (fun _ => ?_) | ((with_reducible refine And.intro ?_ ?_); focus (first | trivial | (simp only [InK]; omega) | omega | (simp only [InK, ne_eq, and_true, true_and]; omega))) | simp -dsimp only [↓RP, RQ0, RQ1, RQ2, RQ3, implies_true, forall_const, Nat.reduceMul, reduceIte, reduceCtorEq, Nat.reduceAdd, Nat.reduceEqDiff, Nat.reduceLT, Nat.reduceLeDiff, B, TY, Int.toNat_natCast, Go.Proofs.Try.results18]))
    · rename_i hz
      refine B_eq ?_; symm; exact decide_eq_true (.inr ⟨i, hlt, hz⟩)
    · rename_i hz
      refine ⟨i + 1, ⟨by omega, fun j hj => ?_⟩, by omega, weak [] [] ?_ ?_ ?_⟩
      · by_cases e : j = i
        · subst e; exact hz
        · exact he j (by omega)
      · (simp -dsimp only [↓RP, RQ0, RQ1, RQ2, RQ3, implies_true, forall_const, Nat.reduceMul, reduceIte, reduceCtorEq, Nat.reduceAdd, Nat.reduceEqDiff, Nat.reduceLT, Nat.reduceLeDiff]); all_goals simp
      · (simp -dsimp only [↓RP, RQ0, RQ1, RQ2, RQ3, implies_true, forall_const, Nat.reduceMul, reduceIte, reduceCtorEq, Nat.reduceAdd, Nat.reduceEqDiff, Nat.reduceLT, Nat.reduceLeDiff])
      · (simp -dsimp only [↓RP, RQ0, RQ1, RQ2, RQ3, implies_true, forall_const, Nat.reduceMul, reduceIte, reduceCtorEq, Nat.reduceAdd, Nat.reduceEqDiff, Nat.reduceLT, Nat.reduceLeDiff])
  · have hin : i = n := by omega
    subst hin
    (repeat' (first | with_reducible refine splitVC_d (fun _ => ?_) (fun _ => ?_) | ((with_reducible refine And.intro ?_ ?_); focus (first | trivial | (simp only [InK]; omega) | omega | (simp only [InK, ne_eq, and_true, true_and]; omega))) | simp -dsimp only [↓RP, RQ0, RQ1, RQ2, RQ3, implies_true, forall_const, Nat.reduceMul, reduceIte, reduceCtorEq, Nat.reduceAdd, Nat.reduceEqDiff, Nat.reduceLT, Nat.reduceLeDiff, TY, Int.toNat_natCast, Go.Proofs.Try.results18]))
    all_goals first | (exfalso; omega) | skip
    refine B_eq ?_; symm; refine decide_eq_false ?_
    rintro (h | ⟨j, hj, h⟩)
    · omega
    · exact he j hj h
abbrev litR (n : Nat) (l : List SV) : Blk := .rows 2 1 n fun i j => l.getD (i + j) .top
theorem e60 (id : Nat) : EffVC Go.Proofs.Try.prog 60 [] [] id (fun hp' nid' res => hp' = [(id + 17, litR 6 [I 3, I 1, I 0, I 3, I 1, I 0]), (id + 9, litR 3 [I 0, I 2, I 4]), (id + 3, litR 3 [I 3, I 4, I 4])] ∧ nid' = id + 30 ∧ res = .tup [.vec (id + 3) 3 1, .vec (id + 9) 3 1, .vec (id + 17) 6 1]) := by
  refine eff_of follows Go.Proofs.Try.func60 rfl (by kernel_rfl) (by kernel_rfl) (by rw [Go.Proofs.Try.ntmps60]; simp) fun out => ?_
  (repeat' (first | with_reducible refine splitVC_d (fun _ => ?_) (fun _ => ?_) | ((with_reducible refine And.intro ?_ ?_); focus (first | trivial | (simp only [InK]; omega) | omega | (simp only [InK, ne_eq, and_true, true_and]; omega))) | simp -dsimp only [↓RP, RQ0, RQ1, RQ2, RQ3, implies_true, forall_const, Nat.reduceMul, reduceIte, reduceCtorEq, Nat.reduceAdd, Nat.reduceEqDiff, Nat.reduceLT, Nat.reduceLeDiff, self_F1, self_F2, Nat.add_zero, Nat.add_assoc, TY, Int.toNat_natCast, effK_ret, effK_normal, Go.Proofs.Try.results60]))
  refine callE (by rfl) (e61 _ _ _ _) fun hp' nid' res ⟨r1, r2, r3⟩ => ?_
  subst r1 r2 r3
  (repeat' (first | with_reducible refine splitVC_d (fun _ => ?_) (fun _ => ?_) | ((with_reducible refine And.intro ?_ ?_); focus (first | trivial | (simp only [InK]; omega) | omega | (simp only [InK, ne_eq, and_true, true_and]; omega))) | simp -dsimp only [↓RP, RQ0, RQ1, RQ2, RQ3, implies_true, forall_const, Nat.reduceMul, reduceIte, reduceCtorEq, Nat.reduceAdd, Nat.reduceEqDiff, Nat.reduceLT, Nat.reduceLeDiff, self_F1, self_F2, Nat.add_zero, Nat.add_assoc, TY, Int.toNat_natCast, effK_ret, effK_normal, Go.Proofs.Try.results60]))
  refine callE (by rfl) (e61 _ _ _ _) fun hp' nid' res ⟨r1, r2, r3⟩ => ?_
  subst r1 r2 r3
  (repeat' (first | with_reducible refine splitVC_d (fun _ => ?_) (fun _ => ?_) | ((with_reducible refine And.intro ?_ ?_); focus (first | trivial | (simp only [InK]; omega) | omega | (simp only [InK, ne_eq, and_true, true_and]; omega))) | simp -dsimp only [↓RP, RQ0, RQ1, RQ2, RQ3, implies_true, forall_const, Nat.reduceMul, reduceIte, reduceCtorEq, Nat.reduceAdd, Nat.reduceEqDiff, Nat.reduceLT, Nat.reduceLeDiff, self_F1, self_F2, Nat.add_zero, Nat.add_assoc, TY, Int.toNat_natCast, effK_ret, effK_normal, Go.Proofs.Try.results60]))
  refine callE (by rfl) (e61 _ _ _ _) fun hp' nid' res ⟨r1, r2, r3⟩ => ?_
  subst r1 r2 r3
  (repeat' (first | with_reducible refine splitVC_d (fun _ => ?_) (fun _ => ?_) | ((with_reducible refine And.intro ?_ ?_); focus (first | trivial | (simp only [InK]; omega) | omega | (simp only [InK, ne_eq, and_true, true_and]; omega))) | simp -dsimp only [↓RP, RQ0, RQ1, RQ2, RQ3, implies_true, forall_const, Nat.reduceMul, reduceIte, reduceCtorEq, Nat.reduceAdd, Nat.reduceEqDiff, Nat.reduceLT, Nat.reduceLeDiff, self_F1, self_F2, Nat.add_zero, Nat.add_assoc, TY, Int.toNat_natCast, effK_ret, effK_normal, Go.Proofs.Try.results60]))
  exact ⟨_, _, _, weakS (fr' := [(0, _)]) ⟨.inr rfl, trivial⟩ (SubHp.refl _), rfl, rfl, rfl⟩
end Go.Lg
end
section
set_option linter.unusedSimpArgs false
set_option linter.unusedVariables false
set_option linter.defProp false
set_option maxRecDepth 100000
set_option maxHeartbeats 4000000
namespace Go.Lg
open Go.Sx
def cL (l : List Int) : Curve := ⟨l.length, fun i => l.getD i 0⟩
abbrev cA : Curve := cL [3, 4, 4]
abbrev cB : Curve := cL [0, 2, 4]
abbrev cR : Curve := cL [3, 1, 0, 3, 1, 0]
abbrev cD : Curve := cL [0, 2, 2, 0, 2, 2]
def lI (x : Int) : SV := .val (.int .i64 x)
theorem lit_at (l : List Int) : ∀ i, i < l.length → (l.map lI)[i]?.getD .top = SV.val (.int .i64 (l.getD i 0)) := by
  intro i hi
  rw [List.getElem?_map, List.getElem?_eq_getElem hi]
  simp [lI, hi]
theorem lit_fit (l : List Int) : (cL l).m = l.length ∧ (cL l).m ≤ l.length ∧ ∀ i, i < (cL l).m → (l.map lI)[i]?.getD .top = SV.val (.int .i64 ((cL l).u i)) :=
  ⟨rfl, Nat.le_refl _, lit_at l⟩
theorem x20 : mostV cA 7 = (11, 0) := by decide +kernel
def ch1 : Nat → Curve := fun _ => cB
theorem x22 : leastV 2 ch1 5 = (4, 0) := by decide +kernel
theorem x24 : cA.err = 0 ∧ cA.rate true = (4, 3) := by decide +kernel
theorem x29 : breakV cA cR = (0, 0, 5) := by decide +kernel
theorem x29b : breakV cA (cL [3, 1, 1, 0]) = (0, 3, 0) := by decide +kernel
theorem x31 : ∀ j, j < 6 → cA.M (j + 1) - cA.M j = cR.u j := by decide +kernel
theorem x34 : addedE cB cR = 0 ∧ ∀ j, j < 6 → addS cB cR (j + 1) - addS cB cR j = cD.u j := by decide +kernel
theorem x38 : checkAddV cB cR (cL [0, 1, 3, 0, 2, 2]) = 18 := by
  have h : rowsV cR (cL [0, 1, 3, 0, 2, 2]) = 0 := by decide +kernel
  unfold checkAddV
  rw [if_pos (by decide +kernel), if_pos h, if_neg (by decide +kernel)]
theorem x36 : seenV cR cD = (3, 2, 0) := by
  have h : rowsV cR cD = 0 := by decide +kernel
  unfold seenV
  rw [if_pos h]
  decide +kernel
theorem xask (n : Nat) (hn : n = 1 ∨ n = 2) : askE cA n ch1 = 0 := by
  rcases hn with rfl | rfl <;> (unfold askE; rw [if_pos (by decide +kernel), if_pos (by decide +kernel), if_neg]; unfold slowE; decide +kernel)
theorem xM : ∀ k, 3 * cA.M k ≤ 4 * k + 5 := by
  intro k
  induction k using Nat.strongRecOn with
  | _ k ih =>
    rcases k with _ | _ | _ | k
    · decide
    · decide +kernel
    · decide +kernel
    · have := M_le (c := cA) (k + 2) 2 (by decide) (by omega)
      have e : cA.u 2 = 4 := rfl
      have := ih (k + 2 - 2) (by omega)
      rw [Nat.add_sub_cancel] at *
      rw [show k + 1 + 1 + 1 = k + 2 + 1 by omega]
      omega
theorem xL : ∀ k : Nat, 4 * (k : Int) - 4 ≤ 3 * cB.L1 k := by
  intro k
  have hB : cB.Fine := Curve.fine (by decide +kernel)
  obtain ⟨q, r, hr, rfl⟩ := split_k cB hB k
  rw [L1_eq cB q r hr]
  have e : cB.u (cB.m - 1) = 4 := rfl
  have em : cB.m = 3 := rfl
  rw [e, em]
  rw [em] at hr
  rcases r with _ | _ | _ | r
  · simp; omega
  · rw [if_pos (by omega)]; have : cB.u (0 + 1 - 1) = 0 := rfl
    rw [this]; omega
  · rw [if_pos (by omega)]; have : cB.u (0 + 1 + 1 - 1) = 2 := rfl
    rw [this]; omega
  · omega
theorem xL2 (k : Nat) : 4 * (k : Int) - 8 ≤ 3 * Lc 2 ch1 k := by
  obtain ⟨p, hp, e⟩ := Ls_at ch1 0 k
  show _ ≤ 3 * Ls ch1 (0 + 1) k
  rw [e]
  have h1 := xL (k - p)
  have h2 := xL p
  show _ ≤ 3 * (cB.L1 (k - p) + cB.L1 p)
  omega
theorem x40 : waitV cA 2 ch1 = (4, 0) := by
  unfold waitV
  rw [if_pos (xask 2 (.inr rfl))]
  have h1 : waitB cA 2 ch1 ≤ 4 := bestTo_le _ 4 (by omega) 181 fun j hj => by
    have := xM j; have := xL2 j; omega
  have h2 : (4 : Int) ≤ waitB cA 2 ch1 := by
    have := le_bestTo (fun k => cA.M k - Lc 2 ch1 k) 181 2 (by omega)
    have e : cA.M 2 - Lc 2 ch1 2 = 4 := by decide +kernel
    exact e ▸ this
  rw [show waitB cA 2 ch1 = 4 by omega]
theorem xl1 (k : Nat) : Lc 1 ch1 k = cB.L1 k := rfl
theorem x42 : lateV cA 1 ch1 = (2, 0) := by
  unfold lateV
  rw [if_pos (xask 1 (.inl rfl))]
  have h1 : lateB cA 1 ch1 ≤ 2 := bestTo_le _ 2 (by omega) 181 fun j hj => by
    have h := lateF_false cA.M (Lc 1 ch1) j (j + 2) (by omega)
    by_cases h2 : j + 2 < lateF cA.M (Lc 1 ch1) j
    · have h3 := h h2
      rw [xl1] at h3
      have := xM j; have := xL (j + 2); omega
    · omega
  have h2 : (2 : Int) ≤ lateB cA 1 ch1 := by
    have := le_bestTo (fun k => (lateF cA.M (Lc 1 ch1) k : Int) - k) 181 1 (by omega)
    have e : (lateF cA.M (Lc 1 ch1) 1 : Int) - (1 : Nat) = 2 := by decide +kernel
    exact e ▸ this
  rw [show lateB cA 1 ch1 = 2 by omega]
theorem x40b : waitV (cL [3, 4, 5]) 1 ch1 = (0, 18) := by
  have h : askE (cL [3, 4, 5]) 1 ch1 = 18 := by
    unfold askE; rw [if_pos (by decide +kernel), if_pos (by decide +kernel), if_pos]; unfold slowE; exact ⟨0, by omega, by decide +kernel⟩
  unfold waitV
  rw [if_neg (by rw [h]; omega), h]
theorem xbeh (k u : Nat) (v : Int) (hv : 0 ≤ v) (h : 4 * (k : Int) + 9 < 3 * v + 3) (hu : u < 181) (e : cA.M (k + u) - cB.L1 u = v) : behB cA 1 ch1 k = v := by
  have h1 : behB cA 1 ch1 k ≤ v := bestTo_le _ v hv 181 fun j hj => by
    rw [xl1]
    have := xM (k + j); have := xL j; omega
  have h2 : v ≤ behB cA 1 ch1 k := by
    have := le_bestTo (fun u => cA.M (k + u) - Lc 1 ch1 u) 181 u hu
    rw [xl1, e] at this
    exact this
  omega
theorem x44 : ∀ j, j < 3 → behB cA 1 ch1 (j + 1) = (cL [4, 5, 7]).u j := by
  intro j hj
  rcases j with _ | _ | _ | j
  · exact xbeh 1 1 4 (by omega) (by omega) (by omega) (by decide +kernel)
  · exact xbeh 2 2 5 (by omega) (by omega) (by omega) (by decide +kernel)
  · exact xbeh 3 1 7 (by omega) (by omega) (by omega) (by decide +kernel)
  · omega
end Go.Lg
end
section
set_option linter.unusedSimpArgs false
set_option linter.unusedVariables false
set_option linter.defProp false
set_option maxRecDepth 100000
set_option maxHeartbeats 16000000
namespace Go.Lg
open Go.Sx
theorem ch_fit {hp : List (Nat × Blk)} {b n : Nat} {l : List SV} (h : Go.Sx.Sub hp cB.sv (.vec b 3 1)) (hl : ∀ i, i < n → l.getD i .top = .vec b 3 1) : ∀ i j, i < n → j < 1 → Go.Sx.Sub hp (SV.arr false false (ch1 i).m 1 fun j x => SV.val (Value.int IntKind.i64 ((ch1 i).u j))) (l.getD (i + j) .top) := fun i j hi hj => by
  obtain rfl : j = 0 := by omega
  rw [Nat.add_zero, hl i hi]
  exact h
theorem eq32 : eqInfo Go.Proofs.Try.prog 32 = some [.i .i64, .i .i64] := by kernel_rfl
theorem k20 : Contract Go.Proofs.Try.prog 20 [cA.sv, I 7] (.tup [I 11, I 0]) := by
  have := c20 cA (by decide) 7
  rwa [x20] at this
theorem k22 : Contract Go.Proofs.Try.prog 22 [chn 2 ch1, I 5] (.tup [I 4, I 0]) := by
  have := c22 2 ch1 (by decide) 5
  rwa [x22] at this
theorem k24 : Contract Go.Proofs.Try.prog 24 [cA.sv, B true] (.tup [.agg [I 4, I 3], I 0]) := by
  have := c24 cA (by decide) true
  have e : rateV cA true = (.agg [I 4, I 3], 0) := by
    unfold rateV; rw [if_pos x24.1, x24.2]; rfl
  rwa [e] at this
theorem k29 : Contract Go.Proofs.Try.prog 29 [cA.sv, cR.sv] (.tup [I 0, I 0, I 5]) := by
  have := c29 cA cR (by decide) (by decide)
  rwa [x29] at this
theorem k29b : Contract Go.Proofs.Try.prog 29 [cA.sv, (cL [3, 1, 1, 0]).sv] (.tup [I 0, I 3, I 0]) := by
  have := c29 cA (cL [3, 1, 1, 0]) (by decide) (by decide)
  rwa [x29b] at this
theorem k31 : ContractN Go.Proofs.Try.prog 31 [cA.sv, I 6] (.rows 2 1 6 (fun j _ => I (cA.M (j + 1) - cA.M j))) (.tup [.vec 0 6 1, I 0]) := c31 cA (Curve.fine (by decide +kernel)) 6 (by decide)
theorem k34 : ContractN Go.Proofs.Try.prog 34 [cB.sv, cR.sv] (.rows 2 1 6 (fun j _ => I (addS cB cR (j + 1) - addS cB cR j))) (.tup [.vec 0 6 1, I 0]) := c34 cB cR (addedE_ok x34.1).1 (addedE_ok x34.1).2
theorem k38 : Contract Go.Proofs.Try.prog 38 [cB.sv, cR.sv, (cL [0, 1, 3, 0, 2, 2]).sv] (I 18) := by
  have := c38 cB cR (cL [0, 1, 3, 0, 2, 2]) (by decide) (by decide) (by decide)
  rwa [x38] at this
theorem k36 : Contract Go.Proofs.Try.prog 36 [cR.sv, cD.sv] (.tup [I 3, I 2, I 0]) := by
  have := c36 cR cD (by decide) (by decide)
  rwa [x36] at this
theorem k40 : Contract Go.Proofs.Try.prog 40 [cA.sv, chn 2 ch1] (.tup [I 4, I 0]) := by
  have := c40 cA 2 ch1 (by decide) (by decide)
  rwa [x40] at this
theorem k42 : Contract Go.Proofs.Try.prog 42 [cA.sv, chn 1 ch1] (.tup [I 2, I 0]) := by
  have := c42 cA 1 ch1 (by decide) (by decide)
  rwa [x42] at this
theorem k40b : Contract Go.Proofs.Try.prog 40 [(cL [3, 4, 5]).sv, chn 1 ch1] (.tup [I 0, I 18]) := by
  have := c40 (cL [3, 4, 5]) 1 ch1 (by decide) (by decide)
  rwa [x40b] at this
theorem k44 : ContractN Go.Proofs.Try.prog 44 [cA.sv, chn 1 ch1] (.rows 2 1 3 (fun j _ => I (behB cA 1 ch1 (j + 1)))) (.tup [.vec 0 3 1, I 0]) := c44 cA 1 ch1 (by decide) (xask 1 (.inl rfl))
theorem k33a : Contract Go.Proofs.Try.prog 33 [ints 6 (fun j => cA.M (j + 1) - cA.M j), ints 6 cR.u] (B true) := by
  have := c33 6 (fun j => cA.M (j + 1) - cA.M j) 6 cR.u (by decide)
  rwa [decide_eq_true (show sameL 6 (fun j => cA.M (j + 1) - cA.M j) 6 cR.u from ⟨rfl, x31⟩)] at this
theorem k33b : Contract Go.Proofs.Try.prog 33 [ints 6 (fun j => addS cB cR (j + 1) - addS cB cR j), ints 6 cD.u] (B true) := by
  have := c33 6 (fun j => addS cB cR (j + 1) - addS cB cR j) 6 cD.u (by decide)
  rwa [decide_eq_true (show sameL 6 (fun j => addS cB cR (j + 1) - addS cB cR j) 6 cD.u from ⟨rfl, x34.2⟩)] at this
theorem k33c : Contract Go.Proofs.Try.prog 33 [ints 3 (fun j => behB cA 1 ch1 (j + 1)), ints 3 (cL [4, 5, 7]).u] (B true) := by
  have := c33 3 (fun j => behB cA 1 ch1 (j + 1)) 3 (cL [4, 5, 7]).u (by decide)
  rwa [decide_eq_true (show sameL 3 (fun j => behB cA 1 ch1 (j + 1)) 3 (cL [4, 5, 7]).u from ⟨rfl, x44⟩)] at this
theorem c19 : Contract Go.Proofs.Try.prog 19 [] (B true) := by
  refine contract_of Go.Proofs.Try.func19 rfl (by kernel_rfl) follows (by kernel_rfl) _ _ (by rw [Go.Proofs.Try.ntmps19]; simp) (by simp only [OldL, and_self]) ?_
  unfold B
  (repeat' (first | with_reducible refine splitVC_d (fun _ => ?_) (fun _ => ?_) | ((with_reducible refine And.intro ?_ ?_); focus (first | trivial | (simp only [InK]; omega) | omega | (simp only [InK, ne_eq, and_true, true_and]; omega))) | simp -dsimp only [↓RP, RQ0, RQ1, RQ2, RQ3, implies_true, forall_const, Nat.reduceMul, reduceIte, reduceCtorEq, Nat.reduceAdd, Nat.reduceEqDiff, Nat.reduceLT, Nat.reduceLeDiff, TY, Go.Proofs.Try.results19]))
  refine callE (by rfl) (e60 _) fun hp' nid' res ⟨r1, r2, r3⟩ => ?_
  subst r1 r2 r3
  (repeat' (first | with_reducible refine splitVC_d (fun _ => ?_) (fun _ => ?_) | ((with_reducible refine And.intro ?_ ?_); focus (first | trivial | (simp only [InK]; omega) | omega | (simp only [InK, ne_eq, and_true, true_and]; omega))) | simp -dsimp only [↓RP, RQ0, RQ1, RQ2, RQ3, implies_true, forall_const, Nat.reduceMul, reduceIte, reduceCtorEq, Nat.reduceAdd, Nat.reduceEqDiff, Nat.reduceLT, Nat.reduceLeDiff, litR, I, B, Nat.zero_add, Int.reduceEq, decide_true, decide_false, Bool.not_true, Bool.not_false, eq_self, and_self, eq32, TY, Int.toNat_natCast, Go.Proofs.Try.results19]))
  refine callVC k20 (by (simp -dsimp only [↓RP, RQ0, RQ1, RQ2, RQ3, implies_true, forall_const, Nat.reduceMul, reduceIte, reduceCtorEq, Nat.reduceAdd, Nat.reduceEqDiff, Nat.reduceLT, Nat.reduceLeDiff, Curve.sv, ints, I, B]); all_goals (try simp); all_goals first | exact lit_fit _ | exact ⟨lit_fit _, lit_fit _⟩ | exact ⟨lit_fit _, lit_fit _, lit_fit _⟩ | exact lit_at [3, 1, 0, 3, 1, 0] | exact lit_at [0, 2, 2, 0, 2, 2] | exact lit_at [4, 5, 7] | skip) (by (simp -dsimp only [↓RP, RQ0, RQ1, RQ2, RQ3, implies_true, forall_const, Nat.reduceMul, reduceIte, reduceCtorEq, Nat.reduceAdd, Nat.reduceEqDiff, Nat.reduceLT, Nat.reduceLeDiff, I, B])) ?_
  (repeat' (first | with_reducible refine splitVC_d (fun _ => ?_) (fun _ => ?_) | ((with_reducible refine And.intro ?_ ?_); focus (first | trivial | (simp only [InK]; omega) | omega | (simp only [InK, ne_eq, and_true, true_and]; omega))) | simp -dsimp only [↓RP, RQ0, RQ1, RQ2, RQ3, implies_true, forall_const, Nat.reduceMul, reduceIte, reduceCtorEq, Nat.reduceAdd, Nat.reduceEqDiff, Nat.reduceLT, Nat.reduceLeDiff, litR, I, B, Nat.zero_add, Int.reduceEq, decide_true, decide_false, Bool.not_true, Bool.not_false, eq_self, and_self, eq32, TY, Int.toNat_natCast, Go.Proofs.Try.results19]))
  refine callVC k22 (by (simp -dsimp only [↓RP, RQ0, RQ1, RQ2, RQ3, implies_true, forall_const, Nat.reduceMul, reduceIte, reduceCtorEq, Nat.reduceAdd, Nat.reduceEqDiff, Nat.reduceLT, Nat.reduceLeDiff, chn, I, B]); exact ch_fit (b := 10) (by (simp -dsimp only [↓RP, RQ0, RQ1, RQ2, RQ3, implies_true, forall_const, Nat.reduceMul, reduceIte, reduceCtorEq, Nat.reduceAdd, Nat.reduceEqDiff, Nat.reduceLT, Nat.reduceLeDiff, Curve.sv, ints]); all_goals (try simp); all_goals exact lit_fit _) (fun i hi => by rcases i with _ | _ | i <;> first | rfl | omega)) (by (simp -dsimp only [↓RP, RQ0, RQ1, RQ2, RQ3, implies_true, forall_const, Nat.reduceMul, reduceIte, reduceCtorEq, Nat.reduceAdd, Nat.reduceEqDiff, Nat.reduceLT, Nat.reduceLeDiff, I, B])) ?_
  (repeat' (first | with_reducible refine splitVC_d (fun _ => ?_) (fun _ => ?_) | ((with_reducible refine And.intro ?_ ?_); focus (first | trivial | (simp only [InK]; omega) | omega | (simp only [InK, ne_eq, and_true, true_and]; omega))) | simp -dsimp only [↓RP, RQ0, RQ1, RQ2, RQ3, implies_true, forall_const, Nat.reduceMul, reduceIte, reduceCtorEq, Nat.reduceAdd, Nat.reduceEqDiff, Nat.reduceLT, Nat.reduceLeDiff, litR, I, B, Nat.zero_add, Int.reduceEq, decide_true, decide_false, Bool.not_true, Bool.not_false, eq_self, and_self, eq32, TY, Int.toNat_natCast, Go.Proofs.Try.results19]))
  refine callVC k24 (by (simp -dsimp only [↓RP, RQ0, RQ1, RQ2, RQ3, implies_true, forall_const, Nat.reduceMul, reduceIte, reduceCtorEq, Nat.reduceAdd, Nat.reduceEqDiff, Nat.reduceLT, Nat.reduceLeDiff, Curve.sv, ints, I, B]); all_goals (try simp); all_goals first | exact lit_fit _ | exact ⟨lit_fit _, lit_fit _⟩ | exact ⟨lit_fit _, lit_fit _, lit_fit _⟩ | exact lit_at [3, 1, 0, 3, 1, 0] | exact lit_at [0, 2, 2, 0, 2, 2] | exact lit_at [4, 5, 7] | skip) (by (simp -dsimp only [↓RP, RQ0, RQ1, RQ2, RQ3, implies_true, forall_const, Nat.reduceMul, reduceIte, reduceCtorEq, Nat.reduceAdd, Nat.reduceEqDiff, Nat.reduceLT, Nat.reduceLeDiff, I, B])) ?_
  (repeat' (first | with_reducible refine splitVC_d (fun _ => ?_) (fun _ => ?_) | ((with_reducible refine And.intro ?_ ?_); focus (first | trivial | (simp only [InK]; omega) | omega | (simp only [InK, ne_eq, and_true, true_and]; omega))) | simp -dsimp only [↓RP, RQ0, RQ1, RQ2, RQ3, implies_true, forall_const, Nat.reduceMul, reduceIte, reduceCtorEq, Nat.reduceAdd, Nat.reduceEqDiff, Nat.reduceLT, Nat.reduceLeDiff, litR, I, B, Nat.zero_add, Int.reduceEq, decide_true, decide_false, Bool.not_true, Bool.not_false, eq_self, and_self, eq32, TY, Int.toNat_natCast, Go.Proofs.Try.results19]))
  refine callVC k29 (by (simp -dsimp only [↓RP, RQ0, RQ1, RQ2, RQ3, implies_true, forall_const, Nat.reduceMul, reduceIte, reduceCtorEq, Nat.reduceAdd, Nat.reduceEqDiff, Nat.reduceLT, Nat.reduceLeDiff, Curve.sv, ints, I, B]); all_goals (try simp); all_goals first | exact lit_fit _ | exact ⟨lit_fit _, lit_fit _⟩ | exact ⟨lit_fit _, lit_fit _, lit_fit _⟩ | exact lit_at [3, 1, 0, 3, 1, 0] | exact lit_at [0, 2, 2, 0, 2, 2] | exact lit_at [4, 5, 7] | skip) (by (simp -dsimp only [↓RP, RQ0, RQ1, RQ2, RQ3, implies_true, forall_const, Nat.reduceMul, reduceIte, reduceCtorEq, Nat.reduceAdd, Nat.reduceEqDiff, Nat.reduceLT, Nat.reduceLeDiff, I, B])) ?_
  (repeat' (first | with_reducible refine splitVC_d (fun _ => ?_) (fun _ => ?_) | ((with_reducible refine And.intro ?_ ?_); focus (first | trivial | (simp only [InK]; omega) | omega | (simp only [InK, ne_eq, and_true, true_and]; omega))) | simp -dsimp only [↓RP, RQ0, RQ1, RQ2, RQ3, implies_true, forall_const, Nat.reduceMul, reduceIte, reduceCtorEq, Nat.reduceAdd, Nat.reduceEqDiff, Nat.reduceLT, Nat.reduceLeDiff, litR, I, B, Nat.zero_add, Int.reduceEq, decide_true, decide_false, Bool.not_true, Bool.not_false, eq_self, and_self, eq32, TY, Int.toNat_natCast, Go.Proofs.Try.results19]))
  refine callE (by rfl) (e61 _ _ _ _) fun hp' nid' res ⟨r1, r2, r3⟩ => ?_
  subst r1 r2 r3
  (repeat' (first | with_reducible refine splitVC_d (fun _ => ?_) (fun _ => ?_) | ((with_reducible refine And.intro ?_ ?_); focus (first | trivial | (simp only [InK]; omega) | omega | (simp only [InK, ne_eq, and_true, true_and]; omega))) | simp -dsimp only [↓RP, RQ0, RQ1, RQ2, RQ3, implies_true, forall_const, Nat.reduceMul, reduceIte, reduceCtorEq, Nat.reduceAdd, Nat.reduceEqDiff, Nat.reduceLT, Nat.reduceLeDiff, litR, I, B, Nat.zero_add, Int.reduceEq, decide_true, decide_false, Bool.not_true, Bool.not_false, eq_self, and_self, eq32, TY, Int.toNat_natCast, Go.Proofs.Try.results19]))
  refine callVC k29b (by (simp -dsimp only [↓RP, RQ0, RQ1, RQ2, RQ3, implies_true, forall_const, Nat.reduceMul, reduceIte, reduceCtorEq, Nat.reduceAdd, Nat.reduceEqDiff, Nat.reduceLT, Nat.reduceLeDiff, Curve.sv, ints, I, B]); all_goals (try simp); all_goals first | exact lit_fit _ | exact ⟨lit_fit _, lit_fit _⟩ | exact ⟨lit_fit _, lit_fit _, lit_fit _⟩ | exact lit_at [3, 1, 0, 3, 1, 0] | exact lit_at [0, 2, 2, 0, 2, 2] | exact lit_at [4, 5, 7] | skip) (by (simp -dsimp only [↓RP, RQ0, RQ1, RQ2, RQ3, implies_true, forall_const, Nat.reduceMul, reduceIte, reduceCtorEq, Nat.reduceAdd, Nat.reduceEqDiff, Nat.reduceLT, Nat.reduceLeDiff, I, B])) ?_
  (repeat' (first | with_reducible refine splitVC_d (fun _ => ?_) (fun _ => ?_) | ((with_reducible refine And.intro ?_ ?_); focus (first | trivial | (simp only [InK]; omega) | omega | (simp only [InK, ne_eq, and_true, true_and]; omega))) | simp -dsimp only [↓RP, RQ0, RQ1, RQ2, RQ3, implies_true, forall_const, Nat.reduceMul, reduceIte, reduceCtorEq, Nat.reduceAdd, Nat.reduceEqDiff, Nat.reduceLT, Nat.reduceLeDiff, litR, I, B, Nat.zero_add, Int.reduceEq, decide_true, decide_false, Bool.not_true, Bool.not_false, eq_self, and_self, eq32, TY, Int.toNat_natCast, Go.Proofs.Try.results19]))
  refine callN k31 (by (simp -dsimp only [↓RP, RQ0, RQ1, RQ2, RQ3, implies_true, forall_const, Nat.reduceMul, reduceIte, reduceCtorEq, Nat.reduceAdd, Nat.reduceEqDiff, Nat.reduceLT, Nat.reduceLeDiff, Curve.sv, ints, I, B]); all_goals (try simp); all_goals first | exact lit_fit _ | exact ⟨lit_fit _, lit_fit _⟩ | exact ⟨lit_fit _, lit_fit _, lit_fit _⟩ | exact lit_at [3, 1, 0, 3, 1, 0] | exact lit_at [0, 2, 2, 0, 2, 2] | exact lit_at [4, 5, 7] | skip) (by (simp -dsimp only [↓RP, RQ0, RQ1, RQ2, RQ3, implies_true, forall_const, Nat.reduceMul, reduceIte, reduceCtorEq, Nat.reduceAdd, Nat.reduceEqDiff, Nat.reduceLT, Nat.reduceLeDiff, I, B]); all_goals simp) (by (simp -dsimp only [↓RP, RQ0, RQ1, RQ2, RQ3, implies_true, forall_const, Nat.reduceMul, reduceIte, reduceCtorEq, Nat.reduceAdd, Nat.reduceEqDiff, Nat.reduceLT, Nat.reduceLeDiff, I, B]); all_goals simp) ?_
  (repeat' (first | with_reducible refine splitVC_d (fun _ => ?_) (fun _ => ?_) | ((with_reducible refine And.intro ?_ ?_); focus (first | trivial | (simp only [InK]; omega) | omega | (simp only [InK, ne_eq, and_true, true_and]; omega))) | simp -dsimp only [↓RP, RQ0, RQ1, RQ2, RQ3, implies_true, forall_const, Nat.reduceMul, reduceIte, reduceCtorEq, Nat.reduceAdd, Nat.reduceEqDiff, Nat.reduceLT, Nat.reduceLeDiff, litR, I, B, Nat.zero_add, Int.reduceEq, decide_true, decide_false, Bool.not_true, Bool.not_false, eq_self, and_self, eq32, TY, Int.toNat_natCast, Go.Proofs.Try.results19]))
  refine callN k34 (by (simp -dsimp only [↓RP, RQ0, RQ1, RQ2, RQ3, implies_true, forall_const, Nat.reduceMul, reduceIte, reduceCtorEq, Nat.reduceAdd, Nat.reduceEqDiff, Nat.reduceLT, Nat.reduceLeDiff, Curve.sv, ints, I, B]); all_goals (try simp); all_goals first | exact lit_fit _ | exact ⟨lit_fit _, lit_fit _⟩ | exact ⟨lit_fit _, lit_fit _, lit_fit _⟩ | exact lit_at [3, 1, 0, 3, 1, 0] | exact lit_at [0, 2, 2, 0, 2, 2] | exact lit_at [4, 5, 7] | skip) (by (simp -dsimp only [↓RP, RQ0, RQ1, RQ2, RQ3, implies_true, forall_const, Nat.reduceMul, reduceIte, reduceCtorEq, Nat.reduceAdd, Nat.reduceEqDiff, Nat.reduceLT, Nat.reduceLeDiff, I, B]); all_goals simp) (by (simp -dsimp only [↓RP, RQ0, RQ1, RQ2, RQ3, implies_true, forall_const, Nat.reduceMul, reduceIte, reduceCtorEq, Nat.reduceAdd, Nat.reduceEqDiff, Nat.reduceLT, Nat.reduceLeDiff, I, B]); all_goals simp) ?_
  (repeat' (first | with_reducible refine splitVC_d (fun _ => ?_) (fun _ => ?_) | ((with_reducible refine And.intro ?_ ?_); focus (first | trivial | (simp only [InK]; omega) | omega | (simp only [InK, ne_eq, and_true, true_and]; omega))) | simp -dsimp only [↓RP, RQ0, RQ1, RQ2, RQ3, implies_true, forall_const, Nat.reduceMul, reduceIte, reduceCtorEq, Nat.reduceAdd, Nat.reduceEqDiff, Nat.reduceLT, Nat.reduceLeDiff, litR, I, B, Nat.zero_add, Int.reduceEq, decide_true, decide_false, Bool.not_true, Bool.not_false, eq_self, and_self, eq32, TY, Int.toNat_natCast, Go.Proofs.Try.results19]))
  refine callE (by rfl) (e61 _ _ _ _) fun hp' nid' res ⟨r1, r2, r3⟩ => ?_
  subst r1 r2 r3
  (repeat' (first | with_reducible refine splitVC_d (fun _ => ?_) (fun _ => ?_) | ((with_reducible refine And.intro ?_ ?_); focus (first | trivial | (simp only [InK]; omega) | omega | (simp only [InK, ne_eq, and_true, true_and]; omega))) | simp -dsimp only [↓RP, RQ0, RQ1, RQ2, RQ3, implies_true, forall_const, Nat.reduceMul, reduceIte, reduceCtorEq, Nat.reduceAdd, Nat.reduceEqDiff, Nat.reduceLT, Nat.reduceLeDiff, litR, I, B, Nat.zero_add, Int.reduceEq, decide_true, decide_false, Bool.not_true, Bool.not_false, eq_self, and_self, eq32, TY, Int.toNat_natCast, Go.Proofs.Try.results19]))
  refine callVC k38 (by (simp -dsimp only [↓RP, RQ0, RQ1, RQ2, RQ3, implies_true, forall_const, Nat.reduceMul, reduceIte, reduceCtorEq, Nat.reduceAdd, Nat.reduceEqDiff, Nat.reduceLT, Nat.reduceLeDiff, Curve.sv, ints, I, B]); all_goals (try simp); all_goals first | exact lit_fit _ | exact ⟨lit_fit _, lit_fit _⟩ | exact ⟨lit_fit _, lit_fit _, lit_fit _⟩ | exact lit_at [3, 1, 0, 3, 1, 0] | exact lit_at [0, 2, 2, 0, 2, 2] | exact lit_at [4, 5, 7] | skip) (by (simp -dsimp only [↓RP, RQ0, RQ1, RQ2, RQ3, implies_true, forall_const, Nat.reduceMul, reduceIte, reduceCtorEq, Nat.reduceAdd, Nat.reduceEqDiff, Nat.reduceLT, Nat.reduceLeDiff, I, B])) ?_
  (repeat' (first | with_reducible refine splitVC_d (fun _ => ?_) (fun _ => ?_) | ((with_reducible refine And.intro ?_ ?_); focus (first | trivial | (simp only [InK]; omega) | omega | (simp only [InK, ne_eq, and_true, true_and]; omega))) | simp -dsimp only [↓RP, RQ0, RQ1, RQ2, RQ3, implies_true, forall_const, Nat.reduceMul, reduceIte, reduceCtorEq, Nat.reduceAdd, Nat.reduceEqDiff, Nat.reduceLT, Nat.reduceLeDiff, litR, I, B, Nat.zero_add, Int.reduceEq, decide_true, decide_false, Bool.not_true, Bool.not_false, eq_self, and_self, eq32, TY, Int.toNat_natCast, Go.Proofs.Try.results19]))
  refine callE (by rfl) (e61 _ _ _ _) fun hp' nid' res ⟨r1, r2, r3⟩ => ?_
  subst r1 r2 r3
  (repeat' (first | with_reducible refine splitVC_d (fun _ => ?_) (fun _ => ?_) | ((with_reducible refine And.intro ?_ ?_); focus (first | trivial | (simp only [InK]; omega) | omega | (simp only [InK, ne_eq, and_true, true_and]; omega))) | simp -dsimp only [↓RP, RQ0, RQ1, RQ2, RQ3, implies_true, forall_const, Nat.reduceMul, reduceIte, reduceCtorEq, Nat.reduceAdd, Nat.reduceEqDiff, Nat.reduceLT, Nat.reduceLeDiff, litR, I, B, Nat.zero_add, Int.reduceEq, decide_true, decide_false, Bool.not_true, Bool.not_false, eq_self, and_self, eq32, TY, Int.toNat_natCast, Go.Proofs.Try.results19]))
  refine callVC k36 (by (simp -dsimp only [↓RP, RQ0, RQ1, RQ2, RQ3, implies_true, forall_const, Nat.reduceMul, reduceIte, reduceCtorEq, Nat.reduceAdd, Nat.reduceEqDiff, Nat.reduceLT, Nat.reduceLeDiff, Curve.sv, ints, I, B]); all_goals (try simp); all_goals first | exact lit_fit _ | exact ⟨lit_fit _, lit_fit _⟩ | exact ⟨lit_fit _, lit_fit _, lit_fit _⟩ | exact lit_at [3, 1, 0, 3, 1, 0] | exact lit_at [0, 2, 2, 0, 2, 2] | exact lit_at [4, 5, 7] | skip) (by (simp -dsimp only [↓RP, RQ0, RQ1, RQ2, RQ3, implies_true, forall_const, Nat.reduceMul, reduceIte, reduceCtorEq, Nat.reduceAdd, Nat.reduceEqDiff, Nat.reduceLT, Nat.reduceLeDiff, I, B])) ?_
  (repeat' (first | with_reducible refine splitVC_d (fun _ => ?_) (fun _ => ?_) | ((with_reducible refine And.intro ?_ ?_); focus (first | trivial | (simp only [InK]; omega) | omega | (simp only [InK, ne_eq, and_true, true_and]; omega))) | simp -dsimp only [↓RP, RQ0, RQ1, RQ2, RQ3, implies_true, forall_const, Nat.reduceMul, reduceIte, reduceCtorEq, Nat.reduceAdd, Nat.reduceEqDiff, Nat.reduceLT, Nat.reduceLeDiff, litR, I, B, Nat.zero_add, Int.reduceEq, decide_true, decide_false, Bool.not_true, Bool.not_false, eq_self, and_self, eq32, TY, Int.toNat_natCast, Go.Proofs.Try.results19]))
  refine callVC k40 (by (simp -dsimp only [↓RP, RQ0, RQ1, RQ2, RQ3, implies_true, forall_const, Nat.reduceMul, reduceIte, reduceCtorEq, Nat.reduceAdd, Nat.reduceEqDiff, Nat.reduceLT, Nat.reduceLeDiff, chn, Curve.sv, ints, I, B]); refine ⟨by simp; exact lit_fit _, ?_⟩; refine ch_fit (b := 10) ?h ?hl; (case h => ((simp -dsimp only [↓RP, RQ0, RQ1, RQ2, RQ3, implies_true, forall_const, Nat.reduceMul, reduceIte, reduceCtorEq, Nat.reduceAdd, Nat.reduceEqDiff, Nat.reduceLT, Nat.reduceLeDiff, Curve.sv, ints]); all_goals (try simp); all_goals exact lit_fit _)); (case hl => intro i hi; rcases i with _ | _ | i <;> first | rfl | omega)) (by (simp -dsimp only [↓RP, RQ0, RQ1, RQ2, RQ3, implies_true, forall_const, Nat.reduceMul, reduceIte, reduceCtorEq, Nat.reduceAdd, Nat.reduceEqDiff, Nat.reduceLT, Nat.reduceLeDiff, I, B])) ?_
  (repeat' (first | with_reducible refine splitVC_d (fun _ => ?_) (fun _ => ?_) | ((with_reducible refine And.intro ?_ ?_); focus (first | trivial | (simp only [InK]; omega) | omega | (simp only [InK, ne_eq, and_true, true_and]; omega))) | simp -dsimp only [↓RP, RQ0, RQ1, RQ2, RQ3, implies_true, forall_const, Nat.reduceMul, reduceIte, reduceCtorEq, Nat.reduceAdd, Nat.reduceEqDiff, Nat.reduceLT, Nat.reduceLeDiff, litR, I, B, Nat.zero_add, Int.reduceEq, decide_true, decide_false, Bool.not_true, Bool.not_false, eq_self, and_self, eq32, TY, Int.toNat_natCast, Go.Proofs.Try.results19]))
  refine callVC k42 (by (simp -dsimp only [↓RP, RQ0, RQ1, RQ2, RQ3, implies_true, forall_const, Nat.reduceMul, reduceIte, reduceCtorEq, Nat.reduceAdd, Nat.reduceEqDiff, Nat.reduceLT, Nat.reduceLeDiff, chn, Curve.sv, ints, I, B]); refine ⟨by simp; exact lit_fit _, ?_⟩; refine ch_fit (b := 10) ?h ?hl; (case h => ((simp -dsimp only [↓RP, RQ0, RQ1, RQ2, RQ3, implies_true, forall_const, Nat.reduceMul, reduceIte, reduceCtorEq, Nat.reduceAdd, Nat.reduceEqDiff, Nat.reduceLT, Nat.reduceLeDiff, Curve.sv, ints]); all_goals (try simp); all_goals exact lit_fit _)); (case hl => intro i hi; rcases i with _ | _ | i <;> first | rfl | omega)) (by (simp -dsimp only [↓RP, RQ0, RQ1, RQ2, RQ3, implies_true, forall_const, Nat.reduceMul, reduceIte, reduceCtorEq, Nat.reduceAdd, Nat.reduceEqDiff, Nat.reduceLT, Nat.reduceLeDiff, I, B])) ?_
  (repeat' (first | with_reducible refine splitVC_d (fun _ => ?_) (fun _ => ?_) | ((with_reducible refine And.intro ?_ ?_); focus (first | trivial | (simp only [InK]; omega) | omega | (simp only [InK, ne_eq, and_true, true_and]; omega))) | simp -dsimp only [↓RP, RQ0, RQ1, RQ2, RQ3, implies_true, forall_const, Nat.reduceMul, reduceIte, reduceCtorEq, Nat.reduceAdd, Nat.reduceEqDiff, Nat.reduceLT, Nat.reduceLeDiff, litR, I, B, Nat.zero_add, Int.reduceEq, decide_true, decide_false, Bool.not_true, Bool.not_false, eq_self, and_self, eq32, TY, Int.toNat_natCast, Go.Proofs.Try.results19]))
  refine callE (by rfl) (e61 _ _ _ _) fun hp' nid' res ⟨r1, r2, r3⟩ => ?_
  subst r1 r2 r3
  (repeat' (first | with_reducible refine splitVC_d (fun _ => ?_) (fun _ => ?_) | ((with_reducible refine And.intro ?_ ?_); focus (first | trivial | (simp only [InK]; omega) | omega | (simp only [InK, ne_eq, and_true, true_and]; omega))) | simp -dsimp only [↓RP, RQ0, RQ1, RQ2, RQ3, implies_true, forall_const, Nat.reduceMul, reduceIte, reduceCtorEq, Nat.reduceAdd, Nat.reduceEqDiff, Nat.reduceLT, Nat.reduceLeDiff, litR, I, B, Nat.zero_add, Int.reduceEq, decide_true, decide_false, Bool.not_true, Bool.not_false, eq_self, and_self, eq32, TY, Int.toNat_natCast, Go.Proofs.Try.results19]))
  refine callVC k40b (by (simp -dsimp only [↓RP, RQ0, RQ1, RQ2, RQ3, implies_true, forall_const, Nat.reduceMul, reduceIte, reduceCtorEq, Nat.reduceAdd, Nat.reduceEqDiff, Nat.reduceLT, Nat.reduceLeDiff, chn, Curve.sv, ints, I, B]); refine ⟨by simp; exact lit_fit _, ?_⟩; refine ch_fit (b := 10) ?h ?hl; (case h => ((simp -dsimp only [↓RP, RQ0, RQ1, RQ2, RQ3, implies_true, forall_const, Nat.reduceMul, reduceIte, reduceCtorEq, Nat.reduceAdd, Nat.reduceEqDiff, Nat.reduceLT, Nat.reduceLeDiff, Curve.sv, ints]); all_goals (try simp); all_goals exact lit_fit _)); (case hl => intro i hi; rcases i with _ | _ | i <;> first | rfl | omega)) (by (simp -dsimp only [↓RP, RQ0, RQ1, RQ2, RQ3, implies_true, forall_const, Nat.reduceMul, reduceIte, reduceCtorEq, Nat.reduceAdd, Nat.reduceEqDiff, Nat.reduceLT, Nat.reduceLeDiff, I, B])) ?_
  (repeat' (first | with_reducible refine splitVC_d (fun _ => ?_) (fun _ => ?_) | ((with_reducible refine And.intro ?_ ?_); focus (first | trivial | (simp only [InK]; omega) | omega | (simp only [InK, ne_eq, and_true, true_and]; omega))) | simp -dsimp only [↓RP, RQ0, RQ1, RQ2, RQ3, implies_true, forall_const, Nat.reduceMul, reduceIte, reduceCtorEq, Nat.reduceAdd, Nat.reduceEqDiff, Nat.reduceLT, Nat.reduceLeDiff, litR, I, B, Nat.zero_add, Int.reduceEq, decide_true, decide_false, Bool.not_true, Bool.not_false, eq_self, and_self, eq32, TY, Int.toNat_natCast, Go.Proofs.Try.results19]))
  refine callN k44 (by (simp -dsimp only [↓RP, RQ0, RQ1, RQ2, RQ3, implies_true, forall_const, Nat.reduceMul, reduceIte, reduceCtorEq, Nat.reduceAdd, Nat.reduceEqDiff, Nat.reduceLT, Nat.reduceLeDiff, chn, Curve.sv, ints, I, B]); refine ⟨by simp; exact lit_fit _, ?_⟩; refine ch_fit (b := 10) ?h ?hl; (case h => ((simp -dsimp only [↓RP, RQ0, RQ1, RQ2, RQ3, implies_true, forall_const, Nat.reduceMul, reduceIte, reduceCtorEq, Nat.reduceAdd, Nat.reduceEqDiff, Nat.reduceLT, Nat.reduceLeDiff, Curve.sv, ints]); all_goals (try simp); all_goals exact lit_fit _)); (case hl => intro i hi; rcases i with _ | _ | i <;> first | rfl | omega)) (by (simp -dsimp only [↓RP, RQ0, RQ1, RQ2, RQ3, implies_true, forall_const, Nat.reduceMul, reduceIte, reduceCtorEq, Nat.reduceAdd, Nat.reduceEqDiff, Nat.reduceLT, Nat.reduceLeDiff, I, B]); all_goals simp) (by (simp -dsimp only [↓RP, RQ0, RQ1, RQ2, RQ3, implies_true, forall_const, Nat.reduceMul, reduceIte, reduceCtorEq, Nat.reduceAdd, Nat.reduceEqDiff, Nat.reduceLT, Nat.reduceLeDiff, I, B]); all_goals simp) ?_
  (repeat' (first | with_reducible refine splitVC_d (fun _ => ?_) (fun _ => ?_) | ((with_reducible refine And.intro ?_ ?_); focus (first | trivial | (simp only [InK]; omega) | omega | (simp only [InK, ne_eq, and_true, true_and]; omega))) | simp -dsimp (config := { maxSteps := 2000000 }) only [↓RP, RQ0, RQ1, RQ2, RQ3, implies_true, forall_const, Nat.reduceMul, reduceIte, reduceCtorEq, Nat.reduceAdd, Nat.reduceEqDiff, Nat.reduceLT, Nat.reduceLeDiff, litR, I, B, Nat.zero_add, Int.reduceEq, decide_true, decide_false, Bool.not_true, Bool.not_false, eq_self, and_self, eq32, TY, Int.toNat_natCast, Go.Proofs.Try.results19]))
  refine callVC k33a (by (simp -dsimp only [↓RP, RQ0, RQ1, RQ2, RQ3, implies_true, forall_const, Nat.reduceMul, reduceIte, reduceCtorEq, Nat.reduceAdd, Nat.reduceEqDiff, Nat.reduceLT, Nat.reduceLeDiff, Curve.sv, ints, I, B]); all_goals (try simp); all_goals first | exact lit_fit _ | exact ⟨lit_fit _, lit_fit _⟩ | exact ⟨lit_fit _, lit_fit _, lit_fit _⟩ | exact lit_at [3, 1, 0, 3, 1, 0] | exact lit_at [0, 2, 2, 0, 2, 2] | exact lit_at [4, 5, 7] | skip) (by (simp -dsimp only [↓RP, RQ0, RQ1, RQ2, RQ3, implies_true, forall_const, Nat.reduceMul, reduceIte, reduceCtorEq, Nat.reduceAdd, Nat.reduceEqDiff, Nat.reduceLT, Nat.reduceLeDiff, I, B])) ?_
  (repeat' (first | with_reducible refine splitVC_d (fun _ => ?_) (fun _ => ?_) | ((with_reducible refine And.intro ?_ ?_); focus (first | trivial | (simp only [InK]; omega) | omega | (simp only [InK, ne_eq, and_true, true_and]; omega))) | simp -dsimp (config := { maxSteps := 2000000 }) only [↓RP, RQ0, RQ1, RQ2, RQ3, implies_true, forall_const, Nat.reduceMul, reduceIte, reduceCtorEq, Nat.reduceAdd, Nat.reduceEqDiff, Nat.reduceLT, Nat.reduceLeDiff, litR, I, B, Nat.zero_add, Int.reduceEq, decide_true, decide_false, Bool.not_true, Bool.not_false, eq_self, and_self, eq32, TY, Int.toNat_natCast, Go.Proofs.Try.results19]))
  refine callE (by rfl) (e61 _ _ _ _) fun hp' nid' res ⟨r1, r2, r3⟩ => ?_
  subst r1 r2 r3
  (repeat' (first | with_reducible refine splitVC_d (fun _ => ?_) (fun _ => ?_) | ((with_reducible refine And.intro ?_ ?_); focus (first | trivial | (simp only [InK]; omega) | omega | (simp only [InK, ne_eq, and_true, true_and]; omega))) | simp -dsimp (config := { maxSteps := 2000000 }) only [↓RP, RQ0, RQ1, RQ2, RQ3, implies_true, forall_const, Nat.reduceMul, reduceIte, reduceCtorEq, Nat.reduceAdd, Nat.reduceEqDiff, Nat.reduceLT, Nat.reduceLeDiff, litR, I, B, Nat.zero_add, Int.reduceEq, decide_true, decide_false, Bool.not_true, Bool.not_false, eq_self, and_self, eq32, TY, Int.toNat_natCast, Go.Proofs.Try.results19]))
  refine callVC k33b (by (simp -dsimp only [↓RP, RQ0, RQ1, RQ2, RQ3, implies_true, forall_const, Nat.reduceMul, reduceIte, reduceCtorEq, Nat.reduceAdd, Nat.reduceEqDiff, Nat.reduceLT, Nat.reduceLeDiff, Curve.sv, ints, I, B]); all_goals (try simp); all_goals first | exact lit_fit _ | exact ⟨lit_fit _, lit_fit _⟩ | exact ⟨lit_fit _, lit_fit _, lit_fit _⟩ | exact lit_at [3, 1, 0, 3, 1, 0] | exact lit_at [0, 2, 2, 0, 2, 2] | exact lit_at [4, 5, 7] | skip) (by (simp -dsimp only [↓RP, RQ0, RQ1, RQ2, RQ3, implies_true, forall_const, Nat.reduceMul, reduceIte, reduceCtorEq, Nat.reduceAdd, Nat.reduceEqDiff, Nat.reduceLT, Nat.reduceLeDiff, I, B])) ?_
  (repeat' (first | with_reducible refine splitVC_d (fun _ => ?_) (fun _ => ?_) | ((with_reducible refine And.intro ?_ ?_); focus (first | trivial | (simp only [InK]; omega) | omega | (simp only [InK, ne_eq, and_true, true_and]; omega))) | simp -dsimp (config := { maxSteps := 2000000 }) only [↓RP, RQ0, RQ1, RQ2, RQ3, implies_true, forall_const, Nat.reduceMul, reduceIte, reduceCtorEq, Nat.reduceAdd, Nat.reduceEqDiff, Nat.reduceLT, Nat.reduceLeDiff, litR, I, B, Nat.zero_add, Int.reduceEq, decide_true, decide_false, Bool.not_true, Bool.not_false, eq_self, and_self, eq32, TY, Int.toNat_natCast, Go.Proofs.Try.results19]))
  refine callE (by rfl) (e61 _ _ _ _) fun hp' nid' res ⟨r1, r2, r3⟩ => ?_
  subst r1 r2 r3
  (repeat' (first | with_reducible refine splitVC_d (fun _ => ?_) (fun _ => ?_) | ((with_reducible refine And.intro ?_ ?_); focus (first | trivial | (simp only [InK]; omega) | omega | (simp only [InK, ne_eq, and_true, true_and]; omega))) | simp -dsimp (config := { maxSteps := 2000000 }) only [↓RP, RQ0, RQ1, RQ2, RQ3, implies_true, forall_const, Nat.reduceMul, reduceIte, reduceCtorEq, Nat.reduceAdd, Nat.reduceEqDiff, Nat.reduceLT, Nat.reduceLeDiff, litR, I, B, Nat.zero_add, Int.reduceEq, decide_true, decide_false, Bool.not_true, Bool.not_false, eq_self, and_self, eq32, TY, Int.toNat_natCast, Go.Proofs.Try.results19]))
  refine callVC k33c (by (simp -dsimp only [↓RP, RQ0, RQ1, RQ2, RQ3, implies_true, forall_const, Nat.reduceMul, reduceIte, reduceCtorEq, Nat.reduceAdd, Nat.reduceEqDiff, Nat.reduceLT, Nat.reduceLeDiff, Curve.sv, ints, I, B]); all_goals (try simp); all_goals first | exact lit_fit _ | exact ⟨lit_fit _, lit_fit _⟩ | exact ⟨lit_fit _, lit_fit _, lit_fit _⟩ | exact lit_at [3, 1, 0, 3, 1, 0] | exact lit_at [0, 2, 2, 0, 2, 2] | exact lit_at [4, 5, 7] | skip) (by (simp -dsimp only [↓RP, RQ0, RQ1, RQ2, RQ3, implies_true, forall_const, Nat.reduceMul, reduceIte, reduceCtorEq, Nat.reduceAdd, Nat.reduceEqDiff, Nat.reduceLT, Nat.reduceLeDiff, I, B])) ?_
  (repeat' (first | with_reducible refine splitVC_d (fun _ => ?_) (fun _ => ?_) | ((with_reducible refine And.intro ?_ ?_); focus (first | trivial | (simp only [InK]; omega) | omega | (simp only [InK, ne_eq, and_true, true_and]; omega))) | simp -dsimp (config := { maxSteps := 2000000 }) only [↓RP, RQ0, RQ1, RQ2, RQ3, implies_true, forall_const, Nat.reduceMul, reduceIte, reduceCtorEq, Nat.reduceAdd, Nat.reduceEqDiff, Nat.reduceLT, Nat.reduceLeDiff, litR, I, B, Nat.zero_add, Int.reduceEq, decide_true, decide_false, Bool.not_true, Bool.not_false, eq_self, and_self, eq32, TY, Int.toNat_natCast, Go.Proofs.Try.results19]))
end Go.Lg
end
