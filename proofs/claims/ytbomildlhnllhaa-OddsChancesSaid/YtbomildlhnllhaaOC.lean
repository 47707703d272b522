/- A part of the proof. -/
import Derived.Test.YtbomildlhnllhaaOB
import Derived.Test.YtbomildlhnllhaaEF
section
set_option linter.unusedSimpArgs false
set_option linter.unusedVariables false
set_option linter.defProp false
set_option maxRecDepth 100000
set_option maxHeartbeats 16000000
namespace Go.Od
open Go.Proofs
open Go.Sx
theorem ty34 : tyOf Try.prog 34 = some ⟨false, 1, some [.slice none 0 0], .slice 66 2⟩ := by kernel_rfl
theorem ty36 : tyOf Try.prog 36 = some ⟨true, 2, some [.slice none 0 0, .int .i64 0], .struct [(0, 1, some false), (1, 1, some false)]⟩ := by kernel_rfl
theorem ty66 : tyOf Try.prog 66 = some ⟨true, 2, some [.int .i64 0, .int .i64 0], .struct [(0, 1, some false), (1, 1, some false)]⟩ := by kernel_rfl
theorem pl36 : placesOf Try.prog 36 = some [(0, 1), (1, 1)] := by kernel_rfl
theorem pl66 : placesOf Try.prog 66 = some [(0, 1), (1, 1)] := by kernel_rfl
theorem TYp : True ∧ tyOf Try.prog 34 = some ⟨false, 1, some [.slice none 0 0], .slice 66 2⟩ ∧ tyOf Try.prog 36 = some ⟨true, 2, some [.slice none 0 0, .int .i64 0], .struct [(0, 1, some false), (1, 1, some false)]⟩ ∧ tyOf Try.prog 66 = some ⟨true, 2, some [.int .i64 0, .int .i64 0], .struct [(0, 1, some false), (1, 1, some false)]⟩ ∧ placesOf Try.prog 36 = some [(0, 1), (1, 1)] ∧ placesOf Try.prog 66 = some [(0, 1), (1, 1)] := ⟨trivial, ty34, ty36, ty66, pl36, pl66⟩
structure Pl where
 n : Nat
 lo : Nat → Int
 hi : Nat → Int
 cut : Int
def rngs (n : Nat) (lo hi : Nat → Int) : SV := .arr false false n 2 (fun i j => .val (.int .i64 (if j = 0 then lo i else hi i)))
def Pl.sv (p : Pl) : SV := .agg [rngs p.n p.lo p.hi, I p.cut]
theorem Pl.old (p : Pl) : Old p.sv := by simp [Old, OldL, Pl.sv, rngs, I]
def allR (lo hi : Nat → Int) (m : Nat) : Prop := ∀ i, i < m → 0 ≤ lo i ∧ lo i ≤ hi i ∧ hi i ≤ 1000000
instance (lo hi : Nat → Int) (m : Nat) : Decidable (allR lo hi m) := by unfold allR; infer_instance
def Pl.err (p : Pl) : Int := if p.n < 1 ∨ 8 < p.n then 6 else if allR p.lo p.hi p.n ∧ (0 ≤ p.cut ∧ p.cut ≤ 500) then 0 else 3
structure Pl.Fine (p : Pl) : Prop where
 n1 : 1 ≤ p.n
 n8 : p.n ≤ 8
 rg : allR p.lo p.hi p.n
 c0 : 0 ≤ p.cut
 c1 : p.cut ≤ 500
theorem Pl.fine {p : Pl} (h : p.err = 0) : p.Fine := by
 unfold Pl.err at h
 split at h
 ·cases h
 ·rename_i h1
  split at h
  ·rename_i h2; exact ⟨by omega, by omega, h2.1, h2.2.1, h2.2.2⟩
  ·cases h
theorem Pl.Fine.err {p : Pl} (h : p.Fine) : p.err = 0 := by
 have := h.n1; have := h.n8
 unfold Pl.err; rw [if_neg (by omega), if_pos ⟨h.rg, h.c0, h.c1⟩]
def badR (lo hi : Int) : Prop := hi < lo ∨ ¬ ((0 ≤ lo ∧ lo ≤ 1000000) ∧ (0 ≤ hi ∧ hi ≤ 1000000))
instance (lo hi : Int) : Decidable (badR lo hi) := by unfold badR; infer_instance
theorem c76 (lo hi : Int) : Contract Try.prog 76 [.agg [I lo, I hi]] (B (decide (badR lo hi))) := by
 refine contract_of Try.func76 rfl (by kernel_rfl) follows (by kernel_rfl) _ _ (by rw [Try.ntmps76]; simp) (by simp [OldL, Old, I]) ?_
 unfold I B
 (repeat' (first | with_reducible refine splitVC_d (fun _ => ?_) (fun _ => ?_) | ((with_reducible refine And.intro ?_ ?_); focus (first | exact True.intro | omega | (simp only [InK, ne_eq, and_true, true_and]; omega) | trivial)) | (simp -dsimp only [↓RP, RQ, implies_true, forall_const, Nat.reduceMul, reduceIte, reduceCtorEq, Nat.reduceAdd, Nat.reduceEqDiff, Nat.reduceLT, Nat.reduceLeDiff, TYp, fsv, B, I, by2, RZ, eq_self, TY, Try.results76])))
 ·rename_i h
  refine B_eq ?_; symm; exact decide_eq_true (.inl h)
 ·refine callVC (c67_2 lo hi 0 1000000) (by (simp -dsimp only [↓RP, RQ, implies_true, forall_const, Nat.reduceMul, reduceIte, reduceCtorEq, Nat.reduceAdd, Nat.reduceEqDiff, Nat.reduceLT, Nat.reduceLeDiff, Go.Od.ints, I]); all_goals (try simp); all_goals (try exact lit2 _ _)) (by (simp -dsimp only [↓RP, RQ, implies_true, forall_const, Nat.reduceMul, reduceIte, reduceCtorEq, Nat.reduceAdd, Nat.reduceEqDiff, Nat.reduceLT, Nat.reduceLeDiff, B])) ?_
  (repeat' (first | with_reducible refine splitVC_d (fun _ => ?_) (fun _ => ?_) | ((with_reducible refine And.intro ?_ ?_); focus (first | exact True.intro | omega | (simp only [InK, ne_eq, and_true, true_and]; omega) | trivial)) | (simp -dsimp only [↓RP, RQ, implies_true, forall_const, Nat.reduceMul, reduceIte, reduceCtorEq, Nat.reduceAdd, Nat.reduceEqDiff, Nat.reduceLT, Nat.reduceLeDiff, TYp, fsv, B, I, by2, RZ, eq_self, TY, Try.results76])))
  all_goals (refine B_eq ?_; rw [Bool.eq_iff_iff]; simp [badR]; omega)
theorem c94 (m : Nat) (lo hi : Nat → Int) (hm : m ≤ 1000000) : Contract Try.prog 94 [rngs m lo hi, .fn (.func 76) [] []] (I (fstI (fun i => decide (badR (lo i) (hi i))) 0 m)) := by
 refine contract_of Try.func94 rfl (by kernel_rfl) follows (by kernel_rfl) _ _ (by rw [Try.ntmps94]; simp) (by simp [OldL, Old, rngs]) ?_
 unfold rngs I
 (repeat' (first | with_reducible refine splitVC_d (fun _ => ?_) (fun _ => ?_) | ((with_reducible refine And.intro ?_ ?_); focus (first | exact True.intro | omega | (simp only [InK, ne_eq, and_true, true_and]; omega) | trivial)) | (simp -dsimp only [↓RP, RQ, implies_true, forall_const, Nat.reduceMul, reduceIte, reduceCtorEq, Nat.reduceAdd, Nat.reduceEqDiff, Nat.reduceLT, Nat.reduceLeDiff, TYp, fsv, B, I, by2, RZ, eq_self, TY, Try.results94])))
 refine loop_vc (fun i => i ≤ m ∧ fstI (fun i => decide (badR (lo i) (hi i))) 0 m = fstI (fun i => decide (badR (lo i) (hi i))) i (m - i)) (fun i => ⟨[(0, .arr false false m 2 (fun i j => .val (.int .i64 (if j = 0 then lo i else hi i)))), (1, .fn (.func 76) [] []), (7, .val (.int .i64 m)), (8, .val (.int .i64 i))], [], 0⟩) (fun i => m - i) 0 ⟨Nat.zero_le _, rfl⟩ (weak [] [] ?_ ?_ ?_) fun i hi => ?_
 ·(simp -dsimp only [↓RP, RQ, implies_true, forall_const, Nat.reduceMul, reduceIte, reduceCtorEq, Nat.reduceAdd, Nat.reduceEqDiff, Nat.reduceLT, Nat.reduceLeDiff]); all_goals (try simp)
 ·(simp -dsimp only [↓RP, RQ, implies_true, forall_const, Nat.reduceMul, reduceIte, reduceCtorEq, Nat.reduceAdd, Nat.reduceEqDiff, Nat.reduceLT, Nat.reduceLeDiff])
 ·(simp -dsimp only [↓RP, RQ, implies_true, forall_const, Nat.reduceMul, reduceIte, reduceCtorEq, Nat.reduceAdd, Nat.reduceEqDiff, Nat.reduceLT, Nat.reduceLeDiff])
 obtain ⟨hi, he⟩ := hi
 rename_i hi'
 have e1 : ∀ k, m - i = k + 1 → fstI (fun i => decide (badR (lo i) (hi' i))) i (m - i) = if decide (badR (lo i) (hi' i)) = true then (i : Int) else fstI (fun i => decide (badR (lo i) (hi' i))) (i + 1) k := fun k hk => by rw [hk]; rfl
 (repeat' (first | with_reducible refine splitVC_d (fun _ => ?_) (fun _ => ?_) | ((with_reducible refine And.intro ?_ ?_); focus (first | exact True.intro | omega | (simp only [InK, ne_eq, and_true, true_and]; omega) | trivial)) | (simp -dsimp only [↓RP, RQ, implies_true, forall_const, Nat.reduceMul, reduceIte, reduceCtorEq, Nat.reduceAdd, Nat.reduceEqDiff, Nat.reduceLT, Nat.reduceLeDiff, TYp, fsv, B, I, by2, RZ, eq_self, TY, Try.results94])))
 ·rename_i hlt
  have e2 := e1 (m - (i + 1)) (by omega)
  refine callVC (c76 (lo i) (hi' i)) (by (simp -dsimp only [↓RP, RQ, implies_true, forall_const, Nat.reduceMul, reduceIte, reduceCtorEq, Nat.reduceAdd, Nat.reduceEqDiff, Nat.reduceLT, Nat.reduceLeDiff, I]); all_goals (try simp)) (by (simp -dsimp only [↓RP, RQ, implies_true, forall_const, Nat.reduceMul, reduceIte, reduceCtorEq, Nat.reduceAdd, Nat.reduceEqDiff, Nat.reduceLT, Nat.reduceLeDiff, B])) ?_
  (repeat' (first | with_reducible refine splitVC_d (fun _ => ?_) (fun _ => ?_) | ((with_reducible refine And.intro ?_ ?_); focus (first | exact True.intro | omega | (simp only [InK, ne_eq, and_true, true_and]; omega) | trivial)) | (simp -dsimp only [↓RP, RQ, implies_true, forall_const, Nat.reduceMul, reduceIte, reduceCtorEq, Nat.reduceAdd, Nat.reduceEqDiff, Nat.reduceLT, Nat.reduceLeDiff, TYp, fsv, B, I, by2, RZ, eq_self, TY, Try.results94])))
  ·rename_i h
   refine I_eq ?_
   rw [he, e2, if_pos (by simp [h])]
  ·rename_i h1
   refine ⟨i + 1, ⟨by omega, ?_⟩, by omega, weak [] [] ?_ ?_ ?_⟩
   ·rw [he, e2, if_neg (by simp [h1])]
   ·(simp -dsimp only [↓RP, RQ, implies_true, forall_const, Nat.reduceMul, reduceIte, reduceCtorEq, Nat.reduceAdd, Nat.reduceEqDiff, Nat.reduceLT, Nat.reduceLeDiff]); all_goals (try simp)
   ·(simp -dsimp only [↓RP, RQ, implies_true, forall_const, Nat.reduceMul, reduceIte, reduceCtorEq, Nat.reduceAdd, Nat.reduceEqDiff, Nat.reduceLT, Nat.reduceLeDiff])
   ·(simp -dsimp only [↓RP, RQ, implies_true, forall_const, Nat.reduceMul, reduceIte, reduceCtorEq, Nat.reduceAdd, Nat.reduceEqDiff, Nat.reduceLT, Nat.reduceLeDiff])
 ·rename_i hlt
  refine I_eq ?_
  have : m - i = 0 := by omega
  rw [he, this]; rfl
theorem allR_iff (lo hi : Nat → Int) (m : Nat) : fstI (fun i => decide (badR (lo i) (hi i))) 0 m < 0 ↔ allR lo hi m := by
 rw [fstI_lt]
 constructor
 ·intro h i hi'
  have := h i (by omega) (by omega)
  simp [badR] at this; omega
 ·intro h j _ hj
  have := h j (by omega)
  simp [badR]; omega
theorem c77 (m : Nat) (lo hi : Nat → Int) (hm : m ≤ 1000000) : Contract Try.prog 77 [rngs m lo hi, .fn (.func 76) [] []] (B (!decide (allR lo hi m))) := by
 refine contract_of Try.func77 rfl (by kernel_rfl) follows (by kernel_rfl) _ _ (by rw [Try.ntmps77]; simp) (by simp [OldL, Old, rngs]) ?_
 unfold rngs B
 (repeat' (first | with_reducible refine splitVC_d (fun _ => ?_) (fun _ => ?_) | ((with_reducible refine And.intro ?_ ?_); focus (first | exact True.intro | omega | (simp only [InK, ne_eq, and_true, true_and]; omega) | trivial)) | (simp -dsimp only [↓RP, RQ, implies_true, forall_const, Nat.reduceMul, reduceIte, reduceCtorEq, Nat.reduceAdd, Nat.reduceEqDiff, Nat.reduceLT, Nat.reduceLeDiff, TYp, fsv, B, I, by2, RZ, eq_self, TY, Try.results77])))
 refine callVC (c94 m lo hi hm) (by (simp -dsimp only [↓RP, RQ, implies_true, forall_const, Nat.reduceMul, reduceIte, reduceCtorEq, Nat.reduceAdd, Nat.reduceEqDiff, Nat.reduceLT, Nat.reduceLeDiff, rngs, I]); all_goals (try simp)) (by (simp -dsimp only [↓RP, RQ, implies_true, forall_const, Nat.reduceMul, reduceIte, reduceCtorEq, Nat.reduceAdd, Nat.reduceEqDiff, Nat.reduceLT, Nat.reduceLeDiff, I])) ?_
 (repeat' (first | with_reducible refine splitVC_d (fun _ => ?_) (fun _ => ?_) | ((with_reducible refine And.intro ?_ ?_); focus (first | exact True.intro | omega | (simp only [InK, ne_eq, and_true, true_and]; omega) | trivial)) | (simp -dsimp only [↓RP, RQ, implies_true, forall_const, Nat.reduceMul, reduceIte, reduceCtorEq, Nat.reduceAdd, Nat.reduceEqDiff, Nat.reduceLT, Nat.reduceLeDiff, TYp, fsv, B, I, by2, RZ, eq_self, TY, Try.results77])))
 all_goals (refine B_eq ?_; rw [Bool.eq_iff_iff]; simp [← allR_iff])
theorem c30 (p : Pl) : Contract Try.prog 30 [p.sv] (I p.err) := by
 refine contract_of Try.func30 rfl (by kernel_rfl) follows (by kernel_rfl) _ _ (by rw [Try.ntmps30]; simp) (by simp [OldL, p.old]) ?_
 unfold I
 conv => arg 4; unfold Pl.sv rngs I
 (repeat' (first | with_reducible refine splitVC_d (fun _ => ?_) (fun _ => ?_) | ((with_reducible refine And.intro ?_ ?_); focus (first | exact True.intro | omega | (simp only [InK, ne_eq, and_true, true_and]; omega) | trivial)) | (simp -dsimp only [↓RP, RQ, implies_true, forall_const, Nat.reduceMul, reduceIte, reduceCtorEq, Nat.reduceAdd, Nat.reduceEqDiff, Nat.reduceLT, Nat.reduceLeDiff, TYp, fsv, B, I, by2, RZ, eq_self, TY, Try.results30])))
 refine callVC (c67_1 p.n 1 8) (by (simp -dsimp only [↓RP, RQ, implies_true, forall_const, Nat.reduceMul, reduceIte, reduceCtorEq, Nat.reduceAdd, Nat.reduceEqDiff, Nat.reduceLT, Nat.reduceLeDiff, Go.Od.ints, I]); all_goals (try simp)) (by (simp -dsimp only [↓RP, RQ, implies_true, forall_const, Nat.reduceMul, reduceIte, reduceCtorEq, Nat.reduceAdd, Nat.reduceEqDiff, Nat.reduceLT, Nat.reduceLeDiff, B])) ?_
 (repeat' (first | with_reducible refine splitVC_d (fun _ => ?_) (fun _ => ?_) | ((with_reducible refine And.intro ?_ ?_); focus (first | exact True.intro | omega | (simp only [InK, ne_eq, and_true, true_and]; omega) | trivial)) | (simp -dsimp only [↓RP, RQ, implies_true, forall_const, Nat.reduceMul, reduceIte, reduceCtorEq, Nat.reduceAdd, Nat.reduceEqDiff, Nat.reduceLT, Nat.reduceLeDiff, TYp, fsv, B, I, by2, RZ, eq_self, TY, Try.results30])))
 rotate_left
 ·refine I_eq ?_; unfold Pl.err; rw [if_pos (by omega)]
 rename_i h1
 refine callVC (c77 p.n p.lo p.hi (by omega)) (by (simp -dsimp only [↓RP, RQ, implies_true, forall_const, Nat.reduceMul, reduceIte, reduceCtorEq, Nat.reduceAdd, Nat.reduceEqDiff, Nat.reduceLT, Nat.reduceLeDiff, rngs]); all_goals (try simp)) (by (simp -dsimp only [↓RP, RQ, implies_true, forall_const, Nat.reduceMul, reduceIte, reduceCtorEq, Nat.reduceAdd, Nat.reduceEqDiff, Nat.reduceLT, Nat.reduceLeDiff, B])) ?_
 (repeat' (first | with_reducible refine splitVC_d (fun _ => ?_) (fun _ => ?_) | ((with_reducible refine And.intro ?_ ?_); focus (first | exact True.intro | omega | (simp only [InK, ne_eq, and_true, true_and]; omega) | trivial)) | (simp -dsimp only [↓RP, RQ, implies_true, forall_const, Nat.reduceMul, reduceIte, reduceCtorEq, Nat.reduceAdd, Nat.reduceEqDiff, Nat.reduceLT, Nat.reduceLeDiff, TYp, fsv, B, I, by2, RZ, eq_self, TY, Try.results30])))
 ·rename_i h6
  refine callVC (c67_1 p.cut 0 500) (by (simp -dsimp only [↓RP, RQ, implies_true, forall_const, Nat.reduceMul, reduceIte, reduceCtorEq, Nat.reduceAdd, Nat.reduceEqDiff, Nat.reduceLT, Nat.reduceLeDiff, Go.Od.ints, I]); all_goals (try simp)) (by (simp -dsimp only [↓RP, RQ, implies_true, forall_const, Nat.reduceMul, reduceIte, reduceCtorEq, Nat.reduceAdd, Nat.reduceEqDiff, Nat.reduceLT, Nat.reduceLeDiff, B])) ?_
  (repeat' (first | with_reducible refine splitVC_d (fun _ => ?_) (fun _ => ?_) | ((with_reducible refine And.intro ?_ ?_); focus (first | exact True.intro | omega | (simp only [InK, ne_eq, and_true, true_and]; omega) | trivial)) | (simp -dsimp only [↓RP, RQ, implies_true, forall_const, Nat.reduceMul, reduceIte, reduceCtorEq, Nat.reduceAdd, Nat.reduceEqDiff, Nat.reduceLT, Nat.reduceLeDiff, TYp, fsv, B, I, by2, RZ, eq_self, TY, Try.results30])))
  all_goals first
   | (refine I_eq ?_; unfold Pl.err; rw [if_neg (by omega), if_pos ⟨by assumption, by assumption⟩])
   | (refine I_eq ?_; unfold Pl.err; rw [if_neg (by omega), if_neg (fun h => by have := h.2; omega)])
 ·rename_i h6
  refine I_eq ?_; unfold Pl.err; rw [if_neg (by omega), if_neg (fun h => h6 h.1)]
def Pl.ask (p : Pl) (r : Int) : Int := if p.err = 0 then (if r < 0 ∨ p.n ≤ r then 2 else 0) else p.err
theorem Pl.ask_iff {p : Pl} {r : Int} : p.ask r = 0 ↔ p.err = 0 ∧ 0 ≤ r ∧ r < p.n := by
 unfold Pl.ask
 split
 ·rename_i h
  split
  ·constructor
   ·intro h3; cases h3
   ·omega
  ·constructor
   ·intro _; omega
   ·intro _; rfl
 ·rename_i h; constructor
  ·intro h3; exact absurd h3 h
  ·intro h3; exact absurd h3.1 h
theorem c71 (p : Pl) (r : Int) : Contract Try.prog 71 [p.sv, I r] (I (p.ask r)) := by
 refine contract_of Try.func71 rfl (by kernel_rfl) follows (by kernel_rfl) _ _ (by rw [Try.ntmps71]; simp) (by simp [OldL, p.old]; simp [Old, I]) ?_
 unfold I
 conv => arg 4; unfold Pl.sv rngs I
 (repeat' (first | with_reducible refine splitVC_d (fun _ => ?_) (fun _ => ?_) | ((with_reducible refine And.intro ?_ ?_); focus (first | exact True.intro | omega | (simp only [InK, ne_eq, and_true, true_and]; omega) | trivial)) | (simp -dsimp only [↓RP, RQ, implies_true, forall_const, Nat.reduceMul, reduceIte, reduceCtorEq, Nat.reduceAdd, Nat.reduceEqDiff, Nat.reduceLT, Nat.reduceLeDiff, TYp, fsv, B, I, by2, RZ, eq_self, TY, Try.results71])))
 refine callVC (c30 p) (by (simp -dsimp only [↓RP, RQ, implies_true, forall_const, Nat.reduceMul, reduceIte, reduceCtorEq, Nat.reduceAdd, Nat.reduceEqDiff, Nat.reduceLT, Nat.reduceLeDiff, Pl.sv, rngs, I]); all_goals (try simp)) (by (simp -dsimp only [↓RP, RQ, implies_true, forall_const, Nat.reduceMul, reduceIte, reduceCtorEq, Nat.reduceAdd, Nat.reduceEqDiff, Nat.reduceLT, Nat.reduceLeDiff, I])) ?_
 by_cases h0 : p.err = 0
 ·rw [h0]
  (repeat' (first | with_reducible refine splitVC_d (fun _ => ?_) (fun _ => ?_) | ((with_reducible refine And.intro ?_ ?_); focus (first | exact True.intro | omega | (simp only [InK, ne_eq, and_true, true_and]; omega) | trivial)) | (simp -dsimp only [↓RP, RQ, implies_true, forall_const, Nat.reduceMul, reduceIte, reduceCtorEq, Nat.reduceAdd, Nat.reduceEqDiff, Nat.reduceLT, Nat.reduceLeDiff, TYp, fsv, B, I, by2, RZ, eq_self, TY, Try.results71])))
  all_goals first
   | (refine I_eq ?_; unfold Pl.ask; rw [if_pos h0, if_pos (by omega)]; done)
   | (refine I_eq ?_; unfold Pl.ask; rw [if_pos h0, if_neg (by omega)]; done)
   | (exfalso; omega)
 ·(repeat' (first | with_reducible refine splitVC_d (fun _ => ?_) (fun _ => ?_) | ((with_reducible refine And.intro ?_ ?_); focus (first | exact True.intro | omega | (simp only [InK, ne_eq, and_true, true_and]; omega) | trivial)) | (simp -dsimp only [↓RP, RQ, implies_true, forall_const, Nat.reduceMul, reduceIte, reduceCtorEq, Nat.reduceAdd, Nat.reduceEqDiff, Nat.reduceLT, Nat.reduceLeDiff, TYp, fsv, B, I, by2, RZ, eq_self, TY, Try.results71])))
  all_goals first | (exfalso; omega) | skip
  all_goals (refine I_eq ?_; unfold Pl.ask; rw [if_neg h0])
def oddV (own sum cut : Int) : Fr := red ⟨max 0 ((1000 - cut) * sum - 1000 * own), 1000 * own⟩
def sumTo (u : Nat → Int) : Nat → Int
 | 0 => 0
 | n + 1 => sumTo u n + u n
theorem sumTo_bd {u : Nat → Int} {A : Int} : ∀ {n : Nat}, (∀ i, i < n → 0 ≤ u i ∧ u i ≤ A) → 0 ≤ sumTo u n ∧ sumTo u n ≤ A * n
 | 0, _ => by simp [sumTo]
 | n + 1, h => by
  have ih := sumTo_bd (n := n) fun i hi => h i (by omega)
  have := h n (by omega)
  have e : A * ((n + 1 : Nat) : Int) = A * n + A := by grind
  simp only [sumTo]
  omega
theorem odd_in {own sum cut : Int} (h1 : 1 ≤ own) (h2 : own ≤ 1000000) (h3 : 0 ≤ sum) (h4 : sum ≤ 20000000) (h5 : 0 ≤ cut) (h6 : cut ≤ 500) : 0 ≤ (1000 - cut) * sum ∧ (1000 - cut) * sum ≤ 20000000000 := by
 have := mul_in (1000 - cut) sum 1000 20000000 (by omega) h3 (by omega) h4
 omega
theorem c72 (own others cut : Int) (h1 : 1 ≤ own) (h2 : own ≤ 1000000) (h3 : 0 ≤ others) (h4 : others ≤ 19000000) (h5 : 0 ≤ cut) (h6 : cut ≤ 500) : Contract Try.prog 72 [I own, I others, I cut] (fsv (oddV own (own + others) cut)) := by
 refine contract_of Try.func72 rfl (by kernel_rfl) follows (by kernel_rfl) _ _ (by rw [Try.ntmps72]; simp) (by simp [OldL, Old, I]) ?_
 have m1 := odd_in (own := own) (sum := own + others) (cut := cut) h1 h2 (by omega) (by omega) h5 h6
 conv => arg 4; unfold I
 (repeat' (first | with_reducible refine splitVC_d (fun _ => ?_) (fun _ => ?_) | ((with_reducible refine And.intro ?_ ?_); focus (first | exact True.intro | omega | (simp only [InK, ne_eq, and_true, true_and]; omega) | trivial)) | (simp -dsimp only [↓RP, RQ, implies_true, forall_const, Nat.reduceMul, reduceIte, reduceCtorEq, Nat.reduceAdd, Nat.reduceEqDiff, Nat.reduceLT, Nat.reduceLeDiff, TYp, fsv, B, I, by2, RZ, eq_self, TY, Try.results72])))
 all_goals first | (exfalso; omega) | skip
 all_goals (refine callVC (c79 ⟨max 0 ((1000 - cut) * (own + others) - 1000 * own), 1000 * own⟩ (by show 0 < 1000 * own; omega) (by show 1000 * own ≤ _; omega) (by show _ ≤ max 0 ((1000 - cut) * (own + others) - 1000 * own); omega) (by show max 0 ((1000 - cut) * (own + others) - 1000 * own) ≤ _; omega)) (by (simp -dsimp only [↓RP, RQ, implies_true, forall_const, Nat.reduceMul, reduceIte, reduceCtorEq, Nat.reduceAdd, Nat.reduceEqDiff, Nat.reduceLT, Nat.reduceLeDiff, Go.Od.ints, I]); all_goals (try simp)) (by (simp -dsimp only [↓RP, RQ, implies_true, forall_const, Nat.reduceMul, reduceIte, reduceCtorEq, Nat.reduceAdd, Nat.reduceEqDiff, Nat.reduceLT, Nat.reduceLeDiff, fsv, I])) ?_)
 all_goals (repeat' (first | with_reducible refine splitVC_d (fun _ => ?_) (fun _ => ?_) | ((with_reducible refine And.intro ?_ ?_); focus (first | exact True.intro | omega | (simp only [InK, ne_eq, and_true, true_and]; omega) | trivial)) | (simp -dsimp only [↓RP, RQ, implies_true, forall_const, Nat.reduceMul, reduceIte, reduceCtorEq, Nat.reduceAdd, Nat.reduceEqDiff, Nat.reduceLT, Nat.reduceLeDiff, oddV, TYp, fsv, B, I, by2, RZ, eq_self, TY, Try.results72])))
 all_goals first | exact ⟨rfl, rfl⟩ | skip
end Go.Od
end
section
set_option linter.unusedSimpArgs false
set_option linter.unusedVariables false
set_option linter.defProp false
set_option maxRecDepth 100000
set_option maxHeartbeats 16000000
namespace Go.Od
open Go.Proofs
open Go.Sx
theorem sumTo_one {u v : Nat → Int} {k : Nat} (h : ∀ i, i ≠ k → v i = u i) : ∀ {n : Nat}, sumTo v n = sumTo (fun j => if j = k then 0 else u j) n + (if k < n then v k else 0)
 | 0 => by simp [sumTo]
 | n + 1 => by
  simp only [sumTo]
  rw [sumTo_one (n := n) h]
  by_cases e : n = k
  ·subst e
   simp
  ·rw [if_neg e, h n e]
   by_cases e2 : k < n
   ·rw [if_pos e2, if_pos (by omega)]; omega
   ·rw [if_neg e2, if_neg (by omega)]; omega
def Pl.few (p : Pl) (k i : Nat) : Int := if i = k then p.hi i else p.lo i
def Pl.many (p : Pl) (k i : Nat) : Int := if i = k then p.lo i else p.hi i
theorem Pl.few_sum (p : Pl) {k : Nat} (hk : k < p.n) : sumTo (p.few k) p.n = p.hi k + sumTo (fun j => if j = k then 0 else p.lo j) p.n := by
 rw [sumTo_one (u := p.lo) (v := p.few k) (k := k) fun i hi => by unfold Pl.few; rw [if_neg hi], if_pos hk]
 unfold Pl.few; rw [if_pos rfl]; omega
theorem Pl.many_sum (p : Pl) {k : Nat} (hk : k < p.n) : sumTo (p.many k) p.n = p.lo k + sumTo (fun j => if j = k then 0 else p.hi j) p.n := by
 rw [sumTo_one (u := p.hi) (v := p.many k) (k := k) fun i hi => by unfold Pl.many; rw [if_neg hi], if_pos hk]
 unfold Pl.many; rw [if_pos rfl]; omega
def Pl.spanOk (p : Pl) (k : Nat) : Fr × Fr := (oddV (p.hi k) (sumTo (p.few k) p.n) p.cut, oddV (p.lo k) (sumTo (p.many k) p.n) p.cut)
def Pl.span (p : Pl) (r : Int) : (Fr × Fr) × Int :=
 if p.ask r = 0 then (if p.lo r.toNat = 0 then ((⟨0, 0⟩, ⟨0, 0⟩), 20) else (p.spanOk r.toNat, 0)) else ((⟨0, 0⟩, ⟨0, 0⟩), p.ask r)
theorem Pl.span_no {p : Pl} {r : Int} (h : ¬ p.ask r = 0) : p.span r = ((⟨0, 0⟩, ⟨0, 0⟩), p.ask r) := by unfold Pl.span; rw [if_neg h]
theorem Pl.span_20 {p : Pl} {k : Nat} (h : p.ask k = 0) (h2 : p.lo k = 0) : p.span k = ((⟨0, 0⟩, ⟨0, 0⟩), 20) := by unfold Pl.span; rw [if_pos h, Int.toNat_natCast, if_pos h2]
theorem Pl.span_0 {p : Pl} {k : Nat} (h : p.ask k = 0) (h2 : ¬ p.lo k = 0) : p.span k = (p.spanOk k, 0) := by unfold Pl.span; rw [if_pos h, Int.toNat_natCast, if_neg h2]
theorem exc_bd {u : Nat → Int} {k n : Nat} (h : ∀ i, i < n → 0 ≤ u i ∧ u i ≤ 1000000) : 0 ≤ sumTo (fun j => if j = k then 0 else u j) n ∧ sumTo (fun j => if j = k then 0 else u j) n ≤ 1000000 * n :=
 sumTo_bd fun i hi => by have := h i hi; by_cases e : i = k <;> simp only [e, if_true, if_false] <;> first | omega | (have := h k (by omega); omega) | exact this
theorem c26 (p : Pl) (r : Int) : Contract Try.prog 26 [p.sv, I r] (.tup [fsv (p.span r).1.1, fsv (p.span r).1.2, I (p.span r).2]) := by
 refine contract_of Try.func26 rfl (by kernel_rfl) follows (by kernel_rfl) _ _ (by rw [Try.ntmps26]; simp) (by simp [OldL, p.old]; simp [Old, I]) ?_
 by_cases ha : p.ask r = 0
 rotate_left
 ·rw [Pl.span_no ha]
  conv => arg 4; unfold Pl.sv rngs I
  (repeat' (first | with_reducible refine splitVC_d (fun _ => ?_) (fun _ => ?_) | ((with_reducible refine And.intro ?_ ?_); focus (first | exact True.intro | omega | (simp only [InK, ne_eq, and_true, true_and]; omega) | trivial)) | (simp -dsimp only [↓RP, RQ, implies_true, forall_const, Nat.reduceMul, reduceIte, reduceCtorEq, Nat.reduceAdd, Nat.reduceEqDiff, Nat.reduceLT, Nat.reduceLeDiff, TYp, fsv, B, I, by2, RZ, eq_self, TY, Try.results26])))
  refine callVC (c71 p r) (by (simp -dsimp only [↓RP, RQ, implies_true, forall_const, Nat.reduceMul, reduceIte, reduceCtorEq, Nat.reduceAdd, Nat.reduceEqDiff, Nat.reduceLT, Nat.reduceLeDiff, Pl.sv, rngs, I]); all_goals (try simp)) (by (simp -dsimp only [↓RP, RQ, implies_true, forall_const, Nat.reduceMul, reduceIte, reduceCtorEq, Nat.reduceAdd, Nat.reduceEqDiff, Nat.reduceLT, Nat.reduceLeDiff, fsv, I])) ?_
  (repeat' (first | with_reducible refine splitVC_d (fun _ => ?_) (fun _ => ?_) | ((with_reducible refine And.intro ?_ ?_); focus (first | exact True.intro | omega | (simp only [InK, ne_eq, and_true, true_and]; omega) | trivial)) | (simp -dsimp only [↓RP, RQ, implies_true, forall_const, Nat.reduceMul, reduceIte, reduceCtorEq, Nat.reduceAdd, Nat.reduceEqDiff, Nat.reduceLT, Nat.reduceLeDiff, TYp, fsv, B, I, by2, RZ, eq_self, TY, Try.results26])))
  all_goals first | (exfalso; omega) | skip
 have ⟨he, hr0, hr1⟩ := Pl.ask_iff.1 ha
 obtain ⟨k, rfl⟩ : ∃ k : Nat, r = k := ⟨r.toNat, by omega⟩
 have hf := Pl.fine he
 have hk : k < p.n := by omega
 have ⟨hk0, hk1, hk2⟩ := hf.rg k hk
 have hn8 := hf.n8
 conv => arg 4; unfold Pl.sv rngs I
 (repeat' (first | with_reducible refine splitVC_d (fun _ => ?_) (fun _ => ?_) | ((with_reducible refine And.intro ?_ ?_); focus (first | exact True.intro | omega | (simp only [InK, ne_eq, and_true, true_and]; omega) | trivial)) | (simp -dsimp only [↓RP, RQ, implies_true, forall_const, Nat.reduceMul, reduceIte, reduceCtorEq, Nat.reduceAdd, Nat.reduceEqDiff, Nat.reduceLT, Nat.reduceLeDiff, TYp, fsv, B, I, by2, RZ, eq_self, TY, Try.results26])))
 refine callVC (c71 p k) (by (simp -dsimp only [↓RP, RQ, implies_true, forall_const, Nat.reduceMul, reduceIte, reduceCtorEq, Nat.reduceAdd, Nat.reduceEqDiff, Nat.reduceLT, Nat.reduceLeDiff, Pl.sv, rngs, I]); all_goals (try simp)) (by (simp -dsimp only [↓RP, RQ, implies_true, forall_const, Nat.reduceMul, reduceIte, reduceCtorEq, Nat.reduceAdd, Nat.reduceEqDiff, Nat.reduceLT, Nat.reduceLeDiff, fsv, I])) ?_
 rw [ha]
 (repeat' (first | with_reducible refine splitVC_d (fun _ => ?_) (fun _ => ?_) | ((with_reducible refine And.intro ?_ ?_); focus (first | exact True.intro | omega | (simp only [InK, ne_eq, and_true, true_and]; omega) | trivial)) | (simp -dsimp only [↓RP, RQ, implies_true, forall_const, Nat.reduceMul, reduceIte, reduceCtorEq, Nat.reduceAdd, Nat.reduceEqDiff, Nat.reduceLT, Nat.reduceLeDiff, TYp, fsv, B, I, by2, RZ, eq_self, TY, Try.results26])))
 all_goals first | (exfalso; omega) | skip
 ·rename_i h0
  rw [Pl.span_20 ha h0]
  all_goals first | exact ⟨rfl, rfl⟩ | exact ⟨⟨rfl, rfl⟩, ⟨rfl, rfl⟩, rfl⟩ | skip
 ·rename_i h0
  rw [Pl.span_0 ha h0]
  have hs1 := p.few_sum hk
  have hs2 := p.many_sum hk
  unfold Pl.spanOk
  rw [hs1, hs2]
  refine loop_vc (fun i => i ≤ p.n) (fun i => ⟨[(1, .val (.int .i64 k)), (2, .ptr 0 0), (4, .ptr 1 0), (5, .ptr 2 0), (6, .val (.int .i64 0)), (8, .ptr 15 0), (9, .ptr 20 0), (31, .arr false false p.n 2 (fun i j => .val (.int .i64 (if j = 0 then p.lo i else p.hi i)))), (32, .val (.int .i64 p.n)), (33, .val (.int .i64 i))], [(20, .cells 66 [.val (.int .i64 (sumTo (fun j => if j = k then 0 else p.lo j) i)), .val (.int .i64 (sumTo (fun j => if j = k then 0 else p.hi j) i))]), (15, .cells 66 [.val (.int .i64 (p.lo k)), .val (.int .i64 (p.hi k))]), (2, .cells 23 [.val (.int .i64 0), .val (.int .i64 0)]), (1, .cells 23 [.val (.int .i64 0), .val (.int .i64 0)]), (0, .cells 36 [.arr false false p.n 2 (fun i j => .val (.int .i64 (if j = 0 then p.lo i else p.hi i))), .val (.int .i64 p.cut)])], 25⟩) (fun i => p.n - i) 0 (Nat.zero_le _) (weak [] [] ?_ ?_ ?_) fun i hi => ?_
  ·(simp -dsimp only [↓RP, RQ, implies_true, forall_const, Nat.reduceMul, reduceIte, reduceCtorEq, Nat.reduceAdd, Nat.reduceEqDiff, Nat.reduceLT, Nat.reduceLeDiff]); all_goals (try simp)
  ·(simp -dsimp only [↓RP, RQ, implies_true, forall_const, Nat.reduceMul, reduceIte, reduceCtorEq, Nat.reduceAdd, Nat.reduceEqDiff, Nat.reduceLT, Nat.reduceLeDiff, sumTo]); all_goals (try simp [sumTo])
  ·(simp -dsimp only [↓RP, RQ, implies_true, forall_const, Nat.reduceMul, reduceIte, reduceCtorEq, Nat.reduceAdd, Nat.reduceEqDiff, Nat.reduceLT, Nat.reduceLeDiff]); all_goals (try simp)
  have b1 := exc_bd (u := p.lo) (k := k) (n := i) fun j hj => by have := hf.rg j (by omega); omega
  have b2 := exc_bd (u := p.hi) (k := k) (n := i) fun j hj => by have := hf.rg j (by omega); omega
  by_cases hlt : i < p.n
  ·have hui := hf.rg i hlt
   (repeat' (first | with_reducible refine splitVC_d (fun _ => ?_) (fun _ => ?_) | ((with_reducible refine And.intro ?_ ?_); focus (first | exact True.intro | omega | (simp only [InK, ne_eq, and_true, true_and]; omega) | trivial)) | (simp -dsimp only [↓RP, RQ, implies_true, forall_const, Nat.reduceMul, reduceIte, reduceCtorEq, Nat.reduceAdd, Nat.reduceEqDiff, Nat.reduceLT, Nat.reduceLeDiff, TYp, fsv, B, I, by2, RZ, eq_self, TY, Try.results26])))
   all_goals first | (exfalso; omega) | skip
   all_goals (refine ⟨i + 1, by omega, by omega, weak [] [] ?_ ?_ ?_⟩)
   all_goals ((simp -dsimp only [↓RP, RQ, implies_true, forall_const, Nat.reduceMul, reduceIte, reduceCtorEq, Nat.reduceAdd, Nat.reduceEqDiff, Nat.reduceLT, Nat.reduceLeDiff, sumTo]); all_goals (try simp [sumTo]))
   all_goals (try omega)
   all_goals (try (have : i = k := by omega); simp [this])
   all_goals trace_state
  ·have e : i = p.n := by omega
   subst e
   (repeat' (first | with_reducible refine splitVC_d (fun _ => ?_) (fun _ => ?_) | ((with_reducible refine And.intro ?_ ?_); focus (first | exact True.intro | omega | (simp only [InK, ne_eq, and_true, true_and]; omega) | trivial)) | (simp -dsimp only [↓RP, RQ, implies_true, forall_const, Nat.reduceMul, reduceIte, reduceCtorEq, Nat.reduceAdd, Nat.reduceEqDiff, Nat.reduceLT, Nat.reduceLeDiff, TYp, fsv, B, I, by2, RZ, eq_self, TY, Try.results26])))
   all_goals first | (exfalso; omega) | skip
   refine callVC (c72 (p.hi k) (sumTo (fun j => if j = k then 0 else p.lo j) p.n) p.cut (by omega) (by omega) b1.1 (by omega) hf.c0 hf.c1) (by (simp -dsimp only [↓RP, RQ, implies_true, forall_const, Nat.reduceMul, reduceIte, reduceCtorEq, Nat.reduceAdd, Nat.reduceEqDiff, Nat.reduceLT, Nat.reduceLeDiff, Go.Od.ints, I]); all_goals (try simp)) (by (simp -dsimp only [↓RP, RQ, implies_true, forall_const, Nat.reduceMul, reduceIte, reduceCtorEq, Nat.reduceAdd, Nat.reduceEqDiff, Nat.reduceLT, Nat.reduceLeDiff, fsv, I])) ?_
   (repeat' (first | with_reducible refine splitVC_d (fun _ => ?_) (fun _ => ?_) | ((with_reducible refine And.intro ?_ ?_); focus (first | exact True.intro | omega | (simp only [InK, ne_eq, and_true, true_and]; omega) | trivial)) | (simp -dsimp only [↓RP, RQ, implies_true, forall_const, Nat.reduceMul, reduceIte, reduceCtorEq, Nat.reduceAdd, Nat.reduceEqDiff, Nat.reduceLT, Nat.reduceLeDiff, TYp, fsv, B, I, by2, RZ, eq_self, TY, Try.results26])))
   all_goals first | (exfalso; omega) | skip
   refine callVC (c72 (p.lo k) (sumTo (fun j => if j = k then 0 else p.hi j) p.n) p.cut (by omega) (by omega) b2.1 (by omega) hf.c0 hf.c1) (by (simp -dsimp only [↓RP, RQ, implies_true, forall_const, Nat.reduceMul, reduceIte, reduceCtorEq, Nat.reduceAdd, Nat.reduceEqDiff, Nat.reduceLT, Nat.reduceLeDiff, Go.Od.ints, I]); all_goals (try simp)) (by (simp -dsimp only [↓RP, RQ, implies_true, forall_const, Nat.reduceMul, reduceIte, reduceCtorEq, Nat.reduceAdd, Nat.reduceEqDiff, Nat.reduceLT, Nat.reduceLeDiff, fsv, I])) ?_
   (repeat' (first | with_reducible refine splitVC_d (fun _ => ?_) (fun _ => ?_) | ((with_reducible refine And.intro ?_ ?_); focus (first | exact True.intro | omega | (simp only [InK, ne_eq, and_true, true_and]; omega) | trivial)) | (simp -dsimp only [↓RP, RQ, implies_true, forall_const, Nat.reduceMul, reduceIte, reduceCtorEq, Nat.reduceAdd, Nat.reduceEqDiff, Nat.reduceLT, Nat.reduceLeDiff, TYp, fsv, B, I, by2, RZ, eq_self, TY, Try.results26])))
   all_goals first | exact ⟨rfl, rfl⟩ | exact ⟨⟨rfl, rfl⟩, ⟨rfl, rfl⟩⟩ | exact ⟨⟨rfl, rfl⟩, ⟨rfl, rfl⟩, rfl⟩ | skip
   all_goals trace_state
end Go.Od
end
section
set_option linter.unusedSimpArgs false
set_option linter.unusedVariables false
set_option linter.defProp false
set_option maxRecDepth 100000
set_option maxHeartbeats 16000000
namespace Go.Od
open Go.Proofs
open Go.Sx
theorem one1 (v : Int) : ∀ (i j : Nat), i < 1 → j < 1 → oneCell ([SV.val (.int .i64 v)].getD (i + j) SV.top) = true := by
 intro i j hi hj
 obtain rfl : i = 0 := by omega
 obtain rfl : j = 0 := by omega
 rfl
end Go.Od
end
section
set_option linter.unusedSimpArgs false
set_option linter.unusedVariables false
set_option linter.defProp false
set_option maxRecDepth 100000
set_option maxHeartbeats 16000000
namespace Go.Od
open Go.Proofs
open Go.Sx
theorem odd_bd {own sum cut : Int} (h1 : 1 ≤ own) (h2 : own ≤ 1000000) (h3 : 0 ≤ sum) (h4 : sum ≤ 20000000) (h5 : 0 ≤ cut) (h6 : cut ≤ 500) : 0 ≤ (oddV own sum cut).n ∧ (oddV own sum cut).n ≤ 20000000000 ∧ 0 < (oddV own sum cut).d ∧ (oddV own sum cut).d ≤ 1000000000 := by
 have m := odd_in (own := own) h1 h2 h3 h4 h5 h6
 have hs := red_spec (a := ⟨max 0 ((1000 - cut) * sum - 1000 * own), 1000 * own⟩) (by show 0 < 1000 * own; omega)
 obtain ⟨s1, s2, s3, s4⟩ := hs
 unfold oddV
 generalize red ⟨max 0 ((1000 - cut) * sum - 1000 * own), 1000 * own⟩ = x at *
 have s3 : x.n * (1000 * own) = max 0 ((1000 - cut) * sum - 1000 * own) * x.d := s3
 have s4 : x.d ≤ 1000 * own := s4
 have hy : 0 ≤ max 0 ((1000 - cut) * sum - 1000 * own) ∧ max 0 ((1000 - cut) * sum - 1000 * own) ≤ 20000000000 := by omega
 generalize max 0 ((1000 - cut) * sum - 1000 * own) = y at *
 have hn : 0 ≤ x.n := by
  refine Int.not_lt.1 fun h => ?_
  have e1 : x.n * (1000 * own) < 0 := Int.mul_neg_of_neg_of_pos h (by omega)
  have e2 : 0 ≤ y * x.d := Int.mul_nonneg hy.1 (by omega)
  omega
 refine ⟨hn, ?_, s1, by omega⟩
 refine Int.not_lt.1 fun h => ?_
 have e1 : 20000000000 * (1000 * own) < x.n * (1000 * own) := Int.mul_lt_mul_of_pos_right h (by omega)
 have e2 : y * x.d ≤ 20000000000 * (1000 * own) := Int.mul_le_mul hy.2 s4 (by omega) (by omega)
 omega
def Pl.boardOk (p : Pl) (k : Nat) (s : Int) : Fr × Fr := (shV (p.spanOk k).1 s, shV (p.spanOk k).2 s)
def Pl.board (p : Pl) (r s : Int) : (Fr × Fr) × Int :=
 if p.ask r = 0 then (if 1 ≤ s ∧ s ≤ 100 then (if p.lo r.toNat = 0 then ((⟨0, 0⟩, ⟨0, 0⟩), 20) else (p.boardOk r.toNat s, 0)) else ((⟨0, 0⟩, ⟨0, 0⟩), 2)) else ((⟨0, 0⟩, ⟨0, 0⟩), p.ask r)
theorem Pl.board_no {p : Pl} {r s : Int} (h : ¬ p.ask r = 0) : p.board r s = ((⟨0, 0⟩, ⟨0, 0⟩), p.ask r) := by unfold Pl.board; rw [if_neg h]
theorem Pl.board_2 {p : Pl} {r s : Int} (h : p.ask r = 0) (h2 : ¬ (1 ≤ s ∧ s ≤ 100)) : p.board r s = ((⟨0, 0⟩, ⟨0, 0⟩), 2) := by unfold Pl.board; rw [if_pos h, if_neg h2]
theorem Pl.board_20 {p : Pl} {k : Nat} {s : Int} (h : p.ask k = 0) (h2 : 1 ≤ s ∧ s ≤ 100) (h3 : p.lo k = 0) : p.board k s = ((⟨0, 0⟩, ⟨0, 0⟩), 20) := by unfold Pl.board; rw [if_pos h, if_pos h2, Int.toNat_natCast, if_pos h3]
theorem Pl.board_0 {p : Pl} {k : Nat} {s : Int} (h : p.ask k = 0) (h2 : 1 ≤ s ∧ s ≤ 100) (h3 : ¬ p.lo k = 0) : p.board k s = (p.boardOk k s, 0) := by unfold Pl.board; rw [if_pos h, if_pos h2, Int.toNat_natCast, if_neg h3]
theorem Pl.few_in {p : Pl} (hf : p.Fine) {k : Nat} : ∀ j, j < p.n → 0 ≤ p.few k j ∧ p.few k j ≤ 1000000 := fun j hj => by
 have := hf.rg j hj
 unfold Pl.few; split <;> omega
theorem Pl.many_in {p : Pl} (hf : p.Fine) {k : Nat} : ∀ j, j < p.n → 0 ≤ p.many k j ∧ p.many k j ≤ 1000000 := fun j hj => by
 have := hf.rg j hj
 unfold Pl.many; split <;> omega
theorem Pl.span_bd {p : Pl} (hf : p.Fine) {k : Nat} (hk : k < p.n) (h0 : ¬ p.lo k = 0) : (0 ≤ (p.spanOk k).1.n ∧ (p.spanOk k).1.n ≤ 20000000000 ∧ 0 < (p.spanOk k).1.d ∧ (p.spanOk k).1.d ≤ 1000000000) ∧ (0 ≤ (p.spanOk k).2.n ∧ (p.spanOk k).2.n ≤ 20000000000 ∧ 0 < (p.spanOk k).2.d ∧ (p.spanOk k).2.d ≤ 1000000000) := by
 have ⟨hk0, hk1, hk2⟩ := hf.rg k hk
 have hn8 := hf.n8
 have b1 := sumTo_bd (Pl.few_in hf (k := k))
 have b2 := sumTo_bd (Pl.many_in hf (k := k))
 exact ⟨odd_bd (by omega) (by omega) b1.1 (by omega) hf.c0 hf.c1, odd_bd (by omega) (by omega) b2.1 (by omega) hf.c0 hf.c1⟩
theorem c28 (p : Pl) (r s : Int) : Contract Try.prog 28 [p.sv, I r, I s] (.tup [fsv (p.board r s).1.1, fsv (p.board r s).1.2, I (p.board r s).2]) := by
 refine contract_of Try.func28 rfl (by kernel_rfl) follows (by kernel_rfl) _ _ (by rw [Try.ntmps28]; simp) (by simp [OldL, p.old]; simp [Old, I]) ?_
 by_cases ha : p.ask r = 0
 rotate_left
 ·rw [Pl.board_no ha]
  conv => arg 4; unfold Pl.sv rngs I
  (repeat' (first | with_reducible refine splitVC_d (fun _ => ?_) (fun _ => ?_) | ((with_reducible refine And.intro ?_ ?_); focus (first | exact True.intro | omega | (simp only [InK, ne_eq, and_true, true_and]; omega) | trivial)) | (simp -dsimp only [↓RP, RQ, implies_true, forall_const, Nat.reduceMul, reduceIte, reduceCtorEq, Nat.reduceAdd, Nat.reduceEqDiff, Nat.reduceLT, Nat.reduceLeDiff, TYp, fsv, B, I, by2, RZ, eq_self, TY, Try.results28])))
  refine callVC (c71 p r) (by (simp -dsimp only [↓RP, RQ, implies_true, forall_const, Nat.reduceMul, reduceIte, reduceCtorEq, Nat.reduceAdd, Nat.reduceEqDiff, Nat.reduceLT, Nat.reduceLeDiff, Pl.sv, rngs, I]); all_goals (try simp)) (by (simp -dsimp only [↓RP, RQ, implies_true, forall_const, Nat.reduceMul, reduceIte, reduceCtorEq, Nat.reduceAdd, Nat.reduceEqDiff, Nat.reduceLT, Nat.reduceLeDiff, fsv, I])) ?_
  (repeat' (first | with_reducible refine splitVC_d (fun _ => ?_) (fun _ => ?_) | ((with_reducible refine And.intro ?_ ?_); focus (first | exact True.intro | omega | (simp only [InK, ne_eq, and_true, true_and]; omega) | trivial)) | (simp -dsimp only [↓RP, RQ, implies_true, forall_const, Nat.reduceMul, reduceIte, reduceCtorEq, Nat.reduceAdd, Nat.reduceEqDiff, Nat.reduceLT, Nat.reduceLeDiff, TYp, fsv, B, I, by2, RZ, eq_self, TY, Try.results28])))
  all_goals first | (exfalso; omega) | skip
  all_goals first | exact ⟨rfl, rfl⟩ | exact ⟨⟨rfl, rfl⟩, ⟨rfl, rfl⟩⟩ | exact ⟨⟨rfl, rfl⟩, ⟨rfl, rfl⟩, rfl⟩ | skip
 have ⟨he, hr0, hr1⟩ := Pl.ask_iff.1 ha
 obtain ⟨k, rfl⟩ : ∃ k : Nat, r = k := ⟨r.toNat, by omega⟩
 have hf := Pl.fine he
 have hk : k < p.n := by omega
 by_cases hs : 1 ≤ s ∧ s ≤ 100
 rotate_left
 ·rw [Pl.board_2 ha hs]
  conv => arg 4; unfold Pl.sv rngs I
  (repeat' (first | with_reducible refine splitVC_d (fun _ => ?_) (fun _ => ?_) | ((with_reducible refine And.intro ?_ ?_); focus (first | exact True.intro | omega | (simp only [InK, ne_eq, and_true, true_and]; omega) | trivial)) | (simp -dsimp only [↓RP, RQ, implies_true, forall_const, Nat.reduceMul, reduceIte, reduceCtorEq, Nat.reduceAdd, Nat.reduceEqDiff, Nat.reduceLT, Nat.reduceLeDiff, TYp, fsv, B, I, by2, RZ, eq_self, TY, Try.results28])))
  refine callVC (c71 p k) (by (simp -dsimp only [↓RP, RQ, implies_true, forall_const, Nat.reduceMul, reduceIte, reduceCtorEq, Nat.reduceAdd, Nat.reduceEqDiff, Nat.reduceLT, Nat.reduceLeDiff, Pl.sv, rngs, I]); all_goals (try simp)) (by (simp -dsimp only [↓RP, RQ, implies_true, forall_const, Nat.reduceMul, reduceIte, reduceCtorEq, Nat.reduceAdd, Nat.reduceEqDiff, Nat.reduceLT, Nat.reduceLeDiff, fsv, I])) ?_
  rw [ha]
  (repeat' (first | with_reducible refine splitVC_d (fun _ => ?_) (fun _ => ?_) | ((with_reducible refine And.intro ?_ ?_); focus (first | exact True.intro | omega | (simp only [InK, ne_eq, and_true, true_and]; omega) | trivial)) | (simp -dsimp only [↓RP, RQ, implies_true, forall_const, Nat.reduceMul, reduceIte, reduceCtorEq, Nat.reduceAdd, Nat.reduceEqDiff, Nat.reduceLT, Nat.reduceLeDiff, TYp, fsv, B, I, by2, RZ, eq_self, TY, Try.results28])))
  all_goals first | (exfalso; omega) | skip
  refine callVC (c67_1 s 1 100) (by (simp -dsimp only [↓RP, RQ, implies_true, forall_const, Nat.reduceMul, reduceIte, reduceCtorEq, Nat.reduceAdd, Nat.reduceEqDiff, Nat.reduceLT, Nat.reduceLeDiff, Go.Od.ints, I]); all_goals (try simp)) (by (simp -dsimp only [↓RP, RQ, implies_true, forall_const, Nat.reduceMul, reduceIte, reduceCtorEq, Nat.reduceAdd, Nat.reduceEqDiff, Nat.reduceLT, Nat.reduceLeDiff, B])) ?_
  (repeat' (first | with_reducible refine splitVC_d (fun _ => ?_) (fun _ => ?_) | ((with_reducible refine And.intro ?_ ?_); focus (first | exact True.intro | omega | (simp only [InK, ne_eq, and_true, true_and]; omega) | trivial)) | (simp -dsimp only [↓RP, RQ, implies_true, forall_const, Nat.reduceMul, reduceIte, reduceCtorEq, Nat.reduceAdd, Nat.reduceEqDiff, Nat.reduceLT, Nat.reduceLeDiff, TYp, fsv, B, I, by2, RZ, eq_self, TY, Try.results28])))
  all_goals first | (exfalso; omega) | skip
  all_goals first | exact ⟨rfl, rfl⟩ | exact ⟨⟨rfl, rfl⟩, ⟨rfl, rfl⟩⟩ | exact ⟨⟨rfl, rfl⟩, ⟨rfl, rfl⟩, rfl⟩ | skip
 by_cases h0 : p.lo k = 0
 ·rw [Pl.board_20 ha hs h0]
  conv => arg 4; unfold Pl.sv rngs I
  (repeat' (first | with_reducible refine splitVC_d (fun _ => ?_) (fun _ => ?_) | ((with_reducible refine And.intro ?_ ?_); focus (first | exact True.intro | omega | (simp only [InK, ne_eq, and_true, true_and]; omega) | trivial)) | (simp -dsimp only [↓RP, RQ, implies_true, forall_const, Nat.reduceMul, reduceIte, reduceCtorEq, Nat.reduceAdd, Nat.reduceEqDiff, Nat.reduceLT, Nat.reduceLeDiff, TYp, fsv, B, I, by2, RZ, eq_self, TY, Try.results28])))
  refine callVC (c71 p k) (by (simp -dsimp only [↓RP, RQ, implies_true, forall_const, Nat.reduceMul, reduceIte, reduceCtorEq, Nat.reduceAdd, Nat.reduceEqDiff, Nat.reduceLT, Nat.reduceLeDiff, Pl.sv, rngs, I]); all_goals (try simp)) (by (simp -dsimp only [↓RP, RQ, implies_true, forall_const, Nat.reduceMul, reduceIte, reduceCtorEq, Nat.reduceAdd, Nat.reduceEqDiff, Nat.reduceLT, Nat.reduceLeDiff, fsv, I])) ?_
  rw [ha]
  (repeat' (first | with_reducible refine splitVC_d (fun _ => ?_) (fun _ => ?_) | ((with_reducible refine And.intro ?_ ?_); focus (first | exact True.intro | omega | (simp only [InK, ne_eq, and_true, true_and]; omega) | trivial)) | (simp -dsimp only [↓RP, RQ, implies_true, forall_const, Nat.reduceMul, reduceIte, reduceCtorEq, Nat.reduceAdd, Nat.reduceEqDiff, Nat.reduceLT, Nat.reduceLeDiff, TYp, fsv, B, I, by2, RZ, eq_self, TY, Try.results28])))
  all_goals first | (exfalso; omega) | skip
  refine callVC (c67_1 s 1 100) (by (simp -dsimp only [↓RP, RQ, implies_true, forall_const, Nat.reduceMul, reduceIte, reduceCtorEq, Nat.reduceAdd, Nat.reduceEqDiff, Nat.reduceLT, Nat.reduceLeDiff, Go.Od.ints, I]); all_goals (try simp)) (by (simp -dsimp only [↓RP, RQ, implies_true, forall_const, Nat.reduceMul, reduceIte, reduceCtorEq, Nat.reduceAdd, Nat.reduceEqDiff, Nat.reduceLT, Nat.reduceLeDiff, B])) ?_
  (repeat' (first | with_reducible refine splitVC_d (fun _ => ?_) (fun _ => ?_) | ((with_reducible refine And.intro ?_ ?_); focus (first | exact True.intro | omega | (simp only [InK, ne_eq, and_true, true_and]; omega) | trivial)) | (simp -dsimp only [↓RP, RQ, implies_true, forall_const, Nat.reduceMul, reduceIte, reduceCtorEq, Nat.reduceAdd, Nat.reduceEqDiff, Nat.reduceLT, Nat.reduceLeDiff, TYp, fsv, B, I, by2, RZ, eq_self, TY, Try.results28])))
  all_goals first | (exfalso; omega) | skip
  refine callVC (c26 p k) (by (simp -dsimp only [↓RP, RQ, implies_true, forall_const, Nat.reduceMul, reduceIte, reduceCtorEq, Nat.reduceAdd, Nat.reduceEqDiff, Nat.reduceLT, Nat.reduceLeDiff, Pl.sv, rngs, I]); all_goals (try simp)) (by (simp -dsimp only [↓RP, RQ, implies_true, forall_const, Nat.reduceMul, reduceIte, reduceCtorEq, Nat.reduceAdd, Nat.reduceEqDiff, Nat.reduceLT, Nat.reduceLeDiff, fsv, I])) ?_
  rw [Pl.span_20 ha h0]
  (repeat' (first | with_reducible refine splitVC_d (fun _ => ?_) (fun _ => ?_) | ((with_reducible refine And.intro ?_ ?_); focus (first | exact True.intro | omega | (simp only [InK, ne_eq, and_true, true_and]; omega) | trivial)) | (simp -dsimp only [↓RP, RQ, implies_true, forall_const, Nat.reduceMul, reduceIte, reduceCtorEq, Nat.reduceAdd, Nat.reduceEqDiff, Nat.reduceLT, Nat.reduceLeDiff, TYp, fsv, B, I, by2, RZ, eq_self, TY, Try.results28])))
  all_goals first | (exfalso; omega) | skip
  all_goals first | exact ⟨rfl, rfl⟩ | exact ⟨⟨rfl, rfl⟩, ⟨rfl, rfl⟩⟩ | exact ⟨⟨rfl, rfl⟩, ⟨rfl, rfl⟩, rfl⟩ | skip
 ·rw [Pl.board_0 ha hs h0]
  have ⟨⟨g1, g2, g3, g4⟩, g5, g6, g7, g8⟩ := Pl.span_bd hf hk h0
  conv => arg 4; unfold Pl.sv rngs I
  (repeat' (first | with_reducible refine splitVC_d (fun _ => ?_) (fun _ => ?_) | ((with_reducible refine And.intro ?_ ?_); focus (first | exact True.intro | omega | (simp only [InK, ne_eq, and_true, true_and]; omega) | trivial)) | (simp -dsimp only [↓RP, RQ, implies_true, forall_const, Nat.reduceMul, reduceIte, reduceCtorEq, Nat.reduceAdd, Nat.reduceEqDiff, Nat.reduceLT, Nat.reduceLeDiff, TYp, fsv, B, I, by2, RZ, eq_self, TY, Try.results28])))
  refine callVC (c71 p k) (by (simp -dsimp only [↓RP, RQ, implies_true, forall_const, Nat.reduceMul, reduceIte, reduceCtorEq, Nat.reduceAdd, Nat.reduceEqDiff, Nat.reduceLT, Nat.reduceLeDiff, Pl.sv, rngs, I]); all_goals (try simp)) (by (simp -dsimp only [↓RP, RQ, implies_true, forall_const, Nat.reduceMul, reduceIte, reduceCtorEq, Nat.reduceAdd, Nat.reduceEqDiff, Nat.reduceLT, Nat.reduceLeDiff, fsv, I])) ?_
  rw [ha]
  (repeat' (first | with_reducible refine splitVC_d (fun _ => ?_) (fun _ => ?_) | ((with_reducible refine And.intro ?_ ?_); focus (first | exact True.intro | omega | (simp only [InK, ne_eq, and_true, true_and]; omega) | trivial)) | (simp -dsimp only [↓RP, RQ, implies_true, forall_const, Nat.reduceMul, reduceIte, reduceCtorEq, Nat.reduceAdd, Nat.reduceEqDiff, Nat.reduceLT, Nat.reduceLeDiff, TYp, fsv, B, I, by2, RZ, eq_self, TY, Try.results28])))
  all_goals first | (exfalso; omega) | skip
  refine callVC (c67_1 s 1 100) (by (simp -dsimp only [↓RP, RQ, implies_true, forall_const, Nat.reduceMul, reduceIte, reduceCtorEq, Nat.reduceAdd, Nat.reduceEqDiff, Nat.reduceLT, Nat.reduceLeDiff, Go.Od.ints, I]); all_goals (try simp)) (by (simp -dsimp only [↓RP, RQ, implies_true, forall_const, Nat.reduceMul, reduceIte, reduceCtorEq, Nat.reduceAdd, Nat.reduceEqDiff, Nat.reduceLT, Nat.reduceLeDiff, B])) ?_
  (repeat' (first | with_reducible refine splitVC_d (fun _ => ?_) (fun _ => ?_) | ((with_reducible refine And.intro ?_ ?_); focus (first | exact True.intro | omega | (simp only [InK, ne_eq, and_true, true_and]; omega) | trivial)) | (simp -dsimp only [↓RP, RQ, implies_true, forall_const, Nat.reduceMul, reduceIte, reduceCtorEq, Nat.reduceAdd, Nat.reduceEqDiff, Nat.reduceLT, Nat.reduceLeDiff, TYp, fsv, B, I, by2, RZ, eq_self, TY, Try.results28])))
  all_goals first | (exfalso; omega) | skip
  refine callVC (c26 p k) (by (simp -dsimp only [↓RP, RQ, implies_true, forall_const, Nat.reduceMul, reduceIte, reduceCtorEq, Nat.reduceAdd, Nat.reduceEqDiff, Nat.reduceLT, Nat.reduceLeDiff, Pl.sv, rngs, I]); all_goals (try simp)) (by (simp -dsimp only [↓RP, RQ, implies_true, forall_const, Nat.reduceMul, reduceIte, reduceCtorEq, Nat.reduceAdd, Nat.reduceEqDiff, Nat.reduceLT, Nat.reduceLeDiff, fsv, I])) ?_
  rw [Pl.span_0 ha h0]
  unfold Pl.boardOk
  generalize (p.spanOk k).1 = lo at *
  generalize (p.spanOk k).2 = hi at *
  (repeat' (first | with_reducible refine splitVC_d (fun _ => ?_) (fun _ => ?_) | ((with_reducible refine And.intro ?_ ?_); focus (first | exact True.intro | omega | (simp only [InK, ne_eq, and_true, true_and]; omega) | trivial)) | (simp -dsimp only [↓RP, RQ, implies_true, forall_const, Nat.reduceMul, reduceIte, reduceCtorEq, Nat.reduceAdd, Nat.reduceEqDiff, Nat.reduceLT, Nat.reduceLeDiff, TYp, fsv, B, I, by2, RZ, eq_self, TY, Try.results28])))
  refine callVC (c74 lo g1 (by omega) g3 (by omega) s hs.1 hs.2) (by (simp -dsimp only [↓RP, RQ, implies_true, forall_const, Nat.reduceMul, reduceIte, reduceCtorEq, Nat.reduceAdd, Nat.reduceEqDiff, Nat.reduceLT, Nat.reduceLeDiff, fsv, Go.Od.ints, I, B]); all_goals (try simp)) (by (simp -dsimp only [↓RP, RQ, implies_true, forall_const, Nat.reduceMul, reduceIte, reduceCtorEq, Nat.reduceAdd, Nat.reduceEqDiff, Nat.reduceLT, Nat.reduceLeDiff, fsv, I])) ?_
  (repeat' (first | with_reducible refine splitVC_d (fun _ => ?_) (fun _ => ?_) | ((with_reducible refine And.intro ?_ ?_); focus (first | exact True.intro | omega | (simp only [InK, ne_eq, and_true, true_and]; omega) | trivial)) | (simp -dsimp only [↓RP, RQ, implies_true, forall_const, Nat.reduceMul, reduceIte, reduceCtorEq, Nat.reduceAdd, Nat.reduceEqDiff, Nat.reduceLT, Nat.reduceLeDiff, TYp, fsv, B, I, by2, RZ, eq_self, TY, Try.results28])))
  refine callVC (c74 hi g5 (by omega) g7 (by omega) s hs.1 hs.2) (by (simp -dsimp only [↓RP, RQ, implies_true, forall_const, Nat.reduceMul, reduceIte, reduceCtorEq, Nat.reduceAdd, Nat.reduceEqDiff, Nat.reduceLT, Nat.reduceLeDiff, fsv, Go.Od.ints, I, B]); all_goals (try simp)) (by (simp -dsimp only [↓RP, RQ, implies_true, forall_const, Nat.reduceMul, reduceIte, reduceCtorEq, Nat.reduceAdd, Nat.reduceEqDiff, Nat.reduceLT, Nat.reduceLeDiff, fsv, I])) ?_
  (repeat' (first | with_reducible refine splitVC_d (fun _ => ?_) (fun _ => ?_) | ((with_reducible refine And.intro ?_ ?_); focus (first | exact True.intro | omega | (simp only [InK, ne_eq, and_true, true_and]; omega) | trivial)) | (simp -dsimp only [↓RP, RQ, implies_true, forall_const, Nat.reduceMul, reduceIte, reduceCtorEq, Nat.reduceAdd, Nat.reduceEqDiff, Nat.reduceLT, Nat.reduceLeDiff, TYp, fsv, B, I, by2, RZ, eq_self, TY, Try.results28])))
  all_goals first | exact ⟨rfl, rfl⟩ | exact ⟨⟨rfl, rfl⟩, ⟨rfl, rfl⟩⟩ | exact ⟨⟨rfl, rfl⟩, ⟨rfl, rfl⟩, rfl⟩ | skip
end Go.Od
end
