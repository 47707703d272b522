/- A part of the proof. -/
import Derived.Test.YtbomildlhnllhaaOH
import Derived.Test.YtbomildlhnllhaaOB
section
set_option linter.unusedVariables false
set_option linter.unusedSimpArgs false
namespace Go.Od
open Go.Proofs
abbrev Mk.lo (M : Mk) : Nat → Fr := fun k : Nat => loS M.q k M.m
abbrev Mk.hi (M : Mk) : Nat → Fr := fun k : Nat => hiS M.q k M.m
theorem sumF_congr {f g : Nat → Fr} : ∀ {n : Nat}, (∀ j, j < n → f j = g j) → sumF f n = sumF g n
 | 0, _ => rfl
 | n + 1, e => by
  simp only [sumF]
  rw [sumF_congr (n := n) fun j hj => e j (by omega), e n (by omega)]
theorem sum_lo (M : Mk) : sumF (dlo M M.m) M.run.toNat = sumF M.lo M.run.toNat :=
 sumF_congr fun j hj => by unfold dlo; rw [if_pos (by omega)]
theorem sum_hi (M : Mk) : sumF (dhi M M.m) M.run.toNat = sumF M.hi M.run.toNat :=
 sumF_congr fun j hj => by unfold dhi; rw [if_pos (by omega)]
theorem fstI_neg {b : Nat → Bool} : ∀ {k i : Nat}, ¬ 0 ≤ fstI b i k → ∀ j, i ≤ j → j < i + k → b j = false
 | 0, i, _, j, h1, h2 => by omega
 | k + 1, i, h, j, h1, h2 => by
  simp only [fstI] at h
  split at h
  ·omega
  ·rename_i hb
   by_cases e : j = i
   ·subst e; simpa using hb
   ·exact fstI_neg h j (by omega) (by omega)
theorem sure_none {M : Mk} : sureV M = none ↔ fairB M := by
 unfold sureV fairB
 rw [sum_lo, sum_hi]
 constructor
 ·intro h
  split at h
  ·cases h
  ·rename_i h1
   split at h
   ·cases h
   ·rename_i h2
    split at h
    ·cases h
    ·rename_i h3
     refine ⟨fun r hr => ?_, h2, h3⟩
     have := fstI_neg h1 r (by omega) (by omega)
     unfold crossV at this
     exact of_decide_eq_false this
 ·rintro ⟨h1, h2, h3⟩
  rw [if_neg, if_neg h2, if_neg h3]
  intro h
  obtain ⟨j, _, e2, _, e4⟩ := fstI_ge h
  exact h1 j (by omega) (of_decide_eq_true e4)
theorem fair_of {M : Mk} (hf : M.Fine) (h : fairB M) : FairR M.lo M.hi M.run.toNat := by
 have cl : ∀ r : Nat, Ch (M.lo r) := fun r => loS_ch hf.od
 have ch : ∀ r : Nat, Ch (M.hi r) := fun r => hiS_ch hf.od
 have hr5 := hf.r5
 have hr1 := hf.r1
 obtain ⟨h1, h2, h3⟩ := h
 have ⟨a1, a2⟩ := rv_sum (f := M.lo) (n := M.run.toNat) fun j _ => (cl j).d1
 have ⟨b1, b2⟩ := rv_sum (f := M.hi) (n := M.run.toNat) fun j _ => (ch j).d1
 refine ⟨cl, ch, by omega, by omega, fun r hr => ?_, ?_, ?_⟩
 ·have := h1 r hr
  have e := rv_lt (ch r).d1 (cl r).d1
  have := fun x => this (e.2 x)
  grind
 ·rw [← a2]
  have e := rv_lt (show (0 : Int) < (⟨1, 1⟩ : Fr).d from Int.one_pos) a1
  have := fun x => h2 (e.2 x)
  rw [rv1] at this
  grind
 ·rw [← b2]
  have e := rv_lt b1 (show (0 : Int) < (⟨1, 1⟩ : Fr).d from Int.one_pos)
  have := fun x => h3 (e.2 x)
  rw [rv1] at this
  grind
theorem least (p : Nat → Prop) : ∀ n, (∀ j, j < n → p j) ∨ ∃ r, r < n ∧ (∀ j, j < r → p j) ∧ ¬ p r
 | 0 => .inl fun j hj => by omega
 | n + 1 => by
  rcases least p n with h | ⟨r, h1, h2, h3⟩
  ·by_cases hp : p n
   ·refine .inl fun j hj => ?_
    by_cases e : j = n
    ·subst e; exact hp
    ·exact h j (by omega)
   ·exact .inr ⟨n, by omega, h, hp⟩
  ·exact .inr ⟨r, by omega, h2, h3⟩
theorem FairR.stop {lo hi : Nat → Fr} {n : Nat} (h : FairR lo hi n) : ∃ r, Stop lo hi n r := by
 rcases least (fun j => lt (hi j) (left lo hi n j)) n with h1 | ⟨r, h1, h2, h3⟩
 ·exact (h.stops h1).elim
 ·exact ⟨r, h1, h2, h3⟩
end Go.Od
end
section
set_option linter.unusedSimpArgs false
set_option linter.unusedVariables false
set_option linter.defProp false
set_option maxRecDepth 100000
set_option maxHeartbeats 16000000
namespace Go.Od
open Go.Proofs
open Go.Sx
theorem c40e (M : Mk) (he : ¬ M.err = 0) : Contract Try.prog 40 [M.sv] (.tup [nilV, I M.err]) := by
 refine contract_of Try.func40 rfl (by kernel_rfl) follows (by kernel_rfl) _ _ (by rw [Try.ntmps40]; simp) (by simp only [OldL, Mk.old, and_self]) ?_
 conv => arg 4; unfold Mk.sv qts I
 (repeat' (first | with_reducible refine splitVC_d (fun _ => ?_) (fun _ => ?_) | with_reducible refine splitVC (fun _ => ?_) (fun _ => ?_) | ((with_reducible refine And.intro ?_ ?_); focus (first | exact True.intro | omega | (simp only [InK, ne_eq, and_true, true_and]; omega) | exact ⟨Nat.le_refl _, rfl⟩ | trivial)) | (simp -dsimp only [↓RP, RQ, implies_true, forall_const, Nat.reduceMul, reduceIte, reduceCtorEq, Nat.reduceAdd, Nat.reduceEqDiff, Nat.reduceLT, Nat.reduceLeDiff, I, TYm, TYn, TYw, QF, fsv, B, by2, RZ, eq_self, TY, Try.results40])))
 refine callVC (c35 M) (by (simp -dsimp only [↓RP, RQ, implies_true, forall_const, Nat.reduceMul, reduceIte, reduceCtorEq, Nat.reduceAdd, Nat.reduceEqDiff, Nat.reduceLT, Nat.reduceLeDiff, Mk.sv, qts, I]); all_goals (try simp [sub_q])) (by (simp -dsimp only [↓RP, RQ, implies_true, forall_const, Nat.reduceMul, reduceIte, reduceCtorEq, Nat.reduceAdd, Nat.reduceEqDiff, Nat.reduceLT, Nat.reduceLeDiff, fsv, I])) ?_
 (repeat' (first | with_reducible refine splitVC_d (fun _ => ?_) (fun _ => ?_) | with_reducible refine splitVC (fun _ => ?_) (fun _ => ?_) | ((with_reducible refine And.intro ?_ ?_); focus (first | exact True.intro | omega | (simp only [InK, ne_eq, and_true, true_and]; omega) | exact ⟨Nat.le_refl _, rfl⟩ | trivial)) | (simp -dsimp only [↓RP, RQ, implies_true, forall_const, Nat.reduceMul, reduceIte, reduceCtorEq, Nat.reduceAdd, Nat.reduceEqDiff, Nat.reduceLT, Nat.reduceLeDiff, I, TYm, TYn, TYw, QF, fsv, B, by2, RZ, eq_self, TY, Try.results40])))
 all_goals first | (exfalso; omega) | skip
 all_goals first | exact ⟨rfl, rfl⟩ | exact ⟨⟨rfl, rfl⟩, ⟨rfl, rfl⟩⟩ | exact ⟨⟨rfl, rfl⟩, rfl⟩ | exact ⟨⟨rfl, rfl⟩, ⟨rfl, rfl⟩, rfl⟩ | skip
theorem c40n (M : Mk) (hf : M.Fine) (l : List Nat) (hs : sureV M = some l) : Contract Try.prog 40 [M.sv] (.tup [nilV, I 20]) := by
 refine contract_of Try.func40 rfl (by kernel_rfl) follows (by kernel_rfl) _ _ (by rw [Try.ntmps40]; simp) (by simp only [OldL, Mk.old, and_self]) ?_
 conv => arg 4; unfold Mk.sv qts I
 (repeat' (first | with_reducible refine splitVC_d (fun _ => ?_) (fun _ => ?_) | with_reducible refine splitVC (fun _ => ?_) (fun _ => ?_) | ((with_reducible refine And.intro ?_ ?_); focus (first | exact True.intro | omega | (simp only [InK, ne_eq, and_true, true_and]; omega) | exact ⟨Nat.le_refl _, rfl⟩ | trivial)) | (simp -dsimp only [↓RP, RQ, implies_true, forall_const, Nat.reduceMul, reduceIte, reduceCtorEq, Nat.reduceAdd, Nat.reduceEqDiff, Nat.reduceLT, Nat.reduceLeDiff, I, TYm, TYn, TYw, QF, fsv, B, by2, RZ, eq_self, TY, Try.results40])))
 refine callVC (c35 M) (by (simp -dsimp only [↓RP, RQ, implies_true, forall_const, Nat.reduceMul, reduceIte, reduceCtorEq, Nat.reduceAdd, Nat.reduceEqDiff, Nat.reduceLT, Nat.reduceLeDiff, Mk.sv, qts, I]); all_goals (try simp [sub_q])) (by (simp -dsimp only [↓RP, RQ, implies_true, forall_const, Nat.reduceMul, reduceIte, reduceCtorEq, Nat.reduceAdd, Nat.reduceEqDiff, Nat.reduceLT, Nat.reduceLeDiff, fsv, I])) ?_
 rw [Mk.Fine.err hf]
 (repeat' (first | with_reducible refine splitVC_d (fun _ => ?_) (fun _ => ?_) | with_reducible refine splitVC (fun _ => ?_) (fun _ => ?_) | ((with_reducible refine And.intro ?_ ?_); focus (first | exact True.intro | omega | (simp only [InK, ne_eq, and_true, true_and]; omega) | exact ⟨Nat.le_refl _, rfl⟩ | trivial)) | (simp -dsimp only [↓RP, RQ, implies_true, forall_const, Nat.reduceMul, reduceIte, reduceCtorEq, Nat.reduceAdd, Nat.reduceEqDiff, Nat.reduceLT, Nat.reduceLeDiff, I, TYm, TYn, TYw, QF, fsv, B, by2, RZ, eq_self, TY, Try.results40])))
 all_goals first | (exfalso; omega) | skip
 refine callE (by rfl) (e85 M hf _ _ (Under.nil.cons (by omega))) fun hp' nid' res ⟨q1, q2, q3⟩ => ?_
 subst q1 q3
 have NB := nbF q2
 have NB2 := nbG q2
 have NB3 : True := trivial
 (repeat' (first | with_reducible refine splitVC_d (fun _ => ?_) (fun _ => ?_) | with_reducible refine splitVC (fun _ => ?_) (fun _ => ?_) | ((with_reducible refine And.intro ?_ ?_); focus (first | exact True.intro | omega | (simp only [InK, ne_eq, and_true, true_and]; omega) | trivial)) | (simp -dsimp only [↓RP, RQ, implies_true, forall_const, Nat.reduceMul, reduceIte, reduceCtorEq, Nat.reduceAdd, Nat.reduceEqDiff, Nat.reduceLT, Nat.reduceLeDiff, NB, NB2, NB3, Nat.add_zero, Nat.add_assoc, self_F1, self_F2, TYn, TYm, TYw, QF, fsv, B, I, by2, RZ, eq_self, TY, Try.results40])))
 refine callE (by rfl) (e86 M hf _ _ _ _ (by omega) (by omega) (by omega) ((Under.nil.cons (by omega)).cons (by omega)) (by simp [blk]) (by simp [blk])) fun hp' nid2 res ⟨q4, q5⟩ => ?_
 rw [hs] at q5
 rcases q5 with ⟨_, q6, q7⟩ | ⟨rid, row, g1, g2, g3, q6, q7⟩
 ·subst q6 q7
  (repeat' (first | with_reducible refine splitVC_d (fun _ => ?_) (fun _ => ?_) | with_reducible refine splitVC (fun _ => ?_) (fun _ => ?_) | ((with_reducible refine And.intro ?_ ?_); focus (first | exact True.intro | omega | (simp only [InK, ne_eq, and_true, true_and]; omega) | trivial)) | (simp -dsimp only [↓RP, RQ, implies_true, forall_const, Nat.reduceMul, reduceIte, reduceCtorEq, Nat.reduceAdd, Nat.reduceEqDiff, Nat.reduceLT, Nat.reduceLeDiff, B, I, NB, NB2, NB3, Nat.add_zero, Nat.add_assoc, self_F1, self_F2, TYn, TYm, TYw, QF, fsv, by2, RZ, eq_self, TY, Try.results40])))
  all_goals first | exact ⟨rfl, rfl⟩ | exact ⟨⟨rfl, rfl⟩, ⟨rfl, rfl⟩⟩ | exact ⟨⟨rfl, rfl⟩, rfl⟩ | exact ⟨⟨rfl, rfl⟩, ⟨rfl, rfl⟩, rfl⟩ | skip
 ·subst q6 q7
  (repeat' (first | with_reducible refine splitVC_d (fun _ => ?_) (fun _ => ?_) | with_reducible refine splitVC (fun _ => ?_) (fun _ => ?_) | ((with_reducible refine And.intro ?_ ?_); focus (first | exact True.intro | omega | (simp only [InK, ne_eq, and_true, true_and]; omega) | trivial)) | (simp -dsimp only [↓RP, RQ, implies_true, forall_const, Nat.reduceMul, reduceIte, reduceCtorEq, Nat.reduceAdd, Nat.reduceEqDiff, Nat.reduceLT, Nat.reduceLeDiff, B, I, NB, NB2, NB3, Nat.add_zero, Nat.add_assoc, self_F1, self_F2, TYn, TYm, TYw, QF, fsv, by2, RZ, eq_self, TY, Try.results40])))
  all_goals first | exact ⟨rfl, rfl⟩ | exact ⟨⟨rfl, rfl⟩, ⟨rfl, rfl⟩⟩ | exact ⟨⟨rfl, rfl⟩, rfl⟩ | exact ⟨⟨rfl, rfl⟩, ⟨rfl, rfl⟩, rfl⟩ | skip
theorem c40s (M : Mk) (hf : M.Fine) (hs : sureV M = none) (r : Nat) (hS : Stop M.lo M.hi M.run.toNat r) : Contract Try.prog 40 [M.sv] (.tup [.arr true false M.run.toNat 1 (fun i _ => .val (.int .i64 (chI (ownF M.lo M.hi M.run.toNat r) (aD (ownF M.lo M.hi M.run.toNat r) M.run.toNat) i))), I 0]) := by
 refine contract_of Try.func40 rfl (by kernel_rfl) follows (by kernel_rfl) _ _ (by rw [Try.ntmps40]; simp) (by simp only [OldL, Mk.old, and_self]) ?_
 conv => arg 4; unfold Mk.sv qts I
 (repeat' (first | with_reducible refine splitVC_d (fun _ => ?_) (fun _ => ?_) | with_reducible refine splitVC (fun _ => ?_) (fun _ => ?_) | ((with_reducible refine And.intro ?_ ?_); focus (first | exact True.intro | omega | (simp only [InK, ne_eq, and_true, true_and]; omega) | exact ⟨Nat.le_refl _, rfl⟩ | trivial)) | (simp -dsimp only [↓RP, RQ, implies_true, forall_const, Nat.reduceMul, reduceIte, reduceCtorEq, Nat.reduceAdd, Nat.reduceEqDiff, Nat.reduceLT, Nat.reduceLeDiff, I, TYm, TYn, TYw, QF, fsv, B, by2, RZ, eq_self, TY, Try.results40])))
 refine callVC (c35 M) (by (simp -dsimp only [↓RP, RQ, implies_true, forall_const, Nat.reduceMul, reduceIte, reduceCtorEq, Nat.reduceAdd, Nat.reduceEqDiff, Nat.reduceLT, Nat.reduceLeDiff, Mk.sv, qts, I]); all_goals (try simp [sub_q])) (by (simp -dsimp only [↓RP, RQ, implies_true, forall_const, Nat.reduceMul, reduceIte, reduceCtorEq, Nat.reduceAdd, Nat.reduceEqDiff, Nat.reduceLT, Nat.reduceLeDiff, fsv, I])) ?_
 rw [Mk.Fine.err hf]
 (repeat' (first | with_reducible refine splitVC_d (fun _ => ?_) (fun _ => ?_) | with_reducible refine splitVC (fun _ => ?_) (fun _ => ?_) | ((with_reducible refine And.intro ?_ ?_); focus (first | exact True.intro | omega | (simp only [InK, ne_eq, and_true, true_and]; omega) | exact ⟨Nat.le_refl _, rfl⟩ | trivial)) | (simp -dsimp only [↓RP, RQ, implies_true, forall_const, Nat.reduceMul, reduceIte, reduceCtorEq, Nat.reduceAdd, Nat.reduceEqDiff, Nat.reduceLT, Nat.reduceLeDiff, I, TYm, TYn, TYw, QF, fsv, B, by2, RZ, eq_self, TY, Try.results40])))
 all_goals first | (exfalso; omega) | skip
 refine callE (by rfl) (e85 M hf _ _ (Under.nil.cons (by omega))) fun hp' nid' res ⟨q1, q2, q3⟩ => ?_
 subst q1 q3
 have NB := nbF q2
 have NB2 := nbG q2
 have NB3 : True := trivial
 (repeat' (first | with_reducible refine splitVC_d (fun _ => ?_) (fun _ => ?_) | with_reducible refine splitVC (fun _ => ?_) (fun _ => ?_) | ((with_reducible refine And.intro ?_ ?_); focus (first | exact True.intro | omega | (simp only [InK, ne_eq, and_true, true_and]; omega) | trivial)) | (simp -dsimp only [↓RP, RQ, implies_true, forall_const, Nat.reduceMul, reduceIte, reduceCtorEq, Nat.reduceAdd, Nat.reduceEqDiff, Nat.reduceLT, Nat.reduceLeDiff, NB, NB2, NB3, Nat.add_zero, Nat.add_assoc, self_F1, self_F2, TYn, TYm, TYw, QF, fsv, B, I, by2, RZ, eq_self, TY, Try.results40])))
 refine callE (by rfl) (e86 M hf _ _ _ _ (by omega) (by omega) (by omega) ((Under.nil.cons (by omega)).cons (by omega)) (by simp [blk]) (by simp [blk])) fun hp' nid2 res ⟨q4, q5⟩ => ?_
 rw [hs] at q5
 obtain ⟨q5, q6⟩ := q5
 subst q5 q6
 have hF := fair_of hf (sure_none.1 hs)
 have hr1 := hf.r1
 (repeat' (first | with_reducible refine splitVC_d (fun _ => ?_) (fun _ => ?_) | with_reducible refine splitVC (fun _ => ?_) (fun _ => ?_) | ((with_reducible refine And.intro ?_ ?_); focus (first | exact True.intro | omega | (simp only [InK, ne_eq, and_true, true_and]; omega) | trivial)) | (simp -dsimp only [↓RP, RQ, implies_true, forall_const, Nat.reduceMul, reduceIte, reduceCtorEq, Nat.reduceAdd, Nat.reduceEqDiff, Nat.reduceLT, Nat.reduceLeDiff, B, I, NB, NB2, NB3, Nat.add_zero, Nat.add_assoc, self_F1, self_F2, TYn, TYm, TYw, QF, fsv, by2, RZ, eq_self, TY, Try.results40])))
 refine callE (by rfl) (e88 M hf M.run.toNat r (by omega) hF hS _ _ _ _ (by omega) ((Under.nil.cons (by omega)).cons (by omega)) (by simp [blk])) fun hp' nid3 res ⟨q7, rid, row, g1, g2, g3, q8, q9⟩ => ?_
 subst q8 q9
 (repeat' (first | with_reducible refine splitVC_d (fun _ => ?_) (fun _ => ?_) | with_reducible refine splitVC (fun _ => ?_) (fun _ => ?_) | ((with_reducible refine And.intro ?_ ?_); focus (first | exact True.intro | omega | (simp only [InK, ne_eq, and_true, true_and]; omega) | trivial)) | (simp -dsimp only [↓RP, RQ, implies_true, forall_const, Nat.reduceMul, reduceIte, reduceCtorEq, Nat.reduceAdd, Nat.reduceEqDiff, Nat.reduceLT, Nat.reduceLeDiff, B, I, NB, NB2, NB3, Nat.add_zero, Nat.add_assoc, self_F1, self_F2, TYn, TYm, TYw, QF, fsv, by2, RZ, eq_self, TY, Try.results40])))
 exact fun i j hi hj => by
  obtain rfl : j = 0 := by omega
  exact g3 i hi
end Go.Od
end
section
set_option linter.unusedSimpArgs false
set_option linter.unusedVariables false
set_option linter.defProp false
set_option maxRecDepth 100000
set_option maxHeartbeats 16000000
namespace Go.Od
open Go.Proofs
open Go.Sx
theorem TYq : True ∧ tyOf Try.prog 36 = some ⟨true, 2, some [.slice none 0 0, .int .i64 0], .struct [(0, 1, some false), (1, 1, some false)]⟩ ∧ placesOf Try.prog 36 = some [(0, 1), (1, 1)] ∧ tyOf Try.prog 34 = some ⟨false, 1, some [.slice none 0 0], .slice 66 2⟩ ∧ tyOf Try.prog 66 = some ⟨true, 2, some [.int .i64 0, .int .i64 0], .struct [(0, 1, some false), (1, 1, some false)]⟩ ∧ placesOf Try.prog 66 = some [(0, 1), (1, 1)] := ⟨trivial, by kernel_rfl, by kernel_rfl, by kernel_rfl, by kernel_rfl, by kernel_rfl⟩
theorem c50 (a b : Int) : Contract Try.prog 50 [I a, I b] (fsv ⟨a, b⟩) := by
 refine contract_of Try.func50 rfl (by kernel_rfl) follows (by kernel_rfl) _ _ (by rw [Try.ntmps50]; simp) (by simp [OldL, Old, I]) ?_
 unfold fsv I
 (repeat' (first | with_reducible refine splitVC_d (fun _ => ?_) (fun _ => ?_) | with_reducible refine splitVC (fun _ => ?_) (fun _ => ?_) | ((with_reducible refine And.intro ?_ ?_); focus (first | exact True.intro | omega | (simp only [InK, ne_eq, and_true, true_and]; omega) | trivial)) | (simp -dsimp only [↓RP, RQ, implies_true, forall_const, Nat.reduceMul, reduceIte, reduceCtorEq, Nat.reduceAdd, Nat.reduceEqDiff, Nat.reduceLT, Nat.reduceLeDiff, TYq, TYm, TYn, TYw, QF, fsv, B, I, by2, RZ, eq_self, TY, Try.results50])))
 all_goals first | exact ⟨rfl, rfl⟩ | exact ⟨⟨rfl, rfl⟩, ⟨rfl, rfl⟩⟩ | exact ⟨⟨rfl, rfl⟩, rfl⟩ | exact ⟨⟨rfl, rfl⟩, ⟨rfl, rfl⟩, rfl⟩ | skip
theorem c58 (q : Qt) : Contract Try.prog 58 [I q.r, I q.n, I q.d, B q.l] (qsv q) := by
 refine contract_of Try.func58 rfl (by kernel_rfl) follows (by kernel_rfl) _ _ (by rw [Try.ntmps58]; simp) (by simp [OldL, Old, I, B]) ?_
 unfold qsv I B
 (repeat' (first | with_reducible refine splitVC_d (fun _ => ?_) (fun _ => ?_) | with_reducible refine splitVC (fun _ => ?_) (fun _ => ?_) | ((with_reducible refine And.intro ?_ ?_); focus (first | exact True.intro | omega | (simp only [InK, ne_eq, and_true, true_and]; omega) | trivial)) | (simp -dsimp only [↓RP, RQ, implies_true, forall_const, Nat.reduceMul, reduceIte, reduceCtorEq, Nat.reduceAdd, Nat.reduceEqDiff, Nat.reduceLT, Nat.reduceLeDiff, TYq, TYm, TYn, TYw, QF, fsv, B, I, by2, RZ, eq_self, TY, Try.results58])))
 all_goals first | exact ⟨rfl, rfl⟩ | exact ⟨⟨rfl, rfl⟩, ⟨rfl, rfl⟩⟩ | exact ⟨⟨rfl, rfl⟩, rfl⟩ | exact ⟨⟨rfl, rfl⟩, ⟨rfl, rfl⟩, rfl⟩ | skip
theorem c32 (M : Mk) : Contract Try.prog 32 [M.sv] (B (decide (20 < M.m))) := by
 refine contract_of Try.func32 rfl (by kernel_rfl) follows (by kernel_rfl) _ _ (by rw [Try.ntmps32]; simp) (by simp only [OldL, Mk.old, and_self]) ?_
 unfold B
 conv => arg 4; unfold Mk.sv qts I
 (repeat' (first | with_reducible refine splitVC_d (fun _ => ?_) (fun _ => ?_) | with_reducible refine splitVC (fun _ => ?_) (fun _ => ?_) | ((with_reducible refine And.intro ?_ ?_); focus (first | exact True.intro | omega | (simp only [InK, ne_eq, and_true, true_and]; omega) | trivial)) | (simp -dsimp only [↓RP, RQ, implies_true, forall_const, Nat.reduceMul, reduceIte, reduceCtorEq, Nat.reduceAdd, Nat.reduceEqDiff, Nat.reduceLT, Nat.reduceLeDiff, TYq, TYm, TYn, TYw, QF, fsv, B, I, by2, RZ, eq_self, TY, Try.results32])))
 refine B_eq ?_; rw [Bool.eq_iff_iff]; simp; omega
def wP : Pl := ⟨3, fun i => [50, 30, 10].getD i 0, fun i => [60, 30, 10].getD i 0, 100⟩
def wM : Mk := ⟨2, 2, fun i => [⟨0, 3, 2, false⟩, ⟨1, 1, 1, false⟩].getD i ⟨0, 0, 0, false⟩⟩
def wF : Mk := ⟨2, 3, fun i => [⟨0, 1, 1, false⟩, ⟨0, 3, 2, true⟩, ⟨1, 1, 1, false⟩].getD i ⟨0, 0, 0, false⟩⟩
def Pl.svT (p : Pl) : SV := .agg [.arr true false p.n 2 (fun i j => .val (.int .i64 (if j = 0 then p.lo i else p.hi i))), I p.cut]
def Mk.svT (M : Mk) : SV := .agg [I M.run, .arr true false M.m 4 (fun i j => qf (M.q i) j)]
theorem c60  : Contract Try.prog 60 [] wP.svT := by
 refine contract_of Try.func60 rfl (by kernel_rfl) follows (by kernel_rfl) _ _ (by rw [Try.ntmps60]; simp) (by simp only [OldL]) ?_
 unfold Pl.svT wP I
 (repeat' (first | with_reducible refine splitVC_d (fun _ => ?_) (fun _ => ?_) | with_reducible refine splitVC (fun _ => ?_) (fun _ => ?_) | ((with_reducible refine And.intro ?_ ?_); focus (first | exact True.intro | omega | (simp only [InK, ne_eq, and_true, true_and]; omega) | trivial)) | (simp -dsimp only [↓RP, RQ, implies_true, forall_const, Nat.reduceMul, reduceIte, reduceCtorEq, Nat.reduceAdd, Nat.reduceEqDiff, Nat.reduceLT, Nat.reduceLeDiff, TYq, TYm, TYn, TYw, QF, fsv, B, I, by2, RZ, eq_self, TY, Try.results60])))
 intro i j hi hj
 have h1 : i = 0 ∨ i = 1 ∨ i = 2 := by omega
 have h2 : j = 0 ∨ j = 1 := by omega
 rcases h1 with rfl | rfl | rfl <;> rcases h2 with rfl | rfl <;> rfl
theorem c61  : Contract Try.prog 61 [] (.tup [wM.svT, wF.svT]) := by
 refine contract_of Try.func61 rfl (by kernel_rfl) follows (by kernel_rfl) _ _ (by rw [Try.ntmps61]; simp) (by simp only [OldL]) ?_
 unfold Mk.svT wM wF I
 (repeat' (first | with_reducible refine splitVC_d (fun _ => ?_) (fun _ => ?_) | with_reducible refine splitVC (fun _ => ?_) (fun _ => ?_) | ((with_reducible refine And.intro ?_ ?_); focus (first | exact True.intro | omega | (simp only [InK, ne_eq, and_true, true_and]; omega) | trivial)) | (simp -dsimp only [↓RP, RQ, implies_true, forall_const, Nat.reduceMul, reduceIte, reduceCtorEq, Nat.reduceAdd, Nat.reduceEqDiff, Nat.reduceLT, Nat.reduceLeDiff, qsv, TYq, TYm, TYn, TYw, QF, fsv, B, I, by2, RZ, eq_self, TY, Try.results61])))
 skip
 refine callVC (c58 ⟨0, 3, 2, false⟩) ?_ ?_ ?_; iterate 2 focus ((simp -dsimp only [↓RP, RQ, implies_true, forall_const, Nat.reduceMul, reduceIte, reduceCtorEq, Nat.reduceAdd, Nat.reduceEqDiff, Nat.reduceLT, Nat.reduceLeDiff, qsv, I, B]); all_goals (try simp))
 (repeat' (first | with_reducible refine splitVC_d (fun _ => ?_) (fun _ => ?_) | with_reducible refine splitVC (fun _ => ?_) (fun _ => ?_) | ((with_reducible refine And.intro ?_ ?_); focus (first | exact True.intro | omega | (simp only [InK, ne_eq, and_true, true_and]; omega) | trivial)) | (simp -dsimp only [↓RP, RQ, implies_true, forall_const, Nat.reduceMul, reduceIte, reduceCtorEq, Nat.reduceAdd, Nat.reduceEqDiff, Nat.reduceLT, Nat.reduceLeDiff, qsv, TYq, TYm, TYn, TYw, QF, fsv, B, I, by2, RZ, eq_self, TY, Try.results61])))
 skip
 refine callVC (c58 ⟨1, 1, 1, false⟩) ?_ ?_ ?_; iterate 2 focus ((simp -dsimp only [↓RP, RQ, implies_true, forall_const, Nat.reduceMul, reduceIte, reduceCtorEq, Nat.reduceAdd, Nat.reduceEqDiff, Nat.reduceLT, Nat.reduceLeDiff, qsv, I, B]); all_goals (try simp))
 (repeat' (first | with_reducible refine splitVC_d (fun _ => ?_) (fun _ => ?_) | with_reducible refine splitVC (fun _ => ?_) (fun _ => ?_) | ((with_reducible refine And.intro ?_ ?_); focus (first | exact True.intro | omega | (simp only [InK, ne_eq, and_true, true_and]; omega) | trivial)) | (simp -dsimp only [↓RP, RQ, implies_true, forall_const, Nat.reduceMul, reduceIte, reduceCtorEq, Nat.reduceAdd, Nat.reduceEqDiff, Nat.reduceLT, Nat.reduceLeDiff, qsv, TYq, TYm, TYn, TYw, QF, fsv, B, I, by2, RZ, eq_self, TY, Try.results61])))
 skip
 refine callVC (c58 ⟨0, 1, 1, false⟩) ?_ ?_ ?_; iterate 2 focus ((simp -dsimp only [↓RP, RQ, implies_true, forall_const, Nat.reduceMul, reduceIte, reduceCtorEq, Nat.reduceAdd, Nat.reduceEqDiff, Nat.reduceLT, Nat.reduceLeDiff, qsv, I, B]); all_goals (try simp))
 (repeat' (first | with_reducible refine splitVC_d (fun _ => ?_) (fun _ => ?_) | with_reducible refine splitVC (fun _ => ?_) (fun _ => ?_) | ((with_reducible refine And.intro ?_ ?_); focus (first | exact True.intro | omega | (simp only [InK, ne_eq, and_true, true_and]; omega) | trivial)) | (simp -dsimp only [↓RP, RQ, implies_true, forall_const, Nat.reduceMul, reduceIte, reduceCtorEq, Nat.reduceAdd, Nat.reduceEqDiff, Nat.reduceLT, Nat.reduceLeDiff, qsv, TYq, TYm, TYn, TYw, QF, fsv, B, I, by2, RZ, eq_self, TY, Try.results61])))
 skip
 refine callVC (c58 ⟨0, 3, 2, true⟩) ?_ ?_ ?_; iterate 2 focus ((simp -dsimp only [↓RP, RQ, implies_true, forall_const, Nat.reduceMul, reduceIte, reduceCtorEq, Nat.reduceAdd, Nat.reduceEqDiff, Nat.reduceLT, Nat.reduceLeDiff, qsv, I, B]); all_goals (try simp))
 (repeat' (first | with_reducible refine splitVC_d (fun _ => ?_) (fun _ => ?_) | with_reducible refine splitVC (fun _ => ?_) (fun _ => ?_) | ((with_reducible refine And.intro ?_ ?_); focus (first | exact True.intro | omega | (simp only [InK, ne_eq, and_true, true_and]; omega) | trivial)) | (simp -dsimp only [↓RP, RQ, implies_true, forall_const, Nat.reduceMul, reduceIte, reduceCtorEq, Nat.reduceAdd, Nat.reduceEqDiff, Nat.reduceLT, Nat.reduceLeDiff, qsv, TYq, TYm, TYn, TYw, QF, fsv, B, I, by2, RZ, eq_self, TY, Try.results61])))
 skip
 refine callVC (c58 ⟨1, 1, 1, false⟩) ?_ ?_ ?_; iterate 2 focus ((simp -dsimp only [↓RP, RQ, implies_true, forall_const, Nat.reduceMul, reduceIte, reduceCtorEq, Nat.reduceAdd, Nat.reduceEqDiff, Nat.reduceLT, Nat.reduceLeDiff, qsv, I, B]); all_goals (try simp))
 (repeat' (first | with_reducible refine splitVC_d (fun _ => ?_) (fun _ => ?_) | with_reducible refine splitVC (fun _ => ?_) (fun _ => ?_) | ((with_reducible refine And.intro ?_ ?_); focus (first | exact True.intro | omega | (simp only [InK, ne_eq, and_true, true_and]; omega) | trivial)) | (simp -dsimp only [↓RP, RQ, implies_true, forall_const, Nat.reduceMul, reduceIte, reduceCtorEq, Nat.reduceAdd, Nat.reduceEqDiff, Nat.reduceLT, Nat.reduceLeDiff, qsv, TYq, TYm, TYn, TYw, QF, fsv, B, I, by2, RZ, eq_self, TY, Try.results61])))
 refine ⟨fun i j hi hj => ?_, fun i j hi hj => ?_⟩
 ·have h1 : i = 0 ∨ i = 1 := by omega
  have h2 : j = 0 ∨ j = 1 ∨ j = 2 ∨ j = 3 := by omega
  rcases h1 with rfl | rfl <;> rcases h2 with rfl | rfl | rfl | rfl <;> simp [Go.Sx.Sub, qf]
 ·have h1 : i = 0 ∨ i = 1 ∨ i = 2 := by omega
  have h2 : j = 0 ∨ j = 1 ∨ j = 2 ∨ j = 3 := by omega
  rcases h1 with rfl | rfl | rfl <;> rcases h2 with rfl | rfl | rfl | rfl <;> simp [Go.Sx.Sub, qf]
theorem k16 : nearV ⟨31, 50⟩ 5 = ((⟨3, 5⟩, ⟨2, 3⟩), 0) := by kernel_rfl
theorem k20 : ckV ⟨31, 50⟩ 5 ⟨1, 2⟩ ⟨2, 3⟩ = 14 := by kernel_rfl
theorem k18 : rndV ⟨3, 4⟩ 2 = (⟨1, 2⟩, 0) := by kernel_rfl
theorem k23 : simV ⟨31, 50⟩ ⟨33, 50⟩ = (⟨5, 8⟩, 0) := by kernel_rfl
theorem k26 : wP.span 0 = ((⟨1, 2⟩, ⟨31, 50⟩), 0) := by kernel_rfl
theorem k28 : wP.board 0 5 = ((⟨1, 2⟩, ⟨3, 5⟩), 0) := by kernel_rfl
theorem k33 : wF.net 3 (fun i => [2, 2, 2].getD i 0) 0 = (⟨-3, 1⟩, 0) := by kernel_rfl
theorem k37 : wM.ckS 2 (fun i => [5, 5].getD i 0) = 14 := by kernel_rfl
theorem k39 : sureV wM = some [0, 1] := by kernel_rfl
theorem k39b : sureV wF = none := by kernel_rfl
theorem wMe : wM.err = 0 := by kernel_rfl
theorem wFe : wF.err = 0 := by kernel_rfl
theorem kS : Stop wF.lo wF.hi wF.run.toNat 1 := by
 refine ⟨by decide, fun j hj => ?_, of_decide_eq_false (by kernel_rfl)⟩
 obtain rfl : j = 0 := by omega
 exact of_decide_eq_true (by kernel_rfl)
theorem k43 : wF.chE 2 (fun i => [2, 3].getD i 0) = 20 := by kernel_rfl
theorem k38 : wM.ckS 2 (fun i => stR wM.q [0, 1] (aL wM.q [0, 1] 2) 2 i) = 0 := by kernel_rfl
theorem k44 : wF.chE 2 (fun i => chI (ownF wF.lo wF.hi 2 1) (aD (ownF wF.lo wF.hi 2 1) 2) i) = 0 := by kernel_rfl
end Go.Od
end
section
set_option linter.unusedSimpArgs false
set_option linter.unusedVariables false
set_option linter.defProp false
set_option maxRecDepth 100000
set_option maxHeartbeats 16000000
namespace Go.Od
open Go.Proofs
open Go.Sx
theorem fresh_q (q : Qt) : ∀ j, Fresh (qf q j)
 | 0 => by simp [qf, Fresh]
 | 1 => by simp [qf, Fresh]
 | 2 => by simp [qf, Fresh]
 | _ + 3 => by simp [qf, Fresh]
theorem c22  : Contract Try.prog 22 [] (B true) := by
 refine contract_of Try.func22 rfl (by kernel_rfl) follows (by kernel_rfl) _ _ (by rw [Try.ntmps22]; simp) (by simp only [OldL]) ?_
 have h16 := c16 ⟨31, 50⟩ 5
 rw [k16] at h16
 have h20 := c20 ⟨31, 50⟩ 5 ⟨1, 2⟩ ⟨2, 3⟩
 rw [k20] at h20
 have h18 := c18 ⟨3, 4⟩ 2
 rw [k18] at h18
 have h23 := c23 ⟨31, 50⟩ ⟨33, 50⟩
 rw [k23] at h23
 have h26 := c26 wP 0
 rw [k26] at h26
 have h28 := c28 wP 0 5
 rw [k28] at h28
 have h33 := c33 wF 3 (by omega) (fun i => [2, 2, 2].getD i 0) 0
 rw [k33] at h33
 have h37 := c37 wM 2 (by omega) (fun i => [5, 5].getD i 0)
 rw [k37] at h37
 have h43 := c43 wF 2 (by omega) (fun i => [2, 3].getD i 0)
 rw [k43] at h43
 have h38 := c38 wM 2 (fun i => stR wM.q [0, 1] (aL wM.q [0, 1] 2) 2 i)
 rw [k38] at h38
 have h44 := c44 wF 2 (fun i => chI (ownF wF.lo wF.hi 2 1) (aD (ownF wF.lo wF.hi 2 1) 2) i)
 rw [k44] at h44
 have wMf := Mk.fine wMe
 have wFf := Mk.fine wFe
 have h39 : Contract Try.prog 39 [wM.sv] (.tup [.arr true false 2 1 (fun i _ => .val (.int .i64 (stR wM.q [0, 1] (aL wM.q [0, 1] 2) 2 i))), I 0]) := c39s wM wMf [0, 1] k39
 have h39b := c39n wF wFf k39b
 have h40 := c40n wM wMf [0, 1] k39
 have h40b : Contract Try.prog 40 [wF.sv] (.tup [.arr true false 2 1 (fun i _ => .val (.int .i64 (chI (ownF wF.lo wF.hi 2 1) (aD (ownF wF.lo wF.hi 2 1) 2) i))), I 0]) := c40s wF wFf k39b 1 kS
 unfold B
 (repeat' (first | with_reducible refine splitVC_d (fun _ => ?_) (fun _ => ?_) | with_reducible refine splitVC (fun _ => ?_) (fun _ => ?_) | ((with_reducible refine And.intro ?_ ?_); focus (first | exact True.intro | omega | (simp only [InK, ne_eq, and_true, true_and]; omega) | trivial)) | (simp -dsimp only [↓RP, RQ, implies_true, forall_const, Nat.reduceMul, reduceIte, reduceCtorEq, Nat.reduceAdd, Nat.reduceEqDiff, Nat.reduceLT, Nat.reduceLeDiff, Int.reduceEq, Int.reduceNeg, RZ, eq_self, eq23, TYq, TYp, TYm, TYn, TYw, fsv, B, I, by2, TY, Try.results22])))
 refine callVC c60 ?_ ?_ ?_; iterate 2 focus ((simp -dsimp only [↓RP, RQ, implies_true, forall_const, Nat.reduceMul, reduceIte, reduceCtorEq, Nat.reduceAdd, Nat.reduceEqDiff, Nat.reduceLT, Nat.reduceLeDiff, Pl.svT, Pl.sv, rngs, Mk.svT, Mk.sv, qts, fsv, Go.Od.ints, I, B]); all_goals (try simp [sub_q, fresh_q]); all_goals (try exact fun i hi => by rcases i with _ | _ | _ | i <;> first | rfl | omega))
 (repeat' (first | with_reducible refine splitVC_d (fun _ => ?_) (fun _ => ?_) | with_reducible refine splitVC (fun _ => ?_) (fun _ => ?_) | ((with_reducible refine And.intro ?_ ?_); focus (first | exact True.intro | omega | (simp only [InK, ne_eq, and_true, true_and]; omega) | trivial)) | (simp -dsimp only [↓RP, RQ, implies_true, forall_const, Nat.reduceMul, reduceIte, reduceCtorEq, Nat.reduceAdd, Nat.reduceEqDiff, Nat.reduceLT, Nat.reduceLeDiff, Pl.svT, Int.reduceEq, Int.reduceNeg, RZ, eq_self, eq23, TYq, TYp, TYm, TYn, TYw, fsv, B, I, by2, TY, Try.results22])))
 refine callVC c61 ?_ ?_ ?_; iterate 2 focus ((simp -dsimp only [↓RP, RQ, implies_true, forall_const, Nat.reduceMul, reduceIte, reduceCtorEq, Nat.reduceAdd, Nat.reduceEqDiff, Nat.reduceLT, Nat.reduceLeDiff, Pl.svT, Pl.sv, rngs, Mk.svT, Mk.sv, qts, fsv, Go.Od.ints, I, B]); all_goals (try simp [sub_q, fresh_q]); all_goals (try exact fun i hi => by rcases i with _ | _ | _ | i <;> first | rfl | omega))
 (repeat' (first | with_reducible refine splitVC_d (fun _ => ?_) (fun _ => ?_) | with_reducible refine splitVC (fun _ => ?_) (fun _ => ?_) | ((with_reducible refine And.intro ?_ ?_); focus (first | exact True.intro | omega | (simp only [InK, ne_eq, and_true, true_and]; omega) | trivial)) | (simp -dsimp only [↓RP, RQ, implies_true, forall_const, Nat.reduceMul, reduceIte, reduceCtorEq, Nat.reduceAdd, Nat.reduceEqDiff, Nat.reduceLT, Nat.reduceLeDiff, Mk.svT, Int.reduceEq, Int.reduceNeg, RZ, eq_self, eq23, TYq, TYp, TYm, TYn, TYw, fsv, B, I, by2, TY, Try.results22])))
 refine callVC (c50 31 50) ?_ ?_ ?_; iterate 2 focus ((simp -dsimp only [↓RP, RQ, implies_true, forall_const, Nat.reduceMul, reduceIte, reduceCtorEq, Nat.reduceAdd, Nat.reduceEqDiff, Nat.reduceLT, Nat.reduceLeDiff, Pl.svT, Pl.sv, rngs, Mk.svT, Mk.sv, qts, fsv, Go.Od.ints, I, B]); all_goals (try simp [sub_q, fresh_q]); all_goals (try exact fun i hi => by rcases i with _ | _ | _ | i <;> first | rfl | omega))
 (repeat' (first | with_reducible refine splitVC_d (fun _ => ?_) (fun _ => ?_) | with_reducible refine splitVC (fun _ => ?_) (fun _ => ?_) | ((with_reducible refine And.intro ?_ ?_); focus (first | exact True.intro | omega | (simp only [InK, ne_eq, and_true, true_and]; omega) | trivial)) | (simp -dsimp only [↓RP, RQ, implies_true, forall_const, Nat.reduceMul, reduceIte, reduceCtorEq, Nat.reduceAdd, Nat.reduceEqDiff, Nat.reduceLT, Nat.reduceLeDiff, Int.reduceEq, Int.reduceNeg, RZ, eq_self, eq23, TYq, TYp, TYm, TYn, TYw, fsv, B, I, by2, TY, Try.results22])))
 refine callVC h16 ?_ ?_ ?_; iterate 2 focus ((simp -dsimp only [↓RP, RQ, implies_true, forall_const, Nat.reduceMul, reduceIte, reduceCtorEq, Nat.reduceAdd, Nat.reduceEqDiff, Nat.reduceLT, Nat.reduceLeDiff, Pl.svT, Pl.sv, rngs, Mk.svT, Mk.sv, qts, fsv, Go.Od.ints, I, B]); all_goals (try simp [sub_q, fresh_q]); all_goals (try exact fun i hi => by rcases i with _ | _ | _ | i <;> first | rfl | omega))
 (repeat' (first | with_reducible refine splitVC_d (fun _ => ?_) (fun _ => ?_) | with_reducible refine splitVC (fun _ => ?_) (fun _ => ?_) | ((with_reducible refine And.intro ?_ ?_); focus (first | exact True.intro | omega | (simp only [InK, ne_eq, and_true, true_and]; omega) | trivial)) | (simp -dsimp only [↓RP, RQ, implies_true, forall_const, Nat.reduceMul, reduceIte, reduceCtorEq, Nat.reduceAdd, Nat.reduceEqDiff, Nat.reduceLT, Nat.reduceLeDiff, Int.reduceEq, Int.reduceNeg, RZ, eq_self, eq23, TYq, TYp, TYm, TYn, TYw, fsv, B, I, by2, TY, Try.results22])))
 refine callVC (c50 31 50) ?_ ?_ ?_; iterate 2 focus ((simp -dsimp only [↓RP, RQ, implies_true, forall_const, Nat.reduceMul, reduceIte, reduceCtorEq, Nat.reduceAdd, Nat.reduceEqDiff, Nat.reduceLT, Nat.reduceLeDiff, Pl.svT, Pl.sv, rngs, Mk.svT, Mk.sv, qts, fsv, Go.Od.ints, I, B]); all_goals (try simp [sub_q, fresh_q]); all_goals (try exact fun i hi => by rcases i with _ | _ | _ | i <;> first | rfl | omega))
 (repeat' (first | with_reducible refine splitVC_d (fun _ => ?_) (fun _ => ?_) | with_reducible refine splitVC (fun _ => ?_) (fun _ => ?_) | ((with_reducible refine And.intro ?_ ?_); focus (first | exact True.intro | omega | (simp only [InK, ne_eq, and_true, true_and]; omega) | trivial)) | (simp -dsimp only [↓RP, RQ, implies_true, forall_const, Nat.reduceMul, reduceIte, reduceCtorEq, Nat.reduceAdd, Nat.reduceEqDiff, Nat.reduceLT, Nat.reduceLeDiff, Int.reduceEq, Int.reduceNeg, RZ, eq_self, eq23, TYq, TYp, TYm, TYn, TYw, fsv, B, I, by2, TY, Try.results22])))
 refine callVC (c50 1 2) ?_ ?_ ?_; iterate 2 focus ((simp -dsimp only [↓RP, RQ, implies_true, forall_const, Nat.reduceMul, reduceIte, reduceCtorEq, Nat.reduceAdd, Nat.reduceEqDiff, Nat.reduceLT, Nat.reduceLeDiff, Pl.svT, Pl.sv, rngs, Mk.svT, Mk.sv, qts, fsv, Go.Od.ints, I, B]); all_goals (try simp [sub_q, fresh_q]); all_goals (try exact fun i hi => by rcases i with _ | _ | _ | i <;> first | rfl | omega))
 (repeat' (first | with_reducible refine splitVC_d (fun _ => ?_) (fun _ => ?_) | with_reducible refine splitVC (fun _ => ?_) (fun _ => ?_) | ((with_reducible refine And.intro ?_ ?_); focus (first | exact True.intro | omega | (simp only [InK, ne_eq, and_true, true_and]; omega) | trivial)) | (simp -dsimp only [↓RP, RQ, implies_true, forall_const, Nat.reduceMul, reduceIte, reduceCtorEq, Nat.reduceAdd, Nat.reduceEqDiff, Nat.reduceLT, Nat.reduceLeDiff, Int.reduceEq, Int.reduceNeg, RZ, eq_self, eq23, TYq, TYp, TYm, TYn, TYw, fsv, B, I, by2, TY, Try.results22])))
 refine callVC (c50 2 3) ?_ ?_ ?_; iterate 2 focus ((simp -dsimp only [↓RP, RQ, implies_true, forall_const, Nat.reduceMul, reduceIte, reduceCtorEq, Nat.reduceAdd, Nat.reduceEqDiff, Nat.reduceLT, Nat.reduceLeDiff, Pl.svT, Pl.sv, rngs, Mk.svT, Mk.sv, qts, fsv, Go.Od.ints, I, B]); all_goals (try simp [sub_q, fresh_q]); all_goals (try exact fun i hi => by rcases i with _ | _ | _ | i <;> first | rfl | omega))
 (repeat' (first | with_reducible refine splitVC_d (fun _ => ?_) (fun _ => ?_) | with_reducible refine splitVC (fun _ => ?_) (fun _ => ?_) | ((with_reducible refine And.intro ?_ ?_); focus (first | exact True.intro | omega | (simp only [InK, ne_eq, and_true, true_and]; omega) | trivial)) | (simp -dsimp only [↓RP, RQ, implies_true, forall_const, Nat.reduceMul, reduceIte, reduceCtorEq, Nat.reduceAdd, Nat.reduceEqDiff, Nat.reduceLT, Nat.reduceLeDiff, Int.reduceEq, Int.reduceNeg, RZ, eq_self, eq23, TYq, TYp, TYm, TYn, TYw, fsv, B, I, by2, TY, Try.results22])))
 refine callVC h20 ?_ ?_ ?_; iterate 2 focus ((simp -dsimp only [↓RP, RQ, implies_true, forall_const, Nat.reduceMul, reduceIte, reduceCtorEq, Nat.reduceAdd, Nat.reduceEqDiff, Nat.reduceLT, Nat.reduceLeDiff, Pl.svT, Pl.sv, rngs, Mk.svT, Mk.sv, qts, fsv, Go.Od.ints, I, B]); all_goals (try simp [sub_q, fresh_q]); all_goals (try exact fun i hi => by rcases i with _ | _ | _ | i <;> first | rfl | omega))
 (repeat' (first | with_reducible refine splitVC_d (fun _ => ?_) (fun _ => ?_) | with_reducible refine splitVC (fun _ => ?_) (fun _ => ?_) | ((with_reducible refine And.intro ?_ ?_); focus (first | exact True.intro | omega | (simp only [InK, ne_eq, and_true, true_and]; omega) | trivial)) | (simp -dsimp only [↓RP, RQ, implies_true, forall_const, Nat.reduceMul, reduceIte, reduceCtorEq, Nat.reduceAdd, Nat.reduceEqDiff, Nat.reduceLT, Nat.reduceLeDiff, Int.reduceEq, Int.reduceNeg, RZ, eq_self, eq23, TYq, TYp, TYm, TYn, TYw, fsv, B, I, by2, TY, Try.results22])))
 refine callVC (c50 3 4) ?_ ?_ ?_; iterate 2 focus ((simp -dsimp only [↓RP, RQ, implies_true, forall_const, Nat.reduceMul, reduceIte, reduceCtorEq, Nat.reduceAdd, Nat.reduceEqDiff, Nat.reduceLT, Nat.reduceLeDiff, Pl.svT, Pl.sv, rngs, Mk.svT, Mk.sv, qts, fsv, Go.Od.ints, I, B]); all_goals (try simp [sub_q, fresh_q]); all_goals (try exact fun i hi => by rcases i with _ | _ | _ | i <;> first | rfl | omega))
 (repeat' (first | with_reducible refine splitVC_d (fun _ => ?_) (fun _ => ?_) | with_reducible refine splitVC (fun _ => ?_) (fun _ => ?_) | ((with_reducible refine And.intro ?_ ?_); focus (first | exact True.intro | omega | (simp only [InK, ne_eq, and_true, true_and]; omega) | trivial)) | (simp -dsimp only [↓RP, RQ, implies_true, forall_const, Nat.reduceMul, reduceIte, reduceCtorEq, Nat.reduceAdd, Nat.reduceEqDiff, Nat.reduceLT, Nat.reduceLeDiff, Int.reduceEq, Int.reduceNeg, RZ, eq_self, eq23, TYq, TYp, TYm, TYn, TYw, fsv, B, I, by2, TY, Try.results22])))
 refine callVC h18 ?_ ?_ ?_; iterate 2 focus ((simp -dsimp only [↓RP, RQ, implies_true, forall_const, Nat.reduceMul, reduceIte, reduceCtorEq, Nat.reduceAdd, Nat.reduceEqDiff, Nat.reduceLT, Nat.reduceLeDiff, Pl.svT, Pl.sv, rngs, Mk.svT, Mk.sv, qts, fsv, Go.Od.ints, I, B]); all_goals (try simp [sub_q, fresh_q]); all_goals (try exact fun i hi => by rcases i with _ | _ | _ | i <;> first | rfl | omega))
 (repeat' (first | with_reducible refine splitVC_d (fun _ => ?_) (fun _ => ?_) | with_reducible refine splitVC (fun _ => ?_) (fun _ => ?_) | ((with_reducible refine And.intro ?_ ?_); focus (first | exact True.intro | omega | (simp only [InK, ne_eq, and_true, true_and]; omega) | trivial)) | (simp -dsimp only [↓RP, RQ, implies_true, forall_const, Nat.reduceMul, reduceIte, reduceCtorEq, Nat.reduceAdd, Nat.reduceEqDiff, Nat.reduceLT, Nat.reduceLeDiff, Int.reduceEq, Int.reduceNeg, RZ, eq_self, eq23, TYq, TYp, TYm, TYn, TYw, fsv, B, I, by2, TY, Try.results22])))
 refine callVC (c50 31 50) ?_ ?_ ?_; iterate 2 focus ((simp -dsimp only [↓RP, RQ, implies_true, forall_const, Nat.reduceMul, reduceIte, reduceCtorEq, Nat.reduceAdd, Nat.reduceEqDiff, Nat.reduceLT, Nat.reduceLeDiff, Pl.svT, Pl.sv, rngs, Mk.svT, Mk.sv, qts, fsv, Go.Od.ints, I, B]); all_goals (try simp [sub_q, fresh_q]); all_goals (try exact fun i hi => by rcases i with _ | _ | _ | i <;> first | rfl | omega))
 (repeat' (first | with_reducible refine splitVC_d (fun _ => ?_) (fun _ => ?_) | with_reducible refine splitVC (fun _ => ?_) (fun _ => ?_) | ((with_reducible refine And.intro ?_ ?_); focus (first | exact True.intro | omega | (simp only [InK, ne_eq, and_true, true_and]; omega) | trivial)) | (simp -dsimp only [↓RP, RQ, implies_true, forall_const, Nat.reduceMul, reduceIte, reduceCtorEq, Nat.reduceAdd, Nat.reduceEqDiff, Nat.reduceLT, Nat.reduceLeDiff, Int.reduceEq, Int.reduceNeg, RZ, eq_self, eq23, TYq, TYp, TYm, TYn, TYw, fsv, B, I, by2, TY, Try.results22])))
 refine callVC (c50 33 50) ?_ ?_ ?_; iterate 2 focus ((simp -dsimp only [↓RP, RQ, implies_true, forall_const, Nat.reduceMul, reduceIte, reduceCtorEq, Nat.reduceAdd, Nat.reduceEqDiff, Nat.reduceLT, Nat.reduceLeDiff, Pl.svT, Pl.sv, rngs, Mk.svT, Mk.sv, qts, fsv, Go.Od.ints, I, B]); all_goals (try simp [sub_q, fresh_q]); all_goals (try exact fun i hi => by rcases i with _ | _ | _ | i <;> first | rfl | omega))
 (repeat' (first | with_reducible refine splitVC_d (fun _ => ?_) (fun _ => ?_) | with_reducible refine splitVC (fun _ => ?_) (fun _ => ?_) | ((with_reducible refine And.intro ?_ ?_); focus (first | exact True.intro | omega | (simp only [InK, ne_eq, and_true, true_and]; omega) | trivial)) | (simp -dsimp only [↓RP, RQ, implies_true, forall_const, Nat.reduceMul, reduceIte, reduceCtorEq, Nat.reduceAdd, Nat.reduceEqDiff, Nat.reduceLT, Nat.reduceLeDiff, Int.reduceEq, Int.reduceNeg, RZ, eq_self, eq23, TYq, TYp, TYm, TYn, TYw, fsv, B, I, by2, TY, Try.results22])))
 refine callVC h23 ?_ ?_ ?_; iterate 2 focus ((simp -dsimp only [↓RP, RQ, implies_true, forall_const, Nat.reduceMul, reduceIte, reduceCtorEq, Nat.reduceAdd, Nat.reduceEqDiff, Nat.reduceLT, Nat.reduceLeDiff, Pl.svT, Pl.sv, rngs, Mk.svT, Mk.sv, qts, fsv, Go.Od.ints, I, B]); all_goals (try simp [sub_q, fresh_q]); all_goals (try exact fun i hi => by rcases i with _ | _ | _ | i <;> first | rfl | omega))
 (repeat' (first | with_reducible refine splitVC_d (fun _ => ?_) (fun _ => ?_) | with_reducible refine splitVC (fun _ => ?_) (fun _ => ?_) | ((with_reducible refine And.intro ?_ ?_); focus (first | exact True.intro | omega | (simp only [InK, ne_eq, and_true, true_and]; omega) | trivial)) | (simp -dsimp only [↓RP, RQ, implies_true, forall_const, Nat.reduceMul, reduceIte, reduceCtorEq, Nat.reduceAdd, Nat.reduceEqDiff, Nat.reduceLT, Nat.reduceLeDiff, Int.reduceEq, Int.reduceNeg, RZ, eq_self, eq23, TYq, TYp, TYm, TYn, TYw, fsv, B, I, by2, TY, Try.results22])))
 refine callVC h26 ?_ ?_ ?_; iterate 2 focus ((simp -dsimp only [↓RP, RQ, implies_true, forall_const, Nat.reduceMul, reduceIte, reduceCtorEq, Nat.reduceAdd, Nat.reduceEqDiff, Nat.reduceLT, Nat.reduceLeDiff, Pl.svT, Pl.sv, rngs, Mk.svT, Mk.sv, qts, fsv, Go.Od.ints, I, B]); all_goals (try simp [sub_q, fresh_q]); all_goals (try exact fun i hi => by rcases i with _ | _ | _ | i <;> first | rfl | omega))
 (repeat' (first | with_reducible refine splitVC_d (fun _ => ?_) (fun _ => ?_) | with_reducible refine splitVC (fun _ => ?_) (fun _ => ?_) | ((with_reducible refine And.intro ?_ ?_); focus (first | exact True.intro | omega | (simp only [InK, ne_eq, and_true, true_and]; omega) | trivial)) | (simp -dsimp only [↓RP, RQ, implies_true, forall_const, Nat.reduceMul, reduceIte, reduceCtorEq, Nat.reduceAdd, Nat.reduceEqDiff, Nat.reduceLT, Nat.reduceLeDiff, Int.reduceEq, Int.reduceNeg, RZ, eq_self, eq23, TYq, TYp, TYm, TYn, TYw, fsv, B, I, by2, TY, Try.results22])))
 refine callVC h28 ?_ ?_ ?_; iterate 2 focus ((simp -dsimp only [↓RP, RQ, implies_true, forall_const, Nat.reduceMul, reduceIte, reduceCtorEq, Nat.reduceAdd, Nat.reduceEqDiff, Nat.reduceLT, Nat.reduceLeDiff, Pl.svT, Pl.sv, rngs, Mk.svT, Mk.sv, qts, fsv, Go.Od.ints, I, B]); all_goals (try simp [sub_q, fresh_q]); all_goals (try exact fun i hi => by rcases i with _ | _ | _ | i <;> first | rfl | omega))
 (repeat' (first | with_reducible refine splitVC_d (fun _ => ?_) (fun _ => ?_) | with_reducible refine splitVC (fun _ => ?_) (fun _ => ?_) | ((with_reducible refine And.intro ?_ ?_); focus (first | exact True.intro | omega | (simp only [InK, ne_eq, and_true, true_and]; omega) | trivial)) | (simp -dsimp only [↓RP, RQ, implies_true, forall_const, Nat.reduceMul, reduceIte, reduceCtorEq, Nat.reduceAdd, Nat.reduceEqDiff, Nat.reduceLT, Nat.reduceLeDiff, Int.reduceEq, Int.reduceNeg, RZ, eq_self, eq23, TYq, TYp, TYm, TYn, TYw, fsv, B, I, by2, TY, Try.results22])))
 refine callVC h33 ?_ ?_ ?_; iterate 2 focus ((simp -dsimp only [↓RP, RQ, implies_true, forall_const, Nat.reduceMul, reduceIte, reduceCtorEq, Nat.reduceAdd, Nat.reduceEqDiff, Nat.reduceLT, Nat.reduceLeDiff, Pl.svT, Pl.sv, rngs, Mk.svT, Mk.sv, qts, fsv, Go.Od.ints, I, B]); all_goals (try simp [sub_q, fresh_q]); all_goals (try exact fun i hi => by rcases i with _ | _ | _ | i <;> first | rfl | omega))
 (repeat' (first | with_reducible refine splitVC_d (fun _ => ?_) (fun _ => ?_) | with_reducible refine splitVC (fun _ => ?_) (fun _ => ?_) | ((with_reducible refine And.intro ?_ ?_); focus (first | exact True.intro | omega | (simp only [InK, ne_eq, and_true, true_and]; omega) | trivial)) | (simp -dsimp only [↓RP, RQ, implies_true, forall_const, Nat.reduceMul, reduceIte, reduceCtorEq, Nat.reduceAdd, Nat.reduceEqDiff, Nat.reduceLT, Nat.reduceLeDiff, Int.reduceEq, Int.reduceNeg, RZ, eq_self, eq23, TYq, TYp, TYm, TYn, TYw, fsv, B, I, by2, TY, Try.results22])))
 refine callVC h37 ?_ ?_ ?_; iterate 2 focus ((simp -dsimp only [↓RP, RQ, implies_true, forall_const, Nat.reduceMul, reduceIte, reduceCtorEq, Nat.reduceAdd, Nat.reduceEqDiff, Nat.reduceLT, Nat.reduceLeDiff, Pl.svT, Pl.sv, rngs, Mk.svT, Mk.sv, qts, fsv, Go.Od.ints, I, B]); all_goals (try simp [sub_q, fresh_q]); all_goals (try exact fun i hi => by rcases i with _ | _ | _ | i <;> first | rfl | omega))
 (repeat' (first | with_reducible refine splitVC_d (fun _ => ?_) (fun _ => ?_) | with_reducible refine splitVC (fun _ => ?_) (fun _ => ?_) | ((with_reducible refine And.intro ?_ ?_); focus (first | exact True.intro | omega | (simp only [InK, ne_eq, and_true, true_and]; omega) | trivial)) | (simp -dsimp only [↓RP, RQ, implies_true, forall_const, Nat.reduceMul, reduceIte, reduceCtorEq, Nat.reduceAdd, Nat.reduceEqDiff, Nat.reduceLT, Nat.reduceLeDiff, Int.reduceEq, Int.reduceNeg, RZ, eq_self, eq23, TYq, TYp, TYm, TYn, TYw, fsv, B, I, by2, TY, Try.results22])))
 refine callVC h39 ?_ ?_ ?_; iterate 2 focus ((simp -dsimp only [↓RP, RQ, implies_true, forall_const, Nat.reduceMul, reduceIte, reduceCtorEq, Nat.reduceAdd, Nat.reduceEqDiff, Nat.reduceLT, Nat.reduceLeDiff, Pl.svT, Pl.sv, rngs, Mk.svT, Mk.sv, qts, fsv, Go.Od.ints, I, B]); all_goals (try simp [sub_q, fresh_q]); all_goals (try exact fun i hi => by rcases i with _ | _ | _ | i <;> first | rfl | omega))
 (repeat' (first | with_reducible refine splitVC_d (fun _ => ?_) (fun _ => ?_) | with_reducible refine splitVC (fun _ => ?_) (fun _ => ?_) | ((with_reducible refine And.intro ?_ ?_); focus (first | exact True.intro | omega | (simp only [InK, ne_eq, and_true, true_and]; omega) | trivial)) | (simp -dsimp only [↓RP, RQ, implies_true, forall_const, Nat.reduceMul, reduceIte, reduceCtorEq, Nat.reduceAdd, Nat.reduceEqDiff, Nat.reduceLT, Nat.reduceLeDiff, Int.reduceEq, Int.reduceNeg, RZ, eq_self, eq23, TYq, TYp, TYm, TYn, TYw, fsv, B, I, by2, TY, Try.results22])))
 refine callVC h39b ?_ ?_ ?_; iterate 2 focus ((simp -dsimp only [↓RP, RQ, implies_true, forall_const, Nat.reduceMul, reduceIte, reduceCtorEq, Nat.reduceAdd, Nat.reduceEqDiff, Nat.reduceLT, Nat.reduceLeDiff, Pl.svT, Pl.sv, rngs, Mk.svT, Mk.sv, qts, fsv, Go.Od.ints, I, B]); all_goals (try simp [sub_q, fresh_q]); all_goals (try exact fun i hi => by rcases i with _ | _ | _ | i <;> first | rfl | omega))
 (repeat' (first | with_reducible refine splitVC_d (fun _ => ?_) (fun _ => ?_) | with_reducible refine splitVC (fun _ => ?_) (fun _ => ?_) | ((with_reducible refine And.intro ?_ ?_); focus (first | exact True.intro | omega | (simp only [InK, ne_eq, and_true, true_and]; omega) | trivial)) | (simp -dsimp only [↓RP, RQ, implies_true, forall_const, Nat.reduceMul, reduceIte, reduceCtorEq, Nat.reduceAdd, Nat.reduceEqDiff, Nat.reduceLT, Nat.reduceLeDiff, Int.reduceEq, Int.reduceNeg, RZ, eq_self, eq23, TYq, TYp, TYm, TYn, TYw, fsv, B, I, by2, TY, Try.results22])))
 refine callVC h40 ?_ ?_ ?_; iterate 2 focus ((simp -dsimp only [↓RP, RQ, implies_true, forall_const, Nat.reduceMul, reduceIte, reduceCtorEq, Nat.reduceAdd, Nat.reduceEqDiff, Nat.reduceLT, Nat.reduceLeDiff, Pl.svT, Pl.sv, rngs, Mk.svT, Mk.sv, qts, fsv, Go.Od.ints, I, B]); all_goals (try simp [sub_q, fresh_q]); all_goals (try exact fun i hi => by rcases i with _ | _ | _ | i <;> first | rfl | omega))
 (repeat' (first | with_reducible refine splitVC_d (fun _ => ?_) (fun _ => ?_) | with_reducible refine splitVC (fun _ => ?_) (fun _ => ?_) | ((with_reducible refine And.intro ?_ ?_); focus (first | exact True.intro | omega | (simp only [InK, ne_eq, and_true, true_and]; omega) | trivial)) | (simp -dsimp only [↓RP, RQ, implies_true, forall_const, Nat.reduceMul, reduceIte, reduceCtorEq, Nat.reduceAdd, Nat.reduceEqDiff, Nat.reduceLT, Nat.reduceLeDiff, Int.reduceEq, Int.reduceNeg, RZ, eq_self, eq23, TYq, TYp, TYm, TYn, TYw, fsv, B, I, by2, TY, Try.results22])))
 refine callVC h40b ?_ ?_ ?_; iterate 2 focus ((simp -dsimp only [↓RP, RQ, implies_true, forall_const, Nat.reduceMul, reduceIte, reduceCtorEq, Nat.reduceAdd, Nat.reduceEqDiff, Nat.reduceLT, Nat.reduceLeDiff, Pl.svT, Pl.sv, rngs, Mk.svT, Mk.sv, qts, fsv, Go.Od.ints, I, B]); all_goals (try simp [sub_q, fresh_q]); all_goals (try exact fun i hi => by rcases i with _ | _ | _ | i <;> first | rfl | omega))
 (repeat' (first | with_reducible refine splitVC_d (fun _ => ?_) (fun _ => ?_) | with_reducible refine splitVC (fun _ => ?_) (fun _ => ?_) | ((with_reducible refine And.intro ?_ ?_); focus (first | exact True.intro | omega | (simp only [InK, ne_eq, and_true, true_and]; omega) | trivial)) | (simp -dsimp only [↓RP, RQ, implies_true, forall_const, Nat.reduceMul, reduceIte, reduceCtorEq, Nat.reduceAdd, Nat.reduceEqDiff, Nat.reduceLT, Nat.reduceLeDiff, Int.reduceEq, Int.reduceNeg, RZ, eq_self, eq23, TYq, TYp, TYm, TYn, TYw, fsv, B, I, by2, TY, Try.results22])))
 refine callVC h43 ?_ ?_ ?_; iterate 2 focus ((simp -dsimp only [↓RP, RQ, implies_true, forall_const, Nat.reduceMul, reduceIte, reduceCtorEq, Nat.reduceAdd, Nat.reduceEqDiff, Nat.reduceLT, Nat.reduceLeDiff, Pl.svT, Pl.sv, rngs, Mk.svT, Mk.sv, qts, fsv, Go.Od.ints, I, B]); all_goals (try simp [sub_q, fresh_q]); all_goals (try exact fun i hi => by rcases i with _ | _ | _ | i <;> first | rfl | omega))
 (repeat' (first | with_reducible refine splitVC_d (fun _ => ?_) (fun _ => ?_) | with_reducible refine splitVC (fun _ => ?_) (fun _ => ?_) | ((with_reducible refine And.intro ?_ ?_); focus (first | exact True.intro | omega | (simp only [InK, ne_eq, and_true, true_and]; omega) | trivial)) | (simp -dsimp only [↓RP, RQ, implies_true, forall_const, Nat.reduceMul, reduceIte, reduceCtorEq, Nat.reduceAdd, Nat.reduceEqDiff, Nat.reduceLT, Nat.reduceLeDiff, Int.reduceEq, Int.reduceNeg, RZ, eq_self, eq23, TYq, TYp, TYm, TYn, TYw, fsv, B, I, by2, TY, Try.results22])))
 refine callVC (c50 3 5) ?_ ?_ ?_; iterate 2 focus ((simp -dsimp only [↓RP, RQ, implies_true, forall_const, Nat.reduceMul, reduceIte, reduceCtorEq, Nat.reduceAdd, Nat.reduceEqDiff, Nat.reduceLT, Nat.reduceLeDiff, Pl.svT, Pl.sv, rngs, Mk.svT, Mk.sv, qts, fsv, Go.Od.ints, I, B]); all_goals (try simp [sub_q, fresh_q]); all_goals (try exact fun i hi => by rcases i with _ | _ | _ | i <;> first | rfl | omega))
 (repeat' (first | with_reducible refine splitVC_d (fun _ => ?_) (fun _ => ?_) | with_reducible refine splitVC (fun _ => ?_) (fun _ => ?_) | ((with_reducible refine And.intro ?_ ?_); focus (first | exact True.intro | omega | (simp only [InK, ne_eq, and_true, true_and]; omega) | trivial)) | (simp -dsimp only [↓RP, RQ, implies_true, forall_const, Nat.reduceMul, reduceIte, reduceCtorEq, Nat.reduceAdd, Nat.reduceEqDiff, Nat.reduceLT, Nat.reduceLeDiff, Int.reduceEq, Int.reduceNeg, RZ, eq_self, eq23, TYq, TYp, TYm, TYn, TYw, fsv, B, I, by2, TY, Try.results22])))
 refine callVC (c50 2 3) ?_ ?_ ?_; iterate 2 focus ((simp -dsimp only [↓RP, RQ, implies_true, forall_const, Nat.reduceMul, reduceIte, reduceCtorEq, Nat.reduceAdd, Nat.reduceEqDiff, Nat.reduceLT, Nat.reduceLeDiff, Pl.svT, Pl.sv, rngs, Mk.svT, Mk.sv, qts, fsv, Go.Od.ints, I, B]); all_goals (try simp [sub_q, fresh_q]); all_goals (try exact fun i hi => by rcases i with _ | _ | _ | i <;> first | rfl | omega))
 (repeat' (first | with_reducible refine splitVC_d (fun _ => ?_) (fun _ => ?_) | with_reducible refine splitVC (fun _ => ?_) (fun _ => ?_) | ((with_reducible refine And.intro ?_ ?_); focus (first | exact True.intro | omega | (simp only [InK, ne_eq, and_true, true_and]; omega) | trivial)) | (simp -dsimp only [↓RP, RQ, implies_true, forall_const, Nat.reduceMul, reduceIte, reduceCtorEq, Nat.reduceAdd, Nat.reduceEqDiff, Nat.reduceLT, Nat.reduceLeDiff, Int.reduceEq, Int.reduceNeg, RZ, eq_self, eq23, TYq, TYp, TYm, TYn, TYw, fsv, B, I, by2, TY, Try.results22])))
 refine callVC (c50 1 2) ?_ ?_ ?_; iterate 2 focus ((simp -dsimp only [↓RP, RQ, implies_true, forall_const, Nat.reduceMul, reduceIte, reduceCtorEq, Nat.reduceAdd, Nat.reduceEqDiff, Nat.reduceLT, Nat.reduceLeDiff, Pl.svT, Pl.sv, rngs, Mk.svT, Mk.sv, qts, fsv, Go.Od.ints, I, B]); all_goals (try simp [sub_q, fresh_q]); all_goals (try exact fun i hi => by rcases i with _ | _ | _ | i <;> first | rfl | omega))
 (repeat' (first | with_reducible refine splitVC_d (fun _ => ?_) (fun _ => ?_) | with_reducible refine splitVC (fun _ => ?_) (fun _ => ?_) | ((with_reducible refine And.intro ?_ ?_); focus (first | exact True.intro | omega | (simp only [InK, ne_eq, and_true, true_and]; omega) | trivial)) | (simp -dsimp only [↓RP, RQ, implies_true, forall_const, Nat.reduceMul, reduceIte, reduceCtorEq, Nat.reduceAdd, Nat.reduceEqDiff, Nat.reduceLT, Nat.reduceLeDiff, Int.reduceEq, Int.reduceNeg, RZ, eq_self, eq23, TYq, TYp, TYm, TYn, TYw, fsv, B, I, by2, TY, Try.results22])))
 refine callVC (c50 5 8) ?_ ?_ ?_; iterate 2 focus ((simp -dsimp only [↓RP, RQ, implies_true, forall_const, Nat.reduceMul, reduceIte, reduceCtorEq, Nat.reduceAdd, Nat.reduceEqDiff, Nat.reduceLT, Nat.reduceLeDiff, Pl.svT, Pl.sv, rngs, Mk.svT, Mk.sv, qts, fsv, Go.Od.ints, I, B]); all_goals (try simp [sub_q, fresh_q]); all_goals (try exact fun i hi => by rcases i with _ | _ | _ | i <;> first | rfl | omega))
 (repeat' (first | with_reducible refine splitVC_d (fun _ => ?_) (fun _ => ?_) | with_reducible refine splitVC (fun _ => ?_) (fun _ => ?_) | ((with_reducible refine And.intro ?_ ?_); focus (first | exact True.intro | omega | (simp only [InK, ne_eq, and_true, true_and]; omega) | trivial)) | (simp -dsimp only [↓RP, RQ, implies_true, forall_const, Nat.reduceMul, reduceIte, reduceCtorEq, Nat.reduceAdd, Nat.reduceEqDiff, Nat.reduceLT, Nat.reduceLeDiff, Int.reduceEq, Int.reduceNeg, RZ, eq_self, eq23, TYq, TYp, TYm, TYn, TYw, fsv, B, I, by2, TY, Try.results22])))
 refine callVC (c50 1 2) ?_ ?_ ?_; iterate 2 focus ((simp -dsimp only [↓RP, RQ, implies_true, forall_const, Nat.reduceMul, reduceIte, reduceCtorEq, Nat.reduceAdd, Nat.reduceEqDiff, Nat.reduceLT, Nat.reduceLeDiff, Pl.svT, Pl.sv, rngs, Mk.svT, Mk.sv, qts, fsv, Go.Od.ints, I, B]); all_goals (try simp [sub_q, fresh_q]); all_goals (try exact fun i hi => by rcases i with _ | _ | _ | i <;> first | rfl | omega))
 (repeat' (first | with_reducible refine splitVC_d (fun _ => ?_) (fun _ => ?_) | with_reducible refine splitVC (fun _ => ?_) (fun _ => ?_) | ((with_reducible refine And.intro ?_ ?_); focus (first | exact True.intro | omega | (simp only [InK, ne_eq, and_true, true_and]; omega) | trivial)) | (simp -dsimp only [↓RP, RQ, implies_true, forall_const, Nat.reduceMul, reduceIte, reduceCtorEq, Nat.reduceAdd, Nat.reduceEqDiff, Nat.reduceLT, Nat.reduceLeDiff, Int.reduceEq, Int.reduceNeg, RZ, eq_self, eq23, TYq, TYp, TYm, TYn, TYw, fsv, B, I, by2, TY, Try.results22])))
 refine callVC (c50 31 50) ?_ ?_ ?_; iterate 2 focus ((simp -dsimp only [↓RP, RQ, implies_true, forall_const, Nat.reduceMul, reduceIte, reduceCtorEq, Nat.reduceAdd, Nat.reduceEqDiff, Nat.reduceLT, Nat.reduceLeDiff, Pl.svT, Pl.sv, rngs, Mk.svT, Mk.sv, qts, fsv, Go.Od.ints, I, B]); all_goals (try simp [sub_q, fresh_q]); all_goals (try exact fun i hi => by rcases i with _ | _ | _ | i <;> first | rfl | omega))
 (repeat' (first | with_reducible refine splitVC_d (fun _ => ?_) (fun _ => ?_) | with_reducible refine splitVC (fun _ => ?_) (fun _ => ?_) | ((with_reducible refine And.intro ?_ ?_); focus (first | exact True.intro | omega | (simp only [InK, ne_eq, and_true, true_and]; omega) | trivial)) | (simp -dsimp only [↓RP, RQ, implies_true, forall_const, Nat.reduceMul, reduceIte, reduceCtorEq, Nat.reduceAdd, Nat.reduceEqDiff, Nat.reduceLT, Nat.reduceLeDiff, Int.reduceEq, Int.reduceNeg, RZ, eq_self, eq23, TYq, TYp, TYm, TYn, TYw, fsv, B, I, by2, TY, Try.results22])))
 refine callVC (c50 1 2) ?_ ?_ ?_; iterate 2 focus ((simp -dsimp only [↓RP, RQ, implies_true, forall_const, Nat.reduceMul, reduceIte, reduceCtorEq, Nat.reduceAdd, Nat.reduceEqDiff, Nat.reduceLT, Nat.reduceLeDiff, Pl.svT, Pl.sv, rngs, Mk.svT, Mk.sv, qts, fsv, Go.Od.ints, I, B]); all_goals (try simp [sub_q, fresh_q]); all_goals (try exact fun i hi => by rcases i with _ | _ | _ | i <;> first | rfl | omega))
 (repeat' (first | with_reducible refine splitVC_d (fun _ => ?_) (fun _ => ?_) | with_reducible refine splitVC (fun _ => ?_) (fun _ => ?_) | ((with_reducible refine And.intro ?_ ?_); focus (first | exact True.intro | omega | (simp only [InK, ne_eq, and_true, true_and]; omega) | trivial)) | (simp -dsimp only [↓RP, RQ, implies_true, forall_const, Nat.reduceMul, reduceIte, reduceCtorEq, Nat.reduceAdd, Nat.reduceEqDiff, Nat.reduceLT, Nat.reduceLeDiff, Int.reduceEq, Int.reduceNeg, RZ, eq_self, eq23, TYq, TYp, TYm, TYn, TYw, fsv, B, I, by2, TY, Try.results22])))
 refine callVC (c50 3 5) ?_ ?_ ?_; iterate 2 focus ((simp -dsimp only [↓RP, RQ, implies_true, forall_const, Nat.reduceMul, reduceIte, reduceCtorEq, Nat.reduceAdd, Nat.reduceEqDiff, Nat.reduceLT, Nat.reduceLeDiff, Pl.svT, Pl.sv, rngs, Mk.svT, Mk.sv, qts, fsv, Go.Od.ints, I, B]); all_goals (try simp [sub_q, fresh_q]); all_goals (try exact fun i hi => by rcases i with _ | _ | _ | i <;> first | rfl | omega))
 (repeat' (first | with_reducible refine splitVC_d (fun _ => ?_) (fun _ => ?_) | with_reducible refine splitVC (fun _ => ?_) (fun _ => ?_) | ((with_reducible refine And.intro ?_ ?_); focus (first | exact True.intro | omega | (simp only [InK, ne_eq, and_true, true_and]; omega) | trivial)) | (simp -dsimp only [↓RP, RQ, implies_true, forall_const, Nat.reduceMul, reduceIte, reduceCtorEq, Nat.reduceAdd, Nat.reduceEqDiff, Nat.reduceLT, Nat.reduceLeDiff, Int.reduceEq, Int.reduceNeg, RZ, eq_self, eq23, TYq, TYp, TYm, TYn, TYw, fsv, B, I, by2, TY, Try.results22])))
 refine callVC (c50 (-3) 1) ?_ ?_ ?_; iterate 2 focus ((simp -dsimp only [↓RP, RQ, implies_true, forall_const, Nat.reduceMul, reduceIte, reduceCtorEq, Nat.reduceAdd, Nat.reduceEqDiff, Nat.reduceLT, Nat.reduceLeDiff, Pl.svT, Pl.sv, rngs, Mk.svT, Mk.sv, qts, fsv, Go.Od.ints, I, B]); all_goals (try simp [sub_q, fresh_q]); all_goals (try exact fun i hi => by rcases i with _ | _ | _ | i <;> first | rfl | omega))
 (repeat' (first | with_reducible refine splitVC_d (fun _ => ?_) (fun _ => ?_) | with_reducible refine splitVC (fun _ => ?_) (fun _ => ?_) | ((with_reducible refine And.intro ?_ ?_); focus (first | exact True.intro | omega | (simp only [InK, ne_eq, and_true, true_and]; omega) | trivial)) | (simp -dsimp only [↓RP, RQ, implies_true, forall_const, Nat.reduceMul, reduceIte, reduceCtorEq, Nat.reduceAdd, Nat.reduceEqDiff, Nat.reduceLT, Nat.reduceLeDiff, Int.reduceEq, Int.reduceNeg, RZ, eq_self, eq23, TYq, TYp, TYm, TYn, TYw, fsv, B, I, by2, TY, Try.results22])))
 refine callVC h38 ?_ ?_ ?_; iterate 2 focus ((simp -dsimp only [↓RP, RQ, implies_true, forall_const, Nat.reduceMul, reduceIte, reduceCtorEq, Nat.reduceAdd, Nat.reduceEqDiff, Nat.reduceLT, Nat.reduceLeDiff, Pl.svT, Pl.sv, rngs, Mk.svT, Mk.sv, qts, fsv, Go.Od.ints, I, B]); all_goals (try simp [sub_q, fresh_q]); all_goals (try exact fun i hi => by rcases i with _ | _ | _ | i <;> first | rfl | omega))
 (repeat' (first | with_reducible refine splitVC_d (fun _ => ?_) (fun _ => ?_) | with_reducible refine splitVC (fun _ => ?_) (fun _ => ?_) | ((with_reducible refine And.intro ?_ ?_); focus (first | exact True.intro | omega | (simp only [InK, ne_eq, and_true, true_and]; omega) | trivial)) | (simp -dsimp only [↓RP, RQ, implies_true, forall_const, Nat.reduceMul, reduceIte, reduceCtorEq, Nat.reduceAdd, Nat.reduceEqDiff, Nat.reduceLT, Nat.reduceLeDiff, Int.reduceEq, Int.reduceNeg, RZ, eq_self, eq23, TYq, TYp, TYm, TYn, TYw, fsv, B, I, by2, TY, Try.results22])))
 refine callVC h44 ?_ ?_ ?_; iterate 2 focus ((simp -dsimp only [↓RP, RQ, implies_true, forall_const, Nat.reduceMul, reduceIte, reduceCtorEq, Nat.reduceAdd, Nat.reduceEqDiff, Nat.reduceLT, Nat.reduceLeDiff, Pl.svT, Pl.sv, rngs, Mk.svT, Mk.sv, qts, fsv, Go.Od.ints, I, B]); all_goals (try simp [sub_q, fresh_q]); all_goals (try exact fun i hi => by rcases i with _ | _ | _ | i <;> first | rfl | omega))
 (repeat' (first | with_reducible refine splitVC_d (fun _ => ?_) (fun _ => ?_) | with_reducible refine splitVC (fun _ => ?_) (fun _ => ?_) | ((with_reducible refine And.intro ?_ ?_); focus (first | exact True.intro | omega | (simp only [InK, ne_eq, and_true, true_and]; omega) | trivial)) | (simp -dsimp only [↓RP, RQ, implies_true, forall_const, Nat.reduceMul, reduceIte, reduceCtorEq, Nat.reduceAdd, Nat.reduceEqDiff, Nat.reduceLT, Nat.reduceLeDiff, Int.reduceEq, Int.reduceNeg, RZ, eq_self, eq23, TYq, TYp, TYm, TYn, TYw, fsv, B, I, by2, TY, Try.results22])))
end Go.Od
end
