/- A part of the proof. -/
import Derived.Test.YtbomildlhnllhaaOE
section
set_option linter.unusedSimpArgs false
set_option linter.unusedVariables false
set_option linter.defProp false
set_option maxRecDepth 100000
set_option maxHeartbeats 16000000
namespace Go.Od
open Go.Proofs
open Go.Sx
theorem TYu : True ∧ placesOf Try.prog 115 = some [(0, 2), (2, 2), (4, 2), (6, 2), (8, 2)] := ⟨trivial, by kernel_rfl⟩
def lims (f : Nat → Fr) : List SV := [SV.val (.int .i64 (f 0).n), SV.val (.int .i64 (f 0).d), SV.val (.int .i64 (f 1).n), SV.val (.int .i64 (f 1).d), SV.val (.int .i64 (f 2).n), SV.val (.int .i64 (f 2).d), SV.val (.int .i64 (f 3).n), SV.val (.int .i64 (f 3).d), SV.val (.int .i64 (f 4).n), SV.val (.int .i64 (f 4).d)]
theorem lim_get (f : Nat → Fr) {k : Nat} (h : k < 5) : List.take 2 (List.drop (k * 2) [SV.val (.int .i64 (f 0).n), SV.val (.int .i64 (f 0).d), SV.val (.int .i64 (f 1).n), SV.val (.int .i64 (f 1).d), SV.val (.int .i64 (f 2).n), SV.val (.int .i64 (f 2).d), SV.val (.int .i64 (f 3).n), SV.val (.int .i64 (f 3).d), SV.val (.int .i64 (f 4).n), SV.val (.int .i64 (f 4).d)]) = [.val (.int .i64 (f k).n), .val (.int .i64 (f k).d)] := by
 rcases five h with rfl | rfl | rfl | rfl | rfl <;> rfl
theorem one2 (a b : Int) : ∀ (i j : Nat), i < 1 → j < 2 → oneCell ([SV.val (.int .i64 a), SV.val (.int .i64 b)].getD (i * 2 + j) SV.top) = true := by
 intro i j hi hj
 obtain rfl : i = 0 := by omega
 have : j = 0 ∨ j = 1 := by omega
 rcases this with rfl | rfl <;> rfl
theorem c98 (run : Int) (n : Nat) (hn : (n : Int) = run) (n1 : 1 ≤ n) (n5 : n ≤ 5) (f : Nat → Fr) (hf : ∀ j, j < n → Ch (f j)) : Contract Try.prog 98 [.ref false 1 (fun _ => I run), .agg (lims f)] (fsv (sumF f n)) := by
 refine contract_of Try.func98 rfl (by kernel_rfl) follows (by kernel_rfl) _ _ (by rw [Try.ntmps98]; simp) (by simp [OldL, Old, I, lims]) ?_
 subst hn
 have hz : decide ((f 0).d = 0) = false := decide_eq_false (by have := (hf 0 (by omega)).d1; omega)
 conv => arg 4; unfold lims I
 (repeat' (first | with_reducible refine splitVC_d (fun _ => ?_) (fun _ => ?_) | with_reducible refine splitVC (fun _ => ?_) (fun _ => ?_) | ((with_reducible refine And.intro ?_ ?_); focus (first | exact True.intro | omega | (simp only [InK, ne_eq, and_true, true_and]; omega) | exact ⟨.inr trivial, Nat.le_refl _, one2 _ _, by omega⟩ | exact ⟨.inr trivial, Nat.le_refl _, one2 _ _, by omega, by kernel_rfl⟩ | trivial)) | (simp -dsimp only [↓RP, RQ, implies_true, forall_const, Nat.reduceMul, reduceIte, reduceCtorEq, Nat.reduceAdd, Nat.reduceEqDiff, Nat.reduceLT, Nat.reduceLeDiff, hz, Bool.false_and, Bool.and_false, ↓RW, TYu, TYn, TYm, TYd, TYe, QF, FFq, fsv, B, I, by2, RZ, eq_self, TY, Try.results98])))
 all_goals first | (exfalso; omega) | skip
 refine loop_vc (fun i => i ≤ n) (fun i => ⟨[(3, .ptr 0 0), (4, .ptr 1 0), (5, .ptr 3 0), (18, .asl 0 0 n 2), (19, .val (.int .i64 n)), (20, .val (.int .i64 i))], [(3, .cells 23 [.val (.int .i64 (sumF f i).n), .val (.int .i64 (sumF f i).d)]), (1, .cells 23 [.val (.int .i64 0), .val (.int .i64 0)]), (0, .cells 115 [SV.val (.int .i64 (f 0).n), SV.val (.int .i64 (f 0).d), SV.val (.int .i64 (f 1).n), SV.val (.int .i64 (f 1).d), SV.val (.int .i64 (f 2).n), SV.val (.int .i64 (f 2).d), SV.val (.int .i64 (f 3).n), SV.val (.int .i64 (f 3).d), SV.val (.int .i64 (f 4).n), SV.val (.int .i64 (f 4).d)])], 20⟩) (fun i => n - i) 0 (Nat.zero_le _) (weak [] [] ?_ ?_ ?_) fun i hi => ?_
 ·(simp -dsimp only [↓RP, RQ, implies_true, forall_const, Nat.reduceMul, reduceIte, reduceCtorEq, Nat.reduceAdd, Nat.reduceEqDiff, Nat.reduceLT, Nat.reduceLeDiff]); all_goals (try simp)
 ·(simp -dsimp only [↓RP, RQ, implies_true, forall_const, Nat.reduceMul, reduceIte, reduceCtorEq, Nat.reduceAdd, Nat.reduceEqDiff, Nat.reduceLT, Nat.reduceLeDiff, sumF]); all_goals (try simp [sumF])
 ·(simp -dsimp only [↓RP, RQ, implies_true, forall_const, Nat.reduceMul, reduceIte, reduceCtorEq, Nat.reduceAdd, Nat.reduceEqDiff, Nat.reduceLT, Nat.reduceLeDiff]); all_goals (try simp)
 by_cases hlt : i < n
 ·have ⟨⟨m1, m2⟩, ⟨m3, m4⟩, m5, m6⟩ := plus_in (f := f) (i := i) (by omega) fun j hj => hf j (by omega)
  have es : sumF f (i + 1) = plus (sumF f i) (f i) := rfl
  have gl := lim_get f (k := i) (by omega)
  (repeat' (first | with_reducible refine splitVC_d (fun _ => ?_) (fun _ => ?_) | with_reducible refine splitVC (fun _ => ?_) (fun _ => ?_) | ((with_reducible refine And.intro ?_ ?_); focus (first | exact True.intro | omega | (simp only [InK, ne_eq, and_true, true_and]; omega) | exact ⟨.inr trivial, Nat.le_refl _, one2 _ _, by omega⟩ | exact ⟨.inr trivial, Nat.le_refl _, one2 _ _, by omega, by kernel_rfl⟩ | trivial)) | (simp -dsimp only [↓RP, RQ, implies_true, forall_const, Nat.reduceMul, reduceIte, reduceCtorEq, Nat.reduceAdd, Nat.reduceEqDiff, Nat.reduceLT, Nat.reduceLeDiff, gl, ↓RW, TYu, TYn, TYm, TYd, TYe, QF, FFq, fsv, B, I, by2, RZ, eq_self, TY, Try.results98])))
  all_goals first | (exfalso; omega) | skip
  refine callVC (c99 (sumF f i) (f i) (by omega) (by omega) (by omega) (by omega)) (by (simp -dsimp only [↓RP, RQ, implies_true, forall_const, Nat.reduceMul, reduceIte, reduceCtorEq, Nat.reduceAdd, Nat.reduceEqDiff, Nat.reduceLT, Nat.reduceLeDiff, fsv, Go.Od.ints, I, B]); all_goals (try simp)) (by (simp -dsimp only [↓RP, RQ, implies_true, forall_const, Nat.reduceMul, reduceIte, reduceCtorEq, Nat.reduceAdd, Nat.reduceEqDiff, Nat.reduceLT, Nat.reduceLeDiff, fsv, I])) ?_
  rw [← es]
  (repeat' (first | with_reducible refine splitVC_d (fun _ => ?_) (fun _ => ?_) | with_reducible refine splitVC (fun _ => ?_) (fun _ => ?_) | ((with_reducible refine And.intro ?_ ?_); focus (first | exact True.intro | omega | (simp only [InK, ne_eq, and_true, true_and]; omega) | exact ⟨.inr trivial, Nat.le_refl _, one2 _ _, by omega⟩ | exact ⟨.inr trivial, Nat.le_refl _, one2 _ _, by omega, by kernel_rfl⟩ | trivial)) | (simp -dsimp only [↓RP, RQ, implies_true, forall_const, Nat.reduceMul, reduceIte, reduceCtorEq, Nat.reduceAdd, Nat.reduceEqDiff, Nat.reduceLT, Nat.reduceLeDiff, gl, ↓RW, TYu, TYn, TYm, TYd, TYe, QF, FFq, fsv, B, I, by2, RZ, eq_self, TY, Try.results98])))
  all_goals first | (exfalso; omega) | skip
  refine ⟨i + 1, by omega, by omega, weak [] [] ?_ ?_ ?_⟩
  ·(simp -dsimp only [↓RP, RQ, implies_true, forall_const, Nat.reduceMul, reduceIte, reduceCtorEq, Nat.reduceAdd, Nat.reduceEqDiff, Nat.reduceLT, Nat.reduceLeDiff]); all_goals (try simp)
  ·(simp -dsimp only [↓RP, RQ, implies_true, forall_const, Nat.reduceMul, reduceIte, reduceCtorEq, Nat.reduceAdd, Nat.reduceEqDiff, Nat.reduceLT, Nat.reduceLeDiff]); all_goals (try simp)
  ·(simp -dsimp only [↓RP, RQ, implies_true, forall_const, Nat.reduceMul, reduceIte, reduceCtorEq, Nat.reduceAdd, Nat.reduceEqDiff, Nat.reduceLT, Nat.reduceLeDiff]); all_goals (try simp)
 ·have e : i = n := by omega
  subst e
  (repeat' (first | with_reducible refine splitVC_d (fun _ => ?_) (fun _ => ?_) | with_reducible refine splitVC (fun _ => ?_) (fun _ => ?_) | ((with_reducible refine And.intro ?_ ?_); focus (first | exact True.intro | omega | (simp only [InK, ne_eq, and_true, true_and]; omega) | exact ⟨.inr trivial, Nat.le_refl _, one2 _ _, by omega⟩ | exact ⟨.inr trivial, Nat.le_refl _, one2 _ _, by omega, by kernel_rfl⟩ | trivial)) | (simp -dsimp only [↓RP, RQ, implies_true, forall_const, Nat.reduceMul, reduceIte, reduceCtorEq, Nat.reduceAdd, Nat.reduceEqDiff, Nat.reduceLT, Nat.reduceLeDiff, ↓RW, TYu, TYn, TYm, TYd, TYe, QF, FFq, fsv, B, I, by2, RZ, eq_self, TY, Try.results98])))
  all_goals first | (exfalso; omega) | skip
  all_goals first | exact ⟨rfl, rfl⟩ | exact ⟨⟨rfl, rfl⟩, ⟨rfl, rfl⟩⟩ | exact ⟨⟨rfl, rfl⟩, rfl⟩ | exact ⟨⟨rfl, rfl⟩, ⟨rfl, rfl⟩, rfl⟩ | skip
theorem by23 : bytesOf Try.prog 23 = 16 := by kernel_rfl
end Go.Od
end
section
set_option linter.unusedSimpArgs false
set_option linter.unusedVariables false
set_option linter.defProp false
set_option maxRecDepth 100000
set_option maxHeartbeats 16000000
namespace Go.Od
open Go.Proofs
open Go.Sx
def inB (M : Mk) (n : Nat) : Prop := ∀ r : Nat, r < n → ¬ lt (hiS M.q r M.m) (loS M.q r M.m)
instance (M : Mk) (n : Nat) : Decidable (inB M n) := by unfold inB; infer_instance
def fairB (M : Mk) : Prop := inB M M.run.toNat ∧ ¬ lt ⟨1, 1⟩ (sumF (fun r : Nat => loS M.q r M.m) M.run.toNat) ∧ ¬ lt (sumF (fun r : Nat => hiS M.q r M.m) M.run.toNat) ⟨1, 1⟩
instance (M : Mk) : Decidable (fairB M) := by unfold fairB; infer_instance
theorem one_in {f : Nat → Fr} {n : Nat} (hn : n ≤ 5) (h : ∀ j, j < n → Ch (f j)) : (0 ≤ 1 * (sumF f n).d ∧ 1 * (sumF f n).d ≤ 320000000000) ∧ (0 ≤ (sumF f n).n * 1 ∧ (sumF f n).n * 1 ≤ 1600000000000) := by
 have ⟨a1, a2, a3, a4⟩ := sumF_bd h
 have hp := pw_le hn
 have e1 : (n : Int) * (sumF f n).d ≤ 5 * 320000000000 := Int.mul_le_mul (by omega) (by omega) (by omega) (by omega)
 omega
end Go.Od
end
section
set_option linter.unusedSimpArgs false
set_option linter.unusedVariables false
set_option linter.defProp false
set_option maxRecDepth 100000
set_option maxHeartbeats 16000000
namespace Go.Od
open Go.Proofs
open Go.Sx
theorem TYw : True ∧ tyOf Try.prog 102 = some ⟨false, 1, some [.slice none 0 0], .slice 3 1⟩ ∧ tyOf Try.prog 96 = some ⟨false, 1, some [.pointer none], .other⟩ := ⟨trivial, by kernel_rfl, by kernel_rfl⟩
theorem oldL_get : ∀ {l : List SV}, OldL l → ∀ j, j < l.length → Old (l.getD j .top)
 | [], _, j, h => by simp at h
 | a :: l, h, 0, _ => by simp only [OldL] at h; exact h.1
 | a :: l, h, j + 1, hj => by
  simp only [OldL] at h
  have := oldL_get h.2 j (by simpa using hj)
  simpa using this
def dkr (M : Mk) (lo hi : Nat → Fr) (j : Nat) : SV := (dkL M.run M.m M.q lo hi 0).getD j .top
theorem dkr_take (M : Mk) (lo hi : Nat → Fr) : ∀ j, j < 22 → dkr M lo hi j = ((dkL M.run M.m M.q lo hi 0).take 22).getD j .top := fun j hj => by
 unfold dkr
 simp only [List.getD_eq_getElem?_getD]
 rw [List.getElem?_take_of_lt hj]
theorem dkr_old (M : Mk) (lo hi : Nat → Fr) : ∀ j, j < 22 → Old (dkr M lo hi j) := fun j hj => by
 rw [dkr_take M lo hi j hj]
 refine oldL_get ?_ j (by show j < 22; exact hj)
 show OldL [vI M.run, .arr false false M.m 4 (fun i j => qf (M.q i) j), vI (lo 0).n, vI (lo 0).d, vI (lo 1).n, vI (lo 1).d, vI (lo 2).n, vI (lo 2).d, vI (lo 3).n, vI (lo 3).d, vI (lo 4).n, vI (lo 4).d, vI (hi 0).n, vI (hi 0).d, vI (hi 1).n, vI (hi 1).d, vI (hi 2).n, vI (hi 2).d, vI (hi 3).n, vI (hi 3).d, vI (hi 4).n, vI (hi 4).d]
 simp only [OldL, vI, Old, and_self]
 exact ⟨trivial, ⟨trivial, fun i j _ _ => qf_old _ _⟩, trivial⟩
theorem dkr_mid (M : Mk) (lo hi : Nat → Fr) (mid : Nat) : ∀ j, j < 22 → (dkL M.run M.m M.q lo hi mid).getD j .top = dkr M lo hi j := fun j hj => by
 rw [dkr_take M lo hi j hj]
 have : (dkL M.run M.m M.q lo hi 0).take 22 = (dkL M.run M.m M.q lo hi mid).take 22 := rfl
 rw [this]
 simp only [List.getD_eq_getElem?_getD]
 rw [List.getElem?_take_of_lt hj]
theorem dkr_sub (hp : List (Nat × Blk)) (M : Mk) (lo hi : Nat → Fr) (mid : Nat) : ∀ j, j < 22 → Go.Sx.Sub hp (dkr M lo hi j) ((dkL M.run M.m M.q lo hi mid).getD j .top) ∧ j < (dkL M.run M.m M.q lo hi mid).length := fun j hj => by
 rw [dkr_mid M lo hi mid j hj, dk_len]
 exact ⟨sub_refl _ (dkr_old M lo hi j hj), by omega⟩
theorem dkr_lo (M : Mk) (lo hi : Nat → Fr) {k : Nat} (h : k < 5) : dkr M lo hi (2 + k * 2) = vI (lo k).n ∧ dkr M lo hi (2 + (k * 2 + 1)) = vI (lo k).d := by
 rcases five h with rfl | rfl | rfl | rfl | rfl <;> exact ⟨rfl, rfl⟩
theorem dkr_hi (M : Mk) (lo hi : Nat → Fr) {k : Nat} (h : k < 5) : dkr M lo hi (12 + k * 2) = vI (hi k).n ∧ dkr M lo hi (12 + (k * 2 + 1)) = vI (hi k).d := by
 rcases five h with rfl | rfl | rfl | rfl | rfl <;> exact ⟨rfl, rfl⟩
def crossV (M : Mk) (r : Nat) : Bool := decide (lt (hiS M.q r M.m) (loS M.q r M.m))
def clo (M : Mk) : SV := .ref false 1 (fun _ => .ref false 22 (dkr M (dlo M M.m) (dhi M M.m)))
theorem clo_old (M : Mk) : Old (clo M) := by
 simp only [clo, Old]
 exact ⟨trivial, fun _ _ => ⟨trivial, fun j hj => dkr_old _ _ _ j hj⟩⟩
theorem c97 (M : Mk) (hf : M.Fine) (r : Nat) (hr : (r : Int) < M.run) : Contract Try.prog 97 [I r, clo M] (B (crossV M r)) := by
 refine contract_of Try.func97 rfl (by kernel_rfl) follows (by kernel_rfl) _ _ (by rw [Try.ntmps97]; simp) (by simp only [OldL, clo_old, and_true]; simp [Old, I]) ?_
 have hr5 := hf.r5
 have gl := dkr_lo M (dlo M M.m) (dhi M M.m) (k := r) (by omega)
 have gh := dkr_hi M (dlo M M.m) (dhi M M.m) (k := r) (by omega)
 have el : dlo M M.m r = loS M.q r M.m := by unfold dlo; rw [if_pos hr]
 have eh : dhi M M.m r = hiS M.q r M.m := by unfold dhi; rw [if_pos hr]
 rw [el] at gl
 rw [eh] at gh
 have cl := loS_ch (q := M.q) (r := r) hf.od
 have ch := hiS_ch (q := M.q) (r := r) hf.od
 have n1 := ch.in1 cl
 have n2 := cl.in1 ch
 unfold B crossV
 conv => arg 4; unfold clo I
 (repeat' (first | with_reducible refine splitVC_d (fun _ => ?_) (fun _ => ?_) | with_reducible refine splitVC (fun _ => ?_) (fun _ => ?_) | ((with_reducible refine And.intro ?_ ?_); focus (first | exact True.intro | omega | (simp only [InK, ne_eq, and_true, true_and]; omega) | trivial)) | (simp -dsimp only [↓RP, RQ, implies_true, forall_const, Nat.reduceMul, reduceIte, reduceCtorEq, Nat.reduceAdd, Nat.reduceEqDiff, Nat.reduceLT, Nat.reduceLeDiff, sel, Nat.add_assoc, gl, gh, TYn, TYd, TYm, TYw, QF, fsv, B, I, by2, RZ, eq_self, TY, Try.results97])))
 all_goals first | (exfalso; omega) | skip
 refine callVC (c66 (hiS M.q r M.m) (loS M.q r M.m) (by simp only [InK]; omega) (by simp only [InK]; omega)) (by (simp -dsimp only [↓RP, RQ, implies_true, forall_const, Nat.reduceMul, reduceIte, reduceCtorEq, Nat.reduceAdd, Nat.reduceEqDiff, Nat.reduceLT, Nat.reduceLeDiff, fsv, Go.Od.ints, I, B]); all_goals (try simp)) (by (simp -dsimp only [↓RP, RQ, implies_true, forall_const, Nat.reduceMul, reduceIte, reduceCtorEq, Nat.reduceAdd, Nat.reduceEqDiff, Nat.reduceLT, Nat.reduceLeDiff, B])) ?_
 (repeat' (first | with_reducible refine splitVC_d (fun _ => ?_) (fun _ => ?_) | with_reducible refine splitVC (fun _ => ?_) (fun _ => ?_) | ((with_reducible refine And.intro ?_ ?_); focus (first | exact True.intro | omega | (simp only [InK, ne_eq, and_true, true_and]; omega) | trivial)) | (simp -dsimp only [↓RP, RQ, implies_true, forall_const, Nat.reduceMul, reduceIte, reduceCtorEq, Nat.reduceAdd, Nat.reduceEqDiff, Nat.reduceLT, Nat.reduceLeDiff, TYn, TYd, TYm, TYw, QF, fsv, B, I, by2, RZ, eq_self, TY, Try.results97])))
theorem c96 (M : Mk) (hf : M.Fine) (n : Nat) (hn : (n : Int) = M.run) : Contract Try.prog 96 [I (-1), ints n (fun i => (i : Int)), .fn (.func 97) [] [clo M]] (I (fstI (crossV M) 0 n)) := by
 refine contract_of Try.func96 rfl (by kernel_rfl) follows (by kernel_rfl) _ _ (by rw [Try.ntmps96]; simp) (by simp only [OldL, Old, clo_old, and_true]; simp [Old, I, ints]) ?_
 have hr5 := hf.r5
 conv => arg 4; unfold clo ints I
 (repeat' (first | with_reducible refine splitVC_d (fun _ => ?_) (fun _ => ?_) | with_reducible refine splitVC (fun _ => ?_) (fun _ => ?_) | ((with_reducible refine And.intro ?_ ?_); focus (first | exact True.intro | omega | (simp only [InK, ne_eq, and_true, true_and]; omega) | trivial)) | (simp -dsimp only [↓RP, RQ, implies_true, forall_const, Nat.reduceMul, reduceIte, reduceCtorEq, Nat.reduceAdd, Nat.reduceEqDiff, Nat.reduceLT, Nat.reduceLeDiff, TYn, TYd, TYm, TYw, QF, fsv, B, I, by2, RZ, eq_self, TY, Try.results96])))
 refine loop_vc (fun i => i ≤ n ∧ fstI (crossV M) 0 n = fstI (crossV M) i (n - i)) (fun i => ⟨[(0, .val (.int .i64 (-1))), (2, .fn (.func 97) [] [.ref false 1 (fun _ => .ref false 22 (dkr M (dlo M M.m) (dhi M M.m)))]), (9, .arr false false n 1 (fun i _ => .val (.int .i64 (i : Nat)))), (10, .val (.int .i64 n)), (11, .val (.int .i64 i))], [], 20⟩) (fun i => n - i) 0 ⟨Nat.zero_le _, rfl⟩ (weak [] [] ?_ ?_ ?_) fun i hi => ?_
 ·(simp -dsimp only [↓RP, RQ, implies_true, forall_const, Nat.reduceMul, reduceIte, reduceCtorEq, Nat.reduceAdd, Nat.reduceEqDiff, Nat.reduceLT, Nat.reduceLeDiff]); all_goals (try simp)
  all_goals (try exact fun j hj => wk_refl _ (dkr_old _ _ _ j hj))
 ·(simp -dsimp only [↓RP, RQ, implies_true, forall_const, Nat.reduceMul, reduceIte, reduceCtorEq, Nat.reduceAdd, Nat.reduceEqDiff, Nat.reduceLT, Nat.reduceLeDiff])
 ·(simp -dsimp only [↓RP, RQ, implies_true, forall_const, Nat.reduceMul, reduceIte, reduceCtorEq, Nat.reduceAdd, Nat.reduceEqDiff, Nat.reduceLT, Nat.reduceLeDiff]); all_goals (try simp)
 obtain ⟨hi, he⟩ := hi
 have e1 : ∀ k, n - i = k + 1 → fstI (crossV M) i (n - i) = if crossV M i = true then (i : Int) else fstI (crossV M) (i + 1) k := fun k hk => by rw [hk]; rfl
 by_cases hlt : i < n
 ·have e2 := e1 (n - (i + 1)) (by omega)
  (repeat' (first | with_reducible refine splitVC_d (fun _ => ?_) (fun _ => ?_) | with_reducible refine splitVC (fun _ => ?_) (fun _ => ?_) | ((with_reducible refine And.intro ?_ ?_); focus (first | exact True.intro | omega | (simp only [InK, ne_eq, and_true, true_and]; omega) | trivial)) | (simp -dsimp only [↓RP, RQ, implies_true, forall_const, Nat.reduceMul, reduceIte, reduceCtorEq, Nat.reduceAdd, Nat.reduceEqDiff, Nat.reduceLT, Nat.reduceLeDiff, TYn, TYd, TYm, TYw, QF, fsv, B, I, by2, RZ, eq_self, TY, Try.results96])))
  all_goals first | (exfalso; omega) | skip
  refine callVC (c97 M hf i (by omega)) (by (simp -dsimp only [↓RP, RQ, implies_true, forall_const, Nat.reduceMul, reduceIte, reduceCtorEq, Nat.reduceAdd, Nat.reduceEqDiff, Nat.reduceLT, Nat.reduceLeDiff, clo, I]); all_goals (try simp); all_goals (try exact fun j hj => sub_refl _ (dkr_old _ _ _ j hj))) (by (simp -dsimp only [↓RP, RQ, implies_true, forall_const, Nat.reduceMul, reduceIte, reduceCtorEq, Nat.reduceAdd, Nat.reduceEqDiff, Nat.reduceLT, Nat.reduceLeDiff, B])) ?_
  cases hc : crossV M i
  all_goals rw [hc] at e2
  all_goals (repeat' (first | with_reducible refine splitVC_d (fun _ => ?_) (fun _ => ?_) | with_reducible refine splitVC (fun _ => ?_) (fun _ => ?_) | ((with_reducible refine And.intro ?_ ?_); focus (first | exact True.intro | omega | (simp only [InK, ne_eq, and_true, true_and]; omega) | trivial)) | (simp -dsimp only [↓RP, RQ, implies_true, forall_const, Nat.reduceMul, reduceIte, reduceCtorEq, Nat.reduceAdd, Nat.reduceEqDiff, Nat.reduceLT, Nat.reduceLeDiff, TYn, TYd, TYm, TYw, QF, fsv, B, I, by2, RZ, eq_self, TY, Try.results96])))
  ·refine ⟨i + 1, ⟨by omega, by rw [he, e2, if_neg (by decide)]⟩, by omega, weak [] [] ?_ ?_ ?_⟩
   ·(simp -dsimp only [↓RP, RQ, implies_true, forall_const, Nat.reduceMul, reduceIte, reduceCtorEq, Nat.reduceAdd, Nat.reduceEqDiff, Nat.reduceLT, Nat.reduceLeDiff]); all_goals (try simp)
    all_goals (try exact fun j hj => wk_refl _ (dkr_old _ _ _ j hj))
   ·(simp -dsimp only [↓RP, RQ, implies_true, forall_const, Nat.reduceMul, reduceIte, reduceCtorEq, Nat.reduceAdd, Nat.reduceEqDiff, Nat.reduceLT, Nat.reduceLeDiff])
   ·(simp -dsimp only [↓RP, RQ, implies_true, forall_const, Nat.reduceMul, reduceIte, reduceCtorEq, Nat.reduceAdd, Nat.reduceEqDiff, Nat.reduceLT, Nat.reduceLeDiff]); all_goals (try simp)
  ·refine I_eq ?_
   rw [he, e2, if_pos rfl]
 ·(repeat' (first | with_reducible refine splitVC_d (fun _ => ?_) (fun _ => ?_) | with_reducible refine splitVC (fun _ => ?_) (fun _ => ?_) | ((with_reducible refine And.intro ?_ ?_); focus (first | exact True.intro | omega | (simp only [InK, ne_eq, and_true, true_and]; omega) | trivial)) | (simp -dsimp only [↓RP, RQ, implies_true, forall_const, Nat.reduceMul, reduceIte, reduceCtorEq, Nat.reduceAdd, Nat.reduceEqDiff, Nat.reduceLT, Nat.reduceLeDiff, TYn, TYd, TYm, TYw, QF, fsv, B, I, by2, RZ, eq_self, TY, Try.results96])))
  all_goals first | (exfalso; omega) | skip
  refine I_eq ?_
  have : n - i = 0 := by omega
  rw [he, this]; rfl
end Go.Od
end
