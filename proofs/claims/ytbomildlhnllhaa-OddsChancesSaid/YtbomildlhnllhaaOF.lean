/- A part of the proof. -/
import Derived.Test.YtbomildlhnllhaaOE
section
set_option linter.unusedSimpArgs false
set_option linter.unusedVariables false
set_option linter.defProp false
set_option maxRecDepth 100000
set_option maxHeartbeats 16000000
namespace Go.Od
open Go.Proofs
open Go.Sx
theorem TYu : True ∧ placesOf Try.prog 115 = some [(0, 2), (2, 2), (4, 2), (6, 2), (8, 2)] := ⟨trivial, by kernel_rfl⟩
def lims (f : Nat → Fr) : List SV := [SV.val (.int .i64 (f 0).n), SV.val (.int .i64 (f 0).d), SV.val (.int .i64 (f 1).n), SV.val (.int .i64 (f 1).d), SV.val (.int .i64 (f 2).n), SV.val (.int .i64 (f 2).d), SV.val (.int .i64 (f 3).n), SV.val (.int .i64 (f 3).d), SV.val (.int .i64 (f 4).n), SV.val (.int .i64 (f 4).d)]
theorem lim_get (f : Nat → Fr) {k : Nat} (h : k < 5) : List.take 2 (List.drop (k * 2) [SV.val (.int .i64 (f 0).n), SV.val (.int .i64 (f 0).d), SV.val (.int .i64 (f 1).n), SV.val (.int .i64 (f 1).d), SV.val (.int .i64 (f 2).n), SV.val (.int .i64 (f 2).d), SV.val (.int .i64 (f 3).n), SV.val (.int .i64 (f 3).d), SV.val (.int .i64 (f 4).n), SV.val (.int .i64 (f 4).d)]) = [.val (.int .i64 (f k).n), .val (.int .i64 (f k).d)] := by
 rcases five h with rfl | rfl | rfl | rfl | rfl <;> rfl
theorem one2 (a b : Int) : ∀ (i j : Nat), i < 1 → j < 2 → oneCell ([SV.val (.int .i64 a), SV.val (.int .i64 b)].getD (i * 2 + j) SV.top) = true := by
 intro i j hi hj
 obtain rfl : i = 0 := by omega
 have : j = 0 ∨ j = 1 := by omega
 rcases this with rfl | rfl <;> rfl
theorem c98 (run : Int) (n : Nat) (hn : (n : Int) = run) (n1 : 1 ≤ n) (n5 : n ≤ 5) (f : Nat → Fr) (hf : ∀ j, j < n → Ch (f j)) : Contract Try.prog 98 [.ref false 1 (fun _ => I run), .agg (lims f)] (fsv (sumF f n)) := by
 refine contract_of Try.func98 rfl (by kernel_rfl) follows (by kernel_rfl) _ _ (by rw [Try.ntmps98]; simp) (by simp [OldL, Old, I, lims]) ?_
 subst hn
 have hz : decide ((f 0).d = 0) = false := decide_eq_false (by have := (hf 0 (by omega)).d1; omega)
 conv => arg 4; unfold lims I
 (repeat' (first | with_reducible refine splitVC_d (fun _ => ?_) (fun _ => ?_) | with_reducible refine splitVC (fun _ => ?_) (fun _ => ?_) | ((with_reducible refine And.intro ?_ ?_); focus (first | exact True.intro | omega | (simp only [InK, ne_eq, and_true, true_and]; omega) | exact ⟨.inr trivial, Nat.le_refl _, one2 _ _, by omega⟩ | exact ⟨.inr trivial, Nat.le_refl _, one2 _ _, by omega, by kernel_rfl⟩ | trivial)) | (simp -dsimp only [↓RP, RQ, implies_true, forall_const, Nat.reduceMul, reduceIte, reduceCtorEq, Nat.reduceAdd, Nat.reduceEqDiff, Nat.reduceLT, Nat.reduceLeDiff, hz, Bool.false_and, Bool.and_false, ↓RW, TYu, TYn, TYm, TYd, TYe, QF, FFq, fsv, B, I, by2, RZ, eq_self, TY, Try.results98])))
 all_goals first | (exfalso; omega) | skip
 refine loop_vc (fun i => i ≤ n) (fun i => ⟨[(3, .ptr 0 0), (4, .ptr 1 0), (5, .ptr 3 0), (18, .asl 0 0 n 2), (19, .val (.int .i64 n)), (20, .val (.int .i64 i))], [(3, .cells 23 [.val (.int .i64 (sumF f i).n), .val (.int .i64 (sumF f i).d)]), (1, .cells 23 [.val (.int .i64 0), .val (.int .i64 0)]), (0, .cells 115 [SV.val (.int .i64 (f 0).n), SV.val (.int .i64 (f 0).d), SV.val (.int .i64 (f 1).n), SV.val (.int .i64 (f 1).d), SV.val (.int .i64 (f 2).n), SV.val (.int .i64 (f 2).d), SV.val (.int .i64 (f 3).n), SV.val (.int .i64 (f 3).d), SV.val (.int .i64 (f 4).n), SV.val (.int .i64 (f 4).d)])], 20⟩) (fun i => n - i) 0 (Nat.zero_le _) (weak [] [] ?_ ?_ ?_) fun i hi => ?_
 ·(simp -dsimp only [↓RP, RQ, implies_true, forall_const, Nat.reduceMul, reduceIte, reduceCtorEq, Nat.reduceAdd, Nat.reduceEqDiff, Nat.reduceLT, Nat.reduceLeDiff]); all_goals (try simp)
 ·(simp -dsimp only [↓RP, RQ, implies_true, forall_const, Nat.reduceMul, reduceIte, reduceCtorEq, Nat.reduceAdd, Nat.reduceEqDiff, Nat.reduceLT, Nat.reduceLeDiff, sumF]); all_goals (try simp [sumF])
 ·(simp -dsimp only [↓RP, RQ, implies_true, forall_const, Nat.reduceMul, reduceIte, reduceCtorEq, Nat.reduceAdd, Nat.reduceEqDiff, Nat.reduceLT, Nat.reduceLeDiff]); all_goals (try simp)
 by_cases hlt : i < n
 ·have ⟨⟨m1, m2⟩, ⟨m3, m4⟩, m5, m6⟩ := plus_in (f := f) (i := i) (by omega) fun j hj => hf j (by omega)
  have es : sumF f (i + 1) = plus (sumF f i) (f i) := rfl
  have gl := lim_get f (k := i) (by omega)
  (repeat' (first | with_reducible refine splitVC_d (fun _ => ?_) (fun _ => ?_) | with_reducible refine splitVC (fun _ => ?_) (fun _ => ?_) | ((with_reducible refine And.intro ?_ ?_); focus (first | exact True.intro | omega | (simp only [InK, ne_eq, and_true, true_and]; omega) | exact ⟨.inr trivial, Nat.le_refl _, one2 _ _, by omega⟩ | exact ⟨.inr trivial, Nat.le_refl _, one2 _ _, by omega, by kernel_rfl⟩ | trivial)) | (simp -dsimp only [↓RP, RQ, implies_true, forall_const, Nat.reduceMul, reduceIte, reduceCtorEq, Nat.reduceAdd, Nat.reduceEqDiff, Nat.reduceLT, Nat.reduceLeDiff, gl, ↓RW, TYu, TYn, TYm, TYd, TYe, QF, FFq, fsv, B, I, by2, RZ, eq_self, TY, Try.results98])))
  all_goals first | (exfalso; omega) | skip
  refine callVC (c99 (sumF f i) (f i) (by omega) (by omega) (by omega) (by omega)) (by (simp -dsimp only [↓RP, RQ, implies_true, forall_const, Nat.reduceMul, reduceIte, reduceCtorEq, Nat.reduceAdd, Nat.reduceEqDiff, Nat.reduceLT, Nat.reduceLeDiff, fsv, Go.Od.ints, I, B]); all_goals (try simp)) (by (simp -dsimp only [↓RP, RQ, implies_true, forall_const, Nat.reduceMul, reduceIte, reduceCtorEq, Nat.reduceAdd, Nat.reduceEqDiff, Nat.reduceLT, Nat.reduceLeDiff, fsv, I])) ?_
  rw [← es]
  (repeat' (first | with_reducible refine splitVC_d (fun _ => ?_) (fun _ => ?_) | with_reducible refine splitVC (fun _ => ?_) (fun _ => ?_) | ((with_reducible refine And.intro ?_ ?_); focus (first | exact True.intro | omega | (simp only [InK, ne_eq, and_true, true_and]; omega) | exact ⟨.inr trivial, Nat.le_refl _, one2 _ _, by omega⟩ | exact ⟨.inr trivial, Nat.le_refl _, one2 _ _, by omega, by kernel_rfl⟩ | trivial)) | (simp -dsimp only [↓RP, RQ, implies_true, forall_const, Nat.reduceMul, reduceIte, reduceCtorEq, Nat.reduceAdd, Nat.reduceEqDiff, Nat.reduceLT, Nat.reduceLeDiff, gl, ↓RW, TYu, TYn, TYm, TYd, TYe, QF, FFq, fsv, B, I, by2, RZ, eq_self, TY, Try.results98])))
  all_goals first | (exfalso; omega) | skip
  refine ⟨i + 1, by omega, by omega, weak [] [] ?_ ?_ ?_⟩
  ·(simp -dsimp only [↓RP, RQ, implies_true, forall_const, Nat.reduceMul, reduceIte, reduceCtorEq, Nat.reduceAdd, Nat.reduceEqDiff, Nat.reduceLT, Nat.reduceLeDiff]); all_goals (try simp)
  ·(simp -dsimp only [↓RP, RQ, implies_true, forall_const, Nat.reduceMul, reduceIte, reduceCtorEq, Nat.reduceAdd, Nat.reduceEqDiff, Nat.reduceLT, Nat.reduceLeDiff]); all_goals (try simp)
  ·(simp -dsimp only [↓RP, RQ, implies_true, forall_const, Nat.reduceMul, reduceIte, reduceCtorEq, Nat.reduceAdd, Nat.reduceEqDiff, Nat.reduceLT, Nat.reduceLeDiff]); all_goals (try simp)
 ·have e : i = n := by omega
  subst e
  (repeat' (first | with_reducible refine splitVC_d (fun _ => ?_) (fun _ => ?_) | with_reducible refine splitVC (fun _ => ?_) (fun _ => ?_) | ((with_reducible refine And.intro ?_ ?_); focus (first | exact True.intro | omega | (simp only [InK, ne_eq, and_true, true_and]; omega) | exact ⟨.inr trivial, Nat.le_refl _, one2 _ _, by omega⟩ | exact ⟨.inr trivial, Nat.le_refl _, one2 _ _, by omega, by kernel_rfl⟩ | trivial)) | (simp -dsimp only [↓RP, RQ, implies_true, forall_const, Nat.reduceMul, reduceIte, reduceCtorEq, Nat.reduceAdd, Nat.reduceEqDiff, Nat.reduceLT, Nat.reduceLeDiff, ↓RW, TYu, TYn, TYm, TYd, TYe, QF, FFq, fsv, B, I, by2, RZ, eq_self, TY, Try.results98])))
  all_goals first | (exfalso; omega) | skip
  all_goals first | exact ⟨rfl, rfl⟩ | exact ⟨⟨rfl, rfl⟩, ⟨rfl, rfl⟩⟩ | exact ⟨⟨rfl, rfl⟩, rfl⟩ | exact ⟨⟨rfl, rfl⟩, ⟨rfl, rfl⟩, rfl⟩ | skip
theorem by23 : bytesOf Try.prog 23 = 16 := by kernel_rfl
def st100 (M : Mk) : Nat → St
 | 0 => ⟨[(1, .ptr 0 0), (4, .val (.slice none 0 0)), (5, .val (.slice none 0 0)), (6, .val (.int .i64 0))], [(0, .cells 44 [.val (.int .i64 M.run), .arr false false M.m 4 (fun i j => qf (M.q i) j)])], 20⟩
 | r + 1 => ⟨[(1, .ptr 0 0), (4, .vec 60 (r + 1) 2), (5, .vec 61 (r + 1) 2), (6, .val (.int .i64 (r + 1 : Nat)))], [(60, .rows 23 2 (r + 1) (fun i j => ff (loS M.q (i : Nat) M.m) j)), (61, .rows 23 2 (r + 1) (fun i j => ff (hiS M.q (i : Nat) M.m) j)), (0, .cells 44 [.val (.int .i64 M.run), .arr false false M.m 4 (fun i j => qf (M.q i) j)])], 62⟩
theorem c100 (M : Mk) (hf : M.Fine) : Contract Try.prog 100 [M.sv] (.tup [.arr true false M.run.toNat 2 (fun i j => ff (loS M.q (i : Nat) M.m) j), .arr true false M.run.toNat 2 (fun i j => ff (hiS M.q (i : Nat) M.m) j)]) := by
 refine contract_ofF (farL [(15, [(0, 0)])]) Try.func100 rfl (by kernel_rfl) follows (by kernel_rfl) _ _ (by rw [Try.ntmps100]; simp) (by simp only [OldL, Mk.old, and_self]) ?_
 have hr5 := hf.r5
 have hr1 := hf.r1
 have hm := hf.m12
 conv => arg 4; unfold Mk.sv qts I
 (repeat' (first | with_reducible refine splitVC_d (fun _ => ?_) (fun _ => ?_) | with_reducible refine splitVC (fun _ => ?_) (fun _ => ?_) | ((with_reducible refine And.intro ?_ ?_); focus (first | exact True.intro | omega | (simp only [InK, ne_eq, and_true, true_and]; omega) | exact ⟨.inr trivial, Nat.le_refl _, one2 _ _, by omega⟩ | exact ⟨.inr trivial, Nat.le_refl _, one2 _ _, by omega, by kernel_rfl⟩ | trivial)) | (simp -dsimp only [↓RP, RQ, implies_true, forall_const, Nat.reduceMul, reduceIte, reduceCtorEq, Nat.reduceAdd, Nat.reduceEqDiff, Nat.reduceLT, Nat.reduceLeDiff, ↓RW, by23, TYu, TYn, TYm, TYd, TYe, QF, FFq, fsv, B, I, by2, RZ, eq_self, TY, Try.results100])))
 refine loop_vc (fun (r : Nat) => (r : Int) ≤ M.run) (st100 M) (fun r => (M.run - r).toNat) 0 (by omega) (weak [] [] ?_ ?_ ?_) fun r hr0 => ?_
 ·(simp -dsimp only [↓RP, RQ, implies_true, forall_const, Nat.reduceMul, reduceIte, reduceCtorEq, Nat.reduceAdd, Nat.reduceEqDiff, Nat.reduceLT, Nat.reduceLeDiff, st100]); all_goals (try simp [wk_q])
 ·(simp -dsimp only [↓RP, RQ, implies_true, forall_const, Nat.reduceMul, reduceIte, reduceCtorEq, Nat.reduceAdd, Nat.reduceEqDiff, Nat.reduceLT, Nat.reduceLeDiff, st100]); all_goals (try simp [wk_q])
 ·(simp -dsimp only [↓RP, RQ, implies_true, forall_const, Nat.reduceMul, reduceIte, reduceCtorEq, Nat.reduceAdd, Nat.reduceEqDiff, Nat.reduceLT, Nat.reduceLeDiff, st100]); all_goals (try simp [wk_q])
 by_cases hrl : (r : Int) < M.run
 ·cases r with
  | zero =>
   conv => arg 4; unfold st100
   have hr : ((0 : Nat) : Int) < M.run := by omega
   (repeat' (first | with_reducible refine splitVC_d (fun _ => ?_) (fun _ => ?_) | with_reducible refine splitVC (fun _ => ?_) (fun _ => ?_) | ((with_reducible refine And.intro ?_ ?_); focus (first | exact True.intro | omega | (simp only [InK, ne_eq, and_true, true_and]; omega) | exact ⟨.inr trivial, Nat.le_refl _, one2 _ _, by omega⟩ | exact ⟨.inr trivial, Nat.le_refl _, one2 _ _, by omega, by kernel_rfl⟩ | trivial)) | (simp -dsimp only [↓RP, RQ, implies_true, forall_const, Nat.reduceMul, reduceIte, reduceCtorEq, Nat.reduceAdd, Nat.reduceEqDiff, Nat.reduceLT, Nat.reduceLeDiff, ↓RW, by23, TYu, TYn, TYm, TYd, TYe, QF, FFq, fsv, B, I, by2, RZ, eq_self, TY, Try.results100])))
   all_goals first | (exfalso; omega) | skip
   refine loop_vc (fun i => i ≤ M.m) (fun i => ⟨[(1, .ptr 0 0), (4, .val (.slice none 0 0)), (5, .val (.slice none 0 0)), (6, .val (.int .i64 ((0 : Nat) : Int))), (7, .ptr 70 0), (8, .ptr 71 0), (9, .val (.int .i64 i))], [(70, .cells 23 [.val (.int .i64 (loS M.q ((0 : Nat) : Int) i).n), .val (.int .i64 (loS M.q ((0 : Nat) : Int) i).d)]), (71, .cells 23 [.val (.int .i64 (hiS M.q ((0 : Nat) : Int) i).n), .val (.int .i64 (hiS M.q ((0 : Nat) : Int) i).d)]), (0, .cells 44 [.val (.int .i64 M.run), .arr false false M.m 4 (fun i j => qf (M.q i) j)])], 72⟩) (fun i => M.m - i) 0 (Nat.zero_le _) (weak [(70, some 26), (71, some 27)] [] ?_ ?_ ?_) fun i hi => ?_
   ·(simp -dsimp only [↓RP, RQ, implies_true, forall_const, Nat.reduceMul, reduceIte, reduceCtorEq, Nat.reduceAdd, Nat.reduceEqDiff, Nat.reduceLT, Nat.reduceLeDiff]); all_goals (try simp [wk_q, wk_f])
   ·(simp -dsimp only [↓RP, RQ, implies_true, forall_const, Nat.reduceMul, reduceIte, reduceCtorEq, Nat.reduceAdd, Nat.reduceEqDiff, Nat.reduceLT, Nat.reduceLeDiff, loS, hiS]); all_goals (try simp [wk_q, wk_f, loS, hiS])
   ·(simp -dsimp only [↓RP, RQ, implies_true, forall_const, Nat.reduceMul, reduceIte, reduceCtorEq, Nat.reduceAdd, Nat.reduceEqDiff, Nat.reduceLT, Nat.reduceLeDiff]); all_goals (try simp [wk_q, wk_f])
   by_cases hlt : i < M.m
   ·have hq := hf.od i hlt
    have ⟨xc, xp, _⟩ := xq_ch hq
    have kx := c52 ⟨(M.q i).d, (M.q i).d + (M.q i).n⟩ (by show 0 < (M.q i).d + (M.q i).n; omega) (by show (M.q i).d + (M.q i).n ≤ _; omega) (by show _ ≤ (M.q i).d; omega) (by show (M.q i).d ≤ _; omega)
    rw [show red ⟨(M.q i).d, (M.q i).d + (M.q i).n⟩ = xq (M.q i) from rfl] at kx
    have cl := loS_ch (q := M.q) (r := ((0 : Nat) : Int)) (m := i) fun j hj => hf.od j (by omega)
    have ch := hiS_ch (q := M.q) (r := ((0 : Nat) : Int)) (m := i) fun j hj => hf.od j (by omega)
    have n1 := cl.in1 xc
    have n2 := xc.in1 cl
    have n3 := ch.in1 xc
    have n4 := xc.in1 ch
    have eL : loS M.q ((0 : Nat) : Int) (i + 1) = if (M.q i).r = ((0 : Nat) : Int) ∧ (M.q i).l = true ∧ lt (loS M.q ((0 : Nat) : Int) i) (xq (M.q i)) then xq (M.q i) else loS M.q ((0 : Nat) : Int) i := rfl
    have eH : hiS M.q ((0 : Nat) : Int) (i + 1) = if (M.q i).r = ((0 : Nat) : Int) ∧ (M.q i).l = false ∧ lt (xq (M.q i)) (hiS M.q ((0 : Nat) : Int) i) then xq (M.q i) else hiS M.q ((0 : Nat) : Int) i := rfl
    by_cases hrr : (M.q i).r = ((0 : Nat) : Int)
    ·cases hl : (M.q i).l
     ·(repeat' (first | with_reducible refine splitVC_d (fun _ => ?_) (fun _ => ?_) | with_reducible refine splitVC (fun _ => ?_) (fun _ => ?_) | ((with_reducible refine And.intro ?_ ?_); focus (first | exact True.intro | omega | (simp only [InK, ne_eq, and_true, true_and]; omega) | exact ⟨.inr trivial, Nat.le_refl _, one2 _ _, by omega⟩ | exact ⟨.inr trivial, Nat.le_refl _, one2 _ _, by omega, by kernel_rfl⟩ | trivial)) | (simp -dsimp only [↓RP, RQ, implies_true, forall_const, Nat.reduceMul, reduceIte, reduceCtorEq, Nat.reduceAdd, Nat.reduceEqDiff, Nat.reduceLT, Nat.reduceLeDiff, hrr, hl, ↓RW, by23, TYu, TYn, TYm, TYd, TYe, QF, FFq, fsv, B, I, by2, RZ, eq_self, TY, Try.results100])))
      all_goals first | (exfalso; omega) | skip
      refine callVC kx (by (simp -dsimp only [↓RP, RQ, implies_true, forall_const, Nat.reduceMul, reduceIte, reduceCtorEq, Nat.reduceAdd, Nat.reduceEqDiff, Nat.reduceLT, Nat.reduceLeDiff, Go.Od.ints, I]); all_goals (try simp)) (by (simp -dsimp only [↓RP, RQ, implies_true, forall_const, Nat.reduceMul, reduceIte, reduceCtorEq, Nat.reduceAdd, Nat.reduceEqDiff, Nat.reduceLT, Nat.reduceLeDiff, fsv, I])) ?_
      (repeat' (first | with_reducible refine splitVC_d (fun _ => ?_) (fun _ => ?_) | with_reducible refine splitVC (fun _ => ?_) (fun _ => ?_) | ((with_reducible refine And.intro ?_ ?_); focus (first | exact True.intro | omega | (simp only [InK, ne_eq, and_true, true_and]; omega) | exact ⟨.inr trivial, Nat.le_refl _, one2 _ _, by omega⟩ | exact ⟨.inr trivial, Nat.le_refl _, one2 _ _, by omega, by kernel_rfl⟩ | trivial)) | (simp -dsimp only [↓RP, RQ, implies_true, forall_const, Nat.reduceMul, reduceIte, reduceCtorEq, Nat.reduceAdd, Nat.reduceEqDiff, Nat.reduceLT, Nat.reduceLeDiff, hrr, hl, ↓RW, by23, TYu, TYn, TYm, TYd, TYe, QF, FFq, fsv, B, I, by2, RZ, eq_self, TY, Try.results100])))
      all_goals first | (exfalso; omega) | skip
      refine callVC (c49 (xq (M.q i)) (hiS M.q ((0 : Nat) : Int) i) (by simp only [InK]; omega) (by simp only [InK]; omega)) (by (simp -dsimp only [↓RP, RQ, implies_true, forall_const, Nat.reduceMul, reduceIte, reduceCtorEq, Nat.reduceAdd, Nat.reduceEqDiff, Nat.reduceLT, Nat.reduceLeDiff, fsv, Go.Od.ints, I, B]); all_goals (try simp)) (by (simp -dsimp only [↓RP, RQ, implies_true, forall_const, Nat.reduceMul, reduceIte, reduceCtorEq, Nat.reduceAdd, Nat.reduceEqDiff, Nat.reduceLT, Nat.reduceLeDiff, B])) ?_
      (repeat' (first | with_reducible refine splitVC_d (fun _ => ?_) (fun _ => ?_) | with_reducible refine splitVC (fun _ => ?_) (fun _ => ?_) | ((with_reducible refine And.intro ?_ ?_); focus (first | exact True.intro | omega | (simp only [InK, ne_eq, and_true, true_and]; omega) | exact ⟨.inr trivial, Nat.le_refl _, one2 _ _, by omega⟩ | exact ⟨.inr trivial, Nat.le_refl _, one2 _ _, by omega, by kernel_rfl⟩ | trivial)) | (simp -dsimp only [↓RP, RQ, implies_true, forall_const, Nat.reduceMul, reduceIte, reduceCtorEq, Nat.reduceAdd, Nat.reduceEqDiff, Nat.reduceLT, Nat.reduceLeDiff, hrr, hl, ↓RW, by23, TYu, TYn, TYm, TYd, TYe, QF, FFq, fsv, B, I, by2, RZ, eq_self, TY, Try.results100])))
      all_goals first | (exfalso; omega) | skip
      ·rename_i hb
       rw [if_neg (by rw [hl]; simp)] at eL
       rw [if_pos ⟨hrr, hl, hb⟩] at eH
       refine ⟨i + 1, by omega, by omega, weak [] [] ?_ ?_ ?_⟩
       all_goals ((simp -dsimp only [↓RP, RQ, implies_true, forall_const, Nat.reduceMul, reduceIte, reduceCtorEq, Nat.reduceAdd, Nat.reduceEqDiff, Nat.reduceLT, Nat.reduceLeDiff, eL, eH]); all_goals (try simp [wk_q, wk_f, eL, eH]))
      ·rename_i hb
       rw [if_neg (by rw [hl]; simp)] at eL
       rw [if_neg (fun h => hb h.2.2)] at eH
       refine ⟨i + 1, by omega, by omega, weak [] [] ?_ ?_ ?_⟩
       all_goals ((simp -dsimp only [↓RP, RQ, implies_true, forall_const, Nat.reduceMul, reduceIte, reduceCtorEq, Nat.reduceAdd, Nat.reduceEqDiff, Nat.reduceLT, Nat.reduceLeDiff, eL, eH]); all_goals (try simp [wk_q, wk_f, eL, eH]))
     ·(repeat' (first | with_reducible refine splitVC_d (fun _ => ?_) (fun _ => ?_) | with_reducible refine splitVC (fun _ => ?_) (fun _ => ?_) | ((with_reducible refine And.intro ?_ ?_); focus (first | exact True.intro | omega | (simp only [InK, ne_eq, and_true, true_and]; omega) | exact ⟨.inr trivial, Nat.le_refl _, one2 _ _, by omega⟩ | exact ⟨.inr trivial, Nat.le_refl _, one2 _ _, by omega, by kernel_rfl⟩ | trivial)) | (simp -dsimp only [↓RP, RQ, implies_true, forall_const, Nat.reduceMul, reduceIte, reduceCtorEq, Nat.reduceAdd, Nat.reduceEqDiff, Nat.reduceLT, Nat.reduceLeDiff, hrr, hl, ↓RW, by23, TYu, TYn, TYm, TYd, TYe, QF, FFq, fsv, B, I, by2, RZ, eq_self, TY, Try.results100])))
      all_goals first | (exfalso; omega) | skip
      refine callVC kx (by (simp -dsimp only [↓RP, RQ, implies_true, forall_const, Nat.reduceMul, reduceIte, reduceCtorEq, Nat.reduceAdd, Nat.reduceEqDiff, Nat.reduceLT, Nat.reduceLeDiff, Go.Od.ints, I]); all_goals (try simp)) (by (simp -dsimp only [↓RP, RQ, implies_true, forall_const, Nat.reduceMul, reduceIte, reduceCtorEq, Nat.reduceAdd, Nat.reduceEqDiff, Nat.reduceLT, Nat.reduceLeDiff, fsv, I])) ?_
      (repeat' (first | with_reducible refine splitVC_d (fun _ => ?_) (fun _ => ?_) | with_reducible refine splitVC (fun _ => ?_) (fun _ => ?_) | ((with_reducible refine And.intro ?_ ?_); focus (first | exact True.intro | omega | (simp only [InK, ne_eq, and_true, true_and]; omega) | exact ⟨.inr trivial, Nat.le_refl _, one2 _ _, by omega⟩ | exact ⟨.inr trivial, Nat.le_refl _, one2 _ _, by omega, by kernel_rfl⟩ | trivial)) | (simp -dsimp only [↓RP, RQ, implies_true, forall_const, Nat.reduceMul, reduceIte, reduceCtorEq, Nat.reduceAdd, Nat.reduceEqDiff, Nat.reduceLT, Nat.reduceLeDiff, hrr, hl, ↓RW, by23, TYu, TYn, TYm, TYd, TYe, QF, FFq, fsv, B, I, by2, RZ, eq_self, TY, Try.results100])))
      all_goals first | (exfalso; omega) | skip
      refine callVC (c49 (loS M.q ((0 : Nat) : Int) i) (xq (M.q i)) (by simp only [InK]; omega) (by simp only [InK]; omega)) (by (simp -dsimp only [↓RP, RQ, implies_true, forall_const, Nat.reduceMul, reduceIte, reduceCtorEq, Nat.reduceAdd, Nat.reduceEqDiff, Nat.reduceLT, Nat.reduceLeDiff, fsv, Go.Od.ints, I, B]); all_goals (try simp)) (by (simp -dsimp only [↓RP, RQ, implies_true, forall_const, Nat.reduceMul, reduceIte, reduceCtorEq, Nat.reduceAdd, Nat.reduceEqDiff, Nat.reduceLT, Nat.reduceLeDiff, B])) ?_
      (repeat' (first | with_reducible refine splitVC_d (fun _ => ?_) (fun _ => ?_) | with_reducible refine splitVC (fun _ => ?_) (fun _ => ?_) | ((with_reducible refine And.intro ?_ ?_); focus (first | exact True.intro | omega | (simp only [InK, ne_eq, and_true, true_and]; omega) | exact ⟨.inr trivial, Nat.le_refl _, one2 _ _, by omega⟩ | exact ⟨.inr trivial, Nat.le_refl _, one2 _ _, by omega, by kernel_rfl⟩ | trivial)) | (simp -dsimp only [↓RP, RQ, implies_true, forall_const, Nat.reduceMul, reduceIte, reduceCtorEq, Nat.reduceAdd, Nat.reduceEqDiff, Nat.reduceLT, Nat.reduceLeDiff, hrr, hl, ↓RW, by23, TYu, TYn, TYm, TYd, TYe, QF, FFq, fsv, B, I, by2, RZ, eq_self, TY, Try.results100])))
      all_goals first | (exfalso; omega) | skip
      ·rename_i hb
       rw [if_pos ⟨hrr, hl, hb⟩] at eL
       rw [if_neg (by rw [hl]; simp)] at eH
       refine ⟨i + 1, by omega, by omega, weak [] [] ?_ ?_ ?_⟩
       all_goals ((simp -dsimp only [↓RP, RQ, implies_true, forall_const, Nat.reduceMul, reduceIte, reduceCtorEq, Nat.reduceAdd, Nat.reduceEqDiff, Nat.reduceLT, Nat.reduceLeDiff, eL, eH]); all_goals (try simp [wk_q, wk_f, eL, eH]))
      ·rename_i hb
       rw [if_neg (fun h => hb h.2.2)] at eL
       rw [if_neg (by rw [hl]; simp)] at eH
       refine ⟨i + 1, by omega, by omega, weak [] [] ?_ ?_ ?_⟩
       all_goals ((simp -dsimp only [↓RP, RQ, implies_true, forall_const, Nat.reduceMul, reduceIte, reduceCtorEq, Nat.reduceAdd, Nat.reduceEqDiff, Nat.reduceLT, Nat.reduceLeDiff, eL, eH]); all_goals (try simp [wk_q, wk_f, eL, eH]))
    ·rw [if_neg (fun h => hrr h.1)] at eL eH
     have hrd : decide ((M.q i).r = ((0 : Nat) : Int)) = false := decide_eq_false hrr
     (repeat' (first | with_reducible refine splitVC_d (fun _ => ?_) (fun _ => ?_) | with_reducible refine splitVC (fun _ => ?_) (fun _ => ?_) | ((with_reducible refine And.intro ?_ ?_); focus (first | exact True.intro | omega | (simp only [InK, ne_eq, and_true, true_and]; omega) | exact ⟨.inr trivial, Nat.le_refl _, one2 _ _, by omega⟩ | exact ⟨.inr trivial, Nat.le_refl _, one2 _ _, by omega, by kernel_rfl⟩ | trivial)) | (simp -dsimp only [↓RP, RQ, implies_true, forall_const, Nat.reduceMul, reduceIte, reduceCtorEq, Nat.reduceAdd, Nat.reduceEqDiff, Nat.reduceLT, Nat.reduceLeDiff, hrd, ↓RW, by23, TYu, TYn, TYm, TYd, TYe, QF, FFq, fsv, B, I, by2, RZ, eq_self, TY, Try.results100])))
     all_goals first | (exfalso; omega) | skip
     refine callVC kx (by (simp -dsimp only [↓RP, RQ, implies_true, forall_const, Nat.reduceMul, reduceIte, reduceCtorEq, Nat.reduceAdd, Nat.reduceEqDiff, Nat.reduceLT, Nat.reduceLeDiff, Go.Od.ints, I]); all_goals (try simp)) (by (simp -dsimp only [↓RP, RQ, implies_true, forall_const, Nat.reduceMul, reduceIte, reduceCtorEq, Nat.reduceAdd, Nat.reduceEqDiff, Nat.reduceLT, Nat.reduceLeDiff, fsv, I])) ?_
     (repeat' (first | with_reducible refine splitVC_d (fun _ => ?_) (fun _ => ?_) | with_reducible refine splitVC (fun _ => ?_) (fun _ => ?_) | ((with_reducible refine And.intro ?_ ?_); focus (first | exact True.intro | omega | (simp only [InK, ne_eq, and_true, true_and]; omega) | exact ⟨.inr trivial, Nat.le_refl _, one2 _ _, by omega⟩ | exact ⟨.inr trivial, Nat.le_refl _, one2 _ _, by omega, by kernel_rfl⟩ | trivial)) | (simp -dsimp only [↓RP, RQ, implies_true, forall_const, Nat.reduceMul, reduceIte, reduceCtorEq, Nat.reduceAdd, Nat.reduceEqDiff, Nat.reduceLT, Nat.reduceLeDiff, hrd, ↓RW, by23, TYu, TYn, TYm, TYd, TYe, QF, FFq, fsv, B, I, by2, RZ, eq_self, TY, Try.results100])))
     all_goals first | (exfalso; omega) | skip
     refine ⟨i + 1, by omega, by omega, weak [] [] ?_ ?_ ?_⟩
     all_goals ((simp -dsimp only [↓RP, RQ, implies_true, forall_const, Nat.reduceMul, reduceIte, reduceCtorEq, Nat.reduceAdd, Nat.reduceEqDiff, Nat.reduceLT, Nat.reduceLeDiff, eL, eH]); all_goals (try simp [wk_q, wk_f, eL, eH]))
   ·have e : i = M.m := by omega
    subst e
    (repeat' (first | with_reducible refine splitVC_d (fun _ => ?_) (fun _ => ?_) | with_reducible refine splitVC (fun _ => ?_) (fun _ => ?_) | ((with_reducible refine And.intro ?_ ?_); focus (first | exact True.intro | omega | (simp only [InK, ne_eq, and_true, true_and]; omega) | exact ⟨.inr trivial, Nat.le_refl _, one2 _ _, by omega⟩ | exact ⟨.inr trivial, Nat.le_refl _, one2 _ _, by omega, by kernel_rfl⟩ | trivial)) | (simp -dsimp only [↓RP, RQ, implies_true, forall_const, Nat.reduceMul, reduceIte, reduceCtorEq, Nat.reduceAdd, Nat.reduceEqDiff, Nat.reduceLT, Nat.reduceLeDiff, ↓RW, by23, TYu, TYn, TYm, TYd, TYe, QF, FFq, fsv, B, I, by2, RZ, eq_self, TY, Try.results100])))
    all_goals first | (exfalso; omega) | skip
    refine growRegion follows [] (by kernel_rfl) ?_
    (repeat' (first | with_reducible refine splitVC_d (fun _ => ?_) (fun _ => ?_) | with_reducible refine splitVC (fun _ => ?_) (fun _ => ?_) | ((with_reducible refine And.intro ?_ ?_); focus (first | exact True.intro | omega | (simp only [InK, ne_eq, and_true, true_and]; omega) | exact ⟨.inr trivial, Nat.le_refl _, one2 _ _, by omega⟩ | exact ⟨.inr trivial, Nat.le_refl _, one2 _ _, by omega, by kernel_rfl⟩ | trivial)) | (simp -dsimp only [↓RP, RQ, implies_true, forall_const, Nat.reduceMul, reduceIte, reduceCtorEq, Nat.reduceAdd, Nat.reduceEqDiff, Nat.reduceLT, Nat.reduceLeDiff, ↓RW, by23, TYu, TYn, TYm, TYd, TYe, QF, FFq, fsv, B, I, by2, RZ, eq_self, TY, Try.results100])))
    all_goals first | (exfalso; omega) | skip
    refine ⟨0 + 1, by omega, by omega, weak [(60, some 80), (61, some 84)] [] ?_ ?_ ?_⟩
    ·(simp -dsimp only [↓RP, RQ, implies_true, forall_const, Nat.reduceMul, reduceIte, reduceCtorEq, Nat.reduceAdd, Nat.reduceEqDiff, Nat.reduceLT, Nat.reduceLeDiff, st100]); all_goals (try simp [wk_q, wk_f])
    ·(simp -dsimp only [↓RP, RQ, implies_true, forall_const, Nat.reduceMul, reduceIte, reduceCtorEq, Nat.reduceAdd, Nat.reduceEqDiff, Nat.reduceLT, Nat.reduceLeDiff, st100]); all_goals (try simp [wk_q, wk_f])
     refine ⟨fun i j hi hj => ?_, fun i j hi hj => ?_⟩ <;> (subst hi; (have h2 : j = 0 ∨ j = 1 := (by omega)); rcases h2 with rfl | rfl <;> simp [ff, Wk])
    ·(simp -dsimp only [↓RP, RQ, implies_true, forall_const, Nat.reduceMul, reduceIte, reduceCtorEq, Nat.reduceAdd, Nat.reduceEqDiff, Nat.reduceLT, Nat.reduceLeDiff, st100]); all_goals (try simp [wk_q, wk_f])
  | succ r =>
   conv => arg 4; unfold st100
   have hr : ((r + 1 : Nat) : Int) < M.run := by omega
   (repeat' (first | with_reducible refine splitVC_d (fun _ => ?_) (fun _ => ?_) | with_reducible refine splitVC (fun _ => ?_) (fun _ => ?_) | ((with_reducible refine And.intro ?_ ?_); focus (first | exact True.intro | omega | (simp only [InK, ne_eq, and_true, true_and]; omega) | exact ⟨.inr trivial, Nat.le_refl _, one2 _ _, by omega⟩ | exact ⟨.inr trivial, Nat.le_refl _, one2 _ _, by omega, by kernel_rfl⟩ | trivial)) | (simp -dsimp only [↓RP, RQ, implies_true, forall_const, Nat.reduceMul, reduceIte, reduceCtorEq, Nat.reduceAdd, Nat.reduceEqDiff, Nat.reduceLT, Nat.reduceLeDiff, ↓RW, by23, TYu, TYn, TYm, TYd, TYe, QF, FFq, fsv, B, I, by2, RZ, eq_self, TY, Try.results100])))
   all_goals first | (exfalso; omega) | skip
   refine loop_vc (fun i => i ≤ M.m) (fun i => ⟨[(1, .ptr 0 0), (4, .vec 60 (r + 1) 2), (5, .vec 61 (r + 1) 2), (6, .val (.int .i64 ((r + 1 : Nat) : Int))), (7, .ptr 70 0), (8, .ptr 71 0), (9, .val (.int .i64 i))], [(70, .cells 23 [.val (.int .i64 (loS M.q ((r + 1 : Nat) : Int) i).n), .val (.int .i64 (loS M.q ((r + 1 : Nat) : Int) i).d)]), (71, .cells 23 [.val (.int .i64 (hiS M.q ((r + 1 : Nat) : Int) i).n), .val (.int .i64 (hiS M.q ((r + 1 : Nat) : Int) i).d)]), (60, .rows 23 2 (r + 1) (fun i j => ff (loS M.q (i : Nat) M.m) j)), (61, .rows 23 2 (r + 1) (fun i j => ff (hiS M.q (i : Nat) M.m) j)), (0, .cells 44 [.val (.int .i64 M.run), .arr false false M.m 4 (fun i j => qf (M.q i) j)])], 72⟩) (fun i => M.m - i) 0 (Nat.zero_le _) (weak [(70, some 68), (71, some 69)] [] ?_ ?_ ?_) fun i hi => ?_
   ·(simp -dsimp only [↓RP, RQ, implies_true, forall_const, Nat.reduceMul, reduceIte, reduceCtorEq, Nat.reduceAdd, Nat.reduceEqDiff, Nat.reduceLT, Nat.reduceLeDiff]); all_goals (try simp [wk_q, wk_f])
   ·(simp -dsimp only [↓RP, RQ, implies_true, forall_const, Nat.reduceMul, reduceIte, reduceCtorEq, Nat.reduceAdd, Nat.reduceEqDiff, Nat.reduceLT, Nat.reduceLeDiff, loS, hiS]); all_goals (try simp [wk_q, wk_f, loS, hiS])
   ·(simp -dsimp only [↓RP, RQ, implies_true, forall_const, Nat.reduceMul, reduceIte, reduceCtorEq, Nat.reduceAdd, Nat.reduceEqDiff, Nat.reduceLT, Nat.reduceLeDiff]); all_goals (try simp [wk_q, wk_f])
   by_cases hlt : i < M.m
   ·have hq := hf.od i hlt
    have ⟨xc, xp, _⟩ := xq_ch hq
    have kx := c52 ⟨(M.q i).d, (M.q i).d + (M.q i).n⟩ (by show 0 < (M.q i).d + (M.q i).n; omega) (by show (M.q i).d + (M.q i).n ≤ _; omega) (by show _ ≤ (M.q i).d; omega) (by show (M.q i).d ≤ _; omega)
    rw [show red ⟨(M.q i).d, (M.q i).d + (M.q i).n⟩ = xq (M.q i) from rfl] at kx
    have cl := loS_ch (q := M.q) (r := ((r + 1 : Nat) : Int)) (m := i) fun j hj => hf.od j (by omega)
    have ch := hiS_ch (q := M.q) (r := ((r + 1 : Nat) : Int)) (m := i) fun j hj => hf.od j (by omega)
    have n1 := cl.in1 xc
    have n2 := xc.in1 cl
    have n3 := ch.in1 xc
    have n4 := xc.in1 ch
    have eL : loS M.q ((r + 1 : Nat) : Int) (i + 1) = if (M.q i).r = ((r + 1 : Nat) : Int) ∧ (M.q i).l = true ∧ lt (loS M.q ((r + 1 : Nat) : Int) i) (xq (M.q i)) then xq (M.q i) else loS M.q ((r + 1 : Nat) : Int) i := rfl
    have eH : hiS M.q ((r + 1 : Nat) : Int) (i + 1) = if (M.q i).r = ((r + 1 : Nat) : Int) ∧ (M.q i).l = false ∧ lt (xq (M.q i)) (hiS M.q ((r + 1 : Nat) : Int) i) then xq (M.q i) else hiS M.q ((r + 1 : Nat) : Int) i := rfl
    by_cases hrr : (M.q i).r = ((r + 1 : Nat) : Int)
    ·cases hl : (M.q i).l
     ·(repeat' (first | with_reducible refine splitVC_d (fun _ => ?_) (fun _ => ?_) | with_reducible refine splitVC (fun _ => ?_) (fun _ => ?_) | ((with_reducible refine And.intro ?_ ?_); focus (first | exact True.intro | omega | (simp only [InK, ne_eq, and_true, true_and]; omega) | exact ⟨.inr trivial, Nat.le_refl _, one2 _ _, by omega⟩ | exact ⟨.inr trivial, Nat.le_refl _, one2 _ _, by omega, by kernel_rfl⟩ | trivial)) | (simp -dsimp only [↓RP, RQ, implies_true, forall_const, Nat.reduceMul, reduceIte, reduceCtorEq, Nat.reduceAdd, Nat.reduceEqDiff, Nat.reduceLT, Nat.reduceLeDiff, hrr, hl, ↓RW, by23, TYu, TYn, TYm, TYd, TYe, QF, FFq, fsv, B, I, by2, RZ, eq_self, TY, Try.results100])))
      all_goals first | (exfalso; omega) | skip
      refine callVC kx (by (simp -dsimp only [↓RP, RQ, implies_true, forall_const, Nat.reduceMul, reduceIte, reduceCtorEq, Nat.reduceAdd, Nat.reduceEqDiff, Nat.reduceLT, Nat.reduceLeDiff, Go.Od.ints, I]); all_goals (try simp)) (by (simp -dsimp only [↓RP, RQ, implies_true, forall_const, Nat.reduceMul, reduceIte, reduceCtorEq, Nat.reduceAdd, Nat.reduceEqDiff, Nat.reduceLT, Nat.reduceLeDiff, fsv, I])) ?_
      (repeat' (first | with_reducible refine splitVC_d (fun _ => ?_) (fun _ => ?_) | with_reducible refine splitVC (fun _ => ?_) (fun _ => ?_) | ((with_reducible refine And.intro ?_ ?_); focus (first | exact True.intro | omega | (simp only [InK, ne_eq, and_true, true_and]; omega) | exact ⟨.inr trivial, Nat.le_refl _, one2 _ _, by omega⟩ | exact ⟨.inr trivial, Nat.le_refl _, one2 _ _, by omega, by kernel_rfl⟩ | trivial)) | (simp -dsimp only [↓RP, RQ, implies_true, forall_const, Nat.reduceMul, reduceIte, reduceCtorEq, Nat.reduceAdd, Nat.reduceEqDiff, Nat.reduceLT, Nat.reduceLeDiff, hrr, hl, ↓RW, by23, TYu, TYn, TYm, TYd, TYe, QF, FFq, fsv, B, I, by2, RZ, eq_self, TY, Try.results100])))
      all_goals first | (exfalso; omega) | skip
      refine callVC (c49 (xq (M.q i)) (hiS M.q ((r + 1 : Nat) : Int) i) (by simp only [InK]; omega) (by simp only [InK]; omega)) (by (simp -dsimp only [↓RP, RQ, implies_true, forall_const, Nat.reduceMul, reduceIte, reduceCtorEq, Nat.reduceAdd, Nat.reduceEqDiff, Nat.reduceLT, Nat.reduceLeDiff, fsv, Go.Od.ints, I, B]); all_goals (try simp)) (by (simp -dsimp only [↓RP, RQ, implies_true, forall_const, Nat.reduceMul, reduceIte, reduceCtorEq, Nat.reduceAdd, Nat.reduceEqDiff, Nat.reduceLT, Nat.reduceLeDiff, B])) ?_
      (repeat' (first | with_reducible refine splitVC_d (fun _ => ?_) (fun _ => ?_) | with_reducible refine splitVC (fun _ => ?_) (fun _ => ?_) | ((with_reducible refine And.intro ?_ ?_); focus (first | exact True.intro | omega | (simp only [InK, ne_eq, and_true, true_and]; omega) | exact ⟨.inr trivial, Nat.le_refl _, one2 _ _, by omega⟩ | exact ⟨.inr trivial, Nat.le_refl _, one2 _ _, by omega, by kernel_rfl⟩ | trivial)) | (simp -dsimp only [↓RP, RQ, implies_true, forall_const, Nat.reduceMul, reduceIte, reduceCtorEq, Nat.reduceAdd, Nat.reduceEqDiff, Nat.reduceLT, Nat.reduceLeDiff, hrr, hl, ↓RW, by23, TYu, TYn, TYm, TYd, TYe, QF, FFq, fsv, B, I, by2, RZ, eq_self, TY, Try.results100])))
      all_goals first | (exfalso; omega) | skip
      ·rename_i hb
       rw [if_neg (by rw [hl]; simp)] at eL
       rw [if_pos ⟨hrr, hl, hb⟩] at eH
       refine ⟨i + 1, by omega, by omega, weak [] [] ?_ ?_ ?_⟩
       all_goals ((simp -dsimp only [↓RP, RQ, implies_true, forall_const, Nat.reduceMul, reduceIte, reduceCtorEq, Nat.reduceAdd, Nat.reduceEqDiff, Nat.reduceLT, Nat.reduceLeDiff, eL, eH]); all_goals (try simp [wk_q, wk_f, eL, eH]))
      ·rename_i hb
       rw [if_neg (by rw [hl]; simp)] at eL
       rw [if_neg (fun h => hb h.2.2)] at eH
       refine ⟨i + 1, by omega, by omega, weak [] [] ?_ ?_ ?_⟩
       all_goals ((simp -dsimp only [↓RP, RQ, implies_true, forall_const, Nat.reduceMul, reduceIte, reduceCtorEq, Nat.reduceAdd, Nat.reduceEqDiff, Nat.reduceLT, Nat.reduceLeDiff, eL, eH]); all_goals (try simp [wk_q, wk_f, eL, eH]))
     ·(repeat' (first | with_reducible refine splitVC_d (fun _ => ?_) (fun _ => ?_) | with_reducible refine splitVC (fun _ => ?_) (fun _ => ?_) | ((with_reducible refine And.intro ?_ ?_); focus (first | exact True.intro | omega | (simp only [InK, ne_eq, and_true, true_and]; omega) | exact ⟨.inr trivial, Nat.le_refl _, one2 _ _, by omega⟩ | exact ⟨.inr trivial, Nat.le_refl _, one2 _ _, by omega, by kernel_rfl⟩ | trivial)) | (simp -dsimp only [↓RP, RQ, implies_true, forall_const, Nat.reduceMul, reduceIte, reduceCtorEq, Nat.reduceAdd, Nat.reduceEqDiff, Nat.reduceLT, Nat.reduceLeDiff, hrr, hl, ↓RW, by23, TYu, TYn, TYm, TYd, TYe, QF, FFq, fsv, B, I, by2, RZ, eq_self, TY, Try.results100])))
      all_goals first | (exfalso; omega) | skip
      refine callVC kx (by (simp -dsimp only [↓RP, RQ, implies_true, forall_const, Nat.reduceMul, reduceIte, reduceCtorEq, Nat.reduceAdd, Nat.reduceEqDiff, Nat.reduceLT, Nat.reduceLeDiff, Go.Od.ints, I]); all_goals (try simp)) (by (simp -dsimp only [↓RP, RQ, implies_true, forall_const, Nat.reduceMul, reduceIte, reduceCtorEq, Nat.reduceAdd, Nat.reduceEqDiff, Nat.reduceLT, Nat.reduceLeDiff, fsv, I])) ?_
      (repeat' (first | with_reducible refine splitVC_d (fun _ => ?_) (fun _ => ?_) | with_reducible refine splitVC (fun _ => ?_) (fun _ => ?_) | ((with_reducible refine And.intro ?_ ?_); focus (first | exact True.intro | omega | (simp only [InK, ne_eq, and_true, true_and]; omega) | exact ⟨.inr trivial, Nat.le_refl _, one2 _ _, by omega⟩ | exact ⟨.inr trivial, Nat.le_refl _, one2 _ _, by omega, by kernel_rfl⟩ | trivial)) | (simp -dsimp only [↓RP, RQ, implies_true, forall_const, Nat.reduceMul, reduceIte, reduceCtorEq, Nat.reduceAdd, Nat.reduceEqDiff, Nat.reduceLT, Nat.reduceLeDiff, hrr, hl, ↓RW, by23, TYu, TYn, TYm, TYd, TYe, QF, FFq, fsv, B, I, by2, RZ, eq_self, TY, Try.results100])))
      all_goals first | (exfalso; omega) | skip
      refine callVC (c49 (loS M.q ((r + 1 : Nat) : Int) i) (xq (M.q i)) (by simp only [InK]; omega) (by simp only [InK]; omega)) (by (simp -dsimp only [↓RP, RQ, implies_true, forall_const, Nat.reduceMul, reduceIte, reduceCtorEq, Nat.reduceAdd, Nat.reduceEqDiff, Nat.reduceLT, Nat.reduceLeDiff, fsv, Go.Od.ints, I, B]); all_goals (try simp)) (by (simp -dsimp only [↓RP, RQ, implies_true, forall_const, Nat.reduceMul, reduceIte, reduceCtorEq, Nat.reduceAdd, Nat.reduceEqDiff, Nat.reduceLT, Nat.reduceLeDiff, B])) ?_
      (repeat' (first | with_reducible refine splitVC_d (fun _ => ?_) (fun _ => ?_) | with_reducible refine splitVC (fun _ => ?_) (fun _ => ?_) | ((with_reducible refine And.intro ?_ ?_); focus (first | exact True.intro | omega | (simp only [InK, ne_eq, and_true, true_and]; omega) | exact ⟨.inr trivial, Nat.le_refl _, one2 _ _, by omega⟩ | exact ⟨.inr trivial, Nat.le_refl _, one2 _ _, by omega, by kernel_rfl⟩ | trivial)) | (simp -dsimp only [↓RP, RQ, implies_true, forall_const, Nat.reduceMul, reduceIte, reduceCtorEq, Nat.reduceAdd, Nat.reduceEqDiff, Nat.reduceLT, Nat.reduceLeDiff, hrr, hl, ↓RW, by23, TYu, TYn, TYm, TYd, TYe, QF, FFq, fsv, B, I, by2, RZ, eq_self, TY, Try.results100])))
      all_goals first | (exfalso; omega) | skip
      ·rename_i hb
       rw [if_pos ⟨hrr, hl, hb⟩] at eL
       rw [if_neg (by rw [hl]; simp)] at eH
       refine ⟨i + 1, by omega, by omega, weak [] [] ?_ ?_ ?_⟩
       all_goals ((simp -dsimp only [↓RP, RQ, implies_true, forall_const, Nat.reduceMul, reduceIte, reduceCtorEq, Nat.reduceAdd, Nat.reduceEqDiff, Nat.reduceLT, Nat.reduceLeDiff, eL, eH]); all_goals (try simp [wk_q, wk_f, eL, eH]))
      ·rename_i hb
       rw [if_neg (fun h => hb h.2.2)] at eL
       rw [if_neg (by rw [hl]; simp)] at eH
       refine ⟨i + 1, by omega, by omega, weak [] [] ?_ ?_ ?_⟩
       all_goals ((simp -dsimp only [↓RP, RQ, implies_true, forall_const, Nat.reduceMul, reduceIte, reduceCtorEq, Nat.reduceAdd, Nat.reduceEqDiff, Nat.reduceLT, Nat.reduceLeDiff, eL, eH]); all_goals (try simp [wk_q, wk_f, eL, eH]))
    ·rw [if_neg (fun h => hrr h.1)] at eL eH
     have hrd : decide ((M.q i).r = ((r + 1 : Nat) : Int)) = false := decide_eq_false hrr
     (repeat' (first | with_reducible refine splitVC_d (fun _ => ?_) (fun _ => ?_) | with_reducible refine splitVC (fun _ => ?_) (fun _ => ?_) | ((with_reducible refine And.intro ?_ ?_); focus (first | exact True.intro | omega | (simp only [InK, ne_eq, and_true, true_and]; omega) | exact ⟨.inr trivial, Nat.le_refl _, one2 _ _, by omega⟩ | exact ⟨.inr trivial, Nat.le_refl _, one2 _ _, by omega, by kernel_rfl⟩ | trivial)) | (simp -dsimp only [↓RP, RQ, implies_true, forall_const, Nat.reduceMul, reduceIte, reduceCtorEq, Nat.reduceAdd, Nat.reduceEqDiff, Nat.reduceLT, Nat.reduceLeDiff, hrd, ↓RW, by23, TYu, TYn, TYm, TYd, TYe, QF, FFq, fsv, B, I, by2, RZ, eq_self, TY, Try.results100])))
     all_goals first | (exfalso; omega) | skip
     refine callVC kx (by (simp -dsimp only [↓RP, RQ, implies_true, forall_const, Nat.reduceMul, reduceIte, reduceCtorEq, Nat.reduceAdd, Nat.reduceEqDiff, Nat.reduceLT, Nat.reduceLeDiff, Go.Od.ints, I]); all_goals (try simp)) (by (simp -dsimp only [↓RP, RQ, implies_true, forall_const, Nat.reduceMul, reduceIte, reduceCtorEq, Nat.reduceAdd, Nat.reduceEqDiff, Nat.reduceLT, Nat.reduceLeDiff, fsv, I])) ?_
     (repeat' (first | with_reducible refine splitVC_d (fun _ => ?_) (fun _ => ?_) | with_reducible refine splitVC (fun _ => ?_) (fun _ => ?_) | ((with_reducible refine And.intro ?_ ?_); focus (first | exact True.intro | omega | (simp only [InK, ne_eq, and_true, true_and]; omega) | exact ⟨.inr trivial, Nat.le_refl _, one2 _ _, by omega⟩ | exact ⟨.inr trivial, Nat.le_refl _, one2 _ _, by omega, by kernel_rfl⟩ | trivial)) | (simp -dsimp only [↓RP, RQ, implies_true, forall_const, Nat.reduceMul, reduceIte, reduceCtorEq, Nat.reduceAdd, Nat.reduceEqDiff, Nat.reduceLT, Nat.reduceLeDiff, hrd, ↓RW, by23, TYu, TYn, TYm, TYd, TYe, QF, FFq, fsv, B, I, by2, RZ, eq_self, TY, Try.results100])))
     all_goals first | (exfalso; omega) | skip
     refine ⟨i + 1, by omega, by omega, weak [] [] ?_ ?_ ?_⟩
     all_goals ((simp -dsimp only [↓RP, RQ, implies_true, forall_const, Nat.reduceMul, reduceIte, reduceCtorEq, Nat.reduceAdd, Nat.reduceEqDiff, Nat.reduceLT, Nat.reduceLeDiff, eL, eH]); all_goals (try simp [wk_q, wk_f, eL, eH]))
   ·have e : i = M.m := by omega
    subst e
    (repeat' (first | with_reducible refine splitVC_d (fun _ => ?_) (fun _ => ?_) | with_reducible refine splitVC (fun _ => ?_) (fun _ => ?_) | ((with_reducible refine And.intro ?_ ?_); focus (first | exact True.intro | omega | (simp only [InK, ne_eq, and_true, true_and]; omega) | exact ⟨.inr trivial, Nat.le_refl _, one2 _ _, by omega⟩ | exact ⟨.inr trivial, Nat.le_refl _, one2 _ _, by omega, by kernel_rfl⟩ | trivial)) | (simp -dsimp only [↓RP, RQ, implies_true, forall_const, Nat.reduceMul, reduceIte, reduceCtorEq, Nat.reduceAdd, Nat.reduceEqDiff, Nat.reduceLT, Nat.reduceLeDiff, ↓RW, by23, TYu, TYn, TYm, TYd, TYe, QF, FFq, fsv, B, I, by2, RZ, eq_self, TY, Try.results100])))
    all_goals first | (exfalso; omega) | skip
    refine growRegion follows [] (by kernel_rfl) ?_
    (repeat' (first | with_reducible refine splitVC_d (fun _ => ?_) (fun _ => ?_) | with_reducible refine splitVC (fun _ => ?_) (fun _ => ?_) | ((with_reducible refine And.intro ?_ ?_); focus (first | exact True.intro | omega | (simp only [InK, ne_eq, and_true, true_and]; omega) | exact ⟨.inr trivial, Nat.le_refl _, one2 _ _, by omega⟩ | exact ⟨.inr trivial, Nat.le_refl _, one2 _ _, by omega, by kernel_rfl⟩ | trivial)) | (simp -dsimp only [↓RP, RQ, implies_true, forall_const, Nat.reduceMul, reduceIte, reduceCtorEq, Nat.reduceAdd, Nat.reduceEqDiff, Nat.reduceLT, Nat.reduceLeDiff, ↓RW, by23, TYu, TYn, TYm, TYd, TYe, QF, FFq, fsv, B, I, by2, RZ, eq_self, TY, Try.results100])))
    all_goals first | (exfalso; omega) | skip
    refine ⟨r + 1 + 1, by omega, by omega, weak [(60, some 80), (61, some 84)] [] ?_ ?_ ?_⟩
    ·(simp -dsimp only [↓RP, RQ, implies_true, forall_const, Nat.reduceMul, reduceIte, reduceCtorEq, Nat.reduceAdd, Nat.reduceEqDiff, Nat.reduceLT, Nat.reduceLeDiff, st100]); all_goals (try simp [wk_q, wk_f])
    ·(simp -dsimp only [↓RP, RQ, implies_true, forall_const, Nat.reduceMul, reduceIte, reduceCtorEq, Nat.reduceAdd, Nat.reduceEqDiff, Nat.reduceLT, Nat.reduceLeDiff, st100]); all_goals (try simp [wk_q, wk_f])
     refine ⟨fun i j hi hj => ?_, fun i j hi hj => ?_⟩ <;> (by_cases e : i < r + 1; (rw [if_pos e]; exact wk_f _ _ _ _ _ _); ((obtain rfl : i = r + 1 := (by omega)); rw [if_neg e, Nat.sub_self]; (have h2 : j = 0 ∨ j = 1 := (by omega)); rcases h2 with rfl | rfl <;> simp [ff, Wk]))
    ·(simp -dsimp only [↓RP, RQ, implies_true, forall_const, Nat.reduceMul, reduceIte, reduceCtorEq, Nat.reduceAdd, Nat.reduceEqDiff, Nat.reduceLT, Nat.reduceLeDiff, st100]); all_goals (try simp [wk_q, wk_f])
 ·have e : r = M.run.toNat := by omega
  obtain ⟨r, rfl⟩ : ∃ j, r = j + 1 := ⟨r - 1, by omega⟩
  conv => arg 4; unfold st100
  rw [← e]
  (repeat' (first | with_reducible refine splitVC_d (fun _ => ?_) (fun _ => ?_) | with_reducible refine splitVC (fun _ => ?_) (fun _ => ?_) | ((with_reducible refine And.intro ?_ ?_); focus (first | exact True.intro | omega | (simp only [InK, ne_eq, and_true, true_and]; omega) | exact ⟨.inr trivial, Nat.le_refl _, one2 _ _, by omega⟩ | exact ⟨.inr trivial, Nat.le_refl _, one2 _ _, by omega, by kernel_rfl⟩ | trivial)) | (simp -dsimp only [↓RP, RQ, implies_true, forall_const, Nat.reduceMul, reduceIte, reduceCtorEq, Nat.reduceAdd, Nat.reduceEqDiff, Nat.reduceLT, Nat.reduceLeDiff, ↓RW, by23, TYu, TYn, TYm, TYd, TYe, QF, FFq, fsv, B, I, by2, RZ, eq_self, TY, Try.results100])))
  all_goals first | (exfalso; omega) | skip
  exact ⟨⟨Nat.le_refl _, fun i j _ _ => sub_f _ _ j⟩, Nat.le_refl _, fun i j _ _ => sub_f _ _ j⟩
end Go.Od
end
section
set_option linter.unusedSimpArgs false
set_option linter.unusedVariables false
set_option linter.defProp false
set_option maxRecDepth 100000
set_option maxHeartbeats 16000000
namespace Go.Od
open Go.Proofs
open Go.Sx
theorem fresh_f (a : Fr) : ∀ j, Fresh (ff a j)
 | 0 => by simp [ff, Fresh]
 | _ + 1 => by simp [ff, Fresh]
def inB (M : Mk) (n : Nat) : Prop := ∀ r : Nat, r < n → ¬ lt (hiS M.q r M.m) (loS M.q r M.m)
instance (M : Mk) (n : Nat) : Decidable (inB M n) := by unfold inB; infer_instance
def fairB (M : Mk) : Prop := inB M M.run.toNat ∧ ¬ lt ⟨1, 1⟩ (sumF (fun r : Nat => loS M.q r M.m) M.run.toNat) ∧ ¬ lt (sumF (fun r : Nat => hiS M.q r M.m) M.run.toNat) ⟨1, 1⟩
instance (M : Mk) : Decidable (fairB M) := by unfold fairB; infer_instance
theorem one_in {f : Nat → Fr} {n : Nat} (hn : n ≤ 5) (h : ∀ j, j < n → Ch (f j)) : (0 ≤ 1 * (sumF f n).d ∧ 1 * (sumF f n).d ≤ 320000000000) ∧ (0 ≤ (sumF f n).n * 1 ∧ (sumF f n).n * 1 ≤ 1600000000000) := by
 have ⟨a1, a2, a3, a4⟩ := sumF_bd h
 have hp := pw_le hn
 have e1 : (n : Int) * (sumF f n).d ≤ 5 * 320000000000 := Int.mul_le_mul (by omega) (by omega) (by omega) (by omega)
 omega
theorem c89 (M : Mk) (hf : M.Fine) : Contract Try.prog 89 [M.sv] (B (decide (fairB M))) := by
 refine contract_of Try.func89 rfl (by kernel_rfl) follows (by kernel_rfl) _ _ (by rw [Try.ntmps89]; simp) (by simp only [OldL, Mk.old, and_self]) ?_
 have hr5 := hf.r5
 have hr1 := hf.r1
 have cl : ∀ r : Nat, Ch (loS M.q r M.m) := fun r => loS_ch hf.od
 have ch : ∀ r : Nat, Ch (hiS M.q r M.m) := fun r => hiS_ch hf.od
 have ⟨⟨l1, l2⟩, l3, l4⟩ := one_in (f := (fun r : Nat => loS M.q r M.m)) (n := M.run.toNat) (by omega) fun j _ => cl j
 have ⟨⟨h1, h2⟩, h3, h4⟩ := one_in (f := (fun r : Nat => hiS M.q r M.m)) (n := M.run.toNat) (by omega) fun j _ => ch j
 unfold B
 conv => arg 4; unfold Mk.sv qts I
 (repeat' (first | with_reducible refine splitVC_d (fun _ => ?_) (fun _ => ?_) | with_reducible refine splitVC (fun _ => ?_) (fun _ => ?_) | ((with_reducible refine And.intro ?_ ?_); focus (first | exact True.intro | omega | (simp only [InK, ne_eq, and_true, true_and]; omega) | trivial)) | (simp -dsimp only [↓RP, RQ, implies_true, forall_const, Nat.reduceMul, reduceIte, reduceCtorEq, Nat.reduceAdd, Nat.reduceEqDiff, Nat.reduceLT, Nat.reduceLeDiff, TYn, TYm, TYe, QF, FFq, fsv, B, I, by2, RZ, eq_self, TY, Try.results89])))
 refine callVC (c100 M hf) (by (simp -dsimp only [↓RP, RQ, implies_true, forall_const, Nat.reduceMul, reduceIte, reduceCtorEq, Nat.reduceAdd, Nat.reduceEqDiff, Nat.reduceLT, Nat.reduceLeDiff, Mk.sv, qts, I]); all_goals (try simp [sub_q])) (by (simp -dsimp only [↓RP, RQ, implies_true, forall_const, Nat.reduceMul, reduceIte, reduceCtorEq, Nat.reduceAdd, Nat.reduceEqDiff, Nat.reduceLT, Nat.reduceLeDiff]); all_goals (try simp [fresh_f])) ?_
 (repeat' (first | with_reducible refine splitVC_d (fun _ => ?_) (fun _ => ?_) | with_reducible refine splitVC (fun _ => ?_) (fun _ => ?_) | ((with_reducible refine And.intro ?_ ?_); focus (first | exact True.intro | omega | (simp only [InK, ne_eq, and_true, true_and]; omega) | trivial)) | (simp -dsimp only [↓RP, RQ, implies_true, forall_const, Nat.reduceMul, reduceIte, reduceCtorEq, Nat.reduceAdd, Nat.reduceEqDiff, Nat.reduceLT, Nat.reduceLeDiff, TYn, TYm, TYe, QF, FFq, fsv, B, I, by2, RZ, eq_self, TY, Try.results89])))
 all_goals first | (exfalso; omega) | skip
 refine loop_vc (fun (r : Nat) => (r : Int) ≤ M.run ∧ inB M r) (fun r => ⟨[(1, .ptr 0 0), (3, .arr true false M.run.toNat 2 (fun i j => ff (loS M.q (i : Nat) M.m) j)), (4, .arr true false M.run.toNat 2 (fun i j => ff (hiS M.q (i : Nat) M.m) j)), (5, .val (.int .i64 r))], [(0, .cells 44 [.val (.int .i64 M.run), .arr false false M.m 4 (fun i j => qf (M.q i) j)])], 40⟩) (fun r => (M.run - r).toNat) 0 ⟨by omega, fun r hr => by omega⟩ (weak [] [] ?_ ?_ ?_) fun r hr => ?_
 ·(simp -dsimp only [↓RP, RQ, implies_true, forall_const, Nat.reduceMul, reduceIte, reduceCtorEq, Nat.reduceAdd, Nat.reduceEqDiff, Nat.reduceLT, Nat.reduceLeDiff]); all_goals (try simp [wk_q, wk_f])
 ·(simp -dsimp only [↓RP, RQ, implies_true, forall_const, Nat.reduceMul, reduceIte, reduceCtorEq, Nat.reduceAdd, Nat.reduceEqDiff, Nat.reduceLT, Nat.reduceLeDiff]); all_goals (try simp [wk_q, wk_f])
 ·(simp -dsimp only [↓RP, RQ, implies_true, forall_const, Nat.reduceMul, reduceIte, reduceCtorEq, Nat.reduceAdd, Nat.reduceEqDiff, Nat.reduceLT, Nat.reduceLeDiff]); all_goals (try simp [wk_q, wk_f])
 by_cases hlt : (r : Int) < M.run
 ·have n1 := (ch r).in1 (cl r)
  have n2 := (cl r).in1 (ch r)
  (repeat' (first | with_reducible refine splitVC_d (fun _ => ?_) (fun _ => ?_) | with_reducible refine splitVC (fun _ => ?_) (fun _ => ?_) | ((with_reducible refine And.intro ?_ ?_); focus (first | exact True.intro | omega | (simp only [InK, ne_eq, and_true, true_and]; omega) | trivial)) | (simp -dsimp only [↓RP, RQ, implies_true, forall_const, Nat.reduceMul, reduceIte, reduceCtorEq, Nat.reduceAdd, Nat.reduceEqDiff, Nat.reduceLT, Nat.reduceLeDiff, TYn, TYm, TYe, QF, FFq, fsv, B, I, by2, RZ, eq_self, TY, Try.results89])))
  all_goals first | (exfalso; omega) | skip
  refine callVC (c49 (hiS M.q r M.m) (loS M.q r M.m) (by simp only [InK]; omega) (by simp only [InK]; omega)) (by (simp -dsimp only [↓RP, RQ, implies_true, forall_const, Nat.reduceMul, reduceIte, reduceCtorEq, Nat.reduceAdd, Nat.reduceEqDiff, Nat.reduceLT, Nat.reduceLeDiff, fsv, Go.Od.ints, I, B]); all_goals (try simp)) (by (simp -dsimp only [↓RP, RQ, implies_true, forall_const, Nat.reduceMul, reduceIte, reduceCtorEq, Nat.reduceAdd, Nat.reduceEqDiff, Nat.reduceLT, Nat.reduceLeDiff, B])) ?_
  (repeat' (first | with_reducible refine splitVC_d (fun _ => ?_) (fun _ => ?_) | with_reducible refine splitVC (fun _ => ?_) (fun _ => ?_) | ((with_reducible refine And.intro ?_ ?_); focus (first | exact True.intro | omega | (simp only [InK, ne_eq, and_true, true_and]; omega) | trivial)) | (simp -dsimp only [↓RP, RQ, implies_true, forall_const, Nat.reduceMul, reduceIte, reduceCtorEq, Nat.reduceAdd, Nat.reduceEqDiff, Nat.reduceLT, Nat.reduceLeDiff, TYn, TYm, TYe, QF, FFq, fsv, B, I, by2, RZ, eq_self, TY, Try.results89])))
  all_goals first | (exfalso; omega) | skip
  ·rename_i hb
   refine B_eq ?_; symm; exact decide_eq_false fun h => h.1 r (by omega) hb
  ·rename_i hb
   refine ⟨r + 1, ⟨by omega, fun j hj => ?_⟩, by omega, weak [] [] ?_ ?_ ?_⟩
   ·by_cases e : j = r
    ·subst e; exact hb
    ·exact hr.2 j (by omega)
   ·(simp -dsimp only [↓RP, RQ, implies_true, forall_const, Nat.reduceMul, reduceIte, reduceCtorEq, Nat.reduceAdd, Nat.reduceEqDiff, Nat.reduceLT, Nat.reduceLeDiff]); all_goals (try simp [wk_q, wk_f])
   ·(simp -dsimp only [↓RP, RQ, implies_true, forall_const, Nat.reduceMul, reduceIte, reduceCtorEq, Nat.reduceAdd, Nat.reduceEqDiff, Nat.reduceLT, Nat.reduceLeDiff]); all_goals (try simp [wk_q, wk_f])
   ·(simp -dsimp only [↓RP, RQ, implies_true, forall_const, Nat.reduceMul, reduceIte, reduceCtorEq, Nat.reduceAdd, Nat.reduceEqDiff, Nat.reduceLT, Nat.reduceLeDiff]); all_goals (try simp [wk_q, wk_f])
 ·have er : r = M.run.toNat := by omega
  have hin := hr.2
  rw [er] at hin
  (repeat' (first | with_reducible refine splitVC_d (fun _ => ?_) (fun _ => ?_) | with_reducible refine splitVC (fun _ => ?_) (fun _ => ?_) | ((with_reducible refine And.intro ?_ ?_); focus (first | exact True.intro | omega | (simp only [InK, ne_eq, and_true, true_and]; omega) | trivial)) | (simp -dsimp only [↓RP, RQ, implies_true, forall_const, Nat.reduceMul, reduceIte, reduceCtorEq, Nat.reduceAdd, Nat.reduceEqDiff, Nat.reduceLT, Nat.reduceLeDiff, TYn, TYm, TYe, QF, FFq, fsv, B, I, by2, RZ, eq_self, TY, Try.results89])))
  all_goals first | (exfalso; omega) | skip
  refine callVC (c101 M.run.toNat (by omega) (fun r : Nat => loS M.q r M.m) fun j _ => cl j) (by (simp -dsimp only [↓RP, RQ, implies_true, forall_const, Nat.reduceMul, reduceIte, reduceCtorEq, Nat.reduceAdd, Nat.reduceEqDiff, Nat.reduceLT, Nat.reduceLeDiff, frs, fsv, I]); all_goals (try simp [sub_f])) (by (simp -dsimp only [↓RP, RQ, implies_true, forall_const, Nat.reduceMul, reduceIte, reduceCtorEq, Nat.reduceAdd, Nat.reduceEqDiff, Nat.reduceLT, Nat.reduceLeDiff, fsv, I])) ?_
  (repeat' (first | with_reducible refine splitVC_d (fun _ => ?_) (fun _ => ?_) | with_reducible refine splitVC (fun _ => ?_) (fun _ => ?_) | ((with_reducible refine And.intro ?_ ?_); focus (first | exact True.intro | omega | (simp only [InK, ne_eq, and_true, true_and]; omega) | trivial)) | (simp -dsimp only [↓RP, RQ, implies_true, forall_const, Nat.reduceMul, reduceIte, reduceCtorEq, Nat.reduceAdd, Nat.reduceEqDiff, Nat.reduceLT, Nat.reduceLeDiff, TYn, TYm, TYe, QF, FFq, fsv, B, I, by2, RZ, eq_self, TY, Try.results89])))
  all_goals first | (exfalso; omega) | skip
  refine callVC (c49 ⟨1, 1⟩ (sumF (fun r : Nat => loS M.q r M.m) M.run.toNat) (by simp only [InK]; omega) (by simp only [InK]; omega)) (by (simp -dsimp only [↓RP, RQ, implies_true, forall_const, Nat.reduceMul, reduceIte, reduceCtorEq, Nat.reduceAdd, Nat.reduceEqDiff, Nat.reduceLT, Nat.reduceLeDiff, fsv, Go.Od.ints, I, B]); all_goals (try simp)) (by (simp -dsimp only [↓RP, RQ, implies_true, forall_const, Nat.reduceMul, reduceIte, reduceCtorEq, Nat.reduceAdd, Nat.reduceEqDiff, Nat.reduceLT, Nat.reduceLeDiff, B])) ?_
  (repeat' (first | with_reducible refine splitVC_d (fun _ => ?_) (fun _ => ?_) | with_reducible refine splitVC (fun _ => ?_) (fun _ => ?_) | ((with_reducible refine And.intro ?_ ?_); focus (first | exact True.intro | omega | (simp only [InK, ne_eq, and_true, true_and]; omega) | trivial)) | (simp -dsimp only [↓RP, RQ, implies_true, forall_const, Nat.reduceMul, reduceIte, reduceCtorEq, Nat.reduceAdd, Nat.reduceEqDiff, Nat.reduceLT, Nat.reduceLeDiff, TYn, TYm, TYe, QF, FFq, fsv, B, I, by2, RZ, eq_self, TY, Try.results89])))
  all_goals first | (exfalso; omega) | skip
  ·rename_i hb
   refine B_eq ?_; symm; exact decide_eq_false fun h => h.2.1 hb
  rename_i hb
  refine callVC (c101 M.run.toNat (by omega) (fun r : Nat => hiS M.q r M.m) fun j _ => ch j) (by (simp -dsimp only [↓RP, RQ, implies_true, forall_const, Nat.reduceMul, reduceIte, reduceCtorEq, Nat.reduceAdd, Nat.reduceEqDiff, Nat.reduceLT, Nat.reduceLeDiff, frs, fsv, I]); all_goals (try simp [sub_f])) (by (simp -dsimp only [↓RP, RQ, implies_true, forall_const, Nat.reduceMul, reduceIte, reduceCtorEq, Nat.reduceAdd, Nat.reduceEqDiff, Nat.reduceLT, Nat.reduceLeDiff, fsv, I])) ?_
  (repeat' (first | with_reducible refine splitVC_d (fun _ => ?_) (fun _ => ?_) | with_reducible refine splitVC (fun _ => ?_) (fun _ => ?_) | ((with_reducible refine And.intro ?_ ?_); focus (first | exact True.intro | omega | (simp only [InK, ne_eq, and_true, true_and]; omega) | trivial)) | (simp -dsimp only [↓RP, RQ, implies_true, forall_const, Nat.reduceMul, reduceIte, reduceCtorEq, Nat.reduceAdd, Nat.reduceEqDiff, Nat.reduceLT, Nat.reduceLeDiff, TYn, TYm, TYe, QF, FFq, fsv, B, I, by2, RZ, eq_self, TY, Try.results89])))
  all_goals first | (exfalso; omega) | skip
  refine callVC (c49 (sumF (fun r : Nat => hiS M.q r M.m) M.run.toNat) ⟨1, 1⟩ (by simp only [InK]; omega) (by simp only [InK]; omega)) (by (simp -dsimp only [↓RP, RQ, implies_true, forall_const, Nat.reduceMul, reduceIte, reduceCtorEq, Nat.reduceAdd, Nat.reduceEqDiff, Nat.reduceLT, Nat.reduceLeDiff, fsv, Go.Od.ints, I, B]); all_goals (try simp)) (by (simp -dsimp only [↓RP, RQ, implies_true, forall_const, Nat.reduceMul, reduceIte, reduceCtorEq, Nat.reduceAdd, Nat.reduceEqDiff, Nat.reduceLT, Nat.reduceLeDiff, B])) ?_
  (repeat' (first | with_reducible refine splitVC_d (fun _ => ?_) (fun _ => ?_) | with_reducible refine splitVC (fun _ => ?_) (fun _ => ?_) | ((with_reducible refine And.intro ?_ ?_); focus (first | exact True.intro | omega | (simp only [InK, ne_eq, and_true, true_and]; omega) | trivial)) | (simp -dsimp only [↓RP, RQ, implies_true, forall_const, Nat.reduceMul, reduceIte, reduceCtorEq, Nat.reduceAdd, Nat.reduceEqDiff, Nat.reduceLT, Nat.reduceLeDiff, TYn, TYm, TYe, QF, FFq, fsv, B, I, by2, RZ, eq_self, TY, Try.results89])))
  all_goals first
   | (exfalso; omega)
   | (refine B_eq ?_; rw [Bool.eq_iff_iff]; simp [fairB, hin, hb]; done)
   | (refine B_eq ?_; symm; exact decide_eq_false fun h => h.2.2 (by assumption))
   | (refine B_eq ?_; symm; exact decide_eq_true ⟨hin, hb, by assumption⟩)
   | skip
  all_goals trace_state
def Mk.sErr (M : Mk) : Int := if M.err = 0 then (if fairB M then 5 else 0) else M.err
def Mk.cErr (M : Mk) : Int := if M.err = 0 then (if fairB M then 0 else 20) else M.err
theorem c41 (M : Mk) : Contract Try.prog 41 [M.sv] (I M.sErr) := by
 refine contract_of Try.func41 rfl (by kernel_rfl) follows (by kernel_rfl) _ _ (by rw [Try.ntmps41]; simp) (by simp only [OldL, Mk.old, and_self]) ?_
 conv => arg 4; unfold Mk.sv qts I
 (repeat' (first | with_reducible refine splitVC_d (fun _ => ?_) (fun _ => ?_) | with_reducible refine splitVC (fun _ => ?_) (fun _ => ?_) | ((with_reducible refine And.intro ?_ ?_); focus (first | exact True.intro | omega | (simp only [InK, ne_eq, and_true, true_and]; omega) | trivial)) | (simp -dsimp only [↓RP, RQ, implies_true, forall_const, Nat.reduceMul, reduceIte, reduceCtorEq, Nat.reduceAdd, Nat.reduceEqDiff, Nat.reduceLT, Nat.reduceLeDiff, TYn, TYm, TYe, QF, FFq, fsv, B, I, by2, RZ, eq_self, TY, Try.results41])))
 refine callVC (c36 M) (by (simp -dsimp only [↓RP, RQ, implies_true, forall_const, Nat.reduceMul, reduceIte, reduceCtorEq, Nat.reduceAdd, Nat.reduceEqDiff, Nat.reduceLT, Nat.reduceLeDiff, Mk.sv, qts, I]); all_goals (try simp [sub_q])) (by (simp -dsimp only [↓RP, RQ, implies_true, forall_const, Nat.reduceMul, reduceIte, reduceCtorEq, Nat.reduceAdd, Nat.reduceEqDiff, Nat.reduceLT, Nat.reduceLeDiff, fsv, I])) ?_
 by_cases he : M.err = 0
 rotate_left
 ·(repeat' (first | with_reducible refine splitVC_d (fun _ => ?_) (fun _ => ?_) | with_reducible refine splitVC (fun _ => ?_) (fun _ => ?_) | ((with_reducible refine And.intro ?_ ?_); focus (first | exact True.intro | omega | (simp only [InK, ne_eq, and_true, true_and]; omega) | trivial)) | (simp -dsimp only [↓RP, RQ, implies_true, forall_const, Nat.reduceMul, reduceIte, reduceCtorEq, Nat.reduceAdd, Nat.reduceEqDiff, Nat.reduceLT, Nat.reduceLeDiff, TYn, TYm, TYe, QF, FFq, fsv, B, I, by2, RZ, eq_self, TY, Try.results41])))
  all_goals first | (exfalso; omega) | skip
  refine callVC (c36 M) (by (simp -dsimp only [↓RP, RQ, implies_true, forall_const, Nat.reduceMul, reduceIte, reduceCtorEq, Nat.reduceAdd, Nat.reduceEqDiff, Nat.reduceLT, Nat.reduceLeDiff, Mk.sv, qts, I]); all_goals (try simp [sub_q])) (by (simp -dsimp only [↓RP, RQ, implies_true, forall_const, Nat.reduceMul, reduceIte, reduceCtorEq, Nat.reduceAdd, Nat.reduceEqDiff, Nat.reduceLT, Nat.reduceLeDiff, fsv, I])) ?_
  (repeat' (first | with_reducible refine splitVC_d (fun _ => ?_) (fun _ => ?_) | with_reducible refine splitVC (fun _ => ?_) (fun _ => ?_) | ((with_reducible refine And.intro ?_ ?_); focus (first | exact True.intro | omega | (simp only [InK, ne_eq, and_true, true_and]; omega) | trivial)) | (simp -dsimp only [↓RP, RQ, implies_true, forall_const, Nat.reduceMul, reduceIte, reduceCtorEq, Nat.reduceAdd, Nat.reduceEqDiff, Nat.reduceLT, Nat.reduceLeDiff, TYn, TYm, TYe, QF, FFq, fsv, B, I, by2, RZ, eq_self, TY, Try.results41])))
  all_goals (refine I_eq ?_; unfold Mk.sErr; rw [if_neg he])
 have hf := Mk.fine he
 rw [he]
 (repeat' (first | with_reducible refine splitVC_d (fun _ => ?_) (fun _ => ?_) | with_reducible refine splitVC (fun _ => ?_) (fun _ => ?_) | ((with_reducible refine And.intro ?_ ?_); focus (first | exact True.intro | omega | (simp only [InK, ne_eq, and_true, true_and]; omega) | trivial)) | (simp -dsimp only [↓RP, RQ, implies_true, forall_const, Nat.reduceMul, reduceIte, reduceCtorEq, Nat.reduceAdd, Nat.reduceEqDiff, Nat.reduceLT, Nat.reduceLeDiff, TYn, TYm, TYe, QF, FFq, fsv, B, I, by2, RZ, eq_self, TY, Try.results41])))
 all_goals first | (exfalso; omega) | skip
 refine callVC (c89 M hf) (by (simp -dsimp only [↓RP, RQ, implies_true, forall_const, Nat.reduceMul, reduceIte, reduceCtorEq, Nat.reduceAdd, Nat.reduceEqDiff, Nat.reduceLT, Nat.reduceLeDiff, Mk.sv, qts, I]); all_goals (try simp [sub_q])) (by (simp -dsimp only [↓RP, RQ, implies_true, forall_const, Nat.reduceMul, reduceIte, reduceCtorEq, Nat.reduceAdd, Nat.reduceEqDiff, Nat.reduceLT, Nat.reduceLeDiff, B])) ?_
 (repeat' (first | with_reducible refine splitVC_d (fun _ => ?_) (fun _ => ?_) | with_reducible refine splitVC (fun _ => ?_) (fun _ => ?_) | ((with_reducible refine And.intro ?_ ?_); focus (first | exact True.intro | omega | (simp only [InK, ne_eq, and_true, true_and]; omega) | trivial)) | (simp -dsimp only [↓RP, RQ, implies_true, forall_const, Nat.reduceMul, reduceIte, reduceCtorEq, Nat.reduceAdd, Nat.reduceEqDiff, Nat.reduceLT, Nat.reduceLeDiff, TYn, TYm, TYe, QF, FFq, fsv, B, I, by2, RZ, eq_self, TY, Try.results41])))
 all_goals first | (refine I_eq ?_; unfold Mk.sErr; rw [if_pos he, if_pos (by assumption)]; done) | (refine I_eq ?_; unfold Mk.sErr; rw [if_pos he, if_neg (by assumption)]; done) | trace_state
theorem c42 (M : Mk) : Contract Try.prog 42 [M.sv] (I M.cErr) := by
 refine contract_of Try.func42 rfl (by kernel_rfl) follows (by kernel_rfl) _ _ (by rw [Try.ntmps42]; simp) (by simp only [OldL, Mk.old, and_self]) ?_
 conv => arg 4; unfold Mk.sv qts I
 (repeat' (first | with_reducible refine splitVC_d (fun _ => ?_) (fun _ => ?_) | with_reducible refine splitVC (fun _ => ?_) (fun _ => ?_) | ((with_reducible refine And.intro ?_ ?_); focus (first | exact True.intro | omega | (simp only [InK, ne_eq, and_true, true_and]; omega) | trivial)) | (simp -dsimp only [↓RP, RQ, implies_true, forall_const, Nat.reduceMul, reduceIte, reduceCtorEq, Nat.reduceAdd, Nat.reduceEqDiff, Nat.reduceLT, Nat.reduceLeDiff, TYn, TYm, TYe, QF, FFq, fsv, B, I, by2, RZ, eq_self, TY, Try.results42])))
 refine callVC (c36 M) (by (simp -dsimp only [↓RP, RQ, implies_true, forall_const, Nat.reduceMul, reduceIte, reduceCtorEq, Nat.reduceAdd, Nat.reduceEqDiff, Nat.reduceLT, Nat.reduceLeDiff, Mk.sv, qts, I]); all_goals (try simp [sub_q])) (by (simp -dsimp only [↓RP, RQ, implies_true, forall_const, Nat.reduceMul, reduceIte, reduceCtorEq, Nat.reduceAdd, Nat.reduceEqDiff, Nat.reduceLT, Nat.reduceLeDiff, fsv, I])) ?_
 by_cases he : M.err = 0
 rotate_left
 ·(repeat' (first | with_reducible refine splitVC_d (fun _ => ?_) (fun _ => ?_) | with_reducible refine splitVC (fun _ => ?_) (fun _ => ?_) | ((with_reducible refine And.intro ?_ ?_); focus (first | exact True.intro | omega | (simp only [InK, ne_eq, and_true, true_and]; omega) | trivial)) | (simp -dsimp only [↓RP, RQ, implies_true, forall_const, Nat.reduceMul, reduceIte, reduceCtorEq, Nat.reduceAdd, Nat.reduceEqDiff, Nat.reduceLT, Nat.reduceLeDiff, TYn, TYm, TYe, QF, FFq, fsv, B, I, by2, RZ, eq_self, TY, Try.results42])))
  all_goals first | (exfalso; omega) | skip
  refine callVC (c36 M) (by (simp -dsimp only [↓RP, RQ, implies_true, forall_const, Nat.reduceMul, reduceIte, reduceCtorEq, Nat.reduceAdd, Nat.reduceEqDiff, Nat.reduceLT, Nat.reduceLeDiff, Mk.sv, qts, I]); all_goals (try simp [sub_q])) (by (simp -dsimp only [↓RP, RQ, implies_true, forall_const, Nat.reduceMul, reduceIte, reduceCtorEq, Nat.reduceAdd, Nat.reduceEqDiff, Nat.reduceLT, Nat.reduceLeDiff, fsv, I])) ?_
  (repeat' (first | with_reducible refine splitVC_d (fun _ => ?_) (fun _ => ?_) | with_reducible refine splitVC (fun _ => ?_) (fun _ => ?_) | ((with_reducible refine And.intro ?_ ?_); focus (first | exact True.intro | omega | (simp only [InK, ne_eq, and_true, true_and]; omega) | trivial)) | (simp -dsimp only [↓RP, RQ, implies_true, forall_const, Nat.reduceMul, reduceIte, reduceCtorEq, Nat.reduceAdd, Nat.reduceEqDiff, Nat.reduceLT, Nat.reduceLeDiff, TYn, TYm, TYe, QF, FFq, fsv, B, I, by2, RZ, eq_self, TY, Try.results42])))
  all_goals (refine I_eq ?_; unfold Mk.cErr; rw [if_neg he])
 have hf := Mk.fine he
 rw [he]
 (repeat' (first | with_reducible refine splitVC_d (fun _ => ?_) (fun _ => ?_) | with_reducible refine splitVC (fun _ => ?_) (fun _ => ?_) | ((with_reducible refine And.intro ?_ ?_); focus (first | exact True.intro | omega | (simp only [InK, ne_eq, and_true, true_and]; omega) | trivial)) | (simp -dsimp only [↓RP, RQ, implies_true, forall_const, Nat.reduceMul, reduceIte, reduceCtorEq, Nat.reduceAdd, Nat.reduceEqDiff, Nat.reduceLT, Nat.reduceLeDiff, TYn, TYm, TYe, QF, FFq, fsv, B, I, by2, RZ, eq_self, TY, Try.results42])))
 all_goals first | (exfalso; omega) | skip
 refine callVC (c89 M hf) (by (simp -dsimp only [↓RP, RQ, implies_true, forall_const, Nat.reduceMul, reduceIte, reduceCtorEq, Nat.reduceAdd, Nat.reduceEqDiff, Nat.reduceLT, Nat.reduceLeDiff, Mk.sv, qts, I]); all_goals (try simp [sub_q])) (by (simp -dsimp only [↓RP, RQ, implies_true, forall_const, Nat.reduceMul, reduceIte, reduceCtorEq, Nat.reduceAdd, Nat.reduceEqDiff, Nat.reduceLT, Nat.reduceLeDiff, B])) ?_
 (repeat' (first | with_reducible refine splitVC_d (fun _ => ?_) (fun _ => ?_) | with_reducible refine splitVC (fun _ => ?_) (fun _ => ?_) | ((with_reducible refine And.intro ?_ ?_); focus (first | exact True.intro | omega | (simp only [InK, ne_eq, and_true, true_and]; omega) | trivial)) | (simp -dsimp only [↓RP, RQ, implies_true, forall_const, Nat.reduceMul, reduceIte, reduceCtorEq, Nat.reduceAdd, Nat.reduceEqDiff, Nat.reduceLT, Nat.reduceLeDiff, TYn, TYm, TYe, QF, FFq, fsv, B, I, by2, RZ, eq_self, TY, Try.results42])))
 all_goals first | (refine I_eq ?_; unfold Mk.cErr; rw [if_pos he, if_pos (by assumption)]; done) | (refine I_eq ?_; unfold Mk.cErr; rw [if_pos he, if_neg (by assumption)]; done) | trace_state
end Go.Od
end
section
set_option linter.unusedSimpArgs false
set_option linter.unusedVariables false
set_option linter.defProp false
set_option maxRecDepth 100000
set_option maxHeartbeats 16000000
namespace Go.Od
open Go.Proofs
open Go.Sx
theorem TYw : True ∧ tyOf Try.prog 102 = some ⟨false, 1, some [.slice none 0 0], .slice 3 1⟩ ∧ tyOf Try.prog 96 = some ⟨false, 1, some [.pointer none], .other⟩ := ⟨trivial, by kernel_rfl, by kernel_rfl⟩
theorem oldL_get : ∀ {l : List SV}, OldL l → ∀ j, j < l.length → Old (l.getD j .top)
 | [], _, j, h => by simp at h
 | a :: l, h, 0, _ => by simp only [OldL] at h; exact h.1
 | a :: l, h, j + 1, hj => by
  simp only [OldL] at h
  have := oldL_get h.2 j (by simpa using hj)
  simpa using this
def dkr (M : Mk) (lo hi : Nat → Fr) (j : Nat) : SV := (dkL M.run M.m M.q lo hi 0).getD j .top
theorem dkr_take (M : Mk) (lo hi : Nat → Fr) : ∀ j, j < 22 → dkr M lo hi j = ((dkL M.run M.m M.q lo hi 0).take 22).getD j .top := fun j hj => by
 unfold dkr
 simp only [List.getD_eq_getElem?_getD]
 rw [List.getElem?_take_of_lt hj]
theorem dkr_old (M : Mk) (lo hi : Nat → Fr) : ∀ j, j < 22 → Old (dkr M lo hi j) := fun j hj => by
 rw [dkr_take M lo hi j hj]
 refine oldL_get ?_ j (by show j < 22; exact hj)
 show OldL [vI M.run, .arr false false M.m 4 (fun i j => qf (M.q i) j), vI (lo 0).n, vI (lo 0).d, vI (lo 1).n, vI (lo 1).d, vI (lo 2).n, vI (lo 2).d, vI (lo 3).n, vI (lo 3).d, vI (lo 4).n, vI (lo 4).d, vI (hi 0).n, vI (hi 0).d, vI (hi 1).n, vI (hi 1).d, vI (hi 2).n, vI (hi 2).d, vI (hi 3).n, vI (hi 3).d, vI (hi 4).n, vI (hi 4).d]
 simp only [OldL, vI, Old, and_self]
 exact ⟨trivial, ⟨trivial, fun i j _ _ => qf_old _ _⟩, trivial⟩
theorem dkr_mid (M : Mk) (lo hi : Nat → Fr) (mid : Nat) : ∀ j, j < 22 → (dkL M.run M.m M.q lo hi mid).getD j .top = dkr M lo hi j := fun j hj => by
 rw [dkr_take M lo hi j hj]
 have : (dkL M.run M.m M.q lo hi 0).take 22 = (dkL M.run M.m M.q lo hi mid).take 22 := rfl
 rw [this]
 simp only [List.getD_eq_getElem?_getD]
 rw [List.getElem?_take_of_lt hj]
theorem dkr_sub (hp : List (Nat × Blk)) (M : Mk) (lo hi : Nat → Fr) (mid : Nat) : ∀ j, j < 22 → Go.Sx.Sub hp (dkr M lo hi j) ((dkL M.run M.m M.q lo hi mid).getD j .top) ∧ j < (dkL M.run M.m M.q lo hi mid).length := fun j hj => by
 rw [dkr_mid M lo hi mid j hj, dk_len]
 exact ⟨sub_refl _ (dkr_old M lo hi j hj), by omega⟩
theorem dkr_lo (M : Mk) (lo hi : Nat → Fr) {k : Nat} (h : k < 5) : dkr M lo hi (2 + k * 2) = vI (lo k).n ∧ dkr M lo hi (2 + (k * 2 + 1)) = vI (lo k).d := by
 rcases five h with rfl | rfl | rfl | rfl | rfl <;> exact ⟨rfl, rfl⟩
theorem dkr_hi (M : Mk) (lo hi : Nat → Fr) {k : Nat} (h : k < 5) : dkr M lo hi (12 + k * 2) = vI (hi k).n ∧ dkr M lo hi (12 + (k * 2 + 1)) = vI (hi k).d := by
 rcases five h with rfl | rfl | rfl | rfl | rfl <;> exact ⟨rfl, rfl⟩
def crossV (M : Mk) (r : Nat) : Bool := decide (lt (hiS M.q r M.m) (loS M.q r M.m))
def clo (M : Mk) : SV := .ref false 1 (fun _ => .ref false 22 (dkr M (dlo M M.m) (dhi M M.m)))
theorem clo_old (M : Mk) : Old (clo M) := by
 simp only [clo, Old]
 exact ⟨trivial, fun _ _ => ⟨trivial, fun j hj => dkr_old _ _ _ j hj⟩⟩
theorem c97 (M : Mk) (hf : M.Fine) (r : Nat) (hr : (r : Int) < M.run) : Contract Try.prog 97 [I r, clo M] (B (crossV M r)) := by
 refine contract_of Try.func97 rfl (by kernel_rfl) follows (by kernel_rfl) _ _ (by rw [Try.ntmps97]; simp) (by simp only [OldL, clo_old, and_true]; simp [Old, I]) ?_
 have hr5 := hf.r5
 have gl := dkr_lo M (dlo M M.m) (dhi M M.m) (k := r) (by omega)
 have gh := dkr_hi M (dlo M M.m) (dhi M M.m) (k := r) (by omega)
 have el : dlo M M.m r = loS M.q r M.m := by unfold dlo; rw [if_pos hr]
 have eh : dhi M M.m r = hiS M.q r M.m := by unfold dhi; rw [if_pos hr]
 rw [el] at gl
 rw [eh] at gh
 have cl := loS_ch (q := M.q) (r := r) hf.od
 have ch := hiS_ch (q := M.q) (r := r) hf.od
 have n1 := ch.in1 cl
 have n2 := cl.in1 ch
 unfold B crossV
 conv => arg 4; unfold clo I
 (repeat' (first | with_reducible refine splitVC_d (fun _ => ?_) (fun _ => ?_) | with_reducible refine splitVC (fun _ => ?_) (fun _ => ?_) | ((with_reducible refine And.intro ?_ ?_); focus (first | exact True.intro | omega | (simp only [InK, ne_eq, and_true, true_and]; omega) | trivial)) | (simp -dsimp only [↓RP, RQ, implies_true, forall_const, Nat.reduceMul, reduceIte, reduceCtorEq, Nat.reduceAdd, Nat.reduceEqDiff, Nat.reduceLT, Nat.reduceLeDiff, sel, Nat.add_assoc, gl, gh, TYn, TYd, TYm, TYw, QF, fsv, B, I, by2, RZ, eq_self, TY, Try.results97])))
 all_goals first | (exfalso; omega) | skip
 refine callVC (c66 (hiS M.q r M.m) (loS M.q r M.m) (by simp only [InK]; omega) (by simp only [InK]; omega)) (by (simp -dsimp only [↓RP, RQ, implies_true, forall_const, Nat.reduceMul, reduceIte, reduceCtorEq, Nat.reduceAdd, Nat.reduceEqDiff, Nat.reduceLT, Nat.reduceLeDiff, fsv, Go.Od.ints, I, B]); all_goals (try simp)) (by (simp -dsimp only [↓RP, RQ, implies_true, forall_const, Nat.reduceMul, reduceIte, reduceCtorEq, Nat.reduceAdd, Nat.reduceEqDiff, Nat.reduceLT, Nat.reduceLeDiff, B])) ?_
 (repeat' (first | with_reducible refine splitVC_d (fun _ => ?_) (fun _ => ?_) | with_reducible refine splitVC (fun _ => ?_) (fun _ => ?_) | ((with_reducible refine And.intro ?_ ?_); focus (first | exact True.intro | omega | (simp only [InK, ne_eq, and_true, true_and]; omega) | trivial)) | (simp -dsimp only [↓RP, RQ, implies_true, forall_const, Nat.reduceMul, reduceIte, reduceCtorEq, Nat.reduceAdd, Nat.reduceEqDiff, Nat.reduceLT, Nat.reduceLeDiff, TYn, TYd, TYm, TYw, QF, fsv, B, I, by2, RZ, eq_self, TY, Try.results97])))
theorem c96 (M : Mk) (hf : M.Fine) (n : Nat) (hn : (n : Int) = M.run) : Contract Try.prog 96 [I (-1), ints n (fun i => (i : Int)), .fn (.func 97) [] [clo M]] (I (fstI (crossV M) 0 n)) := by
 refine contract_of Try.func96 rfl (by kernel_rfl) follows (by kernel_rfl) _ _ (by rw [Try.ntmps96]; simp) (by simp only [OldL, Old, clo_old, and_true]; simp [Old, I, ints]) ?_
 have hr5 := hf.r5
 conv => arg 4; unfold clo ints I
 (repeat' (first | with_reducible refine splitVC_d (fun _ => ?_) (fun _ => ?_) | with_reducible refine splitVC (fun _ => ?_) (fun _ => ?_) | ((with_reducible refine And.intro ?_ ?_); focus (first | exact True.intro | omega | (simp only [InK, ne_eq, and_true, true_and]; omega) | trivial)) | (simp -dsimp only [↓RP, RQ, implies_true, forall_const, Nat.reduceMul, reduceIte, reduceCtorEq, Nat.reduceAdd, Nat.reduceEqDiff, Nat.reduceLT, Nat.reduceLeDiff, TYn, TYd, TYm, TYw, QF, fsv, B, I, by2, RZ, eq_self, TY, Try.results96])))
 refine loop_vc (fun i => i ≤ n ∧ fstI (crossV M) 0 n = fstI (crossV M) i (n - i)) (fun i => ⟨[(0, .val (.int .i64 (-1))), (2, .fn (.func 97) [] [.ref false 1 (fun _ => .ref false 22 (dkr M (dlo M M.m) (dhi M M.m)))]), (9, .arr false false n 1 (fun i _ => .val (.int .i64 (i : Nat)))), (10, .val (.int .i64 n)), (11, .val (.int .i64 i))], [], 20⟩) (fun i => n - i) 0 ⟨Nat.zero_le _, rfl⟩ (weak [] [] ?_ ?_ ?_) fun i hi => ?_
 ·(simp -dsimp only [↓RP, RQ, implies_true, forall_const, Nat.reduceMul, reduceIte, reduceCtorEq, Nat.reduceAdd, Nat.reduceEqDiff, Nat.reduceLT, Nat.reduceLeDiff]); all_goals (try simp)
  all_goals (try exact fun j hj => wk_refl _ (dkr_old _ _ _ j hj))
 ·(simp -dsimp only [↓RP, RQ, implies_true, forall_const, Nat.reduceMul, reduceIte, reduceCtorEq, Nat.reduceAdd, Nat.reduceEqDiff, Nat.reduceLT, Nat.reduceLeDiff])
 ·(simp -dsimp only [↓RP, RQ, implies_true, forall_const, Nat.reduceMul, reduceIte, reduceCtorEq, Nat.reduceAdd, Nat.reduceEqDiff, Nat.reduceLT, Nat.reduceLeDiff]); all_goals (try simp)
 obtain ⟨hi, he⟩ := hi
 have e1 : ∀ k, n - i = k + 1 → fstI (crossV M) i (n - i) = if crossV M i = true then (i : Int) else fstI (crossV M) (i + 1) k := fun k hk => by rw [hk]; rfl
 by_cases hlt : i < n
 ·have e2 := e1 (n - (i + 1)) (by omega)
  (repeat' (first | with_reducible refine splitVC_d (fun _ => ?_) (fun _ => ?_) | with_reducible refine splitVC (fun _ => ?_) (fun _ => ?_) | ((with_reducible refine And.intro ?_ ?_); focus (first | exact True.intro | omega | (simp only [InK, ne_eq, and_true, true_and]; omega) | trivial)) | (simp -dsimp only [↓RP, RQ, implies_true, forall_const, Nat.reduceMul, reduceIte, reduceCtorEq, Nat.reduceAdd, Nat.reduceEqDiff, Nat.reduceLT, Nat.reduceLeDiff, TYn, TYd, TYm, TYw, QF, fsv, B, I, by2, RZ, eq_self, TY, Try.results96])))
  all_goals first | (exfalso; omega) | skip
  refine callVC (c97 M hf i (by omega)) (by (simp -dsimp only [↓RP, RQ, implies_true, forall_const, Nat.reduceMul, reduceIte, reduceCtorEq, Nat.reduceAdd, Nat.reduceEqDiff, Nat.reduceLT, Nat.reduceLeDiff, clo, I]); all_goals (try simp); all_goals (try exact fun j hj => sub_refl _ (dkr_old _ _ _ j hj))) (by (simp -dsimp only [↓RP, RQ, implies_true, forall_const, Nat.reduceMul, reduceIte, reduceCtorEq, Nat.reduceAdd, Nat.reduceEqDiff, Nat.reduceLT, Nat.reduceLeDiff, B])) ?_
  cases hc : crossV M i
  all_goals rw [hc] at e2
  all_goals (repeat' (first | with_reducible refine splitVC_d (fun _ => ?_) (fun _ => ?_) | with_reducible refine splitVC (fun _ => ?_) (fun _ => ?_) | ((with_reducible refine And.intro ?_ ?_); focus (first | exact True.intro | omega | (simp only [InK, ne_eq, and_true, true_and]; omega) | trivial)) | (simp -dsimp only [↓RP, RQ, implies_true, forall_const, Nat.reduceMul, reduceIte, reduceCtorEq, Nat.reduceAdd, Nat.reduceEqDiff, Nat.reduceLT, Nat.reduceLeDiff, TYn, TYd, TYm, TYw, QF, fsv, B, I, by2, RZ, eq_self, TY, Try.results96])))
  ·refine ⟨i + 1, ⟨by omega, by rw [he, e2, if_neg (by decide)]⟩, by omega, weak [] [] ?_ ?_ ?_⟩
   ·(simp -dsimp only [↓RP, RQ, implies_true, forall_const, Nat.reduceMul, reduceIte, reduceCtorEq, Nat.reduceAdd, Nat.reduceEqDiff, Nat.reduceLT, Nat.reduceLeDiff]); all_goals (try simp)
    all_goals (try exact fun j hj => wk_refl _ (dkr_old _ _ _ j hj))
   ·(simp -dsimp only [↓RP, RQ, implies_true, forall_const, Nat.reduceMul, reduceIte, reduceCtorEq, Nat.reduceAdd, Nat.reduceEqDiff, Nat.reduceLT, Nat.reduceLeDiff])
   ·(simp -dsimp only [↓RP, RQ, implies_true, forall_const, Nat.reduceMul, reduceIte, reduceCtorEq, Nat.reduceAdd, Nat.reduceEqDiff, Nat.reduceLT, Nat.reduceLeDiff]); all_goals (try simp)
  ·refine I_eq ?_
   rw [he, e2, if_pos rfl]
 ·(repeat' (first | with_reducible refine splitVC_d (fun _ => ?_) (fun _ => ?_) | with_reducible refine splitVC (fun _ => ?_) (fun _ => ?_) | ((with_reducible refine And.intro ?_ ?_); focus (first | exact True.intro | omega | (simp only [InK, ne_eq, and_true, true_and]; omega) | trivial)) | (simp -dsimp only [↓RP, RQ, implies_true, forall_const, Nat.reduceMul, reduceIte, reduceCtorEq, Nat.reduceAdd, Nat.reduceEqDiff, Nat.reduceLT, Nat.reduceLeDiff, TYn, TYd, TYm, TYw, QF, fsv, B, I, by2, RZ, eq_self, TY, Try.results96])))
  all_goals first | (exfalso; omega) | skip
  refine I_eq ?_
  have : n - i = 0 := by omega
  rw [he, this]; rfl
end Go.Od
end
