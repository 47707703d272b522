/- A part of the proof. -/
import Derived.Test.YtbomildlhnllhaaOA
import Derived.Test.YtbomildlhnllhaaEE
section
set_option linter.unusedSimpArgs false
set_option linter.unusedVariables false
set_option linter.defProp false
set_option maxRecDepth 100000
set_option maxHeartbeats 16000000
namespace Go.Od
open Go.Proofs
open Go.Sx
end Go.Od
end
section
set_option linter.unusedSimpArgs false
set_option linter.unusedVariables false
set_option linter.defProp false
set_option maxRecDepth 100000
set_option maxHeartbeats 16000000
namespace Go.Od
open Go.Proofs
open Go.Sx
def clI (r : Fr) (k : Nat) (z : Nat × (Fr × Fr) × (Fr × Fr)) : Prop :=
 1 ≤ z.2.1.1.d ∧ z.2.1.1.d ≤ (k + 1 : Nat) ∧ 1 ≤ z.2.1.2.d ∧ z.2.1.2.d ≤ (k + 1 : Nat) ∧ 0 ≤ z.2.1.1.n ∧ z.2.1.1.n ≤ (r.n.tdiv r.d + 1) * z.2.1.1.d ∧ 0 ≤ z.2.1.2.n ∧ z.2.1.2.n ≤ (r.n.tdiv r.d + 1) * z.2.1.2.d ∧ ((k + 1 : Nat) : Int) < z.2.1.1.d + z.2.1.2.d + z.1 ∧ sb r (k + 1 : Nat) z.1 z.2.1.1 z.2.1.2 = sb r (k + 1 : Nat) (k + 1) (start r).1 (start r).2
theorem clI_start (r : Fr) (k : Nat) (h : 0 ≤ r.n.tdiv r.d) : clI r k (k + 1, start r, (⟨0, 0⟩, ⟨0, 0⟩)) := by
 refine ⟨?_, ?_, ?_, ?_, ?_, ?_, ?_, ?_, ?_, rfl⟩ <;> simp only [start] <;> omega
theorem c63 (r : Fr) (hn : 0 ≤ r.n) (hn2 : r.n ≤ 100000000000) (hd : 0 < r.d) (hd2 : r.d ≤ 100000000000) (k : Nat) (hk : k ≤ 99) : Contract Try.prog 63 [fsv r, I (k + 1 : Nat)] (.tup [fsv (sb r (k + 1 : Nat) (k + 1) (start r).1 (start r).2).1, fsv (sb r (k + 1 : Nat) (k + 1) (start r).1 (start r).2).2]) := by
 refine contract_ofF (farTwo 5 [(9, 6)] 6 [(7, 4)]) Try.func63 rfl (by kernel_rfl) follows (by kernel_rfl) _ _ (by rw [Try.ntmps63]; simp) (by simp only [OldL, fsv_old, and_self, true_and]; simp [Old, I]) ?_
 have ⟨t0, t1, t2⟩ := tdiv_spec hn hd
 have t3 : r.n.tdiv r.d * 1 ≤ r.n.tdiv r.d * r.d := mul_le t0 (by omega)
 conv => arg 4; unfold fsv I
 (repeat' (first | with_reducible refine splitVC_d (fun _ => ?_) (fun _ => ?_) | ((with_reducible refine And.intro ?_ ?_); focus (first | exact True.intro | omega | (simp only [InK, ne_eq, and_true, true_and]; omega) | trivial)) | (simp -dsimp only [↓RP, RQ, implies_true, forall_const, Nat.reduceMul, reduceIte, reduceCtorEq, Nat.reduceAdd, Nat.reduceEqDiff, Nat.reduceLT, Nat.reduceLeDiff, vc_region2N, vc_region2A, vc_region2B, Try.results91, Try.results102, fsv, B, I, by2, RZ, eq_self, TY, Try.results63])))
 refine callI follows (by rfl) Try.func91 rfl (by kernel_rfl) (by kernel_rfl) (by rw [Try.ntmps91]; simp) fun out => ?_
 (repeat' (first | with_reducible refine splitVC_d (fun _ => ?_) (fun _ => ?_) | ((with_reducible refine And.intro ?_ ?_); focus (first | exact True.intro | omega | (simp only [InK, ne_eq, and_true, true_and]; omega) | trivial)) | (simp -dsimp only [↓RP, RQ, implies_true, forall_const, Nat.reduceMul, reduceIte, reduceCtorEq, Nat.reduceAdd, Nat.reduceEqDiff, Nat.reduceLT, Nat.reduceLeDiff, vc_region2N, vc_region2A, vc_region2B, Try.results91, Try.results102, fsv, B, I, by2, RZ, eq_self, TY, Try.results63])))
 refine rangeIT (ps := [13, 14]) follows (by rfl) Try.func102 rfl (by kernel_rfl) (by kernel_rfl) (by rw [Try.results102]) (by rw [Try.ntmps102]; simp) fun out L R => ?_
 (repeat' (first | with_reducible refine splitVC_d (fun _ => ?_) (fun _ => ?_) | ((with_reducible refine And.intro ?_ ?_); focus (first | exact True.intro | omega | (simp only [InK, ne_eq, and_true, true_and]; omega) | trivial)) | (simp -dsimp only [↓RP, RQ, implies_true, forall_const, Nat.reduceMul, reduceIte, reduceCtorEq, Nat.reduceAdd, Nat.reduceEqDiff, Nat.reduceLT, Nat.reduceLeDiff, vc_region2N, vc_region2A, vc_region2B, Try.results91, Try.results102, fsv, B, I, by2, RZ, eq_self, TY, Try.results63])))
 refine loop_vc (fun (z : Nat × (Fr × Fr) × (Fr × Fr)) => clI r k z) (fun z => ⟨[(0, .yld 15), (1, .ptr 7 0), (2, .ptr 8 0), (5, .ptr 27 0), (6, .ptr 28 0)],
   [(28, .cells 23 [.val (.int .i64 z.2.1.2.n), .val (.int .i64 z.2.1.2.d)]), (27, .cells 23 [.val (.int .i64 z.2.1.1.n), .val (.int .i64 z.2.1.1.d)]), (15, .loop L .ready), (8, .cells 2 [.val (.int .i64 (k + 1 : Nat))]), (7, .cells 23 [.val (.int .i64 r.n), .val (.int .i64 r.d)]),
    (4, .cells 23 [.val (.int .i64 z.2.2.2.n), .val (.int .i64 z.2.2.2.d)]), (3, .cells 23 [.val (.int .i64 z.2.2.1.n), .val (.int .i64 z.2.2.1.d)]), (2, .cells 23 [.val (.int .i64 0), .val (.int .i64 0)]), (1, .cells 23 [.val (.int .i64 0), .val (.int .i64 0)]), (0, .cells 23 [.val (.int .i64 r.n), .val (.int .i64 r.d)])], 31⟩) (fun z => z.1) (k + 1, start r, (⟨0, 0⟩, ⟨0, 0⟩)) (clI_start r k t0) (weak [] [] ?_ ?_ ?_ rfl) fun z hz => ?_
 ·(simp -dsimp only [↓RP, RQ, implies_true, forall_const, Nat.reduceMul, reduceIte, reduceCtorEq, Nat.reduceAdd, Nat.reduceEqDiff, Nat.reduceLT, Nat.reduceLeDiff]); all_goals simp
 ·(simp -dsimp only [↓RP, RQ, implies_true, forall_const, Nat.reduceMul, reduceIte, reduceCtorEq, Nat.reduceAdd, Nat.reduceEqDiff, Nat.reduceLT, Nat.reduceLeDiff, start]); all_goals simp
 ·(simp -dsimp only [↓RP, RQ, implies_true, forall_const, Nat.reduceMul, reduceIte, reduceCtorEq, Nat.reduceAdd, Nat.reduceEqDiff, Nat.reduceLT, Nat.reduceLeDiff]); all_goals simp
 obtain ⟨m, ⟨lo, hi⟩, a, b⟩ := z
 obtain ⟨b1, b2, b3, b4, b5, b6, b7, b8, b9, b10⟩ := hz
 simp only [] at b1 b2 b3 b4 b5 b6 b7 b8 b9 b10 ⊢
 have p1 := mul_in (r.n.tdiv r.d + 1) lo.d 100000000001 100 (by omega) (by omega) (by omega) (by omega)
 have p2 := mul_in (r.n.tdiv r.d + 1) hi.d 100000000001 100 (by omega) (by omega) (by omega) (by omega)
 have n1 : lo.n + hi.n ≤ (r.n.tdiv r.d + 1) * (lo.d + hi.d) := by rw [Int.mul_add]; omega
 have n2 : (lo.n + hi.n) * r.d ≤ (r.n.tdiv r.d + 1) * (lo.d + hi.d) * r.d := Int.mul_le_mul_of_nonneg_right n1 (by omega)
 have n3 : (r.n.tdiv r.d + 1) * (lo.d + hi.d) * r.d = ((r.n.tdiv r.d + 1) * r.d) * (lo.d + hi.d) := by grind
 have n5 : (r.n.tdiv r.d + 1) * r.d = r.n.tdiv r.d * r.d + r.d := by grind
 have n6 : 0 ≤ (r.n.tdiv r.d + 1) * r.d := Int.mul_nonneg (by omega) (by omega)
 have n4 := mul_in ((r.n.tdiv r.d + 1) * r.d) (lo.d + hi.d) 200000000000 200 n6 (by omega) (by omega) (by omega)
 have n0 : 0 ≤ (lo.n + hi.n) * r.d := Int.mul_nonneg (by omega) (by omega)
 have n7 := mul_in r.n (lo.d + hi.d) 100000000000 200 hn (by omega) hn2 (by omega)
 by_cases hs : ((k + 1 : Nat) : Int) < lo.d + hi.d
 ·have e : sb r (k + 1 : Nat) m lo hi = (lo, hi) := by
   cases m with
   | zero => rfl
   | succ m => simp only [sb]; rw [if_pos hs]
  rw [← b10, e]
  (repeat' (first | with_reducible refine splitVC_d (fun _ => ?_) (fun _ => ?_) | ((with_reducible refine And.intro ?_ ?_); focus (first | exact True.intro | omega | (simp only [InK, ne_eq, and_true, true_and]; omega) | trivial)) | (simp -dsimp only [↓RP, RQ, implies_true, forall_const, Nat.reduceMul, reduceIte, reduceCtorEq, Nat.reduceAdd, Nat.reduceEqDiff, Nat.reduceLT, Nat.reduceLeDiff, vc_region2N, vc_region2A, vc_region2B, Try.results91, Try.results102, fsv, B, I, by2, RZ, eq_self, TY, Try.results63])))
  refine yieldIT follows (by rfl) R (by rfl) (by rfl) fun out2 => ?_
  (repeat' (first | with_reducible refine splitVC_d (fun _ => ?_) (fun _ => ?_) | ((with_reducible refine And.intro ?_ ?_); focus (first | exact True.intro | omega | (simp only [InK, ne_eq, and_true, true_and]; omega) | trivial)) | (simp -dsimp only [↓RP, RQ, implies_true, forall_const, Nat.reduceMul, reduceIte, reduceCtorEq, Nat.reduceAdd, Nat.reduceEqDiff, Nat.reduceLT, Nat.reduceLeDiff, vc_region2N, vc_region2A, vc_region2B, Try.results91, Try.results102, fsv, B, I, by2, RZ, eq_self, TY, Try.results63])))
  all_goals (exfalso; omega)
 ·obtain ⟨m, rfl⟩ : ∃ m', m = m' + 1 := ⟨m - 1, by omega⟩
  simp only [sb] at b10
  rw [if_neg hs] at b10
  (repeat' (first | with_reducible refine splitVC_d (fun _ => ?_) (fun _ => ?_) | ((with_reducible refine And.intro ?_ ?_); focus (first | exact True.intro | omega | (simp only [InK, ne_eq, and_true, true_and]; omega) | trivial)) | (simp -dsimp only [↓RP, RQ, implies_true, forall_const, Nat.reduceMul, reduceIte, reduceCtorEq, Nat.reduceAdd, Nat.reduceEqDiff, Nat.reduceLT, Nat.reduceLeDiff, vc_region2N, vc_region2A, vc_region2B, Try.results91, Try.results102, fsv, B, I, by2, RZ, eq_self, TY, Try.results63])))
  refine yieldIT follows (by rfl) R (by rfl) (by rfl) fun out2 => ?_
  (repeat' (first | with_reducible refine splitVC_d (fun _ => ?_) (fun _ => ?_) | ((with_reducible refine And.intro ?_ ?_); focus (first | exact True.intro | omega | (simp only [InK, ne_eq, and_true, true_and]; omega) | trivial)) | (simp -dsimp only [↓RP, RQ, implies_true, forall_const, Nat.reduceMul, reduceIte, reduceCtorEq, Nat.reduceAdd, Nat.reduceEqDiff, Nat.reduceLT, Nat.reduceLeDiff, vc_region2N, vc_region2A, vc_region2B, Try.results91, Try.results102, fsv, B, I, by2, RZ, eq_self, TY, Try.results63])))
  all_goals first | (exfalso; omega) | skip
  refine callVC (c66 r ⟨lo.n + hi.n, lo.d + hi.d⟩ (by simp only [InK]; omega) (by simp only [InK]; omega)) (by (simp -dsimp only [↓RP, RQ, implies_true, forall_const, Nat.reduceMul, reduceIte, reduceCtorEq, Nat.reduceAdd, Nat.reduceEqDiff, Nat.reduceLT, Nat.reduceLeDiff, fsv, Go.Od.ints, I, B]); all_goals (try simp)) (by (simp -dsimp only [↓RP, RQ, implies_true, forall_const, Nat.reduceMul, reduceIte, reduceCtorEq, Nat.reduceAdd, Nat.reduceEqDiff, Nat.reduceLT, Nat.reduceLeDiff, B])) ?_
  (repeat' (first | with_reducible refine splitVC_d (fun _ => ?_) (fun _ => ?_) | ((with_reducible refine And.intro ?_ ?_); focus (first | exact True.intro | omega | (simp only [InK, ne_eq, and_true, true_and]; omega) | trivial)) | (simp -dsimp only [↓RP, RQ, implies_true, forall_const, Nat.reduceMul, reduceIte, reduceCtorEq, Nat.reduceAdd, Nat.reduceEqDiff, Nat.reduceLT, Nat.reduceLeDiff, vc_region2N, vc_region2A, vc_region2B, Try.results91, Try.results102, fsv, B, I, by2, RZ, eq_self, TY, Try.results63])))
  ·rename_i hl
   rw [if_pos hl] at b10
   refine ⟨(m, (lo, ⟨lo.n + hi.n, lo.d + hi.d⟩), (lo, hi)), ⟨b1, b2, by show 1 ≤ lo.d + hi.d; omega, by show lo.d + hi.d ≤ _; omega, b5, b6, by show 0 ≤ lo.n + hi.n; omega, n1, by show _ < lo.d + (lo.d + hi.d) + (m : Int); omega, b10⟩, by show m < m + 1; omega, weak [] [] ?_ ?_ ?_ rfl⟩
   ·(simp -dsimp only [↓RP, RQ, implies_true, forall_const, Nat.reduceMul, reduceIte, reduceCtorEq, Nat.reduceAdd, Nat.reduceEqDiff, Nat.reduceLT, Nat.reduceLeDiff]); all_goals simp
   ·(simp -dsimp only [↓RP, RQ, implies_true, forall_const, Nat.reduceMul, reduceIte, reduceCtorEq, Nat.reduceAdd, Nat.reduceEqDiff, Nat.reduceLT, Nat.reduceLeDiff]); all_goals simp
   ·(simp -dsimp only [↓RP, RQ, implies_true, forall_const, Nat.reduceMul, reduceIte, reduceCtorEq, Nat.reduceAdd, Nat.reduceEqDiff, Nat.reduceLT, Nat.reduceLeDiff]); all_goals simp
  ·rename_i hl
   rw [if_neg hl] at b10
   refine ⟨(m, (⟨lo.n + hi.n, lo.d + hi.d⟩, hi), (lo, hi)), ⟨by show 1 ≤ lo.d + hi.d; omega, by show lo.d + hi.d ≤ _; omega, b3, b4, by show 0 ≤ lo.n + hi.n; omega, n1, b7, b8, by show _ < lo.d + hi.d + hi.d + (m : Int); omega, b10⟩, by show m < m + 1; omega, weak [] [] ?_ ?_ ?_ rfl⟩
   ·(simp -dsimp only [↓RP, RQ, implies_true, forall_const, Nat.reduceMul, reduceIte, reduceCtorEq, Nat.reduceAdd, Nat.reduceEqDiff, Nat.reduceLT, Nat.reduceLeDiff]); all_goals simp
   ·(simp -dsimp only [↓RP, RQ, implies_true, forall_const, Nat.reduceMul, reduceIte, reduceCtorEq, Nat.reduceAdd, Nat.reduceEqDiff, Nat.reduceLT, Nat.reduceLeDiff]); all_goals simp
   ·(simp -dsimp only [↓RP, RQ, implies_true, forall_const, Nat.reduceMul, reduceIte, reduceCtorEq, Nat.reduceAdd, Nat.reduceEqDiff, Nat.reduceLT, Nat.reduceLeDiff]); all_goals simp
end Go.Od
end
section
set_option linter.unusedSimpArgs false
set_option linter.unusedVariables false
set_option linter.defProp false
set_option maxRecDepth 100000
set_option maxHeartbeats 16000000
namespace Go.Od
open Go.Proofs
open Go.Sx
def nb (r : Fr) (s : Int) : Fr × Fr := sb r s s.toNat (start r).1 (start r).2
theorem nb_k (r : Fr) (k : Nat) : sb r (k + 1 : Nat) (k + 1) (start r).1 (start r).2 = nb r (k + 1 : Nat) := by unfold nb; rw [Int.toNat_natCast]
theorem nb_cl (r : Fr) (s : Int) (hn : 0 ≤ r.n) (hd : 0 < r.d) (hs : 1 ≤ s) : Cl r s (nb r s).1 (nb r s).2 ∧ s < (nb r s).1.d + (nb r s).2.d := by
 have ⟨_, h1, h2⟩ := tdiv_spec hn hd
 have c0 : Cl r s (start r).1 (start r).2 := by
  refine ⟨⟨by show (0 : Int) < 1; omega, by show (0 : Int) < 1; omega, ?_⟩, by show (1 : Int) ≤ _; omega, by show (1 : Int) ≤ _; omega, ?_, ?_⟩
  ·show (r.n.tdiv r.d + 1) * 1 - r.n.tdiv r.d * 1 = 1
   omega
  ·show r.n.tdiv r.d * r.d ≤ r.n * 1
   omega
  ·show r.n * 1 < (r.n.tdiv r.d + 1) * r.d
   omega
 exact sb_cl r s s.toNat _ _ c0 (by show s < 1 + 1 + (s.toNat : Int); omega)
theorem nb_near (r : Fr) (s : Int) (hn : 0 ≤ r.n) (hd : 0 < r.d) (hs : 1 ≤ s) : Near r s (nb r s).1 (nb r s).2 :=
 cl_near hd (nb_cl r s hn hd hs).1 (nb_cl r s hn hd hs).2
theorem nb_bd (r : Fr) (s T : Int) (hn : 0 ≤ r.n) (hd : 0 < r.d) (hs : 1 ≤ s) (hT : r.n ≤ T * r.d) : (0 ≤ (nb r s).1.n ∧ (nb r s).1.n ≤ T * (nb r s).1.d ∧ 1 ≤ (nb r s).1.d ∧ (nb r s).1.d ≤ s) ∧ (1 ≤ (nb r s).2.n ∧ (nb r s).2.n ≤ (T + 1) * (nb r s).2.d ∧ 1 ≤ (nb r s).2.d ∧ (nb r s).2.d ≤ s) := by
 have h := nb_near r s hn hd hs
 generalize (nb r s).1 = lo at *
 generalize (nb r s).2 = hi at *
 have a1 := h.ld
 have a2 := h.hd
 have a3 := h.lq
 have a4 := h.hq
 have b1 : 0 ≤ lo.n := by
  have := h.lo ⟨0, 1⟩ (by show (0 : Int) < 1; omega) (by show (1 : Int) ≤ s; omega) (by show 0 * r.d ≤ r.n * 1; omega)
  have e : 0 * lo.d ≤ lo.n * 1 := this
  omega
 have b2 : lo.n ≤ T * lo.d := by
  have e1 : lo.n * r.d ≤ r.n * lo.d := h.lr
  have e2 : r.n * lo.d ≤ T * r.d * lo.d := Int.mul_le_mul_of_nonneg_right hT (by omega)
  have e3 : r.d * lo.n ≤ r.d * (T * lo.d) := by
   have : T * r.d * lo.d = r.d * (T * lo.d) := by grind
   have : r.d * lo.n = lo.n * r.d := Int.mul_comm _ _
   omega
  exact pos_le hd e3
 have b3 : 1 ≤ hi.n := by
  have e1 : r.n * hi.d < hi.n * r.d := h.hr
  have e2 : 0 ≤ r.n * hi.d := Int.mul_nonneg hn (by omega)
  have e3 : r.d * 0 < r.d * hi.n := by rw [Int.mul_comm r.d hi.n]; omega
  have := pos_lt hd e3
  omega
 have b4 : hi.n ≤ (T + 1) * hi.d := by
  have := h.hi ⟨T + 1, 1⟩ (by show (0 : Int) < 1; omega) (by show (1 : Int) ≤ s; omega) (by show r.n * 1 < (T + 1) * r.d; rw [Int.add_mul]; omega)
  have e : hi.n * 1 ≤ (T + 1) * hi.d := this
  omega
 exact ⟨⟨b1, b2, a1, a3⟩, b3, b4, a2, a4⟩
theorem ask_iff {r : Fr} {s : Int} : askV r s = 0 ↔ isF r ∧ 1 ≤ s ∧ s ≤ 100 := by
 unfold askV
 split
 ·rename_i h
  split
  ·rename_i h2; simp [h, h2]
  ·rename_i h2; constructor
   ·intro h3; cases h3
   ·intro h3; exact absurd h3.2 h2
 ·rename_i h; constructor
  ·intro h3; cases h3
  ·intro h3; exact absurd h3.1 h
def nearV (r : Fr) (s : Int) : (Fr × Fr) × Int := if askV r s = 0 then (nb r s, 0) else ((⟨0, 0⟩, ⟨0, 0⟩), askV r s)
def midV (r lo hi : Fr) : Fr := if lt ⟨lo.n * hi.d + hi.n * lo.d, 2 * lo.d * hi.d⟩ r then hi else lo
def rndV (r : Fr) (s : Int) : Fr × Int := if askV r s = 0 then (midV r (nb r s).1 (nb r s).2, 0) else (⟨0, 0⟩, askV r s)
theorem nearV_ok {r : Fr} {s : Int} (h : askV r s = 0) : nearV r s = (nb r s, 0) := by unfold nearV; rw [if_pos h]
theorem nearV_no {r : Fr} {s : Int} (h : ¬ askV r s = 0) : nearV r s = ((⟨0, 0⟩, ⟨0, 0⟩), askV r s) := by unfold nearV; rw [if_neg h]
theorem rndV_ok {r : Fr} {s : Int} (h : askV r s = 0) : rndV r s = (midV r (nb r s).1 (nb r s).2, 0) := by unfold rndV; rw [if_pos h]
theorem rndV_no {r : Fr} {s : Int} (h : ¬ askV r s = 0) : rndV r s = (⟨0, 0⟩, askV r s) := by unfold rndV; rw [if_neg h]
def ckF (n : Int) (lo hi : Fr) : Prop := ((1 ≤ lo.d ∧ lo.d ≤ n) ∧ (1 ≤ hi.d ∧ hi.d ≤ n)) ∧ ((0 ≤ lo.n ∧ lo.n ≤ 1001 * n) ∧ (0 ≤ hi.n ∧ hi.n ≤ 1001 * n))
def ckP (r : Fr) (n : Int) (lo hi : Fr) : Prop := ¬ lt r lo ∧ lt r hi ∧ hi.n * lo.d - lo.n * hi.d = 1 ∧ n < lo.d + hi.d
instance (n : Int) (lo hi : Fr) : Decidable (ckF n lo hi) := by unfold ckF; infer_instance
instance (r : Fr) (n : Int) (lo hi : Fr) : Decidable (ckP r n lo hi) := by unfold ckP; infer_instance
def ckV (r : Fr) (s : Int) (lo hi : Fr) : Int := if askV r s = 0 then (if ckF s lo hi ∧ ckP r s lo hi then 0 else 14) else askV r s
theorem ckV_0 {r : Fr} {s : Int} {lo hi : Fr} (h : askV r s = 0) (h1 : ckF s lo hi) (h2 : ckP r s lo hi) : 0 = ckV r s lo hi := by unfold ckV; rw [if_pos h, if_pos ⟨h1, h2⟩]
theorem ckV_14 {r : Fr} {s : Int} {lo hi : Fr} (h : askV r s = 0) (h1 : ckF s lo hi → ckP r s lo hi → False) : 14 = ckV r s lo hi := by unfold ckV; rw [if_pos h, if_neg (fun h => h1 h.1 h.2)]
theorem ckV_no {r : Fr} {s : Int} {lo hi : Fr} (h : ¬ askV r s = 0) : askV r s = ckV r s lo hi := by unfold ckV; rw [if_neg h]
theorem ckV_small {r lo : Fr} {n : Int} (hr : r.n ≤ 1000 * r.d) (hd : 0 < r.d) (h : ¬ lt r lo) (h2 : 1 ≤ lo.d) (h3 : lo.d ≤ n) : lo.n ≤ 1000 * n := by
 have e1 : lo.n * r.d ≤ r.n * lo.d := not_lt.1 h
 have e2 : r.n * lo.d ≤ 1000 * r.d * lo.d := Int.mul_le_mul_of_nonneg_right hr (by omega)
 have e3 : r.d * lo.n ≤ r.d * (1000 * lo.d) := by
  have : 1000 * r.d * lo.d = r.d * (1000 * lo.d) := by grind
  have : r.d * lo.n = lo.n * r.d := Int.mul_comm _ _
  omega
 have := pos_le hd e3
 omega
theorem c63s (r : Fr) (hn : 0 ≤ r.n) (hn2 : r.n ≤ 100000000000) (hd : 0 < r.d) (hd2 : r.d ≤ 100000000000) (s : Int) (h1 : 1 ≤ s) (h2 : s ≤ 100) : Contract Try.prog 63 [fsv r, I s] (.tup [fsv (nb r s).1, fsv (nb r s).2]) := by
 obtain ⟨k, rfl⟩ : ∃ k : Nat, s = (k + 1 : Nat) := ⟨s.toNat - 1, by omega⟩
 rw [← nb_k]
 exact c63 r hn hn2 hd hd2 k (by omega)
theorem c16 (r : Fr) (step : Int) : Contract Try.prog 16 [fsv r, I step] (.tup [fsv (nearV r step).1.1, fsv (nearV r step).1.2, I (nearV r step).2]) := by
 refine contract_ofF (farAt 5 [(9, 4)]) Try.func16 rfl (by kernel_rfl) follows (by kernel_rfl) _ _ (by rw [Try.ntmps16]; simp) (by simp only [OldL, fsv_old, and_self, true_and]; simp [Old, I]) ?_
 by_cases ha : askV r step = 0
 ·rw [nearV_ok ha]
  have ⟨hf, h1, h2⟩ := ask_iff.1 ha
  have b := isF_bd hf
  conv => arg 4; unfold fsv I
  (repeat' (first | with_reducible refine splitVC_d (fun _ => ?_) (fun _ => ?_) | ((with_reducible refine And.intro ?_ ?_); focus (first | exact True.intro | omega | (simp only [InK, ne_eq, and_true, true_and]; omega) | trivial)) | (simp -dsimp only [↓RP, RQ, implies_true, forall_const, Nat.reduceMul, reduceIte, reduceCtorEq, Nat.reduceAdd, Nat.reduceEqDiff, Nat.reduceLT, Nat.reduceLeDiff, fsv, B, I, by2, RZ, eq_self, TY, Try.results16])))
  refine callVC (c62 r step) (by (simp -dsimp only [↓RP, RQ, implies_true, forall_const, Nat.reduceMul, reduceIte, reduceCtorEq, Nat.reduceAdd, Nat.reduceEqDiff, Nat.reduceLT, Nat.reduceLeDiff, fsv, Go.Od.ints, I, B]); all_goals (try simp)) (by (simp -dsimp only [↓RP, RQ, implies_true, forall_const, Nat.reduceMul, reduceIte, reduceCtorEq, Nat.reduceAdd, Nat.reduceEqDiff, Nat.reduceLT, Nat.reduceLeDiff, fsv, I])) ?_
  rw [ha]
  (repeat' (first | with_reducible refine splitVC_d (fun _ => ?_) (fun _ => ?_) | ((with_reducible refine And.intro ?_ ?_); focus (first | exact True.intro | omega | (simp only [InK, ne_eq, and_true, true_and]; omega) | trivial)) | (simp -dsimp only [↓RP, RQ, implies_true, forall_const, Nat.reduceMul, reduceIte, reduceCtorEq, Nat.reduceAdd, Nat.reduceEqDiff, Nat.reduceLT, Nat.reduceLeDiff, fsv, B, I, by2, RZ, eq_self, TY, Try.results16])))
  refine callVC (c63s r (by omega) (by omega) (by omega) (by omega) step h1 h2) (by (simp -dsimp only [↓RP, RQ, implies_true, forall_const, Nat.reduceMul, reduceIte, reduceCtorEq, Nat.reduceAdd, Nat.reduceEqDiff, Nat.reduceLT, Nat.reduceLeDiff, fsv, Go.Od.ints, I, B]); all_goals (try simp)) (by (simp -dsimp only [↓RP, RQ, implies_true, forall_const, Nat.reduceMul, reduceIte, reduceCtorEq, Nat.reduceAdd, Nat.reduceEqDiff, Nat.reduceLT, Nat.reduceLeDiff, fsv, I])) ?_
  (repeat' (first | with_reducible refine splitVC_d (fun _ => ?_) (fun _ => ?_) | ((with_reducible refine And.intro ?_ ?_); focus (first | exact True.intro | omega | (simp only [InK, ne_eq, and_true, true_and]; omega) | trivial)) | (simp -dsimp only [↓RP, RQ, implies_true, forall_const, Nat.reduceMul, reduceIte, reduceCtorEq, Nat.reduceAdd, Nat.reduceEqDiff, Nat.reduceLT, Nat.reduceLeDiff, fsv, B, I, by2, RZ, eq_self, TY, Try.results16])))
  all_goals first | exact ⟨rfl, rfl⟩ | exact ⟨⟨rfl, rfl⟩, ⟨rfl, rfl⟩⟩ | exact ⟨⟨rfl, rfl⟩, ⟨rfl, rfl⟩, rfl⟩ | skip
 ·rw [nearV_no ha]
  conv => arg 4; unfold fsv I
  (repeat' (first | with_reducible refine splitVC_d (fun _ => ?_) (fun _ => ?_) | ((with_reducible refine And.intro ?_ ?_); focus (first | exact True.intro | omega | (simp only [InK, ne_eq, and_true, true_and]; omega) | trivial)) | (simp -dsimp only [↓RP, RQ, implies_true, forall_const, Nat.reduceMul, reduceIte, reduceCtorEq, Nat.reduceAdd, Nat.reduceEqDiff, Nat.reduceLT, Nat.reduceLeDiff, fsv, B, I, by2, RZ, eq_self, TY, Try.results16])))
  refine callVC (c62 r step) (by (simp -dsimp only [↓RP, RQ, implies_true, forall_const, Nat.reduceMul, reduceIte, reduceCtorEq, Nat.reduceAdd, Nat.reduceEqDiff, Nat.reduceLT, Nat.reduceLeDiff, fsv, Go.Od.ints, I, B]); all_goals (try simp)) (by (simp -dsimp only [↓RP, RQ, implies_true, forall_const, Nat.reduceMul, reduceIte, reduceCtorEq, Nat.reduceAdd, Nat.reduceEqDiff, Nat.reduceLT, Nat.reduceLeDiff, fsv, I])) ?_
  (repeat' (first | with_reducible refine splitVC_d (fun _ => ?_) (fun _ => ?_) | ((with_reducible refine And.intro ?_ ?_); focus (first | exact True.intro | omega | (simp only [InK, ne_eq, and_true, true_and]; omega) | trivial)) | (simp -dsimp only [↓RP, RQ, implies_true, forall_const, Nat.reduceMul, reduceIte, reduceCtorEq, Nat.reduceAdd, Nat.reduceEqDiff, Nat.reduceLT, Nat.reduceLeDiff, fsv, B, I, by2, RZ, eq_self, TY, Try.results16])))
  all_goals first | (exfalso; omega) | skip
  all_goals first | exact ⟨rfl, rfl⟩ | exact ⟨⟨rfl, rfl⟩, ⟨rfl, rfl⟩⟩ | exact ⟨⟨rfl, rfl⟩, ⟨rfl, rfl⟩, rfl⟩ | skip
theorem c18 (r : Fr) (step : Int) : Contract Try.prog 18 [fsv r, I step] (.tup [fsv (rndV r step).1, I (rndV r step).2]) := by
 refine contract_of Try.func18 rfl (by kernel_rfl) follows (by kernel_rfl) _ _ (by rw [Try.ntmps18]; simp) (by simp only [OldL, fsv_old, and_self, true_and]; simp [Old, I]) ?_
 by_cases ha : askV r step = 0
 ·rw [rndV_ok ha]
  have ⟨hf, h1, h2⟩ := ask_iff.1 ha
  have b := isF_bd hf
  have ⟨⟨g1, g2, g3, g4⟩, g5, g6, g7, g8⟩ := nb_bd r step 1000 (by omega) (by omega) h1 hf.2.2
  conv => arg 4; unfold fsv I
  (repeat' (first | with_reducible refine splitVC_d (fun _ => ?_) (fun _ => ?_) | ((with_reducible refine And.intro ?_ ?_); focus (first | exact True.intro | omega | (simp only [InK, ne_eq, and_true, true_and]; omega) | trivial)) | (simp -dsimp only [↓RP, RQ, implies_true, forall_const, Nat.reduceMul, reduceIte, reduceCtorEq, Nat.reduceAdd, Nat.reduceEqDiff, Nat.reduceLT, Nat.reduceLeDiff, fsv, B, I, by2, RZ, eq_self, TY, Try.results18])))
  refine callVC (c62 r step) (by (simp -dsimp only [↓RP, RQ, implies_true, forall_const, Nat.reduceMul, reduceIte, reduceCtorEq, Nat.reduceAdd, Nat.reduceEqDiff, Nat.reduceLT, Nat.reduceLeDiff, fsv, Go.Od.ints, I, B]); all_goals (try simp)) (by (simp -dsimp only [↓RP, RQ, implies_true, forall_const, Nat.reduceMul, reduceIte, reduceCtorEq, Nat.reduceAdd, Nat.reduceEqDiff, Nat.reduceLT, Nat.reduceLeDiff, fsv, I])) ?_
  rw [ha]
  (repeat' (first | with_reducible refine splitVC_d (fun _ => ?_) (fun _ => ?_) | ((with_reducible refine And.intro ?_ ?_); focus (first | exact True.intro | omega | (simp only [InK, ne_eq, and_true, true_and]; omega) | trivial)) | (simp -dsimp only [↓RP, RQ, implies_true, forall_const, Nat.reduceMul, reduceIte, reduceCtorEq, Nat.reduceAdd, Nat.reduceEqDiff, Nat.reduceLT, Nat.reduceLeDiff, fsv, B, I, by2, RZ, eq_self, TY, Try.results18])))
  refine callVC (c63s r (by omega) (by omega) (by omega) (by omega) step h1 h2) (by (simp -dsimp only [↓RP, RQ, implies_true, forall_const, Nat.reduceMul, reduceIte, reduceCtorEq, Nat.reduceAdd, Nat.reduceEqDiff, Nat.reduceLT, Nat.reduceLeDiff, fsv, Go.Od.ints, I, B]); all_goals (try simp)) (by (simp -dsimp only [↓RP, RQ, implies_true, forall_const, Nat.reduceMul, reduceIte, reduceCtorEq, Nat.reduceAdd, Nat.reduceEqDiff, Nat.reduceLT, Nat.reduceLeDiff, fsv, I])) ?_
  generalize (nb r step).1 = lo at *
  generalize (nb r step).2 = hi at *
  unfold midV
  have m1 := mul_in lo.n hi.d 100000 100 (by omega) (by omega) (by omega) (by omega)
  have m2 := mul_in hi.n lo.d 100100 100 (by omega) (by omega) (by omega) (by omega)
  have m3 := mul_in (2 * lo.d) hi.d 200 100 (by omega) (by omega) (by omega) (by omega)
  have m4 := mul_in (lo.n * hi.d + hi.n * lo.d) r.d 20010000 1000000 (by omega) (by omega) (by omega) (by omega)
  have m5 := mul_in r.n (2 * lo.d * hi.d) 1000000000 20000 (by omega) (by omega) (by omega) (by omega)
  (repeat' (first | with_reducible refine splitVC_d (fun _ => ?_) (fun _ => ?_) | ((with_reducible refine And.intro ?_ ?_); focus (first | exact True.intro | omega | (simp only [InK, ne_eq, and_true, true_and]; omega) | trivial)) | (simp -dsimp only [↓RP, RQ, implies_true, forall_const, Nat.reduceMul, reduceIte, reduceCtorEq, Nat.reduceAdd, Nat.reduceEqDiff, Nat.reduceLT, Nat.reduceLeDiff, fsv, B, I, by2, RZ, eq_self, TY, Try.results18])))
  refine callVC (c66 ⟨lo.n * hi.d + hi.n * lo.d, 2 * lo.d * hi.d⟩ r (by simp only [InK]; omega) (by simp only [InK]; omega)) (by (simp -dsimp only [↓RP, RQ, implies_true, forall_const, Nat.reduceMul, reduceIte, reduceCtorEq, Nat.reduceAdd, Nat.reduceEqDiff, Nat.reduceLT, Nat.reduceLeDiff, fsv, Go.Od.ints, I, B]); all_goals (try simp)) (by (simp -dsimp only [↓RP, RQ, implies_true, forall_const, Nat.reduceMul, reduceIte, reduceCtorEq, Nat.reduceAdd, Nat.reduceEqDiff, Nat.reduceLT, Nat.reduceLeDiff, B])) ?_
  (repeat' (first | with_reducible refine splitVC_d (fun _ => ?_) (fun _ => ?_) | ((with_reducible refine And.intro ?_ ?_); focus (first | exact True.intro | omega | (simp only [InK, ne_eq, and_true, true_and]; omega) | trivial)) | (simp -dsimp only [↓RP, RQ, implies_true, forall_const, Nat.reduceMul, reduceIte, reduceCtorEq, Nat.reduceAdd, Nat.reduceEqDiff, Nat.reduceLT, Nat.reduceLeDiff, fsv, B, I, by2, RZ, eq_self, TY, Try.results18])))
  ·rename_i hl
   rw [if_pos hl]
   all_goals first | exact ⟨rfl, rfl⟩ | exact ⟨⟨rfl, rfl⟩, rfl⟩ | exact rfl | skip
  ·rename_i hl
   rw [if_neg hl]
   all_goals first | exact ⟨rfl, rfl⟩ | exact ⟨⟨rfl, rfl⟩, rfl⟩ | exact rfl | skip
 ·rw [rndV_no ha]
  conv => arg 4; unfold fsv I
  (repeat' (first | with_reducible refine splitVC_d (fun _ => ?_) (fun _ => ?_) | ((with_reducible refine And.intro ?_ ?_); focus (first | exact True.intro | omega | (simp only [InK, ne_eq, and_true, true_and]; omega) | trivial)) | (simp -dsimp only [↓RP, RQ, implies_true, forall_const, Nat.reduceMul, reduceIte, reduceCtorEq, Nat.reduceAdd, Nat.reduceEqDiff, Nat.reduceLT, Nat.reduceLeDiff, fsv, B, I, by2, RZ, eq_self, TY, Try.results18])))
  refine callVC (c62 r step) (by (simp -dsimp only [↓RP, RQ, implies_true, forall_const, Nat.reduceMul, reduceIte, reduceCtorEq, Nat.reduceAdd, Nat.reduceEqDiff, Nat.reduceLT, Nat.reduceLeDiff, fsv, Go.Od.ints, I, B]); all_goals (try simp)) (by (simp -dsimp only [↓RP, RQ, implies_true, forall_const, Nat.reduceMul, reduceIte, reduceCtorEq, Nat.reduceAdd, Nat.reduceEqDiff, Nat.reduceLT, Nat.reduceLeDiff, fsv, I])) ?_
  (repeat' (first | with_reducible refine splitVC_d (fun _ => ?_) (fun _ => ?_) | ((with_reducible refine And.intro ?_ ?_); focus (first | exact True.intro | omega | (simp only [InK, ne_eq, and_true, true_and]; omega) | trivial)) | (simp -dsimp only [↓RP, RQ, implies_true, forall_const, Nat.reduceMul, reduceIte, reduceCtorEq, Nat.reduceAdd, Nat.reduceEqDiff, Nat.reduceLT, Nat.reduceLeDiff, fsv, B, I, by2, RZ, eq_self, TY, Try.results18])))
  all_goals first | (exfalso; omega) | skip
end Go.Od
end
section
set_option linter.unusedSimpArgs false
set_option linter.unusedVariables false
set_option linter.defProp false
set_option maxRecDepth 100000
set_option maxHeartbeats 16000000
namespace Go.Od
open Go.Proofs
open Go.Sx
theorem c20 (r : Fr) (step : Int) (lo hi : Fr) : Contract Try.prog 20 [fsv r, I step, fsv lo, fsv hi] (I (ckV r step lo hi)) := by
 refine contract_of Try.func20 rfl (by kernel_rfl) follows (by kernel_rfl) _ _ (by rw [Try.ntmps20]; simp) (by simp only [OldL, fsv_old, and_self, true_and]; simp [Old, I]) ?_
 by_cases ha : askV r step = 0
 ·have ⟨hf, h1, h2⟩ := ask_iff.1 ha
  have b := isF_bd hf
  conv => arg 4; unfold fsv I
  (repeat' (first | with_reducible refine splitVC_d (fun _ => ?_) (fun _ => ?_) | ((with_reducible refine And.intro ?_ ?_); focus (first | exact True.intro | omega | (simp only [InK, ne_eq, and_true, true_and]; omega) | trivial)) | (simp -dsimp only [↓RP, RQ, implies_true, forall_const, Nat.reduceMul, reduceIte, reduceCtorEq, Nat.reduceAdd, Nat.reduceEqDiff, Nat.reduceLT, Nat.reduceLeDiff, fsv, B, I, by2, RZ, eq_self, TY, Try.results20])))
  refine callVC (c62 r step) (by (simp -dsimp only [↓RP, RQ, implies_true, forall_const, Nat.reduceMul, reduceIte, reduceCtorEq, Nat.reduceAdd, Nat.reduceEqDiff, Nat.reduceLT, Nat.reduceLeDiff, fsv, Go.Od.ints, I, B]); all_goals (try simp)) (by (simp -dsimp only [↓RP, RQ, implies_true, forall_const, Nat.reduceMul, reduceIte, reduceCtorEq, Nat.reduceAdd, Nat.reduceEqDiff, Nat.reduceLT, Nat.reduceLeDiff, fsv, I])) ?_
  rw [ha]
  (repeat' (first | with_reducible refine splitVC_d (fun _ => ?_) (fun _ => ?_) | ((with_reducible refine And.intro ?_ ?_); focus (first | exact True.intro | omega | (simp only [InK, ne_eq, and_true, true_and]; omega) | trivial)) | (simp -dsimp only [↓RP, RQ, implies_true, forall_const, Nat.reduceMul, reduceIte, reduceCtorEq, Nat.reduceAdd, Nat.reduceEqDiff, Nat.reduceLT, Nat.reduceLeDiff, fsv, B, I, by2, RZ, eq_self, TY, Try.results20])))
  all_goals first | (exfalso; omega) | skip
  refine callVC (c67_2 lo.d hi.d 1 step) (by (simp -dsimp only [↓RP, RQ, implies_true, forall_const, Nat.reduceMul, reduceIte, reduceCtorEq, Nat.reduceAdd, Nat.reduceEqDiff, Nat.reduceLT, Nat.reduceLeDiff, Go.Od.ints, I]); all_goals (try simp); all_goals (try exact lit2 _ _)) (by (simp -dsimp only [↓RP, RQ, implies_true, forall_const, Nat.reduceMul, reduceIte, reduceCtorEq, Nat.reduceAdd, Nat.reduceEqDiff, Nat.reduceLT, Nat.reduceLeDiff, B])) ?_
  (repeat' (first | with_reducible refine splitVC_d (fun _ => ?_) (fun _ => ?_) | ((with_reducible refine And.intro ?_ ?_); focus (first | exact True.intro | omega | (simp only [InK, ne_eq, and_true, true_and]; omega) | trivial)) | (simp -dsimp only [↓RP, RQ, implies_true, forall_const, Nat.reduceMul, reduceIte, reduceCtorEq, Nat.reduceAdd, Nat.reduceEqDiff, Nat.reduceLT, Nat.reduceLeDiff, fsv, B, I, by2, RZ, eq_self, TY, Try.results20])))
  rotate_left
  ·(first | (refine I_eq (ckV_14 ha fun h1 h2 => ?_); exact h2.1 (by assumption)) | (refine I_eq (ckV_14 ha fun h1 h2 => ?_); exact absurd h2.2.1 (by assumption)) | (refine I_eq (ckV_14 ha fun h1 h2 => ?_); unfold ckF ckP at *; omega) | (refine I_eq (ckV_14 ha fun h1 h2 => ?_); have := ckV_small hf.2.2 (by omega) h2.1 h1.1.1.1 h1.1.1.2; omega) | skip)
  rename_i g1
  refine callVC (c67_2 lo.n hi.n 0 (1001 * step)) (by (simp -dsimp only [↓RP, RQ, implies_true, forall_const, Nat.reduceMul, reduceIte, reduceCtorEq, Nat.reduceAdd, Nat.reduceEqDiff, Nat.reduceLT, Nat.reduceLeDiff, Go.Od.ints, I]); all_goals (try simp); all_goals (try exact lit2 _ _)) (by (simp -dsimp only [↓RP, RQ, implies_true, forall_const, Nat.reduceMul, reduceIte, reduceCtorEq, Nat.reduceAdd, Nat.reduceEqDiff, Nat.reduceLT, Nat.reduceLeDiff, B])) ?_
  (repeat' (first | with_reducible refine splitVC_d (fun _ => ?_) (fun _ => ?_) | ((with_reducible refine And.intro ?_ ?_); focus (first | exact True.intro | omega | (simp only [InK, ne_eq, and_true, true_and]; omega) | trivial)) | (simp -dsimp only [↓RP, RQ, implies_true, forall_const, Nat.reduceMul, reduceIte, reduceCtorEq, Nat.reduceAdd, Nat.reduceEqDiff, Nat.reduceLT, Nat.reduceLeDiff, fsv, B, I, by2, RZ, eq_self, TY, Try.results20])))
  rotate_left
  ·(first | (refine I_eq (ckV_14 ha fun h1 h2 => ?_); exact h2.1 (by assumption)) | (refine I_eq (ckV_14 ha fun h1 h2 => ?_); exact absurd h2.2.1 (by assumption)) | (refine I_eq (ckV_14 ha fun h1 h2 => ?_); unfold ckF ckP at *; omega) | (refine I_eq (ckV_14 ha fun h1 h2 => ?_); have := ckV_small hf.2.2 (by omega) h2.1 h1.1.1.1 h1.1.1.2; omega) | skip)
  rename_i g2
  have m1 := mul_in lo.n r.d 100100 1000000 (by omega) (by omega) (by omega) (by omega)
  have m2 := mul_in r.n lo.d 1000000000 100 (by omega) (by omega) (by omega) (by omega)
  have m3 := mul_in hi.n r.d 100100 1000000 (by omega) (by omega) (by omega) (by omega)
  have m4 := mul_in r.n hi.d 1000000000 100 (by omega) (by omega) (by omega) (by omega)
  have m5 := mul_in hi.n lo.d 100100 100 (by omega) (by omega) (by omega) (by omega)
  have m6 := mul_in lo.n hi.d 100100 100 (by omega) (by omega) (by omega) (by omega)
  refine callVC (c66 r lo (by simp only [InK]; omega) (by simp only [InK]; omega)) (by (simp -dsimp only [↓RP, RQ, implies_true, forall_const, Nat.reduceMul, reduceIte, reduceCtorEq, Nat.reduceAdd, Nat.reduceEqDiff, Nat.reduceLT, Nat.reduceLeDiff, fsv, Go.Od.ints, I, B]); all_goals (try simp)) (by (simp -dsimp only [↓RP, RQ, implies_true, forall_const, Nat.reduceMul, reduceIte, reduceCtorEq, Nat.reduceAdd, Nat.reduceEqDiff, Nat.reduceLT, Nat.reduceLeDiff, B])) ?_
  (repeat' (first | with_reducible refine splitVC_d (fun _ => ?_) (fun _ => ?_) | ((with_reducible refine And.intro ?_ ?_); focus (first | exact True.intro | omega | (simp only [InK, ne_eq, and_true, true_and]; omega) | trivial)) | (simp -dsimp only [↓RP, RQ, implies_true, forall_const, Nat.reduceMul, reduceIte, reduceCtorEq, Nat.reduceAdd, Nat.reduceEqDiff, Nat.reduceLT, Nat.reduceLeDiff, fsv, B, I, by2, RZ, eq_self, TY, Try.results20])))
  ·(first | (refine I_eq (ckV_14 ha fun h1 h2 => ?_); exact h2.1 (by assumption)) | (refine I_eq (ckV_14 ha fun h1 h2 => ?_); exact absurd h2.2.1 (by assumption)) | (refine I_eq (ckV_14 ha fun h1 h2 => ?_); unfold ckF ckP at *; omega) | (refine I_eq (ckV_14 ha fun h1 h2 => ?_); have := ckV_small hf.2.2 (by omega) h2.1 h1.1.1.1 h1.1.1.2; omega) | skip)
  rename_i g3
  refine callVC (c66 r hi (by simp only [InK]; omega) (by simp only [InK]; omega)) (by (simp -dsimp only [↓RP, RQ, implies_true, forall_const, Nat.reduceMul, reduceIte, reduceCtorEq, Nat.reduceAdd, Nat.reduceEqDiff, Nat.reduceLT, Nat.reduceLeDiff, fsv, Go.Od.ints, I, B]); all_goals (try simp)) (by (simp -dsimp only [↓RP, RQ, implies_true, forall_const, Nat.reduceMul, reduceIte, reduceCtorEq, Nat.reduceAdd, Nat.reduceEqDiff, Nat.reduceLT, Nat.reduceLeDiff, B])) ?_
  (repeat' (first | with_reducible refine splitVC_d (fun _ => ?_) (fun _ => ?_) | ((with_reducible refine And.intro ?_ ?_); focus (first | exact True.intro | omega | (simp only [InK, ne_eq, and_true, true_and]; omega) | trivial)) | (simp -dsimp only [↓RP, RQ, implies_true, forall_const, Nat.reduceMul, reduceIte, reduceCtorEq, Nat.reduceAdd, Nat.reduceEqDiff, Nat.reduceLT, Nat.reduceLeDiff, fsv, B, I, by2, RZ, eq_self, TY, Try.results20])))
  all_goals (first | (refine I_eq (ckV_14 ha fun h1 h2 => ?_); exact h2.1 (by assumption)) | (refine I_eq (ckV_14 ha fun h1 h2 => ?_); exact absurd h2.2.1 (by assumption)) | (refine I_eq (ckV_14 ha fun h1 h2 => ?_); unfold ckF ckP at *; omega) | (refine I_eq (ckV_14 ha fun h1 h2 => ?_); have := ckV_small hf.2.2 (by omega) h2.1 h1.1.1.1 h1.1.1.2; omega) | skip)
  all_goals exact I_eq (ckV_0 ha (by unfold ckF; omega) ⟨g3, by assumption, by omega, by omega⟩)
 ·conv => arg 4; unfold fsv I
  (repeat' (first | with_reducible refine splitVC_d (fun _ => ?_) (fun _ => ?_) | ((with_reducible refine And.intro ?_ ?_); focus (first | exact True.intro | omega | (simp only [InK, ne_eq, and_true, true_and]; omega) | trivial)) | (simp -dsimp only [↓RP, RQ, implies_true, forall_const, Nat.reduceMul, reduceIte, reduceCtorEq, Nat.reduceAdd, Nat.reduceEqDiff, Nat.reduceLT, Nat.reduceLeDiff, fsv, B, I, by2, RZ, eq_self, TY, Try.results20])))
  refine callVC (c62 r step) (by (simp -dsimp only [↓RP, RQ, implies_true, forall_const, Nat.reduceMul, reduceIte, reduceCtorEq, Nat.reduceAdd, Nat.reduceEqDiff, Nat.reduceLT, Nat.reduceLeDiff, fsv, Go.Od.ints, I, B]); all_goals (try simp)) (by (simp -dsimp only [↓RP, RQ, implies_true, forall_const, Nat.reduceMul, reduceIte, reduceCtorEq, Nat.reduceAdd, Nat.reduceEqDiff, Nat.reduceLT, Nat.reduceLeDiff, fsv, I])) ?_
  (repeat' (first | with_reducible refine splitVC_d (fun _ => ?_) (fun _ => ?_) | ((with_reducible refine And.intro ?_ ?_); focus (first | exact True.intro | omega | (simp only [InK, ne_eq, and_true, true_and]; omega) | trivial)) | (simp -dsimp only [↓RP, RQ, implies_true, forall_const, Nat.reduceMul, reduceIte, reduceCtorEq, Nat.reduceAdd, Nat.reduceEqDiff, Nat.reduceLT, Nat.reduceLeDiff, fsv, B, I, by2, RZ, eq_self, TY, Try.results20])))
  all_goals first | (exfalso; omega) | skip
  all_goals exact I_eq (ckV_no ha)
end Go.Od
end
section
set_option linter.unusedSimpArgs false
set_option linter.unusedVariables false
set_option linter.defProp false
set_option maxRecDepth 100000
set_option maxHeartbeats 16000000
namespace Go.Od
open Go.Proofs
open Go.Sx
def shV (r : Fr) (s : Int) : Fr := if lt ⟨1000, 1⟩ r then ⟨1000, 1⟩ else (nb r s).1
theorem shV_hi {r : Fr} {s : Int} (h : lt ⟨1000, 1⟩ r) : shV r s = ⟨1000, 1⟩ := by unfold shV; rw [if_pos h]
theorem shV_lo {r : Fr} {s : Int} (h : ¬ lt ⟨1000, 1⟩ r) : shV r s = (nb r s).1 := by unfold shV; rw [if_neg h]
theorem c74 (r : Fr) (hn : 0 ≤ r.n) (hn2 : r.n ≤ 100000000000) (hd : 0 < r.d) (hd2 : r.d ≤ 100000000000) (s : Int) (h1 : 1 ≤ s) (h2 : s ≤ 100) : Contract Try.prog 74 [fsv r, I s] (fsv (shV r s)) := by
 refine contract_of Try.func74 rfl (by kernel_rfl) follows (by kernel_rfl) _ _ (by rw [Try.ntmps74]; simp) (by simp only [OldL, fsv_old, and_self, true_and]; simp [Old, I]) ?_
 conv => arg 4; unfold fsv I
 (repeat' (first | with_reducible refine splitVC_d (fun _ => ?_) (fun _ => ?_) | ((with_reducible refine And.intro ?_ ?_); focus (first | exact True.intro | omega | (simp only [InK, ne_eq, and_true, true_and]; omega) | trivial)) | (simp -dsimp only [↓RP, RQ, implies_true, forall_const, Nat.reduceMul, reduceIte, reduceCtorEq, Nat.reduceAdd, Nat.reduceEqDiff, Nat.reduceLT, Nat.reduceLeDiff, fsv, B, I, by2, RZ, eq_self, TY, Try.results74])))
 refine callVC (c66 ⟨1000, 1⟩ r (by simp only [InK]; omega) (by simp only [InK]; omega)) (by (simp -dsimp only [↓RP, RQ, implies_true, forall_const, Nat.reduceMul, reduceIte, reduceCtorEq, Nat.reduceAdd, Nat.reduceEqDiff, Nat.reduceLT, Nat.reduceLeDiff, fsv, Go.Od.ints, I, B]); all_goals (try simp)) (by (simp -dsimp only [↓RP, RQ, implies_true, forall_const, Nat.reduceMul, reduceIte, reduceCtorEq, Nat.reduceAdd, Nat.reduceEqDiff, Nat.reduceLT, Nat.reduceLeDiff, B])) ?_
 (repeat' (first | with_reducible refine splitVC_d (fun _ => ?_) (fun _ => ?_) | ((with_reducible refine And.intro ?_ ?_); focus (first | exact True.intro | omega | (simp only [InK, ne_eq, and_true, true_and]; omega) | trivial)) | (simp -dsimp only [↓RP, RQ, implies_true, forall_const, Nat.reduceMul, reduceIte, reduceCtorEq, Nat.reduceAdd, Nat.reduceEqDiff, Nat.reduceLT, Nat.reduceLeDiff, fsv, B, I, by2, RZ, eq_self, TY, Try.results74])))
 all_goals first | (exfalso; omega) | skip
 ·rename_i h
  rw [shV_hi (h)]
  all_goals first | exact ⟨rfl, rfl⟩ | exact ⟨⟨rfl, rfl⟩, rfl⟩ | exact rfl | skip
 ·rename_i h
  rw [shV_lo (h)]
  refine callVC (c63s r hn hn2 hd hd2 s h1 h2) (by (simp -dsimp only [↓RP, RQ, implies_true, forall_const, Nat.reduceMul, reduceIte, reduceCtorEq, Nat.reduceAdd, Nat.reduceEqDiff, Nat.reduceLT, Nat.reduceLeDiff, fsv, Go.Od.ints, I, B]); all_goals (try simp)) (by (simp -dsimp only [↓RP, RQ, implies_true, forall_const, Nat.reduceMul, reduceIte, reduceCtorEq, Nat.reduceAdd, Nat.reduceEqDiff, Nat.reduceLT, Nat.reduceLeDiff, fsv, I])) ?_
  (repeat' (first | with_reducible refine splitVC_d (fun _ => ?_) (fun _ => ?_) | ((with_reducible refine And.intro ?_ ?_); focus (first | exact True.intro | omega | (simp only [InK, ne_eq, and_true, true_and]; omega) | trivial)) | (simp -dsimp only [↓RP, RQ, implies_true, forall_const, Nat.reduceMul, reduceIte, reduceCtorEq, Nat.reduceAdd, Nat.reduceEqDiff, Nat.reduceLT, Nat.reduceLeDiff, fsv, B, I, by2, RZ, eq_self, TY, Try.results74])))
  all_goals first | exact ⟨rfl, rfl⟩ | exact ⟨⟨rfl, rfl⟩, rfl⟩ | exact rfl | skip
end Go.Od
end
