/- A part of the proof. -/
import Derived.Test.YtbomildlhnllhaaOG
section
set_option linter.unusedSimpArgs false
set_option linter.unusedVariables false
set_option linter.defProp false
set_option maxRecDepth 100000
set_option maxHeartbeats 16000000
namespace Go.Od
open Go.Proofs
open Go.Sx
def sz (q : Nat → Qt) (n : Nat) : Nat := ((q n).d + (q n).n).toNat
def aL (q : Nat → Qt) (l : List Nat) : Nat → Nat
 | 0 => 1
 | k + 1 => Nat.lcm (aL q l k) (sz q (l.getD k 0))
def stR (q : Nat → Qt) (l : List Nat) (A : Nat) : Nat → Nat → Int
 | 0, _ => 0
 | k + 1, i => if i = l.getD k 0 then (A : Int).tdiv ((q i).d + (q i).n) * (q i).d else stR q l A k i
theorem lcm_form (a s : Nat) : a / Nat.gcd a s * s = Nat.lcm a s := by
 unfold Nat.lcm
 rw [Nat.div_mul_right_comm (Nat.gcd_dvd_left a s)]
theorem aL_bd {q : Nat → Qt} {l : List Nat} {m : Nat} (hq : okO q m) (hl : ∀ n, n ∈ l → n < m) : ∀ k, k ≤ l.length → 1 ≤ aL q l k ∧ (aL q l k : Int) ≤ pw k
 | 0, _ => ⟨Nat.le_refl 1, Int.le_refl 1⟩
 | k + 1, h => by
  have ⟨h1, h2⟩ := aL_bd hq hl k (by omega)
  have hm : l.getD k 0 ∈ l := by
   rw [List.getD_eq_getElem?_getD, List.getElem?_eq_getElem (show k < l.length by omega)]
   exact List.getElem_mem _
  have hs := hq _ (hl _ hm)
  have s1 : 1 ≤ sz q (l.getD k 0) := by unfold sz; omega
  have s2 : sz q (l.getD k 0) ≤ 200 := by unfold sz; omega
  simp only [aL, pw]
  have hp : 0 < Nat.lcm (aL q l k) (sz q (l.getD k 0)) := Nat.lcm_pos (by omega) (by omega)
  have hle : Nat.lcm (aL q l k) (sz q (l.getD k 0)) ≤ aL q l k * sz q (l.getD k 0) := Nat.le_of_dvd (Nat.mul_pos (by omega) (by omega)) (Nat.lcm_dvd (Nat.dvd_mul_right _ _) (Nat.dvd_mul_left _ _))
  have hle2 : aL q l k * sz q (l.getD k 0) ≤ aL q l k * 200 := Nat.mul_le_mul_left _ s2
  omega
theorem by_lt {q : Nat → Qt} {r : Int} {l : Bool} {n : Nat} : ∀ {i : Nat}, byS q r l i = some n → n < i
 | 0, h => by cases h
 | i + 1, h => by
  simp only [byS] at h
  split at h
  ·cases h; omega
  ·have := by_lt h; omega
theorem pk_lt {M : Mk} {lay : Bool} : ∀ {r n : Nat}, n ∈ pk M lay r → n < M.m
 | 0, n, h => by cases h
 | r + 1, n, h => by
  cases hb : byS M.q r lay M.m with
  | none => rw [pk_none hb] at h; exact pk_lt h
  | some x =>
   rw [pk_some hb, List.mem_append, List.mem_singleton] at h
   rcases h with h | rfl
   ·exact pk_lt h
   ·exact by_lt hb
theorem sure_ok {M : Mk} (hf : M.Fine) {l : List Nat} (h : sureV M = some l) : (∀ n, n ∈ l → n < M.m) ∧ l.length ≤ 5 := by
 have hr5 := hf.r5
 have hr1 := hf.r1
 unfold sureV at h
 split at h
 ·rename_i hF
  cases h
  obtain ⟨r0, _, f2, f3, f4⟩ := fstI_ge hF
  have ⟨⟨n1, b1⟩, n2, b2⟩ := cross_by hf f4
  rw [f3, Int.toNat_natCast]
  refine ⟨fun n hn => ?_, by show 2 ≤ 5; decide⟩
  simp only [List.mem_cons, List.not_mem_nil, or_false] at hn
  unfold byN at hn
  rw [b1, b2] at hn
  rcases hn with rfl | rfl
  ·exact by_lt b1
  ·exact by_lt b2
 ·split at h
  ·cases h
   exact ⟨fun n hn => pk_lt hn, Nat.le_trans (pk_len M true _) (by omega)⟩
  ·split at h
   ·cases h
    exact ⟨fun n hn => pk_lt hn, Nat.le_trans (pk_len M false _) (by omega)⟩
   ·cases h
theorem tdN (a b : Nat) : (a : Int).tdiv (b : Int) = ((a / b : Nat) : Int) := rfl
theorem stR_row {q : Nat → Qt} {l : List Nat} {A k n m : Nat} {v : Int} (kf : ∀ i, stR q l A (k + 1) i = if i = n then (A : Int).tdiv ((q i).d + (q i).n) * (q i).d else stR q l A k i) (ev : (A : Int).tdiv ((q n).d + (q n).n) = v) : ∀ i, i < m → (if i = n then SV.val (.int .i64 (v * (q n).d)) else SV.val (.int .i64 (stR q l A k i))) = SV.val (.int .i64 (if i = n then (A : Int) / ((q i).d + (q i).n) * (q i).d else stR q l A k i)) := by
 intro i _
 by_cases h : i = n
 ·rw [if_pos h, if_pos h, ← ev, h, Int.tdiv_eq_ediv_of_nonneg (Int.natCast_nonneg _)]
 ·rw [if_neg h, if_neg h]
abbrev nilV : SV := .val (.slice none 0 0)
theorem c39e (M : Mk) (he : ¬ M.err = 0) : Contract Try.prog 39 [M.sv] (.tup [nilV, I M.err]) := by
 refine contract_of Try.func39 rfl (by kernel_rfl) follows (by kernel_rfl) _ _ (by rw [Try.ntmps39]; simp) (by simp only [OldL, Mk.old, and_self]) ?_
 conv => arg 4; unfold Mk.sv qts I
 (repeat' (first | with_reducible refine splitVC_d (fun _ => ?_) (fun _ => ?_) | with_reducible refine splitVC (fun _ => ?_) (fun _ => ?_) | ((with_reducible refine And.intro ?_ ?_); focus (first | exact True.intro | omega | (simp only [InK, ne_eq, and_true, true_and]; omega) | exact ⟨Nat.le_refl _, rfl⟩ | trivial)) | (simp -dsimp only [↓RP, RQ, implies_true, forall_const, Nat.reduceMul, reduceIte, reduceCtorEq, Nat.reduceAdd, Nat.reduceEqDiff, Nat.reduceLT, Nat.reduceLeDiff, I, TYm, TYn, TYw, QF, fsv, B, by2, RZ, eq_self, TY, Try.results39])))
 refine callVC (c35 M) (by (simp -dsimp only [↓RP, RQ, implies_true, forall_const, Nat.reduceMul, reduceIte, reduceCtorEq, Nat.reduceAdd, Nat.reduceEqDiff, Nat.reduceLT, Nat.reduceLeDiff, Mk.sv, qts, I]); all_goals (try simp [sub_q])) (by (simp -dsimp only [↓RP, RQ, implies_true, forall_const, Nat.reduceMul, reduceIte, reduceCtorEq, Nat.reduceAdd, Nat.reduceEqDiff, Nat.reduceLT, Nat.reduceLeDiff, fsv, I])) ?_
 (repeat' (first | with_reducible refine splitVC_d (fun _ => ?_) (fun _ => ?_) | with_reducible refine splitVC (fun _ => ?_) (fun _ => ?_) | ((with_reducible refine And.intro ?_ ?_); focus (first | exact True.intro | omega | (simp only [InK, ne_eq, and_true, true_and]; omega) | exact ⟨Nat.le_refl _, rfl⟩ | trivial)) | (simp -dsimp only [↓RP, RQ, implies_true, forall_const, Nat.reduceMul, reduceIte, reduceCtorEq, Nat.reduceAdd, Nat.reduceEqDiff, Nat.reduceLT, Nat.reduceLeDiff, I, TYm, TYn, TYw, QF, fsv, B, by2, RZ, eq_self, TY, Try.results39])))
 all_goals first | (exfalso; omega) | skip
 all_goals first | exact ⟨rfl, rfl⟩ | exact ⟨⟨rfl, rfl⟩, ⟨rfl, rfl⟩⟩ | exact ⟨⟨rfl, rfl⟩, rfl⟩ | exact ⟨⟨rfl, rfl⟩, ⟨rfl, rfl⟩, rfl⟩ | skip
theorem c39n (M : Mk) (hf : M.Fine) (hs : sureV M = none) : Contract Try.prog 39 [M.sv] (.tup [nilV, I 5]) := by
 refine contract_of Try.func39 rfl (by kernel_rfl) follows (by kernel_rfl) _ _ (by rw [Try.ntmps39]; simp) (by simp only [OldL, Mk.old, and_self]) ?_
 conv => arg 4; unfold Mk.sv qts I
 (repeat' (first | with_reducible refine splitVC_d (fun _ => ?_) (fun _ => ?_) | with_reducible refine splitVC (fun _ => ?_) (fun _ => ?_) | ((with_reducible refine And.intro ?_ ?_); focus (first | exact True.intro | omega | (simp only [InK, ne_eq, and_true, true_and]; omega) | exact ⟨Nat.le_refl _, rfl⟩ | trivial)) | (simp -dsimp only [↓RP, RQ, implies_true, forall_const, Nat.reduceMul, reduceIte, reduceCtorEq, Nat.reduceAdd, Nat.reduceEqDiff, Nat.reduceLT, Nat.reduceLeDiff, I, TYm, TYn, TYw, QF, fsv, B, by2, RZ, eq_self, TY, Try.results39])))
 refine callVC (c35 M) (by (simp -dsimp only [↓RP, RQ, implies_true, forall_const, Nat.reduceMul, reduceIte, reduceCtorEq, Nat.reduceAdd, Nat.reduceEqDiff, Nat.reduceLT, Nat.reduceLeDiff, Mk.sv, qts, I]); all_goals (try simp [sub_q])) (by (simp -dsimp only [↓RP, RQ, implies_true, forall_const, Nat.reduceMul, reduceIte, reduceCtorEq, Nat.reduceAdd, Nat.reduceEqDiff, Nat.reduceLT, Nat.reduceLeDiff, fsv, I])) ?_
 rw [Mk.Fine.err hf]
 (repeat' (first | with_reducible refine splitVC_d (fun _ => ?_) (fun _ => ?_) | with_reducible refine splitVC (fun _ => ?_) (fun _ => ?_) | ((with_reducible refine And.intro ?_ ?_); focus (first | exact True.intro | omega | (simp only [InK, ne_eq, and_true, true_and]; omega) | exact ⟨Nat.le_refl _, rfl⟩ | trivial)) | (simp -dsimp only [↓RP, RQ, implies_true, forall_const, Nat.reduceMul, reduceIte, reduceCtorEq, Nat.reduceAdd, Nat.reduceEqDiff, Nat.reduceLT, Nat.reduceLeDiff, I, TYm, TYn, TYw, QF, fsv, B, by2, RZ, eq_self, TY, Try.results39])))
 all_goals first | (exfalso; omega) | skip
 refine callE (by rfl) (e85 M hf _ _ (Under.nil.cons (by omega))) fun hp' nid' res ⟨q1, q2, q3⟩ => ?_
 subst q1 q3
 have NB := nbF q2
 have NB2 := nbG q2
 have NB3 : True := trivial
 (repeat' (first | with_reducible refine splitVC_d (fun _ => ?_) (fun _ => ?_) | with_reducible refine splitVC (fun _ => ?_) (fun _ => ?_) | ((with_reducible refine And.intro ?_ ?_); focus (first | exact True.intro | omega | (simp only [InK, ne_eq, and_true, true_and]; omega) | trivial)) | (simp -dsimp only [↓RP, RQ, implies_true, forall_const, Nat.reduceMul, reduceIte, reduceCtorEq, Nat.reduceAdd, Nat.reduceEqDiff, Nat.reduceLT, Nat.reduceLeDiff, NB, NB2, NB3, Nat.add_zero, Nat.add_assoc, self_F1, self_F2, TYn, TYm, TYw, QF, fsv, B, I, by2, RZ, eq_self, TY, Try.results39])))
 refine callE (by rfl) (e86 M hf _ _ _ _ (by omega) (by omega) (by omega) ((Under.nil.cons (by omega)).cons (by omega)) (by simp [blk]) (by simp [blk])) fun hp' nid2 res ⟨q4, q5⟩ => ?_
 rw [hs] at q5
 obtain ⟨q5, q6⟩ := q5
 subst q5 q6
 (repeat' (first | with_reducible refine splitVC_d (fun _ => ?_) (fun _ => ?_) | with_reducible refine splitVC (fun _ => ?_) (fun _ => ?_) | ((with_reducible refine And.intro ?_ ?_); focus (first | exact True.intro | omega | (simp only [InK, ne_eq, and_true, true_and]; omega) | trivial)) | (simp -dsimp only [↓RP, RQ, implies_true, forall_const, Nat.reduceMul, reduceIte, reduceCtorEq, Nat.reduceAdd, Nat.reduceEqDiff, Nat.reduceLT, Nat.reduceLeDiff, B, I, NB, NB2, NB3, Nat.add_zero, Nat.add_assoc, self_F1, self_F2, TYn, TYm, TYw, QF, fsv, by2, RZ, eq_self, TY, Try.results39])))
 all_goals first | exact ⟨rfl, rfl⟩ | exact ⟨⟨rfl, rfl⟩, ⟨rfl, rfl⟩⟩ | exact ⟨⟨rfl, rfl⟩, rfl⟩ | exact ⟨⟨rfl, rfl⟩, ⟨rfl, rfl⟩, rfl⟩ | skip
theorem c39s (M : Mk) (hf : M.Fine) (l : List Nat) (hs : sureV M = some l) : Contract Try.prog 39 [M.sv] (.tup [.arr true false M.m 1 (fun i _ => .val (.int .i64 (stR M.q l (aL M.q l l.length) l.length i))), I 0]) := by
 refine contract_of Try.func39 rfl (by kernel_rfl) follows (by kernel_rfl) _ _ (by rw [Try.ntmps39]; simp) (by simp only [OldL, Mk.old, and_self]) ?_
 conv => arg 4; unfold Mk.sv qts I
 (repeat' (first | with_reducible refine splitVC_d (fun _ => ?_) (fun _ => ?_) | with_reducible refine splitVC (fun _ => ?_) (fun _ => ?_) | ((with_reducible refine And.intro ?_ ?_); focus (first | exact True.intro | omega | (simp only [InK, ne_eq, and_true, true_and]; omega) | exact ⟨Nat.le_refl _, rfl⟩ | trivial)) | (simp -dsimp only [↓RP, RQ, implies_true, forall_const, Nat.reduceMul, reduceIte, reduceCtorEq, Nat.reduceAdd, Nat.reduceEqDiff, Nat.reduceLT, Nat.reduceLeDiff, I, TYm, TYn, TYw, QF, fsv, B, by2, RZ, eq_self, TY, Try.results39])))
 refine callVC (c35 M) (by (simp -dsimp only [↓RP, RQ, implies_true, forall_const, Nat.reduceMul, reduceIte, reduceCtorEq, Nat.reduceAdd, Nat.reduceEqDiff, Nat.reduceLT, Nat.reduceLeDiff, Mk.sv, qts, I]); all_goals (try simp [sub_q])) (by (simp -dsimp only [↓RP, RQ, implies_true, forall_const, Nat.reduceMul, reduceIte, reduceCtorEq, Nat.reduceAdd, Nat.reduceEqDiff, Nat.reduceLT, Nat.reduceLeDiff, fsv, I])) ?_
 rw [Mk.Fine.err hf]
 (repeat' (first | with_reducible refine splitVC_d (fun _ => ?_) (fun _ => ?_) | with_reducible refine splitVC (fun _ => ?_) (fun _ => ?_) | ((with_reducible refine And.intro ?_ ?_); focus (first | exact True.intro | omega | (simp only [InK, ne_eq, and_true, true_and]; omega) | exact ⟨Nat.le_refl _, rfl⟩ | trivial)) | (simp -dsimp only [↓RP, RQ, implies_true, forall_const, Nat.reduceMul, reduceIte, reduceCtorEq, Nat.reduceAdd, Nat.reduceEqDiff, Nat.reduceLT, Nat.reduceLeDiff, I, TYm, TYn, TYw, QF, fsv, B, by2, RZ, eq_self, TY, Try.results39])))
 all_goals first | (exfalso; omega) | skip
 refine callE (by rfl) (e85 M hf _ _ (Under.nil.cons (by omega))) fun hp' nid' res ⟨q1, q2, q3⟩ => ?_
 subst q1 q3
 have NB := nbF q2
 have NB2 := nbG q2
 have NB3 : True := trivial
 (repeat' (first | with_reducible refine splitVC_d (fun _ => ?_) (fun _ => ?_) | with_reducible refine splitVC (fun _ => ?_) (fun _ => ?_) | ((with_reducible refine And.intro ?_ ?_); focus (first | exact True.intro | omega | (simp only [InK, ne_eq, and_true, true_and]; omega) | trivial)) | (simp -dsimp only [↓RP, RQ, implies_true, forall_const, Nat.reduceMul, reduceIte, reduceCtorEq, Nat.reduceAdd, Nat.reduceEqDiff, Nat.reduceLT, Nat.reduceLeDiff, NB, NB2, NB3, Nat.add_zero, Nat.add_assoc, self_F1, self_F2, TYn, TYm, TYw, QF, fsv, B, I, by2, RZ, eq_self, TY, Try.results39])))
 refine callE (by rfl) (e86 M hf _ _ _ _ (by omega) (by omega) (by omega) ((Under.nil.cons (by omega)).cons (by omega)) (by simp [blk]) (by simp [blk])) fun hp' nid2 res ⟨q4, q5⟩ => ?_
 rw [hs] at q5
 have ⟨hl, hl5⟩ := sure_ok hf hs
 have hm := hf.m12
 rcases q5 with ⟨rfl, q6, q7⟩ | ⟨rid, row, g1, g2, g3, q6, q7⟩
 ·subst q6 q7
  (repeat' (first | with_reducible refine splitVC_d (fun _ => ?_) (fun _ => ?_) | with_reducible refine splitVC (fun _ => ?_) (fun _ => ?_) | ((with_reducible refine And.intro ?_ ?_); focus (first | exact True.intro | omega | (simp only [InK, ne_eq, and_true, true_and]; omega) | trivial)) | (simp -dsimp only [↓RP, RQ, implies_true, forall_const, Nat.reduceMul, reduceIte, reduceCtorEq, Nat.reduceAdd, Nat.reduceEqDiff, Nat.reduceLT, Nat.reduceLeDiff, B, I, NB, NB2, NB3, Nat.add_zero, Nat.add_assoc, self_F1, self_F2, TYn, TYm, TYw, QF, fsv, by2, RZ, eq_self, TY, Try.results39])))
  refine loop_vc (fun (k : Nat) => k = 0) (fun k => ⟨[(1, .ptr 0 0), (3, .val (.int .i64 0)), (5, .val (.slice none 0 0)), (7, .val (.int .i64 1)), (28, .val (.slice none 0 0)), (29, .val (.int .i64 0)), (30, .val (.int .i64 k))], [(0, .cells 44 [.val (.int .i64 M.run), .arr false false M.m 4 (fun i j => qf (M.q i) j)])], 61⟩) (fun _ => 0) 0 rfl (weak [] [] ?_ ?_ ?_) fun k hk => ?_
  ·(simp -dsimp only [↓RP, RQ, implies_true, forall_const, Nat.reduceMul, reduceIte, reduceCtorEq, Nat.reduceAdd, Nat.reduceEqDiff, Nat.reduceLT, Nat.reduceLeDiff]); all_goals (try simp [wk_q])
  ·(simp -dsimp only [↓RP, RQ, implies_true, forall_const, Nat.reduceMul, reduceIte, reduceCtorEq, Nat.reduceAdd, Nat.reduceEqDiff, Nat.reduceLT, Nat.reduceLeDiff]); all_goals (try simp [wk_q])
  ·(simp -dsimp only [↓RP, RQ, implies_true, forall_const, Nat.reduceMul, reduceIte, reduceCtorEq, Nat.reduceAdd, Nat.reduceEqDiff, Nat.reduceLT, Nat.reduceLeDiff]); all_goals (try simp [wk_q])
  subst hk
  (repeat' (first | with_reducible refine splitVC_d (fun _ => ?_) (fun _ => ?_) | with_reducible refine splitVC (fun _ => ?_) (fun _ => ?_) | ((with_reducible refine And.intro ?_ ?_); focus (first | exact True.intro | omega | (simp only [InK, ne_eq, and_true, true_and]; omega) | exact ⟨Nat.le_refl _, rfl⟩ | trivial)) | (simp -dsimp only [↓RP, RQ, implies_true, forall_const, Nat.reduceMul, reduceIte, reduceCtorEq, Nat.reduceAdd, Nat.reduceEqDiff, Nat.reduceLT, Nat.reduceLeDiff, I, TYm, TYn, TYw, QF, fsv, B, by2, RZ, eq_self, TY, Try.results39])))
  all_goals first | (exfalso; omega) | skip
  refine loop_vc (fun (k : Nat) => k = 0) (fun k => ⟨[(1, .ptr 0 0), (3, .val (.int .i64 0)), (7, .val (.int .i64 1)), (11, .vec 61 M.m 1), (60, .val (.slice none 0 0)), (61, .val (.int .i64 0)), (62, .val (.int .i64 k))], [(61, .rows 2 1 M.m (fun _ _ => .val (.int .i64 0))), (0, .cells 44 [.val (.int .i64 M.run), .arr false false M.m 4 (fun i j => qf (M.q i) j)])], 62⟩) (fun _ => 0) 0 rfl (weak [(61, some 65)] [] ?_ ?_ ?_) fun k hk => ?_
  ·(simp -dsimp only [↓RP, RQ, implies_true, forall_const, Nat.reduceMul, reduceIte, reduceCtorEq, Nat.reduceAdd, Nat.reduceEqDiff, Nat.reduceLT, Nat.reduceLeDiff]); all_goals (try simp [wk_q])
  ·(simp -dsimp only [↓RP, RQ, implies_true, forall_const, Nat.reduceMul, reduceIte, reduceCtorEq, Nat.reduceAdd, Nat.reduceEqDiff, Nat.reduceLT, Nat.reduceLeDiff]); all_goals (try simp [wk_q])
  ·(simp -dsimp only [↓RP, RQ, implies_true, forall_const, Nat.reduceMul, reduceIte, reduceCtorEq, Nat.reduceAdd, Nat.reduceEqDiff, Nat.reduceLT, Nat.reduceLeDiff]); all_goals (try simp [wk_q])
  subst hk
  (repeat' (first | with_reducible refine splitVC_d (fun _ => ?_) (fun _ => ?_) | with_reducible refine splitVC (fun _ => ?_) (fun _ => ?_) | ((with_reducible refine And.intro ?_ ?_); focus (first | exact True.intro | omega | (simp only [InK, ne_eq, and_true, true_and]; omega) | exact ⟨Nat.le_refl _, rfl⟩ | trivial)) | (simp -dsimp only [↓RP, RQ, implies_true, forall_const, Nat.reduceMul, reduceIte, reduceCtorEq, Nat.reduceAdd, Nat.reduceEqDiff, Nat.reduceLT, Nat.reduceLeDiff, I, TYm, TYn, TYw, QF, fsv, B, by2, RZ, eq_self, TY, Try.results39])))
  all_goals first | (exfalso; omega) | skip
  exact fun i j _ _ => rfl
 ·subst q6 q7
  have NB3 := (⟨nbF (show 9 ≤ rid by omega), nbG (show 9 ≤ rid by omega)⟩ : _ ∧ _)
  (repeat' (first | with_reducible refine splitVC_d (fun _ => ?_) (fun _ => ?_) | with_reducible refine splitVC (fun _ => ?_) (fun _ => ?_) | ((with_reducible refine And.intro ?_ ?_); focus (first | exact True.intro | omega | (simp only [InK, ne_eq, and_true, true_and]; omega) | trivial)) | (simp -dsimp only [↓RP, RQ, implies_true, forall_const, Nat.reduceMul, reduceIte, reduceCtorEq, Nat.reduceAdd, Nat.reduceEqDiff, Nat.reduceLT, Nat.reduceLeDiff, B, I, NB, NB2, NB3, Nat.add_zero, Nat.add_assoc, self_F1, self_F2, TYn, TYm, TYw, QF, fsv, by2, RZ, eq_self, TY, Try.results39])))
  refine loop_vc (fun k => k ≤ l.length) (fun k => ⟨[(1, .ptr 0 0), (3, .val (.int .i64 0)), (5, .vec 60 l.length 1), (7, .val (.int .i64 (aL M.q l k : Nat))), (28, .vec 60 l.length 1), (29, .val (.int .i64 l.length)), (30, .val (.int .i64 k))], [(60, .rows 3 1 l.length (fun i _ => .val (.int .i64 (l.getD i 0 : Nat)))), (0, .cells 44 [.val (.int .i64 M.run), .arr false false M.m 4 (fun i j => qf (M.q i) j)])], 61⟩) (fun k => l.length - k) 0 (Nat.zero_le _) (weak [(60, some rid)] [] ?_ ?_ ?_ rfl) fun k hk => ?_
  ·(simp -dsimp only [↓RP, RQ, implies_true, forall_const, Nat.reduceMul, reduceIte, reduceCtorEq, Nat.reduceAdd, Nat.reduceEqDiff, Nat.reduceLT, Nat.reduceLeDiff, NB, NB2, NB3, aL]); all_goals (try simp [wk_q, aL])
  ·(simp -dsimp only [↓RP, RQ, implies_true, forall_const, Nat.reduceMul, reduceIte, reduceCtorEq, Nat.reduceAdd, Nat.reduceEqDiff, Nat.reduceLT, Nat.reduceLeDiff, NB, NB2, NB3]); all_goals (try simp [wk_q])
   all_goals (try exact fun i hi => by rw [g3 i hi]; simp [I])
  ·(simp -dsimp only [↓RP, RQ, implies_true, forall_const, Nat.reduceMul, reduceIte, reduceCtorEq, Nat.reduceAdd, Nat.reduceEqDiff, Nat.reduceLT, Nat.reduceLeDiff, NB, NB2, NB3]); all_goals (try simp [wk_q])
   all_goals (try omega)
  by_cases hlt : k < l.length
  ·have hmem : l.getD k 0 ∈ l := by
    rw [List.getD_eq_getElem?_getD, List.getElem?_eq_getElem hlt]
    exact List.getElem_mem _
   have hn := hl _ hmem
   have hq := hf.od _ hn
   have ⟨a1, a2⟩ := aL_bd hf.od hl k hk
   have a3 := pw_le (i := k) (by omega)
   have ea : aL M.q l (k + 1) = aL M.q l k / Nat.gcd (aL M.q l k) (sz M.q (l.getD k 0)) * sz M.q (l.getD k 0) := by rw [lcm_form]; rfl
   have ⟨a4, a5⟩ := aL_bd hf.od hl (k + 1) (by omega)
   have a6 := pw_le (i := k + 1) (by omega)
   obtain ⟨n, en⟩ : ∃ n, l.getD k 0 = n := ⟨_, rfl⟩
   rw [en] at hmem hn hq ea
   have es : (M.q n).d + (M.q n).n = ((sz M.q n : Nat) : Int) := by unfold sz; omega
   have s1 : 1 ≤ sz M.q n := by unfold sz; omega
   have s2 : sz M.q n ≤ 200 := by unfold sz; omega
   have kg := c87 (aL M.q l k) (sz M.q n) (by omega) (by omega)
   have gpos : 0 < Nat.gcd (aL M.q l k) (sz M.q n) := Nat.gcd_pos_of_pos_right _ (by omega)
   have gne : ((Nat.gcd (aL M.q l k) (sz M.q n) : Nat) : Int) ≠ 0 := by omega
   have e3 : (aL M.q l k : Int).tdiv (Nat.gcd (aL M.q l k) (sz M.q n) : Nat) * (sz M.q n : Nat) = (aL M.q l (k + 1) : Nat) := by rw [ea, tdN, Int.natCast_mul]
   have e4 : 0 ≤ (aL M.q l k : Int).tdiv (Nat.gcd (aL M.q l k) (sz M.q n) : Nat) ∧ (aL M.q l k : Int).tdiv (Nat.gcd (aL M.q l k) (sz M.q n) : Nat) ≤ (aL M.q l k : Nat) := by
    rw [tdN]; exact ⟨Int.natCast_nonneg _, Int.ofNat_le.2 (Nat.div_le_self _ _)⟩
   (repeat' (first | with_reducible refine splitVC_d (fun _ => ?_) (fun _ => ?_) | with_reducible refine splitVC (fun _ => ?_) (fun _ => ?_) | ((with_reducible refine And.intro ?_ ?_); focus (first | exact True.intro | omega | (simp only [InK, ne_eq, and_true, true_and]; omega) | exact ⟨Nat.le_refl _, rfl⟩ | trivial)) | (simp -dsimp only [↓RP, RQ, implies_true, forall_const, Nat.reduceMul, reduceIte, reduceCtorEq, Nat.reduceAdd, Nat.reduceEqDiff, Nat.reduceLT, Nat.reduceLeDiff, en, es, I, TYm, TYn, TYw, QF, fsv, B, by2, RZ, eq_self, TY, Try.results39])))
   all_goals first | (exfalso; omega) | skip
   refine callVC kg (by (simp -dsimp only [↓RP, RQ, implies_true, forall_const, Nat.reduceMul, reduceIte, reduceCtorEq, Nat.reduceAdd, Nat.reduceEqDiff, Nat.reduceLT, Nat.reduceLeDiff, Go.Od.ints, I]); all_goals (try simp)) (by (simp -dsimp only [↓RP, RQ, implies_true, forall_const, Nat.reduceMul, reduceIte, reduceCtorEq, Nat.reduceAdd, Nat.reduceEqDiff, Nat.reduceLT, Nat.reduceLeDiff, fsv, I])) ?_
   (repeat' (first | with_reducible refine splitVC_d (fun _ => ?_) (fun _ => ?_) | with_reducible refine splitVC (fun _ => ?_) (fun _ => ?_) | ((with_reducible refine And.intro ?_ ?_); focus (first | exact True.intro | omega | (simp only [InK, ne_eq, and_true, true_and]; omega) | exact ⟨Nat.le_refl _, rfl⟩ | trivial)) | (simp -dsimp only [↓RP, RQ, implies_true, forall_const, Nat.reduceMul, reduceIte, reduceCtorEq, Nat.reduceAdd, Nat.reduceEqDiff, Nat.reduceLT, Nat.reduceLeDiff, en, es, e3, I, TYm, TYn, TYw, QF, fsv, B, by2, RZ, eq_self, TY, Try.results39])))
   all_goals first | (exfalso; omega) | skip
   refine ⟨k + 1, by omega, by omega, weak [] [] ?_ ?_ ?_⟩
   ·(simp -dsimp only [↓RP, RQ, implies_true, forall_const, Nat.reduceMul, reduceIte, reduceCtorEq, Nat.reduceAdd, Nat.reduceEqDiff, Nat.reduceLT, Nat.reduceLeDiff]); all_goals (try simp [wk_q])
   ·(simp -dsimp only [↓RP, RQ, implies_true, forall_const, Nat.reduceMul, reduceIte, reduceCtorEq, Nat.reduceAdd, Nat.reduceEqDiff, Nat.reduceLT, Nat.reduceLeDiff]); all_goals (try simp [wk_q])
   ·(simp -dsimp only [↓RP, RQ, implies_true, forall_const, Nat.reduceMul, reduceIte, reduceCtorEq, Nat.reduceAdd, Nat.reduceEqDiff, Nat.reduceLT, Nat.reduceLeDiff]); all_goals (try simp [wk_q])
  ·obtain rfl : k = l.length := by omega
   have ⟨a1, a2⟩ := aL_bd hf.od hl l.length (Nat.le_refl _)
   have a3 := pw_le (i := l.length) (by omega)
   clear g3
   (repeat' (first | with_reducible refine splitVC_d (fun _ => ?_) (fun _ => ?_) | with_reducible refine splitVC (fun _ => ?_) (fun _ => ?_) | ((with_reducible refine And.intro ?_ ?_); focus (first | exact True.intro | omega | (simp only [InK, ne_eq, and_true, true_and]; omega) | exact ⟨Nat.le_refl _, rfl⟩ | trivial)) | (simp -dsimp only [↓RP, RQ, implies_true, forall_const, Nat.reduceMul, reduceIte, reduceCtorEq, Nat.reduceAdd, Nat.reduceEqDiff, Nat.reduceLT, Nat.reduceLeDiff, I, TYm, TYn, TYw, QF, fsv, B, by2, RZ, eq_self, TY, Try.results39])))
   all_goals first | (exfalso; omega) | skip
   obtain ⟨A, eA⟩ : ∃ A, aL M.q l l.length = A := ⟨_, rfl⟩
   rw [eA] at a1 a2 ⊢
   refine loop_vc (fun k => k ≤ l.length) (fun k => ⟨[(1, .ptr 0 0), (3, .val (.int .i64 0)), (7, .val (.int .i64 A)), (11, .vec 61 M.m 1), (60, .vec 60 l.length 1), (61, .val (.int .i64 l.length)), (62, .val (.int .i64 k))], [(61, .rows 2 1 M.m (fun i _ => .val (.int .i64 (stR M.q l A k i)))), (60, .rows 3 1 l.length (fun i _ => .val (.int .i64 (l.getD i 0 : Nat)))), (0, .cells 44 [.val (.int .i64 M.run), .arr false false M.m 4 (fun i j => qf (M.q i) j)])], 62⟩) (fun k => l.length - k) 0 (Nat.zero_le _) (weak [(61, some 65)] [] ?_ ?_ ?_ rfl) fun k hk => ?_
   ·(simp -dsimp only [↓RP, RQ, implies_true, forall_const, Nat.reduceMul, reduceIte, reduceCtorEq, Nat.reduceAdd, Nat.reduceEqDiff, Nat.reduceLT, Nat.reduceLeDiff, stR]); all_goals (try simp [wk_q, stR])
   ·(simp -dsimp only [↓RP, RQ, implies_true, forall_const, Nat.reduceMul, reduceIte, reduceCtorEq, Nat.reduceAdd, Nat.reduceEqDiff, Nat.reduceLT, Nat.reduceLeDiff, stR]); all_goals (try simp [wk_q, stR])
   ·(simp -dsimp only [↓RP, RQ, implies_true, forall_const, Nat.reduceMul, reduceIte, reduceCtorEq, Nat.reduceAdd, Nat.reduceEqDiff, Nat.reduceLT, Nat.reduceLeDiff, stR]); all_goals (try simp [wk_q, stR])
   by_cases hlt : k < l.length
   ·have hmem : l.getD k 0 ∈ l := by
     rw [List.getD_eq_getElem?_getD, List.getElem?_eq_getElem hlt]
     exact List.getElem_mem _
    have hn := hl _ hmem
    have hq := hf.od _ hn
    have kf : ∀ i, stR M.q l A (k + 1) i = if i = l.getD k 0 then (A : Int).tdiv ((M.q i).d + (M.q i).n) * (M.q i).d else stR M.q l A k i := fun i => rfl
    obtain ⟨n, en⟩ : ∃ n, l.getD k 0 = n := ⟨_, rfl⟩
    rw [en] at hmem hn hq kf
    obtain ⟨v, ev⟩ : ∃ v, (A : Int).tdiv ((M.q n).d + (M.q n).n) = v := ⟨_, rfl⟩
    have v1 : 0 ≤ v ∧ v ≤ A := by
     have es : (M.q n).d + (M.q n).n = ((sz M.q n : Nat) : Int) := by unfold sz; omega
     rw [← ev, es, tdN]; exact ⟨Int.natCast_nonneg _, Int.ofNat_le.2 (Nat.div_le_self _ _)⟩
    have v2 := mul_in v (M.q n).d A 100 v1.1 (by omega) v1.2 (by omega)
    (repeat' (first | with_reducible refine splitVC_d (fun _ => ?_) (fun _ => ?_) | with_reducible refine splitVC (fun _ => ?_) (fun _ => ?_) | ((with_reducible refine And.intro ?_ ?_); focus (first | exact True.intro | omega | (simp only [InK, ne_eq, and_true, true_and]; omega) | exact ⟨Nat.le_refl _, rfl⟩ | trivial)) | (simp -dsimp only [↓RP, RQ, implies_true, forall_const, Nat.reduceMul, reduceIte, reduceCtorEq, Nat.reduceAdd, Nat.reduceEqDiff, Nat.reduceLT, Nat.reduceLeDiff, en, ev, I, TYm, TYn, TYw, QF, fsv, B, by2, RZ, eq_self, TY, Try.results39])))
    all_goals first | (exfalso; omega) | skip
    refine ⟨k + 1, by omega, by omega, weak [] [] ?_ ?_ ?_ rfl⟩
    ·(simp -dsimp only [↓RP, RQ, implies_true, forall_const, Nat.reduceMul, reduceIte, reduceCtorEq, Nat.reduceAdd, Nat.reduceEqDiff, Nat.reduceLT, Nat.reduceLeDiff]); all_goals (try simp [wk_q])
    ·(simp -dsimp only [↓RP, RQ, implies_true, forall_const, Nat.reduceMul, reduceIte, reduceCtorEq, Nat.reduceAdd, Nat.reduceEqDiff, Nat.reduceLT, Nat.reduceLeDiff]); all_goals (try simp [wk_q, kf])
     all_goals exact stR_row kf ev
    ·(simp -dsimp only [↓RP, RQ, implies_true, forall_const, Nat.reduceMul, reduceIte, reduceCtorEq, Nat.reduceAdd, Nat.reduceEqDiff, Nat.reduceLT, Nat.reduceLeDiff]); all_goals (try simp [wk_q])
   ·obtain rfl : k = l.length := by omega
    (repeat' (first | with_reducible refine splitVC_d (fun _ => ?_) (fun _ => ?_) | with_reducible refine splitVC (fun _ => ?_) (fun _ => ?_) | ((with_reducible refine And.intro ?_ ?_); focus (first | exact True.intro | omega | (simp only [InK, ne_eq, and_true, true_and]; omega) | exact ⟨Nat.le_refl _, rfl⟩ | trivial)) | (simp -dsimp only [↓RP, RQ, implies_true, forall_const, Nat.reduceMul, reduceIte, reduceCtorEq, Nat.reduceAdd, Nat.reduceEqDiff, Nat.reduceLT, Nat.reduceLeDiff, I, TYm, TYn, TYw, QF, fsv, B, by2, RZ, eq_self, TY, Try.results39])))
    all_goals first | (exfalso; omega) | skip
    exact Nat.le_refl _
end Go.Od
end
section
set_option linter.unusedVariables false
set_option linter.unusedSimpArgs false
namespace Go.Od
open Go.Proofs
def rv (a : Fr) : Rat := (a.n : Rat) / (a.d : Rat)
theorem dpos {a : Int} (h : 0 < a) : (0 : Rat) < (a : Rat) := by exact_mod_cast h
theorem rv_eq {a : Fr} (h : 0 < a.d) : rv a * (a.d : Rat) = (a.n : Rat) := by
 have := dpos h
 unfold rv
 grind
theorem rv_uniq {a b : Fr} (h : 0 < a.d) (hb : 0 < b.d) (e : a.n * b.d = b.n * a.d) : rv a = rv b := by
 have h1 := dpos h
 have h2 := dpos hb
 have e' : (a.n : Rat) * (b.d : Rat) = (b.n : Rat) * (a.d : Rat) := by exact_mod_cast e
 unfold rv
 grind
theorem rv_red {a : Fr} (h : 0 < a.d) : rv (red a) = rv a := by
 have ⟨s1, s2, s3, s4⟩ := red_spec h
 exact rv_uniq (by omega) h (by omega)
theorem rv_lt {a b : Fr} (h : 0 < a.d) (hb : 0 < b.d) : lt a b ↔ rv a < rv b := by
 have h1 := dpos h
 have h2 := dpos hb
 have e1 := rv_eq h
 have e2 := rv_eq hb
 unfold lt
 rw [← Rat.intCast_lt_intCast, Rat.intCast_mul, Rat.intCast_mul, ← e1, ← e2]
 have e3 : rv a * (a.d : Rat) * (b.d : Rat) = rv a * ((a.d : Rat) * (b.d : Rat)) := by grind
 have e4 : rv b * (b.d : Rat) * (a.d : Rat) = rv b * ((a.d : Rat) * (b.d : Rat)) := by grind
 rw [e3, e4]
 exact Rat.mul_lt_mul_right (Rat.mul_pos h1 h2)
theorem rv_plus {a b : Fr} (h : 0 < a.d) (hb : 0 < b.d) : rv (plus a b) = rv a + rv b := by
 have h1 := dpos h
 have h2 := dpos hb
 unfold plus
 rw [rv_red (show 0 < a.d * b.d from Int.mul_pos h hb)]
 unfold rv
 show ((a.n * b.d + b.n * a.d : Int) : Rat) / ((a.d * b.d : Int) : Rat) = _
 rw [Rat.intCast_add, Rat.intCast_mul, Rat.intCast_mul, Rat.intCast_mul]
 have h3 := Rat.mul_pos h1 h2
 grind
theorem rv_neg {n d : Int} : rv ⟨-n, d⟩ = - rv ⟨n, d⟩ := by
 unfold rv
 show ((-n : Int) : Rat) / _ = _
 rw [Rat.intCast_neg, Rat.div_def, Rat.div_def, Rat.neg_mul]
def gsum (g : Nat → Rat) : Nat → Rat
 | 0 => 0
 | k + 1 => gsum g k + g k
theorem gsum_congr {g h : Nat → Rat} : ∀ {n : Nat}, (∀ j, j < n → g j = h j) → gsum g n = gsum h n
 | 0, _ => rfl
 | n + 1, e => by
  simp only [gsum]
  rw [gsum_congr (n := n) fun j hj => e j (by omega), e n (by omega)]
theorem gsum_upd {g h : Nat → Rat} {r : Nat} (e : ∀ j, j ≠ r → g j = h j) : ∀ {n : Nat}, r < n → gsum g n = gsum h n - h r + g r
 | 0, hr => by omega
 | n + 1, hr => by
  simp only [gsum]
  by_cases e1 : r = n
  ·subst e1
   rw [gsum_congr (g := g) (h := h) (n := r) fun j hj => e j (by omega)]
   grind
  ·rw [gsum_upd e (n := n) (by omega), e n (by omega)]
   grind
theorem rv_sum {f : Nat → Fr} : ∀ {n : Nat}, (∀ j, j < n → 0 < (f j).d) → 0 < (sumF f n).d ∧ rv (sumF f n) = gsum (fun j => rv (f j)) n
 | 0, _ => ⟨Int.one_pos, by show rv ⟨0, 1⟩ = 0; unfold rv; rw [Rat.div_def]; show ((0 : Int) : Rat) * _ = 0; grind⟩
 | n + 1, h => by
  have ⟨h1, h2⟩ := rv_sum (f := f) (n := n) fun j hj => h j (by omega)
  have hn := h n (by omega)
  have ⟨p1, p2⟩ := plus_spec h1 hn
  refine ⟨p1, ?_⟩
  simp only [sumF, gsum]
  rw [rv_plus h1 hn, h2]
def gr (lo hi : Nat → Fr) (r k : Nat) : Fr := if k < r then hi k else lo k
def oth (lo hi : Nat → Fr) (n r : Nat) : Fr := sumF (updF (gr lo hi r) r ⟨0, 1⟩) n
def left (lo hi : Nat → Fr) (n r : Nat) : Fr := plus ⟨1, 1⟩ ⟨-(oth lo hi n r).n, (oth lo hi n r).d⟩
theorem rv0 : rv ⟨0, 1⟩ = 0 := by
 unfold rv; rw [Rat.div_def]; show ((0 : Int) : Rat) * _ = 0; grind
theorem rv1 : rv ⟨1, 1⟩ = 1 := by
 unfold rv; show ((1 : Int) : Rat) / ((1 : Int) : Rat) = 1; grind
theorem gr_d {lo hi : Nat → Fr} (hl : ∀ k, Ch (lo k)) (hh : ∀ k, Ch (hi k)) (r k : Nat) : Ch (gr lo hi r k) := by
 unfold gr; split
 ·exact hh k
 ·exact hl k
theorem ch0 : Ch ⟨0, 1⟩ := ⟨by decide, by decide, by decide, by decide⟩
theorem oth_ch {lo hi : Nat → Fr} (hl : ∀ k, Ch (lo k)) (hh : ∀ k, Ch (hi k)) (r k : Nat) : Ch (updF (gr lo hi r) r ⟨0, 1⟩ k) := by
 unfold updF; split
 ·exact ch0
 ·exact gr_d hl hh r k
theorem left_rv {lo hi : Nat → Fr} (hl : ∀ k, Ch (lo k)) (hh : ∀ k, Ch (hi k)) {n r : Nat} (hr : r < n) : 0 < (left lo hi n r).d ∧ rv (left lo hi n r) = 1 - (gsum (fun k => rv (gr lo hi r k)) n - rv (lo r)) := by
 have ⟨o1, o2⟩ := rv_sum (f := updF (gr lo hi r) r ⟨0, 1⟩) (n := n) fun j hj => (oth_ch hl hh r j).d1
 have o3 : rv (oth lo hi n r) = gsum (fun j => rv (updF (gr lo hi r) r ⟨0, 1⟩ j)) n := o2
 have o4 : 0 < (oth lo hi n r).d := o1
 refine ⟨(plus_spec (a := ⟨1, 1⟩) (b := ⟨-(oth lo hi n r).n, (oth lo hi n r).d⟩) Int.one_pos o4).1, ?_⟩
 unfold left
 rw [rv_plus (a := ⟨1, 1⟩) (b := ⟨-(oth lo hi n r).n, (oth lo hi n r).d⟩) Int.one_pos o4, rv1, rv_neg]
 show 1 + - rv (oth lo hi n r) = _
 rw [o3, gsum_upd (g := fun j => rv (updF (gr lo hi r) r ⟨0, 1⟩ j)) (h := fun k => rv (gr lo hi r k)) (r := r) (fun j hj => by show rv (updF _ r _ j) = _; unfold updF; rw [if_neg hj]) hr]
 show 1 + -(_ - rv (gr lo hi r r) + rv (updF (gr lo hi r) r ⟨0, 1⟩ r)) = _
 have e1 : gr lo hi r r = lo r := by unfold gr; rw [if_neg (by omega)]
 have e2 : updF (gr lo hi r) r ⟨0, 1⟩ r = ⟨0, 1⟩ := by unfold updF; rw [if_pos rfl]
 rw [e1, e2, rv0]
 grind
theorem gr_step {lo hi : Nat → Fr} {n r : Nat} (hr : r < n) : gsum (fun k => rv (gr lo hi (r + 1) k)) n = gsum (fun k => rv (gr lo hi r k)) n - rv (lo r) + rv (hi r) := by
 rw [gsum_upd (g := fun k => rv (gr lo hi (r + 1) k)) (h := fun k => rv (gr lo hi r k)) (r := r) (fun j hj => by
  show rv (gr lo hi (r + 1) j) = rv (gr lo hi r j)
  unfold gr
  by_cases e : j < r
  ·rw [if_pos e, if_pos (by omega)]
  ·rw [if_neg e, if_neg (by omega)]) hr]
 show _ - rv (gr lo hi r r) + rv (gr lo hi (r + 1) r) = _
 have e1 : gr lo hi r r = lo r := by unfold gr; rw [if_neg (by omega)]
 have e2 : gr lo hi (r + 1) r = hi r := by unfold gr; rw [if_pos (by omega)]
 rw [e1, e2]
structure FairR (lo hi : Nat → Fr) (n : Nat) : Prop where
 lc : ∀ k, Ch (lo k)
 hc : ∀ k, Ch (hi k)
 n1 : 1 ≤ n
 n5 : n ≤ 5
 bd : ∀ r, r < n → rv (lo r) ≤ rv (hi r)
 sl : gsum (fun k => rv (lo k)) n ≤ 1
 sh : 1 ≤ gsum (fun k => rv (hi k)) n
theorem FairR.le {lo hi : Nat → Fr} {n : Nat} (h : FairR lo hi n) : ∀ {r : Nat}, r ≤ n → (∀ j, j < r → lt (hi j) (left lo hi n j)) → gsum (fun k => rv (gr lo hi r k)) n ≤ 1 ∧ (0 < r → gsum (fun k => rv (gr lo hi r k)) n < 1)
 | 0, _, _ => by
  refine ⟨?_, fun h => by omega⟩
  have := h.sl
  rw [gsum_congr (g := fun k => rv (gr lo hi 0 k)) (h := fun k => rv (lo k)) fun j _ => by show rv (gr lo hi 0 j) = _; unfold gr; rw [if_neg (by omega)]]
  exact this
 | r + 1, hr, hs => by
  have ⟨h1, h2⟩ := h.le (r := r) (by omega) fun j hj => hs j (by omega)
  have ⟨l1, l2⟩ := left_rv h.lc h.hc (n := n) (r := r) (by omega)
  have h3 := (rv_lt (h.hc r).d1 l1).1 (hs r (by omega))
  rw [gr_step (by omega)]
  rw [l2] at h3
  have h4 : gsum (fun k => rv (gr lo hi r k)) n - rv (lo r) + rv (hi r) < 1 := by grind
  exact ⟨by grind, fun _ => h4⟩
theorem FairR.stops {lo hi : Nat → Fr} {n : Nat} (h : FairR lo hi n) (hs : ∀ j, j < n → lt (hi j) (left lo hi n j)) : False := by
 have := (h.le (Nat.le_refl n) hs).2 h.n1
 rw [gsum_congr (g := fun k => rv (gr lo hi n k)) (h := fun k => rv (hi k)) fun j hj => by show rv (gr lo hi n j) = _; unfold gr; rw [if_pos hj]] at this
 have := h.sh
 grind
theorem FairR.left_bd {lo hi : Nat → Fr} {n : Nat} (h : FairR lo hi n) {r : Nat} (hr : r < n) (hs : ∀ j, j < r → lt (hi j) (left lo hi n j)) : rv (lo r) ≤ rv (left lo hi n r) := by
 have ⟨h1, h2⟩ := h.le (r := r) (by omega) hs
 have ⟨l1, l2⟩ := left_rv h.lc h.hc (n := n) (r := r) hr
 rw [l2]
 grind
def ownF (lo hi : Nat → Fr) (n r : Nat) : Nat → Fr := updF (gr lo hi r) r (left lo hi n r)
def Stop (lo hi : Nat → Fr) (n r : Nat) : Prop := r < n ∧ (∀ j, j < r → lt (hi j) (left lo hi n j)) ∧ ¬ lt (hi r) (left lo hi n r)
theorem FairR.own {lo hi : Nat → Fr} {n : Nat} (h : FairR lo hi n) {r : Nat} (hr : Stop lo hi n r) : (∀ k, k < n → 0 < (ownF lo hi n r k).d ∧ rv (lo k) ≤ rv (ownF lo hi n r k) ∧ rv (ownF lo hi n r k) ≤ rv (hi k)) ∧ gsum (fun k => rv (ownF lo hi n r k)) n = 1 := by
 have ⟨s1, s2, s3⟩ := hr
 have ⟨l1, l2⟩ := left_rv h.lc h.hc (n := n) (r := r) s1
 have l3 := h.left_bd s1 s2
 have l4 : rv (left lo hi n r) ≤ rv (hi r) := by
  have := fun e => s3 ((rv_lt (h.hc r).d1 l1).2 e)
  grind
 refine ⟨fun k hk => ?_, ?_⟩
 ·unfold ownF updF
  by_cases e : k = r
  ·subst e; rw [if_pos rfl]; exact ⟨l1, l3, l4⟩
  ·rw [if_neg e]
   unfold gr
   split
   ·exact ⟨(h.hc k).d1, h.bd k hk, Rat.le_refl⟩
   ·exact ⟨(h.lc k).d1, Rat.le_refl, h.bd k hk⟩
 ·rw [gsum_upd (g := fun k => rv (ownF lo hi n r k)) (h := fun k => rv (gr lo hi r k)) (r := r) (fun j hj => by show rv (updF _ r _ j) = _; unfold updF; rw [if_neg hj]) s1]
  show _ - rv (gr lo hi r r) + rv (updF _ r _ r) = 1
  have e1 : gr lo hi r r = lo r := by unfold gr; rw [if_neg (by omega)]
  have e2 : updF (gr lo hi r) r (left lo hi n r) r = left lo hi n r := by unfold updF; rw [if_pos rfl]
  rw [e1, e2, l2]
  grind
end Go.Od
end
section
set_option linter.unusedVariables false
set_option linter.unusedSimpArgs false
namespace Go.Od
open Go.Proofs
def aD (f : Nat → Fr) : Nat → Nat
 | 0 => 1
 | k + 1 => Nat.lcm (aD f k) (f k).d.toNat
theorem plus_dvd {a b : Fr} {C : Int} (ha : 0 < a.d) (hb : 0 < b.d) (h1 : a.d ∣ C) (h2 : b.d ∣ C) : (plus a b).d ∣ C := by
 have hp : 0 < a.d * b.d := Int.mul_pos ha hb
 have ⟨s1, s2, s3, s4⟩ := red_spec (a := ⟨a.n * b.d + b.n * a.d, a.d * b.d⟩) hp
 have s3 : (plus a b).n * (a.d * b.d) = (a.n * b.d + b.n * a.d) * (plus a b).d := s3
 have s2 : Int.gcd (plus a b).n (plus a b).d = 1 := s2
 obtain ⟨x, hx⟩ := h1
 obtain ⟨y, hy⟩ := h2
 generalize plus a b = p at *
 have e : p.d * (a.n * x + b.n * y) * (a.d * b.d) = p.n * C * (a.d * b.d) := by
  have e1 : p.n * C * (a.d * b.d) = C * (p.n * (a.d * b.d)) := by grind
  rw [e1, s3]
  have e2 : C * ((a.n * b.d + b.n * a.d) * p.d) = p.d * (a.n * b.d * C + b.n * a.d * C) := by grind
  rw [e2]
  have e3 : a.n * b.d * C = a.n * x * (a.d * b.d) := by rw [hx]; grind
  have e4 : b.n * a.d * C = b.n * y * (a.d * b.d) := by rw [hy]; grind
  rw [e3, e4]; grind
 have e5 := Int.eq_of_mul_eq_mul_right (by omega) e
 have h3 : p.d ∣ p.n * C := ⟨_, e5.symm⟩
 rw [← Int.natAbs_dvd_natAbs] at h3 ⊢
 rw [Int.natAbs_mul] at h3
 refine Nat.Coprime.dvd_of_dvd_mul_left ?_ h3
 unfold Nat.Coprime
 rw [Nat.gcd_comm]; exact s2
theorem sumF_dvd {f : Nat → Fr} {C : Int} : ∀ {n : Nat}, (∀ j, j < n → 0 < (f j).d ∧ (f j).d ∣ C) → (sumF f n).d ∣ C
 | 0, _ => Int.one_dvd C
 | n + 1, h => plus_dvd (rv_sum (n := n) fun j hj => (h j (by omega)).1).1 (h n (by omega)).1 (sumF_dvd (n := n) fun j hj => h j (by omega)) (h n (by omega)).2
theorem aD_dvd {f : Nat → Fr} {C : Nat} : ∀ {n : Nat}, (∀ j, j < n → (f j).d.toNat ∣ C) → aD f n ∣ C
 | 0, _ => Nat.one_dvd C
 | n + 1, h => Nat.lcm_dvd (aD_dvd (n := n) fun j hj => h j (by omega)) (h n (by omega))
theorem dvd_aD {f : Nat → Fr} : ∀ {n : Nat} {j : Nat}, j < n → (f j).d.toNat ∣ aD f n
 | 0, _, h => by omega
 | n + 1, j, h => by
  simp only [aD]
  by_cases e : j = n
  ·subst e; exact Nat.dvd_lcm_right _ _
  ·exact Nat.dvd_trans (dvd_aD (n := n) (j := j) (by omega)) (Nat.dvd_lcm_left _ _)
theorem aD_pos {f : Nat → Fr} : ∀ {n : Nat}, (∀ j, j < n → 0 < (f j).d) → 1 ≤ aD f n
 | 0, _ => Nat.le_refl 1
 | n + 1, h => by
  have h1 := aD_pos (f := f) (n := n) fun j hj => h j (by omega)
  have h2 := h n (by omega)
  exact Nat.lcm_pos (by omega) (by omega)
theorem aD_bd {f : Nat → Fr} {r : Nat} (hf : ∀ k, Ch (f k)) (hr : (f r).d = 1) : ∀ {n : Nat}, (aD f n : Int) * (if r < n then 200 else 1) ≤ pw n
 | 0 => by show (1 : Int) * _ ≤ 1; rw [if_neg (by omega)]; decide
 | n + 1 => by
  have h1 := aD_bd hf hr (n := n)
  have h2 := hf n
  have d1 := h2.d1
  have d2 := h2.d2
  have p1 := aD_pos (f := f) (n := n) fun j _ => (hf j).d1
  simp only [aD, pw]
  have hle : Nat.lcm (aD f n) (f n).d.toNat ≤ aD f n * (f n).d.toNat := Nat.le_of_dvd (Nat.mul_pos (by omega) (by omega)) (Nat.lcm_dvd (Nat.dvd_mul_right _ _) (Nat.dvd_mul_left _ _))
  by_cases e : r = n
  ·subst e
   rw [hr] at hle
   rw [if_neg (by omega)] at h1
   rw [if_pos (by omega), hr]
   have : (Nat.lcm (aD f r) (Int.toNat 1)) ≤ aD f r := by rw [show Int.toNat 1 = 1 from rfl] at hle ⊢; omega
   omega
  ·have hle2 : aD f n * (f n).d.toNat ≤ aD f n * 200 := Nat.mul_le_mul_left _ (by omega)
   by_cases e2 : r < n
   ·rw [if_pos e2] at h1
    rw [if_pos (by omega)]
    omega
   ·rw [if_neg e2] at h1
    rw [if_neg (by omega)]
    omega
def comD (lo hi : Nat → Fr) (n r : Nat) : Nat := aD (updF (gr lo hi r) r ⟨0, 1⟩) n
theorem FairR.com {lo hi : Nat → Fr} {n r : Nat} (h : FairR lo hi n) (hr : r < n) : 1 ≤ comD lo hi n r ∧ (comD lo hi n r : Int) ≤ 1600000000 := by
 have hc := fun k => oth_ch h.lc h.hc r k
 have hd : (updF (gr lo hi r) r ⟨0, 1⟩ r).d = 1 := by unfold updF; rw [if_pos rfl]
 have h1 := aD_bd hc hd (n := n)
 rw [if_pos hr] at h1
 have h2 := pw_le h.n5
 have h3 := aD_pos (f := updF (gr lo hi r) r ⟨0, 1⟩) (n := n) fun j _ => (hc j).d1
 unfold comD
 omega
theorem FairR.left_dvd {lo hi : Nat → Fr} {n r : Nat} (h : FairR lo hi n) (hr : r < n) : (left lo hi n r).d ∣ (comD lo hi n r : Int) := by
 have hc := fun k => oth_ch h.lc h.hc r k
 have o1 := (rv_sum (f := updF (gr lo hi r) r ⟨0, 1⟩) (n := n) fun j _ => (hc j).d1).1
 refine plus_dvd (a := ⟨1, 1⟩) (b := ⟨-(oth lo hi n r).n, (oth lo hi n r).d⟩) Int.one_pos o1 (Int.one_dvd _) ?_
 refine sumF_dvd fun j hj => ⟨(hc j).d1, ?_⟩
 have h1 := dvd_aD (f := updF (gr lo hi r) r ⟨0, 1⟩) hj
 have h2 := (hc j).d1
 have h3 : (((updF (gr lo hi r) r ⟨0, 1⟩ j).d.toNat : Nat) : Int) ∣ ((comD lo hi n r : Nat) : Int) := Int.natCast_dvd_natCast.2 h1
 rwa [Int.toNat_of_nonneg (by omega)] at h3
theorem FairR.left_in {lo hi : Nat → Fr} {n r : Nat} (h : FairR lo hi n) (hr : r < n) (hs : ∀ j, j < r → lt (hi j) (left lo hi n j)) : 0 ≤ (left lo hi n r).n ∧ (left lo hi n r).n ≤ (left lo hi n r).d ∧ 1 ≤ (left lo hi n r).d ∧ (left lo hi n r).d ≤ 1600000000 := by
 have ⟨l1, l2⟩ := left_rv h.lc h.hc hr
 have l3 := h.left_bd hr hs
 have l4 := Int.le_of_dvd (by have := (h.com hr).1; omega) (h.left_dvd hr)
 have l5 := (h.com hr).2
 have l6 := h.lc r
 have e1 := rv_eq l1
 have e2 := rv_eq l6.d1
 have p1 := dpos l1
 have p2 := dpos l6.d1
 have nn : 0 ≤ rv (lo r) := by
  have : ¬ lt (lo r) ⟨0, 1⟩ := by unfold lt; have := l6.n0; show ¬ (lo r).n * 1 < 0 * (lo r).d; omega
  rw [rv_lt l6.d1 Int.one_pos, rv0] at this
  grind
 have hc := fun k => oth_ch h.lc h.hc r k
 have ⟨q1, q2, q3, _⟩ := sumF_bd (f := updF (gr lo hi r) r ⟨0, 1⟩) (i := n) fun j _ => hc j
 have ⟨r1, r2⟩ := plus_spec (a := ⟨1, 1⟩) (b := ⟨-(oth lo hi n r).n, (oth lo hi n r).d⟩) Int.one_pos (show 0 < (oth lo hi n r).d from q3)
 refine ⟨?_, ?_, l1, by omega⟩
 ·refine Int.not_lt.1 fun hn => ?_
  have : lt (left lo hi n r) ⟨0, 1⟩ := by unfold lt; show (left lo hi n r).n * 1 < 0 * (left lo hi n r).d; omega
  rw [rv_lt l1 Int.one_pos, rv0] at this
  grind
 ·refine Int.not_lt.1 fun hn => ?_
  have : lt ⟨1, 1⟩ (left lo hi n r) := by unfold lt; show 1 * (left lo hi n r).d < (left lo hi n r).n * 1; omega
  rw [rv_lt (show (0 : Int) < (⟨1, 1⟩ : Fr).d from Int.one_pos) l1, rv1] at this
  have o5 : 0 ≤ rv (oth lo hi n r) := by
   have : ¬ lt (oth lo hi n r) ⟨0, 1⟩ := by unfold lt; have q1 : 0 ≤ (oth lo hi n r).n := q1; show ¬ (oth lo hi n r).n * 1 < 0 * (oth lo hi n r).d; omega
   rw [rv_lt (show 0 < (oth lo hi n r).d from q3) Int.one_pos, rv0] at this
   grind
  have l7 : rv (left lo hi n r) = 1 + - rv (oth lo hi n r) := by
   show rv (plus ⟨1, 1⟩ ⟨-(oth lo hi n r).n, (oth lo hi n r).d⟩) = _
   rw [rv_plus (a := ⟨1, 1⟩) (b := ⟨-(oth lo hi n r).n, (oth lo hi n r).d⟩) Int.one_pos q3, rv1, rv_neg]
  grind
theorem own_other {lo hi : Nat → Fr} {n r k : Nat} (h : k ≠ r) : ownF lo hi n r k = updF (gr lo hi r) r ⟨0, 1⟩ k := by
 unfold ownF updF; rw [if_neg h, if_neg h]
theorem FairR.own_in {lo hi : Nat → Fr} {n r : Nat} (h : FairR lo hi n) (hs : Stop lo hi n r) : ∀ k, k < n → 0 ≤ (ownF lo hi n r k).n ∧ (ownF lo hi n r k).n ≤ (ownF lo hi n r k).d ∧ 1 ≤ (ownF lo hi n r k).d ∧ (ownF lo hi n r k).d ≤ 1600000000 ∧ (ownF lo hi n r k).d.toNat ∣ comD lo hi n r := by
 intro k hk
 by_cases e : k = r
 ·subst e
  have ⟨a1, a2, a3, a4⟩ := h.left_in hs.1 hs.2.1
  have a5 := h.left_dvd hs.1
  have e1 : ownF lo hi n k k = left lo hi n k := by unfold ownF updF; rw [if_pos rfl]
  rw [e1]
  refine ⟨a1, a2, a3, a4, ?_⟩
  have : (((left lo hi n k).d.toNat : Nat) : Int) ∣ ((comD lo hi n k : Nat) : Int) := by rwa [Int.toNat_of_nonneg (by omega)]
  exact Int.natCast_dvd_natCast.1 this
 ·rw [own_other e]
  have hc := oth_ch h.lc h.hc r k
  exact ⟨hc.n0, hc.nd, hc.d1, by have := hc.d2; omega, dvd_aD hk⟩
theorem FairR.all {lo hi : Nat → Fr} {n r : Nat} (h : FairR lo hi n) (hs : Stop lo hi n r) {k : Nat} (hk : k ≤ n) : 1 ≤ aD (ownF lo hi n r) k ∧ (aD (ownF lo hi n r) k : Int) ≤ 1600000000 := by
 have h1 := aD_dvd (f := ownF lo hi n r) (n := k) fun j hj => (h.own_in hs j (by omega)).2.2.2.2
 have h2 := h.com hs.1
 have h3 := Nat.le_of_dvd (by omega) h1
 exact ⟨aD_pos fun j hj => (h.own_in hs j (by omega)).2.2.1, by omega⟩
end Go.Od
end
section
set_option linter.unusedSimpArgs false
set_option linter.unusedVariables false
set_option linter.defProp false
set_option maxRecDepth 100000
set_option maxHeartbeats 16000000
namespace Go.Od
open Go.Proofs
open Go.Sx
def chI (f : Nat → Fr) (A : Nat) (i : Nat) : Int := (A : Int).tdiv (f i).d * (f i).n
theorem setR {row : Nat → Nat → SV} {g : Nat → Fr} {n k : Nat} {x : Fr} (h : ∀ i, i < n → row i 0 = ff (g i) 0 ∧ row i 1 = ff (g i) 1) : ∀ i, i < n → (if i = k ∧ 0 ≤ 0 ∧ 0 < 2 then [SV.val (Value.int IntKind.i64 x.n), SV.val (Value.int IntKind.i64 x.d)].getD (0 - 0) SV.top else row i 0) = ff (updF g k x i) 0 ∧ (if i = k ∧ 0 ≤ 1 ∧ 1 < 2 then [SV.val (Value.int IntKind.i64 x.n), SV.val (Value.int IntKind.i64 x.d)].getD (1 - 0) SV.top else row i 1) = ff (updF g k x i) 1 := by
 intro i hi
 by_cases e : i = k
 ·simp [updF, e, ff]
 ·simp [updF, e, h i hi]
theorem grs {lo hi : Nat → Fr} {k j : Nat} {x : Fr} : updF (updF (gr lo hi k) k x) k (hi k) j = gr lo hi (k + 1) j := by
 unfold updF gr
 by_cases e : j = k
 ·subst e; rw [if_pos rfl, if_pos (by omega)]
 ·rw [if_neg e, if_neg e]
  by_cases e2 : j < k
  ·rw [if_pos e2, if_pos (by omega)]
  ·rw [if_neg e2, if_neg (by omega)]
theorem owns {lo hi : Nat → Fr} {n k j : Nat} {x : Fr} : updF (updF (gr lo hi k) k x) k (left lo hi n k) j = ownF lo hi n k j := by
 unfold ownF updF
 by_cases e : j = k
 ·subst e; rw [if_pos rfl, if_pos rfl]
 ·rw [if_neg e, if_neg e, if_neg e]
def st88 (M : Mk) (id did mid n A : Nat) (row3 : Nat → Nat → SV) (rest : List (Nat × Blk)) (z : Nat × Nat × Nat × (Nat → Nat → SV)) : St :=
 match z.1 with
 | 0 => ⟨[(2, .val (.slice none 0 0)), (10, .val (.int .i64 A)), (13, .val (.slice none 0 0)), (101, .vec (id + 9) n 2), (102, .val (.int .i64 n)), (103, .val (.int .i64 0))], (id + 9, .rows 23 2 n row3) :: (did, dkB M (dlo M M.m) (dhi M M.m) mid) :: rest, z.2.2.1⟩
 | u + 1 => ⟨[(2, .val (.slice none 0 0)), (10, .val (.int .i64 A)), (13, .vec z.2.1 (u + 1) 1), (101, .vec (id + 9) n 2), (102, .val (.int .i64 n)), (103, .val (.int .i64 (u + 1 : Nat)))], (z.2.1, .rows 2 1 (u + 1) z.2.2.2) :: (id + 9, .rows 23 2 n row3) :: (did, dkB M (dlo M M.m) (dhi M M.m) mid) :: rest, z.2.2.1⟩
theorem st88_0 (M : Mk) (id did mid n A : Nat) (row3 : Nat → Nat → SV) (rest : List (Nat × Blk)) (rid nid : Nat) (row : Nat → Nat → SV) : st88 M id did mid n A row3 rest (0, rid, nid, row) = ⟨[(2, .val (.slice none 0 0)), (10, .val (.int .i64 A)), (13, .val (.slice none 0 0)), (101, .vec (id + 9) n 2), (102, .val (.int .i64 n)), (103, .val (.int .i64 0))], (id + 9, .rows 23 2 n row3) :: (did, dkB M (dlo M M.m) (dhi M M.m) mid) :: rest, nid⟩ := rfl
theorem st88_s (M : Mk) (id did mid n A : Nat) (row3 : Nat → Nat → SV) (rest : List (Nat × Blk)) (u rid nid : Nat) (row : Nat → Nat → SV) : st88 M id did mid n A row3 rest (u + 1, rid, nid, row) = ⟨[(2, .val (.slice none 0 0)), (10, .val (.int .i64 A)), (13, .vec rid (u + 1) 1), (101, .vec (id + 9) n 2), (102, .val (.int .i64 n)), (103, .val (.int .i64 (u + 1 : Nat)))], (rid, .rows 2 1 (u + 1) row) :: (id + 9, .rows 23 2 n row3) :: (did, dkB M (dlo M M.m) (dhi M M.m) mid) :: rest, nid⟩ := rfl
theorem cp88 (run : Int) (m : Nat) (q : Nat → Qt) (lo hi : Nat → Fr) (mid : Nat) {n : Nat} (hn : n ≤ 5) : oneRows n 2 (fun i j => (dkL run m q lo hi mid).getD (2 + (i * 2 + j)) .top) := by
 intro i j hi hj
 have h5 := five (show i < 5 by omega)
 have : j = 0 ∨ j = 1 := by omega
 rcases h5 with rfl | rfl | rfl | rfl | rfl <;> rcases this with rfl | rfl <;> rfl
theorem e88 (M : Mk) (hf : M.Fine) (n r : Nat) (hn : M.run = n) (hF : FairR (fun k : Nat => loS M.q k M.m) (fun k : Nat => hiS M.q k M.m) n) (hS : Stop (fun k : Nat => loS M.q k M.m) (fun k : Nat => hiS M.q k M.m) n r) (did mid id : Nat) (rest : List (Nat × Blk)) (hd : did < id) (hr : Under rest id) (hrd : blk rest did = none) : EffVC Try.prog 88 [.ptr did 0] ((did, dkB M (dlo M M.m) (dhi M M.m) mid) :: rest) id (fun hp' nid' res => id ≤ nid' ∧ ∃ rid row, id ≤ rid ∧ rid < nid' ∧ (∀ i, i < n → row i 0 = I (chI (ownF (fun k : Nat => loS M.q k M.m) (fun k : Nat => hiS M.q k M.m) n r) (aD (ownF (fun k : Nat => loS M.q k M.m) (fun k : Nat => hiS M.q k M.m) n r) n) i)) ∧ hp' = (rid, .rows 2 1 n row) :: (did, dkB M (dlo M M.m) (dhi M M.m) mid) :: rest ∧ res = .vec rid n 1) := by
 refine eff_of follows Try.func88 rfl (by kernel_rfl) (by kernel_rfl) (by rw [Try.ntmps88]; simp) fun out => ?_
 have hr0 : blk rest id = none := hr.none (Nat.le_refl _)
 have hdr : True := trivial
 have NB : True := trivial
 have NB1 : True := trivial
 have ND := nmA hd
 have hr5 := hF.n5
 have hr1 := hF.n1
 (repeat' (first | with_reducible refine splitVC_d (fun _ => ?_) (fun _ => ?_) | with_reducible refine splitVC (fun _ => ?_) (fun _ => ?_) | ((with_reducible refine And.intro ?_ ?_); focus (first | exact True.intro | omega | (simp only [InK, ne_eq, and_true, true_and]; omega) | exact ⟨.inr trivial, Nat.le_refl _, one1 _, by omega⟩ | exact ⟨.inr trivial, Nat.le_refl _, one1 _, by omega, by kernel_rfl⟩ | trivial)) | (simp -dsimp only [↓RP, RQ, implies_true, forall_const, Nat.reduceMul, reduceIte, reduceCtorEq, Nat.reduceAdd, Nat.reduceEqDiff, Nat.reduceLT, Nat.reduceLeDiff, hn, by23, NB, NB1, ND, hr0, hdr, dk_0, dk_22, dk_len, Nat.add_zero, Nat.add_assoc, self_F1, self_F2, effK_ret, effK_normal, TYe, TYn, TYd, TYm, TYw, QF, FFq, fsv, B, I, by2, RZ, eq_self, TY, Try.results88])))
 refine ⟨⟨by omega, .inr trivial, Nat.le_refl _, cp88 _ _ _ _ _ _ hr5⟩, ?_⟩
 refine loop_vc (fun (z : Nat × Nat × (Nat → Nat → SV)) => z.1 ≤ r ∧ id + 25 ≤ z.2.1 ∧ ∀ i, i < n → z.2.2 i 0 = ff (gr (fun k : Nat => loS M.q k M.m) (fun k : Nat => hiS M.q k M.m) z.1 i) 0 ∧ z.2.2 i 1 = ff (gr (fun k : Nat => loS M.q k M.m) (fun k : Nat => hiS M.q k M.m) z.1 i) 1) (fun z => ⟨[(0, .ptr did 0), (2, .val (.slice none 0 0)), (3, .ptr (id + 2) 0), (4, .vec (id + 9) n 2), (34, .vec (id + 9) n 2), (35, .val (.int .i64 n)), (36, .val (.int .i64 (z.1 : Nat)))], (id + 9, .rows 23 2 n z.2.2) :: (id + 2, .cells 23 [.val (.int .i64 1), .val (.int .i64 1)]) :: (did, dkB M (dlo M M.m) (dhi M M.m) mid) :: rest, z.2.1⟩) (fun z => n - z.1) (0, id + 25, _) ⟨Nat.zero_le _, Nat.le_refl _, ?_⟩ (weakS (by simp [SubFr, Go.Sx.look]) (SubHp.refl _)) fun z hz => ?_
 ·intro i hi
  have h5 := five (show i < 5 by omega)
  have e1 : gr (fun k : Nat => loS M.q k M.m) (fun k : Nat => hiS M.q k M.m) 0 i = dlo M M.m i := by unfold gr dlo; rw [if_neg (by omega), if_pos (by omega)]
  simp only [e1]
  rw [Nat.min_self]
  show (if i < n then (dkL (↑n) M.m M.q (dlo M M.m) (dhi M M.m) mid).getD (2 + (i * 2 + 0)) SV.top else _) = _ ∧ (if i < n then (dkL (↑n) M.m M.q (dlo M M.m) (dhi M M.m) mid).getD (2 + (i * 2 + 1)) SV.top else _) = _
  rw [if_pos hi, if_pos hi]
  rcases h5 with rfl | rfl | rfl | rfl | rfl <;> exact ⟨rfl, rfl⟩
 obtain ⟨k, nid, row⟩ := z
 obtain ⟨z1, z2, z3⟩ := hz
 simp only [] at z1 z2 z3 ⊢
 have s1 := hS.1
 have hk : k < n := by omega
 have hkn : (k : Int) < n := by omega
 have NB := (⟨nmA (show id < nid by omega), nmA (show did < nid by omega), nmA (show id + 2 < nid by omega), nmA (show id + 9 < nid by omega)⟩ : _ ∧ _ ∧ _ ∧ _)
 (repeat' (first | with_reducible refine splitVC_d (fun _ => ?_) (fun _ => ?_) | with_reducible refine splitVC (fun _ => ?_) (fun _ => ?_) | ((with_reducible refine And.intro ?_ ?_); focus (first | exact True.intro | omega | (simp only [InK, ne_eq, and_true, true_and]; omega) | exact ⟨.inr trivial, Nat.le_refl _, one1 _, by omega⟩ | exact ⟨.inr trivial, Nat.le_refl _, one1 _, by omega, by kernel_rfl⟩ | trivial)) | (simp -dsimp only [↓RP, RQ, implies_true, forall_const, Nat.reduceMul, reduceIte, reduceCtorEq, Nat.reduceAdd, Nat.reduceEqDiff, Nat.reduceLT, Nat.reduceLeDiff, by23, NB, NB1, ND, hr0, hdr, dk_0, dk_22, dk_len, Nat.add_zero, Nat.add_assoc, self_F1, self_F2, effK_ret, effK_normal, TYe, TYn, TYd, TYm, TYw, QF, FFq, fsv, B, I, by2, RZ, eq_self, TY, Try.results88])))
 all_goals first | (exfalso; omega) | skip
 refine loop_vc (fun (z : Nat × Nat × (Nat → Nat → SV)) => z.1 ≤ n ∧ nid + 14 ≤ z.2.1 ∧ ∀ i, i < n → z.2.2 i 0 = ff ((updF (gr (fun k : Nat => loS M.q k M.m) (fun k : Nat => hiS M.q k M.m) k) k ⟨0, 1⟩) i) 0 ∧ z.2.2 i 1 = ff ((updF (gr (fun k : Nat => loS M.q k M.m) (fun k : Nat => hiS M.q k M.m) k) k ⟨0, 1⟩) i) 1) (fun z => ⟨[(0, .ptr did 0), (2, .val (.slice none 0 0)), (3, .ptr (id + 2) 0), (4, .vec (id + 9) n 2), (34, .vec (id + 9) n 2), (35, .val (.int .i64 n)), (36, .val (.int .i64 (k : Nat))), (5, .val (.int .i64 (k : Nat))), (6, .ptr (nid + 9) 0), (44, .vec (id + 9) n 2), (45, .val (.int .i64 n)), (46, .val (.int .i64 (z.1 : Nat)))], (nid + 9, .cells 23 [.val (.int .i64 (sumF (updF (gr (fun k : Nat => loS M.q k M.m) (fun k : Nat => hiS M.q k M.m) k) k ⟨0, 1⟩) z.1).n), .val (.int .i64 (sumF (updF (gr (fun k : Nat => loS M.q k M.m) (fun k : Nat => hiS M.q k M.m) k) k ⟨0, 1⟩) z.1).d)]) :: (id + 9, .rows 23 2 n z.2.2) :: (id + 2, .cells 23 [.val (.int .i64 1), .val (.int .i64 1)]) :: (did, dkB M (dlo M M.m) (dhi M M.m) mid) :: rest, z.2.1⟩) (fun z => n - z.1) (0, nid + 14, _) ⟨Nat.zero_le _, Nat.le_refl _, ?_⟩ (weakS (by simp [SubFr, Go.Sx.look]) (SubHp.refl _)) fun z hz => ?_
 ·intro i hi
  exact setR (x := ⟨0, 1⟩) z3 i hi
 obtain ⟨i, nid2, row2⟩ := z
 obtain ⟨y1, y2, y3⟩ := hz
 simp only [] at y1 y2 y3 ⊢
 have NB1 := (⟨nmA (show id < nid2 by omega), nmA (show did < nid2 by omega), nmA (show id + 2 < nid2 by omega), nmA (show id + 9 < nid2 by omega), nmA (show nid + 9 < nid2 by omega)⟩ : _ ∧ _ ∧ _ ∧ _ ∧ _)
 have och := fun j => oth_ch hF.lc hF.hc k j
 by_cases hlt : i < n
 ·have hltI : (i : Int) < n := by omega
  have ⟨g0, g1⟩ := y3 i hlt
  have ⟨m1, m2, m3⟩ := plus_in (f := (updF (gr (fun k : Nat => loS M.q k M.m) (fun k : Nat => hiS M.q k M.m) k) k ⟨0, 1⟩)) (i := i) (by omega) fun j _ => och j
  (repeat' (first | with_reducible refine splitVC_d (fun _ => ?_) (fun _ => ?_) | with_reducible refine splitVC (fun _ => ?_) (fun _ => ?_) | ((with_reducible refine And.intro ?_ ?_); focus (first | exact True.intro | omega | (simp only [InK, ne_eq, and_true, true_and]; omega) | exact ⟨.inr trivial, Nat.le_refl _, one1 _, by omega⟩ | exact ⟨.inr trivial, Nat.le_refl _, one1 _, by omega, by kernel_rfl⟩ | trivial)) | (simp -dsimp only [↓RP, RQ, implies_true, forall_const, Nat.reduceMul, reduceIte, reduceCtorEq, Nat.reduceAdd, Nat.reduceEqDiff, Nat.reduceLT, Nat.reduceLeDiff, by23, g0, g1, NB, NB1, ND, hr0, hdr, dk_0, dk_22, dk_len, Nat.add_zero, Nat.add_assoc, self_F1, self_F2, effK_ret, effK_normal, TYe, TYn, TYd, TYm, TYw, QF, FFq, fsv, B, I, by2, RZ, eq_self, TY, Try.results88])))
  all_goals first | (exfalso; omega) | skip
  refine callVC (c99 (sumF (updF (gr (fun k : Nat => loS M.q k M.m) (fun k : Nat => hiS M.q k M.m) k) k ⟨0, 1⟩) i) ((updF (gr (fun k : Nat => loS M.q k M.m) (fun k : Nat => hiS M.q k M.m) k) k ⟨0, 1⟩) i) (by omega) (by omega) (by omega) (by omega)) (by (simp -dsimp only [↓RP, RQ, implies_true, forall_const, Nat.reduceMul, reduceIte, reduceCtorEq, Nat.reduceAdd, Nat.reduceEqDiff, Nat.reduceLT, Nat.reduceLeDiff, fsv, Go.Od.ints, I, B]); all_goals (try simp)) (by (simp -dsimp only [↓RP, RQ, implies_true, forall_const, Nat.reduceMul, reduceIte, reduceCtorEq, Nat.reduceAdd, Nat.reduceEqDiff, Nat.reduceLT, Nat.reduceLeDiff, fsv, I])) ?_
  rw [show plus (sumF (updF (gr (fun k : Nat => loS M.q k M.m) (fun k : Nat => hiS M.q k M.m) k) k ⟨0, 1⟩) i) ((updF (gr (fun k : Nat => loS M.q k M.m) (fun k : Nat => hiS M.q k M.m) k) k ⟨0, 1⟩) i) = sumF (updF (gr (fun k : Nat => loS M.q k M.m) (fun k : Nat => hiS M.q k M.m) k) k ⟨0, 1⟩) (i + 1) from rfl]
  (repeat' (first | with_reducible refine splitVC_d (fun _ => ?_) (fun _ => ?_) | with_reducible refine splitVC (fun _ => ?_) (fun _ => ?_) | ((with_reducible refine And.intro ?_ ?_); focus (first | exact True.intro | omega | (simp only [InK, ne_eq, and_true, true_and]; omega) | exact ⟨.inr trivial, Nat.le_refl _, one1 _, by omega⟩ | exact ⟨.inr trivial, Nat.le_refl _, one1 _, by omega, by kernel_rfl⟩ | trivial)) | (simp -dsimp only [↓RP, RQ, implies_true, forall_const, Nat.reduceMul, reduceIte, reduceCtorEq, Nat.reduceAdd, Nat.reduceEqDiff, Nat.reduceLT, Nat.reduceLeDiff, by23, NB, NB1, ND, hr0, hdr, dk_0, dk_22, dk_len, Nat.add_zero, Nat.add_assoc, self_F1, self_F2, effK_ret, effK_normal, TYe, TYn, TYd, TYm, TYw, QF, FFq, fsv, B, I, by2, RZ, eq_self, TY, Try.results88])))
  all_goals first | (exfalso; omega) | skip
  refine ⟨(i + 1, nid2 + 11, row2), ⟨by simp only []; omega, by simp only []; omega, y3⟩, by simp only []; omega, ?_⟩
  refine weakS (by simp [SubFr, Go.Sx.look]) ?_
  refine SubHp.skip ?_ (SubHp.refl _)
  simp only [blk]
  rw [if_neg (by omega), if_neg (by omega), if_neg (by omega), if_neg (by omega)]
  exact hr.none (by omega)
 ·have e : i = n := by omega
  subst e
  clear hlt
  have ⟨⟨b1, b2⟩, b3, b4⟩ := one_in (f := (updF (gr (fun k : Nat => loS M.q k M.m) (fun k : Nat => hiS M.q k M.m) k) k ⟨0, 1⟩)) (n := i) hr5 fun j _ => och j
  have ⟨l1, l2, l3, l4⟩ := hF.left_in hk fun j hj => hS.2.1 j (by omega)
  have k5 : k < 5 := by omega
  have ⟨_, _, b5, _⟩ := sumF_bd (f := (updF (gr (fun k : Nat => loS M.q k M.m) (fun k : Nat => hiS M.q k M.m) k) k ⟨0, 1⟩)) (i := i) fun j _ => och j
  have gh := dk_hi M.run M.m M.q (dlo M M.m) (dhi M M.m) mid k5
  have ehi : dhi M M.m k = hiS M.q k M.m := by unfold dhi; rw [if_pos (by omega)]
  rw [ehi] at gh
  have hch := hF.hc k
  have hc1 := hch.n0
  have hc2 := hch.nd
  have hc3 := hch.d1
  have hc4 := hch.d2
  have n1 := mul_in (hiS M.q k M.m).n (left (fun k : Nat => loS M.q k M.m) (fun k : Nat => hiS M.q k M.m) i k).d 200 1600000000 hc1 (by omega) (by omega) l4
  have n2 := mul_in (left (fun k : Nat => loS M.q k M.m) (fun k : Nat => hiS M.q k M.m) i k).n (hiS M.q k M.m).d 1600000000 200 l1 (by omega) (by omega) hc4
  (repeat' (first | with_reducible refine splitVC_d (fun _ => ?_) (fun _ => ?_) | with_reducible refine splitVC (fun _ => ?_) (fun _ => ?_) | ((with_reducible refine And.intro ?_ ?_); focus (first | exact True.intro | omega | (simp only [InK, ne_eq, and_true, true_and]; omega) | exact ⟨.inr trivial, Nat.le_refl _, one1 _, by omega⟩ | exact ⟨.inr trivial, Nat.le_refl _, one1 _, by omega, by kernel_rfl⟩ | trivial)) | (simp -dsimp only [↓RP, RQ, implies_true, forall_const, Nat.reduceMul, reduceIte, reduceCtorEq, Nat.reduceAdd, Nat.reduceEqDiff, Nat.reduceLT, Nat.reduceLeDiff, by23, Int.zero_sub, NB, NB1, ND, hr0, hdr, dk_0, dk_22, dk_len, Nat.add_zero, Nat.add_assoc, self_F1, self_F2, effK_ret, effK_normal, TYe, TYn, TYd, TYm, TYw, QF, FFq, fsv, B, I, by2, RZ, eq_self, TY, Try.results88])))
  all_goals first | (exfalso; omega) | skip
  skip
  refine callVC (c99 ⟨1, 1⟩ ⟨-(sumF (updF (gr (fun k : Nat => loS M.q k M.m) (fun k : Nat => hiS M.q k M.m) k) k ⟨0, 1⟩) i).n, (sumF (updF (gr (fun k : Nat => loS M.q k M.m) (fun k : Nat => hiS M.q k M.m) k) k ⟨0, 1⟩) i).d⟩ (by show _ ≤ 1 * (sumF (updF (gr (fun k : Nat => loS M.q k M.m) (fun k : Nat => hiS M.q k M.m) k) k ⟨0, 1⟩) i).d ∧ 1 * (sumF (updF (gr (fun k : Nat => loS M.q k M.m) (fun k : Nat => hiS M.q k M.m) k) k ⟨0, 1⟩) i).d ≤ _; omega) (by show _ ≤ -(sumF (updF (gr (fun k : Nat => loS M.q k M.m) (fun k : Nat => hiS M.q k M.m) k) k ⟨0, 1⟩) i).n * 1 ∧ -(sumF (updF (gr (fun k : Nat => loS M.q k M.m) (fun k : Nat => hiS M.q k M.m) k) k ⟨0, 1⟩) i).n * 1 ≤ _; omega) (by show _ ≤ 1 * (sumF (updF (gr (fun k : Nat => loS M.q k M.m) (fun k : Nat => hiS M.q k M.m) k) k ⟨0, 1⟩) i).d + -(sumF (updF (gr (fun k : Nat => loS M.q k M.m) (fun k : Nat => hiS M.q k M.m) k) k ⟨0, 1⟩) i).n * 1; omega) (by show 1 ≤ 1 * (sumF (updF (gr (fun k : Nat => loS M.q k M.m) (fun k : Nat => hiS M.q k M.m) k) k ⟨0, 1⟩) i).d ∧ 1 * (sumF (updF (gr (fun k : Nat => loS M.q k M.m) (fun k : Nat => hiS M.q k M.m) k) k ⟨0, 1⟩) i).d ≤ _; omega)) (by (simp -dsimp only [↓RP, RQ, implies_true, forall_const, Nat.reduceMul, reduceIte, reduceCtorEq, Nat.reduceAdd, Nat.reduceEqDiff, Nat.reduceLT, Nat.reduceLeDiff, fsv, Go.Od.ints, I, B]); all_goals (try simp)) (by (simp -dsimp only [↓RP, RQ, implies_true, forall_const, Nat.reduceMul, reduceIte, reduceCtorEq, Nat.reduceAdd, Nat.reduceEqDiff, Nat.reduceLT, Nat.reduceLeDiff, fsv, I])) ?_
  rw [show plus ⟨1, 1⟩ ⟨-(sumF (updF (gr (fun k : Nat => loS M.q k M.m) (fun k : Nat => hiS M.q k M.m) k) k ⟨0, 1⟩) i).n, (sumF (updF (gr (fun k : Nat => loS M.q k M.m) (fun k : Nat => hiS M.q k M.m) k) k ⟨0, 1⟩) i).d⟩ = left (fun k : Nat => loS M.q k M.m) (fun k : Nat => hiS M.q k M.m) i k from rfl]
  (repeat' (first | with_reducible refine splitVC_d (fun _ => ?_) (fun _ => ?_) | with_reducible refine splitVC (fun _ => ?_) (fun _ => ?_) | ((with_reducible refine And.intro ?_ ?_); focus (first | exact True.intro | omega | (simp only [InK, ne_eq, and_true, true_and]; omega) | exact ⟨.inr trivial, Nat.le_refl _, one1 _, by omega⟩ | exact ⟨.inr trivial, Nat.le_refl _, one1 _, by omega, by kernel_rfl⟩ | trivial)) | (simp -dsimp only [↓RP, RQ, implies_true, forall_const, Nat.reduceMul, reduceIte, reduceCtorEq, Nat.reduceAdd, Nat.reduceEqDiff, Nat.reduceLT, Nat.reduceLeDiff, by23, gh, NB, NB1, ND, hr0, hdr, dk_0, dk_22, dk_len, Nat.add_zero, Nat.add_assoc, self_F1, self_F2, effK_ret, effK_normal, TYe, TYn, TYd, TYm, TYw, QF, FFq, fsv, B, I, by2, RZ, eq_self, TY, Try.results88])))
  all_goals first | (exfalso; omega) | skip
  refine callVC (c66 (hiS M.q k M.m) (left (fun k : Nat => loS M.q k M.m) (fun k : Nat => hiS M.q k M.m) i k) (by simp only [InK]; omega) (by simp only [InK]; omega)) (by (simp -dsimp only [↓RP, RQ, implies_true, forall_const, Nat.reduceMul, reduceIte, reduceCtorEq, Nat.reduceAdd, Nat.reduceEqDiff, Nat.reduceLT, Nat.reduceLeDiff, gh, fsv, Go.Od.ints, I, B]); all_goals (try simp)) (by (simp -dsimp only [↓RP, RQ, implies_true, forall_const, Nat.reduceMul, reduceIte, reduceCtorEq, Nat.reduceAdd, Nat.reduceEqDiff, Nat.reduceLT, Nat.reduceLeDiff, B])) ?_
  (repeat' (first | with_reducible refine splitVC_d (fun _ => ?_) (fun _ => ?_) | with_reducible refine splitVC (fun _ => ?_) (fun _ => ?_) | ((with_reducible refine And.intro ?_ ?_); focus (first | exact True.intro | omega | (simp only [InK, ne_eq, and_true, true_and]; omega) | exact ⟨.inr trivial, Nat.le_refl _, one1 _, by omega⟩ | exact ⟨.inr trivial, Nat.le_refl _, one1 _, by omega, by kernel_rfl⟩ | trivial)) | (simp -dsimp only [↓RP, RQ, implies_true, forall_const, Nat.reduceMul, reduceIte, reduceCtorEq, Nat.reduceAdd, Nat.reduceEqDiff, Nat.reduceLT, Nat.reduceLeDiff, by23, gh, NB, NB1, ND, hr0, hdr, dk_0, dk_22, dk_len, Nat.add_zero, Nat.add_assoc, self_F1, self_F2, effK_ret, effK_normal, TYe, TYn, TYd, TYm, TYw, QF, FFq, fsv, B, I, by2, RZ, eq_self, TY, Try.results88])))
  all_goals first | (exfalso; omega) | skip
  ·rename_i hb
   have hkr : k ≠ r := fun e => hS.2.2 (e ▸ hb)
   refine ⟨(k + 1, nid2 + 32, fun a b => if a = k ∧ 0 ≤ b ∧ b < 2 then [SV.val (Value.int IntKind.i64 (hiS M.q k M.m).n), SV.val (Value.int IntKind.i64 (hiS M.q k M.m).d)].getD (b - 0) SV.top else row2 a b), ⟨by simp only []; omega, by simp only []; omega, ?_⟩, by simp only []; omega, ?_⟩
   rotate_left
   ·refine weakS (by simp [SubFr, Go.Sx.look]) ?_
    refine SubHp.skip ?_ (SubHp.skip ?_ (SubHp.refl _))
    ·simp only [blk]
     rw [if_neg (by omega), if_neg (by omega), if_neg (by omega)]
     exact hr.none (by omega)
    ·simp only [blk]
     rw [if_neg (by omega), if_neg (by omega), if_neg (by omega)]
     exact hr.none (by omega)
   ·intro j hj
    have := setR (k := k) (x := hiS M.q k M.m) y3 j hj
    rw [grs] at this
    exact this
  rename_i hb
  obtain rfl : k = r := by
   by_cases e : k = r
   ·exact e
   ·exact absurd (hS.2.1 k (by omega)) hb
  clear b1 b2 b3 b4 b5 l1 l2 l3 l4 hc1 hc2 hc3 hc4 n1 n2 gh
  refine loop_vc (fun (z : Nat × Nat × (Nat → Nat → SV)) => z.1 ≤ i ∧ nid2 + 29 ≤ z.2.1 ∧ ∀ j, j < i → z.2.2 j 0 = ff ((ownF (fun k : Nat => loS M.q k M.m) (fun k : Nat => hiS M.q k M.m) i k) j) 0 ∧ z.2.2 j 1 = ff ((ownF (fun k : Nat => loS M.q k M.m) (fun k : Nat => hiS M.q k M.m) i k) j) 1) (fun z => ⟨[(2, .val (.slice none 0 0)), (4, .vec (id + 9) i 2), (10, .val (.int .i64 (aD (ownF (fun k : Nat => loS M.q k M.m) (fun k : Nat => hiS M.q k M.m) i k) z.1 : Nat))), (85, .vec (id + 9) i 2), (86, .val (.int .i64 i)), (87, .val (.int .i64 (z.1 : Nat)))], (id + 9, .rows 23 2 i z.2.2) :: (did, dkB M (dlo M M.m) (dhi M M.m) mid) :: rest, z.2.1⟩) (fun z => i - z.1) (0, nid2 + 29, fun a b => if a = k ∧ 0 ≤ b ∧ b < 2 then [SV.val (Value.int IntKind.i64 (left (fun k : Nat => loS M.q k M.m) (fun k : Nat => hiS M.q k M.m) i k).n), SV.val (Value.int IntKind.i64 (left (fun k : Nat => loS M.q k M.m) (fun k : Nat => hiS M.q k M.m) i k).d)].getD (b - 0) SV.top else row2 a b) ⟨Nat.zero_le _, Nat.le_refl _, ?_⟩ (weakS (by simp [SubFr, Go.Sx.look]; rfl) ?_) fun z hz => ?_
  ·intro j hj
   have := setR (k := k) (x := left (fun k : Nat => loS M.q k M.m) (fun k : Nat => hiS M.q k M.m) i k) y3 j hj
   rw [owns] at this
   exact this
  ·refine SubHp.skip ?_ (SubHp.skip ?_ (SubHp.cons (SubHp.skip ?_ (SubHp.refl _))))
   ·simp only [blk]
    rw [if_neg (by omega), if_neg (by omega)]
    exact hr.none (by omega)
   ·simp only [blk]
    rw [if_neg (by omega), if_neg (by omega)]
    exact hr.none (by omega)
   ·simp only [blk]
    rw [if_neg (by omega)]
    exact hr.none (by omega)
  obtain ⟨t, nid3, row3⟩ := z
  obtain ⟨x1, x2, x3⟩ := hz
  simp only [] at x1 x2 x3 ⊢
  have NB2 := (⟨nmA (show id < nid3 by omega), nmA (show did < nid3 by omega), nmA (show id + 9 < nid3 by omega)⟩ : _ ∧ _ ∧ _)
  clear NB NB1 z3 y3
  have NB := NB2
  have NB1 : True := trivial
  have ⟨al1, al2⟩ := hF.all hS x1
  by_cases hlt : t < i
  ·have ⟨g0, g1⟩ := x3 t hlt
   have ⟨w1, w2, w3, w4, w5⟩ := hF.own_in hS t hlt
   have ⟨al3, al4⟩ := hF.all hS (k := t + 1) (by omega)
   obtain ⟨dn, ed⟩ : ∃ dn : Nat, ((ownF (fun k : Nat => loS M.q k M.m) (fun k : Nat => hiS M.q k M.m) i k) t).d = dn := ⟨_, (Int.toNat_of_nonneg (by omega)).symm⟩
   have ea : aD (ownF (fun k : Nat => loS M.q k M.m) (fun k : Nat => hiS M.q k M.m) i k) (t + 1) = aD (ownF (fun k : Nat => loS M.q k M.m) (fun k : Nat => hiS M.q k M.m) i k) t / Nat.gcd (aD (ownF (fun k : Nat => loS M.q k M.m) (fun k : Nat => hiS M.q k M.m) i k) t) dn * dn := by rw [lcm_form]; show Nat.lcm _ ((ownF (fun k : Nat => loS M.q k M.m) (fun k : Nat => hiS M.q k M.m) i k) t).d.toNat = _; rw [ed]; rfl
   rw [ed] at w2 w3 w4
   rw [show ff ((ownF (fun k : Nat => loS M.q k M.m) (fun k : Nat => hiS M.q k M.m) i k) t) 1 = .val (.int .i64 (dn : Int)) from by rw [← ed]; rfl] at g1
   have kg := c87w (aD (ownF (fun k : Nat => loS M.q k M.m) (fun k : Nat => hiS M.q k M.m) i k) t) dn (by omega) (by omega)
   have gpos : 0 < Nat.gcd (aD (ownF (fun k : Nat => loS M.q k M.m) (fun k : Nat => hiS M.q k M.m) i k) t) dn := Nat.gcd_pos_of_pos_right _ (by omega)
   have gne : ((Nat.gcd (aD (ownF (fun k : Nat => loS M.q k M.m) (fun k : Nat => hiS M.q k M.m) i k) t) dn : Nat) : Int) ≠ 0 := by omega
   have e3 : (aD (ownF (fun k : Nat => loS M.q k M.m) (fun k : Nat => hiS M.q k M.m) i k) t : Int).tdiv (Nat.gcd (aD (ownF (fun k : Nat => loS M.q k M.m) (fun k : Nat => hiS M.q k M.m) i k) t) dn : Nat) * (dn : Nat) = (aD (ownF (fun k : Nat => loS M.q k M.m) (fun k : Nat => hiS M.q k M.m) i k) (t + 1) : Nat) := by rw [ea, tdN, Int.natCast_mul]
   have e4 : 0 ≤ (aD (ownF (fun k : Nat => loS M.q k M.m) (fun k : Nat => hiS M.q k M.m) i k) t : Int).tdiv (Nat.gcd (aD (ownF (fun k : Nat => loS M.q k M.m) (fun k : Nat => hiS M.q k M.m) i k) t) dn : Nat) ∧ (aD (ownF (fun k : Nat => loS M.q k M.m) (fun k : Nat => hiS M.q k M.m) i k) t : Int).tdiv (Nat.gcd (aD (ownF (fun k : Nat => loS M.q k M.m) (fun k : Nat => hiS M.q k M.m) i k) t) dn : Nat) ≤ (aD (ownF (fun k : Nat => loS M.q k M.m) (fun k : Nat => hiS M.q k M.m) i k) t : Nat) := by
    rw [tdN]; exact ⟨Int.natCast_nonneg _, Int.ofNat_le.2 (Nat.div_le_self _ _)⟩
   clear ea w5
   (repeat' (first | with_reducible refine splitVC_d (fun _ => ?_) (fun _ => ?_) | with_reducible refine splitVC (fun _ => ?_) (fun _ => ?_) | ((with_reducible refine And.intro ?_ ?_); focus (first | exact True.intro | omega | (simp only [InK, ne_eq, and_true, true_and]; omega) | exact ⟨.inr trivial, Nat.le_refl _, one1 _, by omega⟩ | exact ⟨.inr trivial, Nat.le_refl _, one1 _, by omega, by kernel_rfl⟩ | trivial)) | (simp -dsimp only [↓RP, RQ, implies_true, forall_const, Nat.reduceMul, reduceIte, reduceCtorEq, Nat.reduceAdd, Nat.reduceEqDiff, Nat.reduceLT, Nat.reduceLeDiff, by23, g0, g1, NB, NB1, ND, hr0, hdr, dk_0, dk_22, dk_len, Nat.add_zero, Nat.add_assoc, self_F1, self_F2, effK_ret, effK_normal, TYe, TYn, TYd, TYm, TYw, QF, FFq, fsv, B, I, by2, RZ, eq_self, TY, Try.results88])))
   all_goals first | (exfalso; omega) | skip
   refine callVC kg (by (simp -dsimp only [↓RP, RQ, implies_true, forall_const, Nat.reduceMul, reduceIte, reduceCtorEq, Nat.reduceAdd, Nat.reduceEqDiff, Nat.reduceLT, Nat.reduceLeDiff, Go.Od.ints, I]); all_goals (try simp)) (by (simp -dsimp only [↓RP, RQ, implies_true, forall_const, Nat.reduceMul, reduceIte, reduceCtorEq, Nat.reduceAdd, Nat.reduceEqDiff, Nat.reduceLT, Nat.reduceLeDiff, fsv, I])) ?_
   (repeat' (first | with_reducible refine splitVC_d (fun _ => ?_) (fun _ => ?_) | with_reducible refine splitVC (fun _ => ?_) (fun _ => ?_) | ((with_reducible refine And.intro ?_ ?_); focus (first | exact True.intro | omega | (simp only [InK, ne_eq, and_true, true_and]; omega) | exact ⟨.inr trivial, Nat.le_refl _, one1 _, by omega⟩ | exact ⟨.inr trivial, Nat.le_refl _, one1 _, by omega, by kernel_rfl⟩ | trivial)) | (simp -dsimp only [↓RP, RQ, implies_true, forall_const, Nat.reduceMul, reduceIte, reduceCtorEq, Nat.reduceAdd, Nat.reduceEqDiff, Nat.reduceLT, Nat.reduceLeDiff, by23, g0, g1, e3, NB, NB1, ND, hr0, hdr, dk_0, dk_22, dk_len, Nat.add_zero, Nat.add_assoc, self_F1, self_F2, effK_ret, effK_normal, TYe, TYn, TYd, TYm, TYw, QF, FFq, fsv, B, I, by2, RZ, eq_self, TY, Try.results88])))
   all_goals first | (exfalso; omega) | skip
   refine ⟨(t + 1, nid3 + 17, row3), ⟨by simp only []; omega, by simp only []; omega, x3⟩, by simp only []; omega, ?_⟩
   refine weakS (by simp [SubFr, Go.Sx.look]) ?_
   refine SubHp.skip ?_ (SubHp.refl _)
   simp only [blk]
   rw [if_neg (by omega), if_neg (by omega)]
   exact hr.none (by omega)
  ·have e : t = i := by omega
   subst e
   clear hlt
   (repeat' (first | with_reducible refine splitVC_d (fun _ => ?_) (fun _ => ?_) | with_reducible refine splitVC (fun _ => ?_) (fun _ => ?_) | ((with_reducible refine And.intro ?_ ?_); focus (first | exact True.intro | omega | (simp only [InK, ne_eq, and_true, true_and]; omega) | exact ⟨.inr trivial, Nat.le_refl _, one1 _, by omega⟩ | exact ⟨.inr trivial, Nat.le_refl _, one1 _, by omega, by kernel_rfl⟩ | trivial)) | (simp -dsimp only [↓RP, RQ, implies_true, forall_const, Nat.reduceMul, reduceIte, reduceCtorEq, Nat.reduceAdd, Nat.reduceEqDiff, Nat.reduceLT, Nat.reduceLeDiff, by23, NB, NB1, ND, hr0, hdr, dk_0, dk_22, dk_len, Nat.add_zero, Nat.add_assoc, self_F1, self_F2, effK_ret, effK_normal, TYe, TYn, TYd, TYm, TYw, QF, FFq, fsv, B, I, by2, RZ, eq_self, TY, Try.results88])))
   all_goals first | (exfalso; omega) | skip
   obtain ⟨A, eA⟩ : ∃ A, aD (ownF (fun k : Nat => loS M.q k M.m) (fun k : Nat => hiS M.q k M.m) t k) t = A := ⟨_, rfl⟩
   have dA : ∀ j, j < t → ((ownF (fun k : Nat => loS M.q k M.m) (fun k : Nat => hiS M.q k M.m) t k) j).d.toNat ∣ A := fun j hj => eA ▸ dvd_aD hj
   rw [eA] at al1 al2 ⊢
   refine loop_vc (fun (z : Nat × Nat × Nat × (Nat → Nat → SV)) => z.1 ≤ t ∧ nid3 + 5 ≤ z.2.2.1 ∧ (0 < z.1 → id + 10 ≤ z.2.1 ∧ z.2.1 < z.2.2.1) ∧ ∀ i, i < z.1 → z.2.2.2 i 0 = I (chI (ownF (fun k : Nat => loS M.q k M.m) (fun k : Nat => hiS M.q k M.m) t k) A i)) (st88 M id did mid t A row3 rest) (fun z => t - z.1) (0, 0, nid3 + 5, fun _ _ => .top) ⟨by simp only []; omega, by simp only []; omega, fun h => by simp only [] at h; omega, fun i h => by simp only [] at h; omega⟩ (by rw [st88_0]; exact weakS (by simp [SubFr, Go.Sx.look]) (SubHp.refl _)) fun z hz => ?_
   obtain ⟨u, rid, nid4, row4⟩ := z
   obtain ⟨v1, v2, v3, v4⟩ := hz
   simp only [] at v1 v2 v3 v4
   clear NB NB1 NB2
   have NB := (⟨nmA (show id < nid4 by omega), nmA (show did < nid4 by omega), nmA (show id + 9 < nid4 by omega)⟩ : _ ∧ _ ∧ _)
   have NB1 : True := trivial
   by_cases hlt : u < t
   ·have ⟨g0, g1⟩ := x3 u hlt
    have ⟨w1, w2, w3, w4, w5⟩ := hF.own_in hS u hlt
    obtain ⟨v, ev⟩ : ∃ v, (A : Int).tdiv ((ownF (fun k : Nat => loS M.q k M.m) (fun k : Nat => hiS M.q k M.m) t k) u).d = v := ⟨_, rfl⟩
    have e4 : 0 ≤ v ∧ v ≤ A := by
     rw [← ev, show ((ownF (fun k : Nat => loS M.q k M.m) (fun k : Nat => hiS M.q k M.m) t k) u).d = (((ownF (fun k : Nat => loS M.q k M.m) (fun k : Nat => hiS M.q k M.m) t k) u).d.toNat : Nat) from (Int.toNat_of_nonneg (by omega)).symm, tdN]; exact ⟨Int.natCast_nonneg _, Int.ofNat_le.2 (Nat.div_le_self _ _)⟩
    have n1 := mul_in v ((ownF (fun k : Nat => loS M.q k M.m) (fun k : Nat => hiS M.q k M.m) t k) u).n 1600000000 1600000000 e4.1 w1 (by omega) (by omega)
    have dne : ((ownF (fun k : Nat => loS M.q k M.m) (fun k : Nat => hiS M.q k M.m) t k) u).d ≠ 0 := by omega
    clear w5 dA
    cases u with
    | zero =>
     rw [st88_0]
     (repeat' (first | with_reducible refine splitVC_d (fun _ => ?_) (fun _ => ?_) | with_reducible refine splitVC (fun _ => ?_) (fun _ => ?_) | ((with_reducible refine And.intro ?_ ?_); focus (first | exact True.intro | omega | (simp only [InK, ne_eq, and_true, true_and]; omega) | exact ⟨.inr trivial, Nat.le_refl _, one1 _, by omega⟩ | exact ⟨.inr trivial, Nat.le_refl _, one1 _, by omega, by kernel_rfl⟩ | trivial)) | (simp -dsimp only [↓RP, RQ, implies_true, forall_const, Nat.reduceMul, reduceIte, reduceCtorEq, Nat.reduceAdd, Nat.reduceEqDiff, Nat.reduceLT, Nat.reduceLeDiff, by23, g0, g1, ev, NB, NB1, ND, hr0, hdr, dk_0, dk_22, dk_len, Nat.add_zero, Nat.add_assoc, self_F1, self_F2, effK_ret, effK_normal, TYe, TYn, TYd, TYm, TYw, QF, FFq, fsv, B, I, by2, RZ, eq_self, TY, Try.results88])))
     all_goals first | (exfalso; omega) | skip
     refine ⟨(0 + 1, nid4 + 14, nid4 + 18, fun i j => [SV.val (.int .i64 (v * ((ownF (fun k : Nat => loS M.q k M.m) (fun k : Nat => hiS M.q k M.m) t k) 0).n))].getD (i + j) SV.top), ⟨by simp only []; omega, by simp only []; omega, fun _ => by simp only []; omega, fun i hi => ?_⟩, by simp only []; omega, ?_⟩
     rotate_left
     ·rw [st88_s]
      refine weakS (by simp [SubFr, Go.Sx.look]) (SubHp.cons (SubHp.skip ?_ (SubHp.skip ?_ (SubHp.refl _))))
      ·simp only [blk]
       rw [if_neg (by omega), if_neg (by omega)]
       exact hr.none (by omega)
      ·simp only [blk]
       rw [if_neg (by omega), if_neg (by omega)]
       exact hr.none (by omega)
     ·have e : i = 0 := by simp only [] at hi; omega
      subst e
      show SV.val (.int .i64 (v * ((ownF (fun k : Nat => loS M.q k M.m) (fun k : Nat => hiS M.q k M.m) t k) 0).n)) = _
      rw [← ev]; rfl
    | succ u =>
     have ⟨z5, z6⟩ := v3 (by omega)
     have NB1 := (⟨nmE (show rid ≠ id by omega), nmE (show rid ≠ did by omega), nmE (show rid ≠ id + 9 by omega), nmA z6⟩ : _ ∧ _ ∧ _ ∧ _)
     have hdr : dropBlk rest rid = rest := dropBlk_none (hr.none (by omega))
     rw [st88_s]
     (repeat' (first | with_reducible refine splitVC_d (fun _ => ?_) (fun _ => ?_) | with_reducible refine splitVC (fun _ => ?_) (fun _ => ?_) | ((with_reducible refine And.intro ?_ ?_); focus (first | exact True.intro | omega | (simp only [InK, ne_eq, and_true, true_and]; omega) | exact ⟨.inr trivial, Nat.le_refl _, one1 _, by omega⟩ | exact ⟨.inr trivial, Nat.le_refl _, one1 _, by omega, by kernel_rfl⟩ | trivial)) | (simp -dsimp only [↓RP, RQ, implies_true, forall_const, Nat.reduceMul, reduceIte, reduceCtorEq, Nat.reduceAdd, Nat.reduceEqDiff, Nat.reduceLT, Nat.reduceLeDiff, by23, g0, g1, ev, NB, NB1, ND, hr0, hdr, dk_0, dk_22, dk_len, Nat.add_zero, Nat.add_assoc, self_F1, self_F2, effK_ret, effK_normal, TYe, TYn, TYd, TYm, TYw, QF, FFq, fsv, B, I, by2, RZ, eq_self, TY, Try.results88])))
     all_goals first | (exfalso; omega) | skip
     refine ⟨(u + 1 + 1, nid4 + 14, nid4 + 18, fun i j => if i < u + 1 then row4 i j else [SV.val (.int .i64 (v * ((ownF (fun k : Nat => loS M.q k M.m) (fun k : Nat => hiS M.q k M.m) t k) (u + 1)).n))].getD (i - (u + 1) + j) SV.top), ⟨by simp only []; omega, by simp only []; omega, fun _ => by simp only []; omega, fun i hi => ?_⟩, by simp only []; omega, ?_⟩
     rotate_left
     ·rw [st88_s]
      refine weakS (by simp [SubFr, Go.Sx.look]) (SubHp.cons (SubHp.skip ?_ (SubHp.skip ?_ (SubHp.refl _))))
      ·simp only [blk]
       rw [if_neg (by omega), if_neg (by omega)]
       exact hr.none (by omega)
      ·simp only [blk]
       rw [if_neg (by omega), if_neg (by omega)]
       exact hr.none (by omega)
     ·simp only [] at hi ⊢
      by_cases e : i < u + 1
      ·rw [if_pos e]; exact v4 i e
      ·have e2 : i = u + 1 := by omega
       subst e2
       rw [if_neg e, Nat.sub_self]
       show SV.val (.int .i64 (v * ((ownF (fun k : Nat => loS M.q k M.m) (fun k : Nat => hiS M.q k M.m) t k) (u + 1)).n)) = _
       rw [← ev]; rfl
   ·have e : u = t := by omega
    subst e
    obtain ⟨u, rfl⟩ : ∃ j, u = j + 1 := ⟨u - 1, by omega⟩
    have ⟨z5, z6⟩ := v3 (by omega)
    have NB1 := (⟨nmE (show rid ≠ id by omega), nmE (show rid ≠ did by omega), nmE (show rid ≠ id + 9 by omega), nmA z6⟩ : _ ∧ _ ∧ _ ∧ _)
    have hdr : dropBlk rest rid = rest := dropBlk_none (hr.none (by omega))
    rw [st88_s]
    (repeat' (first | with_reducible refine splitVC_d (fun _ => ?_) (fun _ => ?_) | with_reducible refine splitVC (fun _ => ?_) (fun _ => ?_) | ((with_reducible refine And.intro ?_ ?_); focus (first | exact True.intro | omega | (simp only [InK, ne_eq, and_true, true_and]; omega) | exact ⟨.inr trivial, Nat.le_refl _, one1 _, by omega⟩ | exact ⟨.inr trivial, Nat.le_refl _, one1 _, by omega, by kernel_rfl⟩ | trivial)) | (simp -dsimp only [↓RP, RQ, implies_true, forall_const, Nat.reduceMul, reduceIte, reduceCtorEq, Nat.reduceAdd, Nat.reduceEqDiff, Nat.reduceLT, Nat.reduceLeDiff, by23, NB, NB1, ND, hr0, hdr, dk_0, dk_22, dk_len, Nat.add_zero, Nat.add_assoc, self_F1, self_F2, effK_ret, effK_normal, TYe, TYn, TYd, TYm, TYw, QF, FFq, fsv, B, I, by2, RZ, eq_self, TY, Try.results88])))
    all_goals first | (exfalso; omega) | skip
    refine ⟨(rid, .rows 2 1 (u + 1) row4) :: (did, dkB M (dlo M M.m) (dhi M M.m) mid) :: rest, nid4 + 3, .vec rid (u + 1) 1, weakS (by simp [SubFr, Go.Sx.look]) (SubHp.cons (SubHp.skip ?_ (SubHp.refl _))), by omega, rid, row4, by omega, by omega, v4, rfl, rfl⟩
    simp only [blk]
    rw [if_neg (by omega)]
    exact hr.none (by omega)
end Go.Od
end
