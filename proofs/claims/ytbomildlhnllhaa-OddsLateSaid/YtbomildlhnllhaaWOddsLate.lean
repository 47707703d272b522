/- A part of the proof. -/
import Derived.Test.YtbomildlhnllhaaOI
import Derived.Test.YtbomildlhnllhaaOJ
import Derived.Test.YtbomildlhnllhaaOK
import Derived.Test.YtbomildlhnllhaaEF
section
set_option linter.unusedSimpArgs false
set_option linter.unusedVariables false
set_option linter.defProp false
set_option maxRecDepth 100000
set_option maxHeartbeats 16000000
namespace Go.Od
open Go.Proofs
open Go.Sx
theorem TYx : True ∧ tyOf Try.prog 54 = some ⟨false, 1, some [.slice none 0 0], .slice 57 1⟩ ∧ tyOf Try.prog 57 = some ⟨false, 1, some [.int .u32 0], .int .u32⟩ := ⟨trivial, by kernel_rfl, by kernel_rfl⟩
def u32s (k : Nat) (u : Nat → Int) : SV := .arr false false k 1 (fun i _ => .val (.int .u32 (u i)))
end Go.Od
end
section
set_option linter.unusedSimpArgs false
set_option linter.unusedVariables false
set_option linter.defProp false
set_option maxRecDepth 100000
set_option maxHeartbeats 16000000
namespace Go.Od
open Go.Proofs
open Go.Sx
def U32 (n : Int) : SV := .val (.int .u32 n)
def U8 (n : Int) : SV := .val (.int .u8 n)
theorem c48 (r : Fr) : Contract Try.prog 48 [fsv r] (B (decide (smallF r))) := by
 refine contract_of Try.func48 rfl (by kernel_rfl) follows (by kernel_rfl) _ _ (by rw [Try.ntmps48]; simp) (by simp only [OldL, fsv_old, and_self]) ?_
 unfold B
 conv => arg 4; unfold fsv I
 (repeat' (first | with_reducible refine splitVC_d (fun _ => ?_) (fun _ => ?_) | with_reducible refine splitVC (fun _ => ?_) (fun _ => ?_) | ((with_reducible refine And.intro ?_ ?_); focus (first | exact True.intro | omega | (simp only [InK, ne_eq, and_true, true_and]; omega) | trivial)) | (simp -dsimp only [↓RP, RQ, implies_true, forall_const, Nat.reduceMul, reduceIte, reduceCtorEq, Nat.reduceAdd, Nat.reduceEqDiff, Nat.reduceLT, Nat.reduceLeDiff, Int.reduceEq, Int.reduceNeg, RZ, eq_self, eq23, TYq, TYp, TYm, TYn, TYw, TYx, fsv, B, I, by2, TY, Try.results48])))
 all_goals first | (refine B_eq ?_; symm; refine decide_eq_false (fun h => ?_); have := h.1; omega) | skip
 refine callVC (c52 r (by omega) (by omega) (by omega) (by omega)) ?_ ?_ ?_; iterate 2 focus ((simp -dsimp only [↓RP, RQ, implies_true, forall_const, Nat.reduceMul, reduceIte, reduceCtorEq, Nat.reduceAdd, Nat.reduceEqDiff, Nat.reduceLT, Nat.reduceLeDiff, fsv, Go.Od.ints, I, B]); all_goals (try simp))
 (repeat' (first | with_reducible refine splitVC_d (fun _ => ?_) (fun _ => ?_) | with_reducible refine splitVC (fun _ => ?_) (fun _ => ?_) | ((with_reducible refine And.intro ?_ ?_); focus (first | exact True.intro | omega | (simp only [InK, ne_eq, and_true, true_and]; omega) | trivial)) | (simp -dsimp only [↓RP, RQ, implies_true, forall_const, Nat.reduceMul, reduceIte, reduceCtorEq, Nat.reduceAdd, Nat.reduceEqDiff, Nat.reduceLT, Nat.reduceLeDiff, Int.reduceEq, Int.reduceNeg, RZ, eq_self, eq23, TYq, TYp, TYm, TYn, TYw, TYx, fsv, B, I, by2, TY, Try.results48])))
 refine B_eq ?_
 rw [Bool.eq_iff_iff]
 have e : red r = r ↔ (red r).n = r.n ∧ (red r).d = r.d := ⟨fun h => by rw [h]; exact ⟨rfl, rfl⟩, fun h => Fr.ext' h.1 h.2⟩
 simp only [smallF, Bool.and_eq_true, decide_eq_true_eq, e]
 constructor
 ·exact fun h => ⟨by omega, h⟩
 ·exact fun h => h.2
end Go.Od
end
section
set_option linter.unusedSimpArgs false
set_option linter.unusedVariables false
set_option linter.defProp false
set_option maxRecDepth 100000
set_option maxHeartbeats 16000000
namespace Go.Od
open Go.Proofs
open Go.Sx
theorem ctB {f : FuncId} {ag : List SV} {p : Prop} [Decidable p] (h : Contract Try.prog f ag (B (decide p))) (hp : p) : Contract Try.prog f ag (B true) := by rwa [decide_eq_true hp] at h
theorem cfB {f : FuncId} {ag : List SV} {p : Prop} [Decidable p] (h : Contract Try.prog f ag (B (decide p))) (hp : ¬ p) : Contract Try.prog f ag (B false) := by rwa [decide_eq_false hp] at h
theorem InK_mul {a b A B : Int} (a0 : -A ≤ a) (a1 : a ≤ A) (A0 : 0 ≤ A) (b0 : 0 ≤ b) (b1 : b ≤ B) (h : A * B ≤ 9000000000000000000) : InK .i64 (a * b) := by
 have ⟨h1, h2⟩ := mul_inn a b A B a0 a1 A0 b0 b1
 simp only [InK]; omega
theorem small_lt {a b : Fr} (ha : smallF a) (hb : smallF b) : InK .i64 (a.n * b.d) ∧ InK .i64 (b.n * a.d) := by
 have ⟨⟨⟨a1, a2⟩, a3, a4⟩, _⟩ := ha
 have ⟨⟨⟨b1, b2⟩, b3, b4⟩, _⟩ := hb
 exact ⟨InK_mul (A := 100100) (B := 100) (by omega) (by omega) (by omega) (by omega) (by omega) (by omega), InK_mul (A := 100100) (B := 100) (by omega) (by omega) (by omega) (by omega) (by omega) (by omega)⟩
end Go.Od
end
section
set_option linter.unusedSimpArgs false
set_option linter.unusedVariables false
set_option linter.defProp false
set_option maxRecDepth 100000
set_option maxHeartbeats 16000000
namespace Go.Od
open Go.Proofs
open Go.Sx
theorem TY62 : True ∧ tyOf Try.prog 62 = some ⟨true, 2, some [.int .u32 0, .int .u32 0], .array 2 57 1⟩ ∧ tyOf Try.prog 63 = some ⟨false, 1, some [.int .u16 0], .int .u16⟩ := ⟨trivial, by kernel_rfl, by kernel_rfl⟩
end Go.Od
end
section
set_option linter.unusedSimpArgs false
set_option linter.unusedVariables false
set_option linter.defProp false
set_option maxRecDepth 100000
set_option maxHeartbeats 16000000
namespace Go.Od
open Go.Proofs
open Go.Sx
theorem c53 (r : Fr) : Contract Try.prog 53 [fsv r] (B (decide (saneF r))) := by
 refine contract_of Try.func53 rfl (by kernel_rfl) follows (by kernel_rfl) _ _ (by rw [Try.ntmps53]; simp) (by simp only [OldL, fsv_old, and_self]) ?_
 unfold B
 conv => arg 4; unfold fsv I
 (repeat' (first | with_reducible refine splitVC_d (fun _ => ?_) (fun _ => ?_) | with_reducible refine splitVC (fun _ => ?_) (fun _ => ?_) | ((with_reducible refine And.intro ?_ ?_); focus (first | exact True.intro | omega | (simp only [InK, ne_eq, and_true, true_and]; omega) | exact ⟨.inr trivial, Nat.le_refl _, one1 _, by omega⟩ | exact ⟨.inr trivial, Nat.le_refl _, one1 _, by omega, by kernel_rfl⟩ | trivial)) | (simp -dsimp only [↓RP, RQ, implies_true, forall_const, Nat.reduceMul, reduceIte, reduceCtorEq, Nat.reduceAdd, Nat.reduceEqDiff, Nat.reduceLT, Nat.reduceLeDiff, Int.reduceEq, Int.reduceNeg, RZ, eq_self, eq23, TYq, TYp, TYm, TYn, TYw, TYx, fsv, B, I, by2, TY, Try.results53])))
 all_goals refine B_eq ?_
 ·rw [Bool.eq_iff_iff, decide_eq_true_iff, decide_eq_true_iff]
  exact ⟨fun h => ⟨⟨by omega, by omega⟩, by omega, h⟩, fun h => h.2.2⟩
 all_goals (symm; refine decide_eq_false fun h => ?_; have := h.1; have := h.2; omega)
theorem sane_lt {a b : Fr} (ha : saneF a) (hb : saneF b) : InK .i64 (a.n * b.d) ∧ InK .i64 (b.n * a.d) := by
 have ⟨⟨a1, a2⟩, a3, a4⟩ := ha
 have ⟨⟨b1, b2⟩, b3, b4⟩ := hb
 exact ⟨InK_mul (A := 8000000000) (B := 1000000000) (by omega) (by omega) (by omega) (by omega) (by omega) (by omega), InK_mul (A := 8000000000) (B := 1000000000) (by omega) (by omega) (by omega) (by omega) (by omega) (by omega)⟩
theorem small_sane {a : Fr} (h : smallF a) : saneF a := by
 have ⟨⟨⟨a1, a2⟩, a3, a4⟩, _⟩ := h
 exact ⟨by omega, by omega⟩
theorem c57 (r lo hi : Fr) (h1 : saneF r) (h2 : saneF lo) (h3 : saneF hi) (h : In3 r lo hi) : Contract Try.prog 57 [fsv r, fsv lo, fsv hi] (B true) := by
 refine contract_of Try.func57 rfl (by kernel_rfl) follows (by kernel_rfl) _ _ (by rw [Try.ntmps57]; simp) (by simp only [OldL, fsv_old, and_self]) ?_
 have ⟨k1, k2⟩ := sane_lt h1 h2
 have ⟨k3, k4⟩ := sane_lt h3 h1
 have e1 := cfB (c49 r lo k1 k2) h.a
 have e2 := cfB (c49 hi r k3 k4) h.b
 unfold B
 conv => arg 4; unfold fsv I
 (repeat' (first | with_reducible refine splitVC_d (fun _ => ?_) (fun _ => ?_) | with_reducible refine splitVC (fun _ => ?_) (fun _ => ?_) | ((with_reducible refine And.intro ?_ ?_); focus (first | exact True.intro | omega | (simp only [InK, ne_eq, and_true, true_and]; omega) | exact ⟨.inr trivial, Nat.le_refl _, one1 _, by omega⟩ | exact ⟨.inr trivial, Nat.le_refl _, one1 _, by omega, by kernel_rfl⟩ | trivial)) | (simp -dsimp only [↓RP, RQ, implies_true, forall_const, Nat.reduceMul, reduceIte, reduceCtorEq, Nat.reduceAdd, Nat.reduceEqDiff, Nat.reduceLT, Nat.reduceLeDiff, Int.reduceEq, Int.reduceNeg, RZ, eq_self, eq23, TYq, TYp, TYm, TYn, TYw, TYx, fsv, B, I, by2, TY, Try.results57])))
 refine callVC e1 ?_ ?_ ?_; iterate 2 focus ((simp -dsimp only [↓RP, RQ, implies_true, forall_const, Nat.reduceMul, reduceIte, reduceCtorEq, Nat.reduceAdd, Nat.reduceEqDiff, Nat.reduceLT, Nat.reduceLeDiff, fsv, Go.Od.ints, I, B]); all_goals (try simp))
 (repeat' (first | with_reducible refine splitVC_d (fun _ => ?_) (fun _ => ?_) | with_reducible refine splitVC (fun _ => ?_) (fun _ => ?_) | ((with_reducible refine And.intro ?_ ?_); focus (first | exact True.intro | omega | (simp only [InK, ne_eq, and_true, true_and]; omega) | exact ⟨.inr trivial, Nat.le_refl _, one1 _, by omega⟩ | exact ⟨.inr trivial, Nat.le_refl _, one1 _, by omega, by kernel_rfl⟩ | trivial)) | (simp -dsimp only [↓RP, RQ, implies_true, forall_const, Nat.reduceMul, reduceIte, reduceCtorEq, Nat.reduceAdd, Nat.reduceEqDiff, Nat.reduceLT, Nat.reduceLeDiff, Int.reduceEq, Int.reduceNeg, RZ, eq_self, eq23, TYq, TYp, TYm, TYn, TYw, TYx, fsv, B, I, by2, TY, Try.results57])))
 refine callVC e2 ?_ ?_ ?_; iterate 2 focus ((simp -dsimp only [↓RP, RQ, implies_true, forall_const, Nat.reduceMul, reduceIte, reduceCtorEq, Nat.reduceAdd, Nat.reduceEqDiff, Nat.reduceLT, Nat.reduceLeDiff, fsv, Go.Od.ints, I, B]); all_goals (try simp))
 (repeat' (first | with_reducible refine splitVC_d (fun _ => ?_) (fun _ => ?_) | with_reducible refine splitVC (fun _ => ?_) (fun _ => ?_) | ((with_reducible refine And.intro ?_ ?_); focus (first | exact True.intro | omega | (simp only [InK, ne_eq, and_true, true_and]; omega) | exact ⟨.inr trivial, Nat.le_refl _, one1 _, by omega⟩ | exact ⟨.inr trivial, Nat.le_refl _, one1 _, by omega, by kernel_rfl⟩ | trivial)) | (simp -dsimp only [↓RP, RQ, implies_true, forall_const, Nat.reduceMul, reduceIte, reduceCtorEq, Nat.reduceAdd, Nat.reduceEqDiff, Nat.reduceLT, Nat.reduceLeDiff, Int.reduceEq, Int.reduceNeg, RZ, eq_self, eq23, TYq, TYp, TYm, TYn, TYw, TYx, fsv, B, I, by2, TY, Try.results57])))
 all_goals trace_state
end Go.Od
end
section
set_option linter.unusedSimpArgs false
set_option linter.unusedVariables false
set_option linter.defProp false
set_option maxRecDepth 100000
set_option maxHeartbeats 16000000
namespace Go.Od
open Go.Proofs
open Go.Sx
theorem by66 : bytesOf Try.prog 66 = 16 := by kernel_rfl
theorem lst55 (t : Nat → Int) (i : Nat) : ∀ a b, a < i + 1 + 1 → b < 2 → i + 1 ≤ a → [SV.val (Value.int IntKind.i64 (t (i + 1))), SV.val (Value.int IntKind.i64 (t (i + 1)))][(a - (i + 1)) * 2 + b]?.getD SV.top = SV.val (Value.int IntKind.i64 (t a)) := by
 intro a b h1 h2 h3
 obtain rfl : a = i + 1 := by omega
 rw [Nat.sub_self, Nat.zero_mul, Nat.zero_add]
 have : b = 0 ∨ b = 1 := by omega
 rcases this with rfl | rfl <;> rfl
theorem one22 (a b : Int) : ∀ i j, i < 1 → j < 2 → oneCell ([SV.val (.int .i64 a), SV.val (.int .i64 b)].getD (i * 2 + j) SV.top) = true := by
 intro i j h1 h2
 obtain rfl : i = 0 := by omega
 have : j = 0 ∨ j = 1 := by omega
 rcases this with rfl | rfl <;> rfl
def truV (p : Pl) (k : Nat) (u : Nat → Int) (i : Nat) : Int := if 0 < k then p.lo i + (u (i % k)).tmod (p.hi i - p.lo i + 1) else p.lo i
def st54 (p : Pl) (k : Nat) (u : Nat → Int) (z : Nat) : St :=
 match z with
 | 0 => ⟨[(1, .arr false false k 1 (fun i _ => .val (.int .u32 (u i)))), (2, .ptr 0 0), (4, .val (.slice none 0 0)), (5, .val (.slice none 0 0)), (6, .val (.int .i64 0))], [(0, .cells 36 [.arr false false p.n 2 (fun i j => .val (.int .i64 (if j = 0 then p.lo i else p.hi i))), .val (.int .i64 p.cut)])], 20⟩
 | i + 1 => ⟨[(1, .arr false false k 1 (fun i _ => .val (.int .u32 (u i)))), (2, .ptr 0 0), (4, .val (.slice none 0 0)), (5, .vec 60 (i + 1) 1), (6, .val (.int .i64 (i + 1 : Nat)))], [(60, .rows 2 1 (i + 1) (fun a _ => .val (.int .i64 (truV p k u a)))), (0, .cells 36 [.arr false false p.n 2 (fun i j => .val (.int .i64 (if j = 0 then p.lo i else p.hi i))), .val (.int .i64 p.cut)])], 61⟩
theorem st54_0 (p : Pl) (k : Nat) (u : Nat → Int) : st54 p k u 0 = ⟨[(1, .arr false false k 1 (fun i _ => .val (.int .u32 (u i)))), (2, .ptr 0 0), (4, .val (.slice none 0 0)), (5, .val (.slice none 0 0)), (6, .val (.int .i64 0))], [(0, .cells 36 [.arr false false p.n 2 (fun i j => .val (.int .i64 (if j = 0 then p.lo i else p.hi i))), .val (.int .i64 p.cut)])], 20⟩ := rfl
theorem st54_s (p : Pl) (k : Nat) (u : Nat → Int) (i : Nat) : st54 p k u (i + 1) = ⟨[(1, .arr false false k 1 (fun i _ => .val (.int .u32 (u i)))), (2, .ptr 0 0), (4, .val (.slice none 0 0)), (5, .vec 60 (i + 1) 1), (6, .val (.int .i64 (i + 1 : Nat)))], [(60, .rows 2 1 (i + 1) (fun a _ => .val (.int .i64 (truV p k u a)))), (0, .cells 36 [.arr false false p.n 2 (fun i j => .val (.int .i64 (if j = 0 then p.lo i else p.hi i))), .val (.int .i64 p.cut)])], 61⟩ := rfl
theorem lst54 (p : Pl) (k : Nat) (u : Nat → Int) (i : Nat) : ∀ j, j < i + 1 + 1 → i + 1 ≤ j → [SV.val (Value.int IntKind.i64 (truV p k u (i + 1)))][j - (i + 1)]?.getD SV.top = SV.val (Value.int IntKind.i64 (truV p k u j)) := by
 intro j h1 h2
 obtain rfl : j = i + 1 := by omega
 rw [Nat.sub_self]; rfl
theorem c54 (p : Pl) (hf : p.Fine) (k : Nat) (u : Nat → Int) (hu : ∀ i, i < k → 0 ≤ u i ∧ u i < 4294967296) : Contract Try.prog 54 [p.sv, u32s k u] (.arr true false p.n 1 (fun i _ => .val (.int .i64 (truV p k u i)))) := by
 refine contract_of Try.func54 rfl (by kernel_rfl) follows (by kernel_rfl) _ _ (by rw [Try.ntmps54]; simp) (by simp only [OldL, Pl.old, and_self, true_and, and_true]; simp [Old, u32s, I]) ?_
 have hn8 := hf.n8
 conv => arg 4; unfold Pl.sv rngs u32s I
 (repeat' (first | with_reducible refine splitVC_d (fun _ => ?_) (fun _ => ?_) | with_reducible refine splitVC (fun _ => ?_) (fun _ => ?_) | ((with_reducible refine And.intro ?_ ?_); focus (first | exact True.intro | omega | (simp only [InK, ne_eq, and_true, true_and]; omega) | exact ⟨.inr trivial, Nat.le_refl _, one22 _ _, by omega, by kernel_rfl⟩ | exact ⟨.inr trivial, Nat.le_refl _, one22 _ _, by omega⟩ | exact ⟨.inr trivial, Nat.le_refl _, one1 _, by omega⟩ | exact ⟨.inr trivial, Nat.le_refl _, one1 _, by omega, by kernel_rfl⟩ | exact ⟨.inr trivial, Nat.le_refl _, one2 _ _, by omega⟩ | exact ⟨.inr trivial, Nat.le_refl _, one2 _ _, by omega, by kernel_rfl⟩ | trivial)) | (simp -dsimp only [↓RP, RQ, implies_true, forall_const, Nat.reduceMul, reduceIte, reduceCtorEq, Nat.reduceAdd, Nat.reduceEqDiff, Nat.reduceLT, Nat.reduceLeDiff, Int.reduceEq, Int.reduceNeg, RZ, eq_self, eq23, TYq, TYp, TYm, TYn, TYw, TYx, by66, fsv, B, I, by2, TY, Try.results54])))
 refine loop_vc (fun i => i ≤ p.n) (st54 p k u) (fun i => p.n - i) 0 (Nat.zero_le _) (weak [] [] ?_ ?_ ?_) fun i hi => ?_
 ·(simp -dsimp only [↓RP, RQ, implies_true, forall_const, Nat.reduceMul, reduceIte, reduceCtorEq, Nat.reduceAdd, Nat.reduceEqDiff, Nat.reduceLT, Nat.reduceLeDiff, st54]); all_goals (try simp [wk_q])
 ·(simp -dsimp only [↓RP, RQ, implies_true, forall_const, Nat.reduceMul, reduceIte, reduceCtorEq, Nat.reduceAdd, Nat.reduceEqDiff, Nat.reduceLT, Nat.reduceLeDiff, st54]); all_goals (try simp [wk_q])
 ·(simp -dsimp only [↓RP, RQ, implies_true, forall_const, Nat.reduceMul, reduceIte, reduceCtorEq, Nat.reduceAdd, Nat.reduceEqDiff, Nat.reduceLT, Nat.reduceLeDiff, st54]); all_goals (try simp [wk_q])
 by_cases hlt : i < p.n
 ·have ⟨l0, l1, l2⟩ := hf.rg i hlt
  by_cases hk : 0 < k
  ·have hb := hu (i % k) (Nat.mod_lt _ hk)
   have et : ((i : Nat) : Int).tmod (k : Nat) = ((i % k : Nat) : Int) := rfl
   have t0 := Int.tmod_nonneg (p.hi i - p.lo i + 1) hb.1
   have t1 := Int.tmod_lt_of_pos (u (i % k)) (show 0 < p.hi i - p.lo i + 1 by omega)
   have ev : p.lo i + (u (i % k)).tmod (p.hi i - p.lo i + 1) = truV p k u i := by unfold truV; rw [if_pos hk]
   have hlt2 := Nat.mod_lt i hk
   cases i with
   | zero =>
    have et : Int.tmod 0 (k : Nat) = ((0 % k : Nat) : Int) := rfl
    rw [st54_0]
    (repeat' (first | with_reducible refine splitVC_d (fun _ => ?_) (fun _ => ?_) | with_reducible refine splitVC (fun _ => ?_) (fun _ => ?_) | ((with_reducible refine And.intro ?_ ?_); focus (first | exact True.intro | omega | (simp only [InK, ne_eq, and_true, true_and]; omega) | exact ⟨.inr trivial, Nat.le_refl _, one22 _ _, by omega, by kernel_rfl⟩ | exact ⟨.inr trivial, Nat.le_refl _, one22 _ _, by omega⟩ | exact ⟨.inr trivial, Nat.le_refl _, one1 _, by omega⟩ | exact ⟨.inr trivial, Nat.le_refl _, one1 _, by omega, by kernel_rfl⟩ | exact ⟨.inr trivial, Nat.le_refl _, one2 _ _, by omega⟩ | exact ⟨.inr trivial, Nat.le_refl _, one2 _ _, by omega, by kernel_rfl⟩ | trivial)) | (simp -dsimp only [↓RP, RQ, implies_true, forall_const, Nat.reduceMul, reduceIte, reduceCtorEq, Nat.reduceAdd, Nat.reduceEqDiff, Nat.reduceLT, Nat.reduceLeDiff, et, ev, Int.reduceEq, Int.reduceNeg, RZ, eq_self, eq23, TYq, TYp, TYm, TYn, TYw, TYx, by66, fsv, B, I, by2, TY, Try.results54])))
    all_goals first | (exfalso; omega) | skip
    refine ⟨0 + 1, by omega, by omega, weak [(60, some 59)] [] ?_ ?_ ?_⟩
    all_goals ((simp -dsimp only [↓RP, RQ, implies_true, forall_const, Nat.reduceMul, reduceIte, reduceCtorEq, Nat.reduceAdd, Nat.reduceEqDiff, Nat.reduceLT, Nat.reduceLeDiff, st54]); all_goals (try simp [wk_q]))
   | succ i =>
    rw [st54_s]
    (repeat' (first | with_reducible refine splitVC_d (fun _ => ?_) (fun _ => ?_) | with_reducible refine splitVC (fun _ => ?_) (fun _ => ?_) | ((with_reducible refine And.intro ?_ ?_); focus (first | exact True.intro | omega | (simp only [InK, ne_eq, and_true, true_and]; omega) | exact ⟨.inr trivial, Nat.le_refl _, one22 _ _, by omega, by kernel_rfl⟩ | exact ⟨.inr trivial, Nat.le_refl _, one22 _ _, by omega⟩ | exact ⟨.inr trivial, Nat.le_refl _, one1 _, by omega⟩ | exact ⟨.inr trivial, Nat.le_refl _, one1 _, by omega, by kernel_rfl⟩ | exact ⟨.inr trivial, Nat.le_refl _, one2 _ _, by omega⟩ | exact ⟨.inr trivial, Nat.le_refl _, one2 _ _, by omega, by kernel_rfl⟩ | trivial)) | (simp -dsimp only [↓RP, RQ, implies_true, forall_const, Nat.reduceMul, reduceIte, reduceCtorEq, Nat.reduceAdd, Nat.reduceEqDiff, Nat.reduceLT, Nat.reduceLeDiff, et, ev, Int.reduceEq, Int.reduceNeg, RZ, eq_self, eq23, TYq, TYp, TYm, TYn, TYw, TYx, by66, fsv, B, I, by2, TY, Try.results54])))
    all_goals first | (exfalso; omega) | skip
    refine ⟨i + 1 + 1, by omega, by omega, weak [(60, some 100)] [] ?_ ?_ ?_⟩
    all_goals ((simp -dsimp only [↓RP, RQ, implies_true, forall_const, Nat.reduceMul, reduceIte, reduceCtorEq, Nat.reduceAdd, Nat.reduceEqDiff, Nat.reduceLT, Nat.reduceLeDiff, st54]); all_goals (try simp [wk_q]))
    all_goals exact lst54 _ _ _ _
  ·obtain rfl : k = 0 := by omega
   have ev : p.lo i = truV p 0 u i := by unfold truV; rw [if_neg (by omega)]
   cases i with
   | zero =>
    skip
    rw [st54_0]
    (repeat' (first | with_reducible refine splitVC_d (fun _ => ?_) (fun _ => ?_) | with_reducible refine splitVC (fun _ => ?_) (fun _ => ?_) | ((with_reducible refine And.intro ?_ ?_); focus (first | exact True.intro | omega | (simp only [InK, ne_eq, and_true, true_and]; omega) | exact ⟨.inr trivial, Nat.le_refl _, one22 _ _, by omega, by kernel_rfl⟩ | exact ⟨.inr trivial, Nat.le_refl _, one22 _ _, by omega⟩ | exact ⟨.inr trivial, Nat.le_refl _, one1 _, by omega⟩ | exact ⟨.inr trivial, Nat.le_refl _, one1 _, by omega, by kernel_rfl⟩ | exact ⟨.inr trivial, Nat.le_refl _, one2 _ _, by omega⟩ | exact ⟨.inr trivial, Nat.le_refl _, one2 _ _, by omega, by kernel_rfl⟩ | trivial)) | (simp -dsimp only [↓RP, RQ, implies_true, forall_const, Nat.reduceMul, reduceIte, reduceCtorEq, Nat.reduceAdd, Nat.reduceEqDiff, Nat.reduceLT, Nat.reduceLeDiff, ev, Int.reduceEq, Int.reduceNeg, RZ, eq_self, eq23, TYq, TYp, TYm, TYn, TYw, TYx, by66, fsv, B, I, by2, TY, Try.results54])))
    all_goals first | (exfalso; omega) | skip
    refine ⟨0 + 1, by omega, by omega, weak [(60, some 38)] [] ?_ ?_ ?_⟩
    all_goals ((simp -dsimp only [↓RP, RQ, implies_true, forall_const, Nat.reduceMul, reduceIte, reduceCtorEq, Nat.reduceAdd, Nat.reduceEqDiff, Nat.reduceLT, Nat.reduceLeDiff, st54]); all_goals (try simp [wk_q]))
   | succ i =>
    rw [st54_s]
    (repeat' (first | with_reducible refine splitVC_d (fun _ => ?_) (fun _ => ?_) | with_reducible refine splitVC (fun _ => ?_) (fun _ => ?_) | ((with_reducible refine And.intro ?_ ?_); focus (first | exact True.intro | omega | (simp only [InK, ne_eq, and_true, true_and]; omega) | exact ⟨.inr trivial, Nat.le_refl _, one22 _ _, by omega, by kernel_rfl⟩ | exact ⟨.inr trivial, Nat.le_refl _, one22 _ _, by omega⟩ | exact ⟨.inr trivial, Nat.le_refl _, one1 _, by omega⟩ | exact ⟨.inr trivial, Nat.le_refl _, one1 _, by omega, by kernel_rfl⟩ | exact ⟨.inr trivial, Nat.le_refl _, one2 _ _, by omega⟩ | exact ⟨.inr trivial, Nat.le_refl _, one2 _ _, by omega, by kernel_rfl⟩ | trivial)) | (simp -dsimp only [↓RP, RQ, implies_true, forall_const, Nat.reduceMul, reduceIte, reduceCtorEq, Nat.reduceAdd, Nat.reduceEqDiff, Nat.reduceLT, Nat.reduceLeDiff, ev, Int.reduceEq, Int.reduceNeg, RZ, eq_self, eq23, TYq, TYp, TYm, TYn, TYw, TYx, by66, fsv, B, I, by2, TY, Try.results54])))
    all_goals first | (exfalso; omega) | skip
    refine ⟨i + 1 + 1, by omega, by omega, weak [(60, some 79)] [] ?_ ?_ ?_⟩
    all_goals ((simp -dsimp only [↓RP, RQ, implies_true, forall_const, Nat.reduceMul, reduceIte, reduceCtorEq, Nat.reduceAdd, Nat.reduceEqDiff, Nat.reduceLT, Nat.reduceLeDiff, st54]); all_goals (try simp [wk_q]))
    all_goals exact lst54 _ _ _ _
 ·obtain rfl : i = p.n := by omega
  obtain ⟨j, ej⟩ : ∃ j, p.n = j + 1 := ⟨p.n - 1, by have := hf.n1; omega⟩
  rw [show st54 p k u p.n = st54 p k u (j + 1) by rw [ej], st54_s]
  (repeat' (first | with_reducible refine splitVC_d (fun _ => ?_) (fun _ => ?_) | with_reducible refine splitVC (fun _ => ?_) (fun _ => ?_) | ((with_reducible refine And.intro ?_ ?_); focus (first | exact True.intro | omega | (simp only [InK, ne_eq, and_true, true_and]; omega) | exact ⟨.inr trivial, Nat.le_refl _, one22 _ _, by omega, by kernel_rfl⟩ | exact ⟨.inr trivial, Nat.le_refl _, one22 _ _, by omega⟩ | exact ⟨.inr trivial, Nat.le_refl _, one1 _, by omega⟩ | exact ⟨.inr trivial, Nat.le_refl _, one1 _, by omega, by kernel_rfl⟩ | exact ⟨.inr trivial, Nat.le_refl _, one2 _ _, by omega⟩ | exact ⟨.inr trivial, Nat.le_refl _, one2 _ _, by omega, by kernel_rfl⟩ | trivial)) | (simp -dsimp only [↓RP, RQ, implies_true, forall_const, Nat.reduceMul, reduceIte, reduceCtorEq, Nat.reduceAdd, Nat.reduceEqDiff, Nat.reduceLT, Nat.reduceLeDiff, Int.reduceEq, Int.reduceNeg, RZ, eq_self, eq23, TYq, TYp, TYm, TYn, TYw, TYx, by66, fsv, B, I, by2, TY, Try.results54])))
  all_goals first | (exfalso; omega) | skip
  all_goals omega
def st55 (m : Nat) (t : Nat → Int) (cut : Int) (z : Nat) : St :=
 match z with
 | 0 => ⟨[(0, .arr false false m 1 (fun i _ => .val (.int .i64 (t i)))), (1, .val (.int .i64 cut)), (4, .ptr 0 0), (5, .ptr 3 0), (6, .val (.int .i64 0))], [(3, .cells 36 [.val (.slice none 0 0), .val (.int .i64 cut)]), (0, .cells 36 [.val (.slice none 0 0), .val (.int .i64 0)])], 20⟩
 | i + 1 => ⟨[(0, .arr false false m 1 (fun i _ => .val (.int .i64 (t i)))), (1, .val (.int .i64 cut)), (4, .ptr 0 0), (5, .ptr 3 0), (6, .val (.int .i64 (i + 1 : Nat)))], [(60, .rows 66 2 (i + 1) (fun a _ => .val (.int .i64 (t a)))), (3, .cells 36 [.vec 60 (i + 1) 2, .val (.int .i64 cut)]), (0, .cells 36 [.val (.slice none 0 0), .val (.int .i64 0)])], 61⟩
theorem st55_0 (m : Nat) (t : Nat → Int) (cut : Int) : st55 m t cut 0 = ⟨[(0, .arr false false m 1 (fun i _ => .val (.int .i64 (t i)))), (1, .val (.int .i64 cut)), (4, .ptr 0 0), (5, .ptr 3 0), (6, .val (.int .i64 0))], [(3, .cells 36 [.val (.slice none 0 0), .val (.int .i64 cut)]), (0, .cells 36 [.val (.slice none 0 0), .val (.int .i64 0)])], 20⟩ := rfl
theorem st55_s (m : Nat) (t : Nat → Int) (cut : Int) (i : Nat) : st55 m t cut (i + 1) = ⟨[(0, .arr false false m 1 (fun i _ => .val (.int .i64 (t i)))), (1, .val (.int .i64 cut)), (4, .ptr 0 0), (5, .ptr 3 0), (6, .val (.int .i64 (i + 1 : Nat)))], [(60, .rows 66 2 (i + 1) (fun a _ => .val (.int .i64 (t a)))), (3, .cells 36 [.vec 60 (i + 1) 2, .val (.int .i64 cut)]), (0, .cells 36 [.val (.slice none 0 0), .val (.int .i64 0)])], 61⟩ := rfl
theorem c55 (m : Nat) (hm0 : 1 ≤ m) (hm : m ≤ 1000) (t : Nat → Int) (cut : Int) : Contract Try.prog 55 [ints m t, I cut] (.agg [.arr true false m 2 (fun i _ => .val (.int .i64 (t i))), I cut]) := by
 refine contract_of Try.func55 rfl (by kernel_rfl) follows (by kernel_rfl) _ _ (by rw [Try.ntmps55]; simp) (by simp [OldL, Old, Go.Od.ints, I]) ?_
 conv => arg 4; unfold Go.Od.ints I
 (repeat' (first | with_reducible refine splitVC_d (fun _ => ?_) (fun _ => ?_) | with_reducible refine splitVC (fun _ => ?_) (fun _ => ?_) | ((with_reducible refine And.intro ?_ ?_); focus (first | exact True.intro | omega | (simp only [InK, ne_eq, and_true, true_and]; omega) | exact ⟨.inr trivial, Nat.le_refl _, one22 _ _, by omega, by kernel_rfl⟩ | exact ⟨.inr trivial, Nat.le_refl _, one22 _ _, by omega⟩ | exact ⟨.inr trivial, Nat.le_refl _, one1 _, by omega⟩ | exact ⟨.inr trivial, Nat.le_refl _, one1 _, by omega, by kernel_rfl⟩ | exact ⟨.inr trivial, Nat.le_refl _, one2 _ _, by omega⟩ | exact ⟨.inr trivial, Nat.le_refl _, one2 _ _, by omega, by kernel_rfl⟩ | trivial)) | (simp -dsimp only [↓RP, RQ, implies_true, forall_const, Nat.reduceMul, reduceIte, reduceCtorEq, Nat.reduceAdd, Nat.reduceEqDiff, Nat.reduceLT, Nat.reduceLeDiff, Int.reduceEq, Int.reduceNeg, RZ, eq_self, eq23, TYq, TYp, TYm, TYn, TYw, TYx, by66, fsv, B, I, by2, TY, Try.results55])))
 refine loop_vc (fun i => i ≤ m) (st55 m t cut) (fun i => m - i) 0 (Nat.zero_le _) (weak [] [] ?_ ?_ ?_) fun i hi => ?_
 ·(simp -dsimp only [↓RP, RQ, implies_true, forall_const, Nat.reduceMul, reduceIte, reduceCtorEq, Nat.reduceAdd, Nat.reduceEqDiff, Nat.reduceLT, Nat.reduceLeDiff, st55]); all_goals (try simp [wk_q])
 ·(simp -dsimp only [↓RP, RQ, implies_true, forall_const, Nat.reduceMul, reduceIte, reduceCtorEq, Nat.reduceAdd, Nat.reduceEqDiff, Nat.reduceLT, Nat.reduceLeDiff, st55]); all_goals (try simp [wk_q])
 ·(simp -dsimp only [↓RP, RQ, implies_true, forall_const, Nat.reduceMul, reduceIte, reduceCtorEq, Nat.reduceAdd, Nat.reduceEqDiff, Nat.reduceLT, Nat.reduceLeDiff, st55]); all_goals (try simp [wk_q])
 by_cases hlt : i < m
 ·cases i with
  | zero =>
   rw [st55_0]
   (repeat' (first | with_reducible refine splitVC_d (fun _ => ?_) (fun _ => ?_) | with_reducible refine splitVC (fun _ => ?_) (fun _ => ?_) | ((with_reducible refine And.intro ?_ ?_); focus (first | exact True.intro | omega | (simp only [InK, ne_eq, and_true, true_and]; omega) | exact ⟨.inr trivial, Nat.le_refl _, one22 _ _, by omega, by kernel_rfl⟩ | exact ⟨.inr trivial, Nat.le_refl _, one22 _ _, by omega⟩ | exact ⟨.inr trivial, Nat.le_refl _, one1 _, by omega⟩ | exact ⟨.inr trivial, Nat.le_refl _, one1 _, by omega, by kernel_rfl⟩ | exact ⟨.inr trivial, Nat.le_refl _, one2 _ _, by omega⟩ | exact ⟨.inr trivial, Nat.le_refl _, one2 _ _, by omega, by kernel_rfl⟩ | trivial)) | (simp -dsimp only [↓RP, RQ, implies_true, forall_const, Nat.reduceMul, reduceIte, reduceCtorEq, Nat.reduceAdd, Nat.reduceEqDiff, Nat.reduceLT, Nat.reduceLeDiff, Int.reduceEq, Int.reduceNeg, RZ, eq_self, eq23, TYq, TYp, TYm, TYn, TYw, TYx, by66, fsv, B, I, by2, TY, Try.results55])))
   all_goals first | (exfalso; omega) | skip
   refine ⟨0 + 1, by omega, by omega, weak [(60, some 36)] [] ?_ ?_ ?_⟩
   all_goals ((simp -dsimp only [↓RP, RQ, implies_true, forall_const, Nat.reduceMul, reduceIte, reduceCtorEq, Nat.reduceAdd, Nat.reduceEqDiff, Nat.reduceLT, Nat.reduceLeDiff, st55]); all_goals (try simp [wk_q]))
   all_goals (intro a b h1 h2; subst h1; have : b = 0 ∨ b = 1 := (by omega); rcases this with rfl | rfl <;> rfl)
  | succ i =>
   rw [st55_s]
   (repeat' (first | with_reducible refine splitVC_d (fun _ => ?_) (fun _ => ?_) | with_reducible refine splitVC (fun _ => ?_) (fun _ => ?_) | ((with_reducible refine And.intro ?_ ?_); focus (first | exact True.intro | omega | (simp only [InK, ne_eq, and_true, true_and]; omega) | exact ⟨.inr trivial, Nat.le_refl _, one22 _ _, by omega, by kernel_rfl⟩ | exact ⟨.inr trivial, Nat.le_refl _, one22 _ _, by omega⟩ | exact ⟨.inr trivial, Nat.le_refl _, one1 _, by omega⟩ | exact ⟨.inr trivial, Nat.le_refl _, one1 _, by omega, by kernel_rfl⟩ | exact ⟨.inr trivial, Nat.le_refl _, one2 _ _, by omega⟩ | exact ⟨.inr trivial, Nat.le_refl _, one2 _ _, by omega, by kernel_rfl⟩ | trivial)) | (simp -dsimp only [↓RP, RQ, implies_true, forall_const, Nat.reduceMul, reduceIte, reduceCtorEq, Nat.reduceAdd, Nat.reduceEqDiff, Nat.reduceLT, Nat.reduceLeDiff, Int.reduceEq, Int.reduceNeg, RZ, eq_self, eq23, TYq, TYp, TYm, TYn, TYw, TYx, by66, fsv, B, I, by2, TY, Try.results55])))
   all_goals first | (exfalso; omega) | skip
   refine ⟨i + 1 + 1, by omega, by omega, weak [(60, some 77)] [] ?_ ?_ ?_⟩
   all_goals ((simp -dsimp only [↓RP, RQ, implies_true, forall_const, Nat.reduceMul, reduceIte, reduceCtorEq, Nat.reduceAdd, Nat.reduceEqDiff, Nat.reduceLT, Nat.reduceLeDiff, st55]); all_goals (try simp [wk_q]))
   all_goals exact lst55 _ _
 ·obtain rfl : i = m := by omega
  obtain ⟨j, rfl⟩ : ∃ j, i = j + 1 := ⟨i - 1, by omega⟩
  rw [st55_s]
  (repeat' (first | with_reducible refine splitVC_d (fun _ => ?_) (fun _ => ?_) | with_reducible refine splitVC (fun _ => ?_) (fun _ => ?_) | ((with_reducible refine And.intro ?_ ?_); focus (first | exact True.intro | omega | (simp only [InK, ne_eq, and_true, true_and]; omega) | exact ⟨.inr trivial, Nat.le_refl _, one22 _ _, by omega, by kernel_rfl⟩ | exact ⟨.inr trivial, Nat.le_refl _, one22 _ _, by omega⟩ | exact ⟨.inr trivial, Nat.le_refl _, one1 _, by omega⟩ | exact ⟨.inr trivial, Nat.le_refl _, one1 _, by omega, by kernel_rfl⟩ | exact ⟨.inr trivial, Nat.le_refl _, one2 _ _, by omega⟩ | exact ⟨.inr trivial, Nat.le_refl _, one2 _ _, by omega, by kernel_rfl⟩ | trivial)) | (simp -dsimp only [↓RP, RQ, implies_true, forall_const, Nat.reduceMul, reduceIte, reduceCtorEq, Nat.reduceAdd, Nat.reduceEqDiff, Nat.reduceLT, Nat.reduceLeDiff, Int.reduceEq, Int.reduceNeg, RZ, eq_self, eq23, TYq, TYp, TYm, TYn, TYw, TYx, by66, fsv, B, I, by2, TY, Try.results55])))
  all_goals first | (exfalso; omega) | skip
  all_goals exact Nat.le_refl _
end Go.Od
end
section
set_option linter.unusedSimpArgs false
set_option linter.unusedVariables false
set_option linter.defProp false
set_option maxRecDepth 100000
set_option maxHeartbeats 16000000
namespace Go.Od
open Go.Proofs
open Go.Sx
theorem tru_in {p : Pl} (hf : p.Fine) {k : Nat} {u : Nat → Int} (hu : ∀ i, i < k → 0 ≤ u i ∧ u i < 4294967296) {i : Nat} (hi : i < p.n) : p.lo i ≤ truV p k u i ∧ truV p k u i ≤ p.hi i := by
 have ⟨l0, l1, l2⟩ := hf.rg i hi
 unfold truV
 split
 ·rename_i hk
  have hb := hu (i % k) (Nat.mod_lt _ hk)
  have t0 := Int.tmod_nonneg (p.hi i - p.lo i + 1) hb.1
  have t1 := Int.tmod_lt_of_pos (u (i % k)) (show 0 < p.hi i - p.lo i + 1 by omega)
  omega
 ·omega
theorem kn_fine' {p : Pl} (hf : p.Fine) {t : Nat → Int} (h : ∀ i, i < p.n → p.lo i ≤ t i ∧ t i ≤ p.hi i) : (kn p.n t p.cut).Fine ∧ Tight p (kn p.n t p.cut) :=
 ⟨⟨hf.n1, hf.n8, fun i hi => by have := h i hi; have := hf.rg i hi; show 0 ≤ t i ∧ t i ≤ t i ∧ t i ≤ 1000000; omega, hf.c0, hf.c1⟩, ⟨rfl, rfl, fun i hi => (h i hi).1, fun i hi => (h i hi).2⟩⟩
theorem ask_0 {p : Pl} (hf : p.Fine) {k : Nat} (hk : k < p.n) : p.ask k = 0 := by unfold Pl.ask; rw [if_pos hf.err, if_neg (by omega)]
theorem sh_not {r : Fr} {s : Int} (hn : 0 ≤ r.n) (hd : 0 < r.d) (hs : 1 ≤ s) : ¬ lt r (shV r s) := not_lt.2 (one_le s r hn hd hs).1
def nar (p : Pl) (wi : Nat) (tl th : Int) : Pl := ⟨p.n, fun i => if i = wi then tl else p.lo i, fun i => if i = wi then th else p.hi i, p.cut⟩
theorem nar_fine {p : Pl} (hf : p.Fine) {wi : Nat} {tl th : Int} (h : wi < p.n → p.lo wi ≤ tl ∧ tl ≤ th ∧ th ≤ p.hi wi) : (nar p wi tl th).Fine ∧ Tight p (nar p wi tl th) := by
 refine ⟨⟨hf.n1, hf.n8, fun i hi => ?_, hf.c0, hf.c1⟩, ⟨rfl, rfl, fun i hi => ?_, fun i hi => ?_⟩⟩
 ·have hi : i < p.n := hi
  have := hf.rg i hi
  show 0 ≤ (if i = wi then tl else p.lo i) ∧ (if i = wi then tl else p.lo i) ≤ (if i = wi then th else p.hi i) ∧ (if i = wi then th else p.hi i) ≤ 1000000
  by_cases e : i = wi
  ·subst e; have := h hi; simp only [if_true]; omega
  ·simp only [if_neg e]; omega
 ·show p.lo i ≤ (if i = wi then tl else p.lo i)
  by_cases e : i = wi
  ·subst e; have := h hi; simp only [if_true]; omega
  ·simp only [if_neg e]; omega
 ·show (if i = wi then th else p.hi i) ≤ p.hi i
  by_cases e : i = wi
  ·subst e; have := h hi; simp only [if_true]; omega
  ·simp only [if_neg e]; omega
theorem rowN (p : Pl) (wi : Nat) (tl th : Int) : ∀ i j : Nat, i < p.n → j < 2 → (if i = wi ∧ j < 2 then [SV.val (Value.int IntKind.i64 tl), SV.val (Value.int IntKind.i64 th)][j]?.getD SV.top else SV.val (Value.int IntKind.i64 (if j = 0 then p.lo i else p.hi i))) = SV.val (Value.int IntKind.i64 (if j = 0 then if i = wi then tl else p.lo i else if i = wi then th else p.hi i)) := by
 intro i j _ hj
 have : j = 0 ∨ j = 1 := by omega
 by_cases e : i = wi
 ·rw [if_pos ⟨e, hj⟩]
  rcases this with rfl | rfl
  ·rw [if_pos rfl, if_pos e]; rfl
  ·rw [if_neg (by omega), if_pos e]; rfl
 ·rw [if_neg fun h => e h.1]
  rcases this with rfl | rfl
  ·rw [if_pos rfl, if_pos rfl, if_neg e]
  ·rw [if_neg (by omega), if_neg (by omega), if_neg e]
theorem c11 (p : Pl) (kb : Nat) (u : Nat → Int) (hu : ∀ i, i < kb → 0 ≤ u i ∧ u i < 4294967296) (runner step which l0 l1 : Int) (h0 : 0 ≤ runner ∧ runner < 256) (h1 : 0 ≤ step ∧ step < 256) (h2 : 0 ≤ which ∧ which < 256) (h3 : 0 ≤ l0 ∧ l0 < 4294967296) (h4 : 0 ≤ l1 ∧ l1 < 4294967296) : Contract Try.prog 11 [p.sv, u32s kb u, U8 runner, U8 step, U8 which, .agg [U32 l0, U32 l1]] (B true) := by
 refine contract_ofF (farL [(10, [(0, 0)]), (13, [(0, 0)]), (15, [(0, 0)]), (16, [(0, 0)]), (21, [(0, 0)]), (23, [(0, 0)])]) Try.func11 rfl (by kernel_rfl) follows (by kernel_rfl) _ _ (by rw [Try.ntmps11]; simp) (by simp only [OldL, Pl.old, and_self, true_and, and_true]; simp [Old, OldL, u32s, U8, U32, I]) ?_
 unfold B
 conv => arg 4; unfold Pl.sv rngs u32s U8 U32 I
 by_cases he : p.err = 0
 rotate_left
 ·have er := he
  have es := he
  have ew := he
  (repeat' (first | with_reducible refine splitVC_d (fun _ => ?_) (fun _ => ?_) | with_reducible refine splitVC (fun _ => ?_) (fun _ => ?_) | ((with_reducible refine And.intro ?_ ?_); focus (first | exact True.intro | omega | (simp only [InK, ne_eq, and_true, true_and]; omega) | exact ⟨.inr trivial, by omega⟩ | exact ⟨.inr trivial, Nat.le_refl _, one22 _ _, by omega⟩ | trivial)) | (simp -dsimp only [↓RP, RQ, implies_true, forall_const, Nat.reduceMul, reduceIte, reduceCtorEq, Nat.reduceAdd, Nat.reduceEqDiff, Nat.reduceLT, Nat.reduceLeDiff, ↓RY, Int.reduceEq, Int.reduceNeg, RZ, eq_self, eq23, TYq, TYp, TYx, TY62, by66, er, es, ew, he, Fr.mk.injEq, fsv, B, I, by2, TY, Try.results11])))
  refine callVC (c25 p) ?_ ?_ ?_; iterate 2 focus ((simp -dsimp only [↓RP, RQ, implies_true, forall_const, Nat.reduceMul, reduceIte, reduceCtorEq, Nat.reduceAdd, Nat.reduceEqDiff, Nat.reduceLT, Nat.reduceLeDiff, Pl.sv, rngs, fsv, Go.Od.ints, u32s, U8, kn, I, B]); all_goals (try simp))
  (repeat' (first | with_reducible refine splitVC_d (fun _ => ?_) (fun _ => ?_) | with_reducible refine splitVC (fun _ => ?_) (fun _ => ?_) | ((with_reducible refine And.intro ?_ ?_); focus (first | exact True.intro | omega | (simp only [InK, ne_eq, and_true, true_and]; omega) | exact ⟨.inr trivial, by omega⟩ | exact ⟨.inr trivial, Nat.le_refl _, one22 _ _, by omega⟩ | trivial)) | (simp -dsimp only [↓RP, RQ, implies_true, forall_const, Nat.reduceMul, reduceIte, reduceCtorEq, Nat.reduceAdd, Nat.reduceEqDiff, Nat.reduceLT, Nat.reduceLeDiff, ↓RY, Int.reduceEq, Int.reduceNeg, RZ, eq_self, eq23, TYq, TYp, TYx, TY62, by66, er, es, ew, he, Fr.mk.injEq, fsv, B, I, by2, TY, Try.results11])))
  all_goals first | (refine callVC c22 ?_ ?_ ?_; (iterate 2 focus ((simp -dsimp only [↓RP, RQ, implies_true, forall_const, Nat.reduceMul, reduceIte, reduceCtorEq, Nat.reduceAdd, Nat.reduceEqDiff, Nat.reduceLT, Nat.reduceLeDiff, Pl.sv, rngs, fsv, Go.Od.ints, u32s, U8, kn, I, B]); all_goals (try simp))); (repeat' (first | with_reducible refine splitVC_d (fun _ => ?_) (fun _ => ?_) | with_reducible refine splitVC (fun _ => ?_) (fun _ => ?_) | ((with_reducible refine And.intro ?_ ?_); focus (first | exact True.intro | omega | (simp only [InK, ne_eq, and_true, true_and]; omega) | exact ⟨.inr trivial, by omega⟩ | exact ⟨.inr trivial, Nat.le_refl _, one22 _ _, by omega⟩ | trivial)) | (simp -dsimp only [↓RP, RQ, implies_true, forall_const, Nat.reduceMul, reduceIte, reduceCtorEq, Nat.reduceAdd, Nat.reduceEqDiff, Nat.reduceLT, Nat.reduceLeDiff, ↓RY, Int.reduceEq, Int.reduceNeg, RZ, eq_self, eq23, TYq, TYp, TYx, TY62, by66, er, es, ew, he, Fr.mk.injEq, fsv, B, I, by2, TY, Try.results11]))); done) | skip
  refine callVC (c31 p) ?_ ?_ ?_; iterate 2 focus ((simp -dsimp only [↓RP, RQ, implies_true, forall_const, Nat.reduceMul, reduceIte, reduceCtorEq, Nat.reduceAdd, Nat.reduceEqDiff, Nat.reduceLT, Nat.reduceLeDiff, Pl.sv, rngs, fsv, Go.Od.ints, u32s, U8, kn, I, B]); all_goals (try simp))
  (repeat' (first | with_reducible refine splitVC_d (fun _ => ?_) (fun _ => ?_) | with_reducible refine splitVC (fun _ => ?_) (fun _ => ?_) | ((with_reducible refine And.intro ?_ ?_); focus (first | exact True.intro | omega | (simp only [InK, ne_eq, and_true, true_and]; omega) | exact ⟨.inr trivial, by omega⟩ | exact ⟨.inr trivial, Nat.le_refl _, one22 _ _, by omega⟩ | trivial)) | (simp -dsimp only [↓RP, RQ, implies_true, forall_const, Nat.reduceMul, reduceIte, reduceCtorEq, Nat.reduceAdd, Nat.reduceEqDiff, Nat.reduceLT, Nat.reduceLeDiff, ↓RY, Int.reduceEq, Int.reduceNeg, RZ, eq_self, eq23, TYq, TYp, TYx, TY62, by66, er, es, ew, he, Fr.mk.injEq, fsv, B, I, by2, TY, Try.results11])))
  all_goals (refine callVC c22 ?_ ?_ ?_; (iterate 2 focus ((simp -dsimp only [↓RP, RQ, implies_true, forall_const, Nat.reduceMul, reduceIte, reduceCtorEq, Nat.reduceAdd, Nat.reduceEqDiff, Nat.reduceLT, Nat.reduceLeDiff, Pl.sv, rngs, fsv, Go.Od.ints, u32s, U8, kn, I, B]); all_goals (try simp))); (repeat' (first | with_reducible refine splitVC_d (fun _ => ?_) (fun _ => ?_) | with_reducible refine splitVC (fun _ => ?_) (fun _ => ?_) | ((with_reducible refine And.intro ?_ ?_); focus (first | exact True.intro | omega | (simp only [InK, ne_eq, and_true, true_and]; omega) | exact ⟨.inr trivial, by omega⟩ | exact ⟨.inr trivial, Nat.le_refl _, one22 _ _, by omega⟩ | trivial)) | (simp -dsimp only [↓RP, RQ, implies_true, forall_const, Nat.reduceMul, reduceIte, reduceCtorEq, Nat.reduceAdd, Nat.reduceEqDiff, Nat.reduceLT, Nat.reduceLeDiff, ↓RY, Int.reduceEq, Int.reduceNeg, RZ, eq_self, eq23, TYq, TYp, TYx, TY62, by66, er, es, ew, he, Fr.mk.injEq, fsv, B, I, by2, TY, Try.results11]))))
 have hf := Pl.fine he
 have hn1 := hf.n1
 have hn8 := hf.n8
 obtain ⟨k, er, hk⟩ : ∃ k : Nat, runner.tmod (p.n : Nat) = k ∧ k < p.n := by
  have a := Int.tmod_nonneg (p.n : Nat) h0.1
  have b := Int.tmod_lt_of_pos runner (show (0 : Int) < (p.n : Nat) by omega)
  exact ⟨(runner.tmod (p.n : Nat)).toNat, by omega, by omega⟩
 obtain ⟨wi, ew, hw⟩ : ∃ k : Nat, which.tmod (p.n : Nat) = k ∧ k < p.n := by
  have a := Int.tmod_nonneg (p.n : Nat) h2.1
  have b := Int.tmod_lt_of_pos which (show (0 : Int) < (p.n : Nat) by omega)
  exact ⟨(which.tmod (p.n : Nat)).toNat, by omega, by omega⟩
 have ⟨n0, n1⟩ : 0 ≤ step.tmod 100 ∧ step.tmod 100 < 100 := ⟨Int.tmod_nonneg _ h1.1, Int.tmod_lt_of_pos _ (by omega)⟩
 obtain ⟨sm, es⟩ : ∃ x, step.tmod 100 = x := ⟨_, rfl⟩
 rw [es] at n0 n1
 have c31 := c31 p
 rw [he] at c31
 have c26 := c26 p k
 have c28 := c28 p k (1 + sm)
 (repeat' (first | with_reducible refine splitVC_d (fun _ => ?_) (fun _ => ?_) | with_reducible refine splitVC (fun _ => ?_) (fun _ => ?_) | ((with_reducible refine And.intro ?_ ?_); focus (first | exact True.intro | omega | (simp only [InK, ne_eq, and_true, true_and]; omega) | exact ⟨.inr trivial, by omega⟩ | exact ⟨.inr trivial, Nat.le_refl _, one22 _ _, by omega⟩ | trivial)) | (simp -dsimp only [↓RP, RQ, implies_true, forall_const, Nat.reduceMul, reduceIte, reduceCtorEq, Nat.reduceAdd, Nat.reduceEqDiff, Nat.reduceLT, Nat.reduceLeDiff, ↓RY, Int.reduceEq, Int.reduceNeg, RZ, eq_self, eq23, TYq, TYp, TYx, TY62, by66, er, es, ew, he, Fr.mk.injEq, fsv, B, I, by2, TY, Try.results11])))
 refine callVC (cfB (c25 p) (by omega)) ?_ ?_ ?_; iterate 2 focus ((simp -dsimp only [↓RP, RQ, implies_true, forall_const, Nat.reduceMul, reduceIte, reduceCtorEq, Nat.reduceAdd, Nat.reduceEqDiff, Nat.reduceLT, Nat.reduceLeDiff, Pl.sv, rngs, fsv, Go.Od.ints, u32s, U8, kn, I, B]); all_goals (try simp))
 (repeat' (first | with_reducible refine splitVC_d (fun _ => ?_) (fun _ => ?_) | with_reducible refine splitVC (fun _ => ?_) (fun _ => ?_) | ((with_reducible refine And.intro ?_ ?_); focus (first | exact True.intro | omega | (simp only [InK, ne_eq, and_true, true_and]; omega) | exact ⟨.inr trivial, by omega⟩ | exact ⟨.inr trivial, Nat.le_refl _, one22 _ _, by omega⟩ | trivial)) | (simp -dsimp only [↓RP, RQ, implies_true, forall_const, Nat.reduceMul, reduceIte, reduceCtorEq, Nat.reduceAdd, Nat.reduceEqDiff, Nat.reduceLT, Nat.reduceLeDiff, ↓RY, Int.reduceEq, Int.reduceNeg, RZ, eq_self, eq23, TYq, TYp, TYx, TY62, by66, er, es, ew, he, Fr.mk.injEq, fsv, B, I, by2, TY, Try.results11])))
 refine callVC c31 ?_ ?_ ?_; iterate 2 focus ((simp -dsimp only [↓RP, RQ, implies_true, forall_const, Nat.reduceMul, reduceIte, reduceCtorEq, Nat.reduceAdd, Nat.reduceEqDiff, Nat.reduceLT, Nat.reduceLeDiff, Pl.sv, rngs, fsv, Go.Od.ints, u32s, U8, kn, I, B]); all_goals (try simp))
 (repeat' (first | with_reducible refine splitVC_d (fun _ => ?_) (fun _ => ?_) | with_reducible refine splitVC (fun _ => ?_) (fun _ => ?_) | ((with_reducible refine And.intro ?_ ?_); focus (first | exact True.intro | omega | (simp only [InK, ne_eq, and_true, true_and]; omega) | exact ⟨.inr trivial, by omega⟩ | exact ⟨.inr trivial, Nat.le_refl _, one22 _ _, by omega⟩ | trivial)) | (simp -dsimp only [↓RP, RQ, implies_true, forall_const, Nat.reduceMul, reduceIte, reduceCtorEq, Nat.reduceAdd, Nat.reduceEqDiff, Nat.reduceLT, Nat.reduceLeDiff, ↓RY, Int.reduceEq, Int.reduceNeg, RZ, eq_self, eq23, TYq, TYp, TYx, TY62, by66, er, es, ew, he, Fr.mk.injEq, fsv, B, I, by2, TY, Try.results11])))
 all_goals first | (refine callVC c22 ?_ ?_ ?_; (iterate 2 focus ((simp -dsimp only [↓RP, RQ, implies_true, forall_const, Nat.reduceMul, reduceIte, reduceCtorEq, Nat.reduceAdd, Nat.reduceEqDiff, Nat.reduceLT, Nat.reduceLeDiff, Pl.sv, rngs, fsv, Go.Od.ints, u32s, U8, kn, I, B]); all_goals (try simp))); (repeat' (first | with_reducible refine splitVC_d (fun _ => ?_) (fun _ => ?_) | with_reducible refine splitVC (fun _ => ?_) (fun _ => ?_) | ((with_reducible refine And.intro ?_ ?_); focus (first | exact True.intro | omega | (simp only [InK, ne_eq, and_true, true_and]; omega) | exact ⟨.inr trivial, by omega⟩ | exact ⟨.inr trivial, Nat.le_refl _, one22 _ _, by omega⟩ | trivial)) | (simp -dsimp only [↓RP, RQ, implies_true, forall_const, Nat.reduceMul, reduceIte, reduceCtorEq, Nat.reduceAdd, Nat.reduceEqDiff, Nat.reduceLT, Nat.reduceLeDiff, ↓RY, Int.reduceEq, Int.reduceNeg, RZ, eq_self, eq23, TYq, TYp, TYx, TY62, by66, er, es, ew, he, Fr.mk.injEq, fsv, B, I, by2, TY, Try.results11]))); done) | skip
 by_cases hz : p.lo k = 0
 ·rw [Pl.span_20 (ask_0 hf hk) hz] at c26
  rw [Pl.board_20 (ask_0 hf hk) (by omega) hz] at c28
  refine callVC c26 ?_ ?_ ?_; iterate 2 focus ((simp -dsimp only [↓RP, RQ, implies_true, forall_const, Nat.reduceMul, reduceIte, reduceCtorEq, Nat.reduceAdd, Nat.reduceEqDiff, Nat.reduceLT, Nat.reduceLeDiff, Pl.sv, rngs, fsv, Go.Od.ints, u32s, U8, kn, I, B]); all_goals (try simp))
  (repeat' (first | with_reducible refine splitVC_d (fun _ => ?_) (fun _ => ?_) | with_reducible refine splitVC (fun _ => ?_) (fun _ => ?_) | ((with_reducible refine And.intro ?_ ?_); focus (first | exact True.intro | omega | (simp only [InK, ne_eq, and_true, true_and]; omega) | exact ⟨.inr trivial, by omega⟩ | exact ⟨.inr trivial, Nat.le_refl _, one22 _ _, by omega⟩ | trivial)) | (simp -dsimp only [↓RP, RQ, implies_true, forall_const, Nat.reduceMul, reduceIte, reduceCtorEq, Nat.reduceAdd, Nat.reduceEqDiff, Nat.reduceLT, Nat.reduceLeDiff, hz, ↓RY, Int.reduceEq, Int.reduceNeg, RZ, eq_self, eq23, TYq, TYp, TYx, TY62, by66, er, es, ew, he, Fr.mk.injEq, fsv, B, I, by2, TY, Try.results11])))
  refine callVC c28 ?_ ?_ ?_; iterate 2 focus ((simp -dsimp only [↓RP, RQ, implies_true, forall_const, Nat.reduceMul, reduceIte, reduceCtorEq, Nat.reduceAdd, Nat.reduceEqDiff, Nat.reduceLT, Nat.reduceLeDiff, Pl.sv, rngs, fsv, Go.Od.ints, u32s, U8, kn, I, B]); all_goals (try simp))
  (repeat' (first | with_reducible refine splitVC_d (fun _ => ?_) (fun _ => ?_) | with_reducible refine splitVC (fun _ => ?_) (fun _ => ?_) | ((with_reducible refine And.intro ?_ ?_); focus (first | exact True.intro | omega | (simp only [InK, ne_eq, and_true, true_and]; omega) | exact ⟨.inr trivial, by omega⟩ | exact ⟨.inr trivial, Nat.le_refl _, one22 _ _, by omega⟩ | trivial)) | (simp -dsimp only [↓RP, RQ, implies_true, forall_const, Nat.reduceMul, reduceIte, reduceCtorEq, Nat.reduceAdd, Nat.reduceEqDiff, Nat.reduceLT, Nat.reduceLeDiff, hz, ↓RY, Int.reduceEq, Int.reduceNeg, RZ, eq_self, eq23, TYq, TYp, TYx, TY62, by66, er, es, ew, he, Fr.mk.injEq, fsv, B, I, by2, TY, Try.results11])))
  refine callVC c22 ?_ ?_ ?_; iterate 2 focus ((simp -dsimp only [↓RP, RQ, implies_true, forall_const, Nat.reduceMul, reduceIte, reduceCtorEq, Nat.reduceAdd, Nat.reduceEqDiff, Nat.reduceLT, Nat.reduceLeDiff, Pl.sv, rngs, fsv, Go.Od.ints, u32s, U8, kn, I, B]); all_goals (try simp))
  (repeat' (first | with_reducible refine splitVC_d (fun _ => ?_) (fun _ => ?_) | with_reducible refine splitVC (fun _ => ?_) (fun _ => ?_) | ((with_reducible refine And.intro ?_ ?_); focus (first | exact True.intro | omega | (simp only [InK, ne_eq, and_true, true_and]; omega) | exact ⟨.inr trivial, by omega⟩ | exact ⟨.inr trivial, Nat.le_refl _, one22 _ _, by omega⟩ | trivial)) | (simp -dsimp only [↓RP, RQ, implies_true, forall_const, Nat.reduceMul, reduceIte, reduceCtorEq, Nat.reduceAdd, Nat.reduceEqDiff, Nat.reduceLT, Nat.reduceLeDiff, hz, ↓RY, Int.reduceEq, Int.reduceNeg, RZ, eq_self, eq23, TYq, TYp, TYx, TY62, by66, er, es, ew, he, Fr.mk.injEq, fsv, B, I, by2, TY, Try.results11])))
  all_goals trace_state
 rw [Pl.span_0 (ask_0 hf hk) hz] at c26
 rw [Pl.board_0 (ask_0 hf hk) (by omega) hz] at c28
 have ⟨a0, a1, a2⟩ := hf.rg k hk
 have ⟨v1, v2⟩ := Pl.span_sane hf hk hz
 have hle := Pl.span_le hf hk hz
 have w1 := sh_small (s := 1 + sm) v1.2.1 (show 0 < _ by have := v1.1; omega) (by omega)
 have w2 := sh_small (s := 1 + sm) v2.2.1 (show 0 < _ by have := v2.1; omega) (by omega)
 have hsh := sh_mono (s := 1 + sm) v1.2.1 (show 0 < _ by have := v1.1; omega) v2.2.1 (show 0 < _ by have := v2.1; omega) (by omega) hle
 have ⟨tf, tt⟩ := kn_fine' hf (t := truV p kb u) fun i hi => tru_in hf hu hi
 have ⟨tin, _⟩ := tight_in hf tf tt hk hz
 have tz : ¬ (kn p.n (truV p kb u) p.cut).lo k = 0 := by have := (tru_in hf hu hk).1; show ¬ truV p kb u k = 0; omega
 have ⟨tv, _⟩ := Pl.span_sane tf hk tz
 have d26 := Go.Od.c26 (kn p.n (truV p kb u) p.cut) k
 have d28 := Go.Od.c28 (kn p.n (truV p kb u) p.cut) k (1 + sm)
 rw [Pl.span_0 (ask_0 tf hk) tz, kn_span] at d26
 rw [Pl.board_0 (ask_0 tf hk) (by omega) tz, Pl.boardOk, kn_span] at d28
 rw [kn_span] at tin tv
 have c56 := c56 p.n (truV p kb u) (by omega) (fun i hi => by have := tru_in hf hu hi; have := hf.rg i hi; omega) k hk (by have := (tru_in hf hu hk).1; omega) p.cut hf.c0 hf.c1
 have tw := sh_small (s := 1 + sm) tv.2.1 (show 0 < _ by have := tv.1; omega) (by omega)
 have tsh := tin.sh (s := 1 + sm) (by omega) tv.2.1 (show 0 < _ by have := tv.1; omega) v1.2.1 (show 0 < _ by have := v1.1; omega) v2.2.1 (show 0 < _ by have := v2.1; omega)
 have tno := sh_not (s := 1 + sm) tv.2.1 (show 0 < _ by have := tv.1; omega) (by omega)
 have c54 := c54 p hf kb u hu
 have c55 := c55 p.n hn1 (by omega) (truV p kb u) p.cut
 unfold Pl.boardOk at c28
 have ⟨g0, g1, g2⟩ := hf.rg wi hw
 have ⟨x0, x1⟩ : 0 ≤ l0.tmod (p.hi wi - p.lo wi + 1) ∧ l0.tmod (p.hi wi - p.lo wi + 1) < p.hi wi - p.lo wi + 1 := ⟨Int.tmod_nonneg _ h3.1, Int.tmod_lt_of_pos _ (by omega)⟩
 obtain ⟨tl, etl⟩ : ∃ x, p.lo wi + l0.tmod (p.hi wi - p.lo wi + 1) = x := ⟨_, rfl⟩
 have ⟨y0, y1⟩ : 0 ≤ l1.tmod (p.hi wi - tl + 1) ∧ l1.tmod (p.hi wi - tl + 1) < p.hi wi - tl + 1 := ⟨Int.tmod_nonneg _ h4.1, Int.tmod_lt_of_pos _ (by omega)⟩
 obtain ⟨th, eth⟩ : ∃ x, p.hi wi - l1.tmod (p.hi wi - tl + 1) = x := ⟨_, rfl⟩
 have ⟨nf, nt⟩ := nar_fine hf (wi := wi) (tl := tl) (th := th) (fun _ => by omega)
 have ⟨ni1, ni2⟩ := tight_in hf nf nt hk hz
 have nz : ¬ (nar p wi tl th).lo k = 0 := by have := nt.lo k hk; omega
 have ⟨nv1, nv2⟩ := Pl.span_sane nf hk nz
 have e26 := Go.Od.c26 (nar p wi tl th) k
 have e28 := Go.Od.c28 (nar p wi tl th) k (1 + sm)
 rw [Pl.span_0 (ask_0 nf hk) nz] at e26
 rw [Pl.board_0 (ask_0 nf hk) (by omega) nz, Pl.boardOk] at e28
 have nw1 := sh_small (s := 1 + sm) nv1.2.1 (show 0 < _ by have := nv1.1; omega) (by omega)
 have nw2 := sh_small (s := 1 + sm) nv2.2.1 (show 0 < _ by have := nv2.1; omega) (by omega)
 have ns1 := ni1.sh (s := 1 + sm) (by omega) nv1.2.1 (show 0 < _ by have := nv1.1; omega) v1.2.1 (show 0 < _ by have := v1.1; omega) v2.2.1 (show 0 < _ by have := v2.1; omega)
 have ns2 := ni2.sh (s := 1 + sm) (by omega) nv2.2.1 (show 0 < _ by have := nv2.1; omega) v1.2.1 (show 0 < _ by have := v1.1; omega) v2.2.1 (show 0 < _ by have := v2.1; omega)
 simp only [] at tv tin d26 d28 tw tsh tno
 obtain ⟨lo, elo⟩ : ∃ x, (p.spanOk k).1 = x := ⟨_, rfl⟩
 obtain ⟨hi, ehi⟩ : ∃ x, (p.spanOk k).2 = x := ⟨_, rfl⟩
 rw [elo] at c26 c28 v1 w1 hle hsh tin tsh ni1 ni2 ns1 ns2
 rw [ehi] at c26 c28 v2 w2 hle hsh tin tsh ni1 ni2 ns1 ns2
 generalize oddV (truV p kb u k) (sumTo (truV p kb u) p.n) p.cut = x at *
 simp only [] at e26 e28
 obtain ⟨nl, enl⟩ : ∃ x, ((nar p wi tl th).spanOk k).1 = x := ⟨_, rfl⟩
 obtain ⟨nh, enh⟩ : ∃ x, ((nar p wi tl th).spanOk k).2 = x := ⟨_, rfl⟩
 rw [enl] at e26 e28 nv1 nw1 ni1 ns1
 rw [enh] at e26 e28 nv2 nw2 ni2 ns2
 have j1 := ctB (c53 nl) nv1
 have j2 := ctB (c53 nh) nv2
 have j3 := ctB (c48 (shV nl (1 + sm))) nw1
 have j4 := ctB (c48 (shV nh (1 + sm))) nw2
 have j5 := c57 nl lo hi nv1 v1 v2 ni1
 have j6 := c57 nh lo hi nv2 v1 v2 ni2
 have j7 := c57 _ _ _ (small_sane nw1) (small_sane w1) (small_sane w2) ns1
 have j8 := c57 _ _ _ (small_sane nw2) (small_sane w1) (small_sane w2) ns2
 have k1 := ctB (c53 lo) v1
 have k2 := ctB (c53 hi) v2
 have k3 := ctB (c48 (shV lo (1 + sm))) w1
 have k4 := ctB (c48 (shV hi (1 + sm))) w2
 have k5 := cfB (c49 hi lo (sane_lt v2 v1).1 (sane_lt v2 v1).2) (not_lt.2 hle)
 have k6 := cfB (c49 _ _ (small_lt w2 w1).1 (small_lt w2 w1).2) (not_lt.2 hsh)
 have k7 := ctB (c48 (shV x (1 + sm))) tw
 have k8 := c57 x lo hi tv v1 v2 tin
 have k9 := c57 _ _ _ (small_sane tw) (small_sane w1) (small_sane w2) tsh
 have k10 := cfB (c49 _ _ (sane_lt tv (small_sane tw)).1 (sane_lt tv (small_sane tw)).2) tno
 generalize shV lo (1 + sm) = a at *
 generalize shV hi (1 + sm) = b at *
 generalize shV x (1 + sm) = v at *
 generalize truV p kb u = t at *
 generalize shV nl (1 + sm) = na at *
 generalize shV nh (1 + sm) = nb' at *
 clear hle hsh tin tsh v1 v2 w1 w2 tv tw tno tf tt ni1 ni2 ns1 ns2 nv1 nv2 nw1 nw2 nz tz nt nf elo ehi enl enh a0 a1 a2
 refine callVC c26 ?_ ?_ ?_; iterate 2 focus ((simp -dsimp only [↓RP, RQ, implies_true, forall_const, Nat.reduceMul, reduceIte, reduceCtorEq, Nat.reduceAdd, Nat.reduceEqDiff, Nat.reduceLT, Nat.reduceLeDiff, Pl.sv, rngs, fsv, Go.Od.ints, u32s, U8, kn, I, B]); all_goals (try simp))
 (repeat' (first | with_reducible refine splitVC_d (fun _ => ?_) (fun _ => ?_) | with_reducible refine splitVC (fun _ => ?_) (fun _ => ?_) | ((with_reducible refine And.intro ?_ ?_); focus (first | exact True.intro | omega | (simp only [InK, ne_eq, and_true, true_and]; omega) | exact ⟨.inr trivial, by omega⟩ | exact ⟨.inr trivial, Nat.le_refl _, one22 _ _, by omega⟩ | trivial)) | (simp -dsimp only [↓RP, RQ, implies_true, forall_const, Nat.reduceMul, reduceIte, reduceCtorEq, Nat.reduceAdd, Nat.reduceEqDiff, Nat.reduceLT, Nat.reduceLeDiff, hz, ↓RY, Int.reduceEq, Int.reduceNeg, RZ, eq_self, eq23, TYq, TYp, TYx, TY62, by66, er, es, ew, he, Fr.mk.injEq, fsv, B, I, by2, TY, Try.results11])))
 refine callVC c28 ?_ ?_ ?_; iterate 2 focus ((simp -dsimp only [↓RP, RQ, implies_true, forall_const, Nat.reduceMul, reduceIte, reduceCtorEq, Nat.reduceAdd, Nat.reduceEqDiff, Nat.reduceLT, Nat.reduceLeDiff, Pl.sv, rngs, fsv, Go.Od.ints, u32s, U8, kn, I, B]); all_goals (try simp))
 (repeat' (first | with_reducible refine splitVC_d (fun _ => ?_) (fun _ => ?_) | with_reducible refine splitVC (fun _ => ?_) (fun _ => ?_) | ((with_reducible refine And.intro ?_ ?_); focus (first | exact True.intro | omega | (simp only [InK, ne_eq, and_true, true_and]; omega) | exact ⟨.inr trivial, by omega⟩ | exact ⟨.inr trivial, Nat.le_refl _, one22 _ _, by omega⟩ | trivial)) | (simp -dsimp only [↓RP, RQ, implies_true, forall_const, Nat.reduceMul, reduceIte, reduceCtorEq, Nat.reduceAdd, Nat.reduceEqDiff, Nat.reduceLT, Nat.reduceLeDiff, hz, ↓RY, Int.reduceEq, Int.reduceNeg, RZ, eq_self, eq23, TYq, TYp, TYx, TY62, by66, er, es, ew, he, Fr.mk.injEq, fsv, B, I, by2, TY, Try.results11])))
 refine callVC k1 ?_ ?_ ?_; iterate 2 focus ((simp -dsimp only [↓RP, RQ, implies_true, forall_const, Nat.reduceMul, reduceIte, reduceCtorEq, Nat.reduceAdd, Nat.reduceEqDiff, Nat.reduceLT, Nat.reduceLeDiff, Pl.sv, rngs, fsv, Go.Od.ints, u32s, U8, kn, I, B]); all_goals (try simp))
 (repeat' (first | with_reducible refine splitVC_d (fun _ => ?_) (fun _ => ?_) | with_reducible refine splitVC (fun _ => ?_) (fun _ => ?_) | ((with_reducible refine And.intro ?_ ?_); focus (first | exact True.intro | omega | (simp only [InK, ne_eq, and_true, true_and]; omega) | exact ⟨.inr trivial, by omega⟩ | exact ⟨.inr trivial, Nat.le_refl _, one22 _ _, by omega⟩ | trivial)) | (simp -dsimp only [↓RP, RQ, implies_true, forall_const, Nat.reduceMul, reduceIte, reduceCtorEq, Nat.reduceAdd, Nat.reduceEqDiff, Nat.reduceLT, Nat.reduceLeDiff, hz, ↓RY, Int.reduceEq, Int.reduceNeg, RZ, eq_self, eq23, TYq, TYp, TYx, TY62, by66, er, es, ew, he, Fr.mk.injEq, fsv, B, I, by2, TY, Try.results11])))
 refine callVC k2 ?_ ?_ ?_; iterate 2 focus ((simp -dsimp only [↓RP, RQ, implies_true, forall_const, Nat.reduceMul, reduceIte, reduceCtorEq, Nat.reduceAdd, Nat.reduceEqDiff, Nat.reduceLT, Nat.reduceLeDiff, Pl.sv, rngs, fsv, Go.Od.ints, u32s, U8, kn, I, B]); all_goals (try simp))
 (repeat' (first | with_reducible refine splitVC_d (fun _ => ?_) (fun _ => ?_) | with_reducible refine splitVC (fun _ => ?_) (fun _ => ?_) | ((with_reducible refine And.intro ?_ ?_); focus (first | exact True.intro | omega | (simp only [InK, ne_eq, and_true, true_and]; omega) | exact ⟨.inr trivial, by omega⟩ | exact ⟨.inr trivial, Nat.le_refl _, one22 _ _, by omega⟩ | trivial)) | (simp -dsimp only [↓RP, RQ, implies_true, forall_const, Nat.reduceMul, reduceIte, reduceCtorEq, Nat.reduceAdd, Nat.reduceEqDiff, Nat.reduceLT, Nat.reduceLeDiff, hz, ↓RY, Int.reduceEq, Int.reduceNeg, RZ, eq_self, eq23, TYq, TYp, TYx, TY62, by66, er, es, ew, he, Fr.mk.injEq, fsv, B, I, by2, TY, Try.results11])))
 refine callVC k3 ?_ ?_ ?_; iterate 2 focus ((simp -dsimp only [↓RP, RQ, implies_true, forall_const, Nat.reduceMul, reduceIte, reduceCtorEq, Nat.reduceAdd, Nat.reduceEqDiff, Nat.reduceLT, Nat.reduceLeDiff, Pl.sv, rngs, fsv, Go.Od.ints, u32s, U8, kn, I, B]); all_goals (try simp))
 (repeat' (first | with_reducible refine splitVC_d (fun _ => ?_) (fun _ => ?_) | with_reducible refine splitVC (fun _ => ?_) (fun _ => ?_) | ((with_reducible refine And.intro ?_ ?_); focus (first | exact True.intro | omega | (simp only [InK, ne_eq, and_true, true_and]; omega) | exact ⟨.inr trivial, by omega⟩ | exact ⟨.inr trivial, Nat.le_refl _, one22 _ _, by omega⟩ | trivial)) | (simp -dsimp only [↓RP, RQ, implies_true, forall_const, Nat.reduceMul, reduceIte, reduceCtorEq, Nat.reduceAdd, Nat.reduceEqDiff, Nat.reduceLT, Nat.reduceLeDiff, hz, ↓RY, Int.reduceEq, Int.reduceNeg, RZ, eq_self, eq23, TYq, TYp, TYx, TY62, by66, er, es, ew, he, Fr.mk.injEq, fsv, B, I, by2, TY, Try.results11])))
 refine callVC k4 ?_ ?_ ?_; iterate 2 focus ((simp -dsimp only [↓RP, RQ, implies_true, forall_const, Nat.reduceMul, reduceIte, reduceCtorEq, Nat.reduceAdd, Nat.reduceEqDiff, Nat.reduceLT, Nat.reduceLeDiff, Pl.sv, rngs, fsv, Go.Od.ints, u32s, U8, kn, I, B]); all_goals (try simp))
 (repeat' (first | with_reducible refine splitVC_d (fun _ => ?_) (fun _ => ?_) | with_reducible refine splitVC (fun _ => ?_) (fun _ => ?_) | ((with_reducible refine And.intro ?_ ?_); focus (first | exact True.intro | omega | (simp only [InK, ne_eq, and_true, true_and]; omega) | exact ⟨.inr trivial, by omega⟩ | exact ⟨.inr trivial, Nat.le_refl _, one22 _ _, by omega⟩ | trivial)) | (simp -dsimp only [↓RP, RQ, implies_true, forall_const, Nat.reduceMul, reduceIte, reduceCtorEq, Nat.reduceAdd, Nat.reduceEqDiff, Nat.reduceLT, Nat.reduceLeDiff, hz, ↓RY, Int.reduceEq, Int.reduceNeg, RZ, eq_self, eq23, TYq, TYp, TYx, TY62, by66, er, es, ew, he, Fr.mk.injEq, fsv, B, I, by2, TY, Try.results11])))
 refine callVC k5 ?_ ?_ ?_; iterate 2 focus ((simp -dsimp only [↓RP, RQ, implies_true, forall_const, Nat.reduceMul, reduceIte, reduceCtorEq, Nat.reduceAdd, Nat.reduceEqDiff, Nat.reduceLT, Nat.reduceLeDiff, Pl.sv, rngs, fsv, Go.Od.ints, u32s, U8, kn, I, B]); all_goals (try simp))
 (repeat' (first | with_reducible refine splitVC_d (fun _ => ?_) (fun _ => ?_) | with_reducible refine splitVC (fun _ => ?_) (fun _ => ?_) | ((with_reducible refine And.intro ?_ ?_); focus (first | exact True.intro | omega | (simp only [InK, ne_eq, and_true, true_and]; omega) | exact ⟨.inr trivial, by omega⟩ | exact ⟨.inr trivial, Nat.le_refl _, one22 _ _, by omega⟩ | trivial)) | (simp -dsimp only [↓RP, RQ, implies_true, forall_const, Nat.reduceMul, reduceIte, reduceCtorEq, Nat.reduceAdd, Nat.reduceEqDiff, Nat.reduceLT, Nat.reduceLeDiff, hz, ↓RY, Int.reduceEq, Int.reduceNeg, RZ, eq_self, eq23, TYq, TYp, TYx, TY62, by66, er, es, ew, he, Fr.mk.injEq, fsv, B, I, by2, TY, Try.results11])))
 refine callVC k6 ?_ ?_ ?_; iterate 2 focus ((simp -dsimp only [↓RP, RQ, implies_true, forall_const, Nat.reduceMul, reduceIte, reduceCtorEq, Nat.reduceAdd, Nat.reduceEqDiff, Nat.reduceLT, Nat.reduceLeDiff, Pl.sv, rngs, fsv, Go.Od.ints, u32s, U8, kn, I, B]); all_goals (try simp))
 (repeat' (first | with_reducible refine splitVC_d (fun _ => ?_) (fun _ => ?_) | with_reducible refine splitVC (fun _ => ?_) (fun _ => ?_) | ((with_reducible refine And.intro ?_ ?_); focus (first | exact True.intro | omega | (simp only [InK, ne_eq, and_true, true_and]; omega) | exact ⟨.inr trivial, by omega⟩ | exact ⟨.inr trivial, Nat.le_refl _, one22 _ _, by omega⟩ | trivial)) | (simp -dsimp only [↓RP, RQ, implies_true, forall_const, Nat.reduceMul, reduceIte, reduceCtorEq, Nat.reduceAdd, Nat.reduceEqDiff, Nat.reduceLT, Nat.reduceLeDiff, hz, ↓RY, Int.reduceEq, Int.reduceNeg, RZ, eq_self, eq23, TYq, TYp, TYx, TY62, by66, er, es, ew, he, Fr.mk.injEq, fsv, B, I, by2, TY, Try.results11])))
 refine handKeep [1, 4, 6, 11, 12, 13, 14, 15, 16, 18, 19] ?_
 refine textRegion ?_
 (repeat' (first | with_reducible refine splitVC_d (fun _ => ?_) (fun _ => ?_) | with_reducible refine splitVC (fun _ => ?_) (fun _ => ?_) | ((with_reducible refine And.intro ?_ ?_); focus (first | exact True.intro | omega | (simp only [InK, ne_eq, and_true, true_and]; omega) | exact ⟨.inr trivial, by omega⟩ | exact ⟨.inr trivial, Nat.le_refl _, one22 _ _, by omega⟩ | trivial)) | (simp -dsimp only [↓RP, RQ, implies_true, forall_const, Nat.reduceMul, reduceIte, reduceCtorEq, Nat.reduceAdd, Nat.reduceEqDiff, Nat.reduceLT, Nat.reduceLeDiff, KF, ↓RY, Int.reduceEq, Int.reduceNeg, RZ, eq_self, eq23, TYq, TYp, TYx, TY62, by66, er, es, ew, he, Fr.mk.injEq, fsv, B, I, by2, TY, Try.results11])))
 refine callVC c54 ?_ ?_ ?_; iterate 2 focus ((simp -dsimp only [↓RP, RQ, implies_true, forall_const, Nat.reduceMul, reduceIte, reduceCtorEq, Nat.reduceAdd, Nat.reduceEqDiff, Nat.reduceLT, Nat.reduceLeDiff, Pl.sv, rngs, fsv, Go.Od.ints, u32s, U8, kn, I, B]); all_goals (try simp))
 (repeat' (first | with_reducible refine splitVC_d (fun _ => ?_) (fun _ => ?_) | with_reducible refine splitVC (fun _ => ?_) (fun _ => ?_) | ((with_reducible refine And.intro ?_ ?_); focus (first | exact True.intro | omega | (simp only [InK, ne_eq, and_true, true_and]; omega) | exact ⟨.inr trivial, by omega⟩ | exact ⟨.inr trivial, Nat.le_refl _, one22 _ _, by omega⟩ | trivial)) | (simp -dsimp only [↓RP, RQ, implies_true, forall_const, Nat.reduceMul, reduceIte, reduceCtorEq, Nat.reduceAdd, Nat.reduceEqDiff, Nat.reduceLT, Nat.reduceLeDiff, ↓RY, Int.reduceEq, Int.reduceNeg, RZ, eq_self, eq23, TYq, TYp, TYx, TY62, by66, er, es, ew, he, Fr.mk.injEq, fsv, B, I, by2, TY, Try.results11])))
 refine callVC c55 ?_ ?_ ?_; iterate 2 focus ((simp -dsimp only [↓RP, RQ, implies_true, forall_const, Nat.reduceMul, reduceIte, reduceCtorEq, Nat.reduceAdd, Nat.reduceEqDiff, Nat.reduceLT, Nat.reduceLeDiff, Pl.sv, rngs, fsv, Go.Od.ints, u32s, U8, kn, I, B]); all_goals (try simp))
 (repeat' (first | with_reducible refine splitVC_d (fun _ => ?_) (fun _ => ?_) | with_reducible refine splitVC (fun _ => ?_) (fun _ => ?_) | ((with_reducible refine And.intro ?_ ?_); focus (first | exact True.intro | omega | (simp only [InK, ne_eq, and_true, true_and]; omega) | exact ⟨.inr trivial, by omega⟩ | exact ⟨.inr trivial, Nat.le_refl _, one22 _ _, by omega⟩ | trivial)) | (simp -dsimp only [↓RP, RQ, implies_true, forall_const, Nat.reduceMul, reduceIte, reduceCtorEq, Nat.reduceAdd, Nat.reduceEqDiff, Nat.reduceLT, Nat.reduceLeDiff, ↓RY, Int.reduceEq, Int.reduceNeg, RZ, eq_self, eq23, TYq, TYp, TYx, TY62, by66, er, es, ew, he, Fr.mk.injEq, fsv, B, I, by2, TY, Try.results11])))
 refine callVC d26 ?_ ?_ ?_; iterate 2 focus ((simp -dsimp only [↓RP, RQ, implies_true, forall_const, Nat.reduceMul, reduceIte, reduceCtorEq, Nat.reduceAdd, Nat.reduceEqDiff, Nat.reduceLT, Nat.reduceLeDiff, Pl.sv, rngs, fsv, Go.Od.ints, u32s, U8, kn, I, B]); all_goals (try simp))
 (repeat' (first | with_reducible refine splitVC_d (fun _ => ?_) (fun _ => ?_) | with_reducible refine splitVC (fun _ => ?_) (fun _ => ?_) | ((with_reducible refine And.intro ?_ ?_); focus (first | exact True.intro | omega | (simp only [InK, ne_eq, and_true, true_and]; omega) | exact ⟨.inr trivial, by omega⟩ | exact ⟨.inr trivial, Nat.le_refl _, one22 _ _, by omega⟩ | trivial)) | (simp -dsimp only [↓RP, RQ, implies_true, forall_const, Nat.reduceMul, reduceIte, reduceCtorEq, Nat.reduceAdd, Nat.reduceEqDiff, Nat.reduceLT, Nat.reduceLeDiff, ↓RY, Int.reduceEq, Int.reduceNeg, RZ, eq_self, eq23, TYq, TYp, TYx, TY62, by66, er, es, ew, he, Fr.mk.injEq, fsv, B, I, by2, TY, Try.results11])))
 refine callVC c55 ?_ ?_ ?_; iterate 2 focus ((simp -dsimp only [↓RP, RQ, implies_true, forall_const, Nat.reduceMul, reduceIte, reduceCtorEq, Nat.reduceAdd, Nat.reduceEqDiff, Nat.reduceLT, Nat.reduceLeDiff, Pl.sv, rngs, fsv, Go.Od.ints, u32s, U8, kn, I, B]); all_goals (try simp))
 (repeat' (first | with_reducible refine splitVC_d (fun _ => ?_) (fun _ => ?_) | with_reducible refine splitVC (fun _ => ?_) (fun _ => ?_) | ((with_reducible refine And.intro ?_ ?_); focus (first | exact True.intro | omega | (simp only [InK, ne_eq, and_true, true_and]; omega) | exact ⟨.inr trivial, by omega⟩ | exact ⟨.inr trivial, Nat.le_refl _, one22 _ _, by omega⟩ | trivial)) | (simp -dsimp only [↓RP, RQ, implies_true, forall_const, Nat.reduceMul, reduceIte, reduceCtorEq, Nat.reduceAdd, Nat.reduceEqDiff, Nat.reduceLT, Nat.reduceLeDiff, ↓RY, Int.reduceEq, Int.reduceNeg, RZ, eq_self, eq23, TYq, TYp, TYx, TY62, by66, er, es, ew, he, Fr.mk.injEq, fsv, B, I, by2, TY, Try.results11])))
 refine callVC d28 ?_ ?_ ?_; iterate 2 focus ((simp -dsimp only [↓RP, RQ, implies_true, forall_const, Nat.reduceMul, reduceIte, reduceCtorEq, Nat.reduceAdd, Nat.reduceEqDiff, Nat.reduceLT, Nat.reduceLeDiff, Pl.sv, rngs, fsv, Go.Od.ints, u32s, U8, kn, I, B]); all_goals (try simp))
 (repeat' (first | with_reducible refine splitVC_d (fun _ => ?_) (fun _ => ?_) | with_reducible refine splitVC (fun _ => ?_) (fun _ => ?_) | ((with_reducible refine And.intro ?_ ?_); focus (first | exact True.intro | omega | (simp only [InK, ne_eq, and_true, true_and]; omega) | exact ⟨.inr trivial, by omega⟩ | exact ⟨.inr trivial, Nat.le_refl _, one22 _ _, by omega⟩ | trivial)) | (simp -dsimp only [↓RP, RQ, implies_true, forall_const, Nat.reduceMul, reduceIte, reduceCtorEq, Nat.reduceAdd, Nat.reduceEqDiff, Nat.reduceLT, Nat.reduceLeDiff, ↓RY, Int.reduceEq, Int.reduceNeg, RZ, eq_self, eq23, TYq, TYp, TYx, TY62, by66, er, es, ew, he, Fr.mk.injEq, fsv, B, I, by2, TY, Try.results11])))
 refine handKeep [4, 6, 11, 12, 13, 14, 15, 16, 17, 18, 19, 20, 21, 22, 23, 24, 25] ?_
 refine growRegion follows [] (by kernel_rfl) ?_
 (repeat' (first | with_reducible refine splitVC_d (fun _ => ?_) (fun _ => ?_) | with_reducible refine splitVC (fun _ => ?_) (fun _ => ?_) | ((with_reducible refine And.intro ?_ ?_); focus (first | exact True.intro | omega | (simp only [InK, ne_eq, and_true, true_and]; omega) | exact ⟨.inr trivial, by omega⟩ | exact ⟨.inr trivial, Nat.le_refl _, one22 _ _, by omega⟩ | trivial)) | (simp -dsimp only [↓RP, RQ, implies_true, forall_const, Nat.reduceMul, reduceIte, reduceCtorEq, Nat.reduceAdd, Nat.reduceEqDiff, Nat.reduceLT, Nat.reduceLeDiff, KF, ↓RY, Int.reduceEq, Int.reduceNeg, RZ, eq_self, eq23, TYq, TYp, TYx, TY62, by66, er, es, ew, he, Fr.mk.injEq, fsv, B, I, by2, TY, Try.results11])))
 refine callVC c56 ?_ ?_ ?_; iterate 2 focus ((simp -dsimp only [↓RP, RQ, implies_true, forall_const, Nat.reduceMul, reduceIte, reduceCtorEq, Nat.reduceAdd, Nat.reduceEqDiff, Nat.reduceLT, Nat.reduceLeDiff, Pl.sv, rngs, fsv, Go.Od.ints, u32s, U8, kn, I, B]); all_goals (try simp))
 (repeat' (first | with_reducible refine splitVC_d (fun _ => ?_) (fun _ => ?_) | with_reducible refine splitVC (fun _ => ?_) (fun _ => ?_) | ((with_reducible refine And.intro ?_ ?_); focus (first | exact True.intro | omega | (simp only [InK, ne_eq, and_true, true_and]; omega) | exact ⟨.inr trivial, by omega⟩ | exact ⟨.inr trivial, Nat.le_refl _, one22 _ _, by omega⟩ | trivial)) | (simp -dsimp only [↓RP, RQ, implies_true, forall_const, Nat.reduceMul, reduceIte, reduceCtorEq, Nat.reduceAdd, Nat.reduceEqDiff, Nat.reduceLT, Nat.reduceLeDiff, ↓RY, Int.reduceEq, Int.reduceNeg, RZ, eq_self, eq23, TYq, TYp, TYx, TY62, by66, er, es, ew, he, Fr.mk.injEq, fsv, B, I, by2, TY, Try.results11])))
 refine callVC k7 ?_ ?_ ?_; iterate 2 focus ((simp -dsimp only [↓RP, RQ, implies_true, forall_const, Nat.reduceMul, reduceIte, reduceCtorEq, Nat.reduceAdd, Nat.reduceEqDiff, Nat.reduceLT, Nat.reduceLeDiff, Pl.sv, rngs, fsv, Go.Od.ints, u32s, U8, kn, I, B]); all_goals (try simp))
 (repeat' (first | with_reducible refine splitVC_d (fun _ => ?_) (fun _ => ?_) | with_reducible refine splitVC (fun _ => ?_) (fun _ => ?_) | ((with_reducible refine And.intro ?_ ?_); focus (first | exact True.intro | omega | (simp only [InK, ne_eq, and_true, true_and]; omega) | exact ⟨.inr trivial, by omega⟩ | exact ⟨.inr trivial, Nat.le_refl _, one22 _ _, by omega⟩ | trivial)) | (simp -dsimp only [↓RP, RQ, implies_true, forall_const, Nat.reduceMul, reduceIte, reduceCtorEq, Nat.reduceAdd, Nat.reduceEqDiff, Nat.reduceLT, Nat.reduceLeDiff, ↓RY, Int.reduceEq, Int.reduceNeg, RZ, eq_self, eq23, TYq, TYp, TYx, TY62, by66, er, es, ew, he, Fr.mk.injEq, fsv, B, I, by2, TY, Try.results11])))
 refine callVC k8 ?_ ?_ ?_; iterate 2 focus ((simp -dsimp only [↓RP, RQ, implies_true, forall_const, Nat.reduceMul, reduceIte, reduceCtorEq, Nat.reduceAdd, Nat.reduceEqDiff, Nat.reduceLT, Nat.reduceLeDiff, Pl.sv, rngs, fsv, Go.Od.ints, u32s, U8, kn, I, B]); all_goals (try simp))
 (repeat' (first | with_reducible refine splitVC_d (fun _ => ?_) (fun _ => ?_) | with_reducible refine splitVC (fun _ => ?_) (fun _ => ?_) | ((with_reducible refine And.intro ?_ ?_); focus (first | exact True.intro | omega | (simp only [InK, ne_eq, and_true, true_and]; omega) | exact ⟨.inr trivial, by omega⟩ | exact ⟨.inr trivial, Nat.le_refl _, one22 _ _, by omega⟩ | trivial)) | (simp -dsimp only [↓RP, RQ, implies_true, forall_const, Nat.reduceMul, reduceIte, reduceCtorEq, Nat.reduceAdd, Nat.reduceEqDiff, Nat.reduceLT, Nat.reduceLeDiff, ↓RY, Int.reduceEq, Int.reduceNeg, RZ, eq_self, eq23, TYq, TYp, TYx, TY62, by66, er, es, ew, he, Fr.mk.injEq, fsv, B, I, by2, TY, Try.results11])))
 refine callVC k9 ?_ ?_ ?_; iterate 2 focus ((simp -dsimp only [↓RP, RQ, implies_true, forall_const, Nat.reduceMul, reduceIte, reduceCtorEq, Nat.reduceAdd, Nat.reduceEqDiff, Nat.reduceLT, Nat.reduceLeDiff, Pl.sv, rngs, fsv, Go.Od.ints, u32s, U8, kn, I, B]); all_goals (try simp))
 (repeat' (first | with_reducible refine splitVC_d (fun _ => ?_) (fun _ => ?_) | with_reducible refine splitVC (fun _ => ?_) (fun _ => ?_) | ((with_reducible refine And.intro ?_ ?_); focus (first | exact True.intro | omega | (simp only [InK, ne_eq, and_true, true_and]; omega) | exact ⟨.inr trivial, by omega⟩ | exact ⟨.inr trivial, Nat.le_refl _, one22 _ _, by omega⟩ | trivial)) | (simp -dsimp only [↓RP, RQ, implies_true, forall_const, Nat.reduceMul, reduceIte, reduceCtorEq, Nat.reduceAdd, Nat.reduceEqDiff, Nat.reduceLT, Nat.reduceLeDiff, ↓RY, Int.reduceEq, Int.reduceNeg, RZ, eq_self, eq23, TYq, TYp, TYx, TY62, by66, er, es, ew, he, Fr.mk.injEq, fsv, B, I, by2, TY, Try.results11])))
 refine callVC k10 ?_ ?_ ?_; iterate 2 focus ((simp -dsimp only [↓RP, RQ, implies_true, forall_const, Nat.reduceMul, reduceIte, reduceCtorEq, Nat.reduceAdd, Nat.reduceEqDiff, Nat.reduceLT, Nat.reduceLeDiff, Pl.sv, rngs, fsv, Go.Od.ints, u32s, U8, kn, I, B]); all_goals (try simp))
 (repeat' (first | with_reducible refine splitVC_d (fun _ => ?_) (fun _ => ?_) | with_reducible refine splitVC (fun _ => ?_) (fun _ => ?_) | ((with_reducible refine And.intro ?_ ?_); focus (first | exact True.intro | omega | (simp only [InK, ne_eq, and_true, true_and]; omega) | exact ⟨.inr trivial, by omega⟩ | exact ⟨.inr trivial, Nat.le_refl _, one22 _ _, by omega⟩ | trivial)) | (simp -dsimp only [↓RP, RQ, implies_true, forall_const, Nat.reduceMul, reduceIte, reduceCtorEq, Nat.reduceAdd, Nat.reduceEqDiff, Nat.reduceLT, Nat.reduceLeDiff, ↓RY, Int.reduceEq, Int.reduceNeg, RZ, eq_self, eq23, TYq, TYp, TYx, TY62, by66, er, es, ew, he, Fr.mk.injEq, fsv, B, I, by2, TY, Try.results11])))
 refine handKeep [4, 6, 11, 12, 13, 14, 15, 16, 18, 19, 22, 23, 24, 25] ?_
 refine textRegion ?_
 (repeat' (first | with_reducible refine splitVC_d (fun _ => ?_) (fun _ => ?_) | with_reducible refine splitVC (fun _ => ?_) (fun _ => ?_) | ((with_reducible refine And.intro ?_ ?_); focus (first | exact True.intro | omega | (simp only [InK, ne_eq, and_true, true_and]; omega) | exact ⟨.inr trivial, by omega⟩ | exact ⟨.inr trivial, Nat.le_refl _, one22 _ _, by omega⟩ | trivial)) | (simp -dsimp only [↓RP, RQ, implies_true, forall_const, Nat.reduceMul, reduceIte, reduceCtorEq, Nat.reduceAdd, Nat.reduceEqDiff, Nat.reduceLT, Nat.reduceLeDiff, KF, ↓RY, Int.reduceEq, Int.reduceNeg, RZ, eq_self, eq23, TYq, TYp, TYx, TY62, by66, er, es, ew, he, Fr.mk.injEq, fsv, B, I, by2, TY, Try.results11])))
 refine handKeep [6, 11, 12, 13, 14, 15, 16, 18, 19, 22, 23, 24, 25, 26] ?_
 refine growRegion follows [] (by kernel_rfl) ?_
 (repeat' (first | with_reducible refine splitVC_d (fun _ => ?_) (fun _ => ?_) | with_reducible refine splitVC (fun _ => ?_) (fun _ => ?_) | ((with_reducible refine And.intro ?_ ?_); focus (first | exact True.intro | omega | (simp only [InK, ne_eq, and_true, true_and]; omega) | exact ⟨.inr trivial, by omega⟩ | exact ⟨.inr trivial, Nat.le_refl _, one22 _ _, by omega⟩ | trivial)) | (simp -dsimp only [↓RP, RQ, implies_true, forall_const, Nat.reduceMul, reduceIte, reduceCtorEq, Nat.reduceAdd, Nat.reduceEqDiff, Nat.reduceLT, Nat.reduceLeDiff, KF, etl, eth, Nat.not_lt_zero, Nat.sub_zero, ↓RY, Int.reduceEq, Int.reduceNeg, RZ, eq_self, eq23, TYq, TYp, TYx, TY62, by66, er, es, ew, he, Fr.mk.injEq, fsv, B, I, by2, TY, Try.results11])))
 refine handKeep [12, 13, 14, 15, 16, 18, 19, 22, 23, 24, 25, 27] ?_
 refine textRegion ?_
 (repeat' (first | with_reducible refine splitVC_d (fun _ => ?_) (fun _ => ?_) | with_reducible refine splitVC (fun _ => ?_) (fun _ => ?_) | ((with_reducible refine And.intro ?_ ?_); focus (first | exact True.intro | omega | (simp only [InK, ne_eq, and_true, true_and]; omega) | exact ⟨.inr trivial, by omega⟩ | exact ⟨.inr trivial, Nat.le_refl _, one22 _ _, by omega⟩ | trivial)) | (simp -dsimp only [↓RP, RQ, implies_true, forall_const, Nat.reduceMul, reduceIte, reduceCtorEq, Nat.reduceAdd, Nat.reduceEqDiff, Nat.reduceLT, Nat.reduceLeDiff, KF, ↓RY, Int.reduceEq, Int.reduceNeg, RZ, eq_self, eq23, TYq, TYp, TYx, TY62, by66, er, es, ew, he, Fr.mk.injEq, fsv, B, I, by2, TY, Try.results11])))
 refine callVC e26 (by (simp -dsimp only [↓RP, RQ, implies_true, forall_const, Nat.reduceMul, reduceIte, reduceCtorEq, Nat.reduceAdd, Nat.reduceEqDiff, Nat.reduceLT, Nat.reduceLeDiff, nar, Pl.sv, rngs, Go.Od.ints, I, B]); all_goals (try simp); all_goals exact rowN _ _ _ _) (by (simp -dsimp only [↓RP, RQ, implies_true, forall_const, Nat.reduceMul, reduceIte, reduceCtorEq, Nat.reduceAdd, Nat.reduceEqDiff, Nat.reduceLT, Nat.reduceLeDiff, Pl.sv, rngs, fsv, Go.Od.ints, u32s, U8, kn, I, B]); all_goals (try simp)) ?_
 (repeat' (first | with_reducible refine splitVC_d (fun _ => ?_) (fun _ => ?_) | with_reducible refine splitVC (fun _ => ?_) (fun _ => ?_) | ((with_reducible refine And.intro ?_ ?_); focus (first | exact True.intro | omega | (simp only [InK, ne_eq, and_true, true_and]; omega) | exact ⟨.inr trivial, by omega⟩ | exact ⟨.inr trivial, Nat.le_refl _, one22 _ _, by omega⟩ | trivial)) | (simp -dsimp only [↓RP, RQ, implies_true, forall_const, Nat.reduceMul, reduceIte, reduceCtorEq, Nat.reduceAdd, Nat.reduceEqDiff, Nat.reduceLT, Nat.reduceLeDiff, Nat.not_lt_zero, Nat.sub_zero, ↓RY, Int.reduceEq, Int.reduceNeg, RZ, eq_self, eq23, TYq, TYp, TYx, TY62, by66, er, es, ew, he, Fr.mk.injEq, fsv, B, I, by2, TY, Try.results11])))
 refine callVC e28 (by (simp -dsimp only [↓RP, RQ, implies_true, forall_const, Nat.reduceMul, reduceIte, reduceCtorEq, Nat.reduceAdd, Nat.reduceEqDiff, Nat.reduceLT, Nat.reduceLeDiff, nar, Pl.sv, rngs, Go.Od.ints, I, B]); all_goals (try simp); all_goals exact rowN _ _ _ _) (by (simp -dsimp only [↓RP, RQ, implies_true, forall_const, Nat.reduceMul, reduceIte, reduceCtorEq, Nat.reduceAdd, Nat.reduceEqDiff, Nat.reduceLT, Nat.reduceLeDiff, Pl.sv, rngs, fsv, Go.Od.ints, u32s, U8, kn, I, B]); all_goals (try simp)) ?_
 (repeat' (first | with_reducible refine splitVC_d (fun _ => ?_) (fun _ => ?_) | with_reducible refine splitVC (fun _ => ?_) (fun _ => ?_) | ((with_reducible refine And.intro ?_ ?_); focus (first | exact True.intro | omega | (simp only [InK, ne_eq, and_true, true_and]; omega) | exact ⟨.inr trivial, by omega⟩ | exact ⟨.inr trivial, Nat.le_refl _, one22 _ _, by omega⟩ | trivial)) | (simp -dsimp only [↓RP, RQ, implies_true, forall_const, Nat.reduceMul, reduceIte, reduceCtorEq, Nat.reduceAdd, Nat.reduceEqDiff, Nat.reduceLT, Nat.reduceLeDiff, Nat.not_lt_zero, Nat.sub_zero, ↓RY, Int.reduceEq, Int.reduceNeg, RZ, eq_self, eq23, TYq, TYp, TYx, TY62, by66, er, es, ew, he, Fr.mk.injEq, fsv, B, I, by2, TY, Try.results11])))
 refine handKeep [12, 15, 16, 17, 18, 19, 20, 22, 23, 24, 25] ?_
 refine textRegion ?_
 (repeat' (first | with_reducible refine splitVC_d (fun _ => ?_) (fun _ => ?_) | with_reducible refine splitVC (fun _ => ?_) (fun _ => ?_) | ((with_reducible refine And.intro ?_ ?_); focus (first | exact True.intro | omega | (simp only [InK, ne_eq, and_true, true_and]; omega) | exact ⟨.inr trivial, by omega⟩ | exact ⟨.inr trivial, Nat.le_refl _, one22 _ _, by omega⟩ | trivial)) | (simp -dsimp only [↓RP, RQ, implies_true, forall_const, Nat.reduceMul, reduceIte, reduceCtorEq, Nat.reduceAdd, Nat.reduceEqDiff, Nat.reduceLT, Nat.reduceLeDiff, KF, ↓RY, Int.reduceEq, Int.reduceNeg, RZ, eq_self, eq23, TYq, TYp, TYx, TY62, by66, er, es, ew, he, Fr.mk.injEq, fsv, B, I, by2, TY, Try.results11])))
 refine callVC j1 ?_ ?_ ?_; iterate 2 focus ((simp -dsimp only [↓RP, RQ, implies_true, forall_const, Nat.reduceMul, reduceIte, reduceCtorEq, Nat.reduceAdd, Nat.reduceEqDiff, Nat.reduceLT, Nat.reduceLeDiff, Pl.sv, rngs, fsv, Go.Od.ints, u32s, U8, kn, I, B]); all_goals (try simp))
 (repeat' (first | with_reducible refine splitVC_d (fun _ => ?_) (fun _ => ?_) | with_reducible refine splitVC (fun _ => ?_) (fun _ => ?_) | ((with_reducible refine And.intro ?_ ?_); focus (first | exact True.intro | omega | (simp only [InK, ne_eq, and_true, true_and]; omega) | exact ⟨.inr trivial, by omega⟩ | exact ⟨.inr trivial, Nat.le_refl _, one22 _ _, by omega⟩ | trivial)) | (simp -dsimp only [↓RP, RQ, implies_true, forall_const, Nat.reduceMul, reduceIte, reduceCtorEq, Nat.reduceAdd, Nat.reduceEqDiff, Nat.reduceLT, Nat.reduceLeDiff, ↓RY, Int.reduceEq, Int.reduceNeg, RZ, eq_self, eq23, TYq, TYp, TYx, TY62, by66, er, es, ew, he, Fr.mk.injEq, fsv, B, I, by2, TY, Try.results11])))
 refine callVC j2 ?_ ?_ ?_; iterate 2 focus ((simp -dsimp only [↓RP, RQ, implies_true, forall_const, Nat.reduceMul, reduceIte, reduceCtorEq, Nat.reduceAdd, Nat.reduceEqDiff, Nat.reduceLT, Nat.reduceLeDiff, Pl.sv, rngs, fsv, Go.Od.ints, u32s, U8, kn, I, B]); all_goals (try simp))
 (repeat' (first | with_reducible refine splitVC_d (fun _ => ?_) (fun _ => ?_) | with_reducible refine splitVC (fun _ => ?_) (fun _ => ?_) | ((with_reducible refine And.intro ?_ ?_); focus (first | exact True.intro | omega | (simp only [InK, ne_eq, and_true, true_and]; omega) | exact ⟨.inr trivial, by omega⟩ | exact ⟨.inr trivial, Nat.le_refl _, one22 _ _, by omega⟩ | trivial)) | (simp -dsimp only [↓RP, RQ, implies_true, forall_const, Nat.reduceMul, reduceIte, reduceCtorEq, Nat.reduceAdd, Nat.reduceEqDiff, Nat.reduceLT, Nat.reduceLeDiff, ↓RY, Int.reduceEq, Int.reduceNeg, RZ, eq_self, eq23, TYq, TYp, TYx, TY62, by66, er, es, ew, he, Fr.mk.injEq, fsv, B, I, by2, TY, Try.results11])))
 refine callVC j3 ?_ ?_ ?_; iterate 2 focus ((simp -dsimp only [↓RP, RQ, implies_true, forall_const, Nat.reduceMul, reduceIte, reduceCtorEq, Nat.reduceAdd, Nat.reduceEqDiff, Nat.reduceLT, Nat.reduceLeDiff, Pl.sv, rngs, fsv, Go.Od.ints, u32s, U8, kn, I, B]); all_goals (try simp))
 (repeat' (first | with_reducible refine splitVC_d (fun _ => ?_) (fun _ => ?_) | with_reducible refine splitVC (fun _ => ?_) (fun _ => ?_) | ((with_reducible refine And.intro ?_ ?_); focus (first | exact True.intro | omega | (simp only [InK, ne_eq, and_true, true_and]; omega) | exact ⟨.inr trivial, by omega⟩ | exact ⟨.inr trivial, Nat.le_refl _, one22 _ _, by omega⟩ | trivial)) | (simp -dsimp only [↓RP, RQ, implies_true, forall_const, Nat.reduceMul, reduceIte, reduceCtorEq, Nat.reduceAdd, Nat.reduceEqDiff, Nat.reduceLT, Nat.reduceLeDiff, ↓RY, Int.reduceEq, Int.reduceNeg, RZ, eq_self, eq23, TYq, TYp, TYx, TY62, by66, er, es, ew, he, Fr.mk.injEq, fsv, B, I, by2, TY, Try.results11])))
 refine callVC j4 ?_ ?_ ?_; iterate 2 focus ((simp -dsimp only [↓RP, RQ, implies_true, forall_const, Nat.reduceMul, reduceIte, reduceCtorEq, Nat.reduceAdd, Nat.reduceEqDiff, Nat.reduceLT, Nat.reduceLeDiff, Pl.sv, rngs, fsv, Go.Od.ints, u32s, U8, kn, I, B]); all_goals (try simp))
 (repeat' (first | with_reducible refine splitVC_d (fun _ => ?_) (fun _ => ?_) | with_reducible refine splitVC (fun _ => ?_) (fun _ => ?_) | ((with_reducible refine And.intro ?_ ?_); focus (first | exact True.intro | omega | (simp only [InK, ne_eq, and_true, true_and]; omega) | exact ⟨.inr trivial, by omega⟩ | exact ⟨.inr trivial, Nat.le_refl _, one22 _ _, by omega⟩ | trivial)) | (simp -dsimp only [↓RP, RQ, implies_true, forall_const, Nat.reduceMul, reduceIte, reduceCtorEq, Nat.reduceAdd, Nat.reduceEqDiff, Nat.reduceLT, Nat.reduceLeDiff, ↓RY, Int.reduceEq, Int.reduceNeg, RZ, eq_self, eq23, TYq, TYp, TYx, TY62, by66, er, es, ew, he, Fr.mk.injEq, fsv, B, I, by2, TY, Try.results11])))
 refine callVC j5 ?_ ?_ ?_; iterate 2 focus ((simp -dsimp only [↓RP, RQ, implies_true, forall_const, Nat.reduceMul, reduceIte, reduceCtorEq, Nat.reduceAdd, Nat.reduceEqDiff, Nat.reduceLT, Nat.reduceLeDiff, Pl.sv, rngs, fsv, Go.Od.ints, u32s, U8, kn, I, B]); all_goals (try simp))
 (repeat' (first | with_reducible refine splitVC_d (fun _ => ?_) (fun _ => ?_) | with_reducible refine splitVC (fun _ => ?_) (fun _ => ?_) | ((with_reducible refine And.intro ?_ ?_); focus (first | exact True.intro | omega | (simp only [InK, ne_eq, and_true, true_and]; omega) | exact ⟨.inr trivial, by omega⟩ | exact ⟨.inr trivial, Nat.le_refl _, one22 _ _, by omega⟩ | trivial)) | (simp -dsimp only [↓RP, RQ, implies_true, forall_const, Nat.reduceMul, reduceIte, reduceCtorEq, Nat.reduceAdd, Nat.reduceEqDiff, Nat.reduceLT, Nat.reduceLeDiff, ↓RY, Int.reduceEq, Int.reduceNeg, RZ, eq_self, eq23, TYq, TYp, TYx, TY62, by66, er, es, ew, he, Fr.mk.injEq, fsv, B, I, by2, TY, Try.results11])))
 refine callVC j6 ?_ ?_ ?_; iterate 2 focus ((simp -dsimp only [↓RP, RQ, implies_true, forall_const, Nat.reduceMul, reduceIte, reduceCtorEq, Nat.reduceAdd, Nat.reduceEqDiff, Nat.reduceLT, Nat.reduceLeDiff, Pl.sv, rngs, fsv, Go.Od.ints, u32s, U8, kn, I, B]); all_goals (try simp))
 (repeat' (first | with_reducible refine splitVC_d (fun _ => ?_) (fun _ => ?_) | with_reducible refine splitVC (fun _ => ?_) (fun _ => ?_) | ((with_reducible refine And.intro ?_ ?_); focus (first | exact True.intro | omega | (simp only [InK, ne_eq, and_true, true_and]; omega) | exact ⟨.inr trivial, by omega⟩ | exact ⟨.inr trivial, Nat.le_refl _, one22 _ _, by omega⟩ | trivial)) | (simp -dsimp only [↓RP, RQ, implies_true, forall_const, Nat.reduceMul, reduceIte, reduceCtorEq, Nat.reduceAdd, Nat.reduceEqDiff, Nat.reduceLT, Nat.reduceLeDiff, ↓RY, Int.reduceEq, Int.reduceNeg, RZ, eq_self, eq23, TYq, TYp, TYx, TY62, by66, er, es, ew, he, Fr.mk.injEq, fsv, B, I, by2, TY, Try.results11])))
 refine callVC j7 ?_ ?_ ?_; iterate 2 focus ((simp -dsimp only [↓RP, RQ, implies_true, forall_const, Nat.reduceMul, reduceIte, reduceCtorEq, Nat.reduceAdd, Nat.reduceEqDiff, Nat.reduceLT, Nat.reduceLeDiff, Pl.sv, rngs, fsv, Go.Od.ints, u32s, U8, kn, I, B]); all_goals (try simp))
 (repeat' (first | with_reducible refine splitVC_d (fun _ => ?_) (fun _ => ?_) | with_reducible refine splitVC (fun _ => ?_) (fun _ => ?_) | ((with_reducible refine And.intro ?_ ?_); focus (first | exact True.intro | omega | (simp only [InK, ne_eq, and_true, true_and]; omega) | exact ⟨.inr trivial, by omega⟩ | exact ⟨.inr trivial, Nat.le_refl _, one22 _ _, by omega⟩ | trivial)) | (simp -dsimp only [↓RP, RQ, implies_true, forall_const, Nat.reduceMul, reduceIte, reduceCtorEq, Nat.reduceAdd, Nat.reduceEqDiff, Nat.reduceLT, Nat.reduceLeDiff, ↓RY, Int.reduceEq, Int.reduceNeg, RZ, eq_self, eq23, TYq, TYp, TYx, TY62, by66, er, es, ew, he, Fr.mk.injEq, fsv, B, I, by2, TY, Try.results11])))
 refine callVC j8 ?_ ?_ ?_; iterate 2 focus ((simp -dsimp only [↓RP, RQ, implies_true, forall_const, Nat.reduceMul, reduceIte, reduceCtorEq, Nat.reduceAdd, Nat.reduceEqDiff, Nat.reduceLT, Nat.reduceLeDiff, Pl.sv, rngs, fsv, Go.Od.ints, u32s, U8, kn, I, B]); all_goals (try simp))
 (repeat' (first | with_reducible refine splitVC_d (fun _ => ?_) (fun _ => ?_) | with_reducible refine splitVC (fun _ => ?_) (fun _ => ?_) | ((with_reducible refine And.intro ?_ ?_); focus (first | exact True.intro | omega | (simp only [InK, ne_eq, and_true, true_and]; omega) | exact ⟨.inr trivial, by omega⟩ | exact ⟨.inr trivial, Nat.le_refl _, one22 _ _, by omega⟩ | trivial)) | (simp -dsimp only [↓RP, RQ, implies_true, forall_const, Nat.reduceMul, reduceIte, reduceCtorEq, Nat.reduceAdd, Nat.reduceEqDiff, Nat.reduceLT, Nat.reduceLeDiff, ↓RY, Int.reduceEq, Int.reduceNeg, RZ, eq_self, eq23, TYq, TYp, TYx, TY62, by66, er, es, ew, he, Fr.mk.injEq, fsv, B, I, by2, TY, Try.results11])))
 refine callVC c22 ?_ ?_ ?_; iterate 2 focus ((simp -dsimp only [↓RP, RQ, implies_true, forall_const, Nat.reduceMul, reduceIte, reduceCtorEq, Nat.reduceAdd, Nat.reduceEqDiff, Nat.reduceLT, Nat.reduceLeDiff, Pl.sv, rngs, fsv, Go.Od.ints, u32s, U8, kn, I, B]); all_goals (try simp))
 (repeat' (first | with_reducible refine splitVC_d (fun _ => ?_) (fun _ => ?_) | with_reducible refine splitVC (fun _ => ?_) (fun _ => ?_) | ((with_reducible refine And.intro ?_ ?_); focus (first | exact True.intro | omega | (simp only [InK, ne_eq, and_true, true_and]; omega) | exact ⟨.inr trivial, by omega⟩ | exact ⟨.inr trivial, Nat.le_refl _, one22 _ _, by omega⟩ | trivial)) | (simp -dsimp only [↓RP, RQ, implies_true, forall_const, Nat.reduceMul, reduceIte, reduceCtorEq, Nat.reduceAdd, Nat.reduceEqDiff, Nat.reduceLT, Nat.reduceLeDiff, ↓RY, Int.reduceEq, Int.reduceNeg, RZ, eq_self, eq23, TYq, TYp, TYx, TY62, by66, er, es, ew, he, Fr.mk.injEq, fsv, B, I, by2, TY, Try.results11])))
 all_goals trace_state
end Go.Od
end
