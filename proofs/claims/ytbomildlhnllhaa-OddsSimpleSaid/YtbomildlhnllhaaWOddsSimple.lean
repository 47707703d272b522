/- A part of the proof. -/
import Derived.Test.YtbomildlhnllhaaOI
import Derived.Test.YtbomildlhnllhaaOJ
import Derived.Test.YtbomildlhnllhaaOK
section
set_option linter.unusedSimpArgs false
set_option linter.unusedVariables false
set_option linter.defProp false
set_option maxRecDepth 100000
set_option maxHeartbeats 16000000
namespace Go.Od
open Go.Proofs
open Go.Sx
theorem TYx : True ∧ tyOf Try.prog 54 = some ⟨false, 1, some [.slice none 0 0], .slice 57 1⟩ ∧ tyOf Try.prog 57 = some ⟨false, 1, some [.int .u32 0], .int .u32⟩ := ⟨trivial, by kernel_rfl, by kernel_rfl⟩
end Go.Od
end
section
set_option linter.unusedSimpArgs false
set_option linter.unusedVariables false
set_option linter.defProp false
set_option maxRecDepth 100000
set_option maxHeartbeats 16000000
namespace Go.Od
open Go.Proofs
open Go.Sx
def U32 (n : Int) : SV := .val (.int .u32 n)
def U8 (n : Int) : SV := .val (.int .u8 n)
theorem c47 (a b : Int) (ha : 0 ≤ a ∧ a < 4294967296) (hb : 0 ≤ b ∧ b < 4294967296) : Contract Try.prog 47 [U32 a, U32 b] (fsv (fracV a b)) := by
  refine contract_of Try.func47 rfl (by kernel_rfl) follows (by kernel_rfl) _ _ (by rw [Try.ntmps47]; simp) (by simp [OldL, Old, U32]) ?_
  unfold U32
  conv => arg 4; unfold fsv I
  have h1 := Int.tmod_nonneg 1000000 hb.1
  have h2 := Int.tmod_lt_of_pos b (show (0 : Int) < 1000000 by omega)
  (repeat' (first | with_reducible refine splitVC_d (fun _ => ?_) (fun _ => ?_) | with_reducible refine splitVC (fun _ => ?_) (fun _ => ?_) | ((with_reducible refine And.intro ?_ ?_); focus (first | exact True.intro | (simp only [InK]; omega) | omega | (simp only [InK, ne_eq, and_true, true_and]; omega) | trivial)) | (simp -dsimp only [↓RP, RQ, implies_true, forall_const, Nat.reduceMul, reduceIte, reduceCtorEq, Nat.reduceAdd, Nat.reduceEqDiff, Nat.reduceLT, Nat.reduceLeDiff, Int.reduceEq, Int.reduceNeg, RZ, eq_self, eq23, TYq, TYp, TYm, TYn, TYw, TYx, fsv, B, I, by2, TY, Try.results47])))
  refine callVC (c50 (a.tmod (1000 * (1 + b.tmod 1000000) + 1)) (1 + b.tmod 1000000)) ?_ ?_ ?_; iterate 2 focus ((simp -dsimp only [↓RP, RQ, implies_true, forall_const, Nat.reduceMul, reduceIte, reduceCtorEq, Nat.reduceAdd, Nat.reduceEqDiff, Nat.reduceLT, Nat.reduceLeDiff, fsv, Go.Od.ints, I, B]); all_goals (try simp))
  (repeat' (first | with_reducible refine splitVC_d (fun _ => ?_) (fun _ => ?_) | with_reducible refine splitVC (fun _ => ?_) (fun _ => ?_) | ((with_reducible refine And.intro ?_ ?_); focus (first | exact True.intro | (simp only [InK]; omega) | omega | (simp only [InK, ne_eq, and_true, true_and]; omega) | trivial)) | (simp -dsimp only [↓RP, RQ, implies_true, forall_const, Nat.reduceMul, reduceIte, reduceCtorEq, Nat.reduceAdd, Nat.reduceEqDiff, Nat.reduceLT, Nat.reduceLeDiff, Int.reduceEq, Int.reduceNeg, RZ, eq_self, eq23, TYq, TYp, TYm, TYn, TYw, TYx, fsv, B, I, by2, TY, Try.results47])))
  all_goals first | rfl | exact ⟨rfl, rfl⟩ | trace_state
end Go.Od
end
section
set_option linter.unusedSimpArgs false
set_option linter.unusedVariables false
set_option linter.defProp false
set_option maxRecDepth 100000
set_option maxHeartbeats 16000000
namespace Go.Od
open Go.Proofs
open Go.Sx
theorem ctB {f : FuncId} {ag : List SV} {p : Prop} [Decidable p] (h : Contract Try.prog f ag (B (decide p))) (hp : p) : Contract Try.prog f ag (B true) := by rwa [decide_eq_true hp] at h
theorem cfB {f : FuncId} {ag : List SV} {p : Prop} [Decidable p] (h : Contract Try.prog f ag (B (decide p))) (hp : ¬ p) : Contract Try.prog f ag (B false) := by rwa [decide_eq_false hp] at h
theorem InK_mul {a b A B : Int} (a0 : -A ≤ a) (a1 : a ≤ A) (A0 : 0 ≤ A) (b0 : 0 ≤ b) (b1 : b ≤ B) (h : A * B ≤ 9000000000000000000) : InK .i64 (a * b) := by
  have ⟨h1, h2⟩ := mul_inn a b A B a0 a1 A0 b0 b1
  simp only [InK]; omega
end Go.Od
end
section
set_option linter.unusedSimpArgs false
set_option linter.unusedVariables false
set_option linter.defProp false
set_option maxRecDepth 100000
set_option maxHeartbeats 16000000
namespace Go.Od
open Go.Proofs
open Go.Sx
theorem TY62 : True ∧ tyOf Try.prog 62 = some ⟨true, 2, some [.int .u32 0, .int .u32 0], .array 2 57 1⟩ ∧ tyOf Try.prog 63 = some ⟨false, 1, some [.int .u16 0], .int .u16⟩ := ⟨trivial, by kernel_rfl, by kernel_rfl⟩
def U16 (n : Int) : SV := .val (.int .u16 n)
theorem isF_lt {a b : Fr} (ha : isF a) (hb : isF b) : InK .i64 (a.n * b.d) := by
  have ⟨⟨a1, a2⟩, a3, a4⟩ := ha
  have ⟨⟨b1, b2⟩, b3, b4⟩ := hb
  exact InK_mul (A := 1000000000) (B := 1000000) (by omega) (by omega) (by omega) (by omega) (by omega) (by omega)
theorem c10 (a0 a1 b0 b1 less : Int) (h0 : 0 ≤ a0 ∧ a0 < 4294967296) (h1 : 0 ≤ a1 ∧ a1 < 4294967296) (h2 : 0 ≤ b0 ∧ b0 < 4294967296) (h3 : 0 ≤ b1 ∧ b1 < 4294967296) (h4 : 0 ≤ less ∧ less < 65536) : Contract Try.prog 10 [.agg [U32 a0, U32 a1], .agg [U32 b0, U32 b1], U16 less] (B true) := by
  refine contract_of Try.func10 rfl (by kernel_rfl) follows (by kernel_rfl) _ _ (by rw [Try.ntmps10]; simp) (by simp [OldL, Old, U32, U16]) ?_
  have c1 := c47 a0 a1 h0 h1
  have c2 := c47 b0 b1 h2 h3
  have f1 := frac_isF h0.1 h1.1
  have f2 := frac_isF h2.1 h3.1
  generalize fracV a0 a1 = lo at *
  generalize fracV b0 b1 = hi at *
  unfold B
  conv => arg 4; unfold U32 U16
  (repeat' (first | with_reducible refine splitVC_d (fun _ => ?_) (fun _ => ?_) | with_reducible refine splitVC (fun _ => ?_) (fun _ => ?_) | ((with_reducible refine And.intro ?_ ?_); focus (first | exact True.intro | (simp only [InK]; omega) | omega | (simp only [InK, ne_eq, and_true, true_and]; omega) | trivial)) | (simp -dsimp only [↓RP, RQ, implies_true, forall_const, Nat.reduceMul, reduceIte, reduceCtorEq, Nat.reduceAdd, Nat.reduceEqDiff, Nat.reduceLT, Nat.reduceLeDiff, Int.reduceEq, Int.reduceNeg, RZ, eq_self, eq23, TYx, TY62, fsv, B, I, by2, TY, Try.results10])))
  refine callVC c1 ?_ ?_ ?_; iterate 2 focus ((simp -dsimp only [↓RP, RQ, implies_true, forall_const, Nat.reduceMul, reduceIte, reduceCtorEq, Nat.reduceAdd, Nat.reduceEqDiff, Nat.reduceLT, Nat.reduceLeDiff, fsv, Go.Od.ints, U32, U8, I, B]); all_goals (try simp))
  (repeat' (first | with_reducible refine splitVC_d (fun _ => ?_) (fun _ => ?_) | with_reducible refine splitVC (fun _ => ?_) (fun _ => ?_) | ((with_reducible refine And.intro ?_ ?_); focus (first | exact True.intro | (simp only [InK]; omega) | omega | (simp only [InK, ne_eq, and_true, true_and]; omega) | trivial)) | (simp -dsimp only [↓RP, RQ, implies_true, forall_const, Nat.reduceMul, reduceIte, reduceCtorEq, Nat.reduceAdd, Nat.reduceEqDiff, Nat.reduceLT, Nat.reduceLeDiff, Int.reduceEq, Int.reduceNeg, RZ, eq_self, eq23, TYx, TY62, fsv, B, I, by2, TY, Try.results10])))
  refine callVC c2 ?_ ?_ ?_; iterate 2 focus ((simp -dsimp only [↓RP, RQ, implies_true, forall_const, Nat.reduceMul, reduceIte, reduceCtorEq, Nat.reduceAdd, Nat.reduceEqDiff, Nat.reduceLT, Nat.reduceLeDiff, fsv, Go.Od.ints, U32, U8, I, B]); all_goals (try simp))
  (repeat' (first | with_reducible refine splitVC_d (fun _ => ?_) (fun _ => ?_) | with_reducible refine splitVC (fun _ => ?_) (fun _ => ?_) | ((with_reducible refine And.intro ?_ ?_); focus (first | exact True.intro | (simp only [InK]; omega) | omega | (simp only [InK, ne_eq, and_true, true_and]; omega) | trivial)) | (simp -dsimp only [↓RP, RQ, implies_true, forall_const, Nat.reduceMul, reduceIte, reduceCtorEq, Nat.reduceAdd, Nat.reduceEqDiff, Nat.reduceLT, Nat.reduceLeDiff, Int.reduceEq, Int.reduceNeg, RZ, eq_self, eq23, TYx, TY62, fsv, B, I, by2, TY, Try.results10])))
  by_cases hlt : lt hi lo
  · have hnl : ¬ lt lo hi := not_lt.2 (le_of_lt hlt)
    refine callVC (ctB (c49 hi lo (isF_lt f2 f1) (isF_lt f1 f2)) hlt) ?_ ?_ ?_; iterate 2 focus ((simp -dsimp only [↓RP, RQ, implies_true, forall_const, Nat.reduceMul, reduceIte, reduceCtorEq, Nat.reduceAdd, Nat.reduceEqDiff, Nat.reduceLT, Nat.reduceLeDiff, fsv, Go.Od.ints, U32, U8, I, B]); all_goals (try simp))
    (repeat' (first | with_reducible refine splitVC_d (fun _ => ?_) (fun _ => ?_) | with_reducible refine splitVC (fun _ => ?_) (fun _ => ?_) | ((with_reducible refine And.intro ?_ ?_); focus (first | exact True.intro | (simp only [InK]; omega) | omega | (simp only [InK, ne_eq, and_true, true_and]; omega) | trivial)) | (simp -dsimp only [↓RP, RQ, implies_true, forall_const, Nat.reduceMul, reduceIte, reduceCtorEq, Nat.reduceAdd, Nat.reduceEqDiff, Nat.reduceLT, Nat.reduceLeDiff, Int.reduceEq, Int.reduceNeg, RZ, eq_self, eq23, TYx, TY62, fsv, B, I, by2, TY, Try.results10])))
    have g := hnl
    have ⟨e0, hb⟩ := simV_ok f2 f1 g
    have hx := best_isF f2 f1 g hb
    have two := two_of f2 f1 g
    have s1 := c23 hi lo
    have s2 := c23 (simV hi lo).1 lo
    have s3 := c23 hi (simV hi lo).1
    rw [simV_lo f2 f1 g] at s2
    rw [simV_hi f2 f1 g] at s3
    rw [e0] at s1
    have ⟨er, gc⟩ := best_red two hb
    generalize (simV hi lo).1 = x at *
    have c51 := ctB (c51 x) hx
    have k1 := cfB (c49 x hi (isF_lt hx f2) (isF_lt f2 hx)) (not_lt.2 hb.lx)
    have k2 := cfB (c49 lo x (isF_lt f1 hx) (isF_lt hx f1)) (not_lt.2 hb.xh)
    have ⟨⟨x1, x2⟩, x3, x4⟩ := hx
    have ⟨⟨l1, l2⟩, l3, l4⟩ := f2
    have ⟨⟨v1, v2⟩, v3, v4⟩ := f1
    have k3 := c52 x (by omega) (by omega) (by omega) (by omega)
    rw [er] at k3
    refine callVC s1 ?_ ?_ ?_; iterate 2 focus ((simp -dsimp only [↓RP, RQ, implies_true, forall_const, Nat.reduceMul, reduceIte, reduceCtorEq, Nat.reduceAdd, Nat.reduceEqDiff, Nat.reduceLT, Nat.reduceLeDiff, fsv, Go.Od.ints, U32, U8, I, B]); all_goals (try simp))
    (repeat' (first | with_reducible refine splitVC_d (fun _ => ?_) (fun _ => ?_) | with_reducible refine splitVC (fun _ => ?_) (fun _ => ?_) | ((with_reducible refine And.intro ?_ ?_); focus (first | exact True.intro | (simp only [InK]; omega) | omega | (simp only [InK, ne_eq, and_true, true_and]; omega) | trivial)) | (simp -dsimp only [↓RP, RQ, implies_true, forall_const, Nat.reduceMul, reduceIte, reduceCtorEq, Nat.reduceAdd, Nat.reduceEqDiff, Nat.reduceLT, Nat.reduceLeDiff, Int.reduceEq, Int.reduceNeg, RZ, eq_self, eq23, TYx, TY62, fsv, B, I, by2, TY, Try.results10])))
    refine callVC c51 ?_ ?_ ?_; iterate 2 focus ((simp -dsimp only [↓RP, RQ, implies_true, forall_const, Nat.reduceMul, reduceIte, reduceCtorEq, Nat.reduceAdd, Nat.reduceEqDiff, Nat.reduceLT, Nat.reduceLeDiff, fsv, Go.Od.ints, U32, U8, I, B]); all_goals (try simp))
    (repeat' (first | with_reducible refine splitVC_d (fun _ => ?_) (fun _ => ?_) | with_reducible refine splitVC (fun _ => ?_) (fun _ => ?_) | ((with_reducible refine And.intro ?_ ?_); focus (first | exact True.intro | (simp only [InK]; omega) | omega | (simp only [InK, ne_eq, and_true, true_and]; omega) | trivial)) | (simp -dsimp only [↓RP, RQ, implies_true, forall_const, Nat.reduceMul, reduceIte, reduceCtorEq, Nat.reduceAdd, Nat.reduceEqDiff, Nat.reduceLT, Nat.reduceLeDiff, Int.reduceEq, Int.reduceNeg, RZ, eq_self, eq23, TYx, TY62, fsv, B, I, by2, TY, Try.results10])))
    refine callVC k1 ?_ ?_ ?_; iterate 2 focus ((simp -dsimp only [↓RP, RQ, implies_true, forall_const, Nat.reduceMul, reduceIte, reduceCtorEq, Nat.reduceAdd, Nat.reduceEqDiff, Nat.reduceLT, Nat.reduceLeDiff, fsv, Go.Od.ints, U32, U8, I, B]); all_goals (try simp))
    (repeat' (first | with_reducible refine splitVC_d (fun _ => ?_) (fun _ => ?_) | with_reducible refine splitVC (fun _ => ?_) (fun _ => ?_) | ((with_reducible refine And.intro ?_ ?_); focus (first | exact True.intro | (simp only [InK]; omega) | omega | (simp only [InK, ne_eq, and_true, true_and]; omega) | trivial)) | (simp -dsimp only [↓RP, RQ, implies_true, forall_const, Nat.reduceMul, reduceIte, reduceCtorEq, Nat.reduceAdd, Nat.reduceEqDiff, Nat.reduceLT, Nat.reduceLeDiff, Int.reduceEq, Int.reduceNeg, RZ, eq_self, eq23, TYx, TY62, fsv, B, I, by2, TY, Try.results10])))
    refine callVC k2 ?_ ?_ ?_; iterate 2 focus ((simp -dsimp only [↓RP, RQ, implies_true, forall_const, Nat.reduceMul, reduceIte, reduceCtorEq, Nat.reduceAdd, Nat.reduceEqDiff, Nat.reduceLT, Nat.reduceLeDiff, fsv, Go.Od.ints, U32, U8, I, B]); all_goals (try simp))
    (repeat' (first | with_reducible refine splitVC_d (fun _ => ?_) (fun _ => ?_) | with_reducible refine splitVC (fun _ => ?_) (fun _ => ?_) | ((with_reducible refine And.intro ?_ ?_); focus (first | exact True.intro | (simp only [InK]; omega) | omega | (simp only [InK, ne_eq, and_true, true_and]; omega) | trivial)) | (simp -dsimp only [↓RP, RQ, implies_true, forall_const, Nat.reduceMul, reduceIte, reduceCtorEq, Nat.reduceAdd, Nat.reduceEqDiff, Nat.reduceLT, Nat.reduceLeDiff, Int.reduceEq, Int.reduceNeg, RZ, eq_self, eq23, TYx, TY62, fsv, B, I, by2, TY, Try.results10])))
    refine callVC k3 ?_ ?_ ?_; iterate 2 focus ((simp -dsimp only [↓RP, RQ, implies_true, forall_const, Nat.reduceMul, reduceIte, reduceCtorEq, Nat.reduceAdd, Nat.reduceEqDiff, Nat.reduceLT, Nat.reduceLeDiff, fsv, Go.Od.ints, U32, U8, I, B]); all_goals (try simp))
    (repeat' (first | with_reducible refine splitVC_d (fun _ => ?_) (fun _ => ?_) | with_reducible refine splitVC (fun _ => ?_) (fun _ => ?_) | ((with_reducible refine And.intro ?_ ?_); focus (first | exact True.intro | (simp only [InK]; omega) | omega | (simp only [InK, ne_eq, and_true, true_and]; omega) | trivial)) | (simp -dsimp only [↓RP, RQ, implies_true, forall_const, Nat.reduceMul, reduceIte, reduceCtorEq, Nat.reduceAdd, Nat.reduceEqDiff, Nat.reduceLT, Nat.reduceLeDiff, Int.reduceEq, Int.reduceNeg, RZ, eq_self, eq23, TYx, TY62, fsv, B, I, by2, TY, Try.results10])))
    clear s1 k1 k2 k3 c51 c1 c2 g h0 h1 h2 h3
    refine loop_vc (fun q : Int => 1 ≤ q ∧ q ≤ 3001) (fun q => ⟨[(2, .val (.int .u16 less)), (6, .val (.bool false)), (7, .ptr 13 0), (8, .ptr 14 0), (9, .ptr 30 0), (11, .val (.int .i64 q))], [(30, .cells 23 [.val (.int .i64 x.n), .val (.int .i64 x.d)]), (14, .cells 23 [.val (.int .i64 lo.n), .val (.int .i64 lo.d)]), (13, .cells 23 [.val (.int .i64 hi.n), .val (.int .i64 hi.d)])], 31⟩) (fun q => (3001 - q).toNat) 1 (by omega) (weak [] [] ?_ ?_ ?_) fun q hq => ?_
    · (simp -dsimp only [↓RP, RQ, implies_true, forall_const, Nat.reduceMul, reduceIte, reduceCtorEq, Nat.reduceAdd, Nat.reduceEqDiff, Nat.reduceLT, Nat.reduceLeDiff]); all_goals (try simp)
    · (simp -dsimp only [↓RP, RQ, implies_true, forall_const, Nat.reduceMul, reduceIte, reduceCtorEq, Nat.reduceAdd, Nat.reduceEqDiff, Nat.reduceLT, Nat.reduceLeDiff]); all_goals (try simp)
    · (simp -dsimp only [↓RP, RQ, implies_true, forall_const, Nat.reduceMul, reduceIte, reduceCtorEq, Nat.reduceAdd, Nat.reduceEqDiff, Nat.reduceLT, Nat.reduceLeDiff]); all_goals (try simp)
    by_cases hqd : q ≤ x.d
    rotate_left
    · by_cases h100 : x.d ≤ 100
      · have c16 := c16 x x.d
        have ha : askV x x.d = 0 := ask_iff.2 ⟨⟨⟨x1, x2⟩, x3, x4⟩, by omega, by omega⟩
        rw [nearV_ok ha, show nb x x.d = (x, (nb x x.d).2) from Prod.ext (nb_own x3 (by omega) gc) rfl] at c16
        generalize (nb x x.d).2 = z at c16
        (repeat' (first | with_reducible refine splitVC_d (fun _ => ?_) (fun _ => ?_) | with_reducible refine splitVC (fun _ => ?_) (fun _ => ?_) | ((with_reducible refine And.intro ?_ ?_); focus (first | exact True.intro | (simp only [InK]; omega) | omega | (simp only [InK, ne_eq, and_true, true_and]; omega) | trivial)) | (simp -dsimp only [↓RP, RQ, implies_true, forall_const, Nat.reduceMul, reduceIte, reduceCtorEq, Nat.reduceAdd, Nat.reduceEqDiff, Nat.reduceLT, Nat.reduceLeDiff, hqd, h100, Int.reduceEq, Int.reduceNeg, RZ, eq_self, eq23, TYx, TY62, fsv, B, I, by2, TY, Try.results10])))
        refine callVC c16 ?_ ?_ ?_; iterate 2 focus ((simp -dsimp only [↓RP, RQ, implies_true, forall_const, Nat.reduceMul, reduceIte, reduceCtorEq, Nat.reduceAdd, Nat.reduceEqDiff, Nat.reduceLT, Nat.reduceLeDiff, fsv, Go.Od.ints, U32, U8, I, B]); all_goals (try simp))
        (repeat' (first | with_reducible refine splitVC_d (fun _ => ?_) (fun _ => ?_) | with_reducible refine splitVC (fun _ => ?_) (fun _ => ?_) | ((with_reducible refine And.intro ?_ ?_); focus (first | exact True.intro | (simp only [InK]; omega) | omega | (simp only [InK, ne_eq, and_true, true_and]; omega) | trivial)) | (simp -dsimp only [↓RP, RQ, implies_true, forall_const, Nat.reduceMul, reduceIte, reduceCtorEq, Nat.reduceAdd, Nat.reduceEqDiff, Nat.reduceLT, Nat.reduceLeDiff, h100, Int.reduceEq, Int.reduceNeg, RZ, eq_self, eq23, TYx, TY62, fsv, B, I, by2, TY, Try.results10])))
        · skip
          refine callVC s2 ?_ ?_ ?_; iterate 2 focus ((simp -dsimp only [↓RP, RQ, implies_true, forall_const, Nat.reduceMul, reduceIte, reduceCtorEq, Nat.reduceAdd, Nat.reduceEqDiff, Nat.reduceLT, Nat.reduceLeDiff, fsv, Go.Od.ints, U32, U8, I, B]); all_goals (try simp))
          (repeat' (first | with_reducible refine splitVC_d (fun _ => ?_) (fun _ => ?_) | with_reducible refine splitVC (fun _ => ?_) (fun _ => ?_) | ((with_reducible refine And.intro ?_ ?_); focus (first | exact True.intro | (simp only [InK]; omega) | omega | (simp only [InK, ne_eq, and_true, true_and]; omega) | trivial)) | (simp -dsimp only [↓RP, RQ, implies_true, forall_const, Nat.reduceMul, reduceIte, reduceCtorEq, Nat.reduceAdd, Nat.reduceEqDiff, Nat.reduceLT, Nat.reduceLeDiff, Int.reduceEq, Int.reduceNeg, RZ, eq_self, eq23, TYx, TY62, fsv, B, I, by2, TY, Try.results10])))
          refine callVC c22 ?_ ?_ ?_; iterate 2 focus ((simp -dsimp only [↓RP, RQ, implies_true, forall_const, Nat.reduceMul, reduceIte, reduceCtorEq, Nat.reduceAdd, Nat.reduceEqDiff, Nat.reduceLT, Nat.reduceLeDiff, fsv, Go.Od.ints, U32, U8, I, B]); all_goals (try simp))
          (repeat' (first | with_reducible refine splitVC_d (fun _ => ?_) (fun _ => ?_) | with_reducible refine splitVC (fun _ => ?_) (fun _ => ?_) | ((with_reducible refine And.intro ?_ ?_); focus (first | exact True.intro | (simp only [InK]; omega) | omega | (simp only [InK, ne_eq, and_true, true_and]; omega) | trivial)) | (simp -dsimp only [↓RP, RQ, implies_true, forall_const, Nat.reduceMul, reduceIte, reduceCtorEq, Nat.reduceAdd, Nat.reduceEqDiff, Nat.reduceLT, Nat.reduceLeDiff, Int.reduceEq, Int.reduceNeg, RZ, eq_self, eq23, TYx, TY62, fsv, B, I, by2, TY, Try.results10])))
        · skip
          refine callVC s3 ?_ ?_ ?_; iterate 2 focus ((simp -dsimp only [↓RP, RQ, implies_true, forall_const, Nat.reduceMul, reduceIte, reduceCtorEq, Nat.reduceAdd, Nat.reduceEqDiff, Nat.reduceLT, Nat.reduceLeDiff, fsv, Go.Od.ints, U32, U8, I, B]); all_goals (try simp))
          (repeat' (first | with_reducible refine splitVC_d (fun _ => ?_) (fun _ => ?_) | with_reducible refine splitVC (fun _ => ?_) (fun _ => ?_) | ((with_reducible refine And.intro ?_ ?_); focus (first | exact True.intro | (simp only [InK]; omega) | omega | (simp only [InK, ne_eq, and_true, true_and]; omega) | trivial)) | (simp -dsimp only [↓RP, RQ, implies_true, forall_const, Nat.reduceMul, reduceIte, reduceCtorEq, Nat.reduceAdd, Nat.reduceEqDiff, Nat.reduceLT, Nat.reduceLeDiff, Int.reduceEq, Int.reduceNeg, RZ, eq_self, eq23, TYx, TY62, fsv, B, I, by2, TY, Try.results10])))
          refine callVC c22 ?_ ?_ ?_; iterate 2 focus ((simp -dsimp only [↓RP, RQ, implies_true, forall_const, Nat.reduceMul, reduceIte, reduceCtorEq, Nat.reduceAdd, Nat.reduceEqDiff, Nat.reduceLT, Nat.reduceLeDiff, fsv, Go.Od.ints, U32, U8, I, B]); all_goals (try simp))
          (repeat' (first | with_reducible refine splitVC_d (fun _ => ?_) (fun _ => ?_) | with_reducible refine splitVC (fun _ => ?_) (fun _ => ?_) | ((with_reducible refine And.intro ?_ ?_); focus (first | exact True.intro | (simp only [InK]; omega) | omega | (simp only [InK, ne_eq, and_true, true_and]; omega) | trivial)) | (simp -dsimp only [↓RP, RQ, implies_true, forall_const, Nat.reduceMul, reduceIte, reduceCtorEq, Nat.reduceAdd, Nat.reduceEqDiff, Nat.reduceLT, Nat.reduceLeDiff, Int.reduceEq, Int.reduceNeg, RZ, eq_self, eq23, TYx, TY62, fsv, B, I, by2, TY, Try.results10])))
      · (repeat' (first | with_reducible refine splitVC_d (fun _ => ?_) (fun _ => ?_) | with_reducible refine splitVC (fun _ => ?_) (fun _ => ?_) | ((with_reducible refine And.intro ?_ ?_); focus (first | exact True.intro | (simp only [InK]; omega) | omega | (simp only [InK, ne_eq, and_true, true_and]; omega) | trivial)) | (simp -dsimp only [↓RP, RQ, implies_true, forall_const, Nat.reduceMul, reduceIte, reduceCtorEq, Nat.reduceAdd, Nat.reduceEqDiff, Nat.reduceLT, Nat.reduceLeDiff, hqd, h100, Int.reduceEq, Int.reduceNeg, RZ, eq_self, eq23, TYx, TY62, fsv, B, I, by2, TY, Try.results10])))
        · skip
          refine callVC s2 ?_ ?_ ?_; iterate 2 focus ((simp -dsimp only [↓RP, RQ, implies_true, forall_const, Nat.reduceMul, reduceIte, reduceCtorEq, Nat.reduceAdd, Nat.reduceEqDiff, Nat.reduceLT, Nat.reduceLeDiff, fsv, Go.Od.ints, U32, U8, I, B]); all_goals (try simp))
          (repeat' (first | with_reducible refine splitVC_d (fun _ => ?_) (fun _ => ?_) | with_reducible refine splitVC (fun _ => ?_) (fun _ => ?_) | ((with_reducible refine And.intro ?_ ?_); focus (first | exact True.intro | (simp only [InK]; omega) | omega | (simp only [InK, ne_eq, and_true, true_and]; omega) | trivial)) | (simp -dsimp only [↓RP, RQ, implies_true, forall_const, Nat.reduceMul, reduceIte, reduceCtorEq, Nat.reduceAdd, Nat.reduceEqDiff, Nat.reduceLT, Nat.reduceLeDiff, Int.reduceEq, Int.reduceNeg, RZ, eq_self, eq23, TYx, TY62, fsv, B, I, by2, TY, Try.results10])))
          refine callVC c22 ?_ ?_ ?_; iterate 2 focus ((simp -dsimp only [↓RP, RQ, implies_true, forall_const, Nat.reduceMul, reduceIte, reduceCtorEq, Nat.reduceAdd, Nat.reduceEqDiff, Nat.reduceLT, Nat.reduceLeDiff, fsv, Go.Od.ints, U32, U8, I, B]); all_goals (try simp))
          (repeat' (first | with_reducible refine splitVC_d (fun _ => ?_) (fun _ => ?_) | with_reducible refine splitVC (fun _ => ?_) (fun _ => ?_) | ((with_reducible refine And.intro ?_ ?_); focus (first | exact True.intro | (simp only [InK]; omega) | omega | (simp only [InK, ne_eq, and_true, true_and]; omega) | trivial)) | (simp -dsimp only [↓RP, RQ, implies_true, forall_const, Nat.reduceMul, reduceIte, reduceCtorEq, Nat.reduceAdd, Nat.reduceEqDiff, Nat.reduceLT, Nat.reduceLeDiff, Int.reduceEq, Int.reduceNeg, RZ, eq_self, eq23, TYx, TY62, fsv, B, I, by2, TY, Try.results10])))
        · skip
          refine callVC s3 ?_ ?_ ?_; iterate 2 focus ((simp -dsimp only [↓RP, RQ, implies_true, forall_const, Nat.reduceMul, reduceIte, reduceCtorEq, Nat.reduceAdd, Nat.reduceEqDiff, Nat.reduceLT, Nat.reduceLeDiff, fsv, Go.Od.ints, U32, U8, I, B]); all_goals (try simp))
          (repeat' (first | with_reducible refine splitVC_d (fun _ => ?_) (fun _ => ?_) | with_reducible refine splitVC (fun _ => ?_) (fun _ => ?_) | ((with_reducible refine And.intro ?_ ?_); focus (first | exact True.intro | (simp only [InK]; omega) | omega | (simp only [InK, ne_eq, and_true, true_and]; omega) | trivial)) | (simp -dsimp only [↓RP, RQ, implies_true, forall_const, Nat.reduceMul, reduceIte, reduceCtorEq, Nat.reduceAdd, Nat.reduceEqDiff, Nat.reduceLT, Nat.reduceLeDiff, Int.reduceEq, Int.reduceNeg, RZ, eq_self, eq23, TYx, TY62, fsv, B, I, by2, TY, Try.results10])))
          refine callVC c22 ?_ ?_ ?_; iterate 2 focus ((simp -dsimp only [↓RP, RQ, implies_true, forall_const, Nat.reduceMul, reduceIte, reduceCtorEq, Nat.reduceAdd, Nat.reduceEqDiff, Nat.reduceLT, Nat.reduceLeDiff, fsv, Go.Od.ints, U32, U8, I, B]); all_goals (try simp))
          (repeat' (first | with_reducible refine splitVC_d (fun _ => ?_) (fun _ => ?_) | with_reducible refine splitVC (fun _ => ?_) (fun _ => ?_) | ((with_reducible refine And.intro ?_ ?_); focus (first | exact True.intro | (simp only [InK]; omega) | omega | (simp only [InK, ne_eq, and_true, true_and]; omega) | trivial)) | (simp -dsimp only [↓RP, RQ, implies_true, forall_const, Nat.reduceMul, reduceIte, reduceCtorEq, Nat.reduceAdd, Nat.reduceEqDiff, Nat.reduceLT, Nat.reduceLeDiff, Int.reduceEq, Int.reduceNeg, RZ, eq_self, eq23, TYx, TY62, fsv, B, I, by2, TY, Try.results10])))
    by_cases hq3 : q ≤ 3000
    rotate_left
    · by_cases h100 : x.d ≤ 100
      · have c16 := c16 x x.d
        have ha : askV x x.d = 0 := ask_iff.2 ⟨⟨⟨x1, x2⟩, x3, x4⟩, by omega, by omega⟩
        rw [nearV_ok ha, show nb x x.d = (x, (nb x x.d).2) from Prod.ext (nb_own x3 (by omega) gc) rfl] at c16
        generalize (nb x x.d).2 = z at c16
        (repeat' (first | with_reducible refine splitVC_d (fun _ => ?_) (fun _ => ?_) | with_reducible refine splitVC (fun _ => ?_) (fun _ => ?_) | ((with_reducible refine And.intro ?_ ?_); focus (first | exact True.intro | (simp only [InK]; omega) | omega | (simp only [InK, ne_eq, and_true, true_and]; omega) | trivial)) | (simp -dsimp only [↓RP, RQ, implies_true, forall_const, Nat.reduceMul, reduceIte, reduceCtorEq, Nat.reduceAdd, Nat.reduceEqDiff, Nat.reduceLT, Nat.reduceLeDiff, hqd, hq3, h100, Int.reduceEq, Int.reduceNeg, RZ, eq_self, eq23, TYx, TY62, fsv, B, I, by2, TY, Try.results10])))
        refine callVC c16 ?_ ?_ ?_; iterate 2 focus ((simp -dsimp only [↓RP, RQ, implies_true, forall_const, Nat.reduceMul, reduceIte, reduceCtorEq, Nat.reduceAdd, Nat.reduceEqDiff, Nat.reduceLT, Nat.reduceLeDiff, fsv, Go.Od.ints, U32, U8, I, B]); all_goals (try simp))
        (repeat' (first | with_reducible refine splitVC_d (fun _ => ?_) (fun _ => ?_) | with_reducible refine splitVC (fun _ => ?_) (fun _ => ?_) | ((with_reducible refine And.intro ?_ ?_); focus (first | exact True.intro | (simp only [InK]; omega) | omega | (simp only [InK, ne_eq, and_true, true_and]; omega) | trivial)) | (simp -dsimp only [↓RP, RQ, implies_true, forall_const, Nat.reduceMul, reduceIte, reduceCtorEq, Nat.reduceAdd, Nat.reduceEqDiff, Nat.reduceLT, Nat.reduceLeDiff, h100, Int.reduceEq, Int.reduceNeg, RZ, eq_self, eq23, TYx, TY62, fsv, B, I, by2, TY, Try.results10])))
        · skip
          refine callVC s2 ?_ ?_ ?_; iterate 2 focus ((simp -dsimp only [↓RP, RQ, implies_true, forall_const, Nat.reduceMul, reduceIte, reduceCtorEq, Nat.reduceAdd, Nat.reduceEqDiff, Nat.reduceLT, Nat.reduceLeDiff, fsv, Go.Od.ints, U32, U8, I, B]); all_goals (try simp))
          (repeat' (first | with_reducible refine splitVC_d (fun _ => ?_) (fun _ => ?_) | with_reducible refine splitVC (fun _ => ?_) (fun _ => ?_) | ((with_reducible refine And.intro ?_ ?_); focus (first | exact True.intro | (simp only [InK]; omega) | omega | (simp only [InK, ne_eq, and_true, true_and]; omega) | trivial)) | (simp -dsimp only [↓RP, RQ, implies_true, forall_const, Nat.reduceMul, reduceIte, reduceCtorEq, Nat.reduceAdd, Nat.reduceEqDiff, Nat.reduceLT, Nat.reduceLeDiff, Int.reduceEq, Int.reduceNeg, RZ, eq_self, eq23, TYx, TY62, fsv, B, I, by2, TY, Try.results10])))
          refine callVC c22 ?_ ?_ ?_; iterate 2 focus ((simp -dsimp only [↓RP, RQ, implies_true, forall_const, Nat.reduceMul, reduceIte, reduceCtorEq, Nat.reduceAdd, Nat.reduceEqDiff, Nat.reduceLT, Nat.reduceLeDiff, fsv, Go.Od.ints, U32, U8, I, B]); all_goals (try simp))
          (repeat' (first | with_reducible refine splitVC_d (fun _ => ?_) (fun _ => ?_) | with_reducible refine splitVC (fun _ => ?_) (fun _ => ?_) | ((with_reducible refine And.intro ?_ ?_); focus (first | exact True.intro | (simp only [InK]; omega) | omega | (simp only [InK, ne_eq, and_true, true_and]; omega) | trivial)) | (simp -dsimp only [↓RP, RQ, implies_true, forall_const, Nat.reduceMul, reduceIte, reduceCtorEq, Nat.reduceAdd, Nat.reduceEqDiff, Nat.reduceLT, Nat.reduceLeDiff, Int.reduceEq, Int.reduceNeg, RZ, eq_self, eq23, TYx, TY62, fsv, B, I, by2, TY, Try.results10])))
        · skip
          refine callVC s3 ?_ ?_ ?_; iterate 2 focus ((simp -dsimp only [↓RP, RQ, implies_true, forall_const, Nat.reduceMul, reduceIte, reduceCtorEq, Nat.reduceAdd, Nat.reduceEqDiff, Nat.reduceLT, Nat.reduceLeDiff, fsv, Go.Od.ints, U32, U8, I, B]); all_goals (try simp))
          (repeat' (first | with_reducible refine splitVC_d (fun _ => ?_) (fun _ => ?_) | with_reducible refine splitVC (fun _ => ?_) (fun _ => ?_) | ((with_reducible refine And.intro ?_ ?_); focus (first | exact True.intro | (simp only [InK]; omega) | omega | (simp only [InK, ne_eq, and_true, true_and]; omega) | trivial)) | (simp -dsimp only [↓RP, RQ, implies_true, forall_const, Nat.reduceMul, reduceIte, reduceCtorEq, Nat.reduceAdd, Nat.reduceEqDiff, Nat.reduceLT, Nat.reduceLeDiff, Int.reduceEq, Int.reduceNeg, RZ, eq_self, eq23, TYx, TY62, fsv, B, I, by2, TY, Try.results10])))
          refine callVC c22 ?_ ?_ ?_; iterate 2 focus ((simp -dsimp only [↓RP, RQ, implies_true, forall_const, Nat.reduceMul, reduceIte, reduceCtorEq, Nat.reduceAdd, Nat.reduceEqDiff, Nat.reduceLT, Nat.reduceLeDiff, fsv, Go.Od.ints, U32, U8, I, B]); all_goals (try simp))
          (repeat' (first | with_reducible refine splitVC_d (fun _ => ?_) (fun _ => ?_) | with_reducible refine splitVC (fun _ => ?_) (fun _ => ?_) | ((with_reducible refine And.intro ?_ ?_); focus (first | exact True.intro | (simp only [InK]; omega) | omega | (simp only [InK, ne_eq, and_true, true_and]; omega) | trivial)) | (simp -dsimp only [↓RP, RQ, implies_true, forall_const, Nat.reduceMul, reduceIte, reduceCtorEq, Nat.reduceAdd, Nat.reduceEqDiff, Nat.reduceLT, Nat.reduceLeDiff, Int.reduceEq, Int.reduceNeg, RZ, eq_self, eq23, TYx, TY62, fsv, B, I, by2, TY, Try.results10])))
      · (repeat' (first | with_reducible refine splitVC_d (fun _ => ?_) (fun _ => ?_) | with_reducible refine splitVC (fun _ => ?_) (fun _ => ?_) | ((with_reducible refine And.intro ?_ ?_); focus (first | exact True.intro | (simp only [InK]; omega) | omega | (simp only [InK, ne_eq, and_true, true_and]; omega) | trivial)) | (simp -dsimp only [↓RP, RQ, implies_true, forall_const, Nat.reduceMul, reduceIte, reduceCtorEq, Nat.reduceAdd, Nat.reduceEqDiff, Nat.reduceLT, Nat.reduceLeDiff, hqd, hq3, h100, Int.reduceEq, Int.reduceNeg, RZ, eq_self, eq23, TYx, TY62, fsv, B, I, by2, TY, Try.results10])))
        · skip
          refine callVC s2 ?_ ?_ ?_; iterate 2 focus ((simp -dsimp only [↓RP, RQ, implies_true, forall_const, Nat.reduceMul, reduceIte, reduceCtorEq, Nat.reduceAdd, Nat.reduceEqDiff, Nat.reduceLT, Nat.reduceLeDiff, fsv, Go.Od.ints, U32, U8, I, B]); all_goals (try simp))
          (repeat' (first | with_reducible refine splitVC_d (fun _ => ?_) (fun _ => ?_) | with_reducible refine splitVC (fun _ => ?_) (fun _ => ?_) | ((with_reducible refine And.intro ?_ ?_); focus (first | exact True.intro | (simp only [InK]; omega) | omega | (simp only [InK, ne_eq, and_true, true_and]; omega) | trivial)) | (simp -dsimp only [↓RP, RQ, implies_true, forall_const, Nat.reduceMul, reduceIte, reduceCtorEq, Nat.reduceAdd, Nat.reduceEqDiff, Nat.reduceLT, Nat.reduceLeDiff, Int.reduceEq, Int.reduceNeg, RZ, eq_self, eq23, TYx, TY62, fsv, B, I, by2, TY, Try.results10])))
          refine callVC c22 ?_ ?_ ?_; iterate 2 focus ((simp -dsimp only [↓RP, RQ, implies_true, forall_const, Nat.reduceMul, reduceIte, reduceCtorEq, Nat.reduceAdd, Nat.reduceEqDiff, Nat.reduceLT, Nat.reduceLeDiff, fsv, Go.Od.ints, U32, U8, I, B]); all_goals (try simp))
          (repeat' (first | with_reducible refine splitVC_d (fun _ => ?_) (fun _ => ?_) | with_reducible refine splitVC (fun _ => ?_) (fun _ => ?_) | ((with_reducible refine And.intro ?_ ?_); focus (first | exact True.intro | (simp only [InK]; omega) | omega | (simp only [InK, ne_eq, and_true, true_and]; omega) | trivial)) | (simp -dsimp only [↓RP, RQ, implies_true, forall_const, Nat.reduceMul, reduceIte, reduceCtorEq, Nat.reduceAdd, Nat.reduceEqDiff, Nat.reduceLT, Nat.reduceLeDiff, Int.reduceEq, Int.reduceNeg, RZ, eq_self, eq23, TYx, TY62, fsv, B, I, by2, TY, Try.results10])))
        · skip
          refine callVC s3 ?_ ?_ ?_; iterate 2 focus ((simp -dsimp only [↓RP, RQ, implies_true, forall_const, Nat.reduceMul, reduceIte, reduceCtorEq, Nat.reduceAdd, Nat.reduceEqDiff, Nat.reduceLT, Nat.reduceLeDiff, fsv, Go.Od.ints, U32, U8, I, B]); all_goals (try simp))
          (repeat' (first | with_reducible refine splitVC_d (fun _ => ?_) (fun _ => ?_) | with_reducible refine splitVC (fun _ => ?_) (fun _ => ?_) | ((with_reducible refine And.intro ?_ ?_); focus (first | exact True.intro | (simp only [InK]; omega) | omega | (simp only [InK, ne_eq, and_true, true_and]; omega) | trivial)) | (simp -dsimp only [↓RP, RQ, implies_true, forall_const, Nat.reduceMul, reduceIte, reduceCtorEq, Nat.reduceAdd, Nat.reduceEqDiff, Nat.reduceLT, Nat.reduceLeDiff, Int.reduceEq, Int.reduceNeg, RZ, eq_self, eq23, TYx, TY62, fsv, B, I, by2, TY, Try.results10])))
          refine callVC c22 ?_ ?_ ?_; iterate 2 focus ((simp -dsimp only [↓RP, RQ, implies_true, forall_const, Nat.reduceMul, reduceIte, reduceCtorEq, Nat.reduceAdd, Nat.reduceEqDiff, Nat.reduceLT, Nat.reduceLeDiff, fsv, Go.Od.ints, U32, U8, I, B]); all_goals (try simp))
          (repeat' (first | with_reducible refine splitVC_d (fun _ => ?_) (fun _ => ?_) | with_reducible refine splitVC (fun _ => ?_) (fun _ => ?_) | ((with_reducible refine And.intro ?_ ?_); focus (first | exact True.intro | (simp only [InK]; omega) | omega | (simp only [InK, ne_eq, and_true, true_and]; omega) | trivial)) | (simp -dsimp only [↓RP, RQ, implies_true, forall_const, Nat.reduceMul, reduceIte, reduceCtorEq, Nat.reduceAdd, Nat.reduceEqDiff, Nat.reduceLT, Nat.reduceLeDiff, Int.reduceEq, Int.reduceNeg, RZ, eq_self, eq23, TYx, TY62, fsv, B, I, by2, TY, Try.results10])))
    · have q0 : 0 ≤ hi.n * q := Int.mul_nonneg l3 (by omega)
      have ⟨u0, u1, u2⟩ := up_spec q0 (show 0 < hi.d by omega)
      have u3 : up (hi.n * q) hi.d ≤ 1000 * q := up_le q0 (by omega) (by
        have : hi.n * q ≤ 1000 * hi.d * q := Int.mul_le_mul_of_nonneg_right l4 (by omega)
        have e : 1000 * q * hi.d = 1000 * hi.d * q := by grind
        omega)
      have q1 : hi.n * q ≤ 1000000000 * 3001 := Int.mul_le_mul (by omega) (by omega) (by omega) (by omega)
      have eu : (hi.n * q + hi.d - 1).tdiv hi.d = up (hi.n * q) hi.d := rfl
      have b1 := best_less hb l3 (show 0 < hi.d by omega) hq.1
      have b2 := best_same hb l3 (show 0 < hi.d by omega) (show 0 < lo.d by omega)
      have b3 : q = x.d → up (hi.n * q) hi.d = x.n := fun e => by rw [e]; exact b2
      generalize up (hi.n * q) hi.d = pu at *
      have i1 : InK .i64 (lo.n * q) := InK_mul (A := 1000000000) (B := 3001) (by omega) (by omega) (by omega) (by omega) (by omega) (by omega)
      have i2 : InK .i64 (pu * lo.d) := InK_mul (A := 3001000) (B := 1000000) (by omega) (by omega) (by omega) (by omega) (by omega) (by omega)
      by_cases hqx : q < x.d
      · have j := ctB (c49 lo ⟨pu, q⟩ i1 i2) (b1 hqx)
        have ne : ¬ q = x.d := by omega
        clear b1 b2 b3 u1 u2 i1 i2 s2 s3 hb
        (repeat' (first | with_reducible refine splitVC_d (fun _ => ?_) (fun _ => ?_) | with_reducible refine splitVC (fun _ => ?_) (fun _ => ?_) | ((with_reducible refine And.intro ?_ ?_); focus (first | exact True.intro | (simp only [InK]; omega) | omega | (simp only [InK, ne_eq, and_true, true_and]; omega) | trivial)) | (simp -dsimp only [↓RP, RQ, implies_true, forall_const, Nat.reduceMul, reduceIte, reduceCtorEq, Nat.reduceAdd, Nat.reduceEqDiff, Nat.reduceLT, Nat.reduceLeDiff, hqd, hq3, hqx, ne, eu, Int.reduceEq, Int.reduceNeg, RZ, eq_self, eq23, TYx, TY62, fsv, B, I, by2, TY, Try.results10])))
        refine callVC (c50 pu q) ?_ ?_ ?_; iterate 2 focus ((simp -dsimp only [↓RP, RQ, implies_true, forall_const, Nat.reduceMul, reduceIte, reduceCtorEq, Nat.reduceAdd, Nat.reduceEqDiff, Nat.reduceLT, Nat.reduceLeDiff, fsv, Go.Od.ints, U32, U8, I, B]); all_goals (try simp))
        (repeat' (first | with_reducible refine splitVC_d (fun _ => ?_) (fun _ => ?_) | with_reducible refine splitVC (fun _ => ?_) (fun _ => ?_) | ((with_reducible refine And.intro ?_ ?_); focus (first | exact True.intro | (simp only [InK]; omega) | omega | (simp only [InK, ne_eq, and_true, true_and]; omega) | trivial)) | (simp -dsimp only [↓RP, RQ, implies_true, forall_const, Nat.reduceMul, reduceIte, reduceCtorEq, Nat.reduceAdd, Nat.reduceEqDiff, Nat.reduceLT, Nat.reduceLeDiff, ne, Int.reduceEq, Int.reduceNeg, RZ, eq_self, eq23, TYx, TY62, fsv, B, I, by2, TY, Try.results10])))
        refine callVC j ?_ ?_ ?_; iterate 2 focus ((simp -dsimp only [↓RP, RQ, implies_true, forall_const, Nat.reduceMul, reduceIte, reduceCtorEq, Nat.reduceAdd, Nat.reduceEqDiff, Nat.reduceLT, Nat.reduceLeDiff, fsv, Go.Od.ints, U32, U8, I, B]); all_goals (try simp))
        (repeat' (first | with_reducible refine splitVC_d (fun _ => ?_) (fun _ => ?_) | with_reducible refine splitVC (fun _ => ?_) (fun _ => ?_) | ((with_reducible refine And.intro ?_ ?_); focus (first | exact True.intro | (simp only [InK]; omega) | omega | (simp only [InK, ne_eq, and_true, true_and]; omega) | trivial)) | (simp -dsimp only [↓RP, RQ, implies_true, forall_const, Nat.reduceMul, reduceIte, reduceCtorEq, Nat.reduceAdd, Nat.reduceEqDiff, Nat.reduceLT, Nat.reduceLeDiff, ne, Int.reduceEq, Int.reduceNeg, RZ, eq_self, eq23, TYx, TY62, fsv, B, I, by2, TY, Try.results10])))
        all_goals first | (exfalso; omega) | skip
        refine ⟨q + 1, by omega, by omega, weak [] [] ?_ ?_ ?_⟩
        all_goals ((simp -dsimp only [↓RP, RQ, implies_true, forall_const, Nat.reduceMul, reduceIte, reduceCtorEq, Nat.reduceAdd, Nat.reduceEqDiff, Nat.reduceLT, Nat.reduceLeDiff]); all_goals (try simp))
      · have ne : q = x.d := by omega
        have e := b3 ne
        subst ne
        clear b1 b2 b3 u1 u2 i1 i2 s2 s3 hb
        (repeat' (first | with_reducible refine splitVC_d (fun _ => ?_) (fun _ => ?_) | with_reducible refine splitVC (fun _ => ?_) (fun _ => ?_) | ((with_reducible refine And.intro ?_ ?_); focus (first | exact True.intro | (simp only [InK]; omega) | omega | (simp only [InK, ne_eq, and_true, true_and]; omega) | trivial)) | (simp -dsimp only [↓RP, RQ, implies_true, forall_const, Nat.reduceMul, reduceIte, reduceCtorEq, Nat.reduceAdd, Nat.reduceEqDiff, Nat.reduceLT, Nat.reduceLeDiff, hqd, hq3, hqx, e, eu, Int.lt_irrefl, Int.le_refl, Int.reduceEq, Int.reduceNeg, RZ, eq_self, eq23, TYx, TY62, fsv, B, I, by2, TY, Try.results10])))
        all_goals first | (exfalso; omega) | skip
        refine ⟨x.d + 1, by omega, by omega, weak [] [] ?_ ?_ ?_⟩
        all_goals ((simp -dsimp only [↓RP, RQ, implies_true, forall_const, Nat.reduceMul, reduceIte, reduceCtorEq, Nat.reduceAdd, Nat.reduceEqDiff, Nat.reduceLT, Nat.reduceLeDiff]); all_goals (try simp))
  · skip
    refine callVC (cfB (c49 hi lo (isF_lt f2 f1) (isF_lt f1 f2)) hlt) ?_ ?_ ?_; iterate 2 focus ((simp -dsimp only [↓RP, RQ, implies_true, forall_const, Nat.reduceMul, reduceIte, reduceCtorEq, Nat.reduceAdd, Nat.reduceEqDiff, Nat.reduceLT, Nat.reduceLeDiff, fsv, Go.Od.ints, U32, U8, I, B]); all_goals (try simp))
    (repeat' (first | with_reducible refine splitVC_d (fun _ => ?_) (fun _ => ?_) | with_reducible refine splitVC (fun _ => ?_) (fun _ => ?_) | ((with_reducible refine And.intro ?_ ?_); focus (first | exact True.intro | (simp only [InK]; omega) | omega | (simp only [InK, ne_eq, and_true, true_and]; omega) | trivial)) | (simp -dsimp only [↓RP, RQ, implies_true, forall_const, Nat.reduceMul, reduceIte, reduceCtorEq, Nat.reduceAdd, Nat.reduceEqDiff, Nat.reduceLT, Nat.reduceLeDiff, Int.reduceEq, Int.reduceNeg, RZ, eq_self, eq23, TYx, TY62, fsv, B, I, by2, TY, Try.results10])))
    have g := hlt
    have ⟨e0, hb⟩ := simV_ok f1 f2 g
    have hx := best_isF f1 f2 g hb
    have two := two_of f1 f2 g
    have s1 := c23 lo hi
    have s2 := c23 (simV lo hi).1 hi
    have s3 := c23 lo (simV lo hi).1
    rw [simV_lo f1 f2 g] at s2
    rw [simV_hi f1 f2 g] at s3
    rw [e0] at s1
    have ⟨er, gc⟩ := best_red two hb
    generalize (simV lo hi).1 = x at *
    have c51 := ctB (c51 x) hx
    have k1 := cfB (c49 x lo (isF_lt hx f1) (isF_lt f1 hx)) (not_lt.2 hb.lx)
    have k2 := cfB (c49 hi x (isF_lt f2 hx) (isF_lt hx f2)) (not_lt.2 hb.xh)
    have ⟨⟨x1, x2⟩, x3, x4⟩ := hx
    have ⟨⟨l1, l2⟩, l3, l4⟩ := f1
    have ⟨⟨v1, v2⟩, v3, v4⟩ := f2
    have k3 := c52 x (by omega) (by omega) (by omega) (by omega)
    rw [er] at k3
    refine callVC s1 ?_ ?_ ?_; iterate 2 focus ((simp -dsimp only [↓RP, RQ, implies_true, forall_const, Nat.reduceMul, reduceIte, reduceCtorEq, Nat.reduceAdd, Nat.reduceEqDiff, Nat.reduceLT, Nat.reduceLeDiff, fsv, Go.Od.ints, U32, U8, I, B]); all_goals (try simp))
    (repeat' (first | with_reducible refine splitVC_d (fun _ => ?_) (fun _ => ?_) | with_reducible refine splitVC (fun _ => ?_) (fun _ => ?_) | ((with_reducible refine And.intro ?_ ?_); focus (first | exact True.intro | (simp only [InK]; omega) | omega | (simp only [InK, ne_eq, and_true, true_and]; omega) | trivial)) | (simp -dsimp only [↓RP, RQ, implies_true, forall_const, Nat.reduceMul, reduceIte, reduceCtorEq, Nat.reduceAdd, Nat.reduceEqDiff, Nat.reduceLT, Nat.reduceLeDiff, Int.reduceEq, Int.reduceNeg, RZ, eq_self, eq23, TYx, TY62, fsv, B, I, by2, TY, Try.results10])))
    refine callVC c51 ?_ ?_ ?_; iterate 2 focus ((simp -dsimp only [↓RP, RQ, implies_true, forall_const, Nat.reduceMul, reduceIte, reduceCtorEq, Nat.reduceAdd, Nat.reduceEqDiff, Nat.reduceLT, Nat.reduceLeDiff, fsv, Go.Od.ints, U32, U8, I, B]); all_goals (try simp))
    (repeat' (first | with_reducible refine splitVC_d (fun _ => ?_) (fun _ => ?_) | with_reducible refine splitVC (fun _ => ?_) (fun _ => ?_) | ((with_reducible refine And.intro ?_ ?_); focus (first | exact True.intro | (simp only [InK]; omega) | omega | (simp only [InK, ne_eq, and_true, true_and]; omega) | trivial)) | (simp -dsimp only [↓RP, RQ, implies_true, forall_const, Nat.reduceMul, reduceIte, reduceCtorEq, Nat.reduceAdd, Nat.reduceEqDiff, Nat.reduceLT, Nat.reduceLeDiff, Int.reduceEq, Int.reduceNeg, RZ, eq_self, eq23, TYx, TY62, fsv, B, I, by2, TY, Try.results10])))
    refine callVC k1 ?_ ?_ ?_; iterate 2 focus ((simp -dsimp only [↓RP, RQ, implies_true, forall_const, Nat.reduceMul, reduceIte, reduceCtorEq, Nat.reduceAdd, Nat.reduceEqDiff, Nat.reduceLT, Nat.reduceLeDiff, fsv, Go.Od.ints, U32, U8, I, B]); all_goals (try simp))
    (repeat' (first | with_reducible refine splitVC_d (fun _ => ?_) (fun _ => ?_) | with_reducible refine splitVC (fun _ => ?_) (fun _ => ?_) | ((with_reducible refine And.intro ?_ ?_); focus (first | exact True.intro | (simp only [InK]; omega) | omega | (simp only [InK, ne_eq, and_true, true_and]; omega) | trivial)) | (simp -dsimp only [↓RP, RQ, implies_true, forall_const, Nat.reduceMul, reduceIte, reduceCtorEq, Nat.reduceAdd, Nat.reduceEqDiff, Nat.reduceLT, Nat.reduceLeDiff, Int.reduceEq, Int.reduceNeg, RZ, eq_self, eq23, TYx, TY62, fsv, B, I, by2, TY, Try.results10])))
    refine callVC k2 ?_ ?_ ?_; iterate 2 focus ((simp -dsimp only [↓RP, RQ, implies_true, forall_const, Nat.reduceMul, reduceIte, reduceCtorEq, Nat.reduceAdd, Nat.reduceEqDiff, Nat.reduceLT, Nat.reduceLeDiff, fsv, Go.Od.ints, U32, U8, I, B]); all_goals (try simp))
    (repeat' (first | with_reducible refine splitVC_d (fun _ => ?_) (fun _ => ?_) | with_reducible refine splitVC (fun _ => ?_) (fun _ => ?_) | ((with_reducible refine And.intro ?_ ?_); focus (first | exact True.intro | (simp only [InK]; omega) | omega | (simp only [InK, ne_eq, and_true, true_and]; omega) | trivial)) | (simp -dsimp only [↓RP, RQ, implies_true, forall_const, Nat.reduceMul, reduceIte, reduceCtorEq, Nat.reduceAdd, Nat.reduceEqDiff, Nat.reduceLT, Nat.reduceLeDiff, Int.reduceEq, Int.reduceNeg, RZ, eq_self, eq23, TYx, TY62, fsv, B, I, by2, TY, Try.results10])))
    refine callVC k3 ?_ ?_ ?_; iterate 2 focus ((simp -dsimp only [↓RP, RQ, implies_true, forall_const, Nat.reduceMul, reduceIte, reduceCtorEq, Nat.reduceAdd, Nat.reduceEqDiff, Nat.reduceLT, Nat.reduceLeDiff, fsv, Go.Od.ints, U32, U8, I, B]); all_goals (try simp))
    (repeat' (first | with_reducible refine splitVC_d (fun _ => ?_) (fun _ => ?_) | with_reducible refine splitVC (fun _ => ?_) (fun _ => ?_) | ((with_reducible refine And.intro ?_ ?_); focus (first | exact True.intro | (simp only [InK]; omega) | omega | (simp only [InK, ne_eq, and_true, true_and]; omega) | trivial)) | (simp -dsimp only [↓RP, RQ, implies_true, forall_const, Nat.reduceMul, reduceIte, reduceCtorEq, Nat.reduceAdd, Nat.reduceEqDiff, Nat.reduceLT, Nat.reduceLeDiff, Int.reduceEq, Int.reduceNeg, RZ, eq_self, eq23, TYx, TY62, fsv, B, I, by2, TY, Try.results10])))
    clear s1 k1 k2 k3 c51 c1 c2 g h0 h1 h2 h3
    refine loop_vc (fun q : Int => 1 ≤ q ∧ q ≤ 3001) (fun q => ⟨[(2, .val (.int .u16 less)), (6, .val (.bool false)), (7, .ptr 13 0), (8, .ptr 14 0), (9, .ptr 26 0), (11, .val (.int .i64 q))], [(26, .cells 23 [.val (.int .i64 x.n), .val (.int .i64 x.d)]), (14, .cells 23 [.val (.int .i64 hi.n), .val (.int .i64 hi.d)]), (13, .cells 23 [.val (.int .i64 lo.n), .val (.int .i64 lo.d)])], 27⟩) (fun q => (3001 - q).toNat) 1 (by omega) (weak [] [] ?_ ?_ ?_) fun q hq => ?_
    · (simp -dsimp only [↓RP, RQ, implies_true, forall_const, Nat.reduceMul, reduceIte, reduceCtorEq, Nat.reduceAdd, Nat.reduceEqDiff, Nat.reduceLT, Nat.reduceLeDiff]); all_goals (try simp)
    · (simp -dsimp only [↓RP, RQ, implies_true, forall_const, Nat.reduceMul, reduceIte, reduceCtorEq, Nat.reduceAdd, Nat.reduceEqDiff, Nat.reduceLT, Nat.reduceLeDiff]); all_goals (try simp)
    · (simp -dsimp only [↓RP, RQ, implies_true, forall_const, Nat.reduceMul, reduceIte, reduceCtorEq, Nat.reduceAdd, Nat.reduceEqDiff, Nat.reduceLT, Nat.reduceLeDiff]); all_goals (try simp)
    by_cases hqd : q ≤ x.d
    rotate_left
    · by_cases h100 : x.d ≤ 100
      · have c16 := c16 x x.d
        have ha : askV x x.d = 0 := ask_iff.2 ⟨⟨⟨x1, x2⟩, x3, x4⟩, by omega, by omega⟩
        rw [nearV_ok ha, show nb x x.d = (x, (nb x x.d).2) from Prod.ext (nb_own x3 (by omega) gc) rfl] at c16
        generalize (nb x x.d).2 = z at c16
        (repeat' (first | with_reducible refine splitVC_d (fun _ => ?_) (fun _ => ?_) | with_reducible refine splitVC (fun _ => ?_) (fun _ => ?_) | ((with_reducible refine And.intro ?_ ?_); focus (first | exact True.intro | (simp only [InK]; omega) | omega | (simp only [InK, ne_eq, and_true, true_and]; omega) | trivial)) | (simp -dsimp only [↓RP, RQ, implies_true, forall_const, Nat.reduceMul, reduceIte, reduceCtorEq, Nat.reduceAdd, Nat.reduceEqDiff, Nat.reduceLT, Nat.reduceLeDiff, hqd, h100, Int.reduceEq, Int.reduceNeg, RZ, eq_self, eq23, TYx, TY62, fsv, B, I, by2, TY, Try.results10])))
        refine callVC c16 ?_ ?_ ?_; iterate 2 focus ((simp -dsimp only [↓RP, RQ, implies_true, forall_const, Nat.reduceMul, reduceIte, reduceCtorEq, Nat.reduceAdd, Nat.reduceEqDiff, Nat.reduceLT, Nat.reduceLeDiff, fsv, Go.Od.ints, U32, U8, I, B]); all_goals (try simp))
        (repeat' (first | with_reducible refine splitVC_d (fun _ => ?_) (fun _ => ?_) | with_reducible refine splitVC (fun _ => ?_) (fun _ => ?_) | ((with_reducible refine And.intro ?_ ?_); focus (first | exact True.intro | (simp only [InK]; omega) | omega | (simp only [InK, ne_eq, and_true, true_and]; omega) | trivial)) | (simp -dsimp only [↓RP, RQ, implies_true, forall_const, Nat.reduceMul, reduceIte, reduceCtorEq, Nat.reduceAdd, Nat.reduceEqDiff, Nat.reduceLT, Nat.reduceLeDiff, h100, Int.reduceEq, Int.reduceNeg, RZ, eq_self, eq23, TYx, TY62, fsv, B, I, by2, TY, Try.results10])))
        · skip
          refine callVC s2 ?_ ?_ ?_; iterate 2 focus ((simp -dsimp only [↓RP, RQ, implies_true, forall_const, Nat.reduceMul, reduceIte, reduceCtorEq, Nat.reduceAdd, Nat.reduceEqDiff, Nat.reduceLT, Nat.reduceLeDiff, fsv, Go.Od.ints, U32, U8, I, B]); all_goals (try simp))
          (repeat' (first | with_reducible refine splitVC_d (fun _ => ?_) (fun _ => ?_) | with_reducible refine splitVC (fun _ => ?_) (fun _ => ?_) | ((with_reducible refine And.intro ?_ ?_); focus (first | exact True.intro | (simp only [InK]; omega) | omega | (simp only [InK, ne_eq, and_true, true_and]; omega) | trivial)) | (simp -dsimp only [↓RP, RQ, implies_true, forall_const, Nat.reduceMul, reduceIte, reduceCtorEq, Nat.reduceAdd, Nat.reduceEqDiff, Nat.reduceLT, Nat.reduceLeDiff, Int.reduceEq, Int.reduceNeg, RZ, eq_self, eq23, TYx, TY62, fsv, B, I, by2, TY, Try.results10])))
          refine callVC c22 ?_ ?_ ?_; iterate 2 focus ((simp -dsimp only [↓RP, RQ, implies_true, forall_const, Nat.reduceMul, reduceIte, reduceCtorEq, Nat.reduceAdd, Nat.reduceEqDiff, Nat.reduceLT, Nat.reduceLeDiff, fsv, Go.Od.ints, U32, U8, I, B]); all_goals (try simp))
          (repeat' (first | with_reducible refine splitVC_d (fun _ => ?_) (fun _ => ?_) | with_reducible refine splitVC (fun _ => ?_) (fun _ => ?_) | ((with_reducible refine And.intro ?_ ?_); focus (first | exact True.intro | (simp only [InK]; omega) | omega | (simp only [InK, ne_eq, and_true, true_and]; omega) | trivial)) | (simp -dsimp only [↓RP, RQ, implies_true, forall_const, Nat.reduceMul, reduceIte, reduceCtorEq, Nat.reduceAdd, Nat.reduceEqDiff, Nat.reduceLT, Nat.reduceLeDiff, Int.reduceEq, Int.reduceNeg, RZ, eq_self, eq23, TYx, TY62, fsv, B, I, by2, TY, Try.results10])))
        · skip
          refine callVC s3 ?_ ?_ ?_; iterate 2 focus ((simp -dsimp only [↓RP, RQ, implies_true, forall_const, Nat.reduceMul, reduceIte, reduceCtorEq, Nat.reduceAdd, Nat.reduceEqDiff, Nat.reduceLT, Nat.reduceLeDiff, fsv, Go.Od.ints, U32, U8, I, B]); all_goals (try simp))
          (repeat' (first | with_reducible refine splitVC_d (fun _ => ?_) (fun _ => ?_) | with_reducible refine splitVC (fun _ => ?_) (fun _ => ?_) | ((with_reducible refine And.intro ?_ ?_); focus (first | exact True.intro | (simp only [InK]; omega) | omega | (simp only [InK, ne_eq, and_true, true_and]; omega) | trivial)) | (simp -dsimp only [↓RP, RQ, implies_true, forall_const, Nat.reduceMul, reduceIte, reduceCtorEq, Nat.reduceAdd, Nat.reduceEqDiff, Nat.reduceLT, Nat.reduceLeDiff, Int.reduceEq, Int.reduceNeg, RZ, eq_self, eq23, TYx, TY62, fsv, B, I, by2, TY, Try.results10])))
          refine callVC c22 ?_ ?_ ?_; iterate 2 focus ((simp -dsimp only [↓RP, RQ, implies_true, forall_const, Nat.reduceMul, reduceIte, reduceCtorEq, Nat.reduceAdd, Nat.reduceEqDiff, Nat.reduceLT, Nat.reduceLeDiff, fsv, Go.Od.ints, U32, U8, I, B]); all_goals (try simp))
          (repeat' (first | with_reducible refine splitVC_d (fun _ => ?_) (fun _ => ?_) | with_reducible refine splitVC (fun _ => ?_) (fun _ => ?_) | ((with_reducible refine And.intro ?_ ?_); focus (first | exact True.intro | (simp only [InK]; omega) | omega | (simp only [InK, ne_eq, and_true, true_and]; omega) | trivial)) | (simp -dsimp only [↓RP, RQ, implies_true, forall_const, Nat.reduceMul, reduceIte, reduceCtorEq, Nat.reduceAdd, Nat.reduceEqDiff, Nat.reduceLT, Nat.reduceLeDiff, Int.reduceEq, Int.reduceNeg, RZ, eq_self, eq23, TYx, TY62, fsv, B, I, by2, TY, Try.results10])))
      · (repeat' (first | with_reducible refine splitVC_d (fun _ => ?_) (fun _ => ?_) | with_reducible refine splitVC (fun _ => ?_) (fun _ => ?_) | ((with_reducible refine And.intro ?_ ?_); focus (first | exact True.intro | (simp only [InK]; omega) | omega | (simp only [InK, ne_eq, and_true, true_and]; omega) | trivial)) | (simp -dsimp only [↓RP, RQ, implies_true, forall_const, Nat.reduceMul, reduceIte, reduceCtorEq, Nat.reduceAdd, Nat.reduceEqDiff, Nat.reduceLT, Nat.reduceLeDiff, hqd, h100, Int.reduceEq, Int.reduceNeg, RZ, eq_self, eq23, TYx, TY62, fsv, B, I, by2, TY, Try.results10])))
        · skip
          refine callVC s2 ?_ ?_ ?_; iterate 2 focus ((simp -dsimp only [↓RP, RQ, implies_true, forall_const, Nat.reduceMul, reduceIte, reduceCtorEq, Nat.reduceAdd, Nat.reduceEqDiff, Nat.reduceLT, Nat.reduceLeDiff, fsv, Go.Od.ints, U32, U8, I, B]); all_goals (try simp))
          (repeat' (first | with_reducible refine splitVC_d (fun _ => ?_) (fun _ => ?_) | with_reducible refine splitVC (fun _ => ?_) (fun _ => ?_) | ((with_reducible refine And.intro ?_ ?_); focus (first | exact True.intro | (simp only [InK]; omega) | omega | (simp only [InK, ne_eq, and_true, true_and]; omega) | trivial)) | (simp -dsimp only [↓RP, RQ, implies_true, forall_const, Nat.reduceMul, reduceIte, reduceCtorEq, Nat.reduceAdd, Nat.reduceEqDiff, Nat.reduceLT, Nat.reduceLeDiff, Int.reduceEq, Int.reduceNeg, RZ, eq_self, eq23, TYx, TY62, fsv, B, I, by2, TY, Try.results10])))
          refine callVC c22 ?_ ?_ ?_; iterate 2 focus ((simp -dsimp only [↓RP, RQ, implies_true, forall_const, Nat.reduceMul, reduceIte, reduceCtorEq, Nat.reduceAdd, Nat.reduceEqDiff, Nat.reduceLT, Nat.reduceLeDiff, fsv, Go.Od.ints, U32, U8, I, B]); all_goals (try simp))
          (repeat' (first | with_reducible refine splitVC_d (fun _ => ?_) (fun _ => ?_) | with_reducible refine splitVC (fun _ => ?_) (fun _ => ?_) | ((with_reducible refine And.intro ?_ ?_); focus (first | exact True.intro | (simp only [InK]; omega) | omega | (simp only [InK, ne_eq, and_true, true_and]; omega) | trivial)) | (simp -dsimp only [↓RP, RQ, implies_true, forall_const, Nat.reduceMul, reduceIte, reduceCtorEq, Nat.reduceAdd, Nat.reduceEqDiff, Nat.reduceLT, Nat.reduceLeDiff, Int.reduceEq, Int.reduceNeg, RZ, eq_self, eq23, TYx, TY62, fsv, B, I, by2, TY, Try.results10])))
        · skip
          refine callVC s3 ?_ ?_ ?_; iterate 2 focus ((simp -dsimp only [↓RP, RQ, implies_true, forall_const, Nat.reduceMul, reduceIte, reduceCtorEq, Nat.reduceAdd, Nat.reduceEqDiff, Nat.reduceLT, Nat.reduceLeDiff, fsv, Go.Od.ints, U32, U8, I, B]); all_goals (try simp))
          (repeat' (first | with_reducible refine splitVC_d (fun _ => ?_) (fun _ => ?_) | with_reducible refine splitVC (fun _ => ?_) (fun _ => ?_) | ((with_reducible refine And.intro ?_ ?_); focus (first | exact True.intro | (simp only [InK]; omega) | omega | (simp only [InK, ne_eq, and_true, true_and]; omega) | trivial)) | (simp -dsimp only [↓RP, RQ, implies_true, forall_const, Nat.reduceMul, reduceIte, reduceCtorEq, Nat.reduceAdd, Nat.reduceEqDiff, Nat.reduceLT, Nat.reduceLeDiff, Int.reduceEq, Int.reduceNeg, RZ, eq_self, eq23, TYx, TY62, fsv, B, I, by2, TY, Try.results10])))
          refine callVC c22 ?_ ?_ ?_; iterate 2 focus ((simp -dsimp only [↓RP, RQ, implies_true, forall_const, Nat.reduceMul, reduceIte, reduceCtorEq, Nat.reduceAdd, Nat.reduceEqDiff, Nat.reduceLT, Nat.reduceLeDiff, fsv, Go.Od.ints, U32, U8, I, B]); all_goals (try simp))
          (repeat' (first | with_reducible refine splitVC_d (fun _ => ?_) (fun _ => ?_) | with_reducible refine splitVC (fun _ => ?_) (fun _ => ?_) | ((with_reducible refine And.intro ?_ ?_); focus (first | exact True.intro | (simp only [InK]; omega) | omega | (simp only [InK, ne_eq, and_true, true_and]; omega) | trivial)) | (simp -dsimp only [↓RP, RQ, implies_true, forall_const, Nat.reduceMul, reduceIte, reduceCtorEq, Nat.reduceAdd, Nat.reduceEqDiff, Nat.reduceLT, Nat.reduceLeDiff, Int.reduceEq, Int.reduceNeg, RZ, eq_self, eq23, TYx, TY62, fsv, B, I, by2, TY, Try.results10])))
    by_cases hq3 : q ≤ 3000
    rotate_left
    · by_cases h100 : x.d ≤ 100
      · have c16 := c16 x x.d
        have ha : askV x x.d = 0 := ask_iff.2 ⟨⟨⟨x1, x2⟩, x3, x4⟩, by omega, by omega⟩
        rw [nearV_ok ha, show nb x x.d = (x, (nb x x.d).2) from Prod.ext (nb_own x3 (by omega) gc) rfl] at c16
        generalize (nb x x.d).2 = z at c16
        (repeat' (first | with_reducible refine splitVC_d (fun _ => ?_) (fun _ => ?_) | with_reducible refine splitVC (fun _ => ?_) (fun _ => ?_) | ((with_reducible refine And.intro ?_ ?_); focus (first | exact True.intro | (simp only [InK]; omega) | omega | (simp only [InK, ne_eq, and_true, true_and]; omega) | trivial)) | (simp -dsimp only [↓RP, RQ, implies_true, forall_const, Nat.reduceMul, reduceIte, reduceCtorEq, Nat.reduceAdd, Nat.reduceEqDiff, Nat.reduceLT, Nat.reduceLeDiff, hqd, hq3, h100, Int.reduceEq, Int.reduceNeg, RZ, eq_self, eq23, TYx, TY62, fsv, B, I, by2, TY, Try.results10])))
        refine callVC c16 ?_ ?_ ?_; iterate 2 focus ((simp -dsimp only [↓RP, RQ, implies_true, forall_const, Nat.reduceMul, reduceIte, reduceCtorEq, Nat.reduceAdd, Nat.reduceEqDiff, Nat.reduceLT, Nat.reduceLeDiff, fsv, Go.Od.ints, U32, U8, I, B]); all_goals (try simp))
        (repeat' (first | with_reducible refine splitVC_d (fun _ => ?_) (fun _ => ?_) | with_reducible refine splitVC (fun _ => ?_) (fun _ => ?_) | ((with_reducible refine And.intro ?_ ?_); focus (first | exact True.intro | (simp only [InK]; omega) | omega | (simp only [InK, ne_eq, and_true, true_and]; omega) | trivial)) | (simp -dsimp only [↓RP, RQ, implies_true, forall_const, Nat.reduceMul, reduceIte, reduceCtorEq, Nat.reduceAdd, Nat.reduceEqDiff, Nat.reduceLT, Nat.reduceLeDiff, h100, Int.reduceEq, Int.reduceNeg, RZ, eq_self, eq23, TYx, TY62, fsv, B, I, by2, TY, Try.results10])))
        · skip
          refine callVC s2 ?_ ?_ ?_; iterate 2 focus ((simp -dsimp only [↓RP, RQ, implies_true, forall_const, Nat.reduceMul, reduceIte, reduceCtorEq, Nat.reduceAdd, Nat.reduceEqDiff, Nat.reduceLT, Nat.reduceLeDiff, fsv, Go.Od.ints, U32, U8, I, B]); all_goals (try simp))
          (repeat' (first | with_reducible refine splitVC_d (fun _ => ?_) (fun _ => ?_) | with_reducible refine splitVC (fun _ => ?_) (fun _ => ?_) | ((with_reducible refine And.intro ?_ ?_); focus (first | exact True.intro | (simp only [InK]; omega) | omega | (simp only [InK, ne_eq, and_true, true_and]; omega) | trivial)) | (simp -dsimp only [↓RP, RQ, implies_true, forall_const, Nat.reduceMul, reduceIte, reduceCtorEq, Nat.reduceAdd, Nat.reduceEqDiff, Nat.reduceLT, Nat.reduceLeDiff, Int.reduceEq, Int.reduceNeg, RZ, eq_self, eq23, TYx, TY62, fsv, B, I, by2, TY, Try.results10])))
          refine callVC c22 ?_ ?_ ?_; iterate 2 focus ((simp -dsimp only [↓RP, RQ, implies_true, forall_const, Nat.reduceMul, reduceIte, reduceCtorEq, Nat.reduceAdd, Nat.reduceEqDiff, Nat.reduceLT, Nat.reduceLeDiff, fsv, Go.Od.ints, U32, U8, I, B]); all_goals (try simp))
          (repeat' (first | with_reducible refine splitVC_d (fun _ => ?_) (fun _ => ?_) | with_reducible refine splitVC (fun _ => ?_) (fun _ => ?_) | ((with_reducible refine And.intro ?_ ?_); focus (first | exact True.intro | (simp only [InK]; omega) | omega | (simp only [InK, ne_eq, and_true, true_and]; omega) | trivial)) | (simp -dsimp only [↓RP, RQ, implies_true, forall_const, Nat.reduceMul, reduceIte, reduceCtorEq, Nat.reduceAdd, Nat.reduceEqDiff, Nat.reduceLT, Nat.reduceLeDiff, Int.reduceEq, Int.reduceNeg, RZ, eq_self, eq23, TYx, TY62, fsv, B, I, by2, TY, Try.results10])))
        · skip
          refine callVC s3 ?_ ?_ ?_; iterate 2 focus ((simp -dsimp only [↓RP, RQ, implies_true, forall_const, Nat.reduceMul, reduceIte, reduceCtorEq, Nat.reduceAdd, Nat.reduceEqDiff, Nat.reduceLT, Nat.reduceLeDiff, fsv, Go.Od.ints, U32, U8, I, B]); all_goals (try simp))
          (repeat' (first | with_reducible refine splitVC_d (fun _ => ?_) (fun _ => ?_) | with_reducible refine splitVC (fun _ => ?_) (fun _ => ?_) | ((with_reducible refine And.intro ?_ ?_); focus (first | exact True.intro | (simp only [InK]; omega) | omega | (simp only [InK, ne_eq, and_true, true_and]; omega) | trivial)) | (simp -dsimp only [↓RP, RQ, implies_true, forall_const, Nat.reduceMul, reduceIte, reduceCtorEq, Nat.reduceAdd, Nat.reduceEqDiff, Nat.reduceLT, Nat.reduceLeDiff, Int.reduceEq, Int.reduceNeg, RZ, eq_self, eq23, TYx, TY62, fsv, B, I, by2, TY, Try.results10])))
          refine callVC c22 ?_ ?_ ?_; iterate 2 focus ((simp -dsimp only [↓RP, RQ, implies_true, forall_const, Nat.reduceMul, reduceIte, reduceCtorEq, Nat.reduceAdd, Nat.reduceEqDiff, Nat.reduceLT, Nat.reduceLeDiff, fsv, Go.Od.ints, U32, U8, I, B]); all_goals (try simp))
          (repeat' (first | with_reducible refine splitVC_d (fun _ => ?_) (fun _ => ?_) | with_reducible refine splitVC (fun _ => ?_) (fun _ => ?_) | ((with_reducible refine And.intro ?_ ?_); focus (first | exact True.intro | (simp only [InK]; omega) | omega | (simp only [InK, ne_eq, and_true, true_and]; omega) | trivial)) | (simp -dsimp only [↓RP, RQ, implies_true, forall_const, Nat.reduceMul, reduceIte, reduceCtorEq, Nat.reduceAdd, Nat.reduceEqDiff, Nat.reduceLT, Nat.reduceLeDiff, Int.reduceEq, Int.reduceNeg, RZ, eq_self, eq23, TYx, TY62, fsv, B, I, by2, TY, Try.results10])))
      · (repeat' (first | with_reducible refine splitVC_d (fun _ => ?_) (fun _ => ?_) | with_reducible refine splitVC (fun _ => ?_) (fun _ => ?_) | ((with_reducible refine And.intro ?_ ?_); focus (first | exact True.intro | (simp only [InK]; omega) | omega | (simp only [InK, ne_eq, and_true, true_and]; omega) | trivial)) | (simp -dsimp only [↓RP, RQ, implies_true, forall_const, Nat.reduceMul, reduceIte, reduceCtorEq, Nat.reduceAdd, Nat.reduceEqDiff, Nat.reduceLT, Nat.reduceLeDiff, hqd, hq3, h100, Int.reduceEq, Int.reduceNeg, RZ, eq_self, eq23, TYx, TY62, fsv, B, I, by2, TY, Try.results10])))
        · skip
          refine callVC s2 ?_ ?_ ?_; iterate 2 focus ((simp -dsimp only [↓RP, RQ, implies_true, forall_const, Nat.reduceMul, reduceIte, reduceCtorEq, Nat.reduceAdd, Nat.reduceEqDiff, Nat.reduceLT, Nat.reduceLeDiff, fsv, Go.Od.ints, U32, U8, I, B]); all_goals (try simp))
          (repeat' (first | with_reducible refine splitVC_d (fun _ => ?_) (fun _ => ?_) | with_reducible refine splitVC (fun _ => ?_) (fun _ => ?_) | ((with_reducible refine And.intro ?_ ?_); focus (first | exact True.intro | (simp only [InK]; omega) | omega | (simp only [InK, ne_eq, and_true, true_and]; omega) | trivial)) | (simp -dsimp only [↓RP, RQ, implies_true, forall_const, Nat.reduceMul, reduceIte, reduceCtorEq, Nat.reduceAdd, Nat.reduceEqDiff, Nat.reduceLT, Nat.reduceLeDiff, Int.reduceEq, Int.reduceNeg, RZ, eq_self, eq23, TYx, TY62, fsv, B, I, by2, TY, Try.results10])))
          refine callVC c22 ?_ ?_ ?_; iterate 2 focus ((simp -dsimp only [↓RP, RQ, implies_true, forall_const, Nat.reduceMul, reduceIte, reduceCtorEq, Nat.reduceAdd, Nat.reduceEqDiff, Nat.reduceLT, Nat.reduceLeDiff, fsv, Go.Od.ints, U32, U8, I, B]); all_goals (try simp))
          (repeat' (first | with_reducible refine splitVC_d (fun _ => ?_) (fun _ => ?_) | with_reducible refine splitVC (fun _ => ?_) (fun _ => ?_) | ((with_reducible refine And.intro ?_ ?_); focus (first | exact True.intro | (simp only [InK]; omega) | omega | (simp only [InK, ne_eq, and_true, true_and]; omega) | trivial)) | (simp -dsimp only [↓RP, RQ, implies_true, forall_const, Nat.reduceMul, reduceIte, reduceCtorEq, Nat.reduceAdd, Nat.reduceEqDiff, Nat.reduceLT, Nat.reduceLeDiff, Int.reduceEq, Int.reduceNeg, RZ, eq_self, eq23, TYx, TY62, fsv, B, I, by2, TY, Try.results10])))
        · skip
          refine callVC s3 ?_ ?_ ?_; iterate 2 focus ((simp -dsimp only [↓RP, RQ, implies_true, forall_const, Nat.reduceMul, reduceIte, reduceCtorEq, Nat.reduceAdd, Nat.reduceEqDiff, Nat.reduceLT, Nat.reduceLeDiff, fsv, Go.Od.ints, U32, U8, I, B]); all_goals (try simp))
          (repeat' (first | with_reducible refine splitVC_d (fun _ => ?_) (fun _ => ?_) | with_reducible refine splitVC (fun _ => ?_) (fun _ => ?_) | ((with_reducible refine And.intro ?_ ?_); focus (first | exact True.intro | (simp only [InK]; omega) | omega | (simp only [InK, ne_eq, and_true, true_and]; omega) | trivial)) | (simp -dsimp only [↓RP, RQ, implies_true, forall_const, Nat.reduceMul, reduceIte, reduceCtorEq, Nat.reduceAdd, Nat.reduceEqDiff, Nat.reduceLT, Nat.reduceLeDiff, Int.reduceEq, Int.reduceNeg, RZ, eq_self, eq23, TYx, TY62, fsv, B, I, by2, TY, Try.results10])))
          refine callVC c22 ?_ ?_ ?_; iterate 2 focus ((simp -dsimp only [↓RP, RQ, implies_true, forall_const, Nat.reduceMul, reduceIte, reduceCtorEq, Nat.reduceAdd, Nat.reduceEqDiff, Nat.reduceLT, Nat.reduceLeDiff, fsv, Go.Od.ints, U32, U8, I, B]); all_goals (try simp))
          (repeat' (first | with_reducible refine splitVC_d (fun _ => ?_) (fun _ => ?_) | with_reducible refine splitVC (fun _ => ?_) (fun _ => ?_) | ((with_reducible refine And.intro ?_ ?_); focus (first | exact True.intro | (simp only [InK]; omega) | omega | (simp only [InK, ne_eq, and_true, true_and]; omega) | trivial)) | (simp -dsimp only [↓RP, RQ, implies_true, forall_const, Nat.reduceMul, reduceIte, reduceCtorEq, Nat.reduceAdd, Nat.reduceEqDiff, Nat.reduceLT, Nat.reduceLeDiff, Int.reduceEq, Int.reduceNeg, RZ, eq_self, eq23, TYx, TY62, fsv, B, I, by2, TY, Try.results10])))
    · have q0 : 0 ≤ lo.n * q := Int.mul_nonneg l3 (by omega)
      have ⟨u0, u1, u2⟩ := up_spec q0 (show 0 < lo.d by omega)
      have u3 : up (lo.n * q) lo.d ≤ 1000 * q := up_le q0 (by omega) (by
        have : lo.n * q ≤ 1000 * lo.d * q := Int.mul_le_mul_of_nonneg_right l4 (by omega)
        have e : 1000 * q * lo.d = 1000 * lo.d * q := by grind
        omega)
      have q1 : lo.n * q ≤ 1000000000 * 3001 := Int.mul_le_mul (by omega) (by omega) (by omega) (by omega)
      have eu : (lo.n * q + lo.d - 1).tdiv lo.d = up (lo.n * q) lo.d := rfl
      have b1 := best_less hb l3 (show 0 < lo.d by omega) hq.1
      have b2 := best_same hb l3 (show 0 < lo.d by omega) (show 0 < hi.d by omega)
      have b3 : q = x.d → up (lo.n * q) lo.d = x.n := fun e => by rw [e]; exact b2
      generalize up (lo.n * q) lo.d = pu at *
      have i1 : InK .i64 (hi.n * q) := InK_mul (A := 1000000000) (B := 3001) (by omega) (by omega) (by omega) (by omega) (by omega) (by omega)
      have i2 : InK .i64 (pu * hi.d) := InK_mul (A := 3001000) (B := 1000000) (by omega) (by omega) (by omega) (by omega) (by omega) (by omega)
      by_cases hqx : q < x.d
      · have j := ctB (c49 hi ⟨pu, q⟩ i1 i2) (b1 hqx)
        have ne : ¬ q = x.d := by omega
        clear b1 b2 b3 u1 u2 i1 i2 s2 s3 hb
        (repeat' (first | with_reducible refine splitVC_d (fun _ => ?_) (fun _ => ?_) | with_reducible refine splitVC (fun _ => ?_) (fun _ => ?_) | ((with_reducible refine And.intro ?_ ?_); focus (first | exact True.intro | (simp only [InK]; omega) | omega | (simp only [InK, ne_eq, and_true, true_and]; omega) | trivial)) | (simp -dsimp only [↓RP, RQ, implies_true, forall_const, Nat.reduceMul, reduceIte, reduceCtorEq, Nat.reduceAdd, Nat.reduceEqDiff, Nat.reduceLT, Nat.reduceLeDiff, hqd, hq3, hqx, ne, eu, Int.reduceEq, Int.reduceNeg, RZ, eq_self, eq23, TYx, TY62, fsv, B, I, by2, TY, Try.results10])))
        refine callVC (c50 pu q) ?_ ?_ ?_; iterate 2 focus ((simp -dsimp only [↓RP, RQ, implies_true, forall_const, Nat.reduceMul, reduceIte, reduceCtorEq, Nat.reduceAdd, Nat.reduceEqDiff, Nat.reduceLT, Nat.reduceLeDiff, fsv, Go.Od.ints, U32, U8, I, B]); all_goals (try simp))
        (repeat' (first | with_reducible refine splitVC_d (fun _ => ?_) (fun _ => ?_) | with_reducible refine splitVC (fun _ => ?_) (fun _ => ?_) | ((with_reducible refine And.intro ?_ ?_); focus (first | exact True.intro | (simp only [InK]; omega) | omega | (simp only [InK, ne_eq, and_true, true_and]; omega) | trivial)) | (simp -dsimp only [↓RP, RQ, implies_true, forall_const, Nat.reduceMul, reduceIte, reduceCtorEq, Nat.reduceAdd, Nat.reduceEqDiff, Nat.reduceLT, Nat.reduceLeDiff, ne, Int.reduceEq, Int.reduceNeg, RZ, eq_self, eq23, TYx, TY62, fsv, B, I, by2, TY, Try.results10])))
        refine callVC j ?_ ?_ ?_; iterate 2 focus ((simp -dsimp only [↓RP, RQ, implies_true, forall_const, Nat.reduceMul, reduceIte, reduceCtorEq, Nat.reduceAdd, Nat.reduceEqDiff, Nat.reduceLT, Nat.reduceLeDiff, fsv, Go.Od.ints, U32, U8, I, B]); all_goals (try simp))
        (repeat' (first | with_reducible refine splitVC_d (fun _ => ?_) (fun _ => ?_) | with_reducible refine splitVC (fun _ => ?_) (fun _ => ?_) | ((with_reducible refine And.intro ?_ ?_); focus (first | exact True.intro | (simp only [InK]; omega) | omega | (simp only [InK, ne_eq, and_true, true_and]; omega) | trivial)) | (simp -dsimp only [↓RP, RQ, implies_true, forall_const, Nat.reduceMul, reduceIte, reduceCtorEq, Nat.reduceAdd, Nat.reduceEqDiff, Nat.reduceLT, Nat.reduceLeDiff, ne, Int.reduceEq, Int.reduceNeg, RZ, eq_self, eq23, TYx, TY62, fsv, B, I, by2, TY, Try.results10])))
        all_goals first | (exfalso; omega) | skip
        refine ⟨q + 1, by omega, by omega, weak [] [] ?_ ?_ ?_⟩
        all_goals ((simp -dsimp only [↓RP, RQ, implies_true, forall_const, Nat.reduceMul, reduceIte, reduceCtorEq, Nat.reduceAdd, Nat.reduceEqDiff, Nat.reduceLT, Nat.reduceLeDiff]); all_goals (try simp))
      · have ne : q = x.d := by omega
        have e := b3 ne
        subst ne
        clear b1 b2 b3 u1 u2 i1 i2 s2 s3 hb
        (repeat' (first | with_reducible refine splitVC_d (fun _ => ?_) (fun _ => ?_) | with_reducible refine splitVC (fun _ => ?_) (fun _ => ?_) | ((with_reducible refine And.intro ?_ ?_); focus (first | exact True.intro | (simp only [InK]; omega) | omega | (simp only [InK, ne_eq, and_true, true_and]; omega) | trivial)) | (simp -dsimp only [↓RP, RQ, implies_true, forall_const, Nat.reduceMul, reduceIte, reduceCtorEq, Nat.reduceAdd, Nat.reduceEqDiff, Nat.reduceLT, Nat.reduceLeDiff, hqd, hq3, hqx, e, eu, Int.lt_irrefl, Int.le_refl, Int.reduceEq, Int.reduceNeg, RZ, eq_self, eq23, TYx, TY62, fsv, B, I, by2, TY, Try.results10])))
        all_goals first | (exfalso; omega) | skip
        refine ⟨x.d + 1, by omega, by omega, weak [] [] ?_ ?_ ?_⟩
        all_goals ((simp -dsimp only [↓RP, RQ, implies_true, forall_const, Nat.reduceMul, reduceIte, reduceCtorEq, Nat.reduceAdd, Nat.reduceEqDiff, Nat.reduceLT, Nat.reduceLeDiff]); all_goals (try simp))
end Go.Od
end
