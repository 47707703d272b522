/- A part of the proof. -/
import Derived.Test.YtbomildlhnllhaaOI
import Derived.Test.YtbomildlhnllhaaOJ
import Derived.Test.YtbomildlhnllhaaOK
section
set_option linter.unusedSimpArgs false
set_option linter.unusedVariables false
set_option linter.defProp false
set_option maxRecDepth 100000
set_option maxHeartbeats 16000000
namespace Go.Od
open Go.Proofs
open Go.Sx
theorem TYx : True ∧ tyOf Try.prog 54 = some ⟨false, 1, some [.slice none 0 0], .slice 57 1⟩ ∧ tyOf Try.prog 57 = some ⟨false, 1, some [.int .u32 0], .int .u32⟩ := ⟨trivial, by kernel_rfl, by kernel_rfl⟩
end Go.Od
end
section
set_option linter.unusedSimpArgs false
set_option linter.unusedVariables false
set_option linter.defProp false
set_option maxRecDepth 100000
set_option maxHeartbeats 16000000
namespace Go.Od
open Go.Proofs
open Go.Sx
def U32 (n : Int) : SV := .val (.int .u32 n)
def U8 (n : Int) : SV := .val (.int .u8 n)
theorem c47 (a b : Int) (ha : 0 ≤ a ∧ a < 4294967296) (hb : 0 ≤ b ∧ b < 4294967296) : Contract Try.prog 47 [U32 a, U32 b] (fsv (fracV a b)) := by
  refine contract_of Try.func47 rfl (by kernel_rfl) follows (by kernel_rfl) _ _ (by rw [Try.ntmps47]; simp) (by simp [OldL, Old, U32]) ?_
  unfold U32
  conv => arg 4; unfold fsv I
  have h1 := Int.tmod_nonneg 1000000 hb.1
  have h2 := Int.tmod_lt_of_pos b (show (0 : Int) < 1000000 by omega)
  (repeat' (first | with_reducible refine splitVC_d (fun _ => ?_) (fun _ => ?_) | with_reducible refine splitVC (fun _ => ?_) (fun _ => ?_) | ((with_reducible refine And.intro ?_ ?_); focus (first | exact True.intro | (simp only [InK]; omega) | omega | (simp only [InK, ne_eq, and_true, true_and]; omega) | trivial)) | (simp -dsimp only [↓RP, RQ, implies_true, forall_const, Nat.reduceMul, reduceIte, reduceCtorEq, Nat.reduceAdd, Nat.reduceEqDiff, Nat.reduceLT, Nat.reduceLeDiff, Int.reduceEq, Int.reduceNeg, RZ, eq_self, eq23, TYq, TYp, TYm, TYn, TYw, TYx, fsv, B, I, by2, TY, Try.results47])))
  refine callVC (c50 (a.tmod (1000 * (1 + b.tmod 1000000) + 1)) (1 + b.tmod 1000000)) ?_ ?_ ?_; iterate 2 focus ((simp -dsimp only [↓RP, RQ, implies_true, forall_const, Nat.reduceMul, reduceIte, reduceCtorEq, Nat.reduceAdd, Nat.reduceEqDiff, Nat.reduceLT, Nat.reduceLeDiff, fsv, Go.Od.ints, I, B]); all_goals (try simp))
  (repeat' (first | with_reducible refine splitVC_d (fun _ => ?_) (fun _ => ?_) | with_reducible refine splitVC (fun _ => ?_) (fun _ => ?_) | ((with_reducible refine And.intro ?_ ?_); focus (first | exact True.intro | (simp only [InK]; omega) | omega | (simp only [InK, ne_eq, and_true, true_and]; omega) | trivial)) | (simp -dsimp only [↓RP, RQ, implies_true, forall_const, Nat.reduceMul, reduceIte, reduceCtorEq, Nat.reduceAdd, Nat.reduceEqDiff, Nat.reduceLT, Nat.reduceLeDiff, Int.reduceEq, Int.reduceNeg, RZ, eq_self, eq23, TYq, TYp, TYm, TYn, TYw, TYx, fsv, B, I, by2, TY, Try.results47])))
  all_goals first | rfl | exact ⟨rfl, rfl⟩ | trace_state
theorem c48 (r : Fr) : Contract Try.prog 48 [fsv r] (B (decide (smallF r))) := by
  refine contract_of Try.func48 rfl (by kernel_rfl) follows (by kernel_rfl) _ _ (by rw [Try.ntmps48]; simp) (by simp only [OldL, fsv_old, and_self]) ?_
  unfold B
  conv => arg 4; unfold fsv I
  (repeat' (first | with_reducible refine splitVC_d (fun _ => ?_) (fun _ => ?_) | with_reducible refine splitVC (fun _ => ?_) (fun _ => ?_) | ((with_reducible refine And.intro ?_ ?_); focus (first | exact True.intro | (simp only [InK]; omega) | omega | (simp only [InK, ne_eq, and_true, true_and]; omega) | trivial)) | (simp -dsimp only [↓RP, RQ, implies_true, forall_const, Nat.reduceMul, reduceIte, reduceCtorEq, Nat.reduceAdd, Nat.reduceEqDiff, Nat.reduceLT, Nat.reduceLeDiff, Int.reduceEq, Int.reduceNeg, RZ, eq_self, eq23, TYq, TYp, TYm, TYn, TYw, TYx, fsv, B, I, by2, TY, Try.results48])))
  all_goals first | (refine B_eq ?_; symm; refine decide_eq_false (fun h => ?_); have := h.1; omega) | skip
  refine callVC (c52 r (by omega) (by omega) (by omega) (by omega)) ?_ ?_ ?_; iterate 2 focus ((simp -dsimp only [↓RP, RQ, implies_true, forall_const, Nat.reduceMul, reduceIte, reduceCtorEq, Nat.reduceAdd, Nat.reduceEqDiff, Nat.reduceLT, Nat.reduceLeDiff, fsv, Go.Od.ints, I, B]); all_goals (try simp))
  (repeat' (first | with_reducible refine splitVC_d (fun _ => ?_) (fun _ => ?_) | with_reducible refine splitVC (fun _ => ?_) (fun _ => ?_) | ((with_reducible refine And.intro ?_ ?_); focus (first | exact True.intro | (simp only [InK]; omega) | omega | (simp only [InK, ne_eq, and_true, true_and]; omega) | trivial)) | (simp -dsimp only [↓RP, RQ, implies_true, forall_const, Nat.reduceMul, reduceIte, reduceCtorEq, Nat.reduceAdd, Nat.reduceEqDiff, Nat.reduceLT, Nat.reduceLeDiff, Int.reduceEq, Int.reduceNeg, RZ, eq_self, eq23, TYq, TYp, TYm, TYn, TYw, TYx, fsv, B, I, by2, TY, Try.results48])))
  refine B_eq ?_
  rw [Bool.eq_iff_iff]
  have e : red r = r ↔ (red r).n = r.n ∧ (red r).d = r.d := ⟨fun h => by rw [h]; exact ⟨rfl, rfl⟩, fun h => Fr.ext' h.1 h.2⟩
  simp only [smallF, Bool.and_eq_true, decide_eq_true_eq, e]
  constructor
  · exact fun h => ⟨by omega, h⟩
  · exact fun h => h.2
end Go.Od
end
section
set_option linter.unusedSimpArgs false
set_option linter.unusedVariables false
set_option linter.defProp false
set_option maxRecDepth 100000
set_option maxHeartbeats 16000000
namespace Go.Od
open Go.Proofs
open Go.Sx
theorem ctB {f : FuncId} {ag : List SV} {p : Prop} [Decidable p] (h : Contract Try.prog f ag (B (decide p))) (hp : p) : Contract Try.prog f ag (B true) := by rwa [decide_eq_true hp] at h
theorem cfB {f : FuncId} {ag : List SV} {p : Prop} [Decidable p] (h : Contract Try.prog f ag (B (decide p))) (hp : ¬ p) : Contract Try.prog f ag (B false) := by rwa [decide_eq_false hp] at h
theorem InK_mul {a b A B : Int} (a0 : -A ≤ a) (a1 : a ≤ A) (A0 : 0 ≤ A) (b0 : 0 ≤ b) (b1 : b ≤ B) (h : A * B ≤ 9000000000000000000) : InK .i64 (a * b) := by
  have ⟨h1, h2⟩ := mul_inn a b A B a0 a1 A0 b0 b1
  simp only [InK]; omega
theorem small_lt {a b : Fr} (ha : smallF a) (hb : smallF b) : InK .i64 (a.n * b.d) ∧ InK .i64 (b.n * a.d) := by
  have ⟨⟨⟨a1, a2⟩, a3, a4⟩, _⟩ := ha
  have ⟨⟨⟨b1, b2⟩, b3, b4⟩, _⟩ := hb
  exact ⟨InK_mul (A := 100100) (B := 100) (by omega) (by omega) (by omega) (by omega) (by omega) (by omega), InK_mul (A := 100100) (B := 100) (by omega) (by omega) (by omega) (by omega) (by omega) (by omega)⟩
theorem uni_lt {a b : Fr} (u : Uni a b) : lt a b := by
  have h := u.one
  have h1 : a.n * b.d = a.n * b.d := rfl
  unfold lt; omega
theorem c9 (num den step more other : Int) (h0 : 0 ≤ num ∧ num < 4294967296) (h1 : 0 ≤ den ∧ den < 4294967296) (h2 : 0 ≤ step ∧ step < 256) (h3 : 0 ≤ more ∧ more < 256) (h4 : 0 ≤ other ∧ other < 256) (lo hi : Fr) : Contract Try.prog 9 [U32 num, U32 den, U8 step, U8 more, U8 other, fsv lo, fsv hi] (B true) := by
  refine contract_of Try.func9 rfl (by kernel_rfl) follows (by kernel_rfl) _ _ (by rw [Try.ntmps9]; simp) (by simp only [OldL, fsv_old, and_self, true_and, and_true]; simp [Old, U32, U8]) ?_
  have ⟨n0, n1⟩ : 0 ≤ step.tmod 100 ∧ step.tmod 100 < 100 := ⟨Int.tmod_nonneg _ h2.1, Int.tmod_lt_of_pos _ (by omega)⟩
  have ⟨m0, m1⟩ : 0 ≤ more.tmod 20 ∧ more.tmod 20 < 20 := ⟨Int.tmod_nonneg _ h3.1, Int.tmod_lt_of_pos _ (by omega)⟩
  have hF := frac_isF h0.1 h1.1
  have c47' := c47 num den h0 h1
  generalize fracV num den = r at *
  have ⟨⟨d1, d2⟩, r1, r2⟩ := hF
  obtain ⟨sm, es⟩ : ∃ x, step.tmod 100 = x := ⟨_, rfl⟩
  obtain ⟨mm, em⟩ : ∃ x, more.tmod 20 = x := ⟨_, rfl⟩
  rw [es] at n0 n1
  rw [em] at m0 m1
  have ⟨o0, o1⟩ : 0 ≤ other.tmod (1 + sm) ∧ other.tmod (1 + sm) < 1 + sm := ⟨Int.tmod_nonneg _ h4.1, Int.tmod_lt_of_pos _ (by omega)⟩
  obtain ⟨om, eo⟩ : ∃ x, other.tmod (1 + sm) = x := ⟨_, rfl⟩
  rw [eo] at o0 o1
  have rq0 : 0 ≤ r.n * (1 + om) := Int.mul_nonneg r1 (by omega)
  have iq : InK .i64 (r.n * (1 + om)) := InK_mul (A := 1000000000) (B := 100) (by omega) (by omega) (by omega) (by omega) (by omega) (by omega)
  have ⟨p0, p1⟩ : 0 ≤ (r.n * (1 + om)).tdiv r.d ∧ (r.n * (1 + om)).tdiv r.d ≤ 1000 * (1 + om) := by
    have ⟨t0, t1, t2⟩ := tdiv_spec rq0 (show 0 < r.d by omega)
    refine ⟨t0, Int.le_of_mul_le_mul_left (a := r.d) ?_ (by omega)⟩
    have : r.n * (1 + om) ≤ 1000 * r.d * (1 + om) := Int.mul_le_mul_of_nonneg_right (by omega) (by omega)
    have e1 : r.d * (1000 * (1 + om)) = 1000 * r.d * (1 + om) := by grind
    have e2 : r.d * (r.n * (1 + om)).tdiv r.d = (r.n * (1 + om)).tdiv r.d * r.d := Int.mul_comm _ _
    omega
  obtain ⟨pp, ep⟩ : ∃ x, (r.n * (1 + om)).tdiv r.d = x := ⟨_, rfl⟩
  rw [ep] at p0 p1
  have ha : askV r (1 + sm) = 0 := ask_iff.2 ⟨hF, by omega, by omega⟩
  unfold B
  conv => arg 4; unfold U32 U8 fsv I
  (repeat' (first | with_reducible refine splitVC_d (fun _ => ?_) (fun _ => ?_) | with_reducible refine splitVC (fun _ => ?_) (fun _ => ?_) | ((with_reducible refine And.intro ?_ ?_); focus (first | exact True.intro | (simp only [InK]; omega) | omega | (simp only [InK, ne_eq, and_true, true_and]; omega) | trivial)) | (simp -dsimp only [↓RP, RQ, implies_true, forall_const, Nat.reduceMul, reduceIte, reduceCtorEq, Nat.reduceAdd, Nat.reduceEqDiff, Nat.reduceLT, Nat.reduceLeDiff, Int.reduceEq, Int.reduceNeg, RZ, eq_self, eq23, TYx, es, em, eo, ep, fsv, B, I, by2, TY, Try.results9])))
  refine callVC c47' ?_ ?_ ?_; iterate 2 focus ((simp -dsimp only [↓RP, RQ, implies_true, forall_const, Nat.reduceMul, reduceIte, reduceCtorEq, Nat.reduceAdd, Nat.reduceEqDiff, Nat.reduceLT, Nat.reduceLeDiff, fsv, Go.Od.ints, U32, U8, I, B]); all_goals (try simp))
  (repeat' (first | with_reducible refine splitVC_d (fun _ => ?_) (fun _ => ?_) | with_reducible refine splitVC (fun _ => ?_) (fun _ => ?_) | ((with_reducible refine And.intro ?_ ?_); focus (first | exact True.intro | (simp only [InK]; omega) | omega | (simp only [InK, ne_eq, and_true, true_and]; omega) | trivial)) | (simp -dsimp only [↓RP, RQ, implies_true, forall_const, Nat.reduceMul, reduceIte, reduceCtorEq, Nat.reduceAdd, Nat.reduceEqDiff, Nat.reduceLT, Nat.reduceLeDiff, Int.reduceEq, Int.reduceNeg, RZ, eq_self, eq23, TYx, es, em, eo, ep, fsv, B, I, by2, TY, Try.results9])))
  obtain ⟨nm, enm⟩ : ∃ x, min 100 (1 + sm + mm) = x := ⟨_, rfl⟩
  have hb : askV r nm = 0 := ask_iff.2 ⟨hF, by omega, by omega⟩
  have c16a := c16 r (1 + sm)
  have c16b := c16 r nm
  have c18 := c18 r (1 + sm)
  rw [nearV_ok ha] at c16a
  rw [nearV_ok hb] at c16b
  rw [rndV_ok ha] at c18
  have ⟨sa, sb⟩ := nb_small ha
  have ⟨sc, sd⟩ := nb_small hb
  have k48a := ctB (c48 _) sa
  have k48b := ctB (c48 _) sb
  have k48c := ctB (c48 _) sc
  have k48d := ctB (c48 _) sd
  have k20 := c20 r (1 + sm) (nb r (1 + sm)).1 (nb r (1 + sm)).2
  have k21 := c21 r (1 + sm) (nb r (1 + sm)).1 (nb r (1 + sm)).2
  rw [nb_ck ha] at k20 k21
  have ⟨m1, m2⟩ := nb_more r1 (show 0 < r.d by omega) (show 1 ≤ 1 + sm by omega) (show 1 + sm ≤ nm by omega)
  have k49a := cfB (c49 _ _ (small_lt sc sa).1 (small_lt sc sa).2) m1
  have k49b := cfB (c49 _ _ (small_lt sb sd).1 (small_lt sb sd).2) m2
  have hmid := mid_one r (nb r (1 + sm)).1 (nb r (1 + sm)).2
  have kn : ∀ y, lt (nb r (1 + sm)).1 y → lt y (nb r (1 + sm)).2 → 1 + sm < y.d := fun y => nb_none r1 (show 0 < r.d by omega) (show 1 ≤ 1 + sm by omega)
  have kc := ck_nb (lo := lo) (hi := hi) ha
  have c20' := c20 r (1 + sm) lo hi
  have hab := uni_lt (nb_cl r (1 + sm) r1 (show 0 < r.d by omega) (by omega)).1.u
  generalize midV r (nb r (1 + sm)).1 (nb r (1 + sm)).2 = x at *
  generalize (nb r (1 + sm)).1 = a at *
  generalize (nb r (1 + sm)).2 = b at *
  generalize (nb r nm).1 = c at *
  generalize (nb r nm).2 = d at *
  have ab : ¬ (b.n = a.n ∧ b.d = a.d) := by
    intro h
    have := hab
    unfold lt at this
    rw [h.1, h.2] at this
    omega
  have ab' : (decide (b.n = a.n) && decide (b.d = a.d)) = false := by rw [← Bool.decide_and]; exact decide_eq_false ab
  clear hF ha hb sc sd m1 m2 hab
  have hc : ∀ y, Contract Try.prog 22 [] y → True := fun _ _ => trivial
  refine callVC c16a ?_ ?_ ?_; iterate 2 focus ((simp -dsimp only [↓RP, RQ, implies_true, forall_const, Nat.reduceMul, reduceIte, reduceCtorEq, Nat.reduceAdd, Nat.reduceEqDiff, Nat.reduceLT, Nat.reduceLeDiff, fsv, Go.Od.ints, U32, U8, I, B]); all_goals (try simp))
  (repeat' (first | with_reducible refine splitVC_d (fun _ => ?_) (fun _ => ?_) | with_reducible refine splitVC (fun _ => ?_) (fun _ => ?_) | ((with_reducible refine And.intro ?_ ?_); focus (first | exact True.intro | (simp only [InK]; omega) | omega | (simp only [InK, ne_eq, and_true, true_and]; omega) | trivial)) | (simp -dsimp only [↓RP, RQ, implies_true, forall_const, Nat.reduceMul, reduceIte, reduceCtorEq, Nat.reduceAdd, Nat.reduceEqDiff, Nat.reduceLT, Nat.reduceLeDiff, enm, Int.reduceEq, Int.reduceNeg, RZ, eq_self, eq23, TYx, es, em, eo, ep, fsv, B, I, by2, TY, Try.results9])))
  refine callVC c16b ?_ ?_ ?_; iterate 2 focus ((simp -dsimp only [↓RP, RQ, implies_true, forall_const, Nat.reduceMul, reduceIte, reduceCtorEq, Nat.reduceAdd, Nat.reduceEqDiff, Nat.reduceLT, Nat.reduceLeDiff, fsv, Go.Od.ints, U32, U8, I, B]); all_goals (try simp))
  (repeat' (first | with_reducible refine splitVC_d (fun _ => ?_) (fun _ => ?_) | with_reducible refine splitVC (fun _ => ?_) (fun _ => ?_) | ((with_reducible refine And.intro ?_ ?_); focus (first | exact True.intro | (simp only [InK]; omega) | omega | (simp only [InK, ne_eq, and_true, true_and]; omega) | trivial)) | (simp -dsimp only [↓RP, RQ, implies_true, forall_const, Nat.reduceMul, reduceIte, reduceCtorEq, Nat.reduceAdd, Nat.reduceEqDiff, Nat.reduceLT, Nat.reduceLeDiff, enm, Int.reduceEq, Int.reduceNeg, RZ, eq_self, eq23, TYx, es, em, eo, ep, fsv, B, I, by2, TY, Try.results9])))
  rcases hmid with rfl | rfl
  · skip
    refine callVC c18 ?_ ?_ ?_; iterate 2 focus ((simp -dsimp only [↓RP, RQ, implies_true, forall_const, Nat.reduceMul, reduceIte, reduceCtorEq, Nat.reduceAdd, Nat.reduceEqDiff, Nat.reduceLT, Nat.reduceLeDiff, fsv, Go.Od.ints, U32, U8, I, B]); all_goals (try simp))
    (repeat' (first | with_reducible refine splitVC_d (fun _ => ?_) (fun _ => ?_) | with_reducible refine splitVC (fun _ => ?_) (fun _ => ?_) | ((with_reducible refine And.intro ?_ ?_); focus (first | exact True.intro | (simp only [InK]; omega) | omega | (simp only [InK, ne_eq, and_true, true_and]; omega) | trivial)) | (simp -dsimp only [↓RP, RQ, implies_true, forall_const, Nat.reduceMul, reduceIte, reduceCtorEq, Nat.reduceAdd, Nat.reduceEqDiff, Nat.reduceLT, Nat.reduceLeDiff, enm, iq, ab', Int.reduceEq, Int.reduceNeg, RZ, eq_self, eq23, TYx, es, em, eo, ep, fsv, B, I, by2, TY, Try.results9])))
    refine callVC k48a ?_ ?_ ?_; iterate 2 focus ((simp -dsimp only [↓RP, RQ, implies_true, forall_const, Nat.reduceMul, reduceIte, reduceCtorEq, Nat.reduceAdd, Nat.reduceEqDiff, Nat.reduceLT, Nat.reduceLeDiff, fsv, Go.Od.ints, U32, U8, I, B]); all_goals (try simp))
    (repeat' (first | with_reducible refine splitVC_d (fun _ => ?_) (fun _ => ?_) | with_reducible refine splitVC (fun _ => ?_) (fun _ => ?_) | ((with_reducible refine And.intro ?_ ?_); focus (first | exact True.intro | (simp only [InK]; omega) | omega | (simp only [InK, ne_eq, and_true, true_and]; omega) | trivial)) | (simp -dsimp only [↓RP, RQ, implies_true, forall_const, Nat.reduceMul, reduceIte, reduceCtorEq, Nat.reduceAdd, Nat.reduceEqDiff, Nat.reduceLT, Nat.reduceLeDiff, enm, iq, ab', Int.reduceEq, Int.reduceNeg, RZ, eq_self, eq23, TYx, es, em, eo, ep, fsv, B, I, by2, TY, Try.results9])))
    refine callVC k48b ?_ ?_ ?_; iterate 2 focus ((simp -dsimp only [↓RP, RQ, implies_true, forall_const, Nat.reduceMul, reduceIte, reduceCtorEq, Nat.reduceAdd, Nat.reduceEqDiff, Nat.reduceLT, Nat.reduceLeDiff, fsv, Go.Od.ints, U32, U8, I, B]); all_goals (try simp))
    (repeat' (first | with_reducible refine splitVC_d (fun _ => ?_) (fun _ => ?_) | with_reducible refine splitVC (fun _ => ?_) (fun _ => ?_) | ((with_reducible refine And.intro ?_ ?_); focus (first | exact True.intro | (simp only [InK]; omega) | omega | (simp only [InK, ne_eq, and_true, true_and]; omega) | trivial)) | (simp -dsimp only [↓RP, RQ, implies_true, forall_const, Nat.reduceMul, reduceIte, reduceCtorEq, Nat.reduceAdd, Nat.reduceEqDiff, Nat.reduceLT, Nat.reduceLeDiff, enm, iq, ab', Int.reduceEq, Int.reduceNeg, RZ, eq_self, eq23, TYx, es, em, eo, ep, fsv, B, I, by2, TY, Try.results9])))
    refine callVC k48c ?_ ?_ ?_; iterate 2 focus ((simp -dsimp only [↓RP, RQ, implies_true, forall_const, Nat.reduceMul, reduceIte, reduceCtorEq, Nat.reduceAdd, Nat.reduceEqDiff, Nat.reduceLT, Nat.reduceLeDiff, fsv, Go.Od.ints, U32, U8, I, B]); all_goals (try simp))
    (repeat' (first | with_reducible refine splitVC_d (fun _ => ?_) (fun _ => ?_) | with_reducible refine splitVC (fun _ => ?_) (fun _ => ?_) | ((with_reducible refine And.intro ?_ ?_); focus (first | exact True.intro | (simp only [InK]; omega) | omega | (simp only [InK, ne_eq, and_true, true_and]; omega) | trivial)) | (simp -dsimp only [↓RP, RQ, implies_true, forall_const, Nat.reduceMul, reduceIte, reduceCtorEq, Nat.reduceAdd, Nat.reduceEqDiff, Nat.reduceLT, Nat.reduceLeDiff, enm, iq, ab', Int.reduceEq, Int.reduceNeg, RZ, eq_self, eq23, TYx, es, em, eo, ep, fsv, B, I, by2, TY, Try.results9])))
    refine callVC k48d ?_ ?_ ?_; iterate 2 focus ((simp -dsimp only [↓RP, RQ, implies_true, forall_const, Nat.reduceMul, reduceIte, reduceCtorEq, Nat.reduceAdd, Nat.reduceEqDiff, Nat.reduceLT, Nat.reduceLeDiff, fsv, Go.Od.ints, U32, U8, I, B]); all_goals (try simp))
    (repeat' (first | with_reducible refine splitVC_d (fun _ => ?_) (fun _ => ?_) | with_reducible refine splitVC (fun _ => ?_) (fun _ => ?_) | ((with_reducible refine And.intro ?_ ?_); focus (first | exact True.intro | (simp only [InK]; omega) | omega | (simp only [InK, ne_eq, and_true, true_and]; omega) | trivial)) | (simp -dsimp only [↓RP, RQ, implies_true, forall_const, Nat.reduceMul, reduceIte, reduceCtorEq, Nat.reduceAdd, Nat.reduceEqDiff, Nat.reduceLT, Nat.reduceLeDiff, enm, iq, ab', Int.reduceEq, Int.reduceNeg, RZ, eq_self, eq23, TYx, es, em, eo, ep, fsv, B, I, by2, TY, Try.results9])))
    refine callVC k20 ?_ ?_ ?_; iterate 2 focus ((simp -dsimp only [↓RP, RQ, implies_true, forall_const, Nat.reduceMul, reduceIte, reduceCtorEq, Nat.reduceAdd, Nat.reduceEqDiff, Nat.reduceLT, Nat.reduceLeDiff, fsv, Go.Od.ints, U32, U8, I, B]); all_goals (try simp))
    (repeat' (first | with_reducible refine splitVC_d (fun _ => ?_) (fun _ => ?_) | with_reducible refine splitVC (fun _ => ?_) (fun _ => ?_) | ((with_reducible refine And.intro ?_ ?_); focus (first | exact True.intro | (simp only [InK]; omega) | omega | (simp only [InK, ne_eq, and_true, true_and]; omega) | trivial)) | (simp -dsimp only [↓RP, RQ, implies_true, forall_const, Nat.reduceMul, reduceIte, reduceCtorEq, Nat.reduceAdd, Nat.reduceEqDiff, Nat.reduceLT, Nat.reduceLeDiff, enm, iq, ab', Int.reduceEq, Int.reduceNeg, RZ, eq_self, eq23, TYx, es, em, eo, ep, fsv, B, I, by2, TY, Try.results9])))
    refine callVC k21 ?_ ?_ ?_; iterate 2 focus ((simp -dsimp only [↓RP, RQ, implies_true, forall_const, Nat.reduceMul, reduceIte, reduceCtorEq, Nat.reduceAdd, Nat.reduceEqDiff, Nat.reduceLT, Nat.reduceLeDiff, fsv, Go.Od.ints, U32, U8, I, B]); all_goals (try simp))
    (repeat' (first | with_reducible refine splitVC_d (fun _ => ?_) (fun _ => ?_) | with_reducible refine splitVC (fun _ => ?_) (fun _ => ?_) | ((with_reducible refine And.intro ?_ ?_); focus (first | exact True.intro | (simp only [InK]; omega) | omega | (simp only [InK, ne_eq, and_true, true_and]; omega) | trivial)) | (simp -dsimp only [↓RP, RQ, implies_true, forall_const, Nat.reduceMul, reduceIte, reduceCtorEq, Nat.reduceAdd, Nat.reduceEqDiff, Nat.reduceLT, Nat.reduceLeDiff, enm, iq, ab', Int.reduceEq, Int.reduceNeg, RZ, eq_self, eq23, TYx, es, em, eo, ep, fsv, B, I, by2, TY, Try.results9])))
    refine callVC k49a ?_ ?_ ?_; iterate 2 focus ((simp -dsimp only [↓RP, RQ, implies_true, forall_const, Nat.reduceMul, reduceIte, reduceCtorEq, Nat.reduceAdd, Nat.reduceEqDiff, Nat.reduceLT, Nat.reduceLeDiff, fsv, Go.Od.ints, U32, U8, I, B]); all_goals (try simp))
    (repeat' (first | with_reducible refine splitVC_d (fun _ => ?_) (fun _ => ?_) | with_reducible refine splitVC (fun _ => ?_) (fun _ => ?_) | ((with_reducible refine And.intro ?_ ?_); focus (first | exact True.intro | (simp only [InK]; omega) | omega | (simp only [InK, ne_eq, and_true, true_and]; omega) | trivial)) | (simp -dsimp only [↓RP, RQ, implies_true, forall_const, Nat.reduceMul, reduceIte, reduceCtorEq, Nat.reduceAdd, Nat.reduceEqDiff, Nat.reduceLT, Nat.reduceLeDiff, enm, iq, ab', Int.reduceEq, Int.reduceNeg, RZ, eq_self, eq23, TYx, es, em, eo, ep, fsv, B, I, by2, TY, Try.results9])))
    refine callVC k49b ?_ ?_ ?_; iterate 2 focus ((simp -dsimp only [↓RP, RQ, implies_true, forall_const, Nat.reduceMul, reduceIte, reduceCtorEq, Nat.reduceAdd, Nat.reduceEqDiff, Nat.reduceLT, Nat.reduceLeDiff, fsv, Go.Od.ints, U32, U8, I, B]); all_goals (try simp))
    (repeat' (first | with_reducible refine splitVC_d (fun _ => ?_) (fun _ => ?_) | with_reducible refine splitVC (fun _ => ?_) (fun _ => ?_) | ((with_reducible refine And.intro ?_ ?_); focus (first | exact True.intro | (simp only [InK]; omega) | omega | (simp only [InK, ne_eq, and_true, true_and]; omega) | trivial)) | (simp -dsimp only [↓RP, RQ, implies_true, forall_const, Nat.reduceMul, reduceIte, reduceCtorEq, Nat.reduceAdd, Nat.reduceEqDiff, Nat.reduceLT, Nat.reduceLeDiff, enm, iq, ab', Int.reduceEq, Int.reduceNeg, RZ, eq_self, eq23, TYx, es, em, eo, ep, fsv, B, I, by2, TY, Try.results9])))
    refine loop_vc (fun p : Int => pp - 1 ≤ p ∧ p ≤ pp + 3) (fun p => ⟨[(12, .ptr 0 0), (13, .ptr 1 0), (14, .val (.bool false)), (15, .ptr 6 0), (16, .val (.int .i64 (1 + sm))), (17, .ptr 20 0), (18, .ptr 21 0), (25, .val (.int .i64 (1 + om))), (26, .val (.int .i64 p))], [(21, .cells 23 [.val (.int .i64 b.n), .val (.int .i64 b.d)]), (20, .cells 23 [.val (.int .i64 x.n), .val (.int .i64 x.d)]), (6, .cells 23 [.val (.int .i64 r.n), .val (.int .i64 r.d)]), (1, .cells 23 [.val (.int .i64 hi.n), .val (.int .i64 hi.d)]), (0, .cells 23 [.val (.int .i64 lo.n), .val (.int .i64 lo.d)])], 22⟩) (fun p => (pp + 3 - p).toNat) (pp - 1) (by omega) (weak [] [] ?_ ?_ ?_) fun p hp => ?_
    · (simp -dsimp only [↓RP, RQ, implies_true, forall_const, Nat.reduceMul, reduceIte, reduceCtorEq, Nat.reduceAdd, Nat.reduceEqDiff, Nat.reduceLT, Nat.reduceLeDiff]); all_goals (try simp)
    · (simp -dsimp only [↓RP, RQ, implies_true, forall_const, Nat.reduceMul, reduceIte, reduceCtorEq, Nat.reduceAdd, Nat.reduceEqDiff, Nat.reduceLT, Nat.reduceLeDiff]); all_goals (try simp)
    · (simp -dsimp only [↓RP, RQ, implies_true, forall_const, Nat.reduceMul, reduceIte, reduceCtorEq, Nat.reduceAdd, Nat.reduceEqDiff, Nat.reduceLT, Nat.reduceLeDiff]); all_goals (try simp)
    by_cases hlt : p ≤ pp + 2
    · obtain ⟨h1, h2, h3, h4⟩ : InK .i64 (x.n * (1 + om)) ∧ InK .i64 (p * x.d) ∧ InK .i64 (b.n * (1 + om)) ∧ InK .i64 (p * b.d) := by
        have ⟨⟨⟨a1, a2⟩, a3, a4⟩, _⟩ := sa
        have ⟨⟨⟨b1, b2⟩, b3, b4⟩, _⟩ := sb
        exact ⟨InK_mul (A := 100100) (B := 100) (by omega) (by omega) (by omega) (by omega) (by omega) (by omega), InK_mul (A := 1000000) (B := 100) (by omega) (by omega) (by omega) (by omega) (by omega) (by omega), InK_mul (A := 100100) (B := 100) (by omega) (by omega) (by omega) (by omega) (by omega) (by omega), InK_mul (A := 1000000) (B := 100) (by omega) (by omega) (by omega) (by omega) (by omega) (by omega)⟩
      have j1 := c49 x ⟨p, 1 + om⟩ h1 h2
      have j2 := c49 ⟨p, 1 + om⟩ b h4 h3
      have j3 := kn ⟨p, 1 + om⟩
      clear h1 h2 h3 h4 sa sb
      (repeat' (first | with_reducible refine splitVC_d (fun _ => ?_) (fun _ => ?_) | with_reducible refine splitVC (fun _ => ?_) (fun _ => ?_) | ((with_reducible refine And.intro ?_ ?_); focus (first | exact True.intro | (simp only [InK]; omega) | omega | (simp only [InK, ne_eq, and_true, true_and]; omega) | trivial)) | (simp -dsimp only [↓RP, RQ, implies_true, forall_const, Nat.reduceMul, reduceIte, reduceCtorEq, Nat.reduceAdd, Nat.reduceEqDiff, Nat.reduceLT, Nat.reduceLeDiff, iq, Int.reduceEq, Int.reduceNeg, RZ, eq_self, eq23, TYx, es, em, eo, ep, fsv, B, I, by2, TY, Try.results9])))
      refine callVC (c50 p (1 + om)) ?_ ?_ ?_; iterate 2 focus ((simp -dsimp only [↓RP, RQ, implies_true, forall_const, Nat.reduceMul, reduceIte, reduceCtorEq, Nat.reduceAdd, Nat.reduceEqDiff, Nat.reduceLT, Nat.reduceLeDiff, fsv, Go.Od.ints, U32, U8, I, B]); all_goals (try simp))
      (repeat' (first | with_reducible refine splitVC_d (fun _ => ?_) (fun _ => ?_) | with_reducible refine splitVC (fun _ => ?_) (fun _ => ?_) | ((with_reducible refine And.intro ?_ ?_); focus (first | exact True.intro | (simp only [InK]; omega) | omega | (simp only [InK, ne_eq, and_true, true_and]; omega) | trivial)) | (simp -dsimp only [↓RP, RQ, implies_true, forall_const, Nat.reduceMul, reduceIte, reduceCtorEq, Nat.reduceAdd, Nat.reduceEqDiff, Nat.reduceLT, Nat.reduceLeDiff, iq, Int.reduceEq, Int.reduceNeg, RZ, eq_self, eq23, TYx, es, em, eo, ep, fsv, B, I, by2, TY, Try.results9])))
      refine callVC j1 ?_ ?_ ?_; iterate 2 focus ((simp -dsimp only [↓RP, RQ, implies_true, forall_const, Nat.reduceMul, reduceIte, reduceCtorEq, Nat.reduceAdd, Nat.reduceEqDiff, Nat.reduceLT, Nat.reduceLeDiff, fsv, Go.Od.ints, U32, U8, I, B]); all_goals (try simp))
      (repeat' (first | with_reducible refine splitVC_d (fun _ => ?_) (fun _ => ?_) | with_reducible refine splitVC (fun _ => ?_) (fun _ => ?_) | ((with_reducible refine And.intro ?_ ?_); focus (first | exact True.intro | (simp only [InK]; omega) | omega | (simp only [InK, ne_eq, and_true, true_and]; omega) | trivial)) | (simp -dsimp only [↓RP, RQ, implies_true, forall_const, Nat.reduceMul, reduceIte, reduceCtorEq, Nat.reduceAdd, Nat.reduceEqDiff, Nat.reduceLT, Nat.reduceLeDiff, iq, Int.reduceEq, Int.reduceNeg, RZ, eq_self, eq23, TYx, es, em, eo, ep, fsv, B, I, by2, TY, Try.results9])))
      all_goals first | (exfalso; omega) | skip
      · refine callVC j2 ?_ ?_ ?_; iterate 2 focus ((simp -dsimp only [↓RP, RQ, implies_true, forall_const, Nat.reduceMul, reduceIte, reduceCtorEq, Nat.reduceAdd, Nat.reduceEqDiff, Nat.reduceLT, Nat.reduceLeDiff, fsv, Go.Od.ints, U32, U8, I, B]); all_goals (try simp))
        (repeat' (first | with_reducible refine splitVC_d (fun _ => ?_) (fun _ => ?_) | with_reducible refine splitVC (fun _ => ?_) (fun _ => ?_) | ((with_reducible refine And.intro ?_ ?_); focus (first | exact True.intro | (simp only [InK]; omega) | omega | (simp only [InK, ne_eq, and_true, true_and]; omega) | trivial)) | (simp -dsimp only [↓RP, RQ, implies_true, forall_const, Nat.reduceMul, reduceIte, reduceCtorEq, Nat.reduceAdd, Nat.reduceEqDiff, Nat.reduceLT, Nat.reduceLeDiff, iq, Int.reduceEq, Int.reduceNeg, RZ, eq_self, eq23, TYx, es, em, eo, ep, fsv, B, I, by2, TY, Try.results9])))
        · have := j3 (by assumption) (by assumption)
          exfalso
          have : 1 + sm < 1 + om := this
          omega
        · refine ⟨p + 1, by omega, by omega, weak [] [] ?_ ?_ ?_⟩
          all_goals ((simp -dsimp only [↓RP, RQ, implies_true, forall_const, Nat.reduceMul, reduceIte, reduceCtorEq, Nat.reduceAdd, Nat.reduceEqDiff, Nat.reduceLT, Nat.reduceLeDiff]); all_goals (try simp))
      · refine ⟨p + 1, by omega, by omega, weak [] [] ?_ ?_ ?_⟩
        all_goals ((simp -dsimp only [↓RP, RQ, implies_true, forall_const, Nat.reduceMul, reduceIte, reduceCtorEq, Nat.reduceAdd, Nat.reduceEqDiff, Nat.reduceLT, Nat.reduceLeDiff]); all_goals (try simp))
      · refine ⟨p + 1, by omega, by omega, weak [] [] ?_ ?_ ?_⟩
        all_goals ((simp -dsimp only [↓RP, RQ, implies_true, forall_const, Nat.reduceMul, reduceIte, reduceCtorEq, Nat.reduceAdd, Nat.reduceEqDiff, Nat.reduceLT, Nat.reduceLeDiff]); all_goals (try simp))
    · (repeat' (first | with_reducible refine splitVC_d (fun _ => ?_) (fun _ => ?_) | with_reducible refine splitVC (fun _ => ?_) (fun _ => ?_) | ((with_reducible refine And.intro ?_ ?_); focus (first | exact True.intro | (simp only [InK]; omega) | omega | (simp only [InK, ne_eq, and_true, true_and]; omega) | trivial)) | (simp -dsimp only [↓RP, RQ, implies_true, forall_const, Nat.reduceMul, reduceIte, reduceCtorEq, Nat.reduceAdd, Nat.reduceEqDiff, Nat.reduceLT, Nat.reduceLeDiff, iq, Int.reduceEq, Int.reduceNeg, RZ, eq_self, eq23, TYx, es, em, eo, ep, fsv, B, I, by2, TY, Try.results9])))
      all_goals first | (exfalso; omega) | skip
      by_cases hk : ckV r (1 + sm) lo hi = 0
      · have ⟨e1, e2⟩ := kc hk
        subst e1 e2
        rw [hk] at c20'
        refine callVC c20' ?_ ?_ ?_; iterate 2 focus ((simp -dsimp only [↓RP, RQ, implies_true, forall_const, Nat.reduceMul, reduceIte, reduceCtorEq, Nat.reduceAdd, Nat.reduceEqDiff, Nat.reduceLT, Nat.reduceLeDiff, fsv, Go.Od.ints, U32, U8, I, B]); all_goals (try simp))
        (repeat' (first | with_reducible refine splitVC_d (fun _ => ?_) (fun _ => ?_) | with_reducible refine splitVC (fun _ => ?_) (fun _ => ?_) | ((with_reducible refine And.intro ?_ ?_); focus (first | exact True.intro | (simp only [InK]; omega) | omega | (simp only [InK, ne_eq, and_true, true_and]; omega) | trivial)) | (simp -dsimp only [↓RP, RQ, implies_true, forall_const, Nat.reduceMul, reduceIte, reduceCtorEq, Nat.reduceAdd, Nat.reduceEqDiff, Nat.reduceLT, Nat.reduceLeDiff, iq, Int.reduceEq, Int.reduceNeg, RZ, eq_self, eq23, TYx, es, em, eo, ep, fsv, B, I, by2, TY, Try.results9])))
        refine callVC c22 ?_ ?_ ?_; iterate 2 focus ((simp -dsimp only [↓RP, RQ, implies_true, forall_const, Nat.reduceMul, reduceIte, reduceCtorEq, Nat.reduceAdd, Nat.reduceEqDiff, Nat.reduceLT, Nat.reduceLeDiff, fsv, Go.Od.ints, U32, U8, I, B]); all_goals (try simp))
        (repeat' (first | with_reducible refine splitVC_d (fun _ => ?_) (fun _ => ?_) | with_reducible refine splitVC (fun _ => ?_) (fun _ => ?_) | ((with_reducible refine And.intro ?_ ?_); focus (first | exact True.intro | (simp only [InK]; omega) | omega | (simp only [InK, ne_eq, and_true, true_and]; omega) | trivial)) | (simp -dsimp only [↓RP, RQ, implies_true, forall_const, Nat.reduceMul, reduceIte, reduceCtorEq, Nat.reduceAdd, Nat.reduceEqDiff, Nat.reduceLT, Nat.reduceLeDiff, iq, Int.reduceEq, Int.reduceNeg, RZ, eq_self, eq23, TYx, es, em, eo, ep, fsv, B, I, by2, TY, Try.results9])))
        all_goals trace_state
      · skip
        refine callVC c20' ?_ ?_ ?_; iterate 2 focus ((simp -dsimp only [↓RP, RQ, implies_true, forall_const, Nat.reduceMul, reduceIte, reduceCtorEq, Nat.reduceAdd, Nat.reduceEqDiff, Nat.reduceLT, Nat.reduceLeDiff, fsv, Go.Od.ints, U32, U8, I, B]); all_goals (try simp))
        (repeat' (first | with_reducible refine splitVC_d (fun _ => ?_) (fun _ => ?_) | with_reducible refine splitVC (fun _ => ?_) (fun _ => ?_) | ((with_reducible refine And.intro ?_ ?_); focus (first | exact True.intro | (simp only [InK]; omega) | omega | (simp only [InK, ne_eq, and_true, true_and]; omega) | trivial)) | (simp -dsimp only [↓RP, RQ, implies_true, forall_const, Nat.reduceMul, reduceIte, reduceCtorEq, Nat.reduceAdd, Nat.reduceEqDiff, Nat.reduceLT, Nat.reduceLeDiff, iq, hk, Int.reduceEq, Int.reduceNeg, RZ, eq_self, eq23, TYx, es, em, eo, ep, fsv, B, I, by2, TY, Try.results9])))
        refine callVC c22 ?_ ?_ ?_; iterate 2 focus ((simp -dsimp only [↓RP, RQ, implies_true, forall_const, Nat.reduceMul, reduceIte, reduceCtorEq, Nat.reduceAdd, Nat.reduceEqDiff, Nat.reduceLT, Nat.reduceLeDiff, fsv, Go.Od.ints, U32, U8, I, B]); all_goals (try simp))
        (repeat' (first | with_reducible refine splitVC_d (fun _ => ?_) (fun _ => ?_) | with_reducible refine splitVC (fun _ => ?_) (fun _ => ?_) | ((with_reducible refine And.intro ?_ ?_); focus (first | exact True.intro | (simp only [InK]; omega) | omega | (simp only [InK, ne_eq, and_true, true_and]; omega) | trivial)) | (simp -dsimp only [↓RP, RQ, implies_true, forall_const, Nat.reduceMul, reduceIte, reduceCtorEq, Nat.reduceAdd, Nat.reduceEqDiff, Nat.reduceLT, Nat.reduceLeDiff, iq, hk, Int.reduceEq, Int.reduceNeg, RZ, eq_self, eq23, TYx, es, em, eo, ep, fsv, B, I, by2, TY, Try.results9])))
        all_goals trace_state
  · skip
    refine callVC c18 ?_ ?_ ?_; iterate 2 focus ((simp -dsimp only [↓RP, RQ, implies_true, forall_const, Nat.reduceMul, reduceIte, reduceCtorEq, Nat.reduceAdd, Nat.reduceEqDiff, Nat.reduceLT, Nat.reduceLeDiff, fsv, Go.Od.ints, U32, U8, I, B]); all_goals (try simp))
    (repeat' (first | with_reducible refine splitVC_d (fun _ => ?_) (fun _ => ?_) | with_reducible refine splitVC (fun _ => ?_) (fun _ => ?_) | ((with_reducible refine And.intro ?_ ?_); focus (first | exact True.intro | (simp only [InK]; omega) | omega | (simp only [InK, ne_eq, and_true, true_and]; omega) | trivial)) | (simp -dsimp only [↓RP, RQ, implies_true, forall_const, Nat.reduceMul, reduceIte, reduceCtorEq, Nat.reduceAdd, Nat.reduceEqDiff, Nat.reduceLT, Nat.reduceLeDiff, enm, iq, ab', Int.reduceEq, Int.reduceNeg, RZ, eq_self, eq23, TYx, es, em, eo, ep, fsv, B, I, by2, TY, Try.results9])))
    refine callVC k48a ?_ ?_ ?_; iterate 2 focus ((simp -dsimp only [↓RP, RQ, implies_true, forall_const, Nat.reduceMul, reduceIte, reduceCtorEq, Nat.reduceAdd, Nat.reduceEqDiff, Nat.reduceLT, Nat.reduceLeDiff, fsv, Go.Od.ints, U32, U8, I, B]); all_goals (try simp))
    (repeat' (first | with_reducible refine splitVC_d (fun _ => ?_) (fun _ => ?_) | with_reducible refine splitVC (fun _ => ?_) (fun _ => ?_) | ((with_reducible refine And.intro ?_ ?_); focus (first | exact True.intro | (simp only [InK]; omega) | omega | (simp only [InK, ne_eq, and_true, true_and]; omega) | trivial)) | (simp -dsimp only [↓RP, RQ, implies_true, forall_const, Nat.reduceMul, reduceIte, reduceCtorEq, Nat.reduceAdd, Nat.reduceEqDiff, Nat.reduceLT, Nat.reduceLeDiff, enm, iq, ab', Int.reduceEq, Int.reduceNeg, RZ, eq_self, eq23, TYx, es, em, eo, ep, fsv, B, I, by2, TY, Try.results9])))
    refine callVC k48b ?_ ?_ ?_; iterate 2 focus ((simp -dsimp only [↓RP, RQ, implies_true, forall_const, Nat.reduceMul, reduceIte, reduceCtorEq, Nat.reduceAdd, Nat.reduceEqDiff, Nat.reduceLT, Nat.reduceLeDiff, fsv, Go.Od.ints, U32, U8, I, B]); all_goals (try simp))
    (repeat' (first | with_reducible refine splitVC_d (fun _ => ?_) (fun _ => ?_) | with_reducible refine splitVC (fun _ => ?_) (fun _ => ?_) | ((with_reducible refine And.intro ?_ ?_); focus (first | exact True.intro | (simp only [InK]; omega) | omega | (simp only [InK, ne_eq, and_true, true_and]; omega) | trivial)) | (simp -dsimp only [↓RP, RQ, implies_true, forall_const, Nat.reduceMul, reduceIte, reduceCtorEq, Nat.reduceAdd, Nat.reduceEqDiff, Nat.reduceLT, Nat.reduceLeDiff, enm, iq, ab', Int.reduceEq, Int.reduceNeg, RZ, eq_self, eq23, TYx, es, em, eo, ep, fsv, B, I, by2, TY, Try.results9])))
    refine callVC k48c ?_ ?_ ?_; iterate 2 focus ((simp -dsimp only [↓RP, RQ, implies_true, forall_const, Nat.reduceMul, reduceIte, reduceCtorEq, Nat.reduceAdd, Nat.reduceEqDiff, Nat.reduceLT, Nat.reduceLeDiff, fsv, Go.Od.ints, U32, U8, I, B]); all_goals (try simp))
    (repeat' (first | with_reducible refine splitVC_d (fun _ => ?_) (fun _ => ?_) | with_reducible refine splitVC (fun _ => ?_) (fun _ => ?_) | ((with_reducible refine And.intro ?_ ?_); focus (first | exact True.intro | (simp only [InK]; omega) | omega | (simp only [InK, ne_eq, and_true, true_and]; omega) | trivial)) | (simp -dsimp only [↓RP, RQ, implies_true, forall_const, Nat.reduceMul, reduceIte, reduceCtorEq, Nat.reduceAdd, Nat.reduceEqDiff, Nat.reduceLT, Nat.reduceLeDiff, enm, iq, ab', Int.reduceEq, Int.reduceNeg, RZ, eq_self, eq23, TYx, es, em, eo, ep, fsv, B, I, by2, TY, Try.results9])))
    refine callVC k48d ?_ ?_ ?_; iterate 2 focus ((simp -dsimp only [↓RP, RQ, implies_true, forall_const, Nat.reduceMul, reduceIte, reduceCtorEq, Nat.reduceAdd, Nat.reduceEqDiff, Nat.reduceLT, Nat.reduceLeDiff, fsv, Go.Od.ints, U32, U8, I, B]); all_goals (try simp))
    (repeat' (first | with_reducible refine splitVC_d (fun _ => ?_) (fun _ => ?_) | with_reducible refine splitVC (fun _ => ?_) (fun _ => ?_) | ((with_reducible refine And.intro ?_ ?_); focus (first | exact True.intro | (simp only [InK]; omega) | omega | (simp only [InK, ne_eq, and_true, true_and]; omega) | trivial)) | (simp -dsimp only [↓RP, RQ, implies_true, forall_const, Nat.reduceMul, reduceIte, reduceCtorEq, Nat.reduceAdd, Nat.reduceEqDiff, Nat.reduceLT, Nat.reduceLeDiff, enm, iq, ab', Int.reduceEq, Int.reduceNeg, RZ, eq_self, eq23, TYx, es, em, eo, ep, fsv, B, I, by2, TY, Try.results9])))
    refine callVC k20 ?_ ?_ ?_; iterate 2 focus ((simp -dsimp only [↓RP, RQ, implies_true, forall_const, Nat.reduceMul, reduceIte, reduceCtorEq, Nat.reduceAdd, Nat.reduceEqDiff, Nat.reduceLT, Nat.reduceLeDiff, fsv, Go.Od.ints, U32, U8, I, B]); all_goals (try simp))
    (repeat' (first | with_reducible refine splitVC_d (fun _ => ?_) (fun _ => ?_) | with_reducible refine splitVC (fun _ => ?_) (fun _ => ?_) | ((with_reducible refine And.intro ?_ ?_); focus (first | exact True.intro | (simp only [InK]; omega) | omega | (simp only [InK, ne_eq, and_true, true_and]; omega) | trivial)) | (simp -dsimp only [↓RP, RQ, implies_true, forall_const, Nat.reduceMul, reduceIte, reduceCtorEq, Nat.reduceAdd, Nat.reduceEqDiff, Nat.reduceLT, Nat.reduceLeDiff, enm, iq, ab', Int.reduceEq, Int.reduceNeg, RZ, eq_self, eq23, TYx, es, em, eo, ep, fsv, B, I, by2, TY, Try.results9])))
    refine callVC k21 ?_ ?_ ?_; iterate 2 focus ((simp -dsimp only [↓RP, RQ, implies_true, forall_const, Nat.reduceMul, reduceIte, reduceCtorEq, Nat.reduceAdd, Nat.reduceEqDiff, Nat.reduceLT, Nat.reduceLeDiff, fsv, Go.Od.ints, U32, U8, I, B]); all_goals (try simp))
    (repeat' (first | with_reducible refine splitVC_d (fun _ => ?_) (fun _ => ?_) | with_reducible refine splitVC (fun _ => ?_) (fun _ => ?_) | ((with_reducible refine And.intro ?_ ?_); focus (first | exact True.intro | (simp only [InK]; omega) | omega | (simp only [InK, ne_eq, and_true, true_and]; omega) | trivial)) | (simp -dsimp only [↓RP, RQ, implies_true, forall_const, Nat.reduceMul, reduceIte, reduceCtorEq, Nat.reduceAdd, Nat.reduceEqDiff, Nat.reduceLT, Nat.reduceLeDiff, enm, iq, ab', Int.reduceEq, Int.reduceNeg, RZ, eq_self, eq23, TYx, es, em, eo, ep, fsv, B, I, by2, TY, Try.results9])))
    refine callVC k49a ?_ ?_ ?_; iterate 2 focus ((simp -dsimp only [↓RP, RQ, implies_true, forall_const, Nat.reduceMul, reduceIte, reduceCtorEq, Nat.reduceAdd, Nat.reduceEqDiff, Nat.reduceLT, Nat.reduceLeDiff, fsv, Go.Od.ints, U32, U8, I, B]); all_goals (try simp))
    (repeat' (first | with_reducible refine splitVC_d (fun _ => ?_) (fun _ => ?_) | with_reducible refine splitVC (fun _ => ?_) (fun _ => ?_) | ((with_reducible refine And.intro ?_ ?_); focus (first | exact True.intro | (simp only [InK]; omega) | omega | (simp only [InK, ne_eq, and_true, true_and]; omega) | trivial)) | (simp -dsimp only [↓RP, RQ, implies_true, forall_const, Nat.reduceMul, reduceIte, reduceCtorEq, Nat.reduceAdd, Nat.reduceEqDiff, Nat.reduceLT, Nat.reduceLeDiff, enm, iq, ab', Int.reduceEq, Int.reduceNeg, RZ, eq_self, eq23, TYx, es, em, eo, ep, fsv, B, I, by2, TY, Try.results9])))
    refine callVC k49b ?_ ?_ ?_; iterate 2 focus ((simp -dsimp only [↓RP, RQ, implies_true, forall_const, Nat.reduceMul, reduceIte, reduceCtorEq, Nat.reduceAdd, Nat.reduceEqDiff, Nat.reduceLT, Nat.reduceLeDiff, fsv, Go.Od.ints, U32, U8, I, B]); all_goals (try simp))
    (repeat' (first | with_reducible refine splitVC_d (fun _ => ?_) (fun _ => ?_) | with_reducible refine splitVC (fun _ => ?_) (fun _ => ?_) | ((with_reducible refine And.intro ?_ ?_); focus (first | exact True.intro | (simp only [InK]; omega) | omega | (simp only [InK, ne_eq, and_true, true_and]; omega) | trivial)) | (simp -dsimp only [↓RP, RQ, implies_true, forall_const, Nat.reduceMul, reduceIte, reduceCtorEq, Nat.reduceAdd, Nat.reduceEqDiff, Nat.reduceLT, Nat.reduceLeDiff, enm, iq, ab', Int.reduceEq, Int.reduceNeg, RZ, eq_self, eq23, TYx, es, em, eo, ep, fsv, B, I, by2, TY, Try.results9])))
    refine loop_vc (fun p : Int => pp - 1 ≤ p ∧ p ≤ pp + 3) (fun p => ⟨[(12, .ptr 0 0), (13, .ptr 1 0), (14, .val (.bool false)), (15, .ptr 6 0), (16, .val (.int .i64 (1 + sm))), (17, .ptr 20 0), (18, .ptr 21 0), (25, .val (.int .i64 (1 + om))), (26, .val (.int .i64 p))], [(21, .cells 23 [.val (.int .i64 x.n), .val (.int .i64 x.d)]), (20, .cells 23 [.val (.int .i64 a.n), .val (.int .i64 a.d)]), (6, .cells 23 [.val (.int .i64 r.n), .val (.int .i64 r.d)]), (1, .cells 23 [.val (.int .i64 hi.n), .val (.int .i64 hi.d)]), (0, .cells 23 [.val (.int .i64 lo.n), .val (.int .i64 lo.d)])], 22⟩) (fun p => (pp + 3 - p).toNat) (pp - 1) (by omega) (weak [] [] ?_ ?_ ?_) fun p hp => ?_
    · (simp -dsimp only [↓RP, RQ, implies_true, forall_const, Nat.reduceMul, reduceIte, reduceCtorEq, Nat.reduceAdd, Nat.reduceEqDiff, Nat.reduceLT, Nat.reduceLeDiff]); all_goals (try simp)
    · (simp -dsimp only [↓RP, RQ, implies_true, forall_const, Nat.reduceMul, reduceIte, reduceCtorEq, Nat.reduceAdd, Nat.reduceEqDiff, Nat.reduceLT, Nat.reduceLeDiff]); all_goals (try simp)
    · (simp -dsimp only [↓RP, RQ, implies_true, forall_const, Nat.reduceMul, reduceIte, reduceCtorEq, Nat.reduceAdd, Nat.reduceEqDiff, Nat.reduceLT, Nat.reduceLeDiff]); all_goals (try simp)
    by_cases hlt : p ≤ pp + 2
    · obtain ⟨h1, h2, h3, h4⟩ : InK .i64 (a.n * (1 + om)) ∧ InK .i64 (p * a.d) ∧ InK .i64 (x.n * (1 + om)) ∧ InK .i64 (p * x.d) := by
        have ⟨⟨⟨a1, a2⟩, a3, a4⟩, _⟩ := sa
        have ⟨⟨⟨b1, b2⟩, b3, b4⟩, _⟩ := sb
        exact ⟨InK_mul (A := 100100) (B := 100) (by omega) (by omega) (by omega) (by omega) (by omega) (by omega), InK_mul (A := 1000000) (B := 100) (by omega) (by omega) (by omega) (by omega) (by omega) (by omega), InK_mul (A := 100100) (B := 100) (by omega) (by omega) (by omega) (by omega) (by omega) (by omega), InK_mul (A := 1000000) (B := 100) (by omega) (by omega) (by omega) (by omega) (by omega) (by omega)⟩
      have j1 := c49 a ⟨p, 1 + om⟩ h1 h2
      have j2 := c49 ⟨p, 1 + om⟩ x h4 h3
      have j3 := kn ⟨p, 1 + om⟩
      clear h1 h2 h3 h4 sa sb
      (repeat' (first | with_reducible refine splitVC_d (fun _ => ?_) (fun _ => ?_) | with_reducible refine splitVC (fun _ => ?_) (fun _ => ?_) | ((with_reducible refine And.intro ?_ ?_); focus (first | exact True.intro | (simp only [InK]; omega) | omega | (simp only [InK, ne_eq, and_true, true_and]; omega) | trivial)) | (simp -dsimp only [↓RP, RQ, implies_true, forall_const, Nat.reduceMul, reduceIte, reduceCtorEq, Nat.reduceAdd, Nat.reduceEqDiff, Nat.reduceLT, Nat.reduceLeDiff, iq, Int.reduceEq, Int.reduceNeg, RZ, eq_self, eq23, TYx, es, em, eo, ep, fsv, B, I, by2, TY, Try.results9])))
      refine callVC (c50 p (1 + om)) ?_ ?_ ?_; iterate 2 focus ((simp -dsimp only [↓RP, RQ, implies_true, forall_const, Nat.reduceMul, reduceIte, reduceCtorEq, Nat.reduceAdd, Nat.reduceEqDiff, Nat.reduceLT, Nat.reduceLeDiff, fsv, Go.Od.ints, U32, U8, I, B]); all_goals (try simp))
      (repeat' (first | with_reducible refine splitVC_d (fun _ => ?_) (fun _ => ?_) | with_reducible refine splitVC (fun _ => ?_) (fun _ => ?_) | ((with_reducible refine And.intro ?_ ?_); focus (first | exact True.intro | (simp only [InK]; omega) | omega | (simp only [InK, ne_eq, and_true, true_and]; omega) | trivial)) | (simp -dsimp only [↓RP, RQ, implies_true, forall_const, Nat.reduceMul, reduceIte, reduceCtorEq, Nat.reduceAdd, Nat.reduceEqDiff, Nat.reduceLT, Nat.reduceLeDiff, iq, Int.reduceEq, Int.reduceNeg, RZ, eq_self, eq23, TYx, es, em, eo, ep, fsv, B, I, by2, TY, Try.results9])))
      refine callVC j1 ?_ ?_ ?_; iterate 2 focus ((simp -dsimp only [↓RP, RQ, implies_true, forall_const, Nat.reduceMul, reduceIte, reduceCtorEq, Nat.reduceAdd, Nat.reduceEqDiff, Nat.reduceLT, Nat.reduceLeDiff, fsv, Go.Od.ints, U32, U8, I, B]); all_goals (try simp))
      (repeat' (first | with_reducible refine splitVC_d (fun _ => ?_) (fun _ => ?_) | with_reducible refine splitVC (fun _ => ?_) (fun _ => ?_) | ((with_reducible refine And.intro ?_ ?_); focus (first | exact True.intro | (simp only [InK]; omega) | omega | (simp only [InK, ne_eq, and_true, true_and]; omega) | trivial)) | (simp -dsimp only [↓RP, RQ, implies_true, forall_const, Nat.reduceMul, reduceIte, reduceCtorEq, Nat.reduceAdd, Nat.reduceEqDiff, Nat.reduceLT, Nat.reduceLeDiff, iq, Int.reduceEq, Int.reduceNeg, RZ, eq_self, eq23, TYx, es, em, eo, ep, fsv, B, I, by2, TY, Try.results9])))
      all_goals first | (exfalso; omega) | skip
      · refine callVC j2 ?_ ?_ ?_; iterate 2 focus ((simp -dsimp only [↓RP, RQ, implies_true, forall_const, Nat.reduceMul, reduceIte, reduceCtorEq, Nat.reduceAdd, Nat.reduceEqDiff, Nat.reduceLT, Nat.reduceLeDiff, fsv, Go.Od.ints, U32, U8, I, B]); all_goals (try simp))
        (repeat' (first | with_reducible refine splitVC_d (fun _ => ?_) (fun _ => ?_) | with_reducible refine splitVC (fun _ => ?_) (fun _ => ?_) | ((with_reducible refine And.intro ?_ ?_); focus (first | exact True.intro | (simp only [InK]; omega) | omega | (simp only [InK, ne_eq, and_true, true_and]; omega) | trivial)) | (simp -dsimp only [↓RP, RQ, implies_true, forall_const, Nat.reduceMul, reduceIte, reduceCtorEq, Nat.reduceAdd, Nat.reduceEqDiff, Nat.reduceLT, Nat.reduceLeDiff, iq, Int.reduceEq, Int.reduceNeg, RZ, eq_self, eq23, TYx, es, em, eo, ep, fsv, B, I, by2, TY, Try.results9])))
        · have := j3 (by assumption) (by assumption)
          exfalso
          have : 1 + sm < 1 + om := this
          omega
        · refine ⟨p + 1, by omega, by omega, weak [] [] ?_ ?_ ?_⟩
          all_goals ((simp -dsimp only [↓RP, RQ, implies_true, forall_const, Nat.reduceMul, reduceIte, reduceCtorEq, Nat.reduceAdd, Nat.reduceEqDiff, Nat.reduceLT, Nat.reduceLeDiff]); all_goals (try simp))
      · refine ⟨p + 1, by omega, by omega, weak [] [] ?_ ?_ ?_⟩
        all_goals ((simp -dsimp only [↓RP, RQ, implies_true, forall_const, Nat.reduceMul, reduceIte, reduceCtorEq, Nat.reduceAdd, Nat.reduceEqDiff, Nat.reduceLT, Nat.reduceLeDiff]); all_goals (try simp))
      · refine ⟨p + 1, by omega, by omega, weak [] [] ?_ ?_ ?_⟩
        all_goals ((simp -dsimp only [↓RP, RQ, implies_true, forall_const, Nat.reduceMul, reduceIte, reduceCtorEq, Nat.reduceAdd, Nat.reduceEqDiff, Nat.reduceLT, Nat.reduceLeDiff]); all_goals (try simp))
    · (repeat' (first | with_reducible refine splitVC_d (fun _ => ?_) (fun _ => ?_) | with_reducible refine splitVC (fun _ => ?_) (fun _ => ?_) | ((with_reducible refine And.intro ?_ ?_); focus (first | exact True.intro | (simp only [InK]; omega) | omega | (simp only [InK, ne_eq, and_true, true_and]; omega) | trivial)) | (simp -dsimp only [↓RP, RQ, implies_true, forall_const, Nat.reduceMul, reduceIte, reduceCtorEq, Nat.reduceAdd, Nat.reduceEqDiff, Nat.reduceLT, Nat.reduceLeDiff, iq, Int.reduceEq, Int.reduceNeg, RZ, eq_self, eq23, TYx, es, em, eo, ep, fsv, B, I, by2, TY, Try.results9])))
      all_goals first | (exfalso; omega) | skip
      by_cases hk : ckV r (1 + sm) lo hi = 0
      · have ⟨e1, e2⟩ := kc hk
        subst e1 e2
        rw [hk] at c20'
        refine callVC c20' ?_ ?_ ?_; iterate 2 focus ((simp -dsimp only [↓RP, RQ, implies_true, forall_const, Nat.reduceMul, reduceIte, reduceCtorEq, Nat.reduceAdd, Nat.reduceEqDiff, Nat.reduceLT, Nat.reduceLeDiff, fsv, Go.Od.ints, U32, U8, I, B]); all_goals (try simp))
        (repeat' (first | with_reducible refine splitVC_d (fun _ => ?_) (fun _ => ?_) | with_reducible refine splitVC (fun _ => ?_) (fun _ => ?_) | ((with_reducible refine And.intro ?_ ?_); focus (first | exact True.intro | (simp only [InK]; omega) | omega | (simp only [InK, ne_eq, and_true, true_and]; omega) | trivial)) | (simp -dsimp only [↓RP, RQ, implies_true, forall_const, Nat.reduceMul, reduceIte, reduceCtorEq, Nat.reduceAdd, Nat.reduceEqDiff, Nat.reduceLT, Nat.reduceLeDiff, iq, Int.reduceEq, Int.reduceNeg, RZ, eq_self, eq23, TYx, es, em, eo, ep, fsv, B, I, by2, TY, Try.results9])))
        refine callVC c22 ?_ ?_ ?_; iterate 2 focus ((simp -dsimp only [↓RP, RQ, implies_true, forall_const, Nat.reduceMul, reduceIte, reduceCtorEq, Nat.reduceAdd, Nat.reduceEqDiff, Nat.reduceLT, Nat.reduceLeDiff, fsv, Go.Od.ints, U32, U8, I, B]); all_goals (try simp))
        (repeat' (first | with_reducible refine splitVC_d (fun _ => ?_) (fun _ => ?_) | with_reducible refine splitVC (fun _ => ?_) (fun _ => ?_) | ((with_reducible refine And.intro ?_ ?_); focus (first | exact True.intro | (simp only [InK]; omega) | omega | (simp only [InK, ne_eq, and_true, true_and]; omega) | trivial)) | (simp -dsimp only [↓RP, RQ, implies_true, forall_const, Nat.reduceMul, reduceIte, reduceCtorEq, Nat.reduceAdd, Nat.reduceEqDiff, Nat.reduceLT, Nat.reduceLeDiff, iq, Int.reduceEq, Int.reduceNeg, RZ, eq_self, eq23, TYx, es, em, eo, ep, fsv, B, I, by2, TY, Try.results9])))
        all_goals trace_state
      · skip
        refine callVC c20' ?_ ?_ ?_; iterate 2 focus ((simp -dsimp only [↓RP, RQ, implies_true, forall_const, Nat.reduceMul, reduceIte, reduceCtorEq, Nat.reduceAdd, Nat.reduceEqDiff, Nat.reduceLT, Nat.reduceLeDiff, fsv, Go.Od.ints, U32, U8, I, B]); all_goals (try simp))
        (repeat' (first | with_reducible refine splitVC_d (fun _ => ?_) (fun _ => ?_) | with_reducible refine splitVC (fun _ => ?_) (fun _ => ?_) | ((with_reducible refine And.intro ?_ ?_); focus (first | exact True.intro | (simp only [InK]; omega) | omega | (simp only [InK, ne_eq, and_true, true_and]; omega) | trivial)) | (simp -dsimp only [↓RP, RQ, implies_true, forall_const, Nat.reduceMul, reduceIte, reduceCtorEq, Nat.reduceAdd, Nat.reduceEqDiff, Nat.reduceLT, Nat.reduceLeDiff, iq, hk, Int.reduceEq, Int.reduceNeg, RZ, eq_self, eq23, TYx, es, em, eo, ep, fsv, B, I, by2, TY, Try.results9])))
        refine callVC c22 ?_ ?_ ?_; iterate 2 focus ((simp -dsimp only [↓RP, RQ, implies_true, forall_const, Nat.reduceMul, reduceIte, reduceCtorEq, Nat.reduceAdd, Nat.reduceEqDiff, Nat.reduceLT, Nat.reduceLeDiff, fsv, Go.Od.ints, U32, U8, I, B]); all_goals (try simp))
        (repeat' (first | with_reducible refine splitVC_d (fun _ => ?_) (fun _ => ?_) | with_reducible refine splitVC (fun _ => ?_) (fun _ => ?_) | ((with_reducible refine And.intro ?_ ?_); focus (first | exact True.intro | (simp only [InK]; omega) | omega | (simp only [InK, ne_eq, and_true, true_and]; omega) | trivial)) | (simp -dsimp only [↓RP, RQ, implies_true, forall_const, Nat.reduceMul, reduceIte, reduceCtorEq, Nat.reduceAdd, Nat.reduceEqDiff, Nat.reduceLT, Nat.reduceLeDiff, iq, hk, Int.reduceEq, Int.reduceNeg, RZ, eq_self, eq23, TYx, es, em, eo, ep, fsv, B, I, by2, TY, Try.results9])))
        all_goals trace_state
end Go.Od
end
