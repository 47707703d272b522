/- A part of the proof. -/
import Derived.Test.YtnpannhbeapidaaLJ
section
set_option linter.unusedSimpArgs false
set_option linter.unusedVariables false
set_option linter.defProp false
set_option maxRecDepth 100000
set_option maxHeartbeats 16000000
namespace Go.Lg
open Go.Sx
theorem check_ok {c a d : Curve} (hc : c.Fine) (ha : Row a) (hd : Row d) (hm : a.m = d.m) (h1 : ∀ t, t ≤ a.m → d.S t ≤ a.S t) (h2 : ∀ t, t ≤ a.m → addS c a t ≤ d.S t) : checkAddV c a d = 0 := by
  have hr : rowsV a d = 0 := by
    unfold rowsV
    rw [if_pos (row_rErr ha), if_pos (row_rErr hd), if_pos hm, if_pos (show notMore a d from fun t ht => h1 t (by omega))]
  unfold checkAddV
  rw [if_pos (Curve.err_fine hc), if_pos hr, if_pos (fun t ht => h2 t (by omega))]
theorem check_lag {c a d : Curve} (hc : c.Fine) (ha : Row a) (hd : Row d) (hm : a.m = d.m) (h1 : ∀ t, t ≤ a.m → d.S t ≤ a.S t) (t : Nat) (ht : t ≤ a.m) (h2 : d.S t < addS c a t) : checkAddV c a d = 18 := by
  have hr : rowsV a d = 0 := by
    unfold rowsV
    rw [if_pos (row_rErr ha), if_pos (row_rErr hd), if_pos hm, if_pos (show notMore a d from fun t ht => h1 t (by omega))]
  unfold checkAddV
  rw [if_pos (Curve.err_fine hc), if_pos hr, if_neg (fun h => by have := h t (by omega); omega)]
theorem m38 (c a d : Curve) (x : Int) (hc : c.Fine) (ha : Row a) (hd : Row d) (h : checkAddV c a d = x) : Contract Go.Proofs.Try.prog 38 [c.sv, a.sv, d.sv] (I x) := by
  have := c38 c a d (by have := hc.m6; omega) (by have := ha.m60; omega) (by have := hd.m60; omega)
  rwa [h] at this
def difR (n : Nat) (N : Nat → Int) : Curve := ⟨n, fun j => N (j + 1) - N j⟩
theorem difR_S (n : Nat) (N : Nat → Int) (h : N 0 = 0) : (difR n N).S = N := by
  funext t
  show sumTo (fun j => N (j + 1) - N j) t = _
  rw [sum_tel, h]; omega
theorem difR_row (n : Nat) (hn : n ≤ 60) (N : Nat → Int) (h0 : N 0 = 0) (h1 : ∀ t, t < n → N t ≤ N (t + 1)) (h2 : N n ≤ 10000) : Row (difR n N) := by
  have lo : ∀ t, t ≤ n → 0 ≤ N t := fun t => by
    induction t with
    | zero => intro _; omega
    | succ t ih => intro h; have := ih (by omega); have := h1 t (by omega); omega
  have up : ∀ k t, t + k = n → N t ≤ N n := fun k => by
    induction k with
    | zero => intro t h; have : t = n := by omega
              subst this; exact Int.le_refl _
    | succ k ih => intro t h; have := ih (t + 1) (by omega); have := h1 t (by omega); omega
  refine ⟨hn, fun i hi => ?_⟩
  have hi : i < n := hi
  have a1 := h1 i hi
  have a2 := lo i (by omega)
  have a3 := up (n - (i + 1)) (i + 1) (by omega)
  exact ⟨by show 0 ≤ N (i + 1) - N i; omega, by show N (i + 1) - N i ≤ 10000; omega⟩
theorem addS_zero (c a : Curve) : addS c a 0 = 0 := rfl
theorem addS_mono1 (c a : Curve) (hc : c.Fine) (ha : Row a) (t : Nat) (ht : t < a.m) : addS c a t ≤ addS c a (t + 1) := by
  have h := thr_mono1 a (fun _ => c) ha 1 (fun _ _ => hc) t ht
  have e := fun t => thr_add a (fun _ => c) 0 t
  simp only [thrR_zero] at e
  rw [e t, e (t + 1)]
  exact h
theorem addS_le (c a : Curve) (t : Nat) : addS c a t ≤ a.S t := lzTo_le0 _ _ t t
def lessU (n : Nat) (D : Nat → Int) (k j : Nat) : Int := if j = k then D (k + 1) - D k - 1 else D (j + 1) - D j
theorem lessU_S (n : Nat) (D : Nat → Int) (h0 : D 0 = 0) (k : Nat) : ∀ t, sumTo (lessU n D k) t = if k < t then D t - 1 else D t
  | 0 => by rw [if_neg (by omega), h0]; rfl
  | t + 1 => by
    have ih := lessU_S n D h0 k t
    show sumTo (lessU n D k) t + lessU n D k t = _
    rw [ih]
    unfold lessU
    by_cases e : t = k
    · subst e; rw [if_neg (by omega), if_pos rfl, if_pos (by omega)]; omega
    · rw [if_neg e]
      by_cases h : k < t
      · rw [if_pos h, if_pos (by omega)]; omega
      · rw [if_neg h, if_neg (by omega)]; omega
theorem c11 (hw : Wk19) (c : Curve) (n : Nat) (b : Nat → Int) (hb : ∀ i, i < n → 0 ≤ b i ∧ b i ≤ 255) (p : Nat) (l : Nat → Int) (hl : ∀ i, i < p → 0 ≤ l i ∧ l i ≤ 255) (z : Nat) (hz : z ≤ 255) : Contract Go.Proofs.Try.prog 11 [c.sv, u8s n b, u8s p l, .val (.int .u8 z)] (B true) := by
  refine contract_of Go.Proofs.Try.func11 rfl (by kernel_rfl) follows (by kernel_rfl) _ _ (by rw [Go.Proofs.Try.ntmps11]; simp) (by simp only [OldL, c.old, u8s_old, and_self, and_true, true_and]; simp [Old]) ?_
  unfold B
  conv => arg 4; unfold Curve.sv ints u8s
  (repeat' (first | with_reducible refine splitVC_d (fun _ => ?_) (fun _ => ?_) | ((with_reducible refine And.intro ?_ ?_); focus (first | trivial | (simp only [InK]; omega) | omega | (simp only [InK, ne_eq, and_true, true_and]; omega))) | simp -dsimp only [↓RP, RQ0, RQ1, RQ2, RQ3, implies_true, forall_const, Nat.reduceMul, reduceIte, reduceCtorEq, Nat.reduceAdd, Nat.reduceEqDiff, Nat.reduceLT, Nat.reduceLeDiff, tup3, B, I, by2, ty5, ty51, decide_true, decide_false, Bool.not_true, Bool.not_false, eq_self, and_self, Nat.zero_add, Int.toNat_natCast, TY, Go.Proofs.Try.results11]))
  refine callVC (c51 c) (by (simp -dsimp only [↓RP, RQ0, RQ1, RQ2, RQ3, implies_true, forall_const, Nat.reduceMul, reduceIte, reduceCtorEq, Nat.reduceAdd, Nat.reduceEqDiff, Nat.reduceLT, Nat.reduceLeDiff, Curve.sv, ints, I, B]); all_goals (try simp)) (by (simp -dsimp only [↓RP, RQ0, RQ1, RQ2, RQ3, implies_true, forall_const, Nat.reduceMul, reduceIte, reduceCtorEq, Nat.reduceAdd, Nat.reduceEqDiff, Nat.reduceLT, Nat.reduceLeDiff, B])) ?_
  (repeat' (first | with_reducible refine splitVC_d (fun _ => ?_) (fun _ => ?_) | ((with_reducible refine And.intro ?_ ?_); focus (first | trivial | (simp only [InK]; omega) | omega | (simp only [InK, ne_eq, and_true, true_and]; omega))) | simp -dsimp only [↓RP, RQ0, RQ1, RQ2, RQ3, implies_true, forall_const, Nat.reduceMul, reduceIte, reduceCtorEq, Nat.reduceAdd, Nat.reduceEqDiff, Nat.reduceLT, Nat.reduceLeDiff, tup3, B, I, by2, ty5, ty51, decide_true, decide_false, Bool.not_true, Bool.not_false, eq_self, and_self, Nat.zero_add, Int.toNat_natCast, TY, Go.Proofs.Try.results11]))
  all_goals first | (refine callVC hw (by (simp -dsimp only [↓RP, RQ0, RQ1, RQ2, RQ3, implies_true, forall_const, Nat.reduceMul, reduceIte, reduceCtorEq, Nat.reduceAdd, Nat.reduceEqDiff, Nat.reduceLT, Nat.reduceLeDiff])) (by (simp -dsimp only [↓RP, RQ0, RQ1, RQ2, RQ3, implies_true, forall_const, Nat.reduceMul, reduceIte, reduceCtorEq, Nat.reduceAdd, Nat.reduceEqDiff, Nat.reduceLT, Nat.reduceLeDiff, B])) ?_; (repeat' (first | with_reducible refine splitVC_d (fun _ => ?_) (fun _ => ?_) | ((with_reducible refine And.intro ?_ ?_); focus (first | trivial | (simp only [InK]; omega) | omega | (simp only [InK, ne_eq, and_true, true_and]; omega))) | simp -dsimp only [↓RP, RQ0, RQ1, RQ2, RQ3, implies_true, forall_const, Nat.reduceMul, reduceIte, reduceCtorEq, Nat.reduceAdd, Nat.reduceEqDiff, Nat.reduceLT, Nat.reduceLeDiff, tup3, B, I, by2, ty5, ty51, decide_true, decide_false, Bool.not_true, Bool.not_false, eq_self, and_self, Nat.zero_add, Int.toNat_natCast, TY, Go.Proofs.Try.results11])); done) | skip
  rename_i h1 h2 h3
  have hc := Curve.fine h1
  have n20 : n ≤ 20 := by omega
  have p20 : p ≤ 20 := by omega
  refine loop_vc (fun (i : Nat) => i ≤ n) (fun i => ⟨[(0, .arr false false c.m 1 (fun i _ => .val (.int .i64 (c.u i)))), (1, .arr false false n 1 (fun i _ => .val (.int .u8 (b i)))), (2, .arr false false p 1 (fun i _ => .val (.int .u8 (l i)))), (3, .val (.int .u8 z)), (9, .vec 60 i 1), (10, .val (.int .i64 i))], [(60, .rows 2 1 i (fun j _ => .val (.int .i64 (b j))))], 61⟩) (fun i => n - i) 0 (Nat.zero_le _) (weak [(60, none)] [] ?_ ?_ ?_) fun i hi => ?_
  · (simp -dsimp only [↓RP, RQ0, RQ1, RQ2, RQ3, implies_true, forall_const, Nat.reduceMul, reduceIte, reduceCtorEq, Nat.reduceAdd, Nat.reduceEqDiff, Nat.reduceLT, Nat.reduceLeDiff]); all_goals simp
  · (simp -dsimp only [↓RP, RQ0, RQ1, RQ2, RQ3, implies_true, forall_const, Nat.reduceMul, reduceIte, reduceCtorEq, Nat.reduceAdd, Nat.reduceEqDiff, Nat.reduceLT, Nat.reduceLeDiff]); all_goals (try simp)
  · (simp -dsimp only [↓RP, RQ0, RQ1, RQ2, RQ3, implies_true, forall_const, Nat.reduceMul, reduceIte, reduceCtorEq, Nat.reduceAdd, Nat.reduceEqDiff, Nat.reduceLT, Nat.reduceLeDiff]); all_goals simp
  by_cases hlt : i < n
  · have b0 := hb i hlt
    (repeat' (first | with_reducible refine splitVC_d (fun _ => ?_) (fun _ => ?_) | ((with_reducible refine And.intro ?_ ?_); focus (first | trivial | (simp only [InK]; omega) | omega | (simp only [InK, ne_eq, and_true, true_and]; omega))) | simp -dsimp only [↓RP, RQ0, RQ1, RQ2, RQ3, implies_true, forall_const, Nat.reduceMul, reduceIte, reduceCtorEq, Nat.reduceAdd, Nat.reduceEqDiff, Nat.reduceLT, Nat.reduceLeDiff, tup3, B, I, by2, ty5, ty51, decide_true, decide_false, Bool.not_true, Bool.not_false, eq_self, and_self, Nat.zero_add, Int.toNat_natCast, TY, Go.Proofs.Try.results11]))
    all_goals first | (exfalso; omega) | skip
    refine ⟨⟨by simp, Nat.le_refl _, fun a b ha hb => by rw [lit1 _ a b ha hb]; rfl, by omega⟩, by (first | trivial | (simp only [InK]; omega) | omega | (simp only [InK, ne_eq, and_true, true_and]; omega)), i + 1, by omega, by omega, weak [(60, some 72)] [] ?_ ?_ ?_⟩
    · (simp -dsimp only [↓RP, RQ0, RQ1, RQ2, RQ3, implies_true, forall_const, Nat.reduceMul, reduceIte, reduceCtorEq, Nat.reduceAdd, Nat.reduceEqDiff, Nat.reduceLT, Nat.reduceLeDiff]); all_goals simp
    · (simp -dsimp only [↓RP, RQ0, RQ1, RQ2, RQ3, implies_true, forall_const, Nat.reduceMul, reduceIte, reduceCtorEq, Nat.reduceAdd, Nat.reduceEqDiff, Nat.reduceLT, Nat.reduceLeDiff]); all_goals (try simp)
      exact fun a h1 h2 => app2 (fun j => .val (.int .i64 (b j))) i a h1 h2
    · (simp -dsimp only [↓RP, RQ0, RQ1, RQ2, RQ3, implies_true, forall_const, Nat.reduceMul, reduceIte, reduceCtorEq, Nat.reduceAdd, Nat.reduceEqDiff, Nat.reduceLT, Nat.reduceLeDiff]); all_goals simp
  have hin : i = n := by omega
  subst hin
  have ra : Row ⟨i, b⟩ := ⟨by show i ≤ 60; omega, fun j hj => by have := hb j hj; show 0 ≤ b j ∧ b j ≤ 10000; omega⟩
  have sb : (Curve.mk i b).S i ≤ 10000 := by
    have := sumTo_bound b 255 i hb i (Nat.le_refl _)
    show sumTo b i ≤ 10000; omega
  have N0 : c.NA ⟨i, b⟩ p l 0 = 0 := rfl
  have Nf := NA_facts c ⟨i, b⟩ hc ra.rg p l hl
  have Nu := NA_up c ⟨i, b⟩ hc ra.rg p l hl
  have k49 := c49 c ⟨i, b⟩ hc ra.m60 ra.rg p (by omega) l hl
  have k34 := c34 c ⟨i, b⟩ hc ra
  have D0 := addS_zero c ⟨i, b⟩
  have Du := addS_mono1 c ⟨i, b⟩ hc ra
  have Dl := addS_le c ⟨i, b⟩
  have Df : ∀ t, lz (sumTo b) c.L1 t = addS c ⟨i, b⟩ t := fun t => rfl
  have Nf : ∀ t, t ≤ i → addS c ⟨i, b⟩ t ≤ c.NA ⟨i, b⟩ p l t ∧ c.NA ⟨i, b⟩ p l t ≤ (Curve.mk i b).S t := Nf
  have ca := check_ok hc ra ra rfl (fun t _ => Int.le_refl _) (fun t _ => Dl t)
  have hck := fun d hd hm h1 h2 => check_ok (c := c) (a := ⟨i, b⟩) (d := d) hc ra hd hm h1 h2
  have hcl := fun d hd hm h1 t ht h2 => check_lag (c := c) (a := ⟨i, b⟩) (d := d) hc ra hd hm h1 t ht h2
  clear Df
  generalize c.NA ⟨i, b⟩ p l = N at *
  generalize addS c ⟨i, b⟩ = D at *
  have Ni := Nf i (Nat.le_refl _)
  have rN : Row (difR i N) := difR_row i (by omega) N N0 Nu (by omega)
  have rD : Row (difR i D) := difR_row i (by omega) D D0 Du (by have := Dl i; omega)
  have SN := difR_S i N N0
  have SD := difR_S i D D0
  have cN := hck (difR i N) rN rfl (fun t ht => by rw [SN]; exact (Nf t ht).2) (fun t ht => by rw [SN]; exact (Nf t ht).1)
  have cD := hck (difR i D) rD rfl (fun t ht => by rw [SD]; exact Dl t) (fun t ht => by rw [SD]; exact Int.le_refl _)
  have S1 := m52 _ rD
  have S2 := m52 _ rN
  rw [SD] at S1
  rw [SN] at S2
  (repeat' (first | with_reducible refine splitVC_d (fun _ => ?_) (fun _ => ?_) | ((with_reducible refine And.intro ?_ ?_); focus (first | trivial | (simp only [InK]; omega) | omega | (simp only [InK, ne_eq, and_true, true_and]; omega))) | simp -dsimp only [↓RP, RQ0, RQ1, RQ2, RQ3, implies_true, forall_const, Nat.reduceMul, reduceIte, reduceCtorEq, Nat.reduceAdd, Nat.reduceEqDiff, Nat.reduceLT, Nat.reduceLeDiff, tup3, B, I, by2, ty5, ty51, decide_true, decide_false, Bool.not_true, Bool.not_false, eq_self, and_self, Nat.zero_add, Int.toNat_natCast, TY, Go.Proofs.Try.results11]))
  all_goals first | (exfalso; omega) | skip
  refine callN k49 (by (simp -dsimp only [↓RP, RQ0, RQ1, RQ2, RQ3, implies_true, forall_const, Nat.reduceMul, reduceIte, reduceCtorEq, Nat.reduceAdd, Nat.reduceEqDiff, Nat.reduceLT, Nat.reduceLeDiff, Curve.sv, ints, u8s, I, B]); all_goals (try simp)) (by (simp -dsimp only [↓RP, RQ0, RQ1, RQ2, RQ3, implies_true, forall_const, Nat.reduceMul, reduceIte, reduceCtorEq, Nat.reduceAdd, Nat.reduceEqDiff, Nat.reduceLT, Nat.reduceLeDiff, I]); all_goals simp) (by (simp -dsimp only [↓RP, RQ0, RQ1, RQ2, RQ3, implies_true, forall_const, Nat.reduceMul, reduceIte, reduceCtorEq, Nat.reduceAdd, Nat.reduceEqDiff, Nat.reduceLT, Nat.reduceLeDiff, I]); all_goals simp) ?_
  (repeat' (first | with_reducible refine splitVC_d (fun _ => ?_) (fun _ => ?_) | ((with_reducible refine And.intro ?_ ?_); focus (first | trivial | (simp only [InK]; omega) | omega | (simp only [InK, ne_eq, and_true, true_and]; omega))) | simp -dsimp only [↓RP, RQ0, RQ1, RQ2, RQ3, implies_true, forall_const, Nat.reduceMul, reduceIte, reduceCtorEq, Nat.reduceAdd, Nat.reduceEqDiff, Nat.reduceLT, Nat.reduceLeDiff, tup3, B, I, by2, ty5, ty51, decide_true, decide_false, Bool.not_true, Bool.not_false, eq_self, and_self, Nat.zero_add, Int.toNat_natCast, TY, Go.Proofs.Try.results11]))
  refine callN k34 (by (simp -dsimp only [↓RP, RQ0, RQ1, RQ2, RQ3, implies_true, forall_const, Nat.reduceMul, reduceIte, reduceCtorEq, Nat.reduceAdd, Nat.reduceEqDiff, Nat.reduceLT, Nat.reduceLeDiff, Curve.sv, ints, I, B]); all_goals (try simp)) (by (simp -dsimp only [↓RP, RQ0, RQ1, RQ2, RQ3, implies_true, forall_const, Nat.reduceMul, reduceIte, reduceCtorEq, Nat.reduceAdd, Nat.reduceEqDiff, Nat.reduceLT, Nat.reduceLeDiff, I]); all_goals simp) (by (simp -dsimp only [↓RP, RQ0, RQ1, RQ2, RQ3, implies_true, forall_const, Nat.reduceMul, reduceIte, reduceCtorEq, Nat.reduceAdd, Nat.reduceEqDiff, Nat.reduceLT, Nat.reduceLeDiff, I]); all_goals simp) ?_
  (repeat' (first | with_reducible refine splitVC_d (fun _ => ?_) (fun _ => ?_) | ((with_reducible refine And.intro ?_ ?_); focus (first | trivial | (simp only [InK]; omega) | omega | (simp only [InK, ne_eq, and_true, true_and]; omega))) | simp -dsimp only [↓RP, RQ0, RQ1, RQ2, RQ3, implies_true, forall_const, Nat.reduceMul, reduceIte, reduceCtorEq, Nat.reduceAdd, Nat.reduceEqDiff, Nat.reduceLT, Nat.reduceLeDiff, tup3, B, I, by2, ty5, ty51, decide_true, decide_false, Bool.not_true, Bool.not_false, eq_self, and_self, Nat.zero_add, Int.toNat_natCast, TY, Go.Proofs.Try.results11]))
  refine callVC (m38 c _ _ 0 hc ra rN cN) (by (simp -dsimp only [↓RP, RQ0, RQ1, RQ2, RQ3, implies_true, forall_const, Nat.reduceMul, reduceIte, reduceCtorEq, Nat.reduceAdd, Nat.reduceEqDiff, Nat.reduceLT, Nat.reduceLeDiff, difR, Curve.sv, ints, I, B]); all_goals (try simp)) (by (simp -dsimp only [↓RP, RQ0, RQ1, RQ2, RQ3, implies_true, forall_const, Nat.reduceMul, reduceIte, reduceCtorEq, Nat.reduceAdd, Nat.reduceEqDiff, Nat.reduceLT, Nat.reduceLeDiff, I])) ?_
  (repeat' (first | with_reducible refine splitVC_d (fun _ => ?_) (fun _ => ?_) | ((with_reducible refine And.intro ?_ ?_); focus (first | trivial | (simp only [InK]; omega) | omega | (simp only [InK, ne_eq, and_true, true_and]; omega))) | simp -dsimp only [↓RP, RQ0, RQ1, RQ2, RQ3, implies_true, forall_const, Nat.reduceMul, reduceIte, reduceCtorEq, Nat.reduceAdd, Nat.reduceEqDiff, Nat.reduceLT, Nat.reduceLeDiff, tup3, B, I, by2, ty5, ty51, decide_true, decide_false, Bool.not_true, Bool.not_false, eq_self, and_self, Nat.zero_add, Int.toNat_natCast, TY, Go.Proofs.Try.results11]))
  refine callVC (m38 c _ _ 0 hc ra rD cD) (by (simp -dsimp only [↓RP, RQ0, RQ1, RQ2, RQ3, implies_true, forall_const, Nat.reduceMul, reduceIte, reduceCtorEq, Nat.reduceAdd, Nat.reduceEqDiff, Nat.reduceLT, Nat.reduceLeDiff, difR, Curve.sv, ints, I, B]); all_goals (try simp)) (by (simp -dsimp only [↓RP, RQ0, RQ1, RQ2, RQ3, implies_true, forall_const, Nat.reduceMul, reduceIte, reduceCtorEq, Nat.reduceAdd, Nat.reduceEqDiff, Nat.reduceLT, Nat.reduceLeDiff, I])) ?_
  (repeat' (first | with_reducible refine splitVC_d (fun _ => ?_) (fun _ => ?_) | ((with_reducible refine And.intro ?_ ?_); focus (first | trivial | (simp only [InK]; omega) | omega | (simp only [InK, ne_eq, and_true, true_and]; omega))) | simp -dsimp only [↓RP, RQ0, RQ1, RQ2, RQ3, implies_true, forall_const, Nat.reduceMul, reduceIte, reduceCtorEq, Nat.reduceAdd, Nat.reduceEqDiff, Nat.reduceLT, Nat.reduceLeDiff, tup3, B, I, by2, ty5, ty51, decide_true, decide_false, Bool.not_true, Bool.not_false, eq_self, and_self, Nat.zero_add, Int.toNat_natCast, TY, Go.Proofs.Try.results11]))
  refine callVC (m38 c _ _ 0 hc ra ra ca) (by (simp -dsimp only [↓RP, RQ0, RQ1, RQ2, RQ3, implies_true, forall_const, Nat.reduceMul, reduceIte, reduceCtorEq, Nat.reduceAdd, Nat.reduceEqDiff, Nat.reduceLT, Nat.reduceLeDiff, difR, Curve.sv, ints, I, B]); all_goals (try simp)) (by (simp -dsimp only [↓RP, RQ0, RQ1, RQ2, RQ3, implies_true, forall_const, Nat.reduceMul, reduceIte, reduceCtorEq, Nat.reduceAdd, Nat.reduceEqDiff, Nat.reduceLT, Nat.reduceLeDiff, I])) ?_
  (repeat' (first | with_reducible refine splitVC_d (fun _ => ?_) (fun _ => ?_) | ((with_reducible refine And.intro ?_ ?_); focus (first | trivial | (simp only [InK]; omega) | omega | (simp only [InK, ne_eq, and_true, true_and]; omega))) | simp -dsimp only [↓RP, RQ0, RQ1, RQ2, RQ3, implies_true, forall_const, Nat.reduceMul, reduceIte, reduceCtorEq, Nat.reduceAdd, Nat.reduceEqDiff, Nat.reduceLT, Nat.reduceLeDiff, tup3, B, I, by2, ty5, ty51, decide_true, decide_false, Bool.not_true, Bool.not_false, eq_self, and_self, Nat.zero_add, Int.toNat_natCast, TY, Go.Proofs.Try.results11]))
  refine callN S1 (by (simp -dsimp only [↓RP, RQ0, RQ1, RQ2, RQ3, implies_true, forall_const, Nat.reduceMul, reduceIte, reduceCtorEq, Nat.reduceAdd, Nat.reduceEqDiff, Nat.reduceLT, Nat.reduceLeDiff, difR, Curve.sv, ints, I, B]); all_goals (try simp)) (by (simp -dsimp only [↓RP, RQ0, RQ1, RQ2, RQ3, implies_true, forall_const, Nat.reduceMul, reduceIte, reduceCtorEq, Nat.reduceAdd, Nat.reduceEqDiff, Nat.reduceLT, Nat.reduceLeDiff, I]); all_goals simp) (by (simp -dsimp only [↓RP, RQ0, RQ1, RQ2, RQ3, implies_true, forall_const, Nat.reduceMul, reduceIte, reduceCtorEq, Nat.reduceAdd, Nat.reduceEqDiff, Nat.reduceLT, Nat.reduceLeDiff, I]); all_goals simp) ?_
  (repeat' (first | with_reducible refine splitVC_d (fun _ => ?_) (fun _ => ?_) | ((with_reducible refine And.intro ?_ ?_); focus (first | trivial | (simp only [InK]; omega) | omega | (simp only [InK, ne_eq, and_true, true_and]; omega))) | simp -dsimp only [↓RP, RQ0, RQ1, RQ2, RQ3, implies_true, forall_const, Nat.reduceMul, reduceIte, reduceCtorEq, Nat.reduceAdd, Nat.reduceEqDiff, Nat.reduceLT, Nat.reduceLeDiff, difR, tup3, B, I, by2, ty5, ty51, decide_true, decide_false, Bool.not_true, Bool.not_false, eq_self, and_self, Nat.zero_add, Int.toNat_natCast, TY, Go.Proofs.Try.results11]))
  refine callN S2 (by (simp -dsimp only [↓RP, RQ0, RQ1, RQ2, RQ3, implies_true, forall_const, Nat.reduceMul, reduceIte, reduceCtorEq, Nat.reduceAdd, Nat.reduceEqDiff, Nat.reduceLT, Nat.reduceLeDiff, difR, Curve.sv, ints, I, B]); all_goals (try simp)) (by (simp -dsimp only [↓RP, RQ0, RQ1, RQ2, RQ3, implies_true, forall_const, Nat.reduceMul, reduceIte, reduceCtorEq, Nat.reduceAdd, Nat.reduceEqDiff, Nat.reduceLT, Nat.reduceLeDiff, I]); all_goals simp) (by (simp -dsimp only [↓RP, RQ0, RQ1, RQ2, RQ3, implies_true, forall_const, Nat.reduceMul, reduceIte, reduceCtorEq, Nat.reduceAdd, Nat.reduceEqDiff, Nat.reduceLT, Nat.reduceLeDiff, I]); all_goals simp) ?_
  (repeat' (first | with_reducible refine splitVC_d (fun _ => ?_) (fun _ => ?_) | ((with_reducible refine And.intro ?_ ?_); focus (first | trivial | (simp only [InK]; omega) | omega | (simp only [InK, ne_eq, and_true, true_and]; omega))) | simp -dsimp only [↓RP, RQ0, RQ1, RQ2, RQ3, implies_true, forall_const, Nat.reduceMul, reduceIte, reduceCtorEq, Nat.reduceAdd, Nat.reduceEqDiff, Nat.reduceLT, Nat.reduceLeDiff, difR, tup3, B, I, by2, ty5, ty51, decide_true, decide_false, Bool.not_true, Bool.not_false, eq_self, and_self, Nat.zero_add, Int.toNat_natCast, TY, Go.Proofs.Try.results11]))
  refine loop_vc (fun (t : Nat) => t ≤ i + 1) (fun t => ⟨[(0, .arr false false c.m 1 (fun i _ => .val (.int .i64 (c.u i)))), (3, .val (.int .u8 z)), (9, .vec 60 i 1), (12, .vec 63 i 1), (14, .vec 61 (i + 1) 1), (15, .vec 62 (i + 1) 1), (16, .val (.int .i64 t))], [(60, .rows 2 1 i (fun j _ => .val (.int .i64 (b j)))), (61, .rows 2 1 (i + 1) (fun j _ => .val (.int .i64 (D j)))), (62, .rows 2 1 (i + 1) (fun j _ => .val (.int .i64 (N j)))), (63, .rows 2 1 i (fun j _ => .val (.int .i64 (D (j + 1) - D j))))], 64⟩) (fun t => i + 1 - t) 0 (Nat.zero_le _) (weak [(60, some 60), (61, some 109), (62, some 111), (63, some 72)] [] ?_ ?_ ?_) fun t ht => ?_
  · (simp -dsimp only [↓RP, RQ0, RQ1, RQ2, RQ3, implies_true, forall_const, Nat.reduceMul, reduceIte, reduceCtorEq, Nat.reduceAdd, Nat.reduceEqDiff, Nat.reduceLT, Nat.reduceLeDiff]); all_goals (try simp)
  · (simp -dsimp only [↓RP, RQ0, RQ1, RQ2, RQ3, implies_true, forall_const, Nat.reduceMul, reduceIte, reduceCtorEq, Nat.reduceAdd, Nat.reduceEqDiff, Nat.reduceLT, Nat.reduceLeDiff]); all_goals (try simp)
  · (simp -dsimp only [↓RP, RQ0, RQ1, RQ2, RQ3, implies_true, forall_const, Nat.reduceMul, reduceIte, reduceCtorEq, Nat.reduceAdd, Nat.reduceEqDiff, Nat.reduceLT, Nat.reduceLeDiff]); all_goals simp
  by_cases hl2 : t < i + 1
  · have f1 := (Nf t (by omega)).1
    (repeat' (first | with_reducible refine splitVC_d (fun _ => ?_) (fun _ => ?_) | ((with_reducible refine And.intro ?_ ?_); focus (first | trivial | (simp only [InK]; omega) | omega | (simp only [InK, ne_eq, and_true, true_and]; omega))) | simp -dsimp only [↓RP, RQ0, RQ1, RQ2, RQ3, implies_true, forall_const, Nat.reduceMul, reduceIte, reduceCtorEq, Nat.reduceAdd, Nat.reduceEqDiff, Nat.reduceLT, Nat.reduceLeDiff, tup3, B, I, by2, ty5, ty51, decide_true, decide_false, Bool.not_true, Bool.not_false, eq_self, and_self, Nat.zero_add, Int.toNat_natCast, TY, Go.Proofs.Try.results11]))
    all_goals first | (exfalso; omega) | skip
    refine ⟨t + 1, by omega, by omega, weak [] [] ?_ ?_ ?_⟩
    · (simp -dsimp only [↓RP, RQ0, RQ1, RQ2, RQ3, implies_true, forall_const, Nat.reduceMul, reduceIte, reduceCtorEq, Nat.reduceAdd, Nat.reduceEqDiff, Nat.reduceLT, Nat.reduceLeDiff]); all_goals (try simp)
    · (simp -dsimp only [↓RP, RQ0, RQ1, RQ2, RQ3, implies_true, forall_const, Nat.reduceMul, reduceIte, reduceCtorEq, Nat.reduceAdd, Nat.reduceEqDiff, Nat.reduceLT, Nat.reduceLeDiff]); all_goals (try simp)
    · (simp -dsimp only [↓RP, RQ0, RQ1, RQ2, RQ3, implies_true, forall_const, Nat.reduceMul, reduceIte, reduceCtorEq, Nat.reduceAdd, Nat.reduceEqDiff, Nat.reduceLT, Nat.reduceLeDiff]); all_goals simp
  have hin2 : t = i + 1 := by omega
  subst hin2
  by_cases h0 : i = 0
  · subst h0
    (repeat' (first | with_reducible refine splitVC_d (fun _ => ?_) (fun _ => ?_) | ((with_reducible refine And.intro ?_ ?_); focus (first | trivial | (simp only [InK]; omega) | omega | (simp only [InK, ne_eq, and_true, true_and]; omega))) | simp -dsimp only [↓RP, RQ0, RQ1, RQ2, RQ3, implies_true, forall_const, Nat.reduceMul, reduceIte, reduceCtorEq, Nat.reduceAdd, Nat.reduceEqDiff, Nat.reduceLT, Nat.reduceLeDiff, tup3, B, I, by2, ty5, ty51, decide_true, decide_false, Bool.not_true, Bool.not_false, eq_self, and_self, Nat.zero_add, Int.toNat_natCast, TY, Go.Proofs.Try.results11]))
    all_goals first | (exfalso; omega) | skip
    refine callVC hw (by (simp -dsimp only [↓RP, RQ0, RQ1, RQ2, RQ3, implies_true, forall_const, Nat.reduceMul, reduceIte, reduceCtorEq, Nat.reduceAdd, Nat.reduceEqDiff, Nat.reduceLT, Nat.reduceLeDiff])) (by (simp -dsimp only [↓RP, RQ0, RQ1, RQ2, RQ3, implies_true, forall_const, Nat.reduceMul, reduceIte, reduceCtorEq, Nat.reduceAdd, Nat.reduceEqDiff, Nat.reduceLT, Nat.reduceLeDiff, B])) ?_
    (repeat' (first | with_reducible refine splitVC_d (fun _ => ?_) (fun _ => ?_) | ((with_reducible refine And.intro ?_ ?_); focus (first | trivial | (simp only [InK]; omega) | omega | (simp only [InK, ne_eq, and_true, true_and]; omega))) | simp -dsimp only [↓RP, RQ0, RQ1, RQ2, RQ3, implies_true, forall_const, Nat.reduceMul, reduceIte, reduceCtorEq, Nat.reduceAdd, Nat.reduceEqDiff, Nat.reduceLT, Nat.reduceLeDiff, tup3, B, I, by2, ty5, ty51, decide_true, decide_false, Bool.not_true, Bool.not_false, eq_self, and_self, Nat.zero_add, Int.toNat_natCast, TY, Go.Proofs.Try.results11]))
  have hm := tmN z i
  have hml := Nat.mod_lt z (show 0 < i by omega)
  generalize z % i = k at *
  have d0 := rD.rg k hml
  have d1 : 0 ≤ D (k + 1) - D k ∧ D (k + 1) - D k ≤ 10000 := d0
  by_cases hk : D (k + 1) - D k = 0
  · (repeat' (first | with_reducible refine splitVC_d (fun _ => ?_) (fun _ => ?_) | ((with_reducible refine And.intro ?_ ?_); focus (first | trivial | (simp only [InK]; omega) | omega | (simp only [InK, ne_eq, and_true, true_and]; omega))) | simp -dsimp only [↓RP, RQ0, RQ1, RQ2, RQ3, implies_true, forall_const, Nat.reduceMul, reduceIte, reduceCtorEq, Nat.reduceAdd, Nat.reduceEqDiff, Nat.reduceLT, Nat.reduceLeDiff, hm, hk, tup3, B, I, by2, ty5, ty51, decide_true, decide_false, Bool.not_true, Bool.not_false, eq_self, and_self, Nat.zero_add, Int.toNat_natCast, TY, Go.Proofs.Try.results11]))
    all_goals first | (exfalso; omega) | skip
    refine callVC hw (by (simp -dsimp only [↓RP, RQ0, RQ1, RQ2, RQ3, implies_true, forall_const, Nat.reduceMul, reduceIte, reduceCtorEq, Nat.reduceAdd, Nat.reduceEqDiff, Nat.reduceLT, Nat.reduceLeDiff])) (by (simp -dsimp only [↓RP, RQ0, RQ1, RQ2, RQ3, implies_true, forall_const, Nat.reduceMul, reduceIte, reduceCtorEq, Nat.reduceAdd, Nat.reduceEqDiff, Nat.reduceLT, Nat.reduceLeDiff, B])) ?_
    (repeat' (first | with_reducible refine splitVC_d (fun _ => ?_) (fun _ => ?_) | ((with_reducible refine And.intro ?_ ?_); focus (first | trivial | (simp only [InK]; omega) | omega | (simp only [InK, ne_eq, and_true, true_and]; omega))) | simp -dsimp only [↓RP, RQ0, RQ1, RQ2, RQ3, implies_true, forall_const, Nat.reduceMul, reduceIte, reduceCtorEq, Nat.reduceAdd, Nat.reduceEqDiff, Nat.reduceLT, Nat.reduceLeDiff, tup3, B, I, by2, ty5, ty51, decide_true, decide_false, Bool.not_true, Bool.not_false, eq_self, and_self, Nat.zero_add, Int.toNat_natCast, TY, Go.Proofs.Try.results11]))
  · have SW : (Curve.mk i (lessU i D k)).S = fun t => if k < t then D t - 1 else D t := by
      funext t
      exact lessU_S i D D0 k t
    have rW : Row ⟨i, lessU i D k⟩ := ⟨by show i ≤ 60; omega, fun j hj => by
      have h5 : 0 ≤ D (j + 1) - D j ∧ D (j + 1) - D j ≤ 10000 := rD.rg j hj
      show 0 ≤ lessU i D k j ∧ lessU i D k j ≤ 10000
      unfold lessU
      split
      · omega
      · exact h5⟩
    have cW := hcl ⟨i, lessU i D k⟩ rW rfl (fun t ht => by
      rw [SW]
      have := Dl t
      show (if k < t then D t - 1 else D t) ≤ _
      split <;> omega) (k + 1) (by show k + 1 ≤ i; omega) (by
      rw [SW]
      show (if k < k + 1 then D (k + 1) - 1 else D (k + 1)) < _
      rw [if_pos (by omega)]; omega)
    (repeat' (first | with_reducible refine splitVC_d (fun _ => ?_) (fun _ => ?_) | ((with_reducible refine And.intro ?_ ?_); focus (first | trivial | (simp only [InK]; omega) | omega | (simp only [InK, ne_eq, and_true, true_and]; omega))) | simp -dsimp only [↓RP, RQ0, RQ1, RQ2, RQ3, implies_true, forall_const, Nat.reduceMul, reduceIte, reduceCtorEq, Nat.reduceAdd, Nat.reduceEqDiff, Nat.reduceLT, Nat.reduceLeDiff, hm, tup3, B, I, by2, ty5, ty51, decide_true, decide_false, Bool.not_true, Bool.not_false, eq_self, and_self, Nat.zero_add, Int.toNat_natCast, TY, Go.Proofs.Try.results11]))
    all_goals first | (exfalso; omega) | skip
    refine ⟨⟨Nat.le_refl _, .inr trivial, by omega⟩, ⟨by omega, by omega⟩, hml, ?_⟩
    (repeat' (first | with_reducible refine splitVC_d (fun _ => ?_) (fun _ => ?_) | ((with_reducible refine And.intro ?_ ?_); focus (first | trivial | (simp only [InK]; omega) | omega | (simp only [InK, ne_eq, and_true, true_and]; omega))) | simp -dsimp only [↓RP, RQ0, RQ1, RQ2, RQ3, implies_true, forall_const, Nat.reduceMul, reduceIte, reduceCtorEq, Nat.reduceAdd, Nat.reduceEqDiff, Nat.reduceLT, Nat.reduceLeDiff, hm, Nat.not_lt_zero, Nat.sub_zero, if_false, tup3, B, I, by2, ty5, ty51, decide_true, decide_false, Bool.not_true, Bool.not_false, eq_self, and_self, Nat.zero_add, Int.toNat_natCast, TY, Go.Proofs.Try.results11]))
    all_goals first | (exfalso; omega) | skip
    refine callVC (m38 c _ _ 18 hc ra rW cW) ?_ (by (simp -dsimp only [↓RP, RQ0, RQ1, RQ2, RQ3, implies_true, forall_const, Nat.reduceMul, reduceIte, reduceCtorEq, Nat.reduceAdd, Nat.reduceEqDiff, Nat.reduceLT, Nat.reduceLeDiff, I])) ?_
    · (simp -dsimp only [↓RP, RQ0, RQ1, RQ2, RQ3, implies_true, forall_const, Nat.reduceMul, reduceIte, reduceCtorEq, Nat.reduceAdd, Nat.reduceEqDiff, Nat.reduceLT, Nat.reduceLeDiff, Curve.sv, ints, I, B])
      all_goals (try simp)
      all_goals (intro a ha; unfold lessU; by_cases e : a = k <;> simp [e])
    (repeat' (first | with_reducible refine splitVC_d (fun _ => ?_) (fun _ => ?_) | ((with_reducible refine And.intro ?_ ?_); focus (first | trivial | (simp only [InK]; omega) | omega | (simp only [InK, ne_eq, and_true, true_and]; omega))) | simp -dsimp only [↓RP, RQ0, RQ1, RQ2, RQ3, implies_true, forall_const, Nat.reduceMul, reduceIte, reduceCtorEq, Nat.reduceAdd, Nat.reduceEqDiff, Nat.reduceLT, Nat.reduceLeDiff, tup3, B, I, by2, ty5, ty51, decide_true, decide_false, Bool.not_true, Bool.not_false, eq_self, and_self, Nat.zero_add, Int.toNat_natCast, TY, Go.Proofs.Try.results11]))
    refine callVC hw (by (simp -dsimp only [↓RP, RQ0, RQ1, RQ2, RQ3, implies_true, forall_const, Nat.reduceMul, reduceIte, reduceCtorEq, Nat.reduceAdd, Nat.reduceEqDiff, Nat.reduceLT, Nat.reduceLeDiff])) (by (simp -dsimp only [↓RP, RQ0, RQ1, RQ2, RQ3, implies_true, forall_const, Nat.reduceMul, reduceIte, reduceCtorEq, Nat.reduceAdd, Nat.reduceEqDiff, Nat.reduceLT, Nat.reduceLeDiff, B])) ?_
    (repeat' (first | with_reducible refine splitVC_d (fun _ => ?_) (fun _ => ?_) | ((with_reducible refine And.intro ?_ ?_); focus (first | trivial | (simp only [InK]; omega) | omega | (simp only [InK, ne_eq, and_true, true_and]; omega))) | simp -dsimp only [↓RP, RQ0, RQ1, RQ2, RQ3, implies_true, forall_const, Nat.reduceMul, reduceIte, reduceCtorEq, Nat.reduceAdd, Nat.reduceEqDiff, Nat.reduceLT, Nat.reduceLeDiff, tup3, B, I, by2, ty5, ty51, decide_true, decide_false, Bool.not_true, Bool.not_false, eq_self, and_self, Nat.zero_add, Int.toNat_natCast, TY, Go.Proofs.Try.results11]))
end Go.Lg
end
